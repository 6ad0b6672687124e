/-
  BlocksReads, part 19 of its proof: that it returns true for every input, and each argument reads behind the call as it read before. Conditions: the listed variables read as the program's text lays them (tied by the card).
-/
import Derived.Test.YtnlonpcbgjbbaaaGreatDoorWBlocksReads18
import Derived.Test.YtnlonpcbgjbbaaaGreatDoorWBlocksReads12
set_option linter.unusedVariables false
set_option linter.unusedSimpArgs false
set_option maxRecDepth 20000
set_option linter.unusedVariables false
set_option linter.unusedSimpArgs false
set_option maxRecDepth 20000
namespace Go.Proofs.YtnlonpcbgjbbaaaGreatDoor
open Go.Proofs.Tryz (call10 call12 call13 call14 call39 call40 call41 call42 call43 call44 call45 call46 func40 func6 isAgg23 isAgg25 isAgg31 isAgg4 isAgg5 isAgg51 isAgg59 isAgg89 isAgg9 ntmps40 ntmps6 results40 results6 runUnderlying23 runUnderlying25 runUnderlying3 runUnderlying31 runUnderlying5 runUnderlying51 runUnderlying54 runUnderlying9 runUnderlying90 runUnderlying93 runUnderlying94 runUnderlying96 sizeOf23 sizeOf25 sizeOf3 sizeOf31 sizeOf4 sizeOf5 sizeOf51 sizeOf59 sizeOf89 sizeOf9 zeroValue25 zeroValue51)
open Go Go.E RowKit
attribute [local irreducible] Go.E.T Go.E.L Go.E.O Go.E.Ob
attribute [local irreducible] Go.E.ObX Go.E.ObG Go.E.ObK
theorem Gy {n:Nat} (h:n<10):fD (UInt8.ofNat (48+n))=true:=by
 rw [iL,UInt8.toNat_ofNat_of_lt' (by show _<256;omega)];omega
theorem aag {i:Nat} (h:i<100):jU (dNm i)=true:=by
 have h1:=Gy (n:=i / 10) (by omega)
 have h2:=Gy (n:=i % 10) (by omega)
 simp only [jU,dNm,RG,List.singleton_append,List.all_cons,List.all_nil,h1,h2,Bool.and_true,List.length_cons,List.length_nil]
 rfl
theorem Xy {i j:Nat} (hi:i<100) (hj:j<100) (h:dNm i=dNm j):i=j:=by
 simp only [dNm,RG,List.singleton_append,List.cons.injEq,and_true,true_and] at h
 have h1:=congrArg UInt8.toNat h.1
 have h2:=congrArg UInt8.toNat h.2
 rw [UInt8.toNat_ofNat_of_lt' (by show _<256;omega),UInt8.toNat_ofNat_of_lt' (by show _<256;omega)] at h1 h2
 omega
theorem ad9 {d:Dr} {n i:Nat} (hn:∀ j,j<d.ns.length→0≤d.ns.getD j 0∧d.ns.getD j 0≤65535):0≤dP d n i∧dP d n i≤65535:=by
 unfold dP
 have:=wZ hn i
 split <;> omega
theorem DN {d:Dr} {n i:Nat} {r:RoV} (h:xw d n r) (hn:∀ j,j<d.ns.length→0≤d.ns.getD j 0∧d.ns.getD j 0≤65535) (hg:qE d.g) (hp:qE d.p) (hl:qE d.l) (hi:i<n):bK r (r.us.getD i u0)=true:=by
 have u:=h.u i hi
 have h24:=h.n2
 unfold qE at hg hp hl
 have hdp:=ad9 (n:=n) (i:=i) hn
 have e1:r.G=d.g % 3:=h.g
 have e2:r.P=d.p % 4:=h.p
 have e3:r.L=d.l % 4:=h.l
 have hvm:bM (r.us.getD i u0)=if dWt d n i then 0 else 1000000000:=by rw [bM,u.wt]
 have hpm:gU (r.us.getD i u0)=if dWt d n i then 0 else 63:=by rw [gU,u.wt]
 have hpw:dWt d n i=true→dP d n i=0:=fun hw=>by rw [dP,hw];rfl
 rw [qC,u.nm,u.pp,u.gs,u.vs,u.ps,hvm,hpm]
 refine ⟨aag (by omega),hdp.1,?_,?_,?_,?_⟩
 ·split
  ·rename_i hw;rw [hpw hw];exact Int.le_refl _
  omega
 ·refine within_iff.2 ⟨by rw [dO];omega,fun j hj=>?_⟩
  rw [dO] at hj
  rw [xu hj,dG1]
  have:=Int.emod_nonneg (DW d.ns (3*i+j+1)) (show dP d n i+1≠0 by omega)
  have:=Int.emod_lt_of_pos (DW d.ns (3*i+j+1)) (show 0<dP d n i+1 by omega)
  omega
 ·refine within_iff.2 ⟨by rw [dO];omega,fun j hj=>?_⟩
  rw [dO] at hj
  rw [xu hj,dV1]
  have:=wZ hn (5*i+j+2)
  split <;> omega
 refine within_iff.2 ⟨by rw [dO];omega,fun j hj=>?_⟩
 rw [dO] at hj
 rw [xu hj,dL1]
 split
 ·omega
 have h1:(DW d.ns (i+11) % 16).toNat≤15:=by omega
 have h2:=Nat.div_le_self (DW d.ns (i+11) % 16).toNat (2 ^ j)
 obtain ⟨q,hq⟩:∃ q:Nat,q=(DW d.ns (i+11) % 16).toNat / 2 ^ j:=⟨_,rfl⟩
 rw [← hq] at h2 ⊢
 omega
theorem QO {d:Dr} {n:Nat} (hn:1≤n) (ha:qE d.wa):0≤ED d n∧ED d n<n:=by
 unfold qE at ha
 unfold ED
 have:=Int.emod_nonneg d.wa (show ((n / 3+1:Nat):Int)≠0 by omega)
 have:=Int.emod_lt_of_pos d.wa (show (0:Int)<((n / 3+1:Nat):Int) by omega)
 omega
theorem MS {d:Dr} {n:Nat} {r:RoV} (h:xw d n r) (hn:∀ j,j<d.ns.length→0≤d.ns.getD j 0∧d.ns.getD j 0≤65535) (hg:qE d.g) (hp:qE d.p) (hl:qE d.l) (ha:qE d.wa):bD r:=by
 have h1:=h.n1
 have h24:=h.n2
 have hlen:=h.len
 have hw:=QO h1 ha
 have hg':=hg
 have hp':=hp
 have hl':=hl
 unfold qE at hg' hp' hl'
 refine ⟨wW.2 ⟨by rw [h.g];omega,by rw [h.g];omega,by rw [h.p];omega,by rw [h.p];omega,by rw [h.l];omega,by rw [h.l];omega,by omega,by omega⟩,fun j hj=>?_⟩
 have uj:=h.u j (by omega)
 refine ⟨DN h hn hg hp hl (by omega),fun k hk e=>?_,fun k hk hkw=>?_,fun e=>?_⟩
 ·have uk:=h.u k (by omega)
  rw [uk.nm,uj.nm] at e
  have:=Xy (by omega) (by omega) e
  omega
 ·have uk:=h.u k (by omega)
  rw [uk.wt,dWt,decide_eq_true_eq] at hkw
  rw [uj.wt,dWt,decide_eq_true_eq];omega
 subst e
 rw [uj.wt,dWt,decide_eq_false_iff_not];omega
theorem Gz {d:Dr} {n lo:Nat} {r:RoV} {w:World} (h:xw d n r) (hd:d.ok lo w):bD r:=MS h hd.nl hd.g0 hd.p0 hd.l0 hd.a0
open Go Go.E RowKit
theorem aah {d:Nat} (hd:d<8):(UInt8.ofNat (49+d)).toNat=49+d:=by rw [UInt8.toNat_ofNat'];omega
structure GH (nm:Nat→Str) (n:Nat) (qs:List Int):Prop where
 ok:Ns nm n
 nl:∀ i,i<n→(10:UInt8)∉nm i
 sh:∀ i,i<n→(nm i).length≤12
 few:n≤64
 q:∀ i,i<n→∃ d:Nat,d<8∧qs.getD i 0=(d:Int)
theorem QS {nm:Nat→Str} {n i:Nat} {qs:List Int} (h:GH nm n qs) (hi:i<n):(10:UInt8)∉lV nm qs i∧(lV nm qs i).length≤14:=by
 obtain ⟨d,hd,e⟩:=h.q i hi
 have hs:=h.sh i hi
 unfold lV
 rw [e,nZ hd]
 refine ⟨fun hm=>?_,by simp only [List.length_append,List.length_cons,List.length_nil];omega⟩
 rcases List.mem_append.1 hm with hm|hm
 ·rcases List.mem_append.1 hm with hm|hm
  ·exact h.nl i hi hm
  exact absurd hm (by decide)
 have:=List.mem_singleton.1 hm
 have hv:=congrArg UInt8.toNat this
 rw [aah hd] at hv
 have:(10:UInt8).toNat=10:=rfl
 omega
theorem Jo {nm:Nat→Str} {n:Nat} {qs:List Int} (h:GH nm n qs) {is:List Nat} (hi:∀ i∈is,i<n) (hl:is.length≤100):(aO (FI::is.map (lV nm qs))).length≤40000∧∀ l∈FI::is.map (lV nm qs),(10:UInt8)∉l:=by
 have hm:∀ l∈FI::is.map (lV nm qs),(10:UInt8)∉l∧l.length≤14:=fun l hl=>by
  rcases List.mem_cons.1 hl with rfl|hl
  ·exact ⟨by decide,by decide⟩
  obtain ⟨i,hi2,rfl⟩:=List.mem_map.1 hl
  exact QS h (hi i hi2)
 have:=Gs fun l hl=>(hm l hl).2
 simp only [List.length_cons,List.length_map] at this
 exact ⟨by omega,fun l hl=>(hm l hl).1⟩
theorem GH.Xz {r:RoV} (h:bD r) {n:Nat} (hn:n≤r.us.length) {qs:List Int} (hq:∀ i,i<n→∃ d:Nat,d<8∧qs.getD i 0=(d:Int)):GH (nmA r.us) n qs:=by
 obtain ⟨hb,hu⟩:=yN h
 have hr:∀ i,i<n→bK r (r.us.getD i u0)=true:=fun i hi=>(h.good i (by omega)).right
 refine ⟨TD h hn,fun i hi hm=>?_,fun i hi=>?_,by omega,hq⟩
 ·obtain ⟨⟨_,_,k⟩,_⟩:=nG (hr i hi)
  exact (yM (k _ hm)).2 rfl
 obtain ⟨⟨_,k,_⟩,_⟩:=nG (hr i hi)
 exact k
def GI (small:List Int) (i:Nat):Int:=(if 0<small.length then small.getD (i % small.length) 0 else (i:Int)) % 8
def zK (small:List Int) (n:Nat):List Int:=(List.range n).map (GI small)
theorem Bg (small:List Int) (n:Nat):zK small (n+1)=zK small n ++ [GI small n]:=by simp [zK,List.range_succ]
theorem yT (small:List Int) (n:Nat):(zK small n).length=n:=by simp [zK]
theorem DR:∀ (us:List UnV) (i:Nat),(∀ k,k<i→(us.getD k u0).wt=false)→i≤us.length→(i=us.length∨(us.getD i u0).wt=true)→aB us=i
 | [],i,_,h,_=>by simp only [List.length_nil] at h;rw [aB];omega
 | u::us,0,_,_,h=>by
  rcases h with h|h
  ·simp at h
  have h':u.wt=true:=h
  rw [aB,h'];rfl
 | u::us,i+1,h1,h2,h3=>by
  have hu:u.wt=false:=h1 0 (by omega)
  have ih:=DR us i (fun k hk=>h1 (k+1) (by omega)) (by simpa using h2) (by simpa using h3)
  rw [aB,hu,ih];rfl
open Go Go.E RowKit
theorem pW (lo lo2:Nat) (p q:Value) (xs ys:List Int) (w:World) (hp:Ints .i64 lo w p xs) (hq:Ints .i64 lo2 w q ys) (h:xs=ys):Calls Tryz.prog 46 #[p,q] w (Ret fun v w'=>v = .bool true∧Ext w w'):=by
 refine (lJ lo lo2 p q xs ys w hp hq).mono ?_
 rintro (v|_|_) w' hh
 ·exact ⟨by rw [hh.1,decide_eq_true h],hh.2⟩
 ·exact hh
 exact hh
theorem MV (lo lo2:Nat) (r:RoV) (q:Value) (small:List Int) (w:World) (hr:r.ok lo w) (hq:Ints .u8 lo2 w q small) (hlow:∀ j,j<small.length→qE (small.getD j 0)) (hfew:r.us.length≤100000) :
  Calls Tryz.prog 40 #[r.val,q] w (Ret fun v w'=>Ext w w'∧Ints .i64 0 w' v (zK small (aB r.us))):=by
 refine T.enter (vs:=[r.val,q]) func40 rfl ntmps40 rfl ?_
 refine T.q (L.o (O.box rfl (fun b2 w2 hb2 hz2 he2 hB2=>?_)))
 have hC2:Blk w2 b2 r.cells 25:=hB2
 have hr:Units lo w r.uv r.us:=hr
 refine L.a rfl (L.nil (T.q (L.a rfl (L.nil (T.seq (T.q (L.o (O.fieldAddr runUnderlying25 rfl sizeOf23 rfl (L.o (O.load isAgg23 rfl (hC2.cell rfl) (L.o (O.len runUnderlying23 rfl (Sl.val ((hr.ext he2).sl)) (L.m rfl (L.nil (T.block (?_))))))))))))))))
 refine T.loop (σ:=Nat × Value) (fun g=>[(1,q),(5,g.2),(10,r.uv),(11,.int .i64 r.us.length),(12,.int .i64 g.1)]) (fun g W=>g.1≤r.us.length∧Ext w W∧(∀ k,k<g.1→(r.us.getD k u0).wt=false)∧W.ownsRow w.heap.size 3 1 g.2 g.1 ((zK small g.1).map (Value.int .i64))) (fun g=>r.us.length-g.1) ((0,.slice none 0 0)) ⟨rfl,rfl,rfl,rfl,rfl,trivial⟩ ⟨Nat.zero_le _,he2,fun k hk=>absurd hk (Nat.not_lt_zero _),dW _ _ _ _⟩ ?_
 rintro ⟨i,lv⟩ w3 ⟨hi,he3,abh,hO3⟩
 simp only at hi hO3 abh
 refine T.q (L.o (O.aV rfl rfl (fun hlt=>?_) (fun hlt=>?_)))
 ·refine L.nil (?_)
  have hlt':i<r.us.length:=by simp only at hlt;omega
  have hU3:=hr.ext he3
  refine T.seq (T.ct (T.skip (T.seq (T.block (T.q (L.m rfl (L.o (O.indexAddr runUnderlying23 sizeOf51 rfl rfl hU3.sl (by omega) (by omega) (L.o (O.ak isAgg51 sizeOf51 rfl rfl (hU3.row hlt') (L.o (O.alloc zeroValue51 (fun b7 w7 hb7 hz7 he7 hB7=>?_)))))))))))))
  refine L.a rfl (L.o (O.aF sizeOf51 rfl rfl rfl hB7 (Nat.le_refl _) (hU3.at hlt').one (fun w8 hu8 hB8=>?_)))
  have hU8:Blk w8 b7 (r.us.getD i u0).cells 51:=hB8
  have CO:Ext w3 w8:=he7.upd hu8 (.inr (by omega))
  refine L.nil (T.seq (T.q (L.o (O.fieldAddr runUnderlying51 rfl sizeOf4 rfl (L.o (O.load isAgg4 rfl (hU8.cell rfl) (?_)))))))
  have hq8:=hq.ext (he3.trans CO)
  rcases hwt:(r.us.getD i u0).wt with _|_
  ·refine L.nil (?_)
   have aai:∀ k,k<i+1→(r.us.getD k u0).wt=false:=fun k hk ↦ by
    rcases Nat.lt_or_ge k i with h|h
    ·exact abh k h
    obtain rfl:k=i:=by omega
    exact hwt
   refine T.cf (T.skip (T.q (L.m rfl (L.a rfl (L.nil (T.seq (T.q (L.m rfl (L.o (O.len runUnderlying54 rfl (Sl.val hq8) (L.o (O.fG rfl rfl (fun hpos=>?_) (fun hpos=>?_)))))))))))))
   ·refine L.nil (?_)
    have hpos':0<small.length:=by omega
    have hmod:=Nat.mod_lt i hpos'
    have hlw:=hlow (i % small.length) hmod
    unfold qE at hlw
    refine T.ct (T.region (L.m rfl (L.m rfl (L.m rfl (L.o (O.len runUnderlying54 rfl (Sl.val hq8) (L.o (O.rem rfl rfl (by simp only;omega) (by omega) (?_)))))))))
    rw [show ((i:Int)) % ((small.length:Nat):Int)=((i % small.length:Nat):Int) from (Int.natCast_emod _ _).symm]
    refine L.o (O.indexAddr runUnderlying54 sizeOf5 rfl rfl hq8 (by omega) (by omega) (L.o (O.load isAgg5 rfl (Ints.at hq8 hmod) (L.o (O.cZ rfl (fun w=>⟨_,runUnderlying5 w⟩) runUnderlying3 (IntWalk.i64_in _ ⟨by omega,by omega⟩) (L.a rfl (L.nil (T.region (L.m rfl (L.m rfl (L.o (O.rem rfl rfl (by omega) (by decide) (?_)))))))))))))
    rw [show small.getD (i % small.length) 0 % 8=GI small i from by rw [GI,if_pos hpos']]
    refine L.o (O.buildSlice (el:=3) (parts:=[(0,.tmp 33)]) (vs:=[(0,_)]) (cs:=[.int .i64 (GI small i)]) rfl (fun w=>by kernel_rfl) (fun b34 w34 ajA ajB LD aea=>?_))
    have DT:=CO.trans LD
    refine L.o (O.append (size:=1) (bytes:=8) runUnderlying31 Tryz.jK rfl rfl rfl rfl (by decide) rfl rfl (aH hO3 (DT.mono (Nat.zero_le _)) (Nat.le_refl _)) (Sl.ay (lo:=0) (n:=1) (sz:=1) aea rfl (Nat.le_refl 1) (by decide) (Nat.zero_le _)) (by intro u hu;simp at hu;subst hu;rfl) (by omega) (by simp only [maxLen];omega) (by have:=he3.size;have:=DT.size;omega) (fun v35 w35 aeb aec=>?_))
    have Ci:Ext w w35:=Keep.dV (he3.trans DT) (aH hO3 (DT.mono (Nat.zero_le _)) (Nat.le_refl _)) aec (Nat.le_refl _)
    refine L.a rfl (L.nil (T.blk (T.region (L.o (O.aC rfl rfl (by (try dsimp only);omega) (L.m rfl (L.nil (T.again ((i+1,v35)) (show r.us.length-(i+1)<r.us.length-i by omega) ⟨rfl,rfl,rfl,rfl,rfl,trivial⟩ ⟨hlt',Ci,aai,by rw [Bg,List.map_append];exact aeb⟩))))))))
   refine L.nil (T.cf (T.skip (T.region (L.m rfl (L.m rfl (L.o (O.rem rfl rfl (by simp only;omega) (by decide) (?_))))))))
   rw [show (i:Int) % 8=GI small i from by rw [GI,if_neg (by omega)]]
   refine L.o (O.buildSlice (el:=3) (parts:=[(0,.tmp 33)]) (vs:=[(0,_)]) (cs:=[.int .i64 (GI small i)]) rfl (fun w=>by kernel_rfl) (fun b34 w34 ajA ajB LD aea=>?_))
   have DT:=CO.trans LD
   refine L.o (O.append (size:=1) (bytes:=8) runUnderlying31 Tryz.jK rfl rfl rfl rfl (by decide) rfl rfl (aH hO3 (DT.mono (Nat.zero_le _)) (Nat.le_refl _)) (Sl.ay (lo:=0) (n:=1) (sz:=1) aea rfl (Nat.le_refl 1) (by decide) (Nat.zero_le _)) (by intro u hu;simp at hu;subst hu;rfl) (by omega) (by simp only [maxLen];omega) (by have:=he3.size;have:=DT.size;omega) (fun v35 w35 aeb aec=>?_))
   have Ci:Ext w w35:=Keep.dV (he3.trans DT) (aH hO3 (DT.mono (Nat.zero_le _)) (Nat.le_refl _)) aec (Nat.le_refl _)
   refine L.a rfl (L.nil (T.blk (T.region (L.o (O.aC rfl rfl (by (try dsimp only);omega) (L.m rfl (L.nil (T.again ((i+1,v35)) (show r.us.length-(i+1)<r.us.length-i by omega) ⟨rfl,rfl,rfl,rfl,rfl,trivial⟩ ⟨hlt',Ci,aai,by rw [Bg,List.map_append];exact aeb⟩))))))))
  refine L.nil (?_)
  have hln:aB r.us=i:=DR r.us i abh hi (.inr hwt)
  refine T.ct (T.exit rfl (T.q (L.m rfl (L.a rfl (L.nil (T.aN results40 rfl ⟨he3.trans CO,by rw [hln];have:=((Sl.aU hO3).ext CO).mono (Nat.zero_le _);show Sl 0 w8 lv (zK small i).length 1 _;rw [yT];exact this⟩))))))
 refine L.nil (?_)
 have hln:aB r.us=i:=DR r.us i abh hi (.inl (by simp only at hlt;omega))
 refine T.seq (T.cf (T.exit rfl (T.q (L.m rfl (L.a rfl (L.nil (T.aN results40 rfl ⟨he3,by rw [hln];have:=(Sl.aU hO3).mono (Nat.zero_le _);show Sl 0 w3 lv (zK small i).length 1 _;rw [yT];exact this⟩)))))))
open Go Go.E RowKit
theorem MW {r0 r1:RoV} {i:Nat} (hi:i<2):((r0.cells++r1.cells).drop ((i:Int).toNat*4)).take 4=([r0,r1].getD i r0).cells:=by
 rcases (show i=0∨i=1 by omega) with rfl|rfl <;> rfl
theorem MX {p:RoV→Prop} {r0 r1:RoV} (h0:p r0) (h1:p r1) {i:Nat} (hi:i<2):p ([r0,r1].getD i r0):=by
 rcases (show i=0∨i=1 by omega) with rfl|rfl
 ·exact h0
 exact h1
def RoV.short (r:RoV) (m:Nat):RoV:=⟨r.G,r.P,r.L,Es r.uv m,r.us.take m⟩
theorem RoV.ok.short {lo:Nat} {w:World} {r:RoV} (h:r.ok lo w) {m:Nat} (hm:m≤r.us.length):(r.short m).ok lo w:=by
 have h:Units lo w r.uv r.us:=h
 have hs:=rX h.sl hm
 rw [o8] at hs
 refine ⟨?_,fun u hu=>h.ok u (List.mem_of_mem_take hu)⟩
 show Sl lo w (Es r.uv m) (r.us.take m).length 6 _
 rw [List.length_take,Nat.min_eq_left hm]
 exact hs
theorem aaj {a b c d:Value} {W:World→Prop} {pa pb pc pd:List Int} (ha:∀ w,W w→Ints .i64 0 w a pa) (hb:∀ w,W w→Ints .i64 0 w b pb) (hc:∀ w,W w→Ints .i64 0 w c pc) (hd:∀ w,W w→Ints .i64 0 w d pd) {i:Nat} (hi:i<4):∃ v xs,(#[a,b,c,d]:Array Value)[((i:Nat):Int).toNat]?=some v∧∀ w,W w→Ints .i64 0 w v xs:=by
 rcases (show i=0∨i=1∨i=2∨i=3 by omega) with rfl|rfl|rfl|rfl
 ·exact ⟨a,pa,rfl,ha⟩
 ·exact ⟨b,pb,rfl,hb⟩
 ·exact ⟨c,pc,rfl,hc⟩
 exact ⟨d,pd,rfl,hd⟩
def QT (v:Value) (_:World):Prop:=∃ z:Str,v=str z∧z.length≤1000000
theorem QT.st:∀ v w w',Ext w w'→QT v w→QT v w':=fun _ _ _ _ h=>h
def yU (v:Value) (_:World):Prop:=∃ z:Str,v=str z∧z.length≤400000
theorem yU.st:∀ v w w',Ext w w'→yU v w→yU v w':=fun _ _ _ _ h=>h
def MZ (v:Value) (_:World):Prop:=∃ a b c d:Str,v = .agg #[str a,str b,str c,str d]∧∀ i,i<4→∃ z:Str,(#[str a,str b,str c,str d]:Array Value)[((i:Nat):Int).toNat]?=some (str z)∧z.length≤1000000
theorem MZ.st:∀ v w w',Ext w w'→MZ v w→MZ v w':=fun _ _ _ _ h=>h
theorem aak {a b c d:Str} (ha:a.length≤1000000) (hb:b.length≤1000000) (hc:c.length≤1000000) (hd:d.length≤1000000) {w:World} : MZ (.agg #[str a,str b,str c,str d]) w:=by
 refine ⟨a,b,c,d,rfl,fun i hi=>?_⟩
 rcases (show i=0∨i=1∨i=2∨i=3 by omega) with rfl|rfl|rfl|rfl
 ·exact ⟨a,rfl,ha⟩
 ·exact ⟨b,rfl,hb⟩
 ·exact ⟨c,rfl,hc⟩
 exact ⟨d,rfl,hd⟩
theorem XA (r:RoV) (xs:List Int):(mX r xs).1.length≤40000:=by
 by_cases h:bD r
 ·rw [ku h]
  split
  ·rename_i hf
   obtain ⟨h1,h2⟩:=pF hf
   have hn:xs.length=aB r.us:=by omega
   have hp:=iQ h
   have hL:=GH.Xz h (n:=aB r.us) hp.2.1 (qs:=xs) (fun i hi=>by have:=h2 i (by omega);exact ⟨(xs.getD i 0).toNat,by omega,by omega⟩)
   have:=(Jo hL (is:=List.range xs.length) (fun i hi=>by rw [← hn];exact List.mem_range.1 hi) (by rw [List.length_range];omega)).1
   exact this
  exact Nat.zero_le _
 rw [nX h];exact Nat.zero_le _
set_option maxHeartbeats 4000000 in
theorem uq (d:Dr) (qa:Value) (sa:List Int) (m:Nat) (n:Int) (x0 x1:EdV) (qr:Value) (sr:List Int) (t:Str) (r1:RoV) (w:World) (hd:d.ok 0 w) (hqa:Ints .u8 0 w qa sa) (hla:∀ j,j<sa.length→qE (sa.getD j 0)) (hm:m<256) (hx0:x0.ok) (hx1:x1.ok) (hqr:Ints .i64 0 w qr sr) (ht:t.length≤9223372036854775807) (hr1:r1.ok 0 w) (hL:ji w) :
  Calls Tryz.prog 6 #[d.val,qa,.int .u8 m,.int .i64 n,.agg (x0.cells++x1.cells).toArray,qr,str t,r1.val] w (Ret fun v w'=>v = .bool true∧Ext w w'):=by
 refine T.enter (vs:=[d.val,qa,.int .u8 m,.int .i64 n,.agg (x0.cells++x1.cells).toArray,qr,str t,r1.val]) func6 rfl ntmps6 rfl ?_
 refine T.q (L.o (O.box rfl (fun b8 w8 hb8 hz8 he8 hB8=>?_)))
 refine L.o (O.box rfl (fun b12 w12 XQ XR eX xg=>?_))
 refine L.o (O.box rfl (fun b15 w15 aew XU iO Aa=>?_))
 have he0:=(he8.trans eX).trans iO
 have hD:Blk w15 b8 d.cells 59:=Blk.ext (cs:=d.cells) hB8 (eX.trans iO)
 have hE:Blk w15 b12 (x0.cells++x1.cells) 90:=Blk.ext (cs:=x0.cells++x1.cells) xg iO
 have hR:Blk w15 b15 r1.cells 25:=Aa
 refine L.a rfl (L.nil (T.seq (T.q (L.o (O.call (xs:=[]) call10 rfl rfl (Jm w15 (hL.ext he0)) (fun v48 w48 hq=>?_))))))
 obtain ⟨rfl,Lm⟩:=hq
 have aal:=he0.trans Lm
 refine L.o (O.not rfl (L.nil (T.cf (T.skip (T.q (L.o (O.ak isAgg59 sizeOf59 rfl rfl (Row.ay (Blk.ext (cs:=d.cells) hD Lm)) (L.o (O.call (xs:=[.tmp 50]) call39 rfl rfl (Ii 0 d w48 (hd.ext aal)) (fun v51 w51 hq=>?_))))))))))
 obtain ⟨aed,n0,r0,rfl,hr0,hdr⟩:=hq
 have hok:=Gz hdr hd
 have hpos:=iQ hok
 refine L.o (O.alloc zeroValue25 (fun b17 w17 ai9 aaY Gw Cm=>?_))
 refine L.o (O.aF sizeOf25 rfl rfl rfl Cm (Nat.le_refl _) (yR r0 hr0.one) (fun w18 vF wB=>?_))
 replace vF:Upd b17 w17 w18:=vF
 have afW:Blk w18 b17 r0.cells 25:=wB
 have QU:Ext w51 w18:=Gw.upd vF (.inr (by omega))
 have Qm:=(aal.trans aed).trans QU
 have Ve:=(Lm.trans aed).trans QU
 have Xv:=Blk.ext (cs:=r1.cells) hR Ve
 have aee:Units 0 w18 r1.uv r1.us:=hr1.ext Qm
 obtain ⟨m1,hm1⟩:∃ m1,m1=min r1.us.length 66:=⟨_,rfl⟩
 refine L.nil (T.q (L.o (O.fieldAddr runUnderlying25 rfl sizeOf23 rfl (L.o (O.load isAgg23 rfl (Xv.cell rfl) (L.o (O.fieldAddr runUnderlying25 rfl sizeOf23 rfl (L.o (O.load isAgg23 rfl (Xv.cell rfl) (L.o (O.len runUnderlying23 rfl (Sl.val aee.sl) (L.o (O.aaC (k:=66) rfl rfl (?_))))))))))))))
 rw [← hm1]
 refine L.o (O.Es runUnderlying23 sizeOf51 rfl rfl aee.sl (show m1≤r1.us.length by omega) (L.o (O.fieldAddr runUnderlying25 rfl sizeOf23 rfl (L.o (O.store1 sizeOf23 (Sl.one (rX aee.sl (show m1≤r1.us.length by omega))) rfl rfl Xv (by simp [RoV.cells]) (fun w19 U3 CB=>?_))))))
 replace U3:Upd b15 w18 w19:=U3
 have ajC:Blk w19 b15 (r1.short m1).cells 25:=CB
 have hz1:=he8.size
 have hz2:=eX.size
 have XB:Ext w w19:=Qm.upd U3 (.inr (by omega))
 have hr2:(r1.short m1).ok 0 w19:=RoV.ok.short (hr1.ext XB) (by omega)
 have ajD:=Blk.lt (cs:=r0.cells) afW
 have alg:=iO.size
 have afX:=(Lm.trans aed).size
 have afY:Blk w19 b17 r0.cells 25:=Blk.upd (cs:=r0.cells) afW U3 (by omega)
 have alh:=Lm.size
 have aam:r0.ok 0 w19:=((hr0.ext QU).loc U3 (by omega)).mono (Nat.zero_le _)
 have ajE:Blk w19 b12 (x0.cells++x1.cells) 90:=Blk.upd (cs:=x0.cells++x1.cells) (Blk.ext (cs:=x0.cells++x1.cells) hE Ve) U3 (by omega)
 refine L.nil (T.q (L.o (O.ak isAgg25 sizeOf25 rfl rfl (Row.ay afY) (L.m rfl (L.o (O.call (xs:=[.tmp 60,.tmp 61]) call40 rfl rfl (MV 0 0 r0 qa sa w19 aam (hqa.ext XB) hla (by omega)) (fun v62 w62 hq=>?_)))))))
 obtain ⟨zB,abj⟩:=hq
 obtain ⟨ps,hps⟩:∃ ps,ps=zK sa (aB r0.us):=⟨_,rfl⟩
 rw [← hps] at abj
 have ali:ps.length=aB r0.us:=by rw [hps,yT]
 refine L.a rfl (L.nil (T.q (L.m rfl (L.o (O.call (xs:=[.tmp 63]) call41 rfl rfl (mW 0 v62 ps w62 abj (by omega)) (fun v64 w64 hq=>?_))))))
 obtain ⟨WO,abk⟩:=hq
 refine L.a rfl (L.nil (T.seq (?_)))
 refine T.join (σ:=List Int) (fun bs=>[(0,d.val),(3,.int .i64 n),(5,qr),(6,str t),(12,.pointer (some ⟨b12,0,none⟩)),(15,.pointer (some ⟨b15,0,none⟩)),(17,.pointer (some ⟨b17,0,none⟩)),(18,v62),(19,v64)]) (fun bs W=>Ext w62 W∧Ints .i64 0 W v64 bs) ?_ ?_
 ·refine T.q (L.m rfl (L.o (O.len runUnderlying31 rfl (Sl.val (Sl.aU abk)) (L.o (O.fG rfl rfl (fun hne=>?_) (fun hne=>?_))))))
  ·refine L.nil (?_)
   have aan:0<ps.length:=by omega
   obtain ⟨bc,cap2,cur,rfl,hbc,hCl,k1,k2,k3,k4⟩:=JZ abk aan
   have hSl:=Sl.aU abk
   refine T.ct (T.region (L.m rfl (L.m rfl (L.o (O.cZ rfl (fun w=>⟨_,runUnderlying5 w⟩) runUnderlying3 (IntWalk.i64_in _ ⟨by omega,by omega⟩) (L.m rfl (L.o (O.len runUnderlying31 rfl (Sl.val hSl) (L.o (O.rem rfl rfl (by omega) (by omega) (?_)))))))))))
   obtain ⟨i,hi⟩:∃ i,i=m % ps.length:=⟨_,rfl⟩
   rw [show ((m:Int)) % ((ps.length:Nat):Int)=((i:Nat):Int) from by rw [hi];exact (Int.natCast_emod _ _).symm]
   have hin:i<ps.length:=by rw [hi];exact Nat.mod_lt _ aan
   refine L.m rfl (L.o (O.indexAddr runUnderlying31 sizeOf3 rfl rfl hSl (by omega) (by omega) (L.o (O.bf sizeOf3 rfl rfl rfl hCl (by show 0+((i:Nat):Int).toNat*1<cur.length;rw [Int.toNat_natCast];omega) (fun w66 aef acX=>?_)))))
   replace aef:Upd bc w64 w66:=aef
   refine L.nil (T.meet (ps.set i n) ⟨rfl,rfl,rfl,rfl,rfl,rfl,rfl,rfl,rfl,trivial⟩ ⟨WO.upd aef (.inr (by omega)),?_⟩)
   ·show Ints .i64 0 w66 (.slice (some ⟨bc,0,none⟩) ps.length cap2) (ps.set i n)
    refine J3 (cs:=cur.set (0+((i:Nat):Int).toNat*1) (.int .i64 n)) acX (by rw [List.length_set];exact k3) k1 k2 ?_ (by rw [List.length_set])
    rw [List.take_set,k4,List.map_set,Int.toNat_natCast,Nat.mul_one,Nat.zero_add]
  refine L.nil (T.cf (T.skip (T.meet (ps) ⟨rfl,rfl,rfl,rfl,rfl,rfl,rfl,rfl,rfl,trivial⟩ ⟨WO,(Sl.aU abk).mono (Nat.zero_le _)⟩)))
 rintro bs w70 ⟨afZ,hbs⟩
 obtain ⟨oa,cpa,rfl,_,_⟩:=Sl.val abj
 obtain ⟨ob,cpb,rfl,_,_⟩:=Sl.val hbs
 obtain ⟨oc,cpc,rfl,_,_⟩:=Sl.val hqr
 have Bh:=zB.trans afZ
 have XC:=XB.trans Bh
 have XD:=hqr.ext XC
 obtain ⟨m2,hm2⟩:∃ m2,m2=min sr.length 70:=⟨_,rfl⟩
 refine T.q (L.m rfl (L.m rfl (L.o (O.len runUnderlying31 rfl (Sl.val XD) (L.o (O.aaC (k:=70) rfl rfl (?_)))))))
 rw [← hm2]
 refine L.o (O.Es runUnderlying31 sizeOf3 rfl rfl XD (show m2≤sr.length by omega) (?_))
 have hraw:Ints .i64 0 w70 ((.slice oc m2 cpc)) (sr.take m2):=by
  have h:=rX XD (show m2≤sr.length by omega)
  rw [Nat.mul_one,← List.map_take] at h
  have e:(sr.take m2).length=m2:=by rw [List.length_take];omega
  show Sl 0 w70 ((.slice oc m2 cpc)) (sr.take m2).length 1 _
  rw [e];exact h
 obtain ⟨k3,hk3⟩:∃ k3,k3=min t.length 45000:=⟨_,rfl⟩
 refine L.a rfl (L.nil (T.q (L.m rfl (L.m rfl (L.o (O.bP runUnderlying9 rfl (L.o (O.aaC (k:=45000) rfl rfl (?_)))))))))
 rw [← hk3]
 refine L.o (O.iD runUnderlying9 rfl rfl (by omega) (by omega) (?_))
 obtain ⟨tt,htt⟩:∃ tt:Str,tt=t.take ((k3:Nat):Int).toNat:=⟨_,rfl⟩
 have alj:tt.length≤45000:=by rw [htt,List.length_take];omega
 rw [← htt]
 have ajF:=Blk.ext (cs:=r0.cells) afY Bh
 have ajG:=Blk.ext (cs:=(r1.short m1).cells) ajC Bh
 have ajH:=Blk.ext (cs:=x0.cells++x1.cells) ajE Bh
 refine L.a rfl (L.nil (T.seq (T.q (L.o (O.ak isAgg25 sizeOf25 rfl rfl (Row.ay ajF) (L.o (O.ak isAgg25 sizeOf25 rfl rfl (Row.ay ajG) (L.o (O.build (v:=.agg (r0.cells++(r1.short m1).cells).toArray) (parts:=[(0,.tmp 86),(1,.tmp 87)]) (vs:=[(0,_),(1,_)]) rfl (fun w=>by kernel_rfl) (?_))))))))))
 have hall:∀ i,i<2→RoV.ok 0 w70 ([r0,r1.short m1].getD i r0):=fun i hi ↦ MX (p:=fun r=>RoV.ok 0 w70 r) (aam.ext Bh) (hr2.ext Bh) hi
 have XE:∀ W,Ext w70 W→Ints .i64 0 W (.slice oa ps.length cpa) ps:=fun W h ↦ abj.ext (afZ.trans h)
 refine L.m rfl (L.nil (T.block (?_)))
 refine T.loop (σ:=Nat) (fun i=>[(5,.slice oc m2 cpc),(6,str tt),(12,.pointer (some ⟨b12,0,none⟩)),(18,.slice oa ps.length cpa),(19,.slice ob bs.length cpb),(88,.agg (r0.cells++(r1.short m1).cells).toArray),(89,.int .i64 i)]) (fun i w'=>i≤2∧Ext w70 w') (fun i=>2-i) (0) ⟨rfl,rfl,rfl,rfl,rfl,rfl,rfl,trivial⟩ ⟨Nat.zero_le _,Keep.refl _ _⟩ ?_
 rintro i w71 ⟨hi,WZ⟩
 refine T.q (L.o (O.aV rfl rfl (fun hlt=>?_) (fun hlt=>?_)))
 ·refine L.nil (?_)
  have hlt':i<2:=by omega
  obtain ⟨y,hy⟩:∃ y,y = [r0,r1.short m1].getD i r0:=⟨_,rfl⟩
  have hyo:=hall i hlt'
  have hgi:=MW (r0:=r0) (r1:=r1.short m1) hlt'
  rw [← hy] at hgi hyo
  refine T.seq (T.ct (T.skip (T.seq (T.block (T.q (L.o (O.uD runUnderlying93 isAgg25 sizeOf25 rfl rfl (by omega) (by omega) hgi (L.o (O.alloc zeroValue25 (fun b21 w21 ahK ahL uH X8=>?_))))))))))
  refine L.o (O.aF sizeOf25 rfl rfl rfl X8 (Nat.le_refl _) (yR y (hyo.ext (WZ.trans uH)).one) (fun w22 QE ZY=>?_))
  replace QE:Upd b21 w21 w22:=QE
  have ajI:Blk w22 b21 y.cells 25:=ZY
  have aao:Ext w71 w22:=uH.upd QE (.inr (by omega))
  have rF:=WZ.trans aao
  have XF:=XE w22 rF
  refine L.nil (T.q (L.m rfl (L.m rfl (L.m rfl (L.m rfl (L.m rfl (L.o (O.len runUnderlying31 rfl (Sl.val XF) (L.o (O.Nv rfl rfl (by omega) (?_)))))))))))
  obtain ⟨m3,hm3⟩:∃ m3,m3=ps.length / 2:=⟨_,rfl⟩
  rw [show ((ps.length:Nat):Int) / 2=((m3:Nat):Int) by omega]
  refine L.o (O.Es runUnderlying31 sizeOf3 rfl rfl XF (show m3≤ps.length by omega) (?_))
  have aeg:Ints .i64 0 w22 ((.slice oa m3 cpa)) (ps.take m3):=by
   have h:=rX XF (show m3≤ps.length by omega)
   rw [Nat.mul_one,← List.map_take] at h
   have e:(ps.take m3).length=m3:=by rw [List.length_take];omega
   show Sl 0 w22 ((.slice oa m3 cpa)) (ps.take m3).length 1 _
   rw [e];exact h
  refine L.o (O.build (v:=.agg #[.slice oa ps.length cpa,.slice ob bs.length cpb,.slice oc m2 cpc,.slice oa m3 cpa]) (parts:=[(0,.tmp 92),(1,.tmp 93),(2,.tmp 94),(3,.tmp 99)]) (vs:=[(0,_),(1,_),(2,_),(3,_)]) rfl (fun w=>by kernel_rfl) (L.m rfl (L.nil (T.block (?_)))))
  refine T.loop (σ:=Nat) (fun j=>[(5,.slice oc m2 cpc),(6,str tt),(12,.pointer (some ⟨b12,0,none⟩)),(18,.slice oa ps.length cpa),(19,.slice ob bs.length cpb),(21,.pointer (some ⟨b21,0,none⟩)),(88,.agg (r0.cells++(r1.short m1).cells).toArray),(89,.int .i64 i),(100,.agg #[.slice oa ps.length cpa,.slice ob bs.length cpb,.slice oc m2 cpc,.slice oa m3 cpa]),(101,.int .i64 j)]) (fun j w'=>j≤4∧Ext w22 w') (fun j=>4-j) (0) ⟨rfl,rfl,rfl,rfl,rfl,rfl,rfl,rfl,rfl,rfl,trivial⟩ ⟨Nat.zero_le _,Keep.refl _ _⟩ ?_
  rintro j w23 ⟨hj,Q7⟩
  refine T.q (L.o (O.aV rfl rfl (fun ajJ=>?_) (fun ajJ=>?_)))
  ·refine L.nil (?_)
   have aeh:j<4:=by omega
   obtain ⟨q,xs,ajK,hqi⟩:=aaj (W:=fun W=>Ext w22 W) (fun W h ↦ XE W (rF.trans h)) (fun W h ↦ hbs.ext (rF.trans h)) (fun W h ↦ hraw.ext (rF.trans h)) (fun W h ↦ aeg.ext h) aeh
   refine T.seq (T.ct (T.skip (T.seq (T.block (T.q (L.o (O.Ea runUnderlying94 isAgg31 sizeOf31 rfl rfl (by omega) (by omega) ajK (?_))))))))
   have hyA:∀ W,Ext w22 W→y.ok 0 W:=fun W h ↦ hyo.ext (rF.trans h)
   have hYA:∀ W,Ext w22 W→Blk W b21 y.cells 25:=fun W h ↦ Blk.ext (cs:=y.cells) ajI h
   have hLA:∀ W,Ext w22 W→ji W:=fun W h ↦ hL.ext ((XC.trans rF).trans h)
   have hpA:∀ W,Ext w22 W→Ints .i64 0 W (.slice oa ps.length cpa) ps:=fun W h ↦ XE W (rF.trans h)
   refine L.a rfl (L.nil (T.q (L.o (O.ak isAgg25 sizeOf25 rfl rfl (Row.ay (cs:=y.cells) (hYA w23 Q7)) (L.m rfl (L.o (O.call (xs:=[.tmp 105,.tmp 106]) call12 rfl rfl (uQ 0 y q xs w23 (hyA w23 Q7) (hqi w23 Q7) (hLA w23 Q7)) (fun v30 w30 hq=>?_))))))))
   obtain ⟨rfl,Ig⟩:=hq
   have abl:=Q7.trans Ig
   refine L.m rfl (L.o (O.extract rfl rfl (L.o (O.extract rfl rfl (L.a rfl (L.a rfl (L.nil (T.q (L.o (O.ak isAgg25 sizeOf25 rfl rfl (Row.ay (cs:=y.cells) (hYA w30 abl)) (L.m rfl (L.o (O.call (xs:=[.tmp 111,.tmp 112]) call42 rfl rfl (Dq 0 y q xs w30 (hyA w30 abl) (hqi w30 abl)) (fun v31 w31 hq=>?_))))))))))))))
   obtain ⟨rfl,DX⟩:=hq
   have abm:=abl.trans DX
   obtain ⟨S,hS⟩:∃ S,S=(mX y xs).1:=⟨_,rfl⟩
   have hSl:S.length≤40000:=by rw [hS];exact XA y xs
   rw [← hS]
   refine L.m rfl (L.o (O.extract rfl rfl (L.o (O.extract rfl rfl (L.a rfl (L.a rfl (L.nil (T.seq (T.q (L.m rfl (L.m rfl (L.o (O.NS runUnderlying9 rfl rfl rfl (L.m rfl (L.m rfl (L.m rfl (L.o (O.jD rfl rfl rfl (?_)))))))))))))))))))
   have hEA:∀ W,Ext w22 W→Blk W b12 (x0.cells++x1.cells) 90:=fun W h ↦ Blk.ext (cs:=x0.cells++x1.cells) ajH (rF.trans h)
   refine L.o (O.ah rfl rfl (L.nil (T.cf (T.skip (T.seq (T.seq (?_)))))))
   refine T.dL mixed 15 [26,12,6] rfl [.is _,.is _,.is _,.is _,.such yU,.is _,.is _,.is _,.is _,.is _,.such yU,.such QT,.is _,.such MZ,.is _] [[],[],[1],[],[2,3],[],[5],[],[7],[],[8,9],[6,10],[],[0,4,11,12],[]] [[],[],[1],[],[1,2,3],[],[5],[],[7],[],[1,2,3,4,7,8,9],[1,2,3,4,5,6,7,8,9,10],[],[0,1,2,3,4,5,6,7,8,9,10,11,12],[]] (by kernel_rfl) (by kernel_rfl) rfl (by kernel_rfl) ⟨yU.st,yU.st,QT.st,MZ.st,trivial⟩ ⟨fun wx hx=>Ob.o (O.move rfl kR),
     fun wx hx=>Ob.o (O.gI runUnderlying90 sizeOf89 rfl rfl (by decide) (by decide) kR),
     fun wx hx=>Ob.o (O.ak isAgg89 sizeOf89 rfl rfl (Row.part (Row.ay (cs:=x0.cells++x1.cells) (hEA wx (abm.trans hx))) 0 4) kR),
     fun wx hx=>Ob.o (O.move rfl kR),
     fun wx hx=>Ob.o (O.call (xs:=[.tmp 126,.tmp 127]) call43 rfl rfl (uo x0 S wx hx0 (by omega)) (fun v wy h=>(by obtain ⟨⟨z,h1,h2⟩,h3⟩:=h;exact ⟨h3,z,h1,by omega⟩))),
     fun wx hx=>Ob.o (O.gI runUnderlying90 sizeOf89 rfl rfl (by decide) (by decide) kR),
     fun wx hx=>Ob.o (O.ak isAgg89 sizeOf89 rfl rfl (Row.part (Row.ay (cs:=x0.cells++x1.cells) (hEA wx (abm.trans hx))) 4 4) kR),
     fun wx hx=>Ob.o (O.gI runUnderlying90 sizeOf89 rfl rfl (by decide) (by decide) kR),
     fun wx hx=>Ob.o (O.ak isAgg89 sizeOf89 rfl rfl (Row.part (Row.ay (cs:=x0.cells++x1.cells) (hEA wx (abm.trans hx))) 0 4) kR),
     fun wx hx=>Ob.o (O.move rfl kR),
     fun wx hx=>Ob.o (O.call (xs:=[.tmp 132,.tmp 133]) call43 rfl rfl (uo x0 S wx hx0 (by omega)) (fun v wy h=>(by obtain ⟨⟨z,h1,h2⟩,h3⟩:=h;exact ⟨h3,z,h1,by omega⟩))),
     fun wx hx ajL aap=>by { obtain ⟨z2,rfl,hz2'⟩:=aap;exact Ob.o (O.call (xs:=[.tmp 130,.tmp 134]) call43 rfl rfl (uo x1 z2 wx hx1 (by omega)) (fun v wy h=>(by obtain ⟨⟨z,h1,h2⟩,h3⟩:=h;exact ⟨h3,z,h1,by omega⟩))) },
     fun wx hx=>Ob.o (O.move rfl kR),
     fun wx hx ajM aaq ajN aar=>by { obtain ⟨z1,rfl,hz1'⟩:=aaq;obtain ⟨z3,rfl,ajO⟩:=aar;exact Ob.o (O.build (v:=.agg #[str S,str z1,str z3,str tt]) (parts:=[(0,.tmp 124),(1,.tmp 128),(2,.tmp 135),(3,.tmp 136)]) (vs:=[(0,_),(1,_),(2,_),(3,_)]) rfl (fun w=>by kernel_rfl) ⟨Keep.refl _ _,aak (w:=wx) (by omega) (by omega) ajO (by omega)⟩) },
     fun wx hx=>Ob.o (O.move rfl kR),
     trivial⟩ (fun w32 RU ajM aaq ajL aap ajN aar alk aei=>?_)
   refine L.nil (?_)
   obtain ⟨za,zb,zc,zd,rfl,hz4⟩:=aei
   have ajP:=abm.trans RU
   refine T.block (?_)
   refine T.loop (σ:=Nat) (fun k=>[(5,.slice oc m2 cpc),(6,str tt),(12,.pointer (some ⟨b12,0,none⟩)),(18,.slice oa ps.length cpa),(19,.slice ob bs.length cpb),(21,.pointer (some ⟨b21,0,none⟩)),(23,q),(88,.agg (r0.cells++(r1.short m1).cells).toArray),(89,.int .i64 i),(100,.agg #[.slice oa ps.length cpa,.slice ob bs.length cpb,.slice oc m2 cpc,.slice oa m3 cpa]),(101,.int .i64 j),(137,.agg #[str za,str zb,str zc,str zd]),(138,.int .i64 k)]) (fun k w'=>k≤4∧Ext w22 w') (fun k=>4-k) (0) ⟨rfl,rfl,rfl,rfl,rfl,rfl,rfl,rfl,rfl,rfl,rfl,rfl,rfl,trivial⟩ ⟨Nat.zero_le _,ajP⟩ ?_
   rintro k w33 ⟨hk,EH⟩
   refine T.q (L.o (O.aV rfl rfl (fun hltk=>?_) (fun hltk=>?_)))
   ·refine L.nil (?_)
    have aej:k<4:=by omega
    obtain ⟨z,ajQ,hzl⟩:=hz4 k aej
    refine T.seq (T.ct (T.skip (T.seq (T.block (T.q (L.o (O.Ea runUnderlying96 isAgg9 sizeOf9 rfl rfl (by omega) (by omega) ajQ (L.a rfl (L.nil (T.q (L.o (O.ak isAgg25 sizeOf25 rfl rfl (Row.ay (cs:=y.cells) (hYA w33 EH)) (L.m rfl (L.o (O.call (xs:=[.tmp 142,.tmp 143]) call13 rfl rfl (tH 0 y z w33 (hyA w33 EH) (hLA w33 EH) hzl) (fun v34 w34 hq=>?_))))))))))))))))
    obtain ⟨p1,rfl,hp1,LD⟩:=hq
    have aek:=EH.trans LD
    refine L.m rfl (L.o (O.extract rfl rfl (L.o (O.extract rfl rfl (L.o (O.extract rfl rfl (L.a rfl (L.a rfl (L.a rfl (L.nil (T.q (L.o (O.ak isAgg25 sizeOf25 rfl rfl (Row.ay (cs:=y.cells) (hYA w34 aek)) (L.m rfl (L.o (O.call (xs:=[.tmp 149,.tmp 150]) call44 rfl rfl (IY 0 y z w34 (hyA w34 aek) hzl) (fun v35 w35 hq=>?_)))))))))))))))))
    obtain ⟨p2,rfl,hp2,Ci⟩:=hq
    rw [← AL] at hp2
    rw [← AL]
    have aas:=aek.trans Ci
    refine L.m rfl (L.o (O.extract rfl rfl (L.o (O.extract rfl rfl (L.o (O.extract rfl rfl (L.a rfl (L.a rfl (L.a rfl (L.nil (T.q (L.o (O.ak isAgg25 sizeOf25 rfl rfl (Row.ay (cs:=y.cells) (hYA w35 aas)) (L.m rfl (L.m rfl (L.o (O.call (xs:=[.tmp 156,.tmp 157,.tmp 158]) call14 rfl rfl (lF 0 y (.slice oa ps.length cpa) ps z w35 (hyA w35 aas) (hpA w35 aas) (hLA w35 aas) hzl) (fun v36 w36 hq=>?_))))))))))))))))))
    obtain ⟨p3,rfl,hp3,aat⟩:=hq
    have UA:=aas.trans aat
    refine L.m rfl (L.o (O.extract rfl rfl (L.o (O.extract rfl rfl (L.o (O.extract rfl rfl (L.a rfl (L.a rfl (L.a rfl (L.nil (T.q (L.o (O.ak isAgg25 sizeOf25 rfl rfl (Row.ay (cs:=y.cells) (hYA w36 UA)) (L.m rfl (L.m rfl (L.o (O.call (xs:=[.tmp 164,.tmp 165,.tmp 166]) call45 rfl rfl (oO 0 y (.slice oa ps.length cpa) ps z w36 (hyA w36 UA) (hpA w36 UA) hzl) (fun v37 w37 hq=>?_))))))))))))))))))
    obtain ⟨p4,rfl,hp4,XG⟩:=hq
    rw [← oh] at hp4
    rw [← oh]
    have ael:=UA.trans XG
    refine L.m rfl (L.o (O.extract rfl rfl (L.o (O.extract rfl rfl (L.o (O.extract rfl rfl (L.a rfl (L.a rfl (L.a rfl (L.nil (T.q (L.m rfl (L.m rfl (L.o (O.call (xs:=[.tmp 171,.tmp 172]) call46 rfl rfl (pW 0 0 p1 p2 (fP y z).1 (fP y z).1 w37 (hp1.ext ((Ci.trans aat).trans XG)) (hp2.ext (aat.trans XG)) rfl) (fun v38 w38 hq=>?_))))))))))))))))
    obtain ⟨rfl,CO⟩:=hq
    refine L.o (O.not rfl (L.m rfl (L.m rfl (L.m rfl (L.o (O.jD rfl rfl rfl (L.o (O.ah rfl rfl (L.m rfl (L.m rfl (L.m rfl (L.o (O.jD rfl rfl rfl (L.o (O.ah rfl rfl (L.m rfl (L.m rfl (L.m rfl (L.o (O.call (xs:=[.tmp 186,.tmp 187]) call46 rfl rfl (pW 0 0 p3 p4 (fF y ps z).1 (fF y ps z).1 w38 (hp3.ext (XG.trans CO)) (hp4.ext CO) rfl) (fun v39 w39 hq=>?_)))))))))))))))))))))
    obtain ⟨rfl,ajR⟩:=hq
    refine L.o (O.not rfl (L.o (O.ah rfl rfl (L.m rfl (L.m rfl (L.m rfl (L.o (O.jD rfl rfl rfl (L.o (O.ah rfl rfl (L.m rfl (L.m rfl (L.m rfl (L.o (O.jD rfl rfl rfl (L.o (O.ah rfl rfl (L.nil (T.cf (T.skip (T.blk (T.region (L.o (O.aC rfl rfl (by omega) (L.m rfl (L.nil (T.again (k+1) (by omega) ⟨rfl,rfl,rfl,rfl,rfl,rfl,rfl,rfl,rfl,rfl,rfl,rfl,rfl,trivial⟩ ⟨by omega,(ael.trans CO).trans ajR⟩)))))))))))))))))))))))))))
   refine L.nil (T.seq (T.cf (T.exit rfl (T.q (L.o (O.ak isAgg25 sizeOf25 rfl rfl (Row.ay (cs:=y.cells) (hYA w33 EH)) (L.m rfl (L.m rfl (L.o (O.call (xs:=[.tmp 203,.tmp 204,.tmp 205]) call14 rfl rfl (lF 0 y q xs tt w33 (hyA w33 EH) (hqi w33 EH) (hLA w33 EH) (by omega)) (fun v36 w36 hq=>?_)))))))))))
   obtain ⟨p3,rfl,hp3,aat⟩:=hq
   have UA:=EH.trans aat
   refine L.m rfl (L.o (O.extract rfl rfl (L.o (O.extract rfl rfl (L.o (O.extract rfl rfl (L.a rfl (L.a rfl (L.a rfl (L.nil (T.q (L.o (O.ak isAgg25 sizeOf25 rfl rfl (Row.ay (cs:=y.cells) (hYA w36 UA)) (L.m rfl (L.m rfl (L.o (O.call (xs:=[.tmp 211,.tmp 212,.tmp 213]) call45 rfl rfl (oO 0 y q xs tt w36 (hyA w36 UA) (hqi w36 UA) (by omega)) (fun v37 w37 hq=>?_))))))))))))))))))
   obtain ⟨p4,rfl,hp4,XG⟩:=hq
   rw [← oh] at hp4
   rw [← oh]
   have ael:=UA.trans XG
   refine L.m rfl (L.o (O.extract rfl rfl (L.o (O.extract rfl rfl (L.o (O.extract rfl rfl (L.a rfl (L.a rfl (L.a rfl (L.nil (T.q (L.m rfl (L.m rfl (L.o (O.call (xs:=[.tmp 218,.tmp 219]) call46 rfl rfl (pW 0 0 p3 p4 (fF y xs tt).1 (fF y xs tt).1 w37 (hp3.ext XG) hp4 rfl) (fun v38 w38 hq=>?_))))))))))))))))
   obtain ⟨rfl,CO⟩:=hq
   refine L.o (O.not rfl (L.m rfl (L.m rfl (L.m rfl (L.o (O.jD rfl rfl rfl (L.o (O.ah rfl rfl (L.m rfl (L.m rfl (L.m rfl (L.o (O.jD rfl rfl rfl (L.o (O.ah rfl rfl (L.nil (T.cf (T.skip (T.blk (T.region (L.o (O.aC rfl rfl (by omega) (L.m rfl (L.nil (T.again (j+1) (by omega) ⟨rfl,rfl,rfl,rfl,rfl,rfl,rfl,rfl,rfl,rfl,trivial⟩ ⟨by omega,ael.trans CO⟩)))))))))))))))))))))))))
  refine L.nil (T.seq (T.cf (T.exit rfl (T.blk (T.region (L.o (O.aC rfl rfl (by omega) (L.m rfl (L.nil (T.again (i+1) (by omega) ⟨rfl,rfl,rfl,rfl,rfl,rfl,rfl,trivial⟩ ⟨hlt',rF.trans Q7⟩))))))))))
 refine L.nil (T.seq (T.cf (T.exit rfl (T.q (L.a rfl (L.nil (T.aN results6 rfl ⟨rfl,XC.trans WZ⟩)))))))
end Go.Proofs.YtnlonpcbgjbbaaaGreatDoor
