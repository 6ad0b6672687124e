/-
  BlocksReads, part 14 of its proof: that it returns true for every input, and each argument reads behind the call as it read before. Conditions: the listed variables read as the program's text lays them (tied by the card).
-/
import Derived.Test.YtnlonpcbgjbbaaaGreatDoorWBlocksReads13
import Derived.Lib.ItoaLen
set_option linter.unusedVariables false
set_option linter.unusedSimpArgs false
set_option maxRecDepth 20000
set_option linter.unusedVariables false
set_option linter.unusedSimpArgs false
set_option maxRecDepth 20000
namespace Go.Proofs.YtnlonpcbgjbbaaaGreatDoor
open Go.Proofs.Tryz (call106 call107 call144 call27 call41 call52 call53 call54 call55 call56 call57 call58 call66 call96 func12 func13 func14 func41 func56 func95 func96 func99 isAgg171 isAgg23 isAgg25 isAgg3 isAgg31 isAgg9 ntmps12 ntmps13 ntmps14 ntmps41 ntmps56 ntmps95 ntmps96 ntmps99 results12 results13 results14 results41 results56 results95 results96 results99 runUnderlying171 runUnderlying23 runUnderlying25 runUnderlying3 runUnderlying31 runUnderlying5 runUnderlying51 runUnderlying54 runUnderlying61 runUnderlying9 sizeOf171 sizeOf23 sizeOf25 sizeOf3 sizeOf31 sizeOf4 sizeOf51 sizeOf9 zeroValue171 zeroValue4)
open Go Go.E RowKit
attribute [local irreducible] Go.E.T Go.E.L Go.E.O Go.E.Ob
attribute [local irreducible] Go.E.ObX Go.E.ObG Go.E.ObK
theorem results_tmp3 {P:Program} {fn:Func} {s s' s'':Tmp} (h:fn.results=#[.tmp s,.tmp s',.tmp s'']) (T:Array Value) (w:World):(results fn T).run P w = .ok (.tuple #[T.getD s undef,T.getD s' undef,T.getD s'' undef]) w:=by
 simp [results,h]
theorem T.vK {P:Program} {fn:Func} {n:Nat} {R:Value→World→Prop} {k:List It} {e:Env} {w:World} {s s' s'':Tmp} {v v' v'':Value} (hres:fn.results=#[.tmp s,.tmp s',.tmp s'']) (hv:Go.E.look e s=some v) (hv':Go.E.look e s'=some v') (ahw:Go.E.look e s''=some v'') (h:R (.tuple #[v,v',v'']) w):T (Rn P fn n R) (.code .ret::k) e w :=
 T.ret fun a ha=>bodyPost_ret (results_tmp3 hres _ _) ha.defers (by
  have h1:=ha.sat.get s v hv
  have h2:=ha.sat.get s' v' hv'
  have h3:=ha.sat.get s'' v'' ahw
  simp [Array.getD_eq_getD_getElem?,h1,h2,h3];exact h)
theorem Tj {α β:Type} [DecidableEq α] {kvs:List (α × β)} {k:α} {v:β} (h:k∉kvs.map (·.1)):vX kvs k v=kvs ++ [(k,v)]:=by
 have:dM kvs k 0=none:=by
  have h1:=mV h
  rw [gy] at h1
  cases hf:dM kvs k 0 with
  | none=>rfl
  | some p=>rw [hf] at h1;cases h1
 rw [vX,this]
def xR (t:Str):Str:=Lib.trimSuffix (if Lib.hasSuffix t [10]=true then t else t ++ [0,10]) [10]
theorem Wv (s p:Str):(Lib.trimSuffix s p).length≤s.length:=by
 unfold Lib.trimSuffix
 split
 ·rw [List.length_take];omega
 exact Nat.le_refl _
theorem Tm (t:Str):(xR t).length≤t.length+2:=by
 unfold xR
 refine Nat.le_trans (Wv _ _) ?_
 split
 ·omega
 simp
def keysA (nm:Nat→Str) (n:Nat):List (Str × Nat):=(List.range n).map fun i=>(nm i,i)
theorem sZ (nm:Nat→Str) (n:Nat):keysA nm (n+1)=keysA nm n ++ [(nm n,n)]:=by simp [keysA,List.range_succ]
theorem xU {nm:Nat→Str} {n:Nat} (h:∀ k,k<n→nm k≠nm n):nm n∉(keysA nm n).map (·.1):=fun hm=>by
 simp only [keysA,List.map_map,List.mem_map,List.mem_range,Function.comp] at hm
 obtain ⟨k,hk,e⟩:=hm
 exact h k hk e
theorem Tn {nm:Nat→Str} {n:Nat} : ∀ p∈keysA nm n,p.2<n:=fun p hp=>by
 simp only [keysA,List.mem_map,List.mem_range] at hp
 obtain ⟨k,hk,rfl⟩:=hp
 exact hk
theorem IL {τ:Type} (step:τ→Str→Option τ):∀ (L:List Str) (s:τ) (n m:Nat),rQ step s L n = .inr m→n≤m
 | [],s,n,m,h=>by simp [rQ] at h
 | l::r,s,n,m,h=>by
  rw [rQ] at h
  cases hs:step s l with
  | none=>rw [hs] at h;simp at h;omega
  | some s'=>rw [hs] at h;have:=IL step r s' (n+1) m h;omega
def bI (nm:Nat→Str) (xs:List Int) (t:Str):List Int × Nat × Int :=
 if 40000<t.length then ([],0,3) else match rQ jy (true,keysA nm xs.length,xs) (aK 10 (xR t)) 1 with
  | .inl s=>(s.2.2,0,0)
  | .inr m=>([],m,5)
def nmA (us:List UnV) (i:Nat):Str:=(us.getD i u0).nm
theorem JZ {base n:Nat} {xs:List Int} {v:Value} {w:World} (h:w.ownsRow base 3 1 v n (xs.map (Value.int .i64))) (hn:0<n):∃ b cap cur,v = .slice (some ⟨b,0,none⟩) n cap∧base≤b∧Blk w b cur 3∧n≤cap∧cap≤maxLen∧cur.length=cap∧cur.take n=xs.map (Value.int .i64):=by
 rcases h.2 with ⟨_,h0⟩|⟨g,cap,cur,rfl,hbase,hg,hn',hm,hsz,htk⟩
 ·omega
 exact ⟨g,cap,cur.toList,rfl,by omega,by unfold Blk;simpa using hg,hn',hm,by simpa using hsz,by simpa using htk⟩
theorem J3 {w:World} {b n cap:Nat} {cs:List Value} {xs:List Int} {t:TypeId} (h:Blk w b cs t) (hl:cs.length=cap) (hc:n≤cap) (hm:cap≤maxLen) (ht:cs.take n=xs.map (Value.int .i64)) (hn:xs.length=n):Ints .i64 0 w (.slice (some ⟨b,0,none⟩) n cap) xs:=by
 have:=U5 h hl hc hm
 rw [ht,← hn] at this
 subst hn
 exact this
theorem mW (lo:Nat) (p:Value) (xs:List Int) (w:World) (hp:Ints .i64 lo w p xs) (hlen:xs.length≤1000000) :
  Calls Tryz.prog 41 #[p] w (Ret fun v w'=>Ext w w'∧w'.ownsRow w.heap.size 3 1 v xs.length (xs.map (Value.int .i64))):=by
 refine T.enter (vs:=[p]) func41 rfl ntmps41 rfl ?_
 refine T.q (L.a rfl (L.nil (T.seq (T.q (L.m rfl (L.o (O.Ef runUnderlying31 rfl rfl hp (fun hn=>?_) (fun hn=>?_))))))))
 ·refine L.nil (T.ct (T.q (L.a rfl (L.nil (T.aN results41 rfl ⟨Keep.refl _ _,?_⟩)))))
  have:xs = []:=List.length_eq_zero_iff.1 hn
  subst this
  exact dW _ _ _ _
 refine L.nil (T.cf (T.skip (T.q (L.o (O.buildSlice (el:=3) (parts:=[]) (vs:=[]) (cs:=[]) rfl (fun w=>by kernel_rfl) (fun b5 w5 hb5 hz5 he5 hB5=>?_))))))
 have hO5:w5.ownsRow w.heap.size 3 1 (.slice (some ⟨b5,0,none⟩) 0 0) 0 []:=kL (n:=0) hB5 (by omega) (Nat.le_refl _) (by decide) rfl
 refine L.m rfl (L.o (O.append (size:=1) (bytes:=8) runUnderlying31 Tryz.jK rfl rfl rfl rfl (by decide) rfl rfl hO5 (hp.keep (he5.mono (Nat.zero_le _))) (by intro c hc;simp at hc;obtain ⟨_,_,rfl⟩:=hc;rfl) (by omega) (by simp only [maxLen];omega) (by omega) (fun v7 w7 hO7 hG7=>?_)))
 refine L.a rfl (L.nil (T.aN results41 rfl ⟨he5.dV hO5 hG7 (by omega),by simpa using hO7⟩))
set_option maxHeartbeats 1000000 in
theorem xW (lo:Nat) (r:RoV) (oa:Option Addr) (cp0:Nat) (xs:List Int) (t:Str) (w:World) (hr:r.ok lo w) (hp:Ints .i64 0 w (.slice oa xs.length cp0) xs) (hL:ji w) (h0:bD r) (hn:xs.length≤r.us.length) (h1:0<xs.length) (hu:r.us.length≤64) (ht:t.length≤1000000) :
  Calls Tryz.prog 56 #[r.val,.slice oa xs.length cp0,str t] w (Ret fun v w'=>∃ pv,v = .tuple #[pv,.int .i64 ((bI (nmA r.us) xs t).2.1:Int),.int .i64 (bI (nmA r.us) xs t).2.2]∧Ints .i64 0 w' pv (bI (nmA r.us) xs t).1∧Ext w w'):=by
 refine T.enter (vs:=[r.val,.slice oa xs.length cp0,str t]) func56 rfl ntmps56 rfl ?_
 refine T.q (L.o (O.box rfl (fun b3 w3 hb3 hz3 he3 hB3=>?_)))
 refine L.o (O.box rfl (fun b4 w4 hb4 hz4 he4 hB4=>?_))
 have hC4:Blk w4 b3 r.cells _:=Blk.ext (cs:=r.cells) hB3 he4
 have jV:=he3.trans he4
 refine L.a rfl (L.a rfl (L.a rfl (L.nil (T.seq (T.q (L.m rfl (L.o (O.bP runUnderlying9 rfl (L.o (O.fG rfl rfl (fun hbig=>?_) (fun hbig=>?_)))))))))))
 ·refine L.nil (?_)
  have hr1:bI (nmA r.us) xs t=([],0,3):=by rw [bI,if_pos (by omega)]
  refine T.ct (T.q (L.a rfl (L.a rfl (L.a rfl (L.nil (T.vK results56 rfl rfl rfl ⟨.slice none 0 0,by rw [hr1];rfl,by rw [hr1];exact Sl.nil _ _ _,jV⟩))))))
 refine L.nil (T.cf (T.skip (T.q (L.o (O.qw (kf:=str) (vf:=(Value.int .i64)) (fun b16 w16 hb16 XV Ac ahx=>?_))))))
 have ahy:Ext w4 w16:=Ac
 refine L.o (O.alloc zeroValue171 (fun b9 w9 hb9 hz9 he9 hB9=>?_))
 refine L.o (O.store1 sizeOf171 rfl rfl rfl hB9 (by simp [Value.cells]) (fun w10 Nk xq=>?_))
 have ahz:oV str nV w10 b16 []:=(ahx.keep he9 (Nat.zero_le _)).upd Nk (by omega)
 have Wx:Ext w4 w10:=(Ac.trans he9).upd Nk (.inr (by omega))
 refine L.nil (T.seq (T.q (L.o (O.load isAgg31 rfl ((Blk.ext (cs:=[.slice oa xs.length cp0]) hB4 Wx).cell rfl) (L.o (O.len runUnderlying31 rfl (Sl.val (hp.ext (jV.trans Wx))) (L.m rfl (L.nil (T.block (?_))))))))))
 refine T.loop (σ:=Nat) (fun i=>[(2,str t),(3,.pointer (some ⟨b3,0,none⟩)),(4,.pointer (some ⟨b4,0,none⟩)),(9,.pointer (some ⟨b9,0,none⟩)),(18,.int .i64 xs.length),(19,.int .i64 i)]) (fun i W=>i≤xs.length∧Ext w4 W∧oV str nV W b16 (keysA (nmA r.us) i)∧Blk W b9 [.map (some b16)] 171) (fun i=>xs.length-i) (0) ⟨rfl,rfl,rfl,rfl,rfl,rfl,trivial⟩ ⟨Nat.zero_le _,Wx,ahz,xq⟩ ?_
 rintro i w11 ⟨hi,eU,KU,aa7⟩
 refine T.q (L.o (O.aV rfl rfl (fun hlt=>?_) (fun hlt=>?_)))
 ·refine L.nil (?_)
  have hlt':i<xs.length:=by omega
  have hir:i<r.us.length:=by omega
  have X7:Units lo w11 r.uv r.us:=hr.ext (jV.trans eU)
  refine T.seq (T.ct (T.skip (T.seq (T.block (T.q (L.m rfl (L.a rfl (L.nil (?_)))))))))
  refine T.dL mixed 8 [9,3,10] rfl [.is _,.is _,.is _,.is _,.is _,.is _,.is _,.is _] [[],[],[1],[],[2,3],[4],[5],[]] [[],[],[1],[],[1,2,3],[1,2,3,4],[1,2,3,4,5],[],[0,1,2,3,4,5,6,7]] (by kernel_rfl) (by kernel_rfl) rfl (by kernel_rfl) trivial ⟨fun wx hx=>Ob.o (O.load isAgg171 rfl ((Blk.ext (cs:=[.map (some b16)]) aa7 hx).cell rfl) kR),
    fun wx hx=>Ob.o (O.fieldAddr runUnderlying25 rfl sizeOf23 rfl kR),
    fun wx hx=>Ob.o (O.load isAgg23 rfl ((Blk.ext (cs:=r.cells) hC4 (eU.trans hx)).cell rfl) kR),
    fun wx hx=>Ob.o (O.move rfl kR),
    fun wx hx=>Ob.o (O.indexAddr runUnderlying23 sizeOf51 rfl rfl ((X7.ext hx).sl) (by omega) (by omega) kR),
    fun wx hx=>Ob.o (O.fieldAddr runUnderlying51 rfl sizeOf9 rfl kR),
    fun wx hx=>Ob.o (O.load isAgg9 rfl ((X7.ext hx).name hir) kR),
    fun wx hx=>Ob.o (O.move rfl kR),
    trivial⟩ (fun w7 he7=>?_)
  refine L.o (O.jT (kf:=str) (vf:=nV) (v:=i) iY runUnderlying171 runUnderlying9 rfl rfl rfl (KU.keep he7 (Nat.zero_le _)) (fun w12 afc afd=>?_))
  have hnew:∀ k,k<i→nmA r.us k≠nmA r.us i:=fun k hk=>(h0.good i hir).name k hk
  rw [show (r.us.getD i u0).nm=nmA r.us i from rfl,Tj (xU hnew),← sZ] at afd
  refine L.nil (T.blk (T.region (L.o (O.aC rfl rfl (by omega) (L.m rfl (L.nil (T.again (i+1) (by omega) ⟨rfl,rfl,rfl,rfl,rfl,rfl,trivial⟩ ⟨hlt',(eU.trans he7).upd afc (.inr (by have:=Ac.size;omega)),afd,Blk.upd (cs:=[.map (some b16)]) (Blk.ext (cs:=[.map (some b16)]) aa7 he7) afc (by omega)⟩)))))))
 refine L.nil (?_)
 obtain rfl:i=xs.length:=by omega
 refine T.seq (T.cf (T.exit rfl (T.q (L.o (O.load isAgg31 rfl ((Blk.ext (cs:=[.slice oa xs.length cp0]) hB4 eU).cell rfl) (L.o (O.call (xs:=[.tmp 31]) call41 rfl rfl (mW 0 (.slice oa xs.length cp0) xs w11 (hp.ext (jV.trans eU)) (by omega)) (fun v20 w20 hq=>?_))))))))
 obtain ⟨Q5,UM⟩:=hq
 obtain ⟨bs,cap,cur,rfl,hbs,ahA,hc1,hc2,hc3,hc4⟩:=JZ UM h1
 refine L.o (O.store1 sizeOf31 rfl rfl rfl (Blk.ext (cs:=[.slice oa xs.length cp0]) hB4 (eU.trans Q5)) (by simp [Value.cells]) (fun w21 hu21 X8=>?_))
 have akk:∀ {W:World},Ext w4 W→Blk W b3 r.cells _:=fun k=>Blk.ext (cs:=r.cells) hC4 k
 have UK:=eU.size
 have ahB:=Ac.size
 have afe:Blk w21 b9 [.map (some b16)] 171:=Blk.upd (cs:=[.map (some b16)]) (Blk.ext (cs:=[.map (some b16)]) aa7 Q5) hu21 (by omega)
 have aff:GY str nV w21 b16 (keysA (nmA r.us) xs.length):=((GY.aht KU).keep Q5).upd hu21 (by omega)
 have afg:Blk w21 bs cur 3:=Blk.upd ahA hu21 (by omega)
 have uH:Ext w w21:=(he3.trans ((he4.trans (eU.trans Q5)).upd hu21 (.inr (by omega))))
 refine L.nil (T.seq (T.q (L.m rfl (L.o (O.call (xs:=[.tmp 33,_]) call106 rfl rfl (xM t [10] w21 (by omega)) (fun v22 w22 hq=>?_))))))
 obtain ⟨rfl,rfl⟩:=hq
 refine L.o (O.not rfl (L.nil (?_)))
 refine T.join (σ:=Unit) (fun _=>[(2,str (if Lib.hasSuffix t [10]=true then t else t ++ [0,10])),(4,.pointer (some ⟨b4,0,none⟩)),(9,.pointer (some ⟨b9,0,none⟩))]) (fun _ w'=>w'=w22) ?_ ?_
 ·rcases hsf:Lib.hasSuffix t [10] with _|_
  ·refine T.ct (T.region (L.m rfl (L.o (O.bQ rfl rfl (by show t.length+2≤_;omega) (L.a rfl (L.nil (T.meet (()) ⟨?_,rfl,rfl,trivial⟩ rfl)))))))
   ·exact congrArg (fun z=>some (str z)) (if_neg (by simp)).symm
  refine T.cf (T.skip (T.meet (()) ⟨?_,rfl,rfl,trivial⟩ rfl))
  ·exact congrArg (fun z=>some (str z)) (if_pos rfl).symm
 rintro _ w23 rfl
 refine T.q (L.o (O.alloc zeroValue4 (fun b24 w24 akl ahC uG SS=>?_)))
 refine L.o (O.store1 sizeOf4 rfl rfl rfl SS (by simp [Value.cells]) (fun w25 EG yZ=>?_))
 have ahC:=uG.size
 have hlen2:(if Lib.hasSuffix t [10]=true then t else t ++ [0,10]).length≤50000:=by split;omega;rw [List.length_append];show t.length+2≤_;omega
 refine L.nil (T.q (L.m rfl (L.o (O.call (xs:=[.tmp 38,_]) call27 rfl rfl (vI (if Lib.hasSuffix t [10]=true then t else t ++ [0,10]) [10] w25 (by omega)) (fun v26 w26 hq=>?_)))))
 obtain ⟨afh,rfl⟩:=hq
 have hbl:=Tm t
 have hl9:=Blk.lt (cs:=[.map (some b16)]) afe
 have hlM:=aff.lt
 have hlS:=Blk.lt afg
 have hlP:=Blk.lt (cs:=[.slice (some ⟨bs,0,none⟩) xs.length cap]) X8
 have hzw:=uH.size
 have akm:=Blk.lt (cs:=[.map (some b16)]) aa7
 have akn:=he3.size
 have acK:v26=str (xR t):=afh
 subst acK
 clear afh
 have ahD:AsI w b24 b16 b9 b4 bs xs.length cap (true,keysA (nmA r.us) xs.length,xs) (fun _=>False) w26:=⟨(uH.trans uG).upd EG (.inr (by have:=uH.size;omega)),yZ,Blk.upd (cs:=[.map (some b16)]) (Blk.ext (cs:=[.map (some b16)]) afe uG) EG (by omega),(aff.keep uG).upd EG (by omega),Blk.upd (cs:=[.slice (some ⟨bs,0,none⟩) xs.length cap]) (Blk.ext (cs:=[.slice (some ⟨bs,0,none⟩) xs.length cap]) X8 uG) EG (by omega),⟨cur,Blk.upd (Blk.ext afg uG) EG (by omega),hc3,hc4⟩,rfl,⟨hc1,hc2⟩,Tn,by omega,fun k hk=>hk.elim⟩
 refine L.o (O.makeFunc (fi:=[]) (ca:=[.tmp 11,.tmp 9,.tmp 4]) rfl rfl (L.o (O.call (xs:=[.tmp 39,.tmp 40]) call66 rfl rfl (qR (xR t) 107 #[] #[.pointer (some ⟨b24,0,none⟩),.pointer (some ⟨b9,0,none⟩),.pointer (some ⟨b4,0,none⟩)] jy (true,keysA (nmA r.us) xs.length,xs) (fun _ _ ↦ True) (AsI w b24 b16 b9 b4 bs xs.length cap) (fun S W ↦ Ext w W∧∀ k,S k→w.heap.size≤k∧k<W.heap.size) w26 (by omega) call107 AsI.EL (fun S W W' h k ↦ ⟨h.1.trans k,fun j hj ↦ ⟨(h.2 j hj).1,Nat.lt_of_lt_of_le (h.2 j hj).2 k.size⟩⟩) (fun S W W' b h hb k ↦ ⟨h.1.upd k (.inr (h.2 b hb).1),fun j hj ↦ ⟨(h.2 j hj).1,by rw [k.size];exact (h.2 j hj).2⟩⟩) (fun s S W h ↦ hL.ext h.e) (acJ w b24 b16 b9 b4 bs xs.length cap hL) trivial (fun _ _ _ _ _ _ ↦ trivial) ahD) (fun v27 w27 hq=>?_))))
 obtain ⟨hv27,ahE,ahF⟩:=hq
 rcases hrun:rQ jy (true,keysA (nmA r.us) xs.length,xs) (aK 10 (xR t)) 1 with s|m
 ·rw [hrun] at hv27
  obtain rfl:v27 = .int .i64 0:=hv27
  obtain ⟨S,X9⟩:=ahE s hrun
  obtain ⟨cur',c1,c2,c3⟩:=X9.c
  have hr1:bI (nmA r.us) xs t=(s.2.2,0,0):=by rw [bI,if_neg (by omega),hrun]
  refine L.a rfl (L.nil (T.seq (T.q (L.m rfl (L.o (O.y9 rfl rfl (by omega) (L.nil (T.cf (T.skip (T.q (L.o (O.load isAgg31 rfl (X9.p.cell rfl) (L.a rfl (L.a rfl (L.a rfl (L.nil (T.vK results56 rfl rfl rfl ⟨_,by rw [hr1];rfl,by rw [hr1];exact J3 c1 c2 X9.cp.1 X9.cp.2 c3 X9.len,X9.e⟩)))))))))))))))))
 rw [hrun] at hv27
 obtain rfl:v27 = .int .i64 (m:Int):=hv27
 obtain ⟨S,ahG⟩:=ahF m hrun
 have hm1:=IL _ _ _ _ _ hrun
 have hr1:bI (nmA r.us) xs t=([],m,5):=by rw [bI,if_neg (by omega),hrun]
 refine L.a rfl (L.nil (T.seq (T.q (L.m rfl (L.o (O.Bq rfl rfl (by omega) (L.nil (T.ct (T.q (L.m rfl (L.a rfl (L.a rfl (L.a rfl (L.nil (T.vK results56 rfl rfl rfl ⟨.slice none 0 0,by rw [hr1],by rw [hr1];exact Sl.nil _ _ _,ahG.1⟩)))))))))))))))
theorem oN (lo:Nat) (r:RoV) (p:Value) (xs:List Int) (t:Str) (w:World) (hr:r.ok lo w) (hp:Ints .i64 0 w p xs) (hL:ji w) (h0:bD r) (hn:xs.length≤r.us.length) (h1:0<xs.length) (hu:r.us.length≤64) (ht:t.length≤1000000) :
  Calls Tryz.prog 56 #[r.val,p,str t] w (Ret fun v w'=>∃ pv,v = .tuple #[pv,.int .i64 ((bI (nmA r.us) xs t).2.1:Int),.int .i64 (bI (nmA r.us) xs t).2.2]∧Ints .i64 0 w' pv (bI (nmA r.us) xs t).1∧Ext w w'):=by
 obtain ⟨oa,cp0,rfl,_,_⟩:=Sl.val hp
 exact xW lo r oa cp0 xs t w hr hp hL h0 hn h1 hu ht
open Go Go.E RowKit
theorem xX {c:Nat} : ∀ (ls:List Str),(∀ l∈ls,l.length≤c)→(aO ls).length≤ls.length*(c+1)
 | [],_=>by simp [aO]
 | l::r,h=>by
  have h1:=h l (by simp)
  have h2:=xX r fun x hx=>h x (List.mem_cons_of_mem _ hx)
  have e:aO (l::r)=l ++ [10]++aO r:=by simp [aO]
  have e2:(l::r).length*(c+1)=r.length*(c+1)+(c+1):=by rw [List.length_cons,Nat.succ_mul]
  have e3:(l ++ [10]++aO r).length=l.length+1+(aO r).length:=by simp only [List.length_append,List.length_cons,List.length_nil]
  rw [e,e3,e2]
  omega
theorem xY {r:RoV} (h:bD r) {i:Nat} (hi:i<r.us.length):nmA r.us i ≠ []∧(nmA r.us i).length≤12∧(nmA r.us i).all fD=true:=by
 have:=(h.good i hi).right
 simp only [bK,rW,List.all_cons,id,Bool.and_eq_true,Bool.not_eq_true',decide_eq_false_iff_not,decide_eq_true_eq] at this
 obtain ⟨h1,h2,h3,_⟩:=this
 exact ⟨h1,by unfold nmA;omega,h3⟩
def lV (nm:Nat→Str) (xs:List Int) (i:Nat):Str:=nm i ++ [44]++Lib.itoa (xs.getD i 0+1)
def eP (nm:Nat→Str) (xs:List Int) (n:Nat):List Str:=FI::(List.range n).map (lV nm xs)
theorem xZ (nm:Nat→Str) (xs:List Int) (n:Nat):eP nm xs (n+1)=eP nm xs n ++ [lV nm xs n]:=by simp [eP,List.range_succ]
theorem tu (nm:Nat→Str) (xs:List Int) (n:Nat):(eP nm xs n).length=n+1:=by simp [eP]
theorem pF {xs:List Int} {n:Int} (h:iH xs n=true):(xs.length:Int)=n∧∀ i,i<xs.length→0≤xs.getD i 0∧xs.getD i 0<8:=by
 rw [iH,Bool.and_eq_true,decide_eq_true_eq] at h
 refine ⟨h.1,fun i hi=>?_⟩
 have:=List.all_eq_true.1 h.2 (xs.getD i 0) (by rw [au hi];exact List.getElem_mem hi)
 simp only [DZ,Bool.not_eq_true',decide_eq_false_iff_not] at this
 omega
theorem FK {r:RoV} {xs:List Int} {i:Nat} (h:bD r) (hi:i<r.us.length) (hx:0≤xs.getD i 0∧xs.getD i 0<8):(lV (nmA r.us) xs i).length≤40:=by
 have h1:=(xY h hi).2.1
 have h2:=Lib.itoa_length_le (xs.getD i 0+1) (by omega) (by omega)
 rw [lV,List.length_append,List.length_append]
 simp only [List.length_cons,List.length_nil]
 omega
theorem FM {r:RoV} {xs:List Int} {n:Nat} (h:bD r) (hn:n≤r.us.length) (h64:r.us.length≤64) (hx:∀ i,i<n→0≤xs.getD i 0∧xs.getD i 0<8):(aO (eP (nmA r.us) xs n)).length≤40000:=by
 have:=xX (c:=40) (eP (nmA r.us) xs n) fun l hl=>by
  rcases List.mem_cons.1 hl with rfl|hl
  ·decide
  obtain ⟨i,hi,rfl⟩:=List.mem_map.1 hl
  have hi':=List.mem_range.1 hi
  exact FK h (by omega) (hx i hi')
 rw [tu] at this
 omega
def tC (base:Nat) (xs:List Str) (v:Value) (w:World):Prop:=w.ownsRow base 9 1 v xs.length (xs.map str)
theorem qV {base:Nat} {xs ys:List Str} {v:Value} {w:World} (h:w.ownsRow base 9 1 v (xs.length+ys.length) (xs.map str++ys.map str)):tC base (xs++ys) v w:=by
 unfold tC;rw [List.length_append,List.map_append];exact h
theorem jH (xs:List Str):∀ u∈xs.map str,u.oneCell'=true:=fun u hu=>by
 obtain ⟨s,_,rfl⟩:=List.mem_map.1 hu;rfl
def O7 (xs:List Str) (v:Value) (w:World):Prop:=Strs 0 w v xs
theorem O7.st {xs:List Str} : ∀ v w w',Ext w w'→O7 xs v w→O7 xs v w':=fun _ _ _ he h=>Strs.ext h he
noncomputable def mX (r:RoV) (xs:List Int):Str × Int :=
 @ite _ (bD r) (Classical.propDecidable _) (if iH xs (aB r.us)=true then (aO (eP (nmA r.us) xs xs.length),0) else ([],2)) ([],161)
theorem nX {r:RoV} {xs:List Int} (h:¬ bD r):mX r xs=([],161):=by unfold mX;exact if_neg h
theorem ku {r:RoV} {xs:List Int} (h:bD r):mX r xs=if iH xs (aB r.us)=true then (aO (eP (nmA r.us) xs xs.length),0) else ([],2):=by unfold mX;exact if_pos h
theorem kC (r:RoV):(dG r=0∧bD r∧rY r=aB r.us)∨(dG r=161∧¬ bD r):=by
 by_cases h:bD r
 ·exact .inl ⟨dS h,h,zY (dS h)⟩
 exact .inr ⟨bT h,h⟩
theorem uQ (lo:Nat) (r:RoV) (p:Value) (xs:List Int) (w:World) (hr:r.ok lo w) (hp:Ints .i64 0 w p xs) (hL:ji w) :
  Calls Tryz.prog 12 #[r.val,p] w (Ret fun v w'=>v = .tuple #[str (mX r xs).1,.int .i64 (mX r xs).2]∧Ext w w'):=by
 refine T.enter (vs:=[r.val,p]) func12 rfl ntmps12 rfl ?_
 refine T.q (L.o (O.box rfl (fun b2 w2 hb2 hz2 he2 hB2=>?_)))
 have hC2:Blk w2 b2 r.cells _:=hB2
 refine L.a rfl (L.a rfl (L.nil (T.q (L.o (O.ak isAgg25 sizeOf25 rfl rfl hC2.row (L.o (O.call (xs:=[.tmp 12]) call52 rfl rfl (rZ lo r w2 (hr.ext he2)) (fun v3 w3 hq=>?_))))))))
 obtain ⟨rfl,he3⟩:=hq
 have gV:=he2.trans he3
 rcases kC r with ⟨herr,hok,hln⟩|⟨herr,hok⟩
 ·rw [herr,hln]
  refine L.m rfl (L.o (O.extract rfl rfl (L.o (O.extract rfl rfl (L.a rfl (L.a rfl (L.nil (T.seq (T.q (L.m rfl (L.o (O.jD rfl rfl rfl (L.nil (T.cf (T.skip (T.seq (T.q (L.m rfl (L.m rfl (L.o (O.call (xs:=[.tmp 19,.tmp 20]) call53 rfl rfl (Ar 0 p xs (aB r.us) w3 (hp.ext gV)) (fun v4 w4 hq=>?_))))))))))))))))))))))
  obtain ⟨hv4,rfl⟩:=hq
  have hle:=jv r.us
  have h64:=(BZ herr).2.2.2.2.2.2.2
  cases hfit:iH xs (aB r.us)
  ·rw [hfit] at hv4
   subst hv4
   refine L.o (O.not rfl (L.nil (T.ct (T.q (L.a rfl (L.a rfl (L.nil (T.yX results12 rfl rfl ⟨by rw [ku hok,if_neg (by rw [hfit];simp)];rfl,gV⟩))))))))
  rw [hfit] at hv4
  subst hv4
  obtain ⟨hlen,hxs⟩:=pF hfit
  refine L.o (O.not rfl (L.nil (T.cf (T.skip (T.q (L.o (O.buildSlice (el:=9) (parts:=[(0,_)]) (vs:=[(0,_)]) (cs:=([FI].map str)) rfl (fun w=>by kernel_rfl) (fun b5 w5 hb5 hz5 he5 hB5=>?_))))))))
  have hO5:tC w4.heap.size (eP (nmA r.us) xs 0) (.slice (some ⟨b5,0,none⟩) 1 1) w5:=kL (n:=1) (cap:=1) (sz:=1) hB5 (by omega) (Nat.le_refl _) (by decide) rfl
  have Lj:=gV.trans he5
  refine L.a rfl (L.nil (T.seq (T.q (L.m rfl (L.o (O.len runUnderlying31 rfl (Sl.val hp) (L.m rfl (L.nil (T.block (?_))))))))))
  refine T.loop (σ:=Nat × Value) (fun g=>[(1,p),(2,.pointer (some ⟨b2,0,none⟩)),(8,g.2),(24,p),(25,.int .i64 xs.length),(26,.int .i64 g.1)]) (fun g W=>g.1≤xs.length∧Ext w W∧Ext w4 W∧tC w4.heap.size (eP (nmA r.us) xs g.1) g.2 W) (fun g=>xs.length-g.1) ((0,.slice (some ⟨b5,0,none⟩) 1 1)) ⟨rfl,rfl,rfl,rfl,rfl,rfl,trivial⟩ ⟨Nat.zero_le _,Lj,he5,hO5⟩ ?_
  rintro ⟨i,lv⟩ w6 ⟨hi,he6,zZ,hO6⟩
  simp only at hi hO6
  refine T.q (L.o (O.aV rfl rfl (fun hlt=>?_) (fun hlt=>?_)))
  ·refine L.nil (?_)
   have hlt':i<xs.length:=by simp only at hlt;omega
   have hir:i<r.us.length:=by omega
   have hC6:Blk w6 b2 r.cells _:=Blk.ext (cs:=r.cells) hC2 (he3.trans zZ)
   have hxi:=hxs i hlt'
   have hU6:Units lo w6 r.uv r.us:=hr.ext he6
   have hnl:=(xY hok hir).2.1
   have hll:=FK (xs:=xs) hok hir hxi
   have hit:=Lib.itoa_length_le (xs.getD i 0+1) (by omega) (by omega)
   refine T.seq (T.ct (T.skip (T.seq (T.block (T.q (L.m rfl (L.o (O.indexAddr runUnderlying31 sizeOf3 rfl rfl (hp.ext he6) (by omega) (by omega) (L.o (O.load isAgg3 rfl (Ints.at (hp.ext he6) hlt') (L.a rfl (L.a rfl (L.nil (?_))))))))))))))
   refine T.dL mixed 13 [8,2,9,10] rfl [.is _,.is _,.is _,.is _,.is _,.is _,.is _,.is _,.is _,.is _,.is (str (Lib.itoa (xs.getD i 0+1))),.is _,.such (O7 [lV (nmA r.us) xs i])] [[],[],[1],[],[2,3],[4],[5],[6],[],[8],[9],[7,10],[11]] [[],[],[1],[],[1,2,3],[1,2,3,4],[1,2,3,4,5],[1,2,3,4,5,6],[],[8],[8,9],[1,2,3,4,5,6,7,8,9,10],[1,2,3,4,5,6,7,8,9,10,11],[0,1,2,3,4,5,6,7,8,9,10,11,12],[0,1,2,3,4,5,6,7,8,9,10,11,12,13]] (by kernel_rfl) (by kernel_rfl) rfl (by kernel_rfl) ⟨O7.st,trivial⟩ ⟨fun wx hx=>Ob.o (O.move rfl kR),
     fun wx hx=>Ob.o (O.fieldAddr runUnderlying25 rfl sizeOf23 rfl kR),
     fun wx hx=>Ob.o (O.load isAgg23 rfl ((Blk.ext (cs:=r.cells) hC6 hx).cell rfl) kR),
     fun wx hx=>Ob.o (O.move rfl kR),
     fun wx hx=>Ob.o (O.indexAddr runUnderlying23 sizeOf51 rfl rfl ((hU6.ext hx).sl) (by omega) (by omega) kR),
     fun wx hx=>Ob.o (O.fieldAddr runUnderlying51 rfl sizeOf9 rfl kR),
     fun wx hx=>Ob.o (O.load isAgg9 rfl ((hU6.ext hx).name hir) kR),
     fun wx hx=>Ob.o (O.bQ rfl rfl (by show (r.us.getD i u0).nm.length+1≤_;unfold nmA at hnl;omega) kR),
     fun wx hx=>Ob.o (O.move rfl kR),
     fun wx hx=>Ob.o (O.aC rfl rfl (by have:=hxi;show -9223372036854775808≤xs.getD i 0+1∧xs.getD i 0+1≤9223372036854775807;omega) kR),
     fun wx hx=>Ob.o (O.call (xs:=[.tmp 40]) call54 rfl rfl (nU (xs.getD i 0+1) wx (hL.ext (he6.trans hx)) (by omega) (by omega)) (fun v wy h=>⟨h.2,h.1⟩)),
     fun wx hx=>Ob.o (O.bQ rfl rfl (by rw [List.length_append];show (r.us.getD i u0).nm.length+1+_≤_;unfold nmA at hnl;omega) kR),
     fun wx hx=>Ob.o (O.buildSlice (el:=9) (parts:=[(0,.tmp 42)]) (vs:=[(0,_)]) (cs:=([lV (nmA r.us) xs i].map str)) rfl (fun w=>by kernel_rfl) (fun b43 w43 agC agD YG abN=>⟨YG,Strs.ay abN rfl (by decide) (Nat.zero_le _)⟩)),
     trivial⟩ (fun w10 fZ v43 ahH=>?_)
   refine L.o (O.append (size:=1) (bytes:=16) runUnderlying61 Tryz.lX rfl rfl rfl rfl (by decide) rfl rfl (aH hO6 (fZ.mono (Nat.zero_le _)) (Nat.le_refl _)) ahH (jH _) (by simp only [tu,List.length_cons,List.length_nil];omega) (by simp only [tu,maxLen,List.length_cons,List.length_nil];omega) (by have:=zZ.size;have:=fZ.size;omega) (fun v7 w7 hO7 hG7=>?_))
   have aa8:Ext w4 w7:=Keep.dV (zZ.trans fZ) (aH hO6 (fZ.mono (Nat.zero_le _)) (Nat.le_refl _)) hG7 (Nat.le_refl _)
   refine L.a rfl (L.nil (T.blk (T.region (L.o (O.aC rfl rfl (by omega) (L.m rfl (L.nil (T.again ((i+1,v7)) (by omega) ⟨rfl,rfl,rfl,rfl,rfl,rfl,trivial⟩ ⟨hlt',gV.trans aa8,aa8,by rw [xZ];exact qV (ys:=[lV (nmA r.us) xs i]) hO7⟩))))))))
  refine L.nil (?_)
  obtain rfl:i=xs.length:=by simp only at hlt;omega
  refine T.seq (T.cf (T.exit rfl (T.q (L.m rfl (L.o (O.call (xs:=[.tmp 46]) call55 rfl rfl (uP 0 lv (eP (nmA r.us) xs xs.length) w6 ((Sl.aU hO6).mono (Nat.zero_le _)) (Nat.le_trans (FM hok (by omega) (by omega) hxs) (by omega))) (fun v8 w8 hq=>?_)))))))
  obtain ⟨rfl,he8⟩:=hq
  refine L.a rfl (L.a rfl (L.nil (T.yX results12 rfl rfl ⟨by rw [ku hok,if_pos hfit],he6.trans he8⟩)))
 rw [herr]
 refine L.m rfl (L.o (O.extract rfl rfl (L.o (O.extract rfl rfl (L.a rfl (L.a rfl (L.nil (T.seq (T.q (L.m rfl (L.o (O.Bz rfl rfl (by omega) (L.nil (T.ct (T.q (L.m rfl (L.a rfl (L.a rfl (L.nil (T.yX results12 rfl rfl ⟨by rw [nX hok];rfl,gV⟩))))))))))))))))))))
open Go Go.E RowKit
noncomputable def fF (r:RoV) (xs:List Int) (t:Str):List Int × Nat × Int :=
 @ite _ (bD r) (Classical.propDecidable _) (if iH xs (aB r.us)=true then bI (nmA r.us) xs t else ([],0,2)) ([],0,161)
theorem pG {r:RoV} {xs:List Int} {t:Str} (h:¬ bD r):fF r xs t=([],0,161):=by unfold fF;exact if_neg h
theorem nY {r:RoV} {xs:List Int} {t:Str} (h:bD r):fF r xs t=if iH xs (aB r.us)=true then bI (nmA r.us) xs t else ([],0,2):=by unfold fF;exact if_pos h
def uS (nm:Nat→Str) (n:Nat) (t:Str):List Int × Nat × Int :=
 let a:=bI nm (List.replicate n (-1)) t
 if a.2.2≠0 then ([],a.2.1,a.2.2) else if (-1:Int)∈a.1 then ([],0,4) else (a.1,0,0)
noncomputable def fP (r:RoV) (t:Str):List Int × Nat × Int :=
 @ite _ (bD r) (Classical.propDecidable _) (uS (nmA r.us) (aB r.us) t) ([],0,161)
theorem pI {r:RoV} {t:Str} (h:¬ bD r):fP r t=([],0,161):=by unfold fP;exact if_neg h
theorem kE {r:RoV} {t:Str} (h:bD r):fP r t=uS (nmA r.us) (aB r.us) t:=by unfold fP;exact if_pos h
theorem iQ {r:RoV} (h:bD r):0<aB r.us∧aB r.us≤r.us.length∧r.us.length≤64:=by
 have hb:=BZ (dS h)
 have hpos:0<r.us.length:=by omega
 have h0:=(h.good 0 hpos).first rfl
 refine ⟨?_,jv _,by omega⟩
 cases hus:r.us with
 | nil=>rw [hus] at hpos;simp at hpos
 | cons u us =>
  rw [hus] at h0
  have h0':u.wt=false:=h0
  simp [aB,h0']
theorem lF (lo:Nat) (r:RoV) (p:Value) (xs:List Int) (t:Str) (w:World) (hr:r.ok lo w) (hp:Ints .i64 0 w p xs) (hL:ji w) (ht:t.length≤1000000) :
  Calls Tryz.prog 14 #[r.val,p,str t] w (Ret fun v w'=>∃ pv,v = .tuple #[pv,.int .i64 ((fF r xs t).2.1:Int),.int .i64 (fF r xs t).2.2]∧Ints .i64 0 w' pv (fF r xs t).1∧Ext w w'):=by
 refine T.enter (vs:=[r.val,p,str t]) func14 rfl ntmps14 rfl ?_
 refine T.q (L.o (O.box rfl (fun b2 w2 hb2 hz2 he2 hB2=>?_)))
 have hC2:Blk w2 b2 r.cells _:=hB2
 refine L.a rfl (L.a rfl (L.a rfl (L.nil (T.q (L.o (O.ak isAgg25 sizeOf25 rfl rfl hC2.row (L.o (O.call (xs:=[.tmp 11]) call52 rfl rfl (rZ lo r w2 (hr.ext he2)) (fun v3 w3 hq=>?_)))))))))
 obtain ⟨rfl,he3⟩:=hq
 have gV:=he2.trans he3
 rcases kC r with ⟨herr,hok,hln⟩|⟨herr,hok⟩
 ·rw [herr,hln]
  refine L.m rfl (L.o (O.extract rfl rfl (L.o (O.extract rfl rfl (L.a rfl (L.a rfl (L.nil (T.seq (T.q (L.m rfl (L.o (O.jD rfl rfl rfl (L.nil (T.cf (T.skip (T.seq (T.q (L.m rfl (L.m rfl (L.o (O.call (xs:=[.tmp 18,.tmp 19]) call53 rfl rfl (Ar 0 p xs (aB r.us) w3 (hp.ext gV)) (fun v4 w4 hq=>?_))))))))))))))))))))))
  obtain ⟨hv4,rfl⟩:=hq
  have hpos:=iQ hok
  cases hfit:iH xs (aB r.us)
  ·rw [hfit] at hv4
   subst hv4
   have hr1:fF r xs t=([],0,2):=by rw [nY hok,if_neg (by rw [hfit];simp)]
   refine L.o (O.not rfl (L.nil (T.ct (T.q (L.a rfl (L.a rfl (L.a rfl (L.nil (T.vK results14 rfl rfl rfl ⟨.slice none 0 0,by rw [hr1];rfl,by rw [hr1];exact Sl.nil _ _ _,gV⟩)))))))))
  rw [hfit] at hv4
  subst hv4
  obtain ⟨hlen,hxs⟩:=pF hfit
  refine L.o (O.not rfl (L.nil (T.cf (T.skip (T.q (L.o (O.ak isAgg25 sizeOf25 rfl rfl ((Blk.ext (cs:=r.cells) hC2 he3).row) (L.m rfl (L.m rfl (L.o (O.call (xs:=[.tmp 22,.tmp 23,.tmp 24]) call56 rfl rfl (oN lo r p xs t w4 (hr.ext gV) (hp.ext gV) (hL.ext gV) hok (by omega) (by omega) hpos.2.2 ht) (fun v5 w5 hq=>?_))))))))))))
  obtain ⟨pv,rfl,hpv,he5⟩:=hq
  have hr1:fF r xs t=bI (nmA r.us) xs t:=by rw [nY hok,if_pos hfit]
  refine L.o (O.extract rfl rfl (L.o (O.extract rfl rfl (L.o (O.extract rfl rfl (L.a rfl (L.a rfl (L.a rfl (L.nil (T.vK results14 rfl rfl rfl ⟨pv,by rw [hr1];rfl,by rw [hr1];exact hpv,gV.trans he5⟩))))))))))
 rw [herr]
 refine L.m rfl (L.o (O.extract rfl rfl (L.o (O.extract rfl rfl (L.a rfl (L.a rfl (L.nil (T.seq (T.q (L.m rfl (L.o (O.Bz rfl rfl (by omega) (?_)))))))))))))
 have hr1:fF r xs t=([],0,161):=pG hok
 refine L.nil (T.ct (T.q (L.m rfl (L.a rfl (L.a rfl (L.a rfl (L.nil (T.vK results14 rfl rfl rfl ⟨.slice none 0 0,by rw [hr1];rfl,by rw [hr1];exact Sl.nil _ _ _,gV⟩))))))))
def IQ (n:Nat) (base:Nat) (v:Value) (w:World):Prop:=∃ b,v = .slice (some ⟨b,0,none⟩) n n∧base≤b∧Blk w b (List.replicate n (.int .i64 (-1))) 3
theorem IQ.st {n base:Nat} : ∀ v w w',Ext w w'→IQ n base v w→IQ n base v w':=fun _ _ _ he ⟨b,h1,h2,h3⟩=>⟨b,h1,h2,Blk.ext h3 he⟩
theorem IQ.ints {n base:Nat} {v:Value} {w:World} (h:IQ n base v w) (hn:n≤1000):Ints .i64 0 w v (List.replicate n (-1)):=by
 obtain ⟨b,rfl,_,hB⟩:=h
 have:=Sl.ay (n:=n) (cap:=n) (sz:=1) (lo:=0) hB (by simp) (Nat.le_refl _) (by simp only [maxLen];omega) (Nat.zero_le _)
 have e:List.replicate n (Value.int .i64 (-1))=(List.replicate n (-1:Int)).map (Value.int .i64):=by simp
 rw [e] at this
 unfold Ints
 rw [List.length_replicate]
 exact this
def Zh (v:Value) (w:World):Prop:=∃ b,v = .slice (some ⟨b,0,none⟩) 1 1∧Blk w b [.int .i64 (-1)] 3
theorem Zh.st:∀ v w w',Ext w w'→Zh v w→Zh v w':=fun _ _ _ he ⟨b,h1,h2⟩=>⟨b,h1,Blk.ext (cs:=[.int .i64 (-1)]) h2 he⟩
def Dk (xs:List Int) (v:Value) (w:World):Prop:=Ints .i64 0 w v xs
theorem Dk.st {xs:List Int} : ∀ v w w',Ext w w'→Dk xs v w→Dk xs v w':=fun _ _ _ he h=>Sl.ext h he
def Wy (nm:Nat→Str) (xs:List Int) (t:Str) (v:Value) (w:World):Prop:=∃ pv,v = .tuple #[pv,.int .i64 ((bI nm xs t).2.1:Int),.int .i64 (bI nm xs t).2.2]∧Ints .i64 0 w pv (bI nm xs t).1
theorem Wy.st {nm:Nat→Str} {xs:List Int} {t:Str} : ∀ v w w',Ext w w'→Wy nm xs t v w→Wy nm xs t v w':=fun _ _ _ he ⟨pv,h1,h2⟩=>⟨pv,h1,h2.ext he⟩
set_option maxHeartbeats 1000000 in
theorem tH (lo:Nat) (r:RoV) (t:Str) (w:World) (hr:r.ok lo w) (hL:ji w) (ht:t.length≤1000000) :
  Calls Tryz.prog 13 #[r.val,str t] w (Ret fun v w'=>∃ pv,v = .tuple #[pv,.int .i64 ((fP r t).2.1:Int),.int .i64 (fP r t).2.2]∧Ints .i64 0 w' pv (fP r t).1∧Ext w w'):=by
 refine T.enter (vs:=[r.val,str t]) func13 rfl ntmps13 rfl ?_
 refine T.q (L.o (O.box rfl (fun b2 w2 hb2 hz2 he2 hB2=>?_)))
 have hC2:Blk w2 b2 r.cells _:=hB2
 refine L.a rfl (L.a rfl (L.a rfl (L.nil (T.q (L.o (O.ak isAgg25 sizeOf25 rfl rfl hC2.row (L.o (O.call (xs:=[.tmp 9]) call52 rfl rfl (rZ lo r w2 (hr.ext he2)) (fun v3 w3 hq=>?_)))))))))
 obtain ⟨rfl,he3⟩:=hq
 have gV:=he2.trans he3
 rcases kC r with ⟨herr,hok,hln⟩|⟨herr,hok⟩
 ·rw [herr,hln]
  have hpos:=iQ hok
  refine L.m rfl (L.o (O.extract rfl rfl (L.o (O.extract rfl rfl (L.a rfl (L.a rfl (L.nil (T.seq (T.q (L.m rfl (L.o (O.jD rfl rfl rfl (L.nil (T.cf (T.skip (T.seq (?_)))))))))))))))))
  refine T.dL mixed 12 [2,7,1] rfl [.is _,.such Zh,.is _,.such (IQ (aB r.us) 0),.is _,.such (Wy (nmA r.us) (List.replicate (aB r.us) (-1)) t),.such (Wy (nmA r.us) (List.replicate (aB r.us) (-1)) t),.such (Dk (bI (nmA r.us) (List.replicate (aB r.us) (-1)) t).1),.is (.int .i64 ((bI (nmA r.us) (List.replicate (aB r.us) (-1)) t).2.1:Int)),.is (.int .i64 (bI (nmA r.us) (List.replicate (aB r.us) (-1)) t).2.2),.such (Dk (bI (nmA r.us) (List.replicate (aB r.us) (-1)) t).1),.is _] [[],[],[],[1,2],[],[0,3,4],[5],[6],[6],[6],[7],[8]] [[],[],[],[1,2],[],[0,1,2,3,4],[0,1,2,3,4,5],[0,1,2,3,4,5,6],[0,1,2,3,4,5,6],[0,1,2,3,4,5,6],[0,1,2,3,4,5,6,7],[0,1,2,3,4,5,6,7,8,10],[0,1,2,3,4,5,6,7,8,9,10,11]] (by kernel_rfl) (by kernel_rfl) rfl (by kernel_rfl) ⟨Zh.st,IQ.st,Wy.st,Wy.st,Dk.st,Dk.st,trivial⟩ ⟨fun wx hx=>Ob.o (O.ak isAgg25 sizeOf25 rfl rfl ((Blk.ext (cs:=r.cells) hC2 (he3.trans hx)).row) kR),
    fun wx hx=>Ob.o (O.buildSlice (el:=3) (parts:=[(0,.const (.int .i64 (-1)))]) (vs:=[(0,_)]) (cs:=[.int .i64 (-1)]) rfl (fun w=>by kernel_rfl) (fun b18 w18 acL acM oH wB=>⟨oH,b18,rfl,wB⟩)),
    fun wx hx=>Ob.o (O.move rfl kR),
    fun wx hx v18 Yw=>by { obtain ⟨b0,rfl,hb0⟩:=Yw;exact Ob.o (O.call (xs:=[.tmp 18,.tmp 19]) call57 rfl rfl (vJ b0 (aB r.us) wx hb0 (by omega) (by omega)) (fun v wy h=>⟨by obtain ⟨b,h1,h2,h3,h4⟩:=h;exact h4,by obtain ⟨b,h1,h2,h3,h4⟩:=h;exact ⟨b,h1,Nat.zero_le _,h3⟩⟩)) },
    fun wx hx=>Ob.o (O.move rfl kR),
    fun wx hx v20 afi=>Ob.o (O.call (xs:=[.tmp 17,.tmp 20,.tmp 21]) call56 rfl rfl (oN lo r v20 (List.replicate (aB r.us) (-1)) t wx (hr.ext (gV.trans hx)) (afi.ints (by omega)) (hL.ext (gV.trans hx)) hok (by rw [List.length_replicate];omega) (by rw [List.length_replicate];omega) hpos.2.2 ht) (fun v wy h=>⟨by obtain ⟨b,h1,h2,h3⟩:=h;exact h3,by obtain ⟨b,h1,h2,h3⟩:=h;exact ⟨b,h1,h2⟩⟩)),
    fun wx hx v22 Nq=>Ob.o (O.move rfl ⟨Keep.refl _ _,Nq⟩),
    fun wx hx v16 Ya=>by { obtain ⟨pv,rfl,hpv⟩:=Ya;exact Ob.o (O.extract rfl rfl ⟨Keep.refl _ _,hpv⟩) },
    fun wx hx v16 Ya=>by { obtain ⟨pv,rfl,hpv⟩:=Ya;exact Ob.o (O.extract rfl rfl kR) },
    fun wx hx v16 Ya=>by { obtain ⟨pv,rfl,hpv⟩:=Ya;exact Ob.o (O.extract rfl rfl kR) },
    fun wx hx v23 afj=>Ob.o (O.assign rfl ⟨Keep.refl _ _,afj⟩),
    fun wx hx=>Ob.o (O.assign rfl kR),
    trivial⟩ (fun w4 he4 v18 Yw v20 afi v22 Nq v16 Ya v23 afj v4 hv4=>?_)
  have acN:=gV.trans he4
  refine L.a rfl (L.nil (T.seq (T.q (L.m rfl (L.o (O.gK rfl rfl (fun pJ=>?_) (fun pJ=>?_)))))))
  ·refine L.nil (?_)
   have hr1:fP r t=([],(bI (nmA r.us) (List.replicate (aB r.us) (-1)) t).2.1,(bI (nmA r.us) (List.replicate (aB r.us) (-1)) t).2.2):=by rw [kE hok,uS];exact if_pos pJ
   refine T.ct (T.q (L.m rfl (L.m rfl (L.a rfl (L.a rfl (L.a rfl (L.nil (T.vK results13 rfl rfl rfl ⟨.slice none 0 0,by rw [hr1],by rw [hr1];exact Sl.nil _ _ _,acN⟩))))))))
  refine L.nil (T.cf (T.skip (T.seq (T.q (L.m rfl (L.o (O.call (xs:=[.tmp 30,.const (.int .i64 (-1))]) call58 rfl rfl (Di 0 v4 _ w4 hv4) (fun v5 w5 hq=>?_))))))))
  obtain ⟨hv5,rfl⟩:=hq
  cases hm:decide ((-1:Int)∈(bI (nmA r.us) (List.replicate (aB r.us) (-1)) t).1)
  ·refine L.nil (?_)
   rw [hm] at hv5
   subst hv5
   have hr1:fP r t=((bI (nmA r.us) (List.replicate (aB r.us) (-1)) t).1,0,0):=by rw [kE hok,uS];exact (if_neg (fun h=>h pJ)).trans (if_neg (of_decide_eq_false hm))
   refine T.cf (T.skip (T.q (L.m rfl (L.a rfl (L.a rfl (L.a rfl (L.nil (T.vK results13 rfl rfl rfl ⟨v4,by rw [hr1];rfl,by rw [hr1];exact hv4,acN⟩))))))))
  refine L.nil (?_)
  rw [hm] at hv5
  subst hv5
  have hr1:fP r t=([],0,4):=by rw [kE hok,uS];exact (if_neg (fun h=>h pJ)).trans (if_pos (of_decide_eq_true hm))
  refine T.ct (T.q (L.a rfl (L.a rfl (L.a rfl (L.nil (T.vK results13 rfl rfl rfl ⟨.slice none 0 0,by rw [hr1];rfl,by rw [hr1];exact Sl.nil _ _ _,acN⟩))))))
 rw [herr]
 refine L.m rfl (L.o (O.extract rfl rfl (L.o (O.extract rfl rfl (L.a rfl (L.a rfl (L.nil (T.seq (T.q (L.m rfl (L.o (O.Bz rfl rfl (by omega) (?_)))))))))))))
 have hr1:fP r t=([],0,161):=pI hok
 refine L.nil (T.ct (T.q (L.m rfl (L.a rfl (L.a rfl (L.a rfl (L.nil (T.vK results13 rfl rfl rfl ⟨.slice none 0 0,by rw [hr1];rfl,by rw [hr1];exact Sl.nil _ _ _,gV⟩))))))))
open Go Go.E RowKit
theorem qW {n:Nat} (h:n<10):Lib.decDigits n = [UInt8.ofNat (48+n)]:=by rw [Lib.decDigits,dif_pos h]
theorem IU {n:Nat} (h:¬ n<10):Lib.decDigits n=Lib.decDigits (n / 10) ++ [UInt8.ofNat (48+n % 10)]:=by rw [Lib.decDigits,dif_neg h]
theorem WA {n:Nat} (h:n<10):((UInt8.ofNat (48+n)).toNat:Int)=48+(n:Int):=by
 rw [UInt8.toNat_ofNat'];omega
theorem O8 {n:Nat} (h:n≤9223372036854775808):(Lib.decDigits n).length≤21:=by
 have:=Lib.itoa_length_le (-(n:Int)) (by omega) (by omega)
 rcases Nat.eq_zero_or_pos n with rfl|h1
 ·rw [qW (by omega)];simp
 rw [Lib.itoa_neg n h1] at this;simp at this;omega
theorem Dl {n:Nat} {w:World} {b:Nat} {x:Int} (h:n<10) (hx:x=48+(n:Int)) (hB:Blk w b [.int .u8 x] 5):Ints .u8 0 w (.slice (some ⟨b,0,none⟩) 1 1) (([UInt8.ofNat (48+n)]:Str).map fun c=>(c.toNat:Int)):=by
 subst hx
 rw [List.map_singleton,WA h]
 exact Ints.ay hB rfl (by decide) (Nat.zero_le _)
theorem ahI (n:Nat) (w:World) (hn:n≤9223372036854775807) (hrec:∀ (m:Nat) (W:World),m<n→Calls Tryz.prog 96 (#[] ++ [.int .i64 m].toArray++#[]) W (Ret fun v W'=>v=str (Lib.decDigits m)∧Ext W W')) :
  Calls Tryz.prog 96 #[.int .i64 n] w (Ret fun v w'=>v=str (Lib.decDigits n)∧Ext w w'):=by
 have hlt:n % 10<10:=by omega
 refine T.enter (vs:=[.int .i64 n]) func96 rfl ntmps96 rfl ?_
 refine T.q (L.a rfl (L.nil (T.q (L.m rfl (L.o (O.rem rfl rfl (by omega) (by omega) (L.a rfl (L.nil (T.seq (T.q (L.m rfl (L.o (O.oQ rfl rfl (by omega) (L.nil (T.cf (T.skip (T.q (L.m rfl (L.o (O.aC rfl rfl (by omega) (L.o (O.cZ rfl (fun w=>⟨_,runUnderlying3 w⟩) runUnderlying5 (IntWalk.u8_in _ ⟨by omega,by omega⟩) (L.o (O.buildSlice (el:=5) (parts:=[(0,.tmp 13)]) (vs:=[(0,_)]) (cs:=[.int .u8 (48+(n:Int) % 10)]) rfl (fun w=>by kernel_rfl) (fun b1 w1 hb1 hz1 he1 hB1=>?_)))))))))))))))))))))))))
 refine L.o (O.qm runUnderlying54 runUnderlying5 runUnderlying9 rfl (Dl (n:=n % 10) hlt (by omega) hB1) (by simp) (L.a rfl (L.nil (T.seq (T.q (L.m rfl (L.o (O.Nv rfl rfl (by omega) (L.o (O.gK rfl rfl (fun h=>?_) (fun h=>?_)))))))))))
 ·refine L.nil (?_)
  have h':¬ n<10:=by omega
  refine T.ct (T.q (L.m rfl (L.o (O.Nv rfl rfl (by omega) (L.o (O.call (xs:=[.tmp 20]) call96 rfl rfl (hrec (n / 10) w1 (by omega)) (fun v2 w2 hq=>?_)))))))
  obtain ⟨rfl,he2⟩:=hq
  refine L.m rfl (L.o (O.bQ rfl rfl (by have h1:=O8 (n:=n / 10) (by omega);simp only [List.length_cons,List.length_nil];omega) (L.a rfl (L.nil (T.aN results96 rfl ⟨by rw [IU h'],he1.trans he2⟩)))))
 refine L.nil (?_)
 have h':n<10:=by omega
 refine T.cf (T.skip (T.seq (T.q (L.m rfl (L.o (O.oQ rfl rfl (by omega) (L.nil (T.cf (T.skip (T.q (L.m rfl (L.a rfl (L.nil (T.aN results96 rfl ⟨by rw [qW h',Nat.mod_eq_of_lt h'],he1⟩))))))))))))))
theorem Zi (n:Nat) (w:World) (hn:n≤9223372036854775807):Calls Tryz.prog 96 #[.int .i64 n] w (Ret fun v w'=>v=str (Lib.decDigits n)∧Ext w w'):=by
 induction n using Nat.strongRecOn generalizing w with
 | _ n ih=>exact ahI n w hn (fun m W hm=>ih m hm W (by omega))
theorem tmod_neg (u:Nat):(-(u:Int)).tmod 10 = -((u % 10:Nat):Int):=by
 rw [Int.neg_tmod];rfl
theorem tdiv_neg (u:Nat):(-(u:Int)).tdiv 10 = -((u / 10:Nat):Int):=by
 rw [Int.neg_tdiv];rfl
section
variable {C:Cx} {e:Env} {w:World} {K:Value→World→Prop} {d:Option Tmp} {ty tx ty':TypeId} {pos:String} {aft:Array Edge} {g:Option (Nat × Bool)} {x y:Operand}
theorem O.Zj {u:Nat} (hx:ev e x=some (.int .i64 (-(u:Int)))) (hy:ev e y=some (.int .i64 10)) (h:K (.int .i64 (-((u % 10:Nat):Int))) w):O C e ⟨d,.binOp .rem tx x y ty',ty,pos,aft,g⟩ w K :=
 O.Vh hx hy (by decide) (by rw [tmod_neg];exact h)
theorem O.J4 {u:Nat} (hu:u≤9223372036854775808) (hx:ev e x=some (.int .i64 (-(u:Int)))) (hy:ev e y=some (.int .i64 10)) (h:K (.int .i64 (-((u / 10:Nat):Int))) w):O C e ⟨d,.binOp .quo tx x y ty',ty,pos,aft,g⟩ w K :=
 O.bin hx hy (by
  have h1:IntKind.i64.wrap ((-(u:Int)).tdiv 10) = -((u / 10:Nat):Int):=by rw [tdiv_neg];exact IntWalk.i64_in _ ⟨by omega,by omega⟩
  simp only [binOp,Op.intDiv]
  rw [if_neg (by decide)]
  simp only [h1]
  rfl) h
end
theorem ahJ (n:Nat) (w:World) (hn:n≤9223372036854775808) (h0:1≤n) (hrec:∀ (m:Nat) (W:World),m<n→1≤m→Calls Tryz.prog 96 (#[] ++ [.int .i64 (-(m:Int))].toArray++#[]) W (Ret fun v W'=>v=str (45::Lib.decDigits m)∧Ext W W')) :
  Calls Tryz.prog 96 #[.int .i64 (-(n:Int))] w (Ret fun v w'=>v=str (45::Lib.decDigits n)∧Ext w w'):=by
 have hlt:n % 10<10:=by omega
 refine T.enter (vs:=[.int .i64 (-(n:Int))]) func96 rfl ntmps96 rfl ?_
 refine T.q (L.a rfl (L.nil (T.q (L.m rfl (L.o (O.Zj (u:=n) rfl rfl (?_)))))))
 rcases Nat.eq_zero_or_pos (n % 10) with hz|hz
 ·rw [hz]
  refine L.a rfl (L.nil (T.seq (T.q (L.m rfl (L.o (O.oQ rfl rfl (by omega) (L.nil (T.cf (T.skip (T.q (L.m rfl (L.o (O.aC rfl rfl (by omega) (L.o (O.cZ rfl (fun w=>⟨_,runUnderlying3 w⟩) runUnderlying5 (IntWalk.u8_in _ ⟨by omega,by omega⟩) (L.o (O.buildSlice (el:=5) (parts:=[(0,.tmp 13)]) (vs:=[(0,_)]) (cs:=[.int .u8 48]) rfl (fun w=>by kernel_rfl) (fun b1 w1 hb1 hz1 he1 hB1=>?_))))))))))))))))))
  refine L.o (O.qm runUnderlying54 runUnderlying5 runUnderlying9 rfl (Dl (n:=0) (by omega) rfl hB1) (by simp) (L.a rfl (L.nil (T.seq (T.q (L.m rfl (L.o (O.J4 (u:=n) hn rfl rfl (L.o (O.gK rfl rfl (fun h=>?_) (fun h=>?_)))))))))))
  ·refine L.nil (?_)
   have h':¬ n<10:=by omega
   refine T.ct (T.q (L.m rfl (L.o (O.J4 (u:=n) hn rfl rfl (L.o (O.call (xs:=[.tmp 20]) call96 rfl rfl (hrec (n / 10) w1 (by omega) (by omega)) (fun v2 w2 hq=>?_)))))))
   obtain ⟨rfl,he2⟩:=hq
   refine L.m rfl (L.o (O.bQ rfl rfl (by have h1:=O8 (n:=n / 10) (by omega);simp only [List.length_cons,List.length_nil];omega) (L.a rfl (L.nil (T.aN results96 rfl ⟨by rw [IU h',hz];rfl,he1.trans he2⟩)))))
  refine L.nil (?_)
  have h':n<10:=by omega
  have hF:False:=by omega
  refine T.cf (T.skip (T.seq (T.q (L.m rfl (L.o (O.G8 rfl rfl (by omega) (L.nil (T.ct (T.q (L.m rfl (L.o (O.bQ rfl rfl (by simp) (L.a rfl (L.nil (T.aN results96 rfl ⟨hF.elim,he1⟩)))))))))))))))
 refine L.a rfl (L.nil (T.seq (T.q (L.m rfl (L.o (O.G8 rfl rfl (by omega) (L.nil (T.ct (T.region (L.m rfl (L.o (O.VG rfl (by omega) (L.a rfl (L.nil (T.q (L.m rfl (L.o (O.aC rfl rfl (by omega) (L.o (O.cZ rfl (fun w=>⟨_,runUnderlying3 w⟩) runUnderlying5 (IntWalk.u8_in _ ⟨by omega,by omega⟩) (L.o (O.buildSlice (el:=5) (parts:=[(0,.tmp 13)]) (vs:=[(0,_)]) (cs:=[.int .u8 (48+(0 - -((n % 10:Nat):Int)))]) rfl (fun w=>by kernel_rfl) (fun b1 w1 hb1 hz1 he1 hB1=>?_)))))))))))))))))))))))
 refine L.o (O.qm runUnderlying54 runUnderlying5 runUnderlying9 rfl (Dl (n:=n % 10) hlt (by omega) hB1) (by simp) (L.a rfl (L.nil (T.seq (T.q (L.m rfl (L.o (O.J4 (u:=n) hn rfl rfl (L.o (O.gK rfl rfl (fun h=>?_) (fun h=>?_)))))))))))
 ·refine L.nil (?_)
  have h':¬ n<10:=by omega
  refine T.ct (T.q (L.m rfl (L.o (O.J4 (u:=n) hn rfl rfl (L.o (O.call (xs:=[.tmp 20]) call96 rfl rfl (hrec (n / 10) w1 (by omega) (by omega)) (fun v2 w2 hq=>?_)))))))
  obtain ⟨rfl,he2⟩:=hq
  refine L.m rfl (L.o (O.bQ rfl rfl (by have h1:=O8 (n:=n / 10) (by omega);simp only [List.length_cons,List.length_nil];omega) (L.a rfl (L.nil (T.aN results96 rfl ⟨by rw [IU h'];rfl,he1.trans he2⟩)))))
 refine L.nil (?_)
 have h':n<10:=by omega
 refine T.cf (T.skip (T.seq (T.q (L.m rfl (L.o (O.G8 rfl rfl (by omega) (L.nil (T.ct (T.q (L.m rfl (L.o (O.bQ rfl rfl (by simp) (L.a rfl (L.nil (T.aN results96 rfl ⟨by rw [qW h',Nat.mod_eq_of_lt h'];rfl,he1⟩)))))))))))))))
theorem qX (n:Int) (w:World) (h0 : -9223372036854775808≤n) (h1:n≤9223372036854775807):Calls Tryz.prog 96 #[.int .i64 n] w (Ret fun v w'=>v=str (Lib.itoa n)∧Ext w w'):=by
 have hneg:∀ (m:Nat) (w:World),1≤m→m≤9223372036854775808→Calls Tryz.prog 96 #[.int .i64 (-(m:Int))] w (Ret fun v w'=>v=str (45::Lib.decDigits m)∧Ext w w'):=by
  intro m
  induction m using Nat.strongRecOn with
  | _ m ih=>intro w hm hl;exact ahJ m w hl hm (fun k W hk h1=>ih k hk W h1 (by omega))
 rcases Int.lt_or_le n 0 with h|h
 ·have e:n = -((n.natAbs:Nat):Int):=by omega
  rw [e,Lib.itoa_neg _ (by omega)]
  exact hneg _ w (by omega) (by omega)
 have e:n=((n.toNat:Nat):Int):=by omega
 rw [e,Lib.itoa_nonneg]
 exact Zi _ w (by omega)
open Go Go.E RowKit
section
variable {C:Cx} {e:Env} {w:World} {K:Value→World→Prop} {d:Option Tmp} {ty:TypeId} {pos:String} {aft:Array Edge} {g:Option (Nat × Bool)} {x y z:Operand} {t:TypeId}
theorem O.FN {s:Str} {l h:Nat} (hu:∀ w,(underlying t).run C.P w = .ok .string w) (hx:ev e x=some (str s)) (hy:ev e y=some (.int .i64 l)) (hz:ev e z=some (.int .i64 h)) (h0:l≤h) (h1:h≤s.length) (hk:K (str ((s.drop l).take (h-l))) w) :
  O C e ⟨d,.slice t x (some y) (some z) none,ty,pos,aft,g⟩ w K :=
 O.of_run (by simp) (fun ac ha=>by
  have:=run_slice_string (P:=C.P) w t ⟨s.toArray⟩ .i64 .i64 l h (aI hu) (by omega) (by omega) (by simp [ByteArray.size];omega)
  simp only [Int.toNat_natCast] at this
  rw [kQ] at this
  simp only [execOp,ha.eval hx,ha.eval hy,ha.eval hz,str,Option.map_some,Option.map_none] at this ⊢
  rw [Sem.run_bind,run_sliceAt_string w _ _ _ _ _ (aI hu),this];simp) hk
end
theorem O9 {xs:List Int} {n:Int} {i:Nat} (hi:i<xs.length) (h:xs.getD i 0<0∨7<xs.getD i 0):iH xs n=false:=by
 cases hc:iH xs n with
 | false=>rfl
 | true=>have:=(pF hc).2 i hi;omega
theorem Tq {xs:List Int} {n:Int} (hl:(xs.length:Int)=n) (h:∀ i,i<xs.length→0≤xs.getD i 0∧xs.getD i 0<8):iH xs n=true:=by
 rw [iH,Bool.and_eq_true,decide_eq_true_eq]
 refine ⟨hl,List.all_eq_true.2 fun x hx=>?_⟩
 obtain ⟨i,hi,rfl⟩:=List.getElem_of_mem hx
 have:=h i hi
 rw [au hi] at this
 simp only [DZ,Bool.not_eq_true',decide_eq_false_iff_not]
 omega
theorem Tt {xs:List Int} {n:Int} (hl:¬ (xs.length:Int)=n):iH xs n=false:=by rw [iH,decide_eq_false hl];rfl
theorem Tv {t:Str} {s i:Nat} (h1:s≤i) (h2:i<t.length):t.drop s=(t.drop s).take (i-s)++t.getD i 0::t.drop (i+1):=by
 have e:(t.drop s).drop (i-s)=t.getD i 0::t.drop (i+1):=by
  rw [List.drop_drop,show s+(i-s)=i by omega,List.drop_eq_getElem_cons h2,au h2]
 rw [← e,List.take_append_drop]
theorem Pg {t:Str} {s i:Nat} (h1:s≤i) (h2:i<t.length):(t.drop s).take (i+1-s)=(t.drop s).take (i-s) ++ [t.getD i 0]:=by
 rw [show i+1-s=(i-s)+1 by omega,List.take_succ_eq_append_getElem (by rw [List.length_drop];omega),List.getElem_drop]
 congr 2
 rw [au h2]
 congr 1;omega
def Dn (t:Str) (s i:Nat) (done:List Str):Prop:=s≤i∧i≤t.length∧done.length≤s∧aK 10 t=done++aK 10 (t.drop s)∧(10:UInt8)∉(t.drop s).take (i-s)
theorem Dn.yes {t:Str} {s i:Nat} {done:List Str} (h:Dn t s i done) (hi:i<t.length) (hc:t.getD i 0=10):Dn t (i+1) (i+1) (done ++ [(t.drop s).take (i-s)]):=by
 obtain ⟨h1,h2,h3,h4,h5⟩:=h
 refine ⟨Nat.le_refl _,hi,by simp;omega,?_,by simp⟩
 have h:=congrArg (aK 10) (Tv h1 hi)
 rw [hc,nM h5] at h
 rw [h4,List.append_assoc,h]
 rfl
theorem Dn.no {t:Str} {s i:Nat} {done:List Str} (h:Dn t s i done) (hi:i<t.length) (hc:t.getD i 0≠10):Dn t s (i+1) done:=by
 obtain ⟨h1,h2,h3,h4,h5⟩:=h
 refine ⟨by omega,hi,h3,h4,?_⟩
 rw [Pg h1 hi,List.mem_append,List.mem_singleton]
 rintro (h|h)
 ·exact h5 h
 exact hc h.symm
theorem Dn.end {t:Str} {s:Nat} {done:List Str} (h:Dn t s t.length done):aK 10 t=done ++ [t.drop s]:=by
 obtain ⟨h1,h2,h3,h4,h5⟩:=h
 rw [h4,nK (by rw [List.take_of_length_le (by simp)] at h5;exact h5)]
theorem yc (lo:Nat) (r:RoV) (p:Value) (xs:List Int) (w:World) (hr:r.ok lo w) (hp:Ints .i64 0 w p xs) :
  Calls Tryz.prog 95 #[r.val,p] w (Ret fun v w'=>v = .bool (iH xs (aB r.us))∧Ext w w'):=by
 refine T.enter (vs:=[r.val,p]) func95 rfl ntmps95 rfl ?_
 refine T.q (L.o (O.box rfl (fun b2 w2 hb2 hz2 he2 hB2=>?_)))
 have hle:=Sl.le hp
 refine L.a rfl (L.nil (T.seq (T.q (L.m rfl (L.o (O.len runUnderlying31 rfl (Sl.val hp) (L.o (O.ak isAgg25 sizeOf25 rfl rfl ((show Blk w2 b2 r.cells _ from hB2).row) (L.o (O.call (xs:=[.tmp 8]) call144 rfl rfl (wY lo r w2 (hr.ext he2)) (fun v3 w3 hq=>?_)))))))))))
 obtain ⟨rfl,he3⟩:=hq
 have gV:=he2.trans he3
 refine L.o (O.gK rfl rfl (fun hl=>?_) (fun hl=>?_))
 ·refine L.nil (T.ct (T.q (L.a rfl (L.nil (T.aN results95 rfl ⟨by rw [Tt hl],gV⟩)))))
 refine L.nil (T.cf (T.skip (T.seq (T.q (L.a rfl (L.nil (T.block (?_))))))))
 refine T.loop (σ:=Nat) (fun i=>[(1,p),(5,.int .i64 i)]) (fun i W=>i≤xs.length∧W=w3∧∀ k,k<i→0≤xs.getD k 0∧xs.getD k 0<8) (fun i=>xs.length-i) (0) ⟨rfl,rfl,trivial⟩ ⟨Nat.zero_le _,rfl,fun k hk=>absurd hk (Nat.not_lt_zero _)⟩ ?_
 rintro i w4 ⟨hi,rfl,hall⟩
 refine T.seq (T.q (L.m rfl (L.m rfl (L.o (O.len runUnderlying31 rfl (Sl.val (hp.ext gV)) (L.o (O.aV rfl rfl (fun hlt=>?_) (fun hlt=>?_))))))))
 ·refine L.nil (?_)
  have hlt':i<xs.length:=by omega
  refine T.ct (T.skip (T.seq (T.block (T.q (L.m rfl (L.m rfl (L.o (O.indexAddr runUnderlying31 sizeOf3 rfl rfl (hp.ext gV) (by omega) (by omega) (L.o (O.load isAgg3 rfl (Ints.at (hp.ext gV) hlt') (L.o (O.aV rfl rfl (fun h1=>?_) (fun h1=>?_)))))))))))))
  ·refine L.m rfl (L.p (L.p (L.p (L.p (L.p (L.o (O.aj rfl rfl (L.nil (T.ct (T.q (L.a rfl (L.nil (T.aN results95 rfl ⟨by rw [O9 hlt' (.inl h1)],gV⟩)))))))))))))
  refine L.m rfl (L.m rfl (L.m rfl (L.o (O.indexAddr runUnderlying31 sizeOf3 rfl rfl (hp.ext gV) (by omega) (by omega) (L.o (O.load isAgg3 rfl (Ints.at (hp.ext gV) hlt') (L.o (O.fG rfl rfl (fun h2=>?_) (fun h2=>?_)))))))))
  ·refine L.o (O.ah rfl rfl (L.nil (T.ct (T.q (L.a rfl (L.nil (T.aN results95 rfl ⟨by rw [O9 hlt' (.inr h2)],gV⟩)))))))
  refine L.o (O.ah rfl rfl (L.nil (T.cf (T.skip (T.blk (T.region (L.m rfl (L.o (O.aC rfl rfl (by omega) (L.a rfl (L.nil (T.again (i+1) (by omega) ⟨rfl,rfl,trivial⟩ ⟨hlt',rfl,fun k hk=>by rcases Nat.lt_or_ge k i with h|h;exact hall k h;obtain rfl:k=i:=(by omega);omega⟩))))))))))))
 refine L.nil (?_)
 obtain rfl:i=xs.length:=by omega
 refine T.cf (T.exit rfl (T.q (L.a rfl (L.nil (T.aN results95 rfl ⟨by rw [Tq hl hall],gV⟩)))))
theorem FP (t:Str) (w:World) (ht:t.length≤1000000) :
  Calls Tryz.prog 99 #[str t] w (Ret fun v w'=>tC w.heap.size (aK 10 t) v w'∧Ext w w'):=by
 refine T.enter (vs:=[str t]) func99 rfl ntmps99 rfl ?_
 refine T.q (L.a rfl (L.nil (T.q (L.a rfl (L.nil (T.q (L.a rfl (L.nil (T.seq (T.q (L.a rfl (L.nil (T.block (?_))))))))))))))
 refine T.loop (σ:=(Nat × Nat × Value) × List Str) (fun g=>[(0,str t),(3,g.1.2.2),(4,.int .i64 g.1.1),(5,.int .i64 g.1.2.1)]) (fun g W=>Dn t g.1.1 g.1.2.1 g.2∧tC w.heap.size g.2 g.1.2.2 W∧Ext w W) (fun g=>t.length-g.1.2.1) (((0,0,.slice none 0 0),[])) ⟨rfl,rfl,rfl,rfl,trivial⟩ ⟨⟨Nat.le_refl _,Nat.zero_le _,Nat.le_refl _,rfl,by simp⟩,dW _ _ _ _,Keep.refl _ _⟩ ?_
 rintro ⟨⟨s,i,lv⟩,done⟩ w1 ⟨hc1,hO1,he1⟩
 simp only at hc1 hO1
 obtain ⟨hsi,hil,hdl,_,_⟩:=id hc1
 have hdn:done.length≤1000000:=by omega
 refine T.seq (T.q (L.m rfl (L.m rfl (L.o (O.bP runUnderlying9 rfl (L.o (O.aV rfl rfl (fun hlt=>?_) (fun hlt=>?_))))))))
 ·refine L.nil (?_)
  have hlt':i<t.length:=by simp only at hlt;omega
  refine T.ct (T.skip (T.seq (T.block (T.q (L.m rfl (L.m rfl (L.o (O.lZ runUnderlying9 rfl rfl hlt' (L.o (O.gJ rfl rfl (fun hb=>?_) (fun hb=>?_)))))))))))
  ·refine L.nil (?_)
   have hb':t.getD i 0=10:=UInt8.toNat_inj.1 (by simp only at hb;show (t.getD i 0).toNat=10;omega)
   refine T.ct (T.q (L.m rfl (L.m rfl (L.m rfl (L.m rfl (L.o (O.FN runUnderlying9 rfl rfl rfl (show s≤i by omega) (show i≤t.length by omega) (L.o (O.buildSlice (el:=9) (parts:=[(0,.tmp 20)]) (vs:=[(0,_)]) (cs:=([(t.drop s).take (i-s)].map str)) rfl (fun w=>by kernel_rfl) (fun b21 w21 ahK ahL uH X8=>?_))))))))))
   refine L.o (O.append (size:=1) (bytes:=16) runUnderlying61 Tryz.lX rfl rfl rfl rfl (by decide) rfl rfl (aH hO1 (uH.mono (Nat.zero_le _)) (Nat.le_refl _)) (Strs.ay (lo:=0) X8 rfl (by decide) (Nat.zero_le _)) (jH _) (by simp only [List.length_cons,List.length_nil,maxLen];omega) (by simp only [maxLen,List.length_cons,List.length_nil];omega) (by have:=he1.size;have:=uH.size;omega) (fun v22 w22 ahM ahN=>?_))
   have acO:Ext w w22:=Keep.dV (he1.trans uH) (aH hO1 (uH.mono (Nat.zero_le _)) (Nat.le_refl _)) ahN (Nat.le_refl _)
   refine L.a rfl (L.nil (T.region (L.m rfl (L.o (O.aC rfl rfl (by simp only;omega) (L.a rfl (L.nil (T.blk (T.region (L.m rfl (L.o (O.aC rfl rfl (by simp only;omega) (L.a rfl (L.nil (T.again (((i+1,i+1,v22),done ++ [(t.drop s).take (i-s)])) (show t.length-(i+1)<t.length-i by omega) ⟨rfl,rfl,rfl,rfl,trivial⟩ ⟨hc1.yes hlt' hb',qV (ys:=[(t.drop s).take (i-s)]) ahM,acO⟩)))))))))))))))
  refine L.nil (?_)
  have hb':t.getD i 0≠10:=fun e=>hb (by simp only;rw [e];rfl)
  refine T.cf (T.skip (T.blk (T.region (L.m rfl (L.o (O.aC rfl rfl (by simp only;omega) (L.a rfl (L.nil (T.again (((s,i+1,lv),done)) (show t.length-(i+1)<t.length-i by omega) ⟨rfl,rfl,rfl,rfl,trivial⟩ ⟨hc1.no hlt' hb',hO1,he1⟩)))))))))
 refine L.nil (?_)
 obtain rfl:i=t.length:=by simp only at hlt;omega
 refine T.cf (T.exit rfl (T.q (L.m rfl (L.m rfl (L.m rfl (L.o (O.oU runUnderlying9 rfl rfl (Int.natCast_nonneg _) (show (s:Int).toNat≤t.length by omega) (L.o (O.buildSlice (el:=9) (parts:=[(0,.tmp 28)]) (vs:=[(0,_)]) (cs:=([t.drop s].map str)) rfl (fun w=>by kernel_rfl) (fun b29 w29 ako akp aa9 VL=>?_))))))))))
 refine L.o (O.append (size:=1) (bytes:=16) runUnderlying61 Tryz.lX rfl rfl rfl rfl (by decide) rfl rfl (aH hO1 (aa9.mono (Nat.zero_le _)) (Nat.le_refl _)) (Strs.ay (lo:=0) VL rfl (by decide) (Nat.zero_le _)) (jH _) (by simp only [List.length_cons,List.length_nil,maxLen];omega) (by simp only [maxLen,List.length_cons,List.length_nil];omega) (by have:=he1.size;have:=aa9.size;omega) (fun v30 w30 Ie Ce=>?_))
 have acP:Ext w w30:=Keep.dV (he1.trans aa9) (aH hO1 (aa9.mono (Nat.zero_le _)) (Nat.le_refl _)) Ce (Nat.le_refl _)
 refine L.a rfl (L.nil (T.aN results99 rfl ⟨by rw [hc1.end];exact qV (ys:=[t.drop s]) Ie,acP⟩))
open Go Go.E RowKit
structure Ns (nm:Nat→Str) (n:Nat):Prop where
 diff:∀ i j,i<j→j<n→nm i≠nm j
 comma:∀ i,i<n→(44:UInt8)∉nm i
theorem FQ {nm:Nat→Str} : ∀ {n:Nat},Ns nm n→∀ i,i<n→gy (keysA nm n) (nm i)=some i
 | 0,_,i,hi=>absurd hi (Nat.not_lt_zero _)
 | n+1,h,i,hi=>by
  rw [sZ,Ee]
  rcases Nat.lt_or_ge i n with h1|h1
  ·rw [FQ ⟨fun i j a b=>h.diff i j a (by omega),fun i a=>h.comma i (by omega)⟩ i h1];rfl
  obtain rfl:i=n:=by omega
  rw [mV (xU fun k hk=>h.diff k i hk hi)]
  simp
theorem wE {nm:Nat→Str} {n i:Nat} {s:Str} (h:gy (keysA nm n) s=some i):i<n∧s=nm i:=by
 have:=Dj _ _ _ h
 simp only [keysA,List.mem_map,List.mem_range,Prod.mk.injEq] at this
 obtain ⟨k,hk,rfl,rfl⟩:=this
 exact ⟨hk,rfl⟩
theorem Tz {l a b:Str} {fd:Bool} (h:Lib.cut l [44]=(a,b,fd)) (hb:b ≠ []):l=a++44::b:=by
 rcases Classical.em ((44:UInt8)∈l) with hm|hm
 ·obtain ⟨p,q,rfl,hp⟩:=CZ hm
  rw [BP hp] at h
  cases h;rfl
 rw [Oc hm] at h
 cases h;exact absurd rfl hb
def zq (nm:Nat→Str) (n:Nat) (out:List Int) (l:Str):Option (List Int) :=
 match gy (keysA nm n) (Lib.cut l [44]).1 with
 | none=>none
 | some i=>if LV (Lib.cut l [44]).2.1∧out.getD i 0<0 then some (out.set i ((((Lib.cut l [44]).2.1.getD 0 0).toNat-49:Nat):Int)) else none
theorem nZ {d:Nat} (h:d<8):Lib.itoa ((d:Int)+1) = [UInt8.ofNat (49+d)]:=by
 rw [show (d:Int)+1=((d+1:Nat):Int) by omega,Lib.itoa_nonneg,qW (by omega),show 48+(d+1)=49+d by omega]
def Hit (nm:Nat→Str) (l:Str) (i d:Nat):Prop:=l=nm i ++ [44]++Lib.itoa ((d:Int)+1)
theorem IV {nm:Nat→Str} {n i d:Nat} {l:Str} (h:Ns nm n) (hi:i<n) (hd:d<8) (hh:Hit nm l i d):gy (keysA nm n) (Lib.cut l [44]).1=some i∧LV (Lib.cut l [44]).2.1∧((Lib.cut l [44]).2.1.getD 0 0).toNat-49=d:=by
 unfold Hit at hh
 rw [nZ hd] at hh
 have e:l=nm i++44 :: [UInt8.ofNat (49+d)]:=by rw [hh];simp
 have hu:(UInt8.ofNat (49+d)).toNat=49+d:=by rw [UInt8.toNat_ofNat'];omega
 rw [e,BP (h.comma i hi)]
 refine ⟨FQ h i hi,⟨rfl,?_,?_⟩,?_⟩ <;> show _ <;> simp only [List.getD_cons_zero,hu] <;> omega
theorem WB {nm:Nat→Str} {n i:Nat} {l:Str} (hg:gy (keysA nm n) (Lib.cut l [44]).1=some i) (hd:LV (Lib.cut l [44]).2.1):i<n∧Hit nm l i (((Lib.cut l [44]).2.1.getD 0 0).toNat-49)∧((Lib.cut l [44]).2.1.getD 0 0).toNat-49<8:=by
 generalize hc:Lib.cut l [44]=ab at hg hd ⊢
 obtain ⟨a,b,fd⟩:=ab
 simp only at hg hd ⊢
 obtain ⟨hi,rfl⟩:=wE hg
 refine ⟨hi,?_,Wu hd⟩
 obtain ⟨h1,h2,h3⟩:=hd
 have hb:b ≠ []:=fun e=>by rw [e] at h1;cases h1
 match b,h1,h2,h3,hc,hb with
 | [c],_,h2,h3,hc,hb =>
  unfold Hit
  have h2':49≤c.toNat:=h2
  have h3':c.toNat≤56:=h3
  show l=nm i ++ [44]++Lib.itoa (((c.toNat-49:Nat):Int)+1)
  rw [nZ (by omega),show 49+(c.toNat-49)=c.toNat by omega,UInt8.ofNat_toNat,Tz hc hb]
  simp
theorem TA {nm:Nat→Str} {n i d i' d':Nat} {l:Str} (h:Ns nm n) (hi:i<n) (hd:d<8) (hi':i'<n) (hd':d'<8) (h1:Hit nm l i d) (h2:Hit nm l i' d'):i=i'∧d=d':=by
 obtain ⟨a1,a2,a3⟩:=IV h hi hd h1
 obtain ⟨b1,b2,b3⟩:=IV h hi' hd' h2
 rw [a1] at b1
 cases b1
 exact ⟨rfl,by omega⟩
def oI (nm:Nat→Str) (n:Nat) (out:List Int) (l:Str) (i d:Nat) (o:List Int) (f:Bool):Prop :=
 (f=false∧o=out∧∀ i' d',i'<n→d'<8→(i'<i∨i'=i∧d'<d)→¬ (Hit nm l i' d'∧out.getD i' 0<0)) ∨
 (f=true∧∃ i0 d0,i0<n∧d0<8∧Hit nm l i0 d0∧out.getD i0 0<0∧o=out.set i0 (d0:Int)∧(i0<i∨i0=i∧d0<d))
theorem oI.start (nm:Nat→Str) (n:Nat) (out:List Int) (l:Str):oI nm n out l 0 0 out false:=.inl ⟨rfl,rfl,fun i' d' _ _ h=>by omega⟩
theorem oI.next {nm:Nat→Str} {n i:Nat} {out o:List Int} {l:Str} {f:Bool} (h:oI nm n out l i 8 o f):oI nm n out l (i+1) 0 o f:=by
 rcases h with ⟨h1,h2,h3⟩|⟨h1,i0,d0,a,b,c,d,e,g⟩
 ·exact .inl ⟨h1,h2,fun i' d' hi hd hlt=>h3 i' d' hi hd (by omega)⟩
 exact .inr ⟨h1,i0,d0,a,b,c,d,e,by omega⟩
theorem oI.yes {nm:Nat→Str} {n i d:Nat} {out o:List Int} {l:Str} {f:Bool} (h:oI nm n out l i d o f) (hN:Ns nm n) (hi:i<n) (hd:d<8) (hh:Hit nm l i d) (ho:o.getD i 0<0):oI nm n out l i (d+1) (o.set i (d:Int)) true:=by
 rcases h with ⟨h1,h2,h3⟩|⟨h1,i0,d0,a,b,c,e,g,k⟩
 ·subst h2;exact .inr ⟨rfl,i,d,hi,hd,hh,ho,rfl,by omega⟩
 obtain ⟨rfl,rfl⟩:=TA hN a b hi hd c hh;omega
theorem oI.no {nm:Nat→Str} {n i d:Nat} {out o:List Int} {l:Str} {f:Bool} (h:oI nm n out l i d o f) (hh:¬ (Hit nm l i d∧o.getD i 0<0)):oI nm n out l i (d+1) o f:=by
 rcases h with ⟨h1,h2,h3⟩|⟨h1,i0,d0,a,b,c,e,g,k⟩
 ·subst h2
  refine .inl ⟨h1,rfl,fun i' d' hi hd hlt=>?_⟩
  by_cases hc:i'=i∧d'=d
  ·obtain ⟨rfl,rfl⟩:=hc;exact hh
  exact h3 i' d' hi hd (by omega)
 exact .inr ⟨h1,i0,d0,a,b,c,e,g,by omega⟩
theorem oI.fin {nm:Nat→Str} {n:Nat} {out o:List Int} {l:Str} {f:Bool} (h:oI nm n out l n 0 o f) (hN:Ns nm n):(f=false∧zq nm n out l=none)∨(f=true∧zq nm n out l=some o):=by
 rcases h with ⟨h1,h2,h3⟩|⟨h1,i0,d0,a,b,c,e,g,k⟩
 ·refine .inl ⟨h1,?_⟩
  unfold zq
  cases hg:gy (keysA nm n) (Lib.cut l [44]).1 with
  | none=>rfl
  | some i =>
   simp only
   refine if_neg fun ⟨hd,ho⟩=>?_
   obtain ⟨hi,hh,hd8⟩:=WB hg hd
   exact h3 i _ hi hd8 (.inl hi) ⟨hh,ho⟩
 obtain ⟨b1,b2,b3⟩:=IV hN a b c
 refine .inr ⟨h1,?_⟩
 unfold zq
 rw [b1]
 simp only
 rw [if_pos ⟨b2,e⟩,b3,g]
def tJ (nm:Nat→Str) (n:Nat):List Str→Nat→List Int→List Int ⊕ Nat
 | [],_,out=>.inl out
 | l::r,k,out=>if r = []∧0<k∧l = [] then .inl out else if r = []∨(k=0∧l≠FI) then .inr (k+1) else if k=0 then tJ nm n r 1 out else match zq nm n out l with
  | none=>.inr (k+1)
  | some o=>tJ nm n r (k+1) o
def aP (nm:Nat→Str) (n:Nat) (t:Str):List Int × Nat × Int :=
 if 40000<t.length then ([],0,3) else match tJ nm n (aK 10 t) 0 (List.replicate n (-1)) with
  | .inl o=>(o,0,0)
  | .inr m=>([],m,5)
theorem Ph {nm:Nat→Str} {n:Nat} {out o:List Int} {l:Str} (h:zq nm n out l=some o):o.length=out.length:=by
 unfold zq at h
 split at h
 ·cases h
 split at h
 ·cases h;simp
 cases h
theorem TB:fD 44=false:=by decide
theorem TD {r:RoV} (h:bD r) {n:Nat} (hn:n≤r.us.length):Ns (nmA r.us) n :=
 ⟨fun i j hij hj=>(h.good j (by omega)).name i hij,fun i hi hm=>by
  have:=List.all_eq_true.1 (xY h (by omega:i<r.us.length)).2.2 44 hm
  rw [TB] at this;cases this⟩
end Go.Proofs.YtnlonpcbgjbbaaaGreatDoor
