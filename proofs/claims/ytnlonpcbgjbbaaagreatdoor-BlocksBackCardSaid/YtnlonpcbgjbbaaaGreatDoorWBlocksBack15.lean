/-
  BlocksBack, part 15 of its proof: that it returns true for every input, and each argument reads behind the call as it read before. Conditions: the listed variables read as the program's text lays them (tied by the card).
-/
import Derived.Test.YtnlonpcbgjbbaaaGreatDoorWBlocksBack14
import Derived.Lib.ItoaLen
set_option linter.unusedVariables false
set_option linter.unusedSimpArgs false
set_option maxRecDepth 20000
set_option linter.unusedVariables false
set_option linter.unusedSimpArgs false
set_option maxRecDepth 20000
namespace Go.Proofs.YtnlonpcbgjbbaaaGreatDoor
open Go.Proofs.Tryz (call106 call107 call27 call41 call52 call53 call54 call55 call56 call57 call58 call66 func12 func13 func14 func41 func56 isAgg171 isAgg23 isAgg25 isAgg3 isAgg31 isAgg9 ntmps12 ntmps13 ntmps14 ntmps41 ntmps56 results12 results13 results14 results41 results56 runUnderlying171 runUnderlying23 runUnderlying25 runUnderlying31 runUnderlying51 runUnderlying61 runUnderlying9 sizeOf171 sizeOf23 sizeOf25 sizeOf3 sizeOf31 sizeOf4 sizeOf51 sizeOf9 zeroValue171 zeroValue4)
open Go Go.E RowKit
attribute [local irreducible] Go.E.T Go.E.L Go.E.O Go.E.Ob
attribute [local irreducible] Go.E.ObX Go.E.ObG Go.E.ObK
theorem results_tmp3 {P:Program} {fn:Func} {s s' s'':Tmp} (h:fn.results=#[.tmp s,.tmp s',.tmp s'']) (T:Array Value) (w:World):(results fn T).run P w = .ok (.tuple #[T.getD s undef,T.getD s' undef,T.getD s'' undef]) w:=by
 simp [results,h]
theorem T.UF {P:Program} {fn:Func} {n:Nat} {R:Value→World→Prop} {k:List It} {e:Env} {w:World} {s s' s'':Tmp} {v v' v'':Value} (hres:fn.results=#[.tmp s,.tmp s',.tmp s'']) (hv:Go.E.look e s=some v) (hv':Go.E.look e s'=some v') (aj1:Go.E.look e s''=some v'') (h:R (.tuple #[v,v',v'']) w):T (UK P fn n R) (.code .ret::k) e w :=
 T.ret fun a ha=>bodyPost_ret (results_tmp3 hres _ _) ha.defers (by
  have h1:=ha.sat.get s v hv
  have h2:=ha.sat.get s' v' hv'
  have h3:=ha.sat.get s'' v'' aj1
  simp [Array.getD_eq_getD_getElem?,h1,h2,h3];exact h)
theorem V5 {α β:Type} [DecidableEq α] {kvs:List (α × β)} {k:α} {v:β} (h:k∉kvs.map (·.1)):vT kvs k v=kvs ++ [(k,v)]:=by
 have:dQ kvs k 0=none:=by
  have h1:=nC h
  rw [iG] at h1
  cases hf:dQ kvs k 0 with
  | none=>rfl
  | some p=>rw [hf] at h1;cases h1
 rw [vT,this]
def D8 (t:Str):Str:=Lib.trimSuffix (if Lib.hasSuffix t [10]=true then t else t ++ [0,10]) [10]
theorem Y6 (s p:Str):(Lib.trimSuffix s p).length≤s.length:=by
 unfold Lib.trimSuffix
 split
 ·rw [List.length_take];omega
 exact Nat.le_refl _
theorem V6 (t:Str):(D8 t).length≤t.length+2:=by
 unfold D8
 refine Nat.le_trans (Y6 _ _) ?_
 split
 ·omega
 simp
def keysA (nm:Nat→Str) (n:Nat):List (Str × Nat):=(List.range n).map fun i=>(nm i,i)
theorem tV (nm:Nat→Str) (n:Nat):keysA nm (n+1)=keysA nm n ++ [(nm n,n)]:=by simp [keysA,List.range_succ]
theorem yL {nm:Nat→Str} {n:Nat} (h:∀ k,k<n→nm k≠nm n):nm n∉(keysA nm n).map (·.1):=fun hm=>by
 simp only [keysA,List.map_map,List.mem_map,List.mem_range,Function.comp] at hm
 obtain ⟨k,hk,e⟩:=hm
 exact h k hk e
theorem V7 {nm:Nat→Str} {n:Nat} : ∀ p∈keysA nm n,p.2<n:=fun p hp=>by
 simp only [keysA,List.mem_map,List.mem_range] at hp
 obtain ⟨k,hk,rfl⟩:=hp
 exact hk
theorem JK {τ:Type} (step:τ→Str→Option τ):∀ (L:List Str) (s:τ) (n m:Nat),sD step s L n = .inr m→n≤m
 | [],s,n,m,h=>by simp [sD] at h
 | l::r,s,n,m,h=>by
  rw [sD] at h
  cases hs:step s l with
  | none=>rw [hs] at h;simp at h;omega
  | some s'=>rw [hs] at h;have:=JK step r s' (n+1) m h;omega
def cO (nm:Nat→Str) (xs:List Int) (t:Str):List Int × Nat × Int :=
 if 40000<t.length then ([],0,3) else match sD kN (true,keysA nm xs.length,xs) (aS 10 (D8 t)) 1 with
  | .inl s=>(s.2.2,0,0)
  | .inr m=>([],m,5)
def nmA (us:List UnV) (i:Nat):Str:=(us.getD i u0).nm
theorem V8 {base n:Nat} {xs:List Int} {v:Value} {w:World} (h:w.ownsRow base 3 1 v n (xs.map (Value.int .i64))) (hn:0<n):∃ b cap cur,v = .slice (some ⟨b,0,none⟩) n cap∧base≤b∧Blk w b cur 3∧n≤cap∧cap≤maxLen∧cur.length=cap∧cur.take n=xs.map (Value.int .i64):=by
 rcases h.2 with ⟨_,h0⟩|⟨g,cap,cur,rfl,hbase,hg,hn',hm,hsz,htk⟩
 ·omega
 exact ⟨g,cap,cur.toList,rfl,by omega,by unfold Blk;simpa using hg,hn',hm,by simpa using hsz,by simpa using htk⟩
theorem V9 {w:World} {b n cap:Nat} {cs:List Value} {xs:List Int} {t:TypeId} (h:Blk w b cs t) (hl:cs.length=cap) (hc:n≤cap) (hm:cap≤maxLen) (ht:cs.take n=xs.map (Value.int .i64)) (hn:xs.length=n):Ints .i64 0 w (.slice (some ⟨b,0,none⟩) n cap) xs:=by
 have:=XT h hl hc hm
 rw [ht,← hn] at this
 subst hn
 exact this
theorem yM (lo:Nat) (p:Value) (xs:List Int) (w:World) (hp:Ints .i64 lo w p xs) (hlen:xs.length≤1000000) :
  Calls Tryz.prog 41 #[p] w (Ret fun v w'=>Ext w w'∧w'.ownsRow w.heap.size 3 1 v xs.length (xs.map (Value.int .i64))):=by
 refine T.enter (vs:=[p]) func41 rfl ntmps41 rfl ?_
 refine T.q (L.a rfl (L.nil (T.seq (T.q (L.m rfl (L.o (O.E8 runUnderlying31 rfl rfl hp (fun hn=>?_) (fun hn=>?_))))))))
 ·refine L.nil (T.ct (T.q (L.a rfl (L.nil (T.aU results41 rfl ⟨Keep.refl _ _,?_⟩)))))
  have:xs = []:=List.length_eq_zero_iff.1 hn
  subst this
  exact eG _ _ _ _
 refine L.nil (T.cf (T.skip (T.q (L.o (O.buildSlice (el:=3) (parts:=[]) (vs:=[]) (cs:=[]) rfl (fun w=>by kernel_rfl) (fun b5 w5 hb5 hz5 he5 hB5=>?_))))))
 have hO5:w5.ownsRow w.heap.size 3 1 (.slice (some ⟨b5,0,none⟩) 0 0) 0 []:=kX (n:=0) hB5 (by omega) (Nat.le_refl _) (by decide) rfl
 refine L.m rfl (L.o (O.append (size:=1) (bytes:=8) runUnderlying31 Tryz.jU rfl rfl rfl rfl (by decide) rfl rfl hO5 (hp.keep (he5.mono (Nat.zero_le _))) (by intro c hc;simp at hc;obtain ⟨_,_,rfl⟩:=hc;rfl) (by omega) (by simp only [maxLen];omega) (by omega) (fun v7 w7 hO7 hG7=>?_)))
 refine L.a rfl (L.nil (T.aU results41 rfl ⟨he5.fO hO5 hG7 (by omega),by simpa using hO7⟩))
set_option maxHeartbeats 1000000 in
theorem yN (lo:Nat) (r:RoV) (oa:Option Addr) (cp0:Nat) (xs:List Int) (t:Str) (w:World) (hr:r.ok lo w) (hp:Ints .i64 0 w (.slice oa xs.length cp0) xs) (hL:jc w) (h0:bG r) (hn:xs.length≤r.us.length) (h1:0<xs.length) (hu:r.us.length≤64) (ht:t.length≤1000000) :
  Calls Tryz.prog 56 #[r.val,.slice oa xs.length cp0,str t] w (Ret fun v w'=>∃ pv,v = .tuple #[pv,.int .i64 ((cO (nmA r.us) xs t).2.1:Int),.int .i64 (cO (nmA r.us) xs t).2.2]∧Ints .i64 0 w' pv (cO (nmA r.us) xs t).1∧Ext w w'):=by
 refine T.enter (vs:=[r.val,.slice oa xs.length cp0,str t]) func56 rfl ntmps56 rfl ?_
 refine T.q (L.o (O.box rfl (fun b3 w3 hb3 hz3 he3 hB3=>?_)))
 refine L.o (O.box rfl (fun b4 w4 hb4 hz4 he4 hB4=>?_))
 have hC4:Blk w4 b3 r.cells _:=Blk.ext (cs:=r.cells) hB3 he4
 have uP:=he3.trans he4
 refine L.a rfl (L.a rfl (L.a rfl (L.nil (T.seq (T.q (L.m rfl (L.o (O.gu runUnderlying9 rfl (L.o (O.jS rfl rfl (fun hbig=>?_) (fun hbig=>?_)))))))))))
 ·refine L.nil (?_)
  have hr1:cO (nmA r.us) xs t=([],0,3):=by rw [cO,if_pos (by omega)]
  refine T.ct (T.q (L.a rfl (L.a rfl (L.a rfl (L.nil (T.UF results56 rfl rfl rfl ⟨.slice none 0 0,by rw [hr1];rfl,by rw [hr1];exact Sl.nil _ _ _,uP⟩))))))
 refine L.nil (T.cf (T.skip (T.q (L.o (O.qC (kf:=str) (vf:=(Value.int .i64)) (fun b16 w16 hb16 aai Ad aj2=>?_))))))
 have aj3:Ext w4 w16:=Ad
 refine L.o (O.alloc zeroValue171 (fun b9 w9 hb9 hz9 he9 hB9=>?_))
 refine L.o (O.store1 sizeOf171 rfl rfl rfl hB9 (by simp [Value.cells]) (fun w10 O7 Ii=>?_))
 have aj6:o9 str nV w10 b16 []:=(aj2.keep he9 (Nat.zero_le _)).upd O7 (by omega)
 have Y7:Ext w4 w10:=(Ad.trans he9).upd O7 (.inr (by omega))
 refine L.nil (T.seq (T.q (L.o (O.load isAgg31 rfl ((Blk.ext (cs:=[.slice oa xs.length cp0]) hB4 Y7).cell rfl) (L.o (O.len runUnderlying31 rfl (Sl.val (hp.ext (uP.trans Y7))) (L.m rfl (L.nil (T.block (?_))))))))))
 refine T.loop (σ:=Nat) (fun i=>[(2,str t),(3,.pointer (some ⟨b3,0,none⟩)),(4,.pointer (some ⟨b4,0,none⟩)),(9,.pointer (some ⟨b9,0,none⟩)),(18,.int .i64 xs.length),(19,.int .i64 i)]) (fun i W=>i≤xs.length∧Ext w4 W∧o9 str nV W b16 (keysA (nmA r.us) i)∧Blk W b9 [.map (some b16)] 171) (fun i=>xs.length-i) (0) ⟨rfl,rfl,rfl,rfl,rfl,rfl,trivial⟩ ⟨Nat.zero_le _,Y7,aj6,Ii⟩ ?_
 rintro i w11 ⟨hi,eH,Np,adO⟩
 refine T.q (L.o (O.bF rfl rfl (fun hlt=>?_) (fun hlt=>?_)))
 ·refine L.nil (?_)
  have hlt':i<xs.length:=by omega
  have hir:i<r.us.length:=by omega
  have aap:Units lo w11 r.uv r.us:=hr.ext (uP.trans eH)
  refine T.seq (T.ct (T.skip (T.seq (T.block (T.q (L.m rfl (L.a rfl (L.nil (?_)))))))))
  refine T.fJ mixed 8 [9,3,10] rfl [.is _,.is _,.is _,.is _,.is _,.is _,.is _,.is _] [[],[],[1],[],[2,3],[4],[5],[]] [[],[],[1],[],[1,2,3],[1,2,3,4],[1,2,3,4,5],[],[0,1,2,3,4,5,6,7]] (by kernel_rfl) (by kernel_rfl) rfl (by kernel_rfl) trivial ⟨fun wx hx=>Ob.o (O.load isAgg171 rfl ((Blk.ext (cs:=[.map (some b16)]) adO hx).cell rfl) kR),
    fun wx hx=>Ob.o (O.fieldAddr runUnderlying25 rfl sizeOf23 rfl kR),
    fun wx hx=>Ob.o (O.load isAgg23 rfl ((Blk.ext (cs:=r.cells) hC4 (eH.trans hx)).cell rfl) kR),
    fun wx hx=>Ob.o (O.move rfl kR),
    fun wx hx=>Ob.o (O.indexAddr runUnderlying23 sizeOf51 rfl rfl ((aap.ext hx).sl) (by omega) (by omega) kR),
    fun wx hx=>Ob.o (O.fieldAddr runUnderlying51 rfl sizeOf9 rfl kR),
    fun wx hx=>Ob.o (O.load isAgg9 rfl ((aap.ext hx).name hir) kR),
    fun wx hx=>Ob.o (O.move rfl kR),
    trivial⟩ (fun w7 he7=>?_)
  refine L.o (O.kG (kf:=str) (vf:=nV) (v:=i) iW runUnderlying171 runUnderlying9 rfl rfl rfl (Np.keep he7 (Nat.zero_le _)) (fun w12 ahE ahF=>?_))
  have hnew:∀ k,k<i→nmA r.us k≠nmA r.us i:=fun k hk=>(h0.good i hir).name k hk
  rw [show (r.us.getD i u0).nm=nmA r.us i from rfl,V5 (yL hnew),← tV] at ahF
  refine L.nil (T.blk (T.region (L.o (O.aI rfl rfl (by omega) (L.m rfl (L.nil (T.again (i+1) (by omega) ⟨rfl,rfl,rfl,rfl,rfl,rfl,trivial⟩ ⟨hlt',(eH.trans he7).upd ahE (.inr (by have:=Ad.size;omega)),ahF,Blk.upd (cs:=[.map (some b16)]) (Blk.ext (cs:=[.map (some b16)]) adO he7) ahE (by omega)⟩)))))))
 refine L.nil (?_)
 obtain rfl:i=xs.length:=by omega
 refine T.seq (T.cf (T.exit rfl (T.q (L.o (O.load isAgg31 rfl ((Blk.ext (cs:=[.slice oa xs.length cp0]) hB4 eH).cell rfl) (L.o (O.call (xs:=[.tmp 31]) call41 rfl rfl (yM 0 (.slice oa xs.length cp0) xs w11 (hp.ext (uP.trans eH)) (by omega)) (fun v20 w20 hq=>?_))))))))
 obtain ⟨Uu,Xt⟩:=hq
 obtain ⟨bs,cap,cur,rfl,hbs,aj7,hc1,hc2,hc3,hc4⟩:=V8 Xt h1
 refine L.o (O.store1 sizeOf31 rfl rfl rfl (Blk.ext (cs:=[.slice oa xs.length cp0]) hB4 (eH.trans Uu)) (by simp [Value.cells]) (fun w21 hu21 ahG=>?_))
 have amH:∀ {W:World},Ext w4 W→Blk W b3 r.cells _:=fun k=>Blk.ext (cs:=r.cells) hC4 k
 have Xw:=eH.size
 have aj8:=Ad.size
 have ahH:Blk w21 b9 [.map (some b16)] 171:=Blk.upd (cs:=[.map (some b16)]) (Blk.ext (cs:=[.map (some b16)]) adO Uu) hu21 (by omega)
 have ahI:Iu str nV w21 b16 (keysA (nmA r.us) xs.length):=((Iu.ajY Np).keep Uu).upd hu21 (by omega)
 have ahJ:Blk w21 bs cur 3:=Blk.upd aj7 hu21 (by omega)
 have EK:Ext w w21:=(he3.trans ((he4.trans (eH.trans Uu)).upd hu21 (.inr (by omega))))
 refine L.nil (T.seq (T.q (L.m rfl (L.o (O.call (xs:=[.tmp 33,_]) call106 rfl rfl (yG t [10] w21 (by omega)) (fun v22 w22 hq=>?_))))))
 obtain ⟨rfl,rfl⟩:=hq
 refine L.o (O.not rfl (L.nil (?_)))
 refine T.join (σ:=Unit) (fun _=>[(2,str (if Lib.hasSuffix t [10]=true then t else t ++ [0,10])),(4,.pointer (some ⟨b4,0,none⟩)),(9,.pointer (some ⟨b9,0,none⟩))]) (fun _ w'=>w'=w22) ?_ ?_
 ·rcases hsf:Lib.hasSuffix t [10] with _|_
  ·refine T.ct (T.region (L.m rfl (L.o (O.jV rfl rfl (by show t.length+2≤_;omega) (L.a rfl (L.nil (T.meet (()) ⟨?_,rfl,rfl,trivial⟩ rfl)))))))
   ·exact congrArg (fun z=>some (str z)) (if_neg (by simp)).symm
  refine T.cf (T.skip (T.meet (()) ⟨?_,rfl,rfl,trivial⟩ rfl))
  ·exact congrArg (fun z=>some (str z)) (if_pos rfl).symm
 rintro _ w23 rfl
 refine T.q (L.o (O.alloc zeroValue4 (fun b24 w24 amI aj9 U1 Vo=>?_)))
 refine L.o (O.store1 sizeOf4 rfl rfl rfl Vo (by simp [Value.cells]) (fun w25 KR Dj=>?_))
 have aj9:=U1.size
 have hlen2:(if Lib.hasSuffix t [10]=true then t else t ++ [0,10]).length≤50000:=by split;omega;rw [List.length_append];show t.length+2≤_;omega
 refine L.nil (T.q (L.m rfl (L.o (O.call (xs:=[.tmp 38,_]) call27 rfl rfl (wo (if Lib.hasSuffix t [10]=true then t else t ++ [0,10]) [10] w25 (by omega)) (fun v26 w26 hq=>?_)))))
 obtain ⟨ahK,rfl⟩:=hq
 have hbl:=V6 t
 have hl9:=Blk.lt (cs:=[.map (some b16)]) ahH
 have hlM:=ahI.lt
 have hlS:=Blk.lt ahJ
 have hlP:=Blk.lt (cs:=[.slice (some ⟨bs,0,none⟩) xs.length cap]) ahG
 have hzw:=EK.size
 have amJ:=Blk.lt (cs:=[.map (some b16)]) adO
 have amK:=he3.size
 have afl:v26=str (D8 t):=ahK
 subst afl
 clear ahK
 have akb:AsI w b24 b16 b9 b4 bs xs.length cap (true,keysA (nmA r.us) xs.length,xs) (fun _=>False) w26:=⟨(EK.trans U1).upd KR (.inr (by have:=EK.size;omega)),Dj,Blk.upd (cs:=[.map (some b16)]) (Blk.ext (cs:=[.map (some b16)]) ahH U1) KR (by omega),(ahI.keep U1).upd KR (by omega),Blk.upd (cs:=[.slice (some ⟨bs,0,none⟩) xs.length cap]) (Blk.ext (cs:=[.slice (some ⟨bs,0,none⟩) xs.length cap]) ahG U1) KR (by omega),⟨cur,Blk.upd (Blk.ext ahJ U1) KR (by omega),hc3,hc4⟩,rfl,⟨hc1,hc2⟩,V7,by omega,fun k hk=>hk.elim⟩
 refine L.o (O.makeFunc (fi:=[]) (ca:=[.tmp 11,.tmp 9,.tmp 4]) rfl rfl (L.o (O.call (xs:=[.tmp 39,.tmp 40]) call66 rfl rfl (rC (D8 t) 107 #[] #[.pointer (some ⟨b24,0,none⟩),.pointer (some ⟨b9,0,none⟩),.pointer (some ⟨b4,0,none⟩)] kN (true,keysA (nmA r.us) xs.length,xs) (fun _ _ ↦ True) (AsI w b24 b16 b9 b4 bs xs.length cap) (fun S W ↦ Ext w W∧∀ k,S k→w.heap.size≤k∧k<W.heap.size) w26 (by omega) call107 AsI.FH (fun S W W' h k ↦ ⟨h.1.trans k,fun j hj ↦ ⟨(h.2 j hj).1,Nat.lt_of_lt_of_le (h.2 j hj).2 k.size⟩⟩) (fun S W W' b h hb k ↦ ⟨h.1.upd k (.inr (h.2 b hb).1),fun j hj ↦ ⟨(h.2 j hj).1,by rw [k.size];exact (h.2 j hj).2⟩⟩) (fun s S W h ↦ hL.ext h.e) (afk w b24 b16 b9 b4 bs xs.length cap hL) trivial (fun _ _ _ _ _ _ ↦ trivial) akb) (fun v27 w27 hq=>?_))))
 obtain ⟨hv27,akc,akd⟩:=hq
 rcases hrun:sD kN (true,keysA (nmA r.us) xs.length,xs) (aS 10 (D8 t)) 1 with s|m
 ·rw [hrun] at hv27
  obtain rfl:v27 = .int .i64 0:=hv27
  obtain ⟨S,aaq⟩:=akc s hrun
  obtain ⟨cur',c1,c2,c3⟩:=aaq.c
  have hr1:cO (nmA r.us) xs t=(s.2.2,0,0):=by rw [cO,if_neg (by omega),hrun]
  refine L.a rfl (L.nil (T.seq (T.q (L.m rfl (L.o (O.zS rfl rfl (by omega) (L.nil (T.cf (T.skip (T.q (L.o (O.load isAgg31 rfl (aaq.p.cell rfl) (L.a rfl (L.a rfl (L.a rfl (L.nil (T.UF results56 rfl rfl rfl ⟨_,by rw [hr1];rfl,by rw [hr1];exact V9 c1 c2 aaq.cp.1 aaq.cp.2 c3 aaq.len,aaq.e⟩)))))))))))))))))
 rw [hrun] at hv27
 obtain rfl:v27 = .int .i64 (m:Int):=hv27
 obtain ⟨S,ake⟩:=akd m hrun
 have hm1:=JK _ _ _ _ _ hrun
 have hr1:cO (nmA r.us) xs t=([],m,5):=by rw [cO,if_neg (by omega),hrun]
 refine L.a rfl (L.nil (T.seq (T.q (L.m rfl (L.o (O.Cm rfl rfl (by omega) (L.nil (T.ct (T.q (L.m rfl (L.a rfl (L.a rfl (L.a rfl (L.nil (T.UF results56 rfl rfl rfl ⟨.slice none 0 0,by rw [hr1],by rw [hr1];exact Sl.nil _ _ _,ake.1⟩)))))))))))))))
theorem oZ (lo:Nat) (r:RoV) (p:Value) (xs:List Int) (t:Str) (w:World) (hr:r.ok lo w) (hp:Ints .i64 0 w p xs) (hL:jc w) (h0:bG r) (hn:xs.length≤r.us.length) (h1:0<xs.length) (hu:r.us.length≤64) (ht:t.length≤1000000) :
  Calls Tryz.prog 56 #[r.val,p,str t] w (Ret fun v w'=>∃ pv,v = .tuple #[pv,.int .i64 ((cO (nmA r.us) xs t).2.1:Int),.int .i64 (cO (nmA r.us) xs t).2.2]∧Ints .i64 0 w' pv (cO (nmA r.us) xs t).1∧Ext w w'):=by
 obtain ⟨oa,cp0,rfl,_,_⟩:=Sl.val hp
 exact yN lo r oa cp0 xs t w hr hp hL h0 hn h1 hu ht
open Go Go.E RowKit
theorem yO {c:Nat} : ∀ (ls:List Str),(∀ l∈ls,l.length≤c)→(aF ls).length≤ls.length*(c+1)
 | [],_=>by simp [aF]
 | l::r,h=>by
  have h1:=h l (by simp)
  have h2:=yO r fun x hx=>h x (List.mem_cons_of_mem _ hx)
  have e:aF (l::r)=l ++ [10]++aF r:=by simp [aF]
  have e2:(l::r).length*(c+1)=r.length*(c+1)+(c+1):=by rw [List.length_cons,Nat.succ_mul]
  have e3:(l ++ [10]++aF r).length=l.length+1+(aF r).length:=by simp only [List.length_append,List.length_cons,List.length_nil]
  rw [e,e3,e2]
  omega
theorem JL {r:RoV} (h:bG r) {i:Nat} (hi:i<r.us.length):nmA r.us i ≠ []∧(nmA r.us i).length≤12∧(nmA r.us i).all gU=true:=by
 have:=(h.good i hi).right
 simp only [bU,sG,List.all_cons,id,Bool.and_eq_true,Bool.not_eq_true',decide_eq_false_iff_not,decide_eq_true_eq] at this
 obtain ⟨h1,h2,h3,_⟩:=this
 exact ⟨h1,by unfold nmA;omega,h3⟩
def fZ (nm:Nat→Str) (xs:List Int) (i:Nat):Str:=nm i ++ [44]++Lib.itoa (xs.getD i 0+1)
def jD (nm:Nat→Str) (xs:List Int) (n:Nat):List Str:=oI::(List.range n).map (fZ nm xs)
theorem JM (nm:Nat→Str) (xs:List Int) (n:Nat):jD nm xs (n+1)=jD nm xs n ++ [fZ nm xs n]:=by simp [jD,List.range_succ]
theorem tX (nm:Nat→Str) (xs:List Int) (n:Nat):(jD nm xs n).length=n+1:=by simp [jD]
theorem RY {xs:List Int} {n:Int} (h:ng xs n=true):(xs.length:Int)=n∧∀ i,i<xs.length→0≤xs.getD i 0∧xs.getD i 0<8:=by
 rw [ng,Bool.and_eq_true,decide_eq_true_eq] at h
 refine ⟨h.1,fun i hi=>?_⟩
 have:=List.all_eq_true.1 h.2 (xs.getD i 0) (by rw [au hi];exact List.getElem_mem hi)
 simp only [EO,Bool.not_eq_true',decide_eq_false_iff_not] at this
 omega
theorem GU {r:RoV} {xs:List Int} {i:Nat} (h:bG r) (hi:i<r.us.length) (hx:0≤xs.getD i 0∧xs.getD i 0<8):(fZ (nmA r.us) xs i).length≤40:=by
 have h1:=(JL h hi).2.1
 have h2:=Lib.itoa_length_le (xs.getD i 0+1) (by omega) (by omega)
 rw [fZ,List.length_append,List.length_append]
 simp only [List.length_cons,List.length_nil]
 omega
theorem RZ {r:RoV} {xs:List Int} {n:Nat} (h:bG r) (hn:n≤r.us.length) (h64:r.us.length≤64) (hx:∀ i,i<n→0≤xs.getD i 0∧xs.getD i 0<8):(aF (jD (nmA r.us) xs n)).length≤40000:=by
 have:=yO (c:=40) (jD (nmA r.us) xs n) fun l hl=>by
  rcases List.mem_cons.1 hl with rfl|hl
  ·decide
  obtain ⟨i,hi,rfl⟩:=List.mem_map.1 hl
  have hi':=List.mem_range.1 hi
  exact GU h (by omega) (hx i hi')
 rw [tX] at this
 omega
def yP (base:Nat) (xs:List Str) (v:Value) (w:World):Prop:=w.ownsRow base 9 1 v xs.length (xs.map str)
theorem GV {base:Nat} {xs ys:List Str} {v:Value} {w:World} (h:w.ownsRow base 9 1 v (xs.length+ys.length) (xs.map str++ys.map str)):yP base (xs++ys) v w:=by
 unfold yP;rw [List.length_append,List.map_append];exact h
theorem oJ (xs:List Str):∀ u∈xs.map str,u.oneCell'=true:=fun u hu=>by
 obtain ⟨s,_,rfl⟩:=List.mem_map.1 hu;rfl
def Si (xs:List Str) (v:Value) (w:World):Prop:=Strs 0 w v xs
theorem Si.st {xs:List Str} : ∀ v w w',Ext w w'→Si xs v w→Si xs v w':=fun _ _ _ he h=>Strs.ext h he
noncomputable def vk (r:RoV) (xs:List Int):Str × Int :=
 @ite _ (bG r) (Classical.propDecidable _) (if ng xs (aN r.us)=true then (aF (jD (nmA r.us) xs xs.length),0) else ([],2)) ([],161)
theorem BA {r:RoV} {xs:List Int} (h:¬ bG r):vk r xs=([],161):=by unfold vk;exact if_neg h
theorem rE {r:RoV} {xs:List Int} (h:bG r):vk r xs=if ng xs (aN r.us)=true then (aF (jD (nmA r.us) xs xs.length),0) else ([],2):=by unfold vk;exact if_pos h
theorem yQ (r:RoV):(fG r=0∧bG r∧sH r=aN r.us)∨(fG r=161∧¬ bG r):=by
 by_cases h:bG r
 ·exact .inl ⟨eu h,h,AU (eu h)⟩
 exact .inr ⟨dA h,h⟩
theorem vw (lo:Nat) (r:RoV) (p:Value) (xs:List Int) (w:World) (hr:r.ok lo w) (hp:Ints .i64 0 w p xs) (hL:jc w) :
  Calls Tryz.prog 12 #[r.val,p] w (Ret fun v w'=>v = .tuple #[str (vk r xs).1,.int .i64 (vk r xs).2]∧Ext w w'):=by
 refine T.enter (vs:=[r.val,p]) func12 rfl ntmps12 rfl ?_
 refine T.q (L.o (O.box rfl (fun b2 w2 hb2 hz2 he2 hB2=>?_)))
 have hC2:Blk w2 b2 r.cells _:=hB2
 refine L.a rfl (L.a rfl (L.nil (T.q (L.o (O.ak isAgg25 sizeOf25 rfl rfl hC2.row (L.o (O.call (xs:=[.tmp 12]) call52 rfl rfl (sJ lo r w2 (hr.ext he2)) (fun v3 w3 hq=>?_))))))))
 obtain ⟨rfl,he3⟩:=hq
 have mQ:=he2.trans he3
 rcases yQ r with ⟨herr,hok,hln⟩|⟨herr,hok⟩
 ·rw [herr,hln]
  refine L.m rfl (L.o (O.extract rfl rfl (L.o (O.extract rfl rfl (L.a rfl (L.a rfl (L.nil (T.seq (T.q (L.m rfl (L.o (O.kZ rfl rfl rfl (L.nil (T.cf (T.skip (T.seq (T.q (L.m rfl (L.m rfl (L.o (O.call (xs:=[.tmp 19,.tmp 20]) call53 rfl rfl (Bv 0 p xs (aN r.us) w3 (hp.ext mQ)) (fun v4 w4 hq=>?_))))))))))))))))))))))
  obtain ⟨hv4,rfl⟩:=hq
  have hle:=kH r.us
  have h64:=(KQ herr).2.2.2.2.2.2.2
  cases hfit:ng xs (aN r.us)
  ·rw [hfit] at hv4
   subst hv4
   refine L.o (O.not rfl (L.nil (T.ct (T.q (L.a rfl (L.a rfl (L.nil (T.Cj results12 rfl rfl ⟨by rw [rE hok,if_neg (by rw [hfit];simp)];rfl,mQ⟩))))))))
  rw [hfit] at hv4
  subst hv4
  obtain ⟨hlen,hxs⟩:=RY hfit
  refine L.o (O.not rfl (L.nil (T.cf (T.skip (T.q (L.o (O.buildSlice (el:=9) (parts:=[(0,_)]) (vs:=[(0,_)]) (cs:=([oI].map str)) rfl (fun w=>by kernel_rfl) (fun b5 w5 hb5 hz5 he5 hB5=>?_))))))))
  have hO5:yP w4.heap.size (jD (nmA r.us) xs 0) (.slice (some ⟨b5,0,none⟩) 1 1) w5:=kX (n:=1) (cap:=1) (sz:=1) hB5 (by omega) (Nat.le_refl _) (by decide) rfl
  have QD:=mQ.trans he5
  refine L.a rfl (L.nil (T.seq (T.q (L.m rfl (L.o (O.len runUnderlying31 rfl (Sl.val hp) (L.m rfl (L.nil (T.block (?_))))))))))
  refine T.loop (σ:=Nat × Value) (fun g=>[(1,p),(2,.pointer (some ⟨b2,0,none⟩)),(8,g.2),(24,p),(25,.int .i64 xs.length),(26,.int .i64 g.1)]) (fun g W=>g.1≤xs.length∧Ext w W∧Ext w4 W∧yP w4.heap.size (jD (nmA r.us) xs g.1) g.2 W) (fun g=>xs.length-g.1) ((0,.slice (some ⟨b5,0,none⟩) 1 1)) ⟨rfl,rfl,rfl,rfl,rfl,rfl,trivial⟩ ⟨Nat.zero_le _,QD,he5,hO5⟩ ?_
  rintro ⟨i,lv⟩ w6 ⟨hi,he6,AV,hO6⟩
  simp only at hi hO6
  refine T.q (L.o (O.bF rfl rfl (fun hlt=>?_) (fun hlt=>?_)))
  ·refine L.nil (?_)
   have hlt':i<xs.length:=by simp only at hlt;omega
   have hir:i<r.us.length:=by omega
   have hC6:Blk w6 b2 r.cells _:=Blk.ext (cs:=r.cells) hC2 (he3.trans AV)
   have hxi:=hxs i hlt'
   have hU6:Units lo w6 r.uv r.us:=hr.ext he6
   have hnl:=(JL hok hir).2.1
   have hll:=GU (xs:=xs) hok hir hxi
   have hit:=Lib.itoa_length_le (xs.getD i 0+1) (by omega) (by omega)
   refine T.seq (T.ct (T.skip (T.seq (T.block (T.q (L.m rfl (L.o (O.indexAddr runUnderlying31 sizeOf3 rfl rfl (hp.ext he6) (by omega) (by omega) (L.o (O.load isAgg3 rfl (Ints.at (hp.ext he6) hlt') (L.a rfl (L.a rfl (L.nil (?_))))))))))))))
   refine T.fJ mixed 13 [8,2,9,10] rfl [.is _,.is _,.is _,.is _,.is _,.is _,.is _,.is _,.is _,.is _,.is (str (Lib.itoa (xs.getD i 0+1))),.is _,.such (Si [fZ (nmA r.us) xs i])] [[],[],[1],[],[2,3],[4],[5],[6],[],[8],[9],[7,10],[11]] [[],[],[1],[],[1,2,3],[1,2,3,4],[1,2,3,4,5],[1,2,3,4,5,6],[],[8],[8,9],[1,2,3,4,5,6,7,8,9,10],[1,2,3,4,5,6,7,8,9,10,11],[0,1,2,3,4,5,6,7,8,9,10,11,12],[0,1,2,3,4,5,6,7,8,9,10,11,12,13]] (by kernel_rfl) (by kernel_rfl) rfl (by kernel_rfl) ⟨Si.st,trivial⟩ ⟨fun wx hx=>Ob.o (O.move rfl kR),
     fun wx hx=>Ob.o (O.fieldAddr runUnderlying25 rfl sizeOf23 rfl kR),
     fun wx hx=>Ob.o (O.load isAgg23 rfl ((Blk.ext (cs:=r.cells) hC6 hx).cell rfl) kR),
     fun wx hx=>Ob.o (O.move rfl kR),
     fun wx hx=>Ob.o (O.indexAddr runUnderlying23 sizeOf51 rfl rfl ((hU6.ext hx).sl) (by omega) (by omega) kR),
     fun wx hx=>Ob.o (O.fieldAddr runUnderlying51 rfl sizeOf9 rfl kR),
     fun wx hx=>Ob.o (O.load isAgg9 rfl ((hU6.ext hx).name hir) kR),
     fun wx hx=>Ob.o (O.jV rfl rfl (by show (r.us.getD i u0).nm.length+1≤_;unfold nmA at hnl;omega) kR),
     fun wx hx=>Ob.o (O.move rfl kR),
     fun wx hx=>Ob.o (O.aI rfl rfl (by have:=hxi;show -9223372036854775808≤xs.getD i 0+1∧xs.getD i 0+1≤9223372036854775807;omega) kR),
     fun wx hx=>Ob.o (O.call (xs:=[.tmp 40]) call54 rfl rfl (oH (xs.getD i 0+1) wx (hL.ext (he6.trans hx)) (by omega) (by omega)) (fun v wy h=>⟨h.2,h.1⟩)),
     fun wx hx=>Ob.o (O.jV rfl rfl (by rw [List.length_append];show (r.us.getD i u0).nm.length+1+_≤_;unfold nmA at hnl;omega) kR),
     fun wx hx=>Ob.o (O.buildSlice (el:=9) (parts:=[(0,.tmp 42)]) (vs:=[(0,_)]) (cs:=([fZ (nmA r.us) xs i].map str)) rfl (fun w=>by kernel_rfl) (fun b43 w43 aiO aiP aaV aej=>⟨aaV,Strs.ay aej rfl (by decide) (Nat.zero_le _)⟩)),
     trivial⟩ (fun w10 gI v43 akf=>?_)
   refine L.o (O.append (size:=1) (bytes:=16) runUnderlying61 Tryz.rY rfl rfl rfl rfl (by decide) rfl rfl (aG hO6 (gI.mono (Nat.zero_le _)) (Nat.le_refl _)) akf (oJ _) (by simp only [tX,List.length_cons,List.length_nil];omega) (by simp only [tX,maxLen,List.length_cons,List.length_nil];omega) (by have:=AV.size;have:=gI.size;omega) (fun v7 w7 hO7 hG7=>?_))
   have adP:Ext w4 w7:=Keep.fO (AV.trans gI) (aG hO6 (gI.mono (Nat.zero_le _)) (Nat.le_refl _)) hG7 (Nat.le_refl _)
   refine L.a rfl (L.nil (T.blk (T.region (L.o (O.aI rfl rfl (by omega) (L.m rfl (L.nil (T.again ((i+1,v7)) (by omega) ⟨rfl,rfl,rfl,rfl,rfl,rfl,trivial⟩ ⟨hlt',mQ.trans adP,adP,by rw [JM];exact GV (ys:=[fZ (nmA r.us) xs i]) hO7⟩))))))))
  refine L.nil (?_)
  obtain rfl:i=xs.length:=by simp only at hlt;omega
  refine T.seq (T.cf (T.exit rfl (T.q (L.m rfl (L.o (O.call (xs:=[.tmp 46]) call55 rfl rfl (vg 0 lv (jD (nmA r.us) xs xs.length) w6 ((Sl.aT hO6).mono (Nat.zero_le _)) (Nat.le_trans (RZ hok (by omega) (by omega) hxs) (by omega))) (fun v8 w8 hq=>?_)))))))
  obtain ⟨rfl,he8⟩:=hq
  refine L.a rfl (L.a rfl (L.nil (T.Cj results12 rfl rfl ⟨by rw [rE hok,if_pos hfit],he6.trans he8⟩)))
 rw [herr]
 refine L.m rfl (L.o (O.extract rfl rfl (L.o (O.extract rfl rfl (L.a rfl (L.a rfl (L.nil (T.seq (T.q (L.m rfl (L.o (O.IG rfl rfl (by omega) (L.nil (T.ct (T.q (L.m rfl (L.a rfl (L.a rfl (L.nil (T.Cj results12 rfl rfl ⟨by rw [BA hok];rfl,mQ⟩))))))))))))))))))))
open Go Go.E RowKit
noncomputable def jE (r:RoV) (xs:List Int) (t:Str):List Int × Nat × Int :=
 @ite _ (bG r) (Classical.propDecidable _) (if ng xs (aN r.us)=true then cO (nmA r.us) xs t else ([],0,2)) ([],0,161)
theorem yR {r:RoV} {xs:List Int} {t:Str} (h:¬ bG r):jE r xs t=([],0,161):=by unfold jE;exact if_neg h
theorem tY {r:RoV} {xs:List Int} {t:Str} (h:bG r):jE r xs t=if ng xs (aN r.us)=true then cO (nmA r.us) xs t else ([],0,2):=by unfold jE;exact if_pos h
def vC (nm:Nat→Str) (n:Nat) (t:Str):List Int × Nat × Int :=
 let a:=cO nm (List.replicate n (-1)) t
 if a.2.2≠0 then ([],a.2.1,a.2.2) else if (-1:Int)∈a.1 then ([],0,4) else (a.1,0,0)
noncomputable def cZ (r:RoV) (t:Str):List Int × Nat × Int :=
 @ite _ (bG r) (Classical.propDecidable _) (vC (nmA r.us) (aN r.us) t) ([],0,161)
theorem yS {r:RoV} {t:Str} (h:¬ bG r):cZ r t=([],0,161):=by unfold cZ;exact if_neg h
theorem kP {r:RoV} {t:Str} (h:bG r):cZ r t=vC (nmA r.us) (aN r.us) t:=by unfold cZ;exact if_pos h
theorem rF {r:RoV} (h:bG r):0<aN r.us∧aN r.us≤r.us.length∧r.us.length≤64:=by
 have hb:=KQ (eu h)
 have hpos:0<r.us.length:=by omega
 have h0:=(h.good 0 hpos).first rfl
 refine ⟨?_,kH _,by omega⟩
 cases hus:r.us with
 | nil=>rw [hus] at hpos;simp at hpos
 | cons u us =>
  rw [hus] at h0
  have h0':u.wt=false:=h0
  simp [aN,h0']
theorem D9 (lo:Nat) (r:RoV) (p:Value) (xs:List Int) (t:Str) (w:World) (hr:r.ok lo w) (hp:Ints .i64 0 w p xs) (hL:jc w) (ht:t.length≤1000000) :
  Calls Tryz.prog 14 #[r.val,p,str t] w (Ret fun v w'=>∃ pv,v = .tuple #[pv,.int .i64 ((jE r xs t).2.1:Int),.int .i64 (jE r xs t).2.2]∧Ints .i64 0 w' pv (jE r xs t).1∧Ext w w'):=by
 refine T.enter (vs:=[r.val,p,str t]) func14 rfl ntmps14 rfl ?_
 refine T.q (L.o (O.box rfl (fun b2 w2 hb2 hz2 he2 hB2=>?_)))
 have hC2:Blk w2 b2 r.cells _:=hB2
 refine L.a rfl (L.a rfl (L.a rfl (L.nil (T.q (L.o (O.ak isAgg25 sizeOf25 rfl rfl hC2.row (L.o (O.call (xs:=[.tmp 11]) call52 rfl rfl (sJ lo r w2 (hr.ext he2)) (fun v3 w3 hq=>?_)))))))))
 obtain ⟨rfl,he3⟩:=hq
 have mQ:=he2.trans he3
 rcases yQ r with ⟨herr,hok,hln⟩|⟨herr,hok⟩
 ·rw [herr,hln]
  refine L.m rfl (L.o (O.extract rfl rfl (L.o (O.extract rfl rfl (L.a rfl (L.a rfl (L.nil (T.seq (T.q (L.m rfl (L.o (O.kZ rfl rfl rfl (L.nil (T.cf (T.skip (T.seq (T.q (L.m rfl (L.m rfl (L.o (O.call (xs:=[.tmp 18,.tmp 19]) call53 rfl rfl (Bv 0 p xs (aN r.us) w3 (hp.ext mQ)) (fun v4 w4 hq=>?_))))))))))))))))))))))
  obtain ⟨hv4,rfl⟩:=hq
  have hpos:=rF hok
  cases hfit:ng xs (aN r.us)
  ·rw [hfit] at hv4
   subst hv4
   have hr1:jE r xs t=([],0,2):=by rw [tY hok,if_neg (by rw [hfit];simp)]
   refine L.o (O.not rfl (L.nil (T.ct (T.q (L.a rfl (L.a rfl (L.a rfl (L.nil (T.UF results14 rfl rfl rfl ⟨.slice none 0 0,by rw [hr1];rfl,by rw [hr1];exact Sl.nil _ _ _,mQ⟩)))))))))
  rw [hfit] at hv4
  subst hv4
  obtain ⟨hlen,hxs⟩:=RY hfit
  refine L.o (O.not rfl (L.nil (T.cf (T.skip (T.q (L.o (O.ak isAgg25 sizeOf25 rfl rfl ((Blk.ext (cs:=r.cells) hC2 he3).row) (L.m rfl (L.m rfl (L.o (O.call (xs:=[.tmp 22,.tmp 23,.tmp 24]) call56 rfl rfl (oZ lo r p xs t w4 (hr.ext mQ) (hp.ext mQ) (hL.ext mQ) hok (by omega) (by omega) hpos.2.2 ht) (fun v5 w5 hq=>?_))))))))))))
  obtain ⟨pv,rfl,hpv,he5⟩:=hq
  have hr1:jE r xs t=cO (nmA r.us) xs t:=by rw [tY hok,if_pos hfit]
  refine L.o (O.extract rfl rfl (L.o (O.extract rfl rfl (L.o (O.extract rfl rfl (L.a rfl (L.a rfl (L.a rfl (L.nil (T.UF results14 rfl rfl rfl ⟨pv,by rw [hr1];rfl,by rw [hr1];exact hpv,mQ.trans he5⟩))))))))))
 rw [herr]
 refine L.m rfl (L.o (O.extract rfl rfl (L.o (O.extract rfl rfl (L.a rfl (L.a rfl (L.nil (T.seq (T.q (L.m rfl (L.o (O.IG rfl rfl (by omega) (?_)))))))))))))
 have hr1:jE r xs t=([],0,161):=yR hok
 refine L.nil (T.ct (T.q (L.m rfl (L.a rfl (L.a rfl (L.a rfl (L.nil (T.UF results14 rfl rfl rfl ⟨.slice none 0 0,by rw [hr1];rfl,by rw [hr1];exact Sl.nil _ _ _,mQ⟩))))))))
def JO (n:Nat) (base:Nat) (v:Value) (w:World):Prop:=∃ b,v = .slice (some ⟨b,0,none⟩) n n∧base≤b∧Blk w b (List.replicate n (.int .i64 (-1))) 3
theorem JO.st {n base:Nat} : ∀ v w w',Ext w w'→JO n base v w→JO n base v w':=fun _ _ _ he ⟨b,h1,h2,h3⟩=>⟨b,h1,h2,Blk.ext h3 he⟩
theorem JO.ints {n base:Nat} {v:Value} {w:World} (h:JO n base v w) (hn:n≤1000):Ints .i64 0 w v (List.replicate n (-1)):=by
 obtain ⟨b,rfl,_,hB⟩:=h
 have:=Sl.ay (n:=n) (cap:=n) (sz:=1) (lo:=0) hB (by simp) (Nat.le_refl _) (by simp only [maxLen];omega) (Nat.zero_le _)
 have e:List.replicate n (Value.int .i64 (-1))=(List.replicate n (-1:Int)).map (Value.int .i64):=by simp
 rw [e] at this
 unfold Ints
 rw [List.length_replicate]
 exact this
def ab3 (v:Value) (w:World):Prop:=∃ b,v = .slice (some ⟨b,0,none⟩) 1 1∧Blk w b [.int .i64 (-1)] 3
theorem ab3.st:∀ v w w',Ext w w'→ab3 v w→ab3 v w':=fun _ _ _ he ⟨b,h1,h2⟩=>⟨b,h1,Blk.ext (cs:=[.int .i64 (-1)]) h2 he⟩
def tZ (xs:List Int) (v:Value) (w:World):Prop:=Ints .i64 0 w v xs
theorem tZ.st {xs:List Int} : ∀ v w w',Ext w w'→tZ xs v w→tZ xs v w':=fun _ _ _ he h=>Sl.ext h he
def Y8 (nm:Nat→Str) (xs:List Int) (t:Str) (v:Value) (w:World):Prop:=∃ pv,v = .tuple #[pv,.int .i64 ((cO nm xs t).2.1:Int),.int .i64 (cO nm xs t).2.2]∧Ints .i64 0 w pv (cO nm xs t).1
theorem Y8.st {nm:Nat→Str} {xs:List Int} {t:Str} : ∀ v w w',Ext w w'→Y8 nm xs t v w→Y8 nm xs t v w':=fun _ _ _ he ⟨pv,h1,h2⟩=>⟨pv,h1,h2.ext he⟩
set_option maxHeartbeats 1000000 in
theorem oK (lo:Nat) (r:RoV) (t:Str) (w:World) (hr:r.ok lo w) (hL:jc w) (ht:t.length≤1000000) :
  Calls Tryz.prog 13 #[r.val,str t] w (Ret fun v w'=>∃ pv,v = .tuple #[pv,.int .i64 ((cZ r t).2.1:Int),.int .i64 (cZ r t).2.2]∧Ints .i64 0 w' pv (cZ r t).1∧Ext w w'):=by
 refine T.enter (vs:=[r.val,str t]) func13 rfl ntmps13 rfl ?_
 refine T.q (L.o (O.box rfl (fun b2 w2 hb2 hz2 he2 hB2=>?_)))
 have hC2:Blk w2 b2 r.cells _:=hB2
 refine L.a rfl (L.a rfl (L.a rfl (L.nil (T.q (L.o (O.ak isAgg25 sizeOf25 rfl rfl hC2.row (L.o (O.call (xs:=[.tmp 9]) call52 rfl rfl (sJ lo r w2 (hr.ext he2)) (fun v3 w3 hq=>?_)))))))))
 obtain ⟨rfl,he3⟩:=hq
 have mQ:=he2.trans he3
 rcases yQ r with ⟨herr,hok,hln⟩|⟨herr,hok⟩
 ·rw [herr,hln]
  have hpos:=rF hok
  refine L.m rfl (L.o (O.extract rfl rfl (L.o (O.extract rfl rfl (L.a rfl (L.a rfl (L.nil (T.seq (T.q (L.m rfl (L.o (O.kZ rfl rfl rfl (L.nil (T.cf (T.skip (T.seq (?_)))))))))))))))))
  refine T.fJ mixed 12 [2,7,1] rfl [.is _,.such ab3,.is _,.such (JO (aN r.us) 0),.is _,.such (Y8 (nmA r.us) (List.replicate (aN r.us) (-1)) t),.such (Y8 (nmA r.us) (List.replicate (aN r.us) (-1)) t),.such (tZ (cO (nmA r.us) (List.replicate (aN r.us) (-1)) t).1),.is (.int .i64 ((cO (nmA r.us) (List.replicate (aN r.us) (-1)) t).2.1:Int)),.is (.int .i64 (cO (nmA r.us) (List.replicate (aN r.us) (-1)) t).2.2),.such (tZ (cO (nmA r.us) (List.replicate (aN r.us) (-1)) t).1),.is _] [[],[],[],[1,2],[],[0,3,4],[5],[6],[6],[6],[7],[8]] [[],[],[],[1,2],[],[0,1,2,3,4],[0,1,2,3,4,5],[0,1,2,3,4,5,6],[0,1,2,3,4,5,6],[0,1,2,3,4,5,6],[0,1,2,3,4,5,6,7],[0,1,2,3,4,5,6,7,8,10],[0,1,2,3,4,5,6,7,8,9,10,11]] (by kernel_rfl) (by kernel_rfl) rfl (by kernel_rfl) ⟨ab3.st,JO.st,Y8.st,Y8.st,tZ.st,tZ.st,trivial⟩ ⟨fun wx hx=>Ob.o (O.ak isAgg25 sizeOf25 rfl rfl ((Blk.ext (cs:=r.cells) hC2 (he3.trans hx)).row) kR),
    fun wx hx=>Ob.o (O.buildSlice (el:=3) (parts:=[(0,.const (.int .i64 (-1)))]) (vs:=[(0,_)]) (cs:=[.int .i64 (-1)]) rfl (fun w=>by kernel_rfl) (fun b18 w18 ab4 ab5 lZ uT=>⟨lZ,b18,rfl,uT⟩)),
    fun wx hx=>Ob.o (O.move rfl kR),
    fun wx hx v18 aaP=>by { obtain ⟨b0,rfl,hb0⟩:=aaP;exact Ob.o (O.call (xs:=[.tmp 18,.tmp 19]) call57 rfl rfl (wu b0 (aN r.us) wx hb0 (by omega) (by omega)) (fun v wy h=>⟨by obtain ⟨b,h1,h2,h3,h4⟩:=h;exact h4,by obtain ⟨b,h1,h2,h3,h4⟩:=h;exact ⟨b,h1,Nat.zero_le _,h3⟩⟩)) },
    fun wx hx=>Ob.o (O.move rfl kR),
    fun wx hx v20 ahL=>Ob.o (O.call (xs:=[.tmp 17,.tmp 20,.tmp 21]) call56 rfl rfl (oZ lo r v20 (List.replicate (aN r.us) (-1)) t wx (hr.ext (mQ.trans hx)) (ahL.ints (by omega)) (hL.ext (mQ.trans hx)) hok (by rw [List.length_replicate];omega) (by rw [List.length_replicate];omega) hpos.2.2 ht) (fun v wy h=>⟨by obtain ⟨b,h1,h2,h3⟩:=h;exact h3,by obtain ⟨b,h1,h2,h3⟩:=h;exact ⟨b,h1,h2⟩⟩)),
    fun wx hx v22 Ph=>Ob.o (O.move rfl ⟨Keep.refl _ _,Ph⟩),
    fun wx hx v16 aar=>by { obtain ⟨pv,rfl,hpv⟩:=aar;exact Ob.o (O.extract rfl rfl ⟨Keep.refl _ _,hpv⟩) },
    fun wx hx v16 aar=>by { obtain ⟨pv,rfl,hpv⟩:=aar;exact Ob.o (O.extract rfl rfl kR) },
    fun wx hx v16 aar=>by { obtain ⟨pv,rfl,hpv⟩:=aar;exact Ob.o (O.extract rfl rfl kR) },
    fun wx hx v23 ahM=>Ob.o (O.assign rfl ⟨Keep.refl _ _,ahM⟩),
    fun wx hx=>Ob.o (O.assign rfl kR),
    trivial⟩ (fun w4 he4 v18 aaP v20 ahL v22 Ph v16 aar v23 ahM v4 hv4=>?_)
  have afm:=mQ.trans he4
  refine L.a rfl (L.nil (T.seq (T.q (L.m rfl (L.o (O.jT rfl rfl (fun Wh=>?_) (fun Wh=>?_)))))))
  ·refine L.nil (?_)
   have hr1:cZ r t=([],(cO (nmA r.us) (List.replicate (aN r.us) (-1)) t).2.1,(cO (nmA r.us) (List.replicate (aN r.us) (-1)) t).2.2):=by rw [kP hok,vC];exact if_pos Wh
   refine T.ct (T.q (L.m rfl (L.m rfl (L.a rfl (L.a rfl (L.a rfl (L.nil (T.UF results13 rfl rfl rfl ⟨.slice none 0 0,by rw [hr1],by rw [hr1];exact Sl.nil _ _ _,afm⟩))))))))
  refine L.nil (T.cf (T.skip (T.seq (T.q (L.m rfl (L.o (O.call (xs:=[.tmp 30,.const (.int .i64 (-1))]) call58 rfl rfl (D7 0 v4 _ w4 hv4) (fun v5 w5 hq=>?_))))))))
  obtain ⟨hv5,rfl⟩:=hq
  cases hm:decide ((-1:Int)∈(cO (nmA r.us) (List.replicate (aN r.us) (-1)) t).1)
  ·refine L.nil (?_)
   rw [hm] at hv5
   subst hv5
   have hr1:cZ r t=((cO (nmA r.us) (List.replicate (aN r.us) (-1)) t).1,0,0):=by rw [kP hok,vC];exact (if_neg (fun h=>h Wh)).trans (if_neg (of_decide_eq_false hm))
   refine T.cf (T.skip (T.q (L.m rfl (L.a rfl (L.a rfl (L.a rfl (L.nil (T.UF results13 rfl rfl rfl ⟨v4,by rw [hr1];rfl,by rw [hr1];exact hv4,afm⟩))))))))
  refine L.nil (?_)
  rw [hm] at hv5
  subst hv5
  have hr1:cZ r t=([],0,4):=by rw [kP hok,vC];exact (if_neg (fun h=>h Wh)).trans (if_pos (of_decide_eq_true hm))
  refine T.ct (T.q (L.a rfl (L.a rfl (L.a rfl (L.nil (T.UF results13 rfl rfl rfl ⟨.slice none 0 0,by rw [hr1];rfl,by rw [hr1];exact Sl.nil _ _ _,afm⟩))))))
 rw [herr]
 refine L.m rfl (L.o (O.extract rfl rfl (L.o (O.extract rfl rfl (L.a rfl (L.a rfl (L.nil (T.seq (T.q (L.m rfl (L.o (O.IG rfl rfl (by omega) (?_)))))))))))))
 have hr1:cZ r t=([],0,161):=yS hok
 refine L.nil (T.ct (T.q (L.m rfl (L.a rfl (L.a rfl (L.a rfl (L.nil (T.UF results13 rfl rfl rfl ⟨.slice none 0 0,by rw [hr1];rfl,by rw [hr1];exact Sl.nil _ _ _,mQ⟩))))))))
open Go Go.E RowKit
theorem Sj {n:Nat} (h:n<10):Lib.decDigits n = [UInt8.ofNat (48+n)]:=by rw [Lib.decDigits,dif_pos h]
section
variable {C:Cx} {e:Env} {w:World} {K:Value→World→Prop} {d:Option Tmp} {ty tx ty':TypeId} {pos:String} {aft:Array Edge} {g:Option (Nat × Bool)} {x y:Operand}
end
open Go Go.E RowKit
structure ab6 (nm:Nat→Str) (n:Nat):Prop where
 diff:∀ i j,i<j→j<n→nm i≠nm j
 comma:∀ i,i<n→(44:UInt8)∉nm i
theorem GX {nm:Nat→Str} : ∀ {n:Nat},ab6 nm n→∀ i,i<n→iG (keysA nm n) (nm i)=some i
 | 0,_,i,hi=>absurd hi (Nat.not_lt_zero _)
 | n+1,h,i,hi=>by
  rw [tV,E5]
  rcases Nat.lt_or_ge i n with h1|h1
  ·rw [GX ⟨fun i j a b=>h.diff i j a (by omega),fun i a=>h.comma i (by omega)⟩ i h1];rfl
  obtain rfl:i=n:=by omega
  rw [nC (yL fun k hk=>h.diff k i hk hi)]
  simp
theorem rG {d:Nat} (h:d<8):Lib.itoa ((d:Int)+1) = [UInt8.ofNat (49+d)]:=by
 rw [show (d:Int)+1=((d+1:Nat):Int) by omega,Lib.itoa_nonneg,Sj (by omega),show 48+(d+1)=49+d by omega]
theorem Wj:gU 44=false:=by decide
theorem afn {r:RoV} (h:bG r) {n:Nat} (hn:n≤r.us.length):ab6 (nmA r.us) n :=
 ⟨fun i j hij hj=>(h.good j (by omega)).name i hij,fun i hi hm=>by
  have:=List.all_eq_true.1 (JL h (by omega:i<r.us.length)).2.2 44 hm
  rw [Wj] at this;cases this⟩
end Go.Proofs.YtnlonpcbgjbbaaaGreatDoor
