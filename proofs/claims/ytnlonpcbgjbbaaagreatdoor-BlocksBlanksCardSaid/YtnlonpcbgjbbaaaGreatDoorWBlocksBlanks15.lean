/-
  BlocksBlanks, part 15 of its proof: that it returns true for every input, and each argument reads behind the call as it read before. Conditions: the listed variables read as the program's text lays them (tied by the card).
-/
import Derived.Test.YtnlonpcbgjbbaaaGreatDoorWBlocksBlanks14
import Derived.Lib.ItoaLen
set_option linter.unusedVariables false
set_option linter.unusedSimpArgs false
set_option maxRecDepth 20000
set_option linter.unusedVariables false
set_option linter.unusedSimpArgs false
set_option maxRecDepth 20000
namespace Go.Proofs.YtnlonpcbgjbbaaaGreatDoor
open Go.Proofs.Tryz (call106 call107 call27 call41 call52 call53 call54 call55 call56 call57 call58 call66 func12 func13 func14 func41 func56 isAgg171 isAgg23 isAgg25 isAgg3 isAgg31 isAgg9 ntmps12 ntmps13 ntmps14 ntmps41 ntmps56 results12 results13 results14 results41 results56 runUnderlying171 runUnderlying23 runUnderlying25 runUnderlying31 runUnderlying51 runUnderlying61 runUnderlying9 sizeOf171 sizeOf23 sizeOf25 sizeOf3 sizeOf31 sizeOf4 sizeOf51 sizeOf9 zeroValue171 zeroValue4)
open Go Go.E RowKit
attribute [local irreducible] Go.E.T Go.E.L Go.E.O Go.E.Ob
attribute [local irreducible] Go.E.ObX Go.E.ObG Go.E.ObK
theorem results_tmp3 {P:Program} {fn:Func} {s s' s'':Tmp} (h:fn.results=#[.tmp s,.tmp s',.tmp s'']) (T:Array Value) (w:World):(results fn T).run P w = .ok (.tuple #[T.getD s undef,T.getD s' undef,T.getD s'' undef]) w:=by
 simp [results,h]
theorem T.Ur {P:Program} {fn:Func} {n:Nat} {R:Value→World→Prop} {k:List It} {e:Env} {w:World} {s s' s'':Tmp} {v v' v'':Value} (hres:fn.results=#[.tmp s,.tmp s',.tmp s'']) (hv:Go.E.look e s=some v) (hv':Go.E.look e s'=some v') (ajs:Go.E.look e s''=some v'') (h:R (.tuple #[v,v',v'']) w):T (Uw P fn n R) (.code .ret::k) e w :=
 T.ret fun a ha=>bodyPost_ret (results_tmp3 hres _ _) ha.defers (by
  have h1:=ha.sat.get s v hv
  have h2:=ha.sat.get s' v' hv'
  have h3:=ha.sat.get s'' v'' ajs
  simp [Array.getD_eq_getD_getElem?,h1,h2,h3];exact h)
theorem VP {α β:Type} [DecidableEq α] {kvs:List (α × β)} {k:α} {v:β} (h:k∉kvs.map (·.1)):vV kvs k v=kvs ++ [(k,v)]:=by
 have:dR kvs k 0=none:=by
  have h1:=Gy h
  rw [jT] at h1
  cases hf:dR kvs k 0 with
  | none=>rfl
  | some p=>rw [hf] at h1;cases h1
 rw [vV,this]
def NY (t:Str):Str:=Lib.trimSuffix (if Lib.hasSuffix t [10]=true then t else t ++ [0,10]) [10]
theorem YW (s p:Str):(Lib.trimSuffix s p).length≤s.length:=by
 unfold Lib.trimSuffix
 split
 ·rw [List.length_take];omega
 exact Nat.le_refl _
theorem VQ (t:Str):(NY t).length≤t.length+2:=by
 unfold NY
 refine Nat.le_trans (YW _ _) ?_
 split
 ·omega
 simp
def keysA (nm:Nat→Str) (n:Nat):List (Str × Nat):=(List.range n).map fun i=>(nm i,i)
theorem NZ (nm:Nat→Str) (n:Nat):keysA nm (n+1)=keysA nm n ++ [(nm n,n)]:=by simp [keysA,List.range_succ]
theorem RH {nm:Nat→Str} {n:Nat} (h:∀ k,k<n→nm k≠nm n):nm n∉(keysA nm n).map (·.1):=fun hm=>by
 simp only [keysA,List.map_map,List.mem_map,List.mem_range,Function.comp] at hm
 obtain ⟨k,hk,e⟩:=hm
 exact h k hk e
theorem VR {nm:Nat→Str} {n:Nat} : ∀ p∈keysA nm n,p.2<n:=fun p hp=>by
 simp only [keysA,List.mem_map,List.mem_range] at hp
 obtain ⟨k,hk,rfl⟩:=hp
 exact hk
theorem JH {τ:Type} (step:τ→Str→Option τ):∀ (L:List Str) (s:τ) (n m:Nat),oP step s L n = .inr m→n≤m
 | [],s,n,m,h=>by simp [oP] at h
 | l::r,s,n,m,h=>by
  rw [oP] at h
  cases hs:step s l with
  | none=>rw [hs] at h;simp at h;omega
  | some s'=>rw [hs] at h;have:=JH step r s' (n+1) m h;omega
def dA (nm:Nat→Str) (xs:List Int) (t:Str):List Int × Nat × Int :=
 if 40000<t.length then ([],0,3) else match oP Ae (true,keysA nm xs.length,xs) (aK 10 (NY t)) 1 with
  | .inl s=>(s.2.2,0,0)
  | .inr m=>([],m,5)
def nmA (us:List UnV) (i:Nat):Str:=(us.getD i u0).nm
theorem VT {base n:Nat} {xs:List Int} {v:Value} {w:World} (h:w.ownsRow base 3 1 v n (xs.map (Value.int .i64))) (hn:0<n):∃ b cap cur,v = .slice (some ⟨b,0,none⟩) n cap∧base≤b∧Blk w b cur 3∧n≤cap∧cap≤maxLen∧cur.length=cap∧cur.take n=xs.map (Value.int .i64):=by
 rcases h.2 with ⟨_,h0⟩|⟨g,cap,cur,rfl,hbase,hg,hn',hm,hsz,htk⟩
 ·omega
 exact ⟨g,cap,cur.toList,rfl,by omega,by unfold Blk;simpa using hg,hn',hm,by simpa using hsz,by simpa using htk⟩
theorem VU {w:World} {b n cap:Nat} {cs:List Value} {xs:List Int} {t:TypeId} (h:Blk w b cs t) (hl:cs.length=cap) (hc:n≤cap) (hm:cap≤maxLen) (ht:cs.take n=xs.map (Value.int .i64)) (hn:xs.length=n):Ints .i64 0 w (.slice (some ⟨b,0,none⟩) n cap) xs:=by
 have:=XE h hl hc hm
 rw [ht,← hn] at this
 subst hn
 exact this
theorem yH (lo:Nat) (p:Value) (xs:List Int) (w:World) (hp:Ints .i64 lo w p xs) (hlen:xs.length≤1000000) :
  Calls Tryz.prog 41 #[p] w (Ret fun v w'=>Ext w w'∧w'.ownsRow w.heap.size 3 1 v xs.length (xs.map (Value.int .i64))):=by
 refine T.enter (vs:=[p]) func41 rfl ntmps41 rfl ?_
 refine T.q (L.a rfl (L.nil (T.seq (T.q (L.m rfl (L.o (O.ET runUnderlying31 rfl rfl hp (fun hn=>?_) (fun hn=>?_))))))))
 ·refine L.nil (T.ct (T.q (L.a rfl (L.nil (T.aU results41 rfl ⟨Keep.refl _ _,?_⟩)))))
  have:xs = []:=List.length_eq_zero_iff.1 hn
  subst this
  exact fH _ _ _ _
 refine L.nil (T.cf (T.skip (T.q (L.o (O.buildSlice (el:=3) (parts:=[]) (vs:=[]) (cs:=[]) rfl (fun w=>by kernel_rfl) (fun b5 w5 hb5 hz5 he5 hB5=>?_))))))
 have hO5:w5.ownsRow w.heap.size 3 1 (.slice (some ⟨b5,0,none⟩) 0 0) 0 []:=lI (n:=0) hB5 (by omega) (Nat.le_refl _) (by decide) rfl
 refine L.m rfl (L.o (O.append (size:=1) (bytes:=8) runUnderlying31 Tryz.mP rfl rfl rfl rfl (by decide) rfl rfl hO5 (hp.keep (he5.mono (Nat.zero_le _))) (by intro c hc;simp at hc;obtain ⟨_,_,rfl⟩:=hc;rfl) (by omega) (by simp only [maxLen];omega) (by omega) (fun v7 w7 hO7 hG7=>?_)))
 refine L.a rfl (L.nil (T.aU results41 rfl ⟨he5.gB hO5 hG7 (by omega),by simpa using hO7⟩))
set_option maxHeartbeats 1000000 in
theorem yI (lo:Nat) (r:RoV) (oa:Option Addr) (cp0:Nat) (xs:List Int) (t:Str) (w:World) (hr:r.ok lo w) (hp:Ints .i64 0 w (.slice oa xs.length cp0) xs) (hL:je w) (h0:bJ r) (hn:xs.length≤r.us.length) (h1:0<xs.length) (hu:r.us.length≤64) (ht:t.length≤1000000) :
  Calls Tryz.prog 56 #[r.val,.slice oa xs.length cp0,str t] w (Ret fun v w'=>∃ pv,v = .tuple #[pv,.int .i64 ((dA (nmA r.us) xs t).2.1:Int),.int .i64 (dA (nmA r.us) xs t).2.2]∧Ints .i64 0 w' pv (dA (nmA r.us) xs t).1∧Ext w w'):=by
 refine T.enter (vs:=[r.val,.slice oa xs.length cp0,str t]) func56 rfl ntmps56 rfl ?_
 refine T.q (L.o (O.box rfl (fun b3 w3 hb3 hz3 he3 hB3=>?_)))
 refine L.o (O.box rfl (fun b4 w4 hb4 hz4 he4 hB4=>?_))
 have hC4:Blk w4 b3 r.cells _:=Blk.ext (cs:=r.cells) hB3 he4
 have uT:=he3.trans he4
 refine L.a rfl (L.a rfl (L.a rfl (L.nil (T.seq (T.q (L.m rfl (L.o (O.fB runUnderlying9 rfl (L.o (O.jM rfl rfl (fun hbig=>?_) (fun hbig=>?_)))))))))))
 ·refine L.nil (?_)
  have hr1:dA (nmA r.us) xs t=([],0,3):=by rw [dA,if_pos (by omega)]
  refine T.ct (T.q (L.a rfl (L.a rfl (L.a rfl (L.nil (T.Ur results56 rfl rfl rfl ⟨.slice none 0 0,by rw [hr1];rfl,by rw [hr1];exact Sl.nil _ _ _,uT⟩))))))
 refine L.nil (T.cf (T.skip (T.q (L.o (O.qE (kf:=str) (vf:=(Value.int .i64)) (fun b16 w16 hb16 ZT uX ajt=>?_))))))
 have aju:Ext w4 w16:=uX
 refine L.o (O.alloc zeroValue171 (fun b9 w9 hb9 hz9 he9 hB9=>?_))
 refine L.o (O.store1 sizeOf171 rfl rfl rfl hB9 (by simp [Value.cells]) (fun w10 OT EC=>?_))
 have ajv:pq str nV w10 b16 []:=(ajt.keep he9 (Nat.zero_le _)).upd OT (by omega)
 have YX:Ext w4 w10:=(uX.trans he9).upd OT (.inr (by omega))
 refine L.nil (T.seq (T.q (L.o (O.load isAgg31 rfl ((Blk.ext (cs:=[.slice oa xs.length cp0]) hB4 YX).cell rfl) (L.o (O.len runUnderlying31 rfl (Sl.val (hp.ext (uT.trans YX))) (L.m rfl (L.nil (T.block (?_))))))))))
 refine T.loop (σ:=Nat) (fun i=>[(2,str t),(3,.pointer (some ⟨b3,0,none⟩)),(4,.pointer (some ⟨b4,0,none⟩)),(9,.pointer (some ⟨b9,0,none⟩)),(18,.int .i64 xs.length),(19,.int .i64 i)]) (fun i W=>i≤xs.length∧Ext w4 W∧pq str nV W b16 (keysA (nmA r.us) i)∧Blk W b9 [.map (some b16)] 171) (fun i=>xs.length-i) (0) ⟨rfl,rfl,rfl,rfl,rfl,rfl,trivial⟩ ⟨Nat.zero_le _,YX,ajv,EC⟩ ?_
 rintro i w11 ⟨hi,dQ,Nc,ads⟩
 refine T.q (L.o (O.bH rfl rfl (fun hlt=>?_) (fun hlt=>?_)))
 ·refine L.nil (?_)
  have hlt':i<xs.length:=by omega
  have hir:i<r.us.length:=by omega
  have Z4:Units lo w11 r.uv r.us:=hr.ext (uT.trans dQ)
  refine T.seq (T.ct (T.skip (T.seq (T.block (T.q (L.m rfl (L.a rfl (L.nil (?_)))))))))
  refine T.fM mixed 8 [9,3,10] rfl [.is _,.is _,.is _,.is _,.is _,.is _,.is _,.is _] [[],[],[1],[],[2,3],[4],[5],[]] [[],[],[1],[],[1,2,3],[1,2,3,4],[1,2,3,4,5],[],[0,1,2,3,4,5,6,7]] (by kernel_rfl) (by kernel_rfl) rfl (by kernel_rfl) trivial ⟨fun wx hx=>Ob.o (O.load isAgg171 rfl ((Blk.ext (cs:=[.map (some b16)]) ads hx).cell rfl) kR),
    fun wx hx=>Ob.o (O.fieldAddr runUnderlying25 rfl sizeOf23 rfl kR),
    fun wx hx=>Ob.o (O.load isAgg23 rfl ((Blk.ext (cs:=r.cells) hC4 (dQ.trans hx)).cell rfl) kR),
    fun wx hx=>Ob.o (O.move rfl kR),
    fun wx hx=>Ob.o (O.indexAddr runUnderlying23 sizeOf51 rfl rfl ((Z4.ext hx).sl) (by omega) (by omega) kR),
    fun wx hx=>Ob.o (O.fieldAddr runUnderlying51 rfl sizeOf9 rfl kR),
    fun wx hx=>Ob.o (O.load isAgg9 rfl ((Z4.ext hx).name hir) kR),
    fun wx hx=>Ob.o (O.move rfl kR),
    trivial⟩ (fun w7 he7=>?_)
  refine L.o (O.kN (kf:=str) (vf:=nV) (v:=i) iZ runUnderlying171 runUnderlying9 rfl rfl rfl (Nc.keep he7 (Nat.zero_le _)) (fun w12 aha ahb=>?_))
  have hnew:∀ k,k<i→nmA r.us k≠nmA r.us i:=fun k hk=>(h0.good i hir).name k hk
  rw [show (r.us.getD i u0).nm=nmA r.us i from rfl,VP (RH hnew),← NZ] at ahb
  refine L.nil (T.blk (T.region (L.o (O.aH rfl rfl (by omega) (L.m rfl (L.nil (T.again (i+1) (by omega) ⟨rfl,rfl,rfl,rfl,rfl,rfl,trivial⟩ ⟨hlt',(dQ.trans he7).upd aha (.inr (by have:=uX.size;omega)),ahb,Blk.upd (cs:=[.map (some b16)]) (Blk.ext (cs:=[.map (some b16)]) ads he7) aha (by omega)⟩)))))))
 refine L.nil (?_)
 obtain rfl:i=xs.length:=by omega
 refine T.seq (T.cf (T.exit rfl (T.q (L.o (O.load isAgg31 rfl ((Blk.ext (cs:=[.slice oa xs.length cp0]) hB4 dQ).cell rfl) (L.o (O.call (xs:=[.tmp 31]) call41 rfl rfl (yH 0 (.slice oa xs.length cp0) xs w11 (hp.ext (uT.trans dQ)) (by omega)) (fun v20 w20 hq=>?_))))))))
 obtain ⟨Ug,Xd⟩:=hq
 obtain ⟨bs,cap,cur,rfl,hbs,ajw,hc1,hc2,hc3,hc4⟩:=VT Xd h1
 refine L.o (O.store1 sizeOf31 rfl rfl rfl (Blk.ext (cs:=[.slice oa xs.length cp0]) hB4 (dQ.trans Ug)) (by simp [Value.cells]) (fun w21 hu21 ahc=>?_))
 have al6:∀ {W:World},Ext w4 W→Blk W b3 r.cells _:=fun k=>Blk.ext (cs:=r.cells) hC4 k
 have Xg:=dQ.size
 have ajx:=uX.size
 have ahd:Blk w21 b9 [.map (some b16)] 171:=Blk.upd (cs:=[.map (some b16)]) (Blk.ext (cs:=[.map (some b16)]) ads Ug) hu21 (by omega)
 have ahe:Iq str nV w21 b16 (keysA (nmA r.us) xs.length):=((Iq.ajp Nc).keep Ug).upd hu21 (by omega)
 have ahf:Blk w21 bs cur 3:=Blk.upd ajw hu21 (by omega)
 have ED:Ext w w21:=(he3.trans ((he4.trans (dQ.trans Ug)).upd hu21 (.inr (by omega))))
 refine L.nil (T.seq (T.q (L.m rfl (L.o (O.call (xs:=[.tmp 33,_]) call106 rfl rfl (yD t [10] w21 (by omega)) (fun v22 w22 hq=>?_))))))
 obtain ⟨rfl,rfl⟩:=hq
 refine L.o (O.not rfl (L.nil (?_)))
 refine T.join (σ:=Unit) (fun _=>[(2,str (if Lib.hasSuffix t [10]=true then t else t ++ [0,10])),(4,.pointer (some ⟨b4,0,none⟩)),(9,.pointer (some ⟨b9,0,none⟩))]) (fun _ w'=>w'=w22) ?_ ?_
 ·rcases hsf:Lib.hasSuffix t [10] with _|_
  ·refine T.ct (T.region (L.m rfl (L.o (O.iY rfl rfl (by show t.length+2≤_;omega) (L.a rfl (L.nil (T.meet (()) ⟨?_,rfl,rfl,trivial⟩ rfl)))))))
   ·exact congrArg (fun z=>some (str z)) (if_neg (by simp)).symm
  refine T.cf (T.skip (T.meet (()) ⟨?_,rfl,rfl,trivial⟩ rfl))
  ·exact congrArg (fun z=>some (str z)) (if_pos rfl).symm
 rintro _ w23 rfl
 refine T.q (L.o (O.alloc zeroValue4 (fun b24 w24 al7 ajy UL Vb=>?_)))
 refine L.o (O.store1 sizeOf4 rfl rfl rfl Vb (by simp [Value.cells]) (fun w25 KI Dh=>?_))
 have ajy:=UL.size
 have hlen2:(if Lib.hasSuffix t [10]=true then t else t ++ [0,10]).length≤50000:=by split;omega;rw [List.length_append];show t.length+2≤_;omega
 refine L.nil (T.q (L.m rfl (L.o (O.call (xs:=[.tmp 38,_]) call27 rfl rfl (jf (if Lib.hasSuffix t [10]=true then t else t ++ [0,10]) [10] w25 (by omega)) (fun v26 w26 hq=>?_)))))
 obtain ⟨ahg,rfl⟩:=hq
 have hbl:=VQ t
 have hl9:=Blk.lt (cs:=[.map (some b16)]) ahd
 have hlM:=ahe.lt
 have hlS:=Blk.lt ahf
 have hlP:=Blk.lt (cs:=[.slice (some ⟨bs,0,none⟩) xs.length cap]) ahc
 have hzw:=ED.size
 have al8:=Blk.lt (cs:=[.map (some b16)]) ads
 have al9:=he3.size
 have aeV:v26=str (NY t):=ahg
 subst aeV
 clear ahg
 have ajz:AsI w b24 b16 b9 b4 bs xs.length cap (true,keysA (nmA r.us) xs.length,xs) (fun _=>False) w26:=⟨(ED.trans UL).upd KI (.inr (by have:=ED.size;omega)),Dh,Blk.upd (cs:=[.map (some b16)]) (Blk.ext (cs:=[.map (some b16)]) ahd UL) KI (by omega),(ahe.keep UL).upd KI (by omega),Blk.upd (cs:=[.slice (some ⟨bs,0,none⟩) xs.length cap]) (Blk.ext (cs:=[.slice (some ⟨bs,0,none⟩) xs.length cap]) ahc UL) KI (by omega),⟨cur,Blk.upd (Blk.ext ahf UL) KI (by omega),hc3,hc4⟩,rfl,⟨hc1,hc2⟩,VR,by omega,fun k hk=>hk.elim⟩
 refine L.o (O.makeFunc (fi:=[]) (ca:=[.tmp 11,.tmp 9,.tmp 4]) rfl rfl (L.o (O.call (xs:=[.tmp 39,.tmp 40]) call66 rfl rfl (rD (NY t) 107 #[] #[.pointer (some ⟨b24,0,none⟩),.pointer (some ⟨b9,0,none⟩),.pointer (some ⟨b4,0,none⟩)] Ae (true,keysA (nmA r.us) xs.length,xs) (fun _ _ ↦ True) (AsI w b24 b16 b9 b4 bs xs.length cap) (fun S W ↦ Ext w W∧∀ k,S k→w.heap.size≤k∧k<W.heap.size) w26 (by omega) call107 AsI.Fp (fun S W W' h k ↦ ⟨h.1.trans k,fun j hj ↦ ⟨(h.2 j hj).1,Nat.lt_of_lt_of_le (h.2 j hj).2 k.size⟩⟩) (fun S W W' b h hb k ↦ ⟨h.1.upd k (.inr (h.2 b hb).1),fun j hj ↦ ⟨(h.2 j hj).1,by rw [k.size];exact (h.2 j hj).2⟩⟩) (fun s S W h ↦ hL.ext h.e) (aeU w b24 b16 b9 b4 bs xs.length cap hL) trivial (fun _ _ _ _ _ _ ↦ trivial) ajz) (fun v27 w27 hq=>?_))))
 obtain ⟨hv27,ajA,ajB⟩:=hq
 rcases hrun:oP Ae (true,keysA (nmA r.us) xs.length,xs) (aK 10 (NY t)) 1 with s|m
 ·rw [hrun] at hv27
  obtain rfl:v27 = .int .i64 0:=hv27
  obtain ⟨S,Z5⟩:=ajA s hrun
  obtain ⟨cur',c1,c2,c3⟩:=Z5.c
  have hr1:dA (nmA r.us) xs t=(s.2.2,0,0):=by rw [dA,if_neg (by omega),hrun]
  refine L.a rfl (L.nil (T.seq (T.q (L.m rfl (L.o (O.zN rfl rfl (by omega) (L.nil (T.cf (T.skip (T.q (L.o (O.load isAgg31 rfl (Z5.p.cell rfl) (L.a rfl (L.a rfl (L.a rfl (L.nil (T.Ur results56 rfl rfl rfl ⟨_,by rw [hr1];rfl,by rw [hr1];exact VU c1 c2 Z5.cp.1 Z5.cp.2 c3 Z5.len,Z5.e⟩)))))))))))))))))
 rw [hrun] at hv27
 obtain rfl:v27 = .int .i64 (m:Int):=hv27
 obtain ⟨S,ajC⟩:=ajB m hrun
 have hm1:=JH _ _ _ _ _ hrun
 have hr1:dA (nmA r.us) xs t=([],m,5):=by rw [dA,if_neg (by omega),hrun]
 refine L.a rfl (L.nil (T.seq (T.q (L.m rfl (L.o (O.Ci rfl rfl (by omega) (L.nil (T.ct (T.q (L.m rfl (L.a rfl (L.a rfl (L.a rfl (L.nil (T.Ur results56 rfl rfl rfl ⟨.slice none 0 0,by rw [hr1],by rw [hr1];exact Sl.nil _ _ _,ajC.1⟩)))))))))))))))
theorem oZ (lo:Nat) (r:RoV) (p:Value) (xs:List Int) (t:Str) (w:World) (hr:r.ok lo w) (hp:Ints .i64 0 w p xs) (hL:je w) (h0:bJ r) (hn:xs.length≤r.us.length) (h1:0<xs.length) (hu:r.us.length≤64) (ht:t.length≤1000000) :
  Calls Tryz.prog 56 #[r.val,p,str t] w (Ret fun v w'=>∃ pv,v = .tuple #[pv,.int .i64 ((dA (nmA r.us) xs t).2.1:Int),.int .i64 (dA (nmA r.us) xs t).2.2]∧Ints .i64 0 w' pv (dA (nmA r.us) xs t).1∧Ext w w'):=by
 obtain ⟨oa,cp0,rfl,_,_⟩:=Sl.val hp
 exact yI lo r oa cp0 xs t w hr hp hL h0 hn h1 hu ht
open Go Go.E RowKit
theorem yJ {c:Nat} : ∀ (ls:List Str),(∀ l∈ls,l.length≤c)→(ay ls).length≤ls.length*(c+1)
 | [],_=>by simp [ay]
 | l::r,h=>by
  have h1:=h l (by simp)
  have h2:=yJ r fun x hx=>h x (List.mem_cons_of_mem _ hx)
  have e:ay (l::r)=l ++ [10]++ay r:=by simp [ay]
  have e2:(l::r).length*(c+1)=r.length*(c+1)+(c+1):=by rw [List.length_cons,Nat.succ_mul]
  have e3:(l ++ [10]++ay r).length=l.length+1+(ay r).length:=by simp only [List.length_append,List.length_cons,List.length_nil]
  rw [e,e3,e2]
  omega
theorem RI {r:RoV} (h:bJ r) {i:Nat} (hi:i<r.us.length):nmA r.us i ≠ []∧(nmA r.us i).length≤12∧(nmA r.us i).all gY=true:=by
 have:=(h.good i hi).right
 simp only [cu,sJ,List.all_cons,id,Bool.and_eq_true,Bool.not_eq_true',decide_eq_false_iff_not,decide_eq_true_eq] at this
 obtain ⟨h1,h2,h3,_⟩:=this
 exact ⟨h1,by unfold nmA;omega,h3⟩
def yK (nm:Nat→Str) (xs:List Int) (i:Nat):Str:=nm i ++ [44]++Lib.itoa (xs.getD i 0+1)
def jW (nm:Nat→Str) (xs:List Int) (n:Nat):List Str:=XD::(List.range n).map (yK nm xs)
theorem JI (nm:Nat→Str) (xs:List Int) (n:Nat):jW nm xs (n+1)=jW nm xs n ++ [yK nm xs n]:=by simp [jW,List.range_succ]
theorem tZ (nm:Nat→Str) (xs:List Int) (n:Nat):(jW nm xs n).length=n+1:=by simp [jW]
theorem RJ {xs:List Int} {n:Int} (h:pO xs n=true):(xs.length:Int)=n∧∀ i,i<xs.length→0≤xs.getD i 0∧xs.getD i 0<8:=by
 rw [pO,Bool.and_eq_true,decide_eq_true_eq] at h
 refine ⟨h.1,fun i hi=>?_⟩
 have:=List.all_eq_true.1 h.2 (xs.getD i 0) (by rw [au hi];exact List.getElem_mem hi)
 simp only [Gu,Bool.not_eq_true',decide_eq_false_iff_not] at this
 omega
theorem GH {r:RoV} {xs:List Int} {i:Nat} (h:bJ r) (hi:i<r.us.length) (hx:0≤xs.getD i 0∧xs.getD i 0<8):(yK (nmA r.us) xs i).length≤40:=by
 have h1:=(RI h hi).2.1
 have h2:=Lib.itoa_length_le (xs.getD i 0+1) (by omega) (by omega)
 rw [yK,List.length_append,List.length_append]
 simp only [List.length_cons,List.length_nil]
 omega
theorem RN {r:RoV} {xs:List Int} {n:Nat} (h:bJ r) (hn:n≤r.us.length) (h64:r.us.length≤64) (hx:∀ i,i<n→0≤xs.getD i 0∧xs.getD i 0<8):(ay (jW (nmA r.us) xs n)).length≤40000:=by
 have:=yJ (c:=40) (jW (nmA r.us) xs n) fun l hl=>by
  rcases List.mem_cons.1 hl with rfl|hl
  ·decide
  obtain ⟨i,hi,rfl⟩:=List.mem_map.1 hl
  have hi':=List.mem_range.1 hi
  exact GH h (by omega) (hx i hi')
 rw [tZ] at this
 omega
def yL (base:Nat) (xs:List Str) (v:Value) (w:World):Prop:=w.ownsRow base 9 1 v xs.length (xs.map str)
theorem GI {base:Nat} {xs ys:List Str} {v:Value} {w:World} (h:w.ownsRow base 9 1 v (xs.length+ys.length) (xs.map str++ys.map str)):yL base (xs++ys) v w:=by
 unfold yL;rw [List.length_append,List.map_append];exact h
theorem oI (xs:List Str):∀ u∈xs.map str,u.oneCell'=true:=fun u hu=>by
 obtain ⟨s,_,rfl⟩:=List.mem_map.1 hu;rfl
def RP (xs:List Str) (v:Value) (w:World):Prop:=Strs 0 w v xs
theorem RP.st {xs:List Str} : ∀ v w w',Ext w w'→RP xs v w→RP xs v w':=fun _ _ _ he h=>Strs.ext h he
noncomputable def yM (r:RoV) (xs:List Int):Str × Int :=
 @ite _ (bJ r) (Classical.propDecidable _) (if pO xs (aX r.us)=true then (ay (jW (nmA r.us) xs xs.length),0) else ([],2)) ([],161)
theorem Bq {r:RoV} {xs:List Int} (h:¬ bJ r):yM r xs=([],161):=by unfold yM;exact if_neg h
theorem yN {r:RoV} {xs:List Int} (h:bJ r):yM r xs=if pO xs (aX r.us)=true then (ay (jW (nmA r.us) xs xs.length),0) else ([],2):=by unfold yM;exact if_pos h
theorem yO (r:RoV):(fE r=0∧bJ r∧sK r=aX r.us)∨(fE r=161∧¬ bJ r):=by
 by_cases h:bJ r
 ·exact .inl ⟨eG h,h,AP (eG h)⟩
 exact .inr ⟨dn h,h⟩
theorem GK (lo:Nat) (r:RoV) (p:Value) (xs:List Int) (w:World) (hr:r.ok lo w) (hp:Ints .i64 0 w p xs) (hL:je w) :
  Calls Tryz.prog 12 #[r.val,p] w (Ret fun v w'=>v = .tuple #[str (yM r xs).1,.int .i64 (yM r xs).2]∧Ext w w'):=by
 refine T.enter (vs:=[r.val,p]) func12 rfl ntmps12 rfl ?_
 refine T.q (L.o (O.box rfl (fun b2 w2 hb2 hz2 he2 hB2=>?_)))
 have hC2:Blk w2 b2 r.cells _:=hB2
 refine L.a rfl (L.a rfl (L.nil (T.q (L.o (O.ak isAgg25 sizeOf25 rfl rfl hC2.row (L.o (O.call (xs:=[.tmp 12]) call52 rfl rfl (sN lo r w2 (hr.ext he2)) (fun v3 w3 hq=>?_))))))))
 obtain ⟨rfl,he3⟩:=hq
 have nC:=he2.trans he3
 rcases yO r with ⟨herr,hok,hln⟩|⟨herr,hok⟩
 ·rw [herr,hln]
  refine L.m rfl (L.o (O.extract rfl rfl (L.o (O.extract rfl rfl (L.a rfl (L.a rfl (L.nil (T.seq (T.q (L.m rfl (L.o (O.o8 rfl rfl rfl (L.nil (T.cf (T.skip (T.seq (T.q (L.m rfl (L.m rfl (L.o (O.call (xs:=[.tmp 19,.tmp 20]) call53 rfl rfl (Bl 0 p xs (aX r.us) w3 (hp.ext nC)) (fun v4 w4 hq=>?_))))))))))))))))))))))
  obtain ⟨hv4,rfl⟩:=hq
  have hle:=kP r.us
  have h64:=(KH herr).2.2.2.2.2.2.2
  cases hfit:pO xs (aX r.us)
  ·rw [hfit] at hv4
   subst hv4
   refine L.o (O.not rfl (L.nil (T.ct (T.q (L.a rfl (L.a rfl (L.nil (T.Ce results12 rfl rfl ⟨by rw [yN hok,if_neg (by rw [hfit];simp)];rfl,nC⟩))))))))
  rw [hfit] at hv4
  subst hv4
  obtain ⟨hlen,hxs⟩:=RJ hfit
  refine L.o (O.not rfl (L.nil (T.cf (T.skip (T.q (L.o (O.buildSlice (el:=9) (parts:=[(0,_)]) (vs:=[(0,_)]) (cs:=([XD].map str)) rfl (fun w=>by kernel_rfl) (fun b5 w5 hb5 hz5 he5 hB5=>?_))))))))
  have hO5:yL w4.heap.size (jW (nmA r.us) xs 0) (.slice (some ⟨b5,0,none⟩) 1 1) w5:=lI (n:=1) (cap:=1) (sz:=1) hB5 (by omega) (Nat.le_refl _) (by decide) rfl
  have Qs:=nC.trans he5
  refine L.a rfl (L.nil (T.seq (T.q (L.m rfl (L.o (O.len runUnderlying31 rfl (Sl.val hp) (L.m rfl (L.nil (T.block (?_))))))))))
  refine T.loop (σ:=Nat × Value) (fun g=>[(1,p),(2,.pointer (some ⟨b2,0,none⟩)),(8,g.2),(24,p),(25,.int .i64 xs.length),(26,.int .i64 g.1)]) (fun g W=>g.1≤xs.length∧Ext w W∧Ext w4 W∧yL w4.heap.size (jW (nmA r.us) xs g.1) g.2 W) (fun g=>xs.length-g.1) ((0,.slice (some ⟨b5,0,none⟩) 1 1)) ⟨rfl,rfl,rfl,rfl,rfl,rfl,trivial⟩ ⟨Nat.zero_le _,Qs,he5,hO5⟩ ?_
  rintro ⟨i,lv⟩ w6 ⟨hi,he6,AQ,hO6⟩
  simp only at hi hO6
  refine T.q (L.o (O.bH rfl rfl (fun hlt=>?_) (fun hlt=>?_)))
  ·refine L.nil (?_)
   have hlt':i<xs.length:=by simp only at hlt;omega
   have hir:i<r.us.length:=by omega
   have hC6:Blk w6 b2 r.cells _:=Blk.ext (cs:=r.cells) hC2 (he3.trans AQ)
   have hxi:=hxs i hlt'
   have hU6:Units lo w6 r.uv r.us:=hr.ext he6
   have hnl:=(RI hok hir).2.1
   have hll:=GH (xs:=xs) hok hir hxi
   have hit:=Lib.itoa_length_le (xs.getD i 0+1) (by omega) (by omega)
   refine T.seq (T.ct (T.skip (T.seq (T.block (T.q (L.m rfl (L.o (O.indexAddr runUnderlying31 sizeOf3 rfl rfl (hp.ext he6) (by omega) (by omega) (L.o (O.load isAgg3 rfl (Ints.at (hp.ext he6) hlt') (L.a rfl (L.a rfl (L.nil (?_))))))))))))))
   refine T.fM mixed 13 [8,2,9,10] rfl [.is _,.is _,.is _,.is _,.is _,.is _,.is _,.is _,.is _,.is _,.is (str (Lib.itoa (xs.getD i 0+1))),.is _,.such (RP [yK (nmA r.us) xs i])] [[],[],[1],[],[2,3],[4],[5],[6],[],[8],[9],[7,10],[11]] [[],[],[1],[],[1,2,3],[1,2,3,4],[1,2,3,4,5],[1,2,3,4,5,6],[],[8],[8,9],[1,2,3,4,5,6,7,8,9,10],[1,2,3,4,5,6,7,8,9,10,11],[0,1,2,3,4,5,6,7,8,9,10,11,12],[0,1,2,3,4,5,6,7,8,9,10,11,12,13]] (by kernel_rfl) (by kernel_rfl) rfl (by kernel_rfl) ⟨RP.st,trivial⟩ ⟨fun wx hx=>Ob.o (O.move rfl kR),
     fun wx hx=>Ob.o (O.fieldAddr runUnderlying25 rfl sizeOf23 rfl kR),
     fun wx hx=>Ob.o (O.load isAgg23 rfl ((Blk.ext (cs:=r.cells) hC6 hx).cell rfl) kR),
     fun wx hx=>Ob.o (O.move rfl kR),
     fun wx hx=>Ob.o (O.indexAddr runUnderlying23 sizeOf51 rfl rfl ((hU6.ext hx).sl) (by omega) (by omega) kR),
     fun wx hx=>Ob.o (O.fieldAddr runUnderlying51 rfl sizeOf9 rfl kR),
     fun wx hx=>Ob.o (O.load isAgg9 rfl ((hU6.ext hx).name hir) kR),
     fun wx hx=>Ob.o (O.iY rfl rfl (by show (r.us.getD i u0).nm.length+1≤_;unfold nmA at hnl;omega) kR),
     fun wx hx=>Ob.o (O.move rfl kR),
     fun wx hx=>Ob.o (O.aH rfl rfl (by have:=hxi;show -9223372036854775808≤xs.getD i 0+1∧xs.getD i 0+1≤9223372036854775807;omega) kR),
     fun wx hx=>Ob.o (O.call (xs:=[.tmp 40]) call54 rfl rfl (oH (xs.getD i 0+1) wx (hL.ext (he6.trans hx)) (by omega) (by omega)) (fun v wy h=>⟨h.2,h.1⟩)),
     fun wx hx=>Ob.o (O.iY rfl rfl (by rw [List.length_append];show (r.us.getD i u0).nm.length+1+_≤_;unfold nmA at hnl;omega) kR),
     fun wx hx=>Ob.o (O.buildSlice (el:=9) (parts:=[(0,.tmp 42)]) (vs:=[(0,_)]) (cs:=([yK (nmA r.us) xs i].map str)) rfl (fun w=>by kernel_rfl) (fun b43 w43 aic aie aaD adU=>⟨aaD,Strs.aA adU rfl (by decide) (Nat.zero_le _)⟩)),
     trivial⟩ (fun w10 fZ v43 ajD=>?_)
   refine L.o (O.append (size:=1) (bytes:=16) runUnderlying61 Tryz.su rfl rfl rfl rfl (by decide) rfl rfl (aI hO6 (fZ.mono (Nat.zero_le _)) (Nat.le_refl _)) ajD (oI _) (by simp only [tZ,List.length_cons,List.length_nil];omega) (by simp only [tZ,maxLen,List.length_cons,List.length_nil];omega) (by have:=AQ.size;have:=fZ.size;omega) (fun v7 w7 hO7 hG7=>?_))
   have adt:Ext w4 w7:=Keep.gB (AQ.trans fZ) (aI hO6 (fZ.mono (Nat.zero_le _)) (Nat.le_refl _)) hG7 (Nat.le_refl _)
   refine L.a rfl (L.nil (T.blk (T.region (L.o (O.aH rfl rfl (by omega) (L.m rfl (L.nil (T.again ((i+1,v7)) (by omega) ⟨rfl,rfl,rfl,rfl,rfl,rfl,trivial⟩ ⟨hlt',nC.trans adt,adt,by rw [JI];exact GI (ys:=[yK (nmA r.us) xs i]) hO7⟩))))))))
  refine L.nil (?_)
  obtain rfl:i=xs.length:=by simp only at hlt;omega
  refine T.seq (T.cf (T.exit rfl (T.q (L.m rfl (L.o (O.call (xs:=[.tmp 46]) call55 rfl rfl (vF 0 lv (jW (nmA r.us) xs xs.length) w6 ((Sl.aS hO6).mono (Nat.zero_le _)) (Nat.le_trans (RN hok (by omega) (by omega) hxs) (by omega))) (fun v8 w8 hq=>?_)))))))
  obtain ⟨rfl,he8⟩:=hq
  refine L.a rfl (L.a rfl (L.nil (T.Ce results12 rfl rfl ⟨by rw [yN hok,if_pos hfit],he6.trans he8⟩)))
 rw [herr]
 refine L.m rfl (L.o (O.extract rfl rfl (L.o (O.extract rfl rfl (L.a rfl (L.a rfl (L.nil (T.seq (T.q (L.m rfl (L.o (O.IC rfl rfl (by omega) (L.nil (T.ct (T.q (L.m rfl (L.a rfl (L.a rfl (L.nil (T.Ce results12 rfl rfl ⟨by rw [Bq hok];rfl,nC⟩))))))))))))))))))))
open Go Go.E RowKit
noncomputable def jH (r:RoV) (xs:List Int) (t:Str):List Int × Nat × Int :=
 @ite _ (bJ r) (Classical.propDecidable _) (if pO xs (aX r.us)=true then dA (nmA r.us) xs t else ([],0,2)) ([],0,161)
theorem yP {r:RoV} {xs:List Int} {t:Str} (h:¬ bJ r):jH r xs t=([],0,161):=by unfold jH;exact if_neg h
theorem uf {r:RoV} {xs:List Int} {t:Str} (h:bJ r):jH r xs t=if pO xs (aX r.us)=true then dA (nmA r.us) xs t else ([],0,2):=by unfold jH;exact if_pos h
def yQ (nm:Nat→Str) (n:Nat) (t:Str):List Int × Nat × Int :=
 let a:=dA nm (List.replicate n (-1)) t
 if a.2.2≠0 then ([],a.2.1,a.2.2) else if (-1:Int)∈a.1 then ([],0,4) else (a.1,0,0)
noncomputable def jg (r:RoV) (t:Str):List Int × Nat × Int :=
 @ite _ (bJ r) (Classical.propDecidable _) (yQ (nmA r.us) (aX r.us) t) ([],0,161)
theorem yR {r:RoV} {t:Str} (h:¬ bJ r):jg r t=([],0,161):=by unfold jg;exact if_neg h
theorem oJ {r:RoV} {t:Str} (h:bJ r):jg r t=yQ (nmA r.us) (aX r.us) t:=by unfold jg;exact if_pos h
theorem GL {r:RoV} (h:bJ r):0<aX r.us∧aX r.us≤r.us.length∧r.us.length≤64:=by
 have hb:=KH (eG h)
 have hpos:0<r.us.length:=by omega
 have h0:=(h.good 0 hpos).first rfl
 refine ⟨?_,kP _,by omega⟩
 cases hus:r.us with
 | nil=>rw [hus] at hpos;simp at hpos
 | cons u us =>
  rw [hus] at h0
  have h0':u.wt=false:=h0
  simp [aX,h0']
theorem DZ (lo:Nat) (r:RoV) (p:Value) (xs:List Int) (t:Str) (w:World) (hr:r.ok lo w) (hp:Ints .i64 0 w p xs) (hL:je w) (ht:t.length≤1000000) :
  Calls Tryz.prog 14 #[r.val,p,str t] w (Ret fun v w'=>∃ pv,v = .tuple #[pv,.int .i64 ((jH r xs t).2.1:Int),.int .i64 (jH r xs t).2.2]∧Ints .i64 0 w' pv (jH r xs t).1∧Ext w w'):=by
 refine T.enter (vs:=[r.val,p,str t]) func14 rfl ntmps14 rfl ?_
 refine T.q (L.o (O.box rfl (fun b2 w2 hb2 hz2 he2 hB2=>?_)))
 have hC2:Blk w2 b2 r.cells _:=hB2
 refine L.a rfl (L.a rfl (L.a rfl (L.nil (T.q (L.o (O.ak isAgg25 sizeOf25 rfl rfl hC2.row (L.o (O.call (xs:=[.tmp 11]) call52 rfl rfl (sN lo r w2 (hr.ext he2)) (fun v3 w3 hq=>?_)))))))))
 obtain ⟨rfl,he3⟩:=hq
 have nC:=he2.trans he3
 rcases yO r with ⟨herr,hok,hln⟩|⟨herr,hok⟩
 ·rw [herr,hln]
  refine L.m rfl (L.o (O.extract rfl rfl (L.o (O.extract rfl rfl (L.a rfl (L.a rfl (L.nil (T.seq (T.q (L.m rfl (L.o (O.o8 rfl rfl rfl (L.nil (T.cf (T.skip (T.seq (T.q (L.m rfl (L.m rfl (L.o (O.call (xs:=[.tmp 18,.tmp 19]) call53 rfl rfl (Bl 0 p xs (aX r.us) w3 (hp.ext nC)) (fun v4 w4 hq=>?_))))))))))))))))))))))
  obtain ⟨hv4,rfl⟩:=hq
  have hpos:=GL hok
  cases hfit:pO xs (aX r.us)
  ·rw [hfit] at hv4
   subst hv4
   have hr1:jH r xs t=([],0,2):=by rw [uf hok,if_neg (by rw [hfit];simp)]
   refine L.o (O.not rfl (L.nil (T.ct (T.q (L.a rfl (L.a rfl (L.a rfl (L.nil (T.Ur results14 rfl rfl rfl ⟨.slice none 0 0,by rw [hr1];rfl,by rw [hr1];exact Sl.nil _ _ _,nC⟩)))))))))
  rw [hfit] at hv4
  subst hv4
  obtain ⟨hlen,hxs⟩:=RJ hfit
  refine L.o (O.not rfl (L.nil (T.cf (T.skip (T.q (L.o (O.ak isAgg25 sizeOf25 rfl rfl ((Blk.ext (cs:=r.cells) hC2 he3).row) (L.m rfl (L.m rfl (L.o (O.call (xs:=[.tmp 22,.tmp 23,.tmp 24]) call56 rfl rfl (oZ lo r p xs t w4 (hr.ext nC) (hp.ext nC) (hL.ext nC) hok (by omega) (by omega) hpos.2.2 ht) (fun v5 w5 hq=>?_))))))))))))
  obtain ⟨pv,rfl,hpv,he5⟩:=hq
  have hr1:jH r xs t=dA (nmA r.us) xs t:=by rw [uf hok,if_pos hfit]
  refine L.o (O.extract rfl rfl (L.o (O.extract rfl rfl (L.o (O.extract rfl rfl (L.a rfl (L.a rfl (L.a rfl (L.nil (T.Ur results14 rfl rfl rfl ⟨pv,by rw [hr1];rfl,by rw [hr1];exact hpv,nC.trans he5⟩))))))))))
 rw [herr]
 refine L.m rfl (L.o (O.extract rfl rfl (L.o (O.extract rfl rfl (L.a rfl (L.a rfl (L.nil (T.seq (T.q (L.m rfl (L.o (O.IC rfl rfl (by omega) (?_)))))))))))))
 have hr1:jH r xs t=([],0,161):=yP hok
 refine L.nil (T.ct (T.q (L.m rfl (L.a rfl (L.a rfl (L.a rfl (L.nil (T.Ur results14 rfl rfl rfl ⟨.slice none 0 0,by rw [hr1];rfl,by rw [hr1];exact Sl.nil _ _ _,nC⟩))))))))
def JJ (n:Nat) (base:Nat) (v:Value) (w:World):Prop:=∃ b,v = .slice (some ⟨b,0,none⟩) n n∧base≤b∧Blk w b (List.replicate n (.int .i64 (-1))) 3
theorem JJ.st {n base:Nat} : ∀ v w w',Ext w w'→JJ n base v w→JJ n base v w':=fun _ _ _ he ⟨b,h1,h2,h3⟩=>⟨b,h1,h2,Blk.ext h3 he⟩
theorem JJ.ints {n base:Nat} {v:Value} {w:World} (h:JJ n base v w) (hn:n≤1000):Ints .i64 0 w v (List.replicate n (-1)):=by
 obtain ⟨b,rfl,_,hB⟩:=h
 have:=Sl.aA (n:=n) (cap:=n) (sz:=1) (lo:=0) hB (by simp) (Nat.le_refl _) (by simp only [maxLen];omega) (Nat.zero_le _)
 have e:List.replicate n (Value.int .i64 (-1))=(List.replicate n (-1:Int)).map (Value.int .i64):=by simp
 rw [e] at this
 unfold Ints
 rw [List.length_replicate]
 exact this
def abK (v:Value) (w:World):Prop:=∃ b,v = .slice (some ⟨b,0,none⟩) 1 1∧Blk w b [.int .i64 (-1)] 3
theorem abK.st:∀ v w w',Ext w w'→abK v w→abK v w':=fun _ _ _ he ⟨b,h1,h2⟩=>⟨b,h1,Blk.ext (cs:=[.int .i64 (-1)]) h2 he⟩
def D5 (xs:List Int) (v:Value) (w:World):Prop:=Ints .i64 0 w v xs
theorem D5.st {xs:List Int} : ∀ v w w',Ext w w'→D5 xs v w→D5 xs v w':=fun _ _ _ he h=>Sl.ext h he
def YZ (nm:Nat→Str) (xs:List Int) (t:Str) (v:Value) (w:World):Prop:=∃ pv,v = .tuple #[pv,.int .i64 ((dA nm xs t).2.1:Int),.int .i64 (dA nm xs t).2.2]∧Ints .i64 0 w pv (dA nm xs t).1
theorem YZ.st {nm:Nat→Str} {xs:List Int} {t:Str} : ∀ v w w',Ext w w'→YZ nm xs t v w→YZ nm xs t v w':=fun _ _ _ he ⟨pv,h1,h2⟩=>⟨pv,h1,h2.ext he⟩
set_option maxHeartbeats 1000000 in
theorem Bv (lo:Nat) (r:RoV) (t:Str) (w:World) (hr:r.ok lo w) (hL:je w) (ht:t.length≤1000000) :
  Calls Tryz.prog 13 #[r.val,str t] w (Ret fun v w'=>∃ pv,v = .tuple #[pv,.int .i64 ((jg r t).2.1:Int),.int .i64 (jg r t).2.2]∧Ints .i64 0 w' pv (jg r t).1∧Ext w w'):=by
 refine T.enter (vs:=[r.val,str t]) func13 rfl ntmps13 rfl ?_
 refine T.q (L.o (O.box rfl (fun b2 w2 hb2 hz2 he2 hB2=>?_)))
 have hC2:Blk w2 b2 r.cells _:=hB2
 refine L.a rfl (L.a rfl (L.a rfl (L.nil (T.q (L.o (O.ak isAgg25 sizeOf25 rfl rfl hC2.row (L.o (O.call (xs:=[.tmp 9]) call52 rfl rfl (sN lo r w2 (hr.ext he2)) (fun v3 w3 hq=>?_)))))))))
 obtain ⟨rfl,he3⟩:=hq
 have nC:=he2.trans he3
 rcases yO r with ⟨herr,hok,hln⟩|⟨herr,hok⟩
 ·rw [herr,hln]
  have hpos:=GL hok
  refine L.m rfl (L.o (O.extract rfl rfl (L.o (O.extract rfl rfl (L.a rfl (L.a rfl (L.nil (T.seq (T.q (L.m rfl (L.o (O.o8 rfl rfl rfl (L.nil (T.cf (T.skip (T.seq (?_)))))))))))))))))
  refine T.fM mixed 12 [2,7,1] rfl [.is _,.such abK,.is _,.such (JJ (aX r.us) 0),.is _,.such (YZ (nmA r.us) (List.replicate (aX r.us) (-1)) t),.such (YZ (nmA r.us) (List.replicate (aX r.us) (-1)) t),.such (D5 (dA (nmA r.us) (List.replicate (aX r.us) (-1)) t).1),.is (.int .i64 ((dA (nmA r.us) (List.replicate (aX r.us) (-1)) t).2.1:Int)),.is (.int .i64 (dA (nmA r.us) (List.replicate (aX r.us) (-1)) t).2.2),.such (D5 (dA (nmA r.us) (List.replicate (aX r.us) (-1)) t).1),.is _] [[],[],[],[1,2],[],[0,3,4],[5],[6],[6],[6],[7],[8]] [[],[],[],[1,2],[],[0,1,2,3,4],[0,1,2,3,4,5],[0,1,2,3,4,5,6],[0,1,2,3,4,5,6],[0,1,2,3,4,5,6],[0,1,2,3,4,5,6,7],[0,1,2,3,4,5,6,7,8,10],[0,1,2,3,4,5,6,7,8,9,10,11]] (by kernel_rfl) (by kernel_rfl) rfl (by kernel_rfl) ⟨abK.st,JJ.st,YZ.st,YZ.st,D5.st,D5.st,trivial⟩ ⟨fun wx hx=>Ob.o (O.ak isAgg25 sizeOf25 rfl rfl ((Blk.ext (cs:=r.cells) hC2 (he3.trans hx)).row) kR),
    fun wx hx=>Ob.o (O.buildSlice (el:=3) (parts:=[(0,.const (.int .i64 (-1)))]) (vs:=[(0,_)]) (cs:=[.int .i64 (-1)]) rfl (fun w=>by kernel_rfl) (fun b18 w18 aeW aeX kV zJ=>⟨kV,b18,rfl,zJ⟩)),
    fun wx hx=>Ob.o (O.move rfl kR),
    fun wx hx v18 aax=>by { obtain ⟨b0,rfl,hb0⟩:=aax;exact Ob.o (O.call (xs:=[.tmp 18,.tmp 19]) call57 rfl rfl (wu b0 (aX r.us) wx hb0 (by omega) (by omega)) (fun v wy h=>⟨by obtain ⟨b,h1,h2,h3,h4⟩:=h;exact h4,by obtain ⟨b,h1,h2,h3,h4⟩:=h;exact ⟨b,h1,Nat.zero_le _,h3⟩⟩)) },
    fun wx hx=>Ob.o (O.move rfl kR),
    fun wx hx v20 ahh=>Ob.o (O.call (xs:=[.tmp 17,.tmp 20,.tmp 21]) call56 rfl rfl (oZ lo r v20 (List.replicate (aX r.us) (-1)) t wx (hr.ext (nC.trans hx)) (ahh.ints (by omega)) (hL.ext (nC.trans hx)) hok (by rw [List.length_replicate];omega) (by rw [List.length_replicate];omega) hpos.2.2 ht) (fun v wy h=>⟨by obtain ⟨b,h1,h2,h3⟩:=h;exact h3,by obtain ⟨b,h1,h2,h3⟩:=h;exact ⟨b,h1,h2⟩⟩)),
    fun wx hx v22 OX=>Ob.o (O.move rfl ⟨Keep.refl _ _,OX⟩),
    fun wx hx v16 Z7=>by { obtain ⟨pv,rfl,hpv⟩:=Z7;exact Ob.o (O.extract rfl rfl ⟨Keep.refl _ _,hpv⟩) },
    fun wx hx v16 Z7=>by { obtain ⟨pv,rfl,hpv⟩:=Z7;exact Ob.o (O.extract rfl rfl kR) },
    fun wx hx v16 Z7=>by { obtain ⟨pv,rfl,hpv⟩:=Z7;exact Ob.o (O.extract rfl rfl kR) },
    fun wx hx v23 ahi=>Ob.o (O.assign rfl ⟨Keep.refl _ _,ahi⟩),
    fun wx hx=>Ob.o (O.assign rfl kR),
    trivial⟩ (fun w4 he4 v18 aax v20 ahh v22 OX v16 Z7 v23 ahi v4 hv4=>?_)
  have aeY:=nC.trans he4
  refine L.a rfl (L.nil (T.seq (T.q (L.m rfl (L.o (O.kC rfl rfl (fun VW=>?_) (fun VW=>?_)))))))
  ·refine L.nil (?_)
   have hr1:jg r t=([],(dA (nmA r.us) (List.replicate (aX r.us) (-1)) t).2.1,(dA (nmA r.us) (List.replicate (aX r.us) (-1)) t).2.2):=by rw [oJ hok,yQ];exact if_pos VW
   refine T.ct (T.q (L.m rfl (L.m rfl (L.a rfl (L.a rfl (L.a rfl (L.nil (T.Ur results13 rfl rfl rfl ⟨.slice none 0 0,by rw [hr1],by rw [hr1];exact Sl.nil _ _ _,aeY⟩))))))))
  refine L.nil (T.cf (T.skip (T.seq (T.q (L.m rfl (L.o (O.call (xs:=[.tmp 30,.const (.int .i64 (-1))]) call58 rfl rfl (DY 0 v4 _ w4 hv4) (fun v5 w5 hq=>?_))))))))
  obtain ⟨hv5,rfl⟩:=hq
  cases hm:decide ((-1:Int)∈(dA (nmA r.us) (List.replicate (aX r.us) (-1)) t).1)
  ·refine L.nil (?_)
   rw [hm] at hv5
   subst hv5
   have hr1:jg r t=((dA (nmA r.us) (List.replicate (aX r.us) (-1)) t).1,0,0):=by rw [oJ hok,yQ];exact (if_neg (fun h=>h VW)).trans (if_neg (of_decide_eq_false hm))
   refine T.cf (T.skip (T.q (L.m rfl (L.a rfl (L.a rfl (L.a rfl (L.nil (T.Ur results13 rfl rfl rfl ⟨v4,by rw [hr1];rfl,by rw [hr1];exact hv4,aeY⟩))))))))
  refine L.nil (?_)
  rw [hm] at hv5
  subst hv5
  have hr1:jg r t=([],0,4):=by rw [oJ hok,yQ];exact (if_neg (fun h=>h VW)).trans (if_pos (of_decide_eq_true hm))
  refine T.ct (T.q (L.a rfl (L.a rfl (L.a rfl (L.nil (T.Ur results13 rfl rfl rfl ⟨.slice none 0 0,by rw [hr1];rfl,by rw [hr1];exact Sl.nil _ _ _,aeY⟩))))))
 rw [herr]
 refine L.m rfl (L.o (O.extract rfl rfl (L.o (O.extract rfl rfl (L.a rfl (L.a rfl (L.nil (T.seq (T.q (L.m rfl (L.o (O.IC rfl rfl (by omega) (?_)))))))))))))
 have hr1:jg r t=([],0,161):=yR hok
 refine L.nil (T.ct (T.q (L.m rfl (L.a rfl (L.a rfl (L.a rfl (L.nil (T.Ur results13 rfl rfl rfl ⟨.slice none 0 0,by rw [hr1];rfl,by rw [hr1];exact Sl.nil _ _ _,nC⟩))))))))
open Go Go.E RowKit
theorem RS {n:Nat} (h:n<10):Lib.decDigits n = [UInt8.ofNat (48+n)]:=by rw [Lib.decDigits,dif_pos h]
section
variable {C:Cx} {e:Env} {w:World} {K:Value→World→Prop} {d:Option Tmp} {ty tx ty':TypeId} {pos:String} {aft:Array Edge} {g:Option (Nat × Bool)} {x y:Operand}
end
open Go Go.E RowKit
theorem D6 {d:Nat} (h:d<8):Lib.itoa ((d:Int)+1) = [UInt8.ofNat (49+d)]:=by
 rw [show (d:Int)+1=((d+1:Nat):Int) by omega,Lib.itoa_nonneg,RS (by omega),show 48+(d+1)=49+d by omega]
end Go.Proofs.YtnlonpcbgjbbaaaGreatDoor
