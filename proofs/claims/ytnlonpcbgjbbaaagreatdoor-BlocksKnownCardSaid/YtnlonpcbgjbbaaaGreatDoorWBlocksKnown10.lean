/-
  BlocksKnown, part 10 of its proof: that it returns true for every input, and each argument reads behind the call as it read before. Conditions: the listed variables read as the program's text lays them (tied by the card).
-/
import Derived.Test.YtnlonpcbgjbbaaaGreatDoorWBlocksKnown9
import Derived.Lib.ItoaLen
set_option linter.unusedVariables false
set_option linter.unusedSimpArgs false
set_option maxRecDepth 20000
set_option linter.unusedVariables false
set_option linter.unusedSimpArgs false
set_option maxRecDepth 20000
namespace Go.Proofs.YtnlonpcbgjbbaaaGreatDoor
open Go.Proofs.Tryz (call106 call107 call108 call117 call121 call124 call157 call159 call160 call161 call162 call27 call34 call41 call52 call53 call54 call55 call56 call57 call58 call65 call66 func117 func12 func121 func122 func124 func13 func14 func157 func159 func160 func162 func19 func41 func56 func65 func68 isAgg124 isAgg125 isAgg127 isAgg171 isAgg23 isAgg25 isAgg3 isAgg30 isAgg31 isAgg4 isAgg43 isAgg44 isAgg48 isAgg51 isAgg9 ntmps117 ntmps12 ntmps121 ntmps122 ntmps124 ntmps13 ntmps14 ntmps157 ntmps159 ntmps160 ntmps162 ntmps19 ntmps41 ntmps56 ntmps65 ntmps68 results117 results12 results121 results122 results124 results13 results14 results157 results159 results160 results162 results19 results41 results56 results65 results68 runUnderlying124 runUnderlying125 runUnderlying127 runUnderlying129 runUnderlying171 runUnderlying23 runUnderlying25 runUnderlying3 runUnderlying30 runUnderlying31 runUnderlying43 runUnderlying44 runUnderlying46 runUnderlying48 runUnderlying51 runUnderlying61 runUnderlying9 sizeOf124 sizeOf125 sizeOf127 sizeOf171 sizeOf23 sizeOf25 sizeOf3 sizeOf30 sizeOf31 sizeOf4 sizeOf43 sizeOf44 sizeOf46 sizeOf48 sizeOf51 sizeOf9 zeroValue124 zeroValue127 zeroValue171 zeroValue4 zeroValue51)
open Go Go.E RowKit
attribute [local irreducible] Go.E.T Go.E.L Go.E.O Go.E.Ob

attribute [local irreducible] Go.E.ObX Go.E.ObG Go.E.ObK
theorem results_tmp3 {P:Program} {fn:Func} {s s' s'':Tmp} (h:fn.results=#[.tmp s,.tmp s',.tmp s'']) (T:Array Value) (w:World):(results fn T).run P w = .ok (.tuple #[T.getD s undef,T.getD s' undef,T.getD s'' undef]) w:=by
 simp [results,h]
theorem T.ret3 {P:Program} {fn:Func} {n:Nat} {R:Value→World→Prop} {k:List It} {e:Env} {w:World} {s s' s'':Tmp} {v v' v'':Value} (hres:fn.results=#[.tmp s,.tmp s',.tmp s'']) (hv:Go.E.look e s=some v) (hv':Go.E.look e s'=some v') (hv'':Go.E.look e s''=some v'') (h:R (.tuple #[v,v',v'']) w):T (fnCx P fn n R) (.code .ret::k) e w :=
 T.ret fun a ha=>bodyPost_ret (results_tmp3 hres _ _) ha.defers (by
  have h1:=ha.sat.get s v hv
  have h2:=ha.sat.get s' v' hv'
  have h3:=ha.sat.get s'' v'' hv''
  simp [Array.getD_eq_getD_getElem?,h1,h2,h3];exact h)
theorem putG_new {α β:Type} [DecidableEq α] {kvs:List (α × β)} {k:α} {v:β} (h:k∉kvs.map (·.1)):putG kvs k v=kvs ++ [(k,v)]:=by
 have:findG kvs k 0=none:=by
  have h1:=getG_none_of h
  rw [getG] at h1
  cases hf:findG kvs k 0 with
  | none=>rfl
  | some p=>rw [hf] at h1;cases h1
 rw [putG,this]
/-- The text that is divided. -/
def bodyL (t:Str):Str:=Lib.trimSuffix (if Lib.hasSuffix t [10]=true then t else t ++ [0,10]) [10]
theorem trim_le (s p:Str):(Lib.trimSuffix s p).length≤s.length:=by
 unfold Lib.trimSuffix
 split
 ·rw [List.length_take];omega
 ·exact Nat.le_refl _
theorem bodyL_le (t:Str):(bodyL t).length≤t.length+2:=by
 unfold bodyL
 refine Nat.le_trans (trim_le _ _) ?_
 split
 ·omega
 ·simp
def keysA (nm:Nat→Str) (n:Nat):List (Str × Nat):=(List.range n).map fun i=>(nm i,i)
theorem keysA_succ (nm:Nat→Str) (n:Nat):keysA nm (n+1)=keysA nm n ++ [(nm n,n)]:=by simp [keysA,List.range_succ]
theorem keysA_new {nm:Nat→Str} {n:Nat} (h:∀ k,k<n→nm k≠nm n):nm n∉(keysA nm n).map (·.1):=fun hm=>by
 simp only [keysA,List.map_map,List.mem_map,List.mem_range,Function.comp] at hm
 obtain ⟨k,hk,e⟩:=hm
 exact h k hk e
theorem keysA_lt {nm:Nat→Str} {n:Nat} : ∀ p∈keysA nm n,p.2<n:=fun p hp=>by
 simp only [keysA,List.mem_map,List.mem_range] at hp
 obtain ⟨k,hk,rfl⟩:=hp
 exact hk
theorem runL_ge {τ:Type} (step:τ→Str→Option τ):∀ (L:List Str) (s:τ) (n m:Nat),runL step s L n = .inr m→n≤m
 | [],s,n,m,h=>by simp [runL] at h
 | l::r,s,n,m,h=>by
  rw [runL] at h
  cases hs:step s l with
  | none=>rw [hs] at h;simp at h;omega
  | some s'=>rw [hs] at h;have:=runL_ge step r s' (n+1) m h;omega
/-- What it gives: the plan, the line, the error. -/
def asgRes (nm:Nat→Str) (xs:List Int) (t:Str):List Int × Nat × Int :=
 if 40000<t.length then ([],0,3) else match runL stepA (true,keysA nm xs.length,xs) (wordsL 10 (bodyL t)) 1 with
  | .inl s=>(s.2.2,0,0)
  | .inr m=>([],m,5)
def nmA (us:List UnV) (i:Nat):Str:=(us.getD i u0).nm
theorem own_ints {base n:Nat} {xs:List Int} {v:Value} {w:World} (h:w.ownsRow base 3 1 v n (xs.map (Value.int .i64))) (hn:0<n):∃ b cap cur,v = .slice (some ⟨b,0,none⟩) n cap∧base≤b∧Blk w b cur 3∧n≤cap∧cap≤maxLen∧cur.length=cap∧cur.take n=xs.map (Value.int .i64):=by
 rcases h.2 with ⟨_,h0⟩|⟨g,cap,cur,rfl,hbase,hg,hn',hm,hsz,htk⟩
 ·omega
 ·exact ⟨g,cap,cur.toList,rfl,by omega,by unfold Blk;simpa using hg,hn',hm,by simpa using hsz,by simpa using htk⟩
theorem ints_cap {w:World} {b n cap:Nat} {cs:List Value} {xs:List Int} {t:TypeId} (h:Blk w b cs t) (hl:cs.length=cap) (hc:n≤cap) (hm:cap≤maxLen) (ht:cs.take n=xs.map (Value.int .i64)) (hn:xs.length=n):Ints .i64 0 w (.slice (some ⟨b,0,none⟩) n cap) xs:=by
 have:=sl_cap h hl hc hm
 rw [ht,← hn] at this
 subst hn
 exact this
theorem clonePlan_calls (lo:Nat) (p:Value) (xs:List Int) (w:World) (hp:Ints .i64 lo w p xs) (hlen:xs.length≤1000000) :
  Calls Tryz.prog 41 #[p] w (Ret fun v w'=>Ext w w'∧w'.ownsRow w.heap.size 3 1 v xs.length (xs.map (Value.int .i64))):=by
 refine T.enter (vs:=[p]) func41 rfl ntmps41 rfl ?_
 refine T.q (L.a rfl (L.nil (T.seq (T.q (L.m rfl (L.o (O.eql_nil_s runUnderlying31 rfl rfl hp (fun hn=>?_) (fun hn=>?_))))))))
 ·refine L.nil (T.ct (T.q (L.a rfl (L.nil (T.ret1 results41 rfl ⟨Keep.refl _ _,?_⟩)))))
  have:xs = []:=List.length_eq_zero_iff.1 hn
  subst this
  exact owns_nil _ _ _ _
 ·refine L.nil (T.cf (T.skip (T.q (L.o (O.buildSlice (el:=3) (parts:=[]) (vs:=[]) (cs:=[]) rfl (fun w=>by kernel_rfl) (fun b5 w5 hb5 hz5 he5 hB5=>?_))))))
  have hO5:w5.ownsRow w.heap.size 3 1 (.slice (some ⟨b5,0,none⟩) 0 0) 0 []:=owns_blk (n:=0) hB5 (by omega) (Nat.le_refl _) (by decide) rfl
  refine L.m rfl (L.o (O.append (size:=1) (bytes:=8) runUnderlying31 Tryz.infoOf3 rfl rfl rfl rfl (by decide) rfl rfl hO5 (hp.keep (he5.mono (Nat.zero_le _))) (by intro c hc;simp at hc;obtain ⟨_,_,rfl⟩:=hc;rfl) (by omega) (by simp only [maxLen];omega) (by omega) (fun v7 w7 hO7 hG7=>?_)))
  refine L.a rfl (L.nil (T.ret1 results41 rfl ⟨he5.grown0 hO5 hG7 (by omega),by simpa using hO7⟩))

set_option maxHeartbeats 1000000 in
theorem assigned0_calls (lo:Nat) (r:RoV) (oa:Option Addr) (cp0:Nat) (xs:List Int) (t:Str) (w:World) (hr:r.ok lo w) (hp:Ints .i64 0 w (.slice oa xs.length cp0) xs) (hL:LibM w) (h0:RollOk r) (hn:xs.length≤r.us.length) (h1:0<xs.length) (hu:r.us.length≤64) (ht:t.length≤1000000) :
  Calls Tryz.prog 56 #[r.val,.slice oa xs.length cp0,str t] w (Ret fun v w'=>∃ pv,v = .tuple #[pv,.int .i64 ((asgRes (nmA r.us) xs t).2.1:Int),.int .i64 (asgRes (nmA r.us) xs t).2.2]∧Ints .i64 0 w' pv (asgRes (nmA r.us) xs t).1∧Ext w w'):=by
 refine T.enter (vs:=[r.val,.slice oa xs.length cp0,str t]) func56 rfl ntmps56 rfl ?_
 refine T.q (L.o (O.box rfl (fun b3 w3 hb3 hz3 he3 hB3=>?_)))
 refine L.o (O.box rfl (fun b4 w4 hb4 hz4 he4 hB4=>?_))
 have hC4:Blk w4 b3 r.cells _:=Blk.ext (cs:=r.cells) hB3 he4
 have he04:=he3.trans he4
 refine L.a rfl (L.a rfl (L.a rfl (L.nil (T.seq (T.q (L.m rfl (L.o (O.len_str runUnderlying9 rfl (L.o (O.gtr_s rfl rfl (fun hbig=>?_) (fun hbig=>?_)))))))))))
 ·refine L.nil (?_)
  have hr1:asgRes (nmA r.us) xs t=([],0,3):=by rw [asgRes,if_pos (by omega)]
  refine T.ct (T.q (L.a rfl (L.a rfl (L.a rfl (L.nil (T.ret3 results56 rfl rfl rfl ⟨.slice none 0 0,by rw [hr1];rfl,by rw [hr1];exact Sl.nil _ _ _,he04⟩))))))
 ·refine L.nil (T.cf (T.skip (T.q (L.o (O.makeMapG (kf:=str) (vf:=(Value.int .i64)) (fun b16 w16 hb16 hz16 he16 hM16=>?_))))))
  have he416:Ext w4 w16:=he16
  refine L.o (O.alloc zeroValue171 (fun b9 w9 hb9 hz9 he9 hB9=>?_))
  refine L.o (O.store1 sizeOf171 rfl rfl rfl hB9 (by simp [Value.cells]) (fun w10 hu10 hB10=>?_))
  have hm10:MapG str nV w10 b16 []:=(hM16.keep he9 (Nat.zero_le _)).upd hu10 (by omega)
  have he410:Ext w4 w10:=(he16.trans he9).upd hu10 (.inr (by omega))
  refine L.nil (T.seq (T.q (L.o (O.load isAgg31 rfl ((Blk.ext (cs:=[.slice oa xs.length cp0]) hB4 he410).cell rfl) (L.o (O.len runUnderlying31 rfl (Sl.val (hp.ext (he04.trans he410))) (L.m rfl (L.nil (T.block (?_))))))))))
  refine T.loop (σ:=Nat) (fun i=>[(2,str t),(3,.pointer (some ⟨b3,0,none⟩)),(4,.pointer (some ⟨b4,0,none⟩)),(9,.pointer (some ⟨b9,0,none⟩)),(18,.int .i64 xs.length),(19,.int .i64 i)]) (fun i W=>i≤xs.length∧Ext w4 W∧MapG str nV W b16 (keysA (nmA r.us) i)∧Blk W b9 [.map (some b16)] 171) (fun i=>xs.length-i) (0) ⟨rfl,rfl,rfl,rfl,rfl,rfl,trivial⟩ ⟨Nat.zero_le _,he410,hm10,hB10⟩ ?_
  rintro i w11 ⟨hi,he11,hM11,hV11⟩
  refine T.q (L.o (O.lss_s rfl rfl (fun hlt=>?_) (fun hlt=>?_)))
  ·refine L.nil (?_)
   have hlt':i<xs.length:=by omega
   have hir:i<r.us.length:=by omega
   have hU11:Units lo w11 r.uv r.us:=hr.ext (he04.trans he11)
   refine T.seq (T.ct (T.skip (T.seq (T.block (T.q (L.m rfl (L.a rfl (L.nil (?_)))))))))
   refine T.anyE mixed 8 [9,3,10] rfl [.is _,.is _,.is _,.is _,.is _,.is _,.is _,.is _] [[],[],[1],[],[2,3],[4],[5],[]] [[],[],[1],[],[1,2,3],[1,2,3,4],[1,2,3,4,5],[],[0,1,2,3,4,5,6,7]] (by kernel_rfl) (by kernel_rfl) rfl (by kernel_rfl) trivial ⟨fun wx hx=>Ob.o (O.load isAgg171 rfl ((Blk.ext (cs:=[.map (some b16)]) hV11 hx).cell rfl) kR),
     fun wx hx=>Ob.o (O.fieldAddr runUnderlying25 rfl sizeOf23 rfl kR),
     fun wx hx=>Ob.o (O.load isAgg23 rfl ((Blk.ext (cs:=r.cells) hC4 (he11.trans hx)).cell rfl) kR),
     fun wx hx=>Ob.o (O.move rfl kR),
     fun wx hx=>Ob.o (O.indexAddr runUnderlying23 sizeOf51 rfl rfl ((hU11.ext hx).sl) (by omega) (by omega) kR),
     fun wx hx=>Ob.o (O.fieldAddr runUnderlying51 rfl sizeOf9 rfl kR),
     fun wx hx=>Ob.o (O.load isAgg9 rfl ((hU11.ext hx).name hir) kR),
     fun wx hx=>Ob.o (O.move rfl kR),
     trivial⟩ (fun w7 he7=>?_)
   refine L.o (O.mapUpdateG (kf:=str) (vf:=nV) (v:=i) key_str runUnderlying171 runUnderlying9 rfl rfl rfl (hM11.keep he7 (Nat.zero_le _)) (fun w12 hu12 hM12=>?_))
   have hnew:∀ k,k<i→nmA r.us k≠nmA r.us i:=fun k hk=>(h0.good i hir).name k hk
   rw [show (r.us.getD i u0).nm=nmA r.us i from rfl,putG_new (keysA_new hnew),← keysA_succ] at hM12
   refine L.nil (T.blk (T.region (L.o (O.add64 rfl rfl (by omega) (L.m rfl (L.nil (T.again (i+1) (by omega) ⟨rfl,rfl,rfl,rfl,rfl,rfl,trivial⟩ ⟨hlt',(he11.trans he7).upd hu12 (.inr (by have:=he16.size;omega)),hM12,Blk.upd (cs:=[.map (some b16)]) (Blk.ext (cs:=[.map (some b16)]) hV11 he7) hu12 (by omega)⟩)))))))
  ·refine L.nil (?_)
   obtain rfl:i=xs.length:=by omega
   refine T.seq (T.cf (T.exit rfl (T.q (L.o (O.load isAgg31 rfl ((Blk.ext (cs:=[.slice oa xs.length cp0]) hB4 he11).cell rfl) (L.o (O.call (xs:=[.tmp 31]) call41 rfl rfl (clonePlan_calls 0 (.slice oa xs.length cp0) xs w11 (hp.ext (he04.trans he11)) (by omega)) (fun v20 w20 hq=>?_))))))))
   obtain ⟨he20,hO20⟩:=hq
   obtain ⟨bs,cap,cur,rfl,hbs,hC20,hc1,hc2,hc3,hc4⟩:=own_ints hO20 h1
   refine L.o (O.store1 sizeOf31 rfl rfl rfl (Blk.ext (cs:=[.slice oa xs.length cp0]) hB4 (he11.trans he20)) (by simp [Value.cells]) (fun w21 hu21 hB21=>?_))
   have hC4':∀ {W:World},Ext w4 W→Blk W b3 r.cells _:=fun k=>Blk.ext (cs:=r.cells) hC4 k
   have hz11:=he11.size
   have hz16':=he16.size
   have hV21:Blk w21 b9 [.map (some b16)] 171:=Blk.upd (cs:=[.map (some b16)]) (Blk.ext (cs:=[.map (some b16)]) hV11 he20) hu21 (by omega)
   have hM21:MapD str nV w21 b16 (keysA (nmA r.us) xs.length):=((MapD.of_g hM11).keep he20).upd hu21 (by omega)
   have hC21:Blk w21 bs cur 3:=Blk.upd hC20 hu21 (by omega)
   have he21:Ext w w21:=(he3.trans ((he4.trans (he11.trans he20)).upd hu21 (.inr (by omega))))
   refine L.nil (T.seq (T.q (L.m rfl (L.o (O.call (xs:=[.tmp 33,_]) call106 rfl rfl (hasSuffix_calls t [10] w21 (by omega)) (fun v22 w22 hq=>?_))))))
   obtain ⟨rfl,rfl⟩:=hq
   refine L.o (O.not rfl (L.nil (?_)))
   refine T.join (σ:=Unit) (fun _=>[(2,str (if Lib.hasSuffix t [10]=true then t else t ++ [0,10])),(4,.pointer (some ⟨b4,0,none⟩)),(9,.pointer (some ⟨b9,0,none⟩))]) (fun _ w'=>w'=w22) ?_ ?_
   ·rcases hsf:Lib.hasSuffix t [10] with _|_
    ·refine T.ct (T.region (L.m rfl (L.o (O.add_str rfl rfl (by show t.length+2≤_;omega) (L.a rfl (L.nil (T.meet (()) ⟨?_,rfl,rfl,trivial⟩ rfl)))))))
     ·exact congrArg (fun z=>some (str z)) (if_neg (by simp)).symm
    ·refine T.cf (T.skip (T.meet (()) ⟨?_,rfl,rfl,trivial⟩ rfl))
     ·exact congrArg (fun z=>some (str z)) (if_pos rfl).symm
   rintro _ w23 rfl
   refine T.q (L.o (O.alloc zeroValue4 (fun b24 w24 hb24 hz24 he24 hB24=>?_)))
   refine L.o (O.store1 sizeOf4 rfl rfl rfl hB24 (by simp [Value.cells]) (fun w25 hu25 hB25=>?_))
   have hz24:=he24.size
   have hlen2:(if Lib.hasSuffix t [10]=true then t else t ++ [0,10]).length≤50000:=by split;omega;rw [List.length_append];show t.length+2≤_;omega
   refine L.nil (T.q (L.m rfl (L.o (O.call (xs:=[.tmp 38,_]) call27 rfl rfl (trimSuffix_calls (if Lib.hasSuffix t [10]=true then t else t ++ [0,10]) [10] w25 (by omega)) (fun v26 w26 hq=>?_)))))
   obtain ⟨hv26,rfl⟩:=hq
   have hbl:=bodyL_le t
   have hl9:=Blk.lt (cs:=[.map (some b16)]) hV21
   have hlM:=hM21.lt
   have hlS:=Blk.lt hC21
   have hlP:=Blk.lt (cs:=[.slice (some ⟨bs,0,none⟩) xs.length cap]) hB21
   have hzw:=he21.size
   have hl9':=Blk.lt (cs:=[.map (some b16)]) hV11
   have hz03:=he3.size
   have hv26':v26=str (bodyL t):=hv26
   subst hv26'
   clear hv26
   have hS26:AsI w b24 b16 b9 b4 bs xs.length cap (true,keysA (nmA r.us) xs.length,xs) (fun _=>False) w26:=⟨(he21.trans he24).upd hu25 (.inr (by have:=he21.size;omega)),hB25,Blk.upd (cs:=[.map (some b16)]) (Blk.ext (cs:=[.map (some b16)]) hV21 he24) hu25 (by omega),(hM21.keep he24).upd hu25 (by omega),Blk.upd (cs:=[.slice (some ⟨bs,0,none⟩) xs.length cap]) (Blk.ext (cs:=[.slice (some ⟨bs,0,none⟩) xs.length cap]) hB21 he24) hu25 (by omega),⟨cur,Blk.upd (Blk.ext hC21 he24) hu25 (by omega),hc3,hc4⟩,rfl,⟨hc1,hc2⟩,keysA_lt,by omega,fun k hk=>hk.elim⟩
   refine L.o (O.makeFunc (fi:=[]) (ca:=[.tmp 11,.tmp 9,.tmp 4]) rfl rfl (L.o (O.call (xs:=[.tmp 39,.tmp 40]) call66 rfl rfl (guarded_calls (bodyL t) 107 #[] #[.pointer (some ⟨b24,0,none⟩),.pointer (some ⟨b9,0,none⟩),.pointer (some ⟨b4,0,none⟩)] stepA (true,keysA (nmA r.us) xs.length,xs) (fun _ _ ↦ True) (AsI w b24 b16 b9 b4 bs xs.length cap) (fun S W ↦ Ext w W∧∀ k,S k→w.heap.size≤k∧k<W.heap.size) w26 (by omega) call107 AsI.stab (fun S W W' h k ↦ ⟨h.1.trans k,fun j hj ↦ ⟨(h.2 j hj).1,Nat.lt_of_lt_of_le (h.2 j hj).2 k.size⟩⟩) (fun S W W' b h hb k ↦ ⟨h.1.upd k (.inr (h.2 b hb).1),fun j hj ↦ ⟨(h.2 j hj).1,by rw [k.size];exact (h.2 j hj).2⟩⟩) (fun s S W h ↦ hL.ext h.e) (as_do w b24 b16 b9 b4 bs xs.length cap hL) trivial (fun _ _ _ _ _ _ ↦ trivial) hS26) (fun v27 w27 hq=>?_))))
   obtain ⟨hv27,hl27,hr27⟩:=hq
   rcases hrun:runL stepA (true,keysA (nmA r.us) xs.length,xs) (wordsL 10 (bodyL t)) 1 with s|m
   ·rw [hrun] at hv27
    obtain rfl:v27 = .int .i64 0:=hv27
    obtain ⟨S,hI27⟩:=hl27 s hrun
    obtain ⟨cur',c1,c2,c3⟩:=hI27.c
    have hr1:asgRes (nmA r.us) xs t=(s.2.2,0,0):=by rw [asgRes,if_neg (by omega),hrun]
    refine L.a rfl (L.nil (T.seq (T.q (L.m rfl (L.o (O.gtr_f rfl rfl (by omega) (L.nil (T.cf (T.skip (T.q (L.o (O.load isAgg31 rfl (hI27.p.cell rfl) (L.a rfl (L.a rfl (L.a rfl (L.nil (T.ret3 results56 rfl rfl rfl ⟨_,by rw [hr1];rfl,by rw [hr1];exact ints_cap c1 c2 hI27.cp.1 hI27.cp.2 c3 hI27.len,hI27.e⟩)))))))))))))))))
   ·rw [hrun] at hv27
    obtain rfl:v27 = .int .i64 (m:Int):=hv27
    obtain ⟨S,hX27⟩:=hr27 m hrun
    have hm1:=runL_ge _ _ _ _ _ hrun
    have hr1:asgRes (nmA r.us) xs t=([],m,5):=by rw [asgRes,if_neg (by omega),hrun]
    refine L.a rfl (L.nil (T.seq (T.q (L.m rfl (L.o (O.gtr_t rfl rfl (by omega) (L.nil (T.ct (T.q (L.m rfl (L.a rfl (L.a rfl (L.a rfl (L.nil (T.ret3 results56 rfl rfl rfl ⟨.slice none 0 0,by rw [hr1],by rw [hr1];exact Sl.nil _ _ _,hX27.1⟩)))))))))))))))

theorem assigned_calls (lo:Nat) (r:RoV) (p:Value) (xs:List Int) (t:Str) (w:World) (hr:r.ok lo w) (hp:Ints .i64 0 w p xs) (hL:LibM w) (h0:RollOk r) (hn:xs.length≤r.us.length) (h1:0<xs.length) (hu:r.us.length≤64) (ht:t.length≤1000000) :
  Calls Tryz.prog 56 #[r.val,p,str t] w (Ret fun v w'=>∃ pv,v = .tuple #[pv,.int .i64 ((asgRes (nmA r.us) xs t).2.1:Int),.int .i64 (asgRes (nmA r.us) xs t).2.2]∧Ints .i64 0 w' pv (asgRes (nmA r.us) xs t).1∧Ext w w'):=by
 obtain ⟨oa,cp0,rfl,_,_⟩:=Sl.val hp
 exact assigned0_calls lo r oa cp0 xs t w hr hp hL h0 hn h1 hu ht
open Go Go.E RowKit

theorem joinedL_len {c:Nat} : ∀ (ls:List Str),(∀ l∈ls,l.length≤c)→(joinedL ls).length≤ls.length*(c+1)
 | [],_=>by simp [joinedL]
 | l::r,h=>by
  have h1:=h l (by simp)
  have h2:=joinedL_len r fun x hx=>h x (List.mem_cons_of_mem _ hx)
  have e:joinedL (l::r)=l ++ [10]++joinedL r:=by simp [joinedL]
  have e2:(l::r).length*(c+1)=r.length*(c+1)+(c+1):=by rw [List.length_cons,Nat.succ_mul]
  have e3:(l ++ [10]++joinedL r).length=l.length+1+(joinedL r).length:=by simp only [List.length_append,List.length_cons,List.length_nil]
  rw [e,e3,e2]
  omega
theorem nm_good {r:RoV} (h:RollOk r) {i:Nat} (hi:i<r.us.length):nmA r.us i ≠ []∧(nmA r.us i).length≤12∧(nmA r.us i).all goodC=true:=by
 have:=(h.good i hi).right
 simp only [rightOk,rightBs,List.all_cons,id,Bool.and_eq_true,Bool.not_eq_true',decide_eq_false_iff_not,decide_eq_true_eq] at this
 obtain ⟨h1,h2,h3,_⟩:=this
 exact ⟨h1,by unfold nmA;omega,h3⟩
def lineA (nm:Nat→Str) (xs:List Int) (i:Nat):Str:=nm i ++ [44]++Lib.itoa (xs.getD i 0+1)
def linesA (nm:Nat→Str) (xs:List Int) (n:Nat):List Str:=hdrL::(List.range n).map (lineA nm xs)
theorem linesA_succ (nm:Nat→Str) (xs:List Int) (n:Nat):linesA nm xs (n+1)=linesA nm xs n ++ [lineA nm xs n]:=by simp [linesA,List.range_succ]
theorem linesA_len (nm:Nat→Str) (xs:List Int) (n:Nat):(linesA nm xs n).length=n+1:=by simp [linesA]
theorem fits_in {xs:List Int} {n:Int} (h:fitsB xs n=true):(xs.length:Int)=n∧∀ i,i<xs.length→0≤xs.getD i 0∧xs.getD i 0<8:=by
 rw [fitsB,Bool.and_eq_true,decide_eq_true_eq] at h
 refine ⟨h.1,fun i hi=>?_⟩
 have:=List.all_eq_true.1 h.2 (xs.getD i 0) (by rw [getD_get hi];exact List.getElem_mem hi)
 simp only [outD,Bool.not_eq_true',decide_eq_false_iff_not] at this
 omega
theorem lineA_len {r:RoV} {xs:List Int} {i:Nat} (h:RollOk r) (hi:i<r.us.length) (hx:0≤xs.getD i 0∧xs.getD i 0<8):(lineA (nmA r.us) xs i).length≤40:=by
 have h1:=(nm_good h hi).2.1
 have h2:=Lib.itoa_length_le (xs.getD i 0+1) (by omega) (by omega)
 rw [lineA,List.length_append,List.length_append]
 simp only [List.length_cons,List.length_nil]
 omega
theorem linesA_le {r:RoV} {xs:List Int} {n:Nat} (h:RollOk r) (hn:n≤r.us.length) (h64:r.us.length≤64) (hx:∀ i,i<n→0≤xs.getD i 0∧xs.getD i 0<8):(joinedL (linesA (nmA r.us) xs n)).length≤40000:=by
 have:=joinedL_len (c:=40) (linesA (nmA r.us) xs n) fun l hl=>by
  rcases List.mem_cons.1 hl with rfl|hl
  ·decide
  ·obtain ⟨i,hi,rfl⟩:=List.mem_map.1 hl
   have hi':=List.mem_range.1 hi
   exact lineA_len h (by omega) (hx i hi')
 rw [linesA_len] at this
 omega
def OwnSt (base:Nat) (xs:List Str) (v:Value) (w:World):Prop:=w.ownsRow base 9 1 v xs.length (xs.map str)
theorem ownSt_app {base:Nat} {xs ys:List Str} {v:Value} {w:World} (h:w.ownsRow base 9 1 v (xs.length+ys.length) (xs.map str++ys.map str)):OwnSt base (xs++ys) v w:=by
 unfold OwnSt;rw [List.length_append,List.map_append];exact h
theorem strs_one (xs:List Str):∀ u∈xs.map str,u.oneCell'=true:=fun u hu=>by
 obtain ⟨s,_,rfl⟩:=List.mem_map.1 hu;rfl
def StrsP (xs:List Str) (v:Value) (w:World):Prop:=Strs 0 w v xs
theorem StrsP.st {xs:List Str} : ∀ v w w',Ext w w'→StrsP xs v w→StrsP xs v w':=fun _ _ _ he h=>Strs.ext h he
/-- What Assign gives. -/
noncomputable def asnRes (r:RoV) (xs:List Int):Str × Int :=
 @ite _ (RollOk r) (Classical.propDecidable _) (if fitsB xs (landsN r.us)=true then (joinedL (linesA (nmA r.us) xs xs.length),0) else ([],2)) ([],161)
theorem asnRes_bad {r:RoV} {xs:List Int} (h:¬ RollOk r):asnRes r xs=([],161):=by unfold asnRes;exact if_neg h
theorem asnRes_ok {r:RoV} {xs:List Int} (h:RollOk r):asnRes r xs=if fitsB xs (landsN r.us)=true then (joinedL (linesA (nmA r.us) xs xs.length),0) else ([],2):=by unfold asnRes;exact if_pos h
theorem err_cases (r:RoV):(rollErr r=0∧RollOk r∧landRes r=landsN r.us)∨(rollErr r=161∧¬ RollOk r):=by
 by_cases h:RollOk r
 ·exact .inl ⟨rollErr_ok h,h,landRes_ok (rollErr_ok h)⟩
 ·exact .inr ⟨rollErr_no h,h⟩
theorem Assign_calls (lo:Nat) (r:RoV) (p:Value) (xs:List Int) (w:World) (hr:r.ok lo w) (hp:Ints .i64 0 w p xs) (hL:LibM w) :
  Calls Tryz.prog 12 #[r.val,p] w (Ret fun v w'=>v = .tuple #[str (asnRes r xs).1,.int .i64 (asnRes r xs).2]∧Ext w w'):=by
 refine T.enter (vs:=[r.val,p]) func12 rfl ntmps12 rfl ?_
 refine T.q (L.o (O.box rfl (fun b2 w2 hb2 hz2 he2 hB2=>?_)))
 have hC2:Blk w2 b2 r.cells _:=hB2
 refine L.a rfl (L.a rfl (L.nil (T.q (L.o (O.loadAgg isAgg25 sizeOf25 rfl rfl hC2.row (L.o (O.call (xs:=[.tmp 12]) call52 rfl rfl (Land_calls lo r w2 (hr.ext he2)) (fun v3 w3 hq=>?_))))))))
 obtain ⟨rfl,he3⟩:=hq
 have he03:=he2.trans he3
 rcases err_cases r with ⟨herr,hok,hln⟩|⟨herr,hok⟩
 ·rw [herr,hln]
  refine L.m rfl (L.o (O.extract rfl rfl (L.o (O.extract rfl rfl (L.a rfl (L.a rfl (L.nil (T.seq (T.q (L.m rfl (L.o (O.neq_f rfl rfl rfl (L.nil (T.cf (T.skip (T.seq (T.q (L.m rfl (L.m rfl (L.o (O.call (xs:=[.tmp 19,.tmp 20]) call53 rfl rfl (fits_calls 0 p xs (landsN r.us) w3 (hp.ext he03)) (fun v4 w4 hq=>?_))))))))))))))))))))))
  obtain ⟨hv4,rfl⟩:=hq
  have hle:=landsN_le r.us
  have h64:=(roll_bnd herr).2.2.2.2.2.2.2
  cases hfit:fitsB xs (landsN r.us)
  ·rw [hfit] at hv4
   subst hv4
   refine L.o (O.not rfl (L.nil (T.ct (T.q (L.a rfl (L.a rfl (L.nil (T.ret2 results12 rfl rfl ⟨by rw [asnRes_ok hok,if_neg (by rw [hfit];simp)];rfl,he03⟩))))))))
  ·rw [hfit] at hv4
   subst hv4
   obtain ⟨hlen,hxs⟩:=fits_in hfit
   refine L.o (O.not rfl (L.nil (T.cf (T.skip (T.q (L.o (O.buildSlice (el:=9) (parts:=[(0,_)]) (vs:=[(0,_)]) (cs:=([hdrL].map str)) rfl (fun w=>by kernel_rfl) (fun b5 w5 hb5 hz5 he5 hB5=>?_))))))))
   have hO5:OwnSt w4.heap.size (linesA (nmA r.us) xs 0) (.slice (some ⟨b5,0,none⟩) 1 1) w5:=owns_blk (n:=1) (cap:=1) (sz:=1) hB5 (by omega) (Nat.le_refl _) (by decide) rfl
   have he05:=he03.trans he5
   refine L.a rfl (L.nil (T.seq (T.q (L.m rfl (L.o (O.len runUnderlying31 rfl (Sl.val hp) (L.m rfl (L.nil (T.block (?_))))))))))
   refine T.loop (σ:=Nat × Value) (fun g=>[(1,p),(2,.pointer (some ⟨b2,0,none⟩)),(8,g.2),(24,p),(25,.int .i64 xs.length),(26,.int .i64 g.1)]) (fun g W=>g.1≤xs.length∧Ext w W∧Ext w4 W∧OwnSt w4.heap.size (linesA (nmA r.us) xs g.1) g.2 W) (fun g=>xs.length-g.1) ((0,.slice (some ⟨b5,0,none⟩) 1 1)) ⟨rfl,rfl,rfl,rfl,rfl,rfl,trivial⟩ ⟨Nat.zero_le _,he05,he5,hO5⟩ ?_
   rintro ⟨i,lv⟩ w6 ⟨hi,he6,he46,hO6⟩
   simp only at hi hO6
   refine T.q (L.o (O.lss_s rfl rfl (fun hlt=>?_) (fun hlt=>?_)))
   ·refine L.nil (?_)
    have hlt':i<xs.length:=by simp only at hlt;omega
    have hir:i<r.us.length:=by omega
    have hC6:Blk w6 b2 r.cells _:=Blk.ext (cs:=r.cells) hC2 (he3.trans he46)
    have hxi:=hxs i hlt'
    have hU6:Units lo w6 r.uv r.us:=hr.ext he6
    have hnl:=(nm_good hok hir).2.1
    have hll:=lineA_len (xs:=xs) hok hir hxi
    have hit:=Lib.itoa_length_le (xs.getD i 0+1) (by omega) (by omega)
    refine T.seq (T.ct (T.skip (T.seq (T.block (T.q (L.m rfl (L.o (O.indexAddr runUnderlying31 sizeOf3 rfl rfl (hp.ext he6) (by omega) (by omega) (L.o (O.load isAgg3 rfl (Ints.at (hp.ext he6) hlt') (L.a rfl (L.a rfl (L.nil (?_))))))))))))))
    refine T.anyE mixed 13 [8,2,9,10] rfl [.is _,.is _,.is _,.is _,.is _,.is _,.is _,.is _,.is _,.is _,.is (str (Lib.itoa (xs.getD i 0+1))),.is _,.such (StrsP [lineA (nmA r.us) xs i])] [[],[],[1],[],[2,3],[4],[5],[6],[],[8],[9],[7,10],[11]] [[],[],[1],[],[1,2,3],[1,2,3,4],[1,2,3,4,5],[1,2,3,4,5,6],[],[8],[8,9],[1,2,3,4,5,6,7,8,9,10],[1,2,3,4,5,6,7,8,9,10,11],[0,1,2,3,4,5,6,7,8,9,10,11,12],[0,1,2,3,4,5,6,7,8,9,10,11,12,13]] (by kernel_rfl) (by kernel_rfl) rfl (by kernel_rfl) ⟨StrsP.st,trivial⟩ ⟨fun wx hx=>Ob.o (O.move rfl kR),
      fun wx hx=>Ob.o (O.fieldAddr runUnderlying25 rfl sizeOf23 rfl kR),
      fun wx hx=>Ob.o (O.load isAgg23 rfl ((Blk.ext (cs:=r.cells) hC6 hx).cell rfl) kR),
      fun wx hx=>Ob.o (O.move rfl kR),
      fun wx hx=>Ob.o (O.indexAddr runUnderlying23 sizeOf51 rfl rfl ((hU6.ext hx).sl) (by omega) (by omega) kR),
      fun wx hx=>Ob.o (O.fieldAddr runUnderlying51 rfl sizeOf9 rfl kR),
      fun wx hx=>Ob.o (O.load isAgg9 rfl ((hU6.ext hx).name hir) kR),
      fun wx hx=>Ob.o (O.add_str rfl rfl (by show (r.us.getD i u0).nm.length+1≤_;unfold nmA at hnl;omega) kR),
      fun wx hx=>Ob.o (O.move rfl kR),
      fun wx hx=>Ob.o (O.add64 rfl rfl (by have:=hxi;show -9223372036854775808≤xs.getD i 0+1∧xs.getD i 0+1≤9223372036854775807;omega) kR),
      fun wx hx=>Ob.o (O.call (xs:=[.tmp 40]) call54 rfl rfl (itoa_calls (xs.getD i 0+1) wx (hL.ext (he6.trans hx)) (by omega) (by omega)) (fun v wy h=>⟨h.2,h.1⟩)),
      fun wx hx=>Ob.o (O.add_str rfl rfl (by rw [List.length_append];show (r.us.getD i u0).nm.length+1+_≤_;unfold nmA at hnl;omega) kR),
      fun wx hx=>Ob.o (O.buildSlice (el:=9) (parts:=[(0,.tmp 42)]) (vs:=[(0,_)]) (cs:=([lineA (nmA r.us) xs i].map str)) rfl (fun w=>by kernel_rfl) (fun b43 w43 hb43 hz43 he43 hB43=>⟨he43,Strs.of_blk hB43 rfl (by decide) (Nat.zero_le _)⟩)),
      trivial⟩ (fun w10 he10 v43 hv43=>?_)
    refine L.o (O.append (size:=1) (bytes:=16) runUnderlying61 Tryz.infoOf9 rfl rfl rfl rfl (by decide) rfl rfl (owns_keep hO6 (he10.mono (Nat.zero_le _)) (Nat.le_refl _)) hv43 (strs_one _) (by simp only [linesA_len,List.length_cons,List.length_nil];omega) (by simp only [linesA_len,maxLen,List.length_cons,List.length_nil];omega) (by have:=he46.size;have:=he10.size;omega) (fun v7 w7 hO7 hG7=>?_))
    have he47:Ext w4 w7:=Keep.grown0 (he46.trans he10) (owns_keep hO6 (he10.mono (Nat.zero_le _)) (Nat.le_refl _)) hG7 (Nat.le_refl _)
    refine L.a rfl (L.nil (T.blk (T.region (L.o (O.add64 rfl rfl (by omega) (L.m rfl (L.nil (T.again ((i+1,v7)) (by omega) ⟨rfl,rfl,rfl,rfl,rfl,rfl,trivial⟩ ⟨hlt',he03.trans he47,he47,by rw [linesA_succ];exact ownSt_app (ys:=[lineA (nmA r.us) xs i]) hO7⟩))))))))
   ·refine L.nil (?_)
    obtain rfl:i=xs.length:=by simp only at hlt;omega
    refine T.seq (T.cf (T.exit rfl (T.q (L.m rfl (L.o (O.call (xs:=[.tmp 46]) call55 rfl rfl (joined_calls 0 lv (linesA (nmA r.us) xs xs.length) w6 ((Sl.of_owns hO6).mono (Nat.zero_le _)) (Nat.le_trans (linesA_le hok (by omega) (by omega) hxs) (by omega))) (fun v8 w8 hq=>?_)))))))
    obtain ⟨rfl,he8⟩:=hq
    refine L.a rfl (L.a rfl (L.nil (T.ret2 results12 rfl rfl ⟨by rw [asnRes_ok hok,if_pos hfit],he6.trans he8⟩)))
 ·rw [herr]
  refine L.m rfl (L.o (O.extract rfl rfl (L.o (O.extract rfl rfl (L.a rfl (L.a rfl (L.nil (T.seq (T.q (L.m rfl (L.o (O.neq_t rfl rfl (by omega) (L.nil (T.ct (T.q (L.m rfl (L.a rfl (L.a rfl (L.nil (T.ret2 results12 rfl rfl ⟨by rw [asnRes_bad hok];rfl,he03⟩))))))))))))))))))))

open Go Go.E RowKit

noncomputable def overRes (r:RoV) (xs:List Int) (t:Str):List Int × Nat × Int :=
 @ite _ (RollOk r) (Classical.propDecidable _) (if fitsB xs (landsN r.us)=true then asgRes (nmA r.us) xs t else ([],0,2)) ([],0,161)
theorem overRes_bad {r:RoV} {xs:List Int} {t:Str} (h:¬ RollOk r):overRes r xs t=([],0,161):=by unfold overRes;exact if_neg h
theorem overRes_ok {r:RoV} {xs:List Int} {t:Str} (h:RollOk r):overRes r xs t=if fitsB xs (landsN r.us)=true then asgRes (nmA r.us) xs t else ([],0,2):=by unfold overRes;exact if_pos h
def readOk (nm:Nat→Str) (n:Nat) (t:Str):List Int × Nat × Int :=
 let a:=asgRes nm (List.replicate n (-1)) t
 if a.2.2≠0 then ([],a.2.1,a.2.2) else if (-1:Int)∈a.1 then ([],0,4) else (a.1,0,0)
noncomputable def readRes (r:RoV) (t:Str):List Int × Nat × Int :=
 @ite _ (RollOk r) (Classical.propDecidable _) (readOk (nmA r.us) (landsN r.us) t) ([],0,161)
theorem readRes_bad {r:RoV} {t:Str} (h:¬ RollOk r):readRes r t=([],0,161):=by unfold readRes;exact if_neg h
theorem readRes_ok {r:RoV} {t:Str} (h:RollOk r):readRes r t=readOk (nmA r.us) (landsN r.us) t:=by unfold readRes;exact if_pos h
theorem lands_pos {r:RoV} (h:RollOk r):0<landsN r.us∧landsN r.us≤r.us.length∧r.us.length≤64:=by
 have hb:=roll_bnd (rollErr_ok h)
 have hpos:0<r.us.length:=by omega
 have h0:=(h.good 0 hpos).first rfl
 refine ⟨?_,landsN_le _,by omega⟩
 cases hus:r.us with
 | nil=>rw [hus] at hpos;simp at hpos
 | cons u us =>
  rw [hus] at h0
  have h0':u.wt=false:=h0
  simp [landsN,h0']
theorem Overlay_calls (lo:Nat) (r:RoV) (p:Value) (xs:List Int) (t:Str) (w:World) (hr:r.ok lo w) (hp:Ints .i64 0 w p xs) (hL:LibM w) (ht:t.length≤1000000) :
  Calls Tryz.prog 14 #[r.val,p,str t] w (Ret fun v w'=>∃ pv,v = .tuple #[pv,.int .i64 ((overRes r xs t).2.1:Int),.int .i64 (overRes r xs t).2.2]∧Ints .i64 0 w' pv (overRes r xs t).1∧Ext w w'):=by
 refine T.enter (vs:=[r.val,p,str t]) func14 rfl ntmps14 rfl ?_
 refine T.q (L.o (O.box rfl (fun b2 w2 hb2 hz2 he2 hB2=>?_)))
 have hC2:Blk w2 b2 r.cells _:=hB2
 refine L.a rfl (L.a rfl (L.a rfl (L.nil (T.q (L.o (O.loadAgg isAgg25 sizeOf25 rfl rfl hC2.row (L.o (O.call (xs:=[.tmp 11]) call52 rfl rfl (Land_calls lo r w2 (hr.ext he2)) (fun v3 w3 hq=>?_)))))))))
 obtain ⟨rfl,he3⟩:=hq
 have he03:=he2.trans he3
 rcases err_cases r with ⟨herr,hok,hln⟩|⟨herr,hok⟩
 ·rw [herr,hln]
  refine L.m rfl (L.o (O.extract rfl rfl (L.o (O.extract rfl rfl (L.a rfl (L.a rfl (L.nil (T.seq (T.q (L.m rfl (L.o (O.neq_f rfl rfl rfl (L.nil (T.cf (T.skip (T.seq (T.q (L.m rfl (L.m rfl (L.o (O.call (xs:=[.tmp 18,.tmp 19]) call53 rfl rfl (fits_calls 0 p xs (landsN r.us) w3 (hp.ext he03)) (fun v4 w4 hq=>?_))))))))))))))))))))))
  obtain ⟨hv4,rfl⟩:=hq
  have hpos:=lands_pos hok
  cases hfit:fitsB xs (landsN r.us)
  ·rw [hfit] at hv4
   subst hv4
   have hr1:overRes r xs t=([],0,2):=by rw [overRes_ok hok,if_neg (by rw [hfit];simp)]
   refine L.o (O.not rfl (L.nil (T.ct (T.q (L.a rfl (L.a rfl (L.a rfl (L.nil (T.ret3 results14 rfl rfl rfl ⟨.slice none 0 0,by rw [hr1];rfl,by rw [hr1];exact Sl.nil _ _ _,he03⟩)))))))))
  ·rw [hfit] at hv4
   subst hv4
   obtain ⟨hlen,hxs⟩:=fits_in hfit
   refine L.o (O.not rfl (L.nil (T.cf (T.skip (T.q (L.o (O.loadAgg isAgg25 sizeOf25 rfl rfl ((Blk.ext (cs:=r.cells) hC2 he3).row) (L.m rfl (L.m rfl (L.o (O.call (xs:=[.tmp 22,.tmp 23,.tmp 24]) call56 rfl rfl (assigned_calls lo r p xs t w4 (hr.ext he03) (hp.ext he03) (hL.ext he03) hok (by omega) (by omega) hpos.2.2 ht) (fun v5 w5 hq=>?_))))))))))))
   obtain ⟨pv,rfl,hpv,he5⟩:=hq
   have hr1:overRes r xs t=asgRes (nmA r.us) xs t:=by rw [overRes_ok hok,if_pos hfit]
   refine L.o (O.extract rfl rfl (L.o (O.extract rfl rfl (L.o (O.extract rfl rfl (L.a rfl (L.a rfl (L.a rfl (L.nil (T.ret3 results14 rfl rfl rfl ⟨pv,by rw [hr1];rfl,by rw [hr1];exact hpv,he03.trans he5⟩))))))))))
 ·rw [herr]
  refine L.m rfl (L.o (O.extract rfl rfl (L.o (O.extract rfl rfl (L.a rfl (L.a rfl (L.nil (T.seq (T.q (L.m rfl (L.o (O.neq_t rfl rfl (by omega) (?_)))))))))))))
  have hr1:overRes r xs t=([],0,161):=overRes_bad hok
  refine L.nil (T.ct (T.q (L.m rfl (L.a rfl (L.a rfl (L.a rfl (L.nil (T.ret3 results14 rfl rfl rfl ⟨.slice none 0 0,by rw [hr1];rfl,by rw [hr1];exact Sl.nil _ _ _,he03⟩))))))))

def PlanP (n:Nat) (base:Nat) (v:Value) (w:World):Prop:=∃ b,v = .slice (some ⟨b,0,none⟩) n n∧base≤b∧Blk w b (List.replicate n (.int .i64 (-1))) 3
theorem PlanP.st {n base:Nat} : ∀ v w w',Ext w w'→PlanP n base v w→PlanP n base v w':=fun _ _ _ he ⟨b,h1,h2,h3⟩=>⟨b,h1,h2,Blk.ext h3 he⟩
theorem PlanP.ints {n base:Nat} {v:Value} {w:World} (h:PlanP n base v w) (hn:n≤1000):Ints .i64 0 w v (List.replicate n (-1)):=by
 obtain ⟨b,rfl,_,hB⟩:=h
 have:=Sl.of_blk (n:=n) (cap:=n) (sz:=1) (lo:=0) hB (by simp) (Nat.le_refl _) (by simp only [maxLen];omega) (Nat.zero_le _)
 have e:List.replicate n (Value.int .i64 (-1))=(List.replicate n (-1:Int)).map (Value.int .i64):=by simp
 rw [e] at this
 unfold Ints
 rw [List.length_replicate]
 exact this
/-- A one-element slice. -/
def OneP (v:Value) (w:World):Prop:=∃ b,v = .slice (some ⟨b,0,none⟩) 1 1∧Blk w b [.int .i64 (-1)] 3
theorem OneP.st:∀ v w w',Ext w w'→OneP v w→OneP v w':=fun _ _ _ he ⟨b,h1,h2⟩=>⟨b,h1,Blk.ext (cs:=[.int .i64 (-1)]) h2 he⟩
def IntsP (xs:List Int) (v:Value) (w:World):Prop:=Ints .i64 0 w v xs
theorem IntsP.st {xs:List Int} : ∀ v w w',Ext w w'→IntsP xs v w→IntsP xs v w':=fun _ _ _ he h=>Sl.ext h he
/-- What assigned gives. -/
def AsgP (nm:Nat→Str) (xs:List Int) (t:Str) (v:Value) (w:World):Prop:=∃ pv,v = .tuple #[pv,.int .i64 ((asgRes nm xs t).2.1:Int),.int .i64 (asgRes nm xs t).2.2]∧Ints .i64 0 w pv (asgRes nm xs t).1
theorem AsgP.st {nm:Nat→Str} {xs:List Int} {t:Str} : ∀ v w w',Ext w w'→AsgP nm xs t v w→AsgP nm xs t v w':=fun _ _ _ he ⟨pv,h1,h2⟩=>⟨pv,h1,h2.ext he⟩
set_option maxHeartbeats 1000000 in
theorem Read_calls (lo:Nat) (r:RoV) (t:Str) (w:World) (hr:r.ok lo w) (hL:LibM w) (ht:t.length≤1000000) :
  Calls Tryz.prog 13 #[r.val,str t] w (Ret fun v w'=>∃ pv,v = .tuple #[pv,.int .i64 ((readRes r t).2.1:Int),.int .i64 (readRes r t).2.2]∧Ints .i64 0 w' pv (readRes r t).1∧Ext w w'):=by
 refine T.enter (vs:=[r.val,str t]) func13 rfl ntmps13 rfl ?_
 refine T.q (L.o (O.box rfl (fun b2 w2 hb2 hz2 he2 hB2=>?_)))
 have hC2:Blk w2 b2 r.cells _:=hB2
 refine L.a rfl (L.a rfl (L.a rfl (L.nil (T.q (L.o (O.loadAgg isAgg25 sizeOf25 rfl rfl hC2.row (L.o (O.call (xs:=[.tmp 9]) call52 rfl rfl (Land_calls lo r w2 (hr.ext he2)) (fun v3 w3 hq=>?_)))))))))
 obtain ⟨rfl,he3⟩:=hq
 have he03:=he2.trans he3
 rcases err_cases r with ⟨herr,hok,hln⟩|⟨herr,hok⟩
 ·rw [herr,hln]
  have hpos:=lands_pos hok
  refine L.m rfl (L.o (O.extract rfl rfl (L.o (O.extract rfl rfl (L.a rfl (L.a rfl (L.nil (T.seq (T.q (L.m rfl (L.o (O.neq_f rfl rfl rfl (L.nil (T.cf (T.skip (T.seq (?_)))))))))))))))))
  refine T.anyE mixed 12 [2,7,1] rfl [.is _,.such OneP,.is _,.such (PlanP (landsN r.us) 0),.is _,.such (AsgP (nmA r.us) (List.replicate (landsN r.us) (-1)) t),.such (AsgP (nmA r.us) (List.replicate (landsN r.us) (-1)) t),.such (IntsP (asgRes (nmA r.us) (List.replicate (landsN r.us) (-1)) t).1),.is (.int .i64 ((asgRes (nmA r.us) (List.replicate (landsN r.us) (-1)) t).2.1:Int)),.is (.int .i64 (asgRes (nmA r.us) (List.replicate (landsN r.us) (-1)) t).2.2),.such (IntsP (asgRes (nmA r.us) (List.replicate (landsN r.us) (-1)) t).1),.is _] [[],[],[],[1,2],[],[0,3,4],[5],[6],[6],[6],[7],[8]] [[],[],[],[1,2],[],[0,1,2,3,4],[0,1,2,3,4,5],[0,1,2,3,4,5,6],[0,1,2,3,4,5,6],[0,1,2,3,4,5,6],[0,1,2,3,4,5,6,7],[0,1,2,3,4,5,6,7,8,10],[0,1,2,3,4,5,6,7,8,9,10,11]] (by kernel_rfl) (by kernel_rfl) rfl (by kernel_rfl) ⟨OneP.st,PlanP.st,AsgP.st,AsgP.st,IntsP.st,IntsP.st,trivial⟩ ⟨fun wx hx=>Ob.o (O.loadAgg isAgg25 sizeOf25 rfl rfl ((Blk.ext (cs:=r.cells) hC2 (he3.trans hx)).row) kR),
    fun wx hx=>Ob.o (O.buildSlice (el:=3) (parts:=[(0,.const (.int .i64 (-1)))]) (vs:=[(0,_)]) (cs:=[.int .i64 (-1)]) rfl (fun w=>by kernel_rfl) (fun b18 w18 hb18 hz18 he18 hB18=>⟨he18,b18,rfl,hB18⟩)),
    fun wx hx=>Ob.o (O.move rfl kR),
    fun wx hx v18 hv18=>by { obtain ⟨b0,rfl,hb0⟩:=hv18;exact Ob.o (O.call (xs:=[.tmp 18,.tmp 19]) call57 rfl rfl (repeatPlan_calls b0 (landsN r.us) wx hb0 (by omega) (by omega)) (fun v wy h=>⟨by obtain ⟨b,h1,h2,h3,h4⟩:=h;exact h4,by obtain ⟨b,h1,h2,h3,h4⟩:=h;exact ⟨b,h1,Nat.zero_le _,h3⟩⟩)) },
    fun wx hx=>Ob.o (O.move rfl kR),
    fun wx hx v20 hv20=>Ob.o (O.call (xs:=[.tmp 17,.tmp 20,.tmp 21]) call56 rfl rfl (assigned_calls lo r v20 (List.replicate (landsN r.us) (-1)) t wx (hr.ext (he03.trans hx)) (hv20.ints (by omega)) (hL.ext (he03.trans hx)) hok (by rw [List.length_replicate];omega) (by rw [List.length_replicate];omega) hpos.2.2 ht) (fun v wy h=>⟨by obtain ⟨b,h1,h2,h3⟩:=h;exact h3,by obtain ⟨b,h1,h2,h3⟩:=h;exact ⟨b,h1,h2⟩⟩)),
    fun wx hx v22 hv22=>Ob.o (O.move rfl ⟨Keep.refl _ _,hv22⟩),
    fun wx hx v16 hv16=>by { obtain ⟨pv,rfl,hpv⟩:=hv16;exact Ob.o (O.extract rfl rfl ⟨Keep.refl _ _,hpv⟩) },
    fun wx hx v16 hv16=>by { obtain ⟨pv,rfl,hpv⟩:=hv16;exact Ob.o (O.extract rfl rfl kR) },
    fun wx hx v16 hv16=>by { obtain ⟨pv,rfl,hpv⟩:=hv16;exact Ob.o (O.extract rfl rfl kR) },
    fun wx hx v23 hv23=>Ob.o (O.assign rfl ⟨Keep.refl _ _,hv23⟩),
    fun wx hx=>Ob.o (O.assign rfl kR),
    trivial⟩ (fun w4 he4 v18 hv18 v20 hv20 v22 hv22 v16 hv16 v23 hv23 v4 hv4=>?_)
  have he4':=he03.trans he4
  refine L.a rfl (L.nil (T.seq (T.q (L.m rfl (L.o (O.neq_s rfl rfl (fun herr2=>?_) (fun herr2=>?_)))))))
  ·refine L.nil (?_)
   have hr1:readRes r t=([],(asgRes (nmA r.us) (List.replicate (landsN r.us) (-1)) t).2.1,(asgRes (nmA r.us) (List.replicate (landsN r.us) (-1)) t).2.2):=by rw [readRes_ok hok,readOk];exact if_pos herr2
   refine T.ct (T.q (L.m rfl (L.m rfl (L.a rfl (L.a rfl (L.a rfl (L.nil (T.ret3 results13 rfl rfl rfl ⟨.slice none 0 0,by rw [hr1],by rw [hr1];exact Sl.nil _ _ _,he4'⟩))))))))
  ·refine L.nil (T.cf (T.skip (T.seq (T.q (L.m rfl (L.o (O.call (xs:=[.tmp 30,.const (.int .i64 (-1))]) call58 rfl rfl (cntPlan_calls 0 v4 _ w4 hv4) (fun v5 w5 hq=>?_))))))))
   obtain ⟨hv5,rfl⟩:=hq
   cases hm:decide ((-1:Int)∈(asgRes (nmA r.us) (List.replicate (landsN r.us) (-1)) t).1)
   ·refine L.nil (?_)
    rw [hm] at hv5
    subst hv5
    have hr1:readRes r t=((asgRes (nmA r.us) (List.replicate (landsN r.us) (-1)) t).1,0,0):=by rw [readRes_ok hok,readOk];exact (if_neg (fun h=>h herr2)).trans (if_neg (of_decide_eq_false hm))
    refine T.cf (T.skip (T.q (L.m rfl (L.a rfl (L.a rfl (L.a rfl (L.nil (T.ret3 results13 rfl rfl rfl ⟨v4,by rw [hr1];rfl,by rw [hr1];exact hv4,he4'⟩))))))))
   ·refine L.nil (?_)
    rw [hm] at hv5
    subst hv5
    have hr1:readRes r t=([],0,4):=by rw [readRes_ok hok,readOk];exact (if_neg (fun h=>h herr2)).trans (if_pos (of_decide_eq_true hm))
    refine T.ct (T.q (L.a rfl (L.a rfl (L.a rfl (L.nil (T.ret3 results13 rfl rfl rfl ⟨.slice none 0 0,by rw [hr1];rfl,by rw [hr1];exact Sl.nil _ _ _,he4'⟩))))))
 ·rw [herr]
  refine L.m rfl (L.o (O.extract rfl rfl (L.o (O.extract rfl rfl (L.a rfl (L.a rfl (L.nil (T.seq (T.q (L.m rfl (L.o (O.neq_t rfl rfl (by omega) (?_)))))))))))))
  have hr1:readRes r t=([],0,161):=readRes_bad hok
  refine L.nil (T.ct (T.q (L.m rfl (L.a rfl (L.a rfl (L.a rfl (L.nil (T.ret3 results13 rfl rfl rfl ⟨.slice none 0 0,by rw [hr1];rfl,by rw [hr1];exact Sl.nil _ _ _,he03⟩))))))))

open Go Go.E RowKit

theorem dec_small {n:Nat} (h:n<10):Lib.decDigits n = [UInt8.ofNat (48+n)]:=by rw [Lib.decDigits,dif_pos h]
section
variable {C:Cx} {e:Env} {w:World} {K:Value→World→Prop} {d:Option Tmp} {ty tx ty':TypeId} {pos:String} {aft:Array Edge} {g:Option (Nat × Bool)} {x y:Operand}
end
open Go Go.E RowKit

theorem itoa_one {d:Nat} (h:d<8):Lib.itoa ((d:Int)+1) = [UInt8.ofNat (49+d)]:=by
 rw [show (d:Int)+1=((d+1:Nat):Int) by omega,Lib.itoa_nonneg,dec_small (by omega),show 48+(d+1)=49+d by omega]
open Go Go.E RowKit

theorem wordsL_eq {d c:UInt8} {r:Str} (h:c=d):wordsL d (c::r) = []::wordsL d r:=by
 subst h;exact wordsL_pre (w:=[]) (by simp)
theorem bodyL_suf {t:Str} (u:Str) (h:t=u ++ [10]):bodyL t=u:=by
 subst h
 have hs:Lib.hasSuffix (u ++ [10]) [10]=true:=by rw [Lib.hasSuffix];exact List.isSuffixOf_iff_suffix.2 ⟨u,rfl⟩
 rw [bodyL,if_pos hs,Lib.trimSuffix,if_pos hs]
 simp
open Go Go.E RowKit

theorem growI_calls (n:Nat) (w:World) (h0:0<n) (hn:n≤1000000) :
  Calls Tryz.prog 157 #[.slice none 0 0,.int .i64 n] w (Ret fun v w'=>Ext w w'∧w'.ownsRow w.heap.size 3 1 v 0 []):=by
 refine T.enter (vs:=[.slice none 0 0,.int .i64 n]) func157 rfl ntmps157 rfl ?_
 refine T.q (L.a rfl (L.nil (T.seq (T.q (L.m rfl (L.o (O.lss_f rfl rfl (by omega) (L.nil (T.cf (T.skip (T.seq (T.q (L.m rfl (L.m rfl (L.o (O.capB runUnderlying30 rfl (L.m rfl (L.o (O.len runUnderlying30 rfl (Sl.val (Sl_nil 0 w 1)) (L.o (O.sub64 rfl rfl (by omega) (L.o (O.sub64 rfl rfl (by omega) (L.a rfl (L.nil (?_))))))))))))))))))))))))))
 refine T.q (L.m rfl (L.o (O.gtr_t rfl rfl (by omega) (L.nil (T.ct (T.region (L.m rfl (L.m rfl (L.o (O.capB runUnderlying30 rfl (L.o (O.slice_to (m:=0) runUnderlying30 sizeOf3 rfl rfl (by decide) (by decide) (L.m rfl (L.o (O.appendNilZeros (n:=n) (size:=1) (bytes:=8) runUnderlying30 runUnderlying3 Tryz.infoOf3 rfl rfl rfl rfl (by decide) rfl (by show some (Value.int .i64 _)=some (Value.int .i64 _);congr 2) h0 hn (by omega) (fun cap w1 cur he1 hc1 hc2 hB1 hl1=>?_))))))))))))))))
 refine L.m rfl (L.o (O.len runUnderlying30 rfl (Sl.val (Sl_nil 0 w1 1)) (L.o (O.slice_to (m:=0) runUnderlying30 sizeOf3 rfl rfl (by decide) (by omega) (L.a rfl (L.nil (T.q (L.m rfl (L.a rfl (L.nil (T.ret1 results157 rfl ⟨he1,rfl,.inr ⟨_,cap,cur.toArray,rfl,Nat.le_refl _,hB1,Nat.zero_le _,hc2,by simpa using hl1,by simp⟩⟩)))))))))))

theorem concatI_calls (lo lo2:Nat) (p:Value) (vs:List Value) (css:List (List Value)) (w:World) (hp:Sl lo w p vs.length 1 vs) (hv:LoL lo2 w vs css) (h0:0<css.flatten.length) (hn:css.flatten.length≤1000000) (h1:∀ c∈css.flatten,c.oneCell'=true) :
  Calls Tryz.prog 117 #[p] w (Ret fun v w'=>Ext w w'∧Sl w.heap.size w' v css.flatten.length 1 css.flatten):=by
 have hle:=Sl.le hp
 have hvl:=hv.1
 refine T.enter (vs:=[p]) func117 rfl ntmps117 rfl ?_
 refine T.q (L.a rfl (L.nil (T.q (L.a rfl (L.nil (T.seq (T.q (L.m rfl (L.o (O.len runUnderlying125 rfl (Sl.val hp) (L.m rfl (L.nil (T.block (?_))))))))))))))
 refine T.loop (σ:=Nat) (fun i=>[(0,p),(3,.int .i64 (fl css i).length),(9,p),(10,.int .i64 vs.length),(11,.int .i64 i)]) (fun i w'=>i≤vs.length∧w'=w) (fun i=>vs.length-i) (0) ⟨rfl,rfl,rfl,rfl,rfl,trivial⟩ ⟨Nat.zero_le _,rfl⟩ ?_
 rintro i w1 ⟨hi,rfl⟩
 refine T.q (L.o (O.lss_s rfl rfl (fun hlt=>?_) (fun hlt=>?_)))
 ·refine L.nil (?_)
  have hlt':i<css.length:=by omega
  have hs:=hv.2 i hlt'
  have hfl:=fl_le css (i+1)
  have hfs:=congrArg List.length (fl_succ css i hlt')
  rw [List.length_append] at hfs
  refine T.seq (T.ct (T.skip (T.seq (T.block (T.q (L.o (O.indexAddr runUnderlying125 sizeOf30 rfl rfl hp (by omega) (by omega) (L.o (O.load isAgg30 rfl (by rw [Int.toNat_natCast,Nat.mul_one];exact Sl.cell hp (show vs[i]?=some (vs.getD i undef) by rw [getD_get (by omega)];simp [hvl,hlt'])) (L.a rfl (L.nil (T.q (L.m rfl (L.m rfl (L.o (O.len runUnderlying30 rfl (Sl.val hs) (L.o (O.add64 rfl rfl (by omega) (L.a rfl (L.nil (T.q (L.m rfl (L.o (O.lss_f rfl rfl (by omega) (L.nil (?_))))))))))))))))))))))))))
  refine T.cf (T.skip (T.blk (T.region (L.o (O.add64 rfl rfl (by omega) (L.m rfl (L.nil (T.again (i+1) (by omega) ⟨rfl,?_,rfl,rfl,rfl,trivial⟩ ⟨by omega,rfl⟩))))))))
  ·rw [hfs];rfl
 ·refine L.nil (?_)
  obtain rfl:i=vs.length:=by omega
  have hfe:fl css vs.length=css.flatten:=by rw [hvl,fl,List.take_length]
  rw [hfe]
  refine T.seq (T.cf (T.exit rfl (T.q (L.m rfl (L.o (O.call (xs:=[.const (.slice none 0 0),.tmp 23]) call157 rfl rfl (growI_calls css.flatten.length w1 h0 hn) (fun v2 w2 hq=>?_)))))))
  obtain ⟨he2,hO2⟩:=hq
  refine L.a rfl (L.nil (T.seq (T.q (L.m rfl (L.o (O.len runUnderlying125 rfl (Sl.val (Sl.ext hp he2)) (L.m rfl (L.nil (T.block (?_))))))))))
  refine T.loop (σ:=Nat × Value) (fun s=>[(6,s.2),(25,p),(26,.int .i64 vs.length),(27,.int .i64 s.1)]) (fun s w'=>s.1≤vs.length∧Ext w1 w'∧w'.ownsRow w1.heap.size 3 1 s.2 (fl css s.1).length (fl css s.1)) (fun s=>vs.length-s.1) ((0,v2)) ⟨rfl,rfl,rfl,rfl,trivial⟩ ⟨Nat.zero_le _,he2,hO2⟩ ?_
  rintro ⟨k,s⟩ w3 ⟨hk,he3,hO3⟩
  simp only at hk hO3
  refine T.q (L.o (O.lss_s rfl rfl (fun hlt2=>?_) (fun hlt2=>?_)))
  ·refine L.nil (?_)
   have hlt':k<css.length:=by simp only at hlt2;omega
   have hs:=(hv.ext he3).2 k hlt'
   have hp3:Sl lo w3 p vs.length 1 vs:=Sl.ext hp he3
   have hfl:=fl_le css (k+1)
   have hfs:=congrArg List.length (fl_succ css k hlt')
   rw [List.length_append] at hfs
   refine T.seq (T.ct (T.skip (T.seq (T.block (T.q (L.o (O.indexAddr runUnderlying125 sizeOf30 rfl rfl hp3 (by omega) (by omega) (L.o (O.load isAgg30 rfl (by rw [Int.toNat_natCast,Nat.mul_one];exact Sl.cell hp3 (show vs[k]?=some (vs.getD k undef) by rw [getD_get (by omega)];simp [hvl,hlt'])) (L.a rfl (L.nil (T.region (L.m rfl (L.m rfl (L.o (O.append (size:=1) (bytes:=8) runUnderlying30 Tryz.infoOf3 rfl rfl rfl rfl (by decide) rfl rfl hO3 hs (fun c hc=>h1 c (by rw [← List.take_append_drop k css,List.flatten_append];exact List.mem_append_right _ (List.mem_flatten.2 ⟨_,by rw [getD_get hlt'];exact List.mem_drop_iff_getElem.2 ⟨0,by omega,rfl⟩,hc⟩))) (by omega) (by simp only [maxLen];omega) he3.size (fun v4 w4 hO4 hG4=>?_)))))))))))))))))
   have he34:Ext w1 w4:=Keep.grown0 he3 hO3 hG4 (Nat.le_refl _)
   refine L.a rfl (L.nil (T.blk (T.region (L.o (O.add64 rfl rfl (by simp only;omega) (L.m rfl (L.nil (T.again ((k+1,v4)) (by omega) ⟨rfl,rfl,rfl,rfl,trivial⟩ ⟨by simp only;omega,he34,by rw [hfs,fl_succ css k hlt'];exact hO4⟩))))))))
  ·refine L.nil (?_)
   obtain rfl:k=vs.length:=by simp only at hlt2;omega
   rw [hfe] at hO3
   refine T.seq (T.cf (T.exit rfl (T.q (L.m rfl (L.a rfl (L.nil (T.ret1 results117 rfl ⟨he3,Sl.of_owns hO3⟩)))))))

/-- Numbers, one by one, behind a blank. -/
def spell (xs:List Int):Str:=xs.flatMap fun x=>32::Lib.itoa x
theorem spell_succ {xs:List Int} {i:Nat} (hi:i<xs.length):spell (xs.take (i+1))=spell (xs.take i)++(32::Lib.itoa (xs.getD i 0)):=by
 rw [List.take_succ_eq_append_getElem hi,spell,spell,List.flatMap_append,getD_get hi];simp
def I64s (xs:List Int):Prop:=∀ x∈xs,-9223372036854775808≤x∧x≤9223372036854775807
theorem I64s.at {xs:List Int} (h:I64s xs) {i:Nat} (hi:i<xs.length) : -9223372036854775808≤xs.getD i 0∧xs.getD i 0≤9223372036854775807:=by
 rw [getD_get hi];exact h _ (List.getElem_mem hi)
theorem spell_len:∀ (xs:List Int),I64s xs→(spell xs).length≤22*xs.length
 | [],_=>by simp [spell]
 | x::r,h=>by
  have h1:=spell_len r fun y hy=>h y (List.mem_cons_of_mem _ hy)
  have hx:=h x (by simp)
  have h2:=Lib.itoa_length_le x hx.1 hx.2
  have e:spell (x::r)=(32::Lib.itoa x)++spell r:=rfl
  rw [e,List.length_append,List.length_cons,List.length_cons]
  omega
theorem spelt_calls (h:Str) (lo lo2:Nat) (p:Value) (vs:List Value) (css:List (List Value)) (xs:List Int) (w:World) (hp:Sl lo w p vs.length 1 vs) (hv:LoL lo2 w vs css) (hx:css.flatten=xs.map (Value.int .i64)) (h0:0<xs.length) (hn:xs.length≤100000) (hi:I64s xs) (hL:LibM w) (hh:h.length≤100000) :
  Calls Tryz.prog 65 #[str h,p] w (Ret fun v w'=>v=str (h++spell xs)∧Ext w w'):=by
 have hfl:css.flatten.length=xs.length:=by rw [hx,List.length_map]
 refine T.enter (vs:=[str h,p]) func65 rfl ntmps65 rfl ?_
 refine T.q (L.a rfl (L.nil (T.seq (T.q (L.m rfl (L.o (O.call (xs:=[.tmp 7]) call117 rfl rfl (concatI_calls lo lo2 p vs css w hp hv (by omega) (by omega) (by rw [hx];intro c hc;obtain ⟨x,_,rfl⟩:=List.mem_map.1 hc;rfl)) (fun v1 w1 hq=>?_))))))))
 obtain ⟨he1,hS1⟩:=hq
 rw [hfl,hx] at hS1
 have hI1:Ints .i64 w.heap.size w1 v1 xs:=hS1
 refine L.o (O.len runUnderlying30 rfl (Sl.val hI1) (L.m rfl (L.nil (T.block (?_)))))
 refine T.loop (σ:=Nat) (fun i=>[(0,str (h++spell (xs.take i))),(8,v1),(9,.int .i64 xs.length),(10,.int .i64 i)]) (fun i W=>i≤xs.length∧Ext w1 W) (fun i=>xs.length-i) (0) ⟨?_,rfl,rfl,rfl,trivial⟩ ⟨Nat.zero_le _,Keep.refl _ _⟩ ?_
 ·exact congrArg (fun z=>some (str z)) (by simp [spell])
 rintro i w2 ⟨hi2,he2⟩
 refine T.q (L.o (O.lss_s rfl rfl (fun hlt=>?_) (fun hlt=>?_)))
 ·refine L.nil (?_)
  have hlt':i<xs.length:=by omega
  have hb:=hi.at hlt'
  have hsl:=spell_len (xs.take i) (fun x hx=>hi x (List.mem_of_mem_take hx))
  have hil:=Lib.itoa_length_le (xs.getD i 0) hb.1 hb.2
  rw [List.length_take,Nat.min_eq_left (by omega)] at hsl
  refine T.seq (T.ct (T.skip (T.seq (T.block (T.q (L.o (O.indexAddr runUnderlying30 sizeOf3 rfl rfl (hI1.ext he2) (by omega) (by omega) (L.o (O.load isAgg3 rfl (Ints.at (hI1.ext he2) hlt') (L.a rfl (L.nil (T.region (L.m rfl (L.m rfl (L.o (O.call (xs:=[.tmp 15]) call54 rfl rfl (itoa_calls (xs.getD i 0) w2 (hL.ext (he1.trans he2)) hb.1 hb.2) (fun v3 w3 hq=>?_)))))))))))))))))
  obtain ⟨rfl,he3⟩:=hq
  refine L.o (O.add_str rfl rfl (by show 1+_≤_;omega) (L.o (O.add_str rfl rfl (by rw [List.length_append,List.length_append];show h.length+_+(1+(Lib.itoa (xs.getD i 0)).length)≤_;omega) (L.a rfl (L.nil (T.blk (T.region (L.o (O.add64 rfl rfl (by omega) (L.m rfl (L.nil (T.again (i+1) (by omega) ⟨?_,rfl,rfl,rfl,trivial⟩ ⟨hlt',he2.trans he3⟩))))))))))))
  ·exact congrArg (fun z=>some (str z)) (by rw [spell_succ hlt'];simp [List.append_assoc])
 ·refine L.nil (?_)
  obtain rfl:i=xs.length:=by omega
  rw [List.take_length]
  refine T.seq (T.cf (T.exit rfl (T.q (L.m rfl (L.a rfl (L.nil (T.ret1 results65 rfl ⟨rfl,he1.trans he2⟩)))))))

open Go Go.E RowKit

def kLand:Str:=[108,97,110,100]
def kPoint:Str:=[112,111,105,110,116]
def kFace:Str:=[102,97,99,101]
def kHole:Str:=[104,111,108,101]
def kUnit:Str:=[117,110,105,116,32]
def kWater:Str:=[32,119,97,116,101,114]
def kEnd:Str:=[101,110,100]
def ptL (p:Pt):Str:=kPoint++spell [p.1,p.2]
def faceL (f:FaV):List Str:=(kFace++spell f.o.xs)::f.hs.map fun h=>kHole++spell h.xs
def numsU (u:UnV):List Int:=u.pp::u.gs++u.vs++u.ps
def unitL (u:UnV):Str:=kUnit++u.nm++spell (numsU u)++(if u.wt=true then kWater else [])
def lA (r:RoV):List Str:=[kLand++spell [r.G,r.P,r.L]]
def lB (c:CxV) (r:RoV) (i:Nat):List Str:=lA r++(c.ps.take i).map ptL
def lC (c:CxV) (r:RoV) (i:Nat):List Str:=lA r++c.ps.map ptL++(c.fs.take i).flatMap faceL
def lH (c:CxV) (r:RoV) (i:Nat) (f:FaV) (j:Nat):List Str:=lC c r i ++ [kFace++spell f.o.xs]++(f.hs.take j).map fun h=>kHole++spell h.xs
def lD (c:CxV) (r:RoV) (i:Nat):List Str:=lA r++c.ps.map ptL++c.fs.flatMap faceL++(r.us.take i).map unitL
def textL (c:CxV) (r:RoV):List Str:=lA r++c.ps.map ptL++c.fs.flatMap faceL++r.us.map unitL ++ [kEnd]
/-- Few and small enough to be written. -/
structure SmallL (c:CxV) (r:RoV):Prop where
 roll:I64s [r.G,r.P,r.L]
 pts:∀ p∈c.ps,I64s [p.1,p.2]
 rim:∀ f∈c.fs,I64s f.o.xs∧0<f.o.xs.length∧f.o.xs.length≤1000
 hole:∀ f∈c.fs,∀ h∈f.hs,I64s h.xs∧0<h.xs.length∧h.xs.length≤1000
 unit:∀ u∈r.us,I64s (numsU u)∧(numsU u).length≤1000∧u.nm.length≤1000
 len:(joinedL (textL c r)).length≤1000000
theorem joined_ge:∀ ls:List Str,ls.length≤(joinedL ls).length
 | []=>Nat.le_refl _
 | l::r=>by
  have:=joined_ge r
  have e:joinedL (l::r)=l ++ [10]++joinedL r:=by simp [joinedL]
  rw [e,List.length_append,List.length_append,List.length_cons]
  simp only [List.length_cons,List.length_nil]
  omega
theorem SmallL.lines {c:CxV} {r:RoV} (h:SmallL c r):(textL c r).length≤1000000:=Nat.le_trans (joined_ge _) h.len
theorem flat_le {α:Type} (f:α→List Str) (l:List α) (i:Nat):((l.take i).flatMap f).length≤(l.flatMap f).length:=by
 have e:l.flatMap f=(l.take i).flatMap f++(l.drop i).flatMap f:=by rw [← List.flatMap_append,List.take_append_drop]
 rw [e,List.length_append];omega
theorem lB_le {c:CxV} {r:RoV} (h:SmallL c r) {i:Nat} : (lB c r i).length≤1000000:=by
 have h1:=h.lines
 simp only [textL,lB,List.length_append,List.length_map,List.length_take,List.length_cons,List.length_nil] at h1 ⊢
 omega
theorem lC_le {c:CxV} {r:RoV} (h:SmallL c r) {i:Nat} : (lC c r i).length≤1000000:=by
 have h1:=h.lines
 have h2:=flat_le faceL c.fs i
 simp only [textL,lC,List.length_append,List.length_map,List.length_take,List.length_cons,List.length_nil] at h1 ⊢
 omega
theorem lD_le {c:CxV} {r:RoV} (h:SmallL c r) {i:Nat} : (lD c r i).length≤1000000:=by
 have h1:=h.lines
 simp only [textL,lD,List.length_append,List.length_map,List.length_take,List.length_cons,List.length_nil] at h1 ⊢
 omega
theorem lB_succ {c:CxV} {r:RoV} {i:Nat} (hi:i<c.ps.length):lB c r (i+1)=lB c r i ++ [ptL (c.ps.getD i (0,0))]:=by
 rw [lB,lB,List.take_succ_eq_append_getElem hi,List.map_append,getD_get hi,List.append_assoc];rfl
theorem lC_succ {c:CxV} {r:RoV} {i:Nat} (hi:i<c.fs.length):lC c r (i+1)=lC c r i++faceL (c.fs.getD i f0):=by
 rw [lC,lC,List.take_succ_eq_append_getElem hi,List.flatMap_append,getD_get hi,List.append_assoc,List.append_assoc,List.append_assoc];simp
theorem lH_full {c:CxV} {r:RoV} {i:Nat} (hi:i<c.fs.length):lH c r i (c.fs.getD i f0) (c.fs.getD i f0).hs.length=lC c r (i+1):=by
 rw [lC_succ hi,lH,List.take_length,faceL,List.append_assoc];rfl
theorem lH_succ {c:CxV} {r:RoV} {i j:Nat} {f:FaV} (hj:j<f.hs.length):lH c r i f (j+1)=lH c r i f j ++ [kHole++spell (f.hs.getD j ⟨undef,[]⟩).xs]:=by
 rw [lH,lH,List.take_succ_eq_append_getElem hj,List.map_append,getD_get hj,List.append_assoc,List.append_assoc,List.append_assoc];rfl
theorem lH_le {c:CxV} {r:RoV} (h:SmallL c r) {i j:Nat} (hi:i<c.fs.length):(lH c r i (c.fs.getD i f0) j).length≤1000000:=by
 have h1:=lC_le h (i:=i+1)
 rw [← lH_full hi] at h1
 simp only [lH,List.length_append,List.length_map,List.length_take,List.length_cons,List.length_nil] at h1 ⊢
 omega
theorem lD_succ {c:CxV} {r:RoV} {i:Nat} (hi:i<r.us.length):lD c r (i+1)=lD c r i ++ [unitL (r.us.getD i u0)]:=by
 rw [lD,lD,List.take_succ_eq_append_getElem hi,List.map_append,getD_get hi,← List.append_assoc];rfl
/-- What Text gives. -/
noncomputable def textRes (c:CxV) (r:RoV) (e:Int):Str × Int :=
 if e≠0 then ([],e) else if 40000<(joinedL (textL c r)).length then ([],3) else (joinedL (textL c r),0)
theorem Ints.append {k:IntKind} {lo:Nat} {w:World} {v:Value} {xs:List Int} (h:Ints k lo w v xs):Sl lo w v (xs.map (Value.int k)).length 1 (xs.map (Value.int k)):=by
 rw [List.length_map];exact h
theorem lol_one {w:World} {v:Value} {xs:List Int} (h:Ints .i64 0 w v xs):LoL 0 w [v] [xs.map (Value.int .i64)]:=⟨rfl,fun i hi=>by
 have e:i=0:=by simpa using hi
 subst e
 exact Ints.append h⟩
theorem lol_four {w:World} {a b c d:Value} {la bs cs ds:List Int} (ha:Ints .i64 0 w a la) (hb:Ints .i64 0 w b bs) (hc:Ints .i64 0 w c cs) (hd:Ints .i64 0 w d ds):LoL 0 w [a,b,c,d] ([la,bs,cs,ds].map fun l=>l.map (Value.int .i64)):=⟨rfl,fun i hi=>by
 match i,hi with
 | 0,_=>exact Ints.append ha
 | 1,_=>exact Ints.append hb
 | 2,_=>exact Ints.append hc
 | 3,_=>exact Ints.append hd⟩
theorem spelt_one (h:Str) (b:Nat) (v:Value) (xs:List Int) (w:World) (hB:Blk w b [v] 30) (hv:Ints .i64 0 w v xs) (h0:0<xs.length) (hn:xs.length≤1000) (hi:I64s xs) (hL:LibM w) (hh:h.length≤100000) :
  Calls Tryz.prog 65 #[str h,.slice (some ⟨b,0,none⟩) 1 1] w (Ret fun v' w'=>v'=str (h++spell xs)∧Ext w w') :=
 spelt_calls h 0 0 _ [v] [xs.map (Value.int .i64)] xs w (Sl.of_blk (n:=1) (sz:=1) hB rfl (Nat.le_refl 1) (by decide) (Nat.zero_le _)) (lol_one hv) (by simp) h0 (by omega) hi hL hh
theorem kPoint_le:kPoint.length≤100000:=by decide
theorem kFace_le:kFace.length≤100000:=by decide
theorem kHole_le:kHole.length≤100000:=by decide
theorem kLand_le:kLand.length≤100000:=by decide
theorem str1_app {base:Nat} {xs:List Str} {s:Str} {v:Value} {w:World} (h:w.ownsRow base 9 1 v (xs.length+1) (xs.map str ++ [s].map str)):OwnSt base (xs ++ [s]) v w:=ownSt_app (ys:=[s]) h
set_option maxHeartbeats 2000000 in
theorem Text_calls (lo:Nat) (c:CxV) (r:RoV) (w:World) (hc:c.ok lo w) (hr:r.ok lo w) (hL:LibM w) (hs:landErr c r (cxBad c)=0→SmallL c r) :
  Calls Tryz.prog 19 #[.agg (landC c r).toArray] w (Ret fun v w'=>v = .tuple #[str (textRes c r (landErr c r (cxBad c))).1,.int .i64 (textRes c r (landErr c r (cxBad c))).2]∧Ext w w'):=by
 refine T.enter (vs:=[.agg (landC c r).toArray]) func19 rfl ntmps19 rfl ?_
 refine T.q (L.o (O.box rfl (fun b1 w1 hb1 hz1 he1 hB1=>?_)))
 have hl1:Blk w1 b1 (landC c r) 48:=hB1
 refine L.a rfl (L.a rfl (L.nil (T.seq (T.q (L.o (O.loadAgg isAgg48 sizeOf48 rfl rfl (Row.of_blk hl1) (L.o (O.call (xs:=[.tmp 16]) call34 rfl rfl (LCheck_calls lo c r w1 (hc.ext he1) (hr.ext he1)) (fun v2 w2 hq=>?_)))))))))
 obtain ⟨rfl,he2⟩:=hq
 have he02:=he1.trans he2
 refine L.a rfl (L.nil (T.q (L.m rfl (L.o (O.neq_s rfl rfl (fun h0=>?_) (fun h0=>?_))))))
 ·refine L.nil (T.ct (T.q (L.m rfl (L.a rfl (L.a rfl (L.nil (T.ret2 results19 rfl rfl ⟨by rw [textRes,if_pos h0];rfl,he02⟩)))))))
 ·refine L.nil (?_)
  have hS:=hs h0
  rw [h0]
  have hl2:=Blk.ext (cs:=landC c r) hl1 he2
  refine T.cf (T.skip (T.q (L.o (O.fieldAddr runUnderlying48 rfl sizeOf25 rfl (L.o (O.fieldAddr runUnderlying25 rfl sizeOf3 rfl (L.o (O.load isAgg3 rfl (hl2.cell rfl) (L.o (O.fieldAddr runUnderlying48 rfl sizeOf25 rfl (L.o (O.fieldAddr runUnderlying25 rfl sizeOf3 rfl (L.o (O.load isAgg3 rfl (hl2.cell rfl) (L.o (O.fieldAddr runUnderlying48 rfl sizeOf25 rfl (L.o (O.fieldAddr runUnderlying25 rfl sizeOf3 rfl (L.o (O.load isAgg3 rfl (hl2.cell rfl) (L.o (O.buildSlice (el:=3) (parts:=[(0,.tmp 23),(1,.tmp 26),(2,.tmp 29)]) (vs:=[(0,_),(1,_),(2,_)]) (cs:=([r.G,r.P,r.L].map (Value.int .i64))) rfl (fun w=>by kernel_rfl) (fun b30 w30 hb30 hz30 he30 hB30=>?_)))))))))))))))))))))))
  have hI30:Ints .i64 0 w30 (.slice (some ⟨b30,0,none⟩) 3 3) [r.G,r.P,r.L]:=Ints.of_blk hB30 rfl (by decide) (Nat.zero_le _)
  refine L.o (O.buildSlice (el:=30) (parts:=[(0,.tmp 30)]) (vs:=[(0,_)]) (cs:=[.slice (some ⟨b30,0,none⟩) 3 3]) rfl (fun w=>by kernel_rfl) (fun b31 w31 hb31 hz31 he31 hB31=>?_))
  refine L.o (O.call (xs:=[_,.tmp 31]) call65 rfl rfl (spelt_one kLand b31 _ [r.G,r.P,r.L] w31 hB31 (hI30.ext he31) (by simp) (by simp) hS.roll (hL.ext ((he02.trans he30).trans he31)) kLand_le) (fun v32 w32 hq=>?_))
  obtain ⟨rfl,he32⟩:=hq
  refine L.o (O.buildSlice (el:=9) (parts:=[(0,.tmp 32)]) (vs:=[(0,_)]) (cs:=((lA r).map str)) rfl (fun w=>by kernel_rfl) (fun b33 w33 hb33 hz33 he33 hB33=>?_))
  have hO33:OwnSt w32.heap.size (lB c r 0) (.slice (some ⟨b33,0,none⟩) 1 1) w33:=owns_blk (n:=1) (cap:=1) (sz:=1) hB33 (by omega) (Nat.le_refl _) (by decide) rfl
  have he033:=(((he02.trans he30).trans he31).trans he32).trans he33
  have he133:=(((he2.trans he30).trans he31).trans he32).trans he33
  refine L.a rfl (L.nil (T.seq (T.q (L.o (O.fieldAddr runUnderlying48 rfl sizeOf46 rfl (L.o (O.fieldAddr runUnderlying46 rfl sizeOf43 rfl (L.o (O.load isAgg43 rfl ((Blk.ext (cs:=landC c r) hl1 he133).cell rfl) (L.o (O.len runUnderlying43 rfl (Sl.val ((hc.ext he033).p)) (L.m rfl (L.nil (T.block (?_)))))))))))))))
  refine T.loop (σ:=Nat × Value) (fun g=>[(1,.pointer (some ⟨b1,0,none⟩)),(5,g.2),(36,c.pv),(37,.int .i64 c.ps.length),(38,.int .i64 g.1)]) (fun g W=>g.1≤c.ps.length∧Ext w1 W∧Ext w32 W∧OwnSt w32.heap.size (lB c r g.1) g.2 W) (fun g=>c.ps.length-g.1) ((0,.slice (some ⟨b33,0,none⟩) 1 1)) ⟨rfl,rfl,rfl,rfl,rfl,trivial⟩ ⟨Nat.zero_le _,he133,he33,hO33⟩ ?_
  rintro ⟨i,lv⟩ w34 ⟨hi,he134,he3234,hO34⟩
  simp only at hi hO34
  have hc34:=hc.ext (he1.trans he134)
  have hqa:=Sl.le hc34.p
  refine T.q (L.o (O.lss_s rfl rfl (fun hlt=>?_) (fun hlt=>?_)))
  ·refine L.nil (?_)
   have hlt':i<c.ps.length:=by simp only at hlt;omega
   have hpm:c.ps.getD i (0,0)∈c.ps:=by rw [getD_get hlt'];exact List.getElem_mem hlt'
   refine T.seq (T.ct (T.skip (T.seq (T.block (T.q (L.o (O.indexAddr runUnderlying43 sizeOf124 rfl rfl hc34.p (by omega) (by omega) (L.o (O.loadAgg isAgg124 sizeOf124 rfl rfl (hc34.p.row hlt') (L.o (O.alloc zeroValue124 (fun b7 w7 hb7 hz7 he7 hB7=>?_))))))))))))
   refine L.o (O.storeAgg sizeOf124 rfl rfl rfl hB7 (Nat.le_refl _) (pC_one _) (fun w8 hu8 hB8=>?_))
   have hX8:Blk w8 b7 (pC (c.ps.getD i (0,0))) 124:=hB8
   have he348:Ext w34 w8:=he7.upd hu8 (.inr (by omega))
   refine L.nil (T.region (L.m rfl (L.o (O.fieldAddr runUnderlying124 rfl sizeOf3 rfl (L.o (O.load isAgg3 rfl (hX8.cell rfl) (L.o (O.fieldAddr runUnderlying124 rfl sizeOf3 rfl (L.o (O.load isAgg3 rfl (hX8.cell rfl) (L.o (O.buildSlice (el:=3) (parts:=[(0,.tmp 44),(1,.tmp 46)]) (vs:=[(0,_),(1,_)]) (cs:=([(c.ps.getD i (0,0)).1,(c.ps.getD i (0,0)).2].map (Value.int .i64))) rfl (fun w=>by kernel_rfl) (fun b47 w47 hb47 hz47 he47 hB47=>?_)))))))))))))
   have hI47:Ints .i64 0 w47 (.slice (some ⟨b47,0,none⟩) 2 2) [(c.ps.getD i (0,0)).1,(c.ps.getD i (0,0)).2]:=Ints.of_blk hB47 rfl (by decide) (Nat.zero_le _)
   refine L.o (O.buildSlice (el:=30) (parts:=[(0,.tmp 47)]) (vs:=[(0,_)]) (cs:=[.slice (some ⟨b47,0,none⟩) 2 2]) rfl (fun w=>by kernel_rfl) (fun b48 w48 hb48 hz48 he48 hB48=>?_))
   have he3448:=(he348.trans he47).trans he48
   refine L.o (O.call (xs:=[_,.tmp 48]) call65 rfl rfl (spelt_one kPoint b48 _ [(c.ps.getD i (0,0)).1,(c.ps.getD i (0,0)).2] w48 hB48 (hI47.ext he48) (by simp) (by simp) (hS.pts _ hpm) (hL.ext ((he1.trans he134).trans he3448)) kPoint_le) (fun v49 w49 hq=>?_))
   obtain ⟨rfl,he49⟩:=hq
   refine L.o (O.buildSlice (el:=9) (parts:=[(0,.tmp 49)]) (vs:=[(0,_)]) (cs:=([ptL (c.ps.getD i (0,0))].map str)) rfl (fun w=>by kernel_rfl) (fun b50 w50 hb50 hz50 he50 hB50=>?_))
   have he3450:=(he3448.trans he49).trans he50
   have hle:=lB_le hS (i:=i)
   refine L.o (O.append (size:=1) (bytes:=16) runUnderlying61 Tryz.infoOf9 rfl rfl rfl rfl (by decide) rfl rfl (owns_keep hO34 (he3450.mono (Nat.zero_le _)) (Nat.le_refl _)) (Strs.of_blk (lo:=0) hB50 rfl (by decide) (Nat.zero_le _)) (strs_one _) (by simp only [List.length_cons,List.length_nil,maxLen];omega) (by simp only [maxLen,List.length_cons,List.length_nil];omega) (by have:=he3234.size;have:=he3450.size;omega) (fun v51 w51 hO51 hG51=>?_))
   have he3251:Ext w32 w51:=Keep.grown0 (he3234.trans he3450) (owns_keep hO34 (he3450.mono (Nat.zero_le _)) (Nat.le_refl _)) hG51 (Nat.le_refl _)
   refine L.a rfl (L.nil (T.blk (T.region (L.o (O.add64 rfl rfl (by (try dsimp only);omega) (L.m rfl (L.nil (T.again ((i+1,v51)) (show c.ps.length-(i+1)<c.ps.length-i by omega) ⟨rfl,rfl,rfl,rfl,rfl,trivial⟩ ⟨hlt',(((he2.trans he30).trans he31).trans he32).trans he3251,he3251,by rw [lB_succ hlt'];exact str1_app hO51⟩))))))))
  ·refine L.nil (?_)
   obtain rfl:i=c.ps.length:=by simp only at hlt;omega
   have hlC:lB c r c.ps.length=lC c r 0:=by simp [lB,lC]
   rw [hlC] at hO34
   refine T.seq (T.cf (T.exit rfl (T.seq (T.q (L.o (O.fieldAddr runUnderlying48 rfl sizeOf46 rfl (L.o (O.fieldAddr runUnderlying46 rfl sizeOf44 rfl (L.o (O.load isAgg44 rfl ((Blk.ext (cs:=landC c r) hl1 he134).cell rfl) (L.o (O.len runUnderlying44 rfl (Sl.val hc34.sl) (L.m rfl (L.nil (T.block (?_))))))))))))))))
   refine T.loop (σ:=Nat × Value) (fun g=>[(1,.pointer (some ⟨b1,0,none⟩)),(5,g.2),(55,c.fv),(56,.int .i64 c.fs.length),(57,.int .i64 g.1)]) (fun g W=>g.1≤c.fs.length∧Ext w1 W∧Ext w32 W∧OwnSt w32.heap.size (lC c r g.1) g.2 W) (fun g=>c.fs.length-g.1) ((0,lv)) ⟨rfl,rfl,rfl,rfl,rfl,trivial⟩ ⟨Nat.zero_le _,he134,he3234,hO34⟩ ?_
   rintro ⟨i,lv2⟩ w58 ⟨hi2,he158,he3258,hO58⟩
   simp only at hi2 hO58
   have hc58:=hc.ext (he1.trans he158)
   have hqb:=Sl.le hc58.sl
   refine T.q (L.o (O.lss_s rfl rfl (fun hlt=>?_) (fun hlt=>?_)))
   ·refine L.nil (?_)
    have hlt':i<c.fs.length:=by simp only at hlt;omega
    have hfm:c.fs.getD i f0∈c.fs:=by rw [getD_get hlt'];exact List.getElem_mem hlt'
    have hfo:=hc58.at hlt'
    refine T.seq (T.ct (T.skip (T.seq (T.block (T.q (L.o (O.indexAddr runUnderlying44 sizeOf127 rfl rfl hc58.sl (by omega) (by omega) (L.o (O.loadAgg isAgg127 sizeOf127 rfl rfl (hc58.row hlt') (L.o (O.alloc zeroValue127 (fun b9 w9 hb9 hz9 he9 hB9=>?_))))))))))))
    refine L.o (O.storeAgg sizeOf127 rfl rfl rfl hB9 (Nat.le_refl _) (fa_one hfo) (fun w10 hu10 hB10=>?_))
    have hF10:Blk w10 b9 (c.fs.getD i f0).cells 127:=hB10
    have he5810:Ext w58 w10:=he9.upd hu10 (.inr (by omega))
    obtain ⟨oa,cp,hov,_,_⟩:=Sl.val hfo.o
    refine L.nil (T.q (L.m rfl (L.o (O.fieldAddr runUnderlying127 rfl sizeOf30 rfl (L.o (O.load isAgg30 rfl (show w10.cell? ⟨b9,0,none⟩=some (.slice oa (c.fs.getD i f0).o.xs.length cp) from by rw [← hov];exact hF10.cell rfl) (L.o (O.buildSlice (el:=30) (parts:=[(0,.tmp 63)]) (vs:=[(0,_)]) (cs:=[.slice oa (c.fs.getD i f0).o.xs.length cp]) rfl (fun w=>by kernel_rfl) (fun b64 w64 hb64 hz64 he64 hB64=>?_)))))))))
    have he5864:=he5810.trans he64
    obtain ⟨hr1,hr2,hr3⟩:=hS.rim _ hfm
    refine L.o (O.call (xs:=[_,.tmp 64]) call65 rfl rfl (spelt_one kFace b64 _ (c.fs.getD i f0).o.xs w64 hB64 (hov▸(hfo.ext he5864).o.mono (Nat.zero_le _)) hr2 hr3 hr1 (hL.ext ((he1.trans he158).trans he5864)) kFace_le) (fun v65 w65 hq=>?_))
    obtain ⟨rfl,he65⟩:=hq
    refine L.o (O.buildSlice (el:=9) (parts:=[(0,.tmp 65)]) (vs:=[(0,_)]) (cs:=([kFace++spell (c.fs.getD i f0).o.xs].map str)) rfl (fun w=>by kernel_rfl) (fun b66 w66 hb66 hz66 he66 hB66=>?_))
    have he5866:=(he5864.trans he65).trans he66
    have hle:=lC_le hS (i:=i)
    refine L.o (O.append (size:=1) (bytes:=16) runUnderlying61 Tryz.infoOf9 rfl rfl rfl rfl (by decide) rfl rfl (owns_keep hO58 (he5866.mono (Nat.zero_le _)) (Nat.le_refl _)) (Strs.of_blk (lo:=0) hB66 rfl (by decide) (Nat.zero_le _)) (strs_one _) (by simp only [List.length_cons,List.length_nil,maxLen];omega) (by simp only [maxLen,List.length_cons,List.length_nil];omega) (by have:=he3258.size;have:=he5866.size;omega) (fun v67 w67 hO67 hG67=>?_))
    have he3267:Ext w32 w67:=Keep.grown0 (he3258.trans he5866) (owns_keep hO58 (he5866.mono (Nat.zero_le _)) (Nat.le_refl _)) hG67 (Nat.le_refl _)
    have hO67':OwnSt w32.heap.size (lH c r i (c.fs.getD i f0) 0) v67 w67:=by rw [show lH c r i (c.fs.getD i f0) 0=lC c r i ++ [kFace++spell (c.fs.getD i f0).o.xs] by simp [lH]];exact str1_app hO67
    have he132:=((he2.trans he30).trans he31).trans he32
    have hz132:=he132.size
    have hF66:=Blk.ext (cs:=(c.fs.getD i f0).cells) hF10 ((he64.trans he65).trans he66)
    have hO66:=owns_keep hO58 (he5866.mono (Nat.zero_le _)) (Nat.le_refl _)
    have hF67:Blk w67 b9 (c.fs.getD i f0).cells 127:=Blk.grown (cs:=(c.fs.getD i f0).cells) hF66 hG67 (own_blk hO66 hF66 (by decide))
    refine L.a rfl (L.nil (T.q (L.o (O.fieldAddr runUnderlying127 rfl sizeOf125 rfl (L.o (O.load isAgg125 rfl (hF67.cell rfl) (?_)))))))
    have hfo67:=(hc.ext (he1.trans (he132.trans he3267))).at hlt'
    refine L.o (O.len runUnderlying125 rfl (Sl.val hfo67.sl) (L.m rfl (L.nil (T.block (?_)))))
    refine T.loop (σ:=Nat × Value) (fun g=>[(1,.pointer (some ⟨b1,0,none⟩)),(5,g.2),(55,c.fv),(56,.int .i64 c.fs.length),(57,.int .i64 i),(69,(c.fs.getD i f0).hv),(70,.int .i64 (c.fs.getD i f0).hs.length),(71,.int .i64 g.1)]) (fun g W=>g.1≤(c.fs.getD i f0).hs.length∧Ext w32 W∧OwnSt w32.heap.size (lH c r i (c.fs.getD i f0) g.1) g.2 W) (fun g=>(c.fs.getD i f0).hs.length-g.1) ((0,v67)) ⟨rfl,rfl,rfl,rfl,rfl,rfl,rfl,rfl,trivial⟩ ⟨Nat.zero_le _,he3267,hO67'⟩ ?_
    rintro ⟨j,lv3⟩ w72 ⟨hj,he3272,hO72⟩
    simp only at hj hO72
    have hfo72:=(hc.ext (he1.trans (he132.trans he3272))).at hlt'
    have hqc:=Sl.le hfo72.sl
    refine T.q (L.o (O.lss_s rfl rfl (fun hlt2=>?_) (fun hlt2=>?_)))
    ·refine L.nil (?_)
     have hj':j<(c.fs.getD i f0).hs.length:=by simp only at hlt2;omega
     have hhm:(c.fs.getD i f0).hs.getD j ⟨undef,[]⟩∈(c.fs.getD i f0).hs:=by rw [getD_get hj'];exact List.getElem_mem hj'
     obtain ⟨hq1,hq2,hq3⟩:=hS.hole _ hfm _ hhm
     refine T.seq (T.ct (T.skip (T.seq (T.block (T.q (L.o (O.indexAddr runUnderlying125 sizeOf30 rfl rfl hfo72.sl (by omega) (by omega) (?_))))))))
     obtain ⟨ob,cq,hov2,_,_⟩:=Sl.val (hfo72.hs _ hhm)
     refine L.o (O.load isAgg30 rfl (show _=some (.slice ob ((c.fs.getD i f0).hs.getD j ⟨undef,[]⟩).xs.length cq) from by rw [← hov2,Int.toNat_natCast,Nat.mul_one];exact Sl.cell hfo72.sl (show (riCells (c.fs.getD i f0).hs)[j]?=some ((c.fs.getD i f0).hs.getD j ⟨undef,[]⟩).v by rw [riCells,List.getElem?_map,List.getElem?_eq_getElem hj',getD_get hj'];rfl)) (L.a rfl (L.nil (T.region (L.m rfl (L.m rfl (L.o (O.buildSlice (el:=30) (parts:=[(0,.tmp 76)]) (vs:=[(0,_)]) (cs:=[.slice ob ((c.fs.getD i f0).hs.getD j ⟨undef,[]⟩).xs.length cq]) rfl (fun w=>by kernel_rfl) (fun b77 w77 hb77 hz77 he77 hB77=>?_)))))))))
     refine L.o (O.call (xs:=[_,.tmp 77]) call65 rfl rfl (spelt_one kHole b77 _ ((c.fs.getD i f0).hs.getD j ⟨undef,[]⟩).xs w77 hB77 (hov2▸((hfo72.hs _ hhm).ext he77).mono (Nat.zero_le _)) hq2 hq3 hq1 (hL.ext ((he1.trans (he132.trans he3272)).trans he77)) kHole_le) (fun v78 w78 hq=>?_))
     obtain ⟨rfl,he78⟩:=hq
     refine L.o (O.buildSlice (el:=9) (parts:=[(0,.tmp 78)]) (vs:=[(0,_)]) (cs:=([kHole++spell ((c.fs.getD i f0).hs.getD j ⟨undef,[]⟩).xs].map str)) rfl (fun w=>by kernel_rfl) (fun b79 w79 hb79 hz79 he79 hB79=>?_))
     have he7279:=(he77.trans he78).trans he79
     have hle2:=lH_le hS (j:=j) hlt'
     refine L.o (O.append (size:=1) (bytes:=16) runUnderlying61 Tryz.infoOf9 rfl rfl rfl rfl (by decide) rfl rfl (owns_keep hO72 (he7279.mono (Nat.zero_le _)) (Nat.le_refl _)) (Strs.of_blk (lo:=0) hB79 rfl (by decide) (Nat.zero_le _)) (strs_one _) (by simp only [List.length_cons,List.length_nil,maxLen];omega) (by simp only [maxLen,List.length_cons,List.length_nil];omega) (by have:=he3272.size;have:=he7279.size;omega) (fun v80 w80 hO80 hG80=>?_))
     have he3280:Ext w32 w80:=Keep.grown0 (he3272.trans he7279) (owns_keep hO72 (he7279.mono (Nat.zero_le _)) (Nat.le_refl _)) hG80 (Nat.le_refl _)
     refine L.a rfl (L.nil (T.blk (T.region (L.o (O.add64 rfl rfl (by (try dsimp only);omega) (L.m rfl (L.nil (T.again ((j+1,v80)) (show (c.fs.getD i f0).hs.length-(j+1)<(c.fs.getD i f0).hs.length-j by omega) ⟨rfl,rfl,rfl,rfl,rfl,rfl,rfl,rfl,trivial⟩ ⟨hj',he3280,by rw [lH_succ hj'];exact str1_app hO80⟩))))))))
    ·refine L.nil (?_)
     have e:j=(c.fs.getD i f0).hs.length:=by simp only at hlt2;omega
     rw [e,lH_full hlt'] at hO72
     refine T.seq (T.cf (T.exit rfl (T.blk (T.region (L.o (O.add64 rfl rfl (by (try dsimp only);omega) (L.m rfl (L.nil (T.again ((i+1,lv3)) (show c.fs.length-(i+1)<c.fs.length-i by omega) ⟨rfl,rfl,rfl,rfl,rfl,trivial⟩ ⟨hlt',he132.trans he3272,he3272,hO72⟩)))))))))
   ·refine L.nil (?_)
    obtain rfl:i=c.fs.length:=by simp only at hlt;omega
    have hlD:lC c r c.fs.length=lD c r 0:=by simp [lC,lD]
    rw [hlD] at hO58
    have hr58:Units lo w58 r.uv r.us:=hr.ext (he1.trans he158)
    refine T.seq (T.cf (T.exit rfl (T.seq (T.q (L.o (O.fieldAddr runUnderlying48 rfl sizeOf25 rfl (L.o (O.fieldAddr runUnderlying25 rfl sizeOf23 rfl (L.o (O.load isAgg23 rfl ((Blk.ext (cs:=landC c r) hl1 he158).cell rfl) (L.o (O.len runUnderlying23 rfl (Sl.val hr58.sl) (L.m rfl (L.nil (T.block (?_))))))))))))))))
    refine T.loop (σ:=Nat × Value) (fun g=>[(1,.pointer (some ⟨b1,0,none⟩)),(5,g.2),(85,r.uv),(86,.int .i64 r.us.length),(87,.int .i64 g.1)]) (fun g W=>g.1≤r.us.length∧Ext w1 W∧Ext w32 W∧OwnSt w32.heap.size (lD c r g.1) g.2 W) (fun g=>r.us.length-g.1) ((0,lv2)) ⟨rfl,rfl,rfl,rfl,rfl,trivial⟩ ⟨Nat.zero_le _,he158,he3258,hO58⟩ ?_
    rintro ⟨i,lv4⟩ w88 ⟨hi3,he188,he3288,hO88⟩
    simp only at hi3 hO88
    have hr88:Units lo w88 r.uv r.us:=hr.ext (he1.trans he188)
    have hqd:=Sl.le hr88.sl
    have he132:=((he2.trans he30).trans he31).trans he32
    refine T.q (L.o (O.lss_s rfl rfl (fun hlt=>?_) (fun hlt=>?_)))
    ·refine L.nil (?_)
     have hlt':i<r.us.length:=by simp only at hlt;omega
     have hum:r.us.getD i u0∈r.us:=by rw [getD_get hlt'];exact List.getElem_mem hlt'
     have huo:=hr88.at hlt'
     obtain ⟨hu1,hu2,hu3⟩:=hS.unit _ hum
     refine T.seq (T.ct (T.skip (T.seq (T.block (T.q (L.o (O.indexAddr runUnderlying23 sizeOf51 rfl rfl hr88.sl (by omega) (by omega) (L.o (O.loadAgg isAgg51 sizeOf51 rfl rfl (hr88.row hlt') (L.o (O.alloc zeroValue51 (fun b13 w13 hb13 hz13 he13 hB13=>?_))))))))))))
     refine L.o (O.storeAgg sizeOf51 rfl rfl rfl hB13 (Nat.le_refl _) huo.one (fun w14 hu14 hB14=>?_))
     have hU14:Blk w14 b13 (r.us.getD i u0).cells 51:=hB14
     have he8814:Ext w88 w14:=he13.upd hu14 (.inr (by omega))
     refine L.nil (T.q (L.o (O.fieldAddr runUnderlying51 rfl sizeOf9 rfl (L.o (O.load isAgg9 rfl (hU14.cell rfl) (L.o (O.add_str rfl rfl (by show 5+(r.us.getD i u0).nm.length≤_;omega) (L.o (O.fieldAddr runUnderlying51 rfl sizeOf3 rfl (L.o (O.load isAgg3 rfl (hU14.cell rfl) (L.o (O.buildSlice (el:=3) (parts:=[(0,.tmp 95)]) (vs:=[(0,_)]) (cs:=[.int .i64 (r.us.getD i u0).pp]) rfl (fun w=>by kernel_rfl) (fun b96 w96 hb96 hz96 he96 hB96=>?_))))))))))))))
     have hU96:=Blk.ext (cs:=(r.us.getD i u0).cells) hU14 he96
     obtain ⟨o1,c1,hg1,_,_⟩:=Sl.val huo.g
     obtain ⟨o2,c2,hg2,_,_⟩:=Sl.val huo.v
     obtain ⟨o3,c3,hg3,_,_⟩:=Sl.val huo.p
     refine L.o (O.fieldAddr runUnderlying51 rfl sizeOf30 rfl (L.o (O.load isAgg30 rfl (show w96.cell? ⟨b13,2,none⟩=some (.slice o1 (r.us.getD i u0).gs.length c1) from by rw [← hg1];exact hU96.cell rfl) (L.o (O.fieldAddr runUnderlying51 rfl sizeOf30 rfl (L.o (O.load isAgg30 rfl (show w96.cell? ⟨b13,3,none⟩=some (.slice o2 (r.us.getD i u0).vs.length c2) from by rw [← hg2];exact hU96.cell rfl) (L.o (O.fieldAddr runUnderlying51 rfl sizeOf30 rfl (L.o (O.load isAgg30 rfl (show w96.cell? ⟨b13,4,none⟩=some (.slice o3 (r.us.getD i u0).ps.length c3) from by rw [← hg3];exact hU96.cell rfl) (L.o (O.buildSlice (el:=30) (parts:=[(0,.tmp 96),(1,.tmp 98),(2,.tmp 100),(3,.tmp 102)]) (vs:=[(0,_),(1,_),(2,_),(3,_)]) (cs:=[.slice (some ⟨b96,0,none⟩) 1 1,.slice o1 (r.us.getD i u0).gs.length c1,.slice o2 (r.us.getD i u0).vs.length c2,.slice o3 (r.us.getD i u0).ps.length c3]) rfl (fun w=>by kernel_rfl) (fun b103 w103 hb103 hz103 he103 hB103=>?_))))))))))))))
     have he14103:=he96.trans he103
     have he88103:=he8814.trans he14103
     have huo103:=(hr88.ext he88103).at hlt'
     have hI96:Ints .i64 0 w103 (.slice (some ⟨b96,0,none⟩) 1 1) [(r.us.getD i u0).pp]:=Ints.of_blk (Blk.ext (cs:=[.int .i64 (r.us.getD i u0).pp]) hB96 he103) rfl (by decide) (Nat.zero_le _)
     refine L.o (O.call (xs:=[.tmp 93,.tmp 103]) call65 rfl rfl (spelt_calls (kUnit++(r.us.getD i u0).nm) 0 0 _ [.slice (some ⟨b96,0,none⟩) 1 1,.slice o1 (r.us.getD i u0).gs.length c1,.slice o2 (r.us.getD i u0).vs.length c2,.slice o3 (r.us.getD i u0).ps.length c3] ([[(r.us.getD i u0).pp],(r.us.getD i u0).gs,(r.us.getD i u0).vs,(r.us.getD i u0).ps].map fun l ↦ l.map (Value.int .i64)) (numsU (r.us.getD i u0)) w103 (Sl.of_blk (n:=4) (sz:=1) hB103 rfl (Nat.le_refl 4) (by decide) (Nat.zero_le _)) (lol_four hI96 (hg1▸huo103.g.mono (Nat.zero_le _)) (hg2▸huo103.v.mono (Nat.zero_le _)) (hg3▸huo103.p.mono (Nat.zero_le _))) (by simp [numsU]) (by simp [numsU]) (by omega) hu1 (hL.ext ((he1.trans he188).trans he88103)) (by rw [List.length_append];show 5+_≤_;omega)) (fun v104 w104 hq=>?_))
     obtain ⟨rfl,he104⟩:=hq
     have hU104:=Blk.ext (cs:=(r.us.getD i u0).cells) hU96 (he103.trans he104)
     refine L.a rfl (L.nil (T.seq (T.q (L.o (O.fieldAddr runUnderlying51 rfl sizeOf4 rfl (L.o (O.load isAgg4 rfl (hU104.cell rfl) (?_))))))))
     have he88104:=he88103.trans he104
     refine L.nil (?_)
     refine T.join (σ:=Unit) (fun _=>[(1,.pointer (some ⟨b1,0,none⟩)),(5,lv4),(14,str (unitL (r.us.getD i u0))),(85,r.uv),(86,.int .i64 r.us.length),(87,.int .i64 i)]) (fun _ w'=>w'=w104) ?_ ?_
     ·rcases hwt:(r.us.getD i u0).wt with _|_
      ·refine T.cf (T.skip (T.meet (()) ⟨rfl,rfl,?_,rfl,rfl,rfl,trivial⟩ rfl))
       ·exact congrArg (fun z=>some (str z)) (by rw [unitL,hwt];simp)
      ·refine T.ct (T.region (L.m rfl (L.o (O.add_str rfl rfl (by have:=spell_len _ hu1;rw [List.length_append,List.length_append];show 5+_+_+6≤_;omega) (L.a rfl (L.nil (T.meet (()) ⟨rfl,rfl,?_,rfl,rfl,rfl,trivial⟩ rfl)))))))
       ·exact congrArg (fun z=>some (str z)) (by rw [unitL,hwt];simp [kWater])
     rintro _ w105 rfl
     refine T.region (L.m rfl (L.m rfl (L.o (O.buildSlice (el:=9) (parts:=[(0,.tmp 110)]) (vs:=[(0,_)]) (cs:=([unitL (r.us.getD i u0)].map str)) rfl (fun w=>by kernel_rfl) (fun b111 w111 hb111 hz111 he111 hB111=>?_)))))
     have he88111:=he88104.trans he111
     have hle3:=lD_le hS (i:=i)
     refine L.o (O.append (size:=1) (bytes:=16) runUnderlying61 Tryz.infoOf9 rfl rfl rfl rfl (by decide) rfl rfl (owns_keep hO88 (he88111.mono (Nat.zero_le _)) (Nat.le_refl _)) (Strs.of_blk (lo:=0) hB111 rfl (by decide) (Nat.zero_le _)) (strs_one _) (by simp only [List.length_cons,List.length_nil,maxLen];omega) (by simp only [maxLen,List.length_cons,List.length_nil];omega) (by have:=he3288.size;have:=he88111.size;omega) (fun v112 w112 hO112 hG112=>?_))
     have he32112:Ext w32 w112:=Keep.grown0 (he3288.trans he88111) (owns_keep hO88 (he88111.mono (Nat.zero_le _)) (Nat.le_refl _)) hG112 (Nat.le_refl _)
     refine L.a rfl (L.nil (T.blk (T.region (L.o (O.add64 rfl rfl (by (try dsimp only);omega) (L.m rfl (L.nil (T.again ((i+1,v112)) (show r.us.length-(i+1)<r.us.length-i by omega) ⟨rfl,rfl,rfl,rfl,rfl,trivial⟩ ⟨hlt',he132.trans he32112,he32112,by rw [lD_succ hlt'];exact str1_app hO112⟩))))))))
    ·refine L.nil (?_)
     obtain rfl:i=r.us.length:=by simp only at hlt;omega
     have hlE:lD c r r.us.length ++ [kEnd]=textL c r:=by simp [lD,textL]
     refine T.seq (T.cf (T.exit rfl (T.q (L.m rfl (L.o (O.buildSlice (el:=9) (parts:=[(0,_)]) (vs:=[(0,_)]) (cs:=([kEnd].map str)) rfl (fun w=>by kernel_rfl) (fun b115 w115 hb115 hz115 he115 hB115=>?_)))))))
     have hle3:=lD_le hS (i:=r.us.length)
     refine L.o (O.append (size:=1) (bytes:=16) runUnderlying61 Tryz.infoOf9 rfl rfl rfl rfl (by decide) rfl rfl (owns_keep hO88 (he115.mono (Nat.zero_le _)) (Nat.le_refl _)) (Strs.of_blk (lo:=0) hB115 rfl (by decide) (Nat.zero_le _)) (strs_one _) (by simp only [List.length_cons,List.length_nil,maxLen];omega) (by simp only [maxLen,List.length_cons,List.length_nil];omega) (by have:=he3288.size;have:=he115.size;omega) (fun v116 w116 hO116 hG116=>?_))
     have he32116:Ext w32 w116:=Keep.grown0 (he3288.trans he115) (owns_keep hO88 (he115.mono (Nat.zero_le _)) (Nat.le_refl _)) hG116 (Nat.le_refl _)
     have hO116':=str1_app hO116
     rw [hlE] at hO116'
     refine L.o (O.call (xs:=[.tmp 116]) call55 rfl rfl (joined_calls 0 v116 (textL c r) w116 ((Sl.of_owns hO116').mono (Nat.zero_le _)) hS.len) (fun v117 w117 hq=>?_))
     obtain ⟨rfl,he117⟩:=hq
     have he0117:=he1.trans (he132.trans (he32116.trans he117))
     refine L.a rfl (L.nil (T.seq (T.q (L.m rfl (L.o (O.len_str runUnderlying9 rfl (L.o (O.gtr_s rfl rfl (fun hbig=>?_) (fun hbig=>?_)))))))))
     ·refine L.nil (T.ct (T.q (L.a rfl (L.a rfl (L.nil (T.ret2 results19 rfl rfl ⟨by rw [textRes,if_neg (fun x=>x rfl),if_pos (by omega)];rfl,he0117⟩))))))
     ·refine L.nil (T.cf (T.skip (T.q (L.m rfl (L.a rfl (L.a rfl (L.nil (T.ret2 results19 rfl rfl ⟨by rw [textRes,if_neg (fun x=>x rfl),if_neg (by omega)],he0117⟩))))))))

open Go Go.E RowKit

theorem atoi_bnd {l:Str} {v:Int} (h:Lib.atoiAll l = .ok v) : -9223372036854775808≤v∧v≤9223372036854775807:=by
 unfold Lib.atoiAll at h
 split at h
 ·cases h
 ·simp only at h
  split at h
  ·cases h
  ·cases h
  ·split at h
   ·cases h
   ·split at h
    ·cases h
    ·cases h
     split <;> omega
/-- What a word gives: a number, or an error beside a number. -/
theorem atoi_calls (s:Str) (w:World) (hL:LibM w) (hs:s.length≤100000):Calls Tryz.prog 161 #[str s] w (Ret fun v w'=>((∃ n,Lib.atoiAll s = .ok n∧v = .tuple #[.int .i64 n,.nilIface])∨((∀ n,Lib.atoiAll s ≠ .ok n)∧∃ m t p,v = .tuple #[.int .i64 m,.iface t p]))∧Ext w w'):=by
 have hsz:(⟨s.toArray⟩:ByteArray).size=s.length:=by simp [ByteArray.size]
 rcases h:Lib.atoiAll s with n|_|_
 ·refine (Tryz.strconv_Atoi_ok ⟨s.toArray⟩ (by omega) n h w).mono ?_
  rintro e w' ⟨rfl,hw⟩
  refine ⟨.inl ⟨n,rfl,rfl⟩,?_⟩
  rcases hw with rfl|⟨t,rfl⟩
  ·exact Keep.refl _ _
  ·exact Ext.of_below (Lib.bytesWorld_below _ _ _)
 ·obtain ⟨tp,p,hv⟩:=hL.es
  refine (Tryz.strconv_Atoi_other_var ⟨s.toArray⟩ (by omega) (fun n e=>by cases h.symm.trans e) (fun e=>by cases h.symm.trans e) tp p w hv).mono ?_
  rintro e w' ⟨N,rfl,_,_,hb⟩
  exact ⟨.inr ⟨fun n h=>(by cases h),_,_,_,rfl⟩,Ext.of_below hb⟩
 ·obtain ⟨tp,p,hv⟩:=hL.er
  refine (Tryz.strconv_Atoi_range_var ⟨s.toArray⟩ (by omega) h tp p w hv).mono ?_
  rintro e w' ⟨N,rfl,_,_,hb⟩
  exact ⟨.inr ⟨fun n h=>(by cases h),_,_,_,rfl⟩,Ext.of_below hb⟩
/-- A number as it is written. -/
def numOk (s:Str):Option Int:=match Lib.atoiAll s with
 | .ok n=>if Lib.itoa n=s ∧ -1000000000≤n∧n≤1000000000 then some n else none
 | _=>none
theorem numOk_ok {s:Str} {n:Int} (h:Lib.atoiAll s = .ok n):numOk s=if Lib.itoa n=s ∧ -1000000000≤n∧n≤1000000000 then some n else none:=by unfold numOk;rw [h]
theorem numOk_some {s:Str} {n:Int} (h:numOk s=some n):Lib.atoiAll s = .ok n∧Lib.itoa n=s ∧ -1000000000≤n∧n≤1000000000:=by
 unfold numOk at h
 split at h
 ·split at h
  ·cases h;rename_i hn hc;exact ⟨hn,hc⟩
  ·cases h
 ·cases h
theorem number1_yes (s:Str) (n:Int) (w:World) (hL:LibM w) (hs:s.length≤100000) (hn:numOk s=some n) :
  Calls Tryz.prog 160 #[str s] w (Ret fun v w'=>v = .int .i64 n∧Ext w w'):=by
 obtain ⟨h1,h2,h3,h4⟩:=numOk_some hn
 refine T.enter (vs:=[str s]) func160 rfl ntmps160 rfl ?_
 refine T.q (L.a rfl (L.nil (T.q (L.m rfl (L.o (O.call (xs:=[.tmp 6]) call161 rfl rfl (atoi_calls s w hL hs) (fun v1 w1 hq=>?_)))))))
 obtain ⟨hv1,he1⟩:=hq
 have hv1':v1 = .tuple #[.int .i64 n,.nilIface]:=by
  rcases hv1 with ⟨m,hm,hv⟩|⟨hm,_⟩
  ·rw [h1] at hm;cases hm;exact hv
  ·exact absurd h1 (hm n)
 subst hv1'
 refine L.m rfl (L.o (O.extract rfl rfl (L.o (O.extract rfl rfl (L.a rfl (L.a rfl (L.nil (T.q (L.m rfl (L.o (O.eql_iface_yes (by kernel_rfl) rfl (L.m rfl (L.m rfl (L.o (O.call (xs:=[.tmp 13]) call54 rfl rfl (itoa_calls n w1 (hL.ext he1) (by omega) (by omega)) (fun v2 w2 hq=>?_))))))))))))))))
 obtain ⟨rfl,he2⟩:=hq
 refine L.m rfl (L.o (O.eql_str_t runUnderlying9 rfl rfl h2 (L.o (O.pick_true rfl rfl (L.m rfl (L.m rfl (L.o (O.geq_t rfl rfl h3 (L.o (O.pick_true rfl rfl (L.m rfl (L.m rfl (L.o (O.leq_t rfl rfl h4 (L.o (O.pick_true rfl rfl (L.o (O.call (xs:=[.tmp 25]) call108 rfl rfl (need_yes w2) (fun v3 w3 hq=>?_)))))))))))))))))))
 obtain rfl:=hq
 refine L.nil (T.q (L.m rfl (L.a rfl (L.nil (T.ret1 results160 rfl ⟨rfl,he1.trans he2⟩)))))

theorem number1_no (s:Str) (w:World) (hL:LibM w) (hs:s.length≤100000) (hn:numOk s=none) :
  Calls Tryz.prog 160 #[str s] w (Pan (wrongV) fun w'=>Ext w w'):=by
 refine T.enterP (vs:=[str s]) func160 rfl ntmps160 rfl ?_
 refine T.q (L.a rfl (L.nil (T.q (L.m rfl (L.o (O.call (xs:=[.tmp 6]) call161 rfl rfl (atoi_calls s w hL hs) (fun v1 w1 hq=>?_)))))))
 obtain ⟨hv1,he1⟩:=hq
 rcases hv1 with ⟨n,hm,rfl⟩|⟨hm,m,t,p,rfl⟩
 ·rw [numOk_ok hm] at hn
  have hb:=atoi_bnd hm
  refine L.m rfl (L.o (O.extract rfl rfl (L.o (O.extract rfl rfl (L.a rfl (L.a rfl (L.nil (T.q (L.m rfl (L.o (O.eql_iface_yes (by kernel_rfl) rfl (L.m rfl (L.m rfl (L.o (O.call (xs:=[.tmp 13]) call54 rfl rfl (itoa_calls n w1 (hL.ext he1) (by omega) (by omega)) (fun v2 w2 hq=>?_))))))))))))))))
  obtain ⟨rfl,he2⟩:=hq
  rcases Classical.em (Lib.itoa n=s) with h1|h1
  ·refine L.m rfl (L.o (O.eql_str_t runUnderlying9 rfl rfl h1 (?_)))
   rcases Classical.em (-1000000000≤n) with h2|h2
   ·have h3:¬ n≤1000000000:=fun h=>by rw [if_pos ⟨h1,h2,h⟩] at hn;cases hn
    refine L.o (O.pick_true rfl rfl (L.m rfl (L.m rfl (L.o (O.geq_t rfl rfl h2 (L.o (O.pick_true rfl rfl (L.m rfl (L.m rfl (L.o (O.leq_f rfl rfl h3 (L.o (O.pick_true rfl rfl (L.callPan (xs:=[.tmp 25]) rfl call108 rfl rfl (need_no w2) (fun w' a hR ha=>⟨ha.defers,rfl,by rw [hR];exact he1.trans he2⟩)))))))))))))))
   ·refine L.o (O.pick_true rfl rfl (L.m rfl (L.m rfl (L.o (O.geq_f rfl rfl h2 (L.o (O.pick_true rfl rfl (L.m rfl (L.p (L.p (L.o (O.pick_false rfl rfl (L.callPan (xs:=[.tmp 25]) rfl call108 rfl rfl (need_no w2) (fun w' a hR ha=>⟨ha.defers,rfl,by rw [hR];exact he1.trans he2⟩))))))))))))))
  ·refine L.m rfl (L.o (O.eql_str_f runUnderlying9 rfl rfl h1 (L.o (O.pick_true rfl rfl (L.m rfl (L.p (L.p (L.o (O.pick_false rfl rfl (L.m rfl (L.p (L.p (L.o (O.pick_false rfl rfl (L.callPan (xs:=[.tmp 25]) rfl call108 rfl rfl (need_no w2) (fun w' a hR ha=>⟨ha.defers,rfl,by rw [hR];exact he1.trans he2⟩))))))))))))))))
 ·refine L.m rfl (L.o (O.extract rfl rfl (L.o (O.extract rfl rfl (L.a rfl (L.a rfl (L.nil (T.q (L.m rfl (L.o (O.eql_iface_no (by kernel_rfl) rfl rfl (L.m rfl (L.p (L.p (L.p (L.p (L.o (O.pick_false rfl rfl (L.m rfl (L.p (L.p (L.o (O.pick_false rfl rfl (L.m rfl (L.p (L.p (L.o (O.pick_false rfl rfl (?_)))))))))))))))))))))))))))))
  refine L.callPan (xs:=[.tmp 25]) rfl call108 rfl rfl (need_no w1) (fun w' a hR ha=>⟨ha.defers,rfl,by rw [hR];exact he1⟩)

open Go Go.E RowKit

def numsP:List Str→Option (List Int)
 | []=>some []
 | s::r=>match numOk s,numsP r with
  | some n,some ns=>some (n::ns)
  | _,_=>none
theorem numsP_some:∀ (ws:List Str) (xs:List Int),numsP ws=some xs→ws.length=xs.length∧∀ i,i<ws.length→numOk (ws.getD i [])=some (xs.getD i 0)
 | [],xs,h=>by cases h;exact ⟨rfl,fun i hi=>absurd hi (Nat.not_lt_zero _)⟩
 | s::r,xs,h=>by
  rw [numsP] at h
  cases hs:numOk s with
  | none=>rw [hs] at h;cases h
  | some n =>
   cases hr:numsP r with
   | none=>rw [hs,hr] at h;cases h
   | some ns =>
    rw [hs,hr] at h
    cases h
    obtain ⟨h1,h2⟩:=numsP_some r ns hr
    refine ⟨by simp [h1],fun i hi=>?_⟩
    cases i with
    | zero=>exact hs
    | succ i=>exact h2 i (by simpa using hi)
theorem numsP_none:∀ (ws:List Str),numsP ws=none→∃ m,m<ws.length∧numOk (ws.getD m [])=none∧∃ xs:List Int,xs.length=m∧∀ i,i<m→numOk (ws.getD i [])=some (xs.getD i 0)
 | [],h=>by cases h
 | s::r,h=>by
  cases hs:numOk s with
  | none=>exact ⟨0,by simp,hs,[],rfl,fun i hi=>absurd hi (Nat.not_lt_zero _)⟩
  | some n =>
   have hr:numsP r=none:=by
    cases hr:numsP r with
    | none=>rfl
    | some ns=>rw [numsP,hs,hr] at h;cases h
   obtain ⟨m,h1,h2,xs,h3,h4⟩:=numsP_none r hr
   refine ⟨m+1,by simpa using h1,h2,n::xs,by simp [h3],fun i hi=>?_⟩
   cases i with
   | zero=>exact hs
   | succ i=>exact h4 i (by omega)
theorem owns_one {base:Nat} {xs:List Int} {n:Int} {v:Value} {w:World} (h:w.ownsRow base 3 1 v (xs.length+1) (xs.map (Value.int .i64) ++ [.int .i64 n])):w.ownsRow base 3 1 v (xs ++ [n]).length ((xs ++ [n]).map (Value.int .i64)):=by
 rw [List.length_append,List.map_append];exact h
theorem mapped_yes (lo:Nat) (p:Value) (ws:List Str) (xs:List Int) (w:World) (hp:Strs lo w p ws) (hL:LibM w) (hs:∀ s∈ws,s.length≤100000) (hn:numsP ws=some xs) (hlen:ws.length≤1000000) :
  Calls Tryz.prog 159 #[p,.func (.func 160) #[] #[]] w (Ret fun v w'=>w'.ownsRow w.heap.size 3 1 v xs.length (xs.map (Value.int .i64))∧Ext w w'):=by
 obtain ⟨hl,hat⟩:=numsP_some ws xs hn
 refine T.enter (vs:=[p,.func (.func 160) #[] #[]]) func159 rfl ntmps159 rfl ?_
 refine T.q (L.a rfl (L.nil (T.q (L.a rfl (L.nil (T.seq (T.q (L.m rfl (L.o (O.len runUnderlying61 rfl (Sl.val hp) (L.m rfl (L.nil (T.block (?_))))))))))))))
 refine T.loop (σ:=Nat × Value) (fun g=>[(1,.func (.func 160) #[] #[]),(5,g.2),(8,p),(9,.int .i64 ws.length),(10,.int .i64 g.1)]) (fun g W=>g.1≤ws.length∧Ext w W∧W.ownsRow w.heap.size 3 1 g.2 (xs.take g.1).length ((xs.take g.1).map (Value.int .i64))) (fun g=>ws.length-g.1) ((0,.slice none 0 0)) ⟨rfl,rfl,rfl,rfl,rfl,trivial⟩ ⟨Nat.zero_le _,Keep.refl _ _,owns_nil _ _ _ _⟩ ?_
 rintro ⟨i,lv⟩ w1 ⟨hi,he1,hO1⟩
 simp only at hi hO1
 refine T.q (L.o (O.lss_s rfl rfl (fun hlt=>?_) (fun hlt=>?_)))
 ·refine L.nil (?_)
  have hlt':i<ws.length:=by simp only at hlt;omega
  have hsm:(ws.getD i []).length≤100000:=hs _ (by rw [getD_get hlt'];exact List.getElem_mem hlt')
  have htk:(xs.take i).length=i:=by rw [List.length_take];omega
  have hsn:xs.take (i+1)=xs.take i ++ [xs.getD i 0]:=by rw [List.take_succ_eq_append_getElem (by omega),getD_get (by omega)]
  refine T.seq (T.ct (T.skip (T.seq (T.block (T.q (L.o (O.indexAddr runUnderlying61 sizeOf9 rfl rfl (hp.ext he1) (by omega) (by omega) (L.o (O.load isAgg9 rfl ((hp.ext he1).at hlt') (L.a rfl (L.nil (T.region (L.m rfl (L.m rfl (L.m rfl (L.o (O.call (xs:=[.tmp 16]) call160 rfl rfl (number1_yes (ws.getD i []) (xs.getD i 0) w1 (hL.ext he1) hsm (hat i hlt')) (fun v2 w2 hq=>?_))))))))))))))))))
  obtain ⟨rfl,he2⟩:=hq
  refine L.o (O.buildSlice (el:=3) (parts:=[(0,.tmp 17)]) (vs:=[(0,_)]) (cs:=[.int .i64 (xs.getD i 0)]) rfl (fun w=>by kernel_rfl) (fun b18 w18 hb18 hz18 he18 hB18=>?_))
  have he118:=he2.trans he18
  refine L.o (O.append (size:=1) (bytes:=8) runUnderlying30 Tryz.infoOf3 rfl rfl rfl rfl (by decide) rfl rfl (owns_keep hO1 (he118.mono (Nat.zero_le _)) (Nat.le_refl _)) (Sl.of_blk (lo:=0) (n:=1) (sz:=1) hB18 rfl (Nat.le_refl 1) (by decide) (Nat.zero_le _)) (by intro u hu;simp at hu;subst hu;rfl) (by omega) (by simp only [maxLen];omega) (by have:=he1.size;have:=he118.size;omega) (fun v19 w19 hO19 hG19=>?_))
  have he19:Ext w w19:=Keep.grown0 (he1.trans he118) (owns_keep hO1 (he118.mono (Nat.zero_le _)) (Nat.le_refl _)) hG19 (Nat.le_refl _)
  refine L.a rfl (L.nil (T.blk (T.region (L.o (O.add64 rfl rfl (by (try dsimp only);omega) (L.m rfl (L.nil (T.again ((i+1,v19)) (show ws.length-(i+1)<ws.length-i by omega) ⟨rfl,rfl,rfl,rfl,rfl,trivial⟩ ⟨hlt',he19,by rw [hsn];exact owns_one hO19⟩))))))))
 ·refine L.nil (?_)
  obtain rfl:i=ws.length:=by simp only at hlt;omega
  rw [List.take_of_length_le (by omega)] at hO1
  refine T.seq (T.cf (T.exit rfl (T.q (L.m rfl (L.a rfl (L.nil (T.ret1 results159 rfl ⟨hO1,he1⟩)))))))

theorem mapped_no (lo:Nat) (p:Value) (ws:List Str) (w:World) (hp:Strs lo w p ws) (hL:LibM w) (hs:∀ s∈ws,s.length≤100000) (hn:numsP ws=none) (hlen:ws.length≤1000000) :
  Calls Tryz.prog 159 #[p,.func (.func 160) #[] #[]] w (Pan (wrongV) fun w'=>Ext w w'):=by
 obtain ⟨m,hm,hbad,xs,hl,hat⟩:=numsP_none ws hn
 refine T.enterP (vs:=[p,.func (.func 160) #[] #[]]) func159 rfl ntmps159 rfl ?_
 refine T.q (L.a rfl (L.nil (T.q (L.a rfl (L.nil (T.seq (T.q (L.m rfl (L.o (O.len runUnderlying61 rfl (Sl.val hp) (L.m rfl (L.nil (T.block (?_))))))))))))))
 refine T.loop (σ:=Nat × Value) (fun g=>[(1,.func (.func 160) #[] #[]),(5,g.2),(8,p),(9,.int .i64 ws.length),(10,.int .i64 g.1)]) (fun g W=>g.1≤m∧Ext w W∧W.ownsRow w.heap.size 3 1 g.2 (xs.take g.1).length ((xs.take g.1).map (Value.int .i64))) (fun g=>ws.length-g.1) ((0,.slice none 0 0)) ⟨rfl,rfl,rfl,rfl,rfl,trivial⟩ ⟨Nat.zero_le _,Keep.refl _ _,owns_nil _ _ _ _⟩ ?_
 rintro ⟨i,lv⟩ w1 ⟨hi,he1,hO1⟩
 simp only at hi hO1
 have hlt':i<ws.length:=by omega
 have hsm:(ws.getD i []).length≤100000:=hs _ (by rw [getD_get hlt'];exact List.getElem_mem hlt')
 refine T.q (L.o (O.lss_t rfl rfl (by (try dsimp only);omega) (L.nil (T.seq (T.ct (T.skip (T.seq (T.block (T.q (L.o (O.indexAddr runUnderlying61 sizeOf9 rfl rfl (hp.ext he1) (by omega) (by omega) (L.o (O.load isAgg9 rfl ((hp.ext he1).at hlt') (?_))))))))))))))
 rcases Nat.lt_or_ge i m with him|him
 ·have htk:(xs.take i).length=i:=by rw [List.length_take];omega
  have hsn:xs.take (i+1)=xs.take i ++ [xs.getD i 0]:=by rw [List.take_succ_eq_append_getElem (by omega),getD_get (by omega)]
  refine L.a rfl (L.nil (T.region (L.m rfl (L.m rfl (L.m rfl (L.o (O.call (xs:=[.tmp 16]) call160 rfl rfl (number1_yes (ws.getD i []) (xs.getD i 0) w1 (hL.ext he1) hsm (hat i him)) (fun v2 w2 hq=>?_))))))))
  obtain ⟨rfl,he2⟩:=hq
  refine L.o (O.buildSlice (el:=3) (parts:=[(0,.tmp 17)]) (vs:=[(0,_)]) (cs:=[.int .i64 (xs.getD i 0)]) rfl (fun w=>by kernel_rfl) (fun b18 w18 hb18 hz18 he18 hB18=>?_))
  have he118:=he2.trans he18
  refine L.o (O.append (size:=1) (bytes:=8) runUnderlying30 Tryz.infoOf3 rfl rfl rfl rfl (by decide) rfl rfl (owns_keep hO1 (he118.mono (Nat.zero_le _)) (Nat.le_refl _)) (Sl.of_blk (lo:=0) (n:=1) (sz:=1) hB18 rfl (Nat.le_refl 1) (by decide) (Nat.zero_le _)) (by intro u hu;simp at hu;subst hu;rfl) (by omega) (by simp only [maxLen];omega) (by have:=he1.size;have:=he118.size;omega) (fun v19 w19 hO19 hG19=>?_))
  have he19:Ext w w19:=Keep.grown0 (he1.trans he118) (owns_keep hO1 (he118.mono (Nat.zero_le _)) (Nat.le_refl _)) hG19 (Nat.le_refl _)
  refine L.a rfl (L.nil (T.blk (T.region (L.o (O.add64 rfl rfl (by (try dsimp only);omega) (L.m rfl (L.nil (T.again ((i+1,v19)) (show ws.length-(i+1)<ws.length-i by omega) ⟨rfl,rfl,rfl,rfl,rfl,trivial⟩ ⟨him,he19,by rw [hsn];exact owns_one hO19⟩))))))))
 ·obtain rfl:i=m:=by omega
  refine L.a rfl (L.nil (T.region (L.m rfl (L.m rfl (L.m rfl (L.callPan (xs:=[.tmp 16]) rfl call160 rfl rfl (number1_no (ws.getD i []) w1 (hL.ext he1) hsm hbad) (fun w' a hR ha=>⟨ha.defers,rfl,he1.trans hR⟩)))))))

theorem numbers_yes (lo:Nat) (p:Value) (ws:List Str) (xs:List Int) (w:World) (hp:Strs lo w p ws) (hL:LibM w) (hs:∀ s∈ws,s.length≤100000) (hn:numsP ws=some xs) (hlen:ws.length≤1000000) :
  Calls Tryz.prog 122 #[p] w (Ret fun v w'=>w'.ownsRow w.heap.size 3 1 v xs.length (xs.map (Value.int .i64))∧Ext w w'):=by
 refine T.enter (vs:=[p]) func122 rfl ntmps122 rfl ?_
 refine T.q (L.a rfl (L.nil (T.q (L.m rfl (L.o (O.call (xs:=[.tmp 3,.func 160]) call159 rfl rfl (mapped_yes lo p ws xs w hp hL hs hn hlen) (fun v1 w1 hq=>?_)))))))
 obtain ⟨hO,he⟩:=hq
 refine L.a rfl (L.nil (T.ret1 results122 rfl ⟨hO,he⟩))

theorem numbers_no (lo:Nat) (p:Value) (ws:List Str) (w:World) (hp:Strs lo w p ws) (hL:LibM w) (hs:∀ s∈ws,s.length≤100000) (hn:numsP ws=none) (hlen:ws.length≤1000000) :
  Calls Tryz.prog 122 #[p] w (Pan (wrongV) fun w'=>Ext w w'):=by
 refine T.enterP (vs:=[p]) func122 rfl ntmps122 rfl ?_
 refine T.q (L.a rfl (L.nil (T.q (L.m rfl (L.callPan (xs:=[.tmp 3,.func 160]) rfl call159 rfl rfl (mapped_no lo p ws w hp hL hs hn hlen) (fun w' a hR ha=>⟨ha.defers,rfl,hR⟩))))))

open Go Go.E RowKit

/-- The words of a line. -/
def fieldsB (s:Str):List Str:=(Lib.goFieldsP (fun r=>decide (r=32)) ⟨s.toArray⟩).map fun x=>x.data.toList
theorem blank_calls (x:Nat) (w:World) :
  Calls Tryz.prog 121 #[.int .i32 x] w (Ret fun v w'=>v = .bool (decide (x=32))∧w'=w):=by
 refine T.enter (vs:=[.int .i32 x]) func121 rfl ntmps121 rfl ?_
 refine T.q (L.a rfl (L.nil (T.q (L.m rfl (L.o (O.eql rfl rfl (L.a rfl (L.nil (T.ret1 results121 rfl ⟨congrArg Value.bool (decide_eq_decide.2 (by omega)),rfl⟩)))))))))

theorem fields_calls (s:Str) (w:World) (hs:s.length≤100000):Calls Tryz.prog 120 #[str s,.func (.func 121) #[] #[]] w (Ret fun v w'=>∃ A,v = .slice (some ⟨A,0,none⟩) (fieldsB s).length (fieldsB s).length∧Strs w.heap.size w' v (fieldsB s)∧Ext w w'):=by
 refine (Tryz.strings_FieldsFunc_grows 121 #[] call121 (fun r=>decide (r=32)) ⟨s.toArray⟩ w (by simp [ByteArray.size];omega) (fun W x _ _=>(blank_calls x W).mono ?_)).mono ?_
 ·rintro (v|_|_) w' h
  ·obtain ⟨h1,h2⟩:=h
   subst h1;subst h2
   exact ⟨rfl,Below.refl _ _⟩
  ·exact h.elim
  ·exact h.elim
 ·rintro e w' ⟨A,rfl,hA,hO,hb⟩
  have hlen:(Lib.goFieldsP (fun r=>decide (r=32)) ⟨s.toArray⟩).length=(fieldsB s).length:=by simp [fieldsB]
  have hmap:(Lib.goFieldsP (fun r=>decide (r=32)) ⟨s.toArray⟩).map Value.string=(fieldsB s).map str:=by
   simp only [fieldsB,List.map_map]
   rfl
  rw [hlen,hmap] at hO
  exact ⟨A,by rw [hlen],by rw [hlen];exact Sl.of_owns hO,Ext.of_below hb⟩
theorem idxStr_calls (lo:Nat) (p:Value) (xs:List Str) (s:Str) (w:World) (hp:Strs lo w p xs) :
  Calls Tryz.prog 162 #[p,str s] w (Ret fun v w'=>∃ n:Int,v = .int .i64 n∧(0≤n↔s∈xs)∧w'=w):=by
 have hle:=Sl.le hp
 refine T.enter (vs:=[p,str s]) func162 rfl ntmps162 rfl ?_
 refine T.q (L.a rfl (L.nil (T.seq (T.q (L.m rfl (L.o (O.len runUnderlying61 rfl (Sl.val hp) (L.m rfl (L.nil (T.block (?_)))))))))))
 refine T.loop (σ:=Nat) (fun i=>[(0,p),(1,str s),(7,.int .i64 xs.length),(8,.int .i64 i)]) (fun i w'=>i≤xs.length∧w'=w∧∀ k,k<i→xs.getD k []≠s) (fun i=>xs.length-i) (0) ⟨rfl,rfl,rfl,rfl,trivial⟩ ⟨Nat.zero_le _,rfl,fun k hk=>absurd hk (Nat.not_lt_zero _)⟩ ?_
 rintro i w1 ⟨hi,rfl,hall⟩
 refine T.q (L.o (O.lss_s rfl rfl (fun hlt=>?_) (fun hlt=>?_)))
 ·refine L.nil (?_)
  have hlt':i<xs.length:=by omega
  refine T.seq (T.ct (T.skip (T.seq (T.block (T.q (L.m rfl (L.a rfl (L.nil (T.q (L.m rfl (L.m rfl (L.m rfl (L.o (O.indexAddr runUnderlying61 sizeOf9 rfl rfl hp (by omega) (by omega) (L.o (O.load isAgg9 rfl (hp.at hlt') (L.o (O.eql_str_s runUnderlying9 rfl rfl (fun hb=>?_) (fun hb=>?_)))))))))))))))))))
  ·refine L.nil (T.ct (T.q (L.m rfl (L.a rfl (L.nil (T.ret1 results162 rfl ⟨i,rfl,⟨fun _=>by rw [hb,getD_get hlt'];exact List.getElem_mem hlt',fun _=>by omega⟩,rfl⟩))))))
  ·refine L.nil (T.cf (T.skip (T.blk (T.region (L.o (O.add64 rfl rfl (by omega) (L.m rfl (L.nil (T.again (i+1) (by omega) ⟨rfl,rfl,rfl,rfl,trivial⟩ ⟨hlt',rfl,fun k hk=>by rcases Nat.lt_or_ge k i with h|h;exact hall k h;obtain rfl:k=i:=(by omega);exact fun e=>hb e.symm⟩)))))))))
 ·refine L.nil (?_)
  obtain rfl:i=xs.length:=by omega
  refine T.seq (T.cf (T.exit rfl (T.q (L.a rfl (L.nil (T.ret1 results162 rfl ⟨-1,rfl,⟨fun h=>by omega,fun h=>?_⟩,rfl⟩))))))
  obtain ⟨k,hk,e⟩:=List.getElem_of_mem h
  have:=hall k hk
  rw [getD_get hk,e] at this
  exact absurd rfl this

theorem cntStr_calls (lo:Nat) (p:Value) (xs:List Str) (s:Str) (w:World) (hp:Strs lo w p xs) :
  Calls Tryz.prog 124 #[p,str s] w (Ret fun v w'=>v = .bool (decide (s∈xs))∧w'=w):=by
 refine T.enter (vs:=[p,str s]) func124 rfl ntmps124 rfl ?_
 refine T.q (L.a rfl (L.nil (T.q (L.m rfl (L.m rfl (L.o (O.call (xs:=[.tmp 5,.tmp 6]) call162 rfl rfl (idxStr_calls lo p xs s w hp) (fun v1 w1 hq=>?_))))))))
 obtain ⟨n,rfl,hn,rfl⟩:=hq
 refine L.o (O.geq rfl rfl (L.a rfl (L.nil (T.ret1 results124 rfl ⟨congrArg Value.bool (decide_eq_decide.2 hn),rfl⟩))))

theorem after_calls (lo:Nat) (p:Value) (xs:List Str) (b:Nat) (cs:List Value) (s:Str) (w:World) (hp:Strs lo w p xs) (hB:Blk w b cs 129) (h6:cs[6]?=some (str s)) :
  Calls Tryz.prog 68 #[.pointer (some ⟨b,0,none⟩),p] w (Ret fun v w'=>v = .bool (decide (s∈xs))∧w'=w):=by
 refine T.enter (vs:=[.pointer (some ⟨b,0,none⟩),p]) func68 rfl ntmps68 rfl ?_
 refine T.q (L.a rfl (L.nil (T.q (L.m rfl (L.m rfl (L.o (O.nilCheck rfl (L.o (O.fieldAddr runUnderlying129 rfl sizeOf9 rfl (L.o (O.load isAgg9 rfl (hB.cell h6) (L.o (O.call (xs:=[.tmp 5,.tmp 9]) call124 rfl rfl (cntStr_calls lo p xs s w hp) (fun v1 w1 hq=>?_))))))))))))))
 obtain ⟨rfl,rfl⟩:=hq
 refine L.a rfl (L.nil (T.ret1 results68 rfl ⟨rfl,rfl⟩))

end Go.Proofs.YtnlonpcbgjbbaaaGreatDoor
