/-
  BlocksBack, part 16 of its proof: that it returns true for every input, and each argument reads behind the call as it read before. Conditions: the listed variables read as the program's text lays them (tied by the card).
-/
import Derived.Test.YtnlonpcbgjbbaaaGreatDoorWBlocksBack15
set_option linter.unusedVariables false
set_option linter.unusedSimpArgs false
set_option maxRecDepth 20000
set_option linter.unusedVariables false
set_option linter.unusedSimpArgs false
set_option maxRecDepth 20000
namespace Go.Proofs.YtnlonpcbgjbbaaaGreatDoor
open Go.Proofs.Tryz (call108 call117 call121 call124 call157 call159 call160 call161 call162 call34 call54 call55 call65 func117 func121 func122 func124 func157 func159 func160 func162 func19 func65 func68 isAgg124 isAgg125 isAgg127 isAgg23 isAgg3 isAgg30 isAgg4 isAgg43 isAgg44 isAgg48 isAgg51 isAgg9 ntmps117 ntmps121 ntmps122 ntmps124 ntmps157 ntmps159 ntmps160 ntmps162 ntmps19 ntmps65 ntmps68 results117 results121 results122 results124 results157 results159 results160 results162 results19 results65 results68 runUnderlying124 runUnderlying125 runUnderlying127 runUnderlying129 runUnderlying23 runUnderlying25 runUnderlying3 runUnderlying30 runUnderlying43 runUnderlying44 runUnderlying46 runUnderlying48 runUnderlying51 runUnderlying61 runUnderlying9 sizeOf124 sizeOf125 sizeOf127 sizeOf23 sizeOf25 sizeOf3 sizeOf30 sizeOf4 sizeOf43 sizeOf44 sizeOf46 sizeOf48 sizeOf51 sizeOf9 zeroValue124 zeroValue127 zeroValue51)
open Go Go.E RowKit
attribute [local irreducible] Go.E.T Go.E.L Go.E.O Go.E.Ob
attribute [local irreducible] Go.E.ObX Go.E.ObG Go.E.ObK
theorem Wl {a b:List Int} (hl:a.length=b.length) (h:∀ j,j<a.length→a.getD j 0=b.getD j 0):a=b:=by
 refine List.ext_getElem hl fun j h1 h2=>?_
 have:=h j h1
 rwa [au h1,au h2] at this
open Go Go.E RowKit
theorem yT {d c:UInt8} {r:Str} (h:c=d):aS d (c::r) = []::aS d r:=by
 subst h;exact nX (w:=[]) (by simp)
theorem yU {d c:UInt8} {r w:Str} {ws:List Str} (h:c≠d) (hr:aS d r=w::ws):aS d (c::r)=(c::w)::ws:=by
 rw [aS];simp [h,hr]
theorem BD (d:UInt8) (v:Str):∀ u:Str,aS d (u++d::v)=aS d u++aS d v
 | []=>by rw [List.nil_append,yT rfl];rfl
 | c::u=>by
  have ih:=BD d v u
  by_cases h:c=d
  ·rw [List.cons_append,yT h,yT h,ih];rfl
  cases hu:aS d u with
  | nil=>exact absurd hu (xC d u)
  | cons w ws =>
   rw [hu] at ih
   rw [List.cons_append,yU h ih,yU h hu];rfl
theorem Sm {t:Str} (u:Str) (h:t=u ++ [10]):D8 t=u:=by
 subst h
 have hs:Lib.hasSuffix (u ++ [10]) [10]=true:=by rw [Lib.hasSuffix];exact List.isSuffixOf_iff_suffix.2 ⟨u,rfl⟩
 rw [D8,if_pos hs,Lib.trimSuffix,if_pos hs]
 simp
theorem yV {nm:Nat→Str} : ∀ {n:Nat},ab6 nm n→((keysA nm n).map (·.1)).Nodup
 | 0,_=>by simp [keysA]
 | n+1,h=>by
  rw [tV,List.map_append,List.nodup_append]
  refine ⟨yV ⟨fun i j a b=>h.diff i j a (by omega),fun i a=>h.comma i (by omega)⟩,by simp,?_⟩
  intro a ha b hb e
  simp only [List.map_cons,List.map_nil,List.mem_singleton] at hb
  subst hb;subst e
  exact yL (fun k hk=>h.diff k n hk (by omega)) ha
open Go Go.E RowKit
theorem JQ (n:Nat) (w:World) (h0:0<n) (hn:n≤1000000) :
  Calls Tryz.prog 157 #[.slice none 0 0,.int .i64 n] w (Ret fun v w'=>Ext w w'∧w'.ownsRow w.heap.size 3 1 v 0 []):=by
 refine T.enter (vs:=[.slice none 0 0,.int .i64 n]) func157 rfl ntmps157 rfl ?_
 refine T.q (L.a rfl (L.nil (T.seq (T.q (L.m rfl (L.o (O.xk rfl rfl (by omega) (L.nil (T.cf (T.skip (T.seq (T.q (L.m rfl (L.m rfl (L.o (O.adw runUnderlying30 rfl (L.m rfl (L.o (O.len runUnderlying30 rfl (Sl.val (La 0 w 1)) (L.o (O.gq rfl rfl (by omega) (L.o (O.gq rfl rfl (by omega) (L.a rfl (L.nil (?_))))))))))))))))))))))))))
 refine T.q (L.m rfl (L.o (O.Cm rfl rfl (by omega) (L.nil (T.ct (T.region (L.m rfl (L.m rfl (L.o (O.adw runUnderlying30 rfl (L.o (O.lq (m:=0) runUnderlying30 sizeOf3 rfl rfl (by decide) (by decide) (L.m rfl (L.o (O.oW (n:=n) (size:=1) (bytes:=8) runUnderlying30 runUnderlying3 Tryz.jU rfl rfl rfl rfl (by decide) rfl (by show some (Value.int .i64 _)=some (Value.int .i64 _);congr 2) h0 hn (by omega) (fun cap w1 cur he1 hc1 hc2 hB1 hl1=>?_))))))))))))))))
 refine L.m rfl (L.o (O.len runUnderlying30 rfl (Sl.val (La 0 w1 1)) (L.o (O.lq (m:=0) runUnderlying30 sizeOf3 rfl rfl (by decide) (by omega) (L.a rfl (L.nil (T.q (L.m rfl (L.a rfl (L.nil (T.aU results157 rfl ⟨he1,rfl,.inr ⟨_,cap,cur.toArray,rfl,Nat.le_refl _,hB1,Nat.zero_le _,hc2,by simpa using hl1,by simp⟩⟩)))))))))))
theorem Ea (lo lo2:Nat) (p:Value) (vs:List Value) (css:List (List Value)) (w:World) (hp:Sl lo w p vs.length 1 vs) (hv:LoL lo2 w vs css) (h0:0<css.flatten.length) (hn:css.flatten.length≤1000000) (h1:∀ c∈css.flatten,c.oneCell'=true) :
  Calls Tryz.prog 117 #[p] w (Ret fun v w'=>Ext w w'∧Sl w.heap.size w' v css.flatten.length 1 css.flatten):=by
 have hle:=Sl.le hp
 have hvl:=hv.1
 refine T.enter (vs:=[p]) func117 rfl ntmps117 rfl ?_
 refine T.q (L.a rfl (L.nil (T.q (L.a rfl (L.nil (T.seq (T.q (L.m rfl (L.o (O.len runUnderlying125 rfl (Sl.val hp) (L.m rfl (L.nil (T.block (?_))))))))))))))
 refine T.loop (σ:=Nat) (fun i=>[(0,p),(3,.int .i64 (fl css i).length),(9,p),(10,.int .i64 vs.length),(11,.int .i64 i)]) (fun i w'=>i≤vs.length∧w'=w) (fun i=>vs.length-i) (0) ⟨rfl,rfl,rfl,rfl,rfl,trivial⟩ ⟨Nat.zero_le _,rfl⟩ ?_
 rintro i w1 ⟨hi,rfl⟩
 refine T.q (L.o (O.bF rfl rfl (fun hlt=>?_) (fun hlt=>?_)))
 ·refine L.nil (?_)
  have hlt':i<css.length:=by omega
  have hs:=hv.2 i hlt'
  have hfl:=Vf css (i+1)
  have hfs:=congrArg List.length (sV css i hlt')
  rw [List.length_append] at hfs
  refine T.seq (T.ct (T.skip (T.seq (T.block (T.q (L.o (O.indexAddr runUnderlying125 sizeOf30 rfl rfl hp (by omega) (by omega) (L.o (O.load isAgg30 rfl (by rw [Int.toNat_natCast,Nat.mul_one];exact Sl.cell hp (show vs[i]?=some (vs.getD i undef) by rw [au (by omega)];simp [hvl,hlt'])) (L.a rfl (L.nil (T.q (L.m rfl (L.m rfl (L.o (O.len runUnderlying30 rfl (Sl.val hs) (L.o (O.aI rfl rfl (by omega) (L.a rfl (L.nil (T.q (L.m rfl (L.o (O.xk rfl rfl (by omega) (L.nil (?_))))))))))))))))))))))))))
  refine T.cf (T.skip (T.blk (T.region (L.o (O.aI rfl rfl (by omega) (L.m rfl (L.nil (T.again (i+1) (by omega) ⟨rfl,?_,rfl,rfl,rfl,trivial⟩ ⟨by omega,rfl⟩))))))))
  ·rw [hfs];rfl
 refine L.nil (?_)
 obtain rfl:i=vs.length:=by omega
 have hfe:fl css vs.length=css.flatten:=by rw [hvl,fl,List.take_length]
 rw [hfe]
 refine T.seq (T.cf (T.exit rfl (T.q (L.m rfl (L.o (O.call (xs:=[.const (.slice none 0 0),.tmp 23]) call157 rfl rfl (JQ css.flatten.length w1 h0 hn) (fun v2 w2 hq=>?_)))))))
 obtain ⟨he2,hO2⟩:=hq
 refine L.a rfl (L.nil (T.seq (T.q (L.m rfl (L.o (O.len runUnderlying125 rfl (Sl.val (Sl.ext hp he2)) (L.m rfl (L.nil (T.block (?_))))))))))
 refine T.loop (σ:=Nat × Value) (fun s=>[(6,s.2),(25,p),(26,.int .i64 vs.length),(27,.int .i64 s.1)]) (fun s w'=>s.1≤vs.length∧Ext w1 w'∧w'.ownsRow w1.heap.size 3 1 s.2 (fl css s.1).length (fl css s.1)) (fun s=>vs.length-s.1) ((0,v2)) ⟨rfl,rfl,rfl,rfl,trivial⟩ ⟨Nat.zero_le _,he2,hO2⟩ ?_
 rintro ⟨k,s⟩ w3 ⟨hk,he3,hO3⟩
 simp only at hk hO3
 refine T.q (L.o (O.bF rfl rfl (fun hlt2=>?_) (fun hlt2=>?_)))
 ·refine L.nil (?_)
  have hlt':k<css.length:=by simp only at hlt2;omega
  have hs:=(hv.ext he3).2 k hlt'
  have hp3:Sl lo w3 p vs.length 1 vs:=Sl.ext hp he3
  have hfl:=Vf css (k+1)
  have hfs:=congrArg List.length (sV css k hlt')
  rw [List.length_append] at hfs
  refine T.seq (T.ct (T.skip (T.seq (T.block (T.q (L.o (O.indexAddr runUnderlying125 sizeOf30 rfl rfl hp3 (by omega) (by omega) (L.o (O.load isAgg30 rfl (by rw [Int.toNat_natCast,Nat.mul_one];exact Sl.cell hp3 (show vs[k]?=some (vs.getD k undef) by rw [au (by omega)];simp [hvl,hlt'])) (L.a rfl (L.nil (T.region (L.m rfl (L.m rfl (L.o (O.append (size:=1) (bytes:=8) runUnderlying30 Tryz.jU rfl rfl rfl rfl (by decide) rfl rfl hO3 hs (fun c hc=>h1 c (by rw [← List.take_append_drop k css,List.flatten_append];exact List.mem_append_right _ (List.mem_flatten.2 ⟨_,by rw [au hlt'];exact List.mem_drop_iff_getElem.2 ⟨0,by omega,rfl⟩,hc⟩))) (by omega) (by simp only [maxLen];omega) he3.size (fun v4 w4 hO4 hG4=>?_)))))))))))))))))
  have Jm:Ext w1 w4:=Keep.fO he3 hO3 hG4 (Nat.le_refl _)
  refine L.a rfl (L.nil (T.blk (T.region (L.o (O.aI rfl rfl (by simp only;omega) (L.m rfl (L.nil (T.again ((k+1,v4)) (by omega) ⟨rfl,rfl,rfl,rfl,trivial⟩ ⟨by simp only;omega,Jm,by rw [hfs,sV css k hlt'];exact hO4⟩))))))))
 refine L.nil (?_)
 obtain rfl:k=vs.length:=by simp only at hlt2;omega
 rw [hfe] at hO3
 refine T.seq (T.cf (T.exit rfl (T.q (L.m rfl (L.a rfl (L.nil (T.aU results117 rfl ⟨he3,Sl.aT hO3⟩)))))))
def spell (xs:List Int):Str:=xs.flatMap fun x=>32::Lib.itoa x
theorem Oc {xs:List Int} {i:Nat} (hi:i<xs.length):spell (xs.take (i+1))=spell (xs.take i)++(32::Lib.itoa (xs.getD i 0)):=by
 rw [List.take_succ_eq_append_getElem hi,spell,spell,List.flatMap_append,au hi];simp
def Pn (xs:List Int):Prop:=∀ x∈xs,-9223372036854775808≤x∧x≤9223372036854775807
theorem Pn.at {xs:List Int} (h:Pn xs) {i:Nat} (hi:i<xs.length) : -9223372036854775808≤xs.getD i 0∧xs.getD i 0≤9223372036854775807:=by
 rw [au hi];exact h _ (List.getElem_mem hi)
theorem nD:∀ (xs:List Int),Pn xs→(spell xs).length≤22*xs.length
 | [],_=>by simp [spell]
 | x::r,h=>by
  have h1:=nD r fun y hy=>h y (List.mem_cons_of_mem _ hy)
  have hx:=h x (by simp)
  have h2:=Lib.itoa_length_le x hx.1 hx.2
  have e:spell (x::r)=(32::Lib.itoa x)++spell r:=rfl
  rw [e,List.length_append,List.length_cons,List.length_cons]
  omega
theorem yX (h:Str) (lo lo2:Nat) (p:Value) (vs:List Value) (css:List (List Value)) (xs:List Int) (w:World) (hp:Sl lo w p vs.length 1 vs) (hv:LoL lo2 w vs css) (hx:css.flatten=xs.map (Value.int .i64)) (h0:0<xs.length) (hn:xs.length≤100000) (hi:Pn xs) (hL:jc w) (hh:h.length≤100000) :
  Calls Tryz.prog 65 #[str h,p] w (Ret fun v w'=>v=str (h++spell xs)∧Ext w w'):=by
 have hfl:css.flatten.length=xs.length:=by rw [hx,List.length_map]
 refine T.enter (vs:=[str h,p]) func65 rfl ntmps65 rfl ?_
 refine T.q (L.a rfl (L.nil (T.seq (T.q (L.m rfl (L.o (O.call (xs:=[.tmp 7]) call117 rfl rfl (Ea lo lo2 p vs css w hp hv (by omega) (by omega) (by rw [hx];intro c hc;obtain ⟨x,_,rfl⟩:=List.mem_map.1 hc;rfl)) (fun v1 w1 hq=>?_))))))))
 obtain ⟨he1,hS1⟩:=hq
 rw [hfl,hx] at hS1
 have hI1:Ints .i64 w.heap.size w1 v1 xs:=hS1
 refine L.o (O.len runUnderlying30 rfl (Sl.val hI1) (L.m rfl (L.nil (T.block (?_)))))
 refine T.loop (σ:=Nat) (fun i=>[(0,str (h++spell (xs.take i))),(8,v1),(9,.int .i64 xs.length),(10,.int .i64 i)]) (fun i W=>i≤xs.length∧Ext w1 W) (fun i=>xs.length-i) (0) ⟨?_,rfl,rfl,rfl,trivial⟩ ⟨Nat.zero_le _,Keep.refl _ _⟩ ?_
 ·exact congrArg (fun z=>some (str z)) (by simp [spell])
 rintro i w2 ⟨hi2,he2⟩
 refine T.q (L.o (O.bF rfl rfl (fun hlt=>?_) (fun hlt=>?_)))
 ·refine L.nil (?_)
  have hlt':i<xs.length:=by omega
  have hb:=hi.at hlt'
  have hsl:=nD (xs.take i) (fun x hx=>hi x (List.mem_of_mem_take hx))
  have hil:=Lib.itoa_length_le (xs.getD i 0) hb.1 hb.2
  rw [List.length_take,Nat.min_eq_left (by omega)] at hsl
  refine T.seq (T.ct (T.skip (T.seq (T.block (T.q (L.o (O.indexAddr runUnderlying30 sizeOf3 rfl rfl (hI1.ext he2) (by omega) (by omega) (L.o (O.load isAgg3 rfl (Ints.at (hI1.ext he2) hlt') (L.a rfl (L.nil (T.region (L.m rfl (L.m rfl (L.o (O.call (xs:=[.tmp 15]) call54 rfl rfl (oH (xs.getD i 0) w2 (hL.ext (he1.trans he2)) hb.1 hb.2) (fun v3 w3 hq=>?_)))))))))))))))))
  obtain ⟨rfl,he3⟩:=hq
  refine L.o (O.jV rfl rfl (by show 1+_≤_;omega) (L.o (O.jV rfl rfl (by rw [List.length_append,List.length_append];show h.length+_+(1+(Lib.itoa (xs.getD i 0)).length)≤_;omega) (L.a rfl (L.nil (T.blk (T.region (L.o (O.aI rfl rfl (by omega) (L.m rfl (L.nil (T.again (i+1) (by omega) ⟨?_,rfl,rfl,rfl,trivial⟩ ⟨hlt',he2.trans he3⟩))))))))))))
  ·exact congrArg (fun z=>some (str z)) (by rw [Oc hlt'];simp [List.append_assoc])
 refine L.nil (?_)
 obtain rfl:i=xs.length:=by omega
 rw [List.take_length]
 refine T.seq (T.cf (T.exit rfl (T.q (L.m rfl (L.a rfl (L.nil (T.aU results65 rfl ⟨rfl,he1.trans he2⟩)))))))
open Go Go.E RowKit
def bn:Str:=[108,97,110,100]
def aK:Str:=[112,111,105,110,116]
def aY:Str:=[102,97,99,101]
def aZ:Str:=[104,111,108,101]
def Sr:Str:=[117,110,105,116,32]
def GY:Str:=[32,119,97,116,101,114]
def fA:Str:=[101,110,100]
def ptL (p:Pt):Str:=aK++spell [p.1,p.2]
def uf (f:FaV):List Str:=(aY++spell f.o.xs)::f.hs.map fun h=>aZ++spell h.xs
def dw (u:UnV):List Int:=u.pp::u.gs++u.vs++u.ps
def wz (u:UnV):Str:=Sr++u.nm++spell (dw u)++(if u.wt=true then GY else [])
def lA (r:RoV):List Str:=[bn++spell [r.G,r.P,r.L]]
def lB (c:CxV) (r:RoV) (i:Nat):List Str:=lA r++(c.ps.take i).map ptL
def lC (c:CxV) (r:RoV) (i:Nat):List Str:=lA r++c.ps.map ptL++(c.fs.take i).flatMap uf
def lH (c:CxV) (r:RoV) (i:Nat) (f:FaV) (j:Nat):List Str:=lC c r i ++ [aY++spell f.o.xs]++(f.hs.take j).map fun h=>aZ++spell h.xs
def lD (c:CxV) (r:RoV) (i:Nat):List Str:=lA r++c.ps.map ptL++c.fs.flatMap uf++(r.us.take i).map wz
def fM (c:CxV) (r:RoV):List Str:=lA r++c.ps.map ptL++c.fs.flatMap uf++r.us.map wz ++ [fA]
structure vF (c:CxV) (r:RoV):Prop where
 roll:Pn [r.G,r.P,r.L]
 pts:∀ p∈c.ps,Pn [p.1,p.2]
 rim:∀ f∈c.fs,Pn f.o.xs∧0<f.o.xs.length∧f.o.xs.length≤1000
 hole:∀ f∈c.fs,∀ h∈f.hs,Pn h.xs∧0<h.xs.length∧h.xs.length≤1000
 unit:∀ u∈r.us,Pn (dw u)∧(dw u).length≤1000∧u.nm.length≤1000
 len:(aF (fM c r)).length≤1000000
theorem GZ:∀ ls:List Str,ls.length≤(aF ls).length
 | []=>Nat.le_refl _
 | l::r=>by
  have:=GZ r
  have e:aF (l::r)=l ++ [10]++aF r:=by simp [aF]
  rw [e,List.length_append,List.length_append,List.length_cons]
  simp only [List.length_cons,List.length_nil]
  omega
theorem vF.lines {c:CxV} {r:RoV} (h:vF c r):(fM c r).length≤1000000:=Nat.le_trans (GZ _) h.len
theorem Y9 {α:Type} (f:α→List Str) (l:List α) (i:Nat):((l.take i).flatMap f).length≤(l.flatMap f).length:=by
 have e:l.flatMap f=(l.take i).flatMap f++(l.drop i).flatMap f:=by rw [← List.flatMap_append,List.take_append_drop]
 rw [e,List.length_append];omega
theorem afo {c:CxV} {r:RoV} (h:vF c r) {i:Nat} : (lB c r i).length≤1000000:=by
 have h1:=h.lines
 simp only [fM,lB,List.length_append,List.length_map,List.length_take,List.length_cons,List.length_nil] at h1 ⊢
 omega
theorem ab7 {c:CxV} {r:RoV} (h:vF c r) {i:Nat} : (lC c r i).length≤1000000:=by
 have h1:=h.lines
 have h2:=Y9 uf c.fs i
 simp only [fM,lC,List.length_append,List.length_map,List.length_take,List.length_cons,List.length_nil] at h1 ⊢
 omega
theorem ab8 {c:CxV} {r:RoV} (h:vF c r) {i:Nat} : (lD c r i).length≤1000000:=by
 have h1:=h.lines
 simp only [fM,lD,List.length_append,List.length_map,List.length_take,List.length_cons,List.length_nil] at h1 ⊢
 omega
theorem Za {c:CxV} {r:RoV} {i:Nat} (hi:i<c.ps.length):lB c r (i+1)=lB c r i ++ [ptL (c.ps.getD i (0,0))]:=by
 rw [lB,lB,List.take_succ_eq_append_getElem hi,List.map_append,au hi,List.append_assoc];rfl
theorem Zb {c:CxV} {r:RoV} {i:Nat} (hi:i<c.fs.length):lC c r (i+1)=lC c r i++uf (c.fs.getD i f0):=by
 rw [lC,lC,List.take_succ_eq_append_getElem hi,List.flatMap_append,au hi,List.append_assoc,List.append_assoc,List.append_assoc];simp
theorem Sv {c:CxV} {r:RoV} {i:Nat} (hi:i<c.fs.length):lH c r i (c.fs.getD i f0) (c.fs.getD i f0).hs.length=lC c r (i+1):=by
 rw [Zb hi,lH,List.take_length,uf,List.append_assoc];rfl
theorem Zc {c:CxV} {r:RoV} {i j:Nat} {f:FaV} (hj:j<f.hs.length):lH c r i f (j+1)=lH c r i f j ++ [aZ++spell (f.hs.getD j ⟨undef,[]⟩).xs]:=by
 rw [lH,lH,List.take_succ_eq_append_getElem hj,List.map_append,au hj,List.append_assoc,List.append_assoc,List.append_assoc];rfl
theorem afp {c:CxV} {r:RoV} (h:vF c r) {i j:Nat} (hi:i<c.fs.length):(lH c r i (c.fs.getD i f0) j).length≤1000000:=by
 have h1:=ab7 h (i:=i+1)
 rw [← Sv hi] at h1
 simp only [lH,List.length_append,List.length_map,List.length_take,List.length_cons,List.length_nil] at h1 ⊢
 omega
theorem Zd {c:CxV} {r:RoV} {i:Nat} (hi:i<r.us.length):lD c r (i+1)=lD c r i ++ [wz (r.us.getD i u0)]:=by
 rw [lD,lD,List.take_succ_eq_append_getElem hi,List.map_append,au hi,← List.append_assoc];rfl
noncomputable def iM (c:CxV) (r:RoV) (e:Int):Str × Int :=
 if e≠0 then ([],e) else if 40000<(aF (fM c r)).length then ([],3) else (aF (fM c r),0)
theorem Ints.append {k:IntKind} {lo:Nat} {w:World} {v:Value} {xs:List Int} (h:Ints k lo w v xs):Sl lo w v (xs.map (Value.int k)).length 1 (xs.map (Value.int k)):=by
 rw [List.length_map];exact h
theorem Ze {w:World} {v:Value} {xs:List Int} (h:Ints .i64 0 w v xs):LoL 0 w [v] [xs.map (Value.int .i64)]:=⟨rfl,fun i hi=>by
 have e:i=0:=by simpa using hi
 subst e
 exact Ints.append h⟩
theorem Wp {w:World} {a b c d:Value} {la bs cs ds:List Int} (ha:Ints .i64 0 w a la) (hb:Ints .i64 0 w b bs) (hc:Ints .i64 0 w c cs) (hd:Ints .i64 0 w d ds):LoL 0 w [a,b,c,d] ([la,bs,cs,ds].map fun l=>l.map (Value.int .i64)):=⟨rfl,fun i hi=>by
 match i,hi with
 | 0,_=>exact Ints.append ha
 | 1,_=>exact Ints.append hb
 | 2,_=>exact Ints.append hc
 | 3,_=>exact Ints.append hd⟩
theorem rH (h:Str) (b:Nat) (v:Value) (xs:List Int) (w:World) (hB:Blk w b [v] 30) (hv:Ints .i64 0 w v xs) (h0:0<xs.length) (hn:xs.length≤1000) (hi:Pn xs) (hL:jc w) (hh:h.length≤100000) :
  Calls Tryz.prog 65 #[str h,.slice (some ⟨b,0,none⟩) 1 1] w (Ret fun v' w'=>v'=str (h++spell xs)∧Ext w w') :=
 yX h 0 0 _ [v] [xs.map (Value.int .i64)] xs w (Sl.ay (n:=1) (sz:=1) hB rfl (Nat.le_refl 1) (by decide) (Nat.zero_le _)) (Ze hv) (by simp) h0 (by omega) hi hL hh
theorem Sz:aK.length≤100000:=by decide
theorem Wq:aY.length≤100000:=by decide
theorem Ws:aZ.length≤100000:=by decide
theorem Wu:bn.length≤100000:=by decide
theorem rJ {base:Nat} {xs:List Str} {s:Str} {v:Value} {w:World} (h:w.ownsRow base 9 1 v (xs.length+1) (xs.map str ++ [s].map str)):yP base (xs ++ [s]) v w:=GV (ys:=[s]) h
set_option maxHeartbeats 2000000 in
theorem ug (lo:Nat) (c:CxV) (r:RoV) (w:World) (hc:c.ok lo w) (hr:r.ok lo w) (hL:jc w) (hs:dN c r (cu c)=0→vF c r) :
  Calls Tryz.prog 19 #[.agg (eY c r).toArray] w (Ret fun v w'=>v = .tuple #[str (iM c r (dN c r (cu c))).1,.int .i64 (iM c r (dN c r (cu c))).2]∧Ext w w'):=by
 refine T.enter (vs:=[.agg (eY c r).toArray]) func19 rfl ntmps19 rfl ?_
 refine T.q (L.o (O.box rfl (fun b1 w1 hb1 hz1 he1 hB1=>?_)))
 have hl1:Blk w1 b1 (eY c r) 48:=hB1
 refine L.a rfl (L.a rfl (L.nil (T.seq (T.q (L.o (O.ak isAgg48 sizeOf48 rfl rfl (Row.ay hl1) (L.o (O.call (xs:=[.tmp 16]) call34 rfl rfl (uZ lo c r w1 (hc.ext he1) (hr.ext he1)) (fun v2 w2 hq=>?_)))))))))
 obtain ⟨rfl,he2⟩:=hq
 have zY:=he1.trans he2
 refine L.a rfl (L.nil (T.q (L.m rfl (L.o (O.jT rfl rfl (fun h0=>?_) (fun h0=>?_))))))
 ·refine L.nil (T.ct (T.q (L.m rfl (L.a rfl (L.a rfl (L.nil (T.Cj results19 rfl rfl ⟨by rw [iM,if_pos h0];rfl,zY⟩)))))))
 refine L.nil (?_)
 have hS:=hs h0
 rw [h0]
 have hl2:=Blk.ext (cs:=eY c r) hl1 he2
 refine T.cf (T.skip (T.q (L.o (O.fieldAddr runUnderlying48 rfl sizeOf25 rfl (L.o (O.fieldAddr runUnderlying25 rfl sizeOf3 rfl (L.o (O.load isAgg3 rfl (hl2.cell rfl) (L.o (O.fieldAddr runUnderlying48 rfl sizeOf25 rfl (L.o (O.fieldAddr runUnderlying25 rfl sizeOf3 rfl (L.o (O.load isAgg3 rfl (hl2.cell rfl) (L.o (O.fieldAddr runUnderlying48 rfl sizeOf25 rfl (L.o (O.fieldAddr runUnderlying25 rfl sizeOf3 rfl (L.o (O.load isAgg3 rfl (hl2.cell rfl) (L.o (O.buildSlice (el:=3) (parts:=[(0,.tmp 23),(1,.tmp 26),(2,.tmp 29)]) (vs:=[(0,_),(1,_),(2,_)]) (cs:=([r.G,r.P,r.L].map (Value.int .i64))) rfl (fun w=>by kernel_rfl) (fun b30 w30 amL aiM Nz Yk=>?_)))))))))))))))))))))))
 have akg:Ints .i64 0 w30 (.slice (some ⟨b30,0,none⟩) 3 3) [r.G,r.P,r.L]:=Ints.ay Yk rfl (by decide) (Nat.zero_le _)
 refine L.o (O.buildSlice (el:=30) (parts:=[(0,.tmp 30)]) (vs:=[(0,_)]) (cs:=[.slice (some ⟨b30,0,none⟩) 3 3]) rfl (fun w=>by kernel_rfl) (fun b31 w31 amM amN Ij VR=>?_))
 refine L.o (O.call (xs:=[_,.tmp 31]) call65 rfl rfl (rH bn b31 _ [r.G,r.P,r.L] w31 VR (akg.ext Ij) (by simp) (by simp) hS.roll (hL.ext ((zY.trans Nz).trans Ij)) Wu) (fun v32 w32 hq=>?_))
 obtain ⟨rfl,Yl⟩:=hq
 refine L.o (O.buildSlice (el:=9) (parts:=[(0,.tmp 32)]) (vs:=[(0,_)]) (cs:=((lA r).map str)) rfl (fun w=>by kernel_rfl) (fun b33 w33 aiK aiL Ym aaS=>?_))
 have akh:yP w32.heap.size (lB c r 0) (.slice (some ⟨b33,0,none⟩) 1 1) w33:=kX (n:=1) (cap:=1) (sz:=1) aaS (by omega) (Nat.le_refl _) (by decide) rfl
 have afq:=(((zY.trans Nz).trans Ij).trans Yl).trans Ym
 have ab9:=(((he2.trans Nz).trans Ij).trans Yl).trans Ym
 refine L.a rfl (L.nil (T.seq (T.q (L.o (O.fieldAddr runUnderlying48 rfl sizeOf46 rfl (L.o (O.fieldAddr runUnderlying46 rfl sizeOf43 rfl (L.o (O.load isAgg43 rfl ((Blk.ext (cs:=eY c r) hl1 ab9).cell rfl) (L.o (O.len runUnderlying43 rfl (Sl.val ((hc.ext afq).p)) (L.m rfl (L.nil (T.block (?_)))))))))))))))
 refine T.loop (σ:=Nat × Value) (fun g=>[(1,.pointer (some ⟨b1,0,none⟩)),(5,g.2),(36,c.pv),(37,.int .i64 c.ps.length),(38,.int .i64 g.1)]) (fun g W=>g.1≤c.ps.length∧Ext w1 W∧Ext w32 W∧yP w32.heap.size (lB c r g.1) g.2 W) (fun g=>c.ps.length-g.1) ((0,.slice (some ⟨b33,0,none⟩) 1 1)) ⟨rfl,rfl,rfl,rfl,rfl,trivial⟩ ⟨Nat.zero_le _,ab9,Ym,akh⟩ ?_
 rintro ⟨i,lv⟩ w34 ⟨hi,Wv,SA,Qo⟩
 simp only at hi Qo
 have hc34:=hc.ext (he1.trans Wv)
 have hqa:=Sl.le hc34.p
 refine T.q (L.o (O.bF rfl rfl (fun hlt=>?_) (fun hlt=>?_)))
 ·refine L.nil (?_)
  have hlt':i<c.ps.length:=by simp only at hlt;omega
  have hpm:c.ps.getD i (0,0)∈c.ps:=by rw [au hlt'];exact List.getElem_mem hlt'
  refine T.seq (T.ct (T.skip (T.seq (T.block (T.q (L.o (O.indexAddr runUnderlying43 sizeOf124 rfl rfl hc34.p (by omega) (by omega) (L.o (O.ak isAgg124 sizeOf124 rfl rfl (hc34.p.row hlt') (L.o (O.alloc zeroValue124 (fun b7 w7 hb7 hz7 he7 hB7=>?_))))))))))))
  refine L.o (O.aC sizeOf124 rfl rfl rfl hB7 (Nat.le_refl _) (gY _) (fun w8 hu8 hB8=>?_))
  have hX8:Blk w8 b7 (pC (c.ps.getD i (0,0))) 124:=hB8
  have afr:Ext w34 w8:=he7.upd hu8 (.inr (by omega))
  refine L.nil (T.region (L.m rfl (L.o (O.fieldAddr runUnderlying124 rfl sizeOf3 rfl (L.o (O.load isAgg3 rfl (hX8.cell rfl) (L.o (O.fieldAddr runUnderlying124 rfl sizeOf3 rfl (L.o (O.load isAgg3 rfl (hX8.cell rfl) (L.o (O.buildSlice (el:=3) (parts:=[(0,.tmp 44),(1,.tmp 46)]) (vs:=[(0,_),(1,_)]) (cs:=([(c.ps.getD i (0,0)).1,(c.ps.getD i (0,0)).2].map (Value.int .i64))) rfl (fun w=>by kernel_rfl) (fun b47 w47 amO amP adP aev=>?_)))))))))))))
  have aki:Ints .i64 0 w47 (.slice (some ⟨b47,0,none⟩) 2 2) [(c.ps.getD i (0,0)).1,(c.ps.getD i (0,0)).2]:=Ints.ay aev rfl (by decide) (Nat.zero_le _)
  refine L.o (O.buildSlice (el:=30) (parts:=[(0,.tmp 47)]) (vs:=[(0,_)]) (cs:=[.slice (some ⟨b47,0,none⟩) 2 2]) rfl (fun w=>by kernel_rfl) (fun b48 w48 hb48 amQ Yt akj=>?_))
  have XU:=(afr.trans adP).trans Yt
  refine L.o (O.call (xs:=[_,.tmp 48]) call65 rfl rfl (rH aK b48 _ [(c.ps.getD i (0,0)).1,(c.ps.getD i (0,0)).2] w48 akj (aki.ext Yt) (by simp) (by simp) (hS.pts _ hpm) (hL.ext ((he1.trans Wv).trans XU)) Sz) (fun v49 w49 hq=>?_))
  obtain ⟨rfl,abw⟩:=hq
  refine L.o (O.buildSlice (el:=9) (parts:=[(0,.tmp 49)]) (vs:=[(0,_)]) (cs:=([ptL (c.ps.getD i (0,0))].map str)) rfl (fun w=>by kernel_rfl) (fun b50 w50 amR amS akk afs=>?_))
  have L8:=(XU.trans abw).trans akk
  have hle:=afo hS (i:=i)
  refine L.o (O.append (size:=1) (bytes:=16) runUnderlying61 Tryz.rY rfl rfl rfl rfl (by decide) rfl rfl (aG Qo (L8.mono (Nat.zero_le _)) (Nat.le_refl _)) (Strs.ay (lo:=0) afs rfl (by decide) (Nat.zero_le _)) (oJ _) (by simp only [List.length_cons,List.length_nil,maxLen];omega) (by simp only [maxLen,List.length_cons,List.length_nil];omega) (by have:=SA.size;have:=L8.size;omega) (fun v51 w51 akl akm=>?_))
  have XV:Ext w32 w51:=Keep.fO (SA.trans L8) (aG Qo (L8.mono (Nat.zero_le _)) (Nat.le_refl _)) akm (Nat.le_refl _)
  refine L.a rfl (L.nil (T.blk (T.region (L.o (O.aI rfl rfl (by (try dsimp only);omega) (L.m rfl (L.nil (T.again ((i+1,v51)) (show c.ps.length-(i+1)<c.ps.length-i by omega) ⟨rfl,rfl,rfl,rfl,rfl,trivial⟩ ⟨hlt',(((he2.trans Nz).trans Ij).trans Yl).trans XV,XV,by rw [Za hlt'];exact rJ akl⟩))))))))
 refine L.nil (?_)
 obtain rfl:i=c.ps.length:=by simp only at hlt;omega
 have hlC:lB c r c.ps.length=lC c r 0:=by simp [lB,lC]
 rw [hlC] at Qo
 refine T.seq (T.cf (T.exit rfl (T.seq (T.q (L.o (O.fieldAddr runUnderlying48 rfl sizeOf46 rfl (L.o (O.fieldAddr runUnderlying46 rfl sizeOf44 rfl (L.o (O.load isAgg44 rfl ((Blk.ext (cs:=eY c r) hl1 Wv).cell rfl) (L.o (O.len runUnderlying44 rfl (Sl.val hc34.sl) (L.m rfl (L.nil (T.block (?_))))))))))))))))
 refine T.loop (σ:=Nat × Value) (fun g=>[(1,.pointer (some ⟨b1,0,none⟩)),(5,g.2),(55,c.fv),(56,.int .i64 c.fs.length),(57,.int .i64 g.1)]) (fun g W=>g.1≤c.fs.length∧Ext w1 W∧Ext w32 W∧yP w32.heap.size (lC c r g.1) g.2 W) (fun g=>c.fs.length-g.1) ((0,lv)) ⟨rfl,rfl,rfl,rfl,rfl,trivial⟩ ⟨Nat.zero_le _,Wv,SA,Qo⟩ ?_
 rintro ⟨i,lv2⟩ w58 ⟨hi2,SB,SC,aas⟩
 simp only at hi2 aas
 have adQ:=hc.ext (he1.trans SB)
 have hqb:=Sl.le adQ.sl
 refine T.q (L.o (O.bF rfl rfl (fun hlt=>?_) (fun hlt=>?_)))
 ·refine L.nil (?_)
  have hlt':i<c.fs.length:=by simp only at hlt;omega
  have hfm:c.fs.getD i f0∈c.fs:=by rw [au hlt'];exact List.getElem_mem hlt'
  have hfo:=adQ.at hlt'
  refine T.seq (T.ct (T.skip (T.seq (T.block (T.q (L.o (O.indexAddr runUnderlying44 sizeOf127 rfl rfl adQ.sl (by omega) (by omega) (L.o (O.ak isAgg127 sizeOf127 rfl rfl (adQ.row hlt') (L.o (O.alloc zeroValue127 (fun b9 w9 hb9 hz9 he9 hB9=>?_))))))))))))
  refine L.o (O.aC sizeOf127 rfl rfl rfl hB9 (Nat.le_refl _) (FZ hfo) (fun w10 O7 Ii=>?_))
  have aby:Blk w10 b9 (c.fs.getD i f0).cells 127:=Ii
  have acd:Ext w58 w10:=he9.upd O7 (.inr (by omega))
  obtain ⟨oa,cp,hov,_,_⟩:=Sl.val hfo.o
  refine L.nil (T.q (L.m rfl (L.o (O.fieldAddr runUnderlying127 rfl sizeOf30 rfl (L.o (O.load isAgg30 rfl (show w10.cell? ⟨b9,0,none⟩=some (.slice oa (c.fs.getD i f0).o.xs.length cp) from by rw [← hov];exact aby.cell rfl) (L.o (O.buildSlice (el:=30) (parts:=[(0,.tmp 63)]) (vs:=[(0,_)]) (cs:=[.slice oa (c.fs.getD i f0).o.xs.length cp]) rfl (fun w=>by kernel_rfl) (fun b64 w64 hb64 amT adR akn=>?_)))))))))
  have SE:=acd.trans adR
  obtain ⟨hr1,hr2,hr3⟩:=hS.rim _ hfm
  refine L.o (O.call (xs:=[_,.tmp 64]) call65 rfl rfl (rH aY b64 _ (c.fs.getD i f0).o.xs w64 akn (hov▸(hfo.ext SE).o.mono (Nat.zero_le _)) hr2 hr3 hr1 (hL.ext ((he1.trans SB).trans SE)) Wq) (fun v65 w65 hq=>?_))
  obtain ⟨rfl,ahN⟩:=hq
  refine L.o (O.buildSlice (el:=9) (parts:=[(0,.tmp 65)]) (vs:=[(0,_)]) (cs:=([aY++spell (c.fs.getD i f0).o.xs].map str)) rfl (fun w=>by kernel_rfl) (fun b66 w66 amU amV ahO ako=>?_))
  have G5:=(SE.trans ahN).trans ahO
  have hle:=ab7 hS (i:=i)
  refine L.o (O.append (size:=1) (bytes:=16) runUnderlying61 Tryz.rY rfl rfl rfl rfl (by decide) rfl rfl (aG aas (G5.mono (Nat.zero_le _)) (Nat.le_refl _)) (Strs.ay (lo:=0) ako rfl (by decide) (Nat.zero_le _)) (oJ _) (by simp only [List.length_cons,List.length_nil,maxLen];omega) (by simp only [maxLen,List.length_cons,List.length_nil];omega) (by have:=SC.size;have:=G5.size;omega) (fun v67 w67 akp ahP=>?_))
  have XW:Ext w32 w67:=Keep.fO (SC.trans G5) (aG aas (G5.mono (Nat.zero_le _)) (Nat.le_refl _)) ahP (Nat.le_refl _)
  have afu:yP w32.heap.size (lH c r i (c.fs.getD i f0) 0) v67 w67:=by rw [show lH c r i (c.fs.getD i f0) 0=lC c r i ++ [aY++spell (c.fs.getD i f0).o.xs] by simp [lH]];exact rJ akp
  have G6:=((he2.trans Nz).trans Ij).trans Yl
  have akq:=G6.size
  have ahQ:=Blk.ext (cs:=(c.fs.getD i f0).cells) aby ((adR.trans ahN).trans ahO)
  have akr:=aG aas (G5.mono (Nat.zero_le _)) (Nat.le_refl _)
  have aks:Blk w67 b9 (c.fs.getD i f0).cells 127:=Blk.grown (cs:=(c.fs.getD i f0).cells) ahQ ahP (DV akr ahQ (by decide))
  refine L.a rfl (L.nil (T.q (L.o (O.fieldAddr runUnderlying127 rfl sizeOf125 rfl (L.o (O.load isAgg125 rfl (aks.cell rfl) (?_)))))))
  have afv:=(hc.ext (he1.trans (G6.trans XW))).at hlt'
  refine L.o (O.len runUnderlying125 rfl (Sl.val afv.sl) (L.m rfl (L.nil (T.block (?_)))))
  refine T.loop (σ:=Nat × Value) (fun g=>[(1,.pointer (some ⟨b1,0,none⟩)),(5,g.2),(55,c.fv),(56,.int .i64 c.fs.length),(57,.int .i64 i),(69,(c.fs.getD i f0).hv),(70,.int .i64 (c.fs.getD i f0).hs.length),(71,.int .i64 g.1)]) (fun g W=>g.1≤(c.fs.getD i f0).hs.length∧Ext w32 W∧yP w32.heap.size (lH c r i (c.fs.getD i f0) g.1) g.2 W) (fun g=>(c.fs.getD i f0).hs.length-g.1) ((0,v67)) ⟨rfl,rfl,rfl,rfl,rfl,rfl,rfl,rfl,trivial⟩ ⟨Nat.zero_le _,XW,afu⟩ ?_
  rintro ⟨j,lv3⟩ w72 ⟨hj,BF,ace⟩
  simp only at hj ace
  have SG:=(hc.ext (he1.trans (G6.trans BF))).at hlt'
  have hqc:=Sl.le SG.sl
  refine T.q (L.o (O.bF rfl rfl (fun hlt2=>?_) (fun hlt2=>?_)))
  ·refine L.nil (?_)
   have hj':j<(c.fs.getD i f0).hs.length:=by simp only at hlt2;omega
   have hhm:(c.fs.getD i f0).hs.getD j ⟨undef,[]⟩∈(c.fs.getD i f0).hs:=by rw [au hj'];exact List.getElem_mem hj'
   obtain ⟨hq1,hq2,hq3⟩:=hS.hole _ hfm _ hhm
   refine T.seq (T.ct (T.skip (T.seq (T.block (T.q (L.o (O.indexAddr runUnderlying125 sizeOf30 rfl rfl SG.sl (by omega) (by omega) (?_))))))))
   obtain ⟨ob,cq,ahR,_,_⟩:=Sl.val (SG.hs _ hhm)
   refine L.o (O.load isAgg30 rfl (show _=some (.slice ob ((c.fs.getD i f0).hs.getD j ⟨undef,[]⟩).xs.length cq) from by rw [← ahR,Int.toNat_natCast,Nat.mul_one];exact Sl.cell SG.sl (show (aJ (c.fs.getD i f0).hs)[j]?=some ((c.fs.getD i f0).hs.getD j ⟨undef,[]⟩).v by rw [aJ,List.getElem?_map,List.getElem?_eq_getElem hj',au hj'];rfl)) (L.a rfl (L.nil (T.region (L.m rfl (L.m rfl (L.o (O.buildSlice (el:=30) (parts:=[(0,.tmp 76)]) (vs:=[(0,_)]) (cs:=[.slice ob ((c.fs.getD i f0).hs.getD j ⟨undef,[]⟩).xs.length cq]) rfl (fun w=>by kernel_rfl) (fun b77 w77 amW amX afw akt=>?_)))))))))
   refine L.o (O.call (xs:=[_,.tmp 77]) call65 rfl rfl (rH aZ b77 _ ((c.fs.getD i f0).hs.getD j ⟨undef,[]⟩).xs w77 akt (ahR▸((SG.hs _ hhm).ext afw).mono (Nat.zero_le _)) hq2 hq3 hq1 (hL.ext ((he1.trans (G6.trans BF)).trans afw)) Ws) (fun v78 w78 hq=>?_))
   obtain ⟨rfl,aku⟩:=hq
   refine L.o (O.buildSlice (el:=9) (parts:=[(0,.tmp 78)]) (vs:=[(0,_)]) (cs:=([aZ++spell ((c.fs.getD i f0).hs.getD j ⟨undef,[]⟩).xs].map str)) rfl (fun w=>by kernel_rfl) (fun b79 w79 amY aaQ kW akv=>?_))
   have L9:=(afw.trans aku).trans kW
   have hle2:=afp hS (j:=j) hlt'
   refine L.o (O.append (size:=1) (bytes:=16) runUnderlying61 Tryz.rY rfl rfl rfl rfl (by decide) rfl rfl (aG ace (L9.mono (Nat.zero_le _)) (Nat.le_refl _)) (Strs.ay (lo:=0) akv rfl (by decide) (Nat.zero_le _)) (oJ _) (by simp only [List.length_cons,List.length_nil,maxLen];omega) (by simp only [maxLen,List.length_cons,List.length_nil];omega) (by have:=BF.size;have:=L9.size;omega) (fun v80 w80 akw akx=>?_))
   have acf:Ext w32 w80:=Keep.fO (BF.trans L9) (aG ace (L9.mono (Nat.zero_le _)) (Nat.le_refl _)) akx (Nat.le_refl _)
   refine L.a rfl (L.nil (T.blk (T.region (L.o (O.aI rfl rfl (by (try dsimp only);omega) (L.m rfl (L.nil (T.again ((j+1,v80)) (show (c.fs.getD i f0).hs.length-(j+1)<(c.fs.getD i f0).hs.length-j by omega) ⟨rfl,rfl,rfl,rfl,rfl,rfl,rfl,rfl,trivial⟩ ⟨hj',acf,by rw [Zc hj'];exact rJ akw⟩))))))))
  refine L.nil (?_)
  have e:j=(c.fs.getD i f0).hs.length:=by simp only at hlt2;omega
  rw [e,Sv hlt'] at ace
  refine T.seq (T.cf (T.exit rfl (T.blk (T.region (L.o (O.aI rfl rfl (by (try dsimp only);omega) (L.m rfl (L.nil (T.again ((i+1,lv3)) (show c.fs.length-(i+1)<c.fs.length-i by omega) ⟨rfl,rfl,rfl,rfl,rfl,trivial⟩ ⟨hlt',G6.trans BF,BF,ace⟩)))))))))
 refine L.nil (?_)
 obtain rfl:i=c.fs.length:=by simp only at hlt;omega
 have hlD:lC c r c.fs.length=lD c r 0:=by simp [lC,lD]
 rw [hlD] at aas
 have aky:Units lo w58 r.uv r.us:=hr.ext (he1.trans SB)
 refine T.seq (T.cf (T.exit rfl (T.seq (T.q (L.o (O.fieldAddr runUnderlying48 rfl sizeOf25 rfl (L.o (O.fieldAddr runUnderlying25 rfl sizeOf23 rfl (L.o (O.load isAgg23 rfl ((Blk.ext (cs:=eY c r) hl1 SB).cell rfl) (L.o (O.len runUnderlying23 rfl (Sl.val aky.sl) (L.m rfl (L.nil (T.block (?_))))))))))))))))
 refine T.loop (σ:=Nat × Value) (fun g=>[(1,.pointer (some ⟨b1,0,none⟩)),(5,g.2),(85,r.uv),(86,.int .i64 r.us.length),(87,.int .i64 g.1)]) (fun g W=>g.1≤r.us.length∧Ext w1 W∧Ext w32 W∧yP w32.heap.size (lD c r g.1) g.2 W) (fun g=>r.us.length-g.1) ((0,lv2)) ⟨rfl,rfl,rfl,rfl,rfl,trivial⟩ ⟨Nat.zero_le _,SB,SC,aas⟩ ?_
 rintro ⟨i,lv4⟩ w88 ⟨hi3,acg,Mc,ach⟩
 simp only at hi3 ach
 have aci:Units lo w88 r.uv r.us:=hr.ext (he1.trans acg)
 have hqd:=Sl.le aci.sl
 have G6:=((he2.trans Nz).trans Ij).trans Yl
 refine T.q (L.o (O.bF rfl rfl (fun hlt=>?_) (fun hlt=>?_)))
 ·refine L.nil (?_)
  have hlt':i<r.us.length:=by simp only at hlt;omega
  have hum:r.us.getD i u0∈r.us:=by rw [au hlt'];exact List.getElem_mem hlt'
  have huo:=aci.at hlt'
  obtain ⟨hu1,hu2,hu3⟩:=hS.unit _ hum
  refine T.seq (T.ct (T.skip (T.seq (T.block (T.q (L.o (O.indexAddr runUnderlying23 sizeOf51 rfl rfl aci.sl (by omega) (by omega) (L.o (O.ak isAgg51 sizeOf51 rfl rfl (aci.row hlt') (L.o (O.alloc zeroValue51 (fun b13 w13 adz U8 dn xQ=>?_))))))))))))
  refine L.o (O.aC sizeOf51 rfl rfl rfl xQ (Nat.le_refl _) huo.one (fun w14 O9 Vb=>?_))
  have afx:Blk w14 b13 (r.us.getD i u0).cells 51:=Vb
  have acj:Ext w88 w14:=dn.upd O9 (.inr (by omega))
  refine L.nil (T.q (L.o (O.fieldAddr runUnderlying51 rfl sizeOf9 rfl (L.o (O.load isAgg9 rfl (afx.cell rfl) (L.o (O.jV rfl rfl (by show 5+(r.us.getD i u0).nm.length≤_;omega) (L.o (O.fieldAddr runUnderlying51 rfl sizeOf3 rfl (L.o (O.load isAgg3 rfl (afx.cell rfl) (L.o (O.buildSlice (el:=3) (parts:=[(0,.tmp 95)]) (vs:=[(0,_)]) (cs:=[.int .i64 (r.us.getD i u0).pp]) rfl (fun w=>by kernel_rfl) (fun b96 w96 amZ am0 ahS akz=>?_))))))))))))))
  have adS:=Blk.ext (cs:=(r.us.getD i u0).cells) afx ahS
  obtain ⟨o1,c1,hg1,_,_⟩:=Sl.val huo.g
  obtain ⟨o2,c2,hg2,_,_⟩:=Sl.val huo.v
  obtain ⟨o3,c3,hg3,_,_⟩:=Sl.val huo.p
  refine L.o (O.fieldAddr runUnderlying51 rfl sizeOf30 rfl (L.o (O.load isAgg30 rfl (show w96.cell? ⟨b13,2,none⟩=some (.slice o1 (r.us.getD i u0).gs.length c1) from by rw [← hg1];exact adS.cell rfl) (L.o (O.fieldAddr runUnderlying51 rfl sizeOf30 rfl (L.o (O.load isAgg30 rfl (show w96.cell? ⟨b13,3,none⟩=some (.slice o2 (r.us.getD i u0).vs.length c2) from by rw [← hg2];exact adS.cell rfl) (L.o (O.fieldAddr runUnderlying51 rfl sizeOf30 rfl (L.o (O.load isAgg30 rfl (show w96.cell? ⟨b13,4,none⟩=some (.slice o3 (r.us.getD i u0).ps.length c3) from by rw [← hg3];exact adS.cell rfl) (L.o (O.buildSlice (el:=30) (parts:=[(0,.tmp 96),(1,.tmp 98),(2,.tmp 100),(3,.tmp 102)]) (vs:=[(0,_),(1,_),(2,_),(3,_)]) (cs:=[.slice (some ⟨b96,0,none⟩) 1 1,.slice o1 (r.us.getD i u0).gs.length c1,.slice o2 (r.us.getD i u0).vs.length c2,.slice o3 (r.us.getD i u0).ps.length c3]) rfl (fun w=>by kernel_rfl) (fun am1 ahT akA akB Zf afy=>?_))))))))))))))
  have Zg:=ahS.trans Zf
  have JR:=acj.trans Zg
  have SH:=(aci.ext JR).at hlt'
  have akC:Ints .i64 0 ahT (.slice (some ⟨b96,0,none⟩) 1 1) [(r.us.getD i u0).pp]:=Ints.ay (Blk.ext (cs:=[.int .i64 (r.us.getD i u0).pp]) akz Zf) rfl (by decide) (Nat.zero_le _)
  refine L.o (O.call (xs:=[.tmp 93,.tmp 103]) call65 rfl rfl (yX (Sr++(r.us.getD i u0).nm) 0 0 _ [.slice (some ⟨b96,0,none⟩) 1 1,.slice o1 (r.us.getD i u0).gs.length c1,.slice o2 (r.us.getD i u0).vs.length c2,.slice o3 (r.us.getD i u0).ps.length c3] ([[(r.us.getD i u0).pp],(r.us.getD i u0).gs,(r.us.getD i u0).vs,(r.us.getD i u0).ps].map fun l ↦ l.map (Value.int .i64)) (dw (r.us.getD i u0)) ahT (Sl.ay (n:=4) (sz:=1) afy rfl (Nat.le_refl 4) (by decide) (Nat.zero_le _)) (Wp akC (hg1▸SH.g.mono (Nat.zero_le _)) (hg2▸SH.v.mono (Nat.zero_le _)) (hg3▸SH.p.mono (Nat.zero_le _))) (by simp [dw]) (by simp [dw]) (by omega) hu1 (hL.ext ((he1.trans acg).trans JR)) (by rw [List.length_append];show 5+_≤_;omega)) (fun akD Zh hq=>?_))
  obtain ⟨rfl,Wx⟩:=hq
  have afz:=Blk.ext (cs:=(r.us.getD i u0).cells) adS (Zf.trans Wx)
  refine L.a rfl (L.nil (T.seq (T.q (L.o (O.fieldAddr runUnderlying51 rfl sizeOf4 rfl (L.o (O.load isAgg4 rfl (afz.cell rfl) (?_))))))))
  have Zi:=JR.trans Wx
  refine L.nil (?_)
  refine T.join (σ:=Unit) (fun _=>[(1,.pointer (some ⟨b1,0,none⟩)),(5,lv4),(14,str (wz (r.us.getD i u0))),(85,r.uv),(86,.int .i64 r.us.length),(87,.int .i64 i)]) (fun _ w'=>w'=Zh) ?_ ?_
  ·rcases hwt:(r.us.getD i u0).wt with _|_
   ·refine T.cf (T.skip (T.meet (()) ⟨rfl,rfl,?_,rfl,rfl,rfl,trivial⟩ rfl))
    ·exact congrArg (fun z=>some (str z)) (by rw [wz,hwt];simp)
   refine T.ct (T.region (L.m rfl (L.o (O.jV rfl rfl (by have:=nD _ hu1;rw [List.length_append,List.length_append];show 5+_+_+6≤_;omega) (L.a rfl (L.nil (T.meet (()) ⟨rfl,rfl,?_,rfl,rfl,rfl,trivial⟩ rfl)))))))
   ·exact congrArg (fun z=>some (str z)) (by rw [wz,hwt];simp [GY])
  rintro _ am2 rfl
  refine T.region (L.m rfl (L.m rfl (L.o (O.buildSlice (el:=9) (parts:=[(0,.tmp 110)]) (vs:=[(0,_)]) (cs:=([wz (r.us.getD i u0)].map str)) rfl (fun w=>by kernel_rfl) (fun am3 am4 akE akF afA afB=>?_)))))
  have Eb:=Zi.trans afA
  have hle3:=ab8 hS (i:=i)
  refine L.o (O.append (size:=1) (bytes:=16) runUnderlying61 Tryz.rY rfl rfl rfl rfl (by decide) rfl rfl (aG ach (Eb.mono (Nat.zero_le _)) (Nat.le_refl _)) (Strs.ay (lo:=0) afB rfl (by decide) (Nat.zero_le _)) (oJ _) (by simp only [List.length_cons,List.length_nil,maxLen];omega) (by simp only [maxLen,List.length_cons,List.length_nil];omega) (by have:=Mc.size;have:=Eb.size;omega) (fun akG akH afC afD=>?_))
  have SI:Ext w32 akH:=Keep.fO (Mc.trans Eb) (aG ach (Eb.mono (Nat.zero_le _)) (Nat.le_refl _)) afD (Nat.le_refl _)
  refine L.a rfl (L.nil (T.blk (T.region (L.o (O.aI rfl rfl (by (try dsimp only);omega) (L.m rfl (L.nil (T.again ((i+1,akG)) (show r.us.length-(i+1)<r.us.length-i by omega) ⟨rfl,rfl,rfl,rfl,rfl,trivial⟩ ⟨hlt',G6.trans SI,SI,by rw [Zd hlt'];exact rJ afC⟩))))))))
 refine L.nil (?_)
 obtain rfl:i=r.us.length:=by simp only at hlt;omega
 have hlE:lD c r r.us.length ++ [fA]=fM c r:=by simp [lD,fM]
 refine T.seq (T.cf (T.exit rfl (T.q (L.m rfl (L.o (O.buildSlice (el:=9) (parts:=[(0,_)]) (vs:=[(0,_)]) (cs:=([fA].map str)) rfl (fun w=>by kernel_rfl) (fun am5 akI akJ akK Wy Zj=>?_)))))))
 have hle3:=ab8 hS (i:=r.us.length)
 refine L.o (O.append (size:=1) (bytes:=16) runUnderlying61 Tryz.rY rfl rfl rfl rfl (by decide) rfl rfl (aG ach (Wy.mono (Nat.zero_le _)) (Nat.le_refl _)) (Strs.ay (lo:=0) Zj rfl (by decide) (Nat.zero_le _)) (oJ _) (by simp only [List.length_cons,List.length_nil,maxLen];omega) (by simp only [maxLen,List.length_cons,List.length_nil];omega) (by have:=Mc.size;have:=Wy.size;omega) (fun akL afE afF afG=>?_))
 have Zk:Ext w32 afE:=Keep.fO (Mc.trans Wy) (aG ach (Wy.mono (Nat.zero_le _)) (Nat.le_refl _)) afG (Nat.le_refl _)
 have XY:=rJ afF
 rw [hlE] at XY
 refine L.o (O.call (xs:=[.tmp 116]) call55 rfl rfl (vg 0 akL (fM c r) afE ((Sl.aT XY).mono (Nat.zero_le _)) hS.len) (fun v117 SK hq=>?_))
 obtain ⟨rfl,wB⟩:=hq
 have BG:=he1.trans (G6.trans (Zk.trans wB))
 refine L.a rfl (L.nil (T.seq (T.q (L.m rfl (L.o (O.gu runUnderlying9 rfl (L.o (O.jS rfl rfl (fun hbig=>?_) (fun hbig=>?_)))))))))
 ·refine L.nil (T.ct (T.q (L.a rfl (L.a rfl (L.nil (T.Cj results19 rfl rfl ⟨by rw [iM,if_neg (fun x=>x rfl),if_pos (by omega)];rfl,BG⟩))))))
 refine L.nil (T.cf (T.skip (T.q (L.m rfl (L.a rfl (L.a rfl (L.nil (T.Cj results19 rfl rfl ⟨by rw [iM,if_neg (fun x=>x rfl),if_neg (by omega)],BG⟩))))))))
open Go Go.E RowKit
theorem WA {l:Str} {v:Int} (h:Lib.atoiAll l = .ok v) : -9223372036854775808≤v∧v≤9223372036854775807:=by
 unfold Lib.atoiAll at h
 split at h
 ·cases h
 simp only at h
 split at h
 ·cases h
 ·cases h
 split at h
 ·cases h
 split at h
 ·cases h
 cases h
 split <;> omega
theorem BH (s:Str) (w:World) (hL:jc w) (hs:s.length≤100000):Calls Tryz.prog 161 #[str s] w (Ret fun v w'=>((∃ n,Lib.atoiAll s = .ok n∧v = .tuple #[.int .i64 n,.nilIface])∨((∀ n,Lib.atoiAll s ≠ .ok n)∧∃ m t p,v = .tuple #[.int .i64 m,.iface t p]))∧Ext w w'):=by
 have hsz:(⟨s.toArray⟩:ByteArray).size=s.length:=by simp [ByteArray.size]
 rcases h:Lib.atoiAll s with n|_|_
 ·refine (Tryz.strconv_Atoi_ok ⟨s.toArray⟩ (by omega) n h w).mono ?_
  rintro e w' ⟨rfl,hw⟩
  refine ⟨.inl ⟨n,rfl,rfl⟩,?_⟩
  rcases hw with rfl|⟨t,rfl⟩
  ·exact Keep.refl _ _
  exact Ext.of_below (Lib.bytesWorld_below _ _ _)
 ·obtain ⟨tp,p,hv⟩:=hL.es
  refine (Tryz.lW ⟨s.toArray⟩ (by omega) (fun n e=>by cases h.symm.trans e) (fun e=>by cases h.symm.trans e) tp p w hv).mono ?_
  rintro e w' ⟨N,rfl,_,_,hb⟩
  exact ⟨.inr ⟨fun n h=>(by cases h),_,_,_,rfl⟩,Ext.of_below hb⟩
 obtain ⟨tp,p,hv⟩:=hL.er
 refine (Tryz.strconv_Atoi_range_var ⟨s.toArray⟩ (by omega) h tp p w hv).mono ?_
 rintro e w' ⟨N,rfl,_,_,hb⟩
 exact ⟨.inr ⟨fun n h=>(by cases h),_,_,_,rfl⟩,Ext.of_below hb⟩
def pO (s:Str):Option Int:=match Lib.atoiAll s with
 | .ok n=>if Lib.itoa n=s ∧ -1000000000≤n∧n≤1000000000 then some n else none
 | _=>none
theorem Md {s:Str} {n:Int} (h:Lib.atoiAll s = .ok n):pO s=if Lib.itoa n=s ∧ -1000000000≤n∧n≤1000000000 then some n else none:=by unfold pO;rw [h]
theorem uh {s:Str} {n:Int} (h:pO s=some n):Lib.atoiAll s = .ok n∧Lib.itoa n=s ∧ -1000000000≤n∧n≤1000000000:=by
 unfold pO at h
 split at h
 ·split at h
  ·cases h;rename_i hn hc;exact ⟨hn,hc⟩
  cases h
 cases h
theorem yY (s:Str) (n:Int) (w:World) (hL:jc w) (hs:s.length≤100000) (hn:pO s=some n) :
  Calls Tryz.prog 160 #[str s] w (Ret fun v w'=>v = .int .i64 n∧Ext w w'):=by
 obtain ⟨h1,h2,h3,h4⟩:=uh hn
 refine T.enter (vs:=[str s]) func160 rfl ntmps160 rfl ?_
 refine T.q (L.a rfl (L.nil (T.q (L.m rfl (L.o (O.call (xs:=[.tmp 6]) call161 rfl rfl (BH s w hL hs) (fun v1 w1 hq=>?_)))))))
 obtain ⟨hv1,he1⟩:=hq
 have akM:v1 = .tuple #[.int .i64 n,.nilIface]:=by
  rcases hv1 with ⟨m,hm,hv⟩|⟨hm,_⟩
  ·rw [h1] at hm;cases hm;exact hv
  exact absurd h1 (hm n)
 subst akM
 refine L.m rfl (L.o (O.extract rfl rfl (L.o (O.extract rfl rfl (L.a rfl (L.a rfl (L.nil (T.q (L.m rfl (L.o (O.qX (by kernel_rfl) rfl (L.m rfl (L.m rfl (L.o (O.call (xs:=[.tmp 13]) call54 rfl rfl (oH n w1 (hL.ext he1) (by omega) (by omega)) (fun v2 w2 hq=>?_))))))))))))))))
 obtain ⟨rfl,he2⟩:=hq
 refine L.m rfl (L.o (O.aX runUnderlying9 rfl rfl h2 (L.o (O.ah rfl rfl (L.m rfl (L.m rfl (L.o (O.IE rfl rfl h3 (L.o (O.ah rfl rfl (L.m rfl (L.m rfl (L.o (O.aaA rfl rfl h4 (L.o (O.ah rfl rfl (L.o (O.call (xs:=[.tmp 25]) call108 rfl rfl (dK w2) (fun v3 w3 hq=>?_)))))))))))))))))))
 obtain rfl:=hq
 refine L.nil (T.q (L.m rfl (L.a rfl (L.nil (T.aU results160 rfl ⟨rfl,he1.trans he2⟩)))))
theorem Oe (s:Str) (w:World) (hL:jc w) (hs:s.length≤100000) (hn:pO s=none) :
  Calls Tryz.prog 160 #[str s] w (Pan (bQ) fun w'=>Ext w w'):=by
 refine T.fP (vs:=[str s]) func160 rfl ntmps160 rfl ?_
 refine T.q (L.a rfl (L.nil (T.q (L.m rfl (L.o (O.call (xs:=[.tmp 6]) call161 rfl rfl (BH s w hL hs) (fun v1 w1 hq=>?_)))))))
 obtain ⟨hv1,he1⟩:=hq
 rcases hv1 with ⟨n,hm,rfl⟩|⟨hm,m,t,p,rfl⟩
 ·rw [Md hm] at hn
  have hb:=WA hm
  refine L.m rfl (L.o (O.extract rfl rfl (L.o (O.extract rfl rfl (L.a rfl (L.a rfl (L.nil (T.q (L.m rfl (L.o (O.qX (by kernel_rfl) rfl (L.m rfl (L.m rfl (L.o (O.call (xs:=[.tmp 13]) call54 rfl rfl (oH n w1 (hL.ext he1) (by omega) (by omega)) (fun v2 w2 hq=>?_))))))))))))))))
  obtain ⟨rfl,he2⟩:=hq
  rcases Classical.em (Lib.itoa n=s) with h1|h1
  ·refine L.m rfl (L.o (O.aX runUnderlying9 rfl rfl h1 (?_)))
   rcases Classical.em (-1000000000≤n) with h2|h2
   ·have h3:¬ n≤1000000000:=fun h=>by rw [if_pos ⟨h1,h2,h⟩] at hn;cases hn
    refine L.o (O.ah rfl rfl (L.m rfl (L.m rfl (L.o (O.IE rfl rfl h2 (L.o (O.ah rfl rfl (L.m rfl (L.m rfl (L.o (O.aaB rfl rfl h3 (L.o (O.ah rfl rfl (L.bJ (xs:=[.tmp 25]) rfl call108 rfl rfl (dG w2) (fun w' a hR ha=>⟨ha.defers,rfl,by rw [hR];exact he1.trans he2⟩)))))))))))))))
   refine L.o (O.ah rfl rfl (L.m rfl (L.m rfl (L.o (O.Pq rfl rfl h2 (L.o (O.ah rfl rfl (L.m rfl (L.p (L.p (L.o (O.aj rfl rfl (L.bJ (xs:=[.tmp 25]) rfl call108 rfl rfl (dG w2) (fun w' a hR ha=>⟨ha.defers,rfl,by rw [hR];exact he1.trans he2⟩))))))))))))))
  refine L.m rfl (L.o (O.aA runUnderlying9 rfl rfl h1 (L.o (O.ah rfl rfl (L.m rfl (L.p (L.p (L.o (O.aj rfl rfl (L.m rfl (L.p (L.p (L.o (O.aj rfl rfl (L.bJ (xs:=[.tmp 25]) rfl call108 rfl rfl (dG w2) (fun w' a hR ha=>⟨ha.defers,rfl,by rw [hR];exact he1.trans he2⟩))))))))))))))))
 refine L.m rfl (L.o (O.extract rfl rfl (L.o (O.extract rfl rfl (L.a rfl (L.a rfl (L.nil (T.q (L.m rfl (L.o (O.Gx (by kernel_rfl) rfl rfl (L.m rfl (L.p (L.p (L.p (L.p (L.o (O.aj rfl rfl (L.m rfl (L.p (L.p (L.o (O.aj rfl rfl (L.m rfl (L.p (L.p (L.o (O.aj rfl rfl (?_)))))))))))))))))))))))))))))
 refine L.bJ (xs:=[.tmp 25]) rfl call108 rfl rfl (dG w1) (fun w' a hR ha=>⟨ha.defers,rfl,by rw [hR];exact he1⟩)
open Go Go.E RowKit
def dV:List Str→Option (List Int)
 | []=>some []
 | s::r=>match pO s,dV r with
  | some n,some ns=>some (n::ns)
  | _,_=>none
theorem jr:∀ (ws:List Str) (xs:List Int),dV ws=some xs→ws.length=xs.length∧∀ i,i<ws.length→pO (ws.getD i [])=some (xs.getD i 0)
 | [],xs,h=>by cases h;exact ⟨rfl,fun i hi=>absurd hi (Nat.not_lt_zero _)⟩
 | s::r,xs,h=>by
  rw [dV] at h
  cases hs:pO s with
  | none=>rw [hs] at h;cases h
  | some n =>
   cases hr:dV r with
   | none=>rw [hs,hr] at h;cases h
   | some ns =>
    rw [hs,hr] at h
    cases h
    obtain ⟨h1,h2⟩:=jr r ns hr
    refine ⟨by simp [h1],fun i hi=>?_⟩
    cases i with
    | zero=>exact hs
    | succ i=>exact h2 i (by simpa using hi)
theorem BI:∀ (ws:List Str),dV ws=none→∃ m,m<ws.length∧pO (ws.getD m [])=none∧∃ xs:List Int,xs.length=m∧∀ i,i<m→pO (ws.getD i [])=some (xs.getD i 0)
 | [],h=>by cases h
 | s::r,h=>by
  cases hs:pO s with
  | none=>exact ⟨0,by simp,hs,[],rfl,fun i hi=>absurd hi (Nat.not_lt_zero _)⟩
  | some n =>
   have hr:dV r=none:=by
    cases hr:dV r with
    | none=>rfl
    | some ns=>rw [dV,hs,hr] at h;cases h
   obtain ⟨m,h1,h2,xs,h3,h4⟩:=BI r hr
   refine ⟨m+1,by simpa using h1,h2,n::xs,by simp [h3],fun i hi=>?_⟩
   cases i with
   | zero=>exact hs
   | succ i=>exact h4 i (by omega)
theorem Me {base:Nat} {xs:List Int} {n:Int} {v:Value} {w:World} (h:w.ownsRow base 3 1 v (xs.length+1) (xs.map (Value.int .i64) ++ [.int .i64 n])):w.ownsRow base 3 1 v (xs ++ [n]).length ((xs ++ [n]).map (Value.int .i64)):=by
 rw [List.length_append,List.map_append];exact h
theorem Og (lo:Nat) (p:Value) (ws:List Str) (xs:List Int) (w:World) (hp:Strs lo w p ws) (hL:jc w) (hs:∀ s∈ws,s.length≤100000) (hn:dV ws=some xs) (hlen:ws.length≤1000000) :
  Calls Tryz.prog 159 #[p,.func (.func 160) #[] #[]] w (Ret fun v w'=>w'.ownsRow w.heap.size 3 1 v xs.length (xs.map (Value.int .i64))∧Ext w w'):=by
 obtain ⟨hl,hat⟩:=jr ws xs hn
 refine T.enter (vs:=[p,.func (.func 160) #[] #[]]) func159 rfl ntmps159 rfl ?_
 refine T.q (L.a rfl (L.nil (T.q (L.a rfl (L.nil (T.seq (T.q (L.m rfl (L.o (O.len runUnderlying61 rfl (Sl.val hp) (L.m rfl (L.nil (T.block (?_))))))))))))))
 refine T.loop (σ:=Nat × Value) (fun g=>[(1,.func (.func 160) #[] #[]),(5,g.2),(8,p),(9,.int .i64 ws.length),(10,.int .i64 g.1)]) (fun g W=>g.1≤ws.length∧Ext w W∧W.ownsRow w.heap.size 3 1 g.2 (xs.take g.1).length ((xs.take g.1).map (Value.int .i64))) (fun g=>ws.length-g.1) ((0,.slice none 0 0)) ⟨rfl,rfl,rfl,rfl,rfl,trivial⟩ ⟨Nat.zero_le _,Keep.refl _ _,eG _ _ _ _⟩ ?_
 rintro ⟨i,lv⟩ w1 ⟨hi,he1,hO1⟩
 simp only at hi hO1
 refine T.q (L.o (O.bF rfl rfl (fun hlt=>?_) (fun hlt=>?_)))
 ·refine L.nil (?_)
  have hlt':i<ws.length:=by simp only at hlt;omega
  have hsm:(ws.getD i []).length≤100000:=hs _ (by rw [au hlt'];exact List.getElem_mem hlt')
  have htk:(xs.take i).length=i:=by rw [List.length_take];omega
  have hsn:xs.take (i+1)=xs.take i ++ [xs.getD i 0]:=by rw [List.take_succ_eq_append_getElem (by omega),au (by omega)]
  refine T.seq (T.ct (T.skip (T.seq (T.block (T.q (L.o (O.indexAddr runUnderlying61 sizeOf9 rfl rfl (hp.ext he1) (by omega) (by omega) (L.o (O.load isAgg9 rfl ((hp.ext he1).at hlt') (L.a rfl (L.nil (T.region (L.m rfl (L.m rfl (L.m rfl (L.o (O.call (xs:=[.tmp 16]) call160 rfl rfl (yY (ws.getD i []) (xs.getD i 0) w1 (hL.ext he1) hsm (hat i hlt')) (fun v2 w2 hq=>?_))))))))))))))))))
  obtain ⟨rfl,he2⟩:=hq
  refine L.o (O.buildSlice (el:=3) (parts:=[(0,.tmp 17)]) (vs:=[(0,_)]) (cs:=[.int .i64 (xs.getD i 0)]) rfl (fun w=>by kernel_rfl) (fun b18 w18 ab4 ab5 lZ uT=>?_))
  have Ec:=he2.trans lZ
  refine L.o (O.append (size:=1) (bytes:=8) runUnderlying30 Tryz.jU rfl rfl rfl rfl (by decide) rfl rfl (aG hO1 (Ec.mono (Nat.zero_le _)) (Nat.le_refl _)) (Sl.ay (lo:=0) (n:=1) (sz:=1) uT rfl (Nat.le_refl 1) (by decide) (Nat.zero_le _)) (by intro u hu;simp at hu;subst hu;rfl) (by omega) (by simp only [maxLen];omega) (by have:=he1.size;have:=Ec.size;omega) (fun v19 w19 YF afH=>?_))
  have Gi:Ext w w19:=Keep.fO (he1.trans Ec) (aG hO1 (Ec.mono (Nat.zero_le _)) (Nat.le_refl _)) afH (Nat.le_refl _)
  refine L.a rfl (L.nil (T.blk (T.region (L.o (O.aI rfl rfl (by (try dsimp only);omega) (L.m rfl (L.nil (T.again ((i+1,v19)) (show ws.length-(i+1)<ws.length-i by omega) ⟨rfl,rfl,rfl,rfl,rfl,trivial⟩ ⟨hlt',Gi,by rw [hsn];exact Me YF⟩))))))))
 refine L.nil (?_)
 obtain rfl:i=ws.length:=by simp only at hlt;omega
 rw [List.take_of_length_le (by omega)] at hO1
 refine T.seq (T.cf (T.exit rfl (T.q (L.m rfl (L.a rfl (L.nil (T.aU results159 rfl ⟨hO1,he1⟩)))))))
theorem SL (lo:Nat) (p:Value) (ws:List Str) (w:World) (hp:Strs lo w p ws) (hL:jc w) (hs:∀ s∈ws,s.length≤100000) (hn:dV ws=none) (hlen:ws.length≤1000000) :
  Calls Tryz.prog 159 #[p,.func (.func 160) #[] #[]] w (Pan (bQ) fun w'=>Ext w w'):=by
 obtain ⟨m,hm,hbad,xs,hl,hat⟩:=BI ws hn
 refine T.fP (vs:=[p,.func (.func 160) #[] #[]]) func159 rfl ntmps159 rfl ?_
 refine T.q (L.a rfl (L.nil (T.q (L.a rfl (L.nil (T.seq (T.q (L.m rfl (L.o (O.len runUnderlying61 rfl (Sl.val hp) (L.m rfl (L.nil (T.block (?_))))))))))))))
 refine T.loop (σ:=Nat × Value) (fun g=>[(1,.func (.func 160) #[] #[]),(5,g.2),(8,p),(9,.int .i64 ws.length),(10,.int .i64 g.1)]) (fun g W=>g.1≤m∧Ext w W∧W.ownsRow w.heap.size 3 1 g.2 (xs.take g.1).length ((xs.take g.1).map (Value.int .i64))) (fun g=>ws.length-g.1) ((0,.slice none 0 0)) ⟨rfl,rfl,rfl,rfl,rfl,trivial⟩ ⟨Nat.zero_le _,Keep.refl _ _,eG _ _ _ _⟩ ?_
 rintro ⟨i,lv⟩ w1 ⟨hi,he1,hO1⟩
 simp only at hi hO1
 have hlt':i<ws.length:=by omega
 have hsm:(ws.getD i []).length≤100000:=hs _ (by rw [au hlt'];exact List.getElem_mem hlt')
 refine T.q (L.o (O.X5 rfl rfl (by (try dsimp only);omega) (L.nil (T.seq (T.ct (T.skip (T.seq (T.block (T.q (L.o (O.indexAddr runUnderlying61 sizeOf9 rfl rfl (hp.ext he1) (by omega) (by omega) (L.o (O.load isAgg9 rfl ((hp.ext he1).at hlt') (?_))))))))))))))
 rcases Nat.lt_or_ge i m with him|him
 ·have htk:(xs.take i).length=i:=by rw [List.length_take];omega
  have hsn:xs.take (i+1)=xs.take i ++ [xs.getD i 0]:=by rw [List.take_succ_eq_append_getElem (by omega),au (by omega)]
  refine L.a rfl (L.nil (T.region (L.m rfl (L.m rfl (L.m rfl (L.o (O.call (xs:=[.tmp 16]) call160 rfl rfl (yY (ws.getD i []) (xs.getD i 0) w1 (hL.ext he1) hsm (hat i him)) (fun v2 w2 hq=>?_))))))))
  obtain ⟨rfl,he2⟩:=hq
  refine L.o (O.buildSlice (el:=3) (parts:=[(0,.tmp 17)]) (vs:=[(0,_)]) (cs:=[.int .i64 (xs.getD i 0)]) rfl (fun w=>by kernel_rfl) (fun b18 w18 ab4 ab5 lZ uT=>?_))
  have Ec:=he2.trans lZ
  refine L.o (O.append (size:=1) (bytes:=8) runUnderlying30 Tryz.jU rfl rfl rfl rfl (by decide) rfl rfl (aG hO1 (Ec.mono (Nat.zero_le _)) (Nat.le_refl _)) (Sl.ay (lo:=0) (n:=1) (sz:=1) uT rfl (Nat.le_refl 1) (by decide) (Nat.zero_le _)) (by intro u hu;simp at hu;subst hu;rfl) (by omega) (by simp only [maxLen];omega) (by have:=he1.size;have:=Ec.size;omega) (fun v19 w19 YF afH=>?_))
  have Gi:Ext w w19:=Keep.fO (he1.trans Ec) (aG hO1 (Ec.mono (Nat.zero_le _)) (Nat.le_refl _)) afH (Nat.le_refl _)
  refine L.a rfl (L.nil (T.blk (T.region (L.o (O.aI rfl rfl (by (try dsimp only);omega) (L.m rfl (L.nil (T.again ((i+1,v19)) (show ws.length-(i+1)<ws.length-i by omega) ⟨rfl,rfl,rfl,rfl,rfl,trivial⟩ ⟨him,Gi,by rw [hsn];exact Me YF⟩))))))))
 obtain rfl:i=m:=by omega
 refine L.a rfl (L.nil (T.region (L.m rfl (L.m rfl (L.m rfl (L.bJ (xs:=[.tmp 16]) rfl call160 rfl rfl (Oe (ws.getD i []) w1 (hL.ext he1) hsm hbad) (fun w' a hR ha=>⟨ha.defers,rfl,he1.trans hR⟩)))))))
theorem jF (lo:Nat) (p:Value) (ws:List Str) (xs:List Int) (w:World) (hp:Strs lo w p ws) (hL:jc w) (hs:∀ s∈ws,s.length≤100000) (hn:dV ws=some xs) (hlen:ws.length≤1000000) :
  Calls Tryz.prog 122 #[p] w (Ret fun v w'=>w'.ownsRow w.heap.size 3 1 v xs.length (xs.map (Value.int .i64))∧Ext w w'):=by
 refine T.enter (vs:=[p]) func122 rfl ntmps122 rfl ?_
 refine T.q (L.a rfl (L.nil (T.q (L.m rfl (L.o (O.call (xs:=[.tmp 3,.func 160]) call159 rfl rfl (Og lo p ws xs w hp hL hs hn hlen) (fun v1 w1 hq=>?_)))))))
 obtain ⟨hO,he⟩:=hq
 refine L.a rfl (L.nil (T.aU results122 rfl ⟨hO,he⟩))
theorem kQ (lo:Nat) (p:Value) (ws:List Str) (w:World) (hp:Strs lo w p ws) (hL:jc w) (hs:∀ s∈ws,s.length≤100000) (hn:dV ws=none) (hlen:ws.length≤1000000) :
  Calls Tryz.prog 122 #[p] w (Pan (bQ) fun w'=>Ext w w'):=by
 refine T.fP (vs:=[p]) func122 rfl ntmps122 rfl ?_
 refine T.q (L.a rfl (L.nil (T.q (L.m rfl (L.bJ (xs:=[.tmp 3,.func 160]) rfl call159 rfl rfl (SL lo p ws w hp hL hs hn hlen) (fun w' a hR ha=>⟨ha.defers,rfl,hR⟩))))))
open Go Go.E RowKit
def fieldsB (s:Str):List Str:=(Lib.goFieldsP (fun r=>decide (r=32)) ⟨s.toArray⟩).map fun x=>x.data.toList
theorem JU (x:Nat) (w:World) :
  Calls Tryz.prog 121 #[.int .i32 x] w (Ret fun v w'=>v = .bool (decide (x=32))∧w'=w):=by
 refine T.enter (vs:=[.int .i32 x]) func121 rfl ntmps121 rfl ?_
 refine T.q (L.a rfl (L.nil (T.q (L.m rfl (L.o (O.eql rfl rfl (L.a rfl (L.nil (T.aU results121 rfl ⟨congrArg Value.bool (decide_eq_decide.2 (by omega)),rfl⟩)))))))))
theorem aP (s:Str) (w:World) (hs:s.length≤100000):Calls Tryz.prog 120 #[str s,.func (.func 121) #[] #[]] w (Ret fun v w'=>∃ A,v = .slice (some ⟨A,0,none⟩) (fieldsB s).length (fieldsB s).length∧Strs w.heap.size w' v (fieldsB s)∧Ext w w'):=by
 refine (Tryz.strings_FieldsFunc_grows 121 #[] call121 (fun r=>decide (r=32)) ⟨s.toArray⟩ w (by simp [ByteArray.size];omega) (fun W x _ _=>(JU x W).mono ?_)).mono ?_
 ·rintro (v|_|_) w' h
  ·obtain ⟨h1,h2⟩:=h
   subst h1;subst h2
   exact ⟨rfl,Below.refl _ _⟩
  ·exact h.elim
  exact h.elim
 rintro e w' ⟨A,rfl,hA,hO,hb⟩
 have hlen:(Lib.goFieldsP (fun r=>decide (r=32)) ⟨s.toArray⟩).length=(fieldsB s).length:=by simp [fieldsB]
 have hmap:(Lib.goFieldsP (fun r=>decide (r=32)) ⟨s.toArray⟩).map Value.string=(fieldsB s).map str:=by
  simp only [fieldsB,List.map_map]
  rfl
 rw [hlen,hmap] at hO
 exact ⟨A,by rw [hlen],by rw [hlen];exact Sl.aT hO,Ext.of_below hb⟩
theorem G7 (lo:Nat) (p:Value) (xs:List Str) (s:Str) (w:World) (hp:Strs lo w p xs) :
  Calls Tryz.prog 162 #[p,str s] w (Ret fun v w'=>∃ n:Int,v = .int .i64 n∧(0≤n↔s∈xs)∧w'=w):=by
 have hle:=Sl.le hp
 refine T.enter (vs:=[p,str s]) func162 rfl ntmps162 rfl ?_
 refine T.q (L.a rfl (L.nil (T.seq (T.q (L.m rfl (L.o (O.len runUnderlying61 rfl (Sl.val hp) (L.m rfl (L.nil (T.block (?_)))))))))))
 refine T.loop (σ:=Nat) (fun i=>[(0,p),(1,str s),(7,.int .i64 xs.length),(8,.int .i64 i)]) (fun i w'=>i≤xs.length∧w'=w∧∀ k,k<i→xs.getD k []≠s) (fun i=>xs.length-i) (0) ⟨rfl,rfl,rfl,rfl,trivial⟩ ⟨Nat.zero_le _,rfl,fun k hk=>absurd hk (Nat.not_lt_zero _)⟩ ?_
 rintro i w1 ⟨hi,rfl,hall⟩
 refine T.q (L.o (O.bF rfl rfl (fun hlt=>?_) (fun hlt=>?_)))
 ·refine L.nil (?_)
  have hlt':i<xs.length:=by omega
  refine T.seq (T.ct (T.skip (T.seq (T.block (T.q (L.m rfl (L.a rfl (L.nil (T.q (L.m rfl (L.m rfl (L.m rfl (L.o (O.indexAddr runUnderlying61 sizeOf9 rfl rfl hp (by omega) (by omega) (L.o (O.load isAgg9 rfl (hp.at hlt') (L.o (O.qx runUnderlying9 rfl rfl (fun hb=>?_) (fun hb=>?_)))))))))))))))))))
  ·refine L.nil (T.ct (T.q (L.m rfl (L.a rfl (L.nil (T.aU results162 rfl ⟨i,rfl,⟨fun _=>by rw [hb,au hlt'];exact List.getElem_mem hlt',fun _=>by omega⟩,rfl⟩))))))
  refine L.nil (T.cf (T.skip (T.blk (T.region (L.o (O.aI rfl rfl (by omega) (L.m rfl (L.nil (T.again (i+1) (by omega) ⟨rfl,rfl,rfl,rfl,trivial⟩ ⟨hlt',rfl,fun k hk=>by rcases Nat.lt_or_ge k i with h|h;exact hall k h;obtain rfl:k=i:=(by omega);exact fun e=>hb e.symm⟩)))))))))
 refine L.nil (?_)
 obtain rfl:i=xs.length:=by omega
 refine T.seq (T.cf (T.exit rfl (T.q (L.a rfl (L.nil (T.aU results162 rfl ⟨-1,rfl,⟨fun h=>by omega,fun h=>?_⟩,rfl⟩))))))
 obtain ⟨k,hk,e⟩:=List.getElem_of_mem h
 have:=hall k hk
 rw [au hk,e] at this
 exact absurd rfl this
theorem G8 (lo:Nat) (p:Value) (xs:List Str) (s:Str) (w:World) (hp:Strs lo w p xs) :
  Calls Tryz.prog 124 #[p,str s] w (Ret fun v w'=>v = .bool (decide (s∈xs))∧w'=w):=by
 refine T.enter (vs:=[p,str s]) func124 rfl ntmps124 rfl ?_
 refine T.q (L.a rfl (L.nil (T.q (L.m rfl (L.m rfl (L.o (O.call (xs:=[.tmp 5,.tmp 6]) call162 rfl rfl (G7 lo p xs s w hp) (fun v1 w1 hq=>?_))))))))
 obtain ⟨n,rfl,hn,rfl⟩:=hq
 refine L.o (O.geq rfl rfl (L.a rfl (L.nil (T.aU results124 rfl ⟨congrArg Value.bool (decide_eq_decide.2 hn),rfl⟩))))
theorem aW (lo:Nat) (p:Value) (xs:List Str) (b:Nat) (cs:List Value) (s:Str) (w:World) (hp:Strs lo w p xs) (hB:Blk w b cs 129) (h6:cs[6]?=some (str s)) :
  Calls Tryz.prog 68 #[.pointer (some ⟨b,0,none⟩),p] w (Ret fun v w'=>v = .bool (decide (s∈xs))∧w'=w):=by
 refine T.enter (vs:=[.pointer (some ⟨b,0,none⟩),p]) func68 rfl ntmps68 rfl ?_
 refine T.q (L.a rfl (L.nil (T.q (L.m rfl (L.m rfl (L.o (O.nilCheck rfl (L.o (O.fieldAddr runUnderlying129 rfl sizeOf9 rfl (L.o (O.load isAgg9 rfl (hB.cell h6) (L.o (O.call (xs:=[.tmp 5,.tmp 9]) call124 rfl rfl (G8 lo p xs s w hp) (fun v1 w1 hq=>?_))))))))))))))
 obtain ⟨rfl,rfl⟩:=hq
 refine L.a rfl (L.nil (T.aU results68 rfl ⟨rfl,rfl⟩))
end Go.Proofs.YtnlonpcbgjbbaaaGreatDoor
