/-
  BlocksBlanks, part 16 of its proof: that it returns true for every input, and each argument reads behind the call as it read before. Conditions: the listed variables read as the program's text lays them (tied by the card).
-/
import Derived.Test.YtnlonpcbgjbbaaaGreatDoorWBlocksBlanks15
set_option linter.unusedVariables false
set_option linter.unusedSimpArgs false
set_option maxRecDepth 20000
set_option linter.unusedVariables false
set_option linter.unusedSimpArgs false
set_option maxRecDepth 20000
namespace Go.Proofs.YtnlonpcbgjbbaaaGreatDoor
open Go.Proofs.Tryz (call108 call117 call121 call124 call157 call159 call160 call161 call162 call34 call54 call55 call65 func117 func121 func122 func124 func157 func159 func160 func162 func19 func65 func68 isAgg124 isAgg125 isAgg127 isAgg23 isAgg3 isAgg30 isAgg4 isAgg43 isAgg44 isAgg48 isAgg51 isAgg9 ntmps117 ntmps121 ntmps122 ntmps124 ntmps157 ntmps159 ntmps160 ntmps162 ntmps19 ntmps65 ntmps68 results117 results121 results122 results124 results157 results159 results160 results162 results19 results65 results68 runUnderlying124 runUnderlying125 runUnderlying127 runUnderlying129 runUnderlying23 runUnderlying25 runUnderlying3 runUnderlying30 runUnderlying43 runUnderlying44 runUnderlying46 runUnderlying48 runUnderlying51 runUnderlying61 runUnderlying9 sizeOf124 sizeOf125 sizeOf127 sizeOf23 sizeOf25 sizeOf3 sizeOf30 sizeOf4 sizeOf43 sizeOf44 sizeOf46 sizeOf48 sizeOf51 sizeOf9 zeroValue124 zeroValue127 zeroValue51)
open Go Go.E RowKit
attribute [local irreducible] Go.E.T Go.E.L Go.E.O Go.E.Ob
theorem kX {d c:UInt8} {r:Str} (h:c=d):aK d (c::r) = []::aK d r:=by
 subst h;exact iG (w:=[]) (by simp)
theorem gu {d c:UInt8} {r w:Str} {ws:List Str} (h:c≠d) (hr:aK d r=w::ws):aK d (c::r)=(c::w)::ws:=by
 rw [aK];simp [h,hr]
theorem ug (d:UInt8) (v:Str):∀ u:Str,aK d (u++d::v)=aK d u++aK d v
 | []=>by rw [List.nil_append,kX rfl];rfl
 | c::u=>by
  have ih:=ug d v u
  by_cases h:c=d
  ·rw [List.cons_append,kX h,kX h,ih];rfl
  cases hu:aK d u with
  | nil=>exact absurd hu (qH d u)
  | cons w ws =>
   rw [hu] at ih
   rw [List.cons_append,gu h ih,gu h hu];rfl
open Go Go.E RowKit
attribute [local irreducible] Go.E.ObX Go.E.ObG Go.E.ObK
theorem JK (n:Nat) (w:World) (h0:0<n) (hn:n≤1000000) :
  Calls Tryz.prog 157 #[.slice none 0 0,.int .i64 n] w (Ret fun v w'=>Ext w w'∧w'.ownsRow w.heap.size 3 1 v 0 []):=by
 refine T.enter (vs:=[.slice none 0 0,.int .i64 n]) func157 rfl ntmps157 rfl ?_
 refine T.q (L.a rfl (L.nil (T.seq (T.q (L.m rfl (L.o (O.xg rfl rfl (by omega) (L.nil (T.cf (T.skip (T.seq (T.q (L.m rfl (L.m rfl (L.o (O.ac7 runUnderlying30 rfl (L.m rfl (L.o (O.len runUnderlying30 rfl (Sl.val (KR 0 w 1)) (L.o (O.gQ rfl rfl (by omega) (L.o (O.gQ rfl rfl (by omega) (L.a rfl (L.nil (?_))))))))))))))))))))))))))
 refine T.q (L.m rfl (L.o (O.Ci rfl rfl (by omega) (L.nil (T.ct (T.region (L.m rfl (L.m rfl (L.o (O.ac7 runUnderlying30 rfl (L.o (O.lK (m:=0) runUnderlying30 sizeOf3 rfl rfl (by decide) (by decide) (L.m rfl (L.o (O.oW (n:=n) (size:=1) (bytes:=8) runUnderlying30 runUnderlying3 Tryz.mP rfl rfl rfl rfl (by decide) rfl (by show some (Value.int .i64 _)=some (Value.int .i64 _);congr 2) h0 hn (by omega) (fun cap w1 cur he1 hc1 hc2 hB1 hl1=>?_))))))))))))))))
 refine L.m rfl (L.o (O.len runUnderlying30 rfl (Sl.val (KR 0 w1 1)) (L.o (O.lK (m:=0) runUnderlying30 sizeOf3 rfl rfl (by decide) (by omega) (L.a rfl (L.nil (T.q (L.m rfl (L.a rfl (L.nil (T.aU results157 rfl ⟨he1,rfl,.inr ⟨_,cap,cur.toArray,rfl,Nat.le_refl _,hB1,Nat.zero_le _,hc2,by simpa using hl1,by simp⟩⟩)))))))))))
theorem D7 (lo lo2:Nat) (p:Value) (vs:List Value) (css:List (List Value)) (w:World) (hp:Sl lo w p vs.length 1 vs) (hv:LoL lo2 w vs css) (h0:0<css.flatten.length) (hn:css.flatten.length≤1000000) (h1:∀ c∈css.flatten,c.oneCell'=true) :
  Calls Tryz.prog 117 #[p] w (Ret fun v w'=>Ext w w'∧Sl w.heap.size w' v css.flatten.length 1 css.flatten):=by
 have hle:=Sl.le hp
 have hvl:=hv.1
 refine T.enter (vs:=[p]) func117 rfl ntmps117 rfl ?_
 refine T.q (L.a rfl (L.nil (T.q (L.a rfl (L.nil (T.seq (T.q (L.m rfl (L.o (O.len runUnderlying125 rfl (Sl.val hp) (L.m rfl (L.nil (T.block (?_))))))))))))))
 refine T.loop (σ:=Nat) (fun i=>[(0,p),(3,.int .i64 (fl css i).length),(9,p),(10,.int .i64 vs.length),(11,.int .i64 i)]) (fun i w'=>i≤vs.length∧w'=w) (fun i=>vs.length-i) (0) ⟨rfl,rfl,rfl,rfl,rfl,trivial⟩ ⟨Nat.zero_le _,rfl⟩ ?_
 rintro i w1 ⟨hi,rfl⟩
 refine T.q (L.o (O.bH rfl rfl (fun hlt=>?_) (fun hlt=>?_)))
 ·refine L.nil (?_)
  have hlt':i<css.length:=by omega
  have hs:=hv.2 i hlt'
  have hfl:=U3 css (i+1)
  have hfs:=congrArg List.length (sZ css i hlt')
  rw [List.length_append] at hfs
  refine T.seq (T.ct (T.skip (T.seq (T.block (T.q (L.o (O.indexAddr runUnderlying125 sizeOf30 rfl rfl hp (by omega) (by omega) (L.o (O.load isAgg30 rfl (by rw [Int.toNat_natCast,Nat.mul_one];exact Sl.cell hp (show vs[i]?=some (vs.getD i undef) by rw [au (by omega)];simp [hvl,hlt'])) (L.a rfl (L.nil (T.q (L.m rfl (L.m rfl (L.o (O.len runUnderlying30 rfl (Sl.val hs) (L.o (O.aH rfl rfl (by omega) (L.a rfl (L.nil (T.q (L.m rfl (L.o (O.xg rfl rfl (by omega) (L.nil (?_))))))))))))))))))))))))))
  refine T.cf (T.skip (T.blk (T.region (L.o (O.aH rfl rfl (by omega) (L.m rfl (L.nil (T.again (i+1) (by omega) ⟨rfl,?_,rfl,rfl,rfl,trivial⟩ ⟨by omega,rfl⟩))))))))
  ·rw [hfs];rfl
 refine L.nil (?_)
 obtain rfl:i=vs.length:=by omega
 have hfe:fl css vs.length=css.flatten:=by rw [hvl,fl,List.take_length]
 rw [hfe]
 refine T.seq (T.cf (T.exit rfl (T.q (L.m rfl (L.o (O.call (xs:=[.const (.slice none 0 0),.tmp 23]) call157 rfl rfl (JK css.flatten.length w1 h0 hn) (fun v2 w2 hq=>?_)))))))
 obtain ⟨he2,hO2⟩:=hq
 refine L.a rfl (L.nil (T.seq (T.q (L.m rfl (L.o (O.len runUnderlying125 rfl (Sl.val (Sl.ext hp he2)) (L.m rfl (L.nil (T.block (?_))))))))))
 refine T.loop (σ:=Nat × Value) (fun s=>[(6,s.2),(25,p),(26,.int .i64 vs.length),(27,.int .i64 s.1)]) (fun s w'=>s.1≤vs.length∧Ext w1 w'∧w'.ownsRow w1.heap.size 3 1 s.2 (fl css s.1).length (fl css s.1)) (fun s=>vs.length-s.1) ((0,v2)) ⟨rfl,rfl,rfl,rfl,trivial⟩ ⟨Nat.zero_le _,he2,hO2⟩ ?_
 rintro ⟨k,s⟩ w3 ⟨hk,he3,hO3⟩
 simp only at hk hO3
 refine T.q (L.o (O.bH rfl rfl (fun hlt2=>?_) (fun hlt2=>?_)))
 ·refine L.nil (?_)
  have hlt':k<css.length:=by simp only at hlt2;omega
  have hs:=(hv.ext he3).2 k hlt'
  have hp3:Sl lo w3 p vs.length 1 vs:=Sl.ext hp he3
  have hfl:=U3 css (k+1)
  have hfs:=congrArg List.length (sZ css k hlt')
  rw [List.length_append] at hfs
  refine T.seq (T.ct (T.skip (T.seq (T.block (T.q (L.o (O.indexAddr runUnderlying125 sizeOf30 rfl rfl hp3 (by omega) (by omega) (L.o (O.load isAgg30 rfl (by rw [Int.toNat_natCast,Nat.mul_one];exact Sl.cell hp3 (show vs[k]?=some (vs.getD k undef) by rw [au (by omega)];simp [hvl,hlt'])) (L.a rfl (L.nil (T.region (L.m rfl (L.m rfl (L.o (O.append (size:=1) (bytes:=8) runUnderlying30 Tryz.mP rfl rfl rfl rfl (by decide) rfl rfl hO3 hs (fun c hc=>h1 c (by rw [← List.take_append_drop k css,List.flatten_append];exact List.mem_append_right _ (List.mem_flatten.2 ⟨_,by rw [au hlt'];exact List.mem_drop_iff_getElem.2 ⟨0,by omega,rfl⟩,hc⟩))) (by omega) (by simp only [maxLen];omega) he3.size (fun v4 w4 hO4 hG4=>?_)))))))))))))))))
  have Yo:Ext w1 w4:=Keep.gB he3 hO3 hG4 (Nat.le_refl _)
  refine L.a rfl (L.nil (T.blk (T.region (L.o (O.aH rfl rfl (by simp only;omega) (L.m rfl (L.nil (T.again ((k+1,v4)) (by omega) ⟨rfl,rfl,rfl,rfl,trivial⟩ ⟨by simp only;omega,Yo,by rw [hfs,sZ css k hlt'];exact hO4⟩))))))))
 refine L.nil (?_)
 obtain rfl:k=vs.length:=by simp only at hlt2;omega
 rw [hfe] at hO3
 refine T.seq (T.cf (T.exit rfl (T.q (L.m rfl (L.a rfl (L.nil (T.aU results117 rfl ⟨he3,Sl.aS hO3⟩)))))))
def spell (xs:List Int):Str:=xs.flatMap fun x=>32::Lib.itoa x
theorem N7 {xs:List Int} {i:Nat} (hi:i<xs.length):spell (xs.take (i+1))=spell (xs.take i)++(32::Lib.itoa (xs.getD i 0)):=by
 rw [List.take_succ_eq_append_getElem hi,spell,spell,List.flatMap_append,au hi];simp
def O1 (xs:List Int):Prop:=∀ x∈xs,-9223372036854775808≤x∧x≤9223372036854775807
theorem O1.at {xs:List Int} (h:O1 xs) {i:Nat} (hi:i<xs.length) : -9223372036854775808≤xs.getD i 0∧xs.getD i 0≤9223372036854775807:=by
 rw [au hi];exact h _ (List.getElem_mem hi)
theorem nM:∀ (xs:List Int),O1 xs→(spell xs).length≤22*xs.length
 | [],_=>by simp [spell]
 | x::r,h=>by
  have h1:=nM r fun y hy=>h y (List.mem_cons_of_mem _ hy)
  have hx:=h x (by simp)
  have h2:=Lib.itoa_length_le x hx.1 hx.2
  have e:spell (x::r)=(32::Lib.itoa x)++spell r:=rfl
  rw [e,List.length_append,List.length_cons,List.length_cons]
  omega
theorem yS (h:Str) (lo lo2:Nat) (p:Value) (vs:List Value) (css:List (List Value)) (xs:List Int) (w:World) (hp:Sl lo w p vs.length 1 vs) (hv:LoL lo2 w vs css) (hx:css.flatten=xs.map (Value.int .i64)) (h0:0<xs.length) (hn:xs.length≤100000) (hi:O1 xs) (hL:je w) (hh:h.length≤100000) :
  Calls Tryz.prog 65 #[str h,p] w (Ret fun v w'=>v=str (h++spell xs)∧Ext w w'):=by
 have hfl:css.flatten.length=xs.length:=by rw [hx,List.length_map]
 refine T.enter (vs:=[str h,p]) func65 rfl ntmps65 rfl ?_
 refine T.q (L.a rfl (L.nil (T.seq (T.q (L.m rfl (L.o (O.call (xs:=[.tmp 7]) call117 rfl rfl (D7 lo lo2 p vs css w hp hv (by omega) (by omega) (by rw [hx];intro c hc;obtain ⟨x,_,rfl⟩:=List.mem_map.1 hc;rfl)) (fun v1 w1 hq=>?_))))))))
 obtain ⟨he1,hS1⟩:=hq
 rw [hfl,hx] at hS1
 have hI1:Ints .i64 w.heap.size w1 v1 xs:=hS1
 refine L.o (O.len runUnderlying30 rfl (Sl.val hI1) (L.m rfl (L.nil (T.block (?_)))))
 refine T.loop (σ:=Nat) (fun i=>[(0,str (h++spell (xs.take i))),(8,v1),(9,.int .i64 xs.length),(10,.int .i64 i)]) (fun i W=>i≤xs.length∧Ext w1 W) (fun i=>xs.length-i) (0) ⟨?_,rfl,rfl,rfl,trivial⟩ ⟨Nat.zero_le _,Keep.refl _ _⟩ ?_
 ·exact congrArg (fun z=>some (str z)) (by simp [spell])
 rintro i w2 ⟨hi2,he2⟩
 refine T.q (L.o (O.bH rfl rfl (fun hlt=>?_) (fun hlt=>?_)))
 ·refine L.nil (?_)
  have hlt':i<xs.length:=by omega
  have hb:=hi.at hlt'
  have hsl:=nM (xs.take i) (fun x hx=>hi x (List.mem_of_mem_take hx))
  have hil:=Lib.itoa_length_le (xs.getD i 0) hb.1 hb.2
  rw [List.length_take,Nat.min_eq_left (by omega)] at hsl
  refine T.seq (T.ct (T.skip (T.seq (T.block (T.q (L.o (O.indexAddr runUnderlying30 sizeOf3 rfl rfl (hI1.ext he2) (by omega) (by omega) (L.o (O.load isAgg3 rfl (Ints.at (hI1.ext he2) hlt') (L.a rfl (L.nil (T.region (L.m rfl (L.m rfl (L.o (O.call (xs:=[.tmp 15]) call54 rfl rfl (oH (xs.getD i 0) w2 (hL.ext (he1.trans he2)) hb.1 hb.2) (fun v3 w3 hq=>?_)))))))))))))))))
  obtain ⟨rfl,he3⟩:=hq
  refine L.o (O.iY rfl rfl (by show 1+_≤_;omega) (L.o (O.iY rfl rfl (by rw [List.length_append,List.length_append];show h.length+_+(1+(Lib.itoa (xs.getD i 0)).length)≤_;omega) (L.a rfl (L.nil (T.blk (T.region (L.o (O.aH rfl rfl (by omega) (L.m rfl (L.nil (T.again (i+1) (by omega) ⟨?_,rfl,rfl,rfl,trivial⟩ ⟨hlt',he2.trans he3⟩))))))))))))
  ·exact congrArg (fun z=>some (str z)) (by rw [N7 hlt'];simp [List.append_assoc])
 refine L.nil (?_)
 obtain rfl:i=xs.length:=by omega
 rw [List.take_length]
 refine T.seq (T.cf (T.exit rfl (T.q (L.m rfl (L.a rfl (L.nil (T.aU results65 rfl ⟨rfl,he1.trans he2⟩)))))))
open Go Go.E RowKit
def bD:Str:=[108,97,110,100]
def aN:Str:=[112,111,105,110,116]
def aZ:Str:=[102,97,99,101]
def bn:Str:=[104,111,108,101]
def RU:Str:=[117,110,105,116,32]
def GN:Str:=[32,119,97,116,101,114]
def dL:Str:=[101,110,100]
def ptL (p:Pt):Str:=aN++spell [p.1,p.2]
def rF (f:FaV):List Str:=(aZ++spell f.o.xs)::f.hs.map fun h=>bn++spell h.xs
def dh (u:UnV):List Int:=u.pp::u.gs++u.vs++u.ps
def uh (u:UnV):Str:=RU++u.nm++spell (dh u)++(if u.wt=true then GN else [])
def lA (r:RoV):List Str:=[bD++spell [r.G,r.P,r.L]]
def lB (c:CxV) (r:RoV) (i:Nat):List Str:=lA r++(c.ps.take i).map ptL
def lC (c:CxV) (r:RoV) (i:Nat):List Str:=lA r++c.ps.map ptL++(c.fs.take i).flatMap rF
def lH (c:CxV) (r:RoV) (i:Nat) (f:FaV) (j:Nat):List Str:=lC c r i ++ [aZ++spell f.o.xs]++(f.hs.take j).map fun h=>bn++spell h.xs
def lD (c:CxV) (r:RoV) (i:Nat):List Str:=lA r++c.ps.map ptL++c.fs.flatMap rF++(r.us.take i).map uh
def bI (c:CxV) (r:RoV):List Str:=lA r++c.ps.map ptL++c.fs.flatMap rF++r.us.map uh ++ [dL]
structure vG (c:CxV) (r:RoV):Prop where
 roll:O1 [r.G,r.P,r.L]
 pts:∀ p∈c.ps,O1 [p.1,p.2]
 rim:∀ f∈c.fs,O1 f.o.xs∧0<f.o.xs.length∧f.o.xs.length≤1000
 hole:∀ f∈c.fs,∀ h∈f.hs,O1 h.xs∧0<h.xs.length∧h.xs.length≤1000
 unit:∀ u∈r.us,O1 (dh u)∧(dh u).length≤1000∧u.nm.length≤1000
 len:(ay (bI c r)).length≤1000000
theorem GU:∀ ls:List Str,ls.length≤(ay ls).length
 | []=>Nat.le_refl _
 | l::r=>by
  have:=GU r
  have e:ay (l::r)=l ++ [10]++ay r:=by simp [ay]
  rw [e,List.length_append,List.length_append,List.length_cons]
  simp only [List.length_cons,List.length_nil]
  omega
theorem vG.lines {c:CxV} {r:RoV} (h:vG c r):(bI c r).length≤1000000:=Nat.le_trans (GU _) h.len
theorem Y0 {α:Type} (f:α→List Str) (l:List α) (i:Nat):((l.take i).flatMap f).length≤(l.flatMap f).length:=by
 have e:l.flatMap f=(l.take i).flatMap f++(l.drop i).flatMap f:=by rw [← List.flatMap_append,List.take_append_drop]
 rw [e,List.length_append];omega
theorem aeZ {c:CxV} {r:RoV} (h:vG c r) {i:Nat} : (lB c r i).length≤1000000:=by
 have h1:=h.lines
 simp only [bI,lB,List.length_append,List.length_map,List.length_take,List.length_cons,List.length_nil] at h1 ⊢
 omega
theorem abL {c:CxV} {r:RoV} (h:vG c r) {i:Nat} : (lC c r i).length≤1000000:=by
 have h1:=h.lines
 have h2:=Y0 rF c.fs i
 simp only [bI,lC,List.length_append,List.length_map,List.length_take,List.length_cons,List.length_nil] at h1 ⊢
 omega
theorem abM {c:CxV} {r:RoV} (h:vG c r) {i:Nat} : (lD c r i).length≤1000000:=by
 have h1:=h.lines
 simp only [bI,lD,List.length_append,List.length_map,List.length_take,List.length_cons,List.length_nil] at h1 ⊢
 omega
theorem Y1 {c:CxV} {r:RoV} {i:Nat} (hi:i<c.ps.length):lB c r (i+1)=lB c r i ++ [ptL (c.ps.getD i (0,0))]:=by
 rw [lB,lB,List.take_succ_eq_append_getElem hi,List.map_append,au hi,List.append_assoc];rfl
theorem Y2 {c:CxV} {r:RoV} {i:Nat} (hi:i<c.fs.length):lC c r (i+1)=lC c r i++rF (c.fs.getD i f0):=by
 rw [lC,lC,List.take_succ_eq_append_getElem hi,List.flatMap_append,au hi,List.append_assoc,List.append_assoc,List.append_assoc];simp
theorem RV {c:CxV} {r:RoV} {i:Nat} (hi:i<c.fs.length):lH c r i (c.fs.getD i f0) (c.fs.getD i f0).hs.length=lC c r (i+1):=by
 rw [Y2 hi,lH,List.take_length,rF,List.append_assoc];rfl
theorem Y3 {c:CxV} {r:RoV} {i j:Nat} {f:FaV} (hj:j<f.hs.length):lH c r i f (j+1)=lH c r i f j ++ [bn++spell (f.hs.getD j ⟨undef,[]⟩).xs]:=by
 rw [lH,lH,List.take_succ_eq_append_getElem hj,List.map_append,au hj,List.append_assoc,List.append_assoc,List.append_assoc];rfl
theorem ae0 {c:CxV} {r:RoV} (h:vG c r) {i j:Nat} (hi:i<c.fs.length):(lH c r i (c.fs.getD i f0) j).length≤1000000:=by
 have h1:=abL h (i:=i+1)
 rw [← RV hi] at h1
 simp only [lH,List.length_append,List.length_map,List.length_take,List.length_cons,List.length_nil] at h1 ⊢
 omega
theorem Y4 {c:CxV} {r:RoV} {i:Nat} (hi:i<r.us.length):lD c r (i+1)=lD c r i ++ [uh (r.us.getD i u0)]:=by
 rw [lD,lD,List.take_succ_eq_append_getElem hi,List.map_append,au hi,← List.append_assoc];rfl
noncomputable def jI (c:CxV) (r:RoV) (e:Int):Str × Int :=
 if e≠0 then ([],e) else if 40000<(ay (bI c r)).length then ([],3) else (ay (bI c r),0)
theorem Ints.append {k:IntKind} {lo:Nat} {w:World} {v:Value} {xs:List Int} (h:Ints k lo w v xs):Sl lo w v (xs.map (Value.int k)).length 1 (xs.map (Value.int k)):=by
 rw [List.length_map];exact h
theorem Y5 {w:World} {v:Value} {xs:List Int} (h:Ints .i64 0 w v xs):LoL 0 w [v] [xs.map (Value.int .i64)]:=⟨rfl,fun i hi=>by
 have e:i=0:=by simpa using hi
 subst e
 exact Ints.append h⟩
theorem VX {w:World} {a b c d:Value} {la bs cs ds:List Int} (ha:Ints .i64 0 w a la) (hb:Ints .i64 0 w b bs) (hc:Ints .i64 0 w c cs) (hd:Ints .i64 0 w d ds):LoL 0 w [a,b,c,d] ([la,bs,cs,ds].map fun l=>l.map (Value.int .i64)):=⟨rfl,fun i hi=>by
 match i,hi with
 | 0,_=>exact Ints.append ha
 | 1,_=>exact Ints.append hb
 | 2,_=>exact Ints.append hc
 | 3,_=>exact Ints.append hd⟩
theorem rG (h:Str) (b:Nat) (v:Value) (xs:List Int) (w:World) (hB:Blk w b [v] 30) (hv:Ints .i64 0 w v xs) (h0:0<xs.length) (hn:xs.length≤1000) (hi:O1 xs) (hL:je w) (hh:h.length≤100000) :
  Calls Tryz.prog 65 #[str h,.slice (some ⟨b,0,none⟩) 1 1] w (Ret fun v' w'=>v'=str (h++spell xs)∧Ext w w') :=
 yS h 0 0 _ [v] [xs.map (Value.int .i64)] xs w (Sl.aA (n:=1) (sz:=1) hB rfl (Nat.le_refl 1) (by decide) (Nat.zero_le _)) (Y5 hv) (by simp) h0 (by omega) hi hL hh
theorem RX:aN.length≤100000:=by decide
theorem VY:aZ.length≤100000:=by decide
theorem VZ:bn.length≤100000:=by decide
theorem V3:bD.length≤100000:=by decide
theorem rH {base:Nat} {xs:List Str} {s:Str} {v:Value} {w:World} (h:w.ownsRow base 9 1 v (xs.length+1) (xs.map str ++ [s].map str)):yL base (xs ++ [s]) v w:=GI (ys:=[s]) h
set_option maxHeartbeats 2000000 in
theorem Bz (lo:Nat) (c:CxV) (r:RoV) (w:World) (hc:c.ok lo w) (hr:r.ok lo w) (hL:je w) (hs:dX c r (cZ c)=0→vG c r) :
  Calls Tryz.prog 19 #[.agg (fG c r).toArray] w (Ret fun v w'=>v = .tuple #[str (jI c r (dX c r (cZ c))).1,.int .i64 (jI c r (dX c r (cZ c))).2]∧Ext w w'):=by
 refine T.enter (vs:=[.agg (fG c r).toArray]) func19 rfl ntmps19 rfl ?_
 refine T.q (L.o (O.box rfl (fun b1 w1 hb1 hz1 he1 hB1=>?_)))
 have hl1:Blk w1 b1 (fG c r) 48:=hB1
 refine L.a rfl (L.a rfl (L.nil (T.seq (T.q (L.o (O.ak isAgg48 sizeOf48 rfl rfl (Row.aA hl1) (L.o (O.call (xs:=[.tmp 16]) call34 rfl rfl (vw lo c r w1 (hc.ext he1) (hr.ext he1)) (fun v2 w2 hq=>?_)))))))))
 obtain ⟨rfl,he2⟩:=hq
 have zV:=he1.trans he2
 refine L.a rfl (L.nil (T.q (L.m rfl (L.o (O.kC rfl rfl (fun h0=>?_) (fun h0=>?_))))))
 ·refine L.nil (T.ct (T.q (L.m rfl (L.a rfl (L.a rfl (L.nil (T.Ce results19 rfl rfl ⟨by rw [jI,if_pos h0];rfl,zV⟩)))))))
 refine L.nil (?_)
 have hS:=hs h0
 rw [h0]
 have hl2:=Blk.ext (cs:=fG c r) hl1 he2
 refine T.cf (T.skip (T.q (L.o (O.fieldAddr runUnderlying48 rfl sizeOf25 rfl (L.o (O.fieldAddr runUnderlying25 rfl sizeOf3 rfl (L.o (O.load isAgg3 rfl (hl2.cell rfl) (L.o (O.fieldAddr runUnderlying48 rfl sizeOf25 rfl (L.o (O.fieldAddr runUnderlying25 rfl sizeOf3 rfl (L.o (O.load isAgg3 rfl (hl2.cell rfl) (L.o (O.fieldAddr runUnderlying48 rfl sizeOf25 rfl (L.o (O.fieldAddr runUnderlying25 rfl sizeOf3 rfl (L.o (O.load isAgg3 rfl (hl2.cell rfl) (L.o (O.buildSlice (el:=3) (parts:=[(0,.tmp 23),(1,.tmp 26),(2,.tmp 29)]) (vs:=[(0,_),(1,_),(2,_)]) (cs:=([r.G,r.P,r.L].map (Value.int .i64))) rfl (fun w=>by kernel_rfl) (fun b30 w30 ama aia Ns Yb=>?_)))))))))))))))))))))))
 have ajE:Ints .i64 0 w30 (.slice (some ⟨b30,0,none⟩) 3 3) [r.G,r.P,r.L]:=Ints.aA Yb rfl (by decide) (Nat.zero_le _)
 refine L.o (O.buildSlice (el:=30) (parts:=[(0,.tmp 30)]) (vs:=[(0,_)]) (cs:=[.slice (some ⟨b30,0,none⟩) 3 3]) rfl (fun w=>by kernel_rfl) (fun b31 w31 amb amc Ij VF=>?_))
 refine L.o (O.call (xs:=[_,.tmp 31]) call65 rfl rfl (rG bD b31 _ [r.G,r.P,r.L] w31 VF (ajE.ext Ij) (by simp) (by simp) hS.roll (hL.ext ((zV.trans Ns).trans Ij)) V3) (fun v32 w32 hq=>?_))
 obtain ⟨rfl,Yc⟩:=hq
 refine L.o (O.buildSlice (el:=9) (parts:=[(0,.tmp 32)]) (vs:=[(0,_)]) (cs:=((lA r).map str)) rfl (fun w=>by kernel_rfl) (fun b33 w33 ah8 ah9 Uh aaA=>?_))
 have ajF:yL w32.heap.size (lB c r 0) (.slice (some ⟨b33,0,none⟩) 1 1) w33:=lI (n:=1) (cap:=1) (sz:=1) aaA (by omega) (Nat.le_refl _) (by decide) rfl
 have ae1:=(((zV.trans Ns).trans Ij).trans Yc).trans Uh
 have abN:=(((he2.trans Ns).trans Ij).trans Yc).trans Uh
 refine L.a rfl (L.nil (T.seq (T.q (L.o (O.fieldAddr runUnderlying48 rfl sizeOf46 rfl (L.o (O.fieldAddr runUnderlying46 rfl sizeOf43 rfl (L.o (O.load isAgg43 rfl ((Blk.ext (cs:=fG c r) hl1 abN).cell rfl) (L.o (O.len runUnderlying43 rfl (Sl.val ((hc.ext ae1).p)) (L.m rfl (L.nil (T.block (?_)))))))))))))))
 refine T.loop (σ:=Nat × Value) (fun g=>[(1,.pointer (some ⟨b1,0,none⟩)),(5,g.2),(36,c.pv),(37,.int .i64 c.ps.length),(38,.int .i64 g.1)]) (fun g W=>g.1≤c.ps.length∧Ext w1 W∧Ext w32 W∧yL w32.heap.size (lB c r g.1) g.2 W) (fun g=>c.ps.length-g.1) ((0,.slice (some ⟨b33,0,none⟩) 1 1)) ⟨rfl,rfl,rfl,rfl,rfl,trivial⟩ ⟨Nat.zero_le _,abN,Uh,ajF⟩ ?_
 rintro ⟨i,lv⟩ w34 ⟨hi,V4,RY,Qc⟩
 simp only at hi Qc
 have hc34:=hc.ext (he1.trans V4)
 have hqa:=Sl.le hc34.p
 refine T.q (L.o (O.bH rfl rfl (fun hlt=>?_) (fun hlt=>?_)))
 ·refine L.nil (?_)
  have hlt':i<c.ps.length:=by simp only at hlt;omega
  have hpm:c.ps.getD i (0,0)∈c.ps:=by rw [au hlt'];exact List.getElem_mem hlt'
  refine T.seq (T.ct (T.skip (T.seq (T.block (T.q (L.o (O.indexAddr runUnderlying43 sizeOf124 rfl rfl hc34.p (by omega) (by omega) (L.o (O.ak isAgg124 sizeOf124 rfl rfl (hc34.p.row hlt') (L.o (O.alloc zeroValue124 (fun b7 w7 hb7 hz7 he7 hB7=>?_))))))))))))
  refine L.o (O.aF sizeOf124 rfl rfl rfl hB7 (Nat.le_refl _) (gZ _) (fun w8 hu8 hB8=>?_))
  have hX8:Blk w8 b7 (pC (c.ps.getD i (0,0))) 124:=hB8
  have ae2:Ext w34 w8:=he7.upd hu8 (.inr (by omega))
  refine L.nil (T.region (L.m rfl (L.o (O.fieldAddr runUnderlying124 rfl sizeOf3 rfl (L.o (O.load isAgg3 rfl (hX8.cell rfl) (L.o (O.fieldAddr runUnderlying124 rfl sizeOf3 rfl (L.o (O.load isAgg3 rfl (hX8.cell rfl) (L.o (O.buildSlice (el:=3) (parts:=[(0,.tmp 44),(1,.tmp 46)]) (vs:=[(0,_),(1,_)]) (cs:=([(c.ps.getD i (0,0)).1,(c.ps.getD i (0,0)).2].map (Value.int .i64))) rfl (fun w=>by kernel_rfl) (fun b47 w47 amd ame adt ad4=>?_)))))))))))))
  have ajG:Ints .i64 0 w47 (.slice (some ⟨b47,0,none⟩) 2 2) [(c.ps.getD i (0,0)).1,(c.ps.getD i (0,0)).2]:=Ints.aA ad4 rfl (by decide) (Nat.zero_le _)
  refine L.o (O.buildSlice (el:=30) (parts:=[(0,.tmp 47)]) (vs:=[(0,_)]) (cs:=[.slice (some ⟨b47,0,none⟩) 2 2]) rfl (fun w=>by kernel_rfl) (fun b48 w48 hb48 amf Ql ajH=>?_))
  have XF:=(ae2.trans adt).trans Ql
  refine L.o (O.call (xs:=[_,.tmp 48]) call65 rfl rfl (rG aN b48 _ [(c.ps.getD i (0,0)).1,(c.ps.getD i (0,0)).2] w48 ajH (ajG.ext Ql) (by simp) (by simp) (hS.pts _ hpm) (hL.ext ((he1.trans V4).trans XF)) RX) (fun v49 w49 hq=>?_))
  obtain ⟨rfl,Xq⟩:=hq
  refine L.o (O.buildSlice (el:=9) (parts:=[(0,.tmp 49)]) (vs:=[(0,_)]) (cs:=([ptL (c.ps.getD i (0,0))].map str)) rfl (fun w=>by kernel_rfl) (fun b50 w50 amg amh ajI ae3=>?_))
  have LV:=(XF.trans Xq).trans ajI
  have hle:=aeZ hS (i:=i)
  refine L.o (O.append (size:=1) (bytes:=16) runUnderlying61 Tryz.su rfl rfl rfl rfl (by decide) rfl rfl (aI Qc (LV.mono (Nat.zero_le _)) (Nat.le_refl _)) (Strs.aA (lo:=0) ae3 rfl (by decide) (Nat.zero_le _)) (oI _) (by simp only [List.length_cons,List.length_nil,maxLen];omega) (by simp only [maxLen,List.length_cons,List.length_nil];omega) (by have:=RY.size;have:=LV.size;omega) (fun v51 w51 ajJ ajK=>?_))
  have XG:Ext w32 w51:=Keep.gB (RY.trans LV) (aI Qc (LV.mono (Nat.zero_le _)) (Nat.le_refl _)) ajK (Nat.le_refl _)
  refine L.a rfl (L.nil (T.blk (T.region (L.o (O.aH rfl rfl (by (try dsimp only);omega) (L.m rfl (L.nil (T.again ((i+1,v51)) (show c.ps.length-(i+1)<c.ps.length-i by omega) ⟨rfl,rfl,rfl,rfl,rfl,trivial⟩ ⟨hlt',(((he2.trans Ns).trans Ij).trans Yc).trans XG,XG,by rw [Y1 hlt'];exact rH ajJ⟩))))))))
 refine L.nil (?_)
 obtain rfl:i=c.ps.length:=by simp only at hlt;omega
 have hlC:lB c r c.ps.length=lC c r 0:=by simp [lB,lC]
 rw [hlC] at Qc
 refine T.seq (T.cf (T.exit rfl (T.seq (T.q (L.o (O.fieldAddr runUnderlying48 rfl sizeOf46 rfl (L.o (O.fieldAddr runUnderlying46 rfl sizeOf44 rfl (L.o (O.load isAgg44 rfl ((Blk.ext (cs:=fG c r) hl1 V4).cell rfl) (L.o (O.len runUnderlying44 rfl (Sl.val hc34.sl) (L.m rfl (L.nil (T.block (?_))))))))))))))))
 refine T.loop (σ:=Nat × Value) (fun g=>[(1,.pointer (some ⟨b1,0,none⟩)),(5,g.2),(55,c.fv),(56,.int .i64 c.fs.length),(57,.int .i64 g.1)]) (fun g W=>g.1≤c.fs.length∧Ext w1 W∧Ext w32 W∧yL w32.heap.size (lC c r g.1) g.2 W) (fun g=>c.fs.length-g.1) ((0,lv)) ⟨rfl,rfl,rfl,rfl,rfl,trivial⟩ ⟨Nat.zero_le _,V4,RY,Qc⟩ ?_
 rintro ⟨i,lv2⟩ w58 ⟨hi2,RZ,Si,Z8⟩
 simp only at hi2 Z8
 have adu:=hc.ext (he1.trans RZ)
 have hqb:=Sl.le adu.sl
 refine T.q (L.o (O.bH rfl rfl (fun hlt=>?_) (fun hlt=>?_)))
 ·refine L.nil (?_)
  have hlt':i<c.fs.length:=by simp only at hlt;omega
  have hfm:c.fs.getD i f0∈c.fs:=by rw [au hlt'];exact List.getElem_mem hlt'
  have hfo:=adu.at hlt'
  refine T.seq (T.ct (T.skip (T.seq (T.block (T.q (L.o (O.indexAddr runUnderlying44 sizeOf127 rfl rfl adu.sl (by omega) (by omega) (L.o (O.ak isAgg127 sizeOf127 rfl rfl (adu.row hlt') (L.o (O.alloc zeroValue127 (fun b9 w9 hb9 hz9 he9 hB9=>?_))))))))))))
  refine L.o (O.aF sizeOf127 rfl rfl rfl hB9 (Nat.le_refl _) (FQ hfo) (fun w10 OT EC=>?_))
  have abf:Blk w10 b9 (c.fs.getD i f0).cells 127:=EC
  have abO:Ext w58 w10:=he9.upd OT (.inr (by omega))
  obtain ⟨oa,cp,hov,_,_⟩:=Sl.val hfo.o
  refine L.nil (T.q (L.m rfl (L.o (O.fieldAddr runUnderlying127 rfl sizeOf30 rfl (L.o (O.load isAgg30 rfl (show w10.cell? ⟨b9,0,none⟩=some (.slice oa (c.fs.getD i f0).o.xs.length cp) from by rw [← hov];exact abf.cell rfl) (L.o (O.buildSlice (el:=30) (parts:=[(0,.tmp 63)]) (vs:=[(0,_)]) (cs:=[.slice oa (c.fs.getD i f0).o.xs.length cp]) rfl (fun w=>by kernel_rfl) (fun b64 w64 hb64 ami adv ajL=>?_)))))))))
  have Sj:=abO.trans adv
  obtain ⟨hr1,hr2,hr3⟩:=hS.rim _ hfm
  refine L.o (O.call (xs:=[_,.tmp 64]) call65 rfl rfl (rG aZ b64 _ (c.fs.getD i f0).o.xs w64 ajL (hov▸(hfo.ext Sj).o.mono (Nat.zero_le _)) hr2 hr3 hr1 (hL.ext ((he1.trans RZ).trans Sj)) VY) (fun v65 w65 hq=>?_))
  obtain ⟨rfl,ahj⟩:=hq
  refine L.o (O.buildSlice (el:=9) (parts:=[(0,.tmp 65)]) (vs:=[(0,_)]) (cs:=([aZ++spell (c.fs.getD i f0).o.xs].map str)) rfl (fun w=>by kernel_rfl) (fun b66 w66 ajM ajN abP ae4=>?_))
  have GV:=(Sj.trans ahj).trans abP
  have hle:=abL hS (i:=i)
  refine L.o (O.append (size:=1) (bytes:=16) runUnderlying61 Tryz.su rfl rfl rfl rfl (by decide) rfl rfl (aI Z8 (GV.mono (Nat.zero_le _)) (Nat.le_refl _)) (Strs.aA (lo:=0) ae4 rfl (by decide) (Nat.zero_le _)) (oI _) (by simp only [List.length_cons,List.length_nil,maxLen];omega) (by simp only [maxLen,List.length_cons,List.length_nil];omega) (by have:=Si.size;have:=GV.size;omega) (fun v67 w67 ajO ahk=>?_))
  have XH:Ext w32 w67:=Keep.gB (Si.trans GV) (aI Z8 (GV.mono (Nat.zero_le _)) (Nat.le_refl _)) ahk (Nat.le_refl _)
  have ae5:yL w32.heap.size (lH c r i (c.fs.getD i f0) 0) v67 w67:=by rw [show lH c r i (c.fs.getD i f0) 0=lC c r i ++ [aZ++spell (c.fs.getD i f0).o.xs] by simp [lH]];exact rH ajO
  have GX:=((he2.trans Ns).trans Ij).trans Yc
  have ajP:=GX.size
  have ahl:=Blk.ext (cs:=(c.fs.getD i f0).cells) abf ((adv.trans ahj).trans abP)
  have ajQ:=aI Z8 (GV.mono (Nat.zero_le _)) (Nat.le_refl _)
  have ajR:Blk w67 b9 (c.fs.getD i f0).cells 127:=Blk.grown (cs:=(c.fs.getD i f0).cells) ahl ahk (DL ajQ ahl (by decide))
  refine L.a rfl (L.nil (T.q (L.o (O.fieldAddr runUnderlying127 rfl sizeOf125 rfl (L.o (O.load isAgg125 rfl (ajR.cell rfl) (?_)))))))
  have ae6:=(hc.ext (he1.trans (GX.trans XH))).at hlt'
  refine L.o (O.len runUnderlying125 rfl (Sl.val ae6.sl) (L.m rfl (L.nil (T.block (?_)))))
  refine T.loop (σ:=Nat × Value) (fun g=>[(1,.pointer (some ⟨b1,0,none⟩)),(5,g.2),(55,c.fv),(56,.int .i64 c.fs.length),(57,.int .i64 i),(69,(c.fs.getD i f0).hv),(70,.int .i64 (c.fs.getD i f0).hs.length),(71,.int .i64 g.1)]) (fun g W=>g.1≤(c.fs.getD i f0).hs.length∧Ext w32 W∧yL w32.heap.size (lH c r i (c.fs.getD i f0) g.1) g.2 W) (fun g=>(c.fs.getD i f0).hs.length-g.1) ((0,v67)) ⟨rfl,rfl,rfl,rfl,rfl,rfl,rfl,rfl,trivial⟩ ⟨Nat.zero_le _,XH,ae5⟩ ?_
  rintro ⟨j,lv3⟩ w72 ⟨hj,BA,abQ⟩
  simp only at hj abQ
  have Sm:=(hc.ext (he1.trans (GX.trans BA))).at hlt'
  have hqc:=Sl.le Sm.sl
  refine T.q (L.o (O.bH rfl rfl (fun hlt2=>?_) (fun hlt2=>?_)))
  ·refine L.nil (?_)
   have hj':j<(c.fs.getD i f0).hs.length:=by simp only at hlt2;omega
   have hhm:(c.fs.getD i f0).hs.getD j ⟨undef,[]⟩∈(c.fs.getD i f0).hs:=by rw [au hj'];exact List.getElem_mem hj'
   obtain ⟨hq1,hq2,hq3⟩:=hS.hole _ hfm _ hhm
   refine T.seq (T.ct (T.skip (T.seq (T.block (T.q (L.o (O.indexAddr runUnderlying125 sizeOf30 rfl rfl Sm.sl (by omega) (by omega) (?_))))))))
   obtain ⟨ob,cq,ahm,_,_⟩:=Sl.val (Sm.hs _ hhm)
   refine L.o (O.load isAgg30 rfl (show _=some (.slice ob ((c.fs.getD i f0).hs.getD j ⟨undef,[]⟩).xs.length cq) from by rw [← ahm,Int.toNat_natCast,Nat.mul_one];exact Sl.cell Sm.sl (show (aJ (c.fs.getD i f0).hs)[j]?=some ((c.fs.getD i f0).hs.getD j ⟨undef,[]⟩).v by rw [aJ,List.getElem?_map,List.getElem?_eq_getElem hj',au hj'];rfl)) (L.a rfl (L.nil (T.region (L.m rfl (L.m rfl (L.o (O.buildSlice (el:=30) (parts:=[(0,.tmp 76)]) (vs:=[(0,_)]) (cs:=[.slice ob ((c.fs.getD i f0).hs.getD j ⟨undef,[]⟩).xs.length cq]) rfl (fun w=>by kernel_rfl) (fun b77 w77 amj amk Z9 ajS=>?_)))))))))
   refine L.o (O.call (xs:=[_,.tmp 77]) call65 rfl rfl (rG bn b77 _ ((c.fs.getD i f0).hs.getD j ⟨undef,[]⟩).xs w77 ajS (ahm▸((Sm.hs _ hhm).ext Z9).mono (Nat.zero_le _)) hq2 hq3 hq1 (hL.ext ((he1.trans (GX.trans BA)).trans Z9)) VZ) (fun v78 w78 hq=>?_))
   obtain ⟨rfl,ajT⟩:=hq
   refine L.o (O.buildSlice (el:=9) (parts:=[(0,.tmp 78)]) (vs:=[(0,_)]) (cs:=([bn++spell ((c.fs.getD i f0).hs.getD j ⟨undef,[]⟩).xs].map str)) rfl (fun w=>by kernel_rfl) (fun b79 w79 aml aay lG ajU=>?_))
   have LW:=(Z9.trans ajT).trans lG
   have hle2:=ae0 hS (j:=j) hlt'
   refine L.o (O.append (size:=1) (bytes:=16) runUnderlying61 Tryz.su rfl rfl rfl rfl (by decide) rfl rfl (aI abQ (LW.mono (Nat.zero_le _)) (Nat.le_refl _)) (Strs.aA (lo:=0) ajU rfl (by decide) (Nat.zero_le _)) (oI _) (by simp only [List.length_cons,List.length_nil,maxLen];omega) (by simp only [maxLen,List.length_cons,List.length_nil];omega) (by have:=BA.size;have:=LW.size;omega) (fun v80 w80 ajV ajW=>?_))
   have abR:Ext w32 w80:=Keep.gB (BA.trans LW) (aI abQ (LW.mono (Nat.zero_le _)) (Nat.le_refl _)) ajW (Nat.le_refl _)
   refine L.a rfl (L.nil (T.blk (T.region (L.o (O.aH rfl rfl (by (try dsimp only);omega) (L.m rfl (L.nil (T.again ((j+1,v80)) (show (c.fs.getD i f0).hs.length-(j+1)<(c.fs.getD i f0).hs.length-j by omega) ⟨rfl,rfl,rfl,rfl,rfl,rfl,rfl,rfl,trivial⟩ ⟨hj',abR,by rw [Y3 hj'];exact rH ajV⟩))))))))
  refine L.nil (?_)
  have e:j=(c.fs.getD i f0).hs.length:=by simp only at hlt2;omega
  rw [e,RV hlt'] at abQ
  refine T.seq (T.cf (T.exit rfl (T.blk (T.region (L.o (O.aH rfl rfl (by (try dsimp only);omega) (L.m rfl (L.nil (T.again ((i+1,lv3)) (show c.fs.length-(i+1)<c.fs.length-i by omega) ⟨rfl,rfl,rfl,rfl,rfl,trivial⟩ ⟨hlt',GX.trans BA,BA,abQ⟩)))))))))
 refine L.nil (?_)
 obtain rfl:i=c.fs.length:=by simp only at hlt;omega
 have hlD:lC c r c.fs.length=lD c r 0:=by simp [lC,lD]
 rw [hlD] at Z8
 have ajX:Units lo w58 r.uv r.us:=hr.ext (he1.trans RZ)
 refine T.seq (T.cf (T.exit rfl (T.seq (T.q (L.o (O.fieldAddr runUnderlying48 rfl sizeOf25 rfl (L.o (O.fieldAddr runUnderlying25 rfl sizeOf23 rfl (L.o (O.load isAgg23 rfl ((Blk.ext (cs:=fG c r) hl1 RZ).cell rfl) (L.o (O.len runUnderlying23 rfl (Sl.val ajX.sl) (L.m rfl (L.nil (T.block (?_))))))))))))))))
 refine T.loop (σ:=Nat × Value) (fun g=>[(1,.pointer (some ⟨b1,0,none⟩)),(5,g.2),(85,r.uv),(86,.int .i64 r.us.length),(87,.int .i64 g.1)]) (fun g W=>g.1≤r.us.length∧Ext w1 W∧Ext w32 W∧yL w32.heap.size (lD c r g.1) g.2 W) (fun g=>r.us.length-g.1) ((0,lv2)) ⟨rfl,rfl,rfl,rfl,rfl,trivial⟩ ⟨Nat.zero_le _,RZ,Si,Z8⟩ ?_
 rintro ⟨i,lv4⟩ w88 ⟨hi3,abS,LY,abT⟩
 simp only at hi3 abT
 have abU:Units lo w88 r.uv r.us:=hr.ext (he1.trans abS)
 have hqd:=Sl.le abU.sl
 have GX:=((he2.trans Ns).trans Ij).trans Yc
 refine T.q (L.o (O.bH rfl rfl (fun hlt=>?_) (fun hlt=>?_)))
 ·refine L.nil (?_)
  have hlt':i<r.us.length:=by simp only at hlt;omega
  have hum:r.us.getD i u0∈r.us:=by rw [au hlt'];exact List.getElem_mem hlt'
  have huo:=abU.at hlt'
  obtain ⟨hu1,hu2,hu3⟩:=hS.unit _ hum
  refine T.seq (T.ct (T.skip (T.seq (T.block (T.q (L.o (O.indexAddr runUnderlying23 sizeOf51 rfl rfl abU.sl (by omega) (by omega) (L.o (O.ak isAgg51 sizeOf51 rfl rfl (abU.row hlt') (L.o (O.alloc zeroValue51 (fun b13 w13 ada UW dB xM=>?_))))))))))))
  refine L.o (O.aF sizeOf51 rfl rfl rfl xM (Nat.le_refl _) huo.one (fun w14 OV U0=>?_))
  have ae7:Blk w14 b13 (r.us.getD i u0).cells 51:=U0
  have abV:Ext w88 w14:=dB.upd OV (.inr (by omega))
  refine L.nil (T.q (L.o (O.fieldAddr runUnderlying51 rfl sizeOf9 rfl (L.o (O.load isAgg9 rfl (ae7.cell rfl) (L.o (O.iY rfl rfl (by show 5+(r.us.getD i u0).nm.length≤_;omega) (L.o (O.fieldAddr runUnderlying51 rfl sizeOf3 rfl (L.o (O.load isAgg3 rfl (ae7.cell rfl) (L.o (O.buildSlice (el:=3) (parts:=[(0,.tmp 95)]) (vs:=[(0,_)]) (cs:=[.int .i64 (r.us.getD i u0).pp]) rfl (fun w=>by kernel_rfl) (fun b96 w96 amm amn ahn ajY=>?_))))))))))))))
  have adw:=Blk.ext (cs:=(r.us.getD i u0).cells) ae7 ahn
  obtain ⟨o1,c1,hg1,_,_⟩:=Sl.val huo.g
  obtain ⟨o2,c2,hg2,_,_⟩:=Sl.val huo.v
  obtain ⟨o3,c3,hg3,_,_⟩:=Sl.val huo.p
  refine L.o (O.fieldAddr runUnderlying51 rfl sizeOf30 rfl (L.o (O.load isAgg30 rfl (show w96.cell? ⟨b13,2,none⟩=some (.slice o1 (r.us.getD i u0).gs.length c1) from by rw [← hg1];exact adw.cell rfl) (L.o (O.fieldAddr runUnderlying51 rfl sizeOf30 rfl (L.o (O.load isAgg30 rfl (show w96.cell? ⟨b13,3,none⟩=some (.slice o2 (r.us.getD i u0).vs.length c2) from by rw [← hg2];exact adw.cell rfl) (L.o (O.fieldAddr runUnderlying51 rfl sizeOf30 rfl (L.o (O.load isAgg30 rfl (show w96.cell? ⟨b13,4,none⟩=some (.slice o3 (r.us.getD i u0).ps.length c3) from by rw [← hg3];exact adw.cell rfl) (L.o (O.buildSlice (el:=30) (parts:=[(0,.tmp 96),(1,.tmp 98),(2,.tmp 100),(3,.tmp 102)]) (vs:=[(0,_),(1,_),(2,_),(3,_)]) (cs:=[.slice (some ⟨b96,0,none⟩) 1 1,.slice o1 (r.us.getD i u0).gs.length c1,.slice o2 (r.us.getD i u0).vs.length c2,.slice o3 (r.us.getD i u0).ps.length c3]) rfl (fun w=>by kernel_rfl) (fun amo adx ajZ aj0 Sr ae8=>?_))))))))))))))
  have Y6:=ahn.trans Sr
  have JL:=abV.trans Y6
  have Sv:=(abU.ext JL).at hlt'
  have aj1:Ints .i64 0 adx (.slice (some ⟨b96,0,none⟩) 1 1) [(r.us.getD i u0).pp]:=Ints.aA (Blk.ext (cs:=[.int .i64 (r.us.getD i u0).pp]) ajY Sr) rfl (by decide) (Nat.zero_le _)
  refine L.o (O.call (xs:=[.tmp 93,.tmp 103]) call65 rfl rfl (yS (RU++(r.us.getD i u0).nm) 0 0 _ [.slice (some ⟨b96,0,none⟩) 1 1,.slice o1 (r.us.getD i u0).gs.length c1,.slice o2 (r.us.getD i u0).vs.length c2,.slice o3 (r.us.getD i u0).ps.length c3] ([[(r.us.getD i u0).pp],(r.us.getD i u0).gs,(r.us.getD i u0).vs,(r.us.getD i u0).ps].map fun l ↦ l.map (Value.int .i64)) (dh (r.us.getD i u0)) adx (Sl.aA (n:=4) (sz:=1) ae8 rfl (Nat.le_refl 4) (by decide) (Nat.zero_le _)) (VX aj1 (hg1▸Sv.g.mono (Nat.zero_le _)) (hg2▸Sv.v.mono (Nat.zero_le _)) (hg3▸Sv.p.mono (Nat.zero_le _))) (by simp [dh]) (by simp [dh]) (by omega) hu1 (hL.ext ((he1.trans abS).trans JL)) (by rw [List.length_append];show 5+_≤_;omega)) (fun amq aj2 hq=>?_))
  obtain ⟨rfl,abW⟩:=hq
  have ae9:=Blk.ext (cs:=(r.us.getD i u0).cells) adw (Sr.trans abW)
  refine L.a rfl (L.nil (T.seq (T.q (L.o (O.fieldAddr runUnderlying51 rfl sizeOf4 rfl (L.o (O.load isAgg4 rfl (ae9.cell rfl) (?_))))))))
  have Y7:=JL.trans abW
  refine L.nil (?_)
  refine T.join (σ:=Unit) (fun _=>[(1,.pointer (some ⟨b1,0,none⟩)),(5,lv4),(14,str (uh (r.us.getD i u0))),(85,r.uv),(86,.int .i64 r.us.length),(87,.int .i64 i)]) (fun _ w'=>w'=aj2) ?_ ?_
  ·rcases hwt:(r.us.getD i u0).wt with _|_
   ·refine T.cf (T.skip (T.meet (()) ⟨rfl,rfl,?_,rfl,rfl,rfl,trivial⟩ rfl))
    ·exact congrArg (fun z=>some (str z)) (by rw [uh,hwt];simp)
   refine T.ct (T.region (L.m rfl (L.o (O.iY rfl rfl (by have:=nM _ hu1;rw [List.length_append,List.length_append];show 5+_+_+6≤_;omega) (L.a rfl (L.nil (T.meet (()) ⟨rfl,rfl,?_,rfl,rfl,rfl,trivial⟩ rfl)))))))
   ·exact congrArg (fun z=>some (str z)) (by rw [uh,hwt];simp [GN])
  rintro _ amr rfl
  refine T.region (L.m rfl (L.m rfl (L.o (O.buildSlice (el:=9) (parts:=[(0,.tmp 110)]) (vs:=[(0,_)]) (cs:=([uh (r.us.getD i u0)].map str)) rfl (fun w=>by kernel_rfl) (fun ams amu aj3 aj6 afa afb=>?_)))))
  have D8:=Y7.trans afa
  have hle3:=abM hS (i:=i)
  refine L.o (O.append (size:=1) (bytes:=16) runUnderlying61 Tryz.su rfl rfl rfl rfl (by decide) rfl rfl (aI abT (D8.mono (Nat.zero_le _)) (Nat.le_refl _)) (Strs.aA (lo:=0) afb rfl (by decide) (Nat.zero_le _)) (oI _) (by simp only [List.length_cons,List.length_nil,maxLen];omega) (by simp only [maxLen,List.length_cons,List.length_nil];omega) (by have:=LY.size;have:=D8.size;omega) (fun aho ahp afc afd=>?_))
  have Sz:Ext w32 ahp:=Keep.gB (LY.trans D8) (aI abT (D8.mono (Nat.zero_le _)) (Nat.le_refl _)) afd (Nat.le_refl _)
  refine L.a rfl (L.nil (T.blk (T.region (L.o (O.aH rfl rfl (by (try dsimp only);omega) (L.m rfl (L.nil (T.again ((i+1,aho)) (show r.us.length-(i+1)<r.us.length-i by omega) ⟨rfl,rfl,rfl,rfl,rfl,trivial⟩ ⟨hlt',GX.trans Sz,Sz,by rw [Y4 hlt'];exact rH afc⟩))))))))
 refine L.nil (?_)
 obtain rfl:i=r.us.length:=by simp only at hlt;omega
 have hlE:lD c r r.us.length ++ [dL]=bI c r:=by simp [lD,bI]
 refine T.seq (T.cf (T.exit rfl (T.q (L.m rfl (L.o (O.buildSlice (el:=9) (parts:=[(0,_)]) (vs:=[(0,_)]) (cs:=([dL].map str)) rfl (fun w=>by kernel_rfl) (fun amv aj7 aj8 aj9 V5 Y8=>?_)))))))
 have hle3:=abM hS (i:=r.us.length)
 refine L.o (O.append (size:=1) (bytes:=16) runUnderlying61 Tryz.su rfl rfl rfl rfl (by decide) rfl rfl (aI abT (V5.mono (Nat.zero_le _)) (Nat.le_refl _)) (Strs.aA (lo:=0) Y8 rfl (by decide) (Nat.zero_le _)) (oI _) (by simp only [List.length_cons,List.length_nil,maxLen];omega) (by simp only [maxLen,List.length_cons,List.length_nil];omega) (by have:=LY.size;have:=V5.size;omega) (fun akb afe aff afg=>?_))
 have Y9:Ext w32 afe:=Keep.gB (LY.trans V5) (aI abT (V5.mono (Nat.zero_le _)) (Nat.le_refl _)) afg (Nat.le_refl _)
 have XI:=rH aff
 rw [hlE] at XI
 refine L.o (O.call (xs:=[.tmp 116]) call55 rfl rfl (vF 0 akb (bI c r) afe ((Sl.aS XI).mono (Nat.zero_le _)) hS.len) (fun v117 SA hq=>?_))
 obtain ⟨rfl,wz⟩:=hq
 have BD:=he1.trans (GX.trans (Y9.trans wz))
 refine L.a rfl (L.nil (T.seq (T.q (L.m rfl (L.o (O.fB runUnderlying9 rfl (L.o (O.jM rfl rfl (fun hbig=>?_) (fun hbig=>?_)))))))))
 ·refine L.nil (T.ct (T.q (L.a rfl (L.a rfl (L.nil (T.Ce results19 rfl rfl ⟨by rw [jI,if_neg (fun x=>x rfl),if_pos (by omega)];rfl,BD⟩))))))
 refine L.nil (T.cf (T.skip (T.q (L.m rfl (L.a rfl (L.a rfl (L.nil (T.Ce results19 rfl rfl ⟨by rw [jI,if_neg (fun x=>x rfl),if_neg (by omega)],BD⟩))))))))
open Go Go.E RowKit
theorem V6 {l:Str} {v:Int} (h:Lib.atoiAll l = .ok v) : -9223372036854775808≤v∧v≤9223372036854775807:=by
 unfold Lib.atoiAll at h
 split at h
 ·cases h
 simp only at h
 split at h
 ·cases h
 ·cases h
 split at h
 ·cases h
 split at h
 ·cases h
 cases h
 split <;> omega
theorem BF (s:Str) (w:World) (hL:je w) (hs:s.length≤100000):Calls Tryz.prog 161 #[str s] w (Ret fun v w'=>((∃ n,Lib.atoiAll s = .ok n∧v = .tuple #[.int .i64 n,.nilIface])∨((∀ n,Lib.atoiAll s ≠ .ok n)∧∃ m t p,v = .tuple #[.int .i64 m,.iface t p]))∧Ext w w'):=by
 have hsz:(⟨s.toArray⟩:ByteArray).size=s.length:=by simp [ByteArray.size]
 rcases h:Lib.atoiAll s with n|_|_
 ·refine (Tryz.strconv_Atoi_ok ⟨s.toArray⟩ (by omega) n h w).mono ?_
  rintro e w' ⟨rfl,hw⟩
  refine ⟨.inl ⟨n,rfl,rfl⟩,?_⟩
  rcases hw with rfl|⟨t,rfl⟩
  ·exact Keep.refl _ _
  exact Ext.of_below (Lib.bytesWorld_below _ _ _)
 ·obtain ⟨tp,p,hv⟩:=hL.es
  refine (Tryz.mG ⟨s.toArray⟩ (by omega) (fun n e=>by cases h.symm.trans e) (fun e=>by cases h.symm.trans e) tp p w hv).mono ?_
  rintro e w' ⟨N,rfl,_,_,hb⟩
  exact ⟨.inr ⟨fun n h=>(by cases h),_,_,_,rfl⟩,Ext.of_below hb⟩
 obtain ⟨tp,p,hv⟩:=hL.er
 refine (Tryz.strconv_Atoi_range_var ⟨s.toArray⟩ (by omega) h tp p w hv).mono ?_
 rintro e w' ⟨N,rfl,_,_,hb⟩
 exact ⟨.inr ⟨fun n h=>(by cases h),_,_,_,rfl⟩,Ext.of_below hb⟩
def pR (s:Str):Option Int:=match Lib.atoiAll s with
 | .ok n=>if Lib.itoa n=s ∧ -1000000000≤n∧n≤1000000000 then some n else none
 | _=>none
theorem LZ {s:Str} {n:Int} (h:Lib.atoiAll s = .ok n):pR s=if Lib.itoa n=s ∧ -1000000000≤n∧n≤1000000000 then some n else none:=by unfold pR;rw [h]
theorem um {s:Str} {n:Int} (h:pR s=some n):Lib.atoiAll s = .ok n∧Lib.itoa n=s ∧ -1000000000≤n∧n≤1000000000:=by
 unfold pR at h
 split at h
 ·split at h
  ·cases h;rename_i hn hc;exact ⟨hn,hc⟩
  cases h
 cases h
theorem yT (s:Str) (n:Int) (w:World) (hL:je w) (hs:s.length≤100000) (hn:pR s=some n) :
  Calls Tryz.prog 160 #[str s] w (Ret fun v w'=>v = .int .i64 n∧Ext w w'):=by
 obtain ⟨h1,h2,h3,h4⟩:=um hn
 refine T.enter (vs:=[str s]) func160 rfl ntmps160 rfl ?_
 refine T.q (L.a rfl (L.nil (T.q (L.m rfl (L.o (O.call (xs:=[.tmp 6]) call161 rfl rfl (BF s w hL hs) (fun v1 w1 hq=>?_)))))))
 obtain ⟨hv1,he1⟩:=hq
 have akc:v1 = .tuple #[.int .i64 n,.nilIface]:=by
  rcases hv1 with ⟨m,hm,hv⟩|⟨hm,_⟩
  ·rw [h1] at hm;cases hm;exact hv
  exact absurd h1 (hm n)
 subst akc
 refine L.m rfl (L.o (O.extract rfl rfl (L.o (O.extract rfl rfl (L.a rfl (L.a rfl (L.nil (T.q (L.m rfl (L.o (O.qY (by kernel_rfl) rfl (L.m rfl (L.m rfl (L.o (O.call (xs:=[.tmp 13]) call54 rfl rfl (oH n w1 (hL.ext he1) (by omega) (by omega)) (fun v2 w2 hq=>?_))))))))))))))))
 obtain ⟨rfl,he2⟩:=hq
 refine L.m rfl (L.o (O.bf runUnderlying9 rfl rfl h2 (L.o (O.ah rfl rfl (L.m rfl (L.m rfl (L.o (O.IB rfl rfl h3 (L.o (O.ah rfl rfl (L.m rfl (L.m rfl (L.o (O.aai rfl rfl h4 (L.o (O.ah rfl rfl (L.o (O.call (xs:=[.tmp 25]) call108 rfl rfl (dK w2) (fun v3 w3 hq=>?_)))))))))))))))))))
 obtain rfl:=hq
 refine L.nil (T.q (L.m rfl (L.a rfl (L.nil (T.aU results160 rfl ⟨rfl,he1.trans he2⟩)))))
theorem N8 (s:Str) (w:World) (hL:je w) (hs:s.length≤100000) (hn:pR s=none) :
  Calls Tryz.prog 160 #[str s] w (Pan (bU) fun w'=>Ext w w'):=by
 refine T.fO (vs:=[str s]) func160 rfl ntmps160 rfl ?_
 refine T.q (L.a rfl (L.nil (T.q (L.m rfl (L.o (O.call (xs:=[.tmp 6]) call161 rfl rfl (BF s w hL hs) (fun v1 w1 hq=>?_)))))))
 obtain ⟨hv1,he1⟩:=hq
 rcases hv1 with ⟨n,hm,rfl⟩|⟨hm,m,t,p,rfl⟩
 ·rw [LZ hm] at hn
  have hb:=V6 hm
  refine L.m rfl (L.o (O.extract rfl rfl (L.o (O.extract rfl rfl (L.a rfl (L.a rfl (L.nil (T.q (L.m rfl (L.o (O.qY (by kernel_rfl) rfl (L.m rfl (L.m rfl (L.o (O.call (xs:=[.tmp 13]) call54 rfl rfl (oH n w1 (hL.ext he1) (by omega) (by omega)) (fun v2 w2 hq=>?_))))))))))))))))
  obtain ⟨rfl,he2⟩:=hq
  rcases Classical.em (Lib.itoa n=s) with h1|h1
  ·refine L.m rfl (L.o (O.bf runUnderlying9 rfl rfl h1 (?_)))
   rcases Classical.em (-1000000000≤n) with h2|h2
   ·have h3:¬ n≤1000000000:=fun h=>by rw [if_pos ⟨h1,h2,h⟩] at hn;cases hn
    refine L.o (O.ah rfl rfl (L.m rfl (L.m rfl (L.o (O.IB rfl rfl h2 (L.o (O.ah rfl rfl (L.m rfl (L.m rfl (L.o (O.aaj rfl rfl h3 (L.o (O.ah rfl rfl (L.bM (xs:=[.tmp 25]) rfl call108 rfl rfl (dG w2) (fun w' a hR ha=>⟨ha.defers,rfl,by rw [hR];exact he1.trans he2⟩)))))))))))))))
   refine L.o (O.ah rfl rfl (L.m rfl (L.m rfl (L.o (O.O4 rfl rfl h2 (L.o (O.ah rfl rfl (L.m rfl (L.p (L.p (L.o (O.aj rfl rfl (L.bM (xs:=[.tmp 25]) rfl call108 rfl rfl (dG w2) (fun w' a hR ha=>⟨ha.defers,rfl,by rw [hR];exact he1.trans he2⟩))))))))))))))
  refine L.m rfl (L.o (O.aB runUnderlying9 rfl rfl h1 (L.o (O.ah rfl rfl (L.m rfl (L.p (L.p (L.o (O.aj rfl rfl (L.m rfl (L.p (L.p (L.o (O.aj rfl rfl (L.bM (xs:=[.tmp 25]) rfl call108 rfl rfl (dG w2) (fun w' a hR ha=>⟨ha.defers,rfl,by rw [hR];exact he1.trans he2⟩))))))))))))))))
 refine L.m rfl (L.o (O.extract rfl rfl (L.o (O.extract rfl rfl (L.a rfl (L.a rfl (L.nil (T.q (L.m rfl (L.o (O.Gp (by kernel_rfl) rfl rfl (L.m rfl (L.p (L.p (L.p (L.p (L.o (O.aj rfl rfl (L.m rfl (L.p (L.p (L.o (O.aj rfl rfl (L.m rfl (L.p (L.p (L.o (O.aj rfl rfl (?_)))))))))))))))))))))))))))))
 refine L.bM (xs:=[.tmp 25]) rfl call108 rfl rfl (dG w1) (fun w' a hR ha=>⟨ha.defers,rfl,by rw [hR];exact he1⟩)
open Go Go.E RowKit
def dY:List Str→Option (List Int)
 | []=>some []
 | s::r=>match pR s,dY r with
  | some n,some ns=>some (n::ns)
  | _,_=>none
theorem jB:∀ (ws:List Str) (xs:List Int),dY ws=some xs→ws.length=xs.length∧∀ i,i<ws.length→pR (ws.getD i [])=some (xs.getD i 0)
 | [],xs,h=>by cases h;exact ⟨rfl,fun i hi=>absurd hi (Nat.not_lt_zero _)⟩
 | s::r,xs,h=>by
  rw [dY] at h
  cases hs:pR s with
  | none=>rw [hs] at h;cases h
  | some n =>
   cases hr:dY r with
   | none=>rw [hs,hr] at h;cases h
   | some ns =>
    rw [hs,hr] at h
    cases h
    obtain ⟨h1,h2⟩:=jB r ns hr
    refine ⟨by simp [h1],fun i hi=>?_⟩
    cases i with
    | zero=>exact hs
    | succ i=>exact h2 i (by simpa using hi)
theorem BG:∀ (ws:List Str),dY ws=none→∃ m,m<ws.length∧pR (ws.getD m [])=none∧∃ xs:List Int,xs.length=m∧∀ i,i<m→pR (ws.getD i [])=some (xs.getD i 0)
 | [],h=>by cases h
 | s::r,h=>by
  cases hs:pR s with
  | none=>exact ⟨0,by simp,hs,[],rfl,fun i hi=>absurd hi (Nat.not_lt_zero _)⟩
  | some n =>
   have hr:dY r=none:=by
    cases hr:dY r with
    | none=>rfl
    | some ns=>rw [dY,hs,hr] at h;cases h
   obtain ⟨m,h1,h2,xs,h3,h4⟩:=BG r hr
   refine ⟨m+1,by simpa using h1,h2,n::xs,by simp [h3],fun i hi=>?_⟩
   cases i with
   | zero=>exact hs
   | succ i=>exact h4 i (by omega)
theorem L6 {base:Nat} {xs:List Int} {n:Int} {v:Value} {w:World} (h:w.ownsRow base 3 1 v (xs.length+1) (xs.map (Value.int .i64) ++ [.int .i64 n])):w.ownsRow base 3 1 v (xs ++ [n]).length ((xs ++ [n]).map (Value.int .i64)):=by
 rw [List.length_append,List.map_append];exact h
theorem N9 (lo:Nat) (p:Value) (ws:List Str) (xs:List Int) (w:World) (hp:Strs lo w p ws) (hL:je w) (hs:∀ s∈ws,s.length≤100000) (hn:dY ws=some xs) (hlen:ws.length≤1000000) :
  Calls Tryz.prog 159 #[p,.func (.func 160) #[] #[]] w (Ret fun v w'=>w'.ownsRow w.heap.size 3 1 v xs.length (xs.map (Value.int .i64))∧Ext w w'):=by
 obtain ⟨hl,hat⟩:=jB ws xs hn
 refine T.enter (vs:=[p,.func (.func 160) #[] #[]]) func159 rfl ntmps159 rfl ?_
 refine T.q (L.a rfl (L.nil (T.q (L.a rfl (L.nil (T.seq (T.q (L.m rfl (L.o (O.len runUnderlying61 rfl (Sl.val hp) (L.m rfl (L.nil (T.block (?_))))))))))))))
 refine T.loop (σ:=Nat × Value) (fun g=>[(1,.func (.func 160) #[] #[]),(5,g.2),(8,p),(9,.int .i64 ws.length),(10,.int .i64 g.1)]) (fun g W=>g.1≤ws.length∧Ext w W∧W.ownsRow w.heap.size 3 1 g.2 (xs.take g.1).length ((xs.take g.1).map (Value.int .i64))) (fun g=>ws.length-g.1) ((0,.slice none 0 0)) ⟨rfl,rfl,rfl,rfl,rfl,trivial⟩ ⟨Nat.zero_le _,Keep.refl _ _,fH _ _ _ _⟩ ?_
 rintro ⟨i,lv⟩ w1 ⟨hi,he1,hO1⟩
 simp only at hi hO1
 refine T.q (L.o (O.bH rfl rfl (fun hlt=>?_) (fun hlt=>?_)))
 ·refine L.nil (?_)
  have hlt':i<ws.length:=by simp only at hlt;omega
  have hsm:(ws.getD i []).length≤100000:=hs _ (by rw [au hlt'];exact List.getElem_mem hlt')
  have htk:(xs.take i).length=i:=by rw [List.length_take];omega
  have hsn:xs.take (i+1)=xs.take i ++ [xs.getD i 0]:=by rw [List.take_succ_eq_append_getElem (by omega),au (by omega)]
  refine T.seq (T.ct (T.skip (T.seq (T.block (T.q (L.o (O.indexAddr runUnderlying61 sizeOf9 rfl rfl (hp.ext he1) (by omega) (by omega) (L.o (O.load isAgg9 rfl ((hp.ext he1).at hlt') (L.a rfl (L.nil (T.region (L.m rfl (L.m rfl (L.m rfl (L.o (O.call (xs:=[.tmp 16]) call160 rfl rfl (yT (ws.getD i []) (xs.getD i 0) w1 (hL.ext he1) hsm (hat i hlt')) (fun v2 w2 hq=>?_))))))))))))))))))
  obtain ⟨rfl,he2⟩:=hq
  refine L.o (O.buildSlice (el:=3) (parts:=[(0,.tmp 17)]) (vs:=[(0,_)]) (cs:=[.int .i64 (xs.getD i 0)]) rfl (fun w=>by kernel_rfl) (fun b18 w18 aeW aeX kV zJ=>?_))
  have D9:=he2.trans kV
  refine L.o (O.append (size:=1) (bytes:=8) runUnderlying30 Tryz.mP rfl rfl rfl rfl (by decide) rfl rfl (aI hO1 (D9.mono (Nat.zero_le _)) (Nat.le_refl _)) (Sl.aA (lo:=0) (n:=1) (sz:=1) zJ rfl (Nat.le_refl 1) (by decide) (Nat.zero_le _)) (by intro u hu;simp at hu;subst hu;rfl) (by omega) (by simp only [maxLen];omega) (by have:=he1.size;have:=D9.size;omega) (fun v19 w19 Yw afh=>?_))
  have OY:Ext w w19:=Keep.gB (he1.trans D9) (aI hO1 (D9.mono (Nat.zero_le _)) (Nat.le_refl _)) afh (Nat.le_refl _)
  refine L.a rfl (L.nil (T.blk (T.region (L.o (O.aH rfl rfl (by (try dsimp only);omega) (L.m rfl (L.nil (T.again ((i+1,v19)) (show ws.length-(i+1)<ws.length-i by omega) ⟨rfl,rfl,rfl,rfl,rfl,trivial⟩ ⟨hlt',OY,by rw [hsn];exact L6 Yw⟩))))))))
 refine L.nil (?_)
 obtain rfl:i=ws.length:=by simp only at hlt;omega
 rw [List.take_of_length_le (by omega)] at hO1
 refine T.seq (T.cf (T.exit rfl (T.q (L.m rfl (L.a rfl (L.nil (T.aU results159 rfl ⟨hO1,he1⟩)))))))
theorem SB (lo:Nat) (p:Value) (ws:List Str) (w:World) (hp:Strs lo w p ws) (hL:je w) (hs:∀ s∈ws,s.length≤100000) (hn:dY ws=none) (hlen:ws.length≤1000000) :
  Calls Tryz.prog 159 #[p,.func (.func 160) #[] #[]] w (Pan (bU) fun w'=>Ext w w'):=by
 obtain ⟨m,hm,hbad,xs,hl,hat⟩:=BG ws hn
 refine T.fO (vs:=[p,.func (.func 160) #[] #[]]) func159 rfl ntmps159 rfl ?_
 refine T.q (L.a rfl (L.nil (T.q (L.a rfl (L.nil (T.seq (T.q (L.m rfl (L.o (O.len runUnderlying61 rfl (Sl.val hp) (L.m rfl (L.nil (T.block (?_))))))))))))))
 refine T.loop (σ:=Nat × Value) (fun g=>[(1,.func (.func 160) #[] #[]),(5,g.2),(8,p),(9,.int .i64 ws.length),(10,.int .i64 g.1)]) (fun g W=>g.1≤m∧Ext w W∧W.ownsRow w.heap.size 3 1 g.2 (xs.take g.1).length ((xs.take g.1).map (Value.int .i64))) (fun g=>ws.length-g.1) ((0,.slice none 0 0)) ⟨rfl,rfl,rfl,rfl,rfl,trivial⟩ ⟨Nat.zero_le _,Keep.refl _ _,fH _ _ _ _⟩ ?_
 rintro ⟨i,lv⟩ w1 ⟨hi,he1,hO1⟩
 simp only at hi hO1
 have hlt':i<ws.length:=by omega
 have hsm:(ws.getD i []).length≤100000:=hs _ (by rw [au hlt'];exact List.getElem_mem hlt')
 refine T.q (L.o (O.XQ rfl rfl (by (try dsimp only);omega) (L.nil (T.seq (T.ct (T.skip (T.seq (T.block (T.q (L.o (O.indexAddr runUnderlying61 sizeOf9 rfl rfl (hp.ext he1) (by omega) (by omega) (L.o (O.load isAgg9 rfl ((hp.ext he1).at hlt') (?_))))))))))))))
 rcases Nat.lt_or_ge i m with him|him
 ·have htk:(xs.take i).length=i:=by rw [List.length_take];omega
  have hsn:xs.take (i+1)=xs.take i ++ [xs.getD i 0]:=by rw [List.take_succ_eq_append_getElem (by omega),au (by omega)]
  refine L.a rfl (L.nil (T.region (L.m rfl (L.m rfl (L.m rfl (L.o (O.call (xs:=[.tmp 16]) call160 rfl rfl (yT (ws.getD i []) (xs.getD i 0) w1 (hL.ext he1) hsm (hat i him)) (fun v2 w2 hq=>?_))))))))
  obtain ⟨rfl,he2⟩:=hq
  refine L.o (O.buildSlice (el:=3) (parts:=[(0,.tmp 17)]) (vs:=[(0,_)]) (cs:=[.int .i64 (xs.getD i 0)]) rfl (fun w=>by kernel_rfl) (fun b18 w18 aeW aeX kV zJ=>?_))
  have D9:=he2.trans kV
  refine L.o (O.append (size:=1) (bytes:=8) runUnderlying30 Tryz.mP rfl rfl rfl rfl (by decide) rfl rfl (aI hO1 (D9.mono (Nat.zero_le _)) (Nat.le_refl _)) (Sl.aA (lo:=0) (n:=1) (sz:=1) zJ rfl (Nat.le_refl 1) (by decide) (Nat.zero_le _)) (by intro u hu;simp at hu;subst hu;rfl) (by omega) (by simp only [maxLen];omega) (by have:=he1.size;have:=D9.size;omega) (fun v19 w19 Yw afh=>?_))
  have OY:Ext w w19:=Keep.gB (he1.trans D9) (aI hO1 (D9.mono (Nat.zero_le _)) (Nat.le_refl _)) afh (Nat.le_refl _)
  refine L.a rfl (L.nil (T.blk (T.region (L.o (O.aH rfl rfl (by (try dsimp only);omega) (L.m rfl (L.nil (T.again ((i+1,v19)) (show ws.length-(i+1)<ws.length-i by omega) ⟨rfl,rfl,rfl,rfl,rfl,trivial⟩ ⟨him,OY,by rw [hsn];exact L6 Yw⟩))))))))
 obtain rfl:i=m:=by omega
 refine L.a rfl (L.nil (T.region (L.m rfl (L.m rfl (L.m rfl (L.bM (xs:=[.tmp 16]) rfl call160 rfl rfl (N8 (ws.getD i []) w1 (hL.ext he1) hsm hbad) (fun w' a hR ha=>⟨ha.defers,rfl,he1.trans hR⟩)))))))
theorem jJ (lo:Nat) (p:Value) (ws:List Str) (xs:List Int) (w:World) (hp:Strs lo w p ws) (hL:je w) (hs:∀ s∈ws,s.length≤100000) (hn:dY ws=some xs) (hlen:ws.length≤1000000) :
  Calls Tryz.prog 122 #[p] w (Ret fun v w'=>w'.ownsRow w.heap.size 3 1 v xs.length (xs.map (Value.int .i64))∧Ext w w'):=by
 refine T.enter (vs:=[p]) func122 rfl ntmps122 rfl ?_
 refine T.q (L.a rfl (L.nil (T.q (L.m rfl (L.o (O.call (xs:=[.tmp 3,.func 160]) call159 rfl rfl (N9 lo p ws xs w hp hL hs hn hlen) (fun v1 w1 hq=>?_)))))))
 obtain ⟨hO,he⟩:=hq
 refine L.a rfl (L.nil (T.aU results122 rfl ⟨hO,he⟩))
theorem kY (lo:Nat) (p:Value) (ws:List Str) (w:World) (hp:Strs lo w p ws) (hL:je w) (hs:∀ s∈ws,s.length≤100000) (hn:dY ws=none) (hlen:ws.length≤1000000) :
  Calls Tryz.prog 122 #[p] w (Pan (bU) fun w'=>Ext w w'):=by
 refine T.fO (vs:=[p]) func122 rfl ntmps122 rfl ?_
 refine T.q (L.a rfl (L.nil (T.q (L.m rfl (L.bM (xs:=[.tmp 3,.func 160]) rfl call159 rfl rfl (SB lo p ws w hp hL hs hn hlen) (fun w' a hR ha=>⟨ha.defers,rfl,hR⟩))))))
open Go Go.E RowKit
def fieldsB (s:Str):List Str:=(Lib.goFieldsP (fun r=>decide (r=32)) ⟨s.toArray⟩).map fun x=>x.data.toList
theorem JM (x:Nat) (w:World) :
  Calls Tryz.prog 121 #[.int .i32 x] w (Ret fun v w'=>v = .bool (decide (x=32))∧w'=w):=by
 refine T.enter (vs:=[.int .i32 x]) func121 rfl ntmps121 rfl ?_
 refine T.q (L.a rfl (L.nil (T.q (L.m rfl (L.o (O.eql rfl rfl (L.a rfl (L.nil (T.aU results121 rfl ⟨congrArg Value.bool (decide_eq_decide.2 (by omega)),rfl⟩)))))))))
theorem aP (s:Str) (w:World) (hs:s.length≤100000):Calls Tryz.prog 120 #[str s,.func (.func 121) #[] #[]] w (Ret fun v w'=>∃ A,v = .slice (some ⟨A,0,none⟩) (fieldsB s).length (fieldsB s).length∧Strs w.heap.size w' v (fieldsB s)∧Ext w w'):=by
 refine (Tryz.strings_FieldsFunc_grows 121 #[] call121 (fun r=>decide (r=32)) ⟨s.toArray⟩ w (by simp [ByteArray.size];omega) (fun W x _ _=>(JM x W).mono ?_)).mono ?_
 ·rintro (v|_|_) w' h
  ·obtain ⟨h1,h2⟩:=h
   subst h1;subst h2
   exact ⟨rfl,Below.refl _ _⟩
  ·exact h.elim
  exact h.elim
 rintro e w' ⟨A,rfl,hA,hO,hb⟩
 have hlen:(Lib.goFieldsP (fun r=>decide (r=32)) ⟨s.toArray⟩).length=(fieldsB s).length:=by simp [fieldsB]
 have hmap:(Lib.goFieldsP (fun r=>decide (r=32)) ⟨s.toArray⟩).map Value.string=(fieldsB s).map str:=by
  simp only [fieldsB,List.map_map]
  rfl
 rw [hlen,hmap] at hO
 exact ⟨A,by rw [hlen],by rw [hlen];exact Sl.aS hO,Ext.of_below hb⟩
theorem GY (lo:Nat) (p:Value) (xs:List Str) (s:Str) (w:World) (hp:Strs lo w p xs) :
  Calls Tryz.prog 162 #[p,str s] w (Ret fun v w'=>∃ n:Int,v = .int .i64 n∧(0≤n↔s∈xs)∧w'=w):=by
 have hle:=Sl.le hp
 refine T.enter (vs:=[p,str s]) func162 rfl ntmps162 rfl ?_
 refine T.q (L.a rfl (L.nil (T.seq (T.q (L.m rfl (L.o (O.len runUnderlying61 rfl (Sl.val hp) (L.m rfl (L.nil (T.block (?_)))))))))))
 refine T.loop (σ:=Nat) (fun i=>[(0,p),(1,str s),(7,.int .i64 xs.length),(8,.int .i64 i)]) (fun i w'=>i≤xs.length∧w'=w∧∀ k,k<i→xs.getD k []≠s) (fun i=>xs.length-i) (0) ⟨rfl,rfl,rfl,rfl,trivial⟩ ⟨Nat.zero_le _,rfl,fun k hk=>absurd hk (Nat.not_lt_zero _)⟩ ?_
 rintro i w1 ⟨hi,rfl,hall⟩
 refine T.q (L.o (O.bH rfl rfl (fun hlt=>?_) (fun hlt=>?_)))
 ·refine L.nil (?_)
  have hlt':i<xs.length:=by omega
  refine T.seq (T.ct (T.skip (T.seq (T.block (T.q (L.m rfl (L.a rfl (L.nil (T.q (L.m rfl (L.m rfl (L.m rfl (L.o (O.indexAddr runUnderlying61 sizeOf9 rfl rfl hp (by omega) (by omega) (L.o (O.load isAgg9 rfl (hp.at hlt') (L.o (O.qy runUnderlying9 rfl rfl (fun hb=>?_) (fun hb=>?_)))))))))))))))))))
  ·refine L.nil (T.ct (T.q (L.m rfl (L.a rfl (L.nil (T.aU results162 rfl ⟨i,rfl,⟨fun _=>by rw [hb,au hlt'];exact List.getElem_mem hlt',fun _=>by omega⟩,rfl⟩))))))
  refine L.nil (T.cf (T.skip (T.blk (T.region (L.o (O.aH rfl rfl (by omega) (L.m rfl (L.nil (T.again (i+1) (by omega) ⟨rfl,rfl,rfl,rfl,trivial⟩ ⟨hlt',rfl,fun k hk=>by rcases Nat.lt_or_ge k i with h|h;exact hall k h;obtain rfl:k=i:=(by omega);exact fun e=>hb e.symm⟩)))))))))
 refine L.nil (?_)
 obtain rfl:i=xs.length:=by omega
 refine T.seq (T.cf (T.exit rfl (T.q (L.a rfl (L.nil (T.aU results162 rfl ⟨-1,rfl,⟨fun h=>by omega,fun h=>?_⟩,rfl⟩))))))
 obtain ⟨k,hk,e⟩:=List.getElem_of_mem h
 have:=hall k hk
 rw [au hk,e] at this
 exact absurd rfl this
theorem GZ (lo:Nat) (p:Value) (xs:List Str) (s:Str) (w:World) (hp:Strs lo w p xs) :
  Calls Tryz.prog 124 #[p,str s] w (Ret fun v w'=>v = .bool (decide (s∈xs))∧w'=w):=by
 refine T.enter (vs:=[p,str s]) func124 rfl ntmps124 rfl ?_
 refine T.q (L.a rfl (L.nil (T.q (L.m rfl (L.m rfl (L.o (O.call (xs:=[.tmp 5,.tmp 6]) call162 rfl rfl (GY lo p xs s w hp) (fun v1 w1 hq=>?_))))))))
 obtain ⟨n,rfl,hn,rfl⟩:=hq
 refine L.o (O.geq rfl rfl (L.a rfl (L.nil (T.aU results124 rfl ⟨congrArg Value.bool (decide_eq_decide.2 hn),rfl⟩))))
theorem aV (lo:Nat) (p:Value) (xs:List Str) (b:Nat) (cs:List Value) (s:Str) (w:World) (hp:Strs lo w p xs) (hB:Blk w b cs 129) (h6:cs[6]?=some (str s)) :
  Calls Tryz.prog 68 #[.pointer (some ⟨b,0,none⟩),p] w (Ret fun v w'=>v = .bool (decide (s∈xs))∧w'=w):=by
 refine T.enter (vs:=[.pointer (some ⟨b,0,none⟩),p]) func68 rfl ntmps68 rfl ?_
 refine T.q (L.a rfl (L.nil (T.q (L.m rfl (L.m rfl (L.o (O.nilCheck rfl (L.o (O.fieldAddr runUnderlying129 rfl sizeOf9 rfl (L.o (O.load isAgg9 rfl (hB.cell h6) (L.o (O.call (xs:=[.tmp 5,.tmp 9]) call124 rfl rfl (GZ lo p xs s w hp) (fun v1 w1 hq=>?_))))))))))))))
 obtain ⟨rfl,rfl⟩:=hq
 refine L.a rfl (L.nil (T.aU results68 rfl ⟨rfl,rfl⟩))
end Go.Proofs.YtnlonpcbgjbbaaaGreatDoor
