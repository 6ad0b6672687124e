/-
  BlocksOver, part 15 of its proof: that it returns true for every input, and each argument reads behind the call as it read before. Conditions: the listed variables read as the program's text lays them (tied by the card).
-/
import Derived.Test.YtnlonpcbgjbbaaaGreatDoorWBlocksOver14
set_option linter.unusedVariables false
set_option linter.unusedSimpArgs false
set_option maxRecDepth 20000
set_option linter.unusedVariables false
set_option linter.unusedSimpArgs false
set_option maxRecDepth 20000
namespace Go.Proofs.YtnlonpcbgjbbaaaGreatDoor
open Go.Proofs.Tryz (call108 call117 call121 call124 call157 call159 call160 call161 call162 call34 call54 call55 call65 func117 func121 func122 func124 func157 func159 func160 func162 func19 func65 func68 isAgg124 isAgg125 isAgg127 isAgg23 isAgg3 isAgg30 isAgg4 isAgg43 isAgg44 isAgg48 isAgg51 isAgg9 ntmps117 ntmps121 ntmps122 ntmps124 ntmps157 ntmps159 ntmps160 ntmps162 ntmps19 ntmps65 ntmps68 results117 results121 results122 results124 results157 results159 results160 results162 results19 results65 results68 runUnderlying124 runUnderlying125 runUnderlying127 runUnderlying129 runUnderlying23 runUnderlying25 runUnderlying3 runUnderlying30 runUnderlying43 runUnderlying44 runUnderlying46 runUnderlying48 runUnderlying51 runUnderlying61 runUnderlying9 sizeOf124 sizeOf125 sizeOf127 sizeOf23 sizeOf25 sizeOf3 sizeOf30 sizeOf4 sizeOf43 sizeOf44 sizeOf46 sizeOf48 sizeOf51 sizeOf9 zeroValue124 zeroValue127 zeroValue51)
open Go Go.E RowKit
attribute [local irreducible] Go.E.T Go.E.L Go.E.O Go.E.Ob

attribute [local irreducible] Go.E.ObX Go.E.ObG Go.E.ObK
theorem ints_ext {a b:List Int} (hl:a.length=b.length) (h:∀ j,j<a.length→a.getD j 0=b.getD j 0):a=b:=by
 refine List.ext_getElem hl fun j h1 h2=>?_
 have:=h j h1
 rwa [getD_get h1,getD_get h2] at this
open Go Go.E RowKit

theorem wordsL_eq {d c:UInt8} {r:Str} (h:c=d):wordsL d (c::r) = []::wordsL d r:=by
 subst h;exact wordsL_pre (w:=[]) (by simp)
theorem wordsL_cons {d c:UInt8} {r w:Str} {ws:List Str} (h:c≠d) (hr:wordsL d r=w::ws):wordsL d (c::r)=(c::w)::ws:=by
 rw [wordsL];simp [h,hr]
theorem wordsL_app (d:UInt8) (v:Str):∀ u:Str,wordsL d (u++d::v)=wordsL d u++wordsL d v
 | []=>by rw [List.nil_append,wordsL_eq rfl];rfl
 | c::u=>by
  have ih:=wordsL_app d v u
  by_cases h:c=d
  ·rw [List.cons_append,wordsL_eq h,wordsL_eq h,ih];rfl
  ·cases hu:wordsL d u with
   | nil=>exact absurd hu (wordsL_ne d u)
   | cons w ws =>
    rw [hu] at ih
    rw [List.cons_append,wordsL_cons h ih,wordsL_cons h hu];rfl
theorem bodyL_suf {t:Str} (u:Str) (h:t=u ++ [10]):bodyL t=u:=by
 subst h
 have hs:Lib.hasSuffix (u ++ [10]) [10]=true:=by rw [Lib.hasSuffix];exact List.isSuffixOf_iff_suffix.2 ⟨u,rfl⟩
 rw [bodyL,if_pos hs,Lib.trimSuffix,if_pos hs]
 simp
theorem keysA_nodup {nm:Nat→Str} : ∀ {n:Nat},NmOk nm n→((keysA nm n).map (·.1)).Nodup
 | 0,_=>by simp [keysA]
 | n+1,h=>by
  rw [keysA_succ,List.map_append,List.nodup_append]
  refine ⟨keysA_nodup ⟨fun i j a b=>h.diff i j a (by omega),fun i a=>h.comma i (by omega)⟩,by simp,?_⟩
  intro a ha b hb e
  simp only [List.map_cons,List.map_nil,List.mem_singleton] at hb
  subst hb;subst e
  exact keysA_new (fun k hk=>h.diff k n hk (by omega)) ha
open Go Go.E RowKit

theorem growI_calls (n:Nat) (w:World) (h0:0<n) (hn:n≤1000000) :
  Calls Tryz.prog 157 #[.slice none 0 0,.int .i64 n] w (Ret fun v w'=>Ext w w'∧w'.ownsRow w.heap.size 3 1 v 0 []):=by
 refine T.enter (vs:=[.slice none 0 0,.int .i64 n]) func157 rfl ntmps157 rfl ?_
 refine T.q (L.a rfl (L.nil (T.seq (T.q (L.m rfl (L.o (O.lss_f rfl rfl (by omega) (L.nil (T.cf (T.skip (T.seq (T.q (L.m rfl (L.m rfl (L.o (O.capB runUnderlying30 rfl (L.m rfl (L.o (O.len runUnderlying30 rfl (Sl.val (Sl_nil 0 w 1)) (L.o (O.sub64 rfl rfl (by omega) (L.o (O.sub64 rfl rfl (by omega) (L.a rfl (L.nil (?_))))))))))))))))))))))))))
 refine T.q (L.m rfl (L.o (O.gtr_t rfl rfl (by omega) (L.nil (T.ct (T.region (L.m rfl (L.m rfl (L.o (O.capB runUnderlying30 rfl (L.o (O.slice_to (m:=0) runUnderlying30 sizeOf3 rfl rfl (by decide) (by decide) (L.m rfl (L.o (O.appendNilZeros (n:=n) (size:=1) (bytes:=8) runUnderlying30 runUnderlying3 Tryz.infoOf3 rfl rfl rfl rfl (by decide) rfl (by show some (Value.int .i64 _)=some (Value.int .i64 _);congr 2) h0 hn (by omega) (fun cap w1 cur he1 hc1 hc2 hB1 hl1=>?_))))))))))))))))
 refine L.m rfl (L.o (O.len runUnderlying30 rfl (Sl.val (Sl_nil 0 w1 1)) (L.o (O.slice_to (m:=0) runUnderlying30 sizeOf3 rfl rfl (by decide) (by omega) (L.a rfl (L.nil (T.q (L.m rfl (L.a rfl (L.nil (T.ret1 results157 rfl ⟨he1,rfl,.inr ⟨_,cap,cur.toArray,rfl,Nat.le_refl _,hB1,Nat.zero_le _,hc2,by simpa using hl1,by simp⟩⟩)))))))))))

theorem concatI_calls (lo lo2:Nat) (p:Value) (vs:List Value) (css:List (List Value)) (w:World) (hp:Sl lo w p vs.length 1 vs) (hv:LoL lo2 w vs css) (h0:0<css.flatten.length) (hn:css.flatten.length≤1000000) (h1:∀ c∈css.flatten,c.oneCell'=true) :
  Calls Tryz.prog 117 #[p] w (Ret fun v w'=>Ext w w'∧Sl w.heap.size w' v css.flatten.length 1 css.flatten):=by
 have hle:=Sl.le hp
 have hvl:=hv.1
 refine T.enter (vs:=[p]) func117 rfl ntmps117 rfl ?_
 refine T.q (L.a rfl (L.nil (T.q (L.a rfl (L.nil (T.seq (T.q (L.m rfl (L.o (O.len runUnderlying125 rfl (Sl.val hp) (L.m rfl (L.nil (T.block (?_))))))))))))))
 refine T.loop (σ:=Nat) (fun i=>[(0,p),(3,.int .i64 (fl css i).length),(9,p),(10,.int .i64 vs.length),(11,.int .i64 i)]) (fun i w'=>i≤vs.length∧w'=w) (fun i=>vs.length-i) (0) ⟨rfl,rfl,rfl,rfl,rfl,trivial⟩ ⟨Nat.zero_le _,rfl⟩ ?_
 rintro i w1 ⟨hi,rfl⟩
 refine T.q (L.o (O.lss_s rfl rfl (fun hlt=>?_) (fun hlt=>?_)))
 ·refine L.nil (?_)
  have hlt':i<css.length:=by omega
  have hs:=hv.2 i hlt'
  have hfl:=fl_le css (i+1)
  have hfs:=congrArg List.length (fl_succ css i hlt')
  rw [List.length_append] at hfs
  refine T.seq (T.ct (T.skip (T.seq (T.block (T.q (L.o (O.indexAddr runUnderlying125 sizeOf30 rfl rfl hp (by omega) (by omega) (L.o (O.load isAgg30 rfl (by rw [Int.toNat_natCast,Nat.mul_one];exact Sl.cell hp (show vs[i]?=some (vs.getD i undef) by rw [getD_get (by omega)];simp [hvl,hlt'])) (L.a rfl (L.nil (T.q (L.m rfl (L.m rfl (L.o (O.len runUnderlying30 rfl (Sl.val hs) (L.o (O.add64 rfl rfl (by omega) (L.a rfl (L.nil (T.q (L.m rfl (L.o (O.lss_f rfl rfl (by omega) (L.nil (?_))))))))))))))))))))))))))
  refine T.cf (T.skip (T.blk (T.region (L.o (O.add64 rfl rfl (by omega) (L.m rfl (L.nil (T.again (i+1) (by omega) ⟨rfl,?_,rfl,rfl,rfl,trivial⟩ ⟨by omega,rfl⟩))))))))
  ·rw [hfs];rfl
 ·refine L.nil (?_)
  obtain rfl:i=vs.length:=by omega
  have hfe:fl css vs.length=css.flatten:=by rw [hvl,fl,List.take_length]
  rw [hfe]
  refine T.seq (T.cf (T.exit rfl (T.q (L.m rfl (L.o (O.call (xs:=[.const (.slice none 0 0),.tmp 23]) call157 rfl rfl (growI_calls css.flatten.length w1 h0 hn) (fun v2 w2 hq=>?_)))))))
  obtain ⟨he2,hO2⟩:=hq
  refine L.a rfl (L.nil (T.seq (T.q (L.m rfl (L.o (O.len runUnderlying125 rfl (Sl.val (Sl.ext hp he2)) (L.m rfl (L.nil (T.block (?_))))))))))
  refine T.loop (σ:=Nat × Value) (fun s=>[(6,s.2),(25,p),(26,.int .i64 vs.length),(27,.int .i64 s.1)]) (fun s w'=>s.1≤vs.length∧Ext w1 w'∧w'.ownsRow w1.heap.size 3 1 s.2 (fl css s.1).length (fl css s.1)) (fun s=>vs.length-s.1) ((0,v2)) ⟨rfl,rfl,rfl,rfl,trivial⟩ ⟨Nat.zero_le _,he2,hO2⟩ ?_
  rintro ⟨k,s⟩ w3 ⟨hk,he3,hO3⟩
  simp only at hk hO3
  refine T.q (L.o (O.lss_s rfl rfl (fun hlt2=>?_) (fun hlt2=>?_)))
  ·refine L.nil (?_)
   have hlt':k<css.length:=by simp only at hlt2;omega
   have hs:=(hv.ext he3).2 k hlt'
   have hp3:Sl lo w3 p vs.length 1 vs:=Sl.ext hp he3
   have hfl:=fl_le css (k+1)
   have hfs:=congrArg List.length (fl_succ css k hlt')
   rw [List.length_append] at hfs
   refine T.seq (T.ct (T.skip (T.seq (T.block (T.q (L.o (O.indexAddr runUnderlying125 sizeOf30 rfl rfl hp3 (by omega) (by omega) (L.o (O.load isAgg30 rfl (by rw [Int.toNat_natCast,Nat.mul_one];exact Sl.cell hp3 (show vs[k]?=some (vs.getD k undef) by rw [getD_get (by omega)];simp [hvl,hlt'])) (L.a rfl (L.nil (T.region (L.m rfl (L.m rfl (L.o (O.append (size:=1) (bytes:=8) runUnderlying30 Tryz.infoOf3 rfl rfl rfl rfl (by decide) rfl rfl hO3 hs (fun c hc=>h1 c (by rw [← List.take_append_drop k css,List.flatten_append];exact List.mem_append_right _ (List.mem_flatten.2 ⟨_,by rw [getD_get hlt'];exact List.mem_drop_iff_getElem.2 ⟨0,by omega,rfl⟩,hc⟩))) (by omega) (by simp only [maxLen];omega) he3.size (fun v4 w4 hO4 hG4=>?_)))))))))))))))))
   have he34:Ext w1 w4:=Keep.grown0 he3 hO3 hG4 (Nat.le_refl _)
   refine L.a rfl (L.nil (T.blk (T.region (L.o (O.add64 rfl rfl (by simp only;omega) (L.m rfl (L.nil (T.again ((k+1,v4)) (by omega) ⟨rfl,rfl,rfl,rfl,trivial⟩ ⟨by simp only;omega,he34,by rw [hfs,fl_succ css k hlt'];exact hO4⟩))))))))
  ·refine L.nil (?_)
   obtain rfl:k=vs.length:=by simp only at hlt2;omega
   rw [hfe] at hO3
   refine T.seq (T.cf (T.exit rfl (T.q (L.m rfl (L.a rfl (L.nil (T.ret1 results117 rfl ⟨he3,Sl.of_owns hO3⟩)))))))

/-- Numbers, one by one, behind a blank. -/
def spell (xs:List Int):Str:=xs.flatMap fun x=>32::Lib.itoa x
theorem spell_succ {xs:List Int} {i:Nat} (hi:i<xs.length):spell (xs.take (i+1))=spell (xs.take i)++(32::Lib.itoa (xs.getD i 0)):=by
 rw [List.take_succ_eq_append_getElem hi,spell,spell,List.flatMap_append,getD_get hi];simp
def I64s (xs:List Int):Prop:=∀ x∈xs,-9223372036854775808≤x∧x≤9223372036854775807
theorem I64s.at {xs:List Int} (h:I64s xs) {i:Nat} (hi:i<xs.length) : -9223372036854775808≤xs.getD i 0∧xs.getD i 0≤9223372036854775807:=by
 rw [getD_get hi];exact h _ (List.getElem_mem hi)
theorem spell_len:∀ (xs:List Int),I64s xs→(spell xs).length≤22*xs.length
 | [],_=>by simp [spell]
 | x::r,h=>by
  have h1:=spell_len r fun y hy=>h y (List.mem_cons_of_mem _ hy)
  have hx:=h x (by simp)
  have h2:=Lib.itoa_length_le x hx.1 hx.2
  have e:spell (x::r)=(32::Lib.itoa x)++spell r:=rfl
  rw [e,List.length_append,List.length_cons,List.length_cons]
  omega
theorem spelt_calls (h:Str) (lo lo2:Nat) (p:Value) (vs:List Value) (css:List (List Value)) (xs:List Int) (w:World) (hp:Sl lo w p vs.length 1 vs) (hv:LoL lo2 w vs css) (hx:css.flatten=xs.map (Value.int .i64)) (h0:0<xs.length) (hn:xs.length≤100000) (hi:I64s xs) (hL:LibM w) (hh:h.length≤100000) :
  Calls Tryz.prog 65 #[str h,p] w (Ret fun v w'=>v=str (h++spell xs)∧Ext w w'):=by
 have hfl:css.flatten.length=xs.length:=by rw [hx,List.length_map]
 refine T.enter (vs:=[str h,p]) func65 rfl ntmps65 rfl ?_
 refine T.q (L.a rfl (L.nil (T.seq (T.q (L.m rfl (L.o (O.call (xs:=[.tmp 7]) call117 rfl rfl (concatI_calls lo lo2 p vs css w hp hv (by omega) (by omega) (by rw [hx];intro c hc;obtain ⟨x,_,rfl⟩:=List.mem_map.1 hc;rfl)) (fun v1 w1 hq=>?_))))))))
 obtain ⟨he1,hS1⟩:=hq
 rw [hfl,hx] at hS1
 have hI1:Ints .i64 w.heap.size w1 v1 xs:=hS1
 refine L.o (O.len runUnderlying30 rfl (Sl.val hI1) (L.m rfl (L.nil (T.block (?_)))))
 refine T.loop (σ:=Nat) (fun i=>[(0,str (h++spell (xs.take i))),(8,v1),(9,.int .i64 xs.length),(10,.int .i64 i)]) (fun i W=>i≤xs.length∧Ext w1 W) (fun i=>xs.length-i) (0) ⟨?_,rfl,rfl,rfl,trivial⟩ ⟨Nat.zero_le _,Keep.refl _ _⟩ ?_
 ·exact congrArg (fun z=>some (str z)) (by simp [spell])
 rintro i w2 ⟨hi2,he2⟩
 refine T.q (L.o (O.lss_s rfl rfl (fun hlt=>?_) (fun hlt=>?_)))
 ·refine L.nil (?_)
  have hlt':i<xs.length:=by omega
  have hb:=hi.at hlt'
  have hsl:=spell_len (xs.take i) (fun x hx=>hi x (List.mem_of_mem_take hx))
  have hil:=Lib.itoa_length_le (xs.getD i 0) hb.1 hb.2
  rw [List.length_take,Nat.min_eq_left (by omega)] at hsl
  refine T.seq (T.ct (T.skip (T.seq (T.block (T.q (L.o (O.indexAddr runUnderlying30 sizeOf3 rfl rfl (hI1.ext he2) (by omega) (by omega) (L.o (O.load isAgg3 rfl (Ints.at (hI1.ext he2) hlt') (L.a rfl (L.nil (T.region (L.m rfl (L.m rfl (L.o (O.call (xs:=[.tmp 15]) call54 rfl rfl (itoa_calls (xs.getD i 0) w2 (hL.ext (he1.trans he2)) hb.1 hb.2) (fun v3 w3 hq=>?_)))))))))))))))))
  obtain ⟨rfl,he3⟩:=hq
  refine L.o (O.add_str rfl rfl (by show 1+_≤_;omega) (L.o (O.add_str rfl rfl (by rw [List.length_append,List.length_append];show h.length+_+(1+(Lib.itoa (xs.getD i 0)).length)≤_;omega) (L.a rfl (L.nil (T.blk (T.region (L.o (O.add64 rfl rfl (by omega) (L.m rfl (L.nil (T.again (i+1) (by omega) ⟨?_,rfl,rfl,rfl,trivial⟩ ⟨hlt',he2.trans he3⟩))))))))))))
  ·exact congrArg (fun z=>some (str z)) (by rw [spell_succ hlt'];simp [List.append_assoc])
 ·refine L.nil (?_)
  obtain rfl:i=xs.length:=by omega
  rw [List.take_length]
  refine T.seq (T.cf (T.exit rfl (T.q (L.m rfl (L.a rfl (L.nil (T.ret1 results65 rfl ⟨rfl,he1.trans he2⟩)))))))

open Go Go.E RowKit

def kLand:Str:=[108,97,110,100]
def kPoint:Str:=[112,111,105,110,116]
def kFace:Str:=[102,97,99,101]
def kHole:Str:=[104,111,108,101]
def kUnit:Str:=[117,110,105,116,32]
def kWater:Str:=[32,119,97,116,101,114]
def kEnd:Str:=[101,110,100]
def ptL (p:Pt):Str:=kPoint++spell [p.1,p.2]
def faceL (f:FaV):List Str:=(kFace++spell f.o.xs)::f.hs.map fun h=>kHole++spell h.xs
def numsU (u:UnV):List Int:=u.pp::u.gs++u.vs++u.ps
def unitL (u:UnV):Str:=kUnit++u.nm++spell (numsU u)++(if u.wt=true then kWater else [])
def lA (r:RoV):List Str:=[kLand++spell [r.G,r.P,r.L]]
def lB (c:CxV) (r:RoV) (i:Nat):List Str:=lA r++(c.ps.take i).map ptL
def lC (c:CxV) (r:RoV) (i:Nat):List Str:=lA r++c.ps.map ptL++(c.fs.take i).flatMap faceL
def lH (c:CxV) (r:RoV) (i:Nat) (f:FaV) (j:Nat):List Str:=lC c r i ++ [kFace++spell f.o.xs]++(f.hs.take j).map fun h=>kHole++spell h.xs
def lD (c:CxV) (r:RoV) (i:Nat):List Str:=lA r++c.ps.map ptL++c.fs.flatMap faceL++(r.us.take i).map unitL
def textL (c:CxV) (r:RoV):List Str:=lA r++c.ps.map ptL++c.fs.flatMap faceL++r.us.map unitL ++ [kEnd]
/-- Few and small enough to be written. -/
structure SmallL (c:CxV) (r:RoV):Prop where
 roll:I64s [r.G,r.P,r.L]
 pts:∀ p∈c.ps,I64s [p.1,p.2]
 rim:∀ f∈c.fs,I64s f.o.xs∧0<f.o.xs.length∧f.o.xs.length≤1000
 hole:∀ f∈c.fs,∀ h∈f.hs,I64s h.xs∧0<h.xs.length∧h.xs.length≤1000
 unit:∀ u∈r.us,I64s (numsU u)∧(numsU u).length≤1000∧u.nm.length≤1000
 len:(joinedL (textL c r)).length≤1000000
theorem joined_ge:∀ ls:List Str,ls.length≤(joinedL ls).length
 | []=>Nat.le_refl _
 | l::r=>by
  have:=joined_ge r
  have e:joinedL (l::r)=l ++ [10]++joinedL r:=by simp [joinedL]
  rw [e,List.length_append,List.length_append,List.length_cons]
  simp only [List.length_cons,List.length_nil]
  omega
theorem SmallL.lines {c:CxV} {r:RoV} (h:SmallL c r):(textL c r).length≤1000000:=Nat.le_trans (joined_ge _) h.len
theorem flat_le {α:Type} (f:α→List Str) (l:List α) (i:Nat):((l.take i).flatMap f).length≤(l.flatMap f).length:=by
 have e:l.flatMap f=(l.take i).flatMap f++(l.drop i).flatMap f:=by rw [← List.flatMap_append,List.take_append_drop]
 rw [e,List.length_append];omega
theorem lB_le {c:CxV} {r:RoV} (h:SmallL c r) {i:Nat} : (lB c r i).length≤1000000:=by
 have h1:=h.lines
 simp only [textL,lB,List.length_append,List.length_map,List.length_take,List.length_cons,List.length_nil] at h1 ⊢
 omega
theorem lC_le {c:CxV} {r:RoV} (h:SmallL c r) {i:Nat} : (lC c r i).length≤1000000:=by
 have h1:=h.lines
 have h2:=flat_le faceL c.fs i
 simp only [textL,lC,List.length_append,List.length_map,List.length_take,List.length_cons,List.length_nil] at h1 ⊢
 omega
theorem lD_le {c:CxV} {r:RoV} (h:SmallL c r) {i:Nat} : (lD c r i).length≤1000000:=by
 have h1:=h.lines
 simp only [textL,lD,List.length_append,List.length_map,List.length_take,List.length_cons,List.length_nil] at h1 ⊢
 omega
theorem lB_succ {c:CxV} {r:RoV} {i:Nat} (hi:i<c.ps.length):lB c r (i+1)=lB c r i ++ [ptL (c.ps.getD i (0,0))]:=by
 rw [lB,lB,List.take_succ_eq_append_getElem hi,List.map_append,getD_get hi,List.append_assoc];rfl
theorem lC_succ {c:CxV} {r:RoV} {i:Nat} (hi:i<c.fs.length):lC c r (i+1)=lC c r i++faceL (c.fs.getD i f0):=by
 rw [lC,lC,List.take_succ_eq_append_getElem hi,List.flatMap_append,getD_get hi,List.append_assoc,List.append_assoc,List.append_assoc];simp
theorem lH_full {c:CxV} {r:RoV} {i:Nat} (hi:i<c.fs.length):lH c r i (c.fs.getD i f0) (c.fs.getD i f0).hs.length=lC c r (i+1):=by
 rw [lC_succ hi,lH,List.take_length,faceL,List.append_assoc];rfl
theorem lH_succ {c:CxV} {r:RoV} {i j:Nat} {f:FaV} (hj:j<f.hs.length):lH c r i f (j+1)=lH c r i f j ++ [kHole++spell (f.hs.getD j ⟨undef,[]⟩).xs]:=by
 rw [lH,lH,List.take_succ_eq_append_getElem hj,List.map_append,getD_get hj,List.append_assoc,List.append_assoc,List.append_assoc];rfl
theorem lH_le {c:CxV} {r:RoV} (h:SmallL c r) {i j:Nat} (hi:i<c.fs.length):(lH c r i (c.fs.getD i f0) j).length≤1000000:=by
 have h1:=lC_le h (i:=i+1)
 rw [← lH_full hi] at h1
 simp only [lH,List.length_append,List.length_map,List.length_take,List.length_cons,List.length_nil] at h1 ⊢
 omega
theorem lD_succ {c:CxV} {r:RoV} {i:Nat} (hi:i<r.us.length):lD c r (i+1)=lD c r i ++ [unitL (r.us.getD i u0)]:=by
 rw [lD,lD,List.take_succ_eq_append_getElem hi,List.map_append,getD_get hi,← List.append_assoc];rfl
/-- What Text gives. -/
noncomputable def textRes (c:CxV) (r:RoV) (e:Int):Str × Int :=
 if e≠0 then ([],e) else if 40000<(joinedL (textL c r)).length then ([],3) else (joinedL (textL c r),0)
theorem Ints.append {k:IntKind} {lo:Nat} {w:World} {v:Value} {xs:List Int} (h:Ints k lo w v xs):Sl lo w v (xs.map (Value.int k)).length 1 (xs.map (Value.int k)):=by
 rw [List.length_map];exact h
theorem lol_one {w:World} {v:Value} {xs:List Int} (h:Ints .i64 0 w v xs):LoL 0 w [v] [xs.map (Value.int .i64)]:=⟨rfl,fun i hi=>by
 have e:i=0:=by simpa using hi
 subst e
 exact Ints.append h⟩
theorem lol_four {w:World} {a b c d:Value} {la bs cs ds:List Int} (ha:Ints .i64 0 w a la) (hb:Ints .i64 0 w b bs) (hc:Ints .i64 0 w c cs) (hd:Ints .i64 0 w d ds):LoL 0 w [a,b,c,d] ([la,bs,cs,ds].map fun l=>l.map (Value.int .i64)):=⟨rfl,fun i hi=>by
 match i,hi with
 | 0,_=>exact Ints.append ha
 | 1,_=>exact Ints.append hb
 | 2,_=>exact Ints.append hc
 | 3,_=>exact Ints.append hd⟩
theorem spelt_one (h:Str) (b:Nat) (v:Value) (xs:List Int) (w:World) (hB:Blk w b [v] 30) (hv:Ints .i64 0 w v xs) (h0:0<xs.length) (hn:xs.length≤1000) (hi:I64s xs) (hL:LibM w) (hh:h.length≤100000) :
  Calls Tryz.prog 65 #[str h,.slice (some ⟨b,0,none⟩) 1 1] w (Ret fun v' w'=>v'=str (h++spell xs)∧Ext w w') :=
 spelt_calls h 0 0 _ [v] [xs.map (Value.int .i64)] xs w (Sl.of_blk (n:=1) (sz:=1) hB rfl (Nat.le_refl 1) (by decide) (Nat.zero_le _)) (lol_one hv) (by simp) h0 (by omega) hi hL hh
theorem kPoint_le:kPoint.length≤100000:=by decide
theorem kFace_le:kFace.length≤100000:=by decide
theorem kHole_le:kHole.length≤100000:=by decide
theorem kLand_le:kLand.length≤100000:=by decide
theorem str1_app {base:Nat} {xs:List Str} {s:Str} {v:Value} {w:World} (h:w.ownsRow base 9 1 v (xs.length+1) (xs.map str ++ [s].map str)):OwnSt base (xs ++ [s]) v w:=ownSt_app (ys:=[s]) h
set_option maxHeartbeats 2000000 in
theorem Text_calls (lo:Nat) (c:CxV) (r:RoV) (w:World) (hc:c.ok lo w) (hr:r.ok lo w) (hL:LibM w) (hs:landErr c r (cxBad c)=0→SmallL c r) :
  Calls Tryz.prog 19 #[.agg (landC c r).toArray] w (Ret fun v w'=>v = .tuple #[str (textRes c r (landErr c r (cxBad c))).1,.int .i64 (textRes c r (landErr c r (cxBad c))).2]∧Ext w w'):=by
 refine T.enter (vs:=[.agg (landC c r).toArray]) func19 rfl ntmps19 rfl ?_
 refine T.q (L.o (O.box rfl (fun b1 w1 hb1 hz1 he1 hB1=>?_)))
 have hl1:Blk w1 b1 (landC c r) 48:=hB1
 refine L.a rfl (L.a rfl (L.nil (T.seq (T.q (L.o (O.loadAgg isAgg48 sizeOf48 rfl rfl (Row.of_blk hl1) (L.o (O.call (xs:=[.tmp 16]) call34 rfl rfl (LCheck_calls lo c r w1 (hc.ext he1) (hr.ext he1)) (fun v2 w2 hq=>?_)))))))))
 obtain ⟨rfl,he2⟩:=hq
 have he02:=he1.trans he2
 refine L.a rfl (L.nil (T.q (L.m rfl (L.o (O.neq_s rfl rfl (fun h0=>?_) (fun h0=>?_))))))
 ·refine L.nil (T.ct (T.q (L.m rfl (L.a rfl (L.a rfl (L.nil (T.ret2 results19 rfl rfl ⟨by rw [textRes,if_pos h0];rfl,he02⟩)))))))
 ·refine L.nil (?_)
  have hS:=hs h0
  rw [h0]
  have hl2:=Blk.ext (cs:=landC c r) hl1 he2
  refine T.cf (T.skip (T.q (L.o (O.fieldAddr runUnderlying48 rfl sizeOf25 rfl (L.o (O.fieldAddr runUnderlying25 rfl sizeOf3 rfl (L.o (O.load isAgg3 rfl (hl2.cell rfl) (L.o (O.fieldAddr runUnderlying48 rfl sizeOf25 rfl (L.o (O.fieldAddr runUnderlying25 rfl sizeOf3 rfl (L.o (O.load isAgg3 rfl (hl2.cell rfl) (L.o (O.fieldAddr runUnderlying48 rfl sizeOf25 rfl (L.o (O.fieldAddr runUnderlying25 rfl sizeOf3 rfl (L.o (O.load isAgg3 rfl (hl2.cell rfl) (L.o (O.buildSlice (el:=3) (parts:=[(0,.tmp 23),(1,.tmp 26),(2,.tmp 29)]) (vs:=[(0,_),(1,_),(2,_)]) (cs:=([r.G,r.P,r.L].map (Value.int .i64))) rfl (fun w=>by kernel_rfl) (fun b30 w30 hb30 hz30 he30 hB30=>?_)))))))))))))))))))))))
  have hI30:Ints .i64 0 w30 (.slice (some ⟨b30,0,none⟩) 3 3) [r.G,r.P,r.L]:=Ints.of_blk hB30 rfl (by decide) (Nat.zero_le _)
  refine L.o (O.buildSlice (el:=30) (parts:=[(0,.tmp 30)]) (vs:=[(0,_)]) (cs:=[.slice (some ⟨b30,0,none⟩) 3 3]) rfl (fun w=>by kernel_rfl) (fun b31 w31 hb31 hz31 he31 hB31=>?_))
  refine L.o (O.call (xs:=[_,.tmp 31]) call65 rfl rfl (spelt_one kLand b31 _ [r.G,r.P,r.L] w31 hB31 (hI30.ext he31) (by simp) (by simp) hS.roll (hL.ext ((he02.trans he30).trans he31)) kLand_le) (fun v32 w32 hq=>?_))
  obtain ⟨rfl,he32⟩:=hq
  refine L.o (O.buildSlice (el:=9) (parts:=[(0,.tmp 32)]) (vs:=[(0,_)]) (cs:=((lA r).map str)) rfl (fun w=>by kernel_rfl) (fun b33 w33 hb33 hz33 he33 hB33=>?_))
  have hO33:OwnSt w32.heap.size (lB c r 0) (.slice (some ⟨b33,0,none⟩) 1 1) w33:=owns_blk (n:=1) (cap:=1) (sz:=1) hB33 (by omega) (Nat.le_refl _) (by decide) rfl
  have he033:=(((he02.trans he30).trans he31).trans he32).trans he33
  have he133:=(((he2.trans he30).trans he31).trans he32).trans he33
  refine L.a rfl (L.nil (T.seq (T.q (L.o (O.fieldAddr runUnderlying48 rfl sizeOf46 rfl (L.o (O.fieldAddr runUnderlying46 rfl sizeOf43 rfl (L.o (O.load isAgg43 rfl ((Blk.ext (cs:=landC c r) hl1 he133).cell rfl) (L.o (O.len runUnderlying43 rfl (Sl.val ((hc.ext he033).p)) (L.m rfl (L.nil (T.block (?_)))))))))))))))
  refine T.loop (σ:=Nat × Value) (fun g=>[(1,.pointer (some ⟨b1,0,none⟩)),(5,g.2),(36,c.pv),(37,.int .i64 c.ps.length),(38,.int .i64 g.1)]) (fun g W=>g.1≤c.ps.length∧Ext w1 W∧Ext w32 W∧OwnSt w32.heap.size (lB c r g.1) g.2 W) (fun g=>c.ps.length-g.1) ((0,.slice (some ⟨b33,0,none⟩) 1 1)) ⟨rfl,rfl,rfl,rfl,rfl,trivial⟩ ⟨Nat.zero_le _,he133,he33,hO33⟩ ?_
  rintro ⟨i,lv⟩ w34 ⟨hi,he134,he3234,hO34⟩
  simp only at hi hO34
  have hc34:=hc.ext (he1.trans he134)
  have hqa:=Sl.le hc34.p
  refine T.q (L.o (O.lss_s rfl rfl (fun hlt=>?_) (fun hlt=>?_)))
  ·refine L.nil (?_)
   have hlt':i<c.ps.length:=by simp only at hlt;omega
   have hpm:c.ps.getD i (0,0)∈c.ps:=by rw [getD_get hlt'];exact List.getElem_mem hlt'
   refine T.seq (T.ct (T.skip (T.seq (T.block (T.q (L.o (O.indexAddr runUnderlying43 sizeOf124 rfl rfl hc34.p (by omega) (by omega) (L.o (O.loadAgg isAgg124 sizeOf124 rfl rfl (hc34.p.row hlt') (L.o (O.alloc zeroValue124 (fun b7 w7 hb7 hz7 he7 hB7=>?_))))))))))))
   refine L.o (O.storeAgg sizeOf124 rfl rfl rfl hB7 (Nat.le_refl _) (pC_one _) (fun w8 hu8 hB8=>?_))
   have hX8:Blk w8 b7 (pC (c.ps.getD i (0,0))) 124:=hB8
   have he348:Ext w34 w8:=he7.upd hu8 (.inr (by omega))
   refine L.nil (T.region (L.m rfl (L.o (O.fieldAddr runUnderlying124 rfl sizeOf3 rfl (L.o (O.load isAgg3 rfl (hX8.cell rfl) (L.o (O.fieldAddr runUnderlying124 rfl sizeOf3 rfl (L.o (O.load isAgg3 rfl (hX8.cell rfl) (L.o (O.buildSlice (el:=3) (parts:=[(0,.tmp 44),(1,.tmp 46)]) (vs:=[(0,_),(1,_)]) (cs:=([(c.ps.getD i (0,0)).1,(c.ps.getD i (0,0)).2].map (Value.int .i64))) rfl (fun w=>by kernel_rfl) (fun b47 w47 hb47 hz47 he47 hB47=>?_)))))))))))))
   have hI47:Ints .i64 0 w47 (.slice (some ⟨b47,0,none⟩) 2 2) [(c.ps.getD i (0,0)).1,(c.ps.getD i (0,0)).2]:=Ints.of_blk hB47 rfl (by decide) (Nat.zero_le _)
   refine L.o (O.buildSlice (el:=30) (parts:=[(0,.tmp 47)]) (vs:=[(0,_)]) (cs:=[.slice (some ⟨b47,0,none⟩) 2 2]) rfl (fun w=>by kernel_rfl) (fun b48 w48 hb48 hz48 he48 hB48=>?_))
   have he3448:=(he348.trans he47).trans he48
   refine L.o (O.call (xs:=[_,.tmp 48]) call65 rfl rfl (spelt_one kPoint b48 _ [(c.ps.getD i (0,0)).1,(c.ps.getD i (0,0)).2] w48 hB48 (hI47.ext he48) (by simp) (by simp) (hS.pts _ hpm) (hL.ext ((he1.trans he134).trans he3448)) kPoint_le) (fun v49 w49 hq=>?_))
   obtain ⟨rfl,he49⟩:=hq
   refine L.o (O.buildSlice (el:=9) (parts:=[(0,.tmp 49)]) (vs:=[(0,_)]) (cs:=([ptL (c.ps.getD i (0,0))].map str)) rfl (fun w=>by kernel_rfl) (fun b50 w50 hb50 hz50 he50 hB50=>?_))
   have he3450:=(he3448.trans he49).trans he50
   have hle:=lB_le hS (i:=i)
   refine L.o (O.append (size:=1) (bytes:=16) runUnderlying61 Tryz.infoOf9 rfl rfl rfl rfl (by decide) rfl rfl (owns_keep hO34 (he3450.mono (Nat.zero_le _)) (Nat.le_refl _)) (Strs.of_blk (lo:=0) hB50 rfl (by decide) (Nat.zero_le _)) (strs_one _) (by simp only [List.length_cons,List.length_nil,maxLen];omega) (by simp only [maxLen,List.length_cons,List.length_nil];omega) (by have:=he3234.size;have:=he3450.size;omega) (fun v51 w51 hO51 hG51=>?_))
   have he3251:Ext w32 w51:=Keep.grown0 (he3234.trans he3450) (owns_keep hO34 (he3450.mono (Nat.zero_le _)) (Nat.le_refl _)) hG51 (Nat.le_refl _)
   refine L.a rfl (L.nil (T.blk (T.region (L.o (O.add64 rfl rfl (by (try dsimp only);omega) (L.m rfl (L.nil (T.again ((i+1,v51)) (show c.ps.length-(i+1)<c.ps.length-i by omega) ⟨rfl,rfl,rfl,rfl,rfl,trivial⟩ ⟨hlt',(((he2.trans he30).trans he31).trans he32).trans he3251,he3251,by rw [lB_succ hlt'];exact str1_app hO51⟩))))))))
  ·refine L.nil (?_)
   obtain rfl:i=c.ps.length:=by simp only at hlt;omega
   have hlC:lB c r c.ps.length=lC c r 0:=by simp [lB,lC]
   rw [hlC] at hO34
   refine T.seq (T.cf (T.exit rfl (T.seq (T.q (L.o (O.fieldAddr runUnderlying48 rfl sizeOf46 rfl (L.o (O.fieldAddr runUnderlying46 rfl sizeOf44 rfl (L.o (O.load isAgg44 rfl ((Blk.ext (cs:=landC c r) hl1 he134).cell rfl) (L.o (O.len runUnderlying44 rfl (Sl.val hc34.sl) (L.m rfl (L.nil (T.block (?_))))))))))))))))
   refine T.loop (σ:=Nat × Value) (fun g=>[(1,.pointer (some ⟨b1,0,none⟩)),(5,g.2),(55,c.fv),(56,.int .i64 c.fs.length),(57,.int .i64 g.1)]) (fun g W=>g.1≤c.fs.length∧Ext w1 W∧Ext w32 W∧OwnSt w32.heap.size (lC c r g.1) g.2 W) (fun g=>c.fs.length-g.1) ((0,lv)) ⟨rfl,rfl,rfl,rfl,rfl,trivial⟩ ⟨Nat.zero_le _,he134,he3234,hO34⟩ ?_
   rintro ⟨i,lv2⟩ w58 ⟨hi2,he158,he3258,hO58⟩
   simp only at hi2 hO58
   have hc58:=hc.ext (he1.trans he158)
   have hqb:=Sl.le hc58.sl
   refine T.q (L.o (O.lss_s rfl rfl (fun hlt=>?_) (fun hlt=>?_)))
   ·refine L.nil (?_)
    have hlt':i<c.fs.length:=by simp only at hlt;omega
    have hfm:c.fs.getD i f0∈c.fs:=by rw [getD_get hlt'];exact List.getElem_mem hlt'
    have hfo:=hc58.at hlt'
    refine T.seq (T.ct (T.skip (T.seq (T.block (T.q (L.o (O.indexAddr runUnderlying44 sizeOf127 rfl rfl hc58.sl (by omega) (by omega) (L.o (O.loadAgg isAgg127 sizeOf127 rfl rfl (hc58.row hlt') (L.o (O.alloc zeroValue127 (fun b9 w9 hb9 hz9 he9 hB9=>?_))))))))))))
    refine L.o (O.storeAgg sizeOf127 rfl rfl rfl hB9 (Nat.le_refl _) (fa_one hfo) (fun w10 hu10 hB10=>?_))
    have hF10:Blk w10 b9 (c.fs.getD i f0).cells 127:=hB10
    have he5810:Ext w58 w10:=he9.upd hu10 (.inr (by omega))
    obtain ⟨oa,cp,hov,_,_⟩:=Sl.val hfo.o
    refine L.nil (T.q (L.m rfl (L.o (O.fieldAddr runUnderlying127 rfl sizeOf30 rfl (L.o (O.load isAgg30 rfl (show w10.cell? ⟨b9,0,none⟩=some (.slice oa (c.fs.getD i f0).o.xs.length cp) from by rw [← hov];exact hF10.cell rfl) (L.o (O.buildSlice (el:=30) (parts:=[(0,.tmp 63)]) (vs:=[(0,_)]) (cs:=[.slice oa (c.fs.getD i f0).o.xs.length cp]) rfl (fun w=>by kernel_rfl) (fun b64 w64 hb64 hz64 he64 hB64=>?_)))))))))
    have he5864:=he5810.trans he64
    obtain ⟨hr1,hr2,hr3⟩:=hS.rim _ hfm
    refine L.o (O.call (xs:=[_,.tmp 64]) call65 rfl rfl (spelt_one kFace b64 _ (c.fs.getD i f0).o.xs w64 hB64 (hov▸(hfo.ext he5864).o.mono (Nat.zero_le _)) hr2 hr3 hr1 (hL.ext ((he1.trans he158).trans he5864)) kFace_le) (fun v65 w65 hq=>?_))
    obtain ⟨rfl,he65⟩:=hq
    refine L.o (O.buildSlice (el:=9) (parts:=[(0,.tmp 65)]) (vs:=[(0,_)]) (cs:=([kFace++spell (c.fs.getD i f0).o.xs].map str)) rfl (fun w=>by kernel_rfl) (fun b66 w66 hb66 hz66 he66 hB66=>?_))
    have he5866:=(he5864.trans he65).trans he66
    have hle:=lC_le hS (i:=i)
    refine L.o (O.append (size:=1) (bytes:=16) runUnderlying61 Tryz.infoOf9 rfl rfl rfl rfl (by decide) rfl rfl (owns_keep hO58 (he5866.mono (Nat.zero_le _)) (Nat.le_refl _)) (Strs.of_blk (lo:=0) hB66 rfl (by decide) (Nat.zero_le _)) (strs_one _) (by simp only [List.length_cons,List.length_nil,maxLen];omega) (by simp only [maxLen,List.length_cons,List.length_nil];omega) (by have:=he3258.size;have:=he5866.size;omega) (fun v67 w67 hO67 hG67=>?_))
    have he3267:Ext w32 w67:=Keep.grown0 (he3258.trans he5866) (owns_keep hO58 (he5866.mono (Nat.zero_le _)) (Nat.le_refl _)) hG67 (Nat.le_refl _)
    have hO67':OwnSt w32.heap.size (lH c r i (c.fs.getD i f0) 0) v67 w67:=by rw [show lH c r i (c.fs.getD i f0) 0=lC c r i ++ [kFace++spell (c.fs.getD i f0).o.xs] by simp [lH]];exact str1_app hO67
    have he132:=((he2.trans he30).trans he31).trans he32
    have hz132:=he132.size
    have hF66:=Blk.ext (cs:=(c.fs.getD i f0).cells) hF10 ((he64.trans he65).trans he66)
    have hO66:=owns_keep hO58 (he5866.mono (Nat.zero_le _)) (Nat.le_refl _)
    have hF67:Blk w67 b9 (c.fs.getD i f0).cells 127:=Blk.grown (cs:=(c.fs.getD i f0).cells) hF66 hG67 (own_blk hO66 hF66 (by decide))
    refine L.a rfl (L.nil (T.q (L.o (O.fieldAddr runUnderlying127 rfl sizeOf125 rfl (L.o (O.load isAgg125 rfl (hF67.cell rfl) (?_)))))))
    have hfo67:=(hc.ext (he1.trans (he132.trans he3267))).at hlt'
    refine L.o (O.len runUnderlying125 rfl (Sl.val hfo67.sl) (L.m rfl (L.nil (T.block (?_)))))
    refine T.loop (σ:=Nat × Value) (fun g=>[(1,.pointer (some ⟨b1,0,none⟩)),(5,g.2),(55,c.fv),(56,.int .i64 c.fs.length),(57,.int .i64 i),(69,(c.fs.getD i f0).hv),(70,.int .i64 (c.fs.getD i f0).hs.length),(71,.int .i64 g.1)]) (fun g W=>g.1≤(c.fs.getD i f0).hs.length∧Ext w32 W∧OwnSt w32.heap.size (lH c r i (c.fs.getD i f0) g.1) g.2 W) (fun g=>(c.fs.getD i f0).hs.length-g.1) ((0,v67)) ⟨rfl,rfl,rfl,rfl,rfl,rfl,rfl,rfl,trivial⟩ ⟨Nat.zero_le _,he3267,hO67'⟩ ?_
    rintro ⟨j,lv3⟩ w72 ⟨hj,he3272,hO72⟩
    simp only at hj hO72
    have hfo72:=(hc.ext (he1.trans (he132.trans he3272))).at hlt'
    have hqc:=Sl.le hfo72.sl
    refine T.q (L.o (O.lss_s rfl rfl (fun hlt2=>?_) (fun hlt2=>?_)))
    ·refine L.nil (?_)
     have hj':j<(c.fs.getD i f0).hs.length:=by simp only at hlt2;omega
     have hhm:(c.fs.getD i f0).hs.getD j ⟨undef,[]⟩∈(c.fs.getD i f0).hs:=by rw [getD_get hj'];exact List.getElem_mem hj'
     obtain ⟨hq1,hq2,hq3⟩:=hS.hole _ hfm _ hhm
     refine T.seq (T.ct (T.skip (T.seq (T.block (T.q (L.o (O.indexAddr runUnderlying125 sizeOf30 rfl rfl hfo72.sl (by omega) (by omega) (?_))))))))
     obtain ⟨ob,cq,hov2,_,_⟩:=Sl.val (hfo72.hs _ hhm)
     refine L.o (O.load isAgg30 rfl (show _=some (.slice ob ((c.fs.getD i f0).hs.getD j ⟨undef,[]⟩).xs.length cq) from by rw [← hov2,Int.toNat_natCast,Nat.mul_one];exact Sl.cell hfo72.sl (show (riCells (c.fs.getD i f0).hs)[j]?=some ((c.fs.getD i f0).hs.getD j ⟨undef,[]⟩).v by rw [riCells,List.getElem?_map,List.getElem?_eq_getElem hj',getD_get hj'];rfl)) (L.a rfl (L.nil (T.region (L.m rfl (L.m rfl (L.o (O.buildSlice (el:=30) (parts:=[(0,.tmp 76)]) (vs:=[(0,_)]) (cs:=[.slice ob ((c.fs.getD i f0).hs.getD j ⟨undef,[]⟩).xs.length cq]) rfl (fun w=>by kernel_rfl) (fun b77 w77 hb77 hz77 he77 hB77=>?_)))))))))
     refine L.o (O.call (xs:=[_,.tmp 77]) call65 rfl rfl (spelt_one kHole b77 _ ((c.fs.getD i f0).hs.getD j ⟨undef,[]⟩).xs w77 hB77 (hov2▸((hfo72.hs _ hhm).ext he77).mono (Nat.zero_le _)) hq2 hq3 hq1 (hL.ext ((he1.trans (he132.trans he3272)).trans he77)) kHole_le) (fun v78 w78 hq=>?_))
     obtain ⟨rfl,he78⟩:=hq
     refine L.o (O.buildSlice (el:=9) (parts:=[(0,.tmp 78)]) (vs:=[(0,_)]) (cs:=([kHole++spell ((c.fs.getD i f0).hs.getD j ⟨undef,[]⟩).xs].map str)) rfl (fun w=>by kernel_rfl) (fun b79 w79 hb79 hz79 he79 hB79=>?_))
     have he7279:=(he77.trans he78).trans he79
     have hle2:=lH_le hS (j:=j) hlt'
     refine L.o (O.append (size:=1) (bytes:=16) runUnderlying61 Tryz.infoOf9 rfl rfl rfl rfl (by decide) rfl rfl (owns_keep hO72 (he7279.mono (Nat.zero_le _)) (Nat.le_refl _)) (Strs.of_blk (lo:=0) hB79 rfl (by decide) (Nat.zero_le _)) (strs_one _) (by simp only [List.length_cons,List.length_nil,maxLen];omega) (by simp only [maxLen,List.length_cons,List.length_nil];omega) (by have:=he3272.size;have:=he7279.size;omega) (fun v80 w80 hO80 hG80=>?_))
     have he3280:Ext w32 w80:=Keep.grown0 (he3272.trans he7279) (owns_keep hO72 (he7279.mono (Nat.zero_le _)) (Nat.le_refl _)) hG80 (Nat.le_refl _)
     refine L.a rfl (L.nil (T.blk (T.region (L.o (O.add64 rfl rfl (by (try dsimp only);omega) (L.m rfl (L.nil (T.again ((j+1,v80)) (show (c.fs.getD i f0).hs.length-(j+1)<(c.fs.getD i f0).hs.length-j by omega) ⟨rfl,rfl,rfl,rfl,rfl,rfl,rfl,rfl,trivial⟩ ⟨hj',he3280,by rw [lH_succ hj'];exact str1_app hO80⟩))))))))
    ·refine L.nil (?_)
     have e:j=(c.fs.getD i f0).hs.length:=by simp only at hlt2;omega
     rw [e,lH_full hlt'] at hO72
     refine T.seq (T.cf (T.exit rfl (T.blk (T.region (L.o (O.add64 rfl rfl (by (try dsimp only);omega) (L.m rfl (L.nil (T.again ((i+1,lv3)) (show c.fs.length-(i+1)<c.fs.length-i by omega) ⟨rfl,rfl,rfl,rfl,rfl,trivial⟩ ⟨hlt',he132.trans he3272,he3272,hO72⟩)))))))))
   ·refine L.nil (?_)
    obtain rfl:i=c.fs.length:=by simp only at hlt;omega
    have hlD:lC c r c.fs.length=lD c r 0:=by simp [lC,lD]
    rw [hlD] at hO58
    have hr58:Units lo w58 r.uv r.us:=hr.ext (he1.trans he158)
    refine T.seq (T.cf (T.exit rfl (T.seq (T.q (L.o (O.fieldAddr runUnderlying48 rfl sizeOf25 rfl (L.o (O.fieldAddr runUnderlying25 rfl sizeOf23 rfl (L.o (O.load isAgg23 rfl ((Blk.ext (cs:=landC c r) hl1 he158).cell rfl) (L.o (O.len runUnderlying23 rfl (Sl.val hr58.sl) (L.m rfl (L.nil (T.block (?_))))))))))))))))
    refine T.loop (σ:=Nat × Value) (fun g=>[(1,.pointer (some ⟨b1,0,none⟩)),(5,g.2),(85,r.uv),(86,.int .i64 r.us.length),(87,.int .i64 g.1)]) (fun g W=>g.1≤r.us.length∧Ext w1 W∧Ext w32 W∧OwnSt w32.heap.size (lD c r g.1) g.2 W) (fun g=>r.us.length-g.1) ((0,lv2)) ⟨rfl,rfl,rfl,rfl,rfl,trivial⟩ ⟨Nat.zero_le _,he158,he3258,hO58⟩ ?_
    rintro ⟨i,lv4⟩ w88 ⟨hi3,he188,he3288,hO88⟩
    simp only at hi3 hO88
    have hr88:Units lo w88 r.uv r.us:=hr.ext (he1.trans he188)
    have hqd:=Sl.le hr88.sl
    have he132:=((he2.trans he30).trans he31).trans he32
    refine T.q (L.o (O.lss_s rfl rfl (fun hlt=>?_) (fun hlt=>?_)))
    ·refine L.nil (?_)
     have hlt':i<r.us.length:=by simp only at hlt;omega
     have hum:r.us.getD i u0∈r.us:=by rw [getD_get hlt'];exact List.getElem_mem hlt'
     have huo:=hr88.at hlt'
     obtain ⟨hu1,hu2,hu3⟩:=hS.unit _ hum
     refine T.seq (T.ct (T.skip (T.seq (T.block (T.q (L.o (O.indexAddr runUnderlying23 sizeOf51 rfl rfl hr88.sl (by omega) (by omega) (L.o (O.loadAgg isAgg51 sizeOf51 rfl rfl (hr88.row hlt') (L.o (O.alloc zeroValue51 (fun b13 w13 hb13 hz13 he13 hB13=>?_))))))))))))
     refine L.o (O.storeAgg sizeOf51 rfl rfl rfl hB13 (Nat.le_refl _) huo.one (fun w14 hu14 hB14=>?_))
     have hU14:Blk w14 b13 (r.us.getD i u0).cells 51:=hB14
     have he8814:Ext w88 w14:=he13.upd hu14 (.inr (by omega))
     refine L.nil (T.q (L.o (O.fieldAddr runUnderlying51 rfl sizeOf9 rfl (L.o (O.load isAgg9 rfl (hU14.cell rfl) (L.o (O.add_str rfl rfl (by show 5+(r.us.getD i u0).nm.length≤_;omega) (L.o (O.fieldAddr runUnderlying51 rfl sizeOf3 rfl (L.o (O.load isAgg3 rfl (hU14.cell rfl) (L.o (O.buildSlice (el:=3) (parts:=[(0,.tmp 95)]) (vs:=[(0,_)]) (cs:=[.int .i64 (r.us.getD i u0).pp]) rfl (fun w=>by kernel_rfl) (fun b96 w96 hb96 hz96 he96 hB96=>?_))))))))))))))
     have hU96:=Blk.ext (cs:=(r.us.getD i u0).cells) hU14 he96
     obtain ⟨o1,c1,hg1,_,_⟩:=Sl.val huo.g
     obtain ⟨o2,c2,hg2,_,_⟩:=Sl.val huo.v
     obtain ⟨o3,c3,hg3,_,_⟩:=Sl.val huo.p
     refine L.o (O.fieldAddr runUnderlying51 rfl sizeOf30 rfl (L.o (O.load isAgg30 rfl (show w96.cell? ⟨b13,2,none⟩=some (.slice o1 (r.us.getD i u0).gs.length c1) from by rw [← hg1];exact hU96.cell rfl) (L.o (O.fieldAddr runUnderlying51 rfl sizeOf30 rfl (L.o (O.load isAgg30 rfl (show w96.cell? ⟨b13,3,none⟩=some (.slice o2 (r.us.getD i u0).vs.length c2) from by rw [← hg2];exact hU96.cell rfl) (L.o (O.fieldAddr runUnderlying51 rfl sizeOf30 rfl (L.o (O.load isAgg30 rfl (show w96.cell? ⟨b13,4,none⟩=some (.slice o3 (r.us.getD i u0).ps.length c3) from by rw [← hg3];exact hU96.cell rfl) (L.o (O.buildSlice (el:=30) (parts:=[(0,.tmp 96),(1,.tmp 98),(2,.tmp 100),(3,.tmp 102)]) (vs:=[(0,_),(1,_),(2,_),(3,_)]) (cs:=[.slice (some ⟨b96,0,none⟩) 1 1,.slice o1 (r.us.getD i u0).gs.length c1,.slice o2 (r.us.getD i u0).vs.length c2,.slice o3 (r.us.getD i u0).ps.length c3]) rfl (fun w=>by kernel_rfl) (fun b103 w103 hb103 hz103 he103 hB103=>?_))))))))))))))
     have he14103:=he96.trans he103
     have he88103:=he8814.trans he14103
     have huo103:=(hr88.ext he88103).at hlt'
     have hI96:Ints .i64 0 w103 (.slice (some ⟨b96,0,none⟩) 1 1) [(r.us.getD i u0).pp]:=Ints.of_blk (Blk.ext (cs:=[.int .i64 (r.us.getD i u0).pp]) hB96 he103) rfl (by decide) (Nat.zero_le _)
     refine L.o (O.call (xs:=[.tmp 93,.tmp 103]) call65 rfl rfl (spelt_calls (kUnit++(r.us.getD i u0).nm) 0 0 _ [.slice (some ⟨b96,0,none⟩) 1 1,.slice o1 (r.us.getD i u0).gs.length c1,.slice o2 (r.us.getD i u0).vs.length c2,.slice o3 (r.us.getD i u0).ps.length c3] ([[(r.us.getD i u0).pp],(r.us.getD i u0).gs,(r.us.getD i u0).vs,(r.us.getD i u0).ps].map fun l ↦ l.map (Value.int .i64)) (numsU (r.us.getD i u0)) w103 (Sl.of_blk (n:=4) (sz:=1) hB103 rfl (Nat.le_refl 4) (by decide) (Nat.zero_le _)) (lol_four hI96 (hg1▸huo103.g.mono (Nat.zero_le _)) (hg2▸huo103.v.mono (Nat.zero_le _)) (hg3▸huo103.p.mono (Nat.zero_le _))) (by simp [numsU]) (by simp [numsU]) (by omega) hu1 (hL.ext ((he1.trans he188).trans he88103)) (by rw [List.length_append];show 5+_≤_;omega)) (fun v104 w104 hq=>?_))
     obtain ⟨rfl,he104⟩:=hq
     have hU104:=Blk.ext (cs:=(r.us.getD i u0).cells) hU96 (he103.trans he104)
     refine L.a rfl (L.nil (T.seq (T.q (L.o (O.fieldAddr runUnderlying51 rfl sizeOf4 rfl (L.o (O.load isAgg4 rfl (hU104.cell rfl) (?_))))))))
     have he88104:=he88103.trans he104
     refine L.nil (?_)
     refine T.join (σ:=Unit) (fun _=>[(1,.pointer (some ⟨b1,0,none⟩)),(5,lv4),(14,str (unitL (r.us.getD i u0))),(85,r.uv),(86,.int .i64 r.us.length),(87,.int .i64 i)]) (fun _ w'=>w'=w104) ?_ ?_
     ·rcases hwt:(r.us.getD i u0).wt with _|_
      ·refine T.cf (T.skip (T.meet (()) ⟨rfl,rfl,?_,rfl,rfl,rfl,trivial⟩ rfl))
       ·exact congrArg (fun z=>some (str z)) (by rw [unitL,hwt];simp)
      ·refine T.ct (T.region (L.m rfl (L.o (O.add_str rfl rfl (by have:=spell_len _ hu1;rw [List.length_append,List.length_append];show 5+_+_+6≤_;omega) (L.a rfl (L.nil (T.meet (()) ⟨rfl,rfl,?_,rfl,rfl,rfl,trivial⟩ rfl)))))))
       ·exact congrArg (fun z=>some (str z)) (by rw [unitL,hwt];simp [kWater])
     rintro _ w105 rfl
     refine T.region (L.m rfl (L.m rfl (L.o (O.buildSlice (el:=9) (parts:=[(0,.tmp 110)]) (vs:=[(0,_)]) (cs:=([unitL (r.us.getD i u0)].map str)) rfl (fun w=>by kernel_rfl) (fun b111 w111 hb111 hz111 he111 hB111=>?_)))))
     have he88111:=he88104.trans he111
     have hle3:=lD_le hS (i:=i)
     refine L.o (O.append (size:=1) (bytes:=16) runUnderlying61 Tryz.infoOf9 rfl rfl rfl rfl (by decide) rfl rfl (owns_keep hO88 (he88111.mono (Nat.zero_le _)) (Nat.le_refl _)) (Strs.of_blk (lo:=0) hB111 rfl (by decide) (Nat.zero_le _)) (strs_one _) (by simp only [List.length_cons,List.length_nil,maxLen];omega) (by simp only [maxLen,List.length_cons,List.length_nil];omega) (by have:=he3288.size;have:=he88111.size;omega) (fun v112 w112 hO112 hG112=>?_))
     have he32112:Ext w32 w112:=Keep.grown0 (he3288.trans he88111) (owns_keep hO88 (he88111.mono (Nat.zero_le _)) (Nat.le_refl _)) hG112 (Nat.le_refl _)
     refine L.a rfl (L.nil (T.blk (T.region (L.o (O.add64 rfl rfl (by (try dsimp only);omega) (L.m rfl (L.nil (T.again ((i+1,v112)) (show r.us.length-(i+1)<r.us.length-i by omega) ⟨rfl,rfl,rfl,rfl,rfl,trivial⟩ ⟨hlt',he132.trans he32112,he32112,by rw [lD_succ hlt'];exact str1_app hO112⟩))))))))
    ·refine L.nil (?_)
     obtain rfl:i=r.us.length:=by simp only at hlt;omega
     have hlE:lD c r r.us.length ++ [kEnd]=textL c r:=by simp [lD,textL]
     refine T.seq (T.cf (T.exit rfl (T.q (L.m rfl (L.o (O.buildSlice (el:=9) (parts:=[(0,_)]) (vs:=[(0,_)]) (cs:=([kEnd].map str)) rfl (fun w=>by kernel_rfl) (fun b115 w115 hb115 hz115 he115 hB115=>?_)))))))
     have hle3:=lD_le hS (i:=r.us.length)
     refine L.o (O.append (size:=1) (bytes:=16) runUnderlying61 Tryz.infoOf9 rfl rfl rfl rfl (by decide) rfl rfl (owns_keep hO88 (he115.mono (Nat.zero_le _)) (Nat.le_refl _)) (Strs.of_blk (lo:=0) hB115 rfl (by decide) (Nat.zero_le _)) (strs_one _) (by simp only [List.length_cons,List.length_nil,maxLen];omega) (by simp only [maxLen,List.length_cons,List.length_nil];omega) (by have:=he3288.size;have:=he115.size;omega) (fun v116 w116 hO116 hG116=>?_))
     have he32116:Ext w32 w116:=Keep.grown0 (he3288.trans he115) (owns_keep hO88 (he115.mono (Nat.zero_le _)) (Nat.le_refl _)) hG116 (Nat.le_refl _)
     have hO116':=str1_app hO116
     rw [hlE] at hO116'
     refine L.o (O.call (xs:=[.tmp 116]) call55 rfl rfl (joined_calls 0 v116 (textL c r) w116 ((Sl.of_owns hO116').mono (Nat.zero_le _)) hS.len) (fun v117 w117 hq=>?_))
     obtain ⟨rfl,he117⟩:=hq
     have he0117:=he1.trans (he132.trans (he32116.trans he117))
     refine L.a rfl (L.nil (T.seq (T.q (L.m rfl (L.o (O.len_str runUnderlying9 rfl (L.o (O.gtr_s rfl rfl (fun hbig=>?_) (fun hbig=>?_)))))))))
     ·refine L.nil (T.ct (T.q (L.a rfl (L.a rfl (L.nil (T.ret2 results19 rfl rfl ⟨by rw [textRes,if_neg (fun x=>x rfl),if_pos (by omega)];rfl,he0117⟩))))))
     ·refine L.nil (T.cf (T.skip (T.q (L.m rfl (L.a rfl (L.a rfl (L.nil (T.ret2 results19 rfl rfl ⟨by rw [textRes,if_neg (fun x=>x rfl),if_neg (by omega)],he0117⟩))))))))

open Go Go.E RowKit

theorem atoi_bnd {l:Str} {v:Int} (h:Lib.atoiAll l = .ok v) : -9223372036854775808≤v∧v≤9223372036854775807:=by
 unfold Lib.atoiAll at h
 split at h
 ·cases h
 ·simp only at h
  split at h
  ·cases h
  ·cases h
  ·split at h
   ·cases h
   ·split at h
    ·cases h
    ·cases h
     split <;> omega
/-- What a word gives: a number, or an error beside a number. -/
theorem atoi_calls (s:Str) (w:World) (hL:LibM w) (hs:s.length≤100000):Calls Tryz.prog 161 #[str s] w (Ret fun v w'=>((∃ n,Lib.atoiAll s = .ok n∧v = .tuple #[.int .i64 n,.nilIface])∨((∀ n,Lib.atoiAll s ≠ .ok n)∧∃ m t p,v = .tuple #[.int .i64 m,.iface t p]))∧Ext w w'):=by
 have hsz:(⟨s.toArray⟩:ByteArray).size=s.length:=by simp [ByteArray.size]
 rcases h:Lib.atoiAll s with n|_|_
 ·refine (Tryz.strconv_Atoi_ok ⟨s.toArray⟩ (by omega) n h w).mono ?_
  rintro e w' ⟨rfl,hw⟩
  refine ⟨.inl ⟨n,rfl,rfl⟩,?_⟩
  rcases hw with rfl|⟨t,rfl⟩
  ·exact Keep.refl _ _
  ·exact Ext.of_below (Lib.bytesWorld_below _ _ _)
 ·obtain ⟨tp,p,hv⟩:=hL.es
  refine (Tryz.strconv_Atoi_other_var ⟨s.toArray⟩ (by omega) (fun n e=>by cases h.symm.trans e) (fun e=>by cases h.symm.trans e) tp p w hv).mono ?_
  rintro e w' ⟨N,rfl,_,_,hb⟩
  exact ⟨.inr ⟨fun n h=>(by cases h),_,_,_,rfl⟩,Ext.of_below hb⟩
 ·obtain ⟨tp,p,hv⟩:=hL.er
  refine (Tryz.strconv_Atoi_range_var ⟨s.toArray⟩ (by omega) h tp p w hv).mono ?_
  rintro e w' ⟨N,rfl,_,_,hb⟩
  exact ⟨.inr ⟨fun n h=>(by cases h),_,_,_,rfl⟩,Ext.of_below hb⟩
/-- A number as it is written. -/
def numOk (s:Str):Option Int:=match Lib.atoiAll s with
 | .ok n=>if Lib.itoa n=s ∧ -1000000000≤n∧n≤1000000000 then some n else none
 | _=>none
theorem numOk_ok {s:Str} {n:Int} (h:Lib.atoiAll s = .ok n):numOk s=if Lib.itoa n=s ∧ -1000000000≤n∧n≤1000000000 then some n else none:=by unfold numOk;rw [h]
theorem numOk_some {s:Str} {n:Int} (h:numOk s=some n):Lib.atoiAll s = .ok n∧Lib.itoa n=s ∧ -1000000000≤n∧n≤1000000000:=by
 unfold numOk at h
 split at h
 ·split at h
  ·cases h;rename_i hn hc;exact ⟨hn,hc⟩
  ·cases h
 ·cases h
theorem number1_yes (s:Str) (n:Int) (w:World) (hL:LibM w) (hs:s.length≤100000) (hn:numOk s=some n) :
  Calls Tryz.prog 160 #[str s] w (Ret fun v w'=>v = .int .i64 n∧Ext w w'):=by
 obtain ⟨h1,h2,h3,h4⟩:=numOk_some hn
 refine T.enter (vs:=[str s]) func160 rfl ntmps160 rfl ?_
 refine T.q (L.a rfl (L.nil (T.q (L.m rfl (L.o (O.call (xs:=[.tmp 6]) call161 rfl rfl (atoi_calls s w hL hs) (fun v1 w1 hq=>?_)))))))
 obtain ⟨hv1,he1⟩:=hq
 have hv1':v1 = .tuple #[.int .i64 n,.nilIface]:=by
  rcases hv1 with ⟨m,hm,hv⟩|⟨hm,_⟩
  ·rw [h1] at hm;cases hm;exact hv
  ·exact absurd h1 (hm n)
 subst hv1'
 refine L.m rfl (L.o (O.extract rfl rfl (L.o (O.extract rfl rfl (L.a rfl (L.a rfl (L.nil (T.q (L.m rfl (L.o (O.eql_iface_yes (by kernel_rfl) rfl (L.m rfl (L.m rfl (L.o (O.call (xs:=[.tmp 13]) call54 rfl rfl (itoa_calls n w1 (hL.ext he1) (by omega) (by omega)) (fun v2 w2 hq=>?_))))))))))))))))
 obtain ⟨rfl,he2⟩:=hq
 refine L.m rfl (L.o (O.eql_str_t runUnderlying9 rfl rfl h2 (L.o (O.pick_true rfl rfl (L.m rfl (L.m rfl (L.o (O.geq_t rfl rfl h3 (L.o (O.pick_true rfl rfl (L.m rfl (L.m rfl (L.o (O.leq_t rfl rfl h4 (L.o (O.pick_true rfl rfl (L.o (O.call (xs:=[.tmp 25]) call108 rfl rfl (need_yes w2) (fun v3 w3 hq=>?_)))))))))))))))))))
 obtain rfl:=hq
 refine L.nil (T.q (L.m rfl (L.a rfl (L.nil (T.ret1 results160 rfl ⟨rfl,he1.trans he2⟩)))))

theorem number1_no (s:Str) (w:World) (hL:LibM w) (hs:s.length≤100000) (hn:numOk s=none) :
  Calls Tryz.prog 160 #[str s] w (Pan (wrongV) fun w'=>Ext w w'):=by
 refine T.enterP (vs:=[str s]) func160 rfl ntmps160 rfl ?_
 refine T.q (L.a rfl (L.nil (T.q (L.m rfl (L.o (O.call (xs:=[.tmp 6]) call161 rfl rfl (atoi_calls s w hL hs) (fun v1 w1 hq=>?_)))))))
 obtain ⟨hv1,he1⟩:=hq
 rcases hv1 with ⟨n,hm,rfl⟩|⟨hm,m,t,p,rfl⟩
 ·rw [numOk_ok hm] at hn
  have hb:=atoi_bnd hm
  refine L.m rfl (L.o (O.extract rfl rfl (L.o (O.extract rfl rfl (L.a rfl (L.a rfl (L.nil (T.q (L.m rfl (L.o (O.eql_iface_yes (by kernel_rfl) rfl (L.m rfl (L.m rfl (L.o (O.call (xs:=[.tmp 13]) call54 rfl rfl (itoa_calls n w1 (hL.ext he1) (by omega) (by omega)) (fun v2 w2 hq=>?_))))))))))))))))
  obtain ⟨rfl,he2⟩:=hq
  rcases Classical.em (Lib.itoa n=s) with h1|h1
  ·refine L.m rfl (L.o (O.eql_str_t runUnderlying9 rfl rfl h1 (?_)))
   rcases Classical.em (-1000000000≤n) with h2|h2
   ·have h3:¬ n≤1000000000:=fun h=>by rw [if_pos ⟨h1,h2,h⟩] at hn;cases hn
    refine L.o (O.pick_true rfl rfl (L.m rfl (L.m rfl (L.o (O.geq_t rfl rfl h2 (L.o (O.pick_true rfl rfl (L.m rfl (L.m rfl (L.o (O.leq_f rfl rfl h3 (L.o (O.pick_true rfl rfl (L.callPan (xs:=[.tmp 25]) rfl call108 rfl rfl (need_no w2) (fun w' a hR ha=>⟨ha.defers,rfl,by rw [hR];exact he1.trans he2⟩)))))))))))))))
   ·refine L.o (O.pick_true rfl rfl (L.m rfl (L.m rfl (L.o (O.geq_f rfl rfl h2 (L.o (O.pick_true rfl rfl (L.m rfl (L.p (L.p (L.o (O.pick_false rfl rfl (L.callPan (xs:=[.tmp 25]) rfl call108 rfl rfl (need_no w2) (fun w' a hR ha=>⟨ha.defers,rfl,by rw [hR];exact he1.trans he2⟩))))))))))))))
  ·refine L.m rfl (L.o (O.eql_str_f runUnderlying9 rfl rfl h1 (L.o (O.pick_true rfl rfl (L.m rfl (L.p (L.p (L.o (O.pick_false rfl rfl (L.m rfl (L.p (L.p (L.o (O.pick_false rfl rfl (L.callPan (xs:=[.tmp 25]) rfl call108 rfl rfl (need_no w2) (fun w' a hR ha=>⟨ha.defers,rfl,by rw [hR];exact he1.trans he2⟩))))))))))))))))
 ·refine L.m rfl (L.o (O.extract rfl rfl (L.o (O.extract rfl rfl (L.a rfl (L.a rfl (L.nil (T.q (L.m rfl (L.o (O.eql_iface_no (by kernel_rfl) rfl rfl (L.m rfl (L.p (L.p (L.p (L.p (L.o (O.pick_false rfl rfl (L.m rfl (L.p (L.p (L.o (O.pick_false rfl rfl (L.m rfl (L.p (L.p (L.o (O.pick_false rfl rfl (?_)))))))))))))))))))))))))))))
  refine L.callPan (xs:=[.tmp 25]) rfl call108 rfl rfl (need_no w1) (fun w' a hR ha=>⟨ha.defers,rfl,by rw [hR];exact he1⟩)

open Go Go.E RowKit

def numsP:List Str→Option (List Int)
 | []=>some []
 | s::r=>match numOk s,numsP r with
  | some n,some ns=>some (n::ns)
  | _,_=>none
theorem numsP_some:∀ (ws:List Str) (xs:List Int),numsP ws=some xs→ws.length=xs.length∧∀ i,i<ws.length→numOk (ws.getD i [])=some (xs.getD i 0)
 | [],xs,h=>by cases h;exact ⟨rfl,fun i hi=>absurd hi (Nat.not_lt_zero _)⟩
 | s::r,xs,h=>by
  rw [numsP] at h
  cases hs:numOk s with
  | none=>rw [hs] at h;cases h
  | some n =>
   cases hr:numsP r with
   | none=>rw [hs,hr] at h;cases h
   | some ns =>
    rw [hs,hr] at h
    cases h
    obtain ⟨h1,h2⟩:=numsP_some r ns hr
    refine ⟨by simp [h1],fun i hi=>?_⟩
    cases i with
    | zero=>exact hs
    | succ i=>exact h2 i (by simpa using hi)
theorem numsP_none:∀ (ws:List Str),numsP ws=none→∃ m,m<ws.length∧numOk (ws.getD m [])=none∧∃ xs:List Int,xs.length=m∧∀ i,i<m→numOk (ws.getD i [])=some (xs.getD i 0)
 | [],h=>by cases h
 | s::r,h=>by
  cases hs:numOk s with
  | none=>exact ⟨0,by simp,hs,[],rfl,fun i hi=>absurd hi (Nat.not_lt_zero _)⟩
  | some n =>
   have hr:numsP r=none:=by
    cases hr:numsP r with
    | none=>rfl
    | some ns=>rw [numsP,hs,hr] at h;cases h
   obtain ⟨m,h1,h2,xs,h3,h4⟩:=numsP_none r hr
   refine ⟨m+1,by simpa using h1,h2,n::xs,by simp [h3],fun i hi=>?_⟩
   cases i with
   | zero=>exact hs
   | succ i=>exact h4 i (by omega)
theorem owns_one {base:Nat} {xs:List Int} {n:Int} {v:Value} {w:World} (h:w.ownsRow base 3 1 v (xs.length+1) (xs.map (Value.int .i64) ++ [.int .i64 n])):w.ownsRow base 3 1 v (xs ++ [n]).length ((xs ++ [n]).map (Value.int .i64)):=by
 rw [List.length_append,List.map_append];exact h
theorem mapped_yes (lo:Nat) (p:Value) (ws:List Str) (xs:List Int) (w:World) (hp:Strs lo w p ws) (hL:LibM w) (hs:∀ s∈ws,s.length≤100000) (hn:numsP ws=some xs) (hlen:ws.length≤1000000) :
  Calls Tryz.prog 159 #[p,.func (.func 160) #[] #[]] w (Ret fun v w'=>w'.ownsRow w.heap.size 3 1 v xs.length (xs.map (Value.int .i64))∧Ext w w'):=by
 obtain ⟨hl,hat⟩:=numsP_some ws xs hn
 refine T.enter (vs:=[p,.func (.func 160) #[] #[]]) func159 rfl ntmps159 rfl ?_
 refine T.q (L.a rfl (L.nil (T.q (L.a rfl (L.nil (T.seq (T.q (L.m rfl (L.o (O.len runUnderlying61 rfl (Sl.val hp) (L.m rfl (L.nil (T.block (?_))))))))))))))
 refine T.loop (σ:=Nat × Value) (fun g=>[(1,.func (.func 160) #[] #[]),(5,g.2),(8,p),(9,.int .i64 ws.length),(10,.int .i64 g.1)]) (fun g W=>g.1≤ws.length∧Ext w W∧W.ownsRow w.heap.size 3 1 g.2 (xs.take g.1).length ((xs.take g.1).map (Value.int .i64))) (fun g=>ws.length-g.1) ((0,.slice none 0 0)) ⟨rfl,rfl,rfl,rfl,rfl,trivial⟩ ⟨Nat.zero_le _,Keep.refl _ _,owns_nil _ _ _ _⟩ ?_
 rintro ⟨i,lv⟩ w1 ⟨hi,he1,hO1⟩
 simp only at hi hO1
 refine T.q (L.o (O.lss_s rfl rfl (fun hlt=>?_) (fun hlt=>?_)))
 ·refine L.nil (?_)
  have hlt':i<ws.length:=by simp only at hlt;omega
  have hsm:(ws.getD i []).length≤100000:=hs _ (by rw [getD_get hlt'];exact List.getElem_mem hlt')
  have htk:(xs.take i).length=i:=by rw [List.length_take];omega
  have hsn:xs.take (i+1)=xs.take i ++ [xs.getD i 0]:=by rw [List.take_succ_eq_append_getElem (by omega),getD_get (by omega)]
  refine T.seq (T.ct (T.skip (T.seq (T.block (T.q (L.o (O.indexAddr runUnderlying61 sizeOf9 rfl rfl (hp.ext he1) (by omega) (by omega) (L.o (O.load isAgg9 rfl ((hp.ext he1).at hlt') (L.a rfl (L.nil (T.region (L.m rfl (L.m rfl (L.m rfl (L.o (O.call (xs:=[.tmp 16]) call160 rfl rfl (number1_yes (ws.getD i []) (xs.getD i 0) w1 (hL.ext he1) hsm (hat i hlt')) (fun v2 w2 hq=>?_))))))))))))))))))
  obtain ⟨rfl,he2⟩:=hq
  refine L.o (O.buildSlice (el:=3) (parts:=[(0,.tmp 17)]) (vs:=[(0,_)]) (cs:=[.int .i64 (xs.getD i 0)]) rfl (fun w=>by kernel_rfl) (fun b18 w18 hb18 hz18 he18 hB18=>?_))
  have he118:=he2.trans he18
  refine L.o (O.append (size:=1) (bytes:=8) runUnderlying30 Tryz.infoOf3 rfl rfl rfl rfl (by decide) rfl rfl (owns_keep hO1 (he118.mono (Nat.zero_le _)) (Nat.le_refl _)) (Sl.of_blk (lo:=0) (n:=1) (sz:=1) hB18 rfl (Nat.le_refl 1) (by decide) (Nat.zero_le _)) (by intro u hu;simp at hu;subst hu;rfl) (by omega) (by simp only [maxLen];omega) (by have:=he1.size;have:=he118.size;omega) (fun v19 w19 hO19 hG19=>?_))
  have he19:Ext w w19:=Keep.grown0 (he1.trans he118) (owns_keep hO1 (he118.mono (Nat.zero_le _)) (Nat.le_refl _)) hG19 (Nat.le_refl _)
  refine L.a rfl (L.nil (T.blk (T.region (L.o (O.add64 rfl rfl (by (try dsimp only);omega) (L.m rfl (L.nil (T.again ((i+1,v19)) (show ws.length-(i+1)<ws.length-i by omega) ⟨rfl,rfl,rfl,rfl,rfl,trivial⟩ ⟨hlt',he19,by rw [hsn];exact owns_one hO19⟩))))))))
 ·refine L.nil (?_)
  obtain rfl:i=ws.length:=by simp only at hlt;omega
  rw [List.take_of_length_le (by omega)] at hO1
  refine T.seq (T.cf (T.exit rfl (T.q (L.m rfl (L.a rfl (L.nil (T.ret1 results159 rfl ⟨hO1,he1⟩)))))))

theorem mapped_no (lo:Nat) (p:Value) (ws:List Str) (w:World) (hp:Strs lo w p ws) (hL:LibM w) (hs:∀ s∈ws,s.length≤100000) (hn:numsP ws=none) (hlen:ws.length≤1000000) :
  Calls Tryz.prog 159 #[p,.func (.func 160) #[] #[]] w (Pan (wrongV) fun w'=>Ext w w'):=by
 obtain ⟨m,hm,hbad,xs,hl,hat⟩:=numsP_none ws hn
 refine T.enterP (vs:=[p,.func (.func 160) #[] #[]]) func159 rfl ntmps159 rfl ?_
 refine T.q (L.a rfl (L.nil (T.q (L.a rfl (L.nil (T.seq (T.q (L.m rfl (L.o (O.len runUnderlying61 rfl (Sl.val hp) (L.m rfl (L.nil (T.block (?_))))))))))))))
 refine T.loop (σ:=Nat × Value) (fun g=>[(1,.func (.func 160) #[] #[]),(5,g.2),(8,p),(9,.int .i64 ws.length),(10,.int .i64 g.1)]) (fun g W=>g.1≤m∧Ext w W∧W.ownsRow w.heap.size 3 1 g.2 (xs.take g.1).length ((xs.take g.1).map (Value.int .i64))) (fun g=>ws.length-g.1) ((0,.slice none 0 0)) ⟨rfl,rfl,rfl,rfl,rfl,trivial⟩ ⟨Nat.zero_le _,Keep.refl _ _,owns_nil _ _ _ _⟩ ?_
 rintro ⟨i,lv⟩ w1 ⟨hi,he1,hO1⟩
 simp only at hi hO1
 have hlt':i<ws.length:=by omega
 have hsm:(ws.getD i []).length≤100000:=hs _ (by rw [getD_get hlt'];exact List.getElem_mem hlt')
 refine T.q (L.o (O.lss_t rfl rfl (by (try dsimp only);omega) (L.nil (T.seq (T.ct (T.skip (T.seq (T.block (T.q (L.o (O.indexAddr runUnderlying61 sizeOf9 rfl rfl (hp.ext he1) (by omega) (by omega) (L.o (O.load isAgg9 rfl ((hp.ext he1).at hlt') (?_))))))))))))))
 rcases Nat.lt_or_ge i m with him|him
 ·have htk:(xs.take i).length=i:=by rw [List.length_take];omega
  have hsn:xs.take (i+1)=xs.take i ++ [xs.getD i 0]:=by rw [List.take_succ_eq_append_getElem (by omega),getD_get (by omega)]
  refine L.a rfl (L.nil (T.region (L.m rfl (L.m rfl (L.m rfl (L.o (O.call (xs:=[.tmp 16]) call160 rfl rfl (number1_yes (ws.getD i []) (xs.getD i 0) w1 (hL.ext he1) hsm (hat i him)) (fun v2 w2 hq=>?_))))))))
  obtain ⟨rfl,he2⟩:=hq
  refine L.o (O.buildSlice (el:=3) (parts:=[(0,.tmp 17)]) (vs:=[(0,_)]) (cs:=[.int .i64 (xs.getD i 0)]) rfl (fun w=>by kernel_rfl) (fun b18 w18 hb18 hz18 he18 hB18=>?_))
  have he118:=he2.trans he18
  refine L.o (O.append (size:=1) (bytes:=8) runUnderlying30 Tryz.infoOf3 rfl rfl rfl rfl (by decide) rfl rfl (owns_keep hO1 (he118.mono (Nat.zero_le _)) (Nat.le_refl _)) (Sl.of_blk (lo:=0) (n:=1) (sz:=1) hB18 rfl (Nat.le_refl 1) (by decide) (Nat.zero_le _)) (by intro u hu;simp at hu;subst hu;rfl) (by omega) (by simp only [maxLen];omega) (by have:=he1.size;have:=he118.size;omega) (fun v19 w19 hO19 hG19=>?_))
  have he19:Ext w w19:=Keep.grown0 (he1.trans he118) (owns_keep hO1 (he118.mono (Nat.zero_le _)) (Nat.le_refl _)) hG19 (Nat.le_refl _)
  refine L.a rfl (L.nil (T.blk (T.region (L.o (O.add64 rfl rfl (by (try dsimp only);omega) (L.m rfl (L.nil (T.again ((i+1,v19)) (show ws.length-(i+1)<ws.length-i by omega) ⟨rfl,rfl,rfl,rfl,rfl,trivial⟩ ⟨him,he19,by rw [hsn];exact owns_one hO19⟩))))))))
 ·obtain rfl:i=m:=by omega
  refine L.a rfl (L.nil (T.region (L.m rfl (L.m rfl (L.m rfl (L.callPan (xs:=[.tmp 16]) rfl call160 rfl rfl (number1_no (ws.getD i []) w1 (hL.ext he1) hsm hbad) (fun w' a hR ha=>⟨ha.defers,rfl,he1.trans hR⟩)))))))

theorem numbers_yes (lo:Nat) (p:Value) (ws:List Str) (xs:List Int) (w:World) (hp:Strs lo w p ws) (hL:LibM w) (hs:∀ s∈ws,s.length≤100000) (hn:numsP ws=some xs) (hlen:ws.length≤1000000) :
  Calls Tryz.prog 122 #[p] w (Ret fun v w'=>w'.ownsRow w.heap.size 3 1 v xs.length (xs.map (Value.int .i64))∧Ext w w'):=by
 refine T.enter (vs:=[p]) func122 rfl ntmps122 rfl ?_
 refine T.q (L.a rfl (L.nil (T.q (L.m rfl (L.o (O.call (xs:=[.tmp 3,.func 160]) call159 rfl rfl (mapped_yes lo p ws xs w hp hL hs hn hlen) (fun v1 w1 hq=>?_)))))))
 obtain ⟨hO,he⟩:=hq
 refine L.a rfl (L.nil (T.ret1 results122 rfl ⟨hO,he⟩))

theorem numbers_no (lo:Nat) (p:Value) (ws:List Str) (w:World) (hp:Strs lo w p ws) (hL:LibM w) (hs:∀ s∈ws,s.length≤100000) (hn:numsP ws=none) (hlen:ws.length≤1000000) :
  Calls Tryz.prog 122 #[p] w (Pan (wrongV) fun w'=>Ext w w'):=by
 refine T.enterP (vs:=[p]) func122 rfl ntmps122 rfl ?_
 refine T.q (L.a rfl (L.nil (T.q (L.m rfl (L.callPan (xs:=[.tmp 3,.func 160]) rfl call159 rfl rfl (mapped_no lo p ws w hp hL hs hn hlen) (fun w' a hR ha=>⟨ha.defers,rfl,hR⟩))))))

open Go Go.E RowKit

/-- The words of a line. -/
def fieldsB (s:Str):List Str:=(Lib.goFieldsP (fun r=>decide (r=32)) ⟨s.toArray⟩).map fun x=>x.data.toList
theorem blank_calls (x:Nat) (w:World) :
  Calls Tryz.prog 121 #[.int .i32 x] w (Ret fun v w'=>v = .bool (decide (x=32))∧w'=w):=by
 refine T.enter (vs:=[.int .i32 x]) func121 rfl ntmps121 rfl ?_
 refine T.q (L.a rfl (L.nil (T.q (L.m rfl (L.o (O.eql rfl rfl (L.a rfl (L.nil (T.ret1 results121 rfl ⟨congrArg Value.bool (decide_eq_decide.2 (by omega)),rfl⟩)))))))))

theorem fields_calls (s:Str) (w:World) (hs:s.length≤100000):Calls Tryz.prog 120 #[str s,.func (.func 121) #[] #[]] w (Ret fun v w'=>∃ A,v = .slice (some ⟨A,0,none⟩) (fieldsB s).length (fieldsB s).length∧Strs w.heap.size w' v (fieldsB s)∧Ext w w'):=by
 refine (Tryz.strings_FieldsFunc_grows 121 #[] call121 (fun r=>decide (r=32)) ⟨s.toArray⟩ w (by simp [ByteArray.size];omega) (fun W x _ _=>(blank_calls x W).mono ?_)).mono ?_
 ·rintro (v|_|_) w' h
  ·obtain ⟨h1,h2⟩:=h
   subst h1;subst h2
   exact ⟨rfl,Below.refl _ _⟩
  ·exact h.elim
  ·exact h.elim
 ·rintro e w' ⟨A,rfl,hA,hO,hb⟩
  have hlen:(Lib.goFieldsP (fun r=>decide (r=32)) ⟨s.toArray⟩).length=(fieldsB s).length:=by simp [fieldsB]
  have hmap:(Lib.goFieldsP (fun r=>decide (r=32)) ⟨s.toArray⟩).map Value.string=(fieldsB s).map str:=by
   simp only [fieldsB,List.map_map]
   rfl
  rw [hlen,hmap] at hO
  exact ⟨A,by rw [hlen],by rw [hlen];exact Sl.of_owns hO,Ext.of_below hb⟩
theorem idxStr_calls (lo:Nat) (p:Value) (xs:List Str) (s:Str) (w:World) (hp:Strs lo w p xs) :
  Calls Tryz.prog 162 #[p,str s] w (Ret fun v w'=>∃ n:Int,v = .int .i64 n∧(0≤n↔s∈xs)∧w'=w):=by
 have hle:=Sl.le hp
 refine T.enter (vs:=[p,str s]) func162 rfl ntmps162 rfl ?_
 refine T.q (L.a rfl (L.nil (T.seq (T.q (L.m rfl (L.o (O.len runUnderlying61 rfl (Sl.val hp) (L.m rfl (L.nil (T.block (?_)))))))))))
 refine T.loop (σ:=Nat) (fun i=>[(0,p),(1,str s),(7,.int .i64 xs.length),(8,.int .i64 i)]) (fun i w'=>i≤xs.length∧w'=w∧∀ k,k<i→xs.getD k []≠s) (fun i=>xs.length-i) (0) ⟨rfl,rfl,rfl,rfl,trivial⟩ ⟨Nat.zero_le _,rfl,fun k hk=>absurd hk (Nat.not_lt_zero _)⟩ ?_
 rintro i w1 ⟨hi,rfl,hall⟩
 refine T.q (L.o (O.lss_s rfl rfl (fun hlt=>?_) (fun hlt=>?_)))
 ·refine L.nil (?_)
  have hlt':i<xs.length:=by omega
  refine T.seq (T.ct (T.skip (T.seq (T.block (T.q (L.m rfl (L.a rfl (L.nil (T.q (L.m rfl (L.m rfl (L.m rfl (L.o (O.indexAddr runUnderlying61 sizeOf9 rfl rfl hp (by omega) (by omega) (L.o (O.load isAgg9 rfl (hp.at hlt') (L.o (O.eql_str_s runUnderlying9 rfl rfl (fun hb=>?_) (fun hb=>?_)))))))))))))))))))
  ·refine L.nil (T.ct (T.q (L.m rfl (L.a rfl (L.nil (T.ret1 results162 rfl ⟨i,rfl,⟨fun _=>by rw [hb,getD_get hlt'];exact List.getElem_mem hlt',fun _=>by omega⟩,rfl⟩))))))
  ·refine L.nil (T.cf (T.skip (T.blk (T.region (L.o (O.add64 rfl rfl (by omega) (L.m rfl (L.nil (T.again (i+1) (by omega) ⟨rfl,rfl,rfl,rfl,trivial⟩ ⟨hlt',rfl,fun k hk=>by rcases Nat.lt_or_ge k i with h|h;exact hall k h;obtain rfl:k=i:=(by omega);exact fun e=>hb e.symm⟩)))))))))
 ·refine L.nil (?_)
  obtain rfl:i=xs.length:=by omega
  refine T.seq (T.cf (T.exit rfl (T.q (L.a rfl (L.nil (T.ret1 results162 rfl ⟨-1,rfl,⟨fun h=>by omega,fun h=>?_⟩,rfl⟩))))))
  obtain ⟨k,hk,e⟩:=List.getElem_of_mem h
  have:=hall k hk
  rw [getD_get hk,e] at this
  exact absurd rfl this

theorem cntStr_calls (lo:Nat) (p:Value) (xs:List Str) (s:Str) (w:World) (hp:Strs lo w p xs) :
  Calls Tryz.prog 124 #[p,str s] w (Ret fun v w'=>v = .bool (decide (s∈xs))∧w'=w):=by
 refine T.enter (vs:=[p,str s]) func124 rfl ntmps124 rfl ?_
 refine T.q (L.a rfl (L.nil (T.q (L.m rfl (L.m rfl (L.o (O.call (xs:=[.tmp 5,.tmp 6]) call162 rfl rfl (idxStr_calls lo p xs s w hp) (fun v1 w1 hq=>?_))))))))
 obtain ⟨n,rfl,hn,rfl⟩:=hq
 refine L.o (O.geq rfl rfl (L.a rfl (L.nil (T.ret1 results124 rfl ⟨congrArg Value.bool (decide_eq_decide.2 hn),rfl⟩))))

theorem after_calls (lo:Nat) (p:Value) (xs:List Str) (b:Nat) (cs:List Value) (s:Str) (w:World) (hp:Strs lo w p xs) (hB:Blk w b cs 129) (h6:cs[6]?=some (str s)) :
  Calls Tryz.prog 68 #[.pointer (some ⟨b,0,none⟩),p] w (Ret fun v w'=>v = .bool (decide (s∈xs))∧w'=w):=by
 refine T.enter (vs:=[.pointer (some ⟨b,0,none⟩),p]) func68 rfl ntmps68 rfl ?_
 refine T.q (L.a rfl (L.nil (T.q (L.m rfl (L.m rfl (L.o (O.nilCheck rfl (L.o (O.fieldAddr runUnderlying129 rfl sizeOf9 rfl (L.o (O.load isAgg9 rfl (hB.cell h6) (L.o (O.call (xs:=[.tmp 5,.tmp 9]) call124 rfl rfl (cntStr_calls lo p xs s w hp) (fun v1 w1 hq=>?_))))))))))))))
 obtain ⟨rfl,rfl⟩:=hq
 refine L.a rfl (L.nil (T.ret1 results68 rfl ⟨rfl,rfl⟩))

end Go.Proofs.YtnlonpcbgjbbaaaGreatDoor
