/-
  BlocksParses, part 19 of its proof: that it returns true for every input, and each argument reads behind the call as it read before. Conditions: the listed variables read as the program's text lays them (tied by the card).
-/
import Derived.Test.YtnlonpcbgjbbaaaGreatDoorWBlocksParses18
set_option linter.unusedVariables false
set_option linter.unusedSimpArgs false
set_option maxRecDepth 20000
namespace Go.Proofs.YtnlonpcbgjbbaaaGreatDoor
open Go.Proofs.Tryz
open Go Go.E RowKit
attribute [local irreducible] Go.E.T Go.E.L Go.E.O Go.E.Ob
attribute [local irreducible] Go.E.ObX Go.E.ObG Go.E.ObK
variable {c:CxV} {xs:List Int} {i:Nat} {r:RoV} {v:Value} {w:World}
theorem PN (n:Nat) (w:World) (h0:0<n) (hn:n≤1000000) :
  Calls Tryz.prog 157 #[.slice none 0 0,.int .i64 n] w (Ret fun v w'=>Ext w w'∧w'.ownsRow w.heap.size 3 1 v 0 []):=by
 refine aJ (vs:=[.slice none 0 0,.int .i64 n]) func157 Z ntmps157 Z ?_
 refine au (ah Z (aj (au (aO Z (fU Z Z omX (aU (T.skip (aj (au (aN Z Z (L.o (xZ runUnderlying30 Z (L.m Z (L.le Z (Sl.val (QO 0 w 1)) (L.o (dh Z Z omX (L.o (dh Z Z omX (ah Z (?_))))))))))))))))))))
 refine au (aO Z (iM Z Z omX (aW (aA (aN Z Z (L.o (xZ runUnderlying30 Z (L.o (jr (m:=0) runUnderlying30 sizeOf3 Z Z dcX dcX (aO Z (pq (n:=n) (size:=1) (bytes:=8) runUnderlying30 runUnderlying3 Tryz.rG Z Z Z Z dcX rfl (by show some (Value.int .i64 _)=some (Value.int .i64 _);congr 2) h0 hn omX (fun cap w1 cur a d b hB1 c=>?_))))))))))))
 refine L.m Z (L.le Z (Sl.val (QO 0 w1 1)) (L.o (jr (m:=0) runUnderlying30 sizeOf3 Z Z dcX omX (ah Z (aQ Z (ah Z (aB results157 Z ⟨a,rfl,.inr ⟨_,cap,cur.toArray,rfl,Nat.le_refl _,hB1,Nat.zero_le _,b,by simpa using c,spX⟩⟩)))))))
theorem JB (lo lo2:Nat) (p:Value) (vs:List Value) (css:List (List Value)) (w:World) (g:Sl lo w p vs.length 1 vs) (hv:LoL lo2 w vs css) (h0:0<css.flatten.length) (hn:css.flatten.length≤1000000) (u:∀ c∈css.flatten,c.oneCell'=true) :
  Calls Tryz.prog 117 #[p] w (Ret fun v w'=>Ext w w'∧Sl w.heap.size w' v css.flatten.length 1 css.flatten):=by
 have x:=Sl.le g
 have f:=hv.1
 refine aJ (vs:=[p]) func117 Z ntmps117 Z ?_
 refine au (ah Z (au (ah Z (aj (aQ Z (L.le Z (Sl.val g) (L.m Z (ak (T.block (?_))))))))))
 refine bf (σ:=Nat) (fun i=>[(0,p),(3,.int .i64 (fl css i).length),(9,p),(10,.int .i64 vs.length),(11,.int .i64 i)]) (fun i w'=>i≤vs.length∧w'=w) (fun i=>vs.length-i) (0) ⟨rfl,rfl,rfl,rfl,rfl,trivial⟩ ⟨Nat.zero_le _,rfl⟩ ?_
 rintro i w1 ⟨hi,rfl⟩
 refine au (bH Z Z (fun n=>?_) (fun n=>?_))
 ·refine ak (?_)
  have a:i<css.length:=by omega
  have hs:=hv.2 i a
  have q:=Zd css (i+1)
  have b:=congrArg List.length (zD css i a)
  rw [List.length_append] at b
  refine aj (aZ (T.skip (aj (T.block (au (dG Z Z g (cZ Z (by rw [Int.toNat_natCast,Nat.mul_one];exact Sl.cell g (show vs[i]?=some (vs.getD i undef) by rw [aX omX];simp [f,a])) (ah Z (au (aN Z Z (L.le Z (Sl.val hs) (bF Z Z (ah Z (au (aO Z (fU Z Z omX (ak (?_))))))))))))))))))
  refine bn (T.skip (T.blk (aA (bF Z Z (L.m Z (ak (aP (i+1) omX ⟨rfl,?_,rfl,rfl,rfl,trivial⟩ ⟨omX,rfl⟩)))))))
  ·rw [b];rfl
 refine ak (?_)
 obtain rfl:i=vs.length:=by omega
 have h:fl css vs.length=css.flatten:=by rw [f,fl,List.take_length]
 rw [h]
 refine aj (bn (aY Z (au (aO Z (ay (xs:=[.const (.slice none 0 0),.tmp 23]) call157 Z Z (PN css.flatten.length w1 h0 hn) (fun v2 D y=>?_))))))
 obtain ⟨j,hO2⟩:=y
 refine ah Z (aj (aQ Z (L.le Z (Sl.val (Sl.ext g j)) (L.m Z (ak (T.block (?_)))))))
 refine bf (σ:=Nat × Value) (fun s=>[(6,s.2),(25,p),(26,.int .i64 vs.length),(27,.int .i64 s.1)]) (fun s w'=>s.1≤vs.length∧Ext w1 w'∧w'.ownsRow w1.heap.size 3 1 s.2 (fl css s.1).length (fl css s.1)) (fun s=>vs.length-s.1) ((0,v2)) ⟨rfl,rfl,rfl,rfl,trivial⟩ ⟨Nat.zero_le _,j,hO2⟩ ?_
 rintro ⟨k,s⟩ z ⟨A,d,hO3⟩
 simp only at A hO3
 refine au (bH Z Z (fun e=>?_) (fun e=>?_))
 ·refine ak (?_)
  have a:k<css.length:=by simp only at e;omega
  have hs:=(hv.ext d).2 k a
  have l:Sl lo z p vs.length 1 vs:=Sl.ext g d
  have q:=Zd css (k+1)
  have b:=congrArg List.length (zD css k a)
  rw [List.length_append] at b
  refine aj (aZ (T.skip (aj (T.block (au (dG Z Z l (cZ Z (by rw [Int.toNat_natCast,Nat.mul_one];exact Sl.cell l (show vs[k]?=some (vs.getD k undef) by rw [aX omX];simp [f,a])) (ah Z (aA (aN Z Z (L.o (dJ (size:=1) (bytes:=8) runUnderlying30 Tryz.rG Z Z Z Z dcX rfl rfl hO3 hs (fun c B=>u c (by rw [← List.take_append_drop k css,List.flatten_append];exact List.mem_append_right _ (List.mem_flatten.2 ⟨_,by rw [aX a];exact List.mem_drop_iff_getElem.2 ⟨0,omX,rfl⟩,B⟩))) omX (by simp only [maxLen];omega) d.size (fun v4 C hO4 r=>?_)))))))))))))
  have t:Ext w1 C:=Keep.jg d hO3 r leX
  refine ah Z (T.blk (aA (L.o (bG Z Z (by simp only;omega) (L.m Z (ak (aP ((k+1,v4)) omX ⟨rfl,rfl,rfl,rfl,trivial⟩ ⟨by simp only;omega,t,by rw [b,zD css k a];exact hO4⟩)))))))
 refine ak (?_)
 obtain rfl:k=vs.length:=by simp only at e;omega
 rw [h] at hO3
 refine aj (bn (aY Z (aQ Z (ah Z (aB results117 Z ⟨d,Sl.dD hO3⟩)))))
def spell (xs:List Int):Str:=xs.flatMap fun x=>32::Lib.itoa x
theorem G6 (hi:i<xs.length):spell (xs.take (i+1))=spell (xs.take i)++(32::Lib.itoa (xs.getD i 0)):=by
 rw [List.take_succ_eq_append_getElem hi,spell,spell,List.flatMap_append,aX hi];simp
def Ku (xs:List Int):Prop:=∀ x∈xs,-9223372036854775808≤x∧x≤9223372036854775807
theorem Ku.at (h:Ku xs) (hi:i<xs.length) : -9223372036854775808≤xs.getD i 0∧xs.getD i 0≤9223372036854775807:=by
 rw [aX hi];exact h _ (List.getElem_mem hi)
theorem iV:∀ (xs:List Int),Ku xs→(spell xs).length≤22*xs.length
 | [],_=>by simp [spell]
 | x::r,h=>by
  have a:=iV r fun y hy=>h y (List.mem_cons_of_mem _ hy)
  have hx:=h x spX
  have b:=Lib.itoa_length_le x hx.1 hx.2
  have e:spell (x::r)=(32::Lib.itoa x)++spell r:=rfl
  rw [e,List.length_append,List.length_cons,List.length_cons]
  omega
theorem Em (h:Str) (lo lo2:Nat) (p:Value) (vs:List Value) (css:List (List Value)) (xs:List Int) (w:World) (n:Sl lo w p vs.length 1 vs) (hv:LoL lo2 w vs css) (hx:css.flatten=xs.map (Value.int .i64)) (h0:0<xs.length) (hn:xs.length≤100000) (hi:Ku xs) (hL:sF w) (u:h.length≤100000) :
  Calls Tryz.prog 65 #[str h,p] w (Ret fun v w'=>v=str (h++spell xs)∧Ext w w'):=by
 have e:css.flatten.length=xs.length:=by rw [hx,List.length_map]
 refine aJ (vs:=[str h,p]) func65 Z ntmps65 Z ?_
 refine au (ah Z (aj (au (aO Z (ay (xs:=[.tmp 7]) call117 Z Z (JB lo lo2 p vs css w n hv omX omX (by rw [hx];intro c q;obtain ⟨x,_,rfl⟩:=List.mem_map.1 q;rfl)) (fun l w1 f=>?_))))))
 obtain ⟨d,hS1⟩:=f
 rw [e,hx] at hS1
 have hI1:Ints .i64 w.heap.size w1 l xs:=hS1
 refine L.le Z (Sl.val hI1) (L.m Z (ak (T.block (?_))))
 refine bf (σ:=Nat) (fun i=>[(0,str (h++spell (xs.take i))),(8,l),(9,.int .i64 xs.length),(10,.int .i64 i)]) (fun i W=>i≤xs.length∧Ext w1 W) (fun i=>xs.length-i) (0) ⟨?_,rfl,rfl,rfl,trivial⟩ ⟨Nat.zero_le _,Keep.refl _ _⟩ ?_
 ·exact congrArg (fun z=>some (str z)) (by simp [spell])
 rintro i r ⟨s,b⟩
 refine au (bH Z Z (fun g=>?_) (fun g=>?_))
 ·refine ak (?_)
  have a:i<xs.length:=by omega
  have hb:=hi.at a
  have j:=iV (xs.take i) (fun x hx=>hi x (List.mem_of_mem_take hx))
  have t:=Lib.itoa_length_le (xs.getD i 0) hb.1 hb.2
  rw [List.length_take,Nat.min_eq_left omX] at j
  refine aj (aZ (T.skip (aj (T.block (au (dG Z Z (hI1.ext b) (cZ Z (Ints.at (hI1.ext b) a) (ah Z (aA (aN Z Z (L.o (ay (xs:=[.tmp 15]) call54 Z Z (vI (xs.getD i 0) r (hL.ext (d.trans b)) hb.1 hb.2) (fun v3 y f=>?_)))))))))))))
  obtain ⟨rfl,k⟩:=f
  refine L.o (bW Z Z (by show 1+_≤_;omega) (L.o (bW Z Z (by rw [List.length_append,List.length_append];show h.length+_+(1+(Lib.itoa (xs.getD i 0)).length)≤_;omega) (ah Z (T.blk (aA (bF Z Z (L.m Z (ak (aP (i+1) omX ⟨?_,rfl,rfl,rfl,trivial⟩ ⟨a,b.trans k⟩))))))))))
  ·exact congrArg (fun z=>some (str z)) (by rw [G6 a];simp [List.append_assoc])
 refine ak (?_)
 obtain rfl:i=xs.length:=by omega
 rw [List.take_length]
 refine aj (bn (aY Z (aQ Z (ah Z (aB results65 Z ⟨rfl,d.trans b⟩)))))
def iI:Str:=[108,97,110,100]
def fC:Str:=[112,111,105,110,116]
def gq:Str:=[102,97,99,101]
def gy:Str:=[104,111,108,101]
def PO:Str:=[117,110,105,116,32]
def G7:Str:=[32,119,97,116,101,114]
def lU:Str:=[101,110,100]
def ptL (p:Pt):Str:=fC++spell [p.1,p.2]
def wX (f:FaV):List Str:=(gq++spell f.o.xs)::f.hs.map fun h=>gy++spell h.xs
def qU (u:UnV):List Int:=u.pp::u.gs++u.vs++u.ps
def qA (u:UnV):Str:=PO++u.nm++spell (qU u)++(if u.wt=true then G7 else [])
def lA (r:RoV):List Str:=[iI++spell [r.G,r.P,r.L]]
def lB (c:CxV) (r:RoV) (i:Nat):List Str:=lA r++(c.ps.take i).map ptL
def lC (c:CxV) (r:RoV) (i:Nat):List Str:=lA r++c.ps.map ptL++(c.fs.take i).flatMap wX
def lH (c:CxV) (r:RoV) (i:Nat) (f:FaV) (j:Nat):List Str:=lC c r i ++ [gq++spell f.o.xs]++(f.hs.take j).map fun h=>gy++spell h.xs
def lD (c:CxV) (r:RoV) (i:Nat):List Str:=lA r++c.ps.map ptL++c.fs.flatMap wX++(r.us.take i).map qA
def kY (c:CxV) (r:RoV):List Str:=lA r++c.ps.map ptL++c.fs.flatMap wX++r.us.map qA ++ [lU]
structure qV (c:CxV) (r:RoV):Prop where
 roll:Ku [r.G,r.P,r.L]
 pts:∀ p∈c.ps,Ku [p.1,p.2]
 rim:∀ f∈c.fs,Ku f.o.xs∧0<f.o.xs.length∧f.o.xs.length≤1000
 hole:∀ f∈c.fs,∀ h∈f.hs,Ku h.xs∧0<h.xs.length∧h.xs.length≤1000
 unit:∀ u∈r.us,Ku (qU u)∧(qU u).length≤1000∧u.nm.length≤1000
 len:(bZ (kY c r)).length≤1000000
theorem Nq:∀ ls:List Str,ls.length≤(bZ ls).length
 | []=>Nat.le_refl _
 | l::r=>by
  have:=Nq r
  have e:bZ (l::r)=l ++ [10]++bZ r:=by simp [bZ]
  rw [e,List.length_append,List.length_append,List.length_cons]
  simp only [List.length_cons,List.length_nil]
  omega
theorem qV.lines (h:qV c r):(kY c r).length≤1000000:=Nat.le_trans (Nq _) h.len
theorem ac0 {α:Type} (f:α→List Str) (l:List α) (i:Nat):((l.take i).flatMap f).length≤(l.flatMap f).length:=by
 have e:l.flatMap f=(l.take i).flatMap f++(l.drop i).flatMap f:=by rw [← List.flatMap_append,List.take_append_drop]
 rw [e,List.length_append];omega
theorem aji (h:qV c r) : (lB c r i).length≤1000000:=by
 have a:=h.lines
 simp only [kY,lB,List.length_append,List.length_map,List.length_take,List.length_cons,List.length_nil] at a ⊢
 omega
theorem afL (h:qV c r) : (lC c r i).length≤1000000:=by
 have a:=h.lines
 have b:=ac0 wX c.fs i
 simp only [kY,lC,List.length_append,List.length_map,List.length_take,List.length_cons,List.length_nil] at a ⊢
 omega
theorem afM (h:qV c r) : (lD c r i).length≤1000000:=by
 have a:=h.lines
 simp only [kY,lD,List.length_append,List.length_map,List.length_take,List.length_cons,List.length_nil] at a ⊢
 omega
theorem Xn (hi:i<c.ps.length):lB c r (i+1)=lB c r i ++ [ptL (c.ps.getD i (0,0))]:=by
 rw [lB,lB,List.take_succ_eq_append_getElem hi,List.map_append,aX hi,List.append_assoc];rfl
theorem ac1 (hi:i<c.fs.length):lC c r (i+1)=lC c r i++wX (c.fs.getD i f0):=by
 rw [lC,lC,List.take_succ_eq_append_getElem hi,List.flatMap_append,aX hi,List.append_assoc,List.append_assoc,List.append_assoc];simp
theorem JC (hi:i<c.fs.length):lH c r i (c.fs.getD i f0) (c.fs.getD i f0).hs.length=lC c r (i+1):=by
 rw [ac1 hi,lH,List.take_length,wX,List.append_assoc];rfl
theorem Xo {j:Nat} {f:FaV} (a:j<f.hs.length):lH c r i f (j+1)=lH c r i f j ++ [gy++spell (f.hs.getD j ⟨undef,[]⟩).xs]:=by
 rw [lH,lH,List.take_succ_eq_append_getElem a,List.map_append,aX a,List.append_assoc,List.append_assoc,List.append_assoc];rfl
theorem ajj (h:qV c r) {j:Nat} (hi:i<c.fs.length):(lH c r i (c.fs.getD i f0) j).length≤1000000:=by
 have a:=afL h (i:=i+1)
 rw [← JC hi] at a
 simp only [lH,List.length_append,List.length_map,List.length_take,List.length_cons,List.length_nil] at a ⊢
 omega
theorem Xp (hi:i<r.us.length):lD c r (i+1)=lD c r i ++ [qA (r.us.getD i u0)]:=by
 rw [lD,lD,List.take_succ_eq_append_getElem hi,List.map_append,aX hi,← List.append_assoc];rfl
noncomputable def kN (c:CxV) (r:RoV) (e:Int):Str × Int :=
 if e≠0 then ([],e) else if 40000<(bZ (kY c r)).length then ([],3) else (bZ (kY c r),0)
theorem Ints.append {k:IntKind} {lo:Nat} (h:Ints k lo w v xs):Sl lo w v (xs.map (Value.int k)).length 1 (xs.map (Value.int k)):=by
 rw [List.length_map];exact h
theorem ac2 (h:Ints .i64 0 w v xs):LoL 0 w [v] [xs.map (Value.int .i64)]:=⟨rfl,fun i hi=>by
 have e:i=0:=by simpa using hi
 subst e
 exact Ints.append h⟩
theorem ZU {a b c d:Value} {la bs cs ds:List Int} (ha:Ints .i64 0 w a la) (hb:Ints .i64 0 w b bs) (e:Ints .i64 0 w c cs) (f:Ints .i64 0 w d ds):LoL 0 w [a,b,c,d] ([la,bs,cs,ds].map fun l=>l.map (Value.int .i64)):=⟨rfl,fun i hi=>by
 match i,hi with
 | 0,_=>exact Ints.append ha
 | 1,_=>exact Ints.append hb
 | 2,_=>exact Ints.append e
 | 3,_=>exact Ints.append f⟩
theorem yO (h:Str) (b:Nat) (v:Value) (xs:List Int) (w:World) (hB:Blk w b [v] 30) (hv:Ints .i64 0 w v xs) (h0:0<xs.length) (hn:xs.length≤1000) (hi:Ku xs) (hL:sF w) (a:h.length≤100000) :
  Calls Tryz.prog 65 #[str h,.slice (some ⟨b,0,none⟩) 1 1] w (Ret fun c w'=>c=str (h++spell xs)∧Ext w w') :=
 Em h 0 0 _ [v] [xs.map (Value.int .i64)] xs w (Sl.bI (n:=1) (sz:=1) hB rfl (Nat.le_refl 1) dcX lzX) (ac2 hv) spX h0 omX hi hL a
theorem Xq:fC.length≤100000:=by decide
theorem ZV:gq.length≤100000:=by decide
theorem ZW:gy.length≤100000:=by decide
theorem ZX:iI.length≤100000:=by decide
theorem yP {base:Nat} {xs:List Str} {s:Str} (h:w.ownsRow base 9 1 v (xs.length+1) (xs.map str ++ [s].map str)):vV base (xs ++ [s]) v w:=qQ (ys:=[s]) h
set_option maxHeartbeats 2000000 in
theorem G8 (lo:Nat) (c:CxV) (r:RoV) (w:World) (N:c.ok lo w) (hr:r.ok lo w) (hL:sF w) (hs:gQ c r (iq c)=0→qV c r) :
  Calls Tryz.prog 19 #[.agg (fA c r).toArray] w (Ret fun v w'=>v = .tuple #[str (kN c r (gQ c r (iq c))).1,.int .i64 (kN c r (gQ c r (iq c))).2]∧Ext w w'):=by
 refine aJ (vs:=[.agg (fA c r).toArray]) func19 Z ntmps19 Z ?_
 refine au (bM Z (fun b1 w1 bJ bK f hB1=>?_))
 have u:Blk w1 b1 (fA c r) 48:=hB1
 refine L.a Z (ah Z (aj (au (aT Z Z (Row.bI u) (L.o (ay (xs:=[.tmp 16]) call34 Z Z (AL lo c r w1 (N.ext f) (hr.ext f)) (fun v2 w2 q=>?_)))))))
 obtain ⟨rfl,s⟩:=q
 have xq:=f.trans s
 refine ah Z (aQ Z (L.ne Z Z (fun h0=>?_) (fun h0=>?_)))
 ·refine aW (aQ Z (L.a Z (ah Z (cu results19 Z Z ⟨by rw [kN,if_pos h0];rfl,xq⟩))))
 refine ak (?_)
 have hS:=hs h0
 rw [h0]
 have C:=Blk.ext (cs:=fA c r) u s
 refine bn (T.skip (au (L.fa Z (aC Z (C.cell Z) (L.fa Z (aC Z (C.cell Z) (L.fa Z (aC Z (C.cell Z) (L.o (aH (el:=3) (parts:=[(0,.tmp 23),(1,.tmp 26),(2,.tmp 29)]) (vs:=[(0,_),(1,_),(2,_)]) (cs:=([r.G,r.P,r.L].map (Value.int .i64))) Z (fun w=>by kernel_rfl) (fun R ap atE aoa ER abV=>?_)))))))))))
 have Xr:Ints .i64 0 ap (.slice (some ⟨R,0,none⟩) 3 3) [r.G,r.P,r.L]:=Ints.bI abV rfl dcX lzX
 refine L.o (aH (el:=30) (parts:=[(0,.tmp 30)]) (vs:=[(0,_)]) (cs:=[.slice (some ⟨R,0,none⟩) 3 3]) Z (fun w=>by kernel_rfl) (fun aq ar atF apY D Ue=>?_))
 refine L.o (ay (xs:=[_,.tmp 31]) call65 Z Z (yO iI aq _ [r.G,r.P,r.L] ar Ue (Xr.ext D) spX spX hS.roll (hL.ext ((xq.trans ER).trans D)) ZX) (fun bL d q=>?_))
 obtain ⟨rfl,abW⟩:=q
 refine L.o (aH (el:=9) (parts:=[(0,.tmp 32)]) (vs:=[(0,_)]) (cs:=((lA r).map str)) Z (fun w=>by kernel_rfl) (fun S av bN bO Vw abX=>?_))
 have apZ:vV d.heap.size (lB c r 0) (.slice (some ⟨S,0,none⟩) 1 1) av:=pY (n:=1) (cap:=1) (sz:=1) abX omX leX dcX rfl
 have ajk:=(((xq.trans ER).trans D).trans abW).trans Vw
 have afN:=(((s.trans ER).trans D).trans abW).trans Vw
 refine ah Z (aj (au (L.fa Z (aC Z ((Blk.ext (cs:=fA c r) u afN).cell Z) (L.le Z (Sl.val ((N.ext ajk).p)) (L.m Z (ak (T.block (?_)))))))))
 refine bf (σ:=Nat × Value) (fun g=>[(1,.pointer (some ⟨b1,0,none⟩)),(5,g.2),(36,c.pv),(37,.int .i64 c.ps.length),(38,.int .i64 g.1)]) (fun g W=>g.1≤c.ps.length∧Ext w1 W∧Ext d W∧vV d.heap.size (lB c r g.1) g.2 W) (fun g=>c.ps.length-g.1) ((0,.slice (some ⟨S,0,none⟩) 1 1)) ⟨rfl,rfl,rfl,rfl,rfl,trivial⟩ ⟨Nat.zero_le _,afN,Vw,apZ⟩ ?_
 rintro ⟨i,lv⟩ aw ⟨hi,ZY,Xt,Vx⟩
 simp only at hi Vx
 have k:=N.ext (f.trans ZY)
 have bP:=Sl.le k.p
 refine au (bH Z Z (fun h=>?_) (fun h=>?_))
 ·refine ak (?_)
  have b:i<c.ps.length:=by simp only at h;omega
  have ax:c.ps.getD i (0,0)∈c.ps:=by rw [aX b];exact List.getElem_mem b
  refine aj (aZ (T.skip (aj (T.block (au (dG Z Z k.p (aT Z Z (k.p.row b) (L.o (O.alloc zeroValue124 (fun b7 w7 bQ bR az aB=>?_))))))))))
  refine L.o (aK sizeOf124 Z Z Z aB leX (gu _) (fun w8 aD aE=>?_))
  have U:Blk w8 b7 (pC (c.ps.getD i (0,0))) 124:=aE
  have ajl:Ext aw w8:=az.upd aD (.inr omX)
  refine ak (aA (L.m Z (aC Z (U.cell Z) (aC Z (U.cell Z) (L.o (aH (el:=3) (parts:=[(0,.tmp 44),(1,.tmp 46)]) (vs:=[(0,_),(1,_)]) (cs:=([(c.ps.getD i (0,0)).1,(c.ps.getD i (0,0)).2].map (Value.int .i64))) Z (fun w=>by kernel_rfl) (fun V aF atG atH abj aic=>?_)))))))
  have aG:Ints .i64 0 aF (.slice (some ⟨V,0,none⟩) 2 2) [(c.ps.getD i (0,0)).1,(c.ps.getD i (0,0)).2]:=Ints.bI aic rfl dcX lzX
  refine L.o (aH (el:=30) (parts:=[(0,.tmp 47)]) (vs:=[(0,_)]) (cs:=[.slice (some ⟨V,0,none⟩) 2 2]) Z (fun w=>by kernel_rfl) (fun aI aL bB atI Yz aM=>?_))
  have abq:=(ajl.trans abj).trans Yz
  refine L.o (ay (xs:=[_,.tmp 48]) call65 Z Z (yO fC aI _ [(c.ps.getD i (0,0)).1,(c.ps.getD i (0,0)).2] aL aM (aG.ext Yz) spX spX (hS.pts _ ax) (hL.ext ((f.trans ZY).trans abq)) Xq) (fun bS bT q=>?_))
  obtain ⟨rfl,acs⟩:=q
  refine L.o (aH (el:=9) (parts:=[(0,.tmp 49)]) (vs:=[(0,_)]) (cs:=([ptL (c.ps.getD i (0,0))].map str)) Z (fun w=>by kernel_rfl) (fun bU bV atJ atK aR Xu=>?_))
  have RP:=(abq.trans acs).trans aR
  have aS:=aji hS (i:=i)
  refine L.o (dJ (size:=1) (bytes:=16) runUnderlying61 Tryz.qp Z Z Z Z dcX rfl rfl (cO Vx (RP.mono lzX) leX) (Strs.bI (lo:=0) Xu Z dcX lzX) (nD _) (by simp only [List.length_cons,List.length_nil,maxLen];omega) (by simp only [maxLen,List.length_cons,List.length_nil];omega) (by have:=Xt.size;have:=RP.size;omega) (fun v51 aV a0 a1=>?_))
  have abr:Ext d aV:=Keep.jg (Xt.trans RP) (cO Vx (RP.mono lzX) leX) a1 leX
  refine ah Z (T.blk (aA (L.o (bG Z Z (by (try dsimp only);omega) (L.m Z (ak (aP ((i+1,v51)) (show c.ps.length-(i+1)<c.ps.length-i by omega) ⟨rfl,rfl,rfl,rfl,rfl,trivial⟩ ⟨b,(((s.trans ER).trans D).trans abW).trans abr,abr,by rw [Xn b];exact yP a0⟩)))))))
 refine ak (?_)
 obtain rfl:i=c.ps.length:=by simp only at h;omega
 have a2:lB c r c.ps.length=lC c r 0:=by simp [lB,lC]
 rw [a2] at Vx
 refine aj (bn (aY Z (aj (au (L.fa Z (aC Z ((Blk.ext (cs:=fA c r) u ZY).cell Z) (L.le Z (Sl.val k.sl) (L.m Z (ak (T.block (?_)))))))))))
 refine bf (σ:=Nat × Value) (fun g=>[(1,.pointer (some ⟨b1,0,none⟩)),(5,g.2),(55,c.fv),(56,.int .i64 c.fs.length),(57,.int .i64 g.1)]) (fun g W=>g.1≤c.fs.length∧Ext w1 W∧Ext d W∧vV d.heap.size (lC c r g.1) g.2 W) (fun g=>c.fs.length-g.1) ((0,lv)) ⟨rfl,rfl,rfl,rfl,rfl,trivial⟩ ⟨Nat.zero_le _,ZY,Xt,Vx⟩ ?_
 rintro ⟨i,a3⟩ X ⟨a4,FV,Xv,aeh⟩
 simp only at a4 aeh
 have YJ:=N.ext (f.trans FV)
 have bX:=Sl.le YJ.sl
 refine au (bH Z Z (fun h=>?_) (fun h=>?_))
 ·refine ak (?_)
  have b:i<c.fs.length:=by simp only at h;omega
  have Y:c.fs.getD i f0∈c.fs:=by rw [aX b];exact List.getElem_mem b
  have E:=YJ.at b
  refine aj (aZ (T.skip (aj (T.block (au (dG Z Z YJ.sl (aT Z Z (YJ.row b) (L.o (O.alloc zeroValue127 (fun b9 w9 bY bZ a5 a6=>?_))))))))))
  refine L.o (aK sizeOf127 Z Z Z a6 leX (Gv E) (fun F QH EP=>?_))
  have aa:Blk F b9 (c.fs.getD i f0).cells 127:=EP
  have RS:Ext X F:=a5.upd QH (.inr omX)
  obtain ⟨oa,cp,ab,_,_⟩:=Sl.val E.o
  refine ak (aQ Z (aC Z (show F.cell? ⟨b9,0,none⟩=some (.slice oa (c.fs.getD i f0).o.xs.length cp) from by rw [← ab];exact aa.cell rfl) (L.o (aH (el:=30) (parts:=[(0,.tmp 63)]) (vs:=[(0,_)]) (cs:=[.slice oa (c.fs.getD i f0).o.xs.length cp]) Z (fun w=>by kernel_rfl) (fun a7 a8 bD atL ahz a9=>?_)))))
  have Xw:=RS.trans ahz
  obtain ⟨ba,bb,bc⟩:=hS.rim _ Y
  refine L.o (ay (xs:=[_,.tmp 64]) call65 Z Z (yO gq a7 _ (c.fs.getD i f0).o.xs a8 a9 (ab▸(E.ext Xw).o.mono lzX) bb bc ba (hL.ext ((f.trans FV).trans Xw)) ZV) (fun b0 b2 q=>?_))
  obtain ⟨rfl,amI⟩:=q
  refine L.o (aH (el:=9) (parts:=[(0,.tmp 65)]) (vs:=[(0,_)]) (cs:=([gq++spell (c.fs.getD i f0).o.xs].map str)) Z (fun w=>by kernel_rfl) (fun b3 b4 atM atN amJ bd=>?_))
  have Ns:=(Xw.trans amI).trans amJ
  have aS:=afL hS (i:=i)
  refine L.o (dJ (size:=1) (bytes:=16) runUnderlying61 Tryz.qp Z Z Z Z dcX rfl rfl (cO aeh (Ns.mono lzX) leX) (Strs.bI (lo:=0) bd Z dcX lzX) (nD _) (by simp only [List.length_cons,List.length_nil,maxLen];omega) (by simp only [maxLen,List.length_cons,List.length_nil];omega) (by have:=Xv.size;have:=Ns.size;omega) (fun ac H be amK=>?_))
  have abt:Ext d H:=Keep.jg (Xv.trans Ns) (cO aeh (Ns.mono lzX) leX) amK leX
  have ajm:vV d.heap.size (lH c r i (c.fs.getD i f0) 0) ac H:=by rw [show lH c r i (c.fs.getD i f0) 0=lC c r i ++ [gq++spell (c.fs.getD i f0).o.xs] by simp [lH]];exact yP be
  have Nu:=((s.trans ER).trans D).trans abW
  have b5:=Nu.size
  have amL:=Blk.ext (cs:=(c.fs.getD i f0).cells) aa ((ahz.trans amI).trans amJ)
  have bg:=cO aeh (Ns.mono lzX) leX
  have bh:Blk H b9 (c.fs.getD i f0).cells 127:=Blk.grown (cs:=(c.fs.getD i f0).cells) amL amK (Jp bg amL dcX)
  refine ah Z (au (aC Z (bh.cell Z) (?_)))
  have ajn:=(N.ext (f.trans (Nu.trans abt))).at b
  refine L.le Z (Sl.val ajn.sl) (L.m Z (ak (T.block (?_))))
  refine bf (σ:=Nat × Value) (fun g=>[(1,.pointer (some ⟨b1,0,none⟩)),(5,g.2),(55,c.fv),(56,.int .i64 c.fs.length),(57,.int .i64 i),(69,(c.fs.getD i f0).hv),(70,.int .i64 (c.fs.getD i f0).hs.length),(71,.int .i64 g.1)]) (fun g W=>g.1≤(c.fs.getD i f0).hs.length∧Ext d W∧vV d.heap.size (lH c r i (c.fs.getD i f0) g.1) g.2 W) (fun g=>(c.fs.getD i f0).hs.length-g.1) ((0,ac)) ⟨rfl,rfl,rfl,rfl,rfl,rfl,rfl,rfl,trivial⟩ ⟨Nat.zero_le _,abt,ajm⟩ ?_
  rintro ⟨j,bi⟩ b6 ⟨hj,Q,afO⟩
  simp only at hj afO
  have Xx:=(N.ext (f.trans (Nu.trans Q))).at b
  have b8:=Sl.le Xx.sl
  refine au (bH Z Z (fun y=>?_) (fun y=>?_))
  ·refine ak (?_)
   have t:j<(c.fs.getD i f0).hs.length:=by simp only at y;omega
   have I:(c.fs.getD i f0).hs.getD j ⟨undef,[]⟩∈(c.fs.getD i f0).hs:=by rw [aX t];exact List.getElem_mem t
   obtain ⟨bj,bk,bl⟩:=hS.hole _ Y _ I
   refine aj (aZ (T.skip (aj (T.block (au (dG Z Z Xx.sl (?_)))))))
   obtain ⟨ob,cq,afP,_,_⟩:=Sl.val (Xx.hs _ I)
   refine cZ Z (show _=some (.slice ob ((c.fs.getD i f0).hs.getD j ⟨undef,[]⟩).xs.length cq) from by rw [← afP,Int.toNat_natCast,Nat.mul_one];exact Sl.cell Xx.sl (show (dw (c.fs.getD i f0).hs)[j]?=some ((c.fs.getD i f0).hs.getD j ⟨undef,[]⟩).v by rw [dw,List.getElem?_map,List.getElem?_eq_getElem t,aX t];rfl)) (ah Z (aA (aN Z Z (L.o (aH (el:=30) (parts:=[(0,.tmp 76)]) (vs:=[(0,_)]) (cs:=[.slice ob ((c.fs.getD i f0).hs.getD j ⟨undef,[]⟩).xs.length cq]) Z (fun w=>by kernel_rfl) (fun bm bo atO atP ajo aei=>?_))))))
   refine L.o (ay (xs:=[_,.tmp 77]) call65 Z Z (yO gy bm _ ((c.fs.getD i f0).hs.getD j ⟨undef,[]⟩).xs bo aei (afP▸((Xx.hs _ I).ext ajo).mono lzX) bk bl bj (hL.ext ((f.trans (Nu.trans Q)).trans ajo)) ZW) (fun ca cb q=>?_))
   obtain ⟨rfl,aqa⟩:=q
   refine L.o (aH (el:=9) (parts:=[(0,.tmp 78)]) (vs:=[(0,_)]) (cs:=([gy++spell ((c.fs.getD i f0).hs.getD j ⟨undef,[]⟩).xs].map str)) Z (fun w=>by kernel_rfl) (fun cc cd atQ aeG rC aqb=>?_))
   have RU:=(ajo.trans aqa).trans rC
   have bE:=ajj hS (j:=j) b
   refine L.o (dJ (size:=1) (bytes:=16) runUnderlying61 Tryz.qp Z Z Z Z dcX rfl rfl (cO afO (RU.mono lzX) leX) (Strs.bI (lo:=0) aqb Z dcX lzX) (nD _) (by simp only [List.length_cons,List.length_nil,maxLen];omega) (by simp only [maxLen,List.length_cons,List.length_nil];omega) (by have:=Q.size;have:=RU.size;omega) (fun v80 bp aqc aqd=>?_))
   have afQ:Ext d bp:=Keep.jg (Q.trans RU) (cO afO (RU.mono lzX) leX) aqd leX
   refine ah Z (T.blk (aA (L.o (bG Z Z (by (try dsimp only);omega) (L.m Z (ak (aP ((j+1,v80)) (show (c.fs.getD i f0).hs.length-(j+1)<(c.fs.getD i f0).hs.length-j by omega) ⟨rfl,rfl,rfl,rfl,rfl,rfl,rfl,rfl,trivial⟩ ⟨t,afQ,by rw [Xo t];exact yP aqc⟩)))))))
  refine ak (?_)
  have e:j=(c.fs.getD i f0).hs.length:=by simp only at y;omega
  rw [e,JC b] at afO
  refine aj (bn (aY Z (T.blk (aA (L.o (bG Z Z (by (try dsimp only);omega) (L.m Z (ak (aP ((i+1,bi)) (show c.fs.length-(i+1)<c.fs.length-i by omega) ⟨rfl,rfl,rfl,rfl,rfl,trivial⟩ ⟨b,Nu.trans Q,Q,afO⟩)))))))))
 refine ak (?_)
 obtain rfl:i=c.fs.length:=by simp only at h;omega
 have bq:lC c r c.fs.length=lD c r 0:=by simp [lC,lD]
 rw [bq] at aeh
 have aqe:Units lo X r.uv r.us:=hr.ext (f.trans FV)
 refine aj (bn (aY Z (aj (au (L.fa Z (aC Z ((Blk.ext (cs:=fA c r) u FV).cell Z) (L.le Z (Sl.val aqe.sl) (L.m Z (ak (T.block (?_)))))))))))
 refine bf (σ:=Nat × Value) (fun g=>[(1,.pointer (some ⟨b1,0,none⟩)),(5,g.2),(85,r.uv),(86,.int .i64 r.us.length),(87,.int .i64 g.1)]) (fun g W=>g.1≤r.us.length∧Ext w1 W∧Ext d W∧vV d.heap.size (lD c r g.1) g.2 W) (fun g=>r.us.length-g.1) ((0,a3)) ⟨rfl,rfl,rfl,rfl,rfl,trivial⟩ ⟨Nat.zero_le _,FV,Xv,aeh⟩ ?_
 rintro ⟨i,br⟩ ad ⟨bs,Nv,RV,afR⟩
 simp only at bs afR
 have U4:Units lo ad r.uv r.us:=hr.ext (f.trans Nv)
 have ce:=Sl.le U4.sl
 have Nu:=((s.trans ER).trans D).trans abW
 refine au (bH Z Z (fun h=>?_) (fun h=>?_))
 ·refine ak (?_)
  have b:i<r.us.length:=by simp only at h;omega
  have bt:r.us.getD i u0∈r.us:=by rw [aX b];exact List.getElem_mem b
  have A:=U4.at b
  obtain ⟨ae,cf,cg⟩:=hS.unit _ bt
  refine aj (aZ (T.skip (aj (T.block (au (dG Z Z U4.sl (aT Z Z (U4.row b) (L.o (O.alloc zeroValue51 (fun B ch ahd Y8 iH Df=>?_))))))))))
  refine L.o (aK sizeOf51 Z Z Z Df leX A.one (fun af QK Ou=>?_))
  have YK:Blk af B (r.us.getD i u0).cells 51:=Ou
  have RX:Ext ad af:=iH.upd QK (.inr omX)
  refine ak (au (aC Z (YK.cell Z) (L.o (bW Z Z (by show 5+(r.us.getD i u0).nm.length≤_;omega) (aC Z (YK.cell Z) (L.o (aH (el:=3) (parts:=[(0,.tmp 95)]) (vs:=[(0,_)]) (cs:=[.int .i64 (r.us.getD i u0).pp]) Z (fun w=>by kernel_rfl) (fun J K atS atT amM aqf=>?_))))))))
  have ahA:=Blk.ext (cs:=(r.us.getD i u0).cells) YK amM
  obtain ⟨o1,c1,ag,_,_⟩:=Sl.val A.g
  obtain ⟨o2,c2,ai,_,_⟩:=Sl.val A.v
  obtain ⟨o3,c3,al,_,_⟩:=Sl.val A.p
  refine aC Z (show K.cell? ⟨B,2,none⟩=some (.slice o1 (r.us.getD i u0).gs.length c1) from by rw [← ag];exact ahA.cell rfl) (aC Z (show K.cell? ⟨B,3,none⟩=some (.slice o2 (r.us.getD i u0).vs.length c2) from by rw [← ai];exact ahA.cell rfl) (aC Z (show K.cell? ⟨B,4,none⟩=some (.slice o3 (r.us.getD i u0).ps.length c3) from by rw [← al];exact ahA.cell rfl) (L.o (aH (el:=30) (parts:=[(0,.tmp 96),(1,.tmp 98),(2,.tmp 100),(3,.tmp 102)]) (vs:=[(0,_),(1,_),(2,_),(3,_)]) (cs:=[.slice (some ⟨J,0,none⟩) 1 1,.slice o1 (r.us.getD i u0).gs.length c1,.slice o2 (r.us.getD i u0).vs.length c2,.slice o3 (r.us.getD i u0).ps.length c3]) Z (fun w=>by kernel_rfl) (fun atU amN aqg aqh M ajp=>?_)))))
  have bu:=amM.trans M
  have PV:=RX.trans bu
  have Xy:=(U4.ext PV).at b
  have aqi:Ints .i64 0 amN (.slice (some ⟨J,0,none⟩) 1 1) [(r.us.getD i u0).pp]:=Ints.bI (Blk.ext (cs:=[.int .i64 (r.us.getD i u0).pp]) aqf M) rfl dcX lzX
  refine L.o (ay (xs:=[.tmp 93,.tmp 103]) call65 Z Z (Em (PO++(r.us.getD i u0).nm) 0 0 _ [.slice (some ⟨J,0,none⟩) 1 1,.slice o1 (r.us.getD i u0).gs.length c1,.slice o2 (r.us.getD i u0).vs.length c2,.slice o3 (r.us.getD i u0).ps.length c3] ([[(r.us.getD i u0).pp],(r.us.getD i u0).gs,(r.us.getD i u0).vs,(r.us.getD i u0).ps].map fun l ↦ l.map (Value.int .i64)) (qU (r.us.getD i u0)) amN (Sl.bI (n:=4) (sz:=1) ajp Z (Nat.le_refl 4) dcX lzX) (ZU aqi (ag▸Xy.g.mono lzX) (ai▸Xy.v.mono lzX) (al▸Xy.p.mono lzX)) (by simp [qU]) (by simp [qU]) omX ae (hL.ext ((f.trans Nv).trans PV)) (by rw [List.length_append];show 5+_≤_;omega)) (fun atV aqj q=>?_))
  obtain ⟨rfl,afS⟩:=q
  have ajq:=Blk.ext (cs:=(r.us.getD i u0).cells) ahA (M.trans afS)
  refine ah Z (aj (au (aC Z (ajq.cell Z) (?_))))
  have bv:=PV.trans afS
  refine ak (?_)
  refine dS (σ:=Unit) (fun _=>[(1,.pointer (some ⟨b1,0,none⟩)),(5,br),(14,str (qA (r.us.getD i u0))),(85,r.uv),(86,.int .i64 r.us.length),(87,.int .i64 i)]) (fun _ w'=>w'=aqj) ?_ ?_
  ·rcases am:(r.us.getD i u0).wt with _|_
   ·refine bn (T.skip (bC (()) ⟨rfl,rfl,?_,rfl,rfl,rfl,trivial⟩ Z))
    ·exact congrArg (fun z=>some (str z)) (by rw [qA,am];simp)
   refine aZ (aA (aO Z (bW Z Z (by have:=iV _ ae;rw [List.length_append,List.length_append];show 5+_+_+6≤_;omega) (ah Z (bC (()) ⟨rfl,rfl,?_,rfl,rfl,rfl,trivial⟩ Z)))))
   ·exact congrArg (fun z=>some (str z)) (by rw [qA,am];simp [G7])
  rintro _ aqk rfl
  refine aA (aN Z Z (L.o (aH (el:=9) (parts:=[(0,.tmp 110)]) (vs:=[(0,_)]) (cs:=([qA (r.us.getD i u0)].map str)) Z (fun w=>by kernel_rfl) (fun atW afT aql aqm ajr bw=>?_))))
  have JD:=bv.trans ajr
  have an:=afM hS (i:=i)
  refine L.o (dJ (size:=1) (bytes:=16) runUnderlying61 Tryz.qp Z Z Z Z dcX rfl rfl (cO afR (JD.mono lzX) leX) (Strs.bI (lo:=0) bw Z dcX lzX) (nD _) (by simp only [List.length_cons,List.length_nil,maxLen];omega) (by simp only [maxLen,List.length_cons,List.length_nil];omega) (by have:=RV.size;have:=JD.size;omega) (fun aqn ajs ajt aju=>?_))
  have Xz:Ext d ajs:=Keep.jg (RV.trans JD) (cO afR (JD.mono lzX) leX) aju leX
  refine ah Z (T.blk (aA (L.o (bG Z Z (by (try dsimp only);omega) (L.m Z (ak (aP ((i+1,aqn)) (show r.us.length-(i+1)<r.us.length-i by omega) ⟨rfl,rfl,rfl,rfl,rfl,trivial⟩ ⟨b,Nu.trans Xz,Xz,by rw [Xp b];exact yP ajt⟩)))))))
 refine ak (?_)
 obtain rfl:i=r.us.length:=by simp only at h;omega
 have bx:lD c r r.us.length ++ [lU]=kY c r:=by simp [lD,kY]
 refine aj (bn (aY Z (au (aO Z (aH (el:=9) (parts:=[(0,_)]) (vs:=[(0,_)]) (cs:=([lU].map str)) Z (fun w=>by kernel_rfl) (fun atX aqo aqp aqr Z4 bz=>?_))))))
 have an:=afM hS (i:=r.us.length)
 refine L.o (dJ (size:=1) (bytes:=16) runUnderlying61 Tryz.qp Z Z Z Z dcX rfl rfl (cO afR (Z4.mono lzX) leX) (Strs.bI (lo:=0) bz Z dcX lzX) (nD _) (by simp only [List.length_cons,List.length_nil,maxLen];omega) (by simp only [maxLen,List.length_cons,List.length_nil];omega) (by have:=RV.size;have:=Z4.size;omega) (fun amy ajv ajw ajx=>?_))
 have bA:Ext d ajv:=Keep.jg (RV.trans Z4) (cO afR (Z4.mono lzX) leX) ajx leX
 have abu:=yP ajw
 rw [bx] at abu
 refine L.o (ay (xs:=[.tmp 116]) call55 Z Z (AP 0 amy (kY c r) ajv ((Sl.dD abu).mono lzX) hS.len) (fun bF abv q=>?_))
 obtain ⟨rfl,JE⟩:=q
 have He:=f.trans (Nu.trans (bA.trans JE))
 refine ah Z (aj (au (aO Z (dB runUnderlying9 Z (dY Z Z (fun ao=>?_) (fun ao=>?_))))))
 ·refine aW (fK Z (ah Z (cu results19 Z Z ⟨by rw [kN,if_neg (fun x=>x rfl),if_pos omX];rfl,He⟩)))
 refine aU (T.skip (aQ Z (L.a Z (ah Z (cu results19 Z Z ⟨by rw [kN,if_neg (fun x=>x rfl),if_neg omX],He⟩)))))
theorem Z5 {l:Str} {v:Int} (h:Lib.atoiAll l = .ok v) : -9223372036854775808≤v∧v≤9223372036854775807:=by
 unfold Lib.atoiAll at h
 split at h
 ·cases h
 simp only at h
 split at h
 ·cases h
 ·cases h
 split at h
 ·cases h
 split at h
 ·cases h
 cases h
 split <;> omega
theorem Hf (s:Str) (w:World) (hL:sF w) (hs:s.length≤100000):Calls Tryz.prog 161 #[str s] w (Ret fun v w'=>((∃ n,Lib.atoiAll s = .ok n∧v = .tuple #[.int .i64 n,.nilIface])∨((∀ n,Lib.atoiAll s ≠ .ok n)∧∃ m t p,v = .tuple #[.int .i64 m,.iface t p]))∧Ext w w'):=by
 have a:(⟨s.toArray⟩:ByteArray).size=s.length:=by simp [ByteArray.size]
 rcases h:Lib.atoiAll s with n|_|_
 ·refine (Tryz.strconv_Atoi_ok ⟨s.toArray⟩ omX n h w).mono ?_
  rintro e w' ⟨rfl,b⟩
  refine ⟨.inl ⟨n,rfl,rfl⟩,?_⟩
  rcases b with rfl|⟨t,rfl⟩
  ·exact Keep.refl _ _
  exact Ext.of_below (Lib.bytesWorld_below _ _ _)
 ·obtain ⟨tp,p,hv⟩:=hL.es
  refine (Tryz.sZ ⟨s.toArray⟩ omX (fun n e=>by cases h.symm.trans e) (fun e=>by cases h.symm.trans e) tp p w hv).mono ?_
  rintro e w' ⟨N,rfl,_,_,hb⟩
  exact ⟨.inr ⟨fun n h=>(by cases h),_,_,_,rfl⟩,Ext.of_below hb⟩
 obtain ⟨tp,p,hv⟩:=hL.er
 refine (Tryz.strconv_Atoi_range_var ⟨s.toArray⟩ omX h tp p w hv).mono ?_
 rintro e w' ⟨N,rfl,_,_,hb⟩
 exact ⟨.inr ⟨fun n h=>(by cases h),_,_,_,rfl⟩,Ext.of_below hb⟩
def kP (s:Str):Option Int:=match Lib.atoiAll s with
 | .ok n=>if Lib.itoa n=s ∧ -1000000000≤n∧n≤1000000000 then some n else none
 | _=>none
theorem RY {s:Str} {n:Int} (h:Lib.atoiAll s = .ok n):kP s=if Lib.itoa n=s ∧ -1000000000≤n∧n≤1000000000 then some n else none:=by unfold kP;rw [h]
theorem qW {s:Str} {n:Int} (h:kP s=some n):Lib.atoiAll s = .ok n∧Lib.itoa n=s ∧ -1000000000≤n∧n≤1000000000:=by
 unfold kP at h
 split at h
 ·split at h
  ·cases h;rename_i hn a;exact ⟨hn,a⟩
  cases h
 cases h
theorem En (s:Str) (n:Int) (w:World) (hL:sF w) (hs:s.length≤100000) (hn:kP s=some n) :
  Calls Tryz.prog 160 #[str s] w (Ret fun v w'=>v = .int .i64 n∧Ext w w'):=by
 obtain ⟨g,h,i,j⟩:=qW hn
 refine aJ (vs:=[str s]) func160 Z ntmps160 Z ?_
 refine au (ah Z (au (aO Z (ay (xs:=[.tmp 6]) call161 Z Z (Hf s w hL hs) (fun k w1 b=>?_)))))
 obtain ⟨e,c⟩:=b
 have aqs:k = .tuple #[.int .i64 n,.nilIface]:=by
  rcases e with ⟨m,d,hv⟩|⟨d,_⟩
  ·rw [g] at d;cases d;exact hv
  exact absurd g (d n)
 subst aqs
 refine L.m Z (bK Z Z (bK Z Z (L.a Z (ah Z (au (aO Z (qj krX rfl (aN Z Z (L.o (ay (xs:=[.tmp 13]) call54 Z Z (vI n w1 (hL.ext c) omX omX) (fun v2 l b=>?_)))))))))))
 obtain ⟨rfl,f⟩:=b
 refine aO Z (fD runUnderlying9 Z Z h (aG Z (aN Z Z (L.o (mF Z Z i (aG Z (aN Z Z (L.o (F8 Z Z j (aG Z (L.o (ay (xs:=[.tmp 25]) call108 Z Z (nC l) (fun v3 p b=>?_)))))))))))))
 obtain rfl:=b
 refine ak (aQ Z (ah Z (aB results160 Z ⟨rfl,c.trans f⟩)))
theorem Um (s:Str) (w:World) (hL:sF w) (hs:s.length≤100000) (hn:kP s=none) :
  Calls Tryz.prog 160 #[str s] w (Pan (nN) fun w'=>Ext w w'):=by
 refine mO (vs:=[str s]) func160 Z ntmps160 Z ?_
 refine au (ah Z (au (aO Z (ay (xs:=[.tmp 6]) call161 Z Z (Hf s w hL hs) (fun l w1 f=>?_)))))
 obtain ⟨g,b⟩:=f
 rcases g with ⟨n,i,rfl⟩|⟨i,m,t,p,rfl⟩
 ·rw [RY i] at hn
  have hb:=Z5 i
  refine L.m Z (bK Z Z (bK Z Z (L.a Z (ah Z (au (aO Z (qj krX rfl (aN Z Z (L.o (ay (xs:=[.tmp 13]) call54 Z Z (vI n w1 (hL.ext b) omX omX) (fun v2 j f=>?_)))))))))))
  obtain ⟨rfl,c⟩:=f
  rcases Classical.em (Lib.itoa n=s) with d|d
  ·refine aO Z (fD runUnderlying9 Z Z d (?_))
   rcases Classical.em (-1000000000≤n) with e|e
   ·have k:¬ n≤1000000000:=fun h=>by rw [if_pos ⟨d,e,h⟩] at hn;cases hn
    refine aG Z (aN Z Z (L.o (mF Z Z e (aG Z (aN Z Z (L.o (vg Z Z k (aG Z (dI (xs:=[.tmp 25]) Z call108 Z Z (jc j) (fun w' a hR ha=>⟨ha.defers,rfl,by rw [hR];exact b.trans c⟩))))))))))
   refine aG Z (aN Z Z (L.o (oM Z Z e (aG Z (L.m Z (L.pp (aI Z (dI (xs:=[.tmp 25]) Z call108 Z Z (jc j) (fun w' a hR ha=>⟨ha.defers,rfl,by rw [hR];exact b.trans c⟩)))))))))
  refine aO Z (fE runUnderlying9 Z Z d (aG Z (L.m Z (L.pp (aI Z (L.m Z (L.pp (aI Z (dI (xs:=[.tmp 25]) Z call108 Z Z (jc j) (fun w' a hR ha=>⟨ha.defers,rfl,by rw [hR];exact b.trans c⟩))))))))))
 refine L.m Z (bK Z Z (bK Z Z (L.a Z (ah Z (au (aO Z (zK krX rfl rfl (L.m Z (L.pp (L.pp (aI Z (L.m Z (L.pp (aI Z (L.m Z (L.pp (aI Z (?_))))))))))))))))))
 refine dI (xs:=[.tmp 25]) Z call108 Z Z (jc w1) (fun w' a hR ha=>⟨ha.defers,rfl,by rw [hR];exact b⟩)
def fQ:List Str→Option (List Int)
 | []=>some []
 | s::r=>match kP s,fQ r with
  | some n,some ns=>some (n::ns)
  | _,_=>none
theorem jW:∀ (ws:List Str) (xs:List Int),fQ ws=some xs→ws.length=xs.length∧∀ i,i<ws.length→kP (ws.getD i [])=some (xs.getD i 0)
 | [],xs,h=>by cases h;exact ⟨rfl,fun i hi=>absurd hi (Nat.not_lt_zero _)⟩
 | s::r,xs,h=>by
  rw [fQ] at h
  cases hs:kP s with
  | none=>rw [hs] at h;cases h
  | some n =>
   cases a:fQ r with
   | none=>rw [hs,a] at h;cases h
   | some ns =>
    rw [hs,a] at h
    cases h
    obtain ⟨b,c⟩:=jW r ns a
    refine ⟨by simp [b],fun i hi=>?_⟩
    cases i with
    | zero=>exact hs
    | succ i=>exact c i (by simpa using hi)
theorem Hg:∀ (ws:List Str),fQ ws=none→∃ m,m<ws.length∧kP (ws.getD m [])=none∧∃ xs:List Int,xs.length=m∧∀ i,i<m→kP (ws.getD i [])=some (xs.getD i 0)
 | [],h=>by cases h
 | s::r,h=>by
  cases hs:kP s with
  | none=>exact ⟨0,spX,hs,[],rfl,fun i hi=>absurd hi (Nat.not_lt_zero _)⟩
  | some n =>
   have a:fQ r=none:=by
    cases a:fQ r with
    | none=>rfl
    | some ns=>rw [fQ,hs,a] at h;cases h
   obtain ⟨m,b,c,xs,d,e⟩:=Hg r a
   refine ⟨m+1,by simpa using b,c,n::xs,by simp [d],fun i hi=>?_⟩
   cases i with
   | zero=>exact hs
   | succ i=>exact e i omX
theorem JF {base:Nat} {n:Int} (h:w.ownsRow base 3 1 v (xs.length+1) (xs.map (Value.int .i64) ++ [.int .i64 n])):w.ownsRow base 3 1 v (xs ++ [n]).length ((xs ++ [n]).map (Value.int .i64)):=by
 rw [List.length_append,List.map_append];exact h
theorem Un (lo:Nat) (p:Value) (ws:List Str) (xs:List Int) (w:World) (e:Strs lo w p ws) (hL:sF w) (hs:∀ s∈ws,s.length≤100000) (hn:fQ ws=some xs) (r:ws.length≤1000000) :
  Calls Tryz.prog 159 #[p,.func (.func 160) #[] #[]] w (Ret fun v w'=>w'.ownsRow w.heap.size 3 1 v xs.length (xs.map (Value.int .i64))∧Ext w w'):=by
 obtain ⟨B,f⟩:=jW ws xs hn
 refine aJ (vs:=[p,.func (.func 160) #[] #[]]) func159 Z ntmps159 Z ?_
 refine au (ah Z (au (ah Z (aj (aQ Z (L.le Z (Sl.val e) (L.m Z (ak (T.block (?_))))))))))
 refine bf (σ:=Nat × Value) (fun g=>[(1,.func (.func 160) #[] #[]),(5,g.2),(8,p),(9,.int .i64 ws.length),(10,.int .i64 g.1)]) (fun g W=>g.1≤ws.length∧Ext w W∧W.ownsRow w.heap.size 3 1 g.2 (xs.take g.1).length ((xs.take g.1).map (Value.int .i64))) (fun g=>ws.length-g.1) ((0,.slice none 0 0)) ⟨rfl,rfl,rfl,rfl,rfl,trivial⟩ ⟨Nat.zero_le _,Keep.refl _ _,iF _ _ _ _⟩ ?_
 rintro ⟨i,lv⟩ w1 ⟨hi,b,c⟩
 simp only at hi c
 refine au (bH Z Z (fun d=>?_) (fun d=>?_))
 ·refine ak (?_)
  have a:i<ws.length:=by simp only at d;omega
  have h:(ws.getD i []).length≤100000:=hs _ (by rw [aX a];exact List.getElem_mem a)
  have x:(xs.take i).length=i:=by rw [List.length_take];omega
  have j:xs.take (i+1)=xs.take i ++ [xs.getD i 0]:=by rw [List.take_succ_eq_append_getElem omX,aX omX]
  refine aj (aZ (T.skip (aj (T.block (au (dG Z Z (e.ext b) (cZ Z ((e.ext b).at a) (ah Z (aA (aN Z Z (aO Z (ay (xs:=[.tmp 16]) call160 Z Z (En (ws.getD i []) (xs.getD i 0) w1 (hL.ext b) h (f i a)) (fun v2 C y=>?_)))))))))))))
  obtain ⟨rfl,k⟩:=y
  refine L.o (aH (el:=3) (parts:=[(0,.tmp 17)]) (vs:=[(0,_)]) (cs:=[.int .i64 (xs.getD i 0)]) Z (fun w=>by kernel_rfl) (fun z A ajd aje xw ET=>?_))
  have JG:=k.trans xw
  refine L.o (dJ (size:=1) (bytes:=8) runUnderlying30 Tryz.rG Z Z Z Z dcX rfl rfl (cO c (JG.mono lzX) leX) (Sl.bI (lo:=0) (n:=1) (sz:=1) ET Z (Nat.le_refl 1) dcX lzX) (by intro u t;simp at t;subst t;rfl) omX (by simp only [maxLen];omega) (by have:=b.size;have:=JG.size;omega) (fun l q ach ajy=>?_))
  have Zk:Ext w q:=Keep.jg (b.trans JG) (cO c (JG.mono lzX) leX) ajy leX
  refine ah Z (T.blk (aA (L.o (bG Z Z (by (try dsimp only);omega) (L.m Z (ak (aP ((i+1,l)) (show ws.length-(i+1)<ws.length-i by omega) ⟨rfl,rfl,rfl,rfl,rfl,trivial⟩ ⟨a,Zk,by rw [j];exact JF ach⟩)))))))
 refine ak (?_)
 obtain rfl:i=ws.length:=by simp only at d;omega
 rw [List.take_of_length_le omX] at c
 refine aj (bn (aY Z (aQ Z (ah Z (aB results159 Z ⟨c,b⟩)))))
theorem XA (lo:Nat) (p:Value) (ws:List Str) (w:World) (j:Strs lo w p ws) (hL:sF w) (hs:∀ s∈ws,s.length≤100000) (hn:fQ ws=none) (v:ws.length≤1000000) :
  Calls Tryz.prog 159 #[p,.func (.func 160) #[] #[]] w (Pan (nN) fun w'=>Ext w w'):=by
 obtain ⟨m,C,f,xs,D,k⟩:=Hg ws hn
 refine mO (vs:=[p,.func (.func 160) #[] #[]]) func159 Z ntmps159 Z ?_
 refine au (ah Z (au (ah Z (aj (aQ Z (L.le Z (Sl.val j) (L.m Z (ak (T.block (?_))))))))))
 refine bf (σ:=Nat × Value) (fun g=>[(1,.func (.func 160) #[] #[]),(5,g.2),(8,p),(9,.int .i64 ws.length),(10,.int .i64 g.1)]) (fun g W=>g.1≤m∧Ext w W∧W.ownsRow w.heap.size 3 1 g.2 (xs.take g.1).length ((xs.take g.1).map (Value.int .i64))) (fun g=>ws.length-g.1) ((0,.slice none 0 0)) ⟨rfl,rfl,rfl,rfl,rfl,trivial⟩ ⟨Nat.zero_le _,Keep.refl _ _,iF _ _ _ _⟩ ?_
 rintro ⟨i,lv⟩ w1 ⟨hi,b,d⟩
 simp only at hi d
 have c:i<ws.length:=by omega
 have h:(ws.getD i []).length≤100000:=hs _ (by rw [aX c];exact List.getElem_mem c)
 refine au (L.o (mD Z Z (by (try dsimp only);omega) (ak (aj (aZ (T.skip (aj (T.block (au (dG Z Z (j.ext b) (cZ Z ((j.ext b).at c) (?_))))))))))))
 rcases Nat.lt_or_ge i m with e|e
 ·have y:(xs.take i).length=i:=by rw [List.length_take];omega
  have l:xs.take (i+1)=xs.take i ++ [xs.getD i 0]:=by rw [List.take_succ_eq_append_getElem omX,aX omX]
  refine ah Z (aA (aN Z Z (aO Z (ay (xs:=[.tmp 16]) call160 Z Z (En (ws.getD i []) (xs.getD i 0) w1 (hL.ext b) h (k i e)) (fun v2 E z=>?_)))))
  obtain ⟨rfl,q⟩:=z
  refine L.o (aH (el:=3) (parts:=[(0,.tmp 17)]) (vs:=[(0,_)]) (cs:=[.int .i64 (xs.getD i 0)]) Z (fun w=>by kernel_rfl) (fun A B ajd aje xw ET=>?_))
  have JG:=q.trans xw
  refine L.o (dJ (size:=1) (bytes:=8) runUnderlying30 Tryz.rG Z Z Z Z dcX rfl rfl (cO d (JG.mono lzX) leX) (Sl.bI (lo:=0) (n:=1) (sz:=1) ET Z (Nat.le_refl 1) dcX lzX) (by intro u x;simp at x;subst x;rfl) omX (by simp only [maxLen];omega) (by have:=b.size;have:=JG.size;omega) (fun r t ach ajy=>?_))
  have Zk:Ext w t:=Keep.jg (b.trans JG) (cO d (JG.mono lzX) leX) ajy leX
  refine ah Z (T.blk (aA (L.o (bG Z Z (by (try dsimp only);omega) (L.m Z (ak (aP ((i+1,r)) (show ws.length-(i+1)<ws.length-i by omega) ⟨rfl,rfl,rfl,rfl,rfl,trivial⟩ ⟨e,Zk,by rw [l];exact JF ach⟩)))))))
 obtain rfl:i=m:=by omega
 refine ah Z (aA (aN Z Z (L.m Z (dI (xs:=[.tmp 16]) Z call160 Z Z (Um (ws.getD i []) w1 (hL.ext b) h f) (fun w' a hR ha=>⟨ha.defers,rfl,b.trans hR⟩)))))
theorem pJ (lo:Nat) (p:Value) (ws:List Str) (xs:List Int) (w:World) (b:Strs lo w p ws) (hL:sF w) (hs:∀ s∈ws,s.length≤100000) (hn:fQ ws=some xs) (a:ws.length≤1000000) :
  Calls Tryz.prog 122 #[p] w (Ret fun v w'=>w'.ownsRow w.heap.size 3 1 v xs.length (xs.map (Value.int .i64))∧Ext w w'):=by
 refine aJ (vs:=[p]) func122 Z ntmps122 Z ?_
 refine au (ah Z (au (aO Z (ay (xs:=[.tmp 3,.func 160]) call159 Z Z (Un lo p ws xs w b hL hs hn a) (fun e w1 c=>?_)))))
 obtain ⟨hO,d⟩:=c
 refine ah Z (aB results122 Z ⟨hO,d⟩)
theorem qX (lo:Nat) (p:Value) (ws:List Str) (w:World) (c:Strs lo w p ws) (hL:sF w) (hs:∀ s∈ws,s.length≤100000) (hn:fQ ws=none) (b:ws.length≤1000000) :
  Calls Tryz.prog 122 #[p] w (Pan (nN) fun w'=>Ext w w'):=by
 refine mO (vs:=[p]) func122 Z ntmps122 Z ?_
 refine au (ah Z (aQ Z (dI (xs:=[.tmp 3,.func 160]) Z call159 Z Z (XA lo p ws w c hL hs hn b) (fun w' a hR ha=>⟨ha.defers,rfl,hR⟩))))
def fieldsB (s:Str):List Str:=(Lib.goFieldsP (fun r=>decide (r=32)) ⟨s.toArray⟩).map fun x=>x.data.toList
theorem PW (x:Nat) (w:World) :
  Calls Tryz.prog 121 #[.int .i32 x] w (Ret fun v w'=>v = .bool (decide (x=32))∧w'=w):=by
 refine aJ (vs:=[.int .i32 x]) func121 Z ntmps121 Z ?_
 refine au (ah Z (au (aO Z (oh Z Z (ah Z (aB results121 Z ⟨congrArg Value.bool (decide_eq_decide.2 omX),rfl⟩))))))
theorem Nw (s:Str) (w:World) (hs:s.length≤100000):Calls Tryz.prog 120 #[str s,.func (.func 121) #[] #[]] w (Ret fun v w'=>∃ A,v = .slice (some ⟨A,0,none⟩) (fieldsB s).length (fieldsB s).length∧Strs w.heap.size w' v (fieldsB s)∧Ext w w'):=by
 refine (Tryz.strings_FieldsFunc_grows 121 #[] call121 (fun r=>decide (r=32)) ⟨s.toArray⟩ w (by simp [ByteArray.size];omega) (fun W x _ _=>(PW x W).mono ?_)).mono ?_
 ·rintro (v|_|_) w' h
  ·obtain ⟨c,d⟩:=h
   subst c;subst d
   exact ⟨rfl,Below.refl _ _⟩
  ·exact h.elim
  exact h.elim
 rintro e w' ⟨A,rfl,hA,hO,hb⟩
 have a:(Lib.goFieldsP (fun r=>decide (r=32)) ⟨s.toArray⟩).length=(fieldsB s).length:=by simp [fieldsB]
 have b:(Lib.goFieldsP (fun r=>decide (r=32)) ⟨s.toArray⟩).map Value.string=(fieldsB s).map str:=by
  simp only [fieldsB,List.map_map]
  rfl
 rw [a,b] at hO
 exact ⟨A,by rw [a],by rw [a];exact Sl.dD hO,Ext.of_below hb⟩
theorem Ny (lo:Nat) (p:Value) (xs:List Str) (s:Str) (w:World) (d:Strs lo w p xs) :
  Calls Tryz.prog 162 #[p,str s] w (Ret fun v w'=>∃ n:Int,v = .int .i64 n∧(0≤n↔s∈xs)∧w'=w):=by
 have g:=Sl.le d
 refine aJ (vs:=[p,str s]) func162 Z ntmps162 Z ?_
 refine au (ah Z (aj (aQ Z (L.le Z (Sl.val d) (L.m Z (ak (T.block (?_))))))))
 refine bf (σ:=Nat) (fun i=>[(0,p),(1,str s),(7,.int .i64 xs.length),(8,.int .i64 i)]) (fun i w'=>i≤xs.length∧w'=w∧∀ k,k<i→xs.getD k []≠s) (fun i=>xs.length-i) (0) ⟨rfl,rfl,rfl,rfl,trivial⟩ ⟨Nat.zero_le _,rfl,fun k c=>absurd c (Nat.not_lt_zero _)⟩ ?_
 rintro i w1 ⟨hi,rfl,b⟩
 refine au (bH Z Z (fun f=>?_) (fun f=>?_))
 ·refine ak (?_)
  have a:i<xs.length:=by omega
  refine aj (aZ (T.skip (aj (T.block (aQ Z (ah Z (au (aN Z Z (L.m Z (dG Z Z d (cZ Z (d.at a) (L.o (fM runUnderlying9 Z Z (fun hb=>?_) (fun hb=>?_))))))))))))))
  ·refine aW (aQ Z (ah Z (aB results162 Z ⟨i,rfl,⟨fun _=>by rw [hb,aX a];exact List.getElem_mem a,fun _=>by omega⟩,rfl⟩)))
  refine aU (T.skip (T.blk (aA (bF Z Z (L.m Z (ak (aP (i+1) omX ⟨rfl,rfl,rfl,rfl,trivial⟩ ⟨a,rfl,fun k c=>by rcases Nat.lt_or_ge k i with h|h;exact b k h;obtain rfl:k=i:=omX;exact fun e=>hb e.symm⟩)))))))
 refine ak (?_)
 obtain rfl:i=xs.length:=by omega
 refine aj (bn (aY Z (au (ah Z (aB results162 Z ⟨-1,rfl,⟨fun h=>by omega,fun h=>?_⟩,rfl⟩)))))
 obtain ⟨k,c,e⟩:=List.getElem_of_mem h
 have:=b k c
 rw [aX c,e] at this
 exact absurd rfl this
theorem Nz (lo:Nat) (p:Value) (xs:List Str) (s:Str) (w:World) (a:Strs lo w p xs) :
  Calls Tryz.prog 124 #[p,str s] w (Ret fun v w'=>v = .bool (decide (s∈xs))∧w'=w):=by
 refine aJ (vs:=[p,str s]) func124 Z ntmps124 Z ?_
 refine au (ah Z (au (aN Z Z (L.o (ay (xs:=[.tmp 5,.tmp 6]) call162 Z Z (Ny lo p xs s w a) (fun c w1 b=>?_))))))
 obtain ⟨n,rfl,hn,rfl⟩:=b
 refine L.o (kH Z Z (ah Z (aB results124 Z ⟨congrArg Value.bool (decide_eq_decide.2 hn),rfl⟩)))
theorem kQ (lo:Nat) (p:Value) (xs:List Str) (b:Nat) (cs:List Value) (s:Str) (w:World) (a:Strs lo w p xs) (hB:Blk w b cs 129) (c:cs[6]?=some (str s)) :
  Calls Tryz.prog 68 #[.pointer (some ⟨b,0,none⟩),p] w (Ret fun v w'=>v = .bool (decide (s∈xs))∧w'=w):=by
 refine aJ (vs:=[.pointer (some ⟨b,0,none⟩),p]) func68 Z ntmps68 Z ?_
 refine au (ah Z (au (aN Z Z (mG Z (aC Z (hB.cell c) (L.o (ay (xs:=[.tmp 5,.tmp 9]) call124 Z Z (Nz lo p xs s w a) (fun e w1 d=>?_))))))))
 obtain ⟨rfl,rfl⟩:=d
 refine ah Z (aB results68 Z ⟨rfl,rfl⟩)
end Go.Proofs.YtnlonpcbgjbbaaaGreatDoor
