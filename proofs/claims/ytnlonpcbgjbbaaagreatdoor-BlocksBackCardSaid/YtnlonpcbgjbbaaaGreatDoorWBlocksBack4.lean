/-
  BlocksBack, part 4 of its proof: that it returns true for every input, and each argument reads behind the call as it read before. Conditions: the listed variables read as the program's text lays them (tied by the card).
-/
import Derived.Test.YtnlonpcbgjbbaaaGreatDoorWBlocksBack3
import Derived.Test.YtnlonpcbgjbbaaaGreatDoorProg
import Derived.Test.YtnlonpcbgjbbaaaGreatDoorWBlocksBack2
set_option linter.unusedVariables false
set_option linter.unusedSimpArgs false
set_option maxRecDepth 20000
set_option linter.unusedVariables false
set_option linter.unusedSimpArgs false
set_option maxRecDepth 20000
namespace Go.Proofs.YtnlonpcbgjbbaaaGreatDoor
open Go.Proofs.Tryz (call102 call135 call136 call137 call147 call148 call163 call166 call167 call168 call171 call172 call203 call206 call32 call79 call80 func102 func135 func136 func137 func147 func148 func163 func166 func167 func168 func171 func172 func203 func206 func32 func52 func79 func80 isAgg23 isAgg241 isAgg25 isAgg3 isAgg30 isAgg4 isAgg51 isAgg9 ntmps102 ntmps135 ntmps136 ntmps137 ntmps147 ntmps148 ntmps163 ntmps166 ntmps167 ntmps168 ntmps171 ntmps172 ntmps203 ntmps206 ntmps32 ntmps52 ntmps79 ntmps80 results102 results135 results136 results137 results147 results148 results163 results166 results167 results168 results171 results172 results203 results206 results32 results52 results79 results80 runUnderlying142 runUnderlying204 runUnderlying23 runUnderlying241 runUnderlying25 runUnderlying30 runUnderlying4 runUnderlying51 runUnderlying9 sizeOf23 sizeOf241 sizeOf25 sizeOf3 sizeOf30 sizeOf4 sizeOf51 sizeOf9 zeroValue241 zeroValue4 zeroValue51)
open Go Go.E
attribute [local irreducible] Go.E.T Go.E.L Go.E.O Go.E.Ob
def Bools (lo:Nat) (w:World) (v:Value) (bs:List Bool):Prop:=Sl lo w v bs.length 1 (bs.map Value.bool)
theorem Bools.at {w:World} {v:Value} {lo:Nat} {bs:List Bool} (h:Bools lo w v bs) {i:Nat} (h1:i<bs.length):w.cell? ((jd v).add ((i:Int).toNat*1))=some (.bool (bs.getD i true)):=by
 rw [Int.toNat_natCast,Nat.mul_one]
 exact Sl.cell h (by simp [List.getD,h1])
theorem au {α:Type} {xs:List α} {i:Nat} {d:α} (h:i<xs.length):xs.getD i d=xs[i]:=by simp [List.getD,h]
theorem I5 {α:Type} {xs:List α} {i:Nat} {d a:α} (h:i<xs.length) (e:xs.getD i d=a):a∈xs:=by
 rw [au h] at e;exact e▸List.getElem_mem h
theorem Nc {α:Type} {xs:List α} {d a:α} (h:∀ j,j<xs.length→xs.getD j d≠a):a∉xs:=fun hm=>by
 obtain ⟨j,hj,e⟩:=List.getElem_of_mem hm
 exact h j hj (by rw [au hj];exact e)
theorem Nh {α:Type} {xs ys:List α} {d:α} (hl:xs.length=ys.length) (h:∀ j,j<xs.length→xs.getD j d=ys.getD j d):xs=ys:=by
 apply List.ext_getElem hl
 intro j h1 h2
 have:=h j h1
 rwa [au h1,au h2] at this
theorem I7 (lo:Nat) (p:Value) (bs:List Bool) (w:World) (hp:Bools lo w p bs) :
  Calls Tryz.prog 163 #[p,.bool false] w (Ret fun v w'=>∃ r:Int,v = .int .i64 r∧(0≤r↔false∈bs)∧w'=w):=by
 have hle:=Sl.le hp
 refine T.enter (vs:=[p,.bool false]) func163 rfl ntmps163 rfl ?_
 refine T.q (L.a rfl (L.nil (T.seq (T.q (L.m rfl (L.o (O.len runUnderlying204 rfl (Sl.val hp) (L.m rfl (L.nil (T.block (?_)))))))))))
 refine T.loop (σ:=Nat) (fun i=>[(0,p),(1,.bool false),(7,.int .i64 bs.length),(8,.int .i64 i)]) (fun i w'=>i≤bs.length∧w'=w∧∀ j,j<i→bs.getD j true≠false) (fun i=>bs.length-i) (0) ⟨rfl,rfl,rfl,rfl,trivial⟩ ⟨Nat.zero_le _,rfl,fun j hj=>absurd hj (Nat.not_lt_zero _)⟩ ?_
 rintro i w' ⟨hi,rfl,hall⟩
 refine T.q (L.o (O.bF rfl rfl (fun hlt=>?_) (fun hlt=>?_)))
 ·refine L.nil (?_)
  have hlt':i<bs.length:=by omega
  refine T.seq (T.ct (T.skip (T.seq (T.block (T.q (L.m rfl (L.a rfl (L.nil (T.q (L.m rfl (L.m rfl (L.m rfl (L.o (O.indexAddr runUnderlying204 sizeOf4 rfl rfl hp (by omega) (by omega) (L.o (O.load isAgg4 rfl (Bools.at hp hlt') (?_)))))))))))))))))
  by_cases hb:bs.getD i true=false
  ·refine L.o (O.MS runUnderlying4 rfl rfl hb.symm (L.nil (T.ct (T.q (L.m rfl (L.a rfl (L.nil (T.aU results163 rfl ⟨_,rfl,⟨fun _=>I5 hlt' hb,fun _=>by omega⟩,rfl⟩))))))))
  refine L.o (O.MV runUnderlying4 rfl rfl (fun e=>hb e.symm) (L.nil (T.cf (T.skip (T.blk (T.region (L.o (O.aI rfl rfl (by omega) (L.m rfl (L.nil (T.again (i+1) (by omega) ⟨rfl,rfl,rfl,rfl,trivial⟩ ⟨hlt',rfl,fun j hj=>?_⟩)))))))))))
  ·by_cases hji:j=i
   ·subst hji;exact hb
   exact hall j (by omega)
 refine L.nil (T.seq (T.cf (T.exit rfl (T.q (L.a rfl (L.nil (T.aU results163 rfl ⟨_,rfl,⟨fun h=>absurd h (by decide),fun h=>absurd h (Nc (d:=true) fun j hj=>hall j (by omega))⟩,rfl⟩)))))))
theorem zW (lo:Nat) (p:Value) (bs:List Bool) (w:World) (hp:Bools lo w p bs) :
  Calls Tryz.prog 135 #[p,.bool false] w (Ret fun v w'=>v = .bool (!bs.all id)∧w'=w):=by
 refine T.enter (vs:=[p,.bool false]) func135 rfl ntmps135 rfl ?_
 refine T.q (L.a rfl (L.nil (T.q (L.m rfl (L.m rfl (L.o (O.call (xs:=[.tmp 5,.tmp 6]) call163 rfl rfl (I7 lo p bs w hp) (fun v1 w1 hq=>?_))))))))
 obtain ⟨r,rfl,hr,rfl⟩:=hq
 refine L.o (O.zT rfl rfl (fun h0=>?_) (fun h0=>?_))
 ·refine L.a rfl (L.nil (T.aU results135 rfl ⟨by rw [show bs.all id=false from List.all_eq_false.2 ⟨false,hr.1 h0,by simp⟩];rfl,rfl⟩))
 refine L.a rfl (L.nil (T.aU results135 rfl ⟨by rw [show bs.all id=true from List.all_eq_true.2 fun b hb=>(by cases b with|true=>rfl|false=>exact absurd (hr.2 hb) h0)];rfl,rfl⟩))
theorem iI (lo:Nat) (p:Value) (bs:List Bool) (w:World) (hp:Bools lo w p bs) :
  Calls Tryz.prog 79 #[p] w (Ret fun v w'=>v = .bool (bs.all id)∧w'=w):=by
 refine T.enter (vs:=[p]) func79 rfl ntmps79 rfl ?_
 refine T.q (L.a rfl (L.nil (T.q (L.m rfl (L.o (O.call (xs:=[.tmp 3,.const (.bool false)]) call135 rfl rfl (zW lo p bs w hp) (fun v1 w1 hq=>?_)))))))
 obtain ⟨rfl,rfl⟩:=hq
 refine L.o (O.not rfl (L.a rfl (L.nil (T.aU results79 rfl ⟨by simp,rfl⟩))))
open Go Go.E
def inB (m x:Int):Bool:=decide (0≤x) && decide (x≤m)
def bM (xs:List Int) (n m:Int):Bool:=decide ((xs.length:Int)=n) && xs.all (inB m)
theorem Nj {xs:List Int} {n m:Int} (h:¬ (xs.length:Int)=n):bM xs n m=false:=by simp [bM,h]
theorem AP {xs:List Int} {n m:Int} (h:∀ j,j<xs.length→0≤xs.getD j 0∧xs.getD j 0≤m):bM xs n m=decide ((xs.length:Int)=n):=by
 have:xs.all (inB m)=true:=List.all_eq_true.2 fun x hx=>by
  obtain ⟨j,hj,rfl⟩:=List.getElem_of_mem hx
  have:=h j hj
  rw [au hj] at this
  simpa [inB] using this
 simp [bM,this]
theorem within_iff {xs:List Int} {n m:Int} : bM xs n m=true↔(xs.length:Int)=n∧∀ j,j<xs.length→0≤xs.getD j 0∧xs.getD j 0≤m:=by
 constructor
 ·intro h
  simp only [bM,Bool.and_eq_true,decide_eq_true_eq] at h
  refine ⟨h.1,fun j hj=>?_⟩
  have:=List.all_eq_true.1 h.2 xs[j] (List.getElem_mem hj)
  rw [au hj];simpa [inB] using this
 rintro ⟨h1,h2⟩;rw [AP h2,decide_eq_true h1]
theorem CZ (b:Nat) (t:TypeId) (x m:Int) (w:World) (hb:Blk w b [.int .i64 m] t) :
  Calls Tryz.prog 172 #[.int .i64 x,.pointer (some ⟨b,0,none⟩)] w (Ret fun v w'=>v = .bool (decide (x<0∨m<x))∧w'=w):=by
 refine T.enter (vs:=[.int .i64 x,.pointer (some ⟨b,0,none⟩)]) func172 rfl ntmps172 rfl ?_
 refine T.q (L.a rfl (L.nil (T.q (L.m rfl (L.o (O.bF rfl rfl (fun h0=>?_) (fun h0=>?_)))))))
 ·refine L.m rfl (L.p (L.p (L.p (L.o (O.ah rfl rfl (L.a rfl (L.nil (T.aU results172 rfl ⟨by rw [decide_eq_true (.inl h0)],rfl⟩))))))))
 refine L.m rfl (L.m rfl (L.o (O.load isAgg3 rfl (hb.cell rfl) (L.o (O.jS rfl rfl (fun h1=>?_) (fun h1=>?_))))))
 ·refine L.o (O.aj rfl rfl (L.a rfl (L.nil (T.aU results172 rfl ⟨by rw [decide_eq_true (.inr h1)],rfl⟩))))
 refine L.o (O.aj rfl rfl (L.a rfl (L.nil (T.aU results172 rfl ⟨by rw [decide_eq_false (by omega)],rfl⟩))))
theorem Fe (lo b:Nat) (t:TypeId) (p:Value) (xs:List Int) (m:Int) (w:World) (hp:Ints .i64 lo w p xs) (hb:Blk w b [.int .i64 m] t) :
  Calls Tryz.prog 206 #[p,.func (.func 172) #[] #[.pointer (some ⟨b,0,none⟩)]] w (Ret fun v w'=>∃ r:Int,v = .int .i64 r∧(0≤r↔¬ ∀ j,j<xs.length→0≤xs.getD j 0∧xs.getD j 0≤m)∧w'=w):=by
 have hle:=Sl.le hp
 refine T.enter (vs:=[p,.func (.func 172) #[] #[.pointer (some ⟨b,0,none⟩)]]) func206 rfl ntmps206 rfl ?_
 refine T.q (L.a rfl (L.nil (T.seq (T.q (L.m rfl (L.o (O.len runUnderlying30 rfl (Sl.val hp) (L.m rfl (L.nil (T.block (?_)))))))))))
 refine T.loop (σ:=Nat) (fun i=>[(0,p),(1,.func (.func 172) #[] #[.pointer (some ⟨b,0,none⟩)]),(7,.int .i64 xs.length),(8,.int .i64 i)]) (fun i w'=>i≤xs.length∧w'=w∧∀ j,j<i→0≤xs.getD j 0∧xs.getD j 0≤m) (fun i=>xs.length-i) (0) ⟨rfl,rfl,rfl,rfl,trivial⟩ ⟨Nat.zero_le _,rfl,fun j hj=>absurd hj (Nat.not_lt_zero _)⟩ ?_
 rintro i w' ⟨hi,rfl,hall⟩
 refine T.q (L.o (O.bF rfl rfl (fun hlt=>?_) (fun hlt=>?_)))
 ·refine L.nil (?_)
  have hlt':i<xs.length:=by omega
  refine T.seq (T.ct (T.skip (T.seq (T.block (T.q (L.m rfl (L.a rfl (L.nil (T.q (L.m rfl (L.m rfl (L.m rfl (L.o (O.indexAddr runUnderlying30 sizeOf3 rfl rfl hp (by omega) (by omega) (L.o (O.load isAgg3 rfl (Ints.at hp hlt') (L.o (O.call (xs:=[.tmp 15]) call172 rfl rfl (CZ b t (xs.getD i 0) m w' hb) (fun v1 w1 hq=>?_)))))))))))))))))))
  obtain ⟨rfl,rfl⟩:=hq
  refine L.nil (?_)
  refine T.qj rfl (fun hb1=>?_) (fun hb1=>?_)
  ·refine T.q (L.m rfl (L.a rfl (L.nil (T.aU results206 rfl ⟨_,rfl,⟨fun _ h=>by have:=h i hlt';omega,fun _=>by omega⟩,rfl⟩))))
  refine T.skip (T.blk (T.region (L.o (O.aI rfl rfl (by omega) (L.m rfl (L.nil (T.again (i+1) (by omega) ⟨rfl,rfl,rfl,rfl,trivial⟩ ⟨hlt',rfl,fun j hj=>?_⟩)))))))
  ·by_cases hji:j=i
   ·subst hji;omega
   exact hall j (by omega)
 refine L.nil (T.seq (T.cf (T.exit rfl (T.q (L.a rfl (L.nil (T.aU results206 rfl ⟨_,rfl,⟨fun h=>absurd h (by decide),fun h=>absurd (fun j hj=>hall j (by omega)) h⟩,rfl⟩)))))))
theorem xH (lo b:Nat) (t:TypeId) (p:Value) (xs:List Int) (m:Int) (w:World) (hp:Ints .i64 lo w p xs) (hb:Blk w b [.int .i64 m] t) :
  Calls Tryz.prog 171 #[p,.func (.func 172) #[] #[.pointer (some ⟨b,0,none⟩)]] w (Ret fun v w'=>v = .bool (!decide (∀ j,j<xs.length→0≤xs.getD j 0∧xs.getD j 0≤m))∧w'=w):=by
 refine T.enter (vs:=[p,.func (.func 172) #[] #[.pointer (some ⟨b,0,none⟩)]]) func171 rfl ntmps171 rfl ?_
 refine T.q (L.a rfl (L.nil (T.q (L.m rfl (L.m rfl (L.o (O.call (xs:=[.tmp 5,.tmp 6]) call206 rfl rfl (Fe lo b t p xs m w hp hb) (fun v1 w1 hq=>?_))))))))
 obtain ⟨r,rfl,hr,rfl⟩:=hq
 refine L.o (O.zT rfl rfl (fun h0=>?_) (fun h0=>?_))
 ·refine L.a rfl (L.nil (T.aU results171 rfl ⟨by rw [decide_eq_false (hr.1 h0)];rfl,rfl⟩))
 refine L.a rfl (L.nil (T.aU results171 rfl ⟨by rw [decide_eq_true (Classical.not_not.1 fun hn=>h0 (hr.2 hn))];rfl,rfl⟩))
theorem mD (lo:Nat) (p:Value) (xs:List Int) (n m:Int) (w:World) (hp:Ints .i64 lo w p xs) :
  Calls Tryz.prog 137 #[p,.int .i64 n,.int .i64 m] w (Ret fun v w'=>v = .bool (bM xs n m)∧Ext w w'):=by
 have hle:=Sl.le hp
 refine T.enter (vs:=[p,.int .i64 n,.int .i64 m]) func137 rfl ntmps137 rfl ?_
 refine T.q (L.o (O.box rfl (fun b1 w1 hb1 hz1 he1 hB1=>?_)))
 have hp1:=hp.keep (he1.mono (Nat.zero_le lo))
 refine L.a rfl (L.nil (T.q (L.m rfl (L.o (O.len runUnderlying30 rfl (Sl.val hp1) (L.m rfl (L.o (O.jw rfl rfl (fun hl=>?_) (fun hl=>?_)))))))))
 ·refine L.m rfl (L.m rfl (L.o (O.makeFunc (fi:=[]) (ca:=[.tmp 5]) rfl rfl (L.o (O.call (xs:=[.tmp 12,.tmp 13]) call171 rfl rfl (xH lo b1 _ p xs m w1 hp1 hB1) (fun v2 w2 hq=>?_))))))
  obtain ⟨rfl,rfl⟩:=hq
  refine L.o (O.not rfl (L.o (O.ah rfl rfl (L.a rfl (L.nil (T.aU results137 rfl ⟨?_,he1⟩))))))
  by_cases h:∀ j,j<xs.length→0≤xs.getD j 0∧xs.getD j 0≤m
  ·rw [AP h,decide_eq_true h,decide_eq_true hl];rfl
  rw [decide_eq_false h]
  have:bM xs n m=false:=by
   cases hc:bM xs n m
   ·rfl
   exact absurd (within_iff.1 hc).2 h
  rw [this];rfl
 refine L.m rfl (L.p (L.p (L.p (L.p (L.o (O.aj rfl rfl (L.a rfl (L.nil (T.aU results137 rfl ⟨by rw [Nj hl],he1⟩)))))))))
open Go Go.E
def letters:Str:=[65,66,67,68,69,70,71,72,73,74,75,76,77,78,79,80,81,82,83,84,85,86,87,88,89,90,97,98,99,100,101,102] ++ [103,104,105,106,107,108,109,110,111,112,113,114,115,116,117,118,119,120,121,122,48,49,50,51,52,53,54,55,56,57,45,95]
def gU (c:UInt8):Bool:=(decide (65≤c.toNat) && decide (c.toNat≤90)) || ((decide (97≤c.toNat) && decide (c.toNat≤122)) || ((decide (48≤c.toNat) && decide (c.toNat≤57)) || (decide (c.toNat=45) || decide (c.toNat=95))))
theorem UO {c:UInt8} : gU c=true↔(65≤c.toNat∧c.toNat≤90)∨(97≤c.toNat∧c.toNat≤122)∨(48≤c.toNat∧c.toNat≤57)∨c.toNat=45∨c.toNat=95:=by
 simp only [gU,Bool.or_eq_true,Bool.and_eq_true,decide_eq_true_eq]
def Fg (s:Str):Bool:=s.all gU && (decide (1≤s.length) && decide (s.length≤12))
theorem pG {s:Str} (h:∀ j,j<s.length→gU (s.getD j 0)=true):s.all gU=true:=List.all_eq_true.2 fun x hx=>by
 obtain ⟨j,hj,rfl⟩:=List.getElem_of_mem hx
 have:=h j hj
 rwa [au hj] at this
theorem C9 {s:Str} (h:s.all gU=true) {j:Nat} (hj:j<s.length):gU (s.getD j 0)=true:=by
 rw [au hj];exact List.all_eq_true.1 h _ (List.getElem_mem hj)
theorem good_step {s:Str} {i:Nat} (hall:∀ j,j<i→gU (s.getD j 0)=true) (h:gU (s.getD i 0)=true):∀ j,j<i+1→gU (s.getD j 0)=true:=fun j hj=>by
 by_cases hji:j=i
 ·subst hji;exact h
 exact hall j (by omega)
def dD (s:Str):Nat→List Value
 | 0=>List.replicate 256 (.bool false)
 | i+1=>(dD s i).set (s.getD i 0).toNat (.bool true)
theorem fE (s:Str):∀ i,(dD s i).length=256
 | 0=>by simp [dD]
 | i+1=>by simp [dD,fE s i]
def ad9 (c:Nat):Bool:=(decide (65≤c) && decide (c≤90)) || ((decide (97≤c) && decide (c≤122)) || ((decide (48≤c) && decide (c≤57)) || (decide (c=45) || decide (c=95))))
theorem Dc:dD letters 64=(List.range 256).map fun c=>Value.bool (ad9 c):=by kernel_rfl
theorem pI (s:Str):∀ i,∀ u∈dD s i,u.oneCell'=true
 | 0=>fun u hu=>by obtain ⟨_,rfl⟩:=List.mem_replicate.1 hu;rfl
 | i+1=>fun u hu=>by
  rcases List.mem_or_eq_of_mem_set hu with h|h
  ·exact pI s i u h
  subst h;rfl
theorem Qh (c:UInt8):(dD letters 64)[c.toNat]?=some (.bool (gU c)):=by
 rw [Dc]
 have:c.toNat<256:=c.toNat_lt
 simp [this];rfl
theorem I8:∀ j,j<letters.length→(letters.getD j 0).toNat<128:=by decide +kernel
theorem I9 (w:World) :
  Calls Tryz.prog 166 #[str letters] w (Ret fun v w'=>Ext w w'∧v = .tuple #[.agg (dD letters 64).toArray,.bool true]):=by
 refine T.enter (vs:=[str letters]) func166 rfl ntmps166 rfl ?_
 refine T.q (L.o (O.alloc zeroValue241 (fun b1 w1 hb1 hz1 he1 hB1=>?_)))
 have hll:letters.length=64:=by decide
 refine L.a rfl (L.nil (T.seq (T.q (L.a rfl (L.nil (T.block (?_)))))))
 refine T.loop (σ:=Nat) (fun i=>[(0,str letters),(2,.pointer (some ⟨b1,0,none⟩)),(4,.int .i64 i)]) (fun i w'=>i≤64∧Ext w w'∧Blk w' b1 (dD letters i) 241) (fun i=>64-i) (0) ⟨rfl,rfl,rfl,trivial⟩ ⟨Nat.zero_le _,he1,hB1⟩ ?_
 rintro i w2 ⟨hi,he2,hB2⟩
 refine T.seq (T.q (L.m rfl (L.m rfl (L.o (O.gu runUnderlying9 rfl (L.o (O.bF rfl rfl (fun hlt=>?_) (fun hlt=>?_))))))))
 ·refine L.nil (?_)
  have hlt':i<letters.length:=by omega
  have hlow:=I8 i hlt'
  refine T.ct (T.skip (T.seq (T.block (T.q (L.m rfl (L.m rfl (L.o (O.PY runUnderlying9 rfl rfl (by omega) (L.a rfl (L.nil (T.seq (T.q (L.m rfl (L.o (O.Pq rfl rfl (by omega) (L.nil (T.cf (T.skip (T.region (L.m rfl (L.o (O.ql runUnderlying241 sizeOf4 rfl rfl (by omega) (by omega) (L.o (O.bD sizeOf4 rfl rfl rfl hB2 (by rw [fE];omega) (fun w3 hu3 hB3=>?_)))))))))))))))))))))))))
  refine L.nil (T.blk (T.region (L.m rfl (L.o (O.aI rfl rfl (by omega) (L.a rfl (L.nil (T.again (i+1) (by omega) ⟨rfl,rfl,rfl,trivial⟩ ⟨by omega,he2.upd hu3 (.inr (by omega)),?_⟩))))))))
  ·have e:(0+((((letters.getD i 0).toNat:Nat):Int).toNat*1))=(letters.getD i 0).toNat:=by rw [Int.toNat_natCast];omega
   rw [dD,← e];exact hB3
 refine L.nil (?_)
 obtain rfl:i=64:=by omega
 refine T.cf (T.exit rfl (T.q (L.o (O.ak isAgg241 sizeOf241 (fE _ _) rfl (Row.ay hB2) (L.o (O.aC sizeOf241 (fE _ _) rfl rfl hB2 (by rw [fE];decide) (pI _ _) (fun w3 hu3 hB3=>?_)))))))
 have he3:=he2.upd hu3 (.inr (by omega))
 have ac8:Blk w3 b1 (dD letters 64) 241:=by rw [show (dD letters 64).take 0++dD letters 64++(dD letters 64).drop (0+256)=dD letters 64 by rw [List.drop_eq_nil_of_le (by rw [fE];decide)];simp] at hB3;exact hB3
 refine L.a rfl (L.nil (T.ad5 results166 isAgg241 sizeOf241 (fE _ _) rfl rfl (Row.ay ac8) ⟨he3,rfl⟩))
theorem Fh (b:Nat) (t:TypeId) (c:UInt8) (w:World) (hb:Blk w b (dD letters 64) t) :
  Calls Tryz.prog 203 #[.pointer (some ⟨b,0,none⟩),.int .u8 (c.toNat:Int)] w (Ret fun v w'=>v = .bool (gU c)∧w'=w):=by
 have hc:c.toNat<256:=c.toNat_lt
 refine T.enter (vs:=[.pointer (some ⟨b,0,none⟩),.int .u8 (c.toNat:Int)]) func203 rfl ntmps203 rfl ?_
 refine T.q (L.a rfl (L.nil (T.q (L.m rfl (L.m rfl (L.o (O.nilCheck rfl (L.o (O.ql runUnderlying241 sizeOf4 rfl rfl (by omega) (by omega) (L.o (O.load isAgg4 rfl (by rw [xg];exact hb.cell (by rw [show 0+(((c.toNat:Nat):Int).toNat*1)=c.toNat by rw [Int.toNat_natCast];omega];exact Qh c)) (L.a rfl (L.nil (T.aU results203 rfl ⟨rfl,rfl⟩))))))))))))))
theorem Ja (b:Nat) (t:TypeId) (s:Str) (w:World) (hb:Blk w b (dD letters 64) t) (hn:s.length≤9223372036854775807) :
  Calls Tryz.prog 168 #[str s,.pointer (some ⟨b,0,none⟩)] w (Ret fun v w'=>w'=w∧∃ n,v=str (s.take n)∧n≤s.length∧(∀ j,n≤j→j<s.length→gU (s.getD j 0)=true)∧(n=0∨¬ gU (s.getD (n-1) 0)=true)):=by
 refine T.enter (vs:=[str s,.pointer (some ⟨b,0,none⟩)]) func168 rfl ntmps168 rfl ?_
 refine T.q (L.a rfl (L.nil (T.seq (T.block (?_)))))
 refine T.loop (σ:=Nat) (fun n=>[(0,str (s.take n)),(1,.pointer (some ⟨b,0,none⟩))]) (fun n w'=>n≤s.length∧w'=w∧∀ j,n≤j→j<s.length→gU (s.getD j 0)=true) (fun n=>n) (s.length) ⟨?_,rfl,trivial⟩ ⟨Nat.le_refl _,rfl,fun j h1 h2=>absurd h2 (by omega)⟩ ?_
 ·rw [List.take_length];rfl
 rintro n w' ⟨hi,rfl,hall⟩
 have hln:(s.take n).length=n:=by rw [List.length_take];omega
 refine T.seq (T.q (L.m rfl (L.o (O.gu runUnderlying9 rfl (L.o (O.jS rfl rfl (fun hlt=>?_) (fun hlt=>?_)))))))
 ·refine L.nil (?_)
  have hn0:0<n:=by omega
  refine T.ct (T.skip (T.block (T.seq (T.q (L.m rfl (L.m rfl (L.m rfl (L.o (O.gu runUnderlying9 rfl (L.o (O.gq rfl rfl (by omega) (L.o (O.jf runUnderlying9 rfl rfl (by omega) (by omega) (?_))))))))))))))
  have hgt:(s.take n).getD (((s.take n).length:Int)-1).toNat 0=s.getD (n-1) 0:=by rw [hln,show ((n:Int)-1).toNat=n-1 by omega,au (by omega),au (by omega),List.getElem_take]
  refine L.o (O.call (xs:=[.tmp 8,.tmp 13]) call203 rfl rfl (Fh b t ((s.take n).getD (((s.take n).length:Int)-1).toNat 0) w' hb) (fun v1 w1 hq=>?_))
  obtain ⟨rfl,rfl⟩:=hq
  cases hg:gU ((s.take n).getD (((s.take n).length:Int)-1).toNat 0)
  ·refine L.o (O.not rfl (L.nil (T.ct (T.exit rfl (T.q (L.m rfl (L.a rfl (L.nil (T.aU results168 rfl ⟨rfl,n,rfl,hi,hall,.inr (by rw [← hgt,hg];decide)⟩)))))))))
  refine L.o (O.not rfl (L.nil (T.cf (T.skip (T.region (L.m rfl (L.m rfl (L.o (O.gu runUnderlying9 rfl (L.o (O.gq rfl rfl (by omega) (L.o (O.o8 runUnderlying9 rfl rfl (by omega) (by omega) (L.a rfl (L.nil (T.blk (T.again (n-1) (by omega) ⟨?_,rfl,trivial⟩ ⟨by omega,rfl,fun j h1 h2=>?_⟩)))))))))))))))))
  ·rw [List.take_take];rw [show min (((s.take n).length:Int)-1).toNat n=n-1 by omega];rfl
  by_cases hj:j=n-1
  ·subst hj;rw [← hgt];exact hg
  exact hall j (by omega) h2
 refine L.nil (T.cf (T.exit rfl (T.q (L.m rfl (L.a rfl (L.nil (T.aU results168 rfl ⟨rfl,n,rfl,hi,hall,.inl (by omega)⟩)))))))
theorem Jb (b:Nat) (t:TypeId) (s:Str) (w:World) (hb:Blk w b (dD letters 64) t) (hn:s.length≤9223372036854775807) :
  Calls Tryz.prog 167 #[str s,.pointer (some ⟨b,0,none⟩)] w (Ret fun v w'=>w'=w∧∃ u,v=str u∧(u = []↔s.all gU=true)):=by
 refine T.enter (vs:=[str s,.pointer (some ⟨b,0,none⟩)]) func167 rfl ntmps167 rfl ?_
 refine T.q (L.a rfl (L.nil (T.seq (T.block (?_)))))
 refine T.loop (σ:=Nat) (fun n=>[(0,str (s.drop n)),(1,.pointer (some ⟨b,0,none⟩))]) (fun n w'=>n≤s.length∧w'=w∧∀ j,j<n→gU (s.getD j 0)=true) (fun n=>s.length-n) (0) ⟨rfl,rfl,trivial⟩ ⟨Nat.zero_le _,rfl,fun j h1=>absurd h1 (by omega)⟩ ?_
 rintro n w' ⟨hi,rfl,hall⟩
 have hln:(s.drop n).length=s.length-n:=List.length_drop
 refine T.seq (T.q (L.m rfl (L.o (O.gu runUnderlying9 rfl (L.o (O.jS rfl rfl (fun hlt=>?_) (fun hlt=>?_)))))))
 ·refine L.nil (?_)
  have hn0:n<s.length:=by omega
  refine T.ct (T.skip (T.block (T.seq (T.q (L.m rfl (L.m rfl (L.o (O.jf runUnderlying9 rfl rfl (by decide) (by rw [hln];simp;omega) (?_)))))))))
  have hgt:(s.drop n).getD (0:Int).toNat 0=s.getD n 0:=by rw [show ((0:Int)).toNat=0 from rfl,au (by omega),au (by omega),List.getElem_drop];rfl
  refine L.o (O.call (xs:=[.tmp 8,.tmp 10]) call203 rfl rfl (Fh b t ((s.drop n).getD (0:Int).toNat 0) w' hb) (fun v1 w1 hq=>?_))
  obtain ⟨rfl,rfl⟩:=hq
  cases hg:gU ((s.drop n).getD (0:Int).toNat 0)
  ·refine L.o (O.not rfl (L.nil (T.ct (T.exit rfl (T.q (L.m rfl (L.a rfl (L.nil (T.aU results167 rfl ⟨rfl,_,rfl,fun h=>absurd (congrArg List.length h) (by rw [hln];simp;omega),fun h=>absurd (C9 h hn0) (by rw [← hgt,hg];decide)⟩)))))))))
  refine L.o (O.not rfl (L.nil (T.cf (T.skip (T.region (L.m rfl (L.o (O.IQ runUnderlying9 rfl rfl (by decide) (by rw [hln];show 1≤_;omega) (L.a rfl (L.nil (T.blk (T.again (n+1) (by omega) ⟨?_,rfl,trivial⟩ ⟨by omega,rfl,good_step hall (by rw [← hgt];exact hg)⟩))))))))))))
  ·rw [List.drop_drop];rfl
 refine L.nil (T.cf (T.exit rfl (T.q (L.m rfl (L.a rfl (L.nil (T.aU results167 rfl ⟨rfl,_,rfl,fun _=>pG (fun j hj=>hall j (by omega)),fun _=>List.drop_eq_nil_of_le (by omega)⟩)))))))
theorem Nk (s:Str) (w:World) (hn:s.length≤9223372036854775807) :
  Calls Tryz.prog 136 #[str s,str letters] w (Ret fun v w'=>Ext w w'∧∃ u,v=str u∧(u = []↔s.all gU=true)):=by
 refine T.enter (vs:=[str s,str letters]) func136 rfl ntmps136 rfl ?_
 refine T.q (L.a rfl (L.nil (T.seq (T.q (L.m rfl (L.o (O.qx runUnderlying9 rfl rfl (fun h0=>?_) (fun h0=>?_))))))))
 ·refine L.m rfl (L.p (L.p (L.o (O.ah rfl rfl (L.nil (T.ct (T.q (L.m rfl (L.a rfl (L.nil (T.aU results136 rfl ⟨Keep.refl _ _,[],by rw [h0],by rw [h0];simp⟩)))))))))))
 refine L.m rfl (L.m rfl (L.o (O.aA runUnderlying9 rfl rfl (by decide) (L.o (O.aj rfl rfl (L.nil (T.cf (T.skip (T.seq (T.q (L.m rfl (L.o (O.gu runUnderlying9 rfl (L.o (O.gX rfl rfl (by decide) (L.m rfl (L.p (L.p (L.p (L.o (O.aj rfl rfl (L.nil (T.cf (T.skip (T.seq (T.q (?_)))))))))))))))))))))))))))
 refine L.m rfl (L.o (O.call (xs:=[.tmp 30]) call166 rfl rfl (I9 w) (fun v1 w1 hq=>?_)))
 obtain ⟨he1,rfl⟩:=hq
 refine L.m rfl (L.o (O.extract rfl rfl (L.o (O.extract rfl rfl (L.o (O.alloc zeroValue241 (fun b2 w2 hb2 hz2 he2 hB2=>?_)))))))
 refine L.o (O.aC sizeOf241 (fE _ _) rfl rfl hB2 (by decide) (pI _ _) (fun w3 hu3 hB3=>?_))
 have ac8:Blk w3 b2 (dD letters 64) 241:=by rw [show ∀ cs:List Value,cs.length=256→cs.take 0++dD letters 64++cs.drop (0+256)=dD letters 64 from fun cs hc=>by rw [List.drop_eq_nil_of_le (by omega)];simp] at hB3;exact hB3;decide
 have he3:=(he1.trans he2).upd hu3 (.inr (by have:=he1.size;omega))
 skip
 ·refine L.a rfl (L.nil (T.q (L.m rfl (L.nil (T.ct (T.q (L.m rfl (L.o (O.call (xs:=[.tmp 35,.tmp 5]) call168 rfl rfl (Ja b2 _ s w3 ac8 hn) (fun v4 w4 hq=>?_))))))))))
  obtain ⟨rfl,n,rfl,hn4,hall,hend⟩:=hq
  refine L.o (O.call (xs:=[.tmp 36,.tmp 5]) call167 rfl rfl (Jb b2 _ (s.take n) w4 ac8 (by rw [List.length_take];omega)) (fun v5 w5 hq=>?_))
  obtain ⟨rfl,u,rfl,hu⟩:=hq
  refine L.a rfl (L.nil (T.aU results136 rfl ⟨he3,u,rfl,?_⟩))
  rw [hu]
  constructor
  ·intro h
   refine pG fun j hj=>?_
   rcases Nat.lt_or_ge j n with h1|h1
   ·have:=C9 h (j:=j) (by rw [List.length_take];omega)
    rwa [au (by rw [List.length_take];omega),List.getElem_take,← au (d:=0)] at this
   exact hall j h1 hj
  intro h
  refine pG fun j hj=>?_
  rw [List.length_take] at hj
  have:=C9 h (j:=j) (by omega)
  rwa [au (by rw [List.length_take];omega),List.getElem_take,← au (d:=0)]
open Go Go.E
structure UnV where
 nm:Str
 pp:Int
 gv:Value
 gs:List Int
 vv:Value
 vs:List Int
 pv:Value
 ps:List Int
 wt:Bool
def u0:UnV:=⟨[],0,.slice none 0 0,[],.slice none 0 0,[],.slice none 0 0,[],false⟩
def UnV.cells (u:UnV):List Value:=[str u.nm,.int .i64 u.pp,u.gv,u.vv,u.pv,.bool u.wt]
def UnV.val (u:UnV):Value:=.agg u.cells.toArray
structure UnV.ok (lo:Nat) (w:World) (u:UnV):Prop where
 g:Ints .i64 lo w u.gv u.gs
 v:Ints .i64 lo w u.vv u.vs
 p:Ints .i64 lo w u.pv u.ps
 n:u.nm.length≤9223372036854775807
theorem UnV.ok.keep {lo:Nat} {w w':World} {u:UnV} (h:u.ok lo w) (k:Keep lo w w'):u.ok lo w':=⟨h.g.keep k,h.v.keep k,h.p.keep k,h.n⟩
theorem UnV.ok.mono {lo lo':Nat} {w:World} {u:UnV} (h:u.ok lo w) (hl:lo'≤lo):u.ok lo' w:=⟨h.g.mono hl,h.v.mono hl,h.p.mono hl,h.n⟩
theorem UnV.Qi (u:UnV):u.cells.length=6:=rfl
def fF (us:List UnV):List Value:=(us.map UnV.cells).flatten
theorem qG (us vs:List UnV):fF (us++vs)=fF us++fF vs:=by simp [fF]
theorem sF (u:UnV):fF [u]=u.cells:=by simp [fF]
theorem xI:∀ (us:List UnV) (n:Nat),(fF us).take (n*6)=fF (us.take n)
 | [],n=>by simp [fF]
 | u::r,0=>by simp [fF]
 | u::r,n+1=>by
  have:=xI r n
  simp only [fF,List.map_cons,List.flatten_cons,List.take_succ_cons] at this ⊢
  rw [show (n+1)*6=u.cells.length+n*6 by rw [u.Qi];omega,List.take_length_add_append,this]
theorem zX {lo:Nat} {w:World} {us:List UnV} (h:∀ u∈us,u.ok lo w):∀ c∈fF us,c.oneCell'=true:=fun c hc=>by
 obtain ⟨l,hl,hc2⟩:=List.mem_flatten.1 hc
 obtain ⟨u,hu,rfl⟩:=List.mem_map.1 hl
 have ho:=h u hu
 simp only [UnV.cells,List.mem_cons,List.mem_nil_iff,or_false] at hc2
 rcases hc2 with rfl|rfl|rfl|rfl|rfl|rfl
 ·rfl
 ·rfl
 ·exact Sl.one ho.g
 ·exact Sl.one ho.v
 ·exact Sl.one ho.p
 rfl
theorem UnV.ok.one {lo:Nat} {w:World} {u:UnV} (h:u.ok lo w):∀ c∈u.cells,c.oneCell'=true:=fun c hc=>zX (us:=[u]) (fun x hx=>by rw [List.mem_singleton.1 hx];exact h) c (by rw [sF];exact hc)
structure Units (lo:Nat) (w:World) (v:Value) (us:List UnV):Prop where
 sl:Sl lo w v us.length 6 (fF us)
 ok:∀ u∈us,u.ok lo w
theorem Units.keep {lo:Nat} {w w':World} {v:Value} {us:List UnV} (h:Units lo w v us) (k:Keep lo w w'):Units lo w' v us:=⟨h.sl.keep k,fun u hu=>(h.ok u hu).keep k⟩
theorem Units.mono {lo lo':Nat} {w:World} {v:Value} {us:List UnV} (h:Units lo w v us) (hl:lo'≤lo):Units lo' w v us:=⟨h.sl.mono hl,fun u hu=>(h.ok u hu).mono hl⟩
theorem Units.row {lo:Nat} {w:World} {v:Value} {us:List UnV} (h:Units lo w v us) {i:Nat} (hi:i<us.length):Row w ((jd v).add ((i:Int).toNat*6)) (us.getD i u0).cells:=by
 rw [Int.toNat_natCast]
 refine Sl.elem h.sl (fun c hc=>?_) (i:=i) ?_ (by omega)
 ·obtain ⟨u,_,rfl⟩:=List.mem_map.1 hc;rfl
 simp [List.getD,hi]
theorem Units.at {lo:Nat} {w:World} {v:Value} {us:List UnV} (h:Units lo w v us) {i:Nat} (hi:i<us.length):(us.getD i u0).ok lo w:=h.ok _ (by rw [au hi];exact List.getElem_mem hi)
structure RoV where
 G:Int
 P:Int
 L:Int
 uv:Value
 us:List UnV
def RoV.cells (r:RoV):List Value:=[.int .i64 r.G,.int .i64 r.P,.int .i64 r.L,r.uv]
def RoV.val (r:RoV):Value:=.agg r.cells.toArray
def RoV.ok (lo:Nat) (w:World) (r:RoV):Prop:=Units lo w r.uv r.us
theorem RoV.ok.keep {lo:Nat} {w w':World} {r:RoV} (h:r.ok lo w) (k:Keep lo w w'):r.ok lo w':=Units.keep h k
theorem RoV.ok.ext {lo:Nat} {w w':World} {r:RoV} (h:r.ok lo w) (k:Ext w w'):r.ok lo w':=Units.keep h (k.mono (Nat.zero_le _))
theorem UnV.ok.ext {lo:Nat} {w w':World} {u:UnV} (h:u.ok lo w) (k:Ext w w'):u.ok lo w':=h.keep (k.mono (Nat.zero_le _))
theorem Units.ext {lo:Nat} {w w':World} {v:Value} {us:List UnV} (h:Units lo w v us) (k:Ext w w'):Units lo w' v us:=h.keep (k.mono (Nat.zero_le _))
def fK (u:UnV):Int:=if u.wt then 0 else 1000000000
def mF (u:UnV):Int:=if u.wt then 0 else 63
def sG (r:RoV) (u:UnV):List Bool:=[!decide (u.nm = []),decide ((u.nm.length:Int)≤12),u.nm.all gU,decide (0≤u.pp),decide (u.pp≤fK u),bM u.gs r.G u.pp,bM u.vs r.P (fK u),bM u.ps r.L (mF u)]
def bU (r:RoV) (u:UnV):Bool:=(sG r u).all id
theorem gG {w:World} {b lo:Nat} {bs:List Bool} {t:TypeId} {n:Nat} (h:Blk w b (bs.map Value.bool) t) (hn:bs.length=n) (hm:n≤maxLen) (hlo:lo≤b):Bools lo w (.slice (some ⟨b,0,none⟩) n n) bs:=by
 subst hn;exact Sl.ay h (by simp) (Nat.le_refl _) hm hlo
def xJ (s:Str) (v:Value) (w:World):Prop:=∃ t,v=str t∧(t = []↔s.all gU=true)
theorem xJ.st {s:Str} : ∀ v w w',Ext w w'→xJ s v w→xJ s v w':=fun _ _ _ _ h=>h
theorem lF (lo:Nat) (r:RoV) (u:UnV) (w:World) (hu:u.ok lo w) :
  Calls Tryz.prog 80 #[r.val,u.val] w (Ret fun v w'=>v = .bool (bU r u)∧Ext w w'):=by
 refine T.enter (vs:=[r.val,u.val]) func80 rfl ntmps80 rfl ?_
 refine T.q (L.o (O.box rfl (fun b1 w1 hb1 hz1 he1 hB1=>?_)))
 refine L.o (O.box rfl (fun b2 w2 hb2 hz2 he2 hB2=>?_))
 have zY:=he1.trans he2
 have hC1:Blk w2 b1 r.cells _:=hB1.ext he2
 have hC2:Blk w2 b2 u.cells _:=hB2
 refine L.a rfl (L.nil (T.q (L.a rfl (L.a rfl (L.nil (T.seq (T.q (L.o (O.fieldAddr runUnderlying51 rfl sizeOf4 rfl (L.o (O.load isAgg4 rfl (hC2.cell rfl) (?_))))))))))))
 have hu2:=hu.ext zY
 refine L.nil (?_)
 refine T.join (σ:=Unit) (fun _=>[(2,.pointer (some ⟨b1,0,none⟩)),(3,.pointer (some ⟨b2,0,none⟩)),(5,.int .i64 (fK u)),(6,.int .i64 (mF u))]) (fun _ w'=>w'=w2) ?_ ?_
 ·have hq:u.wt=u.wt:=rfl
  rcases hwt:u.wt with _|_
  ·refine T.cf (T.skip (T.meet (()) ⟨rfl,rfl,?_,?_,trivial⟩ rfl))
   ·rw [fK,hwt];rfl
   rw [mF,hwt];rfl
  refine T.ct (T.region (L.a rfl (L.a rfl (L.nil (T.meet (()) ⟨rfl,rfl,?_,?_,trivial⟩ rfl)))))
  ·rw [fK,hwt];rfl
  rw [mF,hwt];rfl
 rintro _ w3 rfl
 refine T.seq (?_)
 refine T.fJ mixed 37 [3,5,2,6] rfl (.is _ :: .is _ :: .is _ :: .is _ :: .is _ :: .is _ :: .is _ :: .is _ :: .is _ :: .such (xJ u.nm) :: .is (.bool (u.nm.all gU)) :: .is _ :: .is _ :: .is _ :: .is _ :: .is _ :: .is _ :: .is _ :: .is _ :: .is _ :: .is _ :: .is _ :: .is _ :: .is _ :: .is (.bool (bM u.gs r.G u.pp)) :: .is _ :: .is _ :: .is _ :: .is _ :: .is _ :: .is (.bool (bM u.vs r.P (fK u))) :: .is _ :: .is _ :: .is _ :: .is _ :: .is _ :: .is (.bool (bM u.ps r.L (mF u))) :: []) ([] :: [0] :: [1] :: [] :: [3] :: [4] :: [5] :: [] :: [7] :: [8] :: [9] :: [] :: [11] :: [12] :: [] :: [14] :: [] :: [15,16] :: [] :: [18] :: [] :: [20] :: [] :: [22] :: [19,21,23] :: [] :: [25] :: [] :: [27] :: [] :: [26,28,29] :: [] :: [31] :: [] :: [33] :: [] :: [32,34,35] :: []) ([] :: [0] :: [0,1] :: [] :: [3] :: [3,4] :: [3,4,5] :: [] :: [7] :: [7,8] :: [7,8,9] :: [] :: [11] :: [11,12] :: [] :: [14] :: [] :: [14,15,16] :: [] :: [18] :: [] :: [20] :: [] :: [22] :: [7,8,9,18,19,20,21,22,23] :: [] :: [25] :: [] :: [27] :: [] :: [7,8,9,18,19,20,21,22,23,24,25,26,27,28,29] :: [] :: [31] :: [] :: [33] :: [] :: [7,8,9,18,19,20,21,22,23,24,25,26,27,28,29,30,31,32,33,34,35]::(0::1::2::3::4::5::6::7::8::9::10::11::12::13::14::15::16::17::18::19::20::21::22::23::24::25::26::27::28::29::30::31::32::33::34::35::36 :: [])::(0::1::2::3::4::5::6::7::8::9::10::11::12::13::14::15::16::17::18::19::20::21::22::23::24::25::26::27::28::29::30::31::32::33::34::35::36::37 :: [])::(0::1::2::3::4::5::6::7::8::9::10::11::12::13::14::15::16::17::18::19::20::21::22::23::24::25::26::27::28::29::30::31::32::33::34::35::36::37::38 :: []) :: []) (by kernel_rfl) (by kernel_rfl) rfl (by kernel_rfl) ⟨xJ.st,trivial⟩ ⟨fun wx hx=>Ob.o (O.fieldAddr runUnderlying51 rfl sizeOf9 rfl kR),
   fun wx hx=>Ob.o (O.load isAgg9 rfl ((hC2.ext hx).cell rfl) kR),
   fun wx hx=>Ob.o (O.PW runUnderlying9 rfl rfl kR),
   fun wx hx=>Ob.o (O.fieldAddr runUnderlying51 rfl sizeOf9 rfl kR),
   fun wx hx=>Ob.o (O.load isAgg9 rfl ((hC2.ext hx).cell rfl) kR),
   fun wx hx=>Ob.o (O.gu runUnderlying9 rfl kR),
   fun wx hx=>Ob.o (O.leq rfl rfl kR),
   fun wx hx=>Ob.o (O.fieldAddr runUnderlying51 rfl sizeOf9 rfl kR),
   fun wx hx=>Ob.o (O.load isAgg9 rfl ((hC2.ext hx).cell rfl) kR),
   fun wx hx=>Ob.o (O.call (xs:=[.tmp 17,_]) call136 rfl rfl (Nk u.nm wx hu.n) (fun v wy h=>⟨h.1,h.2⟩)),
   fun wx hx v18 aaP=>by { obtain ⟨t,rfl,ht⟩:=aaP;exact Ob.o (O.CQ runUnderlying9 rfl rfl ⟨Keep.refl _ _,by rw [show decide (t = [])=u.nm.all gU from by rw [Bool.eq_iff_iff,decide_eq_true_eq];exact ht];rfl⟩) },
   fun wx hx=>Ob.o (O.fieldAddr runUnderlying51 rfl sizeOf3 rfl kR),
   fun wx hx=>Ob.o (O.load isAgg3 rfl ((hC2.ext hx).cell rfl) kR),
   fun wx hx=>Ob.o (O.geq rfl rfl kR),
   fun wx hx=>Ob.o (O.fieldAddr runUnderlying51 rfl sizeOf3 rfl kR),
   fun wx hx=>Ob.o (O.load isAgg3 rfl ((hC2.ext hx).cell rfl) kR),
   fun wx hx=>Ob.o (O.move rfl kR),
   fun wx hx=>Ob.o (O.leq rfl rfl kR),
   fun wx hx=>Ob.o (O.fieldAddr runUnderlying51 rfl sizeOf30 rfl kR),
   fun wx hx=>Ob.o (O.load isAgg30 rfl ((hC2.ext hx).cell rfl) kR),
   fun wx hx=>Ob.o (O.fieldAddr runUnderlying25 rfl sizeOf3 rfl kR),
   fun wx hx=>Ob.o (O.load isAgg3 rfl ((hC1.ext hx).cell rfl) kR),
   fun wx hx=>Ob.o (O.fieldAddr runUnderlying51 rfl sizeOf3 rfl kR),
   fun wx hx=>Ob.o (O.load isAgg3 rfl ((hC2.ext hx).cell rfl) kR),
   fun wx hx=>Ob.o (O.call (xs:=[.tmp 28,.tmp 30,.tmp 32]) call137 rfl rfl (mD lo u.gv u.gs r.G u.pp wx (hu2.g.ext hx)) (fun v wy h=>⟨h.2,h.1⟩)),
   fun wx hx=>Ob.o (O.fieldAddr runUnderlying51 rfl sizeOf30 rfl kR),
   fun wx hx=>Ob.o (O.load isAgg30 rfl ((hC2.ext hx).cell rfl) kR),
   fun wx hx=>Ob.o (O.fieldAddr runUnderlying25 rfl sizeOf3 rfl kR),
   fun wx hx=>Ob.o (O.load isAgg3 rfl ((hC1.ext hx).cell rfl) kR),
   fun wx hx=>Ob.o (O.move rfl kR),
   fun wx hx=>Ob.o (O.call (xs:=[.tmp 35,.tmp 37,.tmp 38]) call137 rfl rfl (mD lo u.vv u.vs r.P (fK u) wx (hu2.v.ext hx)) (fun v wy h=>⟨h.2,h.1⟩)),
   fun wx hx=>Ob.o (O.fieldAddr runUnderlying51 rfl sizeOf30 rfl kR),
   fun wx hx=>Ob.o (O.load isAgg30 rfl ((hC2.ext hx).cell rfl) kR),
   fun wx hx=>Ob.o (O.fieldAddr runUnderlying25 rfl sizeOf3 rfl kR),
   fun wx hx=>Ob.o (O.load isAgg3 rfl ((hC1.ext hx).cell rfl) kR),
   fun wx hx=>Ob.o (O.move rfl kR),
   fun wx hx=>Ob.o (O.call (xs:=[.tmp 41,.tmp 43,.tmp 44]) call137 rfl rfl (mD lo u.pv u.ps r.L (mF u) wx (hu2.p.ext hx)) (fun v wy h=>⟨h.2,h.1⟩)),
   trivial⟩ (fun w4 he4 v18 aaP=>?_)
 refine L.o (O.buildSlice (el:=4) (parts:=[(0,.tmp 11),(1,.tmp 15),(2,.tmp 19),(3,.tmp 22),(4,.tmp 26),(5,.tmp 33),(6,.tmp 39),(7,.tmp 45)]) (vs:=[(0,_),(1,_),(2,_),(3,_),(4,_),(5,_),(6,_),(7,_)]) (cs:=((sG r u).map Value.bool)) rfl (fun w=>by kernel_rfl) (fun b5 w5 hb5 hz5 he5 hB5=>?_))
 refine L.o (O.call (xs:=[.tmp 46]) call79 rfl rfl (iI 0 _ (sG r u) w5 (gG hB5 rfl (by decide) (Nat.zero_le _))) (fun v6 w6 hq=>?_))
 obtain ⟨rfl,rfl⟩:=hq
 refine L.a rfl (L.nil (T.aU results80 rfl ⟨rfl,(zY.trans he4).trans he5⟩))
open Go Go.E
theorem Qj {r:RoV} {u:UnV} : bU r u=true↔Fg u.nm=true∧0≤u.pp∧u.pp≤fK u∧bM u.gs r.G u.pp=true∧bM u.vs r.P (fK u)=true∧bM u.ps r.L (mF u)=true:=by
 have hl:(¬ u.nm = []∧(u.nm.length:Int)≤12∧u.nm.all gU=true)↔Fg u.nm=true:=by
  simp only [Fg,Bool.and_eq_true,decide_eq_true_eq]
  have:u.nm = []↔u.nm.length=0:=List.length_eq_zero_iff.symm
  rw [this]
  constructor
  ·rintro ⟨h1,h2,h3⟩;exact ⟨h3,by omega,by omega⟩
  rintro ⟨h1,h2,h3⟩;exact ⟨by omega,by omega,h1⟩
 rw [← hl]
 simp only [bU,sG,List.all_cons,List.all_nil,id,Bool.and_eq_true,decide_eq_true_eq,Bool.not_eq_true',decide_eq_false_iff_not,and_true,and_assoc]
open Go Go.E
def zZ (r:RoV):List Bool:=[decide (0≤r.G),decide (r.G≤6),decide (0≤r.P),decide (r.P≤12),decide (0≤r.L),decide (r.L≤3),decide (0<(r.us.length:Int)),decide ((r.us.length:Int)≤64)]
theorem Jc {r:RoV} : (zZ r).all id=true↔0≤r.G∧r.G≤6∧0≤r.P∧r.P≤12∧0≤r.L∧r.L≤3∧0<(r.us.length:Int)∧(r.us.length:Int)≤64:=by
 simp only [zZ,List.all_cons,List.all_nil,id,Bool.and_eq_true,decide_eq_true_eq,and_true]
structure GoodAt (r:RoV) (j:Nat):Prop where
 right:bU r (r.us.getD j u0)=true
 name:∀ k,k<j→(r.us.getD k u0).nm≠(r.us.getD j u0).nm
 water:∀ k,k<j→(r.us.getD k u0).wt=true→(r.us.getD j u0).wt=true
 first:j=0→(r.us.getD j u0).wt=false
structure bG (r:RoV):Prop where
 bnd:(zZ r).all id=true
 good:∀ j,j<r.us.length→GoodAt r j
noncomputable def fG (r:RoV):Int:=@ite _ (bG r) (Classical.propDecidable _) 0 161
theorem eu {r:RoV} (h:bG r):fG r=0:=by unfold fG;exact if_pos h
theorem dA {r:RoV} (h:¬ bG r):fG r=161:=by unfold fG;exact if_neg h
theorem Df {r:RoV} {i:Nat} (h:∀ j,j<i→GoodAt r j) (hi:GoodAt r i):∀ j,j<i+1→GoodAt r j:=fun j hj=>by
 by_cases e:j=i
 ·subst e;exact hi
 exact h j (by omega)
def Nl (us:List UnV):Nat→Bool
 | 0=>false
 | i+1=>(us.getD i u0).wt
def mG (us:List UnV) (i:Nat) (kvs:List (Str × Bool)):Prop:=∀ s,(iG kvs s).getD false=true↔∃ k,k<i∧(us.getD k u0).nm=s
theorem mG.zero (us:List UnV):mG us 0 []:=fun s=>⟨fun h=>(by cases h),fun ⟨k,hk,_⟩=>absurd hk (Nat.not_lt_zero _)⟩
theorem mG.step {us:List UnV} {i:Nat} {kvs:List (Str × Bool)} (h:mG us i kvs):mG us (i+1) (vT kvs (us.getD i u0).nm true):=fun s=>by
 rw [KF]
 by_cases hs:s=(us.getD i u0).nm
 ·rw [if_pos hs];exact ⟨fun _=>⟨i,by omega,hs.symm⟩,fun _=>rfl⟩
 rw [if_neg hs,h s]
 constructor
 ·rintro ⟨k,hk,e⟩;exact ⟨k,by omega,e⟩
 rintro ⟨k,hk,e⟩
 refine ⟨k,?_,e⟩
 by_cases hki:k=i
 ·subst hki;exact absurd e.symm hs
 omega
def lX (r:RoV) (i:Nat) (kvs:List (Str × Bool)):List Bool:=[bU r (r.us.getD i u0),!(iG kvs (r.us.getD i u0).nm).getD false,(r.us.getD i u0).wt || !Nl r.us i,decide (0<(i:Int)) || !(r.us.getD i u0).wt]
theorem mJ {r:RoV} {i:Nat} {kvs:List (Str × Bool)} (hn:mG r.us i kvs) (h:∀ j,j<i→GoodAt r j):(lX r i kvs).all id=true↔GoodAt r i:=by
 simp only [lX,List.all_cons,List.all_nil,id,Bool.and_eq_true,and_true,Bool.not_eq_true',Bool.or_eq_true,decide_eq_true_eq]
 have hnm:(iG kvs (r.us.getD i u0).nm).getD false=false↔∀ k,k<i→(r.us.getD k u0).nm≠(r.us.getD i u0).nm:=by
  rw [← Bool.not_eq_true,hn]
  constructor
  ·intro h1 k hk e;exact h1 ⟨k,hk,e⟩
  rintro h1 ⟨k,hk,e⟩;exact h1 k hk e
 rw [hnm]
 constructor
 ·rintro ⟨h1,h2,h3,h4⟩
  refine ⟨h1,h2,fun k hk hw=>?_,fun e=>?_⟩
  ·rcases h3 with h3|h3
   ·exact h3
   cases i with
   | zero=>omega
   | succ i =>
    have hp:(r.us.getD i u0).wt=false:=h3
    by_cases e:k=i
    ·subst e;rw [hp] at hw;cases hw
    have:=(h i (by omega)).water k (by omega) hw
    rw [hp] at this;cases this
  rcases h4 with h4|h4
  ·omega
  exact h4
 rintro ⟨h1,h2,h3,h4⟩
 refine ⟨h1,h2,?_,?_⟩
 ·cases i with
  | zero=>right;rfl
  | succ i =>
   cases hp:(r.us.getD i u0).wt
   ·right;exact hp
   left;exact h3 i (by omega) hp
 by_cases e:i=0
 ·right;exact h4 e
 left;omega
theorem mM (lo:Nat) (r:RoV) (w:World) (hr:r.ok lo w) :
  Calls Tryz.prog 32 #[r.val] w (Ret fun v w'=>v = .int .i64 (fG r)∧Ext w w'):=by
 refine T.enter (vs:=[r.val]) func32 rfl ntmps32 rfl ?_
 refine T.q (L.o (O.box rfl (fun b1 w1 hb1 hz1 he1 hB1=>?_)))
 have hC1:Blk w1 b1 r.cells _:=hB1
 have hU1:Units lo w1 r.uv r.us:=hr.ext he1
 have hle:=Sl.le hU1.sl
 refine L.a rfl (L.nil (T.q (L.o (O.fieldAddr runUnderlying25 rfl sizeOf23 rfl (L.o (O.load isAgg23 rfl (hC1.cell rfl) (L.o (O.len runUnderlying23 rfl (Sl.val hU1.sl) (L.a rfl (L.nil (T.seq (T.q (L.o (O.fieldAddr runUnderlying25 rfl sizeOf3 rfl (L.o (O.load isAgg3 rfl (hC1.cell rfl) (L.o (O.geq rfl rfl (L.o (O.fieldAddr runUnderlying25 rfl sizeOf3 rfl (L.o (O.load isAgg3 rfl (hC1.cell rfl) (L.o (O.leq rfl rfl (L.o (O.fieldAddr runUnderlying25 rfl sizeOf3 rfl (L.o (O.load isAgg3 rfl (hC1.cell rfl) (L.o (O.geq rfl rfl (L.o (O.fieldAddr runUnderlying25 rfl sizeOf3 rfl (L.o (O.load isAgg3 rfl (hC1.cell rfl) (L.o (O.leq rfl rfl (?_)))))))))))))))))))))))))))))))))))))
 refine L.o (O.fieldAddr runUnderlying25 rfl sizeOf3 rfl (L.o (O.load isAgg3 rfl (hC1.cell rfl) (L.o (O.geq rfl rfl (L.o (O.fieldAddr runUnderlying25 rfl sizeOf3 rfl (L.o (O.load isAgg3 rfl (hC1.cell rfl) (L.o (O.leq rfl rfl (L.m rfl (L.o (O.gtr rfl rfl (L.m rfl (L.o (O.leq rfl rfl (L.o (O.buildSlice (el:=4) (parts:=[(0,.tmp 13),(1,.tmp 16),(2,.tmp 19),(3,.tmp 22),(4,.tmp 25),(5,.tmp 28),(6,.tmp 30),(7,.tmp 32)]) (vs:=[(0,_),(1,_),(2,_),(3,_),(4,_),(5,_),(6,_),(7,_)]) (cs:=((zZ r).map Value.bool)) rfl (fun w=>by kernel_rfl) (fun b2 w2 hb2 hz2 he2 hB2=>?_))))))))))))))))))))
 refine L.o (O.call (xs:=[.tmp 33]) call79 rfl rfl (iI 0 _ (zZ r) w2 (gG hB2 rfl (by decide) (Nat.zero_le _))) (fun v3 w3 hq=>?_))
 obtain ⟨rfl,rfl⟩:=hq
 cases hb:(zZ r).all id
 ·refine L.o (O.not rfl (L.nil (T.ct (T.q (L.a rfl (L.nil (T.aU results32 rfl ⟨by rw [dA (fun h=>by have:=h.bnd;rw [hb] at this;cases this)],he1.trans he2⟩)))))))
 refine L.o (O.not rfl (L.nil (T.cf (T.skip (T.q (L.o (O.qC (kf:=str) (vf:=Value.bool) (fun b4 w4 hb4 hz4 he4 hM4=>?_))))))))
 have uP:=(he1.trans he2).trans he4
 have hU4:Units lo w4 r.uv r.us:=hr.ext uP
 refine L.a rfl (L.nil (T.q (L.a rfl (L.nil (T.seq (T.q (L.o (O.fieldAddr runUnderlying25 rfl sizeOf23 rfl (L.o (O.load isAgg23 rfl ((hC1.ext (he2.trans he4)).cell rfl) (L.o (O.len runUnderlying23 rfl (Sl.val hU4.sl) (L.m rfl (L.nil (T.block (?_))))))))))))))))
 refine T.loop (σ:=Nat × List (Str × Bool)) (fun s=>[(1,.pointer (some ⟨b1,0,none⟩)),(4,.map (some b4)),(5,.bool (Nl r.us s.1)),(38,r.uv),(39,.int .i64 r.us.length),(40,.int .i64 s.1)]) (fun s w'=>s.1≤r.us.length∧Ext w w'∧w4.heap.size≤w'.heap.size∧Blk w' b1 r.cells 25∧o9 str Value.bool w' b4 s.2∧mG r.us s.1 s.2∧∀ j,j<s.1→GoodAt r j) (fun s=>r.us.length-s.1) ((0,[])) ⟨rfl,rfl,rfl,rfl,rfl,rfl,trivial⟩ ⟨Nat.zero_le _,uP,Nat.le_refl _,hC1.ext (he2.trans he4),hM4,mG.zero _,fun j hj=>absurd hj (Nat.not_lt_zero _)⟩ ?_
 rintro ⟨i,kvs⟩ w5 ⟨hi,he5,hz5,hC5,hM5,hN5,hG5⟩
 have hs4:w.heap.size≤b4:=by have h1:=(he1.trans he2).size;omega
 have hU5:Units lo w5 r.uv r.us:=hr.ext he5
 refine T.q (L.o (O.bF rfl rfl (fun hlt=>?_) (fun hlt=>?_)))
 ·refine L.nil (?_)
  have hlt':i<r.us.length:=by simpa using hlt
  refine T.seq (T.ct (T.skip (T.seq (T.block (T.q (L.m rfl (L.o (O.indexAddr runUnderlying23 sizeOf51 rfl rfl hU5.sl (by omega) (by omega) (L.o (O.ak isAgg51 sizeOf51 rfl rfl (hU5.row hlt') (L.o (O.alloc zeroValue51 (fun b6 w6 hb6 hz6 he6 hB6=>?_)))))))))))))
  refine L.a rfl (L.o (O.aC sizeOf51 rfl rfl rfl hB6 (Nat.le_refl _) (hU5.at hlt').one (fun w7 hu7 hB7=>?_)))
  have AQ:Blk w7 b6 (r.us.getD i u0).cells 51:=hB7
  have Fj:Ext w5 w7:=he6.upd hu7 (.inr (by omega))
  have hC7:=hC5.ext Fj
  have hM7:=hM5.ext Fj
  have hk7:=(hU5.at hlt').ext Fj
  rcases hwt:(r.us.getD i u0).wt with _|_
  ·refine L.nil (?_)
   by_cases hi0:0<(i:Int)
   ·have hBu:Blk w7 b6 [str (r.us.getD i u0).nm,.int .i64 (r.us.getD i u0).pp,(r.us.getD i u0).gv,(r.us.getD i u0).vv,(r.us.getD i u0).pv,.bool false] 51:=by rw [← hwt];exact AQ
    refine T.seq (T.seq (?_))
    refine T.fJ mixed 21 [1,7,4,5,6] rfl [.is _,.is _,.is (.bool (bU r (r.us.getD i u0))),.is _,.is _,.is _,.is _,.is _,.is _,.is _,.is _,.is _,.is _,.is _,.is _,.is _,.is _,.is undef,.is undef,.is undef,.is _] [[],[],[0,1],[],[],[4],[3,5],[6],[],[8],[9],[10],[11,10],[10,12],[],[14],[15],[16],[17,16],[18,16],[16,19]] [[],[],[0,1],[],[],[4],[3,4,5],[3,4,5,6],[],[8],[0,1,2,8,9],[0,1,2,8,9,10],[0,1,2,8,9,10,11],[0,1,2,8,9,10,11,12],[],[14],[0,1,2,8,9,10,14,15],[0,1,2,8,9,10,14,15,16],[0,1,2,8,9,10,14,15,16,17],[0,1,2,8,9,10,14,15,16,17,18],[0,1,2,8,9,10,14,15,16,17,18,19],[0,1,2,3,4,5,6,7,8,9,10,11,12,13,14,15,16,17,18,19,20],[0,1,2,3,4,5,6,7,8,9,10,11,12,13,14,15,16,17,18,19,20,21],[0,1,2,3,4,5,6,7,8,9,10,11,12,13,14,15,16,17,18,19,20,21,22]] (by kernel_rfl) (by kernel_rfl) rfl (by kernel_rfl) trivial ⟨fun wx hx=>Ob.o (O.ak isAgg25 sizeOf25 rfl rfl ((hC7.ext hx).row) kR),
      fun wx hx=>Ob.o (O.ak isAgg51 sizeOf51 rfl rfl ((AQ.ext hx).row) kR),
      fun wx hx=>Ob.o (O.call (xs:=[.tmp 45,.tmp 46]) call80 rfl rfl (lF lo r (r.us.getD i u0) wx (hk7.ext hx)) (fun v wy h=>⟨h.2,h.1⟩)),
      fun wx hx=>Ob.o (O.move rfl kR),
      fun wx hx=>Ob.o (O.fieldAddr runUnderlying51 rfl sizeOf9 rfl kR),
      fun wx hx=>Ob.o (O.load isAgg9 rfl ((AQ.ext hx).cell rfl) kR),
      fun wx hx=>Ob.o (O.CV (kf:=str) (vf:=Value.bool) (z0:=false) iW runUnderlying142 runUnderlying9 zeroValue4 rfl rfl (hM7.ext hx) kR),
      fun wx hx=>Ob.o (O.not rfl kR),
      fun wx hx=>Ob.o (O.fieldAddr runUnderlying51 rfl sizeOf4 rfl kR),
      fun wx hx=>Ob.o (O.load isAgg4 rfl ((hBu.ext hx).cell rfl) kR),
      fun wx hx=>Ob.o (O.move rfl kR),
      fun wx hx=>Ob.o (O.move rfl kR),
      fun wx hx=>Ob.o (O.not rfl kR),
      fun wx hx=>Ob.o (O.aj rfl rfl kR),
      fun wx hx=>Ob.o (O.move rfl kR),
      fun wx hx=>Ob.o (O.Cm rfl rfl hi0 kR),
      fun wx hx=>Ob.o (O.move rfl kR),
      fun wx hx=>Ob.pass rfl rfl,
      fun wx hx=>Ob.pass rfl rfl,
      fun wx hx=>Ob.pass rfl rfl,
      fun wx hx=>Ob.o (O.ah rfl rfl kR),
      trivial⟩ (fun w8 he8=>?_)
    have hask:lX r i kvs = [bU r (r.us.getD i u0),!(iG kvs (r.us.getD i u0).nm).getD false,!Nl r.us i,true]:=by simp only [lX,hwt];rw [decide_eq_true hi0];simp
    refine L.o (O.buildSlice (el:=4) (parts:=[(0,.tmp 47),(1,.tmp 52),(2,.tmp 58),(3,.tmp 65)]) (vs:=[(0,_),(1,_),(2,_),(3,_)]) (cs:=([bU r (r.us.getD i u0),!(iG kvs (r.us.getD i u0).nm).getD false,!Nl r.us i,true].map Value.bool)) rfl (fun w=>by kernel_rfl) (fun b9 w9 hb9 hz9 he9 hB9=>?_))
    rw [← hask] at hB9
    refine L.o (O.call (xs:=[.tmp 66]) call79 rfl rfl (iI 0 _ (lX r i kvs) w9 (gG hB9 rfl (by decide) (Nat.zero_le _))) (fun v10 w10 hq=>?_))
    obtain ⟨rfl,rfl⟩:=hq
    have kW:=he8.trans he9
    cases hok:(lX r i kvs).all id
    ·refine L.o (O.not rfl (L.nil (T.ct (T.q (L.a rfl (L.nil (T.aU results32 rfl ⟨by rw [dA (fun h=>by have:=(mJ hN5 hG5).2 (h.good i hlt');rw [hok] at this;cases this)],(he5.trans Fj).trans kW⟩)))))))
    refine L.o (O.not rfl (L.nil (T.cf (T.skip (T.q (L.m rfl (L.o (O.fieldAddr runUnderlying51 rfl sizeOf9 rfl (L.o (O.load isAgg9 rfl ((AQ.ext kW).cell rfl) (L.o (O.kG (kf:=str) (vf:=Value.bool) (v:=_) iW runUnderlying142 runUnderlying9 rfl rfl rfl (hM7.ext kW) (fun w11 jg Np=>?_)))))))))))))
    refine L.nil (T.region (L.o (O.fieldAddr runUnderlying51 rfl sizeOf4 rfl (L.o (O.load isAgg4 rfl (((AQ.ext kW).upd jg (by have:=hM5.lt;omega)).cell rfl) (?_))))))
    have aaQ:=kW.size
    refine L.a rfl (L.nil (T.blk (T.region (L.o (O.aI rfl rfl (by omega) (L.m rfl (L.nil (T.again ((i+1,vT kvs (r.us.getD i u0).nm true)) (by omega) ⟨rfl,rfl,rfl,rfl,rfl,rfl,trivial⟩ ⟨hlt',((he5.trans Fj).trans kW).upd jg (.inr hs4),by have:=Fj.size;have:=jg.size;omega,(hC7.ext kW).upd jg (by omega),Np,hN5.step,Df hG5 ((mJ hN5 hG5).1 hok)⟩))))))))
   have hBu:Blk w7 b6 [str (r.us.getD i u0).nm,.int .i64 (r.us.getD i u0).pp,(r.us.getD i u0).gv,(r.us.getD i u0).vv,(r.us.getD i u0).pv,.bool false] 51:=by rw [← hwt];exact AQ
   refine T.seq (T.seq (?_))
   refine T.fJ mixed 21 [1,7,4,5,6] rfl [.is _,.is _,.is (.bool (bU r (r.us.getD i u0))),.is _,.is _,.is _,.is _,.is _,.is _,.is _,.is _,.is _,.is _,.is _,.is _,.is _,.is _,.is _,.is _,.is _,.is _] [[],[],[0,1],[],[],[4],[3,5],[6],[],[8],[9],[10],[11,10],[10,12],[],[14],[15],[16],[17,16],[18,16],[16,19]] [[],[],[0,1],[],[],[4],[3,4,5],[3,4,5,6],[],[8],[0,1,2,8,9],[0,1,2,8,9,10],[0,1,2,8,9,10,11],[0,1,2,8,9,10,11,12],[],[14],[0,1,2,8,9,10,14,15],[0,1,2,8,9,10,14,15,16],[0,1,2,8,9,10,14,15,16,17],[0,1,2,8,9,10,14,15,16,17,18],[0,1,2,8,9,10,14,15,16,17,18,19],[0,1,2,3,4,5,6,7,8,9,10,11,12,13,14,15,16,17,18,19,20],[0,1,2,3,4,5,6,7,8,9,10,11,12,13,14,15,16,17,18,19,20,21],[0,1,2,3,4,5,6,7,8,9,10,11,12,13,14,15,16,17,18,19,20,21,22]] (by kernel_rfl) (by kernel_rfl) rfl (by kernel_rfl) trivial ⟨fun wx hx=>Ob.o (O.ak isAgg25 sizeOf25 rfl rfl ((hC7.ext hx).row) kR),
     fun wx hx=>Ob.o (O.ak isAgg51 sizeOf51 rfl rfl ((AQ.ext hx).row) kR),
     fun wx hx=>Ob.o (O.call (xs:=[.tmp 45,.tmp 46]) call80 rfl rfl (lF lo r (r.us.getD i u0) wx (hk7.ext hx)) (fun v wy h=>⟨h.2,h.1⟩)),
     fun wx hx=>Ob.o (O.move rfl kR),
     fun wx hx=>Ob.o (O.fieldAddr runUnderlying51 rfl sizeOf9 rfl kR),
     fun wx hx=>Ob.o (O.load isAgg9 rfl ((AQ.ext hx).cell rfl) kR),
     fun wx hx=>Ob.o (O.CV (kf:=str) (vf:=Value.bool) (z0:=false) iW runUnderlying142 runUnderlying9 zeroValue4 rfl rfl (hM7.ext hx) kR),
     fun wx hx=>Ob.o (O.not rfl kR),
     fun wx hx=>Ob.o (O.fieldAddr runUnderlying51 rfl sizeOf4 rfl kR),
     fun wx hx=>Ob.o (O.load isAgg4 rfl ((hBu.ext hx).cell rfl) kR),
     fun wx hx=>Ob.o (O.move rfl kR),
     fun wx hx=>Ob.o (O.move rfl kR),
     fun wx hx=>Ob.o (O.not rfl kR),
     fun wx hx=>Ob.o (O.aj rfl rfl kR),
     fun wx hx=>Ob.o (O.move rfl kR),
     fun wx hx=>Ob.o (O.zS rfl rfl hi0 kR),
     fun wx hx=>Ob.o (O.move rfl kR),
     fun wx hx=>Ob.o (O.fieldAddr runUnderlying51 rfl sizeOf4 rfl kR),
     fun wx hx=>Ob.o (O.load isAgg4 rfl ((hBu.ext hx).cell rfl) kR),
     fun wx hx=>Ob.o (O.not rfl kR),
     fun wx hx=>Ob.o (O.aj rfl rfl kR),
     trivial⟩ (fun w8 he8=>?_)
   have hask:lX r i kvs = [bU r (r.us.getD i u0),!(iG kvs (r.us.getD i u0).nm).getD false,!Nl r.us i,true]:=by simp only [lX,hwt];rw [decide_eq_false hi0];simp
   refine L.o (O.buildSlice (el:=4) (parts:=[(0,.tmp 47),(1,.tmp 52),(2,.tmp 58),(3,.tmp 65)]) (vs:=[(0,_),(1,_),(2,_),(3,_)]) (cs:=([bU r (r.us.getD i u0),!(iG kvs (r.us.getD i u0).nm).getD false,!Nl r.us i,true].map Value.bool)) rfl (fun w=>by kernel_rfl) (fun b9 w9 hb9 hz9 he9 hB9=>?_))
   rw [← hask] at hB9
   refine L.o (O.call (xs:=[.tmp 66]) call79 rfl rfl (iI 0 _ (lX r i kvs) w9 (gG hB9 rfl (by decide) (Nat.zero_le _))) (fun v10 w10 hq=>?_))
   obtain ⟨rfl,rfl⟩:=hq
   have kW:=he8.trans he9
   cases hok:(lX r i kvs).all id
   ·refine L.o (O.not rfl (L.nil (T.ct (T.q (L.a rfl (L.nil (T.aU results32 rfl ⟨by rw [dA (fun h=>by have:=(mJ hN5 hG5).2 (h.good i hlt');rw [hok] at this;cases this)],(he5.trans Fj).trans kW⟩)))))))
   refine L.o (O.not rfl (L.nil (T.cf (T.skip (T.q (L.m rfl (L.o (O.fieldAddr runUnderlying51 rfl sizeOf9 rfl (L.o (O.load isAgg9 rfl ((AQ.ext kW).cell rfl) (L.o (O.kG (kf:=str) (vf:=Value.bool) (v:=_) iW runUnderlying142 runUnderlying9 rfl rfl rfl (hM7.ext kW) (fun w11 jg Np=>?_)))))))))))))
   refine L.nil (T.region (L.o (O.fieldAddr runUnderlying51 rfl sizeOf4 rfl (L.o (O.load isAgg4 rfl (((AQ.ext kW).upd jg (by have:=hM5.lt;omega)).cell rfl) (?_))))))
   have aaQ:=kW.size
   refine L.a rfl (L.nil (T.blk (T.region (L.o (O.aI rfl rfl (by omega) (L.m rfl (L.nil (T.again ((i+1,vT kvs (r.us.getD i u0).nm true)) (by omega) ⟨rfl,rfl,rfl,rfl,rfl,rfl,trivial⟩ ⟨hlt',((he5.trans Fj).trans kW).upd jg (.inr hs4),by have:=Fj.size;have:=jg.size;omega,(hC7.ext kW).upd jg (by omega),Np,hN5.step,Df hG5 ((mJ hN5 hG5).1 hok)⟩))))))))
  refine L.nil (?_)
  by_cases hi0:0<(i:Int)
  ·have hBu:Blk w7 b6 [str (r.us.getD i u0).nm,.int .i64 (r.us.getD i u0).pp,(r.us.getD i u0).gv,(r.us.getD i u0).vv,(r.us.getD i u0).pv,.bool true] 51:=by rw [← hwt];exact AQ
   refine T.seq (T.seq (?_))
   refine T.fJ mixed 21 [1,7,4,5,6] rfl [.is _,.is _,.is (.bool (bU r (r.us.getD i u0))),.is _,.is _,.is _,.is _,.is _,.is _,.is _,.is _,.is undef,.is undef,.is _,.is _,.is _,.is _,.is undef,.is undef,.is undef,.is _] [[],[],[0,1],[],[],[4],[3,5],[6],[],[8],[9],[10],[11,10],[10,12],[],[14],[15],[16],[17,16],[18,16],[16,19]] [[],[],[0,1],[],[],[4],[3,4,5],[3,4,5,6],[],[8],[0,1,2,8,9],[0,1,2,8,9,10],[0,1,2,8,9,10,11],[0,1,2,8,9,10,11,12],[],[14],[0,1,2,8,9,10,14,15],[0,1,2,8,9,10,14,15,16],[0,1,2,8,9,10,14,15,16,17],[0,1,2,8,9,10,14,15,16,17,18],[0,1,2,8,9,10,14,15,16,17,18,19],[0,1,2,3,4,5,6,7,8,9,10,11,12,13,14,15,16,17,18,19,20],[0,1,2,3,4,5,6,7,8,9,10,11,12,13,14,15,16,17,18,19,20,21],[0,1,2,3,4,5,6,7,8,9,10,11,12,13,14,15,16,17,18,19,20,21,22]] (by kernel_rfl) (by kernel_rfl) rfl (by kernel_rfl) trivial ⟨fun wx hx=>Ob.o (O.ak isAgg25 sizeOf25 rfl rfl ((hC7.ext hx).row) kR),
     fun wx hx=>Ob.o (O.ak isAgg51 sizeOf51 rfl rfl ((AQ.ext hx).row) kR),
     fun wx hx=>Ob.o (O.call (xs:=[.tmp 45,.tmp 46]) call80 rfl rfl (lF lo r (r.us.getD i u0) wx (hk7.ext hx)) (fun v wy h=>⟨h.2,h.1⟩)),
     fun wx hx=>Ob.o (O.move rfl kR),
     fun wx hx=>Ob.o (O.fieldAddr runUnderlying51 rfl sizeOf9 rfl kR),
     fun wx hx=>Ob.o (O.load isAgg9 rfl ((AQ.ext hx).cell rfl) kR),
     fun wx hx=>Ob.o (O.CV (kf:=str) (vf:=Value.bool) (z0:=false) iW runUnderlying142 runUnderlying9 zeroValue4 rfl rfl (hM7.ext hx) kR),
     fun wx hx=>Ob.o (O.not rfl kR),
     fun wx hx=>Ob.o (O.fieldAddr runUnderlying51 rfl sizeOf4 rfl kR),
     fun wx hx=>Ob.o (O.load isAgg4 rfl ((hBu.ext hx).cell rfl) kR),
     fun wx hx=>Ob.o (O.move rfl kR),
     fun wx hx=>Ob.pass rfl rfl,
     fun wx hx=>Ob.pass rfl rfl,
     fun wx hx=>Ob.o (O.ah rfl rfl kR),
     fun wx hx=>Ob.o (O.move rfl kR),
     fun wx hx=>Ob.o (O.Cm rfl rfl hi0 kR),
     fun wx hx=>Ob.o (O.move rfl kR),
     fun wx hx=>Ob.pass rfl rfl,
     fun wx hx=>Ob.pass rfl rfl,
     fun wx hx=>Ob.pass rfl rfl,
     fun wx hx=>Ob.o (O.ah rfl rfl kR),
     trivial⟩ (fun w8 he8=>?_)
   have hask:lX r i kvs = [bU r (r.us.getD i u0),!(iG kvs (r.us.getD i u0).nm).getD false,true,true]:=by simp only [lX,hwt];rw [decide_eq_true hi0];simp
   refine L.o (O.buildSlice (el:=4) (parts:=[(0,.tmp 47),(1,.tmp 52),(2,.tmp 58),(3,.tmp 65)]) (vs:=[(0,_),(1,_),(2,_),(3,_)]) (cs:=([bU r (r.us.getD i u0),!(iG kvs (r.us.getD i u0).nm).getD false,true,true].map Value.bool)) rfl (fun w=>by kernel_rfl) (fun b9 w9 hb9 hz9 he9 hB9=>?_))
   rw [← hask] at hB9
   refine L.o (O.call (xs:=[.tmp 66]) call79 rfl rfl (iI 0 _ (lX r i kvs) w9 (gG hB9 rfl (by decide) (Nat.zero_le _))) (fun v10 w10 hq=>?_))
   obtain ⟨rfl,rfl⟩:=hq
   have kW:=he8.trans he9
   cases hok:(lX r i kvs).all id
   ·refine L.o (O.not rfl (L.nil (T.ct (T.q (L.a rfl (L.nil (T.aU results32 rfl ⟨by rw [dA (fun h=>by have:=(mJ hN5 hG5).2 (h.good i hlt');rw [hok] at this;cases this)],(he5.trans Fj).trans kW⟩)))))))
   refine L.o (O.not rfl (L.nil (T.cf (T.skip (T.q (L.m rfl (L.o (O.fieldAddr runUnderlying51 rfl sizeOf9 rfl (L.o (O.load isAgg9 rfl ((AQ.ext kW).cell rfl) (L.o (O.kG (kf:=str) (vf:=Value.bool) (v:=_) iW runUnderlying142 runUnderlying9 rfl rfl rfl (hM7.ext kW) (fun w11 jg Np=>?_)))))))))))))
   refine L.nil (T.region (L.o (O.fieldAddr runUnderlying51 rfl sizeOf4 rfl (L.o (O.load isAgg4 rfl (((AQ.ext kW).upd jg (by have:=hM5.lt;omega)).cell rfl) (?_))))))
   have aaQ:=kW.size
   refine L.a rfl (L.nil (T.blk (T.region (L.o (O.aI rfl rfl (by omega) (L.m rfl (L.nil (T.again ((i+1,vT kvs (r.us.getD i u0).nm true)) (by omega) ⟨rfl,rfl,rfl,rfl,rfl,rfl,trivial⟩ ⟨hlt',((he5.trans Fj).trans kW).upd jg (.inr hs4),by have:=Fj.size;have:=jg.size;omega,(hC7.ext kW).upd jg (by omega),Np,hN5.step,Df hG5 ((mJ hN5 hG5).1 hok)⟩))))))))
  have hBu:Blk w7 b6 [str (r.us.getD i u0).nm,.int .i64 (r.us.getD i u0).pp,(r.us.getD i u0).gv,(r.us.getD i u0).vv,(r.us.getD i u0).pv,.bool true] 51:=by rw [← hwt];exact AQ
  refine T.seq (T.seq (?_))
  refine T.fJ mixed 21 [1,7,4,5,6] rfl [.is _,.is _,.is (.bool (bU r (r.us.getD i u0))),.is _,.is _,.is _,.is _,.is _,.is _,.is _,.is _,.is undef,.is undef,.is _,.is _,.is _,.is _,.is _,.is _,.is _,.is _] [[],[],[0,1],[],[],[4],[3,5],[6],[],[8],[9],[10],[11,10],[10,12],[],[14],[15],[16],[17,16],[18,16],[16,19]] [[],[],[0,1],[],[],[4],[3,4,5],[3,4,5,6],[],[8],[0,1,2,8,9],[0,1,2,8,9,10],[0,1,2,8,9,10,11],[0,1,2,8,9,10,11,12],[],[14],[0,1,2,8,9,10,14,15],[0,1,2,8,9,10,14,15,16],[0,1,2,8,9,10,14,15,16,17],[0,1,2,8,9,10,14,15,16,17,18],[0,1,2,8,9,10,14,15,16,17,18,19],[0,1,2,3,4,5,6,7,8,9,10,11,12,13,14,15,16,17,18,19,20],[0,1,2,3,4,5,6,7,8,9,10,11,12,13,14,15,16,17,18,19,20,21],[0,1,2,3,4,5,6,7,8,9,10,11,12,13,14,15,16,17,18,19,20,21,22]] (by kernel_rfl) (by kernel_rfl) rfl (by kernel_rfl) trivial ⟨fun wx hx=>Ob.o (O.ak isAgg25 sizeOf25 rfl rfl ((hC7.ext hx).row) kR),
    fun wx hx=>Ob.o (O.ak isAgg51 sizeOf51 rfl rfl ((AQ.ext hx).row) kR),
    fun wx hx=>Ob.o (O.call (xs:=[.tmp 45,.tmp 46]) call80 rfl rfl (lF lo r (r.us.getD i u0) wx (hk7.ext hx)) (fun v wy h=>⟨h.2,h.1⟩)),
    fun wx hx=>Ob.o (O.move rfl kR),
    fun wx hx=>Ob.o (O.fieldAddr runUnderlying51 rfl sizeOf9 rfl kR),
    fun wx hx=>Ob.o (O.load isAgg9 rfl ((AQ.ext hx).cell rfl) kR),
    fun wx hx=>Ob.o (O.CV (kf:=str) (vf:=Value.bool) (z0:=false) iW runUnderlying142 runUnderlying9 zeroValue4 rfl rfl (hM7.ext hx) kR),
    fun wx hx=>Ob.o (O.not rfl kR),
    fun wx hx=>Ob.o (O.fieldAddr runUnderlying51 rfl sizeOf4 rfl kR),
    fun wx hx=>Ob.o (O.load isAgg4 rfl ((hBu.ext hx).cell rfl) kR),
    fun wx hx=>Ob.o (O.move rfl kR),
    fun wx hx=>Ob.pass rfl rfl,
    fun wx hx=>Ob.pass rfl rfl,
    fun wx hx=>Ob.o (O.ah rfl rfl kR),
    fun wx hx=>Ob.o (O.move rfl kR),
    fun wx hx=>Ob.o (O.zS rfl rfl hi0 kR),
    fun wx hx=>Ob.o (O.move rfl kR),
    fun wx hx=>Ob.o (O.fieldAddr runUnderlying51 rfl sizeOf4 rfl kR),
    fun wx hx=>Ob.o (O.load isAgg4 rfl ((hBu.ext hx).cell rfl) kR),
    fun wx hx=>Ob.o (O.not rfl kR),
    fun wx hx=>Ob.o (O.aj rfl rfl kR),
    trivial⟩ (fun w8 he8=>?_)
  have hask:lX r i kvs = [bU r (r.us.getD i u0),!(iG kvs (r.us.getD i u0).nm).getD false,true,false]:=by simp only [lX,hwt];rw [decide_eq_false hi0];simp
  refine L.o (O.buildSlice (el:=4) (parts:=[(0,.tmp 47),(1,.tmp 52),(2,.tmp 58),(3,.tmp 65)]) (vs:=[(0,_),(1,_),(2,_),(3,_)]) (cs:=([bU r (r.us.getD i u0),!(iG kvs (r.us.getD i u0).nm).getD false,true,false].map Value.bool)) rfl (fun w=>by kernel_rfl) (fun b9 w9 hb9 hz9 he9 hB9=>?_))
  rw [← hask] at hB9
  refine L.o (O.call (xs:=[.tmp 66]) call79 rfl rfl (iI 0 _ (lX r i kvs) w9 (gG hB9 rfl (by decide) (Nat.zero_le _))) (fun v10 w10 hq=>?_))
  obtain ⟨rfl,rfl⟩:=hq
  have kW:=he8.trans he9
  cases hok:(lX r i kvs).all id
  ·refine L.o (O.not rfl (L.nil (T.ct (T.q (L.a rfl (L.nil (T.aU results32 rfl ⟨by rw [dA (fun h=>by have:=(mJ hN5 hG5).2 (h.good i hlt');rw [hok] at this;cases this)],(he5.trans Fj).trans kW⟩)))))))
  refine L.o (O.not rfl (L.nil (T.cf (T.skip (T.q (L.m rfl (L.o (O.fieldAddr runUnderlying51 rfl sizeOf9 rfl (L.o (O.load isAgg9 rfl ((AQ.ext kW).cell rfl) (L.o (O.kG (kf:=str) (vf:=Value.bool) (v:=_) iW runUnderlying142 runUnderlying9 rfl rfl rfl (hM7.ext kW) (fun w11 jg Np=>?_)))))))))))))
  refine L.nil (T.region (L.o (O.fieldAddr runUnderlying51 rfl sizeOf4 rfl (L.o (O.load isAgg4 rfl (((AQ.ext kW).upd jg (by have:=hM5.lt;omega)).cell rfl) (?_))))))
  have aaQ:=kW.size
  refine L.a rfl (L.nil (T.blk (T.region (L.o (O.aI rfl rfl (by omega) (L.m rfl (L.nil (T.again ((i+1,vT kvs (r.us.getD i u0).nm true)) (by omega) ⟨rfl,rfl,rfl,rfl,rfl,rfl,trivial⟩ ⟨hlt',((he5.trans Fj).trans kW).upd jg (.inr hs4),by have:=Fj.size;have:=jg.size;omega,(hC7.ext kW).upd jg (by omega),Np,hN5.step,Df hG5 ((mJ hN5 hG5).1 hok)⟩))))))))
 refine L.nil (T.seq (T.cf (T.exit rfl (T.q (L.a rfl (L.nil (T.aU results32 rfl ⟨by rw [eu ⟨hb,fun j hj=>hG5 j (by simp only at hlt;omega)⟩],he5⟩)))))))
open Go Go.E
theorem Units.name {lo:Nat} {w:World} {v:Value} {us:List UnV} (h:Units lo w v us) {i:Nat} (hi:i<us.length):w.cell? (((jd v).add ((i:Int).toNat*6)).add 0)=some (str (us.getD i u0).nm):=h.row hi 0 _ rfl
open Go Go.E
def aN:List UnV→Nat
 | []=>0
 | u::r=>if u.wt then 0 else aN r+1
theorem kH:∀ us:List UnV,aN us≤us.length
 | []=>Nat.le_refl _
 | u::r=>by
  have:=kH r
  simp only [aN,List.length_cons]
  split <;> omega
theorem xK:∀ (us:List UnV) (i:Nat),i≤us.length→(∀ j,j<i→(us.getD j u0).wt=false)→(i<us.length→(us.getD i u0).wt=true)→aN us=i
 | [],i,h,_,_=>by simp at h;subst h;rfl
 | u::r,0,_,_,h=>by
  have:u.wt=true:=h (by simp)
  simp [aN,this]
 | u::r,i+1,hi,hj,h=>by
  have h0:u.wt=false:=hj 0 (by omega)
  have:=xK r i (by simpa using hi) (fun j hlt=>hj (j+1) (by omega)) (fun hlt=>h (by simpa using hlt))
  simp [aN,h0,this]
def O6:Value→Nat→Value
 | .slice oa _ cap,m=>.slice oa m cap
 | v,_=>v
theorem Qk {lo:Nat} {w:World} {v:Value} {n m sz:Nat} {cs:List Value} (hv:Sl lo w v n sz cs) (h1:m≤n):Sl lo w (O6 v m) m sz (cs.take (m*sz)):=by
 obtain ⟨hl,oa,cap,rfl,hc,hm,hr⟩:=hv
 refine ⟨?_,oa,cap,rfl,by omega,hm,?_⟩
 ·rw [List.length_take,hl];exact Nat.min_eq_left (Nat.mul_le_mul_right _ h1)
 rcases hr with hr|⟨ad,e1,e2,e3⟩
 ·left;omega
 exact .inr ⟨ad,e1,e2,e3.take _⟩
theorem Units.O6 {lo:Nat} {w:World} {v:Value} {us:List UnV} (h:Units lo w v us) {m:Nat} (h1:m≤us.length):Units lo w (O6 v m) (us.take m):=by
 refine ⟨?_,fun u hu=>h.ok u (List.mem_of_mem_take hu)⟩
 have:=Qk h.sl h1
 rw [xI] at this
 rw [List.length_take,Nat.min_eq_left h1];exact this
theorem O.O6 {C:Cx} {e:Env} {w:World} {K:Value→World→Prop} {d:Option Tmp} {ty:TypeId} {pos:String} {aft:Array Edge} {g:Option (Nat × Bool)} {x y:Operand} {t:TypeId} {v:Value} {n sz lo m:Nat} {cs:List Value} {el:TypeId} {kd:IntKind} (hu:∀ w,(underlying t).run C.P w = .ok (.slice el) w) (hs:∀ w,(sizeOf el).run C.P w = .ok sz w) (hx:ev e x=some v) (hy:ev e y=some (.int kd m))
  (hv:Sl lo w v n sz cs) (h1:m≤n) (h:K (O6 v m) w):O C e ⟨d,.slice t x none (some y) none,ty,pos,aft,g⟩ w K:=by
 obtain ⟨hl,oa,cap,rfl,hc,hm,hr⟩:=hv
 exact O.lq hu hs hx hy (Int.natCast_nonneg _) (by omega) (by rw [Int.toNat_natCast];exact h)
def lv (r:RoV):Value:=if aN r.us<r.us.length then O6 r.uv (aN r.us) else r.uv
theorem UQ {lo:Nat} {w:World} {r:RoV} (hr:r.ok lo w):Units lo w (lv r) (r.us.take (aN r.us)):=by
 have hln:=kH r.us
 unfold lv
 split
 ·exact Units.O6 hr hln
 rw [show aN r.us=r.us.length by omega,List.take_length];exact hr
theorem Jd (lo:Nat) (u:UnV) (w:World) :
  Calls Tryz.prog 148 #[u.val] w (Ret fun v w'=>v = .bool u.wt∧Ext w w'):=by
 refine T.enter (vs:=[u.val]) func148 rfl ntmps148 rfl ?_
 refine T.q (L.o (O.box rfl (fun b1 w1 hb1 hz1 he1 hB1=>?_)))
 have hC1:Blk w1 b1 u.cells _:=hB1
 refine L.a rfl (L.nil (T.q (L.o (O.fieldAddr runUnderlying51 rfl sizeOf4 rfl (L.o (O.load isAgg4 rfl (hC1.cell rfl) (L.a rfl (L.nil (T.aU results148 rfl ⟨rfl,he1⟩)))))))))
theorem Fp (lo:Nat) (p:Value) (us:List UnV) (w:World) (hp:Units lo w p us) :
  Calls Tryz.prog 147 #[p,.func (.func 148) #[] #[]] w (Ret fun v w'=>(∃ q:Int,v = .int .i64 q∧((q = -1∧aN us=us.length)∨(q=aN us∧aN us<us.length)))∧Ext w w'):=by
 have hle:=Sl.le hp.sl
 refine T.enter (vs:=[p,.func (.func 148) #[] #[]]) func147 rfl ntmps147 rfl ?_
 refine T.q (L.a rfl (L.nil (T.seq (T.q (L.m rfl (L.o (O.len runUnderlying23 rfl (Sl.val hp.sl) (L.m rfl (L.nil (T.block (?_)))))))))))
 refine T.loop (σ:=Nat) (fun i=>[(0,p),(1,.func (.func 148) #[] #[]),(7,.int .i64 us.length),(8,.int .i64 i)]) (fun i w'=>i≤us.length∧Ext w w'∧∀ j,j<i→(us.getD j u0).wt=false) (fun i=>us.length-i) (0) ⟨rfl,rfl,rfl,rfl,trivial⟩ ⟨Nat.zero_le _,Keep.refl _ _,fun j hj=>absurd hj (Nat.not_lt_zero _)⟩ ?_
 rintro i w1 ⟨hi,he1,hall⟩
 have hp1:=hp.ext he1
 refine T.q (L.o (O.bF rfl rfl (fun hlt=>?_) (fun hlt=>?_)))
 ·refine L.nil (?_)
  have hlt':i<us.length:=by omega
  refine T.seq (T.ct (T.skip (T.seq (T.block (T.q (L.m rfl (L.a rfl (L.nil (T.q (L.m rfl (L.m rfl (L.m rfl (L.o (O.indexAddr runUnderlying23 sizeOf51 rfl rfl hp1.sl (by omega) (by omega) (L.o (O.ak isAgg51 sizeOf51 rfl rfl (hp1.row hlt') (L.o (O.call (xs:=[.tmp 15]) call148 rfl rfl (Jd lo (us.getD i u0) w1) (fun v2 w2 hq=>?_)))))))))))))))))))
  obtain ⟨rfl,he2⟩:=hq
  cases hw:(us.getD i u0).wt
  ·refine L.nil (T.cf (T.skip (T.blk (T.region (L.o (O.aI rfl rfl (by omega) (L.m rfl (L.nil (T.again (i+1) (by omega) ⟨rfl,rfl,rfl,rfl,trivial⟩ ⟨hlt',he1.trans he2,fun j hj=>?_⟩)))))))))
   ·by_cases e:j=i
    ·subst e;exact hw
    exact hall j (by omega)
  refine L.nil (?_)
  have e:=xK us i hi hall (fun _=>hw)
  refine T.ct (T.q (L.m rfl (L.a rfl (L.nil (T.aU results147 rfl ⟨⟨_,rfl,.inr ⟨by rw [e],by omega⟩⟩,he1.trans he2⟩)))))
 refine L.nil (?_)
 have e:=xK us i hi hall (fun h=>absurd h (by omega))
 refine T.seq (T.cf (T.exit rfl (T.q (L.a rfl (L.nil (T.aU results147 rfl ⟨⟨_,rfl,.inl ⟨rfl,by omega⟩⟩,he1⟩))))))
theorem Nq (lo:Nat) (r:RoV) (w:World) (hr:r.ok lo w) :
  Calls Tryz.prog 102 #[r.val] w (Ret fun v w'=>v=lv r∧Ext w w'):=by
 refine T.enter (vs:=[r.val]) func102 rfl ntmps102 rfl ?_
 refine T.q (L.o (O.box rfl (fun b1 w1 hb1 hz1 he1 hB1=>?_)))
 have hC1:Blk w1 b1 r.cells _:=hB1
 have hU1:Units lo w1 r.uv r.us:=hr.ext he1
 have hln:=kH r.us
 refine L.a rfl (L.nil (T.seq (T.q (L.o (O.fieldAddr runUnderlying25 rfl sizeOf23 rfl (L.o (O.load isAgg23 rfl (hC1.cell rfl) (L.o (O.call (xs:=[.tmp 5,.func 148]) call147 rfl rfl (Fp lo r.uv r.us w1 hU1) (fun v2 w2 hq=>?_))))))))))
 obtain ⟨⟨q,rfl,hq⟩,he2⟩:=hq
 have hU2:=hU1.ext he2
 refine L.a rfl (L.nil (T.q (L.m rfl (L.o (O.zT rfl rfl (fun h0=>?_) (fun h0=>?_))))))
 ·refine L.nil (?_)
  obtain ⟨h1,h2⟩:q=(aN r.us:Int)∧aN r.us<r.us.length:=by rcases hq with h|h;omega;exact h
  subst h1
  refine T.ct (T.q (L.o (O.fieldAddr runUnderlying25 rfl sizeOf23 rfl (L.o (O.load isAgg23 rfl ((hC1.ext he2).cell rfl) (L.m rfl (L.o (O.O6 runUnderlying23 sizeOf51 rfl rfl hU2.sl hln (L.a rfl (L.nil (T.aU results102 rfl ⟨by rw [lv,if_pos h2],he1.trans he2⟩)))))))))))
 refine L.nil (?_)
 have h1:aN r.us=r.us.length:=by rcases hq with h|h;exact h.2;omega
 refine T.cf (T.skip (T.q (L.o (O.fieldAddr runUnderlying25 rfl sizeOf23 rfl (L.o (O.load isAgg23 rfl ((hC1.ext he2).cell rfl) (L.a rfl (L.nil (T.aU results102 rfl ⟨by rw [lv,if_neg (by omega)],he1.trans he2⟩)))))))))
noncomputable def sH (r:RoV):Int:=@ite _ (bG r) (Classical.propDecidable _) (aN r.us:Int) 0
theorem AU {r:RoV} (h:fG r=0):sH r=aN r.us:=by
 unfold sH
 by_cases hk:bG r
 ·exact if_pos hk
 rw [dA hk] at h;cases h
theorem Ns {r:RoV} (h:fG r≠0):sH r=0:=by
 unfold sH
 by_cases hk:bG r
 ·exact absurd (eu hk) h
 exact if_neg hk
theorem Yg {r:RoV} (h:fG r=0):bG r:=by
 by_cases hk:bG r
 ·exact hk
 rw [dA hk] at h;cases h
theorem KQ {r:RoV} (h:fG r=0):0≤r.G∧r.G≤6∧0≤r.P∧r.P≤12∧0≤r.L∧r.L≤3∧0<(r.us.length:Int)∧(r.us.length:Int)≤64:=Jc.1 (Yg h).bnd
theorem sJ (lo:Nat) (r:RoV) (w:World) (hr:r.ok lo w) :
  Calls Tryz.prog 52 #[r.val] w (Ret fun v w'=>v = .tuple #[.int .i64 (sH r),.int .i64 (fG r)]∧Ext w w'):=by
 refine T.enter (vs:=[r.val]) func52 rfl ntmps52 rfl ?_
 refine T.q (L.o (O.box rfl (fun b1 w1 hb1 hz1 he1 hB1=>?_)))
 have hC1:Blk w1 b1 r.cells _:=hB1
 refine L.a rfl (L.a rfl (L.nil (T.seq (T.q (L.o (O.ak isAgg25 sizeOf25 rfl rfl hC1.row (L.o (O.call (xs:=[.tmp 5]) call32 rfl rfl (mM lo r w1 (hr.ext he1)) (fun v2 w2 hq=>?_)))))))))
 obtain ⟨rfl,he2⟩:=hq
 refine L.a rfl (L.nil (T.q (L.m rfl (L.o (O.jT rfl rfl (fun h0=>?_) (fun h0=>?_))))))
 ·refine L.nil (T.ct (T.q (L.m rfl (L.a rfl (L.a rfl (L.nil (T.Cj results52 rfl rfl ⟨by rw [Ns h0],he1.trans he2⟩)))))))
 refine L.nil (T.cf (T.skip (T.q (L.o (O.ak isAgg25 sizeOf25 rfl rfl ((hC1.ext he2).row) (L.o (O.call (xs:=[.tmp 10]) call102 rfl rfl (Nq lo r w2 (hr.ext (he1.trans he2))) (fun v3 w3 hq=>?_))))))))
 obtain ⟨rfl,he3⟩:=hq
 have hln:=kH r.us
 have hU3:=UQ (hr.ext ((he1.trans he2).trans he3))
 refine L.o (O.len runUnderlying23 rfl (Sl.val hU3.sl) (L.a rfl (L.a rfl (L.nil (T.Cj results52 rfl rfl ⟨by rw [AU h0,h0,List.length_take,Nat.min_eq_left hln],(he1.trans he2).trans he3⟩)))))
open Go Go.E
theorem UR (b:Nat) (w:World):Upd b w w:=⟨rfl,rfl,rfl,rfl,fun _ _=>rfl⟩
end Go.Proofs.YtnlonpcbgjbbaaaGreatDoor
