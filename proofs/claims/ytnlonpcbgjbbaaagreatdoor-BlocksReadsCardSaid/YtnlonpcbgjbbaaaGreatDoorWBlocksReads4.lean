/-
  BlocksReads, part 4 of its proof: that it returns true for every input, and each argument reads behind the call as it read before. Conditions: the listed variables read as the program's text lays them (tied by the card).
-/
import Derived.Test.YtnlonpcbgjbbaaaGreatDoorWBlocksReads3
import Derived.Test.YtnlonpcbgjbbaaaGreatDoorProg
import Derived.Test.YtnlonpcbgjbbaaaGreatDoorWBlocksReads2
set_option linter.unusedVariables false
set_option linter.unusedSimpArgs false
set_option maxRecDepth 20000
set_option linter.unusedVariables false
set_option linter.unusedSimpArgs false
set_option maxRecDepth 20000
namespace Go.Proofs.YtnlonpcbgjbbaaaGreatDoor
open Go.Proofs.Tryz (call102 call135 call136 call137 call138 call139 call147 call148 call163 call166 call167 call168 call171 call172 call203 call206 call32 call79 call80 call81 func102 func135 func136 func137 func138 func139 func144 func147 func148 func163 func166 func167 func168 func171 func172 func203 func206 func32 func33 func52 func79 func80 func81 isAgg23 isAgg241 isAgg25 isAgg3 isAgg30 isAgg4 isAgg51 isAgg9 ntmps102 ntmps135 ntmps136 ntmps137 ntmps138 ntmps139 ntmps144 ntmps147 ntmps148 ntmps163 ntmps166 ntmps167 ntmps168 ntmps171 ntmps172 ntmps203 ntmps206 ntmps32 ntmps33 ntmps52 ntmps79 ntmps80 ntmps81 results102 results135 results136 results137 results138 results139 results144 results147 results148 results163 results166 results167 results168 results171 results172 results203 results206 results32 results33 results52 results79 results80 results81 runUnderlying142 runUnderlying204 runUnderlying23 runUnderlying241 runUnderlying25 runUnderlying30 runUnderlying4 runUnderlying51 runUnderlying9 sizeOf23 sizeOf241 sizeOf25 sizeOf3 sizeOf30 sizeOf4 sizeOf51 sizeOf9 zeroValue241 zeroValue4 zeroValue51)
open Go Go.E
attribute [local irreducible] Go.E.T Go.E.L Go.E.O Go.E.Ob
def Bools (lo:Nat) (w:World) (v:Value) (bs:List Bool):Prop:=Sl lo w v bs.length 1 (bs.map Value.bool)
theorem Bools.at {w:World} {v:Value} {lo:Nat} {bs:List Bool} (h:Bools lo w v bs) {i:Nat} (h1:i<bs.length):w.cell? ((iV v).add ((i:Int).toNat*1))=some (.bool (bs.getD i true)):=by
 rw [Int.toNat_natCast,Nat.mul_one]
 exact Sl.cell h (by simp [List.getD,h1])
theorem au {α:Type} {xs:List α} {i:Nat} {d:α} (h:i<xs.length):xs.getD i d=xs[i]:=by simp [List.getD,h]
theorem Hz {α:Type} {xs:List α} {i:Nat} {d a:α} (h:i<xs.length) (e:xs.getD i d=a):a∈xs:=by
 rw [au h] at e;exact e▸List.getElem_mem h
theorem KO {α:Type} {xs:List α} {d a:α} (h:∀ j,j<xs.length→xs.getD j d≠a):a∉xs:=fun hm=>by
 obtain ⟨j,hj,e⟩:=List.getElem_of_mem hm
 exact h j hj (by rw [au hj];exact e)
theorem KP {α:Type} {xs ys:List α} {d:α} (hl:xs.length=ys.length) (h:∀ j,j<xs.length→xs.getD j d=ys.getD j d):xs=ys:=by
 apply List.ext_getElem hl
 intro j h1 h2
 have:=h j h1
 rwa [au h1,au h2] at this
theorem HY (lo:Nat) (p:Value) (bs:List Bool) (w:World) (hp:Bools lo w p bs) :
  Calls Tryz.prog 163 #[p,.bool false] w (Ret fun v w'=>∃ r:Int,v = .int .i64 r∧(0≤r↔false∈bs)∧w'=w):=by
 have hle:=Sl.le hp
 refine T.enter (vs:=[p,.bool false]) func163 rfl ntmps163 rfl ?_
 refine T.q (L.a rfl (L.nil (T.seq (T.q (L.m rfl (L.o (O.len runUnderlying204 rfl (Sl.val hp) (L.m rfl (L.nil (T.block (?_)))))))))))
 refine T.loop (σ:=Nat) (fun i=>[(0,p),(1,.bool false),(7,.int .i64 bs.length),(8,.int .i64 i)]) (fun i w'=>i≤bs.length∧w'=w∧∀ j,j<i→bs.getD j true≠false) (fun i=>bs.length-i) (0) ⟨rfl,rfl,rfl,rfl,trivial⟩ ⟨Nat.zero_le _,rfl,fun j hj=>absurd hj (Nat.not_lt_zero _)⟩ ?_
 rintro i w' ⟨hi,rfl,hall⟩
 refine T.q (L.o (O.aV rfl rfl (fun hlt=>?_) (fun hlt=>?_)))
 ·refine L.nil (?_)
  have hlt':i<bs.length:=by omega
  refine T.seq (T.ct (T.skip (T.seq (T.block (T.q (L.m rfl (L.a rfl (L.nil (T.q (L.m rfl (L.m rfl (L.m rfl (L.o (O.indexAddr runUnderlying204 sizeOf4 rfl rfl hp (by omega) (by omega) (L.o (O.load isAgg4 rfl (Bools.at hp hlt') (?_)))))))))))))))))
  by_cases hb:bs.getD i true=false
  ·refine L.o (O.KF runUnderlying4 rfl rfl hb.symm (L.nil (T.ct (T.q (L.m rfl (L.a rfl (L.nil (T.aN results163 rfl ⟨_,rfl,⟨fun _=>Hz hlt' hb,fun _=>by omega⟩,rfl⟩))))))))
  refine L.o (O.KG runUnderlying4 rfl rfl (fun e=>hb e.symm) (L.nil (T.cf (T.skip (T.blk (T.region (L.o (O.aC rfl rfl (by omega) (L.m rfl (L.nil (T.again (i+1) (by omega) ⟨rfl,rfl,rfl,rfl,trivial⟩ ⟨hlt',rfl,fun j hj=>?_⟩)))))))))))
  ·by_cases hji:j=i
   ·subst hji;exact hb
   exact hall j (by omega)
 refine L.nil (T.seq (T.cf (T.exit rfl (T.q (L.a rfl (L.nil (T.aN results163 rfl ⟨_,rfl,⟨fun h=>absurd h (by decide),fun h=>absurd h (KO (d:=true) fun j hj=>hall j (by omega))⟩,rfl⟩)))))))
theorem zi (lo:Nat) (p:Value) (bs:List Bool) (w:World) (hp:Bools lo w p bs) :
  Calls Tryz.prog 135 #[p,.bool false] w (Ret fun v w'=>v = .bool (!bs.all id)∧w'=w):=by
 refine T.enter (vs:=[p,.bool false]) func135 rfl ntmps135 rfl ?_
 refine T.q (L.a rfl (L.nil (T.q (L.m rfl (L.m rfl (L.o (O.call (xs:=[.tmp 5,.tmp 6]) call163 rfl rfl (HY lo p bs w hp) (fun v1 w1 hq=>?_))))))))
 obtain ⟨r,rfl,hr,rfl⟩:=hq
 refine L.o (O.qg rfl rfl (fun h0=>?_) (fun h0=>?_))
 ·refine L.a rfl (L.nil (T.aN results135 rfl ⟨by rw [show bs.all id=false from List.all_eq_false.2 ⟨false,hr.1 h0,by simp⟩];rfl,rfl⟩))
 refine L.a rfl (L.nil (T.aN results135 rfl ⟨by rw [show bs.all id=true from List.all_eq_true.2 fun b hb=>(by cases b with|true=>rfl|false=>exact absurd (hr.2 hb) h0)];rfl,rfl⟩))
theorem iF (lo:Nat) (p:Value) (bs:List Bool) (w:World) (hp:Bools lo w p bs) :
  Calls Tryz.prog 79 #[p] w (Ret fun v w'=>v = .bool (bs.all id)∧w'=w):=by
 refine T.enter (vs:=[p]) func79 rfl ntmps79 rfl ?_
 refine T.q (L.a rfl (L.nil (T.q (L.m rfl (L.o (O.call (xs:=[.tmp 3,.const (.bool false)]) call135 rfl rfl (zi lo p bs w hp) (fun v1 w1 hq=>?_)))))))
 obtain ⟨rfl,rfl⟩:=hq
 refine L.o (O.not rfl (L.a rfl (L.nil (T.aN results79 rfl ⟨by simp,rfl⟩))))
open Go Go.E
def inB (m x:Int):Bool:=decide (0≤x) && decide (x≤m)
def aZ (xs:List Int) (n m:Int):Bool:=decide ((xs.length:Int)=n) && xs.all (inB m)
theorem KQ {xs:List Int} {n m:Int} (h:¬ (xs.length:Int)=n):aZ xs n m=false:=by simp [aZ,h]
theorem Ej {xs:List Int} {n m:Int} {i:Nat} (h:i<xs.length) (h1:¬ (0≤xs.getD i 0∧xs.getD i 0≤m)):aZ xs n m=false:=by
 have:xs.all (inB m)=false:=List.all_eq_false.2 ⟨_,List.getElem_mem h,by rw [au h] at h1;simpa [inB] using h1⟩
 simp [aZ,this]
theorem rU {xs:List Int} {n m:Int} (h:∀ j,j<xs.length→0≤xs.getD j 0∧xs.getD j 0≤m):aZ xs n m=decide ((xs.length:Int)=n):=by
 have:xs.all (inB m)=true:=List.all_eq_true.2 fun x hx=>by
  obtain ⟨j,hj,rfl⟩:=List.getElem_of_mem hx
  have:=h j hj
  rw [au hj] at this
  simpa [inB] using this
 simp [aZ,this]
theorem within_iff {xs:List Int} {n m:Int} : aZ xs n m=true↔(xs.length:Int)=n∧∀ j,j<xs.length→0≤xs.getD j 0∧xs.getD j 0≤m:=by
 constructor
 ·intro h
  simp only [aZ,Bool.and_eq_true,decide_eq_true_eq] at h
  refine ⟨h.1,fun j hj=>?_⟩
  have:=List.all_eq_true.1 h.2 xs[j] (List.getElem_mem hj)
  rw [au hj];simpa [inB] using this
 rintro ⟨h1,h2⟩;rw [rU h2,decide_eq_true h1]
theorem BQ (b:Nat) (t:TypeId) (x m:Int) (w:World) (hb:Blk w b [.int .i64 m] t) :
  Calls Tryz.prog 172 #[.int .i64 x,.pointer (some ⟨b,0,none⟩)] w (Ret fun v w'=>v = .bool (decide (x<0∨m<x))∧w'=w):=by
 refine T.enter (vs:=[.int .i64 x,.pointer (some ⟨b,0,none⟩)]) func172 rfl ntmps172 rfl ?_
 refine T.q (L.a rfl (L.nil (T.q (L.m rfl (L.o (O.aV rfl rfl (fun h0=>?_) (fun h0=>?_)))))))
 ·refine L.m rfl (L.p (L.p (L.p (L.o (O.aj rfl rfl (L.a rfl (L.nil (T.aN results172 rfl ⟨by rw [decide_eq_true (.inl h0)],rfl⟩))))))))
 refine L.m rfl (L.m rfl (L.o (O.load isAgg3 rfl (hb.cell rfl) (L.o (O.fG rfl rfl (fun h1=>?_) (fun h1=>?_))))))
 ·refine L.o (O.ah rfl rfl (L.a rfl (L.nil (T.aN results172 rfl ⟨by rw [decide_eq_true (.inr h1)],rfl⟩))))
 refine L.o (O.ah rfl rfl (L.a rfl (L.nil (T.aN results172 rfl ⟨by rw [decide_eq_false (by omega)],rfl⟩))))
theorem Em (lo b:Nat) (t:TypeId) (p:Value) (xs:List Int) (m:Int) (w:World) (hp:Ints .i64 lo w p xs) (hb:Blk w b [.int .i64 m] t) :
  Calls Tryz.prog 206 #[p,.func (.func 172) #[] #[.pointer (some ⟨b,0,none⟩)]] w (Ret fun v w'=>∃ r:Int,v = .int .i64 r∧(0≤r↔¬ ∀ j,j<xs.length→0≤xs.getD j 0∧xs.getD j 0≤m)∧w'=w):=by
 have hle:=Sl.le hp
 refine T.enter (vs:=[p,.func (.func 172) #[] #[.pointer (some ⟨b,0,none⟩)]]) func206 rfl ntmps206 rfl ?_
 refine T.q (L.a rfl (L.nil (T.seq (T.q (L.m rfl (L.o (O.len runUnderlying30 rfl (Sl.val hp) (L.m rfl (L.nil (T.block (?_)))))))))))
 refine T.loop (σ:=Nat) (fun i=>[(0,p),(1,.func (.func 172) #[] #[.pointer (some ⟨b,0,none⟩)]),(7,.int .i64 xs.length),(8,.int .i64 i)]) (fun i w'=>i≤xs.length∧w'=w∧∀ j,j<i→0≤xs.getD j 0∧xs.getD j 0≤m) (fun i=>xs.length-i) (0) ⟨rfl,rfl,rfl,rfl,trivial⟩ ⟨Nat.zero_le _,rfl,fun j hj=>absurd hj (Nat.not_lt_zero _)⟩ ?_
 rintro i w' ⟨hi,rfl,hall⟩
 refine T.q (L.o (O.aV rfl rfl (fun hlt=>?_) (fun hlt=>?_)))
 ·refine L.nil (?_)
  have hlt':i<xs.length:=by omega
  refine T.seq (T.ct (T.skip (T.seq (T.block (T.q (L.m rfl (L.a rfl (L.nil (T.q (L.m rfl (L.m rfl (L.m rfl (L.o (O.indexAddr runUnderlying30 sizeOf3 rfl rfl hp (by omega) (by omega) (L.o (O.load isAgg3 rfl (Ints.at hp hlt') (L.o (O.call (xs:=[.tmp 15]) call172 rfl rfl (BQ b t (xs.getD i 0) m w' hb) (fun v1 w1 hq=>?_)))))))))))))))))))
  obtain ⟨rfl,rfl⟩:=hq
  refine L.nil (?_)
  refine T.pX rfl (fun hb1=>?_) (fun hb1=>?_)
  ·refine T.q (L.m rfl (L.a rfl (L.nil (T.aN results206 rfl ⟨_,rfl,⟨fun _ h=>by have:=h i hlt';omega,fun _=>by omega⟩,rfl⟩))))
  refine T.skip (T.blk (T.region (L.o (O.aC rfl rfl (by omega) (L.m rfl (L.nil (T.again (i+1) (by omega) ⟨rfl,rfl,rfl,rfl,trivial⟩ ⟨hlt',rfl,fun j hj=>?_⟩)))))))
  ·by_cases hji:j=i
   ·subst hji;omega
   exact hall j (by omega)
 refine L.nil (T.seq (T.cf (T.exit rfl (T.q (L.a rfl (L.nil (T.aN results206 rfl ⟨_,rfl,⟨fun h=>absurd h (by decide),fun h=>absurd (fun j hj=>hall j (by omega)) h⟩,rfl⟩)))))))
theorem wS (lo b:Nat) (t:TypeId) (p:Value) (xs:List Int) (m:Int) (w:World) (hp:Ints .i64 lo w p xs) (hb:Blk w b [.int .i64 m] t) :
  Calls Tryz.prog 171 #[p,.func (.func 172) #[] #[.pointer (some ⟨b,0,none⟩)]] w (Ret fun v w'=>v = .bool (!decide (∀ j,j<xs.length→0≤xs.getD j 0∧xs.getD j 0≤m))∧w'=w):=by
 refine T.enter (vs:=[p,.func (.func 172) #[] #[.pointer (some ⟨b,0,none⟩)]]) func171 rfl ntmps171 rfl ?_
 refine T.q (L.a rfl (L.nil (T.q (L.m rfl (L.m rfl (L.o (O.call (xs:=[.tmp 5,.tmp 6]) call206 rfl rfl (Em lo b t p xs m w hp hb) (fun v1 w1 hq=>?_))))))))
 obtain ⟨r,rfl,hr,rfl⟩:=hq
 refine L.o (O.qg rfl rfl (fun h0=>?_) (fun h0=>?_))
 ·refine L.a rfl (L.nil (T.aN results171 rfl ⟨by rw [decide_eq_false (hr.1 h0)];rfl,rfl⟩))
 refine L.a rfl (L.nil (T.aN results171 rfl ⟨by rw [decide_eq_true (Classical.not_not.1 fun hn=>h0 (hr.2 hn))];rfl,rfl⟩))
theorem mD (lo:Nat) (p:Value) (xs:List Int) (n m:Int) (w:World) (hp:Ints .i64 lo w p xs) :
  Calls Tryz.prog 137 #[p,.int .i64 n,.int .i64 m] w (Ret fun v w'=>v = .bool (aZ xs n m)∧Ext w w'):=by
 have hle:=Sl.le hp
 refine T.enter (vs:=[p,.int .i64 n,.int .i64 m]) func137 rfl ntmps137 rfl ?_
 refine T.q (L.o (O.box rfl (fun b1 w1 hb1 hz1 he1 hB1=>?_)))
 have hp1:=hp.keep (he1.mono (Nat.zero_le lo))
 refine L.a rfl (L.nil (T.q (L.m rfl (L.o (O.len runUnderlying30 rfl (Sl.val hp1) (L.m rfl (L.o (O.gJ rfl rfl (fun hl=>?_) (fun hl=>?_)))))))))
 ·refine L.m rfl (L.m rfl (L.o (O.makeFunc (fi:=[]) (ca:=[.tmp 5]) rfl rfl (L.o (O.call (xs:=[.tmp 12,.tmp 13]) call171 rfl rfl (wS lo b1 _ p xs m w1 hp1 hB1) (fun v2 w2 hq=>?_))))))
  obtain ⟨rfl,rfl⟩:=hq
  refine L.o (O.not rfl (L.o (O.aj rfl rfl (L.a rfl (L.nil (T.aN results137 rfl ⟨?_,he1⟩))))))
  by_cases h:∀ j,j<xs.length→0≤xs.getD j 0∧xs.getD j 0≤m
  ·rw [rU h,decide_eq_true h,decide_eq_true hl];rfl
  rw [decide_eq_false h]
  have:aZ xs n m=false:=by
   cases hc:aZ xs n m
   ·rfl
   exact absurd (within_iff.1 hc).2 h
  rw [this];rfl
 refine L.m rfl (L.p (L.p (L.p (L.p (L.o (O.ah rfl rfl (L.a rfl (L.nil (T.aN results137 rfl ⟨by rw [KQ hl],he1⟩)))))))))
theorem gQ (lo:Nat) (p:Value) (xs:List Int) (n m:Int) (w:World) (hp:Ints .i64 lo w p xs) :
  Calls Tryz.prog 139 #[p,.int .i64 n,.int .i64 m] w (Ret fun v w'=>v = .bool (aZ xs n m)∧w'=w):=by
 have hle:=Sl.le hp
 refine T.enter (vs:=[p,.int .i64 n,.int .i64 m]) func139 rfl ntmps139 rfl ?_
 refine T.q (L.a rfl (L.nil (T.seq (T.q (L.a rfl (L.nil (T.block (?_))))))))
 refine T.loop (σ:=Nat) (fun i=>[(0,p),(1,.int .i64 n),(2,.int .i64 m),(7,.int .i64 i)]) (fun i w'=>i≤xs.length∧w'=w∧∀ j,j<i→0≤xs.getD j 0∧xs.getD j 0≤m) (fun i=>xs.length-i) (0) ⟨rfl,rfl,rfl,rfl,trivial⟩ ⟨Nat.zero_le _,rfl,fun j hj=>absurd hj (Nat.not_lt_zero _)⟩ ?_
 rintro i w' ⟨hi,rfl,hall⟩
 refine T.seq (T.q (L.m rfl (L.m rfl (L.o (O.len runUnderlying30 rfl (Sl.val hp) (L.o (O.aV rfl rfl (fun hlt=>?_) (fun hlt=>?_))))))))
 ·refine L.nil (?_)
  have hlt':i<xs.length:=by omega
  refine T.ct (T.skip (T.seq (T.block (T.q (L.m rfl (L.m rfl (L.o (O.indexAddr runUnderlying30 sizeOf3 rfl rfl hp (by omega) (by omega) (L.o (O.load isAgg3 rfl (Ints.at hp hlt') (L.o (O.aV rfl rfl (fun h0=>?_) (fun h0=>?_)))))))))))))
  ·refine L.m rfl (L.p (L.p (L.p (L.p (L.p (L.p (L.o (O.aj rfl rfl (L.nil (T.ct (T.q (L.a rfl (L.nil (T.aN results139 rfl ⟨by rw [Ej hlt' (by omega)],rfl⟩))))))))))))))
  refine L.m rfl (L.m rfl (L.m rfl (L.o (O.indexAddr runUnderlying30 sizeOf3 rfl rfl hp (by omega) (by omega) (L.o (O.load isAgg3 rfl (Ints.at hp hlt') (L.m rfl (L.o (O.fG rfl rfl (fun h1=>?_) (fun h1=>?_))))))))))
  ·refine L.o (O.ah rfl rfl (L.nil (T.ct (T.q (L.a rfl (L.nil (T.aN results139 rfl ⟨by rw [Ej hlt' (by omega)],rfl⟩)))))))
  refine L.o (O.ah rfl rfl (L.nil (T.cf (T.skip (T.blk (T.region (L.m rfl (L.o (O.aC rfl rfl (by omega) (L.a rfl (L.nil (T.again (i+1) (by omega) ⟨rfl,rfl,rfl,rfl,trivial⟩ ⟨hlt',rfl,fun j hj=>?_⟩))))))))))))
  ·by_cases hji:j=i
   ·subst hji;omega
   exact hall j (by omega)
 refine L.nil (T.cf (T.exit rfl (T.q (L.m rfl (L.o (O.len runUnderlying30 rfl (Sl.val hp) (L.m rfl (L.o (O.eql rfl rfl (L.a rfl (L.nil (T.aN results139 rfl ⟨by rw [rU (fun j hj=>hall j (by omega))],rfl⟩))))))))))))
open Go Go.E
def letters:Str:=[65,66,67,68,69,70,71,72,73,74,75,76,77,78,79,80,81,82,83,84,85,86,87,88,89,90,97,98,99,100,101,102] ++ [103,104,105,106,107,108,109,110,111,112,113,114,115,116,117,118,119,120,121,122,48,49,50,51,52,53,54,55,56,57,45,95]
def fD (c:UInt8):Bool:=(decide (65≤c.toNat) && decide (c.toNat≤90)) || ((decide (97≤c.toNat) && decide (c.toNat≤122)) || ((decide (48≤c.toNat) && decide (c.toNat≤57)) || (decide (c.toNat=45) || decide (c.toNat=95))))
theorem iL {c:UInt8} : fD c=true↔(65≤c.toNat∧c.toNat≤90)∨(97≤c.toNat∧c.toNat≤122)∨(48≤c.toNat∧c.toNat≤57)∨c.toNat=45∨c.toNat=95:=by
 simp only [fD,Bool.or_eq_true,Bool.and_eq_true,decide_eq_true_eq]
def jU (s:Str):Bool:=s.all fD && (decide (1≤s.length) && decide (s.length≤12))
theorem kT {s:Str} (h:∀ j,j<s.length→fD (s.getD j 0)=true):s.all fD=true:=List.all_eq_true.2 fun x hx=>by
 obtain ⟨j,hj,rfl⟩:=List.getElem_of_mem hx
 have:=h j hj
 rwa [au hj] at this
theorem wo {s:Str} (h:s.all fD=true) {j:Nat} (hj:j<s.length):fD (s.getD j 0)=true:=by
 rw [au hj];exact List.all_eq_true.1 h _ (List.getElem_mem hj)
theorem BR {s:Str} {i:Nat} (h:i<s.length) (h1:¬ fD (s.getD i 0)=true):jU s=false:=by
 cases hc:jU s
 ·rfl
 simp only [jU,Bool.and_eq_true] at hc
 exact absurd (wo hc.1 h) h1
theorem Rw {s:Str} (h:∀ j,j<s.length→fD (s.getD j 0)=true):jU s=(decide (1≤s.length) && decide (s.length≤12)):=by rw [jU,kT h];rfl
theorem good_step {s:Str} {i:Nat} (hall:∀ j,j<i→fD (s.getD j 0)=true) (h:fD (s.getD i 0)=true):∀ j,j<i+1→fD (s.getD j 0)=true:=fun j hj=>by
 by_cases hji:j=i
 ·subst hji;exact h
 exact hall j (by omega)
theorem H6 (s:Str) (w:World) (hn:s.length≤9223372036854775807) :
  Calls Tryz.prog 138 #[str s] w (Ret fun v w'=>v = .bool (jU s)∧w'=w):=by
 refine T.enter (vs:=[str s]) func138 rfl ntmps138 rfl ?_
 refine T.q (L.a rfl (L.nil (T.seq (T.q (L.a rfl (L.nil (T.block (?_))))))))
 refine T.loop (σ:=Nat) (fun i=>[(0,str s),(3,.int .i64 i)]) (fun i w'=>i≤s.length∧w'=w∧∀ j,j<i→fD (s.getD j 0)=true) (fun i=>s.length-i) (0) ⟨rfl,rfl,trivial⟩ ⟨Nat.zero_le _,rfl,fun j hj=>absurd hj (Nat.not_lt_zero _)⟩ ?_
 rintro i w' ⟨hi,rfl,hall⟩
 refine T.seq (T.q (L.m rfl (L.m rfl (L.o (O.bP runUnderlying9 rfl (L.o (O.aV rfl rfl (fun hlt=>?_) (fun hlt=>?_))))))))
 ·refine L.nil (?_)
  have hlt':i<s.length:=by omega
  refine T.ct (T.skip (T.seq (T.block (T.q (L.m rfl (L.m rfl (L.o (O.lZ runUnderlying9 rfl rfl (by omega) (L.a rfl (L.nil (T.q (L.m rfl (L.o (O.qg rfl rfl (fun h65=>?_) (fun h65=>?_)))))))))))))))
  ·refine L.m rfl (L.m rfl (L.o (O.qc rfl rfl (fun h90=>?_) (fun h90=>?_))))
   ·refine L.o (O.aj rfl rfl (L.m rfl (L.p (L.p (L.p (L.p (L.p (L.p (L.o (O.aj rfl rfl (L.m rfl (L.p (L.p (L.p (L.p (L.p (L.p (L.o (O.aj rfl rfl (L.m rfl (L.p (L.p (L.o (O.aj rfl rfl (L.m rfl (L.p (L.p (?_))))))))))))))))))))))))))))
    refine L.o (O.aj rfl rfl (L.o (O.not rfl (L.nil (T.cf (T.skip (T.blk (T.region (L.m rfl (L.o (O.aC rfl rfl (by omega) (L.a rfl (L.nil (T.again (i+1) (by omega) ⟨rfl,rfl,trivial⟩ ⟨hlt',rfl,good_step hall (iL.2 (by omega))⟩))))))))))))))
   refine L.o (O.aj rfl rfl (L.m rfl (L.m rfl (L.o (O.qg rfl rfl (fun h97=>?_) (fun h97=>?_))))))
   ·refine L.m rfl (L.m rfl (L.o (O.qc rfl rfl (fun h122=>?_) (fun h122=>?_))))
    ·refine L.o (O.aj rfl rfl (L.o (O.ah rfl rfl (L.m rfl (L.p (L.p (L.p (L.p (L.p (L.p (L.o (O.aj rfl rfl (L.m rfl (L.p (L.p (L.o (O.aj rfl rfl (L.m rfl (L.p (L.p (L.o (O.aj rfl rfl (L.o (O.not rfl (L.nil (T.cf (T.skip (T.blk (T.region (?_))))))))))))))))))))))))))))))
     refine L.m rfl (L.o (O.aC rfl rfl (by omega) (L.a rfl (L.nil (T.again (i+1) (by omega) ⟨rfl,rfl,trivial⟩ ⟨hlt',rfl,good_step hall (iL.2 (by omega))⟩)))))
    refine L.o (O.aj rfl rfl (L.o (O.ah rfl rfl (L.m rfl (L.m rfl (L.o (O.Bv rfl rfl (by omega) (L.m rfl (L.m rfl (L.o (O.Ro rfl rfl (by omega) (L.o (O.aj rfl rfl (L.o (O.ah rfl rfl (L.m rfl (L.m rfl (L.o (O.dY rfl rfl (by omega) (L.o (O.ah rfl rfl (L.m rfl (L.m rfl (L.o (O.dY rfl rfl (by omega) (L.o (O.ah rfl rfl (L.o (O.not rfl (L.nil (T.ct (T.q (L.a rfl (?_))))))))))))))))))))))))))))))))))
    refine L.nil (T.aN results138 rfl ⟨by rw [BR hlt' (fun h=>by have:=iL.1 h;omega)],rfl⟩)
   refine L.m rfl (L.p (L.p (L.o (O.ah rfl rfl (L.o (O.ah rfl rfl (L.m rfl (L.m rfl (L.o (O.Bv rfl rfl (by omega) (L.m rfl (L.m rfl (L.o (O.Ro rfl rfl (by omega) (L.o (O.aj rfl rfl (L.o (O.ah rfl rfl (L.m rfl (L.m rfl (L.o (O.dY rfl rfl (by omega) (L.o (O.ah rfl rfl (L.m rfl (L.m rfl (L.o (O.gJ rfl rfl (fun h95=>?_) (fun h95=>?_)))))))))))))))))))))))))))))
   ·refine L.o (O.ah rfl rfl (L.o (O.not rfl (L.nil (T.cf (T.skip (T.blk (T.region (L.m rfl (L.o (O.aC rfl rfl (by omega) (L.a rfl (L.nil (T.again (i+1) (by omega) ⟨rfl,rfl,trivial⟩ ⟨hlt',rfl,good_step hall (iL.2 (by omega))⟩))))))))))))))
   refine L.o (O.ah rfl rfl (L.o (O.not rfl (L.nil (T.ct (T.q (L.a rfl (L.nil (T.aN results138 rfl ⟨by rw [BR hlt' (fun h=>by have:=iL.1 h;omega)],rfl⟩)))))))))
  refine L.m rfl (L.p (L.p (L.o (O.ah rfl rfl (L.m rfl (L.m rfl (L.o (O.KD rfl rfl (by omega) (L.m rfl (L.p (L.p (L.o (O.ah rfl rfl (L.o (O.ah rfl rfl (L.m rfl (L.m rfl (L.o (O.qg rfl rfl (fun h48=>?_) (fun h48=>?_))))))))))))))))))))
  ·refine L.m rfl (L.m rfl (L.o (O.qc rfl rfl (fun h57=>?_) (fun h57=>?_))))
   ·refine L.o (O.aj rfl rfl (L.o (O.ah rfl rfl (L.m rfl (L.p (L.p (L.o (O.aj rfl rfl (L.m rfl (L.p (L.p (L.o (O.aj rfl rfl (L.o (O.not rfl (L.nil (T.cf (T.skip (T.blk (T.region (L.m rfl (L.o (O.aC rfl rfl (by omega) (L.a rfl (L.nil (T.again (i+1) (by omega) ⟨rfl,rfl,trivial⟩ ⟨hlt',rfl,good_step hall (iL.2 (by omega))⟩))))))))))))))))))))))))))
   refine L.o (O.aj rfl rfl (L.o (O.ah rfl rfl (L.m rfl (L.m rfl (L.o (O.dY rfl rfl (by omega) (L.o (O.ah rfl rfl (L.m rfl (L.m rfl (L.o (O.dY rfl rfl (by omega) (L.o (O.ah rfl rfl (L.o (O.not rfl (L.nil (T.ct (T.q (L.a rfl (L.nil (T.aN results138 rfl ⟨by rw [BR hlt' (fun h=>by have:=iL.1 h;omega)],rfl⟩)))))))))))))))))))))))
  refine L.m rfl (L.p (L.p (L.o (O.ah rfl rfl (L.o (O.ah rfl rfl (L.m rfl (L.m rfl (L.o (O.gJ rfl rfl (fun h45=>?_) (fun h45=>?_)))))))))))
  ·refine L.o (O.ah rfl rfl (L.m rfl (L.p (L.p (L.o (O.aj rfl rfl (L.o (O.not rfl (L.nil (T.cf (T.skip (T.blk (T.region (L.m rfl (L.o (O.aC rfl rfl (by omega) (L.a rfl (L.nil (T.again (i+1) (by omega) ⟨rfl,rfl,trivial⟩ ⟨hlt',rfl,good_step hall (iL.2 (by omega))⟩)))))))))))))))))))
  refine L.o (O.ah rfl rfl (L.m rfl (L.m rfl (L.o (O.dY rfl rfl (by omega) (L.o (O.ah rfl rfl (L.o (O.not rfl (L.nil (T.ct (T.q (L.a rfl (L.nil (T.aN results138 rfl ⟨by rw [BR hlt' (fun h=>by have:=iL.1 h;omega)],rfl⟩)))))))))))))))
 refine L.nil (?_)
 have hl:=Rw (s:=s) (fun j hj=>hall j (by omega))
 refine T.cf (T.exit rfl (T.q (L.m rfl (L.o (O.bP runUnderlying9 rfl (L.o (O.qg rfl rfl (fun h1=>?_) (fun h1=>?_))))))))
 ·refine L.m rfl (L.m rfl (L.o (O.bP runUnderlying9 rfl (L.o (O.qc rfl rfl (fun h2=>?_) (fun h2=>?_))))))
  ·refine L.o (O.aj rfl rfl (L.a rfl (L.nil (T.aN results138 rfl ⟨by rw [hl,decide_eq_true (by omega),decide_eq_true (by omega)];rfl,rfl⟩))))
  refine L.o (O.aj rfl rfl (L.a rfl (L.nil (T.aN results138 rfl ⟨by rw [hl,decide_eq_false (show ¬ s.length≤12 by omega)];simp,rfl⟩))))
 refine L.m rfl (L.p (L.p (L.p (L.o (O.ah rfl rfl (L.a rfl (L.nil (T.aN results138 rfl ⟨by rw [hl,decide_eq_false (show ¬ 1≤s.length by omega)];rfl,rfl⟩))))))))
def dn (s:Str):Nat→List Value
 | 0=>List.replicate 256 (.bool false)
 | i+1=>(dn s i).set (s.getD i 0).toNat (.bool true)
theorem eG (s:Str):∀ i,(dn s i).length=256
 | 0=>by simp [dn]
 | i+1=>by simp [dn,eG s i]
def abv (c:Nat):Bool:=(decide (65≤c) && decide (c≤90)) || ((decide (97≤c) && decide (c≤122)) || ((decide (48≤c) && decide (c≤57)) || (decide (c=45) || decide (c=95))))
theorem BU:dn letters 64=(List.range 256).map fun c=>Value.bool (abv c):=by kernel_rfl
theorem o7 (s:Str):∀ i,∀ u∈dn s i,u.oneCell'=true
 | 0=>fun u hu=>by obtain ⟨_,rfl⟩:=List.mem_replicate.1 hu;rfl
 | i+1=>fun u hu=>by
  rcases List.mem_or_eq_of_mem_set hu with h|h
  ·exact o7 s i u h
  subst h;rfl
theorem Oe (c:UInt8):(dn letters 64)[c.toNat]?=some (.bool (fD c)):=by
 rw [BU]
 have:c.toNat<256:=c.toNat_lt
 simp [this];rfl
theorem H7:∀ j,j<letters.length→(letters.getD j 0).toNat<128:=by decide +kernel
theorem H8 (w:World) :
  Calls Tryz.prog 166 #[str letters] w (Ret fun v w'=>Ext w w'∧v = .tuple #[.agg (dn letters 64).toArray,.bool true]):=by
 refine T.enter (vs:=[str letters]) func166 rfl ntmps166 rfl ?_
 refine T.q (L.o (O.alloc zeroValue241 (fun b1 w1 hb1 hz1 he1 hB1=>?_)))
 have hll:letters.length=64:=by decide
 refine L.a rfl (L.nil (T.seq (T.q (L.a rfl (L.nil (T.block (?_)))))))
 refine T.loop (σ:=Nat) (fun i=>[(0,str letters),(2,.pointer (some ⟨b1,0,none⟩)),(4,.int .i64 i)]) (fun i w'=>i≤64∧Ext w w'∧Blk w' b1 (dn letters i) 241) (fun i=>64-i) (0) ⟨rfl,rfl,rfl,trivial⟩ ⟨Nat.zero_le _,he1,hB1⟩ ?_
 rintro i w2 ⟨hi,he2,hB2⟩
 refine T.seq (T.q (L.m rfl (L.m rfl (L.o (O.bP runUnderlying9 rfl (L.o (O.aV rfl rfl (fun hlt=>?_) (fun hlt=>?_))))))))
 ·refine L.nil (?_)
  have hlt':i<letters.length:=by omega
  have hlow:=H7 i hlt'
  refine T.ct (T.skip (T.seq (T.block (T.q (L.m rfl (L.m rfl (L.o (O.lZ runUnderlying9 rfl rfl (by omega) (L.a rfl (L.nil (T.seq (T.q (L.m rfl (L.o (O.KD rfl rfl (by omega) (L.nil (T.cf (T.skip (T.region (L.m rfl (L.o (O.gI runUnderlying241 sizeOf4 rfl rfl (by omega) (by omega) (L.o (O.bf sizeOf4 rfl rfl rfl hB2 (by rw [eG];omega) (fun w3 hu3 hB3=>?_)))))))))))))))))))))))))
  refine L.nil (T.blk (T.region (L.m rfl (L.o (O.aC rfl rfl (by omega) (L.a rfl (L.nil (T.again (i+1) (by omega) ⟨rfl,rfl,rfl,trivial⟩ ⟨by omega,he2.upd hu3 (.inr (by omega)),?_⟩))))))))
  ·have e:(0+((((letters.getD i 0).toNat:Nat):Int).toNat*1))=(letters.getD i 0).toNat:=by rw [Int.toNat_natCast];omega
   rw [dn,← e];exact hB3
 refine L.nil (?_)
 obtain rfl:i=64:=by omega
 refine T.cf (T.exit rfl (T.q (L.o (O.ak isAgg241 sizeOf241 (eG _ _) rfl (Row.ay hB2) (L.o (O.aF sizeOf241 (eG _ _) rfl rfl hB2 (by rw [eG];decide) (o7 _ _) (fun w3 hu3 hB3=>?_)))))))
 have he3:=he2.upd hu3 (.inr (by omega))
 have aaB:Blk w3 b1 (dn letters 64) 241:=by rw [show (dn letters 64).take 0++dn letters 64++(dn letters 64).drop (0+256)=dn letters 64 by rw [List.drop_eq_nil_of_le (by rw [eG];decide)];simp] at hB3;exact hB3
 refine L.a rfl (L.nil (T.abq results166 isAgg241 sizeOf241 (eG _ _) rfl rfl (Row.ay aaB) ⟨he3,rfl⟩))
theorem En (b:Nat) (t:TypeId) (c:UInt8) (w:World) (hb:Blk w b (dn letters 64) t) :
  Calls Tryz.prog 203 #[.pointer (some ⟨b,0,none⟩),.int .u8 (c.toNat:Int)] w (Ret fun v w'=>v = .bool (fD c)∧w'=w):=by
 have hc:c.toNat<256:=c.toNat_lt
 refine T.enter (vs:=[.pointer (some ⟨b,0,none⟩),.int .u8 (c.toNat:Int)]) func203 rfl ntmps203 rfl ?_
 refine T.q (L.a rfl (L.nil (T.q (L.m rfl (L.m rfl (L.o (O.nilCheck rfl (L.o (O.gI runUnderlying241 sizeOf4 rfl rfl (by omega) (by omega) (L.o (O.load isAgg4 rfl (by rw [zS];exact hb.cell (by rw [show 0+(((c.toNat:Nat):Int).toNat*1)=c.toNat by rw [Int.toNat_natCast];omega];exact Oe c)) (L.a rfl (L.nil (T.aN results203 rfl ⟨rfl,rfl⟩))))))))))))))
theorem H9 (b:Nat) (t:TypeId) (s:Str) (w:World) (hb:Blk w b (dn letters 64) t) (hn:s.length≤9223372036854775807) :
  Calls Tryz.prog 168 #[str s,.pointer (some ⟨b,0,none⟩)] w (Ret fun v w'=>w'=w∧∃ n,v=str (s.take n)∧n≤s.length∧(∀ j,n≤j→j<s.length→fD (s.getD j 0)=true)∧(n=0∨¬ fD (s.getD (n-1) 0)=true)):=by
 refine T.enter (vs:=[str s,.pointer (some ⟨b,0,none⟩)]) func168 rfl ntmps168 rfl ?_
 refine T.q (L.a rfl (L.nil (T.seq (T.block (?_)))))
 refine T.loop (σ:=Nat) (fun n=>[(0,str (s.take n)),(1,.pointer (some ⟨b,0,none⟩))]) (fun n w'=>n≤s.length∧w'=w∧∀ j,n≤j→j<s.length→fD (s.getD j 0)=true) (fun n=>n) (s.length) ⟨?_,rfl,trivial⟩ ⟨Nat.le_refl _,rfl,fun j h1 h2=>absurd h2 (by omega)⟩ ?_
 ·rw [List.take_length];rfl
 rintro n w' ⟨hi,rfl,hall⟩
 have hln:(s.take n).length=n:=by rw [List.length_take];omega
 refine T.seq (T.q (L.m rfl (L.o (O.bP runUnderlying9 rfl (L.o (O.fG rfl rfl (fun hlt=>?_) (fun hlt=>?_)))))))
 ·refine L.nil (?_)
  have hn0:0<n:=by omega
  refine T.ct (T.skip (T.block (T.seq (T.q (L.m rfl (L.m rfl (L.m rfl (L.o (O.bP runUnderlying9 rfl (L.o (O.fC rfl rfl (by omega) (L.o (O.je runUnderlying9 rfl rfl (by omega) (by omega) (?_))))))))))))))
  have hgt:(s.take n).getD (((s.take n).length:Int)-1).toNat 0=s.getD (n-1) 0:=by rw [hln,show ((n:Int)-1).toNat=n-1 by omega,au (by omega),au (by omega),List.getElem_take]
  refine L.o (O.call (xs:=[.tmp 8,.tmp 13]) call203 rfl rfl (En b t ((s.take n).getD (((s.take n).length:Int)-1).toNat 0) w' hb) (fun v1 w1 hq=>?_))
  obtain ⟨rfl,rfl⟩:=hq
  cases hg:fD ((s.take n).getD (((s.take n).length:Int)-1).toNat 0)
  ·refine L.o (O.not rfl (L.nil (T.ct (T.exit rfl (T.q (L.m rfl (L.a rfl (L.nil (T.aN results168 rfl ⟨rfl,n,rfl,hi,hall,.inr (by rw [← hgt,hg];decide)⟩)))))))))
  refine L.o (O.not rfl (L.nil (T.cf (T.skip (T.region (L.m rfl (L.m rfl (L.o (O.bP runUnderlying9 rfl (L.o (O.fC rfl rfl (by omega) (L.o (O.iD runUnderlying9 rfl rfl (by omega) (by omega) (L.a rfl (L.nil (T.blk (T.again (n-1) (by omega) ⟨?_,rfl,trivial⟩ ⟨by omega,rfl,fun j h1 h2=>?_⟩)))))))))))))))))
  ·rw [List.take_take];rw [show min (((s.take n).length:Int)-1).toNat n=n-1 by omega];rfl
  by_cases hj:j=n-1
  ·subst hj;rw [← hgt];exact hg
  exact hall j (by omega) h2
 refine L.nil (T.cf (T.exit rfl (T.q (L.m rfl (L.a rfl (L.nil (T.aN results168 rfl ⟨rfl,n,rfl,hi,hall,.inl (by omega)⟩)))))))
theorem Ia (b:Nat) (t:TypeId) (s:Str) (w:World) (hb:Blk w b (dn letters 64) t) (hn:s.length≤9223372036854775807) :
  Calls Tryz.prog 167 #[str s,.pointer (some ⟨b,0,none⟩)] w (Ret fun v w'=>w'=w∧∃ u,v=str u∧(u = []↔s.all fD=true)):=by
 refine T.enter (vs:=[str s,.pointer (some ⟨b,0,none⟩)]) func167 rfl ntmps167 rfl ?_
 refine T.q (L.a rfl (L.nil (T.seq (T.block (?_)))))
 refine T.loop (σ:=Nat) (fun n=>[(0,str (s.drop n)),(1,.pointer (some ⟨b,0,none⟩))]) (fun n w'=>n≤s.length∧w'=w∧∀ j,j<n→fD (s.getD j 0)=true) (fun n=>s.length-n) (0) ⟨rfl,rfl,trivial⟩ ⟨Nat.zero_le _,rfl,fun j h1=>absurd h1 (by omega)⟩ ?_
 rintro n w' ⟨hi,rfl,hall⟩
 have hln:(s.drop n).length=s.length-n:=List.length_drop
 refine T.seq (T.q (L.m rfl (L.o (O.bP runUnderlying9 rfl (L.o (O.fG rfl rfl (fun hlt=>?_) (fun hlt=>?_)))))))
 ·refine L.nil (?_)
  have hn0:n<s.length:=by omega
  refine T.ct (T.skip (T.block (T.seq (T.q (L.m rfl (L.m rfl (L.o (O.je runUnderlying9 rfl rfl (by decide) (by rw [hln];simp;omega) (?_)))))))))
  have hgt:(s.drop n).getD (0:Int).toNat 0=s.getD n 0:=by rw [show ((0:Int)).toNat=0 from rfl,au (by omega),au (by omega),List.getElem_drop];rfl
  refine L.o (O.call (xs:=[.tmp 8,.tmp 10]) call203 rfl rfl (En b t ((s.drop n).getD (0:Int).toNat 0) w' hb) (fun v1 w1 hq=>?_))
  obtain ⟨rfl,rfl⟩:=hq
  cases hg:fD ((s.drop n).getD (0:Int).toNat 0)
  ·refine L.o (O.not rfl (L.nil (T.ct (T.exit rfl (T.q (L.m rfl (L.a rfl (L.nil (T.aN results167 rfl ⟨rfl,_,rfl,fun h=>absurd (congrArg List.length h) (by rw [hln];simp;omega),fun h=>absurd (wo h hn0) (by rw [← hgt,hg];decide)⟩)))))))))
  refine L.o (O.not rfl (L.nil (T.cf (T.skip (T.region (L.m rfl (L.o (O.oU runUnderlying9 rfl rfl (by decide) (by rw [hln];show 1≤_;omega) (L.a rfl (L.nil (T.blk (T.again (n+1) (by omega) ⟨?_,rfl,trivial⟩ ⟨by omega,rfl,good_step hall (by rw [← hgt];exact hg)⟩))))))))))))
  ·rw [List.drop_drop];rfl
 refine L.nil (T.cf (T.exit rfl (T.q (L.m rfl (L.a rfl (L.nil (T.aN results167 rfl ⟨rfl,_,rfl,fun _=>kT (fun j hj=>hall j (by omega)),fun _=>List.drop_eq_nil_of_le (by omega)⟩)))))))
theorem KR (s:Str) (w:World) (hn:s.length≤9223372036854775807) :
  Calls Tryz.prog 136 #[str s,str letters] w (Ret fun v w'=>Ext w w'∧∃ u,v=str u∧(u = []↔s.all fD=true)):=by
 refine T.enter (vs:=[str s,str letters]) func136 rfl ntmps136 rfl ?_
 refine T.q (L.a rfl (L.nil (T.seq (T.q (L.m rfl (L.o (O.lY runUnderlying9 rfl rfl (fun h0=>?_) (fun h0=>?_))))))))
 ·refine L.m rfl (L.p (L.p (L.o (O.aj rfl rfl (L.nil (T.ct (T.q (L.m rfl (L.a rfl (L.nil (T.aN results136 rfl ⟨Keep.refl _ _,[],by rw [h0],by rw [h0];simp⟩)))))))))))
 refine L.m rfl (L.m rfl (L.o (O.aA runUnderlying9 rfl rfl (by decide) (L.o (O.ah rfl rfl (L.nil (T.cf (T.skip (T.seq (T.q (L.m rfl (L.o (O.bP runUnderlying9 rfl (L.o (O.dY rfl rfl (by decide) (L.m rfl (L.p (L.p (L.p (L.o (O.ah rfl rfl (L.nil (T.cf (T.skip (T.seq (T.q (?_)))))))))))))))))))))))))))
 refine L.m rfl (L.o (O.call (xs:=[.tmp 30]) call166 rfl rfl (H8 w) (fun v1 w1 hq=>?_)))
 obtain ⟨he1,rfl⟩:=hq
 refine L.m rfl (L.o (O.extract rfl rfl (L.o (O.extract rfl rfl (L.o (O.alloc zeroValue241 (fun b2 w2 hb2 hz2 he2 hB2=>?_)))))))
 refine L.o (O.aF sizeOf241 (eG _ _) rfl rfl hB2 (by decide) (o7 _ _) (fun w3 hu3 hB3=>?_))
 have aaB:Blk w3 b2 (dn letters 64) 241:=by rw [show ∀ cs:List Value,cs.length=256→cs.take 0++dn letters 64++cs.drop (0+256)=dn letters 64 from fun cs hc=>by rw [List.drop_eq_nil_of_le (by omega)];simp] at hB3;exact hB3;decide
 have he3:=(he1.trans he2).upd hu3 (.inr (by have:=he1.size;omega))
 skip
 ·refine L.a rfl (L.nil (T.q (L.m rfl (L.nil (T.ct (T.q (L.m rfl (L.o (O.call (xs:=[.tmp 35,.tmp 5]) call168 rfl rfl (H9 b2 _ s w3 aaB hn) (fun v4 w4 hq=>?_))))))))))
  obtain ⟨rfl,n,rfl,hn4,hall,hend⟩:=hq
  refine L.o (O.call (xs:=[.tmp 36,.tmp 5]) call167 rfl rfl (Ia b2 _ (s.take n) w4 aaB (by rw [List.length_take];omega)) (fun v5 w5 hq=>?_))
  obtain ⟨rfl,u,rfl,hu⟩:=hq
  refine L.a rfl (L.nil (T.aN results136 rfl ⟨he3,u,rfl,?_⟩))
  rw [hu]
  constructor
  ·intro h
   refine kT fun j hj=>?_
   rcases Nat.lt_or_ge j n with h1|h1
   ·have:=wo h (j:=j) (by rw [List.length_take];omega)
    rwa [au (by rw [List.length_take];omega),List.getElem_take,← au (d:=0)] at this
   exact hall j h1 hj
  intro h
  refine kT fun j hj=>?_
  rw [List.length_take] at hj
  have:=wo h (j:=j) (by omega)
  rwa [au (by rw [List.length_take];omega),List.getElem_take,← au (d:=0)]
open Go Go.E
structure UnV where
 nm:Str
 pp:Int
 gv:Value
 gs:List Int
 vv:Value
 vs:List Int
 pv:Value
 ps:List Int
 wt:Bool
def u0:UnV:=⟨[],0,.slice none 0 0,[],.slice none 0 0,[],.slice none 0 0,[],false⟩
def UnV.cells (u:UnV):List Value:=[str u.nm,.int .i64 u.pp,u.gv,u.vv,u.pv,.bool u.wt]
def UnV.val (u:UnV):Value:=.agg u.cells.toArray
structure UnV.ok (lo:Nat) (w:World) (u:UnV):Prop where
 g:Ints .i64 lo w u.gv u.gs
 v:Ints .i64 lo w u.vv u.vs
 p:Ints .i64 lo w u.pv u.ps
 n:u.nm.length≤9223372036854775807
theorem UnV.ok.keep {lo:Nat} {w w':World} {u:UnV} (h:u.ok lo w) (k:Keep lo w w'):u.ok lo w':=⟨h.g.keep k,h.v.keep k,h.p.keep k,h.n⟩
theorem UnV.ok.mono {lo lo':Nat} {w:World} {u:UnV} (h:u.ok lo w) (hl:lo'≤lo):u.ok lo' w:=⟨h.g.mono hl,h.v.mono hl,h.p.mono hl,h.n⟩
theorem UnV.Og (u:UnV):u.cells.length=6:=rfl
def eH (us:List UnV):List Value:=(us.map UnV.cells).flatten
theorem qB (us vs:List UnV):eH (us++vs)=eH us++eH vs:=by simp [eH]
theorem rV (u:UnV):eH [u]=u.cells:=by simp [eH]
theorem o8:∀ (us:List UnV) (n:Nat),(eH us).take (n*6)=eH (us.take n)
 | [],n=>by simp [eH]
 | u::r,0=>by simp [eH]
 | u::r,n+1=>by
  have:=o8 r n
  simp only [eH,List.map_cons,List.flatten_cons,List.take_succ_cons] at this ⊢
  rw [show (n+1)*6=u.cells.length+n*6 by rw [u.Og];omega,List.take_length_add_append,this]
theorem zk {lo:Nat} {w:World} {us:List UnV} (h:∀ u∈us,u.ok lo w):∀ c∈eH us,c.oneCell'=true:=fun c hc=>by
 obtain ⟨l,hl,hc2⟩:=List.mem_flatten.1 hc
 obtain ⟨u,hu,rfl⟩:=List.mem_map.1 hl
 have ho:=h u hu
 simp only [UnV.cells,List.mem_cons,List.mem_nil_iff,or_false] at hc2
 rcases hc2 with rfl|rfl|rfl|rfl|rfl|rfl
 ·rfl
 ·rfl
 ·exact Sl.one ho.g
 ·exact Sl.one ho.v
 ·exact Sl.one ho.p
 rfl
theorem UnV.ok.one {lo:Nat} {w:World} {u:UnV} (h:u.ok lo w):∀ c∈u.cells,c.oneCell'=true:=fun c hc=>zk (us:=[u]) (fun x hx=>by rw [List.mem_singleton.1 hx];exact h) c (by rw [rV];exact hc)
structure Units (lo:Nat) (w:World) (v:Value) (us:List UnV):Prop where
 sl:Sl lo w v us.length 6 (eH us)
 ok:∀ u∈us,u.ok lo w
theorem Units.keep {lo:Nat} {w w':World} {v:Value} {us:List UnV} (h:Units lo w v us) (k:Keep lo w w'):Units lo w' v us:=⟨h.sl.keep k,fun u hu=>(h.ok u hu).keep k⟩
theorem Units.mono {lo lo':Nat} {w:World} {v:Value} {us:List UnV} (h:Units lo w v us) (hl:lo'≤lo):Units lo' w v us:=⟨h.sl.mono hl,fun u hu=>(h.ok u hu).mono hl⟩
theorem Units.row {lo:Nat} {w:World} {v:Value} {us:List UnV} (h:Units lo w v us) {i:Nat} (hi:i<us.length):Row w ((iV v).add ((i:Int).toNat*6)) (us.getD i u0).cells:=by
 rw [Int.toNat_natCast]
 refine Sl.elem h.sl (fun c hc=>?_) (i:=i) ?_ (by omega)
 ·obtain ⟨u,_,rfl⟩:=List.mem_map.1 hc;rfl
 simp [List.getD,hi]
theorem Units.at {lo:Nat} {w:World} {v:Value} {us:List UnV} (h:Units lo w v us) {i:Nat} (hi:i<us.length):(us.getD i u0).ok lo w:=h.ok _ (by rw [au hi];exact List.getElem_mem hi)
structure RoV where
 G:Int
 P:Int
 L:Int
 uv:Value
 us:List UnV
def RoV.cells (r:RoV):List Value:=[.int .i64 r.G,.int .i64 r.P,.int .i64 r.L,r.uv]
def RoV.val (r:RoV):Value:=.agg r.cells.toArray
def RoV.ok (lo:Nat) (w:World) (r:RoV):Prop:=Units lo w r.uv r.us
theorem RoV.ok.keep {lo:Nat} {w w':World} {r:RoV} (h:r.ok lo w) (k:Keep lo w w'):r.ok lo w':=Units.keep h k
theorem RoV.ok.ext {lo:Nat} {w w':World} {r:RoV} (h:r.ok lo w) (k:Ext w w'):r.ok lo w':=Units.keep h (k.mono (Nat.zero_le _))
theorem UnV.ok.ext {lo:Nat} {w w':World} {u:UnV} (h:u.ok lo w) (k:Ext w w'):u.ok lo w':=h.keep (k.mono (Nat.zero_le _))
theorem Units.ext {lo:Nat} {w w':World} {v:Value} {us:List UnV} (h:Units lo w v us) (k:Ext w w'):Units lo w' v us:=h.keep (k.mono (Nat.zero_le _))
def bM (u:UnV):Int:=if u.wt then 0 else 1000000000
def gU (u:UnV):Int:=if u.wt then 0 else 63
def rW (r:RoV) (u:UnV):List Bool:=[!decide (u.nm = []),decide ((u.nm.length:Int)≤12),u.nm.all fD,decide (0≤u.pp),decide (u.pp≤bM u),aZ u.gs r.G u.pp,aZ u.vs r.P (bM u),aZ u.ps r.L (gU u)]
def bK (r:RoV) (u:UnV):Bool:=(rW r u).all id
theorem fV {w:World} {b lo:Nat} {bs:List Bool} {t:TypeId} {n:Nat} (h:Blk w b (bs.map Value.bool) t) (hn:bs.length=n) (hm:n≤maxLen) (hlo:lo≤b):Bools lo w (.slice (some ⟨b,0,none⟩) n n) bs:=by
 subst hn;exact Sl.ay h (by simp) (Nat.le_refl _) hm hlo
def wU (s:Str) (v:Value) (w:World):Prop:=∃ t,v=str t∧(t = []↔s.all fD=true)
theorem wU.st {s:Str} : ∀ v w w',Ext w w'→wU s v w→wU s v w':=fun _ _ _ _ h=>h
theorem kV (lo:Nat) (r:RoV) (u:UnV) (w:World) (hu:u.ok lo w) :
  Calls Tryz.prog 80 #[r.val,u.val] w (Ret fun v w'=>v = .bool (bK r u)∧Ext w w'):=by
 refine T.enter (vs:=[r.val,u.val]) func80 rfl ntmps80 rfl ?_
 refine T.q (L.o (O.box rfl (fun b1 w1 hb1 hz1 he1 hB1=>?_)))
 refine L.o (O.box rfl (fun b2 w2 hb2 hz2 he2 hB2=>?_))
 have wu:=he1.trans he2
 have hC1:Blk w2 b1 r.cells _:=hB1.ext he2
 have hC2:Blk w2 b2 u.cells _:=hB2
 refine L.a rfl (L.nil (T.q (L.a rfl (L.a rfl (L.nil (T.seq (T.q (L.o (O.fieldAddr runUnderlying51 rfl sizeOf4 rfl (L.o (O.load isAgg4 rfl (hC2.cell rfl) (?_))))))))))))
 have hu2:=hu.ext wu
 refine L.nil (?_)
 refine T.join (σ:=Unit) (fun _=>[(2,.pointer (some ⟨b1,0,none⟩)),(3,.pointer (some ⟨b2,0,none⟩)),(5,.int .i64 (bM u)),(6,.int .i64 (gU u))]) (fun _ w'=>w'=w2) ?_ ?_
 ·have hq:u.wt=u.wt:=rfl
  rcases hwt:u.wt with _|_
  ·refine T.cf (T.skip (T.meet (()) ⟨rfl,rfl,?_,?_,trivial⟩ rfl))
   ·rw [bM,hwt];rfl
   rw [gU,hwt];rfl
  refine T.ct (T.region (L.a rfl (L.a rfl (L.nil (T.meet (()) ⟨rfl,rfl,?_,?_,trivial⟩ rfl)))))
  ·rw [bM,hwt];rfl
  rw [gU,hwt];rfl
 rintro _ w3 rfl
 refine T.seq (?_)
 refine T.dL mixed 37 [3,5,2,6] rfl (.is _ :: .is _ :: .is _ :: .is _ :: .is _ :: .is _ :: .is _ :: .is _ :: .is _ :: .such (wU u.nm) :: .is (.bool (u.nm.all fD)) :: .is _ :: .is _ :: .is _ :: .is _ :: .is _ :: .is _ :: .is _ :: .is _ :: .is _ :: .is _ :: .is _ :: .is _ :: .is _ :: .is (.bool (aZ u.gs r.G u.pp)) :: .is _ :: .is _ :: .is _ :: .is _ :: .is _ :: .is (.bool (aZ u.vs r.P (bM u))) :: .is _ :: .is _ :: .is _ :: .is _ :: .is _ :: .is (.bool (aZ u.ps r.L (gU u))) :: []) ([] :: [0] :: [1] :: [] :: [3] :: [4] :: [5] :: [] :: [7] :: [8] :: [9] :: [] :: [11] :: [12] :: [] :: [14] :: [] :: [15,16] :: [] :: [18] :: [] :: [20] :: [] :: [22] :: [19,21,23] :: [] :: [25] :: [] :: [27] :: [] :: [26,28,29] :: [] :: [31] :: [] :: [33] :: [] :: [32,34,35] :: []) ([] :: [0] :: [0,1] :: [] :: [3] :: [3,4] :: [3,4,5] :: [] :: [7] :: [7,8] :: [7,8,9] :: [] :: [11] :: [11,12] :: [] :: [14] :: [] :: [14,15,16] :: [] :: [18] :: [] :: [20] :: [] :: [22] :: [7,8,9,18,19,20,21,22,23] :: [] :: [25] :: [] :: [27] :: [] :: [7,8,9,18,19,20,21,22,23,24,25,26,27,28,29] :: [] :: [31] :: [] :: [33] :: [] :: [7,8,9,18,19,20,21,22,23,24,25,26,27,28,29,30,31,32,33,34,35]::(0::1::2::3::4::5::6::7::8::9::10::11::12::13::14::15::16::17::18::19::20::21::22::23::24::25::26::27::28::29::30::31::32::33::34::35::36 :: [])::(0::1::2::3::4::5::6::7::8::9::10::11::12::13::14::15::16::17::18::19::20::21::22::23::24::25::26::27::28::29::30::31::32::33::34::35::36::37 :: [])::(0::1::2::3::4::5::6::7::8::9::10::11::12::13::14::15::16::17::18::19::20::21::22::23::24::25::26::27::28::29::30::31::32::33::34::35::36::37::38 :: []) :: []) (by kernel_rfl) (by kernel_rfl) rfl (by kernel_rfl) ⟨wU.st,trivial⟩ ⟨fun wx hx=>Ob.o (O.fieldAddr runUnderlying51 rfl sizeOf9 rfl kR),
   fun wx hx=>Ob.o (O.load isAgg9 rfl ((hC2.ext hx).cell rfl) kR),
   fun wx hx=>Ob.o (O.Hg runUnderlying9 rfl rfl kR),
   fun wx hx=>Ob.o (O.fieldAddr runUnderlying51 rfl sizeOf9 rfl kR),
   fun wx hx=>Ob.o (O.load isAgg9 rfl ((hC2.ext hx).cell rfl) kR),
   fun wx hx=>Ob.o (O.bP runUnderlying9 rfl kR),
   fun wx hx=>Ob.o (O.leq rfl rfl kR),
   fun wx hx=>Ob.o (O.fieldAddr runUnderlying51 rfl sizeOf9 rfl kR),
   fun wx hx=>Ob.o (O.load isAgg9 rfl ((hC2.ext hx).cell rfl) kR),
   fun wx hx=>Ob.o (O.call (xs:=[.tmp 17,_]) call136 rfl rfl (KR u.nm wx hu.n) (fun v wy h=>⟨h.1,h.2⟩)),
   fun wx hx v18 Yw=>by { obtain ⟨t,rfl,ht⟩:=Yw;exact Ob.o (O.BI runUnderlying9 rfl rfl ⟨Keep.refl _ _,by rw [show decide (t = [])=u.nm.all fD from by rw [Bool.eq_iff_iff,decide_eq_true_eq];exact ht];rfl⟩) },
   fun wx hx=>Ob.o (O.fieldAddr runUnderlying51 rfl sizeOf3 rfl kR),
   fun wx hx=>Ob.o (O.load isAgg3 rfl ((hC2.ext hx).cell rfl) kR),
   fun wx hx=>Ob.o (O.geq rfl rfl kR),
   fun wx hx=>Ob.o (O.fieldAddr runUnderlying51 rfl sizeOf3 rfl kR),
   fun wx hx=>Ob.o (O.load isAgg3 rfl ((hC2.ext hx).cell rfl) kR),
   fun wx hx=>Ob.o (O.move rfl kR),
   fun wx hx=>Ob.o (O.leq rfl rfl kR),
   fun wx hx=>Ob.o (O.fieldAddr runUnderlying51 rfl sizeOf30 rfl kR),
   fun wx hx=>Ob.o (O.load isAgg30 rfl ((hC2.ext hx).cell rfl) kR),
   fun wx hx=>Ob.o (O.fieldAddr runUnderlying25 rfl sizeOf3 rfl kR),
   fun wx hx=>Ob.o (O.load isAgg3 rfl ((hC1.ext hx).cell rfl) kR),
   fun wx hx=>Ob.o (O.fieldAddr runUnderlying51 rfl sizeOf3 rfl kR),
   fun wx hx=>Ob.o (O.load isAgg3 rfl ((hC2.ext hx).cell rfl) kR),
   fun wx hx=>Ob.o (O.call (xs:=[.tmp 28,.tmp 30,.tmp 32]) call137 rfl rfl (mD lo u.gv u.gs r.G u.pp wx (hu2.g.ext hx)) (fun v wy h=>⟨h.2,h.1⟩)),
   fun wx hx=>Ob.o (O.fieldAddr runUnderlying51 rfl sizeOf30 rfl kR),
   fun wx hx=>Ob.o (O.load isAgg30 rfl ((hC2.ext hx).cell rfl) kR),
   fun wx hx=>Ob.o (O.fieldAddr runUnderlying25 rfl sizeOf3 rfl kR),
   fun wx hx=>Ob.o (O.load isAgg3 rfl ((hC1.ext hx).cell rfl) kR),
   fun wx hx=>Ob.o (O.move rfl kR),
   fun wx hx=>Ob.o (O.call (xs:=[.tmp 35,.tmp 37,.tmp 38]) call137 rfl rfl (mD lo u.vv u.vs r.P (bM u) wx (hu2.v.ext hx)) (fun v wy h=>⟨h.2,h.1⟩)),
   fun wx hx=>Ob.o (O.fieldAddr runUnderlying51 rfl sizeOf30 rfl kR),
   fun wx hx=>Ob.o (O.load isAgg30 rfl ((hC2.ext hx).cell rfl) kR),
   fun wx hx=>Ob.o (O.fieldAddr runUnderlying25 rfl sizeOf3 rfl kR),
   fun wx hx=>Ob.o (O.load isAgg3 rfl ((hC1.ext hx).cell rfl) kR),
   fun wx hx=>Ob.o (O.move rfl kR),
   fun wx hx=>Ob.o (O.call (xs:=[.tmp 41,.tmp 43,.tmp 44]) call137 rfl rfl (mD lo u.pv u.ps r.L (gU u) wx (hu2.p.ext hx)) (fun v wy h=>⟨h.2,h.1⟩)),
   trivial⟩ (fun w4 he4 v18 Yw=>?_)
 refine L.o (O.buildSlice (el:=4) (parts:=[(0,.tmp 11),(1,.tmp 15),(2,.tmp 19),(3,.tmp 22),(4,.tmp 26),(5,.tmp 33),(6,.tmp 39),(7,.tmp 45)]) (vs:=[(0,_),(1,_),(2,_),(3,_),(4,_),(5,_),(6,_),(7,_)]) (cs:=((rW r u).map Value.bool)) rfl (fun w=>by kernel_rfl) (fun b5 w5 hb5 hz5 he5 hB5=>?_))
 refine L.o (O.call (xs:=[.tmp 46]) call79 rfl rfl (iF 0 _ (rW r u) w5 (fV hB5 rfl (by decide) (Nat.zero_le _))) (fun v6 w6 hq=>?_))
 obtain ⟨rfl,rfl⟩:=hq
 refine L.a rfl (L.nil (T.aN results80 rfl ⟨rfl,(wu.trans he4).trans he5⟩))
open Go Go.E
theorem qC {r:RoV} {u:UnV} : bK r u=true↔jU u.nm=true∧0≤u.pp∧u.pp≤bM u∧aZ u.gs r.G u.pp=true∧aZ u.vs r.P (bM u)=true∧aZ u.ps r.L (gU u)=true:=by
 have hl:(¬ u.nm = []∧(u.nm.length:Int)≤12∧u.nm.all fD=true)↔jU u.nm=true:=by
  simp only [jU,Bool.and_eq_true,decide_eq_true_eq]
  have:u.nm = []↔u.nm.length=0:=List.length_eq_zero_iff.symm
  rw [this]
  constructor
  ·rintro ⟨h1,h2,h3⟩;exact ⟨h3,by omega,by omega⟩
  rintro ⟨h1,h2,h3⟩;exact ⟨by omega,by omega,h1⟩
 rw [← hl]
 simp only [bK,rW,List.all_cons,List.all_nil,id,Bool.and_eq_true,decide_eq_true_eq,Bool.not_eq_true',decide_eq_false_iff_not,and_true,and_assoc]
theorem jf {r:RoV} {u:UnV} (h:¬ (jU u.nm=true∧0≤u.pp∧u.pp≤bM u∧aZ u.gs r.G u.pp=true∧aZ u.vs r.P (bM u)=true∧aZ u.ps r.L (gU u)=true)):bK r u=false:=by
 cases hc:bK r u
 ·rfl
 exact absurd (qC.1 hc) h
theorem wV {xs:List Int} {n m m':Int} (h:aZ xs n m=true) (hm:m≤m'):aZ xs n m'=true:=by
 rw [within_iff] at h ⊢
 exact ⟨h.1,fun j hj=>⟨(h.2 j hj).1,by have:=(h.2 j hj).2;omega⟩⟩
theorem Rx (u:UnV):0≤bM u∧bM u≤1000000000:=by unfold bM;split <;> omega
theorem Yx (u:UnV):0≤gU u∧gU u≤63:=by unfold gU;split <;> omega
theorem Eo (lo:Nat) (r:RoV) (u:UnV) (w:World) (hu:u.ok lo w) :
  Calls Tryz.prog 81 #[r.val,u.val] w (Ret fun v w'=>v = .bool (bK r u)∧Ext w w'):=by
 refine T.enter (vs:=[r.val,u.val]) func81 rfl ntmps81 rfl ?_
 refine T.q (L.o (O.box rfl (fun b1 w1 hb1 hz1 he1 hB1=>?_)))
 refine L.o (O.box rfl (fun b2 w2 hb2 hz2 he2 hB2=>?_))
 have he:=he1.trans he2
 have hC1:Blk w2 b1 r.cells _:=hB1.ext he2
 have hC2:Blk w2 b2 u.cells _:=hB2
 have hu2:=hu.ext he
 have hvm:=Rx u
 have hpm:=Yx u
 refine L.a rfl (L.nil (T.seq (T.q (L.o (O.fieldAddr runUnderlying51 rfl sizeOf9 rfl (L.o (O.load isAgg9 rfl (hC2.cell rfl) (L.o (O.call (xs:=[.tmp 6]) call138 rfl rfl (H6 u.nm w2 hu.n) (fun v3 w3 hq=>?_))))))))))
 obtain ⟨rfl,rfl⟩:=hq
 cases hn:jU u.nm
 ·refine L.o (O.not rfl (L.m rfl (L.p (L.p (L.p (L.o (O.aj rfl rfl (L.m rfl (L.p (L.p (L.p (L.o (O.aj rfl rfl (L.nil (T.ct (T.q (L.a rfl (L.nil (T.aN results81 rfl ⟨by rw [jf (fun h=>by rw [hn] at h;cases h.1)],he⟩)))))))))))))))))))
 refine L.o (O.not rfl (L.m rfl (L.o (O.fieldAddr runUnderlying51 rfl sizeOf3 rfl (L.o (O.load isAgg3 rfl (hC2.cell rfl) (L.o (O.aV rfl rfl (fun h0=>?_) (fun h0=>?_)))))))))
 ·refine L.o (O.ah rfl rfl (L.m rfl (L.p (L.p (L.p (L.o (O.aj rfl rfl (L.nil (T.ct (T.q (L.a rfl (L.nil (T.aN results81 rfl ⟨by rw [jf (fun h=>by have:=h.2.1;omega)],he⟩)))))))))))))
 refine L.o (O.ah rfl rfl (L.m rfl (L.o (O.fieldAddr runUnderlying51 rfl sizeOf3 rfl (L.o (O.load isAgg3 rfl (hC2.cell rfl) (L.o (O.fG rfl rfl (fun h1=>?_) (fun h1=>?_)))))))))
 ·refine L.o (O.ah rfl rfl (L.nil (T.ct (T.q (L.a rfl (L.nil (T.aN results81 rfl ⟨by rw [jf (fun h=>by have:=h.2.2.1;omega)],he⟩)))))))
 refine L.o (O.ah rfl rfl (L.nil (T.cf (T.skip (T.seq (T.q (L.o (O.fieldAddr runUnderlying51 rfl sizeOf30 rfl (L.o (O.load isAgg30 rfl (hC2.cell rfl) (L.o (O.fieldAddr runUnderlying25 rfl sizeOf3 rfl (L.o (O.load isAgg3 rfl (hC1.cell rfl) (L.o (O.fieldAddr runUnderlying51 rfl sizeOf3 rfl (L.o (O.load isAgg3 rfl (hC2.cell rfl) (L.o (O.call (xs:=[.tmp 20,.tmp 22,.tmp 24]) call139 rfl rfl (gQ lo u.gv u.gs r.G u.pp w3 hu2.g) (fun v4 w4 hq=>?_)))))))))))))))))))))
 obtain ⟨rfl,rfl⟩:=hq
 cases hg:aZ u.gs r.G u.pp
 ·refine L.o (O.not rfl (L.m rfl (L.p (L.p (L.p (L.p (L.p (L.p (L.o (O.aj rfl rfl (L.m rfl (L.p (L.p (L.p (L.p (L.p (L.p (L.o (O.aj rfl rfl (L.nil (T.ct (T.q (L.a rfl (L.nil (T.aN results81 rfl ⟨by rw [jf (fun h=>by rw [hg] at h;cases h.2.2.2.1)],he⟩)))))))))))))))))))))))))
 refine L.o (O.not rfl (L.m rfl (L.o (O.fieldAddr runUnderlying51 rfl sizeOf30 rfl (L.o (O.load isAgg30 rfl (hC2.cell rfl) (L.o (O.fieldAddr runUnderlying25 rfl sizeOf3 rfl (L.o (O.load isAgg3 rfl (hC1.cell rfl) (L.o (O.call (xs:=[.tmp 29,.tmp 31,.const (.int .i64 1000000000)]) call139 rfl rfl (gQ lo u.vv u.vs r.P 1000000000 w4 hu2.v) (fun v5 w5 hq=>?_)))))))))))))
 obtain ⟨rfl,rfl⟩:=hq
 cases hv:aZ u.vs r.P 1000000000
 ·refine L.o (O.not rfl (L.o (O.ah rfl rfl (L.m rfl (L.p (L.p (L.p (L.p (L.p (L.p (L.o (O.aj rfl rfl (L.nil (T.ct (T.q (L.a rfl (L.nil (T.aN results81 rfl ⟨by rw [jf (fun h=>by have:=wV h.2.2.2.2.1 hvm.2;rw [hv] at this;cases this)],he⟩))))))))))))))))))
 refine L.o (O.not rfl (L.o (O.ah rfl rfl (L.m rfl (L.o (O.fieldAddr runUnderlying51 rfl sizeOf30 rfl (L.o (O.load isAgg30 rfl (hC2.cell rfl) (L.o (O.fieldAddr runUnderlying25 rfl sizeOf3 rfl (L.o (O.load isAgg3 rfl (hC1.cell rfl) (L.o (O.call (xs:=[.tmp 37,.tmp 39,.const (.int .i64 63)]) call139 rfl rfl (gQ lo u.pv u.ps r.L 63 w5 hu2.p) (fun v6 w6 hq=>?_)))))))))))))))
 obtain ⟨rfl,rfl⟩:=hq
 cases hp:aZ u.ps r.L 63
 ·refine L.o (O.not rfl (L.o (O.ah rfl rfl (L.nil (T.ct (T.q (L.a rfl (L.nil (T.aN results81 rfl ⟨by rw [jf (fun h=>by have:=wV h.2.2.2.2.2 hpm.2;rw [hp] at this;cases this)],he⟩)))))))))
 refine L.o (O.not rfl (L.o (O.ah rfl rfl (L.nil (T.cf (T.skip (T.seq (T.q (L.o (O.fieldAddr runUnderlying51 rfl sizeOf4 rfl (L.o (O.load isAgg4 rfl (hC2.cell rfl) (?_)))))))))))))
 rcases hwt:u.wt with _|_
 ·refine L.nil (T.cf (T.skip (T.q (L.a rfl (L.nil (T.aN results81 rfl ⟨?_,he⟩))))))
  have e1:bM u=1000000000:=by unfold bM;rw [hwt];rfl
  have e2:gU u=63:=by unfold gU;rw [hwt];rfl
  rw [qC.2 ⟨hn,by omega,by omega,hg,by rw [e1];exact hv,by rw [e2];exact hp⟩]
 refine L.nil (?_)
 have e1:bM u=0:=by unfold bM;rw [hwt];rfl
 have e2:gU u=0:=by unfold gU;rw [hwt];rfl
 refine T.ct (T.q (L.o (O.fieldAddr runUnderlying51 rfl sizeOf3 rfl (L.o (O.load isAgg3 rfl (hC2.cell rfl) (L.o (O.gJ rfl rfl (fun hz=>?_) (fun hz=>?_))))))))
 ·refine L.m rfl (L.o (O.fieldAddr runUnderlying51 rfl sizeOf30 rfl (L.o (O.load isAgg30 rfl (hC2.cell rfl) (L.o (O.fieldAddr runUnderlying25 rfl sizeOf3 rfl (L.o (O.load isAgg3 rfl (hC1.cell rfl) (L.o (O.call (xs:=[.tmp 50,.tmp 52,.const (.int .i64 0)]) call139 rfl rfl (gQ lo u.vv u.vs r.P 0 w6 hu2.v) (fun v7 w7 hq=>?_)))))))))))
  obtain ⟨rfl,rfl⟩:=hq
  cases hv0:aZ u.vs r.P 0
  ·refine L.o (O.aj rfl rfl (L.m rfl (L.p (L.p (L.p (L.p (L.p (L.o (O.ah rfl rfl (L.a rfl (L.nil (T.aN results81 rfl ⟨by rw [jf (fun h=>by have:=h.2.2.2.2.1;rw [e1,hv0] at this;cases this)],he⟩))))))))))))
  refine L.o (O.aj rfl rfl (L.m rfl (L.o (O.fieldAddr runUnderlying51 rfl sizeOf30 rfl (L.o (O.load isAgg30 rfl (hC2.cell rfl) (L.o (O.fieldAddr runUnderlying25 rfl sizeOf3 rfl (L.o (O.load isAgg3 rfl (hC1.cell rfl) (L.o (O.call (xs:=[.tmp 57,.tmp 59,.const (.int .i64 0)]) call139 rfl rfl (gQ lo u.pv u.ps r.L 0 w7 hu2.p) (fun v8 w8 hq=>?_)))))))))))))
  obtain ⟨rfl,rfl⟩:=hq
  refine L.o (O.aj rfl rfl (L.a rfl (L.nil (T.aN results81 rfl ⟨?_,he⟩))))
  cases hp0:aZ u.ps r.L 0
  ·rw [jf (fun h=>by have:=h.2.2.2.2.2;rw [e2,hp0] at this;cases this)]
  rw [qC.2 ⟨hn,by omega,by omega,hg,by rw [e1];exact hv0,by rw [e2];exact hp0⟩]
 refine L.m rfl (L.p (L.p (L.p (L.p (L.p (L.o (O.ah rfl rfl (L.m rfl (L.p (L.p (L.p (L.p (L.p (L.o (O.ah rfl rfl (L.a rfl (L.nil (T.aN results81 rfl ⟨by rw [jf (fun h=>by have:=h.2.2.1;omega)],he⟩))))))))))))))))))
open Go Go.E
def zl (r:RoV):List Bool:=[decide (0≤r.G),decide (r.G≤6),decide (0≤r.P),decide (r.P≤12),decide (0≤r.L),decide (r.L≤3),decide (0<(r.us.length:Int)),decide ((r.us.length:Int)≤64)]
theorem wW {r:RoV} : (zl r).all id=true↔0≤r.G∧r.G≤6∧0≤r.P∧r.P≤12∧0≤r.L∧r.L≤3∧0<(r.us.length:Int)∧(r.us.length:Int)≤64:=by
 simp only [zl,List.all_cons,List.all_nil,id,Bool.and_eq_true,decide_eq_true_eq,and_true]
structure GoodAt (r:RoV) (j:Nat):Prop where
 right:bK r (r.us.getD j u0)=true
 name:∀ k,k<j→(r.us.getD k u0).nm≠(r.us.getD j u0).nm
 water:∀ k,k<j→(r.us.getD k u0).wt=true→(r.us.getD j u0).wt=true
 first:j=0→(r.us.getD j u0).wt=false
structure bD (r:RoV):Prop where
 bnd:(zl r).all id=true
 good:∀ j,j<r.us.length→GoodAt r j
noncomputable def dG (r:RoV):Int:=@ite _ (bD r) (Classical.propDecidable _) 0 161
theorem dS {r:RoV} (h:bD r):dG r=0:=by unfold dG;exact if_pos h
theorem bT {r:RoV} (h:¬ bD r):dG r=161:=by unfold dG;exact if_neg h
theorem wX {r:RoV} {i:Nat} (h:∀ j,j<i→GoodAt r j) (hi:GoodAt r i):∀ j,j<i+1→GoodAt r j:=fun j hj=>by
 by_cases e:j=i
 ·subst e;exact hi
 exact h j (by omega)
def KT (us:List UnV):Nat→Bool
 | 0=>false
 | i+1=>(us.getD i u0).wt
def mF (us:List UnV) (i:Nat) (kvs:List (Str × Bool)):Prop:=∀ s,(gy kvs s).getD false=true↔∃ k,k<i∧(us.getD k u0).nm=s
theorem mF.zero (us:List UnV):mF us 0 []:=fun s=>⟨fun h=>(by cases h),fun ⟨k,hk,_⟩=>absurd hk (Nat.not_lt_zero _)⟩
theorem mF.step {us:List UnV} {i:Nat} {kvs:List (Str × Bool)} (h:mF us i kvs):mF us (i+1) (vX kvs (us.getD i u0).nm true):=fun s=>by
 rw [Ju]
 by_cases hs:s=(us.getD i u0).nm
 ·rw [if_pos hs];exact ⟨fun _=>⟨i,by omega,hs.symm⟩,fun _=>rfl⟩
 rw [if_neg hs,h s]
 constructor
 ·rintro ⟨k,hk,e⟩;exact ⟨k,by omega,e⟩
 rintro ⟨k,hk,e⟩
 refine ⟨k,?_,e⟩
 by_cases hki:k=i
 ·subst hki;exact absurd e.symm hs
 omega
def lT (r:RoV) (i:Nat) (kvs:List (Str × Bool)):List Bool:=[bK r (r.us.getD i u0),!(gy kvs (r.us.getD i u0).nm).getD false,(r.us.getD i u0).wt || !KT r.us i,decide (0<(i:Int)) || !(r.us.getD i u0).wt]
theorem mG {r:RoV} {i:Nat} {kvs:List (Str × Bool)} (hn:mF r.us i kvs) (h:∀ j,j<i→GoodAt r j):(lT r i kvs).all id=true↔GoodAt r i:=by
 simp only [lT,List.all_cons,List.all_nil,id,Bool.and_eq_true,and_true,Bool.not_eq_true',Bool.or_eq_true,decide_eq_true_eq]
 have hnm:(gy kvs (r.us.getD i u0).nm).getD false=false↔∀ k,k<i→(r.us.getD k u0).nm≠(r.us.getD i u0).nm:=by
  rw [← Bool.not_eq_true,hn]
  constructor
  ·intro h1 k hk e;exact h1 ⟨k,hk,e⟩
  rintro h1 ⟨k,hk,e⟩;exact h1 k hk e
 rw [hnm]
 constructor
 ·rintro ⟨h1,h2,h3,h4⟩
  refine ⟨h1,h2,fun k hk hw=>?_,fun e=>?_⟩
  ·rcases h3 with h3|h3
   ·exact h3
   cases i with
   | zero=>omega
   | succ i =>
    have hp:(r.us.getD i u0).wt=false:=h3
    by_cases e:k=i
    ·subst e;rw [hp] at hw;cases hw
    have:=(h i (by omega)).water k (by omega) hw
    rw [hp] at this;cases this
  rcases h4 with h4|h4
  ·omega
  exact h4
 rintro ⟨h1,h2,h3,h4⟩
 refine ⟨h1,h2,?_,?_⟩
 ·cases i with
  | zero=>right;rfl
  | succ i =>
   cases hp:(r.us.getD i u0).wt
   ·right;exact hp
   left;exact h3 i (by omega) hp
 by_cases e:i=0
 ·right;exact h4 e
 left;omega
theorem mJ (lo:Nat) (r:RoV) (w:World) (hr:r.ok lo w) :
  Calls Tryz.prog 32 #[r.val] w (Ret fun v w'=>v = .int .i64 (dG r)∧Ext w w'):=by
 refine T.enter (vs:=[r.val]) func32 rfl ntmps32 rfl ?_
 refine T.q (L.o (O.box rfl (fun b1 w1 hb1 hz1 he1 hB1=>?_)))
 have hC1:Blk w1 b1 r.cells _:=hB1
 have hU1:Units lo w1 r.uv r.us:=hr.ext he1
 have hle:=Sl.le hU1.sl
 refine L.a rfl (L.nil (T.q (L.o (O.fieldAddr runUnderlying25 rfl sizeOf23 rfl (L.o (O.load isAgg23 rfl (hC1.cell rfl) (L.o (O.len runUnderlying23 rfl (Sl.val hU1.sl) (L.a rfl (L.nil (T.seq (T.q (L.o (O.fieldAddr runUnderlying25 rfl sizeOf3 rfl (L.o (O.load isAgg3 rfl (hC1.cell rfl) (L.o (O.geq rfl rfl (L.o (O.fieldAddr runUnderlying25 rfl sizeOf3 rfl (L.o (O.load isAgg3 rfl (hC1.cell rfl) (L.o (O.leq rfl rfl (L.o (O.fieldAddr runUnderlying25 rfl sizeOf3 rfl (L.o (O.load isAgg3 rfl (hC1.cell rfl) (L.o (O.geq rfl rfl (L.o (O.fieldAddr runUnderlying25 rfl sizeOf3 rfl (L.o (O.load isAgg3 rfl (hC1.cell rfl) (L.o (O.leq rfl rfl (?_)))))))))))))))))))))))))))))))))))))
 refine L.o (O.fieldAddr runUnderlying25 rfl sizeOf3 rfl (L.o (O.load isAgg3 rfl (hC1.cell rfl) (L.o (O.geq rfl rfl (L.o (O.fieldAddr runUnderlying25 rfl sizeOf3 rfl (L.o (O.load isAgg3 rfl (hC1.cell rfl) (L.o (O.leq rfl rfl (L.m rfl (L.o (O.gtr rfl rfl (L.m rfl (L.o (O.leq rfl rfl (L.o (O.buildSlice (el:=4) (parts:=[(0,.tmp 13),(1,.tmp 16),(2,.tmp 19),(3,.tmp 22),(4,.tmp 25),(5,.tmp 28),(6,.tmp 30),(7,.tmp 32)]) (vs:=[(0,_),(1,_),(2,_),(3,_),(4,_),(5,_),(6,_),(7,_)]) (cs:=((zl r).map Value.bool)) rfl (fun w=>by kernel_rfl) (fun b2 w2 hb2 hz2 he2 hB2=>?_))))))))))))))))))))
 refine L.o (O.call (xs:=[.tmp 33]) call79 rfl rfl (iF 0 _ (zl r) w2 (fV hB2 rfl (by decide) (Nat.zero_le _))) (fun v3 w3 hq=>?_))
 obtain ⟨rfl,rfl⟩:=hq
 cases hb:(zl r).all id
 ·refine L.o (O.not rfl (L.nil (T.ct (T.q (L.a rfl (L.nil (T.aN results32 rfl ⟨by rw [bT (fun h=>by have:=h.bnd;rw [hb] at this;cases this)],he1.trans he2⟩)))))))
 refine L.o (O.not rfl (L.nil (T.cf (T.skip (T.q (L.o (O.qw (kf:=str) (vf:=Value.bool) (fun b4 w4 hb4 hz4 he4 hM4=>?_))))))))
 have jV:=(he1.trans he2).trans he4
 have hU4:Units lo w4 r.uv r.us:=hr.ext jV
 refine L.a rfl (L.nil (T.q (L.a rfl (L.nil (T.seq (T.q (L.o (O.fieldAddr runUnderlying25 rfl sizeOf23 rfl (L.o (O.load isAgg23 rfl ((hC1.ext (he2.trans he4)).cell rfl) (L.o (O.len runUnderlying23 rfl (Sl.val hU4.sl) (L.m rfl (L.nil (T.block (?_))))))))))))))))
 refine T.loop (σ:=Nat × List (Str × Bool)) (fun s=>[(1,.pointer (some ⟨b1,0,none⟩)),(4,.map (some b4)),(5,.bool (KT r.us s.1)),(38,r.uv),(39,.int .i64 r.us.length),(40,.int .i64 s.1)]) (fun s w'=>s.1≤r.us.length∧Ext w w'∧w4.heap.size≤w'.heap.size∧Blk w' b1 r.cells 25∧oV str Value.bool w' b4 s.2∧mF r.us s.1 s.2∧∀ j,j<s.1→GoodAt r j) (fun s=>r.us.length-s.1) ((0,[])) ⟨rfl,rfl,rfl,rfl,rfl,rfl,trivial⟩ ⟨Nat.zero_le _,jV,Nat.le_refl _,hC1.ext (he2.trans he4),hM4,mF.zero _,fun j hj=>absurd hj (Nat.not_lt_zero _)⟩ ?_
 rintro ⟨i,kvs⟩ w5 ⟨hi,he5,hz5,hC5,hM5,hN5,hG5⟩
 have hs4:w.heap.size≤b4:=by have h1:=(he1.trans he2).size;omega
 have hU5:Units lo w5 r.uv r.us:=hr.ext he5
 refine T.q (L.o (O.aV rfl rfl (fun hlt=>?_) (fun hlt=>?_)))
 ·refine L.nil (?_)
  have hlt':i<r.us.length:=by simpa using hlt
  refine T.seq (T.ct (T.skip (T.seq (T.block (T.q (L.m rfl (L.o (O.indexAddr runUnderlying23 sizeOf51 rfl rfl hU5.sl (by omega) (by omega) (L.o (O.ak isAgg51 sizeOf51 rfl rfl (hU5.row hlt') (L.o (O.alloc zeroValue51 (fun b6 w6 hb6 hz6 he6 hB6=>?_)))))))))))))
  refine L.a rfl (L.o (O.aF sizeOf51 rfl rfl rfl hB6 (Nat.le_refl _) (hU5.at hlt').one (fun w7 hu7 hB7=>?_)))
  have zX:Blk w7 b6 (r.us.getD i u0).cells 51:=hB7
  have Ep:Ext w5 w7:=he6.upd hu7 (.inr (by omega))
  have hC7:=hC5.ext Ep
  have hM7:=hM5.ext Ep
  have hk7:=(hU5.at hlt').ext Ep
  rcases hwt:(r.us.getD i u0).wt with _|_
  ·refine L.nil (?_)
   by_cases hi0:0<(i:Int)
   ·have hBu:Blk w7 b6 [str (r.us.getD i u0).nm,.int .i64 (r.us.getD i u0).pp,(r.us.getD i u0).gv,(r.us.getD i u0).vv,(r.us.getD i u0).pv,.bool false] 51:=by rw [← hwt];exact zX
    refine T.seq (T.seq (?_))
    refine T.dL mixed 21 [1,7,4,5,6] rfl [.is _,.is _,.is (.bool (bK r (r.us.getD i u0))),.is _,.is _,.is _,.is _,.is _,.is _,.is _,.is _,.is _,.is _,.is _,.is _,.is _,.is _,.is undef,.is undef,.is undef,.is _] [[],[],[0,1],[],[],[4],[3,5],[6],[],[8],[9],[10],[11,10],[10,12],[],[14],[15],[16],[17,16],[18,16],[16,19]] [[],[],[0,1],[],[],[4],[3,4,5],[3,4,5,6],[],[8],[0,1,2,8,9],[0,1,2,8,9,10],[0,1,2,8,9,10,11],[0,1,2,8,9,10,11,12],[],[14],[0,1,2,8,9,10,14,15],[0,1,2,8,9,10,14,15,16],[0,1,2,8,9,10,14,15,16,17],[0,1,2,8,9,10,14,15,16,17,18],[0,1,2,8,9,10,14,15,16,17,18,19],[0,1,2,3,4,5,6,7,8,9,10,11,12,13,14,15,16,17,18,19,20],[0,1,2,3,4,5,6,7,8,9,10,11,12,13,14,15,16,17,18,19,20,21],[0,1,2,3,4,5,6,7,8,9,10,11,12,13,14,15,16,17,18,19,20,21,22]] (by kernel_rfl) (by kernel_rfl) rfl (by kernel_rfl) trivial ⟨fun wx hx=>Ob.o (O.ak isAgg25 sizeOf25 rfl rfl ((hC7.ext hx).row) kR),
      fun wx hx=>Ob.o (O.ak isAgg51 sizeOf51 rfl rfl ((zX.ext hx).row) kR),
      fun wx hx=>Ob.o (O.call (xs:=[.tmp 45,.tmp 46]) call80 rfl rfl (kV lo r (r.us.getD i u0) wx (hk7.ext hx)) (fun v wy h=>⟨h.2,h.1⟩)),
      fun wx hx=>Ob.o (O.move rfl kR),
      fun wx hx=>Ob.o (O.fieldAddr runUnderlying51 rfl sizeOf9 rfl kR),
      fun wx hx=>Ob.o (O.load isAgg9 rfl ((zX.ext hx).cell rfl) kR),
      fun wx hx=>Ob.o (O.BL (kf:=str) (vf:=Value.bool) (z0:=false) iY runUnderlying142 runUnderlying9 zeroValue4 rfl rfl (hM7.ext hx) kR),
      fun wx hx=>Ob.o (O.not rfl kR),
      fun wx hx=>Ob.o (O.fieldAddr runUnderlying51 rfl sizeOf4 rfl kR),
      fun wx hx=>Ob.o (O.load isAgg4 rfl ((hBu.ext hx).cell rfl) kR),
      fun wx hx=>Ob.o (O.move rfl kR),
      fun wx hx=>Ob.o (O.move rfl kR),
      fun wx hx=>Ob.o (O.not rfl kR),
      fun wx hx=>Ob.o (O.ah rfl rfl kR),
      fun wx hx=>Ob.o (O.move rfl kR),
      fun wx hx=>Ob.o (O.Bq rfl rfl hi0 kR),
      fun wx hx=>Ob.o (O.move rfl kR),
      fun wx hx=>Ob.pass rfl rfl,
      fun wx hx=>Ob.pass rfl rfl,
      fun wx hx=>Ob.pass rfl rfl,
      fun wx hx=>Ob.o (O.aj rfl rfl kR),
      trivial⟩ (fun w8 he8=>?_)
    have hask:lT r i kvs = [bK r (r.us.getD i u0),!(gy kvs (r.us.getD i u0).nm).getD false,!KT r.us i,true]:=by simp only [lT,hwt];rw [decide_eq_true hi0];simp
    refine L.o (O.buildSlice (el:=4) (parts:=[(0,.tmp 47),(1,.tmp 52),(2,.tmp 58),(3,.tmp 65)]) (vs:=[(0,_),(1,_),(2,_),(3,_)]) (cs:=([bK r (r.us.getD i u0),!(gy kvs (r.us.getD i u0).nm).getD false,!KT r.us i,true].map Value.bool)) rfl (fun w=>by kernel_rfl) (fun b9 w9 hb9 hz9 he9 hB9=>?_))
    rw [← hask] at hB9
    refine L.o (O.call (xs:=[.tmp 66]) call79 rfl rfl (iF 0 _ (lT r i kvs) w9 (fV hB9 rfl (by decide) (Nat.zero_le _))) (fun v10 w10 hq=>?_))
    obtain ⟨rfl,rfl⟩:=hq
    have kK:=he8.trans he9
    cases hok:(lT r i kvs).all id
    ·refine L.o (O.not rfl (L.nil (T.ct (T.q (L.a rfl (L.nil (T.aN results32 rfl ⟨by rw [bT (fun h=>by have:=(mG hN5 hG5).2 (h.good i hlt');rw [hok] at this;cases this)],(he5.trans Ep).trans kK⟩)))))))
    refine L.o (O.not rfl (L.nil (T.cf (T.skip (T.q (L.m rfl (L.o (O.fieldAddr runUnderlying51 rfl sizeOf9 rfl (L.o (O.load isAgg9 rfl ((zX.ext kK).cell rfl) (L.o (O.jT (kf:=str) (vf:=Value.bool) (v:=_) iY runUnderlying142 runUnderlying9 rfl rfl rfl (hM7.ext kK) (fun w11 jg KU=>?_)))))))))))))
    refine L.nil (T.region (L.o (O.fieldAddr runUnderlying51 rfl sizeOf4 rfl (L.o (O.load isAgg4 rfl (((zX.ext kK).upd jg (by have:=hM5.lt;omega)).cell rfl) (?_))))))
    have Yy:=kK.size
    refine L.a rfl (L.nil (T.blk (T.region (L.o (O.aC rfl rfl (by omega) (L.m rfl (L.nil (T.again ((i+1,vX kvs (r.us.getD i u0).nm true)) (by omega) ⟨rfl,rfl,rfl,rfl,rfl,rfl,trivial⟩ ⟨hlt',((he5.trans Ep).trans kK).upd jg (.inr hs4),by have:=Ep.size;have:=jg.size;omega,(hC7.ext kK).upd jg (by omega),KU,hN5.step,wX hG5 ((mG hN5 hG5).1 hok)⟩))))))))
   have hBu:Blk w7 b6 [str (r.us.getD i u0).nm,.int .i64 (r.us.getD i u0).pp,(r.us.getD i u0).gv,(r.us.getD i u0).vv,(r.us.getD i u0).pv,.bool false] 51:=by rw [← hwt];exact zX
   refine T.seq (T.seq (?_))
   refine T.dL mixed 21 [1,7,4,5,6] rfl [.is _,.is _,.is (.bool (bK r (r.us.getD i u0))),.is _,.is _,.is _,.is _,.is _,.is _,.is _,.is _,.is _,.is _,.is _,.is _,.is _,.is _,.is _,.is _,.is _,.is _] [[],[],[0,1],[],[],[4],[3,5],[6],[],[8],[9],[10],[11,10],[10,12],[],[14],[15],[16],[17,16],[18,16],[16,19]] [[],[],[0,1],[],[],[4],[3,4,5],[3,4,5,6],[],[8],[0,1,2,8,9],[0,1,2,8,9,10],[0,1,2,8,9,10,11],[0,1,2,8,9,10,11,12],[],[14],[0,1,2,8,9,10,14,15],[0,1,2,8,9,10,14,15,16],[0,1,2,8,9,10,14,15,16,17],[0,1,2,8,9,10,14,15,16,17,18],[0,1,2,8,9,10,14,15,16,17,18,19],[0,1,2,3,4,5,6,7,8,9,10,11,12,13,14,15,16,17,18,19,20],[0,1,2,3,4,5,6,7,8,9,10,11,12,13,14,15,16,17,18,19,20,21],[0,1,2,3,4,5,6,7,8,9,10,11,12,13,14,15,16,17,18,19,20,21,22]] (by kernel_rfl) (by kernel_rfl) rfl (by kernel_rfl) trivial ⟨fun wx hx=>Ob.o (O.ak isAgg25 sizeOf25 rfl rfl ((hC7.ext hx).row) kR),
     fun wx hx=>Ob.o (O.ak isAgg51 sizeOf51 rfl rfl ((zX.ext hx).row) kR),
     fun wx hx=>Ob.o (O.call (xs:=[.tmp 45,.tmp 46]) call80 rfl rfl (kV lo r (r.us.getD i u0) wx (hk7.ext hx)) (fun v wy h=>⟨h.2,h.1⟩)),
     fun wx hx=>Ob.o (O.move rfl kR),
     fun wx hx=>Ob.o (O.fieldAddr runUnderlying51 rfl sizeOf9 rfl kR),
     fun wx hx=>Ob.o (O.load isAgg9 rfl ((zX.ext hx).cell rfl) kR),
     fun wx hx=>Ob.o (O.BL (kf:=str) (vf:=Value.bool) (z0:=false) iY runUnderlying142 runUnderlying9 zeroValue4 rfl rfl (hM7.ext hx) kR),
     fun wx hx=>Ob.o (O.not rfl kR),
     fun wx hx=>Ob.o (O.fieldAddr runUnderlying51 rfl sizeOf4 rfl kR),
     fun wx hx=>Ob.o (O.load isAgg4 rfl ((hBu.ext hx).cell rfl) kR),
     fun wx hx=>Ob.o (O.move rfl kR),
     fun wx hx=>Ob.o (O.move rfl kR),
     fun wx hx=>Ob.o (O.not rfl kR),
     fun wx hx=>Ob.o (O.ah rfl rfl kR),
     fun wx hx=>Ob.o (O.move rfl kR),
     fun wx hx=>Ob.o (O.y9 rfl rfl hi0 kR),
     fun wx hx=>Ob.o (O.move rfl kR),
     fun wx hx=>Ob.o (O.fieldAddr runUnderlying51 rfl sizeOf4 rfl kR),
     fun wx hx=>Ob.o (O.load isAgg4 rfl ((hBu.ext hx).cell rfl) kR),
     fun wx hx=>Ob.o (O.not rfl kR),
     fun wx hx=>Ob.o (O.ah rfl rfl kR),
     trivial⟩ (fun w8 he8=>?_)
   have hask:lT r i kvs = [bK r (r.us.getD i u0),!(gy kvs (r.us.getD i u0).nm).getD false,!KT r.us i,true]:=by simp only [lT,hwt];rw [decide_eq_false hi0];simp
   refine L.o (O.buildSlice (el:=4) (parts:=[(0,.tmp 47),(1,.tmp 52),(2,.tmp 58),(3,.tmp 65)]) (vs:=[(0,_),(1,_),(2,_),(3,_)]) (cs:=([bK r (r.us.getD i u0),!(gy kvs (r.us.getD i u0).nm).getD false,!KT r.us i,true].map Value.bool)) rfl (fun w=>by kernel_rfl) (fun b9 w9 hb9 hz9 he9 hB9=>?_))
   rw [← hask] at hB9
   refine L.o (O.call (xs:=[.tmp 66]) call79 rfl rfl (iF 0 _ (lT r i kvs) w9 (fV hB9 rfl (by decide) (Nat.zero_le _))) (fun v10 w10 hq=>?_))
   obtain ⟨rfl,rfl⟩:=hq
   have kK:=he8.trans he9
   cases hok:(lT r i kvs).all id
   ·refine L.o (O.not rfl (L.nil (T.ct (T.q (L.a rfl (L.nil (T.aN results32 rfl ⟨by rw [bT (fun h=>by have:=(mG hN5 hG5).2 (h.good i hlt');rw [hok] at this;cases this)],(he5.trans Ep).trans kK⟩)))))))
   refine L.o (O.not rfl (L.nil (T.cf (T.skip (T.q (L.m rfl (L.o (O.fieldAddr runUnderlying51 rfl sizeOf9 rfl (L.o (O.load isAgg9 rfl ((zX.ext kK).cell rfl) (L.o (O.jT (kf:=str) (vf:=Value.bool) (v:=_) iY runUnderlying142 runUnderlying9 rfl rfl rfl (hM7.ext kK) (fun w11 jg KU=>?_)))))))))))))
   refine L.nil (T.region (L.o (O.fieldAddr runUnderlying51 rfl sizeOf4 rfl (L.o (O.load isAgg4 rfl (((zX.ext kK).upd jg (by have:=hM5.lt;omega)).cell rfl) (?_))))))
   have Yy:=kK.size
   refine L.a rfl (L.nil (T.blk (T.region (L.o (O.aC rfl rfl (by omega) (L.m rfl (L.nil (T.again ((i+1,vX kvs (r.us.getD i u0).nm true)) (by omega) ⟨rfl,rfl,rfl,rfl,rfl,rfl,trivial⟩ ⟨hlt',((he5.trans Ep).trans kK).upd jg (.inr hs4),by have:=Ep.size;have:=jg.size;omega,(hC7.ext kK).upd jg (by omega),KU,hN5.step,wX hG5 ((mG hN5 hG5).1 hok)⟩))))))))
  refine L.nil (?_)
  by_cases hi0:0<(i:Int)
  ·have hBu:Blk w7 b6 [str (r.us.getD i u0).nm,.int .i64 (r.us.getD i u0).pp,(r.us.getD i u0).gv,(r.us.getD i u0).vv,(r.us.getD i u0).pv,.bool true] 51:=by rw [← hwt];exact zX
   refine T.seq (T.seq (?_))
   refine T.dL mixed 21 [1,7,4,5,6] rfl [.is _,.is _,.is (.bool (bK r (r.us.getD i u0))),.is _,.is _,.is _,.is _,.is _,.is _,.is _,.is _,.is undef,.is undef,.is _,.is _,.is _,.is _,.is undef,.is undef,.is undef,.is _] [[],[],[0,1],[],[],[4],[3,5],[6],[],[8],[9],[10],[11,10],[10,12],[],[14],[15],[16],[17,16],[18,16],[16,19]] [[],[],[0,1],[],[],[4],[3,4,5],[3,4,5,6],[],[8],[0,1,2,8,9],[0,1,2,8,9,10],[0,1,2,8,9,10,11],[0,1,2,8,9,10,11,12],[],[14],[0,1,2,8,9,10,14,15],[0,1,2,8,9,10,14,15,16],[0,1,2,8,9,10,14,15,16,17],[0,1,2,8,9,10,14,15,16,17,18],[0,1,2,8,9,10,14,15,16,17,18,19],[0,1,2,3,4,5,6,7,8,9,10,11,12,13,14,15,16,17,18,19,20],[0,1,2,3,4,5,6,7,8,9,10,11,12,13,14,15,16,17,18,19,20,21],[0,1,2,3,4,5,6,7,8,9,10,11,12,13,14,15,16,17,18,19,20,21,22]] (by kernel_rfl) (by kernel_rfl) rfl (by kernel_rfl) trivial ⟨fun wx hx=>Ob.o (O.ak isAgg25 sizeOf25 rfl rfl ((hC7.ext hx).row) kR),
     fun wx hx=>Ob.o (O.ak isAgg51 sizeOf51 rfl rfl ((zX.ext hx).row) kR),
     fun wx hx=>Ob.o (O.call (xs:=[.tmp 45,.tmp 46]) call80 rfl rfl (kV lo r (r.us.getD i u0) wx (hk7.ext hx)) (fun v wy h=>⟨h.2,h.1⟩)),
     fun wx hx=>Ob.o (O.move rfl kR),
     fun wx hx=>Ob.o (O.fieldAddr runUnderlying51 rfl sizeOf9 rfl kR),
     fun wx hx=>Ob.o (O.load isAgg9 rfl ((zX.ext hx).cell rfl) kR),
     fun wx hx=>Ob.o (O.BL (kf:=str) (vf:=Value.bool) (z0:=false) iY runUnderlying142 runUnderlying9 zeroValue4 rfl rfl (hM7.ext hx) kR),
     fun wx hx=>Ob.o (O.not rfl kR),
     fun wx hx=>Ob.o (O.fieldAddr runUnderlying51 rfl sizeOf4 rfl kR),
     fun wx hx=>Ob.o (O.load isAgg4 rfl ((hBu.ext hx).cell rfl) kR),
     fun wx hx=>Ob.o (O.move rfl kR),
     fun wx hx=>Ob.pass rfl rfl,
     fun wx hx=>Ob.pass rfl rfl,
     fun wx hx=>Ob.o (O.aj rfl rfl kR),
     fun wx hx=>Ob.o (O.move rfl kR),
     fun wx hx=>Ob.o (O.Bq rfl rfl hi0 kR),
     fun wx hx=>Ob.o (O.move rfl kR),
     fun wx hx=>Ob.pass rfl rfl,
     fun wx hx=>Ob.pass rfl rfl,
     fun wx hx=>Ob.pass rfl rfl,
     fun wx hx=>Ob.o (O.aj rfl rfl kR),
     trivial⟩ (fun w8 he8=>?_)
   have hask:lT r i kvs = [bK r (r.us.getD i u0),!(gy kvs (r.us.getD i u0).nm).getD false,true,true]:=by simp only [lT,hwt];rw [decide_eq_true hi0];simp
   refine L.o (O.buildSlice (el:=4) (parts:=[(0,.tmp 47),(1,.tmp 52),(2,.tmp 58),(3,.tmp 65)]) (vs:=[(0,_),(1,_),(2,_),(3,_)]) (cs:=([bK r (r.us.getD i u0),!(gy kvs (r.us.getD i u0).nm).getD false,true,true].map Value.bool)) rfl (fun w=>by kernel_rfl) (fun b9 w9 hb9 hz9 he9 hB9=>?_))
   rw [← hask] at hB9
   refine L.o (O.call (xs:=[.tmp 66]) call79 rfl rfl (iF 0 _ (lT r i kvs) w9 (fV hB9 rfl (by decide) (Nat.zero_le _))) (fun v10 w10 hq=>?_))
   obtain ⟨rfl,rfl⟩:=hq
   have kK:=he8.trans he9
   cases hok:(lT r i kvs).all id
   ·refine L.o (O.not rfl (L.nil (T.ct (T.q (L.a rfl (L.nil (T.aN results32 rfl ⟨by rw [bT (fun h=>by have:=(mG hN5 hG5).2 (h.good i hlt');rw [hok] at this;cases this)],(he5.trans Ep).trans kK⟩)))))))
   refine L.o (O.not rfl (L.nil (T.cf (T.skip (T.q (L.m rfl (L.o (O.fieldAddr runUnderlying51 rfl sizeOf9 rfl (L.o (O.load isAgg9 rfl ((zX.ext kK).cell rfl) (L.o (O.jT (kf:=str) (vf:=Value.bool) (v:=_) iY runUnderlying142 runUnderlying9 rfl rfl rfl (hM7.ext kK) (fun w11 jg KU=>?_)))))))))))))
   refine L.nil (T.region (L.o (O.fieldAddr runUnderlying51 rfl sizeOf4 rfl (L.o (O.load isAgg4 rfl (((zX.ext kK).upd jg (by have:=hM5.lt;omega)).cell rfl) (?_))))))
   have Yy:=kK.size
   refine L.a rfl (L.nil (T.blk (T.region (L.o (O.aC rfl rfl (by omega) (L.m rfl (L.nil (T.again ((i+1,vX kvs (r.us.getD i u0).nm true)) (by omega) ⟨rfl,rfl,rfl,rfl,rfl,rfl,trivial⟩ ⟨hlt',((he5.trans Ep).trans kK).upd jg (.inr hs4),by have:=Ep.size;have:=jg.size;omega,(hC7.ext kK).upd jg (by omega),KU,hN5.step,wX hG5 ((mG hN5 hG5).1 hok)⟩))))))))
  have hBu:Blk w7 b6 [str (r.us.getD i u0).nm,.int .i64 (r.us.getD i u0).pp,(r.us.getD i u0).gv,(r.us.getD i u0).vv,(r.us.getD i u0).pv,.bool true] 51:=by rw [← hwt];exact zX
  refine T.seq (T.seq (?_))
  refine T.dL mixed 21 [1,7,4,5,6] rfl [.is _,.is _,.is (.bool (bK r (r.us.getD i u0))),.is _,.is _,.is _,.is _,.is _,.is _,.is _,.is _,.is undef,.is undef,.is _,.is _,.is _,.is _,.is _,.is _,.is _,.is _] [[],[],[0,1],[],[],[4],[3,5],[6],[],[8],[9],[10],[11,10],[10,12],[],[14],[15],[16],[17,16],[18,16],[16,19]] [[],[],[0,1],[],[],[4],[3,4,5],[3,4,5,6],[],[8],[0,1,2,8,9],[0,1,2,8,9,10],[0,1,2,8,9,10,11],[0,1,2,8,9,10,11,12],[],[14],[0,1,2,8,9,10,14,15],[0,1,2,8,9,10,14,15,16],[0,1,2,8,9,10,14,15,16,17],[0,1,2,8,9,10,14,15,16,17,18],[0,1,2,8,9,10,14,15,16,17,18,19],[0,1,2,3,4,5,6,7,8,9,10,11,12,13,14,15,16,17,18,19,20],[0,1,2,3,4,5,6,7,8,9,10,11,12,13,14,15,16,17,18,19,20,21],[0,1,2,3,4,5,6,7,8,9,10,11,12,13,14,15,16,17,18,19,20,21,22]] (by kernel_rfl) (by kernel_rfl) rfl (by kernel_rfl) trivial ⟨fun wx hx=>Ob.o (O.ak isAgg25 sizeOf25 rfl rfl ((hC7.ext hx).row) kR),
    fun wx hx=>Ob.o (O.ak isAgg51 sizeOf51 rfl rfl ((zX.ext hx).row) kR),
    fun wx hx=>Ob.o (O.call (xs:=[.tmp 45,.tmp 46]) call80 rfl rfl (kV lo r (r.us.getD i u0) wx (hk7.ext hx)) (fun v wy h=>⟨h.2,h.1⟩)),
    fun wx hx=>Ob.o (O.move rfl kR),
    fun wx hx=>Ob.o (O.fieldAddr runUnderlying51 rfl sizeOf9 rfl kR),
    fun wx hx=>Ob.o (O.load isAgg9 rfl ((zX.ext hx).cell rfl) kR),
    fun wx hx=>Ob.o (O.BL (kf:=str) (vf:=Value.bool) (z0:=false) iY runUnderlying142 runUnderlying9 zeroValue4 rfl rfl (hM7.ext hx) kR),
    fun wx hx=>Ob.o (O.not rfl kR),
    fun wx hx=>Ob.o (O.fieldAddr runUnderlying51 rfl sizeOf4 rfl kR),
    fun wx hx=>Ob.o (O.load isAgg4 rfl ((hBu.ext hx).cell rfl) kR),
    fun wx hx=>Ob.o (O.move rfl kR),
    fun wx hx=>Ob.pass rfl rfl,
    fun wx hx=>Ob.pass rfl rfl,
    fun wx hx=>Ob.o (O.aj rfl rfl kR),
    fun wx hx=>Ob.o (O.move rfl kR),
    fun wx hx=>Ob.o (O.y9 rfl rfl hi0 kR),
    fun wx hx=>Ob.o (O.move rfl kR),
    fun wx hx=>Ob.o (O.fieldAddr runUnderlying51 rfl sizeOf4 rfl kR),
    fun wx hx=>Ob.o (O.load isAgg4 rfl ((hBu.ext hx).cell rfl) kR),
    fun wx hx=>Ob.o (O.not rfl kR),
    fun wx hx=>Ob.o (O.ah rfl rfl kR),
    trivial⟩ (fun w8 he8=>?_)
  have hask:lT r i kvs = [bK r (r.us.getD i u0),!(gy kvs (r.us.getD i u0).nm).getD false,true,false]:=by simp only [lT,hwt];rw [decide_eq_false hi0];simp
  refine L.o (O.buildSlice (el:=4) (parts:=[(0,.tmp 47),(1,.tmp 52),(2,.tmp 58),(3,.tmp 65)]) (vs:=[(0,_),(1,_),(2,_),(3,_)]) (cs:=([bK r (r.us.getD i u0),!(gy kvs (r.us.getD i u0).nm).getD false,true,false].map Value.bool)) rfl (fun w=>by kernel_rfl) (fun b9 w9 hb9 hz9 he9 hB9=>?_))
  rw [← hask] at hB9
  refine L.o (O.call (xs:=[.tmp 66]) call79 rfl rfl (iF 0 _ (lT r i kvs) w9 (fV hB9 rfl (by decide) (Nat.zero_le _))) (fun v10 w10 hq=>?_))
  obtain ⟨rfl,rfl⟩:=hq
  have kK:=he8.trans he9
  cases hok:(lT r i kvs).all id
  ·refine L.o (O.not rfl (L.nil (T.ct (T.q (L.a rfl (L.nil (T.aN results32 rfl ⟨by rw [bT (fun h=>by have:=(mG hN5 hG5).2 (h.good i hlt');rw [hok] at this;cases this)],(he5.trans Ep).trans kK⟩)))))))
  refine L.o (O.not rfl (L.nil (T.cf (T.skip (T.q (L.m rfl (L.o (O.fieldAddr runUnderlying51 rfl sizeOf9 rfl (L.o (O.load isAgg9 rfl ((zX.ext kK).cell rfl) (L.o (O.jT (kf:=str) (vf:=Value.bool) (v:=_) iY runUnderlying142 runUnderlying9 rfl rfl rfl (hM7.ext kK) (fun w11 jg KU=>?_)))))))))))))
  refine L.nil (T.region (L.o (O.fieldAddr runUnderlying51 rfl sizeOf4 rfl (L.o (O.load isAgg4 rfl (((zX.ext kK).upd jg (by have:=hM5.lt;omega)).cell rfl) (?_))))))
  have Yy:=kK.size
  refine L.a rfl (L.nil (T.blk (T.region (L.o (O.aC rfl rfl (by omega) (L.m rfl (L.nil (T.again ((i+1,vX kvs (r.us.getD i u0).nm true)) (by omega) ⟨rfl,rfl,rfl,rfl,rfl,rfl,trivial⟩ ⟨hlt',((he5.trans Ep).trans kK).upd jg (.inr hs4),by have:=Ep.size;have:=jg.size;omega,(hC7.ext kK).upd jg (by omega),KU,hN5.step,wX hG5 ((mG hN5 hG5).1 hok)⟩))))))))
 refine L.nil (T.seq (T.cf (T.exit rfl (T.q (L.a rfl (L.nil (T.aN results32 rfl ⟨by rw [dS ⟨hb,fun j hj=>hG5 j (by simp only at hlt;omega)⟩],he5⟩)))))))
open Go Go.E
theorem Units.water {lo:Nat} {w:World} {v:Value} {us:List UnV} {b:Bool} (h:Units lo w v us) {i:Nat} (hi:i<us.length) (hw:(us.getD i u0).wt=b):w.cell? (((iV v).add ((i:Int).toNat*6)).add 5)=some (.bool b):=by
 have:=h.row hi 5 (.bool (us.getD i u0).wt) rfl
 rw [this,hw]
theorem Units.name {lo:Nat} {w:World} {v:Value} {us:List UnV} (h:Units lo w v us) {i:Nat} (hi:i<us.length):w.cell? (((iV v).add ((i:Int).toNat*6)).add 0)=some (str (us.getD i u0).nm):=h.row hi 0 _ rfl
theorem uF {r:RoV} (h:¬ (0≤r.G∧r.G≤6∧0≤r.P∧r.P≤12∧0≤r.L∧r.L≤3∧0<(r.us.length:Int)∧(r.us.length:Int)≤64)):dG r=161:=bT fun hk=>h (wW.1 hk.bnd)
theorem BX {r:RoV} {j:Nat} (hj:j<r.us.length) (h:¬ GoodAt r j):dG r=161:=bT fun hk=>h (hk.good j hj)
theorem iZ (lo:Nat) (r:RoV) (w:World) (hr:r.ok lo w) :
  Calls Tryz.prog 33 #[r.val] w (Ret fun v w'=>v = .int .i64 (dG r)∧Ext w w'):=by
 refine T.enter (vs:=[r.val]) func33 rfl ntmps33 rfl ?_
 refine T.q (L.o (O.box rfl (fun b1 w1 hb1 hz1 he1 hB1=>?_)))
 have hC1:Blk w1 b1 r.cells _:=hB1
 have hU1:Units lo w1 r.uv r.us:=hr.ext he1
 have hle:=Sl.le hU1.sl
 refine L.a rfl (L.nil (T.seq (T.q (L.o (O.fieldAddr runUnderlying25 rfl sizeOf3 rfl (L.o (O.load isAgg3 rfl (hC1.cell rfl) (L.o (O.aV rfl rfl (fun g0=>?_) (fun g0=>?_))))))))))
 ·refine L.m rfl (L.p (L.p (L.p (L.o (O.aj rfl rfl (L.m rfl (L.p (L.p (L.p (L.o (O.aj rfl rfl (L.m rfl (L.p (L.p (L.p (L.o (O.aj rfl rfl (L.m rfl (L.p (L.p (L.p (L.o (O.aj rfl rfl (L.m rfl (L.p (L.p (L.p (?_))))))))))))))))))))))))))))
  refine L.o (O.aj rfl rfl (L.nil (T.ct (T.q (L.a rfl (L.nil (T.aN results33 rfl ⟨by rw [uF (by omega)],he1⟩)))))))
 refine L.m rfl (L.o (O.fieldAddr runUnderlying25 rfl sizeOf3 rfl (L.o (O.load isAgg3 rfl (hC1.cell rfl) (L.o (O.fG rfl rfl (fun g1=>?_) (fun g1=>?_)))))))
 ·refine L.o (O.ah rfl rfl (L.m rfl (L.p (L.p (L.p (L.o (O.aj rfl rfl (L.m rfl (L.p (L.p (L.p (L.o (O.aj rfl rfl (L.m rfl (L.p (L.p (L.p (L.o (O.aj rfl rfl (L.m rfl (L.p (L.p (L.p (L.o (O.aj rfl rfl (L.nil (T.ct (T.seq (?_)))))))))))))))))))))))))))))
  refine T.region (L.a rfl (L.nil (T.aN results33 rfl ⟨by rw [uF (by omega)],he1⟩)))
 refine L.o (O.ah rfl rfl (L.m rfl (L.o (O.fieldAddr runUnderlying25 rfl sizeOf3 rfl (L.o (O.load isAgg3 rfl (hC1.cell rfl) (L.o (O.aV rfl rfl (fun g2=>?_) (fun g2=>?_)))))))))
 ·refine L.o (O.ah rfl rfl (L.m rfl (L.p (L.p (L.p (L.o (O.aj rfl rfl (L.m rfl (L.p (L.p (L.p (L.o (O.aj rfl rfl (L.m rfl (L.p (L.p (L.p (L.o (O.aj rfl rfl (L.nil (T.ct (T.q (L.a rfl (L.nil (T.aN results33 rfl ⟨by rw [uF (by omega)],he1⟩)))))))))))))))))))))))))
 refine L.o (O.ah rfl rfl (L.m rfl (L.o (O.fieldAddr runUnderlying25 rfl sizeOf3 rfl (L.o (O.load isAgg3 rfl (hC1.cell rfl) (L.o (O.fG rfl rfl (fun g3=>?_) (fun g3=>?_)))))))))
 ·refine L.o (O.ah rfl rfl (L.m rfl (L.p (L.p (L.p (L.o (O.aj rfl rfl (L.m rfl (L.p (L.p (L.p (L.o (O.aj rfl rfl (L.nil (T.ct (T.q (L.a rfl (L.nil (T.aN results33 rfl ⟨by rw [uF (by omega)],he1⟩)))))))))))))))))))
 refine L.o (O.ah rfl rfl (L.m rfl (L.o (O.fieldAddr runUnderlying25 rfl sizeOf3 rfl (L.o (O.load isAgg3 rfl (hC1.cell rfl) (L.o (O.aV rfl rfl (fun g4=>?_) (fun g4=>?_)))))))))
 ·refine L.o (O.ah rfl rfl (L.m rfl (L.p (L.p (L.p (L.o (O.aj rfl rfl (L.nil (T.ct (T.q (L.a rfl (L.nil (T.aN results33 rfl ⟨by rw [uF (by omega)],he1⟩)))))))))))))
 refine L.o (O.ah rfl rfl (L.m rfl (L.o (O.fieldAddr runUnderlying25 rfl sizeOf3 rfl (L.o (O.load isAgg3 rfl (hC1.cell rfl) (L.o (O.fG rfl rfl (fun g5=>?_) (fun g5=>?_)))))))))
 ·refine L.o (O.ah rfl rfl (L.nil (T.ct (T.q (L.a rfl (L.nil (T.aN results33 rfl ⟨by rw [uF (by omega)],he1⟩)))))))
 refine L.o (O.ah rfl rfl (L.nil (T.cf (T.skip (T.seq (T.q (L.o (O.fieldAddr runUnderlying25 rfl sizeOf23 rfl (L.o (O.load isAgg23 rfl (hC1.cell rfl) (L.o (O.len runUnderlying23 rfl (Sl.val hU1.sl) (L.o (O.aV rfl rfl (fun g6=>?_) (fun g6=>?_)))))))))))))))
 ·refine L.m rfl (L.p (L.p (L.p (L.p (L.o (O.aj rfl rfl (L.m rfl (L.p (L.p (L.p (L.p (L.p (L.o (O.aj rfl rfl (L.nil (T.ct (T.q (L.a rfl (L.nil (T.aN results33 rfl ⟨by rw [uF (by omega)],he1⟩))))))))))))))))))))
 refine L.m rfl (L.o (O.fieldAddr runUnderlying25 rfl sizeOf23 rfl (L.o (O.load isAgg23 rfl (hC1.cell rfl) (L.o (O.len runUnderlying23 rfl (Sl.val hU1.sl) (L.o (O.fG rfl rfl (fun g7=>?_) (fun g7=>?_)))))))))
 ·refine L.o (O.ah rfl rfl (L.m rfl (L.p (L.p (L.p (L.p (L.p (L.o (O.aj rfl rfl (L.nil (T.ct (T.q (L.a rfl (L.nil (T.aN results33 rfl ⟨by rw [uF (by omega)],he1⟩)))))))))))))))
 have h0l:0<r.us.length:=by omega
 refine L.o (O.ah rfl rfl (L.m rfl (L.o (O.fieldAddr runUnderlying25 rfl sizeOf23 rfl (L.o (O.load isAgg23 rfl (hC1.cell rfl) (L.o (O.indexAddr runUnderlying23 sizeOf51 rfl rfl hU1.sl (by decide) (by omega) (?_)))))))))
 rcases hw0:(r.us.getD 0 u0).wt with _|_
 ·refine L.o (O.fieldAddr runUnderlying51 rfl sizeOf4 rfl (L.o (O.load isAgg4 rfl (hU1.water h0l hw0) (?_))))
  have af9:=(wW (r:=r)).2 ⟨by omega,by omega,by omega,by omega,by omega,by omega,by omega,by omega⟩
  refine L.o (O.ah rfl rfl (L.nil (T.cf (T.skip (T.seq (T.q (L.a rfl (L.nil (T.block (?_))))))))))
  refine T.loop (σ:=Nat) (fun i=>[(1,.pointer (some ⟨b1,0,none⟩)),(3,.int .i64 i)]) (fun i w'=>i≤r.us.length∧Ext w1 w'∧∀ j,j<i→GoodAt r j) (fun i=>r.us.length-i) (0) ⟨rfl,rfl,trivial⟩ ⟨Nat.zero_le _,Keep.refl _ _,fun j hj=>absurd hj (Nat.not_lt_zero _)⟩ ?_
  rintro i w2 ⟨hi,he2,hG2⟩
  have hC2:=hC1.ext he2
  have hU2:=hU1.ext he2
  refine T.seq (T.q (L.m rfl (L.o (O.fieldAddr runUnderlying25 rfl sizeOf23 rfl (L.o (O.load isAgg23 rfl (hC2.cell rfl) (L.o (O.len runUnderlying23 rfl (Sl.val hU2.sl) (L.o (O.aV rfl rfl (fun hlt=>?_) (fun hlt=>?_)))))))))))
  ·refine L.nil (?_)
   have hlt':i<r.us.length:=by omega
   refine T.ct (T.skip (T.seq (T.block (T.seq (T.seq (?_))))))
   refine T.dL mixed 6 [1,3] rfl [.is _,.is _,.is _,.is _,.is _,.is _] [[],[],[1],[],[2,3],[4]] [[],[],[1],[],[1,2,3],[1,2,3,4],[0,1,2,3,4,5],[0,1,2,3,4,5,6]] (by kernel_rfl) (by kernel_rfl) rfl (by kernel_rfl) trivial ⟨fun wx hx=>Ob.o (O.ak isAgg25 sizeOf25 rfl rfl ((hC2.ext hx).row) kR),
     fun wx hx=>Ob.o (O.fieldAddr runUnderlying25 rfl sizeOf23 rfl kR),
     fun wx hx=>Ob.o (O.load isAgg23 rfl ((hC2.ext hx).cell rfl) kR),
     fun wx hx=>Ob.o (O.move rfl kR),
     fun wx hx=>Ob.o (O.indexAddr runUnderlying23 sizeOf51 rfl rfl ((hU2.ext hx).sl) (by omega) (by omega) kR),
     fun wx hx=>Ob.o (O.ak isAgg51 sizeOf51 rfl rfl ((hU2.ext hx).row hlt') kR),
     trivial⟩ (fun w3 he3=>?_)
   refine L.o (O.call (xs:=[.tmp 57,.tmp 62]) call81 rfl rfl (Eo lo r (r.us.getD i u0) w3 ((hU2.at hlt').ext he3)) (fun v4 w4 hq=>?_))
   obtain ⟨rfl,he4⟩:=hq
   cases hrt:bK r (r.us.getD i u0)
   ·refine L.o (O.not rfl (L.nil (T.ct (T.q (L.a rfl (L.nil (T.aN results33 rfl ⟨by rw [BX hlt' (fun h=>by have:=h.right;rw [hrt] at this;cases this)],he1.trans ((he2.trans he3).trans he4)⟩)))))))
   have dU:=(he2.trans he3).trans he4
   refine L.o (O.not rfl (L.nil (T.cf (T.skip (T.q (L.a rfl (L.nil (T.block (?_)))))))))
   refine T.loop (σ:=Nat) (fun k=>[(1,.pointer (some ⟨b1,0,none⟩)),(3,.int .i64 i),(4,.int .i64 k)]) (fun k w'=>k≤i∧Ext w1 w'∧(∀ j,j<k→(r.us.getD j u0).nm≠(r.us.getD i u0).nm)∧∀ j,j<k→(r.us.getD j u0).wt=true→(r.us.getD i u0).wt=true) (fun k=>i-k) (0) ⟨rfl,rfl,rfl,trivial⟩ ⟨Nat.zero_le _,dU,fun j hj=>absurd hj (Nat.not_lt_zero _),fun j hj=>absurd hj (Nat.not_lt_zero _)⟩ ?_
   rintro k w5 ⟨hk,he5,hn5,hw5⟩
   have hC5:=hC1.ext he5
   have hU5:=hU1.ext he5
   refine T.seq (T.q (L.m rfl (L.m rfl (L.o (O.aV rfl rfl (fun hlk=>?_) (fun hlk=>?_))))))
   ·refine L.nil (?_)
    have UH:k<r.us.length:=by omega
    by_cases hnm:(r.us.getD k u0).nm=(r.us.getD i u0).nm
    ·refine T.ct (T.skip (T.seq (T.block (T.seq (?_)))))
     refine T.dL mixed 24 [1,4,3] rfl [.is _,.is _,.is _,.is _,.is _,.is _,.is _,.is _,.is _,.is _,.is _,.is _,.is _,.is _,.is undef,.is undef,.is undef,.is undef,.is undef,.is undef,.is undef,.is undef,.is undef,.is undef] [[],[0],[],[1,2],[3],[4],[],[6],[],[7,8],[9],[10],[5,11],[12],[13],[14,13],[13],[15,16,13],[17,13],[18,13],[19,13],[20],[21,20],[20]] [[],[0],[],[0,1,2],[0,1,2,3],[0,1,2,3,4],[],[6],[],[6,7,8],[6,7,8,9],[6,7,8,9,10],[0,1,2,3,4,5,6,7,8,9,10,11],[0,1,2,3,4,5,6,7,8,9,10,11,12],[0,1,2,3,4,5,6,7,8,9,10,11,12,13],[0,1,2,3,4,5,6,7,8,9,10,11,12,13,14],[0,1,2,3,4,5,6,7,8,9,10,11,12,13],[0,1,2,3,4,5,6,7,8,9,10,11,12,13,14,15,16],[0,1,2,3,4,5,6,7,8,9,10,11,12,13,14,15,16,17],[0,1,2,3,4,5,6,7,8,9,10,11,12,13,14,15,16,17,18],[0,1,2,3,4,5,6,7,8,9,10,11,12,13,14,15,16,17,18,19],[0,1,2,3,4,5,6,7,8,9,10,11,12,13,14,15,16,17,18,19,20],[0,1,2,3,4,5,6,7,8,9,10,11,12,13,14,15,16,17,18,19,20,21],[0,1,2,3,4,5,6,7,8,9,10,11,12,13,14,15,16,17,18,19,20],[0,1,2,3,4,5,6,7,8,9,10,11,12,13,14,15,16,17,18,19,20,21,22,23],[0,1,2,3,4,5,6,7,8,9,10,11,12,13,14,15,16,17,18,19,20,21,22,23,24],[0,1,2,3,4,5,6,7,8,9,10,11,12,13,14,15,16,17,18,19,20,21,22,23,24,25],[0,1,2,3,4,5,6,7,8,9,10,11,12,13,14,15,16,17,18,19,20,21,22,23,24,25,26],[0,1,2,3,4,5,6,7,8,9,10,11,12,13,14,15,16,17,18,19,20,21,22,23,24,25,26,27],[0,1,2,3,4,5,6,7,8,9,10,11,12,13,14,15,16,17,18,19,20,21,22,23,24,25,26,27,28]] (by kernel_rfl) (by kernel_rfl) rfl (by kernel_rfl) trivial ⟨fun wx hx=>Ob.o (O.fieldAddr runUnderlying25 rfl sizeOf23 rfl kR),
       fun wx hx=>Ob.o (O.load isAgg23 rfl ((hC5.ext hx).cell rfl) kR),
       fun wx hx=>Ob.o (O.move rfl kR),
       fun wx hx=>Ob.o (O.indexAddr runUnderlying23 sizeOf51 rfl rfl ((hU5.ext hx).sl) (by omega) (by omega) kR),
       fun wx hx=>Ob.o (O.fieldAddr runUnderlying51 rfl sizeOf9 rfl kR),
       fun wx hx=>Ob.o (O.load isAgg9 rfl ((hU5.ext hx).name UH) kR),
       fun wx hx=>Ob.o (O.fieldAddr runUnderlying25 rfl sizeOf23 rfl kR),
       fun wx hx=>Ob.o (O.load isAgg23 rfl ((hC5.ext hx).cell rfl) kR),
       fun wx hx=>Ob.o (O.move rfl kR),
       fun wx hx=>Ob.o (O.indexAddr runUnderlying23 sizeOf51 rfl rfl ((hU5.ext hx).sl) (by omega) (by omega) kR),
       fun wx hx=>Ob.o (O.fieldAddr runUnderlying51 rfl sizeOf9 rfl kR),
       fun wx hx=>Ob.o (O.load isAgg9 rfl ((hU5.ext hx).name hlt') kR),
       fun wx hx=>Ob.o (O.aY runUnderlying9 rfl rfl hnm kR),
       fun wx hx=>Ob.o (O.move rfl kR),
       fun wx hx=>Ob.pass rfl rfl,
       fun wx hx=>Ob.pass rfl rfl,
       fun wx hx=>Ob.pass rfl rfl,
       fun wx hx=>Ob.pass rfl rfl,
       fun wx hx=>Ob.pass rfl rfl,
       fun wx hx=>Ob.pass rfl rfl,
       fun wx hx=>Ob.pass rfl rfl,
       fun wx hx=>Ob.pass rfl rfl,
       fun wx hx=>Ob.pass rfl rfl,
       fun wx hx=>Ob.pass rfl rfl,
       trivial⟩ (fun w6 he6=>?_)
     refine L.p (L.p (L.p (L.p (L.p (L.o (O.aj rfl rfl (L.nil (T.ct (T.q (L.a rfl (L.nil (T.aN results33 rfl ⟨by rw [BX hlt' (fun h=>h.name k (by omega) hnm)],he1.trans (he5.trans he6)⟩))))))))))))
    rcases hwk:(r.us.getD k u0).wt with _|_
    ·refine T.ct (T.skip (T.seq (T.block (T.seq (?_)))))
     refine T.dL mixed 24 [1,4,3] rfl [.is _,.is _,.is _,.is _,.is _,.is _,.is _,.is _,.is _,.is _,.is _,.is _,.is _,.is _,.is _,.is _,.is _,.is _,.is _,.is _,.is _,.is undef,.is undef,.is undef] [[],[0],[],[1,2],[3],[4],[],[6],[],[7,8],[9],[10],[5,11],[12],[13],[14,13],[13],[15,16,13],[17,13],[18,13],[19,13],[20],[21,20],[20]] [[],[0],[],[0,1,2],[0,1,2,3],[0,1,2,3,4],[],[6],[],[6,7,8],[6,7,8,9],[6,7,8,9,10],[0,1,2,3,4,5,6,7,8,9,10,11],[0,1,2,3,4,5,6,7,8,9,10,11,12],[0,1,2,3,4,5,6,7,8,9,10,11,12,13],[0,1,2,3,4,5,6,7,8,9,10,11,12,13,14],[0,1,2,3,4,5,6,7,8,9,10,11,12,13],[0,1,2,3,4,5,6,7,8,9,10,11,12,13,14,15,16],[0,1,2,3,4,5,6,7,8,9,10,11,12,13,14,15,16,17],[0,1,2,3,4,5,6,7,8,9,10,11,12,13,14,15,16,17,18],[0,1,2,3,4,5,6,7,8,9,10,11,12,13,14,15,16,17,18,19],[0,1,2,3,4,5,6,7,8,9,10,11,12,13,14,15,16,17,18,19,20],[0,1,2,3,4,5,6,7,8,9,10,11,12,13,14,15,16,17,18,19,20,21],[0,1,2,3,4,5,6,7,8,9,10,11,12,13,14,15,16,17,18,19,20],[0,1,2,3,4,5,6,7,8,9,10,11,12,13,14,15,16,17,18,19,20,21,22,23],[0,1,2,3,4,5,6,7,8,9,10,11,12,13,14,15,16,17,18,19,20,21,22,23,24],[0,1,2,3,4,5,6,7,8,9,10,11,12,13,14,15,16,17,18,19,20,21,22,23,24,25],[0,1,2,3,4,5,6,7,8,9,10,11,12,13,14,15,16,17,18,19,20,21,22,23,24,25,26],[0,1,2,3,4,5,6,7,8,9,10,11,12,13,14,15,16,17,18,19,20,21,22,23,24,25,26,27],[0,1,2,3,4,5,6,7,8,9,10,11,12,13,14,15,16,17,18,19,20,21,22,23,24,25,26,27,28]] (by kernel_rfl) (by kernel_rfl) rfl (by kernel_rfl) trivial ⟨fun wx hx=>Ob.o (O.fieldAddr runUnderlying25 rfl sizeOf23 rfl kR),
       fun wx hx=>Ob.o (O.load isAgg23 rfl ((hC5.ext hx).cell rfl) kR),
       fun wx hx=>Ob.o (O.move rfl kR),
       fun wx hx=>Ob.o (O.indexAddr runUnderlying23 sizeOf51 rfl rfl ((hU5.ext hx).sl) (by omega) (by omega) kR),
       fun wx hx=>Ob.o (O.fieldAddr runUnderlying51 rfl sizeOf9 rfl kR),
       fun wx hx=>Ob.o (O.load isAgg9 rfl ((hU5.ext hx).name UH) kR),
       fun wx hx=>Ob.o (O.fieldAddr runUnderlying25 rfl sizeOf23 rfl kR),
       fun wx hx=>Ob.o (O.load isAgg23 rfl ((hC5.ext hx).cell rfl) kR),
       fun wx hx=>Ob.o (O.move rfl kR),
       fun wx hx=>Ob.o (O.indexAddr runUnderlying23 sizeOf51 rfl rfl ((hU5.ext hx).sl) (by omega) (by omega) kR),
       fun wx hx=>Ob.o (O.fieldAddr runUnderlying51 rfl sizeOf9 rfl kR),
       fun wx hx=>Ob.o (O.load isAgg9 rfl ((hU5.ext hx).name hlt') kR),
       fun wx hx=>Ob.o (O.aA runUnderlying9 rfl rfl hnm kR),
       fun wx hx=>Ob.o (O.move rfl kR),
       fun wx hx=>Ob.o (O.fieldAddr runUnderlying25 rfl sizeOf23 rfl kR),
       fun wx hx=>Ob.o (O.load isAgg23 rfl ((hC5.ext hx).cell rfl) kR),
       fun wx hx=>Ob.o (O.move rfl kR),
       fun wx hx=>Ob.o (O.indexAddr runUnderlying23 sizeOf51 rfl rfl ((hU5.ext hx).sl) (by omega) (by omega) kR),
       fun wx hx=>Ob.o (O.fieldAddr runUnderlying51 rfl sizeOf4 rfl kR),
       fun wx hx=>Ob.o (O.load isAgg4 rfl ((hU5.ext hx).water UH hwk) kR),
       fun wx hx=>Ob.o (O.move rfl kR),
       fun wx hx=>Ob.pass rfl rfl,
       fun wx hx=>Ob.pass rfl rfl,
       fun wx hx=>Ob.pass rfl rfl,
       trivial⟩ (fun w6 he6=>?_)
     refine L.p (L.p (L.p (L.p (L.o (O.ah rfl rfl (L.o (O.ah rfl rfl (L.nil (T.cf (T.skip (T.blk (T.region (L.m rfl (L.o (O.aC rfl rfl (by omega) (L.a rfl (L.nil (T.again (k+1) (by omega) ⟨rfl,rfl,rfl,trivial⟩ ⟨by omega,he5.trans he6,fun j hj=>?_,fun j hj hw=>?_⟩))))))))))))))))))
     ·by_cases e:j=k
      ·subst e;exact hnm
      exact hn5 j (by omega)
     by_cases e:j=k
     ·subst e;rw [hwk] at hw;cases hw
     exact hw5 j (by omega) hw
    rcases hwi:(r.us.getD i u0).wt with _|_
    ·refine T.ct (T.skip (T.seq (T.block (T.seq (?_)))))
     refine T.dL mixed 24 [1,4,3] rfl [.is _,.is _,.is _,.is _,.is _,.is _,.is _,.is _,.is _,.is _,.is _,.is _,.is _,.is _,.is _,.is _,.is _,.is _,.is _,.is _,.is _,.is _,.is _,.is _] [[],[0],[],[1,2],[3],[4],[],[6],[],[7,8],[9],[10],[5,11],[12],[13],[14,13],[13],[15,16,13],[17,13],[18,13],[19,13],[20],[21,20],[20]] [[],[0],[],[0,1,2],[0,1,2,3],[0,1,2,3,4],[],[6],[],[6,7,8],[6,7,8,9],[6,7,8,9,10],[0,1,2,3,4,5,6,7,8,9,10,11],[0,1,2,3,4,5,6,7,8,9,10,11,12],[0,1,2,3,4,5,6,7,8,9,10,11,12,13],[0,1,2,3,4,5,6,7,8,9,10,11,12,13,14],[0,1,2,3,4,5,6,7,8,9,10,11,12,13],[0,1,2,3,4,5,6,7,8,9,10,11,12,13,14,15,16],[0,1,2,3,4,5,6,7,8,9,10,11,12,13,14,15,16,17],[0,1,2,3,4,5,6,7,8,9,10,11,12,13,14,15,16,17,18],[0,1,2,3,4,5,6,7,8,9,10,11,12,13,14,15,16,17,18,19],[0,1,2,3,4,5,6,7,8,9,10,11,12,13,14,15,16,17,18,19,20],[0,1,2,3,4,5,6,7,8,9,10,11,12,13,14,15,16,17,18,19,20,21],[0,1,2,3,4,5,6,7,8,9,10,11,12,13,14,15,16,17,18,19,20],[0,1,2,3,4,5,6,7,8,9,10,11,12,13,14,15,16,17,18,19,20,21,22,23],[0,1,2,3,4,5,6,7,8,9,10,11,12,13,14,15,16,17,18,19,20,21,22,23,24],[0,1,2,3,4,5,6,7,8,9,10,11,12,13,14,15,16,17,18,19,20,21,22,23,24,25],[0,1,2,3,4,5,6,7,8,9,10,11,12,13,14,15,16,17,18,19,20,21,22,23,24,25,26],[0,1,2,3,4,5,6,7,8,9,10,11,12,13,14,15,16,17,18,19,20,21,22,23,24,25,26,27],[0,1,2,3,4,5,6,7,8,9,10,11,12,13,14,15,16,17,18,19,20,21,22,23,24,25,26,27,28]] (by kernel_rfl) (by kernel_rfl) rfl (by kernel_rfl) trivial ⟨fun wx hx=>Ob.o (O.fieldAddr runUnderlying25 rfl sizeOf23 rfl kR),
       fun wx hx=>Ob.o (O.load isAgg23 rfl ((hC5.ext hx).cell rfl) kR),
       fun wx hx=>Ob.o (O.move rfl kR),
       fun wx hx=>Ob.o (O.indexAddr runUnderlying23 sizeOf51 rfl rfl ((hU5.ext hx).sl) (by omega) (by omega) kR),
       fun wx hx=>Ob.o (O.fieldAddr runUnderlying51 rfl sizeOf9 rfl kR),
       fun wx hx=>Ob.o (O.load isAgg9 rfl ((hU5.ext hx).name UH) kR),
       fun wx hx=>Ob.o (O.fieldAddr runUnderlying25 rfl sizeOf23 rfl kR),
       fun wx hx=>Ob.o (O.load isAgg23 rfl ((hC5.ext hx).cell rfl) kR),
       fun wx hx=>Ob.o (O.move rfl kR),
       fun wx hx=>Ob.o (O.indexAddr runUnderlying23 sizeOf51 rfl rfl ((hU5.ext hx).sl) (by omega) (by omega) kR),
       fun wx hx=>Ob.o (O.fieldAddr runUnderlying51 rfl sizeOf9 rfl kR),
       fun wx hx=>Ob.o (O.load isAgg9 rfl ((hU5.ext hx).name hlt') kR),
       fun wx hx=>Ob.o (O.aA runUnderlying9 rfl rfl hnm kR),
       fun wx hx=>Ob.o (O.move rfl kR),
       fun wx hx=>Ob.o (O.fieldAddr runUnderlying25 rfl sizeOf23 rfl kR),
       fun wx hx=>Ob.o (O.load isAgg23 rfl ((hC5.ext hx).cell rfl) kR),
       fun wx hx=>Ob.o (O.move rfl kR),
       fun wx hx=>Ob.o (O.indexAddr runUnderlying23 sizeOf51 rfl rfl ((hU5.ext hx).sl) (by omega) (by omega) kR),
       fun wx hx=>Ob.o (O.fieldAddr runUnderlying51 rfl sizeOf4 rfl kR),
       fun wx hx=>Ob.o (O.load isAgg4 rfl ((hU5.ext hx).water UH hwk) kR),
       fun wx hx=>Ob.o (O.move rfl kR),
       fun wx hx=>Ob.o (O.fieldAddr runUnderlying25 rfl sizeOf23 rfl kR),
       fun wx hx=>Ob.o (O.load isAgg23 rfl ((hC5.ext hx).cell rfl) kR),
       fun wx hx=>Ob.o (O.move rfl kR),
       trivial⟩ (fun w6 he6=>?_)
     refine L.o (O.indexAddr runUnderlying23 sizeOf51 rfl rfl ((hU5.ext he6).sl) (by omega) (by omega) (L.o (O.fieldAddr runUnderlying51 rfl sizeOf4 rfl (L.o (O.load isAgg4 rfl ((hU5.ext he6).water hlt' hwi) (L.o (O.not rfl (L.o (O.aj rfl rfl (L.o (O.ah rfl rfl (L.nil (T.ct (T.q (L.a rfl (L.nil (T.aN results33 rfl ⟨by rw [BX hlt' (fun h=>by have:=h.water k (by omega) hwk;rw [hwi] at this;cases this)],he1.trans (he5.trans he6)⟩)))))))))))))))))
    refine T.ct (T.skip (T.seq (T.block (T.seq (?_)))))
    refine T.dL mixed 24 [1,4,3] rfl [.is _,.is _,.is _,.is _,.is _,.is _,.is _,.is _,.is _,.is _,.is _,.is _,.is _,.is _,.is _,.is _,.is _,.is _,.is _,.is _,.is _,.is _,.is _,.is _] [[],[0],[],[1,2],[3],[4],[],[6],[],[7,8],[9],[10],[5,11],[12],[13],[14,13],[13],[15,16,13],[17,13],[18,13],[19,13],[20],[21,20],[20]] [[],[0],[],[0,1,2],[0,1,2,3],[0,1,2,3,4],[],[6],[],[6,7,8],[6,7,8,9],[6,7,8,9,10],[0,1,2,3,4,5,6,7,8,9,10,11],[0,1,2,3,4,5,6,7,8,9,10,11,12],[0,1,2,3,4,5,6,7,8,9,10,11,12,13],[0,1,2,3,4,5,6,7,8,9,10,11,12,13,14],[0,1,2,3,4,5,6,7,8,9,10,11,12,13],[0,1,2,3,4,5,6,7,8,9,10,11,12,13,14,15,16],[0,1,2,3,4,5,6,7,8,9,10,11,12,13,14,15,16,17],[0,1,2,3,4,5,6,7,8,9,10,11,12,13,14,15,16,17,18],[0,1,2,3,4,5,6,7,8,9,10,11,12,13,14,15,16,17,18,19],[0,1,2,3,4,5,6,7,8,9,10,11,12,13,14,15,16,17,18,19,20],[0,1,2,3,4,5,6,7,8,9,10,11,12,13,14,15,16,17,18,19,20,21],[0,1,2,3,4,5,6,7,8,9,10,11,12,13,14,15,16,17,18,19,20],[0,1,2,3,4,5,6,7,8,9,10,11,12,13,14,15,16,17,18,19,20,21,22,23],[0,1,2,3,4,5,6,7,8,9,10,11,12,13,14,15,16,17,18,19,20,21,22,23,24],[0,1,2,3,4,5,6,7,8,9,10,11,12,13,14,15,16,17,18,19,20,21,22,23,24,25],[0,1,2,3,4,5,6,7,8,9,10,11,12,13,14,15,16,17,18,19,20,21,22,23,24,25,26],[0,1,2,3,4,5,6,7,8,9,10,11,12,13,14,15,16,17,18,19,20,21,22,23,24,25,26,27],[0,1,2,3,4,5,6,7,8,9,10,11,12,13,14,15,16,17,18,19,20,21,22,23,24,25,26,27,28]] (by kernel_rfl) (by kernel_rfl) rfl (by kernel_rfl) trivial ⟨fun wx hx=>Ob.o (O.fieldAddr runUnderlying25 rfl sizeOf23 rfl kR),
      fun wx hx=>Ob.o (O.load isAgg23 rfl ((hC5.ext hx).cell rfl) kR),
      fun wx hx=>Ob.o (O.move rfl kR),
      fun wx hx=>Ob.o (O.indexAddr runUnderlying23 sizeOf51 rfl rfl ((hU5.ext hx).sl) (by omega) (by omega) kR),
      fun wx hx=>Ob.o (O.fieldAddr runUnderlying51 rfl sizeOf9 rfl kR),
      fun wx hx=>Ob.o (O.load isAgg9 rfl ((hU5.ext hx).name UH) kR),
      fun wx hx=>Ob.o (O.fieldAddr runUnderlying25 rfl sizeOf23 rfl kR),
      fun wx hx=>Ob.o (O.load isAgg23 rfl ((hC5.ext hx).cell rfl) kR),
      fun wx hx=>Ob.o (O.move rfl kR),
      fun wx hx=>Ob.o (O.indexAddr runUnderlying23 sizeOf51 rfl rfl ((hU5.ext hx).sl) (by omega) (by omega) kR),
      fun wx hx=>Ob.o (O.fieldAddr runUnderlying51 rfl sizeOf9 rfl kR),
      fun wx hx=>Ob.o (O.load isAgg9 rfl ((hU5.ext hx).name hlt') kR),
      fun wx hx=>Ob.o (O.aA runUnderlying9 rfl rfl hnm kR),
      fun wx hx=>Ob.o (O.move rfl kR),
      fun wx hx=>Ob.o (O.fieldAddr runUnderlying25 rfl sizeOf23 rfl kR),
      fun wx hx=>Ob.o (O.load isAgg23 rfl ((hC5.ext hx).cell rfl) kR),
      fun wx hx=>Ob.o (O.move rfl kR),
      fun wx hx=>Ob.o (O.indexAddr runUnderlying23 sizeOf51 rfl rfl ((hU5.ext hx).sl) (by omega) (by omega) kR),
      fun wx hx=>Ob.o (O.fieldAddr runUnderlying51 rfl sizeOf4 rfl kR),
      fun wx hx=>Ob.o (O.load isAgg4 rfl ((hU5.ext hx).water UH hwk) kR),
      fun wx hx=>Ob.o (O.move rfl kR),
      fun wx hx=>Ob.o (O.fieldAddr runUnderlying25 rfl sizeOf23 rfl kR),
      fun wx hx=>Ob.o (O.load isAgg23 rfl ((hC5.ext hx).cell rfl) kR),
      fun wx hx=>Ob.o (O.move rfl kR),
      trivial⟩ (fun w6 he6=>?_)
    refine L.o (O.indexAddr runUnderlying23 sizeOf51 rfl rfl ((hU5.ext he6).sl) (by omega) (by omega) (L.o (O.fieldAddr runUnderlying51 rfl sizeOf4 rfl (L.o (O.load isAgg4 rfl ((hU5.ext he6).water hlt' hwi) (L.o (O.not rfl (L.o (O.aj rfl rfl (L.o (O.ah rfl rfl (L.nil (T.cf (T.skip (T.blk (T.region (L.m rfl (L.o (O.aC rfl rfl (by omega) (L.a rfl (L.nil (T.again (k+1) (by omega) ⟨rfl,rfl,rfl,trivial⟩ ⟨by omega,he5.trans he6,fun j hj=>?_,fun j hj hw=>?_⟩))))))))))))))))))))))
    ·by_cases e:j=k
     ·subst e;exact hnm
     exact hn5 j (by omega)
    first|rfl|exact hwi
   refine L.nil (T.cf (T.exit rfl (T.blk (T.region (L.m rfl (L.o (O.aC rfl rfl (by omega) (L.a rfl (L.nil (T.again (i+1) (by omega) ⟨rfl,rfl,trivial⟩ ⟨hlt',he5,wX hG2 ⟨hrt,fun j hj=>hn5 j (by omega),fun j hj=>hw5 j (by omega),fun e=>by subst e;exact hw0⟩⟩))))))))))
  refine L.nil (T.cf (T.exit rfl (T.q (L.a rfl (L.nil (T.aN results33 rfl ⟨by rw [dS ⟨af9,fun j hj=>hG2 j (by omega)⟩],he1.trans he2⟩))))))
 refine L.o (O.fieldAddr runUnderlying51 rfl sizeOf4 rfl (L.o (O.load isAgg4 rfl (hU1.water h0l hw0) (L.o (O.ah rfl rfl (L.nil (T.ct (T.q (L.a rfl (L.nil (T.aN results33 rfl ⟨by rw [BX h0l (fun h=>by have:=h.first rfl;rw [hw0] at this;cases this)],he1⟩)))))))))))
open Go Go.E
def aB:List UnV→Nat
 | []=>0
 | u::r=>if u.wt then 0 else aB r+1
theorem jv:∀ us:List UnV,aB us≤us.length
 | []=>Nat.le_refl _
 | u::r=>by
  have:=jv r
  simp only [aB,List.length_cons]
  split <;> omega
theorem mM:∀ (us:List UnV) (i:Nat),i≤us.length→(∀ j,j<i→(us.getD j u0).wt=false)→(i<us.length→(us.getD i u0).wt=true)→aB us=i
 | [],i,h,_,_=>by simp at h;subst h;rfl
 | u::r,0,_,_,h=>by
  have:u.wt=true:=h (by simp)
  simp [aB,this]
 | u::r,i+1,hi,hj,h=>by
  have h0:u.wt=false:=hj 0 (by omega)
  have:=mM r i (by simpa using hi) (fun j hlt=>hj (j+1) (by omega)) (fun hlt=>h (by simpa using hlt))
  simp [aB,h0,this]
def Es:Value→Nat→Value
 | .slice oa _ cap,m=>.slice oa m cap
 | v,_=>v
theorem rX {lo:Nat} {w:World} {v:Value} {n m sz:Nat} {cs:List Value} (hv:Sl lo w v n sz cs) (h1:m≤n):Sl lo w (Es v m) m sz (cs.take (m*sz)):=by
 obtain ⟨hl,oa,cap,rfl,hc,hm,hr⟩:=hv
 refine ⟨?_,oa,cap,rfl,by omega,hm,?_⟩
 ·rw [List.length_take,hl];exact Nat.min_eq_left (Nat.mul_le_mul_right _ h1)
 rcases hr with hr|⟨ad,e1,e2,e3⟩
 ·left;omega
 exact .inr ⟨ad,e1,e2,e3.take _⟩
theorem Units.Es {lo:Nat} {w:World} {v:Value} {us:List UnV} (h:Units lo w v us) {m:Nat} (h1:m≤us.length):Units lo w (Es v m) (us.take m):=by
 refine ⟨?_,fun u hu=>h.ok u (List.mem_of_mem_take hu)⟩
 have:=rX h.sl h1
 rw [o8] at this
 rw [List.length_take,Nat.min_eq_left h1];exact this
theorem O.Es {C:Cx} {e:Env} {w:World} {K:Value→World→Prop} {d:Option Tmp} {ty:TypeId} {pos:String} {aft:Array Edge} {g:Option (Nat × Bool)} {x y:Operand} {t:TypeId} {v:Value} {n sz lo m:Nat} {cs:List Value} {el:TypeId} {kd:IntKind} (hu:∀ w,(underlying t).run C.P w = .ok (.slice el) w) (hs:∀ w,(sizeOf el).run C.P w = .ok sz w) (hx:ev e x=some v) (hy:ev e y=some (.int kd m))
  (hv:Sl lo w v n sz cs) (h1:m≤n) (h:K (Es v m) w):O C e ⟨d,.slice t x none (some y) none,ty,pos,aft,g⟩ w K:=by
 obtain ⟨hl,oa,cap,rfl,hc,hm,hr⟩:=hv
 exact O.kN hu hs hx hy (Int.natCast_nonneg _) (by omega) (by rw [Int.toNat_natCast];exact h)
def lv (r:RoV):Value:=if aB r.us<r.us.length then Es r.uv (aB r.us) else r.uv
theorem Ry {lo:Nat} {w:World} {r:RoV} (hr:r.ok lo w):Units lo w (lv r) (r.us.take (aB r.us)):=by
 have hln:=jv r.us
 unfold lv
 split
 ·exact Units.Es hr hln
 rw [show aB r.us=r.us.length by omega,List.take_length];exact hr
theorem Ib (lo:Nat) (u:UnV) (w:World) :
  Calls Tryz.prog 148 #[u.val] w (Ret fun v w'=>v = .bool u.wt∧Ext w w'):=by
 refine T.enter (vs:=[u.val]) func148 rfl ntmps148 rfl ?_
 refine T.q (L.o (O.box rfl (fun b1 w1 hb1 hz1 he1 hB1=>?_)))
 have hC1:Blk w1 b1 u.cells _:=hB1
 refine L.a rfl (L.nil (T.q (L.o (O.fieldAddr runUnderlying51 rfl sizeOf4 rfl (L.o (O.load isAgg4 rfl (hC1.cell rfl) (L.a rfl (L.nil (T.aN results148 rfl ⟨rfl,he1⟩)))))))))
theorem Et (lo:Nat) (p:Value) (us:List UnV) (w:World) (hp:Units lo w p us) :
  Calls Tryz.prog 147 #[p,.func (.func 148) #[] #[]] w (Ret fun v w'=>(∃ q:Int,v = .int .i64 q∧((q = -1∧aB us=us.length)∨(q=aB us∧aB us<us.length)))∧Ext w w'):=by
 have hle:=Sl.le hp.sl
 refine T.enter (vs:=[p,.func (.func 148) #[] #[]]) func147 rfl ntmps147 rfl ?_
 refine T.q (L.a rfl (L.nil (T.seq (T.q (L.m rfl (L.o (O.len runUnderlying23 rfl (Sl.val hp.sl) (L.m rfl (L.nil (T.block (?_)))))))))))
 refine T.loop (σ:=Nat) (fun i=>[(0,p),(1,.func (.func 148) #[] #[]),(7,.int .i64 us.length),(8,.int .i64 i)]) (fun i w'=>i≤us.length∧Ext w w'∧∀ j,j<i→(us.getD j u0).wt=false) (fun i=>us.length-i) (0) ⟨rfl,rfl,rfl,rfl,trivial⟩ ⟨Nat.zero_le _,Keep.refl _ _,fun j hj=>absurd hj (Nat.not_lt_zero _)⟩ ?_
 rintro i w1 ⟨hi,he1,hall⟩
 have hp1:=hp.ext he1
 refine T.q (L.o (O.aV rfl rfl (fun hlt=>?_) (fun hlt=>?_)))
 ·refine L.nil (?_)
  have hlt':i<us.length:=by omega
  refine T.seq (T.ct (T.skip (T.seq (T.block (T.q (L.m rfl (L.a rfl (L.nil (T.q (L.m rfl (L.m rfl (L.m rfl (L.o (O.indexAddr runUnderlying23 sizeOf51 rfl rfl hp1.sl (by omega) (by omega) (L.o (O.ak isAgg51 sizeOf51 rfl rfl (hp1.row hlt') (L.o (O.call (xs:=[.tmp 15]) call148 rfl rfl (Ib lo (us.getD i u0) w1) (fun v2 w2 hq=>?_)))))))))))))))))))
  obtain ⟨rfl,he2⟩:=hq
  cases hw:(us.getD i u0).wt
  ·refine L.nil (T.cf (T.skip (T.blk (T.region (L.o (O.aC rfl rfl (by omega) (L.m rfl (L.nil (T.again (i+1) (by omega) ⟨rfl,rfl,rfl,rfl,trivial⟩ ⟨hlt',he1.trans he2,fun j hj=>?_⟩)))))))))
   ·by_cases e:j=i
    ·subst e;exact hw
    exact hall j (by omega)
  refine L.nil (?_)
  have e:=mM us i hi hall (fun _=>hw)
  refine T.ct (T.q (L.m rfl (L.a rfl (L.nil (T.aN results147 rfl ⟨⟨_,rfl,.inr ⟨by rw [e],by omega⟩⟩,he1.trans he2⟩)))))
 refine L.nil (?_)
 have e:=mM us i hi hall (fun h=>absurd h (by omega))
 refine T.seq (T.cf (T.exit rfl (T.q (L.a rfl (L.nil (T.aN results147 rfl ⟨⟨_,rfl,.inl ⟨rfl,by omega⟩⟩,he1⟩))))))
theorem KW (lo:Nat) (r:RoV) (w:World) (hr:r.ok lo w) :
  Calls Tryz.prog 102 #[r.val] w (Ret fun v w'=>v=lv r∧Ext w w'):=by
 refine T.enter (vs:=[r.val]) func102 rfl ntmps102 rfl ?_
 refine T.q (L.o (O.box rfl (fun b1 w1 hb1 hz1 he1 hB1=>?_)))
 have hC1:Blk w1 b1 r.cells _:=hB1
 have hU1:Units lo w1 r.uv r.us:=hr.ext he1
 have hln:=jv r.us
 refine L.a rfl (L.nil (T.seq (T.q (L.o (O.fieldAddr runUnderlying25 rfl sizeOf23 rfl (L.o (O.load isAgg23 rfl (hC1.cell rfl) (L.o (O.call (xs:=[.tmp 5,.func 148]) call147 rfl rfl (Et lo r.uv r.us w1 hU1) (fun v2 w2 hq=>?_))))))))))
 obtain ⟨⟨q,rfl,hq⟩,he2⟩:=hq
 have hU2:=hU1.ext he2
 refine L.a rfl (L.nil (T.q (L.m rfl (L.o (O.qg rfl rfl (fun h0=>?_) (fun h0=>?_))))))
 ·refine L.nil (?_)
  obtain ⟨h1,h2⟩:q=(aB r.us:Int)∧aB r.us<r.us.length:=by rcases hq with h|h;omega;exact h
  subst h1
  refine T.ct (T.q (L.o (O.fieldAddr runUnderlying25 rfl sizeOf23 rfl (L.o (O.load isAgg23 rfl ((hC1.ext he2).cell rfl) (L.m rfl (L.o (O.Es runUnderlying23 sizeOf51 rfl rfl hU2.sl hln (L.a rfl (L.nil (T.aN results102 rfl ⟨by rw [lv,if_pos h2],he1.trans he2⟩)))))))))))
 refine L.nil (?_)
 have h1:aB r.us=r.us.length:=by rcases hq with h|h;exact h.2;omega
 refine T.cf (T.skip (T.q (L.o (O.fieldAddr runUnderlying25 rfl sizeOf23 rfl (L.o (O.load isAgg23 rfl ((hC1.ext he2).cell rfl) (L.a rfl (L.nil (T.aN results102 rfl ⟨by rw [lv,if_neg (by omega)],he1.trans he2⟩)))))))))
theorem wY (lo:Nat) (r:RoV) (w:World) (hr:r.ok lo w) :
  Calls Tryz.prog 144 #[r.val] w (Ret fun v w'=>v = .int .i64 (aB r.us)∧Ext w w'):=by
 refine T.enter (vs:=[r.val]) func144 rfl ntmps144 rfl ?_
 refine T.q (L.o (O.box rfl (fun b1 w1 hb1 hz1 he1 hB1=>?_)))
 have hC1:Blk w1 b1 r.cells _:=hB1
 have hU1:Units lo w1 r.uv r.us:=hr.ext he1
 have hle:=Sl.le hU1.sl
 refine L.a rfl (L.nil (T.q (L.a rfl (L.nil (T.seq (T.block (?_)))))))
 refine T.loop (σ:=Nat) (fun i=>[(1,.pointer (some ⟨b1,0,none⟩)),(3,.int .i64 i)]) (fun i w'=>i≤r.us.length∧w'=w1∧∀ j,j<i→(r.us.getD j u0).wt=false) (fun i=>r.us.length-i) (0) ⟨rfl,rfl,trivial⟩ ⟨Nat.zero_le _,rfl,fun j hj=>absurd hj (Nat.not_lt_zero _)⟩ ?_
 rintro i w2 ⟨hi,rfl,hall⟩
 refine T.seq (T.q (L.m rfl (L.o (O.fieldAddr runUnderlying25 rfl sizeOf23 rfl (L.o (O.load isAgg23 rfl (hC1.cell rfl) (L.o (O.len runUnderlying23 rfl (Sl.val hU1.sl) (L.o (O.aV rfl rfl (fun hlt=>?_) (fun hlt=>?_)))))))))))
 ·have hlt':i<r.us.length:=by omega
  refine L.m rfl (L.o (O.fieldAddr runUnderlying25 rfl sizeOf23 rfl (L.o (O.load isAgg23 rfl (hC1.cell rfl) (L.m rfl (L.o (O.indexAddr runUnderlying23 sizeOf51 rfl rfl hU1.sl (by omega) (by omega) (?_))))))))
  rcases hw:(r.us.getD i u0).wt with _|_
  ·refine L.o (O.fieldAddr runUnderlying51 rfl sizeOf4 rfl (L.o (O.load isAgg4 rfl (hU1.water hlt' hw) (L.o (O.not rfl (L.o (O.aj rfl rfl (L.nil (T.ct (T.skip (T.block (T.region (L.m rfl (L.o (O.aC rfl rfl (by omega) (L.a rfl (L.nil (T.blk (T.again (i+1) (by omega) ⟨rfl,rfl,trivial⟩ ⟨hlt',rfl,fun j hj=>?_⟩)))))))))))))))))))
   ·by_cases e:j=i
    ·subst e;exact hw
    exact hall j (by omega)
  refine L.o (O.fieldAddr runUnderlying51 rfl sizeOf4 rfl (L.o (O.load isAgg4 rfl (hU1.water hlt' hw) (L.o (O.not rfl (L.o (O.aj rfl rfl (L.nil (T.cf (T.exit rfl (T.q (L.m rfl (L.a rfl (L.nil (T.aN results144 rfl ⟨by rw [mM r.us i hi hall (fun _=>hw)],he1⟩)))))))))))))))
 refine L.m rfl (L.p (L.p (L.p (L.p (L.p (L.p (L.p (L.o (O.ah rfl rfl (L.nil (T.cf (T.exit rfl (T.q (L.m rfl (L.a rfl (L.nil (T.aN results144 rfl ⟨by rw [mM r.us i hi hall (fun h=>absurd h (by omega))],he1⟩)))))))))))))))))
noncomputable def rY (r:RoV):Int:=@ite _ (bD r) (Classical.propDecidable _) (aB r.us:Int) 0
theorem zY {r:RoV} (h:dG r=0):rY r=aB r.us:=by
 unfold rY
 by_cases hk:bD r
 ·exact if_pos hk
 rw [bT hk] at h;cases h
theorem KX {r:RoV} (h:dG r≠0):rY r=0:=by
 unfold rY
 by_cases hk:bD r
 ·exact absurd (dS hk) h
 exact if_neg hk
theorem Vu {r:RoV} (h:dG r=0):bD r:=by
 by_cases hk:bD r
 ·exact hk
 rw [bT hk] at h;cases h
theorem BZ {r:RoV} (h:dG r=0):0≤r.G∧r.G≤6∧0≤r.P∧r.P≤12∧0≤r.L∧r.L≤3∧0<(r.us.length:Int)∧(r.us.length:Int)≤64:=wW.1 (Vu h).bnd
theorem rZ (lo:Nat) (r:RoV) (w:World) (hr:r.ok lo w) :
  Calls Tryz.prog 52 #[r.val] w (Ret fun v w'=>v = .tuple #[.int .i64 (rY r),.int .i64 (dG r)]∧Ext w w'):=by
 refine T.enter (vs:=[r.val]) func52 rfl ntmps52 rfl ?_
 refine T.q (L.o (O.box rfl (fun b1 w1 hb1 hz1 he1 hB1=>?_)))
 have hC1:Blk w1 b1 r.cells _:=hB1
 refine L.a rfl (L.a rfl (L.nil (T.seq (T.q (L.o (O.ak isAgg25 sizeOf25 rfl rfl hC1.row (L.o (O.call (xs:=[.tmp 5]) call32 rfl rfl (mJ lo r w1 (hr.ext he1)) (fun v2 w2 hq=>?_)))))))))
 obtain ⟨rfl,he2⟩:=hq
 refine L.a rfl (L.nil (T.q (L.m rfl (L.o (O.gK rfl rfl (fun h0=>?_) (fun h0=>?_))))))
 ·refine L.nil (T.ct (T.q (L.m rfl (L.a rfl (L.a rfl (L.nil (T.yX results52 rfl rfl ⟨by rw [KX h0],he1.trans he2⟩)))))))
 refine L.nil (T.cf (T.skip (T.q (L.o (O.ak isAgg25 sizeOf25 rfl rfl ((hC1.ext he2).row) (L.o (O.call (xs:=[.tmp 10]) call102 rfl rfl (KW lo r w2 (hr.ext (he1.trans he2))) (fun v3 w3 hq=>?_))))))))
 obtain ⟨rfl,he3⟩:=hq
 have hln:=jv r.us
 have hU3:=Ry (hr.ext ((he1.trans he2).trans he3))
 refine L.o (O.len runUnderlying23 rfl (Sl.val hU3.sl) (L.a rfl (L.a rfl (L.nil (T.yX results52 rfl rfl ⟨by rw [zY h0,h0,List.length_take,Nat.min_eq_left hln],(he1.trans he2).trans he3⟩)))))
open Go Go.E
theorem Rz (b:Nat) (w:World):Upd b w w:=⟨rfl,rfl,rfl,rfl,fun _ _=>rfl⟩
end Go.Proofs.YtnlonpcbgjbbaaaGreatDoor
