/-
  BlocksOver, part 4 of its proof: that it returns true for every input, and each argument reads behind the call as it read before. Conditions: the listed variables read as the program's text lays them (tied by the card).
-/
import Derived.Test.YtnlonpcbgjbbaaaGreatDoorWBlocksOver3
import Derived.Test.YtnlonpcbgjbbaaaGreatDoorProg
import Derived.Test.YtnlonpcbgjbbaaaGreatDoorWBlocksOver2
set_option linter.unusedVariables false
set_option linter.unusedSimpArgs false
set_option maxRecDepth 20000
set_option linter.unusedVariables false
set_option linter.unusedSimpArgs false
set_option maxRecDepth 20000
namespace Go.Proofs.YtnlonpcbgjbbaaaGreatDoor
open Go.Proofs.Tryz (call102 call135 call136 call137 call147 call148 call163 call166 call167 call168 call171 call172 call203 call206 call32 call79 call80 func102 func135 func136 func137 func147 func148 func163 func166 func167 func168 func171 func172 func203 func206 func32 func52 func79 func80 isAgg23 isAgg241 isAgg25 isAgg3 isAgg30 isAgg4 isAgg51 isAgg9 ntmps102 ntmps135 ntmps136 ntmps137 ntmps147 ntmps148 ntmps163 ntmps166 ntmps167 ntmps168 ntmps171 ntmps172 ntmps203 ntmps206 ntmps32 ntmps52 ntmps79 ntmps80 results102 results135 results136 results137 results147 results148 results163 results166 results167 results168 results171 results172 results203 results206 results32 results52 results79 results80 runUnderlying142 runUnderlying204 runUnderlying23 runUnderlying241 runUnderlying25 runUnderlying30 runUnderlying4 runUnderlying51 runUnderlying9 sizeOf23 sizeOf241 sizeOf25 sizeOf3 sizeOf30 sizeOf4 sizeOf51 sizeOf9 zeroValue241 zeroValue4 zeroValue51)
open Go Go.E
attribute [local irreducible] Go.E.T Go.E.L Go.E.O Go.E.Ob

def Bools (lo:Nat) (w:World) (v:Value) (bs:List Bool):Prop:=Sl lo w v bs.length 1 (bs.map Value.bool)
theorem Bools.at {w:World} {v:Value} {lo:Nat} {bs:List Bool} (h:Bools lo w v bs) {i:Nat} (h1:i<bs.length):w.cell? ((sAddr v).add ((i:Int).toNat*1))=some (.bool (bs.getD i true)):=by
 rw [Int.toNat_natCast,Nat.mul_one]
 exact Sl.cell h (by simp [List.getD,h1])
theorem getD_get {α:Type} {xs:List α} {i:Nat} {d:α} (h:i<xs.length):xs.getD i d=xs[i]:=by simp [List.getD,h]
theorem mem_of_getD {α:Type} {xs:List α} {i:Nat} {d a:α} (h:i<xs.length) (e:xs.getD i d=a):a∈xs:=by
 rw [getD_get h] at e;exact e▸List.getElem_mem h
theorem not_mem_of {α:Type} {xs:List α} {d a:α} (h:∀ j,j<xs.length→xs.getD j d≠a):a∉xs:=fun hm=>by
 obtain ⟨j,hj,e⟩:=List.getElem_of_mem hm
 exact h j hj (by rw [getD_get hj];exact e)
theorem list_eq_of {α:Type} {xs ys:List α} {d:α} (hl:xs.length=ys.length) (h:∀ j,j<xs.length→xs.getD j d=ys.getD j d):xs=ys:=by
 apply List.ext_getElem hl
 intro j h1 h2
 have:=h j h1
 rwa [getD_get h1,getD_get h2] at this
theorem index_calls (lo:Nat) (p:Value) (bs:List Bool) (w:World) (hp:Bools lo w p bs) :
  Calls Tryz.prog 163 #[p,.bool false] w (Ret fun v w'=>∃ r:Int,v = .int .i64 r∧(0≤r↔false∈bs)∧w'=w):=by
 have hle:=Sl.le hp
 refine T.enter (vs:=[p,.bool false]) func163 rfl ntmps163 rfl ?_
 refine T.q (L.a rfl (L.nil (T.seq (T.q (L.m rfl (L.o (O.len runUnderlying204 rfl (Sl.val hp) (L.m rfl (L.nil (T.block (?_)))))))))))
 refine T.loop (σ:=Nat) (fun i=>[(0,p),(1,.bool false),(7,.int .i64 bs.length),(8,.int .i64 i)]) (fun i w'=>i≤bs.length∧w'=w∧∀ j,j<i→bs.getD j true≠false) (fun i=>bs.length-i) (0) ⟨rfl,rfl,rfl,rfl,trivial⟩ ⟨Nat.zero_le _,rfl,fun j hj=>absurd hj (Nat.not_lt_zero _)⟩ ?_
 rintro i w' ⟨hi,rfl,hall⟩
 refine T.q (L.o (O.lss_s rfl rfl (fun hlt=>?_) (fun hlt=>?_)))
 ·refine L.nil (?_)
  have hlt':i<bs.length:=by omega
  refine T.seq (T.ct (T.skip (T.seq (T.block (T.q (L.m rfl (L.a rfl (L.nil (T.q (L.m rfl (L.m rfl (L.m rfl (L.o (O.indexAddr runUnderlying204 sizeOf4 rfl rfl hp (by omega) (by omega) (L.o (O.load isAgg4 rfl (Bools.at hp hlt') (?_)))))))))))))))))
  by_cases hb:bs.getD i true=false
  ·refine L.o (O.eql_bool_t runUnderlying4 rfl rfl hb.symm (L.nil (T.ct (T.q (L.m rfl (L.a rfl (L.nil (T.ret1 results163 rfl ⟨_,rfl,⟨fun _=>mem_of_getD hlt' hb,fun _=>by omega⟩,rfl⟩))))))))
  ·refine L.o (O.eql_bool_f runUnderlying4 rfl rfl (fun e=>hb e.symm) (L.nil (T.cf (T.skip (T.blk (T.region (L.o (O.add64 rfl rfl (by omega) (L.m rfl (L.nil (T.again (i+1) (by omega) ⟨rfl,rfl,rfl,rfl,trivial⟩ ⟨hlt',rfl,fun j hj=>?_⟩)))))))))))
   ·by_cases hji:j=i
    ·subst hji;exact hb
    ·exact hall j (by omega)
 ·refine L.nil (T.seq (T.cf (T.exit rfl (T.q (L.a rfl (L.nil (T.ret1 results163 rfl ⟨_,rfl,⟨fun h=>absurd h (by decide),fun h=>absurd h (not_mem_of (d:=true) fun j hj=>hall j (by omega))⟩,rfl⟩)))))))

theorem contains_calls (lo:Nat) (p:Value) (bs:List Bool) (w:World) (hp:Bools lo w p bs) :
  Calls Tryz.prog 135 #[p,.bool false] w (Ret fun v w'=>v = .bool (!bs.all id)∧w'=w):=by
 refine T.enter (vs:=[p,.bool false]) func135 rfl ntmps135 rfl ?_
 refine T.q (L.a rfl (L.nil (T.q (L.m rfl (L.m rfl (L.o (O.call (xs:=[.tmp 5,.tmp 6]) call163 rfl rfl (index_calls lo p bs w hp) (fun v1 w1 hq=>?_))))))))
 obtain ⟨r,rfl,hr,rfl⟩:=hq
 refine L.o (O.geq_s rfl rfl (fun h0=>?_) (fun h0=>?_))
 ·refine L.a rfl (L.nil (T.ret1 results135 rfl ⟨by rw [show bs.all id=false from List.all_eq_false.2 ⟨false,hr.1 h0,by simp⟩];rfl,rfl⟩))
 ·refine L.a rfl (L.nil (T.ret1 results135 rfl ⟨by rw [show bs.all id=true from List.all_eq_true.2 fun b hb=>(by cases b with|true=>rfl|false=>exact absurd (hr.2 hb) h0)];rfl,rfl⟩))

theorem every_calls (lo:Nat) (p:Value) (bs:List Bool) (w:World) (hp:Bools lo w p bs) :
  Calls Tryz.prog 79 #[p] w (Ret fun v w'=>v = .bool (bs.all id)∧w'=w):=by
 refine T.enter (vs:=[p]) func79 rfl ntmps79 rfl ?_
 refine T.q (L.a rfl (L.nil (T.q (L.m rfl (L.o (O.call (xs:=[.tmp 3,.const (.bool false)]) call135 rfl rfl (contains_calls lo p bs w hp) (fun v1 w1 hq=>?_)))))))
 obtain ⟨rfl,rfl⟩:=hq
 refine L.o (O.not rfl (L.a rfl (L.nil (T.ret1 results79 rfl ⟨by simp,rfl⟩))))

open Go Go.E

def inB (m x:Int):Bool:=decide (0≤x) && decide (x≤m)
def withinOk (xs:List Int) (n m:Int):Bool:=decide ((xs.length:Int)=n) && xs.all (inB m)
theorem within_len {xs:List Int} {n m:Int} (h:¬ (xs.length:Int)=n):withinOk xs n m=false:=by simp [withinOk,h]
theorem within_all {xs:List Int} {n m:Int} (h:∀ j,j<xs.length→0≤xs.getD j 0∧xs.getD j 0≤m):withinOk xs n m=decide ((xs.length:Int)=n):=by
 have:xs.all (inB m)=true:=List.all_eq_true.2 fun x hx=>by
  obtain ⟨j,hj,rfl⟩:=List.getElem_of_mem hx
  have:=h j hj
  rw [getD_get hj] at this
  simpa [inB] using this
 simp [withinOk,this]
theorem within_iff {xs:List Int} {n m:Int} : withinOk xs n m=true↔(xs.length:Int)=n∧∀ j,j<xs.length→0≤xs.getD j 0∧xs.getD j 0≤m:=by
 constructor
 ·intro h
  simp only [withinOk,Bool.and_eq_true,decide_eq_true_eq] at h
  refine ⟨h.1,fun j hj=>?_⟩
  have:=List.all_eq_true.1 h.2 xs[j] (List.getElem_mem hj)
  rw [getD_get hj];simpa [inB] using this
 ·rintro ⟨h1,h2⟩;rw [within_all h2,decide_eq_true h1]
theorem within1_calls (b:Nat) (t:TypeId) (x m:Int) (w:World) (hb:Blk w b [.int .i64 m] t) :
  Calls Tryz.prog 172 #[.int .i64 x,.pointer (some ⟨b,0,none⟩)] w (Ret fun v w'=>v = .bool (decide (x<0∨m<x))∧w'=w):=by
 refine T.enter (vs:=[.int .i64 x,.pointer (some ⟨b,0,none⟩)]) func172 rfl ntmps172 rfl ?_
 refine T.q (L.a rfl (L.nil (T.q (L.m rfl (L.o (O.lss_s rfl rfl (fun h0=>?_) (fun h0=>?_)))))))
 ·refine L.m rfl (L.p (L.p (L.p (L.o (O.pick_true rfl rfl (L.a rfl (L.nil (T.ret1 results172 rfl ⟨by rw [decide_eq_true (.inl h0)],rfl⟩))))))))
 ·refine L.m rfl (L.m rfl (L.o (O.load isAgg3 rfl (hb.cell rfl) (L.o (O.gtr_s rfl rfl (fun h1=>?_) (fun h1=>?_))))))
  ·refine L.o (O.pick_false rfl rfl (L.a rfl (L.nil (T.ret1 results172 rfl ⟨by rw [decide_eq_true (.inr h1)],rfl⟩))))
  ·refine L.o (O.pick_false rfl rfl (L.a rfl (L.nil (T.ret1 results172 rfl ⟨by rw [decide_eq_false (by omega)],rfl⟩))))

theorem indexI_calls (lo b:Nat) (t:TypeId) (p:Value) (xs:List Int) (m:Int) (w:World) (hp:Ints .i64 lo w p xs) (hb:Blk w b [.int .i64 m] t) :
  Calls Tryz.prog 206 #[p,.func (.func 172) #[] #[.pointer (some ⟨b,0,none⟩)]] w (Ret fun v w'=>∃ r:Int,v = .int .i64 r∧(0≤r↔¬ ∀ j,j<xs.length→0≤xs.getD j 0∧xs.getD j 0≤m)∧w'=w):=by
 have hle:=Sl.le hp
 refine T.enter (vs:=[p,.func (.func 172) #[] #[.pointer (some ⟨b,0,none⟩)]]) func206 rfl ntmps206 rfl ?_
 refine T.q (L.a rfl (L.nil (T.seq (T.q (L.m rfl (L.o (O.len runUnderlying30 rfl (Sl.val hp) (L.m rfl (L.nil (T.block (?_)))))))))))
 refine T.loop (σ:=Nat) (fun i=>[(0,p),(1,.func (.func 172) #[] #[.pointer (some ⟨b,0,none⟩)]),(7,.int .i64 xs.length),(8,.int .i64 i)]) (fun i w'=>i≤xs.length∧w'=w∧∀ j,j<i→0≤xs.getD j 0∧xs.getD j 0≤m) (fun i=>xs.length-i) (0) ⟨rfl,rfl,rfl,rfl,trivial⟩ ⟨Nat.zero_le _,rfl,fun j hj=>absurd hj (Nat.not_lt_zero _)⟩ ?_
 rintro i w' ⟨hi,rfl,hall⟩
 refine T.q (L.o (O.lss_s rfl rfl (fun hlt=>?_) (fun hlt=>?_)))
 ·refine L.nil (?_)
  have hlt':i<xs.length:=by omega
  refine T.seq (T.ct (T.skip (T.seq (T.block (T.q (L.m rfl (L.a rfl (L.nil (T.q (L.m rfl (L.m rfl (L.m rfl (L.o (O.indexAddr runUnderlying30 sizeOf3 rfl rfl hp (by omega) (by omega) (L.o (O.load isAgg3 rfl (Ints.at hp hlt') (L.o (O.call (xs:=[.tmp 15]) call172 rfl rfl (within1_calls b t (xs.getD i 0) m w' hb) (fun v1 w1 hq=>?_)))))))))))))))))))
  obtain ⟨rfl,rfl⟩:=hq
  refine L.nil (?_)
  refine T.cond_dec rfl (fun hb1=>?_) (fun hb1=>?_)
  ·refine T.q (L.m rfl (L.a rfl (L.nil (T.ret1 results206 rfl ⟨_,rfl,⟨fun _ h=>by have:=h i hlt';omega,fun _=>by omega⟩,rfl⟩))))
  ·refine T.skip (T.blk (T.region (L.o (O.add64 rfl rfl (by omega) (L.m rfl (L.nil (T.again (i+1) (by omega) ⟨rfl,rfl,rfl,rfl,trivial⟩ ⟨hlt',rfl,fun j hj=>?_⟩)))))))
   ·by_cases hji:j=i
    ·subst hji;omega
    ·exact hall j (by omega)
 ·refine L.nil (T.seq (T.cf (T.exit rfl (T.q (L.a rfl (L.nil (T.ret1 results206 rfl ⟨_,rfl,⟨fun h=>absurd h (by decide),fun h=>absurd (fun j hj=>hall j (by omega)) h⟩,rfl⟩)))))))

theorem containsI_calls (lo b:Nat) (t:TypeId) (p:Value) (xs:List Int) (m:Int) (w:World) (hp:Ints .i64 lo w p xs) (hb:Blk w b [.int .i64 m] t) :
  Calls Tryz.prog 171 #[p,.func (.func 172) #[] #[.pointer (some ⟨b,0,none⟩)]] w (Ret fun v w'=>v = .bool (!decide (∀ j,j<xs.length→0≤xs.getD j 0∧xs.getD j 0≤m))∧w'=w):=by
 refine T.enter (vs:=[p,.func (.func 172) #[] #[.pointer (some ⟨b,0,none⟩)]]) func171 rfl ntmps171 rfl ?_
 refine T.q (L.a rfl (L.nil (T.q (L.m rfl (L.m rfl (L.o (O.call (xs:=[.tmp 5,.tmp 6]) call206 rfl rfl (indexI_calls lo b t p xs m w hp hb) (fun v1 w1 hq=>?_))))))))
 obtain ⟨r,rfl,hr,rfl⟩:=hq
 refine L.o (O.geq_s rfl rfl (fun h0=>?_) (fun h0=>?_))
 ·refine L.a rfl (L.nil (T.ret1 results171 rfl ⟨by rw [decide_eq_false (hr.1 h0)];rfl,rfl⟩))
 ·refine L.a rfl (L.nil (T.ret1 results171 rfl ⟨by rw [decide_eq_true (Classical.not_not.1 fun hn=>h0 (hr.2 hn))];rfl,rfl⟩))

theorem within_calls (lo:Nat) (p:Value) (xs:List Int) (n m:Int) (w:World) (hp:Ints .i64 lo w p xs) :
  Calls Tryz.prog 137 #[p,.int .i64 n,.int .i64 m] w (Ret fun v w'=>v = .bool (withinOk xs n m)∧Ext w w'):=by
 have hle:=Sl.le hp
 refine T.enter (vs:=[p,.int .i64 n,.int .i64 m]) func137 rfl ntmps137 rfl ?_
 refine T.q (L.o (O.box rfl (fun b1 w1 hb1 hz1 he1 hB1=>?_)))
 have hp1:=hp.keep (he1.mono (Nat.zero_le lo))
 refine L.a rfl (L.nil (T.q (L.m rfl (L.o (O.len runUnderlying30 rfl (Sl.val hp1) (L.m rfl (L.o (O.eql_s rfl rfl (fun hl=>?_) (fun hl=>?_)))))))))
 ·refine L.m rfl (L.m rfl (L.o (O.makeFunc (fi:=[]) (ca:=[.tmp 5]) rfl rfl (L.o (O.call (xs:=[.tmp 12,.tmp 13]) call171 rfl rfl (containsI_calls lo b1 _ p xs m w1 hp1 hB1) (fun v2 w2 hq=>?_))))))
  obtain ⟨rfl,rfl⟩:=hq
  refine L.o (O.not rfl (L.o (O.pick_true rfl rfl (L.a rfl (L.nil (T.ret1 results137 rfl ⟨?_,he1⟩))))))
  by_cases h:∀ j,j<xs.length→0≤xs.getD j 0∧xs.getD j 0≤m
  ·rw [within_all h,decide_eq_true h,decide_eq_true hl];rfl
  ·rw [decide_eq_false h]
   have:withinOk xs n m=false:=by
    cases hc:withinOk xs n m
    ·rfl
    ·exact absurd (within_iff.1 hc).2 h
   rw [this];rfl
 ·refine L.m rfl (L.p (L.p (L.p (L.p (L.o (O.pick_false rfl rfl (L.a rfl (L.nil (T.ret1 results137 rfl ⟨by rw [within_len hl],he1⟩)))))))))

open Go Go.E

def letters:Str:=[65,66,67,68,69,70,71,72,73,74,75,76,77,78,79,80,81,82,83,84,85,86,87,88,89,90,97,98,99,100,101,102] ++ [103,104,105,106,107,108,109,110,111,112,113,114,115,116,117,118,119,120,121,122,48,49,50,51,52,53,54,55,56,57,45,95]
def goodC (c:UInt8):Bool:=(decide (65≤c.toNat) && decide (c.toNat≤90)) || ((decide (97≤c.toNat) && decide (c.toNat≤122)) || ((decide (48≤c.toNat) && decide (c.toNat≤57)) || (decide (c.toNat=45) || decide (c.toNat=95))))
theorem good_iff {c:UInt8} : goodC c=true↔(65≤c.toNat∧c.toNat≤90)∨(97≤c.toNat∧c.toNat≤122)∨(48≤c.toNat∧c.toNat≤57)∨c.toNat=45∨c.toNat=95:=by
 simp only [goodC,Bool.or_eq_true,Bool.and_eq_true,decide_eq_true_eq]
def nameOk (s:Str):Bool:=s.all goodC && (decide (1≤s.length) && decide (s.length≤12))
theorem all_of_getD {s:Str} (h:∀ j,j<s.length→goodC (s.getD j 0)=true):s.all goodC=true:=List.all_eq_true.2 fun x hx=>by
 obtain ⟨j,hj,rfl⟩:=List.getElem_of_mem hx
 have:=h j hj
 rwa [getD_get hj] at this
theorem all_getD {s:Str} (h:s.all goodC=true) {j:Nat} (hj:j<s.length):goodC (s.getD j 0)=true:=by
 rw [getD_get hj];exact List.all_eq_true.1 h _ (List.getElem_mem hj)
theorem good_step {s:Str} {i:Nat} (hall:∀ j,j<i→goodC (s.getD j 0)=true) (h:goodC (s.getD i 0)=true):∀ j,j<i+1→goodC (s.getD j 0)=true:=fun j hj=>by
 by_cases hji:j=i
 ·subst hji;exact h
 ·exact hall j (by omega)
/-- The cells of a set of octets. -/
def asciiTo (s:Str):Nat→List Value
 | 0=>List.replicate 256 (.bool false)
 | i+1=>(asciiTo s i).set (s.getD i 0).toNat (.bool true)
theorem asciiTo_len (s:Str):∀ i,(asciiTo s i).length=256
 | 0=>by simp [asciiTo]
 | i+1=>by simp [asciiTo,asciiTo_len s i]
def goodN (c:Nat):Bool:=(decide (65≤c) && decide (c≤90)) || ((decide (97≤c) && decide (c≤122)) || ((decide (48≤c) && decide (c≤57)) || (decide (c=45) || decide (c=95))))
theorem ascii_letters:asciiTo letters 64=(List.range 256).map fun c=>Value.bool (goodN c):=by kernel_rfl
theorem asciiTo_one (s:Str):∀ i,∀ u∈asciiTo s i,u.oneCell'=true
 | 0=>fun u hu=>by obtain ⟨_,rfl⟩:=List.mem_replicate.1 hu;rfl
 | i+1=>fun u hu=>by
  rcases List.mem_or_eq_of_mem_set hu with h|h
  ·exact asciiTo_one s i u h
  ·subst h;rfl
theorem ascii_get (c:UInt8):(asciiTo letters 64)[c.toNat]?=some (.bool (goodC c)):=by
 rw [ascii_letters]
 have:c.toNat<256:=c.toNat_lt
 simp [this];rfl
theorem letters_low:∀ j,j<letters.length→(letters.getD j 0).toNat<128:=by decide +kernel
theorem ascii_calls (w:World) :
  Calls Tryz.prog 166 #[str letters] w (Ret fun v w'=>Ext w w'∧v = .tuple #[.agg (asciiTo letters 64).toArray,.bool true]):=by
 refine T.enter (vs:=[str letters]) func166 rfl ntmps166 rfl ?_
 refine T.q (L.o (O.alloc zeroValue241 (fun b1 w1 hb1 hz1 he1 hB1=>?_)))
 have hll:letters.length=64:=by decide
 refine L.a rfl (L.nil (T.seq (T.q (L.a rfl (L.nil (T.block (?_)))))))
 refine T.loop (σ:=Nat) (fun i=>[(0,str letters),(2,.pointer (some ⟨b1,0,none⟩)),(4,.int .i64 i)]) (fun i w'=>i≤64∧Ext w w'∧Blk w' b1 (asciiTo letters i) 241) (fun i=>64-i) (0) ⟨rfl,rfl,rfl,trivial⟩ ⟨Nat.zero_le _,he1,hB1⟩ ?_
 rintro i w2 ⟨hi,he2,hB2⟩
 refine T.seq (T.q (L.m rfl (L.m rfl (L.o (O.len_str runUnderlying9 rfl (L.o (O.lss_s rfl rfl (fun hlt=>?_) (fun hlt=>?_))))))))
 ·refine L.nil (?_)
  have hlt':i<letters.length:=by omega
  have hlow:=letters_low i hlt'
  refine T.ct (T.skip (T.seq (T.block (T.q (L.m rfl (L.m rfl (L.o (O.index_nat runUnderlying9 rfl rfl (by omega) (L.a rfl (L.nil (T.seq (T.q (L.m rfl (L.o (O.geq_f rfl rfl (by omega) (L.nil (T.cf (T.skip (T.region (L.m rfl (L.o (O.indexAddr_arr runUnderlying241 sizeOf4 rfl rfl (by omega) (by omega) (L.o (O.store1_at sizeOf4 rfl rfl rfl hB2 (by rw [asciiTo_len];omega) (fun w3 hu3 hB3=>?_)))))))))))))))))))))))))
  refine L.nil (T.blk (T.region (L.m rfl (L.o (O.add64 rfl rfl (by omega) (L.a rfl (L.nil (T.again (i+1) (by omega) ⟨rfl,rfl,rfl,trivial⟩ ⟨by omega,he2.upd hu3 (.inr (by omega)),?_⟩))))))))
  ·have e:(0+((((letters.getD i 0).toNat:Nat):Int).toNat*1))=(letters.getD i 0).toNat:=by rw [Int.toNat_natCast];omega
   rw [asciiTo,← e];exact hB3
 ·refine L.nil (?_)
  obtain rfl:i=64:=by omega
  refine T.cf (T.exit rfl (T.q (L.o (O.loadAgg isAgg241 sizeOf241 (asciiTo_len _ _) rfl (Row.of_blk hB2) (L.o (O.storeAgg sizeOf241 (asciiTo_len _ _) rfl rfl hB2 (by rw [asciiTo_len];decide) (asciiTo_one _ _) (fun w3 hu3 hB3=>?_)))))))
  have he3:=he2.upd hu3 (.inr (by omega))
  have hB3':Blk w3 b1 (asciiTo letters 64) 241:=by rw [show (asciiTo letters 64).take 0++asciiTo letters 64++(asciiTo letters 64).drop (0+256)=asciiTo letters 64 by rw [List.drop_eq_nil_of_le (by rw [asciiTo_len];decide)];simp] at hB3;exact hB3
  refine L.a rfl (L.nil (T.retAT results166 isAgg241 sizeOf241 (asciiTo_len _ _) rfl rfl (Row.of_blk hB3') ⟨he3,rfl⟩))

theorem has_calls (b:Nat) (t:TypeId) (c:UInt8) (w:World) (hb:Blk w b (asciiTo letters 64) t) :
  Calls Tryz.prog 203 #[.pointer (some ⟨b,0,none⟩),.int .u8 (c.toNat:Int)] w (Ret fun v w'=>v = .bool (goodC c)∧w'=w):=by
 have hc:c.toNat<256:=c.toNat_lt
 refine T.enter (vs:=[.pointer (some ⟨b,0,none⟩),.int .u8 (c.toNat:Int)]) func203 rfl ntmps203 rfl ?_
 refine T.q (L.a rfl (L.nil (T.q (L.m rfl (L.m rfl (L.o (O.nilCheck rfl (L.o (O.indexAddr_arr runUnderlying241 sizeOf4 rfl rfl (by omega) (by omega) (L.o (O.load isAgg4 rfl (by rw [add_at];exact hb.cell (by rw [show 0+(((c.toNat:Nat):Int).toNat*1)=c.toNat by rw [Int.toNat_natCast];omega];exact ascii_get c)) (L.a rfl (L.nil (T.ret1 results203 rfl ⟨rfl,rfl⟩))))))))))))))

theorem trimR_calls (b:Nat) (t:TypeId) (s:Str) (w:World) (hb:Blk w b (asciiTo letters 64) t) (hn:s.length≤9223372036854775807) :
  Calls Tryz.prog 168 #[str s,.pointer (some ⟨b,0,none⟩)] w (Ret fun v w'=>w'=w∧∃ n,v=str (s.take n)∧n≤s.length∧(∀ j,n≤j→j<s.length→goodC (s.getD j 0)=true)∧(n=0∨¬ goodC (s.getD (n-1) 0)=true)):=by
 refine T.enter (vs:=[str s,.pointer (some ⟨b,0,none⟩)]) func168 rfl ntmps168 rfl ?_
 refine T.q (L.a rfl (L.nil (T.seq (T.block (?_)))))
 refine T.loop (σ:=Nat) (fun n=>[(0,str (s.take n)),(1,.pointer (some ⟨b,0,none⟩))]) (fun n w'=>n≤s.length∧w'=w∧∀ j,n≤j→j<s.length→goodC (s.getD j 0)=true) (fun n=>n) (s.length) ⟨?_,rfl,trivial⟩ ⟨Nat.le_refl _,rfl,fun j h1 h2=>absurd h2 (by omega)⟩ ?_
 ·rw [List.take_length];rfl
 rintro n w' ⟨hi,rfl,hall⟩
 have hln:(s.take n).length=n:=by rw [List.length_take];omega
 refine T.seq (T.q (L.m rfl (L.o (O.len_str runUnderlying9 rfl (L.o (O.gtr_s rfl rfl (fun hlt=>?_) (fun hlt=>?_)))))))
 ·refine L.nil (?_)
  have hn0:0<n:=by omega
  refine T.ct (T.skip (T.block (T.seq (T.q (L.m rfl (L.m rfl (L.m rfl (L.o (O.len_str runUnderlying9 rfl (L.o (O.sub64 rfl rfl (by omega) (L.o (O.index_at runUnderlying9 rfl rfl (by omega) (by omega) (?_))))))))))))))
  have hgt:(s.take n).getD (((s.take n).length:Int)-1).toNat 0=s.getD (n-1) 0:=by rw [hln,show ((n:Int)-1).toNat=n-1 by omega,getD_get (by omega),getD_get (by omega),List.getElem_take]
  refine L.o (O.call (xs:=[.tmp 8,.tmp 13]) call203 rfl rfl (has_calls b t ((s.take n).getD (((s.take n).length:Int)-1).toNat 0) w' hb) (fun v1 w1 hq=>?_))
  obtain ⟨rfl,rfl⟩:=hq
  cases hg:goodC ((s.take n).getD (((s.take n).length:Int)-1).toNat 0)
  ·refine L.o (O.not rfl (L.nil (T.ct (T.exit rfl (T.q (L.m rfl (L.a rfl (L.nil (T.ret1 results168 rfl ⟨rfl,n,rfl,hi,hall,.inr (by rw [← hgt,hg];decide)⟩)))))))))
  ·refine L.o (O.not rfl (L.nil (T.cf (T.skip (T.region (L.m rfl (L.m rfl (L.o (O.len_str runUnderlying9 rfl (L.o (O.sub64 rfl rfl (by omega) (L.o (O.slice_str_h runUnderlying9 rfl rfl (by omega) (by omega) (L.a rfl (L.nil (T.blk (T.again (n-1) (by omega) ⟨?_,rfl,trivial⟩ ⟨by omega,rfl,fun j h1 h2=>?_⟩)))))))))))))))))
   ·rw [List.take_take];rw [show min (((s.take n).length:Int)-1).toNat n=n-1 by omega];rfl
   ·by_cases hj:j=n-1
    ·subst hj;rw [← hgt];exact hg
    ·exact hall j (by omega) h2
 ·refine L.nil (T.cf (T.exit rfl (T.q (L.m rfl (L.a rfl (L.nil (T.ret1 results168 rfl ⟨rfl,n,rfl,hi,hall,.inl (by omega)⟩)))))))

theorem trimL_calls (b:Nat) (t:TypeId) (s:Str) (w:World) (hb:Blk w b (asciiTo letters 64) t) (hn:s.length≤9223372036854775807) :
  Calls Tryz.prog 167 #[str s,.pointer (some ⟨b,0,none⟩)] w (Ret fun v w'=>w'=w∧∃ u,v=str u∧(u = []↔s.all goodC=true)):=by
 refine T.enter (vs:=[str s,.pointer (some ⟨b,0,none⟩)]) func167 rfl ntmps167 rfl ?_
 refine T.q (L.a rfl (L.nil (T.seq (T.block (?_)))))
 refine T.loop (σ:=Nat) (fun n=>[(0,str (s.drop n)),(1,.pointer (some ⟨b,0,none⟩))]) (fun n w'=>n≤s.length∧w'=w∧∀ j,j<n→goodC (s.getD j 0)=true) (fun n=>s.length-n) (0) ⟨rfl,rfl,trivial⟩ ⟨Nat.zero_le _,rfl,fun j h1=>absurd h1 (by omega)⟩ ?_
 rintro n w' ⟨hi,rfl,hall⟩
 have hln:(s.drop n).length=s.length-n:=List.length_drop
 refine T.seq (T.q (L.m rfl (L.o (O.len_str runUnderlying9 rfl (L.o (O.gtr_s rfl rfl (fun hlt=>?_) (fun hlt=>?_)))))))
 ·refine L.nil (?_)
  have hn0:n<s.length:=by omega
  refine T.ct (T.skip (T.block (T.seq (T.q (L.m rfl (L.m rfl (L.o (O.index_at runUnderlying9 rfl rfl (by decide) (by rw [hln];simp;omega) (?_)))))))))
  have hgt:(s.drop n).getD (0:Int).toNat 0=s.getD n 0:=by rw [show ((0:Int)).toNat=0 from rfl,getD_get (by omega),getD_get (by omega),List.getElem_drop];rfl
  refine L.o (O.call (xs:=[.tmp 8,.tmp 10]) call203 rfl rfl (has_calls b t ((s.drop n).getD (0:Int).toNat 0) w' hb) (fun v1 w1 hq=>?_))
  obtain ⟨rfl,rfl⟩:=hq
  cases hg:goodC ((s.drop n).getD (0:Int).toNat 0)
  ·refine L.o (O.not rfl (L.nil (T.ct (T.exit rfl (T.q (L.m rfl (L.a rfl (L.nil (T.ret1 results167 rfl ⟨rfl,_,rfl,fun h=>absurd (congrArg List.length h) (by rw [hln];simp;omega),fun h=>absurd (all_getD h hn0) (by rw [← hgt,hg];decide)⟩)))))))))
  ·refine L.o (O.not rfl (L.nil (T.cf (T.skip (T.region (L.m rfl (L.o (O.slice_str_l runUnderlying9 rfl rfl (by decide) (by rw [hln];show 1≤_;omega) (L.a rfl (L.nil (T.blk (T.again (n+1) (by omega) ⟨?_,rfl,trivial⟩ ⟨by omega,rfl,good_step hall (by rw [← hgt];exact hg)⟩))))))))))))
   ·rw [List.drop_drop];rfl
 ·refine L.nil (T.cf (T.exit rfl (T.q (L.m rfl (L.a rfl (L.nil (T.ret1 results167 rfl ⟨rfl,_,rfl,fun _=>all_of_getD (fun j hj=>hall j (by omega)),fun _=>List.drop_eq_nil_of_le (by omega)⟩)))))))

theorem trim_calls (s:Str) (w:World) (hn:s.length≤9223372036854775807) :
  Calls Tryz.prog 136 #[str s,str letters] w (Ret fun v w'=>Ext w w'∧∃ u,v=str u∧(u = []↔s.all goodC=true)):=by
 refine T.enter (vs:=[str s,str letters]) func136 rfl ntmps136 rfl ?_
 refine T.q (L.a rfl (L.nil (T.seq (T.q (L.m rfl (L.o (O.eql_str_s runUnderlying9 rfl rfl (fun h0=>?_) (fun h0=>?_))))))))
 ·refine L.m rfl (L.p (L.p (L.o (O.pick_true rfl rfl (L.nil (T.ct (T.q (L.m rfl (L.a rfl (L.nil (T.ret1 results136 rfl ⟨Keep.refl _ _,[],by rw [h0],by rw [h0];simp⟩)))))))))))
 ·refine L.m rfl (L.m rfl (L.o (O.eql_str_f runUnderlying9 rfl rfl (by decide) (L.o (O.pick_false rfl rfl (L.nil (T.cf (T.skip (T.seq (T.q (L.m rfl (L.o (O.len_str runUnderlying9 rfl (L.o (O.eql_f rfl rfl (by decide) (L.m rfl (L.p (L.p (L.p (L.o (O.pick_false rfl rfl (L.nil (T.cf (T.skip (T.seq (T.q (?_)))))))))))))))))))))))))))
  refine L.m rfl (L.o (O.call (xs:=[.tmp 30]) call166 rfl rfl (ascii_calls w) (fun v1 w1 hq=>?_)))
  obtain ⟨he1,rfl⟩:=hq
  refine L.m rfl (L.o (O.extract rfl rfl (L.o (O.extract rfl rfl (L.o (O.alloc zeroValue241 (fun b2 w2 hb2 hz2 he2 hB2=>?_)))))))
  refine L.o (O.storeAgg sizeOf241 (asciiTo_len _ _) rfl rfl hB2 (by decide) (asciiTo_one _ _) (fun w3 hu3 hB3=>?_))
  have hB3':Blk w3 b2 (asciiTo letters 64) 241:=by rw [show ∀ cs:List Value,cs.length=256→cs.take 0++asciiTo letters 64++cs.drop (0+256)=asciiTo letters 64 from fun cs hc=>by rw [List.drop_eq_nil_of_le (by omega)];simp] at hB3;exact hB3;decide
  have he3:=(he1.trans he2).upd hu3 (.inr (by have:=he1.size;omega))
  skip
  ·refine L.a rfl (L.nil (T.q (L.m rfl (L.nil (T.ct (T.q (L.m rfl (L.o (O.call (xs:=[.tmp 35,.tmp 5]) call168 rfl rfl (trimR_calls b2 _ s w3 hB3' hn) (fun v4 w4 hq=>?_))))))))))
   obtain ⟨rfl,n,rfl,hn4,hall,hend⟩:=hq
   refine L.o (O.call (xs:=[.tmp 36,.tmp 5]) call167 rfl rfl (trimL_calls b2 _ (s.take n) w4 hB3' (by rw [List.length_take];omega)) (fun v5 w5 hq=>?_))
   obtain ⟨rfl,u,rfl,hu⟩:=hq
   refine L.a rfl (L.nil (T.ret1 results136 rfl ⟨he3,u,rfl,?_⟩))
   rw [hu]
   constructor
   ·intro h
    refine all_of_getD fun j hj=>?_
    rcases Nat.lt_or_ge j n with h1|h1
    ·have:=all_getD h (j:=j) (by rw [List.length_take];omega)
     rwa [getD_get (by rw [List.length_take];omega),List.getElem_take,← getD_get (d:=0)] at this
    ·exact hall j h1 hj
   ·intro h
    refine all_of_getD fun j hj=>?_
    rw [List.length_take] at hj
    have:=all_getD h (j:=j) (by omega)
    rwa [getD_get (by rw [List.length_take];omega),List.getElem_take,← getD_get (d:=0)]

open Go Go.E

/-- A unit: what it holds, with the slices that hold it. -/
structure UnV where
 nm:Str
 pp:Int
 gv:Value
 gs:List Int
 vv:Value
 vs:List Int
 pv:Value
 ps:List Int
 wt:Bool
def u0:UnV:=⟨[],0,.slice none 0 0,[],.slice none 0 0,[],.slice none 0 0,[],false⟩
def UnV.cells (u:UnV):List Value:=[str u.nm,.int .i64 u.pp,u.gv,u.vv,u.pv,.bool u.wt]
def UnV.val (u:UnV):Value:=.agg u.cells.toArray
structure UnV.ok (lo:Nat) (w:World) (u:UnV):Prop where
 g:Ints .i64 lo w u.gv u.gs
 v:Ints .i64 lo w u.vv u.vs
 p:Ints .i64 lo w u.pv u.ps
 n:u.nm.length≤9223372036854775807
theorem UnV.ok.keep {lo:Nat} {w w':World} {u:UnV} (h:u.ok lo w) (k:Keep lo w w'):u.ok lo w':=⟨h.g.keep k,h.v.keep k,h.p.keep k,h.n⟩
theorem UnV.ok.mono {lo lo':Nat} {w:World} {u:UnV} (h:u.ok lo w) (hl:lo'≤lo):u.ok lo' w:=⟨h.g.mono hl,h.v.mono hl,h.p.mono hl,h.n⟩
theorem UnV.cells_len (u:UnV):u.cells.length=6:=rfl
def ucells (us:List UnV):List Value:=(us.map UnV.cells).flatten
theorem ucells_append (us vs:List UnV):ucells (us++vs)=ucells us++ucells vs:=by simp [ucells]
theorem ucells_one (u:UnV):ucells [u]=u.cells:=by simp [ucells]
theorem ucells_take:∀ (us:List UnV) (n:Nat),(ucells us).take (n*6)=ucells (us.take n)
 | [],n=>by simp [ucells]
 | u::r,0=>by simp [ucells]
 | u::r,n+1=>by
  have:=ucells_take r n
  simp only [ucells,List.map_cons,List.flatten_cons,List.take_succ_cons] at this ⊢
  rw [show (n+1)*6=u.cells.length+n*6 by rw [u.cells_len];omega,List.take_length_add_append,this]
theorem ucells_oneCell {lo:Nat} {w:World} {us:List UnV} (h:∀ u∈us,u.ok lo w):∀ c∈ucells us,c.oneCell'=true:=fun c hc=>by
 obtain ⟨l,hl,hc2⟩:=List.mem_flatten.1 hc
 obtain ⟨u,hu,rfl⟩:=List.mem_map.1 hl
 have ho:=h u hu
 simp only [UnV.cells,List.mem_cons,List.mem_nil_iff,or_false] at hc2
 rcases hc2 with rfl|rfl|rfl|rfl|rfl|rfl
 ·rfl
 ·rfl
 ·exact Sl.one ho.g
 ·exact Sl.one ho.v
 ·exact Sl.one ho.p
 ·rfl
theorem UnV.ok.one {lo:Nat} {w:World} {u:UnV} (h:u.ok lo w):∀ c∈u.cells,c.oneCell'=true:=fun c hc=>ucells_oneCell (us:=[u]) (fun x hx=>by rw [List.mem_singleton.1 hx];exact h) c (by rw [ucells_one];exact hc)
structure Units (lo:Nat) (w:World) (v:Value) (us:List UnV):Prop where
 sl:Sl lo w v us.length 6 (ucells us)
 ok:∀ u∈us,u.ok lo w
theorem Units.keep {lo:Nat} {w w':World} {v:Value} {us:List UnV} (h:Units lo w v us) (k:Keep lo w w'):Units lo w' v us:=⟨h.sl.keep k,fun u hu=>(h.ok u hu).keep k⟩
theorem Units.mono {lo lo':Nat} {w:World} {v:Value} {us:List UnV} (h:Units lo w v us) (hl:lo'≤lo):Units lo' w v us:=⟨h.sl.mono hl,fun u hu=>(h.ok u hu).mono hl⟩
theorem Units.row {lo:Nat} {w:World} {v:Value} {us:List UnV} (h:Units lo w v us) {i:Nat} (hi:i<us.length):Row w ((sAddr v).add ((i:Int).toNat*6)) (us.getD i u0).cells:=by
 rw [Int.toNat_natCast]
 refine Sl.elem h.sl (fun c hc=>?_) (i:=i) ?_ (by omega)
 ·obtain ⟨u,_,rfl⟩:=List.mem_map.1 hc;rfl
 ·simp [List.getD,hi]
theorem Units.at {lo:Nat} {w:World} {v:Value} {us:List UnV} (h:Units lo w v us) {i:Nat} (hi:i<us.length):(us.getD i u0).ok lo w:=h.ok _ (by rw [getD_get hi];exact List.getElem_mem hi)
structure RoV where
 G:Int
 P:Int
 L:Int
 uv:Value
 us:List UnV
def RoV.cells (r:RoV):List Value:=[.int .i64 r.G,.int .i64 r.P,.int .i64 r.L,r.uv]
def RoV.val (r:RoV):Value:=.agg r.cells.toArray
def RoV.ok (lo:Nat) (w:World) (r:RoV):Prop:=Units lo w r.uv r.us
theorem RoV.ok.keep {lo:Nat} {w w':World} {r:RoV} (h:r.ok lo w) (k:Keep lo w w'):r.ok lo w':=Units.keep h k
theorem RoV.ok.ext {lo:Nat} {w w':World} {r:RoV} (h:r.ok lo w) (k:Ext w w'):r.ok lo w':=Units.keep h (k.mono (Nat.zero_le _))
theorem UnV.ok.ext {lo:Nat} {w w':World} {u:UnV} (h:u.ok lo w) (k:Ext w w'):u.ok lo w':=h.keep (k.mono (Nat.zero_le _))
theorem Units.ext {lo:Nat} {w w':World} {v:Value} {us:List UnV} (h:Units lo w v us) (k:Ext w w'):Units lo w' v us:=h.keep (k.mono (Nat.zero_le _))
/-- A unit that is valid, alone. -/
def votesMax (u:UnV):Int:=if u.wt then 0 else 1000000000
def parMax (u:UnV):Int:=if u.wt then 0 else 63
def rightBs (r:RoV) (u:UnV):List Bool:=[!decide (u.nm = []),decide ((u.nm.length:Int)≤12),u.nm.all goodC,decide (0≤u.pp),decide (u.pp≤votesMax u),withinOk u.gs r.G u.pp,withinOk u.vs r.P (votesMax u),withinOk u.ps r.L (parMax u)]
def rightOk (r:RoV) (u:UnV):Bool:=(rightBs r u).all id
theorem bools_of_blk {w:World} {b lo:Nat} {bs:List Bool} {t:TypeId} {n:Nat} (h:Blk w b (bs.map Value.bool) t) (hn:bs.length=n) (hm:n≤maxLen) (hlo:lo≤b):Bools lo w (.slice (some ⟨b,0,none⟩) n n) bs:=by
 subst hn;exact Sl.of_blk h (by simp) (Nat.le_refl _) hm hlo
def Trimmed (s:Str) (v:Value) (w:World):Prop:=∃ t,v=str t∧(t = []↔s.all goodC=true)
theorem Trimmed.st {s:Str} : ∀ v w w',Ext w w'→Trimmed s v w→Trimmed s v w':=fun _ _ _ _ h=>h
theorem right_calls (lo:Nat) (r:RoV) (u:UnV) (w:World) (hu:u.ok lo w) :
  Calls Tryz.prog 80 #[r.val,u.val] w (Ret fun v w'=>v = .bool (rightOk r u)∧Ext w w'):=by
 refine T.enter (vs:=[r.val,u.val]) func80 rfl ntmps80 rfl ?_
 refine T.q (L.o (O.box rfl (fun b1 w1 hb1 hz1 he1 hB1=>?_)))
 refine L.o (O.box rfl (fun b2 w2 hb2 hz2 he2 hB2=>?_))
 have he02:=he1.trans he2
 have hC1:Blk w2 b1 r.cells _:=hB1.ext he2
 have hC2:Blk w2 b2 u.cells _:=hB2
 refine L.a rfl (L.nil (T.q (L.a rfl (L.a rfl (L.nil (T.seq (T.q (L.o (O.fieldAddr runUnderlying51 rfl sizeOf4 rfl (L.o (O.load isAgg4 rfl (hC2.cell rfl) (?_))))))))))))
 have hu2:=hu.ext he02
 refine L.nil (?_)
 refine T.join (σ:=Unit) (fun _=>[(2,.pointer (some ⟨b1,0,none⟩)),(3,.pointer (some ⟨b2,0,none⟩)),(5,.int .i64 (votesMax u)),(6,.int .i64 (parMax u))]) (fun _ w'=>w'=w2) ?_ ?_
 ·have hq:u.wt=u.wt:=rfl
  rcases hwt:u.wt with _|_
  ·refine T.cf (T.skip (T.meet (()) ⟨rfl,rfl,?_,?_,trivial⟩ rfl))
   ·rw [votesMax,hwt];rfl
   ·rw [parMax,hwt];rfl
  ·refine T.ct (T.region (L.a rfl (L.a rfl (L.nil (T.meet (()) ⟨rfl,rfl,?_,?_,trivial⟩ rfl)))))
   ·rw [votesMax,hwt];rfl
   ·rw [parMax,hwt];rfl
 rintro _ w3 rfl
 refine T.seq (?_)
 refine T.anyE mixed 37 [3,5,2,6] rfl (.is _ :: .is _ :: .is _ :: .is _ :: .is _ :: .is _ :: .is _ :: .is _ :: .is _ :: .such (Trimmed u.nm) :: .is (.bool (u.nm.all goodC)) :: .is _ :: .is _ :: .is _ :: .is _ :: .is _ :: .is _ :: .is _ :: .is _ :: .is _ :: .is _ :: .is _ :: .is _ :: .is _ :: .is (.bool (withinOk u.gs r.G u.pp)) :: .is _ :: .is _ :: .is _ :: .is _ :: .is _ :: .is (.bool (withinOk u.vs r.P (votesMax u))) :: .is _ :: .is _ :: .is _ :: .is _ :: .is _ :: .is (.bool (withinOk u.ps r.L (parMax u))) :: []) ([] :: [0] :: [1] :: [] :: [3] :: [4] :: [5] :: [] :: [7] :: [8] :: [9] :: [] :: [11] :: [12] :: [] :: [14] :: [] :: [15,16] :: [] :: [18] :: [] :: [20] :: [] :: [22] :: [19,21,23] :: [] :: [25] :: [] :: [27] :: [] :: [26,28,29] :: [] :: [31] :: [] :: [33] :: [] :: [32,34,35] :: []) ([] :: [0] :: [0,1] :: [] :: [3] :: [3,4] :: [3,4,5] :: [] :: [7] :: [7,8] :: [7,8,9] :: [] :: [11] :: [11,12] :: [] :: [14] :: [] :: [14,15,16] :: [] :: [18] :: [] :: [20] :: [] :: [22] :: [7,8,9,18,19,20,21,22,23] :: [] :: [25] :: [] :: [27] :: [] :: [7,8,9,18,19,20,21,22,23,24,25,26,27,28,29] :: [] :: [31] :: [] :: [33] :: [] :: [7,8,9,18,19,20,21,22,23,24,25,26,27,28,29,30,31,32,33,34,35]::(0::1::2::3::4::5::6::7::8::9::10::11::12::13::14::15::16::17::18::19::20::21::22::23::24::25::26::27::28::29::30::31::32::33::34::35::36 :: [])::(0::1::2::3::4::5::6::7::8::9::10::11::12::13::14::15::16::17::18::19::20::21::22::23::24::25::26::27::28::29::30::31::32::33::34::35::36::37 :: [])::(0::1::2::3::4::5::6::7::8::9::10::11::12::13::14::15::16::17::18::19::20::21::22::23::24::25::26::27::28::29::30::31::32::33::34::35::36::37::38 :: []) :: []) (by kernel_rfl) (by kernel_rfl) rfl (by kernel_rfl) ⟨Trimmed.st,trivial⟩ ⟨fun wx hx=>Ob.o (O.fieldAddr runUnderlying51 rfl sizeOf9 rfl kR),
   fun wx hx=>Ob.o (O.load isAgg9 rfl ((hC2.ext hx).cell rfl) kR),
   fun wx hx=>Ob.o (O.neq_str runUnderlying9 rfl rfl kR),
   fun wx hx=>Ob.o (O.fieldAddr runUnderlying51 rfl sizeOf9 rfl kR),
   fun wx hx=>Ob.o (O.load isAgg9 rfl ((hC2.ext hx).cell rfl) kR),
   fun wx hx=>Ob.o (O.len_str runUnderlying9 rfl kR),
   fun wx hx=>Ob.o (O.leq rfl rfl kR),
   fun wx hx=>Ob.o (O.fieldAddr runUnderlying51 rfl sizeOf9 rfl kR),
   fun wx hx=>Ob.o (O.load isAgg9 rfl ((hC2.ext hx).cell rfl) kR),
   fun wx hx=>Ob.o (O.call (xs:=[.tmp 17,_]) call136 rfl rfl (trim_calls u.nm wx hu.n) (fun v wy h=>⟨h.1,h.2⟩)),
   fun wx hx v18 hv18=>by { obtain ⟨t,rfl,ht⟩:=hv18;exact Ob.o (O.eql_str runUnderlying9 rfl rfl ⟨Keep.refl _ _,by rw [show decide (t = [])=u.nm.all goodC from by rw [Bool.eq_iff_iff,decide_eq_true_eq];exact ht];rfl⟩) },
   fun wx hx=>Ob.o (O.fieldAddr runUnderlying51 rfl sizeOf3 rfl kR),
   fun wx hx=>Ob.o (O.load isAgg3 rfl ((hC2.ext hx).cell rfl) kR),
   fun wx hx=>Ob.o (O.geq rfl rfl kR),
   fun wx hx=>Ob.o (O.fieldAddr runUnderlying51 rfl sizeOf3 rfl kR),
   fun wx hx=>Ob.o (O.load isAgg3 rfl ((hC2.ext hx).cell rfl) kR),
   fun wx hx=>Ob.o (O.move rfl kR),
   fun wx hx=>Ob.o (O.leq rfl rfl kR),
   fun wx hx=>Ob.o (O.fieldAddr runUnderlying51 rfl sizeOf30 rfl kR),
   fun wx hx=>Ob.o (O.load isAgg30 rfl ((hC2.ext hx).cell rfl) kR),
   fun wx hx=>Ob.o (O.fieldAddr runUnderlying25 rfl sizeOf3 rfl kR),
   fun wx hx=>Ob.o (O.load isAgg3 rfl ((hC1.ext hx).cell rfl) kR),
   fun wx hx=>Ob.o (O.fieldAddr runUnderlying51 rfl sizeOf3 rfl kR),
   fun wx hx=>Ob.o (O.load isAgg3 rfl ((hC2.ext hx).cell rfl) kR),
   fun wx hx=>Ob.o (O.call (xs:=[.tmp 28,.tmp 30,.tmp 32]) call137 rfl rfl (within_calls lo u.gv u.gs r.G u.pp wx (hu2.g.ext hx)) (fun v wy h=>⟨h.2,h.1⟩)),
   fun wx hx=>Ob.o (O.fieldAddr runUnderlying51 rfl sizeOf30 rfl kR),
   fun wx hx=>Ob.o (O.load isAgg30 rfl ((hC2.ext hx).cell rfl) kR),
   fun wx hx=>Ob.o (O.fieldAddr runUnderlying25 rfl sizeOf3 rfl kR),
   fun wx hx=>Ob.o (O.load isAgg3 rfl ((hC1.ext hx).cell rfl) kR),
   fun wx hx=>Ob.o (O.move rfl kR),
   fun wx hx=>Ob.o (O.call (xs:=[.tmp 35,.tmp 37,.tmp 38]) call137 rfl rfl (within_calls lo u.vv u.vs r.P (votesMax u) wx (hu2.v.ext hx)) (fun v wy h=>⟨h.2,h.1⟩)),
   fun wx hx=>Ob.o (O.fieldAddr runUnderlying51 rfl sizeOf30 rfl kR),
   fun wx hx=>Ob.o (O.load isAgg30 rfl ((hC2.ext hx).cell rfl) kR),
   fun wx hx=>Ob.o (O.fieldAddr runUnderlying25 rfl sizeOf3 rfl kR),
   fun wx hx=>Ob.o (O.load isAgg3 rfl ((hC1.ext hx).cell rfl) kR),
   fun wx hx=>Ob.o (O.move rfl kR),
   fun wx hx=>Ob.o (O.call (xs:=[.tmp 41,.tmp 43,.tmp 44]) call137 rfl rfl (within_calls lo u.pv u.ps r.L (parMax u) wx (hu2.p.ext hx)) (fun v wy h=>⟨h.2,h.1⟩)),
   trivial⟩ (fun w4 he4 v18 hv18=>?_)
 refine L.o (O.buildSlice (el:=4) (parts:=[(0,.tmp 11),(1,.tmp 15),(2,.tmp 19),(3,.tmp 22),(4,.tmp 26),(5,.tmp 33),(6,.tmp 39),(7,.tmp 45)]) (vs:=[(0,_),(1,_),(2,_),(3,_),(4,_),(5,_),(6,_),(7,_)]) (cs:=((rightBs r u).map Value.bool)) rfl (fun w=>by kernel_rfl) (fun b5 w5 hb5 hz5 he5 hB5=>?_))
 refine L.o (O.call (xs:=[.tmp 46]) call79 rfl rfl (every_calls 0 _ (rightBs r u) w5 (bools_of_blk hB5 rfl (by decide) (Nat.zero_le _))) (fun v6 w6 hq=>?_))
 obtain ⟨rfl,rfl⟩:=hq
 refine L.a rfl (L.nil (T.ret1 results80 rfl ⟨rfl,(he02.trans he4).trans he5⟩))

open Go Go.E

theorem right_iff {r:RoV} {u:UnV} : rightOk r u=true↔nameOk u.nm=true∧0≤u.pp∧u.pp≤votesMax u∧withinOk u.gs r.G u.pp=true∧withinOk u.vs r.P (votesMax u)=true∧withinOk u.ps r.L (parMax u)=true:=by
 have hl:(¬ u.nm = []∧(u.nm.length:Int)≤12∧u.nm.all goodC=true)↔nameOk u.nm=true:=by
  simp only [nameOk,Bool.and_eq_true,decide_eq_true_eq]
  have:u.nm = []↔u.nm.length=0:=List.length_eq_zero_iff.symm
  rw [this]
  constructor
  ·rintro ⟨h1,h2,h3⟩;exact ⟨h3,by omega,by omega⟩
  ·rintro ⟨h1,h2,h3⟩;exact ⟨by omega,by omega,h1⟩
 rw [← hl]
 simp only [rightOk,rightBs,List.all_cons,List.all_nil,id,Bool.and_eq_true,decide_eq_true_eq,Bool.not_eq_true',decide_eq_false_iff_not,and_true,and_assoc]
open Go Go.E

def bndBs (r:RoV):List Bool:=[decide (0≤r.G),decide (r.G≤6),decide (0≤r.P),decide (r.P≤12),decide (0≤r.L),decide (r.L≤3),decide (0<(r.us.length:Int)),decide ((r.us.length:Int)≤64)]
theorem bnd_iff {r:RoV} : (bndBs r).all id=true↔0≤r.G∧r.G≤6∧0≤r.P∧r.P≤12∧0≤r.L∧r.L≤3∧0<(r.us.length:Int)∧(r.us.length:Int)≤64:=by
 simp only [bndBs,List.all_cons,List.all_nil,id,Bool.and_eq_true,decide_eq_true_eq,and_true]
/-- Unit j is as it should be beside those ahead of it. -/
structure GoodAt (r:RoV) (j:Nat):Prop where
 right:rightOk r (r.us.getD j u0)=true
 name:∀ k,k<j→(r.us.getD k u0).nm≠(r.us.getD j u0).nm
 water:∀ k,k<j→(r.us.getD k u0).wt=true→(r.us.getD j u0).wt=true
 first:j=0→(r.us.getD j u0).wt=false
structure RollOk (r:RoV):Prop where
 bnd:(bndBs r).all id=true
 good:∀ j,j<r.us.length→GoodAt r j
noncomputable def rollErr (r:RoV):Int:=@ite _ (RollOk r) (Classical.propDecidable _) 0 161
theorem rollErr_ok {r:RoV} (h:RollOk r):rollErr r=0:=by unfold rollErr;exact if_pos h
theorem rollErr_no {r:RoV} (h:¬ RollOk r):rollErr r=161:=by unfold rollErr;exact if_neg h
theorem good_le {r:RoV} {i:Nat} (h:∀ j,j<i→GoodAt r j) (hi:GoodAt r i):∀ j,j<i+1→GoodAt r j:=fun j hj=>by
 by_cases e:j=i
 ·subst e;exact hi
 ·exact h j (by omega)
/-- Whether the unit ahead is water. -/
def prevW (us:List UnV):Nat→Bool
 | 0=>false
 | i+1=>(us.getD i u0).wt
/-- The names of the units ahead. -/
def NamesAt (us:List UnV) (i:Nat) (kvs:List (Str × Bool)):Prop:=∀ s,(getG kvs s).getD false=true↔∃ k,k<i∧(us.getD k u0).nm=s
theorem NamesAt.zero (us:List UnV):NamesAt us 0 []:=fun s=>⟨fun h=>(by cases h),fun ⟨k,hk,_⟩=>absurd hk (Nat.not_lt_zero _)⟩
theorem NamesAt.step {us:List UnV} {i:Nat} {kvs:List (Str × Bool)} (h:NamesAt us i kvs):NamesAt us (i+1) (putG kvs (us.getD i u0).nm true):=fun s=>by
 rw [getG_put]
 by_cases hs:s=(us.getD i u0).nm
 ·rw [if_pos hs];exact ⟨fun _=>⟨i,by omega,hs.symm⟩,fun _=>rfl⟩
 ·rw [if_neg hs,h s]
  constructor
  ·rintro ⟨k,hk,e⟩;exact ⟨k,by omega,e⟩
  ·rintro ⟨k,hk,e⟩
   refine ⟨k,?_,e⟩
   by_cases hki:k=i
   ·subst hki;exact absurd e.symm hs
   ·omega
/-- What the program asks of a unit. -/
def askBs (r:RoV) (i:Nat) (kvs:List (Str × Bool)):List Bool:=[rightOk r (r.us.getD i u0),!(getG kvs (r.us.getD i u0).nm).getD false,(r.us.getD i u0).wt || !prevW r.us i,decide (0<(i:Int)) || !(r.us.getD i u0).wt]
theorem ask_iff {r:RoV} {i:Nat} {kvs:List (Str × Bool)} (hn:NamesAt r.us i kvs) (h:∀ j,j<i→GoodAt r j):(askBs r i kvs).all id=true↔GoodAt r i:=by
 simp only [askBs,List.all_cons,List.all_nil,id,Bool.and_eq_true,and_true,Bool.not_eq_true',Bool.or_eq_true,decide_eq_true_eq]
 have hnm:(getG kvs (r.us.getD i u0).nm).getD false=false↔∀ k,k<i→(r.us.getD k u0).nm≠(r.us.getD i u0).nm:=by
  rw [← Bool.not_eq_true,hn]
  constructor
  ·intro h1 k hk e;exact h1 ⟨k,hk,e⟩
  ·rintro h1 ⟨k,hk,e⟩;exact h1 k hk e
 rw [hnm]
 constructor
 ·rintro ⟨h1,h2,h3,h4⟩
  refine ⟨h1,h2,fun k hk hw=>?_,fun e=>?_⟩
  ·rcases h3 with h3|h3
   ·exact h3
   ·cases i with
    | zero=>omega
    | succ i =>
     have hp:(r.us.getD i u0).wt=false:=h3
     by_cases e:k=i
     ·subst e;rw [hp] at hw;cases hw
     ·have:=(h i (by omega)).water k (by omega) hw
      rw [hp] at this;cases this
  ·rcases h4 with h4|h4
   ·omega
   ·exact h4
 ·rintro ⟨h1,h2,h3,h4⟩
  refine ⟨h1,h2,?_,?_⟩
  ·cases i with
   | zero=>right;rfl
   | succ i =>
    cases hp:(r.us.getD i u0).wt
    ·right;exact hp
    ·left;exact h3 i (by omega) hp
  ·by_cases e:i=0
   ·right;exact h4 e
   ·left;omega
theorem CheckRoll_calls (lo:Nat) (r:RoV) (w:World) (hr:r.ok lo w) :
  Calls Tryz.prog 32 #[r.val] w (Ret fun v w'=>v = .int .i64 (rollErr r)∧Ext w w'):=by
 refine T.enter (vs:=[r.val]) func32 rfl ntmps32 rfl ?_
 refine T.q (L.o (O.box rfl (fun b1 w1 hb1 hz1 he1 hB1=>?_)))
 have hC1:Blk w1 b1 r.cells _:=hB1
 have hU1:Units lo w1 r.uv r.us:=hr.ext he1
 have hle:=Sl.le hU1.sl
 refine L.a rfl (L.nil (T.q (L.o (O.fieldAddr runUnderlying25 rfl sizeOf23 rfl (L.o (O.load isAgg23 rfl (hC1.cell rfl) (L.o (O.len runUnderlying23 rfl (Sl.val hU1.sl) (L.a rfl (L.nil (T.seq (T.q (L.o (O.fieldAddr runUnderlying25 rfl sizeOf3 rfl (L.o (O.load isAgg3 rfl (hC1.cell rfl) (L.o (O.geq rfl rfl (L.o (O.fieldAddr runUnderlying25 rfl sizeOf3 rfl (L.o (O.load isAgg3 rfl (hC1.cell rfl) (L.o (O.leq rfl rfl (L.o (O.fieldAddr runUnderlying25 rfl sizeOf3 rfl (L.o (O.load isAgg3 rfl (hC1.cell rfl) (L.o (O.geq rfl rfl (L.o (O.fieldAddr runUnderlying25 rfl sizeOf3 rfl (L.o (O.load isAgg3 rfl (hC1.cell rfl) (L.o (O.leq rfl rfl (?_)))))))))))))))))))))))))))))))))))))
 refine L.o (O.fieldAddr runUnderlying25 rfl sizeOf3 rfl (L.o (O.load isAgg3 rfl (hC1.cell rfl) (L.o (O.geq rfl rfl (L.o (O.fieldAddr runUnderlying25 rfl sizeOf3 rfl (L.o (O.load isAgg3 rfl (hC1.cell rfl) (L.o (O.leq rfl rfl (L.m rfl (L.o (O.gtr rfl rfl (L.m rfl (L.o (O.leq rfl rfl (L.o (O.buildSlice (el:=4) (parts:=[(0,.tmp 13),(1,.tmp 16),(2,.tmp 19),(3,.tmp 22),(4,.tmp 25),(5,.tmp 28),(6,.tmp 30),(7,.tmp 32)]) (vs:=[(0,_),(1,_),(2,_),(3,_),(4,_),(5,_),(6,_),(7,_)]) (cs:=((bndBs r).map Value.bool)) rfl (fun w=>by kernel_rfl) (fun b2 w2 hb2 hz2 he2 hB2=>?_))))))))))))))))))))
 refine L.o (O.call (xs:=[.tmp 33]) call79 rfl rfl (every_calls 0 _ (bndBs r) w2 (bools_of_blk hB2 rfl (by decide) (Nat.zero_le _))) (fun v3 w3 hq=>?_))
 obtain ⟨rfl,rfl⟩:=hq
 cases hb:(bndBs r).all id
 ·refine L.o (O.not rfl (L.nil (T.ct (T.q (L.a rfl (L.nil (T.ret1 results32 rfl ⟨by rw [rollErr_no (fun h=>by have:=h.bnd;rw [hb] at this;cases this)],he1.trans he2⟩)))))))
 ·refine L.o (O.not rfl (L.nil (T.cf (T.skip (T.q (L.o (O.makeMapG (kf:=str) (vf:=Value.bool) (fun b4 w4 hb4 hz4 he4 hM4=>?_))))))))
  have he04:=(he1.trans he2).trans he4
  have hU4:Units lo w4 r.uv r.us:=hr.ext he04
  refine L.a rfl (L.nil (T.q (L.a rfl (L.nil (T.seq (T.q (L.o (O.fieldAddr runUnderlying25 rfl sizeOf23 rfl (L.o (O.load isAgg23 rfl ((hC1.ext (he2.trans he4)).cell rfl) (L.o (O.len runUnderlying23 rfl (Sl.val hU4.sl) (L.m rfl (L.nil (T.block (?_))))))))))))))))
  refine T.loop (σ:=Nat × List (Str × Bool)) (fun s=>[(1,.pointer (some ⟨b1,0,none⟩)),(4,.map (some b4)),(5,.bool (prevW r.us s.1)),(38,r.uv),(39,.int .i64 r.us.length),(40,.int .i64 s.1)]) (fun s w'=>s.1≤r.us.length∧Ext w w'∧w4.heap.size≤w'.heap.size∧Blk w' b1 r.cells 25∧MapG str Value.bool w' b4 s.2∧NamesAt r.us s.1 s.2∧∀ j,j<s.1→GoodAt r j) (fun s=>r.us.length-s.1) ((0,[])) ⟨rfl,rfl,rfl,rfl,rfl,rfl,trivial⟩ ⟨Nat.zero_le _,he04,Nat.le_refl _,hC1.ext (he2.trans he4),hM4,NamesAt.zero _,fun j hj=>absurd hj (Nat.not_lt_zero _)⟩ ?_
  rintro ⟨i,kvs⟩ w5 ⟨hi,he5,hz5,hC5,hM5,hN5,hG5⟩
  have hs4:w.heap.size≤b4:=by have h1:=(he1.trans he2).size;omega
  have hU5:Units lo w5 r.uv r.us:=hr.ext he5
  refine T.q (L.o (O.lss_s rfl rfl (fun hlt=>?_) (fun hlt=>?_)))
  ·refine L.nil (?_)
   have hlt':i<r.us.length:=by simpa using hlt
   refine T.seq (T.ct (T.skip (T.seq (T.block (T.q (L.m rfl (L.o (O.indexAddr runUnderlying23 sizeOf51 rfl rfl hU5.sl (by omega) (by omega) (L.o (O.loadAgg isAgg51 sizeOf51 rfl rfl (hU5.row hlt') (L.o (O.alloc zeroValue51 (fun b6 w6 hb6 hz6 he6 hB6=>?_)))))))))))))
   refine L.a rfl (L.o (O.storeAgg sizeOf51 rfl rfl rfl hB6 (Nat.le_refl _) (hU5.at hlt').one (fun w7 hu7 hB7=>?_)))
   have hB7':Blk w7 b6 (r.us.getD i u0).cells 51:=hB7
   have he57:Ext w5 w7:=he6.upd hu7 (.inr (by omega))
   have hC7:=hC5.ext he57
   have hM7:=hM5.ext he57
   have hk7:=(hU5.at hlt').ext he57
   rcases hwt:(r.us.getD i u0).wt with _|_
   ·refine L.nil (?_)
    by_cases hi0:0<(i:Int)
    ·have hBu:Blk w7 b6 [str (r.us.getD i u0).nm,.int .i64 (r.us.getD i u0).pp,(r.us.getD i u0).gv,(r.us.getD i u0).vv,(r.us.getD i u0).pv,.bool false] 51:=by rw [← hwt];exact hB7'
     refine T.seq (T.seq (?_))
     refine T.anyE mixed 21 [1,7,4,5,6] rfl [.is _,.is _,.is (.bool (rightOk r (r.us.getD i u0))),.is _,.is _,.is _,.is _,.is _,.is _,.is _,.is _,.is _,.is _,.is _,.is _,.is _,.is _,.is undef,.is undef,.is undef,.is _] [[],[],[0,1],[],[],[4],[3,5],[6],[],[8],[9],[10],[11,10],[10,12],[],[14],[15],[16],[17,16],[18,16],[16,19]] [[],[],[0,1],[],[],[4],[3,4,5],[3,4,5,6],[],[8],[0,1,2,8,9],[0,1,2,8,9,10],[0,1,2,8,9,10,11],[0,1,2,8,9,10,11,12],[],[14],[0,1,2,8,9,10,14,15],[0,1,2,8,9,10,14,15,16],[0,1,2,8,9,10,14,15,16,17],[0,1,2,8,9,10,14,15,16,17,18],[0,1,2,8,9,10,14,15,16,17,18,19],[0,1,2,3,4,5,6,7,8,9,10,11,12,13,14,15,16,17,18,19,20],[0,1,2,3,4,5,6,7,8,9,10,11,12,13,14,15,16,17,18,19,20,21],[0,1,2,3,4,5,6,7,8,9,10,11,12,13,14,15,16,17,18,19,20,21,22]] (by kernel_rfl) (by kernel_rfl) rfl (by kernel_rfl) trivial ⟨fun wx hx=>Ob.o (O.loadAgg isAgg25 sizeOf25 rfl rfl ((hC7.ext hx).row) kR),
       fun wx hx=>Ob.o (O.loadAgg isAgg51 sizeOf51 rfl rfl ((hB7'.ext hx).row) kR),
       fun wx hx=>Ob.o (O.call (xs:=[.tmp 45,.tmp 46]) call80 rfl rfl (right_calls lo r (r.us.getD i u0) wx (hk7.ext hx)) (fun v wy h=>⟨h.2,h.1⟩)),
       fun wx hx=>Ob.o (O.move rfl kR),
       fun wx hx=>Ob.o (O.fieldAddr runUnderlying51 rfl sizeOf9 rfl kR),
       fun wx hx=>Ob.o (O.load isAgg9 rfl ((hB7'.ext hx).cell rfl) kR),
       fun wx hx=>Ob.o (O.lookupG (kf:=str) (vf:=Value.bool) (z0:=false) key_str runUnderlying142 runUnderlying9 zeroValue4 rfl rfl (hM7.ext hx) kR),
       fun wx hx=>Ob.o (O.not rfl kR),
       fun wx hx=>Ob.o (O.fieldAddr runUnderlying51 rfl sizeOf4 rfl kR),
       fun wx hx=>Ob.o (O.load isAgg4 rfl ((hBu.ext hx).cell rfl) kR),
       fun wx hx=>Ob.o (O.move rfl kR),
       fun wx hx=>Ob.o (O.move rfl kR),
       fun wx hx=>Ob.o (O.not rfl kR),
       fun wx hx=>Ob.o (O.pick_false rfl rfl kR),
       fun wx hx=>Ob.o (O.move rfl kR),
       fun wx hx=>Ob.o (O.gtr_t rfl rfl hi0 kR),
       fun wx hx=>Ob.o (O.move rfl kR),
       fun wx hx=>Ob.pass rfl rfl,
       fun wx hx=>Ob.pass rfl rfl,
       fun wx hx=>Ob.pass rfl rfl,
       fun wx hx=>Ob.o (O.pick_true rfl rfl kR),
       trivial⟩ (fun w8 he8=>?_)
     have hask:askBs r i kvs = [rightOk r (r.us.getD i u0),!(getG kvs (r.us.getD i u0).nm).getD false,!prevW r.us i,true]:=by simp only [askBs,hwt];rw [decide_eq_true hi0];simp
     refine L.o (O.buildSlice (el:=4) (parts:=[(0,.tmp 47),(1,.tmp 52),(2,.tmp 58),(3,.tmp 65)]) (vs:=[(0,_),(1,_),(2,_),(3,_)]) (cs:=([rightOk r (r.us.getD i u0),!(getG kvs (r.us.getD i u0).nm).getD false,!prevW r.us i,true].map Value.bool)) rfl (fun w=>by kernel_rfl) (fun b9 w9 hb9 hz9 he9 hB9=>?_))
     rw [← hask] at hB9
     refine L.o (O.call (xs:=[.tmp 66]) call79 rfl rfl (every_calls 0 _ (askBs r i kvs) w9 (bools_of_blk hB9 rfl (by decide) (Nat.zero_le _))) (fun v10 w10 hq=>?_))
     obtain ⟨rfl,rfl⟩:=hq
     have he79:=he8.trans he9
     cases hok:(askBs r i kvs).all id
     ·refine L.o (O.not rfl (L.nil (T.ct (T.q (L.a rfl (L.nil (T.ret1 results32 rfl ⟨by rw [rollErr_no (fun h=>by have:=(ask_iff hN5 hG5).2 (h.good i hlt');rw [hok] at this;cases this)],(he5.trans he57).trans he79⟩)))))))
     ·refine L.o (O.not rfl (L.nil (T.cf (T.skip (T.q (L.m rfl (L.o (O.fieldAddr runUnderlying51 rfl sizeOf9 rfl (L.o (O.load isAgg9 rfl ((hB7'.ext he79).cell rfl) (L.o (O.mapUpdateG (kf:=str) (vf:=Value.bool) (v:=_) key_str runUnderlying142 runUnderlying9 rfl rfl rfl (hM7.ext he79) (fun w11 hu11 hM11=>?_)))))))))))))
      refine L.nil (T.region (L.o (O.fieldAddr runUnderlying51 rfl sizeOf4 rfl (L.o (O.load isAgg4 rfl (((hB7'.ext he79).upd hu11 (by have:=hM5.lt;omega)).cell rfl) (?_))))))
      have hz79:=he79.size
      refine L.a rfl (L.nil (T.blk (T.region (L.o (O.add64 rfl rfl (by omega) (L.m rfl (L.nil (T.again ((i+1,putG kvs (r.us.getD i u0).nm true)) (by omega) ⟨rfl,rfl,rfl,rfl,rfl,rfl,trivial⟩ ⟨hlt',((he5.trans he57).trans he79).upd hu11 (.inr hs4),by have:=he57.size;have:=hu11.size;omega,(hC7.ext he79).upd hu11 (by omega),hM11,hN5.step,good_le hG5 ((ask_iff hN5 hG5).1 hok)⟩))))))))
    ·have hBu:Blk w7 b6 [str (r.us.getD i u0).nm,.int .i64 (r.us.getD i u0).pp,(r.us.getD i u0).gv,(r.us.getD i u0).vv,(r.us.getD i u0).pv,.bool false] 51:=by rw [← hwt];exact hB7'
     refine T.seq (T.seq (?_))
     refine T.anyE mixed 21 [1,7,4,5,6] rfl [.is _,.is _,.is (.bool (rightOk r (r.us.getD i u0))),.is _,.is _,.is _,.is _,.is _,.is _,.is _,.is _,.is _,.is _,.is _,.is _,.is _,.is _,.is _,.is _,.is _,.is _] [[],[],[0,1],[],[],[4],[3,5],[6],[],[8],[9],[10],[11,10],[10,12],[],[14],[15],[16],[17,16],[18,16],[16,19]] [[],[],[0,1],[],[],[4],[3,4,5],[3,4,5,6],[],[8],[0,1,2,8,9],[0,1,2,8,9,10],[0,1,2,8,9,10,11],[0,1,2,8,9,10,11,12],[],[14],[0,1,2,8,9,10,14,15],[0,1,2,8,9,10,14,15,16],[0,1,2,8,9,10,14,15,16,17],[0,1,2,8,9,10,14,15,16,17,18],[0,1,2,8,9,10,14,15,16,17,18,19],[0,1,2,3,4,5,6,7,8,9,10,11,12,13,14,15,16,17,18,19,20],[0,1,2,3,4,5,6,7,8,9,10,11,12,13,14,15,16,17,18,19,20,21],[0,1,2,3,4,5,6,7,8,9,10,11,12,13,14,15,16,17,18,19,20,21,22]] (by kernel_rfl) (by kernel_rfl) rfl (by kernel_rfl) trivial ⟨fun wx hx=>Ob.o (O.loadAgg isAgg25 sizeOf25 rfl rfl ((hC7.ext hx).row) kR),
       fun wx hx=>Ob.o (O.loadAgg isAgg51 sizeOf51 rfl rfl ((hB7'.ext hx).row) kR),
       fun wx hx=>Ob.o (O.call (xs:=[.tmp 45,.tmp 46]) call80 rfl rfl (right_calls lo r (r.us.getD i u0) wx (hk7.ext hx)) (fun v wy h=>⟨h.2,h.1⟩)),
       fun wx hx=>Ob.o (O.move rfl kR),
       fun wx hx=>Ob.o (O.fieldAddr runUnderlying51 rfl sizeOf9 rfl kR),
       fun wx hx=>Ob.o (O.load isAgg9 rfl ((hB7'.ext hx).cell rfl) kR),
       fun wx hx=>Ob.o (O.lookupG (kf:=str) (vf:=Value.bool) (z0:=false) key_str runUnderlying142 runUnderlying9 zeroValue4 rfl rfl (hM7.ext hx) kR),
       fun wx hx=>Ob.o (O.not rfl kR),
       fun wx hx=>Ob.o (O.fieldAddr runUnderlying51 rfl sizeOf4 rfl kR),
       fun wx hx=>Ob.o (O.load isAgg4 rfl ((hBu.ext hx).cell rfl) kR),
       fun wx hx=>Ob.o (O.move rfl kR),
       fun wx hx=>Ob.o (O.move rfl kR),
       fun wx hx=>Ob.o (O.not rfl kR),
       fun wx hx=>Ob.o (O.pick_false rfl rfl kR),
       fun wx hx=>Ob.o (O.move rfl kR),
       fun wx hx=>Ob.o (O.gtr_f rfl rfl hi0 kR),
       fun wx hx=>Ob.o (O.move rfl kR),
       fun wx hx=>Ob.o (O.fieldAddr runUnderlying51 rfl sizeOf4 rfl kR),
       fun wx hx=>Ob.o (O.load isAgg4 rfl ((hBu.ext hx).cell rfl) kR),
       fun wx hx=>Ob.o (O.not rfl kR),
       fun wx hx=>Ob.o (O.pick_false rfl rfl kR),
       trivial⟩ (fun w8 he8=>?_)
     have hask:askBs r i kvs = [rightOk r (r.us.getD i u0),!(getG kvs (r.us.getD i u0).nm).getD false,!prevW r.us i,true]:=by simp only [askBs,hwt];rw [decide_eq_false hi0];simp
     refine L.o (O.buildSlice (el:=4) (parts:=[(0,.tmp 47),(1,.tmp 52),(2,.tmp 58),(3,.tmp 65)]) (vs:=[(0,_),(1,_),(2,_),(3,_)]) (cs:=([rightOk r (r.us.getD i u0),!(getG kvs (r.us.getD i u0).nm).getD false,!prevW r.us i,true].map Value.bool)) rfl (fun w=>by kernel_rfl) (fun b9 w9 hb9 hz9 he9 hB9=>?_))
     rw [← hask] at hB9
     refine L.o (O.call (xs:=[.tmp 66]) call79 rfl rfl (every_calls 0 _ (askBs r i kvs) w9 (bools_of_blk hB9 rfl (by decide) (Nat.zero_le _))) (fun v10 w10 hq=>?_))
     obtain ⟨rfl,rfl⟩:=hq
     have he79:=he8.trans he9
     cases hok:(askBs r i kvs).all id
     ·refine L.o (O.not rfl (L.nil (T.ct (T.q (L.a rfl (L.nil (T.ret1 results32 rfl ⟨by rw [rollErr_no (fun h=>by have:=(ask_iff hN5 hG5).2 (h.good i hlt');rw [hok] at this;cases this)],(he5.trans he57).trans he79⟩)))))))
     ·refine L.o (O.not rfl (L.nil (T.cf (T.skip (T.q (L.m rfl (L.o (O.fieldAddr runUnderlying51 rfl sizeOf9 rfl (L.o (O.load isAgg9 rfl ((hB7'.ext he79).cell rfl) (L.o (O.mapUpdateG (kf:=str) (vf:=Value.bool) (v:=_) key_str runUnderlying142 runUnderlying9 rfl rfl rfl (hM7.ext he79) (fun w11 hu11 hM11=>?_)))))))))))))
      refine L.nil (T.region (L.o (O.fieldAddr runUnderlying51 rfl sizeOf4 rfl (L.o (O.load isAgg4 rfl (((hB7'.ext he79).upd hu11 (by have:=hM5.lt;omega)).cell rfl) (?_))))))
      have hz79:=he79.size
      refine L.a rfl (L.nil (T.blk (T.region (L.o (O.add64 rfl rfl (by omega) (L.m rfl (L.nil (T.again ((i+1,putG kvs (r.us.getD i u0).nm true)) (by omega) ⟨rfl,rfl,rfl,rfl,rfl,rfl,trivial⟩ ⟨hlt',((he5.trans he57).trans he79).upd hu11 (.inr hs4),by have:=he57.size;have:=hu11.size;omega,(hC7.ext he79).upd hu11 (by omega),hM11,hN5.step,good_le hG5 ((ask_iff hN5 hG5).1 hok)⟩))))))))
   ·refine L.nil (?_)
    by_cases hi0:0<(i:Int)
    ·have hBu:Blk w7 b6 [str (r.us.getD i u0).nm,.int .i64 (r.us.getD i u0).pp,(r.us.getD i u0).gv,(r.us.getD i u0).vv,(r.us.getD i u0).pv,.bool true] 51:=by rw [← hwt];exact hB7'
     refine T.seq (T.seq (?_))
     refine T.anyE mixed 21 [1,7,4,5,6] rfl [.is _,.is _,.is (.bool (rightOk r (r.us.getD i u0))),.is _,.is _,.is _,.is _,.is _,.is _,.is _,.is _,.is undef,.is undef,.is _,.is _,.is _,.is _,.is undef,.is undef,.is undef,.is _] [[],[],[0,1],[],[],[4],[3,5],[6],[],[8],[9],[10],[11,10],[10,12],[],[14],[15],[16],[17,16],[18,16],[16,19]] [[],[],[0,1],[],[],[4],[3,4,5],[3,4,5,6],[],[8],[0,1,2,8,9],[0,1,2,8,9,10],[0,1,2,8,9,10,11],[0,1,2,8,9,10,11,12],[],[14],[0,1,2,8,9,10,14,15],[0,1,2,8,9,10,14,15,16],[0,1,2,8,9,10,14,15,16,17],[0,1,2,8,9,10,14,15,16,17,18],[0,1,2,8,9,10,14,15,16,17,18,19],[0,1,2,3,4,5,6,7,8,9,10,11,12,13,14,15,16,17,18,19,20],[0,1,2,3,4,5,6,7,8,9,10,11,12,13,14,15,16,17,18,19,20,21],[0,1,2,3,4,5,6,7,8,9,10,11,12,13,14,15,16,17,18,19,20,21,22]] (by kernel_rfl) (by kernel_rfl) rfl (by kernel_rfl) trivial ⟨fun wx hx=>Ob.o (O.loadAgg isAgg25 sizeOf25 rfl rfl ((hC7.ext hx).row) kR),
       fun wx hx=>Ob.o (O.loadAgg isAgg51 sizeOf51 rfl rfl ((hB7'.ext hx).row) kR),
       fun wx hx=>Ob.o (O.call (xs:=[.tmp 45,.tmp 46]) call80 rfl rfl (right_calls lo r (r.us.getD i u0) wx (hk7.ext hx)) (fun v wy h=>⟨h.2,h.1⟩)),
       fun wx hx=>Ob.o (O.move rfl kR),
       fun wx hx=>Ob.o (O.fieldAddr runUnderlying51 rfl sizeOf9 rfl kR),
       fun wx hx=>Ob.o (O.load isAgg9 rfl ((hB7'.ext hx).cell rfl) kR),
       fun wx hx=>Ob.o (O.lookupG (kf:=str) (vf:=Value.bool) (z0:=false) key_str runUnderlying142 runUnderlying9 zeroValue4 rfl rfl (hM7.ext hx) kR),
       fun wx hx=>Ob.o (O.not rfl kR),
       fun wx hx=>Ob.o (O.fieldAddr runUnderlying51 rfl sizeOf4 rfl kR),
       fun wx hx=>Ob.o (O.load isAgg4 rfl ((hBu.ext hx).cell rfl) kR),
       fun wx hx=>Ob.o (O.move rfl kR),
       fun wx hx=>Ob.pass rfl rfl,
       fun wx hx=>Ob.pass rfl rfl,
       fun wx hx=>Ob.o (O.pick_true rfl rfl kR),
       fun wx hx=>Ob.o (O.move rfl kR),
       fun wx hx=>Ob.o (O.gtr_t rfl rfl hi0 kR),
       fun wx hx=>Ob.o (O.move rfl kR),
       fun wx hx=>Ob.pass rfl rfl,
       fun wx hx=>Ob.pass rfl rfl,
       fun wx hx=>Ob.pass rfl rfl,
       fun wx hx=>Ob.o (O.pick_true rfl rfl kR),
       trivial⟩ (fun w8 he8=>?_)
     have hask:askBs r i kvs = [rightOk r (r.us.getD i u0),!(getG kvs (r.us.getD i u0).nm).getD false,true,true]:=by simp only [askBs,hwt];rw [decide_eq_true hi0];simp
     refine L.o (O.buildSlice (el:=4) (parts:=[(0,.tmp 47),(1,.tmp 52),(2,.tmp 58),(3,.tmp 65)]) (vs:=[(0,_),(1,_),(2,_),(3,_)]) (cs:=([rightOk r (r.us.getD i u0),!(getG kvs (r.us.getD i u0).nm).getD false,true,true].map Value.bool)) rfl (fun w=>by kernel_rfl) (fun b9 w9 hb9 hz9 he9 hB9=>?_))
     rw [← hask] at hB9
     refine L.o (O.call (xs:=[.tmp 66]) call79 rfl rfl (every_calls 0 _ (askBs r i kvs) w9 (bools_of_blk hB9 rfl (by decide) (Nat.zero_le _))) (fun v10 w10 hq=>?_))
     obtain ⟨rfl,rfl⟩:=hq
     have he79:=he8.trans he9
     cases hok:(askBs r i kvs).all id
     ·refine L.o (O.not rfl (L.nil (T.ct (T.q (L.a rfl (L.nil (T.ret1 results32 rfl ⟨by rw [rollErr_no (fun h=>by have:=(ask_iff hN5 hG5).2 (h.good i hlt');rw [hok] at this;cases this)],(he5.trans he57).trans he79⟩)))))))
     ·refine L.o (O.not rfl (L.nil (T.cf (T.skip (T.q (L.m rfl (L.o (O.fieldAddr runUnderlying51 rfl sizeOf9 rfl (L.o (O.load isAgg9 rfl ((hB7'.ext he79).cell rfl) (L.o (O.mapUpdateG (kf:=str) (vf:=Value.bool) (v:=_) key_str runUnderlying142 runUnderlying9 rfl rfl rfl (hM7.ext he79) (fun w11 hu11 hM11=>?_)))))))))))))
      refine L.nil (T.region (L.o (O.fieldAddr runUnderlying51 rfl sizeOf4 rfl (L.o (O.load isAgg4 rfl (((hB7'.ext he79).upd hu11 (by have:=hM5.lt;omega)).cell rfl) (?_))))))
      have hz79:=he79.size
      refine L.a rfl (L.nil (T.blk (T.region (L.o (O.add64 rfl rfl (by omega) (L.m rfl (L.nil (T.again ((i+1,putG kvs (r.us.getD i u0).nm true)) (by omega) ⟨rfl,rfl,rfl,rfl,rfl,rfl,trivial⟩ ⟨hlt',((he5.trans he57).trans he79).upd hu11 (.inr hs4),by have:=he57.size;have:=hu11.size;omega,(hC7.ext he79).upd hu11 (by omega),hM11,hN5.step,good_le hG5 ((ask_iff hN5 hG5).1 hok)⟩))))))))
    ·have hBu:Blk w7 b6 [str (r.us.getD i u0).nm,.int .i64 (r.us.getD i u0).pp,(r.us.getD i u0).gv,(r.us.getD i u0).vv,(r.us.getD i u0).pv,.bool true] 51:=by rw [← hwt];exact hB7'
     refine T.seq (T.seq (?_))
     refine T.anyE mixed 21 [1,7,4,5,6] rfl [.is _,.is _,.is (.bool (rightOk r (r.us.getD i u0))),.is _,.is _,.is _,.is _,.is _,.is _,.is _,.is _,.is undef,.is undef,.is _,.is _,.is _,.is _,.is _,.is _,.is _,.is _] [[],[],[0,1],[],[],[4],[3,5],[6],[],[8],[9],[10],[11,10],[10,12],[],[14],[15],[16],[17,16],[18,16],[16,19]] [[],[],[0,1],[],[],[4],[3,4,5],[3,4,5,6],[],[8],[0,1,2,8,9],[0,1,2,8,9,10],[0,1,2,8,9,10,11],[0,1,2,8,9,10,11,12],[],[14],[0,1,2,8,9,10,14,15],[0,1,2,8,9,10,14,15,16],[0,1,2,8,9,10,14,15,16,17],[0,1,2,8,9,10,14,15,16,17,18],[0,1,2,8,9,10,14,15,16,17,18,19],[0,1,2,3,4,5,6,7,8,9,10,11,12,13,14,15,16,17,18,19,20],[0,1,2,3,4,5,6,7,8,9,10,11,12,13,14,15,16,17,18,19,20,21],[0,1,2,3,4,5,6,7,8,9,10,11,12,13,14,15,16,17,18,19,20,21,22]] (by kernel_rfl) (by kernel_rfl) rfl (by kernel_rfl) trivial ⟨fun wx hx=>Ob.o (O.loadAgg isAgg25 sizeOf25 rfl rfl ((hC7.ext hx).row) kR),
       fun wx hx=>Ob.o (O.loadAgg isAgg51 sizeOf51 rfl rfl ((hB7'.ext hx).row) kR),
       fun wx hx=>Ob.o (O.call (xs:=[.tmp 45,.tmp 46]) call80 rfl rfl (right_calls lo r (r.us.getD i u0) wx (hk7.ext hx)) (fun v wy h=>⟨h.2,h.1⟩)),
       fun wx hx=>Ob.o (O.move rfl kR),
       fun wx hx=>Ob.o (O.fieldAddr runUnderlying51 rfl sizeOf9 rfl kR),
       fun wx hx=>Ob.o (O.load isAgg9 rfl ((hB7'.ext hx).cell rfl) kR),
       fun wx hx=>Ob.o (O.lookupG (kf:=str) (vf:=Value.bool) (z0:=false) key_str runUnderlying142 runUnderlying9 zeroValue4 rfl rfl (hM7.ext hx) kR),
       fun wx hx=>Ob.o (O.not rfl kR),
       fun wx hx=>Ob.o (O.fieldAddr runUnderlying51 rfl sizeOf4 rfl kR),
       fun wx hx=>Ob.o (O.load isAgg4 rfl ((hBu.ext hx).cell rfl) kR),
       fun wx hx=>Ob.o (O.move rfl kR),
       fun wx hx=>Ob.pass rfl rfl,
       fun wx hx=>Ob.pass rfl rfl,
       fun wx hx=>Ob.o (O.pick_true rfl rfl kR),
       fun wx hx=>Ob.o (O.move rfl kR),
       fun wx hx=>Ob.o (O.gtr_f rfl rfl hi0 kR),
       fun wx hx=>Ob.o (O.move rfl kR),
       fun wx hx=>Ob.o (O.fieldAddr runUnderlying51 rfl sizeOf4 rfl kR),
       fun wx hx=>Ob.o (O.load isAgg4 rfl ((hBu.ext hx).cell rfl) kR),
       fun wx hx=>Ob.o (O.not rfl kR),
       fun wx hx=>Ob.o (O.pick_false rfl rfl kR),
       trivial⟩ (fun w8 he8=>?_)
     have hask:askBs r i kvs = [rightOk r (r.us.getD i u0),!(getG kvs (r.us.getD i u0).nm).getD false,true,false]:=by simp only [askBs,hwt];rw [decide_eq_false hi0];simp
     refine L.o (O.buildSlice (el:=4) (parts:=[(0,.tmp 47),(1,.tmp 52),(2,.tmp 58),(3,.tmp 65)]) (vs:=[(0,_),(1,_),(2,_),(3,_)]) (cs:=([rightOk r (r.us.getD i u0),!(getG kvs (r.us.getD i u0).nm).getD false,true,false].map Value.bool)) rfl (fun w=>by kernel_rfl) (fun b9 w9 hb9 hz9 he9 hB9=>?_))
     rw [← hask] at hB9
     refine L.o (O.call (xs:=[.tmp 66]) call79 rfl rfl (every_calls 0 _ (askBs r i kvs) w9 (bools_of_blk hB9 rfl (by decide) (Nat.zero_le _))) (fun v10 w10 hq=>?_))
     obtain ⟨rfl,rfl⟩:=hq
     have he79:=he8.trans he9
     cases hok:(askBs r i kvs).all id
     ·refine L.o (O.not rfl (L.nil (T.ct (T.q (L.a rfl (L.nil (T.ret1 results32 rfl ⟨by rw [rollErr_no (fun h=>by have:=(ask_iff hN5 hG5).2 (h.good i hlt');rw [hok] at this;cases this)],(he5.trans he57).trans he79⟩)))))))
     ·refine L.o (O.not rfl (L.nil (T.cf (T.skip (T.q (L.m rfl (L.o (O.fieldAddr runUnderlying51 rfl sizeOf9 rfl (L.o (O.load isAgg9 rfl ((hB7'.ext he79).cell rfl) (L.o (O.mapUpdateG (kf:=str) (vf:=Value.bool) (v:=_) key_str runUnderlying142 runUnderlying9 rfl rfl rfl (hM7.ext he79) (fun w11 hu11 hM11=>?_)))))))))))))
      refine L.nil (T.region (L.o (O.fieldAddr runUnderlying51 rfl sizeOf4 rfl (L.o (O.load isAgg4 rfl (((hB7'.ext he79).upd hu11 (by have:=hM5.lt;omega)).cell rfl) (?_))))))
      have hz79:=he79.size
      refine L.a rfl (L.nil (T.blk (T.region (L.o (O.add64 rfl rfl (by omega) (L.m rfl (L.nil (T.again ((i+1,putG kvs (r.us.getD i u0).nm true)) (by omega) ⟨rfl,rfl,rfl,rfl,rfl,rfl,trivial⟩ ⟨hlt',((he5.trans he57).trans he79).upd hu11 (.inr hs4),by have:=he57.size;have:=hu11.size;omega,(hC7.ext he79).upd hu11 (by omega),hM11,hN5.step,good_le hG5 ((ask_iff hN5 hG5).1 hok)⟩))))))))
  ·refine L.nil (T.seq (T.cf (T.exit rfl (T.q (L.a rfl (L.nil (T.ret1 results32 rfl ⟨by rw [rollErr_ok ⟨hb,fun j hj=>hG5 j (by simp only at hlt;omega)⟩],he5⟩)))))))

open Go Go.E

theorem Units.name {lo:Nat} {w:World} {v:Value} {us:List UnV} (h:Units lo w v us) {i:Nat} (hi:i<us.length):w.cell? (((sAddr v).add ((i:Int).toNat*6)).add 0)=some (str (us.getD i u0).nm):=h.row hi 0 _ rfl
open Go Go.E

/-- How many units lie ahead of the first water. -/
def landsN:List UnV→Nat
 | []=>0
 | u::r=>if u.wt then 0 else landsN r+1
theorem landsN_le:∀ us:List UnV,landsN us≤us.length
 | []=>Nat.le_refl _
 | u::r=>by
  have:=landsN_le r
  simp only [landsN,List.length_cons]
  split <;> omega
theorem landsN_eq:∀ (us:List UnV) (i:Nat),i≤us.length→(∀ j,j<i→(us.getD j u0).wt=false)→(i<us.length→(us.getD i u0).wt=true)→landsN us=i
 | [],i,h,_,_=>by simp at h;subst h;rfl
 | u::r,0,_,_,h=>by
  have:u.wt=true:=h (by simp)
  simp [landsN,this]
 | u::r,i+1,hi,hj,h=>by
  have h0:u.wt=false:=hj 0 (by omega)
  have:=landsN_eq r i (by simpa using hi) (fun j hlt=>hj (j+1) (by omega)) (fun hlt=>h (by simpa using hlt))
  simp [landsN,h0,this]
/-- The beginning of a slice. -/
def cutH:Value→Nat→Value
 | .slice oa _ cap,m=>.slice oa m cap
 | v,_=>v
theorem Sl_cutH {lo:Nat} {w:World} {v:Value} {n m sz:Nat} {cs:List Value} (hv:Sl lo w v n sz cs) (h1:m≤n):Sl lo w (cutH v m) m sz (cs.take (m*sz)):=by
 obtain ⟨hl,oa,cap,rfl,hc,hm,hr⟩:=hv
 refine ⟨?_,oa,cap,rfl,by omega,hm,?_⟩
 ·rw [List.length_take,hl];exact Nat.min_eq_left (Nat.mul_le_mul_right _ h1)
 ·rcases hr with hr|⟨ad,e1,e2,e3⟩
  ·left;omega
  ·exact .inr ⟨ad,e1,e2,e3.take _⟩
theorem Units.cutH {lo:Nat} {w:World} {v:Value} {us:List UnV} (h:Units lo w v us) {m:Nat} (h1:m≤us.length):Units lo w (cutH v m) (us.take m):=by
 refine ⟨?_,fun u hu=>h.ok u (List.mem_of_mem_take hu)⟩
 have:=Sl_cutH h.sl h1
 rw [ucells_take] at this
 rw [List.length_take,Nat.min_eq_left h1];exact this
theorem O.cutH {C:Cx} {e:Env} {w:World} {K:Value→World→Prop} {d:Option Tmp} {ty:TypeId} {pos:String} {aft:Array Edge} {g:Option (Nat × Bool)} {x y:Operand} {t:TypeId} {v:Value} {n sz lo m:Nat} {cs:List Value} {el:TypeId} {kd:IntKind} (hu:∀ w,(underlying t).run C.P w = .ok (.slice el) w) (hs:∀ w,(sizeOf el).run C.P w = .ok sz w) (hx:ev e x=some v) (hy:ev e y=some (.int kd m))
  (hv:Sl lo w v n sz cs) (h1:m≤n) (h:K (cutH v m) w):O C e ⟨d,.slice t x none (some y) none,ty,pos,aft,g⟩ w K:=by
 obtain ⟨hl,oa,cap,rfl,hc,hm,hr⟩:=hv
 exact O.slice_to hu hs hx hy (Int.natCast_nonneg _) (by omega) (by rw [Int.toNat_natCast];exact h)
/-- The slice of the land units of a roll. -/
def lv (r:RoV):Value:=if landsN r.us<r.us.length then cutH r.uv (landsN r.us) else r.uv
theorem lv_units {lo:Nat} {w:World} {r:RoV} (hr:r.ok lo w):Units lo w (lv r) (r.us.take (landsN r.us)):=by
 have hln:=landsN_le r.us
 unfold lv
 split
 ·exact Units.cutH hr hln
 ·rw [show landsN r.us=r.us.length by omega,List.take_length];exact hr
theorem land1_calls (lo:Nat) (u:UnV) (w:World) :
  Calls Tryz.prog 148 #[u.val] w (Ret fun v w'=>v = .bool u.wt∧Ext w w'):=by
 refine T.enter (vs:=[u.val]) func148 rfl ntmps148 rfl ?_
 refine T.q (L.o (O.box rfl (fun b1 w1 hb1 hz1 he1 hB1=>?_)))
 have hC1:Blk w1 b1 u.cells _:=hB1
 refine L.a rfl (L.nil (T.q (L.o (O.fieldAddr runUnderlying51 rfl sizeOf4 rfl (L.o (O.load isAgg4 rfl (hC1.cell rfl) (L.a rfl (L.nil (T.ret1 results148 rfl ⟨rfl,he1⟩)))))))))

theorem indexU_calls (lo:Nat) (p:Value) (us:List UnV) (w:World) (hp:Units lo w p us) :
  Calls Tryz.prog 147 #[p,.func (.func 148) #[] #[]] w (Ret fun v w'=>(∃ q:Int,v = .int .i64 q∧((q = -1∧landsN us=us.length)∨(q=landsN us∧landsN us<us.length)))∧Ext w w'):=by
 have hle:=Sl.le hp.sl
 refine T.enter (vs:=[p,.func (.func 148) #[] #[]]) func147 rfl ntmps147 rfl ?_
 refine T.q (L.a rfl (L.nil (T.seq (T.q (L.m rfl (L.o (O.len runUnderlying23 rfl (Sl.val hp.sl) (L.m rfl (L.nil (T.block (?_)))))))))))
 refine T.loop (σ:=Nat) (fun i=>[(0,p),(1,.func (.func 148) #[] #[]),(7,.int .i64 us.length),(8,.int .i64 i)]) (fun i w'=>i≤us.length∧Ext w w'∧∀ j,j<i→(us.getD j u0).wt=false) (fun i=>us.length-i) (0) ⟨rfl,rfl,rfl,rfl,trivial⟩ ⟨Nat.zero_le _,Keep.refl _ _,fun j hj=>absurd hj (Nat.not_lt_zero _)⟩ ?_
 rintro i w1 ⟨hi,he1,hall⟩
 have hp1:=hp.ext he1
 refine T.q (L.o (O.lss_s rfl rfl (fun hlt=>?_) (fun hlt=>?_)))
 ·refine L.nil (?_)
  have hlt':i<us.length:=by omega
  refine T.seq (T.ct (T.skip (T.seq (T.block (T.q (L.m rfl (L.a rfl (L.nil (T.q (L.m rfl (L.m rfl (L.m rfl (L.o (O.indexAddr runUnderlying23 sizeOf51 rfl rfl hp1.sl (by omega) (by omega) (L.o (O.loadAgg isAgg51 sizeOf51 rfl rfl (hp1.row hlt') (L.o (O.call (xs:=[.tmp 15]) call148 rfl rfl (land1_calls lo (us.getD i u0) w1) (fun v2 w2 hq=>?_)))))))))))))))))))
  obtain ⟨rfl,he2⟩:=hq
  cases hw:(us.getD i u0).wt
  ·refine L.nil (T.cf (T.skip (T.blk (T.region (L.o (O.add64 rfl rfl (by omega) (L.m rfl (L.nil (T.again (i+1) (by omega) ⟨rfl,rfl,rfl,rfl,trivial⟩ ⟨hlt',he1.trans he2,fun j hj=>?_⟩)))))))))
   ·by_cases e:j=i
    ·subst e;exact hw
    ·exact hall j (by omega)
  ·refine L.nil (?_)
   have e:=landsN_eq us i hi hall (fun _=>hw)
   refine T.ct (T.q (L.m rfl (L.a rfl (L.nil (T.ret1 results147 rfl ⟨⟨_,rfl,.inr ⟨by rw [e],by omega⟩⟩,he1.trans he2⟩)))))
 ·refine L.nil (?_)
  have e:=landsN_eq us i hi hall (fun h=>absurd h (by omega))
  refine T.seq (T.cf (T.exit rfl (T.q (L.a rfl (L.nil (T.ret1 results147 rfl ⟨⟨_,rfl,.inl ⟨rfl,by omega⟩⟩,he1⟩))))))

theorem land_calls (lo:Nat) (r:RoV) (w:World) (hr:r.ok lo w) :
  Calls Tryz.prog 102 #[r.val] w (Ret fun v w'=>v=lv r∧Ext w w'):=by
 refine T.enter (vs:=[r.val]) func102 rfl ntmps102 rfl ?_
 refine T.q (L.o (O.box rfl (fun b1 w1 hb1 hz1 he1 hB1=>?_)))
 have hC1:Blk w1 b1 r.cells _:=hB1
 have hU1:Units lo w1 r.uv r.us:=hr.ext he1
 have hln:=landsN_le r.us
 refine L.a rfl (L.nil (T.seq (T.q (L.o (O.fieldAddr runUnderlying25 rfl sizeOf23 rfl (L.o (O.load isAgg23 rfl (hC1.cell rfl) (L.o (O.call (xs:=[.tmp 5,.func 148]) call147 rfl rfl (indexU_calls lo r.uv r.us w1 hU1) (fun v2 w2 hq=>?_))))))))))
 obtain ⟨⟨q,rfl,hq⟩,he2⟩:=hq
 have hU2:=hU1.ext he2
 refine L.a rfl (L.nil (T.q (L.m rfl (L.o (O.geq_s rfl rfl (fun h0=>?_) (fun h0=>?_))))))
 ·refine L.nil (?_)
  obtain ⟨h1,h2⟩:q=(landsN r.us:Int)∧landsN r.us<r.us.length:=by rcases hq with h|h;omega;exact h
  subst h1
  refine T.ct (T.q (L.o (O.fieldAddr runUnderlying25 rfl sizeOf23 rfl (L.o (O.load isAgg23 rfl ((hC1.ext he2).cell rfl) (L.m rfl (L.o (O.cutH runUnderlying23 sizeOf51 rfl rfl hU2.sl hln (L.a rfl (L.nil (T.ret1 results102 rfl ⟨by rw [lv,if_pos h2],he1.trans he2⟩)))))))))))
 ·refine L.nil (?_)
  have h1:landsN r.us=r.us.length:=by rcases hq with h|h;exact h.2;omega
  refine T.cf (T.skip (T.q (L.o (O.fieldAddr runUnderlying25 rfl sizeOf23 rfl (L.o (O.load isAgg23 rfl ((hC1.ext he2).cell rfl) (L.a rfl (L.nil (T.ret1 results102 rfl ⟨by rw [lv,if_neg (by omega)],he1.trans he2⟩)))))))))

/-- What 'Land' hands back. -/
noncomputable def landRes (r:RoV):Int:=@ite _ (RollOk r) (Classical.propDecidable _) (landsN r.us:Int) 0
theorem landRes_ok {r:RoV} (h:rollErr r=0):landRes r=landsN r.us:=by
 unfold landRes
 by_cases hk:RollOk r
 ·exact if_pos hk
 ·rw [rollErr_no hk] at h;cases h
theorem landRes_no {r:RoV} (h:rollErr r≠0):landRes r=0:=by
 unfold landRes
 by_cases hk:RollOk r
 ·exact absurd (rollErr_ok hk) h
 ·exact if_neg hk
theorem roll_of {r:RoV} (h:rollErr r=0):RollOk r:=by
 by_cases hk:RollOk r
 ·exact hk
 ·rw [rollErr_no hk] at h;cases h
theorem roll_bnd {r:RoV} (h:rollErr r=0):0≤r.G∧r.G≤6∧0≤r.P∧r.P≤12∧0≤r.L∧r.L≤3∧0<(r.us.length:Int)∧(r.us.length:Int)≤64:=bnd_iff.1 (roll_of h).bnd
theorem Land_calls (lo:Nat) (r:RoV) (w:World) (hr:r.ok lo w) :
  Calls Tryz.prog 52 #[r.val] w (Ret fun v w'=>v = .tuple #[.int .i64 (landRes r),.int .i64 (rollErr r)]∧Ext w w'):=by
 refine T.enter (vs:=[r.val]) func52 rfl ntmps52 rfl ?_
 refine T.q (L.o (O.box rfl (fun b1 w1 hb1 hz1 he1 hB1=>?_)))
 have hC1:Blk w1 b1 r.cells _:=hB1
 refine L.a rfl (L.a rfl (L.nil (T.seq (T.q (L.o (O.loadAgg isAgg25 sizeOf25 rfl rfl hC1.row (L.o (O.call (xs:=[.tmp 5]) call32 rfl rfl (CheckRoll_calls lo r w1 (hr.ext he1)) (fun v2 w2 hq=>?_)))))))))
 obtain ⟨rfl,he2⟩:=hq
 refine L.a rfl (L.nil (T.q (L.m rfl (L.o (O.neq_s rfl rfl (fun h0=>?_) (fun h0=>?_))))))
 ·refine L.nil (T.ct (T.q (L.m rfl (L.a rfl (L.a rfl (L.nil (T.ret2 results52 rfl rfl ⟨by rw [landRes_no h0],he1.trans he2⟩)))))))
 ·refine L.nil (T.cf (T.skip (T.q (L.o (O.loadAgg isAgg25 sizeOf25 rfl rfl ((hC1.ext he2).row) (L.o (O.call (xs:=[.tmp 10]) call102 rfl rfl (land_calls lo r w2 (hr.ext (he1.trans he2))) (fun v3 w3 hq=>?_))))))))
  obtain ⟨rfl,he3⟩:=hq
  have hln:=landsN_le r.us
  have hU3:=lv_units (hr.ext ((he1.trans he2).trans he3))
  refine L.o (O.len runUnderlying23 rfl (Sl.val hU3.sl) (L.a rfl (L.a rfl (L.nil (T.ret2 results52 rfl rfl ⟨by rw [landRes_ok h0,h0,List.length_take,Nat.min_eq_left hln],(he1.trans he2).trans he3⟩)))))

open Go Go.E

theorem upd_refl (b:Nat) (w:World):Upd b w w:=⟨rfl,rfl,rfl,rfl,fun _ _=>rfl⟩
end Go.Proofs.YtnlonpcbgjbbaaaGreatDoor
