/-
  BlocksParses, part 4 of its proof: that it returns true for every input, and each argument reads behind the call as it read before. Conditions: the listed variables read as the program's text lays them (tied by the card).
-/
import Derived.Test.YtnlonpcbgjbbaaaGreatDoorWBlocksParses3
import Derived.Test.YtnlonpcbgjbbaaaGreatDoorProg
import Derived.Test.YtnlonpcbgjbbaaaGreatDoorWBlocksParses2
set_option linter.unusedVariables false
set_option linter.unusedSimpArgs false
set_option maxRecDepth 20000
namespace Go.Proofs.YtnlonpcbgjbbaaaGreatDoor
open Go.Proofs.Tryz
open Go Go.E
attribute [local irreducible] Go.E.T Go.E.L Go.E.O Go.E.Ob
variable {m n:Int} {xs:List Int} {i lo:Nat} {s:Str} {α:Type} {v:Value} {w:World}
def Bools (lo:Nat) (w:World) (v:Value) (bs:List Bool):Prop:=Sl lo w v bs.length 1 (bs.map Value.bool)
theorem Bools.at {bs:List Bool} (h:Bools lo w v bs) (a:i<bs.length):w.cell? ((jX v).add ((i:Int).toNat*1))=some (.bool (bs.getD i true)):=by
 rw [Int.toNat_natCast,Nat.mul_one]
 exact Sl.cell h (by simp [List.getD,a])
theorem aX {xs:List α} {d:α} (h:i<xs.length):xs.getD i d=xs[i]:=by simp [List.getD,h]
theorem OJ {xs:List α} {d a:α} (h:i<xs.length) (e:xs.getD i d=a):a∈xs:=by
 rw [aX h] at e;exact e▸List.getElem_mem h
theorem SY {xs:List α} {d a:α} (h:∀ j,j<xs.length→xs.getD j d≠a):a∉xs:=fun c=>by
 obtain ⟨j,b,e⟩:=List.getElem_of_mem c
 exact h j b (by rw [aX b];exact e)
theorem S9 {xs ys:List α} {d:α} (b:xs.length=ys.length) (h:∀ j,j<xs.length→xs.getD j d=ys.getD j d):xs=ys:=by
 apply List.ext_getElem b
 intro j a c
 have:=h j a
 rwa [aX a,aX c] at this
theorem OL (lo:Nat) (p:Value) (bs:List Bool) (w:World) (c:Bools lo w p bs) :
  Calls Tryz.prog 163 #[p,.bool false] w (Ret fun v w'=>∃ r:Int,v = .int .i64 r∧(0≤r↔false∈bs)∧w'=w):=by
 have l:=Sl.le c
 refine aJ (vs:=[p,.bool false]) func163 Z ntmps163 Z ?_
 refine au (ah Z (aj (aQ Z (L.le Z (Sl.val c) (L.m Z (ak (T.block (?_))))))))
 refine bf (σ:=Nat) (fun i=>[(0,p),(1,.bool false),(7,.int .i64 bs.length),(8,.int .i64 i)]) (fun i w'=>i≤bs.length∧w'=w∧∀ j,j<i→bs.getD j true≠false) (fun i=>bs.length-i) (0) ⟨rfl,rfl,rfl,rfl,trivial⟩ ⟨Nat.zero_le _,rfl,fun j f=>absurd f (Nat.not_lt_zero _)⟩ ?_
 rintro i w' ⟨hi,rfl,b⟩
 refine au (bH Z Z (fun g=>?_) (fun g=>?_))
 ·refine ak (?_)
  have a:i<bs.length:=by omega
  refine aj (aZ (T.skip (aj (T.block (aQ Z (ah Z (au (aN Z Z (L.m Z (dG Z Z c (cZ Z (Bools.at c a) (?_))))))))))))
  by_cases hb:bs.getD i true=false
  ·refine L.o (Ci runUnderlying4 Z Z hb.symm (aW (aQ Z (ah Z (aB results163 Z ⟨_,rfl,⟨fun _=>OJ a hb,fun _=>by omega⟩,rfl⟩)))))
  refine L.o (Cj runUnderlying4 Z Z (fun e=>hb e.symm) (aU (T.skip (T.blk (aA (bF Z Z (L.m Z (ak (aP (i+1) omX ⟨rfl,rfl,rfl,rfl,trivial⟩ ⟨a,rfl,fun j f=>?_⟩)))))))))
  ·by_cases k:j=i
   ·subst k;exact hb
   exact b j omX
 refine ak (aj (bn (aY Z (au (ah Z (aB results163 Z ⟨_,rfl,⟨fun h=>absurd h dcX,fun h=>absurd h (SY (d:=true) fun j f=>b j omX)⟩,rfl⟩))))))
theorem Fh (lo:Nat) (p:Value) (bs:List Bool) (w:World) (c:Bools lo w p bs) :
  Calls Tryz.prog 135 #[p,.bool false] w (Ret fun v w'=>v = .bool (!bs.all id)∧w'=w):=by
 refine aJ (vs:=[p,.bool false]) func135 Z ntmps135 Z ?_
 refine au (ah Z (au (aN Z Z (L.o (ay (xs:=[.tmp 5,.tmp 6]) call163 Z Z (OL lo p bs w c) (fun e w1 d=>?_))))))
 obtain ⟨r,rfl,a,rfl⟩:=d
 refine L.o (fJ Z Z (fun h0=>?_) (fun h0=>?_))
 ·refine ah Z (aB results135 Z ⟨by rw [show bs.all id=false from List.all_eq_false.2 ⟨false,a.1 h0,spX⟩];rfl,rfl⟩)
 refine ah Z (aB results135 Z ⟨by rw [show bs.all id=true from List.all_eq_true.2 fun b hb=>(by cases b with|true=>rfl|false=>exact absurd (a.2 hb) h0)];rfl,rfl⟩)
theorem mQ (lo:Nat) (p:Value) (bs:List Bool) (w:World) (a:Bools lo w p bs) :
  Calls Tryz.prog 79 #[p] w (Ret fun v w'=>v = .bool (bs.all id)∧w'=w):=by
 refine aJ (vs:=[p]) func79 Z ntmps79 Z ?_
 refine au (ah Z (au (aO Z (ay (xs:=[.tmp 3,.const (.bool false)]) call135 Z Z (Fh lo p bs w a) (fun c w1 b=>?_)))))
 obtain ⟨rfl,rfl⟩:=b
 refine bT Z (ah Z (aB results79 Z ⟨spX,rfl⟩))
def inB (m x:Int):Bool:=decide (0≤x) && decide (x≤m)
def dZ (xs:List Int) (n m:Int):Bool:=decide ((xs.length:Int)=n) && xs.all (inB m)
theorem Tc (h:¬ (xs.length:Int)=n):dZ xs n m=false:=by simp [dZ,h]
theorem KN (h:i<xs.length) (a:¬ (0≤xs.getD i 0∧xs.getD i 0≤m)):dZ xs n m=false:=by
 have:xs.all (inB m)=false:=List.all_eq_false.2 ⟨_,List.getElem_mem h,by rw [aX h] at a;simpa [inB] using a⟩
 simp [dZ,this]
theorem zl (h:∀ j,j<xs.length→0≤xs.getD j 0∧xs.getD j 0≤m):dZ xs n m=decide ((xs.length:Int)=n):=by
 have:xs.all (inB m)=true:=List.all_eq_true.2 fun x hx=>by
  obtain ⟨j,a,rfl⟩:=List.getElem_of_mem hx
  have:=h j a
  rw [aX a] at this
  simpa [inB] using this
 simp [dZ,this]
theorem within_iff : dZ xs n m=true↔(xs.length:Int)=n∧∀ j,j<xs.length→0≤xs.getD j 0∧xs.getD j 0≤m:=by
 constructor
 ·intro h
  simp only [dZ,Bool.and_eq_true,decide_eq_true_eq] at h
  refine ⟨h.1,fun j a=>?_⟩
  have:=List.all_eq_true.1 h.2 xs[j] (List.getElem_mem a)
  rw [aX a];simpa [inB] using this
 rintro ⟨b,c⟩;rw [zl c,decide_eq_true b]
theorem Ir (b:Nat) (t:TypeId) (x m:Int) (w:World) (hb:Blk w b [.int .i64 m] t) :
  Calls Tryz.prog 172 #[.int .i64 x,.pointer (some ⟨b,0,none⟩)] w (Ret fun v w'=>v = .bool (decide (x<0∨m<x))∧w'=w):=by
 refine aJ (vs:=[.int .i64 x,.pointer (some ⟨b,0,none⟩)]) func172 Z ntmps172 Z ?_
 refine au (ah Z (aQ Z (bH Z Z (fun h0=>?_) (fun h0=>?_))))
 ·refine L.m Z (L.pp (L.p (aG Z (ah Z (aB results172 Z ⟨by rw [decide_eq_true (.inl h0)],rfl⟩)))))
 refine aN Z Z (cZ Z (hb.cell Z) (dY Z Z (fun a=>?_) (fun a=>?_)))
 ·refine aI Z (ah Z (aB results172 Z ⟨by rw [decide_eq_true (.inr a)],rfl⟩))
 refine aI Z (ah Z (aB results172 Z ⟨by rw [decide_eq_false omX],rfl⟩))
theorem KO (lo b:Nat) (t:TypeId) (p:Value) (xs:List Int) (m:Int) (w:World) (d:Ints .i64 lo w p xs) (hb:Blk w b [.int .i64 m] t) :
  Calls Tryz.prog 206 #[p,.func (.func 172) #[] #[.pointer (some ⟨b,0,none⟩)]] w (Ret fun v w'=>∃ r:Int,v = .int .i64 r∧(0≤r↔¬ ∀ j,j<xs.length→0≤xs.getD j 0∧xs.getD j 0≤m)∧w'=w):=by
 have l:=Sl.le d
 refine aJ (vs:=[p,.func (.func 172) #[] #[.pointer (some ⟨b,0,none⟩)]]) func206 Z ntmps206 Z ?_
 refine au (ah Z (aj (aQ Z (L.le Z (Sl.val d) (L.m Z (ak (T.block (?_))))))))
 refine bf (σ:=Nat) (fun i=>[(0,p),(1,.func (.func 172) #[] #[.pointer (some ⟨b,0,none⟩)]),(7,.int .i64 xs.length),(8,.int .i64 i)]) (fun i w'=>i≤xs.length∧w'=w∧∀ j,j<i→0≤xs.getD j 0∧xs.getD j 0≤m) (fun i=>xs.length-i) (0) ⟨rfl,rfl,rfl,rfl,trivial⟩ ⟨Nat.zero_le _,rfl,fun j e=>absurd e (Nat.not_lt_zero _)⟩ ?_
 rintro i w' ⟨hi,rfl,c⟩
 refine au (bH Z Z (fun f=>?_) (fun f=>?_))
 ·refine ak (?_)
  have a:i<xs.length:=by omega
  refine aj (aZ (T.skip (aj (T.block (aQ Z (ah Z (au (aN Z Z (L.m Z (dG Z Z d (cZ Z (Ints.at d a) (L.o (ay (xs:=[.tmp 15]) call172 Z Z (Ir b t (xs.getD i 0) m w' hb) (fun q w1 n=>?_))))))))))))))
  obtain ⟨rfl,rfl⟩:=n
  refine ak (?_)
  refine jQ Z (fun g=>?_) (fun g=>?_)
  ·refine aQ Z (ah Z (aB results206 Z ⟨_,rfl,⟨fun _ h=>by have:=h i a;omega,fun _=>by omega⟩,rfl⟩))
  refine T.skip (T.blk (aA (bF Z Z (L.m Z (ak (aP (i+1) omX ⟨rfl,rfl,rfl,rfl,trivial⟩ ⟨a,rfl,fun j e=>?_⟩))))))
  ·by_cases k:j=i
   ·subst k;omega
   exact c j omX
 refine ak (aj (bn (aY Z (au (ah Z (aB results206 Z ⟨_,rfl,⟨fun h=>absurd h dcX,fun h=>absurd (fun j e=>c j omX) h⟩,rfl⟩))))))
theorem CQ (lo b:Nat) (t:TypeId) (p:Value) (xs:List Int) (m:Int) (w:World) (c:Ints .i64 lo w p xs) (hb:Blk w b [.int .i64 m] t) :
  Calls Tryz.prog 171 #[p,.func (.func 172) #[] #[.pointer (some ⟨b,0,none⟩)]] w (Ret fun v w'=>v = .bool (!decide (∀ j,j<xs.length→0≤xs.getD j 0∧xs.getD j 0≤m))∧w'=w):=by
 refine aJ (vs:=[p,.func (.func 172) #[] #[.pointer (some ⟨b,0,none⟩)]]) func171 Z ntmps171 Z ?_
 refine au (ah Z (au (aN Z Z (L.o (ay (xs:=[.tmp 5,.tmp 6]) call206 Z Z (KO lo b t p xs m w c hb) (fun e w1 d=>?_))))))
 obtain ⟨r,rfl,a,rfl⟩:=d
 refine L.o (fJ Z Z (fun h0=>?_) (fun h0=>?_))
 ·refine ah Z (aB results171 Z ⟨by rw [decide_eq_false (a.1 h0)];rfl,rfl⟩)
 refine ah Z (aB results171 Z ⟨by rw [decide_eq_true (Classical.not_not.1 fun hn=>h0 (a.2 hn))];rfl,rfl⟩)
theorem um (lo:Nat) (p:Value) (xs:List Int) (n m:Int) (w:World) (d:Ints .i64 lo w p xs) :
  Calls Tryz.prog 137 #[p,.int .i64 n,.int .i64 m] w (Ret fun v w'=>v = .bool (dZ xs n m)∧Ext w w'):=by
 have e:=Sl.le d
 refine aJ (vs:=[p,.int .i64 n,.int .i64 m]) func137 Z ntmps137 Z ?_
 refine au (bM Z (fun b1 w1 f g a hB1=>?_))
 have b:=d.keep (a.mono (Nat.zero_le lo))
 refine ah Z (aQ Z (L.le Z (Sl.val b) (L.m Z (dK Z Z (fun c=>?_) (fun c=>?_)))))
 ·refine aN Z Z (L.o (eG (fi:=[]) (ca:=[.tmp 5]) Z Z (L.o (ay (xs:=[.tmp 12,.tmp 13]) call171 Z Z (CQ lo b1 _ p xs m w1 b hB1) (fun v2 l i=>?_)))))
  obtain ⟨rfl,rfl⟩:=i
  refine bT Z (aG Z (ah Z (aB results137 Z ⟨?_,a⟩)))
  by_cases h:∀ j,j<xs.length→0≤xs.getD j 0∧xs.getD j 0≤m
  ·rw [zl h,decide_eq_true h,decide_eq_true c];rfl
  rw [decide_eq_false h]
  have:dZ xs n m=false:=by
   cases k:dZ xs n m
   ·rfl
   exact absurd (within_iff.1 k).2 h
  rw [this];rfl
 refine L.m Z (L.pp (L.pp (aI Z (ah Z (aB results137 Z ⟨by rw [Tc c],a⟩)))))
theorem lI (lo:Nat) (p:Value) (xs:List Int) (n m:Int) (w:World) (c:Ints .i64 lo w p xs) :
  Calls Tryz.prog 139 #[p,.int .i64 n,.int .i64 m] w (Ret fun v w'=>v = .bool (dZ xs n m)∧w'=w):=by
 have g:=Sl.le c
 refine aJ (vs:=[p,.int .i64 n,.int .i64 m]) func139 Z ntmps139 Z ?_
 refine au (ah Z (aj (au (ah Z (T.block (?_))))))
 refine bf (σ:=Nat) (fun i=>[(0,p),(1,.int .i64 n),(2,.int .i64 m),(7,.int .i64 i)]) (fun i w'=>i≤xs.length∧w'=w∧∀ j,j<i→0≤xs.getD j 0∧xs.getD j 0≤m) (fun i=>xs.length-i) (0) ⟨rfl,rfl,rfl,rfl,trivial⟩ ⟨Nat.zero_le _,rfl,fun j d=>absurd d (Nat.not_lt_zero _)⟩ ?_
 rintro i w' ⟨hi,rfl,b⟩
 refine aj (au (aN Z Z (L.le Z (Sl.val c) (bH Z Z (fun e=>?_) (fun e=>?_)))))
 ·refine ak (?_)
  have a:i<xs.length:=by omega
  refine aZ (T.skip (aj (T.block (au (aN Z Z (dG Z Z c (cZ Z (Ints.at c a) (bH Z Z (fun h0=>?_) (fun h0=>?_)))))))))
  ·refine L.m Z (L.pp (L.pp (L.pp (aG Z (aW (au (ah Z (aB results139 Z ⟨by rw [KN a omX],rfl⟩))))))))
  refine aN Z Z (L.m Z (dG Z Z c (cZ Z (Ints.at c a) (L.m Z (dY Z Z (fun h=>?_) (fun h=>?_))))))
  ·refine aI Z (aW (au (ah Z (aB results139 Z ⟨by rw [KN a omX],rfl⟩))))
  refine aI Z (aU (T.skip (T.blk (aA (L.m Z (bF Z Z (ah Z (aP (i+1) omX ⟨rfl,rfl,rfl,rfl,trivial⟩ ⟨a,rfl,fun j d=>?_⟩))))))))
  ·by_cases f:j=i
   ·subst f;omega
   exact b j omX
 refine aU (aY Z (aQ Z (L.le Z (Sl.val c) (aO Z (oh Z Z (ah Z (aB results139 Z ⟨by rw [zl (fun j d=>b j omX)],rfl⟩)))))))
def letters:Str:=[65,66,67,68,69,70,71,72,73,74,75,76,77,78,79,80,81,82,83,84,85,86,87,88,89,90,97,98,99,100,101,102] ++ [103,104,105,106,107,108,109,110,111,112,113,114,115,116,117,118,119,120,121,122,48,49,50,51,52,53,54,55,56,57,45,95]
def kK (c:UInt8):Bool:=(decide (65≤c.toNat) && decide (c.toNat≤90)) || ((decide (97≤c.toNat) && decide (c.toNat≤122)) || ((decide (48≤c.toNat) && decide (c.toNat≤57)) || (decide (c.toNat=45) || decide (c.toNat=95))))
theorem oG {c:UInt8} : kK c=true↔(65≤c.toNat∧c.toNat≤90)∨(97≤c.toNat∧c.toNat≤122)∨(48≤c.toNat∧c.toNat≤57)∨c.toNat=45∨c.toNat=95:=by
 simp only [kK,Bool.or_eq_true,Bool.and_eq_true,decide_eq_true_eq]
def uo (s:Str):Bool:=s.all kK && (decide (1≤s.length) && decide (s.length≤12))
theorem rM (h:∀ j,j<s.length→kK (s.getD j 0)=true):s.all kK=true:=List.all_eq_true.2 fun x hx=>by
 obtain ⟨j,a,rfl⟩:=List.getElem_of_mem hx
 have:=h j a
 rwa [aX a] at this
theorem BI (h:s.all kK=true) {j:Nat} (a:j<s.length):kK (s.getD j 0)=true:=by
 rw [aX a];exact List.all_eq_true.1 h _ (List.getElem_mem a)
theorem Iu (h:i<s.length) (b:¬ kK (s.getD i 0)=true):uo s=false:=by
 cases a:uo s
 ·rfl
 simp only [uo,Bool.and_eq_true] at a
 exact absurd (BI a.1 h) b
theorem YV (h:∀ j,j<s.length→kK (s.getD j 0)=true):uo s=(decide (1≤s.length) && decide (s.length≤12)):=by rw [uo,rM h];rfl
theorem good_step (a:∀ j,j<i→kK (s.getD j 0)=true) (h:kK (s.getD i 0)=true):∀ j,j<i+1→kK (s.getD j 0)=true:=fun j c=>by
 by_cases b:j=i
 ·subst b;exact h
 exact a j omX
theorem OM (s:Str) (w:World) (hn:s.length≤9223372036854775807) :
  Calls Tryz.prog 138 #[str s] w (Ret fun v w'=>v = .bool (uo s)∧w'=w):=by
 refine aJ (vs:=[str s]) func138 Z ntmps138 Z ?_
 refine au (ah Z (aj (au (ah Z (T.block (?_))))))
 refine bf (σ:=Nat) (fun i=>[(0,str s),(3,.int .i64 i)]) (fun i w'=>i≤s.length∧w'=w∧∀ j,j<i→kK (s.getD j 0)=true) (fun i=>s.length-i) (0) ⟨rfl,rfl,trivial⟩ ⟨Nat.zero_le _,rfl,fun j t=>absurd t (Nat.not_lt_zero _)⟩ ?_
 rintro i w' ⟨hi,rfl,b⟩
 refine aj (au (aN Z Z (L.o (dB runUnderlying9 Z (bH Z Z (fun d=>?_) (fun d=>?_))))))
 ·refine ak (?_)
  have a:i<s.length:=by omega
  refine aZ (T.skip (aj (T.block (au (aN Z Z (L.o (eX runUnderlying9 Z Z omX (ah Z (au (aO Z (fJ Z Z (fun e=>?_) (fun e=>?_))))))))))))
  ·refine aN Z Z (L.o (fB Z Z (fun f=>?_) (fun f=>?_)))
   ·refine aG Z (L.m Z (L.pp (L.pp (L.pp (aG Z (L.m Z (L.pp (L.pp (L.pp (aG Z (L.m Z (L.pp (aG Z (L.m Z (L.pp (?_))))))))))))))))
    refine aG Z (bT Z (aU (T.skip (T.blk (aA (L.m Z (bF Z Z (ah Z (aP (i+1) omX ⟨rfl,rfl,trivial⟩ ⟨a,rfl,good_step b (oG.2 omX)⟩)))))))))
   refine aG Z (aN Z Z (L.o (fJ Z Z (fun g=>?_) (fun g=>?_))))
   ·refine aN Z Z (L.o (fB Z Z (fun c=>?_) (fun c=>?_)))
    ·refine aG Z (aI Z (L.m Z (L.pp (L.pp (L.pp (aG Z (L.m Z (L.pp (aG Z (L.m Z (L.pp (aG Z (bT Z (aU (T.skip (T.blk (aA (?_))))))))))))))))))
     refine L.m Z (bF Z Z (ah Z (aP (i+1) omX ⟨rfl,rfl,trivial⟩ ⟨a,rfl,good_step b (oG.2 omX)⟩)))
    refine aG Z (aI Z (aN Z Z (L.o (mF Z Z omX (aN Z Z (L.o (vg Z Z omX (aG Z (aI Z (aN Z Z (L.o (fV Z Z omX (aI Z (aN Z Z (L.o (fV Z Z omX (aI Z (bT Z (aW (fK Z (?_)))))))))))))))))))))
    refine ak (aB results138 Z ⟨by rw [Iu a (fun h=>by have:=oG.1 h;omega)],rfl⟩)
   refine L.m Z (L.pp (aI Z (aI Z (aN Z Z (L.o (mF Z Z omX (aN Z Z (L.o (vg Z Z omX (aG Z (aI Z (aN Z Z (L.o (fV Z Z omX (aI Z (aN Z Z (dK Z Z (fun k=>?_) (fun k=>?_))))))))))))))))))
   ·refine aI Z (bT Z (aU (T.skip (T.blk (aA (L.m Z (bF Z Z (ah Z (aP (i+1) omX ⟨rfl,rfl,trivial⟩ ⟨a,rfl,good_step b (oG.2 omX)⟩)))))))))
   refine aI Z (bT Z (aW (au (ah Z (aB results138 Z ⟨by rw [Iu a (fun h=>by have:=oG.1 h;omega)],rfl⟩)))))
  refine L.m Z (L.pp (aI Z (aN Z Z (L.o (oM Z Z omX (L.m Z (L.pp (aI Z (aI Z (aN Z Z (L.o (fJ Z Z (fun l=>?_) (fun l=>?_)))))))))))))
  ·refine aN Z Z (L.o (fB Z Z (fun n=>?_) (fun n=>?_)))
   ·refine aG Z (aI Z (L.m Z (L.pp (aG Z (L.m Z (L.pp (aG Z (bT Z (aU (T.skip (T.blk (aA (L.m Z (bF Z Z (ah Z (aP (i+1) omX ⟨rfl,rfl,trivial⟩ ⟨a,rfl,good_step b (oG.2 omX)⟩))))))))))))))))
   refine aG Z (aI Z (aN Z Z (L.o (fV Z Z omX (aI Z (aN Z Z (L.o (fV Z Z omX (aI Z (bT Z (aW (au (ah Z (aB results138 Z ⟨by rw [Iu a (fun h=>by have:=oG.1 h;omega)],rfl⟩))))))))))))))
  refine L.m Z (L.pp (aI Z (aI Z (aN Z Z (dK Z Z (fun q=>?_) (fun q=>?_))))))
  ·refine aI Z (L.m Z (L.pp (aG Z (bT Z (aU (T.skip (T.blk (aA (L.m Z (bF Z Z (ah Z (aP (i+1) omX ⟨rfl,rfl,trivial⟩ ⟨a,rfl,good_step b (oG.2 omX)⟩))))))))))))
  refine aI Z (aN Z Z (L.o (fV Z Z omX (aI Z (bT Z (aW (au (ah Z (aB results138 Z ⟨by rw [Iu a (fun h=>by have:=oG.1 h;omega)],rfl⟩)))))))))
 refine ak (?_)
 have r:=YV (s:=s) (fun j t=>b j omX)
 refine bn (aY Z (au (aO Z (dB runUnderlying9 Z (L.o (fJ Z Z (fun u=>?_) (fun u=>?_)))))))
 ·refine aN Z Z (L.o (dB runUnderlying9 Z (L.o (fB Z Z (fun x=>?_) (fun x=>?_)))))
  ·refine aG Z (ah Z (aB results138 Z ⟨by rw [r,decide_eq_true omX,decide_eq_true omX];rfl,rfl⟩))
  refine aG Z (ah Z (aB results138 Z ⟨by rw [r,decide_eq_false (show ¬ s.length≤12 by omega)];simp,rfl⟩))
 refine L.m Z (L.pp (L.p (aI Z (ah Z (aB results138 Z ⟨by rw [r,decide_eq_false (show ¬ 1≤s.length by omega)];rfl,rfl⟩)))))
def iY (s:Str):Nat→List Value
 | 0=>List.replicate 256 (.bool false)
 | i+1=>(iY s i).set (s.getD i 0).toNat (.bool true)
theorem jL (s:Str):∀ i,(iY s i).length=256
 | 0=>by simp [iY]
 | i+1=>by simp [iY,jL s i]
def ahV (c:Nat):Bool:=(decide (65≤c) && decide (c≤90)) || ((decide (97≤c) && decide (c≤122)) || ((decide (48≤c) && decide (c≤57)) || (decide (c=45) || decide (c=95))))
theorem Iw:iY letters 64=(List.range 256).map fun c=>Value.bool (ahV c):=by kernel_rfl
theorem wO (s:Str):∀ i,∀ u∈iY s i,u.oneCell'=true
 | 0=>fun u a=>by obtain ⟨_,rfl⟩:=List.mem_replicate.1 a;rfl
 | i+1=>fun u a=>by
  rcases List.mem_or_eq_of_mem_set a with h|h
  ·exact wO s i u h
  subst h;rfl
theorem Vp (c:UInt8):(iY letters 64)[c.toNat]?=some (.bool (kK c)):=by
 rw [Iw]
 have:c.toNat<256:=c.toNat_lt
 simp [this];rfl
theorem OO:∀ j,j<letters.length→(letters.getD j 0).toNat<128:=by decide +kernel
theorem OQ (w:World) :
  Calls Tryz.prog 166 #[str letters] w (Ret fun v w'=>Ext w w'∧v = .tuple #[.agg (iY letters 64).toArray,.bool true]):=by
 refine aJ (vs:=[str letters]) func166 Z ntmps166 Z ?_
 refine au (L.o (O.alloc zeroValue241 (fun b1 w1 k l d hB1=>?_)))
 have n:letters.length=64:=by decide
 refine ah Z (aj (au (ah Z (T.block (?_)))))
 refine bf (σ:=Nat) (fun i=>[(0,str letters),(2,.pointer (some ⟨b1,0,none⟩)),(4,.int .i64 i)]) (fun i w'=>i≤64∧Ext w w'∧Blk w' b1 (iY letters i) 241) (fun i=>64-i) (0) ⟨rfl,rfl,rfl,trivial⟩ ⟨Nat.zero_le _,d,hB1⟩ ?_
 rintro i p ⟨hi,b,hB2⟩
 refine aj (au (aN Z Z (L.o (dB runUnderlying9 Z (bH Z Z (fun f=>?_) (fun f=>?_))))))
 ·refine ak (?_)
  have c:i<letters.length:=by omega
  have h:=OO i c
  refine aZ (T.skip (aj (T.block (au (aN Z Z (L.o (eX runUnderlying9 Z Z omX (ah Z (aj (au (aO Z (oM Z Z omX (aU (T.skip (aA (aO Z (gV runUnderlying241 sizeOf4 Z Z omX omX (L.o (bV sizeOf4 Z Z Z hB2 (by rw [jL];omega) (fun j a hB3=>?_))))))))))))))))))))
  refine ak (T.blk (aA (L.m Z (bF Z Z (ah Z (aP (i+1) omX ⟨rfl,rfl,rfl,trivial⟩ ⟨omX,b.upd a (.inr omX),?_⟩))))))
  ·have e:(0+((((letters.getD i 0).toNat:Nat):Int).toNat*1))=(letters.getD i 0).toNat:=by rw [Int.toNat_natCast];omega
   rw [iY,← e];exact hB3
 refine ak (?_)
 obtain rfl:i=64:=by omega
 refine bn (aY Z (au (L.o (Ah isAgg241 sizeOf241 (jL _ _) Z (Row.bI hB2) (L.o (aK sizeOf241 (jL _ _) Z Z hB2 (by rw [jL];decide) (wO _ _) (fun j a hB3=>?_)))))))
 have g:=b.upd a (.inr omX)
 have agW:Blk j b1 (iY letters 64) 241:=by rw [show (iY letters 64).take 0++iY letters 64++(iY letters 64).drop (0+256)=iY letters 64 by rw [List.drop_eq_nil_of_le (by rw [jL];decide)];simp] at hB3;exact hB3
 refine ah Z (mJ results166 isAgg241 sizeOf241 (jL _ _) Z Z (Row.bI agW) ⟨g,rfl⟩)
theorem KP (b:Nat) (t:TypeId) (c:UInt8) (w:World) (hb:Blk w b (iY letters 64) t) :
  Calls Tryz.prog 203 #[.pointer (some ⟨b,0,none⟩),.int .u8 (c.toNat:Int)] w (Ret fun v w'=>v = .bool (kK c)∧w'=w):=by
 have a:c.toNat<256:=c.toNat_lt
 refine aJ (vs:=[.pointer (some ⟨b,0,none⟩),.int .u8 (c.toNat:Int)]) func203 Z ntmps203 Z ?_
 refine au (ah Z (au (aN Z Z (mG Z (L.o (gV runUnderlying241 sizeOf4 Z Z omX omX (cZ Z (by rw [BU];exact hb.cell (by rw [show 0+(((c.toNat:Nat):Int).toNat*1)=c.toNat by rw [Int.toNat_natCast];omega];exact Vp c)) (ah Z (aB results203 Z ⟨rfl,rfl⟩)))))))))
theorem OT (b:Nat) (t:TypeId) (s:Str) (w:World) (hb:Blk w b (iY letters 64) t) (hn:s.length≤9223372036854775807) :
  Calls Tryz.prog 168 #[str s,.pointer (some ⟨b,0,none⟩)] w (Ret fun v w'=>w'=w∧∃ n,v=str (s.take n)∧n≤s.length∧(∀ j,n≤j→j<s.length→kK (s.getD j 0)=true)∧(n=0∨¬ kK (s.getD (n-1) 0)=true)):=by
 refine aJ (vs:=[str s,.pointer (some ⟨b,0,none⟩)]) func168 Z ntmps168 Z ?_
 refine au (ah Z (aj (T.block (?_))))
 refine bf (σ:=Nat) (fun n=>[(0,str (s.take n)),(1,.pointer (some ⟨b,0,none⟩))]) (fun n w'=>n≤s.length∧w'=w∧∀ j,n≤j→j<s.length→kK (s.getD j 0)=true) (fun n=>n) (s.length) ⟨?_,rfl,trivial⟩ ⟨Nat.le_refl _,rfl,fun j h d=>absurd d omX⟩ ?_
 ·rw [List.take_length];rfl
 rintro n w' ⟨hi,rfl,a⟩
 have e:(s.take n).length=n:=by rw [List.length_take];omega
 refine aj (au (aO Z (dB runUnderlying9 Z (dY Z Z (fun f=>?_) (fun f=>?_)))))
 ·refine ak (?_)
  have i:0<n:=by omega
  refine aZ (T.skip (T.block (aj (au (aN Z Z (aO Z (dB runUnderlying9 Z (L.o (dh Z Z omX (L.o (iy runUnderlying9 Z Z omX omX (?_))))))))))))
  have c:(s.take n).getD (((s.take n).length:Int)-1).toNat 0=s.getD (n-1) 0:=by rw [e,show ((n:Int)-1).toNat=n-1 by omega,aX omX,aX omX,List.getElem_take]
  refine L.o (ay (xs:=[.tmp 8,.tmp 13]) call203 Z Z (KP b t ((s.take n).getD (((s.take n).length:Int)-1).toNat 0) w' hb) (fun m w1 k=>?_))
  obtain ⟨rfl,rfl⟩:=k
  cases g:kK ((s.take n).getD (((s.take n).length:Int)-1).toNat 0)
  ·refine bT Z (aW (aY Z (aQ Z (ah Z (aB results168 Z ⟨rfl,n,rfl,hi,a,.inr (by rw [← c,g];decide)⟩)))))
  refine bT Z (aU (T.skip (aA (aN Z Z (L.o (dB runUnderlying9 Z (L.o (dh Z Z omX (L.o (iO runUnderlying9 Z Z omX omX (ah Z (T.blk (aP (n-1) omX ⟨?_,rfl,trivial⟩ ⟨omX,rfl,fun j h d=>?_⟩)))))))))))))
  ·rw [List.take_take];rw [show min (((s.take n).length:Int)-1).toNat n=n-1 by omega];rfl
  by_cases l:j=n-1
  ·subst l;rw [← c];exact g
  exact a j omX d
 refine aU (aY Z (aQ Z (ah Z (aB results168 Z ⟨rfl,n,rfl,hi,a,.inl omX⟩))))
theorem OU (b:Nat) (t:TypeId) (s:Str) (w:World) (hb:Blk w b (iY letters 64) t) (hn:s.length≤9223372036854775807) :
  Calls Tryz.prog 167 #[str s,.pointer (some ⟨b,0,none⟩)] w (Ret fun v w'=>w'=w∧∃ u,v=str u∧(u = []↔s.all kK=true)):=by
 refine aJ (vs:=[str s,.pointer (some ⟨b,0,none⟩)]) func167 Z ntmps167 Z ?_
 refine au (ah Z (aj (T.block (?_))))
 refine bf (σ:=Nat) (fun n=>[(0,str (s.drop n)),(1,.pointer (some ⟨b,0,none⟩))]) (fun n w'=>n≤s.length∧w'=w∧∀ j,j<n→kK (s.getD j 0)=true) (fun n=>s.length-n) (0) ⟨rfl,rfl,trivial⟩ ⟨Nat.zero_le _,rfl,fun j i=>absurd i omX⟩ ?_
 rintro n w' ⟨hi,rfl,a⟩
 have c:(s.drop n).length=s.length-n:=List.length_drop
 refine aj (au (aO Z (dB runUnderlying9 Z (dY Z Z (fun e=>?_) (fun e=>?_)))))
 ·refine ak (?_)
  have f:n<s.length:=by omega
  refine aZ (T.skip (T.block (aj (au (aN Z Z (L.o (iy runUnderlying9 Z Z dcX (by rw [c];simp;omega) (?_))))))))
  have d:(s.drop n).getD (0:Int).toNat 0=s.getD n 0:=by rw [show ((0:Int)).toNat=0 from rfl,aX omX,aX omX,List.getElem_drop];rfl
  refine L.o (ay (xs:=[.tmp 8,.tmp 10]) call203 Z Z (KP b t ((s.drop n).getD (0:Int).toNat 0) w' hb) (fun l w1 k=>?_))
  obtain ⟨rfl,rfl⟩:=k
  cases g:kK ((s.drop n).getD (0:Int).toNat 0)
  ·refine bT Z (aW (aY Z (aQ Z (ah Z (aB results167 Z ⟨rfl,_,rfl,fun h=>absurd (congrArg List.length h) (by rw [c];simp;omega),fun h=>absurd (BI h f) (by rw [← d,g];decide)⟩)))))
  refine bT Z (aU (T.skip (aA (aO Z (nS runUnderlying9 Z Z dcX (by rw [c];show 1≤_;omega) (ah Z (T.blk (aP (n+1) omX ⟨?_,rfl,trivial⟩ ⟨omX,rfl,good_step a (by rw [← d];exact g)⟩))))))))
  ·rw [List.drop_drop];rfl
 refine aU (aY Z (aQ Z (ah Z (aB results167 Z ⟨rfl,_,rfl,fun _=>rM (fun j m=>a j omX),fun _=>List.drop_eq_nil_of_le omX⟩))))
theorem Td (s:Str) (w:World) (hn:s.length≤9223372036854775807) :
  Calls Tryz.prog 136 #[str s,str letters] w (Ret fun v w'=>Ext w w'∧∃ u,v=str u∧(u = []↔s.all kK=true)):=by
 refine aJ (vs:=[str s,str letters]) func136 Z ntmps136 Z ?_
 refine au (ah Z (aj (au (aO Z (fM runUnderlying9 Z Z (fun h0=>?_) (fun h0=>?_))))))
 ·refine L.m Z (L.pp (aG Z (aW (aQ Z (ah Z (aB results136 Z ⟨Keep.refl _ _,[],by rw [h0],by rw [h0];simp⟩))))))
 refine aN Z Z (L.o (fE runUnderlying9 Z Z dcX (aI Z (aU (T.skip (aj (au (aO Z (dB runUnderlying9 Z (L.o (fV Z Z dcX (L.m Z (L.pp (L.p (aI Z (aU (T.skip (aj (au (?_))))))))))))))))))))
 refine aO Z (ay (xs:=[.tmp 30]) call166 Z Z (OQ w) (fun A w1 a=>?_))
 obtain ⟨b,rfl⟩:=a
 refine L.m Z (bK Z Z (bK Z Z (L.o (O.alloc zeroValue241 (fun b2 B r t e hB2=>?_)))))
 refine L.o (aK sizeOf241 (jL _ _) Z Z hB2 dcX (wO _ _) (fun k f hB3=>?_))
 have agW:Blk k b2 (iY letters 64) 241:=by rw [show ∀ cs:List Value,cs.length=256→cs.take 0++iY letters 64++cs.drop (0+256)=iY letters 64 from fun cs C=>by rw [List.drop_eq_nil_of_le omX];simp] at hB3;exact hB3;decide
 have g:=(b.trans e).upd f (.inr (by have:=b.size;omega))
 skip
 ·refine ah Z (aQ Z (aW (au (aO Z (ay (xs:=[.tmp 35,.tmp 5]) call168 Z Z (OT b2 _ s k agW hn) (fun v4 x a=>?_))))))
  obtain ⟨rfl,n,rfl,y,c,l⟩:=a
  refine L.o (ay (xs:=[.tmp 36,.tmp 5]) call167 Z Z (OU b2 _ (s.take n) x agW (by rw [List.length_take];omega)) (fun v5 D a=>?_))
  obtain ⟨rfl,u,rfl,z⟩:=a
  refine ah Z (aB results136 Z ⟨g,u,rfl,?_⟩)
  rw [z]
  constructor
  ·intro h
   refine rM fun j i=>?_
   rcases Nat.lt_or_ge j n with q|q
   ·have:=BI h (j:=j) (by rw [List.length_take];omega)
    rwa [aX (by rw [List.length_take];omega),List.getElem_take,← aX (d:=0)] at this
   exact c j q i
  intro h
  refine rM fun j i=>?_
  rw [List.length_take] at i
  have:=BI h (j:=j) omX
  rwa [aX (by rw [List.length_take];omega),List.getElem_take,← aX (d:=0)]
structure UnV where
 nm:Str
 pp:Int
 gv:Value
 gs:List Int
 vv:Value
 vs:List Int
 pv:Value
 ps:List Int
 wt:Bool
def u0:UnV:=⟨[],0,.slice none 0 0,[],.slice none 0 0,[],.slice none 0 0,[],false⟩
def UnV.cells (u:UnV):List Value:=[str u.nm,.int .i64 u.pp,u.gv,u.vv,u.pv,.bool u.wt]
def UnV.val (u:UnV):Value:=.agg u.cells.toArray
structure UnV.ok (lo:Nat) (w:World) (u:UnV):Prop where
 g:Ints .i64 lo w u.gv u.gs
 v:Ints .i64 lo w u.vv u.vs
 p:Ints .i64 lo w u.pv u.ps
 n:u.nm.length≤9223372036854775807
theorem UnV.ok.keep {lo:Nat} {w w':World} {u:UnV} (h:u.ok lo w) (k:Keep lo w w'):u.ok lo w':=⟨h.g.keep k,h.v.keep k,h.p.keep k,h.n⟩
theorem UnV.ok.mono {lo a:Nat} {w:World} {u:UnV} (h:u.ok lo w) (b:a≤lo):u.ok a w:=⟨h.g.mono b,h.v.mono b,h.p.mono b,h.n⟩
theorem UnV.Vq (u:UnV):u.cells.length=6:=rfl
def iR (us:List UnV):List Value:=(us.map UnV.cells).flatten
theorem rO (us vs:List UnV):iR (us++vs)=iR us++iR vs:=by simp [iR]
theorem vk (u:UnV):iR [u]=u.cells:=by simp [iR]
theorem CS:∀ (us:List UnV) (n:Nat),(iR us).take (n*6)=iR (us.take n)
 | [],n=>by simp [iR]
 | u::r,0=>by simp [iR]
 | u::r,n+1=>by
  have:=CS r n
  simp only [iR,List.map_cons,List.flatten_cons,List.take_succ_cons] at this ⊢
  rw [show (n+1)*6=u.cells.length+n*6 by rw [u.Vq];omega,List.take_length_add_append,this]
theorem Fj {us:List UnV} (h:∀ u∈us,u.ok lo w):∀ c∈iR us,c.oneCell'=true:=fun c b=>by
 obtain ⟨l,d,a⟩:=List.mem_flatten.1 b
 obtain ⟨u,e,rfl⟩:=List.mem_map.1 d
 have ho:=h u e
 simp only [UnV.cells,List.mem_cons,List.mem_nil_iff,or_false] at a
 rcases a with rfl|rfl|rfl|rfl|rfl|rfl
 ·rfl
 ·rfl
 ·exact Sl.one ho.g
 ·exact Sl.one ho.v
 ·exact Sl.one ho.p
 rfl
theorem UnV.ok.one {u:UnV} (h:u.ok lo w):∀ c∈u.cells,c.oneCell'=true:=fun c a=>Fj (us:=[u]) (fun x hx=>by rw [List.mem_singleton.1 hx];exact h) c (by rw [vk];exact a)
structure Units (lo:Nat) (w:World) (v:Value) (us:List UnV):Prop where
 sl:Sl lo w v us.length 6 (iR us)
 ok:∀ u∈us,u.ok lo w
theorem Units.keep {lo:Nat} {w w':World} {v:Value} {us:List UnV} (h:Units lo w v us) (k:Keep lo w w'):Units lo w' v us:=⟨h.sl.keep k,fun u a=>(h.ok u a).keep k⟩
theorem Units.mono {lo a:Nat} {w:World} {v:Value} {us:List UnV} (h:Units lo w v us) (b:a≤lo):Units a w v us:=⟨h.sl.mono b,fun u c=>(h.ok u c).mono b⟩
theorem Units.row {us:List UnV} (h:Units lo w v us) (hi:i<us.length):Row w ((jX v).add ((i:Int).toNat*6)) (us.getD i u0).cells:=by
 rw [Int.toNat_natCast]
 refine Sl.elem h.sl (fun c a=>?_) (i:=i) ?_ omX
 ·obtain ⟨u,_,rfl⟩:=List.mem_map.1 a;rfl
 simp [List.getD,hi]
theorem Units.at {us:List UnV} (h:Units lo w v us) (hi:i<us.length):(us.getD i u0).ok lo w:=h.ok _ (by rw [aX hi];exact List.getElem_mem hi)
structure RoV where
 G:Int
 P:Int
 L:Int
 uv:Value
 us:List UnV
def RoV.cells (r:RoV):List Value:=[.int .i64 r.G,.int .i64 r.P,.int .i64 r.L,r.uv]
def RoV.val (r:RoV):Value:=.agg r.cells.toArray
def RoV.ok (lo:Nat) (w:World) (r:RoV):Prop:=Units lo w r.uv r.us
theorem RoV.ok.keep {lo:Nat} {w w':World} {r:RoV} (h:r.ok lo w) (k:Keep lo w w'):r.ok lo w':=Units.keep h k
theorem RoV.ok.ext {w':World} {r:RoV} (h:r.ok lo w) (k:Ext w w'):r.ok lo w':=Units.keep h (k.mono lzX)
theorem UnV.ok.ext {w':World} {u:UnV} (h:u.ok lo w) (k:Ext w w'):u.ok lo w':=h.keep (k.mono lzX)
theorem Units.ext {w':World} {us:List UnV} (h:Units lo w v us) (k:Ext w w'):Units lo w' v us:=h.keep (k.mono lzX)
def gX (u:UnV):Int:=if u.wt then 0 else 1000000000
def nK (u:UnV):Int:=if u.wt then 0 else 63
def zn (r:RoV) (u:UnV):List Bool:=[!decide (u.nm = []),decide ((u.nm.length:Int)≤12),u.nm.all kK,decide (0≤u.pp),decide (u.pp≤gX u),dZ u.gs r.G u.pp,dZ u.vs r.P (gX u),dZ u.ps r.L (nK u)]
def gK (r:RoV) (u:UnV):Bool:=(zn r u).all id
theorem kU {b:Nat} {bs:List Bool} {t:TypeId} {n:Nat} (h:Blk w b (bs.map Value.bool) t) (hn:bs.length=n) (c:n≤maxLen) (a:lo≤b):Bools lo w (.slice (some ⟨b,0,none⟩) n n) bs:=by
 subst hn;exact Sl.bI h spX leX c a
def CU (s:Str) (v:Value) (w:World):Prop:=∃ t,v=str t∧(t = []↔s.all kK=true)
theorem CU.st : ∀ v w w',Ext w w'→CU s v w→CU s v w':=fun _ _ _ _ h=>h
theorem rQ (lo:Nat) (r:RoV) (u:UnV) (w:World) (s:u.ok lo w) :
  Calls Tryz.prog 80 #[r.val,u.val] w (Ret fun v w'=>v = .bool (gK r u)∧Ext w w'):=by
 refine aJ (vs:=[r.val,u.val]) func80 Z ntmps80 Z ?_
 refine au (bM Z (fun b1 w1 y z i hB1=>?_))
 refine bM Z (fun b2 j A B f hB2=>?_)
 have xq:=i.trans f
 have d:Blk j b1 r.cells _:=hB1.ext f
 have hC2:Blk j b2 u.cells _:=hB2
 refine ah Z (fK Z (ah Z (aj (au (aC Z (hC2.cell Z) (?_))))))
 have e:=s.ext xq
 refine ak (?_)
 refine dS (σ:=Unit) (fun _=>[(2,.pointer (some ⟨b1,0,none⟩)),(3,.pointer (some ⟨b2,0,none⟩)),(5,.int .i64 (gX u)),(6,.int .i64 (nK u))]) (fun _ w'=>w'=j) ?_ ?_
 ·have x:u.wt=u.wt:=rfl
  rcases c:u.wt with _|_
  ·refine bn (T.skip (bC (()) ⟨rfl,rfl,?_,?_,trivial⟩ Z))
   ·rw [gX,c];rfl
   rw [nK,c];rfl
  refine aZ (aA (L.a Z (ah Z (bC (()) ⟨rfl,rfl,?_,?_,trivial⟩ Z))))
  ·rw [gX,c];rfl
  rw [nK,c];rfl
 rintro _ H rfl
 refine aj (?_)
 refine uh mixed 37 [3,5,2,6] Z (.is _ :: .is _ :: .is _ :: .is _ :: .is _ :: .is _ :: .is _ :: .is _ :: .is _ :: .such (CU u.nm) :: .is (.bool (u.nm.all kK)) :: .is _ :: .is _ :: .is _ :: .is _ :: .is _ :: .is _ :: .is _ :: .is _ :: .is _ :: .is _ :: .is _ :: .is _ :: .is _ :: .is (.bool (dZ u.gs r.G u.pp)) :: .is _ :: .is _ :: .is _ :: .is _ :: .is _ :: .is (.bool (dZ u.vs r.P (gX u))) :: .is _ :: .is _ :: .is _ :: .is _ :: .is _ :: .is (.bool (dZ u.ps r.L (nK u))) :: []) ([] :: [0] :: [1] :: [] :: [3] :: [4] :: [5] :: [] :: [7] :: [8] :: [9] :: [] :: [11] :: [12] :: [] :: [14] :: [] :: [15,16] :: [] :: [18] :: [] :: [20] :: [] :: [22] :: [19,21,23] :: [] :: [25] :: [] :: [27] :: [] :: [26,28,29] :: [] :: [31] :: [] :: [33] :: [] :: [32,34,35] :: []) ([] :: [0] :: [0,1] :: [] :: [3] :: [3,4] :: [3,4,5] :: [] :: [7] :: [7,8] :: [7,8,9] :: [] :: [11] :: [11,12] :: [] :: [14] :: [] :: [14,15,16] :: [] :: [18] :: [] :: [20] :: [] :: [22] :: [7,8,9,18,19,20,21,22,23] :: [] :: [25] :: [] :: [27] :: [] :: [7,8,9,18,19,20,21,22,23,24,25,26,27,28,29] :: [] :: [31] :: [] :: [33] :: [] :: [7,8,9,18,19,20,21,22,23,24,25,26,27,28,29,30,31,32,33,34,35]::(0::1::2::3::4::5::6::7::8::9::10::11::12::13::14::15::16::17::18::19::20::21::22::23::24::25::26::27::28::29::30::31::32::33::34::35::36 :: [])::(0::1::2::3::4::5::6::7::8::9::10::11::12::13::14::15::16::17::18::19::20::21::22::23::24::25::26::27::28::29::30::31::32::33::34::35::36::37 :: [])::(0::1::2::3::4::5::6::7::8::9::10::11::12::13::14::15::16::17::18::19::20::21::22::23::24::25::26::27::28::29::30::31::32::33::34::35::36::37::38 :: []) :: []) krX krX Z krX ⟨CU.st,trivial⟩ ⟨fun b hx=>Ob.fa rfl,
   fun b hx=>aS rfl ((hC2.ext hx).cell rfl),
   fun b hx=>Ob.o (uj runUnderlying9 Z Z kR),
   fun b hx=>Ob.fa rfl,
   fun b hx=>aS rfl ((hC2.ext hx).cell rfl),
   fun b hx=>Ob.o (dB runUnderlying9 Z kR),
   fun b hx=>Ob.o (jS Z Z kR),
   fun b hx=>Ob.fa rfl,
   fun b hx=>aS rfl ((hC2.ext hx).cell rfl),
   fun b hx=>Ob.o (ay (xs:=[.tmp 17,_]) call136 Z Z (Td u.nm b s.n) (fun v wy h=>⟨h.1,h.2⟩)),
   fun b hx k aeE=>by { obtain ⟨t,rfl,C⟩:=aeE;exact Ob.o (qg runUnderlying9 Z Z ⟨Keep.refl _ _,by rw [show decide (t = [])=u.nm.all kK from by rw [Bool.eq_iff_iff,decide_eq_true_eq];exact C];rfl⟩) },
   fun b hx=>Ob.fa rfl,
   fun b hx=>aS rfl ((hC2.ext hx).cell rfl),
   fun b hx=>Ob.o (kH Z Z kR),
   fun b hx=>Ob.fa rfl,
   fun b hx=>aS rfl ((hC2.ext hx).cell rfl),
   fun b hx=>aF rfl,
   fun b hx=>Ob.o (jS Z Z kR),
   fun b hx=>Ob.fa rfl,
   fun b hx=>aS rfl ((hC2.ext hx).cell rfl),
   fun b hx=>Ob.fa rfl,
   fun b hx=>aS rfl ((d.ext hx).cell rfl),
   fun b hx=>Ob.fa rfl,
   fun b hx=>aS rfl ((hC2.ext hx).cell rfl),
   fun b hx=>Ob.o (ay (xs:=[.tmp 28,.tmp 30,.tmp 32]) call137 Z Z (um lo u.gv u.gs r.G u.pp b (e.g.ext hx)) (fun v wy h=>⟨h.2,h.1⟩)),
   fun b hx=>Ob.fa rfl,
   fun b hx=>aS rfl ((hC2.ext hx).cell rfl),
   fun b hx=>Ob.fa rfl,
   fun b hx=>aS rfl ((d.ext hx).cell rfl),
   fun b hx=>aF rfl,
   fun b hx=>Ob.o (ay (xs:=[.tmp 35,.tmp 37,.tmp 38]) call137 Z Z (um lo u.vv u.vs r.P (gX u) b (e.v.ext hx)) (fun v wy h=>⟨h.2,h.1⟩)),
   fun b hx=>Ob.fa rfl,
   fun b hx=>aS rfl ((hC2.ext hx).cell rfl),
   fun b hx=>Ob.fa rfl,
   fun b hx=>aS rfl ((d.ext hx).cell rfl),
   fun b hx=>aF rfl,
   fun b hx=>Ob.o (ay (xs:=[.tmp 41,.tmp 43,.tmp 44]) call137 Z Z (um lo u.pv u.ps r.L (nK u) b (e.p.ext hx)) (fun v wy h=>⟨h.2,h.1⟩)),
   trivial⟩ (fun I l k aeE=>?_)
 refine L.o (aH (el:=4) (parts:=[(0,.tmp 11),(1,.tmp 15),(2,.tmp 19),(3,.tmp 22),(4,.tmp 26),(5,.tmp 33),(6,.tmp 39),(7,.tmp 45)]) (vs:=[(0,_),(1,_),(2,_),(3,_),(4,_),(5,_),(6,_),(7,_)]) (cs:=((zn r u).map Value.bool)) Z (fun w=>by kernel_rfl) (fun b5 D E F m q=>?_))
 refine L.o (ay (xs:=[.tmp 46]) call79 Z Z (mQ 0 _ (zn r u) D (kU q Z dcX lzX)) (fun J K x=>?_))
 obtain ⟨rfl,rfl⟩:=x
 refine ah Z (aB results80 Z ⟨rfl,(xq.trans l).trans m⟩)
theorem CV {r:RoV} {u:UnV} : gK r u=true↔uo u.nm=true∧0≤u.pp∧u.pp≤gX u∧dZ u.gs r.G u.pp=true∧dZ u.vs r.P (gX u)=true∧dZ u.ps r.L (nK u)=true:=by
 have c:(¬ u.nm = []∧(u.nm.length:Int)≤12∧u.nm.all kK=true)↔uo u.nm=true:=by
  simp only [uo,Bool.and_eq_true,decide_eq_true_eq]
  have:u.nm = []↔u.nm.length=0:=List.length_eq_zero_iff.symm
  rw [this]
  constructor
  ·rintro ⟨a,d,b⟩;exact ⟨b,omX,omX⟩
  rintro ⟨a,d,b⟩;exact ⟨omX,omX,a⟩
 rw [← c]
 simp only [gK,zn,List.all_cons,List.all_nil,id,Bool.and_eq_true,decide_eq_true_eq,Bool.not_eq_true',decide_eq_false_iff_not,and_true,and_assoc]
theorem oH {r:RoV} {u:UnV} (h:¬ (uo u.nm=true∧0≤u.pp∧u.pp≤gX u∧dZ u.gs r.G u.pp=true∧dZ u.vs r.P (gX u)=true∧dZ u.ps r.L (nK u)=true)):gK r u=false:=by
 cases a:gK r u
 ·rfl
 exact absurd (CV.1 a) h
theorem CW {m':Int} (h:dZ xs n m=true) (b:m≤m'):dZ xs n m'=true:=by
 rw [within_iff] at h ⊢
 exact ⟨h.1,fun j a=>⟨(h.2 j a).1,by have:=(h.2 j a).2;omega⟩⟩
theorem YW (u:UnV):0≤gX u∧gX u≤1000000000:=by unfold gX;split <;> omega
theorem aeF (u:UnV):0≤nK u∧nK u≤63:=by unfold nK;split <;> omega
theorem KQ (lo:Nat) (r:RoV) (u:UnV) (w:World) (y:u.ok lo w) :
  Calls Tryz.prog 81 #[r.val,u.val] w (Ret fun v w'=>v = .bool (gK r u)∧Ext w w'):=by
 refine aJ (vs:=[r.val,u.val]) func81 Z ntmps81 Z ?_
 refine au (bM Z (fun b1 w1 A B l hB1=>?_))
 refine bM Z (fun b2 q C D f hB2=>?_)
 have a:=l.trans f
 have b:Blk q b1 r.cells _:=hB1.ext f
 have hC2:Blk q b2 u.cells _:=hB2
 have c:=y.ext a
 have s:=YW u
 have t:=aeF u
 refine ah Z (aj (au (aC Z (hC2.cell Z) (L.o (ay (xs:=[.tmp 6]) call138 Z Z (OM u.nm q y.n) (fun v3 E d=>?_))))))
 obtain ⟨rfl,rfl⟩:=d
 cases hn:uo u.nm
 ·refine bT Z (L.m Z (L.pp (L.p (aG Z (L.m Z (L.pp (L.p (aG Z (aW (au (ah Z (aB results81 Z ⟨by rw [oH (fun h=>by rw [hn] at h;cases h.1)],a⟩))))))))))))
 refine bT Z (L.m Z (aC Z (hC2.cell Z) (bH Z Z (fun h0=>?_) (fun h0=>?_))))
 ·refine aI Z (L.m Z (L.pp (L.p (aG Z (aW (au (ah Z (aB results81 Z ⟨by rw [oH (fun h=>by have:=h.2.1;omega)],a⟩))))))))
 refine aI Z (L.m Z (aC Z (hC2.cell Z) (dY Z Z (fun F=>?_) (fun F=>?_))))
 ·refine aI Z (aW (au (ah Z (aB results81 Z ⟨by rw [oH (fun h=>by have:=h.2.2.1;omega)],a⟩))))
 refine aI Z (aU (T.skip (aj (au (aC Z (hC2.cell Z) (aC Z (b.cell Z) (aC Z (hC2.cell Z) (L.o (ay (xs:=[.tmp 20,.tmp 22,.tmp 24]) call139 Z Z (lI lo u.gv u.gs r.G u.pp E c.g) (fun v4 H d=>?_))))))))))
 obtain ⟨rfl,rfl⟩:=d
 cases x:dZ u.gs r.G u.pp
 ·refine bT Z (L.m Z (L.pp (L.pp (L.pp (aG Z (L.m Z (L.pp (L.pp (L.pp (aG Z (aW (au (ah Z (aB results81 Z ⟨by rw [oH (fun h=>by rw [x] at h;cases h.2.2.2.1)],a⟩))))))))))))))
 refine bT Z (L.m Z (aC Z (hC2.cell Z) (aC Z (b.cell Z) (L.o (ay (xs:=[.tmp 29,.tmp 31,.const (.int .i64 1000000000)]) call139 Z Z (lI lo u.vv u.vs r.P 1000000000 H c.v) (fun v5 I d=>?_))))))
 obtain ⟨rfl,rfl⟩:=d
 cases hv:dZ u.vs r.P 1000000000
 ·refine bT Z (aI Z (L.m Z (L.pp (L.pp (L.pp (aG Z (aW (au (ah Z (aB results81 Z ⟨by rw [oH (fun h=>by have:=CW h.2.2.2.2.1 s.2;rw [hv] at this;cases this)],a⟩))))))))))
 refine bT Z (aI Z (L.m Z (aC Z (hC2.cell Z) (aC Z (b.cell Z) (L.o (ay (xs:=[.tmp 37,.tmp 39,.const (.int .i64 63)]) call139 Z Z (lI lo u.pv u.ps r.L 63 I c.p) (fun M J d=>?_)))))))
 obtain ⟨rfl,rfl⟩:=d
 cases z:dZ u.ps r.L 63
 ·refine bT Z (aI Z (aW (au (ah Z (aB results81 Z ⟨by rw [oH (fun h=>by have:=CW h.2.2.2.2.2 t.2;rw [z] at this;cases this)],a⟩)))))
 refine bT Z (aI Z (aU (T.skip (aj (au (aC Z (hC2.cell Z) (?_)))))))
 rcases e:u.wt with _|_
 ·refine aU (T.skip (au (ah Z (aB results81 Z ⟨?_,a⟩))))
  have e1:gX u=1000000000:=by unfold gX;rw [e];rfl
  have k:nK u=63:=by unfold nK;rw [e];rfl
  rw [CV.2 ⟨hn,omX,omX,x,by rw [e1];exact hv,by rw [k];exact z⟩]
 refine ak (?_)
 have e1:gX u=0:=by unfold gX;rw [e];rfl
 have k:nK u=0:=by unfold nK;rw [e];rfl
 refine aZ (au (aC Z (hC2.cell Z) (dK Z Z (fun K=>?_) (fun K=>?_))))
 ·refine L.m Z (aC Z (hC2.cell Z) (aC Z (b.cell Z) (L.o (ay (xs:=[.tmp 50,.tmp 52,.const (.int .i64 0)]) call139 Z Z (lI lo u.vv u.vs r.P 0 J c.v) (fun N w7 d=>?_)))))
  obtain ⟨rfl,rfl⟩:=d
  cases i:dZ u.vs r.P 0
  ·refine aG Z (L.m Z (L.pp (L.pp (L.p (aI Z (ah Z (aB results81 Z ⟨by rw [oH (fun h=>by have:=h.2.2.2.2.1;rw [e1,i] at this;cases this)],a⟩)))))))
  refine aG Z (L.m Z (aC Z (hC2.cell Z) (aC Z (b.cell Z) (L.o (ay (xs:=[.tmp 57,.tmp 59,.const (.int .i64 0)]) call139 Z Z (lI lo u.pv u.ps r.L 0 w7 c.p) (fun O Q d=>?_))))))
  obtain ⟨rfl,rfl⟩:=d
  refine aG Z (ah Z (aB results81 Z ⟨?_,a⟩))
  cases j:dZ u.ps r.L 0
  ·rw [oH (fun h=>by have:=h.2.2.2.2.2;rw [k,j] at this;cases this)]
  rw [CV.2 ⟨hn,omX,omX,x,by rw [e1];exact i,by rw [k];exact j⟩]
 refine L.m Z (L.pp (L.pp (L.p (aI Z (L.m Z (L.pp (L.pp (L.p (aI Z (ah Z (aB results81 Z ⟨by rw [oH (fun h=>by have:=h.2.2.1;omega)],a⟩)))))))))))
def Fp (r:RoV):List Bool:=[decide (0≤r.G),decide (r.G≤6),decide (0≤r.P),decide (r.P≤12),decide (0≤r.L),decide (r.L≤3),decide (0<(r.us.length:Int)),decide ((r.us.length:Int)≤64)]
theorem Iy {r:RoV} : (Fp r).all id=true↔0≤r.G∧r.G≤6∧0≤r.P∧r.P≤12∧0≤r.L∧r.L≤3∧0<(r.us.length:Int)∧(r.us.length:Int)≤64:=by
 simp only [Fp,List.all_cons,List.all_nil,id,Bool.and_eq_true,decide_eq_true_eq,and_true]
structure GoodAt (r:RoV) (j:Nat):Prop where
 right:gK r (r.us.getD j u0)=true
 name:∀ k,k<j→(r.us.getD k u0).nm≠(r.us.getD j u0).nm
 water:∀ k,k<j→(r.us.getD k u0).wt=true→(r.us.getD j u0).wt=true
 first:j=0→(r.us.getD j u0).wt=false
structure gG (r:RoV):Prop where
 bnd:(Fp r).all id=true
 good:∀ j,j<r.us.length→GoodAt r j
noncomputable def ji (r:RoV):Int:=@ite _ (gG r) (Classical.propDecidable _) 0 161
theorem jy {r:RoV} (h:gG r):ji r=0:=by unfold ji;exact if_pos h
theorem gY {r:RoV} (h:¬ gG r):ji r=161:=by unfold ji;exact if_neg h
theorem CX {r:RoV} (h:∀ j,j<i→GoodAt r j) (hi:GoodAt r i):∀ j,j<i+1→GoodAt r j:=fun j a=>by
 by_cases e:j=i
 ·subst e;exact hi
 exact h j omX
def Tf (us:List UnV):Nat→Bool
 | 0=>false
 | i+1=>(us.getD i u0).wt
def uq (us:List UnV) (i:Nat) (kvs:List (Str × Bool)):Prop:=∀ s,(oN kvs s).getD false=true↔∃ k,k<i∧(us.getD k u0).nm=s
theorem uq.zero (us:List UnV):uq us 0 []:=fun s=>⟨fun h=>(by cases h),fun ⟨k,a,_⟩=>absurd a (Nat.not_lt_zero _)⟩
theorem uq.step {us:List UnV} {kvs:List (Str × Bool)} (h:uq us i kvs):uq us (i+1) (AZ kvs (us.getD i u0).nm true):=fun s=>by
 rw [Il]
 by_cases hs:s=(us.getD i u0).nm
 ·rw [if_pos hs];exact ⟨fun _=>⟨i,omX,hs.symm⟩,fun _=>rfl⟩
 rw [if_neg hs,h s]
 constructor
 ·rintro ⟨k,b,e⟩;exact ⟨k,omX,e⟩
 rintro ⟨k,b,e⟩
 refine ⟨k,?_,e⟩
 by_cases a:k=i
 ·subst a;exact absurd e.symm hs
 omega
def tu (r:RoV) (i:Nat) (kvs:List (Str × Bool)):List Bool:=[gK r (r.us.getD i u0),!(oN kvs (r.us.getD i u0).nm).getD false,(r.us.getD i u0).wt || !Tf r.us i,decide (0<(i:Int)) || !(r.us.getD i u0).wt]
theorem uw {r:RoV} {kvs:List (Str × Bool)} (hn:uq r.us i kvs) (h:∀ j,j<i→GoodAt r j):(tu r i kvs).all id=true↔GoodAt r i:=by
 simp only [tu,List.all_cons,List.all_nil,id,Bool.and_eq_true,and_true,Bool.not_eq_true',Bool.or_eq_true,decide_eq_true_eq]
 have g:(oN kvs (r.us.getD i u0).nm).getD false=false↔∀ k,k<i→(r.us.getD k u0).nm≠(r.us.getD i u0).nm:=by
  rw [← Bool.not_eq_true,hn]
  constructor
  ·intro a k f e;exact a ⟨k,f,e⟩
  rintro a ⟨k,f,e⟩;exact a k f e
 rw [g]
 constructor
 ·rintro ⟨a,l,b,c⟩
  refine ⟨a,l,fun k f m=>?_,fun e=>?_⟩
  ·rcases b with b|b
   ·exact b
   cases i with
   | zero=>omega
   | succ i =>
    have d:(r.us.getD i u0).wt=false:=b
    by_cases e:k=i
    ·subst e;rw [d] at m;cases m
    have:=(h i omX).water k omX m
    rw [d] at this;cases this
  rcases c with c|c
  ·omega
  exact c
 rintro ⟨a,l,b,c⟩
 refine ⟨a,l,?_,?_⟩
 ·cases i with
  | zero=>right;rfl
  | succ i =>
   cases d:(r.us.getD i u0).wt
   ·right;exact d
   left;exact b i omX d
 by_cases e:i=0
 ·right;exact c e
 left;omega
theorem uy (lo:Nat) (r:RoV) (w:World) (U:r.ok lo w) :
  Calls Tryz.prog 32 #[r.val] w (Ret fun v w'=>v = .int .i64 (ji r)∧Ext w w'):=by
 refine aJ (vs:=[r.val]) func32 Z ntmps32 Z ?_
 refine au (bM Z (fun b1 w1 ad ae C hB1=>?_))
 have n:Blk w1 b1 r.cells _:=hB1
 have R:Units lo w1 r.uv r.us:=U.ext C
 have af:=Sl.le R.sl
 refine ah Z (au (aC Z (n.cell Z) (L.le Z (Sl.val R.sl) (ah Z (aj (au (aC Z (n.cell Z) (L.o (kH Z Z (aC Z (n.cell Z) (L.o (jS Z Z (aC Z (n.cell Z) (L.o (kH Z Z (aC Z (n.cell Z) (L.o (jS Z Z (?_)))))))))))))))))))
 refine aC Z (n.cell Z) (L.o (kH Z Z (aC Z (n.cell Z) (L.o (jS Z Z (aO Z (kG Z Z (aO Z (jS Z Z (L.o (aH (el:=4) (parts:=[(0,.tmp 13),(1,.tmp 16),(2,.tmp 19),(3,.tmp 22),(4,.tmp 25),(5,.tmp 28),(6,.tmp 30),(7,.tmp 32)]) (vs:=[(0,_),(1,_),(2,_),(3,_),(4,_),(5,_),(6,_),(7,_)]) (cs:=((Fp r).map Value.bool)) Z (fun w=>by kernel_rfl) (fun b2 w2 ag ai A hB2=>?_))))))))))))
 refine L.o (ay (xs:=[.tmp 33]) call79 Z Z (mQ 0 _ (Fp r) w2 (kU hB2 Z dcX lzX)) (fun v3 w3 D=>?_))
 obtain ⟨rfl,rfl⟩:=D
 cases hb:(Fp r).all id
 ·refine bT Z (aW (au (ah Z (aB results32 Z ⟨by rw [gY (fun h=>by have:=h.bnd;rw [hb] at this;cases this)],C.trans A⟩))))
 refine bT Z (aU (T.skip (au (L.o (lG (kf:=str) (vf:=Value.bool) (fun b4 w4 al am H V=>?_))))))
 have xu:=(C.trans A).trans H
 have W:Units lo w4 r.uv r.us:=U.ext xu
 refine ah Z (au (ah Z (aj (au (aC Z ((n.ext (A.trans H)).cell Z) (L.le Z (Sl.val W.sl) (L.m Z (ak (T.block (?_))))))))))
 refine bf (σ:=Nat × List (Str × Bool)) (fun s=>[(1,.pointer (some ⟨b1,0,none⟩)),(4,.map (some b4)),(5,.bool (Tf r.us s.1)),(38,r.uv),(39,.int .i64 r.us.length),(40,.int .i64 s.1)]) (fun s w'=>s.1≤r.us.length∧Ext w w'∧w4.heap.size≤w'.heap.size∧Blk w' b1 r.cells 25∧wJ str Value.bool w' b4 s.2∧uq r.us s.1 s.2∧∀ j,j<s.1→GoodAt r j) (fun s=>r.us.length-s.1) ((0,[])) ⟨rfl,rfl,rfl,rfl,rfl,rfl,trivial⟩ ⟨Nat.zero_le _,xu,Nat.le_refl _,n.ext (A.trans H),V,uq.zero _,fun j hj=>absurd hj (Nat.not_lt_zero _)⟩ ?_
 rintro ⟨i,kvs⟩ w5 ⟨hi,l,an,X,B,e,d⟩
 have E:w.heap.size≤b4:=by have h1:=(C.trans A).size;omega
 have F:Units lo w5 r.uv r.us:=U.ext l
 refine au (bH Z Z (fun I=>?_) (fun I=>?_))
 ·refine ak (?_)
  have c:i<r.us.length:=by simpa using I
  refine aj (aZ (T.skip (aj (T.block (aQ Z (dG Z Z F.sl (aT Z Z (F.row c) (L.o (O.alloc zeroValue51 (fun S w6 ao ap Y aa=>?_))))))))))
  refine L.a Z (L.o (aK sizeOf51 Z Z Z aa leX (F.at c).one (fun w7 ab ac=>?_)))
  have EO:Blk w7 S (r.us.getD i u0).cells 51:=ac
  have KR:Ext w5 w7:=Y.upd ab (.inr omX)
  have t:=X.ext KR
  have u:=B.ext KR
  have G:=(F.at c).ext KR
  rcases x:(r.us.getD i u0).wt with _|_
  ·refine ak (?_)
   by_cases p:0<(i:Int)
   ·have q:Blk w7 S [str (r.us.getD i u0).nm,.int .i64 (r.us.getD i u0).pp,(r.us.getD i u0).gv,(r.us.getD i u0).vv,(r.us.getD i u0).pv,.bool false] 51:=by rw [← x];exact EO
    refine aj (aj (?_))
    refine dn mixed 21 [1,7,4,5,6] Z [.is _,.is _,.is (.bool (gK r (r.us.getD i u0))),.is _,.is _,.is _,.is _,.is _,.is _,.is _,.is _,.is _,.is _,.is _,.is _,.is _,.is _,.is undef,.is undef,.is undef,.is _] [[],[],[0,1],[],[],[4],[3,5],[6],[],[8],[9],[10],[11,10],[10,12],[],[14],[15],[16],[17,16],[18,16],[16,19]] trivial ⟨fun b hx=>bJ rfl rfl ((t.ext hx).row),
      fun b hx=>bJ rfl rfl ((EO.ext hx).row),
      fun b hx=>Ob.o (ay (xs:=[.tmp 45,.tmp 46]) call80 Z Z (rQ lo r (r.us.getD i u0) b (G.ext hx)) (fun v wy h=>⟨h.2,h.1⟩)),
      fun b hx=>aF rfl,
      fun b hx=>Ob.fa rfl,
      fun b hx=>aS rfl ((EO.ext hx).cell rfl),
      fun b hx=>Ob.o (qh (kf:=str) (vf:=Value.bool) (z0:=false) nT runUnderlying142 runUnderlying9 zeroValue4 Z Z (u.ext hx) kR),
      fun b hx=>Ob.o (oq Z kR),
      fun b hx=>Ob.fa rfl,
      fun b hx=>aS rfl ((q.ext hx).cell rfl),
      fun b hx=>aF rfl,
      fun b hx=>aF rfl,
      fun b hx=>Ob.o (oq Z kR),
      fun b hx=>oD rfl,
      fun b hx=>aF rfl,
      fun b hx=>Ob.o (iM Z Z p kR),
      fun b hx=>aF rfl,
      fun b hx=>aV rfl rfl,
      fun b hx=>aV rfl rfl,
      fun b hx=>aV rfl rfl,
      fun b hx=>jU rfl,
      trivial⟩ (fun w8 y=>?_)
    have f:tu r i kvs = [gK r (r.us.getD i u0),!(oN kvs (r.us.getD i u0).nm).getD false,!Tf r.us i,true]:=by simp only [tu,x];rw [decide_eq_true p];simp
    refine L.o (aH (el:=4) (parts:=[(0,.tmp 47),(1,.tmp 52),(2,.tmp 58),(3,.tmp 65)]) (vs:=[(0,_),(1,_),(2,_),(3,_)]) (cs:=([gK r (r.us.getD i u0),!(oN kvs (r.us.getD i u0).nm).getD false,!Tf r.us i,true].map Value.bool)) Z (fun w=>by kernel_rfl) (fun b9 J K M z g=>?_))
    rw [← f] at g
    refine L.o (ay (xs:=[.tmp 66]) call79 Z Z (mQ 0 _ (tu r i kvs) J (kU g Z dcX lzX)) (fun N P D=>?_))
    obtain ⟨rfl,rfl⟩:=D
    have rC:=y.trans z
    cases k:(tu r i kvs).all id
    ·refine bT Z (aW (au (ah Z (aB results32 Z ⟨by rw [gY (fun h=>by have:=(uw e d).2 (h.good i c);rw [k] at this;cases this)],(l.trans KR).trans rC⟩))))
    refine bT Z (aU (T.skip (aQ Z (aC Z ((EO.ext rC).cell Z) (L.o (jJ (kf:=str) (vf:=Value.bool) (v:=_) nT runUnderlying142 runUnderlying9 Z Z Z (u.ext rC) (fun Q nU Ti=>?_)))))))
    refine ak (aA (aC Z (((EO.ext rC).upd nU (by have:=B.lt;omega)).cell rfl) (?_)))
    have aeG:=rC.size
    refine ah Z (T.blk (aA (bF Z Z (L.m Z (ak (aP ((i+1,AZ kvs (r.us.getD i u0).nm true)) omX ⟨rfl,rfl,rfl,rfl,rfl,rfl,trivial⟩ ⟨c,((l.trans KR).trans rC).upd nU (.inr E),by have:=KR.size;have:=nU.size;omega,(t.ext rC).upd nU omX,Ti,e.step,CX d ((uw e d).1 k)⟩))))))
   have q:Blk w7 S [str (r.us.getD i u0).nm,.int .i64 (r.us.getD i u0).pp,(r.us.getD i u0).gv,(r.us.getD i u0).vv,(r.us.getD i u0).pv,.bool false] 51:=by rw [← x];exact EO
   refine aj (aj (?_))
   refine dn mixed 21 [1,7,4,5,6] Z [.is _,.is _,.is (.bool (gK r (r.us.getD i u0))),.is _,.is _,.is _,.is _,.is _,.is _,.is _,.is _,.is _,.is _,.is _,.is _,.is _,.is _,.is _,.is _,.is _,.is _] [[],[],[0,1],[],[],[4],[3,5],[6],[],[8],[9],[10],[11,10],[10,12],[],[14],[15],[16],[17,16],[18,16],[16,19]] trivial ⟨fun b hx=>bJ rfl rfl ((t.ext hx).row),
     fun b hx=>bJ rfl rfl ((EO.ext hx).row),
     fun b hx=>Ob.o (ay (xs:=[.tmp 45,.tmp 46]) call80 Z Z (rQ lo r (r.us.getD i u0) b (G.ext hx)) (fun v wy h=>⟨h.2,h.1⟩)),
     fun b hx=>aF rfl,
     fun b hx=>Ob.fa rfl,
     fun b hx=>aS rfl ((EO.ext hx).cell rfl),
     fun b hx=>Ob.o (qh (kf:=str) (vf:=Value.bool) (z0:=false) nT runUnderlying142 runUnderlying9 zeroValue4 Z Z (u.ext hx) kR),
     fun b hx=>Ob.o (oq Z kR),
     fun b hx=>Ob.fa rfl,
     fun b hx=>aS rfl ((q.ext hx).cell rfl),
     fun b hx=>aF rfl,
     fun b hx=>aF rfl,
     fun b hx=>Ob.o (oq Z kR),
     fun b hx=>oD rfl,
     fun b hx=>aF rfl,
     fun b hx=>Ob.o (gW Z Z p kR),
     fun b hx=>aF rfl,
     fun b hx=>Ob.fa rfl,
     fun b hx=>aS rfl ((q.ext hx).cell rfl),
     fun b hx=>Ob.o (oq Z kR),
     fun b hx=>oD rfl,
     trivial⟩ (fun w8 y=>?_)
   have f:tu r i kvs = [gK r (r.us.getD i u0),!(oN kvs (r.us.getD i u0).nm).getD false,!Tf r.us i,true]:=by simp only [tu,x];rw [decide_eq_false p];simp
   refine L.o (aH (el:=4) (parts:=[(0,.tmp 47),(1,.tmp 52),(2,.tmp 58),(3,.tmp 65)]) (vs:=[(0,_),(1,_),(2,_),(3,_)]) (cs:=([gK r (r.us.getD i u0),!(oN kvs (r.us.getD i u0).nm).getD false,!Tf r.us i,true].map Value.bool)) Z (fun w=>by kernel_rfl) (fun b9 J K M z g=>?_))
   rw [← f] at g
   refine L.o (ay (xs:=[.tmp 66]) call79 Z Z (mQ 0 _ (tu r i kvs) J (kU g Z dcX lzX)) (fun N P D=>?_))
   obtain ⟨rfl,rfl⟩:=D
   have rC:=y.trans z
   cases k:(tu r i kvs).all id
   ·refine bT Z (aW (au (ah Z (aB results32 Z ⟨by rw [gY (fun h=>by have:=(uw e d).2 (h.good i c);rw [k] at this;cases this)],(l.trans KR).trans rC⟩))))
   refine bT Z (aU (T.skip (aQ Z (aC Z ((EO.ext rC).cell Z) (L.o (jJ (kf:=str) (vf:=Value.bool) (v:=_) nT runUnderlying142 runUnderlying9 Z Z Z (u.ext rC) (fun Q nU Ti=>?_)))))))
   refine ak (aA (aC Z (((EO.ext rC).upd nU (by have:=B.lt;omega)).cell rfl) (?_)))
   have aeG:=rC.size
   refine ah Z (T.blk (aA (bF Z Z (L.m Z (ak (aP ((i+1,AZ kvs (r.us.getD i u0).nm true)) omX ⟨rfl,rfl,rfl,rfl,rfl,rfl,trivial⟩ ⟨c,((l.trans KR).trans rC).upd nU (.inr E),by have:=KR.size;have:=nU.size;omega,(t.ext rC).upd nU omX,Ti,e.step,CX d ((uw e d).1 k)⟩))))))
  refine ak (?_)
  by_cases p:0<(i:Int)
  ·have q:Blk w7 S [str (r.us.getD i u0).nm,.int .i64 (r.us.getD i u0).pp,(r.us.getD i u0).gv,(r.us.getD i u0).vv,(r.us.getD i u0).pv,.bool true] 51:=by rw [← x];exact EO
   refine aj (aj (?_))
   refine dn mixed 21 [1,7,4,5,6] Z [.is _,.is _,.is (.bool (gK r (r.us.getD i u0))),.is _,.is _,.is _,.is _,.is _,.is _,.is _,.is _,.is undef,.is undef,.is _,.is _,.is _,.is _,.is undef,.is undef,.is undef,.is _] [[],[],[0,1],[],[],[4],[3,5],[6],[],[8],[9],[10],[11,10],[10,12],[],[14],[15],[16],[17,16],[18,16],[16,19]] trivial ⟨fun b hx=>bJ rfl rfl ((t.ext hx).row),
     fun b hx=>bJ rfl rfl ((EO.ext hx).row),
     fun b hx=>Ob.o (ay (xs:=[.tmp 45,.tmp 46]) call80 Z Z (rQ lo r (r.us.getD i u0) b (G.ext hx)) (fun v wy h=>⟨h.2,h.1⟩)),
     fun b hx=>aF rfl,
     fun b hx=>Ob.fa rfl,
     fun b hx=>aS rfl ((EO.ext hx).cell rfl),
     fun b hx=>Ob.o (qh (kf:=str) (vf:=Value.bool) (z0:=false) nT runUnderlying142 runUnderlying9 zeroValue4 Z Z (u.ext hx) kR),
     fun b hx=>Ob.o (oq Z kR),
     fun b hx=>Ob.fa rfl,
     fun b hx=>aS rfl ((q.ext hx).cell rfl),
     fun b hx=>aF rfl,
     fun b hx=>aV rfl rfl,
     fun b hx=>aV rfl rfl,
     fun b hx=>jU rfl,
     fun b hx=>aF rfl,
     fun b hx=>Ob.o (iM Z Z p kR),
     fun b hx=>aF rfl,
     fun b hx=>aV rfl rfl,
     fun b hx=>aV rfl rfl,
     fun b hx=>aV rfl rfl,
     fun b hx=>jU rfl,
     trivial⟩ (fun w8 y=>?_)
   have f:tu r i kvs = [gK r (r.us.getD i u0),!(oN kvs (r.us.getD i u0).nm).getD false,true,true]:=by simp only [tu,x];rw [decide_eq_true p];simp
   refine L.o (aH (el:=4) (parts:=[(0,.tmp 47),(1,.tmp 52),(2,.tmp 58),(3,.tmp 65)]) (vs:=[(0,_),(1,_),(2,_),(3,_)]) (cs:=([gK r (r.us.getD i u0),!(oN kvs (r.us.getD i u0).nm).getD false,true,true].map Value.bool)) Z (fun w=>by kernel_rfl) (fun b9 J K M z g=>?_))
   rw [← f] at g
   refine L.o (ay (xs:=[.tmp 66]) call79 Z Z (mQ 0 _ (tu r i kvs) J (kU g Z dcX lzX)) (fun N P D=>?_))
   obtain ⟨rfl,rfl⟩:=D
   have rC:=y.trans z
   cases k:(tu r i kvs).all id
   ·refine bT Z (aW (au (ah Z (aB results32 Z ⟨by rw [gY (fun h=>by have:=(uw e d).2 (h.good i c);rw [k] at this;cases this)],(l.trans KR).trans rC⟩))))
   refine bT Z (aU (T.skip (aQ Z (aC Z ((EO.ext rC).cell Z) (L.o (jJ (kf:=str) (vf:=Value.bool) (v:=_) nT runUnderlying142 runUnderlying9 Z Z Z (u.ext rC) (fun Q nU Ti=>?_)))))))
   refine ak (aA (aC Z (((EO.ext rC).upd nU (by have:=B.lt;omega)).cell rfl) (?_)))
   have aeG:=rC.size
   refine ah Z (T.blk (aA (bF Z Z (L.m Z (ak (aP ((i+1,AZ kvs (r.us.getD i u0).nm true)) omX ⟨rfl,rfl,rfl,rfl,rfl,rfl,trivial⟩ ⟨c,((l.trans KR).trans rC).upd nU (.inr E),by have:=KR.size;have:=nU.size;omega,(t.ext rC).upd nU omX,Ti,e.step,CX d ((uw e d).1 k)⟩))))))
  have q:Blk w7 S [str (r.us.getD i u0).nm,.int .i64 (r.us.getD i u0).pp,(r.us.getD i u0).gv,(r.us.getD i u0).vv,(r.us.getD i u0).pv,.bool true] 51:=by rw [← x];exact EO
  refine aj (aj (?_))
  refine dn mixed 21 [1,7,4,5,6] Z [.is _,.is _,.is (.bool (gK r (r.us.getD i u0))),.is _,.is _,.is _,.is _,.is _,.is _,.is _,.is _,.is undef,.is undef,.is _,.is _,.is _,.is _,.is _,.is _,.is _,.is _] [[],[],[0,1],[],[],[4],[3,5],[6],[],[8],[9],[10],[11,10],[10,12],[],[14],[15],[16],[17,16],[18,16],[16,19]] trivial ⟨fun b hx=>bJ rfl rfl ((t.ext hx).row),
    fun b hx=>bJ rfl rfl ((EO.ext hx).row),
    fun b hx=>Ob.o (ay (xs:=[.tmp 45,.tmp 46]) call80 Z Z (rQ lo r (r.us.getD i u0) b (G.ext hx)) (fun v wy h=>⟨h.2,h.1⟩)),
    fun b hx=>aF rfl,
    fun b hx=>Ob.fa rfl,
    fun b hx=>aS rfl ((EO.ext hx).cell rfl),
    fun b hx=>Ob.o (qh (kf:=str) (vf:=Value.bool) (z0:=false) nT runUnderlying142 runUnderlying9 zeroValue4 Z Z (u.ext hx) kR),
    fun b hx=>Ob.o (oq Z kR),
    fun b hx=>Ob.fa rfl,
    fun b hx=>aS rfl ((q.ext hx).cell rfl),
    fun b hx=>aF rfl,
    fun b hx=>aV rfl rfl,
    fun b hx=>aV rfl rfl,
    fun b hx=>jU rfl,
    fun b hx=>aF rfl,
    fun b hx=>Ob.o (gW Z Z p kR),
    fun b hx=>aF rfl,
    fun b hx=>Ob.fa rfl,
    fun b hx=>aS rfl ((q.ext hx).cell rfl),
    fun b hx=>Ob.o (oq Z kR),
    fun b hx=>oD rfl,
    trivial⟩ (fun w8 y=>?_)
  have f:tu r i kvs = [gK r (r.us.getD i u0),!(oN kvs (r.us.getD i u0).nm).getD false,true,false]:=by simp only [tu,x];rw [decide_eq_false p];simp
  refine L.o (aH (el:=4) (parts:=[(0,.tmp 47),(1,.tmp 52),(2,.tmp 58),(3,.tmp 65)]) (vs:=[(0,_),(1,_),(2,_),(3,_)]) (cs:=([gK r (r.us.getD i u0),!(oN kvs (r.us.getD i u0).nm).getD false,true,false].map Value.bool)) Z (fun w=>by kernel_rfl) (fun b9 J K M z g=>?_))
  rw [← f] at g
  refine L.o (ay (xs:=[.tmp 66]) call79 Z Z (mQ 0 _ (tu r i kvs) J (kU g Z dcX lzX)) (fun N P D=>?_))
  obtain ⟨rfl,rfl⟩:=D
  have rC:=y.trans z
  cases k:(tu r i kvs).all id
  ·refine bT Z (aW (au (ah Z (aB results32 Z ⟨by rw [gY (fun h=>by have:=(uw e d).2 (h.good i c);rw [k] at this;cases this)],(l.trans KR).trans rC⟩))))
  refine bT Z (aU (T.skip (aQ Z (aC Z ((EO.ext rC).cell Z) (L.o (jJ (kf:=str) (vf:=Value.bool) (v:=_) nT runUnderlying142 runUnderlying9 Z Z Z (u.ext rC) (fun Q nU Ti=>?_)))))))
  refine ak (aA (aC Z (((EO.ext rC).upd nU (by have:=B.lt;omega)).cell rfl) (?_)))
  have aeG:=rC.size
  refine ah Z (T.blk (aA (bF Z Z (L.m Z (ak (aP ((i+1,AZ kvs (r.us.getD i u0).nm true)) omX ⟨rfl,rfl,rfl,rfl,rfl,rfl,trivial⟩ ⟨c,((l.trans KR).trans rC).upd nU (.inr E),by have:=KR.size;have:=nU.size;omega,(t.ext rC).upd nU omX,Ti,e.step,CX d ((uw e d).1 k)⟩))))))
 refine ak (aj (bn (aY Z (au (ah Z (aB results32 Z ⟨by rw [jy ⟨hb,fun j hj=>d j (by simp only at I;omega)⟩],l⟩))))))
theorem Units.water {us:List UnV} {b:Bool} (h:Units lo w v us) (hi:i<us.length) (a:(us.getD i u0).wt=b):w.cell? (((jX v).add ((i:Int).toNat*6)).add 5)=some (.bool b):=by
 have:=h.row hi 5 (.bool (us.getD i u0).wt) rfl
 rw [this,a]
theorem Units.name {us:List UnV} (h:Units lo w v us) (hi:i<us.length):w.cell? (((jX v).add ((i:Int).toNat*6)).add 0)=some (str (us.getD i u0).nm):=h.row hi 0 _ rfl
theorem Am {r:RoV} (h:¬ (0≤r.G∧r.G≤6∧0≤r.P∧r.P≤12∧0≤r.L∧r.L≤3∧0<(r.us.length:Int)∧(r.us.length:Int)≤64)):ji r=161:=gY fun a=>h (Iy.1 a.bnd)
theorem Iz {r:RoV} {j:Nat} (a:j<r.us.length) (h:¬ GoodAt r j):ji r=161:=gY fun b=>h (b.good j a)
theorem A8 (lo:Nat) (r:RoV) (w:World) (N:r.ok lo w) :
  Calls Tryz.prog 33 #[r.val] w (Ret fun v w'=>v = .int .i64 (ji r)∧Ext w w'):=by
 refine aJ (vs:=[r.val]) func33 Z ntmps33 Z ?_
 refine au (bM Z (fun b1 w1 O P d hB1=>?_))
 have g:Blk w1 b1 r.cells _:=hB1
 have n:Units lo w1 r.uv r.us:=N.ext d
 have Q:=Sl.le n.sl
 refine ah Z (aj (au (aC Z (g.cell Z) (bH Z Z (fun g0=>?_) (fun g0=>?_)))))
 ·refine L.m Z (L.pp (L.p (aG Z (L.m Z (L.pp (L.p (aG Z (L.m Z (L.pp (L.p (aG Z (L.m Z (L.pp (L.p (aG Z (L.m Z (L.pp (L.p (?_)))))))))))))))))))
  refine aG Z (aW (au (ah Z (aB results33 Z ⟨by rw [Am omX],d⟩))))
 refine L.m Z (aC Z (g.cell Z) (dY Z Z (fun g1=>?_) (fun g1=>?_)))
 ·refine aI Z (L.m Z (L.pp (L.p (aG Z (L.m Z (L.pp (L.p (aG Z (L.m Z (L.pp (L.p (aG Z (L.m Z (L.pp (L.p (aG Z (aW (aj (?_)))))))))))))))))))
  refine aA (ah Z (aB results33 Z ⟨by rw [Am omX],d⟩))
 refine aI Z (L.m Z (aC Z (g.cell Z) (bH Z Z (fun g2=>?_) (fun g2=>?_))))
 ·refine aI Z (L.m Z (L.pp (L.p (aG Z (L.m Z (L.pp (L.p (aG Z (L.m Z (L.pp (L.p (aG Z (aW (au (ah Z (aB results33 Z ⟨by rw [Am omX],d⟩))))))))))))))))
 refine aI Z (L.m Z (aC Z (g.cell Z) (dY Z Z (fun g3=>?_) (fun g3=>?_))))
 ·refine aI Z (L.m Z (L.pp (L.p (aG Z (L.m Z (L.pp (L.p (aG Z (aW (au (ah Z (aB results33 Z ⟨by rw [Am omX],d⟩))))))))))))
 refine aI Z (L.m Z (aC Z (g.cell Z) (bH Z Z (fun g4=>?_) (fun g4=>?_))))
 ·refine aI Z (L.m Z (L.pp (L.p (aG Z (aW (au (ah Z (aB results33 Z ⟨by rw [Am omX],d⟩))))))))
 refine aI Z (L.m Z (aC Z (g.cell Z) (dY Z Z (fun g5=>?_) (fun g5=>?_))))
 ·refine aI Z (aW (au (ah Z (aB results33 Z ⟨by rw [Am omX],d⟩))))
 refine aI Z (aU (T.skip (aj (au (aC Z (g.cell Z) (L.le Z (Sl.val n.sl) (bH Z Z (fun g6=>?_) (fun g6=>?_))))))))
 ·refine L.m Z (L.pp (L.pp (aG Z (L.m Z (L.pp (L.pp (L.p (aG Z (aW (au (ah Z (aB results33 Z ⟨by rw [Am omX],d⟩))))))))))))
 refine L.m Z (aC Z (g.cell Z) (L.le Z (Sl.val n.sl) (dY Z Z (fun g7=>?_) (fun g7=>?_))))
 ·refine aI Z (L.m Z (L.pp (L.pp (L.p (aG Z (aW (au (ah Z (aB results33 Z ⟨by rw [Am omX],d⟩)))))))))
 have B:0<r.us.length:=by omega
 refine aI Z (L.m Z (aC Z (g.cell Z) (jI Z Z n.sl dcX omX (?_))))
 rcases y:(r.us.getD 0 u0).wt with _|_
 ·refine aC Z (n.water B y) (?_)
  have aeH:=(Iy (r:=r)).2 ⟨omX,omX,omX,omX,omX,omX,omX,omX⟩
  refine aI Z (aU (T.skip (aj (au (ah Z (T.block (?_)))))))
  refine bf (σ:=Nat) (fun i=>[(1,.pointer (some ⟨b1,0,none⟩)),(3,.int .i64 i)]) (fun i w'=>i≤r.us.length∧Ext w1 w'∧∀ j,j<i→GoodAt r j) (fun i=>r.us.length-i) (0) ⟨rfl,rfl,trivial⟩ ⟨Nat.zero_le _,Keep.refl _ _,fun j t=>absurd t (Nat.not_lt_zero _)⟩ ?_
  rintro i U ⟨hi,u,E⟩
  have hC2:=g.ext u
  have z:=n.ext u
  refine aj (aQ Z (aC Z (hC2.cell Z) (L.le Z (Sl.val z.sl) (bH Z Z (fun J=>?_) (fun J=>?_)))))
  ·refine ak (?_)
   have c:i<r.us.length:=by omega
   refine aZ (T.skip (aj (T.block (aj (aj (?_))))))
   refine dn mixed 6 [1,3] Z [.is _,.is _,.is _,.is _,.is _,.is _] [[],[],[1],[],[2,3],[4]] trivial ⟨fun a hx=>bJ rfl rfl ((hC2.ext hx).row),
     fun a hx=>Ob.fa rfl,
     fun a hx=>aS rfl ((hC2.ext hx).cell rfl),
     fun a hx=>aF rfl,
     fun a hx=>bQ rfl rfl ((z.ext hx).sl),
     fun a hx=>bJ rfl rfl ((z.ext hx).row c),
     trivial⟩ (fun R C=>?_)
   refine L.o (ay (xs:=[.tmp 57,.tmp 62]) call81 Z Z (KQ lo r (r.us.getD i u0) R ((z.at c).ext C)) (fun v4 V S=>?_))
   obtain ⟨rfl,F⟩:=S
   cases G:gK r (r.us.getD i u0)
   ·refine bT Z (aW (au (ah Z (aB results33 Z ⟨by rw [Iz c (fun h=>by have:=h.right;rw [G] at this;cases this)],d.trans ((u.trans C).trans F)⟩))))
   have je:=(u.trans C).trans F
   refine bT Z (aU (T.skip (au (ah Z (T.block (?_))))))
   refine bf (σ:=Nat) (fun k=>[(1,.pointer (some ⟨b1,0,none⟩)),(3,.int .i64 i),(4,.int .i64 k)]) (fun k w'=>k≤i∧Ext w1 w'∧(∀ j,j<k→(r.us.getD j u0).nm≠(r.us.getD i u0).nm)∧∀ j,j<k→(r.us.getD j u0).wt=true→(r.us.getD i u0).wt=true) (fun k=>i-k) (0) ⟨rfl,rfl,rfl,trivial⟩ ⟨Nat.zero_le _,je,fun j t=>absurd t (Nat.not_lt_zero _),fun j t=>absurd t (Nat.not_lt_zero _)⟩ ?_
   rintro k W ⟨X,q,D,H⟩
   have f:=g.ext q
   have b:=n.ext q
   refine aj (au (aN Z Z (bH Z Z (fun K=>?_) (fun K=>?_))))
   ·refine ak (?_)
    have Om:k<r.us.length:=by omega
    by_cases s:(r.us.getD k u0).nm=(r.us.getD i u0).nm
    ·refine aZ (T.skip (aj (T.block (aj (?_)))))
     refine dn mixed 24 [1,4,3] Z [.is _,.is _,.is _,.is _,.is _,.is _,.is _,.is _,.is _,.is _,.is _,.is _,.is _,.is _,.is undef,.is undef,.is undef,.is undef,.is undef,.is undef,.is undef,.is undef,.is undef,.is undef] [[],[0],[],[1,2],[3],[4],[],[6],[],[7,8],[9],[10],[5,11],[12],[13],[14,13],[13],[15,16,13],[17,13],[18,13],[19,13],[20],[21,20],[20]] trivial ⟨fun a hx=>Ob.fa rfl,
       fun a hx=>aS rfl ((f.ext hx).cell rfl),
       fun a hx=>aF rfl,
       fun a hx=>bQ rfl rfl ((b.ext hx).sl),
       fun a hx=>Ob.fa rfl,
       fun a hx=>aS rfl ((b.ext hx).name Om),
       fun a hx=>Ob.fa rfl,
       fun a hx=>aS rfl ((f.ext hx).cell rfl),
       fun a hx=>aF rfl,
       fun a hx=>bQ rfl rfl ((b.ext hx).sl),
       fun a hx=>Ob.fa rfl,
       fun a hx=>aS rfl ((b.ext hx).name c),
       fun a hx=>Ob.o (fD runUnderlying9 Z Z s kR),
       fun a hx=>aF rfl,
       fun a hx=>aV rfl rfl,
       fun a hx=>aV rfl rfl,
       fun a hx=>aV rfl rfl,
       fun a hx=>aV rfl rfl,
       fun a hx=>aV rfl rfl,
       fun a hx=>aV rfl rfl,
       fun a hx=>aV rfl rfl,
       fun a hx=>aV rfl rfl,
       fun a hx=>aV rfl rfl,
       fun a hx=>aV rfl rfl,
       trivial⟩ (fun M l=>?_)
     refine L.pp (L.pp (L.p (aG Z (aW (au (ah Z (aB results33 Z ⟨by rw [Iz c (fun h=>h.name k omX s)],d.trans (q.trans l)⟩)))))))
    rcases x:(r.us.getD k u0).wt with _|_
    ·refine aZ (T.skip (aj (T.block (aj (?_)))))
     refine dn mixed 24 [1,4,3] Z [.is _,.is _,.is _,.is _,.is _,.is _,.is _,.is _,.is _,.is _,.is _,.is _,.is _,.is _,.is _,.is _,.is _,.is _,.is _,.is _,.is _,.is undef,.is undef,.is undef] [[],[0],[],[1,2],[3],[4],[],[6],[],[7,8],[9],[10],[5,11],[12],[13],[14,13],[13],[15,16,13],[17,13],[18,13],[19,13],[20],[21,20],[20]] trivial ⟨fun a hx=>Ob.fa rfl,
       fun a hx=>aS rfl ((f.ext hx).cell rfl),
       fun a hx=>aF rfl,
       fun a hx=>bQ rfl rfl ((b.ext hx).sl),
       fun a hx=>Ob.fa rfl,
       fun a hx=>aS rfl ((b.ext hx).name Om),
       fun a hx=>Ob.fa rfl,
       fun a hx=>aS rfl ((f.ext hx).cell rfl),
       fun a hx=>aF rfl,
       fun a hx=>bQ rfl rfl ((b.ext hx).sl),
       fun a hx=>Ob.fa rfl,
       fun a hx=>aS rfl ((b.ext hx).name c),
       fun a hx=>Ob.o (fE runUnderlying9 Z Z s kR),
       fun a hx=>aF rfl,
       fun a hx=>Ob.fa rfl,
       fun a hx=>aS rfl ((f.ext hx).cell rfl),
       fun a hx=>aF rfl,
       fun a hx=>bQ rfl rfl ((b.ext hx).sl),
       fun a hx=>Ob.fa rfl,
       fun a hx=>aS rfl ((b.ext hx).water Om x),
       fun a hx=>aF rfl,
       fun a hx=>aV rfl rfl,
       fun a hx=>aV rfl rfl,
       fun a hx=>aV rfl rfl,
       trivial⟩ (fun M l=>?_)
     refine L.pp (L.pp (aI Z (aI Z (aU (T.skip (T.blk (aA (L.m Z (bF Z Z (ah Z (aP (k+1) omX ⟨rfl,rfl,rfl,trivial⟩ ⟨omX,q.trans l,fun j t=>?_,fun j t I=>?_⟩)))))))))))
     ·by_cases e:j=k
      ·subst e;exact s
      exact D j omX
     by_cases e:j=k
     ·subst e;rw [x] at I;cases I
     exact H j omX I
    rcases A:(r.us.getD i u0).wt with _|_
    ·refine aZ (T.skip (aj (T.block (aj (?_)))))
     refine dn mixed 24 [1,4,3] Z [.is _,.is _,.is _,.is _,.is _,.is _,.is _,.is _,.is _,.is _,.is _,.is _,.is _,.is _,.is _,.is _,.is _,.is _,.is _,.is _,.is _,.is _,.is _,.is _] [[],[0],[],[1,2],[3],[4],[],[6],[],[7,8],[9],[10],[5,11],[12],[13],[14,13],[13],[15,16,13],[17,13],[18,13],[19,13],[20],[21,20],[20]] trivial ⟨fun a hx=>Ob.fa rfl,
       fun a hx=>aS rfl ((f.ext hx).cell rfl),
       fun a hx=>aF rfl,
       fun a hx=>bQ rfl rfl ((b.ext hx).sl),
       fun a hx=>Ob.fa rfl,
       fun a hx=>aS rfl ((b.ext hx).name Om),
       fun a hx=>Ob.fa rfl,
       fun a hx=>aS rfl ((f.ext hx).cell rfl),
       fun a hx=>aF rfl,
       fun a hx=>bQ rfl rfl ((b.ext hx).sl),
       fun a hx=>Ob.fa rfl,
       fun a hx=>aS rfl ((b.ext hx).name c),
       fun a hx=>Ob.o (fE runUnderlying9 Z Z s kR),
       fun a hx=>aF rfl,
       fun a hx=>Ob.fa rfl,
       fun a hx=>aS rfl ((f.ext hx).cell rfl),
       fun a hx=>aF rfl,
       fun a hx=>bQ rfl rfl ((b.ext hx).sl),
       fun a hx=>Ob.fa rfl,
       fun a hx=>aS rfl ((b.ext hx).water Om x),
       fun a hx=>aF rfl,
       fun a hx=>Ob.fa rfl,
       fun a hx=>aS rfl ((f.ext hx).cell rfl),
       fun a hx=>aF rfl,
       trivial⟩ (fun M l=>?_)
     refine dG Z Z ((b.ext l).sl) (aC Z ((b.ext l).water c A) (bT Z (aG Z (aI Z (aW (au (ah Z (aB results33 Z ⟨by rw [Iz c (fun h=>by have:=h.water k omX x;rw [A] at this;cases this)],d.trans (q.trans l)⟩))))))))
    refine aZ (T.skip (aj (T.block (aj (?_)))))
    refine dn mixed 24 [1,4,3] Z [.is _,.is _,.is _,.is _,.is _,.is _,.is _,.is _,.is _,.is _,.is _,.is _,.is _,.is _,.is _,.is _,.is _,.is _,.is _,.is _,.is _,.is _,.is _,.is _] [[],[0],[],[1,2],[3],[4],[],[6],[],[7,8],[9],[10],[5,11],[12],[13],[14,13],[13],[15,16,13],[17,13],[18,13],[19,13],[20],[21,20],[20]] trivial ⟨fun a hx=>Ob.fa rfl,
      fun a hx=>aS rfl ((f.ext hx).cell rfl),
      fun a hx=>aF rfl,
      fun a hx=>bQ rfl rfl ((b.ext hx).sl),
      fun a hx=>Ob.fa rfl,
      fun a hx=>aS rfl ((b.ext hx).name Om),
      fun a hx=>Ob.fa rfl,
      fun a hx=>aS rfl ((f.ext hx).cell rfl),
      fun a hx=>aF rfl,
      fun a hx=>bQ rfl rfl ((b.ext hx).sl),
      fun a hx=>Ob.fa rfl,
      fun a hx=>aS rfl ((b.ext hx).name c),
      fun a hx=>Ob.o (fE runUnderlying9 Z Z s kR),
      fun a hx=>aF rfl,
      fun a hx=>Ob.fa rfl,
      fun a hx=>aS rfl ((f.ext hx).cell rfl),
      fun a hx=>aF rfl,
      fun a hx=>bQ rfl rfl ((b.ext hx).sl),
      fun a hx=>Ob.fa rfl,
      fun a hx=>aS rfl ((b.ext hx).water Om x),
      fun a hx=>aF rfl,
      fun a hx=>Ob.fa rfl,
      fun a hx=>aS rfl ((f.ext hx).cell rfl),
      fun a hx=>aF rfl,
      trivial⟩ (fun M l=>?_)
    refine dG Z Z ((b.ext l).sl) (aC Z ((b.ext l).water c A) (bT Z (aG Z (aI Z (aU (T.skip (T.blk (aA (L.m Z (bF Z Z (ah Z (aP (k+1) omX ⟨rfl,rfl,rfl,trivial⟩ ⟨omX,q.trans l,fun j t=>?_,fun j t I=>?_⟩))))))))))))
    ·by_cases e:j=k
     ·subst e;exact s
     exact D j omX
    first|rfl|exact A
   refine aU (aY Z (T.blk (aA (L.m Z (bF Z Z (ah Z (aP (i+1) omX ⟨rfl,rfl,trivial⟩ ⟨c,q,CX E ⟨G,fun j t=>D j omX,fun j t=>H j omX,fun e=>by subst e;exact y⟩⟩)))))))
  refine aU (aY Z (au (ah Z (aB results33 Z ⟨by rw [jy ⟨aeH,fun j t=>E j omX⟩],d.trans u⟩))))
 refine aC Z (n.water B y) (aI Z (aW (au (ah Z (aB results33 Z ⟨by rw [Iz B (fun h=>by have:=h.first rfl;rw [y] at this;cases this)],d⟩)))))
def eF:List UnV→Nat
 | []=>0
 | u::r=>if u.wt then 0 else eF r+1
theorem qK:∀ us:List UnV,eF us≤us.length
 | []=>Nat.le_refl _
 | u::r=>by
  have:=qK r
  simp only [eF,List.length_cons]
  split <;> omega
theorem CY:∀ (us:List UnV) (i:Nat),i≤us.length→(∀ j,j<i→(us.getD j u0).wt=false)→(i<us.length→(us.getD i u0).wt=true)→eF us=i
 | [],i,h,_,_=>by simp at h;subst h;rfl
 | u::r,0,_,_,h=>by
  have:u.wt=true:=h spX
  simp [eF,this]
 | u::r,i+1,hi,b,h=>by
  have h0:u.wt=false:=b 0 omX
  have:=CY r i (by simpa using hi) (fun j a=>b (j+1) omX) (fun a=>h (by simpa using a))
  simp [eF,h0,this]
def Yw:Value→Nat→Value
 | .slice oa _ cap,m=>.slice oa m cap
 | v,_=>v
theorem OV {n m sz:Nat} {cs:List Value} (hv:Sl lo w v n sz cs) (b:m≤n):Sl lo w (Yw v m) m sz (cs.take (m*sz)):=by
 obtain ⟨c,oa,cap,rfl,g,d,a⟩:=hv
 refine ⟨?_,oa,cap,rfl,omX,d,?_⟩
 ·rw [List.length_take,c];exact Nat.min_eq_left (Nat.mul_le_mul_right _ b)
 rcases a with a|⟨ad,e1,e,f⟩
 ·left;omega
 exact .inr ⟨ad,e1,e,f.take _⟩
theorem Units.Yw {lo:Nat} {w:World} {v:Value} {us:List UnV} (h:Units lo w v us) {m:Nat} (a:m≤us.length):Units lo w (Yw v m) (us.take m):=by
 refine ⟨?_,fun u b=>h.ok u (List.mem_of_mem_take b)⟩
 have:=OV h.sl a
 rw [CS] at this
 rw [List.length_take,Nat.min_eq_left a];exact this
theorem CZ {C:Cx} {e:Env} {K:Value→World→Prop} {d:Option Tmp} {ty:TypeId} {pos:String} {aft:Array Edge} {g:Option (Nat × Bool)} {x y:Operand} {t:TypeId} {n sz m:Nat} {cs:List Value} {el:TypeId} {kd:IntKind} (a:∀ w,(underlying t).run C.P w = .ok (.slice el) w) (hs:∀ w,(sizeOf el).run C.P w = .ok sz w) (hx:ev e x=some v) (hy:ev e y=some (.int kd m))
  (hv:Sl lo w v n sz cs) (b:m≤n) (h:K (Yw v m) w):O C e ⟨d,.slice t x none (some y) none,ty,pos,aft,g⟩ w K:=by
 obtain ⟨c,oa,cap,rfl,f,i,j⟩:=hv
 exact jr a hs hx hy (Int.natCast_nonneg _) omX (by rw [Int.toNat_natCast];exact h)
def lv (r:RoV):Value:=if eF r.us<r.us.length then Yw r.uv (eF r.us) else r.uv
theorem YX {r:RoV} (b:r.ok lo w):Units lo w (lv r) (r.us.take (eF r.us)):=by
 have a:=qK r.us
 unfold lv
 split
 ·exact Units.Yw b a
 rw [show eF r.us=r.us.length by omega,List.take_length];exact b
theorem OW (lo:Nat) (u:UnV) (w:World) :
  Calls Tryz.prog 148 #[u.val] w (Ret fun v w'=>v = .bool u.wt∧Ext w w'):=by
 refine aJ (vs:=[u.val]) func148 Z ntmps148 Z ?_
 refine au (bM Z (fun b1 w1 c d a hB1=>?_))
 have b:Blk w1 b1 u.cells _:=hB1
 refine ah Z (au (aC Z (b.cell Z) (ah Z (aB results148 Z ⟨rfl,a⟩))))
theorem KT (lo:Nat) (p:Value) (us:List UnV) (w:World) (g:Units lo w p us) :
  Calls Tryz.prog 147 #[p,.func (.func 148) #[] #[]] w (Ret fun v w'=>(∃ q:Int,v = .int .i64 q∧((q = -1∧eF us=us.length)∨(q=eF us∧eF us<us.length)))∧Ext w w'):=by
 have r:=Sl.le g.sl
 refine aJ (vs:=[p,.func (.func 148) #[] #[]]) func147 Z ntmps147 Z ?_
 refine au (ah Z (aj (aQ Z (L.le Z (Sl.val g.sl) (L.m Z (ak (T.block (?_))))))))
 refine bf (σ:=Nat) (fun i=>[(0,p),(1,.func (.func 148) #[] #[]),(7,.int .i64 us.length),(8,.int .i64 i)]) (fun i w'=>i≤us.length∧Ext w w'∧∀ j,j<i→(us.getD j u0).wt=false) (fun i=>us.length-i) (0) ⟨rfl,rfl,rfl,rfl,trivial⟩ ⟨Nat.zero_le _,Keep.refl _ _,fun j l=>absurd l (Nat.not_lt_zero _)⟩ ?_
 rintro i w1 ⟨hi,b,a⟩
 have d:=g.ext b
 refine au (bH Z Z (fun k=>?_) (fun k=>?_))
 ·refine ak (?_)
  have c:i<us.length:=by omega
  refine aj (aZ (T.skip (aj (T.block (aQ Z (ah Z (au (aN Z Z (L.m Z (dG Z Z d.sl (aT Z Z (d.row c) (L.o (ay (xs:=[.tmp 15]) call148 Z Z (OW lo (us.getD i u0) w1) (fun v2 t s=>?_))))))))))))))
  obtain ⟨rfl,f⟩:=s
  cases n:(us.getD i u0).wt
  ·refine aU (T.skip (T.blk (aA (bF Z Z (L.m Z (ak (aP (i+1) omX ⟨rfl,rfl,rfl,rfl,trivial⟩ ⟨c,b.trans f,fun j l=>?_⟩)))))))
   ·by_cases e:j=i
    ·subst e;exact n
    exact a j omX
  refine ak (?_)
  have e:=CY us i hi a (fun _=>n)
  refine aZ (aQ Z (ah Z (aB results147 Z ⟨⟨_,rfl,.inr ⟨by rw [e],omX⟩⟩,b.trans f⟩)))
 refine ak (?_)
 have e:=CY us i hi a (fun h=>absurd h omX)
 refine aj (bn (aY Z (au (ah Z (aB results147 Z ⟨⟨_,rfl,.inl ⟨rfl,omX⟩⟩,b⟩)))))
theorem Tj (lo:Nat) (r:RoV) (w:World) (j:r.ok lo w) :
  Calls Tryz.prog 102 #[r.val] w (Ret fun v w'=>v=lv r∧Ext w w'):=by
 refine aJ (vs:=[r.val]) func102 Z ntmps102 Z ?_
 refine au (bM Z (fun b1 w1 k l b hB1=>?_))
 have c:Blk w1 b1 r.cells _:=hB1
 have d:Units lo w1 r.uv r.us:=j.ext b
 have f:=qK r.us
 refine ah Z (aj (au (aC Z (c.cell Z) (L.o (ay (xs:=[.tmp 5,.func 148]) call147 Z Z (KT lo r.uv r.us w1 d) (fun v2 n e=>?_))))))
 obtain ⟨⟨q,rfl,e⟩,a⟩:=e
 have g:=d.ext a
 refine ah Z (au (aO Z (fJ Z Z (fun h0=>?_) (fun h0=>?_))))
 ·refine ak (?_)
  obtain ⟨i,m⟩:q=(eF r.us:Int)∧eF r.us<r.us.length:=by rcases e with h|h;omega;exact h
  subst i
  refine aZ (au (aC Z ((c.ext a).cell Z) (aO Z (CZ runUnderlying23 sizeOf51 Z Z g.sl f (ah Z (aB results102 Z ⟨by rw [lv,if_pos m],b.trans a⟩))))))
 refine ak (?_)
 have i:eF r.us=r.us.length:=by rcases e with h|h;exact h.2;omega
 refine bn (T.skip (au (aC Z ((c.ext a).cell Z) (ah Z (aB results102 Z ⟨by rw [lv,if_neg omX],b.trans a⟩)))))
noncomputable def zo (r:RoV):Int:=@ite _ (gG r) (Classical.propDecidable _) (eF r.us:Int) 0
theorem Gj {r:RoV} (h:ji r=0):zo r=eF r.us:=by
 unfold zo
 by_cases a:gG r
 ·exact if_pos a
 rw [gY a] at h;cases h
theorem Tm {r:RoV} (h:ji r≠0):zo r=0:=by
 unfold zo
 by_cases a:gG r
 ·exact absurd (jy a) h
 exact if_neg a
theorem abO {r:RoV} (h:ji r=0):gG r:=by
 by_cases a:gG r
 ·exact a
 rw [gY a] at h;cases h
theorem QF {r:RoV} (h:ji r=0):0≤r.G∧r.G≤6∧0≤r.P∧r.P≤12∧0≤r.L∧r.L≤3∧0<(r.us.length:Int)∧(r.us.length:Int)≤64:=Iy.1 (abO h).bnd
theorem zq (lo:Nat) (r:RoV) (w:World) (f:r.ok lo w) :
  Calls Tryz.prog 52 #[r.val] w (Ret fun v w'=>v = .tuple #[.int .i64 (zo r),.int .i64 (ji r)]∧Ext w w'):=by
 refine aJ (vs:=[r.val]) func52 Z ntmps52 Z ?_
 refine au (bM Z (fun b1 w1 j k b hB1=>?_))
 have d:Blk w1 b1 r.cells _:=hB1
 refine L.a Z (ah Z (aj (au (aT Z Z d.row (L.o (ay (xs:=[.tmp 5]) call32 Z Z (uy lo r w1 (f.ext b)) (fun v2 l g=>?_)))))))
 obtain ⟨rfl,c⟩:=g
 refine ah Z (aQ Z (L.ne Z Z (fun h0=>?_) (fun h0=>?_)))
 ·refine aW (aQ Z (L.a Z (ah Z (cu results52 Z Z ⟨by rw [Tm h0],b.trans c⟩))))
 refine aU (T.skip (au (aT Z Z ((d.ext c).row) (L.o (ay (xs:=[.tmp 10]) call102 Z Z (Tj lo r l (f.ext (b.trans c))) (fun v3 m g=>?_))))))
 obtain ⟨rfl,e⟩:=g
 have h:=qK r.us
 have i:=YX (f.ext ((b.trans c).trans e))
 refine L.le Z (Sl.val i.sl) (L.a Z (ah Z (cu results52 Z Z ⟨by rw [Gj h0,h0,List.length_take,Nat.min_eq_left h],(b.trans c).trans e⟩)))
theorem YZ (b:Nat) (w:World):Upd b w w:=⟨rfl,rfl,rfl,rfl,fun _ _=>rfl⟩
end Go.Proofs.YtnlonpcbgjbbaaaGreatDoor
