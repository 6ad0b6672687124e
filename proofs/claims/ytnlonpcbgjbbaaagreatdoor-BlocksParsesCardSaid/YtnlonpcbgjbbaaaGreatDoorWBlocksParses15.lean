/-
  BlocksParses, part 15 of its proof: that it returns true for every input, and each argument reads behind the call as it read before. Conditions: the listed variables read as the program's text lays them (tied by the card).
-/
import Derived.Test.YtnlonpcbgjbbaaaGreatDoorWBlocksParses14
import Derived.Test.YtnlonpcbgjbbaaaGreatDoorWBlocksParses12
set_option linter.unusedVariables false
set_option linter.unusedSimpArgs false
set_option maxRecDepth 20000
namespace Go.Proofs.YtnlonpcbgjbbaaaGreatDoor
open Go.Proofs.Tryz
open Go Go.E
attribute [local irreducible] Go.E.T Go.E.L Go.E.O Go.E.Ob
attribute [local irreducible] Go.E.ObX
open Geo (xA RR SR)
theorem aiT {r:List Pt} (h:∀ i,i<r.length→rE (rA r i)=false):NrL r:=fun i hi=>Nr.uz (h i hi)
def afr (r:List Pt) (i j:Nat):Prop:=∀ k,k<j→k+1<i→¬ (k=0∧i+1=r.length)→xA (rA r k) (rA r (k+1)) (rA r i) (rB r i)=0
theorem upto {P:Nat→Prop} {i:Nat} (h:∀ k,k<i→P k) (hi:P i):∀ k,k<i+1→P k:=fun k a=>by
 by_cases e:k=i
 ·subst e;exact hi
 exact h k omX
set_option maxHeartbeats 4000000 in
theorem DL (lo:Nat) (q:Value) (r:List Pt) (w:World) (n:Pts lo w q r) (h3:3≤r.length) (aM:r.length≤40) (acN:∀ i,i<r.length→rE (rA r i)=false) :
  Calls Tryz.prog 266 #[q] w (Ret fun v w'=>∃ k a:Int,v = .tuple #[.int .i64 k,.int .i64 a]∧0≤k∧(k=0↔SR r)∧Ext w w'):=by
 have s:r.length≤1000000:=by omega
 have hn:=aiT acN
 refine aJ (vs:=[q]) func266 Z ntmps266 Z ?_
 refine fK Z (ah Z (aQ Z (L.le Z (Sl.val n) (ah Z (aj (au (aO Z (fU Z Z omX (aN Z Z (L.o (gW Z Z omX (aI Z (aU (T.skip (aj (?_))))))))))))))))
 refine au (ah Z (T.block (?_)))
 refine bf (σ:=Nat) (fun i=>[(0,q),(4,.int .i64 r.length),(5,.int .i64 i)]) (fun i w'=>i≤r.length∧Ext w w') (fun i=>r.length-i) (0) ⟨rfl,rfl,rfl,trivial⟩ ⟨Nat.zero_le _,Keep.refl _ _⟩ ?_
 rintro i w1 ⟨hi,M⟩
 have X:=n.ext M
 refine aj (au (aN Z Z (bH Z Z (fun x=>?_) (fun x=>?_))))
 ·refine ak (?_)
  have g:i<r.length:=by omega
  refine aZ (T.skip (aj (T.block (au (aN Z Z (dG Z Z X (aT Z Z (X.row g) (L.o (ay (xs:=[.tmp 29]) call217 Z Z (GU (r.getD i (0,0)) w1) (fun v2 w2 n=>?_))))))))))
  obtain ⟨Y,z⟩:=n
  have am:rE (r.getD i (0,0))=false:=acN i g
  rw [am] at Y
  subst Y
  refine aU (T.skip (T.blk (aA (L.m Z (bF Z Z (ah Z (aP (i+1) omX ⟨rfl,rfl,rfl,trivial⟩ ⟨g,M.trans z⟩)))))))
 refine aU (aY Z (aj (au (ah Z (T.block (?_))))))
 refine bf (σ:=Nat) (fun i=>[(0,q),(4,.int .i64 r.length),(6,.int .i64 i)]) (fun i w'=>i≤r.length∧Ext w w'∧∀ k,k<i→rA r k≠rB r k) (fun i=>r.length-i) (0) ⟨rfl,rfl,rfl,trivial⟩ ⟨Nat.zero_le _,M,fun k E=>absurd E (Nat.not_lt_zero _)⟩ ?_
 rintro i w2 ⟨hi,z,aa⟩
 have N:=n.ext z
 refine aj (au (aN Z Z (bH Z Z (fun x=>?_) (fun x=>?_))))
 ·refine ak (?_)
  have g:i<r.length:=by omega
  refine aZ (T.skip (aj (T.block (aj (?_)))))
  refine dn mixed 8 [0,6] Z [.is _,.is _,.is _,.is _,.is _,.is _,.is (.int .i64 ((i+1:Nat):Int)),.is (pV (rB r i))] [[],[],[0,1],[2],[],[],[5],[4,6]] trivial ⟨fun d hx=>aF rfl,
    fun d hx=>aF rfl,
    fun d hx=>bQ rfl rfl (N.ext hx),
    fun d hx=>bJ rfl rfl ((N.ext hx).row g),
    fun d hx=>aF rfl,
    fun d hx=>aF rfl,
    fun d hx=>Ob.o (bG Z Z omX kR),
    fun d hx=>Ob.o (ay (xs:=[.tmp 41,.tmp 43]) call253 Z Z (pG lo q r (i+1) d (N.ext hx) omX s omX) (fun v wy h=>⟨h.2,h.1⟩)),
    trivial⟩ (fun J t=>?_)
  refine L.o (uD Z Z Z (fun hs=>?_) (fun hs=>?_))
  ·refine aW (aQ Z (L.a Z (ah Z (cu results266 Z Z ⟨3,i,rfl,dcX,⟨fun h=>absurd h dcX,fun h=>absurd hs (h.still i g)⟩,z.trans t⟩))))
  refine aU (T.skip (T.blk (aA (L.m Z (bF Z Z (ah Z (aP (i+1) omX ⟨rfl,rfl,rfl,trivial⟩ ⟨g,z.trans t,upto aa hs⟩)))))))
 refine aU (aY Z (aj (au (ah Z (T.block (?_))))))
 refine bf (σ:=Nat) (fun i=>[(0,q),(4,.int .i64 r.length),(7,.int .i64 i)]) (fun i w'=>i≤r.length∧Ext w w'∧∀ k,k<i→¬ uF r k) (fun i=>r.length-i) (0) ⟨rfl,rfl,rfl,trivial⟩ ⟨Nat.zero_le _,z,fun k E=>absurd E (Nat.not_lt_zero _)⟩ ?_
 rintro i J ⟨hi,t,P⟩
 have ab:∀ k,k<r.length→rA r k≠rB r k:=fun k E ↦ aa k omX
 have G:=n.ext t
 refine aj (au (aN Z Z (bH Z Z (fun x=>?_) (fun x=>?_))))
 ·refine ak (?_)
  have g:i<r.length:=by omega
  have nP:Nr (rP r i):=hn _ (Nat.mod_lt _ omX)
  have nA:Nr (rA r i):=hn _ g
  have nB:Nr (rB r i):=hn _ (Nat.mod_lt _ omX)
  refine aZ (T.skip (aj (T.block (aj (?_)))))
  refine mM mixed 18 1 [0,7,4] Z [.is _,.is _,.is _,.is _,.is (.int .i64 ((i+r.length-1:Nat):Int)),.is (pV (rP r i)),.is _,.is _,.is _,.is _,.is _,.is _,.is (.int .i64 ((i+1:Nat):Int)),.is (pV (rB r i)),.such (PtB J.heap.size),.such (PtB J.heap.size),.such (PtB J.heap.size),.is undef] [[],[],[],[1,2],[3],[0,4],[],[],[6,7],[8],[],[],[11],[10,12],[],[],[],[14,5]] [none,none,none,none,none,none,none,none,none,none,none,none,none,none,none,none,none,some 0] [[],[],[],[1,2],[1,2,3],[0,1,2,3,4],[],[],[6,7],[6,7,8],[],[],[11],[0,1,2,3,4,5,10,11,12],[],[],[],[0,1,2,3,4,5,10,11,12,13,14,15,16],[0,1,2,3,4,5,6,7,8,9,10,11,12,13,14,15,16,17],[0,1,2,3,4,5,6,7,8,9,10,11,12,13,14,15,16,17,18]] [14,15,16] [(17,14,8)] (fun _ _ u _ W=>∃ b,u = .pointer (some ⟨b,0,none⟩)∧J.heap.size≤b∧Blk W b (pC (rP r i)) 124) (fun _ W=>Ext J W) (RelB J.heap.size (rP r i)) (fun i f v w hi hf hh=>by { rcases (show i=14∨i=15∨i=16 by simpa using hi) with rfl|rfl|rfl <;> (simp only [List.getElem?_cons_succ,List.getElem?_cons_zero,Option.some.injEq] at hf;subst hf;exact PtB.lt hh) }) (fun i j vi vj W W' hr ⟨b,h1,h2,h3⟩=>(hr.own b _ h2 h3).elim fun c' k=>⟨b,h1,h2,(k.2 Z)▸k.1⟩) krX krX krX krX rfl ⟨PtB.st,PtB.st,PtB.st,trivial⟩ (Keep.drew _ _) ⟨fun c d hx=>ObX.op rfl (O.move Z ⟨⟨RelB.dF (Keep.refl _ _),hx⟩,rfl,trivial,trivial⟩),
    fun c d hx=>ObX.op Z (O.move Z ⟨⟨RelB.dF (Keep.refl _ _),hx⟩,rfl,trivial,trivial⟩),
    fun c d hx=>ObX.op Z (O.move Z ⟨⟨RelB.dF (Keep.refl _ _),hx⟩,rfl,trivial,trivial⟩),
    fun c d hx=>ObX.op Z (bG Z Z omX ⟨⟨RelB.dF (Keep.refl _ _),hx⟩,rfl,trivial,trivial⟩),
    fun c d hx=>ObX.op Z (dh Z Z omX (y5 ⟨⟨RelB.dF (Keep.refl _ _),hx⟩,by rw [show ((i+r.length-1:Nat):Int)=(i:Int)+r.length-1 by omega];rfl⟩ ⟨trivial,trivial⟩)),
    fun c d hx=>ObX.op Z (ay (xs:=[.tmp 52,.tmp 56]) call253 Z Z (pG lo q r (i+r.length-1) d (G.ext hx) omX s omX) (fun v wy h=>y5 ⟨⟨RelB.dF h.2,hx.trans h.2⟩,h.1⟩ ⟨trivial,trivial⟩)),
    fun c d hx=>ObX.op Z (O.move Z ⟨⟨RelB.dF (Keep.refl _ _),hx⟩,rfl,trivial,trivial⟩),
    fun c d hx=>ObX.op Z (O.move Z ⟨⟨RelB.dF (Keep.refl _ _),hx⟩,rfl,trivial,trivial⟩),
    fun c d hx=>ObX.op Z (ig Z Z (G.ext hx) omX omX ⟨⟨RelB.dF (Keep.refl _ _),hx⟩,rfl,trivial,trivial⟩),
    fun c d hx=>ObX.op Z (jC Z Z ((G.ext hx).row g) ⟨⟨RelB.dF (Keep.refl _ _),hx⟩,rfl,trivial,trivial⟩),
    fun c d hx=>ObX.op Z (O.move Z ⟨⟨RelB.dF (Keep.refl _ _),hx⟩,rfl,trivial,trivial⟩),
    fun c d hx=>ObX.op Z (O.move Z ⟨⟨RelB.dF (Keep.refl _ _),hx⟩,rfl,trivial,trivial⟩),
    fun c d hx=>ObX.op Z (bG Z Z omX (y5 ⟨⟨RelB.dF (Keep.refl _ _),hx⟩,rfl⟩ ⟨trivial,trivial⟩)),
    fun c d hx=>ObX.op Z (ay (xs:=[.tmp 62,.tmp 64]) call253 Z Z (pG lo q r (i+1) d (G.ext hx) omX s omX) (fun v wy h=>y5 ⟨⟨RelB.dF h.2,hx.trans h.2⟩,h.1⟩ ⟨trivial,trivial⟩)),
    fun c d hx=>ObX.op Z (O.alloc zeroValue124 (fun b wy hb F K hB=>y5 ⟨⟨RelB.dF K,hx.trans K⟩,b,(0,0),rfl,by have:=hx.size;omega,hB⟩ ⟨fun q n=>by { cases n;exact Nat.le_of_eq hb.symm },trivial⟩)),
    fun c d hx=>ObX.op Z (O.alloc zeroValue124 (fun b wy hb F K hB=>y5 ⟨⟨RelB.dF K,hx.trans K⟩,b,(0,0),rfl,by have:=hx.size;omega,hB⟩ ⟨fun q n=>by { cases n;exact Nat.le_of_eq hb.symm },trivial⟩)),
    fun c d hx=>ObX.op Z (O.alloc zeroValue124 (fun b wy hb F K hB=>y5 ⟨⟨RelB.dF K,hx.trans K⟩,b,(0,0),rfl,by have:=hx.size;omega,hB⟩ ⟨fun q n=>by { cases n;exact Nat.le_of_eq hb.symm },trivial⟩)),
    fun d hx v8 ac=>by { obtain ⟨b5,c5,rfl,Q,R⟩:=ac;exact ObX.op rfl (aK sizeOf124 Z Z Z R leX (gu (rP r i)) (fun aR Ua WS=>y5 ⟨⟨RelB.upd Ua WS,hx.upd Ua (.inr Q)⟩,rfl⟩ ⟨trivial,fun u hu=>by { cases hu;exact ⟨b5,rfl,Q,WS⟩ }⟩)) },
    trivial⟩ (fun w9 an v8 ac v9 ao aS aaW H=>?_)
  obtain ⟨vj,A,ap,_⟩:=H 14 15 _ _ _ _ dcX dcX rfl rfl rfl rfl
  obtain rfl:=A _ _ rfl rfl
  obtain ⟨vj,A,aq,_⟩:=H 14 16 _ _ _ _ dcX dcX rfl rfl rfl rfl
  obtain rfl:=A _ _ rfl rfl
  obtain ⟨vj,A,ar,_⟩:=H 15 16 _ _ _ _ dcX dcX rfl rfl rfl rfl
  obtain rfl:=A _ _ rfl rfl
  obtain ⟨_,_,_,av⟩:=H 14 17 _ _ _ _ dcX dcX rfl rfl rfl rfl
  obtain ⟨b5,rfl,Q,R⟩:=av rfl
  obtain ⟨b6,c6,rfl,aw,ax⟩:=ao
  obtain ⟨b7,c7,rfl,az,aB⟩:=aaW
  have aC:b5≠b6:=fun e=>ap b5 rfl (by rw [e];rfl)
  have aD:b5≠b7:=fun e=>aq b5 rfl (by rw [e];rfl)
  have ad:b6≠b7:=fun e=>ar b6 rfl (by rw [e];rfl)
  refine L.o (aK sizeOf124 Z Z Z ax leX (gu (rA r i)) (fun aV ML WT=>?_))
  have EO:=Blk.upd (cs:=pC c7) aB ML (Ne.symm ad)
  refine L.o (aK sizeOf124 Z Z Z EO leX (gu (rB r i)) (fun B ZB afq=>?_))
  have hP:Blk B b5 (pC (rP r i)) 124:=Blk.upd (cs:=pC (rP r i)) (Blk.upd (cs:=pC (rP r i)) R ML aC) ZB aD
  have hA:Blk B b6 (pC (rA r i)) 124:=Blk.upd (cs:=pC (rA r i)) WT ZB ad
  have hB:Blk B b7 (pC (rB r i)) 124:=afq
  have abh:Ext J B:=(an.upd ML (.inr aw)).upd ZB (.inr az)
  refine ak (au (aT Z Z hP.row (aT Z Z hA.row (aT Z Z hB.row (L.o (ay (xs:=[.tmp 66,.tmp 67,.tmp 68]) call255 Z Z (kM (rP r i) (rA r i) (rB r i) B nP nA nB) (fun aX aE n=>?_)))))))
  obtain ⟨rfl,abl⟩:=n
  refine dK Z Z (fun S=>?_) (fun S=>?_)
  ·refine L.m Z (aT Z Z ((Blk.ext (cs:=pC (rP r i)) hP abl).row) (aT Z Z ((Blk.ext (cs:=pC (rA r i)) hA abl).row) (aT Z Z ((Blk.ext (cs:=pC (rB r i)) hB abl).row) (L.o (ay (xs:=[.tmp 72,.tmp 73,.tmp 74]) call272 Z Z (TY (rP r i) (rA r i) (rB r i) aE nP nA nB) (fun a0 a1 n=>?_))))))
   obtain ⟨rfl,amo⟩:=n
   refine bH Z Z (fun U=>?_) (fun U=>?_)
   ·refine aG Z (aW (aQ Z (L.a Z (ah Z (cu results266 Z Z ⟨4,i,rfl,dcX,⟨fun h=>absurd h dcX,fun h=>absurd ⟨S,U⟩ (h.L8 i g)⟩,t.trans (abh.trans (abl.trans amo))⟩)))))
   refine aG Z (aU (T.skip (T.blk (aA (L.m Z (bF Z Z (ah Z (aP (i+1) omX ⟨rfl,rfl,rfl,trivial⟩ ⟨g,t.trans (abh.trans (abl.trans amo)),upto P (fun h=>U h.2)⟩))))))))
  refine L.m Z (L.pp (L.pp (L.p (aI Z (aU (T.skip (T.blk (aA (L.m Z (bF Z Z (ah Z (aP (i+1) omX ⟨rfl,rfl,rfl,trivial⟩ ⟨g,t.trans (abh.trans abl),upto P (fun h=>S h.1)⟩))))))))))))
 refine aU (aY Z (aj (au (ah Z (T.block (?_))))))
 refine bf (σ:=Nat) (fun i=>[(0,q),(4,.int .i64 r.length),(11,.int .i64 i)]) (fun i w'=>i≤r.length∧Ext w w'∧∀ k,k<i→afr r k k) (fun i=>r.length-i) (0) ⟨rfl,rfl,rfl,trivial⟩ ⟨Nat.zero_le _,t,fun k E=>absurd E (Nat.not_lt_zero _)⟩ ?_
 rintro i w4 ⟨hi,ae,af⟩
 have ag:∀ k,k<r.length→¬ uF r k:=fun k E ↦ P k omX
 refine aj (au (aN Z Z (bH Z Z (fun x=>?_) (fun x=>?_))))
 ·refine ak (?_)
  have g:i<r.length:=by omega
  refine aZ (T.skip (aj (T.block (au (ah Z (T.block (?_)))))))
  refine bf (σ:=Nat) (fun j=>[(0,q),(4,.int .i64 r.length),(11,.int .i64 i),(12,.int .i64 j)]) (fun j w'=>j≤i∧Ext w w'∧afr r i j) (fun j=>i-j) (0) ⟨rfl,rfl,rfl,rfl,trivial⟩ ⟨Nat.zero_le _,ae,fun k E=>absurd E (Nat.not_lt_zero _)⟩ ?_
  rintro j w5 ⟨hj,y,I⟩
  have l:=n.ext y
  refine aj (aQ Z (bF Z Z (L.m Z (bH Z Z (fun aH=>?_) (fun aH=>?_)))))
  ·refine ak (?_)
   have afs:j+1<i:=by omega
   have n1:Nr (rA r j):=hn _ omX
   have n2:Nr (rA r (j+1)):=hn _ omX
   have n3:Nr (rA r i):=hn _ g
   have n4:Nr (rB r i):=hn _ (Nat.mod_lt _ omX)
   refine aZ (T.skip (aj (T.block (aj (aQ Z (dK Z Z (fun ai=>?_) (fun ai=>?_)))))))
   ·refine aN Z Z (aO Z (dh Z Z omX (dK Z Z (fun al=>?_) (fun al=>?_))))
    ·refine aG Z (aW (aY Z (aA (L.m Z (bF Z Z (ah Z (aP (j+1) omX ⟨rfl,rfl,rfl,rfl,trivial⟩ ⟨omX,y,upto I (fun _ V=>absurd ⟨omX,omX⟩ V)⟩)))))))
    refine aG Z (aU (T.skip (aj (?_))))
    refine dn mixed 17 [0,12,11] Z [.is _,.is _,.is _,.is _,.is _,.is _,.is (.int .i64 ((j+1:Nat):Int)),.is _,.is _,.is _,.is _,.is _,.is _,.is _,.is _,.is (.int .i64 ((i+1:Nat):Int)),.is (pV (rB r i))] [[],[],[0,1],[2],[],[],[5],[4,6],[7],[],[],[9,10],[11],[],[],[14],[13,15]] trivial ⟨fun d hx=>aF rfl,
      fun d hx=>aF rfl,
      fun d hx=>bQ rfl rfl (l.ext hx),
      fun d hx=>bJ rfl rfl ((l.ext hx).row (show j<r.length by omega)),
      fun d hx=>aF rfl,
      fun d hx=>aF rfl,
      fun d hx=>Ob.o (bG Z Z omX kR),
      fun d hx=>bQ rfl rfl (l.ext hx),
      fun d hx=>bJ rfl rfl ((l.ext hx).row (show j+1<r.length by omega)),
      fun d hx=>aF rfl,
      fun d hx=>aF rfl,
      fun d hx=>bQ rfl rfl (l.ext hx),
      fun d hx=>bJ rfl rfl ((l.ext hx).row g),
      fun d hx=>aF rfl,
      fun d hx=>aF rfl,
      fun d hx=>Ob.o (bG Z Z omX kR),
      fun d hx=>Ob.o (ay (xs:=[.tmp 111,.tmp 113]) call253 Z Z (pG lo q r (i+1) d (l.ext hx) omX s omX) (fun v wy h=>⟨h.2,h.1⟩)),
      trivial⟩ (fun w6 C=>?_)
    refine L.o (ay (xs:=[.tmp 101,.tmp 106,.tmp 110,.tmp 114]) call252 Z Z (zI (rA r j) (rA r (j+1)) (rA r i) (rB r i) w6 n1 n2 n3 n4) (fun v7 w7 n=>?_))
    obtain ⟨rfl,D⟩:=n
    refine L.ne Z Z (fun F=>?_) (fun F=>?_)
    ·refine aW (aQ Z (L.a Z (ah Z (cu results266 Z Z ⟨5,i,rfl,dcX,⟨fun h=>absurd h dcX,fun h=>absurd (h.how i j g afs (fun h=>al omX)) F⟩,y.trans (C.trans D)⟩))))
    refine aU (T.skip (T.blk (aA (L.m Z (bF Z Z (ah Z (aP (j+1) omX ⟨rfl,rfl,rfl,rfl,trivial⟩ ⟨omX,y.trans (C.trans D),upto I (fun _ _=>F)⟩)))))))
   refine L.m Z (L.pp (L.pp (aI Z (aU (T.skip (aj (?_)))))))
   refine dn mixed 17 [0,12,11] Z [.is _,.is _,.is _,.is _,.is _,.is _,.is (.int .i64 ((j+1:Nat):Int)),.is _,.is _,.is _,.is _,.is _,.is _,.is _,.is _,.is (.int .i64 ((i+1:Nat):Int)),.is (pV (rB r i))] [[],[],[0,1],[2],[],[],[5],[4,6],[7],[],[],[9,10],[11],[],[],[14],[13,15]] trivial ⟨fun d hx=>aF rfl,
     fun d hx=>aF rfl,
     fun d hx=>bQ rfl rfl (l.ext hx),
     fun d hx=>bJ rfl rfl ((l.ext hx).row (show j<r.length by omega)),
     fun d hx=>aF rfl,
     fun d hx=>aF rfl,
     fun d hx=>Ob.o (bG Z Z omX kR),
     fun d hx=>bQ rfl rfl (l.ext hx),
     fun d hx=>bJ rfl rfl ((l.ext hx).row (show j+1<r.length by omega)),
     fun d hx=>aF rfl,
     fun d hx=>aF rfl,
     fun d hx=>bQ rfl rfl (l.ext hx),
     fun d hx=>bJ rfl rfl ((l.ext hx).row g),
     fun d hx=>aF rfl,
     fun d hx=>aF rfl,
     fun d hx=>Ob.o (bG Z Z omX kR),
     fun d hx=>Ob.o (ay (xs:=[.tmp 111,.tmp 113]) call253 Z Z (pG lo q r (i+1) d (l.ext hx) omX s omX) (fun v wy h=>⟨h.2,h.1⟩)),
     trivial⟩ (fun w6 C=>?_)
   refine L.o (ay (xs:=[.tmp 101,.tmp 106,.tmp 110,.tmp 114]) call252 Z Z (zI (rA r j) (rA r (j+1)) (rA r i) (rB r i) w6 n1 n2 n3 n4) (fun v7 w7 n=>?_))
   obtain ⟨rfl,D⟩:=n
   refine L.ne Z Z (fun F=>?_) (fun F=>?_)
   ·refine aW (aQ Z (L.a Z (ah Z (cu results266 Z Z ⟨5,i,rfl,dcX,⟨fun h=>absurd h dcX,fun h=>absurd (h.how i j g afs (fun h=>ai omX)) F⟩,y.trans (C.trans D)⟩))))
   refine aU (T.skip (T.blk (aA (L.m Z (bF Z Z (ah Z (aP (j+1) omX ⟨rfl,rfl,rfl,rfl,trivial⟩ ⟨omX,y.trans (C.trans D),upto I (fun _ _=>F)⟩)))))))
  refine aU (aY Z (T.blk (aA (L.m Z (bF Z Z (ah Z (aP (i+1) omX ⟨rfl,rfl,rfl,trivial⟩ ⟨g,y,upto af (fun k E aL V=>I k omX aL V)⟩)))))))
 refine aU (aY Z (fK Z (ah Z (cu results266 Z Z ⟨0,0,rfl,Int.le_refl _,⟨fun _=>⟨h3,ab,ag,fun a b ha hb hn=>af a omX b omX hb hn⟩,fun _=>rfl⟩,ae⟩))))
theorem Bf (lo:Nat) (q:Value) (r:List Pt) (w:World) (c:Pts lo w q r) (f:3≤r.length) (d:r.length≤40) (acN:∀ i,i<r.length→rE (rA r i)=false) :
  Calls Tryz.prog 250 #[q] w (Ret fun v w'=>(∃ k:Int,v = .int .i64 k∧(k=0↔SR r))∧Ext w w'):=by
 refine aJ (vs:=[q]) func250 Z ntmps250 Z ?_
 refine au (ah Z (au (aO Z (ay (xs:=[.tmp 6]) call266 Z Z (DL lo q r w c f d acN) (fun l w1 c=>?_)))))
 obtain ⟨k,a,rfl,g,e,b⟩:=c
 refine L.m Z (bK Z Z (bK Z Z (L.a Z (ah Z (aj (aQ Z (dY Z Z (fun j=>?_) (fun j=>?_))))))))
 ·refine aW (au (ah Z (aB results250 Z ⟨⟨_,rfl,⟨fun h=>absurd h dcX,fun h=>by have:=e.2 h;omega⟩⟩,b⟩)))
 refine aU (T.skip (au (ah Z (aB results250 Z ⟨⟨0,rfl,⟨fun _=>e.1 omX,fun _=>rfl⟩⟩,b⟩))))
open Geo (RR RG SR Jg IxR)
theorem WX {n:Nat} {x:RiV} (h:IxR n x.xs):Ko n x:=⟨afo h.2,by have:=h.1;omega⟩
theorem Jl (lo:Nat) (c:CxV) (w:World) (H:c.ok lo w) :
  Calls Tryz.prog 190 #[c.val] w (Ret fun v w'=>∃ k a:Int,v = .tuple #[.int .i64 k,.int .i64 a]∧0≤k∧(k=0↔Jg c)∧Ext w w'):=by
 refine aJ (vs:=[c.val]) func190 Z ntmps190 Z ?_
 refine au (bM Z (fun b1 w1 I J e hB1=>?_))
 have hC:Blk w1 b1 c.cells 46:=hB1
 have f:=H.ext e
 refine L.a Z (ah Z (aj (au (aC Z (hC.cell Z) (L.le Z (Sl.val f.p) (bH Z Z (fun K=>?_) (fun K=>?_)))))))
 ·refine L.m Z (L.pp (L.pp (aG Z (L.m Z (L.pp (L.pp (aG Z (L.m Z (L.pp (L.pp (aG Z (aW (fK Z (L.a Z (?_)))))))))))))))
  refine ak (cu results190 Z Z ⟨_,_,rfl,dcX,⟨fun h=>absurd h dcX,fun h=>by have:=h.p3;omega⟩,e⟩)
 refine L.m Z (aC Z (hC.cell Z) (L.le Z (Sl.val f.p) (dY Z Z (fun a2=>?_) (fun a2=>?_))))
 ·refine aI Z (L.m Z (L.pp (L.pp (aG Z (L.m Z (L.pp (L.pp (aG Z (aW (fK Z (ah Z (cu results190 Z Z ⟨_,_,rfl,dcX,⟨fun h=>absurd h dcX,fun h=>by have:=h.ad7;omega⟩,e⟩))))))))))))
 refine aI Z (L.m Z (aC Z (hC.cell Z) (L.le Z (Sl.val f.sl) (bH Z Z (fun a3=>?_) (fun a3=>?_)))))
 ·refine aI Z (L.m Z (L.pp (L.pp (aG Z (aW (fK Z (ah Z (cu results190 Z Z ⟨_,_,rfl,dcX,⟨fun h=>absurd h dcX,fun h=>by have:=h.f1;omega⟩,e⟩))))))))
 refine aI Z (L.m Z (aC Z (hC.cell Z) (L.le Z (Sl.val f.sl) (dY Z Z (fun a4=>?_) (fun a4=>?_)))))
 ·refine aI Z (aW (fK Z (ah Z (cu results190 Z Z ⟨_,_,rfl,dcX,⟨fun h=>absurd h dcX,fun h=>by have:=h.f64;omega⟩,e⟩))))
 refine aI Z (aU (T.skip (aj (au (ah Z (T.block (?_)))))))
 refine bf (σ:=Nat) (fun i=>[(1,.pointer (some ⟨b1,0,none⟩)),(4,.int .i64 i)]) (fun i w'=>i≤c.ps.length∧Ext w1 w'∧∀ k,k<i→rE (c.ps.getD k (0,0))=false) (fun i=>c.ps.length-i) (0) ⟨rfl,rfl,trivial⟩ ⟨Nat.zero_le _,Keep.refl _ _,fun k t=>absurd t (Nat.not_lt_zero _)⟩ ?_
 rintro i M ⟨hi,j,y⟩
 have hC2:=Blk.ext (cs:=c.cells) hC j
 have u:=f.ext j
 refine aj (aQ Z (aC Z (hC2.cell Z) (L.le Z (Sl.val u.p) (bH Z Z (fun x=>?_) (fun x=>?_)))))
 ·refine ak (?_)
  have d:i<c.ps.length:=by omega
  refine aZ (T.skip (aj (T.block (au (aC Z (hC2.cell Z) (L.m Z (dG Z Z u.p (aT Z Z (u.p.row d) (L.o (ay (xs:=[.tmp 40]) call217 Z Z (GU (c.ps.getD i (0,0)) M) (fun v3 N O=>?_)))))))))))
  obtain ⟨n,g⟩:=O
  rcases q:rE (c.ps.getD i (0,0)) with _|_
  ·refine ak (?_)
   rw [q] at n
   subst n
   refine bn (T.skip (T.blk (aA (L.m Z (bF Z Z (ah Z (aP (i+1) omX ⟨rfl,rfl,trivial⟩ ⟨d,j.trans g,upto y q⟩)))))))
  refine ak (?_)
  rw [q] at n
  subst n
  refine aZ (aQ Z (L.a Z (ah Z (cu results190 Z Z ⟨_,_,rfl,dcX,⟨fun h=>absurd h dcX,fun h=>by have:=h.far i d;rw [gP,q] at this;cases this⟩,e.trans (j.trans g)⟩))))
 refine ak (?_)
 have D:∀ k,k<c.ps.length→rE (c.ps.getD k (0,0))=false:=fun k t ↦ y k omX
 refine bn (aY Z (aj (au (ah Z (T.block (?_))))))
 refine bf (σ:=Nat) (fun i=>[(1,.pointer (some ⟨b1,0,none⟩)),(5,.int .i64 i)]) (fun i w'=>i≤c.ps.length∧Ext w1 w'∧∀ k,k<i→∀ m,m<k→gP c.ps k≠gP c.ps m) (fun i=>c.ps.length-i) (0) ⟨rfl,rfl,trivial⟩ ⟨Nat.zero_le _,j,fun k t=>absurd t (Nat.not_lt_zero _)⟩ ?_
 rintro i N ⟨hi,g,z⟩
 have E:=Blk.ext (cs:=c.cells) hC g
 have F:=f.ext g
 refine aj (aQ Z (aC Z (E.cell Z) (L.le Z (Sl.val F.p) (bH Z Z (fun x=>?_) (fun x=>?_)))))
 ·refine ak (?_)
  have d:i<c.ps.length:=by omega
  refine aZ (T.skip (aj (T.block (au (ah Z (T.block (?_)))))))
  refine bf (σ:=Nat) (fun k=>[(1,.pointer (some ⟨b1,0,none⟩)),(5,.int .i64 i),(6,.int .i64 k)]) (fun k w'=>k≤i∧Ext w1 w'∧∀ m,m<k→gP c.ps i≠gP c.ps m) (fun k=>i-k) (0) ⟨rfl,rfl,rfl,trivial⟩ ⟨Nat.zero_le _,g,fun k t=>absurd t (Nat.not_lt_zero _)⟩ ?_
  rintro k P ⟨t,l,A⟩
  refine aj (au (aN Z Z (bH Z Z (fun G=>?_) (fun G=>?_))))
  ·refine ak (?_)
   have Om:k<i:=by omega
   have B:=Blk.ext (cs:=c.cells) hC l
   have r:=f.ext l
   refine aZ (T.skip (aj (T.block (aj (?_)))))
   refine dn mixed 10 [1,5,6] Z [.is _,.is _,.is _,.is _,.is _,.is _,.is _,.is _,.is _,.is _] [[],[0],[],[1,2],[3],[],[5],[],[6,7],[8]] trivial ⟨fun s hx=>Ob.fa rfl,
     fun s hx=>aS rfl ((Blk.ext (cs:=c.cells) B hx).cell rfl),
     fun s hx=>aF rfl,
     fun s hx=>bQ rfl rfl ((r.ext hx).p),
     fun s hx=>bJ rfl rfl ((r.ext hx).p.row d),
     fun s hx=>Ob.fa rfl,
     fun s hx=>aS rfl ((Blk.ext (cs:=c.cells) B hx).cell rfl),
     fun s hx=>aF rfl,
     fun s hx=>bQ rfl rfl ((r.ext hx).p),
     fun s hx=>bJ rfl rfl ((r.ext hx).p.row (show k<c.ps.length by omega)),
     trivial⟩ (fun Q C=>?_)
   refine L.o (uD Z Z Z (fun aiU=>?_) (fun aiU=>?_))
   ·refine aW (aQ Z (L.a Z (ah Z (cu results190 Z Z ⟨_,_,rfl,dcX,⟨fun h=>absurd h dcX,fun h=>absurd aiU (h.twin i k d Om)⟩,e.trans (l.trans C)⟩))))
   refine aU (T.skip (T.blk (aA (L.m Z (bF Z Z (ah Z (aP (k+1) omX ⟨rfl,rfl,rfl,trivial⟩ ⟨omX,l.trans C,upto A aiU⟩)))))))
  refine ak (?_)
  obtain rfl:k=i:=by omega
  refine bn (aY Z (T.blk (aA (L.m Z (bF Z Z (ah Z (aP (k+1) omX ⟨rfl,rfl,trivial⟩ ⟨d,l,upto z A⟩)))))))
 refine aU (aY Z (fK Z (ah Z (cu results190 Z Z ⟨0,0,rfl,Int.le_refl _,⟨fun _=>⟨omX,omX,omX,omX,D,fun a b ha hb=>z a omX b hb⟩,fun _=>rfl⟩,e.trans g⟩))))
theorem Jm (lo:Nat) (c:CxV) (f:FaV) (w:World) (O:c.ok lo w) (hf:f.ok lo w) (hn:NfL c.ps) (C:f.hs.length≤100000) (hx:∀ r,r<f.ri.length→IxR c.ps.length (f.ri.getD r r0).xs) :
  Calls Tryz.prog 219 #[c.val,f.val] w (Ret fun v w'=>(∃ b:Bool,v = .bool b∧(b=true↔∀ r,r<f.ri.length→RR (cor c.ps 1 (f.ri.getD r r0).xs)))∧Ext w w'):=by
 refine aJ (vs:=[c.val,f.val]) func219 Z ntmps219 Z ?_
 refine au (bM Z (fun b2 w2 P Q D hB2=>?_))
 refine bM Z (fun b3 A R S t hB3=>?_)
 have hC:Blk A b2 c.cells 46:=Blk.ext (cs:=c.cells) hB2 t
 have hF:Blk A b3 f.cells 127:=hB3
 have kZ:=D.trans t
 have E:=O.ext kZ
 have u:=hf.ext kZ
 refine ah Z (au (aT Z Z hF.row (L.o (ay (xs:=[.tmp 7]) call131 Z Z (jm lo f A u C) (fun N w7 x=>?_)))))
 obtain ⟨F,G,U⟩:=x
 refine ah Z (aj (au (ah Z (T.block (?_)))))
 refine bf (σ:=Nat) (fun i=>[(2,.pointer (some ⟨b2,0,none⟩)),(5,N),(6,.int .i64 i)]) (fun i w'=>i≤f.ri.length∧Ext w7 w'∧∀ k,k<i→RR (cor c.ps 1 (f.ri.getD k r0).xs)) (fun i=>f.ri.length-i) (0) ⟨rfl,rfl,rfl,trivial⟩ ⟨Nat.zero_le _,Keep.refl _ _,fun k y=>absurd y (Nat.not_lt_zero _)⟩ ?_
 rintro i V ⟨hi,q,n⟩
 have g:Sl A.heap.size V N f.ri.length 1 (dw f.ri):=Sl.ext G q
 have ahp:=Sl.le g
 have Bd:=F.trans q
 have H:=E.ext Bd
 have I:=u.ext Bd
 refine aj (au (aN Z Z (L.le Z (Sl.val g) (bH Z Z (fun J=>?_) (fun J=>?_)))))
 ·refine ak (?_)
  have d:i<f.ri.length:=by omega
  have z:=WX (hx i d)
  have e:=hx i d
  have acN:=Geo.Dp (fun a ha=>hn a ha) e.2
  have j:(cor c.ps 1 (f.ri.getD i r0).xs).length=(f.ri.getD i r0).xs.length:=Geo.acD _ _ _
  refine aZ (T.skip (aj (T.block (aj (?_)))))
  refine dn mixed 5 [2,5,6] Z [.is _,.is _,.is _,.is _,.is _] [[],[],[],[1,2],[3]] trivial ⟨fun B hx=>bJ rfl rfl ((Blk.ext (cs:=c.cells) hC (Bd.trans hx)).row),
    fun B hx=>aF rfl,
    fun B hx=>aF rfl,
    fun B hx=>bQ rfl rfl (Sl.ext g hx),
    fun B hx=>aS rfl (by rw [Int.toNat_natCast,Nat.mul_one];exact Sl.cell (Sl.ext g hx) (lK d)),
    trivial⟩ (fun W l=>?_)
  refine L.o (ay (xs:=[.tmp 15,.tmp 19,.const (.int .i64 1)]) call224 Z Z (oJ lo lo c _ (f.ri.getD i r0).xs 1 W (H.ext l).p (Pj (I.ext l) d) hn (.inl Z) z.1 z.2) (fun X K x=>?_))
  obtain ⟨jf,aiV⟩:=x
  refine L.o (ay (xs:=[.tmp 20]) call250 Z Z (Bf _ _ (cor c.ps 1 (f.ri.getD i r0).xs) K aiV (by rw [j];exact e.1.1) (by rw [j];exact e.1.2) acN) (fun Y aa x=>?_))
  obtain ⟨⟨k,rfl,y⟩,iK⟩:=x
  refine L.ne Z Z (fun M=>?_) (fun M=>?_)
  ·refine aW (au (ah Z (aB results219 Z ⟨⟨false,rfl,⟨fun h=>(by cases h),fun h=>absurd (y.2 (h i d).sr) M⟩⟩,kZ.trans (Bd.trans (l.trans (jf.trans iK)))⟩)))
  refine ak (?_)
  have s:=y.1 M
  refine bn (T.skip (T.blk (aA (L.m Z (bF Z Z (ah Z (aP (i+1) omX ⟨rfl,rfl,rfl,trivial⟩ ⟨d,q.trans (l.trans (jf.trans iK)),upto n ⟨by rw [j];exact e.1.1,by rw [j];exact e.1.2,acN,s.still,s.L8,s.how⟩⟩)))))))
 refine aU (aY Z (au (ah Z (aB results219 Z ⟨⟨true,rfl,⟨fun _ k y=>n k omX,fun _=>rfl⟩⟩,kZ.trans Bd⟩))))
theorem Jo (lo:Nat) (c:CxV) (f:FaV) (w:World) (J:c.ok lo w) (hf:f.ok lo w) (hn:NfL c.ps) (y:f.hs.length≤100000) (z:∀ h∈f.ri,Ko c.ps.length h) :
  Calls Tryz.prog 220 #[c.val,f.val] w (Ret fun v w'=>(∃ b:Bool,v = .bool b∧(b=true↔∀ r,r<f.ri.length→¬ (r=0∧jd (cor c.ps 1 (f.ri.getD r r0).xs) (cor c.ps 1 (f.ri.getD r r0).xs).length<0∨0<r∧0<jd (cor c.ps 1 (f.ri.getD r r0).xs) (cor c.ps 1 (f.ri.getD r r0).xs).length)))∧Ext w w'):=by
 refine aJ (vs:=[c.val,f.val]) func220 Z ntmps220 Z ?_
 refine au (bM Z (fun b2 W K M A hB2=>?_))
 refine bM Z (fun b3 u N O n hB3=>?_)
 have hC:Blk u b2 c.cells 46:=Blk.ext (cs:=c.cells) hB2 n
 have hF:Blk u b3 f.cells 127:=hB3
 have kZ:=A.trans n
 have B:=J.ext kZ
 have q:=hf.ext kZ
 refine ah Z (au (aT Z Z hF.row (L.o (ay (xs:=[.tmp 8]) call131 Z Z (jm lo f u q y) (fun H w7 s=>?_)))))
 obtain ⟨t,C,P⟩:=s
 refine ah Z (aj (au (ah Z (T.block (?_)))))
 refine bf (σ:=Nat) (fun i=>[(2,.pointer (some ⟨b2,0,none⟩)),(5,H),(6,.int .i64 i)]) (fun i w'=>i≤f.ri.length∧Ext w7 w'∧∀ k,k<i→¬ (k=0∧jd (cor c.ps 1 (f.ri.getD k r0).xs) (cor c.ps 1 (f.ri.getD k r0).xs).length<0∨0<k∧0<jd (cor c.ps 1 (f.ri.getD k r0).xs) (cor c.ps 1 (f.ri.getD k r0).xs).length)) (fun i=>f.ri.length-i) (0) ⟨rfl,rfl,rfl,trivial⟩ ⟨Nat.zero_le _,Keep.refl _ _,fun k I=>absurd I (Nat.not_lt_zero _)⟩ ?_
 rintro i Q ⟨hi,j,d⟩
 have e:Sl u.heap.size Q H f.ri.length 1 (dw f.ri):=Sl.ext C j
 have ahp:=Sl.le e
 have Bd:=t.trans j
 have D:=B.ext Bd
 have E:=q.ext Bd
 refine aj (au (aN Z Z (L.le Z (Sl.val e) (bH Z Z (fun F=>?_) (fun F=>?_)))))
 ·refine ak (?_)
  have a:i<f.ri.length:=by omega
  have g:=z _ (WU a)
  refine aZ (T.skip (aj (T.block (aj (?_)))))
  refine dn mixed 5 [2,5,6] Z [.is _,.is _,.is _,.is _,.is _] [[],[],[],[1,2],[3]] trivial ⟨fun x hx=>bJ rfl rfl ((Blk.ext (cs:=c.cells) hC (Bd.trans hx)).row),
    fun x hx=>aF rfl,
    fun x hx=>aF rfl,
    fun x hx=>bQ rfl rfl (Sl.ext e hx),
    fun x hx=>aS rfl (by rw [Int.toNat_natCast,Nat.mul_one];exact Sl.cell (Sl.ext e hx) (lK a)),
    trivial⟩ (fun R l=>?_)
  refine L.o (ay (xs:=[.tmp 16,.tmp 20,.const (.int .i64 1)]) call224 Z Z (oJ lo lo c _ (f.ri.getD i r0).xs 1 R (D.ext l).p (Pj (E.ext l) a) hn (.inl Z) g.1 g.2) (fun S G s=>?_))
  obtain ⟨jf,aiV⟩:=s
  refine L.o (ay (xs:=[.tmp 21]) call251 Z Z (Jh _ _ (cor c.ps 1 (f.ri.getD i r0).xs) G aiV (acL hn g.1) (by rw [o9];exact g.2)) (fun U V s=>?_))
  obtain ⟨rfl,iK⟩:=s
  have hE:=j.trans (l.trans (jf.trans iK))
  have hEE:=kZ.trans (t.trans hE)
  refine ah Z (aQ Z (dK Z Z (fun z0=>?_) (fun z0=>?_)))
  ·refine aN Z Z (bH Z Z (fun z1=>?_) (fun z1=>?_))
   ·refine aG Z (L.m Z (L.pp (L.pp (L.pp (aG Z (aW (au (ah Z (aB results220 Z ⟨⟨false,rfl,⟨fun h=>(by cases h),fun h=>absurd (.inl ⟨omX,z1⟩) (h i a)⟩⟩,hEE⟩)))))))))
   refine aG Z (aN Z Z (L.o (gW Z Z omX (L.m Z (L.pp (aI Z (aI Z (aU (T.skip (T.blk (aA (L.m Z (bF Z Z (ah Z (aP (i+1) omX ⟨rfl,rfl,rfl,trivial⟩ ⟨a,hE,upto d (fun h=>by rcases h with ⟨_,h⟩|⟨h,_⟩;exact z1 h;omega)⟩)))))))))))))))
  refine L.m Z (L.pp (aI Z (aN Z Z (L.o (iM Z Z omX (aN Z Z (dY Z Z (fun z2=>?_) (fun z2=>?_))))))))
  ·refine aG Z (aI Z (aW (au (ah Z (aB results220 Z ⟨⟨false,rfl,⟨fun h=>(by cases h),fun h=>absurd (.inr ⟨omX,z2⟩) (h i a)⟩⟩,hEE⟩)))))
  refine aG Z (aI Z (aU (T.skip (T.blk (aA (L.m Z (bF Z Z (ah Z (aP (i+1) omX ⟨rfl,rfl,rfl,trivial⟩ ⟨a,hE,upto d (fun h=>by rcases h with ⟨h,_⟩|⟨_,h⟩;omega;exact z2 h)⟩)))))))))
 refine aU (aY Z (au (ah Z (aB results220 Z ⟨⟨true,rfl,⟨fun _ k I=>d k omX,fun _=>rfl⟩⟩,kZ.trans Bd⟩))))
theorem FM (lo:Nat) (c:CxV) (f:FaV) (w:World) (Q:c.ok lo w) (hf:f.ok lo w) (amk:c.ps.length≤120) :
  Calls Tryz.prog 218 #[c.val,f.val] w (Ret fun v w'=>(∃ b:Bool,v = .bool b∧(b=true↔f.hs.length≤8∧∀ r,r<f.ri.length→IxR c.ps.length (f.ri.getD r r0).xs))∧Ext w w'):=by
 refine aJ (vs:=[c.val,f.val]) func218 Z ntmps218 Z ?_
 refine au (bM Z (fun b2 w2 R S F hB2=>?_))
 refine bM Z (fun b3 u U V y hB3=>?_)
 have hC:Blk u b2 c.cells 46:=Blk.ext (cs:=c.cells) hB2 y
 have hF:Blk u b3 f.cells 127:=hB3
 have kZ:=F.trans y
 have G:=Q.ext kZ
 have j:=hf.ext kZ
 refine ah Z (aj (au (aC Z (hF.cell Z) (L.le Z (Sl.val j.sl) (dY Z Z (fun W=>?_) (fun W=>?_))))))
 ·refine aW (au (ah Z (aB results218 Z ⟨⟨false,rfl,⟨fun h=>(by cases h),fun h=>by have:=h.1;omega⟩⟩,kZ⟩)))
 refine aU (T.skip (au (aT Z Z hF.row (L.o (ay (xs:=[.tmp 12]) call131 Z Z (jm lo f u j omX) (fun E w7 X=>?_))))))
 obtain ⟨z,A,Y⟩:=X
 refine ah Z (aj (au (ah Z (T.block (?_)))))
 refine bf (σ:=Nat) (fun i=>[(2,.pointer (some ⟨b2,0,none⟩)),(5,E),(6,.int .i64 i)]) (fun i w'=>i≤f.ri.length∧Ext w7 w'∧∀ k,k<i→IxR c.ps.length (f.ri.getD k r0).xs) (fun i=>f.ri.length-i) (0) ⟨rfl,rfl,rfl,trivial⟩ ⟨Nat.zero_le _,Keep.refl _ _,fun k B=>absurd B (Nat.not_lt_zero _)⟩ ?_
 rintro i w8 ⟨hi,s,n⟩
 have g:Sl u.heap.size w8 E f.ri.length 1 (dw f.ri):=Sl.ext A s
 have ahp:=Sl.le g
 have Bd:=z.trans s
 have H:=j.ext Bd
 refine aj (au (aN Z Z (L.le Z (Sl.val g) (bH Z Z (fun I=>?_) (fun I=>?_)))))
 ·refine ak (?_)
  have a:i<f.ri.length:=by omega
  have amq:=Pj H a
  refine aZ (T.skip (aj (T.block (aj (au (aN Z Z (dG Z Z g (cZ Z (by rw [Int.toNat_natCast,Nat.mul_one];exact Sl.cell g (lK a)) (L.le Z (Sl.val amq) (bH Z Z (fun t1=>?_) (fun t1=>?_)))))))))))
  ·refine L.m Z (L.pp (L.pp (L.pp (aG Z (aW (au (ah Z (aB results218 Z ⟨⟨false,rfl,⟨fun h=>(by cases h),fun h=>by have:=(h.2 i a).1.1;omega⟩⟩,kZ.trans Bd⟩))))))))
  refine aN Z Z (L.m Z (dG Z Z g (cZ Z (by rw [Int.toNat_natCast,Nat.mul_one];exact Sl.cell g (lK a)) (L.le Z (Sl.val amq) (dY Z Z (fun t2=>?_) (fun t2=>?_))))))
  ·refine aI Z (aW (au (ah Z (aB results218 Z ⟨⟨false,rfl,⟨fun h=>(by cases h),fun h=>by have:=(h.2 i a).1.2;omega⟩⟩,kZ.trans Bd⟩))))
  refine aI Z (aU (T.skip (au (ah Z (T.block (?_))))))
  refine bf (σ:=Nat) (fun k=>[(2,.pointer (some ⟨b2,0,none⟩)),(5,E),(6,.int .i64 i),(7,.int .i64 k)]) (fun k w'=>k≤(f.ri.getD i r0).xs.length∧Ext w7 w'∧∀ m,m<k→0≤(f.ri.getD i r0).xs.getD m 0∧(f.ri.getD i r0).xs.getD m 0<(c.ps.length:Int)) (fun k=>(f.ri.getD i r0).xs.length-k) (0) ⟨rfl,rfl,rfl,rfl,trivial⟩ ⟨Nat.zero_le _,s,fun k B=>absurd B (Nat.not_lt_zero _)⟩ ?_
  rintro k w9 ⟨B,l,C⟩
  have e:Sl u.heap.size w9 E f.ri.length 1 (dw f.ri):=Sl.ext A l
  have afu:=z.trans l
  have J:=G.ext afu
  have K:=j.ext afu
  have Pn:=Pj K a
  refine aj (au (aN Z Z (L.m Z (dG Z Z e (cZ Z (by rw [Int.toNat_natCast,Nat.mul_one];exact Sl.cell e (lK a)) (L.le Z (Sl.val Pn) (bH Z Z (fun M=>?_) (fun M=>?_))))))))
  ·refine ak (?_)
   have Om:k<(f.ri.getD i r0).xs.length:=by omega
   have q:¬ (0≤(f.ri.getD i r0).xs.getD k 0∧(f.ri.getD i r0).xs.getD k 0<(c.ps.length:Int))→¬ (f.hs.length≤8∧∀ r,r<f.ri.length→IxR c.ps.length (f.ri.getD r r0).xs):=fun h1 h2 ↦ h1 (by have:=(h2.2 i a).2 _ (List.getElem_mem Om);rw [aX Om];exact this)
   rcases Int.lt_or_le ((f.ri.getD i r0).xs.getD k 0) 0 with t|t
   ·refine aZ (T.skip (aj (T.block (aj (?_)))))
    refine dn mixed 19 [5,6,7,2] Z [.is _,.is _,.is _,.is _,.is _,.is _,.is _,.is _,.is _,.is undef,.is undef,.is undef,.is undef,.is undef,.is undef,.is undef,.is undef,.is undef,.is undef] [[],[],[0,1],[2],[],[3,4],[5],[6],[7],[8],[8],[9,10,8],[11,8],[8],[12,13,8],[14,8],[8],[16,8],[17,8]] trivial ⟨fun d hx=>aF rfl,
      fun d hx=>aF rfl,
      fun d hx=>bQ rfl rfl (Sl.ext e hx),
      fun d hx=>aS rfl (by rw [Int.toNat_natCast,Nat.mul_one];exact Sl.cell (Sl.ext e hx) (lK a)),
      fun d hx=>aF rfl,
      fun d hx=>bQ rfl rfl (Pn.ext hx),
      fun d hx=>aS rfl (Ints.at (Pn.ext hx) Om),
      fun d hx=>Ob.o (mD Z Z t kR),
      fun d hx=>aF rfl,
      fun d hx=>aV rfl rfl,
      fun d hx=>aV rfl rfl,
      fun d hx=>aV rfl rfl,
      fun d hx=>aV rfl rfl,
      fun d hx=>aV rfl rfl,
      fun d hx=>aV rfl rfl,
      fun d hx=>aV rfl rfl,
      fun d hx=>aV rfl rfl,
      fun d hx=>aV rfl rfl,
      fun d hx=>aV rfl rfl,
      trivial⟩ (fun N jf=>?_)
    refine L.p (aG Z (aW (au (ah Z (aB results218 Z ⟨⟨false,rfl,⟨fun h=>(by cases h),fun h=>absurd h (q omX)⟩⟩,kZ.trans (afu.trans jf)⟩)))))
   refine aZ (T.skip (aj (T.block (aj (?_)))))
   refine dn mixed 19 [5,6,7,2] Z [.is _,.is _,.is _,.is _,.is _,.is _,.is _,.is _,.is _,.is _,.is _,.is _,.is _,.is _,.is _,.is _,.is _,.is _,.is _] [[],[],[0,1],[2],[],[3,4],[5],[6],[7],[8],[8],[9,10,8],[11,8],[8],[12,13,8],[14,8],[8],[16,8],[17,8]] trivial ⟨fun d hx=>aF rfl,
     fun d hx=>aF rfl,
     fun d hx=>bQ rfl rfl (Sl.ext e hx),
     fun d hx=>aS rfl (by rw [Int.toNat_natCast,Nat.mul_one];exact Sl.cell (Sl.ext e hx) (lK a)),
     fun d hx=>aF rfl,
     fun d hx=>bQ rfl rfl (Pn.ext hx),
     fun d hx=>aS rfl (Ints.at (Pn.ext hx) Om),
     fun d hx=>Ob.o (fU Z Z omX kR),
     fun d hx=>aF rfl,
     fun d hx=>aF rfl,
     fun d hx=>aF rfl,
     fun d hx=>bQ rfl rfl (Sl.ext e hx),
     fun d hx=>aS rfl (by rw [Int.toNat_natCast,Nat.mul_one];exact Sl.cell (Sl.ext e hx) (lK a)),
     fun d hx=>aF rfl,
     fun d hx=>bQ rfl rfl (Pn.ext hx),
     fun d hx=>aS rfl (Ints.at (Pn.ext hx) Om),
     fun d hx=>Ob.fa rfl,
     fun d hx=>aS rfl ((Blk.ext (cs:=c.cells) hC (afu.trans hx)).cell rfl),
     fun d hx=>Ob.o (O.le Z (Sl.val ((J.ext hx).p)) kR),
     trivial⟩ (fun N jf=>?_)
   refine L.o (fJ Z Z (fun D=>?_) (fun D=>?_))
   ·refine aI Z (aW (au (ah Z (aB results218 Z ⟨⟨false,rfl,⟨fun h=>(by cases h),fun h=>absurd h (q omX)⟩⟩,kZ.trans (afu.trans jf)⟩))))
   refine aI Z (aU (T.skip (T.blk (aA (L.m Z (bF Z Z (ah Z (aP (k+1) omX ⟨rfl,rfl,rfl,rfl,trivial⟩ ⟨omX,l.trans jf,upto C ⟨t,omX⟩⟩))))))))
  refine ak (?_)
  obtain rfl:k=(f.ri.getD i r0).xs.length:=by omega
  refine bn (aY Z (T.blk (aA (L.m Z (bF Z Z (ah Z (aP (i+1) omX ⟨rfl,rfl,rfl,trivial⟩ ⟨a,l,upto n ⟨⟨omX,omX⟩,fun x hx=>by obtain ⟨m,P,rfl⟩:=List.getElem_of_mem hx;have:=C m P;rw [aX P] at this;exact this⟩⟩)))))))
 refine aU (aY Z (au (ah Z (aB results218 Z ⟨⟨true,rfl,⟨fun _=>⟨omX,fun k B=>n k omX⟩,fun _=>rfl⟩⟩,kZ.trans Bd⟩))))
open Geo (RR RG SR Jg DI MG WL IxR)
theorem MO (lo:Nat) (c:CxV) (w:World) (K:c.ok lo w) (D:Jg c) :
  Calls Tryz.prog 191 #[c.val] w (Ret fun v w'=>∃ k a:Int,v = .tuple #[.int .i64 k,.int .i64 a]∧0≤k∧(k=0↔DI c∧MG c∧WL c)∧Ext w w'):=by
 have M:=D.ad7
 have X:=D.f64
 have hn:NfL c.ps:=fun i hi ↦ D.far i hi
 refine aJ (vs:=[c.val]) func191 Z ntmps191 Z ?_
 refine au (bM Z (fun b1 w1 N O p hB1=>?_))
 have hC:Blk w1 b1 c.cells 46:=hB1
 have z:=K.ext p
 refine L.a Z (ah Z (aj (au (ah Z (T.block (?_))))))
 refine bf (σ:=Nat) (fun i=>[(1,.pointer (some ⟨b1,0,none⟩)),(4,.int .i64 i)]) (fun i w'=>i≤c.fs.length∧Ext w1 w'∧∀ k,k<i→(c.fs.getD k f0).hs.length≤8∧∀ r,r<(c.fs.getD k f0).ri.length→IxR c.ps.length ((c.fs.getD k f0).ri.getD r r0).xs) (fun i=>c.fs.length-i) (0) ⟨rfl,rfl,trivial⟩ ⟨Nat.zero_le _,Keep.refl _ _,fun k A=>absurd A (Nat.not_lt_zero _)⟩ ?_
 rintro i Y ⟨hi,q,aiW⟩
 have e:=Blk.ext (cs:=c.cells) hC q
 have d:=z.ext q
 refine aj (aQ Z (aC Z (e.cell Z) (L.le Z (Sl.val d.sl) (bH Z Z (fun s=>?_) (fun s=>?_)))))
 ·refine ak (?_)
  have b:i<c.fs.length:=by omega
  refine aZ (T.skip (aj (T.block (aj (?_)))))
  refine dn mixed 6 [1,4] Z [.is _,.is _,.is _,.is _,.is _,.is _] [[],[],[1],[],[2,3],[4]] trivial ⟨fun f hx=>bJ rfl rfl ((Blk.ext (cs:=c.cells) e hx).row),
    fun f hx=>Ob.fa rfl,
    fun f hx=>aS rfl ((Blk.ext (cs:=c.cells) e hx).cell rfl),
    fun f hx=>aF rfl,
    fun f hx=>bQ rfl rfl ((d.ext hx).sl),
    fun f hx=>bJ rfl rfl ((d.ext hx).row b),
    trivial⟩ (fun E jD=>?_)
  refine L.o (ay (xs:=[.tmp 14,.tmp 19]) call218 Z Z (FM lo c (c.fs.getD i f0) E (d.ext jD) ((d.ext jD).at b) M) (fun P Q B=>?_))
  obtain ⟨⟨bo,rfl,g⟩,qF⟩:=B
  rcases bo with _|_
  ·refine bT Z (aW (aQ Z (L.a Z (ah Z (cu results191 Z Z ⟨_,_,rfl,dcX,⟨fun h=>absurd h dcX,fun h=>by have:=g.2 ⟨h.1.holes i b,fun r l=>h.1.idx i r b l⟩;cases this⟩,p.trans (q.trans (jD.trans qF))⟩)))))
  refine bT Z (aU (T.skip (T.blk (aA (L.m Z (bF Z Z (ah Z (aP (i+1) omX ⟨rfl,rfl,trivial⟩ ⟨b,q.trans (jD.trans qF),upto aiW (g.1 Z)⟩))))))))
 refine ak (?_)
 have n:DI c:=⟨fun j C ↦ (aiW j omX).1,fun j r C l ↦ (aiW j omX).2 r l⟩
 have J:∀ j,j<c.fs.length→(c.fs.getD j f0).hs.length≤100000:=fun j C ↦ by have:=n.holes j C;omega
 refine bn (aY Z (aj (au (ah Z (T.block (?_))))))
 refine bf (σ:=Nat) (fun i=>[(1,.pointer (some ⟨b1,0,none⟩)),(5,.int .i64 i)]) (fun i w'=>i≤c.fs.length∧Ext w1 w'∧∀ k,k<i→∀ r,r<(c.fs.getD k f0).ri.length→RR (cor c.ps 1 ((c.fs.getD k f0).ri.getD r r0).xs)) (fun i=>c.fs.length-i) (0) ⟨rfl,rfl,trivial⟩ ⟨Nat.zero_le _,q,fun k A=>absurd A (Nat.not_lt_zero _)⟩ ?_
 rintro i w3 ⟨hi,t,x⟩
 have e:=Blk.ext (cs:=c.cells) hC t
 have d:=z.ext t
 refine aj (aQ Z (aC Z (e.cell Z) (L.le Z (Sl.val d.sl) (bH Z Z (fun s=>?_) (fun s=>?_)))))
 ·refine ak (?_)
  have b:i<c.fs.length:=by omega
  refine aZ (T.skip (aj (T.block (aj (?_)))))
  refine dn mixed 6 [1,5] Z [.is _,.is _,.is _,.is _,.is _,.is _] [[],[],[1],[],[2,3],[4]] trivial ⟨fun f hx=>bJ rfl rfl ((Blk.ext (cs:=c.cells) e hx).row),
    fun f hx=>Ob.fa rfl,
    fun f hx=>aS rfl ((Blk.ext (cs:=c.cells) e hx).cell rfl),
    fun f hx=>aF rfl,
    fun f hx=>bQ rfl rfl ((d.ext hx).sl),
    fun f hx=>bJ rfl rfl ((d.ext hx).row b),
    trivial⟩ (fun F iH=>?_)
  refine L.o (ay (xs:=[.tmp 30,.tmp 35]) call219 Z Z (Jm lo c (c.fs.getD i f0) F (d.ext iH) ((d.ext iH).at b) hn (J i b) (fun r l ↦ n.idx i r b l)) (fun R S B=>?_))
  obtain ⟨⟨bo,rfl,g⟩,Gm⟩:=B
  rcases bo with _|_
  ·refine bT Z (aW (aQ Z (L.a Z (ah Z (cu results191 Z Z ⟨_,_,rfl,dcX,⟨fun h=>absurd h dcX,fun h=>by have:=g.2 (fun r l=>h.2.1 i r b l);cases this⟩,p.trans (t.trans (iH.trans Gm))⟩)))))
  refine bT Z (aU (T.skip (T.blk (aA (L.m Z (bF Z Z (ah Z (aP (i+1) omX ⟨rfl,rfl,trivial⟩ ⟨b,t.trans (iH.trans Gm),upto x (g.1 Z)⟩))))))))
 refine ak (?_)
 have G:MG c:=fun j r C l ↦ x j omX r l
 refine bn (aY Z (aj (au (ah Z (T.block (?_))))))
 refine bf (σ:=Nat) (fun i=>[(1,.pointer (some ⟨b1,0,none⟩)),(6,.int .i64 i)]) (fun i w'=>i≤c.fs.length∧Ext w1 w'∧∀ k,k<i→∀ r,r<(c.fs.getD k f0).ri.length→¬ (r=0∧jd (cor c.ps 1 ((c.fs.getD k f0).ri.getD r r0).xs) (cor c.ps 1 ((c.fs.getD k f0).ri.getD r r0).xs).length<0∨0<r∧0<jd (cor c.ps 1 ((c.fs.getD k f0).ri.getD r r0).xs) (cor c.ps 1 ((c.fs.getD k f0).ri.getD r r0).xs).length)) (fun i=>c.fs.length-i) (0) ⟨rfl,rfl,trivial⟩ ⟨Nat.zero_le _,t,fun k A=>absurd A (Nat.not_lt_zero _)⟩ ?_
 rintro i w4 ⟨hi,u,y⟩
 have e:=Blk.ext (cs:=c.cells) hC u
 have d:=z.ext u
 refine aj (aQ Z (aC Z (e.cell Z) (L.le Z (Sl.val d.sl) (bH Z Z (fun s=>?_) (fun s=>?_)))))
 ·refine ak (?_)
  have b:i<c.fs.length:=by omega
  have H:∀ h∈(c.fs.getD i f0).ri,Ko c.ps.length h:=fun h U ↦ by
   obtain ⟨r,l,rfl⟩:=List.getElem_of_mem U
   have:=n.idx i r b l
   rw [aX l] at this
   exact WX this
  refine aZ (T.skip (aj (T.block (aj (?_)))))
  refine dn mixed 6 [1,6] Z [.is _,.is _,.is _,.is _,.is _,.is _] [[],[],[1],[],[2,3],[4]] trivial ⟨fun f hx=>bJ rfl rfl ((Blk.ext (cs:=c.cells) e hx).row),
    fun f hx=>Ob.fa rfl,
    fun f hx=>aS rfl ((Blk.ext (cs:=c.cells) e hx).cell rfl),
    fun f hx=>aF rfl,
    fun f hx=>bQ rfl rfl ((d.ext hx).sl),
    fun f hx=>bJ rfl rfl ((d.ext hx).row b),
    trivial⟩ (fun I je=>?_)
  refine L.o (ay (xs:=[.tmp 46,.tmp 51]) call220 Z Z (Jo lo c (c.fs.getD i f0) I (d.ext je) ((d.ext je).at b) hn (J i b) H) (fun V W B=>?_))
  obtain ⟨⟨bo,rfl,g⟩,Gl⟩:=B
  rcases bo with _|_
  ·refine bT Z (aW (aQ Z (L.a Z (ah Z (cu results191 Z Z ⟨_,_,rfl,dcX,⟨fun h=>absurd h dcX,fun h=>by have:=g.2 (fun r l=>h.2.2 i r b l);cases this⟩,p.trans (u.trans (je.trans Gl))⟩)))))
  refine bT Z (aU (T.skip (T.blk (aA (L.m Z (bF Z Z (ah Z (aP (i+1) omX ⟨rfl,rfl,trivial⟩ ⟨b,u.trans (je.trans Gl),upto y (g.1 Z)⟩))))))))
 refine aU (aY Z (fK Z (ah Z (cu results191 Z Z ⟨0,0,rfl,Int.le_refl _,⟨fun _=>⟨n,G,fun j r C l=>y j omX r l⟩,fun _=>rfl⟩,p.trans u⟩))))
set_option maxHeartbeats 2000000 in
theorem MP (lo:Nat) (c:CxV) (w:World) (hc:c.ok lo w) (h4:c.fs.length≤64) (hg:DI c) :
  Calls Tryz.prog 221 #[c.val] w (Ret fun v w'=>Ext w w'∧Sts w.heap.size w' v (stL c.fs)):=by
 refine aJ (vs:=[c.val]) func221 Z ntmps221 Z ?_
 refine au (bM Z (fun b1 w1 ad ae k hB1=>?_))
 have hC:Blk w1 b1 c.cells 46:=hB1
 have D:=hc.ext k
 refine ah Z (au (ah Z (aj (au (ah Z (T.block (?_)))))))
 refine bf (σ:=Nat × Value) (fun s=>[(1,.pointer (some ⟨b1,0,none⟩)),(3,s.2),(4,.int .i64 s.1)]) (fun s w'=>s.1≤c.fs.length∧Ext w1 w'∧w'.ownsRow w1.heap.size 292 4 s.2 (pre (gF c.fs) s.1).length (lS (pre (gF c.fs) s.1))∧(pre (gF c.fs) s.1).length≤360*s.1) (fun s=>c.fs.length-s.1) ((0,.slice none 0 0)) ⟨rfl,rfl,rfl,trivial⟩ ⟨Nat.zero_le _,Keep.refl _ _,iF _ _ _ _,Nat.le_refl _⟩ ?_
 rintro ⟨f,s⟩ E ⟨hf,l,hO2,hL2⟩
 simp only at hf hO2 hL2
 have hC2:=Blk.ext (cs:=c.cells) hC l
 have n:=D.ext l
 refine aj (aQ Z (aC Z (hC2.cell Z) (L.le Z (Sl.val n.sl) (bH Z Z (fun t=>?_) (fun t=>?_)))))
 ·refine ak (?_)
  have b:f<c.fs.length:=by simp only at t;omega
  have af:=hg.holes f b
  have ag:(c.fs.getD f f0).ri.length=(c.fs.getD f f0).hs.length+1:=rfl
  refine aZ (T.skip (aj (T.block (au (aC Z (hC2.cell Z) (L.m Z (dG Z Z n.sl (aT Z Z (n.row b) (L.o (ay (xs:=[.tmp 19]) call131 Z Z (jm lo (c.fs.getD f f0) E (n.at b) omX) (fun C w7 hq=>?_)))))))))))
  obtain ⟨F,ai,M⟩:=hq
  have N:=cO hO2 F lzX
  refine ah Z (au (ah Z (T.block (?_))))
  refine bf (σ:=Nat × Value) (fun s=>[(1,.pointer (some ⟨b1,0,none⟩)),(3,s.2),(4,.int .i64 f),(5,C),(6,.int .i64 s.1)]) (fun s w'=>s.1≤(c.fs.getD f f0).ri.length∧Ext w1 w'∧w7.heap.size≤w'.heap.size∧w'.ownsRow E.heap.size 30 1 C (c.fs.getD f f0).ri.length (dw (c.fs.getD f f0).ri)∧w'.ownsRow w1.heap.size 292 4 s.2 (pre (gF c.fs) f++pre (gR f (c.fs.getD f f0).ri) s.1).length (lS (pre (gF c.fs) f++pre (gR f (c.fs.getD f f0).ri) s.1))∧(pre (gR f (c.fs.getD f f0).ri) s.1).length≤40*s.1) (fun s=>(c.fs.getD f f0).ri.length-s.1) ((0,s)) ⟨rfl,rfl,rfl,rfl,rfl,trivial⟩ ⟨Nat.zero_le _,l.trans F,Nat.le_refl _,M,by simpa [pre] using N,Nat.le_refl _⟩ ?_
  rintro ⟨r,P⟩ w8 ⟨hr,G,Q,u,x,R⟩
  simp only at hr x R u
  have H:Sl E.heap.size w8 C (c.fs.getD f f0).ri.length 1 (dw (c.fs.getD f f0).ri):=Sl.dD u
  have ahp:=Sl.le H
  refine aj (au (aN Z Z (L.le Z (Sl.val H) (bH Z Z (fun y=>?_) (fun y=>?_)))))
  ·refine ak (?_)
   have acO:r<(c.fs.getD f f0).ri.length:=by simp only at y;omega
   have g:=hg.idx f r b acO
   unfold Geo.IxR at g
   refine aZ (T.skip (aj (T.block (au (ah Z (T.block (?_)))))))
   refine bf (σ:=Nat × Value) (fun s=>[(1,.pointer (some ⟨b1,0,none⟩)),(3,s.2),(4,.int .i64 f),(5,C),(6,.int .i64 r),(7,.int .i64 s.1)]) (fun s w'=>s.1≤((c.fs.getD f f0).ri.getD r r0).xs.length∧Ext w1 w'∧w7.heap.size≤w'.heap.size∧w'.ownsRow E.heap.size 30 1 C (c.fs.getD f f0).ri.length (dw (c.fs.getD f f0).ri)∧w'.ownsRow w1.heap.size 292 4 s.2 (pre (gF c.fs) f++(pre (gR f (c.fs.getD f f0).ri) r++(stR f r ((c.fs.getD f f0).ri.getD r r0).xs).take s.1)).length (lS (pre (gF c.fs) f++(pre (gR f (c.fs.getD f f0).ri) r++(stR f r ((c.fs.getD f f0).ri.getD r r0).xs).take s.1)))) (fun s=>((c.fs.getD f f0).ri.getD r r0).xs.length-s.1) ((0,P)) ⟨rfl,rfl,rfl,rfl,rfl,rfl,trivial⟩ ⟨Nat.zero_le _,G,Q,u,by simpa using x⟩ ?_
   rintro ⟨i,s3⟩ w9 ⟨hi,p,S,q,h⟩
   simp only at hi h q
   have d:Sl E.heap.size w9 C (c.fs.getD f f0).ri.length 1 (dw (c.fs.getD f f0).ri):=Sl.dD q
   have U:=D.ext p
   have Pn:=Pj (U.at b) acO
   refine aj (au (aN Z Z (L.m Z (dG Z Z d (cZ Z (by rw [Int.toNat_natCast,Nat.mul_one];exact Sl.cell d (lK acO)) (L.le Z (Sl.val Pn) (bH Z Z (fun z=>?_) (fun z=>?_))))))))
   ·refine ak (?_)
    have j:i<((c.fs.getD f f0).ri.getD r r0).xs.length:=by simp only at z;omega
    obtain ⟨xs,A⟩:∃ xs,xs=((c.fs.getD f f0).ri.getD r r0).xs:=⟨_,rfl⟩
    rw [← A] at Pn g h j
    have hm:(i+1) % xs.length<xs.length:=Nat.mod_lt _ omX
    have V:((i:Int)+1) % (xs.length:Int)=(((i+1) % xs.length:Nat):Int):=by rw [show (i:Int)+1=((i+1:Nat):Int) by omega];rfl
    have W:=WV g.2 j
    have X:=WV g.2 hm
    obtain ⟨sn,I⟩:∃ sn:St,sn=⟨nI xs i,nI xs ((i+1) % xs.length),f,r⟩:=⟨_,rfl⟩
    refine aZ (T.skip (aj (T.block (?_))))
    refine dn mixed 26 [3,5,6,7,4] Z [.is _,.is _,.is _,.is _,.is _,.is _,.is _,.is (.int .i64 ((nI xs i:Nat):Int)),.is _,.is _,.is _,.is _,.is _,.is _,.is _,.is _,.is _,.is _,.is _,.is (.int .i64 (((i+1) % xs.length:Nat):Int)),.is _,.is (.int .i64 ((nI xs ((i+1) % xs.length):Nat):Int)),.is _,.is _,.is _,.such (StB sn)] [[],[],[],[1,2],[3],[],[4,5],[6],[],[],[8,9],[10],[],[12],[],[],[14,15],[16],[17],[13,18],[11,19],[20],[],[],[7,21,22,23],[24]] ⟨StB.st,trivial⟩ ⟨fun a hx=>aF rfl,
      fun a hx=>aF rfl,
      fun a hx=>aF rfl,
      fun a hx=>qc rfl rfl (Sl.ext d hx) (by (try dsimp only);omega) (by (try dsimp only);omega),
      fun a hx=>aS rfl (by rw [Int.toNat_natCast,Nat.mul_one];exact Sl.cell (Sl.ext d hx) (lK acO)),
      fun a hx=>aF rfl,
      fun a hx=>qc rfl rfl (Pn.ext hx) (by (try dsimp only);omega) (by (try dsimp only);omega),
      fun a hx=>Ob.o (dR Z (Ints.at (Pn.ext hx) j) ⟨Keep.refl _ _,by rw [W];rfl⟩),
      fun a hx=>aF rfl,
      fun a hx=>aF rfl,
      fun a hx=>qc rfl rfl (Sl.ext d hx) (by (try dsimp only);omega) (by (try dsimp only);omega),
      fun a hx=>aS rfl (by rw [Int.toNat_natCast,Nat.mul_one];exact Sl.cell (Sl.ext d hx) (lK acO)),
      fun a hx=>aF rfl,
      fun a hx=>Ob.o (bG Z Z (by (try dsimp only);omega) kR),
      fun a hx=>aF rfl,
      fun a hx=>aF rfl,
      fun a hx=>qc rfl rfl (Sl.ext d hx) (by (try dsimp only);omega) (by (try dsimp only);omega),
      fun a hx=>aS rfl (by rw [Int.toNat_natCast,Nat.mul_one];exact Sl.cell (Sl.ext d hx) (lK acO)),
      fun a hx=>Ob.o (O.le Z (Sl.val (Pn.ext hx)) kR),
      fun a hx=>Ob.o (fG Z Z omX omX ⟨Keep.refl _ _,by rw [← V];rfl⟩),
      fun a hx=>bQ rfl rfl (Pn.ext hx),
      fun a hx=>Ob.o (dR Z (Ints.at (Pn.ext hx) hm) ⟨Keep.refl _ _,by rw [X];rfl⟩),
      fun a hx=>aF rfl,
      fun a hx=>aF rfl,
      fun a hx=>Ob.o (bU (v:=sn.val) (parts:=[(0,.tmp 43),(1,.tmp 57),(2,.tmp 58),(3,.tmp 59)]) (vs:=[(0,_),(1,_),(2,_),(3,_)]) Z (fun w=>by rw [I];kernel_rfl) kR),
      fun a hx=>Ob.o (aH (el:=292) (parts:=[(0,.tmp 60)]) (vs:=[(0,_)]) (cs:=sn.cells) Z (fun w=>by kernel_rfl) (fun B al aea Yy iK rD=>⟨iK,⟨B,rfl,rD⟩⟩)),
      trivial⟩ (fun Y jf am ahh=>?_)
    obtain ⟨B,rfl,rD⟩:=ahh
    have aeb:=cO h jf lzX
    have amr:=cO q jf lzX
    have TI:Sl 0 Y (.slice (some ⟨B,0,none⟩) 1 1) 1 4 sn.cells:=Sl.bI rD rfl leX dcX lzX
    have ac:(pre (gF c.fs) f++(pre (gR f (c.fs.getD f f0).ri) r++(stR f r xs).take i)).length≤360*64+40*9+40:=by
     rw [List.length_append,List.length_append,List.length_take];omega
    refine L.o (dJ (size:=4) (bytes:=32) runUnderlying289 Tryz.Va Z Z Z Z dcX rfl rfl aeb TI (St.one sn) omX (by simp only [maxLen];omega) (by have:=k.size;have:=p.size;have:=jf.size;omega) (fun J K aa aec=>?_))
    have aiX:Ext w1 K:=Keep.jg (p.trans jf) aeb aec leX
    have apa:=amr.kept aec (own_ne amr aeb dcX)
    refine ah Z (T.blk (aA (aO Z (bG Z Z (by (try dsimp only);omega) (ah Z (aP ((i+1,J)) omX ⟨rfl,rfl,rfl,rfl,rfl,rfl,trivial⟩ ⟨by rw [← A];exact j,aiX,by have:=jf.size;have:=aec.size;omega,apa,?_⟩))))))
    ·have e:pre (gF c.fs) f++(pre (gR f (c.fs.getD f f0).ri) r++(stR f r ((c.fs.getD f f0).ri.getD r r0).xs).take (i+1))=(pre (gF c.fs) f++(pre (gR f (c.fs.getD f f0).ri) r++(stR f r xs).take i)) ++ [sn]:=by
      rw [← A,Zz f r xs j,I];simp
     show World.ownsRow K _ _ _ J (pre (gF c.fs) f++(pre (gR f (c.fs.getD f f0).ri) r++(stR f r ((c.fs.getD f f0).ri.getD r r0).xs).take (i+1))).length _
     rw [e,List.length_append,FI,Pm]
     exact aa
   refine ak (?_)
   obtain rfl:i=((c.fs.getD f f0).ri.getD r r0).xs.length:=by simp only at z;omega
   have ab:(stR f r ((c.fs.getD f f0).ri.getD r r0).xs).take ((c.fs.getD f f0).ri.getD r r0).xs.length=gR f (c.fs.getD f f0).ri r:=by rw [List.take_of_length_le (by rw [wQ];exact Nat.le_refl _)];rfl
   rw [ab,← rW] at h
   refine bn (aY Z (T.blk (aA (aO Z (bG Z Z (by (try dsimp only);omega) (ah Z (aP ((r+1,s3)) omX ⟨rfl,rfl,rfl,rfl,rfl,trivial⟩ ⟨acO,p,S,q,h,?_⟩)))))))
   ·show (pre (gR f (c.fs.getD f f0).ri) (r+1)).length≤40*(r+1)
    rw [rW,List.length_append]
    have:(gR f (c.fs.getD f f0).ri r).length=((c.fs.getD f f0).ri.getD r r0).xs.length:=wQ _ _ _
    have:=g.1.2
    omega
  refine ak (?_)
  obtain rfl:r=(c.fs.getD f f0).ri.length:=by simp only at y;omega
  refine bn (aY Z (T.blk (aA (aO Z (bG Z Z (by (try dsimp only);omega) (ah Z (aP ((f+1,P)) omX ⟨rfl,rfl,rfl,trivial⟩ ⟨b,G,?_,?_⟩)))))))
  ·show World.ownsRow w8 _ _ _ P (pre (gF c.fs) (f+1)).length (lS (pre (gF c.fs) (f+1)))
   rw [rW];exact x
  show (pre (gF c.fs) (f+1)).length≤360*(f+1)
  rw [rW,List.length_append]
  have:(gF c.fs f).length=(pre (gR f (c.fs.getD f f0).ri) (c.fs.getD f f0).ri.length).length:=rfl
  omega
 refine ak (?_)
 obtain rfl:f=c.fs.length:=by simp only at t;omega
 refine bn (aY Z (aQ Z (ah Z (aB results221 Z ⟨k.trans l,(Sl.dD hO2).mono (by have:=k.size;omega)⟩))))
attribute [local irreducible] Go.E.ObG
open Geo (RR RG xA lX yj lN Jg DI MG WL WM IxR)
theorem aiY {c:CxV} (l:DI c) {i:Nat} (hi:i<(stL c.fs).length):((stL c.fs).getD i st0)∈stL c.fs∧((stL c.fs).getD i st0).a<c.ps.length∧((stL c.fs).getD i st0).b<c.ps.length∧((stL c.fs).getD i st0).f<c.fs.length∧((stL c.fs).getD i st0).r<(c.fs.getD ((stL c.fs).getD i st0).f f0).ri.length:=by
 have e:(stL c.fs).getD i st0∈stL c.fs:=by rw [aX hi];exact List.getElem_mem hi
 generalize (stL c.fs).getD i st0=s at e
 obtain ⟨k,g,p,m,ha,hb⟩:=V3 e
 obtain ⟨⟨o,n⟩,d⟩:=l.idx s.f s.r k g
 have key:∀ q,q<((c.fs.getD s.f f0).ri.getD s.r r0).xs.length→nI ((c.fs.getD s.f f0).ri.getD s.r r0).xs q<c.ps.length:=fun q j=>by
  have h:=WV d j
  have g:=d _ (show ((c.fs.getD s.f f0).ri.getD s.r r0).xs.getD q 0∈((c.fs.getD s.f f0).ri.getD s.r r0).xs by rw [aX j];exact List.getElem_mem j)
  omega
 exact ⟨e,by rw [ha];exact key _ m,by rw [hb];exact key _ (Nat.mod_lt _ omX),k,g⟩
theorem aiZ {c:CxV} (h:DI c):IxC c:=fun f hf=>by
 obtain ⟨j,a,rfl⟩:=List.getElem_of_mem hf
 have e:=h.holes j a
 rw [aX a] at e
 refine ⟨omX,fun x hx=>?_⟩
 obtain ⟨r,b,rfl⟩:=List.getElem_of_mem hx
 have d:=h.idx j r a (by rw [aX a];exact b)
 rw [aX a,aX b] at d
 exact WX d
def ams (L:List St) (i j:Nat):Prop:=∀ k,k<j→¬ ((L.getD i st0).a=(L.getD k st0).a∧(L.getD i st0).b=(L.getD k st0).b)
def amu (ps:List Pt) (L:List St) (i j:Nat):Prop:=∀ k,k<j→lX ps (L.getD i st0) (L.getD k st0)=false
def ai0 (c:CxV) (s:St) (n:Nat):Prop:=∀ r,r<n→r≠s.r→yj c.ps 2 (qx c.ps s) r ((c.fs.getD s.f f0).ri.getD r r0).xs=false
def amv (c:CxV) (s:St) (n:Nat):Prop:=∀ j,j<n→j≠s.f→acK c.ps 2 (qx c.ps s) (c.fs.getD j f0).ri=false
theorem abm {ps:List Pt} {t:Int} {p:Pt} {ri:List RiV} : acK ps t p ri=false↔∃ r,r<ri.length∧yj ps t p r (ri.getD r r0).xs=true:=by
 unfold acK
 rw [decide_eq_false_iff_not]
 constructor
 ·intro h
  refine Classical.byContradiction fun hn=>h fun r a=>?_
  cases ho:yj ps t p r (ri.getD r r0).xs with
  | false=>rfl
  | true=>exact absurd ⟨r,a,ho⟩ hn
 rintro ⟨r,a,ho⟩ h
 rw [h r a] at ho;cases ho
theorem abn {L:List St} {P:St→Prop} (h:∀ i,i<L.length→P (L.getD i st0)):∀ s∈L,P s:=fun s hs=>by
 obtain ⟨i,hi,rfl⟩:=List.getElem_of_mem hs
 have:=h i hi
 rw [aX hi] at this
 exact this
set_option maxHeartbeats 4000000 in
theorem MQ (lo:Nat) (c:CxV) (w:World) (hc:c.ok lo w) (hg:Jg c) (V:DI c) :
  Calls Tryz.prog 192 #[c.val] w (Ret fun v w'=>∃ k a:Int,v = .tuple #[.int .i64 k,.int .i64 a]∧0≤k∧(k=0↔WM c)∧Ext w w'):=by
 have aD:=hg.f64
 have hn:NfL c.ps:=fun i hi ↦ hg.far i hi
 have amw:=aiZ V
 refine aJ (vs:=[c.val]) func192 Z ntmps192 Z ?_
 refine au (bM Z (fun b1 w1 a7 a8 al hB1=>?_))
 have hC:Blk w1 b1 c.cells 46:=hB1
 have C:=hc.ext al
 refine L.a Z (ah Z (au (aT Z Z (Row.bI hC) (L.o (ay (xs:=[.tmp 15]) call221 Z Z (MP lo c w1 C aD V) (fun v4 O D=>?_))))))
 obtain ⟨y,u⟩:=D
 have aE:=Sl.le u
 have xu:=al.trans y
 obtain ⟨Ls,t⟩:∃ Ls,Ls=stL c.fs:=⟨_,rfl⟩
 have E:∀ i,i<Ls.length→_:=fun i hi=>aiY V (i:=i) (by rw [← t];exact hi)
 rw [← t] at u E aE
 refine ah Z (aj (au (ah Z (T.block (?_)))))
 refine bf (σ:=Nat) (fun i=>[(1,.pointer (some ⟨b1,0,none⟩)),(4,v4),(5,.int .i64 i)]) (fun i w'=>i≤Ls.length∧Ext O w'∧∀ k,k<i→ams Ls k k) (fun i=>Ls.length-i) (0) ⟨rfl,rfl,rfl,trivial⟩ ⟨Nat.zero_le _,Keep.refl _ _,fun k z=>absurd z (Nat.not_lt_zero _)⟩ ?_
 rintro i w5 ⟨hi,n,am⟩
 have A:=u.ext n
 refine aj (au (aN Z Z (L.le Z (Sl.val A) (bH Z Z (fun B=>?_) (fun B=>?_)))))
 ·refine ak (?_)
  have e:i<Ls.length:=by omega
  refine aZ (T.skip (aj (T.block (au (ah Z (T.block (?_)))))))
  refine bf (σ:=Nat) (fun k=>[(1,.pointer (some ⟨b1,0,none⟩)),(4,v4),(5,.int .i64 i),(6,.int .i64 k)]) (fun k w'=>k≤i∧Ext O w'∧ams Ls i k) (fun k=>i-k) (0) ⟨rfl,rfl,rfl,rfl,trivial⟩ ⟨Nat.zero_le _,n,fun k z=>absurd z (Nat.not_lt_zero _)⟩ ?_
  rintro k w6 ⟨z,g,X⟩
  have l:=u.ext g
  refine aj (au (aN Z Z (bH Z Z (fun Y=>?_) (fun Y=>?_))))
  ·refine ak (?_)
   have F:k<i:=by omega
   rcases Classical.em ((Ls.getD i st0).a=(Ls.getD k st0).a) with ha|ha
   ·refine aZ (T.skip (aj (T.block (aj (?_)))))
    refine dn mixed 22 [4,5,6] Z [.is _,.is _,.is _,.is _,.is _,.is _,.is _,.is _,.is _,.is _,.is _,.is _,.is _,.is _,.is _,.is _,.is _,.is _,.is _,.is _,.is _,.is _] [[],[],[0,1],[2],[3],[],[],[5,6],[7],[8],[4,9],[10],[11],[11],[12,13,11],[14,11],[15,11],[11],[11],[17,18,11],[19,11],[20,11]] trivial ⟨fun d hx=>aF rfl,
      fun d hx=>aF rfl,
      fun d hx=>bQ rfl rfl (l.ext hx),
      fun d hx=>Ob.fa rfl,
      fun d hx=>aS rfl (((l.ext hx).row e) 0 _ rfl),
      fun d hx=>aF rfl,
      fun d hx=>aF rfl,
      fun d hx=>bQ rfl rfl (l.ext hx),
      fun d hx=>Ob.fa rfl,
      fun d hx=>aS rfl (((l.ext hx).row (show k<Ls.length by omega)) 0 _ rfl),
      fun d hx=>Ob.o (eU Z Z omX kR),
      fun d hx=>aF rfl,
      fun d hx=>aF rfl,
      fun d hx=>aF rfl,
      fun d hx=>bQ rfl rfl (l.ext hx),
      fun d hx=>Ob.fa rfl,
      fun d hx=>aS rfl (((l.ext hx).row e) 1 _ rfl),
      fun d hx=>aF rfl,
      fun d hx=>aF rfl,
      fun d hx=>bQ rfl rfl (l.ext hx),
      fun d hx=>Ob.fa rfl,
      fun d hx=>aS rfl (((l.ext hx).row (show k<Ls.length by omega)) 1 _ rfl),
      trivial⟩ (fun w8 G=>?_)
    refine dK Z Z (fun hb=>?_) (fun hb=>?_)
    ·have x:=l.ext G
     refine aG Z (aW (aj (?_)))
     refine dn mixed 6 [4,5] Z [.is _,.is _,.is _,.is _,.is _,.is _] [[],[],[0,1],[2],[3],[]] trivial ⟨fun d hx=>aF rfl,
       fun d hx=>aF rfl,
       fun d hx=>bQ rfl rfl (x.ext hx),
       fun d hx=>Ob.fa rfl,
       fun d hx=>aS rfl (((x.ext hx).row e) 2 _ rfl),
       fun d hx=>Ob.sg rfl,
       trivial⟩ (fun a9 aH=>?_)
     refine ah Z (cu results192 Z Z ⟨_,_,rfl,dcX,⟨fun h=>absurd h dcX,fun h=>absurd ⟨by rw [← t];exact ha,by rw [← t];omega⟩ (h.twice i k (by rw [← t];exact e) F)⟩,xu.trans ((g.trans G).trans aH)⟩)
    refine aG Z (aU (T.skip (T.blk (aA (L.m Z (bF Z Z (ah Z (aP (k+1) omX ⟨rfl,rfl,rfl,rfl,trivial⟩ ⟨omX,g.trans G,upto X (fun h=>hb (by have:=h.2;omega))⟩))))))))
   refine aZ (T.skip (aj (T.block (aj (?_)))))
   refine dn mixed 22 [4,5,6] Z [.is _,.is _,.is _,.is _,.is _,.is _,.is _,.is _,.is _,.is _,.is _,.is _,.is undef,.is undef,.is undef,.is undef,.is undef,.is undef,.is undef,.is undef,.is undef,.is undef] [[],[],[0,1],[2],[3],[],[],[5,6],[7],[8],[4,9],[10],[11],[11],[12,13,11],[14,11],[15,11],[11],[11],[17,18,11],[19,11],[20,11]] trivial ⟨fun d hx=>aF rfl,
     fun d hx=>aF rfl,
     fun d hx=>bQ rfl rfl (l.ext hx),
     fun d hx=>Ob.fa rfl,
     fun d hx=>aS rfl (((l.ext hx).row e) 0 _ rfl),
     fun d hx=>aF rfl,
     fun d hx=>aF rfl,
     fun d hx=>bQ rfl rfl (l.ext hx),
     fun d hx=>Ob.fa rfl,
     fun d hx=>aS rfl (((l.ext hx).row (show k<Ls.length by omega)) 0 _ rfl),
     fun d hx=>Ob.o (fV Z Z omX kR),
     fun d hx=>aF rfl,
     fun d hx=>aV rfl rfl,
     fun d hx=>aV rfl rfl,
     fun d hx=>aV rfl rfl,
     fun d hx=>aV rfl rfl,
     fun d hx=>aV rfl rfl,
     fun d hx=>aV rfl rfl,
     fun d hx=>aV rfl rfl,
     fun d hx=>aV rfl rfl,
     fun d hx=>aV rfl rfl,
     fun d hx=>aV rfl rfl,
     trivial⟩ (fun w8 G=>?_)
   refine L.p (aI Z (aU (T.skip (T.blk (aA (L.m Z (bF Z Z (ah Z (aP (k+1) omX ⟨rfl,rfl,rfl,rfl,trivial⟩ ⟨omX,g.trans G,upto X (fun h=>ha h.1)⟩)))))))))
  refine ak (?_)
  obtain rfl:k=i:=by omega
  refine bn (aY Z (T.blk (aA (L.m Z (bF Z Z (ah Z (aP (k+1) omX ⟨rfl,rfl,rfl,trivial⟩ ⟨e,g,upto am X⟩)))))))
 refine ak (?_)
 have apb:∀ i k,i<(stL c.fs).length→k<i→¬ (((stL c.fs).getD i st0).a=((stL c.fs).getD k st0).a∧((stL c.fs).getD i st0).b=((stL c.fs).getD k st0).b):=by rw [← t];exact fun a b ha hb ↦ am a omX b hb
 refine bn (aY Z (aj (au (ah Z (T.block (?_))))))
 refine bf (σ:=Nat) (fun i=>[(1,.pointer (some ⟨b1,0,none⟩)),(4,v4),(7,.int .i64 i)]) (fun i w'=>i≤Ls.length∧Ext O w'∧∀ k,k<i→amu c.ps Ls k k) (fun i=>Ls.length-i) (0) ⟨rfl,rfl,rfl,trivial⟩ ⟨Nat.zero_le _,n,fun k z=>absurd z (Nat.not_lt_zero _)⟩ ?_
 rintro i w5 ⟨hi,n,an⟩
 have A:=u.ext n
 refine aj (au (aN Z Z (L.le Z (Sl.val A) (bH Z Z (fun B=>?_) (fun B=>?_)))))
 ·refine ak (?_)
  have e:i<Ls.length:=by omega
  refine aZ (T.skip (aj (T.block (au (ah Z (T.block (?_)))))))
  refine bf (σ:=Nat) (fun k=>[(1,.pointer (some ⟨b1,0,none⟩)),(4,v4),(7,.int .i64 i),(8,.int .i64 k)]) (fun k w'=>k≤i∧Ext O w'∧amu c.ps Ls i k) (fun k=>i-k) (0) ⟨rfl,rfl,rfl,rfl,trivial⟩ ⟨Nat.zero_le _,n,fun k z=>absurd z (Nat.not_lt_zero _)⟩ ?_
  rintro k w6 ⟨z,g,ao⟩
  have l:=u.ext g
  refine aj (au (aN Z Z (bH Z Z (fun Y=>?_) (fun Y=>?_))))
  ·refine ak (?_)
   have F:k<i:=by omega
   have ap:=E i e
   have aq:=E k omX
   have aa:=Blk.ext (cs:=c.cells) hC (y.trans g)
   refine aZ (T.skip (aj (T.block (aj (?_)))))
   refine dn mixed 9 [1,4,7,8] Z [.is _,.is _,.is _,.is _,.is _,.is _,.is _,.is _,.is _] [[],[],[],[1,2],[3],[],[],[5,6],[7]] trivial ⟨fun d hx=>bJ rfl rfl ((Blk.ext (cs:=c.cells) aa hx).row),
     fun d hx=>aF rfl,
     fun d hx=>aF rfl,
     fun d hx=>bQ rfl rfl (l.ext hx),
     fun d hx=>bJ rfl rfl ((l.ext hx).row e),
     fun d hx=>aF rfl,
     fun d hx=>aF rfl,
     fun d hx=>bQ rfl rfl (l.ext hx),
     fun d hx=>bJ rfl rfl ((l.ext hx).row (show k<Ls.length by omega)),
     trivial⟩ (fun aK Az=>?_)
   refine L.o (ay (xs:=[.tmp 68,.tmp 72,.tmp 76]) call222 Z Z (MN lo c (Ls.getD i st0) (Ls.getD k st0) aK (C.ext (y.trans (g.trans Az))).p hn ap.2.1 ap.2.2.1 aq.2.1 aq.2.2.1) (fun v20 ba D=>?_))
   obtain ⟨xB,jG⟩:=D
   rcases Q:lX c.ps (Ls.getD i st0) (Ls.getD k st0) with _|_
   ·refine ak (?_)
    rw [Q] at xB
    subst xB
    refine bn (T.skip (T.blk (aA (L.m Z (bF Z Z (ah Z (aP (k+1) omX ⟨rfl,rfl,rfl,rfl,trivial⟩ ⟨omX,g.trans (Az.trans jG),upto ao Q⟩)))))))
   refine ak (?_)
   rw [Q] at xB
   subst xB
   have x:=l.ext (Az.trans jG)
   refine aZ (aj (?_))
   refine dn mixed 6 [4,7] Z [.is _,.is _,.is _,.is _,.is _,.is _] [[],[],[0,1],[2],[3],[]] trivial ⟨fun d hx=>aF rfl,
     fun d hx=>aF rfl,
     fun d hx=>bQ rfl rfl (x.ext hx),
     fun d hx=>Ob.fa rfl,
     fun d hx=>aS rfl (((x.ext hx).row e) 2 _ rfl),
     fun d hx=>Ob.sg rfl,
     trivial⟩ (fun bb apc=>?_)
   refine ah Z (cu results192 Z Z ⟨_,_,rfl,dcX,⟨fun h=>absurd h dcX,fun h=>by have:=h.clash i k (by rw [← t];exact e) F;rw [← t,Q] at this;cases this⟩,xu.trans ((g.trans (Az.trans jG)).trans apc)⟩)
  refine ak (?_)
  obtain rfl:k=i:=by omega
  refine bn (aY Z (T.blk (aA (L.m Z (bF Z Z (ah Z (aP (k+1) omX ⟨rfl,rfl,rfl,trivial⟩ ⟨e,g,upto an ao⟩)))))))
 refine ak (?_)
 have ar:∀ i k,i<(stL c.fs).length→k<i→lX c.ps ((stL c.fs).getD i st0) ((stL c.fs).getD k st0)=false:=by rw [← t];exact fun a b ha hb ↦ an a omX b hb
 refine bn (aY Z (aj (au (ah Z (T.block (?_))))))
 refine bf (σ:=Nat) (fun i=>[(1,.pointer (some ⟨b1,0,none⟩)),(4,v4),(9,.int .i64 i)]) (fun i w'=>i≤Ls.length∧Ext O w'∧∀ k,k<i→((Ls.getD k st0).r≠0→ai0 c (Ls.getD k st0) (c.fs.getD (Ls.getD k st0).f f0).ri.length)) (fun i=>Ls.length-i) (0) ⟨rfl,rfl,rfl,trivial⟩ ⟨Nat.zero_le _,n,fun k z=>absurd z (Nat.not_lt_zero _)⟩ ?_
 rintro i w5 ⟨hi,n,ab⟩
 have A:=u.ext n
 refine aj (au (aN Z Z (L.le Z (Sl.val A) (bH Z Z (fun B=>?_) (fun B=>?_)))))
 ·refine ak (?_)
  have e:i<Ls.length:=by omega
  have H:=E i e
  obtain ⟨s,hs⟩:∃ s,s=Ls.getD i st0:=⟨_,rfl⟩
  have q:∀ {W:World},Ext O W→Row W ((jX v4).add ((i:Int).toNat*4)) s.cells:=fun hW=>by rw [hs];exact (u.ext hW).row e
  rw [← hs] at H
  obtain ⟨I,J,K,M,aL⟩:=H
  rw [t] at I
  refine aZ (T.skip (aj (T.block (aj (au (aN Z Z (dG Z Z A (aC Z ((q n) 3 _ Z) (dK Z Z (fun aM=>?_) (fun aM=>?_))))))))))
  ·refine aW (aY Z (aA (L.m Z (bF Z Z (ah Z (aP (i+1) omX ⟨rfl,rfl,rfl,trivial⟩ ⟨e,n,upto ab (fun h=>absurd (by rw [← hs];omega) h)⟩))))))
  refine ak (?_)
  have apd:s.r≠0:=by omega
  have aa:=Blk.ext (cs:=c.cells) hC (y.trans n)
  have ac:=C.ext (y.trans n)
  have av:=amw _ (abk M)
  refine bn (T.skip (aj (?_)))
  refine dn mixed 7 [1,4,9] Z [.is _,.is _,.is _,.is _,.is _,.is _,.is _] [[],[0],[],[],[2,3],[4],[5]] trivial ⟨fun d hx=>Ob.fa rfl,
    fun d hx=>aS rfl ((Blk.ext (cs:=c.cells) aa hx).cell rfl),
    fun d hx=>aF rfl,
    fun d hx=>aF rfl,
    fun d hx=>bQ rfl rfl (A.ext hx),
    fun d hx=>Ob.fa rfl,
    fun d hx=>aS rfl ((q (n.trans hx)) 2 _ rfl),
    trivial⟩ (fun aw qF=>?_)
  refine dG Z Z ((ac.ext qF).sl) (aT Z Z ((ac.ext qF).row M) (L.o (ay (xs:=[.tmp 103]) call131 Z Z (jm lo (c.fs.getD s.f f0) aw ((ac.ext qF).at M) av.1) (fun ax aO D=>?_))))
  obtain ⟨Gm,ape,att⟩:=D
  have aR:=n.trans (qF.trans Gm)
  refine ah Z (au (ah Z (T.block (?_))))
  refine bf (σ:=Nat) (fun r=>[(1,.pointer (some ⟨b1,0,none⟩)),(4,v4),(9,.int .i64 i),(10,ax),(11,.int .i64 r)]) (fun r w'=>r≤(c.fs.getD s.f f0).ri.length∧Ext aO w'∧ai0 c s r) (fun r=>(c.fs.getD s.f f0).ri.length-r) (0) ⟨rfl,rfl,rfl,rfl,rfl,trivial⟩ ⟨Nat.zero_le _,Keep.refl _ _,fun k z=>absurd z (Nat.not_lt_zero _)⟩ ?_
  rintro r aX ⟨hr,Gl,R⟩
  have ahr:Sl aw.heap.size aX ax (c.fs.getD s.f f0).ri.length 1 (dw (c.fs.getD s.f f0).ri):=Sl.ext ape Gl
  have apf:=Sl.le ahr
  have FN:=aR.trans Gl
  have ahs:=u.ext FN
  have amx:=Blk.ext (cs:=c.cells) hC (y.trans FN)
  have N:=C.ext (y.trans FN)
  refine aj (au (aN Z Z (L.le Z (Sl.val ahr) (bH Z Z (fun a0=>?_) (fun a0=>?_)))))
  ·refine ak (?_)
   have acP:r<(c.fs.getD s.f f0).ri.length:=by omega
   have S:=av.2 _ (WU acP)
   refine aZ (T.skip (aj (T.block (aj (?_)))))
   refine dn mixed 11 [1,10,11,4,9] Z [.is _,.is _,.is _,.is _,.is _,.such (TK c.ps 2 ((c.fs.getD s.f f0).ri.getD r r0).xs),.is _,.is _,.is _,.is _,.is _] [[],[],[],[1,2],[3],[0,4],[],[],[],[7,8],[9]] ⟨TK.st,trivial⟩ ⟨fun d hx=>bJ rfl rfl ((Blk.ext (cs:=c.cells) amx hx).row),
     fun d hx=>aF rfl,
     fun d hx=>aF rfl,
     fun d hx=>bQ rfl rfl (Sl.ext ahr hx),
     fun d hx=>aS rfl (by rw [Int.toNat_natCast,Nat.mul_one];exact Sl.cell (Sl.ext ahr hx) (lK acP)),
     fun d hx=>Ob.o (ay (xs:=[.tmp 111,.tmp 115,.const (.int .i64 2)]) call224 Z Z (oJ lo lo c _ ((c.fs.getD s.f f0).ri.getD r r0).xs 2 d (N.ext hx).p (Pj ((N.ext hx).at M) acP) hn (.inr Z) S.1 S.2) (fun v wy h=>⟨h.1,h.2.mono lzX⟩)),
     fun d hx=>bJ rfl rfl ((Blk.ext (cs:=c.cells) amx hx).row),
     fun d hx=>aF rfl,
     fun d hx=>aF rfl,
     fun d hx=>bQ rfl rfl (ahs.ext hx),
     fun d hx=>bJ rfl rfl (q (FN.trans hx)),
     trivial⟩ (fun a1 GV amy ad=>?_)
   refine L.o (ay (xs:=[.tmp 117,.tmp 121]) call225 Z Z (yF lo c s a1 (N.ext GV).p hn J K) (fun bc a2 D=>?_))
   obtain ⟨rfl,WY⟩:=D
   refine L.o (ay (xs:=[.tmp 116,.tmp 122]) call223 Z Z (AA 0 _ (cor c.ps 2 ((c.fs.getD s.f f0).ri.getD r r0).xs) (qx c.ps s) a2 (Pts.ext ad WY) (Lu hn (.inr Z) S.1) (WW hn J K) (by rw [o9];exact S.2)) (fun bd be D=>?_))
   obtain ⟨rfl,apg⟩:=D
   have uS:=GV.trans (WY.trans apg)
   have afv:r≠s.r→(r=0∧lN (cor c.ps 2 ((c.fs.getD s.f f0).ri.getD r r0).xs) (qx c.ps s)≠2∨0<r∧lN (cor c.ps 2 ((c.fs.getD s.f f0).ri.getD r r0).xs) (qx c.ps s)≠0)→¬ WM c:=fun h1 h2 h ↦ by
    have:=of_decide_eq_false (h.hole s I apd r acP h1)
    exact this h2
   refine ah Z (aQ Z (dK Z Z (fun z0=>?_) (fun z0=>?_)))
   ·refine aN Z Z (L.ne Z Z (fun z1=>?_) (fun z1=>?_))
    ·have x:=ahs.ext uS
     refine aG Z (L.m Z (L.pp (L.pp (L.pp (L.pp (L.pp (L.pp (L.pp (L.p (aG Z (aW (aj (?_)))))))))))))
     refine dn mixed 6 [4,9] Z [.is _,.is _,.is _,.is _,.is _,.is _] [[],[],[0,1],[2],[3],[]] trivial ⟨fun d hx=>aF rfl,
       fun d hx=>aF rfl,
       fun d hx=>bQ rfl rfl (x.ext hx),
       fun d hx=>Ob.fa rfl,
       fun d hx=>aS rfl ((q ((FN.trans uS).trans hx)) 2 _ rfl),
       fun d hx=>Ob.sg rfl,
       trivial⟩ (fun bg aph=>?_)
     refine ah Z (cu results192 Z Z ⟨_,_,rfl,dcX,⟨fun h=>absurd h dcX,fun h=>absurd h (afv omX (.inl ⟨omX,z1⟩))⟩,xu.trans ((FN.trans uS).trans aph)⟩)
    refine aG Z (aN Z Z (L.o (gW Z Z omX (L.m Z (L.pp (L.pp (L.pp (L.p (aI Z (L.m Z (L.pp (aI Z (aI Z (aU (T.skip (T.blk (aA (L.m Z (?_)))))))))))))))))))
    refine bF Z Z (ah Z (aP (r+1) omX ⟨rfl,rfl,rfl,rfl,rfl,trivial⟩ ⟨acP,Gl.trans uS,upto R (fun _=>decide_eq_false (fun h=>by rcases h with ⟨_,h⟩|⟨h,_⟩;exact h z1;omega))⟩))
   refine L.m Z (L.pp (aI Z (aN Z Z (L.o (iM Z Z omX (aN Z Z (aN Z Z (dG Z Z (ahs.ext uS) (aC Z ((q (FN.trans uS)) 3 _ Z) (L.ne Z Z (fun a3=>?_) (fun a3=>?_)))))))))))
   ·refine aG Z (aN Z Z (L.ne Z Z (fun z2=>?_) (fun z2=>?_)))
    ·have x:=ahs.ext uS
     refine aG Z (aI Z (aW (aj (?_))))
     refine dn mixed 6 [4,9] Z [.is _,.is _,.is _,.is _,.is _,.is _] [[],[],[0,1],[2],[3],[]] trivial ⟨fun d hx=>aF rfl,
       fun d hx=>aF rfl,
       fun d hx=>bQ rfl rfl (x.ext hx),
       fun d hx=>Ob.fa rfl,
       fun d hx=>aS rfl ((q ((FN.trans uS).trans hx)) 2 _ rfl),
       fun d hx=>Ob.sg rfl,
       trivial⟩ (fun bh apj=>?_)
     refine ah Z (cu results192 Z Z ⟨_,_,rfl,dcX,⟨fun h=>absurd h dcX,fun h=>absurd h (afv omX (.inr ⟨omX,z2⟩))⟩,xu.trans ((FN.trans uS).trans apj)⟩)
    refine aG Z (aI Z (aU (T.skip (T.blk (aA (L.m Z (bF Z Z (ah Z (aP (r+1) omX ⟨rfl,rfl,rfl,rfl,rfl,trivial⟩ ⟨acP,Gl.trans uS,upto R (fun _=>decide_eq_false (fun h=>by rcases h with ⟨h,_⟩|⟨_,h⟩;omega;exact h z2))⟩)))))))))
   refine aG Z (L.m Z (L.pp (aI Z (aI Z (aU (T.skip (T.blk (aA (L.m Z (bF Z Z (ah Z (aP (r+1) omX ⟨rfl,rfl,rfl,rfl,rfl,trivial⟩ ⟨acP,Gl.trans uS,upto R (fun h=>absurd omX h)⟩))))))))))))
  refine ak (?_)
  obtain rfl:r=(c.fs.getD s.f f0).ri.length:=by omega
  refine bn (aY Z (T.blk (aA (L.m Z (bF Z Z (ah Z (aP (i+1) omX ⟨rfl,rfl,rfl,trivial⟩ ⟨e,FN,upto ab (fun _=>by rw [← hs];exact R)⟩)))))))
 refine ak (?_)
 have apk:∀ s∈stL c.fs,s.r≠0→∀ r,r<(c.fs.getD s.f f0).ri.length→r≠s.r→yj c.ps 2 (qx c.ps s) r ((c.fs.getD s.f f0).ri.getD r r0).xs=false:=by rw [← t];exact abn (P:=fun s ↦ s.r≠0→ai0 c s (c.fs.getD s.f f0).ri.length) (fun k z ↦ ab k omX)
 refine bn (aY Z (aj (au (ah Z (T.block (?_))))))
 refine bf (σ:=Nat) (fun i=>[(1,.pointer (some ⟨b1,0,none⟩)),(4,v4),(13,.int .i64 i)]) (fun i w'=>i≤Ls.length∧Ext O w'∧∀ k,k<i→amv c (Ls.getD k st0) c.fs.length) (fun i=>Ls.length-i) (0) ⟨rfl,rfl,rfl,trivial⟩ ⟨Nat.zero_le _,n,fun k z=>absurd z (Nat.not_lt_zero _)⟩ ?_
 rintro i w5 ⟨hi,n,az⟩
 have A:=u.ext n
 refine aj (au (aN Z Z (L.le Z (Sl.val A) (bH Z Z (fun B=>?_) (fun B=>?_)))))
 ·refine ak (?_)
  have e:i<Ls.length:=by omega
  have H:=E i e
  obtain ⟨s,hs⟩:∃ s,s=Ls.getD i st0:=⟨_,rfl⟩
  have q:∀ {W:World},Ext O W→Row W ((jX v4).add ((i:Int).toNat*4)) s.cells:=fun hW=>by rw [hs];exact (u.ext hW).row e
  rw [← hs] at H
  obtain ⟨I,J,K,M,aL⟩:=H
  rw [t] at I
  refine aZ (T.skip (aj (T.block (au (ah Z (T.block (?_)))))))
  refine bf (σ:=Nat) (fun j=>[(1,.pointer (some ⟨b1,0,none⟩)),(4,v4),(13,.int .i64 i),(14,.int .i64 j)]) (fun j w'=>j≤c.fs.length∧Ext O w'∧amv c s j) (fun j=>c.fs.length-j) (0) ⟨rfl,rfl,rfl,rfl,trivial⟩ ⟨Nat.zero_le _,n,fun k z=>absurd z (Nat.not_lt_zero _)⟩ ?_
  rintro j w6 ⟨hj,g,ae⟩
  have l:=u.ext g
  have af:=Blk.ext (cs:=c.cells) hC (y.trans g)
  have ag:=C.ext (y.trans g)
  refine aj (aQ Z (aC Z (af.cell Z) (L.le Z (Sl.val ag.sl) (bH Z Z (fun a4=>?_) (fun a4=>?_)))))
  ·refine ak (?_)
   have afs:j<c.fs.length:=by omega
   rcases Classical.em (j=s.f) with ai|ai
   ·refine aZ (T.skip (aj (T.block (aj (?_)))))
    refine dn mixed 16 [14,4,13,1] Z [.is _,.is _,.is _,.is _,.is _,.is _,.is _,.is _,.is undef,.is undef,.is undef,.is undef,.is undef,.is undef,.is undef,.is undef] [[],[],[],[1,2],[3],[4],[0,5],[6],[7],[7],[7],[7],[7],[11,12,7],[13,7],[10,14,7]] trivial ⟨fun d hx=>aF rfl,
      fun d hx=>aF rfl,
      fun d hx=>aF rfl,
      fun d hx=>bQ rfl rfl (l.ext hx),
      fun d hx=>Ob.fa rfl,
      fun d hx=>aS rfl ((q (g.trans hx)) 2 _ rfl),
      fun d hx=>Ob.o (fP Z Z omX kR),
      fun d hx=>aF rfl,
      fun d hx=>aV rfl rfl,
      fun d hx=>aV rfl rfl,
      fun d hx=>aV rfl rfl,
      fun d hx=>aV rfl rfl,
      fun d hx=>aV rfl rfl,
      fun d hx=>aV rfl rfl,
      fun d hx=>aV rfl rfl,
      fun d hx=>aV rfl rfl,
      trivial⟩ (fun aB y7=>?_)
    refine L.p (aI Z (aU (T.skip (T.blk (aA (L.m Z (bF Z Z (ah Z (aP (j+1) omX ⟨rfl,rfl,rfl,rfl,trivial⟩ ⟨omX,g.trans y7,upto ae (fun h=>absurd ai h)⟩)))))))))
   refine aZ (T.skip (aj (T.block (aj (?_)))))
   refine dn mixed 16 [14,4,13,1] Z [.is _,.is _,.is _,.is _,.is _,.is _,.is _,.is _,.is _,.is _,.is _,.is _,.is _,.is _,.is _,.is (pV (qx c.ps s))] [[],[],[],[1,2],[3],[4],[0,5],[6],[7],[7],[7],[7],[7],[11,12,7],[13,7],[10,14,7]] trivial ⟨fun d hx=>aF rfl,
     fun d hx=>aF rfl,
     fun d hx=>aF rfl,
     fun d hx=>bQ rfl rfl (l.ext hx),
     fun d hx=>Ob.fa rfl,
     fun d hx=>aS rfl ((q (g.trans hx)) 2 _ rfl),
     fun d hx=>Ob.o (kT Z Z omX kR),
     fun d hx=>aF rfl,
     fun d hx=>bJ rfl rfl ((Blk.ext (cs:=c.cells) af hx).row),
     fun d hx=>aF rfl,
     fun d hx=>bJ rfl rfl ((Blk.ext (cs:=c.cells) af hx).row),
     fun d hx=>aF rfl,
     fun d hx=>aF rfl,
     fun d hx=>bQ rfl rfl (l.ext hx),
     fun d hx=>bJ rfl rfl (q (g.trans hx)),
     fun d hx=>Ob.o (ay (xs:=[.tmp 175,.tmp 179]) call225 Z Z (yF lo c s d (ag.ext hx).p hn J K) (fun v wy h=>⟨h.2,h.1⟩)),
     trivial⟩ (fun aB y7=>?_)
   refine L.o (ay (xs:=[.tmp 173,.tmp 174,.tmp 180,.const (.int .i64 2)]) call226 Z Z (Jk lo c j (qx c.ps s) 2 aB (ag.ext y7) hn amw (WW hn J K) (.inr Z) afs) (fun v40 bi D=>?_))
   obtain ⟨aht,ES⟩:=D
   rcases U:acK c.ps 2 (qx c.ps s) (c.fs.getD j f0).ri with _|_
   ·rw [U] at aht
    subst aht
    refine aG Z (aU (T.skip (T.blk (aA (L.m Z (bF Z Z (ah Z (aP (j+1) omX ⟨rfl,rfl,rfl,rfl,trivial⟩ ⟨omX,g.trans (y7.trans ES),upto ae (fun _=>U)⟩))))))))
   rw [U] at aht
   subst aht
   have x:=l.ext (y7.trans ES)
   refine aG Z (aW (aj (?_)))
   refine dn mixed 6 [4,13] Z [.is _,.is _,.is _,.is _,.is _,.is _] [[],[],[0,1],[2],[3],[]] trivial ⟨fun d hx=>aF rfl,
     fun d hx=>aF rfl,
     fun d hx=>bQ rfl rfl (x.ext hx),
     fun d hx=>Ob.fa rfl,
     fun d hx=>aS rfl ((q ((g.trans (y7.trans ES)).trans hx)) 2 _ rfl),
     fun d hx=>Ob.sg rfl,
     trivial⟩ (fun bj a5=>?_)
   refine ah Z (cu results192 Z Z ⟨_,_,rfl,dcX,⟨fun h=>absurd h dcX,fun h=>by have:=abm.2 (h.over s I j afs ai);rw [U] at this;cases this⟩,xu.trans ((g.trans (y7.trans ES)).trans a5)⟩)
  refine ak (?_)
  obtain rfl:j=c.fs.length:=by omega
  refine bn (aY Z (T.blk (aA (L.m Z (bF Z Z (ah Z (aP (i+1) omX ⟨rfl,rfl,rfl,trivial⟩ ⟨e,g,upto az (by rw [← hs];exact ae)⟩)))))))
 refine ak (?_)
 have apl:∀ s∈stL c.fs,∀ j,j<c.fs.length→j≠s.f→∃ r,r<(c.fs.getD j f0).ri.length∧yj c.ps 2 (qx c.ps s) r ((c.fs.getD j f0).ri.getD r r0).xs=true:=by rw [← t];exact abn (P:=fun s ↦ ∀ j,j<c.fs.length→j≠s.f→_) (fun k z j hj a6 ↦ abm.1 (az k omX j hj a6))
 refine bn (aY Z (fK Z (ah Z (cu results192 Z Z ⟨0,0,rfl,Int.le_refl _,⟨fun _=>⟨apb,ar,apk,apl⟩,fun _=>rfl⟩,xu.trans n⟩))))
theorem Po (lo:Nat) (c:CxV) (w:World) (u:c.ok lo w) :
  Calls Tryz.prog 141 #[c.val] w (Ret fun v w'=>∃ k a:Int,v = .tuple #[.int .i64 k,.int .i64 a]∧0≤k∧(k=0↔RG c)∧Ext w w'):=by
 refine aJ (vs:=[c.val]) func141 Z ntmps141 Z ?_
 refine au (bM Z (fun b1 w1 x y d hB1=>?_))
 have hC:Blk w1 b1 c.cells 46:=hB1
 have g:=u.ext d
 refine L.a Z (ah Z (au (aT Z Z (Row.bI hC) (L.o (ay (xs:=[.tmp 7]) call190 Z Z (Jl lo c w1 g) (fun v2 z i=>?_))))))
 obtain ⟨A,B,rfl,p,j,b⟩:=i
 refine L.m Z (bK Z Z (bK Z Z (L.a Z (ah Z (aj (aQ Z (dK Z Z (fun z1=>?_) (fun z1=>?_))))))))
 ·refine ak (?_)
  have q:=j.1 z1
  refine aZ (aA (aT Z Z (Row.bI (Blk.ext (cs:=c.cells) hC b)) (L.o (ay (xs:=[.tmp 14]) call191 Z Z (MO lo c z (g.ext b) q) (fun v3 C i=>?_)))))
  obtain ⟨D,a2,rfl,r,l,e⟩:=i
  refine L.m Z (bK Z Z (bK Z Z (L.a Z (ah Z (aj (aQ Z (dK Z Z (fun z2=>?_) (fun z2=>?_))))))))
  ·refine ak (?_)
   have f:=l.1 z2
   refine aZ (aA (aT Z Z (Row.bI (Blk.ext (cs:=c.cells) hC (b.trans e))) (L.o (ay (xs:=[.tmp 21]) call192 Z Z (MQ lo c C (g.ext (b.trans e)) q f.1) (fun v4 F i=>?_)))))
   obtain ⟨E,a3,rfl,s,n,t⟩:=i
   refine L.m Z (bK Z Z (bK Z Z (L.a Z (ah Z (au (aN Z Z (L.a Z (ah Z (cu results141 Z Z ⟨E,a3,rfl,s,⟨fun h=>(Geo.DJ c).2 ⟨q,f.1,f.2.1,f.2.2,n.1 h⟩,fun h=>n.2 ((Geo.DJ c).1 h).2.2.2.2⟩,d.trans ((b.trans e).trans t)⟩)))))))))
  refine aU (T.skip (au (aN Z Z (L.a Z (ah Z (cu results141 Z Z ⟨D,a2,rfl,r,⟨fun h=>absurd h z2,fun h=>l.2 ⟨((Geo.DJ c).1 h).2.1,((Geo.DJ c).1 h).2.2.1,((Geo.DJ c).1 h).2.2.2.1⟩⟩,d.trans (b.trans e)⟩))))))
 refine aU (T.skip (aj (au (aO Z (fV Z Z z1 (aU (T.skip (au (aN Z Z (L.a Z (ah Z (cu results141 Z Z ⟨A,B,rfl,p,⟨fun h=>absurd h z1,fun h=>j.2 ((Geo.DJ c).1 h).1⟩,d.trans b⟩))))))))))))
theorem MR (lo:Nat) (c:CxV) (w:World) (f:c.ok lo w) :
  Calls Tryz.prog 83 #[c.val] w (Ret fun v w'=>v = .int .i64 (if iq c=true then 150 else 0)∧Ext w w'):=by
 refine aJ (vs:=[c.val]) func83 Z ntmps83 Z ?_
 refine au (bM Z (fun b1 w1 g i b hB1=>?_))
 have hC:Blk w1 b1 c.cells 46:=hB1
 refine ah Z (au (aT Z Z (Row.bI hC) (L.o (ay (xs:=[.tmp 6]) call141 Z Z (Po lo c w1 (f.ext b)) (fun v2 l j=>?_)))))
 obtain ⟨k,a,rfl,n,e,d⟩:=j
 refine L.m Z (bK Z Z (bK Z Z (L.a Z (ah Z (aj (aQ Z (dY Z Z (fun z=>?_) (fun z=>?_))))))))
 ·refine ak (?_)
  have hb:iq c=true:=Classical.byContradiction fun h ↦ by
   have:=e.2 ((Geo.abd c).1 (by simpa using h))
   omega
  refine aZ (au (ah Z (aB results83 Z ⟨by rw [hb];rfl,b.trans d⟩)))
 refine ak (?_)
 have hb:iq c=false:=(Geo.abd c).2 (e.1 omX)
 refine bn (T.skip (au (ah Z (aB results83 Z ⟨by rw [hb];rfl,b.trans d⟩))))
end Go.Proofs.YtnlonpcbgjbbaaaGreatDoor
