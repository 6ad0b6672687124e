/-
  BlocksParses, part 18 of its proof: that it returns true for every input, and each argument reads behind the call as it read before. Conditions: the listed variables read as the program's text lays them (tied by the card).
-/
import Derived.Test.YtnlonpcbgjbbaaaGreatDoorWBlocksParses17
import Derived.Lib.ItoaLen
set_option linter.unusedVariables false
set_option linter.unusedSimpArgs false
set_option maxRecDepth 20000
namespace Go.Proofs.YtnlonpcbgjbbaaaGreatDoor
open Go.Proofs.Tryz
open Go Go.E RowKit
attribute [local irreducible] Go.E.T Go.E.L Go.E.O Go.E.Ob
attribute [local irreducible] Go.E.ObX Go.E.ObG Go.E.ObK
variable {xs:List Int} {base i n s:Nat} {r:RoV} {t:Str} {v:Value} {w:World}
theorem results_tmp3 {P:Program} {fn:Func} {s s' s'':Tmp} (h:fn.results=#[.tmp s,.tmp s',.tmp s'']) (T:Array Value) (w:World):(results fn T).run P w = .ok (.tuple #[T.getD s undef,T.getD s' undef,T.getD s'' undef]) w:=by
 simp [results,h]
theorem kC {P:Program} {fn:Func} {R:Value→World→Prop} {k:List It} {e:Env} {s s' s'':Tmp} {d b:Value} (c:fn.results=#[.tmp s,.tmp s',.tmp s'']) (hv:Go.E.look e s=some v) (f:Go.E.look e s'=some d) (apK:Go.E.look e s''=some b) (h:R (.tuple #[v,d,b]) w):T (YP P fn n R) (.code .ret::k) e w :=
 lq fun a ha=>bodyPost_ret (results_tmp3 c _ _) ha.defers (by
  have g:=ha.sat.get s v hv
  have i:=ha.sat.get s' d f
  have j:=ha.sat.get s'' b apK
  simp [Array.getD_eq_getD_getElem?,g,i,j];exact h)
theorem ZM {α β:Type} [DecidableEq α] {kvs:List (α × β)} {k:α} {v:β} (h:k∉kvs.map (·.1)):AZ kvs k v=kvs ++ [(k,v)]:=by
 have:jl kvs k 0=none:=by
  have a:=Nb h
  rw [oN] at a
  cases hf:jl kvs k 0 with
  | none=>rfl
  | some p=>rw [hf] at a;cases a
 rw [AZ,this]
def Uk (t:Str):Str:=Lib.trimSuffix (if Lib.hasSuffix t [10]=true then t else t ++ [0,10]) [10]
theorem acW (s p:Str):(Lib.trimSuffix s p).length≤s.length:=by
 unfold Lib.trimSuffix
 split
 ·rw [List.length_take];omega
 exact Nat.le_refl _
theorem ZN (t:Str):(Uk t).length≤t.length+2:=by
 unfold Uk
 refine Nat.le_trans (acW _ _) ?_
 split
 ·omega
 simp
def keysA (nm:Nat→Str) (n:Nat):List (Str × Nat):=(List.range n).map fun i=>(nm i,i)
theorem Ul (nm:Nat→Str) (n:Nat):keysA nm (n+1)=keysA nm n ++ [(nm n,n)]:=by simp [keysA,List.range_succ]
theorem Xf {nm:Nat→Str} (h:∀ k,k<n→nm k≠nm n):nm n∉(keysA nm n).map (·.1):=fun a=>by
 simp only [keysA,List.map_map,List.mem_map,List.mem_range,Function.comp] at a
 obtain ⟨k,b,e⟩:=a
 exact h k b e
theorem ZO {nm:Nat→Str} : ∀ p∈keysA nm n,p.2<n:=fun p a=>by
 simp only [keysA,List.mem_map,List.mem_range] at a
 obtain ⟨k,b,rfl⟩:=a
 exact b
theorem PE {τ:Type} (step:τ→Str→Option τ):∀ (L:List Str) (s:τ) (n m:Nat),BH step s L n = .inr m→n≤m
 | [],s,n,m,h=>by simp [BH] at h
 | l::r,s,n,m,h=>by
  rw [BH] at h
  cases hs:step s l with
  | none=>rw [hs] at h;simp at h;omega
  | some s'=>rw [hs] at h;have:=PE step r s' (n+1) m h;omega
def iU (nm:Nat→Str) (xs:List Int) (t:Str):List Int × Nat × Int :=
 if 40000<t.length then ([],0,3) else match BH FU (true,keysA nm xs.length,xs) (dM 10 (Uk t)) 1 with
  | .inl s=>(s.2.2,0,0)
  | .inr m=>([],m,5)
def nmA (us:List UnV) (i:Nat):Str:=(us.getD i u0).nm
theorem ZP (h:w.ownsRow base 3 1 v n (xs.map (Value.int .i64))) (hn:0<n):∃ b cap cur,v = .slice (some ⟨b,0,none⟩) n cap∧base≤b∧Blk w b cur 3∧n≤cap∧cap≤maxLen∧cur.length=cap∧cur.take n=xs.map (Value.int .i64):=by
 rcases h.2 with ⟨_,h0⟩|⟨g,cap,cur,rfl,hbase,e,a,f,c,d⟩
 ·omega
 exact ⟨g,cap,cur.toList,rfl,omX,by unfold Blk;simpa using e,a,f,by simpa using c,by simpa using d⟩
theorem ZQ {b cap:Nat} {cs:List Value} {t:TypeId} (h:Blk w b cs t) (a:cs.length=cap) (c:n≤cap) (d:cap≤maxLen) (e:cs.take n=xs.map (Value.int .i64)) (hn:xs.length=n):Ints .i64 0 w (.slice (some ⟨b,0,none⟩) n cap) xs:=by
 have:=abp h a c d
 rw [e,← hn] at this
 subst hn
 exact this
theorem D9 (lo:Nat) (p:Value) (xs:List Int) (w:World) (g:Ints .i64 lo w p xs) (h:xs.length≤1000000) :
  Calls Tryz.prog 41 #[p] w (Ret fun v w'=>Ext w w'∧w'.ownsRow w.heap.size 3 1 v xs.length (xs.map (Value.int .i64))):=by
 refine aJ (vs:=[p]) func41 Z ntmps41 Z ?_
 refine au (ah Z (aj (au (aO Z (wo runUnderlying31 Z Z g (fun hn=>?_) (fun hn=>?_))))))
 ·refine aW (au (ah Z (aB results41 Z ⟨Keep.refl _ _,?_⟩)))
  have:xs = []:=List.length_eq_zero_iff.1 hn
  subst this
  exact iF _ _ _ _
 refine aU (T.skip (au (L.o (aH (el:=3) (parts:=[]) (vs:=[]) (cs:=[]) Z (fun w=>by kernel_rfl) (fun b5 j k l a d=>?_)))))
 have b:j.ownsRow w.heap.size 3 1 (.slice (some ⟨b5,0,none⟩) 0 0) 0 []:=pY (n:=0) d omX leX dcX rfl
 refine aO Z (dJ (size:=1) (bytes:=8) runUnderlying31 Tryz.rG Z Z Z Z dcX rfl rfl b (g.keep (a.mono lzX)) (by intro c i;simp at i;obtain ⟨_,_,rfl⟩:=i;rfl) omX (by simp only [maxLen];omega) omX (fun m w7 e f=>?_))
 refine ah Z (aB results41 Z ⟨a.jg b f omX,by simpa using e⟩)
set_option maxHeartbeats 1000000 in
theorem Ea (lo:Nat) (r:RoV) (oa:Option Addr) (l:Nat) (xs:List Int) (t:Str) (w:World) (hr:r.ok lo w) (hp:Ints .i64 0 w (.slice oa xs.length l) xs) (hL:sF w) (h0:gG r) (hn:xs.length≤r.us.length) (h1:0<xs.length) (hu:r.us.length≤64) (ht:t.length≤1000000) :
  Calls Tryz.prog 56 #[r.val,.slice oa xs.length l,str t] w (Ret fun v w'=>∃ pv,v = .tuple #[pv,.int .i64 ((iU (nmA r.us) xs t).2.1:Int),.int .i64 (iU (nmA r.us) xs t).2.2]∧Ints .i64 0 w' pv (iU (nmA r.us) xs t).1∧Ext w w'):=by
 refine aJ (vs:=[r.val,.slice oa xs.length l,str t]) func56 Z ntmps56 Z ?_
 refine au (bM Z (fun b3 w3 an ao A hB3=>?_))
 refine bM Z (fun b4 G ap aq B C=>?_)
 have H:Blk G b3 r.cells _:=Blk.ext (cs:=r.cells) hB3 B
 have xu:=A.trans B
 refine L.a Z (L.a Z (ah Z (aj (au (aO Z (dB runUnderlying9 Z (dY Z Z (fun I=>?_) (fun I=>?_))))))))
 ·refine ak (?_)
  have g:iU (nmA r.us) xs t=([],0,3):=by rw [iU,if_pos omX]
  refine aZ (fK Z (L.a Z (ah Z (kC results56 Z Z Z ⟨.slice none 0 0,by rw [g];rfl,by rw [g];exact Sl.nil _ _ _,xu⟩))))
 refine aU (T.skip (au (L.o (lG (kf:=str) (vf:=(Value.int .i64)) (fun d X al ar Az apL=>?_)))))
 have apM:Ext G X:=Az
 refine L.o (O.alloc zeroValue171 (fun y w9 av aw J Y=>?_))
 refine L.o (bP sizeOf171 Z Z Z Y (by simp [Value.cells,ofT]) (fun K QH EP=>?_))
 have apN:wJ str nV K d []:=(apL.keep J lzX).upd QH omX
 have acX:Ext G K:=(Az.trans J).upd QH (.inr omX)
 refine ak (aj (au (cZ Z ((Blk.ext (cs:=[.slice oa xs.length l]) C acX).cell Z) (L.le Z (Sl.val (hp.ext (xu.trans acX))) (L.m Z (ak (T.block (?_))))))))
 refine bf (σ:=Nat) (fun i=>[(2,str t),(3,.pointer (some ⟨b3,0,none⟩)),(4,.pointer (some ⟨b4,0,none⟩)),(9,.pointer (some ⟨y,0,none⟩)),(18,.int .i64 xs.length),(19,.int .i64 i)]) (fun i W=>i≤xs.length∧Ext G W∧wJ str nV W d (keysA (nmA r.us) i)∧Blk W y [.map (some d)] 171) (fun i=>xs.length-i) (0) ⟨rfl,rfl,rfl,rfl,rfl,rfl,trivial⟩ ⟨Nat.zero_le _,acX,apN,EP⟩ ?_
 rintro i M ⟨hi,iK,Ti,Xg⟩
 refine au (bH Z Z (fun aa=>?_) (fun aa=>?_))
 ·refine ak (?_)
  have N:i<xs.length:=by omega
  have P:i<r.us.length:=by omega
  have U3:Units lo M r.uv r.us:=hr.ext (xu.trans iK)
  refine aj (aZ (T.skip (aj (T.block (aQ Z (ah Z (?_)))))))
  refine dn mixed 8 [9,3,10] Z [.is _,.is _,.is _,.is _,.is _,.is _,.is _,.is _] [[],[],[1],[],[2,3],[4],[5],[]] trivial ⟨fun D hx=>aS rfl ((Blk.ext (cs:=[.map (some d)]) Xg hx).cell Z),
    fun D hx=>Ob.fa rfl,
    fun D hx=>aS rfl ((Blk.ext (cs:=r.cells) H (iK.trans hx)).cell rfl),
    fun D hx=>aF rfl,
    fun D hx=>bQ rfl rfl ((U3.ext hx).sl),
    fun D hx=>Ob.fa rfl,
    fun D hx=>aS rfl ((U3.ext hx).name P),
    fun D hx=>aF rfl,
    trivial⟩ (fun w7 E=>?_)
  refine L.o (jJ (kf:=str) (vf:=nV) (v:=i) nT runUnderlying171 runUnderlying9 Z Z Z (Ti.keep E lzX) (fun ax amC amD=>?_))
  have Q:∀ k,k<i→nmA r.us k≠nmA r.us i:=fun k hk=>(h0.good i P).name k hk
  rw [show (r.us.getD i u0).nm=nmA r.us i from rfl,ZM (Xf Q),← Ul] at amD
  refine ak (T.blk (aA (bF Z Z (L.m Z (ak (aP (i+1) omX ⟨rfl,rfl,rfl,rfl,rfl,rfl,trivial⟩ ⟨N,(iK.trans E).upd amC (.inr (by have:=Az.size;omega)),amD,Blk.upd (cs:=[.map (some d)]) (Blk.ext (cs:=[.map (some d)]) Xg E) amC omX⟩))))))
 refine ak (?_)
 obtain rfl:i=xs.length:=by omega
 refine aj (bn (aY Z (au (cZ Z ((Blk.ext (cs:=[.slice oa xs.length l]) C iK).cell Z) (L.o (ay (xs:=[.tmp 31]) call41 Z Z (D9 0 (.slice oa xs.length l) xs M (hp.ext (xu.trans iK)) omX) (fun v20 az F=>?_)))))))
 obtain ⟨jG,aaR⟩:=F
 obtain ⟨bs,cap,cur,rfl,aB,apO,ab,ac,ad,ae⟩:=ZP aaR h1
 refine L.o (bP sizeOf31 Z Z Z (Blk.ext (cs:=[.slice oa xs.length l]) C (iK.trans jG)) (by simp [Value.cells,ofT]) (fun u n FK=>?_))
 have atz:∀ {W:World},Ext G W→Blk W b3 r.cells _:=fun k=>Blk.ext (cs:=r.cells) H k
 have Yy:=iK.size
 have apP:=Az.size
 have ahx:Blk u y [.map (some d)] 171:=Blk.upd (cs:=[.map (some d)]) (Blk.ext (cs:=[.map (some d)]) Xg jG) n omX
 have amE:Ox str nV u d (keysA (nmA r.us) xs.length):=((Ox.apI Ti).keep jG).upd n omX
 have amF:Blk u bs cur 3:=Blk.upd apO n omX
 have jv:Ext w u:=(A.trans ((B.trans (iK.trans jG)).upd n (.inr omX)))
 refine ak (aj (au (aO Z (ay (xs:=[.tmp 33,_]) call106 Z Z (DX t [10] u omX) (fun aC af F=>?_)))))
 obtain ⟨rfl,rfl⟩:=F
 refine bT Z (ak (?_))
 refine dS (σ:=Unit) (fun _=>[(2,str (if Lib.hasSuffix t [10]=true then t else t ++ [0,10])),(4,.pointer (some ⟨b4,0,none⟩)),(9,.pointer (some ⟨y,0,none⟩))]) (fun _ w'=>w'=af) ?_ ?_
 ·rcases aD:Lib.hasSuffix t [10] with _|_
  ·refine aZ (aA (aO Z (bW Z Z (by show t.length+2≤_;omega) (ah Z (bC (()) ⟨?_,rfl,rfl,trivial⟩ Z)))))
   ·exact congrArg (fun z=>some (str z)) (if_neg spX).symm
  refine bn (T.skip (bC (()) ⟨?_,rfl,rfl,trivial⟩ Z))
  ·exact congrArg (fun z=>some (str z)) (if_pos rfl).symm
 rintro _ aE rfl
 refine au (L.o (O.alloc zeroValue4 (fun x aG apQ amG Gl VZ=>?_)))
 refine L.o (bP sizeOf4 Z Z Z VZ (by simp [Value.cells,ofT]) (fun ag Oo Tv=>?_))
 have amG:=Gl.size
 have hlen2:(if Lib.hasSuffix t [10]=true then t else t ++ [0,10]).length≤50000:=by split;omega;rw [List.length_append];show t.length+2≤_;omega
 refine ak (au (aO Z (ay (xs:=[.tmp 38,_]) call27 Z Z (Bh (if Lib.hasSuffix t [10]=true then t else t ++ [0,10]) [10] ag omX) (fun ai R F=>?_))))
 obtain ⟨amH,rfl⟩:=F
 have aH:=ZN t
 have aI:=Blk.lt (cs:=[.map (some d)]) ahx
 have aK:=amE.lt
 have aL:=Blk.lt amF
 have aM:=Blk.lt (cs:=[.slice (some ⟨bs,0,none⟩) xs.length cap]) FK
 have aN:=jv.size
 have atA:=Blk.lt (cs:=[.map (some d)]) Xg
 have atB:=A.size
 have ajc:ai=str (Uk t):=amH
 subst ajc
 clear amH
 have apR:AsI w x d y b4 bs xs.length cap (true,keysA (nmA r.us) xs.length,xs) (fun _=>False) R:=⟨(jv.trans Gl).upd Oo (.inr (by have:=jv.size;omega)),Tv,Blk.upd (cs:=[.map (some d)]) (Blk.ext (cs:=[.map (some d)]) ahx Gl) Oo omX,(amE.keep Gl).upd Oo omX,Blk.upd (cs:=[.slice (some ⟨bs,0,none⟩) xs.length cap]) (Blk.ext (cs:=[.slice (some ⟨bs,0,none⟩) xs.length cap]) FK Gl) Oo omX,⟨cur,Blk.upd (Blk.ext amF Gl) Oo omX,ad,ae⟩,rfl,⟨ab,ac⟩,ZO,omX,fun k hk=>hk.elim⟩
 refine L.o (eG (fi:=[]) (ca:=[.tmp 11,.tmp 9,.tmp 4]) Z Z (L.o (ay (xs:=[.tmp 39,.tmp 40]) call66 Z Z (yL (Uk t) 107 #[] #[.pointer (some ⟨x,0,none⟩),.pointer (some ⟨y,0,none⟩),.pointer (some ⟨b4,0,none⟩)] FU (true,keysA (nmA r.us) xs.length,xs) (fun _ _ ↦ True) (AsI w x d y b4 bs xs.length cap) (fun S W ↦ Ext w W∧∀ k,S k→w.heap.size≤k∧k<W.heap.size) R omX call107 AsI.Lh (fun S W W' h k ↦ ⟨h.1.trans k,fun j U ↦ ⟨(h.2 j U).1,Nat.lt_of_lt_of_le (h.2 j U).2 k.size⟩⟩) (fun S W W' b h hb k ↦ ⟨h.1.upd k (.inr (h.2 b hb).1),fun j U ↦ ⟨(h.2 j U).1,by rw [k.size];exact (h.2 j U).2⟩⟩) (fun s S W h ↦ hL.ext h.e) (ajb w x d y b4 bs xs.length cap hL) trivial (fun _ _ _ _ _ _ ↦ trivial) apR) (fun V aR F=>?_))))
 obtain ⟨q,apS,apT⟩:=F
 rcases f:BH FU (true,keysA (nmA r.us) xs.length,xs) (dM 10 (Uk t)) 1 with s|m
 ·rw [f] at q
  obtain rfl:V = .int .i64 0:=q
  obtain ⟨S,aef⟩:=apS s f
  obtain ⟨am,c1,c2,c3⟩:=aef.c
  have g:iU (nmA r.us) xs t=(s.2.2,0,0):=by rw [iU,if_neg omX,f]
  refine ah Z (aj (au (aO Z (gW Z Z omX (aU (T.skip (au (cZ Z (aef.p.cell Z) (L.a Z (L.a Z (ah Z (kC results56 Z Z Z ⟨_,by rw [g];rfl,by rw [g];exact ZQ c1 c2 aef.cp.1 aef.cp.2 c3 aef.len,aef.e⟩))))))))))))
 rw [f] at q
 obtain rfl:V = .int .i64 (m:Int):=q
 obtain ⟨S,apU⟩:=apT m f
 have aT:=PE _ _ _ _ _ f
 have g:iU (nmA r.us) xs t=([],m,5):=by rw [iU,if_neg omX,f]
 refine ah Z (aj (au (aO Z (iM Z Z omX (aW (aQ Z (L.a Z (L.a Z (ah Z (kC results56 Z Z Z ⟨.slice none 0 0,by rw [g],by rw [g];exact Sl.nil _ _ _,apU.1⟩))))))))))
theorem wC (lo:Nat) (r:RoV) (p:Value) (xs:List Int) (t:Str) (w:World) (c:r.ok lo w) (b:Ints .i64 0 w p xs) (hL:sF w) (h0:gG r) (hn:xs.length≤r.us.length) (d:0<xs.length) (e:r.us.length≤64) (f:t.length≤1000000) :
  Calls Tryz.prog 56 #[r.val,p,str t] w (Ret fun v w'=>∃ pv,v = .tuple #[pv,.int .i64 ((iU (nmA r.us) xs t).2.1:Int),.int .i64 (iU (nmA r.us) xs t).2.2]∧Ints .i64 0 w' pv (iU (nmA r.us) xs t).1∧Ext w w'):=by
 obtain ⟨oa,a,rfl,_,_⟩:=Sl.val b
 exact Ea lo r oa a xs t w c b hL h0 hn d e f
theorem Eb {c:Nat} : ∀ (ls:List Str),(∀ l∈ls,l.length≤c)→(bZ ls).length≤ls.length*(c+1)
 | [],_=>by simp [bZ]
 | l::r,h=>by
  have d:=h l spX
  have f:=Eb r fun x hx=>h x (List.mem_cons_of_mem _ hx)
  have e:bZ (l::r)=l ++ [10]++bZ r:=by simp [bZ]
  have a:(l::r).length*(c+1)=r.length*(c+1)+(c+1):=by rw [List.length_cons,Nat.succ_mul]
  have b:(l ++ [10]++bZ r).length=l.length+1+(bZ r).length:=by simp only [List.length_append,List.length_cons,List.length_nil]
  rw [e,b,a]
  omega
theorem Xh (h:gG r) (hi:i<r.us.length):nmA r.us i ≠ []∧(nmA r.us i).length≤12∧(nmA r.us i).all kK=true:=by
 have:=(h.good i hi).right
 simp only [gK,zn,List.all_cons,id,Bool.and_eq_true,Bool.not_eq_true',decide_eq_false_iff_not,decide_eq_true_eq] at this
 obtain ⟨a,c,b,_⟩:=this
 exact ⟨a,by unfold nmA;omega,b⟩
def Ec (nm:Nat→Str) (xs:List Int) (i:Nat):Str:=nm i ++ [44]++Lib.itoa (xs.getD i 0+1)
def ql (nm:Nat→Str) (xs:List Int) (n:Nat):List Str:=abo::(List.range n).map (Ec nm xs)
theorem PG (nm:Nat→Str) (xs:List Int) (n:Nat):ql nm xs (n+1)=ql nm xs n ++ [Ec nm xs n]:=by simp [ql,List.range_succ]
theorem zO (nm:Nat→Str) (xs:List Int) (n:Nat):(ql nm xs n).length=n+1:=by simp [ql]
theorem Xi {n:Int} (h:wW xs n=true):(xs.length:Int)=n∧∀ i,i<xs.length→0≤xs.getD i 0∧xs.getD i 0<8:=by
 rw [wW,Bool.and_eq_true,decide_eq_true_eq] at h
 refine ⟨h.1,fun i hi=>?_⟩
 have:=List.all_eq_true.1 h.2 (xs.getD i 0) (by rw [aX hi];exact List.getElem_mem hi)
 simp only [MW,Bool.not_eq_true',decide_eq_false_iff_not] at this
 omega
theorem Nh (h:gG r) (hi:i<r.us.length) (hx:0≤xs.getD i 0∧xs.getD i 0<8):(Ec (nmA r.us) xs i).length≤40:=by
 have a:=(Xh h hi).2.1
 have b:=Lib.itoa_length_le (xs.getD i 0+1) omX omX
 rw [Ec,List.length_append,List.length_append]
 simp only [List.length_cons,List.length_nil]
 omega
theorem Xj (h:gG r) (hn:n≤r.us.length) (d:r.us.length≤64) (hx:∀ i,i<n→0≤xs.getD i 0∧xs.getD i 0<8):(bZ (ql (nmA r.us) xs n)).length≤40000:=by
 have:=Eb (c:=40) (ql (nmA r.us) xs n) fun l a=>by
  rcases List.mem_cons.1 a with rfl|a
  ·decide
  obtain ⟨i,hi,rfl⟩:=List.mem_map.1 a
  have b:=List.mem_range.1 hi
  exact Nh h omX (hx i b)
 rw [zO] at this
 omega
def vV (base:Nat) (xs:List Str) (v:Value) (w:World):Prop:=w.ownsRow base 9 1 v xs.length (xs.map str)
theorem qQ {xs ys:List Str} (h:w.ownsRow base 9 1 v (xs.length+ys.length) (xs.map str++ys.map str)):vV base (xs++ys) v w:=by
 unfold vV;rw [List.length_append,List.map_append];exact h
theorem nD (xs:List Str):∀ u∈xs.map str,u.oneCell'=true:=fun u a=>by
 obtain ⟨s,_,rfl⟩:=List.mem_map.1 a;rfl
def Xk (xs:List Str) (v:Value) (w:World):Prop:=Strs 0 w v xs
theorem Xk.st {xs:List Str} : ∀ v w w',Ext w w'→Xk xs v w→Xk xs v w':=fun _ _ _ a h=>Strs.ext h a
noncomputable def Ed (r:RoV) (xs:List Int):Str × Int :=
 @ite _ (gG r) (Classical.propDecidable _) (if wW xs (eF r.us)=true then (bZ (ql (nmA r.us) xs xs.length),0) else ([],2)) ([],161)
theorem GZ (h:¬ gG r):Ed r xs=([],161):=by unfold Ed;exact if_neg h
theorem Ee (h:gG r):Ed r xs=if wW xs (eF r.us)=true then (bZ (ql (nmA r.us) xs xs.length),0) else ([],2):=by unfold Ed;exact if_pos h
theorem Ef (r:RoV):(ji r=0∧gG r∧zo r=eF r.us)∨(ji r=161∧¬ gG r):=by
 by_cases h:gG r
 ·exact .inl ⟨jy h,h,Gj (jy h)⟩
 exact .inr ⟨gY h,h⟩
theorem Nj (lo:Nat) (r:RoV) (p:Value) (xs:List Int) (w:World) (P:r.ok lo w) (D:Ints .i64 0 w p xs) (hL:sF w) :
  Calls Tryz.prog 12 #[r.val,p] w (Ret fun v w'=>v = .tuple #[str (Ed r xs).1,.int .i64 (Ed r xs).2]∧Ext w w'):=by
 refine aJ (vs:=[r.val,p]) func12 Z ntmps12 Z ?_
 refine au (bM Z (fun b2 Q S U t hB2=>?_))
 have hC2:Blk Q b2 r.cells _:=hB2
 refine L.a Z (ah Z (au (aT Z Z hC2.row (L.o (ay (xs:=[.tmp 12]) call52 Z Z (zq lo r Q (P.ext t)) (fun v3 V u=>?_))))))
 obtain ⟨rfl,x⟩:=u
 have kZ:=t.trans x
 rcases Ef r with ⟨d,c,F⟩|⟨d,c⟩
 ·rw [d,F]
  refine L.m Z (bK Z Z (bK Z Z (L.a Z (ah Z (aj (au (aO Z (fP Z Z Z (aU (T.skip (aj (au (aN Z Z (L.o (ay (xs:=[.tmp 19,.tmp 20]) call53 Z Z (GX 0 p xs (eF r.us) V (D.ext kZ)) (fun v4 E u=>?_))))))))))))))))
  obtain ⟨k,rfl⟩:=u
  have X:=qK r.us
  have Y:=(QF d).2.2.2.2.2.2.2
  cases b:wW xs (eF r.us)
  ·rw [b] at k
   subst k
   refine bT Z (aW (fK Z (ah Z (cu results12 Z Z ⟨by rw [Ee c,if_neg (by rw [b];simp)];rfl,kZ⟩))))
  rw [b] at k
  subst k
  obtain ⟨R,y⟩:=Xi b
  refine bT Z (aU (T.skip (au (L.o (aH (el:=9) (parts:=[(0,_)]) (vs:=[(0,_)]) (cs:=([abo].map str)) Z (fun w=>by kernel_rfl) (fun b5 w5 aa ab z G=>?_))))))
  have H:vV E.heap.size (ql (nmA r.us) xs 0) (.slice (some ⟨b5,0,none⟩) 1 1) w5:=pY (n:=1) (cap:=1) (sz:=1) G omX leX dcX rfl
  have TG:=kZ.trans z
  refine ah Z (aj (aQ Z (L.le Z (Sl.val D) (L.m Z (ak (T.block (?_)))))))
  refine bf (σ:=Nat × Value) (fun g=>[(1,p),(2,.pointer (some ⟨b2,0,none⟩)),(8,g.2),(24,p),(25,.int .i64 xs.length),(26,.int .i64 g.1)]) (fun g W=>g.1≤xs.length∧Ext w W∧Ext E W∧vV E.heap.size (ql (nmA r.us) xs g.1) g.2 W) (fun g=>xs.length-g.1) ((0,.slice (some ⟨b5,0,none⟩) 1 1)) ⟨rfl,rfl,rfl,rfl,rfl,rfl,trivial⟩ ⟨Nat.zero_le _,TG,z,H⟩ ?_
  rintro ⟨i,lv⟩ I ⟨hi,f,Ap,l⟩
  simp only at hi l
  refine au (bH Z Z (fun q=>?_) (fun q=>?_))
  ·refine ak (?_)
   have j:i<xs.length:=by simp only at q;omega
   have s:i<r.us.length:=by omega
   have J:Blk I b2 r.cells _:=Blk.ext (cs:=r.cells) hC2 (x.trans Ap)
   have A:=y i j
   have B:Units lo I r.uv r.us:=P.ext f
   have C:=(Xh c s).2.1
   have ac:=Nh (xs:=xs) c s A
   have ad:=Lib.itoa_length_le (xs.getD i 0+1) omX omX
   refine aj (aZ (T.skip (aj (T.block (aQ Z (dG Z Z (D.ext f) (cZ Z (Ints.at (D.ext f) j) (L.a Z (ah Z (?_))))))))))
   refine dn mixed 13 [8,2,9,10] Z [.is _,.is _,.is _,.is _,.is _,.is _,.is _,.is _,.is _,.is _,.is (str (Lib.itoa (xs.getD i 0+1))),.is _,.such (Xk [Ec (nmA r.us) xs i])] [[],[],[1],[],[2,3],[4],[5],[6],[],[8],[9],[7,10],[11]] ⟨Xk.st,trivial⟩ ⟨fun e hx=>aF rfl,
     fun e hx=>Ob.fa rfl,
     fun e hx=>aS rfl ((Blk.ext (cs:=r.cells) J hx).cell rfl),
     fun e hx=>aF rfl,
     fun e hx=>bQ rfl rfl ((B.ext hx).sl),
     fun e hx=>Ob.fa rfl,
     fun e hx=>aS rfl ((B.ext hx).name s),
     fun e hx=>Ob.o (bW Z Z (by show (r.us.getD i u0).nm.length+1≤_;unfold nmA at C;omega) kR),
     fun e hx=>aF rfl,
     fun e hx=>Ob.o (bG Z Z (by have:=A;show -9223372036854775808≤xs.getD i 0+1∧xs.getD i 0+1≤9223372036854775807;omega) kR),
     fun e hx=>Ob.o (ay (xs:=[.tmp 40]) call54 Z Z (vI (xs.getD i 0+1) e (hL.ext (f.trans hx)) omX omX) (fun v wy h=>⟨h.2,h.1⟩)),
     fun e hx=>Ob.o (bW Z Z (by rw [List.length_append];show (r.us.getD i u0).nm.length+1+_≤_;unfold nmA at C;omega) kR),
     fun e hx=>Ob.o (aH (el:=9) (parts:=[(0,.tmp 42)]) (vs:=[(0,_)]) (cs:=([Ec (nmA r.us) xs i].map str)) Z (fun w=>by kernel_rfl) (fun ae af aoc aod aeK K=>⟨aeK,Strs.bI K Z dcX lzX⟩)),
     trivial⟩ (fun ag jf ai apV=>?_)
   refine L.o (dJ (size:=1) (bytes:=16) runUnderlying61 Tryz.qp Z Z Z Z dcX rfl rfl (cO l (jf.mono lzX) leX) apV (nD _) (by simp only [zO,List.length_cons,List.length_nil];omega) (by simp only [zO,maxLen,List.length_cons,List.length_nil];omega) (by have:=Ap.size;have:=jf.size;omega) (fun v7 w7 M N=>?_))
   have abj:Ext E w7:=Keep.jg (Ap.trans jf) (cO l (jf.mono lzX) leX) N leX
   refine ah Z (T.blk (aA (bF Z Z (L.m Z (ak (aP ((i+1,v7)) omX ⟨rfl,rfl,rfl,rfl,rfl,rfl,trivial⟩ ⟨j,kZ.trans abj,abj,by rw [PG];exact qQ (ys:=[Ec (nmA r.us) xs i]) M⟩))))))
  refine ak (?_)
  obtain rfl:i=xs.length:=by simp only at q;omega
  refine aj (bn (aY Z (au (aO Z (ay (xs:=[.tmp 46]) call55 Z Z (AP 0 lv (ql (nmA r.us) xs xs.length) I ((Sl.dD l).mono lzX) (Nat.le_trans (Xj c omX omX y) omX)) (fun v8 w8 u=>?_))))))
  obtain ⟨rfl,O⟩:=u
  refine L.a Z (ah Z (cu results12 Z Z ⟨by rw [Ee c,if_pos b],f.trans O⟩))
 rw [d]
 refine L.m Z (bK Z Z (bK Z Z (L.a Z (ah Z (aj (au (aO Z (kT Z Z omX (aW (aQ Z (L.a Z (ah Z (cu results12 Z Z ⟨by rw [GZ c];rfl,kZ⟩)))))))))))))
noncomputable def pI (r:RoV) (xs:List Int) (t:Str):List Int × Nat × Int :=
 @ite _ (gG r) (Classical.propDecidable _) (if wW xs (eF r.us)=true then iU (nmA r.us) xs t else ([],0,2)) ([],0,161)
theorem Eh (h:¬ gG r):pI r xs t=([],0,161):=by unfold pI;exact if_neg h
theorem zQ (h:gG r):pI r xs t=if wW xs (eF r.us)=true then iU (nmA r.us) xs t else ([],0,2):=by unfold pI;exact if_pos h
def Ei (nm:Nat→Str) (n:Nat) (t:Str):List Int × Nat × Int :=
 let a:=iU nm (List.replicate n (-1)) t
 if a.2.2≠0 then ([],a.2.1,a.2.2) else if (-1:Int)∈a.1 then ([],0,4) else (a.1,0,0)
noncomputable def nX (r:RoV) (t:Str):List Int × Nat × Int :=
 @ite _ (gG r) (Classical.propDecidable _) (Ei (nmA r.us) (eF r.us) t) ([],0,161)
theorem Ej (h:¬ gG r):nX r t=([],0,161):=by unfold nX;exact if_neg h
theorem vJ (h:gG r):nX r t=Ei (nmA r.us) (eF r.us) t:=by unfold nX;exact if_pos h
theorem Nk (h:gG r):0<eF r.us∧eF r.us≤r.us.length∧r.us.length≤64:=by
 have hb:=QF (jy h)
 have a:0<r.us.length:=by omega
 have h0:=(h.good 0 a).first rfl
 refine ⟨?_,qK _,omX⟩
 cases b:r.us with
 | nil=>rw [b] at a;simp at a
 | cons u us =>
  rw [b] at h0
  have c:u.wt=false:=h0
  simp [eF,c]
theorem Jw (lo:Nat) (r:RoV) (p:Value) (xs:List Int) (t:Str) (w:World) (q:r.ok lo w) (s:Ints .i64 0 w p xs) (hL:sF w) (y:t.length≤1000000) :
  Calls Tryz.prog 14 #[r.val,p,str t] w (Ret fun v w'=>∃ pv,v = .tuple #[pv,.int .i64 ((pI r xs t).2.1:Int),.int .i64 (pI r xs t).2.2]∧Ints .i64 0 w' pv (pI r xs t).1∧Ext w w'):=by
 refine aJ (vs:=[r.val,p,str t]) func14 Z ntmps14 Z ?_
 refine au (bM Z (fun b2 u z A g hB2=>?_))
 have hC2:Blk u b2 r.cells _:=hB2
 refine L.a Z (L.a Z (ah Z (au (aT Z Z hC2.row (L.o (ay (xs:=[.tmp 11]) call52 Z Z (zq lo r u (q.ext g)) (fun v3 B h=>?_)))))))
 obtain ⟨rfl,i⟩:=h
 have kZ:=g.trans i
 rcases Ef r with ⟨e,d,k⟩|⟨e,d⟩
 ·rw [e,k]
  refine L.m Z (bK Z Z (bK Z Z (L.a Z (ah Z (aj (au (aO Z (fP Z Z Z (aU (T.skip (aj (au (aN Z Z (L.o (ay (xs:=[.tmp 18,.tmp 19]) call53 Z Z (GX 0 p xs (eF r.us) B (s.ext kZ)) (fun v4 C h=>?_))))))))))))))))
  obtain ⟨f,rfl⟩:=h
  have j:=Nk d
  cases b:wW xs (eF r.us)
  ·rw [b] at f
   subst f
   have c:pI r xs t=([],0,2):=by rw [zQ d,if_neg (by rw [b];simp)]
   refine bT Z (aW (fK Z (L.a Z (ah Z (kC results14 Z Z Z ⟨.slice none 0 0,by rw [c];rfl,by rw [c];exact Sl.nil _ _ _,kZ⟩)))))
  rw [b] at f
  subst f
  obtain ⟨x,D⟩:=Xi b
  refine bT Z (aU (T.skip (au (aT Z Z ((Blk.ext (cs:=r.cells) hC2 i).row) (aN Z Z (L.o (ay (xs:=[.tmp 22,.tmp 23,.tmp 24]) call56 Z Z (wC lo r p xs t C (q.ext kZ) (s.ext kZ) (hL.ext kZ) d omX omX j.2.2 y) (fun v5 E h=>?_))))))))
  obtain ⟨pv,rfl,l,n⟩:=h
  have c:pI r xs t=iU (nmA r.us) xs t:=by rw [zQ d,if_pos b]
  refine bK Z Z (bK Z Z (bK Z Z (L.a Z (L.a Z (ah Z (kC results14 Z Z Z ⟨pv,by rw [c];rfl,by rw [c];exact l,kZ.trans n⟩))))))
 rw [e]
 refine L.m Z (bK Z Z (bK Z Z (L.a Z (ah Z (aj (au (aO Z (kT Z Z omX (?_)))))))))
 have c:pI r xs t=([],0,161):=Eh d
 refine aW (aQ Z (L.a Z (L.a Z (ah Z (kC results14 Z Z Z ⟨.slice none 0 0,by rw [c];rfl,by rw [c];exact Sl.nil _ _ _,kZ⟩)))))
def PI (n:Nat) (base:Nat) (v:Value) (w:World):Prop:=∃ b,v = .slice (some ⟨b,0,none⟩) n n∧base≤b∧Blk w b (List.replicate n (.int .i64 (-1))) 3
theorem PI.st : ∀ v w w',Ext w w'→PI n base v w→PI n base v w':=fun _ _ _ a ⟨b,c,d,e⟩=>⟨b,c,d,Blk.ext e a⟩
theorem PI.ints (h:PI n base v w) (hn:n≤1000):Ints .i64 0 w v (List.replicate n (-1)):=by
 obtain ⟨b,rfl,_,hB⟩:=h
 have:=Sl.bI (n:=n) (cap:=n) (sz:=1) (lo:=0) hB spX leX (by simp only [maxLen];omega) lzX
 have e:List.replicate n (Value.int .i64 (-1))=(List.replicate n (-1:Int)).map (Value.int .i64):=by simp
 rw [e] at this
 unfold Ints
 rw [List.length_replicate]
 exact this
def afH (v:Value) (w:World):Prop:=∃ b,v = .slice (some ⟨b,0,none⟩) 1 1∧Blk w b [.int .i64 (-1)] 3
theorem afH.st:∀ v w w',Ext w w'→afH v w→afH v w':=fun _ _ _ a ⟨b,c,d⟩=>⟨b,c,Blk.ext (cs:=[.int .i64 (-1)]) d a⟩
def zS (xs:List Int) (v:Value) (w:World):Prop:=Ints .i64 0 w v xs
theorem zS.st : ∀ v w w',Ext w w'→zS xs v w→zS xs v w':=fun _ _ _ a h=>Sl.ext h a
def acY (nm:Nat→Str) (xs:List Int) (t:Str) (v:Value) (w:World):Prop:=∃ pv,v = .tuple #[pv,.int .i64 ((iU nm xs t).2.1:Int),.int .i64 (iU nm xs t).2.2]∧Ints .i64 0 w pv (iU nm xs t).1
theorem acY.st {nm:Nat→Str} : ∀ v w w',Ext w w'→acY nm xs t v w→acY nm xs t v w':=fun _ _ _ a ⟨pv,b,c⟩=>⟨pv,b,c.ext a⟩
set_option maxHeartbeats 1000000 in
theorem G5 (lo:Nat) (r:RoV) (t:Str) (w:World) (G:r.ok lo w) (hL:sF w) (J:t.length≤1000000) :
  Calls Tryz.prog 13 #[r.val,str t] w (Ret fun v w'=>∃ pv,v = .tuple #[pv,.int .i64 ((nX r t).2.1:Int),.int .i64 (nX r t).2.2]∧Ints .i64 0 w' pv (nX r t).1∧Ext w w'):=by
 refine aJ (vs:=[r.val,str t]) func13 Z ntmps13 Z ?_
 refine au (bM Z (fun b2 H K M k hB2=>?_))
 have hC2:Blk H b2 r.cells _:=hB2
 refine L.a Z (L.a Z (ah Z (au (aT Z Z hC2.row (L.o (ay (xs:=[.tmp 9]) call52 Z Z (zq lo r H (G.ext k)) (fun v3 Q y=>?_)))))))
 obtain ⟨rfl,l⟩:=y
 have kZ:=k.trans l
 rcases Ef r with ⟨f,d,z⟩|⟨f,d⟩
 ·rw [f,z]
  have n:=Nk d
  refine L.m Z (bK Z Z (bK Z Z (L.a Z (ah Z (aj (au (aO Z (fP Z Z Z (aU (T.skip (aj (?_))))))))))))
  refine dn mixed 12 [2,7,1] Z [.is _,.such afH,.is _,.such (PI (eF r.us) 0),.is _,.such (acY (nmA r.us) (List.replicate (eF r.us) (-1)) t),.such (acY (nmA r.us) (List.replicate (eF r.us) (-1)) t),.such (zS (iU (nmA r.us) (List.replicate (eF r.us) (-1)) t).1),.is (.int .i64 ((iU (nmA r.us) (List.replicate (eF r.us) (-1)) t).2.1:Int)),.is (.int .i64 (iU (nmA r.us) (List.replicate (eF r.us) (-1)) t).2.2),.such (zS (iU (nmA r.us) (List.replicate (eF r.us) (-1)) t).1),.is _] [[],[],[],[1,2],[],[0,3,4],[5],[6],[6],[6],[7],[8]] ⟨afH.st,PI.st,acY.st,acY.st,zS.st,zS.st,trivial⟩ ⟨fun e hx=>bJ rfl rfl ((Blk.ext (cs:=r.cells) hC2 (l.trans hx)).row),
    fun e hx=>Ob.o (aH (el:=3) (parts:=[(0,.const (.int .i64 (-1)))]) (vs:=[(0,_)]) (cs:=[.int .i64 (-1)]) Z (fun w=>by kernel_rfl) (fun A N ajd aje xw ET=>⟨xw,A,rfl,ET⟩)),
    fun e hx=>aF rfl,
    fun e hx B aeE=>by { obtain ⟨b0,rfl,C⟩:=aeE;exact Ob.o (ay (xs:=[.tmp 18,.tmp 19]) call57 Z Z (Bj b0 (eF r.us) e C omX omX) (fun v wy h=>⟨by obtain ⟨b,p,u,q,I⟩:=h;exact I,by obtain ⟨b,p,u,q,I⟩:=h;exact ⟨b,p,Nat.zero_le _,q⟩⟩)) },
    fun e hx=>aF rfl,
    fun e hx v20 xB=>Ob.o (ay (xs:=[.tmp 17,.tmp 20,.tmp 21]) call56 Z Z (wC lo r v20 (List.replicate (eF r.us) (-1)) t e (G.ext (kZ.trans hx)) (xB.ints omX) (hL.ext (kZ.trans hx)) d (by rw [List.length_replicate];omega) (by rw [List.length_replicate];omega) n.2.2 J) (fun v wy h=>⟨by obtain ⟨b,p,u,q⟩:=h;exact q,by obtain ⟨b,p,u,q⟩:=h;exact ⟨b,p,u⟩⟩)),
    fun e hx D uO=>Ob.o (O.move Z ⟨Keep.refl _ _,uO⟩),
    fun e hx i aeg=>by { obtain ⟨pv,rfl,j⟩:=aeg;exact Ob.o (O.extract Z Z ⟨Keep.refl _ _,j⟩) },
    fun e hx i aeg=>by { obtain ⟨pv,rfl,j⟩:=aeg;exact BF rfl rfl },
    fun e hx i aeg=>by { obtain ⟨pv,rfl,j⟩:=aeg;exact BF rfl rfl },
    fun e hx E zJ=>Ob.o (wF Z ⟨Keep.refl _ _,zJ⟩),
    fun e hx=>Ob.sg rfl,
    trivial⟩ (fun P F B aeE v20 xB D uO i aeg E zJ v4 s=>?_)
  have ajf:=kZ.trans F
  refine ah Z (aj (aQ Z (L.ne Z Z (fun ZR=>?_) (fun ZR=>?_))))
  ·refine ak (?_)
   have c:nX r t=([],(iU (nmA r.us) (List.replicate (eF r.us) (-1)) t).2.1,(iU (nmA r.us) (List.replicate (eF r.us) (-1)) t).2.2):=by rw [vJ d,Ei];exact if_pos ZR
   refine aZ (au (aN Z Z (L.a Z (L.a Z (ah Z (kC results13 Z Z Z ⟨.slice none 0 0,by rw [c],by rw [c];exact Sl.nil _ _ _,ajf⟩))))))
  refine aU (T.skip (aj (au (aO Z (ay (xs:=[.tmp 30,.const (.int .i64 (-1))]) call58 Z Z (Jv 0 v4 _ P s) (fun v5 R y=>?_))))))
  obtain ⟨g,rfl⟩:=y
  cases x:decide ((-1:Int)∈(iU (nmA r.us) (List.replicate (eF r.us) (-1)) t).1)
  ·refine ak (?_)
   rw [x] at g
   subst g
   have c:nX r t=((iU (nmA r.us) (List.replicate (eF r.us) (-1)) t).1,0,0):=by rw [vJ d,Ei];exact (if_neg (fun h=>h ZR)).trans (if_neg (of_decide_eq_false x))
   refine bn (T.skip (aQ Z (L.a Z (L.a Z (ah Z (kC results13 Z Z Z ⟨v4,by rw [c];rfl,by rw [c];exact s,ajf⟩))))))
  refine ak (?_)
  rw [x] at g
  subst g
  have c:nX r t=([],0,4):=by rw [vJ d,Ei];exact (if_neg (fun h=>h ZR)).trans (if_pos (of_decide_eq_true x))
  refine aZ (fK Z (L.a Z (ah Z (kC results13 Z Z Z ⟨.slice none 0 0,by rw [c];rfl,by rw [c];exact Sl.nil _ _ _,ajf⟩))))
 rw [f]
 refine L.m Z (bK Z Z (bK Z Z (L.a Z (ah Z (aj (au (aO Z (kT Z Z omX (?_)))))))))
 have c:nX r t=([],0,161):=Ej d
 refine aW (aQ Z (L.a Z (L.a Z (ah Z (kC results13 Z Z Z ⟨.slice none 0 0,by rw [c];rfl,by rw [c];exact Sl.nil _ _ _,kZ⟩)))))
theorem yN (h:n<10):Lib.decDigits n = [UInt8.ofNat (48+n)]:=by rw [Lib.decDigits,dif_pos h]
theorem PK (h:¬ n<10):Lib.decDigits n=Lib.decDigits (n / 10) ++ [UInt8.ofNat (48+n % 10)]:=by rw [Lib.decDigits,dif_neg h]
theorem acZ (h:n<10):((UInt8.ofNat (48+n)).toNat:Int)=48+(n:Int):=by
 rw [UInt8.toNat_ofNat'];omega
theorem Xl (h:n≤9223372036854775808):(Lib.decDigits n).length≤21:=by
 have:=Lib.itoa_length_le (-(n:Int)) omX omX
 rcases Nat.eq_zero_or_pos n with rfl|a
 ·rw [yN omX];simp
 rw [Lib.itoa_neg n a] at this;simp at this;omega
theorem Jy {b:Nat} {x:Int} (h:n<10) (hx:x=48+(n:Int)) (hB:Blk w b [.int .u8 x] 5):Ints .u8 0 w (.slice (some ⟨b,0,none⟩) 1 1) (([UInt8.ofNat (48+n)]:Str).map fun c=>(c.toNat:Int)):=by
 subst hx
 rw [List.map_singleton,acZ h]
 exact Ints.bI hB rfl dcX lzX
theorem apW (n:Nat) (w:World) (hn:n≤9223372036854775807) (a:∀ (m:Nat) (W:World),m<n→Calls Tryz.prog 96 (#[] ++ [.int .i64 m].toArray++#[]) W (Ret fun v W'=>v=str (Lib.decDigits m)∧Ext W W')) :
  Calls Tryz.prog 96 #[.int .i64 n] w (Ret fun v w'=>v=str (Lib.decDigits n)∧Ext w w'):=by
 have d:n % 10<10:=by omega
 refine aJ (vs:=[.int .i64 n]) func96 Z ntmps96 Z ?_
 refine au (ah Z (au (aO Z (fG Z Z omX omX (ah Z (aj (au (aO Z (fU Z Z omX (aU (T.skip (aQ Z (bF Z Z (L.o (dO Z (fun w=>⟨_,runUnderlying3 w⟩) runUnderlying5 (IntWalk.u8_in _ ⟨omX,omX⟩) (L.o (aH (el:=5) (parts:=[(0,.tmp 13)]) (vs:=[(0,_)]) (cs:=[.int .u8 (48+(n:Int) % 10)]) Z (fun w=>by kernel_rfl) (fun b1 w1 f g b hB1=>?_))))))))))))))))))
 refine L.o (mZ runUnderlying54 runUnderlying5 runUnderlying9 Z (Jy (n:=n % 10) d omX hB1) spX (ah Z (aj (au (aO Z (uY Z Z omX (L.ne Z Z (fun h=>?_) (fun h=>?_))))))))
 ·refine ak (?_)
  have c:¬ n<10:=by omega
  refine aZ (au (aO Z (uY Z Z omX (L.o (ay (xs:=[.tmp 20]) call96 Z Z (a (n / 10) w1 omX) (fun v2 j i=>?_))))))
  obtain ⟨rfl,e⟩:=i
  refine aO Z (bW Z Z (by have k:=Xl (n:=n / 10) omX;simp only [List.length_cons,List.length_nil];omega) (ah Z (aB results96 Z ⟨by rw [PK c],b.trans e⟩)))
 refine ak (?_)
 have c:n<10:=by omega
 refine bn (T.skip (aj (au (aO Z (fU Z Z omX (aU (T.skip (aQ Z (ah Z (aB results96 Z ⟨by rw [yN c,Nat.mod_eq_of_lt c],b⟩))))))))))
theorem afI (n:Nat) (w:World) (hn:n≤9223372036854775807):Calls Tryz.prog 96 #[.int .i64 n] w (Ret fun v w'=>v=str (Lib.decDigits n)∧Ext w w'):=by
 induction n using Nat.strongRecOn generalizing w with
 | _ n ih=>exact apW n w hn (fun m W a=>ih m a W omX)
theorem tmod_neg (u:Nat):(-(u:Int)).tmod 10 = -((u % 10:Nat):Int):=by
 rw [Int.neg_tmod];rfl
theorem tdiv_neg (u:Nat):(-(u:Int)).tdiv 10 = -((u / 10:Nat):Int):=by
 rw [Int.neg_tdiv];rfl
section
variable {C:Cx} {e:Env} {w:World} {K:Value→World→Prop} {d:Option Tmp} {ty tx ty':TypeId} {pos:String} {aft:Array Edge} {g:Option (Nat × Bool)} {x y:Operand}
theorem PL {u:Nat} (hx:ev e x=some (.int .i64 (-(u:Int)))) (hy:ev e y=some (.int .i64 10)) (h:K (.int .i64 (-((u % 10:Nat):Int))) w):O C e ⟨d,.binOp .rem tx x y ty',ty,pos,aft,g⟩ w K :=
 Kw hx hy dcX (by rw [tmod_neg];exact h)
theorem sG {u:Nat} (b:u≤9223372036854775808) (hx:ev e x=some (.int .i64 (-(u:Int)))) (hy:ev e y=some (.int .i64 10)) (h:K (.int .i64 (-((u / 10:Nat):Int))) w):O C e ⟨d,.binOp .quo tx x y ty',ty,pos,aft,g⟩ w K :=
 jR hx hy (by
  have a:IntKind.i64.wrap ((-(u:Int)).tdiv 10) = -((u / 10:Nat):Int):=by rw [tdiv_neg];exact IntWalk.i64_in _ ⟨omX,omX⟩
  simp only [binOp,Op.intDiv]
  rw [if_neg dcX]
  simp only [a]
  rfl) h
end
theorem apX (n:Nat) (w:World) (hn:n≤9223372036854775808) (h0:1≤n) (b:∀ (m:Nat) (W:World),m<n→1≤m→Calls Tryz.prog 96 (#[] ++ [.int .i64 (-(m:Int))].toArray++#[]) W (Ret fun v W'=>v=str (45::Lib.decDigits m)∧Ext W W')) :
  Calls Tryz.prog 96 #[.int .i64 (-(n:Int))] w (Ret fun v w'=>v=str (45::Lib.decDigits n)∧Ext w w'):=by
 have e:n % 10<10:=by omega
 refine aJ (vs:=[.int .i64 (-(n:Int))]) func96 Z ntmps96 Z ?_
 refine au (ah Z (au (aO Z (PL (u:=n) Z Z (?_)))))
 rcases Nat.eq_zero_or_pos (n % 10) with f|f
 ·rw [f]
  refine ah Z (aj (au (aO Z (fU Z Z omX (aU (T.skip (aQ Z (bF Z Z (L.o (dO Z (fun w=>⟨_,runUnderlying3 w⟩) runUnderlying5 (IntWalk.u8_in _ ⟨omX,omX⟩) (L.o (aH (el:=5) (parts:=[(0,.tmp 13)]) (vs:=[(0,_)]) (cs:=[.int .u8 48]) Z (fun w=>by kernel_rfl) (fun b1 w1 g i a hB1=>?_)))))))))))))
  refine L.o (mZ runUnderlying54 runUnderlying5 runUnderlying9 Z (Jy (n:=0) omX rfl hB1) spX (ah Z (aj (au (aO Z (sG (u:=n) hn Z Z (L.ne Z Z (fun h=>?_) (fun h=>?_))))))))
  ·refine ak (?_)
   have c:¬ n<10:=by omega
   refine aZ (au (aO Z (sG (u:=n) hn Z Z (L.o (ay (xs:=[.tmp 20]) call96 Z Z (b (n / 10) w1 omX omX) (fun v2 k j=>?_))))))
   obtain ⟨rfl,d⟩:=j
   refine aO Z (bW Z Z (by have l:=Xl (n:=n / 10) omX;simp only [List.length_cons,List.length_nil];omega) (ah Z (aB results96 Z ⟨by rw [PK c,f];rfl,a.trans d⟩)))
  refine ak (?_)
  have c:n<10:=by omega
  have hF:False:=by omega
  refine bn (T.skip (aj (au (aO Z (mD Z Z omX (aW (au (aO Z (bW Z Z spX (ah Z (aB results96 Z ⟨hF.elim,a⟩)))))))))))
 refine ah Z (aj (au (aO Z (mD Z Z omX (aW (aA (aO Z (zy Z omX (ah Z (aQ Z (bF Z Z (L.o (dO Z (fun w=>⟨_,runUnderlying3 w⟩) runUnderlying5 (IntWalk.u8_in _ ⟨omX,omX⟩) (L.o (aH (el:=5) (parts:=[(0,.tmp 13)]) (vs:=[(0,_)]) (cs:=[.int .u8 (48+(0 - -((n % 10:Nat):Int)))]) Z (fun w=>by kernel_rfl) (fun b1 w1 g i a hB1=>?_))))))))))))))))
 refine L.o (mZ runUnderlying54 runUnderlying5 runUnderlying9 Z (Jy (n:=n % 10) e omX hB1) spX (ah Z (aj (au (aO Z (sG (u:=n) hn Z Z (L.ne Z Z (fun h=>?_) (fun h=>?_))))))))
 ·refine ak (?_)
  have c:¬ n<10:=by omega
  refine aZ (au (aO Z (sG (u:=n) hn Z Z (L.o (ay (xs:=[.tmp 20]) call96 Z Z (b (n / 10) w1 omX omX) (fun v2 k j=>?_))))))
  obtain ⟨rfl,d⟩:=j
  refine aO Z (bW Z Z (by have l:=Xl (n:=n / 10) omX;simp only [List.length_cons,List.length_nil];omega) (ah Z (aB results96 Z ⟨by rw [PK c];rfl,a.trans d⟩)))
 refine ak (?_)
 have c:n<10:=by omega
 refine bn (T.skip (aj (au (aO Z (mD Z Z omX (aW (au (aO Z (bW Z Z spX (ah Z (aB results96 Z ⟨by rw [yN c,Nat.mod_eq_of_lt c];rfl,a⟩)))))))))))
theorem Nl (n:Int) (w:World) (h0 : -9223372036854775808≤n) (b:n≤9223372036854775807):Calls Tryz.prog 96 #[.int .i64 n] w (Ret fun v w'=>v=str (Lib.itoa n)∧Ext w w'):=by
 have a:∀ (m:Nat) (w:World),1≤m→m≤9223372036854775808→Calls Tryz.prog 96 #[.int .i64 (-(m:Int))] w (Ret fun v w'=>v=str (45::Lib.decDigits m)∧Ext w w'):=by
  intro m
  induction m using Nat.strongRecOn with
  | _ m ih=>intro w c d;exact apX m w d c (fun k W f b=>ih k f W b omX)
 rcases Int.lt_or_le n 0 with h|h
 ·have e:n = -((n.natAbs:Nat):Int):=by omega
  rw [e,Lib.itoa_neg _ omX]
  exact a _ w omX omX
 have e:n=((n.toNat:Nat):Int):=by omega
 rw [e,Lib.itoa_nonneg]
 exact afI _ w omX
section
variable {C:Cx} {e:Env} {w:World} {K:Value→World→Prop} {d:Option Tmp} {ty:TypeId} {pos:String} {aft:Array Edge} {g:Option (Nat × Bool)} {x y z:Operand} {t:TypeId}
theorem qR {s:Str} {l h:Nat} (a:∀ w,(underlying t).run C.P w = .ok .string w) (hx:ev e x=some (str s)) (hy:ev e y=some (.int .i64 l)) (b:ev e z=some (.int .i64 h)) (h0:l≤h) (f:h≤s.length) (c:K (str ((s.drop l).take (h-l))) w) :
  O C e ⟨d,.slice t x (some y) (some z) none,ty,pos,aft,g⟩ w K :=
 bD spX (fun ac ha=>by
  have:=run_slice_string (P:=C.P) w t ⟨s.toArray⟩ .i64 .i64 l h (dL a) omX omX (by simp [ByteArray.size];omega)
  simp only [Int.toNat_natCast] at this
  rw [rJ] at this
  simp only [execOp,ha.eval hx,ha.eval hy,ha.eval b,str,Option.map_some,Option.map_none] at this ⊢
  rw [Sem.run_bind,run_sliceAt_string w _ _ _ _ _ (dL a),this];simp) c
end
theorem ZT (b:s≤i) (a:i<t.length):t.drop s=(t.drop s).take (i-s)++t.getD i 0::t.drop (i+1):=by
 have e:(t.drop s).drop (i-s)=t.getD i 0::t.drop (i+1):=by
  rw [List.drop_drop,show s+(i-s)=i by omega,List.drop_eq_getElem_cons a,aX a]
 rw [← e,List.take_append_drop]
theorem Xm (b:s≤i) (a:i<t.length):(t.drop s).take (i+1-s)=(t.drop s).take (i-s) ++ [t.getD i 0]:=by
 rw [show i+1-s=(i-s)+1 by omega,List.take_succ_eq_append_getElem (by rw [List.length_drop];omega),List.getElem_drop]
 congr 2
 rw [aX a]
 congr 1;omega
def Jz (t:Str) (s i:Nat) (done:List Str):Prop:=s≤i∧i≤t.length∧done.length≤s∧dM 10 t=done++dM 10 (t.drop s)∧(10:UInt8)∉(t.drop s).take (i-s)
theorem Jz.yes {done:List Str} (h:Jz t s i done) (hi:i<t.length) (a:t.getD i 0=10):Jz t (i+1) (i+1) (done ++ [(t.drop s).take (i-s)]):=by
 obtain ⟨b,e,f,c,d⟩:=h
 refine ⟨Nat.le_refl _,hi,by simp;omega,?_,spX⟩
 have h:=congrArg (dM 10) (ZT b hi)
 rw [a,zk d] at h
 rw [c,List.append_assoc,h]
 rfl
theorem Jz.no {done:List Str} (h:Jz t s i done) (hi:i<t.length) (a:t.getD i 0≠10):Jz t s (i+1) done:=by
 obtain ⟨b,f,c,d,e⟩:=h
 refine ⟨omX,hi,c,d,?_⟩
 rw [Xm b hi,List.mem_append,List.mem_singleton]
 rintro (h|h)
 ·exact e h
 exact a h.symm
theorem Jz.end {done:List Str} (h:Jz t s t.length done):dM 10 t=done ++ [t.drop s]:=by
 obtain ⟨c,d,e,b,a⟩:=h
 rw [b,zi (by rw [List.take_of_length_le spX] at a;exact a)]
theorem Np (t:Str) (w:World) (A:t.length≤1000000) :
  Calls Tryz.prog 99 #[str t] w (Ret fun v w'=>vV w.heap.size (dM 10 t) v w'∧Ext w w'):=by
 refine aJ (vs:=[str t]) func99 Z ntmps99 Z ?_
 refine au (ah Z (au (ah Z (au (ah Z (aj (au (ah Z (T.block (?_))))))))))
 refine bf (σ:=(Nat × Nat × Value) × List Str) (fun g=>[(0,str t),(3,g.1.2.2),(4,.int .i64 g.1.1),(5,.int .i64 g.1.2.1)]) (fun g W=>Jz t g.1.1 g.1.2.1 g.2∧vV w.heap.size g.2 g.1.2.2 W∧Ext w W) (fun g=>t.length-g.1.2.1) (((0,0,.slice none 0 0),[])) ⟨rfl,rfl,rfl,rfl,trivial⟩ ⟨⟨Nat.le_refl _,Nat.zero_le _,Nat.le_refl _,rfl,spX⟩,iF _ _ _ _,Keep.refl _ _⟩ ?_
 rintro ⟨⟨s,i,lv⟩,done⟩ w1 ⟨b,a,c⟩
 simp only at b a
 obtain ⟨m,n,p,_,_⟩:=id b
 have q:done.length≤1000000:=by omega
 refine aj (au (aN Z Z (L.o (dB runUnderlying9 Z (bH Z Z (fun f=>?_) (fun f=>?_))))))
 ·refine ak (?_)
  have d:i<t.length:=by simp only at f;omega
  refine aZ (T.skip (aj (T.block (au (aN Z Z (L.o (eX runUnderlying9 Z Z d (dK Z Z (fun hb=>?_) (fun hb=>?_)))))))))
  ·refine ak (?_)
   have h:t.getD i 0=10:=UInt8.toNat_inj.1 (by simp only at hb;show (t.getD i 0).toNat=10;omega)
   refine aZ (au (aN Z Z (aN Z Z (L.o (qR runUnderlying9 Z Z Z (show s≤i by omega) (show i≤t.length by omega) (L.o (aH (el:=9) (parts:=[(0,.tmp 20)]) (vs:=[(0,_)]) (cs:=([(t.drop s).take (i-s)].map str)) Z (fun w=>by kernel_rfl) (fun r u afp ajg jv FK=>?_))))))))
   refine L.o (dJ (size:=1) (bytes:=16) runUnderlying61 Tryz.qp Z Z Z Z dcX rfl rfl (cO a (jv.mono lzX) leX) (Strs.bI (lo:=0) FK Z dcX lzX) (nD _) (by simp only [List.length_cons,List.length_nil,maxLen];omega) (by simp only [maxLen,List.length_cons,List.length_nil];omega) (by have:=c.size;have:=jv.size;omega) (fun j k afJ afK=>?_))
   have ajh:Ext w k:=Keep.jg (c.trans jv) (cO a (jv.mono lzX) leX) afK leX
   refine ah Z (aA (aO Z (bG Z Z (by simp only;omega) (ah Z (T.blk (aA (aO Z (bG Z Z (by simp only;omega) (ah Z (aP (((i+1,i+1,j),done ++ [(t.drop s).take (i-s)])) (show t.length-(i+1)<t.length-i by omega) ⟨rfl,rfl,rfl,rfl,trivial⟩ ⟨b.yes d h,qQ (ys:=[(t.drop s).take (i-s)]) afJ,ajh⟩))))))))))
  refine ak (?_)
  have h:t.getD i 0≠10:=fun e=>hb (by simp only;rw [e];rfl)
  refine bn (T.skip (T.blk (aA (aO Z (bG Z Z (by simp only;omega) (ah Z (aP (((s,i+1,lv),done)) (show t.length-(i+1)<t.length-i by omega) ⟨rfl,rfl,rfl,rfl,trivial⟩ ⟨b.no d h,a,c⟩)))))))
 refine ak (?_)
 obtain rfl:i=t.length:=by simp only at f;omega
 refine bn (aY Z (au (aN Z Z (aO Z (nS runUnderlying9 Z Z (Int.natCast_nonneg _) (show (s:Int).toNat≤t.length by omega) (L.o (aH (el:=9) (parts:=[(0,.tmp 28)]) (vs:=[(0,_)]) (cs:=([t.drop s].map str)) Z (fun w=>by kernel_rfl) (fun x y atC atD ahy Zb=>?_))))))))
 refine L.o (dJ (size:=1) (bytes:=16) runUnderlying61 Tryz.qp Z Z Z Z dcX rfl rfl (cO a (ahy.mono lzX) leX) (Strs.bI (lo:=0) Zb Z dcX lzX) (nD _) (by simp only [List.length_cons,List.length_nil,maxLen];omega) (by simp only [maxLen,List.length_cons,List.length_nil];omega) (by have:=c.size;have:=ahy.size;omega) (fun z l KZ Bg=>?_))
 have zT:Ext w l:=Keep.jg (c.trans ahy) (cO a (ahy.mono lzX) leX) Bg leX
 refine ah Z (aB results99 Z ⟨by rw [b.end];exact qQ (ys:=[t.drop s]) KZ,zT⟩)
theorem JA {d:Nat} (h:d<8):Lib.itoa ((d:Int)+1) = [UInt8.ofNat (49+d)]:=by
 rw [show (d:Int)+1=((d+1:Nat):Int) by omega,Lib.itoa_nonneg,yN omX,show 48+(d+1)=49+d by omega]
end Go.Proofs.YtnlonpcbgjbbaaaGreatDoor
