/-
  BlocksReads, part 12 of its proof: that it returns true for every input, and each argument reads behind the call as it read before. Conditions: the listed variables read as the program's text lays them (tied by the card).
-/
import Derived.Test.YtnlonpcbgjbbaaaGreatDoorWBlocksReads11
import Derived.Test.YtnlonpcbgjbbaaaGreatDoorWBlocksReads7
set_option linter.unusedVariables false
set_option linter.unusedSimpArgs false
set_option maxRecDepth 20000
set_option linter.unusedVariables false
set_option linter.unusedSimpArgs false
set_option maxRecDepth 20000
namespace Go.Proofs.YtnlonpcbgjbbaaaGreatDoor
open Go.Proofs.Tryz (call32 call82 call87 func34 func37 func87 isAgg23 isAgg25 isAgg3 isAgg30 isAgg4 isAgg44 isAgg46 isAgg51 isAgg9 ntmps34 ntmps37 ntmps87 results34 results37 results87 runUnderlying23 runUnderlying25 runUnderlying30 runUnderlying4 runUnderlying44 runUnderlying46 runUnderlying48 runUnderlying51 runUnderlying9 sizeOf23 sizeOf25 sizeOf3 sizeOf30 sizeOf4 sizeOf44 sizeOf46 sizeOf51 sizeOf9 zeroValue51)
open Go Go.E
attribute [local irreducible] Go.E.T Go.E.L Go.E.O Go.E.Ob
attribute [local irreducible] Go.E.ObX
theorem OZ {w:World} {base n sz b:Nat} {el t:TypeId} {v:Value} {xs cs:List Value} (h:w.ownsRow base el sz v n xs) (hb:Blk w b cs t) (he:el≠t):∀ j,v.ownBlock=some j→j≠b:=by
 intro j hj e
 subst e
 rcases h.2 with ⟨hv,_⟩|⟨g,cap,cur,hv,_,hg,_⟩
 ·subst hv;cases hj
 subst hv
 cases hj
 unfold Blk at hb
 rw [hg] at hb
 cases hb
 exact he rfl
open Go Go.E
theorem LP {xs ys:List Int} (hl:xs.length=ys.length) (h:∀ k,k<xs.length→xs.getD k 0=ys.getD k 0):xs=ys:=by
 refine List.ext_getElem hl fun k h1 h2=>?_
 have:=h k h1
 rw [au h1,au h2] at this
 exact this
theorem iG (lo lo2:Nat) (p q:Value) (xs ys:List Int) (w:World) (hp:Ints .i64 lo w p xs) (hq:Ints .i64 lo2 w q ys) :
  Calls Tryz.prog 87 #[p,q] w (Ret fun v w'=>v = .bool (decide (xs=ys))∧Ext w w'):=by
 have hle:=Sl.le hp
 refine T.enter (vs:=[p,q]) func87 rfl ntmps87 rfl ?_
 refine T.q (L.a rfl (L.nil (T.seq (T.q (L.m rfl (L.o (O.len runUnderlying30 rfl (Sl.val hp) (L.m rfl (L.o (O.len runUnderlying30 rfl (Sl.val hq) (L.o (O.gK rfl rfl (fun hl=>?_) (fun hl=>?_)))))))))))))
 ·refine L.nil (T.ct (T.q (L.a rfl (L.nil (T.aN results87 rfl ⟨by rw [decide_eq_false (fun h=>hl (by rw [h]))],Keep.refl _ _⟩)))))
 refine L.nil (?_)
 have hle2:xs.length=ys.length:=by omega
 refine T.cf (T.skip (T.seq (T.q (L.a rfl (L.nil (T.block (?_)))))))
 refine T.loop (σ:=Nat) (fun i=>[(0,p),(1,q),(5,.int .i64 i)]) (fun i w'=>i≤xs.length∧Ext w w'∧∀ k,k<i→xs.getD k 0=ys.getD k 0) (fun i=>xs.length-i) (0) ⟨rfl,rfl,rfl,trivial⟩ ⟨Nat.zero_le _,Keep.refl _ _,fun k hk=>absurd hk (Nat.not_lt_zero _)⟩ ?_
 rintro i w1 ⟨hi,he1,hall⟩
 have hp1:=hp.ext he1
 have hq1:=hq.ext he1
 refine T.seq (T.q (L.m rfl (L.m rfl (L.o (O.len runUnderlying30 rfl (Sl.val hp1) (L.o (O.aV rfl rfl (fun hlt=>?_) (fun hlt=>?_))))))))
 ·refine L.nil (?_)
  have hlt':i<xs.length:=by omega
  refine T.ct (T.skip (T.seq (T.block (T.seq (?_)))))
  refine T.dL mixed 8 [0,5,1] rfl [.is _,.is _,.is _,.is _,.is _,.is _,.is _,.is _] [[],[],[0,1],[2],[],[],[4,5],[6]] [[],[],[0,1],[0,1,2],[],[],[4,5],[4,5,6],[0,1,2,3,4,5,6,7]] (by kernel_rfl) (by kernel_rfl) rfl (by kernel_rfl) trivial ⟨fun wx hx=>Ob.o (O.move rfl kR),
    fun wx hx=>Ob.o (O.move rfl kR),
    fun wx hx=>Ob.o (O.indexAddr runUnderlying30 sizeOf3 rfl rfl (hp1.ext hx) (by omega) (by omega) kR),
    fun wx hx=>Ob.o (O.load isAgg3 rfl (Ints.at (hp1.ext hx) hlt') kR),
    fun wx hx=>Ob.o (O.move rfl kR),
    fun wx hx=>Ob.o (O.move rfl kR),
    fun wx hx=>Ob.o (O.indexAddr runUnderlying30 sizeOf3 rfl rfl (hq1.ext hx) (by omega) (by omega) kR),
    fun wx hx=>Ob.o (O.load isAgg3 rfl (Ints.at (hq1.ext hx) (show i<ys.length by omega)) kR),
    trivial⟩ (fun w2 he2=>?_)
  refine L.o (O.gK rfl rfl (fun hne=>?_) (fun hne=>?_))
  ·refine L.nil (T.ct (T.q (L.a rfl (L.nil (T.aN results87 rfl ⟨by rw [decide_eq_false (fun h=>hne (by rw [h]))],he1.trans he2⟩)))))
  refine L.nil (T.cf (T.skip (T.blk (T.region (L.m rfl (L.o (O.aC rfl rfl (by omega) (L.a rfl (L.nil (T.again (i+1) (by omega) ⟨rfl,rfl,rfl,trivial⟩ ⟨hlt',he1.trans he2,fun k hk=>?_⟩))))))))))
  ·by_cases e:k=i
   ·subst e;omega
   exact hall k (by omega)
 refine L.nil (?_)
 obtain rfl:i=xs.length:=by omega
 refine T.cf (T.exit rfl (T.q (L.a rfl (L.nil (T.aN results87 rfl ⟨by rw [decide_eq_true (LP hle2 hall)],he1⟩)))))
open Go Go.E
def UB (base:Nat) (v:Value) (w:World):Prop:=∃ b u,v = .pointer (some ⟨b,0,none⟩)∧base≤b∧Blk w b (UnV.cells u) 51
theorem UB.lt {base:Nat} {v:Value} {w:World} (h:UB base v w):∀ b,zW v=some b→b<w.heap.size:=fun b hb=>by
 obtain ⟨b',c,rfl,_,h2⟩:=h
 cases hb;exact h2.lt
structure CX (base:Nat) (a:List Value) (w w':World):Prop where
 own:∀ b u,base≤b→Blk w b (UnV.cells u) 51→∃ u',Blk w' b (UnV.cells u') 51∧(UnV.cells u=a→UnV.cells u'=a)
theorem CX.aW {base:Nat} {a:List Value} {w w':World} (h:Ext w w'):CX base a w w':=⟨fun b c _ hB=>⟨c,Blk.ext (cs:=c.cells) hB h,id⟩⟩
theorem CX.upd {base:Nat} {u:UnV} {b:Nat} {w w':World} (hu:Upd b w w') (hB:Blk w' b u.cells 51):CX base u.cells w w':=⟨fun b' c _ hB'=>by
 by_cases e:b'=b
 ·subst e;exact ⟨u,hB,fun _=>rfl⟩
 exact ⟨c,Blk.upd (cs:=c.cells) hB' hu e,id⟩⟩
theorem UB.st {base:Nat} {a:List Value} : ∀ v w w',CX base a w w'→UB base v w→UB base v w':=fun v w w' h ⟨b,c,h1,h2,h3⟩=>by
 obtain ⟨c',k1,_⟩:=h.own b c h2 h3
 exact ⟨b,c',h1,h2,k1⟩
theorem SY {a b:RoV} (h:a.G≠b.G):vw a b=false:=by simp [vw,h]
theorem S9 {a b:RoV} (h:a.P≠b.P):vw a b=false:=by simp [vw,h]
theorem Tc {a b:RoV} (h:a.L≠b.L):vw a b=false:=by simp [vw,h]
theorem gY {a b:RoV} (h:¬ Eu a.us b.us):vw a b=false:=by simp [vw,Oh h]
theorem O0 {a b:RoV} (h1:a.G=b.G) (h2:a.P=b.P) (h3:a.L=b.L) (h:Eu a.us b.us):vw a b=true:=by simp [vw,h1,h2,h3,KY h]
set_option maxHeartbeats 2000000 in
theorem xI (lo lo':Nat) (a b:RoV) (w:World) (ha:a.ok lo w) (hb:b.ok lo' w) :
  Calls Tryz.prog 37 #[a.val,b.val] w (Ret fun v w'=>v = .bool (vw a b)∧Ext w w'):=by
 have ha:Units lo w a.uv a.us:=ha
 have hb:Units lo' w b.uv b.us:=hb
 refine T.enter (vs:=[a.val,b.val]) func37 rfl ntmps37 rfl ?_
 refine T.q (L.o (O.box rfl (fun b2 w2 hb2 hz2 he2 hB2=>?_)))
 refine L.o (O.box rfl (fun b3 w3 hb3 hz3 he3 hB3=>?_))
 have he:=he2.trans he3
 have hC1:Blk w3 b2 a.cells 25:=Blk.ext (cs:=a.cells) hB2 he3
 have hC2:Blk w3 b3 b.cells 25:=hB3
 have ha3:=ha.ext he
 have hb3:=hb.ext he
 have hla:=Sl.le ha3.sl
 refine L.a rfl (L.nil (T.seq (T.q (L.o (O.fieldAddr runUnderlying25 rfl sizeOf3 rfl (L.o (O.load isAgg3 rfl (hC1.cell rfl) (L.o (O.fieldAddr runUnderlying25 rfl sizeOf3 rfl (L.o (O.load isAgg3 rfl (hC2.cell rfl) (L.o (O.gK rfl rfl (fun g1=>?_) (fun g1=>?_))))))))))))))
 ·refine L.m rfl (L.p (L.p (L.p (L.p (L.p (L.o (O.aj rfl rfl (L.m rfl (L.p (L.p (L.p (L.p (L.p (L.o (O.aj rfl rfl (L.m rfl (L.p (L.p (L.p (L.p (L.p (L.p (L.p (L.o (O.aj rfl rfl (L.nil (?_)))))))))))))))))))))))))))
  refine T.ct (T.q (L.a rfl (L.nil (T.aN results37 rfl ⟨by rw [SY g1],he⟩))))
 refine L.m rfl (L.o (O.fieldAddr runUnderlying25 rfl sizeOf3 rfl (L.o (O.load isAgg3 rfl (hC1.cell rfl) (L.o (O.fieldAddr runUnderlying25 rfl sizeOf3 rfl (L.o (O.load isAgg3 rfl (hC2.cell rfl) (L.o (O.gK rfl rfl (fun g2=>?_) (fun g2=>?_)))))))))))
 ·refine L.o (O.ah rfl rfl (L.m rfl (L.p (L.p (L.p (L.p (L.p (L.o (O.aj rfl rfl (L.m rfl (L.p (L.p (L.p (L.p (L.p (L.p (L.p (L.o (O.aj rfl rfl (L.nil (T.ct (T.q (L.a rfl (L.nil (T.aN results37 rfl ⟨by rw [S9 g2],he⟩)))))))))))))))))))))))))
 refine L.o (O.ah rfl rfl (L.m rfl (L.o (O.fieldAddr runUnderlying25 rfl sizeOf3 rfl (L.o (O.load isAgg3 rfl (hC1.cell rfl) (L.o (O.fieldAddr runUnderlying25 rfl sizeOf3 rfl (L.o (O.load isAgg3 rfl (hC2.cell rfl) (L.o (O.gK rfl rfl (fun g3=>?_) (fun g3=>?_)))))))))))))
 ·refine L.o (O.ah rfl rfl (L.m rfl (L.p (L.p (L.p (L.p (L.p (L.p (L.p (L.o (O.aj rfl rfl (L.nil (T.ct (T.q (L.a rfl (L.nil (T.aN results37 rfl ⟨by rw [Tc g3],he⟩)))))))))))))))))
 refine L.o (O.ah rfl rfl (L.m rfl (L.o (O.fieldAddr runUnderlying25 rfl sizeOf23 rfl (L.o (O.load isAgg23 rfl (hC1.cell rfl) (L.o (O.len runUnderlying23 rfl (Sl.val ha3.sl) (L.o (O.fieldAddr runUnderlying25 rfl sizeOf23 rfl (L.o (O.load isAgg23 rfl (hC2.cell rfl) (L.o (O.len runUnderlying23 rfl (Sl.val hb3.sl) (L.o (O.gK rfl rfl (fun g4=>?_) (fun g4=>?_)))))))))))))))))
 ·refine L.o (O.ah rfl rfl (L.nil (T.ct (T.q (L.a rfl (L.nil (T.aN results37 rfl ⟨by rw [gY (fun h=>g4 (by rw [h.1]))],he⟩)))))))
 have hlen:a.us.length=b.us.length:=by omega
 refine L.o (O.ah rfl rfl (L.nil (T.cf (T.skip (T.seq (T.q (L.a rfl (L.nil (T.block (?_))))))))))
 refine T.loop (σ:=Nat) (fun i=>[(2,.pointer (some ⟨b2,0,none⟩)),(3,.pointer (some ⟨b3,0,none⟩)),(5,.int .i64 i)]) (fun i w'=>i≤a.us.length∧Ext w3 w'∧∀ k,k<i→RD (a.us.getD k u0) (b.us.getD k u0)=true) (fun i=>a.us.length-i) (0) ⟨rfl,rfl,rfl,trivial⟩ ⟨Nat.zero_le _,Keep.refl _ _,fun k hk=>absurd hk (Nat.not_lt_zero _)⟩ ?_
 rintro i w4 ⟨hi,he4,hall⟩
 have hA4:=Blk.ext (cs:=a.cells) hC1 he4
 have hB4:=Blk.ext (cs:=b.cells) hC2 he4
 have ha4:=ha3.ext he4
 have hb4:=hb3.ext he4
 refine T.seq (T.q (L.m rfl (L.o (O.fieldAddr runUnderlying25 rfl sizeOf23 rfl (L.o (O.load isAgg23 rfl (hA4.cell rfl) (L.o (O.len runUnderlying23 rfl (Sl.val ha4.sl) (L.o (O.aV rfl rfl (fun hlt=>?_) (fun hlt=>?_)))))))))))
 ·refine L.nil (?_)
  have hlt':i<a.us.length:=by omega
  have hlt2:i<b.us.length:=by omega
  refine T.ct (T.skip (T.seq (T.block (T.seq (?_)))))
  refine T.Vr mixed 13 1 [2,5,3] rfl [.is _,.is _,.is _,.is _,.is _,.is _,.is _,.is _,.is _,.is _,.such (UB w4.heap.size),.such (UB w4.heap.size),.is undef] [[],[0],[],[1,2],[3],[],[5],[],[6,7],[8],[],[],[10,4]] [none,none,none,none,none,none,none,none,none,none,none,none,some 0] [[],[0],[],[0,1,2],[0,1,2,3],[],[5],[],[5,6,7],[5,6,7,8],[],[],[0,1,2,3,4,10,11],[0,1,2,3,4,5,6,7,8,9,10,11,12]] [10,11] [(12,10,6)] (fun _ _ u _ W=>∃ b,u = .pointer (some ⟨b,0,none⟩)∧w4.heap.size≤b∧Blk W b (a.us.getD i u0).cells 51) (fun _ W=>Ext w4 W) (CX w4.heap.size (a.us.getD i u0).cells) (fun i f v w hi hf hh=>by { rcases (show i=10∨i=11 by simpa using hi) with rfl|rfl <;> (simp only [List.getElem?_cons_succ,List.getElem?_cons_zero,Option.some.injEq] at hf;subst hf;exact UB.lt hh) }) (fun i j vi vj W W' hr ⟨b,h1,h2,h3⟩=>(hr.own b _ h2 h3).elim fun c' k=>⟨b,h1,h2,(k.2 rfl)▸k.1⟩) (by kernel_rfl) (by kernel_rfl) (by kernel_rfl) (by kernel_rfl) rfl ⟨UB.st,UB.st,trivial⟩ (Keep.drew _ _) ⟨fun c wx hx=>ObX.op rfl (O.fieldAddr runUnderlying25 rfl sizeOf23 rfl ⟨⟨CX.aW (Keep.refl _ _),hx⟩,rfl,trivial,trivial⟩),
    fun c wx hx=>ObX.op rfl (O.load isAgg23 rfl ((Blk.ext (cs:=a.cells) hA4 hx).cell rfl) ⟨⟨CX.aW (Keep.refl _ _),hx⟩,rfl,trivial,trivial⟩),
    fun c wx hx=>ObX.op rfl (O.move rfl ⟨⟨CX.aW (Keep.refl _ _),hx⟩,rfl,trivial,trivial⟩),
    fun c wx hx=>ObX.op rfl (O.indexAddr runUnderlying23 sizeOf51 rfl rfl ((ha4.ext hx).sl) (by omega) (by omega) ⟨⟨CX.aW (Keep.refl _ _),hx⟩,rfl,trivial,trivial⟩),
    fun c wx hx=>ObX.op rfl (O.ak isAgg51 sizeOf51 rfl rfl ((ha4.ext hx).row hlt') ⟨⟨CX.aW (Keep.refl _ _),hx⟩,rfl,trivial,trivial⟩),
    fun c wx hx=>ObX.op rfl (O.fieldAddr runUnderlying25 rfl sizeOf23 rfl ⟨⟨CX.aW (Keep.refl _ _),hx⟩,rfl,trivial,trivial⟩),
    fun c wx hx=>ObX.op rfl (O.load isAgg23 rfl ((Blk.ext (cs:=b.cells) hB4 hx).cell rfl) ⟨⟨CX.aW (Keep.refl _ _),hx⟩,rfl,trivial,trivial⟩),
    fun c wx hx=>ObX.op rfl (O.move rfl ⟨⟨CX.aW (Keep.refl _ _),hx⟩,rfl,trivial,trivial⟩),
    fun c wx hx=>ObX.op rfl (O.indexAddr runUnderlying23 sizeOf51 rfl rfl ((hb4.ext hx).sl) (by omega) (by omega) ⟨⟨CX.aW (Keep.refl _ _),hx⟩,rfl,trivial,trivial⟩),
    fun c wx hx=>ObX.op rfl (O.ak isAgg51 sizeOf51 rfl rfl ((hb4.ext hx).row hlt2) ⟨⟨CX.aW (Keep.refl _ _),hx⟩,rfl,trivial,trivial⟩),
    fun c wx hx=>ObX.op rfl (O.alloc zeroValue51 (fun b wy hb hz he hB=>Rq ⟨⟨CX.aW he,hx.trans he⟩,b,u0,rfl,by have:=hx.size;omega,hB⟩ ⟨fun q hq=>by { cases hq;exact Nat.le_of_eq hb.symm },trivial⟩)),
    fun c wx hx=>ObX.op rfl (O.alloc zeroValue51 (fun b wy hb hz he hB=>Rq ⟨⟨CX.aW he,hx.trans he⟩,b,u0,rfl,by have:=hx.size;omega,hB⟩ ⟨fun q hq=>by { cases hq;exact Nat.le_of_eq hb.symm },trivial⟩)),
    fun wx hx v6 hv6=>by { obtain ⟨b5,c5,rfl,hb5,hB5⟩:=hv6;exact ObX.op rfl (O.aF sizeOf51 rfl rfl rfl hB5 (Nat.le_refl _) (ha4.at hlt').one (fun w80 ae9 afa=>Rq ⟨⟨CX.upd ae9 afa,hx.upd ae9 (.inr hb5)⟩,rfl⟩ ⟨trivial,fun u hu=>by { cases hu;exact ⟨b5,rfl,hb5,afa⟩ }⟩)) },
    trivial⟩ (fun w7 hI7 v6 hv6 v7 hv7 hp7=>?_)
  obtain ⟨vj,hvj,hfr,_⟩:=hp7 10 11 _ _ _ _ (by decide) (by decide) rfl rfl rfl rfl
  obtain rfl:=hvj _ _ rfl rfl
  obtain ⟨_,_,_,hlk⟩:=hp7 10 12 _ _ _ _ (by decide) (by decide) rfl rfl rfl rfl
  obtain ⟨b5,rfl,hb5,hB5⟩:=hlk rfl
  obtain ⟨b6,c6,rfl,hb6,hB6⟩:=hv7
  have hne:b5≠b6:=fun e=>hfr b5 rfl (by rw [e];rfl)
  refine L.o (O.aF sizeOf51 rfl rfl rfl hB6 (Nat.le_refl _) (hb4.at hlt2).one (fun w81 afb ahq=>?_))
  obtain ⟨u,hu⟩:∃ u,u=a.us.getD i u0:=⟨_,rfl⟩
  obtain ⟨v,hv⟩:∃ v,v=b.us.getD i u0:=⟨_,rfl⟩
  have JV:Ext w4 w81:=hI7.upd afb (.inr hb6)
  have hU:Blk w81 b5 u.cells 51:=by rw [hu];exact Blk.upd (cs:=(a.us.getD i u0).cells) hB5 afb hne
  have hV:Blk w81 b6 v.cells 51:=by rw [hv];exact ahq
  have huo:=(ha4.at hlt').ext JV
  have hvo:=(hb4.at hlt2).ext JV
  rw [← hu] at huo
  rw [← hv] at hvo
  refine L.nil (T.q (L.o (O.fieldAddr runUnderlying51 rfl sizeOf9 rfl (L.o (O.load isAgg9 rfl (hU.cell rfl) (L.o (O.fieldAddr runUnderlying51 rfl sizeOf9 rfl (L.o (O.load isAgg9 rfl (hV.cell rfl) (L.o (O.Ec runUnderlying9 rfl rfl (fun n1=>?_) (fun n1=>?_))))))))))))
  ·refine L.m rfl (L.p (L.p (L.p (L.p (L.p (L.o (O.aj rfl rfl (L.m rfl (L.p (L.p (L.p (L.p (L.p (L.o (O.aj rfl rfl (L.m rfl (L.p (L.p (L.p (L.p (L.p (L.p (L.o (O.aj rfl rfl (L.m rfl (L.p (?_)))))))))))))))))))))))))))
   refine L.p (L.p (L.p (L.p (L.p (L.o (O.aj rfl rfl (L.m rfl (L.p (L.p (L.p (L.p (L.p (L.p (L.o (O.aj rfl rfl (L.nil (T.ct (T.q (L.a rfl (L.nil (T.aN results37 rfl ⟨by rw [gY (fun h=>by have:=h.2 i hlt';rw [← hu,← hv,dH] at this;exact n1 this.1)],he.trans (he4.trans JV)⟩)))))))))))))))))))))
  refine L.m rfl (L.o (O.fieldAddr runUnderlying51 rfl sizeOf3 rfl (L.o (O.load isAgg3 rfl (hU.cell rfl) (L.o (O.fieldAddr runUnderlying51 rfl sizeOf3 rfl (L.o (O.load isAgg3 rfl (hV.cell rfl) (L.o (O.gK rfl rfl (fun n2=>?_) (fun n2=>?_)))))))))))
  ·refine L.o (O.ah rfl rfl (L.m rfl (L.p (L.p (L.p (L.p (L.p (L.o (O.aj rfl rfl (L.m rfl (L.p (L.p (L.p (L.p (L.p (L.p (L.o (O.aj rfl rfl (L.m rfl (L.p (L.p (L.p (L.p (L.p (L.p (L.o (O.aj rfl rfl (?_))))))))))))))))))))))))))))
   refine L.m rfl (L.p (L.p (L.p (L.p (L.p (L.p (L.o (O.aj rfl rfl (L.nil (T.ct (T.q (L.a rfl (L.nil (T.aN results37 rfl ⟨by rw [gY (fun h=>by have:=h.2 i hlt';rw [← hu,← hv,dH] at this;exact n2 (this.2.1))],he.trans (he4.trans JV)⟩))))))))))))))
  refine L.o (O.ah rfl rfl (L.m rfl (L.o (O.fieldAddr runUnderlying51 rfl sizeOf4 rfl (L.o (O.load isAgg4 rfl (hU.cell rfl) (L.o (O.fieldAddr runUnderlying51 rfl sizeOf4 rfl (L.o (O.load isAgg4 rfl (hV.cell rfl) (?_)))))))))))
  rcases hw1:u.wt with _|_ <;> rcases hw2:v.wt with _|_
  ·refine L.o (O.vW runUnderlying4 rfl rfl (L.o (O.ah rfl rfl (L.m rfl (L.o (O.fieldAddr runUnderlying51 rfl sizeOf30 rfl (L.o (O.load isAgg30 rfl (hU.cell rfl) (L.o (O.fieldAddr runUnderlying51 rfl sizeOf30 rfl (L.o (O.load isAgg30 rfl (hV.cell rfl) (L.o (O.call (xs:=[.tmp 74,.tmp 76]) call87 rfl rfl (iG lo lo' u.gv v.gv u.gs v.gs w81 huo.g hvo.g) (fun v90 w90 hq=>?_)))))))))))))))
   obtain ⟨hv90,vH⟩:=hq
   rcases hq0:decide (u.gs=v.gs) with _|_
   ·rw [hq0] at hv90
    subst hv90
    refine L.o (O.not rfl (L.o (O.ah rfl rfl (L.m rfl (L.p (L.p (L.p (L.p (L.p (L.p (L.o (O.aj rfl rfl (L.m rfl (L.p (L.p (L.p (L.p (L.p (L.p (L.o (O.aj rfl rfl (L.nil (T.ct (T.q (L.a rfl (L.nil (?_)))))))))))))))))))))))))))
    refine T.aN results37 rfl ⟨by rw [gY (fun h=>by have:=h.2 i hlt';rw [← hu,← hv,dH] at this;exact of_decide_eq_false hq0 (this.2.2.2.1))],he.trans (he4.trans (JV.trans vH))⟩
   rw [hq0] at hv90
   subst hv90
   refine L.o (O.not rfl (L.o (O.ah rfl rfl (L.m rfl (L.o (O.fieldAddr runUnderlying51 rfl sizeOf30 rfl (L.o (O.load isAgg30 rfl ((Blk.ext (cs:=u.cells) hU vH).cell rfl) (L.o (O.fieldAddr runUnderlying51 rfl sizeOf30 rfl (L.o (O.load isAgg30 rfl ((Blk.ext (cs:=v.cells) hV vH).cell rfl) (L.o (O.call (xs:=[.tmp 82,.tmp 84]) call87 rfl rfl (iG lo lo' u.vv v.vv u.vs v.vs w90 (huo.ext vH).v (hvo.ext vH).v) (fun v91 w91 hq=>?_)))))))))))))))
   obtain ⟨hv91,IB⟩:=hq
   rcases hq1:decide (u.vs=v.vs) with _|_
   ·rw [hq1] at hv91
    subst hv91
    refine L.o (O.not rfl (L.o (O.ah rfl rfl (L.m rfl (L.p (L.p (L.p (L.p (L.p (L.p (L.o (O.aj rfl rfl (L.nil (T.ct (T.q (L.a rfl (L.nil (T.aN results37 rfl ⟨by rw [gY (fun h=>by have:=h.2 i hlt';rw [← hu,← hv,dH] at this;exact of_decide_eq_false hq1 (this.2.2.2.2.1))],he.trans (he4.trans (JV.trans (vH.trans IB)))⟩))))))))))))))))))
   rw [hq1] at hv91
   subst hv91
   refine L.o (O.not rfl (L.o (O.ah rfl rfl (L.m rfl (L.o (O.fieldAddr runUnderlying51 rfl sizeOf30 rfl (L.o (O.load isAgg30 rfl ((Blk.ext (cs:=u.cells) hU (vH.trans IB)).cell rfl) (L.o (O.fieldAddr runUnderlying51 rfl sizeOf30 rfl (L.o (O.load isAgg30 rfl ((Blk.ext (cs:=v.cells) hV (vH.trans IB)).cell rfl) (L.o (O.call (xs:=[.tmp 90,.tmp 92]) call87 rfl rfl (iG lo lo' u.pv v.pv u.ps v.ps w91 (huo.ext (vH.trans IB)).p (hvo.ext (vH.trans IB)).p) (fun v92 w92 hq=>?_)))))))))))))))
   obtain ⟨Td,Zc⟩:=hq
   rcases hq2:decide (u.ps=v.ps) with _|_
   ·rw [hq2] at Td
    subst Td
    refine L.o (O.not rfl (L.o (O.ah rfl rfl (L.nil (T.ct (T.q (L.a rfl (L.nil (T.aN results37 rfl ⟨by rw [gY (fun h=>by have:=h.2 i hlt';rw [← hu,← hv,dH] at this;exact of_decide_eq_false hq2 (this.2.2.2.2.2))],he.trans (he4.trans (JV.trans ((vH.trans IB).trans Zc)))⟩)))))))))
   rw [hq2] at Td
   subst Td
   refine L.o (O.not rfl (L.o (O.ah rfl rfl (L.nil (T.cf (T.skip (T.blk (T.region (L.m rfl (L.o (O.aC rfl rfl (by omega) (L.a rfl (L.nil (T.again (i+1) (by omega) ⟨rfl,rfl,rfl,trivial⟩ ⟨hlt',he4.trans (JV.trans ((vH.trans IB).trans Zc)),fun k hk=>?_⟩))))))))))))))
   ·by_cases ek:k=i
    ·subst ek;rw [← hu,← hv,dH]
     exact ⟨n1,n2,by rw [hw1,hw2],of_decide_eq_true hq0,of_decide_eq_true hq1,of_decide_eq_true hq2⟩
    exact hall k (by omega)
  ·refine L.o (O.vW runUnderlying4 rfl rfl (L.o (O.ah rfl rfl (L.m rfl (L.p (L.p (L.p (L.p (L.p (L.p (L.o (O.aj rfl rfl (L.m rfl (L.p (L.p (L.p (L.p (L.p (L.p (L.o (O.aj rfl rfl (L.m rfl (L.p (L.p (L.p (L.p (L.p (?_))))))))))))))))))))))))))))
   refine L.p (L.o (O.aj rfl rfl (L.nil (T.ct (T.q (L.a rfl (L.nil (T.aN results37 rfl ⟨by rw [gY (fun h=>by have:=h.2 i hlt';rw [← hu,← hv,dH] at this;exact by rw [hw1,hw2] at this;exact absurd this.2.2.1 (by decide))],he.trans (he4.trans JV)⟩))))))))
  ·refine L.o (O.vW runUnderlying4 rfl rfl (L.o (O.ah rfl rfl (L.m rfl (L.p (L.p (L.p (L.p (L.p (L.p (L.o (O.aj rfl rfl (L.m rfl (L.p (L.p (L.p (L.p (L.p (L.p (L.o (O.aj rfl rfl (L.m rfl (L.p (L.p (L.p (L.p (L.p (?_))))))))))))))))))))))))))))
   refine L.p (L.o (O.aj rfl rfl (L.nil (T.ct (T.q (L.a rfl (L.nil (T.aN results37 rfl ⟨by rw [gY (fun h=>by have:=h.2 i hlt';rw [← hu,← hv,dH] at this;exact by rw [hw1,hw2] at this;exact absurd this.2.2.1 (by decide))],he.trans (he4.trans JV)⟩))))))))
  refine L.o (O.vW runUnderlying4 rfl rfl (L.o (O.ah rfl rfl (L.m rfl (L.o (O.fieldAddr runUnderlying51 rfl sizeOf30 rfl (L.o (O.load isAgg30 rfl (hU.cell rfl) (L.o (O.fieldAddr runUnderlying51 rfl sizeOf30 rfl (L.o (O.load isAgg30 rfl (hV.cell rfl) (L.o (O.call (xs:=[.tmp 74,.tmp 76]) call87 rfl rfl (iG lo lo' u.gv v.gv u.gs v.gs w81 huo.g hvo.g) (fun v90 w90 hq=>?_)))))))))))))))
  obtain ⟨hv90,vH⟩:=hq
  rcases hq0:decide (u.gs=v.gs) with _|_
  ·rw [hq0] at hv90
   subst hv90
   refine L.o (O.not rfl (L.o (O.ah rfl rfl (L.m rfl (L.p (L.p (L.p (L.p (L.p (L.p (L.o (O.aj rfl rfl (L.m rfl (L.p (L.p (L.p (L.p (L.p (L.p (L.o (O.aj rfl rfl (L.nil (T.ct (T.q (L.a rfl (L.nil (?_)))))))))))))))))))))))))))
   refine T.aN results37 rfl ⟨by rw [gY (fun h=>by have:=h.2 i hlt';rw [← hu,← hv,dH] at this;exact of_decide_eq_false hq0 (this.2.2.2.1))],he.trans (he4.trans (JV.trans vH))⟩
  rw [hq0] at hv90
  subst hv90
  refine L.o (O.not rfl (L.o (O.ah rfl rfl (L.m rfl (L.o (O.fieldAddr runUnderlying51 rfl sizeOf30 rfl (L.o (O.load isAgg30 rfl ((Blk.ext (cs:=u.cells) hU vH).cell rfl) (L.o (O.fieldAddr runUnderlying51 rfl sizeOf30 rfl (L.o (O.load isAgg30 rfl ((Blk.ext (cs:=v.cells) hV vH).cell rfl) (L.o (O.call (xs:=[.tmp 82,.tmp 84]) call87 rfl rfl (iG lo lo' u.vv v.vv u.vs v.vs w90 (huo.ext vH).v (hvo.ext vH).v) (fun v91 w91 hq=>?_)))))))))))))))
  obtain ⟨hv91,IB⟩:=hq
  rcases hq1:decide (u.vs=v.vs) with _|_
  ·rw [hq1] at hv91
   subst hv91
   refine L.o (O.not rfl (L.o (O.ah rfl rfl (L.m rfl (L.p (L.p (L.p (L.p (L.p (L.p (L.o (O.aj rfl rfl (L.nil (T.ct (T.q (L.a rfl (L.nil (T.aN results37 rfl ⟨by rw [gY (fun h=>by have:=h.2 i hlt';rw [← hu,← hv,dH] at this;exact of_decide_eq_false hq1 (this.2.2.2.2.1))],he.trans (he4.trans (JV.trans (vH.trans IB)))⟩))))))))))))))))))
  rw [hq1] at hv91
  subst hv91
  refine L.o (O.not rfl (L.o (O.ah rfl rfl (L.m rfl (L.o (O.fieldAddr runUnderlying51 rfl sizeOf30 rfl (L.o (O.load isAgg30 rfl ((Blk.ext (cs:=u.cells) hU (vH.trans IB)).cell rfl) (L.o (O.fieldAddr runUnderlying51 rfl sizeOf30 rfl (L.o (O.load isAgg30 rfl ((Blk.ext (cs:=v.cells) hV (vH.trans IB)).cell rfl) (L.o (O.call (xs:=[.tmp 90,.tmp 92]) call87 rfl rfl (iG lo lo' u.pv v.pv u.ps v.ps w91 (huo.ext (vH.trans IB)).p (hvo.ext (vH.trans IB)).p) (fun v92 w92 hq=>?_)))))))))))))))
  obtain ⟨Td,Zc⟩:=hq
  rcases hq2:decide (u.ps=v.ps) with _|_
  ·rw [hq2] at Td
   subst Td
   refine L.o (O.not rfl (L.o (O.ah rfl rfl (L.nil (T.ct (T.q (L.a rfl (L.nil (T.aN results37 rfl ⟨by rw [gY (fun h=>by have:=h.2 i hlt';rw [← hu,← hv,dH] at this;exact of_decide_eq_false hq2 (this.2.2.2.2.2))],he.trans (he4.trans (JV.trans ((vH.trans IB).trans Zc)))⟩)))))))))
  rw [hq2] at Td
  subst Td
  refine L.o (O.not rfl (L.o (O.ah rfl rfl (L.nil (T.cf (T.skip (T.blk (T.region (L.m rfl (L.o (O.aC rfl rfl (by omega) (L.a rfl (L.nil (T.again (i+1) (by omega) ⟨rfl,rfl,rfl,trivial⟩ ⟨hlt',he4.trans (JV.trans ((vH.trans IB).trans Zc)),fun k hk=>?_⟩))))))))))))))
  ·by_cases ek:k=i
   ·subst ek;rw [← hu,← hv,dH]
    exact ⟨n1,n2,by rw [hw1,hw2],of_decide_eq_true hq0,of_decide_eq_true hq1,of_decide_eq_true hq2⟩
   exact hall k (by omega)
 refine L.nil (T.cf (T.exit rfl (T.q (L.a rfl (L.nil (T.aN results37 rfl ⟨by rw [O0 g1 g2 g3 ⟨hlen,fun j hj=>hall j (by omega)⟩],he.trans he4⟩))))))
open Go Go.E
def gZ (c:CxV) (r:RoV):List Value:=[c.pv,c.fv,.int .i64 r.G,.int .i64 r.P,.int .i64 r.L,r.uv]
noncomputable def fE (c:CxV) (r:RoV) (bad:Bool):Int:=if bad then 150 else if dG r≠0 then dG r else if r.us.length≠c.fs.length then 160 else 0
theorem uO (lo:Nat) (c:CxV) (r:RoV) (w:World) (hc:c.ok lo w) (hr:r.ok lo w) :
  Calls Tryz.prog 34 #[.agg (gZ c r).toArray] w (Ret fun v w'=>v = .int .i64 (fE c r (dZ c))∧Ext w w'):=by
 have hr:Units lo w r.uv r.us:=hr
 refine T.enter (vs:=[.agg (gZ c r).toArray]) func34 rfl ntmps34 rfl ?_
 refine T.q (L.o (O.box rfl (fun b1 w1 hb1 hz1 he1 hB1=>?_)))
 have hL:Blk w1 b1 (gZ c r) 48:=hB1
 refine L.a rfl (L.nil (T.seq (T.q (L.o (O.fieldAddr runUnderlying48 rfl sizeOf46 rfl (L.o (O.ak isAgg46 sizeOf46 rfl rfl ((Row.ay hL).part 0 2) (L.o (O.call (xs:=[.tmp 6]) call82 rfl rfl (Iz lo c w1 (hc.ext he1)) (fun v2 w2 hq=>?_))))))))))
 obtain ⟨hv2,he2⟩:=hq
 cases hb:dZ c
 ·rw [hb] at hv2
  subst hv2
  refine L.a rfl (L.nil (T.q (L.m rfl (L.o (O.jD rfl rfl (by decide) (?_))))))
  have hL2:=Blk.ext (cs:=gZ c r) hL he2
  have wu:=he1.trans he2
  refine L.nil (T.cf (T.skip (T.seq (T.q (L.o (O.fieldAddr runUnderlying48 rfl sizeOf25 rfl (L.o (O.ak isAgg25 sizeOf25 rfl rfl ((Row.ay hL2).part 2 4) (L.o (O.call (xs:=[.tmp 12]) call32 rfl rfl (mJ lo r w2 (hr.ext wu)) (fun v3 w3 hq=>?_)))))))))))
  obtain ⟨hv3,he3⟩:=hq
  subst hv3
  have hL3:=Blk.ext (cs:=gZ c r) hL2 he3
  have gV:=wu.trans he3
  refine L.a rfl (L.nil (T.q (L.m rfl (L.o (O.gK rfl rfl (fun hre=>?_) (fun hre=>?_))))))
  ·refine L.nil (T.ct (T.q (L.m rfl (L.a rfl (L.nil (T.aN results34 rfl ⟨by simp [fE,hre],gV⟩))))))
  refine L.nil (T.cf (T.skip (T.seq (T.q (L.o (O.fieldAddr runUnderlying48 rfl sizeOf25 rfl (L.o (O.fieldAddr runUnderlying25 rfl sizeOf23 rfl (L.o (O.load isAgg23 rfl (hL3.cell rfl) (L.o (O.len runUnderlying23 rfl (Sl.val ((hr.ext gV).sl)) (L.o (O.fieldAddr runUnderlying48 rfl sizeOf46 rfl (L.o (O.fieldAddr runUnderlying46 rfl sizeOf44 rfl (L.o (O.load isAgg44 rfl (hL3.cell rfl) (L.o (O.len runUnderlying44 rfl (Sl.val ((hc.ext gV).sl)) (L.o (O.gK rfl rfl (fun hne=>?_) (fun hne=>?_)))))))))))))))))))))))
  ·refine L.nil (T.ct (T.q (L.a rfl (L.nil (T.aN results34 rfl ⟨?_,gV⟩)))))
   have h2:r.us.length≠c.fs.length:=by omega
   simp [fE,hre,h2]
  refine L.nil (T.cf (T.skip (T.q (L.a rfl (L.nil (T.aN results34 rfl ⟨?_,gV⟩))))))
  have h2:r.us.length=c.fs.length:=by omega
  simp [fE,hre,h2]
 rw [hb] at hv2
 subst hv2
 refine L.a rfl (L.nil (T.q (L.m rfl (L.o (O.Bz rfl rfl (by decide) (L.nil (T.ct (T.q (L.m rfl (L.a rfl (L.nil (T.aN results34 rfl ⟨rfl,he1.trans he2⟩))))))))))))
open Go Go.E
attribute [local irreducible] Go.E.ObG
theorem CxV.ok.mono {lo lo':Nat} {w:World} {c:CxV} (h:c.ok lo w) (hl:lo'≤lo):c.ok lo' w:=⟨Sl.mono h.p hl,Sl.mono h.sl hl,fun f hf=>by
 have:=h.fs f hf
 exact ⟨this.o.mono hl,Sl.mono this.sl hl,fun x hx=>(this.hs x hx).mono hl⟩⟩
theorem Pts.keep {lo:Nat} {w w':World} {v:Value} {ps:List Pt} (h:Pts lo w v ps) (k:Keep lo w w'):Pts lo w' v ps:=Sl.keep h k
theorem CxV.ok.keep {lo:Nat} {w w':World} {c:CxV} (h:c.ok lo w) (k:Keep lo w w'):c.ok lo w':=⟨h.p.keep k,Sl.keep h.sl k,fun f hf=>by
 have:=h.fs f hf
 exact ⟨Sl.keep this.o k,Sl.keep this.sl k,fun x hx=>Sl.keep (this.hs x hx) k⟩⟩
theorem CxV.ok.loc {lo b:Nat} {w w':World} {c:CxV} (h:c.ok lo w) (hu:Upd b w w') (hb:b<lo):c.ok lo w':=h.keep ((Keep.refl lo w).upd hu (.inl hb))
end Go.Proofs.YtnlonpcbgjbbaaaGreatDoor
