/-
  BlocksBack, part 9 of its proof: that it returns true for every input, and each argument reads behind the call as it read before. Conditions: the listed variables read as the program's text lays them (tied by the card).
-/
import Derived.Test.YtnlonpcbgjbbaaaGreatDoorWBlocksBack8
import Derived.Lib.AppendZeros
set_option linter.unusedVariables false
set_option linter.unusedSimpArgs false
set_option maxRecDepth 20000
set_option linter.unusedVariables false
set_option linter.unusedSimpArgs false
set_option maxRecDepth 20000
namespace Go.Proofs.YtnlonpcbgjbbaaaGreatDoor
open Go.Proofs.Tryz (call176 call184 call185 call188 call207 call212 call239 call246 call247 call248 call249 func176 func180 func181 func183 func187 func207 func209 func211 func212 func213 func216 func239 func245 func248 func249 isAgg124 isAgg125 isAgg127 isAgg277 isAgg3 isAgg30 isAgg43 isAgg44 isAgg46 ntmps176 ntmps180 ntmps181 ntmps183 ntmps187 ntmps207 ntmps209 ntmps211 ntmps212 ntmps213 ntmps216 ntmps239 ntmps245 ntmps248 ntmps249 results176 results180 results181 results183 results187 results207 results209 results211 results212 results213 results216 results239 results245 results248 results249 runUnderlying124 runUnderlying125 runUnderlying127 runUnderlying277 runUnderlying3 runUnderlying30 runUnderlying308 runUnderlying4 runUnderlying43 runUnderlying44 runUnderlying46 sizeOf124 sizeOf125 sizeOf127 sizeOf277 sizeOf3 sizeOf30 sizeOf43 sizeOf44 sizeOf46 zeroValue124 zeroValue127)
open Go Go.E
attribute [local irreducible] Go.E.T Go.E.L Go.E.O Go.E.Ob
attribute [local irreducible] Go.E.ObX
structure St where
 a:Nat
 b:Nat
 f:Nat
 r:Nat
def St.val (s:St):Value:=.agg #[.int .i64 s.a,.int .i64 s.b,.int .i64 s.f,.int .i64 s.r]
def St.cells (s:St):List Value:=[.int .i64 s.a,.int .i64 s.b,.int .i64 s.f,.int .i64 s.r]
def gP (ps:List Pt) (i:Nat):Pt:=ps.getD i (0,0)
def St.ok (ps:List Pt) (s:St):Prop:=s.a<ps.length∧s.b<ps.length∧¬ gP ps s.a=gP ps s.b
def iT (ps:List Pt) (s t:St):Bool :=
 if s.a=t.a∧s.b=t.b∨s.a=t.b∧s.b=t.a then false
 else if iY (gP ps s.a) (gP ps s.b) (gP ps t.a) (gP ps t.b)=0 then false
 else if iY (gP ps s.a) (gP ps s.b) (gP ps t.a) (gP ps t.b)=1 then decide (s.a≠t.a∧s.a≠t.b∧s.b≠t.a∧s.b≠t.b)
 else true
theorem uQ {ps:List Pt} (hf:NfL ps) {i:Nat} (h:i<ps.length):og (gP ps i)=false:=hf i h
set_option maxHeartbeats 4000000 in
theorem Jk (lo:Nat) (c:CxV) (s t:St) (w:World) (hc:Pts lo w c.pv c.ps) (hf:NfL c.ps) (hs:s.ok c.ps) (ht:t.ok c.ps) :
  Calls Tryz.prog 212 #[c.val,s.val,t.val] w (Ret fun v w'=>v = .bool (iT c.ps s t)∧Ext w w'):=by
 obtain ⟨hsa,hsb,hsn⟩:=hs
 obtain ⟨hta,htb,htn⟩:=ht
 refine T.enter (vs:=[c.val,s.val,t.val]) func212 rfl ntmps212 rfl ?_
 refine T.q (L.o (O.box rfl (fun b3 w3 hb3 hz3 he3 hB3=>?_)))
 refine L.o (O.box rfl (fun b4 w4 hb4 hz4 he4 hB4=>?_))
 refine L.o (O.box rfl (fun b5 w5 hb5 hz5 he5 hB5=>?_))
 have Iq:=(he3.trans he4).trans he5
 have hC:Blk w5 b3 c.cells 46:=Blk.ext (cs:=c.cells) hB3 (he4.trans he5)
 have hS:Blk w5 b4 s.cells 277:=Blk.ext (cs:=s.cells) hB4 he5
 have hT:Blk w5 b5 t.cells 277:=hB5
 have hc5:=hc.ext Iq
 refine L.a rfl (L.nil (T.seq (T.seq (?_))))
 refine T.join (σ:=Unit) (fun _=>[(3,.pointer (some ⟨b3,0,none⟩)),(4,.pointer (some ⟨b4,0,none⟩)),(5,.pointer (some ⟨b5,0,none⟩)),(34,.bool (decide (s.a=t.a∧s.b=t.b∨s.a=t.b∧s.b=t.a)))]) (fun _ w'=>w'=w5) ?_ ?_
 ·refine T.region (L.o (O.fieldAddr runUnderlying277 rfl sizeOf3 rfl (L.o (O.load isAgg3 rfl (hS.cell rfl) (L.o (O.fieldAddr runUnderlying277 rfl sizeOf3 rfl (L.o (O.load isAgg3 rfl (hT.cell rfl) (L.o (O.jw rfl rfl (fun e1=>?_) (fun e1=>?_)))))))))))
  ·refine L.m rfl (L.o (O.fieldAddr runUnderlying277 rfl sizeOf3 rfl (L.o (O.load isAgg3 rfl (hS.cell rfl) (L.o (O.fieldAddr runUnderlying277 rfl sizeOf3 rfl (L.o (O.load isAgg3 rfl (hT.cell rfl) (L.o (O.jw rfl rfl (fun e2=>?_) (fun e2=>?_)))))))))))
   ·refine L.o (O.ah rfl rfl (L.m rfl (L.p (L.p (L.p (L.p (L.p (L.p (L.p (L.p (L.p (L.p (L.p (L.p (L.o (O.ah rfl rfl (L.nil (T.meet (()) ⟨rfl,rfl,rfl,?_,trivial⟩ rfl))))))))))))))))))
    ·exact congrArg (fun z=>some (Value.bool z)) (decide_eq_true (.inl ⟨by omega,by omega⟩)).symm
   refine L.o (O.ah rfl rfl (L.m rfl (L.o (O.fieldAddr runUnderlying277 rfl sizeOf3 rfl (L.o (O.load isAgg3 rfl (hS.cell rfl) (L.o (O.fieldAddr runUnderlying277 rfl sizeOf3 rfl (L.o (O.load isAgg3 rfl (hT.cell rfl) (L.o (O.jw rfl rfl (fun e3=>?_) (fun e3=>?_)))))))))))))
   ·refine L.m rfl (L.o (O.fieldAddr runUnderlying277 rfl sizeOf3 rfl (L.o (O.load isAgg3 rfl (hS.cell rfl) (L.o (O.fieldAddr runUnderlying277 rfl sizeOf3 rfl (L.o (O.load isAgg3 rfl (hT.cell rfl) (L.o (O.jw rfl rfl (fun e4=>?_) (fun e4=>?_)))))))))))
    ·refine L.o (O.ah rfl rfl (L.o (O.aj rfl rfl (L.nil (T.meet (()) ⟨rfl,rfl,rfl,?_,trivial⟩ rfl)))))
     ·exact congrArg (fun z=>some (Value.bool z)) (decide_eq_true (.inr ⟨by omega,by omega⟩)).symm
    refine L.o (O.ah rfl rfl (L.o (O.aj rfl rfl (L.nil (T.meet (()) ⟨rfl,rfl,rfl,?_,trivial⟩ rfl)))))
    ·exact congrArg (fun z=>some (Value.bool z)) (decide_eq_false (by omega)).symm
   refine L.m rfl (L.p (L.p (L.p (L.p (L.p (L.o (O.aj rfl rfl (L.o (O.aj rfl rfl (L.nil (T.meet (()) ⟨rfl,rfl,rfl,?_,trivial⟩ rfl)))))))))))
   ·exact congrArg (fun z=>some (Value.bool z)) (decide_eq_false (by omega)).symm
  refine L.m rfl (L.p (L.p (L.p (L.p (L.p (L.o (O.aj rfl rfl (L.m rfl (L.o (O.fieldAddr runUnderlying277 rfl sizeOf3 rfl (L.o (O.load isAgg3 rfl (hS.cell rfl) (L.o (O.fieldAddr runUnderlying277 rfl sizeOf3 rfl (L.o (O.load isAgg3 rfl (hT.cell rfl) (L.o (O.jw rfl rfl (fun e3=>?_) (fun e3=>?_)))))))))))))))))))
  ·refine L.m rfl (L.o (O.fieldAddr runUnderlying277 rfl sizeOf3 rfl (L.o (O.load isAgg3 rfl (hS.cell rfl) (L.o (O.fieldAddr runUnderlying277 rfl sizeOf3 rfl (L.o (O.load isAgg3 rfl (hT.cell rfl) (L.o (O.jw rfl rfl (fun e4=>?_) (fun e4=>?_)))))))))))
   ·refine L.o (O.ah rfl rfl (L.o (O.aj rfl rfl (L.nil (T.meet (()) ⟨rfl,rfl,rfl,?_,trivial⟩ rfl)))))
    ·exact congrArg (fun z=>some (Value.bool z)) (decide_eq_true (.inr ⟨by omega,by omega⟩)).symm
   refine L.o (O.ah rfl rfl (L.o (O.aj rfl rfl (L.nil (T.meet (()) ⟨rfl,rfl,rfl,?_,trivial⟩ rfl)))))
   ·exact congrArg (fun z=>some (Value.bool z)) (decide_eq_false (by omega)).symm
  refine L.m rfl (L.p (L.p (L.p (L.p (L.p (L.o (O.aj rfl rfl (L.o (O.aj rfl rfl (L.nil (T.meet (()) ⟨rfl,rfl,rfl,?_,trivial⟩ rfl)))))))))))
  ·exact congrArg (fun z=>some (Value.bool z)) (decide_eq_false (by omega)).symm
 rintro _ w6 rfl
 refine T.qj rfl (fun hno=>?_) (fun hno=>?_)
 ·refine T.q (L.a rfl (L.nil (T.aU results212 rfl ⟨by rw [iT,if_pos hno],Iq⟩)))
 refine T.skip (T.seq (T.seq (?_)))
 refine T.fJ mixed 29 [3,4,5] rfl [.is _,.is _,.is _,.is _,.is _,.is _,.is _,.is _,.is _,.is _,.is _,.is _,.is _,.is _,.is _,.is _,.is _,.is _,.is _,.is _,.is _,.is _,.is _,.is _,.is (.tuple #[.int .i64 (iY (gP c.ps s.a) (gP c.ps s.b) (gP c.ps t.a) (gP c.ps t.b)),.int .i64 0]),.is _,.is _,.is _,.is _] [[],[0],[],[2],[1,3],[4],[],[6],[],[8],[7,9],[10],[],[12],[],[14],[13,15],[16],[],[18],[],[20],[19,21],[22],[5,11,17,23],[24],[25],[25],[26]] [[],[0],[],[2],[0,1,2,3],[0,1,2,3,4],[],[6],[],[8],[6,7,8,9],[6,7,8,9,10],[],[12],[],[14],[12,13,14,15],[12,13,14,15,16],[],[18],[],[20],[18,19,20,21],[18,19,20,21,22],[0,1,2,3,4,5,6,7,8,9,10,11,12,13,14,15,16,17,18,19,20,21,22,23],[0,1,2,3,4,5,6,7,8,9,10,11,12,13,14,15,16,17,18,19,20,21,22,23,24],[0,1,2,3,4,5,6,7,8,9,10,11,12,13,14,15,16,17,18,19,20,21,22,23,24,25],[0,1,2,3,4,5,6,7,8,9,10,11,12,13,14,15,16,17,18,19,20,21,22,23,24,25],[0,1,2,3,4,5,6,7,8,9,10,11,12,13,14,15,16,17,18,19,20,21,22,23,24,25,26],[0,1,2,3,4,5,6,7,8,9,10,11,12,13,14,15,16,17,18,19,20,21,22,23,24,25,26,27,28]] (by kernel_rfl) (by kernel_rfl) rfl (by kernel_rfl) trivial ⟨fun wx hx=>Ob.o (O.fieldAddr runUnderlying46 rfl sizeOf43 rfl kR),
   fun wx hx=>Ob.o (O.load isAgg43 rfl ((Blk.ext (cs:=c.cells) hC hx).cell rfl) kR),
   fun wx hx=>Ob.o (O.fieldAddr runUnderlying277 rfl sizeOf3 rfl kR),
   fun wx hx=>Ob.o (O.load isAgg3 rfl ((Blk.ext (cs:=s.cells) hS hx).cell rfl) kR),
   fun wx hx=>Ob.o (O.indexAddr runUnderlying43 sizeOf124 rfl rfl (hc5.ext hx) (by omega) (by omega) kR),
   fun wx hx=>Ob.o (O.ak isAgg124 sizeOf124 rfl rfl ((hc5.ext hx).row hsa) kR),
   fun wx hx=>Ob.o (O.fieldAddr runUnderlying46 rfl sizeOf43 rfl kR),
   fun wx hx=>Ob.o (O.load isAgg43 rfl ((Blk.ext (cs:=c.cells) hC hx).cell rfl) kR),
   fun wx hx=>Ob.o (O.fieldAddr runUnderlying277 rfl sizeOf3 rfl kR),
   fun wx hx=>Ob.o (O.load isAgg3 rfl ((Blk.ext (cs:=s.cells) hS hx).cell rfl) kR),
   fun wx hx=>Ob.o (O.indexAddr runUnderlying43 sizeOf124 rfl rfl (hc5.ext hx) (by omega) (by omega) kR),
   fun wx hx=>Ob.o (O.ak isAgg124 sizeOf124 rfl rfl ((hc5.ext hx).row hsb) kR),
   fun wx hx=>Ob.o (O.fieldAddr runUnderlying46 rfl sizeOf43 rfl kR),
   fun wx hx=>Ob.o (O.load isAgg43 rfl ((Blk.ext (cs:=c.cells) hC hx).cell rfl) kR),
   fun wx hx=>Ob.o (O.fieldAddr runUnderlying277 rfl sizeOf3 rfl kR),
   fun wx hx=>Ob.o (O.load isAgg3 rfl ((Blk.ext (cs:=t.cells) hT hx).cell rfl) kR),
   fun wx hx=>Ob.o (O.indexAddr runUnderlying43 sizeOf124 rfl rfl (hc5.ext hx) (by omega) (by omega) kR),
   fun wx hx=>Ob.o (O.ak isAgg124 sizeOf124 rfl rfl ((hc5.ext hx).row hta) kR),
   fun wx hx=>Ob.o (O.fieldAddr runUnderlying46 rfl sizeOf43 rfl kR),
   fun wx hx=>Ob.o (O.load isAgg43 rfl ((Blk.ext (cs:=c.cells) hC hx).cell rfl) kR),
   fun wx hx=>Ob.o (O.fieldAddr runUnderlying277 rfl sizeOf3 rfl kR),
   fun wx hx=>Ob.o (O.load isAgg3 rfl ((Blk.ext (cs:=t.cells) hT hx).cell rfl) kR),
   fun wx hx=>Ob.o (O.indexAddr runUnderlying43 sizeOf124 rfl rfl (hc5.ext hx) (by omega) (by omega) kR),
   fun wx hx=>Ob.o (O.ak isAgg124 sizeOf124 rfl rfl ((hc5.ext hx).row htb) kR),
   fun wx hx=>Ob.o (O.call (xs:=[.tmp 41,.tmp 47,.tmp 53,.tmp 59]) call246 rfl rfl (Jh (gP c.ps s.a) (gP c.ps s.b) (gP c.ps t.a) (gP c.ps t.b) wx (uQ hf hsa) (uQ hf hsb) (uQ hf hta) (uQ hf htb) hsn htn) (fun v wy h=>⟨h.2,h.1⟩)),
   fun wx hx=>Ob.o (O.move rfl kR),
   fun wx hx=>Ob.o (O.extract rfl rfl kR),
   fun wx hx=>Ob.o (O.extract rfl rfl kR),
   fun wx hx=>Ob.o (O.assign rfl kR),
   trivial⟩ (fun w6 he6=>?_)
 have Ih:=Iq.trans he6
 have hS6:=Blk.ext (cs:=s.cells) hS he6
 have hT6:=Blk.ext (cs:=t.cells) hT he6
 refine L.a rfl (L.nil (T.q (L.m rfl (L.nil (T.block (T.q (L.o (O.jw rfl rfl (fun m0=>?_) (fun m0=>?_)))))))))
 ·refine L.a rfl (L.nil (T.ct (T.q (L.a rfl (L.nil (T.aU results212 rfl ⟨by rw [iT,if_neg hno,if_pos m0],Ih⟩))))))
 refine L.a rfl (L.nil (T.cf (T.q (L.o (O.jw rfl rfl (fun m1=>?_) (fun m1=>?_))))))
 ·refine L.a rfl (L.nil (T.ct (T.q (L.o (O.fieldAddr runUnderlying277 rfl sizeOf3 rfl (L.o (O.load isAgg3 rfl (hS6.cell rfl) (L.o (O.fieldAddr runUnderlying277 rfl sizeOf3 rfl (L.o (O.load isAgg3 rfl (hT6.cell rfl) (L.o (O.jT rfl rfl (fun q1=>?_) (fun q1=>?_))))))))))))))
  ·refine L.m rfl (L.o (O.fieldAddr runUnderlying277 rfl sizeOf3 rfl (L.o (O.load isAgg3 rfl (hS6.cell rfl) (L.o (O.fieldAddr runUnderlying277 rfl sizeOf3 rfl (L.o (O.load isAgg3 rfl (hT6.cell rfl) (L.o (O.jT rfl rfl (fun q2=>?_) (fun q2=>?_)))))))))))
   ·refine L.o (O.ah rfl rfl (L.m rfl (L.o (O.fieldAddr runUnderlying277 rfl sizeOf3 rfl (L.o (O.load isAgg3 rfl (hS6.cell rfl) (L.o (O.fieldAddr runUnderlying277 rfl sizeOf3 rfl (L.o (O.load isAgg3 rfl (hT6.cell rfl) (L.o (O.jT rfl rfl (fun q3=>?_) (fun q3=>?_)))))))))))))
    ·refine L.o (O.ah rfl rfl (L.m rfl (L.o (O.fieldAddr runUnderlying277 rfl sizeOf3 rfl (L.o (O.load isAgg3 rfl (hS6.cell rfl) (L.o (O.fieldAddr runUnderlying277 rfl sizeOf3 rfl (L.o (O.load isAgg3 rfl (hT6.cell rfl) (L.o (O.neq rfl rfl (L.o (O.ah rfl rfl (L.a rfl (L.nil (T.aU results212 rfl ⟨?_,Ih⟩)))))))))))))))))
     rw [iT,if_neg hno,if_neg m0,if_pos m1]
     refine congrArg Value.bool ?_
     exact decide_eq_decide.2 (by omega)
    refine L.o (O.ah rfl rfl (L.m rfl (L.p (L.p (L.p (L.p (L.p (L.o (O.aj rfl rfl (L.a rfl (L.nil (T.aU results212 rfl ⟨by rw [iT,if_neg hno,if_neg m0,if_pos m1,decide_eq_false (fun h=>h.2.2.1 (by omega))],Ih⟩))))))))))))
   refine L.o (O.ah rfl rfl (L.m rfl (L.p (L.p (L.p (L.p (L.p (L.o (O.aj rfl rfl (L.m rfl (L.p (L.p (L.p (L.p (L.p (L.o (O.aj rfl rfl (L.a rfl (L.nil (T.aU results212 rfl ⟨by rw [iT,if_neg hno,if_neg m0,if_pos m1,decide_eq_false (fun h=>h.2.1 (by omega))],Ih⟩))))))))))))))))))))
  refine L.m rfl (L.p (L.p (L.p (L.p (L.p (L.o (O.aj rfl rfl (L.m rfl (L.p (L.p (L.p (L.p (L.p (L.o (O.aj rfl rfl (L.m rfl (L.p (L.p (L.p (L.p (L.p (L.o (O.aj rfl rfl (L.a rfl (L.nil (T.aU results212 rfl ⟨by rw [iT,if_neg hno,if_neg m0,if_pos m1,decide_eq_false (fun h=>h.1 (by omega))],Ih⟩))))))))))))))))))))))))))
 refine L.a rfl (L.nil (T.cf (T.skip (T.blk (T.q (L.a rfl (L.nil (T.aU results212 rfl ⟨by rw [iT,if_neg hno,if_neg m0,if_neg m1],Ih⟩))))))))
theorem FN (lo b1 b2:Nat) (c:CxV) (s t:St) (w:World) (hB1:Blk w b1 c.cells 46) (hB2:Blk w b2 s.cells 277) (hc:Pts lo w c.pv c.ps) (hf:NfL c.ps) (hs:s.ok c.ps) (ht:t.ok c.ps) :
  Calls Tryz.prog 211 #[t.val,.pointer (some ⟨b1,0,none⟩),.pointer (some ⟨b2,0,none⟩)] w (Ret fun v w'=>v = .bool (iT c.ps s t)∧Ext w w'):=by
 refine T.enter (vs:=[t.val,.pointer (some ⟨b1,0,none⟩),.pointer (some ⟨b2,0,none⟩)]) func211 rfl ntmps211 rfl ?_
 refine T.q (L.o (O.box rfl (fun b3 w3 hb3 hz3 he3 hB3=>?_)))
 have aaS:Blk w3 b3 t.cells 277:=hB3
 refine L.a rfl (L.nil (T.q (L.o (O.ak isAgg46 sizeOf46 rfl rfl ((Blk.ext (cs:=c.cells) hB1 he3).row) (L.o (O.ak isAgg277 sizeOf277 rfl rfl ((Blk.ext (cs:=s.cells) hB2 he3).row) (L.o (O.ak isAgg277 sizeOf277 rfl rfl aaS.row (L.o (O.call (xs:=[.tmp 5,.tmp 6,.tmp 7]) call212 rfl rfl (Jk lo c s t w3 (hc.ext he3) hf hs ht) (fun v4 w4 hq=>?_)))))))))))
 obtain ⟨rfl,he4⟩:=hq
 refine L.a rfl (L.nil (T.aU results211 rfl ⟨rfl,he3.trans he4⟩))
open Go Go.E
def NK (ps:List Pt) (t:Int) (p:Pt) (h:List Int):Bool:=decide (iZ (cor ps t h) p≠0)
def dF (ps:List Pt) (t:Int) (f:FaV) (p:Pt):Bool:=decide (iZ (cor ps t f.o.xs) p=2) && f.hs.all fun h=>!NK ps t p h.xs
theorem QH {ps:List Pt} {t:Int} {l:List Int} (hf:NfL ps) (ht:t=1∨t=2) (hl:IxL ps.length l):NrL (cor ps t l):=fun i hi=>by
 have hi':i<l.length:=by rw [cor,List.length_map] at hi;exact hi
 rw [Jj hi']
 have:=Yy (n:=0) hf ht (hl i hi')
 unfold Nr;omega
theorem lJ (ps:List Pt) (t:Int) (l:List Int):(cor ps t l).length=l.length:=by rw [cor,List.length_map]
def Ve (ps:List Pt) (t:Int) (l:List Int) (v:Value) (w:World):Prop:=Pts 0 w v (cor ps t l)
theorem Ve.st {ps:List Pt} {t:Int} {l:List Int} : ∀ v w w',Ext w w'→Ve ps t l v w→Ve ps t l v w':=fun _ _ _ h k=>Pts.ext k h
def Jl (n:Nat) (h:RiV):Prop:=IxL n h.xs∧h.xs.length≤1000000
def r0:RiV:=⟨undef,[]⟩
theorem FP {hs:List RiV} {i:Nat} (hi:i<hs.length):(aJ hs)[i]?=some (hs.getD i r0).v:=by
 rw [au hi];simp [aJ,hi]
theorem Ac (lo lo2 b1 b2 b3:Nat) (c:CxV) (h:RiV) (p:Pt) (t:Int) (w:World) (hB1:Blk w b1 c.cells 46) (hB2:Blk w b2 [.int .i64 t] 3) (hB3:Blk w b3 (pC p) 124) (hc:Pts lo w c.pv c.ps) (hh:Ints .i64 lo2 w h.v h.xs) (hf:NfL c.ps) (ht:t=1∨t=2) (hl:Jl c.ps.length h) (hp:Nr p) :
  Calls Tryz.prog 249 #[h.v,.pointer (some ⟨b1,0,none⟩),.pointer (some ⟨b2,0,none⟩),.pointer (some ⟨b3,0,none⟩)] w (Ret fun v w'=>v = .bool (NK c.ps t p h.xs)∧Ext w w'):=by
 refine T.enter (vs:=[h.v,.pointer (some ⟨b1,0,none⟩),.pointer (some ⟨b2,0,none⟩),.pointer (some ⟨b3,0,none⟩)]) func249 rfl ntmps249 rfl ?_
 refine T.q (L.a rfl (L.nil (T.seq (?_))))
 refine T.fJ mixed 5 [1,0,2,3] rfl [.is _,.is _,.is _,.such (Ve c.ps t h.xs),.is _] [[],[],[],[0,1,2],[]] [[],[],[],[0,1,2],[],[0,1,2,3,4],[0,1,2,3,4,5],[0,1,2,3,4,5,6]] (by kernel_rfl) (by kernel_rfl) rfl (by kernel_rfl) ⟨Ve.st,trivial⟩ ⟨fun wx hx=>Ob.o (O.ak isAgg46 sizeOf46 rfl rfl ((Blk.ext (cs:=c.cells) hB1 hx).row) kR),
   fun wx hx=>Ob.o (O.move rfl kR),
   fun wx hx=>Ob.o (O.load isAgg3 rfl ((Blk.ext (cs:=[.int .i64 t]) hB2 hx).cell rfl) kR),
   fun wx hx=>Ob.o (O.call (xs:=[.tmp 6,.tmp 7,.tmp 8]) call185 rfl rfl (gZ lo lo2 c h.v h.xs t wx (hc.ext hx) (hh.ext hx) hf ht hl.1 hl.2) (fun v wy h=>⟨h.1,h.2.mono (Nat.zero_le _)⟩)),
   fun wx hx=>Ob.o (O.ak isAgg124 sizeOf124 rfl rfl ((Blk.ext (cs:=pC p) hB3 hx).row) kR),
   trivial⟩ (fun w4 he4 v9 hv9=>?_)
 refine L.o (O.call (xs:=[.tmp 9,.tmp 10]) call247 rfl rfl (sU 0 _ (cor c.ps t h.xs) p w4 hv9 (QH hf ht hl.1) hp (by rw [lJ];exact hl.2)) (fun v5 w5 hq=>?_))
 obtain ⟨rfl,he5⟩:=hq
 refine L.o (O.neq rfl rfl (L.a rfl (L.nil (T.aU results249 rfl ⟨rfl,he4.trans he5⟩))))
theorem FQ (lo lo2 b1 b2 b3:Nat) (c:CxV) (q:Value) (hs:List RiV) (p:Pt) (t:Int) (w:World) (hB1:Blk w b1 c.cells 46) (hB2:Blk w b2 [.int .i64 t] 3) (hB3:Blk w b3 (pC p) 124) (hc:Pts lo w c.pv c.ps) (hq:Sl lo2 w q hs.length 1 (aJ hs)) (hhs:∀ h∈hs,Ints .i64 lo2 w h.v h.xs) (hf:NfL c.ps) (ht:t=1∨t=2) (hl:∀ h∈hs,Jl c.ps.length h) (hp:Nr p) :
  Calls Tryz.prog 248 #[q,.func (.func 249) #[] #[.pointer (some ⟨b1,0,none⟩),.pointer (some ⟨b2,0,none⟩),.pointer (some ⟨b3,0,none⟩)]] w (Ret fun v w'=>∃ r:Int,v = .int .i64 r∧decide (r<0)=hs.all (fun h=>!NK c.ps t p h.xs)∧Ext w w'):=by
 have hle:=Sl.le hq
 refine T.enter (vs:=[q,.func (.func 249) #[] #[.pointer (some ⟨b1,0,none⟩),.pointer (some ⟨b2,0,none⟩),.pointer (some ⟨b3,0,none⟩)]]) func248 rfl ntmps248 rfl ?_
 refine T.q (L.a rfl (L.nil (T.seq (T.q (L.m rfl (L.o (O.len runUnderlying125 rfl (Sl.val hq) (L.m rfl (L.nil (T.block (?_)))))))))))
 refine T.loop (σ:=Nat) (fun i=>[(0,q),(1,.func (.func 249) #[] #[.pointer (some ⟨b1,0,none⟩),.pointer (some ⟨b2,0,none⟩),.pointer (some ⟨b3,0,none⟩)]),(7,q),(8,.int .i64 hs.length),(9,.int .i64 i)]) (fun i w'=>i≤hs.length∧Ext w w'∧∀ k,k<i→NK c.ps t p (hs.getD k r0).xs=false) (fun i=>hs.length-i) (0) ⟨rfl,rfl,rfl,rfl,rfl,trivial⟩ ⟨Nat.zero_le _,Keep.refl _ _,fun k hk=>absurd hk (Nat.not_lt_zero _)⟩ ?_
 rintro i w1 ⟨hi,he1,hall⟩
 refine T.q (L.o (O.bF rfl rfl (fun hlt=>?_) (fun hlt=>?_)))
 ·refine L.nil (?_)
  have hlt':i<hs.length:=by omega
  have hm:hs.getD i r0∈hs:=by rw [au hlt'];exact List.getElem_mem hlt'
  have hq1:Sl lo2 w1 q hs.length 1 (aJ hs):=Sl.ext hq he1
  refine T.seq (T.ct (T.skip (T.seq (T.block (T.q (L.m rfl (L.o (O.indexAddr runUnderlying125 sizeOf30 rfl rfl hq1 (by omega) (by omega) (L.o (O.load isAgg30 rfl (by rw [Int.toNat_natCast,Nat.mul_one];exact Sl.cell hq1 (FP hlt')) (L.a rfl (L.a rfl (L.nil (T.q (L.m rfl (L.m rfl (L.o (O.call (xs:=[.tmp 15]) call249 rfl rfl (Ac lo lo2 b1 b2 b3 c (hs.getD i r0) p t w1 (Blk.ext (cs:=c.cells) hB1 he1) (Blk.ext (cs:=[.int .i64 t]) hB2 he1) (Blk.ext (cs:=pC p) hB3 he1) (hc.ext he1) ((hhs _ hm).ext he1) hf ht (hl _ hm) hp) (fun v2 w2 hq=>?_)))))))))))))))))))
  obtain ⟨hv2,he2⟩:=hq
  rcases hb:NK c.ps t p (hs.getD i r0).xs with _|_
  ·refine L.nil (?_)
   rw [hb] at hv2
   subst hv2
   refine T.cf (T.skip (T.blk (T.region (L.o (O.aI rfl rfl (by omega) (L.m rfl (L.nil (T.again (i+1) (by omega) ⟨rfl,rfl,rfl,rfl,rfl,trivial⟩ ⟨hlt',he1.trans he2,fun k hk=>?_⟩))))))))
   ·by_cases e:k=i
    ·subst e;exact hb
    exact hall k (by omega)
  refine L.nil (?_)
  rw [hb] at hv2
  subst hv2
  refine T.ct (T.q (L.m rfl (L.a rfl (L.nil (T.aU results248 rfl ⟨_,rfl,?_,he1.trans he2⟩)))))
  rw [decide_eq_false (by omega),eq_comm,List.all_eq_false]
  exact ⟨_,hm,by rw [hb];decide⟩
 refine L.nil (T.seq (T.cf (T.exit rfl (T.q (L.a rfl (L.nil (T.aU results248 rfl ⟨_,rfl,?_,he1⟩)))))))
 rw [decide_eq_true (by decide),eq_comm,List.all_eq_true]
 intro h hm
 obtain ⟨k,hk,rfl⟩:=List.getElem_of_mem hm
 have:=hall k (by omega)
 rw [au hk] at this
 rw [this];rfl
theorem qL (lo lo2:Nat) (c:CxV) (f:FaV) (p:Pt) (t:Int) (w:World) (hc:Pts lo w c.pv c.ps) (hfo:f.ok lo2 w) (hf:NfL c.ps) (ht:t=1∨t=2) (hlo:Jl c.ps.length f.o) (hl:∀ h∈f.hs,Jl c.ps.length h) (hp:Nr p) :
  Calls Tryz.prog 216 #[c.val,f.val,pV p,.int .i64 t] w (Ret fun v w'=>v = .bool (dF c.ps t f p)∧Ext w w'):=by
 refine T.enter (vs:=[c.val,f.val,pV p,.int .i64 t]) func216 rfl ntmps216 rfl ?_
 refine T.q (L.o (O.box rfl (fun b4 w4 hb4 hz4 he4 hB4=>?_)))
 refine L.o (O.box rfl (fun b5 w5 hb5 hz5 he5 hB5=>?_))
 refine L.o (O.box rfl (fun b6 w6 hb6 hz6 he6 hB6=>?_))
 refine L.o (O.box rfl (fun b7 w7 hb7 hz7 he7 hB7=>?_))
 have O8:=((he4.trans he5).trans he6).trans he7
 have hC:Blk w7 b4 c.cells 46:=Blk.ext (cs:=c.cells) hB4 ((he5.trans he6).trans he7)
 have hF:Blk w7 b5 f.cells 127:=Blk.ext (cs:=f.cells) hB5 (he6.trans he7)
 have hP:Blk w7 b6 (pC p) 124:=Blk.ext (cs:=pC p) hB6 he7
 have hT:Blk w7 b7 [.int .i64 t] 3:=hB7
 have hc7:=hc.ext O8
 have aeK:=hfo.ext O8
 by_cases hside:iZ (cor c.ps t f.o.xs) p=2
 ·refine L.a rfl (L.nil (T.seq (?_)))
  refine T.fJ mixed 12 [4,5,7,6] rfl [.is _,.is _,.is _,.is _,.such (Ve c.ps t f.o.xs),.is _,.is (.int .i64 (iZ (cor c.ps t f.o.xs) p)),.is _,.is _,.is _,.is _,.is _] [[],[],[1],[],[0,2,3],[],[4,5],[6],[7],[8],[9,8],[8]] [[],[],[1],[],[0,1,2,3],[],[0,1,2,3,4,5],[0,1,2,3,4,5,6],[0,1,2,3,4,5,6,7],[0,1,2,3,4,5,6,7,8],[0,1,2,3,4,5,6,7,8,9],[0,1,2,3,4,5,6,7,8],[0,1,2,3,4,5,6,7,8,9,10,11],[0,1,2,3,4,5,6,7,8,9,10,11,12],[0,1,2,3,4,5,6,7,8,9,10,11,12,13],[0,1,2,3,4,5,6,7,8,9,10,11,12,13,14]] (by kernel_rfl) (by kernel_rfl) rfl (by kernel_rfl) ⟨Ve.st,trivial⟩ ⟨fun wx hx=>Ob.o (O.ak isAgg46 sizeOf46 rfl rfl ((Blk.ext (cs:=c.cells) hC hx).row) kR),
    fun wx hx=>Ob.o (O.fieldAddr runUnderlying127 rfl sizeOf30 rfl kR),
    fun wx hx=>Ob.o (O.load isAgg30 rfl ((Blk.ext (cs:=f.cells) hF hx).cell rfl) kR),
    fun wx hx=>Ob.o (O.load isAgg3 rfl ((Blk.ext (cs:=[.int .i64 t]) hT hx).cell rfl) kR),
    fun wx hx=>Ob.o (O.call (xs:=[.tmp 9,.tmp 11,.tmp 12]) call185 rfl rfl (gZ lo lo2 c f.o.v f.o.xs t wx (hc7.ext hx) (aeK.o.ext hx) hf ht hlo.1 hlo.2) (fun v wy h=>⟨h.1,h.2.mono (Nat.zero_le _)⟩)),
    fun wx hx=>Ob.o (O.ak isAgg124 sizeOf124 rfl rfl ((Blk.ext (cs:=pC p) hP hx).row) kR),
    fun wx hx v13 Uw=>Ob.o (O.call (xs:=[.tmp 13,.tmp 14]) call247 rfl rfl (sU 0 _ (cor c.ps t f.o.xs) p wx Uw (QH hf ht hlo.1) hp (by rw [lJ];exact hlo.2)) (fun v wy h=>⟨h.2,h.1⟩)),
    fun wx hx=>Ob.o (O.iF rfl rfl hside kR),
    fun wx hx=>Ob.o (O.move rfl kR),
    fun wx hx=>Ob.o (O.fieldAddr runUnderlying127 rfl sizeOf125 rfl kR),
    fun wx hx=>Ob.o (O.load isAgg125 rfl ((Blk.ext (cs:=f.cells) hF hx).cell rfl) kR),
    fun wx hx=>Ob.o (O.makeFunc (fi:=[]) (ca:=[.tmp 4,.tmp 7,.tmp 6]) rfl rfl kR),
    trivial⟩ (fun w8 he8 v13 Uw=>?_)
  have ahi:=aeK.ext he8
  refine L.o (O.call (xs:=[.tmp 19,.tmp 20]) call248 rfl rfl (FQ lo lo2 b4 b7 b6 c f.hv f.hs p t w8 (Blk.ext (cs:=c.cells) hC he8) (Blk.ext (cs:=[.int .i64 t]) hT he8) (Blk.ext (cs:=pC p) hP he8) (hc7.ext he8) ahi.sl ahi.hs hf ht hl hp) (fun v9 w9 hq=>?_))
  obtain ⟨r,rfl,hr,he9⟩:=hq
  refine L.o (O.lss rfl rfl (L.o (O.ah rfl rfl (L.a rfl (L.nil (T.aU results216 rfl ⟨by rw [dF,decide_eq_true hside,Bool.true_and,← hr],O8.trans (he8.trans he9)⟩))))))
 refine L.a rfl (L.nil (T.seq (?_)))
 refine T.fJ mixed 12 [4,5,7,6] rfl [.is _,.is _,.is _,.is _,.such (Ve c.ps t f.o.xs),.is _,.is (.int .i64 (iZ (cor c.ps t f.o.xs) p)),.is _,.is _,.is undef,.is undef,.is undef] [[],[],[1],[],[0,2,3],[],[4,5],[6],[7],[8],[9,8],[8]] [[],[],[1],[],[0,1,2,3],[],[0,1,2,3,4,5],[0,1,2,3,4,5,6],[0,1,2,3,4,5,6,7],[0,1,2,3,4,5,6,7,8],[0,1,2,3,4,5,6,7,8,9],[0,1,2,3,4,5,6,7,8],[0,1,2,3,4,5,6,7,8,9,10,11],[0,1,2,3,4,5,6,7,8,9,10,11,12],[0,1,2,3,4,5,6,7,8,9,10,11,12,13],[0,1,2,3,4,5,6,7,8,9,10,11,12,13,14]] (by kernel_rfl) (by kernel_rfl) rfl (by kernel_rfl) ⟨Ve.st,trivial⟩ ⟨fun wx hx=>Ob.o (O.ak isAgg46 sizeOf46 rfl rfl ((Blk.ext (cs:=c.cells) hC hx).row) kR),
   fun wx hx=>Ob.o (O.fieldAddr runUnderlying127 rfl sizeOf30 rfl kR),
   fun wx hx=>Ob.o (O.load isAgg30 rfl ((Blk.ext (cs:=f.cells) hF hx).cell rfl) kR),
   fun wx hx=>Ob.o (O.load isAgg3 rfl ((Blk.ext (cs:=[.int .i64 t]) hT hx).cell rfl) kR),
   fun wx hx=>Ob.o (O.call (xs:=[.tmp 9,.tmp 11,.tmp 12]) call185 rfl rfl (gZ lo lo2 c f.o.v f.o.xs t wx (hc7.ext hx) (aeK.o.ext hx) hf ht hlo.1 hlo.2) (fun v wy h=>⟨h.1,h.2.mono (Nat.zero_le _)⟩)),
   fun wx hx=>Ob.o (O.ak isAgg124 sizeOf124 rfl rfl ((Blk.ext (cs:=pC p) hP hx).row) kR),
   fun wx hx v13 Uw=>Ob.o (O.call (xs:=[.tmp 13,.tmp 14]) call247 rfl rfl (sU 0 _ (cor c.ps t f.o.xs) p wx Uw (QH hf ht hlo.1) hp (by rw [lJ];exact hlo.2)) (fun v wy h=>⟨h.2,h.1⟩)),
   fun wx hx=>Ob.o (O.gX rfl rfl hside kR),
   fun wx hx=>Ob.o (O.move rfl kR),
   fun wx hx=>Ob.pass rfl rfl,
   fun wx hx=>Ob.pass rfl rfl,
   fun wx hx=>Ob.pass rfl rfl,
   trivial⟩ (fun w8 he8 v13 Uw=>?_)
 refine L.p (L.p (L.o (O.aj rfl rfl (L.a rfl (L.nil (T.aU results216 rfl ⟨by rw [dF,decide_eq_false hside,Bool.false_and],O8.trans he8⟩))))))
open Go Go.E
def oQ (ps:List Pt) (s:St):Pt:=((gP ps s.a).1+(gP ps s.b).1,(gP ps s.a).2+(gP ps s.b).2)
theorem XD {ps:List Pt} {s:St} (hf:NfL ps) (hs:s.ok ps):Nr (oQ ps s):=by
 have h1:=mV (uQ hf hs.1)
 have h2:=mV (uQ hf hs.2.1)
 unfold Nr oQ;simp only;omega
theorem uS (lo b1:Nat) (cx:CxV) (s:St) (w:World) (hB1:Blk w b1 cx.cells 46) (hc:Pts lo w cx.pv cx.ps) (hf:NfL cx.ps) (hs:s.ok cx.ps) :
  Calls Tryz.prog 213 #[s.val,.pointer (some ⟨b1,0,none⟩)] w (Ret fun v w'=>v=pV (oQ cx.ps s)∧Ext w w'):=by
 have h1:=mV (uQ hf hs.1)
 have h2:=mV (uQ hf hs.2.1)
 obtain ⟨hsa,hsb,hsn⟩:=hs
 refine T.enter (vs:=[s.val,.pointer (some ⟨b1,0,none⟩)]) func213 rfl ntmps213 rfl ?_
 refine T.q (L.o (O.box rfl (fun b2 w2 hb2 hz2 he2 hB2=>?_)))
 refine L.o (O.alloc zeroValue124 (fun b3 w3 hb3 hz3 he3 hB3=>?_))
 have hS:Blk w3 b2 s.cells 277:=Blk.ext (cs:=s.cells) hB2 he3
 have hR:Blk w3 b3 (pC (0,0)) 124:=hB3
 have mQ:=he2.trans he3
 have hC:=Blk.ext (cs:=cx.cells) hB1 mQ
 have hc3:=hc.ext mQ
 refine L.nil (T.seq (?_))
 refine T.Yd mixed 15 1 [1,2] rfl [.is _,.is _,.is _,.is _,.is _,.is _,.is _,.is _,.is _,.is _,.is _,.is _,.such (PtB w3.heap.size),.such (PtB w3.heap.size),.is undef] [[],[0],[],[2],[1,3],[4],[],[6],[],[8],[7,9],[10],[],[],[12,5]] [none,none,none,none,none,none,none,none,none,none,none,none,none,none,some 0] [[],[0],[],[2],[0,1,2,3],[0,1,2,3,4],[],[6],[],[8],[6,7,8,9],[6,7,8,9,10],[],[],[0,1,2,3,4,5,12,13],[0,1,2,3,4,5,6,7,8,9,10,11,12,13,14]] [12,13] [(14,12,4)] (fun _ _ u _ W=>∃ b,u = .pointer (some ⟨b,0,none⟩)∧w3.heap.size≤b∧Blk W b (pC (gP cx.ps s.a)) 124) (fun _ W=>Ext w3 W) (RelB w3.heap.size (gP cx.ps s.a)) (fun i f v w hi hf hh=>by { rcases (show i=12∨i=13 by simpa using hi) with rfl|rfl <;> (simp only [List.getElem?_cons_succ,List.getElem?_cons_zero,Option.some.injEq] at hf;subst hf;exact PtB.lt hh) }) (fun i j vi vj W W' hr ⟨b,h1,h2,h3⟩=>(hr.own b _ h2 h3).elim fun c' k=>⟨b,h1,h2,(k.2 rfl)▸k.1⟩) (by kernel_rfl) (by kernel_rfl) (by kernel_rfl) (by kernel_rfl) rfl ⟨PtB.st,PtB.st,trivial⟩ (Keep.drew _ _) ⟨fun c wx hx=>ObX.op rfl (O.fieldAddr runUnderlying46 rfl sizeOf43 rfl ⟨⟨RelB.aV (Keep.refl _ _),hx⟩,rfl,trivial,trivial⟩),
   fun c wx hx=>ObX.op rfl (O.load isAgg43 rfl ((Blk.ext (cs:=cx.cells) hC hx).cell rfl) ⟨⟨RelB.aV (Keep.refl _ _),hx⟩,rfl,trivial,trivial⟩),
   fun c wx hx=>ObX.op rfl (O.fieldAddr runUnderlying277 rfl sizeOf3 rfl ⟨⟨RelB.aV (Keep.refl _ _),hx⟩,rfl,trivial,trivial⟩),
   fun c wx hx=>ObX.op rfl (O.load isAgg3 rfl ((Blk.ext (cs:=s.cells) hS hx).cell rfl) ⟨⟨RelB.aV (Keep.refl _ _),hx⟩,rfl,trivial,trivial⟩),
   fun c wx hx=>ObX.op rfl (O.indexAddr runUnderlying43 sizeOf124 rfl rfl (hc3.ext hx) (by omega) (by omega) ⟨⟨RelB.aV (Keep.refl _ _),hx⟩,rfl,trivial,trivial⟩),
   fun c wx hx=>ObX.op rfl (O.ak isAgg124 sizeOf124 rfl rfl ((hc3.ext hx).row hsa) ⟨⟨RelB.aV (Keep.refl _ _),hx⟩,rfl,trivial,trivial⟩),
   fun c wx hx=>ObX.op rfl (O.fieldAddr runUnderlying46 rfl sizeOf43 rfl ⟨⟨RelB.aV (Keep.refl _ _),hx⟩,rfl,trivial,trivial⟩),
   fun c wx hx=>ObX.op rfl (O.load isAgg43 rfl ((Blk.ext (cs:=cx.cells) hC hx).cell rfl) ⟨⟨RelB.aV (Keep.refl _ _),hx⟩,rfl,trivial,trivial⟩),
   fun c wx hx=>ObX.op rfl (O.fieldAddr runUnderlying277 rfl sizeOf3 rfl ⟨⟨RelB.aV (Keep.refl _ _),hx⟩,rfl,trivial,trivial⟩),
   fun c wx hx=>ObX.op rfl (O.load isAgg3 rfl ((Blk.ext (cs:=s.cells) hS hx).cell rfl) ⟨⟨RelB.aV (Keep.refl _ _),hx⟩,rfl,trivial,trivial⟩),
   fun c wx hx=>ObX.op rfl (O.indexAddr runUnderlying43 sizeOf124 rfl rfl (hc3.ext hx) (by omega) (by omega) ⟨⟨RelB.aV (Keep.refl _ _),hx⟩,rfl,trivial,trivial⟩),
   fun c wx hx=>ObX.op rfl (O.ak isAgg124 sizeOf124 rfl rfl ((hc3.ext hx).row hsb) ⟨⟨RelB.aV (Keep.refl _ _),hx⟩,rfl,trivial,trivial⟩),
   fun c wx hx=>ObX.op rfl (O.alloc zeroValue124 (fun b wy hb hz he hB=>UL ⟨⟨RelB.aV he,hx.trans he⟩,b,(0,0),rfl,by have:=hx.size;omega,hB⟩ ⟨fun q hq=>by { cases hq;exact Nat.le_of_eq hb.symm },trivial⟩)),
   fun c wx hx=>ObX.op rfl (O.alloc zeroValue124 (fun b wy hb hz he hB=>UL ⟨⟨RelB.aV he,hx.trans he⟩,b,(0,0),rfl,by have:=hx.size;omega,hB⟩ ⟨fun q hq=>by { cases hq;exact Nat.le_of_eq hb.symm },trivial⟩)),
   fun wx hx v4 hv4=>by { obtain ⟨b5,c5,rfl,hb5,hB5⟩:=hv4;exact ObX.op rfl (O.aC sizeOf124 rfl rfl rfl hB5 (Nat.le_refl _) (gY (gP cx.ps s.a)) (fun w8 hu8 hB8=>UL ⟨⟨RelB.upd hu8 hB8,hx.upd hu8 (.inr hb5)⟩,rfl⟩ ⟨trivial,fun u hu=>by { cases hu;exact ⟨b5,rfl,hb5,hB8⟩ }⟩)) },
   trivial⟩ (fun w7 hI7 v4 hv4 v5 hv5 hp7=>?_)
 obtain ⟨vj,hvj,hfr,_⟩:=hp7 12 13 _ _ _ _ (by decide) (by decide) rfl rfl rfl rfl
 obtain rfl:=hvj _ _ rfl rfl
 obtain ⟨_,_,_,hlk⟩:=hp7 12 14 _ _ _ _ (by decide) (by decide) rfl rfl rfl rfl
 obtain ⟨b5,rfl,hb5,hB5⟩:=hlk rfl
 obtain ⟨b6,c6,rfl,hb6,hB6⟩:=hv5
 have hne:b5≠b6:=fun e=>hfr b5 rfl (by rw [e];rfl)
 refine L.o (O.aC sizeOf124 rfl rfl rfl hB6 (Nat.le_refl _) (gY (gP cx.ps s.b)) (fun w8 hu8 hB8=>?_))
 have hA8:Blk w8 b5 (pC (gP cx.ps s.a)) 124:=Blk.upd (cs:=pC (gP cx.ps s.a)) hB5 hu8 hne
 have aaZ:Blk w8 b6 (pC (gP cx.ps s.b)) 124:=hB8
 have NJ:Ext w3 w8:=hI7.upd hu8 (.inr hb6)
 refine L.nil (T.q (L.o (O.fieldAddr runUnderlying124 rfl sizeOf3 rfl (L.o (O.load isAgg3 rfl (hA8.cell rfl) (L.o (O.fieldAddr runUnderlying124 rfl sizeOf3 rfl (L.o (O.load isAgg3 rfl (aaZ.cell rfl) (L.o (O.aI rfl rfl (by omega) (L.o (O.fieldAddr runUnderlying124 rfl sizeOf3 rfl (L.o (O.load isAgg3 rfl (hA8.cell rfl) (L.o (O.fieldAddr runUnderlying124 rfl sizeOf3 rfl (L.o (O.load isAgg3 rfl (aaZ.cell rfl) (L.o (O.aI rfl rfl (by omega) (L.o (O.build (v:=pV (oQ cx.ps s)) (parts:=[(0,.tmp 22),(1,.tmp 27)]) (vs:=[(0,_),(1,_)]) rfl (fun w=>by show _=_;kernel_rfl) (L.o (O.aC sizeOf124 rfl rfl rfl (Blk.ext (cs:=pC (0,0)) hR NJ) (Nat.le_refl _) (gY (oQ cx.ps s)) (fun w9 hu9 hB9=>?_))))))))))))))))))))))))))
 have hR9:Blk w9 b3 (pC (oQ cx.ps s)) 124:=hB9
 refine L.nil (T.retA results213 isAgg124 sizeOf124 rfl rfl hR9.row ⟨rfl,((he2.trans he3).trans NJ).upd hu9 (.inr (by have:=he2.size;omega))⟩)
open Go Go.E
section
variable {el:TypeId} {C:Cx} {e:Env} {w:World} {K:Value→World→Prop} {d:Option Tmp} {ty:TypeId} {pos:String} {aft:Array Edge} {g:Option (Nat × Bool)} {x y:Operand} {t tn:TypeId}
theorem O.adw {oa:Option Addr} {n cap:Nat} (hu:∀ w,(underlying t).run C.P w = .ok (.slice el) w) (hx:ev e x=some (.slice oa n cap)) (h:K (.int .i64 cap) w):O C e ⟨d,.call { callee:=.builtin .cap,args:=#[x],argTypes:=#[t] },ty,pos,aft,g⟩ w K :=
 O.of_run (by simp) (fun a ha=>by
  simp [execOp,resolve,invoke,builtin,Builtin.cap_,ha.eval hx,hu w,goInt]) h
theorem O.oW {el:TypeId} {i:TypeInfo} {zv:Value} {n size bytes:Nat} {kn:IntKind} (ht:∀ w,(underlying t).run C.P w = .ok (.slice el) w) (htn:∀ w,(underlying tn).run C.P w = .ok (.int kn) w) (hi:C.P.info? el=some i) (hz:i.zero=some zv) (hsize:i.size=size) (hby:i.bytes=bytes) (hzs:zv.cells.size=size) (hs:0<size)
  (hx:ev e x=some (.slice none 0 0)) (hy:ev e y=some (.int .i64 n)) (h0:0<n) (hn:n≤1000000) (hbytes:n*bytes≤140737488355328)
  (h:∀ cap w' cur,Ext w w'→n≤cap→cap≤maxLen→Blk w' w.heap.size cur el→cur.length=cap*size→K (.slice (some ⟨w.heap.size,0,none⟩) n cap) w') :
  O C e ⟨d,.call { callee:=.builtin .append,args:=#[x,y],argTypes:=#[t,tn] },ty,pos,aft,g⟩ w K:=by
 have ht':C.P.underlying t=some (.slice el):=aO ht
 have aja:C.P.underlying tn=some (.int kn):=aO htn
 subst hsize hby
 have hrun:=Go.Lib.run_append_nil_zeros w t tn ty el i zv .i64 kn ht' aja hi hz n h0 hs (by omega) (by omega)
 have hge:=grownCap_ge w n 0 el
 have hcm:=grownCap_le_maxLen w n 0 el (by unfold maxLen;omega)
 refine O.of_run (by simp) (fun a ha=>by simp [execOp,resolve,invoke,builtin,ha.eval hx,ha.eval hy,hrun];rfl) (h _ _ (Builtin.zeroCells zv.cells n++Builtin.zeroCells zv.cells (grownCap w n 0 el-n)).toList ((Keep.drew 0 w).trans (Keep.alloc _ _ _)) hge hcm ?_ ?_)
 ·unfold Blk
  rw [Array.toArray_toList]
  exact heap_alloc_new w.drew _
 simp only [Array.length_toList,Array.size_append,size_zeroCells,hzs,← Nat.add_mul]
 congr 1;omega
end
def fl (css:List (List Value)) (i:Nat):List Value:=(css.take i).flatten
theorem sV (css:List (List Value)) (i:Nat) (hi:i<css.length):fl css (i+1)=fl css i++css.getD i []:=by
 rw [au hi,fl,fl,List.take_succ_eq_append_getElem hi,List.flatten_append];simp
theorem Vf (css:List (List Value)) (i:Nat):(fl css i).length≤css.flatten.length:=by
 have:css.flatten=fl css i++(css.drop i).flatten:=by rw [fl,← List.flatten_append,List.take_append_drop]
 rw [this,List.length_append];omega
def LoL (lo:Nat) (w:World) (vs:List Value) (css:List (List Value)):Prop:=vs.length=css.length∧∀ i,i<css.length→Sl lo w (vs.getD i undef) (css.getD i []).length 1 (css.getD i [])
theorem LoL.ext {lo:Nat} {w w':World} {vs:List Value} {css:List (List Value)} (h:LoL lo w vs css) (k:Ext w w'):LoL lo w' vs css:=⟨h.1,fun i hi=>Sl.ext (h.2 i hi) k⟩
theorem La (lo:Nat) (w:World) (sz:Nat):Sl lo w (.slice none 0 0) 0 sz []:=⟨by simp,none,0,rfl,Nat.le_refl _,by decide,.inl rfl⟩
theorem NM (n:Nat) (w:World) (h0:0<n) (hn:n≤1000000) :
  Calls Tryz.prog 239 #[.slice none 0 0,.int .i64 n] w (Ret fun v w'=>Ext w w'∧w'.ownsRow w.heap.size 30 1 v 0 []):=by
 refine T.enter (vs:=[.slice none 0 0,.int .i64 n]) func239 rfl ntmps239 rfl ?_
 refine T.q (L.a rfl (L.nil (T.seq (T.q (L.m rfl (L.o (O.xk rfl rfl (by omega) (L.nil (T.cf (T.skip (T.seq (T.q (L.m rfl (L.m rfl (L.o (O.adw runUnderlying125 rfl (L.m rfl (L.o (O.len runUnderlying125 rfl (Sl.val (La 0 w 1)) (L.o (O.gq rfl rfl (by omega) (L.o (O.gq rfl rfl (by omega) (L.a rfl (L.nil (?_))))))))))))))))))))))))))
 refine T.q (L.m rfl (L.o (O.Cm rfl rfl (by omega) (L.nil (T.ct (T.region (L.m rfl (L.m rfl (L.o (O.adw runUnderlying125 rfl (L.o (O.lq (m:=0) runUnderlying125 sizeOf30 rfl rfl (by decide) (by decide) (L.m rfl (L.o (O.oW (n:=n) (size:=1) (bytes:=24) runUnderlying125 runUnderlying3 Tryz.nT rfl rfl rfl rfl (by decide) rfl (by show some (Value.int .i64 _)=some (Value.int .i64 _);congr 2) h0 hn (by omega) (fun cap w1 cur he1 hc1 hc2 hB1 hl1=>?_))))))))))))))))
 refine L.m rfl (L.o (O.len runUnderlying125 rfl (Sl.val (La 0 w1 1)) (L.o (O.lq (m:=0) runUnderlying125 sizeOf30 rfl rfl (by decide) (by omega) (L.a rfl (L.nil (T.q (L.m rfl (L.a rfl (L.nil (T.aU results239 rfl ⟨he1,rfl,.inr ⟨_,cap,cur.toArray,rfl,Nat.le_refl _,hB1,Nat.zero_le _,hc2,by simpa using hl1,by simp⟩⟩)))))))))))
theorem FT (lo lo2:Nat) (p:Value) (vs:List Value) (css:List (List Value)) (w:World) (hp:Sl lo w p vs.length 1 vs) (hv:LoL lo2 w vs css) (h0:0<css.flatten.length) (hn:css.flatten.length≤1000000) (h1:∀ c∈css.flatten,c.oneCell'=true) :
  Calls Tryz.prog 207 #[p] w (Ret fun v w'=>Ext w w'∧Sl w.heap.size w' v css.flatten.length 1 css.flatten):=by
 have hle:=Sl.le hp
 have hvl:=hv.1
 refine T.enter (vs:=[p]) func207 rfl ntmps207 rfl ?_
 refine T.q (L.a rfl (L.nil (T.q (L.a rfl (L.nil (T.seq (T.q (L.m rfl (L.o (O.len runUnderlying308 rfl (Sl.val hp) (L.m rfl (L.nil (T.block (?_))))))))))))))
 refine T.loop (σ:=Nat) (fun i=>[(0,p),(3,.int .i64 (fl css i).length),(9,p),(10,.int .i64 vs.length),(11,.int .i64 i)]) (fun i w'=>i≤vs.length∧w'=w) (fun i=>vs.length-i) (0) ⟨rfl,rfl,rfl,rfl,rfl,trivial⟩ ⟨Nat.zero_le _,rfl⟩ ?_
 rintro i w1 ⟨hi,rfl⟩
 refine T.q (L.o (O.bF rfl rfl (fun hlt=>?_) (fun hlt=>?_)))
 ·refine L.nil (?_)
  have hlt':i<css.length:=by omega
  have hs:=hv.2 i hlt'
  have hfl:=Vf css (i+1)
  have hfs:=congrArg List.length (sV css i hlt')
  rw [List.length_append] at hfs
  refine T.seq (T.ct (T.skip (T.seq (T.block (T.q (L.o (O.indexAddr runUnderlying308 sizeOf125 rfl rfl hp (by omega) (by omega) (L.o (O.load isAgg125 rfl (by rw [Int.toNat_natCast,Nat.mul_one];exact Sl.cell hp (show vs[i]?=some (vs.getD i undef) by rw [au (by omega)];simp [hvl,hlt'])) (L.a rfl (L.nil (T.q (L.m rfl (L.m rfl (L.o (O.len runUnderlying125 rfl (Sl.val hs) (L.o (O.aI rfl rfl (by omega) (L.a rfl (L.nil (T.q (L.m rfl (L.o (O.xk rfl rfl (by omega) (L.nil (?_))))))))))))))))))))))))))
  refine T.cf (T.skip (T.blk (T.region (L.o (O.aI rfl rfl (by omega) (L.m rfl (L.nil (T.again (i+1) (by omega) ⟨rfl,?_,rfl,rfl,rfl,trivial⟩ ⟨by omega,rfl⟩))))))))
  ·rw [hfs];rfl
 refine L.nil (?_)
 obtain rfl:i=vs.length:=by omega
 have hfe:fl css vs.length=css.flatten:=by rw [hvl,fl,List.take_length]
 rw [hfe]
 refine T.seq (T.cf (T.exit rfl (T.q (L.m rfl (L.o (O.call (xs:=[.const (.slice none 0 0),.tmp 23]) call239 rfl rfl (NM css.flatten.length w1 h0 hn) (fun v2 w2 hq=>?_)))))))
 obtain ⟨he2,hO2⟩:=hq
 refine L.a rfl (L.nil (T.seq (T.q (L.m rfl (L.o (O.len runUnderlying308 rfl (Sl.val (Sl.ext hp he2)) (L.m rfl (L.nil (T.block (?_))))))))))
 refine T.loop (σ:=Nat × Value) (fun s=>[(6,s.2),(25,p),(26,.int .i64 vs.length),(27,.int .i64 s.1)]) (fun s w'=>s.1≤vs.length∧Ext w1 w'∧w'.ownsRow w1.heap.size 30 1 s.2 (fl css s.1).length (fl css s.1)) (fun s=>vs.length-s.1) ((0,v2)) ⟨rfl,rfl,rfl,rfl,trivial⟩ ⟨Nat.zero_le _,he2,hO2⟩ ?_
 rintro ⟨k,s⟩ w3 ⟨hk,he3,hO3⟩
 simp only at hk hO3
 refine T.q (L.o (O.bF rfl rfl (fun hlt2=>?_) (fun hlt2=>?_)))
 ·refine L.nil (?_)
  have hlt':k<css.length:=by simp only at hlt2;omega
  have hs:=(hv.ext he3).2 k hlt'
  have hp3:Sl lo w3 p vs.length 1 vs:=Sl.ext hp he3
  have hfl:=Vf css (k+1)
  have hfs:=congrArg List.length (sV css k hlt')
  rw [List.length_append] at hfs
  refine T.seq (T.ct (T.skip (T.seq (T.block (T.q (L.o (O.indexAddr runUnderlying308 sizeOf125 rfl rfl hp3 (by omega) (by omega) (L.o (O.load isAgg125 rfl (by rw [Int.toNat_natCast,Nat.mul_one];exact Sl.cell hp3 (show vs[k]?=some (vs.getD k undef) by rw [au (by omega)];simp [hvl,hlt'])) (L.a rfl (L.nil (T.region (L.m rfl (L.m rfl (L.o (O.append (size:=1) (bytes:=24) runUnderlying125 Tryz.nT rfl rfl rfl rfl (by decide) rfl rfl hO3 hs (fun c hc=>h1 c (by rw [← List.take_append_drop k css,List.flatten_append];exact List.mem_append_right _ (List.mem_flatten.2 ⟨_,by rw [au hlt'];exact List.mem_drop_iff_getElem.2 ⟨0,by omega,rfl⟩,hc⟩))) (by omega) (by simp only [maxLen];omega) he3.size (fun v4 w4 hO4 hG4=>?_)))))))))))))))))
  have Jm:Ext w1 w4:=Keep.fO he3 hO3 hG4 (Nat.le_refl _)
  refine L.a rfl (L.nil (T.blk (T.region (L.o (O.aI rfl rfl (by simp only;omega) (L.m rfl (L.nil (T.again ((k+1,v4)) (by omega) ⟨rfl,rfl,rfl,rfl,trivial⟩ ⟨by simp only;omega,Jm,by rw [hfs,sV css k hlt'];exact hO4⟩))))))))
 refine L.nil (?_)
 obtain rfl:k=vs.length:=by simp only at hlt2;omega
 rw [hfe] at hO3
 refine T.seq (T.cf (T.exit rfl (T.q (L.m rfl (L.a rfl (L.nil (T.aU results207 rfl ⟨he3,Sl.aT hO3⟩)))))))
def FaV.ri (f:FaV):List RiV:=f.o::f.hs
theorem aa7 {lo:Nat} {w:World} {f:FaV} (h:f.ok lo w):∀ c∈aJ f.ri,c.oneCell'=true:=fun c hc=>by
 simp only [aJ,FaV.ri,List.map_cons,List.mem_cons,List.mem_map] at hc
 rcases hc with rfl|⟨x,hx,rfl⟩
 ·exact Sl.one h.o
 exact Sl.one (h.hs x hx)
theorem FU (lo:Nat) (oa ob:Option Addr) (cap cap2:Nat) (os:List Int) (hs:List RiV) (w:World) (hf:FaV.ok lo w (⟨⟨.slice oa os.length cap,os⟩,.slice ob hs.length cap2,hs⟩:FaV)) (hn:hs.length≤100000) :
  Calls Tryz.prog 176 #[(⟨⟨.slice oa os.length cap,os⟩,.slice ob hs.length cap2,hs⟩:FaV).val] w (Ret fun v w'=>Ext w w'∧Sl w.heap.size w' v (⟨⟨.slice oa os.length cap,os⟩,.slice ob hs.length cap2,hs⟩:FaV).ri.length 1 (aJ (⟨⟨.slice oa os.length cap,os⟩,.slice ob hs.length cap2,hs⟩:FaV).ri)):=by
 refine T.enter (vs:=[(⟨⟨.slice oa os.length cap,os⟩,.slice ob hs.length cap2,hs⟩:FaV).val]) func176 rfl ntmps176 rfl ?_
 refine T.q (L.o (O.box rfl (fun b1 w1 hb1 hz1 he1 hB1=>?_)))
 have hF1:Blk w1 b1 (⟨⟨.slice oa os.length cap,os⟩,.slice ob hs.length cap2,hs⟩:FaV).cells 127:=hB1
 have hf1:=hf.ext he1
 refine L.a rfl (L.nil (T.q (L.o (O.fieldAddr runUnderlying127 rfl sizeOf30 rfl (L.o (O.load isAgg30 rfl (hF1.cell rfl) (L.o (O.buildSlice (el:=30) (parts:=[(0,.tmp 4)]) (vs:=[(0,_)]) (cs:=[(.slice oa os.length cap)]) rfl (fun w=>by kernel_rfl) (fun b2 w2 hb2 hz2 he2 hB2=>?_)))))))))
 refine L.o (O.fieldAddr runUnderlying127 rfl sizeOf125 rfl (L.o (O.load isAgg125 rfl ((Blk.ext (cs:=(⟨⟨.slice oa os.length cap,os⟩,.slice ob hs.length cap2,hs⟩:FaV).cells) hF1 he2).cell rfl) (L.o (O.buildSlice (el:=125) (parts:=[(0,.tmp 5),(1,.tmp 7)]) (vs:=[(0,_),(1,_)]) (cs:=[.slice (some ⟨b2,0,none⟩) 1 1,(.slice ob hs.length cap2)]) rfl (fun w=>by kernel_rfl) (fun b3 w3 hb3 hz3 he3 hB3=>?_))))))
 have dn:=he2.trans he3
 have hf3:=hf1.ext dn
 have aef:Blk w3 b2 [(.slice oa os.length cap)] 30:=Blk.ext (cs:=[(.slice oa os.length cap)]) hB2 he3
 have hS3:Sl 0 w3 (.slice (some ⟨b3,0,none⟩) 2 2) 2 1 [.slice (some ⟨b2,0,none⟩) 1 1,(.slice ob hs.length cap2)]:=Sl.ay hB3 rfl (Nat.le_refl _) (by decide) (Nat.zero_le _)
 have hL3:LoL 0 w3 [.slice (some ⟨b2,0,none⟩) 1 1,(.slice ob hs.length cap2)] [[(.slice oa os.length cap)],aJ hs]:=⟨rfl,fun i hi=>by
  rcases (show i=0∨i=1 by simp at hi;omega) with rfl|rfl
  ·exact Sl.ay aef rfl (Nat.le_refl _) (by decide) (Nat.zero_le _)
  have h:=hf3.sl.mono (Nat.zero_le lo)
  have e:(aJ hs).length=hs.length:=by simp [aJ]
  show Sl 0 w3 (.slice ob hs.length cap2) (aJ hs).length 1 (aJ hs)
  rw [e];exact h⟩
 have hfl:([[(.slice oa os.length cap)],aJ hs]:List (List Value)).flatten=aJ (⟨⟨.slice oa os.length cap,os⟩,.slice ob hs.length cap2,hs⟩:FaV).ri:=by simp [aJ,FaV.ri]
 have hrl:(aJ (⟨⟨.slice oa os.length cap,os⟩,.slice ob hs.length cap2,hs⟩:FaV).ri).length=(⟨⟨.slice oa os.length cap,os⟩,.slice ob hs.length cap2,hs⟩:FaV).ri.length:=by simp [aJ]
 have amo:(⟨⟨.slice oa os.length cap,os⟩,.slice ob hs.length cap2,hs⟩:FaV).ri.length=hs.length+1:=rfl
 refine L.o (O.call (xs:=[.tmp 8]) call207 rfl rfl (FT 0 0 _ [.slice (some ⟨b2,0,none⟩) 1 1,(.slice ob hs.length cap2)] [[(.slice oa os.length cap)],aJ hs] w3 hS3 hL3 (by rw [hfl,hrl];omega) (by rw [hfl,hrl];omega) (by rw [hfl];exact aa7 hf3)) (fun v4 w4 hq=>?_))
 obtain ⟨he4,hS4⟩:=hq
 refine L.a rfl (L.nil (T.aU results176 rfl ⟨he1.trans (dn.trans he4),?_⟩))
 rw [hfl,hrl] at hS4
 exact hS4.mono (by have:=he1.size;have:=dn.size;omega)
theorem xY (lo:Nat) (f:FaV) (w:World) (hf:f.ok lo w) (hn:f.hs.length≤100000) :
  Calls Tryz.prog 176 #[f.val] w (Ret fun v w'=>Ext w w'∧Sl w.heap.size w' v f.ri.length 1 (aJ f.ri)):=by
 obtain ⟨⟨ov,os⟩,hv,hs⟩:=f
 obtain ⟨oa,cap,e1,_,_⟩:=Sl.val hf.o
 replace e1:ov = .slice oa os.length cap:=e1
 obtain ⟨ob,cap2,e2,_,_⟩:=Sl.val hf.sl
 replace e2:hv = .slice ob hs.length cap2:=e2
 subst e1 e2
 exact FU lo oa ob cap cap2 os hs w hf hn
open Go Go.E
def Pg (xs:List Int):Nat→Int
 | 0=>xs.getD 0 0
 | i+1=>mn (Pg xs i) (xs.getD (i+1) 0)
def Uy (xs:List Int):Nat→Int
 | 0=>xs.getD 0 0
 | i+1=>mx (Uy xs i) (xs.getD (i+1) 0)
theorem QI (xs : List Int) (c : Int) : ∀ n, Pg xs n < c ↔ ∃ j, j ≤ n ∧ xs.getD j 0 < c
  | 0 => ⟨fun h => ⟨0, Nat.le_refl _, h⟩, fun ⟨j, h1, h2⟩ => by obtain rfl : j = 0 := by omega
                                                                exact h2⟩
  | n + 1 => by
    rw [Pg, U5, QI xs c n]
    constructor
    · rintro (⟨j, h1, h2⟩ | h)
      · exact ⟨j, by omega, h2⟩
      exact ⟨n + 1, Nat.le_refl _, h⟩
    rintro ⟨j, h1, h2⟩
    by_cases e : j = n + 1
    · subst e; exact .inr h2
    exact .inl ⟨j, by omega, h2⟩
theorem aeL {a b c:Int} : c≤mx a b↔c≤a∨c≤b:=by unfold mx;split <;> omega
theorem QJ (xs : List Int) (c : Int) : ∀ n, c ≤ Uy xs n ↔ ∃ j, j ≤ n ∧ c ≤ xs.getD j 0
  | 0 => ⟨fun h => ⟨0, Nat.le_refl _, h⟩, fun ⟨j, h1, h2⟩ => by obtain rfl : j = 0 := by omega
                                                                exact h2⟩
  | n + 1 => by
    rw [Uy, aeL, QJ xs c n]
    constructor
    · rintro (⟨j, h1, h2⟩ | h)
      · exact ⟨j, by omega, h2⟩
      exact ⟨n + 1, Nat.le_refl _, h⟩
    rintro ⟨j, h1, h2⟩
    by_cases e : j = n + 1
    · subst e; exact .inr h2
    exact .inl ⟨j, by omega, h2⟩
theorem Bc (lo:Nat) (p:Value) (xs:List Int) (w:World) (hp:Ints .i64 lo w p xs) (h0:0<xs.length) :
  Calls Tryz.prog 180 #[p] w (Ret fun v w'=>v = .int .i64 (Pg xs (xs.length-1))∧w'=w):=by
 have hle:=Sl.le hp
 refine T.enter (vs:=[p]) func180 rfl ntmps180 rfl ?_
 refine T.q (L.a rfl (L.nil (T.seq (T.q (L.m rfl (L.o (O.len runUnderlying30 rfl (Sl.val hp) (L.o (O.xk rfl rfl (by omega) (L.nil (T.cf (T.skip (T.q (L.m rfl (L.o (O.indexAddr runUnderlying30 sizeOf3 rfl rfl hp (by decide) (by omega) (L.o (O.load isAgg3 rfl (Ints.at hp h0) (L.a rfl (L.nil (T.seq (T.q (L.a rfl (?_))))))))))))))))))))))))
 refine L.nil (T.block (?_))
 refine T.loop (σ:=Nat) (fun i=>[(0,p),(3,.int .i64 (Pg xs i)),(4,.int .i64 ((i+1:Nat):Int))]) (fun i w'=>i+1≤xs.length∧w'=w) (fun i=>xs.length-i) (0) ⟨rfl,rfl,rfl,trivial⟩ ⟨h0,rfl⟩ ?_
 rintro i w1 ⟨hi,rfl⟩
 refine T.seq (T.q (L.m rfl (L.m rfl (L.o (O.len runUnderlying30 rfl (Sl.val hp) (L.o (O.bF rfl rfl (fun hlt=>?_) (fun hlt=>?_))))))))
 ·refine L.nil (?_)
  have hlt':i+1<xs.length:=by omega
  refine T.ct (T.skip (T.seq (T.block (T.region (L.m rfl (L.m rfl (L.m rfl (L.o (O.indexAddr runUnderlying30 sizeOf3 rfl rfl hp (by omega) (by omega) (L.o (O.load isAgg3 rfl (Ints.at hp hlt') (L.o (O.min rfl rfl (L.a rfl (L.nil (T.blk (T.region (L.m rfl (L.o (O.aI rfl rfl (by omega) (L.a rfl (L.nil (T.again (i+1) (by omega) ⟨rfl,rfl,rfl,trivial⟩ ⟨hlt',rfl⟩)))))))))))))))))))))))
 refine L.nil (?_)
 obtain rfl:i=xs.length-1:=by omega
 refine T.cf (T.exit rfl (T.q (L.m rfl (L.a rfl (L.nil (T.aU results180 rfl ⟨rfl,rfl⟩))))))
theorem NP (lo:Nat) (p:Value) (xs:List Int) (w:World) (hp:Ints .i64 lo w p xs) (h0:0<xs.length) :
  Calls Tryz.prog 181 #[p] w (Ret fun v w'=>v = .int .i64 (Uy xs (xs.length-1))∧w'=w):=by
 have hle:=Sl.le hp
 refine T.enter (vs:=[p]) func181 rfl ntmps181 rfl ?_
 refine T.q (L.a rfl (L.nil (T.seq (T.q (L.m rfl (L.o (O.len runUnderlying30 rfl (Sl.val hp) (L.o (O.xk rfl rfl (by omega) (L.nil (T.cf (T.skip (T.q (L.m rfl (L.o (O.indexAddr runUnderlying30 sizeOf3 rfl rfl hp (by decide) (by omega) (L.o (O.load isAgg3 rfl (Ints.at hp h0) (L.a rfl (L.nil (T.seq (T.q (L.a rfl (?_))))))))))))))))))))))))
 refine L.nil (T.block (?_))
 refine T.loop (σ:=Nat) (fun i=>[(0,p),(3,.int .i64 (Uy xs i)),(4,.int .i64 ((i+1:Nat):Int))]) (fun i w'=>i+1≤xs.length∧w'=w) (fun i=>xs.length-i) (0) ⟨rfl,rfl,rfl,trivial⟩ ⟨h0,rfl⟩ ?_
 rintro i w1 ⟨hi,rfl⟩
 refine T.seq (T.q (L.m rfl (L.m rfl (L.o (O.len runUnderlying30 rfl (Sl.val hp) (L.o (O.bF rfl rfl (fun hlt=>?_) (fun hlt=>?_))))))))
 ·refine L.nil (?_)
  have hlt':i+1<xs.length:=by omega
  refine T.ct (T.skip (T.seq (T.block (T.region (L.m rfl (L.m rfl (L.m rfl (L.o (O.indexAddr runUnderlying30 sizeOf3 rfl rfl hp (by omega) (by omega) (L.o (O.load isAgg3 rfl (Ints.at hp hlt') (L.o (O.max rfl rfl (L.a rfl (L.nil (T.blk (T.region (L.m rfl (L.o (O.aI rfl rfl (by omega) (L.a rfl (L.nil (T.again (i+1) (by omega) ⟨rfl,rfl,rfl,trivial⟩ ⟨hlt',rfl⟩)))))))))))))))))))))))
 refine L.nil (?_)
 obtain rfl:i=xs.length-1:=by omega
 refine T.cf (T.exit rfl (T.q (L.m rfl (L.a rfl (L.nil (T.aU results181 rfl ⟨rfl,rfl⟩))))))
open Go Go.E
theorem QK {ps:List Pt} {l:List Int} (hf:NfL ps) (hl:IxL ps.length l):NfL (cor ps 1 l):=fun i hi=>by
 have hi':i<l.length:=by rw [lJ] at hi;exact hi
 rw [Jj hi']
 have h:=hf (l.getD i 0).toNat (by have:=hl i hi';omega)
 simp only [Ip,Int.one_mul];exact h
theorem aa8 {ps:List Pt} {l:List Int} (hf:NfL ps) (hl:IxL ps.length l):NmL (cor ps 1 l):=fun i hi=>by
 have:=mV (QK hf hl i hi)
 unfold Nm;omega
def jW (ps:List Pt) (l:List Int):Bool:=decide (0<iJ (cor ps 1 l))
def iK (ps:List Pt) (r:Int) (l:List Int):Bool:=decide (bW (cor ps 1 l) (cor ps 1 l).length<0) == decide (r=0)
theorem FV (lo lo2 b:Nat) (c:CxV) (r:Int) (h:RiV) (w:World) (hB:Blk w b c.cells 46) (hc:Pts lo w c.pv c.ps) (hh:Ints .i64 lo2 w h.v h.xs) (hf:NfL c.ps) (hl:Jl c.ps.length h) :
  Calls Tryz.prog 183 #[.int .i64 r,h.v,.pointer (some ⟨b,0,none⟩)] w (Ret fun v w'=>v = .bool (jW c.ps h.xs)∧Ext w w'):=by
 refine T.enter (vs:=[.int .i64 r,h.v,.pointer (some ⟨b,0,none⟩)]) func183 rfl ntmps183 rfl ?_
 refine T.q (L.a rfl (L.nil (T.q (L.o (O.ak isAgg46 sizeOf46 rfl rfl hB.row (L.m rfl (L.o (O.call (xs:=[.tmp 6,.tmp 7,.const (.int .i64 1)]) call185 rfl rfl (gZ lo lo2 c h.v h.xs 1 w hc hh hf (.inl rfl) hl.1 hl.2) (fun v1 w1 hq=>?_)))))))))
 obtain ⟨he1,hP1⟩:=hq
 refine L.o (O.call (xs:=[.tmp 8]) call184 rfl rfl (xX _ v1 (cor c.ps 1 h.xs) w1 hP1 (QK hf hl.1)) (fun v2 w2 hq=>?_))
 obtain ⟨rfl,he2⟩:=hq
 refine L.o (O.neq rfl rfl (L.a rfl (L.nil (T.aU results183 rfl ⟨?_,he1.trans he2⟩))))
 refine congrArg Value.bool ?_
 by_cases hk:0<iJ (cor c.ps 1 h.xs)
 ·rw [jW,decide_eq_true hk,if_pos hk];rfl
 rw [jW,decide_eq_false hk,if_neg hk];rfl
theorem FX (lo lo2 b:Nat) (c:CxV) (r:Int) (h:RiV) (w:World) (hB:Blk w b c.cells 46) (hc:Pts lo w c.pv c.ps) (hh:Ints .i64 lo2 w h.v h.xs) (hf:NfL c.ps) (hl:Jl c.ps.length h) :
  Calls Tryz.prog 187 #[.int .i64 r,h.v,.pointer (some ⟨b,0,none⟩)] w (Ret fun v w'=>v = .bool (iK c.ps r h.xs)∧Ext w w'):=by
 refine T.enter (vs:=[.int .i64 r,h.v,.pointer (some ⟨b,0,none⟩)]) func187 rfl ntmps187 rfl ?_
 refine T.q (L.a rfl (L.nil (T.q (L.o (O.ak isAgg46 sizeOf46 rfl rfl hB.row (L.m rfl (L.o (O.call (xs:=[.tmp 6,.tmp 7,.const (.int .i64 1)]) call185 rfl rfl (gZ lo lo2 c h.v h.xs 1 w hc hh hf (.inl rfl) hl.1 hl.2) (fun v1 w1 hq=>?_)))))))))
 obtain ⟨he1,hP1⟩:=hq
 refine L.o (O.call (xs:=[.tmp 8]) call188 rfl rfl (NI _ v1 (cor c.ps 1 h.xs) w1 hP1 (aa8 hf hl.1) (by rw [lJ];exact hl.2)) (fun v2 w2 hq=>?_))
 obtain ⟨rfl,he2⟩:=hq
 refine L.o (O.lss rfl rfl (L.m rfl (L.o (O.eql rfl rfl (L.o (O.Ci runUnderlying4 rfl rfl (L.a rfl (L.nil (T.aU results187 rfl ⟨rfl,he1.trans he2⟩)))))))))
open Go Go.E
def badR (ps:List Pt) (_:Int) (l:List Int):Bool:=jW ps l
def rW (ri:List RiV) (bad:Int→List Int→Bool):Bool:=decide (∃ k:Nat,k<ri.length∧bad k (ri.getD k r0).xs=true)
theorem FaV.ok.ri {lo:Nat} {w:World} {f:FaV} (h:f.ok lo w):∀ x∈f.ri,Ints .i64 lo w x.v x.xs:=fun x hx=>by
 simp only [FaV.ri,List.mem_cons] at hx
 rcases hx with rfl|hx
 ·exact h.o
 exact h.hs x hx
open Go Go.E
def pre {α:Type} (g:Nat→List α) (k:Nat):List α:=(List.range k).flatMap g
theorem Dp {α:Type} (g:Nat→List α) (k:Nat):pre g (k+1)=pre g k++g k:=by
 simp [pre,List.range_succ]
theorem FY {α:Type} (g:Nat→List α) (k:Nat):∀ m,∃ t,pre g (k+1+m)=pre g k++g k++t
 | 0=>⟨[],by rw [Nat.add_zero,Dp];simp⟩
 | m+1=>by
  obtain ⟨t,h⟩:=FY g k m
  exact ⟨t++g (k+1+m),by rw [show k+1+(m+1)=(k+1+m)+1 by omega,Dp,h];simp⟩
theorem pre_at {α:Type} (g:Nat→List α) {k n:Nat} (hk:k<n) (j:Nat) (hj:j<(g k).length) (d:α):(pre g n).getD ((pre g k).length+j) d=(g k).getD j d:=by
 obtain ⟨t,h⟩:=FY g k (n-(k+1))
 rw [show k+1+(n-(k+1))=n by omega] at h
 rw [h]
 simp only [List.getD]
 rw [List.append_assoc,List.getElem?_append_right (by omega),Nat.add_sub_cancel_left,List.getElem?_append_left hj]
theorem sW {α:Type} (g:Nat→List α) (k:Nat):(pre g (k+1)).length=(pre g k).length+(g k).length:=by rw [Dp,List.length_append]
theorem XE {α : Type} (g : Nat → List α) {k n : Nat} (hk : k ≤ n) : (pre g k).length ≤ (pre g n).length := by
  induction n with
  | zero => obtain rfl : k = 0 := by omega
            exact Nat.le_refl _
  | succ n ih =>
    by_cases h : k = n + 1
    · subst h; exact Nat.le_refl _
    have := ih (by omega); rw [sW]; omega
def st0:St:=⟨0,0,0,0⟩
def nI (l:List Int) (i:Nat):Nat:=(l.getD i 0).toNat
def stR (f r:Nat) (l:List Int):List St:=(List.range l.length).map fun i=>⟨nI l i,nI l ((i+1) % l.length),f,r⟩
def gR (f:Nat) (ri:List RiV) (r:Nat):List St:=stR f r (ri.getD r r0).xs
def stF (f:Nat) (ri:List RiV):List St:=pre (gR f ri) ri.length
def gF (fs:List FaV) (f:Nat):List St:=stF f (fs.getD f f0).ri
def stL (fs:List FaV):List St:=pre (gF fs) fs.length
theorem Dq (f r:Nat) (l:List Int):(stR f r l).length=l.length:=by simp [stR]
theorem aa9 (f r:Nat) (l:List Int) {i:Nat} (hi:i<l.length):(stR f r l).getD i st0=⟨nI l i,nI l ((i+1) % l.length),f,r⟩:=by
 rw [au (by rw [Dq];exact hi)];simp [stR]
def Dt (fs:List FaV) (f r i:Nat):Nat:=(pre (gF fs) f).length+((pre (gR f (fs.getD f f0).ri) r).length+i)
theorem abb {fs:List FaV} {f r i:Nat} (hf:f<fs.length) (hr:r<(fs.getD f f0).ri.length) (hi:i<((fs.getD f f0).ri.getD r r0).xs.length) :
  Dt fs f r i<(stL fs).length∧(stL fs).getD (Dt fs f r i) st0=⟨nI ((fs.getD f f0).ri.getD r r0).xs i,nI ((fs.getD f f0).ri.getD r r0).xs ((i+1) % ((fs.getD f f0).ri.getD r r0).xs.length),f,r⟩:=by
 have hgr:(gR f (fs.getD f f0).ri r).length=((fs.getD f f0).ri.getD r r0).xs.length:=Dq _ _ _
 have h1:(pre (gR f (fs.getD f f0).ri) r).length+i<(gF fs f).length:=by
  have:=XE (gR f (fs.getD f f0).ri) (k:=r+1) (n:=(fs.getD f f0).ri.length) hr
  rw [sW,hgr] at this
  show _<(stF f (fs.getD f f0).ri).length
  unfold stF;omega
 refine ⟨?_,?_⟩
 ·have:=XE (gF fs) (k:=f+1) (n:=fs.length) hf
  rw [sW] at this
  unfold Dt stL;omega
 unfold Dt stL
 rw [pre_at (gF fs) hf _ h1]
 show (pre (gR f (fs.getD f f0).ri) (fs.getD f f0).ri.length).getD _ st0=_
 rw [pre_at _ hr i (by rw [hgr];exact hi)]
 exact aa9 _ _ _ hi
theorem aeM (fs:List FaV) (f r:Nat):Dt fs f (r+1) 0=Dt fs f r ((fs.getD f f0).ri.getD r r0).xs.length:=by
 have hgr:(gR f (fs.getD f f0).ri r).length=((fs.getD f f0).ri.getD r r0).xs.length:=Dq _ _ _
 unfold Dt;rw [sW,hgr];omega
theorem aeN (fs:List FaV) (f:Nat):Dt fs (f+1) 0 0=Dt fs f (fs.getD f f0).ri.length 0:=by
 have e:(gF fs f).length=(pre (gR f (fs.getD f f0).ri) (fs.getD f f0).ri.length).length:=rfl
 have e0:∀ g:Nat→List St,(pre g 0).length=0:=fun g=>rfl
 unfold Dt;rw [sW,e,e0];omega
theorem Yz (fs:List FaV):Dt fs fs.length 0 0=(stL fs).length:=by
 have e0:∀ g:Nat→List St,(pre g 0).length=0:=fun g=>rfl
 unfold Dt stL;rw [e0];omega
theorem aeO (fs:List FaV) (f r i:Nat):Dt fs f r i+1=Dt fs f r (i+1):=by unfold Dt;omega
def abd (L:List St) (i:Nat) (v:Value) (j:Nat):Prop:=i<L.length∧v=(L.getD i st0).val∧j=i+1
theorem Sl.hold {lo:Nat} {w w':World} {v:Value} {n sz:Nat} {cs:List Value} (h:Sl lo w v n sz cs) (hb:0<n→w'.heap[(jd v).block]?=w.heap[(jd v).block]?):Sl lo w' v n sz cs:=by
 obtain ⟨hl,oa,cap,rfl,hc,hm,hr⟩:=h
 refine ⟨hl,oa,cap,rfl,hc,hm,?_⟩
 rcases hr with hr|⟨a,rfl,h1,h2⟩
 ·exact .inl hr
 by_cases hn:n=0
 ·exact .inl hn
 exact .inr ⟨a,rfl,h1,fun j u hj=>(World.cell?_of_block (by rw [add_block];exact hb (by omega))).trans (h2 j u hj)⟩
theorem FZ {lo:Nat} {w:World} {f:FaV} (h:f.ok lo w):∀ u∈f.cells,u.oneCell'=true:=fun u hu=>by
 simp only [FaV.cells,List.mem_cons,List.mem_nil_iff,or_false] at hu
 rcases hu with rfl|rfl
 ·exact Sl.one h.o
 exact Sl.one h.sl
def IxC (c:CxV):Prop:=∀ f∈c.fs,f.hs.length≤100000∧∀ h∈f.ri,Jl c.ps.length h
theorem lK (c:CxV) (w:World) :
  Calls Tryz.prog 209 #[c.val] w (Ret fun v w'=>v = .func (.func 245) #[] #[.pointer (some ⟨w.heap.size,0,none⟩)]∧Ext w w'∧Blk w' w.heap.size c.cells 46):=by
 refine T.enter (vs:=[c.val]) func209 rfl ntmps209 rfl ?_
 refine T.q (L.o (O.box rfl (fun b1 w1 hb1 hz1 he1 hB1=>?_)))
 subst hb1
 refine L.a rfl (L.nil (T.q (L.o (O.makeFunc (fi:=[]) (ca:=[.tmp 1]) rfl rfl (L.a rfl (L.nil (T.aU results209 rfl ⟨rfl,he1,hB1⟩)))))))
theorem F5 (l b lo:Nat) (c:CxV) (hx:IxC c) (J:Nat→(Nat→Prop)→World→Prop) (X:World→Prop) (w:World) (hJ:zU J) (hInv:∀ i S W,J i S W→c.ok lo W∧Blk W b c.cells 46) (lU:∀ i v j S W,abd (stL c.fs) i v j→J i S W→Yld Tryz.prog l #[v] W fun u W'=>(u = .bool true∧J j S W'∧∀ k,S k→W'.heap[k]?=W.heap[k]?)∨(u = .bool false∧X W')) (h0:J 0 (fun _=>False) w) :
  Calls Tryz.prog 245 #[.func (.yield l) #[] #[],.pointer (some ⟨b,0,none⟩)] w (Ret fun _ w'=>(∃ S:Nat→Prop,(∀ k,False→S k)∧J (stL c.fs).length S w')∨X w'):=by
 have hI0:=hInv _ _ _ h0
 have hle:=Sl.le hI0.1.sl
 refine T.enter (vs:=[.func (.yield l) #[] #[],.pointer (some ⟨b,0,none⟩)]) func245 rfl ntmps245 rfl ?_
 refine T.q (L.o (O.fieldAddr runUnderlying46 rfl sizeOf44 rfl (L.o (O.load isAgg44 rfl (hI0.2.cell rfl) (L.o (O.len runUnderlying44 rfl (Sl.val hI0.1.sl) (L.m rfl (L.nil (T.block (?_))))))))))
 refine T.loop (σ:=Nat) (fun f=>[(0,.func (.yield l) #[] #[]),(1,.pointer (some ⟨b,0,none⟩)),(10,c.fv),(11,.int .i64 c.fs.length),(12,.int .i64 f)]) (fun f w'=>f≤c.fs.length∧∃ S:Nat→Prop,J (Dt c.fs f 0 0) S w') (fun f=>c.fs.length-f) (0) ⟨rfl,rfl,rfl,rfl,rfl,trivial⟩ ⟨Nat.zero_le _,fun _=>False,h0⟩ ?_
 rintro f w1 ⟨hf,S,hj⟩
 have hI1:=hInv _ _ _ hj
 refine T.q (L.o (O.bF rfl rfl (fun hlt=>?_) (fun hlt=>?_)))
 ·refine L.nil (?_)
  have hlt':f<c.fs.length:=by omega
  have hfo:=hI1.1.at hlt'
  have hmem:c.fs.getD f f0∈c.fs:=by rw [au hlt'];exact List.getElem_mem hlt'
  obtain ⟨hn,hri⟩:=hx _ hmem
  refine T.seq (T.ct (T.skip (T.seq (T.block (T.q (L.m rfl (L.o (O.indexAddr runUnderlying44 sizeOf127 rfl rfl hI1.1.sl (by omega) (by omega) (L.o (O.ak isAgg127 sizeOf127 rfl rfl (hI1.1.row hlt') (L.o (O.alloc zeroValue127 (fun b2 w2 hb2 hz2 he2 hB2=>?_)))))))))))))
  refine L.a rfl (L.o (O.aC sizeOf127 rfl rfl rfl hB2 (Nat.le_refl _) (FZ hfo) (fun w3 hu3 hB3=>?_)))
  have hX3:Blk w3 b2 (c.fs.getD f f0).cells 127:=hB3
  have dn:Ext w1 w3:=he2.upd hu3 (.inr (by omega))
  refine L.nil (T.q (L.o (O.ak isAgg127 sizeOf127 rfl rfl hX3.row (L.o (O.call (xs:=[.tmp 17]) call176 rfl rfl (xY lo (c.fs.getD f f0) w3 (hfo.ext dn) hn) (fun v4 w4 hq=>?_))))))
  obtain ⟨he4,hS4⟩:=hq
  have eX:=dn.trans he4
  have hj4:=hJ.1 _ _ (fun k=>S k∨w1.heap.size≤k∧k<w4.heap.size) _ _ hj eX (fun k hk=>hk)
  have amq:=Sl.le hS4
  have hrl:0<(c.fs.getD f f0).ri.length:=Nat.succ_pos _
  have hSb:(fun k=>S k∨w1.heap.size≤k∧k<w4.heap.size) (jd v4).block:=by
   obtain ⟨_,_,_,h1,h2⟩:=Sl.there hS4 hrl
   have:=Row.lt h2 (by simp [aJ,FaV.ri])
   have:=dn.size
   exact .inr ⟨by omega,by omega⟩
  refine L.o (O.len runUnderlying125 rfl (Sl.val hS4) (L.m rfl (L.nil (T.block (?_)))))
  refine T.loop (σ:=Nat) (fun r=>[(0,.func (.yield l) #[] #[]),(1,.pointer (some ⟨b,0,none⟩)),(3,.int .i64 f),(10,c.fv),(11,.int .i64 c.fs.length),(12,.int .i64 f),(18,v4),(19,.int .i64 (c.fs.getD f f0).ri.length),(20,.int .i64 r)]) (fun r w'=>r≤(c.fs.getD f f0).ri.length∧∃ S:Nat→Prop,J (Dt c.fs f r 0) S w'∧Sl w3.heap.size w' v4 (c.fs.getD f f0).ri.length 1 (aJ (c.fs.getD f f0).ri)∧S (jd v4).block) (fun r=>(c.fs.getD f f0).ri.length-r) (0) ⟨rfl,rfl,rfl,rfl,rfl,rfl,rfl,rfl,rfl,trivial⟩ ⟨Nat.zero_le _,_,hj4,hS4,hSb⟩ ?_
  rintro r w5 ⟨hr,S5,hj5,hS5,ajb⟩
  have hI5:=hInv _ _ _ hj5
  refine T.q (L.o (O.bF rfl rfl (fun ajc=>?_) (fun ajc=>?_)))
  ·refine L.nil (?_)
   have QL:r<(c.fs.getD f f0).ri.length:=by omega
   have hm5:(c.fs.getD f f0).ri.getD r r0∈(c.fs.getD f f0).ri:=by rw [au QL];exact List.getElem_mem QL
   have hok:=hri _ hm5
   have hL5:=(hI5.1.at hlt').ri _ hm5
   obtain ⟨xs,hxs⟩:∃ xs,((c.fs.getD f f0).ri.getD r r0).xs=xs:=⟨_,rfl⟩
   refine T.seq (T.ct (T.skip (T.seq (T.block (T.q (L.m rfl (L.o (O.indexAddr runUnderlying125 sizeOf30 rfl rfl hS5 (by omega) (by omega) (L.o (O.load isAgg30 rfl (by rw [Int.toNat_natCast,Nat.mul_one];exact Sl.cell hS5 (FP QL)) (L.a rfl (L.a rfl (L.nil (T.q (L.m rfl (L.o (O.len runUnderlying30 rfl (Sl.val hL5) (L.m rfl (L.nil (T.block (?_)))))))))))))))))))))
   refine T.loop (σ:=Nat) (fun i=>[(0,.func (.yield l) #[] #[]),(1,.pointer (some ⟨b,0,none⟩)),(3,.int .i64 f),(5,.int .i64 r),(6,((c.fs.getD f f0).ri.getD r r0).v),(10,c.fv),(11,.int .i64 c.fs.length),(12,.int .i64 f),(18,v4),(19,.int .i64 (c.fs.getD f f0).ri.length),(20,.int .i64 r),(25,((c.fs.getD f f0).ri.getD r r0).v),(26,.int .i64 ((c.fs.getD f f0).ri.getD r r0).xs.length),(27,.int .i64 i)]) (fun i w'=>i≤((c.fs.getD f f0).ri.getD r r0).xs.length∧∃ S:Nat→Prop,J (Dt c.fs f r i) S w'∧Sl w3.heap.size w' v4 (c.fs.getD f f0).ri.length 1 (aJ (c.fs.getD f f0).ri)∧S (jd v4).block) (fun i=>((c.fs.getD f f0).ri.getD r r0).xs.length-i) (0) ⟨rfl,rfl,rfl,rfl,rfl,rfl,rfl,rfl,rfl,rfl,rfl,rfl,rfl,rfl,trivial⟩ ⟨Nat.zero_le _,_,hj5,hS5,ajb⟩ ?_
   rintro i w6 ⟨hi,S6,hj6,hS6,aeP⟩
   have hI6:=hInv _ _ _ hj6
   have hlx:=hok.2
   refine T.q (L.o (O.bF rfl rfl (fun ajd=>?_) (fun ajd=>?_)))
   ·refine L.nil (?_)
    have Vg:i<((c.fs.getD f f0).ri.getD r r0).xs.length:=by omega
    have hL6:=(hI6.1.at hlt').ri _ hm5
    have hm:(i+1) % ((c.fs.getD f f0).ri.getD r r0).xs.length<((c.fs.getD f f0).ri.getD r r0).xs.length:=Nat.mod_lt _ (by omega)
    have hmi:((i:Int)+1) % (((c.fs.getD f f0).ri.getD r r0).xs.length:Int)=(((i+1) % ((c.fs.getD f f0).ri.getD r r0).xs.length:Nat):Int):=by rw [show (i:Int)+1=((i+1:Nat):Int) by omega];rfl
    have hat:=abb hlt' QL Vg
    refine T.seq (T.ct (T.skip (T.seq (T.block (T.q (L.m rfl (L.o (O.indexAddr runUnderlying30 sizeOf3 rfl rfl hL6 (by omega) (by omega) (L.o (O.load isAgg3 rfl (Ints.at hL6 Vg) (L.a rfl (L.a rfl (L.nil (T.q (L.m rfl (L.m rfl (L.m rfl (L.m rfl (L.o (O.aI rfl rfl (by omega) (L.m rfl (L.o (O.len runUnderlying30 rfl (Sl.val hL6) (L.o (O.rem rfl rfl (by omega) (by omega) (?_))))))))))))))))))))))))))
    rw [hmi]
    refine L.o (O.indexAddr runUnderlying30 sizeOf3 rfl rfl hL6 (by omega) (by omega) (L.o (O.load isAgg3 rfl (Ints.at hL6 hm) (?_))))
    have hv:Value.agg #[.int .i64 (((c.fs.getD f f0).ri.getD r r0).xs.getD i 0),.int .i64 (((c.fs.getD f f0).ri.getD r r0).xs.getD ((i+1) % ((c.fs.getD f f0).ri.getD r r0).xs.length) 0),.int .i64 f,.int .i64 r]=((stL c.fs).getD (Dt c.fs f r i) st0).val:=by
     have h1:=hok.1 _ Vg
     have h2:=hok.1 _ hm
     rw [hat.2]
     simp only [St.val,nI,Int.toNat_of_nonneg h1.1,Int.toNat_of_nonneg h2.1]
    refine L.m rfl (L.m rfl (L.o (O.build (v:=.agg #[.int .i64 (((c.fs.getD f f0).ri.getD r r0).xs.getD i 0),.int .i64 (((c.fs.getD f f0).ri.getD r r0).xs.getD ((i+1) % ((c.fs.getD f f0).ri.getD r r0).xs.length) 0),.int .i64 f,.int .i64 r]) (parts:=[(0,.tmp 33),(1,.tmp 41),(2,.tmp 42),(3,.tmp 43)]) (vs:=[(0,_),(1,_),(2,_),(3,_)]) rfl (fun w=>by kernel_rfl) (?_))))
    rw [hv]
    refine L.o (O.yield (xs:=[.tmp 44]) rfl rfl rfl (lU _ _ _ S6 _ ⟨hat.1,rfl,rfl⟩ hj6) (fun v7 w7 hq=>?_))
    obtain hq:=hq
    rcases hq with ⟨rfl,hj7,hk7⟩|⟨rfl,hX⟩
    ·refine L.o (O.not rfl (L.nil (T.cf (T.skip (T.blk (T.region (L.o (O.aI rfl rfl (by omega) (L.m rfl (L.nil (T.again (i+1) (by omega) ⟨rfl,rfl,rfl,rfl,rfl,rfl,rfl,rfl,rfl,rfl,rfl,rfl,rfl,rfl,trivial⟩ ⟨Vg,S6,by rw [← aeO];exact hj7,Sl.hold hS6 (fun _=>hk7 _ aeP),aeP⟩)))))))))))
    refine L.o (O.not rfl (L.nil (T.ct (T.ac4 results245 (.inr hX)))))
   refine L.nil (?_)
   obtain rfl:i=((c.fs.getD f f0).ri.getD r r0).xs.length:=by omega
   refine T.seq (T.cf (T.exit rfl (T.blk (T.region (L.o (O.aI rfl rfl (by omega) (L.m rfl (L.nil (T.again (r+1) (by omega) ⟨rfl,rfl,rfl,rfl,rfl,rfl,rfl,rfl,rfl,trivial⟩ ⟨QL,S6,by rw [aeM];exact hj6,hS6,aeP⟩)))))))))
  refine L.nil (?_)
  obtain rfl:r=(c.fs.getD f f0).ri.length:=by omega
  refine T.seq (T.cf (T.exit rfl (T.blk (T.region (L.o (O.aI rfl rfl (by omega) (L.m rfl (L.nil (T.again (f+1) (by omega) ⟨rfl,rfl,rfl,rfl,rfl,trivial⟩ ⟨hlt',S5,by rw [aeN];exact hj5⟩)))))))))
 refine L.nil (?_)
 obtain rfl:f=c.fs.length:=by omega
 rw [Yz] at hj
 refine T.seq (T.cf (T.exit rfl (T.Po results245 (.inl ⟨S,fun _ h=>h.elim,hj⟩))))
theorem qM (b lo:Nat) (c:CxV) (hx:IxC c):X6 Tryz.prog 245 #[.pointer (some ⟨b,0,none⟩)] (abd (stL c.fs)) 0 (stL c.fs).length (fun W=>c.ok lo W∧Blk W b c.cells 46) (fun _=>False) (fun _=>True) :=
 fun l J X W hJ hInv lU h0 _=>F5 l b lo c hx J X W hJ hInv lU h0
end Go.Proofs.YtnlonpcbgjbbaaaGreatDoor
