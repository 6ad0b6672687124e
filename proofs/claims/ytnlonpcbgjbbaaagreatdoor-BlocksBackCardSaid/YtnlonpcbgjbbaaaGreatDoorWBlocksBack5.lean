/-
  BlocksBack, part 5 of its proof: that it returns true for every input, and each argument reads behind the call as it read before. Conditions: the listed variables read as the program's text lays them (tied by the card).
-/
import Derived.Test.YtnlonpcbgjbbaaaGreatDoorWBlocksBack4
set_option linter.unusedVariables false
set_option linter.unusedSimpArgs false
set_option maxRecDepth 20000
set_option linter.unusedVariables false
set_option linter.unusedSimpArgs false
set_option maxRecDepth 20000
namespace Go.Proofs.YtnlonpcbgjbbaaaGreatDoor
open Go.Proofs.Tryz (func125 func126 isAgg5 isAgg57 isAgg87 ntmps125 ntmps126 results125 results126 runUnderlying3 runUnderlying5 runUnderlying54 runUnderlying57 runUnderlying59 runUnderlying87 sizeOf5 sizeOf57 sizeOf87)
open Go Go.E
attribute [local irreducible] Go.E.T Go.E.L Go.E.O Go.E.Ob
def Xr (u v:UnV):List Bool:=[decide (u.nm=v.nm),decide (u.pp=v.pp),u.wt == v.wt,decide (u.gs=v.gs),decide (u.vs=v.vs),decide (u.ps=v.ps)]
def UU (u v:UnV):Bool:=(Xr u v).all id
theorem dL {u v:UnV} : UU u v=true↔u.nm=v.nm∧u.pp=v.pp∧u.wt=v.wt∧u.gs=v.gs∧u.vs=v.vs∧u.ps=v.ps:=by
 simp only [UU,Xr,List.all_cons,List.all_nil,id,Bool.and_eq_true,decide_eq_true_eq,beq_iff_eq,and_true]
def Fq (us vs:List UnV):Prop:=us.length=vs.length∧∀ i,i<us.length→UU (us.getD i u0) (vs.getD i u0)=true
open Classical in
noncomputable def Je (us vs:List UnV):Bool:=if Fq us vs then true else false
theorem Nu {us vs:List UnV} (h:Fq us vs):Je us vs=true:=if_pos h
theorem Ql {us vs:List UnV} (h:¬ Fq us vs):Je us vs=false:=if_neg h
noncomputable def vW (a b:RoV):Bool:=(decide (a.G=b.G) && (decide (a.P=b.P) && decide (a.L=b.L))) && Je a.us b.us
open Go Go.E
structure Dr where
 wd:Int
 hi:Int
 cv:Value
 cs:List Int
 sv:Value
 ss:List Int
 ho:Bool
 g:Int
 p:Int
 l:Int
 nv:Value
 ns:List Int
 wa:Int
def Dr.cells (d:Dr):List Value:=[.int .u8 d.wd,.int .u8 d.hi,d.cv,d.sv,.bool d.ho,.int .u8 d.g,.int .u8 d.p,.int .u8 d.l,d.nv,.int .u8 d.wa]
def Dr.val (d:Dr):Value:=.agg d.cells.toArray
def qH (x:Int):Prop:=0≤x∧x≤255
structure Dr.ok (lo:Nat) (w:World) (d:Dr):Prop where
 c:Ints .u8 lo w d.cv d.cs
 s:Ints .u8 lo w d.sv d.ss
 n:Ints .u16 lo w d.nv d.ns
 cl:∀ j,j<d.cs.length→qH (d.cs.getD j 0)
 sl:∀ j,j<d.ss.length→qH (d.ss.getD j 0)
 nl:∀ j,j<d.ns.length→0≤d.ns.getD j 0∧d.ns.getD j 0≤65535
 w0:qH d.wd
 h0:qH d.hi
 g0:qH d.g
 p0:qH d.p
 l0:qH d.l
 a0:qH d.wa
theorem Dr.ok.ext {lo:Nat} {w w':World} {d:Dr} (h:d.ok lo w) (k:Ext w w'):d.ok lo w':=⟨h.c.ext k,h.s.ext k,h.n.ext k,h.cl,h.sl,h.nl,h.w0,h.h0,h.g0,h.p0,h.l0,h.a0⟩
def EJ (ns:List Int) (i:Nat):Int:=if ns = [] then 100+(7*i:Nat) % 31 else ns.getD (i % ns.length) 0
theorem xM {ns:List Int} (h:∀ j,j<ns.length→0≤ns.getD j 0∧ns.getD j 0≤65535) (i:Nat):0≤EJ ns i∧EJ ns i≤65535:=by
 unfold EJ
 split
 ·omega
 rename_i hn
 have:0<ns.length:=List.length_pos_iff.2 hn
 exact h _ (Nat.mod_lt _ this)
def xO (ns:List Int) (i:Nat):Int:=if ns = [] then 0 else ns.getD (i % ns.length) 0
theorem Dh {ns:List Int} (h:∀ j,j<ns.length→qH (ns.getD j 0)) (i:Nat):0≤xO ns i∧xO ns i≤255:=by
 unfold xO
 split
 ·omega
 rename_i hn
 have:0<ns.length:=List.length_pos_iff.2 hn
 exact h _ (Nat.mod_lt _ this)
theorem nY (lo:Nat) (p:Value) (xs:List Int) (i:Nat) (w:World) (hp:Ints .u8 lo w p xs) (hl:∀ j,j<xs.length→qH (xs.getD j 0)) (hi:i≤1000) :
  Calls Tryz.prog 125 #[p,.int .i64 i] w (Ret fun v w'=>v = .int .i64 (xO xs i)∧w'=w):=by
 have hle:=Sl.le hp
 refine T.enter (vs:=[p,.int .i64 i]) func125 rfl ntmps125 rfl ?_
 refine T.q (L.a rfl (L.nil (T.seq (T.q (L.m rfl (L.o (O.len runUnderlying54 rfl (Sl.val hp) (L.o (O.jw rfl rfl (fun h0=>?_) (fun h0=>?_))))))))))
 ·refine L.nil (T.ct (T.q (L.a rfl (L.nil (T.aU results125 rfl ⟨by rw [xO,if_pos (List.length_eq_zero_iff.1 (by omega))],rfl⟩)))))
 refine L.nil (?_)
 have hpos:0<xs.length:=by omega
 have hm:(i:Int) % (xs.length:Int)=((i % xs.length:Nat):Int):=by simp
 have hlt:i % xs.length<xs.length:=Nat.mod_lt _ hpos
 have hv:=hl _ hlt
 refine T.cf (T.skip (T.q (L.m rfl (L.m rfl (L.m rfl (L.o (O.len runUnderlying54 rfl (Sl.val hp) (L.o (O.rem rfl rfl (by omega) (by omega) (?_))))))))))
 rw [hm]
 refine L.o (O.indexAddr runUnderlying54 sizeOf5 rfl rfl hp (by omega) (by omega) (L.o (O.load isAgg5 rfl (Ints.at hp hlt) (?_))))
 unfold qH at hv
 refine L.o (O.fC rfl (fun w=>⟨_,runUnderlying5 w⟩) runUnderlying3 (IntWalk.i64_in _ ⟨by omega,by omega⟩) (L.a rfl (L.nil (T.aU results125 rfl ⟨by rw [xO,if_neg (fun h=>by rw [h] at hpos;simp at hpos)],rfl⟩))))
theorem nZ (lo:Nat) (d:Dr) (i:Nat) (w:World) (hd:d.ok lo w) (hi:i≤1000) :
  Calls Tryz.prog 126 #[d.val,.int .i64 i] w (Ret fun v w'=>v = .int .i64 (EJ d.ns i)∧Ext w w'):=by
 refine T.enter (vs:=[d.val,.int .i64 i]) func126 rfl ntmps126 rfl ?_
 refine T.q (L.o (O.box rfl (fun b1 w1 hb1 hz1 he1 hB1=>?_)))
 have hC1:Blk w1 b1 d.cells _:=hB1
 have hd1:=hd.ext he1
 have hle:=Sl.le hd1.n
 refine L.a rfl (L.nil (T.seq (T.q (L.o (O.fieldAddr runUnderlying59 rfl sizeOf57 rfl (L.o (O.load isAgg57 rfl (hC1.cell rfl) (L.o (O.len runUnderlying57 rfl (Sl.val hd1.n) (L.o (O.jw rfl rfl (fun h0=>?_) (fun h0=>?_))))))))))))
 ·refine L.nil (T.ct (T.q (L.m rfl (L.o (O.l9 rfl rfl (by omega) (L.o (O.rem rfl rfl (by omega) (by omega) (L.o (O.aI rfl rfl (by omega) (L.a rfl (L.nil (T.aU results126 rfl ⟨by rw [EJ,if_pos (List.length_eq_zero_iff.1 (by omega))];simp,he1⟩))))))))))))
 refine L.nil (?_)
 have hpos:0<d.ns.length:=by omega
 have hm:(i:Int) % (d.ns.length:Int)=((i % d.ns.length:Nat):Int):=by simp
 have hlt:i % d.ns.length<d.ns.length:=Nat.mod_lt _ hpos
 have hv:=hd.nl _ hlt
 refine T.cf (T.skip (T.seq (?_)))
 refine T.fJ mixed 7 [2,1] rfl [.is _,.is _,.is _,.is _,.is _,.is _,.is (.int .i64 ((i % d.ns.length:Nat):Int))] [[],[0],[],[],[3],[4],[2,5]] [[],[0],[],[],[3],[3,4],[2,3,4,5],[0,1,2,3,4,5,6],[0,1,2,3,4,5,6,7],[0,1,2,3,4,5,6,7,8],[0,1,2,3,4,5,6,7,8,9]] (by kernel_rfl) (by kernel_rfl) rfl (by kernel_rfl) trivial ⟨fun wx hx=>Ob.o (O.fieldAddr runUnderlying59 rfl sizeOf57 rfl kR),
   fun wx hx=>Ob.o (O.load isAgg57 rfl ((hC1.ext hx).cell rfl) kR),
   fun wx hx=>Ob.o (O.move rfl kR),
   fun wx hx=>Ob.o (O.fieldAddr runUnderlying59 rfl sizeOf57 rfl kR),
   fun wx hx=>Ob.o (O.load isAgg57 rfl ((hC1.ext hx).cell rfl) kR),
   fun wx hx=>Ob.o (O.len runUnderlying57 rfl (Sl.val (hd1.n.ext hx)) kR),
   fun wx hx=>Ob.o (O.rem rfl rfl (by omega) (by omega) ⟨Keep.refl _ _,by rw [hm];rfl⟩),
   trivial⟩ (fun w3 he3=>?_)
 refine L.o (O.indexAddr runUnderlying57 sizeOf87 rfl rfl (hd1.n.ext he3) (by omega) (by omega) (L.o (O.load isAgg87 rfl (Ints.at (hd1.n.ext he3) hlt) (L.o (O.fC rfl (fun w=>⟨_,runUnderlying87 w⟩) runUnderlying3 (IntWalk.i64_in _ ⟨by omega,by omega⟩) (L.a rfl (L.nil (T.aU results126 rfl ⟨by rw [EJ,if_neg (fun h=>by rw [h] at hpos;simp at hpos)],he1.trans he3⟩))))))))
open Go Go.E
attribute [local irreducible] Go.E.ObX
def lG (base:Nat) (w:World) (v:Value) (xs:List Int):Prop:=w.ownsRow base 3 1 v xs.length (xs.map (Value.int .i64))
theorem lG.ints {base:Nat} {w:World} {v:Value} {xs:List Int} (h:lG base w v xs):Ints .i64 base w v xs:=Sl.aT h
theorem lG.ext {base:Nat} {w w':World} {v:Value} {xs:List Int} (h:lG base w v xs) (k:Ext w w'):lG base w' v xs:=aG h k (Nat.zero_le _)
def aea (base n:Nat) (v:Value) (w:World):Prop:=∃ xs:List Int,xs.length≤n∧lG base w v xs
structure Loc (q:Value) (w w':World):Prop where
 os:w'.os=w.os
 tape:w'.tape=w.tape
 output:w'.output=w.output
 size:w.heap.size≤w'.heap.size
 block:∀ k,k<w.heap.size→q.ownBlock≠some k→w'.heap[k]?=w.heap[k]?
theorem Loc.aV {q:Value} {w w':World} (h:Ext w w'):Loc q w w':=⟨h.os,h.tape,h.output,h.size,fun k hk _=>h.block k (Nat.zero_le _) hk⟩
theorem Loc.kJ {q:Value} {b:Nat} {w w':World} (h:Upd b w w') (hb:q.ownBlock=some b):Loc q w w':=⟨h.os,h.tape,h.output,Nat.le_of_eq h.size.symm,fun k _ hk=>h.block k (fun e=>hk (by rw [hb,e]))⟩
theorem Loc.jh {q:Value} {w w':World} (h:w.grownBy w' q.ownBlock):Loc q w w':=⟨h.os,h.tape,h.output,h.size,fun k hk hn=>h.block k hk (fun e=>hn e.symm)⟩
theorem Loc.trans {q:Value} {a b c:World} (h:Loc q a b) (k:Loc q b c):Loc q a c:=⟨k.os.trans h.os,k.tape.trans h.tape,k.output.trans h.output,Nat.le_trans h.size k.size,fun i hi hq=>(k.block i (Nat.lt_of_lt_of_le hi h.size) hq).trans (h.block i hi hq)⟩
theorem Loc.keep {q:Value} {lo:Nat} {w0 w w':World} (h:Loc q w w') (k:Keep lo w0 w) (hq:∀ b,q.ownBlock=some b→w0.heap.size≤b):Keep lo w0 w' :=
 ⟨h.os.trans k.os,h.tape.trans k.tape,h.output.trans k.output,Nat.le_trans k.size h.size,fun i hl hi=>(h.block i (Nat.lt_of_lt_of_le hi k.size) (fun e=>by have:=hq i e;omega)).trans (k.block i hl hi)⟩
theorem wQ {q:Value} {w w':World} {base sz n:Nat} {el:TypeId} {v:Value} {xs:List Value} (h:w.ownsRow base el sz v n xs) (k:Loc q w w') (hn:∀ b,v.ownBlock=some b→q.ownBlock≠some b):w'.ownsRow base el sz v n xs:=by
 refine ⟨h.1,h.2.imp id ?_⟩
 rintro ⟨g,cap,cur,rfl,hb,hg,rest⟩
 exact ⟨g,cap,cur,rfl,hb,(k.block g (Array.getElem?_eq_some_iff.1 hg).1 (hn g rfl)).trans hg,rest⟩
theorem aea.blk {base n b:Nat} {v:Value} {w:World} (h:aea base n v w) (hb:v.ownBlock=some b):∃ xs cs cap,xs.length≤n∧Blk w b cs 3∧v = .slice (some ⟨b,0,none⟩) xs.length cap∧xs.length≤cs.length∧Ints .i64 base w v xs:=by
 obtain ⟨xs,h1,h2⟩:=h
 have hI:=h2.ints
 obtain ⟨_,h3⟩:=h2
 rcases h3 with ⟨rfl,_⟩|⟨g,cap,cur,rfl,hbase,hg,hn,hm,hsz,htk⟩
 ·cases hb
 cases hb
 exact ⟨xs,cur.toList,cap,h1,by unfold Blk;simpa using hg,rfl,by simp [hsz];omega,hI⟩
theorem row_ne {base n b j:Nat} {w:World} {v:Value} {xs cs:List Value} (h:w.ownsRow base 51 6 v n xs) (hv:v.ownBlock=some j) (hB:Blk w b cs 3):j≠b:=fun e=>by
 subst e
 rcases h.2 with ⟨rfl,_⟩|⟨g,cap,cur,rfl,_,hg,_⟩
 ·cases hv
 cases hv
 have:=hB.symm.trans hg
 simp at this
open Go Go.E
section ops
variable {C:Cx} {e:Env} {w:World} {K:Value→World→Prop} {d:Option Tmp} {ty:TypeId} {pos:String} {aft:Array Edge} {g:Option (Nat × Bool)} {x y z x3:Operand} {t:TypeId}
theorem O.slice3 {oa:Option Addr} {n cap sz:Nat} {el:TypeId} {l h m:Nat} (hu:∀ w,(underlying t).run C.P w = .ok (.slice el) w) (hs:∀ w,(sizeOf el).run C.P w = .ok sz w) (hx:ev e x=some (.slice oa n cap)) (hy:ev e y=some (.int .i64 l)) (hz:ev e z=some (.int .i64 h)) (h3:ev e x3=some (.int .i64 m)) (h1:l≤h) (h2:h≤m) (h4:m≤cap) (hk:∀ v,K v w) :
  O C e ⟨d,.slice t x (some y) (some z) (some x3),ty,pos,aft,g⟩ w K :=
 O.of_run (v:=.slice (if m=l then oa else oa.map (·.add (l*sz))) (h-l) (m-l)) (by simp) (fun a ha=>by
  simp [execOp,Instr.sliceAt,Instr.slice,Instr.sliceBounds,Instr.sliceBound,asIntOf,ha.eval hx,ha.eval hy,ha.eval hz,ha.eval h3,hu w,hs w,h1,h2,h4]) (hk _)
theorem O.UW {b n cap sz:Nat} {el:TypeId} {l h:Nat} (hu:∀ w,(underlying t).run C.P w = .ok (.slice el) w) (hs:∀ w,(sizeOf el).run C.P w = .ok sz w) (hx:ev e x=some (.slice (some ⟨b,0,none⟩) n cap)) (hy:ev e y=some (.int .i64 l)) (hz:ev e z=some (.int .i64 h)) (h1:l≤h) (h2:h≤cap) (h3:l<cap) (hk:K (.slice (some ⟨b,l*sz,none⟩) (h-l) (cap-l)) w) :
  O C e ⟨d,.slice t x (some y) (some z) none,ty,pos,aft,g⟩ w K :=
 O.of_run (v:=.slice (some ⟨b,l*sz,none⟩) (h-l) (cap-l)) (by simp) (fun a ha=>by
  have hne:¬ cap=l:=by omega
  have e1:((⟨b,0,none⟩:Addr).add (l*sz))=⟨b,l*sz,none⟩:=by rw [xg];simp
  simp [execOp,Instr.sliceAt,Instr.slice,Instr.sliceBounds,Instr.sliceBound,asIntOf,ha.eval hx,ha.eval hy,ha.eval hz,hu w,hs w,h1,h2,hne,e1]) hk
theorem O.Nv {b n cap m size lo:Nat} {el:TypeId} {i:TypeInfo} {cur news:List Value} {u:Value} (ht:∀ w,(underlying t).run C.P w = .ok (.slice el) w) (hi:C.P.info? el=some i) (hsize:i.size=size)
  (hx:ev e x=some (.slice (some ⟨b,0,none⟩) n cap)) (hy:ev e y=some u) (hB:Blk w b cur el) (hu:Sl lo w u m size news) (h1:∀ c∈news,c.oneCell'=true) (hroom:n+m≤cap) (hl:cur.length=cap*size)
  (h:∀ w',Upd b w w'→Blk w' b (cur.take (n*size)++news++cur.drop (n*size+news.length)) el→K (.slice (some ⟨b,0,none⟩) (n+m) cap) w') :
  O C e ⟨d,.call { callee:=.builtin .append,args:=#[x,y],argTypes:=#[t,t] },ty,pos,aft,g⟩ w K:=by
 have ht':C.P.underlying t=some (.slice el):=by
  have:=ht w
  simp only [underlying,Sem.run_bind,run_program,Result.andThen_ok] at this
  cases hq:C.P.underlying t with
  | none=>simp [hq,stuck] at this
  | some q=>simp [hq] at this;rw [this]
 subst hsize
 have hfit:n*i.size+news.length≤cur.length:=by rw [hu.1,hl,← Nat.add_mul];exact Nat.mul_le_mul_right _ hroom
 have hgen:∀ (ad:Addr) (c:Nat),Row w ad news→∃ w',(Builtin.append_ #[t,t] ty #[.slice (some ⟨b,0,none⟩) n cap,.slice (some ad) m c]).run C.P w = .ok (.slice (some ⟨b,0,none⟩) (n+m) cap) w'∧Upd b w w'∧Blk w' b (cur.take (n*i.size)++news++cur.drop (n*i.size+news.length)) el:=by
  intro ad c hr
  have hr2:=run_append_room (P:=C.P) w t ty el i ht' hi b n cap cur.toArray hB ad m c news hu.1 hr h1 hroom (by simpa using hfit)
  refine ⟨_,hr2,⟨rfl,rfl,rfl,by simp,fun k hk=>setRow_other w b k _ hk⟩,?_⟩
  have:=setRow_heap w b cur.toArray (cur.take (n*i.size)++news++cur.drop (n*i.size+news.length)).toArray el (0,0) hB
  unfold Blk
  simpa using this
 have key:∃ w',(Builtin.append_ #[t,t] ty #[.slice (some ⟨b,0,none⟩) n cap,u]).run C.P w = .ok (.slice (some ⟨b,0,none⟩) (n+m) cap) w'∧Upd b w w'∧Blk w' b (cur.take (n*i.size)++news++cur.drop (n*i.size+news.length)) el:=by
  obtain ⟨hl2,oa,c,rfl,hc,hm,hrow⟩:=hu
  rcases hrow with rfl|⟨ad,rfl,_,hr⟩
  ·have hnil:news = []:=List.eq_nil_of_length_eq_zero (by simpa using hl2)
   subst hnil
   cases oa with
   | some ad=>exact hgen ad c (fun j u hj=>by simp at hj)
   | none =>
    refine ⟨w,?_,UR _ _,by simpa using hB⟩
    have:storeCells ((⟨b,0,none⟩:Addr).add (n*i.size)) []=(pure ():Sem Unit):=rfl
    simp [Builtin.append_,ht w,run_underlying ht',sizeOf,typeInfo,hi,Builtin.lenOf,Builtin.firstCells,(show n≤cap by omega),this]
  exact hgen ad c hr
 obtain ⟨w',hr,h2,h3⟩:=key
 exact O.of_run (by simp) (fun a ha=>by simp [execOp,resolve,invoke,builtin,ha.eval hx,ha.eval hy,hr]) (h w' h2 h3)
theorem O.Yh {b off n c:Nat} {el:TypeId} {zv:Value} {cur:List Value} (ht:∀ w,(underlying t).run C.P w = .ok (.slice el) w) (hz:∀ w,(zeroValue el).run C.P w = .ok zv w) (h1:∀ u∈zv.cells,u.oneCell'=true)
  (hx:ev e x=some (.slice (some ⟨b,off,none⟩) n c)) (hn:0<n) (hB:Blk w b cur el) (hfit:off+n*zv.cells.size≤cur.length)
  (h:∀ w',Upd b w w'→(∃ cs,cs.length=cur.length∧cs.take off=cur.take off∧Blk w' b cs el)→K (.tuple #[]) w') :
  O C e ⟨d,.call { callee:=.builtin .clear,args:=#[x],argTypes:=#[t] },ty,pos,aft,g⟩ w K:=by
 have hzs:(Builtin.zeroCells zv.cells n).toList.length=n*zv.cells.size:=by simp [Builtin.zeroCells]
 have hall:∀ u∈(Builtin.zeroCells zv.cells n).toList,u.oneCell'=true:=fun u hu=>by
  simp only [Builtin.zeroCells,Array.mem_toList_iff,Array.mem_map,Array.mem_range] at hu
  obtain ⟨j,hj,rfl⟩:=hu
  have hp:0<zv.cells.size:=by
   rcases Nat.eq_zero_or_pos zv.cells.size with h0|h0
   ·rw [h0] at hj;simp at hj
   exact h0
  have hlt:=Nat.mod_lt j hp
  rw [getElem!_pos zv.cells (j % zv.cells.size) hlt]
  exact h1 _ (Array.getElem_mem hlt)
 have hst:=run_storeCells_at C.P b off el (Builtin.zeroCells zv.cells n).toList 0 cur.toArray w hB (by rw [hzs];simpa using hfit) hall
 obtain ⟨n,rfl⟩:∃ q,n=q+1:=⟨n-1,by omega⟩
 refine O.of_run (v:=.tuple #[]) (w':=w.setRow b (cur.toArray.toList.take (off+0)++(Builtin.zeroCells zv.cells (n+1)).toList++cur.toArray.toList.drop (off+0+(Builtin.zeroCells zv.cells (n+1)).toList.length)).toArray) (by simp) (fun a ha=>by
  simp only [execOp,resolve,invoke,builtin,ha.eval hx,Builtin.clear_,List.map_toArray,List.map_cons,List.map_nil,Sem.run_bind,Sem.run_pure,Result.andThen_ok,ht w,hz w,hst]
  simp [Builtin.clear_,ht w,hz w,hst]) (h _ ⟨rfl,rfl,rfl,by simp,fun k hk=>setRow_other w b k _ hk⟩ ⟨_,?_,?_,setRow_heap w b cur.toArray _ el (0,0) hB⟩)
 ·simp only [List.length_append,List.length_take,List.length_drop,hzs,Nat.add_zero];omega
 rw [Nat.add_zero,List.append_assoc,List.take_append_of_le_length (by simp;omega)]
 simp [List.take_take]
end ops
end Go.Proofs.YtnlonpcbgjbbaaaGreatDoor
