/-
  BlocksParses, part 5 of its proof: that it returns true for every input, and each argument reads behind the call as it read before. Conditions: the listed variables read as the program's text lays them (tied by the card).
-/
import Derived.Test.YtnlonpcbgjbbaaaGreatDoorWBlocksParses4
set_option linter.unusedVariables false
set_option linter.unusedSimpArgs false
set_option maxRecDepth 20000
namespace Go.Proofs.YtnlonpcbgjbbaaaGreatDoor
open Go.Proofs.Tryz
open Go Go.E
attribute [local irreducible] Go.E.T Go.E.L Go.E.O Go.E.Ob
variable {b base n:Nat} {el:TypeId} {q v:Value} {w w':World}
def aaO (u v:UnV):List Bool:=[decide (u.nm=v.nm),decide (u.pp=v.pp),u.wt == v.wt,decide (u.gs=v.gs),decide (u.vs=v.vs),decide (u.ps=v.ps)]
def Y0 (u v:UnV):Bool:=(aaO u v).all id
theorem jk {u v:UnV} : Y0 u v=true↔u.nm=v.nm∧u.pp=v.pp∧u.wt=v.wt∧u.gs=v.gs∧u.vs=v.vs∧u.ps=v.ps:=by
 simp only [Y0,aaO,List.all_cons,List.all_nil,id,Bool.and_eq_true,decide_eq_true_eq,beq_iff_eq,and_true]
def KU (us vs:List UnV):Prop:=us.length=vs.length∧∀ i,i<us.length→Y0 (us.getD i u0) (vs.getD i u0)=true
open Classical in
noncomputable def OX (us vs:List UnV):Bool:=if KU us vs then true else false
theorem Tn {us vs:List UnV} (h:KU us vs):OX us vs=true:=if_pos h
theorem Vr {us vs:List UnV} (h:¬ KU us vs):OX us vs=false:=if_neg h
noncomputable def Ba (a b:RoV):Bool:=(decide (a.G=b.G) && (decide (a.P=b.P) && decide (a.L=b.L))) && OX a.us b.us
structure Dr where
 wd:Int
 hi:Int
 cv:Value
 cs:List Int
 sv:Value
 ss:List Int
 ho:Bool
 g:Int
 p:Int
 l:Int
 nv:Value
 ns:List Int
 wa:Int
def Dr.cells (d:Dr):List Value:=[.int .u8 d.wd,.int .u8 d.hi,d.cv,d.sv,.bool d.ho,.int .u8 d.g,.int .u8 d.p,.int .u8 d.l,d.nv,.int .u8 d.wa]
def Dr.val (d:Dr):Value:=.agg d.cells.toArray
def QG (x:Int):Prop:=0≤x∧x≤255
structure Dr.ok (lo:Nat) (w:World) (d:Dr):Prop where
 c:Ints .u8 lo w d.cv d.cs
 s:Ints .u8 lo w d.sv d.ss
 n:Ints .u16 lo w d.nv d.ns
 cl:∀ j,j<d.cs.length→QG (d.cs.getD j 0)
 sl:∀ j,j<d.ss.length→QG (d.ss.getD j 0)
 nl:∀ j,j<d.ns.length→0≤d.ns.getD j 0∧d.ns.getD j 0≤65535
 w0:QG d.wd
 h0:QG d.hi
 g0:QG d.g
 p0:QG d.p
 l0:QG d.l
 a0:QG d.wa
theorem Dr.ok.ext {lo:Nat} {w w':World} {d:Dr} (h:d.ok lo w) (k:Ext w w'):d.ok lo w':=⟨h.c.ext k,h.s.ext k,h.n.ext k,h.cl,h.sl,h.nl,h.w0,h.h0,h.g0,h.p0,h.l0,h.a0⟩
def Tq (ns:List Int) (i:Nat):Int:=if ns = [] then 100+(7*i:Nat) % 31 else ns.getD (i % ns.length) 0
theorem OY {ns:List Int} (h:∀ j,j<ns.length→0≤ns.getD j 0∧ns.getD j 0≤65535) (i:Nat):0≤Tq ns i∧Tq ns i≤65535:=by
 unfold Tq
 split
 ·omega
 rename_i hn
 have:0<ns.length:=List.length_pos_iff.2 hn
 exact h _ (Nat.mod_lt _ this)
def Fq (ns:List Int) (i:Nat):Int:=if ns = [] then 0 else ns.getD (i % ns.length) 0
theorem IB {ns:List Int} (h:∀ j,j<ns.length→QG (ns.getD j 0)) (i:Nat):0≤Fq ns i∧Fq ns i≤255:=by
 unfold Fq
 split
 ·omega
 rename_i hn
 have:0<ns.length:=List.length_pos_iff.2 hn
 exact h _ (Nat.mod_lt _ this)
theorem vw (lo:Nat) (p:Value) (xs:List Int) (i:Nat) (w:World) (b:Ints .u8 lo w p xs) (d:∀ j,j<xs.length→QG (xs.getD j 0)) (hi:i≤1000) :
  Calls Tryz.prog 125 #[p,.int .i64 i] w (Ret fun v w'=>v = .int .i64 (Fq xs i)∧w'=w):=by
 have e:=Sl.le b
 refine aJ (vs:=[p,.int .i64 i]) func125 Z ntmps125 Z ?_
 refine au (ah Z (aj (aQ Z (L.le Z (Sl.val b) (dK Z Z (fun h0=>?_) (fun h0=>?_))))))
 ·refine aW (au (ah Z (aB results125 Z ⟨by rw [Fq,if_pos (List.length_eq_zero_iff.1 omX)],rfl⟩)))
 refine ak (?_)
 have a:0<xs.length:=by omega
 have f:(i:Int) % (xs.length:Int)=((i % xs.length:Nat):Int):=by simp
 have c:i % xs.length<xs.length:=Nat.mod_lt _ a
 have hv:=d _ c
 refine bn (T.skip (au (aN Z Z (L.m Z (L.le Z (Sl.val b) (L.o (fG Z Z omX omX (?_))))))))
 rw [f]
 refine dG Z Z b (cZ Z (Ints.at b c) (?_))
 unfold QG at hv
 refine L.o (dO Z (fun w=>⟨_,runUnderlying5 w⟩) runUnderlying3 (IntWalk.i64_in _ ⟨omX,omX⟩) (ah Z (aB results125 Z ⟨by rw [Fq,if_neg (fun h=>by rw [h] at a;simp at a)],rfl⟩)))
theorem vC (lo:Nat) (d:Dr) (i:Nat) (w:World) (k:d.ok lo w) (hi:i≤1000) :
  Calls Tryz.prog 126 #[d.val,.int .i64 i] w (Ret fun v w'=>v = .int .i64 (Tq d.ns i)∧Ext w w'):=by
 refine aJ (vs:=[d.val,.int .i64 i]) func126 Z ntmps126 Z ?_
 refine au (bM Z (fun b1 w1 l m c hB1=>?_))
 have e:Blk w1 b1 d.cells _:=hB1
 have a:=k.ext c
 have p:=Sl.le a.n
 refine ah Z (aj (au (aC Z (e.cell Z) (L.le Z (Sl.val a.n) (dK Z Z (fun h0=>?_) (fun h0=>?_))))))
 ·refine aW (au (aO Z (dN Z Z omX (L.o (fG Z Z omX omX (bF Z Z (ah Z (aB results126 Z ⟨by rw [Tq,if_pos (List.length_eq_zero_iff.1 omX)];simp,c⟩))))))))
 refine ak (?_)
 have b:0<d.ns.length:=by omega
 have q:(i:Int) % (d.ns.length:Int)=((i % d.ns.length:Nat):Int):=by simp
 have j:i % d.ns.length<d.ns.length:=Nat.mod_lt _ b
 have hv:=k.nl _ j
 refine bn (T.skip (aj (?_)))
 refine dn mixed 7 [2,1] Z [.is _,.is _,.is _,.is _,.is _,.is _,.is (.int .i64 ((i % d.ns.length:Nat):Int))] [[],[0],[],[],[3],[4],[2,5]] trivial ⟨fun g hx=>Ob.fa rfl,
   fun g hx=>aS rfl ((e.ext hx).cell rfl),
   fun g hx=>aF rfl,
   fun g hx=>Ob.fa rfl,
   fun g hx=>aS rfl ((e.ext hx).cell rfl),
   fun g hx=>Ob.o (O.le Z (Sl.val (a.n.ext hx)) kR),
   fun g hx=>Ob.o (fG Z Z omX omX ⟨Keep.refl _ _,by rw [q];rfl⟩),
   trivial⟩ (fun r f=>?_)
 refine dG Z Z (a.n.ext f) (cZ Z (Ints.at (a.n.ext f) j) (L.o (dO Z (fun w=>⟨_,runUnderlying87 w⟩) runUnderlying3 (IntWalk.i64_in _ ⟨omX,omX⟩) (ah Z (aB results126 Z ⟨by rw [Tq,if_neg (fun h=>by rw [h] at b;simp at b)],c.trans f⟩)))))
attribute [local irreducible] Go.E.ObX
def rU (base:Nat) (w:World) (v:Value) (xs:List Int):Prop:=w.ownsRow base 3 1 v xs.length (xs.map (Value.int .i64))
theorem rU.ints {xs:List Int} (h:rU base w v xs):Ints .i64 base w v xs:=Sl.dD h
theorem rU.ext {xs:List Int} (h:rU base w v xs) (k:Ext w w'):rU base w' v xs:=cO h k lzX
def ahW (base n:Nat) (v:Value) (w:World):Prop:=∃ xs:List Int,xs.length≤n∧rU base w v xs
structure Loc (q:Value) (w w':World):Prop where
 os:w'.os=w.os
 tape:w'.tape=w.tape
 output:w'.output=w.output
 size:w.heap.size≤w'.heap.size
 block:∀ k,k<w.heap.size→q.ownBlock≠some k→w'.heap[k]?=w.heap[k]?
theorem Loc.dF (h:Ext w w'):Loc q w w':=⟨h.os,h.tape,h.output,h.size,fun k a _=>h.block k lzX a⟩
theorem Loc.qL (h:Upd b w w') (hb:q.ownBlock=some b):Loc q w w':=⟨h.os,h.tape,h.output,Nat.le_of_eq h.size.symm,fun k _ a=>h.block k (fun e=>a (by rw [hb,e]))⟩
theorem Loc.jV (h:w.grownBy w' q.ownBlock):Loc q w w':=⟨h.os,h.tape,h.output,h.size,fun k a hn=>h.block k a (fun e=>hn e.symm)⟩
theorem Loc.trans {q:Value} {a b c:World} (h:Loc q a b) (k:Loc q b c):Loc q a c:=⟨k.os.trans h.os,k.tape.trans h.tape,k.output.trans h.output,Nat.le_trans h.size k.size,fun i hi d=>(k.block i (Nat.lt_of_lt_of_le hi h.size) d).trans (h.block i hi d)⟩
theorem Loc.keep {lo:Nat} {w0:World} (h:Loc q w w') (k:Keep lo w0 w) (a:∀ b,q.ownBlock=some b→w0.heap.size≤b):Keep lo w0 w' :=
 ⟨h.os.trans k.os,h.tape.trans k.tape,h.output.trans k.output,Nat.le_trans k.size h.size,fun i c hi=>(h.block i (Nat.lt_of_lt_of_le hi k.size) (fun e=>by have:=a i e;omega)).trans (k.block i c hi)⟩
theorem BJ {sz:Nat} {xs:List Value} (h:w.ownsRow base el sz v n xs) (k:Loc q w w') (hn:∀ b,v.ownBlock=some b→q.ownBlock≠some b):w'.ownsRow base el sz v n xs:=by
 refine ⟨h.1,h.2.imp id ?_⟩
 rintro ⟨g,cap,cur,rfl,hb,a,rest⟩
 exact ⟨g,cap,cur,rfl,hb,(k.block g (Array.getElem?_eq_some_iff.1 a).1 (hn g rfl)).trans a,rest⟩
theorem ahW.blk (h:ahW base n v w) (hb:v.ownBlock=some b):∃ xs cs cap,xs.length≤n∧Blk w b cs 3∧v = .slice (some ⟨b,0,none⟩) xs.length cap∧xs.length≤cs.length∧Ints .i64 base w v xs:=by
 obtain ⟨xs,d,c⟩:=h
 have hI:=c.ints
 obtain ⟨_,e⟩:=c
 rcases e with ⟨rfl,_⟩|⟨g,cap,cur,rfl,hbase,f,hn,j,a,i⟩
 ·cases hb
 cases hb
 exact ⟨xs,cur.toList,cap,d,by unfold Blk;simpa using f,rfl,by simp [a];omega,hI⟩
theorem row_ne {j:Nat} {xs cs:List Value} (h:w.ownsRow base 51 6 v n xs) (hv:v.ownBlock=some j) (hB:Blk w b cs 3):j≠b:=fun e=>by
 subst e
 rcases h.2 with ⟨rfl,_⟩|⟨g,cap,cur,rfl,_,a,_⟩
 ·cases hv
 cases hv
 have:=hB.symm.trans a
 simp at this
theorem abP (n:Nat) (m:Int) (k:Nat) (a:m=k):(if m<(n:Int) then m else (n:Int))=((min n k:Nat):Int):=by
 subst a;split <;> omega
theorem KW {C:Cx} {e:Env} {K:Value→World→Prop} {d:Option Tmp} {ty:TypeId} {pos:String} {aft:Array Edge} {g:Option (Nat × Bool)} {x y:Operand} {tys:Array TypeId} {k:Nat} (hx:ev e x=some (.int .i64 n)) (hy:ev e y=some (.int .i64 k)) (h:K (.int .i64 ((min n k:Nat):Int)) w) :
  O C e ⟨d,.call { callee:=.builtin .min,args:=#[x,y],argTypes:=tys },ty,pos,aft,g⟩ w K:=iP hx hy (by rw [abP _ _ k rfl];exact h)
section ops
variable {C:Cx} {e:Env} {w:World} {K:Value→World→Prop} {d:Option Tmp} {ty:TypeId} {pos:String} {aft:Array Edge} {g:Option (Nat × Bool)} {x y z x3:Operand} {t:TypeId}
theorem OZ {oa:Option Addr} {cap sz:Nat} {l h m:Nat} (b:∀ w,(underlying t).run C.P w = .ok (.slice el) w) (hs:∀ w,(sizeOf el).run C.P w = .ok sz w) (hx:ev e x=some (.slice oa n cap)) (hy:ev e y=some (.int .i64 l)) (c:ev e z=some (.int .i64 h)) (f:ev e x3=some (.int .i64 m)) (i:l≤h) (j:h≤m) (k:m≤cap) (o:∀ v,K v w) :
  O C e ⟨d,.slice t x (some y) (some z) (some x3),ty,pos,aft,g⟩ w K :=
 bD (v:=.slice (if m=l then oa else oa.map (·.add (l*sz))) (h-l) (m-l)) spX (fun a ha=>by
  simp [execOp,Instr.sliceAt,Instr.slice,Instr.sliceBounds,Instr.sliceBound,asIntOf,ha.eval hx,ha.eval hy,ha.eval c,ha.eval f,b w,hs w,i,j,k]) (o _)
theorem IC {cap sz:Nat} {l h:Nat} (f:∀ w,(underlying t).run C.P w = .ok (.slice el) w) (hs:∀ w,(sizeOf el).run C.P w = .ok sz w) (hx:ev e x=some (.slice (some ⟨b,0,none⟩) n cap)) (hy:ev e y=some (.int .i64 l)) (i:ev e z=some (.int .i64 h)) (j:l≤h) (k:h≤cap) (o:l<cap) (m:K (.slice (some ⟨b,l*sz,none⟩) (h-l) (cap-l)) w) :
  O C e ⟨d,.slice t x (some y) (some z) none,ty,pos,aft,g⟩ w K :=
 bD (v:=.slice (some ⟨b,l*sz,none⟩) (h-l) (cap-l)) spX (fun a ha=>by
  have c:¬ cap=l:=by omega
  have e1:((⟨b,0,none⟩:Addr).add (l*sz))=⟨b,l*sz,none⟩:=by rw [BU];simp
  simp [execOp,Instr.sliceAt,Instr.slice,Instr.sliceBounds,Instr.sliceBound,asIntOf,ha.eval hx,ha.eval hy,ha.eval i,f w,hs w,j,k,c,e1]) m
theorem C9 {cap m size lo:Nat} {i:TypeInfo} {cur news:List Value} {u:Value} (B:∀ w,(underlying t).run C.P w = .ok (.slice el) w) (hi:C.P.info? el=some i) (hsize:i.size=size)
  (hx:ev e x=some (.slice (some ⟨b,0,none⟩) n cap)) (hy:ev e y=some u) (hB:Blk w b cur el) (v:Sl lo w u m size news) (E:∀ c∈news,c.oneCell'=true) (hroom:n+m≤cap) (F:cur.length=cap*size)
  (h:∀ w',Upd b w w'→Blk w' b (cur.take (n*size)++news++cur.drop (n*size+news.length)) el→K (.slice (some ⟨b,0,none⟩) (n+m) cap) w') :
  O C e ⟨d,.call { callee:=.builtin .append,args:=#[x,y],argTypes:=#[t,t] },ty,pos,aft,g⟩ w K:=by
 have l:C.P.underlying t=some (.slice el):=by
  have:=B w
  simp only [underlying,Sem.run_bind,run_program,Result.andThen_ok] at this
  cases D:C.P.underlying t with
  | none=>simp [D,stuck] at this
  | some q=>simp [D] at this;rw [this]
 subst hsize
 have o:n*i.size+news.length≤cur.length:=by rw [v.1,F,← Nat.add_mul];exact Nat.mul_le_mul_right _ hroom
 have f:∀ (ad:Addr) (c:Nat),Row w ad news→∃ w',(Builtin.append_ #[t,t] ty #[.slice (some ⟨b,0,none⟩) n cap,.slice (some ad) m c]).run C.P w = .ok (.slice (some ⟨b,0,none⟩) (n+m) cap) w'∧Upd b w w'∧Blk w' b (cur.take (n*i.size)++news++cur.drop (n*i.size+news.length)) el:=by
  intro ad c p
  have z:=run_append_room (P:=C.P) w t ty el i l hi b n cap cur.toArray hB ad m c news v.1 p E hroom (by simpa using o)
  refine ⟨_,z,⟨rfl,rfl,rfl,spX,fun k G=>setRow_other w b k _ G⟩,?_⟩
  have:=setRow_heap w b cur.toArray (cur.take (n*i.size)++news++cur.drop (n*i.size+news.length)).toArray el (0,0) hB
  unfold Blk
  simpa using this
 have key:∃ w',(Builtin.append_ #[t,t] ty #[.slice (some ⟨b,0,none⟩) n cap,u]).run C.P w = .ok (.slice (some ⟨b,0,none⟩) (n+m) cap) w'∧Upd b w w'∧Blk w' b (cur.take (n*i.size)++news++cur.drop (n*i.size+news.length)) el:=by
  obtain ⟨A,oa,c,rfl,L,M,r⟩:=v
  rcases r with rfl|⟨ad,rfl,_,p⟩
  ·have s:news = []:=List.eq_nil_of_length_eq_zero (by simpa using A)
   subst s
   cases oa with
   | some ad=>exact f ad c (fun j u H=>by simp at H)
   | none =>
    refine ⟨w,?_,YZ _ _,by simpa using hB⟩
    have:storeCells ((⟨b,0,none⟩:Addr).add (n*i.size)) []=(pure ():Sem Unit):=rfl
    simp [Builtin.append_,B w,run_underlying l,sizeOf,typeInfo,hi,Builtin.lenOf,Builtin.firstCells,(show n≤cap by omega),this]
  exact f ad c p
 obtain ⟨w',p,I,J⟩:=key
 exact bD spX (fun a ha=>by simp [execOp,resolve,invoke,builtin,ha.eval hx,ha.eval hy,p]) (h w' I J)
theorem KX {off c:Nat} {zv:Value} {cur:List Value} (p:∀ w,(underlying t).run C.P w = .ok (.slice el) w) (r:∀ w,(zeroValue el).run C.P w = .ok zv w) (z:∀ u∈zv.cells,u.oneCell'=true)
  (hx:ev e x=some (.slice (some ⟨b,off,none⟩) n c)) (hn:0<n) (hB:Blk w b cur el) (f:off+n*zv.cells.size≤cur.length)
  (h:∀ w',Upd b w w'→(∃ cs,cs.length=cur.length∧cs.take off=cur.take off∧Blk w' b cs el)→K (.tuple #[]) w') :
  O C e ⟨d,.call { callee:=.builtin .clear,args:=#[x],argTypes:=#[t] },ty,pos,aft,g⟩ w K:=by
 have i:(Builtin.zeroCells zv.cells n).toList.length=n*zv.cells.size:=by simp [Builtin.zeroCells]
 have l:∀ u∈(Builtin.zeroCells zv.cells n).toList,u.oneCell'=true:=fun u s=>by
  simp only [Builtin.zeroCells,Array.mem_toList_iff,Array.mem_map,Array.mem_range] at s
  obtain ⟨j,y,rfl⟩:=s
  have A:0<zv.cells.size:=by
   rcases Nat.eq_zero_or_pos zv.cells.size with h0|h0
   ·rw [h0] at y;simp at y
   exact h0
  have m:=Nat.mod_lt j A
  rw [getElem!_pos zv.cells (j % zv.cells.size) m]
  exact z _ (Array.getElem_mem m)
 have o:=run_storeCells_at C.P b off el (Builtin.zeroCells zv.cells n).toList 0 cur.toArray w hB (by rw [i];simpa using f) l
 obtain ⟨n,rfl⟩:∃ q,n=q+1:=⟨n-1,omX⟩
 refine bD (v:=.tuple #[]) (w':=w.setRow b (cur.toArray.toList.take (off+0)++(Builtin.zeroCells zv.cells (n+1)).toList++cur.toArray.toList.drop (off+0+(Builtin.zeroCells zv.cells (n+1)).toList.length)).toArray) spX (fun a ha=>by
  simp only [execOp,resolve,invoke,builtin,ha.eval hx,Builtin.clear_,List.map_toArray,List.map_cons,List.map_nil,Sem.run_bind,Sem.run_pure,Result.andThen_ok,p w,r w,o]
  simp [Builtin.clear_,p w,r w,o]) (h _ ⟨rfl,rfl,rfl,spX,fun k B=>setRow_other w b k _ B⟩ ⟨_,?_,?_,setRow_heap w b cur.toArray _ el (0,0) hB⟩)
 ·simp only [List.length_append,List.length_take,List.length_drop,i,Nat.add_zero];omega
 rw [Nat.add_zero,List.append_assoc,List.take_append_of_le_length (by simp;omega)]
 simp [List.take_take]
end ops
end Go.Proofs.YtnlonpcbgjbbaaaGreatDoor
