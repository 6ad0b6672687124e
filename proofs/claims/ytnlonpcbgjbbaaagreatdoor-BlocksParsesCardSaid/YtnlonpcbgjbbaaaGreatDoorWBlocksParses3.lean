/-
  BlocksParses, part 3 of its proof: that it returns true for every input, and each argument reads behind the call as it read before. Conditions: the listed variables read as the program's text lays them (tied by the card).
-/
import Derived.Test.YtnlonpcbgjbbaaaGreatDoorWBlocksParses2
import Derived.Laws.IdiomStrings
import Derived.Laws.StructEq
import Derived.Laws.Slices
import Derived.RecoverIn
import Derived.Scope
import Derived.Shelf.Vars
import Derived.Lib.SplitLaws
import Derived.Lib.Split
import Derived.Lib.IndexMore
import Derived.Lib.Join
import Derived.Lib.Strings
import Derived.Lib.ItoaNum
import Derived.Shelf.Strings.Builder1
import Derived.Shelf.Bits.Mul64
import Derived.Shelf.Slices.Turned
import Derived.Shelf.Slices.ReverseS
import Derived.Shelf.Strconv.AtoiAll
import Derived.Shelf.Strconv.ErrVarAll
import Derived.Shelf.Strconv.Itoa3
import Derived.Shelf.Strings.Count
import Derived.Shelf.Strings.Cut
import Derived.Shelf.Strings.FieldsFuncGrows
import Derived.Shelf.Strings.Prefix
import Derived.Shelf.Strings.OnBuilder
import Derived.Shelf.Strings.Repeat
import Derived.Shelf.Strings.Replace
import Derived.Shelf.Strings.Split
import Derived.Test.YtnlonpcbgjbbaaaGreatDoorProg
set_option linter.unusedVariables false
set_option linter.unusedSimpArgs false
set_option linter.unusedSectionVars false
set_option linter.unnecessarySimpa false
set_option maxRecDepth 20000
namespace Go.E
open Go.RowKit
variable {c:Code} {e:Env} {fn:Func} {cs vs:List Value} {b id l lo n:Nat} {P:Program} {el t:TypeId} {v:Value} {w w':World}
abbrev Str:=List UInt8
def str (s:Str):Value:=.string ⟨s.toArray⟩
theorem bytes_beq (a b:Str):((⟨a.toArray⟩:ByteArray) == ⟨b.toArray⟩)=decide (a=b):=by
 show ((⟨a⟩:Array UInt8) == ⟨b⟩)=_
 by_cases h:a=b
 ·subst h;simp
 rw [decide_eq_false h,beq_eq_false_iff_ne]
 intro e;exact h (by simpa using e)
theorem QC (a b:Str):(a == b)=decide (a=b):=by by_cases h:a=b <;> simp [h]
section ops
variable {C:Cx} {e:Env} {w:World} {K:Value→World→Prop} {d:Option Tmp} {ty:TypeId} {pos:String} {aft:Array Edge} {g:Option (Nat × Bool)}
variable {x y z:Operand} {t tx ty':TypeId} {a b:Str}
theorem qg (c:∀ w,(underlying tx).run C.P w = .ok .string w) (hx:ev e x=some (str a)) (hy:ev e y=some (str b)) (h:K (.bool (decide (a=b))) w):O C e ⟨d,.binOp .eql tx x y ty',ty,pos,aft,g⟩ w K :=
 bD spX (fun ac ha=>by
  simp only [execOp,ha.eval hx,ha.eval hy,eqGuard,binOp,str]
  simp only [Op.stringOp,ByteArray.toList_eq,Sem.run_bind,Sem.run_pure,Result.andThen_ok]
  simp [QC]) h
theorem uj (c:∀ w,(underlying tx).run C.P w = .ok .string w) (hx:ev e x=some (str a)) (hy:ev e y=some (str b)) (h:K (.bool (!decide (a=b))) w):O C e ⟨d,.binOp .neq tx x y ty',ty,pos,aft,g⟩ w K :=
 bD spX (fun ac ha=>by
  simp only [execOp,ha.eval hx,ha.eval hy,eqGuard,binOp,str]
  simp only [Op.stringOp,ByteArray.toList_eq,Sem.run_bind,Sem.run_pure,Result.andThen_ok]
  simp [QC]) h
theorem fD (c:∀ w,(underlying tx).run C.P w = .ok .string w) (hx:ev e x=some (str a)) (hy:ev e y=some (str b)) (f:a=b) (h:K (.bool true) w):O C e ⟨d,.binOp .eql tx x y ty',ty,pos,aft,g⟩ w K:=qg c hx hy (by rw [decide_eq_true f];exact h)
theorem fE (c:∀ w,(underlying tx).run C.P w = .ok .string w) (hx:ev e x=some (str a)) (hy:ev e y=some (str b)) (f:¬ a=b) (h:K (.bool false) w):O C e ⟨d,.binOp .eql tx x y ty',ty,pos,aft,g⟩ w K:=qg c hx hy (by rw [decide_eq_false f];exact h)
theorem fM (f:∀ w,(underlying tx).run C.P w = .ok .string w) (hx:ev e x=some (str a)) (hy:ev e y=some (str b)) (h:a=b→K (.bool true) w) (hf:¬ a=b→K (.bool false) w):O C e ⟨d,.binOp .eql tx x y ty',ty,pos,aft,g⟩ w K:=qg f hx hy (by
 by_cases c:a=b
 ·rw [decide_eq_true c];exact h c
 rw [decide_eq_false c];exact hf c)
theorem Fe (c:∀ w,(underlying tx).run C.P w = .ok .string w) (hx:ev e x=some (str a)) (hy:ev e y=some (str b)) (f:a=b) (h:K (.bool false) w):O C e ⟨d,.binOp .neq tx x y ty',ty,pos,aft,g⟩ w K:=uj c hx hy (by rw [decide_eq_true f];exact h)
theorem qw (f:∀ w,(underlying tx).run C.P w = .ok .string w) (hx:ev e x=some (str a)) (hy:ev e y=some (str b)) (h:¬ a=b→K (.bool true) w) (hf:a=b→K (.bool false) w):O C e ⟨d,.binOp .neq tx x y ty',ty,pos,aft,g⟩ w K:=uj f hx hy (by
 by_cases c:a=b
 ·rw [decide_eq_true c];exact hf c
 rw [decide_eq_false c];exact h c)
theorem dB (b:∀ w,(underlying t).run C.P w = .ok .string w) (hx:ev e x=some (str a)) (h:K (.int .i64 a.length) w) :
  O C e ⟨d,.call { callee:=.builtin .len,args:=#[x],argTypes:=#[t] },ty,pos,aft,g⟩ w K :=
 BX b hx (by simpa [ByteArray.size] using h)
theorem iy {kd:IntKind} {m:Int} (f:∀ w,(underlying t).run C.P w = .ok .string w) (hx:ev e x=some (str a)) (hy:ev e y=some (.int kd m)) (h0:0≤m) (c:m.toNat<a.length) (h:K (.int .u8 ((a.getD m.toNat 0).toNat:Int)) w) :
  O C e ⟨d,.index t x y,ty,pos,aft,g⟩ w K :=
 E8 (b:=a.getD m.toNat 0) f hx hy h0 (by
  have:(⟨a.toArray⟩:ByteArray)[m.toNat]?=a[m.toNat]?:=by
   rw [List.getElem?_eq_getElem c]
   exact getElem?_pos (⟨a.toArray⟩:ByteArray) m.toNat (by simpa [ByteArray.size] using c)
  rw [this];simp [List.getD,c]) h
theorem eX {kd:IntKind} {i:Nat} (b:∀ w,(underlying t).run C.P w = .ok .string w) (hx:ev e x=some (str a)) (hy:ev e y=some (.int kd i)) (c:i<a.length) (h:K (.int .u8 ((a.getD i 0).toNat:Int)) w) :
  O C e ⟨d,.index t x y,ty,pos,aft,g⟩ w K:=iy b hx hy (Int.natCast_nonneg _) (by simpa using c) (by simpa using h)
theorem rJ (a:Str) (l h:Nat):(⟨a.toArray⟩:ByteArray).extract l h=⟨((a.drop l).take (h-l)).toArray⟩:=by
 apply ByteArray.ext
 simp [ByteArray.data_extract,List.extract_toArray,List.extract]
theorem iO {kh:IntKind} {h:Int} (b:∀ w,(underlying t).run C.P w = .ok .string w) (hx:ev e x=some (str a)) (hy:ev e y=some (.int kh h)) (h0:0≤h) (f:h.toNat≤a.length) (c:K (str (a.take h.toNat)) w) :
  O C e ⟨d,.slice t x none (some y) none,ty,pos,aft,g⟩ w K :=
 bD spX (fun ac ha=>by
  have:=run_slice_string_h (P:=C.P) w t ⟨a.toArray⟩ (dL b) kh h h0 (by simp [ByteArray.size];omega)
  rw [rJ] at this
  simp only [execOp,ha.eval hx,ha.eval hy,str,Option.map_some,Option.map_none] at this ⊢
  rw [Sem.run_bind,run_sliceAt_string w _ _ _ _ _ (dL b),this];simp) c
theorem nS {kl:IntKind} {l:Int} (b:∀ w,(underlying t).run C.P w = .ok .string w) (hx:ev e x=some (str a)) (hy:ev e y=some (.int kl l)) (h0:0≤l) (f:l.toNat≤a.length) (c:K (str (a.drop l.toNat)) w) :
  O C e ⟨d,.slice t x (some y) none none,ty,pos,aft,g⟩ w K :=
 bD spX (fun ac ha=>by
  have:=run_slice_string_l (P:=C.P) w t ⟨a.toArray⟩ (dL b) kl l h0 (by simp [ByteArray.size];omega)
  rw [rJ] at this
  simp only [execOp,ha.eval hx,ha.eval hy,str,Option.map_some,Option.map_none] at this ⊢
  rw [Sem.run_bind,run_sliceAt_string w _ _ _ _ _ (dL b),this];simp [ByteArray.size];exact List.take_of_length_le spX) c
theorem bW (hx:ev e x=some (str a)) (hy:ev e y=some (str b)) (hn:a.length+b.length≤9223372036854775807) (h:K (str (a++b)) w):O C e ⟨d,.binOp .add tx x y ty',ty,pos,aft,g⟩ w K :=
 bD spX (fun ac ha=>by
  have c:¬ (((⟨a.toArray⟩:ByteArray).size+(⟨b.toArray⟩:ByteArray).size:Nat):Int) > IntKind.i64.max:=by
   have:IntKind.i64.max=9223372036854775807:=rfl
   simp only [ByteArray.size,List.size_toArray,this];omega
  have f:((⟨a.toArray⟩:ByteArray)++⟨b.toArray⟩)=⟨(a++b).toArray⟩:=by apply ByteArray.ext;simp [ByteArray.data_append]
  simp only [execOp,ha.eval hx,ha.eval hy,eqGuard,binOp,str,Op.stringOp,f]
  rw [if_neg c];simp) h
theorem mZ {s:Str} {src dst:TypeId} (hs:∀ w,(underlying src).run C.P w = .ok (.slice el) w) (a:∀ w,(underlying el).run C.P w = .ok (.int .u8) w) (b:∀ w,(underlying dst).run C.P w = .ok .string w)
  (hx:ev e x=some v) (hv:Ints .u8 lo w v (s.map fun c=>(c.toNat:Int))) (hn:0<s.length) (h:K (str s) w):O C e ⟨d,.convert src dst x,ty,pos,aft,g⟩ w K :=
 bD spX (fun ac ha=>by
  obtain ⟨cap,e1,_,_,f⟩:=Sl.there hv (by simpa using hn)
  have:=run_convert_bytes_back w src dst el (jX v) cap s (dL hs) (dL a) (dL b) (fun j i=>f j _ (by simp [i]))
  simp only [execOp,ha.eval hx,str]
  rw [e1];simp only [List.length_map]
  rw [Sem.run_bind,this];simp) h
theorem Row.of_eq {a b:Addr} (h:Row w a cs) (e:a=b):Row w b cs:=e▸h
theorem SL {sz:Nat} {kd:IntKind} {m:Int} (f:∀ w,(underlying t).run C.P w = .ok (.slice el) w) (hs:∀ w,(sizeOf el).run C.P w = .ok sz w) (hx:ev e x=some v) (hy:ev e y=some (.int kd m))
  (hv:Sl lo w v n sz cs) (h0:0≤m) (l:m.toNat≤n) (h:∀ u,Sl lo w u (n-m.toNat) sz (cs.drop (m.toNat*sz))→K u w):O C e ⟨d,.slice t x (some y) none none,ty,pos,aft,g⟩ w K:=by
 obtain ⟨i,oa,cap,rfl,o,p,c⟩:=hv
 refine bD spX (fun a ha=>by
  simp [execOp,Instr.sliceAt,Instr.slice,Instr.sliceBounds,Instr.sliceBound,asIntOf,ha.eval hx,ha.eval hy,f w,hs w,h0,(show m≤(n:Int) by omega)]
  rfl) (h _ ⟨?_,_,cap-m.toNat,rfl,omX,omX,?_⟩)
 ·rw [List.length_drop,i,Nat.sub_mul]
 rcases c with c|⟨ad,e1,j,k⟩
 ·left;omega
 by_cases b:cap=m.toNat
 ·left;omega
 refine .inr ⟨ad.add (m.toNat*sz),by rw [if_neg b,e1];rfl,by rw [add_block];exact j,k.drop _⟩
end ops
structure Key {α:Type} [DecidableEq α] (kf:α→Value) (kd:TypeDesc):Prop where
 same:∀ a b,Instr.sameNow kd (kf a) (kf b)=some (decide (a=b))
 check:∀ (P:Program) (kt:TypeId) (b:Bool) (a:α) (w:World),P.underlying kt=some kd→(Instr.checkKey b 10000 kt (kf a)).run P w = .ok () w
 stays:∀ (P:Program) (a:α) (w:World),(Instr.keyThatStays (kf a) (kf a)).run P w = .ok (kf a) w
theorem nT:Key str .string :=
 ⟨fun a b=>by simp only [str,Instr.sameNow,bytes_beq],fun P kt b a w h=>by
  have hn:∀ n,(Instr.checkKey b (n+1) kt (str a)).run P w = .ok () w:=fun n=>by
   simp only [Instr.checkKey,str,Sem.run_bind,run_underlying h,Result.andThen_ok]
   rfl
  exact hn 9999,fun P a w=>by
  have hb:Instr.sameBits 10000 (str a) (str a)=true:=by simp [str,Instr.sameBits,bytes_beq]
  simp [Instr.keyThatStays,hb]⟩
section maps
variable {α β:Type} [DecidableEq α] {kf:α→Value} {vf:β→Value} {kd:TypeDesc}
def gE (kf:α→Value) (vf:β→Value) (p:α × β) (i:Nat):MapEntry:={ key:=kf p.1,val:=vf p.2,born:=i }
def gEs (kf:α→Value) (vf:β→Value) (n:Nat):List (α × β)→List MapEntry
 | []=>[]
 | p::r=>gE kf vf p n::gEs kf vf (n+1) r
theorem Vh:∀ (kvs:List (α × β)) (n:Nat),(gEs kf vf n kvs).length=kvs.length
 | [],_=>rfl
 | p::r,n=>by simp [gEs,Vh r (n+1)]
theorem Ij:∀ (kvs:List (α × β)) (n i:Nat),(gEs kf vf n kvs)[i]?=(kvs[i]?).map (fun p=>gE kf vf p (n+i))
 | [],_,_=>by simp [gEs]
 | p::r,n,0=>by simp [gEs]
 | p::r,n,i+1=>by
  simp only [gEs,List.getElem?_cons_succ,Ij r (n+1) i]
  rw [show n+1+i=n+(i+1) by omega]
theorem Ik:∀ (kvs:List (α × β)) (n:Nat) (p:α × β),gEs kf vf n (kvs ++ [p])=gEs kf vf n kvs ++ [gE kf vf p (n+kvs.length)]
 | [],n,p=>by simp [gEs]
 | q::r,n,p=>by
  simp only [List.cons_append,gEs,Ik r (n+1) p,List.length_cons]
  rw [show n+1+r.length=n+(r.length+1) by omega]
def wJ (kf:α→Value) (vf:β→Value) (w:World) (b:Nat) (kvs:List (α × β)):Prop:=w.heap[b]?=some (.map (gEs kf vf 0 kvs).toArray kvs.length)
theorem wJ.keep {kvs:List (α × β)} (h:wJ kf vf w b kvs) (k:Keep lo w w') (a:lo≤b):wJ kf vf w' b kvs:=k.blk a h
theorem wJ.upd {b':Nat} {kvs:List (α × β)} (h:wJ kf vf w b kvs) (k:Upd b' w w') (a:b≠b'):wJ kf vf w' b kvs:=k.blk a h
theorem wJ.lt {kvs:List (α × β)} (h:wJ kf vf w b kvs):b<w.heap.size:=(Array.getElem?_eq_some_iff.1 h).1
def jl:List (α × β)→α→Nat→Option (Nat × β)
 | [],_,_=>none
 | p::r,k,i=>if k=p.1 then some (i,p.2) else jl r k (i+1)
def oN (kvs:List (α × β)) (k:α):Option β:=(jl kvs k 0).map (·.2)
def AZ (kvs:List (α × β)) (k:α) (v:β):List (α × β):=match jl kvs k 0 with
 | some (i,_)=>kvs.set i (k,v)
 | none=>kvs ++ [(k,v)]
theorem KF (hK:Key kf kd) (k:α):∀ (kvs:List (α × β)) (n i:Nat),Instr.findNow kd (kf k) (gEs kf vf n kvs) i=some ((jl kvs k i).map (fun p=>(p.1,vf p.2)))
 | [],_,_=>rfl
 | p::r,n,i=>by
  simp only [gEs,Instr.findNow,gE,hK.same,jl]
  by_cases h:k=p.1
  ·simp [h]
  simp only [decide_eq_false h,if_neg h]
  exact KF hK k r (n+1) (i+1)
theorem xM:∀ (kvs:List (α × β)) (k:α) (n:Nat) {i:Nat} {v:β},jl kvs k n=some (i,v)→n≤i∧kvs[i-n]?=some (k,v)
 | [],_,_,_,_,h=>by cases h
 | p::r,k,n,i,v,h=>by
  simp only [jl] at h
  split at h
  ·rename_i a;cases h;subst a;simp
  obtain ⟨c,b⟩:=xM r k (n+1) h
  refine ⟨omX,?_⟩
  rw [show i-n=(i-(n+1))+1 by omega];simpa using b
theorem wK:∀ (kvs:List (α × β)) (k:α) (n:Nat),(jl kvs k n).map (·.2)=(jl kvs k 0).map (·.2)
 | [],_,_=>rfl
 | p::r,k,n=>by
  simp only [jl]
  split
  ·rfl
  rw [wK r k (n+1),wK r k (0+1)]
theorem ku (p:α × β) (r:List (α × β)) (k:α):oN (p::r) k=if k=p.1 then some p.2 else oN r k:=by
 unfold oN;simp only [jl]
 split
 ·rfl
 exact wK r k 1
theorem Vj (r:List (α × β)) (q:α × β) (k:α):oN (r ++ [q]) k=(oN r k).or (if k=q.1 then some q.2 else none):=by
 induction r with
 | nil=>rw [List.nil_append,ku];simp [oN,jl]
 | cons p r ih=>rw [List.cons_append,ku,ku,ih];split <;> simp
theorem QD:∀ (r:List (α × β)) (n i:Nat) (k:α) (v u:β) (k':α),jl r k n=some (i,u)→oN (r.set (i-n) (k,v)) k'=if k'=k then some v else oN r k'
 | [],_,_,_,_,_,_,h=>by cases h
 | p::r,n,i,k,v,u,k',h=>by
  simp only [jl] at h
  split at h
  ·rename_i b;cases h;rw [Nat.sub_self,List.set_cons_zero,ku,ku]
   subst b;split <;> simp_all
  rename_i b
  have c:=(xM r k (n+1) h).1
  have ih:=QD r (n+1) i k v u k' h
  rw [show i-n=(i-(n+1))+1 by omega,List.set_cons_succ,ku,ku,ih]
  by_cases a:k'=p.1
  ·have:¬ k'=k:=fun e=>b (e▸a)
   rw [if_pos a,if_pos a,if_neg this]
  rw [if_neg a,if_neg a]
theorem Il (kvs:List (α × β)) (k:α) (v:β) (k':α):oN (AZ kvs k v) k'=if k'=k then some v else oN kvs k':=by
 unfold AZ
 cases h:jl kvs k 0 with
 | none =>
  have hn:oN kvs k=none:=by unfold oN;rw [h];rfl
  rw [Vj]
  by_cases a:k'=k
  ·subst a;simp [hn]
  simp [a]
 | some p=>exact QD kvs 0 p.1 k v p.2 k' h
theorem xO (k:α):oN ([]:List (α × β)) k=none:=rfl
section ops
variable {C:Cx} {e:Env} {w:World} {K:Value→World→Prop} {d:Option Tmp} {ty:TypeId} {pos:String} {aft:Array Edge} {g:Option (Nat × Bool)}
variable {x y z:Operand} {t kt vt:TypeId}
theorem xP (hK:Key kf kd) (a:P.underlying kt=some kd) (k:α) (kvs:List (α × β)) (w:World) :
  (Instr.findKey kt (kf k) (gEs kf vf 0 kvs)).run P w = .ok ((jl kvs k 0).map (fun p=>(p.1,vf p.2))) w:=by
 simp [Instr.findKey,run_underlying a,KF hK]
theorem lG (h:∀ b w',b=w.heap.size→w'.heap.size=b+1→Ext w w'→wJ kf vf w' b []→K (.map (some b)) w'):O C e ⟨d,.makeMap t none,ty,pos,aft,g⟩ w K :=
 bD (w':=w.alloc (.map #[] 0)) (v:=.map (some w.heap.size)) spX (fun a ha=>by simp [execOp,Instr.makeMap])
  (h _ _ rfl spX (Keep.alloc _ _ _) (heap_alloc_new w _))
theorem qh {k:α} {z0:β} {kvs:List (α × β)} (hK:Key kf kd) (i:∀ w,(underlying t).run C.P w = .ok (.map kt vt) w) (f:∀ w,(underlying kt).run C.P w = .ok kd w) (l:∀ w,(zeroValue vt).run C.P w = .ok (vf z0) w)
  (hx:ev e x=some (.map (some b))) (hy:ev e y=some (kf k)) (j:wJ kf vf w b kvs) (h:K (vf ((oN kvs k).getD z0)) w):O C e ⟨d,.lookup t x y false,ty,pos,aft,g⟩ w K :=
 bD spX (fun a ha=>by
  have hf:=xP (vf:=vf) hK (dL f) k kvs w
  cases c:jl kvs k 0 with
  | none=>rw [c] at hf;simp [execOp,Instr.lookup,ha.eval hx,ha.eval hy,i w,MapKept.run_getObj_map j,hK.check _ _ _ _ _ (dL f),hf,l w,oN,c]
  | some p=>rw [c] at hf;simp [execOp,Instr.lookup,ha.eval hx,ha.eval hy,i w,MapKept.run_getObj_map j,hK.check _ _ _ _ _ (dL f),hf,oN,c]) h
theorem Gg (kvs:List (α × β)) (i:Nat) (p:α × β) (f:MapEntry→MapEntry) (hf:∀ q,kvs[i]?=some q→f (gE kf vf q i)=gE kf vf p i):(gEs kf vf 0 kvs).toArray.modify i f=(gEs kf vf 0 (kvs.set i p)).toArray:=by
 apply Array.ext_getElem?
 intro j
 rw [Array.getElem?_modify]
 simp only [List.getElem?_toArray,Ij,Nat.zero_add]
 by_cases a:i=j
 ·subst a
  simp only [if_true,List.getElem?_set_self']
  cases b:kvs[i]? with
  | none=>simp
  | some q=>simp [hf q b]
 rw [if_neg a,List.getElem?_set_ne a]
theorem jJ {k:α} {v:β} {kvs:List (α × β)} (hK:Key kf kd) (r:∀ w,(underlying t).run C.P w = .ok (.map kt vt) w) (m:∀ w,(underlying kt).run C.P w = .ok kd w)
  (hx:ev e x=some (.map (some b))) (hy:ev e y=some (kf k)) (s:ev e z=some (vf v)) (c:wJ kf vf w b kvs) (h:∀ w',Upd b w w'→wJ kf vf w' b (AZ kvs k v)→K undef w'):O C e ⟨d,.mapUpdate t x y z,ty,pos,aft,g⟩ w K:=by
 have hf:=xP (vf:=vf) hK (dL m) k kvs w
 have f:=c.lt
 cases j:jl kvs k 0 with
 | none =>
  rw [j] at hf
  refine nG (w':={ w with heap:=w.heap.setIfInBounds b (.map ((gEs kf vf 0 kvs).toArray.push { key:=kf k,val:=vf v,born:=kvs.length }) (kvs.length+1)) }) spX (fun a ha=>by
   simp [execOp,Instr.mapUpdate,ha.eval hx,ha.eval hy,ha.eval s,r w,MapKept.run_getObj_map c,hK.check _ _ _ _ _ (dL m),hf,MapKept.run_setObj_map _ c]) (h _ ?_ ?_)
  ·exact fZ w b _
  have e:AZ kvs k v=kvs ++ [(k,v)]:=by rw [AZ,j]
  unfold wJ
  rw [e,Ik,Array.getElem?_setIfInBounds_self]
  simp [f,gE]
 | some p =>
  rw [j] at hf
  obtain ⟨_,u⟩:=xM kvs k 0 (i:=p.1) (v:=p.2) j
  rw [Nat.sub_zero] at u
  have n:(gEs kf vf 0 kvs).toArray[p.1]?=some (gE kf vf (k,p.2) p.1):=by simp [Ij,u]
  have l:=Gg (kf:=kf) (vf:=vf) kvs p.1 (k,v) (fun e=>{ e with key:=kf k,val:=vf v }) (fun q _=>rfl)
  refine nG (w':={ w with heap:=w.heap.setIfInBounds b (.map ((gEs kf vf 0 kvs).toArray.modify p.1 fun e=>{ e with key:=kf k,val:=vf v }) kvs.length) }) spX (fun a ha=>by
   have o:=hK.stays C.P k w
   simp only [execOp,Instr.mapUpdate,ha.eval hx,ha.eval hy,ha.eval s,Sem.run_bind,r w,Result.andThen_ok,MapKept.run_getObj_map c,hK.check _ _ _ _ _ (dL m),hf,Option.map_some]
   rw [n]
   simp [gE,o,MapKept.run_setObj_map _ c]) (h _ ?_ ?_)
  ·exact fZ w b _
  have e:AZ kvs k v=kvs.set p.1 (k,v):=by rw [AZ,j]
  unfold wJ
  rw [l,e,Array.getElem?_setIfInBounds_self]
  simp [f]
end ops
end maps
theorem Ints.ext {kd:IntKind} {us:List Int} (h:Ints kd lo w v us) (k:Ext w w'):Ints kd lo w' v us:=h.keep (k.mono lzX)
theorem Sl.ext {sz:Nat} (h:Sl lo w v n sz cs) (k:Ext w w'):Sl lo w' v n sz cs:=h.keep (k.mono lzX)
theorem Blk.ext (h:Blk w b cs t) (k:Ext w w'):Blk w' b cs t:=h.keep k lzX
theorem wJ.ext {α β:Type} [DecidableEq α] {kf:α→Value} {vf:β→Value} {kvs:List (α × β)} (h:wJ kf vf w b kvs) (k:Ext w w'):wJ kf vf w' b kvs:=h.keep k lzX
section bools
variable {C:Cx} {e:Env} {w:World} {K:Value→World→Prop} {d:Option Tmp} {ty:TypeId} {pos:String} {aft:Array Edge} {g:Option (Nat × Bool)}
variable {x y:Operand} {tx ty':TypeId} {p q:Bool}
theorem Cj (a:∀ w,(underlying tx).run C.P w = .ok .bool w) (hx:ev e x=some (.bool p)) (hy:ev e y=some (.bool q)) (b:p≠q) (h:K (.bool false) w):O C e ⟨d,.binOp .eql tx x y ty',ty,pos,aft,g⟩ w K :=
 ou a hx hy (by rw [show (p == q)=false by simpa using b];exact h)
theorem KG {oa:Option Addr} {cap:Nat} (b:∀ w,(underlying tx).run C.P w = .ok (.slice el) w) (hx:ev e x=some (.slice oa n cap)) (hy:ev e y=some (.slice none 0 0)) (h:K (.bool oa.isNone) w):O C e ⟨d,.binOp .eql tx x y ty',ty,pos,aft,g⟩ w K :=
 bD spX (fun a ha=>by
  have key:∀ dd,(Op.equalIn (dd+1) tx (.slice oa n cap) (.slice none 0 0)).run C.P w = .ok oa.isNone w:=fun dd=>by cases oa <;> simp [Op.equalIn,b w]
  have c:(Op.equal tx (.slice oa n cap) (.slice none 0 0)).run C.P w = .ok oa.isNone w:=key 9999
  simp only [execOp,ha.eval hx,ha.eval hy,eqGuard,binOp];simp [c]) h
theorem wo {sz:Nat} (c:∀ w,(underlying tx).run C.P w = .ok (.slice el) w) (hx:ev e x=some v) (hy:ev e y=some (.slice none 0 0)) (hv:Sl lo w v n sz cs) (f:n=0→K (.bool true) w) (hf:True→K (.bool false) w) :
  O C e ⟨d,.binOp .eql tx x y ty',ty,pos,aft,g⟩ w K:=by
 obtain ⟨i,oa,cap,rfl,j,k,b⟩:=hv
 refine KG c hx hy ?_
 cases oa with
 | none=>exact f (by rcases b with b|⟨a,h,_⟩;exact b;cases h)
 | some a=>exact hf trivial
end bools
theorem mJ {k:List It} {m:Nat} {R:Value→World→Prop} {s c:Tmp} {ad:Addr} {v2:Value} (b:fn.results=#[.cell s t,.tmp c]) (d:∀ w,(isAgg t).run P w = .ok true w) (hs:∀ w,(sizeOf t).run P w = .ok m w) (hn:cs.length=m)
  (hv:look e s=some (.pointer (some ad))) (f:look e c=some v2) (g:Row w ad cs) (h:R (.tuple #[.agg cs.toArray,v2]) w):T (YP P fn n R) (.code .ret::k) e w :=
 lq fun a ha=>bodyPost_ret (v:=.tuple #[.agg cs.toArray,v2]) (by
  subst hn
  have i:=ha.sat.get s _ hv
  have j:=ha.sat.get c _ f
  simp [results,b,Array.getD_eq_getD_getElem?,i,j,loadVar,asAddr,d,hs,run_loadCells_list w ad cs g]) ha.defers h
def ObX (C:Cx) (ops:Array Oper) (e:Env) (o:Oper) (f:Fact) (w:World) (X:Value→World→World→Prop) (J:World→Prop):Prop :=
 (fF ops e o=some true∧O C e o w (fun v w'=>J w'∧f.holds v w'∧X v w w'))∨(fF ops e o=some false∧f.holds undef w∧J w∧X undef w w)
def alJ (C:Cx) (l:List Oper) (fs:List Fact) (e:Env) (Inv:Nat→World→Prop) (Rel:World→World→Prop) (X:Nat→Value→World→Prop) (Y:Nat→Env→Value→World→Prop):Nat→List Oper→List Fact→List (List Nat)→List (Option Nat)→Prop :=
 abI fun i o f ds q=>match q with
  | none=>∀ c w1,Inv c w1→Bind w1 (fH l fs ds) (fun en=>ObX C l.toArray (en++e) o f w1 (fun v w w'=>X i v w∧Y i en v w') (fun w'=>Rel w1 w'∧Inv c w'))
  | some p=>∀ w1,Inv p w1→Bind w1 (fH l fs ds) (fun en=>ObX C l.toArray (en++e) o f w1 (fun v w w'=>X i v w∧Y i en v w') (fun w'=>Rel w1 w'∧Inv (p+1) w'))
def Pairs (l:List Oper) (m:Nat) (P:Nat→Nat→Value→Value→World→Prop) (en:Env) (w:World):Prop:=∀ (i j:Nat) (oi oj:Oper) (di:Tmp) (vi:Value),i<j→j<m→l[i]?=some oi→l[j]?=some oj→oi.dst=some di→look en di=some vi→∃ vj,(∀ dj u,oj.dst=some dj→look en dj=some u→u=vj)∧P i j vi vj w
section
variable {C:Cx} {k:List It} {l:List Oper} {m:Nat} {fs:List Fact} {e:Env} {w:World} {S:List Nat} {e':Env} {Inv:Nat→World→Prop} {ch:List (Option Nat)}
theorem Vk (OB:C.P.follows .mixedOrders=true) (m len:Nat) (S:List Nat) (he:AX e S=some e') (fs:List Fact) (ds:List (List Nat)) (ch:List (Option Nat)) (A:List (List Nat)) (Inv:Nat→World→Prop) (Rel:World→World→Prop) (X:Nat→Value→World→Prop) (Y:Nat→Env→Value→World→Prop) (P:Nat→Nat→Value→Value→World→Prop)
  (U:∀ i j vi vj w w',Rel w w'→P i j vi vj w→P i j vi vj w')
  (hP1:∀ i j f vi vj w1 a en dd oi,i<j→fs[i]?=some f→f.holds vi w1→X j vj w1→Y j en vj a→ds[j]?=some dd→l[i]?=some oi→(i∈dd→∀ di,oi.dst=some di→look en di=some vi)→P i j vi vj a)
  (V:∀ i j f vi vj w1 a,i<j→fs[j]?=some f→f.holds vj w1→X i vi w1→(∀ dd,ds[j]?=some dd→i∉dd)→P i j vi vj a) (hA:Cc l A=true) (W:Ih C.n l m ds S A=true) (Z:oz A m ch len=true) (B:fs.length=m)
  (D:Cb Rel fs) (h0:Inv 0 w.drew) (aa:alJ C l fs e' Inv Rel X Y 0 (l.take m) fs ds ch)
  (E:∀ w1,Inv len w1→Bind w1 (fH l fs (List.range m)) (fun en=>Pairs l m P en w1→L C k l.toArray (l.drop m) (en++e) w1)) :
  T C (.code (.region id l.toArray true)::k) e w:=by
 let J:Nat→BD→World→Prop:=fun c σ w1=>Inv c w1∧(∀ i v,σ i=some v→∃ f o,fs[i]?=some f∧l[i]?=some o∧f.holds v w1)∧(∀ i j vi vj,i<j→σ i=some vi→σ j=some vj→P i j vi vj w1)∧∀ j dd v,ds[j]?=some dd→σ j=some v→Made σ dd
 refine ug (Inv:=J) (Rel:=Rel) OB m len S he fs ds ch A hA W Z B D ⟨h0,fun _ _ h=>(by cases h),fun _ _ _ _ _ h _=>(by cases h),fun _ _ _ _ h=>(by cases h)⟩ (fun i o f dd q ho hf F hq c σ w1 hI hp hn hm=>?_) (fun σ w1 hI hm=>Bind.mono _ (fun en h O=>h fun i j oi oj di vi d Q ab ac ad ae=>?_) (E w1 hI.1))
 ·obtain ⟨hI1,hI2,af,G⟩:=hI
  have hB:Bind w1 (fH l fs dd) (fun en=>ObX C l.toArray (en++e') o f w1 (fun v w w'=>X i v w∧Y i en v w') (fun w'=>Rel w1 w'∧Inv (nx q c) w')):=by
   have h:=y8 aa ho hf F hq
   rw [Nat.zero_add] at h
   cases q with
   | none=>exact h c w1 hI1
   | some p=>obtain rfl:=hp p rfl;exact h w1 hI1
  refine Bind.mono _ (fun en h O=>.inl ?_) hB
  have hnext:∀ v a,(Rel w1 a∧Inv (nx q c) a)→f.holds v a→X i v w1∧Y i en v a→Rel w1 a∧J (nx q c) (upV σ i v) a:=by
   rintro v a ⟨hr,hv⟩ R ⟨hX,hY⟩
   have H:∀ {dd},Made σ dd→Made (upV σ i v) dd:=fun h j Q=>by
    by_cases e:i=j
    ·subst e;exact ⟨v,oC _ _ _⟩
    rw [qH _ _ e];exact h j Q
   refine ⟨hr,hv,fun i2 v2 b=>?_,fun i2 I vi vj d x b=>?_,fun j r v' g b=>?_⟩
   ·by_cases e:i=i2
    ·subst e;rw [oC] at b;cases b
     rw [List.getElem?_take] at ho
     split at ho
     ·exact ⟨f,o,hf,ho,R⟩
     cases ho
    rw [qH _ _ e] at b
    obtain ⟨y,o2,z,K,M⟩:=hI2 i2 v2 b
    exact ⟨y,o2,z,K,BA D i2 y z _ _ _ hr M⟩
   ·by_cases e1:i=i2
    ·subst e1;rw [oC] at x;cases x
     rw [qH _ _ omX] at b
     obtain ⟨y,o2,z,K,M⟩:=hI2 I vj b
     exact V i I y v vj w1 a d z M hX fun r g s=>by obtain ⟨u,t⟩:=G I r vj g b i s;rw [hn] at t;cases t
    rw [qH _ _ e1] at x
    by_cases e2:i=I
    ·subst e2;rw [oC] at b;cases b
     obtain ⟨y,o2,z,K,M⟩:=hI2 i2 vi x
     exact hP1 i2 i y vi v w1 a en dd o2 d z M hX hY F K fun s di ag=>(O i2 s o2 di K ag).trans x
    rw [qH _ _ e2] at b
    exact U _ _ _ _ _ _ hr (af i2 I vi vj d x b)
   by_cases e:i=j
   ·subst e;rw [F] at g;cases g;exact H hm
   rw [qH _ _ e] at b;exact H (G j r v' g b)
  rcases h with ⟨hw,hO⟩|⟨hw,t,hJ,ah⟩
  ·exact .inl ⟨hw,hO.mono fun v a ⟨hx,R,hX⟩=>⟨hnext v a hx R hX,R⟩⟩
  exact .inr ⟨hw,t,hnext undef w1 hJ t ah⟩
 obtain ⟨vj,N⟩:=hm j (by simpa using Q)
 refine ⟨vj,fun dj u F t=>?_,hI.2.2.1 i j vi vj d ((O i (by simp;omega) oi di ab ad).symm.trans ae) N⟩
 have:=O j (by simpa using Q) oj dj ac F
 rw [t,N] at this;cases this;rfl
def abJ (LT:List (Nat × Nat × Nat)) (Lk:Nat→Nat→Value→Value→World→Prop) (j:Nat) (en:Env) (v:Value) (w:World):Prop:=match LT.find? (fun t=>t.1 == j) with
 | some (_,i,d)=>∀ u,look en d=some u→Lk i j u v w
 | none=>True
def Vl (LT:List (Nat × Nat × Nat)) (Lk:Nat→Nat→Value→Value→World→Prop) (i j:Nat) (vi vj:Value) (w:World):Prop:=match LT.find? (fun t=>t.1 == j) with
 | some (_,i',_)=>i=i'→Lk i j vi vj w
 | none=>True
def aeA (l:List Oper) (ds:List (List Nat)) (LT:List (Nat × Nat × Nat)):Bool:=LT.all fun t=>(match ds[t.1]? with|some dd=>dd.contains t.2.1|none=>false) && ((l[t.2.1]?).bind (·.dst) == some t.2.2)
theorem y5 {P Q R:Prop} (h:P∧Q) (r:R):P∧Q∧R:=⟨h.1,h.2,r⟩
theorem ObX.op {C:Cx} {ops:Array Oper} {o:Oper} {f:Fact} {X:Value→World→World→Prop} {J:World→Prop} (a:fF ops e o=some true) (h:O C e o w (fun v w'=>J w'∧f.holds v w'∧X v w w')):ObX C ops e o f w X J:=.inl ⟨a,h⟩
end
def Gh:Value→Option Nat
 | .pointer (some a)=>some a.block
 | _=>none
section
variable {C:Cx} {k:List It} {l:List Oper} {m:Nat} {fs:List Fact} {e:Env} {w:World} {S:List Nat} {e':Env} {Inv:Nat→World→Prop} {ch:List (Option Nat)}
def Io (M:List Nat) (i:Nat) (v:Value) (w:World):Prop:=match M.contains i with
 | true=>∀ b,(Gh v)=some b→w.heap.size≤b
 | false=>True
def Ip (M:List Nat) (i j:Nat) (vi vj:Value):Prop:=match M.contains i && M.contains j with
 | true=>∀ b,(Gh vi)=some b→(Gh vj)=some b→False
 | false=>True
theorem mM (OB:C.P.follows .mixedOrders=true) (m len:Nat) (S:List Nat) (W:AX e S=some e') (fs:List Fact) (ds:List (List Nat)) (ch:List (Option Nat)) (A:List (List Nat)) (M:List Nat) (LT:List (Nat × Nat × Nat)) (Lk:Nat→Nat→Value→Value→World→Prop) (Inv:Nat→World→Prop) (Rel:World→World→Prop)
  (hM:∀ i f v w,M.contains i=true→fs[i]?=some f→f.holds v w→∀ b,(Gh v)=some b→b<w.heap.size) (D:∀ i j vi vj w w',Rel w w'→Lk i j vi vj w→Lk i j vi vj w')
  (hA:Cc l A=true) (E:Ih C.n l m ds S A=true) (F:oz A m ch len=true) (G:aeA l ds LT=true) (s:fs.length=m)
  (H:Cb Rel fs) (h0:Inv 0 w.drew) (I:alJ C l fs e' Inv Rel (Io M) (abJ LT Lk) 0 (l.take m) fs ds ch)
  (u:∀ w1,Inv len w1→Bind w1 (fH l fs (List.range m)) (fun en=>Pairs l m (fun i j vi vj w=>Ip M i j vi vj∧Vl LT Lk i j vi vj w) en w1→L C k l.toArray (l.drop m) (en++e) w1)) :
  T C (.code (.region id l.toArray true)::k) e w:=by
 have x:∀ t∈LT,(∃ dd,ds[t.1]?=some dd∧t.2.1∈dd)∧∃ o,l[t.2.1]?=some o∧o.dst=some t.2.2:=fun t X=>by
  have p:=List.all_eq_true.1 G t X
  simp only [Bool.and_eq_true,beq_iff_eq] at p
  obtain ⟨c,y⟩:=p
  refine ⟨?_,?_⟩
  ·cases a:ds[t.1]? with
   | none=>simp [a] at c
   | some dd=>simp only [a] at c;exact ⟨dd,rfl,by simpa using c⟩
  cases a:l[t.2.1]? with
  | none=>simp [a] at y
  | some o=>simp only [a,Option.bind_some] at y;exact ⟨o,rfl,y⟩
 refine Vk OB m len S W fs ds ch A Inv Rel (Io M) (abJ LT Lk) (fun i j vi vj w=>Ip M i j vi vj∧Vl LT Lk i j vi vj w) ?_ ?_ ?_ hA E F s H h0 I u
 ·rintro i j vi vj w w' Y ⟨p,c⟩
  refine ⟨p,?_⟩
  unfold Vl at c ⊢
  split
  ·rename_i a;rw [a] at c;exact fun e=>D _ _ _ _ _ _ Y (c e)
  trivial
 ·intro i j f vi vj w1 Z en dd oi J hf K hX hY N O Q
  refine ⟨?_,?_⟩
  ·unfold Ip
   cases q:(M.contains i && M.contains j)
   ·trivial
   intro b p c
   simp only [Bool.and_eq_true] at q
   unfold Io at hX
   rw [q.2] at hX
   have y:=hM i f vi w1 q.1 hf K b p
   have h4:w1.heap.size≤b:=hX b c
   omega
  unfold Vl
  unfold abJ at hY
  split
  ·rename_i t i' d a
   rw [a] at hY
   rintro rfl
   have R:=List.mem_of_find?_eq_some a
   have U:t=j:=by have:=List.find?_some a;simpa using this
   subst U
   obtain ⟨⟨z,g,h⟩,o,r,B⟩:=x _ R
   simp only at g h r B
   rw [N] at g;cases g
   rw [O] at r;cases r
   exact hY vi (Q h d B)
  trivial
 intro i j f vi vj w1 Z J hf K hX V
 refine ⟨?_,?_⟩
 ·unfold Ip
  cases q:(M.contains i && M.contains j)
  ·trivial
  intro b p c
  simp only [Bool.and_eq_true] at q
  unfold Io at hX
  rw [q.1] at hX
  have y:=hM j f vj w1 q.2 hf K b c
  have h4:w1.heap.size≤b:=hX b p
  omega
 unfold Vl
 split
 ·rename_i t i' d a
  rintro rfl
  have R:=List.mem_of_find?_eq_some a
  have U:t=j:=by have:=List.find?_some a;simpa using this
  subst U
  obtain ⟨⟨z,g,h⟩,_⟩:=x _ R
  exact absurd h (V z g)
 trivial
end
def an1 (C:Cx) (l:List Oper) (fs:List Fact) (e:Env) (Inv:Nat→BD→World→Prop) (Rel:World→World→Prop):Nat→List Oper→List Fact→List (List Nat)→List (Option Nat)→Prop :=
 abI fun i o f ds q=>match q with
  | none=>∀ c σ w1,Inv c σ w1→σ i=none→Bind w1 (fH l fs ds) (fun en=>Links l σ en ds→ObG C l.toArray (en++e) o f w1 (fun v w'=>Rel w1 w'∧Inv c (upV σ i v) w'))
  | some p=>∀ σ w1,Inv p σ w1→σ i=none→Bind w1 (fH l fs ds) (fun en=>Links l σ en ds→ObG C l.toArray (en++e) o f w1 (fun v w'=>Rel w1 w'∧Inv (p+1) (upV σ i v) w'))
section
variable {C:Cx} {k:List It} {l:List Oper} {m:Nat} {fs:List Fact} {e:Env} {w:World} {S:List Nat} {e':Env} {Inv:Nat→BD→World→Prop} {ch:List (Option Nat)}
theorem qJ (OB:C.P.follows .mixedOrders=true) (m len:Nat) (S:List Nat) (t:AX e S=some e') (fs:List Fact) (ds:List (List Nat)) (ch:List (Option Nat)) (A:List (List Nat)) (Inv:Nat→BD→World→Prop) (Rel:World→World→Prop) (hA:Cc l A=true) (d:Ih C.n l m ds S A=true) (g:oz A m ch len=true) (a:fs.length=m)
  (j:Cb Rel fs) (h0:Inv 0 (fun _=>none) w.drew) (r:an1 C l fs e' Inv Rel 0 (l.take m) fs ds ch)
  (b:∀ σ w1,Inv len σ w1→Bind w1 (fH l fs (List.range m)) (fun en=>Links l σ en (List.range m)→L C k l.toArray (l.drop m) (en++e) w1)) :
  T C (.code (.region id l.toArray true)::k) e w:=by
 refine ug OB m len S t fs ds ch A hA d g a j h0 (fun i o f dd q ho hf u v c σ w1 hI x hn _=>?_) (fun σ w1 h _=>b σ w1 h)
 have h:=y8 r ho hf u v
 rw [Nat.zero_add] at h
 cases q with
 | none=>exact Bind.mono _ (fun en h s=>.inl (h s)) (h c σ w1 hI hn)
 | some p=>obtain rfl:=x p rfl;exact Bind.mono _ (fun en h s=>.inl (h s)) (h σ w1 hI hn)
end
section
variable {C:Cx} {k:List It} {e:Env} {w:World} {K:Value→World→Prop} {d:Option Tmp} {ty:TypeId} {pos:String} {aft:Array Edge} {g:Option (Nat × Bool)}
theorem Cm {σ:Type} (I:σ→(Nat→Prop)→World→Prop) (X:Code→(Nat→Prop)→World→Prop) {g:Operand} {p:Tmp} {assign body:Code} {gf:FuncId} {lb:Array Value} {Next:σ→Value→σ→Prop} {q sE:σ}
  {Inv:World→Prop} {S0:Nat→Prop} {Pre:World→Prop} {e1:Value→Nat→Env} (A:Value→Nat→World→Prop) {l₀:Nat} {r₀:Loop} (s:C.r=some l₀) (hl₀:w.heap[l₀]?=some (.loop r₀)) (t:ev e g=some (.func (.func gf) #[] lb)) (m:∀ args w,(callFunc gf args).run C.P w = .ok (.enter gf args) w) (u:iD C.n (some p)=true)
  (f:aex C.P gf lb Next q sE Inv S0 Pre) (hI:Kz I) (hX:∀ c S W W' b,X c S W→S b→Upd b W W'→X c S W') (hInv:∀ i S W,I i S W→Inv W) (h0:I q S0 w) (hS0:∀ k,S0 k→k<w.heap.size) (abH:∀ W,Ext w W→Pre W)
  (hA:∀ v x W W' b,A v x W→b≠x→Upd b W W'→A v x W')
  (a:∀ (l:Nat) (Q:Exit→Act→World→Prop) (i j:σ) (v:Value) (k:List It) (W:World),Next i v j→(∀ x W',W.heap.size≤x→Ext W W'→A v x W'→T (rCx C l Q) k (e1 v x) W')→T (rCx C l Q) (.code assign::k) ((p,v)::e) W)
  (d:∀ (l:Nat) (i:σ) (v:Value) (x:Nat) (j:σ) (S:Nat→Prop) (W:World),Next i v j→I i S W→A v x W→(∃ r,W.heap[l]?=some (.loop r))→S l→T (rCx C l (RQ I X j S W)) [.code body] (e1 v x) W)
  (hdone:∀ (S:Nat→Prop) (W:World),(∀ k,S0 k→S k)→I sE S W→T C k e W)
  (hstop:∀ (c:Code) (S:Nat→Prop) (W:World),X c S W→T C (.code c::k) e W) :
  T C (.code (.rangeFunc g #[p] assign body)::k) e w :=
 tZ I X A (L:=w.heap.size) (dfr:=r₀.defers) (dd:=[]) (E:=fun _=>False) (Z:=fun _=>True)
  (fun fn tmps=>⟨w.alloc (.loop { state:=.ready,pending:=none,fn,tmps,params:=#[p],assign,body,defers:=r₀.defers }),by rw [show (FW C.r).round=some l₀ from s];exact AY hl₀ _ _ _ _ _,Keep.alloc 0 w _,World.alloc_heap_new w _,spX,trivial⟩)
  (Nat.le_refl _) (fun k h=>h.elim) (fun _ _ _ _=>trivial) t m u f hI hX hInv h0 hS0 abH hA a d (fun S W y _ o _=>hdone S W y o) (fun c S W _ o _=>hstop c S W o)
theorem Fg {σ:Type} {I:σ→(Nat→Prop)→World→Prop} {X:Code→(Nat→Prop)→World→Prop} {j:σ} {S:Nat→Prop} {W W':World} (b:EW id k=none) (h:X (.exit id) S W'∧∀ k,S k→W'.heap[k]?=W.heap[k]?):T (rCx C l (RQ I X j S W)) (.code (.exit id)::k) e W':=Ie b fun a _=>h
end
def Pan (v:Value) (R:World→Prop):Ending→World→Prop
 | .panicked ch,w=>ch = [{ v:=v,recovered:=false }]∧R w
 | _,_=>False
abbrev aeB (P:Program) (fn:Func) (n:Nat) (v:Value) (R:World→Prop):Cx:={ P:=P,r:=none,n:=n,D:=[],Q:=bodyPost P fn (Pan v R) }
section
variable {C:Cx} {k:List It} {e:Env} {w:World} {d:Option Tmp} {ty:TypeId} {pos:String} {aft:Array Edge} {g:Option (Nat × Bool)} {ops:Array Oper} {rest:List Oper}
theorem nH:∀ {k:List It} ch a w,C.Q (.panic ch) a w→run C k (.panic ch) a w
 | [],_,_,_,h=>h
 | .blk _::k,ch,a,w,h=>nH (k:=k) ch a w h
 | .code _::k,ch,a,w,h=>nH (k:=k) ch a w h
 | .hook _::k,ch,a,w,h=>nH (k:=k) ch a w h
theorem mO {f:FuncId} {R:World→Prop} (hf:P.funcs[f]?=some fn) (hb:fn.body=some c) (hn:fn.ntmps=n) (a:Nat.ble vs.length n=true)
  (h:T (aeB P fn n v R) [.code c] (xH 0 vs) w):Calls P f vs.toArray w (Pan v R):=by
 refine (callsIn_wide (n:=0)).1 (callsIn_of_wp hf hb trivial ?_ rfl)
 have g:vs.length≤n:=by simpa [Nat.ble_eq] using a
 refine h _ ⟨⟨by simp [hn];omega,fun i v hi=>?_⟩,rfl⟩
 obtain ⟨_,b⟩:=l9 vs 0 i v hi
 have d:i<vs.length:=by
  rcases Nat.lt_or_ge i vs.length with e | e
  ·exact e
  rw [Nat.sub_zero,List.getElem?_eq_none e] at b;cases b
 rw [Array.getElem?_append_left (by simpa using d)]
 simpa using b
theorem SN {x:Operand} {u:Value} (b:fF ops e ⟨d,.panic x,ty,pos,aft,g⟩=some true) (hx:ev e x=some (.iface t u)) (h:∀ a,Fits C e a→C.Q (.panic [{ v:=.iface t u,recovered:=false }]) a w) :
  L C k ops (⟨d,.panic x,ty,pos,aft,g⟩::rest) e w:=fun a ha=>by
 unfold wpListIn
 rw [lu ha b,if_pos rfl]
 refine ⟨fun _ _=>trivial,?_⟩
 rw [Oper.semAt_eq _ _ _ spX]
 have c:(execOp a.eval ⟨d,.panic x,ty,pos,aft,g⟩).run C.P w = .halt (.panic (.iface t u)) w:=by
  simp [execOp,Instr.panic,ha.eval hx,goPanic]
 rw [c]
 exact nH _ a w (h a ha)
theorem OC {R:World→Prop} {x:Operand} {u:Value} (b:fF ops e ⟨d,.panic x,ty,pos,aft,g⟩=some true) (hx:ev e x=some (.iface t u)) (h:R w):L (aeB P fn n (.iface t u) R) k ops (⟨d,.panic x,ty,pos,aft,g⟩::rest) e w :=
 SN b hx fun a ha=>⟨ha.defers,rfl,h⟩
theorem dI {f:FuncId} {fi ca:Array Value} {xs:List Operand} {tys:Array TypeId} {fo:Operand} {R:World→Prop} (l:fF ops e ⟨d,.call { callee:=.value fo,args:=xs.toArray,argTypes:=tys },ty,pos,aft,g⟩=some true)
  (i:∀ args w,(callFunc f args).run C.P w = .ok (.enter f args) w) (hf:ev e fo=some (.func (.func f) fi ca)) (hx:evs e xs=some vs) (m:Calls C.P f (fi++vs.toArray++ca) w (Pan v R)) (h:∀ w' a,R w'→Fits C e a→C.Q (.panic [{ v:=v,recovered:=false }]) a w') :
  L C k ops (⟨d,.call { callee:=.value fo,args:=xs.toArray,argTypes:=tys },ty,pos,aft,g⟩::rest) e w:=fun a ha=>by
 unfold wpListIn
 rw [lu ha l,if_pos rfl]
 refine ⟨fun _ _=>trivial,?_⟩
 rw [Oper.semAt_eq _ _ _ spX]
 have b:(execOp a.eval ⟨d,.call { callee:=.value fo,args:=xs.toArray,argTypes:=tys },ty,pos,aft,g⟩).run C.P w = .ok (.enter f (fi++vs.toArray++ca)) w:=by
  simp [execOp,resolve,Deferred.ofValue,invoke,ha.eval hf,ha.sat.Kv hx,i]
 rw [b]
 refine ⟨spX,CallsIn.xG ?_⟩
 refine m.mono ?_
 intro en w' j
 cases en with
 | returned v=>exact j.elim
 | panicked c=>obtain ⟨rfl,hR⟩:=j;exact nH _ a w' (h w' a hR ha)
 | outgrown=>exact j.elim
end
section
variable {P:Program} {b:Frame} {a:Act} {k:List Item} {cs:List Frame} {w:World}
theorem mP : step P (lone (b.atR a (.code (.scope c)::k)) cs w) = .next (lone (b.atR a (.code c :: .inScope c::k)) cs w) :=
 step_lone_go (by simp [stepG,stepG.exec,Frame.atR])
theorem Iq : step P (lone (b.atR a (.inScope c::k)) cs w) = .next (lone (b.atR a k) cs w) :=
 step_lone_go (by simp [stepG,stepG.exec,Frame.atR])
end
theorem SQ {F:Fence} {Q:Exit→Act→World→Prop} {a:Act} (h:c.wpIn F n P (Exit.noGoto Q) a w):(Code.scope c).wpIn F n P Q a w:=by
 intro b k cs g hb i
 have h0:(lone (b.atR a (.code (.scope c)::k)) cs w).fenced P F:=fenced_calm hb i rfl
 obtain ⟨e,a₁,w₁,f,d⟩:=h b (.inScope c::k) cs g hb i
 cases e with
 | normal=>exact ⟨.normal,a₁,w₁,f,.head h0 mP (StepsIn.trans d (.one (fenced_calm hb i rfl) Iq))⟩
 | exit id =>
  have hx:exitTo id (.inScope c::k)=exitTo id k:=by simp [exitTo]
  exact ⟨.exit id,a₁,w₁,f,fun k' j=>.head h0 mP (d.1 k' (by rw [hx];exact j)),
   fun m j=>let ⟨k₁,o,p⟩:=d.2 m (by rw [hx];exact j);⟨k₁,o,.head h0 mP p⟩⟩
 | goto l=>exact f.elim
 | ret=>exact ⟨_,a₁,w₁,f,.of_steps (.one h0 mP) d⟩
 | panic ch=>exact ⟨_,a₁,w₁,f,.of_steps (.one h0 mP) d⟩
 | outgrown=>exact ⟨_,a₁,w₁,f,.of_steps (.one h0 mP) d⟩
theorem BG {C:Cx} {l:Nat} : ∀ {k:List It} a w,run C k (.goto l) a w→C.Q (.goto l) a w
 | [],_,_,h=>h
 | .blk _::k,a,w,h=>BG (k:=k) a w h
 | .code _::k,a,w,h=>BG (k:=k) a w h
 | .hook _::k,a,w,h=>BG (k:=k) a w h
theorem SS {C:Cx} {k:List It} (hQ:∀ l a w,¬ C.Q (.goto l) a w) (h:T C (.code c::k) e w):T C (.code (.scope c)::k) e w:=fun a ha=>by
 show (Code.scope c).wpIn _ _ _ _ _ _
 refine SQ (wpIn_mono (h a ha) ?_)
 intro ex a w hx
 cases ex with
 | goto l=>exact hQ l a w (BG (k:=k) a w hx)
 | normal=>exact hx
 | exit id=>exact hx
 | ret=>exact hx
 | panic ch=>exact hx
 | outgrown=>exact hx
def Gi (C:Cx) (k:List It) (ops:Array Oper) (e:Env) (o:Oper) (f:Fact) (w:World) (J:World→Prop):Prop:=ObK C ops e o f w J∨(fF ops e o=some true∧agS C k e o w)
section
variable {C:Cx} {k:List It} {ops:Array Oper} {e:Env} {o:Oper} {f:Fact} {w:World} {J:World→Prop} {d:Option Tmp} {ty:TypeId} {pos:String} {aft:Array Edge} {g:Option (Nat × Bool)}
theorem Gi.op (a:fF ops e o=some true) (h:O C e o w (fun v w'=>J w'∧f.holds v w')):Gi C k ops e o f w J:=.inl (ObK.op a h)
theorem CB (a:fF ops e o=some true) (h:agS C k e o w):Gi C k ops e o f w J:=.inr ⟨a,h⟩
theorem Aj {f:FuncId} {fi ca:Array Value} {xs:List Operand} {tys:Array TypeId} {fo:Operand} {R:World→Prop}
  (i:∀ args w,(callFunc f args).run C.P w = .ok (.enter f args) w) (hf:ev e fo=some (.func (.func f) fi ca)) (hx:evs e xs=some vs) (l:Calls C.P f (fi++vs.toArray++ca) w (Pan v R)) (h:∀ w' a,R w'→Fits C e a→C.Q (.panic [{ v:=v,recovered:=false }]) a w') :
  agS C k e ⟨d,.call { callee:=.value fo,args:=xs.toArray,argTypes:=tys },ty,pos,aft,g⟩ w:=fun a ha next=>by
 refine ⟨fun _ _=>trivial,?_⟩
 rw [Oper.semAt_eq _ _ _ spX]
 have b:(execOp a.eval ⟨d,.call { callee:=.value fo,args:=xs.toArray,argTypes:=tys },ty,pos,aft,g⟩).run C.P w = .ok (.enter f (fi++vs.toArray++ca)) w:=by
  simp [execOp,resolve,Deferred.ofValue,invoke,ha.eval hf,ha.sat.Kv hx,i]
 rw [b]
 refine ⟨spX,CallsIn.xG ?_⟩
 refine l.mono ?_
 intro en w' j
 cases en with
 | returned v=>exact j.elim
 | panicked c=>obtain ⟨rfl,hR⟩:=j;exact nH _ a w' (h w' a hR ha)
 | outgrown=>exact j.elim
theorem Ak (h:∀ a,Fits C e a→C.Q .normal a w):T C [] e w:=h
end
def an2 (C:Cx) (k:List It) (l:List Oper) (fs:List Fact) (e:Env) (Inv:Nat→World→Prop) (Rel:World→World→Prop):List Oper→List Fact→List (List Nat)→List (Option Nat)→Prop :=
 abI (fun _ o f ds q=>match q with
  | none=>∀ c w1,Inv c w1→Bind w1 (fH l fs ds) (fun en=>Gi C k l.toArray (en++e) o f w1 (fun w'=>Rel w1 w'∧Inv c w'))
  | some p=>∀ w1,Inv p w1→Bind w1 (fH l fs ds) (fun en=>Gi C k l.toArray (en++e) o f w1 (fun w'=>Rel w1 w'∧Inv (p+1) w'))) 0
section
variable {C:Cx} {k:List It} {l:List Oper} {m:Nat} {fs:List Fact} {e:Env} {w:World} {S:List Nat} {e':Env} {Inv:Nat→World→Prop} {ch:List (Option Nat)}
theorem KH (OB:C.P.follows .mixedOrders=true) (m len:Nat) (S:List Nat) (s:AX e S=some e') (fs:List Fact) (ds:List (List Nat)) (ch:List (Option Nat)) (A:List (List Nat)) (Inv:Nat→World→Prop) (Rel:World→World→Prop) (hA:Cc l A=true) (d:Ih C.n l m ds S A=true) (g:oz A m ch len=true) (a:fs.length=m)
  (j:Cb Rel fs) (h0:Inv 0 w.drew) (r:an2 C k l fs e' Inv Rel (l.take m) fs ds ch)
  (b:∀ w1,Inv len w1→Bind w1 (fH l fs (List.range m)) (fun en=>L C k l.toArray (l.drop m) (en++e) w1)) :
  T C (.code (.region id l.toArray true)::k) e w:=by
 refine ug (Inv:=fun c _=>Inv c) (Rel:=Rel) OB m len S s fs ds ch A hA d g a j h0 (fun i o f dd q ho hf t u c σ w1 hI v _ _=>?_) (fun σ w1 h _=>Bind.mono _ (fun en h _=>h) (b w1 h))
 have h:=y8 r ho hf t u
 cases q with
 | none=>exact Bind.mono _ (fun en h _=>h) (h c w1 hI)
 | some p=>obtain rfl:=v p rfl;exact Bind.mono _ (fun en h _=>h) (h w1 hI)
end
theorem KI {ops:Array Oper} {Q:Exit→Act→List Frame→World→Prop} {i:Nat} {rest:List Nat} {A:Act} {cs:List Frame} {o:Oper} (ho:ops[i]?=some o) (a:o.guard=none) (b:(execOp A.eval o).run P w = .ok (.value v) w)
  (h:wpOpsSIn (FW none) 0 P ops Q rest (A.put o.dst v) cs w):wpOpsSIn (FW none) 0 P ops Q (i::rest) A cs w:=by
 unfold wpOpsSIn
 rw [ho]
 refine ⟨fun _ _=>trivial,?_⟩
 have c:Region.wanted o (yielded ops A.tmps)=true:=by unfold Region.wanted;rw [a]
 rw [if_pos c,b]
 exact h
theorem KJ {ops:Array Oper} {Q:Exit→Act→List Frame→World→Prop} {i:Nat} {rest:List Nat} {A:Act} {cs a:List Frame} {o:Oper} (ho:ops[i]?=some o) (c:o.guard=none) (d:(execOp A.eval o).run P w = .ok .recover w)
  (b:recoverD cs=some (v,a)∨(recoverD cs=none∧v = .nilIface∧a=cs))
  (h:wpOpsSIn (FW none) 0 P ops Q rest (A.put o.dst v) a w):wpOpsSIn (FW none) 0 P ops Q (i::rest) A cs w:=by
 unfold wpOpsSIn
 rw [ho]
 refine ⟨fun _ _=>trivial,?_⟩
 have e:Region.wanted o (yielded ops A.tmps)=true:=by unfold Region.wanted;rw [c]
 rw [if_pos e,d]
 rcases b with b|⟨b,rfl,rfl⟩
 ·simp only [b];exact h
 simp only [b];exact h
theorem xQ {f:FuncId} {rest:Code} {t5 t2:Tmp} {l ty2:TypeId} {A B:String} {a5 a2:Array Edge} {tys:Array TypeId} {r:Value} {u u':FrameMode} {R:World→Prop}
  (hf:P.funcs[f]?=some fn) (hb:fn.body=some (.seq (.region id #[⟨some t5,.call { callee:=.builtin .recover,args:=#[],argTypes:=tys },l,A,a5,none⟩,⟨some t2,.assign (.tmp t5),ty2,B,a2,none⟩] false) rest)) (hn:fn.ntmps=n) (s:Nat.ble vs.length n=true) (o:fn.results=#[])
  (C:iD n (some t5)=true) (b:iD n (some t2)=true)
  (p:∀ (c0:Frame) cs,c0.mode=u→recoverD (c0::cs)=some (r,{ c0 with mode:=u' } :: cs)∨(recoverD (c0::cs)=none∧r = .nilIface∧u'=u))
  (h:∀ Q':Exit→Act→World→Prop,(∀ a w',a.defers = []→R w'→Q' .normal a w')→T { P:=P,r:=none,n:=n,D:=[],Q:=Q' } [.code rest] ((t2,r)::(t5,r)::xH 0 vs) w) :
  CallsDIn (FW none) 0 P f vs.toArray u w fun e m w'=>(∃ x,e = .returned x)∧m=u'∧R w':=by
 have E:vs.length≤n:=by simpa [Nat.ble_eq] using s
 refine callsDIn_of_wpSIn hf hb trivial fun c₀ cs F=>wpSIn_seq (wpSIn_region ?_)
 have aaM:Sat n (xH 0 vs) { tmps:=vs.toArray++Array.replicate (fn.ntmps-vs.toArray.size) undef,defers:=[] }:=by
  refine ⟨by simp [hn];omega,fun i v hi=>?_⟩
  obtain ⟨_,b⟩:=l9 vs 0 i v hi
  have t:i<vs.length:=by
   rcases Nat.lt_or_ge i vs.length with y | y
   ·exact y
   rw [Nat.sub_zero,List.getElem?_eq_none y] at b;cases b
  rw [Array.getElem?_append_left (by simpa using t)]
  simpa using b
 have g:∀ k,k = { c₀ with mode:=u' } :: cs→rest.wpSIn (FW none) 0 P (bodyPostS P fn c₀ cs (fun e m w'=>(∃ x,e = .returned x)∧m=u'∧R w')) ((({ tmps:=vs.toArray++Array.replicate (fn.ntmps-vs.toArray.size) undef,defers:=[] } : Act).put (some t5) r).put (some t2) r) k w:=by
  rintro k rfl
  refine wpSIn_of_wpIn rfl ?_
  have hT:=h (fun e a w'=>bodyPostS P fn c₀ cs (fun e m w'=>(∃ x,e = .returned x)∧m=u'∧R w') e a ({ c₀ with mode:=u' } :: cs) w') (fun a w' G hR=>⟨G,u',rfl,_,results_none o _ _ _,⟨_,rfl⟩,rfl,hR⟩)
  exact hT _ ⟨(aaM.put (d:=some t5) (v:=r) C).put (d:=some t2) (v:=r) b,rfl⟩
 have q:((({ tmps:=vs.toArray++Array.replicate (fn.ntmps-vs.toArray.size) undef,defers:=[] } : Act).put (some t5) r).eval (.tmp t5))=r:=by
  have:=(aaM.put (d:=some t5) (v:=r) C).get t5 r (by simp [lW,look])
  show Array.getD _ t5 undef=r
  rw [Array.getD_eq_getD_getElem?,this];rfl
 have j:∀ a:Act,(execOp a.eval ⟨some t5,.call { callee:=.builtin .recover,args:=#[],argTypes:=tys },l,A,a5,none⟩).run P w = .ok .recover w:=fun a=>by
  simp [execOp,resolve,invoke,builtin]
 have c:∀ a:Act,(execOp a.eval ⟨some t2,.assign (.tmp t5),ty2,B,a2,none⟩).run P w = .ok (.value (a.eval (.tmp t5))) w:=fun a=>by
  simp [execOp]
 show wpOpsSIn _ _ _ _ _ [0,1] _ _ _
 rcases p c₀ cs F with z|⟨z,rfl,rfl⟩
 ·exact KJ rfl rfl (j _) (.inl z) (KI (v:=r) rfl rfl (by have b:=c (({ tmps:=vs.toArray++Array.replicate (fn.ntmps-vs.toArray.size) undef,defers:=[] } : Act).put (some t5) r);rw [q] at b;exact b) (g _ rfl))
 exact KJ rfl rfl (j _) (.inr ⟨z,rfl,rfl⟩) (KI (v:=.nilIface) rfl rfl (by have b:=c (({ tmps:=vs.toArray++Array.replicate (fn.ntmps-vs.toArray.size) undef,defers:=[] } : Act).put (some t5) .nilIface);rw [q] at b;exact b) (g _ (by subst F;rfl)))
open Go.ChangeShapes Go.WideShapes
theorem trod_string {H:Type} {enc:TypeId × Value→H} {s:ByteArray} {y:DataW H × List MemPlace} (a:P.underlying t=some .string) (h:DataW.trod enc P w 0 (fun _=>true) true n t [.string s]=some y):y.1 = .lit (.string s.data.toList):=by
 cases n with
 | zero=>simp [DataW.trod] at h
 | succ n =>
  simp only [DataW.trod,a] at h
  split at h
  ·cases h;rfl
  cases h
theorem QE {H:Type} {enc:TypeId × Value→H} {P:Program} {W:World} : ∀ {ts:List TypeId} {vs:List Value} {ds:List (DataW H)} {ps:List MemPlace},DataW.TrodAll enc P W 0 (fun _=>true) true ts vs ds ps →
  (DataW.weightsEach P ts ds).all (· ≤ reachBytes)=true→∀ (j:Nat) t s,ts[j]?=some t→vs[j]?=some (.string s)→P.underlying t=some .string→s.size≤140737488355328
 | [],vs,ds,ps,h,_=>fun j t s a=>by simp at a
 | t::ts,vs,ds,ps,h,b=>by
  obtain ⟨v,i,d,k,p,q,rfl,rfl,rfl,l,n⟩:=trodAll_cons h
  rw [DataW.weightsEach,List.all_append,Bool.and_eq_true] at b
  intro j t' s a hv c
  cases j with
  | zero =>
   simp at a hv
   subst a hv
   obtain ⟨m,o⟩:=l
   have f:=trod_string c (by simpa [Value.cells] using o)
   simp only at f
   subst f
   have r:=List.all_eq_true.1 b.1 s.data.toList.length (by rw [DataW.weights];exact List.mem_singleton.2 rfl)
   have g:s.data.toList.length≤reachBytes:=of_decide_eq_true r
   have e:s.data.toList.length=s.size:=by rw [Array.length_toList];rfl
   rw [e] at g
   exact Nat.le_trans g (by unfold reachBytes;decide)
  | succ j=>exact QE n b.2 j t' s (by simpa using a) (by simpa using hv) c
theorem y9 {H:Type} {enc:TypeId × Value→H} {a:Assume} {C:Checked} {os:Os} {f:FuncId} {s:ChangeSpec} {conds:List PathCond} {apart fresh handsOn again:Bool} {X:World→Array Value→Prop}
  (hX:∀ (w w':World) (args:Array Value),w.heap=w'.heap→X w args→X w' args)
  (own:ownKnob C.prog.godebug=none) (started:os.Started) (noInit:C.prog.inits.idxOf? f=none) (h:C.prog.funcs[f]?=some fn)
  (witness:∃ (w:World) (tape:Tape) (i:Input),w.os=os∧(w.forCall tape i).Shaped C.prog∧i.vars = []∧Input.okWide C.prog (w.forCall tape i) .any w.heap.size f i ∧
   ((s.pre enc C.prog fn conds apart (w.forCall tape i).memory i.args∧X (w.forCall tape i).memory i.args)∧sizedMet enc C.prog fn (OpenSpec.ofChange s) apart (w.forCall tape i).memory i.args)∧a.holds C.prog (lone (Frame.enter C.prog f i.args .normal) [] (w.forCall tape i)))
  (contract:∀ (W:World) (base:Nat) (args:Array Value) (ds gs:List (DataW H)) (before:List MemPlace),
   (∀ (j:Nat) t v,fn.params[j]?=some t→args[j]?=some v→Value.okWide C.prog W .any base t v) →
   DataW.Whole enc C.prog fn.params.toList s.vars apart W args.toList ds gs before →
   conds.all (PathCond.test C.prog ⟨fn.params.toList,ds,s.plain.varTypes C.prog,gs⟩)=true →
   (DataW.weightsEach C.prog (fn.params.toList++s.plain.varTypes C.prog) (ds++gs)).all (· ≤ reachBytes)=true→X W args→W.ShapedOpen C.prog →
   a.holds C.prog (lone (Frame.enter C.prog f args .normal) [] W) →
   Calls C.prog f args W fun e W'=>∃ v,e = .returned v∧s.post enc C.prog fn apart fresh handsOn again W args v W') :
  ReturnsInHanded a C os f .any (fun w args=>(s.pre enc C.prog fn conds apart w args∧X w args)∧sizedMet enc C.prog fn (OpenSpec.ofChange s) apart w args) (s.post enc C.prog fn apart fresh handsOn again):=by
 refine returnsInHanded_of_calls own started noInit witness ?_
 intro w tape i _ k _ l c b
 obtain ⟨_,_,_,m,d,_,_,_,_,g⟩:=l
 have e:m=fn:=Option.some.inj (d.symm.trans h)
 subst e
 obtain ⟨⟨⟨ds,gs,before,o,p⟩,hx⟩,q⟩:=c
 have n:=DataW.Whole.of_heap (w':=w.forCall tape i) (by rfl) o
 refine (contract (w.forCall tape i) w.heap.size i.args ds gs before g n p (q.weights o) (hX _ _ _ (by rfl) hx) k b).mono fun e W' ⟨v,r,u⟩=>?_
 subst r
 exact ChangeSpec.post_blind u
theorem OD {C:Checked} {os:Os} {f:FuncId} {s:ChangeSpec} {X:World→Array Value→Prop} {H:Type} {enc:TypeId × Value→H} {tb:TypeId} {ts:List TypeId}
  (hX:∀ (w w':World) (args:Array Value),w.heap=w'.heap→X w args→X w' args)
  (own:ownKnob C.prog.godebug=none) (started:os.Started) (noInit:C.prog.inits.idxOf? f=none) (u:C.prog.funcs[f]?=some fn)
  (hvars:s.vars = []) (b:fn.params=ts.toArray) (g:∀ ds:List (DataW H),ds.length=ts.length→s.fn H ds = { results:=[.lit (.bool true)],args:=ds })
  (m:fn.resultTypes=#[tb]) (hb:C.prog.underlying tb=some .bool) (F:laidOutB C.prog=true) (hread:(ts.all fun t=>C.prog.readableRec t && decide (t<C.prog.types.size))=true)
  (witness:∃ (w:World) (tape:Tape) (i:Input),w.os=os∧(w.forCall tape i).Shaped C.prog∧i.vars = []∧Input.okWide C.prog (w.forCall tape i) .any w.heap.size f i ∧
   ((s.pre enc C.prog fn [] false (w.forCall tape i).memory i.args∧X (w.forCall tape i).memory i.args)∧sizedMet enc C.prog fn (OpenSpec.ofChange s) false (w.forCall tape i).memory i.args)∧({} : Assume).holds C.prog (lone (Frame.enter C.prog f i.args .normal) [] (w.forCall tape i)))
  (walk:∀ (W:World) (vs:List Value),vs.length=ts.length→(∀ (j:Nat) t v,ts[j]?=some t→vs[j]?=some v→Arg C.prog W t v)→(∀ (j:Nat) t s,ts[j]?=some t→vs[j]?=some (.string s)→C.prog.underlying t=some .string→s.size≤140737488355328)→X W vs.toArray→W.ShapedOpen C.prog→Calls C.prog f vs.toArray W (Ret fun v W'=>v = .bool true∧Ext W W')) :
  ReturnsInHanded {} C os f .any (fun w args=>(s.pre enc C.prog fn [] false w args∧X w args)∧sizedMet enc C.prog fn (OpenSpec.ofChange s) false w args) (s.post enc C.prog fn false true false false):=by
 refine y9 (C:=C) hX own started noInit u witness ?_
 intro W base args ds gs before k hW _ n hL x _
 have a:∀ (j:Nat) t v,fn.params[j]?=some t→args[j]?=some v→Value.okWide C.prog W .any base t v:=k
 have y:=hW
 obtain ⟨p,q,z,A,rfl,G,I⟩:=hW
 have hA:DataW.TrodAll enc C.prog W 0 (fun _=>true) true fn.params.toList args.toList ds p:=z
 have hV:DataW.TrodVars enc C.prog W (fun _=>true) s.vars gs q:=A
 rw [b] at hA a
 rw [hvars] at hV
 obtain ⟨rfl,rfl⟩:=trodVars_none hV
 have hA':DataW.TrodAll enc C.prog W 0 (fun _=>true) true ts args.toList ds p:=hA
 obtain ⟨o,r⟩:=Vg hA' (fun j t v J hv=>Value.okWide_any_base (a j t v (by simpa using J) (by simpa using hv)))
 have B:ds.length=ts.length:=by
  have:∀ {ts:List TypeId} {vs:List Value} {ds:List (DataW H)} {ps:List MemPlace},DataW.TrodAll enc C.prog W 0 (fun _=>true) true ts vs ds ps→ds.length=ts.length:=by
   intro ts
   induction ts with
   | nil=>intro vs ds ps h;obtain ⟨rfl,rfl,rfl⟩:=trodAll_nil h;rfl
   | cons t ts ih =>
    intro vs ds ps h
    obtain ⟨v,K,d,L,p,q,rfl,rfl,rfl,N,M⟩:=trodAll_cons h
    simp [ih M]
  exact this hA'
 have D:s.plain.varTypes C.prog = []:=by simp [DataSpec.varTypes,ChangeSpec.plain,hvars]
 have E:(DataW.weightsEach C.prog ts ds).all (· ≤ reachBytes)=true:=by
  rw [b,D] at n
  simpa using n
 have l:=g ds B
 refine (walk W args.toList o r (QE hA' E) (by simpa using hL) x).mono fun e W' hR=>?_
 cases e with
 | panicked c=>exact hR.elim
 | outgrown=>exact hR.elim
 | returned v =>
  obtain ⟨rfl,hE⟩:=hR
  have bel:=Ext.below hE
  refine ⟨_,rfl,ds,[],p ++ [],[],p,[],y,?_,?_,?_,bel.frame _,fun h=>by cases h⟩
  ·rw [m,List.append_nil,l];exact trodAll_mk1 (shut_bool hb true)
  ·rw [b,List.append_nil,l];exact xK F bel hread hA'
  rw [hvars,List.append_nil,l];rfl
def alK:List Item→Prop
 | .call _ _ _ _::_=>False
 | _=>True
def WpH (F:Fence) (n:Nat) (P:Program) (c:Code) (Q:List PanicEntry→Act→World→Prop) (a:Act) (w:World):Prop :=
 ∀ (b:Frame) (k:List Item) (cs:List Frame),b.roundOf=F.round→F.fn b.fn→F.room (cs.length+1+n) →
  ∃ ch a' w' todo,Q ch a' w'∧alK todo∧StepsIn (Machine.fenced P F) P (lone (b.atR a (.code c::k)) cs w) (lone { b.atR a' todo with mode:=.panicking ch } cs w')
section
variable {F:Fence} {n:Nat} {P:Program} {Q:List PanicEntry→Act→World→Prop} {a:Act} {w:World}
theorem abK {x y:Code} (h:x.wpIn F n P (fun ex a' w'=>ex = .normal∧WpH F n P y Q a' w') a w):WpH F n P (.seq x y) Q a w:=by
 intro b k cs c hb f
 have h0:(lone (b.atR a (.code (.seq x y)::k)) cs w).fenced P F:=fenced_calm hb f rfl
 obtain ⟨e,a₁,w₁,⟨rfl,g⟩,d⟩:=h b (.code y::k) cs c hb f
 obtain ⟨ch,a',w',todo,q,i,hs⟩:=g b k cs c hb f
 exact ⟨ch,a',w',todo,q,i,.head h0 stepR_seq (StepsIn.trans d hs)⟩
theorem Vm (h:WpH F n P c Q a w):WpH F n P (.block id c) Q a w:=by
 intro b k cs d hb e
 have h0:(lone (b.atR a (.code (.block id c)::k)) cs w).fenced P F:=fenced_calm hb e rfl
 obtain ⟨ch,a',w',todo,q,f,hs⟩:=h b (.inBlock id::k) cs d hb e
 exact ⟨ch,a',w',todo,q,f,.head h0 stepR_block hs⟩
theorem abL {ops : Array Oper} (l : List Nat) : ∀ (a : Act) (w : World), wpOpsIn F n P ops (fun ex a' w' => ∃ ch, ex = .panic ch ∧ Q ch a' w') l a w → ∀ (b : Frame) (k : List Item) (cs : List Frame), b.roundOf = F.round → F.fn b.fn → F.room (cs.length + 1 + n) →
      ∃ ch a' w' todo, Q ch a' w' ∧ alK todo ∧ StepsIn (Machine.fenced P F) P (lone (b.atR a (.inRegion ops l :: k)) cs w) (lone { b.atR a' todo with mode := .panicking ch } cs w') := by
  induction l with
  | nil => exact fun a w h b k cs _ hb s => by obtain ⟨ch, h, _⟩ := h; cases h
  | cons i rest ih =>
    intro a w h b k cs p hb s
    simp only [wpOpsIn] at h
    cases ho : ops[i]? with
    | none =>
      simp only [ho] at h
      obtain ⟨e, a', w', todo, t, u, c⟩ := ih a w h b k cs p hb s
      have hs := stepR_op_skip (P := P) (b := b) (a := a) (k := k) (cs := cs) (w := w) (ops := ops) (i := i) (rest := rest) (by simp [ho])
      simp only [ho, Option.bind_none, Act.put] at hs
      exact ⟨e, a', w', todo, t, u, .head (fenced_noOper hb s ho) hs c⟩
    | some o =>
      simp only [ho] at h
      by_cases z : Region.wanted o (yielded ops a.tmps) = true
      · simp only [z, if_true, Oper.wpIn] at h
        obtain ⟨q, h⟩ := h
        have h0 : (lone (b.atR a (.inRegion ops (i :: rest) :: k)) cs w).fenced P F := fenced_oper hb s ho q
        simp only [Oper.uponIn] at h
        have x := stepGR_op (P := P) (b := b) (k := k) (cs := cs) (w := w) (rest := rest) ho z
        rw [p] at x
        have r : ∀ v, (b.atR a (.inRegion ops (i :: rest) :: k)).finish v = b.atR (a.put o.dst v) (.inRegion ops rest :: k) := by
          intro v; rw [Frame.finish_atR, ho]; rfl
        split at h
        · rename_i v w' j
          obtain ⟨e, a', m, todo, t, u, c⟩ := ih _ _ h b k cs p hb s
          refine ⟨e, a', m, todo, t, u, .head h0 (step_lone_go ?_) c⟩
          rw [x, ← r]; simp [stepG.apply, j]
        · rename_i w' j
          obtain ⟨e, a', m, todo, t, u, c⟩ := ih _ _ h b k cs p hb s
          refine ⟨e, a', m, todo, t, u, .head h0 (step_lone_go ?_) c⟩
          rw [x, ← r]; simp [stepG.apply, j]
        · rename_i d w' j
          obtain ⟨e, a', m, todo, t, u, c⟩ := ih _ _ h b k cs p hb s
          refine ⟨e, a', m, todo, t, u, .head h0 (step_lone_go ?_) c⟩
          have : ({ b.atR a (.inRegion ops (i :: rest) :: k) with defers := d :: a.defers } : Frame).finish undef =
              b.atR ({ a with defers := d :: a.defers }.put o.dst undef) (.inRegion ops rest :: k) := by
            have := Frame.finish_atR b { a with defers := d :: a.defers } ops i rest k undef
            rw [ho] at this; exact this
          rw [x]; simp only [stepG.apply, Sem.runT_eq, j, GStep.bare_after]
          exact congrArg (fun fr => GStep.go { frame := fr, callers := cs, status := .running, dying := none } w') this
        · rename_i f args w' j
          obtain ⟨hn, hF, h⟩ := h
          have hroom : F.room ((b.atR a (.inRegion ops (i :: rest) :: k) :: cs).length + 1 + (n - 1)) := Fence.room_enter s hn
          obtain ⟨e, m, fr, hR, g, y, hleave⟩ := h (b.atR a (.inRegion ops (i :: rest) :: k) :: cs) hroom
          have henter : step P (lone (b.atR a (.inRegion ops (i :: rest) :: k)) cs w) =
              .next (lone (Frame.enter P f args .normal) (b.atR a (.inRegion ops (i :: rest) :: k) :: cs) w') :=
            step_lone_go (by rw [x]; simp [stepG.apply, j, Frame.atR])
          cases e with
          | returned v =>
            have A : (lone fr (b.atR a (.inRegion ops (i :: rest) :: k) :: cs) m).fenced P F := fenced_leaving (y ▸ hF) hroom hleave
            obtain ⟨e, a', w₃, todo, t, u, c⟩ := ih _ _ hR b k cs p hb s
            refine ⟨e, a', w₃, todo, t, u, .head h0 henter (StepsIn.trans g (.head A ?_ c))⟩
            rw [← r]; exact step_leave_returned hleave
          | panicked chain =>
            have A : (lone fr (b.atR a (.inRegion ops (i :: rest) :: k) :: cs) m).fenced P F := fenced_leaving (y ▸ hF) hroom hleave
            obtain ⟨ch, e1, hR⟩ := hR
            cases e1
            refine ⟨chain, a, m, .inRegion ops (i :: rest) :: k, hR, trivial, .head h0 henter (StepsIn.trans g (.one A ?_))⟩
            rw [← Frame.raise_atR]; exact step_leave_panicked hleave
          | outgrown =>
            obtain ⟨a₀, w₀, ch, e1, _⟩ := hR
            cases e1
        · rename_i row args w' j
          obtain ⟨hn, h⟩ := h
          obtain ⟨v, m, hR, g⟩ := h (b.atR a (.inRegion ops (i :: rest) :: k)) cs (Fence.room_enter s hn)
          have henter : step P (lone (b.atR a (.inRegion ops (i :: rest) :: k)) cs w) =
              .next (lone (Frame.ofRow P row args .normal) (b.atR a (.inRegion ops (i :: rest) :: k) :: cs) w') :=
            step_lone_go (by rw [x]; simp [stepG.apply, j, Frame.atR])
          obtain ⟨e, a', w₃, todo, t, u, c⟩ := ih _ _ hR b k cs p hb s
          refine ⟨e, a', w₃, todo, t, u, .head h0 henter (StepsIn.trans ?_ c)⟩
          rw [← r]; exact g
        · rename_i l f tmps assign body w' j
          obtain ⟨hn, _, h⟩ := h
          obtain ⟨e, m, hR, g⟩ := h (b.atR a (.inRegion ops (i :: rest) :: k)) cs (Fence.room_enter s hn)
          have henter : step P (lone (b.atR a (.inRegion ops (i :: rest) :: k)) cs w) =
              .next (lone (Frame.round l f tmps assign body .normal) (b.atR a (.inRegion ops (i :: rest) :: k) :: cs) w') :=
            step_lone_go (by rw [x]; simp [stepG.apply, j, Frame.atR])
          cases e with
          | returned v =>
            obtain ⟨e, a', w₃, todo, t, u, c⟩ := ih _ _ hR b k cs p hb s
            refine ⟨e, a', w₃, todo, t, u, .head h0 henter (StepsIn.trans ?_ c)⟩
            rw [← r]; exact g
          | panicked chain =>
            obtain ⟨ch, e1, hR⟩ := hR
            cases e1
            refine ⟨chain, a, m, .inRegion ops (i :: rest) :: k, hR, trivial, .head h0 henter ?_⟩
            rw [← Frame.raise_atR]; exact g
          | outgrown =>
            obtain ⟨a₀, w₀, ch, e1, _⟩ := hR
            cases e1
        · rename_i v w' j
          obtain ⟨ch, e1, hR⟩ := h
          cases e1
          refine ⟨_, a, w', .inRegion ops (i :: rest) :: k, hR, trivial, .one h0 (step_lone_go ?_)⟩
          rw [x, ← Frame.raise_atR]; simp [stepG.apply, j]
        exact h.elim
      simp only [z, if_false, Bool.false_eq_true] at h
      obtain ⟨q, h⟩ := h
      obtain ⟨e, a', w', todo, t, u, c⟩ := ih _ _ h b k cs p hb s
      have hs := stepR_op_skip (P := P) (b := b) (a := a) (k := k) (cs := cs) (w := w) (ops := ops) (i := i) (rest := rest)
        (by simp [ho]; simpa using z)
      simp only [ho, Option.bind_some] at hs
      exact ⟨e, a', w', todo, t, u, .head (fenced_oper hb s ho q) hs c⟩
theorem SV {ops:Array Oper} (h:wpOpsIn F n P ops (fun ex a' w'=>∃ ch,ex = .panic ch∧Q ch a' w') (List.range ops.size) a w):WpH F n P (.region id ops false) Q a w :=
 fun b k cs c hb d=>let ⟨ch,a',w',todo,q,e,r⟩:=abL _ a w h b k cs c hb d;⟨ch,a',w',todo,q,e,.head (fenced_calm hb d rfl) stepR_region r⟩
theorem YT {fr c:Frame} {cs:List Frame} {ch:List PanicEntry} (a:fr.mode = .panicking ch) (b:fr.defers = []) (d:fr.catches P=false):step P (lone fr (c::cs) w) = .next (lone (c.raise ch) cs w) :=
 step_lone_go (by simp [stepG,unwind,d,a,b])
theorem OE {f:FuncId} {tmps:Array Value} {assign body:Code} {R:Ending→World→Prop} (hF:F.fn f)
  (h:assign.wpIn (F.inRound l) n P (Exit.then (fun a₁ w₁=>∃ w₂,(Instr.beginRound l).run P w₁ = .ok () w₂∧WpH (F.inRound l) n P body (fun ch a' w'=>a'.defers = []∧R (.panicked ch) w') a₁ w₂) (fun _ _ _=>False))
   { tmps:=tmps,defers:=[] } w) :
  RoundIn F n P l f tmps assign body w R:=by
 refine ⟨hF,fun c cs p=>?_⟩
 let b:Frame:={ (default:Frame) with fn:=f,kind:=.normal,roundOf:=some l }
 have k:Frame.round l f tmps assign body .normal=b.atR { tmps:=tmps,defers:=[] } [.code assign,.beginRound,.code body]:=by
  simp [Frame.round,Frame.atR,b]
 have a:(F.inRound l).room ((c::cs).length+1+n):=p
 have hF':(F.inRound l).fn b.fn:=hF
 obtain ⟨e,a₁,w₁,i,d⟩:=h b [.beginRound,.code body] (c::cs) rfl hF' a
 rw [← k] at d
 cases e with
 | normal =>
  obtain ⟨w₂,m,g⟩:=i
  have q:StepsIn (Machine.fenced P (F.inRound l)) P (lone (b.atR a₁ [.beginRound,.code body]) (c::cs) w₁) (lone (b.atR a₁ [.code body]) (c::cs) w₂) :=
   .one (fenced_calm (fr:=b.atR a₁ [.beginRound,.code body]) hF' a rfl) (stepR_beginRound rfl m)
  obtain ⟨ch,a',w',todo,⟨o,hR⟩,r,hs⟩:=g b [] (c::cs) rfl hF' a
  refine ⟨.panicked ch,w',hR,StepsIn.trans (StepsIn.trans d q) (StepsIn.trans hs (.one ?_ ?_))⟩
  ·refine fenced_calm (fr:={ b.atR a' todo with mode:=.panicking ch }) hF' a ?_
   simp [Frame.about,Frame.atR,o]
  refine YT rfl (by simp [Frame.atR,o]) ?_
  unfold Frame.catches
  split
  ·rename_i j
   simp only [Frame.atR] at j
   subst j
   exact r.elim
  rfl
 | exit id=>exact i.elim
 | goto t=>exact i.elim
 | ret=>exact i.elim
 | panic chain=>exact i.elim
 | outgrown=>exact i.elim
end
def adQ (P:Program) (l:Nat) (args:Array Value) (w:World) (R:Ending→World→Prop):Prop :=
 ∃ f tmps assign body,(Instr.yield l args).run P w = .ok (.round l f tmps assign body) w∧RoundIn (FW none) 0 P l f tmps assign body w R
abbrev thrown (V:Value):List PanicEntry:=[{ v:=V,recovered:=false }]
def alL (P:Program) (gf:FuncId) (lb:Array Value) (V:Value) (val:Nat→Value × Value) (m:Nat) (full:Prop) (Inv:World→Prop) (S0:Nat→Prop) (Pre:World→Prop):Prop :=
 ∀ (l:Nat) (J:Nat→(Nat→Prop)→World→Prop) (X:World→Prop) (W:World),Kz J→(∀ i S W,J i S W→Inv W) →
  (∀ j S W,j<m→J j S W→adQ P l #[(val j).1,(val j).2] W fun e W'=>e = .returned (.bool true)∧J (j+1) S W'∧∀ k,S k→W'.heap[k]?=W.heap[k]?) →
  (∀ S W,¬ full→J m S W→adQ P l #[(val m).1,(val m).2] W fun e W'=>e = .panicked (thrown V)∧X W') →
  J 0 S0 W→Pre W→Calls P gf (#[.func (.yield l) #[] #[]]++lb) W fun e W'=>(full∧∃ v S,e = .returned v∧(∀ k,S0 k→S k)∧J m S W')∨(¬ full∧e = .panicked (thrown V)∧X W')
section
variable {C:Cx} {k:List It} {e:Env} {w:World}
theorem CG (I:Nat→(Nat→Prop)→World→Prop) (X:(Nat→Prop)→World→Prop) {g:Operand} {p z:Tmp} {assign body:Code} {gf:FuncId} {lb:Array Value} {V:Value} {val:Nat→Value × Value} {m:Nat} {full:Prop}
  {Inv:World→Prop} {S0:Nat→Prop} {Pre:World→Prop} {e1:Value × Value→Nat→Env} (A:Value × Value→Nat→World→Prop) (hr:C.r=none) (hg:ev e g=some (.func (.func gf) #[] lb)) (aq:∀ args w,(callFunc gf args).run C.P w = .ok (.enter gf args) w) (hp:iD C.n (some p)=true) (ah:iD C.n (some z)=true)
  (ai:alL C.P gf lb V val m full Inv S0 Pre) (hI:Kz I) (hInv:∀ i S W,I i S W→Inv W) (h0:I 0 S0 w) (hS0:∀ k,S0 k→k<w.heap.size) (abH:∀ W,Ext w W→Pre W)
  (hA:∀ v x W W' b,A v x W→b≠x→Upd b W W'→A v x W')
  (o:∀ (l:Nat) (Q:Exit→Act→World→Prop) (j:Nat) (k:List It) (W:World),(∀ x W',W.heap.size≤x→Ext W W'→A (val j) x W'→T (rCx C l Q) k (e1 (val j) x) W')→T (rCx C l Q) (.code assign::k) ((z,(val j).2)::(p,(val j).1)::e) W)
  (U:∀ (l:Nat) (j:Nat) (x:Nat) (S:Nat→Prop) (W:World),j<m→I j S W→A (val j) x W→T (rCx C l (RQ I (fun _ _ _=>False) (j+1) S W)) [.code body] (e1 (val j) x) W)
  (adR:∀ (l:Nat) (x:Nat) (S:Nat→Prop) (W:World) (a:Act),¬ full→I m S W→A (val m) x W→Fits (rCx C l (fun _ _ _=>False)) (e1 (val m) x) a→WpH (FW (some l)) 0 C.P body (fun ch a' W'=>ch=thrown V∧a'.defers = []∧X S W'∧∀ k,S k→W'.heap[k]?=W.heap[k]?) a W)
  (hdone:∀ (S:Nat→Prop) (D:Nat) (W:World),full→D=w.heap.size→(∀ k,S0 k→S k)→S D→I m S W→W.heap[D]?=some (.deferred (some []))→T { C with D:={ target:=.collected D,args:=#[] } :: C.D } k e W)
  (aeC:∀ (S:Nat→Prop) (D:Nat) (W:World) (a:Act),¬ full→D=w.heap.size→S D→X S W→W.heap[D]?=some (.deferred (some []))→Fits { C with D:={ target:=.collected D,args:=#[] } :: C.D } e a→C.Q (.panic (thrown V)) a W) :
  T C (.code (.rangeFunc g #[p,z] assign body)::k) e w:=fun a ha=>by
 have YQ:∀ (D:List Deferred) (k:List It),run { C with D:=D } k=run C k:=by
  intro D k
  induction k with
  | nil=>rfl
  | cons it k ih=>cases it <;> simp only [run,ih]
 show (Code.rangeFunc g #[p,z] assign body).wpIn _ _ _ _ _ _
 refine wpIn_rangeFunc ?_
 intro fn aj
 rw [show (FW C.r).round=none from hr]
 obtain ⟨rec,c⟩:∃ rec:LoopState→Option Code→Loop,rec=fun st pe=>{ state:=st,pending:=pe,fn,tmps:=a.tmps,params:=#[p,z],assign,body,defers:=w.heap.size }:=⟨_,rfl⟩
 obtain ⟨B,hW1⟩:∃ B,(w.alloc (.deferred (some []))).alloc (.loop (rec .ready none))=B:=⟨_,rfl⟩
 have hL1:B.heap[w.heap.size+1]?=some (.loop (rec .ready none)):=by
  rw [← hW1];have:=World.alloc_heap_new (w.alloc (.deferred (some []))) (.loop (rec .ready none));rwa [World.size_alloc] at this
 have hK1:B.heap[w.heap.size]?=some (.deferred (some [])):=by
  rw [← hW1];exact (Below.heap_alloc _ _ _ spX).trans (World.alloc_heap_new w _)
 have ak:Ext w B:=by rw [← hW1];exact (Keep.alloc 0 w _).trans (Keep.alloc 0 _ _)
 have aC:B.heap.size=w.heap.size+2:=by rw [← hW1];simp
 let Up (S:Nat→Prop):Nat→Prop:=fun k=>S k∨k=w.heap.size∨k=w.heap.size+1
 refine ⟨w.heap.size+1,[{ target:=.collected w.heap.size,args:=#[] }],B,{ target:=.fn (.func gf) lb,args:=#[.func (.yield (w.heap.size+1)) #[] #[]] },B,gf,
  #[.func (.yield (w.heap.size + 1)) #[] #[]] ++ lb, B, ?_, ?_, fun _ _ => trivial, ?_, by simp, CallsIn.xG ?_⟩
 ·rw [← hW1,c];exact run_enterLoop_outer _ _ _ _ _
 ·simp only [resolve,ha.eval hg]
  simp [go_sem]
 ·simp [invoke,go_sem,aq]
 let J:Nat→(Nat→Prop)→World→Prop:=fun i S W=>I i (Up S) W∧(¬ S w.heap.size∧¬ S (w.heap.size+1))∧(∀ k,S k→k<W.heap.size)∧W.heap[w.heap.size+1]?=some (.loop (rec .ready none))∧W.heap[w.heap.size]?=some (.deferred (some []))
 let X':World→Prop:=fun W=>∃ S,X (Up S) W∧W.heap[w.heap.size]?=some (.deferred (some []))
 have hJ:Kz J:=by
  refine ⟨?_,?_⟩
  ·rintro i S S' W W' ⟨h1,⟨N,O⟩,q,u,d⟩ R hS
   have E:=(Array.getElem?_eq_some_iff.1 u).1
   refine ⟨hI.1 i _ _ W W' h1 R ?_,⟨?_,?_⟩,fun k d=>(hS k d).elim (fun h=>Nat.lt_of_lt_of_le (q k h) R.size) (fun h=>h.2),(R.block _ lzX E).trans u,(R.block _ lzX omX).trans d⟩
   ·rintro k (h|h)
    ·exact (hS k h).imp .inl id
    exact .inl (.inr h)
   ·intro h;rcases hS _ h with h|h
    ·exact N h
    omega
   intro h;rcases hS _ h with h|h
   ·exact O h
   omega
  rintro i S W W' b ⟨h1,⟨N,O⟩,q,u,d⟩ hb hu
  refine ⟨hI.2 i _ W W' b h1 (.inl hb) hu,⟨N,O⟩,fun k d=>by rw [hu.size];exact q k d,(hu.block _ ?_).trans u,(hu.block _ ?_).trans d⟩
  ·rintro rfl;exact O hb
  rintro rfl;exact N hb
 refine (ai (w.heap.size+1) J X' B hJ (fun i S W h=>hInv i _ W h.1) ?_ ?_ ⟨hI.1 _ _ _ w B h0 ak ?_,⟨fun h=>by have:=hS0 _ h;omega,fun h=>by have:=hS0 _ h;omega⟩,fun k d=>by have:=hS0 k d;omega,hL1,hK1⟩ (abH _ ak)).mono ?_
 ·rintro j S W hj ⟨hi,hnS,q,u,d⟩
  have E:w.heap.size+1<W.heap.size:=(Array.getElem?_eq_some_iff.1 u).1
  have hy:=run_yield (P:=C.P) (args:=#[(val j).1,(val j).2]) u (by rw [c];rfl)
  have Y:(Instr.yield (w.heap.size+1) #[(val j).1,(val j).2]).run C.P W = .ok (.round (w.heap.size+1) fn ((a.tmps.setIfInBounds p (val j).1).setIfInBounds z (val j).2) assign body) W:=by
   rw [hy,c];simp
  refine ⟨fn,_,assign,body,Y,?_⟩
  have aaM:Sat C.n ((z,(val j).2)::(p,(val j).1)::e) { tmps:=(a.tmps.setIfInBounds p (val j).1).setIfInBounds z (val j).2,defers:=[] }:=Sat.round (D:=[]) (Sat.round (D:=a.defers) (D':=[]) ha.sat hp) ah
  have F:=o (w.heap.size+1) (fun _ _ _=>False) j [.hook (fun a' W'=>∃ x,W.heap.size≤x∧Ext W W'∧A (val j) x W'∧Sat C.n (e1 (val j) x) a'∧a'.defers = [])] W (fun x W' hx R hA a' G=>⟨x,hx,R,hA,G.sat,G.defers⟩) _ ⟨aaM,rfl⟩
  refine roundIn_of_wpIn trivial ?_
  refine wpIn_mono F ?_
  rintro ex a' W' hx
  cases ex with
  | normal =>
   obtain ⟨x,ar,f,Z,aa,ab⟩:=hx
   have ac:=hI.1 j _ (Up S) _ _ hi f (fun k d=>.inl d)
   have H:=(f.block _ lzX E).trans u
   have ad:=(f.block _ lzX (by omega:w.heap.size<W.heap.size)).trans d
   have K:w.heap.size+1<W'.heap.size:=(Array.getElem?_eq_some_iff.1 H).1
   refine ⟨_,run_beginRound H (by rw [c]),?_⟩
   have al:(W'.putObj (w.heap.size+1) (.loop { rec .ready none with state:=.busy })).heap[w.heap.size+1]?=some (.loop { rec .ready none with state:=.busy }):=World.putObj_heap_same K
   have ae:(W'.putObj (w.heap.size+1) (.loop { rec .ready none with state:=.busy })).heap[w.heap.size]?=some (.deferred (some [])):=(World.putObj_heap_other omX).trans ad
   have L:=fZ W' (w.heap.size+1) (.loop { rec .ready none with state:=.busy })
   have af:=hI.2 j _ _ _ _ ac (.inr (.inr rfl)) L
   have hb:=U (w.heap.size+1) j x (Up S) _ hj af (hA _ _ _ _ _ Z omX L)
   refine wpIn_mono (hb a' ⟨aa,ab⟩) ?_
   have fin:∀ (jump:Option Code) (M:World),(∀ k,Up S k→M.heap[k]?=(W'.putObj (w.heap.size+1) (.loop { rec .ready none with state:=.busy })).heap[k]?) →
     (Instr.endRound (w.heap.size+1) jump).run C.P M = .ok (.bool jump.isNone) (M.putObj (w.heap.size+1) (.loop (rec (if jump.isNone then .ready else .done) jump))) ∧
     (M.putObj (w.heap.size+1) (.loop (rec (if jump.isNone then .ready else .done) jump))).heap[w.heap.size+1]?=some (.loop (rec (if jump.isNone then .ready else .done) jump)) ∧
     (M.putObj (w.heap.size+1) (.loop (rec (if jump.isNone then .ready else .done) jump))).heap[w.heap.size]?=some (.deferred (some [])) ∧
     (∀ k,S k→(M.putObj (w.heap.size+1) (.loop (rec (if jump.isNone then .ready else .done) jump))).heap[k]?=W'.heap[k]?):=fun jump M s=>by
    have am:=(s _ (.inr (.inr rfl))).trans al
    have:=run_endRound (P:=C.P) jump am
    have ag:=(s _ (.inr (.inl rfl))).trans ae
    refine ⟨by rw [c] at this ⊢;exact this,World.putObj_heap_same (Array.getElem?_eq_some_iff.1 am).1,(World.putObj_heap_other omX).trans ag,fun k d=>?_⟩
    have an:k≠w.heap.size+1:=by rintro rfl;exact hnS.2 d
    rw [World.putObj_heap_other an,s k (.inl d),World.putObj_heap_other an]
   rintro ex a3 M y
   cases ex with
   | normal =>
    obtain ⟨au,s⟩:=y
    obtain ⟨av,aw,ag,ao⟩:=fin none M s
    refine ⟨_,_,av,rfl,⟨hI.2 _ _ _ _ _ au (.inr (.inr rfl)) (fZ _ _ _),hnS,fun k d=>?_,aw,ag⟩,fun k d=>?_⟩
    ·have ap:=Nat.lt_of_lt_of_le (q k d) f.size
     have h:=ao k d
     rw [Array.getElem?_eq_getElem ap] at h
     exact (Array.getElem?_eq_some_iff.1 h).1
    rw [ao k d]
    exact f.block k lzX (q k d)
   | ret=>exact y.1.elim
   | exit id=>exact y.1.elim
   | goto t=>exact y.elim
   | panic ch=>exact y.elim
   | outgrown=>exact y.elim
  | ret=>exact hx.elim
  | exit id=>exact hx.elim
  | goto t=>exact hx.elim
  | panic ch=>exact hx.elim
  | outgrown=>exact hx.elim
 ·rintro S W ax ⟨hi,hnS,q,u,d⟩
  have E:w.heap.size+1<W.heap.size:=(Array.getElem?_eq_some_iff.1 u).1
  have hy:=run_yield (P:=C.P) (args:=#[(val m).1,(val m).2]) u (by rw [c];rfl)
  have Y:(Instr.yield (w.heap.size+1) #[(val m).1,(val m).2]).run C.P W = .ok (.round (w.heap.size+1) fn ((a.tmps.setIfInBounds p (val m).1).setIfInBounds z (val m).2) assign body) W:=by
   rw [hy,c];simp
  refine ⟨fn,_,assign,body,Y,?_⟩
  have aaM:Sat C.n ((z,(val m).2)::(p,(val m).1)::e) { tmps:=(a.tmps.setIfInBounds p (val m).1).setIfInBounds z (val m).2,defers:=[] }:=Sat.round (D:=[]) (Sat.round (D:=a.defers) (D':=[]) ha.sat hp) ah
  have F:=o (w.heap.size+1) (fun _ _ _=>False) m [.hook (fun a' W'=>∃ x,W.heap.size≤x∧Ext W W'∧A (val m) x W'∧Sat C.n (e1 (val m) x) a'∧a'.defers = [])] W (fun x W' hx R hA a' G=>⟨x,hx,R,hA,G.sat,G.defers⟩) _ ⟨aaM,rfl⟩
  refine OE trivial ?_
  refine wpIn_mono F ?_
  rintro ex a' W' hx
  cases ex with
  | normal =>
   obtain ⟨x,ar,f,Z,aa,ab⟩:=hx
   have ac:=hI.1 m _ (Up S) _ _ hi f (fun k d=>.inl d)
   have H:=(f.block _ lzX E).trans u
   have ad:=(f.block _ lzX (by omega:w.heap.size<W.heap.size)).trans d
   have K:w.heap.size+1<W'.heap.size:=(Array.getElem?_eq_some_iff.1 H).1
   refine ⟨_,run_beginRound H (by rw [c]),?_⟩
   have al:(W'.putObj (w.heap.size+1) (.loop { rec .ready none with state:=.busy })).heap[w.heap.size+1]?=some (.loop { rec .ready none with state:=.busy }):=World.putObj_heap_same K
   have ae:(W'.putObj (w.heap.size+1) (.loop { rec .ready none with state:=.busy })).heap[w.heap.size]?=some (.deferred (some [])):=(World.putObj_heap_other omX).trans ad
   have L:=fZ W' (w.heap.size+1) (.loop { rec .ready none with state:=.busy })
   have af:=hI.2 m _ _ _ _ ac (.inr (.inr rfl)) L
   have hb:=adR (w.heap.size+1) x (Up S) _ a' ax af (hA _ _ _ _ _ Z omX L) ⟨aa,ab⟩
   refine fun b k cs ay aj hroom=>?_
   obtain ⟨ch,a3,M,todo,⟨rfl,az,aA,s⟩,ht,aB⟩:=hb b k cs ay aj hroom
   exact ⟨_,a3,M,todo,⟨az,rfl,S,aA,(s _ (.inr (.inl rfl))).trans ae⟩,ht,aB⟩
  | ret=>exact hx.elim
  | exit id=>exact hx.elim
  | goto t=>exact hx.elim
  | panic ch=>exact hx.elim
  | outgrown=>exact hx.elim
 ·rintro k (h|h)
  ·exact .inl h
  exact .inr omX
 rintro en W2 hq
 have hfits:∀ D,D=w.heap.size→Fits { C with D:={ target:=.collected D,args:=#[] } :: C.D } e { a with defers:=[{ target:=.collected w.heap.size,args:=#[] }]++a.defers }:=by
  rintro D rfl
  exact ⟨⟨ha.sat.size,ha.sat.get⟩,by show _++a.defers=_;rw [ha.defers];rfl⟩
 rcases hq with ⟨hf,v,S,rfl,hS,hi,hnS,_,u,d⟩|⟨hf,rfl,S,hX,d⟩
 ·refine ⟨none,_,by have:=run_endLoop (P:=C.P) u (by rw [c];simp);rw [c] at this;exact this,?_⟩
  have:=hdone (Up S) _ _ hf rfl (fun k h=>.inl (hS k h)) (.inr (.inl rfl)) (hI.2 _ _ _ _ _ hi (.inr (.inr rfl)) (fZ _ (w.heap.size+1) (.loop { rec .ready none with state:=.exhausted }))) ((World.putObj_heap_other omX).trans d) _ (hfits _ rfl)
  rw [YQ] at this
  rw [c] at this
  exact this
 exact nH _ _ _ (aeC (Up S) _ _ _ hf rfl (.inr (.inl rfl)) hX d (hfits _ rfl))
abbrev abM (P:Program) (fn:Func) (n:Nat) (R:Ending→World→Prop):Cx:={ P:=P,r:=none,n:=n,D:=[],Q:=bodyPost P fn R }
theorem wM {f:FuncId} {R:Ending→World→Prop} (hf:P.funcs[f]?=some fn) (hb:fn.body=some c) (hn:fn.ntmps=n) (a:Nat.ble vs.length n=true)
  (h:T (abM P fn n R) [.code c] (xH 0 vs) w):Calls P f vs.toArray w R:=by
 refine (callsIn_wide (n:=0)).1 (callsIn_of_wp hf hb trivial ?_ rfl)
 have g:vs.length≤n:=by simpa [Nat.ble_eq] using a
 refine h _ ⟨⟨by simp [hn];omega,fun i v hi=>?_⟩,rfl⟩
 obtain ⟨_,b⟩:=l9 vs 0 i v hi
 have d:i<vs.length:=by
  rcases Nat.lt_or_ge i vs.length with e | e
  ·exact e
  rw [Nat.sub_zero,List.getElem?_eq_none e] at b;cases b
 rw [Array.getElem?_append_left (by simpa using d)]
 simpa using b
theorem nJ {R:Ending→World→Prop} (b:fn.results=#[]) (h:R (.returned (.tuple #[])) w):T (abM P fn n R) [] e w :=
 fun a ha=>⟨ha.defers,_,results_none b _ _ _,h⟩
variable {d:Option Tmp} {ty:TypeId} {pos:String} {aft:Array Edge} {gd:Option (Nat × Bool)} {K:Value→World→Prop}
theorem CJ {xs:List Operand} {tys:Array TypeId} {fo:Operand} {R0:World→Prop} (g:C.r=none) (hf:ev e fo=some (.func (.yield l) #[] #[])) (hx:evs e xs=some vs)
  (i:adQ C.P l vs.toArray w (fun en W'=>en = .returned (.bool true)∧R0 W')) (h:∀ v w',v = .bool true∧R0 w'→K v w'):O C e ⟨d,.call { callee:=.value fo,args:=xs.toArray,argTypes:=tys },ty,pos,aft,gd⟩ w K:=by
 intro a ha next Q hn
 refine ⟨fun _ _=>trivial,?_⟩
 rw [Oper.semAt_eq _ _ _ spX]
 obtain ⟨f,tmps,assign,body,hy,c⟩:=i
 have b:(execOp a.eval ⟨d,.call { callee:=.value fo,args:=xs.toArray,argTypes:=tys },ty,pos,aft,gd⟩).run C.P w = .ok (.round l f tmps assign body) w:=by
  simp [execOp,resolve,Deferred.ofValue,invoke,ha.eval hf,ha.sat.Kv hx,hy]
 rw [b]
 refine ⟨spX,?_⟩
 rw [g]
 refine c.mono ?_
 rintro en w' ⟨rfl,j⟩
 exact hn _ w' (h _ w' ⟨rfl,j⟩)
theorem xR {ops:Array Oper} {rest:List Oper} {xs:List Operand} {tys:Array TypeId} {fo:Operand} {V:Value} {X:World→Prop} (g:fF ops e ⟨d,.call { callee:=.value fo,args:=xs.toArray,argTypes:=tys },ty,pos,aft,gd⟩=some true)
  (i:C.r=none) (hf:ev e fo=some (.func (.yield l) #[] #[])) (hx:evs e xs=some vs) (j:adQ C.P l vs.toArray w (fun en W'=>en = .panicked (thrown V)∧X W')) (h:∀ w' a,X w'→Fits C e a→C.Q (.panic (thrown V)) a w') :
  L C k ops (⟨d,.call { callee:=.value fo,args:=xs.toArray,argTypes:=tys },ty,pos,aft,gd⟩::rest) e w:=fun a ha=>by
 unfold wpListIn
 rw [lu ha g,if_pos rfl]
 refine ⟨fun _ _=>trivial,?_⟩
 rw [Oper.semAt_eq _ _ _ spX]
 obtain ⟨f,tmps,assign,body,hy,c⟩:=j
 have b:(execOp a.eval ⟨d,.call { callee:=.value fo,args:=xs.toArray,argTypes:=tys },ty,pos,aft,gd⟩).run C.P w = .ok (.round l f tmps assign body) w:=by
  simp [execOp,resolve,Deferred.ofValue,invoke,ha.eval hf,ha.sat.Kv hx,hy]
 rw [b]
 refine ⟨spX,?_⟩
 rw [i]
 refine c.mono ?_
 rintro en w' ⟨rfl,m⟩
 exact nH _ a w' (h w' a m ha)
theorem OG {D:List Deferred} {R:Value→World→Prop} {f:FuncId} {ca:Array Value} {tys:Array TypeId} {fo:Operand} {ops:Array Oper} {rest:List Oper} (d:fF ops e ⟨none,.defer { callee:=.value fo,args:=#[],argTypes:=tys },ty,pos,aft,gd⟩=some true)
  (hf:ev e fo=some (.func (.func f) #[] ca)) (h:L (wH P fn n ({ target:=.fn (.func f) ca,args:=#[] } :: D) R) k ops rest e w) :
  L (wH P fn n D R) k ops (⟨none,.defer { callee:=.value fo,args:=#[],argTypes:=tys },ty,pos,aft,gd⟩::rest) e w:=fun a ha=>by
 unfold wpListIn
 rw [lu ha d,if_pos rfl]
 refine ⟨fun _ _=>trivial,?_⟩
 rw [show (FW (wH P fn n D R).r).round=none from rfl,Oper.semAt_none]
 have b:(execOp a.eval ⟨none,.defer { callee:=.value fo,args:=#[],argTypes:=tys },ty,pos,aft,gd⟩).run P w = .ok (.defer { target:=.fn (.func f) ca,args:=#[] }) w:=by
  simp [execOp,resolve,Deferred.ofValue,ha.eval hf]
 rw [b]
 have c:=h { a with defers:={ target:=.fn (.func f) ca,args:=#[] } :: a.defers } ⟨⟨ha.sat.size,ha.sat.get⟩,by rw [ha.defers]⟩
 rw [show run (wH P fn n ({ target:=.fn (.func f) ca,args:=#[] } :: D) R) k=run (wH P fn n D R) k from xJ (wH P fn n D R) _ k] at c
 exact c
theorem xU {tmps:Array Value} {R:Value→World→Prop} {f:FuncId} {D:Nat} {ca:Array Value} {u u':FrameMode} {R':World→Prop} (c:u ≠ .run) (a:∀ args w,(callFunc f args).run P w = .ok (.enter f args) w)
  (hD:w.heap[D]?=some (.deferred (some []))) (d:∀ w1,Shut [D] w w1→CallsDIn (FW none) 0 P f ca u w1 fun e m w'=>(∃ x,e = .returned x)∧m=u'∧R' w') (hs:settle u' = .returning) (h:∀ w',R' w'→(results fn tmps).run P w' = .ok v w'∧R v w') :
  LeavesInM (FW none) 0 P fn tmps (Ret R) [{ target:=.collected D,args:=#[] },{ target:=.fn (.func f) ca,args:=#[] }] u w:=by
 refine ⟨c,.inl ⟨D,_,rfl,run_takeDeferred hD,?_⟩⟩
 refine ⟨c,.inr ⟨spX,.func f,ca,f,ca,rfl,by simp [invoke,a],fun _ _=>trivial,?_⟩⟩
 have b:Shut [D] w (w.putObj D (.deferred none)):=⟨rfl,rfl,rfl,spX,fun k g=>World.putObj_heap_other (by simpa using g)⟩
 refine (d _ b).mono ?_
 rintro en m w' ⟨⟨x,rfl⟩,rfl,hR⟩
 show LeavesIn (FW none) 0 P fn tmps (Ret R) [] (settle m) w'
 rw [hs]
 obtain ⟨i,j⟩:=h w' hR
 exact ⟨v,i,j⟩
theorem Vo {H:Act→World→Prop} {a:Act} (hQ:C.Q=fun _ _ _=>False) (h:T C [.code c,.hook H] e w) (ha:Fits C e a):c.wpIn (FW C.r) 0 C.P (fun ex a' w'=>ex = .normal∧H a' w') a w:=by
 refine wpIn_mono (h a ha) ?_
 intro ex a' w' hx
 cases ex with
 | normal=>exact ⟨rfl,hx⟩
 | exit id=>exact (by have:C.Q _ _ _:=hx;rw [hQ] at this;exact this.elim)
 | goto l=>exact (by have:C.Q _ _ _:=hx;rw [hQ] at this;exact this.elim)
 | ret=>exact (by have:C.Q _ _ _:=hx;rw [hQ] at this;exact this.elim)
 | panic ch=>exact (by have:C.Q _ _ _:=hx;rw [hQ] at this;exact this.elim)
 | outgrown=>exact (by have:C.Q _ _ _:=hx;rw [hQ] at this;exact this.elim)
theorem SX {H:Act→World→Prop} (h:∀ a,Fits C e a→H a w):T C (.hook H::k) e w:=h
theorem YU {l:List Oper} {Qp:List PanicEntry→Act→World→Prop} {a:Act} {r:Option Nat} {D:List Deferred} (ha:Fits { P:=P,r:=r,n:=n,D:=D,Q:=fun _ _ _=>False } e a)
  (h:L { P:=P,r:=r,n:=n,D:=D,Q:=fun ex a w=>∃ ch,ex = .panic ch∧Qp ch a w } [] l.toArray l e w):WpH (FW r) 0 P (.region id l.toArray false) Qp a w:=by
 refine SV ?_
 have b:wpListIn (FW r) 0 P l.toArray (fun ex a' w'=>∃ ch,ex = .panic ch∧Qp ch a' w') l a w:=h a ⟨ha.sat,ha.defers⟩
 rw [List.range_eq_range',← Array.length_toList,wpOpsIn_eq_wpListIn l.toArray.toList 0 spX]
 simpa using b
end
end Go.E
namespace Go.Proofs.YtnlonpcbgjbbaaaGreatDoor
open Go.Proofs.Tryz
open Go Go.E RowKit
attribute [local irreducible] Go.E.T Go.E.L Go.E.O Go.E.Ob
def dM (d:UInt8):Str→List Str
 | []=>[[]]
 | c::r=>if c=d then []::dM d r else match dM d r with
  | []=>[[c]]
  | w::ws=>(c::w)::ws
theorem KL (d:UInt8):∀ s,dM d s ≠ []
 | []=>by simp [dM]
 | c::r=>by
  unfold dM
  split
  ·simp
  split <;> simp
theorem zh (d:UInt8) (w v:Str) (vs:List Str):Lib.join (w::v::vs) [d]=w++d::Lib.join (v::vs) [d]:=by
 simp [Lib.join,List.intercalate,List.intersperse]
theorem join_one (d:UInt8) (w:Str):Lib.join [w] [d]=w:=by simp [Lib.join,List.intercalate]
theorem CO (d:UInt8):∀ s,Lib.join (dM d s) [d]=s
 | []=>by simp [dM,join_one]
 | c::r=>by
  have ih:=CO d r
  unfold dM
  split
  ·rename_i b
   subst b
   cases a:dM c r with
   | nil=>exact absurd a (KL c r)
   | cons v vs=>rw [zh,← a,ih];rfl
  split
  ·rename_i a;exact absurd a (KL d r)
  rename_i v vs a
  rw [a] at ih
  cases vs with
  | nil=>rw [join_one] at ih ⊢;rw [ih]
  | cons u us=>rw [zh] at ih ⊢;rw [← ih];rfl
theorem zi {d:UInt8} : ∀ {w:Str},d∉w→dM d w = [w]
 | [],_=>rfl
 | c::r,a=>by
  have b:¬ c=d:=fun e=>a (by rw [e];exact List.mem_cons_self ..)
  unfold dM
  rw [if_neg b,zi (fun h=>a (List.mem_cons_of_mem _ h))]
theorem zk {d:UInt8} {t:Str} : ∀ {w:Str},d∉w→dM d (w++d::t)=w::dM d t
 | [],_=>by
  show dM d (d::t)=_
  unfold dM
  rw [if_pos rfl]
  cases t <;> rfl
 | c::r,a=>by
  have b:¬ c=d:=fun e=>a (by rw [e];exact List.mem_cons_self ..)
  show dM d (c::(r++d::t))=_
  rw [dM,if_neg b,zk (fun h=>a (List.mem_cons_of_mem _ h))]
theorem CP (b c:UInt8) (l:Str) (h:b≠c):Lib.index (b::l) [c]=if Lib.index l [c] == -1 then -1 else Lib.index l [c]+1:=by
 have a:([c]:List UInt8).isPrefixOf (b::l)=false:=by simp [List.isPrefixOf,Ne.symm h]
 rw [Lib.index,a];simp
theorem OH (c:UInt8) (l:Str):Lib.index (c::l) [c]=0:=by rw [Lib.index];simp [List.isPrefixOf]
theorem aeD {s:Str} {d:UInt8} (h:d∉s):Lib.cut s [d]=(s,[],false):=by
 have:Lib.index s [d] = -1:=by
  induction s with
  | nil=>simp [Lib.index]
  | cons c r ih=>rw [CP c d r (fun e=>h (by rw [e];exact List.mem_cons_self ..)),ih (fun a=>h (List.mem_cons_of_mem _ a))];rfl
 rw [Lib.cut,if_neg omX]
theorem OI {a b:Str} {d:UInt8} (h:d∉a):Lib.index (a++d::b) [d]=a.length:=by
 induction a with
 | nil=>exact OH d b
 | cons c r ih =>
  show Lib.index (c::(r++d::b)) [d]=_
  rw [CP c d _ (fun e=>h (by rw [e];exact List.mem_cons_self ..)),ih (fun f=>h (List.mem_cons_of_mem _ f)),if_neg spX]
  simp
theorem abN {a b:Str} {d:UInt8} (h:d∉a):Lib.cut (a++d::b) [d]=(a,b,true):=by
 have hi:=OI (b:=b) h
 rw [Lib.cut,if_pos omX,hi,Int.toNat_natCast]
 simp
def bZ (ls:List Str):Str:=ls.flatMap fun s=>s ++ [10]
theorem jK (ls:List Str) (s:Str):bZ (ls ++ [s])=bZ ls++(s ++ [10]):=by simp [bZ]
def BH {τ:Type} (step:τ→Str→Option τ):τ→List Str→Nat→τ ⊕ Nat
 | s,[],_=>.inl s
 | s,l::ls,n=>match step s l with
  | some s'=>BH step s' ls (n+1)
  | none=>.inr n
end Go.Proofs.YtnlonpcbgjbbaaaGreatDoor
namespace Go.Proofs
open Go.Shelf
def Tryz.lays169_ren:Go.Shelf.Ren:=⟨fun|169=>26|n=>n,fun|70=>63|9=>9|0=>0|72=>65|37=>54|127=>136|3=>3|5=>5|n=>n,fun|n=>n⟩
theorem Tryz.lays169:Go.Proofs.Lays.n169 Tryz.prog Tryz.lays169_ren:={
 mixed:=by kernel_rfl
 f169:=func26.trans (congrArg some krX)
 t0:=Tryz.underlying0
 a0:=isAgg0
 z0:=sizeOf0
 v0:=zeroValue0
 t3:=Tryz.underlying3
 a3:=isAgg3
 z3:=sizeOf3
 v3:=zeroValue3
 t9:=Tryz.underlying9
 a9:=isAgg9
 z9:=sizeOf9
 v9:=zeroValue9
 t37:=Tryz.underlying54
 a37:=isAgg54
 z37:=sizeOf54
 v37:=zeroValue54
 t70:=Tryz.underlying63
 a70:=isAgg63
 z70:=sizeOf63
 v70:=zeroValue63
 t72:=Tryz.underlying65
 a72:=isAgg65
 z72:=sizeOf65
 v72:=zeroValue65
 t127:=Tryz.underlying136
 a127:=isAgg136
 z127:=sizeOf136
 v127:=zeroValue136 }
theorem Tryz.Builder_Extra_169:Builder.Extra Tryz.prog Tryz.lays169_ren:={
 sizeBuilder:=by kernel_rfl
 liesBuilder:=by kernel_rfl
 t5:=Tryz.underlying5
 a5:=isAgg5
 z5:=sizeOf5
 v5:=zeroValue5
 infoByte:=by kernel_rfl
 cellsByte:=by kernel_rfl
 sizeByte:=by kernel_rfl
 neB5:=by decide }
open Go.RowKit in
theorem Tryz.Builder_String_any (B b:Nat) (l:List UInt8) (w:World) (h:Lib.IsBuilder 65 5 B b (Lib.byteCells l) w) (hBw:B≤w.heap.size) :
  Calls Tryz.prog 26 #[.pointer (some ⟨b,0,none⟩)] w fun e w'=>e = .returned (.string ⟨l.toArray⟩)∧Below B w w':=Any.Builder_String_any Tryz.lays169 Tryz.Builder_Extra_169 B b l w h hBw
def Tryz.lays156_ren:Go.Shelf.Ren:=⟨fun|156=>50|165=>61|166=>25|169=>26|240=>72|241=>114|276=>128|277=>152|n=>n,fun|31=>61|9=>9|3=>3|4=>4|0=>0|20=>20|72=>65|76=>68|70=>63|37=>54|75=>67|127=>136|164=>197|5=>5|80=>70|n=>n,fun|n=>n⟩
theorem Tryz.lays156:Go.Proofs.Lays.n156 Tryz.prog Tryz.lays156_ren:={
 mixed:=by kernel_rfl
 f156:=func50.trans (congrArg some krX)
 f165:=func61.trans (congrArg some krX)
 f166:=func25.trans (congrArg some krX)
 f169:=func26.trans (congrArg some krX)
 f240:=func72.trans (congrArg some krX)
 f241:=func114.trans (congrArg some krX)
 f276:=func128.trans (congrArg some krX)
 f277:=func152.trans (congrArg some krX)
 t0:=Tryz.underlying0
 a0:=isAgg0
 z0:=sizeOf0
 v0:=zeroValue0
 t3:=Tryz.underlying3
 a3:=isAgg3
 z3:=sizeOf3
 v3:=zeroValue3
 t4:=Tryz.underlying4
 a4:=isAgg4
 z4:=sizeOf4
 v4:=zeroValue4
 t9:=Tryz.underlying9
 a9:=isAgg9
 z9:=sizeOf9
 v9:=zeroValue9
 t20:=Tryz.underlying20
 a20:=isAgg20
 z20:=sizeOf20
 v20:=zeroValue20
 t31:=Tryz.underlying61
 a31:=isAgg61
 z31:=sizeOf61
 v31:=zeroValue61
 t37:=Tryz.underlying54
 a37:=isAgg54
 z37:=sizeOf54
 v37:=zeroValue54
 t70:=Tryz.underlying63
 a70:=isAgg63
 z70:=sizeOf63
 v70:=zeroValue63
 t72:=Tryz.underlying65
 a72:=isAgg65
 z72:=sizeOf65
 v72:=zeroValue65
 t75:=Tryz.underlying67
 a75:=isAgg67
 z75:=sizeOf67
 v75:=zeroValue67
 t76:=Tryz.underlying68
 a76:=isAgg68
 z76:=sizeOf68
 v76:=zeroValue68
 t127:=Tryz.underlying136
 a127:=isAgg136
 z127:=sizeOf136
 v127:=zeroValue136
 t164:=Tryz.underlying197
 a164:=isAgg197
 z164:=sizeOf197
 v164:=zeroValue197 }
theorem Tryz.Builder_Extra_156:Builder.Extra Tryz.prog Tryz.lays156_ren:={
 sizeBuilder:=by kernel_rfl
 liesBuilder:=by kernel_rfl
 t5:=Tryz.underlying5
 a5:=isAgg5
 z5:=sizeOf5
 v5:=zeroValue5
 infoByte:=by kernel_rfl
 cellsByte:=by kernel_rfl
 sizeByte:=by kernel_rfl
 neB5:=by decide }
def Tryz.laysM171_ren:Go.Shelf.Ren:=⟨fun|171=>54|243=>105|246=>150|283=>195|284=>196|285=>197|286=>198|129=>228|317=>227|318=>229|319=>230|320=>231|337=>256|338=>257|n=>n,fun|3=>3|9=>9|2=>2|4=>4|171=>260|0=>0|53=>151|37=>54|5=>5|173=>263|212=>298|51=>177|20=>20|213=>299|46=>114|232=>333|233=>334|n=>n,fun|17=>3|18=>6|19=>7|n=>n⟩
theorem Tryz.laysM171:Go.Proofs.LaysM.n171 Tryz.prog Tryz.laysM171_ren:={
 mixed:=by kernel_rfl
 f129:=func228.trans (congrArg some krX)
 f171:=func54.trans (congrArg some krX)
 f243:=func105.trans (congrArg some krX)
 f246:=func150.trans (congrArg some krX)
 f283:=func195.trans (congrArg some krX)
 f284:=func196.trans (congrArg some krX)
 f285:=func197.trans (congrArg some krX)
 f286:=func198.trans (congrArg some krX)
 f317:=func227.trans (congrArg some krX)
 f318:=func229.trans (congrArg some krX)
 f319:=func230.trans (congrArg some krX)
 f320:=func231.trans (congrArg some krX)
 f337:=func256.trans (congrArg some krX)
 f338:=func257.trans (congrArg some krX)
 t0:=Tryz.underlying0
 a0:=isAgg0
 z0:=sizeOf0
 v0:=zeroValue0
 t2:=Tryz.underlying2
 a2:=isAgg2
 z2:=sizeOf2
 v2:=zeroValue2
 t3:=Tryz.underlying3
 a3:=isAgg3
 z3:=sizeOf3
 v3:=zeroValue3
 t4:=Tryz.underlying4
 a4:=isAgg4
 z4:=sizeOf4
 v4:=zeroValue4
 t5:=Tryz.underlying5
 a5:=isAgg5
 z5:=sizeOf5
 v5:=zeroValue5
 t9:=Tryz.underlying9
 a9:=isAgg9
 z9:=sizeOf9
 v9:=zeroValue9
 t20:=Tryz.underlying20
 a20:=isAgg20
 z20:=sizeOf20
 v20:=zeroValue20
 t37:=Tryz.underlying54
 a37:=isAgg54
 z37:=sizeOf54
 v37:=zeroValue54
 t46:=Tryz.underlying114
 a46:=isAgg114
 z46:=sizeOf114
 v46:=zeroValue114
 t51:=Tryz.underlying177
 a51:=isAgg177
 z51:=sizeOf177
 v51:=zeroValue177
 t53:=Tryz.underlying151
 a53:=isAgg151
 z53:=sizeOf151
 v53:=zeroValue151
 t171:=Tryz.underlying260
 a171:=isAgg260
 z171:=sizeOf260
 v171:=zeroValue260
 t173:=Tryz.underlying263
 a173:=isAgg263
 z173:=sizeOf263
 v173:=zeroValue263
 t212:=Tryz.underlying298
 a212:=isAgg298
 z212:=sizeOf298
 v212:=zeroValue298
 t213:=Tryz.underlying299
 a213:=isAgg299
 z213:=sizeOf299
 t232:=Tryz.underlying333
 a232:=isAgg333
 z232:=sizeOf333
 v232:=zeroValue333
 t233:=Tryz.underlying334
 a233:=isAgg334
 z233:=sizeOf334
 v233:=zeroValue334
 g17:=by kernel_rfl
 g18:=by kernel_rfl
 g19:=by kernel_rfl
 i0:=by kernel_rfl
 i2:=by kernel_rfl
 i3:=by kernel_rfl
 i4:=by kernel_rfl
 i5:=by kernel_rfl
 i9:=by kernel_rfl
 i20:=by kernel_rfl
 i37:=by kernel_rfl
 i46:=by kernel_rfl
 i51:=by kernel_rfl
 i53:=by kernel_rfl
 i171:=by kernel_rfl
 i173:=by kernel_rfl
 i212:=by kernel_rfl
 i232:=by kernel_rfl
 i233:=by kernel_rfl
 m17:=by kernel_rfl
 m18:=by kernel_rfl
 m19:=by kernel_rfl }
open Go.RowKit Go.Sort Go.Lib in
theorem Tryz.strconv_Itoa (n : Int) (h0 : -9223372036854775808 ≤ n) (b : n ≤ 9223372036854775807) (w : World) (a : Lib.TabIs Tryz.prog w "internal/strconv.uint64pow10" .u64 Lib.pow10Tab) :
  Calls Tryz.prog 54 #[.int .i64 n] w fun e w'=>e = .returned (.string ⟨(Lib.itoa n).toArray⟩)∧∃ k os,w'=grow (w.drewN k) os:=Any.strconv_Itoa Tryz.laysM171 n h0 b w a
def Tryz.laysC172_ren:Go.Shelf.Ren:=⟨fun|172=>161|244=>201|245=>202|247=>232|279=>233|280=>234|281=>235|282=>236|287=>258|316=>259|171=>54|205=>260|321=>268|322=>269|243=>105|246=>150|283=>195|284=>196|285=>197|286=>198|129=>228|317=>227|318=>229|319=>230|320=>231|337=>256|338=>257|n=>n,fun|9=>9|3=>3|75=>67|76=>68|4=>4|5=>5|167=>301|37=>54|0=>0|85=>302|2=>2|168=>304|53=>151|175=>325|46=>114|210=>328|127=>136|145=>338|143=>336|21=>21|171=>260|173=>263|212=>298|51=>177|20=>20|213=>299|232=>333|233=>334|80=>70|n=>n,fun|15=>4|16=>5|17=>3|18=>6|19=>7|n=>n⟩
theorem Tryz.laysC172:Go.Proofs.LaysC.n172 Tryz.prog Tryz.laysC172_ren:={
 mixed:=by kernel_rfl
 f129:=func228.trans (congrArg some krX)
 f171:=func54.trans (congrArg some krX)
 f172:=func161.trans (congrArg some krX)
 f205:=func260.trans (congrArg some krX)
 f243:=func105.trans (congrArg some krX)
 f244:=func201.trans (congrArg some krX)
 f245:=func202.trans (congrArg some krX)
 f246:=func150.trans (congrArg some krX)
 f247:=func232.trans (congrArg some krX)
 f279:=func233.trans (congrArg some krX)
 f280:=func234.trans (congrArg some krX)
 f281:=func235.trans (congrArg some krX)
 f282:=func236.trans (congrArg some krX)
 f283:=func195.trans (congrArg some krX)
 f284:=func196.trans (congrArg some krX)
 f285:=func197.trans (congrArg some krX)
 f286:=func198.trans (congrArg some krX)
 f287:=func258.trans (congrArg some krX)
 f316:=func259.trans (congrArg some krX)
 f317:=func227.trans (congrArg some krX)
 f318:=func229.trans (congrArg some krX)
 f319:=func230.trans (congrArg some krX)
 f320:=func231.trans (congrArg some krX)
 f321:=func268.trans (congrArg some krX)
 f322:=func269.trans (congrArg some krX)
 f337:=func256.trans (congrArg some krX)
 f338:=func257.trans (congrArg some krX)
 t0:=Tryz.underlying0
 a0:=isAgg0
 z0:=sizeOf0
 v0:=zeroValue0
 t2:=Tryz.underlying2
 a2:=isAgg2
 z2:=sizeOf2
 v2:=zeroValue2
 t3:=Tryz.underlying3
 a3:=isAgg3
 z3:=sizeOf3
 v3:=zeroValue3
 t4:=Tryz.underlying4
 a4:=isAgg4
 z4:=sizeOf4
 v4:=zeroValue4
 t5:=Tryz.underlying5
 a5:=isAgg5
 z5:=sizeOf5
 v5:=zeroValue5
 t9:=Tryz.underlying9
 a9:=isAgg9
 z9:=sizeOf9
 v9:=zeroValue9
 t20:=Tryz.underlying20
 a20:=isAgg20
 z20:=sizeOf20
 v20:=zeroValue20
 t21:=Tryz.underlying21
 a21:=isAgg21
 z21:=sizeOf21
 v21:=zeroValue21
 t37:=Tryz.underlying54
 a37:=isAgg54
 z37:=sizeOf54
 v37:=zeroValue54
 t46:=Tryz.underlying114
 a46:=isAgg114
 z46:=sizeOf114
 v46:=zeroValue114
 t51:=Tryz.underlying177
 a51:=isAgg177
 z51:=sizeOf177
 v51:=zeroValue177
 t53:=Tryz.underlying151
 a53:=isAgg151
 z53:=sizeOf151
 v53:=zeroValue151
 t75:=Tryz.underlying67
 a75:=isAgg67
 z75:=sizeOf67
 v75:=zeroValue67
 t76:=Tryz.underlying68
 a76:=isAgg68
 z76:=sizeOf68
 v76:=zeroValue68
 t85:=Tryz.underlying302
 a85:=isAgg302
 z85:=sizeOf302
 v85:=zeroValue302
 t127:=Tryz.underlying136
 a127:=isAgg136
 z127:=sizeOf136
 v127:=zeroValue136
 t143:=Tryz.underlying336
 a143:=isAgg336
 z143:=sizeOf336
 v143:=zeroValue336
 t145:=Tryz.underlying338
 a145:=isAgg338
 z145:=sizeOf338
 v145:=zeroValue338
 t167:=Tryz.underlying301
 a167:=isAgg301
 z167:=sizeOf301
 v167:=zeroValue301
 t168:=Tryz.underlying304
 a168:=isAgg304
 z168:=sizeOf304
 v168:=zeroValue304
 t171:=Tryz.underlying260
 a171:=isAgg260
 z171:=sizeOf260
 v171:=zeroValue260
 t173:=Tryz.underlying263
 a173:=isAgg263
 z173:=sizeOf263
 v173:=zeroValue263
 t175:=Tryz.underlying325
 a175:=isAgg325
 z175:=sizeOf325
 v175:=zeroValue325
 t210:=Tryz.underlying328
 a210:=isAgg328
 z210:=sizeOf328
 v210:=zeroValue328
 t212:=Tryz.underlying298
 a212:=isAgg298
 z212:=sizeOf298
 v212:=zeroValue298
 t213:=Tryz.underlying299
 a213:=isAgg299
 z213:=sizeOf299
 t232:=Tryz.underlying333
 a232:=isAgg333
 z232:=sizeOf333
 v232:=zeroValue333
 t233:=Tryz.underlying334
 a233:=isAgg334
 z233:=sizeOf334
 v233:=zeroValue334
 g15:=by kernel_rfl
 g16:=by kernel_rfl
 g17:=by kernel_rfl
 g18:=by kernel_rfl
 g19:=by kernel_rfl
 t80:=Tryz.underlying70
 a80:=isAgg70
 z80:=sizeOf70
 v80:=zeroValue70
 i0:=by kernel_rfl
 i2:=by kernel_rfl
 i3:=by kernel_rfl
 i4:=by kernel_rfl
 i5:=by kernel_rfl
 i9:=by kernel_rfl
 i20:=by kernel_rfl
 i21:=by kernel_rfl
 i37:=by kernel_rfl
 i46:=by kernel_rfl
 i51:=by kernel_rfl
 i53:=by kernel_rfl
 i75:=by kernel_rfl
 i76:=by kernel_rfl
 i80:=by kernel_rfl
 i85:=by kernel_rfl
 i127:=by kernel_rfl
 i143:=by kernel_rfl
 i145:=by kernel_rfl
 i167:=by kernel_rfl
 i168:=by kernel_rfl
 i171:=by kernel_rfl
 i173:=by kernel_rfl
 i175:=by kernel_rfl
 i210:=by kernel_rfl
 i212:=by kernel_rfl
 i232:=by kernel_rfl
 i233:=by kernel_rfl
 m15:=by kernel_rfl
 m16:=by kernel_rfl
 m17:=by kernel_rfl
 m18:=by kernel_rfl
 m19:=by kernel_rfl
 c0:=by kernel_rfl
 c2:=by kernel_rfl
 c3:=by kernel_rfl
 c4:=by kernel_rfl
 c5:=by kernel_rfl
 c9:=by kernel_rfl
 c20:=by kernel_rfl
 c21:=by kernel_rfl
 c37:=by kernel_rfl
 c46:=by kernel_rfl
 c51:=by kernel_rfl
 c53:=by kernel_rfl
 c75:=by kernel_rfl
 c76:=by kernel_rfl
 c80:=by kernel_rfl
 c85:=by kernel_rfl
 c127:=by kernel_rfl
 c143:=by kernel_rfl
 c145:=by kernel_rfl
 c167:=by kernel_rfl
 c168:=by kernel_rfl
 c171:=by kernel_rfl
 c173:=by kernel_rfl
 c175:=by kernel_rfl
 c210:=by kernel_rfl
 c212:=by kernel_rfl
 c213:=by kernel_rfl
 c232:=by kernel_rfl
 c233:=by kernel_rfl }
open Go.RowKit in
theorem Tryz.strconv_Atoi_ok (s:ByteArray) (a:s.size≤9223372036854775806) (v:Int) (h:Lib.atoiAll s.data.toList = .ok v) (w:World) :
  Calls Tryz.prog 161 #[.string s] w fun e w'=>e = .returned (.tuple #[.int .i64 v,.nilIface])∧(w'=w∨∃ t,w'=Lib.bytesWorld w 5 t):=Any.strconv_Atoi_ok Tryz.laysC172 s a v h w
open Go.RowKit in
theorem Tryz.sZ (s : ByteArray) (a : s.size ≤ 281474976710656) (h0 : ∀ n, Lib.atoiAll s.data.toList ≠ .ok n) (c : Lib.atoiAll s.data.toList ≠ .range) (tp : TypeId) (p : Value) (w : World) (b : w.var? Tryz.prog "strconv.ErrSyntax" = some #[.iface tp p]) :
  Calls Tryz.prog 161 #[.string s] w fun e w'=>∃ N,e = .returned (.tuple #[.int .i64 0,.iface 304 (.pointer (some ⟨N,0,none⟩))])∧w.heap.size≤N∧w'.heap[N]?=some (.cells #[.string ⟨#[65,116,111,105]⟩,.string s,.iface tp p] 328 (0,0))∧Below w.heap.size w w':=by
 rcases h:Lib.atoiAll s.data.toList with n|_|_
 ·exact absurd h (h0 n)
 ·exact Any.strconv_Atoi_syntax_var Tryz.laysC172 s a h tp p w b
 exact absurd h c
open Go.RowKit in
theorem Tryz.strconv_Atoi_range_var (s : ByteArray) (a : s.size ≤ 281474976710656) (h : Lib.atoiAll s.data.toList = .range) (tp : TypeId) (p : Value) (w : World) (b : w.var? Tryz.prog "strconv.ErrRange" = some #[.iface tp p]) :
  Calls Tryz.prog 161 #[.string s] w fun e w'=>∃ N,e = .returned (.tuple #[.int .i64 (Lib.atoiSat s.data.toList),.iface 304 (.pointer (some ⟨N,0,none⟩))])∧w.heap.size≤N∧w'.heap[N]?=some (.cells #[.string ⟨#[65,116,111,105]⟩,.string s,.iface tp p] 328 (0,0))∧Below w.heap.size w w':=Any.strconv_Atoi_range_var Tryz.laysC172 s a h tp p w b
def Tryz.lays145_ren:Go.Shelf.Ren:=⟨fun|145=>109|220=>151|219=>115|217=>153|225=>154|224=>155|267=>156|266=>199|314=>200|n=>n,fun|9=>9|4=>4|59=>173|3=>3|5=>5|46=>114|146=>178|51=>177|n=>n,fun|1=>0|n=>n⟩
theorem Tryz.lays145:Go.Proofs.Lays.n145 Tryz.prog Tryz.lays145_ren:={
 mixed:=by kernel_rfl
 f145:=func109.trans (congrArg some krX)
 f217:=func153.trans (congrArg some krX)
 f219:=func115.trans (congrArg some krX)
 f220:=func151.trans (congrArg some krX)
 f224:=func155.trans (congrArg some krX)
 f225:=func154.trans (congrArg some krX)
 f266:=func199.trans (congrArg some krX)
 f267:=func156.trans (congrArg some krX)
 f314:=func200.trans (congrArg some krX)
 t3:=Tryz.underlying3
 a3:=isAgg3
 z3:=sizeOf3
 v3:=zeroValue3
 t4:=Tryz.underlying4
 a4:=isAgg4
 z4:=sizeOf4
 v4:=zeroValue4
 t5:=Tryz.underlying5
 a5:=isAgg5
 z5:=sizeOf5
 v5:=zeroValue5
 t9:=Tryz.underlying9
 a9:=isAgg9
 z9:=sizeOf9
 v9:=zeroValue9
 t46:=Tryz.underlying114
 a46:=isAgg114
 z46:=sizeOf114
 v46:=zeroValue114
 t51:=Tryz.underlying177
 a51:=isAgg177
 z51:=sizeOf177
 v51:=zeroValue177
 t59:=Tryz.underlying173
 a59:=isAgg173
 z59:=sizeOf173
 v59:=zeroValue173
 t146:=Tryz.underlying178
 a146:=isAgg178
 z146:=sizeOf178
 v146:=zeroValue178
 g1:=by kernel_rfl }
open Go.RowKit Go.Lib in
theorem Tryz.strings_Cut (s sep:ByteArray) (m:Int) (w:World) (hs:s.size<4294967281) (a:w.cell? ⟨0,0,none⟩=some (.int .i64 m)) :
  Calls Tryz.prog 109 #[.string s,.string sep] w fun e w'=>e = .returned (.tuple #[.string ⟨(Lib.cut s.data.toList sep.data.toList).1.toArray⟩,.string ⟨(Lib.cut s.data.toList sep.data.toList).2.1.toArray⟩,.bool (Lib.cut s.data.toList sep.data.toList).2.2])∧∃ n,w'=w.drewN n:=Any.strings_Cut Tryz.lays145 s sep m w hs a
def Tryz.lays100_ren:Go.Shelf.Ren:=⟨fun|100=>106|207=>129|n=>n,fun|9=>9|4=>4|3=>3|n=>n,fun|n=>n⟩
theorem Tryz.lays100:Go.Proofs.Lays.n100 Tryz.prog Tryz.lays100_ren:={
 mixed:=by kernel_rfl
 f100:=func106.trans (congrArg some krX)
 f207:=func129.trans (congrArg some krX)
 t3:=Tryz.underlying3
 a3:=isAgg3
 z3:=sizeOf3
 v3:=zeroValue3
 t4:=Tryz.underlying4
 a4:=isAgg4
 z4:=sizeOf4
 v4:=zeroValue4
 t9:=Tryz.underlying9
 a9:=isAgg9
 z9:=sizeOf9
 v9:=zeroValue9 }
open Go.RowKit Go.Lib in
theorem Tryz.strings_HasSuffix (s p:ByteArray) (w:World) (hs:s.size≤9223372036854775807) :
  Calls Tryz.prog 106 #[.string s,.string p] w fun e w'=>e = .returned (.bool (Lib.hasSuffix s.data.toList p.data.toList))∧w'=w:=Any.strings_HasSuffix Tryz.lays100 s p w hs
def Tryz.lays102_ren:Go.Shelf.Ren:=⟨fun|102=>27|209=>73|207=>129|n=>n,fun|9=>9|4=>4|3=>3|n=>n,fun|n=>n⟩
theorem Tryz.lays102:Go.Proofs.Lays.n102 Tryz.prog Tryz.lays102_ren:={
 mixed:=by kernel_rfl
 f102:=func27.trans (congrArg some krX)
 f207:=func129.trans (congrArg some krX)
 f209:=func73.trans (congrArg some krX)
 t3:=Tryz.underlying3
 a3:=isAgg3
 z3:=sizeOf3
 v3:=zeroValue3
 t4:=Tryz.underlying4
 a4:=isAgg4
 z4:=sizeOf4
 v4:=zeroValue4
 t9:=Tryz.underlying9
 a9:=isAgg9
 z9:=sizeOf9
 v9:=zeroValue9 }
open Go.RowKit Go.Lib in
theorem Tryz.strings_TrimSuffix (s p:ByteArray) (w:World) (hs:s.size≤9223372036854775807) :
  Calls Tryz.prog 27 #[.string s,.string p] w fun e w'=>e = .returned (.string ⟨(Lib.trimSuffix s.data.toList p.data.toList).toArray⟩)∧w'=w:=Any.strings_TrimSuffix Tryz.lays102 s p w hs
def Tryz.lays212_ren:Go.Shelf.Ren:=⟨fun|212=>59|263=>111|264=>112|n=>n,fun|46=>114|51=>177|146=>178|53=>151|148=>180|n=>n,fun|n=>n⟩
theorem Tryz.lays212:Go.Proofs.Lays.n212 Tryz.prog Tryz.lays212_ren:={
 mixed:=by kernel_rfl
 f212:=func59.trans (congrArg some krX)
 f263:=func111.trans (congrArg some krX)
 f264:=func112.trans (congrArg some krX)
 t46:=Tryz.underlying114
 a46:=isAgg114
 z46:=sizeOf114
 v46:=zeroValue114
 t51:=Tryz.underlying177
 a51:=isAgg177
 z51:=sizeOf177
 v51:=zeroValue177
 t53:=Tryz.underlying151
 a53:=isAgg151
 z53:=sizeOf151
 v53:=zeroValue151
 t146:=Tryz.underlying178
 a146:=isAgg178
 z146:=sizeOf178
 v146:=zeroValue178
 t148:=Tryz.underlying180
 a148:=isAgg180
 z148:=sizeOf180
 v148:=zeroValue180 }
open Go.RowKit Go.Lib in
theorem Tryz.bits_Mul (x y:Nat) (hx:x<18446744073709551616) (hy:y<18446744073709551616) (w:World) :
  Calls Tryz.prog 59 #[.int .u64 x,.int .u64 y] w fun e w'=>e = .returned (.tuple #[.int .u64 ((x*y / 18446744073709551616:Nat):Int),.int .u64 ((x*y % 18446744073709551616:Nat):Int)])∧w'=w:=Any.bits_Mul Tryz.lays212 x y hx hy w
def Tryz.lays229_ren:Go.Shelf.Ren:=⟨fun|229=>120|n=>n,fun|9=>9|40=>190|31=>61|152=>232|3=>3|0=>0|4=>4|21=>21|154=>234|n=>n,fun|n=>n⟩
theorem Tryz.lays229:Go.Proofs.Lays.n229 Tryz.prog Tryz.lays229_ren:={
 mixed:=by kernel_rfl
 f229:=func120.trans (congrArg some krX)
 t0:=Tryz.underlying0
 a0:=isAgg0
 z0:=sizeOf0
 v0:=zeroValue0
 t3:=Tryz.underlying3
 a3:=isAgg3
 z3:=sizeOf3
 v3:=zeroValue3
 t4:=Tryz.underlying4
 a4:=isAgg4
 z4:=sizeOf4
 v4:=zeroValue4
 t9:=Tryz.underlying9
 a9:=isAgg9
 z9:=sizeOf9
 v9:=zeroValue9
 t21:=Tryz.underlying21
 a21:=isAgg21
 z21:=sizeOf21
 v21:=zeroValue21
 t31:=Tryz.underlying61
 a31:=isAgg61
 z31:=sizeOf61
 v31:=zeroValue61
 t40:=Tryz.underlying190
 a40:=isAgg190
 z40:=sizeOf190
 v40:=zeroValue190
 t152:=Tryz.underlying232
 a152:=isAgg232
 z152:=sizeOf232
 v152:=zeroValue232
 t154:=Tryz.underlying234
 a154:=isAgg234
 z154:=sizeOf234
 v154:=zeroValue234 }
open Go.RowKit Go.Lib in
theorem Tryz.strings_FieldsFunc_grows (g:Nat) (lb:Array Value) (eg:∀ args w,(callFunc g args).run Tryz.prog w = .ok (.enter g args) w) (p:Nat→Bool) (s:ByteArray) (w:World) (hs:s.size≤4294967296) (a:PredGrows Tryz.prog g lb p w) :
  Calls Tryz.prog 120 #[.string s,.func (.func g) #[] lb] w fun e w'=>∃ A,e = .returned (.slice (some ⟨A,0,none⟩) (Lib.goFieldsP p s).length (Lib.goFieldsP p s).length)∧w.heap.size≤A ∧
   w'.ownsRow w.heap.size 9 1 (.slice (some ⟨A,0,none⟩) (Lib.goFieldsP p s).length (Lib.goFieldsP p s).length) (Lib.goFieldsP p s).length ((Lib.goFieldsP p s).map Value.string)∧Below w.heap.size w w':=Any.strings_FieldsFunc_grows Tryz.lays229 g lb eg p s w hs a krX krX
end Go.Proofs
