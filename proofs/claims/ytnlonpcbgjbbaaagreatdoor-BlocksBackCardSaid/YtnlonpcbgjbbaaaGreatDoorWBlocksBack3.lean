/-
  BlocksBack, part 3 of its proof: that it returns true for every input, and each argument reads behind the call as it read before. Conditions: the listed variables read as the program's text lays them (tied by the card).
-/
import Derived.Test.YtnlonpcbgjbbaaaGreatDoorWBlocksBack2
import Derived.Laws.IdiomStrings
import Derived.Laws.StructEq
import Derived.Laws.Slices
import Derived.RecoverIn
import Derived.Scope
import Derived.Shelf.Vars
import Derived.Lib.SplitLaws
import Derived.Lib.Split
import Derived.Lib.IndexMore
import Derived.Lib.Join
import Derived.Lib.Strings
import Derived.Lib.ItoaNum
import Derived.Shelf.Strings.Builder1
import Derived.Shelf.Bits.Mul64
import Derived.Shelf.Slices.Turned
import Derived.Shelf.Slices.ReverseS
import Derived.Shelf.Strconv.AtoiAll
import Derived.Shelf.Strconv.ErrVarAll
import Derived.Shelf.Strconv.Itoa3
import Derived.Shelf.Strings.Count
import Derived.Shelf.Strings.Cut
import Derived.Shelf.Strings.FieldsFuncGrows
import Derived.Shelf.Strings.Prefix
import Derived.Shelf.Strings.OnBuilder
import Derived.Shelf.Strings.Repeat
import Derived.Shelf.Strings.Replace
import Derived.Shelf.Strings.Split
import Derived.Test.YtnlonpcbgjbbaaaGreatDoorProg
set_option linter.unusedVariables false
set_option linter.unusedSimpArgs false
set_option linter.unusedSectionVars false
set_option linter.unnecessarySimpa false
set_option maxRecDepth 20000
set_option linter.unusedVariables false
set_option linter.unusedSimpArgs false
set_option linter.unusedSectionVars false
namespace Go.E
open Go.RowKit
abbrev Str:=List UInt8
def str (s:Str):Value:=.string ⟨s.toArray⟩
theorem bytes_beq (a b:Str):((⟨a.toArray⟩:ByteArray) == ⟨b.toArray⟩)=decide (a=b):=by
 show ((⟨a⟩:Array UInt8) == ⟨b⟩)=_
 by_cases h:a=b
 ·subst h;simp
 rw [decide_eq_false h,beq_eq_false_iff_ne]
 intro e;exact h (by simpa using e)
theorem KD (a b:Str):(a == b)=decide (a=b):=by by_cases h:a=b <;> simp [h]
section ops
variable {C:Cx} {e:Env} {w:World} {K:Value→World→Prop} {d:Option Tmp} {ty:TypeId} {pos:String} {aft:Array Edge} {g:Option (Nat × Bool)}
variable {x y z:Operand} {t tx ty':TypeId} {a b:Str}
theorem O.CQ (hu:∀ w,(underlying tx).run C.P w = .ok .string w) (hx:ev e x=some (str a)) (hy:ev e y=some (str b)) (h:K (.bool (decide (a=b))) w):O C e ⟨d,.binOp .eql tx x y ty',ty,pos,aft,g⟩ w K :=
 O.of_run (by simp) (fun ac ha=>by
  simp only [execOp,ha.eval hx,ha.eval hy,eqGuard,binOp,str]
  simp only [Op.stringOp,ByteArray.toList_eq,Sem.run_bind,Sem.run_pure,Result.andThen_ok]
  simp [KD]) h
theorem O.PW (hu:∀ w,(underlying tx).run C.P w = .ok .string w) (hx:ev e x=some (str a)) (hy:ev e y=some (str b)) (h:K (.bool (!decide (a=b))) w):O C e ⟨d,.binOp .neq tx x y ty',ty,pos,aft,g⟩ w K :=
 O.of_run (by simp) (fun ac ha=>by
  simp only [execOp,ha.eval hx,ha.eval hy,eqGuard,binOp,str]
  simp only [Op.stringOp,ByteArray.toList_eq,Sem.run_bind,Sem.run_pure,Result.andThen_ok]
  simp [KD]) h
theorem O.aX (hu:∀ w,(underlying tx).run C.P w = .ok .string w) (hx:ev e x=some (str a)) (hy:ev e y=some (str b)) (hp:a=b) (h:K (.bool true) w):O C e ⟨d,.binOp .eql tx x y ty',ty,pos,aft,g⟩ w K:=O.CQ hu hx hy (by rw [decide_eq_true hp];exact h)
theorem O.aA (hu:∀ w,(underlying tx).run C.P w = .ok .string w) (hx:ev e x=some (str a)) (hy:ev e y=some (str b)) (hp:¬ a=b) (h:K (.bool false) w):O C e ⟨d,.binOp .eql tx x y ty',ty,pos,aft,g⟩ w K:=O.CQ hu hx hy (by rw [decide_eq_false hp];exact h)
theorem O.qx (hu:∀ w,(underlying tx).run C.P w = .ok .string w) (hx:ev e x=some (str a)) (hy:ev e y=some (str b)) (ht:a=b→K (.bool true) w) (hf:¬ a=b→K (.bool false) w):O C e ⟨d,.binOp .eql tx x y ty',ty,pos,aft,g⟩ w K:=O.CQ hu hx hy (by
 by_cases hp:a=b
 ·rw [decide_eq_true hp];exact ht hp
 rw [decide_eq_false hp];exact hf hp)
theorem O.PX (hu:∀ w,(underlying tx).run C.P w = .ok .string w) (hx:ev e x=some (str a)) (hy:ev e y=some (str b)) (ht:¬ a=b→K (.bool true) w) (hf:a=b→K (.bool false) w):O C e ⟨d,.binOp .neq tx x y ty',ty,pos,aft,g⟩ w K:=O.PW hu hx hy (by
 by_cases hp:a=b
 ·rw [decide_eq_true hp];exact hf hp
 rw [decide_eq_false hp];exact ht hp)
theorem O.gu (hu:∀ w,(underlying t).run C.P w = .ok .string w) (hx:ev e x=some (str a)) (h:K (.int .i64 a.length) w) :
  O C e ⟨d,.call { callee:=.builtin .len,args:=#[x],argTypes:=#[t] },ty,pos,aft,g⟩ w K :=
 O.MP hu hx (by simpa [ByteArray.size] using h)
theorem O.jf {kd:IntKind} {m:Int} (hu:∀ w,(underlying t).run C.P w = .ok .string w) (hx:ev e x=some (str a)) (hy:ev e y=some (.int kd m)) (h0:0≤m) (h1:m.toNat<a.length) (h:K (.int .u8 ((a.getD m.toNat 0).toNat:Int)) w) :
  O C e ⟨d,.index t x y,ty,pos,aft,g⟩ w K :=
 O.PD (b:=a.getD m.toNat 0) hu hx hy h0 (by
  have:(⟨a.toArray⟩:ByteArray)[m.toNat]?=a[m.toNat]?:=by
   rw [List.getElem?_eq_getElem h1]
   exact getElem?_pos (⟨a.toArray⟩:ByteArray) m.toNat (by simpa [ByteArray.size] using h1)
  rw [this];simp [List.getD,h1]) h
theorem O.PY {kd:IntKind} {i:Nat} (hu:∀ w,(underlying t).run C.P w = .ok .string w) (hx:ev e x=some (str a)) (hy:ev e y=some (.int kd i)) (h1:i<a.length) (h:K (.int .u8 ((a.getD i 0).toNat:Int)) w) :
  O C e ⟨d,.index t x y,ty,pos,aft,g⟩ w K:=O.jf hu hx hy (Int.natCast_nonneg _) (by simpa using h1) (by simpa using h)
theorem qy (a:Str) (l h:Nat):(⟨a.toArray⟩:ByteArray).extract l h=⟨((a.drop l).take (h-l)).toArray⟩:=by
 apply ByteArray.ext
 simp [ByteArray.data_extract,List.extract_toArray,List.extract]
theorem O.o8 {kh:IntKind} {h:Int} (hu:∀ w,(underlying t).run C.P w = .ok .string w) (hx:ev e x=some (str a)) (hy:ev e y=some (.int kh h)) (h0:0≤h) (h1:h.toNat≤a.length) (hk:K (str (a.take h.toNat)) w) :
  O C e ⟨d,.slice t x none (some y) none,ty,pos,aft,g⟩ w K :=
 O.of_run (by simp) (fun ac ha=>by
  have:=run_slice_string_h (P:=C.P) w t ⟨a.toArray⟩ (aO hu) kh h h0 (by simp [ByteArray.size];omega)
  rw [qy] at this
  simp only [execOp,ha.eval hx,ha.eval hy,str,Option.map_some,Option.map_none] at this ⊢
  rw [Sem.run_bind,run_sliceAt_string w _ _ _ _ _ (aO hu),this];simp) hk
theorem O.IQ {kl:IntKind} {l:Int} (hu:∀ w,(underlying t).run C.P w = .ok .string w) (hx:ev e x=some (str a)) (hy:ev e y=some (.int kl l)) (h0:0≤l) (h1:l.toNat≤a.length) (hk:K (str (a.drop l.toNat)) w) :
  O C e ⟨d,.slice t x (some y) none none,ty,pos,aft,g⟩ w K :=
 O.of_run (by simp) (fun ac ha=>by
  have:=run_slice_string_l (P:=C.P) w t ⟨a.toArray⟩ (aO hu) kl l h0 (by simp [ByteArray.size];omega)
  rw [qy] at this
  simp only [execOp,ha.eval hx,ha.eval hy,str,Option.map_some,Option.map_none] at this ⊢
  rw [Sem.run_bind,run_sliceAt_string w _ _ _ _ _ (aO hu),this];simp [ByteArray.size];exact List.take_of_length_le (by simp)) hk
theorem O.jV (hx:ev e x=some (str a)) (hy:ev e y=some (str b)) (hn:a.length+b.length≤9223372036854775807) (h:K (str (a++b)) w):O C e ⟨d,.binOp .add tx x y ty',ty,pos,aft,g⟩ w K :=
 O.of_run (by simp) (fun ac ha=>by
  have hle:¬ (((⟨a.toArray⟩:ByteArray).size+(⟨b.toArray⟩:ByteArray).size:Nat):Int) > IntKind.i64.max:=by
   have:IntKind.i64.max=9223372036854775807:=rfl
   simp only [ByteArray.size,List.size_toArray,this];omega
  have he:((⟨a.toArray⟩:ByteArray)++⟨b.toArray⟩)=⟨(a++b).toArray⟩:=by apply ByteArray.ext;simp [ByteArray.data_append]
  simp only [execOp,ha.eval hx,ha.eval hy,eqGuard,binOp,str,Op.stringOp,he]
  rw [if_neg hle];simp) h
theorem O.PZ {lo:Nat} {v:Value} {s:Str} {src dst el:TypeId} (hs:∀ w,(underlying src).run C.P w = .ok (.slice el) w) (he:∀ w,(underlying el).run C.P w = .ok (.int .u8) w) (hd:∀ w,(underlying dst).run C.P w = .ok .string w)
  (hx:ev e x=some v) (hv:Ints .u8 lo w v (s.map fun c=>(c.toNat:Int))) (hn:0<s.length) (h:K (str s) w):O C e ⟨d,.convert src dst x,ty,pos,aft,g⟩ w K :=
 O.of_run (by simp) (fun ac ha=>by
  obtain ⟨cap,e1,_,_,hr⟩:=Sl.there hv (by simpa using hn)
  have:=run_convert_bytes_back w src dst el (jd v) cap s (aO hs) (aO he) (aO hd) (fun j hj=>hr j _ (by simp [hj]))
  simp only [execOp,ha.eval hx,str]
  rw [e1];simp only [List.length_map]
  rw [Sem.run_bind,this];simp) h
theorem Row.of_eq {w:World} {a b:Addr} {cs:List Value} (h:Row w a cs) (e:a=b):Row w b cs:=e▸h
theorem O.ad4 {v:Value} {n sz lo:Nat} {cs:List Value} {el:TypeId} {kd:IntKind} {m:Int} (hu:∀ w,(underlying t).run C.P w = .ok (.slice el) w) (hs:∀ w,(sizeOf el).run C.P w = .ok sz w) (hx:ev e x=some v) (hy:ev e y=some (.int kd m))
  (hv:Sl lo w v n sz cs) (h0:0≤m) (h1:m.toNat≤n) (h:∀ u,Sl lo w u (n-m.toNat) sz (cs.drop (m.toNat*sz))→K u w):O C e ⟨d,.slice t x (some y) none none,ty,pos,aft,g⟩ w K:=by
 obtain ⟨hl,oa,cap,rfl,hc,hm,hr⟩:=hv
 refine O.of_run (by simp) (fun a ha=>by
  simp [execOp,Instr.sliceAt,Instr.slice,Instr.sliceBounds,Instr.sliceBound,asIntOf,ha.eval hx,ha.eval hy,hu w,hs w,h0,(show m≤(n:Int) by omega)]
  rfl) (h _ ⟨?_,_,cap-m.toNat,rfl,by omega,by omega,?_⟩)
 ·rw [List.length_drop,hl,Nat.sub_mul]
 rcases hr with hr|⟨ad,e1,e2,e3⟩
 ·left;omega
 by_cases hc2:cap=m.toNat
 ·left;omega
 refine .inr ⟨ad.add (m.toNat*sz),by rw [if_neg hc2,e1];rfl,by rw [add_block];exact e2,e3.drop _⟩
end ops
open Go.RowKit
structure Key {α:Type} [DecidableEq α] (kf:α→Value) (kd:TypeDesc):Prop where
 same:∀ a b,Instr.sameNow kd (kf a) (kf b)=some (decide (a=b))
 check:∀ (P:Program) (kt:TypeId) (b:Bool) (a:α) (w:World),P.underlying kt=some kd→(Instr.checkKey b 10000 kt (kf a)).run P w = .ok () w
 stays:∀ (P:Program) (a:α) (w:World),(Instr.keyThatStays (kf a) (kf a)).run P w = .ok (kf a) w
theorem iW:Key str .string :=
 ⟨fun a b=>by simp only [str,Instr.sameNow,bytes_beq],fun P kt b a w h=>by
  have hn:∀ n,(Instr.checkKey b (n+1) kt (str a)).run P w = .ok () w:=fun n=>by
   simp only [Instr.checkKey,str,Sem.run_bind,run_underlying h,Result.andThen_ok]
   rfl
  exact hn 9999,fun P a w=>by
  have hb:Instr.sameBits 10000 (str a) (str a)=true:=by simp [str,Instr.sameBits,bytes_beq]
  simp [Instr.keyThatStays,hb]⟩
section maps
variable {α β:Type} [DecidableEq α] {kf:α→Value} {vf:β→Value} {kd:TypeDesc}
def gE (kf:α→Value) (vf:β→Value) (p:α × β) (i:Nat):MapEntry:={ key:=kf p.1,val:=vf p.2,born:=i }
def gEs (kf:α→Value) (vf:β→Value) (n:Nat):List (α × β)→List MapEntry
 | []=>[]
 | p::r=>gE kf vf p n::gEs kf vf (n+1) r
theorem P5:∀ (kvs:List (α × β)) (n:Nat),(gEs kf vf n kvs).length=kvs.length
 | [],_=>rfl
 | p::r,n=>by simp [gEs,P5 r (n+1)]
theorem CS:∀ (kvs:List (α × β)) (n i:Nat),(gEs kf vf n kvs)[i]?=(kvs[i]?).map (fun p=>gE kf vf p (n+i))
 | [],_,_=>by simp [gEs]
 | p::r,n,0=>by simp [gEs]
 | p::r,n,i+1=>by
  simp only [gEs,List.getElem?_cons_succ,CS r (n+1) i]
  rw [show n+1+i=n+(i+1) by omega]
theorem CU:∀ (kvs:List (α × β)) (n:Nat) (p:α × β),gEs kf vf n (kvs ++ [p])=gEs kf vf n kvs ++ [gE kf vf p (n+kvs.length)]
 | [],n,p=>by simp [gEs]
 | q::r,n,p=>by
  simp only [List.cons_append,gEs,CU r (n+1) p,List.length_cons]
  rw [show n+1+r.length=n+(r.length+1) by omega]
def o9 (kf:α→Value) (vf:β→Value) (w:World) (b:Nat) (kvs:List (α × β)):Prop:=w.heap[b]?=some (.map (gEs kf vf 0 kvs).toArray kvs.length)
theorem o9.keep {w w':World} {b lo:Nat} {kvs:List (α × β)} (h:o9 kf vf w b kvs) (k:Keep lo w w') (hl:lo≤b):o9 kf vf w' b kvs:=k.blk hl h
theorem o9.upd {w w':World} {b b':Nat} {kvs:List (α × β)} (h:o9 kf vf w b kvs) (k:Upd b' w w') (hne:b≠b'):o9 kf vf w' b kvs:=k.blk hne h
theorem o9.lt {w:World} {b:Nat} {kvs:List (α × β)} (h:o9 kf vf w b kvs):b<w.heap.size:=(Array.getElem?_eq_some_iff.1 h).1
def dQ:List (α × β)→α→Nat→Option (Nat × β)
 | [],_,_=>none
 | p::r,k,i=>if k=p.1 then some (i,p.2) else dQ r k (i+1)
def iG (kvs:List (α × β)) (k:α):Option β:=(dQ kvs k 0).map (·.2)
def vT (kvs:List (α × β)) (k:α) (v:β):List (α × β):=match dQ kvs k 0 with
 | some (i,_)=>kvs.set i (k,v)
 | none=>kvs ++ [(k,v)]
theorem EZ (hK:Key kf kd) (k:α):∀ (kvs:List (α × β)) (n i:Nat),Instr.findNow kd (kf k) (gEs kf vf n kvs) i=some ((dQ kvs k i).map (fun p=>(p.1,vf p.2)))
 | [],_,_=>rfl
 | p::r,n,i=>by
  simp only [gEs,Instr.findNow,gE,hK.same,dQ]
  by_cases h:k=p.1
  ·simp [h]
  simp only [decide_eq_false h,if_neg h]
  exact EZ hK k r (n+1) (i+1)
theorem qA:∀ (kvs:List (α × β)) (k:α) (n:Nat) {i:Nat} {v:β},dQ kvs k n=some (i,v)→n≤i∧kvs[i-n]?=some (k,v)
 | [],_,_,_,_,h=>by cases h
 | p::r,k,n,i,v,h=>by
  simp only [dQ] at h
  split at h
  ·rename_i hk;cases h;subst hk;simp
  obtain ⟨h1,h2⟩:=qA r k (n+1) h
  refine ⟨by omega,?_⟩
  rw [show i-n=(i-(n+1))+1 by omega];simpa using h2
theorem pq:∀ (kvs:List (α × β)) (k:α) (n:Nat),(dQ kvs k n).map (·.2)=(dQ kvs k 0).map (·.2)
 | [],_,_=>rfl
 | p::r,k,n=>by
  simp only [dQ]
  split
  ·rfl
  rw [pq r k (n+1),pq r k (0+1)]
theorem fD (p:α × β) (r:List (α × β)) (k:α):iG (p::r) k=if k=p.1 then some p.2 else iG r k:=by
 unfold iG;simp only [dQ]
 split
 ·rfl
 exact pq r k 1
theorem E5 (r:List (α × β)) (q:α × β) (k:α):iG (r ++ [q]) k=(iG r k).or (if k=q.1 then some q.2 else none):=by
 induction r with
 | nil=>rw [List.nil_append,fD];simp [iG,dQ]
 | cons p r ih=>rw [List.cons_append,fD,fD,ih];split <;> simp
theorem KE:∀ (r:List (α × β)) (n i:Nat) (k:α) (v u:β) (k':α),dQ r k n=some (i,u)→iG (r.set (i-n) (k,v)) k'=if k'=k then some v else iG r k'
 | [],_,_,_,_,_,_,h=>by cases h
 | p::r,n,i,k,v,u,k',h=>by
  simp only [dQ] at h
  split at h
  ·rename_i hk;cases h;rw [Nat.sub_self,List.set_cons_zero,fD,fD]
   subst hk;split <;> simp_all
  rename_i hk
  have hle:=(qA r k (n+1) h).1
  have ih:=KE r (n+1) i k v u k' h
  rw [show i-n=(i-(n+1))+1 by omega,List.set_cons_succ,fD,fD,ih]
  by_cases h1:k'=p.1
  ·have:¬ k'=k:=fun e=>hk (e▸h1)
   rw [if_pos h1,if_pos h1,if_neg this]
  rw [if_neg h1,if_neg h1]
theorem KF (kvs:List (α × β)) (k:α) (v:β) (k':α):iG (vT kvs k v) k'=if k'=k then some v else iG kvs k':=by
 unfold vT
 cases h:dQ kvs k 0 with
 | none =>
  have hn:iG kvs k=none:=by unfold iG;rw [h];rfl
  rw [E5]
  by_cases hk:k'=k
  ·subst hk;simp [hn]
  simp [hk]
 | some p=>exact KE kvs 0 p.1 k v p.2 k' h
theorem KG (k:α):iG ([]:List (α × β)) k=none:=rfl
section ops
variable {C:Cx} {e:Env} {w:World} {K:Value→World→Prop} {d:Option Tmp} {ty:TypeId} {pos:String} {aft:Array Edge} {g:Option (Nat × Bool)}
variable {x y z:Operand} {t kt vt:TypeId}
theorem qB {P:Program} (hK:Key kf kd) (hk:P.underlying kt=some kd) (k:α) (kvs:List (α × β)) (w:World) :
  (Instr.findKey kt (kf k) (gEs kf vf 0 kvs)).run P w = .ok ((dQ kvs k 0).map (fun p=>(p.1,vf p.2))) w:=by
 simp [Instr.findKey,run_underlying hk,EZ hK]
theorem O.qC (h:∀ b w',b=w.heap.size→w'.heap.size=b+1→Ext w w'→o9 kf vf w' b []→K (.map (some b)) w'):O C e ⟨d,.makeMap t none,ty,pos,aft,g⟩ w K :=
 O.of_run (w':=w.alloc (.map #[] 0)) (v:=.map (some w.heap.size)) (by simp) (fun a ha=>by simp [execOp,Instr.makeMap])
  (h _ _ rfl (by simp) (Keep.alloc _ _ _) (heap_alloc_new w _))
theorem O.CV {b:Nat} {k:α} {z0:β} {kvs:List (α × β)} (hK:Key kf kd) (hu:∀ w,(underlying t).run C.P w = .ok (.map kt vt) w) (hk:∀ w,(underlying kt).run C.P w = .ok kd w) (hz:∀ w,(zeroValue vt).run C.P w = .ok (vf z0) w)
  (hx:ev e x=some (.map (some b))) (hy:ev e y=some (kf k)) (hm:o9 kf vf w b kvs) (h:K (vf ((iG kvs k).getD z0)) w):O C e ⟨d,.lookup t x y false,ty,pos,aft,g⟩ w K :=
 O.of_run (by simp) (fun a ha=>by
  have hf:=qB (vf:=vf) hK (aO hk) k kvs w
  cases hc:dQ kvs k 0 with
  | none=>rw [hc] at hf;simp [execOp,Instr.lookup,ha.eval hx,ha.eval hy,hu w,MapKept.run_getObj_map hm,hK.check _ _ _ _ _ (aO hk),hf,hz w,iG,hc]
  | some p=>rw [hc] at hf;simp [execOp,Instr.lookup,ha.eval hx,ha.eval hy,hu w,MapKept.run_getObj_map hm,hK.check _ _ _ _ _ (aO hk),hf,iG,hc]) h
theorem AB (kvs:List (α × β)) (i:Nat) (p:α × β) (f:MapEntry→MapEntry) (hf:∀ q,kvs[i]?=some q→f (gE kf vf q i)=gE kf vf p i):(gEs kf vf 0 kvs).toArray.modify i f=(gEs kf vf 0 (kvs.set i p)).toArray:=by
 apply Array.ext_getElem?
 intro j
 rw [Array.getElem?_modify]
 simp only [List.getElem?_toArray,CS,Nat.zero_add]
 by_cases hij:i=j
 ·subst hij
  simp only [if_true,List.getElem?_set_self']
  cases hk:kvs[i]? with
  | none=>simp
  | some q=>simp [hf q hk]
 rw [if_neg hij,List.getElem?_set_ne hij]
theorem O.kG {b:Nat} {k:α} {v:β} {kvs:List (α × β)} (hK:Key kf kd) (hu:∀ w,(underlying t).run C.P w = .ok (.map kt vt) w) (hk:∀ w,(underlying kt).run C.P w = .ok kd w)
  (hx:ev e x=some (.map (some b))) (hy:ev e y=some (kf k)) (hz:ev e z=some (vf v)) (hm:o9 kf vf w b kvs) (h:∀ w',Upd b w w'→o9 kf vf w' b (vT kvs k v)→K undef w'):O C e ⟨d,.mapUpdate t x y z,ty,pos,aft,g⟩ w K:=by
 have hf:=qB (vf:=vf) hK (aO hk) k kvs w
 have hlt:=hm.lt
 cases hc:dQ kvs k 0 with
 | none =>
  rw [hc] at hf
  refine O.wZ (w':={ w with heap:=w.heap.setIfInBounds b (.map ((gEs kf vf 0 kvs).toArray.push { key:=kf k,val:=vf v,born:=kvs.length }) (kvs.length+1)) }) (by simp) (fun a ha=>by
   simp [execOp,Instr.mapUpdate,ha.eval hx,ha.eval hy,ha.eval hz,hu w,MapKept.run_getObj_map hm,hK.check _ _ _ _ _ (aO hk),hf,MapKept.run_setObj_map _ hm]) (h _ ?_ ?_)
  ·exact aQ w b _
  have e:vT kvs k v=kvs ++ [(k,v)]:=by rw [vT,hc]
  unfold o9
  rw [e,CU,Array.getElem?_setIfInBounds_self]
  simp [hlt,gE]
 | some p =>
  rw [hc] at hf
  obtain ⟨_,hg⟩:=qA kvs k 0 (i:=p.1) (v:=p.2) hc
  rw [Nat.sub_zero] at hg
  have hes:(gEs kf vf 0 kvs).toArray[p.1]?=some (gE kf vf (k,p.2) p.1):=by simp [CS,hg]
  have hmod:=AB (kf:=kf) (vf:=vf) kvs p.1 (k,v) (fun e=>{ e with key:=kf k,val:=vf v }) (fun q _=>rfl)
  refine O.wZ (w':={ w with heap:=w.heap.setIfInBounds b (.map ((gEs kf vf 0 kvs).toArray.modify p.1 fun e=>{ e with key:=kf k,val:=vf v }) kvs.length) }) (by simp) (fun a ha=>by
   have hst:=hK.stays C.P k w
   simp only [execOp,Instr.mapUpdate,ha.eval hx,ha.eval hy,ha.eval hz,Sem.run_bind,hu w,Result.andThen_ok,MapKept.run_getObj_map hm,hK.check _ _ _ _ _ (aO hk),hf,Option.map_some]
   rw [hes]
   simp [gE,hst,MapKept.run_setObj_map _ hm]) (h _ ?_ ?_)
  ·exact aQ w b _
  have e:vT kvs k v=kvs.set p.1 (k,v):=by rw [vT,hc]
  unfold o9
  rw [hmod,e,Array.getElem?_setIfInBounds_self]
  simp [hlt]
end ops
end maps
open Go.RowKit
theorem Ints.ext {kd:IntKind} {lo:Nat} {w w':World} {v:Value} {us:List Int} (h:Ints kd lo w v us) (k:Ext w w'):Ints kd lo w' v us:=h.keep (k.mono (Nat.zero_le _))
theorem Sl.ext {lo n sz:Nat} {w w':World} {v:Value} {cs:List Value} (h:Sl lo w v n sz cs) (k:Ext w w'):Sl lo w' v n sz cs:=h.keep (k.mono (Nat.zero_le _))
theorem Blk.ext {w w':World} {b:Nat} {cs:List Value} {t:TypeId} (h:Blk w b cs t) (k:Ext w w'):Blk w' b cs t:=h.keep k (Nat.zero_le _)
theorem o9.ext {α β:Type} [DecidableEq α] {kf:α→Value} {vf:β→Value} {w w':World} {b:Nat} {kvs:List (α × β)} (h:o9 kf vf w b kvs) (k:Ext w w'):o9 kf vf w' b kvs:=h.keep k (Nat.zero_le _)
section bools
variable {C:Cx} {e:Env} {w:World} {K:Value→World→Prop} {d:Option Tmp} {ty:TypeId} {pos:String} {aft:Array Edge} {g:Option (Nat × Bool)}
variable {x y:Operand} {tx ty':TypeId} {p q:Bool}
theorem O.MV (hu:∀ w,(underlying tx).run C.P w = .ok .bool w) (hx:ev e x=some (.bool p)) (hy:ev e y=some (.bool q)) (hp:p≠q) (h:K (.bool false) w):O C e ⟨d,.binOp .eql tx x y ty',ty,pos,aft,g⟩ w K :=
 O.Ci hu hx hy (by rw [show (p == q)=false by simpa using hp];exact h)
theorem O.Yb {oa:Option Addr} {n cap:Nat} {el:TypeId} (hu:∀ w,(underlying tx).run C.P w = .ok (.slice el) w) (hx:ev e x=some (.slice oa n cap)) (hy:ev e y=some (.slice none 0 0)) (h:K (.bool oa.isNone) w):O C e ⟨d,.binOp .eql tx x y ty',ty,pos,aft,g⟩ w K :=
 O.of_run (by simp) (fun a ha=>by
  have key:∀ dd,(Op.equalIn (dd+1) tx (.slice oa n cap) (.slice none 0 0)).run C.P w = .ok oa.isNone w:=fun dd=>by cases oa <;> simp [Op.equalIn,hu w]
  have k2:(Op.equal tx (.slice oa n cap) (.slice none 0 0)).run C.P w = .ok oa.isNone w:=key 9999
  simp only [execOp,ha.eval hx,ha.eval hy,eqGuard,binOp];simp [k2]) h
theorem O.E8 {v:Value} {n sz lo:Nat} {cs:List Value} {el:TypeId} (hu:∀ w,(underlying tx).run C.P w = .ok (.slice el) w) (hx:ev e x=some v) (hy:ev e y=some (.slice none 0 0)) (hv:Sl lo w v n sz cs) (ht:n=0→K (.bool true) w) (hf:True→K (.bool false) w) :
  O C e ⟨d,.binOp .eql tx x y ty',ty,pos,aft,g⟩ w K:=by
 obtain ⟨hl,oa,cap,rfl,hc,hm,hr⟩:=hv
 refine O.Yb hu hx hy ?_
 cases oa with
 | none=>exact ht (by rcases hr with hr|⟨a,h,_⟩;exact hr;cases h)
 | some a=>exact hf trivial
end bools
theorem T.ad5 {k:List It} {e:Env} {w:World} {P:Program} {fn:Func} {n m:Nat} {R:Value→World→Prop} {s s2:Tmp} {t:TypeId} {ad:Addr} {cs:List Value} {v2:Value} (hres:fn.results=#[.cell s t,.tmp s2]) (hg:∀ w,(isAgg t).run P w = .ok true w) (hs:∀ w,(sizeOf t).run P w = .ok m w) (hn:cs.length=m)
  (hv:look e s=some (.pointer (some ad))) (h2:look e s2=some v2) (hr:Row w ad cs) (h:R (.tuple #[.agg cs.toArray,v2]) w):T (UK P fn n R) (.code .ret::k) e w :=
 T.ret fun a ha=>bodyPost_ret (v:=.tuple #[.agg cs.toArray,v2]) (by
  subst hn
  have h1:=ha.sat.get s _ hv
  have e2:=ha.sat.get s2 _ h2
  simp [results,hres,Array.getD_eq_getD_getElem?,h1,e2,loadVar,asAddr,hg,hs,run_loadCells_list w ad cs hr]) ha.defers h
open Go.RowKit
def ObX (C:Cx) (ops:Array Oper) (e:Env) (o:Oper) (f:Fact) (w:World) (X:Value→World→World→Prop) (J:World→Prop):Prop :=
 (gQ ops e o=some true∧O C e o w (fun v w'=>J w'∧f.holds v w'∧X v w w'))∨(gQ ops e o=some false∧f.holds undef w∧J w∧X undef w w)
def aaE (C:Cx) (l:List Oper) (fs:List Fact) (e:Env) (Inv:Nat→World→Prop) (Rel:World→World→Prop) (X:Nat→Value→World→Prop) (Y:Nat→Env→Value→World→Prop):Nat→List Oper→List Fact→List (List Nat)→List (Option Nat)→Prop
 | i,o::os,f::fr,ds::dr,none::ch=>(∀ c w1,Inv c w1→Bind w1 (bf l fs ds) (fun en=>ObX C l.toArray (en++e) o f w1 (fun v w w'=>X i v w∧Y i en v w') (fun w'=>Rel w1 w'∧Inv c w')))∧aaE C l fs e Inv Rel X Y (i+1) os fr dr ch
 | i,o::os,f::fr,ds::dr,some p::ch=>(∀ w1,Inv p w1→Bind w1 (bf l fs ds) (fun en=>ObX C l.toArray (en++e) o f w1 (fun v w w'=>X i v w∧Y i en v w') (fun w'=>Rel w1 w'∧Inv (p+1) w')))∧aaE C l fs e Inv Rel X Y (i+1) os fr dr ch
 | _,_,_,_,_=>True
theorem IU {C:Cx} {l:List Oper} {fs:List Fact} {e:Env} {Inv:Nat→World→Prop} {Rel:World→World→Prop} {X:Nat→Value→World→Prop} {Y:Nat→Env→Value→World→Prop} : ∀ {os:List Oper} {fr:List Fact} {dr:List (List Nat)} {ch:List (Option Nat)} {i0:Nat},aaE C l fs e Inv Rel X Y i0 os fr dr ch→∀ (i:Nat) (o:Oper) (f:Fact) (ds:List Nat) (q:Option Nat),os[i]?=some o→fr[i]?=some f→dr[i]?=some ds→ch[i]?=some q →
  ∀ c w1,Inv c w1→(∀ p,q=some p→p=c)→Bind w1 (bf l fs ds) (fun en=>ObX C l.toArray (en++e) o f w1 (fun v w w'=>X (i0+i) v w∧Y (i0+i) en v w') (fun w'=>Rel w1 w'∧Inv (match q with|some _=>c+1|none=>c) w'))
 | o::os,f::fr,ds::dr,none::ch,i0,h,0,o',f',ds',q,ho,hf,hd,hq=>by
  simp at ho hf hd hq;subst ho hf hd hq;exact fun c w1 hI _=>h.1 c w1 hI
 | o::os,f::fr,ds::dr,some p::ch,i0,h,0,o',f',ds',q,ho,hf,hd,hq=>by
  simp at ho hf hd hq;subst ho hf hd hq
  intro c w1 hI hp
  obtain rfl:=hp p rfl
  exact h.1 w1 hI
 | o::os,f::fr,ds::dr,none::ch,i0,h,i+1,o',f',ds',q,ho,hf,hd,hq=>by
  rw [show i0+(i+1)=i0+1+i by omega]
  exact IU h.2 i o' f' ds' q (by simpa using ho) (by simpa using hf) (by simpa using hd) (by simpa using hq)
 | o::os,f::fr,ds::dr,some p::ch,i0,h,i+1,o',f',ds',q,ho,hf,hd,hq=>by
  rw [show i0+(i+1)=i0+1+i by omega]
  exact IU h.2 i o' f' ds' q (by simpa using ho) (by simpa using hf) (by simpa using hd) (by simpa using hq)
 | [],_,_,_,_,_,i,_,_,_,_,ho,_,_,_=>by simp at ho
 | _::_,[],_,_,_,_,i,_,_,_,_,_,hf,_,_=>by simp at hf
 | _::_,_::_,[],_,_,_,i,_,_,_,_,_,_,hd,_=>by simp at hd
 | _::_,_::_,_::_,[],_,_,i,_,_,_,_,_,_,_,hq=>by simp at hq
def Pairs (l:List Oper) (m:Nat) (P:Nat→Nat→Value→Value→World→Prop) (en:Env) (w:World):Prop:=∀ (i j:Nat) (oi oj:Oper) (di:Tmp) (vi:Value),i<j→j<m→l[i]?=some oi→l[j]?=some oj→oi.dst=some di→look en di=some vi→∃ vj,(∀ dj u,oj.dst=some dj→look en dj=some u→u=vj)∧P i j vi vj w
theorem xB {en e:Env} {d:Nat} {v:Value} (h:look en d=some v):look (en++e) d=some v:=by
 induction en with
 | nil=>cases h
 | cons p r ih =>
  obtain ⟨s,u⟩:=p
  simp only [List.cons_append,look] at h ⊢
  cases hq:s.beq d
  ·rw [hq] at h;exact ih h
  rw [hq] at h;exact h
theorem qE {w:World} {a:Act} {e:Env} : ∀ (fs:List (Option Tmp × Fact)) (K:Env→Prop),Bind w fs K→(∀ p∈fs,∃ v,(∀ d,p.1=some d→a.tmps[d]?=some v)∧p.2.holds v w) →
  ∃ en,K en∧(∀ i v,look (en++e) i=some v→a.tmps[i]?=some v∨(look e i=some v∧∀ p∈fs,p.1≠some i))∧∀ p∈fs,∀ d,p.1=some d→∃ v,look en d=some v
 | [],K,h,_=>⟨[],h,fun i v hi=>.inr ⟨hi,fun p hp=>by cases hp⟩,fun p hp=>by cases hp⟩
 | (d,f)::r,K,h,hp=>by
  obtain ⟨v,hv,hh⟩:=hp _ (List.mem_cons_self ..)
  have hput:∀ en:Env,(∀ i v,look (en++e) i=some v→a.tmps[i]?=some v∨(look e i=some v∧∀ p∈r,p.1≠some i)) →
    ∀ i u,look (Aw d v en++e) i=some u→a.tmps[i]?=some u∨(look e i=some u∧∀ p∈(d,f)::r,p.1≠some i):=fun en hen i u hi=>by
   cases d with
   | none =>
    rcases hen i u hi with h1|⟨h1,h2⟩
    ·exact .inl h1
    refine .inr ⟨h1,fun p hp=>?_⟩
    rcases List.mem_cons.1 hp with rfl|hp
    ·simp
    exact h2 p hp
   | some d =>
    simp only [Aw,List.cons_append,look] at hi
    by_cases hdi:d=i
    ·subst hdi;simp at hi;subst hi;exact .inl (hv d rfl)
    rw [jR hdi] at hi
    rcases hen i u hi with h1|⟨h1,h2⟩
    ·exact .inl h1
    refine .inr ⟨h1,fun p hp=>?_⟩
    rcases List.mem_cons.1 hp with rfl|hp
    ·simpa using hdi
    exact h2 p hp
  have Xp:∀ en:Env,(∀ p∈r,∀ d,p.1=some d→∃ v,look en d=some v)→∀ p∈(d,f)::r,∀ d',p.1=some d'→∃ u,look (Aw d v en) d'=some u:=fun en hen p hpp d' hd'=>by
   cases d with
   | none =>
    rcases List.mem_cons.1 hpp with rfl|hpp
    ·cases hd'
    exact hen p hpp d' hd'
   | some d =>
    simp only [Aw,look]
    by_cases hdd:d=d'
    ·subst hdd;exact ⟨v,by simp⟩
    rw [jR hdd]
    rcases List.mem_cons.1 hpp with rfl|hpp
    ·exact absurd (Option.some.inj hd') hdd
    exact hen p hpp d' hd'
  cases f with
  | is u =>
   obtain rfl:v=u:=hh
   obtain ⟨en,h1,h2,h3⟩:=qE r _ h (fun p hpr=>hp p (List.mem_cons_of_mem _ hpr))
   exact ⟨_,h1,hput en h2,Xp en h3⟩
  | such φ =>
   obtain ⟨en,h1,h2,h3⟩:=qE r _ (h v hh) (fun p hpr=>hp p (List.mem_cons_of_mem _ hpr))
   exact ⟨_,h1,hput en h2,Xp en h3⟩
section
variable {C:Cx} {k:List It} {l:List Oper} {m:Nat} {fs:List Fact} {e:Env} {w:World} {S:List Nat} {e':Env} {Inv:Nat→World→Prop} {ch:List (Option Nat)}
structure P6 (C:Cx) (l:List Oper) (m:Nat) (fs:List Fact) (e:Env) (Inv:Nat→World→Prop) (ch:List (Option Nat)) (len:Nat) (P:Nat→Nat→Value→Value→World→Prop) (listed:Array Bool) (a:Act) (w1:World):Prop where
 size:listed.size=l.length
 closed:∀ (i:Nat) (o:Oper),l[i]?=some o→listed[i]?=some true→∀ x∈o.after,Region.binds .any x=true→listed.getD x.on false=true
 inv:∃ c:Nat,c≤len∧Inv c w1∧∀ j p:Nat,ch[j]?=some (some p)→(listed[j]?=some true↔p<c)
 defers:a.defers=C.D
 jy:a.tmps.size=C.n
 base:∀ (i:Nat) (v:Value),look e i=some v→(∀ (j:Nat) (o:Oper),j<m→l[j]?=some o→o.dst≠some i)→a.tmps[i]?=some v
 tail:∀ j,m≤j→j<l.length→listed[j]?=some false
 done:∀ (j:Nat) (o:Oper) (f:Fact),j<m→l[j]?=some o→fs[j]?=some f→listed[j]?=some true→∃ v,(∀ d,o.dst=some d→a.tmps[d]?=some v)∧f.holds v w1
 pair:∀ (i j:Nat) (oi oj:Oper),i<m→j<m→l[i]?=some oi→l[j]?=some oj→listed[i]?=some true→listed[j]?=some true→i<j→∃ vi vj,(∀ d,oi.dst=some d→a.tmps[d]?=some vi)∧(∀ d,oj.dst=some d→a.tmps[d]?=some vj)∧P i j vi vj w1
theorem P7 {P:Nat→Nat→Value→Value→World→Prop} {len:Nat} {listed:Array Bool} {a:Act} {w1:World} (hlen:fs.length=m) (hml:m≤l.length) (hfin:∀ w1,Inv len w1→Bind w1 (bf l fs (List.range m)) (fun en=>Pairs l m P en w1→L C k l.toArray (l.drop m) (en++e) w1))
  (EU:∀ q:Nat,q<len→∃ j:Nat,j<m∧ch[j]?=some (some q))
  (hU:P6 C l m fs e Inv ch len P listed a w1) (hall:∀ j,j<m→listed[j]?=some true):∃ en,Fits C (en++e) a∧L C k l.toArray (l.drop m) (en++e) w1:=by
 obtain ⟨c,Ut,hI,hcc⟩:=hU.inv
 have PG:c=len:=by
  rcases Nat.lt_or_ge c len with h|h
  ·obtain ⟨j,hjm,hj⟩:=EU c h
   have:=(hcc j c hj).1 (hall j hjm)
   omega
  omega
 subst PG
 obtain ⟨en,h1,h2⟩:=rX (a:=a) (e:=e) _ _ (hfin w1 hI) (fun p hp=>by
  obtain ⟨j,o,hj,ho,hd,hf⟩:=dB hp
  have hjm:j<m:=by simpa using hj
  obtain ⟨v,hv1,hv2⟩:=hU.done j o p.2 hjm ho hf (hall j hjm)
  exact ⟨v,fun d hdd=>hv1 d (by rw [hd];exact hdd),hv2⟩)
 have aaF:Pairs l m P en w1:=by
  intro i j oi oj di vi hij hj ho1 ho2 hd1 hv1
  have hlk:∀ (q:Nat) (oq:Oper) (d:Tmp) (v:Value),q<m→l[q]?=some oq→oq.dst=some d→look en d=some v→a.tmps[d]?=some v:=fun q oq d v hq hoq hdq hv=>by
   rcases h2 d v (xB hv) with h|⟨_,h4⟩
   ·exact h
   have hf:fs[q]?=some (fs[q]'(by omega)):=List.getElem?_eq_getElem (by omega)
   exact absurd hdq (h4 _ (fB hoq hf (by simpa using hq)))
  obtain ⟨ui,uj,h5,h6,h7⟩:=hU.pair i j oi oj (by omega) hj ho1 ho2 (hall i (by omega)) (hall j hj) hij
  have e1:=hlk i oi di vi (by omega) ho1 hd1 hv1
  rw [h5 di hd1] at e1;cases e1
  refine ⟨uj,fun dj u hd hu=>?_,h7⟩
  have e2:=hlk j oj dj u hj ho2 hd hu
  rw [h6 dj hd] at e2;cases e2;rfl
 refine ⟨en,⟨⟨hU.jy,fun i v hi=>?_⟩,hU.defers⟩,h1 aaF⟩
 rcases h2 i v hi with h|⟨h3,h4⟩
 ·exact h
 refine hU.base i v h3 (fun j o hj ho hd=>?_)
 have hf:fs[j]?=some (fs[j]'(by omega)):=List.getElem?_eq_getElem (by omega)
 exact h4 _ (fB ho hf (by simpa using hj)) hd
theorem T.aiB {id:Nat} (PI:C.P.follows .mixedOrders=true) (m len:Nat) (S:List Nat) (he:zO e S=some e') (fs:List Fact) (ds:List (List Nat)) (ch:List (Option Nat)) (A:List (List Nat)) (Inv:Nat→World→Prop) (Rel:World→World→Prop) (X:Nat→Value→World→Prop) (Y:Nat→Env→Value→World→Prop) (P:Nat→Nat→Value→Value→World→Prop)
  (hPs:∀ i j vi vj w w',Rel w w'→P i j vi vj w→P i j vi vj w')
  (hP1:∀ i j f vi vj w1 w2 en dd oi,i<j→fs[i]?=some f→f.holds vi w1→X j vj w1→Y j en vj w2→ds[j]?=some dd→l[i]?=some oi→(i∈dd→∀ di,oi.dst=some di→look en di=some vi)→P i j vi vj w2)
  (hP2:∀ i j f vi vj w1 w2,i<j→fs[j]?=some f→f.holds vj w1→X i vi w1→(∀ dd,ds[j]?=some dd→i∉dd)→P i j vi vj w2) (hA:CG l A=true) (hok:zV C.n l m ds S A=true) (hch:iP A m ch len=true) (hlen:fs.length=m)
  (hst:CB Rel fs) (h0:Inv 0 w.drew) (hob:aaE C l fs e' Inv Rel X Y 0 (l.take m) fs ds ch)
  (hfin:∀ w1,Inv len w1→Bind w1 (bf l fs (List.range m)) (fun en=>Pairs l m P en w1→L C k l.toArray (l.drop m) (en++e) w1)) :
  T C (.code (.region id l.toArray true)::k) e w:=by
 simp only [zV,Bool.and_eq_true,decide_eq_true_eq] at hok
 obtain ⟨⟨⟨⟨⟨⟨⟨hto,hml⟩,hdl⟩,hdst⟩,hdis⟩,X8⟩,hS⟩,htl⟩:=hok
 simp only [iP,Bool.and_eq_true,decide_eq_true_eq] at hch
 obtain ⟨⟨⟨hcl,hc1⟩,hc2⟩,hc3⟩:=hch
 have qp:∀ i o,l[i]?=some o→∀ x∈o.after,Region.binds .any x=true→x.on<i:=by
  intro i o ho x hx hb
  have h1:=List.all_eq_true.1 hto (o,i) (by rw [List.mem_zipIdx_iff_getElem?];exact ho)
  have h2:=List.all_eq_true.1 h1 x (Array.mem_toList_iff.2 hx)
  simpa [hb] using h2
 have IK:∀ i,m≤i→i<l.length→∀ j,j<i→wt A i j=true:=by
  intro i hi hil j hj
  have h1:=List.all_eq_true.1 htl (l[i],i) (by rw [List.mem_zipIdx_iff_getElem?];exact List.getElem?_eq_getElem hil)
  have h3:¬ i<m:=by omega
  simp only [h3,decide_false,Bool.false_or] at h1
  exact List.all_eq_true.1 h1 j (by simpa using hj)
 have CO:∀ (i:Nat) (o:Oper),l[i]?=some o→gK C.n o.dst=true:=fun i o ho=>List.all_eq_true.1 hdst o (List.mem_of_getElem? ho)
 have CP:∀ (i j:Nat) (oi oj:Oper),i<m→j<m→i≠j→l[i]?=some oi→l[j]?=some oj→∀ d,oi.dst=some d→oj.dst≠some d:=by
  intro i j oi oj hi hj hne ho1 ho2 d hd1 hd2
  have h1:=List.all_eq_true.1 hdis j (by simpa using hj)
  have h2:=List.all_eq_true.1 h1 i (by simpa using hi)
  have hb:(i == j)=false:=by simpa using hne
  simp [hb,ho1,ho2,hd1,hd2] at h2
 have xA:∀ (i:Nat) (dd:List Nat),ds[i]?=some dd→∀ j∈dd,j<m∧wt A i j=true:=by
  intro i dd hd j hj
  have h1:=List.all_eq_true.1 X8 (dd,i) (by rw [List.mem_zipIdx_iff_getElem?];exact hd)
  have h2:=List.all_eq_true.1 h1 j hj
  simpa using h2
 have hS':∀ s∈S,∀ (j:Nat) (o:Oper),j<m→l[j]?=some o→o.dst≠some s:=by
  intro s hs j o hj ho hd
  have h1:=List.all_eq_true.1 hS s hs
  simp only [Bool.not_eq_true',List.contains_eq_mem,decide_eq_false_iff_not] at h1
  exact h1 (List.mem_filterMap.2 ⟨j,by simpa using hj,by simp [ho,hd]⟩)
 have PK:∀ (i p:Nat) (o:Oper),ch[i]?=some (some p)→l[i]?=some o→p<len∧∀ q,q<p→∃ j,ch[j]?=some (some q)∧wt A i j=true:=by
  intro i p o hp ho
  have hi:i<ch.length:=(List.getElem?_eq_some_iff.1 hp).1
  have h1:=List.all_eq_true.1 hc1 i (by simpa using hi)
  simp only [hp,Bool.and_eq_true,decide_eq_true_eq] at h1
  refine ⟨h1.1,fun q hq=>?_⟩
  have h2:=List.all_eq_true.1 h1.2 q (by simp;omega)
  simp only [hq,decide_true,Bool.not_true,Bool.false_or] at h2
  obtain ⟨j,hj,h3⟩:=List.any_eq_true.1 h2
  simp only [Bool.and_eq_true,beq_iff_eq] at h3
  exact ⟨j,h3.1,h3.2⟩
 have X9:∀ (i j p:Nat),ch[i]?=some (some p)→ch[j]?=some (some p)→i=j:=by
  intro i j p hi hj
  have hil:i<ch.length:=(List.getElem?_eq_some_iff.1 hi).1
  have hjl:j<ch.length:=(List.getElem?_eq_some_iff.1 hj).1
  have h1:=List.all_eq_true.1 (List.all_eq_true.1 hc2 i (by simpa using hil)) j (by simpa using hjl)
  simp only [hi,hj,beq_self_eq_true,Bool.not_true,Bool.false_or,beq_iff_eq] at h1
  exact h1
 have EU:∀ q:Nat,q<len→∃ j:Nat,j<m∧ch[j]?=some (some q):=by
  intro q hq
  have h1:=List.all_eq_true.1 hc3 q (by simpa using hq)
  obtain ⟨j,hj1,hj⟩:=List.any_eq_true.1 h1
  exact ⟨j,by simpa [hcl] using hj1,by simpa using hj⟩
 intro a0 ha0
 show (Code.region id l.toArray true).wpIn _ _ _ _ _ _
 refine wpIn_region_any PI ?_
 have hsz:l.toArray.size=l.length:=by simp
 rw [hsz]
 have main:∀ (fuel:Nat) (listed:Array Bool) (a:Act) (w1:World),P6 C l m fs e Inv ch len P listed a w1→(∀ j,j<l.length→listed[j]?=some true∨listed[j]?=some false)→(listed.toList.filter (! ·)).length≤fuel →
   wpAnyIn (FW C.r) 0 C.P .any l.toArray (run C k) fuel listed a w1:=by
  intro fuel
  induction fuel with
  | zero =>
   intro listed a w1 hU htf hcnt
   have hall:∀ j,j<l.length→listed[j]?=some true:=by
    intro j hj
    rcases htf j hj with h|h
    ·exact h
    have hm:false∈listed.toList:=List.mem_of_getElem? (i:=j) (by simpa using h)
    have:false∈listed.toList.filter (! ·):=List.mem_filter.2 ⟨hm,rfl⟩
    rw [List.eq_nil_of_length_eq_zero (Nat.le_zero.1 hcnt)] at this
    cases this
   have hm:m=l.length:=by
    rcases Nat.lt_or_ge m l.length with h|h
    ·have h1:=hU.tail m (Nat.le_refl _) h
     rw [hall m h] at h1;cases h1
    omega
   obtain ⟨en,hfit,hL⟩:=P7 hlen hml hfin EU hU (fun j hj=>hall j (by omega))
   exact gB hA IK qp 0 l.length listed a w1 (by omega) (by omega) (by rw [hU.size]) hall (fun j h1 h2=>by omega) (by rw [hm] at hL;exact hL a hfit) 0 (Nat.le_refl _)
  | succ fuel ih =>
   intro listed a w1 hU htf hcnt
   by_cases hall:∀ j,j<m→listed[j]?=some true
   ·obtain ⟨en,hfit,hL⟩:=P7 hlen hml hfin EU hU hall
    have lu:l.length-m≤fuel+1:=by
     have:=iE listed.toList m (fun j h1 h2=>by have:=hU.tail j h1 (by have:=hU.size;simpa [this] using h2);simpa using this)
     have hsz':=hU.size
     simp at this
     omega
    exact gB hA IK qp (l.length-m) m listed a w1 (by omega) (Nat.le_refl _) (by rw [hU.size]) hall hU.tail (hL a hfit) (fuel+1) lu
   refine ⟨fun h0=>?_,fun i hi=>?_⟩
   ·exfalso
    obtain ⟨j,hj1,hj2,hj3⟩:=gy hall
    have hjl:j<l.length:=by omega
    have hmem:j∈Region.ready .any l.toArray listed:=by
     have hfalse:listed[j]?=some false:=by (rcases htf j hjl with h|h;exact absurd h hj2;exact h)
     refine mem_ready.2 ⟨by rw [Array.getD_eq_getD_getElem?,hfalse];rfl,l[j],by simp [hjl],?_⟩
     intro x hx hb
     have:=qp j _ (List.getElem?_eq_getElem hjl) x hx hb
     rw [Array.getD_eq_getD_getElem?,hj3 _ this];rfl
    rw [h0] at hmem;cases hmem
   obtain ⟨h1,o,ho,kF⟩:=mem_ready.1 hi
   have ho':l[i]?=some o:=by simpa using ho
   have hil:i<l.length:=(List.getElem?_eq_some_iff.1 ho').1
   have him:i<m:=by
    rcases Nat.lt_or_ge i m with h|h
    ·exact h
    exfalso
    obtain ⟨j,hj1,hj2,_⟩:=gy hall
    exact hj2 (bZ hA qp hU.size hU.closed i i o (Nat.le_refl _) ho' kF j (IK i h hil j (by omega)))
   obtain ⟨f,hfi⟩:∃ f,fs[i]?=some f:=⟨fs[i]'(by omega),List.getElem?_eq_getElem (by omega)⟩
   obtain ⟨dd,hdi⟩:∃ dd,ds[i]?=some dd:=⟨ds[i]'(by omega),List.getElem?_eq_getElem (by omega)⟩
   obtain ⟨q,hqi⟩:∃ q,ch[i]?=some q:=⟨ch[i]'(by omega),List.getElem?_eq_getElem (by omega)⟩
   obtain ⟨c,Ut,hI,hcc⟩:=hU.inv
   have hli:¬ listed[i]?=some true:=fun h=>by rw [Array.getD_eq_getD_getElem?,h] at h1;simp at h1
   have hpc:∀ p,q=some p→p=c:=by
    rintro p rfl
    have hge:¬ p<c:=fun h=>hli ((hcc i p hqi).2 h)
    have hle:p≤c:=Classical.byContradiction fun hn=>by
     obtain ⟨j,hj,hw⟩:=(PK i p o hqi ho').2 c (by omega)
     have:=(hcc j c hj).1 (bZ hA qp hU.size hU.closed i i o (Nat.le_refl _) ho' kF j hw)
     omega
    omega
   have hB:=IU hob i o f dd q (by rw [List.getElem?_take,if_pos him];exact ho') hfi hdi hqi c w1 hI hpc
   have hbase:Fits C e' a:=⟨⟨hU.jy,fun s v hs=>by
    obtain ⟨hs1,hs2⟩:=jZ he s v hs
    exact hU.base s v hs2 (fun j oj hj hoj=>hS' s hs1 j oj hj hoj)⟩,hU.defers⟩
   obtain ⟨en,hOb,hlk,Xp⟩:=qE (a:=a) (e:=e') _ _ hB (fun p hp=>by
    obtain ⟨j,oj,hj1,hj2,hj3,hj4⟩:=dB hp
    obtain ⟨hjm,hjw⟩:=xA i dd hdi j hj1
    obtain ⟨v,hv1,hv2⟩:=hU.done j oj p.2 hjm hj2 hj4 (bZ hA qp hU.size hU.closed i i o (Nat.le_refl _) ho' kF j hjw)
    exact ⟨v,fun d hd=>hv1 d (by rw [hj3];exact hd),hv2⟩)
   have hfit:Fits C (en++e') a:=⟨⟨hU.jy,fun s v hs=>by
    rcases hlk s v hs with h|⟨h,_⟩
    ·exact h
    exact hbase.sat.get s v h⟩,hU.defers⟩
   have lu:((listed.setIfInBounds i true).toList.filter (! ·)).length≤fuel:=by
    have:=count_set (listed:=listed) (i:=i) (by rcases htf i hil with h|h;exact absurd h hli;exact h)
    omega
   have PL:∀ j,j<l.length→(listed.setIfInBounds i true)[j]?=some true∨(listed.setIfInBounds i true)[j]?=some false:=by
    intro j hj
    by_cases hji:i=j
    ·subst hji;left;rw [Array.getElem?_setIfInBounds_self];simp [hU.size,hil]
    rw [Array.getElem?_setIfInBounds_ne hji];exact htf j hj
   have hnext:∀ v w2,Rel w1 w2→Inv (match q with|some _=>c+1|none=>c) w2→f.holds v w2→X (0+i) v w1∧Y (0+i) en v w2→P6 C l m fs e Inv ch len P (listed.setIfInBounds i true) (a.put o.dst v) w2:=by
    intro v w2 hrel hx hh hX
    rw [Nat.zero_add] at hX
    refine ⟨by simpa using hU.size,?_,?_,?_,?_,?_,?_,?_,?_⟩
    ·intro i2 o2 ho2 hl2 x hx2 hb2
     have hgx:listed.getD x.on false=true:=by
      by_cases hii:i=i2
      ·subst hii;rw [ho'] at ho2;cases ho2;exact kF x hx2 hb2
      rw [Array.getElem?_setIfInBounds_ne hii] at hl2;exact hU.closed i2 o2 ho2 hl2 x hx2 hb2
     have Ya:=kE hgx
     rw [Array.getD_eq_getD_getElem?]
     by_cases hxi:i=x.on
     ·rw [← hxi,Array.getElem?_setIfInBounds_self];simp [hU.size,hil]
     rw [Array.getElem?_setIfInBounds_ne hxi,Ya];rfl
    ·refine ⟨_,?_,hx,fun j p hj=>?_⟩
     ·cases q with
      | none=>exact Ut
      | some p=>have:=hpc p rfl;have:=(PK i p o hqi ho').1;show c+1≤len;omega
     by_cases hji:i=j
     ·subst hji
      rw [hqi] at hj;cases hj
      have:=hpc p rfl
      rw [Array.getElem?_setIfInBounds_self]
      simp only [hU.size,hil,if_true,true_iff]
      omega
     rw [Array.getElem?_setIfInBounds_ne hji,hcc j p hj]
     cases q with
     | none=>exact Iff.rfl
     | some p2 =>
      have h3:=hpc p2 rfl
      have hne:p≠p2:=fun e=>hji (X9 i j p2 hqi (e▸hj))
      show p<c↔p<c+1
      omega
    ·cases o.dst <;> exact hU.defers
    ·cases o.dst <;> simp [Act.put,hU.jy]
    ·intro s u hs hno
     have h0:=hU.base s u hs hno
     cases hd:o.dst with
     | none=>exact h0
     | some d =>
      have hne:d≠s:=fun e=>hno i o him ho' (by rw [hd,e])
      simp only [Act.put]
      rw [Array.getElem?_setIfInBounds_ne hne];exact h0
    ·intro j hj hjl
     rw [Array.getElem?_setIfInBounds_ne (by omega)];exact hU.tail j hj hjl
    ·intro j oj fj hj hoj hfj hlj
     by_cases hji:i=j
     ·subst hji
      rw [ho'] at hoj;cases hoj
      rw [hfi] at hfj;cases hfj
      refine ⟨v,fun d hd=>?_,hh⟩
      have hlt:=CO i o ho'
      rw [hd] at hlt
      have hlt':d<C.n:=by simpa [gK,Nat.blt_eq] using hlt
      rw [hd]
      simp only [Act.put]
      rw [Array.getElem?_setIfInBounds_self];simp [hU.jy,hlt']
     rw [Array.getElem?_setIfInBounds_ne hji] at hlj
     obtain ⟨u,hu1,hu2⟩:=hU.done j oj fj hj hoj hfj hlj
     refine ⟨u,fun d hd=>?_,nU hst j fj hfj _ _ _ hrel hu2⟩
     have:=hu1 d hd
     cases hod:o.dst with
     | none=>exact this
     | some d' =>
      have hne:d'≠d:=fun e=>CP i j o oj him hj hji ho' hoj d' hod (by rw [hd,e])
      simp only [Act.put]
      rw [Array.getElem?_setIfInBounds_ne hne];exact this
    intro i2 j2 oi oj hi2 hj2 ho1 ho2 hl1 hl2 hij
    have ad6:∀ d,o.dst=some d→d<C.n:=fun d hd=>by
     have hlt:=CO i o ho'
     rw [hd] at hlt
     simpa [gK,Nat.blt_eq] using hlt
    have hnew:∀ d,o.dst=some d→(a.put o.dst v).tmps[d]?=some v:=fun d hd=>by
     rw [hd];simp only [Act.put]
     rw [Array.getElem?_setIfInBounds_self];simp [hU.jy,ad6 d hd]
    have hold:∀ (q:Nat) (oq:Oper) (d:Tmp),q<m→i≠q→l[q]?=some oq→oq.dst=some d→(a.put o.dst v).tmps[d]?=a.tmps[d]?:=fun q oq d hq hne hoq hdq=>by
     cases hod:o.dst with
     | none=>rfl
     | some d' =>
      have hne2:d'≠d:=fun e=>CP i q o oq him hq hne ho' hoq d' hod (by rw [hdq,e])
      simp only [Act.put]
      rw [Array.getElem?_setIfInBounds_ne hne2]
    by_cases h1:i=i2
    ·subst h1
     rw [ho'] at ho1;cases ho1
     have hne:i≠j2:=by omega
     rw [Array.getElem?_setIfInBounds_ne hne] at hl2
     have hfj:fs[j2]?=some (fs[j2]'(by omega)):=List.getElem?_eq_getElem (by omega)
     obtain ⟨u,hu1,hu2⟩:=hU.done j2 oj _ hj2 ho2 hfj hl2
     refine ⟨v,u,hnew,fun d hd=>by rw [hold j2 oj d hj2 hne ho2 hd];exact hu1 d hd,hP2 i j2 _ v u w1 w2 hij hfj hu2 hX.1 fun dd' aiC hmem=>?_⟩
     exact hli (bZ hA qp hU.size hU.closed j2 j2 oj (Nat.le_refl _) ho2 (hU.closed j2 oj ho2 hl2) i (xA j2 dd' aiC i hmem).2)
    by_cases h2:i=j2
    ·subst h2
     rw [ho'] at ho2;cases ho2
     rw [Array.getElem?_setIfInBounds_ne h1] at hl1
     have hfj:fs[i2]?=some (fs[i2]'(by omega)):=List.getElem?_eq_getElem (by omega)
     obtain ⟨u,hu1,hu2⟩:=hU.done i2 oi _ hi2 ho1 hfj hl1
     refine ⟨u,v,fun d hd=>by rw [hold i2 oi d hi2 h1 ho1 hd];exact hu1 d hd,hnew,hP1 i2 i _ u v w1 w2 en dd oi hij hfj hu2 hX.1 hX.2 hdi ho1 fun hmem di ad7=>?_⟩
     have hpm:=fB ho1 hfj hmem
     obtain ⟨u',hu'⟩:=Xp _ hpm di ad7
     rcases hlk di u' (xB hu') with h5|⟨_,h5⟩
     ·rw [hu1 di ad7] at h5;cases h5;exact hu'
     exact absurd ad7 (h5 _ hpm)
    rw [Array.getElem?_setIfInBounds_ne h1] at hl1
    rw [Array.getElem?_setIfInBounds_ne h2] at hl2
    obtain ⟨vi,vj,e1,e2,e3⟩:=hU.pair i2 j2 oi oj hi2 hj2 ho1 ho2 hl1 hl2 hij
    exact ⟨vi,vj,fun d hd=>by rw [hold i2 oi d hi2 h1 ho1 hd];exact e1 d hd,fun d hd=>by rw [hold j2 oj d hj2 h2 ho2 hd];exact e2 d hd,hPs _ _ _ _ _ _ hrel e3⟩
   unfold wpOpIn
   simp only [ho]
   rcases hOb with ⟨hw,hO⟩|⟨hw,hu,hJ,hXu⟩
   ·rw [if_pos (bY hfit hw)]
    exact hO a hfit _ _ (fun v w2 ⟨hx,hh,hX⟩=>ih _ _ _ (hnext v w2 hx.1 hx.2 hh hX) PL lu)
   rw [if_neg (by rw [bY hfit hw];simp)]
   exact ⟨fun _ _=>trivial,ih _ _ _ (hnext undef w1 hJ.1 hJ.2 hu hXu) PL lu⟩
 refine main l.length (Array.replicate l.length false) a0 _ ⟨by simp,fun i o ho hl=>?_,⟨0,Nat.zero_le _,h0,fun j p hj=>?_⟩,ha0.defers,ha0.sat.size,fun i v hi _=>ha0.sat.get i v hi,fun j _ hj=>by simp [hj],fun j o f _ hj _ hl=>?_,fun i j oi oj _ _ ho1 _ hl1 _ _=>?_⟩ (fun j hj=>by right;simp [hj]) ?_
 ·have hil:=(List.getElem?_eq_some_iff.1 ho).1
  simp [hil] at hl
 ·have hjl:j<l.length:=by have:=(List.getElem?_eq_some_iff.1 hj).1;omega
  simp [hjl]
 ·have hjl:=(List.getElem?_eq_some_iff.1 hj).1
  simp [hjl] at hl
 ·have hjl:=(List.getElem?_eq_some_iff.1 ho1).1
  simp [hjl] at hl1
 simp
def Yc (LT:List (Nat × Nat × Nat)) (Lk:Nat→Nat→Value→Value→World→Prop) (j:Nat) (en:Env) (v:Value) (w:World):Prop:=match LT.find? (fun t=>t.1 == j) with
 | some (_,i,d)=>∀ u,look en d=some u→Lk i j u v w
 | none=>True
def P8 (LT:List (Nat × Nat × Nat)) (Lk:Nat→Nat→Value→Value→World→Prop) (i j:Nat) (vi vj:Value) (w:World):Prop:=match LT.find? (fun t=>t.1 == j) with
 | some (_,i',_)=>i=i'→Lk i j vi vj w
 | none=>True
def aaG (l:List Oper) (ds:List (List Nat)) (LT:List (Nat × Nat × Nat)):Bool:=LT.all fun t=>(match ds[t.1]? with|some dd=>dd.contains t.2.1|none=>false) && ((l[t.2.1]?).bind (·.dst) == some t.2.2)
theorem UL {P Q R:Prop} (h:P∧Q) (r:R):P∧Q∧R:=⟨h.1,h.2,r⟩
theorem ObX.op {C:Cx} {ops:Array Oper} {e:Env} {o:Oper} {f:Fact} {w:World} {X:Value→World→World→Prop} {J:World→Prop} (hw:gQ ops e o=some true) (h:O C e o w (fun v w'=>J w'∧f.holds v w'∧X v w w')):ObX C ops e o f w X J:=.inl ⟨hw,h⟩
end
open Go.RowKit
def AL:Value→Option Nat
 | .pointer (some a)=>some a.block
 | _=>none
section
variable {C:Cx} {k:List It} {l:List Oper} {m:Nat} {fs:List Fact} {e:Env} {w:World} {S:List Nat} {e':Env} {Inv:Nat→World→Prop} {ch:List (Option Nat)}
def CW (M:List Nat) (i:Nat) (v:Value) (w:World):Prop:=match M.contains i with
 | true=>∀ b,(AL v)=some b→w.heap.size≤b
 | false=>True
def CX (M:List Nat) (i j:Nat) (vi vj:Value):Prop:=match M.contains i && M.contains j with
 | true=>∀ b,(AL vi)=some b→(AL vj)=some b→False
 | false=>True
theorem T.Yd {id:Nat} (PI:C.P.follows .mixedOrders=true) (m len:Nat) (S:List Nat) (he:zO e S=some e') (fs:List Fact) (ds:List (List Nat)) (ch:List (Option Nat)) (A:List (List Nat)) (M:List Nat) (LT:List (Nat × Nat × Nat)) (Lk:Nat→Nat→Value→Value→World→Prop) (Inv:Nat→World→Prop) (Rel:World→World→Prop)
  (hM:∀ i f v w,M.contains i=true→fs[i]?=some f→f.holds v w→∀ b,(AL v)=some b→b<w.heap.size) (hLs:∀ i j vi vj w w',Rel w w'→Lk i j vi vj w→Lk i j vi vj w')
  (hA:CG l A=true) (hok:zV C.n l m ds S A=true) (hch:iP A m ch len=true) (hlk:aaG l ds LT=true) (hlen:fs.length=m)
  (hst:CB Rel fs) (h0:Inv 0 w.drew) (hob:aaE C l fs e' Inv Rel (CW M) (Yc LT Lk) 0 (l.take m) fs ds ch)
  (hfin:∀ w1,Inv len w1→Bind w1 (bf l fs (List.range m)) (fun en=>Pairs l m (fun i j vi vj w=>CX M i j vi vj∧P8 LT Lk i j vi vj w) en w1→L C k l.toArray (l.drop m) (en++e) w1)) :
  T C (.code (.region id l.toArray true)::k) e w:=by
 have hlt:∀ t∈LT,(∃ dd,ds[t.1]?=some dd∧t.2.1∈dd)∧∃ o,l[t.2.1]?=some o∧o.dst=some t.2.2:=fun t ht=>by
  have h1:=List.all_eq_true.1 hlk t ht
  simp only [Bool.and_eq_true,beq_iff_eq] at h1
  obtain ⟨h2,h3⟩:=h1
  refine ⟨?_,?_⟩
  ·cases hq:ds[t.1]? with
   | none=>simp [hq] at h2
   | some dd=>simp only [hq] at h2;exact ⟨dd,rfl,by simpa using h2⟩
  cases hq:l[t.2.1]? with
  | none=>simp [hq] at h3
  | some o=>simp only [hq,Option.bind_some] at h3;exact ⟨o,rfl,h3⟩
 refine T.aiB PI m len S he fs ds ch A Inv Rel (CW M) (Yc LT Lk) (fun i j vi vj w=>CX M i j vi vj∧P8 LT Lk i j vi vj w) ?_ ?_ ?_ hA hok hch hlen hst h0 hob hfin
 ·rintro i j vi vj w w' hr ⟨h1,h2⟩
  refine ⟨h1,?_⟩
  unfold P8 at h2 ⊢
  split
  ·rename_i hq;rw [hq] at h2;exact fun e=>hLs _ _ _ _ _ _ hr (h2 e)
  trivial
 ·intro i j f vi vj w1 w2 en dd oi hij hf hh hX hY hdd hoi hin
  refine ⟨?_,?_⟩
  ·unfold CX
   cases hc:(M.contains i && M.contains j)
   ·trivial
   intro b h1 h2
   simp only [Bool.and_eq_true] at hc
   unfold CW at hX
   rw [hc.2] at hX
   have h3:=hM i f vi w1 hc.1 hf hh b h1
   have h4:w1.heap.size≤b:=hX b h2
   omega
  unfold P8
  unfold Yc at hY
  split
  ·rename_i t i' d hq
   rw [hq] at hY
   rintro rfl
   have hm:=List.mem_of_find?_eq_some hq
   have hj:t=j:=by have:=List.find?_some hq;simpa using this
   subst hj
   obtain ⟨⟨dd',hd1,hd2⟩,o,ho1,ho2⟩:=hlt _ hm
   simp only at hd1 hd2 ho1 ho2
   rw [hdd] at hd1;cases hd1
   rw [hoi] at ho1;cases ho1
   exact hY vi (hin hd2 d ho2)
  trivial
 intro i j f vi vj w1 w2 hij hf hh hX hno
 refine ⟨?_,?_⟩
 ·unfold CX
  cases hc:(M.contains i && M.contains j)
  ·trivial
  intro b h1 h2
  simp only [Bool.and_eq_true] at hc
  unfold CW at hX
  rw [hc.1] at hX
  have h3:=hM j f vj w1 hc.2 hf hh b h2
  have h4:w1.heap.size≤b:=hX b h1
  omega
 unfold P8
 split
 ·rename_i t i' d hq
  rintro rfl
  have hm:=List.mem_of_find?_eq_some hq
  have hj:t=j:=by have:=List.find?_some hq;simpa using this
  subst hj
  obtain ⟨⟨dd',hd1,hd2⟩,_⟩:=hlt _ hm
  exact absurd hd2 (hno dd' hd1)
 trivial
end
open Go.RowKit
abbrev KH:=Nat→Option Value
def upV (σ:KH) (i:Nat) (v:Value):KH:=fun j=>bif Nat.beq i j then some v else σ j
theorem KI (σ:KH) (i:Nat) (v:Value):upV σ i v i=some v:=by simp [upV]
theorem KJ (σ:KH) {i j:Nat} (v:Value) (h:i≠j):upV σ i v j=σ j:=by simp [upV,jR h]
def Links (l:List Oper) (σ:KH) (en:Env) (ds:List Nat):Prop:=∀ j∈ds,∀ oj d,l[j]?=some oj→oj.dst=some d→look en d=σ j
def ObG (C:Cx) (ops:Array Oper) (e:Env) (o:Oper) (f:Fact) (w:World) (J:Value→World→Prop):Prop :=
 (gQ ops e o=some true∧O C e o w (fun v w'=>J v w'∧f.holds v w'))∨(gQ ops e o=some false∧f.holds undef w∧J undef w)
theorem ObG.op {C:Cx} {ops:Array Oper} {e:Env} {o:Oper} {f:Fact} {w:World} {J:Value→World→Prop} (hw:gQ ops e o=some true) (h:O C e o w (fun v w'=>J v w'∧f.holds v w')):ObG C ops e o f w J:=.inl ⟨hw,h⟩
def ac5 (C:Cx) (l:List Oper) (fs:List Fact) (e:Env) (Inv:Nat→KH→World→Prop) (Rel:World→World→Prop):Nat→List Oper→List Fact→List (List Nat)→List (Option Nat)→Prop
 | i,o::os,f::fr,ds::dr,none::ch=>(∀ c σ w1,Inv c σ w1→σ i=none→Bind w1 (bf l fs ds) (fun en=>Links l σ en ds→ObG C l.toArray (en++e) o f w1 (fun v w'=>Rel w1 w'∧Inv c (upV σ i v) w')))∧ac5 C l fs e Inv Rel (i+1) os fr dr ch
 | i,o::os,f::fr,ds::dr,some p::ch=>(∀ σ w1,Inv p σ w1→σ i=none→Bind w1 (bf l fs ds) (fun en=>Links l σ en ds→ObG C l.toArray (en++e) o f w1 (fun v w'=>Rel w1 w'∧Inv (p+1) (upV σ i v) w')))∧ac5 C l fs e Inv Rel (i+1) os fr dr ch
 | _,_,_,_,_=>True
theorem IV {C:Cx} {l:List Oper} {fs:List Fact} {e:Env} {Inv:Nat→KH→World→Prop} {Rel:World→World→Prop} : ∀ {os:List Oper} {fr:List Fact} {dr:List (List Nat)} {ch:List (Option Nat)} {i0:Nat},ac5 C l fs e Inv Rel i0 os fr dr ch→∀ (i:Nat) (o:Oper) (f:Fact) (ds:List Nat) (q:Option Nat),os[i]?=some o→fr[i]?=some f→dr[i]?=some ds→ch[i]?=some q →
  ∀ c σ w1,Inv c σ w1→(∀ p,q=some p→p=c)→σ (i0+i)=none→Bind w1 (bf l fs ds) (fun en=>Links l σ en ds→ObG C l.toArray (en++e) o f w1 (fun v w'=>Rel w1 w'∧Inv (match q with|some _=>c+1|none=>c) (upV σ (i0+i) v) w'))
 | o::os,f::fr,ds::dr,none::ch,i0,h,0,o',f',ds',q,ho,hf,hd,hq=>by
  simp at ho hf hd hq;subst ho hf hd hq;exact fun c σ w1 hI _ hn=>h.1 c σ w1 hI hn
 | o::os,f::fr,ds::dr,some p::ch,i0,h,0,o',f',ds',q,ho,hf,hd,hq=>by
  simp at ho hf hd hq;subst ho hf hd hq
  intro c σ w1 hI hp hn
  obtain rfl:=hp p rfl
  exact h.1 σ w1 hI hn
 | o::os,f::fr,ds::dr,none::ch,i0,h,i+1,o',f',ds',q,ho,hf,hd,hq=>by
  rw [show i0+(i+1)=i0+1+i by omega]
  exact IV h.2 i o' f' ds' q (by simpa using ho) (by simpa using hf) (by simpa using hd) (by simpa using hq)
 | o::os,f::fr,ds::dr,some p::ch,i0,h,i+1,o',f',ds',q,ho,hf,hd,hq=>by
  rw [show i0+(i+1)=i0+1+i by omega]
  exact IV h.2 i o' f' ds' q (by simpa using ho) (by simpa using hf) (by simpa using hd) (by simpa using hq)
 | [],_,_,_,_,_,i,_,_,_,_,ho,_,_,_=>by simp at ho
 | _::_,[],_,_,_,_,i,_,_,_,_,_,hf,_,_=>by simp at hf
 | _::_,_::_,[],_,_,_,i,_,_,_,_,_,_,hd,_=>by simp at hd
 | _::_,_::_,_::_,[],_,_,i,_,_,_,_,_,_,_,hq=>by simp at hq
section
variable {C:Cx} {k:List It} {l:List Oper} {m:Nat} {fs:List Fact} {e:Env} {w:World} {S:List Nat} {e':Env} {Inv:Nat→KH→World→Prop} {ch:List (Option Nat)}
structure P9 (C:Cx) (l:List Oper) (m:Nat) (fs:List Fact) (e:Env) (Inv:Nat→KH→World→Prop) (ch:List (Option Nat)) (len:Nat) (listed:Array Bool) (a:Act) (w1:World):Prop where
 size:listed.size=l.length
 closed:∀ (i:Nat) (o:Oper),l[i]?=some o→listed[i]?=some true→∀ x∈o.after,Region.binds .any x=true→listed.getD x.on false=true
 inv:∃ (c:Nat) (σ:KH),c≤len∧Inv c σ w1∧(∀ j p:Nat,ch[j]?=some (some p)→(listed[j]?=some true↔p<c))∧(∀ j,¬ listed[j]?=some true→σ j=none)∧(∀ (j:Nat) (o:Oper),j<m→l[j]?=some o→listed[j]?=some true→∃ v,σ j=some v∧∀ d,o.dst=some d→a.tmps[d]?=some v)
 defers:a.defers=C.D
 jy:a.tmps.size=C.n
 base:∀ (i:Nat) (v:Value),look e i=some v→(∀ (j:Nat) (o:Oper),j<m→l[j]?=some o→o.dst≠some i)→a.tmps[i]?=some v
 tail:∀ j,m≤j→j<l.length→listed[j]?=some false
 done:∀ (j:Nat) (o:Oper) (f:Fact),j<m→l[j]?=some o→fs[j]?=some f→listed[j]?=some true→∃ v,(∀ d,o.dst=some d→a.tmps[d]?=some v)∧f.holds v w1
theorem KL {a:Act} {σ:KH} {en e0:Env} {ds:List Nat} (hlen:fs.length=m) (hds:∀ j∈ds,j<m) (Xp:∀ p∈bf l fs ds,∀ d,p.1=some d→∃ v,look en d=some v)
  (hlk:∀ i v,look (en++e0) i=some v→a.tmps[i]?=some v∨(look e0 i=some v∧∀ p∈bf l fs ds,p.1≠some i))
  (hσ:∀ j∈ds,∀ o,l[j]?=some o→∃ v,σ j=some v∧∀ d,o.dst=some d→a.tmps[d]?=some v):Links l σ en ds:=by
 intro j hj oj d hoj hd
 obtain ⟨v,hv1,hv2⟩:=hσ j hj oj hoj
 have hfj:fs[j]?=some (fs[j]'(by have:=hds j hj;omega)):=List.getElem?_eq_getElem _
 have hpm:=fB hoj hfj hj
 obtain ⟨u,hu⟩:=Xp _ hpm d hd
 rcases hlk d u (xB hu) with h5|⟨_,h5⟩
 ·rw [hv2 d hd] at h5;cases h5;rw [hu,hv1]
 exact absurd hd (h5 _ hpm)
theorem Qa {len:Nat} {listed:Array Bool} {a:Act} {w1:World} (hlen:fs.length=m) (hml:m≤l.length) (hfin:∀ σ w1,Inv len σ w1→Bind w1 (bf l fs (List.range m)) (fun en=>Links l σ en (List.range m)→L C k l.toArray (l.drop m) (en++e) w1))
  (EU:∀ q:Nat,q<len→∃ j:Nat,j<m∧ch[j]?=some (some q))
  (hU:P9 C l m fs e Inv ch len listed a w1) (hall:∀ j,j<m→listed[j]?=some true):∃ en,Fits C (en++e) a∧L C k l.toArray (l.drop m) (en++e) w1:=by
 obtain ⟨c,σ,Ut,hI,hcc,hno,hσ⟩:=hU.inv
 have PG:c=len:=by
  rcases Nat.lt_or_ge c len with h|h
  ·obtain ⟨j,hjm,hj⟩:=EU c h
   have:=(hcc j c hj).1 (hall j hjm)
   omega
  omega
 subst PG
 obtain ⟨en,h1,h2,h3⟩:=qE (a:=a) (e:=e) _ _ (hfin σ w1 hI) (fun p hp=>by
  obtain ⟨j,o,hj,ho,hd,hf⟩:=dB hp
  have hjm:j<m:=by simpa using hj
  obtain ⟨v,hv1,hv2⟩:=hU.done j o p.2 hjm ho hf (hall j hjm)
  exact ⟨v,fun d hdd=>hv1 d (by rw [hd];exact hdd),hv2⟩)
 have aaH:Links l σ en (List.range m):=KL hlen (fun j hj=>by simpa using hj) h3 h2 (fun j hj o ho=>hσ j o (by simpa using hj) ho (hall j (by simpa using hj)))
 refine ⟨en,⟨⟨hU.jy,fun i v hi=>?_⟩,hU.defers⟩,h1 aaH⟩
 rcases h2 i v hi with h|⟨h3,h4⟩
 ·exact h
 refine hU.base i v h3 (fun j o hj ho hd=>?_)
 have hf:fs[j]?=some (fs[j]'(by omega)):=List.getElem?_eq_getElem (by omega)
 exact h4 _ (fB ho hf (by simpa using hj)) hd
theorem T.ac6 {id:Nat} (PI:C.P.follows .mixedOrders=true) (m len:Nat) (S:List Nat) (he:zO e S=some e') (fs:List Fact) (ds:List (List Nat)) (ch:List (Option Nat)) (A:List (List Nat)) (Inv:Nat→KH→World→Prop) (Rel:World→World→Prop) (hA:CG l A=true) (hok:zV C.n l m ds S A=true) (hch:iP A m ch len=true) (hlen:fs.length=m)
  (hst:CB Rel fs) (h0:Inv 0 (fun _=>none) w.drew) (hob:ac5 C l fs e' Inv Rel 0 (l.take m) fs ds ch)
  (hfin:∀ σ w1,Inv len σ w1→Bind w1 (bf l fs (List.range m)) (fun en=>Links l σ en (List.range m)→L C k l.toArray (l.drop m) (en++e) w1)) :
  T C (.code (.region id l.toArray true)::k) e w:=by
 simp only [zV,Bool.and_eq_true,decide_eq_true_eq] at hok
 obtain ⟨⟨⟨⟨⟨⟨⟨hto,hml⟩,hdl⟩,hdst⟩,hdis⟩,X8⟩,hS⟩,htl⟩:=hok
 simp only [iP,Bool.and_eq_true,decide_eq_true_eq] at hch
 obtain ⟨⟨⟨hcl,hc1⟩,hc2⟩,hc3⟩:=hch
 have qp:∀ i o,l[i]?=some o→∀ x∈o.after,Region.binds .any x=true→x.on<i:=by
  intro i o ho x hx hb
  have h1:=List.all_eq_true.1 hto (o,i) (by rw [List.mem_zipIdx_iff_getElem?];exact ho)
  have h2:=List.all_eq_true.1 h1 x (Array.mem_toList_iff.2 hx)
  simpa [hb] using h2
 have IK:∀ i,m≤i→i<l.length→∀ j,j<i→wt A i j=true:=by
  intro i hi hil j hj
  have h1:=List.all_eq_true.1 htl (l[i],i) (by rw [List.mem_zipIdx_iff_getElem?];exact List.getElem?_eq_getElem hil)
  have h3:¬ i<m:=by omega
  simp only [h3,decide_false,Bool.false_or] at h1
  exact List.all_eq_true.1 h1 j (by simpa using hj)
 have CO:∀ (i:Nat) (o:Oper),l[i]?=some o→gK C.n o.dst=true:=fun i o ho=>List.all_eq_true.1 hdst o (List.mem_of_getElem? ho)
 have CP:∀ (i j:Nat) (oi oj:Oper),i<m→j<m→i≠j→l[i]?=some oi→l[j]?=some oj→∀ d,oi.dst=some d→oj.dst≠some d:=by
  intro i j oi oj hi hj hne ho1 ho2 d hd1 hd2
  have h1:=List.all_eq_true.1 hdis j (by simpa using hj)
  have h2:=List.all_eq_true.1 h1 i (by simpa using hi)
  have hb:(i == j)=false:=by simpa using hne
  simp [hb,ho1,ho2,hd1,hd2] at h2
 have xA:∀ (i:Nat) (dd:List Nat),ds[i]?=some dd→∀ j∈dd,j<m∧wt A i j=true:=by
  intro i dd hd j hj
  have h1:=List.all_eq_true.1 X8 (dd,i) (by rw [List.mem_zipIdx_iff_getElem?];exact hd)
  have h2:=List.all_eq_true.1 h1 j hj
  simpa using h2
 have hS':∀ s∈S,∀ (j:Nat) (o:Oper),j<m→l[j]?=some o→o.dst≠some s:=by
  intro s hs j o hj ho hd
  have h1:=List.all_eq_true.1 hS s hs
  simp only [Bool.not_eq_true',List.contains_eq_mem,decide_eq_false_iff_not] at h1
  exact h1 (List.mem_filterMap.2 ⟨j,by simpa using hj,by simp [ho,hd]⟩)
 have PK:∀ (i p:Nat) (o:Oper),ch[i]?=some (some p)→l[i]?=some o→p<len∧∀ q,q<p→∃ j,ch[j]?=some (some q)∧wt A i j=true:=by
  intro i p o hp ho
  have hi:i<ch.length:=(List.getElem?_eq_some_iff.1 hp).1
  have h1:=List.all_eq_true.1 hc1 i (by simpa using hi)
  simp only [hp,Bool.and_eq_true,decide_eq_true_eq] at h1
  refine ⟨h1.1,fun q hq=>?_⟩
  have h2:=List.all_eq_true.1 h1.2 q (by simp;omega)
  simp only [hq,decide_true,Bool.not_true,Bool.false_or] at h2
  obtain ⟨j,hj,h3⟩:=List.any_eq_true.1 h2
  simp only [Bool.and_eq_true,beq_iff_eq] at h3
  exact ⟨j,h3.1,h3.2⟩
 have X9:∀ (i j p:Nat),ch[i]?=some (some p)→ch[j]?=some (some p)→i=j:=by
  intro i j p hi hj
  have hil:i<ch.length:=(List.getElem?_eq_some_iff.1 hi).1
  have hjl:j<ch.length:=(List.getElem?_eq_some_iff.1 hj).1
  have h1:=List.all_eq_true.1 (List.all_eq_true.1 hc2 i (by simpa using hil)) j (by simpa using hjl)
  simp only [hi,hj,beq_self_eq_true,Bool.not_true,Bool.false_or,beq_iff_eq] at h1
  exact h1
 have EU:∀ q:Nat,q<len→∃ j:Nat,j<m∧ch[j]?=some (some q):=by
  intro q hq
  have h1:=List.all_eq_true.1 hc3 q (by simpa using hq)
  obtain ⟨j,hj1,hj⟩:=List.any_eq_true.1 h1
  exact ⟨j,by simpa [hcl] using hj1,by simpa using hj⟩
 intro a0 ha0
 show (Code.region id l.toArray true).wpIn _ _ _ _ _ _
 refine wpIn_region_any PI ?_
 have hsz:l.toArray.size=l.length:=by simp
 rw [hsz]
 have main:∀ (fuel:Nat) (listed:Array Bool) (a:Act) (w1:World),P9 C l m fs e Inv ch len listed a w1→(∀ j,j<l.length→listed[j]?=some true∨listed[j]?=some false)→(listed.toList.filter (! ·)).length≤fuel →
   wpAnyIn (FW C.r) 0 C.P .any l.toArray (run C k) fuel listed a w1:=by
  intro fuel
  induction fuel with
  | zero =>
   intro listed a w1 hU htf hcnt
   have hall:∀ j,j<l.length→listed[j]?=some true:=by
    intro j hj
    rcases htf j hj with h|h
    ·exact h
    have hm:false∈listed.toList:=List.mem_of_getElem? (i:=j) (by simpa using h)
    have:false∈listed.toList.filter (! ·):=List.mem_filter.2 ⟨hm,rfl⟩
    rw [List.eq_nil_of_length_eq_zero (Nat.le_zero.1 hcnt)] at this
    cases this
   have hm:m=l.length:=by
    rcases Nat.lt_or_ge m l.length with h|h
    ·have h1:=hU.tail m (Nat.le_refl _) h
     rw [hall m h] at h1;cases h1
    omega
   obtain ⟨en,hfit,hL⟩:=Qa hlen hml hfin EU hU (fun j hj=>hall j (by omega))
   exact gB hA IK qp 0 l.length listed a w1 (by omega) (by omega) (by rw [hU.size]) hall (fun j h1 h2=>by omega) (by rw [hm] at hL;exact hL a hfit) 0 (Nat.le_refl _)
  | succ fuel ih =>
   intro listed a w1 hU htf hcnt
   by_cases hall:∀ j,j<m→listed[j]?=some true
   ·obtain ⟨en,hfit,hL⟩:=Qa hlen hml hfin EU hU hall
    have lu:l.length-m≤fuel+1:=by
     have:=iE listed.toList m (fun j h1 h2=>by have:=hU.tail j h1 (by have:=hU.size;simpa [this] using h2);simpa using this)
     have hsz':=hU.size
     simp at this
     omega
    exact gB hA IK qp (l.length-m) m listed a w1 (by omega) (Nat.le_refl _) (by rw [hU.size]) hall hU.tail (hL a hfit) (fuel+1) lu
   refine ⟨fun h0=>?_,fun i hi=>?_⟩
   ·exfalso
    obtain ⟨j,hj1,hj2,hj3⟩:=gy hall
    have hjl:j<l.length:=by omega
    have hmem:j∈Region.ready .any l.toArray listed:=by
     have hfalse:listed[j]?=some false:=by (rcases htf j hjl with h|h;exact absurd h hj2;exact h)
     refine mem_ready.2 ⟨by rw [Array.getD_eq_getD_getElem?,hfalse];rfl,l[j],by simp [hjl],?_⟩
     intro x hx hb
     have:=qp j _ (List.getElem?_eq_getElem hjl) x hx hb
     rw [Array.getD_eq_getD_getElem?,hj3 _ this];rfl
    rw [h0] at hmem;cases hmem
   obtain ⟨h1,o,ho,kF⟩:=mem_ready.1 hi
   have ho':l[i]?=some o:=by simpa using ho
   have hil:i<l.length:=(List.getElem?_eq_some_iff.1 ho').1
   have him:i<m:=by
    rcases Nat.lt_or_ge i m with h|h
    ·exact h
    exfalso
    obtain ⟨j,hj1,hj2,_⟩:=gy hall
    exact hj2 (bZ hA qp hU.size hU.closed i i o (Nat.le_refl _) ho' kF j (IK i h hil j (by omega)))
   obtain ⟨f,hfi⟩:∃ f,fs[i]?=some f:=⟨fs[i]'(by omega),List.getElem?_eq_getElem (by omega)⟩
   obtain ⟨dd,hdi⟩:∃ dd,ds[i]?=some dd:=⟨ds[i]'(by omega),List.getElem?_eq_getElem (by omega)⟩
   obtain ⟨q,hqi⟩:∃ q,ch[i]?=some q:=⟨ch[i]'(by omega),List.getElem?_eq_getElem (by omega)⟩
   obtain ⟨c,σ,Ut,hI,hcc,hno,hσ⟩:=hU.inv
   have hli:¬ listed[i]?=some true:=fun h=>by rw [Array.getD_eq_getD_getElem?,h] at h1;simp at h1
   have hpc:∀ p,q=some p→p=c:=by
    rintro p rfl
    have hge:¬ p<c:=fun h=>hli ((hcc i p hqi).2 h)
    have hle:p≤c:=Classical.byContradiction fun hn=>by
     obtain ⟨j,hj,hw⟩:=(PK i p o hqi ho').2 c (by omega)
     have:=(hcc j c hj).1 (bZ hA qp hU.size hU.closed i i o (Nat.le_refl _) ho' kF j hw)
     omega
    omega
   have hB:=IV hob i o f dd q (by rw [List.getElem?_take,if_pos him];exact ho') hfi hdi hqi c σ w1 hI hpc (by rw [Nat.zero_add];exact hno i hli)
   rw [Nat.zero_add] at hB
   have hbase:Fits C e' a:=⟨⟨hU.jy,fun s v hs=>by
    obtain ⟨hs1,hs2⟩:=jZ he s v hs
    exact hU.base s v hs2 (fun j oj hj hoj=>hS' s hs1 j oj hj hoj)⟩,hU.defers⟩
   obtain ⟨en,aiD,hlk,Xp⟩:=qE (a:=a) (e:=e') _ _ hB (fun p hp=>by
    obtain ⟨j,oj,hj1,hj2,hj3,hj4⟩:=dB hp
    obtain ⟨hjm,hjw⟩:=xA i dd hdi j hj1
    obtain ⟨v,hv1,hv2⟩:=hU.done j oj p.2 hjm hj2 hj4 (bZ hA qp hU.size hU.closed i i o (Nat.le_refl _) ho' kF j hjw)
    exact ⟨v,fun d hd=>hv1 d (by rw [hj3];exact hd),hv2⟩)
   have hOb:=aiD (KL hlen (fun j hj=>(xA i dd hdi j hj).1) Xp hlk (fun j hj oj hoj=>hσ j oj (xA i dd hdi j hj).1 hoj (bZ hA qp hU.size hU.closed i i o (Nat.le_refl _) ho' kF j (xA i dd hdi j hj).2)))
   have hfit:Fits C (en++e') a:=⟨⟨hU.jy,fun s v hs=>by
    rcases hlk s v hs with h|⟨h,_⟩
    ·exact h
    exact hbase.sat.get s v h⟩,hU.defers⟩
   have lu:((listed.setIfInBounds i true).toList.filter (! ·)).length≤fuel:=by
    have:=count_set (listed:=listed) (i:=i) (by rcases htf i hil with h|h;exact absurd h hli;exact h)
    omega
   have PL:∀ j,j<l.length→(listed.setIfInBounds i true)[j]?=some true∨(listed.setIfInBounds i true)[j]?=some false:=by
    intro j hj
    by_cases hji:i=j
    ·subst hji;left;rw [Array.getElem?_setIfInBounds_self];simp [hU.size,hil]
    rw [Array.getElem?_setIfInBounds_ne hji];exact htf j hj
   have hnext:∀ v w2,Rel w1 w2→Inv (match q with|some _=>c+1|none=>c) (upV σ i v) w2→f.holds v w2→P9 C l m fs e Inv ch len (listed.setIfInBounds i true) (a.put o.dst v) w2:=by
    intro v w2 hrel hx hh
    refine ⟨by simpa using hU.size,?_,?_,?_,?_,?_,?_,?_⟩
    ·intro i2 o2 ho2 hl2 x hx2 hb2
     have hgx:listed.getD x.on false=true:=by
      by_cases hii:i=i2
      ·subst hii;rw [ho'] at ho2;cases ho2;exact kF x hx2 hb2
      rw [Array.getElem?_setIfInBounds_ne hii] at hl2;exact hU.closed i2 o2 ho2 hl2 x hx2 hb2
     have Ya:=kE hgx
     rw [Array.getD_eq_getD_getElem?]
     by_cases hxi:i=x.on
     ·rw [← hxi,Array.getElem?_setIfInBounds_self];simp [hU.size,hil]
     rw [Array.getElem?_setIfInBounds_ne hxi,Ya];rfl
    ·have ad6:∀ d,o.dst=some d→d<C.n:=fun d hd=>by
      have hlt:=CO i o ho'
      rw [hd] at hlt
      simpa [gK,Nat.blt_eq] using hlt
     refine ⟨_,_,?_,hx,fun j p hj=>?_,fun j hj=>?_,fun j oj hj hoj hlj=>?_⟩
     ·cases q with
      | none=>exact Ut
      | some p=>have:=hpc p rfl;have:=(PK i p o hqi ho').1;show c+1≤len;omega
     ·by_cases hji:i=j
      ·subst hji
       rw [hqi] at hj;cases hj
       have:=hpc p rfl
       rw [Array.getElem?_setIfInBounds_self]
       simp only [hU.size,hil,if_true,true_iff]
       omega
      rw [Array.getElem?_setIfInBounds_ne hji,hcc j p hj]
      cases q with
      | none=>exact Iff.rfl
      | some p2 =>
       have h3:=hpc p2 rfl
       have hne:p≠p2:=fun e=>hji (X9 i j p2 hqi (e▸hj))
       show p<c↔p<c+1
       omega
     ·by_cases hji:i=j
      ·subst hji;exact absurd (by rw [Array.getElem?_setIfInBounds_self];simp [hU.size,hil]) hj
      rw [KJ _ _ hji]
      rw [Array.getElem?_setIfInBounds_ne hji] at hj
      exact hno j hj
     by_cases hji:i=j
     ·subst hji
      rw [ho'] at hoj;cases hoj
      refine ⟨v,KI _ _ _,fun d hd=>?_⟩
      rw [hd];simp only [Act.put]
      rw [Array.getElem?_setIfInBounds_self];simp [hU.jy,ad6 d hd]
     rw [Array.getElem?_setIfInBounds_ne hji] at hlj
     obtain ⟨u,hu1,hu2⟩:=hσ j oj hj hoj hlj
     refine ⟨u,by rw [KJ _ _ hji];exact hu1,fun d hd=>?_⟩
     have:=hu2 d hd
     cases hod:o.dst with
     | none=>exact this
     | some d' =>
      have hne:d'≠d:=fun e=>CP i j o oj him hj hji ho' hoj d' hod (by rw [hd,e])
      simp only [Act.put]
      rw [Array.getElem?_setIfInBounds_ne hne];exact this
    ·cases o.dst <;> exact hU.defers
    ·cases o.dst <;> simp [Act.put,hU.jy]
    ·intro s u hs hno
     have h0:=hU.base s u hs hno
     cases hd:o.dst with
     | none=>exact h0
     | some d =>
      have hne:d≠s:=fun e=>hno i o him ho' (by rw [hd,e])
      simp only [Act.put]
      rw [Array.getElem?_setIfInBounds_ne hne];exact h0
    ·intro j hj hjl
     rw [Array.getElem?_setIfInBounds_ne (by omega)];exact hU.tail j hj hjl
    intro j oj fj hj hoj hfj hlj
    by_cases hji:i=j
    ·subst hji
     rw [ho'] at hoj;cases hoj
     rw [hfi] at hfj;cases hfj
     refine ⟨v,fun d hd=>?_,hh⟩
     have hlt:=CO i o ho'
     rw [hd] at hlt
     have hlt':d<C.n:=by simpa [gK,Nat.blt_eq] using hlt
     rw [hd]
     simp only [Act.put]
     rw [Array.getElem?_setIfInBounds_self];simp [hU.jy,hlt']
    rw [Array.getElem?_setIfInBounds_ne hji] at hlj
    obtain ⟨u,hu1,hu2⟩:=hU.done j oj fj hj hoj hfj hlj
    refine ⟨u,fun d hd=>?_,nU hst j fj hfj _ _ _ hrel hu2⟩
    have:=hu1 d hd
    cases hod:o.dst with
    | none=>exact this
    | some d' =>
     have hne:d'≠d:=fun e=>CP i j o oj him hj hji ho' hoj d' hod (by rw [hd,e])
     simp only [Act.put]
     rw [Array.getElem?_setIfInBounds_ne hne];exact this
   unfold wpOpIn
   simp only [ho]
   rcases hOb with ⟨hw,hO⟩|⟨hw,hu,hJ⟩
   ·rw [if_pos (bY hfit hw)]
    exact hO a hfit _ _ (fun v w2 ⟨hx,hh⟩=>ih _ _ _ (hnext v w2 hx.1 hx.2 hh) PL lu)
   rw [if_neg (by rw [bY hfit hw];simp)]
   exact ⟨fun _ _=>trivial,ih _ _ _ (hnext undef w1 hJ.1 hJ.2 hu) PL lu⟩
 refine main l.length (Array.replicate l.length false) a0 _ ⟨by simp,fun i o ho hl=>?_,⟨0,_,Nat.zero_le _,h0,fun j p hj=>?_,fun _ _=>rfl,fun j o hj ho hl=>?_⟩,ha0.defers,ha0.sat.size,fun i v hi _=>ha0.sat.get i v hi,fun j _ hj=>by simp [hj],fun j o f _ hj _ hl=>?_⟩ (fun j hj=>by right;simp [hj]) ?_
 ·have hil:=(List.getElem?_eq_some_iff.1 ho).1
  simp [hil] at hl
 ·have hjl:j<l.length:=by have:=(List.getElem?_eq_some_iff.1 hj).1;omega
  simp [hjl]
 ·have hjl:=(List.getElem?_eq_some_iff.1 ho).1
  simp [hjl] at hl
 ·have hjl:=(List.getElem?_eq_some_iff.1 hj).1
  simp [hjl] at hl
 simp
end
open Go.RowKit
section
variable {C:Cx} {k:List It} {e:Env} {w:World} {K:Value→World→Prop} {d:Option Tmp} {ty:TypeId} {pos:String} {aft:Array Edge} {g:Option (Nat × Bool)}
theorem vV {P:Program} {l₀:Nat} {r₀:Loop} (h:w.heap[l₀]?=some (.loop r₀)) (fn:FuncId) (tmps:Array Value) (ps:Array Tmp) (assign body:Code) :
  (Instr.enterLoop fn tmps ps assign body (some l₀)).run P w = .ok (w.heap.size,[]) (w.alloc (.loop { state:=.ready,pending:=none,fn,tmps,params:=ps,assign,body,defers:=r₀.defers })):=by
 unfold Instr.enterLoop
 simp only [Sem.run_bind,run_getLoop h,run_newObj_alloc,Result.andThen,Sem.run_pure]
theorem T.MW {σ:Type} (I:σ→(Nat→Prop)→World→Prop) (X:Code→(Nat→Prop)→World→Prop) {g:Operand} {p:Tmp} {assign body:Code} {gf:FuncId} {lb:Array Value} {Next:σ→Value→σ→Prop} {s0 sE:σ}
  {Inv:World→Prop} {S0:Nat→Prop} {Pre:World→Prop} {e1:Value→Nat→Env} (A:Value→Nat→World→Prop) (hr:C.r=none) (hg:ev e g=some (.func (.func gf) #[] lb)) (hcl:∀ args w,(callFunc gf args).run C.P w = .ok (.enter gf args) w) (hp:gK C.n (some p)=true)
  (hseq:X6 C.P gf lb Next s0 sE Inv S0 Pre) (hI:zU I) (hX:∀ c S W W' b,X c S W→S b→Upd b W W'→X c S W') (hInv:∀ i S W,I i S W→Inv W) (h0:I s0 S0 w) (hS0:∀ k,S0 k→k<w.heap.size) (Py:∀ W,Ext w W→Pre W)
  (hA:∀ v x W W' b,A v x W→b≠x→Upd b W W'→A v x W')
  (hassign:∀ (l:Nat) (Q:Exit→Act→World→Prop) (i j:σ) (v:Value) (k:List It) (W:World),Next i v j→(∀ x W',W.heap.size≤x→Ext W W'→A v x W'→T (rCx C l Q) k (e1 v x) W')→T (rCx C l Q) (.code assign::k) ((p,v)::e) W)
  (hbody:∀ (l:Nat) (i:σ) (v:Value) (x:Nat) (j:σ) (S:Nat→Prop) (W:World),Next i v j→I i S W→A v x W→(∃ r,W.heap[l]?=some (.loop r))→S l→T (rCx C l (RQ I X j S W)) [.code body] (e1 v x) W)
  (hdone:∀ (S:Nat→Prop) (D:Nat) (W:World),D=w.heap.size→(∀ k,S0 k→S k)→S D→I sE S W→W.heap[D]?=some (.deferred (some []))→T { C with D:={ target:=.collected D,args:=#[] } :: C.D } k e W)
  (hstop:∀ (c:Code) (S:Nat→Prop) (D:Nat) (W:World),D=w.heap.size→S D→X c S W→W.heap[D]?=some (.deferred (some []))→T { C with D:={ target:=.collected D,args:=#[] } :: C.D } (.code c::k) e W) :
  T C (.code (.rangeFunc g #[p] assign body)::k) e w:=fun a ha=>by
 have II:∀ (D:List Deferred) (k:List It),run { C with D:=D } k=run C k:=by
  intro D k
  induction k with
  | nil=>rfl
  | cons it k ih=>cases it <;> simp only [run,ih]
 show (Code.rangeFunc g #[p] assign body).wpIn _ _ _ _ _ _
 refine wpIn_rangeFunc ?_
 intro fn hfn
 rw [show (FW C.r).round=none from hr]
 obtain ⟨rec,hrec⟩:∃ rec:LoopState→Option Code→Loop,rec=fun st pe=>{ state:=st,pending:=pe,fn,tmps:=a.tmps,params:=#[p],assign,body,defers:=w.heap.size }:=⟨_,rfl⟩
 obtain ⟨W1,hW1⟩:∃ W1,(w.alloc (.deferred (some []))).alloc (.loop (rec .ready none))=W1:=⟨_,rfl⟩
 have hL1:W1.heap[w.heap.size+1]?=some (.loop (rec .ready none)):=by
  rw [← hW1];have:=World.alloc_heap_new (w.alloc (.deferred (some []))) (.loop (rec .ready none));rwa [World.size_alloc] at this
 have hK1:W1.heap[w.heap.size]?=some (.deferred (some [])):=by
  rw [← hW1];exact (Below.heap_alloc _ _ _ (by simp)).trans (World.alloc_heap_new w _)
 have he1:Ext w W1:=by rw [← hW1];exact (Keep.alloc 0 w _).trans (Keep.alloc 0 _ _)
 have hz1:W1.heap.size=w.heap.size+2:=by rw [← hW1];simp
 let Up (S:Nat→Prop):Nat→Prop:=fun k=>S k∨k=w.heap.size∨k=w.heap.size+1
 refine ⟨w.heap.size+1,[{ target:=.collected w.heap.size,args:=#[] }],W1,{ target:=.fn (.func gf) lb,args:=#[.func (.yield (w.heap.size+1)) #[] #[]] },W1,gf,
  #[.func (.yield (w.heap.size + 1)) #[] #[]] ++ lb, W1, ?_, ?_, fun _ _ => trivial, ?_, by simp, CallsIn.kY ?_⟩
 ·rw [← hW1,hrec];exact run_enterLoop_outer _ _ _ _ _
 ·simp only [resolve,ha.eval hg]
  simp [go_sem]
 ·simp [invoke,go_sem,hcl]
 let J:σ→(Nat→Prop)→World→Prop:=fun i S W=>I i (Up S) W∧(¬ S w.heap.size∧¬ S (w.heap.size+1))∧(∀ k,S k→k<W.heap.size)∧W.heap[w.heap.size+1]?=some (.loop (rec .ready none))∧W.heap[w.heap.size]?=some (.deferred (some []))
 let X':World→Prop:=fun W=>∃ c S,X c (Up S) W∧W.heap[w.heap.size+1]?=some (.loop (rec .done (some c)))∧W.heap[w.heap.size]?=some (.deferred (some []))
 have hJ:zU J:=by
  refine ⟨?_,?_⟩
  ·rintro i S S' W W' ⟨h1,⟨hn1,hn2⟩,hSb,hl,hk⟩ he hS
   have hlt:=(Array.getElem?_eq_some_iff.1 hl).1
   refine ⟨hI.1 i _ _ W W' h1 he ?_,⟨?_,?_⟩,fun k hk=>(hS k hk).elim (fun h=>Nat.lt_of_lt_of_le (hSb k h) he.size) (fun h=>h.2),(he.block _ (Nat.zero_le _) hlt).trans hl,(he.block _ (Nat.zero_le _) (by omega)).trans hk⟩
   ·rintro k (h|h)
    ·exact (hS k h).imp .inl id
    exact .inl (.inr h)
   ·intro h;rcases hS _ h with h|h
    ·exact hn1 h
    omega
   intro h;rcases hS _ h with h|h
   ·exact hn2 h
   omega
  rintro i S W W' b ⟨h1,⟨hn1,hn2⟩,hSb,hl,hk⟩ hb hu
  refine ⟨hI.2 i _ W W' b h1 (.inl hb) hu,⟨hn1,hn2⟩,fun k hk=>by rw [hu.size];exact hSb k hk,(hu.block _ ?_).trans hl,(hu.block _ ?_).trans hk⟩
  ·rintro rfl;exact hn2 hb
  rintro rfl;exact hn1 hb
 refine (hseq (w.heap.size+1) J X' W1 hJ (fun i S W h=>hInv i _ W h.1) ?_ ⟨hI.1 _ _ _ w W1 h0 he1 ?_,⟨fun h=>by have:=hS0 _ h;omega,fun h=>by have:=hS0 _ h;omega⟩,fun k hk=>by have:=hS0 k hk;omega,hL1,hK1⟩ (Py _ he1)).mono ?_
 ·rintro i v j S W hn ⟨hi,hnS,hSb,hl,hk⟩
  have hlt:w.heap.size+1<W.heap.size:=(Array.getElem?_eq_some_iff.1 hl).1
  have hy:=run_yield (P:=C.P) (args:=#[v]) hl (by rw [hrec];rfl)
  have hy2:(Instr.yield (w.heap.size+1) #[v]).run C.P W = .ok (.round (w.heap.size+1) fn (a.tmps.setIfInBounds p v) assign body) W:=by
   rw [hy,hrec];simp
  refine ⟨fn,_,assign,body,hy2,?_⟩
  have O5:Sat C.n ((p,v)::e) { tmps:=a.tmps.setIfInBounds p v,defers:=[] }:=Sat.round (D:=a.defers) ha.sat hp
  have hrun:=hassign (w.heap.size+1) (fun _ _ _=>False) i j v [.hook (fun a' W'=>∃ x,W.heap.size≤x∧Ext W W'∧A v x W'∧Sat C.n (e1 v x) a'∧a'.defers = [])] W hn (fun x W' hx he hA a' ha'=>⟨x,hx,he,hA,ha'.sat,ha'.defers⟩) _ ⟨O5,rfl⟩
  refine roundIn_of_wpIn trivial ?_
  refine wpIn_mono hrun ?_
  rintro ex a' W' hx
  cases ex with
  | normal =>
   obtain ⟨x,hxs,heW,hAx,hs',hd'⟩:=hx
   have hi':=hI.1 i _ (Up S) _ _ hi heW (fun k hk=>.inl hk)
   have hl':=(heW.block _ (Nat.zero_le _) hlt).trans hl
   have hk':=(heW.block _ (Nat.zero_le _) (by omega:w.heap.size<W.heap.size)).trans hk
   have hlt':w.heap.size+1<W'.heap.size:=(Array.getElem?_eq_some_iff.1 hl').1
   refine ⟨_,run_beginRound hl' (by rw [hrec]),?_⟩
   have hl2:(W'.putObj (w.heap.size+1) (.loop { rec .ready none with state:=.busy })).heap[w.heap.size+1]?=some (.loop { rec .ready none with state:=.busy }):=World.putObj_heap_same hlt'
   have hk2:(W'.putObj (w.heap.size+1) (.loop { rec .ready none with state:=.busy })).heap[w.heap.size]?=some (.deferred (some [])):=(World.putObj_heap_other (by omega)).trans hk'
   have hu2:=aQ W' (w.heap.size+1) (.loop { rec .ready none with state:=.busy })
   have hi2:=hI.2 i _ _ _ _ hi' (.inr (.inr rfl)) hu2
   have hb:=hbody (w.heap.size+1) i v x j (Up S) _ hn hi2 (hA _ _ _ _ _ hAx (by omega) hu2) ⟨_,hl2⟩ (.inr (.inr rfl))
   refine wpIn_mono (hb a' ⟨hs',hd'⟩) ?_
   have fin:∀ (jump:Option Code) (W3:World),(∀ k,Up S k→W3.heap[k]?=(W'.putObj (w.heap.size+1) (.loop { rec .ready none with state:=.busy })).heap[k]?) →
     (Instr.endRound (w.heap.size+1) jump).run C.P W3 = .ok (.bool jump.isNone) (W3.putObj (w.heap.size+1) (.loop (rec (if jump.isNone then .ready else .done) jump))) ∧
     (W3.putObj (w.heap.size+1) (.loop (rec (if jump.isNone then .ready else .done) jump))).heap[w.heap.size+1]?=some (.loop (rec (if jump.isNone then .ready else .done) jump)) ∧
     (W3.putObj (w.heap.size+1) (.loop (rec (if jump.isNone then .ready else .done) jump))).heap[w.heap.size]?=some (.deferred (some [])) ∧
     (∀ k,S k→(W3.putObj (w.heap.size+1) (.loop (rec (if jump.isNone then .ready else .done) jump))).heap[k]?=W'.heap[k]?):=fun jump W3 hk3=>by
    have hl3:=(hk3 _ (.inr (.inr rfl))).trans hl2
    have:=run_endRound (P:=C.P) jump hl3
    have hk4:=(hk3 _ (.inr (.inl rfl))).trans hk2
    refine ⟨by rw [hrec] at this ⊢;exact this,World.putObj_heap_same (Array.getElem?_eq_some_iff.1 hl3).1,(World.putObj_heap_other (by omega)).trans hk4,fun k hk=>?_⟩
    have hne:k≠w.heap.size+1:=by rintro rfl;exact hnS.2 hk
    rw [World.putObj_heap_other hne,hk3 k (.inl hk),World.putObj_heap_other hne]
   rintro ex a3 W3 hp3
   cases ex with
   | normal =>
    obtain ⟨hi3,hk3⟩:=hp3
    obtain ⟨hr3,hl4,hk4,hS4⟩:=fin none W3 hk3
    refine ⟨_,_,hr3,.inl ⟨rfl,⟨hI.2 _ _ _ _ _ hi3 (.inr (.inr rfl)) (aQ _ _ _),hnS,fun k hk=>?_,hl4,hk4⟩,fun k hk=>?_⟩⟩
    ·have hlt3:=Nat.lt_of_lt_of_le (hSb k hk) heW.size
     have h:=hS4 k hk
     rw [Array.getElem?_eq_getElem hlt3] at h
     exact (Array.getElem?_eq_some_iff.1 h).1
    rw [hS4 k hk]
    exact heW.block k (Nat.zero_le _) (hSb k hk)
   | ret =>
    obtain ⟨hi3,hk3⟩:=hp3
    obtain ⟨hr3,hl4,hk4,_⟩:=fin (some .ret) W3 hk3
    exact ⟨_,_,hr3,.inr ⟨rfl,.ret,S,hX _ _ _ _ _ hi3 (.inr (.inr rfl)) (aQ _ _ _),hl4,hk4⟩⟩
   | exit id =>
    obtain ⟨hi3,hk3⟩:=hp3
    obtain ⟨hr3,hl4,hk4,_⟩:=fin (some (.exit id)) W3 hk3
    exact ⟨_,_,hr3,.inr ⟨rfl,.exit id,S,hX _ _ _ _ _ hi3 (.inr (.inr rfl)) (aQ _ _ _),hl4,hk4⟩⟩
   | goto t=>exact hp3.elim
   | panic ch=>exact hp3.elim
   | outgrown=>exact hp3.elim
  | ret=>exact hx.elim
  | exit id=>exact hx.elim
  | goto t=>exact hx.elim
  | panic ch=>exact hx.elim
  | outgrown=>exact hx.elim
 ·rintro k (h|h)
  ·exact .inl h
  exact .inr (by omega)
 rintro en W2 hq
 cases en with
 | panicked c=>exact hq.elim
 | outgrown=>exact hq.elim
 | returned v =>
  have hfits:∀ D,D=w.heap.size→Fits { C with D:={ target:=.collected D,args:=#[] } :: C.D } e { a with defers:=[{ target:=.collected w.heap.size,args:=#[] }]++a.defers }:=by
   rintro D rfl
   exact ⟨⟨ha.sat.size,ha.sat.get⟩,by show _++a.defers=_;rw [ha.defers];rfl⟩
  rcases hq with ⟨S,hS,hi,hnS,_,hl,hk⟩|⟨c,S,hi,hl,hk⟩
  ·refine ⟨none,_,by have:=run_endLoop (P:=C.P) hl (by rw [hrec];simp);rw [hrec] at this;exact this,?_⟩
   have:=hdone (Up S) _ _ rfl (fun k h=>.inl (hS k h)) (.inr (.inl rfl)) (hI.2 _ _ _ _ _ hi (.inr (.inr rfl)) (aQ _ (w.heap.size+1) (.loop { rec .ready none with state:=.exhausted }))) ((World.putObj_heap_other (by omega)).trans hk) _ (hfits _ rfl)
   rw [II] at this
   rw [hrec] at this
   exact this
  refine ⟨some c,_,by have:=run_endLoop (P:=C.P) hl (by rw [hrec];simp);rw [hrec] at this;exact this,?_⟩
  have:=hstop c (Up S) _ _ rfl (.inr (.inl rfl)) (hX _ _ _ _ _ hi (.inr (.inr rfl)) (aQ _ (w.heap.size+1) (.loop { rec .done (some c) with state:=.exhausted }))) ((World.putObj_heap_other (by omega)).trans hk) _ (hfits _ rfl)
  have h2:run { C with D:={ target:=.collected w.heap.size,args:=#[] } :: C.D } (.code c::k)=run C (.code c::k):=II _ _
  rw [h2] at this
  rw [hrec] at this
  exact this
theorem T.MX {σ:Type} (I:σ→(Nat→Prop)→World→Prop) (X:Code→(Nat→Prop)→World→Prop) {g:Operand} {p:Tmp} {assign body:Code} {gf:FuncId} {lb:Array Value} {Next:σ→Value→σ→Prop} {s0 sE:σ}
  {Inv:World→Prop} {S0:Nat→Prop} {Pre:World→Prop} {e1:Value→Nat→Env} (A:Value→Nat→World→Prop) {l₀:Nat} {r₀:Loop} (hr:C.r=some l₀) (hl₀:w.heap[l₀]?=some (.loop r₀)) (hg:ev e g=some (.func (.func gf) #[] lb)) (hcl:∀ args w,(callFunc gf args).run C.P w = .ok (.enter gf args) w) (hp:gK C.n (some p)=true)
  (hseq:X6 C.P gf lb Next s0 sE Inv S0 Pre) (hI:zU I) (hX:∀ c S W W' b,X c S W→S b→Upd b W W'→X c S W') (hInv:∀ i S W,I i S W→Inv W) (h0:I s0 S0 w) (hS0:∀ k,S0 k→k<w.heap.size) (Py:∀ W,Ext w W→Pre W)
  (hA:∀ v x W W' b,A v x W→b≠x→Upd b W W'→A v x W')
  (hassign:∀ (l:Nat) (Q:Exit→Act→World→Prop) (i j:σ) (v:Value) (k:List It) (W:World),Next i v j→(∀ x W',W.heap.size≤x→Ext W W'→A v x W'→T (rCx C l Q) k (e1 v x) W')→T (rCx C l Q) (.code assign::k) ((p,v)::e) W)
  (hbody:∀ (l:Nat) (i:σ) (v:Value) (x:Nat) (j:σ) (S:Nat→Prop) (W:World),Next i v j→I i S W→A v x W→(∃ r,W.heap[l]?=some (.loop r))→S l→T (rCx C l (RQ I X j S W)) [.code body] (e1 v x) W)
  (hdone:∀ (S:Nat→Prop) (W:World),(∀ k,S0 k→S k)→I sE S W→T C k e W)
  (hstop:∀ (c:Code) (S:Nat→Prop) (W:World),X c S W→T C (.code c::k) e W) :
  T C (.code (.rangeFunc g #[p] assign body)::k) e w:=fun a ha=>by
 show (Code.rangeFunc g #[p] assign body).wpIn _ _ _ _ _ _
 refine wpIn_rangeFunc ?_
 intro fn hfn
 rw [show (FW C.r).round=some l₀ from hr]
 obtain ⟨rec,hrec⟩:∃ rec:LoopState→Option Code→Loop,rec=fun st pe=>{ state:=st,pending:=pe,fn,tmps:=a.tmps,params:=#[p],assign,body,defers:=r₀.defers }:=⟨_,rfl⟩
 obtain ⟨W1,hW1⟩:∃ W1,w.alloc (.loop (rec .ready none))=W1:=⟨_,rfl⟩
 have hL1:W1.heap[w.heap.size]?=some (.loop (rec .ready none)):=by
  rw [← hW1];exact World.alloc_heap_new w _
 have he1:Ext w W1:=by rw [← hW1];exact Keep.alloc 0 w _
 have hz1:W1.heap.size=w.heap.size+1:=by rw [← hW1];simp
 let Up (S:Nat→Prop):Nat→Prop:=fun k=>S k∨k=w.heap.size
 refine ⟨w.heap.size,[],W1,{ target:=.fn (.func gf) lb,args:=#[.func (.yield w.heap.size) #[] #[]] },W1,gf,
  #[.func (.yield w.heap.size) #[] #[]] ++ lb, W1, ?_, ?_, fun _ _ => trivial, ?_, by simp, CallsIn.kY ?_⟩
 ·rw [← hW1,hrec];exact vV hl₀ _ _ _ _ _
 ·simp only [resolve,ha.eval hg]
  simp [go_sem]
 ·simp [invoke,go_sem,hcl]
 let J:σ→(Nat→Prop)→World→Prop:=fun i S W=>I i (Up S) W∧¬ S w.heap.size∧(∀ k,S k→k<W.heap.size)∧W.heap[w.heap.size]?=some (.loop (rec .ready none))
 let X':World→Prop:=fun W=>∃ c S,X c (Up S) W∧W.heap[w.heap.size]?=some (.loop (rec .done (some c)))
 have hJ:zU J:=by
  refine ⟨?_,?_⟩
  ·rintro i S S' W W' ⟨h1,hn2,hSb,hl⟩ he hS
   have hlt:=(Array.getElem?_eq_some_iff.1 hl).1
   refine ⟨hI.1 i _ _ W W' h1 he ?_,?_,fun k hk=>(hS k hk).elim (fun h=>Nat.lt_of_lt_of_le (hSb k h) he.size) (fun h=>h.2),(he.block _ (Nat.zero_le _) hlt).trans hl⟩
   ·rintro k (h|h)
    ·exact (hS k h).imp .inl id
    exact .inl (.inr h)
   intro h;rcases hS _ h with h|h
   ·exact hn2 h
   omega
  rintro i S W W' b ⟨h1,hn2,hSb,hl⟩ hb hu
  refine ⟨hI.2 i _ W W' b h1 (.inl hb) hu,hn2,fun k hk=>by rw [hu.size];exact hSb k hk,(hu.block _ ?_).trans hl⟩
  rintro rfl;exact hn2 hb
 refine (hseq w.heap.size J X' W1 hJ (fun i S W h=>hInv i _ W h.1) ?_ ⟨hI.1 _ _ _ w W1 h0 he1 ?_,fun h=>by have:=hS0 _ h;omega,fun k hk=>by have:=hS0 k hk;omega,hL1⟩ (Py _ he1)).mono ?_
 ·rintro i v j S W hn ⟨hi,hnS,hSb,hl⟩
  have hlt:w.heap.size<W.heap.size:=(Array.getElem?_eq_some_iff.1 hl).1
  have hy:=run_yield (P:=C.P) (args:=#[v]) hl (by rw [hrec];rfl)
  have hy2:(Instr.yield w.heap.size #[v]).run C.P W = .ok (.round w.heap.size fn (a.tmps.setIfInBounds p v) assign body) W:=by
   rw [hy,hrec];simp
  refine ⟨fn,_,assign,body,hy2,?_⟩
  have O5:Sat C.n ((p,v)::e) { tmps:=a.tmps.setIfInBounds p v,defers:=[] }:=Sat.round (D:=a.defers) ha.sat hp
  have hrun:=hassign w.heap.size (fun _ _ _=>False) i j v [.hook (fun a' W'=>∃ x,W.heap.size≤x∧Ext W W'∧A v x W'∧Sat C.n (e1 v x) a'∧a'.defers = [])] W hn (fun x W' hx he hA a' ha'=>⟨x,hx,he,hA,ha'.sat,ha'.defers⟩) _ ⟨O5,rfl⟩
  refine roundIn_of_wpIn trivial ?_
  refine wpIn_mono hrun ?_
  rintro ex a' W' hx
  cases ex with
  | normal =>
   obtain ⟨x,hxs,heW,hAx,hs',hd'⟩:=hx
   have hi':=hI.1 i _ (Up S) _ _ hi heW (fun k hk=>.inl hk)
   have hl':=(heW.block _ (Nat.zero_le _) hlt).trans hl
   have hlt':w.heap.size<W'.heap.size:=(Array.getElem?_eq_some_iff.1 hl').1
   refine ⟨_,run_beginRound hl' (by rw [hrec]),?_⟩
   have hl2:(W'.putObj w.heap.size (.loop { rec .ready none with state:=.busy })).heap[w.heap.size]?=some (.loop { rec .ready none with state:=.busy }):=World.putObj_heap_same hlt'
   have hu2:=aQ W' w.heap.size (.loop { rec .ready none with state:=.busy })
   have hi2:=hI.2 i _ _ _ _ hi' (.inr rfl) hu2
   have hb:=hbody w.heap.size i v x j (Up S) _ hn hi2 (hA _ _ _ _ _ hAx (by omega) hu2) ⟨_,hl2⟩ (.inr rfl)
   refine wpIn_mono (hb a' ⟨hs',hd'⟩) ?_
   have fin:∀ (jump:Option Code) (W3:World),(∀ k,Up S k→W3.heap[k]?=(W'.putObj w.heap.size (.loop { rec .ready none with state:=.busy })).heap[k]?) →
     (Instr.endRound w.heap.size jump).run C.P W3 = .ok (.bool jump.isNone) (W3.putObj w.heap.size (.loop (rec (if jump.isNone then .ready else .done) jump))) ∧
     (W3.putObj w.heap.size (.loop (rec (if jump.isNone then .ready else .done) jump))).heap[w.heap.size]?=some (.loop (rec (if jump.isNone then .ready else .done) jump)) ∧
     (∀ k,S k→(W3.putObj w.heap.size (.loop (rec (if jump.isNone then .ready else .done) jump))).heap[k]?=W'.heap[k]?):=fun jump W3 hk3=>by
    have hl3:=(hk3 _ (.inr rfl)).trans hl2
    have:=run_endRound (P:=C.P) jump hl3
    refine ⟨by rw [hrec] at this ⊢;exact this,World.putObj_heap_same (Array.getElem?_eq_some_iff.1 hl3).1,fun k hk=>?_⟩
    have hne:k≠w.heap.size:=by rintro rfl;exact hnS hk
    rw [World.putObj_heap_other hne,hk3 k (.inl hk),World.putObj_heap_other hne]
   rintro ex a3 W3 hp3
   cases ex with
   | normal =>
    obtain ⟨hi3,hk3⟩:=hp3
    obtain ⟨hr3,hl4,hS4⟩:=fin none W3 hk3
    refine ⟨_,_,hr3,.inl ⟨rfl,⟨hI.2 _ _ _ _ _ hi3 (.inr rfl) (aQ _ _ _),hnS,fun k hk=>?_,hl4⟩,fun k hk=>?_⟩⟩
    ·have hlt3:=Nat.lt_of_lt_of_le (hSb k hk) heW.size
     have h:=hS4 k hk
     rw [Array.getElem?_eq_getElem hlt3] at h
     exact (Array.getElem?_eq_some_iff.1 h).1
    rw [hS4 k hk]
    exact heW.block k (Nat.zero_le _) (hSb k hk)
   | ret =>
    obtain ⟨hi3,hk3⟩:=hp3
    obtain ⟨hr3,hl4,_⟩:=fin (some .ret) W3 hk3
    exact ⟨_,_,hr3,.inr ⟨rfl,.ret,S,hX _ _ _ _ _ hi3 (.inr rfl) (aQ _ _ _),hl4⟩⟩
   | exit id =>
    obtain ⟨hi3,hk3⟩:=hp3
    obtain ⟨hr3,hl4,_⟩:=fin (some (.exit id)) W3 hk3
    exact ⟨_,_,hr3,.inr ⟨rfl,.exit id,S,hX _ _ _ _ _ hi3 (.inr rfl) (aQ _ _ _),hl4⟩⟩
   | goto t=>exact hp3.elim
   | panic ch=>exact hp3.elim
   | outgrown=>exact hp3.elim
  | ret=>exact hx.elim
  | exit id=>exact hx.elim
  | goto t=>exact hx.elim
  | panic ch=>exact hx.elim
  | outgrown=>exact hx.elim
 ·rintro k (h|h)
  ·exact .inl h
  exact .inr (by omega)
 rintro en W2 hq
 cases en with
 | panicked c=>exact hq.elim
 | outgrown=>exact hq.elim
 | returned v =>
  rcases hq with ⟨S,hS,hi,hnS,_,hl⟩|⟨c,S,hi,hl⟩
  ·refine ⟨none,_,by have:=run_endLoop (P:=C.P) hl (by rw [hrec];simp);rw [hrec] at this;exact this,?_⟩
   have:=hdone (Up S) _ (fun k h=>.inl (hS k h)) (hI.2 _ _ _ _ _ hi (.inr rfl) (aQ _ w.heap.size (.loop { rec .ready none with state:=.exhausted }))) a ha
   rw [hrec] at this
   exact this
  refine ⟨some c,_,by have:=run_endLoop (P:=C.P) hl (by rw [hrec];simp);rw [hrec] at this;exact this,?_⟩
  have:=hstop c (Up S) _ (hX _ _ _ _ _ hi (.inr rfl) (aQ _ w.heap.size (.loop { rec .done (some c) with state:=.exhausted }))) a ha
  rw [hrec] at this
  exact this
theorem T.Qb {l id:Nat} {σ:Type} {I:σ→(Nat→Prop)→World→Prop} {X:Code→(Nat→Prop)→World→Prop} {j:σ} {S:Nat→Prop} {W W':World} (hk:zN id k=none) (h:X (.exit id) S W'∧∀ k,S k→W'.heap[k]?=W.heap[k]?):T (rCx C l (RQ I X j S W)) (.code (.exit id)::k) e W':=T.UJ hk fun a _=>h
theorem T.IW {P:Program} {fn:Func} {n:Nat} {R:Value→World→Prop} {ds:List Nat} {σ:Type} (I:σ→(Nat→Prop)→World→Prop) (X:Code→(Nat→Prop)→World→Prop) {g:Operand} {p:Tmp} {assign body:Code} {gf:FuncId} {lb:Array Value} {Next:σ→Value→σ→Prop} {s0 sE:σ}
  {Inv:World→Prop} {S0:Nat→Prop} {Pre:World→Prop} {e1:Value→Nat→Env} (A:Value→Nat→World→Prop) (hg:ev e g=some (.func (.func gf) #[] lb)) (hcl:∀ args w,(callFunc gf args).run P w = .ok (.enter gf args) w) (hp:gK n (some p)=true)
  (hseq:X6 P gf lb Next s0 sE Inv S0 Pre) (hI:zU I) (hX:∀ c S W W' b,X c S W→S b→Upd b W W'→X c S W') (hInv:∀ i S W,I i S W→Inv W) (h0:I s0 S0 w) (hS0:∀ k,S0 k→k<w.heap.size) (Py:∀ W,Ext w W→Pre W)
  (hA:∀ v x W W' b,A v x W→b≠x→Upd b W W'→A v x W')
  (hassign:∀ (l:Nat) (Q:Exit→Act→World→Prop) (i j:σ) (v:Value) (k:List It) (W:World),Next i v j→(∀ x W',W.heap.size≤x→Ext W W'→A v x W'→T (rCx (jI P fn n (coll ds) R) l Q) k (e1 v x) W')→T (rCx (jI P fn n (coll ds) R) l Q) (.code assign::k) ((p,v)::e) W)
  (hbody:∀ (l:Nat) (i:σ) (v:Value) (x:Nat) (j:σ) (S:Nat→Prop) (W:World),Next i v j→I i S W→A v x W→(∃ r,W.heap[l]?=some (.loop r))→S l→T (rCx (jI P fn n (coll ds) R) l (RQ I X j S W)) [.code body] (e1 v x) W)
  (hdone:∀ (S:Nat→Prop) (D:Nat) (W:World),D=w.heap.size→(∀ k,S0 k→S k)→S D→I sE S W→W.heap[D]?=some (.deferred (some []))→T (jI P fn n (coll (D::ds)) R) k e W)
  (hstop:∀ (c:Code) (S:Nat→Prop) (D:Nat) (W:World),D=w.heap.size→S D→X c S W→W.heap[D]?=some (.deferred (some []))→T (jI P fn n (coll (D::ds)) R) (.code c::k) e W) :
  T (jI P fn n (coll ds) R) (.code (.rangeFunc g #[p] assign body)::k) e w :=
 T.MW (C:=jI P fn n (coll ds) R) I X A rfl hg hcl hp hseq hI hX hInv h0 hS0 Py hA hassign hbody hdone hstop
end
open Go.RowKit
def Pan (v:Value) (R:World→Prop):Ending→World→Prop
 | .panicked ch,w=>ch = [{ v:=v,recovered:=false }]∧R w
 | _,_=>False
abbrev aaI (P:Program) (fn:Func) (n:Nat) (v:Value) (R:World→Prop):Cx:={ P:=P,r:=none,n:=n,D:=[],Q:=bodyPost P fn (Pan v R) }
section
variable {C:Cx} {k:List It} {e:Env} {w:World} {d:Option Tmp} {ty:TypeId} {pos:String} {aft:Array Edge} {g:Option (Nat × Bool)} {ops:Array Oper} {rest:List Oper}
theorem iQ:∀ {k:List It} ch a w,C.Q (.panic ch) a w→run C k (.panic ch) a w
 | [],_,_,_,h=>h
 | .blk _::k,ch,a,w,h=>iQ (k:=k) ch a w h
 | .code _::k,ch,a,w,h=>iQ (k:=k) ch a w h
 | .hook _::k,ch,a,w,h=>iQ (k:=k) ch a w h
theorem T.fP {P:Program} {f:FuncId} {fn:Func} {c:Code} {vs:List Value} {w:World} {v:Value} {R:World→Prop} {n:Nat} (hf:P.funcs[f]?=some fn) (hb:fn.body=some c) (hn:fn.ntmps=n) (hle:Nat.ble vs.length n=true)
  (h:T (aaI P fn n v R) [.code c] (qm 0 vs) w):Calls P f vs.toArray w (Pan v R):=by
 refine (callsIn_wide (n:=0)).1 (callsIn_of_wp hf hb trivial ?_ rfl)
 have hle':vs.length≤n:=by simpa [Nat.ble_eq] using hle
 refine h _ ⟨⟨by simp [hn];omega,fun i v hi=>?_⟩,rfl⟩
 obtain ⟨_,h2⟩:=iD vs 0 i v hi
 have hlt:i<vs.length:=by
  rcases Nat.lt_or_ge i vs.length with h' | h'
  ·exact h'
  rw [Nat.sub_zero,List.getElem?_eq_none h'] at h2;cases h2
 rw [Array.getElem?_append_left (by simpa using hlt)]
 simpa using h2
theorem L.panic {x:Operand} {t:TypeId} {u:Value} (hw:gQ ops e ⟨d,.panic x,ty,pos,aft,g⟩=some true) (hx:ev e x=some (.iface t u)) (h:∀ a,Fits C e a→C.Q (.panic [{ v:=.iface t u,recovered:=false }]) a w) :
  L C k ops (⟨d,.panic x,ty,pos,aft,g⟩::rest) e w:=fun a ha=>by
 unfold wpListIn
 rw [bY ha hw,if_pos rfl]
 refine ⟨fun _ _=>trivial,?_⟩
 rw [Oper.semAt_eq _ _ _ (by simp)]
 have hr:(execOp a.eval ⟨d,.panic x,ty,pos,aft,g⟩).run C.P w = .halt (.panic (.iface t u)) w:=by
  simp [execOp,Instr.panic,ha.eval hx,goPanic]
 rw [hr]
 exact iQ _ a w (h a ha)
theorem L.aaJ {P:Program} {fn:Func} {n:Nat} {R:World→Prop} {x:Operand} {t:TypeId} {u:Value} (hw:gQ ops e ⟨d,.panic x,ty,pos,aft,g⟩=some true) (hx:ev e x=some (.iface t u)) (h:R w):L (aaI P fn n (.iface t u) R) k ops (⟨d,.panic x,ty,pos,aft,g⟩::rest) e w :=
 L.panic hw hx fun a ha=>⟨ha.defers,rfl,h⟩
theorem L.bJ {f:FuncId} {fi ca:Array Value} {xs:List Operand} {vs:List Value} {tys:Array TypeId} {fo:Operand} {v:Value} {R:World→Prop} (hw:gQ ops e ⟨d,.call { callee:=.value fo,args:=xs.toArray,argTypes:=tys },ty,pos,aft,g⟩=some true)
  (hcl:∀ args w,(callFunc f args).run C.P w = .ok (.enter f args) w) (hf:ev e fo=some (.func (.func f) fi ca)) (hx:evs e xs=some vs) (hc:Calls C.P f (fi++vs.toArray++ca) w (Pan v R)) (h:∀ w' a,R w'→Fits C e a→C.Q (.panic [{ v:=v,recovered:=false }]) a w') :
  L C k ops (⟨d,.call { callee:=.value fo,args:=xs.toArray,argTypes:=tys },ty,pos,aft,g⟩::rest) e w:=fun a ha=>by
 unfold wpListIn
 rw [bY ha hw,if_pos rfl]
 refine ⟨fun _ _=>trivial,?_⟩
 rw [Oper.semAt_eq _ _ _ (by simp)]
 have hrun:(execOp a.eval ⟨d,.call { callee:=.value fo,args:=xs.toArray,argTypes:=tys },ty,pos,aft,g⟩).run C.P w = .ok (.enter f (fi++vs.toArray++ca)) w:=by
  simp [execOp,resolve,Deferred.ofValue,invoke,ha.eval hf,ha.sat.EP hx,hcl]
 rw [hrun]
 refine ⟨by simp,CallsIn.kY ?_⟩
 refine hc.mono ?_
 intro en w' hr
 cases en with
 | returned v=>exact hr.elim
 | panicked c=>obtain ⟨rfl,hR⟩:=hr;exact iQ _ a w' (h w' a hR ha)
 | outgrown=>exact hr.elim
end
open Go.RowKit
section
variable {P:Program} {b:Frame} {a:Act} {k:List Item} {cs:List Frame} {w:World}
theorem iH {c:Code} : step P (lone (b.atR a (.code (.scope c)::k)) cs w) = .next (lone (b.atR a (.code c :: .inScope c::k)) cs w) :=
 step_lone_go (by simp [stepG,stepG.exec,Frame.atR])
theorem CY {c:Code} : step P (lone (b.atR a (.inScope c::k)) cs w) = .next (lone (b.atR a k) cs w) :=
 step_lone_go (by simp [stepG,stepG.exec,Frame.atR])
end
theorem MZ {F:Fence} {n:Nat} {P:Program} {Q:Exit→Act→World→Prop} {a:Act} {w:World} {c:Code} (h:c.wpIn F n P (Exit.noGoto Q) a w):(Code.scope c).wpIn F n P Q a w:=by
 intro b k cs hro hb hr
 have h0:(lone (b.atR a (.code (.scope c)::k)) cs w).fenced P F:=fenced_calm hb hr rfl
 obtain ⟨e,a₁,w₁,hq,harr⟩:=h b (.inScope c::k) cs hro hb hr
 cases e with
 | normal=>exact ⟨.normal,a₁,w₁,hq,.head h0 iH (StepsIn.trans harr (.one (fenced_calm hb hr rfl) CY))⟩
 | exit id =>
  have hx:exitTo id (.inScope c::k)=exitTo id k:=by simp [exitTo]
  exact ⟨.exit id,a₁,w₁,hq,fun k' hk=>.head h0 iH (harr.1 k' (by rw [hx];exact hk)),
   fun hr' hk=>let ⟨k₁,h1,h2⟩:=harr.2 hr' (by rw [hx];exact hk);⟨k₁,h1,.head h0 iH h2⟩⟩
 | goto l=>exact hq.elim
 | ret=>exact ⟨_,a₁,w₁,hq,.of_steps (.one h0 iH) harr⟩
 | panic ch=>exact ⟨_,a₁,w₁,hq,.of_steps (.one h0 iH) harr⟩
 | outgrown=>exact ⟨_,a₁,w₁,hq,.of_steps (.one h0 iH) harr⟩
theorem wO {C:Cx} {l:Nat} : ∀ {k:List It} a w,run C k (.goto l) a w→C.Q (.goto l) a w
 | [],_,_,h=>h
 | .blk _::k,a,w,h=>wO (k:=k) a w h
 | .code _::k,a,w,h=>wO (k:=k) a w h
 | .hook _::k,a,w,h=>wO (k:=k) a w h
theorem T.scope {C:Cx} {k:List It} {e:Env} {w:World} {c:Code} (hQ:∀ l a w,¬ C.Q (.goto l) a w) (h:T C (.code c::k) e w):T C (.code (.scope c)::k) e w:=fun a ha=>by
 show (Code.scope c).wpIn _ _ _ _ _ _
 refine MZ (wpIn_mono (h a ha) ?_)
 intro ex a w hx
 cases ex with
 | goto l=>exact hQ l a w (wO (k:=k) a w hx)
 | normal=>exact hx
 | exit id=>exact hx
 | ret=>exact hx
 | panic ch=>exact hx
 | outgrown=>exact hx
open Go.RowKit
def Z5 (C:Cx) (k:List It) (e:Env) (o:Oper) (w:World):Prop:=∀ a,Fits C e a→∀ next,o.wpIn (FW C.r) 0 C.P a w next (run C k)
def wP (C:Cx) (k:List It) (ops:Array Oper) (e:Env) (o:Oper) (f:Fact) (w:World) (J:World→Prop):Prop:=ObK C ops e o f w J∨(gQ ops e o=some true∧Z5 C k e o w)
section
variable {C:Cx} {k:List It} {ops:Array Oper} {e:Env} {o:Oper} {f:Fact} {w:World} {J:World→Prop} {d:Option Tmp} {ty:TypeId} {pos:String} {aft:Array Edge} {g:Option (Nat × Bool)}
theorem wP.op (hw:gQ ops e o=some true) (h:O C e o w (fun v w'=>J w'∧f.holds v w')):wP C k ops e o f w J:=.inl (ObK.op hw h)
theorem wP.pan (hw:gQ ops e o=some true) (h:Z5 C k e o w):wP C k ops e o f w J:=.inr ⟨hw,h⟩
theorem Z5.call {f:FuncId} {fi ca:Array Value} {xs:List Operand} {vs:List Value} {tys:Array TypeId} {fo:Operand} {v:Value} {R:World→Prop}
  (hcl:∀ args w,(callFunc f args).run C.P w = .ok (.enter f args) w) (hf:ev e fo=some (.func (.func f) fi ca)) (hx:evs e xs=some vs) (hc:Calls C.P f (fi++vs.toArray++ca) w (Pan v R)) (h:∀ w' a,R w'→Fits C e a→C.Q (.panic [{ v:=v,recovered:=false }]) a w') :
  Z5 C k e ⟨d,.call { callee:=.value fo,args:=xs.toArray,argTypes:=tys },ty,pos,aft,g⟩ w:=fun a ha next=>by
 refine ⟨fun _ _=>trivial,?_⟩
 rw [Oper.semAt_eq _ _ _ (by simp)]
 have hrun:(execOp a.eval ⟨d,.call { callee:=.value fo,args:=xs.toArray,argTypes:=tys },ty,pos,aft,g⟩).run C.P w = .ok (.enter f (fi++vs.toArray++ca)) w:=by
  simp [execOp,resolve,Deferred.ofValue,invoke,ha.eval hf,ha.sat.EP hx,hcl]
 rw [hrun]
 refine ⟨by simp,CallsIn.kY ?_⟩
 refine hc.mono ?_
 intro en w' hr
 cases en with
 | returned v=>exact hr.elim
 | panicked c=>obtain ⟨rfl,hR⟩:=hr;exact iQ _ a w' (h w' a hR ha)
 | outgrown=>exact hr.elim
theorem T.Qc {e:Env} {w:World} (h:∀ a,Fits C e a→C.Q .normal a w):T C [] e w:=h
end
def ac7 (C:Cx) (k:List It) (l:List Oper) (fs:List Fact) (e:Env) (Inv:Nat→World→Prop) (Rel:World→World→Prop):List Oper→List Fact→List (List Nat)→List (Option Nat)→Prop
 | o::os,f::fr,ds::dr,none::ch=>(∀ c w1,Inv c w1→Bind w1 (bf l fs ds) (fun en=>wP C k l.toArray (en++e) o f w1 (fun w'=>Rel w1 w'∧Inv c w')))∧ac7 C k l fs e Inv Rel os fr dr ch
 | o::os,f::fr,ds::dr,some p::ch=>(∀ w1,Inv p w1→Bind w1 (bf l fs ds) (fun en=>wP C k l.toArray (en++e) o f w1 (fun w'=>Rel w1 w'∧Inv (p+1) w')))∧ac7 C k l fs e Inv Rel os fr dr ch
 | _,_,_,_=>True
theorem IX {C:Cx} {k:List It} {l:List Oper} {fs:List Fact} {e:Env} {Inv:Nat→World→Prop} {Rel:World→World→Prop} : ∀ {os:List Oper} {fr:List Fact} {dr:List (List Nat)} {ch:List (Option Nat)},ac7 C k l fs e Inv Rel os fr dr ch→∀ (i:Nat) (o:Oper) (f:Fact) (ds:List Nat) (q:Option Nat),os[i]?=some o→fr[i]?=some f→dr[i]?=some ds→ch[i]?=some q →
  ∀ c w1,Inv c w1→(∀ p,q=some p→p=c)→Bind w1 (bf l fs ds) (fun en=>wP C k l.toArray (en++e) o f w1 (fun w'=>Rel w1 w'∧Inv (match q with|some _=>c+1|none=>c) w'))
 | o::os,f::fr,ds::dr,none::ch,h,0,o',f',ds',q,ho,hf,hd,hq=>by
  simp at ho hf hd hq;subst ho hf hd hq;exact fun c w1 hI _=>h.1 c w1 hI
 | o::os,f::fr,ds::dr,some p::ch,h,0,o',f',ds',q,ho,hf,hd,hq=>by
  simp at ho hf hd hq;subst ho hf hd hq
  intro c w1 hI hp
  obtain rfl:=hp p rfl
  exact h.1 w1 hI
 | o::os,f::fr,ds::dr,none::ch,h,i+1,o',f',ds',q,ho,hf,hd,hq=>IX h.2 i o' f' ds' q (by simpa using ho) (by simpa using hf) (by simpa using hd) (by simpa using hq)
 | o::os,f::fr,ds::dr,some p::ch,h,i+1,o',f',ds',q,ho,hf,hd,hq=>IX h.2 i o' f' ds' q (by simpa using ho) (by simpa using hf) (by simpa using hd) (by simpa using hq)
 | [],_,_,_,_,i,_,_,_,_,ho,_,_,_=>by simp at ho
 | _::_,[],_,_,_,i,_,_,_,_,_,hf,_,_=>by simp at hf
 | _::_,_::_,[],_,_,i,_,_,_,_,_,_,hd,_=>by simp at hd
 | _::_,_::_,_::_,[],_,i,_,_,_,_,_,_,_,hq=>by simp at hq
section
variable {C:Cx} {k:List It} {l:List Oper} {m:Nat} {fs:List Fact} {e:Env} {w:World} {S:List Nat} {e':Env} {Inv:Nat→World→Prop} {ch:List (Option Nat)}
theorem T.agT {id:Nat} (PI:C.P.follows .mixedOrders=true) (m len:Nat) (S:List Nat) (he:zO e S=some e') (fs:List Fact) (ds:List (List Nat)) (ch:List (Option Nat)) (A:List (List Nat)) (Inv:Nat→World→Prop) (Rel:World→World→Prop) (hA:CG l A=true) (hok:zV C.n l m ds S A=true) (hch:iP A m ch len=true) (hlen:fs.length=m)
  (hst:CB Rel fs) (h0:Inv 0 w.drew) (hob:ac7 C k l fs e' Inv Rel (l.take m) fs ds ch)
  (hfin:∀ w1,Inv len w1→Bind w1 (bf l fs (List.range m)) (fun en=>L C k l.toArray (l.drop m) (en++e) w1)) :
  T C (.code (.region id l.toArray true)::k) e w:=by
 simp only [zV,Bool.and_eq_true,decide_eq_true_eq] at hok
 obtain ⟨⟨⟨⟨⟨⟨⟨hto,hml⟩,hdl⟩,hdst⟩,hdis⟩,X8⟩,hS⟩,htl⟩:=hok
 simp only [iP,Bool.and_eq_true,decide_eq_true_eq] at hch
 obtain ⟨⟨⟨hcl,hc1⟩,hc2⟩,hc3⟩:=hch
 have qp:∀ i o,l[i]?=some o→∀ x∈o.after,Region.binds .any x=true→x.on<i:=by
  intro i o ho x hx hb
  have h1:=List.all_eq_true.1 hto (o,i) (by rw [List.mem_zipIdx_iff_getElem?];exact ho)
  have h2:=List.all_eq_true.1 h1 x (Array.mem_toList_iff.2 hx)
  simpa [hb] using h2
 have IK:∀ i,m≤i→i<l.length→∀ j,j<i→wt A i j=true:=by
  intro i hi hil j hj
  have h1:=List.all_eq_true.1 htl (l[i],i) (by rw [List.mem_zipIdx_iff_getElem?];exact List.getElem?_eq_getElem hil)
  have h3:¬ i<m:=by omega
  simp only [h3,decide_false,Bool.false_or] at h1
  exact List.all_eq_true.1 h1 j (by simpa using hj)
 have CO:∀ (i:Nat) (o:Oper),l[i]?=some o→gK C.n o.dst=true:=fun i o ho=>List.all_eq_true.1 hdst o (List.mem_of_getElem? ho)
 have CP:∀ (i j:Nat) (oi oj:Oper),i<m→j<m→i≠j→l[i]?=some oi→l[j]?=some oj→∀ d,oi.dst=some d→oj.dst≠some d:=by
  intro i j oi oj hi hj hne ho1 ho2 d hd1 hd2
  have h1:=List.all_eq_true.1 hdis j (by simpa using hj)
  have h2:=List.all_eq_true.1 h1 i (by simpa using hi)
  have hb:(i == j)=false:=by simpa using hne
  simp [hb,ho1,ho2,hd1,hd2] at h2
 have xA:∀ (i:Nat) (dd:List Nat),ds[i]?=some dd→∀ j∈dd,j<m∧wt A i j=true:=by
  intro i dd hd j hj
  have h1:=List.all_eq_true.1 X8 (dd,i) (by rw [List.mem_zipIdx_iff_getElem?];exact hd)
  have h2:=List.all_eq_true.1 h1 j hj
  simpa using h2
 have hS':∀ s∈S,∀ (j:Nat) (o:Oper),j<m→l[j]?=some o→o.dst≠some s:=by
  intro s hs j o hj ho hd
  have h1:=List.all_eq_true.1 hS s hs
  simp only [Bool.not_eq_true',List.contains_eq_mem,decide_eq_false_iff_not] at h1
  exact h1 (List.mem_filterMap.2 ⟨j,by simpa using hj,by simp [ho,hd]⟩)
 have PK:∀ (i p:Nat) (o:Oper),ch[i]?=some (some p)→l[i]?=some o→p<len∧∀ q,q<p→∃ j,ch[j]?=some (some q)∧wt A i j=true:=by
  intro i p o hp ho
  have hi:i<ch.length:=(List.getElem?_eq_some_iff.1 hp).1
  have h1:=List.all_eq_true.1 hc1 i (by simpa using hi)
  simp only [hp,Bool.and_eq_true,decide_eq_true_eq] at h1
  refine ⟨h1.1,fun q hq=>?_⟩
  have h2:=List.all_eq_true.1 h1.2 q (by simp;omega)
  simp only [hq,decide_true,Bool.not_true,Bool.false_or] at h2
  obtain ⟨j,hj,h3⟩:=List.any_eq_true.1 h2
  simp only [Bool.and_eq_true,beq_iff_eq] at h3
  exact ⟨j,h3.1,h3.2⟩
 have X9:∀ (i j p:Nat),ch[i]?=some (some p)→ch[j]?=some (some p)→i=j:=by
  intro i j p hi hj
  have hil:i<ch.length:=(List.getElem?_eq_some_iff.1 hi).1
  have hjl:j<ch.length:=(List.getElem?_eq_some_iff.1 hj).1
  have h1:=List.all_eq_true.1 (List.all_eq_true.1 hc2 i (by simpa using hil)) j (by simpa using hjl)
  simp only [hi,hj,beq_self_eq_true,Bool.not_true,Bool.false_or,beq_iff_eq] at h1
  exact h1
 have EU:∀ q:Nat,q<len→∃ j:Nat,j<m∧ch[j]?=some (some q):=by
  intro q hq
  have h1:=List.all_eq_true.1 hc3 q (by simpa using hq)
  obtain ⟨j,hj1,hj⟩:=List.any_eq_true.1 h1
  exact ⟨j,by simpa [hcl] using hj1,by simpa using hj⟩
 intro a0 ha0
 show (Code.region id l.toArray true).wpIn _ _ _ _ _ _
 refine wpIn_region_any PI ?_
 have hsz:l.toArray.size=l.length:=by simp
 rw [hsz]
 have main:∀ (fuel:Nat) (listed:Array Bool) (a:Act) (w1:World),ET C l m fs e Inv ch len listed a w1→(∀ j,j<l.length→listed[j]?=some true∨listed[j]?=some false)→(listed.toList.filter (! ·)).length≤fuel →
   wpAnyIn (FW C.r) 0 C.P .any l.toArray (run C k) fuel listed a w1:=by
  intro fuel
  induction fuel with
  | zero =>
   intro listed a w1 hU htf hcnt
   have hall:∀ j,j<l.length→listed[j]?=some true:=by
    intro j hj
    rcases htf j hj with h|h
    ·exact h
    have hm:false∈listed.toList:=List.mem_of_getElem? (i:=j) (by simpa using h)
    have:false∈listed.toList.filter (! ·):=List.mem_filter.2 ⟨hm,rfl⟩
    rw [List.eq_nil_of_length_eq_zero (Nat.le_zero.1 hcnt)] at this
    cases this
   have hm:m=l.length:=by
    rcases Nat.lt_or_ge m l.length with h|h
    ·have h1:=hU.tail m (Nat.le_refl _) h
     rw [hall m h] at h1;cases h1
    omega
   obtain ⟨en,hfit,hL⟩:=CJ hlen hml hfin EU hU (fun j hj=>hall j (by omega))
   exact gB hA IK qp 0 l.length listed a w1 (by omega) (by omega) (by rw [hU.size]) hall (fun j h1 h2=>by omega) (by rw [hm] at hL;exact hL a hfit) 0 (Nat.le_refl _)
  | succ fuel ih =>
   intro listed a w1 hU htf hcnt
   by_cases hall:∀ j,j<m→listed[j]?=some true
   ·obtain ⟨en,hfit,hL⟩:=CJ hlen hml hfin EU hU hall
    have lu:l.length-m≤fuel+1:=by
     have:=iE listed.toList m (fun j h1 h2=>by have:=hU.tail j h1 (by have:=hU.size;simpa [this] using h2);simpa using this)
     have hsz':=hU.size
     simp at this
     omega
    exact gB hA IK qp (l.length-m) m listed a w1 (by omega) (Nat.le_refl _) (by rw [hU.size]) hall hU.tail (hL a hfit) (fuel+1) lu
   refine ⟨fun h0=>?_,fun i hi=>?_⟩
   ·exfalso
    obtain ⟨j,hj1,hj2,hj3⟩:=gy hall
    have hjl:j<l.length:=by omega
    have hmem:j∈Region.ready .any l.toArray listed:=by
     have hfalse:listed[j]?=some false:=by (rcases htf j hjl with h|h;exact absurd h hj2;exact h)
     refine mem_ready.2 ⟨by rw [Array.getD_eq_getD_getElem?,hfalse];rfl,l[j],by simp [hjl],?_⟩
     intro x hx hb
     have:=qp j _ (List.getElem?_eq_getElem hjl) x hx hb
     rw [Array.getD_eq_getD_getElem?,hj3 _ this];rfl
    rw [h0] at hmem;cases hmem
   obtain ⟨h1,o,ho,kF⟩:=mem_ready.1 hi
   have ho':l[i]?=some o:=by simpa using ho
   have hil:i<l.length:=(List.getElem?_eq_some_iff.1 ho').1
   have him:i<m:=by
    rcases Nat.lt_or_ge i m with h|h
    ·exact h
    exfalso
    obtain ⟨j,hj1,hj2,_⟩:=gy hall
    exact hj2 (bZ hA qp hU.size hU.closed i i o (Nat.le_refl _) ho' kF j (IK i h hil j (by omega)))
   obtain ⟨f,hfi⟩:∃ f,fs[i]?=some f:=⟨fs[i]'(by omega),List.getElem?_eq_getElem (by omega)⟩
   obtain ⟨dd,hdi⟩:∃ dd,ds[i]?=some dd:=⟨ds[i]'(by omega),List.getElem?_eq_getElem (by omega)⟩
   obtain ⟨q,hqi⟩:∃ q,ch[i]?=some q:=⟨ch[i]'(by omega),List.getElem?_eq_getElem (by omega)⟩
   obtain ⟨c,Ut,hI,hcc⟩:=hU.inv
   have hli:¬ listed[i]?=some true:=fun h=>by rw [Array.getD_eq_getD_getElem?,h] at h1;simp at h1
   have hpc:∀ p,q=some p→p=c:=by
    rintro p rfl
    have hge:¬ p<c:=fun h=>hli ((hcc i p hqi).2 h)
    have hle:p≤c:=Classical.byContradiction fun hn=>by
     obtain ⟨j,hj,hw⟩:=(PK i p o hqi ho').2 c (by omega)
     have:=(hcc j c hj).1 (bZ hA qp hU.size hU.closed i i o (Nat.le_refl _) ho' kF j hw)
     omega
    omega
   have hB:=IX hob i o f dd q (by rw [List.getElem?_take,if_pos him];exact ho') hfi hdi hqi c w1 hI hpc
   have hbase:Fits C e' a:=⟨⟨hU.jy,fun s v hs=>by
    obtain ⟨hs1,hs2⟩:=jZ he s v hs
    exact hU.base s v hs2 (fun j oj hj hoj=>hS' s hs1 j oj hj hoj)⟩,hU.defers⟩
   obtain ⟨en,hOb,hlk⟩:=rX (a:=a) (e:=e') _ _ hB (fun p hp=>by
    obtain ⟨j,oj,hj1,hj2,hj3,hj4⟩:=dB hp
    obtain ⟨hjm,hjw⟩:=xA i dd hdi j hj1
    obtain ⟨v,hv1,hv2⟩:=hU.done j oj p.2 hjm hj2 hj4 (bZ hA qp hU.size hU.closed i i o (Nat.le_refl _) ho' kF j hjw)
    exact ⟨v,fun d hd=>hv1 d (by rw [hj3];exact hd),hv2⟩)
   have hfit:Fits C (en++e') a:=⟨⟨hU.jy,fun s v hs=>by
    rcases hlk s v hs with h|⟨h,_⟩
    ·exact h
    exact hbase.sat.get s v h⟩,hU.defers⟩
   have lu:((listed.setIfInBounds i true).toList.filter (! ·)).length≤fuel:=by
    have:=count_set (listed:=listed) (i:=i) (by rcases htf i hil with h|h;exact absurd h hli;exact h)
    omega
   have PL:∀ j,j<l.length→(listed.setIfInBounds i true)[j]?=some true∨(listed.setIfInBounds i true)[j]?=some false:=by
    intro j hj
    by_cases hji:i=j
    ·subst hji;left;rw [Array.getElem?_setIfInBounds_self];simp [hU.size,hil]
    rw [Array.getElem?_setIfInBounds_ne hji];exact htf j hj
   have hnext:∀ v w2,Rel w1 w2→Inv (match q with|some _=>c+1|none=>c) w2→f.holds v w2→ET C l m fs e Inv ch len (listed.setIfInBounds i true) (a.put o.dst v) w2:=by
    intro v w2 hrel hx hh
    refine ⟨by simpa using hU.size,?_,?_,?_,?_,?_,?_,?_⟩
    ·intro i2 o2 ho2 hl2 x hx2 hb2
     have hgx:listed.getD x.on false=true:=by
      by_cases hii:i=i2
      ·subst hii;rw [ho'] at ho2;cases ho2;exact kF x hx2 hb2
      rw [Array.getElem?_setIfInBounds_ne hii] at hl2;exact hU.closed i2 o2 ho2 hl2 x hx2 hb2
     have Ya:=kE hgx
     rw [Array.getD_eq_getD_getElem?]
     by_cases hxi:i=x.on
     ·rw [← hxi,Array.getElem?_setIfInBounds_self];simp [hU.size,hil]
     rw [Array.getElem?_setIfInBounds_ne hxi,Ya];rfl
    ·refine ⟨_,?_,hx,fun j p hj=>?_⟩
     ·cases q with
      | none=>exact Ut
      | some p=>have:=hpc p rfl;have:=(PK i p o hqi ho').1;show c+1≤len;omega
     by_cases hji:i=j
     ·subst hji
      rw [hqi] at hj;cases hj
      have:=hpc p rfl
      rw [Array.getElem?_setIfInBounds_self]
      simp only [hU.size,hil,if_true,true_iff]
      omega
     rw [Array.getElem?_setIfInBounds_ne hji,hcc j p hj]
     cases q with
     | none=>exact Iff.rfl
     | some p2 =>
      have h3:=hpc p2 rfl
      have hne:p≠p2:=fun e=>hji (X9 i j p2 hqi (e▸hj))
      show p<c↔p<c+1
      omega
    ·cases o.dst <;> exact hU.defers
    ·cases o.dst <;> simp [Act.put,hU.jy]
    ·intro s u hs hno
     have h0:=hU.base s u hs hno
     cases hd:o.dst with
     | none=>exact h0
     | some d =>
      have hne:d≠s:=fun e=>hno i o him ho' (by rw [hd,e])
      simp only [Act.put]
      rw [Array.getElem?_setIfInBounds_ne hne];exact h0
    ·intro j hj hjl
     rw [Array.getElem?_setIfInBounds_ne (by omega)];exact hU.tail j hj hjl
    intro j oj fj hj hoj hfj hlj
    by_cases hji:i=j
    ·subst hji
     rw [ho'] at hoj;cases hoj
     rw [hfi] at hfj;cases hfj
     refine ⟨v,fun d hd=>?_,hh⟩
     have hlt:=CO i o ho'
     rw [hd] at hlt
     have hlt':d<C.n:=by simpa [gK,Nat.blt_eq] using hlt
     rw [hd]
     simp only [Act.put]
     rw [Array.getElem?_setIfInBounds_self];simp [hU.jy,hlt']
    rw [Array.getElem?_setIfInBounds_ne hji] at hlj
    obtain ⟨u,hu1,hu2⟩:=hU.done j oj fj hj hoj hfj hlj
    refine ⟨u,fun d hd=>?_,nU hst j fj hfj _ _ _ hrel hu2⟩
    have:=hu1 d hd
    cases hod:o.dst with
    | none=>exact this
    | some d' =>
     have hne:d'≠d:=fun e=>CP i j o oj him hj hji ho' hoj d' hod (by rw [hd,e])
     simp only [Act.put]
     rw [Array.getElem?_setIfInBounds_ne hne];exact this
   unfold wpOpIn
   simp only [ho]
   rcases hOb with (⟨hw,hO⟩|⟨hw,hu,hJ⟩)|⟨hw,hP⟩
   ·rw [if_pos (bY hfit hw)]
    exact hO a hfit _ _ (fun v w2 ⟨hx,hh⟩=>ih _ _ _ (hnext v w2 hx.1 hx.2 hh) PL lu)
   ·rw [if_neg (by rw [bY hfit hw];simp)]
    exact ⟨fun _ _=>trivial,ih _ _ _ (hnext undef w1 hJ.1 hJ.2 hu) PL lu⟩
   rw [if_pos (bY hfit hw)]
   exact hP a hfit _
 refine main l.length (Array.replicate l.length false) a0 _ ⟨by simp,fun i o ho hl=>?_,⟨0,Nat.zero_le _,h0,fun j p hj=>?_⟩,ha0.defers,ha0.sat.size,fun i v hi _=>ha0.sat.get i v hi,fun j _ hj=>by simp [hj],fun j o f _ hj _ hl=>?_⟩ (fun j hj=>by right;simp [hj]) ?_
 ·have hil:=(List.getElem?_eq_some_iff.1 ho).1
  simp [hil] at hl
 ·have hjl:j<l.length:=by have:=(List.getElem?_eq_some_iff.1 hj).1;omega
  simp [hjl]
 ·have hjl:=(List.getElem?_eq_some_iff.1 hj).1
  simp [hjl] at hl
 simp
end
theorem Fa {P:Program} {ops:Array Oper} {Q:Exit→Act→List Frame→World→Prop} {i:Nat} {rest:List Nat} {A:Act} {cs:List Frame} {w:World} {o:Oper} {v:Value} (ho:ops[i]?=some o) (hg:o.guard=none) (hr:(execOp A.eval o).run P w = .ok (.value v) w)
  (h:wpOpsSIn (FW none) 0 P ops Q rest (A.put o.dst v) cs w):wpOpsSIn (FW none) 0 P ops Q (i::rest) A cs w:=by
 unfold wpOpsSIn
 rw [ho]
 refine ⟨fun _ _=>trivial,?_⟩
 have hw:Region.wanted o (yielded ops A.tmps)=true:=by unfold Region.wanted;rw [hg]
 rw [if_pos hw,hr]
 exact h
theorem Fb {P:Program} {ops:Array Oper} {Q:Exit→Act→List Frame→World→Prop} {i:Nat} {rest:List Nat} {A:Act} {cs cs':List Frame} {w:World} {o:Oper} {v:Value} (ho:ops[i]?=some o) (hg:o.guard=none) (hr:(execOp A.eval o).run P w = .ok .recover w)
  (hc:recoverD cs=some (v,cs')∨(recoverD cs=none∧v = .nilIface∧cs'=cs))
  (h:wpOpsSIn (FW none) 0 P ops Q rest (A.put o.dst v) cs' w):wpOpsSIn (FW none) 0 P ops Q (i::rest) A cs w:=by
 unfold wpOpsSIn
 rw [ho]
 refine ⟨fun _ _=>trivial,?_⟩
 have hw:Region.wanted o (yielded ops A.tmps)=true:=by unfold Region.wanted;rw [hg]
 rw [if_pos hw,hr]
 rcases hc with hc|⟨hc,rfl,rfl⟩
 ·simp only [hc];exact h
 simp only [hc];exact h
theorem T.KN {P:Program} {f:FuncId} {fn:Func} {id:Nat} {rest:Code} {vs:List Value} {w:World} {n:Nat} {t5 t2:Tmp} {ty5 ty2:TypeId} {p5 p2:String} {a5 a2:Array Edge} {tys:Array TypeId} {r:Value} {u u':FrameMode} {R:World→Prop}
  (hf:P.funcs[f]?=some fn) (hb:fn.body=some (.seq (.region id #[⟨some t5,.call { callee:=.builtin .recover,args:=#[],argTypes:=tys },ty5,p5,a5,none⟩,⟨some t2,.assign (.tmp t5),ty2,p2,a2,none⟩] false) rest)) (hn:fn.ntmps=n) (hle:Nat.ble vs.length n=true) (hres:fn.results=#[])
  (h5:gK n (some t5)=true) (h2:gK n (some t2)=true)
  (hrec:∀ (c0:Frame) cs,c0.mode=u→recoverD (c0::cs)=some (r,{ c0 with mode:=u' } :: cs)∨(recoverD (c0::cs)=none∧r = .nilIface∧u'=u))
  (h:∀ Q':Exit→Act→World→Prop,(∀ a w',a.defers = []→R w'→Q' .normal a w')→T { P:=P,r:=none,n:=n,D:=[],Q:=Q' } [.code rest] ((t2,r)::(t5,r)::qm 0 vs) w) :
  CallsDIn (FW none) 0 P f vs.toArray u w fun e m w'=>(∃ x,e = .returned x)∧m=u'∧R w':=by
 have hle':vs.length≤n:=by simpa [Nat.ble_eq] using hle
 refine callsDIn_of_wpSIn hf hb trivial fun c₀ cs hu=>wpSIn_seq (wpSIn_region ?_)
 have O5:Sat n (qm 0 vs) { tmps:=vs.toArray++Array.replicate (fn.ntmps-vs.toArray.size) undef,defers:=[] }:=by
  refine ⟨by simp [hn];omega,fun i v hi=>?_⟩
  obtain ⟨_,h2⟩:=iD vs 0 i v hi
  have hlt:i<vs.length:=by
   rcases Nat.lt_or_ge i vs.length with h' | h'
   ·exact h'
   rw [Nat.sub_zero,List.getElem?_eq_none h'] at h2;cases h2
  rw [Array.getElem?_append_left (by simpa using hlt)]
  simpa using h2
 have hfin:∀ cs',cs' = { c₀ with mode:=u' } :: cs→rest.wpSIn (FW none) 0 P (bodyPostS P fn c₀ cs (fun e m w'=>(∃ x,e = .returned x)∧m=u'∧R w')) ((({ tmps:=vs.toArray++Array.replicate (fn.ntmps-vs.toArray.size) undef,defers:=[] } : Act).put (some t5) r).put (some t2) r) cs' w:=by
  rintro cs' rfl
  refine wpSIn_of_wpIn rfl ?_
  have hT:=h (fun e a w'=>bodyPostS P fn c₀ cs (fun e m w'=>(∃ x,e = .returned x)∧m=u'∧R w') e a ({ c₀ with mode:=u' } :: cs) w') (fun a w' hd hR=>⟨hd,u',rfl,_,results_none hres _ _ _,⟨_,rfl⟩,rfl,hR⟩)
  exact hT _ ⟨(O5.put (d:=some t5) (v:=r) h5).put (d:=some t2) (v:=r) h2,rfl⟩
 have hev:((({ tmps:=vs.toArray++Array.replicate (fn.ntmps-vs.toArray.size) undef,defers:=[] } : Act).put (some t5) r).eval (.tmp t5))=r:=by
  have:=(O5.put (d:=some t5) (v:=r) h5).get t5 r (by simp [Aw,look])
  show Array.getD _ t5 undef=r
  rw [Array.getD_eq_getD_getElem?,this];rfl
 have hrun:∀ a:Act,(execOp a.eval ⟨some t5,.call { callee:=.builtin .recover,args:=#[],argTypes:=tys },ty5,p5,a5,none⟩).run P w = .ok .recover w:=fun a=>by
  simp [execOp,resolve,invoke,builtin]
 have hrun2:∀ a:Act,(execOp a.eval ⟨some t2,.assign (.tmp t5),ty2,p2,a2,none⟩).run P w = .ok (.value (a.eval (.tmp t5))) w:=fun a=>by
  simp [execOp]
 show wpOpsSIn _ _ _ _ _ [0,1] _ _ _
 rcases hrec c₀ cs hu with hr|⟨hr,rfl,rfl⟩
 ·exact Fb rfl rfl (hrun _) (.inl hr) (Fa (v:=r) rfl rfl (by have h2:=hrun2 (({ tmps:=vs.toArray++Array.replicate (fn.ntmps-vs.toArray.size) undef,defers:=[] } : Act).put (some t5) r);rw [hev] at h2;exact h2) (hfin _ rfl))
 exact Fb rfl rfl (hrun _) (.inr ⟨hr,rfl,rfl⟩) (Fa (v:=.nilIface) rfl rfl (by have h2:=hrun2 (({ tmps:=vs.toArray++Array.replicate (fn.ntmps-vs.toArray.size) undef,defers:=[] } : Act).put (some t5) .nilIface);rw [hev] at h2;exact h2) (hfin _ (by subst hu;rfl)))
open Go.RowKit Go.ChangeShapes Go.WideShapes
theorem trod_string {H:Type} {enc:TypeId × Value→H} {P:Program} {w:World} {n:Nat} {t:TypeId} {s:ByteArray} {y:DataW H × List MemPlace} (ht:P.underlying t=some .string) (h:DataW.trod enc P w 0 (fun _=>true) true n t [.string s]=some y):y.1 = .lit (.string s.data.toList):=by
 cases n with
 | zero=>simp [DataW.trod] at h
 | succ n =>
  simp only [DataW.trod,ht] at h
  split at h
  ·cases h;rfl
  cases h
theorem KO {H:Type} {enc:TypeId × Value→H} {P:Program} {W:World} : ∀ {ts:List TypeId} {vs:List Value} {ds:List (DataW H)} {ps:List MemPlace},DataW.TrodAll enc P W 0 (fun _=>true) true ts vs ds ps →
  (DataW.weightsEach P ts ds).all (· ≤ reachBytes)=true→∀ (j:Nat) t s,ts[j]?=some t→vs[j]?=some (.string s)→P.underlying t=some .string→s.size≤140737488355328
 | [],vs,ds,ps,h,_=>fun j t s hj=>by simp at hj
 | t::ts,vs,ds,ps,h,hw=>by
  obtain ⟨v,vs',d,ds',p,q,rfl,rfl,rfl,h1,h2⟩:=trodAll_cons h
  rw [DataW.weightsEach,List.all_append,Bool.and_eq_true] at hw
  intro j t' s hj hv ht
  cases j with
  | zero =>
   simp at hj hv
   subst hj hv
   obtain ⟨m,hm⟩:=h1
   have hd:=trod_string ht (by simpa [Value.cells] using hm)
   simp only at hd
   subst hd
   have h5:=List.all_eq_true.1 hw.1 s.data.toList.length (by rw [DataW.weights];exact List.mem_singleton.2 rfl)
   have h6:s.data.toList.length≤reachBytes:=of_decide_eq_true h5
   have e:s.data.toList.length=s.size:=by rw [Array.length_toList];rfl
   rw [e] at h6
   exact Nat.le_trans h6 (by unfold reachBytes;decide)
  | succ j=>exact KO h2 hw.2 j t' s (by simpa using hj) (by simpa using hv) ht
theorem rZ {H:Type} {enc:TypeId × Value→H} {a:Assume} {C:Checked} {os:Os} {f:FuncId} {fn:Func} {s:ChangeSpec} {conds:List PathCond} {apart fresh handsOn again:Bool} {X:World→Array Value→Prop}
  (hX:∀ (w w':World) (args:Array Value),w.heap=w'.heap→X w args→X w' args)
  (own:ownKnob C.prog.godebug=none) (started:os.Started) (noInit:C.prog.inits.idxOf? f=none) (hfn:C.prog.funcs[f]?=some fn)
  (witness:∃ (w:World) (tape:Tape) (i:Input),w.os=os∧(w.forCall tape i).Shaped C.prog∧i.vars = []∧Input.okWide C.prog (w.forCall tape i) .any w.heap.size f i ∧
   ((s.pre enc C.prog fn conds apart (w.forCall tape i).memory i.args∧X (w.forCall tape i).memory i.args)∧sizedMet enc C.prog fn (OpenSpec.ofChange s) apart (w.forCall tape i).memory i.args)∧a.holds C.prog (lone (Frame.enter C.prog f i.args .normal) [] (w.forCall tape i)))
  (contract:∀ (W:World) (base:Nat) (args:Array Value) (ds gs:List (DataW H)) (before:List MemPlace),
   (∀ (j:Nat) t v,fn.params[j]?=some t→args[j]?=some v→Value.okWide C.prog W .any base t v) →
   DataW.Whole enc C.prog fn.params.toList s.vars apart W args.toList ds gs before →
   conds.all (PathCond.test C.prog ⟨fn.params.toList,ds,s.plain.varTypes C.prog,gs⟩)=true →
   (DataW.weightsEach C.prog (fn.params.toList++s.plain.varTypes C.prog) (ds++gs)).all (· ≤ reachBytes)=true→X W args→W.ShapedOpen C.prog →
   a.holds C.prog (lone (Frame.enter C.prog f args .normal) [] W) →
   Calls C.prog f args W fun e W'=>∃ v,e = .returned v∧s.post enc C.prog fn apart fresh handsOn again W args v W') :
  ReturnsInHanded a C os f .any (fun w args=>(s.pre enc C.prog fn conds apart w args∧X w args)∧sizedMet enc C.prog fn (OpenSpec.ofChange s) apart w args) (s.post enc C.prog fn apart fresh handsOn again):=by
 refine returnsInHanded_of_calls own started noInit witness ?_
 intro w tape i _ hsh _ hok hpre hholds
 obtain ⟨_,_,_,fn',hfn',_,_,_,_,hval⟩:=hok
 have e:fn'=fn:=Option.some.inj (hfn'.symm.trans hfn)
 subst e
 obtain ⟨⟨⟨ds,gs,before,hw,hc⟩,hx⟩,hz⟩:=hpre
 have hw':=DataW.Whole.of_heap (w':=w.forCall tape i) (by rfl) hw
 refine (contract (w.forCall tape i) w.heap.size i.args ds gs before hval hw' hc (hz.weights hw) (hX _ _ _ (by rfl) hx) hsh hholds).mono fun e W' ⟨v,he,hp⟩=>?_
 subst he
 exact ChangeSpec.post_blind hp
theorem IY {C:Checked} {os:Os} {f:FuncId} {fn:Func} {s:ChangeSpec} {X:World→Array Value→Prop} {H:Type} {enc:TypeId × Value→H} {tb:TypeId} {ts:List TypeId}
  (hX:∀ (w w':World) (args:Array Value),w.heap=w'.heap→X w args→X w' args)
  (own:ownKnob C.prog.godebug=none) (started:os.Started) (noInit:C.prog.inits.idxOf? f=none) (hfn:C.prog.funcs[f]?=some fn)
  (hvars:s.vars = []) (hts:fn.params=ts.toArray) (hspec:∀ ds:List (DataW H),ds.length=ts.length→s.fn H ds = { results:=[.lit (.bool true)],args:=ds })
  (hres:fn.resultTypes=#[tb]) (hb:C.prog.underlying tb=some .bool) (hl:laidOutB C.prog=true) (hread:(ts.all fun t=>C.prog.readableRec t && decide (t<C.prog.types.size))=true)
  (witness:∃ (w:World) (tape:Tape) (i:Input),w.os=os∧(w.forCall tape i).Shaped C.prog∧i.vars = []∧Input.okWide C.prog (w.forCall tape i) .any w.heap.size f i ∧
   ((s.pre enc C.prog fn [] false (w.forCall tape i).memory i.args∧X (w.forCall tape i).memory i.args)∧sizedMet enc C.prog fn (OpenSpec.ofChange s) false (w.forCall tape i).memory i.args)∧({} : Assume).holds C.prog (lone (Frame.enter C.prog f i.args .normal) [] (w.forCall tape i)))
  (walk:∀ (W:World) (vs:List Value),vs.length=ts.length→(∀ (j:Nat) t v,ts[j]?=some t→vs[j]?=some v→Arg C.prog W t v)→(∀ (j:Nat) t s,ts[j]?=some t→vs[j]?=some (.string s)→C.prog.underlying t=some .string→s.size≤140737488355328)→X W vs.toArray→W.ShapedOpen C.prog→Calls C.prog f vs.toArray W (Ret fun v W'=>v = .bool true∧Ext W W')) :
  ReturnsInHanded {} C os f .any (fun w args=>(s.pre enc C.prog fn [] false w args∧X w args)∧sizedMet enc C.prog fn (OpenSpec.ofChange s) false w args) (s.post enc C.prog fn false true false false):=by
 refine rZ (C:=C) hX own started noInit hfn witness ?_
 intro W base args ds gs before hval0 hW _ hwt hL hsh _
 have hval:∀ (j:Nat) t v,fn.params[j]?=some t→args[j]?=some v→Value.okWide C.prog W .any base t v:=hval0
 have hW':=hW
 obtain ⟨p,q,hA0,hV0,rfl,hfz,hnd⟩:=hW
 have hA:DataW.TrodAll enc C.prog W 0 (fun _=>true) true fn.params.toList args.toList ds p:=hA0
 have hV:DataW.TrodVars enc C.prog W (fun _=>true) s.vars gs q:=hV0
 rw [hts] at hA hval
 rw [hvars] at hV
 obtain ⟨rfl,rfl⟩:=trodVars_none hV
 have hA':DataW.TrodAll enc C.prog W 0 (fun _=>true) true ts args.toList ds p:=hA
 obtain ⟨hlen,harg⟩:=PV hA' (fun j t v hj hv=>Value.okWide_any_base (hval j t v (by simpa using hj) (by simpa using hv)))
 have hds:ds.length=ts.length:=by
  have:∀ {ts:List TypeId} {vs:List Value} {ds:List (DataW H)} {ps:List MemPlace},DataW.TrodAll enc C.prog W 0 (fun _=>true) true ts vs ds ps→ds.length=ts.length:=by
   intro ts
   induction ts with
   | nil=>intro vs ds ps h;obtain ⟨rfl,rfl,rfl⟩:=trodAll_nil h;rfl
   | cons t ts ih =>
    intro vs ds ps h
    obtain ⟨v,vs',d,ds',p,q,rfl,rfl,rfl,h1,h2⟩:=trodAll_cons h
    simp [ih h2]
  exact this hA'
 have hvt:s.plain.varTypes C.prog = []:=by simp [DataSpec.varTypes,ChangeSpec.plain,hvars]
 have aiE:(DataW.weightsEach C.prog ts ds).all (· ≤ reachBytes)=true:=by
  rw [hts,hvt] at hwt
  simpa using hwt
 have hsp:=hspec ds hds
 refine (walk W args.toList hlen harg (KO hA' aiE) (by simpa using hL) hsh).mono fun e W' hR=>?_
 cases e with
 | panicked c=>exact hR.elim
 | outgrown=>exact hR.elim
 | returned v =>
  obtain ⟨rfl,hE⟩:=hR
  have bel:=Ext.below hE
  refine ⟨_,rfl,ds,[],p ++ [],[],p,[],hW',?_,?_,?_,bel.frame _,fun h=>by cases h⟩
  ·rw [hres,List.append_nil,hsp];exact trodAll_mk1 (shut_bool hb true)
  ·rw [hts,List.append_nil,hsp];exact qw hl bel hread hA'
  rw [hvars,List.append_nil,hsp];rfl
open Go.RowKit
def agU:List Item→Prop
 | .call _ _ _ _::_=>False
 | _=>True
def WpH (F:Fence) (n:Nat) (P:Program) (c:Code) (Q:List PanicEntry→Act→World→Prop) (a:Act) (w:World):Prop :=
 ∀ (b:Frame) (k:List Item) (cs:List Frame),b.roundOf=F.round→F.fn b.fn→F.room (cs.length+1+n) →
  ∃ ch a' w' todo,Q ch a' w'∧agU todo∧StepsIn (Machine.fenced P F) P (lone (b.atR a (.code c::k)) cs w) (lone { b.atR a' todo with mode:=.panicking ch } cs w')
section
variable {F:Fence} {n:Nat} {P:Program} {Q:List PanicEntry→Act→World→Prop} {a:Act} {w:World}
theorem Ye {x y:Code} (h:x.wpIn F n P (fun ex a' w'=>ex = .normal∧WpH F n P y Q a' w') a w):WpH F n P (.seq x y) Q a w:=by
 intro b k cs hro hb hr
 have h0:(lone (b.atR a (.code (.seq x y)::k)) cs w).fenced P F:=fenced_calm hb hr rfl
 obtain ⟨e,a₁,w₁,⟨rfl,hq⟩,harr⟩:=h b (.code y::k) cs hro hb hr
 obtain ⟨ch,a',w',todo,q,ht,hs⟩:=hq b k cs hro hb hr
 exact ⟨ch,a',w',todo,q,ht,.head h0 stepR_seq (StepsIn.trans harr hs)⟩
theorem Qd {id:Nat} {c:Code} (h:WpH F n P c Q a w):WpH F n P (.block id c) Q a w:=by
 intro b k cs hro hb hr
 have h0:(lone (b.atR a (.code (.block id c)::k)) cs w).fenced P F:=fenced_calm hb hr rfl
 obtain ⟨ch,a',w',todo,q,ht,hs⟩:=h b (.inBlock id::k) cs hro hb hr
 exact ⟨ch,a',w',todo,q,ht,.head h0 stepR_block hs⟩
theorem Yf {ops : Array Oper} (l : List Nat) : ∀ (a : Act) (w : World), wpOpsIn F n P ops (fun ex a' w' => ∃ ch, ex = .panic ch ∧ Q ch a' w') l a w → ∀ (b : Frame) (k : List Item) (cs : List Frame), b.roundOf = F.round → F.fn b.fn → F.room (cs.length + 1 + n) →
      ∃ ch a' w' todo, Q ch a' w' ∧ agU todo ∧ StepsIn (Machine.fenced P F) P (lone (b.atR a (.inRegion ops l :: k)) cs w) (lone { b.atR a' todo with mode := .panicking ch } cs w') := by
  induction l with
  | nil => exact fun a w h b k cs _ hb hr => by obtain ⟨ch, h, _⟩ := h; cases h
  | cons i rest ih =>
    intro a w h b k cs hro hb hr
    simp only [wpOpsIn] at h
    cases ho : ops[i]? with
    | none =>
      simp only [ho] at h
      obtain ⟨e, a', w', todo, hq, ht, harr⟩ := ih a w h b k cs hro hb hr
      have hs := stepR_op_skip (P := P) (b := b) (a := a) (k := k) (cs := cs) (w := w) (ops := ops) (i := i) (rest := rest) (by simp [ho])
      simp only [ho, Option.bind_none, Act.put] at hs
      exact ⟨e, a', w', todo, hq, ht, .head (fenced_noOper hb hr ho) hs harr⟩
    | some o =>
      simp only [ho] at h
      by_cases hw : Region.wanted o (yielded ops a.tmps) = true
      · simp only [hw, if_true, Oper.wpIn] at h
        obtain ⟨habout, h⟩ := h
        have h0 : (lone (b.atR a (.inRegion ops (i :: rest) :: k)) cs w).fenced P F := fenced_oper hb hr ho habout
        simp only [Oper.uponIn] at h
        have hg := stepGR_op (P := P) (b := b) (k := k) (cs := cs) (w := w) (rest := rest) ho hw
        rw [hro] at hg
        have hfin : ∀ v, (b.atR a (.inRegion ops (i :: rest) :: k)).finish v = b.atR (a.put o.dst v) (.inRegion ops rest :: k) := by
          intro v; rw [Frame.finish_atR, ho]; rfl
        split at h
        · rename_i v w' hr'
          obtain ⟨e, a', w'', todo, hq, ht, harr⟩ := ih _ _ h b k cs hro hb hr
          refine ⟨e, a', w'', todo, hq, ht, .head h0 (step_lone_go ?_) harr⟩
          rw [hg, ← hfin]; simp [stepG.apply, hr']
        · rename_i w' hr'
          obtain ⟨e, a', w'', todo, hq, ht, harr⟩ := ih _ _ h b k cs hro hb hr
          refine ⟨e, a', w'', todo, hq, ht, .head h0 (step_lone_go ?_) harr⟩
          rw [hg, ← hfin]; simp [stepG.apply, hr']
        · rename_i d w' hr'
          obtain ⟨e, a', w'', todo, hq, ht, harr⟩ := ih _ _ h b k cs hro hb hr
          refine ⟨e, a', w'', todo, hq, ht, .head h0 (step_lone_go ?_) harr⟩
          have : ({ b.atR a (.inRegion ops (i :: rest) :: k) with defers := d :: a.defers } : Frame).finish undef =
              b.atR ({ a with defers := d :: a.defers }.put o.dst undef) (.inRegion ops rest :: k) := by
            have := Frame.finish_atR b { a with defers := d :: a.defers } ops i rest k undef
            rw [ho] at this; exact this
          rw [hg]; simp only [stepG.apply, Sem.runT_eq, hr', GStep.bare_after]
          exact congrArg (fun fr => GStep.go { frame := fr, callers := cs, status := .running, dying := none } w') this
        · rename_i f args w' hr'
          obtain ⟨hn, hF, h⟩ := h
          have hroom : F.room ((b.atR a (.inRegion ops (i :: rest) :: k) :: cs).length + 1 + (n - 1)) := Fence.room_enter hr hn
          obtain ⟨e, w'', fr, hR, hsteps, hfn, hleave⟩ := h (b.atR a (.inRegion ops (i :: rest) :: k) :: cs) hroom
          have henter : step P (lone (b.atR a (.inRegion ops (i :: rest) :: k)) cs w) =
              .next (lone (Frame.enter P f args .normal) (b.atR a (.inRegion ops (i :: rest) :: k) :: cs) w') :=
            step_lone_go (by rw [hg]; simp [stepG.apply, hr', Frame.atR])
          cases e with
          | returned v =>
            have hl : (lone fr (b.atR a (.inRegion ops (i :: rest) :: k) :: cs) w'').fenced P F := fenced_leaving (hfn ▸ hF) hroom hleave
            obtain ⟨e, a', w₃, todo, hq, ht, harr⟩ := ih _ _ hR b k cs hro hb hr
            refine ⟨e, a', w₃, todo, hq, ht, .head h0 henter (StepsIn.trans hsteps (.head hl ?_ harr))⟩
            rw [← hfin]; exact step_leave_returned hleave
          | panicked chain =>
            have hl : (lone fr (b.atR a (.inRegion ops (i :: rest) :: k) :: cs) w'').fenced P F := fenced_leaving (hfn ▸ hF) hroom hleave
            obtain ⟨ch, e1, hR⟩ := hR
            cases e1
            refine ⟨chain, a, w'', .inRegion ops (i :: rest) :: k, hR, trivial, .head h0 henter (StepsIn.trans hsteps (.one hl ?_))⟩
            rw [← Frame.raise_atR]; exact step_leave_panicked hleave
          | outgrown =>
            obtain ⟨a₀, w₀, ch, e1, _⟩ := hR
            cases e1
        · rename_i row args w' hr'
          obtain ⟨hn, h⟩ := h
          obtain ⟨v, w'', hR, hsteps⟩ := h (b.atR a (.inRegion ops (i :: rest) :: k)) cs (Fence.room_enter hr hn)
          have henter : step P (lone (b.atR a (.inRegion ops (i :: rest) :: k)) cs w) =
              .next (lone (Frame.ofRow P row args .normal) (b.atR a (.inRegion ops (i :: rest) :: k) :: cs) w') :=
            step_lone_go (by rw [hg]; simp [stepG.apply, hr', Frame.atR])
          obtain ⟨e, a', w₃, todo, hq, ht, harr⟩ := ih _ _ hR b k cs hro hb hr
          refine ⟨e, a', w₃, todo, hq, ht, .head h0 henter (StepsIn.trans ?_ harr)⟩
          rw [← hfin]; exact hsteps
        · rename_i l f tmps assign body w' hr'
          obtain ⟨hn, _, h⟩ := h
          obtain ⟨e, w'', hR, hsteps⟩ := h (b.atR a (.inRegion ops (i :: rest) :: k)) cs (Fence.room_enter hr hn)
          have henter : step P (lone (b.atR a (.inRegion ops (i :: rest) :: k)) cs w) =
              .next (lone (Frame.round l f tmps assign body .normal) (b.atR a (.inRegion ops (i :: rest) :: k) :: cs) w') :=
            step_lone_go (by rw [hg]; simp [stepG.apply, hr', Frame.atR])
          cases e with
          | returned v =>
            obtain ⟨e, a', w₃, todo, hq, ht, harr⟩ := ih _ _ hR b k cs hro hb hr
            refine ⟨e, a', w₃, todo, hq, ht, .head h0 henter (StepsIn.trans ?_ harr)⟩
            rw [← hfin]; exact hsteps
          | panicked chain =>
            obtain ⟨ch, e1, hR⟩ := hR
            cases e1
            refine ⟨chain, a, w'', .inRegion ops (i :: rest) :: k, hR, trivial, .head h0 henter ?_⟩
            rw [← Frame.raise_atR]; exact hsteps
          | outgrown =>
            obtain ⟨a₀, w₀, ch, e1, _⟩ := hR
            cases e1
        · rename_i v w' hr'
          obtain ⟨ch, e1, hR⟩ := h
          cases e1
          refine ⟨_, a, w', .inRegion ops (i :: rest) :: k, hR, trivial, .one h0 (step_lone_go ?_)⟩
          rw [hg, ← Frame.raise_atR]; simp [stepG.apply, hr']
        exact h.elim
      simp only [hw, if_false, Bool.false_eq_true] at h
      obtain ⟨habout, h⟩ := h
      obtain ⟨e, a', w', todo, hq, ht, harr⟩ := ih _ _ h b k cs hro hb hr
      have hs := stepR_op_skip (P := P) (b := b) (a := a) (k := k) (cs := cs) (w := w) (ops := ops) (i := i) (rest := rest)
        (by simp [ho]; simpa using hw)
      simp only [ho, Option.bind_some] at hs
      exact ⟨e, a', w', todo, hq, ht, .head (fenced_oper hb hr ho habout) hs harr⟩
theorem Na {id:Nat} {ops:Array Oper} (h:wpOpsIn F n P ops (fun ex a' w'=>∃ ch,ex = .panic ch∧Q ch a' w') (List.range ops.size) a w):WpH F n P (.region id ops false) Q a w :=
 fun b k cs hro hb hr=>let ⟨ch,a',w',todo,q,ht,r⟩:=Yf _ a w h b k cs hro hb hr;⟨ch,a',w',todo,q,ht,.head (fenced_calm hb hr rfl) stepR_region r⟩
theorem UM {fr c:Frame} {cs:List Frame} {ch:List PanicEntry} (hm:fr.mode = .panicking ch) (hd:fr.defers = []) (hc:fr.catches P=false):step P (lone fr (c::cs) w) = .next (lone (c.raise ch) cs w) :=
 step_lone_go (by simp [stepG,unwind,hc,hm,hd])
theorem IZ {l:Nat} {f:FuncId} {tmps:Array Value} {assign body:Code} {w:World} {R:Ending→World→Prop} (hF:F.fn f)
  (h:assign.wpIn (F.inRound l) n P (Exit.then (fun a₁ w₁=>∃ w₂,(Instr.beginRound l).run P w₁ = .ok () w₂∧WpH (F.inRound l) n P body (fun ch a' w'=>a'.defers = []∧R (.panicked ch) w') a₁ w₂) (fun _ _ _=>False))
   { tmps:=tmps,defers:=[] } w) :
  RoundIn F n P l f tmps assign body w R:=by
 refine ⟨hF,fun c cs hr=>?_⟩
 let b:Frame:={ (default:Frame) with fn:=f,kind:=.normal,roundOf:=some l }
 have hb0:Frame.round l f tmps assign body .normal=b.atR { tmps:=tmps,defers:=[] } [.code assign,.beginRound,.code body]:=by
  simp [Frame.round,Frame.atR,b]
 have hr':(F.inRound l).room ((c::cs).length+1+n):=hr
 have hF':(F.inRound l).fn b.fn:=hF
 obtain ⟨e,a₁,w₁,hq,harr⟩:=h b [.beginRound,.code body] (c::cs) rfl hF' hr'
 rw [← hb0] at harr
 cases e with
 | normal =>
  obtain ⟨w₂,hbr,hbody⟩:=hq
  have s1:StepsIn (Machine.fenced P (F.inRound l)) P (lone (b.atR a₁ [.beginRound,.code body]) (c::cs) w₁) (lone (b.atR a₁ [.code body]) (c::cs) w₂) :=
   .one (fenced_calm (fr:=b.atR a₁ [.beginRound,.code body]) hF' hr' rfl) (stepR_beginRound rfl hbr)
  obtain ⟨ch,a',w',todo,⟨hd,hR⟩,ht,hs⟩:=hbody b [] (c::cs) rfl hF' hr'
  refine ⟨.panicked ch,w',hR,StepsIn.trans (StepsIn.trans harr s1) (StepsIn.trans hs (.one ?_ ?_))⟩
  ·refine fenced_calm (fr:={ b.atR a' todo with mode:=.panicking ch }) hF' hr' ?_
   simp [Frame.about,Frame.atR,hd]
  refine UM rfl (by simp [Frame.atR,hd]) ?_
  unfold Frame.catches
  split
  ·rename_i heq
   simp only [Frame.atR] at heq
   subst heq
   exact ht.elim
  rfl
 | exit id=>exact hq.elim
 | goto t=>exact hq.elim
 | ret=>exact hq.elim
 | panic chain=>exact hq.elim
 | outgrown=>exact hq.elim
end
def Z7 (P:Program) (l:Nat) (args:Array Value) (w:World) (R:Ending→World→Prop):Prop :=
 ∃ f tmps assign body,(Instr.yield l args).run P w = .ok (.round l f tmps assign body) w∧RoundIn (FW none) 0 P l f tmps assign body w R
abbrev thrown (V:Value):List PanicEntry:=[{ v:=V,recovered:=false }]
def agV (P:Program) (gf:FuncId) (lb:Array Value) (V:Value) (val:Nat→Value × Value) (m:Nat) (full:Prop) (Inv:World→Prop) (S0:Nat→Prop) (Pre:World→Prop):Prop :=
 ∀ (l:Nat) (J:Nat→(Nat→Prop)→World→Prop) (X:World→Prop) (W:World),zU J→(∀ i S W,J i S W→Inv W) →
  (∀ j S W,j<m→J j S W→Z7 P l #[(val j).1,(val j).2] W fun e W'=>e = .returned (.bool true)∧J (j+1) S W'∧∀ k,S k→W'.heap[k]?=W.heap[k]?) →
  (∀ S W,¬ full→J m S W→Z7 P l #[(val m).1,(val m).2] W fun e W'=>e = .panicked (thrown V)∧X W') →
  J 0 S0 W→Pre W→Calls P gf (#[.func (.yield l) #[] #[]]++lb) W fun e W'=>(full∧∃ v S,e = .returned v∧(∀ k,S0 k→S k)∧J m S W')∨(¬ full∧e = .panicked (thrown V)∧X W')
section
variable {C:Cx} {k:List It} {e:Env} {w:World}
theorem T.Nb (I:Nat→(Nat→Prop)→World→Prop) (X:(Nat→Prop)→World→Prop) {g:Operand} {p p2:Tmp} {assign body:Code} {gf:FuncId} {lb:Array Value} {V:Value} {val:Nat→Value × Value} {m:Nat} {full:Prop}
  {Inv:World→Prop} {S0:Nat→Prop} {Pre:World→Prop} {e1:Value × Value→Nat→Env} (A:Value × Value→Nat→World→Prop) (hr:C.r=none) (hg:ev e g=some (.func (.func gf) #[] lb)) (hcl:∀ args w,(callFunc gf args).run C.P w = .ok (.enter gf args) w) (hp:gK C.n (some p)=true) (hp2:gK C.n (some p2)=true)
  (hseq:agV C.P gf lb V val m full Inv S0 Pre) (hI:zU I) (hInv:∀ i S W,I i S W→Inv W) (h0:I 0 S0 w) (hS0:∀ k,S0 k→k<w.heap.size) (Py:∀ W,Ext w W→Pre W)
  (hA:∀ v x W W' b,A v x W→b≠x→Upd b W W'→A v x W')
  (hassign:∀ (l:Nat) (Q:Exit→Act→World→Prop) (j:Nat) (k:List It) (W:World),(∀ x W',W.heap.size≤x→Ext W W'→A (val j) x W'→T (rCx C l Q) k (e1 (val j) x) W')→T (rCx C l Q) (.code assign::k) ((p2,(val j).2)::(p,(val j).1)::e) W)
  (hbody:∀ (l:Nat) (j:Nat) (x:Nat) (S:Nat→Prop) (W:World),j<m→I j S W→A (val j) x W→T (rCx C l (RQ I (fun _ _ _=>False) (j+1) S W)) [.code body] (e1 (val j) x) W)
  (Z8:∀ (l:Nat) (x:Nat) (S:Nat→Prop) (W:World) (a:Act),¬ full→I m S W→A (val m) x W→Fits (rCx C l (fun _ _ _=>False)) (e1 (val m) x) a→WpH (FW (some l)) 0 C.P body (fun ch a' W'=>ch=thrown V∧a'.defers = []∧X S W'∧∀ k,S k→W'.heap[k]?=W.heap[k]?) a W)
  (hdone:∀ (S:Nat→Prop) (D:Nat) (W:World),full→D=w.heap.size→(∀ k,S0 k→S k)→S D→I m S W→W.heap[D]?=some (.deferred (some []))→T { C with D:={ target:=.collected D,args:=#[] } :: C.D } k e W)
  (aaK:∀ (S:Nat→Prop) (D:Nat) (W:World) (a:Act),¬ full→D=w.heap.size→S D→X S W→W.heap[D]?=some (.deferred (some []))→Fits { C with D:={ target:=.collected D,args:=#[] } :: C.D } e a→C.Q (.panic (thrown V)) a W) :
  T C (.code (.rangeFunc g #[p,p2] assign body)::k) e w:=fun a ha=>by
 have II:∀ (D:List Deferred) (k:List It),run { C with D:=D } k=run C k:=by
  intro D k
  induction k with
  | nil=>rfl
  | cons it k ih=>cases it <;> simp only [run,ih]
 show (Code.rangeFunc g #[p,p2] assign body).wpIn _ _ _ _ _ _
 refine wpIn_rangeFunc ?_
 intro fn hfn
 rw [show (FW C.r).round=none from hr]
 obtain ⟨rec,hrec⟩:∃ rec:LoopState→Option Code→Loop,rec=fun st pe=>{ state:=st,pending:=pe,fn,tmps:=a.tmps,params:=#[p,p2],assign,body,defers:=w.heap.size }:=⟨_,rfl⟩
 obtain ⟨W1,hW1⟩:∃ W1,(w.alloc (.deferred (some []))).alloc (.loop (rec .ready none))=W1:=⟨_,rfl⟩
 have hL1:W1.heap[w.heap.size+1]?=some (.loop (rec .ready none)):=by
  rw [← hW1];have:=World.alloc_heap_new (w.alloc (.deferred (some []))) (.loop (rec .ready none));rwa [World.size_alloc] at this
 have hK1:W1.heap[w.heap.size]?=some (.deferred (some [])):=by
  rw [← hW1];exact (Below.heap_alloc _ _ _ (by simp)).trans (World.alloc_heap_new w _)
 have he1:Ext w W1:=by rw [← hW1];exact (Keep.alloc 0 w _).trans (Keep.alloc 0 _ _)
 have hz1:W1.heap.size=w.heap.size+2:=by rw [← hW1];simp
 let Up (S:Nat→Prop):Nat→Prop:=fun k=>S k∨k=w.heap.size∨k=w.heap.size+1
 refine ⟨w.heap.size+1,[{ target:=.collected w.heap.size,args:=#[] }],W1,{ target:=.fn (.func gf) lb,args:=#[.func (.yield (w.heap.size+1)) #[] #[]] },W1,gf,
  #[.func (.yield (w.heap.size + 1)) #[] #[]] ++ lb, W1, ?_, ?_, fun _ _ => trivial, ?_, by simp, CallsIn.kY ?_⟩
 ·rw [← hW1,hrec];exact run_enterLoop_outer _ _ _ _ _
 ·simp only [resolve,ha.eval hg]
  simp [go_sem]
 ·simp [invoke,go_sem,hcl]
 let J:Nat→(Nat→Prop)→World→Prop:=fun i S W=>I i (Up S) W∧(¬ S w.heap.size∧¬ S (w.heap.size+1))∧(∀ k,S k→k<W.heap.size)∧W.heap[w.heap.size+1]?=some (.loop (rec .ready none))∧W.heap[w.heap.size]?=some (.deferred (some []))
 let X':World→Prop:=fun W=>∃ S,X (Up S) W∧W.heap[w.heap.size]?=some (.deferred (some []))
 have hJ:zU J:=by
  refine ⟨?_,?_⟩
  ·rintro i S S' W W' ⟨h1,⟨hn1,hn2⟩,hSb,hl,hk⟩ he hS
   have hlt:=(Array.getElem?_eq_some_iff.1 hl).1
   refine ⟨hI.1 i _ _ W W' h1 he ?_,⟨?_,?_⟩,fun k hk=>(hS k hk).elim (fun h=>Nat.lt_of_lt_of_le (hSb k h) he.size) (fun h=>h.2),(he.block _ (Nat.zero_le _) hlt).trans hl,(he.block _ (Nat.zero_le _) (by omega)).trans hk⟩
   ·rintro k (h|h)
    ·exact (hS k h).imp .inl id
    exact .inl (.inr h)
   ·intro h;rcases hS _ h with h|h
    ·exact hn1 h
    omega
   intro h;rcases hS _ h with h|h
   ·exact hn2 h
   omega
  rintro i S W W' b ⟨h1,⟨hn1,hn2⟩,hSb,hl,hk⟩ hb hu
  refine ⟨hI.2 i _ W W' b h1 (.inl hb) hu,⟨hn1,hn2⟩,fun k hk=>by rw [hu.size];exact hSb k hk,(hu.block _ ?_).trans hl,(hu.block _ ?_).trans hk⟩
  ·rintro rfl;exact hn2 hb
  rintro rfl;exact hn1 hb
 refine (hseq (w.heap.size+1) J X' W1 hJ (fun i S W h=>hInv i _ W h.1) ?_ ?_ ⟨hI.1 _ _ _ w W1 h0 he1 ?_,⟨fun h=>by have:=hS0 _ h;omega,fun h=>by have:=hS0 _ h;omega⟩,fun k hk=>by have:=hS0 k hk;omega,hL1,hK1⟩ (Py _ he1)).mono ?_
 ·rintro j S W hj ⟨hi,hnS,hSb,hl,hk⟩
  have hlt:w.heap.size+1<W.heap.size:=(Array.getElem?_eq_some_iff.1 hl).1
  have hy:=run_yield (P:=C.P) (args:=#[(val j).1,(val j).2]) hl (by rw [hrec];rfl)
  have hy2:(Instr.yield (w.heap.size+1) #[(val j).1,(val j).2]).run C.P W = .ok (.round (w.heap.size+1) fn ((a.tmps.setIfInBounds p (val j).1).setIfInBounds p2 (val j).2) assign body) W:=by
   rw [hy,hrec];simp
  refine ⟨fn,_,assign,body,hy2,?_⟩
  have O5:Sat C.n ((p2,(val j).2)::(p,(val j).1)::e) { tmps:=(a.tmps.setIfInBounds p (val j).1).setIfInBounds p2 (val j).2,defers:=[] }:=Sat.round (D:=[]) (Sat.round (D:=a.defers) (D':=[]) ha.sat hp) hp2
  have hrun:=hassign (w.heap.size+1) (fun _ _ _=>False) j [.hook (fun a' W'=>∃ x,W.heap.size≤x∧Ext W W'∧A (val j) x W'∧Sat C.n (e1 (val j) x) a'∧a'.defers = [])] W (fun x W' hx he hA a' ha'=>⟨x,hx,he,hA,ha'.sat,ha'.defers⟩) _ ⟨O5,rfl⟩
  refine roundIn_of_wpIn trivial ?_
  refine wpIn_mono hrun ?_
  rintro ex a' W' hx
  cases ex with
  | normal =>
   obtain ⟨x,hxs,heW,hAx,hs',hd'⟩:=hx
   have hi':=hI.1 j _ (Up S) _ _ hi heW (fun k hk=>.inl hk)
   have hl':=(heW.block _ (Nat.zero_le _) hlt).trans hl
   have hk':=(heW.block _ (Nat.zero_le _) (by omega:w.heap.size<W.heap.size)).trans hk
   have hlt':w.heap.size+1<W'.heap.size:=(Array.getElem?_eq_some_iff.1 hl').1
   refine ⟨_,run_beginRound hl' (by rw [hrec]),?_⟩
   have hl2:(W'.putObj (w.heap.size+1) (.loop { rec .ready none with state:=.busy })).heap[w.heap.size+1]?=some (.loop { rec .ready none with state:=.busy }):=World.putObj_heap_same hlt'
   have hk2:(W'.putObj (w.heap.size+1) (.loop { rec .ready none with state:=.busy })).heap[w.heap.size]?=some (.deferred (some [])):=(World.putObj_heap_other (by omega)).trans hk'
   have hu2:=aQ W' (w.heap.size+1) (.loop { rec .ready none with state:=.busy })
   have hi2:=hI.2 j _ _ _ _ hi' (.inr (.inr rfl)) hu2
   have hb:=hbody (w.heap.size+1) j x (Up S) _ hj hi2 (hA _ _ _ _ _ hAx (by omega) hu2)
   refine wpIn_mono (hb a' ⟨hs',hd'⟩) ?_
   have fin:∀ (jump:Option Code) (W3:World),(∀ k,Up S k→W3.heap[k]?=(W'.putObj (w.heap.size+1) (.loop { rec .ready none with state:=.busy })).heap[k]?) →
     (Instr.endRound (w.heap.size+1) jump).run C.P W3 = .ok (.bool jump.isNone) (W3.putObj (w.heap.size+1) (.loop (rec (if jump.isNone then .ready else .done) jump))) ∧
     (W3.putObj (w.heap.size+1) (.loop (rec (if jump.isNone then .ready else .done) jump))).heap[w.heap.size+1]?=some (.loop (rec (if jump.isNone then .ready else .done) jump)) ∧
     (W3.putObj (w.heap.size+1) (.loop (rec (if jump.isNone then .ready else .done) jump))).heap[w.heap.size]?=some (.deferred (some [])) ∧
     (∀ k,S k→(W3.putObj (w.heap.size+1) (.loop (rec (if jump.isNone then .ready else .done) jump))).heap[k]?=W'.heap[k]?):=fun jump W3 hk3=>by
    have hl3:=(hk3 _ (.inr (.inr rfl))).trans hl2
    have:=run_endRound (P:=C.P) jump hl3
    have hk4:=(hk3 _ (.inr (.inl rfl))).trans hk2
    refine ⟨by rw [hrec] at this ⊢;exact this,World.putObj_heap_same (Array.getElem?_eq_some_iff.1 hl3).1,(World.putObj_heap_other (by omega)).trans hk4,fun k hk=>?_⟩
    have hne:k≠w.heap.size+1:=by rintro rfl;exact hnS.2 hk
    rw [World.putObj_heap_other hne,hk3 k (.inl hk),World.putObj_heap_other hne]
   rintro ex a3 W3 hp3
   cases ex with
   | normal =>
    obtain ⟨hi3,hk3⟩:=hp3
    obtain ⟨hr3,hl4,hk4,hS4⟩:=fin none W3 hk3
    refine ⟨_,_,hr3,rfl,⟨hI.2 _ _ _ _ _ hi3 (.inr (.inr rfl)) (aQ _ _ _),hnS,fun k hk=>?_,hl4,hk4⟩,fun k hk=>?_⟩
    ·have hlt3:=Nat.lt_of_lt_of_le (hSb k hk) heW.size
     have h:=hS4 k hk
     rw [Array.getElem?_eq_getElem hlt3] at h
     exact (Array.getElem?_eq_some_iff.1 h).1
    rw [hS4 k hk]
    exact heW.block k (Nat.zero_le _) (hSb k hk)
   | ret=>exact hp3.1.elim
   | exit id=>exact hp3.1.elim
   | goto t=>exact hp3.elim
   | panic ch=>exact hp3.elim
   | outgrown=>exact hp3.elim
  | ret=>exact hx.elim
  | exit id=>exact hx.elim
  | goto t=>exact hx.elim
  | panic ch=>exact hx.elim
  | outgrown=>exact hx.elim
 ·rintro S W hnf ⟨hi,hnS,hSb,hl,hk⟩
  have hlt:w.heap.size+1<W.heap.size:=(Array.getElem?_eq_some_iff.1 hl).1
  have hy:=run_yield (P:=C.P) (args:=#[(val m).1,(val m).2]) hl (by rw [hrec];rfl)
  have hy2:(Instr.yield (w.heap.size+1) #[(val m).1,(val m).2]).run C.P W = .ok (.round (w.heap.size+1) fn ((a.tmps.setIfInBounds p (val m).1).setIfInBounds p2 (val m).2) assign body) W:=by
   rw [hy,hrec];simp
  refine ⟨fn,_,assign,body,hy2,?_⟩
  have O5:Sat C.n ((p2,(val m).2)::(p,(val m).1)::e) { tmps:=(a.tmps.setIfInBounds p (val m).1).setIfInBounds p2 (val m).2,defers:=[] }:=Sat.round (D:=[]) (Sat.round (D:=a.defers) (D':=[]) ha.sat hp) hp2
  have hrun:=hassign (w.heap.size+1) (fun _ _ _=>False) m [.hook (fun a' W'=>∃ x,W.heap.size≤x∧Ext W W'∧A (val m) x W'∧Sat C.n (e1 (val m) x) a'∧a'.defers = [])] W (fun x W' hx he hA a' ha'=>⟨x,hx,he,hA,ha'.sat,ha'.defers⟩) _ ⟨O5,rfl⟩
  refine IZ trivial ?_
  refine wpIn_mono hrun ?_
  rintro ex a' W' hx
  cases ex with
  | normal =>
   obtain ⟨x,hxs,heW,hAx,hs',hd'⟩:=hx
   have hi':=hI.1 m _ (Up S) _ _ hi heW (fun k hk=>.inl hk)
   have hl':=(heW.block _ (Nat.zero_le _) hlt).trans hl
   have hk':=(heW.block _ (Nat.zero_le _) (by omega:w.heap.size<W.heap.size)).trans hk
   have hlt':w.heap.size+1<W'.heap.size:=(Array.getElem?_eq_some_iff.1 hl').1
   refine ⟨_,run_beginRound hl' (by rw [hrec]),?_⟩
   have hl2:(W'.putObj (w.heap.size+1) (.loop { rec .ready none with state:=.busy })).heap[w.heap.size+1]?=some (.loop { rec .ready none with state:=.busy }):=World.putObj_heap_same hlt'
   have hk2:(W'.putObj (w.heap.size+1) (.loop { rec .ready none with state:=.busy })).heap[w.heap.size]?=some (.deferred (some [])):=(World.putObj_heap_other (by omega)).trans hk'
   have hu2:=aQ W' (w.heap.size+1) (.loop { rec .ready none with state:=.busy })
   have hi2:=hI.2 m _ _ _ _ hi' (.inr (.inr rfl)) hu2
   have hb:=Z8 (w.heap.size+1) x (Up S) _ a' hnf hi2 (hA _ _ _ _ _ hAx (by omega) hu2) ⟨hs',hd'⟩
   refine fun b k cs hro hfn hroom=>?_
   obtain ⟨ch,a3,W3,todo,⟨rfl,hd3,hX3,hk3⟩,ht,hs3⟩:=hb b k cs hro hfn hroom
   exact ⟨_,a3,W3,todo,⟨hd3,rfl,S,hX3,(hk3 _ (.inr (.inl rfl))).trans hk2⟩,ht,hs3⟩
  | ret=>exact hx.elim
  | exit id=>exact hx.elim
  | goto t=>exact hx.elim
  | panic ch=>exact hx.elim
  | outgrown=>exact hx.elim
 ·rintro k (h|h)
  ·exact .inl h
  exact .inr (by omega)
 rintro en W2 hq
 have hfits:∀ D,D=w.heap.size→Fits { C with D:={ target:=.collected D,args:=#[] } :: C.D } e { a with defers:=[{ target:=.collected w.heap.size,args:=#[] }]++a.defers }:=by
  rintro D rfl
  exact ⟨⟨ha.sat.size,ha.sat.get⟩,by show _++a.defers=_;rw [ha.defers];rfl⟩
 rcases hq with ⟨hf,v,S,rfl,hS,hi,hnS,_,hl,hk⟩|⟨hf,rfl,S,hX,hk⟩
 ·refine ⟨none,_,by have:=run_endLoop (P:=C.P) hl (by rw [hrec];simp);rw [hrec] at this;exact this,?_⟩
  have:=hdone (Up S) _ _ hf rfl (fun k h=>.inl (hS k h)) (.inr (.inl rfl)) (hI.2 _ _ _ _ _ hi (.inr (.inr rfl)) (aQ _ (w.heap.size+1) (.loop { rec .ready none with state:=.exhausted }))) ((World.putObj_heap_other (by omega)).trans hk) _ (hfits _ rfl)
  rw [II] at this
  rw [hrec] at this
  exact this
 exact iQ _ _ _ (aaK (Up S) _ _ _ hf rfl (.inr (.inl rfl)) hX hk (hfits _ rfl))
abbrev aaL (P:Program) (fn:Func) (n:Nat) (R:Ending→World→Prop):Cx:={ P:=P,r:=none,n:=n,D:=[],Q:=bodyPost P fn R }
theorem T.aaM {P:Program} {f:FuncId} {fn:Func} {c:Code} {vs:List Value} {w:World} {R:Ending→World→Prop} {n:Nat} (hf:P.funcs[f]?=some fn) (hb:fn.body=some c) (hn:fn.ntmps=n) (hle:Nat.ble vs.length n=true)
  (h:T (aaL P fn n R) [.code c] (qm 0 vs) w):Calls P f vs.toArray w R:=by
 refine (callsIn_wide (n:=0)).1 (callsIn_of_wp hf hb trivial ?_ rfl)
 have hle':vs.length≤n:=by simpa [Nat.ble_eq] using hle
 refine h _ ⟨⟨by simp [hn];omega,fun i v hi=>?_⟩,rfl⟩
 obtain ⟨_,h2⟩:=iD vs 0 i v hi
 have hlt:i<vs.length:=by
  rcases Nat.lt_or_ge i vs.length with h' | h'
  ·exact h'
  rw [Nat.sub_zero,List.getElem?_eq_none h'] at h2;cases h2
 rw [Array.getElem?_append_left (by simpa using hlt)]
 simpa using h2
theorem T.aiF {P:Program} {fn:Func} {n:Nat} {R:Ending→World→Prop} (hres:fn.results=#[]) (h:R (.returned (.tuple #[])) w):T (aaL P fn n R) [] e w :=
 fun a ha=>⟨ha.defers,_,results_none hres _ _ _,h⟩
variable {d:Option Tmp} {ty:TypeId} {pos:String} {aft:Array Edge} {gd:Option (Nat × Bool)} {K:Value→World→Prop}
theorem O.Xq {l:Nat} {xs:List Operand} {vs:List Value} {tys:Array TypeId} {fo:Operand} {R0:World→Prop} (hr:C.r=none) (hf:ev e fo=some (.func (.yield l) #[] #[])) (hx:evs e xs=some vs)
  (hc:Z7 C.P l vs.toArray w (fun en W'=>en = .returned (.bool true)∧R0 W')) (h:∀ v w',v = .bool true∧R0 w'→K v w'):O C e ⟨d,.call { callee:=.value fo,args:=xs.toArray,argTypes:=tys },ty,pos,aft,gd⟩ w K:=by
 intro a ha next Q hn
 refine ⟨fun _ _=>trivial,?_⟩
 rw [Oper.semAt_eq _ _ _ (by simp)]
 obtain ⟨f,tmps,assign,body,hy,hrd⟩:=hc
 have hrun:(execOp a.eval ⟨d,.call { callee:=.value fo,args:=xs.toArray,argTypes:=tys },ty,pos,aft,gd⟩).run C.P w = .ok (.round l f tmps assign body) w:=by
  simp [execOp,resolve,Deferred.ofValue,invoke,ha.eval hf,ha.sat.EP hx,hy]
 rw [hrun]
 refine ⟨by simp,?_⟩
 rw [hr]
 refine hrd.mono ?_
 rintro en w' ⟨rfl,hq⟩
 exact hn _ w' (h _ w' ⟨rfl,hq⟩)
theorem L.KP {ops:Array Oper} {rest:List Oper} {l:Nat} {xs:List Operand} {vs:List Value} {tys:Array TypeId} {fo:Operand} {V:Value} {X:World→Prop} (hw:gQ ops e ⟨d,.call { callee:=.value fo,args:=xs.toArray,argTypes:=tys },ty,pos,aft,gd⟩=some true)
  (hr:C.r=none) (hf:ev e fo=some (.func (.yield l) #[] #[])) (hx:evs e xs=some vs) (hc:Z7 C.P l vs.toArray w (fun en W'=>en = .panicked (thrown V)∧X W')) (h:∀ w' a,X w'→Fits C e a→C.Q (.panic (thrown V)) a w') :
  L C k ops (⟨d,.call { callee:=.value fo,args:=xs.toArray,argTypes:=tys },ty,pos,aft,gd⟩::rest) e w:=fun a ha=>by
 unfold wpListIn
 rw [bY ha hw,if_pos rfl]
 refine ⟨fun _ _=>trivial,?_⟩
 rw [Oper.semAt_eq _ _ _ (by simp)]
 obtain ⟨f,tmps,assign,body,hy,hrd⟩:=hc
 have hrun:(execOp a.eval ⟨d,.call { callee:=.value fo,args:=xs.toArray,argTypes:=tys },ty,pos,aft,gd⟩).run C.P w = .ok (.round l f tmps assign body) w:=by
  simp [execOp,resolve,Deferred.ofValue,invoke,ha.eval hf,ha.sat.EP hx,hy]
 rw [hrun]
 refine ⟨by simp,?_⟩
 rw [hr]
 refine hrd.mono ?_
 rintro en w' ⟨rfl,hq⟩
 exact iQ _ a w' (h w' a hq ha)
theorem L.aaN {P:Program} {fn:Func} {n:Nat} {D:List Deferred} {R:Value→World→Prop} {f:FuncId} {ca:Array Value} {tys:Array TypeId} {fo:Operand} {ops:Array Oper} {rest:List Oper} (hw:gQ ops e ⟨none,.defer { callee:=.value fo,args:=#[],argTypes:=tys },ty,pos,aft,gd⟩=some true)
  (hf:ev e fo=some (.func (.func f) #[] ca)) (h:L (jI P fn n ({ target:=.fn (.func f) ca,args:=#[] } :: D) R) k ops rest e w) :
  L (jI P fn n D R) k ops (⟨none,.defer { callee:=.value fo,args:=#[],argTypes:=tys },ty,pos,aft,gd⟩::rest) e w:=fun a ha=>by
 unfold wpListIn
 rw [bY ha hw,if_pos rfl]
 refine ⟨fun _ _=>trivial,?_⟩
 rw [show (FW (jI P fn n D R).r).round=none from rfl,Oper.semAt_none]
 have hrun:(execOp a.eval ⟨none,.defer { callee:=.value fo,args:=#[],argTypes:=tys },ty,pos,aft,gd⟩).run P w = .ok (.defer { target:=.fn (.func f) ca,args:=#[] }) w:=by
  simp [execOp,resolve,Deferred.ofValue,ha.eval hf]
 rw [hrun]
 have h2:=h { a with defers:={ target:=.fn (.func f) ca,args:=#[] } :: a.defers } ⟨⟨ha.sat.size,ha.sat.get⟩,by rw [ha.defers]⟩
 rw [show run (jI P fn n ({ target:=.fn (.func f) ca,args:=#[] } :: D) R) k=run (jI P fn n D R) k from qo (jI P fn n D R) _ k] at h2
 exact h2
theorem qF {P:Program} {fn:Func} {tmps:Array Value} {R:Value→World→Prop} {f:FuncId} {D:Nat} {ca:Array Value} {u u':FrameMode} {R':World→Prop} {v:Value} {w:World} (hu:u ≠ .run) (hcl:∀ args w,(callFunc f args).run P w = .ok (.enter f args) w)
  (hD:w.heap[D]?=some (.deferred (some []))) (hc:∀ w1,Shut [D] w w1→CallsDIn (FW none) 0 P f ca u w1 fun e m w'=>(∃ x,e = .returned x)∧m=u'∧R' w') (hs:settle u' = .returning) (h:∀ w',R' w'→(results fn tmps).run P w' = .ok v w'∧R v w') :
  LeavesInM (FW none) 0 P fn tmps (Ret R) [{ target:=.collected D,args:=#[] },{ target:=.fn (.func f) ca,args:=#[] }] u w:=by
 refine ⟨hu,.inl ⟨D,_,rfl,run_takeDeferred hD,?_⟩⟩
 refine ⟨hu,.inr ⟨by simp,.func f,ca,f,ca,rfl,by simp [invoke,hcl],fun _ _=>trivial,?_⟩⟩
 have hsh:Shut [D] w (w.putObj D (.deferred none)):=⟨rfl,rfl,rfl,by simp,fun k hk=>World.putObj_heap_other (by simpa using hk)⟩
 refine (hc _ hsh).mono ?_
 rintro en m w' ⟨⟨x,rfl⟩,rfl,hR⟩
 show LeavesIn (FW none) 0 P fn tmps (Ret R) [] (settle m) w'
 rw [hs]
 obtain ⟨h1,h2⟩:=h w' hR
 exact ⟨v,h1,h2⟩
theorem Qe {c:Code} {H:Act→World→Prop} {a:Act} (hQ:C.Q=fun _ _ _=>False) (h:T C [.code c,.hook H] e w) (ha:Fits C e a):c.wpIn (FW C.r) 0 C.P (fun ex a' w'=>ex = .normal∧H a' w') a w:=by
 refine wpIn_mono (h a ha) ?_
 intro ex a' w' hx
 cases ex with
 | normal=>exact ⟨rfl,hx⟩
 | exit id=>exact (by have:C.Q _ _ _:=hx;rw [hQ] at this;exact this.elim)
 | goto l=>exact (by have:C.Q _ _ _:=hx;rw [hQ] at this;exact this.elim)
 | ret=>exact (by have:C.Q _ _ _:=hx;rw [hQ] at this;exact this.elim)
 | panic ch=>exact (by have:C.Q _ _ _:=hx;rw [hQ] at this;exact this.elim)
 | outgrown=>exact (by have:C.Q _ _ _:=hx;rw [hQ] at this;exact this.elim)
theorem T.ad8 {H:Act→World→Prop} (h:∀ a,Fits C e a→H a w):T C (.hook H::k) e w:=h
theorem UN {id:Nat} {l:List Oper} {Qp:List PanicEntry→Act→World→Prop} {a:Act} {r:Option Nat} {n:Nat} {P:Program} {D:List Deferred} (ha:Fits { P:=P,r:=r,n:=n,D:=D,Q:=fun _ _ _=>False } e a)
  (h:L { P:=P,r:=r,n:=n,D:=D,Q:=fun ex a w=>∃ ch,ex = .panic ch∧Qp ch a w } [] l.toArray l e w):WpH (FW r) 0 P (.region id l.toArray false) Qp a w:=by
 refine Na ?_
 have h1:wpListIn (FW r) 0 P l.toArray (fun ex a' w'=>∃ ch,ex = .panic ch∧Qp ch a' w') l a w:=h a ⟨ha.sat,ha.defers⟩
 rw [List.range_eq_range',← Array.length_toList,wpOpsIn_eq_wpListIn l.toArray.toList 0 (by simp)]
 simpa using h1
end
end Go.E
namespace Go.Proofs.YtnlonpcbgjbbaaaGreatDoor
open Go.Proofs.Tryz (func105 func106 func109 func111 func112 func114 func115 func116 func120 func127 func128 func129 func150 func151 func152 func153 func154 func155 func156 func161 func195 func196 func197 func198 func199 func200 func201 func202 func227 func228 func229 func230 func231 func232 func233 func234 func235 func236 func25 func256 func257 func258 func259 func26 func260 func268 func269 func27 func29 func49 func50 func54 func59 func61 func63 func64 func71 func72 func73 func75 func76 isAgg0 isAgg114 isAgg120 isAgg136 isAgg151 isAgg173 isAgg177 isAgg178 isAgg180 isAgg190 isAgg197 isAgg2 isAgg20 isAgg21 isAgg226 isAgg228 isAgg229 isAgg232 isAgg234 isAgg260 isAgg263 isAgg298 isAgg299 isAgg3 isAgg301 isAgg302 isAgg304 isAgg325 isAgg328 isAgg333 isAgg334 isAgg336 isAgg338 isAgg4 isAgg5 isAgg54 isAgg61 isAgg63 isAgg65 isAgg67 isAgg68 isAgg70 isAgg9 sizeOf0 sizeOf114 sizeOf120 sizeOf136 sizeOf151 sizeOf173 sizeOf177 sizeOf178 sizeOf180 sizeOf190 sizeOf197 sizeOf2 sizeOf20 sizeOf21 sizeOf226 sizeOf228 sizeOf229 sizeOf232 sizeOf234 sizeOf260 sizeOf263 sizeOf298 sizeOf299 sizeOf3 sizeOf301 sizeOf302 sizeOf304 sizeOf325 sizeOf328 sizeOf333 sizeOf334 sizeOf336 sizeOf338 sizeOf4 sizeOf5 sizeOf54 sizeOf61 sizeOf63 sizeOf65 sizeOf67 sizeOf68 sizeOf70 sizeOf9 zeroValue0 zeroValue114 zeroValue120 zeroValue136 zeroValue151 zeroValue173 zeroValue177 zeroValue178 zeroValue180 zeroValue190 zeroValue197 zeroValue2 zeroValue20 zeroValue21 zeroValue228 zeroValue229 zeroValue232 zeroValue234 zeroValue260 zeroValue263 zeroValue298 zeroValue3 zeroValue301 zeroValue302 zeroValue304 zeroValue325 zeroValue328 zeroValue333 zeroValue334 zeroValue336 zeroValue338 zeroValue4 zeroValue5 zeroValue54 zeroValue61 zeroValue63 zeroValue65 zeroValue67 zeroValue68 zeroValue70 zeroValue9)
open Go Go.E RowKit
attribute [local irreducible] Go.E.T Go.E.L Go.E.O Go.E.Ob
def aS (d:UInt8):Str→List Str
 | []=>[[]]
 | c::r=>if c=d then []::aS d r else match aS d r with
  | []=>[[c]]
  | w::ws=>(c::w)::ws
theorem xC (d:UInt8):∀ s,aS d s ≠ []
 | []=>by simp [aS]
 | c::r=>by
  unfold aS
  split
  ·simp
  split <;> simp
theorem su (d:UInt8) (w v:Str) (vs:List Str):Lib.join (w::v::vs) [d]=w++d::Lib.join (v::vs) [d]:=by
 simp [Lib.join,List.intercalate,List.intersperse]
theorem join_one (d:UInt8) (w:Str):Lib.join [w] [d]=w:=by simp [Lib.join,List.intercalate]
theorem xE (d:UInt8):∀ s,Lib.join (aS d s) [d]=s
 | []=>by simp [aS,join_one]
 | c::r=>by
  have ih:=xE d r
  unfold aS
  split
  ·rename_i hc
   subst hc
   cases hw:aS c r with
   | nil=>exact absurd hw (xC c r)
   | cons v vs=>rw [su,← hw,ih];rfl
  split
  ·rename_i hw;exact absurd hw (xC d r)
  rename_i v vs hw
  rw [hw] at ih
  cases vs with
  | nil=>rw [join_one] at ih ⊢;rw [ih]
  | cons u us=>rw [su] at ih ⊢;rw [← ih];rfl
theorem AO {d:UInt8} : ∀ {w:Str},d∉w→aS d w = [w]
 | [],_=>rfl
 | c::r,hw=>by
  have hc:¬ c=d:=fun e=>hw (by rw [e];exact List.mem_cons_self ..)
  unfold aS
  rw [if_neg hc,AO (fun h=>hw (List.mem_cons_of_mem _ h))]
theorem nX {d:UInt8} {t:Str} : ∀ {w:Str},d∉w→aS d (w++d::t)=w::aS d t
 | [],_=>by
  show aS d (d::t)=_
  unfold aS
  rw [if_pos rfl]
  cases t <;> rfl
 | c::r,hw=>by
  have hc:¬ c=d:=fun e=>hw (by rw [e];exact List.mem_cons_self ..)
  show aS d (c::(r++d::t))=_
  rw [aS,if_neg hc,nX (fun h=>hw (List.mem_cons_of_mem _ h))]
theorem pF (b c:UInt8) (l:Str) (h:b≠c):Lib.index (b::l) [c]=if Lib.index l [c] == -1 then -1 else Lib.index l [c]+1:=by
 have hp:([c]:List UInt8).isPrefixOf (b::l)=false:=by simp [List.isPrefixOf,Ne.symm h]
 rw [Lib.index,hp];simp
theorem xG (c:UInt8) (l:Str):Lib.index (c::l) [c]=0:=by rw [Lib.index];simp [List.isPrefixOf]
theorem aaO {s:Str} {d:UInt8} (h:d∉s):Lib.cut s [d]=(s,[],false):=by
 have:Lib.index s [d] = -1:=by
  induction s with
  | nil=>simp [Lib.index]
  | cons c r ih=>rw [pF c d r (fun e=>h (by rw [e];exact List.mem_cons_self ..)),ih (fun hh=>h (List.mem_cons_of_mem _ hh))];rfl
 rw [Lib.cut,if_neg (by omega)]
theorem I4 {a b:Str} {d:UInt8} (h:d∉a):Lib.index (a++d::b) [d]=a.length:=by
 induction a with
 | nil=>exact xG d b
 | cons c r ih =>
  show Lib.index (c::(r++d::b)) [d]=_
  rw [pF c d _ (fun e=>h (by rw [e];exact List.mem_cons_self ..)),ih (fun hh=>h (List.mem_cons_of_mem _ hh)),if_neg (by simp)]
  simp
theorem Qg {a b:Str} {d:UInt8} (h:d∉a):Lib.cut (a++d::b) [d]=(a,b,true):=by
 have hi:=I4 (b:=b) h
 rw [Lib.cut,if_pos (by omega),hi,Int.toNat_natCast]
 simp
def aF (ls:List Str):Str:=ls.flatMap fun s=>s ++ [10]
theorem uO (ls:List Str) (s:Str):aF (ls ++ [s])=aF ls++(s ++ [10]):=by simp [aF]
def sD {τ:Type} (step:τ→Str→Option τ):τ→List Str→Nat→τ ⊕ Nat
 | s,[],_=>.inl s
 | s,l::ls,n=>match step s l with
  | some s'=>sD step s' ls (n+1)
  | none=>.inr n
end Go.Proofs.YtnlonpcbgjbbaaaGreatDoor
namespace Go.Proofs
open Go.Shelf
def Tryz.lays169_ren:Go.Shelf.Ren:=⟨fun|169=>26|n=>n,fun|70=>63|9=>9|0=>0|72=>65|37=>54|127=>136|3=>3|5=>5|n=>n,fun|n=>n⟩
theorem Tryz.lays169:Go.Proofs.Lays.n169 Tryz.prog Tryz.lays169_ren:={
 mixed:=by kernel_rfl
 f169:=func26.trans (congrArg some (by kernel_rfl))
 t0:=Tryz.underlying0
 a0:=isAgg0
 z0:=sizeOf0
 v0:=zeroValue0
 t3:=Tryz.underlying3
 a3:=isAgg3
 z3:=sizeOf3
 v3:=zeroValue3
 t9:=Tryz.underlying9
 a9:=isAgg9
 z9:=sizeOf9
 v9:=zeroValue9
 t37:=Tryz.underlying54
 a37:=isAgg54
 z37:=sizeOf54
 v37:=zeroValue54
 t70:=Tryz.underlying63
 a70:=isAgg63
 z70:=sizeOf63
 v70:=zeroValue63
 t72:=Tryz.underlying65
 a72:=isAgg65
 z72:=sizeOf65
 v72:=zeroValue65
 t127:=Tryz.underlying136
 a127:=isAgg136
 z127:=sizeOf136
 v127:=zeroValue136 }
theorem Tryz.Builder_Extra_169:Builder.Extra Tryz.prog Tryz.lays169_ren:={
 sizeBuilder:=by kernel_rfl
 liesBuilder:=by kernel_rfl
 t5:=Tryz.underlying5
 a5:=isAgg5
 z5:=sizeOf5
 v5:=zeroValue5
 infoByte:=by kernel_rfl
 cellsByte:=by kernel_rfl
 sizeByte:=by kernel_rfl
 neB5:=by decide }
open Go.RowKit in
theorem Tryz.Builder_String_any (B b:Nat) (l:List UInt8) (w:World) (h:Lib.IsBuilder 65 5 B b (Lib.byteCells l) w) (hBw:B≤w.heap.size) :
  Calls Tryz.prog 26 #[.pointer (some ⟨b,0,none⟩)] w fun e w'=>e = .returned (.string ⟨l.toArray⟩)∧Below B w w':=Any.Builder_String_any Tryz.lays169 Tryz.Builder_Extra_169 B b l w h hBw
def Tryz.lays156_ren:Go.Shelf.Ren:=⟨fun|156=>50|165=>61|166=>25|169=>26|240=>72|241=>114|276=>128|277=>152|n=>n,fun|31=>61|9=>9|3=>3|4=>4|0=>0|20=>20|72=>65|76=>68|70=>63|37=>54|75=>67|127=>136|164=>197|5=>5|80=>70|n=>n,fun|n=>n⟩
theorem Tryz.lays156:Go.Proofs.Lays.n156 Tryz.prog Tryz.lays156_ren:={
 mixed:=by kernel_rfl
 f156:=func50.trans (congrArg some (by kernel_rfl))
 f165:=func61.trans (congrArg some (by kernel_rfl))
 f166:=func25.trans (congrArg some (by kernel_rfl))
 f169:=func26.trans (congrArg some (by kernel_rfl))
 f240:=func72.trans (congrArg some (by kernel_rfl))
 f241:=func114.trans (congrArg some (by kernel_rfl))
 f276:=func128.trans (congrArg some (by kernel_rfl))
 f277:=func152.trans (congrArg some (by kernel_rfl))
 t0:=Tryz.underlying0
 a0:=isAgg0
 z0:=sizeOf0
 v0:=zeroValue0
 t3:=Tryz.underlying3
 a3:=isAgg3
 z3:=sizeOf3
 v3:=zeroValue3
 t4:=Tryz.underlying4
 a4:=isAgg4
 z4:=sizeOf4
 v4:=zeroValue4
 t9:=Tryz.underlying9
 a9:=isAgg9
 z9:=sizeOf9
 v9:=zeroValue9
 t20:=Tryz.underlying20
 a20:=isAgg20
 z20:=sizeOf20
 v20:=zeroValue20
 t31:=Tryz.underlying61
 a31:=isAgg61
 z31:=sizeOf61
 v31:=zeroValue61
 t37:=Tryz.underlying54
 a37:=isAgg54
 z37:=sizeOf54
 v37:=zeroValue54
 t70:=Tryz.underlying63
 a70:=isAgg63
 z70:=sizeOf63
 v70:=zeroValue63
 t72:=Tryz.underlying65
 a72:=isAgg65
 z72:=sizeOf65
 v72:=zeroValue65
 t75:=Tryz.underlying67
 a75:=isAgg67
 z75:=sizeOf67
 v75:=zeroValue67
 t76:=Tryz.underlying68
 a76:=isAgg68
 z76:=sizeOf68
 v76:=zeroValue68
 t127:=Tryz.underlying136
 a127:=isAgg136
 z127:=sizeOf136
 v127:=zeroValue136
 t164:=Tryz.underlying197
 a164:=isAgg197
 z164:=sizeOf197
 v164:=zeroValue197 }
theorem Tryz.Builder_Extra_156:Builder.Extra Tryz.prog Tryz.lays156_ren:={
 sizeBuilder:=by kernel_rfl
 liesBuilder:=by kernel_rfl
 t5:=Tryz.underlying5
 a5:=isAgg5
 z5:=sizeOf5
 v5:=zeroValue5
 infoByte:=by kernel_rfl
 cellsByte:=by kernel_rfl
 sizeByte:=by kernel_rfl
 neB5:=by decide }
open Go.RowKit in
theorem Tryz.strings_Join (bk o c:Nat) (xs:List ByteArray) (sep:ByteArray) (w:World) (hcells:∀ (j:Nat) x,xs[j]?=some x→w.cell? ⟨bk,o+j,none⟩=some (.string x)) (hbk:bk<w.heap.size) (hN:xs.length≤140737488355328) (hcap:xs.length≤c) (hlen:(Lib.join (xs.map (·.data.toList)) sep.data.toList).length≤140737488355328) :
  Calls Tryz.prog 50 #[.slice (some ⟨bk,o,none⟩) xs.length c,.string sep] w fun e w'=>e = .returned (.string ⟨(Lib.join (xs.map (·.data.toList)) sep.data.toList).toArray⟩)∧Below w.heap.size w w':=Any.strings_Join Tryz.lays156 Tryz.Builder_Extra_156 bk o c xs sep w hcells hbk hN hcap hlen
def Tryz.laysM171_ren:Go.Shelf.Ren:=⟨fun|171=>54|243=>105|246=>150|283=>195|284=>196|285=>197|286=>198|129=>228|317=>227|318=>229|319=>230|320=>231|337=>256|338=>257|n=>n,fun|3=>3|9=>9|2=>2|4=>4|171=>260|0=>0|53=>151|37=>54|5=>5|173=>263|212=>298|51=>177|20=>20|213=>299|46=>114|232=>333|233=>334|n=>n,fun|17=>3|18=>6|19=>7|n=>n⟩
theorem Tryz.laysM171:Go.Proofs.LaysM.n171 Tryz.prog Tryz.laysM171_ren:={
 mixed:=by kernel_rfl
 f129:=func228.trans (congrArg some (by kernel_rfl))
 f171:=func54.trans (congrArg some (by kernel_rfl))
 f243:=func105.trans (congrArg some (by kernel_rfl))
 f246:=func150.trans (congrArg some (by kernel_rfl))
 f283:=func195.trans (congrArg some (by kernel_rfl))
 f284:=func196.trans (congrArg some (by kernel_rfl))
 f285:=func197.trans (congrArg some (by kernel_rfl))
 f286:=func198.trans (congrArg some (by kernel_rfl))
 f317:=func227.trans (congrArg some (by kernel_rfl))
 f318:=func229.trans (congrArg some (by kernel_rfl))
 f319:=func230.trans (congrArg some (by kernel_rfl))
 f320:=func231.trans (congrArg some (by kernel_rfl))
 f337:=func256.trans (congrArg some (by kernel_rfl))
 f338:=func257.trans (congrArg some (by kernel_rfl))
 t0:=Tryz.underlying0
 a0:=isAgg0
 z0:=sizeOf0
 v0:=zeroValue0
 t2:=Tryz.underlying2
 a2:=isAgg2
 z2:=sizeOf2
 v2:=zeroValue2
 t3:=Tryz.underlying3
 a3:=isAgg3
 z3:=sizeOf3
 v3:=zeroValue3
 t4:=Tryz.underlying4
 a4:=isAgg4
 z4:=sizeOf4
 v4:=zeroValue4
 t5:=Tryz.underlying5
 a5:=isAgg5
 z5:=sizeOf5
 v5:=zeroValue5
 t9:=Tryz.underlying9
 a9:=isAgg9
 z9:=sizeOf9
 v9:=zeroValue9
 t20:=Tryz.underlying20
 a20:=isAgg20
 z20:=sizeOf20
 v20:=zeroValue20
 t37:=Tryz.underlying54
 a37:=isAgg54
 z37:=sizeOf54
 v37:=zeroValue54
 t46:=Tryz.underlying114
 a46:=isAgg114
 z46:=sizeOf114
 v46:=zeroValue114
 t51:=Tryz.underlying177
 a51:=isAgg177
 z51:=sizeOf177
 v51:=zeroValue177
 t53:=Tryz.underlying151
 a53:=isAgg151
 z53:=sizeOf151
 v53:=zeroValue151
 t171:=Tryz.underlying260
 a171:=isAgg260
 z171:=sizeOf260
 v171:=zeroValue260
 t173:=Tryz.underlying263
 a173:=isAgg263
 z173:=sizeOf263
 v173:=zeroValue263
 t212:=Tryz.underlying298
 a212:=isAgg298
 z212:=sizeOf298
 v212:=zeroValue298
 t213:=Tryz.underlying299
 a213:=isAgg299
 z213:=sizeOf299
 t232:=Tryz.underlying333
 a232:=isAgg333
 z232:=sizeOf333
 v232:=zeroValue333
 t233:=Tryz.underlying334
 a233:=isAgg334
 z233:=sizeOf334
 v233:=zeroValue334
 g17:=by kernel_rfl
 g18:=by kernel_rfl
 g19:=by kernel_rfl
 i0:=by kernel_rfl
 i2:=by kernel_rfl
 i3:=by kernel_rfl
 i4:=by kernel_rfl
 i5:=by kernel_rfl
 i9:=by kernel_rfl
 i20:=by kernel_rfl
 i37:=by kernel_rfl
 i46:=by kernel_rfl
 i51:=by kernel_rfl
 i53:=by kernel_rfl
 i171:=by kernel_rfl
 i173:=by kernel_rfl
 i212:=by kernel_rfl
 i232:=by kernel_rfl
 i233:=by kernel_rfl
 m17:=by kernel_rfl
 m18:=by kernel_rfl
 m19:=by kernel_rfl }
open Go.RowKit Go.Sort Go.Lib in
theorem Tryz.strconv_Itoa (n : Int) (h0 : -9223372036854775808 ≤ n) (h1 : n ≤ 9223372036854775807) (w : World) (htab : Lib.TabIs Tryz.prog w "internal/strconv.uint64pow10" .u64 Lib.pow10Tab) :
  Calls Tryz.prog 54 #[.int .i64 n] w fun e w'=>e = .returned (.string ⟨(Lib.itoa n).toArray⟩)∧∃ k os,w'=grow (w.drewN k) os:=Any.strconv_Itoa Tryz.laysM171 n h0 h1 w htab
def Tryz.laysC172_ren:Go.Shelf.Ren:=⟨fun|172=>161|244=>201|245=>202|247=>232|279=>233|280=>234|281=>235|282=>236|287=>258|316=>259|171=>54|205=>260|321=>268|322=>269|243=>105|246=>150|283=>195|284=>196|285=>197|286=>198|129=>228|317=>227|318=>229|319=>230|320=>231|337=>256|338=>257|n=>n,fun|9=>9|3=>3|75=>67|76=>68|4=>4|5=>5|167=>301|37=>54|0=>0|85=>302|2=>2|168=>304|53=>151|175=>325|46=>114|210=>328|127=>136|145=>338|143=>336|21=>21|171=>260|173=>263|212=>298|51=>177|20=>20|213=>299|232=>333|233=>334|80=>70|n=>n,fun|15=>4|16=>5|17=>3|18=>6|19=>7|n=>n⟩
theorem Tryz.laysC172:Go.Proofs.LaysC.n172 Tryz.prog Tryz.laysC172_ren:={
 mixed:=by kernel_rfl
 f129:=func228.trans (congrArg some (by kernel_rfl))
 f171:=func54.trans (congrArg some (by kernel_rfl))
 f172:=func161.trans (congrArg some (by kernel_rfl))
 f205:=func260.trans (congrArg some (by kernel_rfl))
 f243:=func105.trans (congrArg some (by kernel_rfl))
 f244:=func201.trans (congrArg some (by kernel_rfl))
 f245:=func202.trans (congrArg some (by kernel_rfl))
 f246:=func150.trans (congrArg some (by kernel_rfl))
 f247:=func232.trans (congrArg some (by kernel_rfl))
 f279:=func233.trans (congrArg some (by kernel_rfl))
 f280:=func234.trans (congrArg some (by kernel_rfl))
 f281:=func235.trans (congrArg some (by kernel_rfl))
 f282:=func236.trans (congrArg some (by kernel_rfl))
 f283:=func195.trans (congrArg some (by kernel_rfl))
 f284:=func196.trans (congrArg some (by kernel_rfl))
 f285:=func197.trans (congrArg some (by kernel_rfl))
 f286:=func198.trans (congrArg some (by kernel_rfl))
 f287:=func258.trans (congrArg some (by kernel_rfl))
 f316:=func259.trans (congrArg some (by kernel_rfl))
 f317:=func227.trans (congrArg some (by kernel_rfl))
 f318:=func229.trans (congrArg some (by kernel_rfl))
 f319:=func230.trans (congrArg some (by kernel_rfl))
 f320:=func231.trans (congrArg some (by kernel_rfl))
 f321:=func268.trans (congrArg some (by kernel_rfl))
 f322:=func269.trans (congrArg some (by kernel_rfl))
 f337:=func256.trans (congrArg some (by kernel_rfl))
 f338:=func257.trans (congrArg some (by kernel_rfl))
 t0:=Tryz.underlying0
 a0:=isAgg0
 z0:=sizeOf0
 v0:=zeroValue0
 t2:=Tryz.underlying2
 a2:=isAgg2
 z2:=sizeOf2
 v2:=zeroValue2
 t3:=Tryz.underlying3
 a3:=isAgg3
 z3:=sizeOf3
 v3:=zeroValue3
 t4:=Tryz.underlying4
 a4:=isAgg4
 z4:=sizeOf4
 v4:=zeroValue4
 t5:=Tryz.underlying5
 a5:=isAgg5
 z5:=sizeOf5
 v5:=zeroValue5
 t9:=Tryz.underlying9
 a9:=isAgg9
 z9:=sizeOf9
 v9:=zeroValue9
 t20:=Tryz.underlying20
 a20:=isAgg20
 z20:=sizeOf20
 v20:=zeroValue20
 t21:=Tryz.underlying21
 a21:=isAgg21
 z21:=sizeOf21
 v21:=zeroValue21
 t37:=Tryz.underlying54
 a37:=isAgg54
 z37:=sizeOf54
 v37:=zeroValue54
 t46:=Tryz.underlying114
 a46:=isAgg114
 z46:=sizeOf114
 v46:=zeroValue114
 t51:=Tryz.underlying177
 a51:=isAgg177
 z51:=sizeOf177
 v51:=zeroValue177
 t53:=Tryz.underlying151
 a53:=isAgg151
 z53:=sizeOf151
 v53:=zeroValue151
 t75:=Tryz.underlying67
 a75:=isAgg67
 z75:=sizeOf67
 v75:=zeroValue67
 t76:=Tryz.underlying68
 a76:=isAgg68
 z76:=sizeOf68
 v76:=zeroValue68
 t85:=Tryz.underlying302
 a85:=isAgg302
 z85:=sizeOf302
 v85:=zeroValue302
 t127:=Tryz.underlying136
 a127:=isAgg136
 z127:=sizeOf136
 v127:=zeroValue136
 t143:=Tryz.underlying336
 a143:=isAgg336
 z143:=sizeOf336
 v143:=zeroValue336
 t145:=Tryz.underlying338
 a145:=isAgg338
 z145:=sizeOf338
 v145:=zeroValue338
 t167:=Tryz.underlying301
 a167:=isAgg301
 z167:=sizeOf301
 v167:=zeroValue301
 t168:=Tryz.underlying304
 a168:=isAgg304
 z168:=sizeOf304
 v168:=zeroValue304
 t171:=Tryz.underlying260
 a171:=isAgg260
 z171:=sizeOf260
 v171:=zeroValue260
 t173:=Tryz.underlying263
 a173:=isAgg263
 z173:=sizeOf263
 v173:=zeroValue263
 t175:=Tryz.underlying325
 a175:=isAgg325
 z175:=sizeOf325
 v175:=zeroValue325
 t210:=Tryz.underlying328
 a210:=isAgg328
 z210:=sizeOf328
 v210:=zeroValue328
 t212:=Tryz.underlying298
 a212:=isAgg298
 z212:=sizeOf298
 v212:=zeroValue298
 t213:=Tryz.underlying299
 a213:=isAgg299
 z213:=sizeOf299
 t232:=Tryz.underlying333
 a232:=isAgg333
 z232:=sizeOf333
 v232:=zeroValue333
 t233:=Tryz.underlying334
 a233:=isAgg334
 z233:=sizeOf334
 v233:=zeroValue334
 g15:=by kernel_rfl
 g16:=by kernel_rfl
 g17:=by kernel_rfl
 g18:=by kernel_rfl
 g19:=by kernel_rfl
 t80:=Tryz.underlying70
 a80:=isAgg70
 z80:=sizeOf70
 v80:=zeroValue70
 i0:=by kernel_rfl
 i2:=by kernel_rfl
 i3:=by kernel_rfl
 i4:=by kernel_rfl
 i5:=by kernel_rfl
 i9:=by kernel_rfl
 i20:=by kernel_rfl
 i21:=by kernel_rfl
 i37:=by kernel_rfl
 i46:=by kernel_rfl
 i51:=by kernel_rfl
 i53:=by kernel_rfl
 i75:=by kernel_rfl
 i76:=by kernel_rfl
 i80:=by kernel_rfl
 i85:=by kernel_rfl
 i127:=by kernel_rfl
 i143:=by kernel_rfl
 i145:=by kernel_rfl
 i167:=by kernel_rfl
 i168:=by kernel_rfl
 i171:=by kernel_rfl
 i173:=by kernel_rfl
 i175:=by kernel_rfl
 i210:=by kernel_rfl
 i212:=by kernel_rfl
 i232:=by kernel_rfl
 i233:=by kernel_rfl
 m15:=by kernel_rfl
 m16:=by kernel_rfl
 m17:=by kernel_rfl
 m18:=by kernel_rfl
 m19:=by kernel_rfl
 c0:=by kernel_rfl
 c2:=by kernel_rfl
 c3:=by kernel_rfl
 c4:=by kernel_rfl
 c5:=by kernel_rfl
 c9:=by kernel_rfl
 c20:=by kernel_rfl
 c21:=by kernel_rfl
 c37:=by kernel_rfl
 c46:=by kernel_rfl
 c51:=by kernel_rfl
 c53:=by kernel_rfl
 c75:=by kernel_rfl
 c76:=by kernel_rfl
 c80:=by kernel_rfl
 c85:=by kernel_rfl
 c127:=by kernel_rfl
 c143:=by kernel_rfl
 c145:=by kernel_rfl
 c167:=by kernel_rfl
 c168:=by kernel_rfl
 c171:=by kernel_rfl
 c173:=by kernel_rfl
 c175:=by kernel_rfl
 c210:=by kernel_rfl
 c212:=by kernel_rfl
 c213:=by kernel_rfl
 c232:=by kernel_rfl
 c233:=by kernel_rfl }
open Go.RowKit in
theorem Tryz.strconv_Atoi_ok (s:ByteArray) (hmax:s.size≤9223372036854775806) (v:Int) (h:Lib.atoiAll s.data.toList = .ok v) (w:World) :
  Calls Tryz.prog 161 #[.string s] w fun e w'=>e = .returned (.tuple #[.int .i64 v,.nilIface])∧(w'=w∨∃ t,w'=Lib.bytesWorld w 5 t):=Any.strconv_Atoi_ok Tryz.laysC172 s hmax v h w
open Go.RowKit in
theorem Tryz.lW (s : ByteArray) (hlim : s.size ≤ 281474976710656) (h0 : ∀ n, Lib.atoiAll s.data.toList ≠ .ok n) (h1 : Lib.atoiAll s.data.toList ≠ .range) (tp : TypeId) (p : Value) (w : World) (hvar : w.var? Tryz.prog "strconv.ErrSyntax" = some #[.iface tp p]) :
  Calls Tryz.prog 161 #[.string s] w fun e w'=>∃ N,e = .returned (.tuple #[.int .i64 0,.iface 304 (.pointer (some ⟨N,0,none⟩))])∧w.heap.size≤N∧w'.heap[N]?=some (.cells #[.string ⟨#[65,116,111,105]⟩,.string s,.iface tp p] 328 (0,0))∧Below w.heap.size w w':=by
 rcases h:Lib.atoiAll s.data.toList with n|_|_
 ·exact absurd h (h0 n)
 ·exact Any.strconv_Atoi_syntax_var Tryz.laysC172 s hlim h tp p w hvar
 exact absurd h h1
open Go.RowKit in
theorem Tryz.strconv_Atoi_range_var (s : ByteArray) (hlim : s.size ≤ 281474976710656) (h : Lib.atoiAll s.data.toList = .range) (tp : TypeId) (p : Value) (w : World) (hvar : w.var? Tryz.prog "strconv.ErrRange" = some #[.iface tp p]) :
  Calls Tryz.prog 161 #[.string s] w fun e w'=>∃ N,e = .returned (.tuple #[.int .i64 (Lib.atoiSat s.data.toList),.iface 304 (.pointer (some ⟨N,0,none⟩))])∧w.heap.size≤N∧w'.heap[N]?=some (.cells #[.string ⟨#[65,116,111,105]⟩,.string s,.iface tp p] 328 (0,0))∧Below w.heap.size w w':=Any.strconv_Atoi_range_var Tryz.laysC172 s hlim h tp p w hvar
def Tryz.lays145_ren:Go.Shelf.Ren:=⟨fun|145=>109|220=>151|219=>115|217=>153|225=>154|224=>155|267=>156|266=>199|314=>200|n=>n,fun|9=>9|4=>4|59=>173|3=>3|5=>5|46=>114|146=>178|51=>177|n=>n,fun|1=>0|n=>n⟩
theorem Tryz.lays145:Go.Proofs.Lays.n145 Tryz.prog Tryz.lays145_ren:={
 mixed:=by kernel_rfl
 f145:=func109.trans (congrArg some (by kernel_rfl))
 f217:=func153.trans (congrArg some (by kernel_rfl))
 f219:=func115.trans (congrArg some (by kernel_rfl))
 f220:=func151.trans (congrArg some (by kernel_rfl))
 f224:=func155.trans (congrArg some (by kernel_rfl))
 f225:=func154.trans (congrArg some (by kernel_rfl))
 f266:=func199.trans (congrArg some (by kernel_rfl))
 f267:=func156.trans (congrArg some (by kernel_rfl))
 f314:=func200.trans (congrArg some (by kernel_rfl))
 t3:=Tryz.underlying3
 a3:=isAgg3
 z3:=sizeOf3
 v3:=zeroValue3
 t4:=Tryz.underlying4
 a4:=isAgg4
 z4:=sizeOf4
 v4:=zeroValue4
 t5:=Tryz.underlying5
 a5:=isAgg5
 z5:=sizeOf5
 v5:=zeroValue5
 t9:=Tryz.underlying9
 a9:=isAgg9
 z9:=sizeOf9
 v9:=zeroValue9
 t46:=Tryz.underlying114
 a46:=isAgg114
 z46:=sizeOf114
 v46:=zeroValue114
 t51:=Tryz.underlying177
 a51:=isAgg177
 z51:=sizeOf177
 v51:=zeroValue177
 t59:=Tryz.underlying173
 a59:=isAgg173
 z59:=sizeOf173
 v59:=zeroValue173
 t146:=Tryz.underlying178
 a146:=isAgg178
 z146:=sizeOf178
 v146:=zeroValue178
 g1:=by kernel_rfl }
open Go.RowKit Go.Lib in
theorem Tryz.strings_Cut (s sep:ByteArray) (m:Int) (w:World) (hs:s.size<4294967281) (hm:w.cell? ⟨0,0,none⟩=some (.int .i64 m)) :
  Calls Tryz.prog 109 #[.string s,.string sep] w fun e w'=>e = .returned (.tuple #[.string ⟨(Lib.cut s.data.toList sep.data.toList).1.toArray⟩,.string ⟨(Lib.cut s.data.toList sep.data.toList).2.1.toArray⟩,.bool (Lib.cut s.data.toList sep.data.toList).2.2])∧∃ n,w'=w.drewN n:=Any.strings_Cut Tryz.lays145 s sep m w hs hm
def Tryz.lays138_ren:Go.Shelf.Ren:=⟨fun|138=>29|195=>75|218=>76|143=>63|219=>115|217=>153|225=>154|224=>155|267=>156|266=>199|314=>200|n=>n,fun|9=>9|3=>3|4=>4|5=>5|0=>0|46=>114|146=>178|51=>177|n=>n,fun|1=>0|n=>n⟩
theorem Tryz.lays138:Go.Proofs.Lays.n138 Tryz.prog Tryz.lays138_ren:={
 mixed:=by kernel_rfl
 f138:=func29.trans (congrArg some (by kernel_rfl))
 f143:=func63.trans (congrArg some (by kernel_rfl))
 f195:=func75.trans (congrArg some (by kernel_rfl))
 f217:=func153.trans (congrArg some (by kernel_rfl))
 f218:=func76.trans (congrArg some (by kernel_rfl))
 f219:=func115.trans (congrArg some (by kernel_rfl))
 f224:=func155.trans (congrArg some (by kernel_rfl))
 f225:=func154.trans (congrArg some (by kernel_rfl))
 f266:=func199.trans (congrArg some (by kernel_rfl))
 f267:=func156.trans (congrArg some (by kernel_rfl))
 f314:=func200.trans (congrArg some (by kernel_rfl))
 t0:=Tryz.underlying0
 a0:=isAgg0
 z0:=sizeOf0
 v0:=zeroValue0
 t3:=Tryz.underlying3
 a3:=isAgg3
 z3:=sizeOf3
 v3:=zeroValue3
 t4:=Tryz.underlying4
 a4:=isAgg4
 z4:=sizeOf4
 v4:=zeroValue4
 t5:=Tryz.underlying5
 a5:=isAgg5
 z5:=sizeOf5
 v5:=zeroValue5
 t9:=Tryz.underlying9
 a9:=isAgg9
 z9:=sizeOf9
 v9:=zeroValue9
 t46:=Tryz.underlying114
 a46:=isAgg114
 z46:=sizeOf114
 v46:=zeroValue114
 t51:=Tryz.underlying177
 a51:=isAgg177
 z51:=sizeOf177
 v51:=zeroValue177
 t146:=Tryz.underlying178
 a146:=isAgg178
 z146:=sizeOf178
 v146:=zeroValue178
 g1:=by kernel_rfl }
open Go.RowKit Go.Lib in
theorem Tryz.strings_Count_one (s:ByteArray) (c:UInt8) (w:World) :
  Calls Tryz.prog 29 #[.string s,.string ⟨#[c]⟩] w fun e w'=>e = .returned (.int .i64 (Lib.countByte s.data.toList c))∧w'=w:=Any.strings_Count_one Tryz.lays138 s c w
def Tryz.lays100_ren:Go.Shelf.Ren:=⟨fun|100=>106|207=>129|n=>n,fun|9=>9|4=>4|3=>3|n=>n,fun|n=>n⟩
theorem Tryz.lays100:Go.Proofs.Lays.n100 Tryz.prog Tryz.lays100_ren:={
 mixed:=by kernel_rfl
 f100:=func106.trans (congrArg some (by kernel_rfl))
 f207:=func129.trans (congrArg some (by kernel_rfl))
 t3:=Tryz.underlying3
 a3:=isAgg3
 z3:=sizeOf3
 v3:=zeroValue3
 t4:=Tryz.underlying4
 a4:=isAgg4
 z4:=sizeOf4
 v4:=zeroValue4
 t9:=Tryz.underlying9
 a9:=isAgg9
 z9:=sizeOf9
 v9:=zeroValue9 }
open Go.RowKit Go.Lib in
theorem Tryz.strings_HasSuffix (s p:ByteArray) (w:World) (hs:s.size≤9223372036854775807) :
  Calls Tryz.prog 106 #[.string s,.string p] w fun e w'=>e = .returned (.bool (Lib.hasSuffix s.data.toList p.data.toList))∧w'=w:=Any.strings_HasSuffix Tryz.lays100 s p w hs
def Tryz.lays102_ren:Go.Shelf.Ren:=⟨fun|102=>27|209=>73|207=>129|n=>n,fun|9=>9|4=>4|3=>3|n=>n,fun|n=>n⟩
theorem Tryz.lays102:Go.Proofs.Lays.n102 Tryz.prog Tryz.lays102_ren:={
 mixed:=by kernel_rfl
 f102:=func27.trans (congrArg some (by kernel_rfl))
 f207:=func129.trans (congrArg some (by kernel_rfl))
 f209:=func73.trans (congrArg some (by kernel_rfl))
 t3:=Tryz.underlying3
 a3:=isAgg3
 z3:=sizeOf3
 v3:=zeroValue3
 t4:=Tryz.underlying4
 a4:=isAgg4
 z4:=sizeOf4
 v4:=zeroValue4
 t9:=Tryz.underlying9
 a9:=isAgg9
 z9:=sizeOf9
 v9:=zeroValue9 }
open Go.RowKit Go.Lib in
theorem Tryz.strings_TrimSuffix (s p:ByteArray) (w:World) (hs:s.size≤9223372036854775807) :
  Calls Tryz.prog 27 #[.string s,.string p] w fun e w'=>e = .returned (.string ⟨(Lib.trimSuffix s.data.toList p.data.toList).toArray⟩)∧w'=w:=Any.strings_TrimSuffix Tryz.lays102 s p w hs
def Tryz.lays221_ren:Go.Shelf.Ren:=⟨fun|221=>71|268=>127|138=>29|143=>63|195=>75|197=>64|218=>76|219=>115|260=>116|217=>153|225=>154|224=>155|267=>156|266=>199|314=>200|n=>n,fun|9=>9|3=>3|31=>61|4=>4|0=>0|105=>120|21=>21|5=>5|46=>114|119=>226|139=>229|138=>228|146=>178|51=>177|n=>n,fun|1=>0|3=>1|4=>2|n=>n⟩
theorem Tryz.lays221:Go.Proofs.Lays.n221 Tryz.prog Tryz.lays221_ren:={
 mixed:=by kernel_rfl
 f138:=func29.trans (congrArg some (by kernel_rfl))
 f143:=func63.trans (congrArg some (by kernel_rfl))
 f195:=func75.trans (congrArg some (by kernel_rfl))
 f197:=func64.trans (congrArg some (by kernel_rfl))
 f217:=func153.trans (congrArg some (by kernel_rfl))
 f218:=func76.trans (congrArg some (by kernel_rfl))
 f219:=func115.trans (congrArg some (by kernel_rfl))
 f221:=func71.trans (congrArg some (by kernel_rfl))
 f224:=func155.trans (congrArg some (by kernel_rfl))
 f225:=func154.trans (congrArg some (by kernel_rfl))
 f260:=func116.trans (congrArg some (by kernel_rfl))
 f266:=func199.trans (congrArg some (by kernel_rfl))
 f267:=func156.trans (congrArg some (by kernel_rfl))
 f268:=func127.trans (congrArg some (by kernel_rfl))
 f314:=func200.trans (congrArg some (by kernel_rfl))
 t0:=Tryz.underlying0
 a0:=isAgg0
 z0:=sizeOf0
 v0:=zeroValue0
 t3:=Tryz.underlying3
 a3:=isAgg3
 z3:=sizeOf3
 v3:=zeroValue3
 t4:=Tryz.underlying4
 a4:=isAgg4
 z4:=sizeOf4
 v4:=zeroValue4
 t5:=Tryz.underlying5
 a5:=isAgg5
 z5:=sizeOf5
 v5:=zeroValue5
 t9:=Tryz.underlying9
 a9:=isAgg9
 z9:=sizeOf9
 v9:=zeroValue9
 t21:=Tryz.underlying21
 a21:=isAgg21
 z21:=sizeOf21
 v21:=zeroValue21
 t31:=Tryz.underlying61
 a31:=isAgg61
 z31:=sizeOf61
 v31:=zeroValue61
 t46:=Tryz.underlying114
 a46:=isAgg114
 z46:=sizeOf114
 v46:=zeroValue114
 t51:=Tryz.underlying177
 a51:=isAgg177
 z51:=sizeOf177
 v51:=zeroValue177
 t105:=Tryz.underlying120
 a105:=isAgg120
 z105:=sizeOf120
 v105:=zeroValue120
 t119:=Tryz.underlying226
 a119:=isAgg226
 z119:=sizeOf226
 t138:=Tryz.underlying228
 a138:=isAgg228
 z138:=sizeOf228
 v138:=zeroValue228
 t139:=Tryz.underlying229
 a139:=isAgg229
 z139:=sizeOf229
 v139:=zeroValue229
 t146:=Tryz.underlying178
 a146:=isAgg178
 z146:=sizeOf178
 v146:=zeroValue178
 g1:=by kernel_rfl
 g3:=by kernel_rfl
 g4:=by kernel_rfl }
open Go.RowKit Go.Lib in
theorem Tryz.strings_genSplit (s sep:ByteArray) (sv:Nat) (n:Int) (N:Nat) (m:Int) (w:World) (hs:s.size<4294967281) (hm:w.cell? ⟨0,0,none⟩=some (.int .i64 m)) (h1:1≤sep.size) (hsv:sv≤sep.size) (hn0:n≠0) (hn63:n≤9223372036854775807) (hN:(N:Int)=min (if n<0 then (Lib.countB s sep:Int)+1 else n) ((s.size:Int)+1)) :
  Calls Tryz.prog 71 #[.string s,.string sep,.int .i64 sv,.int .i64 n] w fun e w' =>
   e = .returned (.slice (some ⟨w.heap.size,0,none⟩) (Lib.splitB sep sv (N-1) s).length N)∧w'=w.alloc (.cells (Lib.cellsOf (Lib.splitB sep sv (N-1) s) N) 9):=Any.strings_genSplit Tryz.lays221 (by kernel_rfl) s sep sv n N m w hs hm h1 hsv hn0 hn63 hN
def Tryz.lays212_ren:Go.Shelf.Ren:=⟨fun|212=>59|263=>111|264=>112|n=>n,fun|46=>114|51=>177|146=>178|53=>151|148=>180|n=>n,fun|n=>n⟩
theorem Tryz.lays212:Go.Proofs.Lays.n212 Tryz.prog Tryz.lays212_ren:={
 mixed:=by kernel_rfl
 f212:=func59.trans (congrArg some (by kernel_rfl))
 f263:=func111.trans (congrArg some (by kernel_rfl))
 f264:=func112.trans (congrArg some (by kernel_rfl))
 t46:=Tryz.underlying114
 a46:=isAgg114
 z46:=sizeOf114
 v46:=zeroValue114
 t51:=Tryz.underlying177
 a51:=isAgg177
 z51:=sizeOf177
 v51:=zeroValue177
 t53:=Tryz.underlying151
 a53:=isAgg151
 z53:=sizeOf151
 v53:=zeroValue151
 t146:=Tryz.underlying178
 a146:=isAgg178
 z146:=sizeOf178
 v146:=zeroValue178
 t148:=Tryz.underlying180
 a148:=isAgg180
 z148:=sizeOf180
 v148:=zeroValue180 }
open Go.RowKit Go.Lib in
theorem Tryz.bits_Mul (x y:Nat) (hx:x<18446744073709551616) (hy:y<18446744073709551616) (w:World) :
  Calls Tryz.prog 59 #[.int .u64 x,.int .u64 y] w fun e w'=>e = .returned (.tuple #[.int .u64 ((x*y / 18446744073709551616:Nat):Int),.int .u64 ((x*y % 18446744073709551616:Nat):Int)])∧w'=w:=Any.bits_Mul Tryz.lays212 x y hx hy w
def Tryz.lays229_ren:Go.Shelf.Ren:=⟨fun|229=>120|n=>n,fun|9=>9|40=>190|31=>61|152=>232|3=>3|0=>0|4=>4|21=>21|154=>234|n=>n,fun|n=>n⟩
theorem Tryz.lays229:Go.Proofs.Lays.n229 Tryz.prog Tryz.lays229_ren:={
 mixed:=by kernel_rfl
 f229:=func120.trans (congrArg some (by kernel_rfl))
 t0:=Tryz.underlying0
 a0:=isAgg0
 z0:=sizeOf0
 v0:=zeroValue0
 t3:=Tryz.underlying3
 a3:=isAgg3
 z3:=sizeOf3
 v3:=zeroValue3
 t4:=Tryz.underlying4
 a4:=isAgg4
 z4:=sizeOf4
 v4:=zeroValue4
 t9:=Tryz.underlying9
 a9:=isAgg9
 z9:=sizeOf9
 v9:=zeroValue9
 t21:=Tryz.underlying21
 a21:=isAgg21
 z21:=sizeOf21
 v21:=zeroValue21
 t31:=Tryz.underlying61
 a31:=isAgg61
 z31:=sizeOf61
 v31:=zeroValue61
 t40:=Tryz.underlying190
 a40:=isAgg190
 z40:=sizeOf190
 v40:=zeroValue190
 t152:=Tryz.underlying232
 a152:=isAgg232
 z152:=sizeOf232
 v152:=zeroValue232
 t154:=Tryz.underlying234
 a154:=isAgg234
 z154:=sizeOf234
 v154:=zeroValue234 }
open Go.RowKit Go.Lib in
theorem Tryz.strings_FieldsFunc_grows (g:Nat) (lb:Array Value) (eg:∀ args w,(callFunc g args).run Tryz.prog w = .ok (.enter g args) w) (p:Nat→Bool) (s:ByteArray) (w:World) (hs:s.size≤4294967296) (hp:PredGrows Tryz.prog g lb p w) :
  Calls Tryz.prog 120 #[.string s,.func (.func g) #[] lb] w fun e w'=>∃ A,e = .returned (.slice (some ⟨A,0,none⟩) (Lib.goFieldsP p s).length (Lib.goFieldsP p s).length)∧w.heap.size≤A ∧
   w'.ownsRow w.heap.size 9 1 (.slice (some ⟨A,0,none⟩) (Lib.goFieldsP p s).length (Lib.goFieldsP p s).length) (Lib.goFieldsP p s).length ((Lib.goFieldsP p s).map Value.string)∧Below w.heap.size w w':=Any.strings_FieldsFunc_grows Tryz.lays229 g lb eg p s w hs hp (by kernel_rfl) (by kernel_rfl)
def Tryz.laysNm217_ren:Go.Shelf.Ren:=⟨fun|17=>49|n=>n,fun|24=>61|9=>9|3=>3|4=>4|0=>0|n=>n,fun|n=>n⟩
theorem Tryz.laysNm217:Go.Proofs.Lays2.n17 Tryz.prog Tryz.laysNm217_ren:={
 mixed:=by kernel_rfl
 f17:=func49.trans (congrArg some (by kernel_rfl))
 t0:=Tryz.underlying0
 a0:=isAgg0
 z0:=sizeOf0
 v0:=zeroValue0
 t3:=Tryz.underlying3
 a3:=isAgg3
 z3:=sizeOf3
 v3:=zeroValue3
 t4:=Tryz.underlying4
 a4:=isAgg4
 z4:=sizeOf4
 v4:=zeroValue4
 t9:=Tryz.underlying9
 a9:=isAgg9
 z9:=sizeOf9
 v9:=zeroValue9
 t24:=Tryz.underlying61
 a24:=isAgg61
 z24:=sizeOf61
 v24:=zeroValue61 }
open Go.RowKit Go.Lib Go.Sort in
theorem Tryz.slices_Reverse_string (blk off cap:Nat) (zs:List (List UInt8)) (w:World) (hH:Holds encStr w blk off zs.toArray) (hsz:zs.length≤9223372036854775807) :
  Calls Tryz.prog 49 #[.slice (some ⟨blk,off,none⟩) zs.length cap] w fun e w'=>e = .returned (.tuple #[])∧∃ n,w'=putRow encStr (Sort.ahead w n) blk off zs.reverse.toArray:=Any.slices_Reverse_string Tryz.laysNm217 blk off cap zs w hH hsz
end Go.Proofs
