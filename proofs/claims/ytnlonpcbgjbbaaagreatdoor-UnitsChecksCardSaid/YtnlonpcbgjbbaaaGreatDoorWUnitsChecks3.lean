/-
  UnitsChecks, part 3 of its proof: that it returns true for every input, and each argument reads behind the call as it read before. Conditions: the listed variables read as the program's text lays them (tied by the card).
-/
import Derived.Test.YtnlonpcbgjbbaaaGreatDoorWUnitsChecks2
import Derived.Laws.IdiomStrings
import Derived.Laws.StructEq
import Derived.Laws.Slices
set_option linter.unusedVariables false
set_option linter.unusedSimpArgs false
set_option linter.unusedSectionVars false
set_option linter.unnecessarySimpa false
set_option linter.unusedVariables false
set_option linter.unusedSimpArgs false
set_option linter.unusedSectionVars false
namespace Go.E
open Go.RowKit

abbrev Str:=List UInt8
def str (s:Str):Value:=.string ⟨s.toArray⟩
theorem bytes_beq (a b:Str):((⟨a.toArray⟩:ByteArray) == ⟨b.toArray⟩)=decide (a=b):=by
 show ((⟨a⟩:Array UInt8) == ⟨b⟩)=_
 by_cases h:a=b
 ·subst h;simp
 ·rw [decide_eq_false h,beq_eq_false_iff_ne]
  intro e;exact h (by simpa using e)
theorem list_beq (a b:Str):(a == b)=decide (a=b):=by by_cases h:a=b <;> simp [h]
section ops
variable {C:Cx} {e:Env} {w:World} {K:Value→World→Prop} {d:Option Tmp} {ty:TypeId} {pos:String} {aft:Array Edge} {g:Option (Nat × Bool)}
variable {x y z:Operand} {t tx ty':TypeId} {a b:Str}
theorem O.eql_str (hu:∀ w,(underlying tx).run C.P w = .ok .string w) (hx:ev e x=some (str a)) (hy:ev e y=some (str b)) (h:K (.bool (decide (a=b))) w):O C e ⟨d,.binOp .eql tx x y ty',ty,pos,aft,g⟩ w K :=
 O.of_run (by simp) (fun ac ha=>by
  simp only [execOp,ha.eval hx,ha.eval hy,eqGuard,binOp,str]
  simp only [Op.stringOp,ByteArray.toList_eq,Sem.run_bind,Sem.run_pure,Result.andThen_ok]
  simp [list_beq]) h
theorem O.neq_str (hu:∀ w,(underlying tx).run C.P w = .ok .string w) (hx:ev e x=some (str a)) (hy:ev e y=some (str b)) (h:K (.bool (!decide (a=b))) w):O C e ⟨d,.binOp .neq tx x y ty',ty,pos,aft,g⟩ w K :=
 O.of_run (by simp) (fun ac ha=>by
  simp only [execOp,ha.eval hx,ha.eval hy,eqGuard,binOp,str]
  simp only [Op.stringOp,ByteArray.toList_eq,Sem.run_bind,Sem.run_pure,Result.andThen_ok]
  simp [list_beq]) h
theorem O.eql_str_t (hu:∀ w,(underlying tx).run C.P w = .ok .string w) (hx:ev e x=some (str a)) (hy:ev e y=some (str b)) (hp:a=b) (h:K (.bool true) w):O C e ⟨d,.binOp .eql tx x y ty',ty,pos,aft,g⟩ w K:=O.eql_str hu hx hy (by rw [decide_eq_true hp];exact h)
theorem O.eql_str_f (hu:∀ w,(underlying tx).run C.P w = .ok .string w) (hx:ev e x=some (str a)) (hy:ev e y=some (str b)) (hp:¬ a=b) (h:K (.bool false) w):O C e ⟨d,.binOp .eql tx x y ty',ty,pos,aft,g⟩ w K:=O.eql_str hu hx hy (by rw [decide_eq_false hp];exact h)
theorem O.eql_str_s (hu:∀ w,(underlying tx).run C.P w = .ok .string w) (hx:ev e x=some (str a)) (hy:ev e y=some (str b)) (ht:a=b→K (.bool true) w) (hf:¬ a=b→K (.bool false) w):O C e ⟨d,.binOp .eql tx x y ty',ty,pos,aft,g⟩ w K:=O.eql_str hu hx hy (by
 by_cases hp:a=b
 ·rw [decide_eq_true hp];exact ht hp
 ·rw [decide_eq_false hp];exact hf hp)
theorem O.neq_str_s (hu:∀ w,(underlying tx).run C.P w = .ok .string w) (hx:ev e x=some (str a)) (hy:ev e y=some (str b)) (ht:¬ a=b→K (.bool true) w) (hf:a=b→K (.bool false) w):O C e ⟨d,.binOp .neq tx x y ty',ty,pos,aft,g⟩ w K:=O.neq_str hu hx hy (by
 by_cases hp:a=b
 ·rw [decide_eq_true hp];exact hf hp
 ·rw [decide_eq_false hp];exact ht hp)
theorem O.len_str (hu:∀ w,(underlying t).run C.P w = .ok .string w) (hx:ev e x=some (str a)) (h:K (.int .i64 a.length) w) :
  O C e ⟨d,.call { callee:=.builtin .len,args:=#[x],argTypes:=#[t] },ty,pos,aft,g⟩ w K :=
 O.len_string hu hx (by simpa [ByteArray.size] using h)
theorem O.index_at {kd:IntKind} {m:Int} (hu:∀ w,(underlying t).run C.P w = .ok .string w) (hx:ev e x=some (str a)) (hy:ev e y=some (.int kd m)) (h0:0≤m) (h1:m.toNat<a.length) (h:K (.int .u8 ((a.getD m.toNat 0).toNat:Int)) w) :
  O C e ⟨d,.index t x y,ty,pos,aft,g⟩ w K :=
 O.index_str (b:=a.getD m.toNat 0) hu hx hy h0 (by
  have:(⟨a.toArray⟩:ByteArray)[m.toNat]?=a[m.toNat]?:=by
   rw [List.getElem?_eq_getElem h1]
   exact getElem?_pos (⟨a.toArray⟩:ByteArray) m.toNat (by simpa [ByteArray.size] using h1)
  rw [this];simp [List.getD,h1]) h
theorem O.index_nat {kd:IntKind} {i:Nat} (hu:∀ w,(underlying t).run C.P w = .ok .string w) (hx:ev e x=some (str a)) (hy:ev e y=some (.int kd i)) (h1:i<a.length) (h:K (.int .u8 ((a.getD i 0).toNat:Int)) w) :
  O C e ⟨d,.index t x y,ty,pos,aft,g⟩ w K:=O.index_at hu hx hy (Int.natCast_nonneg _) (by simpa using h1) (by simpa using h)
theorem bytes_extract (a:Str) (l h:Nat):(⟨a.toArray⟩:ByteArray).extract l h=⟨((a.drop l).take (h-l)).toArray⟩:=by
 apply ByteArray.ext
 simp [ByteArray.data_extract,List.extract_toArray,List.extract]
theorem O.slice_str_h {kh:IntKind} {h:Int} (hu:∀ w,(underlying t).run C.P w = .ok .string w) (hx:ev e x=some (str a)) (hy:ev e y=some (.int kh h)) (h0:0≤h) (h1:h.toNat≤a.length) (hk:K (str (a.take h.toNat)) w) :
  O C e ⟨d,.slice t x none (some y) none,ty,pos,aft,g⟩ w K :=
 O.of_run (by simp) (fun ac ha=>by
  have:=run_slice_string_h (P:=C.P) w t ⟨a.toArray⟩ (underlying_of hu) kh h h0 (by simp [ByteArray.size];omega)
  rw [bytes_extract] at this
  simp only [execOp,ha.eval hx,ha.eval hy,str,Option.map_some,Option.map_none] at this ⊢
  rw [Sem.run_bind,run_sliceAt_string w _ _ _ _ _ (underlying_of hu),this];simp) hk
theorem O.slice_str_l {kl:IntKind} {l:Int} (hu:∀ w,(underlying t).run C.P w = .ok .string w) (hx:ev e x=some (str a)) (hy:ev e y=some (.int kl l)) (h0:0≤l) (h1:l.toNat≤a.length) (hk:K (str (a.drop l.toNat)) w) :
  O C e ⟨d,.slice t x (some y) none none,ty,pos,aft,g⟩ w K :=
 O.of_run (by simp) (fun ac ha=>by
  have:=run_slice_string_l (P:=C.P) w t ⟨a.toArray⟩ (underlying_of hu) kl l h0 (by simp [ByteArray.size];omega)
  rw [bytes_extract] at this
  simp only [execOp,ha.eval hx,ha.eval hy,str,Option.map_some,Option.map_none] at this ⊢
  rw [Sem.run_bind,run_sliceAt_string w _ _ _ _ _ (underlying_of hu),this];simp [ByteArray.size];exact List.take_of_length_le (by simp)) hk
theorem O.add_str (hx:ev e x=some (str a)) (hy:ev e y=some (str b)) (hn:a.length+b.length≤9223372036854775807) (h:K (str (a++b)) w):O C e ⟨d,.binOp .add tx x y ty',ty,pos,aft,g⟩ w K :=
 O.of_run (by simp) (fun ac ha=>by
  have hle:¬ (((⟨a.toArray⟩:ByteArray).size+(⟨b.toArray⟩:ByteArray).size:Nat):Int) > IntKind.i64.max:=by
   have:IntKind.i64.max=9223372036854775807:=rfl
   simp only [ByteArray.size,List.size_toArray,this];omega
  have he:((⟨a.toArray⟩:ByteArray)++⟨b.toArray⟩)=⟨(a++b).toArray⟩:=by apply ByteArray.ext;simp [ByteArray.data_append]
  simp only [execOp,ha.eval hx,ha.eval hy,eqGuard,binOp,str,Op.stringOp,he]
  rw [if_neg hle];simp) h
theorem O.bytes_str {lo:Nat} {v:Value} {s:Str} {src dst el:TypeId} (hs:∀ w,(underlying src).run C.P w = .ok (.slice el) w) (he:∀ w,(underlying el).run C.P w = .ok (.int .u8) w) (hd:∀ w,(underlying dst).run C.P w = .ok .string w)
  (hx:ev e x=some v) (hv:Ints .u8 lo w v (s.map fun c=>(c.toNat:Int))) (hn:0<s.length) (h:K (str s) w):O C e ⟨d,.convert src dst x,ty,pos,aft,g⟩ w K :=
 O.of_run (by simp) (fun ac ha=>by
  obtain ⟨cap,e1,_,_,hr⟩:=Sl.there hv (by simpa using hn)
  have:=run_convert_bytes_back w src dst el (sAddr v) cap s (underlying_of hs) (underlying_of he) (underlying_of hd) (fun j hj=>hr j _ (by simp [hj]))
  simp only [execOp,ha.eval hx,str]
  rw [e1];simp only [List.length_map]
  rw [Sem.run_bind,this];simp) h
/-! ### Parts of slices -/
theorem O.cut_l {v:Value} {n sz lo:Nat} {cs:List Value} {el:TypeId} {kd:IntKind} {m:Int} (hu:∀ w,(underlying t).run C.P w = .ok (.slice el) w) (hs:∀ w,(sizeOf el).run C.P w = .ok sz w) (hx:ev e x=some v) (hy:ev e y=some (.int kd m))
  (hv:Sl lo w v n sz cs) (h0:0≤m) (h1:m.toNat≤n) (h:∀ u,Sl lo w u (n-m.toNat) sz (cs.drop (m.toNat*sz))→K u w):O C e ⟨d,.slice t x (some y) none none,ty,pos,aft,g⟩ w K:=by
 obtain ⟨hl,oa,cap,rfl,hc,hm,hr⟩:=hv
 refine O.of_run (by simp) (fun a ha=>by
  simp [execOp,Instr.sliceAt,Instr.slice,Instr.sliceBounds,Instr.sliceBound,asIntOf,ha.eval hx,ha.eval hy,hu w,hs w,h0,(show m≤(n:Int) by omega)]
  rfl) (h _ ⟨?_,_,cap-m.toNat,rfl,by omega,by omega,?_⟩)
 ·rw [List.length_drop,hl,Nat.sub_mul]
 ·rcases hr with hr|⟨ad,e1,e2,e3⟩
  ·left;omega
  ·by_cases hc2:cap=m.toNat
   ·left;omega
   ·refine .inr ⟨ad.add (m.toNat*sz),by rw [if_neg hc2,e1];rfl,by rw [add_block];exact e2,e3.drop _⟩
end ops
open Go.RowKit

/-- Keys of a type that are compared at once. -/
structure Key {α:Type} [DecidableEq α] (kf:α→Value) (kd:TypeDesc):Prop where
 same:∀ a b,Instr.sameNow kd (kf a) (kf b)=some (decide (a=b))
 check:∀ (P:Program) (kt:TypeId) (b:Bool) (a:α) (w:World),P.underlying kt=some kd→(Instr.checkKey b 10000 kt (kf a)).run P w = .ok () w
 stays:∀ (P:Program) (a:α) (w:World),(Instr.keyThatStays (kf a) (kf a)).run P w = .ok (kf a) w
theorem key_int (q:IntKind):Key (Value.int .i64) (.int q) :=
 ⟨fun a b=>by simp only [Instr.sameNow,if_true];by_cases h:a=b <;> simp [h],fun P kt b a w h=>run_checkKey_int h b a w,fun P a w=>by simp [Instr.keyThatStays,Instr.sameBits]⟩
theorem key_str:Key str .string :=
 ⟨fun a b=>by simp only [str,Instr.sameNow,bytes_beq],fun P kt b a w h=>by
  have hn:∀ n,(Instr.checkKey b (n+1) kt (str a)).run P w = .ok () w:=fun n=>by
   simp only [Instr.checkKey,str,Sem.run_bind,run_underlying h,Result.andThen_ok]
   rfl
  exact hn 9999,fun P a w=>by
  have hb:Instr.sameBits 10000 (str a) (str a)=true:=by simp [str,Instr.sameBits,bytes_beq]
  simp [Instr.keyThatStays,hb]⟩
section maps
variable {α β:Type} [DecidableEq α] {kf:α→Value} {vf:β→Value} {kd:TypeDesc}
def gE (kf:α→Value) (vf:β→Value) (p:α × β) (i:Nat):MapEntry:={ key:=kf p.1,val:=vf p.2,born:=i }
def gEs (kf:α→Value) (vf:β→Value) (n:Nat):List (α × β)→List MapEntry
 | []=>[]
 | p::r=>gE kf vf p n::gEs kf vf (n+1) r
theorem gEs_len:∀ (kvs:List (α × β)) (n:Nat),(gEs kf vf n kvs).length=kvs.length
 | [],_=>rfl
 | p::r,n=>by simp [gEs,gEs_len r (n+1)]
theorem gEs_get:∀ (kvs:List (α × β)) (n i:Nat),(gEs kf vf n kvs)[i]?=(kvs[i]?).map (fun p=>gE kf vf p (n+i))
 | [],_,_=>by simp [gEs]
 | p::r,n,0=>by simp [gEs]
 | p::r,n,i+1=>by
  simp only [gEs,List.getElem?_cons_succ,gEs_get r (n+1) i]
  rw [show n+1+i=n+(i+1) by omega]
theorem gEs_snoc:∀ (kvs:List (α × β)) (n:Nat) (p:α × β),gEs kf vf n (kvs ++ [p])=gEs kf vf n kvs ++ [gE kf vf p (n+kvs.length)]
 | [],n,p=>by simp [gEs]
 | q::r,n,p=>by
  simp only [List.cons_append,gEs,gEs_snoc r (n+1) p,List.length_cons]
  rw [show n+1+r.length=n+(r.length+1) by omega]
/-- The map's block, whole. -/
def MapG (kf:α→Value) (vf:β→Value) (w:World) (b:Nat) (kvs:List (α × β)):Prop:=w.heap[b]?=some (.map (gEs kf vf 0 kvs).toArray kvs.length)
theorem MapG.keep {w w':World} {b lo:Nat} {kvs:List (α × β)} (h:MapG kf vf w b kvs) (k:Keep lo w w') (hl:lo≤b):MapG kf vf w' b kvs:=k.blk hl h
theorem MapG.upd {w w':World} {b b':Nat} {kvs:List (α × β)} (h:MapG kf vf w b kvs) (k:Upd b' w w') (hne:b≠b'):MapG kf vf w' b kvs:=k.blk hne h
theorem MapG.lt {w:World} {b:Nat} {kvs:List (α × β)} (h:MapG kf vf w b kvs):b<w.heap.size:=(Array.getElem?_eq_some_iff.1 h).1
theorem MapG.grown {w w':World} {b:Nat} {kvs:List (α × β)} {row:Option Nat} (h:MapG kf vf w b kvs) (hG:w.grownBy w' row) (hne:∀ j,row=some j→j≠b):MapG kf vf w' b kvs :=
 (hG.block b h.lt (fun e=>hne b e.symm rfl)).trans h
/-- Where a key stands, and its value. -/
def findG:List (α × β)→α→Nat→Option (Nat × β)
 | [],_,_=>none
 | p::r,k,i=>if k=p.1 then some (i,p.2) else findG r k (i+1)
def getG (kvs:List (α × β)) (k:α):Option β:=(findG kvs k 0).map (·.2)
def putG (kvs:List (α × β)) (k:α) (v:β):List (α × β):=match findG kvs k 0 with
 | some (i,_)=>kvs.set i (k,v)
 | none=>kvs ++ [(k,v)]
theorem findNow_g (hK:Key kf kd) (k:α):∀ (kvs:List (α × β)) (n i:Nat),Instr.findNow kd (kf k) (gEs kf vf n kvs) i=some ((findG kvs k i).map (fun p=>(p.1,vf p.2)))
 | [],_,_=>rfl
 | p::r,n,i=>by
  simp only [gEs,Instr.findNow,gE,hK.same,findG]
  by_cases h:k=p.1
  ·simp [h]
  ·simp only [decide_eq_false h,if_neg h]
   exact findNow_g hK k r (n+1) (i+1)
theorem findG_get:∀ (kvs:List (α × β)) (k:α) (n:Nat) {i:Nat} {v:β},findG kvs k n=some (i,v)→n≤i∧kvs[i-n]?=some (k,v)
 | [],_,_,_,_,h=>by cases h
 | p::r,k,n,i,v,h=>by
  simp only [findG] at h
  split at h
  ·rename_i hk;cases h;subst hk;simp
  ·obtain ⟨h1,h2⟩:=findG_get r k (n+1) h
   refine ⟨by omega,?_⟩
   rw [show i-n=(i-(n+1))+1 by omega];simpa using h2
theorem findG_shift:∀ (kvs:List (α × β)) (k:α) (n:Nat),(findG kvs k n).map (·.2)=(findG kvs k 0).map (·.2)
 | [],_,_=>rfl
 | p::r,k,n=>by
  simp only [findG]
  split
  ·rfl
  ·rw [findG_shift r k (n+1),findG_shift r k (0+1)]
theorem getG_cons (p:α × β) (r:List (α × β)) (k:α):getG (p::r) k=if k=p.1 then some p.2 else getG r k:=by
 unfold getG;simp only [findG]
 split
 ·rfl
 ·exact findG_shift r k 1
theorem getG_snoc (r:List (α × β)) (q:α × β) (k:α):getG (r ++ [q]) k=(getG r k).or (if k=q.1 then some q.2 else none):=by
 induction r with
 | nil=>rw [List.nil_append,getG_cons];simp [getG,findG]
 | cons p r ih=>rw [List.cons_append,getG_cons,getG_cons,ih];split <;> simp
theorem getG_set:∀ (r:List (α × β)) (n i:Nat) (k:α) (v u:β) (k':α),findG r k n=some (i,u)→getG (r.set (i-n) (k,v)) k'=if k'=k then some v else getG r k'
 | [],_,_,_,_,_,_,h=>by cases h
 | p::r,n,i,k,v,u,k',h=>by
  simp only [findG] at h
  split at h
  ·rename_i hk;cases h;rw [Nat.sub_self,List.set_cons_zero,getG_cons,getG_cons]
   subst hk;split <;> simp_all
  ·rename_i hk
   have hle:=(findG_get r k (n+1) h).1
   have ih:=getG_set r (n+1) i k v u k' h
   rw [show i-n=(i-(n+1))+1 by omega,List.set_cons_succ,getG_cons,getG_cons,ih]
   by_cases h1:k'=p.1
   ·have:¬ k'=k:=fun e=>hk (e▸h1)
    rw [if_pos h1,if_pos h1,if_neg this]
   ·rw [if_neg h1,if_neg h1]
/-- What a map gives behind a put. -/
theorem getG_put (kvs:List (α × β)) (k:α) (v:β) (k':α):getG (putG kvs k v) k'=if k'=k then some v else getG kvs k':=by
 unfold putG
 cases h:findG kvs k 0 with
 | none =>
  have hn:getG kvs k=none:=by unfold getG;rw [h];rfl
  rw [getG_snoc]
  by_cases hk:k'=k
  ·subst hk;simp [hn]
  ·simp [hk]
 | some p=>exact getG_set kvs 0 p.1 k v p.2 k' h
theorem getG_nil (k:α):getG ([]:List (α × β)) k=none:=rfl

section ops
variable {C:Cx} {e:Env} {w:World} {K:Value→World→Prop} {d:Option Tmp} {ty:TypeId} {pos:String} {aft:Array Edge} {g:Option (Nat × Bool)}
variable {x y z:Operand} {t kt vt:TypeId}
theorem run_findKey_g {P:Program} (hK:Key kf kd) (hk:P.underlying kt=some kd) (k:α) (kvs:List (α × β)) (w:World) :
  (Instr.findKey kt (kf k) (gEs kf vf 0 kvs)).run P w = .ok ((findG kvs k 0).map (fun p=>(p.1,vf p.2))) w:=by
 simp [Instr.findKey,run_underlying hk,findNow_g hK]
theorem O.makeMapG (h:∀ b w',b=w.heap.size→w'.heap.size=b+1→Ext w w'→MapG kf vf w' b []→K (.map (some b)) w'):O C e ⟨d,.makeMap t none,ty,pos,aft,g⟩ w K :=
 O.of_run (w':=w.alloc (.map #[] 0)) (v:=.map (some w.heap.size)) (by simp) (fun a ha=>by simp [execOp,Instr.makeMap])
  (h _ _ rfl (by simp) (Keep.alloc _ _ _) (heap_alloc_new w _))
theorem O.lookupOkG {b:Nat} {k:α} {z0:β} {kvs:List (α × β)} (hK:Key kf kd) (hu:∀ w,(underlying t).run C.P w = .ok (.map kt vt) w) (hk:∀ w,(underlying kt).run C.P w = .ok kd w) (hz:∀ w,(zeroValue vt).run C.P w = .ok (vf z0) w)
  (hx:ev e x=some (.map (some b))) (hy:ev e y=some (kf k)) (hm:MapG kf vf w b kvs) (h:K (.tuple #[vf ((getG kvs k).getD z0),.bool (getG kvs k).isSome]) w):O C e ⟨d,.lookup t x y true,ty,pos,aft,g⟩ w K :=
 O.of_run (by simp) (fun a ha=>by
  have hf:=run_findKey_g (vf:=vf) hK (underlying_of hk) k kvs w
  cases hc:findG kvs k 0 with
  | none=>rw [hc] at hf;simp [execOp,Instr.lookup,ha.eval hx,ha.eval hy,hu w,MapKept.run_getObj_map hm,hK.check _ _ _ _ _ (underlying_of hk),hf,hz w,getG,hc]
  | some p=>rw [hc] at hf;simp [execOp,Instr.lookup,ha.eval hx,ha.eval hy,hu w,MapKept.run_getObj_map hm,hK.check _ _ _ _ _ (underlying_of hk),hf,getG,hc]) h
theorem O.lookupG {b:Nat} {k:α} {z0:β} {kvs:List (α × β)} (hK:Key kf kd) (hu:∀ w,(underlying t).run C.P w = .ok (.map kt vt) w) (hk:∀ w,(underlying kt).run C.P w = .ok kd w) (hz:∀ w,(zeroValue vt).run C.P w = .ok (vf z0) w)
  (hx:ev e x=some (.map (some b))) (hy:ev e y=some (kf k)) (hm:MapG kf vf w b kvs) (h:K (vf ((getG kvs k).getD z0)) w):O C e ⟨d,.lookup t x y false,ty,pos,aft,g⟩ w K :=
 O.of_run (by simp) (fun a ha=>by
  have hf:=run_findKey_g (vf:=vf) hK (underlying_of hk) k kvs w
  cases hc:findG kvs k 0 with
  | none=>rw [hc] at hf;simp [execOp,Instr.lookup,ha.eval hx,ha.eval hy,hu w,MapKept.run_getObj_map hm,hK.check _ _ _ _ _ (underlying_of hk),hf,hz w,getG,hc]
  | some p=>rw [hc] at hf;simp [execOp,Instr.lookup,ha.eval hx,ha.eval hy,hu w,MapKept.run_getObj_map hm,hK.check _ _ _ _ _ (underlying_of hk),hf,getG,hc]) h
theorem gEs_modify (kvs:List (α × β)) (i:Nat) (p:α × β) (f:MapEntry→MapEntry) (hf:∀ q,kvs[i]?=some q→f (gE kf vf q i)=gE kf vf p i):(gEs kf vf 0 kvs).toArray.modify i f=(gEs kf vf 0 (kvs.set i p)).toArray:=by
 apply Array.ext_getElem?
 intro j
 rw [Array.getElem?_modify]
 simp only [List.getElem?_toArray,gEs_get,Nat.zero_add]
 by_cases hij:i=j
 ·subst hij
  simp only [if_true,List.getElem?_set_self']
  cases hk:kvs[i]? with
  | none=>simp
  | some q=>simp [hf q hk]
 ·rw [if_neg hij,List.getElem?_set_ne hij]
theorem O.mapUpdateG {b:Nat} {k:α} {v:β} {kvs:List (α × β)} (hK:Key kf kd) (hu:∀ w,(underlying t).run C.P w = .ok (.map kt vt) w) (hk:∀ w,(underlying kt).run C.P w = .ok kd w)
  (hx:ev e x=some (.map (some b))) (hy:ev e y=some (kf k)) (hz:ev e z=some (vf v)) (hm:MapG kf vf w b kvs) (h:∀ w',Upd b w w'→MapG kf vf w' b (putG kvs k v)→K undef w'):O C e ⟨d,.mapUpdate t x y z,ty,pos,aft,g⟩ w K:=by
 have hf:=run_findKey_g (vf:=vf) hK (underlying_of hk) k kvs w
 have hlt:=hm.lt
 cases hc:findG kvs k 0 with
 | none =>
  rw [hc] at hf
  refine O.of_skip (w':={ w with heap:=w.heap.setIfInBounds b (.map ((gEs kf vf 0 kvs).toArray.push { key:=kf k,val:=vf v,born:=kvs.length }) (kvs.length+1)) }) (by simp) (fun a ha=>by
   simp [execOp,Instr.mapUpdate,ha.eval hx,ha.eval hy,ha.eval hz,hu w,MapKept.run_getObj_map hm,hK.check _ _ _ _ _ (underlying_of hk),hf,MapKept.run_setObj_map _ hm]) (h _ ?_ ?_)
  ·exact upd_putObj w b _
  ·have e:putG kvs k v=kvs ++ [(k,v)]:=by rw [putG,hc]
   unfold MapG
   rw [e,gEs_snoc,Array.getElem?_setIfInBounds_self]
   simp [hlt,gE]
 | some p =>
  rw [hc] at hf
  obtain ⟨_,hg⟩:=findG_get kvs k 0 (i:=p.1) (v:=p.2) hc
  rw [Nat.sub_zero] at hg
  have hes:(gEs kf vf 0 kvs).toArray[p.1]?=some (gE kf vf (k,p.2) p.1):=by simp [gEs_get,hg]
  have hmod:=gEs_modify (kf:=kf) (vf:=vf) kvs p.1 (k,v) (fun e=>{ e with key:=kf k,val:=vf v }) (fun q _=>rfl)
  refine O.of_skip (w':={ w with heap:=w.heap.setIfInBounds b (.map ((gEs kf vf 0 kvs).toArray.modify p.1 fun e=>{ e with key:=kf k,val:=vf v }) kvs.length) }) (by simp) (fun a ha=>by
   have hst:=hK.stays C.P k w
   simp only [execOp,Instr.mapUpdate,ha.eval hx,ha.eval hy,ha.eval hz,Sem.run_bind,hu w,Result.andThen_ok,MapKept.run_getObj_map hm,hK.check _ _ _ _ _ (underlying_of hk),hf,Option.map_some]
   rw [hes]
   simp [gE,hst,MapKept.run_setObj_map _ hm]) (h _ ?_ ?_)
  ·exact upd_putObj w b _
  ·have e:putG kvs k v=kvs.set p.1 (k,v):=by rw [putG,hc]
   unfold MapG
   rw [hmod,e,Array.getElem?_setIfInBounds_self]
   simp [hlt]
end ops
end maps
open Go.RowKit
theorem Ints.ext {kd:IntKind} {lo:Nat} {w w':World} {v:Value} {us:List Int} (h:Ints kd lo w v us) (k:Ext w w'):Ints kd lo w' v us:=h.keep (k.mono (Nat.zero_le _))
theorem Sl.ext {lo n sz:Nat} {w w':World} {v:Value} {cs:List Value} (h:Sl lo w v n sz cs) (k:Ext w w'):Sl lo w' v n sz cs:=h.keep (k.mono (Nat.zero_le _))
theorem Blk.ext {w w':World} {b:Nat} {cs:List Value} {t:TypeId} (h:Blk w b cs t) (k:Ext w w'):Blk w' b cs t:=h.keep k (Nat.zero_le _)
theorem MapG.ext {α β:Type} [DecidableEq α] {kf:α→Value} {vf:β→Value} {w w':World} {b:Nat} {kvs:List (α × β)} (h:MapG kf vf w b kvs) (k:Ext w w'):MapG kf vf w' b kvs:=h.keep k (Nat.zero_le _)
section bools
variable {C:Cx} {e:Env} {w:World} {K:Value→World→Prop} {d:Option Tmp} {ty:TypeId} {pos:String} {aft:Array Edge} {g:Option (Nat × Bool)}
variable {x y:Operand} {tx ty':TypeId} {p q:Bool}
theorem O.eql_bool_f (hu:∀ w,(underlying tx).run C.P w = .ok .bool w) (hx:ev e x=some (.bool p)) (hy:ev e y=some (.bool q)) (hp:p≠q) (h:K (.bool false) w):O C e ⟨d,.binOp .eql tx x y ty',ty,pos,aft,g⟩ w K :=
 O.eql_bool hu hx hy (by rw [show (p == q)=false by simpa using hp];exact h)
/-- A slice beside nil. -/
theorem O.eql_nil {oa:Option Addr} {n cap:Nat} {el:TypeId} (hu:∀ w,(underlying tx).run C.P w = .ok (.slice el) w) (hx:ev e x=some (.slice oa n cap)) (hy:ev e y=some (.slice none 0 0)) (h:K (.bool oa.isNone) w):O C e ⟨d,.binOp .eql tx x y ty',ty,pos,aft,g⟩ w K :=
 O.of_run (by simp) (fun a ha=>by
  have key:∀ dd,(Op.equalIn (dd+1) tx (.slice oa n cap) (.slice none 0 0)).run C.P w = .ok oa.isNone w:=fun dd=>by cases oa <;> simp [Op.equalIn,hu w]
  have k2:(Op.equal tx (.slice oa n cap) (.slice none 0 0)).run C.P w = .ok oa.isNone w:=key 9999
  simp only [execOp,ha.eval hx,ha.eval hy,eqGuard,binOp];simp [k2]) h
theorem O.eql_nil_s {v:Value} {n sz lo:Nat} {cs:List Value} {el:TypeId} (hu:∀ w,(underlying tx).run C.P w = .ok (.slice el) w) (hx:ev e x=some v) (hy:ev e y=some (.slice none 0 0)) (hv:Sl lo w v n sz cs) (ht:n=0→K (.bool true) w) (hf:True→K (.bool false) w) :
  O C e ⟨d,.binOp .eql tx x y ty',ty,pos,aft,g⟩ w K:=by
 obtain ⟨hl,oa,cap,rfl,hc,hm,hr⟩:=hv
 refine O.eql_nil hu hx hy ?_
 cases oa with
 | none=>exact ht (by rcases hr with hr|⟨a,h,_⟩;exact hr;cases h)
 | some a=>exact hf trivial
end bools
/-- A struct or an array that lies in cells, and a slot. -/
theorem T.retAT {k:List It} {e:Env} {w:World} {P:Program} {fn:Func} {n m:Nat} {R:Value→World→Prop} {s s2:Tmp} {t:TypeId} {ad:Addr} {cs:List Value} {v2:Value} (hres:fn.results=#[.cell s t,.tmp s2]) (hg:∀ w,(isAgg t).run P w = .ok true w) (hs:∀ w,(sizeOf t).run P w = .ok m w) (hn:cs.length=m)
  (hv:look e s=some (.pointer (some ad))) (h2:look e s2=some v2) (hr:Row w ad cs) (h:R (.tuple #[.agg cs.toArray,v2]) w):T (fnCx P fn n R) (.code .ret::k) e w :=
 T.ret fun a ha=>bodyPost_ret (v:=.tuple #[.agg cs.toArray,v2]) (by
  subst hn
  have h1:=ha.sat.get s _ hv
  have e2:=ha.sat.get s2 _ h2
  simp [results,hres,Array.getD_eq_getD_getElem?,h1,e2,loadVar,asAddr,hg,hs,run_loadCells_list w ad cs hr]) ha.defers h
/-- Three cells of plain types and a slot, with marks. -/
theorem T.retC3T {k:List It} {e:Env} {w:World} {P:Program} {fn:Func} {n:Nat} {R:Value→World→Prop} {s s' s'' s4:Tmp} {t t' t'':TypeId} {a1 a2 a3:Addr} {v v' v'' v4:Value} {ds:List Nat} (hres:fn.results=#[.cell s t,.cell s' t',.cell s'' t'',.tmp s4])
  (hg:∀ w,(isAgg t).run P w = .ok false w) (hg':∀ w,(isAgg t').run P w = .ok false w) (hg'':∀ w,(isAgg t'').run P w = .ok false w)
  (hs:look e s=some (.pointer (some a1))) (hs':look e s'=some (.pointer (some a2))) (hs'':look e s''=some (.pointer (some a3))) (hs4:look e s4=some v4) (ho:Opn ds w)
  (hc:∀ w',Shut ds w w'→w'.cell? a1=some v∧w'.cell? a2=some v'∧w'.cell? a3=some v'') (h:∀ w',Shut ds w w'→R (.tuple #[v,v',v'',v4]) w'):T (fnCxM P fn n (coll ds) R) (.code .ret::k) e w :=
 T.ret fun a ha=>by
  show LeavesInM _ _ _ _ _ _ a.defers _ _
  rw [ha.defers]
  refine leaves_marks (v:=.tuple #[v,v',v'',v4]) ds w ho fun w' hw'=>⟨?_,h w' hw'⟩
  have h1:=ha.sat.get s _ hs
  have h2:=ha.sat.get s' _ hs'
  have h3:=ha.sat.get s'' _ hs''
  have h4:=ha.sat.get s4 _ hs4
  obtain ⟨c1,c2,c3⟩:=hc w' hw'
  simp [results,hres,Array.getD_eq_getD_getElem?,h1,h2,h3,h4,loadVar,asAddr,hg,hg',hg'',c1,c2,c3]
open Go.RowKit
section
variable {C:Cx} {k:List It} {e:Env} {w:World} {K:Value→World→Prop} {d:Option Tmp} {ty:TypeId} {pos:String} {aft:Array Edge} {g:Option (Nat × Bool)}
/-- AN ITERATOR'S CONTRACT, of two values: its steps ('Next': from a state, by a value, to a state), from 's0' to 'sE'; what it leans on in every world ('Inv'); the blocks that a round must keep from the start ('S0'). -/
def SeqC2 (P:Program) (gf:FuncId) (lb:Array Value) {σ:Type} (Next:σ→Value × Value→σ→Prop) (s0 sE:σ) (Inv:World→Prop) (S0:Nat→Prop) (Pre:World→Prop):Prop :=
 ∀ (l:Nat) (J:σ→(Nat→Prop)→World→Prop) (X:World→Prop) (W:World),Stab J→(∀ i S W,J i S W→Inv W) →
  (∀ i v j S W,Next i v j→J i S W→Yld P l #[v.1,v.2] W fun u W'=>(u = .bool true∧J j S W'∧∀ k,S k→W'.heap[k]?=W.heap[k]?)∨(u = .bool false∧X W')) →
  J s0 S0 W→Pre W→Calls P gf (#[.func (.yield l) #[] #[]]++lb) W (Ret fun _ W'=>(∃ S,(∀ k,S0 k→S k)∧J sE S W')∨X W')

theorem T.rangeFunc2 {σ:Type} (I:σ→(Nat→Prop)→World→Prop) (X:Code→(Nat→Prop)→World→Prop) {g:Operand} {p p2:Tmp} {assign body:Code} {gf:FuncId} {lb:Array Value} {Next:σ→Value × Value→σ→Prop} {s0 sE:σ}
  {Inv:World→Prop} {S0:Nat→Prop} {Pre:World→Prop} {e1:Value × Value→Nat→Env} (A:Value × Value→Nat→World→Prop) (hr:C.r=none) (hg:ev e g=some (.func (.func gf) #[] lb)) (hcl:∀ args w,(callFunc gf args).run C.P w = .ok (.enter gf args) w) (hp:dstOk C.n (some p)=true) (hp2:dstOk C.n (some p2)=true)
  (hseq:SeqC2 C.P gf lb Next s0 sE Inv S0 Pre) (hI:Stab I) (hX:∀ c S W W' b,X c S W→S b→Upd b W W'→X c S W') (hInv:∀ i S W,I i S W→Inv W) (h0:I s0 S0 w) (hS0:∀ k,S0 k→k<w.heap.size) (hPre:∀ W,Ext w W→Pre W)
  (hA:∀ v x W W' b,A v x W→b≠x→Upd b W W'→A v x W')
  (hassign:∀ (l:Nat) (Q:Exit→Act→World→Prop) (i j:σ) (v:Value × Value) (k:List It) (W:World),Next i v j→(∀ x W',W.heap.size≤x→Ext W W'→A v x W'→T (rCx C l Q) k (e1 v x) W')→T (rCx C l Q) (.code assign::k) ((p2,v.2)::(p,v.1)::e) W)
  (hbody:∀ (l:Nat) (i:σ) (v:Value × Value) (x:Nat) (j:σ) (S:Nat→Prop) (W:World),Next i v j→I i S W→A v x W→T (rCx C l (RQ I X j S W)) [.code body] (e1 v x) W)
  (hdone:∀ (S:Nat→Prop) (D:Nat) (W:World),D=w.heap.size→(∀ k,S0 k→S k)→S D→I sE S W→W.heap[D]?=some (.deferred (some []))→T { C with D:={ target:=.collected D,args:=#[] } :: C.D } k e W)
  (hstop:∀ (c:Code) (S:Nat→Prop) (D:Nat) (W:World),D=w.heap.size→S D→X c S W→W.heap[D]?=some (.deferred (some []))→T { C with D:={ target:=.collected D,args:=#[] } :: C.D } (.code c::k) e W) :
  T C (.code (.rangeFunc g #[p,p2] assign body)::k) e w:=fun a ha=>by
 have hrunD:∀ (D:List Deferred) (k:List It),run { C with D:=D } k=run C k:=by
  intro D k
  induction k with
  | nil=>rfl
  | cons it k ih=>cases it <;> simp only [run,ih]
 show (Code.rangeFunc g #[p,p2] assign body).wpIn _ _ _ _ _ _
 refine wpIn_rangeFunc ?_
 intro fn hfn
 rw [show (FW C.r).round=none from hr]
 obtain ⟨rec,hrec⟩:∃ rec:LoopState→Option Code→Loop,rec=fun st pe=>{ state:=st,pending:=pe,fn,tmps:=a.tmps,params:=#[p,p2],assign,body,defers:=w.heap.size }:=⟨_,rfl⟩
 obtain ⟨W1,hW1⟩:∃ W1,(w.alloc (.deferred (some []))).alloc (.loop (rec .ready none))=W1:=⟨_,rfl⟩
 have hL1:W1.heap[w.heap.size+1]?=some (.loop (rec .ready none)):=by
  rw [← hW1];have:=World.alloc_heap_new (w.alloc (.deferred (some []))) (.loop (rec .ready none));rwa [World.size_alloc] at this
 have hK1:W1.heap[w.heap.size]?=some (.deferred (some [])):=by
  rw [← hW1];exact (Below.heap_alloc _ _ _ (by simp)).trans (World.alloc_heap_new w _)
 have he1:Ext w W1:=by rw [← hW1];exact (Keep.alloc 0 w _).trans (Keep.alloc 0 _ _)
 have hz1:W1.heap.size=w.heap.size+2:=by rw [← hW1];simp
 let Up (S:Nat→Prop):Nat→Prop:=fun k=>S k∨k=w.heap.size∨k=w.heap.size+1
 refine ⟨w.heap.size+1,[{ target:=.collected w.heap.size,args:=#[] }],W1,{ target:=.fn (.func gf) lb,args:=#[.func (.yield (w.heap.size+1)) #[] #[]] },W1,gf,
  #[.func (.yield (w.heap.size + 1)) #[] #[]] ++ lb, W1, ?_, ?_, fun _ _ => trivial, ?_, by simp, CallsIn.of_calls ?_⟩
 ·rw [← hW1,hrec];exact run_enterLoop_outer _ _ _ _ _
 ·simp only [resolve,ha.eval hg]
  simp [go_sem]
 ·simp [invoke,go_sem,hcl]
 ·let J:σ→(Nat→Prop)→World→Prop:=fun i S W=>I i (Up S) W∧(¬ S w.heap.size∧¬ S (w.heap.size+1))∧(∀ k,S k→k<W.heap.size)∧W.heap[w.heap.size+1]?=some (.loop (rec .ready none))∧W.heap[w.heap.size]?=some (.deferred (some []))
  let X':World→Prop:=fun W=>∃ c S,X c (Up S) W∧W.heap[w.heap.size+1]?=some (.loop (rec .done (some c)))∧W.heap[w.heap.size]?=some (.deferred (some []))
  have hJ:Stab J:=by
   refine ⟨?_,?_⟩
   ·rintro i S S' W W' ⟨h1,⟨hn1,hn2⟩,hSb,hl,hk⟩ he hS
    have hlt:=(Array.getElem?_eq_some_iff.1 hl).1
    refine ⟨hI.1 i _ _ W W' h1 he ?_,⟨?_,?_⟩,fun k hk=>(hS k hk).elim (fun h=>Nat.lt_of_lt_of_le (hSb k h) he.size) (fun h=>h.2),(he.block _ (Nat.zero_le _) hlt).trans hl,(he.block _ (Nat.zero_le _) (by omega)).trans hk⟩
    ·rintro k (h|h)
     ·exact (hS k h).imp .inl id
     ·exact .inl (.inr h)
    ·intro h;rcases hS _ h with h|h
     ·exact hn1 h
     ·omega
    ·intro h;rcases hS _ h with h|h
     ·exact hn2 h
     ·omega
   ·rintro i S W W' b ⟨h1,⟨hn1,hn2⟩,hSb,hl,hk⟩ hb hu
    refine ⟨hI.2 i _ W W' b h1 (.inl hb) hu,⟨hn1,hn2⟩,fun k hk=>by rw [hu.size];exact hSb k hk,(hu.block _ ?_).trans hl,(hu.block _ ?_).trans hk⟩
    ·rintro rfl;exact hn2 hb
    ·rintro rfl;exact hn1 hb
  refine (hseq (w.heap.size+1) J X' W1 hJ (fun i S W h=>hInv i _ W h.1) ?_ ⟨hI.1 _ _ _ w W1 h0 he1 ?_,⟨fun h=>by have:=hS0 _ h;omega,fun h=>by have:=hS0 _ h;omega⟩,fun k hk=>by have:=hS0 k hk;omega,hL1,hK1⟩ (hPre _ he1)).mono ?_
  ·rintro i v j S W hn ⟨hi,hnS,hSb,hl,hk⟩
   have hlt:w.heap.size+1<W.heap.size:=(Array.getElem?_eq_some_iff.1 hl).1
   have hy:=run_yield (P:=C.P) (args:=#[v.1,v.2]) hl (by rw [hrec];rfl)
   have hy2:(Instr.yield (w.heap.size+1) #[v.1,v.2]).run C.P W = .ok (.round (w.heap.size+1) fn ((a.tmps.setIfInBounds p v.1).setIfInBounds p2 v.2) assign body) W:=by
    rw [hy,hrec];simp
   refine ⟨fn,_,assign,body,hy2,?_⟩
   have hsat:Sat C.n ((p2,v.2)::(p,v.1)::e) { tmps:=(a.tmps.setIfInBounds p v.1).setIfInBounds p2 v.2,defers:=[] }:=Sat.round (D:=[]) (Sat.round (D:=a.defers) (D':=[]) ha.sat hp) hp2
   have hrun:=hassign (w.heap.size+1) (fun _ _ _=>False) i j v [.hook (fun a' W'=>∃ x,W.heap.size≤x∧Ext W W'∧A v x W'∧Sat C.n (e1 v x) a'∧a'.defers = [])] W hn (fun x W' hx he hA a' ha'=>⟨x,hx,he,hA,ha'.sat,ha'.defers⟩) _ ⟨hsat,rfl⟩
   refine roundIn_of_wpIn trivial ?_
   refine wpIn_mono hrun ?_
   rintro ex a' W' hx
   cases ex with
   | normal =>
    obtain ⟨x,hxs,heW,hAx,hs',hd'⟩:=hx
    have hi':=hI.1 i _ (Up S) _ _ hi heW (fun k hk=>.inl hk)
    have hl':=(heW.block _ (Nat.zero_le _) hlt).trans hl
    have hk':=(heW.block _ (Nat.zero_le _) (by omega:w.heap.size<W.heap.size)).trans hk
    have hlt':w.heap.size+1<W'.heap.size:=(Array.getElem?_eq_some_iff.1 hl').1
    refine ⟨_,run_beginRound hl' (by rw [hrec]),?_⟩
    have hl2:(W'.putObj (w.heap.size+1) (.loop { rec .ready none with state:=.busy })).heap[w.heap.size+1]?=some (.loop { rec .ready none with state:=.busy }):=World.putObj_heap_same hlt'
    have hk2:(W'.putObj (w.heap.size+1) (.loop { rec .ready none with state:=.busy })).heap[w.heap.size]?=some (.deferred (some [])):=(World.putObj_heap_other (by omega)).trans hk'
    have hu2:=upd_putObj W' (w.heap.size+1) (.loop { rec .ready none with state:=.busy })
    have hi2:=hI.2 i _ _ _ _ hi' (.inr (.inr rfl)) hu2
    have hb:=hbody (w.heap.size+1) i v x j (Up S) _ hn hi2 (hA _ _ _ _ _ hAx (by omega) hu2)
    refine wpIn_mono (hb a' ⟨hs',hd'⟩) ?_
    have fin:∀ (jump:Option Code) (W3:World),(∀ k,Up S k→W3.heap[k]?=(W'.putObj (w.heap.size+1) (.loop { rec .ready none with state:=.busy })).heap[k]?) →
      (Instr.endRound (w.heap.size+1) jump).run C.P W3 = .ok (.bool jump.isNone) (W3.putObj (w.heap.size+1) (.loop (rec (if jump.isNone then .ready else .done) jump))) ∧
      (W3.putObj (w.heap.size+1) (.loop (rec (if jump.isNone then .ready else .done) jump))).heap[w.heap.size+1]?=some (.loop (rec (if jump.isNone then .ready else .done) jump)) ∧
      (W3.putObj (w.heap.size+1) (.loop (rec (if jump.isNone then .ready else .done) jump))).heap[w.heap.size]?=some (.deferred (some [])) ∧
      (∀ k,S k→(W3.putObj (w.heap.size+1) (.loop (rec (if jump.isNone then .ready else .done) jump))).heap[k]?=W'.heap[k]?):=fun jump W3 hk3=>by
     have hl3:=(hk3 _ (.inr (.inr rfl))).trans hl2
     have:=run_endRound (P:=C.P) jump hl3
     have hk4:=(hk3 _ (.inr (.inl rfl))).trans hk2
     refine ⟨by rw [hrec] at this ⊢;exact this,World.putObj_heap_same (Array.getElem?_eq_some_iff.1 hl3).1,(World.putObj_heap_other (by omega)).trans hk4,fun k hk=>?_⟩
     have hne:k≠w.heap.size+1:=by rintro rfl;exact hnS.2 hk
     rw [World.putObj_heap_other hne,hk3 k (.inl hk),World.putObj_heap_other hne]
    rintro ex a3 W3 hp3
    cases ex with
    | normal =>
     obtain ⟨hi3,hk3⟩:=hp3
     obtain ⟨hr3,hl4,hk4,hS4⟩:=fin none W3 hk3
     refine ⟨_,_,hr3,.inl ⟨rfl,⟨hI.2 _ _ _ _ _ hi3 (.inr (.inr rfl)) (upd_putObj _ _ _),hnS,fun k hk=>?_,hl4,hk4⟩,fun k hk=>?_⟩⟩
     ·have hlt3:=Nat.lt_of_lt_of_le (hSb k hk) heW.size
      have h:=hS4 k hk
      rw [Array.getElem?_eq_getElem hlt3] at h
      exact (Array.getElem?_eq_some_iff.1 h).1
     rw [hS4 k hk]
     exact heW.block k (Nat.zero_le _) (hSb k hk)
    | ret =>
     obtain ⟨hi3,hk3⟩:=hp3
     obtain ⟨hr3,hl4,hk4,_⟩:=fin (some .ret) W3 hk3
     exact ⟨_,_,hr3,.inr ⟨rfl,.ret,S,hX _ _ _ _ _ hi3 (.inr (.inr rfl)) (upd_putObj _ _ _),hl4,hk4⟩⟩
    | exit id =>
     obtain ⟨hi3,hk3⟩:=hp3
     obtain ⟨hr3,hl4,hk4,_⟩:=fin (some (.exit id)) W3 hk3
     exact ⟨_,_,hr3,.inr ⟨rfl,.exit id,S,hX _ _ _ _ _ hi3 (.inr (.inr rfl)) (upd_putObj _ _ _),hl4,hk4⟩⟩
    | goto t=>exact hp3.elim
    | panic ch=>exact hp3.elim
    | outgrown=>exact hp3.elim
   | ret=>exact hx.elim
   | exit id=>exact hx.elim
   | goto t=>exact hx.elim
   | panic ch=>exact hx.elim
   | outgrown=>exact hx.elim
  ·rintro k (h|h)
   ·exact .inl h
   ·exact .inr (by omega)
  ·rintro en W2 hq
   cases en with
   | panicked c=>exact hq.elim
   | outgrown=>exact hq.elim
   | returned v =>
    have hfits:∀ D,D=w.heap.size→Fits { C with D:={ target:=.collected D,args:=#[] } :: C.D } e { a with defers:=[{ target:=.collected w.heap.size,args:=#[] }]++a.defers }:=by
     rintro D rfl
     exact ⟨⟨ha.sat.size,ha.sat.get⟩,by show _++a.defers=_;rw [ha.defers];rfl⟩
    rcases hq with ⟨S,hS,hi,hnS,_,hl,hk⟩|⟨c,S,hi,hl,hk⟩
    ·refine ⟨none,_,by have:=run_endLoop (P:=C.P) hl (by rw [hrec];simp);rw [hrec] at this;exact this,?_⟩
     have:=hdone (Up S) _ _ rfl (fun k h=>.inl (hS k h)) (.inr (.inl rfl)) (hI.2 _ _ _ _ _ hi (.inr (.inr rfl)) (upd_putObj _ (w.heap.size+1) (.loop { rec .ready none with state:=.exhausted }))) ((World.putObj_heap_other (by omega)).trans hk) _ (hfits _ rfl)
     rw [hrunD] at this
     rw [hrec] at this
     exact this
    ·refine ⟨some c,_,by have:=run_endLoop (P:=C.P) hl (by rw [hrec];simp);rw [hrec] at this;exact this,?_⟩
     have:=hstop c (Up S) _ _ rfl (.inr (.inl rfl)) (hX _ _ _ _ _ hi (.inr (.inr rfl)) (upd_putObj _ (w.heap.size+1) (.loop { rec .done (some c) with state:=.exhausted }))) ((World.putObj_heap_other (by omega)).trans hk) _ (hfits _ rfl)
     have h2:run { C with D:={ target:=.collected w.heap.size,args:=#[] } :: C.D } (.code c::k)=run C (.code c::k):=hrunD _ _
     rw [h2] at this
     rw [hrec] at this
     exact this
theorem T.rangeFuncM2 {P:Program} {fn:Func} {n:Nat} {R:Value→World→Prop} {ds:List Nat} {σ:Type} (I:σ→(Nat→Prop)→World→Prop) (X:Code→(Nat→Prop)→World→Prop) {g:Operand} {p p2:Tmp} {assign body:Code} {gf:FuncId} {lb:Array Value} {Next:σ→Value × Value→σ→Prop} {s0 sE:σ}
  {Inv:World→Prop} {S0:Nat→Prop} {Pre:World→Prop} {e1:Value × Value→Nat→Env} (A:Value × Value→Nat→World→Prop) (hg:ev e g=some (.func (.func gf) #[] lb)) (hcl:∀ args w,(callFunc gf args).run P w = .ok (.enter gf args) w) (hp:dstOk n (some p)=true) (hp2:dstOk n (some p2)=true)
  (hseq:SeqC2 P gf lb Next s0 sE Inv S0 Pre) (hI:Stab I) (hX:∀ c S W W' b,X c S W→S b→Upd b W W'→X c S W') (hInv:∀ i S W,I i S W→Inv W) (h0:I s0 S0 w) (hS0:∀ k,S0 k→k<w.heap.size) (hPre:∀ W,Ext w W→Pre W)
  (hA:∀ v x W W' b,A v x W→b≠x→Upd b W W'→A v x W')
  (hassign:∀ (l:Nat) (Q:Exit→Act→World→Prop) (i j:σ) (v:Value × Value) (k:List It) (W:World),Next i v j→(∀ x W',W.heap.size≤x→Ext W W'→A v x W'→T (rCx (fnCxM P fn n (coll ds) R) l Q) k (e1 v x) W')→T (rCx (fnCxM P fn n (coll ds) R) l Q) (.code assign::k) ((p2,v.2)::(p,v.1)::e) W)
  (hbody:∀ (l:Nat) (i:σ) (v:Value × Value) (x:Nat) (j:σ) (S:Nat→Prop) (W:World),Next i v j→I i S W→A v x W→T (rCx (fnCxM P fn n (coll ds) R) l (RQ I X j S W)) [.code body] (e1 v x) W)
  (hdone:∀ (S:Nat→Prop) (D:Nat) (W:World),D=w.heap.size→(∀ k,S0 k→S k)→S D→I sE S W→W.heap[D]?=some (.deferred (some []))→T (fnCxM P fn n (coll (D::ds)) R) k e W)
  (hstop:∀ (c:Code) (S:Nat→Prop) (D:Nat) (W:World),D=w.heap.size→S D→X c S W→W.heap[D]?=some (.deferred (some []))→T (fnCxM P fn n (coll (D::ds)) R) (.code c::k) e W) :
  T (fnCxM P fn n (coll ds) R) (.code (.rangeFunc g #[p,p2] assign body)::k) e w :=
 T.rangeFunc2 (C:=fnCxM P fn n (coll ds) R) I X A rfl hg hcl hp hp2 hseq hI hX hInv h0 hS0 hPre hA hassign hbody hdone hstop
end
open Go.RowKit

/-- As 'ObK', with what is asked of the value beside the world ahead. -/
def ObX (C:Cx) (ops:Array Oper) (e:Env) (o:Oper) (f:Fact) (w:World) (X:Value→World→World→Prop) (J:World→Prop):Prop :=
 (wantE ops e o=some true∧O C e o w (fun v w'=>J w'∧f.holds v w'∧X v w w'))∨(wantE ops e o=some false∧f.holds undef w∧J w∧X undef w w)
/-- One goal an operation: of the chain, or not; 'X i' is what is asked of its value beside the world ahead of it. -/
def ObsX (C:Cx) (l:List Oper) (fs:List Fact) (e:Env) (Inv:Nat→World→Prop) (Rel:World→World→Prop) (X:Nat→Value→World→Prop) (Y:Nat→Env→Value→World→Prop):Nat→List Oper→List Fact→List (List Nat)→List (Option Nat)→Prop
 | i,o::os,f::fr,ds::dr,none::ch=>(∀ c w1,Inv c w1→Bind w1 (depFacts l fs ds) (fun en=>ObX C l.toArray (en++e) o f w1 (fun v w w'=>X i v w∧Y i en v w') (fun w'=>Rel w1 w'∧Inv c w')))∧ObsX C l fs e Inv Rel X Y (i+1) os fr dr ch
 | i,o::os,f::fr,ds::dr,some p::ch=>(∀ w1,Inv p w1→Bind w1 (depFacts l fs ds) (fun en=>ObX C l.toArray (en++e) o f w1 (fun v w w'=>X i v w∧Y i en v w') (fun w'=>Rel w1 w'∧Inv (p+1) w')))∧ObsX C l fs e Inv Rel X Y (i+1) os fr dr ch
 | _,_,_,_,_=>True
theorem obsX_at {C:Cx} {l:List Oper} {fs:List Fact} {e:Env} {Inv:Nat→World→Prop} {Rel:World→World→Prop} {X:Nat→Value→World→Prop} {Y:Nat→Env→Value→World→Prop} : ∀ {os:List Oper} {fr:List Fact} {dr:List (List Nat)} {ch:List (Option Nat)} {i0:Nat},ObsX C l fs e Inv Rel X Y i0 os fr dr ch→∀ (i:Nat) (o:Oper) (f:Fact) (ds:List Nat) (q:Option Nat),os[i]?=some o→fr[i]?=some f→dr[i]?=some ds→ch[i]?=some q →
  ∀ c w1,Inv c w1→(∀ p,q=some p→p=c)→Bind w1 (depFacts l fs ds) (fun en=>ObX C l.toArray (en++e) o f w1 (fun v w w'=>X (i0+i) v w∧Y (i0+i) en v w') (fun w'=>Rel w1 w'∧Inv (match q with|some _=>c+1|none=>c) w'))
 | o::os,f::fr,ds::dr,none::ch,i0,h,0,o',f',ds',q,ho,hf,hd,hq=>by
  simp at ho hf hd hq;subst ho hf hd hq;exact fun c w1 hI _=>h.1 c w1 hI
 | o::os,f::fr,ds::dr,some p::ch,i0,h,0,o',f',ds',q,ho,hf,hd,hq=>by
  simp at ho hf hd hq;subst ho hf hd hq
  intro c w1 hI hp
  obtain rfl:=hp p rfl
  exact h.1 w1 hI
 | o::os,f::fr,ds::dr,none::ch,i0,h,i+1,o',f',ds',q,ho,hf,hd,hq=>by
  rw [show i0+(i+1)=i0+1+i by omega]
  exact obsX_at h.2 i o' f' ds' q (by simpa using ho) (by simpa using hf) (by simpa using hd) (by simpa using hq)
 | o::os,f::fr,ds::dr,some p::ch,i0,h,i+1,o',f',ds',q,ho,hf,hd,hq=>by
  rw [show i0+(i+1)=i0+1+i by omega]
  exact obsX_at h.2 i o' f' ds' q (by simpa using ho) (by simpa using hf) (by simpa using hd) (by simpa using hq)
 | [],_,_,_,_,_,i,_,_,_,_,ho,_,_,_=>by simp at ho
 | _::_,[],_,_,_,_,i,_,_,_,_,_,hf,_,_=>by simp at hf
 | _::_,_::_,[],_,_,_,i,_,_,_,_,_,_,hd,_=>by simp at hd
 | _::_,_::_,_::_,[],_,_,i,_,_,_,_,_,_,_,hq=>by simp at hq

def Pairs (l:List Oper) (m:Nat) (P:Nat→Nat→Value→Value→World→Prop) (en:Env) (w:World):Prop:=∀ (i j:Nat) (oi oj:Oper) (di:Tmp) (vi:Value),i<j→j<m→l[i]?=some oi→l[j]?=some oj→oi.dst=some di→look en di=some vi→∃ vj,(∀ dj u,oj.dst=some dj→look en dj=some u→u=vj)∧P i j vi vj w
theorem look_left {en e:Env} {d:Nat} {v:Value} (h:look en d=some v):look (en++e) d=some v:=by
 induction en with
 | nil=>cases h
 | cons p r ih =>
  obtain ⟨s,u⟩:=p
  simp only [List.cons_append,look] at h ⊢
  cases hq:s.beq d
  ·rw [hq] at h;exact ih h
  ·rw [hq] at h;exact h
theorem bind_of2 {w:World} {a:Act} {e:Env} : ∀ (fs:List (Option Tmp × Fact)) (K:Env→Prop),Bind w fs K→(∀ p∈fs,∃ v,(∀ d,p.1=some d→a.tmps[d]?=some v)∧p.2.holds v w) →
  ∃ en,K en∧(∀ i v,look (en++e) i=some v→a.tmps[i]?=some v∨(look e i=some v∧∀ p∈fs,p.1≠some i))∧∀ p∈fs,∀ d,p.1=some d→∃ v,look en d=some v
 | [],K,h,_=>⟨[],h,fun i v hi=>.inr ⟨hi,fun p hp=>by cases hp⟩,fun p hp=>by cases hp⟩
 | (d,f)::r,K,h,hp=>by
  obtain ⟨v,hv,hh⟩:=hp _ (List.mem_cons_self ..)
  have hput:∀ en:Env,(∀ i v,look (en++e) i=some v→a.tmps[i]?=some v∨(look e i=some v∧∀ p∈r,p.1≠some i)) →
    ∀ i u,look (putE d v en++e) i=some u→a.tmps[i]?=some u∨(look e i=some u∧∀ p∈(d,f)::r,p.1≠some i):=fun en hen i u hi=>by
   cases d with
   | none =>
    rcases hen i u hi with h1|⟨h1,h2⟩
    ·exact .inl h1
    ·refine .inr ⟨h1,fun p hp=>?_⟩
     rcases List.mem_cons.1 hp with rfl|hp
     ·simp
     ·exact h2 p hp
   | some d =>
    simp only [putE,List.cons_append,look] at hi
    by_cases hdi:d=i
    ·subst hdi;simp at hi;subst hi;exact .inl (hv d rfl)
    ·rw [nbeq_ne hdi] at hi
     rcases hen i u hi with h1|⟨h1,h2⟩
     ·exact .inl h1
     ·refine .inr ⟨h1,fun p hp=>?_⟩
      rcases List.mem_cons.1 hp with rfl|hp
      ·simpa using hdi
      ·exact h2 p hp
  have hsee:∀ en:Env,(∀ p∈r,∀ d,p.1=some d→∃ v,look en d=some v)→∀ p∈(d,f)::r,∀ d',p.1=some d'→∃ u,look (putE d v en) d'=some u:=fun en hen p hpp d' hd'=>by
   cases d with
   | none =>
    rcases List.mem_cons.1 hpp with rfl|hpp
    ·cases hd'
    ·exact hen p hpp d' hd'
   | some d =>
    simp only [putE,look]
    by_cases hdd:d=d'
    ·subst hdd;exact ⟨v,by simp⟩
    ·rw [nbeq_ne hdd]
     rcases List.mem_cons.1 hpp with rfl|hpp
     ·exact absurd (Option.some.inj hd') hdd
     ·exact hen p hpp d' hd'
  cases f with
  | is u =>
   obtain rfl:v=u:=hh
   obtain ⟨en,h1,h2,h3⟩:=bind_of2 r _ h (fun p hpr=>hp p (List.mem_cons_of_mem _ hpr))
   exact ⟨_,h1,hput en h2,hsee en h3⟩
  | such φ =>
   obtain ⟨en,h1,h2,h3⟩:=bind_of2 r _ (h v hh) (fun p hpr=>hp p (List.mem_cons_of_mem _ hpr))
   exact ⟨_,h1,hput en h2,hsee en h3⟩


section
variable {C:Cx} {k:List It} {l:List Oper} {m:Nat} {fs:List Fact} {e:Env} {w:World} {S:List Nat} {e':Env} {Inv:Nat→World→Prop} {ch:List (Option Nat)}
structure UnderX (C:Cx) (l:List Oper) (m:Nat) (fs:List Fact) (e:Env) (Inv:Nat→World→Prop) (ch:List (Option Nat)) (len:Nat) (P:Nat→Nat→Value→Value→World→Prop) (listed:Array Bool) (a:Act) (w1:World):Prop where
 size:listed.size=l.length
 closed:∀ (i:Nat) (o:Oper),l[i]?=some o→listed[i]?=some true→∀ x∈o.after,Region.binds .any x=true→listed.getD x.on false=true
 inv:∃ c:Nat,c≤len∧Inv c w1∧∀ j p:Nat,ch[j]?=some (some p)→(listed[j]?=some true↔p<c)
 defers:a.defers=C.D
 tsize:a.tmps.size=C.n
 base:∀ (i:Nat) (v:Value),look e i=some v→(∀ (j:Nat) (o:Oper),j<m→l[j]?=some o→o.dst≠some i)→a.tmps[i]?=some v
 tail:∀ j,m≤j→j<l.length→listed[j]?=some false
 done:∀ (j:Nat) (o:Oper) (f:Fact),j<m→l[j]?=some o→fs[j]?=some f→listed[j]?=some true→∃ v,(∀ d,o.dst=some d→a.tmps[d]?=some v)∧f.holds v w1
 pair:∀ (i j:Nat) (oi oj:Oper),i<m→j<m→l[i]?=some oi→l[j]?=some oj→listed[i]?=some true→listed[j]?=some true→i<j→∃ vi vj,(∀ d,oi.dst=some d→a.tmps[d]?=some vi)∧(∀ d,oj.dst=some d→a.tmps[d]?=some vj)∧P i j vi vj w1

theorem finX_of {P:Nat→Nat→Value→Value→World→Prop} {len:Nat} {listed:Array Bool} {a:Act} {w1:World} (hlen:fs.length=m) (hml:m≤l.length) (hfin:∀ w1,Inv len w1→Bind w1 (depFacts l fs (List.range m)) (fun en=>Pairs l m P en w1→L C k l.toArray (l.drop m) (en++e) w1))
  (hch3:∀ q:Nat,q<len→∃ j:Nat,j<m∧ch[j]?=some (some q))
  (hU:UnderX C l m fs e Inv ch len P listed a w1) (hall:∀ j,j<m→listed[j]?=some true):∃ en,Fits C (en++e) a∧L C k l.toArray (l.drop m) (en++e) w1:=by
 obtain ⟨c,hcl2,hI,hcc⟩:=hU.inv
 have hclen:c=len:=by
  rcases Nat.lt_or_ge c len with h|h
  ·obtain ⟨j,hjm,hj⟩:=hch3 c h
   have:=(hcc j c hj).1 (hall j hjm)
   omega
  ·omega
 subst hclen
 obtain ⟨en,h1,h2⟩:=bind_of (a:=a) (e:=e) _ _ (hfin w1 hI) (fun p hp=>by
  obtain ⟨j,o,hj,ho,hd,hf⟩:=mem_depFacts hp
  have hjm:j<m:=by simpa using hj
  obtain ⟨v,hv1,hv2⟩:=hU.done j o p.2 hjm ho hf (hall j hjm)
  exact ⟨v,fun d hdd=>hv1 d (by rw [hd];exact hdd),hv2⟩)
 have hpairs:Pairs l m P en w1:=by
  intro i j oi oj di vi hij hj ho1 ho2 hd1 hv1
  have hlk:∀ (q:Nat) (oq:Oper) (d:Tmp) (v:Value),q<m→l[q]?=some oq→oq.dst=some d→look en d=some v→a.tmps[d]?=some v:=fun q oq d v hq hoq hdq hv=>by
   rcases h2 d v (look_left hv) with h|⟨_,h4⟩
   ·exact h
   ·have hf:fs[q]?=some (fs[q]'(by omega)):=List.getElem?_eq_getElem (by omega)
    exact absurd hdq (h4 _ (depFacts_mem hoq hf (by simpa using hq)))
  obtain ⟨ui,uj,h5,h6,h7⟩:=hU.pair i j oi oj (by omega) hj ho1 ho2 (hall i (by omega)) (hall j hj) hij
  have e1:=hlk i oi di vi (by omega) ho1 hd1 hv1
  rw [h5 di hd1] at e1;cases e1
  refine ⟨uj,fun dj u hd hu=>?_,h7⟩
  have e2:=hlk j oj dj u hj ho2 hd hu
  rw [h6 dj hd] at e2;cases e2;rfl
 refine ⟨en,⟨⟨hU.tsize,fun i v hi=>?_⟩,hU.defers⟩,h1 hpairs⟩
 rcases h2 i v hi with h|⟨h3,h4⟩
 ·exact h
 ·refine hU.base i v h3 (fun j o hj ho hd=>?_)
  have hf:fs[j]?=some (fs[j]'(by omega)):=List.getElem?_eq_getElem (by omega)
  exact h4 _ (depFacts_mem ho hf (by simpa using hj)) hd

theorem T.anyX {id:Nat} (hmix:C.P.follows .mixedOrders=true) (m len:Nat) (S:List Nat) (he:pickE e S=some e') (fs:List Fact) (ds:List (List Nat)) (ch:List (Option Nat)) (A:List (List Nat)) (Inv:Nat→World→Prop) (Rel:World→World→Prop) (X:Nat→Value→World→Prop) (Y:Nat→Env→Value→World→Prop) (P:Nat→Nat→Value→Value→World→Prop)
  (hPs:∀ i j vi vj w w',Rel w w'→P i j vi vj w→P i j vi vj w')
  (hP1:∀ i j f vi vj w1 w2 en dd oi,i<j→fs[i]?=some f→f.holds vi w1→X j vj w1→Y j en vj w2→ds[j]?=some dd→l[i]?=some oi→(i∈dd→∀ di,oi.dst=some di→look en di=some vi)→P i j vi vj w2)
  (hP2:∀ i j f vi vj w1 w2,i<j→fs[j]?=some f→f.holds vj w1→X i vi w1→(∀ dd,ds[j]?=some dd→i∉dd)→P i j vi vj w2) (hA:ancOk l A=true) (hok:anyOk C.n l m ds S A=true) (hch:chainOkR A m ch len=true) (hlen:fs.length=m)
  (hst:StabR Rel fs) (h0:Inv 0 w.drew) (hob:ObsX C l fs e' Inv Rel X Y 0 (l.take m) fs ds ch)
  (hfin:∀ w1,Inv len w1→Bind w1 (depFacts l fs (List.range m)) (fun en=>Pairs l m P en w1→L C k l.toArray (l.drop m) (en++e) w1)) :
  T C (.code (.region id l.toArray true)::k) e w:=by
 simp only [anyOk,Bool.and_eq_true,decide_eq_true_eq] at hok
 obtain ⟨⟨⟨⟨⟨⟨⟨hto,hml⟩,hdl⟩,hdst⟩,hdis⟩,hdep⟩,hS⟩,htl⟩:=hok
 simp only [chainOkR,Bool.and_eq_true,decide_eq_true_eq] at hch
 obtain ⟨⟨⟨hcl,hc1⟩,hc2⟩,hc3⟩:=hch
 have hto':∀ i o,l[i]?=some o→∀ x∈o.after,Region.binds .any x=true→x.on<i:=by
  intro i o ho x hx hb
  have h1:=List.all_eq_true.1 hto (o,i) (by rw [List.mem_zipIdx_iff_getElem?];exact ho)
  have h2:=List.all_eq_true.1 h1 x (Array.mem_toList_iff.2 hx)
  simpa [hb] using h2
 have htl':∀ i,m≤i→i<l.length→∀ j,j<i→wt A i j=true:=by
  intro i hi hil j hj
  have h1:=List.all_eq_true.1 htl (l[i],i) (by rw [List.mem_zipIdx_iff_getElem?];exact List.getElem?_eq_getElem hil)
  have h3:¬ i<m:=by omega
  simp only [h3,decide_false,Bool.false_or] at h1
  exact List.all_eq_true.1 h1 j (by simpa using hj)
 have hdst':∀ (i:Nat) (o:Oper),l[i]?=some o→dstOk C.n o.dst=true:=fun i o ho=>List.all_eq_true.1 hdst o (List.mem_of_getElem? ho)
 have hdis':∀ (i j:Nat) (oi oj:Oper),i<m→j<m→i≠j→l[i]?=some oi→l[j]?=some oj→∀ d,oi.dst=some d→oj.dst≠some d:=by
  intro i j oi oj hi hj hne ho1 ho2 d hd1 hd2
  have h1:=List.all_eq_true.1 hdis j (by simpa using hj)
  have h2:=List.all_eq_true.1 h1 i (by simpa using hi)
  have hb:(i == j)=false:=by simpa using hne
  simp [hb,ho1,ho2,hd1,hd2] at h2
 have hdep':∀ (i:Nat) (dd:List Nat),ds[i]?=some dd→∀ j∈dd,j<m∧wt A i j=true:=by
  intro i dd hd j hj
  have h1:=List.all_eq_true.1 hdep (dd,i) (by rw [List.mem_zipIdx_iff_getElem?];exact hd)
  have h2:=List.all_eq_true.1 h1 j hj
  simpa using h2
 have hS':∀ s∈S,∀ (j:Nat) (o:Oper),j<m→l[j]?=some o→o.dst≠some s:=by
  intro s hs j o hj ho hd
  have h1:=List.all_eq_true.1 hS s hs
  simp only [Bool.not_eq_true',List.contains_eq_mem,decide_eq_false_iff_not] at h1
  exact h1 (List.mem_filterMap.2 ⟨j,by simpa using hj,by simp [ho,hd]⟩)
 have hchw:∀ (i p:Nat) (o:Oper),ch[i]?=some (some p)→l[i]?=some o→p<len∧∀ q,q<p→∃ j,ch[j]?=some (some q)∧wt A i j=true:=by
  intro i p o hp ho
  have hi:i<ch.length:=(List.getElem?_eq_some_iff.1 hp).1
  have h1:=List.all_eq_true.1 hc1 i (by simpa using hi)
  simp only [hp,Bool.and_eq_true,decide_eq_true_eq] at h1
  refine ⟨h1.1,fun q hq=>?_⟩
  have h2:=List.all_eq_true.1 h1.2 q (by simp;omega)
  simp only [hq,decide_true,Bool.not_true,Bool.false_or] at h2
  obtain ⟨j,hj,h3⟩:=List.any_eq_true.1 h2
  simp only [Bool.and_eq_true,beq_iff_eq] at h3
  exact ⟨j,h3.1,h3.2⟩
 have hch1:∀ (i j p:Nat),ch[i]?=some (some p)→ch[j]?=some (some p)→i=j:=by
  intro i j p hi hj
  have hil:i<ch.length:=(List.getElem?_eq_some_iff.1 hi).1
  have hjl:j<ch.length:=(List.getElem?_eq_some_iff.1 hj).1
  have h1:=List.all_eq_true.1 (List.all_eq_true.1 hc2 i (by simpa using hil)) j (by simpa using hjl)
  simp only [hi,hj,beq_self_eq_true,Bool.not_true,Bool.false_or,beq_iff_eq] at h1
  exact h1
 have hch3:∀ q:Nat,q<len→∃ j:Nat,j<m∧ch[j]?=some (some q):=by
  intro q hq
  have h1:=List.all_eq_true.1 hc3 q (by simpa using hq)
  obtain ⟨j,hj1,hj⟩:=List.any_eq_true.1 h1
  exact ⟨j,by simpa [hcl] using hj1,by simpa using hj⟩
 intro a0 ha0
 show (Code.region id l.toArray true).wpIn _ _ _ _ _ _
 refine wpIn_region_any hmix ?_
 have hsz:l.toArray.size=l.length:=by simp
 rw [hsz]
 have main:∀ (fuel:Nat) (listed:Array Bool) (a:Act) (w1:World),UnderX C l m fs e Inv ch len P listed a w1→(∀ j,j<l.length→listed[j]?=some true∨listed[j]?=some false)→(listed.toList.filter (! ·)).length≤fuel →
   wpAnyIn (FW C.r) 0 C.P .any l.toArray (run C k) fuel listed a w1:=by
  intro fuel
  induction fuel with
  | zero =>
   intro listed a w1 hU htf hcnt
   have hall:∀ j,j<l.length→listed[j]?=some true:=by
    intro j hj
    rcases htf j hj with h|h
    ·exact h
    ·have hm:false∈listed.toList:=List.mem_of_getElem? (i:=j) (by simpa using h)
     have:false∈listed.toList.filter (! ·):=List.mem_filter.2 ⟨hm,rfl⟩
     rw [List.eq_nil_of_length_eq_zero (Nat.le_zero.1 hcnt)] at this
     cases this
   have hm:m=l.length:=by
    rcases Nat.lt_or_ge m l.length with h|h
    ·have h1:=hU.tail m (Nat.le_refl _) h
     rw [hall m h] at h1;cases h1
    ·omega
   obtain ⟨en,hfit,hL⟩:=finX_of hlen hml hfin hch3 hU (fun j hj=>hall j (by omega))
   exact tail_runsA hA htl' hto' 0 l.length listed a w1 (by omega) (by omega) (by rw [hU.size]) hall (fun j h1 h2=>by omega) (by rw [hm] at hL;exact hL a hfit) 0 (Nat.le_refl _)
  | succ fuel ih =>
   intro listed a w1 hU htf hcnt
   by_cases hall:∀ j,j<m→listed[j]?=some true
   ·obtain ⟨en,hfit,hL⟩:=finX_of hlen hml hfin hch3 hU hall
    have hcnt':l.length-m≤fuel+1:=by
     have:=count_tailL listed.toList m (fun j h1 h2=>by have:=hU.tail j h1 (by have:=hU.size;simpa [this] using h2);simpa using this)
     have hsz':=hU.size
     simp at this
     omega
    exact tail_runsA hA htl' hto' (l.length-m) m listed a w1 (by omega) (Nat.le_refl _) (by rw [hU.size]) hall hU.tail (hL a hfit) (fuel+1) hcnt'
   ·refine ⟨fun h0=>?_,fun i hi=>?_⟩
    ·exfalso
     obtain ⟨j,hj1,hj2,hj3⟩:=least_open hall
     have hjl:j<l.length:=by omega
     have hmem:j∈Region.ready .any l.toArray listed:=by
      have hfalse:listed[j]?=some false:=by (rcases htf j hjl with h|h;exact absurd h hj2;exact h)
      refine mem_ready.2 ⟨by rw [Array.getD_eq_getD_getElem?,hfalse];rfl,l[j],by simp [hjl],?_⟩
      intro x hx hb
      have:=hto' j _ (List.getElem?_eq_getElem hjl) x hx hb
      rw [Array.getD_eq_getD_getElem?,hj3 _ this];rfl
     rw [h0] at hmem;cases hmem
    ·obtain ⟨h1,o,ho,hallx⟩:=mem_ready.1 hi
     have ho':l[i]?=some o:=by simpa using ho
     have hil:i<l.length:=(List.getElem?_eq_some_iff.1 ho').1
     have him:i<m:=by
      rcases Nat.lt_or_ge i m with h|h
      ·exact h
      ·exfalso
       obtain ⟨j,hj1,hj2,_⟩:=least_open hall
       exact hj2 (wt_listed hA hto' hU.size hU.closed i i o (Nat.le_refl _) ho' hallx j (htl' i h hil j (by omega)))
     obtain ⟨f,hfi⟩:∃ f,fs[i]?=some f:=⟨fs[i]'(by omega),List.getElem?_eq_getElem (by omega)⟩
     obtain ⟨dd,hdi⟩:∃ dd,ds[i]?=some dd:=⟨ds[i]'(by omega),List.getElem?_eq_getElem (by omega)⟩
     obtain ⟨q,hqi⟩:∃ q,ch[i]?=some q:=⟨ch[i]'(by omega),List.getElem?_eq_getElem (by omega)⟩
     obtain ⟨c,hcl2,hI,hcc⟩:=hU.inv
     have hli:¬ listed[i]?=some true:=fun h=>by rw [Array.getD_eq_getD_getElem?,h] at h1;simp at h1
     have hpc:∀ p,q=some p→p=c:=by
      rintro p rfl
      have hge:¬ p<c:=fun h=>hli ((hcc i p hqi).2 h)
      have hle:p≤c:=Classical.byContradiction fun hn=>by
       obtain ⟨j,hj,hw⟩:=(hchw i p o hqi ho').2 c (by omega)
       have:=(hcc j c hj).1 (wt_listed hA hto' hU.size hU.closed i i o (Nat.le_refl _) ho' hallx j hw)
       omega
      omega
     have hB:=obsX_at hob i o f dd q (by rw [List.getElem?_take,if_pos him];exact ho') hfi hdi hqi c w1 hI hpc
     have hbase:Fits C e' a:=⟨⟨hU.tsize,fun s v hs=>by
      obtain ⟨hs1,hs2⟩:=pickE_look he s v hs
      exact hU.base s v hs2 (fun j oj hj hoj=>hS' s hs1 j oj hj hoj)⟩,hU.defers⟩
     obtain ⟨en,hOb,hlk,hsee⟩:=bind_of2 (a:=a) (e:=e') _ _ hB (fun p hp=>by
      obtain ⟨j,oj,hj1,hj2,hj3,hj4⟩:=mem_depFacts hp
      obtain ⟨hjm,hjw⟩:=hdep' i dd hdi j hj1
      obtain ⟨v,hv1,hv2⟩:=hU.done j oj p.2 hjm hj2 hj4 (wt_listed hA hto' hU.size hU.closed i i o (Nat.le_refl _) ho' hallx j hjw)
      exact ⟨v,fun d hd=>hv1 d (by rw [hj3];exact hd),hv2⟩)
     have hfit:Fits C (en++e') a:=⟨⟨hU.tsize,fun s v hs=>by
      rcases hlk s v hs with h|⟨h,_⟩
      ·exact h
      ·exact hbase.sat.get s v h⟩,hU.defers⟩
     have hcnt':((listed.setIfInBounds i true).toList.filter (! ·)).length≤fuel:=by
      have:=count_set (listed:=listed) (i:=i) (by rcases htf i hil with h|h;exact absurd h hli;exact h)
      omega
     have htf':∀ j,j<l.length→(listed.setIfInBounds i true)[j]?=some true∨(listed.setIfInBounds i true)[j]?=some false:=by
      intro j hj
      by_cases hji:i=j
      ·subst hji;left;rw [Array.getElem?_setIfInBounds_self];simp [hU.size,hil]
      ·rw [Array.getElem?_setIfInBounds_ne hji];exact htf j hj
     have hnext:∀ v w2,Rel w1 w2→Inv (match q with|some _=>c+1|none=>c) w2→f.holds v w2→X (0+i) v w1∧Y (0+i) en v w2→UnderX C l m fs e Inv ch len P (listed.setIfInBounds i true) (a.put o.dst v) w2:=by
      intro v w2 hrel hx hh hX
      rw [Nat.zero_add] at hX
      refine ⟨by simpa using hU.size,?_,?_,?_,?_,?_,?_,?_,?_⟩
      ·intro i2 o2 ho2 hl2 x hx2 hb2
       have hgx:listed.getD x.on false=true:=by
        by_cases hii:i=i2
        ·subst hii;rw [ho'] at ho2;cases ho2;exact hallx x hx2 hb2
        ·rw [Array.getElem?_setIfInBounds_ne hii] at hl2;exact hU.closed i2 o2 ho2 hl2 x hx2 hb2
       have hgx':=getD_true hgx
       rw [Array.getD_eq_getD_getElem?]
       by_cases hxi:i=x.on
       ·rw [← hxi,Array.getElem?_setIfInBounds_self];simp [hU.size,hil]
       ·rw [Array.getElem?_setIfInBounds_ne hxi,hgx'];rfl
      ·refine ⟨_,?_,hx,fun j p hj=>?_⟩
       ·cases q with
        | none=>exact hcl2
        | some p=>have:=hpc p rfl;have:=(hchw i p o hqi ho').1;show c+1≤len;omega
       ·by_cases hji:i=j
        ·subst hji
         rw [hqi] at hj;cases hj
         have:=hpc p rfl
         rw [Array.getElem?_setIfInBounds_self]
         simp only [hU.size,hil,if_true,true_iff]
         omega
        ·rw [Array.getElem?_setIfInBounds_ne hji,hcc j p hj]
         cases q with
         | none=>exact Iff.rfl
         | some p2 =>
          have h3:=hpc p2 rfl
          have hne:p≠p2:=fun e=>hji (hch1 i j p2 hqi (e▸hj))
          show p<c↔p<c+1
          omega
      ·cases o.dst <;> exact hU.defers
      ·cases o.dst <;> simp [Act.put,hU.tsize]
      ·intro s u hs hno
       have h0:=hU.base s u hs hno
       cases hd:o.dst with
       | none=>exact h0
       | some d =>
        have hne:d≠s:=fun e=>hno i o him ho' (by rw [hd,e])
        simp only [Act.put]
        rw [Array.getElem?_setIfInBounds_ne hne];exact h0
      ·intro j hj hjl
       rw [Array.getElem?_setIfInBounds_ne (by omega)];exact hU.tail j hj hjl
      ·intro j oj fj hj hoj hfj hlj
       by_cases hji:i=j
       ·subst hji
        rw [ho'] at hoj;cases hoj
        rw [hfi] at hfj;cases hfj
        refine ⟨v,fun d hd=>?_,hh⟩
        have hlt:=hdst' i o ho'
        rw [hd] at hlt
        have hlt':d<C.n:=by simpa [dstOk,Nat.blt_eq] using hlt
        rw [hd]
        simp only [Act.put]
        rw [Array.getElem?_setIfInBounds_self];simp [hU.tsize,hlt']
       ·rw [Array.getElem?_setIfInBounds_ne hji] at hlj
        obtain ⟨u,hu1,hu2⟩:=hU.done j oj fj hj hoj hfj hlj
        refine ⟨u,fun d hd=>?_,stabR_at hst j fj hfj _ _ _ hrel hu2⟩
        have:=hu1 d hd
        cases hod:o.dst with
        | none=>exact this
        | some d' =>
         have hne:d'≠d:=fun e=>hdis' i j o oj him hj hji ho' hoj d' hod (by rw [hd,e])
         simp only [Act.put]
         rw [Array.getElem?_setIfInBounds_ne hne];exact this
      ·intro i2 j2 oi oj hi2 hj2 ho1 ho2 hl1 hl2 hij
       have hltd:∀ d,o.dst=some d→d<C.n:=fun d hd=>by
        have hlt:=hdst' i o ho'
        rw [hd] at hlt
        simpa [dstOk,Nat.blt_eq] using hlt
       have hnew:∀ d,o.dst=some d→(a.put o.dst v).tmps[d]?=some v:=fun d hd=>by
        rw [hd];simp only [Act.put]
        rw [Array.getElem?_setIfInBounds_self];simp [hU.tsize,hltd d hd]
       have hold:∀ (q:Nat) (oq:Oper) (d:Tmp),q<m→i≠q→l[q]?=some oq→oq.dst=some d→(a.put o.dst v).tmps[d]?=a.tmps[d]?:=fun q oq d hq hne hoq hdq=>by
        cases hod:o.dst with
        | none=>rfl
        | some d' =>
         have hne2:d'≠d:=fun e=>hdis' i q o oq him hq hne ho' hoq d' hod (by rw [hdq,e])
         simp only [Act.put]
         rw [Array.getElem?_setIfInBounds_ne hne2]
       by_cases h1:i=i2
       ·subst h1
        rw [ho'] at ho1;cases ho1
        have hne:i≠j2:=by omega
        rw [Array.getElem?_setIfInBounds_ne hne] at hl2
        have hfj:fs[j2]?=some (fs[j2]'(by omega)):=List.getElem?_eq_getElem (by omega)
        obtain ⟨u,hu1,hu2⟩:=hU.done j2 oj _ hj2 ho2 hfj hl2
        refine ⟨v,u,hnew,fun d hd=>by rw [hold j2 oj d hj2 hne ho2 hd];exact hu1 d hd,hP2 i j2 _ v u w1 w2 hij hfj hu2 hX.1 fun dd' hdd' hmem=>?_⟩
        exact hli (wt_listed hA hto' hU.size hU.closed j2 j2 oj (Nat.le_refl _) ho2 (hU.closed j2 oj ho2 hl2) i (hdep' j2 dd' hdd' i hmem).2)
       ·by_cases h2:i=j2
        ·subst h2
         rw [ho'] at ho2;cases ho2
         rw [Array.getElem?_setIfInBounds_ne h1] at hl1
         have hfj:fs[i2]?=some (fs[i2]'(by omega)):=List.getElem?_eq_getElem (by omega)
         obtain ⟨u,hu1,hu2⟩:=hU.done i2 oi _ hi2 ho1 hfj hl1
         refine ⟨u,v,fun d hd=>by rw [hold i2 oi d hi2 h1 ho1 hd];exact hu1 d hd,hnew,hP1 i2 i _ u v w1 w2 en dd oi hij hfj hu2 hX.1 hX.2 hdi ho1 fun hmem di hdi2=>?_⟩
         have hpm:=depFacts_mem ho1 hfj hmem
         obtain ⟨u',hu'⟩:=hsee _ hpm di hdi2
         rcases hlk di u' (look_left hu') with h5|⟨_,h5⟩
         ·rw [hu1 di hdi2] at h5;cases h5;exact hu'
         ·exact absurd hdi2 (h5 _ hpm)
        ·rw [Array.getElem?_setIfInBounds_ne h1] at hl1
         rw [Array.getElem?_setIfInBounds_ne h2] at hl2
         obtain ⟨vi,vj,e1,e2,e3⟩:=hU.pair i2 j2 oi oj hi2 hj2 ho1 ho2 hl1 hl2 hij
         exact ⟨vi,vj,fun d hd=>by rw [hold i2 oi d hi2 h1 ho1 hd];exact e1 d hd,fun d hd=>by rw [hold j2 oj d hj2 h2 ho2 hd];exact e2 d hd,hPs _ _ _ _ _ _ hrel e3⟩
     unfold wpOpIn
     simp only [ho]
     rcases hOb with ⟨hw,hO⟩|⟨hw,hu,hJ,hXu⟩
     ·rw [if_pos (wanted_of hfit hw)]
      exact hO a hfit _ _ (fun v w2 ⟨hx,hh,hX⟩=>ih _ _ _ (hnext v w2 hx.1 hx.2 hh hX) htf' hcnt')
     ·rw [if_neg (by rw [wanted_of hfit hw];simp)]
      exact ⟨fun _ _=>trivial,ih _ _ _ (hnext undef w1 hJ.1 hJ.2 hu hXu) htf' hcnt'⟩
 refine main l.length (Array.replicate l.length false) a0 _ ⟨by simp,fun i o ho hl=>?_,⟨0,Nat.zero_le _,h0,fun j p hj=>?_⟩,ha0.defers,ha0.sat.size,fun i v hi _=>ha0.sat.get i v hi,fun j _ hj=>by simp [hj],fun j o f _ hj _ hl=>?_,fun i j oi oj _ _ ho1 _ hl1 _ _=>?_⟩ (fun j hj=>by right;simp [hj]) ?_
 ·have hil:=(List.getElem?_eq_some_iff.1 ho).1
  simp [hil] at hl
 ·have hjl:j<l.length:=by have:=(List.getElem?_eq_some_iff.1 hj).1;omega
  simp [hjl]
 ·have hjl:=(List.getElem?_eq_some_iff.1 hj).1
  simp [hjl] at hl
 ·have hjl:=(List.getElem?_eq_some_iff.1 ho1).1
  simp [hjl] at hl1
 ·simp

/-- What is asked of values that hold new blocks, and what is known of each two of them. -/
def FreshX (M:List Nat) (i:Nat) (v:Value) (w:World):Prop:=match M.contains i with
 | true=>∀ b,v.ownBlock=some b→w.heap.size≤b
 | false=>True
def FreshP (M:List Nat) (i j:Nat) (vi vj:Value):Prop:=match M.contains i && M.contains j with
 | true=>∀ b,vi.ownBlock=some b→vj.ownBlock=some b→False
 | false=>True
/-- What an operation says of the value of another one that it leans on: 'LT' lists (operation, the other one, its slot). -/
def LinkY (LT:List (Nat × Nat × Nat)) (Lk:Nat→Nat→Value→Value→World→Prop) (j:Nat) (en:Env) (v:Value) (w:World):Prop:=match LT.find? (fun t=>t.1 == j) with
 | some (_,i,d)=>∀ u,look en d=some u→Lk i j u v w
 | none=>True
def LinkP (LT:List (Nat × Nat × Nat)) (Lk:Nat→Nat→Value→Value→World→Prop) (i j:Nat) (vi vj:Value) (w:World):Prop:=match LT.find? (fun t=>t.1 == j) with
 | some (_,i',_)=>i=i'→Lk i j vi vj w
 | none=>True
def linkOk (l:List Oper) (ds:List (List Nat)) (LT:List (Nat × Nat × Nat)):Bool:=LT.all fun t=>(match ds[t.1]? with|some dd=>dd.contains t.2.1|none=>false) && ((l[t.2.1]?).bind (·.dst) == some t.2.2)
theorem and3 {P Q R:Prop} (h:P∧Q) (r:R):P∧Q∧R:=⟨h.1,h.2,r⟩
theorem ObX.op {C:Cx} {ops:Array Oper} {e:Env} {o:Oper} {f:Fact} {w:World} {X:Value→World→World→Prop} {J:World→Prop} (hw:wantE ops e o=some true) (h:O C e o w (fun v w'=>J w'∧f.holds v w'∧X v w w')):ObX C ops e o f w X J:=.inl ⟨hw,h⟩
/-- The values of 'M' hold different new blocks; what operations say of others ('LT'). -/
theorem T.anyF {id:Nat} (hmix:C.P.follows .mixedOrders=true) (m len:Nat) (S:List Nat) (he:pickE e S=some e') (fs:List Fact) (ds:List (List Nat)) (ch:List (Option Nat)) (A:List (List Nat)) (M:List Nat) (LT:List (Nat × Nat × Nat)) (Lk:Nat→Nat→Value→Value→World→Prop) (Inv:Nat→World→Prop) (Rel:World→World→Prop)
  (hM:∀ i f v w,M.contains i=true→fs[i]?=some f→f.holds v w→∀ b,v.ownBlock=some b→b<w.heap.size) (hLs:∀ i j vi vj w w',Rel w w'→Lk i j vi vj w→Lk i j vi vj w')
  (hA:ancOk l A=true) (hok:anyOk C.n l m ds S A=true) (hch:chainOkR A m ch len=true) (hlk:linkOk l ds LT=true) (hlen:fs.length=m)
  (hst:StabR Rel fs) (h0:Inv 0 w.drew) (hob:ObsX C l fs e' Inv Rel (FreshX M) (LinkY LT Lk) 0 (l.take m) fs ds ch)
  (hfin:∀ w1,Inv len w1→Bind w1 (depFacts l fs (List.range m)) (fun en=>Pairs l m (fun i j vi vj w=>FreshP M i j vi vj∧LinkP LT Lk i j vi vj w) en w1→L C k l.toArray (l.drop m) (en++e) w1)) :
  T C (.code (.region id l.toArray true)::k) e w:=by
 have hlt:∀ t∈LT,(∃ dd,ds[t.1]?=some dd∧t.2.1∈dd)∧∃ o,l[t.2.1]?=some o∧o.dst=some t.2.2:=fun t ht=>by
  have h1:=List.all_eq_true.1 hlk t ht
  simp only [Bool.and_eq_true,beq_iff_eq] at h1
  obtain ⟨h2,h3⟩:=h1
  refine ⟨?_,?_⟩
  ·cases hq:ds[t.1]? with
   | none=>simp [hq] at h2
   | some dd=>simp only [hq] at h2;exact ⟨dd,rfl,by simpa using h2⟩
  ·cases hq:l[t.2.1]? with
   | none=>simp [hq] at h3
   | some o=>simp only [hq,Option.bind_some] at h3;exact ⟨o,rfl,h3⟩
 refine T.anyX hmix m len S he fs ds ch A Inv Rel (FreshX M) (LinkY LT Lk) (fun i j vi vj w=>FreshP M i j vi vj∧LinkP LT Lk i j vi vj w) ?_ ?_ ?_ hA hok hch hlen hst h0 hob hfin
 ·rintro i j vi vj w w' hr ⟨h1,h2⟩
  refine ⟨h1,?_⟩
  unfold LinkP at h2 ⊢
  split
  ·rename_i hq;rw [hq] at h2;exact fun e=>hLs _ _ _ _ _ _ hr (h2 e)
  ·trivial
 ·intro i j f vi vj w1 w2 en dd oi hij hf hh hX hY hdd hoi hin
  refine ⟨?_,?_⟩
  ·unfold FreshP
   cases hc:(M.contains i && M.contains j)
   ·trivial
   ·intro b h1 h2
    simp only [Bool.and_eq_true] at hc
    unfold FreshX at hX
    rw [hc.2] at hX
    have h3:=hM i f vi w1 hc.1 hf hh b h1
    have h4:w1.heap.size≤b:=hX b h2
    omega
  ·unfold LinkP
   unfold LinkY at hY
   split
   ·rename_i t i' d hq
    rw [hq] at hY
    rintro rfl
    have hm:=List.mem_of_find?_eq_some hq
    have hj:t=j:=by have:=List.find?_some hq;simpa using this
    subst hj
    obtain ⟨⟨dd',hd1,hd2⟩,o,ho1,ho2⟩:=hlt _ hm
    simp only at hd1 hd2 ho1 ho2
    rw [hdd] at hd1;cases hd1
    rw [hoi] at ho1;cases ho1
    exact hY vi (hin hd2 d ho2)
   ·trivial
 ·intro i j f vi vj w1 w2 hij hf hh hX hno
  refine ⟨?_,?_⟩
  ·unfold FreshP
   cases hc:(M.contains i && M.contains j)
   ·trivial
   ·intro b h1 h2
    simp only [Bool.and_eq_true] at hc
    unfold FreshX at hX
    rw [hc.1] at hX
    have h3:=hM j f vj w1 hc.2 hf hh b h2
    have h4:w1.heap.size≤b:=hX b h1
    omega
  ·unfold LinkP
   split
   ·rename_i t i' d hq
    rintro rfl
    have hm:=List.mem_of_find?_eq_some hq
    have hj:t=j:=by have:=List.find?_some hq;simpa using this
    subst hj
    obtain ⟨⟨dd',hd1,hd2⟩,_⟩:=hlt _ hm
    exact absurd hd2 (hno dd' hd1)
   ·trivial
end
open Go.RowKit
/-- The block of a pointer. -/
def ptrBlk:Value→Option Nat
 | .pointer (some a)=>some a.block
 | _=>none
section
variable {C:Cx} {k:List It} {l:List Oper} {m:Nat} {fs:List Fact} {e:Env} {w:World} {S:List Nat} {e':Env} {Inv:Nat→World→Prop} {ch:List (Option Nat)}
/-- What is asked of values that hold new blocks, and what is known of each two of them. -/
def FreshX2 (M:List Nat) (i:Nat) (v:Value) (w:World):Prop:=match M.contains i with
 | true=>∀ b,(ptrBlk v)=some b→w.heap.size≤b
 | false=>True
def FreshP2 (M:List Nat) (i j:Nat) (vi vj:Value):Prop:=match M.contains i && M.contains j with
 | true=>∀ b,(ptrBlk vi)=some b→(ptrBlk vj)=some b→False
 | false=>True
/-- The values of 'M' hold different new blocks; what operations say of others ('LT'). -/
theorem T.anyF2 {id:Nat} (hmix:C.P.follows .mixedOrders=true) (m len:Nat) (S:List Nat) (he:pickE e S=some e') (fs:List Fact) (ds:List (List Nat)) (ch:List (Option Nat)) (A:List (List Nat)) (M:List Nat) (LT:List (Nat × Nat × Nat)) (Lk:Nat→Nat→Value→Value→World→Prop) (Inv:Nat→World→Prop) (Rel:World→World→Prop)
  (hM:∀ i f v w,M.contains i=true→fs[i]?=some f→f.holds v w→∀ b,(ptrBlk v)=some b→b<w.heap.size) (hLs:∀ i j vi vj w w',Rel w w'→Lk i j vi vj w→Lk i j vi vj w')
  (hA:ancOk l A=true) (hok:anyOk C.n l m ds S A=true) (hch:chainOkR A m ch len=true) (hlk:linkOk l ds LT=true) (hlen:fs.length=m)
  (hst:StabR Rel fs) (h0:Inv 0 w.drew) (hob:ObsX C l fs e' Inv Rel (FreshX2 M) (LinkY LT Lk) 0 (l.take m) fs ds ch)
  (hfin:∀ w1,Inv len w1→Bind w1 (depFacts l fs (List.range m)) (fun en=>Pairs l m (fun i j vi vj w=>FreshP2 M i j vi vj∧LinkP LT Lk i j vi vj w) en w1→L C k l.toArray (l.drop m) (en++e) w1)) :
  T C (.code (.region id l.toArray true)::k) e w:=by
 have hlt:∀ t∈LT,(∃ dd,ds[t.1]?=some dd∧t.2.1∈dd)∧∃ o,l[t.2.1]?=some o∧o.dst=some t.2.2:=fun t ht=>by
  have h1:=List.all_eq_true.1 hlk t ht
  simp only [Bool.and_eq_true,beq_iff_eq] at h1
  obtain ⟨h2,h3⟩:=h1
  refine ⟨?_,?_⟩
  ·cases hq:ds[t.1]? with
   | none=>simp [hq] at h2
   | some dd=>simp only [hq] at h2;exact ⟨dd,rfl,by simpa using h2⟩
  ·cases hq:l[t.2.1]? with
   | none=>simp [hq] at h3
   | some o=>simp only [hq,Option.bind_some] at h3;exact ⟨o,rfl,h3⟩
 refine T.anyX hmix m len S he fs ds ch A Inv Rel (FreshX2 M) (LinkY LT Lk) (fun i j vi vj w=>FreshP2 M i j vi vj∧LinkP LT Lk i j vi vj w) ?_ ?_ ?_ hA hok hch hlen hst h0 hob hfin
 ·rintro i j vi vj w w' hr ⟨h1,h2⟩
  refine ⟨h1,?_⟩
  unfold LinkP at h2 ⊢
  split
  ·rename_i hq;rw [hq] at h2;exact fun e=>hLs _ _ _ _ _ _ hr (h2 e)
  ·trivial
 ·intro i j f vi vj w1 w2 en dd oi hij hf hh hX hY hdd hoi hin
  refine ⟨?_,?_⟩
  ·unfold FreshP2
   cases hc:(M.contains i && M.contains j)
   ·trivial
   ·intro b h1 h2
    simp only [Bool.and_eq_true] at hc
    unfold FreshX2 at hX
    rw [hc.2] at hX
    have h3:=hM i f vi w1 hc.1 hf hh b h1
    have h4:w1.heap.size≤b:=hX b h2
    omega
  ·unfold LinkP
   unfold LinkY at hY
   split
   ·rename_i t i' d hq
    rw [hq] at hY
    rintro rfl
    have hm:=List.mem_of_find?_eq_some hq
    have hj:t=j:=by have:=List.find?_some hq;simpa using this
    subst hj
    obtain ⟨⟨dd',hd1,hd2⟩,o,ho1,ho2⟩:=hlt _ hm
    simp only at hd1 hd2 ho1 ho2
    rw [hdd] at hd1;cases hd1
    rw [hoi] at ho1;cases ho1
    exact hY vi (hin hd2 d ho2)
   ·trivial
 ·intro i j f vi vj w1 w2 hij hf hh hX hno
  refine ⟨?_,?_⟩
  ·unfold FreshP2
   cases hc:(M.contains i && M.contains j)
   ·trivial
   ·intro b h1 h2
    simp only [Bool.and_eq_true] at hc
    unfold FreshX2 at hX
    rw [hc.1] at hX
    have h3:=hM j f vj w1 hc.2 hf hh b h2
    have h4:w1.heap.size≤b:=hX b h1
    omega
  ·unfold LinkP
   split
   ·rename_i t i' d hq
    rintro rfl
    have hm:=List.mem_of_find?_eq_some hq
    have hj:t=j:=by have:=List.find?_some hq;simpa using this
    subst hj
    obtain ⟨⟨dd',hd1,hd2⟩,_⟩:=hlt _ hm
    exact absurd hd2 (hno dd' hd1)
   ·trivial
end
open Go.RowKit
/-- The values made so far. -/
abbrev Vals:=Nat→Option Value
def upV (σ:Vals) (i:Nat) (v:Value):Vals:=fun j=>bif Nat.beq i j then some v else σ j
theorem upV_self (σ:Vals) (i:Nat) (v:Value):upV σ i v i=some v:=by simp [upV]
theorem upV_ne (σ:Vals) {i j:Nat} (v:Value) (h:i≠j):upV σ i v j=σ j:=by simp [upV,nbeq_ne h]
/-- What the slots hold is what was made. -/
def Links (l:List Oper) (σ:Vals) (en:Env) (ds:List Nat):Prop:=∀ j∈ds,∀ oj d,l[j]?=some oj→oj.dst=some d→look en d=σ j
def ObG (C:Cx) (ops:Array Oper) (e:Env) (o:Oper) (f:Fact) (w:World) (J:Value→World→Prop):Prop :=
 (wantE ops e o=some true∧O C e o w (fun v w'=>J v w'∧f.holds v w'))∨(wantE ops e o=some false∧f.holds undef w∧J undef w)
theorem ObG.op {C:Cx} {ops:Array Oper} {e:Env} {o:Oper} {f:Fact} {w:World} {J:Value→World→Prop} (hw:wantE ops e o=some true) (h:O C e o w (fun v w'=>J v w'∧f.holds v w')):ObG C ops e o f w J:=.inl ⟨hw,h⟩
/-- One goal an operation: of the chain, or not. -/
def ObsG (C:Cx) (l:List Oper) (fs:List Fact) (e:Env) (Inv:Nat→Vals→World→Prop) (Rel:World→World→Prop):Nat→List Oper→List Fact→List (List Nat)→List (Option Nat)→Prop
 | i,o::os,f::fr,ds::dr,none::ch=>(∀ c σ w1,Inv c σ w1→σ i=none→Bind w1 (depFacts l fs ds) (fun en=>Links l σ en ds→ObG C l.toArray (en++e) o f w1 (fun v w'=>Rel w1 w'∧Inv c (upV σ i v) w')))∧ObsG C l fs e Inv Rel (i+1) os fr dr ch
 | i,o::os,f::fr,ds::dr,some p::ch=>(∀ σ w1,Inv p σ w1→σ i=none→Bind w1 (depFacts l fs ds) (fun en=>Links l σ en ds→ObG C l.toArray (en++e) o f w1 (fun v w'=>Rel w1 w'∧Inv (p+1) (upV σ i v) w')))∧ObsG C l fs e Inv Rel (i+1) os fr dr ch
 | _,_,_,_,_=>True
theorem obsG_at {C:Cx} {l:List Oper} {fs:List Fact} {e:Env} {Inv:Nat→Vals→World→Prop} {Rel:World→World→Prop} : ∀ {os:List Oper} {fr:List Fact} {dr:List (List Nat)} {ch:List (Option Nat)} {i0:Nat},ObsG C l fs e Inv Rel i0 os fr dr ch→∀ (i:Nat) (o:Oper) (f:Fact) (ds:List Nat) (q:Option Nat),os[i]?=some o→fr[i]?=some f→dr[i]?=some ds→ch[i]?=some q →
  ∀ c σ w1,Inv c σ w1→(∀ p,q=some p→p=c)→σ (i0+i)=none→Bind w1 (depFacts l fs ds) (fun en=>Links l σ en ds→ObG C l.toArray (en++e) o f w1 (fun v w'=>Rel w1 w'∧Inv (match q with|some _=>c+1|none=>c) (upV σ (i0+i) v) w'))
 | o::os,f::fr,ds::dr,none::ch,i0,h,0,o',f',ds',q,ho,hf,hd,hq=>by
  simp at ho hf hd hq;subst ho hf hd hq;exact fun c σ w1 hI _ hn=>h.1 c σ w1 hI hn
 | o::os,f::fr,ds::dr,some p::ch,i0,h,0,o',f',ds',q,ho,hf,hd,hq=>by
  simp at ho hf hd hq;subst ho hf hd hq
  intro c σ w1 hI hp hn
  obtain rfl:=hp p rfl
  exact h.1 σ w1 hI hn
 | o::os,f::fr,ds::dr,none::ch,i0,h,i+1,o',f',ds',q,ho,hf,hd,hq=>by
  rw [show i0+(i+1)=i0+1+i by omega]
  exact obsG_at h.2 i o' f' ds' q (by simpa using ho) (by simpa using hf) (by simpa using hd) (by simpa using hq)
 | o::os,f::fr,ds::dr,some p::ch,i0,h,i+1,o',f',ds',q,ho,hf,hd,hq=>by
  rw [show i0+(i+1)=i0+1+i by omega]
  exact obsG_at h.2 i o' f' ds' q (by simpa using ho) (by simpa using hf) (by simpa using hd) (by simpa using hq)
 | [],_,_,_,_,_,i,_,_,_,_,ho,_,_,_=>by simp at ho
 | _::_,[],_,_,_,_,i,_,_,_,_,_,hf,_,_=>by simp at hf
 | _::_,_::_,[],_,_,_,i,_,_,_,_,_,_,hd,_=>by simp at hd
 | _::_,_::_,_::_,[],_,_,i,_,_,_,_,_,_,_,hq=>by simp at hq
section
variable {C:Cx} {k:List It} {l:List Oper} {m:Nat} {fs:List Fact} {e:Env} {w:World} {S:List Nat} {e':Env} {Inv:Nat→Vals→World→Prop} {ch:List (Option Nat)}
structure UnderG (C:Cx) (l:List Oper) (m:Nat) (fs:List Fact) (e:Env) (Inv:Nat→Vals→World→Prop) (ch:List (Option Nat)) (len:Nat) (listed:Array Bool) (a:Act) (w1:World):Prop where
 size:listed.size=l.length
 closed:∀ (i:Nat) (o:Oper),l[i]?=some o→listed[i]?=some true→∀ x∈o.after,Region.binds .any x=true→listed.getD x.on false=true
 inv:∃ (c:Nat) (σ:Vals),c≤len∧Inv c σ w1∧(∀ j p:Nat,ch[j]?=some (some p)→(listed[j]?=some true↔p<c))∧(∀ j,¬ listed[j]?=some true→σ j=none)∧(∀ (j:Nat) (o:Oper),j<m→l[j]?=some o→listed[j]?=some true→∃ v,σ j=some v∧∀ d,o.dst=some d→a.tmps[d]?=some v)
 defers:a.defers=C.D
 tsize:a.tmps.size=C.n
 base:∀ (i:Nat) (v:Value),look e i=some v→(∀ (j:Nat) (o:Oper),j<m→l[j]?=some o→o.dst≠some i)→a.tmps[i]?=some v
 tail:∀ j,m≤j→j<l.length→listed[j]?=some false
 done:∀ (j:Nat) (o:Oper) (f:Fact),j<m→l[j]?=some o→fs[j]?=some f→listed[j]?=some true→∃ v,(∀ d,o.dst=some d→a.tmps[d]?=some v)∧f.holds v w1

/-- The slots that were bound hold what was made. -/
theorem links_of {a:Act} {σ:Vals} {en e0:Env} {ds:List Nat} (hlen:fs.length=m) (hds:∀ j∈ds,j<m) (hsee:∀ p∈depFacts l fs ds,∀ d,p.1=some d→∃ v,look en d=some v)
  (hlk:∀ i v,look (en++e0) i=some v→a.tmps[i]?=some v∨(look e0 i=some v∧∀ p∈depFacts l fs ds,p.1≠some i))
  (hσ:∀ j∈ds,∀ o,l[j]?=some o→∃ v,σ j=some v∧∀ d,o.dst=some d→a.tmps[d]?=some v):Links l σ en ds:=by
 intro j hj oj d hoj hd
 obtain ⟨v,hv1,hv2⟩:=hσ j hj oj hoj
 have hfj:fs[j]?=some (fs[j]'(by have:=hds j hj;omega)):=List.getElem?_eq_getElem _
 have hpm:=depFacts_mem hoj hfj hj
 obtain ⟨u,hu⟩:=hsee _ hpm d hd
 rcases hlk d u (look_left hu) with h5|⟨_,h5⟩
 ·rw [hv2 d hd] at h5;cases h5;rw [hu,hv1]
 ·exact absurd hd (h5 _ hpm)

theorem finG_of {len:Nat} {listed:Array Bool} {a:Act} {w1:World} (hlen:fs.length=m) (hml:m≤l.length) (hfin:∀ σ w1,Inv len σ w1→Bind w1 (depFacts l fs (List.range m)) (fun en=>Links l σ en (List.range m)→L C k l.toArray (l.drop m) (en++e) w1))
  (hch3:∀ q:Nat,q<len→∃ j:Nat,j<m∧ch[j]?=some (some q))
  (hU:UnderG C l m fs e Inv ch len listed a w1) (hall:∀ j,j<m→listed[j]?=some true):∃ en,Fits C (en++e) a∧L C k l.toArray (l.drop m) (en++e) w1:=by
 obtain ⟨c,σ,hcl2,hI,hcc,hno,hσ⟩:=hU.inv
 have hclen:c=len:=by
  rcases Nat.lt_or_ge c len with h|h
  ·obtain ⟨j,hjm,hj⟩:=hch3 c h
   have:=(hcc j c hj).1 (hall j hjm)
   omega
  ·omega
 subst hclen
 obtain ⟨en,h1,h2,h3⟩:=bind_of2 (a:=a) (e:=e) _ _ (hfin σ w1 hI) (fun p hp=>by
  obtain ⟨j,o,hj,ho,hd,hf⟩:=mem_depFacts hp
  have hjm:j<m:=by simpa using hj
  obtain ⟨v,hv1,hv2⟩:=hU.done j o p.2 hjm ho hf (hall j hjm)
  exact ⟨v,fun d hdd=>hv1 d (by rw [hd];exact hdd),hv2⟩)
 have hlinks:Links l σ en (List.range m):=links_of hlen (fun j hj=>by simpa using hj) h3 h2 (fun j hj o ho=>hσ j o (by simpa using hj) ho (hall j (by simpa using hj)))
 refine ⟨en,⟨⟨hU.tsize,fun i v hi=>?_⟩,hU.defers⟩,h1 hlinks⟩
 rcases h2 i v hi with h|⟨h3,h4⟩
 ·exact h
 ·refine hU.base i v h3 (fun j o hj ho hd=>?_)
  have hf:fs[j]?=some (fs[j]'(by omega)):=List.getElem?_eq_getElem (by omega)
  exact h4 _ (depFacts_mem ho hf (by simpa using hj)) hd

theorem T.anyG {id:Nat} (hmix:C.P.follows .mixedOrders=true) (m len:Nat) (S:List Nat) (he:pickE e S=some e') (fs:List Fact) (ds:List (List Nat)) (ch:List (Option Nat)) (A:List (List Nat)) (Inv:Nat→Vals→World→Prop) (Rel:World→World→Prop) (hA:ancOk l A=true) (hok:anyOk C.n l m ds S A=true) (hch:chainOkR A m ch len=true) (hlen:fs.length=m)
  (hst:StabR Rel fs) (h0:Inv 0 (fun _=>none) w.drew) (hob:ObsG C l fs e' Inv Rel 0 (l.take m) fs ds ch)
  (hfin:∀ σ w1,Inv len σ w1→Bind w1 (depFacts l fs (List.range m)) (fun en=>Links l σ en (List.range m)→L C k l.toArray (l.drop m) (en++e) w1)) :
  T C (.code (.region id l.toArray true)::k) e w:=by
 simp only [anyOk,Bool.and_eq_true,decide_eq_true_eq] at hok
 obtain ⟨⟨⟨⟨⟨⟨⟨hto,hml⟩,hdl⟩,hdst⟩,hdis⟩,hdep⟩,hS⟩,htl⟩:=hok
 simp only [chainOkR,Bool.and_eq_true,decide_eq_true_eq] at hch
 obtain ⟨⟨⟨hcl,hc1⟩,hc2⟩,hc3⟩:=hch
 have hto':∀ i o,l[i]?=some o→∀ x∈o.after,Region.binds .any x=true→x.on<i:=by
  intro i o ho x hx hb
  have h1:=List.all_eq_true.1 hto (o,i) (by rw [List.mem_zipIdx_iff_getElem?];exact ho)
  have h2:=List.all_eq_true.1 h1 x (Array.mem_toList_iff.2 hx)
  simpa [hb] using h2
 have htl':∀ i,m≤i→i<l.length→∀ j,j<i→wt A i j=true:=by
  intro i hi hil j hj
  have h1:=List.all_eq_true.1 htl (l[i],i) (by rw [List.mem_zipIdx_iff_getElem?];exact List.getElem?_eq_getElem hil)
  have h3:¬ i<m:=by omega
  simp only [h3,decide_false,Bool.false_or] at h1
  exact List.all_eq_true.1 h1 j (by simpa using hj)
 have hdst':∀ (i:Nat) (o:Oper),l[i]?=some o→dstOk C.n o.dst=true:=fun i o ho=>List.all_eq_true.1 hdst o (List.mem_of_getElem? ho)
 have hdis':∀ (i j:Nat) (oi oj:Oper),i<m→j<m→i≠j→l[i]?=some oi→l[j]?=some oj→∀ d,oi.dst=some d→oj.dst≠some d:=by
  intro i j oi oj hi hj hne ho1 ho2 d hd1 hd2
  have h1:=List.all_eq_true.1 hdis j (by simpa using hj)
  have h2:=List.all_eq_true.1 h1 i (by simpa using hi)
  have hb:(i == j)=false:=by simpa using hne
  simp [hb,ho1,ho2,hd1,hd2] at h2
 have hdep':∀ (i:Nat) (dd:List Nat),ds[i]?=some dd→∀ j∈dd,j<m∧wt A i j=true:=by
  intro i dd hd j hj
  have h1:=List.all_eq_true.1 hdep (dd,i) (by rw [List.mem_zipIdx_iff_getElem?];exact hd)
  have h2:=List.all_eq_true.1 h1 j hj
  simpa using h2
 have hS':∀ s∈S,∀ (j:Nat) (o:Oper),j<m→l[j]?=some o→o.dst≠some s:=by
  intro s hs j o hj ho hd
  have h1:=List.all_eq_true.1 hS s hs
  simp only [Bool.not_eq_true',List.contains_eq_mem,decide_eq_false_iff_not] at h1
  exact h1 (List.mem_filterMap.2 ⟨j,by simpa using hj,by simp [ho,hd]⟩)
 have hchw:∀ (i p:Nat) (o:Oper),ch[i]?=some (some p)→l[i]?=some o→p<len∧∀ q,q<p→∃ j,ch[j]?=some (some q)∧wt A i j=true:=by
  intro i p o hp ho
  have hi:i<ch.length:=(List.getElem?_eq_some_iff.1 hp).1
  have h1:=List.all_eq_true.1 hc1 i (by simpa using hi)
  simp only [hp,Bool.and_eq_true,decide_eq_true_eq] at h1
  refine ⟨h1.1,fun q hq=>?_⟩
  have h2:=List.all_eq_true.1 h1.2 q (by simp;omega)
  simp only [hq,decide_true,Bool.not_true,Bool.false_or] at h2
  obtain ⟨j,hj,h3⟩:=List.any_eq_true.1 h2
  simp only [Bool.and_eq_true,beq_iff_eq] at h3
  exact ⟨j,h3.1,h3.2⟩
 have hch1:∀ (i j p:Nat),ch[i]?=some (some p)→ch[j]?=some (some p)→i=j:=by
  intro i j p hi hj
  have hil:i<ch.length:=(List.getElem?_eq_some_iff.1 hi).1
  have hjl:j<ch.length:=(List.getElem?_eq_some_iff.1 hj).1
  have h1:=List.all_eq_true.1 (List.all_eq_true.1 hc2 i (by simpa using hil)) j (by simpa using hjl)
  simp only [hi,hj,beq_self_eq_true,Bool.not_true,Bool.false_or,beq_iff_eq] at h1
  exact h1
 have hch3:∀ q:Nat,q<len→∃ j:Nat,j<m∧ch[j]?=some (some q):=by
  intro q hq
  have h1:=List.all_eq_true.1 hc3 q (by simpa using hq)
  obtain ⟨j,hj1,hj⟩:=List.any_eq_true.1 h1
  exact ⟨j,by simpa [hcl] using hj1,by simpa using hj⟩
 intro a0 ha0
 show (Code.region id l.toArray true).wpIn _ _ _ _ _ _
 refine wpIn_region_any hmix ?_
 have hsz:l.toArray.size=l.length:=by simp
 rw [hsz]
 have main:∀ (fuel:Nat) (listed:Array Bool) (a:Act) (w1:World),UnderG C l m fs e Inv ch len listed a w1→(∀ j,j<l.length→listed[j]?=some true∨listed[j]?=some false)→(listed.toList.filter (! ·)).length≤fuel →
   wpAnyIn (FW C.r) 0 C.P .any l.toArray (run C k) fuel listed a w1:=by
  intro fuel
  induction fuel with
  | zero =>
   intro listed a w1 hU htf hcnt
   have hall:∀ j,j<l.length→listed[j]?=some true:=by
    intro j hj
    rcases htf j hj with h|h
    ·exact h
    ·have hm:false∈listed.toList:=List.mem_of_getElem? (i:=j) (by simpa using h)
     have:false∈listed.toList.filter (! ·):=List.mem_filter.2 ⟨hm,rfl⟩
     rw [List.eq_nil_of_length_eq_zero (Nat.le_zero.1 hcnt)] at this
     cases this
   have hm:m=l.length:=by
    rcases Nat.lt_or_ge m l.length with h|h
    ·have h1:=hU.tail m (Nat.le_refl _) h
     rw [hall m h] at h1;cases h1
    ·omega
   obtain ⟨en,hfit,hL⟩:=finG_of hlen hml hfin hch3 hU (fun j hj=>hall j (by omega))
   exact tail_runsA hA htl' hto' 0 l.length listed a w1 (by omega) (by omega) (by rw [hU.size]) hall (fun j h1 h2=>by omega) (by rw [hm] at hL;exact hL a hfit) 0 (Nat.le_refl _)
  | succ fuel ih =>
   intro listed a w1 hU htf hcnt
   by_cases hall:∀ j,j<m→listed[j]?=some true
   ·obtain ⟨en,hfit,hL⟩:=finG_of hlen hml hfin hch3 hU hall
    have hcnt':l.length-m≤fuel+1:=by
     have:=count_tailL listed.toList m (fun j h1 h2=>by have:=hU.tail j h1 (by have:=hU.size;simpa [this] using h2);simpa using this)
     have hsz':=hU.size
     simp at this
     omega
    exact tail_runsA hA htl' hto' (l.length-m) m listed a w1 (by omega) (Nat.le_refl _) (by rw [hU.size]) hall hU.tail (hL a hfit) (fuel+1) hcnt'
   ·refine ⟨fun h0=>?_,fun i hi=>?_⟩
    ·exfalso
     obtain ⟨j,hj1,hj2,hj3⟩:=least_open hall
     have hjl:j<l.length:=by omega
     have hmem:j∈Region.ready .any l.toArray listed:=by
      have hfalse:listed[j]?=some false:=by (rcases htf j hjl with h|h;exact absurd h hj2;exact h)
      refine mem_ready.2 ⟨by rw [Array.getD_eq_getD_getElem?,hfalse];rfl,l[j],by simp [hjl],?_⟩
      intro x hx hb
      have:=hto' j _ (List.getElem?_eq_getElem hjl) x hx hb
      rw [Array.getD_eq_getD_getElem?,hj3 _ this];rfl
     rw [h0] at hmem;cases hmem
    ·obtain ⟨h1,o,ho,hallx⟩:=mem_ready.1 hi
     have ho':l[i]?=some o:=by simpa using ho
     have hil:i<l.length:=(List.getElem?_eq_some_iff.1 ho').1
     have him:i<m:=by
      rcases Nat.lt_or_ge i m with h|h
      ·exact h
      ·exfalso
       obtain ⟨j,hj1,hj2,_⟩:=least_open hall
       exact hj2 (wt_listed hA hto' hU.size hU.closed i i o (Nat.le_refl _) ho' hallx j (htl' i h hil j (by omega)))
     obtain ⟨f,hfi⟩:∃ f,fs[i]?=some f:=⟨fs[i]'(by omega),List.getElem?_eq_getElem (by omega)⟩
     obtain ⟨dd,hdi⟩:∃ dd,ds[i]?=some dd:=⟨ds[i]'(by omega),List.getElem?_eq_getElem (by omega)⟩
     obtain ⟨q,hqi⟩:∃ q,ch[i]?=some q:=⟨ch[i]'(by omega),List.getElem?_eq_getElem (by omega)⟩
     obtain ⟨c,σ,hcl2,hI,hcc,hno,hσ⟩:=hU.inv
     have hli:¬ listed[i]?=some true:=fun h=>by rw [Array.getD_eq_getD_getElem?,h] at h1;simp at h1
     have hpc:∀ p,q=some p→p=c:=by
      rintro p rfl
      have hge:¬ p<c:=fun h=>hli ((hcc i p hqi).2 h)
      have hle:p≤c:=Classical.byContradiction fun hn=>by
       obtain ⟨j,hj,hw⟩:=(hchw i p o hqi ho').2 c (by omega)
       have:=(hcc j c hj).1 (wt_listed hA hto' hU.size hU.closed i i o (Nat.le_refl _) ho' hallx j hw)
       omega
      omega
     have hB:=obsG_at hob i o f dd q (by rw [List.getElem?_take,if_pos him];exact ho') hfi hdi hqi c σ w1 hI hpc (by rw [Nat.zero_add];exact hno i hli)
     rw [Nat.zero_add] at hB
     have hbase:Fits C e' a:=⟨⟨hU.tsize,fun s v hs=>by
      obtain ⟨hs1,hs2⟩:=pickE_look he s v hs
      exact hU.base s v hs2 (fun j oj hj hoj=>hS' s hs1 j oj hj hoj)⟩,hU.defers⟩
     obtain ⟨en,hOb0,hlk,hsee⟩:=bind_of2 (a:=a) (e:=e') _ _ hB (fun p hp=>by
      obtain ⟨j,oj,hj1,hj2,hj3,hj4⟩:=mem_depFacts hp
      obtain ⟨hjm,hjw⟩:=hdep' i dd hdi j hj1
      obtain ⟨v,hv1,hv2⟩:=hU.done j oj p.2 hjm hj2 hj4 (wt_listed hA hto' hU.size hU.closed i i o (Nat.le_refl _) ho' hallx j hjw)
      exact ⟨v,fun d hd=>hv1 d (by rw [hj3];exact hd),hv2⟩)
     have hOb:=hOb0 (links_of hlen (fun j hj=>(hdep' i dd hdi j hj).1) hsee hlk (fun j hj oj hoj=>hσ j oj (hdep' i dd hdi j hj).1 hoj (wt_listed hA hto' hU.size hU.closed i i o (Nat.le_refl _) ho' hallx j (hdep' i dd hdi j hj).2)))
     have hfit:Fits C (en++e') a:=⟨⟨hU.tsize,fun s v hs=>by
      rcases hlk s v hs with h|⟨h,_⟩
      ·exact h
      ·exact hbase.sat.get s v h⟩,hU.defers⟩
     have hcnt':((listed.setIfInBounds i true).toList.filter (! ·)).length≤fuel:=by
      have:=count_set (listed:=listed) (i:=i) (by rcases htf i hil with h|h;exact absurd h hli;exact h)
      omega
     have htf':∀ j,j<l.length→(listed.setIfInBounds i true)[j]?=some true∨(listed.setIfInBounds i true)[j]?=some false:=by
      intro j hj
      by_cases hji:i=j
      ·subst hji;left;rw [Array.getElem?_setIfInBounds_self];simp [hU.size,hil]
      ·rw [Array.getElem?_setIfInBounds_ne hji];exact htf j hj
     have hnext:∀ v w2,Rel w1 w2→Inv (match q with|some _=>c+1|none=>c) (upV σ i v) w2→f.holds v w2→UnderG C l m fs e Inv ch len (listed.setIfInBounds i true) (a.put o.dst v) w2:=by
      intro v w2 hrel hx hh
      refine ⟨by simpa using hU.size,?_,?_,?_,?_,?_,?_,?_⟩
      ·intro i2 o2 ho2 hl2 x hx2 hb2
       have hgx:listed.getD x.on false=true:=by
        by_cases hii:i=i2
        ·subst hii;rw [ho'] at ho2;cases ho2;exact hallx x hx2 hb2
        ·rw [Array.getElem?_setIfInBounds_ne hii] at hl2;exact hU.closed i2 o2 ho2 hl2 x hx2 hb2
       have hgx':=getD_true hgx
       rw [Array.getD_eq_getD_getElem?]
       by_cases hxi:i=x.on
       ·rw [← hxi,Array.getElem?_setIfInBounds_self];simp [hU.size,hil]
       ·rw [Array.getElem?_setIfInBounds_ne hxi,hgx'];rfl
      ·have hltd:∀ d,o.dst=some d→d<C.n:=fun d hd=>by
        have hlt:=hdst' i o ho'
        rw [hd] at hlt
        simpa [dstOk,Nat.blt_eq] using hlt
       refine ⟨_,_,?_,hx,fun j p hj=>?_,fun j hj=>?_,fun j oj hj hoj hlj=>?_⟩
       ·cases q with
        | none=>exact hcl2
        | some p=>have:=hpc p rfl;have:=(hchw i p o hqi ho').1;show c+1≤len;omega
       ·by_cases hji:i=j
        ·subst hji
         rw [hqi] at hj;cases hj
         have:=hpc p rfl
         rw [Array.getElem?_setIfInBounds_self]
         simp only [hU.size,hil,if_true,true_iff]
         omega
        ·rw [Array.getElem?_setIfInBounds_ne hji,hcc j p hj]
         cases q with
         | none=>exact Iff.rfl
         | some p2 =>
          have h3:=hpc p2 rfl
          have hne:p≠p2:=fun e=>hji (hch1 i j p2 hqi (e▸hj))
          show p<c↔p<c+1
          omega
       ·by_cases hji:i=j
        ·subst hji;exact absurd (by rw [Array.getElem?_setIfInBounds_self];simp [hU.size,hil]) hj
        ·rw [upV_ne _ _ hji]
         rw [Array.getElem?_setIfInBounds_ne hji] at hj
         exact hno j hj
       ·by_cases hji:i=j
        ·subst hji
         rw [ho'] at hoj;cases hoj
         refine ⟨v,upV_self _ _ _,fun d hd=>?_⟩
         rw [hd];simp only [Act.put]
         rw [Array.getElem?_setIfInBounds_self];simp [hU.tsize,hltd d hd]
        ·rw [Array.getElem?_setIfInBounds_ne hji] at hlj
         obtain ⟨u,hu1,hu2⟩:=hσ j oj hj hoj hlj
         refine ⟨u,by rw [upV_ne _ _ hji];exact hu1,fun d hd=>?_⟩
         have:=hu2 d hd
         cases hod:o.dst with
         | none=>exact this
         | some d' =>
          have hne:d'≠d:=fun e=>hdis' i j o oj him hj hji ho' hoj d' hod (by rw [hd,e])
          simp only [Act.put]
          rw [Array.getElem?_setIfInBounds_ne hne];exact this
      ·cases o.dst <;> exact hU.defers
      ·cases o.dst <;> simp [Act.put,hU.tsize]
      ·intro s u hs hno
       have h0:=hU.base s u hs hno
       cases hd:o.dst with
       | none=>exact h0
       | some d =>
        have hne:d≠s:=fun e=>hno i o him ho' (by rw [hd,e])
        simp only [Act.put]
        rw [Array.getElem?_setIfInBounds_ne hne];exact h0
      ·intro j hj hjl
       rw [Array.getElem?_setIfInBounds_ne (by omega)];exact hU.tail j hj hjl
      ·intro j oj fj hj hoj hfj hlj
       by_cases hji:i=j
       ·subst hji
        rw [ho'] at hoj;cases hoj
        rw [hfi] at hfj;cases hfj
        refine ⟨v,fun d hd=>?_,hh⟩
        have hlt:=hdst' i o ho'
        rw [hd] at hlt
        have hlt':d<C.n:=by simpa [dstOk,Nat.blt_eq] using hlt
        rw [hd]
        simp only [Act.put]
        rw [Array.getElem?_setIfInBounds_self];simp [hU.tsize,hlt']
       ·rw [Array.getElem?_setIfInBounds_ne hji] at hlj
        obtain ⟨u,hu1,hu2⟩:=hU.done j oj fj hj hoj hfj hlj
        refine ⟨u,fun d hd=>?_,stabR_at hst j fj hfj _ _ _ hrel hu2⟩
        have:=hu1 d hd
        cases hod:o.dst with
        | none=>exact this
        | some d' =>
         have hne:d'≠d:=fun e=>hdis' i j o oj him hj hji ho' hoj d' hod (by rw [hd,e])
         simp only [Act.put]
         rw [Array.getElem?_setIfInBounds_ne hne];exact this
     unfold wpOpIn
     simp only [ho]
     rcases hOb with ⟨hw,hO⟩|⟨hw,hu,hJ⟩
     ·rw [if_pos (wanted_of hfit hw)]
      exact hO a hfit _ _ (fun v w2 ⟨hx,hh⟩=>ih _ _ _ (hnext v w2 hx.1 hx.2 hh) htf' hcnt')
     ·rw [if_neg (by rw [wanted_of hfit hw];simp)]
      exact ⟨fun _ _=>trivial,ih _ _ _ (hnext undef w1 hJ.1 hJ.2 hu) htf' hcnt'⟩
 refine main l.length (Array.replicate l.length false) a0 _ ⟨by simp,fun i o ho hl=>?_,⟨0,_,Nat.zero_le _,h0,fun j p hj=>?_,fun _ _=>rfl,fun j o hj ho hl=>?_⟩,ha0.defers,ha0.sat.size,fun i v hi _=>ha0.sat.get i v hi,fun j _ hj=>by simp [hj],fun j o f _ hj _ hl=>?_⟩ (fun j hj=>by right;simp [hj]) ?_
 ·have hil:=(List.getElem?_eq_some_iff.1 ho).1
  simp [hil] at hl
 ·have hjl:j<l.length:=by have:=(List.getElem?_eq_some_iff.1 hj).1;omega
  simp [hjl]
 ·have hjl:=(List.getElem?_eq_some_iff.1 ho).1
  simp [hjl] at hl
 ·have hjl:=(List.getElem?_eq_some_iff.1 hj).1
  simp [hjl] at hl
 ·simp

end
open Go.RowKit
section
variable {C:Cx} {k:List It} {e:Env} {w:World} {K:Value→World→Prop} {d:Option Tmp} {ty:TypeId} {pos:String} {aft:Array Edge} {g:Option (Nat × Bool)}
theorem run_enterLoop_in {P:Program} {l₀:Nat} {r₀:Loop} (h:w.heap[l₀]?=some (.loop r₀)) (fn:FuncId) (tmps:Array Value) (ps:Array Tmp) (assign body:Code) :
  (Instr.enterLoop fn tmps ps assign body (some l₀)).run P w = .ok (w.heap.size,[]) (w.alloc (.loop { state:=.ready,pending:=none,fn,tmps,params:=ps,assign,body,defers:=r₀.defers })):=by
 unfold Instr.enterLoop
 simp only [Sem.run_bind,run_getLoop h,run_newObj_alloc,Result.andThen,Sem.run_pure]
theorem T.rangeFuncH {σ:Type} (I:σ→(Nat→Prop)→World→Prop) (X:Code→(Nat→Prop)→World→Prop) {g:Operand} {p:Tmp} {assign body:Code} {gf:FuncId} {lb:Array Value} {Next:σ→Value→σ→Prop} {s0 sE:σ}
  {Inv:World→Prop} {S0:Nat→Prop} {Pre:World→Prop} {e1:Value→Nat→Env} (A:Value→Nat→World→Prop) (hr:C.r=none) (hg:ev e g=some (.func (.func gf) #[] lb)) (hcl:∀ args w,(callFunc gf args).run C.P w = .ok (.enter gf args) w) (hp:dstOk C.n (some p)=true)
  (hseq:SeqC C.P gf lb Next s0 sE Inv S0 Pre) (hI:Stab I) (hX:∀ c S W W' b,X c S W→S b→Upd b W W'→X c S W') (hInv:∀ i S W,I i S W→Inv W) (h0:I s0 S0 w) (hS0:∀ k,S0 k→k<w.heap.size) (hPre:∀ W,Ext w W→Pre W)
  (hA:∀ v x W W' b,A v x W→b≠x→Upd b W W'→A v x W')
  (hassign:∀ (l:Nat) (Q:Exit→Act→World→Prop) (i j:σ) (v:Value) (k:List It) (W:World),Next i v j→(∀ x W',W.heap.size≤x→Ext W W'→A v x W'→T (rCx C l Q) k (e1 v x) W')→T (rCx C l Q) (.code assign::k) ((p,v)::e) W)
  (hbody:∀ (l:Nat) (i:σ) (v:Value) (x:Nat) (j:σ) (S:Nat→Prop) (W:World),Next i v j→I i S W→A v x W→(∃ r,W.heap[l]?=some (.loop r))→S l→T (rCx C l (RQ I X j S W)) [.code body] (e1 v x) W)
  (hdone:∀ (S:Nat→Prop) (D:Nat) (W:World),D=w.heap.size→(∀ k,S0 k→S k)→S D→I sE S W→W.heap[D]?=some (.deferred (some []))→T { C with D:={ target:=.collected D,args:=#[] } :: C.D } k e W)
  (hstop:∀ (c:Code) (S:Nat→Prop) (D:Nat) (W:World),D=w.heap.size→S D→X c S W→W.heap[D]?=some (.deferred (some []))→T { C with D:={ target:=.collected D,args:=#[] } :: C.D } (.code c::k) e W) :
  T C (.code (.rangeFunc g #[p] assign body)::k) e w:=fun a ha=>by
 have hrunD:∀ (D:List Deferred) (k:List It),run { C with D:=D } k=run C k:=by
  intro D k
  induction k with
  | nil=>rfl
  | cons it k ih=>cases it <;> simp only [run,ih]
 show (Code.rangeFunc g #[p] assign body).wpIn _ _ _ _ _ _
 refine wpIn_rangeFunc ?_
 intro fn hfn
 rw [show (FW C.r).round=none from hr]
 obtain ⟨rec,hrec⟩:∃ rec:LoopState→Option Code→Loop,rec=fun st pe=>{ state:=st,pending:=pe,fn,tmps:=a.tmps,params:=#[p],assign,body,defers:=w.heap.size }:=⟨_,rfl⟩
 obtain ⟨W1,hW1⟩:∃ W1,(w.alloc (.deferred (some []))).alloc (.loop (rec .ready none))=W1:=⟨_,rfl⟩
 have hL1:W1.heap[w.heap.size+1]?=some (.loop (rec .ready none)):=by
  rw [← hW1];have:=World.alloc_heap_new (w.alloc (.deferred (some []))) (.loop (rec .ready none));rwa [World.size_alloc] at this
 have hK1:W1.heap[w.heap.size]?=some (.deferred (some [])):=by
  rw [← hW1];exact (Below.heap_alloc _ _ _ (by simp)).trans (World.alloc_heap_new w _)
 have he1:Ext w W1:=by rw [← hW1];exact (Keep.alloc 0 w _).trans (Keep.alloc 0 _ _)
 have hz1:W1.heap.size=w.heap.size+2:=by rw [← hW1];simp
 let Up (S:Nat→Prop):Nat→Prop:=fun k=>S k∨k=w.heap.size∨k=w.heap.size+1
 refine ⟨w.heap.size+1,[{ target:=.collected w.heap.size,args:=#[] }],W1,{ target:=.fn (.func gf) lb,args:=#[.func (.yield (w.heap.size+1)) #[] #[]] },W1,gf,
  #[.func (.yield (w.heap.size + 1)) #[] #[]] ++ lb, W1, ?_, ?_, fun _ _ => trivial, ?_, by simp, CallsIn.of_calls ?_⟩
 ·rw [← hW1,hrec];exact run_enterLoop_outer _ _ _ _ _
 ·simp only [resolve,ha.eval hg]
  simp [go_sem]
 ·simp [invoke,go_sem,hcl]
 ·let J:σ→(Nat→Prop)→World→Prop:=fun i S W=>I i (Up S) W∧(¬ S w.heap.size∧¬ S (w.heap.size+1))∧(∀ k,S k→k<W.heap.size)∧W.heap[w.heap.size+1]?=some (.loop (rec .ready none))∧W.heap[w.heap.size]?=some (.deferred (some []))
  let X':World→Prop:=fun W=>∃ c S,X c (Up S) W∧W.heap[w.heap.size+1]?=some (.loop (rec .done (some c)))∧W.heap[w.heap.size]?=some (.deferred (some []))
  have hJ:Stab J:=by
   refine ⟨?_,?_⟩
   ·rintro i S S' W W' ⟨h1,⟨hn1,hn2⟩,hSb,hl,hk⟩ he hS
    have hlt:=(Array.getElem?_eq_some_iff.1 hl).1
    refine ⟨hI.1 i _ _ W W' h1 he ?_,⟨?_,?_⟩,fun k hk=>(hS k hk).elim (fun h=>Nat.lt_of_lt_of_le (hSb k h) he.size) (fun h=>h.2),(he.block _ (Nat.zero_le _) hlt).trans hl,(he.block _ (Nat.zero_le _) (by omega)).trans hk⟩
    ·rintro k (h|h)
     ·exact (hS k h).imp .inl id
     ·exact .inl (.inr h)
    ·intro h;rcases hS _ h with h|h
     ·exact hn1 h
     ·omega
    ·intro h;rcases hS _ h with h|h
     ·exact hn2 h
     ·omega
   ·rintro i S W W' b ⟨h1,⟨hn1,hn2⟩,hSb,hl,hk⟩ hb hu
    refine ⟨hI.2 i _ W W' b h1 (.inl hb) hu,⟨hn1,hn2⟩,fun k hk=>by rw [hu.size];exact hSb k hk,(hu.block _ ?_).trans hl,(hu.block _ ?_).trans hk⟩
    ·rintro rfl;exact hn2 hb
    ·rintro rfl;exact hn1 hb
  refine (hseq (w.heap.size+1) J X' W1 hJ (fun i S W h=>hInv i _ W h.1) ?_ ⟨hI.1 _ _ _ w W1 h0 he1 ?_,⟨fun h=>by have:=hS0 _ h;omega,fun h=>by have:=hS0 _ h;omega⟩,fun k hk=>by have:=hS0 k hk;omega,hL1,hK1⟩ (hPre _ he1)).mono ?_
  ·rintro i v j S W hn ⟨hi,hnS,hSb,hl,hk⟩
   have hlt:w.heap.size+1<W.heap.size:=(Array.getElem?_eq_some_iff.1 hl).1
   have hy:=run_yield (P:=C.P) (args:=#[v]) hl (by rw [hrec];rfl)
   have hy2:(Instr.yield (w.heap.size+1) #[v]).run C.P W = .ok (.round (w.heap.size+1) fn (a.tmps.setIfInBounds p v) assign body) W:=by
    rw [hy,hrec];simp
   refine ⟨fn,_,assign,body,hy2,?_⟩
   have hsat:Sat C.n ((p,v)::e) { tmps:=a.tmps.setIfInBounds p v,defers:=[] }:=Sat.round (D:=a.defers) ha.sat hp
   have hrun:=hassign (w.heap.size+1) (fun _ _ _=>False) i j v [.hook (fun a' W'=>∃ x,W.heap.size≤x∧Ext W W'∧A v x W'∧Sat C.n (e1 v x) a'∧a'.defers = [])] W hn (fun x W' hx he hA a' ha'=>⟨x,hx,he,hA,ha'.sat,ha'.defers⟩) _ ⟨hsat,rfl⟩
   refine roundIn_of_wpIn trivial ?_
   refine wpIn_mono hrun ?_
   rintro ex a' W' hx
   cases ex with
   | normal =>
    obtain ⟨x,hxs,heW,hAx,hs',hd'⟩:=hx
    have hi':=hI.1 i _ (Up S) _ _ hi heW (fun k hk=>.inl hk)
    have hl':=(heW.block _ (Nat.zero_le _) hlt).trans hl
    have hk':=(heW.block _ (Nat.zero_le _) (by omega:w.heap.size<W.heap.size)).trans hk
    have hlt':w.heap.size+1<W'.heap.size:=(Array.getElem?_eq_some_iff.1 hl').1
    refine ⟨_,run_beginRound hl' (by rw [hrec]),?_⟩
    have hl2:(W'.putObj (w.heap.size+1) (.loop { rec .ready none with state:=.busy })).heap[w.heap.size+1]?=some (.loop { rec .ready none with state:=.busy }):=World.putObj_heap_same hlt'
    have hk2:(W'.putObj (w.heap.size+1) (.loop { rec .ready none with state:=.busy })).heap[w.heap.size]?=some (.deferred (some [])):=(World.putObj_heap_other (by omega)).trans hk'
    have hu2:=upd_putObj W' (w.heap.size+1) (.loop { rec .ready none with state:=.busy })
    have hi2:=hI.2 i _ _ _ _ hi' (.inr (.inr rfl)) hu2
    have hb:=hbody (w.heap.size+1) i v x j (Up S) _ hn hi2 (hA _ _ _ _ _ hAx (by omega) hu2) ⟨_,hl2⟩ (.inr (.inr rfl))
    refine wpIn_mono (hb a' ⟨hs',hd'⟩) ?_
    have fin:∀ (jump:Option Code) (W3:World),(∀ k,Up S k→W3.heap[k]?=(W'.putObj (w.heap.size+1) (.loop { rec .ready none with state:=.busy })).heap[k]?) →
      (Instr.endRound (w.heap.size+1) jump).run C.P W3 = .ok (.bool jump.isNone) (W3.putObj (w.heap.size+1) (.loop (rec (if jump.isNone then .ready else .done) jump))) ∧
      (W3.putObj (w.heap.size+1) (.loop (rec (if jump.isNone then .ready else .done) jump))).heap[w.heap.size+1]?=some (.loop (rec (if jump.isNone then .ready else .done) jump)) ∧
      (W3.putObj (w.heap.size+1) (.loop (rec (if jump.isNone then .ready else .done) jump))).heap[w.heap.size]?=some (.deferred (some [])) ∧
      (∀ k,S k→(W3.putObj (w.heap.size+1) (.loop (rec (if jump.isNone then .ready else .done) jump))).heap[k]?=W'.heap[k]?):=fun jump W3 hk3=>by
     have hl3:=(hk3 _ (.inr (.inr rfl))).trans hl2
     have:=run_endRound (P:=C.P) jump hl3
     have hk4:=(hk3 _ (.inr (.inl rfl))).trans hk2
     refine ⟨by rw [hrec] at this ⊢;exact this,World.putObj_heap_same (Array.getElem?_eq_some_iff.1 hl3).1,(World.putObj_heap_other (by omega)).trans hk4,fun k hk=>?_⟩
     have hne:k≠w.heap.size+1:=by rintro rfl;exact hnS.2 hk
     rw [World.putObj_heap_other hne,hk3 k (.inl hk),World.putObj_heap_other hne]
    rintro ex a3 W3 hp3
    cases ex with
    | normal =>
     obtain ⟨hi3,hk3⟩:=hp3
     obtain ⟨hr3,hl4,hk4,hS4⟩:=fin none W3 hk3
     refine ⟨_,_,hr3,.inl ⟨rfl,⟨hI.2 _ _ _ _ _ hi3 (.inr (.inr rfl)) (upd_putObj _ _ _),hnS,fun k hk=>?_,hl4,hk4⟩,fun k hk=>?_⟩⟩
     ·have hlt3:=Nat.lt_of_lt_of_le (hSb k hk) heW.size
      have h:=hS4 k hk
      rw [Array.getElem?_eq_getElem hlt3] at h
      exact (Array.getElem?_eq_some_iff.1 h).1
     rw [hS4 k hk]
     exact heW.block k (Nat.zero_le _) (hSb k hk)
    | ret =>
     obtain ⟨hi3,hk3⟩:=hp3
     obtain ⟨hr3,hl4,hk4,_⟩:=fin (some .ret) W3 hk3
     exact ⟨_,_,hr3,.inr ⟨rfl,.ret,S,hX _ _ _ _ _ hi3 (.inr (.inr rfl)) (upd_putObj _ _ _),hl4,hk4⟩⟩
    | exit id =>
     obtain ⟨hi3,hk3⟩:=hp3
     obtain ⟨hr3,hl4,hk4,_⟩:=fin (some (.exit id)) W3 hk3
     exact ⟨_,_,hr3,.inr ⟨rfl,.exit id,S,hX _ _ _ _ _ hi3 (.inr (.inr rfl)) (upd_putObj _ _ _),hl4,hk4⟩⟩
    | goto t=>exact hp3.elim
    | panic ch=>exact hp3.elim
    | outgrown=>exact hp3.elim
   | ret=>exact hx.elim
   | exit id=>exact hx.elim
   | goto t=>exact hx.elim
   | panic ch=>exact hx.elim
   | outgrown=>exact hx.elim
  ·rintro k (h|h)
   ·exact .inl h
   ·exact .inr (by omega)
  ·rintro en W2 hq
   cases en with
   | panicked c=>exact hq.elim
   | outgrown=>exact hq.elim
   | returned v =>
    have hfits:∀ D,D=w.heap.size→Fits { C with D:={ target:=.collected D,args:=#[] } :: C.D } e { a with defers:=[{ target:=.collected w.heap.size,args:=#[] }]++a.defers }:=by
     rintro D rfl
     exact ⟨⟨ha.sat.size,ha.sat.get⟩,by show _++a.defers=_;rw [ha.defers];rfl⟩
    rcases hq with ⟨S,hS,hi,hnS,_,hl,hk⟩|⟨c,S,hi,hl,hk⟩
    ·refine ⟨none,_,by have:=run_endLoop (P:=C.P) hl (by rw [hrec];simp);rw [hrec] at this;exact this,?_⟩
     have:=hdone (Up S) _ _ rfl (fun k h=>.inl (hS k h)) (.inr (.inl rfl)) (hI.2 _ _ _ _ _ hi (.inr (.inr rfl)) (upd_putObj _ (w.heap.size+1) (.loop { rec .ready none with state:=.exhausted }))) ((World.putObj_heap_other (by omega)).trans hk) _ (hfits _ rfl)
     rw [hrunD] at this
     rw [hrec] at this
     exact this
    ·refine ⟨some c,_,by have:=run_endLoop (P:=C.P) hl (by rw [hrec];simp);rw [hrec] at this;exact this,?_⟩
     have:=hstop c (Up S) _ _ rfl (.inr (.inl rfl)) (hX _ _ _ _ _ hi (.inr (.inr rfl)) (upd_putObj _ (w.heap.size+1) (.loop { rec .done (some c) with state:=.exhausted }))) ((World.putObj_heap_other (by omega)).trans hk) _ (hfits _ rfl)
     have h2:run { C with D:={ target:=.collected w.heap.size,args:=#[] } :: C.D } (.code c::k)=run C (.code c::k):=hrunD _ _
     rw [h2] at this
     rw [hrec] at this
     exact this

theorem T.rangeFuncN {σ:Type} (I:σ→(Nat→Prop)→World→Prop) (X:Code→(Nat→Prop)→World→Prop) {g:Operand} {p:Tmp} {assign body:Code} {gf:FuncId} {lb:Array Value} {Next:σ→Value→σ→Prop} {s0 sE:σ}
  {Inv:World→Prop} {S0:Nat→Prop} {Pre:World→Prop} {e1:Value→Nat→Env} (A:Value→Nat→World→Prop) {l₀:Nat} {r₀:Loop} (hr:C.r=some l₀) (hl₀:w.heap[l₀]?=some (.loop r₀)) (hg:ev e g=some (.func (.func gf) #[] lb)) (hcl:∀ args w,(callFunc gf args).run C.P w = .ok (.enter gf args) w) (hp:dstOk C.n (some p)=true)
  (hseq:SeqC C.P gf lb Next s0 sE Inv S0 Pre) (hI:Stab I) (hX:∀ c S W W' b,X c S W→S b→Upd b W W'→X c S W') (hInv:∀ i S W,I i S W→Inv W) (h0:I s0 S0 w) (hS0:∀ k,S0 k→k<w.heap.size) (hPre:∀ W,Ext w W→Pre W)
  (hA:∀ v x W W' b,A v x W→b≠x→Upd b W W'→A v x W')
  (hassign:∀ (l:Nat) (Q:Exit→Act→World→Prop) (i j:σ) (v:Value) (k:List It) (W:World),Next i v j→(∀ x W',W.heap.size≤x→Ext W W'→A v x W'→T (rCx C l Q) k (e1 v x) W')→T (rCx C l Q) (.code assign::k) ((p,v)::e) W)
  (hbody:∀ (l:Nat) (i:σ) (v:Value) (x:Nat) (j:σ) (S:Nat→Prop) (W:World),Next i v j→I i S W→A v x W→(∃ r,W.heap[l]?=some (.loop r))→S l→T (rCx C l (RQ I X j S W)) [.code body] (e1 v x) W)
  (hdone:∀ (S:Nat→Prop) (W:World),(∀ k,S0 k→S k)→I sE S W→T C k e W)
  (hstop:∀ (c:Code) (S:Nat→Prop) (W:World),X c S W→T C (.code c::k) e W) :
  T C (.code (.rangeFunc g #[p] assign body)::k) e w:=fun a ha=>by
 show (Code.rangeFunc g #[p] assign body).wpIn _ _ _ _ _ _
 refine wpIn_rangeFunc ?_
 intro fn hfn
 rw [show (FW C.r).round=some l₀ from hr]
 obtain ⟨rec,hrec⟩:∃ rec:LoopState→Option Code→Loop,rec=fun st pe=>{ state:=st,pending:=pe,fn,tmps:=a.tmps,params:=#[p],assign,body,defers:=r₀.defers }:=⟨_,rfl⟩
 obtain ⟨W1,hW1⟩:∃ W1,w.alloc (.loop (rec .ready none))=W1:=⟨_,rfl⟩
 have hL1:W1.heap[w.heap.size]?=some (.loop (rec .ready none)):=by
  rw [← hW1];exact World.alloc_heap_new w _
 have he1:Ext w W1:=by rw [← hW1];exact Keep.alloc 0 w _
 have hz1:W1.heap.size=w.heap.size+1:=by rw [← hW1];simp
 let Up (S:Nat→Prop):Nat→Prop:=fun k=>S k∨k=w.heap.size
 refine ⟨w.heap.size,[],W1,{ target:=.fn (.func gf) lb,args:=#[.func (.yield w.heap.size) #[] #[]] },W1,gf,
  #[.func (.yield w.heap.size) #[] #[]] ++ lb, W1, ?_, ?_, fun _ _ => trivial, ?_, by simp, CallsIn.of_calls ?_⟩
 ·rw [← hW1,hrec];exact run_enterLoop_in hl₀ _ _ _ _ _
 ·simp only [resolve,ha.eval hg]
  simp [go_sem]
 ·simp [invoke,go_sem,hcl]
 ·let J:σ→(Nat→Prop)→World→Prop:=fun i S W=>I i (Up S) W∧¬ S w.heap.size∧(∀ k,S k→k<W.heap.size)∧W.heap[w.heap.size]?=some (.loop (rec .ready none))
  let X':World→Prop:=fun W=>∃ c S,X c (Up S) W∧W.heap[w.heap.size]?=some (.loop (rec .done (some c)))
  have hJ:Stab J:=by
   refine ⟨?_,?_⟩
   ·rintro i S S' W W' ⟨h1,hn2,hSb,hl⟩ he hS
    have hlt:=(Array.getElem?_eq_some_iff.1 hl).1
    refine ⟨hI.1 i _ _ W W' h1 he ?_,?_,fun k hk=>(hS k hk).elim (fun h=>Nat.lt_of_lt_of_le (hSb k h) he.size) (fun h=>h.2),(he.block _ (Nat.zero_le _) hlt).trans hl⟩
    ·rintro k (h|h)
     ·exact (hS k h).imp .inl id
     ·exact .inl (.inr h)
    ·intro h;rcases hS _ h with h|h
     ·exact hn2 h
     ·omega
   ·rintro i S W W' b ⟨h1,hn2,hSb,hl⟩ hb hu
    refine ⟨hI.2 i _ W W' b h1 (.inl hb) hu,hn2,fun k hk=>by rw [hu.size];exact hSb k hk,(hu.block _ ?_).trans hl⟩
    rintro rfl;exact hn2 hb
  refine (hseq w.heap.size J X' W1 hJ (fun i S W h=>hInv i _ W h.1) ?_ ⟨hI.1 _ _ _ w W1 h0 he1 ?_,fun h=>by have:=hS0 _ h;omega,fun k hk=>by have:=hS0 k hk;omega,hL1⟩ (hPre _ he1)).mono ?_
  ·rintro i v j S W hn ⟨hi,hnS,hSb,hl⟩
   have hlt:w.heap.size<W.heap.size:=(Array.getElem?_eq_some_iff.1 hl).1
   have hy:=run_yield (P:=C.P) (args:=#[v]) hl (by rw [hrec];rfl)
   have hy2:(Instr.yield w.heap.size #[v]).run C.P W = .ok (.round w.heap.size fn (a.tmps.setIfInBounds p v) assign body) W:=by
    rw [hy,hrec];simp
   refine ⟨fn,_,assign,body,hy2,?_⟩
   have hsat:Sat C.n ((p,v)::e) { tmps:=a.tmps.setIfInBounds p v,defers:=[] }:=Sat.round (D:=a.defers) ha.sat hp
   have hrun:=hassign w.heap.size (fun _ _ _=>False) i j v [.hook (fun a' W'=>∃ x,W.heap.size≤x∧Ext W W'∧A v x W'∧Sat C.n (e1 v x) a'∧a'.defers = [])] W hn (fun x W' hx he hA a' ha'=>⟨x,hx,he,hA,ha'.sat,ha'.defers⟩) _ ⟨hsat,rfl⟩
   refine roundIn_of_wpIn trivial ?_
   refine wpIn_mono hrun ?_
   rintro ex a' W' hx
   cases ex with
   | normal =>
    obtain ⟨x,hxs,heW,hAx,hs',hd'⟩:=hx
    have hi':=hI.1 i _ (Up S) _ _ hi heW (fun k hk=>.inl hk)
    have hl':=(heW.block _ (Nat.zero_le _) hlt).trans hl
    have hlt':w.heap.size<W'.heap.size:=(Array.getElem?_eq_some_iff.1 hl').1
    refine ⟨_,run_beginRound hl' (by rw [hrec]),?_⟩
    have hl2:(W'.putObj w.heap.size (.loop { rec .ready none with state:=.busy })).heap[w.heap.size]?=some (.loop { rec .ready none with state:=.busy }):=World.putObj_heap_same hlt'
    have hu2:=upd_putObj W' w.heap.size (.loop { rec .ready none with state:=.busy })
    have hi2:=hI.2 i _ _ _ _ hi' (.inr rfl) hu2
    have hb:=hbody w.heap.size i v x j (Up S) _ hn hi2 (hA _ _ _ _ _ hAx (by omega) hu2) ⟨_,hl2⟩ (.inr rfl)
    refine wpIn_mono (hb a' ⟨hs',hd'⟩) ?_
    have fin:∀ (jump:Option Code) (W3:World),(∀ k,Up S k→W3.heap[k]?=(W'.putObj w.heap.size (.loop { rec .ready none with state:=.busy })).heap[k]?) →
      (Instr.endRound w.heap.size jump).run C.P W3 = .ok (.bool jump.isNone) (W3.putObj w.heap.size (.loop (rec (if jump.isNone then .ready else .done) jump))) ∧
      (W3.putObj w.heap.size (.loop (rec (if jump.isNone then .ready else .done) jump))).heap[w.heap.size]?=some (.loop (rec (if jump.isNone then .ready else .done) jump)) ∧
      (∀ k,S k→(W3.putObj w.heap.size (.loop (rec (if jump.isNone then .ready else .done) jump))).heap[k]?=W'.heap[k]?):=fun jump W3 hk3=>by
     have hl3:=(hk3 _ (.inr rfl)).trans hl2
     have:=run_endRound (P:=C.P) jump hl3
     refine ⟨by rw [hrec] at this ⊢;exact this,World.putObj_heap_same (Array.getElem?_eq_some_iff.1 hl3).1,fun k hk=>?_⟩
     have hne:k≠w.heap.size:=by rintro rfl;exact hnS hk
     rw [World.putObj_heap_other hne,hk3 k (.inl hk),World.putObj_heap_other hne]
    rintro ex a3 W3 hp3
    cases ex with
    | normal =>
     obtain ⟨hi3,hk3⟩:=hp3
     obtain ⟨hr3,hl4,hS4⟩:=fin none W3 hk3
     refine ⟨_,_,hr3,.inl ⟨rfl,⟨hI.2 _ _ _ _ _ hi3 (.inr rfl) (upd_putObj _ _ _),hnS,fun k hk=>?_,hl4⟩,fun k hk=>?_⟩⟩
     ·have hlt3:=Nat.lt_of_lt_of_le (hSb k hk) heW.size
      have h:=hS4 k hk
      rw [Array.getElem?_eq_getElem hlt3] at h
      exact (Array.getElem?_eq_some_iff.1 h).1
     rw [hS4 k hk]
     exact heW.block k (Nat.zero_le _) (hSb k hk)
    | ret =>
     obtain ⟨hi3,hk3⟩:=hp3
     obtain ⟨hr3,hl4,_⟩:=fin (some .ret) W3 hk3
     exact ⟨_,_,hr3,.inr ⟨rfl,.ret,S,hX _ _ _ _ _ hi3 (.inr rfl) (upd_putObj _ _ _),hl4⟩⟩
    | exit id =>
     obtain ⟨hi3,hk3⟩:=hp3
     obtain ⟨hr3,hl4,_⟩:=fin (some (.exit id)) W3 hk3
     exact ⟨_,_,hr3,.inr ⟨rfl,.exit id,S,hX _ _ _ _ _ hi3 (.inr rfl) (upd_putObj _ _ _),hl4⟩⟩
    | goto t=>exact hp3.elim
    | panic ch=>exact hp3.elim
    | outgrown=>exact hp3.elim
   | ret=>exact hx.elim
   | exit id=>exact hx.elim
   | goto t=>exact hx.elim
   | panic ch=>exact hx.elim
   | outgrown=>exact hx.elim
  ·rintro k (h|h)
   ·exact .inl h
   ·exact .inr (by omega)
  ·rintro en W2 hq
   cases en with
   | panicked c=>exact hq.elim
   | outgrown=>exact hq.elim
   | returned v =>
    rcases hq with ⟨S,hS,hi,hnS,_,hl⟩|⟨c,S,hi,hl⟩
    ·refine ⟨none,_,by have:=run_endLoop (P:=C.P) hl (by rw [hrec];simp);rw [hrec] at this;exact this,?_⟩
     have:=hdone (Up S) _ (fun k h=>.inl (hS k h)) (hI.2 _ _ _ _ _ hi (.inr rfl) (upd_putObj _ w.heap.size (.loop { rec .ready none with state:=.exhausted }))) a ha
     rw [hrec] at this
     exact this
    ·refine ⟨some c,_,by have:=run_endLoop (P:=C.P) hl (by rw [hrec];simp);rw [hrec] at this;exact this,?_⟩
     have:=hstop c (Up S) _ (hX _ _ _ _ _ hi (.inr rfl) (upd_putObj _ w.heap.size (.loop { rec .done (some c) with state:=.exhausted }))) a ha
     rw [hrec] at this
     exact this
theorem T.roundExit {l id:Nat} {σ:Type} {I:σ→(Nat→Prop)→World→Prop} {X:Code→(Nat→Prop)→World→Prop} {j:σ} {S:Nat→Prop} {W W':World} (hk:exitK id k=none) (h:X (.exit id) S W'∧∀ k,S k→W'.heap[k]?=W.heap[k]?):T (rCx C l (RQ I X j S W)) (.code (.exit id)::k) e W':=T.exit_out hk fun a _=>h
theorem T.rangeFuncMH {P:Program} {fn:Func} {n:Nat} {R:Value→World→Prop} {ds:List Nat} {σ:Type} (I:σ→(Nat→Prop)→World→Prop) (X:Code→(Nat→Prop)→World→Prop) {g:Operand} {p:Tmp} {assign body:Code} {gf:FuncId} {lb:Array Value} {Next:σ→Value→σ→Prop} {s0 sE:σ}
  {Inv:World→Prop} {S0:Nat→Prop} {Pre:World→Prop} {e1:Value→Nat→Env} (A:Value→Nat→World→Prop) (hg:ev e g=some (.func (.func gf) #[] lb)) (hcl:∀ args w,(callFunc gf args).run P w = .ok (.enter gf args) w) (hp:dstOk n (some p)=true)
  (hseq:SeqC P gf lb Next s0 sE Inv S0 Pre) (hI:Stab I) (hX:∀ c S W W' b,X c S W→S b→Upd b W W'→X c S W') (hInv:∀ i S W,I i S W→Inv W) (h0:I s0 S0 w) (hS0:∀ k,S0 k→k<w.heap.size) (hPre:∀ W,Ext w W→Pre W)
  (hA:∀ v x W W' b,A v x W→b≠x→Upd b W W'→A v x W')
  (hassign:∀ (l:Nat) (Q:Exit→Act→World→Prop) (i j:σ) (v:Value) (k:List It) (W:World),Next i v j→(∀ x W',W.heap.size≤x→Ext W W'→A v x W'→T (rCx (fnCxM P fn n (coll ds) R) l Q) k (e1 v x) W')→T (rCx (fnCxM P fn n (coll ds) R) l Q) (.code assign::k) ((p,v)::e) W)
  (hbody:∀ (l:Nat) (i:σ) (v:Value) (x:Nat) (j:σ) (S:Nat→Prop) (W:World),Next i v j→I i S W→A v x W→(∃ r,W.heap[l]?=some (.loop r))→S l→T (rCx (fnCxM P fn n (coll ds) R) l (RQ I X j S W)) [.code body] (e1 v x) W)
  (hdone:∀ (S:Nat→Prop) (D:Nat) (W:World),D=w.heap.size→(∀ k,S0 k→S k)→S D→I sE S W→W.heap[D]?=some (.deferred (some []))→T (fnCxM P fn n (coll (D::ds)) R) k e W)
  (hstop:∀ (c:Code) (S:Nat→Prop) (D:Nat) (W:World),D=w.heap.size→S D→X c S W→W.heap[D]?=some (.deferred (some []))→T (fnCxM P fn n (coll (D::ds)) R) (.code c::k) e W) :
  T (fnCxM P fn n (coll ds) R) (.code (.rangeFunc g #[p] assign body)::k) e w :=
 T.rangeFuncH (C:=fnCxM P fn n (coll ds) R) I X A rfl hg hcl hp hseq hI hX hInv h0 hS0 hPre hA hassign hbody hdone hstop

end
end Go.E
