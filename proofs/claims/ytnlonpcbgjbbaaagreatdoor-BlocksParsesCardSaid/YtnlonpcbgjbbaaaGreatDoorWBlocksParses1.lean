/-
  BlocksParses, part 1 of its proof: that it returns true for every input, and each argument reads behind the call as it read before. Conditions: the listed variables read as the program's text lays them (tied by the card).
-/
import Derived.RangeFuncIn
import Derived.OrdersIn
import Derived.TacticsIn
import Derived.Below
import Derived.Laws.AppendOwn
import Derived.IntWalk
import Derived.Sort.LoopGhostIn
import Derived.Laws.Bits64
import Derived.Laws.BitsAllLaws
import Derived.Laws.Shifts
import Derived.Laws.CopyRow
import Derived.Laws.Cells
set_option linter.unusedVariables false
set_option linter.unusedSimpArgs false
set_option linter.unusedSectionVars false
set_option linter.unnecessarySimpa false
theorem omX {P:Prop} (h:P:=by omega):P:=h
theorem dcX {P:Prop} (h:P:=by decide):P:=h
theorem krX {P:Prop} (h:P:=by kernel_rfl):P:=h
theorem spX {P:Prop} (h:P:=by simp):P:=h
theorem leX {n:Nat}:n≤n:=Nat.le_refl _
theorem lzX {n:Nat}:0≤n:=Nat.zero_le _
namespace Go.E
variable {ad:Addr} {x y:Code} {fn:Func} {cs:List Value} {b base id lo n sz:Nat} {P:Program} {σ:Type} {el t:TypeId} {v:Value} {w w':World}
theorem Z.{u} {α:Sort u} {a:α}:a=a:=rfl
open Go.RowKit
abbrev FW (r:Option Nat):Fence:={ fn:=fun _=>True,depth:=none,alive:=false,round:=r }
abbrev Env:=List (Nat × Value)
theorem rF {a:Nat} (h:¬ a=b):Nat.beq a b=false:=by
 cases hb:Nat.beq a b
 ·rfl
 exact absurd (Nat.eq_of_beq_eq_true hb) h
def look:Env→Nat→Option Value
 | [],_=>none
 | p::e,i=>bif Nat.beq p.1 i then some p.2 else look e i
structure Sat (n:Nat) (e:Env) (a:Act):Prop where
 size:a.tmps.size=n
 get:∀ i v,look e i=some v→a.tmps[i]?=some v
def ev (e:Env):Operand→Option Value
 | .tmp t=>look e t
 | .const v=>some v
 | .global g=>some (.pointer (some ⟨g,0,none⟩))
 | .func f=>some (.func (.func f) #[] #[])
def evs (e:Env):List Operand→Option (List Value)
 | []=>some []
 | x::xs=>match ev e x,evs e xs with
  | some v,some vs=>some (v::vs)
  | _,_=>none
theorem Sat.eval {n:Nat} {e:Env} {a:Act} (h:Sat n e a) {x:Operand} {v:Value} (hx:ev e x=some v):a.eval x=v:=by
 cases x with
 | tmp t =>
  have:=h.get t v hx
  simp [Act.eval,Array.getD_eq_getD_getElem?,this]
 | const u=>simpa [ev,Act.eval] using hx
 | global g=>simpa [ev,Act.eval] using hx
 | func f=>simpa [ev,Act.eval] using hx
theorem Sat.Kv {e:Env} {a:Act} (h:Sat n e a):∀ {xs:List Operand} {vs:List Value},evs e xs=some vs→xs.map a.eval=vs:=by
 intro xs
 induction xs with
 | nil=>intro vs hx;simp [evs] at hx;simp [hx]
 | cons x xs ih =>
  intro vs hx
  simp only [evs] at hx
  split at hx
  ·rename_i v c hv b
   cases hx
   simp [h.eval hv,ih b]
  cases hx
def lW (d:Option Tmp) (v:Value) (e:Env):Env:=match d with|some d=>(d,v)::e|none=>e
def iD (n:Nat) (d:Option Tmp):Bool:=match d with|some d=>Nat.blt d n|none=>true
theorem Sat.put {n:Nat} {e:Env} {a:Act} (h:Sat n e a) {d:Option Tmp} {v:Value} (f:iD n d=true):Sat n (lW d v e) (a.put d v):=by
 cases d with
 | none=>exact h
 | some d =>
  have c:d<n:=by simpa [iD,Nat.blt_eq] using f
  refine ⟨by simp [Act.put,h.size],fun i u hi=>?_⟩
  simp only [lW,look] at hi
  simp only [Act.put]
  by_cases b:d=i
  ·subst b
   simp at hi
   subst hi
   rw [Array.getElem?_setIfInBounds_self]
   simp [h.size,c]
  have hb:Nat.beq d i=false:=rF b
  rw [hb] at hi
  rw [Array.getElem?_setIfInBounds_ne b]
  exact h.get i u hi
def Sub:Env→Env→Prop
 | [],_=>True
 | p::e',e=>look e p.1=some p.2∧Sub e' e
theorem Oz {e' e:Env} (h:Sub e' e):∀ i v,look e' i=some v→look e i=some v:=by
 induction e' with
 | nil=>intro i v hi;cases hi
 | cons p e' ih =>
  intro i v hi
  obtain ⟨b,c⟩:=h
  simp only [look] at hi
  by_cases a:p.1=i
  ·subst a;simp at hi;rw [← hi];exact b
  have hb:Nat.beq p.1 i=false:=rF a
  rw [hb] at hi
  exact ih c i v hi
theorem Sat.sub {e' e:Env} {a:Act} (h:Sat n e a) (hs:Sub e' e):Sat n e' a:=⟨h.size,fun i v hi=>h.get i v (Oz hs i v hi)⟩
structure Cx where
 P:Program
 r:Option Nat
 n:Nat
 D:List Deferred
 Q:Exit→Act→World→Prop
inductive It where
 | code (c:Code)
 | blk (id:Nat)
 | hook (H:Act→World→Prop)
def run (C:Cx):List It→Exit→Act→World→Prop
 | []=>C.Q
 | .code c::k=>fun ex a w=>match ex with | .normal=>c.wpIn (FW C.r) 0 C.P (run C k) a w|ex=>run C k ex a w
 | .blk id::k=>fun ex a w=>match ex with | .exit id'=>if id'=id then run C k .normal a w else run C k (.exit id') a w|ex=>run C k ex a w
 | .hook H::k=>fun ex a w=>match ex with | .normal=>H a w|ex=>run C k ex a w
structure Fits (C:Cx) (e:Env) (a:Act):Prop where
 sat:Sat C.n e a
 defers:a.defers=C.D
theorem Fits.eval {C:Cx} {e:Env} {a:Act} (h:Fits C e a) {x:Operand} {v:Value} (hx:ev e x=some v):a.eval x=v:=h.sat.eval hx
theorem Fits.put {C:Cx} {e:Env} {a:Act} (h:Fits C e a) {d:Option Tmp} {v:Value} (b:iD C.n d=true):Fits C (lW d v e) (a.put d v) :=
 ⟨h.sat.put b,by cases d <;> exact h.defers⟩
theorem Fits.sub {C:Cx} {e' e:Env} {a:Act} (h:Fits C e a) (hs:Sub e' e):Fits C e' a:=⟨h.sat.sub hs,h.defers⟩
def T (C:Cx) (k:List It) (e:Env) (w:World):Prop:=∀ a,Fits C e a→run C k .normal a w
def L (C:Cx) (k:List It) (ops:Array Oper) (rest:List Oper) (e:Env) (w:World):Prop :=
 ∀ a,Fits C e a→wpListIn (FW C.r) 0 C.P ops (run C k) rest a w
section control
variable {C:Cx} {k:List It} {e:Env} {w:World}
theorem T.sub {e':Env} (hs:Sub e' e) (h:T C k e' w):T C k e w:=fun a ha=>h a (ha.sub hs)
theorem aj (h:T C (.code x :: .code y::k) e w):T C (.code (.seq x y)::k) e w:=fun a ha=>by
 show (Code.seq x y).wpIn _ _ _ _ _ _
 refine wpIn_seq (wpIn_mono (h a ha) ?_)
 intro ex a w hx
 cases ex <;> exact hx
theorem T.block {id:Nat} {c:Code} (h:T C (.code c :: .blk id::k) e w):T C (.code (.block id c)::k) e w:=fun a ha=>by
 show (Code.block id c).wpIn _ _ _ _ _ _
 refine wpIn_block (wpIn_mono (h a ha) ?_)
 intro ex a w hx
 cases ex <;> exact hx
theorem T.blk {id:Nat} (h:T C k e w):T C (.blk id::k) e w:=h
theorem T.skip (h:T C k e w):T C (.code .skip::k) e w:=fun a ha=>wpIn_skip (h a ha)
theorem SC {l:Nat} (h:T C k e w):T C (.code (.label l)::k) e w:=fun a ha=>wpIn_label (h a ha)
def EW (id:Nat):List It→Option (List It)
 | .blk id'::k=>bif Nat.beq id' id then some k else EW id k
 | .code _::k=>EW id k
 | .hook _::k=>EW id k
 | []=>none
theorem Bz {id:Nat} : ∀ {k k':List It},EW id k=some k'→∀ a w,run C k' .normal a w→run C k (.exit id) a w
 | [],k',h,_,_,_=>by cases h
 | .blk b::k,k',h,a,w,c=>by
  simp only [EW] at h
  show if id=b then _ else _
  by_cases hi:b=id
  ·subst hi
   simp at h
   subst h
   rw [if_pos rfl];exact c
  have hb:Nat.beq b id=false:=rF hi
  rw [hb] at h
  rw [if_neg (fun h=>hi h.symm)]
  exact Bz h a w c
 | .code _::k,k',h,a,w,c=>Bz (k:=k) h a w c
 | .hook _::k,k',h,a,w,c=>Bz (k:=k) h a w c
theorem pW {id:Nat} : ∀ {k:List It},EW id k=none→∀ a w,C.Q (.exit id) a w→run C k (.exit id) a w
 | [],_,_,_,b=>b
 | .blk c::k,h,a,w,b=>by
  simp only [EW] at h
  show if id=c then _ else _
  by_cases hi:c=id
  ·subst hi;simp at h
  have hb:Nat.beq c id=false:=rF hi
  rw [hb] at h
  rw [if_neg (fun h=>hi h.symm)]
  exact pW h a w b
 | .code _::k,h,a,w,b=>pW (k:=k) h a w b
 | .hook _::k,h,a,w,b=>pW (k:=k) h a w b
theorem Ic:∀ {k:List It} a w,C.Q .ret a w→run C k .ret a w
 | [],_,_,h=>h
 | .blk _::k,a,w,h=>Ic (k:=k) a w h
 | .code _::k,a,w,h=>Ic (k:=k) a w h
 | .hook _::k,a,w,h=>Ic (k:=k) a w h
theorem aY {k':List It} (b:EW id k=some k') (h:T C k' e w):T C (.code (.exit id)::k) e w :=
 fun a ha=>wpIn_exit (Bz b a w (h a ha))
theorem Ie (b:EW id k=none) (h:∀ a,Fits C e a→C.Q (.exit id) a w):T C (.code (.exit id)::k) e w :=
 fun a ha=>wpIn_exit (pW b a w (h a ha))
theorem lq (h:∀ a,Fits C e a→C.Q .ret a w):T C (.code .ret::k) e w:=fun a ha=>wpIn_ret (Ic a w (h a ha))
theorem vY {c:Operand} (b:ev e c=some (.bool true)) (h:T C (.code x::k) e w):T C (.code (.cond c x y)::k) e w :=
 fun a ha=>wpIn_cond_true (ha.eval b) (h a ha)
theorem tJ {c:Operand} (b:ev e c=some (.bool false)) (h:T C (.code y::k) e w):T C (.code (.cond c x y)::k) e w :=
 fun a ha=>wpIn_cond_false (ha.eval b) (h a ha)
theorem U5 {c:Operand} {b:Bool} (a:ev e c=some (.bool b)) (d:b=true→T C (.code x::k) e w) (hf:b=false→T C (.code y::k) e w) :
  T C (.code (.cond c x y)::k) e w:=by
 cases b
 ·exact tJ a (hf rfl)
 exact vY a (d rfl)
theorem jQ {c:Operand} {p:Prop} {dp:Decidable p} (a:ev e c=some (.bool (@decide p dp))) (b:p→T C (.code x::k) e w) (hf:¬ p→T C (.code y::k) e w) :
  T C (.code (.cond c x y)::k) e w :=
 U5 a (fun h=>b (of_decide_eq_true h)) (fun h=>hf (of_decide_eq_false h))
def Again (C:Cx) {σ:Type} (E:σ→Env) (I:σ→World→Prop) (μ:σ→Nat) (m:Nat):Act→World→Prop :=
 fun a w=>∃ s,μ s<m∧Fits C (E s) a∧I s w
theorem bf (E:σ→Env) (I:σ→World→Prop) (μ:σ→Nat) (s₀:σ) {c:Code} (hs:Sub (E s₀) e) (h0:I s₀ w)
  (b:∀ s w,I s w→T C (.code c :: .hook (Again C E I μ (μ s))::k) (E s) w):T C (.code (.loop c)::k) e w:=fun a ha=>by
 show (Code.loop c).wpIn _ _ _ _ _ _
 refine wpIn_loop_ghost (fun m a w=>∃ s,μ s=m∧Fits C (E s) a∧I s w) (μ s₀) ⟨s₀,rfl,ha.sub hs,h0⟩ ?_
 rintro m a w ⟨s,rfl,hf,hI⟩
 refine wpIn_mono (b s w hI a hf) ?_
 intro ex a' w' hx
 cases ex with
 | normal=>obtain ⟨s',d,f,g⟩:=hx;exact ⟨μ s',d,s',rfl,f,g⟩
 | exit id=>exact hx
 | goto l=>exact hx
 | ret=>exact hx
 | panic ch=>exact hx
 | outgrown=>exact hx
theorem aP {E:σ→Env} {I:σ→World→Prop} {μ:σ→Nat} {m:Nat} (s:σ) (b:μ s<m) (hs:Sub (E s) e) (h:I s w) :
  T C (.hook (Again C E I μ m)::k) e w:=fun a ha=>⟨s,b,ha.sub hs,h⟩
def Meet (C:Cx) {σ:Type} (E:σ→Env) (I:σ→World→Prop):Act→World→Prop:=fun a w=>∃ s,Fits C (E s) a∧I s w
theorem dS (E:σ→Env) (I:σ→World→Prop) {c:Code} (b:T C (.code c :: .hook (Meet C E I)::k) e w) (d:∀ s w,I s w→T C k (E s) w):T C (.code c::k) e w:=fun a ha=>by
 show c.wpIn _ _ _ _ _ _
 refine wpIn_mono (b a ha) ?_
 intro ex a' w' hx
 cases ex with
 | normal=>obtain ⟨s,hf,hI⟩:=hx;exact d s w' hI a' hf
 | exit id=>exact hx
 | goto l=>exact hx
 | ret=>exact hx
 | panic ch=>exact hx
 | outgrown=>exact hx
theorem bC {E:σ→Env} {I:σ→World→Prop} (s:σ) (hs:Sub (E s) e) (h:I s w):T C (.hook (Meet C E I)::k) e w:=fun a ha=>⟨s,ha.sub hs,h⟩
def fF (ops:Array Oper) (e:Env) (o:Oper):Option Bool :=
 match o.guard with
 | none=>some true
 | some (j,want)=>match (ops[j]?).bind (·.dst) with
  | none=>some false
  | some d=>match look e d with
   | some (.bool b)=>some (b == want)
   | some (.tuple _)=>some false
   | _=>none
theorem lu {ops:Array Oper} {o:Oper} {b:Bool} {a:Act} (ha:Fits C e a) (h:fF ops e o=some b):Region.wanted o (yielded ops a.tmps)=b:=by
 unfold fF at h
 unfold Region.wanted
 cases f:o.guard with
 | none=>simpa [f] using h
 | some p =>
  obtain ⟨j,want⟩:=p
  simp only [f] at h ⊢
  unfold yielded
  cases g:(ops[j]?).bind (·.dst) with
  | none=>simp [g] at h;subst h;simp
  | some d =>
   simp only [g] at h
   simp only [Option.bind_some]
   cases c:look e d with
   | none=>simp [c] at h
   | some v =>
    have hv:=ha.sat.get d v c
    simp only [c] at h
    simp only [hv]
    cases v <;> simp at h ⊢
    ·rw [← h]
    exact h
def O (C:Cx) (e:Env) (o:Oper) (w:World) (K:Value→World→Prop):Prop :=
 ∀ a,Fits C e a→∀ (next:Act→World→Prop) (Q:Exit→Act→World→Prop),(∀ v w',K v w'→next (a.put o.dst v) w')→o.wpIn (FW C.r) 0 C.P a w next Q
theorem ak {ops:Array Oper} (h:T C k e w):L C k ops [] e w:=fun a ha=>h a ha
theorem L.op {ops:Array Oper} {o:Oper} {rest:List Oper} (b:fF ops e o=some true) (c:iD C.n o.dst=true)
  (h:O C e o w (fun v w'=>L C k ops rest (lW o.dst v e) w')):L C k ops (o::rest) e w:=fun a ha=>by
 unfold wpListIn
 rw [lu ha b,if_pos rfl]
 exact h a ha _ _ (fun v w' hv=>hv _ (ha.put c))
theorem U6 {ops:Array Oper} {o:Oper} {rest:List Oper} (b:fF ops e o=some false) (c:iD C.n o.dst=true)
  (h:L C k ops rest (lW o.dst undef e) w):L C k ops (o::rest) e w:=fun a ha=>by
 unfold wpListIn
 rw [lu ha b,if_neg spX]
 exact ⟨fun _ _=>trivial,h _ (ha.put c)⟩
theorem L.o {ops:Array Oper} {o:Oper} {rest:List Oper} (h:O C e o w (fun v w'=>L C k ops rest (lW o.dst v e) w')) (a:fF ops e o=some true:=by rfl) (b:iD C.n o.dst=true:=by rfl):L C k ops (o::rest) e w:=L.op a b h
theorem L.p {ops:Array Oper} {o:Oper} {rest:List Oper} (h:L C k ops rest (lW o.dst undef e) w) (a:fF ops e o=some false:=by rfl) (b:iD C.n o.dst=true:=by rfl):L C k ops (o::rest) e w:=U6 a b h
theorem aA {l:List Oper} (h:L C k l.toArray l e w):T C (.code (.region id l.toArray false)::k) e w :=
 fun a ha=>wpIn_region_lit (h a ha)
end control
section ops
variable {C:Cx} {e:Env} {w:World} {K:Value→World→Prop} {d:Option Tmp} {ty:TypeId} {pos:String} {aft:Array Edge} {g:Option (Nat × Bool)}
theorem bD {o:Oper} (b:∀ c,o.op ≠ .defer c) (d:∀ a,Fits C e a→(execOp a.eval o).run C.P w = .ok (.value v) w') (h:K v w'):O C e o w K:=by
 intro a ha next Q hn
 refine ⟨fun _ _=>trivial,?_⟩
 rw [Oper.semAt_eq _ _ _ b,d a ha]
 exact hn v w' h
theorem nG {o:Oper} (b:∀ c,o.op ≠ .defer c) (d:∀ a,Fits C e a→(execOp a.eval o).run C.P w = .ok .skip w') (h:K undef w'):O C e o w K:=by
 intro a ha next Q hn
 refine ⟨fun _ _=>trivial,?_⟩
 rw [Oper.semAt_eq _ _ _ b,d a ha]
 exact hn undef w' h
theorem O.move {x:Operand} {v:Value} (hx:ev e x=some v) (h:K v w):O C e ⟨d,.move x,ty,pos,aft,g⟩ w K :=
 bD spX (fun a ha=>by simp [execOp,ha.eval hx]) h
theorem wF {x:Operand} (hx:ev e x=some v) (h:K v w):O C e ⟨d,.assign x,ty,pos,aft,g⟩ w K :=
 bD spX (fun a ha=>by simp [execOp,ha.eval hx]) h
theorem L.m {k:List It} {ops:Array Oper} {rest:List Oper} {x:Operand} (hx:ev e x=some v) (h:L C k ops rest (lW d v e) w) (a:fF ops e ⟨d,.move x,ty,pos,aft,g⟩=some true:=by rfl) (b:iD C.n d=true:=by rfl):L C k ops (⟨d,.move x,ty,pos,aft,g⟩::rest) e w:=L.op a b (O.move hx h)
theorem L.a {k:List It} {ops:Array Oper} {rest:List Oper} {x:Operand} (hx:ev e x=some v) (h:L C k ops rest (lW d v e) w) (b:fF ops e ⟨d,.assign x,ty,pos,aft,g⟩=some true:=by rfl) (c:iD C.n d=true:=by rfl):L C k ops (⟨d,.assign x,ty,pos,aft,g⟩::rest) e w:=L.op b c (wF hx h)
theorem au {k:List It} {l:List Oper} (h:L C (.code y::k) l.toArray l e w):T C (.code (.seq (.region id l.toArray false) y)::k) e w:=aj (aA h)
theorem bn {k:List It} {c:Operand} (h:T C (.code y::k) e w) (a:ev e c=some (.bool false):=by rfl):T C (.code (.cond c x y)::k) e w:=tJ a h
theorem aZ {k:List It} {c:Operand} (h:T C (.code x::k) e w) (a:ev e c=some (.bool true):=by rfl):T C (.code (.cond c x y)::k) e w:=vY a h
theorem vZ {c x y:Operand} (b:ev e c=some (.bool true)) (hx:ev e x=some v) (h:K v w):O C e ⟨d,.pick c x y,ty,pos,aft,g⟩ w K :=
 bD spX (fun a ha=>by simp [execOp,ha.eval hx,ha.eval b,asBool]) h
theorem tK {c x y:Operand} (b:ev e c=some (.bool false)) (hx:ev e y=some v) (h:K v w):O C e ⟨d,.pick c x y,ty,pos,aft,g⟩ w K :=
 bD spX (fun a ha=>by simp [execOp,ha.eval hx,ha.eval b,asBool]) h
section ints
variable {x y:Operand} {kd:IntKind} {m n:Int} {tx ty':TypeId}
theorem OA (op:BinOp) (t:TypeId) (x y:Operand) (P:Program) (w:World):(eqGuard op t x y (.int kd m) (.int kd n)).run P w = .ok () w:=by
 cases op <;> simp [eqGuard]
end ints
end ops
section ints
variable {C:Cx} {e:Env} {w:World} {K:Value→World→Prop} {d:Option Tmp} {ty:TypeId} {pos:String} {aft:Array Edge} {g:Option (Nat × Bool)}
variable {x y:Operand} {kd:IntKind} {m n:Int} {tx ty':TypeId}
theorem abG {op:BinOp} {a:Act} {r:Value} (hx:a.eval x = .int kd m) (hy:a.eval y = .int kd n) (b:(binOp op tx (.int kd m) (.int kd n)).run C.P w = .ok r w) :
  (execOp a.eval ⟨d,.binOp op tx x y ty',ty,pos,aft,g⟩).run C.P w = .ok (.value r) w:=by
 simp [execOp,hx,hy,OA,b]
theorem jR {op:BinOp} {r:Value} (hx:ev e x=some (.int kd m)) (hy:ev e y=some (.int kd n)) (b:(binOp op tx (.int kd m) (.int kd n)).run C.P w = .ok r w) (h:K r w) :
  O C e ⟨d,.binOp op tx x y ty',ty,pos,aft,g⟩ w K :=
 bD spX (fun a ha=>abG (ha.eval hx) (ha.eval hy) b) h
theorem O.add (hx:ev e x=some (.int kd m)) (hy:ev e y=some (.int kd n)) (h:K (.int kd (kd.wrap (m+n))) w):O C e ⟨d,.binOp .add tx x y ty',ty,pos,aft,g⟩ w K :=
 jR hx hy (by cases kd <;> simp [binOp,Op.intArith]) h
theorem O.sub (hx:ev e x=some (.int kd m)) (hy:ev e y=some (.int kd n)) (h:K (.int kd (kd.wrap (m-n))) w):O C e ⟨d,.binOp .sub tx x y ty',ty,pos,aft,g⟩ w K :=
 jR hx hy (by cases kd <;> simp [binOp,Op.intArith]) h
theorem YN (hx:ev e x=some (.int kd m)) (hy:ev e y=some (.int kd n)) (h:K (.int kd (kd.wrap (m*n))) w):O C e ⟨d,.binOp .mul tx x y ty',ty,pos,aft,g⟩ w K :=
 jR hx hy (by cases kd <;> simp [binOp,Op.intArith]) h
theorem bG (hx:ev e x=some (.int .i64 m)) (hy:ev e y=some (.int .i64 n)) (hb : -9223372036854775808≤m+n∧m+n≤9223372036854775807) (h:K (.int .i64 (m+n)) w) :
  O C e ⟨d,.binOp .add tx x y ty',ty,pos,aft,g⟩ w K:=O.add hx hy (by rw [IntWalk.i64_in _ hb];exact h)
theorem dh (hx:ev e x=some (.int .i64 m)) (hy:ev e y=some (.int .i64 n)) (hb : -9223372036854775808≤m-n∧m-n≤9223372036854775807) (h:K (.int .i64 (m-n)) w) :
  O C e ⟨d,.binOp .sub tx x y ty',ty,pos,aft,g⟩ w K:=O.sub hx hy (by rw [IntWalk.i64_in _ hb];exact h)
theorem dN (hx:ev e x=some (.int .i64 m)) (hy:ev e y=some (.int .i64 n)) (hb : -9223372036854775808≤m*n∧m*n≤9223372036854775807) (h:K (.int .i64 (m*n)) w) :
  O C e ⟨d,.binOp .mul tx x y ty',ty,pos,aft,g⟩ w K:=YN hx hy (by rw [IntWalk.i64_in _ hb];exact h)
theorem fG (hx:ev e x=some (.int kd m)) (hy:ev e y=some (.int kd n)) (h0:0≤m) (a:n≠0) (h:K (.int kd (m % n)) w):O C e ⟨d,.binOp .rem tx x y ty',ty,pos,aft,g⟩ w K :=
 jR hx hy (by cases kd <;> simp [binOp,Op.intDiv,a,Int.tmod_eq_emod_of_nonneg h0]) h
theorem Kw (hx:ev e x=some (.int kd m)) (hy:ev e y=some (.int kd n)) (a:n≠0) (h:K (.int kd (m.tmod n)) w):O C e ⟨d,.binOp .rem tx x y ty',ty,pos,aft,g⟩ w K :=
 jR hx hy (by cases kd <;> simp [binOp,Op.intDiv,a]) h
theorem uY (hx : ev e x = some (.int .i64 m)) (hy : ev e y = some (.int .i64 n)) (hb : 0 ≤ m ∧ m ≤ 9223372036854775807 ∧ 1 ≤ n) (h : K (.int .i64 (m / n)) w) : O C e ⟨d, .binOp .quo tx x y ty', ty, pos, aft, g⟩ w K :=
  jR hx hy (by have := IntWalk.i64_quo m n hb; have a : n ≠ 0 := by omega
               simp [binOp, Op.intDiv, a, this]) h
theorem uZ (hx:ev e x=some (.int kd m)) (hy:ev e y=some (.int kd n)) (h:K (.bool (decide (m<n))) w):O C e ⟨d,.binOp .lss tx x y ty',ty,pos,aft,g⟩ w K :=
 jR hx hy (by cases kd <;> simp [binOp,Op.intCmp]) h
theorem jS (hx:ev e x=some (.int kd m)) (hy:ev e y=some (.int kd n)) (h:K (.bool (decide (m≤n))) w):O C e ⟨d,.binOp .leq tx x y ty',ty,pos,aft,g⟩ w K :=
 jR hx hy (by cases kd <;> simp [binOp,Op.intCmp]) h
theorem kG (hx:ev e x=some (.int kd m)) (hy:ev e y=some (.int kd n)) (h:K (.bool (decide (n<m))) w):O C e ⟨d,.binOp .gtr tx x y ty',ty,pos,aft,g⟩ w K :=
 jR hx hy (by cases kd <;> simp [binOp,Op.intCmp]) h
theorem kH (hx:ev e x=some (.int kd m)) (hy:ev e y=some (.int kd n)) (h:K (.bool (decide (n≤m))) w):O C e ⟨d,.binOp .geq tx x y ty',ty,pos,aft,g⟩ w K :=
 jR hx hy (by cases kd <;> simp [binOp,Op.intCmp]) h
theorem oh (hx:ev e x=some (.int kd m)) (hy:ev e y=some (.int kd n)) (h:K (.bool (decide (m=n))) w):O C e ⟨d,.binOp .eql tx x y ty',ty,pos,aft,g⟩ w K :=
 jR hx hy (by cases kd <;> simp [binOp,Op.intCmp] <;> rfl) h
theorem pX (hx:ev e x=some (.int kd m)) (hy:ev e y=some (.int kd n)) (h:K (.bool (decide (m≠n))) w):O C e ⟨d,.binOp .neq tx x y ty',ty,pos,aft,g⟩ w K :=
 jR hx hy (by cases kd <;> simp [binOp,Op.intCmp,bne] <;> rfl) h
section words
variable {a b:Nat} (ha:m=a) (hb:n=b) (la:a<18446744073709551616) (lb:b<18446744073709551616)
include ha hb la lb
end words
theorem Ky {op:BinOp} {yk:IntKind} {a:Act} {r:Value} (b:op = .shl∨op = .shr) (hx:a.eval x = .int kd m) (hy:a.eval y = .int yk n) (c:(Op.shift op kd m yk n).run C.P w = .ok r w) :
  (execOp a.eval ⟨d,.binOp op tx x y ty',ty,pos,aft,g⟩).run C.P w = .ok (.value r) w:=by
 rcases b with rfl|rfl <;> simp [execOp,hx,hy,eqGuard,binOp,c]
theorem agR {yk : IntKind} (hx : ev e x = some (.int kd m)) (hy : ev e y = some (.int yk n)) (h0 : 0 ≤ n) (h : K (.int kd (kd.wrap (m * 2 ^ min n.toNat kd.bits))) w) :
    O C e ⟨d, .binOp .shl tx x y ty', ty, pos, aft, g⟩ w K :=
  bD spX (fun a ha => Ky (.inl rfl) (ha.eval hx) (ha.eval hy) (by have : ¬ n < 0 := by omega
                                                                  simp [Op.shift, this])) h
theorem YO {yk : IntKind} (hx : ev e x = some (.int kd m)) (hy : ev e y = some (.int yk n)) (h0 : 0 ≤ n) (h : K (.int kd (m.fdiv (2 ^ min n.toNat kd.bits))) w) :
    O C e ⟨d, .binOp .shr tx x y ty', ty, pos, aft, g⟩ w K :=
  bD spX (fun a ha => Ky (.inr rfl) (ha.eval hx) (ha.eval hy) (by have : ¬ n < 0 := by omega
                                                                  simp [Op.shift, this])) h
theorem O.neg (hx:ev e x=some (.int kd m)) (h:K (.int kd (kd.wrap (0-m))) w):O C e ⟨d,.unOp .neg tx x,ty,pos,aft,g⟩ w K :=
 bD spX (fun a ha=>by simp [execOp,ha.eval hx,Op.unary,Op.intArith]) h
theorem oq {b:Bool} (hx:ev e x=some (.bool b)) (h:K (.bool (!b)) w):O C e ⟨d,.unOp .not tx x,ty,pos,aft,g⟩ w K :=
 bD spX (fun a ha=>by simp [execOp,ha.eval hx,Op.unary]) h
theorem U7 {b:IntKind} {src dst:TypeId} (hx:ev e x=some (.int kd m)) (hs:∀ w,∃ ds,(underlying src).run C.P w = .ok ds w) (f:∀ w,(underlying dst).run C.P w = .ok (.int b) w) (h:K (.int b (b.wrap m)) w) :
  O C e ⟨d,.convert src dst x,ty,pos,aft,g⟩ w K :=
 bD spX (fun a ha=>by obtain ⟨ds,c⟩:=hs w;simp [execOp,ha.eval hx,convert,c,f w,Conv.intToInt]) h
end ints
section bools
variable {C:Cx} {e:Env} {w:World} {K:Value→World→Prop} {d:Option Tmp} {ty:TypeId} {pos:String} {aft:Array Edge} {g:Option (Nat × Bool)}
variable {x y:Operand} {p q:Bool} {tx ty':TypeId}
theorem run_equal_bool (a:∀ w,(underlying tx).run P w = .ok .bool w) (w:World):(Op.equal tx (.bool p) (.bool q)).run P w = .ok (p == q) w:=by
 have key:∀ dd,(Op.equalIn (dd+1) tx (.bool p) (.bool q)).run P w = .ok (p == q) w:=fun dd=>by simp [Op.equalIn,a w]
 exact key 9999
theorem ou (b:∀ w,(underlying tx).run C.P w = .ok .bool w) (hx:ev e x=some (.bool p)) (hy:ev e y=some (.bool q)) (h:K (.bool (p == q)) w):O C e ⟨d,.binOp .eql tx x y ty',ty,pos,aft,g⟩ w K :=
 bD spX (fun a ha=>by simp only [execOp,ha.eval hx,ha.eval hy,eqGuard,binOp];simp [run_equal_bool b w]) h
theorem jT (b:∀ w,(underlying tx).run C.P w = .ok .bool w) (hx:ev e x=some (.bool p)) (hy:ev e y=some (.bool q)) (h:K (.bool (!(p == q))) w):O C e ⟨d,.binOp .neq tx x y ty',ty,pos,aft,g⟩ w K :=
 bD spX (fun a ha=>by simp only [execOp,ha.eval hx,ha.eval hy,eqGuard,binOp];simp [run_equal_bool b w]) h
end bools
structure Keep (lo:Nat) (w w':World):Prop where
 os:w'.os=w.os
 tape:w'.tape=w.tape
 output:w'.output=w.output
 size:w.heap.size≤w'.heap.size
 block:∀ k,lo≤k→k<w.heap.size→w'.heap[k]?=w.heap[k]?
abbrev Ext (w w':World):Prop:=Keep 0 w w'
theorem Keep.refl (lo:Nat) (w:World):Keep lo w w:=⟨rfl,rfl,rfl,Nat.le_refl _,fun _ _ _=>rfl⟩
theorem Keep.trans {lo:Nat} {a b c:World} (h:Keep lo a b) (k:Keep lo b c):Keep lo a c :=
 ⟨k.os.trans h.os,k.tape.trans h.tape,k.output.trans h.output,Nat.le_trans h.size k.size,fun i d hi=>(k.block i d (Nat.lt_of_lt_of_le hi h.size)).trans (h.block i d hi)⟩
theorem Keep.mono {c:Nat} {a b:World} (h:Keep lo a b) (d:lo≤c):Keep c a b:=⟨h.os,h.tape,h.output,h.size,fun k e f=>h.block k (Nat.le_trans d e) f⟩
theorem Keep.alloc (lo:Nat) (w:World) (o:Obj):Keep lo w (w.alloc o):=⟨rfl,rfl,rfl,spX,fun k _ a=>Below.heap_alloc _ _ _ a⟩
theorem Keep.drew (lo:Nat) (w:World):Keep lo w w.drew:=⟨rfl,rfl,rfl,Nat.le_refl _,fun _ _ _=>rfl⟩
theorem Ext.below (h:Ext w w'):Below w.heap.size w w':=⟨h.os,h.tape,h.output,h.size,fun k a=>h.block k lzX a⟩
theorem Ext.of_below (h:Below w.heap.size w w'):Ext w w':=⟨h.os,h.tape,h.output,h.size,fun k _ a=>h.block k a⟩
theorem Keep.cell {lo:Nat} {w w':World} (h:Keep lo w w') {a:Addr} {v:Value} (c:lo≤a.block) (b:w.cell? a=some v):w'.cell? a=some v :=
 (World.cell?_of_block (h.block a.block c (World.block_lt_of_cell? w a b))).trans b
theorem Keep.blk (h:Keep lo w w') {o:Obj} (c:lo≤b) (a:w.heap[b]?=some o):w'.heap[b]?=some o :=
 (h.block b c (Array.getElem?_eq_some_iff.1 a).1).trans a
structure Upd (b:Nat) (w w':World):Prop where
 os:w'.os=w.os
 tape:w'.tape=w.tape
 output:w'.output=w.output
 size:w'.heap.size=w.heap.size
 block:∀ k,k≠b→w'.heap[k]?=w.heap[k]?
theorem Keep.upd {a:World} (h:Keep lo w w') (k:Upd b w' a) (hb:b<lo∨w.heap.size≤b):Keep lo w a :=
 ⟨k.os.trans h.os,k.tape.trans h.tape,k.output.trans h.output,by rw [k.size];exact h.size,fun i c hi=>(k.block i omX).trans (h.block i c hi)⟩
theorem Upd.blk {k:Nat} {o:Obj} (h:Upd b w w') (a:k≠b) (c:w.heap[k]?=some o):w'.heap[k]?=some o:=(h.block k a).trans c
def Blk (w:World) (b:Nat) (cs:List Value) (t:TypeId):Prop:=w.heap[b]?=some (.cells cs.toArray t (0,0))
theorem Blk.lt (h:Blk w b cs t):b<w.heap.size:=(Array.getElem?_eq_some_iff.1 h).1
theorem Blk.cell {w:World} {b:Nat} {cs:List Value} {t:TypeId} (h:Blk w b cs t) {i:Nat} {v:Value} (hv:cs[i]?=some v):w.cell? ⟨b,i,none⟩=some v:=by
 unfold World.cell?;rw [show w.heap[b]?=_ from h];simpa using hv
theorem Blk.keep (h:Blk w b cs t) (k:Keep lo w w') (a:lo≤b):Blk w' b cs t:=k.blk a h
theorem Blk.upd {b':Nat} (h:Blk w b cs t) (k:Upd b' w w') (a:b≠b'):Blk w' b cs t:=k.blk a h
theorem Blk.alloc (w:World) (cs:List Value) (t:TypeId):Blk (w.alloc (.cells cs.toArray t)) w.heap.size cs t:=heap_alloc_new w _
theorem BU (b o i:Nat):(⟨b,o,none⟩:Addr).add i=⟨b,o+i,none⟩:=by unfold Addr.add;split <;> simp_all
theorem add_block (a:Addr) (i:Nat):(a.add i).block=a.block:=by unfold Addr.add;split <;> rfl
theorem add_add (a:Addr) (i j:Nat):(a.add i).add j=a.add (i+j):=by
 unfold Addr.add
 by_cases hi:i=0
 ·subst hi;simp
 by_cases b:j=0
 ·subst b;simp
 rw [if_neg b,if_neg hi,if_neg omX];simp [Nat.add_assoc]
def Row (w:World) (a:Addr) (cs:List Value):Prop:=∀ j u,cs[j]?=some u→w.cell? (a.add j)=some u
theorem Row.keep {a:Addr} (h:Row w a cs) (k:Keep lo w w') (b:lo≤a.block):Row w' a cs :=
 fun j u c=>k.cell (by rw [add_block];exact b) (h j u c)
theorem Row.bI (h:Blk w b cs t):Row w ⟨b,0,none⟩ cs:=fun j u a=>by rw [BU];exact h.cell (by simpa using a)
theorem Row.part {a:Addr} (h:Row w a cs) (i n:Nat):Row w (a.add i) ((cs.drop i).take n):=fun j u b=>by
 rw [add_add]
 refine h _ u ?_
 rw [List.getElem?_take] at b
 split at b
 ·simpa [List.getElem?_drop] using b
 cases b
theorem Row.drop {w:World} {a:Addr} {cs:List Value} (h:Row w a cs) (i:Nat):Row w (a.add i) (cs.drop i):=fun j u b=>by
 rw [add_add];exact h _ u (by simpa [List.getElem?_drop] using b)
theorem Row.take {w:World} {a:Addr} {cs:List Value} (h:Row w a cs) (n:Nat):Row w a (cs.take n):=fun j u b=>by
 rw [List.getElem?_take] at b
 split at b
 ·exact h j u b
 cases b
theorem Row.lt {a:Addr} (h:Row w a cs) (b:cs ≠ []):a.block<w.heap.size:=by
 cases cs with
 | nil=>exact absurd rfl b
 | cons c cs=>have:=World.block_lt_of_cell? w _ (h 0 c rfl);rwa [add_block] at this
def Sl (lo:Nat) (w:World) (v:Value) (n sz:Nat) (cs:List Value):Prop :=
 cs.length=n*sz∧∃ oa cap,v = .slice oa n cap∧n≤cap∧cap≤maxLen∧(n=0∨∃ a,oa=some a∧lo≤a.block∧Row w a cs)
def jX:Value→Addr
 | .slice (some a) _ _=>a
 | _=>⟨0,0,none⟩
theorem Sl.keep {w w':World} {v:Value} {n sz lo:Nat} {cs:List Value} (h:Sl lo w v n sz cs) (k:Keep lo w w'):Sl lo w' v n sz cs:=by
 obtain ⟨c,oa,cap,d,e,f,g⟩:=h
 exact ⟨c,oa,cap,d,e,f,g.imp id fun ⟨a,ha,b,i⟩=>⟨a,ha,b,i.keep k b⟩⟩
theorem Sl.mono {b:Nat} (h:Sl lo w v n sz cs) (d:b≤lo):Sl b w v n sz cs:=by
 obtain ⟨e,oa,cap,f,g,i,j⟩:=h
 exact ⟨e,oa,cap,f,g,i,j.imp id fun ⟨a,ha,c,k⟩=>⟨a,ha,Nat.le_trans d c,k⟩⟩
theorem Sl.nil (lo:Nat) (w:World) (sz:Nat):Sl lo w (.slice none 0 0) 0 sz []:=⟨spX,none,0,rfl,Nat.le_refl _,Nat.zero_le _,.inl rfl⟩
theorem Sl.le (h:Sl lo w v n sz cs):n≤9223372036854775807:=by
 obtain ⟨_,oa,cap,_,b,a,_⟩:=h;unfold maxLen at a;omega
theorem Sl.val (h:Sl lo w v n sz cs):∃ oa cap,v = .slice oa n cap∧n≤cap∧cap≤maxLen:=by
 obtain ⟨_,oa,cap,a,b,c,_⟩:=h;exact ⟨oa,cap,a,b,c⟩
theorem Sl.there (h:Sl lo w v n sz cs) (hn:0<n):∃ cap,v = .slice (some (jX v)) n cap∧n≤cap∧lo≤(jX v).block∧Row w (jX v) cs:=by
 obtain ⟨_,oa,cap,rfl,c,f,b⟩:=h
 rcases b with b|⟨a,rfl,d,e⟩
 ·omega
 exact ⟨cap,rfl,c,d,e⟩
theorem Sl.cell {w:World} {v:Value} {n sz lo:Nat} {cs:List Value} (h:Sl lo w v n sz cs) {j:Nat} {u:Value} (b:cs[j]?=some u):w.cell? ((jX v).add j)=some u:=by
 have a:j<cs.length:=by
  rcases Nat.lt_or_ge j cs.length with c | c
  ·exact c
  rw [List.getElem?_eq_none c] at b;cases b
 have hn:0<n:=by
  rcases Nat.eq_zero_or_pos n with h0|h0
  ·rw [h.1,h0] at a;simp at a
  exact h0
 obtain ⟨_,_,_,_,d⟩:=h.there hn
 exact d j u b
theorem Sl.bI {w:World} {b:Nat} {cs:List Value} {t:TypeId} {n cap sz lo:Nat} (h:Blk w b cs t) (c:cs.length=n*sz) (d:n≤cap) (e:cap≤maxLen) (a:lo≤b):Sl lo w (.slice (some ⟨b,0,none⟩) n cap) n sz cs :=
 ⟨c,some ⟨b,0,none⟩,cap,rfl,d,e,Or.inr ⟨⟨b,0,none⟩,rfl,a,Row.bI h⟩⟩
def Ints (k:IntKind) (lo:Nat) (w:World) (v:Value) (xs:List Int):Prop:=Sl lo w v xs.length 1 (xs.map (Value.int k))
theorem Ints.keep {k:IntKind} {w w':World} {v:Value} {lo:Nat} {xs:List Int} (h:Ints k lo w v xs) (a:Keep lo w w'):Ints k lo w' v xs:=Sl.keep h a
theorem Ints.mono {k:IntKind} {w:World} {v:Value} {lo a:Nat} {xs:List Int} (h:Ints k lo w v xs) (b:a≤lo):Ints k a w v xs:=Sl.mono h b
theorem Ints.cell {k:IntKind} {w:World} {v:Value} {lo:Nat} {xs:List Int} (h:Ints k lo w v xs) {m:Int} (h0:0≤m) (a:m<xs.length):w.cell? ((jX v).add (m.toNat*1))=some (.int k (xs.getD m.toNat 0)):=by
 refine Sl.cell h ?_
 have:m.toNat<xs.length:=by omega
 simp [this,List.getD]
section ops
variable {C:Cx} {k:List It} {e:Env} {w:World} {K:Value→World→Prop} {d:Option Tmp} {ty:TypeId} {pos:String} {aft:Array Edge} {g:Option (Nat × Bool)}
variable {x y z:Operand} {t:TypeId}
theorem O.len {v:Value} {n:Nat} {el:TypeId} (b:∀ w,(underlying t).run C.P w = .ok (.slice el) w) (hx:ev e x=some v) (hv:∃ oa cap,v = .slice oa n cap∧n≤cap∧cap≤maxLen) (h:K (.int .i64 n) w) :
  O C e ⟨d,.call { callee:=.builtin .len,args:=#[x],argTypes:=#[t] },ty,pos,aft,g⟩ w K :=
 bD spX (fun a ha=>by
  obtain ⟨oa,cap,rfl,_⟩:=hv
  simp [execOp,resolve,invoke,builtin,Builtin.len_,ha.eval hx,b w,goInt]) h
theorem BX {s:ByteArray} (b:∀ w,(underlying t).run C.P w = .ok .string w) (hx:ev e x=some (.string s)) (h:K (.int .i64 s.size) w) :
  O C e ⟨d,.call { callee:=.builtin .len,args:=#[x],argTypes:=#[t] },ty,pos,aft,g⟩ w K :=
 bD spX (fun a ha=>by simp [execOp,resolve,invoke,builtin,Builtin.len_,ha.eval hx,b w,goInt]) h
theorem EY {kd:IntKind} {m:Int} (f:∀ w,(underlying t).run C.P w = .ok (.slice el) w) (hs:∀ w,(sizeOf el).run C.P w = .ok sz w)
  (hx:ev e x=some v) (hy:ev e y=some (.int kd m)) {w₁:World} (hv:Sl lo w₁ v n sz cs) (h0:0≤m) (i:m<n) (h:K (.pointer (some ((jX v).add (m.toNat*sz)))) w) :
  O C e ⟨d,.indexAddr t x y,ty,pos,aft,g⟩ w K :=
 bD spX (fun a ha=>by
  obtain ⟨cap,c,_⟩:=hv.there omX
  have b:=ha.eval hx
  rw [c] at b
  have anV:¬ (n≤1∧False):=by simp
  simp [execOp,Instr.indexAt,b,ha.eval hy,asIntOf,f w,h0,i,hs w]) h
theorem gV {kd:IntKind} {m:Int} (b:∀ w,(underlying t).run C.P w = .ok (.array n el) w) (hs:∀ w,(sizeOf el).run C.P w = .ok sz w)
  (hx:ev e x=some (.pointer (some ad))) (hy:ev e y=some (.int kd m)) (h0:0≤m) (c:m<n) (h:K (.pointer (some (ad.add (m.toNat*sz)))) w) :
  O C e ⟨d,.indexAddr t x y,ty,pos,aft,g⟩ w K :=
 bD spX (fun a ha=>by
  simp [execOp,Instr.indexAt,Instr.sureAddr,ha.eval hx,ha.eval hy,asIntOf,b w,h0,c,hs w]) h
theorem EZ {fs:Array Field} {i:Nat} {f:Field} (b:∀ w,(underlying t).run C.P w = .ok (.struct fs) w) (hf:fs[i]?=some f) (hs:∀ w,(sizeOf f.type).run C.P w = .ok (sz+1) w)
  (hx:ev e x=some (.pointer (some ad))) (h:K (.pointer (some (ad.add f.offset))) w):O C e ⟨d,.fieldAddr t x i,ty,pos,aft,g⟩ w K :=
 bD spX (fun a ha=>by simp [execOp,Instr.fieldAt,Instr.sureAddr,ha.eval hx,b w,hf,fieldPlace,hs w]) h
theorem gI (hx:ev e x=some (.pointer (some ad))) (h:K (.pointer (some ad)) w):O C e ⟨d,.nilCheck x,ty,pos,aft,g⟩ w K :=
 bD spX (fun a ha=>by simp [execOp,ha.eval hx]) h
theorem U8 (b:∀ w,(isAgg t).run C.P w = .ok false w) (hx:ev e x=some (.pointer (some ad))) (c:w.cell? ad=some v) (h:K v w) :
  O C e ⟨d,.load t x,ty,pos,aft,g⟩ w K :=
 bD spX (fun a ha=>by simp [execOp,Instr.loadAt,Instr.sureAddr,ha.eval hx,loadVar,b w,c]) h
theorem Ah (b:∀ w,(isAgg t).run C.P w = .ok true w) (hs:∀ w,(sizeOf t).run C.P w = .ok n w) (hn:cs.length=n) (hx:ev e x=some (.pointer (some ad))) (c:Row w ad cs) (h:K (.agg cs.toArray) w) :
  O C e ⟨d,.load t x,ty,pos,aft,g⟩ w K :=
 bD spX (fun a ha=>by subst hn;simp [execOp,Instr.loadAt,Instr.sureAddr,ha.eval hx,loadVar,b w,hs w,run_loadCells_list w ad cs c]) h
theorem O.extract {vs:Array Value} {i:Nat} {v:Value} (hx:ev e x=some (.tuple vs)) (hv:vs[i]?=some v) (h:K v w):O C e ⟨d,.extract x i,ty,pos,aft,g⟩ w K :=
 bD spX (fun a ha=>by simp [execOp,Instr.extract,ha.eval hx,hv]) h
theorem FZ (P:Program) (w:World) (t:TypeId) (cs:Array Value):(newRow t cs).run P w = .ok ⟨w.heap.size,0,none⟩ (w.alloc (.cells cs t)):=by
 simp [newRow]
theorem O.box {v:Value} (hx:ev e x=some v) (h:∀ b w',b=w.heap.size→w'.heap.size=b+1→Ext w w'→Blk w' b v.cells.toList t→K (.pointer (some ⟨b,0,none⟩)) w'):O C e ⟨d,.box t x,ty,pos,aft,g⟩ w K :=
 bD (w':=w.alloc (.cells v.cells t)) (v:=.pointer (some ⟨w.heap.size,0,none⟩)) spX (fun a ha=>by simp [execOp,Instr.box,ha.eval hx,newVar,FZ])
  (h _ _ rfl spX (Keep.alloc _ _ _) (by have:=Blk.alloc w v.cells.toList t;simpa using this))
theorem O.alloc {v:Value} (c:∀ w,(zeroValue t).run C.P w = .ok v w) (h:∀ b w',b=w.heap.size→w'.heap.size=b+1→Ext w w'→Blk w' b v.cells.toList t→K (.pointer (some ⟨b,0,none⟩)) w') :
  O C e ⟨d,.alloc t,ty,pos,aft,g⟩ w K :=
 bD (w':=w.alloc (.cells v.cells t)) (v:=.pointer (some ⟨w.heap.size,0,none⟩)) spX (fun a ha=>by simp [execOp,Instr.alloc,c w,newVar,FZ])
  (h _ _ rfl spX (Keep.alloc _ _ _) (by have:=Blk.alloc w v.cells.toList t;simpa using this))
theorem AV {off:Nat} {tb:TypeId} (hs:∀ w,(sizeOf t).run P w = .ok v.cells.size w) (hb:Blk w b cs tb) (a:off+v.cells.size≤cs.length) (d:∀ u∈v.cells.toList,u.oneCell'=true) :
  ∃ w',(storeVar t ⟨b,off,none⟩ v).run P w = .ok () w'∧Upd b w w'∧Blk w' b (cs.take off++v.cells.toList++cs.drop (off+v.cells.size)) tb:=by
 have c:=run_storeCells_at P b off tb v.cells.toList 0 cs.toArray w hb (by simpa using a) d
 have e:=setRow_heap w b cs.toArray (cs.take (off+0)++v.cells.toList++cs.drop (off+0+v.cells.toList.length)).toArray tb (0,0) hb
 refine ⟨w.setRow b (cs.take (off+0)++v.cells.toList++cs.drop (off+0+v.cells.toList.length)).toArray,?_,⟨rfl,rfl,rfl,spX,fun k f=>setRow_other w b k _ f⟩,?_⟩
 ·simp only [storeVar,Sem.run_bind,hs w,Result.andThen_ok,ne_eq,not_true_eq_false,if_false];exact c
 unfold Blk
 rw [e];simp
theorem O.store {b off:Nat} {cs:List Value} {tb:TypeId} {v:Value} (hs:∀ w,(sizeOf t).run C.P w = .ok v.cells.size w) (hx:ev e x=some (.pointer (some ⟨b,off,none⟩))) (hy:ev e y=some v) (hb:Blk w b cs tb)
  (c:off+v.cells.size≤cs.length) (i:∀ u∈v.cells.toList,u.oneCell'=true) (h:∀ w',Upd b w w'→Blk w' b (cs.take off++v.cells.toList++cs.drop (off+v.cells.size)) tb→K undef w') :
  O C e ⟨d,.store t x y,ty,pos,aft,g⟩ w K:=by
 obtain ⟨w',j,k,f⟩:=AV (P:=C.P) (t:=t) hs hb c i
 exact nG spX (fun a ha=>by simp [execOp,Instr.storeAt,Instr.sureAddr,ha.eval hx,ha.eval hy,j]) (h w' k f)
theorem SE {α:Type} (cs:List α) (off:Nat) (u:α) (h:off<cs.length):cs.take off ++ [u]++cs.drop (off+1)=cs.set off u:=by
 rw [List.set_eq_take_append_cons_drop,if_pos h];simp
theorem bP {off:Nat} {tb:TypeId} (hs:∀ w,(sizeOf t).run C.P w = .ok 1 w) (i:v.oneCell'=true) (hx:ev e x=some (.pointer (some ⟨b,off,none⟩))) (hy:ev e y=some v) (hb:Blk w b cs tb)
  (a:off<cs.length) (h:∀ w',Upd b w w'→Blk w' b (cs.set off v) tb→K undef w'):O C e ⟨d,.store t x y,ty,pos,aft,g⟩ w K:=by
 have f:v.cells=#[v]:=by cases v <;> first|rfl|(simp [Value.oneCell'] at i)
 refine O.store (v:=v) (by rw [f];exact hs) hx hy hb (by rw [f];show off+1≤_;omega) (by rw [f];simpa using i) ?_
 intro w' j c
 refine h w' j ?_
 rw [f] at c
 rw [← SE cs off v a]
 simpa using c
theorem eG {fn:Fn} {fi ca:List Operand} {vf vc:List Value} (hf:evs e fi=some vf) (b:evs e ca=some vc) (h:K (.func fn vf.toArray vc.toArray) w):O C e ⟨d,.makeFunc fn fi.toArray ca.toArray,ty,pos,aft,g⟩ w K :=
 bD spX (fun a ha=>by simp [execOp,Instr.makeFunc,ha.sat.Kv hf,ha.sat.Kv b]) h
theorem bU {parts:List (Nat × Operand)} {vs:List (Nat × Value)} (b:parts.map (fun p=>(p.1,ev e p.2))=vs.map (fun p=>(p.1,some p.2))) (c:∀ w,(Instr.build t vs.toArray).run C.P w = .ok v w) (h:K v w) :
  O C e ⟨d,.build t parts.toArray,ty,pos,aft,g⟩ w K :=
 bD spX (fun a ha=>by
  have:parts.map (fun p=>(p.1,a.eval p.2))=vs:=by
   clear c h
   induction parts generalizing vs with
   | nil=>cases vs <;> simp_all
   | cons p ps ih =>
    cases vs with
    | nil=>simp at b
    | cons q qs =>
     simp only [List.map_cons,List.cons.injEq,Prod.mk.injEq] at b
     obtain ⟨⟨f,i⟩,j⟩:=b
     simp only [List.map_cons,ih j,ha.eval i,f]
  simp only [execOp,List.map_toArray,this]
  simp [c w]) h
theorem aH {parts:List (Nat × Operand)} {vs:List (Nat × Value)} {len:Nat} (c:parts.map (fun p=>(p.1,ev e p.2))=vs.map (fun p=>(p.1,some p.2)))
  (f:∀ w,(Instr.buildSlice t len vs.toArray).run C.P w = .ok (.slice (some ⟨w.heap.size,0,none⟩) len len) (w.alloc (.cells cs.toArray el)))
  (h:∀ b w',b=w.heap.size→w'.heap.size=b+1→Ext w w'→Blk w' b cs el→K (.slice (some ⟨b,0,none⟩) len len) w'):O C e ⟨d,.buildSlice t len parts.toArray,ty,pos,aft,g⟩ w K :=
 bD (w':=w.alloc (.cells cs.toArray el)) (v:=.slice (some ⟨w.heap.size,0,none⟩) len len) spX (fun a ha=>by
  have:parts.map (fun p=>(p.1,a.eval p.2))=vs:=by
   clear f h
   induction parts generalizing vs with
   | nil=>cases vs <;> simp_all
   | cons p ps ih =>
    cases vs with
    | nil=>simp at c
    | cons q qs =>
     simp only [List.map_cons,List.cons.injEq,Prod.mk.injEq] at c
     obtain ⟨⟨i,j⟩,k⟩:=c
     simp only [List.map_cons,ih k,ha.eval j,i]
  simp only [execOp,List.map_toArray,this]
  simp [f w]) (h _ _ rfl spX (Keep.alloc _ _ _) (Blk.alloc _ _ _))
theorem pY {cap:Nat} (hb:Blk w b cs el) (hbase:base≤b) (hn:n≤cap) (c:cap≤maxLen) (a:cs.length=cap*sz):w.ownsRow base el sz (.slice (some ⟨b,0,none⟩) n cap) n (cs.take (n*sz)) :=
 ⟨by rw [List.length_take,a];exact Nat.min_eq_left (Nat.mul_le_mul_right _ hn),.inr ⟨b,cap,cs.toArray,rfl,hbase,hb,hn,c,by simpa using a,spX⟩⟩
theorem Sl.dD {xs:List Value} (h:w.ownsRow base el sz v n xs):Sl base w v n sz xs:=by
 refine ⟨h.1,?_⟩
 rcases h.2 with ⟨rfl,rfl⟩|⟨g,cap,cur,rfl,hb,b,hn,c,d,a⟩
 ·exact ⟨none,0,rfl,Nat.le_refl _,Nat.zero_le _,.inl rfl⟩
 refine ⟨_,cap,rfl,hn,c,.inr ⟨_,rfl,hb,?_⟩⟩
 have e:Blk w g cur.toList el:=by unfold Blk;simpa using b
 rw [← a]
 exact (Row.bI e).take _
theorem cO {xs:List Value} (h:w.ownsRow base el sz v n xs) (k:Keep lo w w') (a:lo≤base):w'.ownsRow base el sz v n xs:=by
 refine ⟨h.1,h.2.imp id ?_⟩
 rintro ⟨g,cap,cur,rfl,hb,b,rest⟩
 exact ⟨g,cap,cur,rfl,hb,k.blk (Nat.le_trans a hb) b,rest⟩
theorem lF {xs:List Value} (h:w.ownsRow base el sz v n xs) (k:Upd b w w') (c:b<base):w'.ownsRow base el sz v n xs:=by
 refine ⟨h.1,h.2.imp id ?_⟩
 rintro ⟨g,cap,cur,rfl,hb,a,rest⟩
 exact ⟨g,cap,cur,rfl,hb,k.blk omX a,rest⟩
theorem Keep.grown {a:World} {row:Option Nat} (h:Keep lo w w') (k:w'.grownBy a row) (hb:∀ j,row=some j→j<lo∨w.heap.size≤j):Keep lo w a :=
 ⟨k.os.trans h.os,k.tape.trans h.tape,k.output.trans h.output,Nat.le_trans h.size k.size,fun i b hi=>(k.block i (Nat.lt_of_lt_of_le hi h.size) (fun e=>by have:=hb i e.symm;omega)).trans (h.block i b hi)⟩
theorem dJ {i:TypeInfo} {zv:Value} {size bytes:Nat} (z:∀ w,(underlying t).run C.P w = .ok (.slice el) w) (hi:C.P.info? el=some i) (N:i.zero=some zv)
  (hsize:i.size=size) (A:i.bytes=bytes) (B:zv.cells.size=size) (D:0<size) {v:Value} {n m:Nat} {xs news:List Value} {u:Value} {lo:Nat}
  (hx:ev e x=some v) (hy:ev e y=some u) (f:w.ownsRow base el size v n xs) (Q:Sl lo w u m size news) (R:∀ c∈news,c.oneCell'=true) (k:(n+m)*bytes≤140737488355328) (E:n+m≤maxLen) (hbase:base≤w.heap.size)
  (h:∀ b w',w'.ownsRow base el size b (n+m) (xs++news)→w.grownBy w' v.ownBlock→K b w') :
  O C e ⟨d,.call { callee:=.builtin .append,args:=#[x,y],argTypes:=#[t,t] },ty,pos,aft,g⟩ w K:=by
 have o:C.P.underlying t=some (.slice el):=by
  have:=z w
  simp only [underlying,Sem.run_bind,run_program,Result.andThen_ok] at this
  cases I:C.P.underlying t with
  | none=>simp [I,stuck] at this
  | some q=>simp [I] at this;rw [this]
 have key:∃ b w',(Builtin.append_ #[t,t] ty #[v,u]).run C.P w = .ok b w'∧w'.ownsRow base el size b (n+m) (xs++news)∧w.grownBy w' v.ownBlock:=by
  obtain ⟨J,oa,cap,rfl,W,X,p⟩:=Q
  have l:∀ (ad:Addr),oa=some ad→Row w ad news→∃ b w',(Builtin.append_ #[t,t] ty #[v,.slice oa m cap]).run C.P w = .ok b w'∧w'.ownsRow base el size b (n+m) (xs++news)∧w.grownBy w' v.ownBlock:=by
   rintro ad rfl r
   obtain ⟨b,w',F,G,S,_⟩:=run_append_own (P:=C.P) w base t ty el i zv size bytes o hi N hsize A B D v n xs f ad m cap news J r R E k hbase
   exact ⟨b,w',F,G,S⟩
  rcases p with rfl|⟨ad,rfl,_,r⟩
  ·have s:news = []:=List.eq_nil_of_length_eq_zero (by simpa using J)
   subst s
   cases oa with
   | some ad=>exact l ad rfl (fun j u T=>by simp at T)
   | none =>
    refine ⟨v,w,?_,by simpa using f,⟨rfl,rfl,rfl,Nat.le_refl _,fun _ _ _=>rfl⟩⟩
    rcases f.2 with ⟨rfl,rfl⟩|⟨gg,L,cur,rfl,hb,Y,H,U,M,V⟩
    ·simp [Builtin.append_,z w,run_underlying o,sizeOf,typeInfo,hi,Builtin.lenOf,Builtin.firstCells]
    have:storeCells ((⟨gg,0,none⟩:Addr).add (n*i.size)) []=(pure ():Sem Unit):=rfl
    simp [Builtin.append_,z w,run_underlying o,sizeOf,typeInfo,hi,Builtin.lenOf,Builtin.firstCells,H,this]
  exact l ad rfl r
 obtain ⟨b,w',r,F,G⟩:=key
 exact bD spX (fun a ha=>by simp [execOp,resolve,invoke,builtin,ha.eval hx,ha.eval hy,r]) (h b w' F G)
def Ret (R:Value→World→Prop):Ending→World→Prop
 | .returned v,w=>R v w
 | _,_=>False
theorem CallsIn.xG {r:Option Nat} {f:FuncId} {args:Array Value} {R:Ending→World→Prop} (h:Calls P f args w R):CallsIn (FW r) n P f args w R :=
 (callsIn_wide (n:=n)).2 h
theorem ay {f:FuncId} {fi ca:Array Value} {xs:List Operand} {vs:List Value} {tys:Array TypeId} {fo:Operand} {R:Value→World→Prop}
  (i:∀ args w,(callFunc f args).run C.P w = .ok (.enter f args) w) (hf:ev e fo=some (.func (.func f) fi ca)) (hx:evs e xs=some vs)
  (k:Calls C.P f (fi++vs.toArray++ca) w (Ret R)) (h:∀ v w',R v w'→K v w'):O C e ⟨d,.call { callee:=.value fo,args:=xs.toArray,argTypes:=tys },ty,pos,aft,g⟩ w K:=by
 intro a ha next Q hn
 refine ⟨fun _ _=>trivial,?_⟩
 rw [Oper.semAt_eq _ _ _ spX]
 have b:(execOp a.eval ⟨d,.call { callee:=.value fo,args:=xs.toArray,argTypes:=tys },ty,pos,aft,g⟩).run C.P w = .ok (.enter f (fi++vs.toArray++ca)) w:=by
  simp [execOp,resolve,Deferred.ofValue,invoke,ha.eval hf,ha.sat.Kv hx,i]
 rw [b]
 refine ⟨spX,CallsIn.xG ?_⟩
 refine k.mono ?_
 intro en w' j
 cases en with
 | returned v=>exact hn v w' (h v w' j)
 | panicked c=>exact j.elim
 | outgrown=>exact j.elim
abbrev YP (P:Program) (fn:Func) (n:Nat) (R:Value→World→Prop):Cx:={ P:=P,r:=none,n:=n,D:=[],Q:=bodyPost P fn (Ret R) }
def xH:Nat→List Value→Env
 | _,[]=>[]
 | i,v::vs=>(i,v)::xH (i+1) vs
theorem l9:∀ (vs:List Value) (i j:Nat) (v:Value),look (xH i vs) j=some v→i≤j∧vs[j-i]?=some v
 | [],_,_,_,h=>by cases h
 | u::vs,i,j,v,h=>by
  simp only [xH,look] at h
  by_cases a:i=j
  ·subst a;simp at h;simp [h]
  rw [rF a] at h
  obtain ⟨c,b⟩:=l9 vs (i+1) j v h
  refine ⟨omX,?_⟩
  rw [show j-i=(j-(i+1))+1 by omega]
  simpa using b
theorem aJ {f:FuncId} {c:Code} {vs:List Value} {R:Value→World→Prop} (hf:P.funcs[f]?=some fn) (hb:fn.body=some c) (hn:fn.ntmps=n) (a:Nat.ble vs.length n=true)
  (h:T (YP P fn n R) [.code c] (xH 0 vs) w):Calls P f vs.toArray w (Ret R):=by
 refine (callsIn_wide (n:=0)).1 (callsIn_of_wp hf hb trivial ?_ rfl)
 have g:vs.length≤n:=by simpa [Nat.ble_eq] using a
 refine h _ ⟨⟨by simp [hn];omega,fun i v hi=>?_⟩,rfl⟩
 obtain ⟨_,b⟩:=l9 vs 0 i v hi
 have d:i<vs.length:=by
  rcases Nat.lt_or_ge i vs.length with e | e
  ·exact e
  rw [Nat.sub_zero,List.getElem?_eq_none e] at b;cases b
 rw [Array.getElem?_append_left (by simpa using d)]
 simpa using b
theorem aB {R:Value→World→Prop} {s:Tmp} (b:fn.results=#[.tmp s]) (hv:look e s=some v) (h:R v w):T (YP P fn n R) (.code .ret::k) e w :=
 lq fun a ha=>bodyPost_ret (results_tmp b _ _ _) ha.defers (by
  have:=ha.sat.get s v hv
  simp [Array.getD_eq_getD_getElem?,this];exact h)
theorem cu {R:Value→World→Prop} {s s':Tmp} {c:Value} (b:fn.results=#[.tmp s,.tmp s']) (hv:look e s=some v) (d:look e s'=some c) (h:R (.tuple #[v,c]) w):T (YP P fn n R) (.code .ret::k) e w :=
 lq fun a ha=>bodyPost_ret (results_tmp2 b _ _ _) ha.defers (by
  have f:=ha.sat.get s v hv
  have g:=ha.sat.get s' c d
  simp [Array.getD_eq_getD_getElem?,f,g];exact h)
theorem xI {R:Value→World→Prop} (b:fn.results=#[]) (h:R (.tuple #[]) w):T (YP P fn n R) [] e w :=
 fun a ha=>bodyPost_end (results_none b _ _ _) ha.defers h
theorem BZ {R:Value→World→Prop} (b:fn.results=#[]) (h:R (.tuple #[]) w):T (YP P fn n R) (.code .ret::k) e w :=
 lq fun a ha=>bodyPost_ret (results_none b _ _ _) ha.defers h
end ops
theorem Keep.of_eq (h:w'=w):Keep lo w w':=h▸Keep.refl _ _
inductive Fact where
 | is (v:Value)
 | such (φ:Value→World→Prop)
def Fact.holds:Fact→Value→World→Prop
 | .is u,v,_=>v=u
 | .such φ,v,w=>φ v w
def AX (e:Env):List Nat→Option Env
 | []=>some []
 | s::S=>match look e s,AX e S with
  | some v,some e'=>some ((s,v)::e')
  | _,_=>none
theorem F5 {e:Env} : ∀ {S:List Nat} {e':Env},AX e S=some e'→∀ i v,look e' i=some v→i∈S∧look e i=some v
 | [],e',h,i,v,hi=>by simp [AX] at h;subst h;cases hi
 | s::S,e',h,i,v,hi=>by
  simp only [AX] at h
  split at h
  ·rename_i u a b c
   cases h
   simp only [look] at hi
   by_cases hs:s=i
   ·subst hs;simp at hi;subst hi;exact ⟨spX,b⟩
   rw [rF hs] at hi
   have:=F5 c i v hi
   exact ⟨by simp [this.1],this.2⟩
  cases h
def Bind (w:World):List (Option Tmp × Fact)→(Env→Prop)→Prop
 | [],K=>K []
 | (d,.is v)::r,K=>Bind w r (fun en=>K (lW d v en))
 | (d,.such φ)::r,K=>∀ v,φ v w→Bind w r (fun en=>K (lW d v en))
def Ob (C:Cx) (ops:Array Oper) (e:Env) (o:Oper) (f:Fact) (w:World):Prop :=
 (fF ops e o=some true∧O C e o w (fun v w'=>Ext w w'∧f.holds v w'))∨(fF ops e o=some false∧f.holds undef w)
theorem Ob.op {C:Cx} {ops:Array Oper} {e:Env} {o:Oper} {f:Fact} (a:fF ops e o=some true) (h:O C e o w (fun v w'=>Ext w w'∧f.holds v w')):Ob C ops e o f w:=.inl ⟨a,h⟩
theorem Ob.o {C:Cx} {ops:Array Oper} {e:Env} {o:Oper} {f:Fact} {w:World} (h:O C e o w (fun v w'=>Ext w w'∧f.holds v w')) (a:fF ops e o=some true:=by rfl):Ob C ops e o f w:=.inl ⟨a,h⟩
theorem kR : Ext w w∧v=v:=⟨Keep.refl _ _,rfl⟩
theorem aV {C:Cx} {ops:Array Oper} {e:Env} {o:Oper} {f:Fact} (a:fF ops e o=some false) (h:f.holds undef w):Ob C ops e o f w:=.inr ⟨a,h⟩
def fH (l:List Oper) (fs:List Fact):List Nat→List (Option Tmp × Fact)
 | []=>[]
 | j::js=>match l[j]?,fs[j]? with
  | some o,some f=>(o.dst,f)::fH l fs js
  | _,_=>fH l fs js
theorem tV {l:List Oper} {fs:List Fact} {j:Nat} {o:Oper} {f:Fact} (ho:l[j]?=some o) (hf:fs[j]?=some f):∀ {ds:List Nat},j∈ds→(o.dst,f)∈fH l fs ds
 | [],h=>by cases h
 | i::is,h=>by
  simp only [fH]
  rcases List.mem_cons.1 h with rfl|h
  ·rw [ho,hf];exact List.mem_cons_self ..
  have:=tV ho hf h
  split
  ·exact List.mem_cons_of_mem _ this
  exact this
theorem F6 {m:Nat} {listed:Array Bool} (h:¬ ∀ j,j<m→listed[j]?=some true):∃ j,j<m∧listed[j]?≠some true∧∀ i,i<j→listed[i]?=some true:=by
 induction m with
 | zero=>exact absurd (fun j d=>by omega) h
 | succ m ih =>
  by_cases a:∀ j,j<m→listed[j]?=some true
  ·refine ⟨m,omX,fun b=>h fun j d=>?_,a⟩
   rcases Nat.lt_or_ge j m with c|c
   ·exact a j c
   rw [show j=m by omega];exact b
  obtain ⟨j,c,e,f⟩:=ih a
  exact ⟨j,omX,e,f⟩
theorem F7:∀ (l:List Bool) (i:Nat),l[i]?=some false→((l.set i true).filter (! ·)).length+1=(l.filter (! ·)).length
 | [],i,h=>by simp at h
 | b::l,0,h=>by simp at h;subst h;simp
 | b::l,i+1,h=>by
  have:=F7 l i (by simpa using h)
  cases b <;> simp at this ⊢ <;> omega
theorem count_set {listed:Array Bool} {i:Nat} (h:listed[i]?=some false):((listed.setIfInBounds i true).toList.filter (! ·)).length+1=(listed.toList.filter (! ·)).length:=by
 rw [Array.toList_setIfInBounds]
 exact F7 _ _ (by simpa using h)
theorem wG:∀ (l:List Bool) (m:Nat),(∀ j,m≤j→j<l.length→l[j]?=some false)→l.length-m≤(l.filter (! ·)).length
 | [],m,_=>by simp
 | b::l,0,h=>by
  have:=wG l 0 (fun j _ a=>by have:=h (j+1) omX (by simpa using a);simpa using this)
  have h0:=h 0 omX spX
  simp at h0;subst h0
  simp at this ⊢;omega
 | b::l,m+1,h=>by
  have:=wG l m (fun j c a=>by have:=h (j+1) omX (by simpa using a);simpa using this)
  cases b <;> simp at this ⊢ <;> omega
theorem tX {l:List Oper} {fs:List Fact} : ∀ {ds:List Nat} {p:Option Tmp × Fact},p∈fH l fs ds→∃ j o,j∈ds∧l[j]?=some o∧o.dst=p.1∧fs[j]?=some p.2
 | [],p,h=>by cases h
 | j::js,p,h=>by
  simp only [fH] at h
  split at h
  ·rename_i o f ho hf
   rcases List.mem_cons.1 h with rfl|h
   ·exact ⟨j,o,spX,ho,rfl,hf⟩
   obtain ⟨j',o',a,b⟩:=tX h
   exact ⟨j',o',by simp [a],b⟩
  obtain ⟨j',o',a,b⟩:=tX h
  exact ⟨j',o',by simp [a],b⟩
section
variable {C:Cx} {k:List It} {l:List Oper} {m:Nat} {fs:List Fact} {e:Env} {w:World} {S:List Nat} {e':Env}
end
section ints
variable {C:Cx} {e:Env} {w:World} {K:Value→World→Prop} {d:Option Tmp} {ty:TypeId} {pos:String} {aft:Array Edge} {g:Option (Nat × Bool)}
variable {x y:Operand} {kd:IntKind} {m n:Int} {tx ty':TypeId}
theorem SG (hx:ev e x=some (.int kd m)) (hy:ev e y=some (.int kd n)) (b:m<n→K (.bool true) w) (hf:¬ m<n→K (.bool false) w):O C e ⟨d,.binOp .lss tx x y ty',ty,pos,aft,g⟩ w K:=uZ hx hy (if a:m<n then by rw [decide_eq_true a];exact b a else by rw [decide_eq_false a];exact hf (by first|exact a|exact Decidable.not_not.1 a))
theorem mD (hx:ev e x=some (.int kd m)) (hy:ev e y=some (.int kd n)) (a:m<n) (h:K (.bool true) w):O C e ⟨d,.binOp .lss tx x y ty',ty,pos,aft,g⟩ w K:=uZ hx hy (by rw [decide_eq_true a];exact h)
theorem fU (hx:ev e x=some (.int kd m)) (hy:ev e y=some (.int kd n)) (a:¬ m<n) (h:K (.bool false) w):O C e ⟨d,.binOp .lss tx x y ty',ty,pos,aft,g⟩ w K:=uZ hx hy (by rw [decide_eq_false (by first|exact a|exact not_not_intro a)];exact h)
theorem fB (hx:ev e x=some (.int kd m)) (hy:ev e y=some (.int kd n)) (b:m≤n→K (.bool true) w) (hf:¬ m≤n→K (.bool false) w):O C e ⟨d,.binOp .leq tx x y ty',ty,pos,aft,g⟩ w K:=jS hx hy (if a:m≤n then by rw [decide_eq_true a];exact b a else by rw [decide_eq_false a];exact hf (by first|exact a|exact Decidable.not_not.1 a))
theorem F8 (hx:ev e x=some (.int kd m)) (hy:ev e y=some (.int kd n)) (a:m≤n) (h:K (.bool true) w):O C e ⟨d,.binOp .leq tx x y ty',ty,pos,aft,g⟩ w K:=jS hx hy (by rw [decide_eq_true a];exact h)
theorem vg (hx:ev e x=some (.int kd m)) (hy:ev e y=some (.int kd n)) (a:¬ m≤n) (h:K (.bool false) w):O C e ⟨d,.binOp .leq tx x y ty',ty,pos,aft,g⟩ w K:=jS hx hy (by rw [decide_eq_false (by first|exact a|exact not_not_intro a)];exact h)
theorem SH (hx:ev e x=some (.int kd m)) (hy:ev e y=some (.int kd n)) (b:n<m→K (.bool true) w) (hf:¬ n<m→K (.bool false) w):O C e ⟨d,.binOp .gtr tx x y ty',ty,pos,aft,g⟩ w K:=kG hx hy (if a:n<m then by rw [decide_eq_true a];exact b a else by rw [decide_eq_false a];exact hf (by first|exact a|exact Decidable.not_not.1 a))
theorem iM (hx:ev e x=some (.int kd m)) (hy:ev e y=some (.int kd n)) (a:n<m) (h:K (.bool true) w):O C e ⟨d,.binOp .gtr tx x y ty',ty,pos,aft,g⟩ w K:=kG hx hy (by rw [decide_eq_true a];exact h)
theorem gW (hx:ev e x=some (.int kd m)) (hy:ev e y=some (.int kd n)) (a:¬ n<m) (h:K (.bool false) w):O C e ⟨d,.binOp .gtr tx x y ty',ty,pos,aft,g⟩ w K:=kG hx hy (by rw [decide_eq_false (by first|exact a|exact not_not_intro a)];exact h)
theorem fJ (hx:ev e x=some (.int kd m)) (hy:ev e y=some (.int kd n)) (b:n≤m→K (.bool true) w) (hf:¬ n≤m→K (.bool false) w):O C e ⟨d,.binOp .geq tx x y ty',ty,pos,aft,g⟩ w K:=kH hx hy (if a:n≤m then by rw [decide_eq_true a];exact b a else by rw [decide_eq_false a];exact hf (by first|exact a|exact Decidable.not_not.1 a))
theorem mF (hx:ev e x=some (.int kd m)) (hy:ev e y=some (.int kd n)) (a:n≤m) (h:K (.bool true) w):O C e ⟨d,.binOp .geq tx x y ty',ty,pos,aft,g⟩ w K:=kH hx hy (by rw [decide_eq_true a];exact h)
theorem oM (hx:ev e x=some (.int kd m)) (hy:ev e y=some (.int kd n)) (a:¬ n≤m) (h:K (.bool false) w):O C e ⟨d,.binOp .geq tx x y ty',ty,pos,aft,g⟩ w K:=kH hx hy (by rw [decide_eq_false (by first|exact a|exact not_not_intro a)];exact h)
theorem SI (hx:ev e x=some (.int kd m)) (hy:ev e y=some (.int kd n)) (b:m=n→K (.bool true) w) (hf:¬ m=n→K (.bool false) w):O C e ⟨d,.binOp .eql tx x y ty',ty,pos,aft,g⟩ w K:=oh hx hy (if a:m=n then by rw [decide_eq_true a];exact b a else by rw [decide_eq_false a];exact hf (by first|exact a|exact Decidable.not_not.1 a))
theorem eU (hx:ev e x=some (.int kd m)) (hy:ev e y=some (.int kd n)) (a:m=n) (h:K (.bool true) w):O C e ⟨d,.binOp .eql tx x y ty',ty,pos,aft,g⟩ w K:=oh hx hy (by rw [decide_eq_true a];exact h)
theorem fV (hx:ev e x=some (.int kd m)) (hy:ev e y=some (.int kd n)) (a:¬ m=n) (h:K (.bool false) w):O C e ⟨d,.binOp .eql tx x y ty',ty,pos,aft,g⟩ w K:=oh hx hy (by rw [decide_eq_false (by first|exact a|exact not_not_intro a)];exact h)
theorem SK (hx:ev e x=some (.int kd m)) (hy:ev e y=some (.int kd n)) (b:m≠n→K (.bool true) w) (hf:m=n→K (.bool false) w):O C e ⟨d,.binOp .neq tx x y ty',ty,pos,aft,g⟩ w K:=pX hx hy (if a:m≠n then by rw [decide_eq_true a];exact b a else by rw [decide_eq_false a];exact hf (by first|exact a|exact Decidable.not_not.1 a))
theorem kT (hx:ev e x=some (.int kd m)) (hy:ev e y=some (.int kd n)) (a:m≠n) (h:K (.bool true) w):O C e ⟨d,.binOp .neq tx x y ty',ty,pos,aft,g⟩ w K:=pX hx hy (by rw [decide_eq_true a];exact h)
theorem fP (hx:ev e x=some (.int kd m)) (hy:ev e y=some (.int kd n)) (a:m=n) (h:K (.bool false) w):O C e ⟨d,.binOp .neq tx x y ty',ty,pos,aft,g⟩ w K:=pX hx hy (by rw [decide_eq_false (by first|exact a|exact not_not_intro a)];exact h)
end ints
section more
variable {C:Cx} {k:List It} {e:Env} {w:World} {K:Value→World→Prop} {d:Option Tmp} {ty:TypeId} {pos:String} {aft:Array Edge} {g:Option (Nat × Bool)}
variable {x y z:Operand} {t:TypeId}
theorem Sl.one (h:Sl lo w v n sz cs):v.oneCell'=true:=by
 obtain ⟨_,oa,cap,rfl,_⟩:=h;rfl
theorem Sl.cells {w:World} {v:Value} {n sz lo:Nat} {cs:List Value} (h:Sl lo w v n sz cs):v.cells=#[v]:=by
 obtain ⟨_,oa,cap,rfl,_⟩:=h;rfl
theorem E5 {i:TypeInfo} {zv:Value} {m:Int} (r:∀ w,(underlying t).run C.P w = .ok (.slice el) w) (hi:∀ w,(typeInfo el).run C.P w = .ok i w) (hs:∀ w,(sizeOf el).run C.P w = .ok 1 w) (u:∀ w,(zeroValue el).run C.P w = .ok zv w)
  (c:zv.cells=#[zv]) (hx:ev e x=some (.int .i64 m)) (y:m=n) (hb:n*i.bytes≤140737488355328) (hn:n≤9223372036854775807)
  (h:∀ b w',b=w.heap.size→w'.heap.size=b+1→Ext w w'→Blk w' b (List.replicate n zv) el→K (.slice (some ⟨b,0,none⟩) n n) w'):O C e ⟨d,.makeSlice t x x,ty,pos,aft,g⟩ w K:=by
 subst y
 have hcells:((Array.range n).map (fun _=>zv))=(List.replicate n zv).toArray:=by
  apply Array.ext
  ·simp
  intro j z o;simp
 refine bD (w':=w.alloc (.cells (List.replicate n zv).toArray el)) (v:=.slice (some ⟨w.heap.size,0,none⟩) n n) spX (fun a ha=>?_) (h _ _ rfl spX (Keep.alloc _ _ _) (Blk.alloc _ _ _))
 have s:IntKind.i64.wrap (n:Int)=n:=IntWalk.i64_in _ ⟨omX,omX⟩
 have o:¬ ((2:Int) ^ 48<(i.bytes:Int)*(n:Int)):=by
  have:(i.bytes:Int)*(n:Int)=((n*i.bytes:Nat):Int):=by rw [Nat.mul_comm];simp
  rw [this]
  have f:(2:Int) ^ 48=281474976710656:=by decide
  rw [f];omega
 have A:¬ ((281474976710656:Int)<(i.bytes:Int)*(n:Int)):=by
  have f:(2:Int) ^ 48=281474976710656:=by decide
  rwa [f] at o
 have B:¬ ((n:Int)<0):=by omega
 have hroom:(askRoom (n*i.bytes)).run C.P w = .ok () w:=by
  have:¬ (n*i.bytes > roomBytes):=by
   have p:roomBytes=140737488355328:=by decide
   rw [p];omega
  simp [askRoom,this]
 by_cases k:n=0
 ·subst k
  have q:IntKind.i64.wrap 0=0:=s
  have D:¬ ((281474976710656:Int)<0):=by omega
  simp [execOp,Instr.makeSlice,ha.eval hx,r w,hi w,asInt,asIntOf,q,hroom,hs w,newRow,askRoom,roomBytes]
  rw [show Array.map (fun _=>(default:Value)) (Array.range 0)=#[] from by simp]
 have l:((Array.range n).map (fun j=>zv.cells[j % zv.cells.size]!))=(List.replicate n zv).toArray:=by
  rw [← hcells]
  apply Array.map_congr_left
  intro j _
  rw [c];simp [Nat.mod_one]
 have E:((Array.range n).map (fun j=>(#[zv]:Array Value)[j % 1]!))=(List.replicate n zv).toArray:=by rw [c] at l;exact l
 simp [execOp,Instr.makeSlice,ha.eval hx,r w,hi w,asInt,asIntOf,s,A,B,hroom,hs w,newRow,k,u w,c]
 congr 2
 apply Array.ext
 ·simp
 intro j z o;simp [Nat.mod_one]
end more
section more
variable {C:Cx} {k:List It} {e:Env} {w:World} {K:Value→World→Prop} {d:Option Tmp} {ty:TypeId} {pos:String} {aft:Array Edge} {g:Option (Nat × Bool)}
variable {x y z:Operand} {t:TypeId}
theorem bV {o j:Nat} {tb:TypeId} (hs:∀ w,(sizeOf t).run C.P w = .ok 1 w) (c:v.oneCell'=true) (hx:ev e x=some (.pointer (some ((⟨b,o,none⟩:Addr).add j)))) (hy:ev e y=some v) (hb:Blk w b cs tb)
  (a:o+j<cs.length) (h:∀ w',Upd b w w'→Blk w' b (cs.set (o+j) v) tb→K undef w'):O C e ⟨d,.store t x y,ty,pos,aft,g⟩ w K :=
 bP hs c (by rw [hx,BU]) hy hb a h
theorem Ints.bI {kd:IntKind} {w:World} {b lo:Nat} {xs:List Int} {t:TypeId} {n:Nat} (h:Blk w b (xs.map (Value.int kd)) t) (hn:xs.length=n) (c:n≤maxLen) (a:lo≤b):Ints kd lo w (.slice (some ⟨b,0,none⟩) n n) xs:=by
 subst hn;exact Sl.bI h spX leX c a
end more
theorem Ints.at {k:IntKind} {xs:List Int} (h:Ints k lo w v xs) {i:Nat} (a:i<xs.length):w.cell? ((jX v).add ((i:Int).toNat*1))=some (.int k (xs.getD i 0)):=h.cell (m:=i) omX omX
end Go.E
