/-
  BlocksBack, part 1 of its proof: that it returns true for every input, and each argument reads behind the call as it read before. Conditions: the listed variables read as the program's text lays them (tied by the card).
-/
import Derived.RangeFuncIn
import Derived.OrdersIn
import Derived.TacticsIn
import Derived.Below
import Derived.Laws.AppendOwn
import Derived.IntWalk
import Derived.Sort.LoopGhostIn
import Derived.Laws.Bits64
import Derived.Laws.BitsAllLaws
import Derived.Laws.Shifts
import Derived.Laws.CopyRow
import Derived.Laws.Cells
set_option linter.unusedVariables false
set_option linter.unusedSimpArgs false
set_option linter.unusedSectionVars false
set_option linter.unnecessarySimpa false
set_option linter.unusedVariables false
set_option linter.unusedSimpArgs false
namespace Go.E
open Go.RowKit
abbrev FW (r:Option Nat):Fence:={ fn:=fun _=>True,depth:=none,alive:=false,round:=r }
abbrev Env:=List (Nat × Value)
theorem jR {a b:Nat} (h:¬ a=b):Nat.beq a b=false:=by
 cases hb:Nat.beq a b
 ·rfl
 exact absurd (Nat.eq_of_beq_eq_true hb) h
def look:Env→Nat→Option Value
 | [],_=>none
 | p::e,i=>bif Nat.beq p.1 i then some p.2 else look e i
structure Sat (n:Nat) (e:Env) (a:Act):Prop where
 size:a.tmps.size=n
 get:∀ i v,look e i=some v→a.tmps[i]?=some v
def ev (e:Env):Operand→Option Value
 | .tmp t=>look e t
 | .const v=>some v
 | .global g=>some (.pointer (some ⟨g,0,none⟩))
 | .func f=>some (.func (.func f) #[] #[])
def evs (e:Env):List Operand→Option (List Value)
 | []=>some []
 | x::xs=>match ev e x,evs e xs with
  | some v,some vs=>some (v::vs)
  | _,_=>none
theorem Sat.eval {n:Nat} {e:Env} {a:Act} (h:Sat n e a) {x:Operand} {v:Value} (hx:ev e x=some v):a.eval x=v:=by
 cases x with
 | tmp t =>
  have:=h.get t v hx
  simp [Act.eval,Array.getD_eq_getD_getElem?,this]
 | const u=>simpa [ev,Act.eval] using hx
 | global g=>simpa [ev,Act.eval] using hx
 | func f=>simpa [ev,Act.eval] using hx
theorem Sat.EP {n:Nat} {e:Env} {a:Act} (h:Sat n e a):∀ {xs:List Operand} {vs:List Value},evs e xs=some vs→xs.map a.eval=vs:=by
 intro xs
 induction xs with
 | nil=>intro vs hx;simp [evs] at hx;simp [hx]
 | cons x xs ih =>
  intro vs hx
  simp only [evs] at hx
  split at hx
  ·rename_i v vs' hv hvs
   cases hx
   simp [h.eval hv,ih hvs]
  cases hx
def Aw (d:Option Tmp) (v:Value) (e:Env):Env:=match d with|some d=>(d,v)::e|none=>e
def gK (n:Nat) (d:Option Tmp):Bool:=match d with|some d=>Nat.blt d n|none=>true
theorem Sat.put {n:Nat} {e:Env} {a:Act} (h:Sat n e a) {d:Option Tmp} {v:Value} (hd:gK n d=true):Sat n (Aw d v e) (a.put d v):=by
 cases d with
 | none=>exact h
 | some d =>
  have hlt:d<n:=by simpa [gK,Nat.blt_eq] using hd
  refine ⟨by simp [Act.put,h.size],fun i u hi=>?_⟩
  simp only [Aw,look] at hi
  simp only [Act.put]
  by_cases hdi:d=i
  ·subst hdi
   simp at hi
   subst hi
   rw [Array.getElem?_setIfInBounds_self]
   simp [h.size,hlt]
  have hb:Nat.beq d i=false:=jR hdi
  rw [hb] at hi
  rw [Array.getElem?_setIfInBounds_ne hdi]
  exact h.get i u hi
def Sub:Env→Env→Prop
 | [],_=>True
 | p::e',e=>look e p.1=some p.2∧Sub e' e
theorem IB {e' e:Env} (h:Sub e' e):∀ i v,look e' i=some v→look e i=some v:=by
 induction e' with
 | nil=>intro i v hi;cases hi
 | cons p e' ih =>
  intro i v hi
  obtain ⟨h1,h2⟩:=h
  simp only [look] at hi
  by_cases hp:p.1=i
  ·subst hp;simp at hi;rw [← hi];exact h1
  have hb:Nat.beq p.1 i=false:=jR hp
  rw [hb] at hi
  exact ih h2 i v hi
theorem Sat.sub {n:Nat} {e' e:Env} {a:Act} (h:Sat n e a) (hs:Sub e' e):Sat n e' a:=⟨h.size,fun i v hi=>h.get i v (IB hs i v hi)⟩
structure Cx where
 P:Program
 r:Option Nat
 n:Nat
 D:List Deferred
 Q:Exit→Act→World→Prop
inductive It where
 | code (c:Code)
 | blk (id:Nat)
 | hook (H:Act→World→Prop)
def run (C:Cx):List It→Exit→Act→World→Prop
 | []=>C.Q
 | .code c::k=>fun ex a w=>match ex with | .normal=>c.wpIn (FW C.r) 0 C.P (run C k) a w|ex=>run C k ex a w
 | .blk id::k=>fun ex a w=>match ex with | .exit id'=>if id'=id then run C k .normal a w else run C k (.exit id') a w|ex=>run C k ex a w
 | .hook H::k=>fun ex a w=>match ex with | .normal=>H a w|ex=>run C k ex a w
structure Fits (C:Cx) (e:Env) (a:Act):Prop where
 sat:Sat C.n e a
 defers:a.defers=C.D
theorem Fits.eval {C:Cx} {e:Env} {a:Act} (h:Fits C e a) {x:Operand} {v:Value} (hx:ev e x=some v):a.eval x=v:=h.sat.eval hx
theorem Fits.put {C:Cx} {e:Env} {a:Act} (h:Fits C e a) {d:Option Tmp} {v:Value} (hd:gK C.n d=true):Fits C (Aw d v e) (a.put d v) :=
 ⟨h.sat.put hd,by cases d <;> exact h.defers⟩
theorem Fits.sub {C:Cx} {e' e:Env} {a:Act} (h:Fits C e a) (hs:Sub e' e):Fits C e' a:=⟨h.sat.sub hs,h.defers⟩
def T (C:Cx) (k:List It) (e:Env) (w:World):Prop:=∀ a,Fits C e a→run C k .normal a w
def L (C:Cx) (k:List It) (ops:Array Oper) (rest:List Oper) (e:Env) (w:World):Prop :=
 ∀ a,Fits C e a→wpListIn (FW C.r) 0 C.P ops (run C k) rest a w
section control
variable {C:Cx} {k:List It} {e:Env} {w:World}
theorem T.sub {e':Env} (hs:Sub e' e) (h:T C k e' w):T C k e w:=fun a ha=>h a (ha.sub hs)
theorem T.seq {x y:Code} (h:T C (.code x :: .code y::k) e w):T C (.code (.seq x y)::k) e w:=fun a ha=>by
 show (Code.seq x y).wpIn _ _ _ _ _ _
 refine wpIn_seq (wpIn_mono (h a ha) ?_)
 intro ex a w hx
 cases ex <;> exact hx
theorem T.block {id:Nat} {c:Code} (h:T C (.code c :: .blk id::k) e w):T C (.code (.block id c)::k) e w:=fun a ha=>by
 show (Code.block id c).wpIn _ _ _ _ _ _
 refine wpIn_block (wpIn_mono (h a ha) ?_)
 intro ex a w hx
 cases ex <;> exact hx
theorem T.blk {id:Nat} (h:T C k e w):T C (.blk id::k) e w:=h
theorem T.skip (h:T C k e w):T C (.code .skip::k) e w:=fun a ha=>wpIn_skip (h a ha)
theorem T.label {l:Nat} (h:T C k e w):T C (.code (.label l)::k) e w:=fun a ha=>wpIn_label (h a ha)
def zN (id:Nat):List It→Option (List It)
 | .blk id'::k=>bif Nat.beq id' id then some k else zN id k
 | .code _::k=>zN id k
 | .hook _::k=>zN id k
 | []=>none
theorem wK {id:Nat} : ∀ {k k':List It},zN id k=some k'→∀ a w,run C k' .normal a w→run C k (.exit id) a w
 | [],k',h,_,_,_=>by cases h
 | .blk id'::k,k',h,a,w,hr=>by
  simp only [zN] at h
  show if id=id' then _ else _
  by_cases hi:id'=id
  ·subst hi
   simp at h
   subst h
   rw [if_pos rfl];exact hr
  have hb:Nat.beq id' id=false:=jR hi
  rw [hb] at h
  rw [if_neg (fun h=>hi h.symm)]
  exact wK h a w hr
 | .code _::k,k',h,a,w,hr=>wK (k:=k) h a w hr
 | .hook _::k,k',h,a,w,hr=>wK (k:=k) h a w hr
theorem jL {id:Nat} : ∀ {k:List It},zN id k=none→∀ a w,C.Q (.exit id) a w→run C k (.exit id) a w
 | [],_,_,_,hr=>hr
 | .blk id'::k,h,a,w,hr=>by
  simp only [zN] at h
  show if id=id' then _ else _
  by_cases hi:id'=id
  ·subst hi;simp at h
  have hb:Nat.beq id' id=false:=jR hi
  rw [hb] at h
  rw [if_neg (fun h=>hi h.symm)]
  exact jL h a w hr
 | .code _::k,h,a,w,hr=>jL (k:=k) h a w hr
 | .hook _::k,h,a,w,hr=>jL (k:=k) h a w hr
theorem Ce:∀ {k:List It} a w,C.Q .ret a w→run C k .ret a w
 | [],_,_,h=>h
 | .blk _::k,a,w,h=>Ce (k:=k) a w h
 | .code _::k,a,w,h=>Ce (k:=k) a w h
 | .hook _::k,a,w,h=>Ce (k:=k) a w h
theorem T.exit {id:Nat} {k':List It} (hk:zN id k=some k') (h:T C k' e w):T C (.code (.exit id)::k) e w :=
 fun a ha=>wpIn_exit (wK hk a w (h a ha))
theorem T.UJ {id:Nat} (hk:zN id k=none) (h:∀ a,Fits C e a→C.Q (.exit id) a w):T C (.code (.exit id)::k) e w :=
 fun a ha=>wpIn_exit (jL hk a w (h a ha))
theorem T.ret (h:∀ a,Fits C e a→C.Q .ret a w):T C (.code .ret::k) e w:=fun a ha=>wpIn_ret (Ce a w (h a ha))
theorem T.cond_true {c:Operand} {x y:Code} (hc:ev e c=some (.bool true)) (h:T C (.code x::k) e w):T C (.code (.cond c x y)::k) e w :=
 fun a ha=>wpIn_cond_true (ha.eval hc) (h a ha)
theorem T.cond_false {c:Operand} {x y:Code} (hc:ev e c=some (.bool false)) (h:T C (.code y::k) e w):T C (.code (.cond c x y)::k) e w :=
 fun a ha=>wpIn_cond_false (ha.eval hc) (h a ha)
theorem T.cond {c:Operand} {x y:Code} {b:Bool} (hc:ev e c=some (.bool b)) (ht:b=true→T C (.code x::k) e w) (hf:b=false→T C (.code y::k) e w) :
  T C (.code (.cond c x y)::k) e w:=by
 cases b
 ·exact T.cond_false hc (hf rfl)
 exact T.cond_true hc (ht rfl)
theorem T.qj {c:Operand} {x y:Code} {p:Prop} {dp:Decidable p} (hc:ev e c=some (.bool (@decide p dp))) (ht:p→T C (.code x::k) e w) (hf:¬ p→T C (.code y::k) e w) :
  T C (.code (.cond c x y)::k) e w :=
 T.cond hc (fun h=>ht (of_decide_eq_true h)) (fun h=>hf (of_decide_eq_false h))
def Again (C:Cx) {σ:Type} (E:σ→Env) (I:σ→World→Prop) (μ:σ→Nat) (m:Nat):Act→World→Prop :=
 fun a w=>∃ s,μ s<m∧Fits C (E s) a∧I s w
theorem T.loop {σ:Type} (E:σ→Env) (I:σ→World→Prop) (μ:σ→Nat) (s₀:σ) {c:Code} (hs:Sub (E s₀) e) (h0:I s₀ w)
  (hr:∀ s w,I s w→T C (.code c :: .hook (Again C E I μ (μ s))::k) (E s) w):T C (.code (.loop c)::k) e w:=fun a ha=>by
 show (Code.loop c).wpIn _ _ _ _ _ _
 refine wpIn_loop_ghost (fun m a w=>∃ s,μ s=m∧Fits C (E s) a∧I s w) (μ s₀) ⟨s₀,rfl,ha.sub hs,h0⟩ ?_
 rintro m a w ⟨s,rfl,hf,hI⟩
 refine wpIn_mono (hr s w hI a hf) ?_
 intro ex a' w' hx
 cases ex with
 | normal=>obtain ⟨s',h1,h2,h3⟩:=hx;exact ⟨μ s',h1,s',rfl,h2,h3⟩
 | exit id=>exact hx
 | goto l=>exact hx
 | ret=>exact hx
 | panic ch=>exact hx
 | outgrown=>exact hx
theorem T.again {σ:Type} {E:σ→Env} {I:σ→World→Prop} {μ:σ→Nat} {m:Nat} (s:σ) (hm:μ s<m) (hs:Sub (E s) e) (h:I s w) :
  T C (.hook (Again C E I μ m)::k) e w:=fun a ha=>⟨s,hm,ha.sub hs,h⟩
def Meet (C:Cx) {σ:Type} (E:σ→Env) (I:σ→World→Prop):Act→World→Prop:=fun a w=>∃ s,Fits C (E s) a∧I s w
theorem T.join {σ:Type} (E:σ→Env) (I:σ→World→Prop) {c:Code} (h1:T C (.code c :: .hook (Meet C E I)::k) e w) (h2:∀ s w,I s w→T C k (E s) w):T C (.code c::k) e w:=fun a ha=>by
 show c.wpIn _ _ _ _ _ _
 refine wpIn_mono (h1 a ha) ?_
 intro ex a' w' hx
 cases ex with
 | normal=>obtain ⟨s,hf,hI⟩:=hx;exact h2 s w' hI a' hf
 | exit id=>exact hx
 | goto l=>exact hx
 | ret=>exact hx
 | panic ch=>exact hx
 | outgrown=>exact hx
theorem T.meet {σ:Type} {E:σ→Env} {I:σ→World→Prop} (s:σ) (hs:Sub (E s) e) (h:I s w):T C (.hook (Meet C E I)::k) e w:=fun a ha=>⟨s,ha.sub hs,h⟩
def gQ (ops:Array Oper) (e:Env) (o:Oper):Option Bool :=
 match o.guard with
 | none=>some true
 | some (j,want)=>match (ops[j]?).bind (·.dst) with
  | none=>some false
  | some d=>match look e d with
   | some (.bool b)=>some (b == want)
   | some (.tuple _)=>some false
   | _=>none
theorem bY {ops:Array Oper} {o:Oper} {b:Bool} {a:Act} (ha:Fits C e a) (h:gQ ops e o=some b):Region.wanted o (yielded ops a.tmps)=b:=by
 unfold gQ at h
 unfold Region.wanted
 cases hg:o.guard with
 | none=>simpa [hg] using h
 | some p =>
  obtain ⟨j,want⟩:=p
  simp only [hg] at h ⊢
  unfold yielded
  cases hd:(ops[j]?).bind (·.dst) with
  | none=>simp [hd] at h;subst h;simp
  | some d =>
   simp only [hd] at h
   simp only [Option.bind_some]
   cases hl:look e d with
   | none=>simp [hl] at h
   | some v =>
    have hv:=ha.sat.get d v hl
    simp only [hl] at h
    simp only [hv]
    cases v <;> simp at h ⊢
    ·rw [← h]
    exact h
def O (C:Cx) (e:Env) (o:Oper) (w:World) (K:Value→World→Prop):Prop :=
 ∀ a,Fits C e a→∀ (next:Act→World→Prop) (Q:Exit→Act→World→Prop),(∀ v w',K v w'→next (a.put o.dst v) w')→o.wpIn (FW C.r) 0 C.P a w next Q
theorem L.nil {ops:Array Oper} (h:T C k e w):L C k ops [] e w:=fun a ha=>h a ha
theorem L.op {ops:Array Oper} {o:Oper} {rest:List Oper} (hw:gQ ops e o=some true) (hd:gK C.n o.dst=true)
  (h:O C e o w (fun v w'=>L C k ops rest (Aw o.dst v e) w')):L C k ops (o::rest) e w:=fun a ha=>by
 unfold wpListIn
 rw [bY ha hw,if_pos rfl]
 exact h a ha _ _ (fun v w' hv=>hv _ (ha.put hd))
theorem L.pass {ops:Array Oper} {o:Oper} {rest:List Oper} (hw:gQ ops e o=some false) (hd:gK C.n o.dst=true)
  (h:L C k ops rest (Aw o.dst undef e) w):L C k ops (o::rest) e w:=fun a ha=>by
 unfold wpListIn
 rw [bY ha hw,if_neg (by simp)]
 exact ⟨fun _ _=>trivial,h _ (ha.put hd)⟩
theorem L.o {ops:Array Oper} {o:Oper} {rest:List Oper} (h:O C e o w (fun v w'=>L C k ops rest (Aw o.dst v e) w')) (hw:gQ ops e o=some true:=by rfl) (hd:gK C.n o.dst=true:=by rfl):L C k ops (o::rest) e w:=L.op hw hd h
theorem L.p {ops:Array Oper} {o:Oper} {rest:List Oper} (h:L C k ops rest (Aw o.dst undef e) w) (hw:gQ ops e o=some false:=by rfl) (hd:gK C.n o.dst=true:=by rfl):L C k ops (o::rest) e w:=L.pass hw hd h
theorem T.region {id:Nat} {l:List Oper} (h:L C k l.toArray l e w):T C (.code (.region id l.toArray false)::k) e w :=
 fun a ha=>wpIn_region_lit (h a ha)
end control
section ops
variable {C:Cx} {e:Env} {w:World} {K:Value→World→Prop} {d:Option Tmp} {ty:TypeId} {pos:String} {aft:Array Edge} {g:Option (Nat × Bool)}
theorem O.of_run {o:Oper} {v:Value} {w':World} (hnd:∀ c,o.op ≠ .defer c) (hr:∀ a,Fits C e a→(execOp a.eval o).run C.P w = .ok (.value v) w') (h:K v w'):O C e o w K:=by
 intro a ha next Q hn
 refine ⟨fun _ _=>trivial,?_⟩
 rw [Oper.semAt_eq _ _ _ hnd,hr a ha]
 exact hn v w' h
theorem O.wZ {o:Oper} {w':World} (hnd:∀ c,o.op ≠ .defer c) (hr:∀ a,Fits C e a→(execOp a.eval o).run C.P w = .ok .skip w') (h:K undef w'):O C e o w K:=by
 intro a ha next Q hn
 refine ⟨fun _ _=>trivial,?_⟩
 rw [Oper.semAt_eq _ _ _ hnd,hr a ha]
 exact hn undef w' h
theorem O.move {x:Operand} {v:Value} (hx:ev e x=some v) (h:K v w):O C e ⟨d,.move x,ty,pos,aft,g⟩ w K :=
 O.of_run (by simp) (fun a ha=>by simp [execOp,ha.eval hx]) h
theorem O.assign {x:Operand} {v:Value} (hx:ev e x=some v) (h:K v w):O C e ⟨d,.assign x,ty,pos,aft,g⟩ w K :=
 O.of_run (by simp) (fun a ha=>by simp [execOp,ha.eval hx]) h
theorem L.m {k:List It} {ops:Array Oper} {rest:List Oper} {x:Operand} {v:Value} (hx:ev e x=some v) (h:L C k ops rest (Aw d v e) w) (hw:gQ ops e ⟨d,.move x,ty,pos,aft,g⟩=some true:=by rfl) (hd:gK C.n d=true:=by rfl):L C k ops (⟨d,.move x,ty,pos,aft,g⟩::rest) e w:=L.op hw hd (O.move hx h)
theorem L.a {k:List It} {ops:Array Oper} {rest:List Oper} {x:Operand} {v:Value} (hx:ev e x=some v) (h:L C k ops rest (Aw d v e) w) (hw:gQ ops e ⟨d,.assign x,ty,pos,aft,g⟩=some true:=by rfl) (hd:gK C.n d=true:=by rfl):L C k ops (⟨d,.assign x,ty,pos,aft,g⟩::rest) e w:=L.op hw hd (O.assign hx h)
theorem T.q {k:List It} {id:Nat} {l:List Oper} {y:Code} (h:L C (.code y::k) l.toArray l e w):T C (.code (.seq (.region id l.toArray false) y)::k) e w:=T.seq (T.region h)
theorem T.cf {k:List It} {c:Operand} {x y:Code} (h:T C (.code y::k) e w) (hc:ev e c=some (.bool false):=by rfl):T C (.code (.cond c x y)::k) e w:=T.cond_false hc h
theorem T.ct {k:List It} {c:Operand} {x y:Code} (h:T C (.code x::k) e w) (hc:ev e c=some (.bool true):=by rfl):T C (.code (.cond c x y)::k) e w:=T.cond_true hc h
theorem O.ah {c x y:Operand} {v:Value} (hc:ev e c=some (.bool true)) (hx:ev e x=some v) (h:K v w):O C e ⟨d,.pick c x y,ty,pos,aft,g⟩ w K :=
 O.of_run (by simp) (fun a ha=>by simp [execOp,ha.eval hx,ha.eval hc,asBool]) h
theorem O.aj {c x y:Operand} {v:Value} (hc:ev e c=some (.bool false)) (hx:ev e y=some v) (h:K v w):O C e ⟨d,.pick c x y,ty,pos,aft,g⟩ w K :=
 O.of_run (by simp) (fun a ha=>by simp [execOp,ha.eval hx,ha.eval hc,asBool]) h
section ints
variable {x y:Operand} {kd:IntKind} {m n:Int} {tx ty':TypeId}
theorem IC (op:BinOp) (t:TypeId) (x y:Operand) (P:Program) (w:World):(eqGuard op t x y (.int kd m) (.int kd n)).run P w = .ok () w:=by
 cases op <;> simp [eqGuard]
end ints
end ops
open Go.RowKit
section ints
variable {C:Cx} {e:Env} {w:World} {K:Value→World→Prop} {d:Option Tmp} {ty:TypeId} {pos:String} {aft:Array Edge} {g:Option (Nat × Bool)}
variable {x y:Operand} {kd:IntKind} {m n:Int} {tx ty':TypeId}
theorem X4 {op:BinOp} {a:Act} {r:Value} (hx:a.eval x = .int kd m) (hy:a.eval y = .int kd n) (hr:(binOp op tx (.int kd m) (.int kd n)).run C.P w = .ok r w) :
  (execOp a.eval ⟨d,.binOp op tx x y ty',ty,pos,aft,g⟩).run C.P w = .ok (.value r) w:=by
 simp [execOp,hx,hy,IC,hr]
theorem O.bin {op:BinOp} {r:Value} (hx:ev e x=some (.int kd m)) (hy:ev e y=some (.int kd n)) (hr:(binOp op tx (.int kd m) (.int kd n)).run C.P w = .ok r w) (h:K r w) :
  O C e ⟨d,.binOp op tx x y ty',ty,pos,aft,g⟩ w K :=
 O.of_run (by simp) (fun a ha=>X4 (ha.eval hx) (ha.eval hy) hr) h
theorem O.add (hx:ev e x=some (.int kd m)) (hy:ev e y=some (.int kd n)) (h:K (.int kd (kd.wrap (m+n))) w):O C e ⟨d,.binOp .add tx x y ty',ty,pos,aft,g⟩ w K :=
 O.bin hx hy (by cases kd <;> simp [binOp,Op.intArith]) h
theorem O.sub (hx:ev e x=some (.int kd m)) (hy:ev e y=some (.int kd n)) (h:K (.int kd (kd.wrap (m-n))) w):O C e ⟨d,.binOp .sub tx x y ty',ty,pos,aft,g⟩ w K :=
 O.bin hx hy (by cases kd <;> simp [binOp,Op.intArith]) h
theorem O.mul (hx:ev e x=some (.int kd m)) (hy:ev e y=some (.int kd n)) (h:K (.int kd (kd.wrap (m*n))) w):O C e ⟨d,.binOp .mul tx x y ty',ty,pos,aft,g⟩ w K :=
 O.bin hx hy (by cases kd <;> simp [binOp,Op.intArith]) h
theorem O.aI (hx:ev e x=some (.int .i64 m)) (hy:ev e y=some (.int .i64 n)) (hb : -9223372036854775808≤m+n∧m+n≤9223372036854775807) (h:K (.int .i64 (m+n)) w) :
  O C e ⟨d,.binOp .add tx x y ty',ty,pos,aft,g⟩ w K:=O.add hx hy (by rw [IntWalk.i64_in _ hb];exact h)
theorem O.gq (hx:ev e x=some (.int .i64 m)) (hy:ev e y=some (.int .i64 n)) (hb : -9223372036854775808≤m-n∧m-n≤9223372036854775807) (h:K (.int .i64 (m-n)) w) :
  O C e ⟨d,.binOp .sub tx x y ty',ty,pos,aft,g⟩ w K:=O.sub hx hy (by rw [IntWalk.i64_in _ hb];exact h)
theorem O.l9 (hx:ev e x=some (.int .i64 m)) (hy:ev e y=some (.int .i64 n)) (hb : -9223372036854775808≤m*n∧m*n≤9223372036854775807) (h:K (.int .i64 (m*n)) w) :
  O C e ⟨d,.binOp .mul tx x y ty',ty,pos,aft,g⟩ w K:=O.mul hx hy (by rw [IntWalk.i64_in _ hb];exact h)
theorem O.rem (hx:ev e x=some (.int kd m)) (hy:ev e y=some (.int kd n)) (h0:0≤m) (h1:n≠0) (h:K (.int kd (m % n)) w):O C e ⟨d,.binOp .rem tx x y ty',ty,pos,aft,g⟩ w K :=
 O.bin hx hy (by cases kd <;> simp [binOp,Op.intDiv,h1,Int.tmod_eq_emod_of_nonneg h0]) h
theorem O.aaz (hx : ev e x = some (.int .i64 m)) (hy : ev e y = some (.int .i64 n)) (hb : 0 ≤ m ∧ m ≤ 9223372036854775807 ∧ 1 ≤ n) (h : K (.int .i64 (m / n)) w) : O C e ⟨d, .binOp .quo tx x y ty', ty, pos, aft, g⟩ w K :=
  O.bin hx hy (by have := IntWalk.i64_quo m n hb; have h1 : n ≠ 0 := by omega
                  simp [binOp, Op.intDiv, h1, this]) h
theorem O.lss (hx:ev e x=some (.int kd m)) (hy:ev e y=some (.int kd n)) (h:K (.bool (decide (m<n))) w):O C e ⟨d,.binOp .lss tx x y ty',ty,pos,aft,g⟩ w K :=
 O.bin hx hy (by cases kd <;> simp [binOp,Op.intCmp]) h
theorem O.leq (hx:ev e x=some (.int kd m)) (hy:ev e y=some (.int kd n)) (h:K (.bool (decide (m≤n))) w):O C e ⟨d,.binOp .leq tx x y ty',ty,pos,aft,g⟩ w K :=
 O.bin hx hy (by cases kd <;> simp [binOp,Op.intCmp]) h
theorem O.gtr (hx:ev e x=some (.int kd m)) (hy:ev e y=some (.int kd n)) (h:K (.bool (decide (n<m))) w):O C e ⟨d,.binOp .gtr tx x y ty',ty,pos,aft,g⟩ w K :=
 O.bin hx hy (by cases kd <;> simp [binOp,Op.intCmp]) h
theorem O.geq (hx:ev e x=some (.int kd m)) (hy:ev e y=some (.int kd n)) (h:K (.bool (decide (n≤m))) w):O C e ⟨d,.binOp .geq tx x y ty',ty,pos,aft,g⟩ w K :=
 O.bin hx hy (by cases kd <;> simp [binOp,Op.intCmp]) h
theorem O.eql (hx:ev e x=some (.int kd m)) (hy:ev e y=some (.int kd n)) (h:K (.bool (decide (m=n))) w):O C e ⟨d,.binOp .eql tx x y ty',ty,pos,aft,g⟩ w K :=
 O.bin hx hy (by cases kd <;> simp [binOp,Op.intCmp] <;> rfl) h
theorem O.neq (hx:ev e x=some (.int kd m)) (hy:ev e y=some (.int kd n)) (h:K (.bool (decide (m≠n))) w):O C e ⟨d,.binOp .neq tx x y ty',ty,pos,aft,g⟩ w K :=
 O.bin hx hy (by cases kd <;> simp [binOp,Op.intCmp,bne] <;> rfl) h
section words
variable {a b:Nat} (ha:m=a) (hb:n=b) (la:a<18446744073709551616) (lb:b<18446744073709551616)
include ha hb la lb
end words
theorem ER {op:BinOp} {yk:IntKind} {a:Act} {r:Value} (hop:op = .shl∨op = .shr) (hx:a.eval x = .int kd m) (hy:a.eval y = .int yk n) (hr:(Op.shift op kd m yk n).run C.P w = .ok r w) :
  (execOp a.eval ⟨d,.binOp op tx x y ty',ty,pos,aft,g⟩).run C.P w = .ok (.value r) w:=by
 rcases hop with rfl|rfl <;> simp [execOp,hx,hy,eqGuard,binOp,hr]
theorem O.shl {yk : IntKind} (hx : ev e x = some (.int kd m)) (hy : ev e y = some (.int yk n)) (h0 : 0 ≤ n) (h : K (.int kd (kd.wrap (m * 2 ^ min n.toNat kd.bits))) w) :
    O C e ⟨d, .binOp .shl tx x y ty', ty, pos, aft, g⟩ w K :=
  O.of_run (by simp) (fun a ha => ER (.inl rfl) (ha.eval hx) (ha.eval hy) (by have : ¬ n < 0 := by omega
                                                                              simp [Op.shift, this])) h
theorem O.shr {yk : IntKind} (hx : ev e x = some (.int kd m)) (hy : ev e y = some (.int yk n)) (h0 : 0 ≤ n) (h : K (.int kd (m.fdiv (2 ^ min n.toNat kd.bits))) w) :
    O C e ⟨d, .binOp .shr tx x y ty', ty, pos, aft, g⟩ w K :=
  O.of_run (by simp) (fun a ha => ER (.inr rfl) (ha.eval hx) (ha.eval hy) (by have : ¬ n < 0 := by omega
                                                                              simp [Op.shift, this])) h
theorem O.neg (hx:ev e x=some (.int kd m)) (h:K (.int kd (kd.wrap (0-m))) w):O C e ⟨d,.unOp .neg tx x,ty,pos,aft,g⟩ w K :=
 O.of_run (by simp) (fun a ha=>by simp [execOp,ha.eval hx,Op.unary,Op.intArith]) h
theorem O.not {b:Bool} (hx:ev e x=some (.bool b)) (h:K (.bool (!b)) w):O C e ⟨d,.unOp .not tx x,ty,pos,aft,g⟩ w K :=
 O.of_run (by simp) (fun a ha=>by simp [execOp,ha.eval hx,Op.unary]) h
theorem O.conv {kd':IntKind} {src dst:TypeId} (hx:ev e x=some (.int kd m)) (hs:∀ w,∃ ds,(underlying src).run C.P w = .ok ds w) (hd:∀ w,(underlying dst).run C.P w = .ok (.int kd') w) (h:K (.int kd' (kd'.wrap m)) w) :
  O C e ⟨d,.convert src dst x,ty,pos,aft,g⟩ w K :=
 O.of_run (by simp) (fun a ha=>by obtain ⟨ds,hs'⟩:=hs w;simp [execOp,ha.eval hx,convert,hs',hd w,Conv.intToInt]) h
end ints
section bools
variable {C:Cx} {e:Env} {w:World} {K:Value→World→Prop} {d:Option Tmp} {ty:TypeId} {pos:String} {aft:Array Edge} {g:Option (Nat × Bool)}
variable {x y:Operand} {p q:Bool} {tx ty':TypeId}
theorem run_equal_bool {P:Program} (hu:∀ w,(underlying tx).run P w = .ok .bool w) (w:World):(Op.equal tx (.bool p) (.bool q)).run P w = .ok (p == q) w:=by
 have key:∀ dd,(Op.equalIn (dd+1) tx (.bool p) (.bool q)).run P w = .ok (p == q) w:=fun dd=>by simp [Op.equalIn,hu w]
 exact key 9999
theorem O.Ci (hu:∀ w,(underlying tx).run C.P w = .ok .bool w) (hx:ev e x=some (.bool p)) (hy:ev e y=some (.bool q)) (h:K (.bool (p == q)) w):O C e ⟨d,.binOp .eql tx x y ty',ty,pos,aft,g⟩ w K :=
 O.of_run (by simp) (fun a ha=>by simp only [execOp,ha.eval hx,ha.eval hy,eqGuard,binOp];simp [run_equal_bool hu w]) h
theorem O.wM (hu:∀ w,(underlying tx).run C.P w = .ok .bool w) (hx:ev e x=some (.bool p)) (hy:ev e y=some (.bool q)) (h:K (.bool (!(p == q))) w):O C e ⟨d,.binOp .neq tx x y ty',ty,pos,aft,g⟩ w K :=
 O.of_run (by simp) (fun a ha=>by simp only [execOp,ha.eval hx,ha.eval hy,eqGuard,binOp];simp [run_equal_bool hu w]) h
end bools
open Go.RowKit
structure Keep (lo:Nat) (w w':World):Prop where
 os:w'.os=w.os
 tape:w'.tape=w.tape
 output:w'.output=w.output
 size:w.heap.size≤w'.heap.size
 block:∀ k,lo≤k→k<w.heap.size→w'.heap[k]?=w.heap[k]?
abbrev Ext (w w':World):Prop:=Keep 0 w w'
theorem Keep.refl (lo:Nat) (w:World):Keep lo w w:=⟨rfl,rfl,rfl,Nat.le_refl _,fun _ _ _=>rfl⟩
theorem Keep.trans {lo:Nat} {a b c:World} (h:Keep lo a b) (k:Keep lo b c):Keep lo a c :=
 ⟨k.os.trans h.os,k.tape.trans h.tape,k.output.trans h.output,Nat.le_trans h.size k.size,fun i hl hi=>(k.block i hl (Nat.lt_of_lt_of_le hi h.size)).trans (h.block i hl hi)⟩
theorem Keep.mono {lo lo':Nat} {a b:World} (h:Keep lo a b) (hl:lo≤lo'):Keep lo' a b:=⟨h.os,h.tape,h.output,h.size,fun k h1 h2=>h.block k (Nat.le_trans hl h1) h2⟩
theorem Keep.alloc (lo:Nat) (w:World) (o:Obj):Keep lo w (w.alloc o):=⟨rfl,rfl,rfl,by simp,fun k _ hk=>Below.heap_alloc _ _ _ hk⟩
theorem Keep.drew (lo:Nat) (w:World):Keep lo w w.drew:=⟨rfl,rfl,rfl,Nat.le_refl _,fun _ _ _=>rfl⟩
theorem Ext.below {w w':World} (h:Ext w w'):Below w.heap.size w w':=⟨h.os,h.tape,h.output,h.size,fun k hk=>h.block k (Nat.zero_le _) hk⟩
theorem Ext.of_below {w w':World} (h:Below w.heap.size w w'):Ext w w':=⟨h.os,h.tape,h.output,h.size,fun k _ hk=>h.block k hk⟩
theorem Keep.cell {lo:Nat} {w w':World} (h:Keep lo w w') {a:Addr} {v:Value} (hl:lo≤a.block) (hc:w.cell? a=some v):w'.cell? a=some v :=
 (World.cell?_of_block (h.block a.block hl (World.block_lt_of_cell? w a hc))).trans hc
theorem Keep.blk {lo:Nat} {w w':World} (h:Keep lo w w') {b:Nat} {o:Obj} (hl:lo≤b) (hc:w.heap[b]?=some o):w'.heap[b]?=some o :=
 (h.block b hl (Array.getElem?_eq_some_iff.1 hc).1).trans hc
structure Upd (b:Nat) (w w':World):Prop where
 os:w'.os=w.os
 tape:w'.tape=w.tape
 output:w'.output=w.output
 size:w'.heap.size=w.heap.size
 block:∀ k,k≠b→w'.heap[k]?=w.heap[k]?
theorem Keep.upd {lo:Nat} {w w' w'':World} {b:Nat} (h:Keep lo w w') (k:Upd b w' w'') (hb:b<lo∨w.heap.size≤b):Keep lo w w'' :=
 ⟨k.os.trans h.os,k.tape.trans h.tape,k.output.trans h.output,by rw [k.size];exact h.size,fun i hl hi=>(k.block i (by omega)).trans (h.block i hl hi)⟩
theorem Upd.blk {b k:Nat} {w w':World} {o:Obj} (h:Upd b w w') (hk:k≠b) (hc:w.heap[k]?=some o):w'.heap[k]?=some o:=(h.block k hk).trans hc
def Blk (w:World) (b:Nat) (cs:List Value) (t:TypeId):Prop:=w.heap[b]?=some (.cells cs.toArray t (0,0))
theorem Blk.lt {w:World} {b:Nat} {cs:List Value} {t:TypeId} (h:Blk w b cs t):b<w.heap.size:=(Array.getElem?_eq_some_iff.1 h).1
theorem Blk.cell {w:World} {b:Nat} {cs:List Value} {t:TypeId} (h:Blk w b cs t) {i:Nat} {v:Value} (hv:cs[i]?=some v):w.cell? ⟨b,i,none⟩=some v:=by
 unfold World.cell?;rw [show w.heap[b]?=_ from h];simpa using hv
theorem Blk.keep {w w':World} {b lo:Nat} {cs:List Value} {t:TypeId} (h:Blk w b cs t) (k:Keep lo w w') (hl:lo≤b):Blk w' b cs t:=k.blk hl h
theorem Blk.upd {w w':World} {b b':Nat} {cs:List Value} {t:TypeId} (h:Blk w b cs t) (k:Upd b' w w') (hne:b≠b'):Blk w' b cs t:=k.blk hne h
theorem Blk.alloc (w:World) (cs:List Value) (t:TypeId):Blk (w.alloc (.cells cs.toArray t)) w.heap.size cs t:=heap_alloc_new w _
theorem xg (b o i:Nat):(⟨b,o,none⟩:Addr).add i=⟨b,o+i,none⟩:=by unfold Addr.add;split <;> simp_all
theorem add_block (a:Addr) (i:Nat):(a.add i).block=a.block:=by unfold Addr.add;split <;> rfl
theorem add_add (a:Addr) (i j:Nat):(a.add i).add j=a.add (i+j):=by
 unfold Addr.add
 by_cases hi:i=0
 ·subst hi;simp
 by_cases hj:j=0
 ·subst hj;simp
 rw [if_neg hj,if_neg hi,if_neg (by omega)];simp [Nat.add_assoc]
def Row (w:World) (a:Addr) (cs:List Value):Prop:=∀ j u,cs[j]?=some u→w.cell? (a.add j)=some u
theorem Row.keep {w w':World} {a:Addr} {cs:List Value} {lo:Nat} (h:Row w a cs) (k:Keep lo w w') (hl:lo≤a.block):Row w' a cs :=
 fun j u hj=>k.cell (by rw [add_block];exact hl) (h j u hj)
theorem Row.ay {w:World} {b:Nat} {cs:List Value} {t:TypeId} (h:Blk w b cs t):Row w ⟨b,0,none⟩ cs:=fun j u hj=>by rw [xg];exact h.cell (by simpa using hj)
theorem Row.part {w:World} {a:Addr} {cs:List Value} (h:Row w a cs) (i n:Nat):Row w (a.add i) ((cs.drop i).take n):=fun j u hj=>by
 rw [add_add]
 refine h _ u ?_
 rw [List.getElem?_take] at hj
 split at hj
 ·simpa [List.getElem?_drop] using hj
 cases hj
theorem Row.drop {w:World} {a:Addr} {cs:List Value} (h:Row w a cs) (i:Nat):Row w (a.add i) (cs.drop i):=fun j u hj=>by
 rw [add_add];exact h _ u (by simpa [List.getElem?_drop] using hj)
theorem Row.take {w:World} {a:Addr} {cs:List Value} (h:Row w a cs) (n:Nat):Row w a (cs.take n):=fun j u hj=>by
 rw [List.getElem?_take] at hj
 split at hj
 ·exact h j u hj
 cases hj
theorem Row.lt {w:World} {a:Addr} {cs:List Value} (h:Row w a cs) (hne:cs ≠ []):a.block<w.heap.size:=by
 cases cs with
 | nil=>exact absurd rfl hne
 | cons c cs=>have:=World.block_lt_of_cell? w _ (h 0 c rfl);rwa [add_block] at this
def Sl (lo:Nat) (w:World) (v:Value) (n sz:Nat) (cs:List Value):Prop :=
 cs.length=n*sz∧∃ oa cap,v = .slice oa n cap∧n≤cap∧cap≤maxLen∧(n=0∨∃ a,oa=some a∧lo≤a.block∧Row w a cs)
def jd:Value→Addr
 | .slice (some a) _ _=>a
 | _=>⟨0,0,none⟩
theorem Sl.keep {w w':World} {v:Value} {n sz lo:Nat} {cs:List Value} (h:Sl lo w v n sz cs) (k:Keep lo w w'):Sl lo w' v n sz cs:=by
 obtain ⟨h1,oa,cap,h2,h3,h4,h5⟩:=h
 exact ⟨h1,oa,cap,h2,h3,h4,h5.imp id fun ⟨a,ha,hl,hr⟩=>⟨a,ha,hl,hr.keep k hl⟩⟩
theorem Sl.mono {w:World} {v:Value} {n sz lo lo':Nat} {cs:List Value} (h:Sl lo w v n sz cs) (hl:lo'≤lo):Sl lo' w v n sz cs:=by
 obtain ⟨h1,oa,cap,h2,h3,h4,h5⟩:=h
 exact ⟨h1,oa,cap,h2,h3,h4,h5.imp id fun ⟨a,ha,hl',hr⟩=>⟨a,ha,Nat.le_trans hl hl',hr⟩⟩
theorem Sl.nil (lo:Nat) (w:World) (sz:Nat):Sl lo w (.slice none 0 0) 0 sz []:=⟨by simp,none,0,rfl,Nat.le_refl _,Nat.zero_le _,.inl rfl⟩
theorem Sl.le {w:World} {v:Value} {n sz lo:Nat} {cs:List Value} (h:Sl lo w v n sz cs):n≤9223372036854775807:=by
 obtain ⟨_,oa,cap,_,h3,h4,_⟩:=h;unfold maxLen at h4;omega
theorem Sl.val {w:World} {v:Value} {n sz lo:Nat} {cs:List Value} (h:Sl lo w v n sz cs):∃ oa cap,v = .slice oa n cap∧n≤cap∧cap≤maxLen:=by
 obtain ⟨_,oa,cap,h2,h3,h4,_⟩:=h;exact ⟨oa,cap,h2,h3,h4⟩
theorem Sl.there {w:World} {v:Value} {n sz lo:Nat} {cs:List Value} (h:Sl lo w v n sz cs) (hn:0<n):∃ cap,v = .slice (some (jd v)) n cap∧n≤cap∧lo≤(jd v).block∧Row w (jd v) cs:=by
 obtain ⟨_,oa,cap,rfl,h3,h4,h5⟩:=h
 rcases h5 with h5|⟨a,rfl,hl,hr⟩
 ·omega
 exact ⟨cap,rfl,h3,hl,hr⟩
theorem Sl.cell {w:World} {v:Value} {n sz lo:Nat} {cs:List Value} (h:Sl lo w v n sz cs) {j:Nat} {u:Value} (hj:cs[j]?=some u):w.cell? ((jd v).add j)=some u:=by
 have hlt:j<cs.length:=by
  rcases Nat.lt_or_ge j cs.length with h' | h'
  ·exact h'
  rw [List.getElem?_eq_none h'] at hj;cases hj
 have hn:0<n:=by
  rcases Nat.eq_zero_or_pos n with h0|h0
  ·rw [h.1,h0] at hlt;simp at hlt
  exact h0
 obtain ⟨_,_,_,_,hr⟩:=h.there hn
 exact hr j u hj
theorem Sl.ay {w:World} {b:Nat} {cs:List Value} {t:TypeId} {n cap sz lo:Nat} (h:Blk w b cs t) (hl:cs.length=n*sz) (hc:n≤cap) (hm:cap≤maxLen) (hlo:lo≤b):Sl lo w (.slice (some ⟨b,0,none⟩) n cap) n sz cs :=
 ⟨hl,some ⟨b,0,none⟩,cap,rfl,hc,hm,Or.inr ⟨⟨b,0,none⟩,rfl,hlo,Row.ay h⟩⟩
def Ints (k:IntKind) (lo:Nat) (w:World) (v:Value) (xs:List Int):Prop:=Sl lo w v xs.length 1 (xs.map (Value.int k))
theorem Ints.keep {k:IntKind} {w w':World} {v:Value} {lo:Nat} {xs:List Int} (h:Ints k lo w v xs) (hk:Keep lo w w'):Ints k lo w' v xs:=Sl.keep h hk
theorem Ints.mono {k:IntKind} {w:World} {v:Value} {lo lo':Nat} {xs:List Int} (h:Ints k lo w v xs) (hl:lo'≤lo):Ints k lo' w v xs:=Sl.mono h hl
theorem Ints.cell {k:IntKind} {w:World} {v:Value} {lo:Nat} {xs:List Int} (h:Ints k lo w v xs) {m:Int} (h0:0≤m) (h1:m<xs.length):w.cell? ((jd v).add (m.toNat*1))=some (.int k (xs.getD m.toNat 0)):=by
 refine Sl.cell h ?_
 have:m.toNat<xs.length:=by omega
 simp [this,List.getD]
section ops
variable {C:Cx} {k:List It} {e:Env} {w:World} {K:Value→World→Prop} {d:Option Tmp} {ty:TypeId} {pos:String} {aft:Array Edge} {g:Option (Nat × Bool)}
variable {x y z:Operand} {t:TypeId}
theorem O.len {v:Value} {n:Nat} {el:TypeId} (hu:∀ w,(underlying t).run C.P w = .ok (.slice el) w) (hx:ev e x=some v) (hv:∃ oa cap,v = .slice oa n cap∧n≤cap∧cap≤maxLen) (h:K (.int .i64 n) w) :
  O C e ⟨d,.call { callee:=.builtin .len,args:=#[x],argTypes:=#[t] },ty,pos,aft,g⟩ w K :=
 O.of_run (by simp) (fun a ha=>by
  obtain ⟨oa,cap,rfl,_⟩:=hv
  simp [execOp,resolve,invoke,builtin,Builtin.len_,ha.eval hx,hu w,goInt]) h
theorem O.MP {s:ByteArray} (hu:∀ w,(underlying t).run C.P w = .ok .string w) (hx:ev e x=some (.string s)) (h:K (.int .i64 s.size) w) :
  O C e ⟨d,.call { callee:=.builtin .len,args:=#[x],argTypes:=#[t] },ty,pos,aft,g⟩ w K :=
 O.of_run (by simp) (fun a ha=>by simp [execOp,resolve,invoke,builtin,Builtin.len_,ha.eval hx,hu w,goInt]) h
theorem O.indexAddr {v:Value} {n sz:Nat} {kd:IntKind} {m:Int} {el:TypeId} {lo:Nat} {cs:List Value} (hu:∀ w,(underlying t).run C.P w = .ok (.slice el) w) (hs:∀ w,(sizeOf el).run C.P w = .ok sz w)
  (hx:ev e x=some v) (hy:ev e y=some (.int kd m)) {w₁:World} (hv:Sl lo w₁ v n sz cs) (h0:0≤m) (h1:m<n) (h:K (.pointer (some ((jd v).add (m.toNat*sz)))) w) :
  O C e ⟨d,.indexAddr t x y,ty,pos,aft,g⟩ w K :=
 O.of_run (by simp) (fun a ha=>by
  obtain ⟨cap,hve,_⟩:=hv.there (by omega)
  have hxe:=ha.eval hx
  rw [hve] at hxe
  have aiz:¬ (n≤1∧False):=by simp
  simp [execOp,Instr.indexAt,hxe,ha.eval hy,asIntOf,hu w,h0,h1,hs w]) h
theorem O.ql {ad:Addr} {n sz:Nat} {kd:IntKind} {m:Int} {el:TypeId} (hu:∀ w,(underlying t).run C.P w = .ok (.array n el) w) (hs:∀ w,(sizeOf el).run C.P w = .ok sz w)
  (hx:ev e x=some (.pointer (some ad))) (hy:ev e y=some (.int kd m)) (h0:0≤m) (h1:m<n) (h:K (.pointer (some (ad.add (m.toNat*sz)))) w) :
  O C e ⟨d,.indexAddr t x y,ty,pos,aft,g⟩ w K :=
 O.of_run (by simp) (fun a ha=>by
  simp [execOp,Instr.indexAt,Instr.sureAddr,ha.eval hx,ha.eval hy,asIntOf,hu w,h0,h1,hs w]) h
theorem O.fieldAddr {ad:Addr} {fs:Array Field} {i:Nat} {f:Field} {sz:Nat} (hu:∀ w,(underlying t).run C.P w = .ok (.struct fs) w) (hf:fs[i]?=some f) (hs:∀ w,(sizeOf f.type).run C.P w = .ok (sz+1) w)
  (hx:ev e x=some (.pointer (some ad))) (h:K (.pointer (some (ad.add f.offset))) w):O C e ⟨d,.fieldAddr t x i,ty,pos,aft,g⟩ w K :=
 O.of_run (by simp) (fun a ha=>by simp [execOp,Instr.fieldAt,Instr.sureAddr,ha.eval hx,hu w,hf,fieldPlace,hs w]) h
theorem O.nilCheck {ad:Addr} (hx:ev e x=some (.pointer (some ad))) (h:K (.pointer (some ad)) w):O C e ⟨d,.nilCheck x,ty,pos,aft,g⟩ w K :=
 O.of_run (by simp) (fun a ha=>by simp [execOp,ha.eval hx]) h
theorem O.load {ad:Addr} {v:Value} (hg:∀ w,(isAgg t).run C.P w = .ok false w) (hx:ev e x=some (.pointer (some ad))) (hc:w.cell? ad=some v) (h:K v w) :
  O C e ⟨d,.load t x,ty,pos,aft,g⟩ w K :=
 O.of_run (by simp) (fun a ha=>by simp [execOp,Instr.loadAt,Instr.sureAddr,ha.eval hx,loadVar,hg w,hc]) h
theorem O.ak {ad:Addr} {cs:List Value} {n:Nat} (hg:∀ w,(isAgg t).run C.P w = .ok true w) (hs:∀ w,(sizeOf t).run C.P w = .ok n w) (hn:cs.length=n) (hx:ev e x=some (.pointer (some ad))) (hc:Row w ad cs) (h:K (.agg cs.toArray) w) :
  O C e ⟨d,.load t x,ty,pos,aft,g⟩ w K :=
 O.of_run (by simp) (fun a ha=>by subst hn;simp [execOp,Instr.loadAt,Instr.sureAddr,ha.eval hx,loadVar,hg w,hs w,run_loadCells_list w ad cs hc]) h
theorem O.extract {vs:Array Value} {i:Nat} {v:Value} (hx:ev e x=some (.tuple vs)) (hv:vs[i]?=some v) (h:K v w):O C e ⟨d,.extract x i,ty,pos,aft,g⟩ w K :=
 O.of_run (by simp) (fun a ha=>by simp [execOp,Instr.extract,ha.eval hx,hv]) h
theorem Az (P:Program) (w:World) (t:TypeId) (cs:Array Value):(newRow t cs).run P w = .ok ⟨w.heap.size,0,none⟩ (w.alloc (.cells cs t)):=by
 simp [newRow]
theorem O.box {v:Value} (hx:ev e x=some v) (h:∀ b w',b=w.heap.size→w'.heap.size=b+1→Ext w w'→Blk w' b v.cells.toList t→K (.pointer (some ⟨b,0,none⟩)) w'):O C e ⟨d,.box t x,ty,pos,aft,g⟩ w K :=
 O.of_run (w':=w.alloc (.cells v.cells t)) (v:=.pointer (some ⟨w.heap.size,0,none⟩)) (by simp) (fun a ha=>by simp [execOp,Instr.box,ha.eval hx,newVar,Az])
  (h _ _ rfl (by simp) (Keep.alloc _ _ _) (by have:=Blk.alloc w v.cells.toList t;simpa using this))
theorem O.alloc {v:Value} (hz:∀ w,(zeroValue t).run C.P w = .ok v w) (h:∀ b w',b=w.heap.size→w'.heap.size=b+1→Ext w w'→Blk w' b v.cells.toList t→K (.pointer (some ⟨b,0,none⟩)) w') :
  O C e ⟨d,.alloc t,ty,pos,aft,g⟩ w K :=
 O.of_run (w':=w.alloc (.cells v.cells t)) (v:=.pointer (some ⟨w.heap.size,0,none⟩)) (by simp) (fun a ha=>by simp [execOp,Instr.alloc,hz w,newVar,Az])
  (h _ _ rfl (by simp) (Keep.alloc _ _ _) (by have:=Blk.alloc w v.cells.toList t;simpa using this))
theorem vS {P:Program} {b off:Nat} {cs:List Value} {tb:TypeId} {v:Value} (hs:∀ w,(sizeOf t).run P w = .ok v.cells.size w) (hb:Blk w b cs tb) (hfit:off+v.cells.size≤cs.length) (h1:∀ u∈v.cells.toList,u.oneCell'=true) :
  ∃ w',(storeVar t ⟨b,off,none⟩ v).run P w = .ok () w'∧Upd b w w'∧Blk w' b (cs.take off++v.cells.toList++cs.drop (off+v.cells.size)) tb:=by
 have hst:=run_storeCells_at P b off tb v.cells.toList 0 cs.toArray w hb (by simpa using hfit) h1
 have hh:=setRow_heap w b cs.toArray (cs.take (off+0)++v.cells.toList++cs.drop (off+0+v.cells.toList.length)).toArray tb (0,0) hb
 refine ⟨w.setRow b (cs.take (off+0)++v.cells.toList++cs.drop (off+0+v.cells.toList.length)).toArray,?_,⟨rfl,rfl,rfl,by simp,fun k hk=>setRow_other w b k _ hk⟩,?_⟩
 ·simp only [storeVar,Sem.run_bind,hs w,Result.andThen_ok,ne_eq,not_true_eq_false,if_false];exact hst
 unfold Blk
 rw [hh];simp
theorem O.store {b off:Nat} {cs:List Value} {tb:TypeId} {v:Value} (hs:∀ w,(sizeOf t).run C.P w = .ok v.cells.size w) (hx:ev e x=some (.pointer (some ⟨b,off,none⟩))) (hy:ev e y=some v) (hb:Blk w b cs tb)
  (hfit:off+v.cells.size≤cs.length) (h1:∀ u∈v.cells.toList,u.oneCell'=true) (h:∀ w',Upd b w w'→Blk w' b (cs.take off++v.cells.toList++cs.drop (off+v.cells.size)) tb→K undef w') :
  O C e ⟨d,.store t x y,ty,pos,aft,g⟩ w K:=by
 obtain ⟨w',hr,hu,hb'⟩:=vS (P:=C.P) (t:=t) hs hb hfit h1
 exact O.wZ (by simp) (fun a ha=>by simp [execOp,Instr.storeAt,Instr.sureAddr,ha.eval hx,ha.eval hy,hr]) (h w' hu hb')
theorem MQ {α:Type} (cs:List α) (off:Nat) (u:α) (h:off<cs.length):cs.take off ++ [u]++cs.drop (off+1)=cs.set off u:=by
 rw [List.set_eq_take_append_cons_drop,if_pos h];simp
theorem O.store1 {b off:Nat} {cs:List Value} {tb:TypeId} {v:Value} (hs:∀ w,(sizeOf t).run C.P w = .ok 1 w) (h1:v.oneCell'=true) (hx:ev e x=some (.pointer (some ⟨b,off,none⟩))) (hy:ev e y=some v) (hb:Blk w b cs tb)
  (hfit:off<cs.length) (h:∀ w',Upd b w w'→Blk w' b (cs.set off v) tb→K undef w'):O C e ⟨d,.store t x y,ty,pos,aft,g⟩ w K:=by
 have hc:v.cells=#[v]:=by cases v <;> first|rfl|(simp [Value.oneCell'] at h1)
 refine O.store (v:=v) (by rw [hc];exact hs) hx hy hb (by rw [hc];show off+1≤_;omega) (by rw [hc];simpa using h1) ?_
 intro w' hu hb'
 refine h w' hu ?_
 rw [hc] at hb'
 rw [← MQ cs off v hfit]
 simpa using hb'
theorem O.makeFunc {fn:Fn} {fi ca:List Operand} {vf vc:List Value} (hf:evs e fi=some vf) (hc:evs e ca=some vc) (h:K (.func fn vf.toArray vc.toArray) w):O C e ⟨d,.makeFunc fn fi.toArray ca.toArray,ty,pos,aft,g⟩ w K :=
 O.of_run (by simp) (fun a ha=>by simp [execOp,Instr.makeFunc,ha.sat.EP hf,ha.sat.EP hc]) h
theorem O.build {parts:List (Nat × Operand)} {vs:List (Nat × Value)} {v:Value} (hp:parts.map (fun p=>(p.1,ev e p.2))=vs.map (fun p=>(p.1,some p.2))) (hr:∀ w,(Instr.build t vs.toArray).run C.P w = .ok v w) (h:K v w) :
  O C e ⟨d,.build t parts.toArray,ty,pos,aft,g⟩ w K :=
 O.of_run (by simp) (fun a ha=>by
  have:parts.map (fun p=>(p.1,a.eval p.2))=vs:=by
   clear hr h
   induction parts generalizing vs with
   | nil=>cases vs <;> simp_all
   | cons p ps ih =>
    cases vs with
    | nil=>simp at hp
    | cons q qs =>
     simp only [List.map_cons,List.cons.injEq,Prod.mk.injEq] at hp
     obtain ⟨⟨h1,h2⟩,h3⟩:=hp
     simp only [List.map_cons,ih h3,ha.eval h2,h1]
  simp only [execOp,List.map_toArray,this]
  simp [hr w]) h
theorem O.buildSlice {parts:List (Nat × Operand)} {vs:List (Nat × Value)} {len:Nat} {el:TypeId} {cs:List Value} (hp:parts.map (fun p=>(p.1,ev e p.2))=vs.map (fun p=>(p.1,some p.2)))
  (hr:∀ w,(Instr.buildSlice t len vs.toArray).run C.P w = .ok (.slice (some ⟨w.heap.size,0,none⟩) len len) (w.alloc (.cells cs.toArray el)))
  (h:∀ b w',b=w.heap.size→w'.heap.size=b+1→Ext w w'→Blk w' b cs el→K (.slice (some ⟨b,0,none⟩) len len) w'):O C e ⟨d,.buildSlice t len parts.toArray,ty,pos,aft,g⟩ w K :=
 O.of_run (w':=w.alloc (.cells cs.toArray el)) (v:=.slice (some ⟨w.heap.size,0,none⟩) len len) (by simp) (fun a ha=>by
  have:parts.map (fun p=>(p.1,a.eval p.2))=vs:=by
   clear hr h
   induction parts generalizing vs with
   | nil=>cases vs <;> simp_all
   | cons p ps ih =>
    cases vs with
    | nil=>simp at hp
    | cons q qs =>
     simp only [List.map_cons,List.cons.injEq,Prod.mk.injEq] at hp
     obtain ⟨⟨h1,h2⟩,h3⟩:=hp
     simp only [List.map_cons,ih h3,ha.eval h2,h1]
  simp only [execOp,List.map_toArray,this]
  simp [hr w]) (h _ _ rfl (by simp) (Keep.alloc _ _ _) (Blk.alloc _ _ _))
theorem kX {w:World} {base b:Nat} {el:TypeId} {sz n cap:Nat} {cs:List Value} (hb:Blk w b cs el) (hbase:base≤b) (hn:n≤cap) (hm:cap≤maxLen) (hl:cs.length=cap*sz):w.ownsRow base el sz (.slice (some ⟨b,0,none⟩) n cap) n (cs.take (n*sz)) :=
 ⟨by rw [List.length_take,hl];exact Nat.min_eq_left (Nat.mul_le_mul_right _ hn),.inr ⟨b,cap,cs.toArray,rfl,hbase,hb,hn,hm,by simpa using hl,by simp⟩⟩
theorem Sl.aT {w:World} {base:Nat} {el:TypeId} {sz:Nat} {v:Value} {n:Nat} {xs:List Value} (h:w.ownsRow base el sz v n xs):Sl base w v n sz xs:=by
 refine ⟨h.1,?_⟩
 rcases h.2 with ⟨rfl,rfl⟩|⟨g,cap,cur,rfl,hb,hg,hn,hm,hsz,htk⟩
 ·exact ⟨none,0,rfl,Nat.le_refl _,Nat.zero_le _,.inl rfl⟩
 refine ⟨_,cap,rfl,hn,hm,.inr ⟨_,rfl,hb,?_⟩⟩
 have h1:Blk w g cur.toList el:=by unfold Blk;simpa using hg
 rw [← htk]
 exact (Row.ay h1).take _
theorem aG {w w':World} {base:Nat} {el:TypeId} {sz:Nat} {v:Value} {n:Nat} {xs:List Value} {lo:Nat} (h:w.ownsRow base el sz v n xs) (k:Keep lo w w') (hl:lo≤base):w'.ownsRow base el sz v n xs:=by
 refine ⟨h.1,h.2.imp id ?_⟩
 rintro ⟨g,cap,cur,rfl,hb,hg,rest⟩
 exact ⟨g,cap,cur,rfl,hb,k.blk (Nat.le_trans hl hb) hg,rest⟩
theorem gW {w w':World} {base:Nat} {el:TypeId} {sz:Nat} {v:Value} {n:Nat} {xs:List Value} {b:Nat} (h:w.ownsRow base el sz v n xs) (k:Upd b w w') (hl:b<base):w'.ownsRow base el sz v n xs:=by
 refine ⟨h.1,h.2.imp id ?_⟩
 rintro ⟨g,cap,cur,rfl,hb,hg,rest⟩
 exact ⟨g,cap,cur,rfl,hb,k.blk (by omega) hg,rest⟩
theorem Keep.grown {lo:Nat} {w w' w'':World} {row:Option Nat} (h:Keep lo w w') (k:w'.grownBy w'' row) (hb:∀ j,row=some j→j<lo∨w.heap.size≤j):Keep lo w w'' :=
 ⟨k.os.trans h.os,k.tape.trans h.tape,k.output.trans h.output,Nat.le_trans h.size k.size,fun i hl hi=>(k.block i (Nat.lt_of_lt_of_le hi h.size) (fun e=>by have:=hb i e.symm;omega)).trans (h.block i hl hi)⟩
theorem O.append {base:Nat} {el:TypeId} {i:TypeInfo} {zv:Value} {size bytes:Nat} (ht:∀ w,(underlying t).run C.P w = .ok (.slice el) w) (hi:C.P.info? el=some i) (hz:i.zero=some zv)
  (hsize:i.size=size) (hby:i.bytes=bytes) (hzs:zv.cells.size=size) (hsz:0<size) {v:Value} {n m:Nat} {xs news:List Value} {u:Value} {lo:Nat}
  (hx:ev e x=some v) (hy:ev e y=some u) (hown:w.ownsRow base el size v n xs) (hu:Sl lo w u m size news) (h1:∀ c∈news,c.oneCell'=true) (hbytes:(n+m)*bytes≤140737488355328) (h63:n+m≤maxLen) (hbase:base≤w.heap.size)
  (h:∀ v' w',w'.ownsRow base el size v' (n+m) (xs++news)→w.grownBy w' v.ownBlock→K v' w') :
  O C e ⟨d,.call { callee:=.builtin .append,args:=#[x,y],argTypes:=#[t,t] },ty,pos,aft,g⟩ w K:=by
 have ht':C.P.underlying t=some (.slice el):=by
  have:=ht w
  simp only [underlying,Sem.run_bind,run_program,Result.andThen_ok] at this
  cases hq:C.P.underlying t with
  | none=>simp [hq,stuck] at this
  | some q=>simp [hq] at this;rw [this]
 have key:∃ v' w',(Builtin.append_ #[t,t] ty #[v,u]).run C.P w = .ok v' w'∧w'.ownsRow base el size v' (n+m) (xs++news)∧w.grownBy w' v.ownBlock:=by
  obtain ⟨hl,oa,cap,rfl,hc,hm,hrow⟩:=hu
  have hgen:∀ (ad:Addr),oa=some ad→Row w ad news→∃ v' w',(Builtin.append_ #[t,t] ty #[v,.slice oa m cap]).run C.P w = .ok v' w'∧w'.ownsRow base el size v' (n+m) (xs++news)∧w.grownBy w' v.ownBlock:=by
   rintro ad rfl hr
   obtain ⟨v',w',h2,h3,h4,_⟩:=run_append_own (P:=C.P) w base t ty el i zv size bytes ht' hi hz hsize hby hzs hsz v n xs hown ad m cap news hl hr h1 h63 hbytes hbase
   exact ⟨v',w',h2,h3,h4⟩
  rcases hrow with rfl|⟨ad,rfl,_,hr⟩
  ·have hnil:news = []:=List.eq_nil_of_length_eq_zero (by simpa using hl)
   subst hnil
   cases oa with
   | some ad=>exact hgen ad rfl (fun j u hj=>by simp at hj)
   | none =>
    refine ⟨v,w,?_,by simpa using hown,⟨rfl,rfl,rfl,Nat.le_refl _,fun _ _ _=>rfl⟩⟩
    rcases hown.2 with ⟨rfl,rfl⟩|⟨gg,cap',cur,rfl,hb,hg,hn',hm',hsz',htk⟩
    ·simp [Builtin.append_,ht w,run_underlying ht',sizeOf,typeInfo,hi,Builtin.lenOf,Builtin.firstCells]
    have:storeCells ((⟨gg,0,none⟩:Addr).add (n*i.size)) []=(pure ():Sem Unit):=rfl
    simp [Builtin.append_,ht w,run_underlying ht',sizeOf,typeInfo,hi,Builtin.lenOf,Builtin.firstCells,hn',this]
  exact hgen ad rfl hr
 obtain ⟨v',w',hr,h2,h3⟩:=key
 exact O.of_run (by simp) (fun a ha=>by simp [execOp,resolve,invoke,builtin,ha.eval hx,ha.eval hy,hr]) (h v' w' h2 h3)
def Ret (R:Value→World→Prop):Ending→World→Prop
 | .returned v,w=>R v w
 | _,_=>False
theorem CallsIn.kY {r:Option Nat} {n:Nat} {P:Program} {f:FuncId} {args:Array Value} {w:World} {R:Ending→World→Prop} (h:Calls P f args w R):CallsIn (FW r) n P f args w R :=
 (callsIn_wide (n:=n)).2 h
theorem O.call {f:FuncId} {fi ca:Array Value} {xs:List Operand} {vs:List Value} {tys:Array TypeId} {fo:Operand} {R:Value→World→Prop}
  (hcl:∀ args w,(callFunc f args).run C.P w = .ok (.enter f args) w) (hf:ev e fo=some (.func (.func f) fi ca)) (hx:evs e xs=some vs)
  (hc:Calls C.P f (fi++vs.toArray++ca) w (Ret R)) (h:∀ v w',R v w'→K v w'):O C e ⟨d,.call { callee:=.value fo,args:=xs.toArray,argTypes:=tys },ty,pos,aft,g⟩ w K:=by
 intro a ha next Q hn
 refine ⟨fun _ _=>trivial,?_⟩
 rw [Oper.semAt_eq _ _ _ (by simp)]
 have hrun:(execOp a.eval ⟨d,.call { callee:=.value fo,args:=xs.toArray,argTypes:=tys },ty,pos,aft,g⟩).run C.P w = .ok (.enter f (fi++vs.toArray++ca)) w:=by
  simp [execOp,resolve,Deferred.ofValue,invoke,ha.eval hf,ha.sat.EP hx,hcl]
 rw [hrun]
 refine ⟨by simp,CallsIn.kY ?_⟩
 refine hc.mono ?_
 intro en w' hr
 cases en with
 | returned v=>exact hn v w' (h v w' hr)
 | panicked c=>exact hr.elim
 | outgrown=>exact hr.elim
abbrev UK (P:Program) (fn:Func) (n:Nat) (R:Value→World→Prop):Cx:={ P:=P,r:=none,n:=n,D:=[],Q:=bodyPost P fn (Ret R) }
def qm:Nat→List Value→Env
 | _,[]=>[]
 | i,v::vs=>(i,v)::qm (i+1) vs
theorem iD:∀ (vs:List Value) (i j:Nat) (v:Value),look (qm i vs) j=some v→i≤j∧vs[j-i]?=some v
 | [],_,_,_,h=>by cases h
 | u::vs,i,j,v,h=>by
  simp only [qm,look] at h
  by_cases hij:i=j
  ·subst hij;simp at h;simp [h]
  rw [jR hij] at h
  obtain ⟨h1,h2⟩:=iD vs (i+1) j v h
  refine ⟨by omega,?_⟩
  rw [show j-i=(j-(i+1))+1 by omega]
  simpa using h2
theorem T.enter {P:Program} {f:FuncId} {fn:Func} {c:Code} {vs:List Value} {w:World} {R:Value→World→Prop} {n:Nat} (hf:P.funcs[f]?=some fn) (hb:fn.body=some c) (hn:fn.ntmps=n) (hle:Nat.ble vs.length n=true)
  (h:T (UK P fn n R) [.code c] (qm 0 vs) w):Calls P f vs.toArray w (Ret R):=by
 refine (callsIn_wide (n:=0)).1 (callsIn_of_wp hf hb trivial ?_ rfl)
 have hle':vs.length≤n:=by simpa [Nat.ble_eq] using hle
 refine h _ ⟨⟨by simp [hn];omega,fun i v hi=>?_⟩,rfl⟩
 obtain ⟨_,h2⟩:=iD vs 0 i v hi
 have hlt:i<vs.length:=by
  rcases Nat.lt_or_ge i vs.length with h' | h'
  ·exact h'
  rw [Nat.sub_zero,List.getElem?_eq_none h'] at h2;cases h2
 rw [Array.getElem?_append_left (by simpa using hlt)]
 simpa using h2
theorem T.aU {P:Program} {fn:Func} {n:Nat} {R:Value→World→Prop} {s:Tmp} {v:Value} (hres:fn.results=#[.tmp s]) (hv:look e s=some v) (h:R v w):T (UK P fn n R) (.code .ret::k) e w :=
 T.ret fun a ha=>bodyPost_ret (results_tmp hres _ _ _) ha.defers (by
  have:=ha.sat.get s v hv
  simp [Array.getD_eq_getD_getElem?,this];exact h)
theorem T.Cj {P:Program} {fn:Func} {n:Nat} {R:Value→World→Prop} {s s':Tmp} {v v':Value} (hres:fn.results=#[.tmp s,.tmp s']) (hv:look e s=some v) (hv':look e s'=some v') (h:R (.tuple #[v,v']) w):T (UK P fn n R) (.code .ret::k) e w :=
 T.ret fun a ha=>bodyPost_ret (results_tmp2 hres _ _ _) ha.defers (by
  have h1:=ha.sat.get s v hv
  have h2:=ha.sat.get s' v' hv'
  simp [Array.getD_eq_getD_getElem?,h1,h2];exact h)
theorem T.Po {P:Program} {fn:Func} {n:Nat} {R:Value→World→Prop} (hres:fn.results=#[]) (h:R (.tuple #[]) w):T (UK P fn n R) [] e w :=
 fun a ha=>bodyPost_end (results_none hres _ _ _) ha.defers h
theorem T.ac4 {P:Program} {fn:Func} {n:Nat} {R:Value→World→Prop} (hres:fn.results=#[]) (h:R (.tuple #[]) w):T (UK P fn n R) (.code .ret::k) e w :=
 T.ret fun a ha=>bodyPost_ret (results_none hres _ _ _) ha.defers h
end ops
theorem Keep.of_eq {lo:Nat} {w w':World} (h:w'=w):Keep lo w w':=h▸Keep.refl _ _
open Go.RowKit
inductive Fact where
 | is (v:Value)
 | such (φ:Value→World→Prop)
def Fact.holds:Fact→Value→World→Prop
 | .is u,v,_=>v=u
 | .such φ,v,w=>φ v w
def zO (e:Env):List Nat→Option Env
 | []=>some []
 | s::S=>match look e s,zO e S with
  | some v,some e'=>some ((s,v)::e')
  | _,_=>none
theorem jZ {e:Env} : ∀ {S:List Nat} {e':Env},zO e S=some e'→∀ i v,look e' i=some v→i∈S∧look e i=some v
 | [],e',h,i,v,hi=>by simp [zO] at h;subst h;cases hi
 | s::S,e',h,i,v,hi=>by
  simp only [zO] at h
  split at h
  ·rename_i u e'' hu he
   cases h
   simp only [look] at hi
   by_cases hs:s=i
   ·subst hs;simp at hi;subst hi;exact ⟨by simp,hu⟩
   rw [jR hs] at hi
   have:=jZ he i v hi
   exact ⟨by simp [this.1],this.2⟩
  cases h
def Bind (w:World):List (Option Tmp × Fact)→(Env→Prop)→Prop
 | [],K=>K []
 | (d,.is v)::r,K=>Bind w r (fun en=>K (Aw d v en))
 | (d,.such φ)::r,K=>∀ v,φ v w→Bind w r (fun en=>K (Aw d v en))
def Ob (C:Cx) (ops:Array Oper) (e:Env) (o:Oper) (f:Fact) (w:World):Prop :=
 (gQ ops e o=some true∧O C e o w (fun v w'=>Ext w w'∧f.holds v w'))∨(gQ ops e o=some false∧f.holds undef w)
theorem Ob.op {C:Cx} {ops:Array Oper} {e:Env} {o:Oper} {f:Fact} {w:World} (hw:gQ ops e o=some true) (h:O C e o w (fun v w'=>Ext w w'∧f.holds v w')):Ob C ops e o f w:=.inl ⟨hw,h⟩
theorem Ob.o {C:Cx} {ops:Array Oper} {e:Env} {o:Oper} {f:Fact} {w:World} (h:O C e o w (fun v w'=>Ext w w'∧f.holds v w')) (hw:gQ ops e o=some true:=by rfl):Ob C ops e o f w:=.inl ⟨hw,h⟩
theorem kR {w:World} {v:Value} : Ext w w∧v=v:=⟨Keep.refl _ _,rfl⟩
theorem Ob.pass {C:Cx} {ops:Array Oper} {e:Env} {o:Oper} {f:Fact} {w:World} (hw:gQ ops e o=some false) (h:f.holds undef w):Ob C ops e o f w:=.inr ⟨hw,h⟩
def bf (l:List Oper) (fs:List Fact):List Nat→List (Option Tmp × Fact)
 | []=>[]
 | j::js=>match l[j]?,fs[j]? with
  | some o,some f=>(o.dst,f)::bf l fs js
  | _,_=>bf l fs js
def Obs (C:Cx) (l:List Oper) (fs:List Fact) (e:Env) (w:World):List Oper→List Fact→List (List Nat)→Prop
 | o::os,f::fr,ds::dr=>(∀ w1,Ext w w1→Bind w1 (bf l fs ds) (fun en=>Ob C l.toArray (en++e) o f w1))∧Obs C l fs e w os fr dr
 | _,_,_=>True
theorem rX {w:World} {a:Act} {e:Env} : ∀ (fs:List (Option Tmp × Fact)) (K:Env→Prop),Bind w fs K→(∀ p∈fs,∃ v,(∀ d,p.1=some d→a.tmps[d]?=some v)∧p.2.holds v w) →
  ∃ en,K en∧∀ i v,look (en++e) i=some v→a.tmps[i]?=some v∨(look e i=some v∧∀ p∈fs,p.1≠some i)
 | [],K,h,_=>⟨[],h,fun i v hi=>.inr ⟨hi,fun p hp=>by cases hp⟩⟩
 | (d,f)::r,K,h,hp=>by
  obtain ⟨v,hv,hh⟩:=hp _ (List.mem_cons_self ..)
  have hput:∀ en:Env,(∀ i v,look (en++e) i=some v→a.tmps[i]?=some v∨(look e i=some v∧∀ p∈r,p.1≠some i)) →
    ∀ i u,look (Aw d v en++e) i=some u→a.tmps[i]?=some u∨(look e i=some u∧∀ p∈(d,f)::r,p.1≠some i):=fun en hen i u hi=>by
   cases d with
   | none =>
    rcases hen i u hi with h1|⟨h1,h2⟩
    ·exact .inl h1
    refine .inr ⟨h1,fun p hp=>?_⟩
    rcases List.mem_cons.1 hp with rfl|hp
    ·simp
    exact h2 p hp
   | some d =>
    simp only [Aw,List.cons_append,look] at hi
    by_cases hdi:d=i
    ·subst hdi;simp at hi;subst hi;exact .inl (hv d rfl)
    rw [jR hdi] at hi
    rcases hen i u hi with h1|⟨h1,h2⟩
    ·exact .inl h1
    refine .inr ⟨h1,fun p hp=>?_⟩
    rcases List.mem_cons.1 hp with rfl|hp
    ·simpa using hdi
    exact h2 p hp
  cases f with
  | is u =>
   obtain rfl:v=u:=hh
   obtain ⟨en,h1,h2⟩:=rX r _ h (fun p hpr=>hp p (List.mem_cons_of_mem _ hpr))
   exact ⟨_,h1,hput en h2⟩
  | such φ =>
   obtain ⟨en,h1,h2⟩:=rX r _ (h v hh) (fun p hpr=>hp p (List.mem_cons_of_mem _ hpr))
   exact ⟨_,h1,hput en h2⟩
theorem fB {l:List Oper} {fs:List Fact} {j:Nat} {o:Oper} {f:Fact} (ho:l[j]?=some o) (hf:fs[j]?=some f):∀ {ds:List Nat},j∈ds→(o.dst,f)∈bf l fs ds
 | [],h=>by cases h
 | i::is,h=>by
  simp only [bf]
  rcases List.mem_cons.1 h with rfl|h
  ·rw [ho,hf];exact List.mem_cons_self ..
  have:=fB ho hf h
  split
  ·exact List.mem_cons_of_mem _ this
  exact this
theorem gy {m:Nat} {listed:Array Bool} (h:¬ ∀ j,j<m→listed[j]?=some true):∃ j,j<m∧listed[j]?≠some true∧∀ i,i<j→listed[i]?=some true:=by
 induction m with
 | zero=>exact absurd (fun j hj=>by omega) h
 | succ m ih =>
  by_cases hm:∀ j,j<m→listed[j]?=some true
  ·refine ⟨m,by omega,fun hmm=>h fun j hj=>?_,hm⟩
   rcases Nat.lt_or_ge j m with h1|h1
   ·exact hm j h1
   rw [show j=m by omega];exact hmm
  obtain ⟨j,h1,h2,h3⟩:=ih hm
  exact ⟨j,by omega,h2,h3⟩
theorem AA:∀ (l:List Bool) (i:Nat),l[i]?=some false→((l.set i true).filter (! ·)).length+1=(l.filter (! ·)).length
 | [],i,h=>by simp at h
 | b::l,0,h=>by simp at h;subst h;simp
 | b::l,i+1,h=>by
  have:=AA l i (by simpa using h)
  cases b <;> simp at this ⊢ <;> omega
theorem count_set {listed:Array Bool} {i:Nat} (h:listed[i]?=some false):((listed.setIfInBounds i true).toList.filter (! ·)).length+1=(listed.toList.filter (! ·)).length:=by
 rw [Array.toList_setIfInBounds]
 exact AA _ _ (by simpa using h)
theorem iE:∀ (l:List Bool) (m:Nat),(∀ j,m≤j→j<l.length→l[j]?=some false)→l.length-m≤(l.filter (! ·)).length
 | [],m,_=>by simp
 | b::l,0,h=>by
  have:=iE l 0 (fun j _ hj=>by have:=h (j+1) (by omega) (by simpa using hj);simpa using this)
  have h0:=h 0 (by omega) (by simp)
  simp at h0;subst h0
  simp at this ⊢;omega
 | b::l,m+1,h=>by
  have:=iE l m (fun j h1 hj=>by have:=h (j+1) (by omega) (by simpa using hj);simpa using this)
  cases b <;> simp at this ⊢ <;> omega
theorem dB {l:List Oper} {fs:List Fact} : ∀ {ds:List Nat} {p:Option Tmp × Fact},p∈bf l fs ds→∃ j o,j∈ds∧l[j]?=some o∧o.dst=p.1∧fs[j]?=some p.2
 | [],p,h=>by cases h
 | j::js,p,h=>by
  simp only [bf] at h
  split at h
  ·rename_i o f ho hf
   rcases List.mem_cons.1 h with rfl|h
   ·exact ⟨j,o,by simp,ho,rfl,hf⟩
   obtain ⟨j',o',h1,h2⟩:=dB h
   exact ⟨j',o',by simp [h1],h2⟩
  obtain ⟨j',o',h1,h2⟩:=dB h
  exact ⟨j',o',by simp [h1],h2⟩
section
variable {C:Cx} {k:List It} {l:List Oper} {m:Nat} {fs:List Fact} {e:Env} {w:World} {S:List Nat} {e':Env}
end
open Go.RowKit
section ints
variable {C:Cx} {e:Env} {w:World} {K:Value→World→Prop} {d:Option Tmp} {ty:TypeId} {pos:String} {aft:Array Edge} {g:Option (Nat × Bool)}
variable {x y:Operand} {kd:IntKind} {m n:Int} {tx ty':TypeId}
theorem O.bF (hx:ev e x=some (.int kd m)) (hy:ev e y=some (.int kd n)) (ht:m<n→K (.bool true) w) (hf:¬ m<n→K (.bool false) w):O C e ⟨d,.binOp .lss tx x y ty',ty,pos,aft,g⟩ w K:=O.lss hx hy (if hp:m<n then by rw [decide_eq_true hp];exact ht hp else by rw [decide_eq_false hp];exact hf (by first|exact hp|exact Decidable.not_not.1 hp))
theorem O.X5 (hx:ev e x=some (.int kd m)) (hy:ev e y=some (.int kd n)) (hp:m<n) (h:K (.bool true) w):O C e ⟨d,.binOp .lss tx x y ty',ty,pos,aft,g⟩ w K:=O.lss hx hy (by rw [decide_eq_true hp];exact h)
theorem O.xk (hx:ev e x=some (.int kd m)) (hy:ev e y=some (.int kd n)) (hp:¬ m<n) (h:K (.bool false) w):O C e ⟨d,.binOp .lss tx x y ty',ty,pos,aft,g⟩ w K:=O.lss hx hy (by rw [decide_eq_false (by first|exact hp|exact not_not_intro hp)];exact h)
theorem O.zQ (hx:ev e x=some (.int kd m)) (hy:ev e y=some (.int kd n)) (ht:m≤n→K (.bool true) w) (hf:¬ m≤n→K (.bool false) w):O C e ⟨d,.binOp .leq tx x y ty',ty,pos,aft,g⟩ w K:=O.leq hx hy (if hp:m≤n then by rw [decide_eq_true hp];exact ht hp else by rw [decide_eq_false hp];exact hf (by first|exact hp|exact Decidable.not_not.1 hp))
theorem O.aaA (hx:ev e x=some (.int kd m)) (hy:ev e y=some (.int kd n)) (hp:m≤n) (h:K (.bool true) w):O C e ⟨d,.binOp .leq tx x y ty',ty,pos,aft,g⟩ w K:=O.leq hx hy (by rw [decide_eq_true hp];exact h)
theorem O.aaB (hx:ev e x=some (.int kd m)) (hy:ev e y=some (.int kd n)) (hp:¬ m≤n) (h:K (.bool false) w):O C e ⟨d,.binOp .leq tx x y ty',ty,pos,aft,g⟩ w K:=O.leq hx hy (by rw [decide_eq_false (by first|exact hp|exact not_not_intro hp)];exact h)
theorem O.jS (hx:ev e x=some (.int kd m)) (hy:ev e y=some (.int kd n)) (ht:n<m→K (.bool true) w) (hf:¬ n<m→K (.bool false) w):O C e ⟨d,.binOp .gtr tx x y ty',ty,pos,aft,g⟩ w K:=O.gtr hx hy (if hp:n<m then by rw [decide_eq_true hp];exact ht hp else by rw [decide_eq_false hp];exact hf (by first|exact hp|exact Decidable.not_not.1 hp))
theorem O.Cm (hx:ev e x=some (.int kd m)) (hy:ev e y=some (.int kd n)) (hp:n<m) (h:K (.bool true) w):O C e ⟨d,.binOp .gtr tx x y ty',ty,pos,aft,g⟩ w K:=O.gtr hx hy (by rw [decide_eq_true hp];exact h)
theorem O.zS (hx:ev e x=some (.int kd m)) (hy:ev e y=some (.int kd n)) (hp:¬ n<m) (h:K (.bool false) w):O C e ⟨d,.binOp .gtr tx x y ty',ty,pos,aft,g⟩ w K:=O.gtr hx hy (by rw [decide_eq_false (by first|exact hp|exact not_not_intro hp)];exact h)
theorem O.zT (hx:ev e x=some (.int kd m)) (hy:ev e y=some (.int kd n)) (ht:n≤m→K (.bool true) w) (hf:¬ n≤m→K (.bool false) w):O C e ⟨d,.binOp .geq tx x y ty',ty,pos,aft,g⟩ w K:=O.geq hx hy (if hp:n≤m then by rw [decide_eq_true hp];exact ht hp else by rw [decide_eq_false hp];exact hf (by first|exact hp|exact Decidable.not_not.1 hp))
theorem O.IE (hx:ev e x=some (.int kd m)) (hy:ev e y=some (.int kd n)) (hp:n≤m) (h:K (.bool true) w):O C e ⟨d,.binOp .geq tx x y ty',ty,pos,aft,g⟩ w K:=O.geq hx hy (by rw [decide_eq_true hp];exact h)
theorem O.Pq (hx:ev e x=some (.int kd m)) (hy:ev e y=some (.int kd n)) (hp:¬ n≤m) (h:K (.bool false) w):O C e ⟨d,.binOp .geq tx x y ty',ty,pos,aft,g⟩ w K:=O.geq hx hy (by rw [decide_eq_false (by first|exact hp|exact not_not_intro hp)];exact h)
theorem O.jw (hx:ev e x=some (.int kd m)) (hy:ev e y=some (.int kd n)) (ht:m=n→K (.bool true) w) (hf:¬ m=n→K (.bool false) w):O C e ⟨d,.binOp .eql tx x y ty',ty,pos,aft,g⟩ w K:=O.eql hx hy (if hp:m=n then by rw [decide_eq_true hp];exact ht hp else by rw [decide_eq_false hp];exact hf (by first|exact hp|exact Decidable.not_not.1 hp))
theorem O.iF (hx:ev e x=some (.int kd m)) (hy:ev e y=some (.int kd n)) (hp:m=n) (h:K (.bool true) w):O C e ⟨d,.binOp .eql tx x y ty',ty,pos,aft,g⟩ w K:=O.eql hx hy (by rw [decide_eq_true hp];exact h)
theorem O.gX (hx:ev e x=some (.int kd m)) (hy:ev e y=some (.int kd n)) (hp:¬ m=n) (h:K (.bool false) w):O C e ⟨d,.binOp .eql tx x y ty',ty,pos,aft,g⟩ w K:=O.eql hx hy (by rw [decide_eq_false (by first|exact hp|exact not_not_intro hp)];exact h)
theorem O.jT (hx:ev e x=some (.int kd m)) (hy:ev e y=some (.int kd n)) (ht:m≠n→K (.bool true) w) (hf:m=n→K (.bool false) w):O C e ⟨d,.binOp .neq tx x y ty',ty,pos,aft,g⟩ w K:=O.neq hx hy (if hp:m≠n then by rw [decide_eq_true hp];exact ht hp else by rw [decide_eq_false hp];exact hf (by first|exact hp|exact Decidable.not_not.1 hp))
theorem O.IG (hx:ev e x=some (.int kd m)) (hy:ev e y=some (.int kd n)) (hp:m≠n) (h:K (.bool true) w):O C e ⟨d,.binOp .neq tx x y ty',ty,pos,aft,g⟩ w K:=O.neq hx hy (by rw [decide_eq_true hp];exact h)
theorem O.kZ (hx:ev e x=some (.int kd m)) (hy:ev e y=some (.int kd n)) (hp:m=n) (h:K (.bool false) w):O C e ⟨d,.binOp .neq tx x y ty',ty,pos,aft,g⟩ w K:=O.neq hx hy (by rw [decide_eq_false (by first|exact hp|exact not_not_intro hp)];exact h)
end ints
section more
variable {C:Cx} {k:List It} {e:Env} {w:World} {K:Value→World→Prop} {d:Option Tmp} {ty:TypeId} {pos:String} {aft:Array Edge} {g:Option (Nat × Bool)}
variable {x y z:Operand} {t:TypeId}
theorem Sl.one {w:World} {v:Value} {n sz lo:Nat} {cs:List Value} (h:Sl lo w v n sz cs):v.oneCell'=true:=by
 obtain ⟨_,oa,cap,rfl,_⟩:=h;rfl
theorem Sl.cells {w:World} {v:Value} {n sz lo:Nat} {cs:List Value} (h:Sl lo w v n sz cs):v.cells=#[v]:=by
 obtain ⟨_,oa,cap,rfl,_⟩:=h;rfl
theorem O.makeSlice {el:TypeId} {i:TypeInfo} {zv:Value} {n:Nat} {m:Int} (hu:∀ w,(underlying t).run C.P w = .ok (.slice el) w) (hi:∀ w,(typeInfo el).run C.P w = .ok i w) (hs:∀ w,(sizeOf el).run C.P w = .ok 1 w) (hz:∀ w,(zeroValue el).run C.P w = .ok zv w)
  (hzc:zv.cells=#[zv]) (hx:ev e x=some (.int .i64 m)) (hm:m=n) (hb:n*i.bytes≤140737488355328) (hn:n≤9223372036854775807)
  (h:∀ b w',b=w.heap.size→w'.heap.size=b+1→Ext w w'→Blk w' b (List.replicate n zv) el→K (.slice (some ⟨b,0,none⟩) n n) w'):O C e ⟨d,.makeSlice t x x,ty,pos,aft,g⟩ w K:=by
 subst hm
 have hcells:((Array.range n).map (fun _=>zv))=(List.replicate n zv).toArray:=by
  apply Array.ext
  ·simp
  intro j h1 h2;simp
 refine O.of_run (w':=w.alloc (.cells (List.replicate n zv).toArray el)) (v:=.slice (some ⟨w.heap.size,0,none⟩) n n) (by simp) (fun a ha=>?_) (h _ _ rfl (by simp) (Keep.alloc _ _ _) (Blk.alloc _ _ _))
 have hw:IntKind.i64.wrap (n:Int)=n:=IntWalk.i64_in _ ⟨by omega,by omega⟩
 have h2:¬ ((2:Int) ^ 48<(i.bytes:Int)*(n:Int)):=by
  have:(i.bytes:Int)*(n:Int)=((n*i.bytes:Nat):Int):=by rw [Nat.mul_comm];simp
  rw [this]
  have e48:(2:Int) ^ 48=281474976710656:=by decide
  rw [e48];omega
 have h3:¬ ((281474976710656:Int)<(i.bytes:Int)*(n:Int)):=by
  have e48:(2:Int) ^ 48=281474976710656:=by decide
  rwa [e48] at h2
 have h4:¬ ((n:Int)<0):=by omega
 have hroom:(askRoom (n*i.bytes)).run C.P w = .ok () w:=by
  have:¬ (n*i.bytes > roomBytes):=by
   have e47:roomBytes=140737488355328:=by decide
   rw [e47];omega
  simp [askRoom,this]
 by_cases hn0:n=0
 ·subst hn0
  have hw0:IntKind.i64.wrap 0=0:=hw
  have h30:¬ ((281474976710656:Int)<0):=by omega
  simp [execOp,Instr.makeSlice,ha.eval hx,hu w,hi w,asInt,asIntOf,hw0,hroom,hs w,newRow,askRoom,roomBytes]
  rw [show Array.map (fun _=>(default:Value)) (Array.range 0)=#[] from by simp]
 have hz':((Array.range n).map (fun j=>zv.cells[j % zv.cells.size]!))=(List.replicate n zv).toArray:=by
  rw [← hcells]
  apply Array.map_congr_left
  intro j _
  rw [hzc];simp [Nat.mod_one]
 have amd:((Array.range n).map (fun j=>(#[zv]:Array Value)[j % 1]!))=(List.replicate n zv).toArray:=by rw [hzc] at hz';exact hz'
 simp [execOp,Instr.makeSlice,ha.eval hx,hu w,hi w,asInt,asIntOf,hw,h3,h4,hroom,hs w,newRow,hn0,hz w,hzc]
 congr 2
 apply Array.ext
 ·simp
 intro j h1 h2;simp [Nat.mod_one]
end more
open Go.RowKit
section more
variable {C:Cx} {k:List It} {e:Env} {w:World} {K:Value→World→Prop} {d:Option Tmp} {ty:TypeId} {pos:String} {aft:Array Edge} {g:Option (Nat × Bool)}
variable {x y z:Operand} {t:TypeId}
theorem O.bD {b o j:Nat} {cs:List Value} {tb:TypeId} {v:Value} (hs:∀ w,(sizeOf t).run C.P w = .ok 1 w) (h1:v.oneCell'=true) (hx:ev e x=some (.pointer (some ((⟨b,o,none⟩:Addr).add j)))) (hy:ev e y=some v) (hb:Blk w b cs tb)
  (hfit:o+j<cs.length) (h:∀ w',Upd b w w'→Blk w' b (cs.set (o+j) v) tb→K undef w'):O C e ⟨d,.store t x y,ty,pos,aft,g⟩ w K :=
 O.store1 hs h1 (by rw [hx,xg]) hy hb hfit h
def ad2 (m:Nat):Value:=.int .u64 (m:Int)
def Words (lo:Nat) (w:World) (v:Value) (ms:List Nat):Prop:=Sl lo w v ms.length 1 (ms.map ad2)
theorem Ints.ay {kd:IntKind} {w:World} {b lo:Nat} {xs:List Int} {t:TypeId} {n:Nat} (h:Blk w b (xs.map (Value.int kd)) t) (hn:xs.length=n) (hm:n≤maxLen) (hlo:lo≤b):Ints kd lo w (.slice (some ⟨b,0,none⟩) n n) xs:=by
 subst hn;exact Sl.ay h (by simp) (Nat.le_refl _) hm hlo
end more
open Go.RowKit
theorem Ints.at {k:IntKind} {w:World} {v:Value} {lo:Nat} {xs:List Int} (h:Ints k lo w v xs) {i:Nat} (h1:i<xs.length):w.cell? ((jd v).add ((i:Int).toNat*1))=some (.int k (xs.getD i 0)):=h.cell (m:=i) (by omega) (by omega)
end Go.E
