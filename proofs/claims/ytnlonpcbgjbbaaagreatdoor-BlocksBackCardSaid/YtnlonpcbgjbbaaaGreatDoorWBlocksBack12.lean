/-
  BlocksBack, part 12 of its proof: that it returns true for every input, and each argument reads behind the call as it read before. Conditions: the listed variables read as the program's text lays them (tied by the card).
-/
import Derived.Test.YtnlonpcbgjbbaaaGreatDoorWBlocksBack11
set_option linter.unusedVariables false
set_option linter.unusedSimpArgs false
set_option maxRecDepth 20000
set_option linter.unusedVariables false
set_option linter.unusedSimpArgs false
set_option maxRecDepth 20000
namespace Go.Proofs.YtnlonpcbgjbbaaaGreatDoor
open Go.Proofs.Tryz (func131 isAgg125 isAgg30 ntmps131 results131 runUnderlying125 runUnderlying127 sizeOf125 sizeOf30)
open Go Go.E
attribute [local irreducible] Go.E.T Go.E.L Go.E.O Go.E.Ob
attribute [local irreducible] Go.E.ObX
theorem DT (lo:Nat) (oa ob:Option Addr) (cap cap2:Nat) (os:List Int) (hs:List RiV) (w:World) (hf:FaV.ok lo w (⟨⟨.slice oa os.length cap,os⟩,.slice ob hs.length cap2,hs⟩:FaV)) (hn:hs.length≤100000) :
  Calls Tryz.prog 131 #[(⟨⟨.slice oa os.length cap,os⟩,.slice ob hs.length cap2,hs⟩:FaV).val] w (Ret fun v w'=>Ext w w'∧Sl w.heap.size w' v (⟨⟨.slice oa os.length cap,os⟩,.slice ob hs.length cap2,hs⟩:FaV).ri.length 1 (aJ (⟨⟨.slice oa os.length cap,os⟩,.slice ob hs.length cap2,hs⟩:FaV).ri)∧w'.ownsRow w.heap.size 30 1 v (⟨⟨.slice oa os.length cap,os⟩,.slice ob hs.length cap2,hs⟩:FaV).ri.length (aJ (⟨⟨.slice oa os.length cap,os⟩,.slice ob hs.length cap2,hs⟩:FaV).ri)):=by
 refine T.enter (vs:=[(⟨⟨.slice oa os.length cap,os⟩,.slice ob hs.length cap2,hs⟩:FaV).val]) func131 rfl ntmps131 rfl ?_
 refine T.q (L.o (O.box rfl (fun b1 w1 hb1 hz1 he1 hB1=>?_)))
 have hF1:Blk w1 b1 (⟨⟨.slice oa os.length cap,os⟩,.slice ob hs.length cap2,hs⟩:FaV).cells 127:=hB1
 have hf1:=hf.ext he1
 refine L.a rfl (L.nil (T.q (L.o (O.fieldAddr runUnderlying127 rfl sizeOf30 rfl (L.o (O.load isAgg30 rfl (hF1.cell rfl) (L.o (O.buildSlice (el:=30) (parts:=[(0,.tmp 4)]) (vs:=[(0,_)]) (cs:=[(.slice oa os.length cap)]) rfl (fun w=>by kernel_rfl) (fun b2 w2 hb2 hz2 he2 hB2=>?_)))))))))
 refine L.o (O.fieldAddr runUnderlying127 rfl sizeOf125 rfl (L.o (O.load isAgg125 rfl ((Blk.ext (cs:=(⟨⟨.slice oa os.length cap,os⟩,.slice ob hs.length cap2,hs⟩:FaV).cells) hF1 he2).cell rfl) (?_))))
 have hf2:=hf1.ext he2
 have hO2:=kX (base:=w.heap.size) (n:=1) (sz:=1) (cap:=1) hB2 (by have:=he1.size;omega) (by decide) (by decide) rfl
 have hcl:(aJ hs).length=hs.length:=by simp [aJ]
 have h1c:∀ c∈aJ hs,c.oneCell'=true:=fun c hc=>by simp only [aJ,List.mem_map] at hc;obtain ⟨x,hx,rfl⟩:=hc;exact Sl.one (hf2.hs x hx)
 have hS2:Sl lo w2 (.slice ob hs.length cap2) hs.length 1 (aJ hs):=hf2.sl
 refine L.o (O.append (size:=1) (bytes:=24) runUnderlying125 Tryz.nT rfl rfl rfl rfl (by decide) rfl rfl hO2 hS2 h1c (by omega) (by simp only [maxLen];omega) (by have:=he1.size;have:=he2.size;omega) (fun v3 w3 hO3 hG3=>?_))
 refine L.a rfl (L.nil (T.aU results131 rfl ⟨(he1.trans he2).fO hO2 hG3 (Nat.le_refl _),?_⟩))
 have e:1+hs.length=hs.length+1:=Nat.add_comm _ _
 rw [e] at hO3
 exact ⟨Sl.aT hO3,hO3⟩
theorem uX (lo:Nat) (f:FaV) (w:World) (hf:f.ok lo w) (hn:f.hs.length≤100000) :
  Calls Tryz.prog 131 #[f.val] w (Ret fun v w'=>Ext w w'∧Sl w.heap.size w' v f.ri.length 1 (aJ f.ri)∧w'.ownsRow w.heap.size 30 1 v f.ri.length (aJ f.ri)):=by
 obtain ⟨⟨ov,os⟩,hv,hs⟩:=f
 obtain ⟨oa,cap,e1,_,_⟩:=Sl.val hf.o
 replace e1:ov = .slice oa os.length cap:=e1
 obtain ⟨ob,cap2,e2,_,_⟩:=Sl.val hf.sl
 replace e2:hv = .slice ob hs.length cap2:=e2
 subst e1 e2
 exact DT lo oa ob cap cap2 os hs w hf hn
open Go Go.E
open Geo (RR RG)
theorem own_ne {w:World} {base base' n n' sz sz':Nat} {el el':TypeId} {v u:Value} {xs ys:List Value} (h:w.ownsRow base el sz v n xs) (h':w.ownsRow base' el' sz' u n' ys) (he:el≠el'):v.ownBlock=none∨v.ownBlock≠u.ownBlock:=by
 rcases h.2 with ⟨hv,_⟩|⟨g,cap,cur,hv,hb,hg,_⟩
 ·left;subst hv;rfl
 right
 rcases h'.2 with ⟨hu,_⟩|⟨g',cap',cur',hu,hb',hg',_⟩
 ·subst hv hu;intro h;cases h
 subst hv hu
 intro h
 have e:g=g':=by cases h;rfl
 subst e
 rw [hg] at hg'
 cases hg'
 exact he rfl
end Go.Proofs.YtnlonpcbgjbbaaaGreatDoor
