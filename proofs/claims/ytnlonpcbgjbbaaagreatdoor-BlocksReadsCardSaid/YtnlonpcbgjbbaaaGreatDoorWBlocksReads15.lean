/-
  BlocksReads, part 15 of its proof: that it returns true for every input, and each argument reads behind the call as it read before. Conditions: the listed variables read as the program's text lays them (tied by the card).
-/
import Derived.Test.YtnlonpcbgjbbaaaGreatDoorWBlocksReads14
set_option linter.unusedVariables false
set_option linter.unusedSimpArgs false
set_option maxRecDepth 20000
set_option linter.unusedVariables false
set_option linter.unusedSimpArgs false
set_option maxRecDepth 20000
namespace Go.Proofs.YtnlonpcbgjbbaaaGreatDoor
open Go.Proofs.Tryz (call108 call117 call121 call124 call144 call157 call159 call160 call161 call162 call33 call34 call54 call55 call65 call95 call96 call97 call99 func117 func121 func122 func124 func157 func159 func160 func162 func19 func42 func44 func45 func65 func68 func97 isAgg124 isAgg125 isAgg127 isAgg23 isAgg25 isAgg3 isAgg30 isAgg4 isAgg43 isAgg44 isAgg48 isAgg51 isAgg9 ntmps117 ntmps121 ntmps122 ntmps124 ntmps157 ntmps159 ntmps160 ntmps162 ntmps19 ntmps42 ntmps44 ntmps45 ntmps65 ntmps68 ntmps97 results117 results121 results122 results124 results157 results159 results160 results162 results19 results42 results44 results45 results65 results68 results97 runUnderlying124 runUnderlying125 runUnderlying127 runUnderlying129 runUnderlying23 runUnderlying25 runUnderlying3 runUnderlying30 runUnderlying31 runUnderlying43 runUnderlying44 runUnderlying46 runUnderlying48 runUnderlying51 runUnderlying61 runUnderlying9 sizeOf124 sizeOf125 sizeOf127 sizeOf23 sizeOf25 sizeOf3 sizeOf30 sizeOf4 sizeOf43 sizeOf44 sizeOf46 sizeOf48 sizeOf51 sizeOf9 zeroValue124 zeroValue127 zeroValue3 zeroValue51)
open Go Go.E RowKit
attribute [local irreducible] Go.E.T Go.E.L Go.E.O Go.E.Ob
attribute [local irreducible] Go.E.ObX Go.E.ObG Go.E.ObK
theorem TF {n i:Nat} (h:i<n):((List.replicate i (-1:Int)++List.replicate (n-i) 0).map (Value.int .i64)).set i (.int .i64 (-1))=(List.replicate (i+1) (-1:Int)++List.replicate (n-(i+1)) 0).map (Value.int .i64):=by
 rw [List.map_append,List.map_append,List.set_append_right _ _ (by simp)]
 simp only [List.map_replicate,List.length_replicate,Nat.sub_self]
 rw [show n-i=(n-(i+1))+1 by omega,List.replicate_succ,List.set_cons_zero,List.replicate_succ',List.append_assoc]
 rfl
theorem Sl.acQ {lo b:Nat} {w w':World} {v:Value} {n sz:Nat} {cs:List Value} (h:Sl lo w v n sz cs) (hu:Upd b w w') (hb:b<lo):Sl lo w' v n sz cs:=h.keep (lo:=lo) ((Keep.refl lo w).upd hu (.inl hb))
theorem Pj {nm:Nat→Str} {n k:Nat} {Ls:List Str} {out:List Int} (hk:k<Ls.length):Ls.drop k=Ls.getD k []::Ls.drop (k+1):=by
 rw [List.drop_eq_getElem_cons hk,au hk]
theorem drop_nil {Ls:List Str} {k:Nat} (hk:k<Ls.length):Ls.drop (k+1) = []↔(k:Int)=(Ls.length:Int)-1:=by
 rw [List.drop_eq_nil_iff];omega
theorem wF {w:World} {b n:Nat} {xs:List Int} {t:TypeId} (h:Blk w b (xs.map (Value.int .i64)) t) (hl:xs.length=n) (hn:n≤1000):Ints .i64 0 w (.slice (some ⟨b,0,none⟩) n n) xs:=by
 subst hl
 exact Sl.ay h (by simp) (Nat.le_refl _) (by simp only [maxLen];omega) (Nat.zero_le _)
theorem yg {w w':World} {a:Addr} {v:Value} (h:w.cell? a=some v) (k:Ext w w'):w'.cell? a=some v:=k.cell (Nat.zero_le _) h
set_option maxHeartbeats 2000000 in
theorem Aw (lo:Nat) (r:RoV) (t:Str) (w:World) (hr:r.ok lo w) (hok:bD r) (ht:t.length≤1000000) :
  Calls Tryz.prog 97 #[r.val,str t] w (Ret fun v w'=>∃ pv b,v = .tuple #[pv,.int .i64 ((aP (nmA r.us) (aB r.us) t).2.1:Int),.int .i64 (aP (nmA r.us) (aB r.us) t).2.2]∧Ints .i64 0 w' pv (aP (nmA r.us) (aB r.us) t).1∧Ext w w'∧((aP (nmA r.us) (aB r.us) t).2.2=0→pv = .slice (some ⟨b,0,none⟩) (aP (nmA r.us) (aB r.us) t).1.length (aP (nmA r.us) (aB r.us) t).1.length∧w.heap.size≤b∧Blk w' b ((aP (nmA r.us) (aB r.us) t).1.map (.int .i64)) 3)):=by
 refine T.enter (vs:=[r.val,str t]) func97 rfl ntmps97 rfl ?_
 refine T.q (L.o (O.box rfl (fun b2 w2 hb2 hz2 he2 hB2=>?_)))
 have hC2:Blk w2 b2 r.cells _:=hB2
 have hpos:=iQ hok
 have hN:Ns (nmA r.us) (aB r.us):=TD hok hpos.2.1
 refine L.a rfl (L.a rfl (L.a rfl (L.nil (T.seq (T.q (L.m rfl (L.o (O.bP runUnderlying9 rfl (L.o (O.fG rfl rfl (fun hbig=>?_) (fun hbig=>?_)))))))))))
 ·refine L.nil (?_)
  have hr1:aP (nmA r.us) (aB r.us) t=([],0,3):=by rw [aP,if_pos (by omega)]
  refine T.ct (T.q (L.a rfl (L.a rfl (L.a rfl (L.nil (T.vK results97 rfl rfl rfl ⟨.slice none 0 0,0,by rw [hr1];rfl,by rw [hr1];exact Sl.nil _ _ _,he2,by rw [hr1];intro h;cases h⟩))))))
 refine L.nil (T.cf (T.skip (T.q (L.o (O.ak isAgg25 sizeOf25 rfl rfl hC2.row (L.o (O.call (xs:=[.tmp 18]) call144 rfl rfl (wY lo r w2 (hr.ext he2)) (fun v3 w3 hq=>?_))))))))
 obtain ⟨rfl,he3⟩:=hq
 refine L.o (O.makeSlice runUnderlying30 Tryz.typeInfo3 sizeOf3 zeroValue3 rfl rfl rfl (by show aB r.us*8≤_;omega) (by omega) (fun b7 w7 hb7 hz7 he7 hB7=>?_))
 generalize hnn:aB r.us=n at hpos hN hB7 ⊢
 refine L.a rfl (L.nil (T.seq (T.q (L.a rfl (L.nil (T.block (?_)))))))
 refine T.loop (σ:=Nat) (fun i=>[(1,str t),(2,.pointer (some ⟨b2,0,none⟩)),(7,.slice (some ⟨b7,0,none⟩) n n),(8,.int .i64 i)]) (fun i W=>i≤n∧Ext w2 W∧Blk W b7 ((List.replicate i (-1:Int)++List.replicate (n-i) 0).map (Value.int .i64)) 3) (fun i=>n-i) (0) ⟨rfl,rfl,rfl,rfl,trivial⟩ ⟨Nat.zero_le _,he3.trans he7,by simpa using hB7⟩ ?_
 rintro i w8 ⟨hi,he8,hB8⟩
 refine T.seq (T.q (L.m rfl (L.m rfl (L.o (O.len runUnderlying30 rfl (Sl.val (Sl.ay (n:=n) (sz:=1) (lo:=0) hB8 (by simp;omega) (Nat.le_refl n) (by simp only [maxLen];omega) (Nat.zero_le _))) (L.o (O.aV rfl rfl (fun hlt=>?_) (fun hlt=>?_))))))))
 ·refine L.nil (?_)
  have hlt':i<n:=by omega
  refine T.ct (T.skip (T.seq (T.block (T.region (L.m rfl (L.m rfl (L.o (O.indexAddr runUnderlying30 sizeOf3 rfl rfl (Sl.ay (n:=n) (sz:=1) (lo:=0) hB8 (by simp;omega) (Nat.le_refl n) (by simp only [maxLen];omega) (Nat.zero_le _)) (by omega) (by omega) (L.o (O.bf sizeOf3 rfl rfl rfl hB8 (by simp;omega) (fun w9 hu9 hB9=>?_)))))))))))
  rw [show 0+(i:Int).toNat*1=i by omega,TF hlt'] at hB9
  refine L.nil (T.blk (T.region (L.m rfl (L.o (O.aC rfl rfl (by omega) (L.a rfl (L.nil (T.again (i+1) (by omega) ⟨rfl,rfl,rfl,rfl,trivial⟩ ⟨hlt',he8.upd hu9 (.inr (by have:=he3.size;omega)),hB9⟩))))))))
 refine L.nil (?_)
 have e:n=i:=by omega
 subst e
 have UR:Blk w8 b7 ((List.replicate n (-1:Int)).map (Value.int .i64)) 3:=by simpa using hB8
 refine T.cf (T.exit rfl (T.q (L.m rfl (L.o (O.call (xs:=[.tmp 30]) call99 rfl rfl (FP t w8 ht) (fun v9 w9 hq=>?_))))))
 obtain ⟨hO9,he9⟩:=hq
 have hb7:=Blk.lt UR
 have hz3:=he3.size
 have hS9:Strs w8.heap.size w9 v9 (aK 10 t):=Sl.aU hO9
 have ahO:=Sl.le hS9
 generalize hLs:aK 10 t=Ls at hS9 ahO
 have hE9:Ext w2 w9:=he8.trans he9
 have hB9:=Blk.ext UR he9
 have hres:aP (nmA r.us) n t=match tJ (nmA r.us) n Ls 0 (List.replicate n (-1)) with | .inl o=>(o,0,0) | .inr m=>([],m,5):=by rw [aP,if_neg (by omega),hLs];rfl
 refine L.a rfl (L.nil (T.seq (T.q (L.a rfl (L.nil (T.block (?_)))))))
 refine T.loop (σ:=Nat × List Int) (fun g=>[(2,.pointer (some ⟨b2,0,none⟩)),(7,.slice (some ⟨b7,0,none⟩) n n),(9,v9),(10,.int .i64 g.1)]) (fun g W=>g.1≤Ls.length∧g.2.length=n∧Ext w2 W∧Strs w8.heap.size W v9 Ls∧Blk W b7 (g.2.map (Value.int .i64)) 3∧tJ (nmA r.us) n Ls 0 (List.replicate n (-1))=tJ (nmA r.us) n (Ls.drop g.1) g.1 g.2) (fun g=>Ls.length-g.1) ((0,List.replicate n (-1))) ⟨rfl,rfl,rfl,rfl,trivial⟩ ⟨Nat.zero_le _,by simp,hE9,hS9,hB9,rfl⟩ ?_
 rintro ⟨k,out⟩ w10 ⟨hk,hol,Oj,CG,xq,hrun⟩
 simp only at hk hol xq hrun
 refine T.seq (T.q (L.m rfl (L.m rfl (L.o (O.len runUnderlying61 rfl (Sl.val CG) (L.o (O.aV rfl rfl (fun hlt=>?_) (fun hlt=>?_))))))))
 ·refine L.nil (?_)
  have hlt':k<Ls.length:=by simp only at hlt;omega
  have hdk:=Pj (nm:=nmA r.us) (n:=n) (out:=out) hlt'
  rw [hdk] at hrun
  generalize hl:Ls.getD k []=l at hrun hdk
  have hnil:=drop_nil hlt'
  have hcell:=CG.at hlt'
  rw [hl] at hcell
  refine T.ct (T.skip (T.seq (T.block (T.q (L.m rfl (L.m rfl (L.o (O.len runUnderlying61 rfl (Sl.val CG) (L.o (O.fC rfl rfl (by (try dsimp only);omega) (L.o (O.gJ rfl rfl (fun hlast=>?_) (fun hlast=>?_)))))))))))))
  ·have hr0:Ls.drop (k+1) = []:=hnil.2 (by simp only at hlast;omega)
   rw [hr0] at hrun
   refine L.a rfl (L.nil (T.seq (T.q (L.m rfl (L.m rfl (L.m rfl (L.o (O.fG rfl rfl (fun h0=>?_) (fun h0=>?_)))))))))
   ·have h0':0<k:=by simp only at h0;omega
    refine L.o (O.aj rfl rfl (L.m rfl (L.m rfl (L.m rfl (L.o (O.indexAddr runUnderlying61 sizeOf9 rfl rfl CG (by omega) (by omega) (L.o (O.load isAgg9 rfl hcell (L.o (O.lY runUnderlying9 rfl rfl (fun hemp=>?_) (fun hemp=>?_)))))))))))
    ·rw [tJ,if_pos ⟨rfl,h0',hemp⟩] at hrun
     rw [hrun] at hres
     simp only at hres
     refine L.o (O.aj rfl rfl (L.nil (T.ct (T.exit rfl (T.q (L.m rfl (L.a rfl (L.a rfl (L.a rfl (L.nil (T.vK results97 rfl rfl rfl ⟨.slice (some ⟨b7,0,none⟩) n n,b7,by rw [hres];rfl,by rw [hres];exact wF xq hol (by omega),he2.trans Oj,fun _=>by rw [hres];exact ⟨by simp only;rw [hol],by omega,xq⟩⟩)))))))))))
    rw [tJ,if_neg (fun h=>hemp h.2.2),if_pos (.inl rfl)] at hrun
    rw [hrun] at hres
    simp only at hres
    refine L.o (O.aj rfl rfl (L.nil (T.cf (T.skip (T.seq (T.q (L.m rfl (L.m rfl (L.p (L.p (L.p (L.p (L.p (L.p (L.p (L.p (L.p (L.o (O.aj rfl rfl (L.nil (T.ct (T.q (L.m rfl (?_))))))))))))))))))))))))
    refine L.o (O.aC rfl rfl (by (try dsimp only);omega) (L.a rfl (L.a rfl (L.a rfl (L.nil (T.vK results97 rfl rfl rfl ⟨.slice none 0 0,0,by rw [hres];rfl,by rw [hres];exact Sl.nil _ _ _,he2.trans Oj,by rw [hres];intro h;cases h⟩))))))
   have h0':¬ 0<k:=by simp only at h0;omega
   rw [tJ,if_neg (fun h=>h0' h.2.1),if_pos (.inl rfl)] at hrun
   rw [hrun] at hres
   simp only at hres
   refine L.o (O.aj rfl rfl (L.m rfl (L.p (L.p (L.p (L.p (L.p (L.o (O.ah rfl rfl (L.nil (T.cf (T.skip (T.seq (T.q (L.m rfl (L.m rfl (L.p (L.p (L.p (L.p (L.p (L.p (L.p (L.p (?_)))))))))))))))))))))))))
   refine L.p (L.o (O.aj rfl rfl (L.nil (T.ct (T.q (L.m rfl (L.o (O.aC rfl rfl (by (try dsimp only);omega) (L.a rfl (L.a rfl (L.a rfl (L.nil (T.vK results97 rfl rfl rfl ⟨.slice none 0 0,0,by rw [hres];rfl,by rw [hres];exact Sl.nil _ _ _,he2.trans Oj,by rw [hres];intro h;cases h⟩)))))))))))))
  have hr0:¬ Ls.drop (k+1) = []:=fun h=>hlast (by simp only;have:=hnil.1 h;omega)
  rw [tJ,if_neg (fun h=>hr0 h.1)] at hrun
  refine L.a rfl (L.nil (T.seq (T.q (L.m rfl (L.m rfl (L.p (L.p (L.o (O.ah rfl rfl (L.m rfl (L.p (L.p (L.p (L.p (L.p (L.o (O.ah rfl rfl (L.nil (T.cf (T.skip (T.seq (T.q (L.m rfl (?_))))))))))))))))))))))))
  refine L.m rfl (L.m rfl (L.o (O.gJ rfl rfl (fun hk0=>?_) (fun hk0=>?_))))
  ·have hk0':k=0:=by simp only at hk0;omega
   refine L.m rfl (L.m rfl (L.m rfl (L.o (O.indexAddr runUnderlying61 sizeOf9 rfl rfl CG (by omega) (by omega) (L.o (O.load isAgg9 rfl hcell (L.o (O.Ec runUnderlying9 rfl rfl (fun hh=>?_) (fun hh=>?_)))))))))
   ·rw [if_pos (.inr ⟨hk0',hh⟩)] at hrun
    rw [hrun] at hres
    simp only at hres
    refine L.o (O.aj rfl rfl (L.o (O.ah rfl rfl (L.nil (T.ct (T.q (L.m rfl (L.o (O.aC rfl rfl (by (try dsimp only);omega) (L.a rfl (L.a rfl (L.a rfl (L.nil (T.vK results97 rfl rfl rfl ⟨.slice none 0 0,0,by rw [hres];rfl,by rw [hres];exact Sl.nil _ _ _,he2.trans Oj,by rw [hres];intro h;cases h⟩))))))))))))))
   rw [if_neg (by rintro (h|⟨_,h⟩);exact hr0 h;exact h hh),if_pos hk0'] at hrun
   refine L.o (O.aj rfl rfl (L.o (O.ah rfl rfl (L.nil (T.cf (T.skip (T.seq (T.q (L.m rfl (L.o (O.iW rfl rfl hk0 (L.nil (T.ct (T.exit rfl (T.region (L.m rfl (L.o (O.aC rfl rfl (by (try dsimp only);omega) (L.a rfl (L.nil (T.again ((k+1,out)) (show Ls.length-(k+1)<Ls.length-k by omega) ⟨rfl,rfl,rfl,rfl,trivial⟩ ⟨hlt',hol,Oj,CG,xq,by rw [hrun];subst hk0';rfl⟩)))))))))))))))))))))
  have hk0':¬ k=0:=fun e=>hk0 (by simp only;omega)
  rw [if_neg (by rintro (h|⟨h,_⟩);exact hr0 h;exact hk0' h),if_neg hk0'] at hrun
  refine L.m rfl (L.p (L.p (L.p (L.p (L.p (L.o (O.ah rfl rfl (L.o (O.ah rfl rfl (L.nil (T.cf (T.skip (T.seq (T.q (L.m rfl (L.o (O.dY rfl rfl hk0 (L.nil (T.cf (T.skip (T.q (L.a rfl (L.nil (T.seq (?_)))))))))))))))))))))))))
  refine T.q (L.a rfl (L.nil (T.block (?_))))
  refine T.loop (σ:=Nat × List Int × Bool) (fun g=>[(2,.pointer (some ⟨b2,0,none⟩)),(7,.slice (some ⟨b7,0,none⟩) n n),(9,v9),(10,.int .i64 k),(12,.bool g.2.2),(13,.int .i64 g.1)]) (fun g W=>g.1≤n∧g.2.1.length=n∧oI (nmA r.us) n out l g.1 0 g.2.1 g.2.2∧Ext w2 W∧Strs w8.heap.size W v9 Ls∧Blk W b7 (g.2.1.map (Value.int .i64)) 3) (fun g=>n-g.1) ((0,out,false)) ⟨rfl,rfl,rfl,rfl,rfl,rfl,trivial⟩ ⟨Nat.zero_le _,hol,oI.start _ _ _ _,Oj,CG,xq⟩ ?_
  rintro ⟨i,o,f⟩ w11 ⟨hi,ho,hsk,yY,QZ,nR⟩
  simp only at hi ho hsk nR
  refine T.seq (T.q (L.m rfl (L.m rfl (L.o (O.len runUnderlying30 rfl (Sl.val (Sl.ay (n:=n) (sz:=1) (lo:=0) nR (by simp;omega) (Nat.le_refl n) (by simp only [maxLen];omega) (Nat.zero_le _))) (L.o (O.aV rfl rfl (fun hlt2=>?_) (fun hlt2=>?_))))))))
  ·refine L.nil (?_)
   have Zk:i<n:=by simp only at hlt2;omega
   refine T.ct (T.skip (T.seq (T.block (T.q (L.a rfl (L.nil (T.block (?_))))))))
   refine T.loop (σ:=Nat × List Int × Bool) (fun g=>[(2,.pointer (some ⟨b2,0,none⟩)),(7,.slice (some ⟨b7,0,none⟩) n n),(9,v9),(10,.int .i64 k),(12,.bool g.2.2),(13,.int .i64 i),(14,.int .i64 g.1)]) (fun g W=>g.1≤8∧g.2.1.length=n∧oI (nmA r.us) n out l i g.1 g.2.1 g.2.2∧Ext w2 W∧Strs w8.heap.size W v9 Ls∧Blk W b7 (g.2.1.map (Value.int .i64)) 3) (fun g=>8-g.1) ((0,o,f)) ⟨rfl,rfl,rfl,rfl,rfl,rfl,rfl,trivial⟩ ⟨Nat.zero_le _,ho,hsk,yY,QZ,nR⟩ ?_
   rintro ⟨d,o2,f2⟩ w12 ⟨hd,ho2,Zl,Ez,sJ,xg⟩
   simp only at hd ho2 Zl xg
   refine T.seq (T.q (L.m rfl (L.o (O.aV rfl rfl (fun hlt3=>?_) (fun hlt3=>?_)))))
   ·refine L.nil (?_)
    have hd8:d<8:=by simp only at hlt3;omega
    have hir:i<r.us.length:=by omega
    have Yb:Units lo w12 r.uv r.us:=hr.ext (he2.trans Ez)
    have acR:Blk w12 b2 r.cells _:=Blk.ext (cs:=r.cells) hC2 Ez
    have WC:=wF xg ho2 (show n≤1000 by omega)
    have hnl:=(xY hok hir).2.1
    have hit:=Lib.itoa_length_le ((d:Int)+1) (by omega) (by omega)
    have hcell2:=sJ.at hlt'
    rw [hl] at hcell2
    rcases Classical.em (Hit (nmA r.us) l i d) with hhit|hhit
    ·rcases Classical.em (o2.getD i 0<0) with hneg|hneg
     ·refine T.ct (T.skip (T.seq (T.block (T.seq (?_)))))
      refine T.dL mixed 19 [9,10,2,13,14,7] rfl [.is _,.is _,.is _,.is _,.is _,.is _,.is _,.is _,.is _,.is _,.is _,.is _,.is _,.is (str (Lib.itoa ((d:Int)+1))),.is _,.is _,.is _,.is _,.is _] [[],[],[0,1],[2],[],[4],[],[5,6],[7],[8],[9],[],[11],[12],[10,13],[3,14],[15],[16],[16]] [[],[],[0,1],[0,1,2],[],[4],[],[4,5,6],[4,5,6,7],[4,5,6,7,8],[4,5,6,7,8,9],[],[11],[11,12],[4,5,6,7,8,9,10,11,12,13],[0,1,2,3,4,5,6,7,8,9,10,11,12,13,14],[0,1,2,3,4,5,6,7,8,9,10,11,12,13,14,15],[0,1,2,3,4,5,6,7,8,9,10,11,12,13,14,15,16],[0,1,2,3,4,5,6,7,8,9,10,11,12,13,14,15,16],[0,1,2,3,4,5,6,7,8,9,10,11,12,13,14,15,16,17,18],[0,1,2,3,4,5,6,7,8,9,10,11,12,13,14,15,16,17,18,19],[0,1,2,3,4,5,6,7,8,9,10,11,12,13,14,15,16,17,18,19,20],[0,1,2,3,4,5,6,7,8,9,10,11,12,13,14,15,16,17,18,19,20,21]] (by kernel_rfl) (by kernel_rfl) rfl (by kernel_rfl) trivial ⟨fun wx hx=>Ob.o (O.move rfl kR),
        fun wx hx=>Ob.o (O.move rfl kR),
        fun wx hx=>Ob.o (O.indexAddr runUnderlying61 sizeOf9 rfl rfl (Strs.ext sJ hx) (by omega) (by omega) kR),
        fun wx hx=>Ob.o (O.load isAgg9 rfl (yg hcell2 hx) kR),
        fun wx hx=>Ob.o (O.fieldAddr runUnderlying25 rfl sizeOf23 rfl kR),
        fun wx hx=>Ob.o (O.load isAgg23 rfl ((Blk.ext (cs:=r.cells) acR hx).cell rfl) kR),
        fun wx hx=>Ob.o (O.move rfl kR),
        fun wx hx=>Ob.o (O.indexAddr runUnderlying23 sizeOf51 rfl rfl ((Yb.ext hx).sl) (by omega) (by omega) kR),
        fun wx hx=>Ob.o (O.fieldAddr runUnderlying51 rfl sizeOf9 rfl kR),
        fun wx hx=>Ob.o (O.load isAgg9 rfl ((Yb.ext hx).name hir) kR),
        fun wx hx=>Ob.o (O.bQ rfl rfl (by show (r.us.getD i u0).nm.length+1≤_;unfold nmA at hnl;omega) kR),
        fun wx hx=>Ob.o (O.move rfl kR),
        fun wx hx=>Ob.o (O.aC rfl rfl (by show -9223372036854775808≤(d:Int)+1∧(d:Int)+1≤9223372036854775807;omega) kR),
        fun wx hx=>Ob.o (O.call (xs:=[.tmp 93]) call96 rfl rfl (qX ((d:Int)+1) wx (by omega) (by omega)) (fun v wy h=>⟨h.2,h.1⟩)),
        fun wx hx=>Ob.o (O.bQ rfl rfl (by rw [List.length_append];show (r.us.getD i u0).nm.length+1+_≤_;unfold nmA at hnl;omega) kR),
        fun wx hx=>Ob.o (O.aY runUnderlying9 rfl rfl hhit kR),
        fun wx hx=>Ob.o (O.move rfl kR),
        fun wx hx=>Ob.o (O.move rfl kR),
        fun wx hx=>Ob.o (O.move rfl kR),
        trivial⟩ (fun w24 uG=>?_)
      refine L.o (O.indexAddr runUnderlying30 sizeOf3 rfl rfl (WC.ext uG) (by omega) (by omega) (L.o (O.load isAgg3 rfl (Ints.at (WC.ext uG) (show i<o2.length by omega)) (L.o (O.G8 rfl rfl hneg (L.o (O.aj rfl rfl (L.nil (T.ct (T.q (L.m rfl (L.m rfl (L.m rfl (L.o (O.indexAddr runUnderlying30 sizeOf3 rfl rfl (WC.ext uG) (by omega) (by omega) (L.o (O.bf sizeOf3 rfl rfl rfl (Blk.ext xg uG) (by simp;omega) (fun w25 EG yZ=>?_))))))))))))))))))
      rw [show 0+(i:Int).toNat*1=i by omega,← List.map_set] at yZ
      refine L.nil (T.region (L.a rfl (L.nil (T.blk (T.region (L.m rfl (L.o (O.aC rfl rfl (by (try dsimp only);omega) (L.a rfl (L.nil (T.again ((d+1,o2.set i (d:Int),true)) (show 8-(d+1)<8-d by omega) ⟨rfl,rfl,rfl,rfl,rfl,rfl,rfl,trivial⟩ ⟨hd8,by simpa using ho2,Zl.yes hN Zk hd8 hhit hneg,(Ez.trans uG).upd EG (.inr (by omega)),Sl.acQ (Strs.ext sJ uG) EG hb7,yZ⟩)))))))))))
     refine T.ct (T.skip (T.seq (T.block (T.seq (?_)))))
     refine T.dL mixed 19 [9,10,2,13,14,7] rfl [.is _,.is _,.is _,.is _,.is _,.is _,.is _,.is _,.is _,.is _,.is _,.is _,.is _,.is (str (Lib.itoa ((d:Int)+1))),.is _,.is _,.is _,.is _,.is _] [[],[],[0,1],[2],[],[4],[],[5,6],[7],[8],[9],[],[11],[12],[10,13],[3,14],[15],[16],[16]] [[],[],[0,1],[0,1,2],[],[4],[],[4,5,6],[4,5,6,7],[4,5,6,7,8],[4,5,6,7,8,9],[],[11],[11,12],[4,5,6,7,8,9,10,11,12,13],[0,1,2,3,4,5,6,7,8,9,10,11,12,13,14],[0,1,2,3,4,5,6,7,8,9,10,11,12,13,14,15],[0,1,2,3,4,5,6,7,8,9,10,11,12,13,14,15,16],[0,1,2,3,4,5,6,7,8,9,10,11,12,13,14,15,16],[0,1,2,3,4,5,6,7,8,9,10,11,12,13,14,15,16,17,18],[0,1,2,3,4,5,6,7,8,9,10,11,12,13,14,15,16,17,18,19],[0,1,2,3,4,5,6,7,8,9,10,11,12,13,14,15,16,17,18,19,20],[0,1,2,3,4,5,6,7,8,9,10,11,12,13,14,15,16,17,18,19,20,21]] (by kernel_rfl) (by kernel_rfl) rfl (by kernel_rfl) trivial ⟨fun wx hx=>Ob.o (O.move rfl kR),
       fun wx hx=>Ob.o (O.move rfl kR),
       fun wx hx=>Ob.o (O.indexAddr runUnderlying61 sizeOf9 rfl rfl (Strs.ext sJ hx) (by omega) (by omega) kR),
       fun wx hx=>Ob.o (O.load isAgg9 rfl (yg hcell2 hx) kR),
       fun wx hx=>Ob.o (O.fieldAddr runUnderlying25 rfl sizeOf23 rfl kR),
       fun wx hx=>Ob.o (O.load isAgg23 rfl ((Blk.ext (cs:=r.cells) acR hx).cell rfl) kR),
       fun wx hx=>Ob.o (O.move rfl kR),
       fun wx hx=>Ob.o (O.indexAddr runUnderlying23 sizeOf51 rfl rfl ((Yb.ext hx).sl) (by omega) (by omega) kR),
       fun wx hx=>Ob.o (O.fieldAddr runUnderlying51 rfl sizeOf9 rfl kR),
       fun wx hx=>Ob.o (O.load isAgg9 rfl ((Yb.ext hx).name hir) kR),
       fun wx hx=>Ob.o (O.bQ rfl rfl (by show (r.us.getD i u0).nm.length+1≤_;unfold nmA at hnl;omega) kR),
       fun wx hx=>Ob.o (O.move rfl kR),
       fun wx hx=>Ob.o (O.aC rfl rfl (by show -9223372036854775808≤(d:Int)+1∧(d:Int)+1≤9223372036854775807;omega) kR),
       fun wx hx=>Ob.o (O.call (xs:=[.tmp 93]) call96 rfl rfl (qX ((d:Int)+1) wx (by omega) (by omega)) (fun v wy h=>⟨h.2,h.1⟩)),
       fun wx hx=>Ob.o (O.bQ rfl rfl (by rw [List.length_append];show (r.us.getD i u0).nm.length+1+_≤_;unfold nmA at hnl;omega) kR),
       fun wx hx=>Ob.o (O.aY runUnderlying9 rfl rfl hhit kR),
       fun wx hx=>Ob.o (O.move rfl kR),
       fun wx hx=>Ob.o (O.move rfl kR),
       fun wx hx=>Ob.o (O.move rfl kR),
       trivial⟩ (fun w24 uG=>?_)
     refine L.o (O.indexAddr runUnderlying30 sizeOf3 rfl rfl (WC.ext uG) (by omega) (by omega) (L.o (O.load isAgg3 rfl (Ints.at (WC.ext uG) (show i<o2.length by omega)) (L.o (O.oQ rfl rfl hneg (L.o (O.aj rfl rfl (L.nil (T.cf (T.skip (T.blk (T.region (L.m rfl (L.o (O.aC rfl rfl (by (try dsimp only);omega) (L.a rfl (L.nil (T.again ((d+1,o2,f2)) (show 8-(d+1)<8-d by omega) ⟨rfl,rfl,rfl,rfl,rfl,rfl,rfl,trivial⟩ ⟨hd8,ho2,Zl.no (fun h=>hneg h.2),Ez.trans uG,Strs.ext sJ uG,Blk.ext xg uG⟩))))))))))))))))))
    refine T.ct (T.skip (T.seq (T.block (T.seq (?_)))))
    refine T.dL mixed 19 [9,10,2,13,14,7] rfl [.is _,.is _,.is _,.is _,.is _,.is _,.is _,.is _,.is _,.is _,.is _,.is _,.is _,.is (str (Lib.itoa ((d:Int)+1))),.is _,.is _,.is _,.is undef,.is undef] [[],[],[0,1],[2],[],[4],[],[5,6],[7],[8],[9],[],[11],[12],[10,13],[3,14],[15],[16],[16]] [[],[],[0,1],[0,1,2],[],[4],[],[4,5,6],[4,5,6,7],[4,5,6,7,8],[4,5,6,7,8,9],[],[11],[11,12],[4,5,6,7,8,9,10,11,12,13],[0,1,2,3,4,5,6,7,8,9,10,11,12,13,14],[0,1,2,3,4,5,6,7,8,9,10,11,12,13,14,15],[0,1,2,3,4,5,6,7,8,9,10,11,12,13,14,15,16],[0,1,2,3,4,5,6,7,8,9,10,11,12,13,14,15,16],[0,1,2,3,4,5,6,7,8,9,10,11,12,13,14,15,16,17,18],[0,1,2,3,4,5,6,7,8,9,10,11,12,13,14,15,16,17,18,19],[0,1,2,3,4,5,6,7,8,9,10,11,12,13,14,15,16,17,18,19,20],[0,1,2,3,4,5,6,7,8,9,10,11,12,13,14,15,16,17,18,19,20,21]] (by kernel_rfl) (by kernel_rfl) rfl (by kernel_rfl) trivial ⟨fun wx hx=>Ob.o (O.move rfl kR),
      fun wx hx=>Ob.o (O.move rfl kR),
      fun wx hx=>Ob.o (O.indexAddr runUnderlying61 sizeOf9 rfl rfl (Strs.ext sJ hx) (by omega) (by omega) kR),
      fun wx hx=>Ob.o (O.load isAgg9 rfl (yg hcell2 hx) kR),
      fun wx hx=>Ob.o (O.fieldAddr runUnderlying25 rfl sizeOf23 rfl kR),
      fun wx hx=>Ob.o (O.load isAgg23 rfl ((Blk.ext (cs:=r.cells) acR hx).cell rfl) kR),
      fun wx hx=>Ob.o (O.move rfl kR),
      fun wx hx=>Ob.o (O.indexAddr runUnderlying23 sizeOf51 rfl rfl ((Yb.ext hx).sl) (by omega) (by omega) kR),
      fun wx hx=>Ob.o (O.fieldAddr runUnderlying51 rfl sizeOf9 rfl kR),
      fun wx hx=>Ob.o (O.load isAgg9 rfl ((Yb.ext hx).name hir) kR),
      fun wx hx=>Ob.o (O.bQ rfl rfl (by show (r.us.getD i u0).nm.length+1≤_;unfold nmA at hnl;omega) kR),
      fun wx hx=>Ob.o (O.move rfl kR),
      fun wx hx=>Ob.o (O.aC rfl rfl (by show -9223372036854775808≤(d:Int)+1∧(d:Int)+1≤9223372036854775807;omega) kR),
      fun wx hx=>Ob.o (O.call (xs:=[.tmp 93]) call96 rfl rfl (qX ((d:Int)+1) wx (by omega) (by omega)) (fun v wy h=>⟨h.2,h.1⟩)),
      fun wx hx=>Ob.o (O.bQ rfl rfl (by rw [List.length_append];show (r.us.getD i u0).nm.length+1+_≤_;unfold nmA at hnl;omega) kR),
      fun wx hx=>Ob.o (O.aA runUnderlying9 rfl rfl hhit kR),
      fun wx hx=>Ob.o (O.move rfl kR),
      fun wx hx=>Ob.pass rfl rfl,
      fun wx hx=>Ob.pass rfl rfl,
      trivial⟩ (fun w24 uG=>?_)
    refine L.p (L.p (L.p (L.o (O.ah rfl rfl (L.nil (T.cf (T.skip (T.blk (T.region (L.m rfl (L.o (O.aC rfl rfl (by (try dsimp only);omega) (L.a rfl (L.nil (T.again ((d+1,o2,f2)) (show 8-(d+1)<8-d by omega) ⟨rfl,rfl,rfl,rfl,rfl,rfl,rfl,trivial⟩ ⟨hd8,ho2,Zl.no (fun h=>hhit h.1),Ez.trans uG,Strs.ext sJ uG,Blk.ext xg uG⟩)))))))))))))))
   refine L.nil (?_)
   have e:d=8:=by simp only at hlt3;omega
   subst e
   refine T.cf (T.exit rfl (T.blk (T.region (L.m rfl (L.o (O.aC rfl rfl (by (try dsimp only);omega) (L.a rfl (L.nil (T.again ((i+1,o2,f2)) (show n-(i+1)<n-i by omega) ⟨rfl,rfl,rfl,rfl,rfl,rfl,trivial⟩ ⟨Zk,ho2,Zl.next,Ez,sJ,xg⟩)))))))))
  refine L.nil (?_)
  have e:n=i:=by simp only at hlt2;omega
  subst e
  rcases hsk.fin hN with ⟨hf,hs⟩|⟨hf,hs⟩
  ·subst hf
   rw [hs] at hrun
   simp only at hrun
   rw [hrun] at hres
   simp only at hres
   refine T.cf (T.exit rfl (T.q (L.m rfl (L.o (O.not rfl (L.nil (T.ct (T.q (L.m rfl (L.o (O.aC rfl rfl (by (try dsimp only);omega) (L.a rfl (L.a rfl (L.a rfl (L.nil (T.vK results97 rfl rfl rfl ⟨.slice none 0 0,0,by rw [hres];rfl,by rw [hres];exact Sl.nil _ _ _,he2.trans yY,by rw [hres];intro h;cases h⟩))))))))))))))))
  subst hf
  rw [hs] at hrun
  simp only at hrun
  refine T.cf (T.exit rfl (T.q (L.m rfl (L.o (O.not rfl (L.nil (T.cf (T.skip (T.blk (T.region (L.m rfl (L.o (O.aC rfl rfl (by (try dsimp only);omega) (L.a rfl (L.nil (T.again ((k+1,o)) (show Ls.length-(k+1)<Ls.length-k by omega) ⟨rfl,rfl,rfl,rfl,trivial⟩ ⟨hlt',ho,yY,QZ,nR,hrun⟩))))))))))))))))
 refine L.nil (?_)
 have e:k=Ls.length:=by simp only at hlt;omega
 rw [e,List.drop_length,tJ] at hrun
 rw [hrun] at hres
 simp only at hres
 refine T.cf (T.exit rfl (T.q (L.m rfl (L.a rfl (L.a rfl (L.a rfl (L.nil (T.vK results97 rfl rfl rfl ⟨.slice (some ⟨b7,0,none⟩) n n,b7,by rw [hres];rfl,by rw [hres];exact wF xq hol (by omega),he2.trans Oj,fun _=>by rw [hres];exact ⟨by simp only;rw [hol],by omega,xq⟩⟩))))))))
open Go Go.E RowKit
theorem IW (nm:Nat→Str) (xs:List Int) (i:Nat):aO (eP nm xs (i+1))=aO (eP nm xs i)++nm i ++ [44]++Lib.itoa (xs.getD i 0+1) ++ [10]:=by
 rw [xZ,l9,lV]
 simp only [List.append_assoc]
theorem FT (nm:Nat→Str) (xs:List Int):aO (eP nm xs 0) = [117,110,105,116,44,100,105,115,116,114,105,99,116,10]:=by simp [eP,aO,FI]
def tK (nm:Nat→Str) (n:Nat) (t:Str):List Int × Nat × Int :=
 if (aP nm n t).2.2≠0 then ([],(aP nm n t).2.1,(aP nm n t).2.2) else if (aP nm n t).1.any (fun d=>decide (d<0))=true then ([],0,4) else ((aP nm n t).1,0,0)
noncomputable def fJ (r:RoV) (t:Str):List Int × Nat × Int :=
 @ite _ (bD r) (Classical.propDecidable _) (tK (nmA r.us) (aB r.us) t) ([],0,161)
theorem uT {r:RoV} {t:Str} (h:¬ bD r):fJ r t=([],0,161):=by unfold fJ;exact if_neg h
theorem lG {r:RoV} {t:Str} (h:bD r):fJ r t=tK (nmA r.us) (aB r.us) t:=by unfold fJ;exact if_pos h
def gG (out xs:List Int) (i:Nat):List Int:=(List.range out.length).map fun j=>if j<i∧out.getD j 0<0 then xs.getD j 0 else out.getD j 0
theorem bY (out xs:List Int) (i:Nat):(gG out xs i).length=out.length:=by simp [gG]
theorem dQ {out xs:List Int} {i j:Nat} (hj:j<out.length):(gG out xs i).getD j 0=if j<i∧out.getD j 0<0 then xs.getD j 0 else out.getD j 0:=by
 simp [gG,List.getD,hj]
theorem og {a b:List Int} (hl:a.length=b.length) (h:∀ j,j<a.length→a.getD j 0=b.getD j 0):a=b:=by
 refine List.ext_getElem hl fun j h1 h2=>?_
 have:=h j h1
 rwa [au h1,au h2] at this
theorem LZ (out xs:List Int):gG out xs 0=out:=og (bY _ _ _) fun j hj=>by
 rw [bY] at hj
 rw [dQ hj,if_neg (by omega)]
theorem wG {l:List Int} {i j:Nat} {x:Int} (hi:i<l.length):(l.set i x).getD j 0=if i=j then x else l.getD j 0:=by
 rw [List.getD_eq_getElem?_getD,List.getElem?_set]
 by_cases h:i=j
 ·subst h;simp [hi]
 simp [h]
theorem Pm {out xs:List Int} {i:Nat} (hi:i<out.length) (h:out.getD i 0<0):(gG out xs i).set i (xs.getD i 0)=gG out xs (i+1):=og (by simp [gG]) fun j hj=>by
 rw [List.length_set,bY] at hj
 rw [wG (by rw [bY];exact hi),dQ hj,dQ hj]
 by_cases e:i=j
 ·subst e;rw [if_pos rfl,if_pos ⟨by omega,h⟩]
 rw [if_neg e]
 by_cases h1:j<i∧out.getD j 0<0
 ·rw [if_pos h1,if_pos ⟨by omega,h1.2⟩]
 rw [if_neg h1,if_neg (fun k=>h1 ⟨by omega,k.2⟩)]
theorem TG {out xs:List Int} {i:Nat} (hi:i<out.length) (h:¬ out.getD i 0<0):gG out xs i=gG out xs (i+1):=og (by simp [gG]) fun j hj=>by
 rw [bY] at hj
 rw [dQ hj,dQ hj]
 by_cases h1:j<i∧out.getD j 0<0
 ·rw [if_pos h1,if_pos ⟨by omega,h1.2⟩]
 rw [if_neg h1,if_neg (fun k=>h1 ⟨by by_cases e:j=i;(subst e;exact absurd k.2 h);omega,k.2⟩)]
noncomputable def fK (r:RoV) (xs:List Int) (t:Str):List Int × Nat × Int :=
 @ite _ (bD r) (Classical.propDecidable _) (if iH xs (aB r.us)=true then
  (if (aP (nmA r.us) (aB r.us) t).2.2≠0 then ([],(aP (nmA r.us) (aB r.us) t).2.1,(aP (nmA r.us) (aB r.us) t).2.2) else (gG (aP (nmA r.us) (aB r.us) t).1 xs (aP (nmA r.us) (aB r.us) t).1.length,0,0)) else ([],0,2)) ([],0,161)
theorem uU {r:RoV} {xs:List Int} {t:Str} (h:¬ bD r):fK r xs t=([],0,161):=by unfold fK;exact if_neg h
theorem lI {r:RoV} {xs:List Int} {t:Str} (h:bD r):fK r xs t=if iH xs (aB r.us)=true then
  (if (aP (nmA r.us) (aB r.us) t).2.2≠0 then ([],(aP (nmA r.us) (aB r.us) t).2.1,(aP (nmA r.us) (aB r.us) t).2.2) else (gG (aP (nmA r.us) (aB r.us) t).1 xs (aP (nmA r.us) (aB r.us) t).1.length,0,0)) else ([],0,2):=by unfold fK;exact if_pos h
theorem Dp {nm:Nat→Str} {n:Nat} : ∀ (Ls:List Str) (k:Nat) (out o:List Int),tJ nm n Ls k out = .inl o→o.length=out.length
 | [],k,out,o,h=>by rw [tJ] at h;cases h;rfl
 | l::r,k,out,o,h=>by
  rw [tJ] at h
  split at h
  ·cases h;rfl
  split at h
  ·cases h
  split at h
  ·exact Dp r 1 out o h
  split at h
  ·cases h
  rename_i o' ho
  rw [Dp r (k+1) o' o h,Ph ho]
theorem wH {nm:Nat→Str} {n:Nat} {t:Str} (h:(aP nm n t).2.2=0):(aP nm n t).1.length=n:=by
 unfold aP at h ⊢
 by_cases hb:40000<t.length
 ·rw [if_pos hb] at h;cases h
 rw [if_neg hb] at h ⊢
 cases hr:tJ nm n (aK 10 t) 0 (List.replicate n (-1)) with
 | inl o=>simpa using Dp _ _ _ _ hr
 | inr m=>rw [hr] at h;cases h
theorem IX {xs:List Int} {i:Nat} (hi:i<xs.length) (h:xs.getD i 0<0):xs.any (fun d=>decide (d<0))=true:=List.any_eq_true.2 ⟨_,List.getElem_mem hi,by rw [au hi] at h;simpa using h⟩
theorem Zm {xs:List Int} (h:∀ i,i<xs.length→¬ xs.getD i 0<0):¬ xs.any (fun d=>decide (d<0))=true:=fun ha=>by
 obtain ⟨x,hx,hd⟩:=List.any_eq_true.1 ha
 obtain ⟨i,hi,rfl⟩:=List.getElem_of_mem hx
 exact h i hi (by rw [au hi];simpa using hd)
theorem Dq (lo:Nat) (r:RoV) (p:Value) (xs:List Int) (w:World) (hr:r.ok lo w) (hp:Ints .i64 0 w p xs) :
  Calls Tryz.prog 42 #[r.val,p] w (Ret fun v w'=>v = .tuple #[str (mX r xs).1,.int .i64 (mX r xs).2]∧Ext w w'):=by
 refine T.enter (vs:=[r.val,p]) func42 rfl ntmps42 rfl ?_
 refine T.q (L.o (O.box rfl (fun b2 w2 hb2 hz2 he2 hB2=>?_)))
 have hC2:Blk w2 b2 r.cells _:=hB2
 refine L.a rfl (L.a rfl (L.nil (T.seq (T.q (L.o (O.ak isAgg25 sizeOf25 rfl rfl hC2.row (L.o (O.call (xs:=[.tmp 9]) call33 rfl rfl (iZ lo r w2 (hr.ext he2)) (fun v3 w3 hq=>?_)))))))))
 obtain ⟨rfl,he3⟩:=hq
 have gV:=he2.trans he3
 rcases kC r with ⟨herr,hok,hln⟩|⟨herr,hok⟩
 ·rw [herr]
  refine L.a rfl (L.nil (T.q (L.m rfl (L.o (O.jD rfl rfl rfl (L.nil (T.cf (T.skip (T.seq (T.q (L.o (O.ak isAgg25 sizeOf25 rfl rfl ((Blk.ext (cs:=r.cells) hC2 he3).row) (L.m rfl (L.o (O.call (xs:=[.tmp 14,.tmp 15]) call95 rfl rfl (yc lo r p xs w3 (hr.ext gV) (hp.ext gV)) (fun v4 w4 hq=>?_))))))))))))))))
  obtain ⟨hv4,he4⟩:=hq
  have jV:=gV.trans he4
  have hle:=jv r.us
  have h64:=(BZ herr).2.2.2.2.2.2.2
  cases hfit:iH xs (aB r.us)
  ·rw [hfit] at hv4
   subst hv4
   refine L.o (O.not rfl (L.nil (T.ct (T.q (L.a rfl (L.a rfl (L.nil (T.yX results42 rfl rfl ⟨by rw [ku hok,if_neg (by rw [hfit];simp)];rfl,jV⟩))))))))
  rw [hfit] at hv4
  subst hv4
  obtain ⟨hlen,hxs⟩:=pF hfit
  refine L.o (O.not rfl (L.nil (T.cf (T.skip (T.q (L.a rfl (L.nil (T.seq (T.q (L.a rfl (L.nil (T.block (?_)))))))))))))
  refine T.loop (σ:=Nat) (fun i=>[(1,p),(2,.pointer (some ⟨b2,0,none⟩)),(7,str (aO (eP (nmA r.us) xs i))),(8,.int .i64 i)]) (fun i W=>i≤xs.length∧Ext w W∧Ext w2 W) (fun i=>xs.length-i) (0) ⟨rfl,rfl,?_,rfl,trivial⟩ ⟨Nat.zero_le _,jV,he3.trans he4⟩ ?_
  ·exact congrArg (fun z=>some (str z)) (FT (nmA r.us) xs).symm
  rintro i w6 ⟨hi,he6,Ri⟩
  refine T.seq (T.q (L.m rfl (L.m rfl (L.o (O.len runUnderlying31 rfl (Sl.val (hp.ext he6)) (L.o (O.aV rfl rfl (fun hlt=>?_) (fun hlt=>?_))))))))
  ·refine L.nil (?_)
   have hlt':i<xs.length:=by omega
   have hir:i<r.us.length:=by omega
   have hC6:Blk w6 b2 r.cells _:=Blk.ext (cs:=r.cells) hC2 Ri
   have hxi:=hxs i hlt'
   have hU6:Units lo w6 r.uv r.us:=hr.ext he6
   have hnl:=(xY hok hir).2.1
   have hjl:=FM hok (n:=i) (by omega) (by omega) (fun k hk=>hxs k (by omega))
   have hit:=Lib.itoa_length_le (xs.getD i 0+1) (by omega) (by omega)
   refine T.ct (T.skip (T.seq (T.block (?_))))
   refine T.dL mixed 15 [7,2,8,1] rfl [.is _,.is _,.is _,.is _,.is _,.is _,.is _,.is _,.is _,.is _,.is _,.is _,.is _,.is _,.is (str (Lib.itoa (xs.getD i 0+1)))] [[],[],[1],[],[2,3],[4],[5],[0,6],[7],[],[],[9,10],[11],[12],[13]] [[],[],[1],[],[1,2,3],[1,2,3,4],[1,2,3,4,5],[0,1,2,3,4,5,6],[0,1,2,3,4,5,6,7],[],[],[9,10],[9,10,11],[9,10,11,12],[9,10,11,12,13],[0,1,2,3,4,5,6,7,8,9,10,11,12,13,14],[0,1,2,3,4,5,6,7,8,9,10,11,12,13,14,15],[0,1,2,3,4,5,6,7,8,9,10,11,12,13,14,15,16]] (by kernel_rfl) (by kernel_rfl) rfl (by kernel_rfl) trivial ⟨fun wx hx=>Ob.o (O.move rfl kR),
     fun wx hx=>Ob.o (O.fieldAddr runUnderlying25 rfl sizeOf23 rfl kR),
     fun wx hx=>Ob.o (O.load isAgg23 rfl ((Blk.ext (cs:=r.cells) hC6 hx).cell rfl) kR),
     fun wx hx=>Ob.o (O.move rfl kR),
     fun wx hx=>Ob.o (O.indexAddr runUnderlying23 sizeOf51 rfl rfl ((hU6.ext hx).sl) (by omega) (by omega) kR),
     fun wx hx=>Ob.o (O.fieldAddr runUnderlying51 rfl sizeOf9 rfl kR),
     fun wx hx=>Ob.o (O.load isAgg9 rfl ((hU6.ext hx).name hir) kR),
     fun wx hx=>Ob.o (O.bQ rfl rfl (by show (aO (eP (nmA r.us) xs i)).length+(r.us.getD i u0).nm.length≤_;unfold nmA at hnl hjl ⊢;omega) kR),
     fun wx hx=>Ob.o (O.bQ rfl rfl (by rw [List.length_append];show (aO (eP (nmA r.us) xs i)).length+(r.us.getD i u0).nm.length+1≤_;unfold nmA at hnl hjl ⊢;omega) kR),
     fun wx hx=>Ob.o (O.move rfl kR),
     fun wx hx=>Ob.o (O.move rfl kR),
     fun wx hx=>Ob.o (O.indexAddr runUnderlying31 sizeOf3 rfl rfl (hp.ext (he6.trans hx)) (by omega) (by omega) kR),
     fun wx hx=>Ob.o (O.load isAgg3 rfl (Ints.at (hp.ext (he6.trans hx)) hlt') kR),
     fun wx hx=>Ob.o (O.aC rfl rfl (by show -9223372036854775808≤xs.getD i 0+1∧xs.getD i 0+1≤9223372036854775807;omega) kR),
     fun wx hx=>Ob.o (O.call (xs:=[.tmp 37]) call96 rfl rfl (qX (xs.getD i 0+1) wx (by omega) (by omega)) (fun v wy h=>⟨h.2,h.1⟩)),
     trivial⟩ (fun w10 fZ=>?_)
   refine L.o (O.bQ rfl rfl (by rw [List.length_append,List.length_append];show (aO (eP (nmA r.us) xs i)).length+(r.us.getD i u0).nm.length+1+_≤_;unfold nmA at hnl hjl ⊢;omega) (L.o (O.bQ rfl rfl (by rw [List.length_append,List.length_append,List.length_append];show (aO (eP (nmA r.us) xs i)).length+(r.us.getD i u0).nm.length+1+_+1≤_;unfold nmA at hnl hjl ⊢;omega) (L.a rfl (L.nil (T.blk (T.region (L.m rfl (L.o (O.aC rfl rfl (by omega) (L.a rfl (L.nil (T.again (i+1) (by omega) ⟨rfl,rfl,?_,rfl,trivial⟩ ⟨hlt',he6.trans fZ,Ri.trans fZ⟩)))))))))))))
   ·exact congrArg (fun z=>some (str z)) (IW (nmA r.us) xs i).symm
  refine L.nil (?_)
  obtain rfl:i=xs.length:=by omega
  refine T.cf (T.exit rfl (T.q (L.m rfl (L.a rfl (L.a rfl (L.nil (T.yX results42 rfl rfl ⟨by rw [ku hok,if_pos hfit],he6⟩)))))))
 rw [herr]
 refine L.a rfl (L.nil (T.q (L.m rfl (L.o (O.Bz rfl rfl (by omega) (L.nil (T.ct (T.q (L.m rfl (L.a rfl (L.a rfl (L.nil (T.yX results42 rfl rfl ⟨by rw [nX hok];rfl,gV⟩)))))))))))))
theorem IY (lo:Nat) (r:RoV) (t:Str) (w:World) (hr:r.ok lo w) (ht:t.length≤1000000) :
  Calls Tryz.prog 44 #[r.val,str t] w (Ret fun v w'=>∃ pv,v = .tuple #[pv,.int .i64 ((fJ r t).2.1:Int),.int .i64 (fJ r t).2.2]∧Ints .i64 0 w' pv (fJ r t).1∧Ext w w'):=by
 refine T.enter (vs:=[r.val,str t]) func44 rfl ntmps44 rfl ?_
 refine T.q (L.o (O.box rfl (fun b2 w2 hb2 hz2 he2 hB2=>?_)))
 have hC2:Blk w2 b2 r.cells _:=hB2
 refine L.a rfl (L.a rfl (L.a rfl (L.nil (T.seq (T.q (L.o (O.ak isAgg25 sizeOf25 rfl rfl hC2.row (L.o (O.call (xs:=[.tmp 12]) call33 rfl rfl (iZ lo r w2 (hr.ext he2)) (fun v3 w3 hq=>?_))))))))))
 obtain ⟨rfl,he3⟩:=hq
 have gV:=he2.trans he3
 rcases kC r with ⟨herr,hok,hln⟩|⟨herr,hok⟩
 ·rw [herr]
  refine L.a rfl (L.nil (T.q (L.m rfl (L.o (O.jD rfl rfl rfl (L.nil (T.cf (T.skip (T.q (L.o (O.ak isAgg25 sizeOf25 rfl rfl ((Blk.ext (cs:=r.cells) hC2 he3).row) (L.m rfl (L.o (O.call (xs:=[.tmp 18,.tmp 19]) call97 rfl rfl (Aw lo r t w3 (hr.ext gV) hok ht) (fun v4 w4 hq=>?_)))))))))))))))
  obtain ⟨pv,b,rfl,hpv,he4,_⟩:=hq
  have jV:=gV.trans he4
  refine L.m rfl (L.o (O.extract rfl rfl (L.o (O.extract rfl rfl (L.o (O.extract rfl rfl (L.a rfl (L.a rfl (L.a rfl (L.nil (T.seq (T.q (L.m rfl (L.o (O.gK rfl rfl (fun pJ=>?_) (fun pJ=>?_))))))))))))))))
  ·refine L.nil (?_)
   have hr1:fJ r t=([],(aP (nmA r.us) (aB r.us) t).2.1,(aP (nmA r.us) (aB r.us) t).2.2):=by rw [lG hok,tK];exact if_pos pJ
   refine T.ct (T.q (L.m rfl (L.m rfl (L.a rfl (L.a rfl (L.a rfl (L.nil (T.vK results44 rfl rfl rfl ⟨.slice none 0 0,by rw [hr1];rfl,by rw [hr1];exact Sl.nil _ _ _,jV⟩))))))))
  refine L.nil (T.cf (T.skip (T.seq (T.q (L.a rfl (L.nil (T.block (?_))))))))
  refine T.loop (σ:=Nat) (fun i=>[(8,pv),(11,.int .i64 i)]) (fun i W=>i≤(aP (nmA r.us) (aB r.us) t).1.length∧W=w4∧∀ k,k<i→¬ (aP (nmA r.us) (aB r.us) t).1.getD k 0<0) (fun i=>(aP (nmA r.us) (aB r.us) t).1.length-i) (0) ⟨rfl,rfl,trivial⟩ ⟨Nat.zero_le _,rfl,fun k hk=>absurd hk (Nat.not_lt_zero _)⟩ ?_
  rintro i w5 ⟨hi,rfl,hall⟩
  have hle:=Sl.le hpv
  refine T.seq (T.q (L.m rfl (L.m rfl (L.o (O.len runUnderlying30 rfl (Sl.val hpv) (L.o (O.aV rfl rfl (fun hlt=>?_) (fun hlt=>?_))))))))
  ·refine L.nil (?_)
   have hlt':i<(aP (nmA r.us) (aB r.us) t).1.length:=by omega
   refine T.ct (T.skip (T.seq (T.block (T.q (L.m rfl (L.m rfl (L.o (O.indexAddr runUnderlying30 sizeOf3 rfl rfl hpv (by omega) (by omega) (L.o (O.load isAgg3 rfl (Ints.at hpv hlt') (L.o (O.aV rfl rfl (fun hneg=>?_) (fun hneg=>?_)))))))))))))
   ·refine L.nil (?_)
    have hr1:fJ r t=([],0,4):=by rw [lG hok,tK];exact (if_neg (fun h=>h pJ)).trans (if_pos (IX hlt' hneg))
    refine T.ct (T.q (L.a rfl (L.a rfl (L.a rfl (L.nil (T.vK results44 rfl rfl rfl ⟨.slice none 0 0,by rw [hr1];rfl,by rw [hr1];exact Sl.nil _ _ _,jV⟩))))))
   refine L.nil (T.cf (T.skip (T.blk (T.region (L.m rfl (L.o (O.aC rfl rfl (by omega) (L.a rfl (L.nil (T.again (i+1) (by omega) ⟨rfl,rfl,trivial⟩ ⟨hlt',rfl,fun k hk=>by rcases Nat.lt_or_ge k i with h|h;exact hall k h;obtain rfl:k=i:=(by omega);exact hneg⟩))))))))))
  refine L.nil (?_)
  have e:i=(aP (nmA r.us) (aB r.us) t).1.length:=by omega
  have hr1:fJ r t=((aP (nmA r.us) (aB r.us) t).1,0,0):=by rw [lG hok,tK];exact (if_neg (fun h=>h pJ)).trans (if_neg (Zm (fun k hk=>hall k (by omega))))
  refine T.cf (T.exit rfl (T.q (L.m rfl (L.a rfl (L.a rfl (L.a rfl (L.nil (T.vK results44 rfl rfl rfl ⟨pv,by rw [hr1];rfl,by rw [hr1];exact hpv,jV⟩))))))))
 rw [herr]
 refine L.a rfl (L.nil (T.q (L.m rfl (L.o (O.Bz rfl rfl (by omega) (?_))))))
 have hr1:fJ r t=([],0,161):=uT hok
 refine L.nil (T.ct (T.q (L.m rfl (L.a rfl (L.a rfl (L.a rfl (L.nil (T.vK results44 rfl rfl rfl ⟨.slice none 0 0,by rw [hr1];rfl,by rw [hr1];exact Sl.nil _ _ _,gV⟩))))))))
theorem oO (lo:Nat) (r:RoV) (p:Value) (xs:List Int) (t:Str) (w:World) (hr:r.ok lo w) (hp:Ints .i64 0 w p xs) (ht:t.length≤1000000) :
  Calls Tryz.prog 45 #[r.val,p,str t] w (Ret fun v w'=>∃ pv,v = .tuple #[pv,.int .i64 ((fK r xs t).2.1:Int),.int .i64 (fK r xs t).2.2]∧Ints .i64 0 w' pv (fK r xs t).1∧Ext w w'):=by
 refine T.enter (vs:=[r.val,p,str t]) func45 rfl ntmps45 rfl ?_
 refine T.q (L.o (O.box rfl (fun b2 w2 hb2 hz2 he2 hB2=>?_)))
 have hC2:Blk w2 b2 r.cells _:=hB2
 refine L.a rfl (L.a rfl (L.a rfl (L.nil (T.seq (T.q (L.o (O.ak isAgg25 sizeOf25 rfl rfl hC2.row (L.o (O.call (xs:=[.tmp 14]) call33 rfl rfl (iZ lo r w2 (hr.ext he2)) (fun v3 w3 hq=>?_))))))))))
 obtain ⟨rfl,he3⟩:=hq
 have gV:=he2.trans he3
 rcases kC r with ⟨herr,hok,hln⟩|⟨herr,hok⟩
 ·rw [herr]
  refine L.a rfl (L.nil (T.q (L.m rfl (L.o (O.jD rfl rfl rfl (L.nil (T.cf (T.skip (T.seq (T.q (L.o (O.ak isAgg25 sizeOf25 rfl rfl ((Blk.ext (cs:=r.cells) hC2 he3).row) (L.m rfl (L.o (O.call (xs:=[.tmp 19,.tmp 20]) call95 rfl rfl (yc lo r p xs w3 (hr.ext gV) (hp.ext gV)) (fun v4 w4 hq=>?_))))))))))))))))
  obtain ⟨hv4,he4⟩:=hq
  have jV:=gV.trans he4
  cases hfit:iH xs (aB r.us)
  ·rw [hfit] at hv4
   subst hv4
   have hr1:fK r xs t=([],0,2):=by rw [lI hok,if_neg (by rw [hfit];simp)]
   refine L.o (O.not rfl (L.nil (T.ct (T.q (L.a rfl (L.a rfl (L.a rfl (L.nil (T.vK results45 rfl rfl rfl ⟨.slice none 0 0,by rw [hr1];rfl,by rw [hr1];exact Sl.nil _ _ _,jV⟩)))))))))
  rw [hfit] at hv4
  subst hv4
  obtain ⟨hlen,hxs⟩:=pF hfit
  have hpos:=iQ hok
  refine L.o (O.not rfl (L.nil (T.cf (T.skip (T.q (L.o (O.ak isAgg25 sizeOf25 rfl rfl ((Blk.ext (cs:=r.cells) hC2 (he3.trans he4)).row) (L.m rfl (L.o (O.call (xs:=[.tmp 24,.tmp 25]) call97 rfl rfl (Aw lo r t w4 (hr.ext jV) hok ht) (fun v5 w5 hq=>?_)))))))))))
  obtain ⟨pv,b,rfl,hpv,he5,hfin⟩:=hq
  have Lj:=jV.trans he5
  refine L.m rfl (L.o (O.extract rfl rfl (L.o (O.extract rfl rfl (L.o (O.extract rfl rfl (L.a rfl (L.a rfl (L.a rfl (L.nil (T.seq (T.q (L.m rfl (L.o (O.gK rfl rfl (fun pJ=>?_) (fun pJ=>?_))))))))))))))))
  ·refine L.nil (?_)
   have hr1:fK r xs t=([],(aP (nmA r.us) (aB r.us) t).2.1,(aP (nmA r.us) (aB r.us) t).2.2):=by rw [lI hok,if_pos hfit,if_pos pJ]
   refine T.ct (T.q (L.m rfl (L.m rfl (L.a rfl (L.a rfl (L.a rfl (L.nil (T.vK results45 rfl rfl rfl ⟨.slice none 0 0,by rw [hr1];rfl,by rw [hr1];exact Sl.nil _ _ _,Lj⟩))))))))
  refine L.nil (?_)
  obtain ⟨rfl,hbb,hBb⟩:=hfin pJ
  have hol:=wH pJ
  have hr1:fK r xs t=(gG (aP (nmA r.us) (aB r.us) t).1 xs (aP (nmA r.us) (aB r.us) t).1.length,0,0):=by rw [lI hok,if_pos hfit,if_neg (fun h=>h pJ)]
  generalize (aP (nmA r.us) (aB r.us) t).1=out at hBb hol hr1 hpv ⊢
  have agt:=jV.size
  have akq:out.length=aB r.us:=hol
  refine T.cf (T.skip (T.seq (T.q (L.a rfl (L.nil (T.block (?_)))))))
  refine T.loop (σ:=Nat) (fun i=>[(1,p),(10,.slice (some ⟨b,0,none⟩) out.length out.length),(13,.int .i64 i)]) (fun i W=>i≤out.length∧Ext w4 W∧Blk W b ((gG out xs i).map (Value.int .i64)) 3) (fun i=>out.length-i) (0) ⟨rfl,rfl,rfl,trivial⟩ ⟨Nat.zero_le _,he5,by rw [LZ];exact hBb⟩ ?_
  rintro i w6 ⟨hi,he6,hB6⟩
  have hI6:=wF hB6 (bY out xs i) (by omega)
  have hll:=bY out xs i
  refine T.seq (T.q (L.m rfl (L.m rfl (L.o (O.len runUnderlying30 rfl (Sl.val hI6) (L.o (O.aV rfl rfl (fun hlt=>?_) (fun hlt=>?_))))))))
  ·refine L.nil (?_)
   have hlt':i<out.length:=by omega
   refine T.ct (T.skip (T.seq (T.block (T.q (L.m rfl (L.m rfl (L.o (O.indexAddr runUnderlying30 sizeOf3 rfl rfl hI6 (by omega) (by omega) (L.o (O.load isAgg3 rfl (Ints.at hI6 (show i<(gG out xs i).length by rw [bY];exact hlt')) (?_)))))))))))
   have hgi:(gG out xs i).getD i 0=out.getD i 0:=by rw [dQ hlt',if_neg (by omega)]
   rw [hgi]
   refine L.o (O.aV rfl rfl (fun hneg=>?_) (fun hneg=>?_))
   ·refine L.nil (T.ct (T.region (L.m rfl (L.m rfl (L.m rfl (L.m rfl (L.o (O.indexAddr runUnderlying31 sizeOf3 rfl rfl (hp.ext (jV.trans he6)) (by omega) (by omega) (L.o (O.load isAgg3 rfl (Ints.at (hp.ext (jV.trans he6)) (show i<xs.length by omega)) (L.o (O.indexAddr runUnderlying30 sizeOf3 rfl rfl hI6 (by omega) (by omega) (L.o (O.bf sizeOf3 rfl rfl rfl hB6 (by simp [gG];omega) (fun w7 hu7 hB7=>?_)))))))))))))))
    rw [show 0+(i:Int).toNat*1=i by omega,← List.map_set,Pm hlt' hneg] at hB7
    refine L.nil (T.blk (T.region (L.m rfl (L.o (O.aC rfl rfl (by omega) (L.a rfl (L.nil (T.again (i+1) (by omega) ⟨rfl,rfl,rfl,trivial⟩ ⟨hlt',he6.upd hu7 (.inr (by omega)),hB7⟩))))))))
   refine L.nil (T.cf (T.skip (T.blk (T.region (L.m rfl (L.o (O.aC rfl rfl (by omega) (L.a rfl (L.nil (T.again (i+1) (by omega) ⟨rfl,rfl,rfl,trivial⟩ ⟨hlt',he6,by rw [← TG hlt' hneg];exact hB6⟩))))))))))
  refine L.nil (?_)
  obtain rfl:i=out.length:=by omega
  refine T.cf (T.exit rfl (T.q (L.m rfl (L.a rfl (L.a rfl (L.a rfl (L.nil (T.vK results45 rfl rfl rfl ⟨_,by rw [hr1];rfl,by rw [hr1];exact hI6,jV.trans he6⟩))))))))
 rw [herr]
 refine L.a rfl (L.nil (T.q (L.m rfl (L.o (O.Bz rfl rfl (by omega) (?_))))))
 have hr1:fK r xs t=([],0,161):=uU hok
 refine L.nil (T.ct (T.q (L.m rfl (L.a rfl (L.a rfl (L.a rfl (L.nil (T.vK results45 rfl rfl rfl ⟨.slice none 0 0,by rw [hr1];rfl,by rw [hr1];exact Sl.nil _ _ _,gV⟩))))))))
open Go Go.E RowKit
theorem mY {d c:UInt8} {r:Str} (h:c=d):aK d (c::r) = []::aK d r:=by
 subst h;exact nM (w:=[]) (by simp)
theorem iI {d c:UInt8} {r w:Str} {ws:List Str} (h:c≠d) (hr:aK d r=w::ws):aK d (c::r)=(c::w)::ws:=by
 rw [aK];simp [h,hr]
theorem Az (d:UInt8) (v:Str):∀ u:Str,aK d (u++d::v)=aK d u++aK d v
 | []=>by rw [List.nil_append,mY rfl];rfl
 | c::u=>by
  have ih:=Az d v u
  by_cases h:c=d
  ·rw [List.cons_append,mY h,mY h,ih];rfl
  cases hu:aK d u with
  | nil=>exact absurd hu (qA d u)
  | cons w ws =>
   rw [hu] at ih
   rw [List.cons_append,iI h ih,iI h hu];rfl
theorem AA {d c:UInt8} (hc:c≠d):∀ t:Str,∃ P l,aK d t=P ++ [l]∧aK d (t ++ [c])=P ++ [l ++ [c]]∧(l = []→P = []∨∃ u,t=u ++ [d])
 | []=>⟨[],[],rfl,by rw [List.nil_append,nK (by simpa using Ne.symm hc)];rfl,fun _=>.inl rfl⟩
 | x::t=>by
  obtain ⟨P,l,h1,h2,h3⟩:=AA hc t
  by_cases h:x=d
  ·refine ⟨[]::P,l,by rw [mY h,h1];rfl,by rw [List.cons_append,mY h,h2];rfl,fun e=>.inr ?_⟩
   rcases h3 e with hP|⟨u,hu⟩
   ·subst hP;subst e
    have:t = []:=by
     have:=oZ d t
     rw [h1] at this
     simpa [join_one] using this.symm
    exact ⟨[],by rw [this,h];rfl⟩
   exact ⟨x::u,by rw [hu];rfl⟩
  cases P with
  | nil =>
   exact ⟨[],x::l,by rw [iI h h1];rfl,by rw [List.cons_append,iI h h2];rfl,fun e=>by cases e⟩
  | cons p P =>
   refine ⟨(x::p)::P,l,by rw [iI h h1];rfl,by rw [List.cons_append,iI h h2];rfl,fun e=>.inr ?_⟩
   rcases h3 e with hP|⟨u,hu⟩
   ·cases hP
   exact ⟨x::u,by rw [hu];rfl⟩
theorem Pn {t:Str} (u:Str) (h:t=u ++ [10]):xR t=u:=by
 subst h
 have hs:Lib.hasSuffix (u ++ [10]) [10]=true:=by rw [Lib.hasSuffix];exact List.isSuffixOf_iff_suffix.2 ⟨u,rfl⟩
 rw [xR,if_pos hs,Lib.trimSuffix,if_pos hs]
 simp
theorem TI {t:Str} (h:¬ ∃ u,t=u ++ [10]):xR t=t ++ [0]:=by
 have hs:¬ Lib.hasSuffix t [10]=true:=fun hs=>by
  rw [Lib.hasSuffix] at hs
  obtain ⟨u,hu⟩:=List.isSuffixOf_iff_suffix.1 hs
  exact h ⟨u,hu.symm⟩
 have h2:Lib.hasSuffix (t ++ [0,10]) [10]=true:=by rw [Lib.hasSuffix];exact List.isSuffixOf_iff_suffix.2 ⟨t ++ [0],by simp⟩
 rw [xR,if_neg hs,Lib.trimSuffix,if_pos h2]
 have e:t ++ [0,10]=(t ++ [0]) ++ [10]:=by simp
 rw [e]
 have e2:((t ++ [0]) ++ [10]).length-([10]:Str).length=(t ++ [0]).length:=by simp
 exact (congrArg (fun k=>List.take k (t ++ [0] ++ [10])) e2).trans (List.take_left ..)
structure yh (nm:Nat→Str) (n:Nat) (xs:List Int) (kv:List (Str × Nat)) (pl out:List Int):Prop where
 len:out.length=n
 pl:pl=gG out xs n
 dup:(kv.map (·.1)).Nodup
 get:∀ s i,gy kv s=some i↔gy (keysA nm n) s=some i∧out.getD i 0<0
theorem yj {nm:Nat→Str} : ∀ {n:Nat},Ns nm n→((keysA nm n).map (·.1)).Nodup
 | 0,_=>by simp [keysA]
 | n+1,h=>by
  rw [sZ,List.map_append,List.nodup_append]
  refine ⟨yj ⟨fun i j a b=>h.diff i j a (by omega),fun i a=>h.comma i (by omega)⟩,by simp,?_⟩
  intro a ha b hb e
  simp only [List.map_cons,List.map_nil,List.mem_singleton] at hb
  subst hb;subst e
  exact xU (fun k hk=>h.diff k n hk (by omega)) ha
theorem yh.start {nm:Nat→Str} {n:Nat} {xs:List Int} (h:Ns nm n) (hx:xs.length=n):yh nm n xs (keysA nm n) xs (List.replicate n (-1)):=by
 have hg:∀ i,i<n→(List.replicate n (-1:Int)).getD i 0 = -1:=fun i hi=>by simp [List.getD,hi]
 refine ⟨by simp,og (by simp [bY,hx]) fun j hj=>?_,yj h,fun s i=>⟨fun hs=>⟨hs,?_⟩,fun hs=>hs.1⟩⟩
 ·rw [dQ (by simpa using by omega),hg j (by omega),if_pos ⟨by omega,by decide⟩]
 rw [hg i (wE hs).1];decide
theorem Po {out xs:List Int} {n i:Nat} {d:Int} (hn:out.length=n) (hi:i<n) (hd:0≤d):gG (out.set i d) xs n=(gG out xs n).set i d:=og (by simp [gG]) fun j hj=>by
 have hj':j<out.length:=by simpa [gG] using hj
 rw [dQ (by simpa using hj'),wG (by omega),wG (by rw [bY];omega),dQ hj']
 by_cases e:i=j
 ·rw [if_pos e,if_pos e,if_neg (by omega)]
 rw [if_neg e,if_neg e]
theorem AB {nm:Nat→Str} {n:Nat} {xs pl out:List Int} {kv:List (Str × Nat)} (h:yh nm n xs kv pl out) (l:Str) :
  (jy (false,kv,pl) l=none∧zq nm n out l=none)∨∃ kv' pl' out',jy (false,kv,pl) l=some (false,kv',pl')∧zq nm n out l=some out'∧yh nm n xs kv' pl' out':=by
 unfold zq
 simp only [jy]
 generalize (Lib.cut l [44]).1=a
 generalize (Lib.cut l [44]).2.1=b
 cases hk:gy (keysA nm n) a with
 | none =>
  have:gy kv a=none:=by
   cases hg:gy kv a with
   | none=>rfl
   | some j=>have:=(h.get a j).1 hg;rw [hk] at this;cases this.1
  rw [this]
  exact .inl ⟨rfl,rfl⟩
 | some i =>
  obtain ⟨hi,ha⟩:=wE hk
  by_cases hneg:out.getD i 0<0
  ·rw [(h.get a i).2 ⟨hk,hneg⟩]
   simp only
   by_cases hd:LV b
   ·rw [if_pos hd,if_pos ⟨hd,hneg⟩]
    refine .inr ⟨_,_,_,rfl,rfl,⟨by rw [List.length_set];exact h.len,?_,(FD kv a).nodup h.dup,fun s j=>?_⟩⟩
    ·rw [Po h.len hi (Int.natCast_nonneg _),h.pl]
    rw [JX _ _ _ h.dup,wG (by rw [h.len];exact hi)]
    by_cases e:s=a
    ·rw [if_pos e]
     constructor
     ·intro x;cases x
     rintro ⟨h1,h2⟩
     rw [e,hk] at h1
     cases h1
     rw [if_pos rfl] at h2
     omega
    rw [if_neg e]
    have hij:gy (keysA nm n) s=some j→i≠j:=fun h1 he=>by
     subst he;exact e (((wE h1).2).trans ha.symm)
    constructor
    ·intro h1
     obtain ⟨h2,h3⟩:=(h.get s j).1 h1
     exact ⟨h2,by rw [if_neg (hij h2)];exact h3⟩
    rintro ⟨h2,h3⟩
    rw [if_neg (hij h2)] at h3
    exact (h.get s j).2 ⟨h2,h3⟩
   rw [if_neg hd,if_neg (fun x=>hd x.1)]
   exact .inl ⟨rfl,rfl⟩
  have:gy kv a=none:=by
   cases hg:gy kv a with
   | none=>rfl
   | some j =>
    obtain ⟨h1,h2⟩:=(h.get a j).1 hg
    rw [hk] at h1;cases h1
    exact absurd h2 hneg
  rw [this]
  simp only
  rw [if_neg (fun x:LV b∧out.getD i 0<0=>hneg x.2)]
  exact .inl ⟨trivial,rfl⟩
theorem Pq {kv:List (Str × Nat)} {pl:List Int} (l:Str):jy (false,kv,pl) (l ++ [0])=none:=by
 have hb:¬ LV (Lib.cut (l ++ [0]) [44]).2.1:=by
  rcases Classical.em ((44:UInt8)∈l) with hm|hm
  ·obtain ⟨a,q,rfl,ha⟩:=CZ hm
   rw [show a++44::q ++ [0]=a++44::(q ++ [0]) by simp,BP ha]
   rintro ⟨h1,h2,h3⟩
   have:q = []:=by simpa using h1
   subst this
   simp at h2
  rw [Oc (by simp only [List.mem_append,List.mem_singleton];rintro (h|h);exact hm h;cases h)]
  rintro ⟨h1,_⟩;cases h1
 simp only [jy]
 cases gy kv (Lib.cut (l ++ [0]) [44]).1 with
 | none=>rfl
 | some i=>exact if_neg hb
def J5 (xs:List Int) (n:Nat) (a:AsT ⊕ Nat) (b:List Int ⊕ Nat):Prop :=
 (∃ h kv pl out,a = .inl (h,kv,pl)∧b = .inl out∧out.length=n∧pl=gG out xs n)∨∃ m,a = .inr m∧b = .inr m
theorem Pv {nm:Nat→Str} {n:Nat} {xs:List Int} : ∀ (M:List Str) (k:Nat) (kv:List (Str × Nat)) (pl out:List Int),yh nm n xs kv pl out→1≤k→J5 xs n (rQ jy (false,kv,pl) M (k+1)) (tJ nm n (M ++ [[]]) k out)
 | [],k,kv,pl,out,h,hk=>by
  rw [List.nil_append,tJ,if_pos ⟨rfl,hk,rfl⟩]
  exact .inl ⟨_,_,_,_,rfl,rfl,h.len,h.pl⟩
 | l::r,k,kv,pl,out,h,hk=>by
  have hne:r ++ [[]] ≠ []:=by simp
  rw [List.cons_append,tJ,if_neg (fun x=>hne x.1),if_neg (by rintro (x|⟨x,_⟩);exact hne x;omega),if_neg (by omega),rQ]
  rcases AB h l with ⟨h1,h2⟩|⟨kv',pl',out',h1,h2,h3⟩
  ·rw [h1,h2];exact .inr ⟨_,rfl,rfl⟩
  rw [h1,h2];exact Pv r (k+1) kv' pl' out' h3 (by omega)
theorem Px {nm:Nat→Str} {n:Nat} {xs:List Int} {e:Str} (he:e ≠ []):∀ (M:List Str) (k:Nat) (kv:List (Str × Nat)) (pl out:List Int),yh nm n xs kv pl out→1≤k→J5 xs n (rQ jy (false,kv,pl) (M ++ [e ++ [0]]) (k+1)) (tJ nm n (M ++ [e]) k out)
 | [],k,kv,pl,out,h,hk=>by
  rw [List.nil_append,List.nil_append,tJ,if_neg (fun x=>he x.2.2),if_pos (.inl rfl),rQ,Pq]
  exact .inr ⟨_,rfl,rfl⟩
 | l::r,k,kv,pl,out,h,hk=>by
  have hne:r ++ [e] ≠ []:=by simp
  rw [List.cons_append,List.cons_append,tJ,if_neg (fun x=>hne x.1),if_neg (by rintro (x|⟨x,_⟩);exact hne x;omega),if_neg (by omega),rQ]
  rcases AB h l with ⟨h1,h2⟩|⟨kv',pl',out',h1,h2,h3⟩
  ·rw [h1,h2];exact .inr ⟨_,rfl,rfl⟩
  rw [h1,h2];exact Px he r (k+1) kv' pl' out' h3 (by omega)
theorem WE (l:Str):l ++ [0]≠FI:=fun h=>by
 have:=congrArg (fun s:Str=>s.getLast?) h
 simp [FI] at this
theorem alike {nm:Nat→Str} {n:Nat} {xs:List Int} (h:Ns nm n) (hx:xs.length=n) (t:Str):J5 xs n (rQ jy (true,keysA nm n,xs) (aK 10 (xR t)) 1) (tJ nm n (aK 10 t) 0 (List.replicate n (-1))):=by
 have hA:=yh.start h hx
 by_cases hs:∃ u,t=u ++ [10]
 ·obtain ⟨u,hu⟩:=hs
  rw [Pn u hu,hu,Az]
  show J5 xs n _ (tJ nm n (aK 10 u ++ [[]]) 0 _)
  cases hw:aK 10 u with
  | nil=>exact absurd hw (qA 10 u)
  | cons l r =>
   have hne:r ++ [[]] ≠ []:=by simp
   rw [List.cons_append,tJ,if_neg (fun x=>hne x.1),rQ]
   by_cases hl:l=FI
   ·rw [if_neg (by rintro (x|⟨_,x⟩);exact hne x;exact x hl),if_pos rfl]
    simp only [jy,if_pos hl]
    exact Pv r 1 _ _ _ hA (Nat.le_refl _)
   rw [if_pos (.inr ⟨rfl,hl⟩)]
   simp only [jy,if_neg hl]
   exact .inr ⟨_,rfl,rfl⟩
 rw [TI hs]
 obtain ⟨P,e,h1,h2,h3⟩:=AA (d:=10) (c:=0) (by decide) t
 rw [h1,h2]
 cases P with
 | nil =>
  rw [List.nil_append,List.nil_append,tJ,if_neg (fun x=>absurd x.2.1 (Nat.lt_irrefl 0)),if_pos (.inl rfl),rQ]
  simp only [jy,if_neg (WE e)]
  exact .inr ⟨_,rfl,rfl⟩
 | cons l r =>
  have he:e ≠ []:=fun x=>by
   rcases h3 x with h4|h4
   ·cases h4
   exact hs h4
  have hne:r ++ [e] ≠ []:=by simp
  rw [List.cons_append,List.cons_append,tJ,if_neg (fun x=>hne x.1),rQ]
  by_cases hl:l=FI
  ·rw [if_neg (by rintro (x|⟨_,x⟩);exact hne x;exact x hl),if_pos rfl]
   simp only [jy,if_pos hl]
   exact Px he r 1 _ _ _ hA (Nat.le_refl _)
  rw [if_pos (.inr ⟨rfl,hl⟩)]
  simp only [jy,if_neg hl]
  exact .inr ⟨_,rfl,rfl⟩
theorem FU {nm:Nat→Str} {n:Nat} {xs:List Int} (h:Ns nm n) (hx:xs.length=n) (t:Str) :
  ((bI nm xs t).2=(aP nm n t).2)∧((bI nm xs t).2.2=0→(bI nm xs t).1=gG (aP nm n t).1 xs n)∧((bI nm xs t).2.2≠0→(bI nm xs t).1 = []):=by
 unfold bI aP
 rw [hx]
 by_cases hb:40000<t.length
 ·rw [if_pos hb,if_pos hb];exact ⟨rfl,fun x=>(by cases x),fun _=>rfl⟩
 rw [if_neg hb,if_neg hb]
 rcases alike h hx t with ⟨hd,kv,pl,out,h1,h2,h3,h4⟩|⟨m,h1,h2⟩
 ·rw [h1,h2];exact ⟨rfl,fun _=>h4,fun x=>absurd rfl x⟩
 rw [h1,h2];exact ⟨rfl,fun x=>(by cases x),fun _=>rfl⟩
theorem Py {nm:Nat→Str} {n:Nat} {t:Str} (h:(aP nm n t).2.2=0):(aP nm n t).2.1=0:=by
 unfold aP at h ⊢
 by_cases hb:40000<t.length
 ·rw [if_pos hb] at h;cases h
 rw [if_neg hb] at h ⊢
 cases hr:tJ nm n (aK 10 t) 0 (List.replicate n (-1)) with
 | inl o=>rfl
 | inr m=>rw [hr] at h;cases h
theorem oh (r:RoV) (xs:List Int) (t:Str):fF r xs t=fK r xs t:=by
 by_cases hok:bD r
 ·rw [nY hok,lI hok]
  by_cases hf:iH xs (aB r.us)=true
  ·rw [if_pos hf,if_pos hf]
   have hl:=(pF hf).1
   have hpos:=iQ hok
   obtain ⟨h1,h2,h3⟩:=FU (TD hok hpos.2.1) (show xs.length=aB r.us by omega) t
   by_cases he:(aP (nmA r.us) (aB r.us) t).2.2=0
   ·rw [if_neg (fun x=>x he),wH he]
    have he':(bI (nmA r.us) xs t).2.2=0:=by rw [h1];exact he
    refine Prod.ext (h2 he') ?_
    rw [h1]
    refine Prod.ext ?_ he
    exact Py he
   rw [if_pos he]
   refine Prod.ext (h3 (by rw [h1];exact he)) ?_
   rw [h1]
  rw [if_neg hf,if_neg hf]
 rw [pG hok,uU hok]
theorem J6 {out:List Int} {n:Nat} (hn:out.length=n):(-1:Int)∈gG out (List.replicate n (-1)) n↔out.any (fun d=>decide (d<0))=true:=by
 have hg:∀ i,i<n→(List.replicate n (-1:Int)).getD i 0 = -1:=fun i hi=>by simp [List.getD,hi]
 constructor
 ·intro h
  obtain ⟨j,hj,e⟩:=List.getElem_of_mem h
  rw [bY] at hj
  have e2:(gG out (List.replicate n (-1)) n).getD j 0 = -1:=by rw [au (by rw [bY];exact hj)];exact e
  rw [dQ hj] at e2
  by_cases hneg:out.getD j 0<0
  ·exact IX hj hneg
  rw [if_neg (fun x=>hneg x.2)] at e2;omega
 intro h
 obtain ⟨x,hx,hd⟩:=List.any_eq_true.1 h
 obtain ⟨j,hj,rfl⟩:=List.getElem_of_mem hx
 have hneg:out.getD j 0<0:=by rw [au hj];simpa using hd
 have e2:(gG out (List.replicate n (-1)) n).getD j 0 = -1:=by rw [dQ hj,if_pos ⟨by omega,hneg⟩,hg j (by omega)]
 have hj2:j<(gG out (List.replicate n (-1)) n).length:=by rw [bY];exact hj
 have hm:=List.getElem_mem hj2
 rw [au hj2] at e2
 rw [e2] at hm
 exact hm
theorem Pz {out xs:List Int} {n:Nat} (h:¬ out.any (fun d=>decide (d<0))=true):gG out xs n=out:=og (bY _ _ _) fun j hj=>by
 rw [bY] at hj
 rw [dQ hj,if_neg (fun x=>h (IX hj x.2))]
theorem AL (r:RoV) (t:Str):fP r t=fJ r t:=by
 by_cases hok:bD r
 ·rw [kE hok,lG hok]
  have hpos:=iQ hok
  obtain ⟨h1,h2,h3⟩:=FU (TD hok hpos.2.1) (xs:=List.replicate (aB r.us) (-1)) (by simp) t
  unfold uS tK
  simp only
  by_cases he:(aP (nmA r.us) (aB r.us) t).2.2=0
  ·have he':(bI (nmA r.us) (List.replicate (aB r.us) (-1)) t).2.2=0:=by rw [h1];exact he
   have n1:¬ (aP (nmA r.us) (aB r.us) t).2.2≠0:=fun x=>x he
   have n2:¬ (bI (nmA r.us) (List.replicate (aB r.us) (-1)) t).2.2≠0:=fun x=>x he'
   rw [if_neg n2,if_neg n1,h2 he']
   by_cases ha:(aP (nmA r.us) (aB r.us) t).1.any (fun d=>decide (d<0))=true
   ·rw [if_pos ha,if_pos ((J6 (wH he)).2 ha)]
   rw [if_neg ha,if_neg (fun x=>ha ((J6 (wH he)).1 x)),Pz ha]
  have he':(bI (nmA r.us) (List.replicate (aB r.us) (-1)) t).2.2≠0:=by rw [h1];exact he
  rw [if_pos he,if_pos he',h1]
 rw [pI hok,uT hok]
open Go Go.E RowKit
theorem IZ (n:Nat) (w:World) (h0:0<n) (hn:n≤1000000) :
  Calls Tryz.prog 157 #[.slice none 0 0,.int .i64 n] w (Ret fun v w'=>Ext w w'∧w'.ownsRow w.heap.size 3 1 v 0 []):=by
 refine T.enter (vs:=[.slice none 0 0,.int .i64 n]) func157 rfl ntmps157 rfl ?_
 refine T.q (L.a rfl (L.nil (T.seq (T.q (L.m rfl (L.o (O.oQ rfl rfl (by omega) (L.nil (T.cf (T.skip (T.seq (T.q (L.m rfl (L.m rfl (L.o (O.aa0 runUnderlying30 rfl (L.m rfl (L.o (O.len runUnderlying30 rfl (Sl.val (JM 0 w 1)) (L.o (O.fC rfl rfl (by omega) (L.o (O.fC rfl rfl (by omega) (L.a rfl (L.nil (?_))))))))))))))))))))))))))
 refine T.q (L.m rfl (L.o (O.Bq rfl rfl (by omega) (L.nil (T.ct (T.region (L.m rfl (L.m rfl (L.o (O.aa0 runUnderlying30 rfl (L.o (O.kN (m:=0) runUnderlying30 sizeOf3 rfl rfl (by decide) (by decide) (L.m rfl (L.o (O.oL (n:=n) (size:=1) (bytes:=8) runUnderlying30 runUnderlying3 Tryz.jK rfl rfl rfl rfl (by decide) rfl (by show some (Value.int .i64 _)=some (Value.int .i64 _);congr 2) h0 hn (by omega) (fun cap w1 cur he1 hc1 hc2 hB1 hl1=>?_))))))))))))))))
 refine L.m rfl (L.o (O.len runUnderlying30 rfl (Sl.val (JM 0 w1 1)) (L.o (O.kN (m:=0) runUnderlying30 sizeOf3 rfl rfl (by decide) (by omega) (L.a rfl (L.nil (T.q (L.m rfl (L.a rfl (L.nil (T.aN results157 rfl ⟨he1,rfl,.inr ⟨_,cap,cur.toArray,rfl,Nat.le_refl _,hB1,Nat.zero_le _,hc2,by simpa using hl1,by simp⟩⟩)))))))))))
theorem Dt (lo lo2:Nat) (p:Value) (vs:List Value) (css:List (List Value)) (w:World) (hp:Sl lo w p vs.length 1 vs) (hv:LoL lo2 w vs css) (h0:0<css.flatten.length) (hn:css.flatten.length≤1000000) (h1:∀ c∈css.flatten,c.oneCell'=true) :
  Calls Tryz.prog 117 #[p] w (Ret fun v w'=>Ext w w'∧Sl w.heap.size w' v css.flatten.length 1 css.flatten):=by
 have hle:=Sl.le hp
 have hvl:=hv.1
 refine T.enter (vs:=[p]) func117 rfl ntmps117 rfl ?_
 refine T.q (L.a rfl (L.nil (T.q (L.a rfl (L.nil (T.seq (T.q (L.m rfl (L.o (O.len runUnderlying125 rfl (Sl.val hp) (L.m rfl (L.nil (T.block (?_))))))))))))))
 refine T.loop (σ:=Nat) (fun i=>[(0,p),(3,.int .i64 (fl css i).length),(9,p),(10,.int .i64 vs.length),(11,.int .i64 i)]) (fun i w'=>i≤vs.length∧w'=w) (fun i=>vs.length-i) (0) ⟨rfl,rfl,rfl,rfl,rfl,trivial⟩ ⟨Nat.zero_le _,rfl⟩ ?_
 rintro i w1 ⟨hi,rfl⟩
 refine T.q (L.o (O.aV rfl rfl (fun hlt=>?_) (fun hlt=>?_)))
 ·refine L.nil (?_)
  have hlt':i<css.length:=by omega
  have hs:=hv.2 i hlt'
  have hfl:=SC css (i+1)
  have hfs:=congrArg List.length (sO css i hlt')
  rw [List.length_append] at hfs
  refine T.seq (T.ct (T.skip (T.seq (T.block (T.q (L.o (O.indexAddr runUnderlying125 sizeOf30 rfl rfl hp (by omega) (by omega) (L.o (O.load isAgg30 rfl (by rw [Int.toNat_natCast,Nat.mul_one];exact Sl.cell hp (show vs[i]?=some (vs.getD i undef) by rw [au (by omega)];simp [hvl,hlt'])) (L.a rfl (L.nil (T.q (L.m rfl (L.m rfl (L.o (O.len runUnderlying30 rfl (Sl.val hs) (L.o (O.aC rfl rfl (by omega) (L.a rfl (L.nil (T.q (L.m rfl (L.o (O.oQ rfl rfl (by omega) (L.nil (?_))))))))))))))))))))))))))
  refine T.cf (T.skip (T.blk (T.region (L.o (O.aC rfl rfl (by omega) (L.m rfl (L.nil (T.again (i+1) (by omega) ⟨rfl,?_,rfl,rfl,rfl,trivial⟩ ⟨by omega,rfl⟩))))))))
  ·rw [hfs];rfl
 refine L.nil (?_)
 obtain rfl:i=vs.length:=by omega
 have hfe:fl css vs.length=css.flatten:=by rw [hvl,fl,List.take_length]
 rw [hfe]
 refine T.seq (T.cf (T.exit rfl (T.q (L.m rfl (L.o (O.call (xs:=[.const (.slice none 0 0),.tmp 23]) call157 rfl rfl (IZ css.flatten.length w1 h0 hn) (fun v2 w2 hq=>?_)))))))
 obtain ⟨he2,hO2⟩:=hq
 refine L.a rfl (L.nil (T.seq (T.q (L.m rfl (L.o (O.len runUnderlying125 rfl (Sl.val (Sl.ext hp he2)) (L.m rfl (L.nil (T.block (?_))))))))))
 refine T.loop (σ:=Nat × Value) (fun s=>[(6,s.2),(25,p),(26,.int .i64 vs.length),(27,.int .i64 s.1)]) (fun s w'=>s.1≤vs.length∧Ext w1 w'∧w'.ownsRow w1.heap.size 3 1 s.2 (fl css s.1).length (fl css s.1)) (fun s=>vs.length-s.1) ((0,v2)) ⟨rfl,rfl,rfl,rfl,trivial⟩ ⟨Nat.zero_le _,he2,hO2⟩ ?_
 rintro ⟨k,s⟩ w3 ⟨hk,he3,hO3⟩
 simp only at hk hO3
 refine T.q (L.o (O.aV rfl rfl (fun hlt2=>?_) (fun hlt2=>?_)))
 ·refine L.nil (?_)
  have hlt':k<css.length:=by simp only at hlt2;omega
  have hs:=(hv.ext he3).2 k hlt'
  have hp3:Sl lo w3 p vs.length 1 vs:=Sl.ext hp he3
  have hfl:=SC css (k+1)
  have hfs:=congrArg List.length (sO css k hlt')
  rw [List.length_append] at hfs
  refine T.seq (T.ct (T.skip (T.seq (T.block (T.q (L.o (O.indexAddr runUnderlying125 sizeOf30 rfl rfl hp3 (by omega) (by omega) (L.o (O.load isAgg30 rfl (by rw [Int.toNat_natCast,Nat.mul_one];exact Sl.cell hp3 (show vs[k]?=some (vs.getD k undef) by rw [au (by omega)];simp [hvl,hlt'])) (L.a rfl (L.nil (T.region (L.m rfl (L.m rfl (L.o (O.append (size:=1) (bytes:=8) runUnderlying30 Tryz.jK rfl rfl rfl rfl (by decide) rfl rfl hO3 hs (fun c hc=>h1 c (by rw [← List.take_append_drop k css,List.flatten_append];exact List.mem_append_right _ (List.mem_flatten.2 ⟨_,by rw [au hlt'];exact List.mem_drop_iff_getElem.2 ⟨0,by omega,rfl⟩,hc⟩))) (by omega) (by simp only [maxLen];omega) he3.size (fun v4 w4 hO4 hG4=>?_)))))))))))))))))
  have LD:Ext w1 w4:=Keep.dV he3 hO3 hG4 (Nat.le_refl _)
  refine L.a rfl (L.nil (T.blk (T.region (L.o (O.aC rfl rfl (by simp only;omega) (L.m rfl (L.nil (T.again ((k+1,v4)) (by omega) ⟨rfl,rfl,rfl,rfl,trivial⟩ ⟨by simp only;omega,LD,by rw [hfs,sO css k hlt'];exact hO4⟩))))))))
 refine L.nil (?_)
 obtain rfl:k=vs.length:=by simp only at hlt2;omega
 rw [hfe] at hO3
 refine T.seq (T.cf (T.exit rfl (T.q (L.m rfl (L.a rfl (L.nil (T.aN results117 rfl ⟨he3,Sl.aU hO3⟩)))))))
def spell (xs:List Int):Str:=xs.flatMap fun x=>32::Lib.itoa x
theorem L6 {xs:List Int} {i:Nat} (hi:i<xs.length):spell (xs.take (i+1))=spell (xs.take i)++(32::Lib.itoa (xs.getD i 0)):=by
 rw [List.take_succ_eq_append_getElem hi,spell,spell,List.flatMap_append,au hi];simp
def Nu (xs:List Int):Prop:=∀ x∈xs,-9223372036854775808≤x∧x≤9223372036854775807
theorem Nu.at {xs:List Int} (h:Nu xs) {i:Nat} (hi:i<xs.length) : -9223372036854775808≤xs.getD i 0∧xs.getD i 0≤9223372036854775807:=by
 rw [au hi];exact h _ (List.getElem_mem hi)
theorem mZ:∀ (xs:List Int),Nu xs→(spell xs).length≤22*xs.length
 | [],_=>by simp [spell]
 | x::r,h=>by
  have h1:=mZ r fun y hy=>h y (List.mem_cons_of_mem _ hy)
  have hx:=h x (by simp)
  have h2:=Lib.itoa_length_le x hx.1 hx.2
  have e:spell (x::r)=(32::Lib.itoa x)++spell r:=rfl
  rw [e,List.length_append,List.length_cons,List.length_cons]
  omega
theorem yt (h:Str) (lo lo2:Nat) (p:Value) (vs:List Value) (css:List (List Value)) (xs:List Int) (w:World) (hp:Sl lo w p vs.length 1 vs) (hv:LoL lo2 w vs css) (hx:css.flatten=xs.map (Value.int .i64)) (h0:0<xs.length) (hn:xs.length≤100000) (hi:Nu xs) (hL:ji w) (hh:h.length≤100000) :
  Calls Tryz.prog 65 #[str h,p] w (Ret fun v w'=>v=str (h++spell xs)∧Ext w w'):=by
 have hfl:css.flatten.length=xs.length:=by rw [hx,List.length_map]
 refine T.enter (vs:=[str h,p]) func65 rfl ntmps65 rfl ?_
 refine T.q (L.a rfl (L.nil (T.seq (T.q (L.m rfl (L.o (O.call (xs:=[.tmp 7]) call117 rfl rfl (Dt lo lo2 p vs css w hp hv (by omega) (by omega) (by rw [hx];intro c hc;obtain ⟨x,_,rfl⟩:=List.mem_map.1 hc;rfl)) (fun v1 w1 hq=>?_))))))))
 obtain ⟨he1,hS1⟩:=hq
 rw [hfl,hx] at hS1
 have hI1:Ints .i64 w.heap.size w1 v1 xs:=hS1
 refine L.o (O.len runUnderlying30 rfl (Sl.val hI1) (L.m rfl (L.nil (T.block (?_)))))
 refine T.loop (σ:=Nat) (fun i=>[(0,str (h++spell (xs.take i))),(8,v1),(9,.int .i64 xs.length),(10,.int .i64 i)]) (fun i W=>i≤xs.length∧Ext w1 W) (fun i=>xs.length-i) (0) ⟨?_,rfl,rfl,rfl,trivial⟩ ⟨Nat.zero_le _,Keep.refl _ _⟩ ?_
 ·exact congrArg (fun z=>some (str z)) (by simp [spell])
 rintro i w2 ⟨hi2,he2⟩
 refine T.q (L.o (O.aV rfl rfl (fun hlt=>?_) (fun hlt=>?_)))
 ·refine L.nil (?_)
  have hlt':i<xs.length:=by omega
  have hb:=hi.at hlt'
  have hsl:=mZ (xs.take i) (fun x hx=>hi x (List.mem_of_mem_take hx))
  have hil:=Lib.itoa_length_le (xs.getD i 0) hb.1 hb.2
  rw [List.length_take,Nat.min_eq_left (by omega)] at hsl
  refine T.seq (T.ct (T.skip (T.seq (T.block (T.q (L.o (O.indexAddr runUnderlying30 sizeOf3 rfl rfl (hI1.ext he2) (by omega) (by omega) (L.o (O.load isAgg3 rfl (Ints.at (hI1.ext he2) hlt') (L.a rfl (L.nil (T.region (L.m rfl (L.m rfl (L.o (O.call (xs:=[.tmp 15]) call54 rfl rfl (nU (xs.getD i 0) w2 (hL.ext (he1.trans he2)) hb.1 hb.2) (fun v3 w3 hq=>?_)))))))))))))))))
  obtain ⟨rfl,he3⟩:=hq
  refine L.o (O.bQ rfl rfl (by show 1+_≤_;omega) (L.o (O.bQ rfl rfl (by rw [List.length_append,List.length_append];show h.length+_+(1+(Lib.itoa (xs.getD i 0)).length)≤_;omega) (L.a rfl (L.nil (T.blk (T.region (L.o (O.aC rfl rfl (by omega) (L.m rfl (L.nil (T.again (i+1) (by omega) ⟨?_,rfl,rfl,rfl,trivial⟩ ⟨hlt',he2.trans he3⟩))))))))))))
  ·exact congrArg (fun z=>some (str z)) (by rw [L6 hlt'];simp [List.append_assoc])
 refine L.nil (?_)
 obtain rfl:i=xs.length:=by omega
 rw [List.take_length]
 refine T.seq (T.cf (T.exit rfl (T.q (L.m rfl (L.a rfl (L.nil (T.aN results65 rfl ⟨rfl,he1.trans he2⟩)))))))
open Go Go.E RowKit
def bH:Str:=[108,97,110,100]
def aS:Str:=[112,111,105,110,116]
def bF:Str:=[102,97,99,101]
def bG:Str:=[104,111,108,101]
def TJ:Str:=[117,110,105,116,32]
def PD:Str:=[32,119,97,116,101,114]
def fH:Str:=[101,110,100]
def ptL (p:Pt):Str:=aS++spell [p.1,p.2]
def zu (f:FaV):List Str:=(bF++spell f.o.xs)::f.hs.map fun h=>bG++spell h.xs
def vM (u:UnV):List Int:=u.pp::u.gs++u.vs++u.ps
def FV (u:UnV):Str:=TJ++u.nm++spell (vM u)++(if u.wt=true then PD else [])
def lA (r:RoV):List Str:=[bH++spell [r.G,r.P,r.L]]
def lB (c:CxV) (r:RoV) (i:Nat):List Str:=lA r++(c.ps.take i).map ptL
def lC (c:CxV) (r:RoV) (i:Nat):List Str:=lA r++c.ps.map ptL++(c.fs.take i).flatMap zu
def lH (c:CxV) (r:RoV) (i:Nat) (f:FaV) (j:Nat):List Str:=lC c r i ++ [bF++spell f.o.xs]++(f.hs.take j).map fun h=>bG++spell h.xs
def lD (c:CxV) (r:RoV) (i:Nat):List Str:=lA r++c.ps.map ptL++c.fs.flatMap zu++(r.us.take i).map FV
def jA (c:CxV) (r:RoV):List Str:=lA r++c.ps.map ptL++c.fs.flatMap zu++r.us.map FV ++ [fH]
structure uV (c:CxV) (r:RoV):Prop where
 roll:Nu [r.G,r.P,r.L]
 pts:∀ p∈c.ps,Nu [p.1,p.2]
 rim:∀ f∈c.fs,Nu f.o.xs∧0<f.o.xs.length∧f.o.xs.length≤1000
 hole:∀ f∈c.fs,∀ h∈f.hs,Nu h.xs∧0<h.xs.length∧h.xs.length≤1000
 unit:∀ u∈r.us,Nu (vM u)∧(vM u).length≤1000∧u.nm.length≤1000
 len:(aO (jA c r)).length≤1000000
theorem FX:∀ ls:List Str,ls.length≤(aO ls).length
 | []=>Nat.le_refl _
 | l::r=>by
  have:=FX r
  have e:aO (l::r)=l ++ [10]++aO r:=by simp [aO]
  rw [e,List.length_append,List.length_append,List.length_cons]
  simp only [List.length_cons,List.length_nil]
  omega
theorem uV.lines {c:CxV} {r:RoV} (h:uV c r):(jA c r).length≤1000000:=Nat.le_trans (FX _) h.len
theorem WG {α:Type} (f:α→List Str) (l:List α) (i:Nat):((l.take i).flatMap f).length≤(l.flatMap f).length:=by
 have e:l.flatMap f=(l.take i).flatMap f++(l.drop i).flatMap f:=by rw [← List.flatMap_append,List.take_append_drop]
 rw [e,List.length_append];omega
theorem acS {c:CxV} {r:RoV} (h:uV c r) {i:Nat} : (lB c r i).length≤1000000:=by
 have h1:=h.lines
 simp only [jA,lB,List.length_append,List.length_map,List.length_take,List.length_cons,List.length_nil] at h1 ⊢
 omega
theorem Zn {c:CxV} {r:RoV} (h:uV c r) {i:Nat} : (lC c r i).length≤1000000:=by
 have h1:=h.lines
 have h2:=WG zu c.fs i
 simp only [jA,lC,List.length_append,List.length_map,List.length_take,List.length_cons,List.length_nil] at h1 ⊢
 omega
theorem Zo {c:CxV} {r:RoV} (h:uV c r) {i:Nat} : (lD c r i).length≤1000000:=by
 have h1:=h.lines
 simp only [jA,lD,List.length_append,List.length_map,List.length_take,List.length_cons,List.length_nil] at h1 ⊢
 omega
theorem WH {c:CxV} {r:RoV} {i:Nat} (hi:i<c.ps.length):lB c r (i+1)=lB c r i ++ [ptL (c.ps.getD i (0,0))]:=by
 rw [lB,lB,List.take_succ_eq_append_getElem hi,List.map_append,au hi,List.append_assoc];rfl
theorem WI {c:CxV} {r:RoV} {i:Nat} (hi:i<c.fs.length):lC c r (i+1)=lC c r i++zu (c.fs.getD i f0):=by
 rw [lC,lC,List.take_succ_eq_append_getElem hi,List.flatMap_append,au hi,List.append_assoc,List.append_assoc,List.append_assoc];simp
theorem PE {c:CxV} {r:RoV} {i:Nat} (hi:i<c.fs.length):lH c r i (c.fs.getD i f0) (c.fs.getD i f0).hs.length=lC c r (i+1):=by
 rw [WI hi,lH,List.take_length,zu,List.append_assoc];rfl
theorem WJ {c:CxV} {r:RoV} {i j:Nat} {f:FaV} (hj:j<f.hs.length):lH c r i f (j+1)=lH c r i f j ++ [bG++spell (f.hs.getD j ⟨undef,[]⟩).xs]:=by
 rw [lH,lH,List.take_succ_eq_append_getElem hj,List.map_append,au hj,List.append_assoc,List.append_assoc,List.append_assoc];rfl
theorem acT {c:CxV} {r:RoV} (h:uV c r) {i j:Nat} (hi:i<c.fs.length):(lH c r i (c.fs.getD i f0) j).length≤1000000:=by
 have h1:=Zn h (i:=i+1)
 rw [← PE hi] at h1
 simp only [lH,List.length_append,List.length_map,List.length_take,List.length_cons,List.length_nil] at h1 ⊢
 omega
theorem WL {c:CxV} {r:RoV} {i:Nat} (hi:i<r.us.length):lD c r (i+1)=lD c r i ++ [FV (r.us.getD i u0)]:=by
 rw [lD,lD,List.take_succ_eq_append_getElem hi,List.map_append,au hi,← List.append_assoc];rfl
noncomputable def pK (c:CxV) (r:RoV) (e:Int):Str × Int :=
 if e≠0 then ([],e) else if 40000<(aO (jA c r)).length then ([],3) else (aO (jA c r),0)
theorem Ints.append {k:IntKind} {lo:Nat} {w:World} {v:Value} {xs:List Int} (h:Ints k lo w v xs):Sl lo w v (xs.map (Value.int k)).length 1 (xs.map (Value.int k)):=by
 rw [List.length_map];exact h
theorem WM {w:World} {v:Value} {xs:List Int} (h:Ints .i64 0 w v xs):LoL 0 w [v] [xs.map (Value.int .i64)]:=⟨rfl,fun i hi=>by
 have e:i=0:=by simpa using hi
 subst e
 exact Ints.append h⟩
theorem TK {w:World} {a b c d:Value} {la bs cs ds:List Int} (ha:Ints .i64 0 w a la) (hb:Ints .i64 0 w b bs) (hc:Ints .i64 0 w c cs) (hd:Ints .i64 0 w d ds):LoL 0 w [a,b,c,d] ([la,bs,cs,ds].map fun l=>l.map (Value.int .i64)):=⟨rfl,fun i hi=>by
 match i,hi with
 | 0,_=>exact Ints.append ha
 | 1,_=>exact Ints.append hb
 | 2,_=>exact Ints.append hc
 | 3,_=>exact Ints.append hd⟩
theorem qY (h:Str) (b:Nat) (v:Value) (xs:List Int) (w:World) (hB:Blk w b [v] 30) (hv:Ints .i64 0 w v xs) (h0:0<xs.length) (hn:xs.length≤1000) (hi:Nu xs) (hL:ji w) (hh:h.length≤100000) :
  Calls Tryz.prog 65 #[str h,.slice (some ⟨b,0,none⟩) 1 1] w (Ret fun v' w'=>v'=str (h++spell xs)∧Ext w w') :=
 yt h 0 0 _ [v] [xs.map (Value.int .i64)] xs w (Sl.ay (n:=1) (sz:=1) hB rfl (Nat.le_refl 1) (by decide) (Nat.zero_le _)) (WM hv) (by simp) h0 (by omega) hi hL hh
theorem PG:aS.length≤100000:=by decide
theorem TL:bF.length≤100000:=by decide
theorem TM:bG.length≤100000:=by decide
theorem TN:bH.length≤100000:=by decide
theorem qZ {base:Nat} {xs:List Str} {s:Str} {v:Value} {w:World} (h:w.ownsRow base 9 1 v (xs.length+1) (xs.map str ++ [s].map str)):tC base (xs ++ [s]) v w:=qV (ys:=[s]) h
set_option maxHeartbeats 2000000 in
theorem L8 (lo:Nat) (c:CxV) (r:RoV) (w:World) (hc:c.ok lo w) (hr:r.ok lo w) (hL:ji w) (hs:fE c r (dZ c)=0→uV c r) :
  Calls Tryz.prog 19 #[.agg (gZ c r).toArray] w (Ret fun v w'=>v = .tuple #[str (pK c r (fE c r (dZ c))).1,.int .i64 (pK c r (fE c r (dZ c))).2]∧Ext w w'):=by
 refine T.enter (vs:=[.agg (gZ c r).toArray]) func19 rfl ntmps19 rfl ?_
 refine T.q (L.o (O.box rfl (fun b1 w1 hb1 hz1 he1 hB1=>?_)))
 have hl1:Blk w1 b1 (gZ c r) 48:=hB1
 refine L.a rfl (L.a rfl (L.nil (T.seq (T.q (L.o (O.ak isAgg48 sizeOf48 rfl rfl (Row.ay hl1) (L.o (O.call (xs:=[.tmp 16]) call34 rfl rfl (uO lo c r w1 (hc.ext he1) (hr.ext he1)) (fun v2 w2 hq=>?_)))))))))
 obtain ⟨rfl,he2⟩:=hq
 have wu:=he1.trans he2
 refine L.a rfl (L.nil (T.q (L.m rfl (L.o (O.gK rfl rfl (fun h0=>?_) (fun h0=>?_))))))
 ·refine L.nil (T.ct (T.q (L.m rfl (L.a rfl (L.a rfl (L.nil (T.yX results19 rfl rfl ⟨by rw [pK,if_pos h0];rfl,wu⟩)))))))
 refine L.nil (?_)
 have hS:=hs h0
 rw [h0]
 have hl2:=Blk.ext (cs:=gZ c r) hl1 he2
 refine T.cf (T.skip (T.q (L.o (O.fieldAddr runUnderlying48 rfl sizeOf25 rfl (L.o (O.fieldAddr runUnderlying25 rfl sizeOf3 rfl (L.o (O.load isAgg3 rfl (hl2.cell rfl) (L.o (O.fieldAddr runUnderlying48 rfl sizeOf25 rfl (L.o (O.fieldAddr runUnderlying25 rfl sizeOf3 rfl (L.o (O.load isAgg3 rfl (hl2.cell rfl) (L.o (O.fieldAddr runUnderlying48 rfl sizeOf25 rfl (L.o (O.fieldAddr runUnderlying25 rfl sizeOf3 rfl (L.o (O.load isAgg3 rfl (hl2.cell rfl) (L.o (O.buildSlice (el:=3) (parts:=[(0,.tmp 23),(1,.tmp 26),(2,.tmp 29)]) (vs:=[(0,_),(1,_),(2,_)]) (cs:=([r.G,r.P,r.L].map (Value.int .i64))) rfl (fun w=>by kernel_rfl) (fun b30 w30 akr agA Ig VD=>?_)))))))))))))))))))))))
 have ahP:Ints .i64 0 w30 (.slice (some ⟨b30,0,none⟩) 3 3) [r.G,r.P,r.L]:=Ints.ay VD rfl (by decide) (Nat.zero_le _)
 refine L.o (O.buildSlice (el:=30) (parts:=[(0,.tmp 30)]) (vs:=[(0,_)]) (cs:=[.slice (some ⟨b30,0,none⟩) 3 3]) rfl (fun w=>by kernel_rfl) (fun b31 w31 aks akt DX RH=>?_))
 refine L.o (O.call (xs:=[_,.tmp 31]) call65 rfl rfl (qY bH b31 _ [r.G,r.P,r.L] w31 RH (ahP.ext DX) (by simp) (by simp) hS.roll (hL.ext ((wu.trans Ig).trans DX)) TN) (fun v32 w32 hq=>?_))
 obtain ⟨rfl,RU⟩:=hq
 refine L.o (O.buildSlice (el:=9) (parts:=[(0,.tmp 32)]) (vs:=[(0,_)]) (cs:=((lA r).map str)) rfl (fun w=>by kernel_rfl) (fun b33 w33 agy agz EH YD=>?_))
 have ahQ:tC w32.heap.size (lB c r 0) (.slice (some ⟨b33,0,none⟩) 1 1) w33:=kL (n:=1) (cap:=1) (sz:=1) YD (by omega) (Nat.le_refl _) (by decide) rfl
 have acU:=(((wu.trans Ig).trans DX).trans RU).trans EH
 have Zp:=(((he2.trans Ig).trans DX).trans RU).trans EH
 refine L.a rfl (L.nil (T.seq (T.q (L.o (O.fieldAddr runUnderlying48 rfl sizeOf46 rfl (L.o (O.fieldAddr runUnderlying46 rfl sizeOf43 rfl (L.o (O.load isAgg43 rfl ((Blk.ext (cs:=gZ c r) hl1 Zp).cell rfl) (L.o (O.len runUnderlying43 rfl (Sl.val ((hc.ext acU).p)) (L.m rfl (L.nil (T.block (?_)))))))))))))))
 refine T.loop (σ:=Nat × Value) (fun g=>[(1,.pointer (some ⟨b1,0,none⟩)),(5,g.2),(36,c.pv),(37,.int .i64 c.ps.length),(38,.int .i64 g.1)]) (fun g W=>g.1≤c.ps.length∧Ext w1 W∧Ext w32 W∧tC w32.heap.size (lB c r g.1) g.2 W) (fun g=>c.ps.length-g.1) ((0,.slice (some ⟨b33,0,none⟩) 1 1)) ⟨rfl,rfl,rfl,rfl,rfl,trivial⟩ ⟨Nat.zero_le _,Zp,EH,ahQ⟩ ?_
 rintro ⟨i,lv⟩ w34 ⟨hi,TP,PI,Om⟩
 simp only at hi Om
 have hc34:=hc.ext (he1.trans TP)
 have hqa:=Sl.le hc34.p
 refine T.q (L.o (O.aV rfl rfl (fun hlt=>?_) (fun hlt=>?_)))
 ·refine L.nil (?_)
  have hlt':i<c.ps.length:=by simp only at hlt;omega
  have hpm:c.ps.getD i (0,0)∈c.ps:=by rw [au hlt'];exact List.getElem_mem hlt'
  refine T.seq (T.ct (T.skip (T.seq (T.block (T.q (L.o (O.indexAddr runUnderlying43 sizeOf124 rfl rfl hc34.p (by omega) (by omega) (L.o (O.ak isAgg124 sizeOf124 rfl rfl (hc34.p.row hlt') (L.o (O.alloc zeroValue124 (fun b7 w7 hb7 hz7 he7 hB7=>?_))))))))))))
  refine L.o (O.aF sizeOf124 rfl rfl rfl hB7 (Nat.le_refl _) (gW _) (fun w8 hu8 hB8=>?_))
  have hX8:Blk w8 b7 (pC (c.ps.getD i (0,0))) 124:=hB8
  have acV:Ext w34 w8:=he7.upd hu8 (.inr (by omega))
  refine L.nil (T.region (L.m rfl (L.o (O.fieldAddr runUnderlying124 rfl sizeOf3 rfl (L.o (O.load isAgg3 rfl (hX8.cell rfl) (L.o (O.fieldAddr runUnderlying124 rfl sizeOf3 rfl (L.o (O.load isAgg3 rfl (hX8.cell rfl) (L.o (O.buildSlice (el:=3) (parts:=[(0,.tmp 44),(1,.tmp 46)]) (vs:=[(0,_),(1,_)]) (cs:=([(c.ps.getD i (0,0)).1,(c.ps.getD i (0,0)).2].map (Value.int .i64))) rfl (fun w=>by kernel_rfl) (fun b47 w47 aku akv aa8 abW=>?_)))))))))))))
  have ahR:Ints .i64 0 w47 (.slice (some ⟨b47,0,none⟩) 2 2) [(c.ps.getD i (0,0)).1,(c.ps.getD i (0,0)).2]:=Ints.ay abW rfl (by decide) (Nat.zero_le _)
  refine L.o (O.buildSlice (el:=30) (parts:=[(0,.tmp 47)]) (vs:=[(0,_)]) (cs:=[.slice (some ⟨b47,0,none⟩) 2 2]) rfl (fun w=>by kernel_rfl) (fun b48 w48 hb48 akw Lm ahS=>?_))
  have U6:=(acV.trans aa8).trans Lm
  refine L.o (O.call (xs:=[_,.tmp 48]) call65 rfl rfl (qY aS b48 _ [(c.ps.getD i (0,0)).1,(c.ps.getD i (0,0)).2] w48 ahS (ahR.ext Lm) (by simp) (by simp) (hS.pts _ hpm) (hL.ext ((he1.trans TP).trans U6)) PG) (fun v49 w49 hq=>?_))
  obtain ⟨rfl,Y9⟩:=hq
  refine L.o (O.buildSlice (el:=9) (parts:=[(0,.tmp 49)]) (vs:=[(0,_)]) (cs:=([ptL (c.ps.getD i (0,0))].map str)) rfl (fun w=>by kernel_rfl) (fun b50 w50 akx aky ahT acW=>?_))
  have J7:=(U6.trans Y9).trans ahT
  have hle:=acS hS (i:=i)
  refine L.o (O.append (size:=1) (bytes:=16) runUnderlying61 Tryz.lX rfl rfl rfl rfl (by decide) rfl rfl (aH Om (J7.mono (Nat.zero_le _)) (Nat.le_refl _)) (Strs.ay (lo:=0) acW rfl (by decide) (Nat.zero_le _)) (jH _) (by simp only [List.length_cons,List.length_nil,maxLen];omega) (by simp only [maxLen,List.length_cons,List.length_nil];omega) (by have:=PI.size;have:=J7.size;omega) (fun v51 w51 ahU ahV=>?_))
  have U7:Ext w32 w51:=Keep.dV (PI.trans J7) (aH Om (J7.mono (Nat.zero_le _)) (Nat.le_refl _)) ahV (Nat.le_refl _)
  refine L.a rfl (L.nil (T.blk (T.region (L.o (O.aC rfl rfl (by (try dsimp only);omega) (L.m rfl (L.nil (T.again ((i+1,v51)) (show c.ps.length-(i+1)<c.ps.length-i by omega) ⟨rfl,rfl,rfl,rfl,rfl,trivial⟩ ⟨hlt',(((he2.trans Ig).trans DX).trans RU).trans U7,U7,by rw [WH hlt'];exact qZ ahU⟩))))))))
 refine L.nil (?_)
 obtain rfl:i=c.ps.length:=by simp only at hlt;omega
 have hlC:lB c r c.ps.length=lC c r 0:=by simp [lB,lC]
 rw [hlC] at Om
 refine T.seq (T.cf (T.exit rfl (T.seq (T.q (L.o (O.fieldAddr runUnderlying48 rfl sizeOf46 rfl (L.o (O.fieldAddr runUnderlying46 rfl sizeOf44 rfl (L.o (O.load isAgg44 rfl ((Blk.ext (cs:=gZ c r) hl1 TP).cell rfl) (L.o (O.len runUnderlying44 rfl (Sl.val hc34.sl) (L.m rfl (L.nil (T.block (?_))))))))))))))))
 refine T.loop (σ:=Nat × Value) (fun g=>[(1,.pointer (some ⟨b1,0,none⟩)),(5,g.2),(55,c.fv),(56,.int .i64 c.fs.length),(57,.int .i64 g.1)]) (fun g W=>g.1≤c.fs.length∧Ext w1 W∧Ext w32 W∧tC w32.heap.size (lC c r g.1) g.2 W) (fun g=>c.fs.length-g.1) ((0,lv)) ⟨rfl,rfl,rfl,rfl,rfl,trivial⟩ ⟨Nat.zero_le _,TP,PI,Om⟩ ?_
 rintro ⟨i,lv2⟩ w58 ⟨hi2,PK,PL,Yc⟩
 simp only at hi2 Yc
 have abb:=hc.ext (he1.trans PK)
 have hqb:=Sl.le abb.sl
 refine T.q (L.o (O.aV rfl rfl (fun hlt=>?_) (fun hlt=>?_)))
 ·refine L.nil (?_)
  have hlt':i<c.fs.length:=by simp only at hlt;omega
  have hfm:c.fs.getD i f0∈c.fs:=by rw [au hlt'];exact List.getElem_mem hlt'
  have hfo:=abb.at hlt'
  refine T.seq (T.ct (T.skip (T.seq (T.block (T.q (L.o (O.indexAddr runUnderlying44 sizeOf127 rfl rfl abb.sl (by omega) (by omega) (L.o (O.ak isAgg127 sizeOf127 rfl rfl (abb.row hlt') (L.o (O.alloc zeroValue127 (fun b9 w9 hb9 hz9 he9 hB9=>?_))))))))))))
  refine L.o (O.aF sizeOf127 rfl rfl rfl hB9 (Nat.le_refl _) (EZ hfo) (fun w10 Nk xq=>?_))
  have Zb:Blk w10 b9 (c.fs.getD i f0).cells 127:=xq
  have Zq:Ext w58 w10:=he9.upd Nk (.inr (by omega))
  obtain ⟨oa,cp,hov,_,_⟩:=Sl.val hfo.o
  refine L.nil (T.q (L.m rfl (L.o (O.fieldAddr runUnderlying127 rfl sizeOf30 rfl (L.o (O.load isAgg30 rfl (show w10.cell? ⟨b9,0,none⟩=some (.slice oa (c.fs.getD i f0).o.xs.length cp) from by rw [← hov];exact Zb.cell rfl) (L.o (O.buildSlice (el:=30) (parts:=[(0,.tmp 63)]) (vs:=[(0,_)]) (cs:=[.slice oa (c.fs.getD i f0).o.xs.length cp]) rfl (fun w=>by kernel_rfl) (fun b64 w64 hb64 akz WO ahW=>?_)))))))))
  have PN:=Zq.trans WO
  obtain ⟨hr1,hr2,hr3⟩:=hS.rim _ hfm
  refine L.o (O.call (xs:=[_,.tmp 64]) call65 rfl rfl (qY bF b64 _ (c.fs.getD i f0).o.xs w64 ahW (hov▸(hfo.ext PN).o.mono (Nat.zero_le _)) hr2 hr3 hr1 (hL.ext ((he1.trans PK).trans PN)) TL) (fun v65 w65 hq=>?_))
  obtain ⟨rfl,afk⟩:=hq
  refine L.o (O.buildSlice (el:=9) (parts:=[(0,.tmp 65)]) (vs:=[(0,_)]) (cs:=([bF++spell (c.fs.getD i f0).o.xs].map str)) rfl (fun w=>by kernel_rfl) (fun b66 w66 akA akB afl acX=>?_))
  have FY:=(PN.trans afk).trans afl
  have hle:=Zn hS (i:=i)
  refine L.o (O.append (size:=1) (bytes:=16) runUnderlying61 Tryz.lX rfl rfl rfl rfl (by decide) rfl rfl (aH Yc (FY.mono (Nat.zero_le _)) (Nat.le_refl _)) (Strs.ay (lo:=0) acX rfl (by decide) (Nat.zero_le _)) (jH _) (by simp only [List.length_cons,List.length_nil,maxLen];omega) (by simp only [maxLen,List.length_cons,List.length_nil];omega) (by have:=PL.size;have:=FY.size;omega) (fun v67 w67 ahX afm=>?_))
  have U8:Ext w32 w67:=Keep.dV (PL.trans FY) (aH Yc (FY.mono (Nat.zero_le _)) (Nat.le_refl _)) afm (Nat.le_refl _)
  have acY:tC w32.heap.size (lH c r i (c.fs.getD i f0) 0) v67 w67:=by rw [show lH c r i (c.fs.getD i f0) 0=lC c r i ++ [bF++spell (c.fs.getD i f0).o.xs] by simp [lH]];exact qZ ahX
  have FZ:=((he2.trans Ig).trans DX).trans RU
  have ahY:=FZ.size
  have afn:=Blk.ext (cs:=(c.fs.getD i f0).cells) Zb ((WO.trans afk).trans afl)
  have ahZ:=aH Yc (FY.mono (Nat.zero_le _)) (Nat.le_refl _)
  have ah0:Blk w67 b9 (c.fs.getD i f0).cells 127:=Blk.grown (cs:=(c.fs.getD i f0).cells) afn afm (OZ ahZ afn (by decide))
  refine L.a rfl (L.nil (T.q (L.o (O.fieldAddr runUnderlying127 rfl sizeOf125 rfl (L.o (O.load isAgg125 rfl (ah0.cell rfl) (?_)))))))
  have acZ:=(hc.ext (he1.trans (FZ.trans U8))).at hlt'
  refine L.o (O.len runUnderlying125 rfl (Sl.val acZ.sl) (L.m rfl (L.nil (T.block (?_)))))
  refine T.loop (σ:=Nat × Value) (fun g=>[(1,.pointer (some ⟨b1,0,none⟩)),(5,g.2),(55,c.fv),(56,.int .i64 c.fs.length),(57,.int .i64 i),(69,(c.fs.getD i f0).hv),(70,.int .i64 (c.fs.getD i f0).hs.length),(71,.int .i64 g.1)]) (fun g W=>g.1≤(c.fs.getD i f0).hs.length∧Ext w32 W∧tC w32.heap.size (lH c r i (c.fs.getD i f0) g.1) g.2 W) (fun g=>(c.fs.getD i f0).hs.length-g.1) ((0,v67)) ⟨rfl,rfl,rfl,rfl,rfl,rfl,rfl,rfl,trivial⟩ ⟨Nat.zero_le _,U8,acY⟩ ?_
  rintro ⟨j,lv3⟩ w72 ⟨hj,AO,Zr⟩
  simp only at hj Zr
  have PO:=(hc.ext (he1.trans (FZ.trans AO))).at hlt'
  have hqc:=Sl.le PO.sl
  refine T.q (L.o (O.aV rfl rfl (fun hlt2=>?_) (fun hlt2=>?_)))
  ·refine L.nil (?_)
   have hj':j<(c.fs.getD i f0).hs.length:=by simp only at hlt2;omega
   have hhm:(c.fs.getD i f0).hs.getD j ⟨undef,[]⟩∈(c.fs.getD i f0).hs:=by rw [au hj'];exact List.getElem_mem hj'
   obtain ⟨hq1,hq2,hq3⟩:=hS.hole _ hfm _ hhm
   refine T.seq (T.ct (T.skip (T.seq (T.block (T.q (L.o (O.indexAddr runUnderlying125 sizeOf30 rfl rfl PO.sl (by omega) (by omega) (?_))))))))
   obtain ⟨ob,cq,afo,_,_⟩:=Sl.val (PO.hs _ hhm)
   refine L.o (O.load isAgg30 rfl (show _=some (.slice ob ((c.fs.getD i f0).hs.getD j ⟨undef,[]⟩).xs.length cq) from by rw [← afo,Int.toNat_natCast,Nat.mul_one];exact Sl.cell PO.sl (show (aJ (c.fs.getD i f0).hs)[j]?=some ((c.fs.getD i f0).hs.getD j ⟨undef,[]⟩).v by rw [aJ,List.getElem?_map,List.getElem?_eq_getElem hj',au hj'];rfl)) (L.a rfl (L.nil (T.region (L.m rfl (L.m rfl (L.o (O.buildSlice (el:=30) (parts:=[(0,.tmp 76)]) (vs:=[(0,_)]) (cs:=[.slice ob ((c.fs.getD i f0).hs.getD j ⟨undef,[]⟩).xs.length cq]) rfl (fun w=>by kernel_rfl) (fun b77 w77 akC akD ac0 ah1=>?_)))))))))
   refine L.o (O.call (xs:=[_,.tmp 77]) call65 rfl rfl (qY bG b77 _ ((c.fs.getD i f0).hs.getD j ⟨undef,[]⟩).xs w77 ah1 (afo▸((PO.hs _ hhm).ext ac0).mono (Nat.zero_le _)) hq2 hq3 hq1 (hL.ext ((he1.trans (FZ.trans AO)).trans ac0)) TM) (fun v78 w78 hq=>?_))
   obtain ⟨rfl,ah2⟩:=hq
   refine L.o (O.buildSlice (el:=9) (parts:=[(0,.tmp 78)]) (vs:=[(0,_)]) (cs:=([bG++spell ((c.fs.getD i f0).hs.getD j ⟨undef,[]⟩).xs].map str)) rfl (fun w=>by kernel_rfl) (fun b79 w79 akE Yy kK ah3=>?_))
   have J8:=(ac0.trans ah2).trans kK
   have hle2:=acT hS (j:=j) hlt'
   refine L.o (O.append (size:=1) (bytes:=16) runUnderlying61 Tryz.lX rfl rfl rfl rfl (by decide) rfl rfl (aH Zr (J8.mono (Nat.zero_le _)) (Nat.le_refl _)) (Strs.ay (lo:=0) ah3 rfl (by decide) (Nat.zero_le _)) (jH _) (by simp only [List.length_cons,List.length_nil,maxLen];omega) (by simp only [maxLen,List.length_cons,List.length_nil];omega) (by have:=AO.size;have:=J8.size;omega) (fun v80 w80 ah4 ah5=>?_))
   have Zt:Ext w32 w80:=Keep.dV (AO.trans J8) (aH Zr (J8.mono (Nat.zero_le _)) (Nat.le_refl _)) ah5 (Nat.le_refl _)
   refine L.a rfl (L.nil (T.blk (T.region (L.o (O.aC rfl rfl (by (try dsimp only);omega) (L.m rfl (L.nil (T.again ((j+1,v80)) (show (c.fs.getD i f0).hs.length-(j+1)<(c.fs.getD i f0).hs.length-j by omega) ⟨rfl,rfl,rfl,rfl,rfl,rfl,rfl,rfl,trivial⟩ ⟨hj',Zt,by rw [WJ hj'];exact qZ ah4⟩))))))))
  refine L.nil (?_)
  have e:j=(c.fs.getD i f0).hs.length:=by simp only at hlt2;omega
  rw [e,PE hlt'] at Zr
  refine T.seq (T.cf (T.exit rfl (T.blk (T.region (L.o (O.aC rfl rfl (by (try dsimp only);omega) (L.m rfl (L.nil (T.again ((i+1,lv3)) (show c.fs.length-(i+1)<c.fs.length-i by omega) ⟨rfl,rfl,rfl,rfl,rfl,trivial⟩ ⟨hlt',FZ.trans AO,AO,Zr⟩)))))))))
 refine L.nil (?_)
 obtain rfl:i=c.fs.length:=by simp only at hlt;omega
 have hlD:lC c r c.fs.length=lD c r 0:=by simp [lC,lD]
 rw [hlD] at Yc
 have ah6:Units lo w58 r.uv r.us:=hr.ext (he1.trans PK)
 refine T.seq (T.cf (T.exit rfl (T.seq (T.q (L.o (O.fieldAddr runUnderlying48 rfl sizeOf25 rfl (L.o (O.fieldAddr runUnderlying25 rfl sizeOf23 rfl (L.o (O.load isAgg23 rfl ((Blk.ext (cs:=gZ c r) hl1 PK).cell rfl) (L.o (O.len runUnderlying23 rfl (Sl.val ah6.sl) (L.m rfl (L.nil (T.block (?_))))))))))))))))
 refine T.loop (σ:=Nat × Value) (fun g=>[(1,.pointer (some ⟨b1,0,none⟩)),(5,g.2),(85,r.uv),(86,.int .i64 r.us.length),(87,.int .i64 g.1)]) (fun g W=>g.1≤r.us.length∧Ext w1 W∧Ext w32 W∧tC w32.heap.size (lD c r g.1) g.2 W) (fun g=>r.us.length-g.1) ((0,lv2)) ⟨rfl,rfl,rfl,rfl,rfl,trivial⟩ ⟨Nat.zero_le _,PK,PL,Yc⟩ ?_
 rintro ⟨i,lv4⟩ w88 ⟨hi3,Zu,J9,Zv⟩
 simp only at hi3 Zv
 have Zw:Units lo w88 r.uv r.us:=hr.ext (he1.trans Zu)
 have hqd:=Sl.le Zw.sl
 have FZ:=((he2.trans Ig).trans DX).trans RU
 refine T.q (L.o (O.aV rfl rfl (fun hlt=>?_) (fun hlt=>?_)))
 ·refine L.nil (?_)
  have hlt':i<r.us.length:=by simp only at hlt;omega
  have hum:r.us.getD i u0∈r.us:=by rw [au hlt'];exact List.getElem_mem hlt'
  have huo:=Zw.at hlt'
  obtain ⟨hu1,hu2,hu3⟩:=hS.unit _ hum
  refine T.seq (T.ct (T.skip (T.seq (T.block (T.q (L.o (O.indexAddr runUnderlying23 sizeOf51 rfl rfl Zw.sl (by omega) (by omega) (L.o (O.ak isAgg51 sizeOf51 rfl rfl (Zw.row hlt') (L.o (O.alloc zeroValue51 (fun b13 w13 aaG Vz dB xk=>?_))))))))))))
  refine L.o (O.aF sizeOf51 rfl rfl rfl xk (Nat.le_refl _) huo.one (fun w14 Np Sz=>?_))
  have ac1:Blk w14 b13 (r.us.getD i u0).cells 51:=Sz
  have Zx:Ext w88 w14:=dB.upd Np (.inr (by omega))
  refine L.nil (T.q (L.o (O.fieldAddr runUnderlying51 rfl sizeOf9 rfl (L.o (O.load isAgg9 rfl (ac1.cell rfl) (L.o (O.bQ rfl rfl (by show 5+(r.us.getD i u0).nm.length≤_;omega) (L.o (O.fieldAddr runUnderlying51 rfl sizeOf3 rfl (L.o (O.load isAgg3 rfl (ac1.cell rfl) (L.o (O.buildSlice (el:=3) (parts:=[(0,.tmp 95)]) (vs:=[(0,_)]) (cs:=[.int .i64 (r.us.getD i u0).pp]) rfl (fun w=>by kernel_rfl) (fun b96 w96 akF akG afp ah7=>?_))))))))))))))
  have abd:=Blk.ext (cs:=(r.us.getD i u0).cells) ac1 afp
  obtain ⟨o1,c1,hg1,_,_⟩:=Sl.val huo.g
  obtain ⟨o2,c2,hg2,_,_⟩:=Sl.val huo.v
  obtain ⟨o3,c3,hg3,_,_⟩:=Sl.val huo.p
  refine L.o (O.fieldAddr runUnderlying51 rfl sizeOf30 rfl (L.o (O.load isAgg30 rfl (show w96.cell? ⟨b13,2,none⟩=some (.slice o1 (r.us.getD i u0).gs.length c1) from by rw [← hg1];exact abd.cell rfl) (L.o (O.fieldAddr runUnderlying51 rfl sizeOf30 rfl (L.o (O.load isAgg30 rfl (show w96.cell? ⟨b13,3,none⟩=some (.slice o2 (r.us.getD i u0).vs.length c2) from by rw [← hg2];exact abd.cell rfl) (L.o (O.fieldAddr runUnderlying51 rfl sizeOf30 rfl (L.o (O.load isAgg30 rfl (show w96.cell? ⟨b13,4,none⟩=some (.slice o3 (r.us.getD i u0).ps.length c3) from by rw [← hg3];exact abd.cell rfl) (L.o (O.buildSlice (el:=30) (parts:=[(0,.tmp 96),(1,.tmp 98),(2,.tmp 100),(3,.tmp 102)]) (vs:=[(0,_),(1,_),(2,_),(3,_)]) (cs:=[.slice (some ⟨b96,0,none⟩) 1 1,.slice o1 (r.us.getD i u0).gs.length c1,.slice o2 (r.us.getD i u0).vs.length c2,.slice o3 (r.us.getD i u0).ps.length c3]) rfl (fun w=>by kernel_rfl) (fun akH afq ah8 ah9 WQ ac2=>?_))))))))))))))
  have WR:=afp.trans WQ
  have I4:=Zx.trans WR
  have PV:=(Zw.ext I4).at hlt'
  have aia:Ints .i64 0 afq (.slice (some ⟨b96,0,none⟩) 1 1) [(r.us.getD i u0).pp]:=Ints.ay (Blk.ext (cs:=[.int .i64 (r.us.getD i u0).pp]) ah7 WQ) rfl (by decide) (Nat.zero_le _)
  refine L.o (O.call (xs:=[.tmp 93,.tmp 103]) call65 rfl rfl (yt (TJ++(r.us.getD i u0).nm) 0 0 _ [.slice (some ⟨b96,0,none⟩) 1 1,.slice o1 (r.us.getD i u0).gs.length c1,.slice o2 (r.us.getD i u0).vs.length c2,.slice o3 (r.us.getD i u0).ps.length c3] ([[(r.us.getD i u0).pp],(r.us.getD i u0).gs,(r.us.getD i u0).vs,(r.us.getD i u0).ps].map fun l ↦ l.map (Value.int .i64)) (vM (r.us.getD i u0)) afq (Sl.ay (n:=4) (sz:=1) ac2 rfl (Nat.le_refl 4) (by decide) (Nat.zero_le _)) (TK aia (hg1▸PV.g.mono (Nat.zero_le _)) (hg2▸PV.v.mono (Nat.zero_le _)) (hg3▸PV.p.mono (Nat.zero_le _))) (by simp [vM]) (by simp [vM]) (by omega) hu1 (hL.ext ((he1.trans Zu).trans I4)) (by rw [List.length_append];show 5+_≤_;omega)) (fun akI aib hq=>?_))
  obtain ⟨rfl,Zy⟩:=hq
  have ac3:=Blk.ext (cs:=(r.us.getD i u0).cells) abd (WQ.trans Zy)
  refine L.a rfl (L.nil (T.seq (T.q (L.o (O.fieldAddr runUnderlying51 rfl sizeOf4 rfl (L.o (O.load isAgg4 rfl (ac3.cell rfl) (?_))))))))
  have WS:=I4.trans Zy
  refine L.nil (?_)
  refine T.join (σ:=Unit) (fun _=>[(1,.pointer (some ⟨b1,0,none⟩)),(5,lv4),(14,str (FV (r.us.getD i u0))),(85,r.uv),(86,.int .i64 r.us.length),(87,.int .i64 i)]) (fun _ w'=>w'=aib) ?_ ?_
  ·rcases hwt:(r.us.getD i u0).wt with _|_
   ·refine T.cf (T.skip (T.meet (()) ⟨rfl,rfl,?_,rfl,rfl,rfl,trivial⟩ rfl))
    ·exact congrArg (fun z=>some (str z)) (by rw [FV,hwt];simp)
   refine T.ct (T.region (L.m rfl (L.o (O.bQ rfl rfl (by have:=mZ _ hu1;rw [List.length_append,List.length_append];show 5+_+_+6≤_;omega) (L.a rfl (L.nil (T.meet (()) ⟨rfl,rfl,?_,rfl,rfl,rfl,trivial⟩ rfl)))))))
   ·exact congrArg (fun z=>some (str z)) (by rw [FV,hwt];simp [PD])
  rintro _ akJ rfl
  refine T.region (L.m rfl (L.m rfl (L.o (O.buildSlice (el:=9) (parts:=[(0,.tmp 110)]) (vs:=[(0,_)]) (cs:=([FV (r.us.getD i u0)].map str)) rfl (fun w=>by kernel_rfl) (fun akK akL aic aie ac4 ac5=>?_)))))
  have Du:=WS.trans ac4
  have hle3:=Zo hS (i:=i)
  refine L.o (O.append (size:=1) (bytes:=16) runUnderlying61 Tryz.lX rfl rfl rfl rfl (by decide) rfl rfl (aH Zv (Du.mono (Nat.zero_le _)) (Nat.le_refl _)) (Strs.ay (lo:=0) ac5 rfl (by decide) (Nat.zero_le _)) (jH _) (by simp only [List.length_cons,List.length_nil,maxLen];omega) (by simp only [maxLen,List.length_cons,List.length_nil];omega) (by have:=J9.size;have:=Du.size;omega) (fun aif aii ac6 ac7=>?_))
  have PW:Ext w32 aii:=Keep.dV (J9.trans Du) (aH Zv (Du.mono (Nat.zero_le _)) (Nat.le_refl _)) ac7 (Nat.le_refl _)
  refine L.a rfl (L.nil (T.blk (T.region (L.o (O.aC rfl rfl (by (try dsimp only);omega) (L.m rfl (L.nil (T.again ((i+1,aif)) (show r.us.length-(i+1)<r.us.length-i by omega) ⟨rfl,rfl,rfl,rfl,rfl,trivial⟩ ⟨hlt',FZ.trans PW,PW,by rw [WL hlt'];exact qZ ac6⟩))))))))
 refine L.nil (?_)
 obtain rfl:i=r.us.length:=by simp only at hlt;omega
 have hlE:lD c r r.us.length ++ [fH]=jA c r:=by simp [lD,jA]
 refine T.seq (T.cf (T.exit rfl (T.q (L.m rfl (L.o (O.buildSlice (el:=9) (parts:=[(0,_)]) (vs:=[(0,_)]) (cs:=([fH].map str)) rfl (fun w=>by kernel_rfl) (fun akM aij aik ail TQ WT=>?_)))))))
 have hle3:=Zo hS (i:=r.us.length)
 refine L.o (O.append (size:=1) (bytes:=16) runUnderlying61 Tryz.lX rfl rfl rfl rfl (by decide) rfl rfl (aH Zv (TQ.mono (Nat.zero_le _)) (Nat.le_refl _)) (Strs.ay (lo:=0) WT rfl (by decide) (Nat.zero_le _)) (jH _) (by simp only [List.length_cons,List.length_nil,maxLen];omega) (by simp only [maxLen,List.length_cons,List.length_nil];omega) (by have:=J9.size;have:=TQ.size;omega) (fun ain ac8 ac9 ada=>?_))
 have WU:Ext w32 ac8:=Keep.dV (J9.trans TQ) (aH Zv (TQ.mono (Nat.zero_le _)) (Nat.le_refl _)) ada (Nat.le_refl _)
 have U9:=qZ ac9
 rw [hlE] at U9
 refine L.o (O.call (xs:=[.tmp 116]) call55 rfl rfl (uP 0 ain (jA c r) ac8 ((Sl.aU U9).mono (Nat.zero_le _)) hS.len) (fun v117 PX hq=>?_))
 obtain ⟨rfl,vN⟩:=hq
 have AP:=he1.trans (FZ.trans (WU.trans vN))
 refine L.a rfl (L.nil (T.seq (T.q (L.m rfl (L.o (O.bP runUnderlying9 rfl (L.o (O.fG rfl rfl (fun hbig=>?_) (fun hbig=>?_)))))))))
 ·refine L.nil (T.ct (T.q (L.a rfl (L.a rfl (L.nil (T.yX results19 rfl rfl ⟨by rw [pK,if_neg (fun x=>x rfl),if_pos (by omega)];rfl,AP⟩))))))
 refine L.nil (T.cf (T.skip (T.q (L.m rfl (L.a rfl (L.a rfl (L.nil (T.yX results19 rfl rfl ⟨by rw [pK,if_neg (fun x=>x rfl),if_neg (by omega)],AP⟩))))))))
open Go Go.E RowKit
theorem TR {l:Str} {v:Int} (h:Lib.atoiAll l = .ok v) : -9223372036854775808≤v∧v≤9223372036854775807:=by
 unfold Lib.atoiAll at h
 split at h
 ·cases h
 simp only at h
 split at h
 ·cases h
 ·cases h
 split at h
 ·cases h
 split at h
 ·cases h
 cases h
 split <;> omega
theorem AQ (s:Str) (w:World) (hL:ji w) (hs:s.length≤100000):Calls Tryz.prog 161 #[str s] w (Ret fun v w'=>((∃ n,Lib.atoiAll s = .ok n∧v = .tuple #[.int .i64 n,.nilIface])∨((∀ n,Lib.atoiAll s ≠ .ok n)∧∃ m t p,v = .tuple #[.int .i64 m,.iface t p]))∧Ext w w'):=by
 have hsz:(⟨s.toArray⟩:ByteArray).size=s.length:=by simp [ByteArray.size]
 rcases h:Lib.atoiAll s with n|_|_
 ·refine (Tryz.strconv_Atoi_ok ⟨s.toArray⟩ (by omega) n h w).mono ?_
  rintro e w' ⟨rfl,hw⟩
  refine ⟨.inl ⟨n,rfl,rfl⟩,?_⟩
  rcases hw with rfl|⟨t,rfl⟩
  ·exact Keep.refl _ _
  exact Ext.of_below (Lib.bytesWorld_below _ _ _)
 ·obtain ⟨tp,p,hv⟩:=hL.es
  refine (Tryz.lS ⟨s.toArray⟩ (by omega) (fun n e=>by cases h.symm.trans e) (fun e=>by cases h.symm.trans e) tp p w hv).mono ?_
  rintro e w' ⟨N,rfl,_,_,hb⟩
  exact ⟨.inr ⟨fun n h=>(by cases h),_,_,_,rfl⟩,Ext.of_below hb⟩
 obtain ⟨tp,p,hv⟩:=hL.er
 refine (Tryz.strconv_Atoi_range_var ⟨s.toArray⟩ (by omega) h tp p w hv).mono ?_
 rintro e w' ⟨N,rfl,_,_,hb⟩
 exact ⟨.inr ⟨fun n h=>(by cases h),_,_,_,rfl⟩,Ext.of_below hb⟩
def pO (s:Str):Option Int:=match Lib.atoiAll s with
 | .ok n=>if Lib.itoa n=s ∧ -1000000000≤n∧n≤1000000000 then some n else none
 | _=>none
theorem Ko {s:Str} {n:Int} (h:Lib.atoiAll s = .ok n):pO s=if Lib.itoa n=s ∧ -1000000000≤n∧n≤1000000000 then some n else none:=by unfold pO;rw [h]
theorem tN {s:Str} {n:Int} (h:pO s=some n):Lib.atoiAll s = .ok n∧Lib.itoa n=s ∧ -1000000000≤n∧n≤1000000000:=by
 unfold pO at h
 split at h
 ·split at h
  ·cases h;rename_i hn hc;exact ⟨hn,hc⟩
  cases h
 cases h
theorem yu (s:Str) (n:Int) (w:World) (hL:ji w) (hs:s.length≤100000) (hn:pO s=some n) :
  Calls Tryz.prog 160 #[str s] w (Ret fun v w'=>v = .int .i64 n∧Ext w w'):=by
 obtain ⟨h1,h2,h3,h4⟩:=tN hn
 refine T.enter (vs:=[str s]) func160 rfl ntmps160 rfl ?_
 refine T.q (L.a rfl (L.nil (T.q (L.m rfl (L.o (O.call (xs:=[.tmp 6]) call161 rfl rfl (AQ s w hL hs) (fun v1 w1 hq=>?_)))))))
 obtain ⟨hv1,he1⟩:=hq
 have aio:v1 = .tuple #[.int .i64 n,.nilIface]:=by
  rcases hv1 with ⟨m,hm,hv⟩|⟨hm,_⟩
  ·rw [h1] at hm;cases hm;exact hv
  exact absurd h1 (hm n)
 subst aio
 refine L.m rfl (L.o (O.extract rfl rfl (L.o (O.extract rfl rfl (L.a rfl (L.a rfl (L.nil (T.q (L.m rfl (L.o (O.qN (by kernel_rfl) rfl (L.m rfl (L.m rfl (L.o (O.call (xs:=[.tmp 13]) call54 rfl rfl (nU n w1 (hL.ext he1) (by omega) (by omega)) (fun v2 w2 hq=>?_))))))))))))))))
 obtain ⟨rfl,he2⟩:=hq
 refine L.m rfl (L.o (O.aY runUnderlying9 rfl rfl h2 (L.o (O.aj rfl rfl (L.m rfl (L.m rfl (L.o (O.Bv rfl rfl h3 (L.o (O.aj rfl rfl (L.m rfl (L.m rfl (L.o (O.Yi rfl rfl h4 (L.o (O.aj rfl rfl (L.o (O.call (xs:=[.tmp 25]) call108 rfl rfl (dF w2) (fun v3 w3 hq=>?_)))))))))))))))))))
 obtain rfl:=hq
 refine L.nil (T.q (L.m rfl (L.a rfl (L.nil (T.aN results160 rfl ⟨rfl,he1.trans he2⟩)))))
theorem L9 (s:Str) (w:World) (hL:ji w) (hs:s.length≤100000) (hn:pO s=none) :
  Calls Tryz.prog 160 #[str s] w (Pan (bU) fun w'=>Ext w w'):=by
 refine T.fA (vs:=[str s]) func160 rfl ntmps160 rfl ?_
 refine T.q (L.a rfl (L.nil (T.q (L.m rfl (L.o (O.call (xs:=[.tmp 6]) call161 rfl rfl (AQ s w hL hs) (fun v1 w1 hq=>?_)))))))
 obtain ⟨hv1,he1⟩:=hq
 rcases hv1 with ⟨n,hm,rfl⟩|⟨hm,m,t,p,rfl⟩
 ·rw [Ko hm] at hn
  have hb:=TR hm
  refine L.m rfl (L.o (O.extract rfl rfl (L.o (O.extract rfl rfl (L.a rfl (L.a rfl (L.nil (T.q (L.m rfl (L.o (O.qN (by kernel_rfl) rfl (L.m rfl (L.m rfl (L.o (O.call (xs:=[.tmp 13]) call54 rfl rfl (nU n w1 (hL.ext he1) (by omega) (by omega)) (fun v2 w2 hq=>?_))))))))))))))))
  obtain ⟨rfl,he2⟩:=hq
  rcases Classical.em (Lib.itoa n=s) with h1|h1
  ·refine L.m rfl (L.o (O.aY runUnderlying9 rfl rfl h1 (?_)))
   rcases Classical.em (-1000000000≤n) with h2|h2
   ·have h3:¬ n≤1000000000:=fun h=>by rw [if_pos ⟨h1,h2,h⟩] at hn;cases hn
    refine L.o (O.aj rfl rfl (L.m rfl (L.m rfl (L.o (O.Bv rfl rfl h2 (L.o (O.aj rfl rfl (L.m rfl (L.m rfl (L.o (O.Ro rfl rfl h3 (L.o (O.aj rfl rfl (L.bJ (xs:=[.tmp 25]) rfl call108 rfl rfl (dw w2) (fun w' a hR ha=>⟨ha.defers,rfl,by rw [hR];exact he1.trans he2⟩)))))))))))))))
   refine L.o (O.aj rfl rfl (L.m rfl (L.m rfl (L.o (O.KD rfl rfl h2 (L.o (O.aj rfl rfl (L.m rfl (L.p (L.p (L.o (O.ah rfl rfl (L.bJ (xs:=[.tmp 25]) rfl call108 rfl rfl (dw w2) (fun w' a hR ha=>⟨ha.defers,rfl,by rw [hR];exact he1.trans he2⟩))))))))))))))
  refine L.m rfl (L.o (O.aA runUnderlying9 rfl rfl h1 (L.o (O.aj rfl rfl (L.m rfl (L.p (L.p (L.o (O.ah rfl rfl (L.m rfl (L.p (L.p (L.o (O.ah rfl rfl (L.bJ (xs:=[.tmp 25]) rfl call108 rfl rfl (dw w2) (fun w' a hR ha=>⟨ha.defers,rfl,by rw [hR];exact he1.trans he2⟩))))))))))))))))
 refine L.m rfl (L.o (O.extract rfl rfl (L.o (O.extract rfl rfl (L.a rfl (L.a rfl (L.nil (T.q (L.m rfl (L.o (O.Fp (by kernel_rfl) rfl rfl (L.m rfl (L.p (L.p (L.p (L.p (L.o (O.ah rfl rfl (L.m rfl (L.p (L.p (L.o (O.ah rfl rfl (L.m rfl (L.p (L.p (L.o (O.ah rfl rfl (?_)))))))))))))))))))))))))))))
 refine L.bJ (xs:=[.tmp 25]) rfl call108 rfl rfl (dw w1) (fun w' a hR ha=>⟨ha.defers,rfl,by rw [hR];exact he1⟩)
open Go Go.E RowKit
def dN:List Str→Option (List Int)
 | []=>some []
 | s::r=>match pO s,dN r with
  | some n,some ns=>some (n::ns)
  | _,_=>none
theorem jq:∀ (ws:List Str) (xs:List Int),dN ws=some xs→ws.length=xs.length∧∀ i,i<ws.length→pO (ws.getD i [])=some (xs.getD i 0)
 | [],xs,h=>by cases h;exact ⟨rfl,fun i hi=>absurd hi (Nat.not_lt_zero _)⟩
 | s::r,xs,h=>by
  rw [dN] at h
  cases hs:pO s with
  | none=>rw [hs] at h;cases h
  | some n =>
   cases hr:dN r with
   | none=>rw [hs,hr] at h;cases h
   | some ns =>
    rw [hs,hr] at h
    cases h
    obtain ⟨h1,h2⟩:=jq r ns hr
    refine ⟨by simp [h1],fun i hi=>?_⟩
    cases i with
    | zero=>exact hs
    | succ i=>exact h2 i (by simpa using hi)
theorem AU:∀ (ws:List Str),dN ws=none→∃ m,m<ws.length∧pO (ws.getD m [])=none∧∃ xs:List Int,xs.length=m∧∀ i,i<m→pO (ws.getD i [])=some (xs.getD i 0)
 | [],h=>by cases h
 | s::r,h=>by
  cases hs:pO s with
  | none=>exact ⟨0,by simp,hs,[],rfl,fun i hi=>absurd hi (Nat.not_lt_zero _)⟩
  | some n =>
   have hr:dN r=none:=by
    cases hr:dN r with
    | none=>rfl
    | some ns=>rw [dN,hs,hr] at h;cases h
   obtain ⟨m,h1,h2,xs,h3,h4⟩:=AU r hr
   refine ⟨m+1,by simpa using h1,h2,n::xs,by simp [h3],fun i hi=>?_⟩
   cases i with
   | zero=>exact hs
   | succ i=>exact h4 i (by omega)
theorem Kq {base:Nat} {xs:List Int} {n:Int} {v:Value} {w:World} (h:w.ownsRow base 3 1 v (xs.length+1) (xs.map (Value.int .i64) ++ [.int .i64 n])):w.ownsRow base 3 1 v (xs ++ [n]).length ((xs ++ [n]).map (Value.int .i64)):=by
 rw [List.length_append,List.map_append];exact h
theorem Mc (lo:Nat) (p:Value) (ws:List Str) (xs:List Int) (w:World) (hp:Strs lo w p ws) (hL:ji w) (hs:∀ s∈ws,s.length≤100000) (hn:dN ws=some xs) (hlen:ws.length≤1000000) :
  Calls Tryz.prog 159 #[p,.func (.func 160) #[] #[]] w (Ret fun v w'=>w'.ownsRow w.heap.size 3 1 v xs.length (xs.map (Value.int .i64))∧Ext w w'):=by
 obtain ⟨hl,hat⟩:=jq ws xs hn
 refine T.enter (vs:=[p,.func (.func 160) #[] #[]]) func159 rfl ntmps159 rfl ?_
 refine T.q (L.a rfl (L.nil (T.q (L.a rfl (L.nil (T.seq (T.q (L.m rfl (L.o (O.len runUnderlying61 rfl (Sl.val hp) (L.m rfl (L.nil (T.block (?_))))))))))))))
 refine T.loop (σ:=Nat × Value) (fun g=>[(1,.func (.func 160) #[] #[]),(5,g.2),(8,p),(9,.int .i64 ws.length),(10,.int .i64 g.1)]) (fun g W=>g.1≤ws.length∧Ext w W∧W.ownsRow w.heap.size 3 1 g.2 (xs.take g.1).length ((xs.take g.1).map (Value.int .i64))) (fun g=>ws.length-g.1) ((0,.slice none 0 0)) ⟨rfl,rfl,rfl,rfl,rfl,trivial⟩ ⟨Nat.zero_le _,Keep.refl _ _,dW _ _ _ _⟩ ?_
 rintro ⟨i,lv⟩ w1 ⟨hi,he1,hO1⟩
 simp only at hi hO1
 refine T.q (L.o (O.aV rfl rfl (fun hlt=>?_) (fun hlt=>?_)))
 ·refine L.nil (?_)
  have hlt':i<ws.length:=by simp only at hlt;omega
  have hsm:(ws.getD i []).length≤100000:=hs _ (by rw [au hlt'];exact List.getElem_mem hlt')
  have htk:(xs.take i).length=i:=by rw [List.length_take];omega
  have hsn:xs.take (i+1)=xs.take i ++ [xs.getD i 0]:=by rw [List.take_succ_eq_append_getElem (by omega),au (by omega)]
  refine T.seq (T.ct (T.skip (T.seq (T.block (T.q (L.o (O.indexAddr runUnderlying61 sizeOf9 rfl rfl (hp.ext he1) (by omega) (by omega) (L.o (O.load isAgg9 rfl ((hp.ext he1).at hlt') (L.a rfl (L.nil (T.region (L.m rfl (L.m rfl (L.m rfl (L.o (O.call (xs:=[.tmp 16]) call160 rfl rfl (yu (ws.getD i []) (xs.getD i 0) w1 (hL.ext he1) hsm (hat i hlt')) (fun v2 w2 hq=>?_))))))))))))))))))
  obtain ⟨rfl,he2⟩:=hq
  refine L.o (O.buildSlice (el:=3) (parts:=[(0,.tmp 17)]) (vs:=[(0,_)]) (cs:=[.int .i64 (xs.getD i 0)]) rfl (fun w=>by kernel_rfl) (fun b18 w18 acL acM oH wB=>?_))
  have Dv:=he2.trans oH
  refine L.o (O.append (size:=1) (bytes:=8) runUnderlying30 Tryz.jK rfl rfl rfl rfl (by decide) rfl rfl (aH hO1 (Dv.mono (Nat.zero_le _)) (Nat.le_refl _)) (Sl.ay (lo:=0) (n:=1) (sz:=1) wB rfl (Nat.le_refl 1) (by decide) (Nat.zero_le _)) (by intro u hu;simp at hu;subst hu;rfl) (by omega) (by simp only [maxLen];omega) (by have:=he1.size;have:=Dv.size;omega) (fun v19 w19 V4 adb=>?_))
  have SV:Ext w w19:=Keep.dV (he1.trans Dv) (aH hO1 (Dv.mono (Nat.zero_le _)) (Nat.le_refl _)) adb (Nat.le_refl _)
  refine L.a rfl (L.nil (T.blk (T.region (L.o (O.aC rfl rfl (by (try dsimp only);omega) (L.m rfl (L.nil (T.again ((i+1,v19)) (show ws.length-(i+1)<ws.length-i by omega) ⟨rfl,rfl,rfl,rfl,rfl,trivial⟩ ⟨hlt',SV,by rw [hsn];exact Kq V4⟩))))))))
 refine L.nil (?_)
 obtain rfl:i=ws.length:=by simp only at hlt;omega
 rw [List.take_of_length_le (by omega)] at hO1
 refine T.seq (T.cf (T.exit rfl (T.q (L.m rfl (L.a rfl (L.nil (T.aN results159 rfl ⟨hO1,he1⟩)))))))
theorem PY (lo:Nat) (p:Value) (ws:List Str) (w:World) (hp:Strs lo w p ws) (hL:ji w) (hs:∀ s∈ws,s.length≤100000) (hn:dN ws=none) (hlen:ws.length≤1000000) :
  Calls Tryz.prog 159 #[p,.func (.func 160) #[] #[]] w (Pan (bU) fun w'=>Ext w w'):=by
 obtain ⟨m,hm,hbad,xs,hl,hat⟩:=AU ws hn
 refine T.fA (vs:=[p,.func (.func 160) #[] #[]]) func159 rfl ntmps159 rfl ?_
 refine T.q (L.a rfl (L.nil (T.q (L.a rfl (L.nil (T.seq (T.q (L.m rfl (L.o (O.len runUnderlying61 rfl (Sl.val hp) (L.m rfl (L.nil (T.block (?_))))))))))))))
 refine T.loop (σ:=Nat × Value) (fun g=>[(1,.func (.func 160) #[] #[]),(5,g.2),(8,p),(9,.int .i64 ws.length),(10,.int .i64 g.1)]) (fun g W=>g.1≤m∧Ext w W∧W.ownsRow w.heap.size 3 1 g.2 (xs.take g.1).length ((xs.take g.1).map (Value.int .i64))) (fun g=>ws.length-g.1) ((0,.slice none 0 0)) ⟨rfl,rfl,rfl,rfl,rfl,trivial⟩ ⟨Nat.zero_le _,Keep.refl _ _,dW _ _ _ _⟩ ?_
 rintro ⟨i,lv⟩ w1 ⟨hi,he1,hO1⟩
 simp only at hi hO1
 have hlt':i<ws.length:=by omega
 have hsm:(ws.getD i []).length≤100000:=hs _ (by rw [au hlt'];exact List.getElem_mem hlt')
 refine T.q (L.o (O.G8 rfl rfl (by (try dsimp only);omega) (L.nil (T.seq (T.ct (T.skip (T.seq (T.block (T.q (L.o (O.indexAddr runUnderlying61 sizeOf9 rfl rfl (hp.ext he1) (by omega) (by omega) (L.o (O.load isAgg9 rfl ((hp.ext he1).at hlt') (?_))))))))))))))
 rcases Nat.lt_or_ge i m with him|him
 ·have htk:(xs.take i).length=i:=by rw [List.length_take];omega
  have hsn:xs.take (i+1)=xs.take i ++ [xs.getD i 0]:=by rw [List.take_succ_eq_append_getElem (by omega),au (by omega)]
  refine L.a rfl (L.nil (T.region (L.m rfl (L.m rfl (L.m rfl (L.o (O.call (xs:=[.tmp 16]) call160 rfl rfl (yu (ws.getD i []) (xs.getD i 0) w1 (hL.ext he1) hsm (hat i him)) (fun v2 w2 hq=>?_))))))))
  obtain ⟨rfl,he2⟩:=hq
  refine L.o (O.buildSlice (el:=3) (parts:=[(0,.tmp 17)]) (vs:=[(0,_)]) (cs:=[.int .i64 (xs.getD i 0)]) rfl (fun w=>by kernel_rfl) (fun b18 w18 acL acM oH wB=>?_))
  have Dv:=he2.trans oH
  refine L.o (O.append (size:=1) (bytes:=8) runUnderlying30 Tryz.jK rfl rfl rfl rfl (by decide) rfl rfl (aH hO1 (Dv.mono (Nat.zero_le _)) (Nat.le_refl _)) (Sl.ay (lo:=0) (n:=1) (sz:=1) wB rfl (Nat.le_refl 1) (by decide) (Nat.zero_le _)) (by intro u hu;simp at hu;subst hu;rfl) (by omega) (by simp only [maxLen];omega) (by have:=he1.size;have:=Dv.size;omega) (fun v19 w19 V4 adb=>?_))
  have SV:Ext w w19:=Keep.dV (he1.trans Dv) (aH hO1 (Dv.mono (Nat.zero_le _)) (Nat.le_refl _)) adb (Nat.le_refl _)
  refine L.a rfl (L.nil (T.blk (T.region (L.o (O.aC rfl rfl (by (try dsimp only);omega) (L.m rfl (L.nil (T.again ((i+1,v19)) (show ws.length-(i+1)<ws.length-i by omega) ⟨rfl,rfl,rfl,rfl,rfl,trivial⟩ ⟨him,SV,by rw [hsn];exact Kq V4⟩))))))))
 obtain rfl:i=m:=by omega
 refine L.a rfl (L.nil (T.region (L.m rfl (L.m rfl (L.m rfl (L.bJ (xs:=[.tmp 16]) rfl call160 rfl rfl (L9 (ws.getD i []) w1 (hL.ext he1) hsm hbad) (fun w' a hR ha=>⟨ha.defers,rfl,he1.trans hR⟩)))))))
theorem jB (lo:Nat) (p:Value) (ws:List Str) (xs:List Int) (w:World) (hp:Strs lo w p ws) (hL:ji w) (hs:∀ s∈ws,s.length≤100000) (hn:dN ws=some xs) (hlen:ws.length≤1000000) :
  Calls Tryz.prog 122 #[p] w (Ret fun v w'=>w'.ownsRow w.heap.size 3 1 v xs.length (xs.map (Value.int .i64))∧Ext w w'):=by
 refine T.enter (vs:=[p]) func122 rfl ntmps122 rfl ?_
 refine T.q (L.a rfl (L.nil (T.q (L.m rfl (L.o (O.call (xs:=[.tmp 3,.func 160]) call159 rfl rfl (Mc lo p ws xs w hp hL hs hn hlen) (fun v1 w1 hq=>?_)))))))
 obtain ⟨hO,he⟩:=hq
 refine L.a rfl (L.nil (T.aN results122 rfl ⟨hO,he⟩))
theorem kF (lo:Nat) (p:Value) (ws:List Str) (w:World) (hp:Strs lo w p ws) (hL:ji w) (hs:∀ s∈ws,s.length≤100000) (hn:dN ws=none) (hlen:ws.length≤1000000) :
  Calls Tryz.prog 122 #[p] w (Pan (bU) fun w'=>Ext w w'):=by
 refine T.fA (vs:=[p]) func122 rfl ntmps122 rfl ?_
 refine T.q (L.a rfl (L.nil (T.q (L.m rfl (L.bJ (xs:=[.tmp 3,.func 160]) rfl call159 rfl rfl (PY lo p ws w hp hL hs hn hlen) (fun w' a hR ha=>⟨ha.defers,rfl,hR⟩))))))
open Go Go.E RowKit
def fieldsB (s:Str):List Str:=(Lib.goFieldsP (fun r=>decide (r=32)) ⟨s.toArray⟩).map fun x=>x.data.toList
theorem I5 (x:Nat) (w:World) :
  Calls Tryz.prog 121 #[.int .i32 x] w (Ret fun v w'=>v = .bool (decide (x=32))∧w'=w):=by
 refine T.enter (vs:=[.int .i32 x]) func121 rfl ntmps121 rfl ?_
 refine T.q (L.a rfl (L.nil (T.q (L.m rfl (L.o (O.eql rfl rfl (L.a rfl (L.nil (T.aN results121 rfl ⟨congrArg Value.bool (decide_eq_decide.2 (by omega)),rfl⟩)))))))))
theorem aQ (s:Str) (w:World) (hs:s.length≤100000):Calls Tryz.prog 120 #[str s,.func (.func 121) #[] #[]] w (Ret fun v w'=>∃ A,v = .slice (some ⟨A,0,none⟩) (fieldsB s).length (fieldsB s).length∧Strs w.heap.size w' v (fieldsB s)∧Ext w w'):=by
 refine (Tryz.strings_FieldsFunc_grows 121 #[] call121 (fun r=>decide (r=32)) ⟨s.toArray⟩ w (by simp [ByteArray.size];omega) (fun W x _ _=>(I5 x W).mono ?_)).mono ?_
 ·rintro (v|_|_) w' h
  ·obtain ⟨h1,h2⟩:=h
   subst h1;subst h2
   exact ⟨rfl,Below.refl _ _⟩
  ·exact h.elim
  exact h.elim
 rintro e w' ⟨A,rfl,hA,hO,hb⟩
 have hlen:(Lib.goFieldsP (fun r=>decide (r=32)) ⟨s.toArray⟩).length=(fieldsB s).length:=by simp [fieldsB]
 have hmap:(Lib.goFieldsP (fun r=>decide (r=32)) ⟨s.toArray⟩).map Value.string=(fieldsB s).map str:=by
  simp only [fieldsB,List.map_map]
  rfl
 rw [hlen,hmap] at hO
 exact ⟨A,by rw [hlen],by rw [hlen];exact Sl.aU hO,Ext.of_below hb⟩
theorem F5 (lo:Nat) (p:Value) (xs:List Str) (s:Str) (w:World) (hp:Strs lo w p xs) :
  Calls Tryz.prog 162 #[p,str s] w (Ret fun v w'=>∃ n:Int,v = .int .i64 n∧(0≤n↔s∈xs)∧w'=w):=by
 have hle:=Sl.le hp
 refine T.enter (vs:=[p,str s]) func162 rfl ntmps162 rfl ?_
 refine T.q (L.a rfl (L.nil (T.seq (T.q (L.m rfl (L.o (O.len runUnderlying61 rfl (Sl.val hp) (L.m rfl (L.nil (T.block (?_)))))))))))
 refine T.loop (σ:=Nat) (fun i=>[(0,p),(1,str s),(7,.int .i64 xs.length),(8,.int .i64 i)]) (fun i w'=>i≤xs.length∧w'=w∧∀ k,k<i→xs.getD k []≠s) (fun i=>xs.length-i) (0) ⟨rfl,rfl,rfl,rfl,trivial⟩ ⟨Nat.zero_le _,rfl,fun k hk=>absurd hk (Nat.not_lt_zero _)⟩ ?_
 rintro i w1 ⟨hi,rfl,hall⟩
 refine T.q (L.o (O.aV rfl rfl (fun hlt=>?_) (fun hlt=>?_)))
 ·refine L.nil (?_)
  have hlt':i<xs.length:=by omega
  refine T.seq (T.ct (T.skip (T.seq (T.block (T.q (L.m rfl (L.a rfl (L.nil (T.q (L.m rfl (L.m rfl (L.m rfl (L.o (O.indexAddr runUnderlying61 sizeOf9 rfl rfl hp (by omega) (by omega) (L.o (O.load isAgg9 rfl (hp.at hlt') (L.o (O.lY runUnderlying9 rfl rfl (fun hb=>?_) (fun hb=>?_)))))))))))))))))))
  ·refine L.nil (T.ct (T.q (L.m rfl (L.a rfl (L.nil (T.aN results162 rfl ⟨i,rfl,⟨fun _=>by rw [hb,au hlt'];exact List.getElem_mem hlt',fun _=>by omega⟩,rfl⟩))))))
  refine L.nil (T.cf (T.skip (T.blk (T.region (L.o (O.aC rfl rfl (by omega) (L.m rfl (L.nil (T.again (i+1) (by omega) ⟨rfl,rfl,rfl,rfl,trivial⟩ ⟨hlt',rfl,fun k hk=>by rcases Nat.lt_or_ge k i with h|h;exact hall k h;obtain rfl:k=i:=(by omega);exact fun e=>hb e.symm⟩)))))))))
 refine L.nil (?_)
 obtain rfl:i=xs.length:=by omega
 refine T.seq (T.cf (T.exit rfl (T.q (L.a rfl (L.nil (T.aN results162 rfl ⟨-1,rfl,⟨fun h=>by omega,fun h=>?_⟩,rfl⟩))))))
 obtain ⟨k,hk,e⟩:=List.getElem_of_mem h
 have:=hall k hk
 rw [au hk,e] at this
 exact absurd rfl this
theorem F6 (lo:Nat) (p:Value) (xs:List Str) (s:Str) (w:World) (hp:Strs lo w p xs) :
  Calls Tryz.prog 124 #[p,str s] w (Ret fun v w'=>v = .bool (decide (s∈xs))∧w'=w):=by
 refine T.enter (vs:=[p,str s]) func124 rfl ntmps124 rfl ?_
 refine T.q (L.a rfl (L.nil (T.q (L.m rfl (L.m rfl (L.o (O.call (xs:=[.tmp 5,.tmp 6]) call162 rfl rfl (F5 lo p xs s w hp) (fun v1 w1 hq=>?_))))))))
 obtain ⟨n,rfl,hn,rfl⟩:=hq
 refine L.o (O.geq rfl rfl (L.a rfl (L.nil (T.aN results124 rfl ⟨congrArg Value.bool (decide_eq_decide.2 hn),rfl⟩))))
theorem aX (lo:Nat) (p:Value) (xs:List Str) (b:Nat) (cs:List Value) (s:Str) (w:World) (hp:Strs lo w p xs) (hB:Blk w b cs 129) (h6:cs[6]?=some (str s)) :
  Calls Tryz.prog 68 #[.pointer (some ⟨b,0,none⟩),p] w (Ret fun v w'=>v = .bool (decide (s∈xs))∧w'=w):=by
 refine T.enter (vs:=[.pointer (some ⟨b,0,none⟩),p]) func68 rfl ntmps68 rfl ?_
 refine T.q (L.a rfl (L.nil (T.q (L.m rfl (L.m rfl (L.o (O.nilCheck rfl (L.o (O.fieldAddr runUnderlying129 rfl sizeOf9 rfl (L.o (O.load isAgg9 rfl (hB.cell h6) (L.o (O.call (xs:=[.tmp 5,.tmp 9]) call124 rfl rfl (F6 lo p xs s w hp) (fun v1 w1 hq=>?_))))))))))))))
 obtain ⟨rfl,rfl⟩:=hq
 refine L.a rfl (L.nil (T.aN results68 rfl ⟨rfl,rfl⟩))
end Go.Proofs.YtnlonpcbgjbbaaaGreatDoor
