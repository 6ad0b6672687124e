/-
  Distances, canonical labels, drafts, connected districts, moves: plain law. Conditions: none (general lemmas).
-/
import Derived.Test.YthjdljbghjelfaaDoorMg
set_option linter.unusedVariables false
set_option linter.unusedSimpArgs false
set_option maxRecDepth 20000
namespace Go.Proofs.YthjdljbghjelfaaDoor
open Go Go.E
attribute [local irreducible] Go.E.T Go.E.L Go.E.O Go.E.Ob

def agree (f : Nat → Nat) (xs ys : List Int) : Nat → Int
  | 0 => 0
  | i + 1 => agree f xs ys i + (if xs.getD i 0 = (f (ys.getD i 0).toNat : Int) then 1 else 0)
def Lab (xs : List Int) : Prop := ∀ i, i < xs.length → 0 ≤ xs.getD i 0 ∧ xs.getD i 0 < 8
def P8 (f : Nat → Nat) : Prop := (∀ x, x < 8 → f x < 8) ∧ ∀ x y, x < 8 → y < 8 → f x = f y → x = y
theorem agree_le (f : Nat → Nat) (xs ys : List Int) : ∀ i : Nat, 0 ≤ agree f xs ys i ∧ agree f xs ys i ≤ i
  | 0 => ⟨Int.le_refl _, Int.le_refl _⟩
  | i + 1 => by
    have := agree_le f xs ys i
    simp only [agree]; split <;> omega
theorem agree_congr {f g : Nat → Nat} {xs ys : List Int} (hy : Lab ys) (h : ∀ y, y < 8 → f y = g y) : ∀ i, i ≤ ys.length → agree f xs ys i = agree g xs ys i
  | 0, _ => rfl
  | i + 1, hi => by
    have h1 := hy i (by omega)
    simp only [agree]
    rw [agree_congr hy h i (by omega), h _ (show (ys.getD i 0).toNat < 8 by omega)]
theorem score_set {mat : List Int} {a b : Nat} (hm : a * 8 + b < mat.length) (hb : b < 8) : ∀ (s : List Nat) (d : Nat), d + s.length ≤ 8 →
    scoreF (mat.set (a * 8 + b) (mat.getD (a * 8 + b) 0 + 1)) d s = scoreF mat d s + (if d ≤ b ∧ s[b - d]? = some a then 1 else 0)
  | [], d, _ => by simp [scoreF]
  | x :: r, d, h => by
    simp only [List.length_cons] at h
    have ih := score_set hm hb r (d + 1) (by omega)
    simp only [scoreF]
    rw [ih, getD_set]
    by_cases hd : d = b
    · subst hd
      rw [if_neg (show ¬ (d + 1 ≤ d ∧ r[d - (d + 1)]? = some a) by omega), Nat.sub_self]
      by_cases hx : a = x
      · subst hx
        rw [if_pos ⟨rfl, hm⟩, if_pos ⟨Nat.le_refl _, by simp⟩]; omega
      · rw [if_neg (fun h => hx (by omega)), if_neg (fun h => hx (by have := h.2; simp at this; exact this.symm))]; omega
    · rw [if_neg (show ¬ (a * 8 + b = x * 8 + d ∧ x * 8 + d < mat.length) by omega)]
      by_cases hlt : d < b
      · have e : (x :: r)[b - d]? = r[b - (d + 1)]? := by rw [show b - d = (b - (d + 1)) + 1 by omega]; rfl
        rw [e]
        by_cases hc : r[b - (d + 1)]? = some a
        · rw [if_pos ⟨by omega, hc⟩, if_pos ⟨by omega, hc⟩]; omega
        · rw [if_neg (fun h => hc h.2), if_neg (fun h => hc h.2)]; omega
      · rw [if_neg (by omega), if_neg (by omega)]; omega
theorem score_zero : ∀ (s : List Nat) (d : Nat), scoreF (List.replicate 64 0) d s = 0
  | [], d => rfl
  | x :: r, d => by
    simp only [scoreF, score_zero r (d + 1)]
    rw [List.getD_eq_getElem?_getD, List.getElem?_replicate]
    split <;> rfl
def toF (s : List Nat) : Nat → Nat := fun y => s.getD y 0
def ofF (f : Nat → Nat) : List Nat := (List.range 8).map f
theorem score_agree {xs ys : List Int} (hx : Lab xs) (hy : Lab ys) (hl : xs.length = ys.length) {s : List Nat} (hs : s.length = 8) : ∀ i, i ≤ xs.length → scoreF (matTo xs ys i) 0 s = agree (toF s) xs ys i
  | 0, _ => score_zero s 0
  | i + 1, hi => by
    have h1 := hx i (by omega)
    have h2 := hy i (by omega)
    have hml := matTo_len xs ys i
    simp only [matTo, agree]
    rw [score_set (by omega) (by omega) s 0 (by omega), score_agree hx hy hl hs i (by omega), Nat.sub_zero]
    congr 1
    have hlt : (ys.getD i 0).toNat < s.length := by omega
    have e : ∀ b, b < s.length → s[b]? = some (toF s b) := fun b hb => by unfold toF; rw [List.getD_eq_getElem?_getD, List.getElem?_eq_getElem hb]; rfl
    rw [e _ hlt]
    by_cases hc : xs.getD i 0 = (toF s (ys.getD i 0).toNat : Int)
    · rw [if_pos hc, if_pos ⟨Nat.zero_le _, by congr 1; omega⟩]
    · rw [if_neg hc, if_neg (fun h => hc (by have := Option.some.inj h.2; omega))]
theorem nodup_inj {s : List Nat} (h : s.Nodup) {i j : Nat} (hi : i < s.length) (hj : j < s.length) (he : s[i] = s[j]) : i = j := by
  have hp := List.pairwise_iff_getElem.1 h
  rcases Nat.lt_trichotomy i j with h1 | h1 | h1
  · exact absurd he (hp i j hi hj h1)
  · exact h1
  · exact absurd he.symm (hp j i hj hi h1)
theorem toF_p8 {s : List Nat} (hs : Inj s) (hl : s.length = 8) : P8 (toF s) := by
  have e : ∀ x, (h : x < 8) → toF s x = s[x]'(by omega) := fun x h => by unfold toF; rw [List.getD_eq_getElem?_getD, List.getElem?_eq_getElem (by omega)]; rfl
  refine ⟨fun x hx => ?_, fun x y hx hy h => ?_⟩
  · rw [e x hx]; exact hs.2 _ (List.getElem_mem _)
  · rw [e x hx, e y hy] at h
    exact nodup_inj hs.1 (by omega) (by omega) h
theorem ofF_inj {f : Nat → Nat} (hf : P8 f) : Inj (ofF f) := by
  refine ⟨?_, fun x hx => ?_⟩
  · refine List.pairwise_iff_getElem.2 fun i j hi hj hij he => ?_
    simp [ofF] at hi hj he
    have := hf.2 i j hi hj he
    omega
  · obtain ⟨y, hy, rfl⟩ := List.mem_map.1 hx
    exact hf.1 y (by simpa using hy)
theorem ofF_len (f : Nat → Nat) : (ofF f).length = 8 := by simp [ofF]
theorem toF_ofF (f : Nat → Nat) {y : Nat} (hy : y < 8) : toF (ofF f) y = f y := by
  unfold toF ofF
  rw [List.getD_eq_getElem?_getD, List.getElem?_map, List.getElem?_range hy]; rfl
theorem two_lab {xs ys : List Int} (h : twoErr xs ys = 0) : Lab xs ∧ Lab ys ∧ xs.length = ys.length ∧ 1 ≤ xs.length ∧ xs.length ≤ 64 := by
  obtain ⟨h1, h2, h3⟩ := two_len h
  have a := labels_mem h1
  have b := labels_mem h2
  exact ⟨a.2.2, b.2.2, h3, a.1, a.2.1⟩
theorem apart_spec {xs ys : List Int} (h : twoErr xs ys = 0) : (∃ f, P8 f ∧ agree f xs ys xs.length = xs.length - apartOf xs ys) ∧ ∀ f, P8 f → agree f xs ys xs.length ≤ xs.length - apartOf xs ys := by
  obtain ⟨hx, hy, hl, h1, h64⟩ := two_lab h
  obtain ⟨⟨s, hs, hsl, hv⟩, hmax⟩ := alike_most (matSmall (ys := ys) h64)
  have ha : (xs.length : Int) - apartOf xs ys = alikeF (matTo xs ys xs.length) 8 0 := by rw [apartOf, if_pos h]; omega
  rw [ha]
  refine ⟨⟨toF s, toF_p8 hs hsl, ?_⟩, fun f hf => ?_⟩
  · rw [← score_agree hx hy hl hsl _ (Nat.le_refl _), hv]
  · have := hmax (ofF f) (ofF_inj hf) (ofF_len f)
    rw [score_agree hx hy hl (ofF_len f) _ (Nat.le_refl _), agree_congr hy (fun y hy => toF_ofF f hy) _ (by omega)] at this
    exact this
theorem full_mem {s : List Nat} (hs : Inj s) (hl : s.length = 8) {a : Nat} (ha : a < 8) : a ∈ s := by
  obtain ⟨h1, h2, h3⟩ := bits_spec s hs
  have hb := pop_full _ h1 (by omega)
  have h4 := h3 a ha
  rw [hb] at h4
  have : ∀ a, a < 8 → 255 / 2 ^ a % 2 = 1 := by decide
  rw [this a ha] at h4
  exact Classical.byContradiction fun hn => by rw [if_neg hn] at h4; cases h4
theorem P8.inv {f : Nat → Nat} (hf : P8 f) : ∃ g, P8 g ∧ ∀ x, x < 8 → g (f x) = x ∧ f (g x) = x := by
  have hsur : ∀ a, a < 8 → ∃ x, x < 8 ∧ f x = a := fun a ha => by
    obtain ⟨x, hx, he⟩ := List.mem_map.1 (full_mem (ofF_inj hf) (ofF_len f) ha)
    exact ⟨x, by simpa using hx, he⟩
  have hch : ∀ a, ∃ x, a < 8 → x < 8 ∧ f x = a := fun a => by
    by_cases ha : a < 8
    · obtain ⟨x, h⟩ := hsur a ha; exact ⟨x, fun _ => h⟩
    · exact ⟨0, fun h => absurd h ha⟩
  have hg : ∀ a, a < 8 → Classical.choose (hch a) < 8 ∧ f (Classical.choose (hch a)) = a := fun a ha => Classical.choose_spec (hch a) ha
  refine ⟨fun a => Classical.choose (hch a), ⟨fun x hx => (hg x hx).1, fun x y hx hy he => ?_⟩, fun x hx => ⟨?_, (hg x hx).2⟩⟩
  · have := (hg x hx).2
    simp only at he
    rw [he, (hg y hy).2] at this
    exact this.symm
  · exact hf.2 _ _ (hg _ (hf.1 x hx)).1 hx (hg _ (hf.1 x hx)).2
theorem P8.comp {f g : Nat → Nat} (hf : P8 f) (hg : P8 g) : P8 (fun x => f (g x)) := ⟨fun x hx => hf.1 _ (hg.1 x hx), fun x y hx hy h => hg.2 x y hx hy (hf.2 _ _ (hg.1 x hx) (hg.1 y hy) h)⟩
theorem P8.id : P8 (fun x => x) := ⟨fun x h => h, fun x y _ _ h => h⟩
theorem agree_inv {f g : Nat → Nat} (hfg : ∀ x, x < 8 → g (f x) = x ∧ f (g x) = x) {xs ys : List Int} (hx : Lab xs) (hy : Lab ys) (hl : xs.length = ys.length) : ∀ i, i ≤ xs.length → agree f xs ys i = agree g ys xs i
  | 0, _ => rfl
  | i + 1, hi => by
    have h1 := hx i (by omega)
    have h2 := hy i (by omega)
    simp only [agree]
    rw [agree_inv hfg hx hy hl i (by omega)]
    congr 1
    have a1 := hfg (xs.getD i 0).toNat (by omega)
    have a2 := hfg (ys.getD i 0).toNat (by omega)
    by_cases hc : xs.getD i 0 = (f (ys.getD i 0).toNat : Int)
    · rw [if_pos hc, if_pos]
      have e : (xs.getD i 0).toNat = f (ys.getD i 0).toNat := by omega
      rw [e, a2.1]; omega
    · rw [if_neg hc, if_neg]
      intro hd
      have e : (ys.getD i 0).toNat = g (xs.getD i 0).toNat := by omega
      exact hc (by rw [e, a1.2]; omega)
theorem agree_tri {f g : Nat → Nat} {xs ys zs : List Int} (hy : Lab ys) : ∀ i : Nat, i ≤ ys.length → agree f xs zs i + agree g zs ys i ≤ i + agree (fun x => f (g x)) xs ys i
  | 0, _ => by simp [agree]
  | i + 1, hi => by
    have ih := agree_tri (f := f) (g := g) (xs := xs) (zs := zs) hy i (by omega)
    simp only [agree]
    by_cases h1 : xs.getD i 0 = (f (zs.getD i 0).toNat : Int)
    · by_cases h2 : zs.getD i 0 = (g (ys.getD i 0).toNat : Int)
      · rw [if_pos h1, if_pos h2, if_pos (by rw [h1, h2, Int.toNat_natCast])]; omega
      · rw [if_pos h1, if_neg h2]; split <;> omega
    · rw [if_neg h1]; split <;> split <;> omega
theorem apart_nonneg {xs ys : List Int} (h : twoErr xs ys = 0) : 0 ≤ apartOf xs ys := by
  obtain ⟨⟨f, _, he⟩, _⟩ := apart_spec h
  have := agree_le f xs ys xs.length
  omega
theorem two_symm {xs ys : List Int} (h : twoErr xs ys = 0) : twoErr ys xs = 0 := by
  obtain ⟨h1, h2, h3⟩ := two_len h
  exact twoErr_ok ⟨h2, h1⟩ h3.symm
theorem apart_symm {xs ys : List Int} (h : twoErr xs ys = 0) : apartOf xs ys = apartOf ys xs := by
  have key : ∀ {xs ys : List Int}, twoErr xs ys = 0 → apartOf ys xs ≤ apartOf xs ys := fun {xs ys} h => by
    obtain ⟨hx, hy, hl, _, _⟩ := two_lab h
    obtain ⟨⟨f, hf, he⟩, _⟩ := apart_spec h
    obtain ⟨g, hg, hfg⟩ := hf.inv
    have := (apart_spec (two_symm h)).2 g hg
    rw [← hl, ← agree_inv hfg hx hy hl _ (Nat.le_refl _), he] at this
    omega
  have := key h
  have := key (two_symm h)
  omega
theorem apart_tri {xs ys zs : List Int} (h : twoErr xs ys = 0) (h1 : twoErr xs zs = 0) (h2 : twoErr zs ys = 0) : apartOf xs ys ≤ apartOf xs zs + apartOf zs ys := by
  obtain ⟨hx, hy, hl, _, _⟩ := two_lab h
  obtain ⟨_, _, hl1, _, _⟩ := two_lab h1
  obtain ⟨⟨f, hf, he⟩, _⟩ := apart_spec h1
  obtain ⟨⟨g, hg, hg2⟩, _⟩ := apart_spec h2
  have h3 := (apart_spec h).2 _ (hf.comp hg)
  have h4 := agree_tri (f := f) (g := g) (xs := xs) (zs := zs) hy xs.length (by omega)
  rw [← hl1] at hg2
  omega
/-! ### Assignments that are given in part -/
theorem pop_le (t : Nat) : pop t ≤ 8 := by unfold pop; omega
theorem inj_len {s : List Nat} (h : Inj s) : s.length ≤ 8 := by have := (bits_spec s h).2.1; have := pop_le (bits s); omega
theorem inj_cons {s : List Nat} {x : Nat} (h : Inj s) (hx : x < 8) (hn : x ∉ s) : Inj (x :: s) := ⟨List.nodup_cons.2 ⟨hn, h.1⟩, fun y hy => by rcases List.mem_cons.1 hy with rfl | hy; exact hx; exact h.2 y hy⟩
theorem extend : ∀ (c : Nat) (ps : List (Nat × Nat)), ps.length + c = 8 → Inj (ps.map (·.1)) → Inj (ps.map (·.2)) → ∃ f, P8 f ∧ ∀ p ∈ ps, f p.1 = p.2
  | 0, ps, hl, hk, hv => by
    have hkl : (ps.map (·.1)).length = 8 := by simpa using hl
    have hf : ∀ p ∈ ps, (match ps.find? (fun q => q.1 == p.1) with | some q => q.2 | none => 0) = p.2 := fun p hp => by
      cases hfi : ps.find? (fun q => q.1 == p.1) with
      | none => exact absurd (List.find?_eq_none.1 hfi p hp) (by simp)
      | some q =>
        have hq := List.mem_of_find?_eq_some hfi
        have hqe : q.1 = p.1 := by have := List.find?_some hfi; simpa using this
        obtain ⟨i, hi, rfl⟩ := List.mem_iff_getElem.1 hp
        obtain ⟨j, hj, rfl⟩ := List.mem_iff_getElem.1 hq
        have : j = i := nodup_inj hk.1 (i := j) (j := i) (by simpa using hj) (by simpa using hi) (by simpa using hqe)
        subst this; rfl
    have hmem : ∀ k, k < 8 → ∃ p ∈ ps, p.1 = k := fun k hk8 => by
      obtain ⟨p, hp, he⟩ := List.mem_map.1 (full_mem hk hkl hk8)
      exact ⟨p, hp, he⟩
    refine ⟨fun k => match ps.find? (fun q => q.1 == k) with | some q => q.2 | none => 0, ⟨fun k hk8 => ?_, fun k k' h1 h2 he => ?_⟩, hf⟩
    · obtain ⟨p, hp, rfl⟩ := hmem k hk8
      simp only
      rw [hf p hp]
      exact hv.2 _ (List.mem_map.2 ⟨p, hp, rfl⟩)
    · obtain ⟨p, hp, rfl⟩ := hmem k h1
      obtain ⟨q, hq, rfl⟩ := hmem k' h2
      simp only at he
      rw [hf p hp, hf q hq] at he
      obtain ⟨i, hi, rfl⟩ := List.mem_iff_getElem.1 hp
      obtain ⟨j, hj, rfl⟩ := List.mem_iff_getElem.1 hq
      have : i = j := nodup_inj hv.1 (i := i) (j := j) (by simpa using hi) (by simpa using hj) (by simpa using he)
      subst this; rfl
  | c + 1, ps, hl, hk, hv => by
    obtain ⟨a1, a2, _⟩ := bits_spec _ hk
    obtain ⟨b1, b2, _⟩ := bits_spec _ hv
    obtain ⟨k, hk8, hkf⟩ := pop_free _ a1 (by rw [a2]; simp; omega)
    obtain ⟨v, hv8, hvf⟩ := pop_free _ b1 (by rw [b2]; simp; omega)
    obtain ⟨f, h1, h2⟩ := extend c ((k, v) :: ps) (by simp; omega) (inj_cons hk hk8 ((bits_free hk hk8).1 hkf)) (inj_cons hv hv8 ((bits_free hv hv8).1 hvf))
    exact ⟨f, h1, fun p hp => h2 p (List.mem_cons_of_mem _ hp)⟩
theorem alike_pairs {xs ys : List Int} (hx : Lab xs) (hy : Lab ys) (hl : xs.length = ys.length) (ha : AlikeTo xs ys xs.length) : ∀ i, i ≤ xs.length → ∃ ps : List (Nat × Nat), Inj (ps.map (·.1)) ∧ Inj (ps.map (·.2)) ∧
    (∀ j, j < i → ((ys.getD j 0).toNat, (xs.getD j 0).toNat) ∈ ps) ∧ ∀ p ∈ ps, ∃ j, j < i ∧ p = ((ys.getD j 0).toNat, (xs.getD j 0).toNat)
  | 0, _ => ⟨[], ⟨List.nodup_nil, fun x h => by cases h⟩, ⟨List.nodup_nil, fun x h => by cases h⟩, fun j h => absurd h (Nat.not_lt_zero _), fun p h => by cases h⟩
  | i + 1, hi => by
    obtain ⟨ps, h1, h2, h3, h4⟩ := alike_pairs hx hy hl ha i (by omega)
    have hxi := hx i (by omega)
    have hyi := hy i (by omega)
    by_cases hm : ((ys.getD i 0).toNat, (xs.getD i 0).toNat) ∈ ps
    · refine ⟨ps, h1, h2, fun j hj => ?_, fun p hp => ?_⟩
      · by_cases hji : j = i
        · subst hji; exact hm
        · exact h3 j (by omega)
      · obtain ⟨j, hj, he⟩ := h4 p hp
        exact ⟨j, by omega, he⟩
    · have clash : ∀ j, j < i → (ys.getD j 0).toNat = (ys.getD i 0).toNat ∨ (xs.getD j 0).toNat = (xs.getD i 0).toNat → False := fun j hj h => by
        have a := hx j (by omega)
        have b := hy j (by omega)
        have hiff := ha j i (by omega) (by omega)
        have : xs.getD j 0 = xs.getD i 0 ∧ ys.getD j 0 = ys.getD i 0 := by
          rcases h with h | h
          · have : ys.getD j 0 = ys.getD i 0 := by omega
            exact ⟨hiff.2 this, this⟩
          · have : xs.getD j 0 = xs.getD i 0 := by omega
            exact ⟨this, hiff.1 this⟩
        exact hm (by rw [← this.1, ← this.2]; exact h3 j hj)
      refine ⟨((ys.getD i 0).toNat, (xs.getD i 0).toNat) :: ps, inj_cons h1 (by simp only; omega) (fun hk => ?_), inj_cons h2 (by simp only; omega) (fun hk => ?_), fun j hj => ?_, fun p hp => ?_⟩
      · obtain ⟨p, hp, he⟩ := List.mem_map.1 hk
        obtain ⟨j, hj, rfl⟩ := h4 p hp
        exact clash j hj (.inl he)
      · obtain ⟨p, hp, he⟩ := List.mem_map.1 hk
        obtain ⟨j, hj, rfl⟩ := h4 p hp
        exact clash j hj (.inr he)
      · by_cases hji : j = i
        · subst hji; exact List.mem_cons_self ..
        · exact List.mem_cons_of_mem _ (h3 j (by omega))
      · rcases List.mem_cons.1 hp with rfl | hp
        · exact ⟨i, by omega, rfl⟩
        · obtain ⟨j, hj, he⟩ := h4 p hp
          exact ⟨j, by omega, he⟩
theorem alike_fun {xs ys : List Int} (hx : Lab xs) (hy : Lab ys) (hl : xs.length = ys.length) (ha : AlikeTo xs ys xs.length) : ∃ f, P8 f ∧ ∀ j, j < xs.length → xs.getD j 0 = (f (ys.getD j 0).toNat : Int) := by
  obtain ⟨ps, h1, h2, h3, _⟩ := alike_pairs hx hy hl ha _ (Nat.le_refl _)
  have hlen := inj_len h1
  rw [List.length_map] at hlen
  obtain ⟨f, hf, hp⟩ := extend (8 - ps.length) ps (by omega) h1 h2
  refine ⟨f, hf, fun j hj => ?_⟩
  have h4 := hp _ (h3 j hj)
  simp only at h4
  have := hx j hj
  rw [h4]; omega
theorem agree_full {f : Nat → Nat} {xs ys : List Int} : ∀ i : Nat, agree f xs ys i = i → ∀ j, j < i → xs.getD j 0 = (f (ys.getD j 0).toNat : Int)
  | i + 1, h, j, hj => by
    have hle := agree_le f xs ys i
    simp only [agree] at h
    split at h
    · rename_i hc
      by_cases hji : j = i
      · subst hji; exact hc
      · exact agree_full i (by omega) j (by omega)
    · omega
theorem agree_of {f : Nat → Nat} {xs ys : List Int} : ∀ i : Nat, (∀ j, j < i → xs.getD j 0 = (f (ys.getD j 0).toNat : Int)) → agree f xs ys i = i
  | 0, _ => rfl
  | i + 1, h => by
    simp only [agree]
    rw [agree_of i (fun j hj => h j (by omega)), if_pos (h i (by omega))]; omega
theorem apart_zero {xs ys : List Int} (h : twoErr xs ys = 0) : apartOf xs ys = 0 ↔ AlikeTo xs ys xs.length := by
  obtain ⟨hx, hy, hl, _, _⟩ := two_lab h
  obtain ⟨⟨f, hf, he⟩, hmax⟩ := apart_spec h
  have hnn := apart_nonneg h
  constructor
  · intro h0
    rw [h0] at he
    have hall := agree_full (f := f) (xs := xs) (ys := ys) xs.length (by omega)
    intro j k hj hk
    rw [hall j hj, hall k hk]
    have a := hy j (by omega)
    have b := hy k (by omega)
    constructor
    · intro e
      have := hf.2 _ _ (show (ys.getD j 0).toNat < 8 by omega) (show (ys.getD k 0).toNat < 8 by omega) (by omega)
      omega
    · intro e; rw [e]
  · intro ha
    obtain ⟨g, hg, hgj⟩ := alike_fun hx hy hl ha
    have := hmax g hg
    rw [agree_of _ hgj] at this
    omega
theorem agree_sub {f h : Nat → Nat} {xs ys cs : List Int} (hc : ∀ j, j < ys.length → cs.getD j 0 = (h (ys.getD j 0).toNat : Int)) : ∀ i, i ≤ ys.length → agree f xs cs i = agree (fun x => f (h x)) xs ys i
  | 0, _ => rfl
  | i + 1, hi => by
    simp only [agree]
    rw [agree_sub hc i (by omega), hc i (by omega), Int.toNat_natCast]
theorem apart_canon {xs ys cs : List Int} (h : twoErr xs ys = 0) (h2 : twoErr xs cs = 0) (ha : AlikeTo cs ys cs.length) : apartOf xs cs = apartOf xs ys := by
  obtain ⟨hx, hy, hl, _, _⟩ := two_lab h
  obtain ⟨_, hcl, hl2, _, _⟩ := two_lab h2
  obtain ⟨g, hg, hgj⟩ := alike_fun hcl hy (by omega) ha
  obtain ⟨g', hg', hgg⟩ := hg.inv
  obtain ⟨⟨f1, hf1, e1⟩, m1⟩ := apart_spec h
  obtain ⟨⟨f2, hf2, e2⟩, m2⟩ := apart_spec h2
  have a := m1 _ (hf2.comp hg)
  rw [← agree_sub (xs := xs) (fun j hj => hgj j (by omega)) _ (by omega), e2] at a
  have b := m2 _ (hf1.comp hg')
  rw [agree_sub (xs := xs) (fun j hj => hgj j (by omega)) _ (by omega), agree_congr hy (g := f1) (fun y hy8 => by show f1 (g' (g y)) = f1 y; rw [(hgg y hy8).1]) _ (by omega), e1] at b
  omega
theorem apart_lt {xs ys : List Int} (h : twoErr xs ys = 0) : apartOf xs ys < xs.length := by
  obtain ⟨hx, hy, hl, h1, _⟩ := two_lab h
  have a := hx 0 (by omega)
  have b := hy 0 (by omega)
  obtain ⟨f, hf, hp⟩ := extend 7 [((ys.getD 0 0).toNat, (xs.getD 0 0).toNat)] rfl ⟨by simp, fun x hx => by simp only [List.map_cons, List.map_nil, List.mem_singleton] at hx; omega⟩ ⟨by simp, fun x hx => by simp only [List.map_cons, List.map_nil, List.mem_singleton] at hx; omega⟩
  have h0 := hp _ (List.mem_singleton.2 rfl)
  simp only at h0
  have mono : ∀ i : Nat, 1 ≤ i → 1 ≤ agree f xs ys i := by
    intro i
    induction i with
    | zero => intro h; omega
    | succ i ih =>
      intro _
      simp only [agree]
      by_cases hi : i = 0
      · subst hi
        rw [if_pos (by rw [h0]; omega)]; simp [agree]
      · have := ih (by omega)
        split <;> omega
  have := (apart_spec h).2 f hf
  have := mono xs.length h1
  omega
/-- One entry changed. -/
theorem apart_one {xs ys : List Int} (h : twoErr xs ys = 0) {u : Nat} (hd : ∀ j, j < xs.length → j ≠ u → xs.getD j 0 = ys.getD j 0) : apartOf xs ys = 0 ∨ apartOf xs ys = 1 := by
  obtain ⟨hx, hy, hl, h1, _⟩ := two_lab h
  have hnn := apart_nonneg h
  have key : ∀ i : Nat, i ≤ xs.length → (i : Int) - (if u < i then 1 else 0) ≤ agree (fun x => x) xs ys i := by
    intro i
    induction i with
    | zero => intro _; simp [agree]
    | succ i ih =>
      intro hi
      have ih := ih (by omega)
      have b := hy i (by omega)
      simp only [agree]
      by_cases hu : i = u
      · subst hu
        rw [if_neg (Nat.lt_irrefl _)] at ih
        rw [if_pos (Nat.lt_succ_self _)]
        split <;> omega
      · have := hd i (by omega) hu
        rw [if_pos (show xs.getD i 0 = ((ys.getD i 0).toNat : Int) by omega)]
        by_cases hlt : u < i
        · rw [if_pos hlt] at ih; rw [if_pos (by omega)]; omega
        · rw [if_neg hlt] at ih; rw [if_neg (by omega)]; omega
  have h2 := (apart_spec h).2 _ P8.id
  have h3 := key xs.length (Nat.le_refl _)
  have h4 : (if u < xs.length then (1 : Int) else 0) ≤ 1 := by split <;> omega
  omega
end Go.Proofs.YthjdljbghjelfaaDoor
set_option linter.unusedVariables false
set_option linter.unusedSimpArgs false
set_option maxRecDepth 20000
namespace Go.Proofs.YthjdljbghjelfaaDoor
open Go Go.E
attribute [local irreducible] Go.E.T Go.E.L Go.E.O Go.E.Ob

theorem nm_vals (xs : List Int) : ∀ (i t : Nat) (p : KV), (nmTo xs i)[t]? = some p → p.2 = t
  | 0, t, p, h => by simp [nmTo] at h
  | i + 1, t, p, h => by
    simp only [nmTo, nmStep] at h
    split at h
    · exact nm_vals xs i t p h
    · by_cases ht : t < (nmTo xs i).length
      · rw [List.getElem?_append_left ht] at h; exact nm_vals xs i t p h
      · rw [List.getElem?_append_right (by omega)] at h
        have : t = (nmTo xs i).length := by
          have := (List.getElem?_eq_some_iff.1 h).1
          simp at this; omega
        subst this
        simp at h; subst h; rfl
theorem nm_keys {xs : List Int} (hx : Lab xs) : ∀ i, i ≤ xs.length → KeysNd (nmTo xs i) ∧ Inj ((nmTo xs i).map (·.1.toNat)) ∧ ∀ p ∈ nmTo xs i, 0 ≤ p.1 ∧ p.1 < 8
  | 0, _ => ⟨List.nodup_nil, ⟨List.nodup_nil, fun x h => by cases h⟩, fun p h => by cases h⟩
  | i + 1, hi => by
    obtain ⟨h1, h2, h3⟩ := nm_keys hx i (by omega)
    have hxi := hx i (by omega)
    simp only [nmTo, nmStep]
    split
    · exact ⟨h1, h2, h3⟩
    · rename_i hn
      have hnone : findI (nmTo xs i) (xs.getD i 0) 0 = none := by
        simp only [getI] at hn
        cases hf : findI (nmTo xs i) (xs.getD i 0) 0 with
        | none => rfl
        | some q => rw [hf] at hn; simp at hn
      have hk := find_none hnone
      refine ⟨?_, ?_, fun p hp => ?_⟩
      · unfold KeysNd
        rw [List.map_append]
        exact List.nodup_append.2 ⟨h1, by simp, fun a ha b hb e => hk (by rw [List.map_cons, List.map_nil, List.mem_singleton] at hb; have e2 : a = xs.getD i 0 := e.trans hb; exact e2 ▸ ha)⟩
      · rw [List.map_append]
        refine inj_snoc.2 ⟨h2, by simp only; omega, fun hm => ?_⟩
        obtain ⟨p, hp, he⟩ := List.mem_map.1 hm
        have := h3 p hp
        simp only at he
        exact hk (List.mem_map.2 ⟨p, hp, by omega⟩)
      · rcases List.mem_append.1 hp with hp | hp
        · exact h3 p hp
        · simp at hp; subst hp; exact hxi
theorem nm_len8 {xs : List Int} (hx : Lab xs) : (nmTo xs xs.length).length ≤ 8 := by
  have := inj_len (nm_keys hx _ (Nat.le_refl _)).2.1
  simpa using this
theorem canon_get {xs : List Int} {j : Nat} (h : j < xs.length) : ∃ v, getI (nmTo xs xs.length) (xs.getD j 0) = some v ∧ (canonOf xs).getD j 0 = v := by
  obtain ⟨v, hv⟩ := nmTo_has xs (i := xs.length) h
  exact ⟨v, hv, by unfold canonOf; rw [canTo_get xs h, hv]; rfl⟩
theorem canon_self (xs : List Int) : AlikeTo (canonOf xs) xs (canonOf xs).length := by
  intro j k hj hk
  rw [canonOf_len] at hj hk
  obtain ⟨v, hv, e1⟩ := canon_get hj
  obtain ⟨u, hu, e2⟩ := canon_get hk
  rw [e1, e2]
  constructor
  · intro h; subst h; exact nm_inj xs _ hv hu
  · intro h; rw [h] at hv; rw [hv] at hu; exact Option.some.inj hu
theorem canon_val {xs : List Int} {j : Nat} (h : j < xs.length) : 0 ≤ (canonOf xs).getD j 0 ∧ (canonOf xs).getD j 0 < (nmTo xs xs.length).length := by
  obtain ⟨v, hv, e⟩ := canon_get h
  rw [e]
  exact ⟨nm_pos xs _ _ _ hv, nm_lt xs _ hv⟩
theorem labels_intro {xs : List Int} {k : Int} (h1 : 1 ≤ xs.length) (h2 : xs.length ≤ 64) (h : ∀ i, i < xs.length → 0 ≤ xs.getD i 0 ∧ xs.getD i 0 < k) : labelsOk xs k = true := by
  rw [labels_len (i := xs.length) rfl, decide_eq_true h1, decide_eq_true h2]; rfl
  rw [List.take_length]
  refine List.all_eq_true.2 fun x hx => ?_
  obtain ⟨j, hj, rfl⟩ := List.mem_iff_getElem.1 hx
  have := h j hj
  rw [getD_get hj] at this
  simpa [okl] using this
theorem canon_ok {xs : List Int} (h : labelsOk xs 8 = true) : labelsOk (canonOf xs) 8 = true := by
  obtain ⟨h1, h2, h3⟩ := labels_mem h
  have h8 := nm_len8 (xs := xs) h3
  refine labels_intro (by rw [canonOf_len]; exact h1) (by rw [canonOf_len]; exact h2) fun i hi => ?_
  have := canon_val (xs := xs) (j := i) (by rwa [canonOf_len] at hi)
  omega
theorem alike_symm {xs ys : List Int} {i : Nat} (h : AlikeTo xs ys i) : AlikeTo ys xs i := fun j k hj hk => (h j k hj hk).symm
theorem canon_idem (xs : List Int) : canonOf (canonOf xs) = canonOf xs := (canon_iff (canonOf_len xs)).2 (canon_self xs)
/-! ### How many districts -/
theorem maxTo_ge {xs : List Int} : ∀ {i j : Nat}, j < i → xs.getD j 0 + 1 ≤ maxTo xs i
  | i + 1, j, h => by
    simp only [maxTo]
    by_cases hj : j = i
    · subst hj; split <;> omega
    · have := maxTo_ge (xs := xs) (i := i) (j := j) (by omega)
      split <;> omega
theorem maxTo_is {xs : List Int} : ∀ (i : Nat), maxTo xs i = 0 ∨ ∃ j, j < i ∧ maxTo xs i = xs.getD j 0 + 1
  | 0 => .inl rfl
  | i + 1 => by
    simp only [maxTo]
    split
    · exact .inr ⟨i, by omega, rfl⟩
    · exact (maxTo_is i).imp id fun ⟨j, h1, h2⟩ => ⟨j, by omega, h2⟩
/-- The number of districts of canonical labels. -/
theorem canon_k {xs : List Int} (h : labelsOk xs 8 = true) : 1 ≤ maxTo (canonOf xs) xs.length ∧ maxTo (canonOf xs) xs.length ≤ 8 ∧ (∀ j, j < xs.length → (canonOf xs).getD j 0 < maxTo (canonOf xs) xs.length) ∧
    ∀ d : Nat, (d : Int) < maxTo (canonOf xs) xs.length → ∃ j, j < xs.length ∧ (canonOf xs).getD j 0 = d := by
  obtain ⟨h1, h2, h3⟩ := labels_mem h
  have h8 := nm_len8 (xs := xs) h3
  have g0 := maxTo_ge (xs := canonOf xs) (i := xs.length) (j := 0) (by omega)
  have v0 := canon_val (xs := xs) (j := 0) (by omega)
  have top : ∃ j, j < xs.length ∧ maxTo (canonOf xs) xs.length = (canonOf xs).getD j 0 + 1 := by
    rcases maxTo_is (xs := canonOf xs) xs.length with h | h
    · omega
    · exact h
  obtain ⟨t, ht, he⟩ := top
  have vt := canon_val (xs := xs) ht
  refine ⟨by omega, by omega, fun j hj => by have := maxTo_ge (xs := canonOf xs) hj; omega, fun d hd => ?_⟩
  have hdl : d < (nmTo xs xs.length).length := by omega
  have hp : (nmTo xs xs.length)[d]? = some ((nmTo xs xs.length)[d].1, (nmTo xs xs.length)[d].2) := List.getElem?_eq_getElem hdl
  have hv := nm_vals xs _ _ _ hp
  simp only at hv
  rw [hv] at hp
  have hg := getI_nd (nm_keys (xs := xs) h3 _ (Nat.le_refl _)).1 hp
  obtain ⟨j, hj, hx⟩ := nm_from xs _ hg
  obtain ⟨v, hv1, hv2⟩ := canon_get (xs := xs) hj
  rw [hx, hg] at hv1
  exact ⟨j, hj, by rw [hv2]; exact (Option.some.inj hv1).symm⟩
theorem used_intro {xs : List Int} {k : Nat} (hl : xs.length ≤ 64) (h : ∀ d : Nat, d < k → ∃ j, j < xs.length ∧ xs.getD j 0 = d) : allUsed xs k = true := by
  refine List.all_eq_true.2 fun m hm => ?_
  obtain ⟨d, hd, rfl⟩ := List.mem_map.1 hm
  obtain ⟨j, hj, he⟩ := h d (by simpa using hd)
  have hb := (mask_bit hl (d : Int) j).2 ⟨hj, he⟩
  rw [Bool.not_eq_true', decide_eq_false_iff_not]
  intro h0
  rw [h0] at hb; simp at hb
theorem planErr_intro {N : Int} {es : List (Int × Int)} {xs : List Int} {k : Int} (hg : graphErr N es = 0) (hk : 1 ≤ k ∧ k ≤ 8) (hl : (xs.length : Int) = N) (h : ∀ i, i < xs.length → 0 ≤ xs.getD i 0 ∧ xs.getD i 0 < k)
    (hu : ∀ d : Nat, (d : Int) < k → ∃ j, j < xs.length ∧ xs.getD j 0 = d) : planErr N es xs k = 0 := by
  obtain ⟨g1, g2, _⟩ := graphErr_ok hg
  exact planErr_ok hg hk ⟨hl, labels_intro (by omega) (by omega) h, used_intro (by omega) fun d hd => hu d (by omega)⟩
/-! ### Drafted graphs -/
def lexLt (p q : Int × Int) : Prop := p.1 < q.1 ∨ p.1 = q.1 ∧ p.2 < q.2
theorem edgesOk_snoc {N : Int} {q : Int × Int} (h0 : 0 ≤ q.1) (h1 : q.1 < q.2) (h2 : q.2 < N) : ∀ (l : List (Int × Int)) (p : Int × Int), edgesOk N p l = true → (∀ r ∈ p :: l, lexLt r q) → edgesOk N p (l ++ [q]) = true
  | [], p, _, h => by
    have := h p (List.mem_cons_self ..)
    simp only [List.nil_append, edgesOk, edgeOk, Bool.and_eq_true, decide_eq_true_eq, and_true]
    exact ⟨h0, h1, h2, this⟩
  | x :: l, p, hl, h => by
    simp only [List.cons_append, edgesOk, Bool.and_eq_true] at hl ⊢
    exact ⟨hl.1, edgesOk_snoc h0 h1 h2 l x hl.2 fun r hr => h r (List.mem_cons_of_mem _ hr)⟩
theorem row_ok {J : Nat → Nat → Bool} {n a : Nat} {E : List (Int × Int)} (hE : edgesOk n (-1, -1) E = true) (hlt : ∀ r ∈ E, r.1 < a) : ∀ j, a + 1 + j ≤ n → edgesOk n (-1, -1) (E ++ edRow J a j) = true ∧ ∀ r ∈ E ++ edRow J a j, r.1 < a ∨ r.1 = a ∧ r.2 < ((a + 1 + j : Nat) : Int)
  | 0, _ => ⟨by simpa [edRow] using hE, fun r hr => .inl (hlt r (by simpa [edRow] using hr))⟩
  | j + 1, h => by
    obtain ⟨h1, h2⟩ := row_ok hE hlt j (by omega)
    simp only [edRow]
    split
    · rw [← List.append_assoc]
      refine ⟨edgesOk_snoc (by simp only; omega) (by simp only; omega) (by simp only; omega) _ _ h1 fun r hr => ?_, fun r hr => ?_⟩
      · rcases List.mem_cons.1 hr with rfl | hr
        · left; simp only; omega
        · rcases h2 r hr with h3 | h3
          · left; exact h3
          · right; exact ⟨h3.1, by have := h3.2; simp only; omega⟩
      · rcases List.mem_append.1 hr with hr | hr
        · rcases h2 r hr with h3 | h3
          · exact .inl h3
          · exact .inr ⟨h3.1, by omega⟩
        · rw [List.mem_singleton] at hr; subst hr; right; refine ⟨rfl, ?_⟩; simp only; omega
    · rw [List.append_nil]
      exact ⟨h1, fun r hr => by rcases h2 r hr with h3 | h3; exact .inl h3; exact .inr ⟨h3.1, by omega⟩⟩
theorem edTo_ok (J : Nat → Nat → Bool) (n : Nat) : ∀ a, a ≤ n → edgesOk n (-1, -1) (edTo J n a) = true ∧ ∀ r ∈ edTo J n a, r.1 < a
  | 0, _ => ⟨rfl, fun r hr => by cases hr⟩
  | a + 1, h => by
    obtain ⟨h1, h2⟩ := edTo_ok J n a (by omega)
    obtain ⟨h3, h4⟩ := row_ok (J := J) h1 h2 (n - (a + 1)) (by omega)
    exact ⟨h3, fun r hr => by rcases h4 r hr with h | h <;> omega⟩
theorem edges_ok {N : Int} (h0 : 0 ≤ N) (ps : List Int) (ms : List (Int × Int)) : graphErr (unitsOf N) (edgesOf N ps ms) = 0 := by
  have hun : 1 ≤ unitsOf N ∧ unitsOf N ≤ 9 := by unfold unitsOf; omega
  have hl := edges_len N ps ms
  have h := (edTo_ok (joinedB N ps ms) (unitsOf N).toNat (unitsOf N).toNat (Nat.le_refl _)).1
  rw [show (((unitsOf N).toNat : Nat) : Int) = unitsOf N by omega] at h
  rw [graphErr, if_pos ⟨hun.1, by omega, by omega, h⟩]
theorem mem_row {J : Nat → Nat → Bool} {a b : Nat} (hJ : J a b = true) : ∀ j, a + 1 ≤ b → b < a + 1 + j → ((a : Int), (b : Int)) ∈ edRow J a j
  | 0, h1, h2 => by omega
  | j + 1, h1, h2 => by
    simp only [edRow]
    by_cases hb : b = a + 1 + j
    · subst hb; rw [if_pos hJ]; exact List.mem_append_right _ (List.mem_singleton.2 rfl)
    · exact List.mem_append_left _ (mem_row hJ j h1 (by omega))
theorem mem_edTo {J : Nat → Nat → Bool} {n a b : Nat} (hJ : J a b = true) (hab : a < b) (hb : b < n) : ∀ m, a < m → m ≤ n → ((a : Int), (b : Int)) ∈ edTo J n m
  | 0, h, _ => by omega
  | m + 1, h, hm => by
    simp only [edTo]
    by_cases ha : a = m
    · subst ha; exact List.mem_append_right _ (mem_row hJ _ (by omega) (by omega))
    · exact List.mem_append_left _ (mem_edTo hJ hab hb m (by omega) (by omega))
/-- A unit's parent is its neighbour. -/
theorem parent_edge {N : Int} (h0 : 0 ≤ N) {ps : List Int} (ho : Octs ps) (ms : List (Int × Int)) {b : Nat} (h1 : 1 ≤ b) (hb : (b : Int) < unitsOf N) : ∃ i, i < (edgesOf N ps ms).length ∧ eA (edgesOf N ps ms) i = (parentOf ps b).toNat ∧ eB (edgesOf N ps ms) i = b := by
  have hp := parentOf_lt ho h1
  have hJ : joinedB N ps ms (parentOf ps b).toNat b = true := by
    unfold joinedB
    rw [decide_eq_true (by omega)]; rfl
  have hm := mem_edTo hJ (by omega) (show b < (unitsOf N).toNat by omega) (unitsOf N).toNat (by omega) (Nat.le_refl _)
  obtain ⟨i, hi, he⟩ := List.mem_iff_getElem.1 hm
  have hi' : i < (edgesOf N ps ms).length := hi
  have he' : (edgesOf N ps ms).getD i (0, 0) = (((parentOf ps b).toNat : Int), (b : Int)) := by rw [getD_get hi']; exact he
  exact ⟨i, hi', by unfold eA; rw [he']; rfl, by unfold eB; rw [he']; rfl⟩
/-! ### Drafted plans -/
structure PlanInv (ps : List Int) (most : Int) (l : List Int) (k : Int) : Prop where
  k1 : 1 ≤ k
  kmost : k ≤ most
  lab : ∀ j, j < l.length → 0 ≤ l.getD j 0 ∧ l.getD j 0 < k
  used : ∀ d : Nat, (d : Int) < k → ∃ j, j < l.length ∧ l.getD j 0 = d
  tree : ∀ j, 1 ≤ j → j < l.length → l.getD j 0 = l.getD (parentOf ps j).toNat 0 ∨ ∀ i, i < j → l.getD i 0 ≠ l.getD j 0
theorem getD_app_left {l r : List Int} {j : Nat} (h : j < l.length) : (l ++ r).getD j 0 = l.getD j 0 := by rw [List.getD_eq_getElem?_getD, List.getElem?_append_left h, ← List.getD_eq_getElem?_getD]
theorem getD_app_last {l : List Int} {x : Int} : (l ++ [x]).getD l.length 0 = x := by rw [List.getD_eq_getElem?_getD, List.getElem?_append_right (Nat.le_refl _)]; simp
theorem plan_inv {ps ls : List Int} (ho : Octs ps) {most : Int} (hm : 1 ≤ most) : ∀ i, PlanInv ps most (plTo ps ls most i).1 (plTo ps ls most i).2
  | 0 => ⟨Int.le_refl _, hm, fun j hj => by simp [plTo] at hj ⊢; subst hj; simp, fun d hd => ⟨0, by simp [plTo], by simp [plTo] at hd ⊢; omega⟩, fun j h1 hj => by simp [plTo] at hj; omega⟩
  | i + 1 => by
    have ih := plan_inv (ls := ls) ho hm i
    have hlen := plTo_len ps ls most i
    have hpt := parentOf_lt ho (show 1 ≤ i + 1 by omega)
    have both : ∀ (x : Int) (k' : Int), (plTo ps ls most i).2 ≤ k' → k' ≤ most → 0 ≤ x → x < k' → (∀ d : Nat, (d : Int) < k' → (d : Int) < (plTo ps ls most i).2 ∨ x = d) → (x = (plTo ps ls most i).1.getD (parentOf ps (i + 1)).toNat 0 ∨ (plTo ps ls most i).2 ≤ x) →
        PlanInv ps most ((plTo ps ls most i).1 ++ [x]) k' := fun x k' h1 h2 h3 h4 h5 h6 => by
      refine ⟨by have := ih.k1; omega, h2, fun j hj => ?_, fun d hd => ?_, fun j hj1 hj => ?_⟩
      · rw [List.length_append, List.length_singleton] at hj
        by_cases hjl : j < (plTo ps ls most i).1.length
        · rw [getD_app_left hjl]; have := ih.lab j hjl; omega
        · rw [show j = (plTo ps ls most i).1.length by omega, getD_app_last]; omega
      · rcases h5 d hd with h | h
        · obtain ⟨j, hj, he⟩ := ih.used d h
          exact ⟨j, by simp; omega, by rw [getD_app_left hj]; exact he⟩
        · exact ⟨(plTo ps ls most i).1.length, by simp, by rw [getD_app_last]; exact h⟩
      · rw [List.length_append, List.length_singleton] at hj
        by_cases hjl : j < (plTo ps ls most i).1.length
        · have hpj := parentOf_lt ho hj1
          rw [getD_app_left hjl, getD_app_left (show (parentOf ps j).toNat < _ by omega)]
          rcases ih.tree j hj1 hjl with h | h
          · exact .inl h
          · refine .inr fun q hq => ?_
            rw [getD_app_left (by omega)]; exact h q hq
        · have hje : j = (plTo ps ls most i).1.length := by omega
          subst hje
          rw [getD_app_last]
          rcases h6 with h | h
          · left
            rw [getD_app_left (by rw [hlen]; omega), h, hlen]
          · right
            intro q hq
            rw [getD_app_left hq]
            have := ih.lab q hq
            omega
    simp only [plTo]
    split
    · rename_i hc
      exact both _ _ (by omega) (by omega) (by have := ih.k1; omega) (by omega) (fun d hd => by omega) (.inr (Int.le_refl _))
    · have hl := ih.lab (parentOf ps (i + 1)).toNat (by omega)
      exact both _ _ (Int.le_refl _) ih.kmost hl.1 hl.2 (fun d hd => .inl hd) (.inl rfl)
end Go.Proofs.YthjdljbghjelfaaDoor
set_option linter.unusedVariables false
set_option linter.unusedSimpArgs false
set_option maxRecDepth 20000
namespace Go.Proofs.YthjdljbghjelfaaDoor
open Go Go.E
attribute [local irreducible] Go.E.T Go.E.L Go.E.O Go.E.Ob

/-- Two nodes are the ends of an edge. -/
def Adj (es : List (Int × Int)) (u v : Nat) : Prop := ∃ i, i < es.length ∧ (eA es i = u ∧ eB es i = v ∨ eA es i = v ∧ eB es i = u)
theorem Adj.closed {es : List (Int × Int)} {u v m p : Nat} (h : Adj es u v) (hc : Closed es m p) (hu : m.testBit u = true) (hv : m.testBit v = true) : p.testBit u = p.testBit v := by
  obtain ⟨i, hi, ⟨rfl, rfl⟩ | ⟨rfl, rfl⟩⟩ := h
  · exact hc i hi hu hv
  · exact (hc i hi hv hu).symm
theorem connB_true {es : List (Int × Int)} {m : Nat} : connB es m = true ↔ Conn es m := by
  unfold connB
  exact @decide_eq_true_iff _ (Classical.propDecidable _)
/-- A set that grows by a neighbour. 's': its bits. -/
theorem conn_add {es : List (Int × Int)} {m s u v : Nat} (h : Conn es m) (hs : ∀ i, s.testBit i = (m.testBit i || decide (u = i))) (hu : m.testBit u = false) (hv : m.testBit v = true) (ha : Adj es u v) : Conn es s := by
  have hsu : s.testBit u = true := by rw [hs]; simp
  have hsv : s.testBit v = true := by rw [hs, hv]; rfl
  have hms : Inc m s := fun i hi => by rw [hs, hi]; rfl
  refine ⟨fun h0 => by rw [h0] at hsu; simp at hsu, fun p hp hi hc => ?_⟩
  have hc' : Closed es m (p &&& m) := fun i hi h1 h2 => by
    rw [Nat.testBit_and, Nat.testBit_and, h1, h2, hc i hi (hms _ h1) (hms _ h2)]
  have hincl : Inc (p &&& m) m := fun i hi => by rw [Nat.testBit_and, Bool.and_eq_true] at hi; exact hi.2
  by_cases h0 : p &&& m = 0
  · exfalso
    have hpu : ∀ i, p.testBit i = true → i = u := fun i hi2 => by
      have h3 := hi i hi2
      rw [hs, Bool.or_eq_true, decide_eq_true_eq] at h3
      rcases h3 with h3 | h3
      · have : (p &&& m).testBit i = true := by rw [Nat.testBit_and, hi2, h3]; rfl
        rw [h0] at this; simp at this
      · exact h3.symm
    obtain ⟨i, hi2⟩ := Nat.exists_testBit_of_ne_zero hp
    have hiu := hpu i hi2
    subst hiu
    have hpv : p.testBit v = true := by rw [← ha.closed hc hsu hsv]; exact hi2
    have := hpu v hpv
    subst this
    rw [hu] at hv; cases hv
  · have hpm := h.2 _ h0 hincl hc'
    have hmp : Inc m p := fun i hi2 => by
      rw [← hpm, Nat.testBit_and, Bool.and_eq_true] at hi2; exact hi2.1
    have hpv := hmp v hv
    have hpu : p.testBit u = true := by rw [ha.closed hc hsu hsv]; exact hpv
    refine Inc.anti hi fun i hi2 => ?_
    rw [hs, Bool.or_eq_true, decide_eq_true_eq] at hi2
    rcases hi2 with h3 | h3
    · exact hmp i h3
    · subst h3; exact hpu
/-- In a connected set with more than one node each has a neighbour. -/
theorem conn_nb {es : List (Int × Int)} {m u w : Nat} (h : Conn es m) (hu : m.testBit u = true) (hw : m.testBit w = true) (hne : w ≠ u) : ∃ v, v ≠ u ∧ m.testBit v = true ∧ Adj es u v := by
  refine Classical.byContradiction fun hno => ?_
  have hc : Closed es m (2 ^ u) := fun i hi h1 h2 => by
    rw [Nat.testBit_two_pow, Nat.testBit_two_pow]
    by_cases ha : u = eA es i
    · by_cases hb : u = eB es i
      · rw [decide_eq_true ha, decide_eq_true hb]
      · exact absurd ⟨eB es i, fun e => hb e.symm, h2, i, hi, .inl ⟨ha.symm, rfl⟩⟩ hno
    · by_cases hb : u = eB es i
      · exact absurd ⟨eA es i, fun e => ha e.symm, h1, i, hi, .inr ⟨rfl, hb.symm⟩⟩ hno
      · rw [decide_eq_false ha, decide_eq_false hb]
  have hp : (2 : Nat) ^ u ≠ 0 := Nat.pos_iff_ne_zero.1 (Nat.two_pow_pos u)
  have := h.2 _ hp (fun i hi => by rw [Nat.testBit_two_pow, decide_eq_true_eq] at hi; subst hi; exact hu) hc
  rw [← this, Nat.testBit_two_pow, decide_eq_true_eq] at hw
  exact hne hw.symm
/-! ### The districts of a drafted plan -/
theorem tree_conn {N : Int} (h0 : 0 ≤ N) {ps : List Int} (ho : Octs ps) (ms : List (Int × Int)) {most k : Int} {l : List Int} (hl : (l.length : Int) = unitsOf N) (hi : PlanInv ps most l k) {d : Nat} (hd : (d : Int) < k) : Conn (edgesOf N ps ms) (mask l d) := by
  have hun : 1 ≤ unitsOf N ∧ unitsOf N ≤ 9 := by unfold unitsOf; omega
  have hl64 : l.length ≤ 64 := by omega
  obtain ⟨j0, hj0, he0⟩ := hi.used d hd
  -- the first unit of the district
  have hroot : ∃ r, r < l.length ∧ l.getD r 0 = d ∧ ∀ i, i < r → l.getD i 0 ≠ d := by
    have : ∀ n : Nat, (∃ j, j < n ∧ l.getD j 0 = (d : Int)) → ∃ r, r < n ∧ l.getD r 0 = d ∧ ∀ i, i < r → l.getD i 0 ≠ d := by
      intro n
      induction n with
      | zero => rintro ⟨j, hj, _⟩; omega
      | succ n ih =>
        rintro ⟨j, hj, he⟩
        by_cases hex : ∃ j, j < n ∧ l.getD j 0 = (d : Int)
        · obtain ⟨r, h1, h2, h3⟩ := ih hex
          exact ⟨r, by omega, h2, h3⟩
        · have : j = n := by
            rcases Nat.lt_or_ge j n with h | h
            · exact absurd ⟨j, h, he⟩ hex
            · omega
          subst this
          exact ⟨j, by omega, he, fun i hi h => hex ⟨i, hi, h⟩⟩
    exact this _ ⟨j0, hj0, he0⟩
  obtain ⟨r, hr, her, hrf⟩ := hroot
  have hb : ∀ b, (mask l (d : Int)).testBit b = true ↔ b < l.length ∧ l.getD b 0 = d := mask_bit hl64 d
  have walk : ∀ (p : Nat), Closed (edgesOf N ps ms) (mask l d) p → ∀ u, u < l.length → l.getD u 0 = d → p.testBit u = p.testBit r := by
    intro p hc u
    induction u using Nat.strongRecOn with
    | _ u ih =>
      intro hu heu
      by_cases hur : u = r
      · rw [hur]
      · have hru : r < u := by
          rcases Nat.lt_or_ge u r with h | h
          · exact absurd heu (hrf u h)
          · omega
        have hp := parentOf_lt ho (show 1 ≤ u by omega)
        rcases hi.tree u (by omega) hu with h | h
        · have hpl : (parentOf ps u).toNat < u := by omega
          have hpe : l.getD (parentOf ps u).toNat 0 = d := by rw [← h]; exact heu
          have e1 := ih _ hpl (by omega) hpe
          obtain ⟨i, hil, ha, hbb⟩ := parent_edge h0 ho ms (show 1 ≤ u by omega) (show (u : Int) < unitsOf N by omega)
          have e2 := hc i hil (by rw [ha]; exact (hb _).2 ⟨by omega, hpe⟩) (by rw [hbb]; exact (hb _).2 ⟨hu, heu⟩)
          rw [ha, hbb] at e2
          rw [← e2, e1]
        · exact absurd (her.trans heu.symm) (h r hru)
  refine ⟨fun h => ?_, fun p hp hinc hc => ?_⟩
  · have := (hb r).2 ⟨hr, her⟩
    rw [h] at this; simp at this
  · obtain ⟨u, hu⟩ := Nat.exists_testBit_of_ne_zero hp
    have hum := (hb u).1 (hinc u hu)
    have hpr : p.testBit r = true := by rw [← walk p hc u hum.1 hum.2]; exact hu
    refine Inc.anti hinc fun v hv => ?_
    have hvm := (hb v).1 hv
    rw [walk p hc v hvm.1 hvm.2]; exact hpr
theorem plan_len (N K : Int) (ps ls : List Int) (h0 : 0 ≤ N) : ((planOf N K ps ls).1.length : Int) = unitsOf N := by
  have hun : 1 ≤ unitsOf N ∧ unitsOf N ≤ 9 := by unfold unitsOf; omega
  unfold planOf
  rw [plTo_len]; omega
/-- A plan that is contiguous. -/
structure Contig (N : Int) (es : List (Int × Int)) (xs : List Int) (k : Nat) : Prop where
  ok : planErr N es xs k = 0
  conn : ∀ d : Nat, d < k → Conn es (mask xs d)
theorem Contig.b {N : Int} {es : List (Int × Int)} {xs : List Int} {k : Nat} (h : Contig N es xs k) : contigB N es xs k = true := by
  rw [contigB_ok h.ok, contig]
  refine List.all_eq_true.2 fun m hm => ?_
  obtain ⟨d, hd, rfl⟩ := List.mem_map.1 hm
  exact connB_true.2 (h.conn d (by simpa using hd))
theorem plan_contig {N K : Int} (h0 : 0 ≤ N) (hk0 : 0 ≤ K) {ps : List Int} (ho : Octs ps) (ls : List Int) (ms : List (Int × Int)) : ∃ k : Nat, (planOf N K ps ls).2 = k ∧ Contig (unitsOf N) (edgesOf N ps ms) (planOf N K ps ls).1 k := by
  have hi : PlanInv ps (1 + K % 4) (planOf N K ps ls).1 (planOf N K ps ls).2 := plan_inv ho (by omega) _
  have hl := plan_len N K ps ls h0
  have h1 := hi.k1
  have h2 := hi.kmost
  refine ⟨(planOf N K ps ls).2.toNat, by omega, ?_, fun d hd => tree_conn h0 ho ms hl hi (by omega)⟩
  rw [show (((planOf N K ps ls).2.toNat : Nat) : Int) = (planOf N K ps ls).2 by omega]
  exact planErr_intro (edges_ok h0 ps ms) ⟨h1, by omega⟩ hl hi.lab hi.used
/-! ### Moves -/
theorem getD_setL {l : List Int} {i j : Nat} {v : Int} (hi : i < l.length) : (l.set i v).getD j 0 = if i = j then v else l.getD j 0 := by
  rw [getD_set]
  by_cases h : i = j
  · subst h; rw [if_pos ⟨rfl, hi⟩, if_pos rfl]
  · rw [if_neg (fun h2 => h h2.1), if_neg h]
theorem rest_bit {xs : List Int} (h : xs.length ≤ 64) {u : Nat} (hu : u < xs.length) (b : Nat) : (restOf xs u).testBit b = true ↔ b < xs.length ∧ xs.getD b 0 = xs.getD u 0 ∧ b ≠ u := by
  unfold restOf
  rw [andNot_bit (mask_lt _ _) (bit64_lt _), testBit_bit64 _ _ (by omega), Bool.and_eq_true, mask_bit h, Bool.not_eq_true', decide_eq_false_iff_not]
  constructor
  · rintro ⟨⟨h1, h2⟩, h3⟩; exact ⟨h1, h2, fun e => h3 e.symm⟩
  · rintro ⟨h1, h2, h3⟩; exact ⟨⟨h1, h2⟩, fun e => h3 e.symm⟩
theorem eq_of_bits {a b : Nat} (h : ∀ i, a.testBit i = true ↔ b.testBit i = true) : a = b := Nat.eq_of_testBit_eq fun i => by
  have := h i
  cases ha : a.testBit i <;> cases hb : b.testBit i <;> simp_all
theorem adj_of_bor {N : Int} {es : List (Int × Int)} {xs : List Int} (hg : Good N es) (hn : (xs.length : Int) = N) {u d : Nat} (h : ¬ nbTo es (u : Int) es.length &&& mask xs (d : Int) = 0) : ∃ v, v < xs.length ∧ xs.getD v 0 = d ∧ Adj es u v := by
  obtain ⟨j, hj, hb⟩ := (bor_iff hg hn u d).2 h
  have hgj := hg.2.2 j hj
  rcases hb with ⟨h1, h2⟩ | ⟨h1, h2⟩
  · exact ⟨eB es j, by simp only [eB]; omega, h2, j, hj, .inl ⟨h1, rfl⟩⟩
  · exact ⟨eA es j, by simp only [eA]; omega, h2, j, hj, .inr ⟨rfl, h1⟩⟩
theorem bor_of_adj {N : Int} {es : List (Int × Int)} {xs : List Int} (hg : Good N es) (hn : (xs.length : Int) = N) {u v : Nat} {d : Int} (hv : xs.getD v 0 = d) (ha : Adj es u v) : ¬ nbTo es (u : Int) es.length &&& mask xs d = 0 := by
  refine (bor_iff hg hn u d).1 ?_
  obtain ⟨j, hj, ⟨h1, h2⟩ | ⟨h1, h2⟩⟩ := ha
  · exact ⟨j, hj, .inl ⟨h1, by rw [h2]; exact hv⟩⟩
  · exact ⟨j, hj, .inr ⟨h2, by rw [h1]; exact hv⟩⟩
theorem okMove_parts {es : List (Int × Int)} {xs : List Int} {u d : Nat} : okMove es xs u d = true ↔ xs.getD u 0 ≠ d ∧ (¬ nbTo es (u : Int) es.length &&& mask xs (d : Int) = 0) ∧ Conn es (restOf xs u) := by
  unfold okMove
  rw [Bool.and_eq_true, Bool.and_eq_true, Bool.not_eq_true', Bool.not_eq_true', decide_eq_false_iff_not, decide_eq_false_iff_not, connB_true]
theorem mem_rowFrom {es : List (Int × Int)} {xs : List Int} {u e : Nat} (ho : okMove es xs u e = true) : ∀ (c d : Nat), d ≤ e → e < d + c → ((u : Int), xs.getD u 0, (e : Int)) ∈ rowFrom es xs u d c
  | 0, d, h1, h2 => by omega
  | c + 1, d, h1, h2 => by
    simp only [rowFrom]
    by_cases hd : d = e
    · subst hd; rw [if_pos ho]; exact List.mem_cons_self ..
    · have := mem_rowFrom ho c (d + 1) (by omega) (by omega)
      split
      · exact List.mem_cons_of_mem _ this
      · exact this
theorem mem_allFrom {es : List (Int × Int)} {xs : List Int} {k u e : Nat} (ho : okMove es xs u e = true) (he : e < k) : ∀ (c v : Nat), v ≤ u → u < v + c → ((u : Int), xs.getD u 0, (e : Int)) ∈ allFrom es xs k v c
  | 0, v, h1, h2 => by omega
  | c + 1, v, h1, h2 => by
    simp only [allFrom]
    by_cases hv : v = u
    · subst hv; exact List.mem_append_left _ (mem_rowFrom ho k 0 (Nat.zero_le _) (by omega))
    · exact List.mem_append_right _ (mem_allFrom ho he c (v + 1) (by omega) (by omega))
theorem move_there {n k : Nat} {es : List (Int × Int)} {xs : List Int} (h : Contig n es xs k) {u d : Nat} (hu : u < n) (hd : d < k) (ho : okMove es xs u d = true) : ∃ c : Nat, c < k ∧ xs.getD u 0 = c ∧ Contig n es (xs.set u (d : Int)) k ∧ okMove es (xs.set u (d : Int)) u c = true ∧ (xs.set u (d : Int)).set u (c : Int) = xs := by
  obtain ⟨hge, hk1, hk8, hlen, hl, hus⟩ := planOk_of h.ok
  have hg := Good.of hge
  have hlm := labels_mem hl
  have hxl : xs.length = n := by omega
  have hul : u < xs.length := by omega
  obtain ⟨h1, h2, h3⟩ := okMove_parts.1 ho
  obtain ⟨c, hc⟩ : ∃ c : Nat, xs.getD u 0 = c := ⟨(xs.getD u 0).toNat, by have := hlm.2.2 u hul; omega⟩
  have hck : c < k := by have := (hlm.2.2 u hul).2; omega
  have hcd : c ≠ d := fun e => h1 (by rw [hc, e])
  obtain ⟨v, hv, hve, hadj⟩ := adj_of_bor hg hlen h2
  have hql : (xs.set u (d : Int)).length = xs.length := List.length_set
  have hq : ∀ j, (xs.set u (d : Int)).getD j 0 = if u = j then (d : Int) else xs.getD j 0 := fun j => getD_setL hul
  -- the districts behind the move
  have mc : mask (xs.set u (d : Int)) (c : Int) = restOf xs u := eq_of_bits fun i => by
    rw [mask_bit (by omega), rest_bit (by omega) hul, hql, hq]
    constructor
    · rintro ⟨a, b⟩
      split at b
      · exact absurd (Int.ofNat.inj b).symm hcd
      · rename_i hne; exact ⟨a, by rw [hc]; exact b, fun e => hne e.symm⟩
    · rintro ⟨a, b, e⟩
      exact ⟨a, by rw [if_neg (fun h => e h.symm)]; rw [hc] at b; exact b⟩
  have md : ∀ i, (mask (xs.set u (d : Int)) (d : Int)).testBit i = ((mask xs (d : Int)).testBit i || decide (u = i)) := fun i => by
    have e1 := mask_bit (xs := xs.set u (d : Int)) (by omega) (d : Int) i
    have e2 := mask_bit (xs := xs) (by omega) (d : Int) i
    rw [hql, hq] at e1
    rw [Bool.eq_iff_iff, Bool.or_eq_true, decide_eq_true_eq, e1, e2]
    constructor
    · rintro ⟨a, b⟩
      by_cases hui : u = i
      · exact .inr hui
      · rw [if_neg hui] at b; exact .inl ⟨a, b⟩
    · rintro (⟨a, b⟩ | rfl)
      · refine ⟨a, ?_⟩
        split
        · rfl
        · exact b
      · exact ⟨hul, by rw [if_pos rfl]⟩
  have me : ∀ e : Nat, e ≠ c → e ≠ d → mask (xs.set u (d : Int)) (e : Int) = mask xs (e : Int) := fun e h4 h5 => eq_of_bits fun i => by
    rw [mask_bit (by omega), mask_bit (by omega), hql, hq]
    by_cases hui : u = i
    · subst hui
      rw [if_pos rfl, hc]
      constructor
      · rintro ⟨_, b⟩; exact absurd (Int.ofNat.inj b).symm h5
      · rintro ⟨_, b⟩; exact absurd (Int.ofNat.inj b).symm h4
    · rw [if_neg hui]
  have cd : Conn es (mask (xs.set u (d : Int)) (d : Int)) := by
    refine conn_add (h.conn d hd) md ?_ ((mask_bit (by omega) _ _).2 ⟨hv, hve⟩) hadj
    rw [Bool.eq_false_iff]
    intro hb
    exact h1 ((mask_bit (by omega) _ _).1 hb).2
  have conn' : ∀ e : Nat, e < k → Conn es (mask (xs.set u (d : Int)) (e : Int)) := fun e he => by
    by_cases h4 : e = c
    · subst h4; rw [mc]; exact h3
    · by_cases h5 : e = d
      · subst h5; exact cd
      · rw [me e h4 h5]; exact h.conn e he
  have hok : planErr n es (xs.set u (d : Int)) k = 0 := by
    refine planErr_intro hge ⟨hk1, hk8⟩ (by rw [hql]; exact hlen) (fun i hi => ?_) fun e he => ?_
    · rw [hq]
      split
      · omega
      · exact hlm.2.2 i (by omega)
    · obtain ⟨i, hi⟩ := Nat.exists_testBit_of_ne_zero (conn' e (by omega)).1
      exact ⟨i, ((mask_bit (by omega) _ _).1 hi).1, ((mask_bit (by omega) _ _).1 hi).2⟩
  refine ⟨c, hck, hc, ⟨hok, conn'⟩, okMove_parts.2 ⟨by rw [hq, if_pos rfl]; exact fun e => hcd (Int.ofNat.inj e).symm, ?_, ?_⟩, ?_⟩
  · -- a neighbour stays behind
    have hcm := h.conn c hck
    have hbu := (mask_bit (xs := xs) (by omega) (c : Int) u).2 ⟨hul, hc⟩
    obtain ⟨w, hw⟩ := Nat.exists_testBit_of_ne_zero h3.1
    obtain ⟨hw1, hw2, hw3⟩ := (rest_bit (by omega) hul w).1 hw
    obtain ⟨v', hv1, hv2, hv3⟩ := conn_nb hcm hbu ((mask_bit (by omega) _ _).2 ⟨hw1, by rw [hw2, hc]⟩) hw3
    have hv4 := (mask_bit (xs := xs) (by omega) _ _).1 hv2
    exact bor_of_adj hg (by rw [hql]; exact hlen) (v := v') (by rw [hq, if_neg (fun e => hv1 e.symm)]; exact hv4.2) hv3
  · have e : restOf (xs.set u (d : Int)) u = mask xs (d : Int) := eq_of_bits fun i => by
      rw [rest_bit (by omega) (by omega), mask_bit (by omega), hql, hq, hq, if_pos rfl]
      constructor
      · rintro ⟨a, b, e⟩; rw [if_neg (fun h => e h.symm)] at b; exact ⟨a, b⟩
      · rintro ⟨a, b⟩
        have hne : i ≠ u := fun e => h1 (e ▸ b)
        exact ⟨a, by rw [if_neg (fun h => hne h.symm)]; exact b, hne⟩
    rw [e]; exact h.conn d hd
  · rw [List.set_set, ← hc]
    apply List.ext_getElem?
    intro i
    by_cases hui : u = i
    · subst hui; rw [List.getElem?_set_self' , List.getElem?_eq_getElem hul, getD_get hul]; rfl
    · rw [List.getElem?_set_ne hui]
end Go.Proofs.YthjdljbghjelfaaDoor
