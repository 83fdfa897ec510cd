/- Plain facts that the proof of this law leans on. -/
import Derived.Test.YtlkdpglngomblaaHist2
set_option linter.unusedVariables false
set_option linter.unusedSimpArgs false
namespace Go.Wk
open Go
/-! ### Sorting a list of ints in place -/
namespace Srt
def Sw (xs ys : List Int) (a b n : Nat) : Prop := ys.length = xs.length ∧ ∀ k : Nat, ys[k]? = if a ≤ k ∧ k < a + n then xs[k + b - a]? else if b ≤ k ∧ k < b + n then xs[k + a - b]? else xs[k]?
def rp (xs : List Int) (a m b k : Nat) : Option Int := if a ≤ k ∧ k + m < a + b then xs[k + m - a]? else if a + b ≤ k + m ∧ k < b then xs[k + m - b]? else xs[k]?
def Ro (xs ys : List Int) (a m b : Nat) : Prop := ys.length = xs.length ∧ ∀ k : Nat, ys[k]? = rp xs a m b k
def Sg (a b : Nat) (xs ys : List Int) : Prop := ys.length = xs.length ∧ (∀ k : Nat, k < a ∨ b ≤ k → ys[k]? = xs[k]?) ∧ (∀ k : Nat, a ≤ k → k < b → ∃ l : Nat, a ≤ l ∧ l < b ∧ ys[k]? = xs[l]?) ∧ (∀ k : Nat, a ≤ k → k < b → ∃ l : Nat, a ≤ l ∧ l < b ∧ xs[k]? = ys[l]?)
section
variable {xs ys zs ws : List Int} {a b i j n m p q : Nat} {u v : Int}
theorem cell (h : i = j) : xs[i]? = xs[j]? := by rw [h]
theorem Sw.zero : Sw xs xs a b 0 := ⟨rfl, fun k => by rw [if_neg (by omega), if_neg (by omega)]⟩
theorem Sw.next (h : Sw xs zs a b i) (hd : a + n ≤ b ∨ b + n ≤ a) (hi : i < n) (hu : zs[a + i]? = some u) (hv : zs[b + i]? = some v) : Sw xs ((zs.set (a + i) v).set (b + i) u) a b (i + 1) := by
  refine ⟨by rw [List.length_set, List.length_set, h.1], fun k => ?_⟩
  have h1 := (List.getElem?_eq_some_iff.1 hu).1
  have h2 := (List.getElem?_eq_some_iff.1 hv).1
  rw [h.2, if_neg (by omega), if_neg (by omega)] at hu hv
  rw [List.getElem?_set, List.getElem?_set, List.length_set, h.2]
  by_cases e1 : b + i = k
  · subst e1
    rw [if_pos rfl, if_pos h2, if_neg (by omega), if_pos (by omega), ← hu]
    exact cell (by omega)
  · rw [if_neg e1]
    by_cases e2 : a + i = k
    · subst e2
      rw [if_pos rfl, if_pos h1, if_pos (by omega), ← hv]
      exact cell (by omega)
    · rw [if_neg e2]
      repeat' split
      all_goals first | rfl | (exfalso; omega)
theorem Sw.one (hd : a < b ∨ b < a) (hu : xs[a]? = some u) (hv : xs[b]? = some v) : Sw xs ((xs.set a v).set b u) a b 1 :=
  Sw.next (n := 1) (i := 0) Sw.zero (by omega) (by omega) hu hv
theorem ro_gt (h : Sw zs ws (m - i) m j) (hj : j < i) (hi : i ≤ m) (k : Nat) : rp ws (m - (i - j)) m (m + j) k = rp zs (m - i) m (m + j) k := by
  unfold rp
  rw [h.2, h.2, h.2]
  repeat' split
  all_goals first | (exfalso; omega) | (exact cell (by omega))
theorem ro_lt (h : Sw zs ws (m - i) (m + j - i) i) (hj : i < j) (hi : i ≤ m) (k : Nat) : rp ws (m - i) m (m + (j - i)) k = rp zs (m - i) m (m + j) k := by
  unfold rp
  rw [h.2, h.2, h.2]
  repeat' split
  all_goals first | (exfalso; omega) | (exact cell (by omega))
theorem ro_eq (h : Sw zs ws (m - i) m i) (hi : i ≤ m) (k : Nat) : ws[k]? = rp zs (m - i) m (m + i) k := by
  unfold rp
  rw [h.2]
  repeat' split
  all_goals first | (exfalso; omega) | (exact cell (by omega))
theorem Ro.left : Ro xs xs a a b := by
  refine ⟨rfl, fun k => ?_⟩
  unfold rp
  repeat' split
  all_goals first | rfl | (exact cell (by omega))
theorem Ro.right : Ro xs xs a b b := by
  refine ⟨rfl, fun k => ?_⟩
  unfold rp
  repeat' split
  all_goals first | rfl | (exfalso; omega) | (exact cell (by omega))
theorem Sg.refl : Sg a b xs xs := ⟨rfl, fun _ _ => rfl, fun k h1 h2 => ⟨k, h1, h2, rfl⟩, fun k h1 h2 => ⟨k, h1, h2, rfl⟩⟩
theorem Sg.trans (h : Sg a b xs ys) (g : Sg a b ys zs) : Sg a b xs zs := by
  refine ⟨g.1.trans h.1, fun k hk => (g.2.1 k hk).trans (h.2.1 k hk), fun k h1 h2 => ?_, fun k h1 h2 => ?_⟩
  · obtain ⟨l, a1, a2, a3⟩ := g.2.2.1 k h1 h2
    obtain ⟨r, b1, b2, b3⟩ := h.2.2.1 l a1 a2
    exact ⟨r, b1, b2, a3.trans b3⟩
  · obtain ⟨l, a1, a2, a3⟩ := h.2.2.2 k h1 h2
    obtain ⟨r, b1, b2, b3⟩ := g.2.2.2 l a1 a2
    exact ⟨r, b1, b2, a3.trans b3⟩
theorem Sg.mono (h : Sg a b xs ys) (h1 : p ≤ a) (h2 : b ≤ q) : Sg p q xs ys := by
  refine ⟨h.1, fun k hk => h.2.1 k (by omega), fun k a1 a2 => ?_, fun k a1 a2 => ?_⟩
  · by_cases e : k < a ∨ b ≤ k
    · exact ⟨k, a1, a2, h.2.1 k e⟩
    · obtain ⟨l, b1, b2, b3⟩ := h.2.2.1 k (by omega) (by omega)
      exact ⟨l, by omega, by omega, b3⟩
  · by_cases e : k < a ∨ b ≤ k
    · exact ⟨k, a1, a2, (h.2.1 k e).symm⟩
    · obtain ⟨l, b1, b2, b3⟩ := h.2.2.2 k (by omega) (by omega)
      exact ⟨l, by omega, by omega, b3⟩
theorem Sw.sg (h : Sw xs ys a b n) (hd : a + n ≤ b ∨ b + n ≤ a) (h1 : p ≤ a) (h2 : p ≤ b) (h3 : a + n ≤ q) (h4 : b + n ≤ q) : Sg p q xs ys := by
  refine ⟨h.1, fun k hk => by rw [h.2, if_neg (by omega), if_neg (by omega)], fun k hk1 hk2 => ?_, fun k hk1 hk2 => ?_⟩
  · by_cases e : a ≤ k ∧ k < a + n
    · exact ⟨k + b - a, by omega, by omega, by rw [h.2, if_pos e]⟩
    · by_cases e2 : b ≤ k ∧ k < b + n
      · exact ⟨k + a - b, by omega, by omega, by rw [h.2, if_neg e, if_pos e2]⟩
      · exact ⟨k, hk1, hk2, by rw [h.2, if_neg e, if_neg e2]⟩
  · by_cases e : a ≤ k ∧ k < a + n
    · exact ⟨k + b - a, by omega, by omega, by rw [h.2, if_neg (by omega), if_pos (by omega)]; exact cell (by omega)⟩
    · by_cases e2 : b ≤ k ∧ k < b + n
      · exact ⟨k + a - b, by omega, by omega, by rw [h.2, if_pos (by omega)]; exact cell (by omega)⟩
      · exact ⟨k, hk1, hk2, by rw [h.2, if_neg e, if_neg e2]⟩
theorem Ro.sg (h : Ro xs ys a m b) (h1 : a ≤ m) (h2 : m ≤ b) : Sg a b xs ys := by
  refine ⟨h.1, fun k hk => by rw [h.2, rp, if_neg (by omega), if_neg (by omega)], fun k hk1 hk2 => ?_, fun k hk1 hk2 => ?_⟩
  · by_cases e : k + m < a + b
    · exact ⟨k + m - a, by omega, by omega, by rw [h.2, rp, if_pos (by omega)]⟩
    · exact ⟨k + m - b, by omega, by omega, by rw [h.2, rp, if_neg (by omega), if_pos (by omega)]⟩
  · by_cases e : k < m
    · exact ⟨k + b - m, by omega, by omega, by rw [h.2, rp, if_neg (by omega), if_pos (by omega)]; exact cell (by omega)⟩
    · exact ⟨k + a - m, by omega, by omega, by rw [h.2, rp, if_pos (by omega)]; exact cell (by omega)⟩
theorem Sg.back (h : Sg p q xs ys) (hk : (a ≤ p ∧ q ≤ b) ∨ q ≤ a ∨ b ≤ p) (h1 : a ≤ i) (h2 : i < b) : ∃ l : Nat, a ≤ l ∧ l < b ∧ ys[i]? = xs[l]? := by
  by_cases e : i < p ∨ q ≤ i
  · exact ⟨i, h1, h2, h.2.1 i e⟩
  · obtain ⟨l, b1, b2, b3⟩ := h.2.2.1 i (by omega) (by omega)
    exact ⟨l, by omega, by omega, b3⟩
def Cr (r : Int → Int → Prop) (xs : List Int) (a m m' b : Nat) : Prop := ∀ (i j : Nat) (u v : Int), a ≤ i → i < m → m' ≤ j → j < b → xs[i]? = some u → xs[j]? = some v → r u v
theorem Cr.sg {r : Int → Int → Prop} {m' : Nat} (hc : Cr r xs a m m' b) (h : Sg p q xs ys) (h1 : (a ≤ p ∧ q ≤ m) ∨ q ≤ a ∨ m ≤ p) (h2 : (m' ≤ p ∧ q ≤ b) ∨ q ≤ m' ∨ b ≤ p) : Cr r ys a m m' b := by
  intro i j u v a1 a2 a3 a4 hu hv
  obtain ⟨l, b1, b2, b3⟩ := h.back h1 a1 a2
  obtain ⟨s, c1, c2, c3⟩ := h.back h2 a3 a4
  exact hc l s u v b1 b2 c1 c2 (b3 ▸ hu) (c3 ▸ hv)
variable (o : SO Int)
def So (xs : List Int) (a b : Nat) : Prop := ∀ (i j : Nat) (u v : Int), a ≤ i → i < j → j < b → xs[i]? = some u → xs[j]? = some v → o.lt u v = true
def Ri (xs : List Int) (a c b : Nat) : Prop := ∀ (i j : Nat) (u v : Int), a ≤ i → i < j → c ≤ j → j < b → xs[i]? = some u → xs[j]? = some v → u < v
variable {o}
theorem So.frame (h : So o xs a b) (g : Sg p q xs ys) (hd : b ≤ p ∨ q ≤ a) : So o ys a b := fun i j u v a1 a2 a3 hu hv =>
  h i j u v a1 a2 a3 (g.2.1 i (by omega) ▸ hu) (g.2.1 j (by omega) ▸ hv)
theorem So.join (h1 : So o xs a m) (h2 : So o xs m b) (hc : Cr (fun u v => o.lt u v = true) xs a m m b) : So o xs a b := fun i j u v a1 a2 a3 hu hv => by
  by_cases e : j < m
  · exact h1 i j u v a1 a2 e hu hv
  · by_cases e2 : i < m
    · exact hc i j u v a1 e2 (by omega) a3 hu hv
    · exact h2 i j u v (by omega) a2 a3 hu hv
theorem So.le (h : So o xs a b) (h1 : a ≤ p) (h2 : q ≤ b) : So o xs p q := fun i j u v a1 a2 a3 => h i j u v (by omega) a2 (by omega)
theorem So.small (h : b ≤ a + 1) : So o xs a b := fun i j u v a1 a2 a3 => by omega
/-! insertion -/
structure In (o : SO Int) (ys zs : List Int) (a i j : Nat) (v : Int) : Prop where
  sg : Sg a (i + 1) ys zs
  aj : a ≤ j
  ji : j ≤ i
  at_ : zs[j]? = some v
  rest : ∀ (p q : Nat) (u w : Int), a ≤ p → p < q → q ≤ i → p ≠ j → q ≠ j → zs[p]? = some u → zs[q]? = some w → o.lt u w = true
  up : ∀ (q : Nat) (w : Int), j < q → q ≤ i → zs[q]? = some w → o.lt v w = true
  less : ∀ (p : Nat) (u : Int), a ≤ p → p ≤ i → p ≠ j → zs[p]? = some u → u < v
theorem In.start (hs : So o ys a i) (hr : Ri ys a i b) (ha : a ≤ i) (hb : i < b) (hv : ys[i]? = some v) : In o ys ys a i i v :=
  ⟨.refl, ha, Nat.le_refl _, hv, fun p q u w h1 h2 h3 h4 h5 => hs p q u w h1 h2 (by omega), fun q w h1 h2 => by omega, fun p u h1 h2 h3 hu => hr p i u v h1 (by omega) (Nat.le_refl _) hb hu hv⟩
theorem In.next (h : In o ys zs a i (j + 1) v) (hj : a ≤ j) (hu : zs[j]? = some u) (hl : o.lt v u = true) : In o ys ((zs.set (j + 1) u).set j v) a i j v := by
  have hs := Sw.one (a := j + 1) (b := j) (by omega) h.at_ hu
  have hji := h.ji
  refine ⟨h.sg.trans (hs.sg (by omega) (by omega) (by omega) (by omega) (by omega)), hj, by omega, ?_, ?_, ?_, ?_⟩
  · rw [hs.2, if_neg (by omega), if_pos (by omega), ← h.at_]
    exact cell (by omega)
  · intro p q u' w' h1 h2 h3 h4 h5 hp hq
    rw [hs.2] at hp hq
    by_cases e1 : p = j + 1
    · subst e1
      rw [if_pos (by omega), show j + 1 + j - (j + 1) = j by omega, hu] at hp
      rw [if_neg (by omega), if_neg (by omega)] at hq
      cases hp
      exact h.rest j q _ _ hj (by omega) h3 (by omega) (by omega) hu hq
    · rw [if_neg (by omega), if_neg (by omega)] at hp
      by_cases e2 : q = j + 1
      · subst e2
        rw [if_pos (by omega), show j + 1 + j - (j + 1) = j by omega, hu] at hq
        cases hq
        exact h.rest p j _ _ h1 (by omega) (by omega) e1 (by omega) hp hu
      · rw [if_neg (by omega), if_neg (by omega)] at hq
        exact h.rest p q _ _ h1 h2 h3 e1 e2 hp hq
  · intro q w h1 h2 hq
    rw [hs.2] at hq
    by_cases e : q = j + 1
    · subst e
      rw [if_pos (by omega), show j + 1 + j - (j + 1) = j by omega, hu] at hq
      cases hq
      exact hl
    · rw [if_neg (by omega), if_neg (by omega)] at hq
      exact h.up q w (by omega) h2 hq
  · intro p u' h1 h2 h3 hp
    rw [hs.2] at hp
    by_cases e : p = j + 1
    · subst e
      rw [if_pos (by omega), show j + 1 + j - (j + 1) = j by omega] at hp
      exact h.less j u' hj (by omega) (by omega) hp
    · rw [if_neg (by omega), if_neg (by omega)] at hp
      exact h.less p u' h1 h2 e hp
theorem In.stop (h : In o ys zs a i j v) (hl : j = a ∨ ∃ (l : Nat) (u : Int), j = l + 1 ∧ zs[l]? = some u ∧ o.lt u v = true) : So o zs a (i + 1) := by
  intro p q u w h1 h2 h3 hp hq
  by_cases e1 : p = j
  · subst e1
    have := h.at_
    rw [hp] at this
    cases this
    exact h.up q w h2 (by omega) hq
  · by_cases e2 : q = j
    · subst e2
      have hv := h.at_
      rw [hq] at hv
      cases hv
      rcases hl with hl | ⟨l, t, rfl, ht, hl⟩
      · omega
      · by_cases e3 : p = l
        · subst e3
          rw [hp] at ht
          cases ht
          exact hl
        · have := h.ji
          exact o.tr (h.rest p l u t h1 (by omega) (by omega) e1 (by omega) hp ht) hl
    · exact h.rest p q u w h1 h2 (by omega) e1 e2 hp hq
theorem Ri.next (hr : Ri ys a i b) (g : Sg a (i + 1) ys zs) : Ri zs a (i + 1) b := by
  intro p q u w h1 h2 h3 h4 hp hq
  rw [g.2.1 q (by omega)] at hq
  obtain ⟨l, b1, b2, b3⟩ := g.back (a := a) (b := q) (by omega) h1 h2
  exact hr l q u w b1 b2 (by omega) h4 (b3 ▸ hp) hq
end
end Srt
end Go.Wk
