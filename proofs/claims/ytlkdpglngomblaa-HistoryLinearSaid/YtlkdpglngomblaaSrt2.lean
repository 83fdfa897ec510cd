/- Plain facts that the proof of this law leans on. -/
import Derived.Test.YtlkdpglngomblaaSrt
set_option linter.unusedVariables false
set_option linter.unusedSimpArgs false
namespace Go.Wk
open Go
/-! ### Merging in place -/
namespace Srt
section
variable {o : SO Int} {xs ys zs ws : List Int} {a b i j k n m p q s r mid s0 r0 e : Nat} {u v w : Int}
theorem at_lt (h : k < xs.length) : ∃ u, xs[k]? = some u := ⟨_, List.getElem?_eq_getElem h⟩
theorem lt_of_not (h : o.lt u v = false) (hd : v < u) : o.lt v u = true := by
  cases hc : o.lt v u with
  | true => rfl
  | false => have := o.tri h hc; omega
structure Mg (o : SO Int) (xs : List Int) (a m b : Nat) : Prop where
  left : So o xs a m
  right : So o xs m b
  cr : Cr (· < ·) xs a m m b
theorem Mg.none_left (h : Mg o xs a m b) (hm : m ≤ a) : So o xs a b := h.right.le hm (Nat.le_refl _)
theorem Mg.none_right (h : Mg o xs a m b) (hm : b ≤ m) : So o xs a b := h.left.le (Nat.le_refl _) hm
/-! one cell on the left -/
theorem Ro.sink (h : Ro xs zs a (a + 1) (k + 1)) (hk : a ≤ k) (hs : Sw zs ws k (k + 1) 1) : Ro xs ws a (a + 1) (k + 1 + 1) := by
  refine ⟨hs.1.trans h.1, fun c => ?_⟩
  rw [hs.2, h.2, h.2, h.2]
  unfold rp
  repeat' split
  all_goals first | rfl | (exfalso; omega) | (exact cell (by omega))
theorem Ro.rise (h : Ro xs zs (k + 1) m (m + 1)) (hk : k + 1 ≤ m) (hs : Sw zs ws (k + 1) k 1) : Ro xs ws k m (m + 1) := by
  refine ⟨hs.1.trans h.1, fun c => ?_⟩
  rw [hs.2, h.2, h.2, h.2]
  unfold rp
  repeat' split
  all_goals first | rfl | (exfalso; omega) | (exact cell (by omega))
theorem Mg.one_left (h : Mg o xs a (a + 1) b) (hv : xs[a]? = some v) (hi : a + 1 ≤ i) (hib : i ≤ b) (hl : ∀ (q : Nat) (u : Int), a + 1 ≤ q → q < i → xs[q]? = some u → o.lt u v = true) (hg : ∀ (q : Nat) (u : Int), i ≤ q → q < b → xs[q]? = some u → o.lt u v = false) (hr : Ro xs zs a (a + 1) i) : So o zs a b := by
  intro p q u w h1 h2 h3 hp hq
  rw [hr.2, rp] at hp hq
  by_cases e1 : p + 1 < i
  · rw [if_pos (by omega), show p + (a + 1) - a = p + 1 by omega] at hp
    by_cases e2 : q + 1 < i
    · rw [if_pos (by omega), show q + (a + 1) - a = q + 1 by omega] at hq
      exact h.right (p + 1) (q + 1) u w (by omega) (by omega) (by omega) hp hq
    · rw [if_neg (by omega)] at hq
      by_cases e3 : q + 1 = i
      · rw [if_pos (by omega), show q + (a + 1) - i = a by omega, hv] at hq
        cases hq
        exact hl (p + 1) u (by omega) e1 hp
      · rw [if_neg (by omega)] at hq
        exact h.right (p + 1) q u w (by omega) (by omega) h3 hp hq
  · rw [if_neg (by omega)] at hp
    rw [if_neg (by omega), if_neg (by omega)] at hq
    by_cases e3 : p + 1 = i
    · rw [if_pos (by omega), show p + (a + 1) - i = a by omega, hv] at hp
      cases hp
      exact lt_of_not (hg q w (by omega) h3 hq) (h.cr a q v w (by omega) (by omega) (by omega) h3 hv hq)
    · rw [if_neg (by omega)] at hp
      exact h.right p q u w (by omega) h2 h3 hp hq
theorem Mg.one_right (h : Mg o xs a m (m + 1)) (hv : xs[m]? = some v) (hi : a ≤ i) (him : i ≤ m) (hl : ∀ (q : Nat) (u : Int), a ≤ q → q < i → xs[q]? = some u → o.lt v u = false) (hg : ∀ (q : Nat) (u : Int), i ≤ q → q < m → xs[q]? = some u → o.lt v u = true) (hr : Ro xs zs i m (m + 1)) : So o zs a (m + 1) := by
  intro p q u w h1 h2 h3 hp hq
  rw [hr.2, rp] at hp hq
  by_cases e1 : p < i
  · rw [if_neg (by omega), if_neg (by omega)] at hp
    by_cases e2 : q < i
    · rw [if_neg (by omega), if_neg (by omega)] at hq
      exact h.left p q u w h1 h2 (by omega) hp hq
    · by_cases e3 : q = i
      · rw [if_pos (by omega), show q + m - i = m by omega, hv] at hq
        cases hq
        exact lt_of_not (hl p u h1 e1 hp) (h.cr p m u v h1 (by omega) (Nat.le_refl _) (by omega) hp hv)
      · rw [if_neg (by omega), if_pos (by omega)] at hq
        exact h.left p (q + m - (m + 1)) u w h1 (by omega) (by omega) hp hq
  · rw [if_neg (by omega), if_pos (by omega)] at hq
    by_cases e3 : p = i
    · rw [if_pos (by omega), show p + m - i = m by omega, hv] at hp
      cases hp
      exact hg (q + m - (m + 1)) w (by omega) (by omega) hq
    · rw [if_neg (by omega), if_pos (by omega)] at hp
      exact h.left (p + m - (m + 1)) (q + m - (m + 1)) u w (by omega) (by omega) (by omega) hp hq
/-! the search for the cut -/
structure Ms (o : SO Int) (xs : List Int) (a m b mid s0 r0 : Nat) : Prop extends Mg o xs a m b where
  len : b ≤ xs.length
  am : a < m
  mb : m < b
  h1 : 2 * mid ≤ a + b
  h2 : a + b ≤ 2 * mid + 1
  hs : (mid < m ∧ s0 + b = mid + m ∧ r0 = mid) ∨ (m ≤ mid ∧ s0 = a ∧ r0 = m)
structure Se (o : SO Int) (xs : List Int) (n s0 r0 s r : Nat) : Prop where
  a1 : s0 ≤ s
  a2 : s ≤ r
  a3 : r ≤ r0
  lo : ∀ (c : Nat) (u w : Int), s0 ≤ c → c < s → xs[n - 1 - c]? = some u → xs[c]? = some w → o.lt u w = false
  hi : ∀ (c : Nat) (u w : Int), r ≤ c → c < r0 → xs[n - 1 - c]? = some u → xs[c]? = some w → o.lt u w = true
theorem Se.start (h : s0 ≤ r0) : Se o xs n s0 r0 s0 r0 := ⟨Nat.le_refl _, h, Nat.le_refl _, fun c u w h1 h2 => by omega, fun c u w h1 h2 => by omega⟩
variable (M : Ms o xs a m b mid s0 r0)
include M
theorem Ms.s0r0 : a ≤ s0 ∧ s0 ≤ r0 ∧ r0 ≤ m := by have := M.hs; have := M.h1; have := M.h2; have := M.am; have := M.mb; omega
theorem Ms.place (h1 : s0 ≤ k) (h2 : k < r0) : a ≤ k ∧ k < m ∧ m ≤ mid + m - 1 - k ∧ mid + m - 1 - k < b ∧ k + 1 ≤ mid + m := by
  have := M.hs; have := M.h1; have := M.h2; have := M.am; have := M.mb; omega
theorem Ms.anti (h1 : s0 ≤ i) (h2 : i < j) (h3 : j < r0) {u' w' : Int} (hu : xs[mid + m - 1 - i]? = some u) (hw : xs[i]? = some w) (hu' : xs[mid + m - 1 - j]? = some u') (hw' : xs[j]? = some w') (h : o.lt u w = true) : o.lt u' w' = true := by
  have p1 := M.place (k := i) h1 (by omega)
  have p2 := M.place (k := j) (by omega) h3
  exact o.tr (o.tr (M.right _ _ _ _ p2.2.2.1 (by omega) p1.2.2.2.1 hu' hu) h) (M.left i j w w' p1.1 h2 p2.2.1 hw hw')
theorem Ms.go_lo (h : Se o xs (mid + m) s0 r0 s r) (hc1 : s ≤ k) (hc2 : k < r) (hu : xs[mid + m - 1 - k]? = some u) (hw : xs[k]? = some w) (hl : o.lt u w = false) : Se o xs (mid + m) s0 r0 (k + 1) r := by
  have := h.a1; have := h.a2; have := h.a3
  refine ⟨by omega, by omega, by omega, fun c u' w' g1 g2 hu' hw' => ?_, h.hi⟩
  by_cases e : c = k
  · subst e
    rw [hu] at hu'; rw [hw] at hw'
    cases hu'; cases hw'
    exact hl
  · cases hx : o.lt u' w' with
    | false => rfl
    | true =>
      have := M.anti g1 (show c < k by omega) (by omega) hu' hw' hu hw hx
      rw [this] at hl
      cases hl
theorem Ms.go_hi (h : Se o xs (mid + m) s0 r0 s r) (hc1 : s ≤ k) (hc2 : k < r) (hu : xs[mid + m - 1 - k]? = some u) (hw : xs[k]? = some w) (hl : o.lt u w = true) : Se o xs (mid + m) s0 r0 s k := by
  have := h.a1; have := h.a2; have := h.a3
  refine ⟨by omega, by omega, by omega, h.lo, fun c u' w' g1 g2 hu' hw' => ?_⟩
  by_cases e : c = k
  · subst e
    rw [hu] at hu'; rw [hw] at hw'
    cases hu'; cases hw'
    exact hl
  · exact M.anti (by omega) (show k < c by omega) g2 hu hw hu' hw' hl
omit M in
theorem So.lt_or (h : So o xs a b) (h1 : a ≤ i) (h2 : i ≤ j) (h3 : j < b) (hu : xs[i]? = some u) (hw : xs[j]? = some w) : u = w ∨ o.lt u w = true := by
  by_cases e : i = j
  · subst e
    rw [hu] at hw
    cases hw
    exact .inl rfl
  · exact .inr (h i j u w h1 (by omega) h3 hu hw)
omit M in
theorem chain {x y z t : Int} (h1 : x = y ∨ o.lt x y = true) (h2 : o.lt y z = true) (h3 : z = t ∨ o.lt z t = true) : o.lt x t = true := by
  rcases h1 with rfl | h1 <;> rcases h3 with rfl | h3
  · exact h2
  · exact o.tr h2 h3
  · exact o.tr h1 h2
  · exact o.tr (o.tr h1 h2) h3
omit M
theorem Ro.none (h : ¬ (s < m ∧ m < e)) (h1 : s ≤ m) (h2 : m ≤ e) : Ro xs xs s m e := by
  by_cases c : s < m
  · obtain rfl : m = e := by omega
    exact Ro.right
  · obtain rfl : s = m := by omega
    exact Ro.left
theorem bs1_lo (h : So o xs m b) (hu : xs[k]? = some u) (hk : k < b) (hl : o.lt u v = true) : ∀ (q : Nat) (x : Int), m ≤ q → q < k + 1 → xs[q]? = some x → o.lt x v = true := by
  intro q x h1 h2 hx
  rcases h.lt_or h1 (show q ≤ k by omega) hk hx hu with rfl | h3
  · exact hl
  · exact o.tr h3 hl
theorem bs1_hi (h : So o xs m b) (hu : xs[k]? = some u) (hm : m ≤ k) (hl : o.lt u v = false) : ∀ (q : Nat) (x : Int), k ≤ q → q < b → xs[q]? = some x → o.lt x v = false := by
  intro q x h1 h2 hx
  rcases h.lt_or hm h1 h2 hu hx with rfl | h3
  · exact hl
  · cases hc : o.lt x v with
    | false => rfl
    | true => rw [o.tr h3 hc] at hl; cases hl
theorem bs2_lo (h : So o xs m b) (hu : xs[k]? = some u) (hk : k < b) (hl : o.lt v u = false) : ∀ (q : Nat) (x : Int), m ≤ q → q < k + 1 → xs[q]? = some x → o.lt v x = false := by
  intro q x h1 h2 hx
  rcases h.lt_or h1 (show q ≤ k by omega) hk hx hu with rfl | h3
  · exact hl
  · cases hc : o.lt v x with
    | false => rfl
    | true => rw [o.tr hc h3] at hl; cases hl
theorem bs2_hi (h : So o xs m b) (hu : xs[k]? = some u) (hm : m ≤ k) (hl : o.lt v u = true) : ∀ (q : Nat) (x : Int), k ≤ q → q < b → xs[q]? = some x → o.lt v x = true := by
  intro q x h1 h2 hx
  rcases h.lt_or hm h1 h2 hu hx with rfl | h3
  · exact hl
  · exact o.tr hl h3
include M
theorem Ms.bounds (h : Se o xs (mid + m) s0 r0 s s) : a ≤ s ∧ s ≤ mid ∧ s ≤ m ∧ m ≤ mid + m - s ∧ mid ≤ mid + m - s ∧ mid + m - s ≤ b ∧ a < mid ∧ mid < b ∧ s ≤ mid + m := by
  have h0 := M.s0r0; have g1 := h.a1; have g3 := h.a3; have m1 := M.am; have m2 := M.mb; have m3 := M.h1; have m4 := M.h2; have m5 := M.hs
  omega
structure Hv (o : SO Int) (zs : List Int) (a s mid e b : Nat) : Prop where
  l : Mg o zs a s mid
  r : Mg o zs mid e b
  x : Cr (fun u v => o.lt u v = true) zs a mid mid b
theorem Ms.halves (h : Se o xs (mid + m) s0 r0 s s) (he : e + s = mid + m) (hr : Ro xs zs s m e) : Hv o zs a s mid e b ∧ a ≤ s ∧ s ≤ mid ∧ mid ≤ e ∧ e ≤ b ∧ s ≤ m ∧ m ≤ e ∧ a < mid ∧ mid < b := by
  have h0 := M.s0r0; have g1 := h.a1; have g3 := h.a3; have m1 := M.am; have m2 := M.mb; have m3 := M.h1; have m4 := M.h2; have m5 := M.hs; have ml := M.len
  have o1 : a ≤ s ∧ s ≤ mid ∧ mid ≤ e ∧ e ≤ b ∧ s ≤ m ∧ m ≤ e := by omega
  have hl : ∀ i, a ≤ i → i < mid → ∃ l, zs[i]? = xs[l]? ∧ ((l = i ∧ i < s) ∨ (l + s = i + m ∧ s ≤ i)) := by
    intro i i1 i2
    by_cases c : i < s
    · exact ⟨i, by rw [hr.2, rp, if_neg (by omega), if_neg (by omega)], .inl ⟨rfl, c⟩⟩
    · exact ⟨i + m - s, by rw [hr.2, rp, if_pos (by omega)], .inr ⟨by omega, by omega⟩⟩
  have hR : ∀ j, mid ≤ j → j < b → ∃ l, zs[j]? = xs[l]? ∧ ((l + e = j + m ∧ j < e) ∨ (l = j ∧ e ≤ j)) := by
    intro j j1 j2
    by_cases c : j < e
    · exact ⟨j + m - e, by rw [hr.2, rp, if_neg (by omega), if_pos (by omega)], .inl ⟨by omega, c⟩⟩
    · exact ⟨j, by rw [hr.2, rp, if_neg (by omega), if_neg (by omega)], .inr ⟨rfl, by omega⟩⟩
  refine ⟨⟨⟨?_, ?_, ?_⟩, ⟨?_, ?_, ?_⟩, ?_⟩, o1.1, o1.2.1, o1.2.2.1, o1.2.2.2.1, o1.2.2.2.2.1, o1.2.2.2.2.2, by omega, by omega⟩
  · intro i j u v a1 a2 a3 hu hv
    obtain ⟨l, e1, e2⟩ := hl i a1 (by omega)
    obtain ⟨l', e3, e4⟩ := hl j (by omega) (by omega)
    exact M.left l l' u v (by omega) (by omega) (by omega) (e1 ▸ hu) (e3 ▸ hv)
  · intro i j u v a1 a2 a3 hu hv
    obtain ⟨l, e1, e2⟩ := hl i (by omega) (by omega)
    obtain ⟨l', e3, e4⟩ := hl j (by omega) a3
    exact M.right l l' u v (by omega) (by omega) (by omega) (e1 ▸ hu) (e3 ▸ hv)
  · intro i j u v a1 a2 a3 a4 hu hv
    obtain ⟨l, e1, e2⟩ := hl i (by omega) (by omega)
    obtain ⟨l', e3, e4⟩ := hl j (by omega) a4
    exact M.cr l l' u v (by omega) (by omega) (by omega) (by omega) (e1 ▸ hu) (e3 ▸ hv)
  · intro i j u v a1 a2 a3 hu hv
    obtain ⟨l, e1, e2⟩ := hR i a1 (by omega)
    obtain ⟨l', e3, e4⟩ := hR j (by omega) (by omega)
    exact M.left l l' u v (by omega) (by omega) (by omega) (e1 ▸ hu) (e3 ▸ hv)
  · intro i j u v a1 a2 a3 hu hv
    obtain ⟨l, e1, e2⟩ := hR i (by omega) (by omega)
    obtain ⟨l', e3, e4⟩ := hR j (by omega) a3
    exact M.right l l' u v (by omega) (by omega) (by omega) (e1 ▸ hu) (e3 ▸ hv)
  · intro i j u v a1 a2 a3 a4 hu hv
    obtain ⟨l, e1, e2⟩ := hR i a1 (by omega)
    obtain ⟨l', e3, e4⟩ := hR j (by omega) a4
    exact M.cr l l' u v (by omega) (by omega) (by omega) (by omega) (e1 ▸ hu) (e3 ▸ hv)
  · intro i j u v a1 a2 a3 a4 hu hv
    obtain ⟨l, e1, e2⟩ := hl i a1 a2
    obtain ⟨l', e3, e4⟩ := hR j a3 a4
    rw [e1] at hu
    rw [e3] at hv
    rcases e2 with e2 | e2 <;> rcases e4 with e4 | e4
    · exact M.left l l' u v (by omega) (by omega) (by omega) hu hv
    · have hs : s0 < s := by omega
      obtain ⟨x, hx⟩ := at_lt (xs := xs) (k := s - 1) (by omega)
      obtain ⟨y, hy⟩ := at_lt (xs := xs) (k := e) (by omega)
      have hf := h.lo (s - 1) y x (by omega) (by omega) (by rw [← hy]; exact cell (by omega)) hx
      have hd := M.cr (s - 1) e x y (by omega) (by omega) (by omega) (by omega) hx hy
      exact chain (M.left.lt_or (i := l) (j := s - 1) (by omega) (by omega) (by omega) hu hx) (lt_of_not hf hd) (M.right.lt_or (i := e) (j := l') (by omega) (by omega) (by omega) hy hv)
    · have hs : s < r0 := by omega
      obtain ⟨x, hx⟩ := at_lt (xs := xs) (k := s) (by omega)
      obtain ⟨y, hy⟩ := at_lt (xs := xs) (k := e - 1) (by omega)
      have hf := h.hi s y x (Nat.le_refl _) hs (by rw [← hy]; exact cell (by omega)) hx
      exact chain (M.right.lt_or (i := l) (j := e - 1) (by omega) (by omega) (by omega) hu hy) hf (M.left.lt_or (i := s) (j := l') (by omega) (by omega) (by omega) hx hv)
    · exact M.right l l' u v (by omega) (by omega) (by omega) hu hv
omit M
theorem Hv.done {t1 t2 : List Int} (h : Hv o zs a s mid e b) (h0 : a < mid ∧ mid < b) (g1 : Sg a mid zs t1) (s1 : So o t1 a mid) (g2 : Sg mid b t1 t2) (s2 : So o t2 mid b) : So o t2 a b :=
  (s1.frame g2 (by omega)).join s2 ((h.x.sg g1 (by omega) (by omega)).sg g2 (by omega) (by omega))
theorem Hv.two {t1 : List Int} (h : Hv o zs a s mid e b) (g1 : Sg a mid zs t1) (h2 : mid ≤ e) : Mg o t1 mid e b :=
  ⟨h.r.left.frame g1 (by omega), h.r.right.frame g1 (by omega), h.r.cr.sg g1 (by omega) (by omega)⟩
/-! blocks -/
def St (o : SO Int) (xs : List Int) (d1 d2 a n : Nat) : Prop := ∀ (i j : Nat) (u w : Int), i < j → j < n → xs[i]? = some u → xs[j]? = some w →
  (j < a → (∀ k, d2 ∣ k → i < k → j < k) → o.lt u w = true) ∧ (j < a → (∃ k, d2 ∣ k ∧ i < k ∧ k ≤ j) → u < w) ∧ (a ≤ j → (∀ k, d1 ∣ k → i < k → j < k) → o.lt u w = true) ∧ (a ≤ j → (∃ k, d1 ∣ k ∧ i < k ∧ k ≤ j) → u < w)
variable {d1 d2 : Nat}
theorem gap {d k : Nat} (h1 : d ∣ a) (h2 : d ∣ k) (h3 : a < k) : a + d ≤ k := by
  obtain ⟨x, rfl⟩ := h1
  obtain ⟨y, rfl⟩ := h2
  have : x < y := Nat.lt_of_mul_lt_mul_left h3
  have := Nat.mul_le_mul_left d (show x + 1 ≤ y by omega)
  rw [Nat.mul_add, Nat.mul_one] at this
  exact this
theorem St.step (h : St o xs d1 d2 a n) (hd : d1 ∣ d2) (ha : d2 ∣ a) (hb : b = a + d2 ∨ b = n) (hbn : b ≤ n) (hba : b ≤ a + d2) (hab : a ≤ b) (g : Sg a b xs ys) (hs : So o ys a b) : St o ys d1 d2 b n := by
  have ha1 : d1 ∣ a := Nat.dvd_trans hd ha
  intro i j u w hij hj hu hw
  have hold : ∀ k, d1 ∣ k → a ≤ k → i < k → k ≤ j → (k ≤ a ∨ b ≤ k) → u < w := by
    intro k hk h0 h1 h2 h3
    obtain ⟨l, l1, l2, l3⟩ := g.back (a := 0) (b := k) (i := i) (by omega) (by omega) h1
    obtain ⟨l', m1, m2, m3⟩ := g.back (a := k) (b := n) (i := j) (by omega) h2 hj
    exact (h l l' u w (by omega) m2 (l3 ▸ hu) (m3 ▸ hw)).2.2.2 (by omega) ⟨k, hk, l2, m1⟩
  refine ⟨fun hjb hk => ?_, fun hjb hk => ?_, fun hjb hk => ?_, fun hjb hk => ?_⟩
  · by_cases e : a ≤ j
    · have hi : a ≤ i := by
        by_cases e2 : a ≤ i
        · exact e2
        · have := hk a ha (by omega); omega
      exact hs i j u w hi hij hjb hu hw
    · rw [g.2.1 i (by omega)] at hu
      rw [g.2.1 j (by omega)] at hw
      exact (h i j u w hij hj hu hw).1 (by omega) hk
  · obtain ⟨k, hk1, hk2, hk3⟩ := hk
    by_cases e : a ≤ j
    · have hka : k ≤ a := by
        by_cases e2 : k ≤ a
        · exact e2
        · have := gap ha hk1 (by omega); omega
      exact hold a ha1 (Nat.le_refl _) (by omega) e (.inl (Nat.le_refl _))
    · rw [g.2.1 i (by omega)] at hu
      rw [g.2.1 j (by omega)] at hw
      exact (h i j u w hij hj hu hw).2.1 (by omega) ⟨k, hk1, hk2, hk3⟩
  · have hbe : b = a + d2 := by omega
    have hib : b ≤ i := by
      by_cases e2 : b ≤ i
      · exact e2
      · have := hk b (by rw [hbe]; exact Nat.dvd_add ha1 hd) (by omega); omega
    rw [g.2.1 i (by omega)] at hu
    rw [g.2.1 j (by omega)] at hw
    exact (h i j u w hij hj hu hw).2.2.1 (by omega) hk
  · obtain ⟨k, hk1, hk2, hk3⟩ := hk
    have hbe : b = a + d2 := by omega
    by_cases e2 : b ≤ i
    · rw [g.2.1 i (by omega)] at hu
      rw [g.2.1 j (by omega)] at hw
      exact (h i j u w hij hj hu hw).2.2.2 (by omega) ⟨k, hk1, hk2, hk3⟩
    · exact hold b (by rw [hbe]; exact Nat.dvd_add ha1 hd) (by omega) (by omega) hjb (.inr (Nat.le_refl _))
theorem St.up (h : St o xs d1 d2 n n) (d : Nat) : St o xs d2 d 0 n := fun i j u w h1 h2 hu hw =>
  have := h i j u w h1 h2 hu hw
  ⟨fun h => absurd h (Nat.not_lt_zero _), fun h => absurd h (Nat.not_lt_zero _), fun _ => this.1 h2, fun _ => this.2.1 h2⟩
theorem St.rising (h : Ri xs 0 0 n) (d : Nat) : St o xs 1 d 0 n := fun i j u w h1 h2 hu hw =>
  ⟨fun h => absurd h (Nat.not_lt_zero _), fun h => absurd h (Nat.not_lt_zero _), fun _ hk => by have := hk j (Nat.one_dvd _) h1; omega, fun _ _ => h i j u w (Nat.zero_le _) h1 (Nat.zero_le _) h2 hu hw⟩
theorem St.whole (h : St o xs d1 d2 0 n) (hn : n ≤ d1) : So o xs 0 n := fun i j u w _ h2 h3 hu hw =>
  (h i j u w h2 h3 hu hw).2.2.1 (Nat.zero_le _) fun k hk hik => by
    have := Nat.le_of_dvd (by omega) hk
    omega
theorem St.block (h : St o xs d1 d2 a n) (ha : d1 ∣ m) (ham : a ≤ m) (hb : b ≤ m + d1) (hbn : b ≤ n) : So o xs m b := fun i j u w h1 h2 h3 hu hw =>
  (h i j u w h2 (by omega) hu hw).2.2.1 (by omega) fun k hk hik => by
    have := gap ha hk (by omega)
    omega
theorem St.rise (h : St o xs 1 d2 a n) : Ri xs a a n := fun i j u w h1 h2 h3 h4 hu hw => (h i j u w h2 h4 hu hw).2.2.2 h3 ⟨j, Nat.one_dvd _, h2, Nat.le_refl _⟩
theorem St.pair (h : St o xs d1 d2 a n) (hd : d1 ∣ d2) (ha : d2 ∣ a) (hm : m = a + d1) (hmn : m ≤ n) (hb : b ≤ m + d1) (hbn : b ≤ n) : Mg o xs a m b := by
  have ha1 : d1 ∣ a := Nat.dvd_trans hd ha
  have hm1 : d1 ∣ m := by rw [hm]; exact Nat.dvd_add ha1 (Nat.dvd_refl _)
  refine ⟨?_, h.block hm1 (by omega) hb hbn, fun i j u w h1 h2 h3 h4 hu hw => (h i j u w (by omega) (by omega) hu hw).2.2.2 (by omega) ⟨m, hm1, h2, h3⟩⟩
  intro i j u w h1 h2 h3 hu hw
  exact (h i j u w h2 (by omega) hu hw).2.2.1 (by omega) fun k hk hik => by
    have := gap ha1 hk (by omega)
    omega
end
end Srt
end Go.Wk
