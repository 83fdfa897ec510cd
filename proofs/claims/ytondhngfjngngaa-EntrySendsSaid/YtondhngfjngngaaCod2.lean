/- Plain facts of the codec's numbers, texts and sums. -/
import Derived.Test.YtondhngfjngngaaCod
import Derived.ProofKit
set_option linter.unusedVariables false
set_option linter.unusedSimpArgs false
namespace Go.Wk.Cod
open Go
/-! ### Numbers' bytes stand in the numbers' order -/
theorem less_self : ∀ l : List UInt8, Op.bytesLess l l = false
  | [] => rfl
  | a :: l => by simp [Op.bytesLess, less_self l]
theorem less_cons (a b : UInt8) (x y : List UInt8) : Op.bytesLess (a :: x) (b :: y) = (decide (a.toNat < b.toNat) || (decide (a.toNat = b.toNat) && Op.bytesLess x y)) := by
  have h1 : (a == b) = decide (a.toNat = b.toNat) := by
    by_cases h : a = b
    · subst h; simp
    · have : ¬ a.toNat = b.toNat := fun e => h (UInt8.toNat.inj e)
      simp [h, this]
  have h2 : decide (a < b) = decide (a.toNat < b.toNat) := by
    congr 1
  show (decide (a < b) || (a == b && Op.bytesLess x y)) = _
  rw [h1, h2]
theorem lex {a b A B W : Nat} (hA : A < W) (hB : B < W) : (decide (a < b) || (decide (a = b) && decide (A < B))) = decide (A + W * a < B + W * b) := by
  rcases Nat.lt_trichotomy a b with h | h | h
  · have h1 : W * (a + 1) ≤ W * b := Nat.mul_le_mul_left W h
    rw [Nat.mul_add] at h1
    have h2 : A + W * a < B + W * b := by omega
    simp [h, h2]
  · subst h
    by_cases h2 : A < B
    · have : A + W * a < B + W * a := by omega
      simp [h2]
    · have : ¬ A + W * a < B + W * a := by omega
      simp [h2]
  · have h1 : W * (b + 1) ≤ W * a := Nat.mul_le_mul_left W h
    rw [Nat.mul_add] at h1
    have h2 : ¬ A + W * a < B + W * b := by omega
    have h3 : ¬ a < b := by omega
    have h4 : ¬ a = b := by omega
    simp [h2, h3, h4]
theorem tail_less (u v : Nat) : ∀ k, Op.bytesLess (tailB u k) (tailB v k) = decide (u % 2 ^ (8 * k) < v % 2 ^ (8 * k))
  | 0 => by simp [tailB, Op.bytesLess, Nat.mod_one]
  | k + 1 => by
    have e : 2 ^ (8 * (k + 1)) = 2 ^ (8 * k) * 256 := by rw [Nat.mul_add, Nat.pow_add]
    rw [tailB, tailB, less_cons, tail_less u v k, e, Nat.mod_mul, Nat.mod_mul]
    have h1 : ∀ n, (UInt8.ofNat n).toNat = n % 256 := fun n => by simp
    rw [h1, h1]
    exact lex (Nat.mod_lt _ (Nat.two_pow_pos _)) (Nat.mod_lt _ (Nat.two_pow_pos _))
theorem head_add : ∀ (k : Fin 8) (q : Fin 128), q.1 < 2 ^ (7 - k.1) → (onesB k.1 ||| (q.1 % 256)) = onesB k.1 + q.1 := by decide +kernel
theorem ones_top : ∀ (k : Fin 8), onesB k.1 + 2 ^ (7 - k.1) = onesB (k.1 + 1) := by decide +kernel
theorem ones_mono : ∀ (k l : Fin 9), k.1 ≤ l.1 → onesB k.1 ≤ onesB l.1 := by decide +kernel
theorem beh_lt_pow {u k : Nat} (hu : u < 18446744073709551616) (hk : beh u = k) (h8 : k < 8) : u < 2 ^ (8 * k) * 2 ^ (7 - k) := by
  have h := (beh_le_iff hu h8).1 (by omega)
  have h2 : u < 2 ^ (7 * (k + 1)) := Nat.lt_of_lt_of_le h (by rw [Nat.one_mul]; exact Nat.mod_le _ _)
  rw [← Nat.pow_add, show 8 * k + (7 - k) = 7 * (k + 1) by omega]
  exact h2
theorem headB_lo {u k : Nat} (hu : u < 18446744073709551616) (hk : beh u = k) (h8 : k < 8) : headB u = onesB k + u / 2 ^ (8 * k) ∧ u / 2 ^ (8 * k) < 2 ^ (7 - k) := by
  have hq : u / 2 ^ (8 * k) < 2 ^ (7 - k) := Nat.div_lt_of_lt_mul (beh_lt_pow hu hk h8)
  have h128 : u / 2 ^ (8 * k) < 128 := Nat.lt_of_lt_of_le hq (Nat.pow_le_pow_right (by decide) (by omega : 7 - k ≤ 7))
  refine ⟨?_, hq⟩
  unfold headB
  rw [hk, if_pos h8]
  exact head_add ⟨k, h8⟩ ⟨_, h128⟩ hq
theorem headB_8 {u : Nat} (hk : beh u = 8) : headB u = 255 := by
  unfold headB
  rw [hk, if_neg (by decide)]
  decide
theorem beh_mono {u v : Nat} (hu : u < 18446744073709551616) (hv : v < 18446744073709551616) (h : beh u < beh v) : u < v := by
  have h8 := beh_le v
  have h1 := (beh_le_iff hu (k := beh u) (by omega)).1 (Nat.le_refl _)
  have h2 : ¬ v < _ := fun h2 => absurd ((beh_le_iff hv (k := beh u) (by omega)).2 h2) (by omega)
  omega
theorem head_mono {u v : Nat} (hu : u < 18446744073709551616) (hv : v < 18446744073709551616) (h : beh u < beh v) : headB u < headB v := by
  have h8 := beh_le v
  obtain ⟨h1, h2⟩ := headB_lo hu rfl (by omega)
  have h3 := ones_top ⟨beh u, by omega⟩
  have h4 := ones_mono ⟨beh u + 1, by omega⟩ ⟨beh v, by omega⟩ (by simp; omega)
  simp only at h3 h4
  by_cases hv8 : beh v = 8
  · rw [headB_8 hv8]
    rw [hv8] at h4
    have : onesB 8 = 255 := by decide
    omega
  · obtain ⟨h5, _⟩ := headB_lo hv rfl (by omega)
    have h6 : headB u < onesB (beh v) := by omega
    rw [h5]
    exact Nat.lt_of_lt_of_le h6 (Nat.le_add_right _ _)
theorem enc_less {u v : Nat} (hu : u < 18446744073709551616) (hv : v < 18446744073709551616) : Op.bytesLess (enc u) (enc v) = decide (u < v) := by
  have hx : ∀ w, (UInt8.ofNat (headB w)).toNat = headB w := fun w => by simp [Nat.mod_eq_of_lt (headB_lt w)]
  rw [enc, enc, less_cons, hx, hx]
  rcases Nat.lt_trichotomy (beh u) (beh v) with h | h | h
  · simp [head_mono hu hv h, beh_mono hu hv h]
  · rw [← h, tail_less]
    by_cases h8 : beh u < 8
    · obtain ⟨h1, _⟩ := headB_lo hu rfl h8
      obtain ⟨h2, _⟩ := headB_lo hv h.symm h8
      rw [h1, h2]
      have hl := lex (a := u / 2 ^ (8 * beh u)) (b := v / 2 ^ (8 * beh u)) (Nat.mod_lt u (Nat.two_pow_pos (8 * beh u))) (Nat.mod_lt v (Nat.two_pow_pos (8 * beh u)))
      rw [Nat.mod_add_div, Nat.mod_add_div] at hl
      rw [← hl]
      congr 1
      · congr 1
        simp
      · congr 2
        simp
    · have e8 : beh u = 8 := by have := beh_le u; omega
      rw [headB_8 e8, headB_8 (by omega), e8]
      have m1 : u % 2 ^ (8 * 8) = u := Nat.mod_eq_of_lt hu
      have m2 : v % 2 ^ (8 * 8) = v := Nat.mod_eq_of_lt hv
      rw [m1, m2]
      simp
  · have h1 := head_mono hv hu h
    have h2 := beh_mono hv hu h
    have h3 : ¬ headB u < headB v := by omega
    have h4 : ¬ headB u = headB v := by omega
    have h5 : ¬ u < v := by omega
    simp [h3, h4, h5]
theorem enc_inj {u v : Nat} (hu : u < 18446744073709551616) (hv : v < 18446744073709551616) (h : enc u = enc v) : u = v := by
  have h1 := enc_less hu hv
  have h2 := enc_less hv hu
  rw [h, less_self] at h1
  rw [h, less_self] at h2
  have h1 := of_decide_eq_false h1.symm
  have h2 := of_decide_eq_false h2.symm
  omega
theorem enc_lt {u v : Nat} (hu : u < 18446744073709551616) (hv : v < 18446744073709551616) : (Op.bytesLess (⟨([] ++ enc u).toArray⟩ : ByteArray).data.toList (⟨([] ++ enc v).toArray⟩ : ByteArray).data.toList == decide ((u : Int) < (v : Int))) = true := by
  have := enc_less hu hv
  simp [this]
theorem enc_eq {u v : Nat} (hu : u < 18446744073709551616) (hv : v < 18446744073709551616) : (decide ((⟨([] ++ enc u).toArray⟩ : ByteArray) = ⟨([] ++ enc v).toArray⟩) == decide ((u : Int) = (v : Int))) = true := by
  by_cases h : u = v
  · subst h; simp
  · have h1 : ¬ enc u = enc v := fun e => h (enc_inj hu hv e)
    have h2 : ¬ (u : Int) = v := by omega
    simp [h1, h2]
end Go.Wk.Cod
