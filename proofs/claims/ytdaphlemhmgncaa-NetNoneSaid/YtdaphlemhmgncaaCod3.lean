/- Plain facts of the codec's numbers, texts and sums. -/
import Derived.Test.YtdaphlemhmgncaaCod2
set_option linter.unusedVariables false
set_option linter.unusedSimpArgs false
namespace Go.Wk.Cod
open Go
/-! ### What was written is read -/
theorem or_add {x y : Nat} (hy : y < 256) : (x * 256 % 18446744073709551616) ||| y = (x * 256 + y) % 18446744073709551616 := by
  have h1 : x * 256 % 18446744073709551616 = x % 72057594037927936 * 2 ^ 8 := by omega
  rw [h1, Nat.or_comm, or_shift (k := 8) hy]
  omega
theorem foldB_tail (u : Nat) : ∀ (k v : Nat), foldB v (tailB u k) % 18446744073709551616 = (v * 2 ^ (8 * k) + u % 2 ^ (8 * k)) % 18446744073709551616
  | 0, v => by simp [tailB, foldB, Nat.mod_one]
  | k + 1, v => by
    have hb : (UInt8.ofNat (u / 2 ^ (8 * k))).toNat = u / 2 ^ (8 * k) % 256 := by simp
    have e : 2 ^ (8 * (k + 1)) = 2 ^ (8 * k) * 256 := by rw [Nat.mul_add, Nat.pow_add]
    have h : foldB v (tailB u (k + 1)) = foldB ((v * 256 % 18446744073709551616) ||| (UInt8.ofNat (u / 2 ^ (8 * k))).toNat) (tailB u k) := rfl
    rw [h, foldB_tail u k, hb, or_add (Nat.mod_lt _ (by decide)), e, Nat.mod_mul]
    generalize 2 ^ (8 * k) = W
    generalize u / W % 256 = q
    generalize u % W = r
    rw [Nat.add_mod, Nat.mod_mul_mod, ← Nat.add_mod]
    congr 1
    rw [Nat.add_mul, Nat.mul_assoc, Nat.mul_comm 256 W, Nat.mul_comm q W]
    omega
theorem foldB_eq {u v k : Nat} (hv : v < 18446744073709551616) : foldB v (tailB u k) = (v * 2 ^ (8 * k) + u % 2 ^ (8 * k)) % 18446744073709551616 := by
  rw [← foldB_tail, Nat.mod_eq_of_lt (foldB_lt hv _)]
theorem lead_all : ∀ (k : Fin 8) (q : Fin 128), q.1 < 2 ^ (7 - k.1) → lead (onesB k.1 + q.1) = k.1 := by decide +kernel
theorem mask_low : ∀ (k : Fin 8) (q : Fin 128), q.1 < 2 ^ (7 - k.1) → (onesB k.1 + q.1) &&& (255 - onesB k.1) = q.1 := by decide +kernel
theorem head_facts {u : Nat} (hu : u < 18446744073709551616) : lead (headB u) = beh u ∧ foldB (headB u &&& (255 - onesB (beh u))) (tailB u (beh u)) = u := by
  by_cases h8 : beh u < 8
  · obtain ⟨h1, h2⟩ := headB_lo hu rfl h8
    have h128 : u / 2 ^ (8 * beh u) < 128 := Nat.lt_of_lt_of_le h2 (Nat.pow_le_pow_right (by decide) (by omega : 7 - beh u ≤ 7))
    have hl := lead_all ⟨beh u, h8⟩ ⟨_, h128⟩ h2
    have hm := mask_low ⟨beh u, h8⟩ ⟨_, h128⟩ h2
    simp only at hl hm
    rw [h1]
    refine ⟨hl, ?_⟩
    rw [hm, foldB_eq (by omega), Nat.mul_comm, Nat.div_add_mod, Nat.mod_eq_of_lt hu]
  · have e8 : beh u = 8 := by have := beh_le u; omega
    rw [headB_8 e8, e8]
    refine ⟨by decide, ?_⟩
    have h0 : (255 &&& (255 - onesB 8)) = 0 := by decide
    have m1 : u % 2 ^ (8 * 8) = u := Nat.mod_eq_of_lt hu
    rw [h0, foldB_eq (by decide), m1, Nat.zero_mul, Nat.zero_add, Nat.mod_eq_of_lt hu]
theorem head_toNat (u : Nat) : (UInt8.ofNat (headB u)).toNat = headB u := by simp [Nat.mod_eq_of_lt (headB_lt u)]
theorem dec_enc {u : Nat} (hu : u < 18446744073709551616) (r : List UInt8) : dec (enc u ++ r) = (u, beh u + 1) := by
  obtain ⟨h1, h2⟩ := head_facts hu
  have ht : (tailB u (beh u)).length = beh u := tailB_length u _
  show dec (UInt8.ofNat (headB u) :: (tailB u (beh u) ++ r)) = _
  rw [dec_cons, head_toNat, h1, if_neg (by simp [ht]), List.take_append_of_le_length (by omega), List.take_of_length_le (by omega), h2, if_pos rfl]
end Go.Wk.Cod
namespace Go.Wk.Cod
end Go.Wk.Cod
