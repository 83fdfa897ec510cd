/- Plain facts of the codec's numbers, texts and sums. -/
import Derived.Test.YtdaphlemhmgncaaGreatCod
import Derived.ProofKit
set_option linter.unusedVariables false
set_option linter.unusedSimpArgs false
section
namespace Go.Wk.Cod
open Go
/-! ### Numbers' bytes stand in the numbers' order -/
theorem head_add : ∀ (k : Fin 8) (q : Fin 128), q.1 < 2 ^ (7 - k.1) → (onesB k.1 ||| (q.1 % 256)) = onesB k.1 + q.1 := by decide +kernel
theorem beh_lt_pow {u k : Nat} (hu : u < 18446744073709551616) (hk : beh u = k) (h8 : k < 8) : u < 2 ^ (8 * k) * 2 ^ (7 - k) := by
  have h := (beh_le_iff hu h8).1 (by omega)
  have h2 : u < 2 ^ (7 * (k + 1)) := Nat.lt_of_lt_of_le h (by rw [Nat.one_mul]; exact Nat.mod_le _ _)
  rw [← Nat.pow_add, show 8 * k + (7 - k) = 7 * (k + 1) by omega]
  exact h2
theorem headB_lo {u k : Nat} (hu : u < 18446744073709551616) (hk : beh u = k) (h8 : k < 8) : headB u = onesB k + u / 2 ^ (8 * k) ∧ u / 2 ^ (8 * k) < 2 ^ (7 - k) := by
  have hq : u / 2 ^ (8 * k) < 2 ^ (7 - k) := Nat.div_lt_of_lt_mul (beh_lt_pow hu hk h8)
  have h128 : u / 2 ^ (8 * k) < 128 := Nat.lt_of_lt_of_le hq (Nat.pow_le_pow_right (by decide) (by omega : 7 - k ≤ 7))
  refine ⟨?_, hq⟩
  unfold headB
  rw [hk, if_pos h8]
  exact head_add ⟨k, h8⟩ ⟨_, h128⟩ hq
theorem headB_8 {u : Nat} (hk : beh u = 8) : headB u = 255 := by
  unfold headB
  rw [hk, if_neg (by decide)]
  decide
end Go.Wk.Cod
end
section
namespace Go.Wk.Cod
open Go
/-! ### What was written is read -/
theorem or_add {x y : Nat} (hy : y < 256) : (x * 256 % 18446744073709551616) ||| y = (x * 256 + y) % 18446744073709551616 := by
  have h1 : x * 256 % 18446744073709551616 = x % 72057594037927936 * 2 ^ 8 := by omega
  rw [h1, Nat.or_comm, or_shift (k := 8) hy]
  omega
theorem foldB_tail (u : Nat) : ∀ (k v : Nat), foldB v (tailB u k) % 18446744073709551616 = (v * 2 ^ (8 * k) + u % 2 ^ (8 * k)) % 18446744073709551616
  | 0, v => by simp [tailB, foldB, Nat.mod_one]
  | k + 1, v => by
    have hb : (UInt8.ofNat (u / 2 ^ (8 * k))).toNat = u / 2 ^ (8 * k) % 256 := by simp
    have e : 2 ^ (8 * (k + 1)) = 2 ^ (8 * k) * 256 := by rw [Nat.mul_add, Nat.pow_add]
    have h : foldB v (tailB u (k + 1)) = foldB ((v * 256 % 18446744073709551616) ||| (UInt8.ofNat (u / 2 ^ (8 * k))).toNat) (tailB u k) := rfl
    rw [h, foldB_tail u k, hb, or_add (Nat.mod_lt _ (by decide)), e, Nat.mod_mul]
    generalize 2 ^ (8 * k) = W
    generalize u / W % 256 = q
    generalize u % W = r
    rw [Nat.add_mod, Nat.mod_mul_mod, ← Nat.add_mod]
    congr 1
    rw [Nat.add_mul, Nat.mul_assoc, Nat.mul_comm 256 W, Nat.mul_comm q W]
    omega
theorem foldB_eq {u v k : Nat} (hv : v < 18446744073709551616) : foldB v (tailB u k) = (v * 2 ^ (8 * k) + u % 2 ^ (8 * k)) % 18446744073709551616 := by
  rw [← foldB_tail, Nat.mod_eq_of_lt (foldB_lt hv _)]
theorem lead_all : ∀ (k : Fin 8) (q : Fin 128), q.1 < 2 ^ (7 - k.1) → lead (onesB k.1 + q.1) = k.1 := by decide +kernel
theorem mask_low : ∀ (k : Fin 8) (q : Fin 128), q.1 < 2 ^ (7 - k.1) → (onesB k.1 + q.1) &&& (255 - onesB k.1) = q.1 := by decide +kernel
theorem head_facts {u : Nat} (hu : u < 18446744073709551616) : lead (headB u) = beh u ∧ foldB (headB u &&& (255 - onesB (beh u))) (tailB u (beh u)) = u := by
  by_cases h8 : beh u < 8
  · obtain ⟨h1, h2⟩ := headB_lo hu rfl h8
    have h128 : u / 2 ^ (8 * beh u) < 128 := Nat.lt_of_lt_of_le h2 (Nat.pow_le_pow_right (by decide) (by omega : 7 - beh u ≤ 7))
    have hl := lead_all ⟨beh u, h8⟩ ⟨_, h128⟩ h2
    have hm := mask_low ⟨beh u, h8⟩ ⟨_, h128⟩ h2
    simp only at hl hm
    rw [h1]
    refine ⟨hl, ?_⟩
    rw [hm, foldB_eq (by omega), Nat.mul_comm, Nat.div_add_mod, Nat.mod_eq_of_lt hu]
  · have e8 : beh u = 8 := by have := beh_le u; omega
    rw [headB_8 e8, e8]
    refine ⟨by decide, ?_⟩
    have h0 : (255 &&& (255 - onesB 8)) = 0 := by decide
    have m1 : u % 2 ^ (8 * 8) = u := Nat.mod_eq_of_lt hu
    rw [h0, foldB_eq (by decide), m1, Nat.zero_mul, Nat.zero_add, Nat.mod_eq_of_lt hu]
theorem head_toNat (u : Nat) : (UInt8.ofNat (headB u)).toNat = headB u := by simp [Nat.mod_eq_of_lt (headB_lt u)]
theorem dec_enc {u : Nat} (hu : u < 18446744073709551616) (r : List UInt8) : dec (enc u ++ r) = (u, beh u + 1) := by
  obtain ⟨h1, h2⟩ := head_facts hu
  have ht : (tailB u (beh u)).length = beh u := tailB_length u _
  show dec (UInt8.ofNat (headB u) :: (tailB u (beh u) ++ r)) = _
  rw [dec_cons, head_toNat, h1, if_neg (by simp [ht]), List.take_append_of_le_length (by omega), List.take_of_length_le (by omega), h2, if_pos rfl]
theorem frame_eq {b : List UInt8} (hb : b.length ≤ 1048576) : frame b = 197 :: (le b.length 3 ++ (b ++ le (crc (197 :: (le b.length 3 ++ b))) 4)) := by
  unfold frame
  rw [if_neg (by omega)]
  simp
theorem frame_length {b : List UInt8} (hb : b.length ≤ 1048576) : (frame b).length = b.length + 8 := by
  rw [frame_eq hb]; simp [le_length]; omega
end Go.Wk.Cod
namespace Go.Wk.Cod
end Go.Wk.Cod
end
section
namespace Go.Wk.Cod
open Go
/-! ### One byte that differs is seen in the sum -/
end Go.Wk.Cod
namespace Go.Wk.Cod
theorem flip_cast {z : UInt8} {j : Nat} (hj : j < 8) : Value.int .u8 ((z.toNat ^^^ (1 * 2 ^ j % 2 ^ 8) : Nat) : Int) = Value.int .u8 (((UInt8.ofNat (z.toNat ^^^ (1 * 2 ^ j % 2 ^ 8))).toNat : Nat) : Int) := by
  have hlt : z.toNat ^^^ (1 * 2 ^ j % 2 ^ 8) < 256 := Nat.xor_lt_two_pow (n := 8) z.toNat_lt (Nat.mod_lt _ (by decide))
  have : (UInt8.ofNat (z.toNat ^^^ (1 * 2 ^ j % 2 ^ 8))).toNat = z.toNat ^^^ (1 * 2 ^ j % 2 ^ 8) := by
    rw [UInt8.toNat_ofNat']
    exact Nat.mod_eq_of_lt hlt
  rw [this]
end Go.Wk.Cod
end
