/- Plain facts of the codec's numbers, texts and sums. -/
import Derived.Test.YtdaphlemhmgncaaCod
import Derived.ProofKit
set_option linter.unusedVariables false
set_option linter.unusedSimpArgs false
namespace Go.Wk.Cod
open Go
/-! ### Numbers' bytes stand in the numbers' order -/
theorem head_add : ∀ (k : Fin 8) (q : Fin 128), q.1 < 2 ^ (7 - k.1) → (onesB k.1 ||| (q.1 % 256)) = onesB k.1 + q.1 := by decide +kernel
theorem beh_lt_pow {u k : Nat} (hu : u < 18446744073709551616) (hk : beh u = k) (h8 : k < 8) : u < 2 ^ (8 * k) * 2 ^ (7 - k) := by
  have h := (beh_le_iff hu h8).1 (by omega)
  have h2 : u < 2 ^ (7 * (k + 1)) := Nat.lt_of_lt_of_le h (by rw [Nat.one_mul]; exact Nat.mod_le _ _)
  rw [← Nat.pow_add, show 8 * k + (7 - k) = 7 * (k + 1) by omega]
  exact h2
theorem headB_lo {u k : Nat} (hu : u < 18446744073709551616) (hk : beh u = k) (h8 : k < 8) : headB u = onesB k + u / 2 ^ (8 * k) ∧ u / 2 ^ (8 * k) < 2 ^ (7 - k) := by
  have hq : u / 2 ^ (8 * k) < 2 ^ (7 - k) := Nat.div_lt_of_lt_mul (beh_lt_pow hu hk h8)
  have h128 : u / 2 ^ (8 * k) < 128 := Nat.lt_of_lt_of_le hq (Nat.pow_le_pow_right (by decide) (by omega : 7 - k ≤ 7))
  refine ⟨?_, hq⟩
  unfold headB
  rw [hk, if_pos h8]
  exact head_add ⟨k, h8⟩ ⟨_, h128⟩ hq
theorem headB_8 {u : Nat} (hk : beh u = 8) : headB u = 255 := by
  unfold headB
  rw [hk, if_neg (by decide)]
  decide
end Go.Wk.Cod
