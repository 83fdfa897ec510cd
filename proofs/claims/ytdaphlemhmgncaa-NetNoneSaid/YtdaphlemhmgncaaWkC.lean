/- A small calculus of weakest preconditions over the kit's code: rules for the operations, proved for all programs. -/
import Derived.Test.YtdaphlemhmgncaaWk16
import Derived.Test.YtdaphlemhmgncaaKinds
import Derived.Test.YtdaphlemhmgncaaWk9
import Derived.Test.YtdaphlemhmgncaaCod
set_option linter.unusedVariables false
set_option linter.unusedSimpArgs false
section
namespace Go.Wk
open Go Go.RowKit Go.ChangeShapes Go.WideShapes Go.ChangeAt
end Go.Wk
end
section
namespace Go.Wk
open Go Cod
theorem wrap_toI {m : Nat} (h : m < 18446744073709551616) : IntKind.i64.wrap (m : Int) = Cod.toI m := by
  rw [wrap_i64_eq]
  unfold Cod.toI
  split <;> split <;> omega
theorem byte_eq {m m' : Nat} (h : m = m') : Value.int .u8 ((m % 2 ^ IntKind.u8.bits : Nat) : Int) = .int .u8 ((UInt8.ofNat m').toNat : Int) := by
  subst h
  simp [IntKind.bits]
theorem byte_lt {m : Nat} (h : m < 256) : Value.int .u8 (m : Int) = .int .u8 ((UInt8.ofNat m).toNat : Int) := by
  simp [Nat.mod_eq_of_lt h]
theorem head_set1 {u s : Nat} (h : ((beh u : Nat) : Int) < 8) (hs : s = 8 * beh u) : Value.int .u8 ((onesB (beh u) ||| (u / 2 ^ s % 2 ^ IntKind.u8.bits) : Nat) : Int) = .int .u8 ((UInt8.ofNat (headB u)).toNat : Int) := by
  subst hs
  have e : headB u = onesB (beh u) ||| (u / 2 ^ (8 * beh u) % 2 ^ IntKind.u8.bits) := by
    unfold headB
    rw [if_pos (by omega)]
    rfl
  rw [← e]
  exact byte_lt (headB_lt u)
theorem head_set2 {u : Nat} (h : (8 : Int) ≤ (beh u : Int)) : Value.int .u8 (onesB (beh u) : Int) = .int .u8 ((UInt8.ofNat (headB u)).toNat : Int) := by
  have e8 : beh u = 8 := by have := beh_le u; omega
  have e : headB u = onesB (beh u) := by
    unfold headB
    rw [if_neg (by omega), e8]
  rw [← e]
  exact byte_lt (headB_lt u)
end Go.Wk
end
