/- A small calculus of weakest preconditions over the kit's code: rules for the operations, proved for all programs. -/
import Derived.Test.YtdaphlemhmgncaaGreatWk4
import Derived.Lib.Strings
set_option linter.unusedVariables false
set_option linter.unusedSimpArgs false
namespace Go.Wk
open Go Go.RowKit

theorem wrap_i64_eq (x : Int) : IntKind.i64.wrap x = if 9223372036854775808 ≤ x % 18446744073709551616 then x % 18446744073709551616 - 18446744073709551616 else x % 18446744073709551616 := by
  simp [IntKind.wrap, IntKind.bits, IntKind.signed]
theorem wrap_i64 {x : Int} (h1 : -9223372036854775808 ≤ x) (h2 : x ≤ 9223372036854775807) : IntKind.i64.wrap x = x := by
  rw [wrap_i64_eq]
  split <;> omega
theorem wrap_u {k : IntKind} (hk : k.signed = false) (m : Nat) : k.wrap (m : Int) = ((m % 2 ^ k.bits : Nat) : Int) := by
  unfold IntKind.wrap
  simp only [hk, Bool.false_and, Bool.false_eq_true, if_false]
  simp
theorem wrap_u_lt {k : IntKind} (hk : k.signed = false) {m : Nat} (hm : m < 2 ^ k.bits) : k.wrap (m : Int) = (m : Int) := by
  rw [wrap_u hk, Nat.mod_eq_of_lt hm]

section
variable {P : Program} {t : TypeId} {x y : Operand}

def intSem (op : BinOp) (k : IntKind) (a b : Int) : Sem Value :=
  match op with
  | .add | .sub | .mul => Op.intArith op k a b
  | .quo | .rem => Op.intDiv op k a b
  | .and | .or | .xor | .andNot => Op.intBits op k a b
  | _ => Op.intCmp op a b
theorem bin_int {op : BinOp} {k : IntKind} {a b : Int} {v : Value} (hs : op ≠ .shl ∧ op ≠ .shr) (h : ∀ w, (intSem op k a b).run P w = .ok v w) : BinR P op t x y (.int k a) (.int k b) v := by
  intro w
  have h1 : (eqGuard op t x y (.int k a) (.int k b)).run P w = .ok () w := by
    unfold eqGuard
    split <;> rfl
  have h2 : binOp op t (.int k a) (.int k b) = intSem op k a b := by
    cases op <;> first | (exact absurd rfl hs.1) | (exact absurd rfl hs.2) | simp [binOp, intSem]
  simp only [Sem.run_bind, h1, Result.andThen_ok, h2]
  exact h w

theorem bin_add {a b : Int} (h1 : -9223372036854775808 ≤ a + b) (h2 : a + b ≤ 9223372036854775807) : BinR P .add t x y (.int .i64 a) (.int .i64 b) (.int .i64 (a + b)) :=
  bin_int (by decide) fun w => by simp [intSem, Op.intArith, wrap_i64 h1 h2]
theorem bin_sub {a b : Int} (h1 : -9223372036854775808 ≤ a - b) (h2 : a - b ≤ 9223372036854775807) : BinR P .sub t x y (.int .i64 a) (.int .i64 b) (.int .i64 (a - b)) :=
  bin_int (by decide) fun w => by simp [intSem, Op.intArith, wrap_i64 h1 h2]
theorem bin_mul {a b : Int} (h1 : -9223372036854775808 ≤ a * b) (h2 : a * b ≤ 9223372036854775807) : BinR P .mul t x y (.int .i64 a) (.int .i64 b) (.int .i64 (a * b)) :=
  bin_int (by decide) fun w => by simp [intSem, Op.intArith, wrap_i64 h1 h2]
theorem bin_quo {a b : Int} (h0 : 0 ≤ a) (hb : 0 < b) (h2 : a ≤ 9223372036854775807) : BinR P .quo t x y (.int .i64 a) (.int .i64 b) (.int .i64 (a / b)) :=
  bin_int (by decide) fun w => by
    have h3 : a.tdiv b = a / b := Int.tdiv_eq_ediv_of_nonneg h0
    have h4 : 0 ≤ a / b := Int.ediv_nonneg h0 (by omega)
    have h5 : a / b ≤ a := Int.ediv_le_self _ h0
    simp [intSem, Op.intDiv, show b ≠ 0 by omega, h3, wrap_i64 (x := a / b) (by omega) (by omega)]
theorem bin_lss {k : IntKind} {a b : Int} : BinR P .lss t x y (.int k a) (.int k b) (.bool (decide (a < b))) := bin_int (by decide) fun w => rfl
theorem bin_leq {k : IntKind} {a b : Int} : BinR P .leq t x y (.int k a) (.int k b) (.bool (decide (a ≤ b))) := bin_int (by decide) fun w => rfl
theorem bin_gtr {k : IntKind} {a b : Int} : BinR P .gtr t x y (.int k a) (.int k b) (.bool (decide (b < a))) := bin_int (by decide) fun w => rfl
theorem bin_geq {k : IntKind} {a b : Int} : BinR P .geq t x y (.int k a) (.int k b) (.bool (decide (b ≤ a))) := bin_int (by decide) fun w => rfl
theorem beq_dec (a b : Int) : (a == b) = decide (a = b) := by by_cases h : a = b <;> simp [h]
theorem bin_eql {k : IntKind} {a b : Int} : BinR P .eql t x y (.int k a) (.int k b) (.bool (decide (a = b))) := bin_int (by decide) fun w => by simp [intSem, Op.intCmp, beq_dec]
theorem bin_neq {k : IntKind} {a b : Int} : BinR P .neq t x y (.int k a) (.int k b) (.bool (decide (a ≠ b))) := bin_int (by decide) fun w => by simp [intSem, Op.intCmp, bne, beq_dec]

theorem ofInt_nat {k : IntKind} {m : Nat} : BitVec.ofInt k.bits (m : Int) = BitVec.ofNat k.bits m := by
  apply BitVec.eq_of_toNat_eq
  simp
theorem bin_and {k : IntKind} (hk : k.signed = false) {a b : Nat} (ha : a < 2 ^ k.bits) (hb : b < 2 ^ k.bits) : BinR P .and t x y (.int k a) (.int k b) (.int k ((a &&& b : Nat) : Int)) :=
  bin_int (by decide) fun w => by
    have h : a &&& b < 2 ^ k.bits := Nat.and_lt_two_pow a hb
    simp [intSem, Op.intBits, ofInt_nat, Nat.mod_eq_of_lt ha, Nat.mod_eq_of_lt hb, wrap_u_lt hk h]
theorem bin_or {k : IntKind} (hk : k.signed = false) {a b : Nat} (ha : a < 2 ^ k.bits) (hb : b < 2 ^ k.bits) : BinR P .or t x y (.int k a) (.int k b) (.int k ((a ||| b : Nat) : Int)) :=
  bin_int (by decide) fun w => by
    have h : a ||| b < 2 ^ k.bits := Nat.or_lt_two_pow ha hb
    simp [intSem, Op.intBits, ofInt_nat, Nat.mod_eq_of_lt ha, Nat.mod_eq_of_lt hb, wrap_u_lt hk h]
theorem bin_xor {k : IntKind} (hk : k.signed = false) {a b : Nat} (ha : a < 2 ^ k.bits) (hb : b < 2 ^ k.bits) : BinR P .xor t x y (.int k a) (.int k b) (.int k ((a ^^^ b : Nat) : Int)) :=
  bin_int (by decide) fun w => by
    have h : a ^^^ b < 2 ^ k.bits := Nat.xor_lt_two_pow ha hb
    simp [intSem, Op.intBits, ofInt_nat, Nat.mod_eq_of_lt ha, Nat.mod_eq_of_lt hb, wrap_u_lt hk h]
theorem bin_andNot {k : IntKind} (hk : k.signed = false) {a b : Nat} (ha : a < 2 ^ k.bits) (hb : b < 2 ^ k.bits) : BinR P .andNot t x y (.int k a) (.int k b) (.int k ((a &&& (2 ^ k.bits - 1 - b) : Nat) : Int)) :=
  bin_int (by decide) fun w => by
    have h0 : a &&& (2 ^ k.bits - 1 - b) < 2 ^ k.bits := Nat.and_lt_two_pow a (by omega)
    have h1 : (BitVec.ofNat k.bits a &&& ~~~BitVec.ofNat k.bits b).toNat = a &&& (2 ^ k.bits - 1 - b) := by
      simp [Nat.mod_eq_of_lt ha, Nat.mod_eq_of_lt hb]
    simp [intSem, Op.intBits, ofInt_nat, h1, wrap_u_lt hk h0]

theorem bin_shift {op : BinOp} {k k' : IntKind} {a b : Int} {v : Value} (hop : op = .shl ∨ op = .shr) (h : ∀ w, (Op.shift op k a k' b).run P w = .ok v w) : BinR P op t x y (.int k a) (.int k' b) v := by
  intro w
  have h1 : (eqGuard op t x y (.int k a) (.int k' b)).run P w = .ok () w := by
    rcases hop with rfl | rfl <;> rfl
  have h2 : binOp op t (.int k a) (.int k' b) = Op.shift op k a k' b := by
    rcases hop with rfl | rfl <;> rfl
  simp only [Sem.run_bind, h1, Result.andThen_ok, h2]
  exact h w
theorem pow_cast (s : Nat) : (2 ^ s : Int) = ((2 ^ s : Nat) : Int) := by simp
theorem bin_shr {k k' : IntKind} {a s : Nat} (ha : a < 2 ^ k.bits) : BinR P .shr t x y (.int k a) (.int k' s) (.int k ((a / 2 ^ s : Nat) : Int)) :=
  bin_shift (.inr rfl) fun w => by
    have e : (a : Int).fdiv (2 ^ min s k.bits) = ((a / 2 ^ s : Nat) : Int) := by
      rw [pow_cast, Int.fdiv_eq_ediv_of_nonneg _ (Int.natCast_nonneg _), ← Int.natCast_ediv]
      by_cases h : s ≤ k.bits
      · rw [Nat.min_eq_left h]
      · rw [Nat.min_eq_right (by omega), Nat.div_eq_of_lt ha, Nat.div_eq_of_lt (Nat.lt_of_lt_of_le ha (Nat.pow_le_pow_right (by omega) (by omega)))]
    have h0 : ¬ ((s : Int) < 0) := by omega
    simp only [Op.shift, if_neg h0, Int.toNat_natCast, e]
    rfl
theorem bin_shl {k k' : IntKind} (hk : k.signed = false) {a s : Nat} : BinR P .shl t x y (.int k a) (.int k' s) (.int k ((a * 2 ^ s % 2 ^ k.bits : Nat) : Int)) :=
  bin_shift (.inl rfl) fun w => by
    have e : k.wrap ((a : Int) * 2 ^ min s k.bits) = ((a * 2 ^ s % 2 ^ k.bits : Nat) : Int) := by
      rw [pow_cast, ← Int.natCast_mul, wrap_u hk]
      by_cases h : s ≤ k.bits
      · rw [Nat.min_eq_left h]
      · rw [Nat.min_eq_right (by omega)]
        obtain ⟨d, rfl⟩ : ∃ d, s = k.bits + d := ⟨s - k.bits, by omega⟩
        rw [Nat.pow_add, Nat.mul_mod_left, ← Nat.mul_assoc, Nat.mul_right_comm, Nat.mul_mod_left]
    have h0 : ¬ ((s : Int) < 0) := by omega
    simp only [Op.shift, if_neg h0, Int.toNat_natCast, e]
    rfl
theorem toList_inj {s u : ByteArray} (h : s.toList = u.toList) : s = u := by
  rw [ByteArray.toList_eq, ByteArray.toList_eq] at h
  cases s; cases u
  simp at h
  simp [h]
theorem toList_dec (s u : ByteArray) : (s.toList == u.toList) = decide (s = u) := by
  by_cases h : s = u
  · simp [h]
  · have h2 : ¬ s.toList = u.toList := fun e => h (toList_inj e)
    simp [h, h2]
theorem bin_eqs {s u : ByteArray} : BinR P .eql t x y (.string s) (.string u) (.bool (decide (s = u))) := fun w => by
  show ((eqGuard .eql t x y (.string s) (.string u) >>= fun _ => Op.stringOp .eql s u : Sem Value)).run P w = _
  simp [eqGuard, Op.stringOp, toList_dec]
end
end Go.Wk
