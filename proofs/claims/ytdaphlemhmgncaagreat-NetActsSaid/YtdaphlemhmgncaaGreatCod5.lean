/- Plain facts of the codec's numbers, texts and sums. -/
import Derived.Test.YtdaphlemhmgncaaGreatCod4
set_option linter.unusedVariables false
set_option linter.unusedSimpArgs false
namespace Go.Wk.Cod
open Go
/-! ### Readers -/
def rd {α : Type} (z : α) (r : α × Nat) (b : List UInt8) (w : Bool) : α × List UInt8 × Bool := if w = true ∨ r.2 = 0 then (z, [], true) else (r.1, b.drop r.2, false)
theorem rd_bad {α : Type} {z : α} {r : α × Nat} {b : List UInt8} {w : Bool} (h : w = true ∨ r.2 = 0) : rd z r b w = (z, [], true) := if_pos h
theorem rd_good {α : Type} {z : α} {r : α × Nat} {b : List UInt8} {w : Bool} (h1 : w = false) (h2 : ¬ r.2 = 0) : rd z r b w = (r.1, b.drop r.2, false) := if_neg (by simp [h1, h2])
theorem rd_lt (b : List UInt8) (w : Bool) : (rd 0 (dec b) b w).1 < 18446744073709551616 := by
  unfold rd
  split
  · decide
  · exact dec_lt b
def cnt (k : Int) (b : List UInt8) (w : Bool) : Nat × List UInt8 × Bool := if k < 0 ∨ k < ((rd 0 (dec b) b w).1 : Int) then (0, [], true) else rd 0 (dec b) b w
theorem cnt_bad {k : Int} {b : List UInt8} {w : Bool} (h : k < 0 ∨ k < ((rd 0 (dec b) b w).1 : Int)) : cnt k b w = (0, [], true) := if_pos h
theorem cnt_good {k : Int} {b : List UInt8} {w : Bool} (h1 : ¬ k < 0) (h2 : ¬ k < ((rd 0 (dec b) b w).1 : Int)) : cnt k b w = ((rd 0 (dec b) b w).1, (rd 0 (dec b) b w).2.1, (rd 0 (dec b) b w).2.2) := if_neg (by simp only [h1, h2, or_self, not_false_eq_true])
def rend (b : List UInt8) (w : Bool) : Bool := !w && decide (b.length = 0)
def ps (n : Nat) (b : List UInt8) (w : Bool) : Bool × List UInt8 × Bool := if w = true ∨ n = 0 then (false, [], true) else (true, b.drop n, false)
theorem ps_bad {n : Nat} {b : List UInt8} {w : Bool} (h : w = true ∨ n = 0) : ps n b w = (false, [], true) := if_pos h
theorem ps_good {n : Nat} {b : List UInt8} {w : Bool} (h1 : w = false) (h2 : ¬ n = 0) : ps n b w = (true, b.drop n, false) := if_neg (by simp [h1, h2])
theorem rd_ps {α : Type} {z : α} {r : α × Nat} {b : List UInt8} {w : Bool} : rd z r b w = (if (ps r.2 b w).1 then r.1 else z, (ps r.2 b w).2.1, (ps r.2 b w).2.2) := by
  unfold rd ps
  split <;> rfl
end Go.Wk.Cod
namespace Go.Wk.Cod
open Go
theorem rend_t {b : List UInt8} {w : Bool} (h : w = false) : decide ((b.length : Int) = 0) = rend b w := by
  subst h
  unfold rend
  simp
theorem rend_f {b : List UInt8} {w : Bool} (h : w = true) : false = rend b w := by subst h; rfl
theorem rd_num {u : Nat} (hu : u < 18446744073709551616) (r : List UInt8) : rd 0 (dec (enc u ++ r)) (enc u ++ r) false = (u, r, false) := by
  rw [dec_enc hu, rd_good rfl (by simp)]
  simp only
  rw [← enc_length u, List.drop_left]
theorem decT_enc {s : List UInt8} (hs : s.length < 18446744073709551616) (r : List UInt8) : decT (enc s.length ++ (s ++ r)) = (s, (enc s.length).length + s.length) := by
  unfold decT
  rw [dec_enc hs]
  simp only
  rw [if_neg (by simp [enc_length]), ← enc_length, List.take_append, List.drop_append]
  simp
theorem rd_text {s : List UInt8} (hs : s.length < 18446744073709551616) (r : List UInt8) : rd [] (decT (enc s.length ++ (s ++ r))) (enc s.length ++ (s ++ r)) false = (s, r, false) := by
  rw [decT_enc hs, rd_good rfl (by have := enc_length s.length; simp only; omega)]
  simp only
  have e : enc s.length ++ (s ++ r) = (enc s.length ++ s) ++ r := by simp
  have hl : (enc s.length).length + s.length = (enc s.length ++ s).length := by simp
  rw [e, hl, List.drop_left]
theorem rd_bool (t : Bool) (r : List UInt8) : rd false (decB ((if t then 84 else 70) :: r)) ((if t then 84 else 70) :: r) false = (t, r, false) := by
  cases t <;> simp [decB, rd]
theorem zig_lt (n : Int) : zig n < 18446744073709551616 := by
  unfold zig
  exact Nat.or_lt_two_pow (n := 64) (Nat.mod_lt _ (by decide)) (by have : (n % 18446744073709551616).toNat < 18446744073709551616 := by omega
                                                                   have := Nat.div_le_self (n % 18446744073709551616).toNat 9223372036854775808
                                                                   omega)
end Go.Wk.Cod
namespace Go.Wk.Cod
end Go.Wk.Cod
namespace Go.Wk.Cod
theorem zag_zig {u : Nat} (hu : u < 18446744073709551616) : zag (zig (toI u)) = toI u := by
  have h1 : (toI u % 18446744073709551616).toNat = u := by unfold toI; split <;> omega
  have hz : zig (toI u) = u / 9223372036854775808 + 2 ^ 1 * (u % 9223372036854775808) := by
    unfold zig
    simp only [h1]
    have e : u * 2 % 18446744073709551616 = (u % 9223372036854775808) * 2 ^ 1 := by omega
    rw [e, Nat.or_comm, or_shift (by omega)]
  have hg : zagU (zig (toI u)) = u := by
    unfold zagU
    rw [hz]
    have e : (u / 9223372036854775808 + 2 ^ 1 * (u % 9223372036854775808)) * 9223372036854775808 % 18446744073709551616 = (u / 9223372036854775808) * 2 ^ 63 := by omega
    have e2 : (u / 9223372036854775808 + 2 ^ 1 * (u % 9223372036854775808)) / 2 = u % 9223372036854775808 := by omega
    rw [e, e2, Nat.or_comm, or_shift (by omega)]
    omega
  unfold zag
  rw [hg]
end Go.Wk.Cod
namespace Go.Wk.Cod
theorem rd_len {α : Type} (z : α) (r : α × Nat) (b : List UInt8) (w : Bool) : (rd z r b w).2.1.length ≤ b.length := by
  unfold rd
  split <;> simp
theorem cnt_len (k : Int) (b : List UInt8) (w : Bool) : (cnt k b w).2.1.length ≤ b.length := by
  unfold cnt
  split
  · simp
  · exact rd_len _ _ _ _
end Go.Wk.Cod
