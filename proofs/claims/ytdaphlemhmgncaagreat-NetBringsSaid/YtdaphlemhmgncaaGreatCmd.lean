/- Plain facts of the commands. -/
import Derived.Test.YtdaphlemhmgncaaGreatCod4
set_option linter.unusedVariables false
set_option linter.unusedSimpArgs false
section
namespace Go.Wk.Cod
open Go
/-! ### Readers -/
def rd {α : Type} (z : α) (r : α × Nat) (b : List UInt8) (w : Bool) : α × List UInt8 × Bool := if w = true ∨ r.2 = 0 then (z, [], true) else (r.1, b.drop r.2, false)
theorem rd_bad {α : Type} {z : α} {r : α × Nat} {b : List UInt8} {w : Bool} (h : w = true ∨ r.2 = 0) : rd z r b w = (z, [], true) := if_pos h
theorem rd_good {α : Type} {z : α} {r : α × Nat} {b : List UInt8} {w : Bool} (h1 : w = false) (h2 : ¬ r.2 = 0) : rd z r b w = (r.1, b.drop r.2, false) := if_neg (by simp [h1, h2])
theorem rd_lt (b : List UInt8) (w : Bool) : (rd 0 (dec b) b w).1 < 18446744073709551616 := by
  unfold rd
  split
  · decide
  · exact dec_lt b
def cnt (k : Int) (b : List UInt8) (w : Bool) : Nat × List UInt8 × Bool := if k < 0 ∨ k < ((rd 0 (dec b) b w).1 : Int) then (0, [], true) else rd 0 (dec b) b w
theorem cnt_bad {k : Int} {b : List UInt8} {w : Bool} (h : k < 0 ∨ k < ((rd 0 (dec b) b w).1 : Int)) : cnt k b w = (0, [], true) := if_pos h
theorem cnt_good {k : Int} {b : List UInt8} {w : Bool} (h1 : ¬ k < 0) (h2 : ¬ k < ((rd 0 (dec b) b w).1 : Int)) : cnt k b w = ((rd 0 (dec b) b w).1, (rd 0 (dec b) b w).2.1, (rd 0 (dec b) b w).2.2) := if_neg (by simp only [h1, h2, or_self, not_false_eq_true])
def rend (b : List UInt8) (w : Bool) : Bool := !w && decide (b.length = 0)
def ps (n : Nat) (b : List UInt8) (w : Bool) : Bool × List UInt8 × Bool := if w = true ∨ n = 0 then (false, [], true) else (true, b.drop n, false)
end Go.Wk.Cod
namespace Go.Wk.Cod
open Go
theorem rend_t {b : List UInt8} {w : Bool} (h : w = false) : decide ((b.length : Int) = 0) = rend b w := by
  subst h
  unfold rend
  simp
theorem rend_f {b : List UInt8} {w : Bool} (h : w = true) : false = rend b w := by subst h; rfl
theorem rd_num {u : Nat} (hu : u < 18446744073709551616) (r : List UInt8) : rd 0 (dec (enc u ++ r)) (enc u ++ r) false = (u, r, false) := by
  rw [dec_enc hu, rd_good rfl (by simp)]
  simp only
  rw [← enc_length u, List.drop_left]
theorem decT_enc {s : List UInt8} (hs : s.length < 18446744073709551616) (r : List UInt8) : decT (enc s.length ++ (s ++ r)) = (s, (enc s.length).length + s.length) := by
  unfold decT
  rw [dec_enc hs]
  simp only
  rw [if_neg (by simp [enc_length]), ← enc_length, List.take_append, List.drop_append]
  simp
theorem rd_text {s : List UInt8} (hs : s.length < 18446744073709551616) (r : List UInt8) : rd [] (decT (enc s.length ++ (s ++ r))) (enc s.length ++ (s ++ r)) false = (s, r, false) := by
  rw [decT_enc hs, rd_good rfl (by have := enc_length s.length; simp only; omega)]
  simp only
  have e : enc s.length ++ (s ++ r) = (enc s.length ++ s) ++ r := by simp
  have hl : (enc s.length).length + s.length = (enc s.length ++ s).length := by simp
  rw [e, hl, List.drop_left]
theorem rd_bool (t : Bool) (r : List UInt8) : rd false (decB ((if t then 84 else 70) :: r)) ((if t then 84 else 70) :: r) false = (t, r, false) := by
  cases t <;> simp [decB, rd]
theorem zig_lt (n : Int) : zig n < 18446744073709551616 := by
  unfold zig
  exact Nat.or_lt_two_pow (n := 64) (Nat.mod_lt _ (by decide)) (by have : (n % 18446744073709551616).toNat < 18446744073709551616 := by omega
                                                                   have := Nat.div_le_self (n % 18446744073709551616).toNat 9223372036854775808
                                                                   omega)
end Go.Wk.Cod
namespace Go.Wk.Cod
end Go.Wk.Cod
namespace Go.Wk.Cod
theorem zag_zig {u : Nat} (hu : u < 18446744073709551616) : zag (zig (toI u)) = toI u := by
  have h1 : (toI u % 18446744073709551616).toNat = u := by unfold toI; split <;> omega
  have hz : zig (toI u) = u / 9223372036854775808 + 2 ^ 1 * (u % 9223372036854775808) := by
    unfold zig
    simp only [h1]
    have e : u * 2 % 18446744073709551616 = (u % 9223372036854775808) * 2 ^ 1 := by omega
    rw [e, Nat.or_comm, or_shift (by omega)]
  have hg : zagU (zig (toI u)) = u := by
    unfold zagU
    rw [hz]
    have e : (u / 9223372036854775808 + 2 ^ 1 * (u % 9223372036854775808)) * 9223372036854775808 % 18446744073709551616 = (u / 9223372036854775808) * 2 ^ 63 := by omega
    have e2 : (u / 9223372036854775808 + 2 ^ 1 * (u % 9223372036854775808)) / 2 = u % 9223372036854775808 := by omega
    rw [e, e2, Nat.or_comm, or_shift (by omega)]
    omega
  unfold zag
  rw [hg]
end Go.Wk.Cod
namespace Go.Wk.Cod
theorem rd_len {α : Type} (z : α) (r : α × Nat) (b : List UInt8) (w : Bool) : (rd z r b w).2.1.length ≤ b.length := by
  unfold rd
  split <;> simp
theorem cnt_len (k : Int) (b : List UInt8) (w : Bool) : (cnt k b w).2.1.length ≤ b.length := by
  unfold cnt
  split
  · simp
  · exact rd_len _ _ _ _
end Go.Wk.Cod
end
section
namespace Go.Wk
open Go
theorem Cod.enc_le9 (u : Nat) : (Cod.enc u).length ≤ 9 := by
  have := Cod.enc_length u
  have := Cod.beh_le u
  omega
/-! ### Commands -/
structure Cmd where
  kind : Int
  sess : Int
  seq : Int
  key : ByteArray
  old : ByteArray
  val : ByteArray
  til : ByteArray
  lim : Int
namespace Cmd
def keyok (s : ByteArray) : Bool := decide (1 ≤ s.size) && decide (s.size ≤ 64)
def valok (s : ByteArray) : Bool := decide (s.size ≤ 256)
def changes (n : Int) : Bool := decide (n = 3 ∨ n = 5 ∨ n = 6)
def scanok (k : Cmd) : Bool := decide (k.key.size ≤ 64) && decide (k.til.size ≤ 64) && decide (1 ≤ k.lim) && decide (k.lim ≤ 64)
theorem ne_empty {s : ByteArray} : (s ≠ ⟨#[]⟩) ↔ 1 ≤ s.size := by
  obtain ⟨a⟩ := s
  show _ ↔ 1 ≤ a.size
  constructor
  · intro h
    by_cases h0 : a.size = 0
    · exact absurd (by rw [Array.eq_empty_of_size_eq_zero h0]) h
    · omega
  · intro h e
    have : a = #[] := by injection e
    subst this
    simp at h
theorem key_t {s : ByteArray} (h : s ≠ ⟨#[]⟩) : decide ((s.size : Int) ≤ 64) = keyok s := by
  have := ne_empty.1 h
  unfold keyok
  simp [this]
  omega
theorem key_f {s : ByteArray} (h : s = ⟨#[]⟩) : false = keyok s := by subst h; rfl
theorem val_eq (s : ByteArray) : decide ((s.size : Int) ≤ 256) = valok s := by
  unfold valok
  simp
  omega
theorem scan_a {k : Cmd} (h : ¬ max (k.key.size : Int) (k.til.size : Int) ≤ 64) : false = scanok k := by
  unfold scanok
  by_cases h1 : k.key.size ≤ 64
  · have h2 : ¬ k.til.size ≤ 64 := by omega
    simp [h2]
  · simp [h1]
theorem scan_b {k : Cmd} (h : max (k.key.size : Int) (k.til.size : Int) ≤ 64) (h2 : ¬ k.lim ≥ 1) : false = scanok k := by
  unfold scanok
  have h3 : ¬ 1 ≤ k.lim := h2
  simp [h3]
theorem scan_c {k : Cmd} (h : max (k.key.size : Int) (k.til.size : Int) ≤ 64) (h2 : k.lim ≥ 1) : decide (k.lim ≤ 64) = scanok k := by
  unfold scanok
  have h3 : 1 ≤ k.lim := h2
  have h4 : k.key.size ≤ 64 := by omega
  have h5 : k.til.size ≤ 64 := by omega
  simp [h3, h4, h5]
def base (k : Cmd) : Cmd := { kind := k.kind, sess := k.sess, seq := k.seq, key := k.key, old := ⟨#[]⟩, val := ⟨#[]⟩, til := ⟨#[]⟩, lim := 0 }
def part (k : Cmd) : Cmd := if k.kind = 3 then { base k with val := k.val } else if k.kind = 6 then { base k with old := k.old, val := k.val } else if k.kind = 7 then { base k with til := k.til, lim := k.lim } else base k
def fit (k : Cmd) : Bool := if k.kind = 3 then keyok k.key && valok k.val else if k.kind = 4 ∨ k.kind = 5 then keyok k.key else if k.kind = 6 then keyok k.key && (valok k.old && valok k.val) else if k.kind = 7 then scanok k else false
def eqv (a b : Cmd) : Bool := decide (a.kind = b.kind) && (decide (a.sess = b.sess) && (decide (a.seq = b.seq) && (decide (a.key = b.key) && (decide (a.old = b.old) && (decide (a.val = b.val) && (decide (a.til = b.til) && (decide (a.lim = b.lim) && true)))))))
def empty : ByteArray := ⟨#[]⟩
def good (k : Cmd) : Bool :=
  if k.kind = 1 then eqv k ⟨1, 0, 0, empty, empty, empty, empty, 0⟩ else if k.kind = 2 then decide (k.sess > 0) && eqv k ⟨2, k.sess, 0, empty, empty, empty, empty, 0⟩
  else eqv k (part k) && (decide (k.sess > 0) && (decide (k.seq > 0) && fit k))
theorem kinds (k : Int) : k = 3 ∨ k = 4 ∨ k = 5 ∨ k = 6 ∨ k = 7 ∨ (k ≠ 3 ∧ k ≠ 4 ∧ k ≠ 5 ∧ k ≠ 6 ∧ k ≠ 7) := by omega
def reads (k : Cmd) : Bool := (decide (k.sess = 0) && (decide (k.seq = 0) && decide (k.kind = 4 ∨ k.kind = 7))) && good { k with sess := 1, seq := 1 }
def bytes (k : Cmd) : List UInt8 := [] ++ Cod.enc (Cod.zig k.kind) ++ Cod.enc (Cod.zig k.sess) ++ Cod.enc (Cod.zig k.seq) ++ Cod.enc (Cod.zig k.lim) ++ (Cod.enc k.key.size ++ k.key.data.toList) ++ (Cod.enc k.old.size ++ k.old.data.toList) ++ (Cod.enc k.val.size ++ k.val.data.toList) ++ (Cod.enc k.til.size ++ k.til.data.toList)
theorem pos_iff {n : Int} : n ≥ 1 ↔ n > 0 := Iff.rfl
theorem rkey_t {s : ByteArray} (h : (s.size : Int) ≥ 1) : decide ((s.size : Int) ≤ 64) = keyok s := by
  have : 1 ≤ s.size := by omega
  unfold keyok
  simp [this]
  omega
theorem rkey_f {s : ByteArray} (h : ¬ (s.size : Int) ≥ 1) : false = keyok s := by
  have : ¬ 1 ≤ s.size := by omega
  unfold keyok
  simp [this]
end Cmd
end Go.Wk
end
