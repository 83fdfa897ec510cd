/- Plain facts of the commands. -/
import Derived.Test.YtdaphlemhmgncaaGreatCod5
set_option linter.unusedVariables false
set_option linter.unusedSimpArgs false
namespace Go.Wk
open Go
theorem Cod.enc_le9 (u : Nat) : (Cod.enc u).length ≤ 9 := by
  have := Cod.enc_length u
  have := Cod.beh_le u
  omega
/-! ### Commands -/
structure Cmd where
  kind : Int
  sess : Int
  seq : Int
  key : ByteArray
  old : ByteArray
  val : ByteArray
  til : ByteArray
  lim : Int
namespace Cmd
def keyok (s : ByteArray) : Bool := decide (1 ≤ s.size) && decide (s.size ≤ 64)
def valok (s : ByteArray) : Bool := decide (s.size ≤ 256)
def changes (n : Int) : Bool := decide (n = 3 ∨ n = 5 ∨ n = 6)
def scanok (k : Cmd) : Bool := decide (k.key.size ≤ 64) && decide (k.til.size ≤ 64) && decide (1 ≤ k.lim) && decide (k.lim ≤ 64)
theorem ne_empty {s : ByteArray} : (s ≠ ⟨#[]⟩) ↔ 1 ≤ s.size := by
  obtain ⟨a⟩ := s
  show _ ↔ 1 ≤ a.size
  constructor
  · intro h
    by_cases h0 : a.size = 0
    · exact absurd (by rw [Array.eq_empty_of_size_eq_zero h0]) h
    · omega
  · intro h e
    have : a = #[] := by injection e
    subst this
    simp at h
theorem key_t {s : ByteArray} (h : s ≠ ⟨#[]⟩) : decide ((s.size : Int) ≤ 64) = keyok s := by
  have := ne_empty.1 h
  unfold keyok
  simp [this]
  omega
theorem key_f {s : ByteArray} (h : s = ⟨#[]⟩) : false = keyok s := by subst h; rfl
theorem val_eq (s : ByteArray) : decide ((s.size : Int) ≤ 256) = valok s := by
  unfold valok
  simp
  omega
theorem scan_a {k : Cmd} (h : ¬ max (k.key.size : Int) (k.til.size : Int) ≤ 64) : false = scanok k := by
  unfold scanok
  by_cases h1 : k.key.size ≤ 64
  · have h2 : ¬ k.til.size ≤ 64 := by omega
    simp [h2]
  · simp [h1]
theorem scan_b {k : Cmd} (h : max (k.key.size : Int) (k.til.size : Int) ≤ 64) (h2 : ¬ k.lim ≥ 1) : false = scanok k := by
  unfold scanok
  have h3 : ¬ 1 ≤ k.lim := h2
  simp [h3]
theorem scan_c {k : Cmd} (h : max (k.key.size : Int) (k.til.size : Int) ≤ 64) (h2 : k.lim ≥ 1) : decide (k.lim ≤ 64) = scanok k := by
  unfold scanok
  have h3 : 1 ≤ k.lim := h2
  have h4 : k.key.size ≤ 64 := by omega
  have h5 : k.til.size ≤ 64 := by omega
  simp [h3, h4, h5]
def base (k : Cmd) : Cmd := { kind := k.kind, sess := k.sess, seq := k.seq, key := k.key, old := ⟨#[]⟩, val := ⟨#[]⟩, til := ⟨#[]⟩, lim := 0 }
def part (k : Cmd) : Cmd := if k.kind = 3 then { base k with val := k.val } else if k.kind = 6 then { base k with old := k.old, val := k.val } else if k.kind = 7 then { base k with til := k.til, lim := k.lim } else base k
def fit (k : Cmd) : Bool := if k.kind = 3 then keyok k.key && valok k.val else if k.kind = 4 ∨ k.kind = 5 then keyok k.key else if k.kind = 6 then keyok k.key && (valok k.old && valok k.val) else if k.kind = 7 then scanok k else false
def eqv (a b : Cmd) : Bool := decide (a.kind = b.kind) && (decide (a.sess = b.sess) && (decide (a.seq = b.seq) && (decide (a.key = b.key) && (decide (a.old = b.old) && (decide (a.val = b.val) && (decide (a.til = b.til) && (decide (a.lim = b.lim) && true)))))))
def empty : ByteArray := ⟨#[]⟩
def good (k : Cmd) : Bool :=
  if k.kind = 1 then eqv k ⟨1, 0, 0, empty, empty, empty, empty, 0⟩ else if k.kind = 2 then decide (k.sess > 0) && eqv k ⟨2, k.sess, 0, empty, empty, empty, empty, 0⟩
  else eqv k (part k) && (decide (k.sess > 0) && (decide (k.seq > 0) && fit k))
theorem kinds (k : Int) : k = 3 ∨ k = 4 ∨ k = 5 ∨ k = 6 ∨ k = 7 ∨ (k ≠ 3 ∧ k ≠ 4 ∧ k ≠ 5 ∧ k ≠ 6 ∧ k ≠ 7) := by omega
def reads (k : Cmd) : Bool := (decide (k.sess = 0) && (decide (k.seq = 0) && decide (k.kind = 4 ∨ k.kind = 7))) && good { k with sess := 1, seq := 1 }
def bytes (k : Cmd) : List UInt8 := [] ++ Cod.enc (Cod.zig k.kind) ++ Cod.enc (Cod.zig k.sess) ++ Cod.enc (Cod.zig k.seq) ++ Cod.enc (Cod.zig k.lim) ++ (Cod.enc k.key.size ++ k.key.data.toList) ++ (Cod.enc k.old.size ++ k.old.data.toList) ++ (Cod.enc k.val.size ++ k.val.data.toList) ++ (Cod.enc k.til.size ++ k.til.data.toList)
theorem pos_iff {n : Int} : n ≥ 1 ↔ n > 0 := Iff.rfl
theorem rkey_t {s : ByteArray} (h : (s.size : Int) ≥ 1) : decide ((s.size : Int) ≤ 64) = keyok s := by
  have : 1 ≤ s.size := by omega
  unfold keyok
  simp [this]
  omega
theorem rkey_f {s : ByteArray} (h : ¬ (s.size : Int) ≥ 1) : false = keyok s := by
  have : ¬ 1 ≤ s.size := by omega
  unfold keyok
  simp [this]
end Cmd
end Go.Wk
