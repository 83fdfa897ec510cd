/- Plain facts of the codec's numbers, texts and sums. -/
set_option linter.unusedVariables false
set_option linter.unusedSimpArgs false
namespace Go.Wk.Cod

/-! ### Numbers in bytes -/
def beh (u : Nat) : Nat :=
  if u < 128 then 0 else if u < 16384 then 1 else if u < 2097152 then 2 else if u < 268435456 then 3 else if u < 34359738368 then 4
  else if u < 4398046511104 then 5 else if u < 562949953421312 then 6 else if u < 72057594037927936 then 7 else 8
def onesB (k : Nat) : Nat := (65280 / 2 ^ k) % 256
def tailB (u : Nat) : Nat → List UInt8
  | 0 => []
  | k + 1 => UInt8.ofNat (u / 2 ^ (8 * k)) :: tailB u k
def headB (u : Nat) : Nat := if beh u < 8 then onesB (beh u) ||| (u / 2 ^ (8 * beh u) % 256) else onesB 8
def enc (u : Nat) : List UInt8 := UInt8.ofNat (headB u) :: tailB u (beh u)
def zig (n : Int) : Nat := let u := (n % 18446744073709551616).toNat; (u * 2) % 18446744073709551616 ||| u / 9223372036854775808
def zagU (u : Nat) : Nat := (u * 9223372036854775808) % 18446744073709551616 ||| u / 2
def toI (u : Nat) : Int := if u < 9223372036854775808 then u else (u : Int) - 18446744073709551616
def zag (u : Nat) : Int := toI (zagU u)

theorem beh_le (u : Nat) : beh u ≤ 8 := by unfold beh; (repeat' split) <;> omega
theorem tailB_length (u : Nat) : ∀ k, (tailB u k).length = k
  | 0 => rfl
  | k + 1 => by simp [tailB, tailB_length u k]
theorem enc_length (u : Nat) : (enc u).length = beh u + 1 := by simp [enc, tailB_length]
theorem onesB_lt (k : Nat) : onesB k < 256 := Nat.mod_lt _ (by decide)
theorem headB_lt (u : Nat) : headB u < 256 := by
  unfold headB
  split
  · exact Nat.or_lt_two_pow (n := 8) (onesB_lt _) (Nat.mod_lt _ (by decide))
  · exact onesB_lt _
def bitLen (u : Nat) : Nat := if u = 0 then 0 else Nat.log2 u + 1
/-! ### Reading them -/
def lead (x : Nat) : Nat := 8 - bitLen (255 - x)
def foldB (u : Nat) (l : List UInt8) : Nat := l.foldl (fun u y => (u * 256 % 18446744073709551616) ||| y.toNat) u
def dec : List UInt8 → Nat × Nat
  | [] => (0, 0)
  | x :: r => if r.length < lead x.toNat then (0, 0) else
    if beh (foldB (x.toNat &&& (255 - onesB (lead x.toNat))) (r.take (lead x.toNat))) = lead x.toNat then (foldB (x.toNat &&& (255 - onesB (lead x.toNat))) (r.take (lead x.toNat)), lead x.toNat + 1) else (0, 0)
def decT (b : List UInt8) : List UInt8 × Nat := if (dec b).2 = 0 ∨ b.length - (dec b).2 < (dec b).1 then ([], 0) else ((b.take ((dec b).2 + (dec b).1)).drop (dec b).2, (dec b).2 + (dec b).1)
def decB (b : List UInt8) : Bool × Nat := match b with
  | [] => (false, 0)
  | x :: _ => if x = 84 then (true, 1) else if x = 70 then (false, 1) else (false, 0)
def tab8 : List UInt8 := [0, 1] ++ List.replicate 2 2 ++ List.replicate 4 3 ++ List.replicate 8 4 ++ List.replicate 16 5 ++ List.replicate 32 6 ++ List.replicate 64 7 ++ List.replicate 128 8
theorem foldB_lt {u : Nat} (hu : u < 18446744073709551616) : ∀ l : List UInt8, foldB u l < 18446744073709551616
  | [] => hu
  | y :: l => by
    unfold foldB
    rw [List.foldl_cons]
    exact foldB_lt (Nat.or_lt_two_pow (n := 64) (Nat.mod_lt _ (by decide)) (Nat.lt_of_lt_of_le y.toNat_lt (by decide))) l
theorem dec_cons (x : UInt8) (r : List UInt8) : dec (x :: r) = if r.length < lead x.toNat then (0, 0) else
    if beh (foldB (x.toNat &&& (255 - onesB (lead x.toNat))) (r.take (lead x.toNat))) = lead x.toNat then (foldB (x.toNat &&& (255 - onesB (lead x.toNat))) (r.take (lead x.toNat)), lead x.toNat + 1) else (0, 0) := rfl
/-! ### Bytes, the lowest first -/
def le (u : Nat) : Nat → List UInt8
  | 0 => []
  | n + 1 => UInt8.ofNat u :: le (u / 2 ^ 8) n
def wh : List UInt8 → Nat
  | [] => 0
  | x :: r => x.toNat + 256 * wh r
theorem or_shift {a x k : Nat} (h : a < 2 ^ k) : a ||| x * 2 ^ k = a + 2 ^ k * x := by
  have := Nat.two_pow_add_eq_or_of_lt h x
  rw [Nat.mul_comm x, Nat.or_comm, ← this, Nat.add_comm]
/-! ### The sum -/
def step1 (c : Nat) : Nat := (c / 2 ^ 1) ^^^ (2197175160 &&& ((2 ^ 32 - (c &&& 1)) % 2 ^ 32))
def iter (f : Nat → Nat) : Nat → Nat → Nat
  | 0, c => c
  | n + 1, c => f (iter f n c)
def stepB (c : Nat) (x : UInt8) : Nat := iter step1 8 (c ^^^ x.toNat)
def crcS (c : Nat) (l : List UInt8) : Nat := l.foldl stepB c
def crc (l : List UInt8) : Nat := 2 ^ 32 - 1 - crcS 4294967295 l
def step1r (c y : Nat) : Nat := if (c ^^^ y) &&& 1 = 1 then (c / 2 ^ 1) ^^^ 2197175160 else c / 2 ^ 1
def frame (b : List UInt8) : List UInt8 := if 1048576 < b.length then [] else (197 :: (le b.length 3 ++ b)) ++ le (crc (197 :: (le b.length 3 ++ b))) 4
def unframe (b : List UInt8) : List UInt8 × Nat × Nat :=
  if b.length = 0 then ([], 0, 10) else if b.head? ≠ some 197 then ([], 0, 8) else if b.length < 4 then ([], 0, 10)
  else if 1048576 < wh ((b.take 4).drop 1) then ([], 0, 6) else if b.length < wh ((b.take 4).drop 1) + 8 then ([], 0, 10)
  else if crc (b.take (wh ((b.take 4).drop 1) + 4)) ≠ wh ((b.take (wh ((b.take 4).drop 1) + 4 + 4)).drop (wh ((b.take 4).drop 1) + 4)) then ([], 0, 8)
  else ((b.take (wh ((b.take 4).drop 1) + 4)).drop 4, wh ((b.take 4).drop 1) + 8, 0)
end Go.Wk.Cod
namespace Go.Wk.Cod
end Go.Wk.Cod
namespace Go.Wk.Cod
theorem beh_le_iff {u k : Nat} (hu : u < 18446744073709551616) (hk : k < 8) : beh u ≤ k ↔ u < 1 * 2 ^ (7 * (k + 1)) % 2 ^ 64 := by
  have : k = 0 ∨ k = 1 ∨ k = 2 ∨ k = 3 ∨ k = 4 ∨ k = 5 ∨ k = 6 ∨ k = 7 := by omega
  unfold beh
  rcases this with rfl | rfl | rfl | rfl | rfl | rfl | rfl | rfl <;> simp only [Nat.reducePow, Nat.reduceMul, Nat.reduceAdd, Nat.reduceMod] <;> (repeat' split) <;> omega
end Go.Wk.Cod
namespace Go.Wk.Cod
end Go.Wk.Cod
namespace Go.Wk.Cod
/-! ### The order of numbers' bytes -/
end Go.Wk.Cod
namespace Go.Wk.Cod
end Go.Wk.Cod
