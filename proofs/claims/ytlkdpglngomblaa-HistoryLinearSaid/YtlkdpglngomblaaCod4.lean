/- Plain facts of the codec's numbers, texts and sums. -/
import Derived.ProofKit
set_option linter.unusedVariables false
set_option linter.unusedSimpArgs false
section
namespace Go.Wk.Cod

/-! ### Numbers in bytes -/
def beh (u : Nat) : Nat :=
  if u < 128 then 0 else if u < 16384 then 1 else if u < 2097152 then 2 else if u < 268435456 then 3 else if u < 34359738368 then 4
  else if u < 4398046511104 then 5 else if u < 562949953421312 then 6 else if u < 72057594037927936 then 7 else 8
def onesB (k : Nat) : Nat := (65280 / 2 ^ k) % 256
def tailB (u : Nat) : Nat → List UInt8
  | 0 => []
  | k + 1 => UInt8.ofNat (u / 2 ^ (8 * k)) :: tailB u k
def headB (u : Nat) : Nat := if beh u < 8 then onesB (beh u) ||| (u / 2 ^ (8 * beh u) % 256) else onesB 8
def enc (u : Nat) : List UInt8 := UInt8.ofNat (headB u) :: tailB u (beh u)
def zig (n : Int) : Nat := let u := (n % 18446744073709551616).toNat; (u * 2) % 18446744073709551616 ||| u / 9223372036854775808
def zagU (u : Nat) : Nat := (u * 9223372036854775808) % 18446744073709551616 ||| u / 2
def toI (u : Nat) : Int := if u < 9223372036854775808 then u else (u : Int) - 18446744073709551616
def zag (u : Nat) : Int := toI (zagU u)

theorem beh_le (u : Nat) : beh u ≤ 8 := by unfold beh; (repeat' split) <;> omega
theorem tailB_length (u : Nat) : ∀ k, (tailB u k).length = k
  | 0 => rfl
  | k + 1 => by simp [tailB, tailB_length u k]
theorem enc_length (u : Nat) : (enc u).length = beh u + 1 := by simp [enc, tailB_length]
theorem onesB_lt (k : Nat) : onesB k < 256 := Nat.mod_lt _ (by decide)
theorem headB_lt (u : Nat) : headB u < 256 := by
  unfold headB
  split
  · exact Nat.or_lt_two_pow (n := 8) (onesB_lt _) (Nat.mod_lt _ (by decide))
  · exact onesB_lt _
def bitLen (u : Nat) : Nat := if u = 0 then 0 else Nat.log2 u + 1
/-! ### Reading them -/
def lead (x : Nat) : Nat := 8 - bitLen (255 - x)
def foldB (u : Nat) (l : List UInt8) : Nat := l.foldl (fun u y => (u * 256 % 18446744073709551616) ||| y.toNat) u
def dec : List UInt8 → Nat × Nat
  | [] => (0, 0)
  | x :: r => if r.length < lead x.toNat then (0, 0) else
    if beh (foldB (x.toNat &&& (255 - onesB (lead x.toNat))) (r.take (lead x.toNat))) = lead x.toNat then (foldB (x.toNat &&& (255 - onesB (lead x.toNat))) (r.take (lead x.toNat)), lead x.toNat + 1) else (0, 0)
def decT (b : List UInt8) : List UInt8 × Nat := if (dec b).2 = 0 ∨ b.length - (dec b).2 < (dec b).1 then ([], 0) else ((b.take ((dec b).2 + (dec b).1)).drop (dec b).2, (dec b).2 + (dec b).1)
def decB (b : List UInt8) : Bool × Nat := match b with
  | [] => (false, 0)
  | x :: _ => if x = 84 then (true, 1) else if x = 70 then (false, 1) else (false, 0)
def tab8 : List UInt8 := [0, 1] ++ List.replicate 2 2 ++ List.replicate 4 3 ++ List.replicate 8 4 ++ List.replicate 16 5 ++ List.replicate 32 6 ++ List.replicate 64 7 ++ List.replicate 128 8
theorem foldB_lt {u : Nat} (hu : u < 18446744073709551616) : ∀ l : List UInt8, foldB u l < 18446744073709551616
  | [] => hu
  | y :: l => by
    unfold foldB
    rw [List.foldl_cons]
    exact foldB_lt (Nat.or_lt_two_pow (n := 64) (Nat.mod_lt _ (by decide)) (Nat.lt_of_lt_of_le y.toNat_lt (by decide))) l
theorem dec_cons (x : UInt8) (r : List UInt8) : dec (x :: r) = if r.length < lead x.toNat then (0, 0) else
    if beh (foldB (x.toNat &&& (255 - onesB (lead x.toNat))) (r.take (lead x.toNat))) = lead x.toNat then (foldB (x.toNat &&& (255 - onesB (lead x.toNat))) (r.take (lead x.toNat)), lead x.toNat + 1) else (0, 0) := rfl
/-! ### Bytes, the lowest first -/
def le (u : Nat) : Nat → List UInt8
  | 0 => []
  | n + 1 => UInt8.ofNat u :: le (u / 2 ^ 8) n
def wh : List UInt8 → Nat
  | [] => 0
  | x :: r => x.toNat + 256 * wh r
theorem or_shift {a x k : Nat} (h : a < 2 ^ k) : a ||| x * 2 ^ k = a + 2 ^ k * x := by
  have := Nat.two_pow_add_eq_or_of_lt h x
  rw [Nat.mul_comm x, Nat.or_comm, ← this, Nat.add_comm]
/-! ### The sum -/
def step1 (c : Nat) : Nat := (c / 2 ^ 1) ^^^ (2197175160 &&& ((2 ^ 32 - (c &&& 1)) % 2 ^ 32))
def iter (f : Nat → Nat) : Nat → Nat → Nat
  | 0, c => c
  | n + 1, c => f (iter f n c)
def stepB (c : Nat) (x : UInt8) : Nat := iter step1 8 (c ^^^ x.toNat)
def crcS (c : Nat) (l : List UInt8) : Nat := l.foldl stepB c
def crc (l : List UInt8) : Nat := 2 ^ 32 - 1 - crcS 4294967295 l
def step1r (c y : Nat) : Nat := if (c ^^^ y) &&& 1 = 1 then (c / 2 ^ 1) ^^^ 2197175160 else c / 2 ^ 1
def frame (b : List UInt8) : List UInt8 := if 1048576 < b.length then [] else (197 :: (le b.length 3 ++ b)) ++ le (crc (197 :: (le b.length 3 ++ b))) 4
def unframe (b : List UInt8) : List UInt8 × Nat × Nat :=
  if b.length = 0 then ([], 0, 10) else if b.head? ≠ some 197 then ([], 0, 8) else if b.length < 4 then ([], 0, 10)
  else if 1048576 < wh ((b.take 4).drop 1) then ([], 0, 6) else if b.length < wh ((b.take 4).drop 1) + 8 then ([], 0, 10)
  else if crc (b.take (wh ((b.take 4).drop 1) + 4)) ≠ wh ((b.take (wh ((b.take 4).drop 1) + 4 + 4)).drop (wh ((b.take 4).drop 1) + 4)) then ([], 0, 8)
  else ((b.take (wh ((b.take 4).drop 1) + 4)).drop 4, wh ((b.take 4).drop 1) + 8, 0)
end Go.Wk.Cod
namespace Go.Wk.Cod
end Go.Wk.Cod
namespace Go.Wk.Cod
theorem beh_le_iff {u k : Nat} (hu : u < 18446744073709551616) (hk : k < 8) : beh u ≤ k ↔ u < 1 * 2 ^ (7 * (k + 1)) % 2 ^ 64 := by
  have : k = 0 ∨ k = 1 ∨ k = 2 ∨ k = 3 ∨ k = 4 ∨ k = 5 ∨ k = 6 ∨ k = 7 := by omega
  unfold beh
  rcases this with rfl | rfl | rfl | rfl | rfl | rfl | rfl | rfl <;> simp only [Nat.reducePow, Nat.reduceMul, Nat.reduceAdd, Nat.reduceMod] <;> (repeat' split) <;> omega
end Go.Wk.Cod
namespace Go.Wk.Cod
end Go.Wk.Cod
namespace Go.Wk.Cod
/-! ### The order of numbers' bytes -/
end Go.Wk.Cod
namespace Go.Wk.Cod
end Go.Wk.Cod
end
section
namespace Go.Wk.Cod
open Go
/-! ### Numbers' bytes stand in the numbers' order -/
theorem less_self : ∀ l : List UInt8, Op.bytesLess l l = false
  | [] => rfl
  | a :: l => by simp [Op.bytesLess, less_self l]
theorem less_cons (a b : UInt8) (x y : List UInt8) : Op.bytesLess (a :: x) (b :: y) = (decide (a.toNat < b.toNat) || (decide (a.toNat = b.toNat) && Op.bytesLess x y)) := by
  have h1 : (a == b) = decide (a.toNat = b.toNat) := by
    by_cases h : a = b
    · subst h; simp
    · have : ¬ a.toNat = b.toNat := fun e => h (UInt8.toNat.inj e)
      simp [h, this]
  have h2 : decide (a < b) = decide (a.toNat < b.toNat) := by
    congr 1
  show (decide (a < b) || (a == b && Op.bytesLess x y)) = _
  rw [h1, h2]
theorem head_add : ∀ (k : Fin 8) (q : Fin 128), q.1 < 2 ^ (7 - k.1) → (onesB k.1 ||| (q.1 % 256)) = onesB k.1 + q.1 := by decide +kernel
theorem beh_lt_pow {u k : Nat} (hu : u < 18446744073709551616) (hk : beh u = k) (h8 : k < 8) : u < 2 ^ (8 * k) * 2 ^ (7 - k) := by
  have h := (beh_le_iff hu h8).1 (by omega)
  have h2 : u < 2 ^ (7 * (k + 1)) := Nat.lt_of_lt_of_le h (by rw [Nat.one_mul]; exact Nat.mod_le _ _)
  rw [← Nat.pow_add, show 8 * k + (7 - k) = 7 * (k + 1) by omega]
  exact h2
theorem headB_lo {u k : Nat} (hu : u < 18446744073709551616) (hk : beh u = k) (h8 : k < 8) : headB u = onesB k + u / 2 ^ (8 * k) ∧ u / 2 ^ (8 * k) < 2 ^ (7 - k) := by
  have hq : u / 2 ^ (8 * k) < 2 ^ (7 - k) := Nat.div_lt_of_lt_mul (beh_lt_pow hu hk h8)
  have h128 : u / 2 ^ (8 * k) < 128 := Nat.lt_of_lt_of_le hq (Nat.pow_le_pow_right (by decide) (by omega : 7 - k ≤ 7))
  refine ⟨?_, hq⟩
  unfold headB
  rw [hk, if_pos h8]
  exact head_add ⟨k, h8⟩ ⟨_, h128⟩ hq
theorem headB_8 {u : Nat} (hk : beh u = 8) : headB u = 255 := by
  unfold headB
  rw [hk, if_neg (by decide)]
  decide
end Go.Wk.Cod
end
section
namespace Go.Wk.Cod
open Go
/-! ### What was written is read -/
theorem or_add {x y : Nat} (hy : y < 256) : (x * 256 % 18446744073709551616) ||| y = (x * 256 + y) % 18446744073709551616 := by
  have h1 : x * 256 % 18446744073709551616 = x % 72057594037927936 * 2 ^ 8 := by omega
  rw [h1, Nat.or_comm, or_shift (k := 8) hy]
  omega
theorem foldB_tail (u : Nat) : ∀ (k v : Nat), foldB v (tailB u k) % 18446744073709551616 = (v * 2 ^ (8 * k) + u % 2 ^ (8 * k)) % 18446744073709551616
  | 0, v => by simp [tailB, foldB, Nat.mod_one]
  | k + 1, v => by
    have hb : (UInt8.ofNat (u / 2 ^ (8 * k))).toNat = u / 2 ^ (8 * k) % 256 := by simp
    have e : 2 ^ (8 * (k + 1)) = 2 ^ (8 * k) * 256 := by rw [Nat.mul_add, Nat.pow_add]
    have h : foldB v (tailB u (k + 1)) = foldB ((v * 256 % 18446744073709551616) ||| (UInt8.ofNat (u / 2 ^ (8 * k))).toNat) (tailB u k) := rfl
    rw [h, foldB_tail u k, hb, or_add (Nat.mod_lt _ (by decide)), e, Nat.mod_mul]
    generalize 2 ^ (8 * k) = W
    generalize u / W % 256 = q
    generalize u % W = r
    rw [Nat.add_mod, Nat.mod_mul_mod, ← Nat.add_mod]
    congr 1
    rw [Nat.add_mul, Nat.mul_assoc, Nat.mul_comm 256 W, Nat.mul_comm q W]
    omega
theorem foldB_eq {u v k : Nat} (hv : v < 18446744073709551616) : foldB v (tailB u k) = (v * 2 ^ (8 * k) + u % 2 ^ (8 * k)) % 18446744073709551616 := by
  rw [← foldB_tail, Nat.mod_eq_of_lt (foldB_lt hv _)]
theorem lead_all : ∀ (k : Fin 8) (q : Fin 128), q.1 < 2 ^ (7 - k.1) → lead (onesB k.1 + q.1) = k.1 := by decide +kernel
theorem mask_low : ∀ (k : Fin 8) (q : Fin 128), q.1 < 2 ^ (7 - k.1) → (onesB k.1 + q.1) &&& (255 - onesB k.1) = q.1 := by decide +kernel
theorem head_facts {u : Nat} (hu : u < 18446744073709551616) : lead (headB u) = beh u ∧ foldB (headB u &&& (255 - onesB (beh u))) (tailB u (beh u)) = u := by
  by_cases h8 : beh u < 8
  · obtain ⟨h1, h2⟩ := headB_lo hu rfl h8
    have h128 : u / 2 ^ (8 * beh u) < 128 := Nat.lt_of_lt_of_le h2 (Nat.pow_le_pow_right (by decide) (by omega : 7 - beh u ≤ 7))
    have hl := lead_all ⟨beh u, h8⟩ ⟨_, h128⟩ h2
    have hm := mask_low ⟨beh u, h8⟩ ⟨_, h128⟩ h2
    simp only at hl hm
    rw [h1]
    refine ⟨hl, ?_⟩
    rw [hm, foldB_eq (by omega), Nat.mul_comm, Nat.div_add_mod, Nat.mod_eq_of_lt hu]
  · have e8 : beh u = 8 := by have := beh_le u; omega
    rw [headB_8 e8, e8]
    refine ⟨by decide, ?_⟩
    have h0 : (255 &&& (255 - onesB 8)) = 0 := by decide
    have m1 : u % 2 ^ (8 * 8) = u := Nat.mod_eq_of_lt hu
    rw [h0, foldB_eq (by decide), m1, Nat.zero_mul, Nat.zero_add, Nat.mod_eq_of_lt hu]
theorem head_toNat (u : Nat) : (UInt8.ofNat (headB u)).toNat = headB u := by simp [Nat.mod_eq_of_lt (headB_lt u)]
theorem dec_enc {u : Nat} (hu : u < 18446744073709551616) (r : List UInt8) : dec (enc u ++ r) = (u, beh u + 1) := by
  obtain ⟨h1, h2⟩ := head_facts hu
  have ht : (tailB u (beh u)).length = beh u := tailB_length u _
  show dec (UInt8.ofNat (headB u) :: (tailB u (beh u) ++ r)) = _
  rw [dec_cons, head_toNat, h1, if_neg (by simp [ht]), List.take_append_of_le_length (by omega), List.take_of_length_le (by omega), h2, if_pos rfl]
end Go.Wk.Cod
namespace Go.Wk.Cod
end Go.Wk.Cod
end
section
namespace Go.Wk.Cod
open Go
/-! ### One byte that differs is seen in the sum -/
end Go.Wk.Cod
namespace Go.Wk.Cod
end Go.Wk.Cod
end
