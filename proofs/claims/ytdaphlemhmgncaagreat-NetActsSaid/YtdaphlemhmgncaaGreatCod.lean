/- Plain facts of the codec's numbers, texts and sums. -/
set_option linter.unusedVariables false
set_option linter.unusedSimpArgs false
namespace Go.Wk.Cod

/-! ### Numbers in bytes -/
def beh (u : Nat) : Nat :=
  if u < 128 then 0 else if u < 16384 then 1 else if u < 2097152 then 2 else if u < 268435456 then 3 else if u < 34359738368 then 4
  else if u < 4398046511104 then 5 else if u < 562949953421312 then 6 else if u < 72057594037927936 then 7 else 8
def onesB (k : Nat) : Nat := (65280 / 2 ^ k) % 256
def tailB (u : Nat) : Nat → List UInt8
  | 0 => []
  | k + 1 => UInt8.ofNat (u / 2 ^ (8 * k)) :: tailB u k
def headB (u : Nat) : Nat := if beh u < 8 then onesB (beh u) ||| (u / 2 ^ (8 * beh u) % 256) else onesB 8
def enc (u : Nat) : List UInt8 := UInt8.ofNat (headB u) :: tailB u (beh u)
def zig (n : Int) : Nat := let u := (n % 18446744073709551616).toNat; (u * 2) % 18446744073709551616 ||| u / 9223372036854775808
def zagU (u : Nat) : Nat := (u * 9223372036854775808) % 18446744073709551616 ||| u / 2
def toI (u : Nat) : Int := if u < 9223372036854775808 then u else (u : Int) - 18446744073709551616
def zag (u : Nat) : Int := toI (zagU u)

theorem zagU_lt {u : Nat} (hu : u < 18446744073709551616) : zagU u < 18446744073709551616 := Nat.or_lt_two_pow (n := 64) (Nat.mod_lt _ (by decide)) (by omega)
theorem beh_le (u : Nat) : beh u ≤ 8 := by unfold beh; (repeat' split) <;> omega
theorem tailB_length (u : Nat) : ∀ k, (tailB u k).length = k
  | 0 => rfl
  | k + 1 => by simp [tailB, tailB_length u k]
theorem enc_length (u : Nat) : (enc u).length = beh u + 1 := by simp [enc, tailB_length]
theorem onesB_lt (k : Nat) : onesB k < 256 := Nat.mod_lt _ (by decide)
theorem headB_lt (u : Nat) : headB u < 256 := by
  unfold headB
  split
  · exact Nat.or_lt_two_pow (n := 8) (onesB_lt _) (Nat.mod_lt _ (by decide))
  · exact onesB_lt _
def bitLen (u : Nat) : Nat := if u = 0 then 0 else Nat.log2 u + 1
theorem bitLen_spec {u : Nat} (h : 0 < u) : 2 ^ (bitLen u - 1) ≤ u ∧ u < 2 ^ bitLen u := by
  unfold bitLen
  rw [if_neg (by omega)]
  exact ⟨by simpa using Nat.log2_self_le (by omega), by simpa using Nat.lt_log2_self⟩
theorem bitLen_le {u k : Nat} (h : u < 2 ^ k) : bitLen u ≤ k := by
  unfold bitLen
  split
  · omega
  · rename_i h0
    have := (Nat.log2_lt h0).2 h
    omega
theorem le_bitLen {u k : Nat} (h : 2 ^ k ≤ u) : k < bitLen u := by
  have h0 : u ≠ 0 := by have := Nat.one_le_two_pow (n := k); omega
  unfold bitLen
  rw [if_neg h0]
  have : ¬ Nat.log2 u < k := fun hl => by have := (Nat.log2_lt h0).1 hl; omega
  omega
theorem beh_bitLen {u : Nat} (hu : u < 2 ^ 64) : beh u = min (max (bitLen u - 1) 0 / 7) 8 := by
  unfold beh
  have b := @bitLen_le u
  have c := @le_bitLen u
  split
  · have := b (k := 7) (by omega); omega
  split
  · have := b (k := 14) (by omega); have := c (k := 7) (by omega); omega
  split
  · have := b (k := 21) (by omega); have := c (k := 14) (by omega); omega
  split
  · have := b (k := 28) (by omega); have := c (k := 21) (by omega); omega
  split
  · have := b (k := 35) (by omega); have := c (k := 28) (by omega); omega
  split
  · have := b (k := 42) (by omega); have := c (k := 35) (by omega); omega
  split
  · have := b (k := 49) (by omega); have := c (k := 42) (by omega); omega
  split
  · have := b (k := 56) (by omega); have := c (k := 49) (by omega); omega
  · have := c (k := 56) (by omega); omega
/-! ### Reading them -/
def lead (x : Nat) : Nat := 8 - bitLen (255 - x)
def foldB (u : Nat) (l : List UInt8) : Nat := l.foldl (fun u y => (u * 256 % 18446744073709551616) ||| y.toNat) u
def dec : List UInt8 → Nat × Nat
  | [] => (0, 0)
  | x :: r => if r.length < lead x.toNat then (0, 0) else
    if beh (foldB (x.toNat &&& (255 - onesB (lead x.toNat))) (r.take (lead x.toNat))) = lead x.toNat then (foldB (x.toNat &&& (255 - onesB (lead x.toNat))) (r.take (lead x.toNat)), lead x.toNat + 1) else (0, 0)
def decT (b : List UInt8) : List UInt8 × Nat := if (dec b).2 = 0 ∨ b.length - (dec b).2 < (dec b).1 then ([], 0) else ((b.take ((dec b).2 + (dec b).1)).drop (dec b).2, (dec b).2 + (dec b).1)
def decB (b : List UInt8) : Bool × Nat := match b with
  | [] => (false, 0)
  | x :: _ => if x = 84 then (true, 1) else if x = 70 then (false, 1) else (false, 0)
theorem bitLen_div {u s : Nat} (h : 2 ^ s ≤ u) : bitLen u = s + bitLen (u / 2 ^ s) := by
  have hp : 0 < 2 ^ s := Nat.two_pow_pos s
  have hq : 0 < u / 2 ^ s := Nat.div_pos h hp
  have h1 := bitLen_spec hq
  have hb : 0 < bitLen (u / 2 ^ s) := le_bitLen (k := 0) (by omega)
  have hle : 2 ^ (s + (bitLen (u / 2 ^ s) - 1)) ≤ u := by
    rw [Nat.pow_add]
    calc 2 ^ s * 2 ^ (bitLen (u / 2 ^ s) - 1) ≤ 2 ^ s * (u / 2 ^ s) := Nat.mul_le_mul_left _ h1.1
      _ ≤ u := Nat.mul_div_le u (2 ^ s)
  have hlt : u < 2 ^ (s + bitLen (u / 2 ^ s)) := by
    rw [Nat.pow_add, Nat.mul_comm]
    exact (Nat.div_lt_iff_lt_mul hp).1 h1.2
  have h2 := le_bitLen hle
  have h3 := bitLen_le hlt
  omega
theorem len_close (n : Nat) {u y : Nat} (hy : y = u / 2 ^ n) (hlt : y < 256) (h0 : n = 0 ∨ 2 ^ n ≤ u) : (n : Int) + ((UInt8.ofNat (bitLen (y % 2 ^ 8))).toNat : Int) = (bitLen u : Int) := by
  have h1 : y % 2 ^ 8 = y := Nat.mod_eq_of_lt hlt
  have h2 : bitLen y ≤ 8 := bitLen_le hlt
  have h3 : (UInt8.ofNat (bitLen y)).toNat = bitLen y := by simp; omega
  rw [h1, h3, hy]
  rcases h0 with rfl | h0
  · simp
  · rw [bitLen_div h0]; simp
theorem byte_le (b : UInt8) : (b.toNat : Int) ≤ 9223372036854775807 := by have := b.toNat_lt; omega
theorem byte_le' (b : UInt8) : (b.toNat : Int) ≤ 255 := by have := b.toNat_lt; omega
theorem add_byte_le (n : Int) (hn : n ≤ 1000) (b : UInt8) : n + (b.toNat : Int) ≤ 9223372036854775807 := by have := b.toNat_lt; omega
def tab8 : List UInt8 := [0, 1] ++ List.replicate 2 2 ++ List.replicate 4 3 ++ List.replicate 8 4 ++ List.replicate 16 5 ++ List.replicate 32 6 ++ List.replicate 64 7 ++ List.replicate 128 8
theorem tab8_all : ∀ j : Fin 256, tab8[j.1]? = some (UInt8.ofNat (bitLen j.1)) := by decide +kernel
theorem tab8_at {l : List UInt8} (h : l = tab8) {j : Nat} (hj : j < 256) : l[j]? = some (UInt8.ofNat (bitLen j)) := by
  subst h
  exact tab8_all ⟨j, hj⟩
theorem lead_le (x : Nat) : lead x ≤ 8 := Nat.sub_le _ _
theorem foldB_lt {u : Nat} (hu : u < 18446744073709551616) : ∀ l : List UInt8, foldB u l < 18446744073709551616
  | [] => hu
  | y :: l => by
    unfold foldB
    rw [List.foldl_cons]
    exact foldB_lt (Nat.or_lt_two_pow (n := 64) (Nat.mod_lt _ (by decide)) (Nat.lt_of_lt_of_le y.toNat_lt (by decide))) l
theorem foldB_snoc (u : Nat) (l : List UInt8) (y : UInt8) : foldB u (l ++ [y]) = (foldB u l * 256 % 18446744073709551616) ||| y.toNat := by simp [foldB]
theorem dec_cons (x : UInt8) (r : List UInt8) : dec (x :: r) = if r.length < lead x.toNat then (0, 0) else
    if beh (foldB (x.toNat &&& (255 - onesB (lead x.toNat))) (r.take (lead x.toNat))) = lead x.toNat then (foldB (x.toNat &&& (255 - onesB (lead x.toNat))) (r.take (lead x.toNat)), lead x.toNat + 1) else (0, 0) := rfl
theorem dec_at {b : List UInt8} {z : UInt8} (h : b[0]? = some z) : dec b = if b.length ≤ lead z.toNat then (0, 0) else
    if beh (foldB (z.toNat &&& (255 - onesB (lead z.toNat))) ((b.take (lead z.toNat + 1)).drop 1)) = lead z.toNat then (foldB (z.toNat &&& (255 - onesB (lead z.toNat))) ((b.take (lead z.toNat + 1)).drop 1), lead z.toNat + 1) else (0, 0) := by
  cases b with
  | nil => simp at h
  | cons x r =>
    simp at h
    subst h
    rw [dec_cons]
    simp only [List.length_cons, List.take_succ_cons, List.drop_succ_cons, List.drop_zero]
    by_cases hl : r.length < lead x.toNat
    · rw [if_pos hl, if_pos (by omega)]
    · have h2 : ¬ r.length + 1 ≤ lead x.toNat := by omega
      simp only [if_neg hl, if_neg h2]
theorem decB_at {b : List UInt8} {z : UInt8} (h : b[0]? = some z) : decB b = if z = 84 then (true, 1) else if z = 70 then (false, 1) else (false, 0) := by
  cases b with
  | nil => simp at h
  | cons x r => simp at h; subst h; rfl
theorem getb_no {b : List UInt8} {z y : UInt8} (hz : b[0]? = some z) (hy : b[0]? = some y) (h1 : (z.toNat : Int) ≠ 84) (h2 : (y.toNat : Int) ≠ 70) : decB b = (false, 0) := by
  obtain rfl : z = y := Option.some.inj (hz.symm.trans hy)
  rw [decB_at hz, if_neg (by rintro rfl; exact h1 rfl), if_neg (by rintro rfl; exact h2 rfl)]
theorem getb_yes {b : List UInt8} {z y : UInt8} (hz : b[0]? = some z) (hy : b[0]? = some y) (h : (z.toNat : Int) = 84 ∨ (z.toNat : Int) = 70) : decB b = (decide ((y.toNat : Int) = 84), 1) := by
  obtain rfl : z = y := Option.some.inj (hz.symm.trans hy)
  rw [decB_at hz]
  rcases h with h | h
  · obtain rfl : z = 84 := UInt8.toNat.inj (by simp; omega)
    rfl
  · obtain rfl : z = 70 := UInt8.toNat.inj (by simp; omega)
    rfl
theorem foldB_take {u : Nat} {xs : List UInt8} {i : Nat} {z : UInt8} (h : xs[i]? = some z) : (foldB u (xs.take i) * 2 ^ 8 % 18446744073709551616) ||| z.toNat = foldB u (xs.take (i + 1)) := by
  rw [List.take_add_one, h]
  exact (foldB_snoc _ _ _).symm
theorem decB_len (b : List UInt8) : (decB b).2 ≤ b.length := by
  cases b with
  | nil => simp [decB]
  | cons x r => rw [decB_at (z := x) rfl]; split <;> (try split) <;> simp
theorem dec_len (b : List UInt8) : (dec b).2 ≤ b.length := by
  cases b with
  | nil => simp [dec]
  | cons x r =>
    rw [dec_cons]
    split
    · simp
    · split
      · simp; omega
      · simp
theorem decT_len (b : List UInt8) : (decT b).2 ≤ b.length := by
  unfold decT
  have := dec_len b
  split
  · simp
  · simp; omega
theorem dec_lt (b : List UInt8) : (dec b).1 < 18446744073709551616 := by
  cases b with
  | nil => simp [dec]
  | cons x r =>
    rw [dec_cons]
    split
    · simp
    · split
      · exact foldB_lt (Nat.lt_of_le_of_lt Nat.and_le_left (Nat.lt_of_lt_of_le x.toNat_lt (by decide))) _
      · simp

/-! ### Bytes, the lowest first -/
def le (u : Nat) : Nat → List UInt8
  | 0 => []
  | n + 1 => UInt8.ofNat u :: le (u / 2 ^ 8) n
def wh : List UInt8 → Nat
  | [] => 0
  | x :: r => x.toNat + 256 * wh r
theorem le_length (n : Nat) : ∀ u, (le u n).length = n := by
  induction n with
  | zero => intro u; rfl
  | succ n ih => intro u; simp [le, ih]
theorem wh_snoc (l : List UInt8) (x : UInt8) : wh (l ++ [x]) = wh l + 2 ^ (8 * l.length) * x.toNat := by
  induction l with
  | nil => simp [wh]
  | cons y r ih =>
    rw [List.cons_append, wh, ih, wh, List.length_cons, Nat.mul_add, Nat.mul_add, Nat.pow_add]
    have : (256 : Nat) * (2 ^ (8 * r.length) * x.toNat) = 2 ^ (8 * r.length) * 2 ^ (8 * 1) * x.toNat := by
      rw [Nat.mul_comm 256, Nat.mul_assoc, Nat.mul_assoc]; congr 1; rw [Nat.mul_comm]
    omega
theorem wh_lt (l : List UInt8) : wh l < 2 ^ (8 * l.length) := by
  induction l with
  | nil => simp [wh]
  | cons y r ih =>
    have := y.toNat_lt
    rw [wh, List.length_cons, Nat.mul_add, Nat.pow_add]
    omega
theorem or_shift {a x k : Nat} (h : a < 2 ^ k) : a ||| x * 2 ^ k = a + 2 ^ k * x := by
  have := Nat.two_pow_add_eq_or_of_lt h x
  rw [Nat.mul_comm x, Nat.or_comm, ← this, Nat.add_comm]
theorem wh_take {l : List UInt8} {i : Nat} {x : UInt8} {B : Nat} (h : l[i]? = some x) (hB : 8 * l.length ≤ B) : wh (l.take i) ||| (x.toNat * 2 ^ (8 * i) % 2 ^ B) = wh (l.take (i + 1)) := by
  have hi : i < l.length := (List.getElem?_eq_some_iff.1 h).1
  have hl : (l.take i).length = i := by simp; omega
  have h1 := wh_lt (l.take i)
  rw [hl] at h1
  have h2 : x.toNat * 2 ^ (8 * i) < 2 ^ B := by
    have : x.toNat * 2 ^ (8 * i) < 2 ^ 8 * 2 ^ (8 * i) := Nat.mul_lt_mul_of_pos_right x.toNat_lt (Nat.two_pow_pos _)
    rw [← Nat.pow_add] at this
    exact Nat.lt_of_lt_of_le this (Nat.pow_le_pow_right (by omega) (by omega))
  rw [Nat.mod_eq_of_lt h2, or_shift h1, List.take_add_one, h, Option.toList_some, wh_snoc, hl]

/-! ### The sum -/
def step1 (c : Nat) : Nat := (c / 2 ^ 1) ^^^ (2197175160 &&& ((2 ^ 32 - (c &&& 1)) % 2 ^ 32))
def iter (f : Nat → Nat) : Nat → Nat → Nat
  | 0, c => c
  | n + 1, c => f (iter f n c)
def stepB (c : Nat) (x : UInt8) : Nat := iter step1 8 (c ^^^ x.toNat)
def crcS (c : Nat) (l : List UInt8) : Nat := l.foldl stepB c
def crc (l : List UInt8) : Nat := 2 ^ 32 - 1 - crcS 4294967295 l
theorem step1_lt {c : Nat} (h : c < 4294967296) : step1 c < 4294967296 := by
  unfold step1
  exact Nat.xor_lt_two_pow (n := 32) (by omega) (Nat.lt_of_le_of_lt Nat.and_le_left (by decide))
theorem iter_lt {c : Nat} (h : c < 4294967296) : ∀ n, iter step1 n c < 4294967296
  | 0 => h
  | n + 1 => step1_lt (iter_lt h n)
theorem xor_byte_lt {c : Nat} (h : c < 4294967296) (x : UInt8) : c ^^^ x.toNat < 4294967296 := Nat.xor_lt_two_pow (n := 32) h (Nat.lt_of_lt_of_le x.toNat_lt (by decide))
theorem crcS_lt {c : Nat} (h : c < 4294967296) : ∀ l, crcS c l < 4294967296
  | [] => h
  | x :: l => crcS_lt (iter_lt (xor_byte_lt h x) 8) l
theorem crcS_take {l : List UInt8} {i c : Nat} {x : UInt8} (h : l[i]? = some x) : stepB (crcS c (l.take i)) x = crcS c (l.take (i + 1)) := by
  rw [List.take_add_one, h]
  simp [crcS]
theorem compl_xor {n a : Nat} (ha : a < 2 ^ n) : a ^^^ (2 ^ n - 1) = 2 ^ n - 1 - a := by
  have h2 : (BitVec.ofNat n a ^^^ BitVec.allOnes n).toNat = (~~~ BitVec.ofNat n a).toNat := by rw [BitVec.xor_allOnes]
  rw [BitVec.toNat_xor, BitVec.toNat_allOnes, BitVec.toNat_not, BitVec.toNat_ofNat, Nat.mod_eq_of_lt ha] at h2
  exact h2
theorem crc_lt (l : List UInt8) : crc l < 4294967296 := by unfold crc; omega
def step1r (c y : Nat) : Nat := if (c ^^^ y) &&& 1 = 1 then (c / 2 ^ 1) ^^^ 2197175160 else c / 2 ^ 1
theorem xor_div (a b : Nat) : (a ^^^ b) / 2 = (a / 2) ^^^ (b / 2) := by
  have := Nat.shiftRight_xor_distrib (a := a) (b := b) (i := 1)
  simpa [Nat.shiftRight_eq_div_pow] using this
theorem step_ref {c y : Nat} : step1 (c ^^^ y) = step1r c y ^^^ (y / 2) := by
  unfold step1 step1r
  have h0 : (c ^^^ y) &&& 1 = 0 ∨ (c ^^^ y) &&& 1 = 1 := by rw [Nat.and_one_is_mod]; omega
  rcases h0 with h0 | h0
  · rw [h0, if_neg (by omega)]
    simp [xor_div]
  · rw [h0, if_pos rfl]
    have : 2197175160 &&& ((2 ^ 32 - 1) % 2 ^ 32) = 2197175160 := by decide
    rw [this, show (2 : Nat) ^ 1 = 2 from rfl, xor_div, Nat.xor_assoc, Nat.xor_assoc, Nat.xor_comm (y / 2)]
theorem head_at {b : List UInt8} {z : UInt8} (h : b[0]? = some z) : b.head? = some z := by cases b <;> simp_all
theorem byte_of {z : UInt8} (h : (z.toNat : Int) = 197) : z = 197 := UInt8.toNat.inj (by simp; omega)
def frame (b : List UInt8) : List UInt8 := if 1048576 < b.length then [] else (197 :: (le b.length 3 ++ b)) ++ le (crc (197 :: (le b.length 3 ++ b))) 4
def unframe (b : List UInt8) : List UInt8 × Nat × Nat :=
  if b.length = 0 then ([], 0, 10) else if b.head? ≠ some 197 then ([], 0, 8) else if b.length < 4 then ([], 0, 10)
  else if 1048576 < wh ((b.take 4).drop 1) then ([], 0, 6) else if b.length < wh ((b.take 4).drop 1) + 8 then ([], 0, 10)
  else if crc (b.take (wh ((b.take 4).drop 1) + 4)) ≠ wh ((b.take (wh ((b.take 4).drop 1) + 4 + 4)).drop (wh ((b.take 4).drop 1) + 4)) then ([], 0, 8)
  else ((b.take (wh ((b.take 4).drop 1) + 4)).drop 4, wh ((b.take 4).drop 1) + 8, 0)
end Go.Wk.Cod
namespace Go.Wk.Cod
theorem dec_same (b b2 : List UInt8) : decide ((⟨b.toArray⟩ : ByteArray) = ⟨b2.toArray⟩) = decide (b = b2) := by
  congr 1
  simp
theorem le_snoc (u : Nat) : ∀ n, le u (n + 1) = le u n ++ [UInt8.ofNat (u / 2 ^ (8 * n))] := by
  intro n
  induction n generalizing u with
  | zero => simp [le]
  | succ n ih =>
    show UInt8.ofNat u :: le (u / 2 ^ 8) (n + 1) = UInt8.ofNat u :: le (u / 2 ^ 8) n ++ _
    rw [ih, Nat.div_div_eq_div_mul, ← Nat.pow_add, show 8 + 8 * n = 8 * (n + 1) by omega]
    rfl
theorem ones_next : ∀ {i : Nat}, i < 8 → onesB i ||| 128 / 2 ^ i = onesB (i + 1) := by
  intro i hi
  have : ∀ j : Fin 8, onesB j.1 ||| 128 / 2 ^ j.1 = onesB (j.1 + 1) := by decide
  exact this ⟨i, hi⟩
theorem dec_at' {b : List UInt8} {z : UInt8} (h : b[0]? = some z) : dec b = if b.length ≤ lead z.toNat then (0, 0) else
    if beh (foldB (z.toNat &&& (255 - onesB (lead z.toNat))) ((b.drop 1).take (lead z.toNat))) = lead z.toNat then (foldB (z.toNat &&& (255 - onesB (lead z.toNat))) ((b.drop 1).take (lead z.toNat)), lead z.toNat + 1) else (0, 0) := by
  rw [dec_at h, List.drop_take, Nat.add_sub_cancel]
theorem lead_bit : ∀ (z : Fin 256) (k : Fin 8), k.1 ≤ lead z.1 → ((z.1 / 2 ^ (7 - k.1)) &&& 1 = 1 ↔ k.1 < lead z.1) := by decide +kernel
theorem lead_go {z k : Nat} (hz : z < 256) (hk : k ≤ lead z) (h8 : (k : Int) < 8) (h : ((((z / 2 ^ ((((7 - k : Nat) : Int)).toNat)) &&& 1 : Nat)) : Int) = 1) : k + 1 ≤ lead z := by
  have e : (((7 - k : Nat) : Int)).toNat = 7 - k := by omega
  rw [e] at h
  exact (lead_bit ⟨z, hz⟩ ⟨k, by omega⟩ hk).1 (by simpa using (by omega : z / 2 ^ (7 - k) &&& 1 = 1))
theorem lead_end {z k : Nat} (hz : z < 256) (hk : k ≤ lead z) (h8 : k ≤ 8) (hk8 : (k : Int) < 8) (h : ¬ ((((z / 2 ^ ((((7 - k : Nat) : Int)).toNat)) &&& 1 : Nat)) : Int) = 1) : k = lead z := by
  have e : (((7 - k : Nat) : Int)).toNat = 7 - k := by omega
  rw [e] at h
  have := (lead_bit ⟨z, hz⟩ ⟨k, by omega⟩ hk).2
  by_cases h2 : k < lead z
  · exact absurd (by have := this h2; simpa using congrArg Int.ofNat this) h
  · omega
theorem mask_all : ∀ z : Fin 256, (z.1 &&& (255 - onesB (lead z.1))) = if lead z.1 < 7 then z.1 &&& (127 / 2 ^ lead z.1) else 0 := by decide +kernel
theorem mask_eq {b : List UInt8} {z y : UInt8} (hz : b[0]? = some z) (hy : b[0]? = some y) (h : (lead z.toNat : Int) < 7) : ((y.toNat &&& (127 / 2 ^ ((lead z.toNat : Int)).toNat) : Nat) : Int) = ((z.toNat &&& (255 - onesB (lead z.toNat)) : Nat) : Int) := by
  obtain rfl : z = y := Option.some.inj (hz.symm.trans hy)
  have := mask_all ⟨z.toNat, z.toNat_lt⟩
  simp only at this
  rw [this, if_pos (by omega)]
  rfl
theorem mask_zero {z : Nat} (hz : z < 256) (h : ¬ (lead z : Int) < 7) : (0 : Int) = ((z &&& (255 - onesB (lead z)) : Nat) : Int) := by
  have := mask_all ⟨z, hz⟩
  simp only at this
  rw [this, if_neg (by omega)]
  rfl
end Go.Wk.Cod
namespace Go.Wk.Cod
theorem beh_le_iff {u k : Nat} (hu : u < 18446744073709551616) (hk : k < 8) : beh u ≤ k ↔ u < 1 * 2 ^ (7 * (k + 1)) % 2 ^ 64 := by
  have : k = 0 ∨ k = 1 ∨ k = 2 ∨ k = 3 ∨ k = 4 ∨ k = 5 ∨ k = 6 ∨ k = 7 := by omega
  unfold beh
  rcases this with rfl | rfl | rfl | rfl | rfl | rfl | rfl | rfl <;> simp only [Nat.reducePow, Nat.reduceMul, Nat.reduceAdd, Nat.reduceMod] <;> (repeat' split) <;> omega
end Go.Wk.Cod
namespace Go.Wk.Cod
theorem step1r_lt {c y : Nat} (h : c < 4294967296) : step1r c y < 4294967296 := by
  unfold step1r
  split
  · exact Nat.xor_lt_two_pow (n := 32) (by omega) (by decide)
  · omega
theorem ref_next {c z j c0 : Nat} (h : c ^^^ (z / 2 ^ j) = iter step1 j c0) : step1r c (z / 2 ^ j) ^^^ (z / 2 ^ (j + 1)) = iter step1 (j + 1) c0 := by
  show _ = step1 (iter step1 j c0)
  rw [← h, step_ref, Nat.div_div_eq_div_mul, ← Nat.pow_succ]
theorem ref_close {c z c0 : Nat} (hz : z < 256) (h : c ^^^ (z / 2 ^ 8) = iter step1 8 c0) : c = iter step1 8 c0 := by
  rw [← h, Nat.div_eq_of_lt (by omega)]
  simp
theorem step1r_yes {c y : Nat} (h : ((((c ^^^ y) &&& 1 : Nat)) : Int) = 1) : (c / 2 ^ 1) ^^^ 2197175160 = step1r c y := by
  unfold step1r; rw [if_pos (by omega)]
theorem step1r_no {c y : Nat} (h : ¬ ((((c ^^^ y) &&& 1 : Nat)) : Int) = 1) : c / 2 ^ 1 = step1r c y := by
  unfold step1r; rw [if_neg (by omega)]
end Go.Wk.Cod
namespace Go.Wk.Cod
/-! ### The order of numbers' bytes -/
end Go.Wk.Cod
namespace Go.Wk.Cod
end Go.Wk.Cod
