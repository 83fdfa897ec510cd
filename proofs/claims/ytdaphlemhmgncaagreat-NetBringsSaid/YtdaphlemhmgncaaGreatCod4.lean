/- Plain facts of the codec's numbers, texts and sums. -/
import Derived.Test.YtdaphlemhmgncaaGreatCod3
set_option linter.unusedVariables false
set_option linter.unusedSimpArgs false
namespace Go.Wk.Cod
open Go
/-! ### One byte that differs is seen in the sum -/
theorem step1_even {c : Nat} (h : c % 2 = 0) : step1 c = c / 2 := by
  unfold step1
  rw [Nat.and_one_is_mod, h]
  simp
theorem step1_odd {c : Nat} (h : c % 2 = 1) : step1 c = (c / 2) ^^^ 2197175160 := by
  unfold step1
  rw [Nat.and_one_is_mod, h]
  have : 2197175160 &&& ((2 ^ 32 - 1) % 2 ^ 32) = 2197175160 := by decide
  rw [this, Nat.pow_one]
theorem odd_top {c : Nat} (hc : c < 4294967296) : 2147483648 ≤ (c / 2) ^^^ 2197175160 := by
  have h : ((c / 2) ^^^ 2197175160).testBit 31 = true := by
    rw [Nat.testBit_xor, Nat.testBit_lt_two_pow (by omega)]
    decide
  exact Nat.ge_two_pow_of_testBit h
theorem step1_inj {c d : Nat} (hc : c < 4294967296) (hd : d < 4294967296) (h : step1 c = step1 d) : c = d := by
  rcases Nat.mod_two_eq_zero_or_one c with h1 | h1 <;> rcases Nat.mod_two_eq_zero_or_one d with h2 | h2
  · rw [step1_even h1, step1_even h2] at h; omega
  · rw [step1_even h1, step1_odd h2] at h; have := odd_top hd; omega
  · rw [step1_odd h1, step1_even h2] at h; have := odd_top hc; omega
  · rw [step1_odd h1, step1_odd h2] at h
    have h3 : c / 2 = d / 2 := by
      have := congrArg (· ^^^ 2197175160) h
      simpa [Nat.xor_assoc] using this
    omega
theorem iter_inj {c d : Nat} (hc : c < 4294967296) (hd : d < 4294967296) : ∀ n, iter step1 n c = iter step1 n d → c = d
  | 0, h => h
  | n + 1, h => iter_inj hc hd n (step1_inj (iter_lt hc n) (iter_lt hd n) h)
theorem xor_inj {c a b : Nat} (h : c ^^^ a = c ^^^ b) : a = b := by
  have := congrArg (c ^^^ ·) h
  simpa [← Nat.xor_assoc] using this
theorem stepB_inj {c d : Nat} (hc : c < 4294967296) (hd : d < 4294967296) {x : UInt8} (h : stepB c x = stepB d x) : c = d := by
  have := iter_inj (xor_byte_lt hc x) (xor_byte_lt hd x) 8 h
  rw [Nat.xor_comm c, Nat.xor_comm d] at this
  exact xor_inj this
theorem stepB_ne {c : Nat} (hc : c < 4294967296) {x y : UInt8} (h : stepB c x = stepB c y) : x = y :=
  UInt8.toNat.inj (xor_inj (iter_inj (xor_byte_lt hc x) (xor_byte_lt hc y) 8 h))
theorem stepB_lt {c : Nat} (hc : c < 4294967296) (x : UInt8) : stepB c x < 4294967296 := iter_lt (xor_byte_lt hc x) 8
theorem crcS_inj : ∀ (l : List UInt8) {c d : Nat}, c < 4294967296 → d < 4294967296 → crcS c l = crcS d l → c = d
  | [], _, _, _, _, h => h
  | x :: l, _, _, hc, hd, h => stepB_inj hc hd (crcS_inj l (stepB_lt hc x) (stepB_lt hd x) h)
theorem crcS_append (c : Nat) (l r : List UInt8) : crcS c (l ++ r) = crcS (crcS c l) r := List.foldl_append ..
theorem crc_one {l r : List UInt8} {x y : UInt8} (h : crc (l ++ x :: r) = crc (l ++ y :: r)) : x = y := by
  unfold crc at h
  rw [crcS_append, crcS_append] at h
  have hl := crcS_lt (c := 4294967295) (by decide) l
  have h1 := crcS_lt hl (x :: r)
  have h2 := crcS_lt hl (y :: r)
  have h3 : crcS (crcS 4294967295 l) (x :: r) = crcS (crcS 4294967295 l) (y :: r) := by omega
  exact stepB_ne hl (crcS_inj r (stepB_lt hl x) (stepB_lt hl y) h3)
theorem wh_inj : ∀ {l r : List UInt8}, l.length = r.length → wh l = wh r → l = r
  | [], [], _, _ => rfl
  | [], _ :: _, h, _ => by simp at h
  | _ :: _, [], h, _ => by simp at h
  | x :: l, y :: r, hl, h => by
    have h' : x.toNat + 256 * wh l = y.toNat + 256 * wh r := h
    have h1 := x.toNat_lt
    have h2 := y.toNat_lt
    have e1 : x = y := UInt8.toNat.inj (by omega)
    have e2 : l = r := wh_inj (by simpa using hl) (by omega)
    rw [e1, e2]
theorem unframe_set_other {b : List UInt8} (hb : b.length ≤ 1048576) {q : Nat} (hq : q < b.length + 4) {z z' : UInt8} (hz : (frame b)[4 + q]? = some z) (hne : z' ≠ z) : unframe ((frame b).set (4 + q) z') = ([], 0, 8) := by
  have h3 : (le b.length 3).length = 3 := le_length 3 _
  have hs : (le (crc (197 :: (le b.length 3 ++ b))) 4).length = 4 := le_length 4 _
  have hw : ∀ l : List UInt8, wh (le (crc l) 4) = crc l := fun l => by
    rw [wh_le]
    exact Nat.mod_eq_of_lt (by have := crc_lt l
                               have h : 2 ^ (8 * 4) = 4294967296 := by decide
                               omega)
  have ef := frame_eq hb
  by_cases h : q < b.length
  · have e : (frame b).set (4 + q) z' = 197 :: (le (b.set q z').length 3 ++ (b.set q z' ++ (le (crc (197 :: (le b.length 3 ++ b))) 4 ++ []))) := by
      rw [ef, show 4 + q = 3 + q + 1 by omega, List.set_cons_succ, List.set_append_right _ _ (by omega), h3, show 3 + q - 3 = q by omega, List.set_append_left _ _ h, List.length_set, List.append_nil]
    have hbq : b[q]? = some z := by
      rw [ef, show 4 + q = 3 + q + 1 by omega, List.getElem?_cons_succ, List.getElem?_append_right (by omega), h3, show 3 + q - 3 = q by omega, List.getElem?_append_left h] at hz
      exact hz
    rw [e, unframe_parts (by rw [List.length_set]; exact hb) hs, if_pos]
    intro hc
    rw [hw, List.length_set] at hc
    obtain ⟨h1, h2⟩ := List.getElem?_eq_some_iff.1 hbq
    have e1 : b.set q z' = b.take q ++ z' :: b.drop (q + 1) := by rw [List.set_eq_take_append_cons_drop, if_pos h1]
    have e2 : b = b.take q ++ z :: b.drop (q + 1) := by rw [← h2, List.getElem_cons_drop, List.take_append_drop]
    have hc' : crc ((197 :: (le b.length 3 ++ b.take q)) ++ z' :: b.drop (q + 1)) = crc ((197 :: (le b.length 3 ++ b.take q)) ++ z :: b.drop (q + 1)) := by
      have t1 : (197 :: (le b.length 3 ++ b.take q)) ++ z' :: b.drop (q + 1) = 197 :: (le b.length 3 ++ b.set q z') := by rw [e1]; simp
      have t2 : (197 :: (le b.length 3 ++ b.take q)) ++ z :: b.drop (q + 1) = 197 :: (le b.length 3 ++ b) := by
        rw [List.cons_append, List.append_assoc, ← e2]
      rw [t1, t2]
      exact hc
    exact hne (crc_one hc')
  · obtain ⟨p, rfl⟩ : ∃ p, q = b.length + p := ⟨q - b.length, by omega⟩
    have hp : p < 4 := by omega
    have e : (frame b).set (4 + (b.length + p)) z' = 197 :: (le b.length 3 ++ (b ++ ((le (crc (197 :: (le b.length 3 ++ b))) 4).set p z' ++ []))) := by
      rw [ef, show 4 + (b.length + p) = 3 + (b.length + p) + 1 by omega, List.set_cons_succ, List.set_append_right _ _ (by omega), h3, show 3 + (b.length + p) - 3 = b.length + p by omega, List.set_append_right _ _ (by omega), show b.length + p - b.length = p by omega, List.append_nil]
    have hsp : (le (crc (197 :: (le b.length 3 ++ b))) 4)[p]? = some z := by
      rw [ef, show 4 + (b.length + p) = 3 + (b.length + p) + 1 by omega, List.getElem?_cons_succ, List.getElem?_append_right (by omega), h3, show 3 + (b.length + p) - 3 = b.length + p by omega, List.getElem?_append_right (by omega), show b.length + p - b.length = p by omega] at hz
      exact hz
    rw [e, unframe_parts hb (by rw [List.length_set]; exact hs), if_pos]
    intro hc
    have hc2 : wh (le (crc (197 :: (le b.length 3 ++ b))) 4) = wh ((le (crc (197 :: (le b.length 3 ++ b))) 4).set p z') := by rw [hw]; exact hc
    have := wh_inj (by rw [List.length_set]) hc2
    have h4 := congrArg (fun l => l[p]?) this
    simp only [hsp, List.getElem?_set, hs] at h4
    simp [hp] at h4
    exact hne h4.symm
theorem flip_ne {z : UInt8} {j : Nat} (hj : j < 8) : UInt8.ofNat (z.toNat ^^^ (1 * 2 ^ j % 2 ^ 8)) ≠ z := by
  intro h
  have hp : 1 * 2 ^ j % 2 ^ 8 = 2 ^ j := by
    rw [Nat.one_mul]
    exact Nat.mod_eq_of_lt (Nat.pow_lt_pow_right (by decide) hj)
  rw [hp] at h
  have hlt : z.toNat ^^^ 2 ^ j < 256 := Nat.xor_lt_two_pow (n := 8) z.toNat_lt (Nat.pow_lt_pow_right (by decide) hj)
  have h2 := congrArg UInt8.toNat h
  have hj2 : 2 ^ j < 256 := by have := Nat.pow_lt_pow_right (a := 2) (by decide) hj; omega
  simp [Nat.mod_eq_of_lt hj2] at h2
  have h3 : z.toNat ^^^ 2 ^ j = z.toNat ^^^ 0 := by rw [Nat.xor_zero]; exact h2
  have := xor_inj h3
  have := Nat.two_pow_pos j
  omega
end Go.Wk.Cod
namespace Go.Wk.Cod
theorem tells_flip {b : List UInt8} (hb : b.length ≤ 1048576) {q j : Nat} (hq : q < b.length + 4) (hj : j < 8) {z : UInt8} (hz : (frame b)[4 + q]? = some z) : unframe ((frame b).set (4 + q) (UInt8.ofNat (z.toNat ^^^ (1 * 2 ^ j % 2 ^ 8)))) = ([], 0, 8) := unframe_set_other hb hq hz (flip_ne hj)
theorem flip_cast {z : UInt8} {j : Nat} (hj : j < 8) : Value.int .u8 ((z.toNat ^^^ (1 * 2 ^ j % 2 ^ 8) : Nat) : Int) = Value.int .u8 (((UInt8.ofNat (z.toNat ^^^ (1 * 2 ^ j % 2 ^ 8))).toNat : Nat) : Int) := by
  have hlt : z.toNat ^^^ (1 * 2 ^ j % 2 ^ 8) < 256 := Nat.xor_lt_two_pow (n := 8) z.toNat_lt (Nat.mod_lt _ (by decide))
  have : (UInt8.ofNat (z.toNat ^^^ (1 * 2 ^ j % 2 ^ 8))).toNat = z.toNat ^^^ (1 * 2 ^ j % 2 ^ 8) := by
    rw [UInt8.toNat_ofNat']
    exact Nat.mod_eq_of_lt hlt
  rw [this]
end Go.Wk.Cod
