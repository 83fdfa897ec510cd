/- Plain facts of the codec's numbers, texts and sums. -/
import Derived.Test.YtondhngfjngngaaCod2
set_option linter.unusedVariables false
set_option linter.unusedSimpArgs false
namespace Go.Wk.Cod
open Go
/-! ### What was written is read -/
theorem or_add {x y : Nat} (hy : y < 256) : (x * 256 % 18446744073709551616) ||| y = (x * 256 + y) % 18446744073709551616 := by
  have h1 : x * 256 % 18446744073709551616 = x % 72057594037927936 * 2 ^ 8 := by omega
  rw [h1, Nat.or_comm, or_shift (k := 8) hy]
  omega
theorem foldB_tail (u : Nat) : ∀ (k v : Nat), foldB v (tailB u k) % 18446744073709551616 = (v * 2 ^ (8 * k) + u % 2 ^ (8 * k)) % 18446744073709551616
  | 0, v => by simp [tailB, foldB, Nat.mod_one]
  | k + 1, v => by
    have hb : (UInt8.ofNat (u / 2 ^ (8 * k))).toNat = u / 2 ^ (8 * k) % 256 := by simp
    have e : 2 ^ (8 * (k + 1)) = 2 ^ (8 * k) * 256 := by rw [Nat.mul_add, Nat.pow_add]
    have h : foldB v (tailB u (k + 1)) = foldB ((v * 256 % 18446744073709551616) ||| (UInt8.ofNat (u / 2 ^ (8 * k))).toNat) (tailB u k) := rfl
    rw [h, foldB_tail u k, hb, or_add (Nat.mod_lt _ (by decide)), e, Nat.mod_mul]
    generalize 2 ^ (8 * k) = W
    generalize u / W % 256 = q
    generalize u % W = r
    rw [Nat.add_mod, Nat.mod_mul_mod, ← Nat.add_mod]
    congr 1
    rw [Nat.add_mul, Nat.mul_assoc, Nat.mul_comm 256 W, Nat.mul_comm q W]
    omega
theorem foldB_eq {u v k : Nat} (hv : v < 18446744073709551616) : foldB v (tailB u k) = (v * 2 ^ (8 * k) + u % 2 ^ (8 * k)) % 18446744073709551616 := by
  rw [← foldB_tail, Nat.mod_eq_of_lt (foldB_lt hv _)]
theorem lead_all : ∀ (k : Fin 8) (q : Fin 128), q.1 < 2 ^ (7 - k.1) → lead (onesB k.1 + q.1) = k.1 := by decide +kernel
theorem mask_low : ∀ (k : Fin 8) (q : Fin 128), q.1 < 2 ^ (7 - k.1) → (onesB k.1 + q.1) &&& (255 - onesB k.1) = q.1 := by decide +kernel
theorem head_facts {u : Nat} (hu : u < 18446744073709551616) : lead (headB u) = beh u ∧ foldB (headB u &&& (255 - onesB (beh u))) (tailB u (beh u)) = u := by
  by_cases h8 : beh u < 8
  · obtain ⟨h1, h2⟩ := headB_lo hu rfl h8
    have h128 : u / 2 ^ (8 * beh u) < 128 := Nat.lt_of_lt_of_le h2 (Nat.pow_le_pow_right (by decide) (by omega : 7 - beh u ≤ 7))
    have hl := lead_all ⟨beh u, h8⟩ ⟨_, h128⟩ h2
    have hm := mask_low ⟨beh u, h8⟩ ⟨_, h128⟩ h2
    simp only at hl hm
    rw [h1]
    refine ⟨hl, ?_⟩
    rw [hm, foldB_eq (by omega), Nat.mul_comm, Nat.div_add_mod, Nat.mod_eq_of_lt hu]
  · have e8 : beh u = 8 := by have := beh_le u; omega
    rw [headB_8 e8, e8]
    refine ⟨by decide, ?_⟩
    have h0 : (255 &&& (255 - onesB 8)) = 0 := by decide
    have m1 : u % 2 ^ (8 * 8) = u := Nat.mod_eq_of_lt hu
    rw [h0, foldB_eq (by decide), m1, Nat.zero_mul, Nat.zero_add, Nat.mod_eq_of_lt hu]
theorem head_toNat (u : Nat) : (UInt8.ofNat (headB u)).toNat = headB u := by simp [Nat.mod_eq_of_lt (headB_lt u)]
theorem dec_enc {u : Nat} (hu : u < 18446744073709551616) (r : List UInt8) : dec (enc u ++ r) = (u, beh u + 1) := by
  obtain ⟨h1, h2⟩ := head_facts hu
  have ht : (tailB u (beh u)).length = beh u := tailB_length u _
  show dec (UInt8.ofNat (headB u) :: (tailB u (beh u) ++ r)) = _
  rw [dec_cons, head_toNat, h1, if_neg (by simp [ht]), List.take_append_of_le_length (by omega), List.take_of_length_le (by omega), h2, if_pos rfl]
theorem dec_early {u i : Nat} (hu : u < 18446744073709551616) (hi : i ≤ beh u) : dec ((enc u).take i) = (0, 0) := by
  cases i with
  | zero => rfl
  | succ i =>
    show dec (UInt8.ofNat (headB u) :: (tailB u (beh u)).take i) = _
    rw [dec_cons, head_toNat, (head_facts hu).1, if_pos (by rw [List.length_take, tailB_length]; omega)]
theorem dec_wide {u : Nat} (hu : u < 18446744073709551616) (h8 : beh u ≠ 8) : dec (255 :: tailB u 8) = (0, 0) := by
  have hl : lead (255 : UInt8).toNat = 8 := by decide
  have h0 : ((255 : UInt8).toNat &&& (255 - onesB 8)) = 0 := by decide
  have ht : (tailB u 8).length = 8 := tailB_length u _
  have htk : (tailB u 8).take 8 = tailB u 8 := List.take_of_length_le (by omega)
  have m1 : u % 2 ^ (8 * 8) = u := Nat.mod_eq_of_lt hu
  rw [dec_cons, hl, if_neg (by omega), h0, htk, foldB_eq (by decide), m1, Nat.zero_mul, Nat.zero_add, Nat.mod_eq_of_lt hu, if_neg h8]
theorem wh_le (u : Nat) : ∀ k, wh (le u k) = u % 2 ^ (8 * k) := by
  intro k
  induction k generalizing u with
  | zero => simp [le, wh, Nat.mod_one]
  | succ k ih =>
    have hb : (UInt8.ofNat u).toNat = u % 256 := by simp
    have e : 2 ^ (8 * (k + 1)) = 256 * 2 ^ (8 * k) := by rw [Nat.mul_add, Nat.pow_add, Nat.mul_comm]
    show (UInt8.ofNat u).toNat + 256 * wh (le (u / 2 ^ 8) k) = _
    rw [hb, ih, e, Nat.mod_mul]
theorem frame_eq {b : List UInt8} (hb : b.length ≤ 1048576) : frame b = 197 :: (le b.length 3 ++ (b ++ le (crc (197 :: (le b.length 3 ++ b))) 4)) := by
  unfold frame
  rw [if_neg (by omega)]
  simp
theorem frame_length {b : List UInt8} (hb : b.length ≤ 1048576) : (frame b).length = b.length + 8 := by
  rw [frame_eq hb]; simp [le_length]; omega
/-- A row that begins as a frame's row. -/
theorem unframe_parts {c s m : List UInt8} (hb : c.length ≤ 1048576) (hs : s.length = 4) : unframe (197 :: (le c.length 3 ++ (c ++ (s ++ m)))) = if crc (197 :: (le c.length 3 ++ c)) ≠ wh s then ([], 0, 8) else (c, c.length + 8, 0) := by
  have h3 : (le c.length 3).length = 3 := le_length 3 _
  have hw : wh (le c.length 3) = c.length := by
    rw [wh_le]
    exact Nat.mod_eq_of_lt (by have : 2 ^ (8 * 3) = 16777216 := by decide
                               omega)
  have hlen : (197 :: (le c.length 3 ++ (c ++ (s ++ m)))).length = c.length + 8 + m.length := by simp [h3, hs]; omega
  have ht4 : ((197 :: (le c.length 3 ++ (c ++ (s ++ m)))).take 4).drop 1 = le c.length 3 := by
    rw [List.take_succ_cons, List.drop_succ_cons, List.drop_zero, List.take_append_of_le_length (by omega), List.take_of_length_le (by omega)]
  have htc : (197 :: (le c.length 3 ++ (c ++ (s ++ m)))).take (c.length + 4) = 197 :: (le c.length 3 ++ c) := by
    have e : 197 :: (le c.length 3 ++ (c ++ (s ++ m))) = (197 :: (le c.length 3 ++ c)) ++ (s ++ m) := by simp
    have hl : (197 :: (le c.length 3 ++ c)).length = c.length + 4 := by simp [h3]; omega
    rw [e, ← hl, List.take_left]
  have htd : ((197 :: (le c.length 3 ++ (c ++ (s ++ m)))).take (c.length + 4 + 4)).drop (c.length + 4) = s := by
    have e : 197 :: (le c.length 3 ++ (c ++ (s ++ m))) = (197 :: (le c.length 3 ++ c)) ++ (s ++ m) := by simp
    have hl : (197 :: (le c.length 3 ++ c)).length = c.length + 4 := by simp [h3]; omega
    rw [List.drop_take, e, ← hl, List.drop_left, List.take_append_of_le_length (by omega), List.take_of_length_le (by omega)]
  have hd4 : ((197 :: (le c.length 3 ++ (c ++ (s ++ m)))).take (c.length + 4)).drop 4 = c := by
    rw [htc, List.drop_succ_cons]
    exact List.drop_left' h3
  unfold unframe
  rw [ht4, hw, htc, htd, if_neg (by rw [hlen]; omega), if_neg (by simp), if_neg (by rw [hlen]; omega), if_neg (by omega), if_neg (by rw [hlen]; omega), ← htc, hd4]
theorem unframe_frame {b : List UInt8} (hb : b.length ≤ 1048576) (m : List UInt8) : unframe (frame b ++ m) = (b, b.length + 8, 0) := by
  have e : frame b ++ m = 197 :: (le b.length 3 ++ (b ++ (le (crc (197 :: (le b.length 3 ++ b))) 4 ++ m))) := by rw [frame_eq hb]; simp
  rw [e, unframe_parts hb (le_length 4 _), if_neg]
  rw [wh_le]
  have := crc_lt (197 :: (le b.length 3 ++ b))
  have h : 2 ^ (8 * 4) = 4294967296 := by decide
  omega
/-- A row that begins with another mark. -/
theorem unframe_mark {z : UInt8} {r : List UInt8} (hz : z ≠ 197) : unframe (z :: r) = ([], 0, 8) := by
  unfold unframe
  rw [if_neg (by simp), if_pos (by simpa using hz)]
/-- A beginning of a frame. -/
theorem unframe_cut {b : List UInt8} (hb : b.length ≤ 1048576) {n : Nat} (hn : n < b.length + 8) : unframe ((frame b).take n) = ([], 0, 10) := by
  have hl := frame_length hb
  have hlen : ((frame b).take n).length = n := by rw [List.length_take]; omega
  have h3 : (le b.length 3).length = 3 := le_length 3 _
  unfold unframe
  by_cases h0 : n = 0
  · rw [if_pos (by rw [hlen]; exact h0)]
  rw [if_neg (by rw [hlen]; exact h0), if_neg (by rw [frame_eq hb]; obtain ⟨q, rfl⟩ : ∃ q, n = q + 1 := ⟨n - 1, by omega⟩; simp)]
  by_cases h4 : n < 4
  · rw [if_pos (by rw [hlen]; exact h4)]
  have ht4 : (((frame b).take n).take 4).drop 1 = le b.length 3 := by
    rw [List.take_take, show min 4 n = 4 by omega, frame_eq hb, List.take_succ_cons, List.drop_succ_cons, List.drop_zero, List.take_append_of_le_length (by omega), List.take_of_length_le (by omega)]
  have hw : wh (le b.length 3) = b.length := by
    rw [wh_le]
    exact Nat.mod_eq_of_lt (by have : 2 ^ (8 * 3) = 16777216 := by decide
                               omega)
  rw [if_neg (by rw [hlen]; exact h4), ht4, hw, if_neg (by omega), if_pos (by rw [hlen]; exact hn)]
theorem frame_0 {b : List UInt8} (hb : b.length ≤ 20000) : (frame b)[0]? = some 197 := by rw [frame_eq (by omega)]; rfl
theorem frame_1 {b : List UInt8} (hb : b.length ≤ 20000) : (frame b)[1]? = some (UInt8.ofNat b.length) := by rw [frame_eq (by omega)]; rfl
theorem frame_2 {b : List UInt8} (hb : b.length ≤ 20000) : (frame b)[2]? = some (UInt8.ofNat (b.length / 2 ^ 8)) := by rw [frame_eq (by omega)]; rfl
theorem frame_3 {b : List UInt8} (hb : b.length ≤ 20000) : (frame b)[3]? = some (UInt8.ofNat (b.length / 2 ^ 8 / 2 ^ 8)) := by rw [frame_eq (by omega)]; rfl
theorem marks_len {b : List UInt8} (hb : b.length ≤ 20000) (h : ¬ (((UInt8.ofNat b.length).toNat : Int) + ((UInt8.ofNat (b.length / 2 ^ 8)).toNat : Int) * 2 ^ 8 + ((UInt8.ofNat (b.length / 2 ^ 8 / 2 ^ 8)).toNat : Int) * 2 ^ 16 = (b.length : Int))) : False := by
  apply h
  have h1 : ∀ n, (UInt8.ofNat n).toNat = n % 256 := fun n => by simp
  rw [h1, h1, h1]
  omega
theorem unframe_set {b : List UInt8} (hb : b.length ≤ 20000) (z : UInt8) : unframe ((frame b).set 0 z) = if z = 197 then (b, b.length + 8, 0) else ([], 0, 8) := by
  have e := frame_eq (b := b) (by omega)
  split
  · rename_i h
    subst h
    have : (frame b).set 0 197 = frame b := by rw [e]; rfl
    rw [this]
    have := unframe_frame (b := b) (by omega) []
    rwa [List.append_nil] at this
  · rename_i h
    rw [e, List.set_cons_zero]
    exact unframe_mark h
theorem marks_a {b : List UInt8} (hb : b.length ≤ 20000) {z : UInt8} (h : (decide ((z.toNat : Int) = 197) == decide ((((unframe ((frame b).set 0 z)).2.2 : Nat) : Int) = 0)) = false) : False := by
  rw [unframe_set hb] at h
  by_cases hz : z = 197
  · subst hz; simp at h
  · have h2 : ¬ ((z.toNat : Int) = 197) := fun e => hz (byte_of e)
    simp [hz, h2] at h
theorem marks_b {b : List UInt8} (hb : b.length ≤ 20000) {z : UInt8} (h : ¬ (((unframe ((frame b).set 0 z)).2.2 : Nat) : Int) = 0) (h2 : ¬ (((unframe ((frame b).set 0 z)).2.2 : Nat) : Int) = 8) : False := by
  rw [unframe_set hb] at h h2
  by_cases hz : z = 197
  · subst hz; simp at h
  · simp [hz] at h2
theorem marks_c {b : List UInt8} (hb : b.length ≤ 20000) {z : UInt8} (h : ¬ (((unframe ((frame b).set 0 z)).2.2 : Nat) : Int) = 0) (h2 : ¬ (((unframe ((frame b).set 0 z)).2.1 : Nat) : Int) = 0) : False := by
  rw [unframe_set hb] at h h2
  by_cases hz : z = 197
  · subst hz; simp at h
  · simp [hz] at h2
end Go.Wk.Cod
namespace Go.Wk.Cod
theorem div_lt64 {u : Nat} (hu : u < 18446744073709551616) (k : Nat) : u / k < 2 ^ 64 := Nat.lt_of_le_of_lt (Nat.div_le_self _ _) hu
theorem div7 (u j : Nat) : u / 2 ^ (7 * (j + 1)) / 2 ^ 7 = u / 2 ^ (7 * (j + 1 + 1)) := by
  rw [Nat.div_div_eq_div_mul, ← Nat.pow_add]
  rfl
theorem short_iff {u j : Nat} (hu : u < 18446744073709551616) (h8 : j < 8) : 0 < u / 2 ^ (7 * (j + 1)) ↔ j < beh u := by
  have h := beh_le_iff hu h8
  have hp : 1 * 2 ^ (7 * (j + 1)) % 2 ^ 64 = 2 ^ (7 * (j + 1)) := by
    rw [Nat.one_mul]
    exact Nat.mod_eq_of_lt (Nat.pow_lt_pow_right (by decide) (by omega))
  rw [hp] at h
  rw [Nat.div_pos_iff]
  have := Nat.two_pow_pos (7 * (j + 1))
  omega
theorem short_go {u j : Nat} (hu : u < 18446744073709551616) (hj : j ≤ beh u) (h8 : j < 8) (h : 0 < u / 2 ^ (7 * (j + 1))) : j + 1 ≤ beh u := (short_iff hu h8).1 h
theorem short_end {u j : Nat} (hu : u < 18446744073709551616) (hj : j ≤ beh u) (h8 : j ≤ 8) (h : ¬ ((u / 2 ^ (7 * (j + 1)) : Nat) : Int) > 0) : j = beh u := by
  by_cases h7 : j < 8
  · have := (short_iff hu h7).2
    by_cases hb : j < beh u
    · exact absurd (Int.ofNat_lt.2 (this hb)) h
    · omega
  · have := beh_le u
    omega
theorem dec_short {u : Nat} (hu : u < 18446744073709551616) : dec ([] ++ ([] ++ enc u) ++ [255, 1]) = (u, beh u + 1) := dec_enc hu _
theorem early {u i : Nat} (hu : u < 18446744073709551616) (hi : i ≤ beh u) : dec (([] ++ enc u).take i) = (0, 0) := dec_early hu hi
theorem dec_wide' {u : Nat} (hu : u < 18446744073709551616) (h8 : beh u ≠ 8) : dec (255 :: (List.replicate (8 - 8) 0 ++ tailB u 8)) = (0, 0) := dec_wide hu h8
theorem wide_next {u i : Nat} (hi : i < 8) : (255 :: (List.replicate (8 - (i + 1)) 0 ++ tailB u (i + 1)) : List UInt8) = (255 :: (List.replicate (8 - i) 0 ++ tailB u i)).set (8 - i) (UInt8.ofNat (u / 2 ^ (8 * i))) := by
  obtain ⟨q, hq⟩ : ∃ q, 8 - i = q + 1 := ⟨8 - i - 1, by omega⟩
  rw [hq, show 8 - (i + 1) = q by omega, List.set_cons_succ, List.replicate_succ', List.append_assoc, List.set_append_right _ _ (by simp)]
  simp [tailB]
end Go.Wk.Cod
