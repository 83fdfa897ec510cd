/- Plain facts that the proof of this law leans on. -/
import Derived.Test.YtdaphlemhmgncaaGreatCmd
set_option linter.unusedVariables false
set_option linter.unusedSimpArgs false
namespace Go.Wk
open Go
namespace Cod
/-! ### Reading, step by step: a state is what is left, and whether something was wrong -/
abbrev S := List UInt8 × Bool
def getN (s : S) : Nat × S := rd 0 (dec s.1) s.1 s.2
def getI (s : S) : Int × S := (zag (getN s).1, (getN s).2)
def getT (s : S) : ByteArray × S := (⟨(rd [] (decT s.1) s.1 s.2).1.toArray⟩, (rd [] (decT s.1) s.1 s.2).2)
def getB (s : S) : Bool × S := rd false (decB s.1) s.1 s.2
theorem toI_lo {u : Nat} (h : u < 18446744073709551616) : -9223372036854775808 ≤ toI u ∧ toI u ≤ 9223372036854775807 := by
  unfold toI
  split <;> omega
theorem zag_lo {u : Nat} (h : u < 18446744073709551616) : -9223372036854775808 ≤ zag u ∧ zag u ≤ 9223372036854775807 := toI_lo (zagU_lt h)
theorem getN_lt (s : S) : (getN s).1 < 18446744073709551616 := rd_lt _ _
theorem getI_lo (s : S) : -9223372036854775808 ≤ (getI s).1 ∧ (getI s).1 ≤ 9223372036854775807 := zag_lo (getN_lt s)
theorem getI_len (s : S) : (getI s).2.1.length ≤ s.1.length := rd_len _ _ _ _
theorem getT_len (s : S) : (getT s).2.1.length ≤ s.1.length := rd_len _ _ _ _
theorem decT_size (b : List UInt8) : (decT b).1.length ≤ b.length := by
  unfold decT
  split
  · simp
  · simp only [List.length_drop, List.length_take]
    omega
theorem getT_size (s : S) : (getT s).1.size ≤ s.1.length := by
  show (rd [] (decT s.1) s.1 s.2).1.toArray.size ≤ _
  rw [List.size_toArray]
  unfold rd
  split
  · simp
  · exact decT_size _
theorem getN_enc {u : Nat} (hu : u < 18446744073709551616) (r : List UInt8) : getN (enc u ++ r, false) = (u, r, false) := rd_num hu r
theorem zag_zig' {n : Int} (h : -9223372036854775808 ≤ n ∧ n ≤ 9223372036854775807) : zag (zig n) = n := by
  have hu : (n % 18446744073709551616).toNat < 18446744073709551616 := by omega
  have h1 : toI (n % 18446744073709551616).toNat = n := by unfold toI; split <;> omega
  have h2 := zag_zig hu
  rwa [h1] at h2
theorem getI_enc {n : Int} (h : -9223372036854775808 ≤ n ∧ n ≤ 9223372036854775807) (r : List UInt8) : getI (enc (zig n) ++ r, false) = (n, r, false) := by
  unfold getI
  rw [getN_enc (zig_lt n), zag_zig' h]
theorem getT_enc {s : ByteArray} (h : s.size < 18446744073709551616) (r : List UInt8) : getT (enc s.size ++ (s.data.toList ++ r), false) = (s, r, false) := by
  have hl : s.data.toList.length = s.size := Array.length_toList
  unfold getT
  have := rd_text (s := s.data.toList) (by omega) r
  rw [hl] at this
  simp only
  rw [this]
theorem getB_enc (t : Bool) (r : List UInt8) : getB ((if t then 84 else 70) :: r, false) = (t, r, false) := rd_bool t r
theorem rdT_size {bs : List UInt8} {wr : Bool} {r : List UInt8 × S} (h : rd [] (decT bs) bs wr = r) : (⟨r.1.toArray⟩ : ByteArray).size ≤ bs.length := by
  subst h
  exact getT_size (bs, wr)
end Cod
namespace Cmd
open Cod
def parse (b : List UInt8) : Cmd × S :=
  let r1 := getI (b, false); let r2 := getI r1.2; let r3 := getI r2.2; let r4 := getI r3.2
  let r5 := getT r4.2; let r6 := getT r5.2; let r7 := getT r6.2; let r8 := getT r7.2
  (⟨r1.1, r2.1, r3.1, r5.1, r6.1, r7.1, r8.1, r4.1⟩, r8.2)
def zero : Cmd := ⟨0, 0, 0, empty, empty, empty, empty, 0⟩
def read (b : List UInt8) : Cmd × Int := if rend (parse b).2.1 (parse b).2.2 = true ∧ good (parse b).1 = true then ((parse b).1, 0) else (zero, 8)
theorem parse_of {b : List UInt8} {r1 r2 r3 r4 : Nat × S} {r5 r6 r7 r8 : List UInt8 × S} (h1 : rd 0 (dec b) b false = r1) (h2 : rd 0 (dec r1.2.1) r1.2.1 r1.2.2 = r2) (h3 : rd 0 (dec r2.2.1) r2.2.1 r2.2.2 = r3) (h4 : rd 0 (dec r3.2.1) r3.2.1 r3.2.2 = r4)
    (h5 : rd [] (decT r4.2.1) r4.2.1 r4.2.2 = r5) (h6 : rd [] (decT r5.2.1) r5.2.1 r5.2.2 = r6) (h7 : rd [] (decT r6.2.1) r6.2.1 r6.2.2 = r7) (h8 : rd [] (decT r7.2.1) r7.2.1 r7.2.2 = r8) :
    parse b = (⟨zag r1.1, zag r2.1, zag r3.1, ⟨r5.1.toArray⟩, ⟨r6.1.toArray⟩, ⟨r7.1.toArray⟩, ⟨r8.1.toArray⟩, zag r4.1⟩, r8.2) := by
  subst h1 h2 h3 h4 h5 h6 h7 h8
  rfl
theorem read_bad {b : List UInt8} {p : Cmd × S} (h : parse b = p) (h2 : rend p.2.1 p.2.2 = false ∨ good p.1 = false) : read b = (zero, 8) := by
  subst h
  unfold read
  rw [if_neg]
  rintro ⟨h3, h4⟩
  rcases h2 with h2 | h2 <;> simp_all
theorem read_good {b : List UInt8} {p : Cmd × S} (h : parse b = p) (h2 : rend p.2.1 p.2.2 = true) (h3 : good p.1 = true) : read b = (p.1, 0) := by
  subst h
  unfold read
  rw [if_pos ⟨h2, h3⟩]
end Cmd
end Go.Wk
namespace Go.Wk.Cod
theorem zag_lo' {b : List UInt8} {w : Bool} {r : Nat × S} (h : rd 0 (dec b) b w = r) : -9223372036854775808 ≤ zag r.1 ∧ zag r.1 ≤ 9223372036854775807 := by
  subst h
  exact zag_lo (rd_lt _ _)
end Go.Wk.Cod
