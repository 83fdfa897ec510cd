/- Plain facts that the proof of this law leans on. -/
import Derived.Test.YtlkdpglngomblaaCmd
set_option linter.unusedVariables false
set_option linter.unusedSimpArgs false
namespace Go.Wk
open Go
namespace Cod
/-! ### Reading, step by step: a state is what is left, and whether something was wrong -/
abbrev S := List UInt8 × Bool
def getN (s : S) : Nat × S := rd 0 (dec s.1) s.1 s.2
def getI (s : S) : Int × S := (zag (getN s).1, (getN s).2)
def getT (s : S) : ByteArray × S := (⟨(rd [] (decT s.1) s.1 s.2).1.toArray⟩, (rd [] (decT s.1) s.1 s.2).2)
def getB (s : S) : Bool × S := rd false (decB s.1) s.1 s.2
theorem decT_size (b : List UInt8) : (decT b).1.length ≤ b.length := by
  unfold decT
  split
  · simp
  · simp only [List.length_drop, List.length_take]
    omega
theorem getN_enc {u : Nat} (hu : u < 18446744073709551616) (r : List UInt8) : getN (enc u ++ r, false) = (u, r, false) := rd_num hu r
theorem zag_zig' {n : Int} (h : -9223372036854775808 ≤ n ∧ n ≤ 9223372036854775807) : zag (zig n) = n := by
  have hu : (n % 18446744073709551616).toNat < 18446744073709551616 := by omega
  have h1 : toI (n % 18446744073709551616).toNat = n := by unfold toI; split <;> omega
  have h2 := zag_zig hu
  rwa [h1] at h2
theorem getI_enc {n : Int} (h : -9223372036854775808 ≤ n ∧ n ≤ 9223372036854775807) (r : List UInt8) : getI (enc (zig n) ++ r, false) = (n, r, false) := by
  unfold getI
  rw [getN_enc (zig_lt n), zag_zig' h]
theorem getT_enc {s : ByteArray} (h : s.size < 18446744073709551616) (r : List UInt8) : getT (enc s.size ++ (s.data.toList ++ r), false) = (s, r, false) := by
  have hl : s.data.toList.length = s.size := Array.length_toList
  unfold getT
  have := rd_text (s := s.data.toList) (by omega) r
  rw [hl] at this
  simp only
  rw [this]
theorem getB_enc (t : Bool) (r : List UInt8) : getB ((if t then 84 else 70) :: r, false) = (t, r, false) := rd_bool t r
end Cod
namespace Cmd
open Cod
def parse (b : List UInt8) : Cmd × S :=
  let r1 := getI (b, false); let r2 := getI r1.2; let r3 := getI r2.2; let r4 := getI r3.2
  let r5 := getT r4.2; let r6 := getT r5.2; let r7 := getT r6.2; let r8 := getT r7.2
  (⟨r1.1, r2.1, r3.1, r5.1, r6.1, r7.1, r8.1, r4.1⟩, r8.2)
def zero : Cmd := ⟨0, 0, 0, empty, empty, empty, empty, 0⟩
def read (b : List UInt8) : Cmd × Int := if rend (parse b).2.1 (parse b).2.2 = true ∧ good (parse b).1 = true then ((parse b).1, 0) else (zero, 8)
theorem read_good {b : List UInt8} {p : Cmd × S} (h : parse b = p) (h2 : rend p.2.1 p.2.2 = true) (h3 : good p.1 = true) : read b = (p.1, 0) := by
  subst h
  unfold read
  rw [if_pos ⟨h2, h3⟩]
end Cmd
end Go.Wk
namespace Go.Wk.Cod
end Go.Wk.Cod
