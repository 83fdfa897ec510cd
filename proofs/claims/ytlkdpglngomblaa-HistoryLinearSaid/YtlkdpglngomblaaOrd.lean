/- Plain facts that the proof of this law leans on. -/
import Derived.Test.YtlkdpglngomblaaSrt2
set_option linter.unusedVariables false
set_option linter.unusedSimpArgs false
namespace Go.Wk
open Go
/-! ### The order of a history -/
namespace Hist
def op0 : Op := ⟨⟨0, 0, 0, ⟨#[]⟩, ⟨#[]⟩, ⟨#[]⟩, ⟨#[]⟩, 0⟩, ⟨0, false, ⟨#[]⟩, 0, []⟩, 0, 0, 0, false⟩
def opAt (ops : List Op) (i : Int) : Op := ops.getD i.toNat op0
def rk (b : Bool) : Int := if b = true then 1 else 0
def ofirst : List Int → Int
  | [] => 0
  | x :: l => if x = 0 then ofirst l else x
def cmpP (x y : Op) : Int := ofirst [cmpI x.at_ y.at_, rk x.read - rk y.read, cmpI x.start y.start]
def ahead (x y : Op) : Bool := decide (x.at_ < y.at_ ∨ (x.at_ = y.at_ ∧ (rk x.read < rk y.read ∨ (rk x.read = rk y.read ∧ x.start < y.start))))
theorem rk01 (b : Bool) : rk b = 0 ∨ rk b = 1 := by cases b <;> simp [rk]
theorem cmp_neg {x y : Op} : cmpP x y < 0 ↔ ahead x y = true := by
  have h1 := rk01 x.read; have h2 := rk01 y.read
  unfold cmpP ahead
  simp only [ofirst, cmpI, decide_eq_true_eq]
  repeat' split
  all_goals omega
theorem cmpI_rng (a b : Int) : -1 ≤ cmpI a b ∧ cmpI a b ≤ 1 := by
  unfold cmpI
  repeat' split
  all_goals omega
def lt (ops : List Op) (u v : Int) : Bool := ahead (opAt ops u) (opAt ops v) || (!ahead (opAt ops v) (opAt ops u) && decide (u < v))
theorem ahead_iff {x y : Op} : ahead x y = true ↔ (x.at_ < y.at_ ∨ (x.at_ = y.at_ ∧ (rk x.read < rk y.read ∨ (rk x.read = rk y.read ∧ x.start < y.start)))) := decide_eq_true_iff
theorem ahead_no {x y : Op} : ahead x y = false ↔ ¬ (x.at_ < y.at_ ∨ (x.at_ = y.at_ ∧ (rk x.read < rk y.read ∨ (rk x.read = rk y.read ∧ x.start < y.start)))) := decide_eq_false_iff_not
theorem lt_iff {ops : List Op} {u v : Int} : lt ops u v = true ↔ ahead (opAt ops u) (opAt ops v) = true ∨ (ahead (opAt ops v) (opAt ops u) = false ∧ u < v) := by
  simp [lt]
theorem lt_not {ops : List Op} {u v : Int} : lt ops u v = false ↔ ¬ (ahead (opAt ops u) (opAt ops v) = true ∨ (ahead (opAt ops v) (opAt ops u) = false ∧ u < v)) := by
  rw [← lt_iff]
  simp
def so (ops : List Op) : SO Int where
  lt := lt ops
  irr u := by
    rw [lt_not, ahead_iff, ahead_no]
    omega
  tr := by
    intro a b c h1 h2
    rw [lt_iff, ahead_iff, ahead_no] at *
    omega
  tri := by
    intro a b h1 h2
    rw [lt_not, ahead_iff, ahead_no] at h1 h2
    omega
theorem late_lt {ops : List Op} {u v : Int} (h : v < u) : (so ops).lt u v = ahead (opAt ops u) (opAt ops v) := by
  show lt ops u v = _
  unfold lt
  rw [decide_eq_false (show ¬ u < v by omega), Bool.and_false, Bool.or_false]
theorem late_neg {ops : List Op} {u v : Int} (h : v < u) (hc : cmpP (opAt ops u) (opAt ops v) < 0) : (so ops).lt u v = true := by
  rw [late_lt h]; exact cmp_neg.1 hc
theorem late_pos {ops : List Op} {u v : Int} (h : v < u) (hc : ¬ cmpP (opAt ops u) (opAt ops v) < 0) : (so ops).lt u v = false := by
  rw [late_lt h]
  cases hx : ahead (opAt ops u) (opAt ops v) with
  | false => rfl
  | true => exact absurd (cmp_neg.2 hx) hc
theorem opAt_is {ops : List Op} {i : Nat} {z : Op} (h : ops[i]? = some z) : opAt ops (i : Int) = z := by
  unfold opAt
  rw [List.getD_eq_getElem?_getD, Int.toNat_natCast, h]
  rfl
theorem opAt_of {ops : List Op} {u : Int} {z : Op} (h : ops[u.toNat]? = some z) : opAt ops u = z := by
  unfold opAt
  rw [List.getD_eq_getElem?_getD, h]
  rfl
theorem ofirst_next {l : List Int} {i : Nat} {z : Int} (h : l[i]? = some z) (h0 : z = 0) : ofirst (l.drop i) = ofirst (l.drop (i + 1)) := by
  rw [drop_at h, ofirst, if_pos h0]
theorem ofirst_at {l : List Int} {i : Nat} {z : Int} (h : l[i]? = some z) (h0 : ¬ z = 0) : ofirst (l.drop i) = z := by
  rw [drop_at h, ofirst, if_neg h0]
def Idx (ops : List Op) (xs : List Int) : Prop := ∀ v ∈ xs, 0 ≤ v ∧ v < ops.length
theorem Idx.at_ {ops : List Op} {xs : List Int} {k : Nat} {v : Int} (h : Idx ops xs) (hv : xs[k]? = some v) : 0 ≤ v ∧ v < ops.length := h v (List.mem_of_getElem? hv)
theorem Idx.sg {ops : List Op} {xs ys : List Int} {a b : Nat} (h : Idx ops xs) (g : Srt.Sg a b xs ys) : Idx ops ys := by
  intro v hv
  obtain ⟨k, hk, e⟩ := List.getElem_of_mem hv
  have hv' : ys[k]? = some v := by rw [List.getElem?_eq_getElem hk, e]
  by_cases c : k < a ∨ b ≤ k
  · exact h.at_ (g.2.1 k c ▸ hv')
  · obtain ⟨l, _, _, hl⟩ := g.2.2.1 k (by omega) (by omega)
    exact h.at_ (hl ▸ hv')
end Hist
end Go.Wk
