/- Plain facts that the proof of this law leans on. -/
import Derived.Test.YtlkdpglngomblaaOrd
set_option linter.unusedVariables false
set_option linter.unusedSimpArgs false
namespace Go.Wk
open Go
/-! ### The order's list -/
namespace Hist
def idxs (ops : List Op) : Nat → List Int
  | 0 => []
  | i + 1 => idxs ops i ++ (if 0 ≤ (opAt ops (i : Int)).at_ then [(i : Int)] else [])
section
variable {ops : List Op} {i : Nat} {z : Op}
theorem idxs_yes (hz : ops[i]? = some z) (h : 0 ≤ z.at_) : idxs ops (i + 1) = idxs ops i ++ [(i : Int)] := by
  rw [idxs, opAt_is hz, if_pos h]
theorem idxs_no (hz : ops[i]? = some z) (h : ¬ 0 ≤ z.at_) : idxs ops (i + 1) = idxs ops i := by
  rw [idxs, opAt_is hz, if_neg h, List.append_nil]
theorem idxs_len : ∀ {i : Nat}, (idxs ops i).length ≤ i
  | 0 => Nat.le_refl _
  | i + 1 => by
    have := idxs_len (i := i)
    rw [idxs, List.length_append]
    split
    · simp only [List.length_cons, List.length_nil]; omega
    · simp only [List.length_nil]; omega
theorem idxs_mem : ∀ {i : Nat} {v : Int}, v ∈ idxs ops i ↔ 0 ≤ v ∧ v < i ∧ 0 ≤ (opAt ops v).at_
  | 0, v => by
    constructor
    · intro h; cases h
    · intro h; omega
  | i + 1, v => by
    rw [idxs, List.mem_append, idxs_mem]
    split
    · rename_i h
      rw [List.mem_singleton]
      constructor
      · rintro (h1 | rfl)
        · exact ⟨h1.1, by omega, h1.2.2⟩
        · exact ⟨by omega, by omega, h⟩
      · intro h1
        by_cases e : v = (i : Int)
        · exact .inr e
        · exact .inl ⟨h1.1, by omega, h1.2.2⟩
    · rename_i h
      constructor
      · rintro (h1 | h1)
        · exact ⟨h1.1, by omega, h1.2.2⟩
        · cases h1
      · intro h1
        refine .inl ⟨h1.1, ?_, h1.2.2⟩
        have : v ≠ (i : Int) := fun e => h (e ▸ h1.2.2)
        omega
theorem idxs_pair : ∀ {i : Nat}, (idxs ops i).Pairwise (· < ·)
  | 0 => .nil
  | i + 1 => by
    rw [idxs, List.pairwise_append]
    refine ⟨idxs_pair, by split <;> simp, fun a ha b hb => ?_⟩
    have h1 := (idxs_mem.1 ha).2.1
    split at hb
    · rw [List.mem_singleton] at hb
      omega
    · cases hb
theorem ri_of {l : List Int} (h : l.Pairwise (· < ·)) (n : Nat) : Srt.Ri l 0 0 n := by
  intro i j u v _ hij _ _ hu hv
  obtain ⟨h1, rfl⟩ := List.getElem?_eq_some_iff.1 hu
  obtain ⟨h2, rfl⟩ := List.getElem?_eq_some_iff.1 hv
  exact List.pairwise_iff_getElem.1 h i j h1 h2 hij
theorem idxs_idx (h : i ≤ ops.length) : Idx ops (idxs ops i) := fun v hv => by
  have := idxs_mem.1 hv
  exact ⟨this.1, by omega⟩
end
def Ordd (ops : List Op) (y : List Int) : Prop := Srt.Sg 0 (idxs ops ops.length).length (idxs ops ops.length) y ∧ Srt.So (so ops) y 0 (idxs ops ops.length).length
section
variable {ops : List Op} {y : List Int}
theorem Ordd.len (h : Ordd ops y) : y.length = (idxs ops ops.length).length := h.1.1
theorem Ordd.idx (h : Ordd ops y) : Idx ops y := (idxs_idx (Nat.le_refl _)).sg h.1
theorem Ordd.mem (h : Ordd ops y) {v : Int} : v ∈ y ↔ 0 ≤ v ∧ v < ops.length ∧ 0 ≤ (opAt ops v).at_ := by
  rw [← idxs_mem]
  constructor
  · intro hv
    obtain ⟨k, hk, e⟩ := List.getElem_of_mem hv
    obtain ⟨l, _, _, hl⟩ := h.1.2.2.1 k (Nat.zero_le _) (by rw [← h.len]; exact hk)
    rw [List.getElem?_eq_getElem hk, e] at hl
    exact List.mem_of_getElem? hl.symm
  · intro hv
    obtain ⟨k, hk, e⟩ := List.getElem_of_mem hv
    obtain ⟨l, _, _, hl⟩ := h.1.2.2.2 k (Nat.zero_le _) hk
    rw [List.getElem?_eq_getElem hk, e] at hl
    exact List.mem_of_getElem? hl.symm
end
end Hist
end Go.Wk
namespace Go.Wk
open Go
namespace Hist
section
variable {ops : List Op} {y : List Int}
structure Seen (ops : List Op) (y : List Int) (seen : List Bool) (i : Nat) : Prop where
  len : seen.length = ops.length
  was : ∀ k : Nat, seen[k]? = some true → ∃ j : Nat, j < i ∧ y[j]? = some (k : Int)
theorem Seen.start : Seen ops y (List.replicate ops.length false) 0 :=
  ⟨List.length_replicate, fun k h => by
    rw [List.getElem?_replicate] at h
    split at h
    · cases h
    · cases h⟩
theorem Seen.next {seen : List Bool} {i k : Nat} (h : Seen ops y seen i) (hk : y[i]? = some (k : Int)) : Seen ops y (seen.set k true) (i + 1) :=
  ⟨by rw [List.length_set, h.len], fun l hl => by
    rw [List.getElem?_set] at hl
    split at hl
    · rename_i e
      subst e
      exact ⟨i, by omega, hk⟩
    · obtain ⟨j, h1, h2⟩ := h.was l hl
      exact ⟨j, by omega, h2⟩⟩
theorem Ordd.lt_of (h : Ordd ops y) {i j : Nat} {u v : Int} (hij : i < j) (hu : y[i]? = some u) (hv : y[j]? = some v) : lt ops u v = true :=
  h.2 i j u v (Nat.zero_le _) hij (by rw [← h.len]; exact (List.getElem?_eq_some_iff.1 hv).1) hu hv
theorem Seen.not {seen : List Bool} {i k : Nat} (h : Seen ops y seen i) (ho : Ordd ops y) (hk : y[i]? = some (k : Int)) (hs : seen[k]? = some true) : False := by
  obtain ⟨j, h1, h2⟩ := h.was k hs
  have := ho.lt_of h1 h2 hk
  rw [show lt ops (k : Int) (k : Int) = false from (so ops).irr _] at this
  cases this
theorem Ordd.good (h : Ordd ops y) {i : Nat} {v : Int} (hv : y[i]? = some v) : ∃ k : Nat, v = (k : Int) ∧ k < ops.length ∧ ∃ z, ops[k]? = some z ∧ 0 ≤ z.at_ := by
  have := h.mem.1 (List.mem_of_getElem? hv)
  have hk : v.toNat < ops.length := by omega
  refine ⟨v.toNat, by omega, hk, ops[v.toNat], List.getElem?_eq_getElem hk, ?_⟩
  have h2 := this.2.2
  rwa [opAt_of (List.getElem?_eq_getElem hk)] at h2
theorem Ordd.two (h : Ordd ops y) {i j k l : Nat} {a b : Op} (hij : i < j) (hu : y[i]? = some (k : Int)) (hv : y[j]? = some (l : Int)) (ha : ops[k]? = some a) (hb : ops[l]? = some b) : a.at_ ≤ b.at_ ∧ (a.at_ = b.at_ → a.read = true → b.read = true) := by
  have h1 := h.lt_of hij hu hv
  rw [lt_iff, opAt_is ha, opAt_is hb, ahead_iff, ahead_no] at h1
  refine ⟨by omega, fun he hr => ?_⟩
  cases hb2 : b.read with
  | true => rfl
  | false =>
    rw [hr, hb2, show rk true = 1 from rfl, show rk false = 0 from rfl] at h1
    omega
end
end Hist
end Go.Wk
