/- Plain facts that the proof of this law leans on. -/
import Derived.Test.YtlkdpglngomblaaOrd2
set_option linter.unusedVariables false
set_option linter.unusedSimpArgs false
namespace Go.Wk
open Go
/-! ### The reference's order -/
namespace Hist
section
variable {x y : Op}
end
section
variable {log : List Ent} {ops : List Op} {x z : Op} {i : Nat}
end
/-! its insertion sort: place k of zs is a hole for i -/
structure Hole (ops : List Op) (ys zs : List Int) (i k : Nat) : Prop where
  len : zs.length = ys.length + 1
  inn : Srt.In (so ops) (ys ++ [(i : Int)]) (zs.set k (i : Int)) 0 ys.length k (i : Int)
section
variable {ops : List Op} {ys zs : List Int} {i k : Nat} {u : Int}
theorem Hole.start (hs : Srt.So (so ops) ys 0 ys.length) (hl : ∀ v ∈ ys, v < (i : Int)) : Hole ops ys (ys ++ [(i : Int)]) i ys.length := by
  refine ⟨by simp, ?_⟩
  have e : (ys ++ [(i : Int)]).set ys.length (i : Int) = ys ++ [(i : Int)] := by
    rw [List.set_append_right _ _ (Nat.le_refl _), Nat.sub_self]
    rfl
  rw [e]
  refine Srt.In.start (b := ys.length + 1) ?_ ?_ (Nat.zero_le _) (Nat.lt_succ_self _) (by simp)
  · intro a b u v h1 h2 h3 hu hv
    rw [List.getElem?_append_left (by omega)] at hu hv
    exact hs a b u v h1 h2 h3 hu hv
  · intro a b u v h1 h2 h3 h4 hu hv
    obtain rfl : b = ys.length := by omega
    rw [List.getElem?_append_left h2] at hu
    simp only [List.getElem?_concat_length, Option.some.injEq] at hv
    subst hv
    exact hl u (List.mem_of_getElem? hu)
theorem Hole.at_ (h : Hole ops ys zs i (k + 1)) (hu : zs[k]? = some u) : (zs.set (k + 1) (i : Int))[k]? = some u := by
  rw [List.getElem?_set, if_neg (by omega)]
  exact hu
theorem Hole.less (h : Hole ops ys zs i (k + 1)) (hu : zs[k]? = some u) : u < (i : Int) :=
  h.inn.less k u (Nat.zero_le _) (by have := h.inn.ji; omega) (by omega) (h.at_ hu)
theorem Hole.next (h : Hole ops ys zs i (k + 1)) (hu : zs[k]? = some u) (hl : (so ops).lt (i : Int) u = true) : Hole ops ys (zs.set (k + 1) u) i k := by
  refine ⟨by rw [List.length_set, h.len], ?_⟩
  have := h.inn.next (Nat.zero_le _) (h.at_ hu) hl
  rwa [List.set_set] at this
theorem Hole.stop (h : Hole ops ys zs i k) (hl : k = 0 ∨ ∃ (l : Nat) (u : Int), k = l + 1 ∧ zs[l]? = some u ∧ (so ops).lt u (i : Int) = true) : Srt.So (so ops) (zs.set k (i : Int)) 0 (ys.length + 1) ∧ Srt.Sg 0 (ys.length + 1) (ys ++ [(i : Int)]) (zs.set k (i : Int)) := by
  refine ⟨h.inn.stop ?_, h.inn.sg⟩
  rcases hl with hl | ⟨l, u, rfl, hu, hl⟩
  · exact .inl hl
  · exact .inr ⟨l, u, rfl, h.at_ hu, hl⟩
structure Got (ops : List Op) (ys : List Int) (i : Nat) : Prop where
  sg : Srt.Sg 0 (idxs ops i).length (idxs ops i) ys
  so : Srt.So (so ops) ys 0 (idxs ops i).length
theorem Got.len (h : Got ops ys i) : ys.length = (idxs ops i).length := h.sg.1
theorem Got.start : Got ops [] 0 := ⟨.refl, .small (Nat.zero_le _)⟩
theorem Got.less (h : Got ops ys i) : ∀ v ∈ ys, v < (i : Int) := by
  intro v hv
  obtain ⟨k, hk, e⟩ := List.getElem_of_mem hv
  obtain ⟨l, _, _, hl⟩ := h.sg.2.2.1 k (Nat.zero_le _) (by rw [← h.len]; exact hk)
  rw [List.getElem?_eq_getElem hk, e] at hl
  exact (idxs_mem.1 (List.mem_of_getElem? hl.symm)).2.1
theorem Got.idx (h : Got ops ys i) (hi : i ≤ ops.length) : Idx ops ys := (idxs_idx hi).sg h.sg
theorem Got.hole (h : Got ops ys i) : Hole ops ys (ys ++ [(i : Int)]) i ys.length := .start (by rw [h.len]; exact h.so) h.less
theorem Got.next (h : Got ops ys i) (he : idxs ops (i + 1) = idxs ops i ++ [(i : Int)]) (hh : Hole ops ys zs i k) (hl : k = 0 ∨ ∃ (l : Nat) (u : Int), k = l + 1 ∧ zs[l]? = some u ∧ (Hist.so ops).lt u (i : Int) = true) : Got ops (zs.set k (i : Int)) (i + 1) := by
  obtain ⟨h1, h2⟩ := hh.stop hl
  have hle : (idxs ops (i + 1)).length = ys.length + 1 := by rw [he, List.length_append, h.len]; rfl
  refine ⟨?_, by rw [hle]; exact h1⟩
  rw [hle, he]
  refine Srt.Sg.trans ?_ h2
  have hn := h.len
  refine ⟨by simp [hn], fun c hc => ?_, fun c c1 c2 => ?_, fun c c1 c2 => ?_⟩
  · rw [List.getElem?_eq_none (by simp; omega), List.getElem?_eq_none (by simp; omega)]
  · by_cases e : c < ys.length
    · obtain ⟨l, l1, l2, l3⟩ := h.sg.2.2.1 c c1 (by omega)
      exact ⟨l, l1, by omega, by rw [List.getElem?_append_left e, List.getElem?_append_left (by omega)]; exact l3⟩
    · obtain rfl : c = ys.length := by omega
      refine ⟨ys.length, c1, c2, ?_⟩
      rw [List.getElem?_concat_length, hn, List.getElem?_concat_length]
  · by_cases e : c < ys.length
    · obtain ⟨l, l1, l2, l3⟩ := h.sg.2.2.2 c c1 (by omega)
      exact ⟨l, l1, by omega, by rw [List.getElem?_append_left (by omega), List.getElem?_append_left (by omega)]; exact l3⟩
    · obtain rfl : c = ys.length := by omega
      refine ⟨ys.length, c1, c2, ?_⟩
      rw [List.getElem?_concat_length, hn, List.getElem?_concat_length]
theorem Got.skip (h : Got ops ys i) (he : idxs ops (i + 1) = idxs ops i) : Got ops ys (i + 1) := ⟨by rw [he]; exact h.sg, by rw [he]; exact h.so⟩
theorem Got.done (h : Got ops ys ops.length) : Ordd ops ys := ⟨h.sg, h.so⟩
end
end Hist
end Go.Wk
