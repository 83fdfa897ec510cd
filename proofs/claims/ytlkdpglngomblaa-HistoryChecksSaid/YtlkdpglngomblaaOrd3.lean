/- Plain facts that the proof of this law leans on. -/
import Derived.Test.YtlkdpglngomblaaOrd2
set_option linter.unusedVariables false
set_option linter.unusedSimpArgs false
namespace Go.Wk
open Go
/-! ### The reference's order -/
namespace Hist
section
variable {x y : Op}
theorem ahead_1 (h : ¬ x.at_ = y.at_) : decide (x.at_ < y.at_) = ahead x y := by
  unfold ahead
  exact decide_eq_decide.2 (by omega)
theorem ahead_2 (h : x.at_ = y.at_) (hr : (x.read == y.read) = false) : y.read = ahead x y := by
  unfold ahead
  rw [h]
  cases hx : x.read <;> cases hy : y.read <;> simp_all [rk]
theorem ahead_3 (h : x.at_ = y.at_) (hr : (x.read == y.read) = true) : decide (x.start < y.start) = ahead x y := by
  unfold ahead
  rw [h, eq_of_beq hr]
  exact decide_eq_decide.2 (by omega)
end
section
variable {log : List Ent} {ops : List Op} {x z : Op} {i : Nat}
theorem rep_none (h : ¬ 0 < x.stop) : eRep log x = false := by unfold eRep; rw [decide_eq_false h, Bool.false_and]
theorem rep_query (h : 0 < x.stop) (hr : x.read = true) : eRep log x = !decide (Mod.query (state log x.at_.toNat).1 x.cmd = x.rep) := by
  unfold eRep
  rw [decide_eq_true h, Bool.true_and, show reply log x = Mod.query (state log x.at_.toNat).1 x.cmd from if_pos hr]
theorem rep_apply (h : 0 < x.stop) (hr : x.read = false) : eRep log x = !decide ((Mod.apply (state log (x.at_ - 1).toNat).1 (state log (x.at_ - 1).toNat).2 x.at_ x.cmd).2.2 = x.rep) := by
  unfold eRep
  rw [decide_eq_true h, Bool.true_and, show reply log x = (Mod.apply (state log (x.at_ - 1).toNat).1 (state log (x.at_ - 1).toNat).2 x.at_ x.cmd).2.2 from if_neg (by rw [hr]; decide)]
theorem late_yes (hz : ops[i]? = some z) (h : (decide (0 ≤ x.at_) && lateP x z) = true) : late ops x = true := by
  rw [Bool.and_eq_true] at h
  unfold late
  rw [h.1, Bool.true_and]
  exact List.any_eq_true.2 ⟨z, List.mem_of_getElem? hz, h.2⟩
theorem late_no (h : ∀ (q : Nat) (y : Op), q < ops.length → ops[q]? = some y → ¬ (decide (0 ≤ x.at_) && lateP x y) = true) : late ops x = false := by
  unfold late
  cases hd : decide (0 ≤ x.at_) with
  | false => rfl
  | true =>
    rw [Bool.true_and]
    refine List.any_eq_false.2 fun y hy => ?_
    obtain ⟨q, hq, e⟩ := List.getElem_of_mem hy
    have := h q y hq (by rw [List.getElem?_eq_getElem hq, e])
    rw [hd, Bool.true_and] at this
    exact this
end
/-! its insertion sort: place k of zs is a hole for i -/
structure Hole (ops : List Op) (ys zs : List Int) (i k : Nat) : Prop where
  len : zs.length = ys.length + 1
  inn : Srt.In (so ops) (ys ++ [(i : Int)]) (zs.set k (i : Int)) 0 ys.length k (i : Int)
section
variable {ops : List Op} {ys zs : List Int} {i k : Nat} {u : Int}
theorem Hole.start (hs : Srt.So (so ops) ys 0 ys.length) (hl : ∀ v ∈ ys, v < (i : Int)) : Hole ops ys (ys ++ [(i : Int)]) i ys.length := by
  refine ⟨by simp, ?_⟩
  have e : (ys ++ [(i : Int)]).set ys.length (i : Int) = ys ++ [(i : Int)] := by
    rw [List.set_append_right _ _ (Nat.le_refl _), Nat.sub_self]
    rfl
  rw [e]
  refine Srt.In.start (b := ys.length + 1) ?_ ?_ (Nat.zero_le _) (Nat.lt_succ_self _) (by simp)
  · intro a b u v h1 h2 h3 hu hv
    rw [List.getElem?_append_left (by omega)] at hu hv
    exact hs a b u v h1 h2 h3 hu hv
  · intro a b u v h1 h2 h3 h4 hu hv
    obtain rfl : b = ys.length := by omega
    rw [List.getElem?_append_left h2] at hu
    simp only [List.getElem?_concat_length, Option.some.injEq] at hv
    subst hv
    exact hl u (List.mem_of_getElem? hu)
theorem Hole.at_ (h : Hole ops ys zs i (k + 1)) (hu : zs[k]? = some u) : (zs.set (k + 1) (i : Int))[k]? = some u := by
  rw [List.getElem?_set, if_neg (by omega)]
  exact hu
theorem Hole.less (h : Hole ops ys zs i (k + 1)) (hu : zs[k]? = some u) : u < (i : Int) :=
  h.inn.less k u (Nat.zero_le _) (by have := h.inn.ji; omega) (by omega) (h.at_ hu)
theorem Hole.next (h : Hole ops ys zs i (k + 1)) (hu : zs[k]? = some u) (hl : (so ops).lt (i : Int) u = true) : Hole ops ys (zs.set (k + 1) u) i k := by
  refine ⟨by rw [List.length_set, h.len], ?_⟩
  have := h.inn.next (Nat.zero_le _) (h.at_ hu) hl
  rwa [List.set_set] at this
theorem Hole.stop (h : Hole ops ys zs i k) (hl : k = 0 ∨ ∃ (l : Nat) (u : Int), k = l + 1 ∧ zs[l]? = some u ∧ (so ops).lt u (i : Int) = true) : Srt.So (so ops) (zs.set k (i : Int)) 0 (ys.length + 1) ∧ Srt.Sg 0 (ys.length + 1) (ys ++ [(i : Int)]) (zs.set k (i : Int)) := by
  refine ⟨h.inn.stop ?_, h.inn.sg⟩
  rcases hl with hl | ⟨l, u, rfl, hu, hl⟩
  · exact .inl hl
  · exact .inr ⟨l, u, rfl, h.at_ hu, hl⟩
structure Got (ops : List Op) (ys : List Int) (i : Nat) : Prop where
  sg : Srt.Sg 0 (idxs ops i).length (idxs ops i) ys
  so : Srt.So (so ops) ys 0 (idxs ops i).length
theorem Got.len (h : Got ops ys i) : ys.length = (idxs ops i).length := h.sg.1
theorem Got.start : Got ops [] 0 := ⟨.refl, .small (Nat.zero_le _)⟩
theorem Got.less (h : Got ops ys i) : ∀ v ∈ ys, v < (i : Int) := by
  intro v hv
  obtain ⟨k, hk, e⟩ := List.getElem_of_mem hv
  obtain ⟨l, _, _, hl⟩ := h.sg.2.2.1 k (Nat.zero_le _) (by rw [← h.len]; exact hk)
  rw [List.getElem?_eq_getElem hk, e] at hl
  exact (idxs_mem.1 (List.mem_of_getElem? hl.symm)).2.1
theorem Got.idx (h : Got ops ys i) (hi : i ≤ ops.length) : Idx ops ys := (idxs_idx hi).sg h.sg
theorem Got.hole (h : Got ops ys i) : Hole ops ys (ys ++ [(i : Int)]) i ys.length := .start (by rw [h.len]; exact h.so) h.less
theorem Got.next (h : Got ops ys i) (he : idxs ops (i + 1) = idxs ops i ++ [(i : Int)]) (hh : Hole ops ys zs i k) (hl : k = 0 ∨ ∃ (l : Nat) (u : Int), k = l + 1 ∧ zs[l]? = some u ∧ (Hist.so ops).lt u (i : Int) = true) : Got ops (zs.set k (i : Int)) (i + 1) := by
  obtain ⟨h1, h2⟩ := hh.stop hl
  have hle : (idxs ops (i + 1)).length = ys.length + 1 := by rw [he, List.length_append, h.len]; rfl
  refine ⟨?_, by rw [hle]; exact h1⟩
  rw [hle, he]
  refine Srt.Sg.trans ?_ h2
  have hn := h.len
  refine ⟨by simp [hn], fun c hc => ?_, fun c c1 c2 => ?_, fun c c1 c2 => ?_⟩
  · rw [List.getElem?_eq_none (by simp; omega), List.getElem?_eq_none (by simp; omega)]
  · by_cases e : c < ys.length
    · obtain ⟨l, l1, l2, l3⟩ := h.sg.2.2.1 c c1 (by omega)
      exact ⟨l, l1, by omega, by rw [List.getElem?_append_left e, List.getElem?_append_left (by omega)]; exact l3⟩
    · obtain rfl : c = ys.length := by omega
      refine ⟨ys.length, c1, c2, ?_⟩
      rw [List.getElem?_concat_length, hn, List.getElem?_concat_length]
  · by_cases e : c < ys.length
    · obtain ⟨l, l1, l2, l3⟩ := h.sg.2.2.2 c c1 (by omega)
      exact ⟨l, l1, by omega, by rw [List.getElem?_append_left (by omega), List.getElem?_append_left (by omega)]; exact l3⟩
    · obtain rfl : c = ys.length := by omega
      refine ⟨ys.length, c1, c2, ?_⟩
      rw [List.getElem?_concat_length, hn, List.getElem?_concat_length]
theorem Got.skip (h : Got ops ys i) (he : idxs ops (i + 1) = idxs ops i) : Got ops ys (i + 1) := ⟨by rw [he]; exact h.sg, by rw [he]; exact h.so⟩
theorem Hole.go {x z : Op} (h : Hole ops ys zs i (k + 1)) (hu : zs[k]? = some u) (hx : ops[i]? = some x) (hz : ops[u.toNat]? = some z) : (Hist.so ops).lt (i : Int) u = ahead x z := by
  rw [late_lt (h.less hu), opAt_is hx, opAt_of hz]
theorem Hole.nogo {x z : Op} (h : Hole ops ys zs i (k + 1)) (hu : zs[k]? = some u) (hx : ops[i]? = some x) (hz : ops[u.toNat]? = some z) (hn : ahead x z = false) : (Hist.so ops).lt u (i : Int) = true :=
  Srt.lt_of_not (by rw [h.go hu hx hz]; exact hn) (h.less hu)
theorem Hole.rng {l : Nat} (h : Hole ops ys zs i k) (hi : Idx ops ys) (hil : i < ops.length) (hl : l ≠ k) (hu : zs[l]? = some u) : 0 ≤ u ∧ u < ops.length := by
  have h1 : (zs.set k (i : Int))[l]? = some u := by rw [List.getElem?_set, if_neg (Ne.symm hl)]; exact hu
  have h2 : Idx ops (ys ++ [(i : Int)]) := fun v hv => by
    rcases List.mem_append.1 hv with hv | hv
    · exact hi v hv
    · rw [List.mem_singleton] at hv; omega
  exact (h2.sg h.inn.sg).at_ h1
theorem Got.done (h : Got ops ys ops.length) : Ordd ops ys := ⟨h.sg, h.so⟩
end
end Hist
end Go.Wk
