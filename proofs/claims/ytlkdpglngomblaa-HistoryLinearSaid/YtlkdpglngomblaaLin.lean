/- Plain facts that the proof of this law leans on. -/
import Derived.Test.YtlkdpglngomblaaOrd3
set_option linter.unusedVariables false
set_option linter.unusedSimpArgs false
namespace Go.Wk
open Go
/-! ### The order of a right history -/
namespace Hist
section
variable {log : List Ent} {ops : List Op} {y : List Int}
structure Right (log : List Ent) (ops : List Op) : Prop where
  ok : okFrom log 0 = true
  one : ∀ x ∈ ops, one log ops x = 0
theorem right_of (h : (check log ops).2 = 0) : Right log ops := ⟨(check_zero.1 h).1, (check_zero.1 h).2⟩
theorem Right.range (h : Right log ops) {k : Nat} {x : Op} (hx : ops[k]? = some x) : x.at_ ≤ log.length ∧ (x.read = false → x.at_ ≠ 0) ∧ (0 < x.stop → 0 ≤ x.at_ ∧ x.start ≤ x.stop) :=
  range_at (one_zero.1 (h.one x (List.mem_of_getElem? hx))).1
theorem Right.idx (h : Right log ops) {k : Nat} {e : Ent} (he : log[k]? = some e) : e.idx = (k : Int) + 1 := by
  have := okFrom_iff.1 h.ok k e he
  omega
theorem Right.ent (h : Right log ops) {k j : Nat} {x : Op} {e : Ent} (hx : ops[k]? = some x) (hr : x.read = false) (ha : x.at_ = (j : Int) + 1) (he : log[j]? = some e) : e.kind = 2 ∧ e.cmd = x.cmd := by
  have h2 := (one_zero.1 (h.one x (List.mem_of_getElem? hx))).2.1
  rw [none_at (e := e) hr (by omega) (by rw [ha, show ((j : Int) + 1 - 1).toNat = j by omega]; exact he)] at h2
  simpa using h2
theorem Right.rep (h : Right log ops) {k : Nat} {x : Op} (hx : ops[k]? = some x) (hs : 0 < x.stop) : reply log x = x.rep := by
  have h2 := (one_zero.1 (h.one x (List.mem_of_getElem? hx))).2.2.1
  unfold eRep at h2
  rw [decide_eq_true hs] at h2
  simpa using h2
theorem Right.rep_w (h : Right log ops) {k j : Nat} {x : Op} {e : Ent} (hx : ops[k]? = some x) (hr : x.read = false) (ha : x.at_ = (j : Int) + 1) (he : log[j]? = some e) (hs : 0 < x.stop) : (Mod.apply (state log j).1 (state log j).2 e.idx e.cmd).2.2 = x.rep := by
  rw [← h.rep hx hs, reply, if_neg (by rw [hr]; decide), (h.ent hx hr ha he).2, h.idx he, ha, show ((j : Int) + 1 - 1).toNat = j by omega]
theorem Right.rep_r (h : Right log ops) {k j : Nat} {x : Op} (hx : ops[k]? = some x) (hr : x.read = true) (ha : x.at_ = (j : Int)) (hs : 0 < x.stop) : Mod.query (state log j).1 x.cmd = x.rep := by
  rw [← h.rep hx hs, reply, if_pos hr, ha, Int.toNat_natCast]
theorem Right.noinv (h : Right log ops) (ho : Ordd ops y) {i j k l : Nat} {a b : Op} (hij : i < j) (hu : y[i]? = some (k : Int)) (hv : y[j]? = some (l : Int)) (ha : ops[k]? = some a) (hb : ops[l]? = some b) : before b a = false := by
  cases hf : before b a with
  | false => rfl
  | true =>
    exfalso
    have h1 := ho.lt_of hij hu hv
    rw [lt_iff, opAt_is ha, opAt_is hb, ahead_iff, ahead_no] at h1
    have hl := (one_zero.1 (h.one a (List.mem_of_getElem? ha))).2.2.2
    obtain ⟨q, e, hk, z, hz, hz2⟩ := ho.good hu
    obtain rfl : k = q := by omega
    rw [ha] at hz
    cases hz
    obtain ⟨q, e, hk, z, hz, hz3⟩ := ho.good hv
    obtain rfl : l = q := by omega
    rw [hb] at hz
    cases hz
    have hp : lateP a b = false := by
      unfold late at hl
      rw [decide_eq_true hz2, Bool.true_and] at hl
      have := List.any_eq_false.1 hl b (List.mem_of_getElem? hb)
      simpa using this
    have hb2 : 0 < b.stop ∧ b.stop < a.start := by simpa [before] using hf
    have hr := (h.range hb).2.2 hb2.1
    unfold lateP at hp
    rw [decide_eq_true hz3, hf, Bool.true_and, Bool.true_and, Bool.or_eq_false_iff, Bool.and_eq_false_iff] at hp
    obtain ⟨p1, p2⟩ := hp
    have p1' : ¬ a.at_ < b.at_ := of_decide_eq_false p1
    have hra := rk01 a.read; have hrb := rk01 b.read
    rcases p2 with p2 | p2
    · have p2' : ¬ b.at_ = a.at_ := of_decide_eq_false p2
      omega
    · have p3 : a.read = true := by simpa using p2
      rw [p3, show rk true = 1 from rfl] at h1
      omega
theorem Ordd.mono (h : Ordd ops y) {i j k l : Nat} {a b : Op} (hij : i < j) (hu : y[i]? = some (k : Int)) (hv : y[j]? = some (l : Int)) (ha : ops[k]? = some a) (hb : ops[l]? = some b) : a.at_ ≤ b.at_ := (h.two hij hu hv ha hb).1
def From (ops : List Op) (y : List Int) (i k : Nat) : Prop := ∀ (j l : Nat) (b : Op), i ≤ j → y[j]? = some (l : Int) → ops[l]? = some b → (k : Int) ≤ b.at_
theorem From.start (h : Ordd ops y) : From ops y 0 0 := by
  intro j l b _ hv hb
  obtain ⟨q, e, hk, z, hz, hz2⟩ := h.good hv
  obtain rfl : l = q := by omega
  rw [hb] at hz
  cases hz
  omega
theorem From.next (h : Ordd ops y) {i k l : Nat} {x : Op} (hv : y[i]? = some (l : Int)) (hx : ops[l]? = some x) (hk : (k : Int) = x.at_) : From ops y (i + 1) k := by
  intro j m b hj hu hb
  rw [hk]
  exact h.mono (by omega) hv hu hx hb
end
end Hist
end Go.Wk
