/- Plain facts of the model. -/
import Derived.Test.YtlkdpglngomblaaMod2
import Derived.Test.YtlkdpglngomblaaWk19
set_option linter.unusedVariables false
set_option linter.unusedSimpArgs false
namespace Go.Wk
open Go Go.RowKit
/-! ### Rows with one more, and one less -/
section
variable {α : Type} {kd : Kd α} {ok : Nat → Prop} {w : World} {xs : List α} {vs cx : List Value} {x : α} {i : Nat}
theorem rowRep.parts (h : rowRep kd ok w xs vs) (hi : i ≤ xs.length) : rowRep kd ok w (xs.take i) (vs.take (i * kd.n)) ∧ rowRep kd ok w (xs.drop i) (vs.drop (i * kd.n)) := by
  have h0 := h
  rw [← List.take_append_drop i xs] at h
  obtain ⟨us, ts, rfl, h1, h2⟩ := rowRep.split h
  have hl := h1.len
  rw [List.length_take, Nat.min_eq_left hi] at hl
  rw [← hl, List.take_left, List.drop_left]
  exact ⟨h1, h2⟩
theorem rowRep.ins (h : rowRep kd ok w xs vs) (hx : rowRep kd ok w [x] cx) (hi : i ≤ xs.length) : rowRep kd ok w (xs.take i ++ x :: xs.drop i) (vs.take (i * kd.n) ++ (cx ++ vs.drop (i * kd.n))) := by
  obtain ⟨h1, h2⟩ := h.parts hi
  exact h1.append (rowRep.append hx h2)
theorem rowRep.del (h : rowRep kd ok w xs vs) (hi : i < xs.length) : rowRep kd ok w (xs.take i ++ xs.drop (i + 1)) (vs.take (i * kd.n) ++ vs.drop ((i + 1) * kd.n)) :=
  (h.parts (Nat.le_of_lt hi)).1.append (h.parts hi).2
end
theorem splitL {α : Type} (L : List α) (n m : Nat) (h : n + m ≤ L.length) : ∃ F O S, L = F ++ (O ++ S) ∧ F.length = n ∧ O.length = m := by
  refine ⟨L.take n, (L.drop n).take m, (L.drop n).drop m, by rw [List.take_append_drop, List.take_append_drop], ?_, ?_⟩
  · rw [List.length_take]; omega
  · rw [List.length_take, List.length_drop]; omega
namespace SO
variable {K T : Type} (o : SO K) (key : T → K)
theorem bs_lo {k : K} {l : List T} {h : Nat} {z : T} (hs : o.Srt key l) (hz : l[h]? = some z) (hl : o.lt (key z) k = true) : ∀ q x, q < h + 1 → l[q]? = some x → o.lt (key x) k = true := by
  intro q x hq hx
  by_cases he : q = h
  · subst he
    rw [hz] at hx
    cases hx
    exact hl
  · obtain ⟨h1, e1⟩ := List.getElem?_eq_some_iff.1 hz
    obtain ⟨h2, e2⟩ := List.getElem?_eq_some_iff.1 hx
    have := List.pairwise_iff_getElem.1 hs q h h2 h1 (by omega)
    rw [e1, e2] at this
    exact o.tr this hl
theorem bs_hi {k : K} {l : List T} {h : Nat} {z : T} (hs : o.Srt key l) (hz : l[h]? = some z) (hl : o.lt (key z) k = false) : ∀ q x, h ≤ q → l[q]? = some x → o.lt (key x) k = false := by
  intro q x hq hx
  by_cases he : q = h
  · subst he
    rw [hz] at hx
    cases hx
    exact hl
  · obtain ⟨h1, e1⟩ := List.getElem?_eq_some_iff.1 hz
    obtain ⟨h2, e2⟩ := List.getElem?_eq_some_iff.1 hx
    have := List.pairwise_iff_getElem.1 hs h q h1 h2 (by omega)
    rw [e1, e2] at this
    cases hk : o.lt (key x) k with
    | false => rfl
    | true => rw [o.tr this hk] at hl; cases hl
variable [DecidableEq K]
theorem found_at {k : K} {l : List T} {z : T} (hz : l[o.rank key k l]? = some z) : o.found key k l = decide (key z = k) := by
  unfold found
  rw [hz]
theorem found_end {k : K} {l : List T} (h : l.length ≤ o.rank key k l) : o.found key k l = false := by
  unfold found
  rw [List.getElem?_eq_none h]
theorem found_rank {k : K} {l : List T} (h : o.found key k l = true) : o.rank key k l < l.length := by
  unfold found at h
  cases hz : l[o.rank key k l]? with
  | none => rw [hz] at h; cases h
  | some z => exact (List.getElem?_eq_some_iff.1 hz).1
theorem found_key {k : K} {l : List T} {z : T} (h : o.found key k l = true) (hz : l[o.rank key k l]? = some z) : key z = k := by
  rw [o.found_at key hz] at h
  exact of_decide_eq_true h
theorem put_yes {x : T} {l : List T} (h : o.found key (key x) l = true) : o.put key x l = l.set (o.rank key (key x) l) x := by rw [put, if_pos h]
theorem put_no {x : T} {l : List T} (h : o.found key (key x) l = false) : o.put key x l = l.take (o.rank key (key x) l) ++ x :: l.drop (o.rank key (key x) l) := by rw [put, if_neg (by rw [h]; decide)]
theorem cut_yes {k : K} {l : List T} (h : o.found key k l = true) : o.cut key k l = l.take (o.rank key k l) ++ l.drop (o.rank key k l + 1) := by rw [cut, if_pos h, List.eraseIdx_eq_take_drop_succ]
theorem cut_no {k : K} {l : List T} (h : o.found key k l = false) : o.cut key k l = l := by rw [cut, if_neg (by rw [h]; decide)]
theorem put_len_yes {x : T} {l : List T} (h : o.found key (key x) l = true) : (o.put key x l).length = l.length := by rw [o.put_yes key h, List.length_set]
theorem put_len_no {x : T} {l : List T} (h : o.found key (key x) l = false) : (o.put key x l).length = l.length + 1 := by
  have := o.rank_le key (key x) l
  rw [o.put_no key h, List.length_append, List.length_cons, List.length_take, List.length_drop]
  omega
theorem put_len {x : T} {l : List T} : (o.put key x l).length ≤ l.length + 1 := by
  cases h : o.found key (key x) l with
  | true => rw [o.put_len_yes key h]; omega
  | false => rw [o.put_len_no key h]; omega
theorem cut_len_yes {k : K} {l : List T} (h : o.found key k l = true) : (o.cut key k l).length + 1 = l.length := by
  have := o.found_rank key h
  rw [o.cut_yes key h, List.length_append, List.length_take, List.length_drop]
  omega
theorem cut_len {k : K} {l : List T} : (o.cut key k l).length ≤ l.length := by
  cases h : o.found key k l with
  | true => have := o.cut_len_yes key h; omega
  | false => rw [o.cut_no key h]; exact Nat.le_refl _
theorem mem_cut {k : K} {l : List T} {y : T} (h : y ∈ o.cut key k l) : y ∈ l := by
  cases hf : o.found key k l with
  | true =>
    rw [o.cut_yes key hf] at h
    rcases List.mem_append.1 h with h | h
    · exact List.mem_of_mem_take h
    · exact List.mem_of_mem_drop h
  | false => rwa [o.cut_no key hf] at h
end SO
theorem cmpI_neg {a b : Int} : cmpI a b < 0 ↔ soInt.lt a b = true := by
  unfold cmpI soInt
  simp only [decide_eq_true_eq]
  split
  · simp [*]
  · split <;> simp [*]
theorem cmpI_zero {a b : Int} : cmpI a b = 0 ↔ a = b := by
  unfold cmpI
  split
  · constructor
    · intro h; cases h
    · intro h; omega
  · split
    · constructor
      · intro h; cases h
      · intro h; omega
    · constructor
      · intro _; omega
      · intro _; rfl
theorem cmpS_neg {a b : ByteArray} : cmpS a b < 0 ↔ soStr.lt a b = true := by
  unfold cmpS
  cases h1 : soStr.lt a b with
  | true => simp
  | false =>
    cases h2 : soStr.lt b a with
    | true => simp
    | false => simp
theorem cmpS_zero {a b : ByteArray} : cmpS a b = 0 ↔ a = b := by
  unfold cmpS
  cases h1 : soStr.lt a b with
  | true =>
    simp only [if_true]
    constructor
    · intro h; cases h
    · intro h; rw [h, soStr.irr] at h1; cases h1
  | false =>
    cases h2 : soStr.lt b a with
    | true =>
      simp only [if_true, Bool.false_eq_true, if_false]
      constructor
      · intro h; cases h
      · intro h; rw [h, soStr.irr] at h2; cases h2
    | false => simp [soStr.tri h1 h2]
end Go.Wk
