/- Plain facts of the model. -/
import Derived.Test.YtlkdpglngomblaaMod
set_option linter.unusedVariables false
set_option linter.unusedSimpArgs false
namespace Go.Wk
open Go
/-! ### Lists by keys: what a plain loop finds, puts and leaves out -/
namespace SO
variable {K T : Type} (o : SO K) (key : T → K)
theorem rank_lt {k : K} {p : T} {l : List T} (h : o.lt (key p) k = true) : o.rank key k (p :: l) = o.rank key k l + 1 := by
  rw [rank, if_pos h]
theorem rank_ge {k : K} {p : T} {l : List T} (h : o.lt (key p) k = false) : o.rank key k (p :: l) = 0 := by
  rw [rank, if_neg (by rw [h]; exact Bool.false_ne_true)]
variable [DecidableEq K]
theorem found_lt {k : K} {p : T} {l : List T} (h : o.lt (key p) k = true) : o.found key k (p :: l) = o.found key k l := by
  unfold found
  rw [o.rank_lt key h, List.getElem?_cons_succ]
theorem found_ge {k : K} {p : T} {l : List T} (h : o.lt (key p) k = false) : o.found key k (p :: l) = decide (key p = k) := by
  unfold found
  rw [o.rank_ge key h, List.getElem?_cons_zero]
theorem put_lt {x p : T} {l : List T} (h : o.lt (key p) (key x) = true) : o.put key x (p :: l) = p :: o.put key x l := by
  unfold put
  rw [o.found_lt key h, o.rank_lt key h]
  split
  · rfl
  · rfl
theorem put_eq {x p : T} {l : List T} (h : key p = key x) : o.put key x (p :: l) = x :: l := by
  have h0 : o.lt (key p) (key x) = false := by rw [h]; exact o.irr _
  unfold put
  rw [o.found_ge key h0, o.rank_ge key h0, if_pos (decide_eq_true h)]
  rfl
theorem put_gt {x p : T} {l : List T} (h : o.lt (key p) (key x) = false) (hn : key p ≠ key x) : o.put key x (p :: l) = x :: p :: l := by
  unfold put
  rw [o.found_ge key h, o.rank_ge key h, if_neg (by rw [decide_eq_false hn]; exact Bool.false_ne_true)]
  rfl
theorem put_nil {x : T} : o.put key x [] = [x] := rfl
theorem mem_put {x y : T} : ∀ {l : List T}, y ∈ o.put key x l → y = x ∨ y ∈ l
  | [], h => by
    rw [o.put_nil key] at h
    exact .inl (List.mem_singleton.1 h)
  | p :: l, h => by
    cases h0 : o.lt (key p) (key x) with
    | true =>
      rw [o.put_lt key h0] at h
      rcases List.mem_cons.1 h with h | h
      · exact .inr (List.mem_cons.2 (.inl h))
      · rcases mem_put h with h | h
        · exact .inl h
        · exact .inr (List.mem_cons.2 (.inr h))
    | false =>
      by_cases hk : key p = key x
      · rw [o.put_eq key hk] at h
        rcases List.mem_cons.1 h with h | h
        · exact .inl h
        · exact .inr (List.mem_cons.2 (.inr h))
      · rw [o.put_gt key h0 hk] at h
        rcases List.mem_cons.1 h with h | h
        · exact .inl h
        · exact .inr h
theorem put_srt {x : T} : ∀ {l : List T}, o.Srt key l → o.Srt key (o.put key x l)
  | [], _ => by
    rw [o.put_nil key]
    exact List.pairwise_singleton _ _
  | p :: l, hs => by
    have hc := List.pairwise_cons.1 hs
    cases h0 : o.lt (key p) (key x) with
    | true =>
      rw [o.put_lt key h0]
      refine List.pairwise_cons.2 ⟨fun y hy => ?_, put_srt hc.2⟩
      rcases o.mem_put key hy with rfl | hy
      · exact h0
      · exact hc.1 y hy
    | false =>
      by_cases hk : key p = key x
      · rw [o.put_eq key hk]
        exact List.pairwise_cons.2 ⟨fun y hy => hk ▸ hc.1 y hy, hc.2⟩
      · rw [o.put_gt key h0 hk]
        have hx : o.lt (key x) (key p) = true := by
          cases h1 : o.lt (key x) (key p) with
          | true => rfl
          | false => exact absurd (o.tri h0 h1) hk
        refine List.pairwise_cons.2 ⟨fun y hy => ?_, hs⟩
        rcases List.mem_cons.1 hy with rfl | hy
        · exact hx
        · exact o.tr hx (hc.1 y hy)
def putR (x : T) : Bool → List T → List T
  | d, [] => if d then [] else [x]
  | d, p :: l => (if !o.lt (key p) (key x) && !d then [x] else []) ++ ((if key p = key x then [] else [p]) ++ putR x (d || !o.lt (key p) (key x)) l)
theorem putR_done {x : T} : ∀ {l : List T}, (∀ y ∈ l, key y ≠ key x) → o.putR key x true l = l
  | [], _ => rfl
  | p :: l, h => by
    have hp := h p (List.mem_cons.2 (.inl rfl))
    rw [putR, Bool.true_or, if_neg (by simp), if_neg hp, putR_done fun y hy => h y (List.mem_cons.2 (.inr hy))]
    rfl
theorem putR_eq {x : T} : ∀ {l : List T}, o.Srt key l → o.putR key x false l = o.put key x l
  | [], _ => rfl
  | p :: l, hs => by
    have hc := List.pairwise_cons.1 hs
    rw [putR, Bool.false_or]
    cases h0 : o.lt (key p) (key x) with
    | true =>
      have hn : key p ≠ key x := fun h => by rw [h, o.irr] at h0; cases h0
      rw [o.put_lt key h0, if_neg hn, if_neg (by simp), Bool.not_true, putR_eq hc.2]
      rfl
    | false =>
      have hb : ∀ y ∈ l, key y ≠ key x := fun y hy h => by
        have := hc.1 y hy
        rw [h, h0] at this
        cases this
      rw [Bool.not_false, o.putR_done key hb, if_pos (by simp)]
      by_cases hk : key p = key x
      · rw [o.put_eq key hk, if_pos hk]
        rfl
      · rw [o.put_gt key h0 hk, if_neg hk]
        rfl
theorem cut_lt {k : K} {p : T} {l : List T} (h : o.lt (key p) k = true) : o.cut key k (p :: l) = p :: o.cut key k l := by
  unfold cut
  rw [o.found_lt key h, o.rank_lt key h]
  split
  · rfl
  · rfl
theorem filter_all {k : K} : ∀ {l : List T}, (∀ y ∈ l, key y ≠ k) → l.filter (fun y => decide (key y ≠ k)) = l := fun h => List.filter_eq_self.2 fun y hy => decide_eq_true (h y hy)
theorem cut_eq {k : K} : ∀ {l : List T}, o.Srt key l → l.filter (fun y => decide (key y ≠ k)) = o.cut key k l
  | [], _ => rfl
  | p :: l, hs => by
    have hc := List.pairwise_cons.1 hs
    cases h0 : o.lt (key p) k with
    | true =>
      have hn : key p ≠ k := fun h => by rw [h, o.irr] at h0; cases h0
      rw [o.cut_lt key h0, List.filter_cons, if_pos (decide_eq_true hn), cut_eq hc.2]
    | false =>
      have hb : ∀ y ∈ l, key y ≠ k := fun y hy h => by
        have := hc.1 y hy
        rw [h, h0] at this
        cases this
      unfold cut
      rw [o.found_ge key h0, o.rank_ge key h0, List.filter_cons, filter_all key hb]
      by_cases hk : key p = k
      · rw [if_neg (by simp [hk]), if_pos (by simp [hk])]
        rfl
      · rw [if_pos (by simp [hk]), if_neg (by simp [hk])]
theorem cut_srt {k : K} {l : List T} (hs : o.Srt key l) : o.Srt key (o.cut key k l) := by
  rw [← o.cut_eq key hs]
  exact hs.filter _
def get (k : K) (l : List T) : Option T := if o.found key k l then l[o.rank key k l]? else none
end SO
section
open Go.RowKit
variable {P : Program} {t : TypeId} {x y : Operand}
theorem bin_gts {s u : ByteArray} : BinR P .gtr t x y (.string s) (.string u) (.bool (Op.bytesLess u.data.toList s.data.toList)) := fun w => by
  show ((eqGuard .gtr t x y (.string s) (.string u) >>= fun _ => Op.stringOp .gtr s u : Sem Value)).run P w = _
  simp [eqGuard, Op.stringOp, ByteArray.toList_eq]
  cases h1 : Op.bytesLess s.data.toList u.data.toList with
  | true =>
    have h2 : Op.bytesLess u.data.toList s.data.toList = false := soStr.asym (a := s) (b := u) h1
    simp [h2]
  | false =>
    cases h2 : Op.bytesLess u.data.toList s.data.toList with
    | true =>
      have : ¬ s.data = u.data := fun e => by rw [e, less_irr] at h2; cases h2
      simp [this]
    | false =>
      have : s.data = u.data := Array.toList_inj.1 (less_tri h1 h2)
      simp [this]
end
def cmpI (a b : Int) : Int := if a < b then -1 else if a > b then 1 else 0
def cmpS (a b : ByteArray) : Int := if soStr.lt a b then -1 else if soStr.lt b a then 1 else 0
end Go.Wk
