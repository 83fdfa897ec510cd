/- Plain facts of the entries. -/
import Derived.Test.YtdaphlemhmgncaaGreatEnt
set_option linter.unusedVariables false
set_option linter.unusedSimpArgs false
namespace Go.Wk
open Go Cod
namespace Cmd
theorem parse_bytesL {c : Cmd} (hw : whole c) (hs : c.key.size + c.old.size + c.val.size + c.til.size ≤ 100000) (r : List UInt8) : parse (bytes c ++ r) = (c, (r, false)) := by
  have e : bytes c ++ r = enc (zig c.kind) ++ (enc (zig c.sess) ++ (enc (zig c.seq) ++ (enc (zig c.lim) ++ (enc c.key.size ++ (c.key.data.toList ++ (enc c.old.size ++ (c.old.data.toList ++ (enc c.val.size ++ (c.val.data.toList ++ (enc c.til.size ++ (c.til.data.toList ++ r))))))))))) := by simp [bytes]
  rw [e]
  unfold parse
  simp only
  rw [getI_enc hw.1]
  simp only
  rw [getI_enc hw.2.1]
  simp only
  rw [getI_enc hw.2.2.1]
  simp only
  rw [getI_enc hw.2.2.2]
  simp only
  rw [getT_enc (by omega)]
  simp only
  rw [getT_enc (by omega)]
  simp only
  rw [getT_enc (by omega)]
  simp only
  rw [getT_enc (by omega)]
theorem read_bytesL {c : Cmd} (hw : whole c) (hs : c.key.size + c.old.size + c.val.size + c.til.size ≤ 100000) (hg : good c = true) : read (bytes c) = (c, 0) := by
  have h := parse_bytesL hw hs []
  rw [List.append_nil] at h
  exact read_good h rfl hg
end Cmd
namespace Ent
/-! ### Entries lead back -/
def rng (x : Int) : Prop := -9223372036854775808 ≤ x ∧ x ≤ 9223372036854775807
theorem nums_cons (x : Int) (l : List Int) : numsB (x :: l) = enc (zig x) ++ numsB l := by simp [numsB]
theorem numsP_enc : ∀ (l : List Int) (r : List UInt8), (∀ x ∈ l, rng x) → numsP l.length (numsB l ++ r, false) = (l, (r, false))
  | [], r, _ => by simp [numsB, numsP]
  | x :: l, r, h => by
    rw [nums_cons, List.append_assoc, List.length_cons]
    unfold numsP
    simp only [Bool.false_eq_true, if_false]
    rw [getI_enc (h x (List.mem_cons_self ..))]
    simp only
    rw [numsP_enc l r (fun y hy => h y (List.mem_cons_of_mem _ hy))]
theorem listP_enc {k : Int} {l : List Int} {r : List UInt8} (hk : (l.length : Int) ≤ k) (hl : l.length < 18446744073709551616) (h : ∀ x ∈ l, rng x) : listP k (listB l ++ r, false) = (l, (r, false)) := by
  have e : listB l ++ r = enc l.length ++ (numsB l ++ r) := by simp [listB]
  have h1 : getC k (listB l ++ r, false) = (l.length, (numsB l ++ r, false)) := by
    rw [e]
    have h2 := getN_enc hl (numsB l ++ r)
    unfold getN at h2
    simp only at h2
    unfold getC cnt
    simp only
    rw [h2, if_neg (by simp only; omega)]
  unfold listP
  rw [h1]
  exact numsP_enc l r h
theorem confP_enc {c : Conf} {r : List UInt8} (h1 : c.vot.length ≤ 100000) (h2 : c.lea.length ≤ 100000) (h3 : ∀ x ∈ c.vot, rng x) (h4 : ∀ x ∈ c.lea, rng x) : confP (confB c ++ r, false) = (c, (r, false)) := by
  have e : confB c ++ r = listB c.vot ++ (listB c.lea ++ r) := by simp [confB]
  have e1 : listP 1000000 (confB c ++ r, false) = (c.vot, (listB c.lea ++ r, false)) := by
    rw [e]
    exact listP_enc (by omega) (by omega) h3
  have e2 : listP 1000000 (listB c.lea ++ r, false) = (c.lea, (r, false)) := listP_enc (by omega) (by omega) h4
  exact confP_of e1 e2
theorem nums3 (a b c : Int) : numsB [a, b, c] = enc (zig a) ++ (enc (zig b) ++ enc (zig c)) := by simp [numsB]
theorem getI3 {a b c : Int} (ha : rng a) (hb : rng b) (hc : rng c) (r : List UInt8) : getI (numsB [a, b, c] ++ r, false) = (a, (enc (zig b) ++ (enc (zig c) ++ r), false)) ∧ getI (enc (zig b) ++ (enc (zig c) ++ r), false) = (b, (enc (zig c) ++ r, false)) ∧ getI (enc (zig c) ++ r, false) = (c, (r, false)) := by
  refine ⟨?_, getI_enc hb _, getI_enc hc _⟩
  rw [nums3, List.append_assoc, List.append_assoc]
  exact getI_enc ha _
def sane (e : Ent) : Prop := rng e.idx ∧ rng e.term ∧ rng e.kind ∧ Cmd.whole e.cmd ∧ e.cmd.key.size + e.cmd.old.size + e.cmd.val.size + e.cmd.til.size ≤ 100000 ∧ e.conf.vot.length ≤ 100000 ∧ e.conf.lea.length ≤ 100000 ∧ (∀ x ∈ e.conf.vot, rng x) ∧ (∀ x ∈ e.conf.lea, rng x)
theorem none_nil {c : Conf} (h : none c = true) : c = ⟨[], []⟩ := by
  obtain ⟨v, l⟩ := c
  unfold none at h
  simp only [decide_eq_true_eq] at h
  have h1 : v = [] := List.eq_nil_of_length_eq_zero (by omega)
  have h2 : l = [] := List.eq_nil_of_length_eq_zero (by omega)
  rw [h1, h2]
theorem entP_enc {e : Ent} (hs : sane e) (hg : good e = true) (r : List UInt8) : entP (entB e ++ r, false) = (e, (r, false)) := by
  obtain ⟨hi, ht, hk, hw, hz, hv, hl, hvr, hlr⟩ := hs
  obtain ⟨ix, te, ki, cmd, conf⟩ := e
  simp only at hi ht hk hw hz hv hl hvr hlr
  unfold good at hg
  simp only at hg
  by_cases h0 : ix < 1 ∨ te < 1
  · rw [if_pos h0] at hg; cases hg
  rw [if_neg h0] at hg
  unfold entB
  simp only
  by_cases h1 : ki = 1
  · rw [if_pos h1] at hg
    simp only [Bool.and_eq_true, decide_eq_true_eq] at hg
    rw [if_neg (by omega), if_neg (by omega), List.append_nil]
    obtain ⟨g1, g2, g3⟩ := getI3 hi ht hk r
    unfold entP
    simp only
    rw [g1]
    simp only
    rw [g2]
    simp only
    rw [g3]
    simp only
    rw [if_neg (by omega), if_neg (by omega), hg.1, none_nil hg.2]
  rw [if_neg h1] at hg
  by_cases h2 : ki = 2
  · rw [if_pos h2] at hg
    simp only [Bool.and_eq_true] at hg
    rw [if_pos h2]
    have ea : numsB [ix, te, ki] ++ (enc (Cmd.bytes cmd).length ++ Cmd.bytes cmd) ++ r = numsB [ix, te, ki] ++ (enc (Cmd.bytes cmd).length ++ (Cmd.bytes cmd ++ r)) := by simp
    rw [ea]
    obtain ⟨g1, g2, g3⟩ := getI3 hi ht hk (enc (Cmd.bytes cmd).length ++ (Cmd.bytes cmd ++ r))
    have hbl := Cmd.bytes_le (c := cmd)
    have g4 : getT (enc (Cmd.bytes cmd).length ++ (Cmd.bytes cmd ++ r), false) = (⟨(Cmd.bytes cmd).toArray⟩, (r, false)) := by
      have := getT_enc (s := ⟨(Cmd.bytes cmd).toArray⟩) (by rw [size_mk]; omega) r
      rw [size_mk] at this
      exact this
    unfold entP
    simp only
    rw [g1]
    simp only
    rw [g2]
    simp only
    rw [g3]
    simp only
    rw [if_pos h2, g4]
    simp only
    rw [Cmd.read_bytesL hw hz hg.2, none_nil hg.1]
    rfl
  rw [if_neg h2] at hg
  by_cases h3 : ki = 3
  · rw [if_pos h3] at hg
    simp only [Bool.and_eq_true, decide_eq_true_eq] at hg
    rw [if_neg h2, if_pos h3]
    have ea : numsB [ix, te, ki] ++ confB conf ++ r = numsB [ix, te, ki] ++ (confB conf ++ r) := by simp
    rw [ea]
    obtain ⟨g1, g2, g3⟩ := getI3 hi ht hk (confB conf ++ r)
    unfold entP
    simp only
    rw [g1]
    simp only
    rw [g2]
    simp only
    rw [g3]
    simp only
    rw [if_neg h2, if_pos h3, confP_enc hv hl hvr hlr, hg.1]
  · rw [if_neg h3] at hg
    cases hg
theorem rend_nil : rend [] false = true := rfl
theorem read_ok {b : List UInt8} (h : (read b).2 = 0) : good (read b).1 = true := by
  obtain ⟨e, he⟩ : ∃ e, entP (b, false) = e := ⟨_, rfl⟩
  rw [read_of he] at h ⊢
  by_cases h1 : rend e.2.1 e.2.2 = true
  · by_cases h2 : good e.1 = true
    · rw [told_yes h1 h2]
      exact h2
    · rw [told_no (.inr (by simpa using h2))] at h
      exact absurd h (by decide)
  · rw [told_no (.inl (by simpa using h1))] at h
    exact absurd h (by decide)
theorem snapP_enc {s : Snap} (h1 : rng s.idx) (h2 : rng s.term) (hv : s.conf.vot.length ≤ 100000) (hl : s.conf.lea.length ≤ 100000) (hvr : ∀ x ∈ s.conf.vot, rng x) (hlr : ∀ x ∈ s.conf.lea, rng x) (hd : s.data.length ≤ 100000) (r : List UInt8) : snapP (snapB s ++ r, false) = (s, (r, false)) := by
  have e : snapB s ++ r = enc (zig s.idx) ++ (enc (zig s.term) ++ (confB s.conf ++ (enc s.data.length ++ (s.data ++ r)))) := by simp [snapB, numsB]
  have g4 : getT (enc s.data.length ++ (s.data ++ r), false) = (⟨s.data.toArray⟩, (r, false)) := by
    have := getT_enc (s := ⟨s.data.toArray⟩) (by rw [size_mk]; omega) r
    rw [size_mk] at this
    exact this
  rw [e]
  unfold snapP
  simp only
  rw [getI_enc h1]
  simp only
  rw [getI_enc h2]
  simp only
  rw [confP_enc hv hl hvr hlr]
  simp only
  rw [g4]
theorem rowRep_rng {ok : Nat → Prop} {w : World} : ∀ {l : List Int} {vals : List Value}, rowRep kInt ok w l vals → ∀ x ∈ l, rng x
  | [], _, _, x, hx => nomatch hx
  | y :: l, _, hr, x, hx => by
    obtain ⟨cs', rest, rfl, h1, h2⟩ := hr
    rcases List.mem_cons.1 hx with rfl | hx
    · exact h1.2
    · exact rowRep_rng h2 x hx
theorem rows_rng {ok : Nat → Prop} {w : World} {l : List Int} {cs : List Value} (h : kInt.sl.rep ok w l cs) : ∀ x ∈ l, rng x := by
  obtain ⟨a, c, _, _, _, _, hp⟩ := h
  intro x hx
  obtain ⟨b, o, vals, _, _, hr, _⟩ := hp (List.length_pos_of_mem hx)
  exact rowRep_rng hr x hx
end Ent
end Go.Wk
namespace Go.Wk.Ent
open Cod
end Go.Wk.Ent
namespace Go.Wk.Ent
open Cod
end Go.Wk.Ent
