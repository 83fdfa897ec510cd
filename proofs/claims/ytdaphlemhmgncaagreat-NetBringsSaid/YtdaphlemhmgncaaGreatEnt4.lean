/- Plain facts of the entries. -/
import Derived.Test.YtdaphlemhmgncaaGreatEnt3
set_option linter.unusedVariables false
set_option linter.unusedSimpArgs false
namespace Go.Wk
open Go Cod
namespace Cod
/-! ### What was read stays as it was read, whatever stands behind it -/
def St {α : Type} (p : S → α × S) : Prop := (∀ b, (p (b, true)).2.2 = true) ∧ ∀ b y r, p (b, false) = (y, (r, false)) → ∀ t, p (b ++ t, false) = (y, (r ++ t, false))
end Cod
namespace Ent
end Ent
end Go.Wk
namespace Go.Wk.Ent
open Cod
end Go.Wk.Ent
namespace Go.Wk.Ent
open Cod
def msgQ10 (k1 : Int) (k2 : Int) (k3 : Int) (k4 : Int) (k5 : Int) (k6 : Int) (k7 : Int) (k8 : Int) (k9 : Bool) (k10 : Int) (s : S) : Msg × S := if k1 = 5 then ((⟨k1, k2, k3, k4, k5, k6, k7, k8, k9, k10, (entsL 16 s).1, ⟨0, 0, ⟨[], []⟩, []⟩⟩ : Msg), (entsL 16 s).2) else if k1 = 7 then ((⟨k1, k2, k3, k4, k5, k6, k7, k8, k9, k10, [], (snapP s).1⟩ : Msg), (snapP s).2) else ((⟨k1, k2, k3, k4, k5, k6, k7, k8, k9, k10, [], ⟨0, 0, ⟨[], []⟩, []⟩⟩ : Msg), s)
def msgQ9 (k1 : Int) (k2 : Int) (k3 : Int) (k4 : Int) (k5 : Int) (k6 : Int) (k7 : Int) (k8 : Int) (k9 : Bool) (s : S) : Msg × S := msgQ10 k1 k2 k3 k4 k5 k6 k7 k8 k9 (getI s).1 (getI s).2
def msgQ8 (k1 : Int) (k2 : Int) (k3 : Int) (k4 : Int) (k5 : Int) (k6 : Int) (k7 : Int) (k8 : Int) (s : S) : Msg × S := msgQ9 k1 k2 k3 k4 k5 k6 k7 k8 (getB s).1 (getB s).2
def msgQ7 (k1 : Int) (k2 : Int) (k3 : Int) (k4 : Int) (k5 : Int) (k6 : Int) (k7 : Int) (s : S) : Msg × S := msgQ8 k1 k2 k3 k4 k5 k6 k7 (getI s).1 (getI s).2
def msgQ6 (k1 : Int) (k2 : Int) (k3 : Int) (k4 : Int) (k5 : Int) (k6 : Int) (s : S) : Msg × S := msgQ7 k1 k2 k3 k4 k5 k6 (getI s).1 (getI s).2
def msgQ5 (k1 : Int) (k2 : Int) (k3 : Int) (k4 : Int) (k5 : Int) (s : S) : Msg × S := msgQ6 k1 k2 k3 k4 k5 (getI s).1 (getI s).2
def msgQ4 (k1 : Int) (k2 : Int) (k3 : Int) (k4 : Int) (s : S) : Msg × S := msgQ5 k1 k2 k3 k4 (getI s).1 (getI s).2
def msgQ3 (k1 : Int) (k2 : Int) (k3 : Int) (s : S) : Msg × S := msgQ4 k1 k2 k3 (getI s).1 (getI s).2
def msgQ2 (k1 : Int) (k2 : Int) (s : S) : Msg × S := msgQ3 k1 k2 (getI s).1 (getI s).2
def msgQ1 (k1 : Int) (s : S) : Msg × S := msgQ2 k1 (getI s).1 (getI s).2
def msgQ0  (s : S) : Msg × S := msgQ1  (getI s).1 (getI s).2
theorem msgQ (s : S) : msgP s = msgQ0 s := rfl
end Go.Wk.Ent
namespace Go.Wk.Ent
open Cod
theorem empty_nil {s : Snap} (h : emptyS s = true) : s = ⟨0, 0, ⟨[], []⟩, []⟩ := by
  obtain ⟨i, t, c, d⟩ := s
  unfold emptyS at h
  simp only [Bool.and_eq_true, decide_eq_true_eq] at h
  rw [h.1, h.2.1, none_nil h.2.2.1, List.eq_nil_of_length_eq_zero h.2.2.2]
theorem okEnts_good {ix te : Int} : ∀ {l : List Ent} {i : Int}, okEnts ix te i l = true → ∀ e ∈ l, good e = true
  | [], _, _, e, he => nomatch he
  | x :: l, i, h, e, he => by
    unfold okEnts at h
    simp only [Bool.and_eq_true] at h
    rcases List.mem_cons.1 he with rfl | he
    · exact h.1
    · exact okEnts_good h.2.2.2 e he
def wholes (l : List Ent) : Prop := ∀ e ∈ l, sane e
theorem entsP_enc : ∀ (l : List Ent) (r : List UInt8), wholes l → (∀ e ∈ l, good e = true) → entsP l.length (entsB l ++ r, false) = (l, (r, false))
  | [], r, _, _ => by simp [entsB, entsP]
  | x :: l, r, h, g => by
    have e : entsB (x :: l) ++ r = entB x ++ (entsB l ++ r) := by simp [entsB]
    rw [e, List.length_cons]
    unfold entsP
    simp only [Bool.false_eq_true, if_false]
    rw [entP_enc (h x (List.mem_cons_self ..)) (g x (List.mem_cons_self ..))]
    simp only
    rw [entsP_enc l r (fun y hy => h y (List.mem_cons_of_mem _ hy)) (fun y hy => g y (List.mem_cons_of_mem _ hy))]
theorem entsL_enc {k : Int} {l : List Ent} {r : List UInt8} (hk : (l.length : Int) ≤ k) (hl : l.length < 18446744073709551616) (h : wholes l) (g : ∀ e ∈ l, good e = true) : entsL k (enc l.length ++ (entsB l ++ r), false) = (l, (r, false)) := by
  have h1 : getC k (enc l.length ++ (entsB l ++ r), false) = (l.length, (entsB l ++ r, false)) := by
    have h2 := getN_enc hl (entsB l ++ r)
    unfold getN at h2
    simp only at h2
    unfold getC cnt
    simp only
    rw [h2, if_neg (by simp only; omega)]
  unfold entsL
  rw [h1]
  exact entsP_enc l r h g
theorem nums8 (a b c d e f g h : Int) (r : List UInt8) : numsB [a, b, c, d, e, f, g, h] ++ r = enc (zig a) ++ (enc (zig b) ++ (enc (zig c) ++ (enc (zig d) ++ (enc (zig e) ++ (enc (zig f) ++ (enc (zig g) ++ (enc (zig h) ++ r))))))) := by simp [numsB]
def saneM (m : Msg) : Prop := (rng m.kind ∧ rng m.frm ∧ rng m.to ∧ rng m.term ∧ rng m.idx ∧ rng m.lterm ∧ rng m.commit ∧ rng m.round ∧ rng m.hint) ∧ wholes m.ents ∧ rng m.snap.idx ∧ rng m.snap.term ∧ m.snap.conf.vot.length ≤ 100000 ∧ m.snap.conf.lea.length ≤ 100000 ∧ (∀ x ∈ m.snap.conf.vot, rng x) ∧ (∀ x ∈ m.snap.conf.lea, rng x) ∧ m.snap.data.length ≤ 100000
theorem msgQ_enc {k1 k2 k3 k4 k5 k6 k7 k8 k10 : Int} {k9 : Bool} (h : rng k1 ∧ rng k2 ∧ rng k3 ∧ rng k4 ∧ rng k5 ∧ rng k6 ∧ rng k7 ∧ rng k8 ∧ rng k10) (r : List UInt8) : msgP (numsB [k1, k2, k3, k4, k5, k6, k7, k8] ++ ((if k9 then 84 else 70) :: (enc (zig k10) ++ r)), false) = msgQ10 k1 k2 k3 k4 k5 k6 k7 k8 k9 k10 (r, false) := by
  obtain ⟨h1, h2, h3, h4, h5, h6, h7, h8, h10⟩ := h
  rw [msgQ, nums8]
  unfold msgQ0
  rw [getI_enc h1]
  simp only
  unfold msgQ1
  rw [getI_enc h2]
  simp only
  unfold msgQ2
  rw [getI_enc h3]
  simp only
  unfold msgQ3
  rw [getI_enc h4]
  simp only
  unfold msgQ4
  rw [getI_enc h5]
  simp only
  unfold msgQ5
  rw [getI_enc h6]
  simp only
  unfold msgQ6
  rw [getI_enc h7]
  simp only
  unfold msgQ7
  rw [getI_enc h8]
  simp only
  unfold msgQ8
  rw [getB_enc]
  simp only
  unfold msgQ9
  rw [getI_enc h10]
theorem goodMsg_parts {m : Msg} (h : goodMsg m = true) : m.ents.length ≤ 16 ∧ (m.ents.length > 0 → m.kind = 5) ∧ (∀ e ∈ m.ents, good e = true) ∧ (if m.kind = 7 then goodSnap m.snap else emptyS m.snap) = true := by
  unfold goodMsg at h
  split at h
  · cases h
  · rename_i hD
    rw [Bool.and_eq_true] at h
    refine ⟨by omega, fun h0 => Decidable.byContradiction fun hk => hD (by omega), okEnts_good h.1, h.2⟩
theorem msgP_enc {m : Msg} (hs : saneM m) (hg : goodMsg m = true) (r : List UInt8) : msgP (msgB m ++ r, false) = (m, (r, false)) := by
  obtain ⟨hr, hw, hi, ht, hv, hl, hvr, hlr, hd⟩ := hs
  obtain ⟨g1, g2, g3, g4⟩ := goodMsg_parts hg
  obtain ⟨k1, k2, k3, k4, k5, k6, k7, k8, k9, k10, es, sn⟩ := m
  simp only at hr hw hi ht hv hl hvr hlr hd g1 g2 g3 g4
  have e : msgB ⟨k1, k2, k3, k4, k5, k6, k7, k8, k9, k10, es, sn⟩ ++ r = numsB [k1, k2, k3, k4, k5, k6, k7, k8] ++ ((if k9 then 84 else 70) :: (enc (zig k10) ++ ((if k1 = 5 then enc es.length ++ entsB es else if k1 = 7 then snapB sn else []) ++ r))) := by
    simp [msgB, numsB]
  rw [e, msgQ_enc hr]
  unfold msgQ10
  by_cases h5 : k1 = 5
  · rw [if_pos h5, if_pos h5, List.append_assoc, entsL_enc (by omega) (by omega) hw g3]
    rw [if_neg (by omega)] at g4
    rw [empty_nil g4]
  · have hes : es = [] := List.eq_nil_of_length_eq_zero (by
      by_cases h0 : es.length > 0
      · exact absurd (g2 h0) h5
      · omega)
    rw [if_neg h5, if_neg h5, hes]
    by_cases h7 : k1 = 7
    · rw [if_pos h7, if_pos h7, snapP_enc hi ht hv hl hvr hlr hd]
    · rw [if_neg h7, if_neg h7]
      rw [if_neg h7] at g4
      rw [empty_nil g4]
      rfl
theorem readM_enc {m : Msg} (hs : saneM m) (hg : goodMsg m = true) : readM (msgB m) = (m, 0) := by
  have h := msgP_enc hs hg []
  rw [List.append_nil] at h
  exact (readM_of h).trans (toldM_yes rend_nil hg)
theorem msg_len {m : Msg} (h : few m.ents m.snap = true) : (msgB m).length ≤ 90000 ∧ 10 ≤ (msgB m).length := by
  have hp := few_parts h
  have h8 := nums_len [m.kind, m.frm, m.to, m.term, m.idx, m.lterm, m.commit, m.round]
  have h1 := nums_len [m.hint]
  have he := entsB_weight m.ents
  have hc := Cod.enc_le9 m.ents.length
  have hs := nums_len [m.snap.idx, m.snap.term]
  have hcf := conf_len m.snap.conf
  have hdl := Cod.enc_le9 m.snap.data.length
  have hf := wsum_nonneg m.ents
  have a1 := Cod.enc_length (zig m.kind)
  have a2 := Cod.enc_length (zig m.frm)
  have a3 := Cod.enc_length (zig m.to)
  have a4 := Cod.enc_length (zig m.term)
  have a5 := Cod.enc_length (zig m.idx)
  have a6 := Cod.enc_length (zig m.lterm)
  have a7 := Cod.enc_length (zig m.commit)
  have a8 := Cod.enc_length (zig m.round)
  have a9 := Cod.enc_length (zig m.hint)
  have hge : 10 ≤ (msgB m).length := by
    unfold msgB
    simp only [numsB, List.length_append, List.flatMap_cons, List.flatMap_nil, List.length_cons, List.length_nil]
    omega
  refine ⟨?_, hge⟩
  simp only [List.length_cons, List.length_nil] at h8 h1 hs
  unfold few fewS at h
  rw [decide_eq_true_eq] at h
  unfold msgB
  simp only [List.length_append, List.length_cons, List.length_nil]
  split
  · simp only [List.length_append]; omega
  · split
    · unfold snapB; simp only [List.length_append]; omega
    · simp only [List.length_nil]; omega
end Go.Wk.Ent
namespace Go.Wk.Ent
open Cod
theorem wholes_of {l : List Ent} (h : sanes l) (hw : wsum l ≤ 400) : wholes l := by
  intro e he
  obtain ⟨i, hi⟩ := List.getElem?_of_mem he
  have hz := weight_at hi hw
  obtain ⟨a, b, c, d, v, l⟩ := h e he
  unfold weight at hz
  exact ⟨a, b, c, d, by omega, by omega, by omega, v, l⟩
theorem rowRep_sanes {ok : Nat → Prop} {w : World} : ∀ {l : List Ent} {vals : List Value}, rowRep kEnt ok w l vals → sanes l
  | [], _, _ => fun x hx => nomatch hx
  | y :: l, _, hr => by
    obtain ⟨cs', rest, rfl, h1, h2⟩ := hr
    intro x hx
    rcases List.mem_cons.1 hx with rfl | hx
    · obtain ⟨hI, yy, _, hf⟩ := open_Ent.out h1
      exact ⟨hI.1, hI.2.1, hI.2.2.1, ⟨hI.2.2.2.1, hI.2.2.2.2.1, hI.2.2.2.2.2.1, hI.2.2.2.2.2.2.2.2.2.2.1⟩, rows_rng (hf _ (List.mem_cons_self ..)).2, rows_rng (hf _ (List.mem_cons_of_mem _ (List.mem_cons_self ..))).2⟩
    · exact rowRep_sanes h2 x hx
theorem rows_sanes {ok : Nat → Prop} {w : World} {l : List Ent} {cs : List Value} (h : kEnt.sl.rep ok w l cs) : sanes l := by
  obtain ⟨a, c, _, _, _, _, hp⟩ := h
  cases l with
  | nil => exact fun x hx => nomatch hx
  | cons y l =>
    obtain ⟨b, o, vals, _, _, hr, _⟩ := hp (Nat.succ_pos _)
    exact rowRep_sanes hr
end Go.Wk.Ent
