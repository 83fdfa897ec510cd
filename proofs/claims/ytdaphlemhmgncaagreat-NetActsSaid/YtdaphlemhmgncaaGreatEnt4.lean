/- Plain facts of the entries. -/
import Derived.Test.YtdaphlemhmgncaaGreatEnt3
set_option linter.unusedVariables false
set_option linter.unusedSimpArgs false
namespace Go.Wk
open Go Cod
namespace Cod
/-! ### What was read stays as it was read, whatever stands behind it -/
def St {α : Type} (p : S → α × S) : Prop := (∀ b, (p (b, true)).2.2 = true) ∧ ∀ b y r, p (b, false) = (y, (r, false)) → ∀ t, p (b ++ t, false) = (y, (r ++ t, false))
end Cod
namespace Ent
end Ent
end Go.Wk
namespace Go.Wk.Ent
open Cod
end Go.Wk.Ent
namespace Go.Wk.Ent
open Cod
def msgQ10 (k1 : Int) (k2 : Int) (k3 : Int) (k4 : Int) (k5 : Int) (k6 : Int) (k7 : Int) (k8 : Int) (k9 : Bool) (k10 : Int) (s : S) : Msg × S := if k1 = 5 then ((⟨k1, k2, k3, k4, k5, k6, k7, k8, k9, k10, (entsL 16 s).1, ⟨0, 0, ⟨[], []⟩, []⟩⟩ : Msg), (entsL 16 s).2) else if k1 = 7 then ((⟨k1, k2, k3, k4, k5, k6, k7, k8, k9, k10, [], (snapP s).1⟩ : Msg), (snapP s).2) else ((⟨k1, k2, k3, k4, k5, k6, k7, k8, k9, k10, [], ⟨0, 0, ⟨[], []⟩, []⟩⟩ : Msg), s)
def msgQ9 (k1 : Int) (k2 : Int) (k3 : Int) (k4 : Int) (k5 : Int) (k6 : Int) (k7 : Int) (k8 : Int) (k9 : Bool) (s : S) : Msg × S := msgQ10 k1 k2 k3 k4 k5 k6 k7 k8 k9 (getI s).1 (getI s).2
def msgQ8 (k1 : Int) (k2 : Int) (k3 : Int) (k4 : Int) (k5 : Int) (k6 : Int) (k7 : Int) (k8 : Int) (s : S) : Msg × S := msgQ9 k1 k2 k3 k4 k5 k6 k7 k8 (getB s).1 (getB s).2
def msgQ7 (k1 : Int) (k2 : Int) (k3 : Int) (k4 : Int) (k5 : Int) (k6 : Int) (k7 : Int) (s : S) : Msg × S := msgQ8 k1 k2 k3 k4 k5 k6 k7 (getI s).1 (getI s).2
def msgQ6 (k1 : Int) (k2 : Int) (k3 : Int) (k4 : Int) (k5 : Int) (k6 : Int) (s : S) : Msg × S := msgQ7 k1 k2 k3 k4 k5 k6 (getI s).1 (getI s).2
def msgQ5 (k1 : Int) (k2 : Int) (k3 : Int) (k4 : Int) (k5 : Int) (s : S) : Msg × S := msgQ6 k1 k2 k3 k4 k5 (getI s).1 (getI s).2
def msgQ4 (k1 : Int) (k2 : Int) (k3 : Int) (k4 : Int) (s : S) : Msg × S := msgQ5 k1 k2 k3 k4 (getI s).1 (getI s).2
def msgQ3 (k1 : Int) (k2 : Int) (k3 : Int) (s : S) : Msg × S := msgQ4 k1 k2 k3 (getI s).1 (getI s).2
def msgQ2 (k1 : Int) (k2 : Int) (s : S) : Msg × S := msgQ3 k1 k2 (getI s).1 (getI s).2
def msgQ1 (k1 : Int) (s : S) : Msg × S := msgQ2 k1 (getI s).1 (getI s).2
def msgQ0  (s : S) : Msg × S := msgQ1  (getI s).1 (getI s).2
end Go.Wk.Ent
namespace Go.Wk.Ent
open Cod
def wholes (l : List Ent) : Prop := ∀ e ∈ l, sane e
def saneM (m : Msg) : Prop := (rng m.kind ∧ rng m.frm ∧ rng m.to ∧ rng m.term ∧ rng m.idx ∧ rng m.lterm ∧ rng m.commit ∧ rng m.round ∧ rng m.hint) ∧ wholes m.ents ∧ rng m.snap.idx ∧ rng m.snap.term ∧ m.snap.conf.vot.length ≤ 100000 ∧ m.snap.conf.lea.length ≤ 100000 ∧ (∀ x ∈ m.snap.conf.vot, rng x) ∧ (∀ x ∈ m.snap.conf.lea, rng x) ∧ m.snap.data.length ≤ 100000
theorem msg_len {m : Msg} (h : few m.ents m.snap = true) : (msgB m).length ≤ 90000 ∧ 10 ≤ (msgB m).length := by
  have hp := few_parts h
  have h8 := nums_len [m.kind, m.frm, m.to, m.term, m.idx, m.lterm, m.commit, m.round]
  have h1 := nums_len [m.hint]
  have he := entsB_weight m.ents
  have hc := Cod.enc_le9 m.ents.length
  have hs := nums_len [m.snap.idx, m.snap.term]
  have hcf := conf_len m.snap.conf
  have hdl := Cod.enc_le9 m.snap.data.length
  have hf := wsum_nonneg m.ents
  have a1 := Cod.enc_length (zig m.kind)
  have a2 := Cod.enc_length (zig m.frm)
  have a3 := Cod.enc_length (zig m.to)
  have a4 := Cod.enc_length (zig m.term)
  have a5 := Cod.enc_length (zig m.idx)
  have a6 := Cod.enc_length (zig m.lterm)
  have a7 := Cod.enc_length (zig m.commit)
  have a8 := Cod.enc_length (zig m.round)
  have a9 := Cod.enc_length (zig m.hint)
  have hge : 10 ≤ (msgB m).length := by
    unfold msgB
    simp only [numsB, List.length_append, List.flatMap_cons, List.flatMap_nil, List.length_cons, List.length_nil]
    omega
  refine ⟨?_, hge⟩
  simp only [List.length_cons, List.length_nil] at h8 h1 hs
  unfold few fewS at h
  rw [decide_eq_true_eq] at h
  unfold msgB
  simp only [List.length_append, List.length_cons, List.length_nil]
  split
  · simp only [List.length_append]; omega
  · split
    · unfold snapB; simp only [List.length_append]; omega
    · simp only [List.length_nil]; omega
end Go.Wk.Ent
namespace Go.Wk.Ent
open Cod
theorem rowRep_sanes {ok : Nat → Prop} {w : World} : ∀ {l : List Ent} {vals : List Value}, rowRep kEnt ok w l vals → sanes l
  | [], _, _ => fun x hx => nomatch hx
  | y :: l, _, hr => by
    obtain ⟨cs', rest, rfl, h1, h2⟩ := hr
    intro x hx
    rcases List.mem_cons.1 hx with rfl | hx
    · obtain ⟨hI, yy, _, hf⟩ := open_Ent.out h1
      exact ⟨hI.1, hI.2.1, hI.2.2.1, ⟨hI.2.2.2.1, hI.2.2.2.2.1, hI.2.2.2.2.2.1, hI.2.2.2.2.2.2.2.2.2.2.1⟩, rows_rng (hf _ (List.mem_cons_self ..)).2, rows_rng (hf _ (List.mem_cons_of_mem _ (List.mem_cons_self ..))).2⟩
    · exact rowRep_sanes h2 x hx
theorem rows_sanes {ok : Nat → Prop} {w : World} {l : List Ent} {cs : List Value} (h : kEnt.sl.rep ok w l cs) : sanes l := by
  obtain ⟨a, c, _, _, _, _, hp⟩ := h
  cases l with
  | nil => exact fun x hx => nomatch hx
  | cons y l =>
    obtain ⟨b, o, vals, _, _, hr, _⟩ := hp (Nat.succ_pos _)
    exact rowRep_sanes hr
end Go.Wk.Ent
