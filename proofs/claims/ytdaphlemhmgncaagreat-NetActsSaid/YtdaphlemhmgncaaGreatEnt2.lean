/- Plain facts of the entries. -/
import Derived.Test.YtdaphlemhmgncaaGreatEnt
set_option linter.unusedVariables false
set_option linter.unusedSimpArgs false
namespace Go.Wk
open Go Cod
namespace Cmd
end Cmd
namespace Ent
/-! ### Entries lead back -/
def rng (x : Int) : Prop := -9223372036854775808 ≤ x ∧ x ≤ 9223372036854775807
def sane (e : Ent) : Prop := rng e.idx ∧ rng e.term ∧ rng e.kind ∧ Cmd.whole e.cmd ∧ e.cmd.key.size + e.cmd.old.size + e.cmd.val.size + e.cmd.til.size ≤ 100000 ∧ e.conf.vot.length ≤ 100000 ∧ e.conf.lea.length ≤ 100000 ∧ (∀ x ∈ e.conf.vot, rng x) ∧ (∀ x ∈ e.conf.lea, rng x)
theorem read_ok {b : List UInt8} (h : (read b).2 = 0) : good (read b).1 = true := by
  obtain ⟨e, he⟩ : ∃ e, entP (b, false) = e := ⟨_, rfl⟩
  rw [read_of he] at h ⊢
  by_cases h1 : rend e.2.1 e.2.2 = true
  · by_cases h2 : good e.1 = true
    · rw [told_yes h1 h2]
      exact h2
    · rw [told_no (.inr (by simpa using h2))] at h
      exact absurd h (by decide)
  · rw [told_no (.inl (by simpa using h1))] at h
    exact absurd h (by decide)
theorem rowRep_rng {ok : Nat → Prop} {w : World} : ∀ {l : List Int} {vals : List Value}, rowRep kInt ok w l vals → ∀ x ∈ l, rng x
  | [], _, _, x, hx => nomatch hx
  | y :: l, _, hr, x, hx => by
    obtain ⟨cs', rest, rfl, h1, h2⟩ := hr
    rcases List.mem_cons.1 hx with rfl | hx
    · exact h1.2
    · exact rowRep_rng h2 x hx
theorem rows_rng {ok : Nat → Prop} {w : World} {l : List Int} {cs : List Value} (h : kInt.sl.rep ok w l cs) : ∀ x ∈ l, rng x := by
  obtain ⟨a, c, _, _, _, _, hp⟩ := h
  intro x hx
  obtain ⟨b, o, vals, _, _, hr, _⟩ := hp (List.length_pos_of_mem hx)
  exact rowRep_rng hr x hx
end Ent
end Go.Wk
namespace Go.Wk.Ent
open Cod
end Go.Wk.Ent
namespace Go.Wk.Ent
open Cod
end Go.Wk.Ent
