/- Plain facts of the model. -/
import Derived.Test.YtlkdpglngomblaaMod5
set_option linter.unusedVariables false
set_option linter.unusedSimpArgs false
namespace Go.Wk
open Go
/-! ### What the model's laws say of states -/
namespace SO
variable {K T : Type} [DecidableEq K] (o : SO K) (key : T → K)
theorem get_is {k : K} {l : List T} (hs : o.Srt key l) : o.get key k l = l.find? (fun y => decide (key y = k)) := (o.find_eq key hs).symm
theorem get_cut {k : K} {l : List T} (hs : o.Srt key l) : o.get key k (o.cut key k l) = none := by
  rw [o.get_is key (o.cut_srt key hs), ← o.cut_eq key hs]
  refine List.find?_eq_none.2 fun y hy => ?_
  have := (List.mem_filter.1 hy).2
  simpa using this
end SO
namespace Mod
theorem first_sess {ss : List Sess} {z : Sess} (hs : soInt.Srt Sess.id ss) (hz : ss[0]? = some z) : sget z.id ss = some z := by
  have h1 := soInt.found_hit Sess.id hs hz rfl
  have h2 := soInt.rank_hit Sess.id hs hz rfl
  exact sget_yes h1 (by rw [h2]; exact hz)
theorem expires {ps : List Pair} {ss : List Sess} {ix : Int} {z : Sess} (hI : Inv ps ss) (hz : ss[0]? = some z) : apply ps ss ix ⟨2, z.id, 0, Cmd.empty, Cmd.empty, Cmd.empty, Cmd.empty, 0⟩ = (ps, scut z.id ss, err 0) ∧ (scut z.id ss).length + 1 = ss.length ∧ sget z.id (scut z.id ss) = none := by
  have hp := hI.ip z (List.mem_of_getElem? hz)
  have hg : Cmd.good ⟨2, z.id, 0, Cmd.empty, Cmd.empty, Cmd.empty, Cmd.empty, 0⟩ = true := by
    unfold Cmd.good
    rw [if_neg (show ¬ (2 : Int) = 1 by decide), if_pos rfl]
    simp [Cmd.eqv]
    omega
  have hx := first_sess hI.ss hz
  exact ⟨ap_end hg (show ¬ (2 : Int) = 1 by decide) hx rfl, soInt.cut_len_yes Sess.id (sget_found hx).1, soInt.get_cut Sess.id hI.ss⟩
theorem after_end {ps : List Pair} {ss : List Sess} {ix : Int} {c : Cmd} (hx : sget c.sess ss = none) (hk : ¬ c.kind ≤ 2) : apply ps ss ix c = (ps, ss, err 14) ∨ apply ps ss ix c = (ps, ss, err 2) := by
  cases hg : Cmd.good c with
  | false => exact .inr (ap_bad hg)
  | true => exact .inl (ap_none hg (by omega) hx)
/-! The document's example -/
def c0 : Cmd := ⟨1, 0, 0, ⟨#[]⟩, ⟨#[]⟩, ⟨#[]⟩, ⟨#[]⟩, 0⟩
def cp (sq : Int) (v : ByteArray) : Cmd := ⟨3, 1, sq, ⟨#[107]⟩, ⟨#[]⟩, v, ⟨#[]⟩, 0⟩
def ex1 : Out := apply [] [] 1 c0
def ex2 : Out := apply ex1.1 ex1.2.1 2 (cp 1 ⟨#[118]⟩)
def ex3 : Out := apply ex2.1 ex2.2.1 3 (cp 1 ⟨#[118]⟩)
def ex4 : Out := apply ex3.1 ex3.2.1 4 (cp 2 ⟨#[119]⟩)
theorem ex1_inv : Inv ex1.1 ex1.2.1 := Inv.nil.apply
theorem ex2_inv : Inv ex2.1 ex2.2.1 := ex1_inv.apply
theorem ex3_inv : Inv ex3.1 ex3.2.1 := ex2_inv.apply
theorem ex_ok : ex1.2.2.sess = 1 ∧ ex2.2.2.found = false ∧ ex2.2.2.err = 0 ∧ ex2.2.2 = ex3.2.2 ∧ ex4.2.2.found = true ∧ ex4.2.2.val = ⟨#[118]⟩ ∧ ex4.1 = [⟨⟨#[107]⟩, ⟨#[119]⟩⟩] := by decide +kernel
end Mod
end Go.Wk
