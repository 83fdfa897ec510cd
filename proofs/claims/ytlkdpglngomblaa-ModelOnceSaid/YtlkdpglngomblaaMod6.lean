/- Plain facts of the model. -/
import Derived.Test.YtlkdpglngomblaaMod5
set_option linter.unusedVariables false
set_option linter.unusedSimpArgs false
namespace Go.Wk
open Go
/-! ### What the model's laws say of states -/
namespace SO
variable {K T : Type} [DecidableEq K] (o : SO K) (key : T → K)
theorem get_is {k : K} {l : List T} (hs : o.Srt key l) : o.get key k l = l.find? (fun y => decide (key y = k)) := (o.find_eq key hs).symm
theorem get_put {x : T} : ∀ {l : List T}, o.Srt key l → o.get key (key x) (o.put key x l) = some x := by
  intro l hs
  rw [o.get_is key (o.put_srt key hs)]
  induction l with
  | nil => rw [o.put_nil key, List.find?_cons_of_pos (by simp)]
  | cons p l ih =>
    have hc := List.pairwise_cons.1 hs
    cases h0 : o.lt (key p) (key x) with
    | true =>
      have hn : key p ≠ key x := fun h => by rw [h, o.irr] at h0; cases h0
      rw [o.put_lt key h0, List.find?_cons_of_neg (by simpa using hn)]
      exact ih hc.2
    | false =>
      by_cases hk : key p = key x
      · rw [o.put_eq key hk, List.find?_cons_of_pos (by simp)]
      · rw [o.put_gt key h0 hk, List.find?_cons_of_pos (by simp)]
end SO
namespace Mod
theorem once {ps : List Pair} {ss : List Sess} {ix : Int} {c : Cmd} (hI : Inv ps ss) (h2 : ¬ (apply ps ss ix c).2.2.err = 2) (h14 : ¬ (apply ps ss ix c).2.2.err = 14) (h15 : ¬ (apply ps ss ix c).2.2.err = 15) (hk1 : ¬ c.kind = 1) (hk2 : ¬ c.kind = 2) :
    Cmd.good c = true ∧ ∃ x, sget c.sess (apply ps ss ix c).2.1 = some x ∧ x.seq = c.seq ∧ x.rep = (apply ps ss ix c).2.2 := by
  cases hg : Cmd.good c with
  | false => rw [ap_bad hg] at h2; exact absurd rfl h2
  | true =>
    refine ⟨rfl, ?_⟩
    cases hx : sget c.sess ss with
    | none => rw [ap_none hg hk1 hx] at h14; exact absurd rfl h14
    | some x =>
      by_cases h3 : c.seq < x.seq
      · rw [ap_old hg hk1 hx hk2 h3] at h15; exact absurd rfl h15
      · by_cases h4 : c.seq = x.seq
        · rw [ap_same hg hk1 hx hk2 h4]
          exact ⟨x, hx, h4.symm, rfl⟩
        · rw [ap_does hg hk1 hx hk2 h3 h4]
          exact ⟨⟨c.sess, c.seq, doesR ps c⟩, soInt.get_put Sess.id (x := ⟨c.sess, c.seq, doesR ps c⟩) hI.ss, rfl, rfl⟩
theorem again {ps : List Pair} {ss : List Sess} {ix : Int} {d : Cmd} {x : Sess} (hg : Cmd.good d = true) (hk : d.kind > 2) (hx : sget d.sess ss = some x) (he : x.seq = d.seq) : apply ps ss ix d = (ps, ss, x.rep) := ap_same hg (by omega) hx (by omega) he.symm
theorem elder {ps : List Pair} {ss : List Sess} {ix : Int} {d : Cmd} {x : Sess} (hg : Cmd.good d = true) (hk : d.kind > 2) (hx : sget d.sess ss = some x) (he : d.seq < x.seq) : (apply ps ss ix d).2.2.err = 15 := by
  rw [ap_old hg (by omega) hx (by omega) he]
  rfl
theorem good_kind {c : Cmd} (h : Cmd.good c = true) (h1 : ¬ c.kind = 1) (h2 : ¬ c.kind = 2) : c.kind > 2 := by
  rcases Cmd.kinds c.kind with h3 | h3 | h3 | h3 | h3 | h3 <;> try omega
  unfold Cmd.good at h
  rw [if_neg h1, if_neg h2] at h
  have : Cmd.fit c = false := by
    unfold Cmd.fit
    rw [if_neg h3.1, if_neg (by omega), if_neg h3.2.2.2.1, if_neg h3.2.2.2.2]
  rw [this] at h
  simp at h
/-! The document's example -/
def c0 : Cmd := ⟨1, 0, 0, ⟨#[]⟩, ⟨#[]⟩, ⟨#[]⟩, ⟨#[]⟩, 0⟩
def cp (sq : Int) (v : ByteArray) : Cmd := ⟨3, 1, sq, ⟨#[107]⟩, ⟨#[]⟩, v, ⟨#[]⟩, 0⟩
def ex1 : Out := apply [] [] 1 c0
def ex2 : Out := apply ex1.1 ex1.2.1 2 (cp 1 ⟨#[118]⟩)
def ex3 : Out := apply ex2.1 ex2.2.1 3 (cp 1 ⟨#[118]⟩)
def ex4 : Out := apply ex3.1 ex3.2.1 4 (cp 2 ⟨#[119]⟩)
theorem ex1_inv : Inv ex1.1 ex1.2.1 := Inv.nil.apply
theorem ex2_inv : Inv ex2.1 ex2.2.1 := ex1_inv.apply
theorem ex3_inv : Inv ex3.1 ex3.2.1 := ex2_inv.apply
theorem ex_ok : ex1.2.2.sess = 1 ∧ ex2.2.2.found = false ∧ ex2.2.2.err = 0 ∧ ex2.2.2 = ex3.2.2 ∧ ex4.2.2.found = true ∧ ex4.2.2.val = ⟨#[118]⟩ ∧ ex4.1 = [⟨⟨#[107]⟩, ⟨#[119]⟩⟩] := by decide +kernel
end Mod
end Go.Wk
