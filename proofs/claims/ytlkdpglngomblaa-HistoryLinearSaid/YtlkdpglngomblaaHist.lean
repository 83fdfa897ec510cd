/- Plain facts that the proof of this law leans on. -/
import Derived.Test.YtlkdpglngomblaaMod5
import Derived.Test.YtlkdpglngomblaaWk20
set_option linter.unusedVariables false
set_option linter.unusedSimpArgs false
section
namespace Go.Wk
open Go
/-! ### What the model's laws say of states -/
namespace SO
variable {K T : Type} [DecidableEq K] (o : SO K) (key : T → K)
end SO
namespace Mod
/-! The document's example -/
def c0 : Cmd := ⟨1, 0, 0, ⟨#[]⟩, ⟨#[]⟩, ⟨#[]⟩, ⟨#[]⟩, 0⟩
def cp (sq : Int) (v : ByteArray) : Cmd := ⟨3, 1, sq, ⟨#[107]⟩, ⟨#[]⟩, v, ⟨#[]⟩, 0⟩
def ex1 : Out := apply [] [] 1 c0
def ex2 : Out := apply ex1.1 ex1.2.1 2 (cp 1 ⟨#[118]⟩)
def ex3 : Out := apply ex2.1 ex2.2.1 3 (cp 1 ⟨#[118]⟩)
def ex4 : Out := apply ex3.1 ex3.2.1 4 (cp 2 ⟨#[119]⟩)
end Mod
end Go.Wk
end
section
namespace Go.Wk
open Go Go.RowKit
/-! ### Histories -/
namespace Hist
def state (log : List Ent) (i : Nat) : Mod.St := Mod.fold (log.take i)
def sts (log : List Ent) (m : Nat) : List StT := (List.range (m + 1)).map (state log)
theorem sts_len (log : List Ent) (m : Nat) : (sts log m).length = m + 1 := by simp [sts]
theorem sts_at {log : List Ent} {m j : Nat} {z : StT} (h : (sts log m)[j]? = some z) : z = state log j ∧ j ≤ m := by
  obtain ⟨h1, h2⟩ := List.getElem?_eq_some_iff.1 h
  rw [sts_len] at h1
  refine ⟨?_, by omega⟩
  rw [← h2]
  simp [sts]
theorem sts_next (log : List Ent) (m : Nat) : sts log (m + 1) = sts log m ++ [state log (m + 1)] := by
  unfold sts
  rw [List.range_succ, List.map_append]
  rfl
theorem state_inv (log : List Ent) (i : Nat) : Mod.Inv (state log i).1 (state log i).2 := Mod.Inv.fold
theorem state_next {log : List Ent} {i : Nat} {e : Ent} (h : log[i]? = some e) : state log (i + 1) = Mod.step (state log i) e := Mod.fold_take h
def before (a b : Op) : Bool := decide (0 < a.stop) && decide (a.stop < b.start)
def reply (log : List Ent) (x : Op) : Reply := if x.read = true then Mod.query (state log x.at_.toNat).1 x.cmd else (Mod.apply (state log (x.at_ - 1).toNat).1 (state log (x.at_ - 1).toNat).2 x.at_ x.cmd).2.2
def lateP (x y : Op) : Bool := decide (0 ≤ y.at_) && (before y x && (decide (x.at_ < y.at_) || (decide (y.at_ = x.at_) && !x.read)))
def late (ops : List Op) (x : Op) : Bool := decide (0 ≤ x.at_) && ops.any (lateP x)
def e1 (x : Op) : Bool := decide (0 < x.stop) && (decide (x.at_ < 0) || decide (x.stop < x.start))
def eRange (log : List Ent) (x : Op) : Bool := e1 x || (decide ((log.length : Int) < x.at_) || (!x.read && decide (x.at_ = 0)))
def eNone (log : List Ent) (x : Op) : Bool := (!x.read && decide (0 < x.at_)) && (match log[(x.at_ - 1).toNat]? with
  | some e => (!decide (e.kind = 2)) || (!decide (e.cmd = x.cmd))
  | none => false)
def eRep (log : List Ent) (x : Op) : Bool := decide (0 < x.stop) && !decide (reply log x = x.rep)
def one (log : List Ent) (ops : List Op) (x : Op) : Int := if eRange log x = true then 6 else if eNone log x = true then 4 else if eRep log x = true then 8 else if late ops x = true then 15 else 0
def okFrom : List Ent → Nat → Bool
  | [], _ => true
  | e :: l, i => decide (e.idx = (i : Int) + 1) && okFrom l (i + 1)
def bad (log : List Ent) (all : List Op) : List Op → Nat → Int × Int
  | [], _ => (0, 0)
  | x :: l, i => if one log all x = 0 then bad log all l (i + 1) else ((i : Int), one log all x)
def check (log : List Ent) (ops : List Op) : Int × Int := if okFrom log 0 = true then bad log ops ops 0 else (0, 2)
theorem okFrom_iff : ∀ {l : List Ent} {i : Nat}, okFrom l i = true ↔ ∀ (q : Nat) (e : Ent), l[q]? = some e → e.idx = (i : Int) + (q : Int) + 1
  | [], i => by simp [okFrom]
  | e :: l, i => by
    rw [okFrom, Bool.and_eq_true, decide_eq_true_eq, okFrom_iff]
    constructor
    · rintro ⟨h1, h2⟩ q x hx
      cases q with
      | zero => simp only [List.getElem?_cons_zero, Option.some.injEq] at hx; subst hx; omega
      | succ q => have := h2 q x (by simpa using hx); omega
    · intro h
      refine ⟨?_, fun q x hx => ?_⟩
      · have := h 0 e rfl; omega
      · have := h (q + 1) x (by simpa using hx); omega
theorem ok_no {log : List Ent} {i : Nat} {e : Ent} (h : log[i]? = some e) (hn : ¬ e.idx = (i : Int) + 1) : okFrom log 0 = false := by
  cases hk : okFrom log 0 with
  | false => rfl
  | true => have := okFrom_iff.1 hk i e h; omega
theorem ok_yes {log : List Ent} (h : ∀ (q : Nat) (e : Ent), q < log.length → log[q]? = some e → e.idx = (q : Int) + 1) : okFrom log 0 = true :=
  okFrom_iff.2 fun q e he => by have := h q e (List.getElem?_eq_some_iff.1 he).1 he; omega
theorem ok_next {log : List Ent} {i : Nat} {z : Ent} (hz : log[i]? = some z) (hk : z.idx = (i : Int) + 1) (h : ∀ (q : Nat) (x : Ent), q < i → log[q]? = some x → x.idx = (q : Int) + 1) : ∀ (q : Nat) (x : Ent), q < i + 1 → log[q]? = some x → x.idx = (q : Int) + 1 := by
  intro q x hq hx
  by_cases e : q = i
  · subst e
    rw [hz] at hx
    cases hx
    exact hk
  · exact h q x (by omega) hx
theorem bad_next {log : List Ent} {ops : List Op} {i : Nat} {z : Op} {R : Int × Int} (hz : ops[i]? = some z) (h : bad log ops (ops.drop i) i = R) (ho : one log ops z = 0) : bad log ops (ops.drop (i + 1)) (i + 1) = R := by
  rw [drop_at hz, bad, if_pos ho] at h
  exact h
theorem bad_is {log : List Ent} {ops : List Op} {i : Nat} {z : Op} {R : Int × Int} (hz : ops[i]? = some z) (h : bad log ops (ops.drop i) i = R) {e : Int} (ho : one log ops z = e) (he : e ≠ 0) : R = ((i : Int), e) := by
  rw [drop_at hz, bad, if_neg (by rw [ho]; exact he), ho] at h
  exact h.symm
theorem bad_end {log : List Ent} {ops : List Op} {R : Int × Int} (h : bad log ops (ops.drop ops.length) ops.length = R) : R = (0, 0) := by
  rw [List.drop_length] at h
  exact h.symm
theorem check_bad {log : List Ent} {ops : List Op} (h : okFrom log 0 = false) : check log ops = (0, 2) := by unfold check; rw [h]; rfl
theorem check_ok {log : List Ent} {ops : List Op} (h : okFrom log 0 = true) : check log ops = bad log ops ops 0 := by unfold check; rw [h]; rfl
section
variable {log : List Ent} {ops : List Op} {x : Op}
theorem one_6 (h : eRange log x = true) : one log ops x = 6 := by unfold one; rw [if_pos h]
theorem one_4 (h : eRange log x = false) (h2 : eNone log x = true) : one log ops x = 4 := by unfold one; rw [h, h2]; rfl
theorem one_8 (h : eRange log x = false) (h2 : eNone log x = false) (h3 : eRep log x = true) : one log ops x = 8 := by unfold one; rw [h, h2, h3]; rfl
theorem one_15 (h : eRange log x = false) (h2 : eNone log x = false) (h3 : eRep log x = false) (h4 : late ops x = true) : one log ops x = 15 := by unfold one; rw [h, h2, h3, h4]; rfl
theorem one_0 (h : eRange log x = false) (h2 : eNone log x = false) (h3 : eRep log x = false) (h4 : late ops x = false) : one log ops x = 0 := by unfold one; rw [h, h2, h3, h4]; rfl
theorem range_at (h : eRange log x = false) : x.at_ ≤ log.length ∧ (x.read = false → x.at_ ≠ 0) ∧ (0 < x.stop → 0 ≤ x.at_ ∧ x.start ≤ x.stop) := by
  unfold eRange e1 at h
  simp only [Bool.or_eq_false_iff, Bool.and_eq_false_iff, decide_eq_false_iff_not, Bool.not_eq_false'] at h
  obtain ⟨h1, h2, h3⟩ := h
  refine ⟨by omega, fun hr e => ?_, fun hs => ?_⟩
  · rcases h3 with h3 | h3
    · rw [hr] at h3; cases h3
    · exact h3 e
  · rcases h1 with h1 | ⟨h1, h4⟩
    · exact absurd hs h1
    · omega
theorem none_at {e : Ent} (hr : x.read = false) (ha : 0 < x.at_) (he : log[(x.at_ - 1).toNat]? = some e) : eNone log x = ((!decide (e.kind = 2)) || (!decide (e.cmd = x.cmd))) := by
  unfold eNone
  rw [he, hr, decide_eq_true ha]
  simp
theorem none_no (h : x.read = true ∨ ¬ 0 < x.at_) : eNone log x = false := by
  unfold eNone
  rcases h with h | h
  · rw [h]; simp
  · rw [decide_eq_false h]; simp
end
end Hist
end Go.Wk
namespace Go.Wk
open Go
theorem Cmd.eqv_dec (a b : Cmd) : Cmd.eqv a b = decide (a = b) := by
  obtain ⟨a1, a2, a3, a4, a5, a6, a7, a8⟩ := a
  obtain ⟨b1, b2, b3, b4, b5, b6, b7, b8⟩ := b
  unfold Cmd.eqv
  simp [Bool.decide_and]
theorem dec_iff {b : Bool} {p : Prop} [Decidable p] (h : p ↔ b = true) : decide p = b := by
  cases b with
  | true => exact decide_eq_true (h.2 rfl)
  | false => exact decide_eq_false fun hp => by cases h.1 hp
namespace Hist
theorem any_yes {ops : List Op} {p : Op → Bool} {i : Nat} {z : Op} (hz : ops[i]? = some z) (h : p z = true) : (0 : Int) ≤ (i : Int) ↔ ops.any p = true :=
  ⟨fun _ => List.any_eq_true.2 ⟨z, List.mem_of_getElem? hz, h⟩, fun _ => by omega⟩
theorem any_no {ops : List Op} {p : Op → Bool} (h : ∀ (q : Nat) (x : Op), q < ops.length → ops[q]? = some x → ¬ p x = true) : (0 : Int) ≤ -1 ↔ ops.any p = true :=
  ⟨fun h => absurd h (by decide), fun ha => by
    obtain ⟨x, hx, hp⟩ := List.any_eq_true.1 ha
    obtain ⟨i, h1, h2⟩ := List.getElem_of_mem hx
    exact absurd hp (h i x h1 (by rw [List.getElem?_eq_getElem h1, h2]))⟩
theorem any_next {ops : List Op} {p : Op → Bool} {i : Nat} {z : Op} (hz : ops[i]? = some z) (hk : ¬ p z = true) (h : ∀ (q : Nat) (x : Op), q < i → ops[q]? = some x → ¬ p x = true) : ∀ (q : Nat) (x : Op), q < i + 1 → ops[q]? = some x → ¬ p x = true := by
  intro q x hq hx
  by_cases e : q = i
  · subst e
    rw [hz] at hx
    cases hx
    exact hk
  · exact h q x (by omega) hx
end Hist
end Go.Wk
namespace Go.Wk.Hist
open Go
section
variable {log : List Ent} {x : Op}
theorem range_1 (h : e1 x = true) : eRange log x = true := by unfold eRange; rw [h]; rfl
theorem range_2 (h : (log.length : Int) < x.at_) : eRange log x = true := by unfold eRange; rw [decide_eq_true h]; simp
end
end Go.Wk.Hist
end
