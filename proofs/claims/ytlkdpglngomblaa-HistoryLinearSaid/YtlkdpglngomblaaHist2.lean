/- Plain facts that the proof of this law leans on. -/
import Derived.Test.YtlkdpglngomblaaHist
set_option linter.unusedVariables false
set_option linter.unusedSimpArgs false
namespace Go.Wk
open Go Go.RowKit
/-! ### What the histories' laws say -/
namespace Hist
theorem bad_zero {log : List Ent} {all : List Op} : ∀ {l : List Op} {i : Nat}, (bad log all l i).2 = 0 ↔ ∀ x ∈ l, one log all x = 0
  | [], i => by simp [bad]
  | x :: l, i => by
    rw [bad]
    by_cases h : one log all x = 0
    · rw [if_pos h, bad_zero]
      simp [h]
    · rw [if_neg h]
      simp [h]
theorem bad_all {log : List Ent} {all : List Op} : ∀ {l : List Op} {i : Nat}, (∀ x ∈ l, one log all x = 0) → bad log all l i = (0, 0)
  | [], _, _ => rfl
  | x :: l, i, h => by
    rw [bad, if_pos (h x (List.mem_cons_self ..)), bad_all fun y hy => h y (List.mem_cons_of_mem _ hy)]
theorem check_zero {log : List Ent} {ops : List Op} : (check log ops).2 = 0 ↔ okFrom log 0 = true ∧ ∀ x ∈ ops, one log ops x = 0 := by
  cases h : okFrom log 0 with
  | false => rw [check_bad h]; simp
  | true => rw [check_ok h, bad_zero]; simp
theorem one_zero {log : List Ent} {ops : List Op} {x : Op} : one log ops x = 0 ↔ eRange log x = false ∧ eNone log x = false ∧ eRep log x = false ∧ late ops x = false := by
  unfold one
  cases eRange log x <;> cases eNone log x <;> cases eRep log x <;> cases late ops x <;> simp
theorem parts {log : List Ent} {ops left : List Op} (h : (check log ops).2 = 0) (hs : ∀ x ∈ left, x ∈ ops) : check log left = (0, 0) := by
  obtain ⟨h1, h2⟩ := check_zero.1 h
  rw [check_ok h1]
  refine bad_all fun x hx => ?_
  obtain ⟨a, b, c, d⟩ := one_zero.1 (h2 x (hs x hx))
  refine one_zero.2 ⟨a, b, c, ?_⟩
  unfold late at d ⊢
  cases hp : decide (0 ≤ x.at_) with
  | false => rfl
  | true =>
    rw [hp] at d
    rw [Bool.true_and] at d ⊢
    refine List.any_eq_false.2 fun y hy => ?_
    exact List.any_eq_false.1 d y (hs y hy)
theorem bad_split {log : List Ent} {all : List Op} : ∀ {l r : List Op} {i : Nat}, (∀ x ∈ l, one log all x = 0) → bad log all (l ++ r) i = bad log all r (i + l.length)
  | [], r, i, _ => rfl
  | x :: l, r, i, h => by
    rw [List.cons_append, bad, if_pos (h x (List.mem_cons_self ..)), bad_split fun y hy => h y (List.mem_cons_of_mem _ hy), List.length_cons]
    congr 1
    omega
theorem late_set {ops : List Op} {k : Nat} {z : Op} {r : Reply} {x : Op} (hz : ops[k]? = some z) : late (ops.set k { z with rep := r }) x = late ops x := by
  unfold late
  congr 1
  obtain ⟨h1, h2⟩ := List.getElem?_eq_some_iff.1 hz
  have hl : ops = ops.take k ++ z :: ops.drop (k + 1) := by rw [← drop_at hz, List.take_append_drop]
  have hp : lateP x { z with rep := r } = lateP x z := rfl
  conv => rhs; rw [hl]
  rw [List.set_eq_take_append_cons_drop, if_pos h1, List.any_append, List.any_append, List.any_cons, List.any_cons, hp]
theorem wrong {log : List Ent} {ops : List Op} {k : Nat} {z : Op} {r : Reply} (h : (check log ops).2 = 0) (hz : ops[k]? = some z) (hs : 0 < z.stop) (hr : ¬ z.rep = r) : check log (ops.set k { z with rep := r }) = ((k : Int), 8) := by
  obtain ⟨h1, h2⟩ := check_zero.1 h
  obtain ⟨hk, he⟩ := List.getElem?_eq_some_iff.1 hz
  rw [check_ok h1]
  have hset : ops.set k { z with rep := r } = ops.take k ++ ({ z with rep := r } :: ops.drop (k + 1)) := by rw [List.set_eq_take_append_cons_drop, if_pos hk]
  have hall : ∀ x, one log (ops.set k { z with rep := r }) x = one log ops x := fun x => by unfold one; rw [late_set hz]
  have h3 : ∀ x ∈ ops.take k, one log (ops.set k { z with rep := r }) x = 0 := fun x hx => by rw [hall]; exact h2 x (List.mem_of_mem_take hx)
  have h4 : bad log (ops.set k { z with rep := r }) (ops.set k { z with rep := r }) 0 = bad log (ops.set k { z with rep := r }) (ops.take k ++ ({ z with rep := r } :: ops.drop (k + 1))) 0 := by
    conv => lhs; arg 3; rw [hset]
  rw [h4, bad_split h3, bad]
  obtain ⟨a, b, c, d⟩ := one_zero.1 (h2 z (List.mem_of_getElem? hz))
  have c' : reply log z = z.rep := by
    unfold eRep at c
    rw [decide_eq_true hs] at c
    simpa using c
  have c2 : eRep log { z with rep := r } = true := by
    unfold eRep
    show (decide (0 < z.stop) && !decide (reply log z = r)) = true
    rw [decide_eq_true hs, decide_eq_false (show ¬ reply log z = r by rw [c']; exact hr)]
    rfl
  have e8 : one log (ops.set k { z with rep := r }) { z with rep := r } = 8 := one_8 (x := { z with rep := r }) a b c2
  rw [if_neg (by rw [e8]; decide), e8, List.length_take, Nat.min_eq_left (Nat.le_of_lt hk), Nat.zero_add]
end Hist
theorem op_parts {ok : Nat → Prop} {w : World} {xs : List Op} {vals : List Value} {j : Nat} {z : Op} (h : (Atom.row kOp xs vals).p ok w) (hz : xs[j]? = some z) :
    ∃ us, ∃ yz : Option Addr × Nat, ∃ ts, vals = us ++ ([.int .i64 z.cmd.kind, .int .i64 z.cmd.sess, .int .i64 z.cmd.seq, .string z.cmd.key, .string z.cmd.old, .string z.cmd.val, .string z.cmd.til, .int .i64 z.cmd.lim, .int .i64 z.rep.err, .bool z.rep.found, .string z.rep.val, .int .i64 z.rep.sess, .slice yz.1 z.rep.pairs.length yz.2, .int .i64 z.start, .int .i64 z.stop, .int .i64 z.at_, .bool z.read] ++ ts) ∧ us.length = j * 17 ∧ kOp.rep ok w z [.int .i64 z.cmd.kind, .int .i64 z.cmd.sess, .int .i64 z.cmd.seq, .string z.cmd.key, .string z.cmd.old, .string z.cmd.val, .string z.cmd.til, .int .i64 z.cmd.lim, .int .i64 z.rep.err, .bool z.rep.found, .string z.rep.val, .int .i64 z.rep.sess, .slice yz.1 z.rep.pairs.length yz.2, .int .i64 z.start, .int .i64 z.stop, .int .i64 z.at_, .bool z.read] := by
  obtain ⟨us, cs, ts, e, hl, hr, _, _⟩ := rowRep.at_ h hz
  have hr2 := hr
  obtain ⟨_, yz, rfl, _⟩ := hr2
  exact ⟨us, yz, ts, e, hl, hr⟩
end Go.Wk
namespace Go.Wk
open Go Go.RowKit
theorem op_parts2 {ok : Nat → Prop} {w : World} {xs : List Op} {vals : List Value} {j : Nat} {z : Op} (h : (Atom.row kOp xs vals).p ok w) (hz : xs[j]? = some z) :
    ∃ us A B C D E ts, vals = us ++ (A ++ (B ++ (C ++ (D ++ (E ++ ts))))) ∧ us.length = j * 17 ∧ A = [.int .i64 z.cmd.kind, .int .i64 z.cmd.sess, .int .i64 z.cmd.seq, .string z.cmd.key, .string z.cmd.old, .string z.cmd.val, .string z.cmd.til, .int .i64 z.cmd.lim] ∧ B.length = 5 ∧ C = [.int .i64 z.start, .int .i64 z.stop] ∧ D = [.int .i64 z.at_] ∧ E = [.bool z.read] := by
  obtain ⟨us, yz, ts, e, hl, _⟩ := op_parts h hz
  exact ⟨us, _, [.int .i64 z.rep.err, .bool z.rep.found, .string z.rep.val, .int .i64 z.rep.sess, .slice yz.1 z.rep.pairs.length yz.2], _, _, _, ts, by rw [e]; rfl, hl, rfl, rfl, rfl, rfl, rfl⟩
namespace Hist
end Hist
end Go.Wk
namespace Go.Wk
abbrev kOpI (x : Op) : Prop := (-9223372036854775808 ≤ x.cmd.kind ∧ x.cmd.kind ≤ 9223372036854775807) ∧ (-9223372036854775808 ≤ x.cmd.sess ∧ x.cmd.sess ≤ 9223372036854775807) ∧ (-9223372036854775808 ≤ x.cmd.seq ∧ x.cmd.seq ≤ 9223372036854775807) ∧ x.cmd.key.size ≤ BIG ∧ x.cmd.old.size ≤ BIG ∧ x.cmd.val.size ≤ BIG ∧ x.cmd.til.size ≤ BIG ∧ (-9223372036854775808 ≤ x.cmd.lim ∧ x.cmd.lim ≤ 9223372036854775807) ∧ (-9223372036854775808 ≤ x.rep.err ∧ x.rep.err ≤ 9223372036854775807) ∧ x.rep.val.size ≤ BIG ∧ (-9223372036854775808 ≤ x.rep.sess ∧ x.rep.sess ≤ 9223372036854775807) ∧ x.rep.pairs.length ≤ BIG ∧ (-9223372036854775808 ≤ x.start ∧ x.start ≤ 9223372036854775807) ∧ (-9223372036854775808 ≤ x.stop ∧ x.stop ≤ 9223372036854775807) ∧ (-9223372036854775808 ≤ x.at_ ∧ x.at_ ≤ 9223372036854775807)
end Go.Wk
