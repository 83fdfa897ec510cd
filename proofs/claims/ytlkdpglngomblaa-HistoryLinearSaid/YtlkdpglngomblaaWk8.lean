/- A small calculus of weakest preconditions over the kit's code: rules for the operations, proved for all programs. -/
import Derived.Test.YtlkdpglngomblaaWk7
import Derived.Laws.BytesString
set_option linter.unusedVariables false
set_option linter.unusedSimpArgs false
namespace Go.Wk
open Go Go.RowKit

theorem own_sl {α : Type} {d : Kd α} {T : TypeId} {a : Option Addr} {c : Nat} {xs : List α} {ok ok' : Nat → Prop} {w : World} (h : (Atom.own T d a c xs).p ok w) (hk : ∀ b, b < w.heap.size → ok b → ok' b) (hb : ∀ b, ownBlk a c = some b → ok' b) (hnil : a = none → c = 0) :
    d.sl.rep ok' w xs [.slice a xs.length c] := by
  rcases h with ⟨rfl, rfl⟩ | ⟨hc, g, cur, vals, rfl, h1, h2, h3, h4, h5, h6⟩
  · exact ⟨a, 0, rfl, Nat.le_refl _, Nat.zero_le _, fun _ => rfl, fun h => absurd h (Nat.lt_irrefl _)⟩
  · refine ⟨_, c, rfl, h2, h3, fun h => by simp at h, fun _ => ⟨g, 0, vals, rfl, hb g (by simp [ownBlk]; omega), h5.keep (fun b hb1 hb2 => ⟨hk b hb1 hb2, rfl⟩), ?_, (Array.getElem?_eq_some_iff.1 h1).1⟩⟩
    intro j u hj
    simp only [World.cell?, h1, Nat.zero_add]
    rw [← h6, List.getElem?_take] at hj
    split at hj
    · simpa using hj
    · cases hj
theorem own_nil {α : Type} {d : Kd α} {T : TypeId} {a : Option Addr} {c : Nat} {xs : List α} {ok : Nat → Prop} {w : World} (h : (Atom.own T d a c xs).p ok w) : a = none → c = 0 := by
  rcases h with ⟨rfl, _⟩ | ⟨hc, g, cur, vals, rfl, _⟩
  · exact fun _ => rfl
  · intro h; cases h

section
variable {P : Program} {Q : Post} {n : Nat} {k : List It} {ρ : Env} {ops : Array Oper} {rest : List Oper}
variable {w0 : World} {ok0 M : Nat → Prop} {X R : List Atom}
variable {d : Nat} {t : TypeId} {pos : String} {after : Array Edge} {g : Option (Nat × Bool)} {x y c : Operand} {v u : Value} {t' : TypeId} {A : World → Prop}

theorem bin_lit {op : BinOp} {kd : IntKind} {a b : Int} {v : Value} (hs : op ≠ .shl ∧ op ≠ .shr) (h : ∀ w, (intSem op kd a b).run P w = .ok v w) : BinR P op t x y (.int kd a) (.int kd b) v := bin_int hs h
theorem wrap_i64_nat {m : Nat} (h : m < 9223372036854775808) : IntKind.i64.wrap (m : Int) = (m : Int) := wrap_i64 (by omega) (by omega)

theorem HO_set {v' : Value} (d : Nat) (hl : look ρ d = some v) (he : v = v') (h : HO P Q n ops rest k ((d, v') :: ρ) A) : HO P Q n ops rest k ρ A := by
  subst he
  intro a w hf hA
  refine h a w ⟨hf.size, hf.defers, fun t u hu => ?_⟩ hA
  simp only [look] at hu
  cases hb : Nat.beq d t with
  | true =>
    have : d = t := Nat.eq_of_beq_eq_true hb
    subst this
    simp [hb] at hu
    subst hu
    exact hf.get _ _ hl
  | false => simp [hb] at hu; exact hf.get _ _ hu
theorem H_set {v' : Value} (d : Nat) (hl : look ρ d = some v) (he : v = v') (h : H P Q n k ((d, v') :: ρ) A) : H P Q n k ρ A := HO_set (ops := #[]) (rest := []) d hl he (HO_nil h)

/-! ### Arrays, strings -/
theorem open_int : Opens kInt Unit (fun z _ => [.int .i64 z]) (fun _ _ => []) (fun z => -9223372036854775808 ≤ z ∧ z ≤ 9223372036854775807) := ⟨fun h => ⟨h.2, (), h.1, fun a ha => by cases ha⟩⟩
theorem equal_open (ty : TypeId) (a b : Value) : ∃ m, Op.equal ty a b = Op.equalIn (m + 1) ty a b := ⟨_, rfl⟩
theorem bin_nes {s u : ByteArray} : BinR P .neq t x y (.string s) (.string u) (.bool (!decide (s = u))) := fun w => by
  show ((eqGuard .neq t x y (.string s) (.string u) >>= fun _ => Op.stringOp .neq s u : Sem Value)).run P w = _
  simp [eqGuard, Op.stringOp, toList_dec]
theorem bin_lts {s u : ByteArray} : BinR P .lss t x y (.string s) (.string u) (.bool (Op.bytesLess s.data.toList u.data.toList)) := fun w => by
  show ((eqGuard .lss t x y (.string s) (.string u) >>= fun _ => Op.stringOp .lss s u : Sem Value)).run P w = _
  simp [eqGuard, Op.stringOp, ByteArray.toList_eq]
theorem bin_ges {s u : ByteArray} : BinR P .geq t x y (.string s) (.string u) (.bool (!Op.bytesLess s.data.toList u.data.toList)) := fun w => by
  show ((eqGuard .geq t x y (.string s) (.string u) >>= fun _ => Op.stringOp .geq s u : Sem Value)).run P w = _
  simp [eqGuard, Op.stringOp, ByteArray.toList_eq]
theorem bin_eqb {a b : Bool} (hu : ∀ w, (underlying t).run P w = .ok .bool w) : BinR P .eql t x y (.bool a) (.bool b) (.bool (a == b)) := fun w => by
  show ((eqGuard .eql t x y (.bool a) (.bool b) >>= fun _ => (do pure (.bool (← Op.equal t (.bool a) (.bool b)))) : Sem Value)).run P w = _
  obtain ⟨m, hm⟩ := equal_open t (.bool a) (.bool b)
  simp [eqGuard, hm, Op.equalIn, hu w]
end
end Go.Wk
