/- A small calculus of weakest preconditions over the kit's code: rules for the operations, proved for all programs. -/
import Derived.Test.YtdaphlemhmgncaaGreatWk2
import Derived.Laws.Slices
import Derived.Laws.Strings
set_option linter.unusedVariables false
set_option linter.unusedSimpArgs false
namespace Go.Wk
open Go Go.RowKit

def wantedB (ops : Array Oper) (ρ : Env) (g : Option (Nat × Bool)) : Option Bool :=
  match g with
  | none => some true
  | some (j, want) => match (ops[j]?).bind (·.dst) with
    | some d => match look ρ d with
      | some (.bool b) => some (b == want)
      | some (.tuple _) => some false
      | _ => none
    | none => none

def evs (ρ : Env) : List Operand → Option (List Value)
  | [] => some []
  | x :: xs => match ev ρ x with
    | some v => match evs ρ xs with
      | some vs => some (v :: vs)
      | none => none
    | none => none

section
variable {P : Program} {Q : Post} {n : Nat} {k : List It} {ρ : Env} {A : World → Prop} {ops : Array Oper} {rest : List Oper}

theorem wanted_of {o : Oper} {a : Act} {b : Bool} (h : Fr n ρ a) (hw : wantedB ops ρ o.guard = some b) : Region.wanted o (yielded ops a.tmps) = b := by
  unfold Region.wanted
  unfold wantedB at hw
  cases hg : o.guard with
  | none => simp [hg] at hw; subst hw; rfl
  | some jw =>
    obtain ⟨j, want⟩ := jw
    simp only [hg] at hw
    cases hd : (ops[j]?).bind (·.dst) with
    | none => simp [hd] at hw
    | some d =>
      simp only [hd] at hw
      cases hl : look ρ d with
      | none => simp [hl] at hw
      | some v =>
        simp only [hl] at hw
        have hget := h.get _ _ hl
        cases v <;> simp at hw
        · rename_i x
          subst hw
          simp only [yielded, hd, Option.bind_some, hget]
          cases x <;> cases want <;> rfl
        · subst hw
          simp only [yielded, hd, Option.bind_some, hget]
          cases want <;> rfl

theorem evs_ev {a : Act} (h : Fr n ρ a) : ∀ {xs : List Operand} {vs : List Value}, evs ρ xs = some vs → xs.map a.eval = vs
  | [], vs, he => by simp [evs] at he; subst he; rfl
  | x :: xs, vs, he => by
    simp only [evs] at he
    cases h1 : ev ρ x with
    | none => simp [h1] at he
    | some v =>
      cases h2 : evs ρ xs with
      | none => simp [h1, h2] at he
      | some us =>
        simp [h1, h2] at he
        subst he
        simp [h.ev h1, evs_ev h h2]

theorem HO_nil (h : H P Q n k ρ A) : HO P Q n ops [] k ρ A := fun a w hf hA => h a w hf hA
theorem HO_world {A' : World → Prop} (hA : ∀ w, A w → A' w) (h : HO P Q n ops rest k ρ A') : HO P Q n ops rest k ρ A := fun a w hf hw => h a w hf (hA w hw)
theorem H_pure {p : Prop} (hA : ∀ w, A w → p) (h : p → H P Q n k ρ A) : H P Q n k ρ A := fun a w hf hw => h (hA w hw) a w hf hw

theorem HO_val {o : Oper} {d : Nat} {v : Value} (hw : wantedB ops ρ o.guard = some true) (hd : o.dst = some d) (hn : Nat.blt d n = true)
    (hrun : ∀ a w, Fr n ρ a → A w → (execOp a.eval o).run P w = .ok (.value v) w) (h : HO P Q n ops rest k ((d, v) :: ρ) A) : HO P Q n ops (o :: rest) k ρ A := by
  intro a w hf hA
  simp only [goOps]
  rw [wanted_of hf hw]
  simp only [if_true]
  unfold Oper.wp
  rw [hrun a w hf hA]
  show goOps P ops _ rest (a.put o.dst v) w
  rw [hd]
  exact h _ _ (hf.put (by simpa [Nat.blt_eq] using hn) v) hA
theorem HO_valw {o : Oper} {d : Nat} {β : Type} {val : β → Value} {B : β → World → Prop} (hw : wantedB ops ρ o.guard = some true) (hd : o.dst = some d) (hn : Nat.blt d n = true)
    (hrun : ∀ a w, Fr n ρ a → A w → ∃ y w', (execOp a.eval o).run P w = .ok (.value (val y)) w' ∧ B y w')
    (h : ∀ y, HO P Q n ops rest k ((d, val y) :: ρ) (B y)) : HO P Q n ops (o :: rest) k ρ A := by
  intro a w hf hA
  simp only [goOps]
  rw [wanted_of hf hw]
  simp only [if_true]
  obtain ⟨y, w', hr, hB⟩ := hrun a w hf hA
  unfold Oper.wp
  rw [hr]
  show goOps P ops _ rest (a.put o.dst (val y)) w'
  rw [hd]
  exact h y _ _ (hf.put (by simpa [Nat.blt_eq] using hn) _) hB
theorem HO_skipw {o : Oper} {B : World → Prop} (hw : wantedB ops ρ o.guard = some true) (hd : o.dst = none)
    (hrun : ∀ a w, Fr n ρ a → A w → ∃ w', (execOp a.eval o).run P w = .ok .skip w' ∧ B w') (h : HO P Q n ops rest k ρ B) : HO P Q n ops (o :: rest) k ρ A := by
  intro a w hf hA
  simp only [goOps]
  rw [wanted_of hf hw]
  simp only [if_true]
  obtain ⟨w', hr, hB⟩ := hrun a w hf hA
  unfold Oper.wp
  rw [hr]
  show goOps P ops _ rest (a.put o.dst undef) w'
  rw [hd]
  exact h _ _ hf hB
theorem HO_no {o : Oper} {d : Nat} (hw : wantedB ops ρ o.guard = some false) (hd : o.dst = some d) (hn : Nat.blt d n = true) (h : HO P Q n ops rest k ((d, undef) :: ρ) A) : HO P Q n ops (o :: rest) k ρ A := by
  intro a w hf hA
  simp only [goOps]
  rw [wanted_of hf hw]
  simp only [Bool.false_eq_true, if_false]
  rw [hd]
  exact h _ _ (hf.put (by simpa [Nat.blt_eq] using hn) _) hA
theorem HO_split {d : Nat} {b : Bool} (hl : look ρ d = some (.bool b)) (ht : b = true → HO P Q n ops rest k ((d, .bool true) :: ρ) A) (hf : b = false → HO P Q n ops rest k ((d, .bool false) :: ρ) A) : HO P Q n ops rest k ρ A := by
  intro a w hr hA
  have key : ∀ c : Bool, b = c → Fr n ((d, .bool c) :: ρ) a := fun c hc => ⟨hr.size, hr.defers, fun t v hv => by
    simp only [look] at hv
    cases hb : Nat.beq d t with
    | true =>
      have : d = t := Nat.eq_of_beq_eq_true hb
      subst this
      simp [hb] at hv
      subst hv
      subst hc
      exact hr.get _ _ hl
    | false => simp [hb] at hv; exact hr.get _ _ hv⟩
  cases hb : b with
  | true => exact ht hb a w (key true hb) hA
  | false => exact hf hb a w (key false hb) hA
theorem H_split {d : Nat} {b : Bool} (hl : look ρ d = some (.bool b)) (ht : b = true → H P Q n k ((d, .bool true) :: ρ) A) (hf : b = false → H P Q n k ((d, .bool false) :: ρ) A) : H P Q n k ρ A := by
  have := HO_split (P := P) (Q := Q) (n := n) (k := k) (ρ := ρ) (A := A) (ops := #[]) (rest := []) hl (fun e => HO_nil (ht e)) (fun e => HO_nil (hf e))
  exact this

variable {d : Nat} {t : TypeId} {pos : String} {after : Array Edge} {g : Option (Nat × Bool)} {x y c : Operand} {v u : Value} {t' : TypeId}

theorem HO_move (hw : wantedB ops ρ g = some true) (hn : Nat.blt d n = true) (hx : ev ρ x = some v) (h : HO P Q n ops rest k ((d, v) :: ρ) A) : HO P Q n ops (⟨some d, .move x, t, pos, after, g⟩ :: rest) k ρ A :=
  HO_val hw rfl hn (fun a w hf _ => by simp only [execOp, hf.ev hx]; rfl) h
theorem HO_assign (hw : wantedB ops ρ g = some true) (hn : Nat.blt d n = true) (hx : ev ρ x = some v) (h : HO P Q n ops rest k ((d, v) :: ρ) A) : HO P Q n ops (⟨some d, .assign x, t, pos, after, g⟩ :: rest) k ρ A :=
  HO_val hw rfl hn (fun a w hf _ => by simp only [execOp, hf.ev hx]; rfl) h
theorem HO_pick_t (hw : wantedB ops ρ g = some true) (hn : Nat.blt d n = true) (hc : ev ρ c = some (.bool true)) (hx : ev ρ x = some v) (h : HO P Q n ops rest k ((d, v) :: ρ) A) : HO P Q n ops (⟨some d, .pick c x y, t, pos, after, g⟩ :: rest) k ρ A :=
  HO_val hw rfl hn (fun a w hf _ => by simp only [execOp, hf.ev hx, hf.ev hc]; rfl) h
theorem HO_pick_f (hw : wantedB ops ρ g = some true) (hn : Nat.blt d n = true) (hc : ev ρ c = some (.bool false)) (hy : ev ρ y = some v) (h : HO P Q n ops rest k ((d, v) :: ρ) A) : HO P Q n ops (⟨some d, .pick c x y, t, pos, after, g⟩ :: rest) k ρ A :=
  HO_val hw rfl hn (fun a w hf _ => by simp only [execOp, hf.ev hy, hf.ev hc]; rfl) h
theorem HO_nilCheck {ad : Addr} (hw : wantedB ops ρ g = some true) (hn : Nat.blt d n = true) (hx : ev ρ x = some (.pointer (some ad))) (h : HO P Q n ops rest k ((d, .pointer (some ad)) :: ρ) A) : HO P Q n ops (⟨some d, .nilCheck x, t, pos, after, g⟩ :: rest) k ρ A :=
  HO_val hw rfl hn (fun a w hf _ => by simp only [execOp, hf.ev hx]; rfl) h
theorem HO_makeFunc {fn : Fn} {fs cs : Array Operand} {vs us : List Value} (hw : wantedB ops ρ g = some true) (hn : Nat.blt d n = true) (hf' : evs ρ fs.toList = some vs) (hc : evs ρ cs.toList = some us) (h : HO P Q n ops rest k ((d, .func fn vs.toArray us.toArray) :: ρ) A) : HO P Q n ops (⟨some d, .makeFunc fn fs cs, t, pos, after, g⟩ :: rest) k ρ A :=
  HO_val hw rfl hn (fun a w hf _ => by
    have h1 : fs.map a.eval = vs.toArray := by rw [← evs_ev hf hf']; simp [← Array.toList_map]
    have h2 : cs.map a.eval = us.toArray := by rw [← evs_ev hf hc]; simp [← Array.toList_map]
    simp only [execOp, h1, h2]; rfl) h
theorem HO_not {b : Bool} (hw : wantedB ops ρ g = some true) (hn : Nat.blt d n = true) (hx : ev ρ x = some (.bool b)) (h : HO P Q n ops rest k ((d, .bool (!b)) :: ρ) A) : HO P Q n ops (⟨some d, .unOp .not t' x, t, pos, after, g⟩ :: rest) k ρ A :=
  HO_val hw rfl hn (fun a w hf _ => by simp only [execOp, hf.ev hx]; rfl) h
theorem HO_extract {vs : List Value} {i : Nat} (hw : wantedB ops ρ g = some true) (hn : Nat.blt d n = true) (hx : ev ρ x = some (.tuple vs.toArray)) (hi : vs[i]? = some v) (h : HO P Q n ops rest k ((d, v) :: ρ) A) : HO P Q n ops (⟨some d, .extract x i, t, pos, after, g⟩ :: rest) k ρ A :=
  HO_val hw rfl hn (fun a w hf _ => by simp [execOp, hf.ev hx, Instr.extract, hi]) h

def BinR (P : Program) (op : BinOp) (t : TypeId) (x y : Operand) (a b v : Value) : Prop := ∀ w, (do eqGuard op t x y a b; binOp op t a b : Sem Value).run P w = .ok v w
theorem HO_bin {op : BinOp} {xt yt : TypeId} (hw : wantedB ops ρ g = some true) (hn : Nat.blt d n = true) (hx : ev ρ x = some v) (hy : ev ρ y = some u) {r : Value} (hr : BinR P op xt x y v u r) (h : HO P Q n ops rest k ((d, r) :: ρ) A) : HO P Q n ops (⟨some d, .binOp op xt x y yt, t, pos, after, g⟩ :: rest) k ρ A :=
  HO_val hw rfl hn (fun a w hf _ => by
    simp only [execOp, hf.ev hx, hf.ev hy, Sem.run_bind]
    have := hr w
    simp only [Sem.run_bind] at this
    rw [this]
    rfl) h
end
end Go.Wk
