/- A small calculus of weakest preconditions over the kit's code: rules for the operations, proved for all programs. -/
import Derived.Test.YtlkdpglngomblaaWk11
set_option linter.unusedVariables false
set_option linter.unusedSimpArgs false
namespace Go.Wk
open Go Go.RowKit
section
variable {P : Program} {Q : Post} {n : Nat} {k : List It} {ρ : Env} {ops : Array Oper} {rest : List Oper}
variable {w0 : World} {ok0 M : Nat → Prop} {X R : List Atom}
variable {d : Nat} {t : TypeId} {pos : String} {after : Array Edge} {g : Option (Nat × Bool)} {x y c : Operand} {v u : Value} {t' : TypeId} {A : World → Prop}
theorem V_indexC {b o j q m cp sz : Nat} {jk : IntKind} {ji : Int} {e : TypeId} (hx : ev ρ x = some (.slice (some ⟨b, o, none⟩) m cp)) (hy : ev ρ y = some (.int jk ji)) (hj : ji = (j : Int)) (ht : P.underlying t = some (.slice e)) (hs : ∀ w, (sizeOf e).run P w = .ok sz w) (hlt : j < m) (hq : o + j * sz = q) :
    Val P n ρ A ⟨some d, .indexAddr t x y, t', pos, after, g⟩ (.pointer (some ⟨b, q, none⟩)) := fun ac w hf hA => by
  subst hj hq
  simp [execOp, hf.ev hx, hf.ev hy, Instr.indexAt, asIntOf, run_underlying ht, hlt, hs w, add_plain]
theorem HO_indexC {b o j q m cp sz : Nat} {jk : IntKind} {ji : Int} {e : TypeId} (hw : wantedB ops ρ g = some true) (hn : Nat.blt d n = true) (hx : ev ρ x = some (.slice (some ⟨b, o, none⟩) m cp)) (hy : ev ρ y = some (.int jk ji)) (hj : ji = (j : Int)) (ht : P.underlying t = some (.slice e)) (hs : ∀ w, (sizeOf e).run P w = .ok sz w) (hlt : j < m) (hq : o + j * sz = q)
    (h : HO P Q n ops rest k ((d, .pointer (some ⟨b, q, none⟩)) :: ρ) A) : HO P Q n ops (⟨some d, .indexAddr t x y, t', pos, after, g⟩ :: rest) k ρ A :=
  HO_val hw rfl hn (V_indexC (g := g) hx hy hj ht hs hlt hq) h
theorem HO_of_val {o : Oper} (hw : wantedB ops ρ o.guard = some true) (hd : o.dst = some d) (hn : Nat.blt d n = true) (hv : Val P n ρ A o v) (h : HO P Q n ops rest k ((d, v) :: ρ) A) : HO P Q n ops (o :: rest) k ρ A :=
  HO_val hw hd hn hv h
end
end Go.Wk
