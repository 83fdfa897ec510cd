/- A small calculus of weakest preconditions over the kit's code: rules for the operations, proved for all programs. -/
import Derived.Test.YtondhngfjngngaaGreatWk10
import Derived.Laws.MakeOwn
set_option linter.unusedVariables false
set_option linter.unusedSimpArgs false
namespace Go.Wk
open Go Go.RowKit

section
variable {P : Program} {Q : Post} {n : Nat} {k : List It} {ρ : Env} {ops : Array Oper} {rest : List Oper}
variable {w0 : World} {ok0 M : Nat → Prop} {X R : List Atom}
variable {d : Nat} {t : TypeId} {pos : String} {after : Array Edge} {g : Option (Nat × Bool)} {x y c : Operand} {v u : Value} {t' : TypeId} {A : World → Prop}

theorem HO_buildSlice0 {α : Type} {kd : Kd α} {e sz bytes : Nat} {z : Value} (hw : wantedB ops ρ g = some true) (hn : Nat.blt d n = true) (ht : P.underlying t = some (.slice e)) (he : Elt P e z sz bytes)
    (h : ∀ gb, HO P Q n ops rest k ((d, .slice (some ⟨gb, 0, none⟩) 0 0) :: ρ) (Asn w0 ok0 M (.own e kd (some ⟨gb, 0, none⟩) 0 [] :: X))) :
    HO P Q n ops (⟨some d, .buildSlice t 0 #[], t', pos, after, g⟩ :: rest) k ρ (Asn w0 ok0 M X) :=
  HO_valw (β := Nat) (val := fun gb => .slice (some ⟨gb, 0, none⟩) 0 0) (B := fun gb => Asn w0 ok0 M (.own e kd (some ⟨gb, 0, none⟩) 0 [] :: X)) hw rfl hn (fun ac w hf hA => by
    obtain ⟨i, hi, hz, hsz, hb, hzs, hp, _⟩ := he
    refine ⟨w.heap.size, w.alloc (.cells #[] e), ?_, ?_⟩
    · have h0 : (Array.map (fun (_ : Nat) => (default : Value)) (Array.range 0)) = #[] := by simp
      simp [execOp, Instr.buildSlice, run_underlying ht, sizeOf, typeInfo, zeroValue, hi, hz, newRow, Instr.fill, newObj, h0]
      rfl
    · refine Asn.frame (pre := []) (rest := X) hA ⟨Ext.of_below ((Below.refl _ _).alloc (Nat.le_refl _) _), List.pairwise_singleton _ _, ?_, ?_⟩
      · intro a ha gg hgg
        rw [List.mem_singleton.1 ha] at hgg
        cases hgg
      · intro a ha
        rw [List.mem_singleton.1 ha]
        exact .inl ⟨rfl, rfl⟩) h

theorem rowRep.rep {α : Type} {kd : Kd α} {ok : Nat → Prop} {w : World} {x : α} {cs : List Value} (h : kd.rep ok w x cs) : ∀ m, rowRep kd ok w (List.replicate m x) (List.flatten (List.replicate m cs))
  | 0 => rfl
  | m + 1 => ⟨cs, _, rfl, h, rowRep.rep h m⟩
end
end Go.Wk
