/- A small calculus of weakest preconditions over the kit's code: rules for the operations, proved for all programs. -/
import Derived.Test.YtondhngfjngngaaWk15
set_option linter.unusedVariables false
set_option linter.unusedSimpArgs false
namespace Go.Wk
open Go Go.RowKit
section
variable {P : Program} {Q : Post} {n : Nat} {k : List It} {ρ : Env} {A : World → Prop}
theorem H_ex {σ : Type} {I : σ → Prop} {B : σ → World → Prop} (h : ∀ s, I s → H P Q n k ρ (B s)) : H P Q n k ρ (fun w => ∃ s, I s ∧ B s w) := by
  rintro a w hf ⟨s, hI, hB⟩
  exact h s hI a w hf hB
/-- Ways that meet again, with names for what they leave. -/
theorem H_meet {σ : Type} (x : Code) (I : σ → Prop) (ρ' : Env) (B : σ → World → Prop) (hB : H P Q n (.code x :: .inv (fun a w => Fr n ρ' a ∧ ∃ s, I s ∧ B s w) :: k) ρ A) (hK : ∀ s, I s → H P Q n k ρ' (B s)) : H P Q n (.code x :: k) ρ A :=
  H_join x ρ' (fun w => ∃ s, I s ∧ B s w) hB (H_ex hK)
end
end Go.Wk
