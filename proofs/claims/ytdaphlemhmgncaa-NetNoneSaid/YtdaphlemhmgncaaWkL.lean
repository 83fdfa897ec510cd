/- A small calculus of weakest preconditions over the kit's code: rules for the operations, proved for all programs. -/
import Derived.Test.YtdaphlemhmgncaaWk11
import Derived.WalkKit
import Derived.ProofKit
import Derived.OpenShut
import Derived.ShutString
import Derived.ChangeOld
import Derived.Below
import Derived.SizedLaws
set_option linter.unusedVariables false
set_option linter.unusedSimpArgs false
namespace Go.Wk
open Go Go.RowKit Go.ChangeShapes Go.WideShapes Go.ChangeAt

/-! ### From a contract to a law's row -/
theorem Spec.law {P : Program} {F : FuncId} {args : Array Value} {pre : List Atom} {β : Type} {val : β → Value} {I : β → Prop} {new : β → List Atom} (hS : Spec P F args pre val I new) {w : World} (hb : ∀ a ∈ pre, a.blk = noB) (hp : ∀ a ∈ pre, a.p (fun _ => True) w) (hv : ∀ y, I y → val y = .bool true) :
    Calls P F args w fun e w' => e = .returned (.bool true) ∧ Below w.heap.size w w' := by
  have hA : Asn w (fun _ => True) (blks pre) pre w :=
    ⟨Ext.refl _ _, List.pairwise_of_forall_mem_list (fun a ha b _ g hg => False.elim (by rw [hb a ha] at hg; exact hg)), (fun a ha g hg => False.elim (by rw [hb a ha] at hg; exact hg)), fun a ha => Atom.keep a (hp a ha) (fun _ _ => rfl) (fun b _ _ => ⟨⟨fun _ => trivial, blks_none hb b⟩, rfl⟩)⟩
  refine (hS w _ hA).mono ?_
  rintro e w' ⟨y, rfl, hI, hn⟩
  exact ⟨by rw [hv y hI], hn.ext.os, hn.ext.tape, hn.ext.output, hn.ext.size, fun b hb' => hn.ext.block b hb' (blks_none hb b)⟩

theorem lit_u8 {n : Int} (h : (Lit.int .u8 n).wf = true) : ∃ u : UInt8, n = (u.toNat : Int) := by
  simp [Lit.wf, IntKind.min, IntKind.max, IntKind.bits, IntKind.signed] at h
  exact ⟨UInt8.ofNat n.toNat, by simp; omega⟩
theorem lit_i64 {n : Int} (h : (Lit.int .i64 n).wf = true) : -9223372036854775808 ≤ n ∧ n ≤ 9223372036854775807 := by
  simp [Lit.wf, IntKind.min, IntKind.max, IntKind.bits, IntKind.signed] at h
  omega
end Go.Wk
