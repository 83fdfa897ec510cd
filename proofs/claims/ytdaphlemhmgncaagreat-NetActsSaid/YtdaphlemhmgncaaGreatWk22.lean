/- A small calculus of weakest preconditions over the kit's code: rules for the operations, proved for all programs. -/
import Derived.Test.YtdaphlemhmgncaaGreatWk19
import Derived.Test.YtdaphlemhmgncaaGreatKinds
set_option linter.unusedVariables false
set_option linter.unusedSimpArgs false
section
namespace Go.Wk
open Go Go.RowKit
/-! ### Rows of states, and structs read out of one's own rows -/
abbrev StT := List Pair × List Sess
def kSt : Kd StT := Kd.of (β := (Option Addr × Nat) × (Option Addr × Nat)) 2 (fun (x : StT) (y : (Option Addr × Nat) × (Option Addr × Nat)) => [.slice y.1.1 x.1.length y.1.2, .slice y.2.1 x.2.length y.2.2]) (fun (x : StT) (y : (Option Addr × Nat) × (Option Addr × Nat)) => [.dat kPair.sl x.1 [.slice y.1.1 x.1.length y.1.2], .dat kSess.sl x.2 [.slice y.2.1 x.2.length y.2.2]]) (fun (x : StT) => x.1.length ≤ BIG ∧ x.2.length ≤ BIG) (fun _ _ => rfl) (by intro x y u hu; simp only [List.mem_cons, List.not_mem_nil, or_false] at hu; rcases hu with rfl | rfl <;> rfl) (by intro x y a ha; simp only [List.mem_cons, List.not_mem_nil, or_false] at ha; rcases ha with rfl | rfl <;> rfl)
section
variable {P : Program} {Q : Post} {n : Nat} {k : List It} {ρ : Env} {ops : Array Oper} {rest : List Oper}
variable {w0 : World} {ok0 M : Nat → Prop} {X R : List Atom}
variable {d : Nat} {t : TypeId} {pos : String} {after : Array Edge} {g : Option (Nat × Bool)} {x y c : Operand} {v u : Value} {t' : TypeId} {A : World → Prop}
theorem SrcOk.part {α : Type} {kd : Kd α} {ys : List α} {u' e : TypeId} {a : Option Addr} {m cp j l h' : Nat} (hu : P.underlying u' = some (.slice e)) (hj : X[j]? = some (.dat kd.sl ys [.slice a m cp])) (h1 : l ≤ h') (h2 : h' ≤ ys.length) : SrcOk P u' X kd (.slice (if cp = l then a else a.map (·.add (l * kd.n))) (h' - l) (cp - l)) ((ys.take h').drop l) :=
  fun ok w hall => by
    have hd := hall _ (List.mem_of_getElem? hj)
    have hd0 := hd
    obtain ⟨a1, c1, he, e1, e2, e3, e4⟩ := hd0
    simp only [List.cons.injEq, Value.slice.injEq, and_true] at he
    obtain ⟨rfl, rfl, rfl⟩ := he
    have hp := sl_part hd rfl h1 h2 (Nat.le_refl cp) (by omega)
    obtain ⟨a', c', q1, q2⟩ := hp
    have hlen : ((ys.take h').drop l).length = h' - l := by rw [List.length_drop, List.length_take]; omega
    rw [sliced_is] at q1
    rw [q1]
    exact Src.of_dat hu q2
end
end Go.Wk
namespace Go.Wk
open Go Go.RowKit
section
variable {P : Program} {n : Nat} {ρ : Env} {d : Nat} {t : TypeId} {pos : String} {after : Array Edge} {g : Option (Nat × Bool)} {x : Operand} {t' : TypeId} {A : World → Prop}
theorem V_sliceA_h {a : Option Addr} {m cp sz h' : Nat} {e : TypeId} {hk : IntKind} {hi' : Int} {yh : Operand} (hx : ev ρ x = some (.slice a m cp)) (hz : ev ρ yh = some (.int hk hi')) (hh : hi' = (h' : Int)) (ht : P.underlying t = some (.slice e)) (hs : ∀ w, (sizeOf e).run P w = .ok sz w) (h1 : h' ≤ cp) :
    Val P n ρ A ⟨some d, .slice t x none (some yh) none, t', pos, after, g⟩ (.slice (if cp = 0 then a else a.map (·.add (0 * sz))) (h' - 0) (cp - 0)) := fun ac w hf _ => by
  obtain rfl : P.elem t = e := elem_of ht
  subst hh
  have hr := run_slice_h (P := P) w t a m cp ht hk (h' : Int) (by omega) (by omega)
  simp only [hs w, Result.andThen_ok, Int.toNat_natCast, sliced_is] at hr
  simp [execOp, hf.ev hx, hf.ev hz, run_sliceAt_slice w t _ _ _ _ ht, hr]
end
end Go.Wk
end
section
namespace Go.Wk
open Go Go.RowKit
/-! ### Rows of bools -/


end Go.Wk
end
