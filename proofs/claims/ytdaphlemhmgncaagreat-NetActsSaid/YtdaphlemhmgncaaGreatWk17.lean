/- A small calculus of weakest preconditions over the kit's code: rules for the operations, proved for all programs. -/
import Derived.Test.YtdaphlemhmgncaaGreatWk11
import Derived.WalkKit
import Derived.ProofKit
import Derived.OpenShut
import Derived.ShutString
import Derived.ChangeOld
import Derived.Below
import Derived.SizedLaws
import Derived.Laws.StructEq
set_option linter.unusedVariables false
set_option linter.unusedSimpArgs false
section
namespace Go.Wk
open Go Go.RowKit Go.ChangeShapes Go.WideShapes Go.ChangeAt

/-! ### From a contract to a law's row -/
theorem Spec.law {P : Program} {F : FuncId} {args : Array Value} {pre : List Atom} {β : Type} {val : β → Value} {I : β → Prop} {new : β → List Atom} (hS : Spec P F args pre val I new) {w : World} (hb : ∀ a ∈ pre, a.blk = noB) (hp : ∀ a ∈ pre, a.p (fun _ => True) w) (hv : ∀ y, I y → val y = .bool true) :
    Calls P F args w fun e w' => e = .returned (.bool true) ∧ Below w.heap.size w w' := by
  have hA : Asn w (fun _ => True) (blks pre) pre w :=
    ⟨Ext.refl _ _, List.pairwise_of_forall_mem_list (fun a ha b _ g hg => False.elim (by rw [hb a ha] at hg; exact hg)), (fun a ha g hg => False.elim (by rw [hb a ha] at hg; exact hg)), fun a ha => Atom.keep a (hp a ha) (fun _ _ => rfl) (fun b _ _ => ⟨⟨fun _ => trivial, blks_none hb b⟩, rfl⟩)⟩
  refine (hS w _ hA).mono ?_
  rintro e w' ⟨y, rfl, hI, hn⟩
  exact ⟨by rw [hv y hI], hn.ext.os, hn.ext.tape, hn.ext.output, hn.ext.size, fun b hb' => hn.ext.block b hb' (blks_none hb b)⟩

theorem lit_u8 {n : Int} (h : (Lit.int .u8 n).wf = true) : ∃ u : UInt8, n = (u.toNat : Int) := by
  simp [Lit.wf, IntKind.min, IntKind.max, IntKind.bits, IntKind.signed] at h
  exact ⟨UInt8.ofNat n.toNat, by simp; omega⟩
theorem lit_i64 {n : Int} (h : (Lit.int .i64 n).wf = true) : -9223372036854775808 ≤ n ∧ n ≤ 9223372036854775807 := by
  simp [Lit.wf, IntKind.min, IntKind.max, IntKind.bits, IntKind.signed] at h
  omega
end Go.Wk
end
section
namespace Go.Wk
open Go Go.RowKit Go.ChangeShapes Go.WideShapes Go.ChangeAt
end Go.Wk
end
section
namespace Go.Wk
open Go Go.RowKit Go.ChangeShapes Go.WideShapes Go.ChangeAt
section
variable {H : Type} {enc : TypeId × Value → H} {P : Program} {w : World} {base : Nat} {spare : Nat → Bool} {held : Bool}
end
end Go.Wk
end
section
namespace Go.Wk
open Go Go.RowKit
section
variable {P : Program} {Q : Post} {n : Nat} {k : List It} {ρ : Env} {ops : Array Oper} {rest : List Oper}
variable {w0 : World} {ok0 M : Nat → Prop} {X R : List Atom}
variable {d : Nat} {t : TypeId} {pos : String} {after : Array Edge} {g : Option (Nat × Bool)} {x y c : Operand} {v u : Value} {t' : TypeId} {A : World → Prop}
theorem V_loadOwn {α : Type} {kd : Kd α} {T : TypeId} {xs : List α} {a : Option Addr} {cp i j q gb : Nat} {z : α} (hx : ev ρ x = some (.pointer (some ⟨gb, q, none⟩))) (ht : ∀ w, (isAgg t).run P w = .ok false w)
    (hi : X[i]? = some (.own T kd a cp xs)) (ha : a = some ⟨gb, 0, none⟩) (hq : j * kd.n = q) (hz : xs[j]? = some z) (hr : ∀ ok w cs, kd.rep ok w z cs → cs = [v]) :
    Val P n ρ (Asn w0 ok0 M X) ⟨some d, .load t x, t', pos, after, g⟩ v := fun ac w hf hA => by
  subst hq
  obtain ⟨g', us, cs, ts, e, hg, hl, hrep, _⟩ := own_at (hA.get hi) hz
  rw [ha] at e
  cases e
  have := hr _ _ _ hrep
  subst this
  have hc : w.cell? ⟨gb, j * kd.n, none⟩ = some v := by
    simp [World.cell?, hg, ← hl]
  simp [execOp, hf.ev hx, Instr.loadAt, Instr.sureAddr, run_loadVar1 (ht w) hc]
theorem HO_of_val {o : Oper} (hw : wantedB ops ρ o.guard = some true) (hd : o.dst = some d) (hn : Nat.blt d n = true) (hv : Val P n ρ A o v) (h : HO P Q n ops rest k ((d, v) :: ρ) A) : HO P Q n ops (o :: rest) k ρ A :=
  HO_val hw hd hn hv h
end
end Go.Wk
end
section
namespace Go.Wk
open Go Go.RowKit
section
variable {P : Program} {Q : Post} {n : Nat} {k : List It} {ρ : Env} {ops : Array Oper} {rest : List Oper}
variable {w0 : World} {ok0 M : Nat → Prop} {X R : List Atom}
variable {d : Nat} {t : TypeId} {pos : String} {after : Array Edge} {g : Option (Nat × Bool)} {x y c : Operand} {v u : Value} {t' : TypeId} {A : World → Prop}
end
end Go.Wk
end
section
namespace Go.Wk
open Go Go.RowKit
section
variable {P : Program} {Q : Post} {n : Nat} {k : List It} {ρ : Env} {ops : Array Oper} {rest : List Oper}
variable {w0 : World} {ok0 M : Nat → Prop} {X R : List Atom}
variable {d : Nat} {t : TypeId} {pos : String} {after : Array Edge} {g : Option (Nat × Bool)} {x y c : Operand} {v u : Value} {t' : TypeId} {A : World → Prop}
def PartOf {α : Type} (d : Kd α) (a : Option Addr) (c : Nat) (xs ys : List α) (v : Value) : Prop := ∀ ok w, d.sl.rep ok w xs [.slice a xs.length c] → d.sl.rep ok w ys [v]
end
end Go.Wk
end
section
namespace Go.Wk
open Go Go.RowKit
section
variable {P : Program} {t : TypeId} {x y : Operand}
def andI (a b : Int) : Int := IntKind.i64.wrap ((BitVec.ofInt IntKind.i64.bits a &&& BitVec.ofInt IntKind.i64.bits b).toNat : Int)
end
end Go.Wk
end
section
namespace Go.Wk
open Go Go.RowKit
section
variable {P : Program} {Q : Post} {n : Nat} {k : List It} {ρ : Env} {A : World → Prop}
theorem H_ex {σ : Type} {I : σ → Prop} {B : σ → World → Prop} (h : ∀ s, I s → H P Q n k ρ (B s)) : H P Q n k ρ (fun w => ∃ s, I s ∧ B s w) := by
  rintro a w hf ⟨s, hI, hB⟩
  exact h s hI a w hf hB
theorem H_meet {σ : Type} (x : Code) (I : σ → Prop) (ρ' : Env) (B : σ → World → Prop) (hB : H P Q n (.code x :: .inv (fun a w => Fr n ρ' a ∧ ∃ s, I s ∧ B s w) :: k) ρ A) (hK : ∀ s, I s → H P Q n k ρ' (B s)) : H P Q n (.code x :: k) ρ A :=
  H_join x ρ' (fun w => ∃ s, I s ∧ B s w) hB (H_ex hK)
end
end Go.Wk
end
section
namespace Go.Wk
open Go Go.RowKit
theorem eqF_int {P : Program} {w : World} {d : Nat} {xs ys : Array Value} {f : Field} {fs : List Field} {k : IntKind} {a b : Int} {r : Bool} (hn : f.name ≠ "_") (hu : P.underlying f.type = some (.int k)) (ha : ∀ w, (isAgg f.type).run P w = .ok false w) (hx : xs[f.offset]? = some (.int k a)) (hy : ys[f.offset]? = some (.int k b)) (h : (Op.eqFields (d + 1) xs ys fs).run P w = .ok r w) :
    (Op.eqFields (d + 1) xs ys (f :: fs)).run P w = .ok (decide (a = b) && r) w := by
  have h1 := hn
  have hp : ∀ (zs : Array Value) (v : Value), zs[f.offset]? = some v → (part f.type zs f.offset).run P w = .ok v w := fun zs v hz => by simp [part, ha w, hz]
  rw [Op.eqFields, if_pos h1]
  simp only [Sem.run_bind, hp xs _ hx, hp ys _ hy, Result.andThen_ok, run_equalIn_int w d f.type k k a b hu]
  by_cases hab : a = b
  · subst hab
    simp [h]
  · simp [hab]
theorem eqF_str {P : Program} {w : World} {d : Nat} {xs ys : Array Value} {f : Field} {fs : List Field} {a b : ByteArray} {r : Bool} (hn : f.name ≠ "_") (hu : P.underlying f.type = some .string) (ha : ∀ w, (isAgg f.type).run P w = .ok false w) (hx : xs[f.offset]? = some (.string a)) (hy : ys[f.offset]? = some (.string b)) (h : (Op.eqFields (d + 1) xs ys fs).run P w = .ok r w) :
    (Op.eqFields (d + 1) xs ys (f :: fs)).run P w = .ok (decide (a = b) && r) w := by
  have h1 := hn
  have hp : ∀ (zs : Array Value) (v : Value), zs[f.offset]? = some v → (part f.type zs f.offset).run P w = .ok v w := fun zs v hz => by simp [part, ha w, hz]
  rw [Op.eqFields, if_pos h1]
  simp only [Sem.run_bind, hp xs _ hx, hp ys _ hy, Result.andThen_ok, run_equalIn_string w d f.type a b hu]
  have e : (a.toList == b.toList) = decide (a = b) := toList_dec a b
  rw [e]
  by_cases hab : a = b
  · subst hab
    simp [h]
  · simp [hab]
theorem eqF_nil {P : Program} {w : World} {d : Nat} {xs ys : Array Value} : (Op.eqFields d xs ys []).run P w = .ok true w := rfl
theorem bin_eqs_agg {P : Program} {t : TypeId} {x y : Operand} {xs ys : Array Value} {r : Bool} {fs : Array Field} (hg : P.eqGuardType P.depth t = false) (ht0 : P.underlying t = some (.struct fs)) (hp : P.stoodInHeld t = false) (h : ∀ w, (Op.eqFields (9998 + 1) xs ys fs.toList).run P w = .ok r w) : BinR P .eql t x y (.agg xs) (.agg ys) (.bool r) := fun w => by
  show ((eqGuard .eql t x y (.agg xs) (.agg ys) >>= fun _ => (do pure (.bool (← Op.equal t (.agg xs) (.agg ys)))) : Sem Value)).run P w = _
  have hf : P.fieldsOf t = fs := by simp [Program.fieldsOf, ht0]
  have ht : P.underlying t = some (.struct (P.fieldsOf t)) := by rw [hf]; exact ht0
  have h1 : (Op.equal t (.agg xs) (.agg ys)).run P w = .ok r w := by
    show (Op.equalIn (9999 + 1) t (.agg xs) (.agg ys)).run P w = _
    rw [run_equalIn_agg w 9999 t xs ys ht hp, hf]
    exact h w
  simp [run_eqGuard_agg w .eql t x y xs ys hg, h1]
end Go.Wk
end
