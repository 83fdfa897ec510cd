/- A small calculus of weakest preconditions over the kit's code: rules for the operations, proved for all programs. -/
import Derived.Test.YtdaphlemhmgncaaWk16
import Derived.Laws.StructEq
set_option linter.unusedVariables false
set_option linter.unusedSimpArgs false
namespace Go.Wk
open Go Go.RowKit
theorem eqF_int {P : Program} {w : World} {d : Nat} {xs ys : Array Value} {f : Field} {fs : List Field} {k : IntKind} {a b : Int} {r : Bool} (hn : f.name ≠ "_") (hu : P.underlying f.type = some (.int k)) (ha : ∀ w, (isAgg f.type).run P w = .ok false w) (hx : xs[f.offset]? = some (.int k a)) (hy : ys[f.offset]? = some (.int k b)) (h : (Op.eqFields (d + 1) xs ys fs).run P w = .ok r w) :
    (Op.eqFields (d + 1) xs ys (f :: fs)).run P w = .ok (decide (a = b) && r) w := by
  have h1 := hn
  have hp : ∀ (zs : Array Value) (v : Value), zs[f.offset]? = some v → (part f.type zs f.offset).run P w = .ok v w := fun zs v hz => by simp [part, ha w, hz]
  rw [Op.eqFields, if_pos h1]
  simp only [Sem.run_bind, hp xs _ hx, hp ys _ hy, Result.andThen_ok, run_equalIn_int w d f.type k k a b hu]
  by_cases hab : a = b
  · subst hab
    simp [h]
  · simp [hab]
theorem eqF_str {P : Program} {w : World} {d : Nat} {xs ys : Array Value} {f : Field} {fs : List Field} {a b : ByteArray} {r : Bool} (hn : f.name ≠ "_") (hu : P.underlying f.type = some .string) (ha : ∀ w, (isAgg f.type).run P w = .ok false w) (hx : xs[f.offset]? = some (.string a)) (hy : ys[f.offset]? = some (.string b)) (h : (Op.eqFields (d + 1) xs ys fs).run P w = .ok r w) :
    (Op.eqFields (d + 1) xs ys (f :: fs)).run P w = .ok (decide (a = b) && r) w := by
  have h1 := hn
  have hp : ∀ (zs : Array Value) (v : Value), zs[f.offset]? = some v → (part f.type zs f.offset).run P w = .ok v w := fun zs v hz => by simp [part, ha w, hz]
  rw [Op.eqFields, if_pos h1]
  simp only [Sem.run_bind, hp xs _ hx, hp ys _ hy, Result.andThen_ok, run_equalIn_string w d f.type a b hu]
  have e : (a.toList == b.toList) = decide (a = b) := toList_dec a b
  rw [e]
  by_cases hab : a = b
  · subst hab
    simp [h]
  · simp [hab]
theorem eqF_nil {P : Program} {w : World} {d : Nat} {xs ys : Array Value} : (Op.eqFields d xs ys []).run P w = .ok true w := rfl
theorem bin_eqs_agg {P : Program} {t : TypeId} {x y : Operand} {xs ys : Array Value} {r : Bool} {fs : Array Field} (hg : P.eqGuardType P.depth t = false) (ht0 : P.underlying t = some (.struct fs)) (hp : P.stoodInHeld t = false) (h : ∀ w, (Op.eqFields (9998 + 1) xs ys fs.toList).run P w = .ok r w) : BinR P .eql t x y (.agg xs) (.agg ys) (.bool r) := fun w => by
  show ((eqGuard .eql t x y (.agg xs) (.agg ys) >>= fun _ => (do pure (.bool (← Op.equal t (.agg xs) (.agg ys)))) : Sem Value)).run P w = _
  have hf : P.fieldsOf t = fs := by simp [Program.fieldsOf, ht0]
  have ht : P.underlying t = some (.struct (P.fieldsOf t)) := by rw [hf]; exact ht0
  have h1 : (Op.equal t (.agg xs) (.agg ys)).run P w = .ok r w := by
    show (Op.equalIn (9999 + 1) t (.agg xs) (.agg ys)).run P w = _
    rw [run_equalIn_agg w 9999 t xs ys ht hp, hf]
    exact h w
  simp [run_eqGuard_agg w .eql t x y xs ys hg, h1]
end Go.Wk
