/- A small calculus of weakest preconditions over the kit's code: rules for the operations, proved for all programs. -/
import Derived.Test.YtondhngfjngngaaWkL
set_option linter.unusedVariables false
set_option linter.unusedSimpArgs false
namespace Go.Wk
open Go Go.RowKit Go.ChangeShapes Go.WideShapes Go.ChangeAt
theorem i64_rowRep {ok : Nat → Prop} {w : World} : ∀ xs : List Int, (∀ n ∈ xs, -9223372036854775808 ≤ n ∧ n ≤ 9223372036854775807) → rowRep kInt ok w xs (xs.map fun b => Value.int .i64 b)
  | [], _ => rfl
  | x :: xs, h => ⟨[_], _, rfl, ⟨rfl, h x (List.mem_cons_self ..)⟩, i64_rowRep xs (fun n hn => h n (List.mem_cons_of_mem _ hn))⟩
theorem open_i64s {H : Type} {enc : TypeId × Value → H} {P : Program} {W : World} {r : Reach} {b0 : Nat} {t e : TypeId} {v : Value} {d : DataW H} {ps : List MemPlace} (ht : P.underlying t = some (.slice e)) (he : P.underlying e = some (.int .i64)) (hc : P.cellsOf e = 1) (hval : Value.okWide P W r b0 t v) (hd : DataW.Trod enc P W 0 (fun _ => true) true t v d ps) :
    ∃ (a : Option Addr) (c : Nat) (xs : List Int), v = .slice a xs.length c ∧ kInt.sl.rep (fun _ => True) W xs [.slice a xs.length c] ∧
      ∀ {ts : List TypeId} {ds : List (DataW H)} {j : Nat}, (DataW.weightsEach P ts ds).all (· ≤ reachBytes) = true → ts[j]? = some t → ds[j]? = some d → P.bytesOf e = 8 → xs.length ≤ 140737488351232 := by
  obtain ⟨a, len, cap, rfl⟩ := okWide_slice ht hval
  obtain ⟨fuel, hf⟩ := hd
  rcases open_ints ht he hc hf with ⟨hcs, _⟩ | ⟨x, l, c, zs, hcs, _, hl, hm, hz, hxx, hcell, hwz⟩
  · simp [Value.cells] at hcs
    obtain ⟨rfl, rfl, rfl⟩ := hcs
    exact ⟨none, 0, [], rfl, ⟨none, 0, rfl, Nat.le_refl _, Nat.zero_le _, fun _ => rfl, fun h => absurd h (Nat.lt_irrefl _)⟩, fun _ _ _ _ => by simp⟩
  · simp [Value.cells] at hcs
    obtain ⟨rfl, rfl, rfl⟩ := hcs
    simp only [if_true] at hz
    obtain ⟨xs, rfl⟩ : ∃ xs : List Int, xs = zs := ⟨_, rfl⟩
    have hlen : (xs.take len).length = len := by simp; omega
    refine ⟨some x, cap, xs.take len, by rw [hlen], ⟨some x, cap, rfl, by omega, hm, by simp, fun hp => ?_⟩, fun hsz h1 h2 h3 => ?_⟩
    rotate_left
    · obtain ⟨hx, _⟩ := Prod.mk.inj hxx
      subst hx
      have z := sized_slice hsz h1 h2 ht
      rw [h3] at z
      simp [lits, reachBytes] at z
      omega
    have hx : x.spot = none := by
      have h0 := hcell 0 (by omega)
      simpa [Addr.add] using World.cell?_spot h0
    obtain ⟨b, o, s⟩ := x
    cases hx
    have hcl : cellsAt W b o ((xs.take len).map fun b => Value.int .i64 b) := by
      intro j u hj
      have hj2 : j < (xs.take len).length := by
        have := (List.getElem?_eq_some_iff.1 hj).1
        simpa using this
      have h1 := hcell j (by omega)
      rw [add_plain] at h1
      rw [h1]
      rw [List.getElem?_map, List.getElem?_take, if_pos (by omega)] at hj
      rw [List.getD_eq_getElem?_getD]
      cases hq : xs[j]? with
      | none => rw [hq] at hj; cases hj
      | some y =>
        rw [hq] at hj
        simpa using hj
    refine ⟨b, o, _, rfl, trivial, i64_rowRep _ (fun n hn => lit_i64 (hwz n (List.mem_of_mem_take hn))), hcl, ?_⟩
    have h0 := hcell 0 (by omega)
    rw [add_plain] at h0
    cases hb : W.heap[b]? with
    | none => simp [World.cell?, hb] at h0
    | some _ => exact (Array.getElem?_eq_some_iff.1 hb).1
end Go.Wk
