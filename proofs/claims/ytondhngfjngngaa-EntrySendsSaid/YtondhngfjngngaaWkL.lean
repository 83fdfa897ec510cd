/- A small calculus of weakest preconditions over the kit's code: rules for the operations, proved for all programs. -/
import Derived.Test.YtondhngfjngngaaWk11
import Derived.WalkKit
import Derived.ProofKit
import Derived.OpenShut
import Derived.ShutString
import Derived.ChangeOld
import Derived.Below
import Derived.SizedLaws
set_option linter.unusedVariables false
set_option linter.unusedSimpArgs false
namespace Go.Wk
open Go Go.RowKit Go.ChangeShapes Go.WideShapes Go.ChangeAt

/-! ### From a contract to a law's row -/
theorem Spec.law {P : Program} {F : FuncId} {args : Array Value} {pre : List Atom} {β : Type} {val : β → Value} {I : β → Prop} {new : β → List Atom} (hS : Spec P F args pre val I new) {w : World} (hb : ∀ a ∈ pre, a.blk = none) (hp : ∀ a ∈ pre, a.p (fun _ => True) w) (hv : ∀ y, I y → val y = .bool true) :
    Calls P F args w fun e w' => e = .returned (.bool true) ∧ Below w.heap.size w w' := by
  have hA : Asn w (fun _ => True) (blks pre) pre w :=
    ⟨Ext.refl _ _, List.pairwise_of_forall_mem_list (fun a ha b _ g hg => absurd ((hb a ha).symm.trans hg) (by simp)), (fun a ha g hg => absurd ((hb a ha).symm.trans hg) (by simp)), fun a ha => Atom.keep a (hp a ha) (fun _ _ => rfl) (fun b _ _ => ⟨⟨fun _ => trivial, blks_none hb b⟩, rfl⟩)⟩
  refine (hS w _ hA).mono ?_
  rintro e w' ⟨y, rfl, hI, hn⟩
  exact ⟨by rw [hv y hI], hn.ext.os, hn.ext.tape, hn.ext.output, hn.ext.size, fun b hb' => hn.ext.block b hb' (blks_none hb b)⟩

theorem bytes_of_ints : ∀ {zs : List Int}, (∀ n ∈ zs, (Lit.int .u8 n).wf = true) → ∃ xs : List UInt8, zs = xs.map fun b => (b.toNat : Int)
  | [], _ => ⟨[], rfl⟩
  | z :: zs, h => by
    obtain ⟨xs, rfl⟩ := bytes_of_ints (zs := zs) (fun n hn => h n (List.mem_cons_of_mem _ hn))
    have hz := h z (List.mem_cons_self ..)
    have h2 : 0 ≤ z ∧ z < 256 := by
      simp [Lit.wf, IntKind.min, IntKind.max, IntKind.bits, IntKind.signed] at hz
      omega
    refine ⟨UInt8.ofNat z.toNat :: xs, ?_⟩
    rw [List.map_cons]
    congr 1
    simp
    omega
theorem bytes_rowRep {ok : Nat → Prop} {w : World} : ∀ xs : List UInt8, rowRep kByte ok w xs (xs.map fun b => Value.int .u8 (b.toNat : Int))
  | [] => rfl
  | _ :: xs => ⟨[_], _, rfl, ⟨rfl, trivial⟩, bytes_rowRep xs⟩
theorem open_bytes {H : Type} {enc : TypeId × Value → H} {P : Program} {W : World} {r : Reach} {b0 : Nat} {t e : TypeId} {v : Value} {d : DataW H} {ps : List MemPlace} (ht : P.underlying t = some (.slice e)) (he : P.underlying e = some (.int .u8)) (hc : P.cellsOf e = 1) (hval : Value.okWide P W r b0 t v) (hd : DataW.Trod enc P W 0 (fun _ => true) true t v d ps) :
    ∃ (a : Option Addr) (c : Nat) (xs : List UInt8), v = .slice a xs.length c ∧ kByte.sl.rep (fun _ => True) W xs [.slice a xs.length c] ∧
      ∀ {ts : List TypeId} {ds : List (DataW H)} {j : Nat}, (DataW.weightsEach P ts ds).all (· ≤ reachBytes) = true → ts[j]? = some t → ds[j]? = some d → P.bytesOf e = 1 → xs.length ≤ 140737488351232 := by
  obtain ⟨a, len, cap, rfl⟩ := okWide_slice ht hval
  obtain ⟨fuel, hf⟩ := hd
  rcases open_ints ht he hc hf with ⟨hcs, _⟩ | ⟨x, l, c, zs, hcs, _, hl, hm, hz, hxx, hcell, hwz⟩
  · simp [Value.cells] at hcs
    obtain ⟨rfl, rfl, rfl⟩ := hcs
    exact ⟨none, 0, [], rfl, ⟨none, 0, rfl, Nat.le_refl _, Nat.zero_le _, fun _ => rfl, fun h => absurd h (Nat.lt_irrefl _)⟩, fun _ _ _ _ => by simp⟩
  · simp [Value.cells] at hcs
    obtain ⟨rfl, rfl, rfl⟩ := hcs
    simp only [if_true] at hz
    obtain ⟨xs, rfl⟩ := bytes_of_ints hwz
    rw [List.length_map] at hz
    have hlen : (xs.take len).length = len := by simp; omega
    refine ⟨some x, cap, xs.take len, by rw [hlen], ⟨some x, cap, rfl, by omega, hm, by simp, fun hp => ?_⟩, fun hsz h1 h2 h3 => ?_⟩
    rotate_left
    · obtain ⟨hx, _⟩ := Prod.mk.inj hxx
      subst hx
      have z := sized_slice hsz h1 h2 ht
      rw [h3] at z
      simp [lits, reachBytes] at z
      omega
    have hx : x.spot = none := by
      have h0 := hcell 0 (by simp; omega)
      simpa [Addr.add] using World.cell?_spot h0
    obtain ⟨b, o, s⟩ := x
    cases hx
    have hcl : cellsAt W b o ((xs.take len).map fun b => Value.int .u8 (b.toNat : Int)) := by
      intro j u hj
      have hj2 : j < (xs.take len).length := by
        have := (List.getElem?_eq_some_iff.1 hj).1
        simpa using this
      have h1 := hcell j (by simp; omega)
      rw [add_plain] at h1
      rw [h1]
      rw [List.getElem?_map, List.getElem?_take, if_pos (by omega)] at hj
      rw [List.getD_eq_getElem?_getD, List.getElem?_map]
      cases hq : xs[j]? with
      | none => rw [hq] at hj; cases hj
      | some y =>
        rw [hq] at hj
        simpa using hj
    refine ⟨b, o, _, rfl, trivial, bytes_rowRep _, hcl, ?_⟩
    have h0 := hcell 0 (by simp; omega)
    rw [add_plain] at h0
    cases hb : W.heap[b]? with
    | none => simp [World.cell?, hb] at h0
    | some _ => exact (Array.getElem?_eq_some_iff.1 hb).1
theorem lit_u64 {n : Int} (h : (Lit.int .u64 n).wf = true) : ∃ u : Nat, n = (u : Int) ∧ u < 18446744073709551616 := by
  simp [Lit.wf, IntKind.min, IntKind.max, IntKind.bits, IntKind.signed] at h
  exact ⟨n.toNat, by omega, by omega⟩
theorem lit_u8 {n : Int} (h : (Lit.int .u8 n).wf = true) : ∃ u : UInt8, n = (u.toNat : Int) := by
  simp [Lit.wf, IntKind.min, IntKind.max, IntKind.bits, IntKind.signed] at h
  exact ⟨UInt8.ofNat n.toNat, by simp; omega⟩
theorem lit_i64 {n : Int} (h : (Lit.int .i64 n).wf = true) : -9223372036854775808 ≤ n ∧ n ≤ 9223372036854775807 := by
  simp [Lit.wf, IntKind.min, IntKind.max, IntKind.bits, IntKind.signed] at h
  omega
end Go.Wk
