/- A small calculus of weakest preconditions over the kit's code: rules for the operations, proved for all programs. -/
import Derived.Test.YtondhngfjngngaaWk12
set_option linter.unusedVariables false
set_option linter.unusedSimpArgs false
namespace Go.Wk
open Go Go.RowKit
section
variable {P : Program} {Q : Post} {n : Nat} {k : List It} {ρ : Env} {ops : Array Oper} {rest : List Oper}
variable {w0 : World} {ok0 M : Nat → Prop} {X R : List Atom}
variable {d : Nat} {t : TypeId} {pos : String} {after : Array Edge} {g : Option (Nat × Bool)} {x y c : Operand} {v u : Value} {t' : TypeId} {A : World → Prop}
theorem append_make {e u' us ty : TypeId} {ik ik' : IntKind} {a : Option Addr} {l cp m : Nat} {w : World} (ht : P.underlying t = some (.slice e)) (he : Elt P e (.int .u8 0) 1 1) (hu : P.underlying u' = some (.int ik')) (hus : P.underlying us = some .string) (hb : l + m ≤ 140737488355328) (h0 : 0 < m) :
    (Builtin.append_ #[t, u'] ty #[.slice a l cp, .int ik (m : Int)]).run P w = (Builtin.append_ #[t, us] ty #[.slice a l cp, .string ⟨Array.replicate m 0⟩]).run P w := by
  obtain ⟨i, hi, hz, hsz, hbb, hzs, hpos, hbpos⟩ := he
  have hwr : IntKind.i64.wrap (m : Int) = (m : Int) := wrap_i64 (by omega) (by omega)
  have n1 : ¬ ((m : Int) < 0) := by omega
  have n2 : ¬ (281474976710656 < (m : Int)) := by omega
  have hsize : (⟨Array.replicate m 0⟩ : ByteArray).size = m := by simp [ByteArray.size]
  have hfc : Builtin.firstCells 1 m (.string ⟨Array.replicate m 0⟩) = pure (Builtin.zeroCells (Value.int .u8 0).cells m) := by
    show (pure (((⟨Array.replicate m 0⟩ : ByteArray).extract 0 m).data.map fun b => Value.int .u8 (b.toNat : Int)) : Sem (Array Value)) = pure (Builtin.zeroCells (Value.int .u8 0).cells m)
    congr 1
    unfold Builtin.zeroCells
    apply Array.ext
    · simp [Value.cells, ByteArray.extract, ByteArray.copySlice]
    · intro j h1 h2
      simp [Value.cells, ByteArray.extract, ByteArray.copySlice, Nat.mod_one]
  have happ : (if m * 1 = 0 then (pure #[] : Sem (Array Value)) else pure (Builtin.zeroCells (Value.int .u8 0).cells m)) = pure (Builtin.zeroCells (Value.int .u8 0).cells m) := by
    split
    · rename_i h
      have : m = 0 := by omega
      subst this
      congr 1
      simp [Builtin.zeroCells]
    · rfl
  have hnot : ¬ (9223372036854775807 < ((l : Int) + (m : Int))) := by omega
  have hm0 : ¬ m = 0 := by omega
  by_cases hc : l + m ≤ cp
  · simp [Builtin.append_, run_underlying ht, run_underlying hu, run_underlying hus, sizeOf, typeInfo, zeroValue, hi, hz, hsz, hbb, asInt, asIntOf, hwr, n1, n2, Builtin.lenOf, hsize, hc, hfc, hm0]
  · have hfit := growslice_fits (need := l + m) (old := cp) (bytes := 1) (by omega) (by omega)
    have h48 : ¬ (281474976710656 < Builtin.nextslicecap (l + m) cp) := by omega
    simp [Builtin.append_, run_underlying ht, run_underlying hu, run_underlying hus, sizeOf, typeInfo, zeroValue, hi, hz, hsz, hbb, asInt, asIntOf, hwr, n1, n2, Builtin.lenOf, hsize, hc, hfc, hnot, h48, hm0]
theorem HO_appendMake {e u' us m cp i mm : Nat} {ik ik' : IntKind} {xs : List UInt8} {a : Option Addr}
    (hw : wantedB ops ρ g = some true) (hn : Nat.blt d n = true) (hx : ev ρ x = some (.slice a m cp)) (hy : ev ρ y = some (.int ik (mm : Int))) (hm : m = xs.length) (ht : P.underlying t = some (.slice e)) (he : Elt P e (.int .u8 0) 1 1) (hu : P.underlying u' = some (.int ik')) (hus : P.underlying us = some .string)
    (hp : picks [i] X = some ([.own e kByte a cp xs], R)) (hb : xs.length + mm ≤ 140737488355328) (h0 : 0 < mm)
    (h : ∀ a' c', HO P Q n ops rest k ((d, .slice a' (xs ++ List.replicate mm 0).length c') :: ρ) (Asn w0 ok0 M (.own e kByte a' c' (xs ++ List.replicate mm 0) :: R))) :
    HO P Q n ops (⟨some d, .call ⟨.builtin .append, #[x, y], #[t, u']⟩, t', pos, after, g⟩ :: rest) k ρ (Asn w0 ok0 M X) := by
  have h63 : xs.length + (List.replicate mm (0 : UInt8)).length ≤ maxLen := by simp only [maxLen, List.length_replicate]; omega
  refine HO_valw (β := Option Addr × Nat) (val := fun q => .slice q.1 (xs ++ List.replicate mm 0).length q.2) (B := fun q => Asn w0 ok0 M (.own e kByte q.1 q.2 (xs ++ List.replicate mm 0) :: R)) hw rfl hn (fun ac w hf hA => ?_) (fun q => h q.1 q.2)
  have hA' := hA.pick hp
  obtain ⟨hsrc, hr⟩ := Src.of_str (P := P) (w := w) (ok := okX w0 ok0 ([.own e kByte a cp xs] ++ R)) (s := ⟨Array.replicate mm 0⟩) hus
  have hl : (⟨Array.replicate mm 0⟩ : ByteArray).data.toList = List.replicate mm (0 : UInt8) := by simp
  rw [hl] at hsrc hr
  have hown := hA'.holds (.own e kByte a cp xs) (List.mem_cons_self ..)
  obtain ⟨a', c', w', hrun, hext, hp', hb'⟩ := run_app (P := P) (t := t) (u := us) (ty := t') ht he rfl hown hsrc hr h63 (by simp only [List.length_replicate]; omega)
  refine ⟨(a', c'), w', ?_, ?_⟩
  · subst hm
    have hmk := append_make (w := w) (ty := t') (ik := ik) (a := a) (l := xs.length) (cp := cp) (m := mm) ht he hu hus hb h0
    simp [execOp, resolve, hf.ev hx, hf.ev hy, invoke, builtin, hmk, hrun]
  · refine Asn.frame (pre := [.own e kByte a cp xs]) hA' ⟨?_, List.pairwise_singleton _ _, ?_, ?_⟩
    · exact ⟨hext.os, hext.tape, hext.output, hext.size, fun b hb1 hb2 => hext.block b hb1 fun hb3 => hb2 ⟨_, List.mem_cons_self .., hb3⟩⟩
    · intro at' ha b hb1
      rw [List.mem_singleton.1 ha] at hb1
      have := hb' b hb1
      exact ⟨this.1, fun hl => ⟨_, List.mem_cons_self .., this.2 hl⟩⟩
    · intro at' ha
      rw [List.mem_singleton.1 ha]
      refine hp' _ (fun b hok hbb => hok.2 ⟨_, List.mem_append_left _ (List.mem_cons_self ..), hbb⟩) fun b hbl hok => ⟨fun _ => hok, ?_⟩
      rintro ⟨at2, ha2, hb2⟩
      rw [List.mem_singleton.1 ha2] at hb2
      have := (hb' b hb2).2 hbl
      exact hok.2 ⟨_, List.mem_append_left _ (List.mem_cons_self ..), this⟩
end
end Go.Wk
