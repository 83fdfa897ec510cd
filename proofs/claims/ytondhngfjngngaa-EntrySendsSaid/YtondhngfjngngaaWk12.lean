/- A small calculus of weakest preconditions over the kit's code: rules for the operations, proved for all programs. -/
import Derived.Test.YtondhngfjngngaaWk11
set_option linter.unusedVariables false
set_option linter.unusedSimpArgs false
namespace Go.Wk
open Go Go.RowKit
section
variable {P : Program} {Q : Post} {n : Nat} {k : List It} {ρ : Env} {ops : Array Oper} {rest : List Oper}
variable {w0 : World} {ok0 M : Nat → Prop} {X R : List Atom}
variable {d : Nat} {t : TypeId} {pos : String} {after : Array Edge} {g : Option (Nat × Bool)} {x y c : Operand} {v u : Value} {t' : TypeId} {A : World → Prop}
/-- One's own row that is not empty has an address. -/
theorem H_ownAddr {α : Type} {kd : Kd α} {T : TypeId} {xs : List α} {a : Option Addr} {cp i : Nat} (hi : X[i]? = some (.own T kd a cp xs)) (hlt : 0 < xs.length) (h : ∀ gb, a = some ⟨gb, 0, none⟩ → H P Q n k ρ (Asn w0 ok0 M X)) : H P Q n k ρ (Asn w0 ok0 M X) := by
  intro ac w hf hA
  obtain ⟨gb, us, cs, ts, e, _⟩ := own_at (hA.get hi) (List.getElem?_eq_getElem hlt)
  exact h gb e ac w hf hA
theorem V_indexC {b o j q m cp sz : Nat} {jk : IntKind} {ji : Int} {e : TypeId} (hx : ev ρ x = some (.slice (some ⟨b, o, none⟩) m cp)) (hy : ev ρ y = some (.int jk ji)) (hj : ji = (j : Int)) (ht : P.underlying t = some (.slice e)) (hs : ∀ w, (sizeOf e).run P w = .ok sz w) (hlt : j < m) (hq : o + j * sz = q) :
    Val P n ρ A ⟨some d, .indexAddr t x y, t', pos, after, g⟩ (.pointer (some ⟨b, q, none⟩)) := fun ac w hf hA => by
  subst hj hq
  simp [execOp, hf.ev hx, hf.ev hy, Instr.indexAt, asIntOf, run_underlying ht, hlt, hs w, add_plain]
theorem HO_indexC {b o j q m cp sz : Nat} {jk : IntKind} {ji : Int} {e : TypeId} (hw : wantedB ops ρ g = some true) (hn : Nat.blt d n = true) (hx : ev ρ x = some (.slice (some ⟨b, o, none⟩) m cp)) (hy : ev ρ y = some (.int jk ji)) (hj : ji = (j : Int)) (ht : P.underlying t = some (.slice e)) (hs : ∀ w, (sizeOf e).run P w = .ok sz w) (hlt : j < m) (hq : o + j * sz = q)
    (h : HO P Q n ops rest k ((d, .pointer (some ⟨b, q, none⟩)) :: ρ) A) : HO P Q n ops (⟨some d, .indexAddr t x y, t', pos, after, g⟩ :: rest) k ρ A :=
  HO_val hw rfl hn (V_indexC (g := g) hx hy hj ht hs hlt hq) h
theorem V_loadOwn {α : Type} {kd : Kd α} {T : TypeId} {xs : List α} {a : Option Addr} {cp i j q gb : Nat} {z : α} (hx : ev ρ x = some (.pointer (some ⟨gb, q, none⟩))) (ht : ∀ w, (isAgg t).run P w = .ok false w)
    (hi : X[i]? = some (.own T kd a cp xs)) (ha : a = some ⟨gb, 0, none⟩) (hq : j * kd.n = q) (hz : xs[j]? = some z) (hr : ∀ ok w cs, kd.rep ok w z cs → cs = [v]) :
    Val P n ρ (Asn w0 ok0 M X) ⟨some d, .load t x, t', pos, after, g⟩ v := fun ac w hf hA => by
  subst hq
  obtain ⟨g', us, cs, ts, e, hg, hl, hrep, _⟩ := own_at (hA.get hi) hz
  rw [ha] at e
  cases e
  have := hr _ _ _ hrep
  subst this
  have hc : w.cell? ⟨gb, j * kd.n, none⟩ = some v := by
    simp [World.cell?, hg, ← hl]
  simp [execOp, hf.ev hx, Instr.loadAt, Instr.sureAddr, run_loadVar1 (ht w) hc]
theorem bin_shli {k' : IntKind} {a : Int} {s : Nat} (hs : s ≤ 63) (h1 : -9223372036854775808 ≤ a * 2 ^ s) (h2 : a * 2 ^ s ≤ 9223372036854775807) : BinR P .shl t x y (.int .i64 a) (.int k' s) (.int .i64 (a * 2 ^ s)) :=
  bin_shift (.inl rfl) fun w => by
    have e : IntKind.i64.wrap (a * 2 ^ min s IntKind.i64.bits) = a * 2 ^ s := by
      rw [Nat.min_eq_left (by simp only [IntKind.bits]; omega)]
      exact wrap_i64 h1 h2
    have h0 : ¬ ((s : Int) < 0) := by omega
    simp [intSem, Op.shift, h0, e]
theorem HO_of_val {o : Oper} (hw : wantedB ops ρ o.guard = some true) (hd : o.dst = some d) (hn : Nat.blt d n = true) (hv : Val P n ρ A o v) (h : HO P Q n ops rest k ((d, v) :: ρ) A) : HO P Q n ops (o :: rest) k ρ A :=
  HO_val hw hd hn hv h
end
end Go.Wk
