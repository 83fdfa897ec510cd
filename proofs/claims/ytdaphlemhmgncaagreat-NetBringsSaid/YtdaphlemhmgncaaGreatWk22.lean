/- A small calculus of weakest preconditions over the kit's code: rules for the operations, proved for all programs. -/
import Derived.Test.YtdaphlemhmgncaaGreatWk19
import Derived.Test.YtdaphlemhmgncaaGreatKinds
set_option linter.unusedVariables false
set_option linter.unusedSimpArgs false
section
namespace Go.Wk
open Go Go.RowKit
/-! ### Rows of states, and structs read out of one's own rows -/
abbrev StT := List Pair × List Sess
def kSt : Kd StT := Kd.of (β := (Option Addr × Nat) × (Option Addr × Nat)) 2 (fun (x : StT) (y : (Option Addr × Nat) × (Option Addr × Nat)) => [.slice y.1.1 x.1.length y.1.2, .slice y.2.1 x.2.length y.2.2]) (fun (x : StT) (y : (Option Addr × Nat) × (Option Addr × Nat)) => [.dat kPair.sl x.1 [.slice y.1.1 x.1.length y.1.2], .dat kSess.sl x.2 [.slice y.2.1 x.2.length y.2.2]]) (fun (x : StT) => x.1.length ≤ BIG ∧ x.2.length ≤ BIG) (fun _ _ => rfl) (by intro x y u hu; simp only [List.mem_cons, List.not_mem_nil, or_false] at hu; rcases hu with rfl | rfl <;> rfl) (by intro x y a ha; simp only [List.mem_cons, List.not_mem_nil, or_false] at ha; rcases ha with rfl | rfl <;> rfl)
section
variable {P : Program} {Q : Post} {n : Nat} {k : List It} {ρ : Env} {ops : Array Oper} {rest : List Oper}
variable {w0 : World} {ok0 M : Nat → Prop} {X R : List Atom}
variable {d : Nat} {t : TypeId} {pos : String} {after : Array Edge} {g : Option (Nat × Bool)} {x y c : Operand} {v u : Value} {t' : TypeId} {A : World → Prop}
theorem HO_loadOwnA {α β : Type} {kd : Kd α} {cs : α → β → List Value} {fs : α → β → List Atom} {I : α → Prop} (ho : Opens kd β cs fs I) {T : TypeId} {xs : List α} {a : Option Addr} {cp i j q gb m : Nat} {z : α} (hw : wantedB ops ρ g = some true) (hn : Nat.blt d n = true) (hx : ev ρ x = some (.pointer (some ⟨gb, q, none⟩)))
    (ht : ∀ w, (isAgg t).run P w = .ok true w) (hs : ∀ w, (sizeOf t).run P w = .ok m w) (hk : kd.n = m) (hi : X[i]? = some (.own T kd a cp xs)) (ha : a = some ⟨gb, 0, none⟩) (hq : j * m = q) (hz : xs[j]? = some z)
    (h : ∀ yy, I z → HO P Q n ops rest k ((d, .agg (cs z yy).toArray) :: ρ) (Asn w0 ok0 M (fs z yy ++ X))) : HO P Q n ops (⟨some d, .load t x, t', pos, after, g⟩ :: rest) k ρ (Asn w0 ok0 M X) := by
  subst hk hq
  refine HO_valw (β := {yy : β // I z}) (val := fun yy => .agg (cs z yy.1).toArray) (B := fun yy => Asn w0 ok0 M (fs z yy.1 ++ X)) hw rfl hn (fun ac w hf hA => ?_) (fun yy => h yy.1 yy.2)
  obtain ⟨g', us, c1, ts, e, hg, hl, hrep, _⟩ := own_at (hA.get hi) hz
  rw [ha] at e
  cases e
  obtain ⟨hI, yy, rfl, hfs⟩ := ho.out hrep
  refine ⟨⟨yy, hI⟩, w, ?_, hA.adds hfs⟩
  have hc : cellsAt w gb (j * kd.n) (cs z yy) := fun q u hq => by
    have hlt : q < (cs z yy).length := (List.getElem?_eq_some_iff.1 hq).1
    simp only [World.cell?, hg]
    show (us ++ (cs z yy ++ ts)).toArray[j * kd.n + q]? = some u
    rw [List.getElem?_toArray, ← hl, List.getElem?_append_right (by omega), Nat.add_sub_cancel_left, List.getElem?_append_left hlt]
    exact hq
  have hlen : (cs z yy).length = kd.n := kd.len hrep
  simp [execOp, hf.ev hx, Instr.loadAt, Instr.sureAddr, run_loadVarA (ht w) (by rw [hlen]; exact hs w) hc]
theorem SrcOk.part {α : Type} {kd : Kd α} {ys : List α} {u' e : TypeId} {a : Option Addr} {m cp j l h' : Nat} (hu : P.underlying u' = some (.slice e)) (hj : X[j]? = some (.dat kd.sl ys [.slice a m cp])) (h1 : l ≤ h') (h2 : h' ≤ ys.length) : SrcOk P u' X kd (.slice (if cp = l then a else a.map (·.add (l * kd.n))) (h' - l) (cp - l)) ((ys.take h').drop l) :=
  fun ok w hall => by
    have hd := hall _ (List.mem_of_getElem? hj)
    have hd0 := hd
    obtain ⟨a1, c1, he, e1, e2, e3, e4⟩ := hd0
    simp only [List.cons.injEq, Value.slice.injEq, and_true] at he
    obtain ⟨rfl, rfl, rfl⟩ := he
    have hp := sl_part hd rfl h1 h2 (Nat.le_refl cp) (by omega)
    obtain ⟨a', c', q1, q2⟩ := hp
    have hlen : ((ys.take h').drop l).length = h' - l := by rw [List.length_drop, List.length_take]; omega
    rw [sliced_is] at q1
    rw [q1]
    exact Src.of_dat hu q2
end
end Go.Wk
namespace Go.Wk
open Go Go.RowKit
section
variable {P : Program} {n : Nat} {ρ : Env} {d : Nat} {t : TypeId} {pos : String} {after : Array Edge} {g : Option (Nat × Bool)} {x : Operand} {t' : TypeId} {A : World → Prop}
theorem V_sliceA_h {a : Option Addr} {m cp sz h' : Nat} {e : TypeId} {hk : IntKind} {hi' : Int} {yh : Operand} (hx : ev ρ x = some (.slice a m cp)) (hz : ev ρ yh = some (.int hk hi')) (hh : hi' = (h' : Int)) (ht : P.underlying t = some (.slice e)) (hs : ∀ w, (sizeOf e).run P w = .ok sz w) (h1 : h' ≤ cp) :
    Val P n ρ A ⟨some d, .slice t x none (some yh) none, t', pos, after, g⟩ (.slice (if cp = 0 then a else a.map (·.add (0 * sz))) (h' - 0) (cp - 0)) := fun ac w hf _ => by
  obtain rfl : P.elem t = e := elem_of ht
  subst hh
  have hr := run_slice_h (P := P) w t a m cp ht hk (h' : Int) (by omega) (by omega)
  simp only [hs w, Result.andThen_ok, Int.toNat_natCast, sliced_is] at hr
  simp [execOp, hf.ev hx, hf.ev hz, run_sliceAt_slice w t _ _ _ _ ht, hr]
end
end Go.Wk
end
section
namespace Go.Wk
open Go Go.RowKit
/-! ### Rows of bools -/


end Go.Wk
end
