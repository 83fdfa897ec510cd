/- A small calculus of weakest preconditions over the kit's code: rules for the operations, proved for all programs. -/
import Derived.Test.YtdaphlemhmgncaaGreatWk19
import Derived.Test.YtdaphlemhmgncaaGreatKinds
set_option linter.unusedVariables false
set_option linter.unusedSimpArgs false
section
namespace Go.Wk
open Go Go.RowKit
/-! ### Rows of states, and structs read out of one's own rows -/
abbrev StT := List Pair × List Sess
def kSt : Kd StT := Kd.of (β := (Option Addr × Nat) × (Option Addr × Nat)) 2 (fun (x : StT) (y : (Option Addr × Nat) × (Option Addr × Nat)) => [.slice y.1.1 x.1.length y.1.2, .slice y.2.1 x.2.length y.2.2]) (fun (x : StT) (y : (Option Addr × Nat) × (Option Addr × Nat)) => [.dat kPair.sl x.1 [.slice y.1.1 x.1.length y.1.2], .dat kSess.sl x.2 [.slice y.2.1 x.2.length y.2.2]]) (fun (x : StT) => x.1.length ≤ BIG ∧ x.2.length ≤ BIG) (fun _ _ => rfl) (by intro x y u hu; simp only [List.mem_cons, List.not_mem_nil, or_false] at hu; rcases hu with rfl | rfl <;> rfl) (by intro x y a ha; simp only [List.mem_cons, List.not_mem_nil, or_false] at ha; rcases ha with rfl | rfl <;> rfl)
section
variable {P : Program} {Q : Post} {n : Nat} {k : List It} {ρ : Env} {ops : Array Oper} {rest : List Oper}
variable {w0 : World} {ok0 M : Nat → Prop} {X R : List Atom}
variable {d : Nat} {t : TypeId} {pos : String} {after : Array Edge} {g : Option (Nat × Bool)} {x y c : Operand} {v u : Value} {t' : TypeId} {A : World → Prop}
theorem SrcOk.part {α : Type} {kd : Kd α} {ys : List α} {u' e : TypeId} {a : Option Addr} {m cp j l h' : Nat} (hu : P.underlying u' = some (.slice e)) (hj : X[j]? = some (.dat kd.sl ys [.slice a m cp])) (h1 : l ≤ h') (h2 : h' ≤ ys.length) : SrcOk P u' X kd (.slice (if cp = l then a else a.map (·.add (l * kd.n))) (h' - l) (cp - l)) ((ys.take h').drop l) :=
  fun ok w hall => by
    have hd := hall _ (List.mem_of_getElem? hj)
    have hd0 := hd
    obtain ⟨a1, c1, he, e1, e2, e3, e4⟩ := hd0
    simp only [List.cons.injEq, Value.slice.injEq, and_true] at he
    obtain ⟨rfl, rfl, rfl⟩ := he
    have hp := sl_part hd rfl h1 h2 (Nat.le_refl cp) (by omega)
    obtain ⟨a', c', q1, q2⟩ := hp
    have hlen : ((ys.take h').drop l).length = h' - l := by rw [List.length_drop, List.length_take]; omega
    rw [sliced_is] at q1
    rw [q1]
    exact Src.of_dat hu q2
end
end Go.Wk
namespace Go.Wk
open Go Go.RowKit
section
variable {P : Program} {n : Nat} {ρ : Env} {d : Nat} {t : TypeId} {pos : String} {after : Array Edge} {g : Option (Nat × Bool)} {x : Operand} {t' : TypeId} {A : World → Prop}
end
end Go.Wk
end
section
namespace Go.Wk
open Go Go.RowKit
/-! ### Rows of bools -/


end Go.Wk
end
section
namespace Go.Wk
open Go Go.RowKit
/-! ### Rows of rows -/
structure Hd where
  a : Option Addr
  n : Nat
  c : Nat
def kHd : Kd Hd := .flat 1 (fun x => [.slice x.a x.n x.c]) (fun _ => True) (fun _ => rfl) (by intro x u hu; simp at hu; subst hu; rfl)
structure Rw where
  a : Option Addr
  c : Nat
  b : List UInt8
abbrev Rw.hd (r : Rw) : Hd := ⟨r.a, r.b.length, r.c⟩
abbrev noRow : Rw := ⟨none, 0, []⟩
abbrev Rw.own (T : TypeId) (r : Rw) : Atom := .own T kByte r.a r.c r.b
def Atom.rows (T : TypeId) (G : List Rw) : Atom where
  blk := fun b => ∃ r ∈ G, ownBlk r.a r.c = some b
  p ok w := (G.Pairwise fun r s => ∀ g, ownBlk r.a r.c = some g → ownBlk s.a s.c = some g → False) ∧ ∀ r ∈ G, (r.own T).p ok w
  keep := by
    intro ok ok' w w' h hb hk
    exact ⟨h.1, fun r hr => Atom.keep _ (h.2 r hr) (fun b e => hb b ⟨r, hr, e⟩) hk⟩
section
variable {w0 : World} {ok0 M : Nat → Prop} {X R : List Atom} {w : World}
theorem blks_cons {a : Atom} {X : List Atom} (b : Nat) : blks (a :: X) b ↔ a.blk b ∨ blks X b := by simp [blks]
theorem Asn.part {A B C : Atom} (hb : ∀ b, A.blk b ↔ B.blk b ∨ C.blk b) (hp : ∀ ok w, A.p ok w → B.p ok w ∧ C.p ok w ∧ ∀ g, B.blk g → C.blk g → False) (h : Asn w0 ok0 M (A :: R) w) : Asn w0 ok0 M (B :: C :: R) w := by
  have hbl : ∀ b, blks (B :: C :: R) b ↔ blks (A :: R) b := fun b => by
    simp only [blks_cons, hb, or_assoc]
  have happ := List.pairwise_cons.1 h.apart
  have h0 := hp _ _ (h.holds A (List.mem_cons_self ..))
  have hok : ∀ b, okX w0 ok0 (A :: R) b → okX w0 ok0 (B :: C :: R) b := fun b hk => ⟨hk.1, fun hx => hk.2 ((hbl b).1 hx)⟩
  refine ⟨h.ext, List.pairwise_cons.2 ⟨fun x hx g hg hg2 => ?_, List.pairwise_cons.2 ⟨fun x hx g hg hg2 => happ.1 x hx g ((hb g).2 (.inr hg)) hg2, happ.2⟩⟩, fun x hx g hg => ?_, fun x hx => ?_⟩
  · rcases List.mem_cons.1 hx with rfl | hx
    · exact h0.2.2 g hg hg2
    · exact happ.1 x hx g ((hb g).2 (.inl hg)) hg2
  · rcases List.mem_cons.1 hx with rfl | hx
    · exact h.lt A (List.mem_cons_self ..) g ((hb g).2 (.inl hg))
    · rcases List.mem_cons.1 hx with rfl | hx
      · exact h.lt A (List.mem_cons_self ..) g ((hb g).2 (.inr hg))
      · exact h.lt x (List.mem_cons_of_mem _ hx) g hg
  · rcases List.mem_cons.1 hx with rfl | hx
    · exact Atom.keep _ h0.1 (fun _ _ => rfl) fun b _ hk => ⟨hok b hk, rfl⟩
    · rcases List.mem_cons.1 hx with rfl | hx
      · exact Atom.keep _ h0.2.1 (fun _ _ => rfl) fun b _ hk => ⟨hok b hk, rfl⟩
      · exact Atom.keep _ (h.holds x (List.mem_cons_of_mem _ hx)) (fun _ _ => rfl) fun b _ hk => ⟨hok b hk, rfl⟩
theorem Asn.whole {A B C : Atom} (hb : ∀ b, A.blk b ↔ B.blk b ∨ C.blk b) (hp : ∀ ok w, B.p ok w → C.p ok w → (∀ g, B.blk g → C.blk g → False) → A.p ok w) (h : Asn w0 ok0 M (B :: C :: R) w) : Asn w0 ok0 M (A :: R) w := by
  have hbl : ∀ b, blks (B :: C :: R) b ↔ blks (A :: R) b := fun b => by
    simp only [blks_cons, hb, or_assoc]
  have happ := List.pairwise_cons.1 h.apart
  have happ2 := List.pairwise_cons.1 happ.2
  have hok : ∀ b, okX w0 ok0 (B :: C :: R) b → okX w0 ok0 (A :: R) b := fun b hk => ⟨hk.1, fun hx => hk.2 ((hbl b).2 hx)⟩
  refine ⟨h.ext, List.pairwise_cons.2 ⟨fun x hx g hg hg2 => ?_, happ2.2⟩, fun x hx g hg => ?_, fun x hx => ?_⟩
  · rcases (hb g).1 hg with hg | hg
    · exact happ.1 x (List.mem_cons_of_mem _ hx) g hg hg2
    · exact happ2.1 x hx g hg hg2
  · rcases List.mem_cons.1 hx with rfl | hx
    · rcases (hb g).1 hg with hg | hg
      · exact h.lt B (List.mem_cons_self ..) g hg
      · exact h.lt C (List.mem_cons_of_mem _ (List.mem_cons_self ..)) g hg
    · exact h.lt x (List.mem_cons_of_mem _ (List.mem_cons_of_mem _ hx)) g hg
  · rcases List.mem_cons.1 hx with rfl | hx
    · exact Atom.keep _ (hp _ _ (h.holds B (List.mem_cons_self ..)) (h.holds C (List.mem_cons_of_mem _ (List.mem_cons_self ..))) (happ.1 C (List.mem_cons_self ..))) (fun _ _ => rfl) fun b _ hk => ⟨hok b hk, rfl⟩
    · exact Atom.keep _ (h.holds x (List.mem_cons_of_mem _ (List.mem_cons_of_mem _ hx))) (fun _ _ => rfl) fun b _ hk => ⟨hok b hk, rfl⟩
theorem eraseIdx_take_drop {α : Type} : ∀ (l : List α) (k : Nat), l.eraseIdx k = l.take k ++ l.drop (k + 1)
  | [], _ => by simp
  | x :: l, 0 => by simp
  | x :: l, k + 1 => by simp [eraseIdx_take_drop l k]
abbrev rowAt (G : List Rw) (k : Nat) : Rw := (G[k]?).getD noRow
end
section
variable {P : Program} {Q : Post} {n : Nat} {k : List It} {ρ : Env} {ops : Array Oper} {rest : List Oper}
variable {w0 : World} {ok0 M : Nat → Prop} {X R : List Atom}
variable {d : Nat} {t : TypeId} {pos : String} {after : Array Edge} {g : Option (Nat × Bool)} {x y c : Operand} {v u : Value} {t' : TypeId} {A : World → Prop}
end
section
variable {α : Type} {kd : Kd α} {ok : Nat → Prop} {w : World} {xs : List α} {vs cx : List Value} {x : α} {i : Nat}
theorem rowRep.parts2 (h : rowRep kd ok w xs vs) (hi : i ≤ xs.length) : rowRep kd ok w (xs.take i) (vs.take (i * kd.n)) ∧ rowRep kd ok w (xs.drop i) (vs.drop (i * kd.n)) := by
  have h0 := h
  rw [← List.take_append_drop i xs] at h
  obtain ⟨us, ts, rfl, h1, h2⟩ := rowRep.split h
  have hl := h1.len
  rw [List.length_take, Nat.min_eq_left hi] at hl
  rw [← hl, List.take_left, List.drop_left]
  exact ⟨h1, h2⟩
theorem rowRep.del2 (h : rowRep kd ok w xs vs) (hi : i < xs.length) : rowRep kd ok w (xs.take i ++ xs.drop (i + 1)) (vs.take (i * kd.n) ++ vs.drop ((i + 1) * kd.n)) :=
  (h.parts2 (Nat.le_of_lt hi)).1.append (h.parts2 hi).2
end
end Go.Wk
end
