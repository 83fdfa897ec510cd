/- A small calculus of weakest preconditions over the kit's code: rules for the operations, proved for all programs. -/
import Derived.Test.YtondhngfjngngaaWk13
set_option linter.unusedVariables false
set_option linter.unusedSimpArgs false
namespace Go.Wk
open Go Go.RowKit
section
variable {P : Program} {Q : Post} {n : Nat} {k : List It} {ρ : Env} {ops : Array Oper} {rest : List Oper}
variable {w0 : World} {ok0 M : Nat → Prop} {X R : List Atom}
variable {d : Nat} {t : TypeId} {pos : String} {after : Array Edge} {g : Option (Nat × Bool)} {x y c : Operand} {v u : Value} {t' : TypeId} {A : World → Prop}
/-- A part of one's own row, lent as data for a call. -/
def PartOf {α : Type} (d : Kd α) (a : Option Addr) (c : Nat) (xs ys : List α) (v : Value) : Prop := ∀ ok w, d.sl.rep ok w xs [.slice a xs.length c] → d.sl.rep ok w ys [v]
theorem Spec.lendPart {F : FuncId} {args : Array Value} {pre1 pre2 : List Atom} {β : Type} {val : β → Value} {I : β → Prop} {new : β → List Atom} {α : Type} {d : Kd α} {T : TypeId} {a : Option Addr} {c : Nat} {xs ys : List α} {v : Value}
    (hS : Spec P F args (pre1 ++ .dat d.sl ys [v] :: pre2) val I new) (hm : PartOf d a c xs ys v) (hf : ∀ y, ∀ at' ∈ new y, at'.Flat) : Spec P F args (pre1 ++ .own T d a c xs :: pre2) val I (fun y => .own T d a c xs :: new y) := by
  intro w ok hA
  have hmem : ∀ at', at' ∈ pre1 ∨ at' ∈ pre2 → at' ∈ pre1 ++ .own T d a c xs :: pre2 := fun at' h => by
    rcases h with h | h
    · exact List.mem_append_left _ h
    · exact List.mem_append_right _ (List.mem_cons_of_mem _ h)
  have hown : (.own T d a c xs : Atom) ∈ pre1 ++ .own T d a c xs :: pre2 := List.mem_append_right _ (List.mem_cons_self ..)
  have hsub : ∀ b, blks (pre1 ++ .dat d.sl ys [v] :: pre2) b → blks (pre1 ++ .own T d a c xs :: pre2) b := by
    rintro b ⟨at', ha, hb⟩
    rcases List.mem_append.1 ha with ha | ha
    · exact ⟨at', hmem _ (.inl ha), hb⟩
    · rcases List.mem_cons.1 ha with rfl | ha
      · cases hb
      · exact ⟨at', hmem _ (.inr ha), hb⟩
  have hperm : (pre1 ++ .own T d a c xs :: pre2).Perm (.own T d a c xs :: (pre1 ++ pre2)) := List.perm_middle
  have happ := (hA.perm hperm).apart
  rw [List.pairwise_cons] at happ
  have hg : ∀ b, ownBlk a c = some b → b < w.heap.size ∧ ¬ blks (pre1 ++ .dat d.sl ys [v] :: pre2) b := by
    intro b hb
    refine ⟨(hA.lt _ hown b hb).1, ?_⟩
    rintro ⟨at', ha, hb'⟩
    have hin : at' ∈ pre1 ++ pre2 := by
      rcases List.mem_append.1 ha with ha | ha
      · exact List.mem_append_left _ ha
      · rcases List.mem_cons.1 ha with rfl | ha
        · cases hb'
        · exact List.mem_append_right _ ha
    exact happ.1 at' hin b hb hb'
  let ok' : Nat → Prop := fun b => ok b ∨ ownBlk a c = some b
  have hok : ∀ b, okX w ok (pre1 ++ .own T d a c xs :: pre2) b → okX w ok' (pre1 ++ .dat d.sl ys [v] :: pre2) b := fun b hb => ⟨fun h => .inl (hb.1 h), fun h => hb.2 (hsub b h)⟩
  have hA' : Asn w ok' (blks (pre1 ++ .dat d.sl ys [v] :: pre2)) (pre1 ++ .dat d.sl ys [v] :: pre2) w := by
    refine ⟨Ext.refl _ _, ?_, fun at' ha g hgg => ⟨?_, fun _ => ⟨at', ha, hgg⟩⟩, fun at' ha => ?_⟩
    · have hp2 : (pre1 ++ .dat d.sl ys [v] :: pre2).Perm (.dat d.sl ys [v] :: (pre1 ++ pre2)) := List.perm_middle
      refine (hp2.pairwise_iff (fun {x y} hxy g hg he => hxy g he hg)).2 (List.pairwise_cons.2 ⟨fun _ _ g hg => absurd hg (by simp [Atom.dat]), happ.2⟩)
    · rcases List.mem_append.1 ha with ha | ha
      · exact (hA.lt _ (hmem _ (.inl ha)) g hgg).1
      · rcases List.mem_cons.1 ha with rfl | ha
        · cases hgg
        · exact (hA.lt _ (hmem _ (.inr ha)) g hgg).1
    · rcases List.mem_append.1 ha with ha | ha
      · exact at'.keep (hA.holds _ (hmem _ (.inl ha))) (fun _ _ => rfl) fun b _ hb => ⟨hok b hb, rfl⟩
      · rcases List.mem_cons.1 ha with rfl | ha
        · have ho := hA.holds _ hown
          exact hm _ _ (own_sl ho (fun b _ hb => hok b hb) (fun b hb => ⟨fun _ => .inr hb, (hg b hb).2⟩) (own_nil ho))
        · exact at'.keep (hA.holds _ (hmem _ (.inr ha))) (fun _ _ => rfl) fun b _ hb => ⟨hok b hb, rfl⟩
  refine (hS w ok' hA').mono ?_
  rintro e w' ⟨y, he, hI, hn⟩
  refine ⟨y, he, hI, ?_⟩
  have hnb : ∀ b, blks (new y) b → b < w'.heap.size ∧ (b < w.heap.size → blks (pre1 ++ .dat d.sl ys [v] :: pre2) b) := fun b ⟨at', ha, hb⟩ => hn.lt at' ha b hb
  refine ⟨⟨hn.ext.os, hn.ext.tape, hn.ext.output, hn.ext.size, fun b hb hm => hn.ext.block b hb fun h => hm (hsub b h)⟩, List.pairwise_cons.2 ⟨fun at' ha g hg1 hg2 => ?_, hn.apart⟩, fun at' ha g hgg => ?_, fun at' ha => ?_⟩
  · have h1 := hg g hg1
    exact h1.2 ((hnb g ⟨at', ha, hg2⟩).2 h1.1)
  · rcases List.mem_cons.1 ha with rfl | ha
    · exact ⟨Nat.lt_of_lt_of_le (hg g hgg).1 hn.ext.size, fun _ => ⟨_, hown, hgg⟩⟩
    · have h1 := hnb g ⟨at', ha, hgg⟩
      exact ⟨h1.1, fun hl => hsub g (h1.2 hl)⟩
  · rcases List.mem_cons.1 ha with rfl | ha
    · refine Atom.keep _ (hA.holds _ hown) (fun b hb => hn.ext.block b (hg b hb).1 (hg b hb).2) fun b hb hk => ?_
      have hnp : ¬ blks (pre1 ++ .dat d.sl ys [v] :: pre2) b := fun h => hk.2 (hsub b h)
      refine ⟨⟨fun h => hk.1 h, ?_⟩, hn.ext.block b hb hnp⟩
      rintro ⟨a2, ha2, hb2⟩
      rcases List.mem_cons.1 ha2 with rfl | ha2
      · exact hk.2 ⟨_, hown, hb2⟩
      · exact hnp ((hnb b ⟨a2, ha2, hb2⟩).2 hb)
    · exact hf y at' ha (hn.holds at' ha)

/-- A beginning of one's own row, as a value alone. -/
theorem HO_sliceOwn_h {α : Type} {kd : Kd α} {e T : TypeId} {xs : List α} {a : Option Addr} {m cp i h' sz : Nat} {hk : IntKind} {hi' : Int} {yh : Operand}
    (hw : wantedB ops ρ g = some true) (hn : Nat.blt d n = true) (hx : ev ρ x = some (.slice a m cp)) (hz : ev ρ yh = some (.int hk hi')) (hh : hi' = (h' : Int)) (ht : P.underlying t = some (.slice e)) (hs : ∀ w, (sizeOf e).run P w = .ok sz w) (hsz : sz = kd.n)
    (hi : X[i]? = some (.own T kd a cp xs)) (hm : m = xs.length) (h2 : h' ≤ xs.length)
    (h : ∀ a' c', PartOf kd a cp xs (xs.take h') (.slice a' (xs.take h').length c') → HO P Q n ops rest k ((d, .slice a' (xs.take h').length c') :: ρ) (Asn w0 ok0 M X)) :
    HO P Q n ops (⟨some d, .slice t x none (some yh) none, t', pos, after, g⟩ :: rest) k ρ (Asn w0 ok0 M X) := by
  subst hsz
  refine HO_valw (β := {q : Option Addr × Nat // PartOf kd a cp xs (xs.take h') (.slice q.1 (xs.take h').length q.2)}) (val := fun q => .slice q.1.1 (xs.take h').length q.1.2) (B := fun _ => Asn w0 ok0 M X) hw rfl hn (fun ac w hf hA => ?_) (fun q => h q.1.1 q.1.2 q.2)
  obtain rfl : P.elem t = e := elem_of ht
  subst hm hh
  have ho := hA.get hi
  have hrep := own_sl (ok' := fun _ => True) ho (fun _ _ _ => trivial) (fun _ _ => trivial) (own_nil ho)
  obtain ⟨a1, c1, e0, hle, hmx, _⟩ := hrep
  obtain ⟨rfl, rfl⟩ : a = a1 ∧ cp = c1 := by simpa using e0
  have hlen : (xs.take h').length = h' := by simp; omega
  have hpart : PartOf kd a cp xs (xs.take h') (.slice (if cp = 0 then a else a.map (·.add (0 * kd.n))) (xs.take h').length (cp - 0)) := by
    intro ok w hr
    have hp := sl_part hr rfl (Nat.zero_le h') h2 (Nat.le_refl cp) (by omega)
    rw [List.drop_zero] at hp
    obtain ⟨a', c', e1, e2⟩ := hp
    have e3 : sliced a 0 h' cp kd.n = .slice (if cp = 0 then a else a.map (·.add (0 * kd.n))) (xs.take h').length (cp - 0) := by
      unfold sliced
      rw [hlen, Nat.sub_zero]
    rw [e3] at e1
    rw [e1]
    exact e2
  refine ⟨⟨(if cp = 0 then a else a.map (·.add (0 * kd.n)), cp - 0), hpart⟩, w, ?_, hA⟩
  have hr := run_slice_h (P := P) w t a xs.length cp ht hk (h' : Int) (by omega) (by omega)
  have e3 : sliced a 0 h' cp kd.n = .slice (if cp = 0 then a else a.map (·.add (0 * kd.n))) (xs.take h').length (cp - 0) := by
    unfold sliced
    rw [hlen, Nat.sub_zero]
  simp only [hs w, Result.andThen_ok, Int.toNat_natCast, e3] at hr
  simp [execOp, hf.ev hx, hf.ev hz, run_sliceAt_slice w t _ _ _ _ ht, hr]
end
end Go.Wk
