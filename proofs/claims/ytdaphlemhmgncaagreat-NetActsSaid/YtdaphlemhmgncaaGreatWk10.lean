/- A small calculus of weakest preconditions over the kit's code: rules for the operations, proved for all programs. -/
import Derived.Test.YtdaphlemhmgncaaGreatWk9
set_option linter.unusedVariables false
set_option linter.unusedSimpArgs false
namespace Go.Wk
open Go Go.RowKit

def Atom.Flat (a : Atom) : Prop := ∀ {ok ok' : Nat → Prop} {w : World}, a.p ok w → a.p ok' w
theorem Atom.Flat.loc (g : Nat) (cs : List Value) (T : TypeId) : (Atom.loc g cs T).Flat := fun h => h
def Kd.Plain {α : Type} (d : Kd α) : Prop := ∀ {ok ok' : Nat → Prop} {w : World} {x : α} {cs : List Value}, d.rep ok w x cs → d.rep ok' w x cs
theorem rowRep.plain {α : Type} {d : Kd α} (hd : d.Plain) {ok ok' : Nat → Prop} {w : World} : ∀ {xs : List α} {vs : List Value}, rowRep d ok w xs vs → rowRep d ok' w xs vs
  | [], _, h => h
  | _ :: _, _, ⟨cs, rest, e, h1, h2⟩ => ⟨cs, rest, e, hd h1, rowRep.plain hd h2⟩
theorem Kd.Plain.flat {α : Type} {n : Nat} {enc : α → List Value} {inv : α → Prop} {hn : ∀ x, (enc x).length = n} {ho : ∀ x, ∀ u ∈ enc x, u.oneCell' = true} : (Kd.flat n enc inv hn ho).Plain := fun h => h
theorem kByte_plain : kByte.Plain := Kd.Plain.flat
theorem kInt_plain : kInt.Plain := Kd.Plain.flat
theorem kStr_plain : kStr.Plain := Kd.Plain.flat
theorem Atom.Flat.own {α : Type} {d : Kd α} (hd : d.Plain) (T : TypeId) (a : Option Addr) (c : Nat) (xs : List α) : (Atom.own T d a c xs).Flat := fun h => by
  rcases h with h | ⟨hc, g, cur, vals, e, h1, h2, h3, h4, h5, h6⟩
  · exact .inl h
  · exact .inr ⟨hc, g, cur, vals, e, h1, h2, h3, h4, h5.plain hd, h6⟩

section
variable {P : Program} {Q : Post} {n : Nat} {k : List It} {ρ : Env} {ops : Array Oper} {rest : List Oper}
variable {w0 : World} {ok0 M : Nat → Prop} {X R : List Atom}

theorem Spec.lend {F : FuncId} {args : Array Value} {pre1 pre2 : List Atom} {β : Type} {val : β → Value} {I : β → Prop} {new : β → List Atom} {α : Type} {d : Kd α} {T : TypeId} {a : Option Addr} {c m : Nat} {xs : List α}
    (hS : Spec P F args (pre1 ++ .dat d.sl xs [.slice a m c] :: pre2) val I new) (hm : m = xs.length) (hf : ∀ y, ∀ at' ∈ new y, at'.Flat) : Spec P F args (pre1 ++ .own T d a c xs :: pre2) val I (fun y => .own T d a c xs :: new y) := by
  subst hm
  intro w ok hA
  have hmem : ∀ at', at' ∈ pre1 ∨ at' ∈ pre2 → at' ∈ pre1 ++ .own T d a c xs :: pre2 := fun at' h => by
    rcases h with h | h
    · exact List.mem_append_left _ h
    · exact List.mem_append_right _ (List.mem_cons_of_mem _ h)
  have hown : (.own T d a c xs : Atom) ∈ pre1 ++ .own T d a c xs :: pre2 := List.mem_append_right _ (List.mem_cons_self ..)
  have hsub : ∀ b, blks (pre1 ++ .dat d.sl xs [.slice a xs.length c] :: pre2) b → blks (pre1 ++ .own T d a c xs :: pre2) b := by
    rintro b ⟨at', ha, hb⟩
    rcases List.mem_append.1 ha with ha | ha
    · exact ⟨at', hmem _ (.inl ha), hb⟩
    · rcases List.mem_cons.1 ha with rfl | ha
      · cases hb
      · exact ⟨at', hmem _ (.inr ha), hb⟩
  have hperm : (pre1 ++ .own T d a c xs :: pre2).Perm (.own T d a c xs :: (pre1 ++ pre2)) := List.perm_middle
  have happ := (hA.perm hperm).apart
  rw [List.pairwise_cons] at happ
  have hg : ∀ b, ownBlk a c = some b → b < w.heap.size ∧ ¬ blks (pre1 ++ .dat d.sl xs [.slice a xs.length c] :: pre2) b := by
    intro b hb
    refine ⟨(hA.lt _ hown b hb).1, ?_⟩
    rintro ⟨at', ha, hb'⟩
    have hin : at' ∈ pre1 ++ pre2 := by
      rcases List.mem_append.1 ha with ha | ha
      · exact List.mem_append_left _ ha
      · rcases List.mem_cons.1 ha with rfl | ha
        · cases hb'
        · exact List.mem_append_right _ ha
    exact happ.1 at' hin b hb hb'
  let ok' : Nat → Prop := fun b => ok b ∨ ownBlk a c = some b
  have hok : ∀ b, okX w ok (pre1 ++ .own T d a c xs :: pre2) b → okX w ok' (pre1 ++ .dat d.sl xs [.slice a xs.length c] :: pre2) b := fun b hb => ⟨fun h => .inl (hb.1 h), fun h => hb.2 (hsub b h)⟩
  have hA' : Asn w ok' (blks (pre1 ++ .dat d.sl xs [.slice a xs.length c] :: pre2)) (pre1 ++ .dat d.sl xs [.slice a xs.length c] :: pre2) w := by
    refine ⟨Ext.refl _ _, ?_, fun at' ha g hgg => ⟨?_, fun _ => ⟨at', ha, hgg⟩⟩, fun at' ha => ?_⟩
    · have hp2 : (pre1 ++ .dat d.sl xs [.slice a xs.length c] :: pre2).Perm (.dat d.sl xs [.slice a xs.length c] :: (pre1 ++ pre2)) := List.perm_middle
      refine (hp2.pairwise_iff (fun {x y} hxy g hg he => hxy g he hg)).2 (List.pairwise_cons.2 ⟨fun _ _ g hg => absurd hg (by simp [Atom.dat]), happ.2⟩)
    · rcases List.mem_append.1 ha with ha | ha
      · exact (hA.lt _ (hmem _ (.inl ha)) g hgg).1
      · rcases List.mem_cons.1 ha with rfl | ha
        · cases hgg
        · exact (hA.lt _ (hmem _ (.inr ha)) g hgg).1
    · rcases List.mem_append.1 ha with ha | ha
      · exact at'.keep (hA.holds _ (hmem _ (.inl ha))) (fun _ _ => rfl) fun b _ hb => ⟨hok b hb, rfl⟩
      · rcases List.mem_cons.1 ha with rfl | ha
        · have ho := hA.holds _ hown
          exact own_sl ho (fun b _ hb => hok b hb) (fun b hb => ⟨fun _ => .inr hb, (hg b hb).2⟩) (own_nil ho)
        · exact at'.keep (hA.holds _ (hmem _ (.inr ha))) (fun _ _ => rfl) fun b _ hb => ⟨hok b hb, rfl⟩
  refine (hS w ok' hA').mono ?_
  rintro e w' ⟨y, he, hI, hn⟩
  refine ⟨y, he, hI, ?_⟩
  have hnb : ∀ b, blks (new y) b → b < w'.heap.size ∧ (b < w.heap.size → blks (pre1 ++ .dat d.sl xs [.slice a xs.length c] :: pre2) b) := fun b ⟨at', ha, hb⟩ => hn.lt at' ha b hb
  refine ⟨⟨hn.ext.os, hn.ext.tape, hn.ext.output, hn.ext.size, fun b hb hm => hn.ext.block b hb fun h => hm (hsub b h)⟩, List.pairwise_cons.2 ⟨fun at' ha g hg1 hg2 => ?_, hn.apart⟩, fun at' ha g hgg => ?_, fun at' ha => ?_⟩
  · have h1 := hg g hg1
    exact h1.2 ((hnb g ⟨at', ha, hg2⟩).2 h1.1)
  · rcases List.mem_cons.1 ha with rfl | ha
    · exact ⟨Nat.lt_of_lt_of_le (hg g hgg).1 hn.ext.size, fun _ => ⟨_, hown, hgg⟩⟩
    · have h1 := hnb g ⟨at', ha, hgg⟩
      exact ⟨h1.1, fun hl => hsub g (h1.2 hl)⟩
  · rcases List.mem_cons.1 ha with rfl | ha
    · refine Atom.keep _ (hA.holds _ hown) (fun b hb => hn.ext.block b (hg b hb).1 (hg b hb).2) fun b hb hk => ?_
      have hnp : ¬ blks (pre1 ++ .dat d.sl xs [.slice a xs.length c] :: pre2) b := fun h => hk.2 (hsub b h)
      refine ⟨⟨fun h => hk.1 h, ?_⟩, hn.ext.block b hb hnp⟩
      rintro ⟨a2, ha2, hb2⟩
      rcases List.mem_cons.1 ha2 with rfl | ha2
      · exact hk.2 ⟨_, hown, hb2⟩
      · exact hnp ((hnb b ⟨a2, ha2, hb2⟩).2 hb)
    · exact hf y at' ha (hn.holds at' ha)

theorem Asn.nilDat {w : World} {α : Type} {kd : Kd α} (h : Asn w0 ok0 M X w) : Asn w0 ok0 M (.dat kd.sl [] [.slice none 0 0] :: X) w :=
  h.add rfl ⟨none, 0, rfl, Nat.le_refl _, Nat.zero_le _, fun _ => rfl, fun h => absurd h (Nat.lt_irrefl _)⟩
theorem HO_nilDat {α : Type} (kd : Kd α) (h : HO P Q n ops rest k ρ (Asn w0 ok0 M (.dat kd.sl [] [.slice none 0 0] :: X))) : HO P Q n ops rest k ρ (Asn w0 ok0 M X) := HO_world (fun _ hA => hA.nilDat) h
theorem H_nilDat {α : Type} (kd : Kd α) (h : H P Q n k ρ (Asn w0 ok0 M (.dat kd.sl [] [.slice none 0 0] :: X))) : H P Q n k ρ (Asn w0 ok0 M X) := H_world (fun _ hA => hA.nilDat) h
theorem Asn.freeze {w : World} {α : Type} {d : Kd α} {T : TypeId} {a : Option Addr} {c : Nat} {xs : List α} (h : Asn w0 ok0 M (.own T d a c xs :: R) w) (hM : ∀ b, M b → blks R b) : Asn w0 ok0 M (.dat d.sl xs [.slice a xs.length c] :: R) w := by
  have happ := List.pairwise_cons.1 h.apart
  have hk : ∀ b, okX w0 ok0 (.own T d a c xs :: R) b → okX w0 ok0 (.dat d.sl xs [.slice a xs.length c] :: R) b := fun b hb => ⟨hb.1, by
    rintro ⟨a2, ha2, hb2⟩
    rcases List.mem_cons.1 ha2 with rfl | ha2
    · cases hb2
    · exact hb.2 ⟨a2, List.mem_cons_of_mem _ ha2, hb2⟩⟩
  refine ⟨h.ext, List.pairwise_cons.2 ⟨fun _ _ g hg => absurd hg (by simp [Atom.dat]), happ.2⟩, fun at' ha g hg => ?_, fun at' ha => ?_⟩
  · rcases List.mem_cons.1 ha with rfl | ha
    · cases hg
    · exact h.lt at' (List.mem_cons_of_mem _ ha) g hg
  · rcases List.mem_cons.1 ha with rfl | ha
    · have ho := h.holds _ (List.mem_cons_self ..)
      refine own_sl ho (fun b _ hb => hk b hb) (fun b hb => ⟨fun hl => ?_, ?_⟩) (own_nil ho)
      · obtain ⟨a2, ha2, hb2⟩ := hM b ((h.lt _ (List.mem_cons_self ..) b hb).2 hl)
        exact absurd hb2 (happ.1 a2 ha2 b hb)
      · rintro ⟨a2, ha2, hb2⟩
        rcases List.mem_cons.1 ha2 with rfl | ha2
        · cases hb2
        · exact happ.1 a2 ha2 b hb hb2
    · exact at'.keep (h.holds at' (List.mem_cons_of_mem _ ha)) (fun _ _ => rfl) fun b _ hb => ⟨hk b hb, rfl⟩
theorem blks_none {X : List Atom} (h : ∀ a ∈ X, a.blk = noB) (b : Nat) : ¬ blks X b := fun ⟨a, ha, hb⟩ => by rw [h a ha] at hb; cases hb
theorem H_len_le {α : Type} {kd : Kd α} {xs : List α} {a : Option Addr} {m cp i : Nat} (hi : X[i]? = some (.dat kd.sl xs [.slice a m cp])) (h : xs.length ≤ 9223372036854775807 → H P Q n k ρ (Asn w0 ok0 M X)) : H P Q n k ρ (Asn w0 ok0 M X) := H_pure (fun w hA => by have := hA.sl hi; have h2 := this.2.2.1; have h1 := this.2.1; simp only [maxLen] at h2; omega) h
theorem HO_dup {i : Nat} {a : Atom} (hi : X[i]? = some a) (hb : a.blk = noB) (h : HO P Q n ops rest k ρ (Asn w0 ok0 M (a :: X))) : HO P Q n ops rest k ρ (Asn w0 ok0 M X) := HO_world (fun _ hA => hA.add hb (hA.get hi)) h
theorem HO_freeze {α : Type} {d : Kd α} {T : TypeId} {a : Option Addr} {c i : Nat} {xs : List α} (hp : picks [i] X = some ([.own T d a c xs], R)) (hM : ∀ b, M b → blks R b) (h : HO P Q n ops rest k ρ (Asn w0 ok0 M (.dat d.sl xs [.slice a xs.length c] :: R))) : HO P Q n ops rest k ρ (Asn w0 ok0 M X) :=
  HO_world (fun _ hA => (hA.pick hp).freeze hM) h
theorem H_freeze {α : Type} {d : Kd α} {T : TypeId} {a : Option Addr} {c i : Nat} {xs : List α} (hp : picks [i] X = some ([.own T d a c xs], R)) (hM : ∀ b, M b → blks R b) (h : H P Q n k ρ (Asn w0 ok0 M (.dat d.sl xs [.slice a xs.length c] :: R))) : H P Q n k ρ (Asn w0 ok0 M X) :=
  H_world (fun _ hA => (hA.pick hp).freeze hM) h
end
end Go.Wk
