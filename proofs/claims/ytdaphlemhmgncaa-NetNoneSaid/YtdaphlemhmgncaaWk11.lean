/- A small calculus of weakest preconditions over the kit's code: rules for the operations, proved for all programs. -/
import Derived.Test.YtdaphlemhmgncaaWk10
import Derived.Laws.MakeOwn
set_option linter.unusedVariables false
set_option linter.unusedSimpArgs false
namespace Go.Wk
open Go Go.RowKit

section
variable {P : Program} {Q : Post} {n : Nat} {k : List It} {ρ : Env} {ops : Array Oper} {rest : List Oper}
variable {w0 : World} {ok0 M : Nat → Prop} {X R : List Atom}
variable {d : Nat} {t : TypeId} {pos : String} {after : Array Edge} {g : Option (Nat × Bool)} {x y c : Operand} {v u : Value} {t' : TypeId} {A : World → Prop}

theorem HO_buildSlice0 {α : Type} {kd : Kd α} {e sz bytes : Nat} {z : Value} (hw : wantedB ops ρ g = some true) (hn : Nat.blt d n = true) (ht : P.underlying t = some (.slice e)) (he : Elt P e z sz bytes)
    (h : ∀ gb, HO P Q n ops rest k ((d, .slice (some ⟨gb, 0, none⟩) 0 0) :: ρ) (Asn w0 ok0 M (.own e kd (some ⟨gb, 0, none⟩) 0 [] :: X))) :
    HO P Q n ops (⟨some d, .buildSlice t 0 #[], t', pos, after, g⟩ :: rest) k ρ (Asn w0 ok0 M X) :=
  HO_valw (β := Nat) (val := fun gb => .slice (some ⟨gb, 0, none⟩) 0 0) (B := fun gb => Asn w0 ok0 M (.own e kd (some ⟨gb, 0, none⟩) 0 [] :: X)) hw rfl hn (fun ac w hf hA => by
    obtain ⟨i, hi, hz, hsz, hb, hzs, hp, _⟩ := he
    refine ⟨w.heap.size, w.alloc (.cells #[] e), ?_, ?_⟩
    · have h0 : (Array.map (fun (_ : Nat) => (default : Value)) (Array.range 0)) = #[] := by simp
      simp [execOp, Instr.buildSlice, run_underlying ht, sizeOf, typeInfo, zeroValue, hi, hz, newRow, Instr.fill, newObj, h0]
      rfl
    · refine Asn.frame (pre := []) (rest := X) hA ⟨Ext.of_below ((Below.refl _ _).alloc (Nat.le_refl _) _), List.pairwise_singleton _ _, ?_, ?_⟩
      · intro a ha gg hgg
        rw [List.mem_singleton.1 ha] at hgg
        cases hgg
      · intro a ha
        rw [List.mem_singleton.1 ha]
        exact .inl ⟨rfl, rfl⟩) h

theorem rowRep.rep {α : Type} {kd : Kd α} {ok : Nat → Prop} {w : World} {x : α} {cs : List Value} (h : kd.rep ok w x cs) : ∀ m, rowRep kd ok w (List.replicate m x) (List.flatten (List.replicate m cs))
  | 0 => rfl
  | m + 1 => ⟨cs, _, rfl, h, rowRep.rep h m⟩
theorem own_at {w : World} {α : Type} {kd : Kd α} {T : TypeId} {a : Option Addr} {cp : Nat} {xs : List α} {ok : Nat → Prop} {j : Nat} {z : α} (h : (Atom.own T kd a cp xs).p ok w) (hz : xs[j]? = some z) :
    ∃ g us cs ts, a = some ⟨g, 0, none⟩ ∧ w.heap[g]? = some (.cells (us ++ (cs ++ ts)).toArray T (0, 0)) ∧ us.length = j * kd.n ∧ kd.rep ok w z cs ∧ 0 < cp ∧ xs.length ≤ cp ∧ cp ≤ maxLen ∧ (us ++ (cs ++ ts)).length = cp * kd.n ∧
      ∃ vs, rowRep kd ok w (xs.take j) us ∧ rowRep kd ok w (xs.drop (j + 1)) vs ∧ (us ++ (cs ++ ts)).take (xs.length * kd.n) = us ++ (cs ++ vs) ∧ ∃ tl, ts = vs ++ tl := by
  rcases h with ⟨_, rfl⟩ | ⟨hc, g, cur, vals, rfl, h1, h2, h3, h4, h5, h6⟩
  · cases hz
  · obtain ⟨us, cs, vs, rfl, hl, hr, hr1, hr2⟩ := h5.at_ hz
    have hcur : cur.toList = us ++ (cs ++ (vs ++ cur.toList.drop (xs.length * kd.n))) := by
      have e := List.take_append_drop (xs.length * kd.n) cur.toList
      rw [h6] at e
      exact e.symm.trans (by simp)
    have hcur' : (us ++ (cs ++ (vs ++ cur.toList.drop (xs.length * kd.n)))).toArray = cur := by
      rw [← hcur]
    refine ⟨g, us, cs, vs ++ cur.toList.drop (xs.length * kd.n), rfl, ?_, hl, hr, hc, h2, h3, ?_, vs, hr1, hr2, ?_, _, rfl⟩
    · rw [hcur']; exact h1
    · rw [← hcur, ← h4]; simp
    · rw [← hcur, h6]
theorem HO_indexOwn {α : Type} {kd : Kd α} {e T : TypeId} {xs : List α} {a : Option Addr} {m cp i j q : Nat} {jk : IntKind} {ji : Int} {sz : Nat}
    (hw : wantedB ops ρ g = some true) (hn : Nat.blt d n = true) (hx : ev ρ x = some (.slice a m cp)) (hy : ev ρ y = some (.int jk ji)) (hj : ji = (j : Int)) (ht : P.underlying t = some (.slice e)) (hs : ∀ w, (sizeOf e).run P w = .ok sz w)
    (hi : X[i]? = some (.own T kd a cp xs)) (hm : m = xs.length) (hlt : j < xs.length) (hq : j * sz = q)
    (h : ∀ gb z, a = some ⟨gb, 0, none⟩ → xs[j]? = some z → HO P Q n ops rest k ((d, .pointer (some ⟨gb, q, none⟩)) :: ρ) (Asn w0 ok0 M X)) :
    HO P Q n ops (⟨some d, .indexAddr t x y, t', pos, after, g⟩ :: rest) k ρ (Asn w0 ok0 M X) := by
  refine HO_valw (β := {gb : Nat // a = some ⟨gb, 0, none⟩}) (val := fun gb => .pointer (some ⟨gb.1, q, none⟩)) (B := fun _ => Asn w0 ok0 M X) hw rfl hn (fun ac w hf hA => ?_) (fun gb => h gb.1 _ gb.2 (List.getElem?_eq_getElem hlt))
  subst hm hj hq
  obtain ⟨gb, us, cs, ts, rfl, _⟩ := own_at (hA.get hi) (List.getElem?_eq_getElem hlt)
  refine ⟨⟨gb, rfl⟩, w, ?_, hA⟩
  simp [execOp, hf.ev hx, hf.ev hy, Instr.indexAt, asIntOf, run_underlying ht, hlt, hs w, add_plain]
theorem HO_loadOwn {α : Type} {kd : Kd α} {T : TypeId} {xs : List α} {a : Option Addr} {cp i j q gb : Nat} {z : α} (hw : wantedB ops ρ g = some true) (hn : Nat.blt d n = true) (hx : ev ρ x = some (.pointer (some ⟨gb, q, none⟩))) (ht : ∀ w, (isAgg t).run P w = .ok false w)
    (hi : X[i]? = some (.own T kd a cp xs)) (ha : a = some ⟨gb, 0, none⟩) (hq : j * kd.n = q) (hz : xs[j]? = some z) (hr : ∀ ok w cs, kd.rep ok w z cs → cs = [v])
    (h : HO P Q n ops rest k ((d, v) :: ρ) (Asn w0 ok0 M X)) : HO P Q n ops (⟨some d, .load t x, t', pos, after, g⟩ :: rest) k ρ (Asn w0 ok0 M X) :=
  HO_val hw rfl hn (fun ac w hf hA => by
    subst hq
    obtain ⟨g', us, cs, ts, e, hg, hl, hrep, _⟩ := own_at (hA.get hi) hz
    rw [ha] at e
    cases e
    have := hr _ _ _ hrep
    subst this
    have hc : w.cell? ⟨gb, j * kd.n, none⟩ = some v := by
      simp [World.cell?, hg, ← hl]
    simp [execOp, hf.ev hx, Instr.loadAt, Instr.sureAddr, run_loadVar1 (ht w) hc]) h
end
end Go.Wk
