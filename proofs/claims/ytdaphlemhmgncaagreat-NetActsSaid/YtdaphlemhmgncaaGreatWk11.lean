/- A small calculus of weakest preconditions over the kit's code: rules for the operations, proved for all programs. -/
import Derived.Test.YtdaphlemhmgncaaGreatWk10
import Derived.Laws.MakeOwn
set_option linter.unusedVariables false
set_option linter.unusedSimpArgs false
namespace Go.Wk
open Go Go.RowKit

section
variable {P : Program} {Q : Post} {n : Nat} {k : List It} {ρ : Env} {ops : Array Oper} {rest : List Oper}
variable {w0 : World} {ok0 M : Nat → Prop} {X R : List Atom}
variable {d : Nat} {t : TypeId} {pos : String} {after : Array Edge} {g : Option (Nat × Bool)} {x y c : Operand} {v u : Value} {t' : TypeId} {A : World → Prop}

theorem HO_buildSlice0 {α : Type} {kd : Kd α} {e sz bytes : Nat} {z : Value} (hw : wantedB ops ρ g = some true) (hn : Nat.blt d n = true) (ht : P.underlying t = some (.slice e)) (he : Elt P e z sz bytes)
    (h : ∀ gb, HO P Q n ops rest k ((d, .slice (some ⟨gb, 0, none⟩) 0 0) :: ρ) (Asn w0 ok0 M (.own e kd (some ⟨gb, 0, none⟩) 0 [] :: X))) :
    HO P Q n ops (⟨some d, .buildSlice t 0 #[], t', pos, after, g⟩ :: rest) k ρ (Asn w0 ok0 M X) :=
  HO_valw (β := Nat) (val := fun gb => .slice (some ⟨gb, 0, none⟩) 0 0) (B := fun gb => Asn w0 ok0 M (.own e kd (some ⟨gb, 0, none⟩) 0 [] :: X)) hw rfl hn (fun ac w hf hA => by
    obtain ⟨i, hi, hz, hsz, hb, hzs, hp, _⟩ := he
    refine ⟨w.heap.size, w.alloc (.cells #[] e), ?_, ?_⟩
    · have h0 : (Array.map (fun (_ : Nat) => (default : Value)) (Array.range 0)) = #[] := by simp
      simp [execOp, Instr.buildSlice, run_underlying ht, sizeOf, typeInfo, zeroValue, hi, hz, newRow, Instr.fill, newObj, h0]
      rfl
    · refine Asn.frame (pre := []) (rest := X) hA ⟨Ext.of_below ((Below.refl _ _).alloc (Nat.le_refl _) _), List.pairwise_singleton _ _, ?_, ?_⟩
      · intro a ha gg hgg
        rw [List.mem_singleton.1 ha] at hgg
        cases hgg
      · intro a ha
        rw [List.mem_singleton.1 ha]
        exact .inl ⟨rfl, rfl⟩) h

theorem rowRep.rep {α : Type} {kd : Kd α} {ok : Nat → Prop} {w : World} {x : α} {cs : List Value} (h : kd.rep ok w x cs) : ∀ m, rowRep kd ok w (List.replicate m x) (List.flatten (List.replicate m cs))
  | 0 => rfl
  | m + 1 => ⟨cs, _, rfl, h, rowRep.rep h m⟩
theorem own_at {w : World} {α : Type} {kd : Kd α} {T : TypeId} {a : Option Addr} {cp : Nat} {xs : List α} {ok : Nat → Prop} {j : Nat} {z : α} (h : (Atom.own T kd a cp xs).p ok w) (hz : xs[j]? = some z) :
    ∃ g us cs ts, a = some ⟨g, 0, none⟩ ∧ w.heap[g]? = some (.cells (us ++ (cs ++ ts)).toArray T (0, 0)) ∧ us.length = j * kd.n ∧ kd.rep ok w z cs ∧ 0 < cp ∧ xs.length ≤ cp ∧ cp ≤ maxLen ∧ (us ++ (cs ++ ts)).length = cp * kd.n ∧
      ∃ vs, rowRep kd ok w (xs.take j) us ∧ rowRep kd ok w (xs.drop (j + 1)) vs ∧ (us ++ (cs ++ ts)).take (xs.length * kd.n) = us ++ (cs ++ vs) ∧ ∃ tl, ts = vs ++ tl := by
  rcases h with ⟨_, rfl⟩ | ⟨hc, g, cur, vals, rfl, h1, h2, h3, h4, h5, h6⟩
  · cases hz
  · obtain ⟨us, cs, vs, rfl, hl, hr, hr1, hr2⟩ := h5.at_ hz
    have hcur : cur.toList = us ++ (cs ++ (vs ++ cur.toList.drop (xs.length * kd.n))) := by
      have e := List.take_append_drop (xs.length * kd.n) cur.toList
      rw [h6] at e
      exact e.symm.trans (by simp)
    have hcur' : (us ++ (cs ++ (vs ++ cur.toList.drop (xs.length * kd.n)))).toArray = cur := by
      rw [← hcur]
    refine ⟨g, us, cs, vs ++ cur.toList.drop (xs.length * kd.n), rfl, ?_, hl, hr, hc, h2, h3, ?_, vs, hr1, hr2, ?_, _, rfl⟩
    · rw [hcur']; exact h1
    · rw [← hcur, ← h4]; simp
    · rw [← hcur, h6]
theorem HO_indexOwn {α : Type} {kd : Kd α} {e T : TypeId} {xs : List α} {a : Option Addr} {m cp i j q : Nat} {jk : IntKind} {ji : Int} {sz : Nat}
    (hw : wantedB ops ρ g = some true) (hn : Nat.blt d n = true) (hx : ev ρ x = some (.slice a m cp)) (hy : ev ρ y = some (.int jk ji)) (hj : ji = (j : Int)) (ht : P.underlying t = some (.slice e)) (hs : ∀ w, (sizeOf e).run P w = .ok sz w)
    (hi : X[i]? = some (.own T kd a cp xs)) (hm : m = xs.length) (hlt : j < xs.length) (hq : j * sz = q)
    (h : ∀ gb z, a = some ⟨gb, 0, none⟩ → xs[j]? = some z → HO P Q n ops rest k ((d, .pointer (some ⟨gb, q, none⟩)) :: ρ) (Asn w0 ok0 M X)) :
    HO P Q n ops (⟨some d, .indexAddr t x y, t', pos, after, g⟩ :: rest) k ρ (Asn w0 ok0 M X) := by
  refine HO_valw (β := {gb : Nat // a = some ⟨gb, 0, none⟩}) (val := fun gb => .pointer (some ⟨gb.1, q, none⟩)) (B := fun _ => Asn w0 ok0 M X) hw rfl hn (fun ac w hf hA => ?_) (fun gb => h gb.1 _ gb.2 (List.getElem?_eq_getElem hlt))
  subst hm hj hq
  obtain ⟨gb, us, cs, ts, rfl, _⟩ := own_at (hA.get hi) (List.getElem?_eq_getElem hlt)
  refine ⟨⟨gb, rfl⟩, w, ?_, hA⟩
  simp [execOp, hf.ev hx, hf.ev hy, Instr.indexAt, asIntOf, run_underlying ht, hlt, hs w, add_plain]
theorem HO_loadOwn {α : Type} {kd : Kd α} {T : TypeId} {xs : List α} {a : Option Addr} {cp i j q gb : Nat} {z : α} (hw : wantedB ops ρ g = some true) (hn : Nat.blt d n = true) (hx : ev ρ x = some (.pointer (some ⟨gb, q, none⟩))) (ht : ∀ w, (isAgg t).run P w = .ok false w)
    (hi : X[i]? = some (.own T kd a cp xs)) (ha : a = some ⟨gb, 0, none⟩) (hq : j * kd.n = q) (hz : xs[j]? = some z) (hr : ∀ ok w cs, kd.rep ok w z cs → cs = [v])
    (h : HO P Q n ops rest k ((d, v) :: ρ) (Asn w0 ok0 M X)) : HO P Q n ops (⟨some d, .load t x, t', pos, after, g⟩ :: rest) k ρ (Asn w0 ok0 M X) :=
  HO_val hw rfl hn (fun ac w hf hA => by
    subst hq
    obtain ⟨g', us, cs, ts, e, hg, hl, hrep, _⟩ := own_at (hA.get hi) hz
    rw [ha] at e
    cases e
    have := hr _ _ _ hrep
    subst this
    have hc : w.cell? ⟨gb, j * kd.n, none⟩ = some v := by
      simp [World.cell?, hg, ← hl]
    simp [execOp, hf.ev hx, Instr.loadAt, Instr.sureAddr, run_loadVar1 (ht w) hc]) h
theorem HO_storeOwn {α : Type} {kd : Kd α} {T : TypeId} {xs : List α} {a : Option Addr} {cp i j q gb m : Nat} {z' : α} {cs : List Value} (hw : wantedB ops ρ g = some true) (hx : ev ρ x = some (.pointer (some ⟨gb, q, none⟩))) (hy : ev ρ y = some v) (hs : ∀ w, (sizeOf t).run P w = .ok m w)
    (hv : v.cells = cs.toArray) (h1 : ∀ u ∈ cs, u.oneCell' = true) (hp : picks [i] X = some ([.own T kd a cp xs], R)) (ha : a = some ⟨gb, 0, none⟩) (hk : kd.n = m) (hq : j * m = q) (hlt : j < xs.length) (hr : ∀ ok w, (∀ at' ∈ R, at'.p ok w) → kd.rep ok w z' cs)
    (h : HO P Q n ops rest k ρ (Asn w0 ok0 M (.own T kd a cp (xs.set j z') :: R))) : HO P Q n ops (⟨none, .store t x y, t', pos, after, g⟩ :: rest) k ρ (Asn w0 ok0 M X) :=
  HO_skipw hw rfl (fun ac w hf hA => by
    subst hq hk ha
    have hz := List.getElem?_eq_getElem hlt
    have hA' := hA.pick hp
    have hrep' := hr (okX w0 ok0 ([.own T kd (some ⟨gb, 0, none⟩) cp xs] ++ R)) w (fun at' h => hA'.holds at' (List.mem_append_right _ h))
    obtain ⟨g', us, old, ts, e, hg, hl, hrep, hc, h2, h3, h4, vs, hr1, hr2, htk, tl, rfl⟩ := own_at (hA'.holds _ (List.mem_cons_self ..)) hz
    cases e
    have hgl : gb < w.heap.size := (Array.getElem?_eq_some_iff.1 hg).1
    have hcs : cs.length = kd.n := kd.len hrep'
    have hold : old.length = kd.n := kd.len hrep
    have hjlt : j < xs.length := (List.getElem?_eq_some_iff.1 hz).1
    have hblk : (Atom.own T kd (some ⟨gb, 0, none⟩) cp xs).blk gb := by simp [Atom.own, ownBlk]; omega
    refine ⟨w.setRow gb (us ++ (cs ++ (vs ++ tl))).toArray, ?_, ?_⟩
    · simp [execOp, hf.ev hx, hf.ev hy, Instr.storeAt, Instr.sureAddr, run_storeVar (hcs ▸ hs w) hv h1 hg (hold.trans hcs.symm) hl]
    · refine Asn.frame (pre := [_]) hA' ⟨Ext.setRow ⟨_, List.mem_cons_self .., hblk⟩ _, List.pairwise_singleton _ _, ?_, ?_⟩
      · intro a ha gg hgg
        rw [List.mem_singleton.1 ha] at hgg
        have hgg : gb = gg := by
          have : cp ≠ 0 := by omega
          simpa [Atom.own, ownBlk, this] using hgg
        subst hgg
        exact ⟨by simpa [World.setRow] using hgl, fun _ => ⟨_, List.mem_cons_self .., hblk⟩⟩
      · intro a ha
        rw [List.mem_singleton.1 ha]
        have hset : xs.set j z' = xs.take j ++ z' :: xs.drop (j + 1) := by rw [List.set_eq_take_append_cons_drop, if_pos hjlt]
        have hk2 : ∀ b, b < w.heap.size → okX w0 ok0 ([.own T kd (some ⟨gb, 0, none⟩) cp xs] ++ R) b → (okX w (okX w0 ok0 ([.own T kd (some ⟨gb, 0, none⟩) cp xs] ++ R)) [.own T kd (some ⟨gb, 0, none⟩) cp (xs.set j z')] b) ∧ (w.setRow gb (us ++ (cs ++ (vs ++ tl))).toArray).heap[b]? = w.heap[b]? := by
          intro b hb hk
          have hne : ¬ gb = b := fun e => hk.2 ⟨_, List.mem_cons_self .., e ▸ hblk⟩
          refine ⟨⟨fun _ => hk, ?_⟩, setRow_other w gb b _ (fun e => hne e.symm)⟩
          rintro ⟨a2, ha2, hb2⟩
          rw [List.mem_singleton.1 ha2] at hb2
          have : cp ≠ 0 := by omega
          exact hne (by simpa [Atom.own, ownBlk, this] using hb2)
        refine .inr ⟨hc, gb, _, us ++ (cs ++ vs), rfl, setRow_heap w gb _ _ T (0, 0) hg, by simpa using h2, h3, ?_, ?_, ?_⟩
        · rw [List.size_toArray, ← h4]; simp [hcs, hold]
        · have hb2 : rowRep kd (okX w (okX w0 ok0 ([.own T kd (some ⟨gb, 0, none⟩) cp xs] ++ R)) [.own T kd (some ⟨gb, 0, none⟩) cp (xs.set j z')]) (w.setRow gb (us ++ (cs ++ (vs ++ tl))).toArray) (z' :: xs.drop (j + 1)) (cs ++ vs) := ⟨cs, vs, rfl, kd.keep hrep' hk2, rowRep.keep hk2 hr2⟩
          have := rowRep.append (rowRep.keep hk2 hr1) hb2
          rwa [← hset] at this
        · have hlen : (us ++ (cs ++ vs)).length = xs.length * kd.n := by
            have := congrArg List.length htk
            have h5 : (xs.length * kd.n) ≤ cp * kd.n := Nat.mul_le_mul_right _ h2
            rw [List.length_take, h4] at this
            simp only [List.length_append] at this ⊢
            omega
          rw [List.length_set, ← hlen]
          have e2 : us ++ (cs ++ (vs ++ tl)) = (us ++ (cs ++ vs)) ++ tl := by simp
          show (us ++ (cs ++ (vs ++ tl))).take _ = _
          rw [e2, List.take_left]) h
end
end Go.Wk
