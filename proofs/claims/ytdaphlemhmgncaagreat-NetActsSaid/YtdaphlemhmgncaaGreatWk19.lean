/- A small calculus of weakest preconditions over the kit's code: rules for the operations, proved for all programs. -/
import Derived.Test.YtdaphlemhmgncaaGreatWk18
import Derived.Laws.Externs
import Derived.Laws.CopyRow
set_option linter.unusedVariables false
set_option linter.unusedSimpArgs false
namespace Go.Wk
open Go Go.RowKit
/-! ### Rows laid open: cells of a block, and what the first of them say -/
def Atom.row {α : Type} (d : Kd α) (xs : List α) (vs : List Value) : Atom where
  blk := noB
  p ok w := rowRep d ok w xs vs
  keep h _ hk := h.keep hk
section
variable {P : Program} {Q : Post} {n : Nat} {k : List It} {ρ : Env} {ops : Array Oper} {rest : List Oper}
variable {w0 : World} {ok0 M : Nat → Prop} {X R : List Atom}
variable {d : Nat} {t : TypeId} {pos : String} {after : Array Edge} {g : Option (Nat × Bool)} {x y c : Operand} {v u : Value} {t' : TypeId} {A : World → Prop}

theorem bin_sl_eq_nil {a : Option Addr} {m cp m2 c2 : Nat} {e : TypeId} (hu : ∀ w, (underlying t).run P w = .ok (.slice e) w) : BinR P .eql t x y (.slice a m cp) (.slice none m2 c2) (.bool a.isNone) := fun w => by
  show ((eqGuard .eql t x y (.slice a m cp) (.slice none m2 c2) >>= fun _ => (do pure (.bool (← Op.equal t (.slice a m cp) (.slice none m2 c2)))) : Sem Value)).run P w = _
  obtain ⟨q, hq⟩ := equal_open t (.slice a m cp) (.slice none m2 c2)
  cases a <;> simp [eqGuard, hq, Op.equalIn, hu w]
theorem dat_none {α : Type} {kd : Kd α} {ok : Nat → Prop} {w : World} {xs : List α} {a : Option Addr} {m cp : Nat} (h : kd.sl.rep ok w xs [.slice a m cp]) (ha : a = none) : xs = [] := by
  obtain ⟨a1, c1, he, e1, e2, e3, e4⟩ := h
  simp only [List.cons.injEq, Value.slice.injEq, and_true, true_and] at he
  obtain ⟨rfl, rfl, rfl⟩ := he
  have := e3 ha
  exact List.eq_nil_of_length_eq_zero (by omega)
theorem H_datNone {α : Type} {kd : Kd α} {xs : List α} {a : Option Addr} {m cp i : Nat} (hi : X[i]? = some (.dat kd.sl xs [.slice a m cp])) (ha : a.isNone = true) (h : xs = [] → H P Q n k ρ (Asn w0 ok0 M X)) : H P Q n k ρ (Asn w0 ok0 M X) :=
  H_pure (fun _ hA => dat_none (hA.get hi) (by simpa using ha)) h
theorem rowRep.all {α : Type} {kd : Kd α} {ok : Nat → Prop} {w : World} {J : α → Prop} (hJ : ∀ x cs, kd.rep ok w x cs → J x) : ∀ {xs : List α} {vs : List Value}, rowRep kd ok w xs vs → ∀ x ∈ xs, J x
  | [], _, _ => fun _ h => nomatch h
  | _ :: _, _, ⟨_, _, _, h1, h2⟩ => fun x hx => by
    rcases List.mem_cons.1 hx with rfl | hx
    · exact hJ _ _ h1
    · exact rowRep.all hJ h2 x hx
theorem Asn.openRow {w : World} {α : Type} {kd : Kd α} {T : TypeId} {a : Option Addr} {cp : Nat} {xs : List α} (h : Asn w0 ok0 M (.own T kd a cp xs :: R) w) (hc : 0 < cp) :
    ∃ gb vals spare, a = some ⟨gb, 0, none⟩ ∧ vals.length = xs.length * kd.n ∧ spare.length = (cp - xs.length) * kd.n ∧ xs.length ≤ cp ∧ cp ≤ maxLen ∧ (∀ u ∈ vals, u.oneCell' = true) ∧ Asn w0 ok0 M (.loc gb (vals ++ spare) T :: .row kd xs vals :: R) w := by
  have ho := h.holds _ (List.mem_cons_self ..)
  rcases ho with ⟨h0, _⟩ | ⟨_, gb, cur, vals, rfl, h1, h2, h3, h4, h5, h6⟩
  · omega
  have hb : (Atom.own T kd (some ⟨gb, 0, none⟩) cp xs).blk gb := by simp [Atom.own, ownBlk]; omega
  refine ⟨gb, vals, cur.toList.drop (xs.length * kd.n), rfl, h5.len, ?_, h2, h3, h5.one, ?_⟩
  · rw [List.length_drop, Array.length_toList, h4, ← Nat.sub_mul]
  have hcs : vals ++ cur.toList.drop (xs.length * kd.n) = cur.toList := by rw [← h6]; exact List.take_append_drop _ _
  have hsame : ∀ b, blks (.loc gb (vals ++ cur.toList.drop (xs.length * kd.n)) T :: R) b ↔ blks (.own T kd (some ⟨gb, 0, none⟩) cp xs :: R) b := fun b => by
    constructor
    · rintro ⟨a2, ha2, hb2⟩
      rcases List.mem_cons.1 ha2 with rfl | ha2
      · exact ⟨_, List.mem_cons_self .., hb.trans hb2⟩
      · exact ⟨a2, List.mem_cons_of_mem _ ha2, hb2⟩
    · rintro ⟨a2, ha2, hb2⟩
      rcases List.mem_cons.1 ha2 with rfl | ha2
      · exact ⟨_, List.mem_cons_self .., hb.symm.trans hb2⟩
      · exact ⟨a2, List.mem_cons_of_mem _ ha2, hb2⟩
  have hk : ∀ b, okX w0 ok0 (.own T kd (some ⟨gb, 0, none⟩) cp xs :: R) b → okX w0 ok0 (.loc gb (vals ++ cur.toList.drop (xs.length * kd.n)) T :: R) b := fun b hb => ⟨hb.1, fun h => hb.2 ((hsame b).1 h)⟩
  have happ := List.pairwise_cons.1 h.apart
  have h1' : Asn w0 ok0 M (.loc gb (vals ++ cur.toList.drop (xs.length * kd.n)) T :: R) w := by
    refine ⟨h.ext, List.pairwise_cons.2 ⟨fun a2 ha2 g hg => happ.1 a2 ha2 g (hb.trans hg), happ.2⟩, fun a2 ha2 g hg => ?_, fun a2 ha2 => ?_⟩
    · rcases List.mem_cons.1 ha2 with rfl | ha2
      · exact h.lt _ (List.mem_cons_self ..) g (hb.trans hg)
      · exact h.lt a2 (List.mem_cons_of_mem _ ha2) g hg
    · rcases List.mem_cons.1 ha2 with rfl | ha2
      · show w.heap[gb]? = some (.cells (vals ++ cur.toList.drop (xs.length * kd.n)).toArray T (0, 0))
        rw [hcs, h1]
      · exact a2.keep (h.holds a2 (List.mem_cons_of_mem _ ha2)) (fun _ _ => rfl) fun b _ hb => ⟨hk b hb, rfl⟩
  have h2' := h1'.add (a := .row kd xs vals) rfl (h5.keep fun b _ hb => ⟨hk b hb, rfl⟩)
  exact h2'.perm (List.Perm.swap _ _ _)
theorem H_openRow {α : Type} {kd : Kd α} {T : TypeId} {a : Option Addr} {cp i : Nat} {xs : List α} (hp : picks [i] X = some ([.own T kd a cp xs], R)) (hc : 0 < cp)
    (h : ∀ gb vals spare, a = some ⟨gb, 0, none⟩ → vals.length = xs.length * kd.n → spare.length = (cp - xs.length) * kd.n → xs.length ≤ cp → cp ≤ maxLen → (∀ u ∈ vals, u.oneCell' = true) → H P Q n k ρ (Asn w0 ok0 M (.loc gb (vals ++ spare) T :: .row kd xs vals :: R))) :
    H P Q n k ρ (Asn w0 ok0 M X) := by
  intro ac w hf hA
  obtain ⟨gb, vals, spare, h1, h2, h3, h4, h5, h6, h7⟩ := (hA.pick hp).openRow hc
  exact h gb vals spare h1 h2 h3 h4 h5 h6 ac w hf h7
theorem H_ownLen {α : Type} {kd : Kd α} {T : TypeId} {a : Option Addr} {cp i : Nat} {xs : List α} (hi : X[i]? = some (.own T kd a cp xs)) (h : xs.length ≤ cp → cp ≤ maxLen → H P Q n k ρ (Asn w0 ok0 M X)) : H P Q n k ρ (Asn w0 ok0 M X) := by
  have key : ∀ w, Asn w0 ok0 M X w → xs.length ≤ cp ∧ cp ≤ maxLen := fun w hA => by
    rcases hA.get hi with ⟨rfl, rfl⟩ | ⟨_, gb, cur, vals, rfl, h1, h2, h3, _⟩
    · exact ⟨Nat.le_refl _, Nat.zero_le _⟩
    · exact ⟨h2, h3⟩
  exact H_pure key fun hk => h hk.1 hk.2
theorem Asn.closeRow {w : World} {α : Type} {kd : Kd α} {T : TypeId} {gb cp : Nat} {ys : List α} {cs vs spare : List Value} (h : Asn w0 ok0 M (.loc gb cs T :: R) w) (hcs : cs = vs ++ spare) (hc : 0 < cp) (hlen : cs.length = cp * kd.n) (hle : ys.length ≤ cp) (hmx : cp ≤ maxLen)
    (hr : ∀ ok w, (∀ a ∈ R, a.p ok w) → rowRep kd ok w ys vs) : Asn w0 ok0 M (.own T kd (some ⟨gb, 0, none⟩) cp ys :: R) w := by
  subst hcs
  have hb : (Atom.own T kd (some ⟨gb, 0, none⟩) cp ys).blk gb := by simp [Atom.own, ownBlk]; omega
  have hk : ∀ b, okX w0 ok0 (.loc gb (vs ++ spare) T :: R) b → okX w0 ok0 (.own T kd (some ⟨gb, 0, none⟩) cp ys :: R) b := fun b hk => ⟨hk.1, by
    rintro ⟨a2, ha2, hb2⟩
    rcases List.mem_cons.1 ha2 with rfl | ha2
    · exact hk.2 ⟨_, List.mem_cons_self .., hb.symm.trans hb2⟩
    · exact hk.2 ⟨a2, List.mem_cons_of_mem _ ha2, hb2⟩⟩
  have happ := List.pairwise_cons.1 h.apart
  refine ⟨h.ext, List.pairwise_cons.2 ⟨fun a2 ha2 g hg => happ.1 a2 ha2 g (hb.symm.trans hg), happ.2⟩, fun a2 ha2 g hg => ?_, fun a2 ha2 => ?_⟩
  · rcases List.mem_cons.1 ha2 with rfl | ha2
    · exact h.lt _ (List.mem_cons_self ..) g (hb.symm.trans hg)
    · exact h.lt a2 (List.mem_cons_of_mem _ ha2) g hg
  · rcases List.mem_cons.1 ha2 with rfl | ha2
    · have h1 : w.heap[gb]? = some (.cells (vs ++ spare).toArray T (0, 0)) := h.holds _ (List.mem_cons_self ..)
      have hrow := hr _ w (fun a ha => h.holds a (List.mem_cons_of_mem _ ha))
      refine .inr ⟨hc, gb, _, vs, rfl, h1, hle, hmx, by rw [List.size_toArray, hlen], hrow.keep fun b _ hb => ⟨hk b hb, rfl⟩, ?_⟩
      rw [List.toList_toArray, ← hrow.len, List.take_left]
    · exact a2.keep (h.holds a2 (List.mem_cons_of_mem _ ha2)) (fun _ _ => rfl) fun b _ hb => ⟨hk b hb, rfl⟩
theorem H_closeRow {α : Type} {kd : Kd α} {T : TypeId} {gb cp i : Nat} (ys : List α) {cs : List Value} (vs spare : List Value) (hp : picks [i] X = some ([.loc gb cs T], R)) (hcs : cs = vs ++ spare) (hc : 0 < cp) (hlen : cs.length = cp * kd.n) (hle : ys.length ≤ cp) (hmx : cp ≤ maxLen)
    (hr : ∀ ok w, (∀ a ∈ R, a.p ok w) → rowRep kd ok w ys vs) (h : H P Q n k ρ (Asn w0 ok0 M (.own T kd (some ⟨gb, 0, none⟩) cp ys :: R))) : H P Q n k ρ (Asn w0 ok0 M X) :=
  H_world (fun _ hA => (hA.pick hp).closeRow hcs hc hlen hle hmx hr) h

/-! ### Slices as values alone -/
theorem sliced_is {a : Option Addr} {l h m s : Nat} : sliced a l h m s = .slice (if m = l then a else a.map (·.add (l * s))) (h - l) (m - l) := rfl
theorem sliced_some {gb o l h m s : Nat} : sliced (some ⟨gb, o, none⟩) l h m s = .slice (some ⟨gb, if m = l then o else o + l * s, none⟩) (h - l) (m - l) := by
  unfold sliced
  split <;> rename_i h1 <;> simp [h1, add_plain]
section
variable {a : Option Addr} {m cp sz l h' mx gb o : Nat} {e : TypeId} {lk hk mk : IntKind} {li hi' mi : Int} {yl yh ym : Operand}
theorem V_sliceA_l (hx : ev ρ x = some (.slice a m cp)) (hy : ev ρ yl = some (.int lk li)) (hl : li = (l : Int)) (ht : P.underlying t = some (.slice e)) (hs : ∀ w, (sizeOf e).run P w = .ok sz w) (h1 : l ≤ m) :
    Val P n ρ A ⟨some d, .slice t x (some yl) none none, t', pos, after, g⟩ (.slice (if cp = l then a else a.map (·.add (l * sz))) (m - l) (cp - l)) := fun ac w hf _ => by
  obtain rfl : P.elem t = e := elem_of ht
  subst hl
  have hr := run_slice_l (P := P) w t a m cp ht lk (l : Int) (by omega) (by omega)
  simp only [hs w, Result.andThen_ok, Int.toNat_natCast, sliced_is] at hr
  simp [execOp, hf.ev hx, hf.ev hy, run_sliceAt_slice w t _ _ _ _ ht, hr]
theorem V_sliceR_l (hx : ev ρ x = some (.slice (some ⟨gb, o, none⟩) m cp)) (hy : ev ρ yl = some (.int lk li)) (hl : li = (l : Int)) (ht : P.underlying t = some (.slice e)) (hs : ∀ w, (sizeOf e).run P w = .ok sz w) (h1 : l ≤ m) :
    Val P n ρ A ⟨some d, .slice t x (some yl) none none, t', pos, after, g⟩ (.slice (some ⟨gb, if cp = l then o else o + l * sz, none⟩) (m - l) (cp - l)) := fun ac w hf _ => by
  obtain rfl : P.elem t = e := elem_of ht
  subst hl
  have hr := run_slice_l (P := P) w t (some ⟨gb, o, none⟩) m cp ht lk (l : Int) (by omega) (by omega)
  simp only [hs w, Result.andThen_ok, Int.toNat_natCast, sliced_some] at hr
  simp [execOp, hf.ev hx, hf.ev hy, run_sliceAt_slice w t _ _ _ _ ht, hr]
theorem V_sliceR_h (hx : ev ρ x = some (.slice (some ⟨gb, o, none⟩) m cp)) (hz : ev ρ yh = some (.int hk hi')) (hh : hi' = (h' : Int)) (ht : P.underlying t = some (.slice e)) (hs : ∀ w, (sizeOf e).run P w = .ok sz w) (h1 : h' ≤ cp) :
    Val P n ρ A ⟨some d, .slice t x none (some yh) none, t', pos, after, g⟩ (.slice (some ⟨gb, o, none⟩) h' cp) := fun ac w hf _ => by
  obtain rfl : P.elem t = e := elem_of ht
  subst hh
  have hr := run_slice_h (P := P) w t (some ⟨gb, o, none⟩) m cp ht hk (h' : Int) (by omega) (by omega)
  simp only [hs w, Result.andThen_ok, Int.toNat_natCast, sliced_some] at hr
  simp [execOp, hf.ev hx, hf.ev hz, run_sliceAt_slice w t _ _ _ _ ht, hr]
theorem V_sliceR_lh (hx : ev ρ x = some (.slice (some ⟨gb, o, none⟩) m cp)) (hy : ev ρ yl = some (.int lk li)) (hl : li = (l : Int)) (hz : ev ρ yh = some (.int hk hi')) (hh : hi' = (h' : Int)) (ht : P.underlying t = some (.slice e)) (hs : ∀ w, (sizeOf e).run P w = .ok sz w) (h1 : l ≤ h') (h2 : h' ≤ cp) :
    Val P n ρ A ⟨some d, .slice t x (some yl) (some yh) none, t', pos, after, g⟩ (.slice (some ⟨gb, if cp = l then o else o + l * sz, none⟩) (h' - l) (cp - l)) := fun ac w hf _ => by
  obtain rfl : P.elem t = e := elem_of ht
  subst hl hh
  have hr := run_slice_lh (P := P) w t (some ⟨gb, o, none⟩) m cp ht lk hk (l : Int) (h' : Int) (by omega) (by omega) (by omega)
  simp only [hs w, Result.andThen_ok, Int.toNat_natCast, sliced_some] at hr
  simp [execOp, hf.ev hx, hf.ev hy, hf.ev hz, run_sliceAt_slice w t _ _ _ _ ht, hr]
theorem V_sliceA_lhm (hx : ev ρ x = some (.slice a m cp)) (hy : ev ρ yl = some (.int lk li)) (hl : li = (l : Int)) (hz : ev ρ yh = some (.int hk hi')) (hh : hi' = (h' : Int)) (hzm : ev ρ ym = some (.int mk mi)) (hm : mi = (mx : Int)) (ht : P.underlying t = some (.slice e)) (hs : ∀ w, (sizeOf e).run P w = .ok sz w) (h1 : l ≤ h') (h2 : h' ≤ mx) (h3 : mx ≤ cp) :
    Val P n ρ A ⟨some d, .slice t x (some yl) (some yh) (some ym), t', pos, after, g⟩ (.slice (if mx = l then a else a.map (·.add (l * sz))) (h' - l) (mx - l)) := fun ac w hf _ => by
  obtain rfl : P.elem t = e := elem_of ht
  subst hl hh hm
  have hr := run_slice_lhm (P := P) w t a m cp ht lk hk mk (l : Int) (h' : Int) (mx : Int) (by omega) (by omega) (by omega) (by omega)
  simp only [hs w, Result.andThen_ok, Int.toNat_natCast, sliced_is] at hr
  simp [execOp, hf.ev hx, hf.ev hy, hf.ev hz, hf.ev hzm, run_sliceAt_slice w t _ _ _ _ ht, hr]
end

/-! ### Cells written in a block that is known -/
theorem firstCells_loc {w : World} {b q size m sl cap : Nat} {all us news ts : List Value} {T : TypeId} (h : w.heap[b]? = some (.cells all.toArray T (0, 0))) (hall : all = us ++ (news ++ ts)) (hq : news ≠ [] → us.length = q) (hn : news.length = m * size) :
    (Builtin.firstCells size m (.slice (some ⟨b, q, none⟩) sl cap)).run P w = .ok news.toArray w := by
  refine run_firstCells_some (P := P) w size m ⟨b, q, none⟩ sl cap news hn fun j v hj => ?_
  have hne : news ≠ [] := by rintro rfl; simp at hj
  have hlt : j < news.length := (List.getElem?_eq_some_iff.1 hj).1
  rw [add_plain]
  subst hall
  simp only [World.cell?, h, ← hq hne]
  show (us ++ (news ++ ts)).toArray[us.length + j]? = some v
  rw [List.getElem?_toArray, List.getElem?_append_right (by omega), Nat.add_sub_cancel_left, List.getElem?_append_left hlt]
  exact hj
theorem storeCells_loc {w : World} {gb o : Nat} {us old ts news : List Value} {T : TypeId} (hg : w.heap[gb]? = some (.cells (us ++ (old ++ ts)).toArray T (0, 0))) (hl : old.length = news.length) (hu : news ≠ [] → us.length = o) (h1 : ∀ u ∈ news, u.oneCell' = true) :
    ∃ w', (storeCells ⟨gb, o, none⟩ news).run P w = .ok () w' ∧ (w' = w ∧ news = [] ∨ w' = w.setRow gb (us ++ (news ++ ts)).toArray) := by
  by_cases hne : news = []
  · subst hne
    exact ⟨w, by simp [storeCells], .inl ⟨rfl, rfl⟩⟩
  · obtain rfl := hu hne
    refine ⟨_, run_storeCells_at (P := P) gb us.length T news 0 _ w hg (by simp; omega) h1, .inr ?_⟩
    congr 2
    simp only [Nat.add_zero, List.toList_toArray]
    rw [List.take_left, ← List.drop_drop, List.drop_left, ← hl, List.drop_left, List.append_assoc]
theorem Asn.stored {w w' : World} {gb : Nat} {us old ts news : List Value} {T : TypeId} (h : Asn w0 ok0 M (.loc gb (us ++ (old ++ ts)) T :: R) w) (hl : old.length = news.length) (hw : w' = w ∧ news = [] ∨ w' = w.setRow gb (us ++ (news ++ ts)).toArray) :
    Asn w0 ok0 M (.loc gb (us ++ (news ++ ts)) T :: R) w' := by
  have hg : w.heap[gb]? = some (.cells (us ++ (old ++ ts)).toArray T (0, 0)) := h.holds _ (List.mem_cons_self ..)
  rcases hw with ⟨rfl, rfl⟩ | rfl
  · have : old = [] := List.eq_nil_of_length_eq_zero (by simpa using hl)
    subst this
    exact h
  · have hlt : gb < w.heap.size := (Array.getElem?_eq_some_iff.1 hg).1
    refine Asn.frame (pre := [_]) h ⟨Ext.setRow ⟨_, List.mem_cons_self .., rfl⟩ _, List.pairwise_singleton _ _, ?_, ?_⟩
    · intro a ha gg hgg
      rw [List.mem_singleton.1 ha] at hgg
      have hgg : gb = gg := Option.some.inj hgg
      subst hgg
      exact ⟨by simpa [World.setRow] using hlt, fun _ => ⟨_, List.mem_cons_self .., rfl⟩⟩
    · intro a ha
      rw [List.mem_singleton.1 ha]
      exact setRow_heap w gb _ _ T (0, 0) hg

theorem HO_appendR {gb b o q m cp sl sc sz i j : Nat} {e td ts' es : TypeId} {T T2 : TypeId} {all all2 : List Value} (us old ts us2 news ts2 : List Value) (hw : wantedB ops ρ g = some true) (hn : Nat.blt d n = true) (hx : ev ρ x = some (.slice (some ⟨gb, o, none⟩) m cp)) (hy : ev ρ y = some (.slice (some ⟨b, q, none⟩) sl sc))
    (ht : P.underlying td = some (.slice e)) (hts : P.underlying ts' = some (.slice es)) (hs : ∀ w, (sizeOf e).run P w = .ok sz w) (hj : X[j]? = some (.loc b all2 T2)) (hp : picks [i] X = some ([.loc gb all T], R)) (hroom : m + sl ≤ cp) (hnl : news.length = sl * sz) (hall2 : all2 = us2 ++ (news ++ ts2)) (hq : news ≠ [] → us2.length = q)
    (hall : all = us ++ (old ++ ts)) (hl : old.length = news.length) (hu : news ≠ [] → us.length = o + m * sz) (h1 : ∀ u ∈ news, u.oneCell' = true)
    (h : HO P Q n ops rest k ((d, .slice (some ⟨gb, o, none⟩) (m + sl) cp) :: ρ) (Asn w0 ok0 M (.loc gb (us ++ (news ++ ts)) T :: R))) :
    HO P Q n ops (⟨some d, .call ⟨.builtin .append, #[x, y], #[td, ts']⟩, t', pos, after, g⟩ :: rest) k ρ (Asn w0 ok0 M X) :=
  HO_valw (β := Unit) (val := fun _ => .slice (some ⟨gb, o, none⟩) (m + sl) cp) (B := fun _ => Asn w0 ok0 M (.loc gb (us ++ (news ++ ts)) T :: R)) hw rfl hn (fun ac w hf hA => by
    subst hall
    have hA' := hA.pick hp
    have hg : w.heap[gb]? = some (.cells (us ++ (old ++ ts)).toArray T (0, 0)) := hA'.holds _ (List.mem_cons_self ..)
    have hf2 := firstCells_loc (P := P) (w := w) (size := sz) (m := sl) (sl := sl) (cap := sc) (hA.get hj) hall2 hq hnl
    obtain ⟨w', hst, hw'⟩ := storeCells_loc (P := P) hg hl hu h1
    refine ⟨(), w', ?_, hA'.stored hl hw'⟩
    simp [execOp, resolve, hf.ev hx, hf.ev hy, invoke, builtin, Builtin.append_, run_underlying ht, run_underlying hts, Builtin.lenOf, hs, hf2, hroom, add_plain, hst]) (fun _ => h)

theorem HO_clearR {gb o m cp sz i : Nat} {e td : TypeId} {T : TypeId} {z : Value} {all : List Value} (us old ts : List Value) (hw : wantedB ops ρ g = some true) (hx : ev ρ x = some (.slice (some ⟨gb, o, none⟩) m cp))
    (ht : P.underlying td = some (.slice e)) (hz : ∀ w, (zeroValue e).run P w = .ok z w) (hzs : z.cells.size = sz) (hz1 : ∀ u ∈ z.cells.toList, u.oneCell' = true) (hp : picks [i] X = some ([.loc gb all T], R)) (hm : m = 1)
    (hall : all = us ++ (old ++ ts)) (hl : old.length = sz) (hu : us.length = o)
    (h : ∀ news, news.length = sz → HO P Q n ops rest k ρ (Asn w0 ok0 M (.loc gb (us ++ (news ++ ts)) T :: R))) :
    HO P Q n ops (⟨none, .call ⟨.builtin .clear, #[x], #[td]⟩, t', pos, after, g⟩ :: rest) k ρ (Asn w0 ok0 M X) := by
  subst hall hm hzs
  intro a w hf hA
  simp only [goOps]
  rw [wanted_of (o := ⟨none, .call ⟨.builtin .clear, #[x], #[td]⟩, t', pos, after, g⟩) hf hw]
  simp only [if_true]
  have hA' := hA.pick hp
  have hg : w.heap[gb]? = some (.cells (us ++ (old ++ ts)).toArray T (0, 0)) := hA'.holds _ (List.mem_cons_self ..)
  have hzc : (Builtin.zeroCells z.cells 1).toList = z.cells.toList := by
    apply List.ext_getElem
    · simp [Builtin.zeroCells]
    · intro q h1 h2
      simp [Builtin.zeroCells] at h1 ⊢
      rw [getElem!_pos _ _ (by rw [Nat.mod_eq_of_lt h1]; exact h1)]
      simp [Nat.mod_eq_of_lt h1]
  obtain ⟨w', hst, hw'⟩ := storeCells_loc (P := P) (news := z.cells.toList) hg (by simpa using hl) (fun _ => hu) hz1
  unfold Oper.wp
  have hrun : (execOp a.eval ⟨none, .call ⟨.builtin .clear, #[x], #[td]⟩, t', pos, after, g⟩).run P w = .ok (.value (.tuple #[])) w' := by
    simp [execOp, resolve, hf.ev hx, invoke, builtin, Builtin.clear_, run_underlying ht, hz, hzc, hst]
  rw [hrun]
  exact h z.cells.toList (by simp) _ _ hf (hA'.stored (by simpa using hl) hw')

end
end Go.Wk
namespace Go.Wk
open Go Go.RowKit
section
variable {P : Program} {Q : Post} {n : Nat} {k : List It} {ρ : Env} {w0 : World} {ok0 M : Nat → Prop} {X : List Atom}
end
end Go.Wk
namespace Go.Wk
open Go Go.RowKit
section
variable {P : Program} {Q : Post} {n : Nat} {k : List It} {ρ : Env} {ops : Array Oper} {rest : List Oper} {A : World → Prop}
variable {d : Nat} {t : TypeId} {pos : String} {after : Array Edge} {g : Option (Nat × Bool)} {x y c : Operand} {v u : Value} {t' : TypeId}
end
end Go.Wk
