/- A small calculus of weakest preconditions over the kit's code: rules for the operations, proved for all programs. -/
import Derived.Test.YtdaphlemhmgncaaGreatWk22
set_option linter.unusedVariables false
set_option linter.unusedSimpArgs false
namespace Go.Wk
open Go Go.RowKit
/-! ### Rows of rows -/
structure Hd where
  a : Option Addr
  n : Nat
  c : Nat
def kHd : Kd Hd := .flat 1 (fun x => [.slice x.a x.n x.c]) (fun _ => True) (fun _ => rfl) (by intro x u hu; simp at hu; subst hu; rfl)
structure Rw where
  a : Option Addr
  c : Nat
  b : List UInt8
abbrev Rw.hd (r : Rw) : Hd := ⟨r.a, r.b.length, r.c⟩
abbrev noRow : Rw := ⟨none, 0, []⟩
abbrev Rw.own (T : TypeId) (r : Rw) : Atom := .own T kByte r.a r.c r.b
def Atom.rows (T : TypeId) (G : List Rw) : Atom where
  blk := fun b => ∃ r ∈ G, ownBlk r.a r.c = some b
  p ok w := (G.Pairwise fun r s => ∀ g, ownBlk r.a r.c = some g → ownBlk s.a s.c = some g → False) ∧ ∀ r ∈ G, (r.own T).p ok w
  keep := by
    intro ok ok' w w' h hb hk
    exact ⟨h.1, fun r hr => Atom.keep _ (h.2 r hr) (fun b e => hb b ⟨r, hr, e⟩) hk⟩
section
variable {w0 : World} {ok0 M : Nat → Prop} {X R : List Atom} {w : World}
theorem blks_cons {a : Atom} {X : List Atom} (b : Nat) : blks (a :: X) b ↔ a.blk b ∨ blks X b := by simp [blks]
theorem Asn.part {A B C : Atom} (hb : ∀ b, A.blk b ↔ B.blk b ∨ C.blk b) (hp : ∀ ok w, A.p ok w → B.p ok w ∧ C.p ok w ∧ ∀ g, B.blk g → C.blk g → False) (h : Asn w0 ok0 M (A :: R) w) : Asn w0 ok0 M (B :: C :: R) w := by
  have hbl : ∀ b, blks (B :: C :: R) b ↔ blks (A :: R) b := fun b => by
    simp only [blks_cons, hb, or_assoc]
  have happ := List.pairwise_cons.1 h.apart
  have h0 := hp _ _ (h.holds A (List.mem_cons_self ..))
  have hok : ∀ b, okX w0 ok0 (A :: R) b → okX w0 ok0 (B :: C :: R) b := fun b hk => ⟨hk.1, fun hx => hk.2 ((hbl b).1 hx)⟩
  refine ⟨h.ext, List.pairwise_cons.2 ⟨fun x hx g hg hg2 => ?_, List.pairwise_cons.2 ⟨fun x hx g hg hg2 => happ.1 x hx g ((hb g).2 (.inr hg)) hg2, happ.2⟩⟩, fun x hx g hg => ?_, fun x hx => ?_⟩
  · rcases List.mem_cons.1 hx with rfl | hx
    · exact h0.2.2 g hg hg2
    · exact happ.1 x hx g ((hb g).2 (.inl hg)) hg2
  · rcases List.mem_cons.1 hx with rfl | hx
    · exact h.lt A (List.mem_cons_self ..) g ((hb g).2 (.inl hg))
    · rcases List.mem_cons.1 hx with rfl | hx
      · exact h.lt A (List.mem_cons_self ..) g ((hb g).2 (.inr hg))
      · exact h.lt x (List.mem_cons_of_mem _ hx) g hg
  · rcases List.mem_cons.1 hx with rfl | hx
    · exact Atom.keep _ h0.1 (fun _ _ => rfl) fun b _ hk => ⟨hok b hk, rfl⟩
    · rcases List.mem_cons.1 hx with rfl | hx
      · exact Atom.keep _ h0.2.1 (fun _ _ => rfl) fun b _ hk => ⟨hok b hk, rfl⟩
      · exact Atom.keep _ (h.holds x (List.mem_cons_of_mem _ hx)) (fun _ _ => rfl) fun b _ hk => ⟨hok b hk, rfl⟩
theorem Asn.whole {A B C : Atom} (hb : ∀ b, A.blk b ↔ B.blk b ∨ C.blk b) (hp : ∀ ok w, B.p ok w → C.p ok w → (∀ g, B.blk g → C.blk g → False) → A.p ok w) (h : Asn w0 ok0 M (B :: C :: R) w) : Asn w0 ok0 M (A :: R) w := by
  have hbl : ∀ b, blks (B :: C :: R) b ↔ blks (A :: R) b := fun b => by
    simp only [blks_cons, hb, or_assoc]
  have happ := List.pairwise_cons.1 h.apart
  have happ2 := List.pairwise_cons.1 happ.2
  have hok : ∀ b, okX w0 ok0 (B :: C :: R) b → okX w0 ok0 (A :: R) b := fun b hk => ⟨hk.1, fun hx => hk.2 ((hbl b).2 hx)⟩
  refine ⟨h.ext, List.pairwise_cons.2 ⟨fun x hx g hg hg2 => ?_, happ2.2⟩, fun x hx g hg => ?_, fun x hx => ?_⟩
  · rcases (hb g).1 hg with hg | hg
    · exact happ.1 x (List.mem_cons_of_mem _ hx) g hg hg2
    · exact happ2.1 x hx g hg hg2
  · rcases List.mem_cons.1 hx with rfl | hx
    · rcases (hb g).1 hg with hg | hg
      · exact h.lt B (List.mem_cons_self ..) g hg
      · exact h.lt C (List.mem_cons_of_mem _ (List.mem_cons_self ..)) g hg
    · exact h.lt x (List.mem_cons_of_mem _ (List.mem_cons_of_mem _ hx)) g hg
  · rcases List.mem_cons.1 hx with rfl | hx
    · exact Atom.keep _ (hp _ _ (h.holds B (List.mem_cons_self ..)) (h.holds C (List.mem_cons_of_mem _ (List.mem_cons_self ..))) (happ.1 C (List.mem_cons_self ..))) (fun _ _ => rfl) fun b _ hk => ⟨hok b hk, rfl⟩
    · exact Atom.keep _ (h.holds x (List.mem_cons_of_mem _ (List.mem_cons_of_mem _ hx))) (fun _ _ => rfl) fun b _ hk => ⟨hok b hk, rfl⟩
theorem rows_blk {T : TypeId} {G1 G2 : List Rw} {r : Rw} (b : Nat) : (Atom.rows T (G1 ++ r :: G2)).blk b ↔ (r.own T).blk b ∨ (Atom.rows T (G1 ++ G2)).blk b := by
  simp only [Atom.rows, Rw.own, Atom.own, List.mem_append, List.mem_cons]
  constructor
  · rintro ⟨s, hs | rfl | hs, e⟩
    · exact .inr ⟨s, .inl hs, e⟩
    · exact .inl e
    · exact .inr ⟨s, .inr hs, e⟩
  · rintro (e | ⟨s, hs | hs, e⟩)
    · exact ⟨r, .inr (.inl rfl), e⟩
    · exact ⟨s, .inl hs, e⟩
    · exact ⟨s, .inr (.inr hs), e⟩
theorem Asn.rowsOut {T : TypeId} {G1 G2 : List Rw} {r : Rw} (h : Asn w0 ok0 M (.rows T (G1 ++ r :: G2) :: R) w) : Asn w0 ok0 M (r.own T :: .rows T (G1 ++ G2) :: R) w := by
  refine h.part rows_blk fun ok w hp => ?_
  have h1 : ∀ {x y : Rw}, (∀ g, ownBlk x.a x.c = some g → ownBlk y.a y.c = some g → False) → ∀ g, ownBlk y.a y.c = some g → ownBlk x.a x.c = some g → False := fun h g h1 h2 => h g h2 h1
  have hp2 := (List.perm_middle.pairwise_iff (fun {x y} h => h1 h)).1 hp.1
  rw [List.pairwise_cons] at hp2
  refine ⟨hp.2 r (by simp), ⟨hp2.2, fun s hs => hp.2 s ?_⟩, fun g hg hg2 => ?_⟩
  · rcases List.mem_append.1 hs with hs | hs
    · exact List.mem_append_left _ hs
    · exact List.mem_append_right _ (List.mem_cons_of_mem _ hs)
  · obtain ⟨s, hs, e⟩ := hg2
    exact hp2.1 s hs g hg e
theorem Asn.rowsIn {T : TypeId} {G1 G2 : List Rw} {r : Rw} (h : Asn w0 ok0 M (r.own T :: .rows T (G1 ++ G2) :: R) w) : Asn w0 ok0 M (.rows T (G1 ++ r :: G2) :: R) w := by
  refine h.whole rows_blk fun ok w hp1 hp2 hd => ?_
  have h1 : ∀ {x y : Rw}, (∀ g, ownBlk x.a x.c = some g → ownBlk y.a y.c = some g → False) → ∀ g, ownBlk y.a y.c = some g → ownBlk x.a x.c = some g → False := fun h g h1 h2 => h g h2 h1
  refine ⟨(List.perm_middle.pairwise_iff (fun {x y} h => h1 h)).2 (List.pairwise_cons.2 ⟨fun s hs g hg hg2 => hd g hg ⟨s, hs, hg2⟩, hp2.1⟩), fun s hs => ?_⟩
  rcases List.mem_append.1 hs with hs | hs
  · exact hp2.2 s (List.mem_append_left _ hs)
  · rcases List.mem_cons.1 hs with rfl | hs
    · exact hp1
    · exact hp2.2 s (List.mem_append_right _ hs)
theorem Asn.rows0 {T : TypeId} (h : Asn w0 ok0 M X w) : Asn w0 ok0 M (.rows T [] :: X) w :=
  h.add (by funext b; simp [Atom.rows, noB]) ⟨List.Pairwise.nil, fun r hr => nomatch hr⟩
theorem eraseIdx_take_drop {α : Type} : ∀ (l : List α) (k : Nat), l.eraseIdx k = l.take k ++ l.drop (k + 1)
  | [], _ => by simp
  | x :: l, 0 => by simp
  | x :: l, k + 1 => by simp [eraseIdx_take_drop l k]
theorem split_at {α : Type} {l : List α} {k : Nat} {x : α} (h : l[k]? = some x) : l = l.take k ++ x :: l.drop (k + 1) := by
  obtain ⟨hk, he⟩ := List.getElem?_eq_some_iff.1 h
  rw [← he, List.getElem_cons_drop, List.take_append_drop]
theorem set_take_drop {α : Type} {l : List α} {k : Nat} {x : α} (hk : k < l.length) : l.set k x = l.take k ++ x :: l.drop (k + 1) := by
  rw [List.set_eq_take_append_cons_drop, if_pos hk]
abbrev rowAt (G : List Rw) (k : Nat) : Rw := (G[k]?).getD noRow
theorem Asn.takeRow {T : TypeId} {G : List Rw} (k : Nat) (h : Asn w0 ok0 M (.rows T G :: R) w) : Asn w0 ok0 M (.own T kByte (rowAt G k).a (rowAt G k).c (rowAt G k).b :: .rows T (G.eraseIdx k) :: R) w := by
  cases hk : G[k]? with
  | none =>
    have hge := List.getElem?_eq_none_iff.1 hk
    rw [List.eraseIdx_of_length_le hge]
    have e : rowAt G k = noRow := by simp [rowAt, hk]
    rw [e]
    exact h.own0
  | some r =>
    have e : rowAt G k = r := by simp [rowAt, hk]
    rw [e, eraseIdx_take_drop]
    rw [split_at hk] at h
    exact h.rowsOut
theorem Asn.giveRow {T : TypeId} {G : List Rw} {k : Nat} {xs : List UInt8} (h : Asn w0 ok0 M (.own T kByte (rowAt G k).a (rowAt G k).c xs :: .rows T (G.eraseIdx k) :: R) w) : Asn w0 ok0 M (.rows T (G.set k ⟨(rowAt G k).a, (rowAt G k).c, xs⟩) :: R) w := by
  cases hk : G[k]? with
  | none =>
    have hge := List.getElem?_eq_none_iff.1 hk
    rw [List.set_eq_of_length_le hge]
    rw [List.eraseIdx_of_length_le hge] at h
    exact h.sub (List.sublist_cons_self _ _)
  | some r =>
    have hlt := (List.getElem?_eq_some_iff.1 hk).1
    rw [set_take_drop hlt]
    rw [eraseIdx_take_drop] at h
    exact Asn.rowsIn (r := ⟨(rowAt G k).a, (rowAt G k).c, xs⟩) h
theorem set_same {G : List Rw} {k : Nat} : G.set k ⟨(rowAt G k).a, (rowAt G k).c, (rowAt G k).b⟩ = G := by
  cases hk : G[k]? with
  | none => exact List.set_eq_of_length_le (List.getElem?_eq_none_iff.1 hk)
  | some r =>
    have hlt := (List.getElem?_eq_some_iff.1 hk).1
    have e : rowAt G k = r := by simp [rowAt, hk]
    rw [e, set_take_drop hlt]
    exact (split_at hk).symm
theorem Asn.moreRow {T : TypeId} {G : List Rw} {a : Option Addr} {c : Nat} {xs : List UInt8} (p : Prop) [Decidable p] (h : Asn w0 ok0 M (.own T kByte a c xs :: .rows T G :: R) w) : Asn w0 ok0 M (.rows T (if p then G ++ [⟨a, c, xs⟩] else G) :: R) w := by
  by_cases hp : p
  · rw [if_pos hp]
    have h2 : Asn w0 ok0 M ((⟨a, c, xs⟩ : Rw).own T :: .rows T (G ++ []) :: R) w := by rw [List.append_nil]; exact h
    exact h2.rowsIn
  · rw [if_neg hp]
    exact h.sub (List.sublist_cons_self _ _)
end
section
variable {P : Program} {Q : Post} {n : Nat} {k : List It} {ρ : Env} {ops : Array Oper} {rest : List Oper}
variable {w0 : World} {ok0 M : Nat → Prop} {X R : List Atom}
variable {d : Nat} {t : TypeId} {pos : String} {after : Array Edge} {g : Option (Nat × Bool)} {x y c : Operand} {v u : Value} {t' : TypeId} {A : World → Prop}
theorem H_rows0 (T : TypeId) (h : H P Q n k ρ (Asn w0 ok0 M (.rows T [] :: X))) : H P Q n k ρ (Asn w0 ok0 M X) := H_world (fun _ hA => hA.rows0) h
theorem H_takeRow {T : TypeId} {G : List Rw} {i : Nat} (j : Nat) (hp : picks [i] X = some ([.rows T G], R)) (h : H P Q n k ρ (Asn w0 ok0 M (.own T kByte (rowAt G j).a (rowAt G j).c (rowAt G j).b :: .rows T (G.eraseIdx j) :: R))) : H P Q n k ρ (Asn w0 ok0 M X) :=
  H_world (fun _ hA => (hA.pick hp).takeRow j) h
theorem H_giveRow {T : TypeId} {G : List Rw} {i i2 j : Nat} {xs : List UInt8} (hp : picks [i, i2] X = some ([.own T kByte (rowAt G j).a (rowAt G j).c xs, .rows T (G.eraseIdx j)], R)) (h : H P Q n k ρ (Asn w0 ok0 M (.rows T (G.set j ⟨(rowAt G j).a, (rowAt G j).c, xs⟩) :: R))) : H P Q n k ρ (Asn w0 ok0 M X) :=
  H_world (fun _ hA => (hA.pick hp).giveRow) h
theorem H_moreRow {T : TypeId} {G : List Rw} {i i2 : Nat} {a : Option Addr} {cp : Nat} {xs : List UInt8} (p : Prop) [Decidable p] (hp : picks [i, i2] X = some ([.own T kByte a cp xs, .rows T G], R)) (h : H P Q n k ρ (Asn w0 ok0 M (.rows T (if p then G ++ [⟨a, cp, xs⟩] else G) :: R))) : H P Q n k ρ (Asn w0 ok0 M X) :=
  H_world (fun _ hA => (hA.pick hp).moreRow p) h
theorem HO_loadOwnS {α β : Type} {kd : Kd α} {cs : α → β → List Value} {fs : α → β → List Atom} {I : α → Prop} (ho : Opens kd β cs fs I) {T : TypeId} {xs : List α} {a : Option Addr} {cp i j q gb : Nat} {z : α} {vv : α → β → Value} (hw : wantedB ops ρ g = some true) (hn : Nat.blt d n = true) (hx : ev ρ x = some (.pointer (some ⟨gb, q, none⟩)))
    (ht : ∀ w, (isAgg t).run P w = .ok false w) (hv : ∀ z yy, cs z yy = [vv z yy]) (hi : X[i]? = some (.own T kd a cp xs)) (ha : a = some ⟨gb, 0, none⟩) (hq : j * 1 = q) (hz : xs[j]? = some z)
    (h : ∀ yy, I z → HO P Q n ops rest k ((d, vv z yy) :: ρ) (Asn w0 ok0 M (fs z yy ++ X))) : HO P Q n ops (⟨some d, .load t x, t', pos, after, g⟩ :: rest) k ρ (Asn w0 ok0 M X) := by
  rw [Nat.mul_one] at hq
  subst hq
  refine HO_valw (β := {yy : β // I z}) (val := fun yy => vv z yy.1) (B := fun yy => Asn w0 ok0 M (fs z yy.1 ++ X)) hw rfl hn (fun ac w hf hA => ?_) (fun yy => h yy.1 yy.2)
  obtain ⟨g', us, c1, ts, e, hg, hl, hrep, _⟩ := own_at (hA.get hi) hz
  rw [ha] at e
  cases e
  obtain ⟨hI, yy, rfl, hfs⟩ := ho.out hrep
  refine ⟨⟨yy, hI⟩, w, ?_, hA.adds hfs⟩
  have hkn : kd.n = 1 := by rw [← kd.len hrep, hv]; rfl
  have hc : w.cell? ⟨gb, j, none⟩ = some (vv z yy) := by
    simp only [World.cell?, hg]
    show (us ++ (cs z yy ++ ts)).toArray[j]? = some _
    rw [hkn, Nat.mul_one] at hl
    rw [List.getElem?_toArray, ← hl, List.getElem?_append_right (Nat.le_refl _), Nat.sub_self, hv]
    rfl
  simp [execOp, hf.ev hx, Instr.loadAt, Instr.sureAddr, run_loadVar1 (ht w) hc]
theorem SrcOk.partOwn {α : Type} {kd : Kd α} {ys : List α} {u' e T : TypeId} {a : Option Addr} {cp j l h' : Nat} (hu : P.underlying u' = some (.slice e)) (hj : X[j]? = some (.own T kd a cp ys)) (h1 : l ≤ h') (h2 : h' ≤ ys.length) : SrcOk P u' X kd (.slice (if cp = l then a else a.map (·.add (l * kd.n))) (h' - l) (cp - l)) ((ys.take h').drop l) :=
  fun ok w hall => by
    have hown := hall _ (List.mem_of_getElem? hj)
    have hlen : ((ys.take h').drop l).length = h' - l := by rw [List.length_drop, List.length_take]; omega
    rcases hown with ⟨rfl, rfl⟩ | ⟨hc, gb, cur, vals, rfl, g1, g2, g3, g4, g5, g6⟩
    · obtain rfl : h' = 0 := by simpa using h2
      obtain rfl : l = 0 := by omega
      refine ⟨[], ⟨.inl ⟨e, hu⟩, fun w => ?_, fun w' _ => ?_⟩, by simp [rowRep]⟩
      · simp [Builtin.lenOf]
      · cases a <;> simp [Builtin.firstCells, loadCells, loadCellsFrom]
    · by_cases hcl : cp = l
      · have hl0 : h' - l = 0 := by omega
        rw [if_pos hcl]
        have e0 : (ys.take h').drop l = [] := List.length_eq_zero_iff.1 (by omega)
        rw [e0, hl0]
        exact ⟨[], ⟨.inl ⟨e, hu⟩, fun w => rfl, fun w' _ => by simp [Builtin.firstCells, loadCells, loadCellsFrom]⟩, rfl⟩
      · rw [if_neg hcl]
        rw [split3 (xs := ys) h1] at g5
        obtain ⟨us, ts, rfl, r1, r2⟩ := g5.split
        obtain ⟨us2, ts2, rfl, r3, r4⟩ := r2.split
        have hul : us.length = l * kd.n := by rw [r1.len, List.length_take, Nat.min_eq_left (by omega)]
        have hu2 : us2.length = (h' - l) * kd.n := by rw [r3.len, hlen]
        refine ⟨us2, ⟨.inl ⟨e, hu⟩, fun w => ?_, fun w' hw' => ?_⟩, r3⟩
        · rw [hlen]; rfl
        · rw [hlen]
          show (Builtin.firstCells kd.n (h' - l) (.slice (some ((⟨gb, 0, none⟩ : Addr).add (l * kd.n))) (h' - l) (cp - l))).run P w' = _
          rw [add_plain]
          refine run_firstCells_some (P := P) w' kd.n _ ⟨gb, 0 + l * kd.n, none⟩ _ (cp - l) us2 hu2 (fun q v hq => ?_)
          have hql := (List.getElem?_eq_some_iff.1 hq).1
          rw [add_plain]
          have h1' : w'.heap[gb]? = some (.cells cur T (0, 0)) := by rw [hw']; exact g1
          simp only [World.cell?, h1']
          have hq2 : (us ++ (us2 ++ ts2))[l * kd.n + q]? = some v := by rw [List.getElem?_append_right (by omega), show l * kd.n + q - us.length = q by omega, List.getElem?_append_left hql]; exact hq
          rw [← g6, List.getElem?_take] at hq2
          split at hq2
          · rw [Nat.zero_add]; simpa using hq2
          · cases hq2
end
section
variable {α : Type} {kd : Kd α} {ok : Nat → Prop} {w : World} {xs : List α} {vs cx : List Value} {x : α} {i : Nat}
theorem rowRep.parts2 (h : rowRep kd ok w xs vs) (hi : i ≤ xs.length) : rowRep kd ok w (xs.take i) (vs.take (i * kd.n)) ∧ rowRep kd ok w (xs.drop i) (vs.drop (i * kd.n)) := by
  have h0 := h
  rw [← List.take_append_drop i xs] at h
  obtain ⟨us, ts, rfl, h1, h2⟩ := rowRep.split h
  have hl := h1.len
  rw [List.length_take, Nat.min_eq_left hi] at hl
  rw [← hl, List.take_left, List.drop_left]
  exact ⟨h1, h2⟩
theorem rowRep.del2 (h : rowRep kd ok w xs vs) (hi : i < xs.length) : rowRep kd ok w (xs.take i ++ xs.drop (i + 1)) (vs.take (i * kd.n) ++ vs.drop ((i + 1) * kd.n)) :=
  (h.parts2 (Nat.le_of_lt hi)).1.append (h.parts2 hi).2
end
end Go.Wk
