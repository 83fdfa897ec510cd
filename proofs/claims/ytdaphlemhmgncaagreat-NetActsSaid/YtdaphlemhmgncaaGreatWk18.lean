/- A small calculus of weakest preconditions over the kit's code: rules for the operations, proved for all programs. -/
import Derived.Test.YtdaphlemhmgncaaGreatWk17
import Derived.DataReads
import Derived.DataElems
set_option linter.unusedVariables false
set_option linter.unusedSimpArgs false
namespace Go.Wk
open Go Go.RowKit Go.ChangeShapes Go.WideShapes Go.ChangeAt
/-! ### Kinds of structs, and how an argument is read as one -/
abbrev BIG : Nat := 140737488351232
def Kd.of {α β : Type} (n : Nat) (cs : α → β → List Value) (fs : α → β → List Atom) (I : α → Prop) (hn : ∀ x y, (cs x y).length = n) (ho : ∀ x y, ∀ u ∈ cs x y, u.oneCell' = true) (hb : ∀ x y, ∀ a ∈ fs x y, a.blk = noB) : Kd α where
  n := n
  rep ok w x vs := I x ∧ ∃ y, vs = cs x y ∧ ∀ a ∈ fs x y, a.p ok w
  len := by rintro ok w x vs ⟨_, y, rfl, _⟩; exact hn x y
  one := by rintro ok w x vs ⟨_, y, rfl, _⟩; exact ho x y
  keep := by
    rintro ok ok' w w' x vs ⟨hI, y, rfl, h⟩ hk
    exact ⟨hI, y, rfl, fun a ha => a.keep (h a ha) (fun b e => by rw [hb x y a ha] at e; cases e) hk⟩
theorem Kd.of_opens {α β : Type} {n : Nat} {cs : α → β → List Value} {fs : α → β → List Atom} {I : α → Prop} {hn : ∀ x y, (cs x y).length = n} {ho : ∀ x y, ∀ u ∈ cs x y, u.oneCell' = true} (hb : ∀ x y, ∀ a ∈ fs x y, a.blk = noB) : Opens (Kd.of n cs fs I hn ho hb) β cs fs I :=
  ⟨fun h => by
    obtain ⟨hI, y, e, h⟩ := h
    exact ⟨hI, y, e, fun a ha => ⟨hb _ _ a ha, h a ha⟩⟩⟩
def Rd (P : Program) (t : TypeId) {α : Type} (kd : Kd α) : Prop :=
  ∀ {H : Type} {enc : TypeId × Value → H} {W : World} {spare : Nat → Bool} {held : Bool} {fuel : Nat} {cs : List Value} {x : DataW H × List MemPlace}, DataW.trod enc P W 0 spare held fuel t cs = some x → (∀ m ∈ x.1.weights P t, m ≤ reachBytes) → ∃ y, kd.rep (fun _ => True) W y cs
theorem reachBIG : reachBytes ≤ BIG := by decide
section
variable {H : Type} {enc : TypeId × Value → H} {P : Program} {W : World} {spare : Nat → Bool} {held : Bool} {fuel : Nat} {t : TypeId} {cs : List Value} {x : DataW H × List MemPlace}
theorem rd_i64 (hu : P.underlying t = some (.int .i64)) (h : DataW.trod enc P W 0 spare held fuel t cs = some x) : ∃ n : Int, cs = [.int .i64 n] ∧ -9223372036854775808 ≤ n ∧ n ≤ 9223372036854775807 := by
  obtain ⟨n, e, _, hw⟩ := DataW.trod_int hu h
  exact ⟨n, e, lit_i64 hw⟩
theorem rd_bool (hu : P.underlying t = some .bool) (h : DataW.trod enc P W 0 spare held fuel t cs = some x) : ∃ b : Bool, cs = [.bool b] := by
  obtain ⟨n, e, _⟩ := DataW.trod_bool hu h
  exact ⟨n, e⟩
theorem rd_str (hu : P.underlying t = some .string) (h : DataW.trod enc P W 0 spare held fuel t cs = some x) (hw : ∀ m ∈ x.1.weights P t, m ≤ reachBytes) : ∃ s : ByteArray, cs = [.string s] ∧ s.size ≤ BIG := by
  obtain ⟨s, e, rfl, _⟩ := DataW.trod_string hu h
  refine ⟨s, e, Nat.le_trans ?_ reachBIG⟩
  have := hw s.data.toList.length (by simp [DataW.weights])
  rwa [Array.length_toList] at this
theorem rd_field {fs : Array Field} (hu : P.underlying t = some (.struct fs)) (h : DataW.trod enc P W 0 spare held fuel t cs = some x) (hw : ∀ m ∈ x.1.weights P t, m ≤ reachBytes) {i m : Nat} {f : Field} (hf : fs[i]? = some f) (hc : P.cellsOf f.type = m) :
    ∃ fuel' y, DataW.trod enc P W 0 spare held fuel' f.type ((cs.drop f.offset).take m) = some y ∧ ∀ m ∈ y.1.weights P f.type, m ≤ reachBytes := by
  obtain ⟨xs, n, _, rfl, hl, hlen, hfs⟩ := DataW.trod_struct hu h
  have h1 := hfs i f hf
  obtain ⟨y, hy⟩ : ∃ y, xs[i]? = some y := ⟨_, List.getElem?_eq_getElem (by have := (Array.getElem?_eq_some_iff.1 hf).1; omega)⟩
  rw [hc, hy] at h1
  refine ⟨n, y, h1, fun m hm => hw m ?_⟩
  simp only [DataW.weights, hu]
  exact DataW.weights_mem_each (j := i) (t := f.type) (d := y.1) (by rw [List.getElem?_map, Array.getElem?_toList, hf]; rfl) (by rw [List.getElem?_map, hy]; rfl) m hm
theorem rd_size {fs : Array Field} (hu : P.underlying t = some (.struct fs)) (h : DataW.trod enc P W 0 spare held fuel t cs = some x) {m : Nat} (hc : P.cellsOf t = m) : cs.length = m := by
  obtain ⟨xs, n, _, rfl, hl, hlen, hfs⟩ := DataW.trod_struct hu h
  rw [hl, hc]
theorem weightsAll_mem {e : TypeId} {d : DataW H} {n : Nat} (hn : n ∈ d.weights P e) : ∀ {ds : List (DataW H)}, d ∈ ds → n ∈ DataW.weightsAll P e ds
  | [], h => nomatch h
  | d0 :: ds, h => by
    simp only [DataW.weightsAll, List.mem_append]
    rcases List.mem_cons.1 h with rfl | h
    · exact .inl hn
    · exact .inr (weightsAll_mem hn h)
theorem rd_slice {e : TypeId} {α : Type} {kd : Kd α} (hu : P.underlying t = some (.slice e)) (hc : P.cellsOf e = kd.n) (hp : 0 < kd.n) (hb : 0 < P.bytesOf e) (hk : Rd P e kd) (h : DataW.trod enc P W 0 spare held fuel t cs = some x) (hw : ∀ m ∈ x.1.weights P t, m ≤ reachBytes) :
    ∃ (a : Option Addr) (c : Nat) (xs : List α), cs = [.slice a xs.length c] ∧ xs.length ≤ BIG ∧ kd.sl.rep (fun _ => True) W xs [.slice a xs.length c] := by
  rcases DataW.trod_slice hu h with ⟨rfl, _⟩ | ⟨a, len, cap, elems, rest, n, _, rfl, rfl, _, hl, hm, hlen, hel, _, _⟩
  · exact ⟨none, 0, [], rfl, Nat.zero_le _, none, 0, rfl, Nat.le_refl _, Nat.zero_le _, fun _ => rfl, fun h => absurd h (Nat.lt_irrefl _)⟩
  simp only [DataW.weights, hu, List.mem_cons, List.mem_append] at hw
  have hbig : len ≤ BIG := by
    have h1 := hw _ (.inl rfl)
    simp only [List.length_map] at h1
    have h2 : len ≤ (elems.length + rest.length) * P.bytesOf e := by
      rw [hlen]
      exact Nat.le_trans (Nat.le_add_right _ _) (Nat.le_mul_of_pos_right _ hb)
    exact Nat.le_trans h2 (Nat.le_trans h1 reachBIG)
  have hone : ∀ i, i < len → ∃ csi, (∀ j u, csi[j]? = some u → W.cell? (a.add (i * kd.n + j)) = some u) ∧ csi.length = kd.n ∧ ∃ y, kd.rep (fun _ => True) W y csi := by
    intro i hi
    have h1 := hel i hi
    obtain ⟨y, hy⟩ : ∃ y, elems[i]? = some y := ⟨_, List.getElem?_eq_getElem (by omega)⟩
    rw [hy, hc] at h1
    cases hcs : W.cells? 0 (a.add (i * kd.n)) kd.n with
    | none => rw [hcs] at h1; cases h1
    | some csi =>
      rw [hcs] at h1
      obtain ⟨_, hlen', hget⟩ := World.cells?_some hcs
      refine ⟨csi, fun j u hj => ?_, hlen', hk h1 fun m hm => hw m (.inr (.inl (weightsAll_mem hm (List.mem_map.2 ⟨y, List.mem_of_getElem? hy, rfl⟩))))⟩
      have hj2 := (List.getElem?_eq_some_iff.1 hj).1
      have := hget j (by omega)
      rw [hj] at this
      rw [← this, Addr.add_add]
  by_cases h0 : len = 0
  · subst h0
    exact ⟨some a, cap, [], rfl, Nat.zero_le _, some a, cap, rfl, Nat.zero_le _, hm, by simp, fun h => absurd h (Nat.lt_irrefl _)⟩
  obtain ⟨cs0, hcs0, hl0, _⟩ := hone 0 (by omega)
  have hc0 : W.cell? (a.add 0) = some cs0[0] := by
    have := hcs0 0 cs0[0] (List.getElem?_eq_getElem (by omega))
    simpa using this
  have hs : a.spot = none := by
    have := World.cell?_spot hc0
    simpa [Addr.add] using this
  obtain ⟨b, o, s⟩ := a
  cases hs
  have hadd : ∀ j, (⟨b, o, none⟩ : Addr).add j = ⟨b, o + j, none⟩ := add_plain b o
  have build : ∀ m, m ≤ len → ∃ (xs : List α) (vals : List Value), xs.length = m ∧ rowRep kd (fun _ => True) W xs vals ∧ cellsAt W b o vals := by
    intro m
    induction m with
    | zero => exact fun _ => ⟨[], [], rfl, rfl, fun j u hj => by simp at hj⟩
    | succ m ih =>
      intro hm
      obtain ⟨xs, vals, hx, hr, hcl⟩ := ih (by omega)
      obtain ⟨csi, hci, hli, y, hy⟩ := hone m (by omega)
      refine ⟨xs ++ [y], vals ++ csi, by simp [hx], hr.append ⟨csi, [], by simp, hy, rfl⟩, fun j u hj => ?_⟩
      have hvl := hr.len
      rw [hx] at hvl
      by_cases hjl : j < vals.length
      · rw [List.getElem?_append_left hjl] at hj
        exact hcl j u hj
      · rw [List.getElem?_append_right (by omega)] at hj
        have := hci _ _ hj
        rw [hadd] at this
        rw [← this]
        congr 2
        omega
  obtain ⟨xs, vals, hx, hr, hcl⟩ := build len (Nat.le_refl _)
  refine ⟨some ⟨b, o, none⟩, cap, xs, by rw [hx], by omega, some ⟨b, o, none⟩, cap, rfl, by omega, hm, by simp, fun _ => ⟨b, o, vals, rfl, trivial, hr, hcl, ?_⟩⟩
  rw [hadd] at hc0
  exact World.block_lt_of_cell? W _ hc0
theorem Rd.int (hu : P.underlying t = some (.int .i64)) : Rd P t kInt := fun h _ => by
  obtain ⟨n, e, hn⟩ := rd_i64 hu h
  exact ⟨n, e, hn⟩
theorem Rd.byte (hu : P.underlying t = some (.int .u8)) : Rd P t kByte := fun h _ => by
  obtain ⟨n, e, _, hw⟩ := DataW.trod_int hu h
  obtain ⟨u, rfl⟩ := lit_u8 hw
  exact ⟨u, e, trivial⟩
theorem weigh {ts : List TypeId} {ds : List (DataW H)} (h : (DataW.weightsEach P ts ds).all (· ≤ reachBytes) = true) {j : Nat} {d : DataW H} (ht : ts[j]? = some t) (hd : ds[j]? = some d) : ∀ m ∈ d.weights P t, m ≤ reachBytes := fun m hm => by
  have := List.all_eq_true.1 h _ (DataW.weights_mem_each ht hd m hm)
  simpa using this
end
end Go.Wk
namespace Go.Wk
def KeepL (R : List Atom) : List Atom → Prop
  | [] => True
  | a :: r => (∀ g, a.blk g → ∃ a' ∈ R, a'.blk g) ∧ KeepL R r
theorem keepL {R : List Atom} : ∀ {pre : List Atom}, KeepL R pre → ∀ a ∈ pre, ∀ g, a.blk g → ∃ a' ∈ R, a'.blk g
  | [], _, _, h => nomatch h
  | _ :: _, h, a, ha => by
    rcases List.mem_cons.1 ha with rfl | ha
    · exact h.1
    · exact keepL h.2 a ha
theorem keepM {pre R : List Atom} {M0 : Nat → Prop} (hM0 : blks pre = M0) (h : KeepL R pre) : ∀ b, M0 b → blks R b := by
  subst hM0
  rintro b ⟨a, ha, hb⟩
  exact keepL h a ha b hb
end Go.Wk
