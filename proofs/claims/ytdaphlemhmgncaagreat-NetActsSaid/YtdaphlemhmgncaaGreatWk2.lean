/- A small calculus of weakest preconditions over the kit's code: rules for the operations, proved for all programs. -/
import Derived.Test.YtdaphlemhmgncaaGreatWk1
import Derived.Below
import Derived.Laws.AppendOwn
set_option linter.unusedVariables false
set_option linter.unusedSimpArgs false
namespace Go.Wk
open Go Go.RowKit

/-! ### Kinds of data: how a Lean value stands in cells -/
structure Kd (α : Type) where
  n : Nat
  rep : (Nat → Prop) → World → α → List Value → Prop
  len : ∀ {ok w x cs}, rep ok w x cs → cs.length = n
  one : ∀ {ok w x cs}, rep ok w x cs → ∀ u ∈ cs, u.oneCell' = true
  keep : ∀ {ok ok' : Nat → Prop} {w w' : World} {x cs}, rep ok w x cs → (∀ b, b < w.heap.size → ok b → ok' b ∧ w'.heap[b]? = w.heap[b]?) → rep ok' w' x cs

def rowRep {α : Type} (d : Kd α) (ok : Nat → Prop) (w : World) : List α → List Value → Prop
  | [], vs => vs = []
  | x :: xs, vs => ∃ cs rest, vs = cs ++ rest ∧ d.rep ok w x cs ∧ rowRep d ok w xs rest

section
variable {α : Type} {d : Kd α} {ok ok' : Nat → Prop} {w w' : World}
theorem rowRep.len : ∀ {xs : List α} {vs : List Value}, rowRep d ok w xs vs → vs.length = xs.length * d.n
  | [], vs, h => by simp only [rowRep] at h; subst h; simp
  | x :: xs, vs, h => by
    obtain ⟨cs, rest, rfl, hc, hr⟩ := h
    rw [List.length_append, d.len hc, rowRep.len hr, List.length_cons, Nat.add_mul]
    omega
theorem rowRep.one : ∀ {xs : List α} {vs : List Value}, rowRep d ok w xs vs → ∀ u ∈ vs, u.oneCell' = true
  | [], vs, h => by simp only [rowRep] at h; subst h; simp
  | x :: xs, vs, h => by
    obtain ⟨cs, rest, rfl, hc, hr⟩ := h
    intro u hu
    rcases List.mem_append.1 hu with hu | hu
    · exact d.one hc u hu
    · exact rowRep.one hr u hu
theorem rowRep.keep (hk : ∀ b, b < w.heap.size → ok b → ok' b ∧ w'.heap[b]? = w.heap[b]?) : ∀ {xs : List α} {vs : List Value}, rowRep d ok w xs vs → rowRep d ok' w' xs vs
  | [], vs, h => h
  | x :: xs, vs, h => by
    obtain ⟨cs, rest, rfl, hc, hr⟩ := h
    exact ⟨cs, rest, rfl, d.keep hc hk, rowRep.keep hk hr⟩
theorem rowRep.append : ∀ {xs ys : List α} {vs us : List Value}, rowRep d ok w xs vs → rowRep d ok w ys us → rowRep d ok w (xs ++ ys) (vs ++ us)
  | [], ys, vs, us, h, g => by simp only [rowRep] at h; subst h; simpa using g
  | x :: xs, ys, vs, us, h, g => by
    obtain ⟨cs, rest, rfl, hc, hr⟩ := h
    exact ⟨cs, rest ++ us, by simp, hc, rowRep.append hr g⟩
theorem rowRep.split : ∀ {xs ys : List α} {vs : List Value}, rowRep d ok w (xs ++ ys) vs → ∃ us ts, vs = us ++ ts ∧ rowRep d ok w xs us ∧ rowRep d ok w ys ts
  | [], ys, vs, h => ⟨[], vs, rfl, rfl, h⟩
  | x :: xs, ys, vs, h => by
    obtain ⟨cs, rest, rfl, hc, hr⟩ := h
    obtain ⟨us, ts, rfl, h1, h2⟩ := rowRep.split hr
    exact ⟨cs ++ us, ts, by simp, ⟨cs, us, rfl, hc, h1⟩, h2⟩
theorem rowRep.at_ {xs : List α} {vs : List Value} (h : rowRep d ok w xs vs) {k : Nat} {x : α} (hx : xs[k]? = some x) :
    ∃ us cs ts, vs = us ++ (cs ++ ts) ∧ us.length = k * d.n ∧ d.rep ok w x cs ∧ rowRep d ok w (xs.take k) us ∧ rowRep d ok w (xs.drop (k + 1)) ts := by
  obtain ⟨hk, he⟩ := List.getElem?_eq_some_iff.1 hx
  have hsplit : xs = xs.take k ++ (x :: xs.drop (k + 1)) := by
    rw [← he, List.getElem_cons_drop, List.take_append_drop]
  rw [hsplit] at h
  obtain ⟨us, ts, rfl, h1, h2⟩ := rowRep.split h
  obtain ⟨cs, rest, rfl, hc, hr⟩ := h2
  exact ⟨us, cs, rest, rfl, by rw [h1.len, List.length_take, Nat.min_eq_left (by omega)], hc, h1, hr⟩
end

def cellsAt (w : World) (b o : Nat) (cs : List Value) : Prop := ∀ j u, cs[j]? = some u → w.cell? ⟨b, o + j, none⟩ = some u
theorem cellsAt.keep {w w' : World} {b o : Nat} {cs : List Value} (h : cellsAt w b o cs) (hb : w'.heap[b]? = w.heap[b]?) : cellsAt w' b o cs := fun j u hj => by
  have := h j u hj
  simp only [World.cell?] at this ⊢
  rw [hb]
  exact this
theorem cellsAt.lt {w : World} {b o : Nat} {cs : List Value} (h : cellsAt w b o cs) (hn : cs ≠ []) : b < w.heap.size := by
  cases cs with
  | nil => exact absurd rfl hn
  | cons c r => exact World.block_lt_of_cell? w _ (h 0 c rfl)
theorem cellsAt.part {w : World} {b o : Nat} {us cs ts : List Value} (h : cellsAt w b o (us ++ (cs ++ ts))) : cellsAt w b (o + us.length) cs := fun j u hj => by
  have hlt : j < cs.length := (List.getElem?_eq_some_iff.1 hj).1
  have := h (us.length + j) u (by rw [List.getElem?_append_right (by omega), Nat.add_sub_cancel_left, List.getElem?_append_left hlt]; exact hj)
  rw [← Nat.add_assoc] at this
  exact this

def Kd.sl {α : Type} (d : Kd α) : Kd (List α) where
  n := 1
  rep ok w xs cs := ∃ a c, cs = [.slice a xs.length c] ∧ xs.length ≤ c ∧ c ≤ maxLen ∧ (a = none → c = 0) ∧
    (0 < xs.length → ∃ b o vals, a = some ⟨b, o, none⟩ ∧ ok b ∧ rowRep d ok w xs vals ∧ cellsAt w b o vals ∧ b < w.heap.size)
  len := by rintro ok w x cs ⟨a, c, rfl, _⟩; rfl
  one := by rintro ok w x cs ⟨a, c, rfl, _⟩ u hu; simp at hu; subst hu; rfl
  keep := by
    rintro ok ok' w w' xs cs ⟨a, c, rfl, h1, h2, h3, h4⟩ hk
    refine ⟨a, c, rfl, h1, h2, h3, fun hp => ?_⟩
    obtain ⟨b, o, vals, ha, hb, hr, hc, hlt⟩ := h4 hp
    have := hk b hlt hb
    refine ⟨b, o, vals, ha, this.1, hr.keep hk, hc.keep this.2, ?_⟩
    have hs : w.heap[b]? = some (w.heap[b]'hlt) := Array.getElem?_eq_getElem hlt
    rw [← this.2] at hs
    exact (Array.getElem?_eq_some_iff.1 hs).1

def Kd.flat {α : Type} (n : Nat) (enc : α → List Value) (inv : α → Prop) (hn : ∀ x, (enc x).length = n) (ho : ∀ x, ∀ u ∈ enc x, u.oneCell' = true) : Kd α where
  n := n
  rep _ _ x cs := cs = enc x ∧ inv x
  len := by rintro ok w x cs ⟨rfl, _⟩; exact hn x
  one := by rintro ok w x cs ⟨rfl, _⟩; exact ho x
  keep := fun h _ => h

def kInt : Kd Int := .flat 1 (fun x => [.int .i64 x]) (fun x => -9223372036854775808 ≤ x ∧ x ≤ 9223372036854775807) (fun _ => rfl) (by intro x u hu; simp at hu; subst hu; rfl)
def kByte : Kd UInt8 := .flat 1 (fun x => [.int .u8 x.toNat]) (fun _ => True) (fun _ => rfl) (by intro x u hu; simp at hu; subst hu; rfl)
def kStr : Kd ByteArray := .flat 1 (fun x => [.string x]) (fun s => s.size ≤ maxLen) (fun _ => rfl) (by intro x u hu; simp at hu; subst hu; rfl)
def kBool : Kd Bool := .flat 1 (fun x => [.bool x]) (fun _ => True) (fun _ => rfl) (by intro x u hu; simp at hu; subst hu; rfl)

/-! ### What is known of memory -/
abbrev noB : Nat → Prop := fun _ => False
structure Atom where
  blk : Nat → Prop
  p : (Nat → Prop) → World → Prop
  keep : ∀ {ok ok' : Nat → Prop} {w w' : World}, p ok w → (∀ b, blk b → w'.heap[b]? = w.heap[b]?) → (∀ b, b < w.heap.size → ok b → ok' b ∧ w'.heap[b]? = w.heap[b]?) → p ok' w'

def Atom.loc (g : Nat) (cs : List Value) (T : TypeId) : Atom where
  blk := fun b => some g = some b
  p _ w := w.heap[g]? = some (.cells cs.toArray T (0, 0))
  keep h hb _ := (hb g rfl).trans h
def Atom.dat {α : Type} (d : Kd α) (x : α) (cs : List Value) : Atom where
  blk := noB
  p ok w := d.rep ok w x cs
  keep h _ hk := d.keep h hk
def Atom.elem (b o : Nat) (cs : List Value) : Atom where
  blk := noB
  p ok w := cs ≠ [] → ok b ∧ cellsAt w b o cs
  keep := by
    intro ok ok' w w' h _ hk hn
    obtain ⟨h1, h2⟩ := h hn
    have := hk b (h2.lt hn) h1
    exact ⟨this.1, h2.keep this.2⟩
def ownBlk (a : Option Addr) (c : Nat) : Option Nat := if c = 0 then none else a.map (·.block)
def Atom.own {α : Type} (T : TypeId) (d : Kd α) (a : Option Addr) (c : Nat) (xs : List α) : Atom where
  blk := fun b => ownBlk a c = some b
  p ok w := (c = 0 ∧ xs = []) ∨ (0 < c ∧ ∃ g cur vals, a = some ⟨g, 0, none⟩ ∧ w.heap[g]? = some (.cells cur T (0, 0)) ∧ xs.length ≤ c ∧ c ≤ maxLen ∧ cur.size = c * d.n ∧ rowRep d ok w xs vals ∧ cur.toList.take (xs.length * d.n) = vals)
  keep := by
    intro ok ok' w w' h hb hk
    rcases h with h | ⟨hc, g, cur, vals, rfl, h1, h2, h3, h4, h5, h6⟩
    · exact .inl h
    · refine .inr ⟨hc, g, cur, vals, rfl, (hb g ?_).trans h1, h2, h3, h4, h5.keep hk, h6⟩
      simp [ownBlk]; omega

structure Ext (M : Nat → Prop) (w w' : World) : Prop where
  os : w'.os = w.os
  tape : w'.tape = w.tape
  output : w'.output = w.output
  size : w.heap.size ≤ w'.heap.size
  block : ∀ b, b < w.heap.size → ¬ M b → w'.heap[b]? = w.heap[b]?
theorem Ext.refl (M : Nat → Prop) (w : World) : Ext M w w := ⟨rfl, rfl, rfl, Nat.le_refl _, fun _ _ _ => rfl⟩
theorem Ext.of_below {M : Nat → Prop} {w w' : World} (h : Below w.heap.size w w') : Ext M w w' := ⟨h.os, h.tape, h.output, h.size, fun b hb _ => h.block b hb⟩
theorem Ext.trans {M N : Nat → Prop} {w w1 w2 : World} (h : Ext M w w1) (k : Ext N w1 w2) (hN : ∀ b, b < w.heap.size → N b → M b) : Ext M w w2 :=
  ⟨k.os.trans h.os, k.tape.trans h.tape, k.output.trans h.output, Nat.le_trans h.size k.size, fun b hb hm => (k.block b (Nat.lt_of_lt_of_le hb h.size) (fun hn => hm (hN b hb hn))).trans (h.block b hb hm)⟩

def blks (X : List Atom) (b : Nat) : Prop := ∃ a ∈ X, a.blk b
def okX (w0 : World) (ok0 : Nat → Prop) (X : List Atom) (b : Nat) : Prop := (b < w0.heap.size → ok0 b) ∧ ¬ blks X b

structure Asn (w0 : World) (ok0 M : Nat → Prop) (X : List Atom) (w : World) : Prop where
  ext : Ext M w0 w
  apart : X.Pairwise fun a b => ∀ g, a.blk g → b.blk g → False
  lt : ∀ a ∈ X, ∀ g, a.blk g → g < w.heap.size ∧ (g < w0.heap.size → M g)
  holds : ∀ a ∈ X, a.p (okX w0 ok0 X) w

theorem blks_append (X Y : List Atom) (b : Nat) : blks (X ++ Y) b ↔ blks X b ∨ blks Y b := by
  simp [blks, or_and_right, exists_or]

section
variable {w0 w w' : World} {ok0 M : Nat → Prop} {X Y : List Atom}

theorem Asn.perm (h : Asn w0 ok0 M X w) (hp : X.Perm Y) : Asn w0 ok0 M Y w := by
  have hb : ∀ b, blks Y b ↔ blks X b := fun b => by simp only [blks, hp.mem_iff]
  refine ⟨h.ext, ?_, fun a ha => h.lt a (hp.mem_iff.2 ha), fun a ha => ?_⟩
  · refine (hp.pairwise_iff ?_).1 h.apart
    intro x y hxy g hg he
    exact hxy g he hg
  · exact a.keep (h.holds a (hp.mem_iff.2 ha)) (fun _ _ => rfl) (fun b _ hk => ⟨⟨hk.1, fun hy => hk.2 ((hb b).1 hy)⟩, rfl⟩)

theorem Asn.sub (h : Asn w0 ok0 M X w) (hs : Y.Sublist X) : Asn w0 ok0 M Y w :=
  ⟨h.ext, h.apart.sublist hs, fun a ha => h.lt a (hs.subset ha), fun a ha => a.keep (h.holds a (hs.subset ha)) (fun _ _ => rfl)
    (fun b _ hk => ⟨⟨hk.1, fun ⟨c, hc, he⟩ => hk.2 ⟨c, hs.subset hc, he⟩⟩, rfl⟩)⟩

theorem Asn.frame {pre rest new : List Atom} (h : Asn w0 ok0 M (pre ++ rest) w)
    (hs : Asn w (okX w0 ok0 (pre ++ rest)) (blks pre) new w') : Asn w0 ok0 M (new ++ rest) w' := by
  have happ := List.pairwise_append.1 h.apart
  have hpre : ∀ b, blks pre b → b < w.heap.size ∧ (b < w0.heap.size → M b) := fun b ⟨a, ha, he⟩ => h.lt a (List.mem_append_left _ ha) b he
  have hrest : ∀ b, blks rest b → b < w.heap.size ∧ ¬ blks pre b := fun b ⟨a, ha, he⟩ =>
    ⟨(h.lt a (List.mem_append_right _ ha) b he).1, fun ⟨c, hc, hce⟩ => happ.2.2 c hc a ha b hce he⟩
  have hnew : ∀ b, blks new b → b < w'.heap.size ∧ (b < w.heap.size → blks pre b) := fun b ⟨a, ha, he⟩ => hs.lt a ha b he
  refine ⟨h.ext.trans hs.ext fun b hb hp => (hpre b hp).2 hb, ?_, ?_, ?_⟩
  · refine List.pairwise_append.2 ⟨hs.apart, happ.2.1, fun a ha c hc g hg he => ?_⟩
    have h1 := hrest g ⟨c, hc, he⟩
    exact h1.2 ((hnew g ⟨a, ha, hg⟩).2 h1.1)
  · intro a ha g hg
    rcases List.mem_append.1 ha with ha | ha
    · have h1 := hnew g ⟨a, ha, hg⟩
      exact ⟨h1.1, fun hl => (hpre g (h1.2 (Nat.lt_of_lt_of_le hl h.ext.size))).2 hl⟩
    · have h1 := h.lt a (List.mem_append_right _ ha) g hg
      exact ⟨Nat.lt_of_lt_of_le h1.1 hs.ext.size, h1.2⟩
  · intro a ha
    rcases List.mem_append.1 ha with ha | ha
    · refine a.keep (hs.holds a ha) (fun _ _ => rfl) fun b hb hk => ⟨⟨fun hl => ?_, ?_⟩, rfl⟩
      · exact (hk.1 (Nat.lt_of_lt_of_le hl h.ext.size)).1 hl
      · rw [blks_append]
        rintro (hn | hr)
        · exact hk.2 hn
        · have h1 := hrest b hr
          exact (hk.1 h1.1).2 ((blks_append _ _ _).2 (.inr hr))
    · refine a.keep (h.holds a (List.mem_append_right _ ha)) (fun g hg => ?_) fun b hb hk => ?_
      · have h1 := hrest g ⟨a, ha, hg⟩
        exact hs.ext.block g h1.1 h1.2
      · have hnp : ¬ blks pre b := fun hp => hk.2 ((blks_append _ _ _).2 (.inl hp))
        refine ⟨⟨hk.1, ?_⟩, hs.ext.block b hb hnp⟩
        rw [blks_append]
        rintro (hn | hr)
        · exact hnp ((hnew b hn).2 hb)
        · exact hk.2 ((blks_append _ _ _).2 (.inr hr))

theorem Asn.start {pre rest : List Atom} (h : Asn w0 ok0 M (pre ++ rest) w) : Asn w (okX w0 ok0 (pre ++ rest)) (blks pre) pre w := by
  have happ := List.pairwise_append.1 h.apart
  refine ⟨Ext.refl _ _, happ.1, fun a ha g hg => ⟨(h.lt a (List.mem_append_left _ ha) g hg).1, fun _ => ⟨a, ha, hg⟩⟩, fun a ha => ?_⟩
  exact a.keep (h.holds a (List.mem_append_left _ ha)) (fun _ _ => rfl) fun b _ hk => ⟨⟨fun _ => hk, fun hp => hk.2 ((blks_append _ _ _).2 (.inl hp))⟩, rfl⟩
end

/-! ### What a function does -/
def Spec (P : Program) (F : FuncId) (args : Array Value) (pre : List Atom) {β : Type} (val : β → Value) (I : β → Prop) (new : β → List Atom) : Prop :=
  ∀ w ok, Asn w ok (blks pre) pre w → Calls P F args w fun e w' => ∃ y, e = .returned (val y) ∧ I y ∧ Asn w ok (blks pre) (new y) w'
end Go.Wk
