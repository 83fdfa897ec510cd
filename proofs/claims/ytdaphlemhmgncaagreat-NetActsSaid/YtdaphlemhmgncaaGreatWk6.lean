/- A small calculus of weakest preconditions over the kit's code: rules for the operations, proved for all programs. -/
import Derived.Test.YtdaphlemhmgncaaGreatWk5
set_option linter.unusedVariables false
set_option linter.unusedSimpArgs false
namespace Go.Wk
open Go Go.RowKit

section
variable {P : Program} {Q : Post} {n : Nat} {k : List It} {ρ : Env} {ops : Array Oper} {rest : List Oper}
variable {w0 : World} {ok0 M : Nat → Prop} {X R : List Atom}
variable {d : Nat} {t : TypeId} {pos : String} {after : Array Edge} {g : Option (Nat × Bool)} {x y c : Operand} {v u : Value} {t' : TypeId} {A : World → Prop}

/-! ### Builtins that give a value -/
theorem HO_bi {b : Builtin} {xs : Array Operand} {ts : Array TypeId} {vs : List Value} (hw : wantedB ops ρ g = some true) (hn : Nat.blt d n = true) (hx : evs ρ xs.toList = some vs)
    (hrun : ∀ cs w, A w → (builtin b ts t cs vs.toArray).run P w = .ok (.value v) w) (h : HO P Q n ops rest k ((d, v) :: ρ) A) : HO P Q n ops (⟨some d, .call ⟨.builtin b, xs, ts⟩, t, pos, after, g⟩ :: rest) k ρ A :=
  HO_val hw rfl hn (fun a w hf hA => by
    have hvs : xs.map a.eval = vs.toArray := by rw [← evs_ev hf hx]; simp [← Array.toList_map]
    simp only [execOp, resolve, hvs, Sem.run_bind, Sem.run_pure, Result.andThen_ok, invoke]
    exact hrun _ w hA) h
theorem bi_len_sl {e : TypeId} {a : Option Addr} {m cp : Nat} (ht : P.underlying t = some (.slice e)) {ty : TypeId} : ∀ cs w, A w → (builtin .len #[t] ty cs (List.toArray [.slice a m cp])).run P w = .ok (.value (.int .i64 m)) w := fun cs w _ => by
  simp [builtin, Builtin.len_, run_underlying ht, goInt]
theorem bi_len_str {s : ByteArray} (ht : P.underlying t = some .string) {ty : TypeId} : ∀ cs w, A w → (builtin .len #[t] ty cs (List.toArray [.string s])).run P w = .ok (.value (.int .i64 s.size)) w := fun cs w _ => by
  simp [builtin, Builtin.len_, run_underlying ht, goInt]
theorem bi_min2 {ts : Array TypeId} {ty : TypeId} {kd : IntKind} {a b : Int} : ∀ cs w, A w → (builtin .min ts ty cs (List.toArray [.int kd a, .int kd b])).run P w = .ok (.value (.int kd (min a b))) w := fun cs w _ => by
  have e : (if b < a then b else a) = min a b := by rw [Int.min_def]; split <;> split <;> omega
  simp [builtin, Builtin.min_, Builtin.min2, e]
theorem bi_max2 {ts : Array TypeId} {ty : TypeId} {kd : IntKind} {a b : Int} : ∀ cs w, A w → (builtin .max ts ty cs (List.toArray [.int kd a, .int kd b])).run P w = .ok (.value (.int kd (max a b))) w := fun cs w _ => by
  have e : (if b > a then b else a) = max a b := by rw [Int.max_def]; split <;> split <;> omega
  simp [builtin, Builtin.max_, Builtin.max2, e]
theorem bi_min5 {ts : Array TypeId} {ty : TypeId} {kd : IntKind} {a b c d' e' : Int} : ∀ cs w, A w → (builtin .min ts ty cs (List.toArray [.int kd a, .int kd b, .int kd c, .int kd d', .int kd e'])).run P w = .ok (.value (.int kd (min (min (min (min a b) c) d') e'))) w := fun cs w _ => by
  have e : ∀ a b : Int, (if b < a then b else a) = min a b := fun a b => by rw [Int.min_def]; split <;> split <;> omega
  simp [builtin, Builtin.min_, Builtin.min2, e]

/-! ### Conversions -/
theorem HO_conv {ts td : TypeId} (hw : wantedB ops ρ g = some true) (hn : Nat.blt d n = true) (hx : ev ρ x = some v) (hr : ∀ w, A w → (convert ts td v).run P w = .ok u w) (h : HO P Q n ops rest k ((d, u) :: ρ) A) : HO P Q n ops (⟨some d, .convert ts td x, t, pos, after, g⟩ :: rest) k ρ A :=
  HO_val hw rfl hn (fun a w hf hA => by simp [execOp, hf.ev hx, hr w hA]) h
theorem cv_int {s' e' : TypeId} {kd kd2 : IntKind} {m : Int} {r : Int} (hs : P.underlying s' = some (.int kd2)) (hd : P.underlying e' = some (.int kd)) (hr : kd.wrap m = r) : ∀ w, A w → (convert s' e' (.int kd2 m)).run P w = .ok (.int kd r) w := fun w _ => by
  simp [convert, run_underlying hs, run_underlying hd, Conv.intToInt, hr]
theorem wrap_u_i {kd : IntKind} (hk : kd.signed = false) (m : Int) : kd.wrap m = ((m % 2 ^ kd.bits).toNat : Int) := by
  unfold IntKind.wrap
  simp only [hk, Bool.false_and, Bool.false_eq_true, if_false]
  have hp : (0 : Int) < 2 ^ kd.bits := Int.pow_pos (by omega)
  rw [Int.toNat_of_nonneg (Int.emod_nonneg _ (by omega))]
/-! ### Slices as data: an element's address, a part -/
theorem Asn.sl {w : World} {α : Type} {kd : Kd α} {xs : List α} {a : Option Addr} {m cp i : Nat} (h : Asn w0 ok0 M X w) (hi : X[i]? = some (.dat kd.sl xs [.slice a m cp])) :
    m = xs.length ∧ xs.length ≤ cp ∧ cp ≤ maxLen ∧ (a = none → cp = 0) ∧ (0 < xs.length → ∃ b o vals, a = some ⟨b, o, none⟩ ∧ okX w0 ok0 X b ∧ rowRep kd (okX w0 ok0 X) w xs vals ∧ cellsAt w b o vals ∧ b < w.heap.size) := by
  obtain ⟨a', c', he, h1, h2, h3, h4⟩ := h.get hi
  simp only [List.cons.injEq, Value.slice.injEq, and_true] at he
  obtain ⟨rfl, rfl, rfl⟩ := he
  exact ⟨rfl, h1, h2, h3, h4⟩
structure Opens {α : Type} (kd : Kd α) (β : Type) (cs : α → β → List Value) (fs : α → β → List Atom) (I : α → Prop) : Prop where
  out : ∀ {ok w x vals}, kd.rep ok w x vals → I x ∧ ∃ y, vals = cs x y ∧ ∀ a ∈ fs x y, a.blk = noB ∧ a.p ok w

theorem HO_indexAddr {α β : Type} {kd : Kd α} {cs : α → β → List Value} {fs : α → β → List Atom} {I : α → Prop} (ho : Opens kd β cs fs I) {e : TypeId} {xs : List α} {a : Option Addr} {m cp i j : Nat} {jk : IntKind} {ji : Int}
    (hw : wantedB ops ρ g = some true) (hn : Nat.blt d n = true) (hx : ev ρ x = some (.slice a m cp)) (hy : ev ρ y = some (.int jk ji)) (hj : ji = (j : Int)) (ht : P.underlying t = some (.slice e)) (hs : ∀ w, (sizeOf e).run P w = .ok kd.n w)
    (hi : X[i]? = some (.dat kd.sl xs [.slice a m cp])) (hlt : j < xs.length)
    (h : ∀ b o (z : α) (yy : β), xs[j]? = some z → I z → HO P Q n ops rest k ((d, .pointer (some ⟨b, o, none⟩)) :: ρ) (Asn w0 ok0 M (.elem b o (cs z yy) :: (fs z yy ++ X)))) :
    HO P Q n ops (⟨some d, .indexAddr t x y, t', pos, after, g⟩ :: rest) k ρ (Asn w0 ok0 M X) := by
  refine HO_valw (β := {q : Nat × Nat × α × β // xs[j]? = some q.2.2.1 ∧ I q.2.2.1}) (val := fun q => .pointer (some ⟨q.1.1, q.1.2.1, none⟩)) (B := fun q => Asn w0 ok0 M (.elem q.1.1 q.1.2.1 (cs q.1.2.2.1 q.1.2.2.2) :: (fs q.1.2.2.1 q.1.2.2.2 ++ X))) hw rfl hn (fun ac w hf hA => ?_) (fun q => h _ _ _ _ q.2.1 q.2.2)
  obtain ⟨hm, hle, hmx, _, hrow⟩ := hA.sl hi
  obtain ⟨b, o, vals, rfl, hok, hr, hc, hlb⟩ := hrow (by omega)
  have hz : xs[j]? = some xs[j] := List.getElem?_eq_getElem hlt
  obtain ⟨us, els, ts, rfl, hul, hel, _, _⟩ := hr.at_ hz
  obtain ⟨hI, yy, rfl, hfs⟩ := ho.out hel
  have hcp := hc.part
  rw [hul] at hcp
  refine ⟨⟨⟨b, o + j * kd.n, xs[j], yy⟩, hz, hI⟩, w, ?_, ?_⟩
  · subst hj hm
    simp [execOp, hf.ev hx, hf.ev hy, Instr.indexAt, asIntOf, run_underlying ht, hlt, hs w, add_plain]
  · have h1 := hA.adds hfs
    refine h1.add rfl fun hne => ⟨⟨hok.1, ?_⟩, hcp⟩
    rw [blks_append]
    rintro (⟨c', hc', he'⟩ | hx')
    · rw [(hfs c' hc').1] at he'; cases he'
    · exact hok.2 hx'

theorem elem_of {t e : TypeId} (h : P.underlying t = some (.slice e)) : P.elem t = e := by simp [Program.elem, h]
theorem split3 {α : Type} {xs : List α} {l h : Nat} (h1 : l ≤ h) : xs = xs.take l ++ ((xs.take h).drop l ++ xs.drop h) := by
  have h4 : xs.drop h = (xs.drop l).drop (h - l) := by
    rw [List.drop_drop, show l + (h - l) = h by omega]
  rw [List.drop_take, h4, List.take_append_drop, List.take_append_drop]
theorem sl_part {α : Type} {kd : Kd α} {ok : Nat → Prop} {w : World} {xs : List α} {a : Option Addr} {cp l h s m : Nat} (hp : kd.sl.rep ok w xs [.slice a xs.length cp]) (hs : s = kd.n) (h1 : l ≤ h) (h2 : h ≤ xs.length) (hm : m ≤ cp) (hm2 : h ≤ m) :
    ∃ a' c', sliced a l h m s = .slice a' ((xs.take h).drop l).length c' ∧ kd.sl.rep ok w ((xs.take h).drop l) [.slice a' ((xs.take h).drop l).length c'] := by
  subst hs
  obtain ⟨a1, c1, he, e1, e2, e3, e4⟩ := hp
  simp only [List.cons.injEq, Value.slice.injEq, and_true, true_and] at he
  obtain ⟨rfl, rfl⟩ := he
  have hlen : ((xs.take h).drop l).length = h - l := by simp; omega
  refine ⟨if m = l then a else a.map (·.add (l * kd.n)), m - l, by simp [sliced, hlen], _, _, rfl, by omega, by omega, ?_, ?_⟩
  · intro hn
    by_cases hml : m = l
    · omega
    · rw [if_neg hml] at hn
      have := e3 (by simpa using hn)
      omega
  · intro hpos
    have hlt : l < h := by omega
    obtain ⟨b, o, vals, rfl, hok, hr, hc, hlb⟩ := e4 (by omega)
    rw [split3 (xs := xs) h1] at hr
    obtain ⟨us, ts, rfl, r1, r2⟩ := hr.split
    obtain ⟨us2, ts2, rfl, r3, r4⟩ := r2.split
    have hul : us.length = l * kd.n := by rw [r1.len, List.length_take, Nat.min_eq_left (by omega)]
    refine ⟨b, o + l * kd.n, us2, ?_, hok, r3, ?_, hlb⟩
    · rw [if_neg (by omega)]; simp [add_plain]
    · have := hc.part; rwa [hul] at this

theorem HO_slice_lh {α : Type} {kd : Kd α} {e : TypeId} {xs : List α} {a : Option Addr} {m cp i l h' : Nat} {lk hk : IntKind} {li hi' : Int} {yl yh : Operand}
    (hw : wantedB ops ρ g = some true) (hn : Nat.blt d n = true) (hx : ev ρ x = some (.slice a m cp)) (hy : ev ρ yl = some (.int lk li)) (hz : ev ρ yh = some (.int hk hi')) (hl : li = (l : Int)) (hh : hi' = (h' : Int)) (ht : P.underlying t = some (.slice e)) (hs : ∀ w, (sizeOf e).run P w = .ok kd.n w)
    (hi : X[i]? = some (.dat kd.sl xs [.slice a m cp])) (h1 : l ≤ h') (h2 : h' ≤ xs.length)
    (h : ∀ a' c', HO P Q n ops rest k ((d, .slice a' ((xs.take h').drop l).length c') :: ρ) (Asn w0 ok0 M (.dat kd.sl ((xs.take h').drop l) [.slice a' ((xs.take h').drop l).length c'] :: X))) :
    HO P Q n ops (⟨some d, .slice t x (some yl) (some yh) none, t', pos, after, g⟩ :: rest) k ρ (Asn w0 ok0 M X) := by
  refine HO_valw (β := Option Addr × Nat) (val := fun q => .slice q.1 ((xs.take h').drop l).length q.2) (B := fun q => Asn w0 ok0 M (.dat kd.sl ((xs.take h').drop l) [.slice q.1 ((xs.take h').drop l).length q.2] :: X)) hw rfl hn (fun ac w hf hA => ?_) (fun q => h q.1 q.2)
  obtain rfl : P.elem t = e := elem_of ht
  obtain ⟨hm, hle, hmx, hnil, hrow⟩ := hA.sl hi
  subst hm hl hh
  obtain ⟨a', c', e1, e2⟩ := sl_part (hA.get hi) rfl h1 h2 (Nat.le_refl cp) (by omega)
  refine ⟨(a', c'), w, ?_, hA.add rfl e2⟩
  have hr := run_slice_lh (P := P) w t a xs.length cp ht lk hk (l : Int) (h' : Int) (by omega) (by omega) (by omega)
  simp only [hs w, Result.andThen_ok, Int.toNat_natCast, e1] at hr
  simp [execOp, hf.ev hx, hf.ev hy, hf.ev hz, run_sliceAt_slice w t _ _ _ _ ht, hr]
theorem HO_slice_l {α : Type} {kd : Kd α} {e : TypeId} {xs : List α} {a : Option Addr} {m cp i l : Nat} {lk : IntKind} {li : Int} {yl : Operand}
    (hw : wantedB ops ρ g = some true) (hn : Nat.blt d n = true) (hx : ev ρ x = some (.slice a m cp)) (hy : ev ρ yl = some (.int lk li)) (hl : li = (l : Int)) (ht : P.underlying t = some (.slice e)) (hs : ∀ w, (sizeOf e).run P w = .ok kd.n w)
    (hi : X[i]? = some (.dat kd.sl xs [.slice a m cp])) (h1 : l ≤ xs.length)
    (h : ∀ a' c', HO P Q n ops rest k ((d, .slice a' (xs.drop l).length c') :: ρ) (Asn w0 ok0 M (.dat kd.sl (xs.drop l) [.slice a' (xs.drop l).length c'] :: X))) :
    HO P Q n ops (⟨some d, .slice t x (some yl) none none, t', pos, after, g⟩ :: rest) k ρ (Asn w0 ok0 M X) := by
  refine HO_valw (β := Option Addr × Nat) (val := fun q => .slice q.1 (xs.drop l).length q.2) (B := fun q => Asn w0 ok0 M (.dat kd.sl (xs.drop l) [.slice q.1 (xs.drop l).length q.2] :: X)) hw rfl hn (fun ac w hf hA => ?_) (fun q => h q.1 q.2)
  obtain rfl : P.elem t = e := elem_of ht
  obtain ⟨hm, hle, hmx, hnil, hrow⟩ := hA.sl hi
  subst hm hl
  have hp := sl_part (hA.get hi) rfl h1 (Nat.le_refl xs.length) (Nat.le_refl cp) hle
  rw [List.take_length] at hp
  obtain ⟨a', c', e1, e2⟩ := hp
  refine ⟨(a', c'), w, ?_, hA.add rfl e2⟩
  have hr := run_slice_l (P := P) w t a xs.length cp ht lk (l : Int) (by omega) (by omega)
  simp only [hs w, Result.andThen_ok, Int.toNat_natCast, e1] at hr
  simp [execOp, hf.ev hx, hf.ev hy, run_sliceAt_slice w t _ _ _ _ ht, hr]
theorem HO_slice_h {α : Type} {kd : Kd α} {e : TypeId} {xs : List α} {a : Option Addr} {m cp i h' : Nat} {hk : IntKind} {hi' : Int} {yh : Operand}
    (hw : wantedB ops ρ g = some true) (hn : Nat.blt d n = true) (hx : ev ρ x = some (.slice a m cp)) (hz : ev ρ yh = some (.int hk hi')) (hh : hi' = (h' : Int)) (ht : P.underlying t = some (.slice e)) (hs : ∀ w, (sizeOf e).run P w = .ok kd.n w)
    (hi : X[i]? = some (.dat kd.sl xs [.slice a m cp])) (h2 : h' ≤ xs.length)
    (h : ∀ a' c', HO P Q n ops rest k ((d, .slice a' (xs.take h').length c') :: ρ) (Asn w0 ok0 M (.dat kd.sl (xs.take h') [.slice a' (xs.take h').length c'] :: X))) :
    HO P Q n ops (⟨some d, .slice t x none (some yh) none, t', pos, after, g⟩ :: rest) k ρ (Asn w0 ok0 M X) := by
  refine HO_valw (β := Option Addr × Nat) (val := fun q => .slice q.1 (xs.take h').length q.2) (B := fun q => Asn w0 ok0 M (.dat kd.sl (xs.take h') [.slice q.1 (xs.take h').length q.2] :: X)) hw rfl hn (fun ac w hf hA => ?_) (fun q => h q.1 q.2)
  obtain rfl : P.elem t = e := elem_of ht
  obtain ⟨hm, hle, hmx, hnil, hrow⟩ := hA.sl hi
  subst hm hh
  have hp := sl_part (hA.get hi) rfl (Nat.zero_le h') h2 (Nat.le_refl cp) (by omega)
  rw [List.drop_zero] at hp
  obtain ⟨a', c', e1, e2⟩ := hp
  refine ⟨(a', c'), w, ?_, hA.add rfl e2⟩
  have hr := run_slice_h (P := P) w t a xs.length cp ht hk (h' : Int) (by omega) (by omega)
  simp only [hs w, Result.andThen_ok, Int.toNat_natCast, e1] at hr
  simp [execOp, hf.ev hx, hf.ev hz, run_sliceAt_slice w t _ _ _ _ ht, hr]

/-! ### Rows of one's own -/
def Elt (P : Program) (e : TypeId) (z : Value) (m bytes : Nat) : Prop := ∃ i, P.info? e = some i ∧ i.zero = some z ∧ i.size = m ∧ i.bytes = bytes ∧ z.cells.size = m ∧ 0 < m ∧ 0 < bytes

theorem Elt.of {P : Program} {e : TypeId} {z : Value} {m bytes : Nat} (h : (P.info? e).map (fun i => (i.zero, i.size, i.bytes)) = some (some z, m, bytes)) (h1 : z.cells.size = m) (h2 : 0 < m) (h3 : 0 < bytes) : Elt P e z m bytes := by
  cases hi : P.info? e with
  | none => simp [hi] at h
  | some i =>
    simp [hi] at h
    exact ⟨i, hi, h.1, h.2.1, h.2.2, h1, h2, h3⟩
structure Src (P : Program) (u : TypeId) (size : Nat) (x : Value) (m : Nat) (news : List Value) (w : World) : Prop where
  ty : (∃ e, P.underlying u = some (.slice e)) ∨ P.underlying u = some .string
  len : ∀ w, (Builtin.lenOf x).run P w = .ok m w
  first : ∀ w', w'.heap = w.heap → (Builtin.firstCells size m x).run P w' = .ok news.toArray w'

theorem Src.of_dat {α : Type} {kd : Kd α} {ok : Nat → Prop} {w : World} {xs : List α} {a : Option Addr} {m cp : Nat} {u e : TypeId} (hu : P.underlying u = some (.slice e)) (h : kd.sl.rep ok w xs [.slice a m cp]) :
    ∃ news, Src P u kd.n (.slice a m cp) xs.length news w ∧ rowRep kd ok w xs news := by
  obtain ⟨a1, c1, he, e1, e2, e3, e4⟩ := h
  simp only [List.cons.injEq, Value.slice.injEq, and_true, true_and] at he
  obtain ⟨rfl, rfl, rfl⟩ := he
  cases xs with
  | nil =>
    refine ⟨[], ⟨.inl ⟨e, hu⟩, fun w => rfl, fun w' _ => ?_⟩, rfl⟩
    cases a <;> simp [Builtin.firstCells, loadCells, loadCellsFrom]
  | cons x0 xs =>
    obtain ⟨b, o, vals, rfl, hok, hr, hc, hlb⟩ := e4 (by simp)
    refine ⟨vals, ⟨.inl ⟨e, hu⟩, fun w => rfl, fun w' hw' => ?_⟩, hr⟩
    have hc' : cellsAt w' b o vals := hc.keep (by rw [hw'])
    exact run_firstCells_some (P := P) w' kd.n _ ⟨b, o, none⟩ _ cp vals hr.len (fun j v hj => by rw [add_plain]; exact hc' j v hj)
theorem Src.of_own {α : Type} {kd : Kd α} {ok : Nat → Prop} {w : World} {xs : List α} {a : Option Addr} {cp : Nat} {T u e : TypeId} (hu : P.underlying u = some (.slice e)) (h : (Atom.own T kd a cp xs).p ok w) :
    ∃ news, Src P u kd.n (.slice a xs.length cp) xs.length news w ∧ rowRep kd ok w xs news := by
  rcases h with ⟨rfl, rfl⟩ | ⟨hc, gb, cur, vals, rfl, h1, h2, h3, h4, h5, h6⟩
  · refine ⟨[], ⟨.inl ⟨e, hu⟩, fun w => rfl, fun w' _ => ?_⟩, rfl⟩
    cases a <;> simp [Builtin.firstCells, loadCells, loadCellsFrom]
  · refine ⟨vals, ⟨.inl ⟨e, hu⟩, fun w => rfl, fun w' hw' => ?_⟩, h5⟩
    refine run_firstCells_some (P := P) w' kd.n _ ⟨gb, 0, none⟩ _ cp vals h5.len (fun j v hj => ?_)
    rw [add_plain]
    have h1' : w'.heap[gb]? = some (.cells cur T (0, 0)) := by rw [hw']; exact h1
    simp only [World.cell?, h1', Nat.zero_add]
    rw [← h6, List.getElem?_take] at hj
    split at hj
    · simpa using hj
    · cases hj
theorem bytes_row {ok : Nat → Prop} {w : World} : ∀ l : List UInt8, rowRep kByte ok w l (l.map fun b => Value.int .u8 (b.toNat : Int))
  | [] => rfl
  | b :: l => ⟨[.int .u8 b.toNat], _, rfl, ⟨rfl, trivial⟩, bytes_row l⟩
theorem Src.of_str {ok : Nat → Prop} {w : World} {s : ByteArray} {u : TypeId} (hu : P.underlying u = some .string) : Src P u 1 (.string s) s.data.toList.length (s.data.toList.map fun b => Value.int .u8 (b.toNat : Int)) w ∧ rowRep kByte ok w s.data.toList (s.data.toList.map fun b => Value.int .u8 (b.toNat : Int)) := by
  refine ⟨⟨.inr hu, fun w => rfl, fun w' _ => ?_⟩, bytes_row _⟩
  have : s.extract 0 s.data.toList.length = s := by
    apply toList_inj
    rw [ByteArray.toList_eq, ByteArray.toList_eq, Lib.extract_data, List.drop_zero, Nat.sub_zero, List.take_length]
  have e2 : s.data.map (fun b => Value.int .u8 (b.toNat : Int)) = (s.data.toList.map fun b => Value.int .u8 (b.toNat : Int)).toArray := by
    apply Array.ext'
    simp
  simp only [Builtin.firstCells, this, e2]
  rfl

theorem run_app {t u ty e : TypeId} {z : Value} {sz bytes : Nat} (ht : P.underlying t = some (.slice e)) (he : Elt P e z sz bytes) {α : Type} {kd : Kd α} (hk : sz = kd.n) {ok : Nat → Prop} {w : World} {a : Option Addr} {cp : Nat} {xs ys : List α} {x : Value} {news : List Value}
    (ho : (Atom.own e kd a cp xs).p ok w) (hs : Src P u sz x ys.length news w) (hr : rowRep kd ok w ys news) (h63 : xs.length + ys.length ≤ maxLen) (hby : (xs.length + ys.length) * bytes ≤ 140737488355328) :
    ∃ a' c' w', (Builtin.append_ #[t, u] ty #[.slice a xs.length cp, x]).run P w = .ok (.slice a' (xs ++ ys).length c') w' ∧ Ext (fun b => ownBlk a cp = some b) w w' ∧
      (∀ ok', (∀ b, ok b → ownBlk a cp ≠ some b) → (∀ b, b < w.heap.size → ok b → ok' b) → (Atom.own e kd a' c' (xs ++ ys)).p ok' w') ∧ (∀ b, ownBlk a' c' = some b → b < w'.heap.size ∧ (b < w.heap.size → ownBlk a cp = some b)) := by
  obtain ⟨i, hi, hz, hsz, hb, hzs, hpos, hbpos⟩ := he
  subst hsz hb
  have hsmall : xs.length + ys.length ≤ 9223372036854775807 := by simp only [maxLen] at h63; omega
  have hnl : news.length = ys.length * i.size := by rw [hr.len, hk]
  have hnu : ((P.underlying u).map fun d => (match d with | .int _ => true | _ => false)) = some false := by
    rcases hs.ty with ⟨e', h⟩ | h <;> simp [h]
  have hone := hr.one
  -- the two ways
  have grow : ∀ (olds : List Value), (∀ w', w'.heap = w.heap → (Builtin.firstCells i.size xs.length (.slice a xs.length cp)).run P w' = .ok olds.toArray w') → rowRep kd ok w xs olds → cp < xs.length + ys.length →
      ∃ c', xs.length + ys.length ≤ c' ∧ c' ≤ maxLen ∧ (Builtin.append_ #[t, u] ty #[.slice a xs.length cp, x]).run P w =
        .ok (.slice (some ⟨w.heap.size, 0, none⟩) (xs.length + ys.length) c') (w.drew.alloc (.cells (olds.toArray ++ news.toArray ++ Builtin.zeroCells z.cells (c' - (xs.length + ys.length))) e)) := by
    intro olds hfo hro hcap
    refine ⟨grownCap w (xs.length + ys.length) cp e, grownCap_ge _ _ _ _, grownCap_le_maxLen _ _ _ _ h63, ?_⟩
    have hn : ¬ (xs.length + ys.length ≤ cp) := by omega
    have h63' : ¬ (9223372036854775807 < ((xs.length : Int) + (ys.length : Int))) := by omega
    have hfit := growslice_fits (need := xs.length + ys.length) (old := cp) hcap hby
    have h48' : ¬ (281474976710656 < Builtin.nextslicecap (xs.length + ys.length) cp * i.bytes) := by omega
    have hf := hs.first w.drew rfl
    have hfo' := hfo w.drew rfl
    rcases hs.ty with ⟨e', hu⟩ | hu <;>
    · have hl := hs.len w
      simp [Builtin.append_, run_underlying ht, run_underlying hu, sizeOf, typeInfo, zeroValue, hi, hz, hl, hn, h63', h48', Question.forced, hf, hfo', newRow, grownCap]
      congr 2
      apply Array.ext'
      simp [List.append_assoc]
  have fin : ∀ (olds : List Value) (c' : Nat), rowRep kd ok w xs olds → xs.length + ys.length ≤ c' → c' ≤ maxLen → 0 < c' →
      ∀ ok', (∀ b, b < w.heap.size → ok b → ok' b) → (Atom.own e kd (some ⟨w.heap.size, 0, none⟩) c' (xs ++ ys)).p ok' (w.drew.alloc (.cells (olds.toArray ++ news.toArray ++ Builtin.zeroCells z.cells (c' - (xs.length + ys.length))) e)) := by
    intro olds c' hro hge hmx hc0 ok' hk'
    have hrow := (hro.append hr).len
    refine .inr ⟨hc0, w.heap.size, _, olds ++ news, rfl, heap_alloc_new w.drew _, by simpa using hge, hmx, ?_, ?_, ?_⟩
    · simp only [Array.size_append, List.size_toArray, size_zeroCells, hzs]
      have e1 : olds.length = xs.length * i.size := by rw [hro.len, hk]
      rw [e1, hnl, ← hk, ← Nat.add_mul, ← Nat.add_mul]
      congr 1
      omega
    · refine (hro.append hr).keep fun b hb ho => ⟨hk' b hb ho, ?_⟩
      exact heap_alloc_old w.drew _ b hb
    · simp only [Array.toList_append, List.append_assoc]
      rw [← List.append_assoc, ← hrow]
      exact List.take_left
  simp only [List.length_append]
  rcases ho with ⟨rfl, rfl⟩ | ⟨hc, gb, cur, vals, rfl, h1, h2, h3, h4, h5, h6⟩
  · -- nothing yet
    cases hy : ys with
    | nil =>
      subst hy
      have hn0 : news = [] := by simpa [rowRep] using hr
      subst hn0
      refine ⟨a, 0, w, ?_, Ext.refl _ _, fun ok' _ _ => .inl ⟨rfl, rfl⟩, fun b hb => by simp [ownBlk] at hb⟩
      have hf := hs.first w rfl
      rcases hs.ty with ⟨e', hu⟩ | hu <;>
      · have hl := hs.len w
        simp only [List.length_nil] at hl hf
        cases a <;> simp [Builtin.append_, run_underlying ht, run_underlying hu, sizeOf, typeInfo, hi, hl, hf, storeCells]
    | cons y0 ys0 =>
      rw [← hy]
      have hyl : 0 < ys.length := by rw [hy]; simp
      obtain ⟨c', hge, hmx, hrun⟩ := grow [] (fun w' _ => by cases a <;> simp [Builtin.firstCells, loadCells, loadCellsFrom]) rfl (by simpa using hyl)
      simp only [List.length_nil, Nat.zero_add, List.nil_append] at hge hrun ⊢
      refine ⟨_, c', _, hrun, ⟨rfl, rfl, rfl, by simp, fun b hb _ => heap_alloc_old w.drew _ b hb⟩, fun ok' _ hk' => ?_, fun b hb => ?_⟩
      · simpa using fin [] c' rfl (by simpa using hge) hmx (by omega) ok' hk'
      · have : w.heap.size = b := by
          have hc0 : c' ≠ 0 := by omega
          simpa [ownBlk, hc0] using hb
        subst this
        exact ⟨by simp, fun h => absurd h (Nat.lt_irrefl _)⟩
  · have hown : ownBlk (some ⟨gb, 0, none⟩) cp = some gb := by simp [ownBlk]; omega
    have hlt : gb < w.heap.size := (Array.getElem?_eq_some_iff.1 h1).1
    have hfo : ∀ w', w'.heap = w.heap → (Builtin.firstCells i.size xs.length (.slice (some ⟨gb, 0, none⟩) xs.length cp)).run P w' = .ok vals.toArray w' := by
      intro w' hw'
      refine run_firstCells_some (P := P) w' i.size _ ⟨gb, 0, none⟩ _ cp vals (by rw [h5.len, hk]) (fun j v hj => ?_)
      rw [add_plain]
      have h1' : w'.heap[gb]? = some (.cells cur e (0, 0)) := by rw [hw']; exact h1
      simp only [World.cell?, h1', Nat.zero_add]
      rw [← h6, List.getElem?_take] at hj
      split at hj
      · simpa using hj
      · cases hj
    by_cases hroom : xs.length + ys.length ≤ cp
    · -- room
      have hfit : xs.length * i.size + news.length ≤ cur.size := by rw [hnl, h4, ← hk, ← Nat.add_mul]; exact Nat.mul_le_mul_right _ hroom
      have hst := run_storeCells_at (P := P) gb (xs.length * i.size) e news 0 cur w h1 (by simpa using hfit) hone
      simp only [Nat.add_zero] at hst
      have hf := hs.first w rfl
      have hvl : vals.length = xs.length * i.size := by rw [h5.len, hk]
      have hrun : (Builtin.append_ #[t, u] ty #[.slice (some ⟨gb, 0, none⟩) xs.length cp, x]).run P w = .ok (.slice (some ⟨gb, 0, none⟩) (xs.length + ys.length) cp) (w.setRow gb (cur.toList.take (xs.length * i.size) ++ news ++ cur.toList.drop (xs.length * i.size + news.length)).toArray) := by
        rcases hs.ty with ⟨e', hu⟩ | hu <;>
        · have hl := hs.len w
          simp [Builtin.append_, run_underlying ht, run_underlying hu, sizeOf, typeInfo, hi, hl, hroom, hf, Addr.add_lit, hst]
      refine ⟨_, cp, _, hrun, Ext.setRow hown _, fun ok' hne hk' => ?_, fun b hb => ?_⟩
      · refine .inr ⟨hc, gb, _, vals ++ news, rfl, setRow_heap w gb cur _ e _ h1, by simpa using hroom, h3, ?_, ?_, ?_⟩
        · simp only [List.size_toArray, List.length_append, List.length_take, List.length_drop, Array.length_toList]
          rw [← h4]
          omega
        · refine (h5.append hr).keep fun b hb ho => ⟨hk' b hb ho, ?_⟩
          refine setRow_other w gb b _ fun e => ?_
          subst e
          exact hne _ ho hown
        · have h6' : cur.toList.take (xs.length * i.size) = vals := by rw [hk]; exact h6
          have e1 : (xs ++ ys).length * kd.n = (vals ++ news).length := ((h5.append hr).len).symm
          rw [h6', e1]
          exact List.take_left
      · rw [hown] at hb
        have hb := Option.some.inj hb
        subst hb
        exact ⟨by simpa [World.setRow] using hlt, fun _ => hown⟩
    · obtain ⟨c', hge, hmx, hrun⟩ := grow vals hfo h5 (by omega)
      refine ⟨_, c', _, hrun, ⟨rfl, rfl, rfl, by simp, fun b hb _ => heap_alloc_old w.drew _ b hb⟩, fun ok' _ hk' => fin vals c' h5 hge hmx (by omega) ok' hk', fun b hb => ?_⟩
      have hc0 : c' ≠ 0 := by omega
      have : w.heap.size = b := by simpa [ownBlk, hc0] using hb
      subst this
      exact ⟨by simp, fun h => absurd h (Nat.lt_irrefl _)⟩
end
end Go.Wk
