/- A small calculus of weakest preconditions over the kit's code: rules for the operations, proved for all programs. -/
import Derived.Test.YtdaphlemhmgncaaGreatWk6
set_option linter.unusedVariables false
set_option linter.unusedSimpArgs false
namespace Go.Wk
open Go Go.RowKit

section
variable {P : Program} {Q : Post} {n : Nat} {k : List It} {ρ : Env} {ops : Array Oper} {rest : List Oper}
variable {w0 : World} {ok0 M : Nat → Prop} {X R : List Atom}
variable {d : Nat} {t : TypeId} {pos : String} {after : Array Edge} {g : Option (Nat × Bool)} {x y c : Operand} {v u : Value} {t' : TypeId} {A : World → Prop}

def SrcOk {α : Type} (P : Program) (u : TypeId) (R : List Atom) (kd : Kd α) (v : Value) (ys : List α) : Prop :=
  ∀ ok w, (∀ a ∈ R, a.p ok w) → ∃ news, Src P u kd.n v ys.length news w ∧ rowRep kd ok w ys news
theorem SrcOk.dat {α : Type} {kd : Kd α} {ys : List α} {u e : TypeId} {a : Option Addr} {m cp j : Nat} (hu : P.underlying u = some (.slice e)) (hj : R[j]? = some (.dat kd.sl ys [.slice a m cp])) : SrcOk P u R kd (.slice a m cp) ys :=
  fun _ _ h => Src.of_dat hu (h _ (List.mem_of_getElem? hj))
theorem SrcOk.own {α : Type} {kd : Kd α} {ys : List α} {u e T : TypeId} {a : Option Addr} {m cp j : Nat} (hu : P.underlying u = some (.slice e)) (hj : R[j]? = some (.own T kd a cp ys)) (hm : m = ys.length) : SrcOk P u R kd (.slice a m cp) ys :=
  fun _ _ h => by subst hm; exact Src.of_own hu (h _ (List.mem_of_getElem? hj))
theorem SrcOk.str {s : ByteArray} {u : TypeId} (hu : P.underlying u = some .string) : SrcOk P u R kByte (.string s) s.data.toList :=
  fun _ _ _ => ⟨_, Src.of_str hu⟩
theorem SrcOk.nil {α : Type} {kd : Kd α} {u e : TypeId} {a : Option Addr} {cp : Nat} (hu : P.underlying u = some (.slice e)) : SrcOk P u R kd (.slice a 0 cp) ([] : List α) := by
  intro ok w _
  refine ⟨[], ⟨.inl ⟨e, hu⟩, fun w => rfl, fun w' _ => ?_⟩, rfl⟩
  cases a <;> simp [Builtin.firstCells, loadCells, loadCellsFrom]

theorem Asn.own0 {w : World} {α : Type} {kd : Kd α} {T : TypeId} {a : Option Addr} (h : Asn w0 ok0 M X w) : Asn w0 ok0 M (.own T kd a 0 [] :: X) w :=
  h.add (by simp [Atom.own, ownBlk]) (.inl ⟨rfl, rfl⟩)
theorem HO_own0 {α : Type} (kd : Kd α) (T : TypeId) (a : Option Addr) (h : HO P Q n ops rest k ρ (Asn w0 ok0 M (.own T kd a 0 [] :: X))) : HO P Q n ops rest k ρ (Asn w0 ok0 M X) := HO_world (fun _ hA => hA.own0) h
theorem H_own0 {α : Type} (kd : Kd α) (T : TypeId) (a : Option Addr) (h : H P Q n k ρ (Asn w0 ok0 M (.own T kd a 0 [] :: X))) : H P Q n k ρ (Asn w0 ok0 M X) := H_world (fun _ hA => hA.own0) h

theorem HO_append {α : Type} {kd : Kd α} {e u' sz bytes : Nat} {z : Value} {xs ys : List α} {a : Option Addr} {m cp i : Nat}
    (hw : wantedB ops ρ g = some true) (hn : Nat.blt d n = true) (hx : ev ρ x = some (.slice a m cp)) (hy : ev ρ y = some v) (hm : m = xs.length) (ht : P.underlying t = some (.slice e)) (he : Elt P e z sz bytes) (hk : sz = kd.n)
    (hp : picks [i] X = some ([.own e kd a cp xs], R)) (hs : SrcOk P u' R kd v ys) (hb : (xs.length + ys.length) * bytes ≤ 140737488355328)
    (h : ∀ a' c', HO P Q n ops rest k ((d, .slice a' (xs ++ ys).length c') :: ρ) (Asn w0 ok0 M (.own e kd a' c' (xs ++ ys) :: R))) :
    HO P Q n ops (⟨some d, .call ⟨.builtin .append, #[x, y], #[t, u']⟩, t', pos, after, g⟩ :: rest) k ρ (Asn w0 ok0 M X) := by
  have h63 : xs.length + ys.length ≤ maxLen := by
    obtain ⟨i0, _, _, _, _, _, _, hb0⟩ := he
    have := Nat.le_trans (Nat.le_mul_of_pos_right (xs.length + ys.length) hb0) hb
    simp only [maxLen]
    omega
  refine HO_valw (β := Option Addr × Nat) (val := fun q => .slice q.1 (xs ++ ys).length q.2) (B := fun q => Asn w0 ok0 M (.own e kd q.1 q.2 (xs ++ ys) :: R)) hw rfl hn (fun ac w hf hA => ?_) (fun q => h q.1 q.2)
  have hA' := hA.pick hp
  have hall : ∀ at' ∈ R, at'.p (okX w0 ok0 ([.own e kd a cp xs] ++ R)) w := fun at' ha => hA'.holds _ (List.mem_append_right _ ha)
  obtain ⟨news, hsrc, hr⟩ := hs _ w hall
  have hown := hA'.holds (.own e kd a cp xs) (List.mem_cons_self ..)
  rw [← hk] at hsrc
  obtain ⟨a', c', w', hrun, hext, hp', hb'⟩ := run_app (P := P) (t := t) (u := u') (ty := t') ht he hk hown hsrc hr h63 hb
  refine ⟨(a', c'), w', ?_, ?_⟩
  · subst hm
    simp [execOp, resolve, hf.ev hx, hf.ev hy, invoke, builtin, hrun]
  · refine Asn.frame (pre := [.own e kd a cp xs]) hA' ⟨?_, List.pairwise_singleton _ _, ?_, ?_⟩
    · exact ⟨hext.os, hext.tape, hext.output, hext.size, fun b hb1 hb2 => hext.block b hb1 fun hb3 => hb2 ⟨_, List.mem_cons_self .., hb3⟩⟩
    · intro at' ha b hb1
      rw [List.mem_singleton.1 ha] at hb1
      have := hb' b hb1
      exact ⟨this.1, fun hl => ⟨_, List.mem_cons_self .., this.2 hl⟩⟩
    · intro at' ha
      rw [List.mem_singleton.1 ha]
      refine hp' _ (fun b hok hbb => hok.2 ⟨_, List.mem_append_left _ (List.mem_cons_self ..), hbb⟩) fun b hbl hok => ⟨fun _ => hok, ?_⟩
      rintro ⟨at2, ha2, hb2⟩
      rw [List.mem_singleton.1 ha2] at hb2
      have := (hb' b hb2).2 hbl
      exact hok.2 ⟨_, List.mem_append_left _ (List.mem_cons_self ..), this⟩

theorem splice_foldl (o : Nat) : ∀ (us : List Value) (j : Nat) (pre rst : List Value), pre.length = o + j → us.length ≤ rst.length →
    ((us.zipIdx j).foldl (fun (cs : Array Value) (p : Value × Nat) => cs.setIfInBounds (o + p.2) p.1) (pre ++ rst).toArray) = (pre ++ (us ++ rst.drop us.length)).toArray
  | [], j, pre, rst, _, _ => by simp
  | u :: us, j, pre, r :: rs, hp, hl => by
    have h1 : (pre ++ r :: rs).toArray.setIfInBounds (o + j) u = ((pre ++ [u]) ++ rs).toArray := by
      apply Array.ext'
      simp [← hp]
    rw [List.zipIdx_cons, List.foldl_cons]
    dsimp only
    rw [h1, splice_foldl o us (j + 1) (pre ++ [u]) rs (by simp [hp]; omega) (by simpa using hl)]
    simp
  | u :: us, j, pre, [], hp, hl => by simp at hl

theorem fill_all (size : Nat) : ∀ (vs : List Value) (j : Nat) (pre rst : List Value), (∀ v ∈ vs, v.cells.size = size) → pre.length = j * size → rst.length = vs.length * size →
    Instr.fill (fun i => some (i * size, size)) (pre ++ rst).toArray ((vs.zipIdx j).map fun p => (p.2, p.1)) = some (pre ++ vs.flatMap fun v => v.cells.toList).toArray
  | [], j, pre, rst, _, _, hr => by
    have : rst = [] := List.eq_nil_of_length_eq_zero (by simpa using hr)
    subst this
    simp [Instr.fill]
  | v :: vs, j, pre, rst, hv, hp, hr => by
    have h1 : v.cells.size = size := hv v (List.mem_cons_self ..)
    have hlen : rst.length = size + vs.length * size := by rw [hr, List.length_cons, Nat.add_mul]; omega
    have hs := splice_foldl (j * size) v.cells.toList 0 pre rst (by simpa using hp) (by simp [h1]; omega)
    have hz : v.cells.zipIdx.foldl (fun cs (c, j') => cs.setIfInBounds (j * size + j') c) (pre ++ rst).toArray = (pre ++ (v.cells.toList ++ rst.drop v.cells.toList.length)).toArray := by
      rw [← hs]
      rw [← Array.foldl_toList, Array.toList_zipIdx]
    rw [List.zipIdx_cons, List.map_cons]
    simp only [Instr.fill]
    rw [if_neg (by simp [h1, hp]; omega), hz]
    have ih := fill_all size vs (j + 1) (pre ++ v.cells.toList) (rst.drop v.cells.toList.length) (fun u hu => hv u (List.mem_cons_of_mem _ hu)) (by simp [hp, h1, Nat.add_mul]) (by simp [h1, hlen])
    rw [List.append_assoc] at ih
    rw [ih]
    simp

theorem HO_buildSlice {α : Type} {kd : Kd α} {e sz bytes len : Nat} {z : Value} {ps : Array (Nat × Operand)} {xo : List Operand} {vs cs : List Value} {xs : List α}
    (hw : wantedB ops ρ g = some true) (hn : Nat.blt d n = true) (hps : ps.toList = xo.zipIdx.map fun p => (p.2, p.1)) (hx : evs ρ xo = some vs) (ht : P.underlying t = some (.slice e)) (he : Elt P e z sz bytes) (hk : sz = kd.n)
    (hl : xs.length = len) (hlen : vs.length = len) (hsmall : len * sz ≤ 16777216) (hpos : 0 < len) (hvs : ∀ v ∈ vs, v.cells.size = sz) (hcs : vs.flatMap (fun v => v.cells.toList) = cs) (hr : ∀ ok w, (∀ a ∈ X, a.p ok w) → rowRep kd ok w xs cs)
    (h : ∀ gb, HO P Q n ops rest k ((d, .slice (some ⟨gb, 0, none⟩) len len) :: ρ) (Asn w0 ok0 M (.own e kd (some ⟨gb, 0, none⟩) len xs :: X))) :
    HO P Q n ops (⟨some d, .buildSlice t len ps, t', pos, after, g⟩ :: rest) k ρ (Asn w0 ok0 M X) :=
  HO_valw (β := Nat) (val := fun gb => .slice (some ⟨gb, 0, none⟩) len len) (B := fun gb => Asn w0 ok0 M (.own e kd (some ⟨gb, 0, none⟩) len xs :: X)) hw rfl hn (fun ac w hf hA => by
    obtain ⟨i, hi, hz, hsz, hb, hzs, hp, _⟩ := he
    subst hsz hcs hl
    have hrow := hr (okX w0 ok0 X) w hA.holds
    refine ⟨w.heap.size, w.alloc (.cells (vs.flatMap fun v => v.cells.toList).toArray e), ?_, ?_⟩
    · have hmap : ps.map (fun p => (p.1, ac.eval p.2)) = ((vs.zipIdx).map fun p => (p.2, p.1)).toArray := by
        apply Array.ext'
        rw [Array.toList_map, hps, ← evs_ev hf hx]
        simp [List.zipIdx_map, Function.comp_def]
      have hfill := fill_all i.size vs 0 [] ((List.range (xs.length * i.size)).map fun q => z.cells[q % z.cells.size]!) hvs (by simp) (by simp [hlen])
      simp only [List.nil_append] at hfill
      have hbig : ¬ (16777216 < xs.length * i.size) := by omega
      have hne : xs.length * i.size ≠ 0 := Nat.ne_of_gt (Nat.mul_pos hpos hp)
      have hm2 : (ps.map fun (p : Nat × Operand) => match p with | (i, x) => (i, ac.eval x)) = ((vs.zipIdx).map fun p => (p.2, p.1)).toArray := hmap
      simp [execOp, hm2, Instr.buildSlice, run_underlying ht, sizeOf, typeInfo, zeroValue, hi, hz, hbig, newRow, Nat.ne_of_gt hpos, Nat.ne_of_gt hp]
      have har : ((List.range (xs.length * i.size)).map fun q => z.cells[q % z.cells.size]!).toArray = (Array.range (xs.length * i.size)).map fun q => z.cells[q % z.cells.size]! := by
        apply Array.ext'
        simp
      rw [har] at hfill
      rw [if_neg hne, hfill]
      simp [newObj]
      rfl
    · refine Asn.frame (pre := []) (rest := X) hA ⟨Ext.of_below ((Below.refl _ _).alloc (Nat.le_refl _) _), List.pairwise_singleton _ _, ?_, ?_⟩
      · intro a ha gg hgg
        rw [List.mem_singleton.1 ha] at hgg
        have hgg : w.heap.size = gg := by
          have : xs.length ≠ 0 := by omega
          simpa [Atom.own, ownBlk, this] using hgg
        subst hgg
        exact ⟨by simp, fun hl => absurd hl (Nat.lt_irrefl _)⟩
      · intro a ha
        rw [List.mem_singleton.1 ha]
        refine .inr ⟨hpos, w.heap.size, _, _, rfl, heap_alloc_new w _, Nat.le_refl _, ?_, ?_, hrow.keep (fun b hb ho => ⟨⟨fun _ => ho, ?_⟩, heap_alloc_old w _ b hb⟩), ?_⟩
        · have := Nat.le_trans (Nat.le_mul_of_pos_right xs.length hp) hsmall
          simp only [maxLen]; omega
        · have := hrow.len
          rw [List.size_toArray, this]
        · rw [← hrow.len]
          exact List.take_length
        · rintro ⟨a2, ha2, hb2⟩
          rw [List.mem_singleton.1 ha2] at hb2
          have : xs.length ≠ 0 := by omega
          have : w.heap.size = b := by simpa [Atom.own, ownBlk, this] using hb2
          omega) h

theorem HO_build {ps : Array (Nat × Operand)} {xo : List (Nat × Operand)} {vs : List Value} (hw : wantedB ops ρ g = some true) (hn : Nat.blt d n = true) (hps : ps.toList = xo) (hx : evs ρ (xo.map (·.2)) = some vs)
    (hb : ∀ w, (Instr.build t ((xo.map (·.1)).zip vs).toArray).run P w = .ok v w) (h : HO P Q n ops rest k ((d, v) :: ρ) A) : HO P Q n ops (⟨some d, .build t ps, t', pos, after, g⟩ :: rest) k ρ A :=
  HO_val hw rfl hn (fun ac w hf hA => by
    have hm : (ps.map fun (p : Nat × Operand) => match p with | (i, x) => (i, ac.eval x)) = ((xo.map (·.1)).zip vs).toArray := by
      apply Array.ext'
      rw [Array.toList_map, hps, ← evs_ev hf hx]
      simp [List.zip_map', List.map_map]
    simp [execOp, hm, hb w]) h
end
end Go.Wk
namespace Go.Wk
open Go Go.RowKit
section
variable {P : Program} {Q : Post} {n : Nat} {k : List It} {ρ : Env} {ops : Array Oper} {rest : List Oper} {A : World → Prop}
theorem H_join (x : Code) (ρ' : Env) (A' : World → Prop) (hB : H P Q n (.code x :: .inv (fun a w => Fr n ρ' a ∧ A' w) :: k) ρ A) (hK : H P Q n k ρ' A') : H P Q n (.code x :: k) ρ A := by
  intro a w hf hA
  refine wp_mono (hB a w hf hA) ?_
  intro e a w he
  cases e with
  | normal => exact hK a w he.1 he.2
  | _ => exact he
end
theorem Asn.cast {w0 w : World} {ok0 M : Nat → Prop} {X Y : List Atom} (h : Asn w0 ok0 M X w) (e : X = Y) : Asn w0 ok0 M Y w := e ▸ h
end Go.Wk
