/- A small calculus of weakest preconditions over the kit's code: rules for the operations, proved for all programs. -/
import Derived.Test.YtdaphlemhmgncaaGreatWk7
import Derived.Laws.BytesString
set_option linter.unusedVariables false
set_option linter.unusedSimpArgs false
namespace Go.Wk
open Go Go.RowKit

theorem own_sl {α : Type} {d : Kd α} {T : TypeId} {a : Option Addr} {c : Nat} {xs : List α} {ok ok' : Nat → Prop} {w : World} (h : (Atom.own T d a c xs).p ok w) (hk : ∀ b, b < w.heap.size → ok b → ok' b) (hb : ∀ b, ownBlk a c = some b → ok' b) (hnil : a = none → c = 0) :
    d.sl.rep ok' w xs [.slice a xs.length c] := by
  rcases h with ⟨rfl, rfl⟩ | ⟨hc, g, cur, vals, rfl, h1, h2, h3, h4, h5, h6⟩
  · exact ⟨a, 0, rfl, Nat.le_refl _, Nat.zero_le _, fun _ => rfl, fun h => absurd h (Nat.lt_irrefl _)⟩
  · refine ⟨_, c, rfl, h2, h3, fun h => by simp at h, fun _ => ⟨g, 0, vals, rfl, hb g (by simp [ownBlk]; omega), h5.keep (fun b hb1 hb2 => ⟨hk b hb1 hb2, rfl⟩), ?_, (Array.getElem?_eq_some_iff.1 h1).1⟩⟩
    intro j u hj
    simp only [World.cell?, h1, Nat.zero_add]
    rw [← h6, List.getElem?_take] at hj
    split at hj
    · simpa using hj
    · cases hj
theorem own_nil {α : Type} {d : Kd α} {T : TypeId} {a : Option Addr} {c : Nat} {xs : List α} {ok : Nat → Prop} {w : World} (h : (Atom.own T d a c xs).p ok w) : a = none → c = 0 := by
  rcases h with ⟨rfl, _⟩ | ⟨hc, g, cur, vals, rfl, _⟩
  · exact fun _ => rfl
  · intro h; cases h

theorem bytesStr_run {P : Program} {t td e : TypeId} {ok : Nat → Prop} {w : World} {xs : List UInt8} {a : Option Addr} {m cp : Nat} (hs : P.underlying t = some (.slice e)) (hd : P.underlying td = some .string) (he : P.underlying e = some (.int .u8)) (hrep : kByte.sl.rep ok w xs [.slice a m cp]) :
    (Go.convert t td (.slice a m cp)).run P w = .ok (.string ⟨xs.toArray⟩) w := by
    obtain ⟨a', c', hac, hle, hmx, hnil, hrow⟩ := hrep
    obtain ⟨rfl, rfl, rfl⟩ : a = a' ∧ m = xs.length ∧ cp = c' := by simpa using hac
    have hconv := run_convert_bytes_string (P := P) w t td e a xs.length cp hs he hd
    rw [hconv]
    have key : (Conv.bytesToString (.slice a xs.length cp)).run P w = .ok (.string ⟨xs.toArray⟩) w := by
      cases xs with
      | nil =>
        cases a with
        | none => rfl
        | some a => rfl
      | cons x0 xs0 =>
        obtain ⟨b, o, vals, rfl, hok, hr, hc, hlb⟩ := hrow (by simp)
        have hvals : ∀ (l : List UInt8) (vs : List Value), rowRep kByte (ok) w l vs → vs = (l.map fun b => (b.toNat : Int)).map (Value.int .u8) := by
          intro l
          induction l with
          | nil => intro vs h; exact h
          | cons c l ih =>
            rintro vs ⟨cs, rst, rfl, ⟨rfl, _⟩, h⟩
            rw [ih _ h]
            rfl
        have hv := hvals _ _ hr
        have hl := run_loadCells_list (P := P) w ⟨b, o, none⟩ vals (fun j v hj => by rw [add_plain]; exact hc j v hj)
        rw [hr.len] at hl
        have hn1 : (x0 :: xs0).length * kByte.n = (x0 :: xs0).length := Nat.mul_one _
        rw [hn1, hv] at hl
        rw [run_bytesToString w ⟨b, o, none⟩ _ cp _ hl]
        have hf2 : ∀ (l : List UInt8) (s : ByteArray), (l.map fun b => (b.toNat : Int)).foldl (fun r n => r.push (UInt8.ofNat n.toNat)) s = ⟨s.data ++ l.toArray⟩ := by
          intro l
          induction l with
          | nil => intro s; simp
          | cons c l ih =>
            intro s
            have h1 : UInt8.ofNat ((c.toNat : Int)).toNat = c := by simp
            rw [List.map_cons, List.foldl_cons, ih, h1]
            show (⟨s.data.push c ++ l.toArray⟩ : ByteArray) = ⟨s.data ++ (c :: l).toArray⟩
            congr 1
            apply Array.ext'
            simp
        rw [hf2]
        have he0 : (ByteArray.empty.data ++ (x0 :: xs0).toArray) = (x0 :: xs0).toArray := by
          show (#[] ++ (x0 :: xs0).toArray) = _
          simp
        rw [he0]
    exact key

section
variable {P : Program} {Q : Post} {n : Nat} {k : List It} {ρ : Env} {ops : Array Oper} {rest : List Oper}
variable {w0 : World} {ok0 M : Nat → Prop} {X R : List Atom}
variable {d : Nat} {t : TypeId} {pos : String} {after : Array Edge} {g : Option (Nat × Bool)} {x y c : Operand} {v u : Value} {t' : TypeId} {A : World → Prop}

theorem bin_lit {op : BinOp} {kd : IntKind} {a b : Int} {v : Value} (hs : op ≠ .shl ∧ op ≠ .shr) (h : ∀ w, (intSem op kd a b).run P w = .ok v w) : BinR P op t x y (.int kd a) (.int kd b) v := bin_int hs h
theorem bin_shr' {k k' : IntKind} {a : Nat} {s : Int} (ha : a < 2 ^ k.bits) (h0 : 0 ≤ s) : BinR P .shr t x y (.int k a) (.int k' s) (.int k ((a / 2 ^ s.toNat : Nat) : Int)) := by
  have := bin_shr (P := P) (t := t) (x := x) (y := y) (k := k) (k' := k') (a := a) (s := s.toNat) ha
  rwa [Int.toNat_of_nonneg h0] at this
theorem bin_shl' {k k' : IntKind} (hk : k.signed = false) {a : Nat} {s : Int} (h0 : 0 ≤ s) : BinR P .shl t x y (.int k a) (.int k' s) (.int k ((a * 2 ^ s.toNat % 2 ^ k.bits : Nat) : Int)) := by
  have := bin_shl (P := P) (t := t) (x := x) (y := y) (k := k) (k' := k') hk (a := a) (s := s.toNat)
  rwa [Int.toNat_of_nonneg h0] at this
theorem wrap_i64_nat {m : Nat} (h : m < 9223372036854775808) : IntKind.i64.wrap (m : Int) = (m : Int) := wrap_i64 (by omega) (by omega)

theorem HO_compl {kd : IntKind} {a : Nat} (hw : wantedB ops ρ g = some true) (hn : Nat.blt d n = true) (hx : ev ρ x = some (.int kd a)) (hk : kd.signed = false) (ha : a < 2 ^ kd.bits) (h : HO P Q n ops rest k ((d, .int kd ((2 ^ kd.bits - 1 - a : Nat) : Int)) :: ρ) A) : HO P Q n ops (⟨some d, .unOp .xor t' x, t, pos, after, g⟩ :: rest) k ρ A :=
  HO_val hw rfl hn (fun ac w hf _ => by
    have hmx : IntKind.max kd = ((2 ^ kd.bits - 1 : Nat) : Int) := by
      unfold IntKind.max
      rw [hk, if_neg (by simp)]
      have : 1 ≤ 2 ^ kd.bits := Nat.one_le_two_pow
      rw [Int.natCast_sub this]
      simp
    have e : (BitVec.ofNat kd.bits (2 ^ kd.bits - 1) ^^^ BitVec.ofNat kd.bits a).toNat = 2 ^ kd.bits - 1 - a := by
      have h1 : BitVec.ofNat kd.bits (2 ^ kd.bits - 1) = BitVec.allOnes kd.bits := by
        apply BitVec.eq_of_toNat_eq
        simp
      rw [h1, BitVec.allOnes_xor, BitVec.toNat_not, BitVec.toNat_ofNat, Nat.mod_eq_of_lt ha]
    have hlt : 2 ^ kd.bits - 1 - a < 2 ^ kd.bits := by have : 1 ≤ 2 ^ kd.bits := Nat.one_le_two_pow; omega
    simp only [execOp, hf.ev hx, Op.unary, Op.intBits, hk, Bool.false_eq_true, if_false, hmx, ofInt_nat, e, wrap_u_lt hk hlt]
    rfl) h
theorem HO_negu {kd : IntKind} {a : Nat} (hw : wantedB ops ρ g = some true) (hn : Nat.blt d n = true) (hx : ev ρ x = some (.int kd a)) (hk : kd.signed = false) (ha : a < 2 ^ kd.bits) (h : HO P Q n ops rest k ((d, .int kd (((2 ^ kd.bits - a) % 2 ^ kd.bits : Nat) : Int)) :: ρ) A) : HO P Q n ops (⟨some d, .unOp .neg t' x, t, pos, after, g⟩ :: rest) k ρ A :=
  HO_val hw rfl hn (fun ac w hf _ => by
    have e : kd.wrap (0 - (a : Int)) = (((2 ^ kd.bits - a) % 2 ^ kd.bits : Nat) : Int) := by
      rw [← wrap_u hk, Int.natCast_sub (Nat.le_of_lt ha)]
      unfold IntKind.wrap
      simp only [hk, Bool.false_and, Bool.false_eq_true, if_false]
      have : ((2 ^ kd.bits : Nat) : Int) = (2 ^ kd.bits : Int) := by simp
      rw [this, Int.sub_eq_add_neg, Int.sub_eq_add_neg, Int.zero_add, Int.add_emod_left]
    simp only [execOp, hf.ev hx, Op.unary, Op.intArith, e]
    rfl) h

theorem HO_set {v' : Value} (d : Nat) (hl : look ρ d = some v) (he : v = v') (h : HO P Q n ops rest k ((d, v') :: ρ) A) : HO P Q n ops rest k ρ A := by
  subst he
  intro a w hf hA
  refine h a w ⟨hf.size, hf.defers, fun t u hu => ?_⟩ hA
  simp only [look] at hu
  cases hb : Nat.beq d t with
  | true =>
    have : d = t := Nat.eq_of_beq_eq_true hb
    subst this
    simp [hb] at hu
    subst hu
    exact hf.get _ _ hl
  | false => simp [hb] at hu; exact hf.get _ _ hu
theorem H_set {v' : Value} (d : Nat) (hl : look ρ d = some v) (he : v = v') (h : H P Q n k ((d, v') :: ρ) A) : H P Q n k ρ A := HO_set (ops := #[]) (rest := []) d hl he (HO_nil h)

/-! ### Arrays, strings -/
theorem HO_indexV {cs : List Value} {j : Nat} {ik : IntKind} {ji : Int} {m e : Nat} (hw : wantedB ops ρ g = some true) (hn : Nat.blt d n = true) (hx : ev ρ x = some (.agg cs.toArray)) (hy : ev ρ y = some (.int ik ji)) (hu : P.underlying t = some (.array m e)) (ha : ∀ w, (isAgg e).run P w = .ok false w) (hs : ∀ w, (sizeOf e).run P w = .ok 1 w) (hj : ji = (j : Int)) (hlt : j < m) (hv : cs[j]? = some v)
    (h : HO P Q n ops rest k ((d, v) :: ρ) A) : HO P Q n ops (⟨some d, .index t x y, t', pos, after, g⟩ :: rest) k ρ A :=
  HO_val hw rfl hn (fun ac w hf _ => by
    subst hj
    simp [execOp, hf.ev hx, hf.ev hy, Instr.index, asIntOf, run_underlying hu, hlt, hs w, part, ha w, hv]) h
theorem HO_indexS {s : ByteArray} {j : Nat} {ik : IntKind} {ji : Int} {b : UInt8} (hw : wantedB ops ρ g = some true) (hn : Nat.blt d n = true) (hx : ev ρ x = some (.string s)) (hy : ev ρ y = some (.int ik ji)) (hu : P.underlying t = some .string) (hj : ji = (j : Int)) (hb : s.data.toList[j]? = some b)
    (h : HO P Q n ops rest k ((d, .int .u8 (b.toNat : Int)) :: ρ) A) : HO P Q n ops (⟨some d, .index t x y, t', pos, after, g⟩ :: rest) k ρ A :=
  HO_val hw rfl hn (fun ac w hf _ => by
    subst hj
    obtain ⟨hlt, he⟩ := List.getElem?_eq_some_iff.1 hb
    have hlt' : j < s.size := by simpa using hlt
    have h1 := run_index_string (P := P) w t s ik (j : Int) hu
    rw [dif_pos ⟨by omega, by omega⟩] at h1
    have h2 : s[((j : Int)).toNat]'(by simpa using hlt') = b := by
      rw [← he]
      rfl
    simp only [h2] at h1
    simp [execOp, hf.ev hx, hf.ev hy, h1]) h
theorem HO_bytesStr {i : Nat} {xs : List UInt8} {a : Option Addr} {m cp : Nat} {td e : TypeId} (hw : wantedB ops ρ g = some true) (hn : Nat.blt d n = true) (hx : ev ρ x = some (.slice a m cp)) (hs : P.underlying t = some (.slice e)) (hd : P.underlying td = some .string) (he : P.underlying e = some (.int .u8)) (hi : X[i]? = some (.dat kByte.sl xs [.slice a m cp]))
    (h : HO P Q n ops rest k ((d, .string ⟨xs.toArray⟩) :: ρ) (Asn w0 ok0 M X)) : HO P Q n ops (⟨some d, .convert t td x, t', pos, after, g⟩ :: rest) k ρ (Asn w0 ok0 M X) :=
  HO_val hw rfl hn (fun ac w hf hA => by
    have := bytesStr_run (P := P) (t := t) (td := td) hs hd he (hA.get hi)
    simp [execOp, hf.ev hx, this]) h
theorem HO_bytesStrOwn {i : Nat} {xs : List UInt8} {a : Option Addr} {m cp : Nat} {T td e : TypeId} (hw : wantedB ops ρ g = some true) (hn : Nat.blt d n = true) (hx : ev ρ x = some (.slice a m cp)) (hs : P.underlying t = some (.slice e)) (hd : P.underlying td = some .string) (he : P.underlying e = some (.int .u8)) (hi : X[i]? = some (.own T kByte a cp xs)) (hm : m = xs.length)
    (h : HO P Q n ops rest k ((d, .string ⟨xs.toArray⟩) :: ρ) (Asn w0 ok0 M X)) : HO P Q n ops (⟨some d, .convert t td x, t', pos, after, g⟩ :: rest) k ρ (Asn w0 ok0 M X) :=
  HO_val hw rfl hn (fun ac w hf hA => by
    subst hm
    have ho := hA.get hi
    have := bytesStr_run (P := P) (t := t) (td := td) hs hd he (own_sl (ok' := fun _ => True) ho (fun _ _ _ => trivial) (fun _ _ => trivial) (own_nil ho))
    simp [execOp, hf.ev hx, this]) h
theorem HO_strBytes {s : ByteArray} {td e : TypeId} (hw : wantedB ops ρ g = some true) (hn : Nat.blt d n = true) (hx : ev ρ x = some (.string s)) (hs : P.underlying t = some .string) (hd : P.underlying td = some (.slice e)) (he : P.underlying e = some (.int .u8)) (hm : s.size ≤ maxLen)
    (h : ∀ a c, HO P Q n ops rest k ((d, .slice a s.data.toList.length c) :: ρ) (Asn w0 ok0 M (.dat kByte.sl s.data.toList [.slice a s.data.toList.length c] :: X))) : HO P Q n ops (⟨some d, .convert t td x, t', pos, after, g⟩ :: rest) k ρ (Asn w0 ok0 M X) :=
  HO_valw (β := Option Addr × Nat) (val := fun q => .slice q.1 s.data.toList.length q.2) (B := fun q => Asn w0 ok0 M (.dat kByte.sl s.data.toList [.slice q.1 s.data.toList.length q.2] :: X)) hw rfl hn (fun ac w hf hA => by
    have hsz : s.data.toList.length = s.size := Array.length_toList
    let cap := (Question.appendCap s.size 0 e).cut (w.tape w.drawn (.appendCap s.size 0 e))
    have hge : s.size ≤ cap := grownCap_ge w s.size 0 e
    have hle : cap ≤ maxLen := grownCap_le_maxLen w s.size 0 e hm
    let cells : Array Value := s.data.map (fun b => Value.int .u8 (b.toNat : Int)) ++ Array.replicate (cap - s.size) (.int .u8 0)
    let w1 := w.drew.alloc (.cells cells e)
    let w2 := w1.freeze { block := w.heap.size, off := cells.size } 1
    refine ⟨(some ⟨w.heap.size, 0, none⟩, cap), w2, ?_, ?_⟩
    · have hsh : w1.shape? w.heap.size = some (e, cells.size) := by
        have h1 : w1.heap[w.heap.size]? = some (.cells cells e) := heap_alloc_new w.drew _
        simp only [World.shape?, h1]
      have hrun : (Conv.stringToBytes e s).run P w = .ok (.slice (some ⟨w.heap.size, 0, none⟩) s.size cap) w2 := by
        have h1 : (choose (.appendCap s.size 0 e)).run P w = .ok cap w.drew := rfl
        have h2 : (newRow e cells).run P w.drew = .ok ⟨w.heap.size, 0, none⟩ w1 := rfl
        have h3 : (markStringish ⟨w.heap.size, 0, none⟩).run P w1 = .ok () w2 := by
          have h4 : (shape w.heap.size).run P w1 = .ok (some (e, cells.size)) w1 := by
            show Result.ok (w1.shape? w.heap.size) w1 = _
            rw [hsh]
          simp only [markStringish, Sem.run_bind, h4, Result.andThen_ok]
          rfl
        unfold Conv.stringToBytes
        simp only [Sem.run_bind, h1, Result.andThen_ok]
        rw [show (newRow e (s.data.map (fun b => Value.int .u8 (b.toNat : Int)) ++ Array.replicate (cap - s.size) (.int .u8 0))).run P w.drew = .ok ⟨w.heap.size, 0, none⟩ w1 from h2]
        simp only [Result.andThen_ok, h3, Sem.run_pure]
      simp [execOp, hf.ev hx, convert, run_underlying hs, run_underlying hd, run_underlying he, hrun, hsz]
    · have hb : Below w.heap.size w w2 := by
        refine ⟨rfl, rfl, rfl, ?_, fun b hb => ?_⟩
        · simp [w2, w1, World.freeze]
        · simp only [w2, World.freeze, Nat.one_ne_zero, if_false]
          rw [Array.getElem?_modify, if_neg (by omega)]
          exact heap_alloc_old w.drew _ b hb
      refine Asn.frame (pre := []) (rest := X) hA ⟨Ext.of_below hb, List.pairwise_singleton _ _, ?_, ?_⟩
      · intro a ha gg hgg
        rw [List.mem_singleton.1 ha] at hgg
        cases hgg
      · intro a ha
        rw [List.mem_singleton.1 ha]
        have hblk : ∃ fr, w2.heap[w.heap.size]? = some (.cells cells e fr) := by
          have h1 : w1.heap[w.heap.size]? = some (.cells cells e) := heap_alloc_new w.drew _
          simp only [w2, World.freeze, Nat.one_ne_zero, if_false]
          rw [Array.getElem?_modify, if_pos rfl, h1]
          exact ⟨_, rfl⟩
        obtain ⟨fr, hblk⟩ := hblk
        refine ⟨some ⟨w.heap.size, 0, none⟩, cap, rfl, by omega, hle, by simp, fun _ => ⟨w.heap.size, 0, _, rfl, ⟨fun hl => absurd hl (Nat.lt_irrefl _), ?_⟩, bytes_row _, ?_, ?_⟩⟩
        · rintro ⟨a2, ha2, hb2⟩
          rw [List.mem_singleton.1 ha2] at hb2
          cases hb2
        · intro j u hj
          simp only [World.cell?, hblk, Nat.zero_add]
          have hlt : j < s.data.size := by
            have := (List.getElem?_eq_some_iff.1 hj).1
            simpa using this
          have hlt' : j < s.size := hlt
          have hj' : (s.data.map (fun b => Value.int .u8 (b.toNat : Int)))[j]? = some u := by simpa using hj
          show (s.data.map (fun b => Value.int .u8 (b.toNat : Int)) ++ Array.replicate (cap - s.size) (.int .u8 0))[j]? = some u
          rw [Array.getElem?_append_left (by simpa using hlt)]
          exact hj'
        · exact (Array.getElem?_eq_some_iff.1 hblk).1) (fun q => h q.1 q.2)
theorem open_byte : Opens kByte Unit (fun z _ => [.int .u8 (z.toNat : Int)]) (fun _ _ => []) (fun _ => True) := ⟨fun h => ⟨trivial, (), h.1, fun a ha => by cases ha⟩⟩
theorem open_int : Opens kInt Unit (fun z _ => [.int .i64 z]) (fun _ _ => []) (fun z => -9223372036854775808 ≤ z ∧ z ≤ 9223372036854775807) := ⟨fun h => ⟨h.2, (), h.1, fun a ha => by cases ha⟩⟩
theorem equal_open (ty : TypeId) (a b : Value) : ∃ m, Op.equal ty a b = Op.equalIn (m + 1) ty a b := ⟨_, rfl⟩
theorem bin_ptr_eq_nn {e : TypeId} (hu : ∀ w, (underlying t).run P w = .ok (.pointer e) w) : BinR P .eql t x y (.pointer none) (.pointer none) (.bool true) := fun w => by
  show ((eqGuard .eql t x y (.pointer none) (.pointer none) >>= fun _ => (do pure (.bool (← Op.equal t (.pointer none) (.pointer none)))) : Sem Value)).run P w = _
  obtain ⟨m, hm⟩ := equal_open t (.pointer none) (.pointer none)
  simp [eqGuard, hm, Op.equalIn, hu w]
theorem bin_ptr_eq_pn {a : Addr} {e : TypeId} (hu : ∀ w, (underlying t).run P w = .ok (.pointer e) w) : BinR P .eql t x y (.pointer (some a)) (.pointer none) (.bool false) := fun w => by
  show ((eqGuard .eql t x y (.pointer (some a)) (.pointer none) >>= fun _ => (do pure (.bool (← Op.equal t (.pointer (some a)) (.pointer none)))) : Sem Value)).run P w = _
  obtain ⟨m, hm⟩ := equal_open t (.pointer (some a)) (.pointer none)
  simp [eqGuard, hm, Op.equalIn, hu w]
theorem bin_ptr_ne_pn {a : Addr} {e : TypeId} (hu : ∀ w, (underlying t).run P w = .ok (.pointer e) w) : BinR P .neq t x y (.pointer (some a)) (.pointer none) (.bool true) := fun w => by
  show ((eqGuard .neq t x y (.pointer (some a)) (.pointer none) >>= fun _ => (do pure (.bool (!(← Op.equal t (.pointer (some a)) (.pointer none))))) : Sem Value)).run P w = _
  obtain ⟨m, hm⟩ := equal_open t (.pointer (some a)) (.pointer none)
  simp [eqGuard, hm, Op.equalIn, hu w]
theorem bin_nes {s u : ByteArray} : BinR P .neq t x y (.string s) (.string u) (.bool (!decide (s = u))) := fun w => by
  show ((eqGuard .neq t x y (.string s) (.string u) >>= fun _ => Op.stringOp .neq s u : Sem Value)).run P w = _
  simp [eqGuard, Op.stringOp, toList_dec]
theorem bin_eqb {a b : Bool} (hu : ∀ w, (underlying t).run P w = .ok .bool w) : BinR P .eql t x y (.bool a) (.bool b) (.bool (a == b)) := fun w => by
  show ((eqGuard .eql t x y (.bool a) (.bool b) >>= fun _ => (do pure (.bool (← Op.equal t (.bool a) (.bool b)))) : Sem Value)).run P w = _
  obtain ⟨m, hm⟩ := equal_open t (.bool a) (.bool b)
  simp [eqGuard, hm, Op.equalIn, hu w]
theorem bin_neb {a b : Bool} (hu : ∀ w, (underlying t).run P w = .ok .bool w) : BinR P .neq t x y (.bool a) (.bool b) (.bool (!(a == b))) := fun w => by
  show ((eqGuard .neq t x y (.bool a) (.bool b) >>= fun _ => (do pure (.bool (!(← Op.equal t (.bool a) (.bool b))))) : Sem Value)).run P w = _
  obtain ⟨m, hm⟩ := equal_open t (.bool a) (.bool b)
  simp [eqGuard, hm, Op.equalIn, hu w]
end
end Go.Wk
