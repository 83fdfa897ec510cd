/- Plain facts that the proof of this law leans on. -/
import Derived.Test.YtdaphlemhmgncaaGreatRdr
import Derived.Test.YtdaphlemhmgncaaGreatKinds
set_option linter.unusedVariables false
set_option linter.unusedSimpArgs false
namespace Go.Wk
open Go Cod
namespace Reply
/-! ### Replies: how much they are, their bytes, and bytes read -/
def pw (p : Pair) : Int := 1 + ((p.key.size : Int) + (p.val.size : Int)) / 20
def wt (va : ByteArray) (ps : List Pair) : Int := (va.size : Int) / 20 + (ps.map pw).sum
def few (va : ByteArray) (ps : List Pair) : Bool := decide (wt va ps ≤ 500)
theorem pw_pos (p : Pair) : 1 ≤ pw p := by unfold pw; omega
theorem pws_nonneg : ∀ ps : List Pair, 0 ≤ (ps.map pw).sum
  | [] => by simp
  | p :: ps => by
    have := pws_nonneg ps
    have := pw_pos p
    simp only [List.map_cons, List.sum_cons]
    omega
theorem take_next {α : Type} {l : List α} {i : Nat} {z : α} (h : l[i]? = some z) : l.take (i + 1) = l.take i ++ [z] := by
  rw [List.take_add_one, h]
  rfl
theorem pws_next {ps : List Pair} {i : Nat} {z : Pair} (h : ps[i]? = some z) : ((ps.take (i + 1)).map pw).sum = ((ps.take i).map pw).sum + pw z := by
  rw [take_next h]
  simp
theorem pws_le (ps : List Pair) (i : Nat) : ((ps.take i).map pw).sum ≤ (ps.map pw).sum := by
  have h := pws_nonneg (ps.drop i)
  have e : (ps.map pw).sum = ((ps.take i).map pw).sum + ((ps.drop i).map pw).sum := by
    rw [← List.sum_append, ← List.map_append, List.take_append_drop]
  omega
theorem few_no {va : ByteArray} {ps : List Pair} {i : Nat} {z : Pair} (h : ps[i]? = some z) {n : Int} (hn : n = (va.size : Int) / 20 + ((ps.take i).map pw).sum) (hg : n + (1 + ((z.key.size : Int) + (z.val.size : Int)) / 20) > 500) : false = few va ps := by
  have h1 := pws_le ps (i + 1)
  have h2 := pws_next h
  unfold few wt
  have : ¬ ((va.size : Int) / 20 + (ps.map pw).sum ≤ 500) := by unfold pw at *; omega
  simp [this]
def pairB (p : Pair) : List UInt8 := (enc p.key.size ++ p.key.data.toList) ++ (enc p.val.size ++ p.val.data.toList)
def headB (er : Int) (fo : Bool) (va : ByteArray) (se : Int) (n : Nat) : List UInt8 := [] ++ enc (zig er) ++ enc (zig se) ++ [if fo then 84 else 70] ++ (enc va.size ++ va.data.toList) ++ enc n
def bytes (r : Reply) : List UInt8 := headB r.err r.found r.val r.sess r.pairs.length ++ r.pairs.flatMap pairB
theorem pairB_length (p : Pair) : (pairB p).length = (enc p.key.size).length + p.key.size + ((enc p.val.size).length + p.val.size) := by
  unfold pairB
  have h1 : p.key.data.toList.length = p.key.size := Array.length_toList
  have h2 : p.val.data.toList.length = p.val.size := Array.length_toList
  simp only [List.length_append, h1, h2]
theorem pairB_le (p : Pair) : ((pairB p).length : Int) ≤ 38 * pw p := by
  rw [pairB_length]
  have h1 := Cod.enc_le9 p.key.size
  have h2 := Cod.enc_le9 p.val.size
  unfold pw
  omega
theorem flat_le : ∀ ps : List Pair, ((ps.flatMap pairB).length : Int) ≤ 38 * (ps.map pw).sum
  | [] => by simp
  | p :: ps => by
    have := flat_le ps
    have := pairB_le p
    simp only [List.flatMap_cons, List.length_append, List.map_cons, List.sum_cons]
    omega
theorem head_len (er : Int) (fo : Bool) (va : ByteArray) (se : Int) (n : Nat) : (headB er fo va se n).length ≤ 40 + va.size := by
  unfold headB
  have h1 := Cod.enc_le9 (zig er)
  have h2 := Cod.enc_le9 (zig se)
  have h3 := Cod.enc_le9 va.size
  have h4 := Cod.enc_le9 n
  have h5 : va.data.toList.length = va.size := Array.length_toList
  simp only [List.length_append, List.length_cons, List.length_nil, h5]
  omega
theorem few_len {r : Reply} (h : few r.val r.pairs = true) : (bytes r).length ≤ 40000 := by
  unfold few wt at h
  rw [decide_eq_true_eq] at h
  have h1 := flat_le r.pairs
  have h2 := head_len r.err r.found r.val r.sess r.pairs.length
  have h3 := pws_nonneg r.pairs
  unfold bytes
  rw [List.length_append]
  omega
/-! Reading. -/
def pairsP : Nat → S → List Pair × S
  | 0, s => ([], s)
  | n + 1, s => if s.2 = true then ([], s) else
    let k := getT s; let v := getT k.2; let r := pairsP n v.2
    (⟨k.1, v.1⟩ :: r.1, r.2)
def parse (b : List UInt8) : Reply × S :=
  let r1 := getI (b, false); let r2 := getI r1.2; let r3 := getB r2.2; let r4 := getT r3.2; let r5 := getN r4.2; let ps := pairsP r5.1 r5.2
  (⟨r1.1, r3.1, r4.1, r2.1, ps.1⟩, ps.2)
def zero : Reply := ⟨0, false, Cmd.empty, 0, []⟩
def read (b : List UInt8) : Reply × Int := if rend (parse b).2.1 (parse b).2.2 = true then ((parse b).1, 0) else (zero, 8)
theorem parse_of {b : List UInt8} {r1 r2 r5 : Nat × S} {r3 : Bool × S} {r4 : List UInt8 × S} {l : List Pair} {s : S} (h1 : rd 0 (dec b) b false = r1) (h2 : rd 0 (dec r1.2.1) r1.2.1 r1.2.2 = r2) (h3 : rd false (decB r2.2.1) r2.2.1 r2.2.2 = r3) (h4 : rd [] (decT r3.2.1) r3.2.1 r3.2.2 = r4) (h5 : rd 0 (dec r4.2.1) r4.2.1 r4.2.2 = r5) (h6 : pairsP r5.1 r5.2 = (l, s)) :
    parse b = (⟨zag r1.1, r3.1, ⟨r4.1.toArray⟩, zag r2.1, l⟩, s) := by
  subst h1 h2 h3 h4 h5
  unfold parse getI getB getT getN
  simp only
  rw [h6]
theorem read_bad {b : List UInt8} {p : Reply × S} (h : parse b = p) (h2 : rend p.2.1 p.2.2 = false) : read b = (zero, 8) := by
  subst h
  unfold read
  rw [if_neg (by rw [h2]; decide)]
theorem read_good {b : List UInt8} {p : Reply × S} (h : parse b = p) (h2 : rend p.2.1 p.2.2 = true) : read b = (p.1, 0) := by
  subst h
  unfold read
  rw [if_pos h2]
theorem rd_size {bs : List UInt8} {wr : Bool} {r : List UInt8 × S} (h : rd [] (decT bs) bs wr = r) : r.1.length ≤ bs.length := by
  subst h
  unfold rd
  split
  · simp
  · exact decT_size _
/-! There and back. -/
theorem pairsP_enc (ps : List Pair) (hs : ∀ p ∈ ps, p.key.size < 18446744073709551616 ∧ p.val.size < 18446744073709551616) (r : List UInt8) : pairsP ps.length (ps.flatMap pairB ++ r, false) = (ps, (r, false)) := by
  induction ps with
  | nil => rfl
  | cons p ps ih =>
    have hp := hs p (List.mem_cons_self ..)
    have e : List.flatMap pairB (p :: ps) ++ r = enc p.key.size ++ (p.key.data.toList ++ (enc p.val.size ++ (p.val.data.toList ++ (ps.flatMap pairB ++ r)))) := by simp [pairB]
    rw [e, List.length_cons]
    unfold pairsP
    simp only [Bool.false_eq_true, if_false]
    rw [getT_enc hp.1, ]
    simp only
    rw [getT_enc hp.2]
    simp only
    rw [ih (fun q hq => hs q (List.mem_cons_of_mem _ hq))]
theorem parse_bytes {x : Reply} (he : -9223372036854775808 ≤ x.err ∧ x.err ≤ 9223372036854775807) (hse : -9223372036854775808 ≤ x.sess ∧ x.sess ≤ 9223372036854775807) (hv : x.val.size < 18446744073709551616) (hl : x.pairs.length < 18446744073709551616) (hs : ∀ p ∈ x.pairs, p.key.size < 18446744073709551616 ∧ p.val.size < 18446744073709551616) (r : List UInt8) : parse (bytes x ++ r) = (x, (r, false)) := by
  have e : bytes x ++ r = enc (zig x.err) ++ (enc (zig x.sess) ++ ((if x.found then 84 else 70) :: (enc x.val.size ++ (x.val.data.toList ++ (enc x.pairs.length ++ (x.pairs.flatMap pairB ++ r)))))) := by simp [bytes, headB]
  rw [e]
  unfold parse
  simp only
  rw [getI_enc he]
  simp only
  rw [getI_enc hse]
  simp only
  rw [getB_enc]
  simp only
  rw [getT_enc hv]
  simp only
  rw [getN_enc hl]
  simp only
  rw [pairsP_enc _ hs]
end Reply
end Go.Wk
namespace Go.Wk.Ent
/-! ### Two lists, held against each other -/
theorem same_next {α : Type} {l r : List α} {i : Nat} {x y : α} (hx : l[i]? = some x) (hy : r[i]? = some y) (h : l.take i = r.take i) (hxy : x = y) : l.take (i + 1) = r.take (i + 1) := by
  subst hxy
  rw [Reply.take_next hx, Reply.take_next hy, h]
theorem same_no {α : Type} [DecidableEq α] {l r : List α} {i : Nat} {x y : α} (hx : l[i]? = some x) (hy : r[i]? = some y) (hxy : ¬ x = y) : decide (l = r) = false := by
  apply decide_eq_false
  rintro rfl
  exact hxy (Option.some.inj (hx.symm.trans hy))
end Go.Wk.Ent
namespace Go.Wk.Pair
end Go.Wk.Pair
namespace Go.Wk.Ent
theorem same_yes {α : Type} [DecidableEq α] {l r : List α} (hl : l.length = r.length) (h : l.length ≤ l.length ∧ l.take l.length = r.take l.length) : decide (l = r) = true := by
  apply decide_eq_true
  have h := h.2
  rwa [List.take_length, hl, List.take_length] at h
theorem same_len {α : Type} [DecidableEq α] {l r : List α} (h : (l.length : Int) ≠ (r.length : Int)) : decide (l = r) = false := decide_eq_false (fun e => h (by rw [e]))
end Go.Wk.Ent
namespace Go.Wk.Reply
open Cod
/-! What the laws of the replies ask. -/
def ok (x : Reply) : Prop := (-9223372036854775808 ≤ x.err ∧ x.err ≤ 9223372036854775807) ∧ (-9223372036854775808 ≤ x.sess ∧ x.sess ≤ 9223372036854775807) ∧ few x.val x.pairs = true
theorem mem_len : ∀ {ps : List Pair} {p : Pair}, p ∈ ps → (pairB p).length ≤ (ps.flatMap pairB).length
  | [], _, h => nomatch h
  | q :: ps, p, h => by
    simp only [List.flatMap_cons, List.length_append]
    rcases List.mem_cons.1 h with rfl | h
    · omega
    · have := mem_len h
      omega
theorem count_len : ∀ ps : List Pair, ps.length ≤ (ps.flatMap pairB).length
  | [] => by simp
  | p :: ps => by
    have := count_len ps
    have := Cod.enc_length p.key.size
    have := pairB_length p
    simp only [List.flatMap_cons, List.length_append, List.length_cons]
    omega
theorem parse_ok {x : Reply} (h : ok x) (r : List UInt8) : parse (bytes x ++ r) = (x, (r, false)) := by
  have hl := few_len h.2.2
  have hl2 := hl
  unfold bytes headB at hl2
  have hv : x.val.data.toList.length = x.val.size := Array.length_toList
  simp only [List.length_append, List.length_cons, List.length_nil] at hl2
  have hc := count_len x.pairs
  refine parse_bytes h.1 h.2.1 (by omega) (by omega) (fun p hp => ?_) r
  have h1 := mem_len hp
  have h2 := pairB_length p
  constructor <;> omega
theorem read_ok {x : Reply} (h : ok x) : read (bytes x) = (x, 0) := by
  have h1 := parse_ok h []
  rw [List.append_nil] at h1
  exact read_good h1 rfl
theorem inj {x y : Reply} (hx : ok x) (hy : ok y) : decide (bytes x = bytes y) = decide (x = y) := by
  by_cases h : x = y
  · simp [h]
  · have : ¬ bytes x = bytes y := fun e => h (by
      have h1 := read_ok hx
      rw [e, read_ok hy] at h1
      exact (congrArg Prod.fst h1).symm)
    simp [h, this]
end Go.Wk.Reply
namespace Go.Wk.Cmd
open Cod
def sized (c : Cmd) : Prop := c.key.size + c.old.size + c.val.size + c.til.size ≤ 5000
def whole (c : Cmd) : Prop := (-9223372036854775808 ≤ c.kind ∧ c.kind ≤ 9223372036854775807) ∧ (-9223372036854775808 ≤ c.sess ∧ c.sess ≤ 9223372036854775807) ∧ (-9223372036854775808 ≤ c.seq ∧ c.seq ≤ 9223372036854775807) ∧ (-9223372036854775808 ≤ c.lim ∧ c.lim ≤ 9223372036854775807)
theorem parse_bytes {c : Cmd} (hw : whole c) (hs : sized c) (r : List UInt8) : parse (bytes c ++ r) = (c, (r, false)) := by
  unfold sized at hs
  have e : bytes c ++ r = enc (zig c.kind) ++ (enc (zig c.sess) ++ (enc (zig c.seq) ++ (enc (zig c.lim) ++ (enc c.key.size ++ (c.key.data.toList ++ (enc c.old.size ++ (c.old.data.toList ++ (enc c.val.size ++ (c.val.data.toList ++ (enc c.til.size ++ (c.til.data.toList ++ r))))))))))) := by simp [bytes]
  rw [e]
  unfold parse
  simp only
  rw [getI_enc hw.1]
  simp only
  rw [getI_enc hw.2.1]
  simp only
  rw [getI_enc hw.2.2.1]
  simp only
  rw [getI_enc hw.2.2.2]
  simp only
  rw [getT_enc (by omega)]
  simp only
  rw [getT_enc (by omega)]
  simp only
  rw [getT_enc (by omega)]
  simp only
  rw [getT_enc (by omega)]
end Go.Wk.Cmd
