/- Plain facts of the entries. -/
import Derived.Test.YtdaphlemhmgncaaGreatRep
set_option linter.unusedVariables false
set_option linter.unusedSimpArgs false
namespace Go.Wk
open Go Cod
namespace Ent
/-! ### Entries: which are good, and their bytes -/
def risesFrom (p : Int) : List Int → Bool
  | [] => true
  | n :: r => decide (1 ≤ n) && (decide (n ≤ 9) && (decide (p < n) && risesFrom n r))
def rises (l : List Int) : Bool := risesFrom 0 l
def pv (l : List Int) (i : Nat) : Int := if i = 0 then 0 else (l[i - 1]?).getD 0
theorem drop_at {α : Type} {l : List α} {i : Nat} {x : α} (h : l[i]? = some x) : l.drop i = x :: l.drop (i + 1) := by
  obtain ⟨h1, h2⟩ := List.getElem?_eq_some_iff.1 h
  rw [List.drop_eq_getElem_cons h1, h2]
theorem pv_next {l : List Int} {i : Nat} {x : Int} (h : l[i]? = some x) : pv l (i + 1) = x := by
  unfold pv
  rw [if_neg (by omega), Nat.add_sub_cancel, h]
  rfl
theorem rises_next {l : List Int} {i : Nat} {x : Int} (hx : l[i]? = some x) (hI : rises l = risesFrom (pv l i) (l.drop i)) (h1 : ¬ x < 1) (h9 : ¬ x > 9) (hp : pv l i < x) : rises l = risesFrom (pv l (i + 1)) (l.drop (i + 1)) := by
  rw [hI, drop_at hx, pv_next hx]
  have h2 : 1 ≤ x := by omega
  have h3 : x ≤ 9 := by omega
  simp [risesFrom, h2, h3, hp]
theorem rises_no {l : List Int} {i : Nat} {x : Int} (hx : l[i]? = some x) (hI : rises l = risesFrom (pv l i) (l.drop i)) (h : x < 1 ∨ x > 9 ∨ x ≤ pv l i) : false = rises l := by
  rw [hI, drop_at hx]
  unfold risesFrom
  rcases h with h | h | h
  · have : ¬ 1 ≤ x := by omega
    simp [this]
  · have : ¬ x ≤ 9 := by omega
    simp [this]
  · have : ¬ pv l i < x := by omega
    simp [this]
theorem pv_0 {l : List Int} {i : Nat} (h : ¬ (i : Int) > 0) : pv l i = 0 := by
  unfold pv
  rw [if_pos (by omega)]
theorem pv_at {l : List Int} {i : Nat} {y : Int} (h : (i : Int) > 0) (hy : l[i - 1]? = some y) : pv l i = y := by
  unfold pv
  rw [if_neg (by omega), hy]
  rfl
theorem rises_end {l : List Int} {i : Nat} (hI : rises l = risesFrom (pv l i) (l.drop i)) (h : i = l.length) : true = rises l := by
  subst h
  rw [hI, List.drop_length]
  rfl
def both (vot lea : List Int) : Bool := vot.any fun x => decide (x ∈ lea)
def goodConf (c : Conf) : Bool := decide (0 < c.vot.length) && (rises c.vot && (rises c.lea && !both c.vot c.lea))
def none (c : Conf) : Bool := decide (c.vot.length + c.lea.length = 0)
theorem none_eq (c : Conf) : decide ((c.vot.length : Int) + (c.lea.length : Int) = 0) = none c := by
  unfold none
  congr 1
  apply propext
  omega
def good (e : Ent) : Bool := if e.idx < 1 ∨ e.term < 1 then false else if e.kind = 1 then decide (e.cmd = Cmd.zero) && none e.conf else if e.kind = 2 then none e.conf && Cmd.good e.cmd else if e.kind = 3 then decide (e.cmd = Cmd.zero) && goodConf e.conf else false
theorem mem_next {l : List Int} {i : Nat} {x y : Int} (h : l[i]? = some x) : y ∈ l.take (i + 1) ↔ y ∈ l.take i ∨ y = x := by
  rw [Reply.take_next h]
  simp
theorem both_false {vot lea : List Int} (h : ∀ x ∈ vot, x ∉ lea) : both vot lea = false := by
  unfold both
  rw [List.any_eq_false]
  intro x hx
  simp [h x hx]
theorem both_true {vot lea : List Int} {i j : Nat} {x : Int} (h1 : vot[i]? = some x) (h2 : lea[j]? = some x) : both vot lea = true := by
  unfold both
  rw [List.any_eq_true]
  exact ⟨x, List.mem_of_getElem? h1, by simp [List.mem_of_getElem? h2]⟩
def numsB (l : List Int) : List UInt8 := l.flatMap fun n => enc (zig n)
theorem nums_next {l : List Int} {i : Nat} {x : Int} (h : l[i]? = some x) : numsB (l.take (i + 1)) = numsB (l.take i) ++ enc (zig x) := by
  unfold numsB
  rw [Reply.take_next h]
  simp
theorem nums_len : ∀ l : List Int, (numsB l).length ≤ 9 * l.length
  | [] => by simp [numsB]
  | x :: l => by
    have := nums_len l
    have := Cod.enc_le9 (zig x)
    unfold numsB at *
    simp only [List.flatMap_cons, List.length_append, List.length_cons]
    omega
theorem nums_take_len (l : List Int) (i : Nat) (h : i ≤ l.length) : (numsB (l.take i)).length ≤ 9 * i := by
  have := nums_len (l.take i)
  rw [List.length_take, Nat.min_eq_left h] at this
  exact this
def listB (l : List Int) : List UInt8 := enc l.length ++ numsB l
def confB (c : Conf) : List UInt8 := listB c.vot ++ listB c.lea
theorem list_len (l : List Int) : (listB l).length ≤ 9 + 9 * l.length := by
  have := nums_len l
  have := Cod.enc_le9 l.length
  unfold listB
  rw [List.length_append]
  omega
theorem conf_len (c : Conf) : (confB c).length ≤ 18 + 9 * (c.vot.length + c.lea.length) := by
  have := list_len c.vot
  have := list_len c.lea
  unfold confB
  rw [List.length_append]
  omega
def entB (e : Ent) : List UInt8 := numsB [e.idx, e.term, e.kind] ++ (if e.kind = 2 then enc (Cmd.bytes e.cmd).length ++ Cmd.bytes e.cmd else if e.kind = 3 then confB e.conf else [])
def hardB (h : Hard) : List UInt8 := numsB [h.term, h.vote, h.commit]
def snapB (s : Snap) : List UInt8 := numsB [s.idx, s.term] ++ (confB s.conf ++ (enc s.data.length ++ s.data))
def weight (e : Ent) : Int := 1 + ((e.cmd.key.size : Int) + e.cmd.old.size + e.cmd.val.size + e.cmd.til.size) / 20 + e.conf.vot.length + e.conf.lea.length
def fewS (s : Snap) : Int := (s.data.length : Int) / 50 + s.conf.vot.length + s.conf.lea.length
def wsum (l : List Ent) : Int := (l.map weight).sum
def few (l : List Ent) (s : Snap) : Bool := decide (fewS s + wsum l ≤ 400)
theorem weight_pos (e : Ent) : 1 ≤ weight e := by unfold weight; omega
theorem wsum_nonneg : ∀ l : List Ent, 0 ≤ wsum l
  | [] => by simp [wsum]
  | e :: l => by
    have := wsum_nonneg l
    have := weight_pos e
    unfold wsum at *
    simp only [List.map_cons, List.sum_cons]
    omega
theorem wsum_next {l : List Ent} {i : Nat} {z : Ent} (h : l[i]? = some z) : wsum (l.take (i + 1)) = wsum (l.take i) + weight z := by
  unfold wsum
  rw [Reply.take_next h]
  simp
theorem wsum_le (l : List Ent) (i : Nat) : wsum (l.take i) ≤ wsum l := by
  have h := wsum_nonneg (l.drop i)
  have e : wsum l = wsum (l.take i) + wsum (l.drop i) := by
    unfold wsum
    rw [← List.sum_append, ← List.map_append, List.take_append_drop]
  omega
theorem few_no {l : List Ent} {s : Snap} {i : Nat} {z : Ent} (h : l[i]? = some z) {n : Int} (hn : n = fewS s + wsum (l.take i)) (hg : n + weight z > 400) : false = few l s := by
  have h1 := wsum_le l (i + 1)
  have h2 := wsum_next h
  unfold few
  have : ¬ (fewS s + wsum l ≤ 400) := by omega
  simp [this]
def goodSnap (s : Snap) : Bool := decide (0 < s.idx) && (decide (0 < s.term) && (goodConf s.conf && decide (s.data.length ≤ 1048576)))
end Ent
end Go.Wk
namespace Go.Wk.Ent
theorem both_iff (vot lea : List Int) : both vot lea = decide (∃ x ∈ vot, x ∈ lea) := by
  unfold both
  rw [Bool.eq_iff_iff, List.any_eq_true, decide_eq_true_eq]
  simp
end Go.Wk.Ent
namespace Go.Wk.Ent
theorem cmd0 : Cmd.zero = ⟨0, 0, 0, ⟨#[]⟩, ⟨#[]⟩, ⟨#[]⟩, ⟨#[]⟩, 0⟩ := rfl
theorem rgood_no {vo le : List Int} {i j : Nat} {x y : Int} (h1 : vo[i]? = some x) (h2 : le[j]? = some y) (h : x = y) : false = goodConf ⟨vo, le⟩ := by
  subst h
  unfold goodConf
  simp [both_true h1 h2]
theorem rgood_yes {vo le : List Int} {i : Nat} (h1 : rises vo = true) (h2 : rises le = true) (h0 : ¬ (vo.length : Int) = 0) (hI : i ≤ vo.length ∧ ∀ x ∈ vo.take i, x ∉ le) (hi : i = vo.length) : true = goodConf ⟨vo, le⟩ := by
  subst hi
  have h := hI.2
  rw [List.take_length] at h
  unfold goodConf
  have h3 : 0 < vo.length := by omega
  simp only [h1, h2, h3, both_false h, decide_true, Bool.not_false, Bool.and_self]
end Go.Wk.Ent
namespace Go.Wk.Cmd
theorem bytes_le {c : Cmd} : (bytes c).length ≤ 72 + (c.key.size + c.old.size + c.val.size + c.til.size) := by
  have e0 := Cod.enc_le9 (Cod.zig c.kind)
  have e1 := Cod.enc_le9 (Cod.zig c.sess)
  have e2 := Cod.enc_le9 (Cod.zig c.seq)
  have e3 := Cod.enc_le9 (Cod.zig c.lim)
  have u0 := Cod.enc_le9 c.key.size
  have u1 := Cod.enc_le9 c.old.size
  have u2 := Cod.enc_le9 c.val.size
  have u3 := Cod.enc_le9 c.til.size
  have v0 : c.key.data.toList.length = c.key.size := Array.length_toList
  have v1 : c.old.data.toList.length = c.old.size := Array.length_toList
  have v2 : c.val.data.toList.length = c.val.size := Array.length_toList
  have v3 : c.til.data.toList.length = c.til.size := Array.length_toList
  unfold bytes
  simp only [List.length_append, List.length_nil]
  omega
end Go.Wk.Cmd
namespace Go.Wk.Cod
theorem size_mk (l : List UInt8) : (⟨l.toArray⟩ : ByteArray).size = l.length := List.size_toArray
end Go.Wk.Cod
namespace Go.Wk.Ent
theorem one_le (x : Int) : (1 ≤ x) = (0 < x) := propext ⟨fun h => by omega, fun h => by omega⟩
end Go.Wk.Ent
namespace Go.Wk.Ent
end Go.Wk.Ent
namespace Go.Wk.Cod
theorem rdI_less {bs : List UInt8} {r : Nat × S} (h : rd 0 (dec bs) bs false = r) (hb : r.2.2 = false) : r.2.1.length < bs.length := by
  subst h
  unfold rd at hb ⊢
  have := dec_len bs
  split
  · rename_i h1; rw [if_pos h1] at hb; cases hb
  · rename_i h1
    simp only [List.length_drop]
    simp at h1
    omega
def getC (k : Int) (s : S) : Nat × S := cnt k s.1 s.2
theorem cnt_le {k : Int} (hk : 0 ≤ k) (b : List UInt8) (w : Bool) : ((cnt k b w).1 : Int) ≤ k := by
  unfold cnt
  split
  · exact hk
  · omega
end Go.Wk.Cod
namespace Go.Wk.Ent
open Cod
/-! ### Reading -/
def numsP : Nat → S → List Int × S
  | 0, s => ([], s)
  | n + 1, s => if s.2 = true then ([], s) else
    let x := getI s; let r := numsP n x.2
    (x.1 :: r.1, r.2)
theorem numsP_wrong (n : Nat) (bs : List UInt8) : numsP n (bs, true) = ([], (bs, true)) := by cases n <;> rfl
theorem nums0 {n m : Nat} {l : List Int} {t s : S} (h : numsP n t = (l ++ (numsP m s).1, (numsP m s).2)) (hm : m = 0) : numsP n t = (l, s) := by
  subst hm
  rw [h]
  simp [numsP]
theorem numsW {n m : Nat} {l : List Int} {t : S} {bs : List UInt8} {wr : Bool} (h : numsP n t = (l ++ (numsP m (bs, wr)).1, (numsP m (bs, wr)).2)) (hm : wr = true) : numsP n t = (l, (bs, wr)) := by
  subst hm
  rw [h, numsP_wrong]
  simp
theorem nums_more {n m : Nat} {l : List Int} {t : S} {bs : List UInt8} {wr : Bool} {r : Nat × S} (h : numsP n t = (l ++ (numsP (m + 1) (bs, wr)).1, (numsP (m + 1) (bs, wr)).2)) (hw : wr = false) (h1 : rd 0 (dec bs) bs wr = r) :
    numsP n t = (l ++ [zag r.1] ++ (numsP m (r.2.1, r.2.2)).1, (numsP m (r.2.1, r.2.2)).2) := by
  subst hw
  rw [h]
  have e : numsP (m + 1) (bs, false) = (zag r.1 :: (numsP m r.2).1, (numsP m r.2).2) := by
    subst h1
    rfl
  rw [e]
  simp
theorem nums_more_len {l : List Int} {bs : List UInt8} {wr : Bool} {r : Nat × S} {x : Int} (hw : wr = false) (hl : wr = false → l.length + bs.length ≤ 100000) (h1 : rd 0 (dec bs) bs wr = r) : r.2.2 = false → (l ++ [x]).length + r.2.1.length ≤ 100000 := by
  intro hb
  rw [hw] at h1
  have h5 := rdI_less h1 hb
  have := hl hw
  simp only [List.length_append, List.length_cons, List.length_nil]
  omega
def listP (k : Int) (s : S) : List Int × S := numsP (getC k s).1 (getC k s).2
theorem listP_of {k : Int} {b : List UInt8} {w : Bool} {r : Nat × S} {l : List Int} {s : S} (h : cnt k b w = r) (h2 : numsP r.1 r.2 = (l, s)) : listP k (b, w) = (l, s) := by
  subst h
  exact h2
def MOST : Int := 1000000
def confP (s : S) : Conf × S := let v := listP 1000000 s; let l := listP 1000000 v.2; (⟨v.1, l.1⟩, l.2)
def entP (s : S) : Ent × S :=
  let r1 := getI s; let r2 := getI r1.2; let r3 := getI r2.2
  if r3.1 = 2 then (⟨r1.1, r2.1, r3.1, (Cmd.read (getT r3.2).1.data.toList).1, ⟨[], []⟩⟩, if (Cmd.read (getT r3.2).1.data.toList).2 = 0 then (getT r3.2).2 else ([], true))
  else if r3.1 = 3 then (⟨r1.1, r2.1, r3.1, Cmd.zero, (confP r3.2).1⟩, (confP r3.2).2)
  else (⟨r1.1, r2.1, r3.1, Cmd.zero, ⟨[], []⟩⟩, r3.2)
theorem entP_2 {b : List UInt8} {w : Bool} {r1 r2 r3 : Nat × S} {r4 : List UInt8 × S} (h1 : rd 0 (dec b) b w = r1) (h2 : rd 0 (dec r1.2.1) r1.2.1 r1.2.2 = r2) (h3 : rd 0 (dec r2.2.1) r2.2.1 r2.2.2 = r3) (h4 : rd [] (decT r3.2.1) r3.2.1 r3.2.2 = r4) (hk : zag r3.1 = 2) :
    entP (b, w) = (⟨zag r1.1, zag r2.1, zag r3.1, (Cmd.read r4.1).1, ⟨[], []⟩⟩, if (Cmd.read r4.1).2 = 0 then r4.2 else ([], true)) := by
  subst h1 h2 h3 h4
  exact if_pos hk
theorem entP_3 {b : List UInt8} {w : Bool} {r1 r2 r3 : Nat × S} (h1 : rd 0 (dec b) b w = r1) (h2 : rd 0 (dec r1.2.1) r1.2.1 r1.2.2 = r2) (h3 : rd 0 (dec r2.2.1) r2.2.1 r2.2.2 = r3) (hk : zag r3.1 = 3) :
    entP (b, w) = (⟨zag r1.1, zag r2.1, zag r3.1, Cmd.zero, (confP (r3.2.1, r3.2.2)).1⟩, (confP (r3.2.1, r3.2.2)).2) := by
  have h2' : ¬ zag r3.1 = 2 := by omega
  subst h1 h2 h3
  exact (if_neg h2').trans (if_pos hk)
theorem entP_0 {b : List UInt8} {w : Bool} {r1 r2 r3 : Nat × S} (h1 : rd 0 (dec b) b w = r1) (h2 : rd 0 (dec r1.2.1) r1.2.1 r1.2.2 = r2) (h3 : rd 0 (dec r2.2.1) r2.2.1 r2.2.2 = r3) (hk : ¬ zag r3.1 = 2) (hk3 : ¬ zag r3.1 = 3) :
    entP (b, w) = (⟨zag r1.1, zag r2.1, zag r3.1, Cmd.zero, ⟨[], []⟩⟩, r3.2) := by
  subst h1 h2 h3
  exact (if_neg hk).trans (if_neg hk3)
def snapP (s : S) : Snap × S :=
  let r1 := getI s; let r2 := getI r1.2; let c := confP r2.2; let t := getT c.2
  (⟨r1.1, r2.1, c.1, t.1.data.toList⟩, t.2)
theorem snapP_of {b : List UInt8} {w : Bool} {r1 r2 : Nat × S} {c : Conf × S} {r4 : List UInt8 × S} (h1 : rd 0 (dec b) b w = r1) (h2 : rd 0 (dec r1.2.1) r1.2.1 r1.2.2 = r2) (h3 : confP (r2.2.1, r2.2.2) = c) (h4 : rd [] (decT c.2.1) c.2.1 c.2.2 = r4) : snapP (b, w) = (⟨zag r1.1, zag r2.1, c.1, r4.1⟩, r4.2) := by
  subst h1 h2 h3 h4
  rfl
theorem numsP_len : ∀ (n : Nat) (s : S), (numsP n s).2.1.length ≤ s.1.length
  | 0, s => Nat.le_refl _
  | n + 1, s => by
    unfold numsP
    split
    · exact Nat.le_refl _
    · exact Nat.le_trans (numsP_len n _) (getI_len s)
theorem listP_len (k : Int) (s : S) : (listP k s).2.1.length ≤ s.1.length := Nat.le_trans (numsP_len _ _) (cnt_len _ _ _)
theorem confP_len (s : S) : (confP s).2.1.length ≤ s.1.length := Nat.le_trans (listP_len _ _) (listP_len _ _)
def zero : Ent := ⟨0, 0, 0, ⟨0, 0, 0, ⟨#[]⟩, ⟨#[]⟩, ⟨#[]⟩, ⟨#[]⟩, 0⟩, ⟨[], []⟩⟩
def told (ok : Bool) (e : Ent) : Ent × Int := if ok then (e, 0) else (zero, 8)
def read (b : List UInt8) : Ent × Int := told (rend (entP (b, false)).2.1 (entP (b, false)).2.2 && good (entP (b, false)).1) (entP (b, false)).1
def zeroH : Hard := ⟨0, 0, 0⟩
def toldH (ok : Bool) (e : Hard) : Hard × Int := if ok then (e, 0) else (zeroH, 8)
def hardP (s : S) : Hard × S := let r1 := getI s; let r2 := getI r1.2; let r3 := getI r2.2; (⟨r1.1, r2.1, r3.1⟩, r3.2)
def goodH (h : Hard) : Bool := decide (h.term ≥ 0) && (decide (h.vote ≥ 0) && decide (h.commit ≥ 0))
def readH (b : List UInt8) : Hard × Int := toldH (rend (hardP (b, false)).2.1 (hardP (b, false)).2.2 && goodH (hardP (b, false)).1) (hardP (b, false)).1
def zeroS : Snap := ⟨0, 0, ⟨[], []⟩, []⟩
def toldS (ok : Bool) (e : Snap) : Snap × Int := if ok then (e, 0) else (zeroS, 8)
def readS (b : List UInt8) : Snap × Int := toldS (rend (snapP (b, false)).2.1 (snapP (b, false)).2.2 && goodSnap (snapP (b, false)).1) (snapP (b, false)).1
end Go.Wk.Ent
namespace Go.Wk.Ent
open Cod
theorem confP_of {b : List UInt8} {w : Bool} {v1 v2 : List Int × S} (h1 : listP 1000000 (b, w) = v1) (h2 : listP 1000000 (v1.2.1, v1.2.2) = v2) : confP (b, w) = (⟨v1.1, v2.1⟩, v2.2) := by
  subst h1 h2
  rfl
theorem told_no {r m : Bool} {e : Ent} (h : r = false ∨ m = false) : told (r && m) e = (zero, 8) := by
  unfold told
  rw [if_neg (by rcases h with h | h <;> simp [h])]
theorem told_yes {r m : Bool} {e : Ent} (h1 : r = true) (h2 : m = true) : told (r && m) e = (e, 0) := by
  unfold told
  rw [if_pos (by simp [h1, h2])]
theorem read_of {b : List UInt8} {e : Ent × S} (h : entP (b, false) = e) : read b = told (rend e.2.1 e.2.2 && good e.1) e.1 := by subst h; rfl
end Go.Wk.Ent
namespace Go.Wk.Ent
open Cod
theorem numsP_size : ∀ (n : Nat) (s : S), (numsP n s).1.length ≤ s.1.length + 1
  | 0, s => by simp [numsP]
  | n + 1, s => by
    unfold numsP
    split
    · simp
    · rename_i h
      simp only [List.length_cons]
      by_cases hw : (getI s).2.2 = true
      · have e : numsP n (getI s).2 = ([], (getI s).2) := by
          have := numsP_wrong n (getI s).2.1
          rw [← hw] at this
          rw [show (getI s).2 = ((getI s).2.1, (getI s).2.2) from rfl, this]
        rw [e]
        simp
      · have ih := numsP_size n (getI s).2
        have h1 : s.2 = false := by simpa using h
        have h2 : (rd 0 (dec s.1) s.1 s.2).2.2 = false := by simpa [getI, getN] using hw
        have h3 : (rd 0 (dec s.1) s.1 s.2).2.1.length < s.1.length := by
          rw [h1] at h2 ⊢
          exact rdI_less rfl h2
        have h4 : (getI s).2.1.length < s.1.length := h3
        omega
theorem listP_size (k : Int) (s : S) : (listP k s).1.length ≤ s.1.length + 1 := Nat.le_trans (numsP_size _ _) (Nat.succ_le_succ (cnt_len _ _ _))
theorem confP_sizes (s : S) : (confP s).1.vot.length ≤ s.1.length + 1 ∧ (confP s).1.lea.length ≤ s.1.length + 1 :=
  ⟨listP_size _ s, Nat.le_trans (listP_size _ _) (Nat.succ_le_succ (listP_len _ _))⟩
theorem entP_conf (s : S) : (entP s).1.conf = ⟨[], []⟩ ∨ (entP s).1.conf = (confP (getI (getI (getI s).2).2).2).1 := by
  obtain ⟨b, w⟩ := s
  by_cases h2 : zag (rd 0 (dec (getI (getI (b, w)).2).2.1) (getI (getI (b, w)).2).2.1 (getI (getI (b, w)).2).2.2).1 = 2
  · left
    rw [entP_2 rfl rfl rfl rfl h2]
  · by_cases h3 : zag (rd 0 (dec (getI (getI (b, w)).2).2.1) (getI (getI (b, w)).2).2.1 (getI (getI (b, w)).2).2.2).1 = 3
    · right
      rw [entP_3 rfl rfl rfl h3]
      rfl
    · left
      rw [entP_0 rfl rfl rfl h2 h3]
theorem le_big {a b n : Nat} (h1 : a ≤ b + 1) (h2 : b ≤ n) (h : n ≤ 100000) : a ≤ BIG := by
  show a ≤ 140737488351232
  omega
theorem entP_sizes (s : S) (h : s.1.length ≤ 100000) : (entP s).1.conf.vot.length ≤ BIG ∧ (entP s).1.conf.lea.length ≤ BIG := by
  have e := Nat.le_trans (getI_len (getI (getI s).2).2) (Nat.le_trans (getI_len (getI s).2) (getI_len s))
  rcases entP_conf s with h1 | h1
  · rw [h1]
    exact ⟨Nat.zero_le _, Nat.zero_le _⟩
  · rw [h1]
    have := confP_sizes (getI (getI (getI s).2).2).2
    exact ⟨le_big this.1 e h, le_big this.2 e h⟩
end Go.Wk.Ent
namespace Go.Wk
theorem Ent.eta (e : Ent) : (⟨e.idx, e.term, e.kind, ⟨e.cmd.kind, e.cmd.sess, e.cmd.seq, e.cmd.key, e.cmd.old, e.cmd.val, e.cmd.til, e.cmd.lim⟩, ⟨e.conf.vot, e.conf.lea⟩⟩ : Ent) = e := rfl
theorem Hard.eta (e : Hard) : (⟨e.term, e.vote, e.commit⟩ : Hard) = e := rfl
theorem Snap.eta (e : Snap) : (⟨e.idx, e.term, ⟨e.conf.vot, e.conf.lea⟩, e.data⟩ : Snap) = e := rfl
theorem Cmd.eta (e : Cmd) : (⟨e.kind, e.sess, e.seq, e.key, e.old, e.val, e.til, e.lim⟩ : Cmd) = e := rfl
end Go.Wk
namespace Go.Wk.Ent
end Go.Wk.Ent
