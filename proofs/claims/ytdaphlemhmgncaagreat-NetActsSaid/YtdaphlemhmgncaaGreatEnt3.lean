/- Plain facts of the entries. -/
import Derived.Test.YtdaphlemhmgncaaGreatEnt2
set_option linter.unusedVariables false
set_option linter.unusedSimpArgs false
namespace Go.Wk
open Go Cod
namespace Ent
/-! ### Messages -/
theorem good_idx {e : Ent} (h : good e = true) : 1 ≤ e.idx ∧ 1 ≤ e.term := by
  unfold good at h
  by_cases h0 : e.idx < 1 ∨ e.term < 1
  · rw [if_pos h0] at h; cases h
  · omega
def okEnts (ix te : Int) : Int → List Ent → Bool
  | _, [] => true
  | i, e :: r => good e && (decide (e.idx - ix = i + 1) && (decide (e.term ≤ te) && okEnts ix te (i + 1) r))
def emptyS (s : Snap) : Bool := decide (s.idx = 0) && (decide (s.term = 0) && (none s.conf && decide (s.data.length = 0)))
def goodMsg (m : Msg) : Bool :=
  if m.kind < 1 ∨ m.kind > 10 ∨ m.frm < 1 ∨ m.frm > 9 ∨ m.to < 1 ∨ m.to > 9 ∨ m.term < 1 ∨ m.idx < 0 ∨ m.lterm < 0 ∨ m.commit < 0 ∨ m.round < 0 ∨ m.hint < 0 ∨ m.ents.length > 16 ∨ (m.ents.length > 0 ∧ m.kind ≠ 5) then false
  else okEnts m.idx m.term 0 m.ents && (if m.kind = 7 then goodSnap m.snap else emptyS m.snap)
theorem ok_next {ix te : Int} {l : List Ent} {i : Nat} {z : Ent} (hz : l[i]? = some z) (hI : okEnts ix te 0 l = okEnts ix te i (l.drop i)) (h1 : good z = true) (h2 : z.idx - ix = (i : Int) + 1) (h3 : z.term ≤ te) : okEnts ix te 0 l = okEnts ix te ((i + 1 : Nat) : Int) (l.drop (i + 1)) := by
  rw [hI, drop_at hz]
  simp only [okEnts, h1, h2, h3, decide_true, Bool.true_and]
  rfl
theorem ok_no {ix te : Int} {l : List Ent} {i : Nat} {z : Ent} (hz : l[i]? = some z) (hI : okEnts ix te 0 l = okEnts ix te i (l.drop i)) (h : good z = false ∨ ¬ z.idx - ix = (i : Int) + 1 ∨ ¬ z.term ≤ te) : okEnts ix te 0 l = false := by
  rw [hI, drop_at hz]
  rcases h with h | h | h
  · simp [okEnts, h]
  · simp [okEnts, h]
  · simp only [okEnts, h, decide_false, Bool.false_and, Bool.and_false]
theorem ok_end {ix te : Int} {l : List Ent} {i : Nat} (hI : okEnts ix te 0 l = okEnts ix te i (l.drop i)) (h : i = l.length) : okEnts ix te 0 l = true := by
  subst h
  rw [hI, List.drop_length]
  rfl
def entsB (l : List Ent) : List UInt8 := l.flatMap entB
theorem ents_next {l : List Ent} {i : Nat} {z : Ent} (h : l[i]? = some z) : entsB (l.take (i + 1)) = entsB (l.take i) ++ entB z := by
  unfold entsB
  rw [Reply.take_next h]
  simp
def msgB (m : Msg) : List UInt8 := numsB [m.kind, m.frm, m.to, m.term, m.idx, m.lterm, m.commit, m.round] ++ ([if m.rej then 84 else 70] ++ (numsB [m.hint] ++ (if m.kind = 5 then enc m.ents.length ++ entsB m.ents else if m.kind = 7 then snapB m.snap else [])))
theorem entB_weight (e : Ent) : ((entB e).length : Int) ≤ 150 * weight e := by
  have h1 := nums_len [e.idx, e.term, e.kind]
  have h2 := Cmd.bytes_le (c := e.cmd)
  have h3 := conf_len e.conf
  have h4 := Cod.enc_le9 (Cmd.bytes e.cmd).length
  simp only [List.length_cons, List.length_nil] at h1
  unfold entB weight
  rw [List.length_append]
  split
  · rw [List.length_append]; omega
  · split
    · omega
    · simp only [List.length_nil]; omega
theorem entsB_weight : ∀ l : List Ent, ((entsB l).length : Int) ≤ 150 * wsum l
  | [] => by simp [entsB, wsum]
  | e :: l => by
    have := entsB_weight l
    have := entB_weight e
    unfold entsB wsum at *
    simp only [List.flatMap_cons, List.length_append, List.map_cons, List.sum_cons]
    omega
theorem ents_take_len {l : List Ent} {i : Nat} (h : wsum l ≤ 400) : (entsB (l.take i)).length ≤ 60000 := by
  have h1 := entsB_weight (l.take i)
  have h2 := wsum_le l i
  omega
theorem weight_at {l : List Ent} {i : Nat} {z : Ent} (hz : l[i]? = some z) (h : wsum l ≤ 400) : weight z ≤ 400 := by
  have h1 := wsum_next hz
  have h2 := wsum_le l (i + 1)
  have h3 := wsum_nonneg (l.take i)
  omega
theorem few_parts {l : List Ent} {s : Snap} (h : few l s = true) : wsum l ≤ 400 ∧ s.data.length ≤ 30000 ∧ s.conf.vot.length + s.conf.lea.length ≤ 400 ∧ l.length ≤ 400 := by
  unfold few fewS at h
  rw [decide_eq_true_eq] at h
  have h1 := wsum_nonneg l
  have h2 : (l.length : Int) ≤ wsum l := by
    clear h h1
    induction l with
    | nil => simp [wsum]
    | cons e l ih =>
      have := weight_pos e
      unfold wsum at *
      simp only [List.length_cons, List.map_cons, List.sum_cons]
      omega
  omega
/-! Reading messages. -/
def entsP : Nat → S → List Ent × S
  | 0, s => ([], s)
  | n + 1, s => if s.2 = true then ([], s) else
    let x := entP s; let r := entsP n x.2
    (x.1 :: r.1, r.2)
theorem entsP_wrong (n : Nat) (bs : List UInt8) : entsP n (bs, true) = ([], (bs, true)) := by cases n <;> rfl
theorem ents0 {n m : Nat} {l : List Ent} {t s : S} (h : entsP n t = (l ++ (entsP m s).1, (entsP m s).2)) (hm : m = 0) : entsP n t = (l, s) := by
  subst hm
  rw [h]
  simp [entsP]
theorem entsW {n m : Nat} {l : List Ent} {t : S} {bs : List UInt8} {wr : Bool} (h : entsP n t = (l ++ (entsP m (bs, wr)).1, (entsP m (bs, wr)).2)) (hm : wr = true) : entsP n t = (l, (bs, wr)) := by
  subst hm
  rw [h, entsP_wrong]
  simp
theorem ents_more {n m : Nat} {l : List Ent} {t : S} {bs : List UInt8} {wr : Bool} {e : Ent × S} (h : entsP n t = (l ++ (entsP (m + 1) (bs, wr)).1, (entsP (m + 1) (bs, wr)).2)) (hw : wr = false) (h1 : entP (bs, wr) = e) :
    entsP n t = (l ++ [e.1] ++ (entsP m (e.2.1, e.2.2)).1, (entsP m (e.2.1, e.2.2)).2) := by
  subst hw
  rw [h]
  have e2 : entsP (m + 1) (bs, false) = (e.1 :: (entsP m e.2).1, (entsP m e.2).2) := by
    show ((entP (bs, false)).1 :: (entsP m (entP (bs, false)).2).1, (entsP m (entP (bs, false)).2).2) = _
    rw [h1]
  rw [e2]
  simp
def entsL (k : Int) (s : S) : List Ent × S := entsP (getC k s).1 (getC k s).2
theorem entsL_of {k : Int} {b : List UInt8} {w : Bool} {r : Nat × S} {l : List Ent} {s : S} (h : cnt k b w = r) (h2 : entsP r.1 r.2 = (l, s)) : entsL k (b, w) = (l, s) := by
  subst h
  exact h2
end Ent
end Go.Wk
namespace Go.Wk.Ent
open Cod
theorem goodMsg_no {m : Msg} (h : m.kind < 1 ∨ m.kind > 10 ∨ m.frm < 1 ∨ m.frm > 9 ∨ m.to < 1 ∨ m.to > 9 ∨ m.term < 1 ∨ m.idx < 0 ∨ m.lterm < 0 ∨ m.commit < 0 ∨ m.round < 0 ∨ m.hint < 0 ∨ m.ents.length > 16 ∨ (m.ents.length > 0 ∧ m.kind ≠ 5)) : false = goodMsg m := by
  unfold goodMsg
  rw [if_pos h]
theorem goodMsg_at {m : Msg} (h : ¬ (m.kind < 1 ∨ m.kind > 10 ∨ m.frm < 1 ∨ m.frm > 9 ∨ m.to < 1 ∨ m.to > 9 ∨ m.term < 1 ∨ m.idx < 0 ∨ m.lterm < 0 ∨ m.commit < 0 ∨ m.round < 0 ∨ m.hint < 0 ∨ m.ents.length > 16 ∨ (m.ents.length > 0 ∧ m.kind ≠ 5))) : goodMsg m = (okEnts m.idx m.term 0 m.ents && (if m.kind = 7 then goodSnap m.snap else emptyS m.snap)) := by
  unfold goodMsg
  rw [if_neg h]
theorem entP_st (s : S) : (entP s).2 = (getT (getI (getI (getI s).2).2).2).2 ∨ (entP s).2 = ([], true) ∨ (entP s).2 = (confP (getI (getI (getI s).2).2).2).2 ∨ (entP s).2 = (getI (getI (getI s).2).2).2 := by
  obtain ⟨b, w⟩ := s
  by_cases h2 : zag (rd 0 (dec (getI (getI (b, w)).2).2.1) (getI (getI (b, w)).2).2.1 (getI (getI (b, w)).2).2.2).1 = 2
  · rw [entP_2 rfl rfl rfl rfl h2]
    by_cases h4 : (Cmd.read (rd [] (decT (getI (getI (getI (b, w)).2).2).2.1) (getI (getI (getI (b, w)).2).2).2.1 (getI (getI (getI (b, w)).2).2).2.2).1).2 = 0
    · exact .inl (if_pos h4)
    · exact .inr (.inl (if_neg h4))
  · by_cases h3 : zag (rd 0 (dec (getI (getI (b, w)).2).2.1) (getI (getI (b, w)).2).2.1 (getI (getI (b, w)).2).2.2).1 = 3
    · right; right; left
      rw [entP_3 rfl rfl rfl h3]
      rfl
    · right; right; right
      rw [entP_0 rfl rfl rfl h2 h3]
      rfl
theorem entP_len (s : S) : (entP s).2.1.length ≤ s.1.length := by
  have e := Nat.le_trans (getI_len (getI (getI s).2).2) (Nat.le_trans (getI_len (getI s).2) (getI_len s))
  rcases entP_st s with h | h | h | h <;> rw [h]
  · exact Nat.le_trans (getT_len _) e
  · exact Nat.zero_le _
  · exact Nat.le_trans (confP_len _) e
  · exact e
end Go.Wk.Ent
namespace Go.Wk.Ent
def sanes (l : List Ent) : Prop := ∀ e ∈ l, rng e.idx ∧ rng e.term ∧ rng e.kind ∧ Cmd.whole e.cmd ∧ (∀ x ∈ e.conf.vot, rng x) ∧ (∀ x ∈ e.conf.lea, rng x)
end Go.Wk.Ent
namespace Go.Wk
theorem Msg.eta (e : Msg) : (⟨e.kind, e.frm, e.to, e.term, e.idx, e.lterm, e.commit, e.round, e.rej, e.hint, e.ents, ⟨e.snap.idx, e.snap.term, ⟨e.snap.conf.vot, e.snap.conf.lea⟩, e.snap.data⟩⟩ : Msg) = e := rfl
end Go.Wk
namespace Go.Wk.Ent
open Cod
def entI (x : Ent) : Prop := (-9223372036854775808 ≤ x.idx ∧ x.idx ≤ 9223372036854775807) ∧ (-9223372036854775808 ≤ x.term ∧ x.term ≤ 9223372036854775807) ∧ (-9223372036854775808 ≤ x.kind ∧ x.kind ≤ 9223372036854775807) ∧ (-9223372036854775808 ≤ x.cmd.kind ∧ x.cmd.kind ≤ 9223372036854775807) ∧ (-9223372036854775808 ≤ x.cmd.sess ∧ x.cmd.sess ≤ 9223372036854775807) ∧ (-9223372036854775808 ≤ x.cmd.seq ∧ x.cmd.seq ≤ 9223372036854775807) ∧ x.cmd.key.size ≤ BIG ∧ x.cmd.old.size ≤ BIG ∧ x.cmd.val.size ≤ BIG ∧ x.cmd.til.size ≤ BIG ∧ (-9223372036854775808 ≤ x.cmd.lim ∧ x.cmd.lim ≤ 9223372036854775807) ∧ x.conf.vot.length ≤ BIG ∧ x.conf.lea.length ≤ BIG
def cmdI (c : Cmd) : Prop := (-9223372036854775808 ≤ c.kind ∧ c.kind ≤ 9223372036854775807) ∧ (-9223372036854775808 ≤ c.sess ∧ c.sess ≤ 9223372036854775807) ∧ (-9223372036854775808 ≤ c.seq ∧ c.seq ≤ 9223372036854775807) ∧ c.key.size ≤ BIG ∧ c.old.size ≤ BIG ∧ c.val.size ≤ BIG ∧ c.til.size ≤ BIG ∧ (-9223372036854775808 ≤ c.lim ∧ c.lim ≤ 9223372036854775807)
theorem zero_cmdI : cmdI Cmd.zero := by
  refine ⟨by decide, by decide, by decide, Nat.zero_le _, Nat.zero_le _, Nat.zero_le _, Nat.zero_le _, by decide⟩
theorem big_of {n m : Nat} (h : n ≤ m) (h2 : m ≤ 100000) : n ≤ BIG := by
  show n ≤ 140737488351232
  omega
theorem parse_cmdI {b : List UInt8} (h : b.length ≤ 100000) : cmdI (Cmd.parse b).1 := by
  have l1 := getI_len (b, false)
  have l2 := getI_len (getI (b, false)).2
  have l3 := getI_len (getI (getI (b, false)).2).2
  have l4 := getI_len (getI (getI (getI (b, false)).2).2).2
  have e4 : (getI (getI (getI (getI (b, false)).2).2).2).2.1.length ≤ b.length := Nat.le_trans l4 (Nat.le_trans l3 (Nat.le_trans l2 l1))
  have e5 := Nat.le_trans (getT_len (getI (getI (getI (getI (b, false)).2).2).2).2) e4
  have e6 := Nat.le_trans (getT_len (getT (getI (getI (getI (getI (b, false)).2).2).2).2).2) e5
  have e7 := Nat.le_trans (getT_len (getT (getT (getI (getI (getI (getI (b, false)).2).2).2).2).2).2) e6
  refine ⟨getI_lo _, getI_lo _, getI_lo _, big_of (Nat.le_trans (getT_size _) e4) h, big_of (Nat.le_trans (getT_size _) e5) h, big_of (Nat.le_trans (getT_size _) e6) h, big_of (Nat.le_trans (getT_size _) e7) h, getI_lo _⟩
theorem read_cmdI {b : List UInt8} (h : b.length ≤ 100000) : cmdI (Cmd.read b).1 := by
  by_cases hg : rend (Cmd.parse b).2.1 (Cmd.parse b).2.2 = true ∧ Cmd.good (Cmd.parse b).1 = true
  · rw [Cmd.read_good rfl hg.1 hg.2]
    exact parse_cmdI h
  · rw [Cmd.read_bad rfl (by
      by_cases h1 : rend (Cmd.parse b).2.1 (Cmd.parse b).2.2 = true
      · exact .inr (by simpa using fun h2 => hg ⟨h1, h2⟩)
      · exact .inl (by simpa using h1))]
    exact zero_cmdI
theorem entP_I (s : S) (h : s.1.length ≤ 100000) : entI (entP s).1 := by
  obtain ⟨b, w⟩ := s
  have h8 := entP_sizes (b, w) h
  have e3 : (getI (getI (getI (b, w)).2).2).2.1.length ≤ b.length := Nat.le_trans (getI_len (getI (getI (b, w)).2).2) (Nat.le_trans (getI_len (getI (b, w)).2) (getI_len (b, w)))
  by_cases h2 : zag (rd 0 (dec (getI (getI (b, w)).2).2.1) (getI (getI (b, w)).2).2.1 (getI (getI (b, w)).2).2.2).1 = 2
  · rw [entP_2 rfl rfl rfl rfl h2] at h8 ⊢
    have hc : cmdI (Cmd.read (rd [] (decT (getI (getI (getI (b, w)).2).2).2.1) (getI (getI (getI (b, w)).2).2).2.1 (getI (getI (getI (b, w)).2).2).2.2).1).1 := read_cmdI (Nat.le_trans (Reply.rd_size rfl) (Nat.le_trans e3 h))
    exact ⟨getI_lo _, getI_lo _, getI_lo _, hc.1, hc.2.1, hc.2.2.1, hc.2.2.2.1, hc.2.2.2.2.1, hc.2.2.2.2.2.1, hc.2.2.2.2.2.2.1, hc.2.2.2.2.2.2.2, h8.1, h8.2⟩
  · have hz := zero_cmdI
    by_cases h3 : zag (rd 0 (dec (getI (getI (b, w)).2).2.1) (getI (getI (b, w)).2).2.1 (getI (getI (b, w)).2).2.2).1 = 3
    · rw [entP_3 rfl rfl rfl h3] at h8 ⊢
      exact ⟨getI_lo _, getI_lo _, getI_lo _, hz.1, hz.2.1, hz.2.2.1, hz.2.2.2.1, hz.2.2.2.2.1, hz.2.2.2.2.2.1, hz.2.2.2.2.2.2.1, hz.2.2.2.2.2.2.2, h8.1, h8.2⟩
    · rw [entP_0 rfl rfl rfl h2 h3] at h8 ⊢
      exact ⟨getI_lo _, getI_lo _, getI_lo _, hz.1, hz.2.1, hz.2.2.1, hz.2.2.2.1, hz.2.2.2.2.1, hz.2.2.2.2.2.1, hz.2.2.2.2.2.2.1, hz.2.2.2.2.2.2.2, h8.1, h8.2⟩
def msgP (s : S) : Msg × S :=
  let r1 := getI s; let r2 := getI r1.2; let r3 := getI r2.2; let r4 := getI r3.2; let r5 := getI r4.2; let r6 := getI r5.2; let r7 := getI r6.2; let r8 := getI r7.2; let r9 := getB r8.2; let r10 := getI r9.2
  if r1.1 = 5 then (⟨r1.1, r2.1, r3.1, r4.1, r5.1, r6.1, r7.1, r8.1, r9.1, r10.1, (entsL 16 r10.2).1, ⟨0, 0, ⟨[], []⟩, []⟩⟩, (entsL 16 r10.2).2)
  else if r1.1 = 7 then (⟨r1.1, r2.1, r3.1, r4.1, r5.1, r6.1, r7.1, r8.1, r9.1, r10.1, [], (snapP r10.2).1⟩, (snapP r10.2).2)
  else (⟨r1.1, r2.1, r3.1, r4.1, r5.1, r6.1, r7.1, r8.1, r9.1, r10.1, [], ⟨0, 0, ⟨[], []⟩, []⟩⟩, r10.2)
section
variable {b : List UInt8} {w : Bool} {r1 r2 r3 r4 r5 r6 r7 r8 r10 : Nat × S} {r9 : Bool × S} (h1 : rd 0 (dec b) b w = r1) (h2 : rd 0 (dec r1.2.1) r1.2.1 r1.2.2 = r2) (h3 : rd 0 (dec r2.2.1) r2.2.1 r2.2.2 = r3) (h4 : rd 0 (dec r3.2.1) r3.2.1 r3.2.2 = r4) (h5 : rd 0 (dec r4.2.1) r4.2.1 r4.2.2 = r5) (h6 : rd 0 (dec r5.2.1) r5.2.1 r5.2.2 = r6) (h7 : rd 0 (dec r6.2.1) r6.2.1 r6.2.2 = r7) (h8 : rd 0 (dec r7.2.1) r7.2.1 r7.2.2 = r8) (h9 : rd false (decB r8.2.1) r8.2.1 r8.2.2 = r9) (h10 : rd 0 (dec r9.2.1) r9.2.1 r9.2.2 = r10)
include h1 h2 h3 h4 h5 h6 h7 h8 h9 h10
theorem msgP_5 {c : List Ent × S} (hc : entsL 16 (r10.2.1, r10.2.2) = c) (hk : zag r1.1 = 5) : msgP (b, w) = (⟨zag r1.1, zag r2.1, zag r3.1, zag r4.1, zag r5.1, zag r6.1, zag r7.1, zag r8.1, r9.1, zag r10.1, c.1, ⟨0, 0, ⟨[], []⟩, []⟩⟩, c.2) := by
  subst h1 h2 h3 h4 h5 h6 h7 h8 h9 h10
  rw [← hc]
  exact if_pos hk
theorem msgP_7 {c : Snap × S} (hc : snapP (r10.2.1, r10.2.2) = c) (hk5 : ¬ zag r1.1 = 5) (hk : zag r1.1 = 7) : msgP (b, w) = (⟨zag r1.1, zag r2.1, zag r3.1, zag r4.1, zag r5.1, zag r6.1, zag r7.1, zag r8.1, r9.1, zag r10.1, [], c.1⟩, c.2) := by
  subst h1 h2 h3 h4 h5 h6 h7 h8 h9 h10
  rw [← hc]
  exact (if_neg hk5).trans (if_pos hk)
theorem msgP_0 (hk5 : ¬ zag r1.1 = 5) (hk : ¬ zag r1.1 = 7) : msgP (b, w) = (⟨zag r1.1, zag r2.1, zag r3.1, zag r4.1, zag r5.1, zag r6.1, zag r7.1, zag r8.1, r9.1, zag r10.1, [], ⟨0, 0, ⟨[], []⟩, []⟩⟩, r10.2) := by
  subst h1 h2 h3 h4 h5 h6 h7 h8 h9 h10
  exact (if_neg hk5).trans (if_neg hk)
end
def zeroM : Msg := ⟨0, 0, 0, 0, 0, 0, 0, 0, false, 0, [], ⟨0, 0, ⟨[], []⟩, []⟩⟩
def toldM (ok : Bool) (e : Msg) : Msg × Int := if ok then (e, 0) else (zeroM, 8)
theorem toldM_no {r m : Bool} {e : Msg} (h : r = false ∨ m = false) : toldM (r && m) e = (zeroM, 8) := by
  unfold toldM
  rw [if_neg (by rcases h with h | h <;> simp [h])]
theorem toldM_yes {r m : Bool} {e : Msg} (h1 : r = true) (h2 : m = true) : toldM (r && m) e = (e, 0) := by
  unfold toldM
  rw [if_pos (by simp [h1, h2])]
def readM (b : List UInt8) : Msg × Int := toldM (rend (msgP (b, false)).2.1 (msgP (b, false)).2.2 && goodMsg (msgP (b, false)).1) (msgP (b, false)).1
theorem readM_of {b : List UInt8} {e : Msg × S} (h : msgP (b, false) = e) : readM b = toldM (rend e.2.1 e.2.2 && goodMsg e.1) e.1 := by subst h; rfl
theorem snapP_sizes (s : S) (h : s.1.length ≤ 100000) : (snapP s).1.data.length ≤ BIG ∧ (snapP s).1.conf.vot.length ≤ BIG ∧ (snapP s).1.conf.lea.length ≤ BIG := by
  have e2 : (getI (getI s).2).2.1.length ≤ s.1.length := Nat.le_trans (getI_len (getI s).2) (getI_len s)
  have hc := confP_sizes (getI (getI s).2).2
  have e3 := Nat.le_trans (confP_len (getI (getI s).2).2) e2
  have ht := Nat.le_trans (getT_size (confP (getI (getI s).2).2).2) e3
  refine ⟨big_of (m := s.1.length) ?_ h, le_big hc.1 e2 h, le_big hc.2 e2 h⟩
  show ((getT (confP (getI (getI s).2).2).2).1.data.toList).length ≤ s.1.length
  rw [Array.length_toList]
  exact ht
theorem snapP_len (s : S) : (snapP s).2.1.length ≤ s.1.length := Nat.le_trans (getT_len _) (Nat.le_trans (confP_len _) (Nat.le_trans (getI_len _) (getI_len _)))
end Go.Wk.Ent
namespace Go.Wk.Ent
open Cod
theorem entsP_len : ∀ (n : Nat) (s : S), (entsP n s).2.1.length ≤ s.1.length
  | 0, s => Nat.le_refl _
  | n + 1, s => by
    unfold entsP
    split
    · exact Nat.le_refl _
    · exact Nat.le_trans (entsP_len n _) (entP_len s)
theorem entsL_len (k : Int) (s : S) : (entsL k s).2.1.length ≤ s.1.length := Nat.le_trans (entsP_len _ _) (cnt_len _ _ _)
end Go.Wk.Ent
namespace Go.Wk.Ent
theorem emptyS_eq (s : Snap) : decide (s = ⟨0, 0, ⟨[], []⟩, []⟩) = emptyS s := by
  obtain ⟨i, t, ⟨v, l⟩, d⟩ := s
  unfold emptyS none
  rw [Bool.eq_iff_iff]
  simp
end Go.Wk.Ent
