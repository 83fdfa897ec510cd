/- Plain facts of the entries. -/
import Derived.Test.YtondhngfjngngaaEnt
set_option linter.unusedVariables false
set_option linter.unusedSimpArgs false
namespace Go.Wk
open Go Cod
namespace Cmd
theorem parse_bytesL {c : Cmd} (hw : whole c) (hs : c.key.size + c.old.size + c.val.size + c.til.size ≤ 100000) (r : List UInt8) : parse (bytes c ++ r) = (c, (r, false)) := by
  have e : bytes c ++ r = enc (zig c.kind) ++ (enc (zig c.sess) ++ (enc (zig c.seq) ++ (enc (zig c.lim) ++ (enc c.key.size ++ (c.key.data.toList ++ (enc c.old.size ++ (c.old.data.toList ++ (enc c.val.size ++ (c.val.data.toList ++ (enc c.til.size ++ (c.til.data.toList ++ r))))))))))) := by simp [bytes]
  rw [e]
  unfold parse
  simp only
  rw [getI_enc hw.1]
  simp only
  rw [getI_enc hw.2.1]
  simp only
  rw [getI_enc hw.2.2.1]
  simp only
  rw [getI_enc hw.2.2.2]
  simp only
  rw [getT_enc (by omega)]
  simp only
  rw [getT_enc (by omega)]
  simp only
  rw [getT_enc (by omega)]
  simp only
  rw [getT_enc (by omega)]
theorem read_bytesL {c : Cmd} (hw : whole c) (hs : c.key.size + c.old.size + c.val.size + c.til.size ≤ 100000) (hg : good c = true) : read (bytes c) = (c, 0) := by
  have h := parse_bytesL hw hs []
  rw [List.append_nil] at h
  exact read_good h rfl hg
end Cmd
namespace Ent
/-! ### Entries lead back -/
def rng (x : Int) : Prop := -9223372036854775808 ≤ x ∧ x ≤ 9223372036854775807
theorem nums_cons (x : Int) (l : List Int) : numsB (x :: l) = enc (zig x) ++ numsB l := by simp [numsB]
theorem numsP_enc : ∀ (l : List Int) (r : List UInt8), (∀ x ∈ l, rng x) → numsP l.length (numsB l ++ r, false) = (l, (r, false))
  | [], r, _ => by simp [numsB, numsP]
  | x :: l, r, h => by
    rw [nums_cons, List.append_assoc, List.length_cons]
    unfold numsP
    simp only [Bool.false_eq_true, if_false]
    rw [getI_enc (h x (List.mem_cons_self ..))]
    simp only
    rw [numsP_enc l r (fun y hy => h y (List.mem_cons_of_mem _ hy))]
theorem listP_enc {k : Int} {l : List Int} {r : List UInt8} (hk : (l.length : Int) ≤ k) (hl : l.length < 18446744073709551616) (h : ∀ x ∈ l, rng x) : listP k (listB l ++ r, false) = (l, (r, false)) := by
  have e : listB l ++ r = enc l.length ++ (numsB l ++ r) := by simp [listB]
  have h1 : getC k (listB l ++ r, false) = (l.length, (numsB l ++ r, false)) := by
    rw [e]
    have h2 := getN_enc hl (numsB l ++ r)
    unfold getN at h2
    simp only at h2
    unfold getC cnt
    simp only
    rw [h2, if_neg (by simp only; omega)]
  unfold listP
  rw [h1]
  exact numsP_enc l r h
theorem confP_enc {c : Conf} {r : List UInt8} (h1 : c.vot.length ≤ 100000) (h2 : c.lea.length ≤ 100000) (h3 : ∀ x ∈ c.vot, rng x) (h4 : ∀ x ∈ c.lea, rng x) : confP (confB c ++ r, false) = (c, (r, false)) := by
  have e : confB c ++ r = listB c.vot ++ (listB c.lea ++ r) := by simp [confB]
  have e1 : listP 1000000 (confB c ++ r, false) = (c.vot, (listB c.lea ++ r, false)) := by
    rw [e]
    exact listP_enc (by omega) (by omega) h3
  have e2 : listP 1000000 (listB c.lea ++ r, false) = (c.lea, (r, false)) := listP_enc (by omega) (by omega) h4
  exact confP_of e1 e2
theorem nums3 (a b c : Int) : numsB [a, b, c] = enc (zig a) ++ (enc (zig b) ++ enc (zig c)) := by simp [numsB]
theorem getI3 {a b c : Int} (ha : rng a) (hb : rng b) (hc : rng c) (r : List UInt8) : getI (numsB [a, b, c] ++ r, false) = (a, (enc (zig b) ++ (enc (zig c) ++ r), false)) ∧ getI (enc (zig b) ++ (enc (zig c) ++ r), false) = (b, (enc (zig c) ++ r, false)) ∧ getI (enc (zig c) ++ r, false) = (c, (r, false)) := by
  refine ⟨?_, getI_enc hb _, getI_enc hc _⟩
  rw [nums3, List.append_assoc, List.append_assoc]
  exact getI_enc ha _
def sane (e : Ent) : Prop := rng e.idx ∧ rng e.term ∧ rng e.kind ∧ Cmd.whole e.cmd ∧ e.cmd.key.size + e.cmd.old.size + e.cmd.val.size + e.cmd.til.size ≤ 100000 ∧ e.conf.vot.length ≤ 100000 ∧ e.conf.lea.length ≤ 100000 ∧ (∀ x ∈ e.conf.vot, rng x) ∧ (∀ x ∈ e.conf.lea, rng x)
theorem none_nil {c : Conf} (h : none c = true) : c = ⟨[], []⟩ := by
  obtain ⟨v, l⟩ := c
  unfold none at h
  simp only [decide_eq_true_eq] at h
  have h1 : v = [] := List.eq_nil_of_length_eq_zero (by omega)
  have h2 : l = [] := List.eq_nil_of_length_eq_zero (by omega)
  rw [h1, h2]
theorem entP_enc {e : Ent} (hs : sane e) (hg : good e = true) (r : List UInt8) : entP (entB e ++ r, false) = (e, (r, false)) := by
  obtain ⟨hi, ht, hk, hw, hz, hv, hl, hvr, hlr⟩ := hs
  obtain ⟨ix, te, ki, cmd, conf⟩ := e
  simp only at hi ht hk hw hz hv hl hvr hlr
  unfold good at hg
  simp only at hg
  by_cases h0 : ix < 1 ∨ te < 1
  · rw [if_pos h0] at hg; cases hg
  rw [if_neg h0] at hg
  unfold entB
  simp only
  by_cases h1 : ki = 1
  · rw [if_pos h1] at hg
    simp only [Bool.and_eq_true, decide_eq_true_eq] at hg
    rw [if_neg (by omega), if_neg (by omega), List.append_nil]
    obtain ⟨g1, g2, g3⟩ := getI3 hi ht hk r
    unfold entP
    simp only
    rw [g1]
    simp only
    rw [g2]
    simp only
    rw [g3]
    simp only
    rw [if_neg (by omega), if_neg (by omega), hg.1, none_nil hg.2]
  rw [if_neg h1] at hg
  by_cases h2 : ki = 2
  · rw [if_pos h2] at hg
    simp only [Bool.and_eq_true] at hg
    rw [if_pos h2]
    have ea : numsB [ix, te, ki] ++ (enc (Cmd.bytes cmd).length ++ Cmd.bytes cmd) ++ r = numsB [ix, te, ki] ++ (enc (Cmd.bytes cmd).length ++ (Cmd.bytes cmd ++ r)) := by simp
    rw [ea]
    obtain ⟨g1, g2, g3⟩ := getI3 hi ht hk (enc (Cmd.bytes cmd).length ++ (Cmd.bytes cmd ++ r))
    have hbl := Cmd.bytes_le (c := cmd)
    have g4 : getT (enc (Cmd.bytes cmd).length ++ (Cmd.bytes cmd ++ r), false) = (⟨(Cmd.bytes cmd).toArray⟩, (r, false)) := by
      have := getT_enc (s := ⟨(Cmd.bytes cmd).toArray⟩) (by rw [size_mk]; omega) r
      rw [size_mk] at this
      exact this
    unfold entP
    simp only
    rw [g1]
    simp only
    rw [g2]
    simp only
    rw [g3]
    simp only
    rw [if_pos h2, g4]
    simp only
    rw [Cmd.read_bytesL hw hz hg.2, none_nil hg.1]
    rfl
  rw [if_neg h2] at hg
  by_cases h3 : ki = 3
  · rw [if_pos h3] at hg
    simp only [Bool.and_eq_true, decide_eq_true_eq] at hg
    rw [if_neg h2, if_pos h3]
    have ea : numsB [ix, te, ki] ++ confB conf ++ r = numsB [ix, te, ki] ++ (confB conf ++ r) := by simp
    rw [ea]
    obtain ⟨g1, g2, g3⟩ := getI3 hi ht hk (confB conf ++ r)
    unfold entP
    simp only
    rw [g1]
    simp only
    rw [g2]
    simp only
    rw [g3]
    simp only
    rw [if_neg h2, if_pos h3, confP_enc hv hl hvr hlr, hg.1]
  · rw [if_neg h3] at hg
    cases hg
theorem rend_nil : rend [] false = true := rfl
theorem read_enc {e : Ent} (hs : sane e) (hg : good e = true) : read (entB e) = (e, 0) := by
  have h := entP_enc hs hg []
  rw [List.append_nil] at h
  exact (read_of h).trans (told_yes (rend_nil) hg)
theorem read_ok {b : List UInt8} (h : (read b).2 = 0) : good (read b).1 = true := by
  obtain ⟨e, he⟩ : ∃ e, entP (b, false) = e := ⟨_, rfl⟩
  rw [read_of he] at h ⊢
  by_cases h1 : rend e.2.1 e.2.2 = true
  · by_cases h2 : good e.1 = true
    · rw [told_yes h1 h2]
      exact h2
    · rw [told_no (.inr (by simpa using h2))] at h
      exact absurd h (by decide)
  · rw [told_no (.inl (by simpa using h1))] at h
    exact absurd h (by decide)
theorem hardP_enc {h : Hard} (h1 : rng h.term) (h2 : rng h.vote) (h3 : rng h.commit) : hardP (hardB h, false) = (h, ([], false)) := by
  obtain ⟨g1, g2, g3⟩ := getI3 h1 h2 h3 []
  rw [List.append_nil] at g1
  unfold hardP hardB
  simp only
  rw [g1]
  simp only
  rw [g2]
  simp only
  rw [g3]
theorem readH_enc {h : Hard} (h1 : rng h.term) (h2 : rng h.vote) (h3 : rng h.commit) : readH (hardB h) = if goodH h then (h, 0) else (zeroH, 8) := by
  rw [readH_of (hardP_enc h1 h2 h3)]
  by_cases hg : goodH h = true
  · rw [if_pos hg]
    exact toldH_yes rfl hg
  · rw [if_neg hg]
    exact toldH_no (.inr (by simpa using hg))
theorem snapP_enc {s : Snap} (h1 : rng s.idx) (h2 : rng s.term) (hv : s.conf.vot.length ≤ 100000) (hl : s.conf.lea.length ≤ 100000) (hvr : ∀ x ∈ s.conf.vot, rng x) (hlr : ∀ x ∈ s.conf.lea, rng x) (hd : s.data.length ≤ 100000) (r : List UInt8) : snapP (snapB s ++ r, false) = (s, (r, false)) := by
  have e : snapB s ++ r = enc (zig s.idx) ++ (enc (zig s.term) ++ (confB s.conf ++ (enc s.data.length ++ (s.data ++ r)))) := by simp [snapB, numsB]
  have g4 : getT (enc s.data.length ++ (s.data ++ r), false) = (⟨s.data.toArray⟩, (r, false)) := by
    have := getT_enc (s := ⟨s.data.toArray⟩) (by rw [size_mk]; omega) r
    rw [size_mk] at this
    exact this
  rw [e]
  unfold snapP
  simp only
  rw [getI_enc h1]
  simp only
  rw [getI_enc h2]
  simp only
  rw [confP_enc hv hl hvr hlr]
  simp only
  rw [g4]
theorem readS_enc {s : Snap} (h1 : rng s.idx) (h2 : rng s.term) (hv : s.conf.vot.length ≤ 100000) (hl : s.conf.lea.length ≤ 100000) (hvr : ∀ x ∈ s.conf.vot, rng x) (hlr : ∀ x ∈ s.conf.lea, rng x) (hd : s.data.length ≤ 100000) : readS (snapB s) = if goodSnap s then (s, 0) else (zeroS, 8) := by
  have h := snapP_enc h1 h2 hv hl hvr hlr hd []
  rw [List.append_nil] at h
  rw [readS_of h]
  by_cases hg : goodSnap s = true
  · rw [if_pos hg]
    exact toldS_yes rfl hg
  · rw [if_neg hg]
    exact toldS_no (.inr (by simpa using hg))
theorem rowRep_rng {ok : Nat → Prop} {w : World} : ∀ {l : List Int} {vals : List Value}, rowRep kInt ok w l vals → ∀ x ∈ l, rng x
  | [], _, _, x, hx => nomatch hx
  | y :: l, _, hr, x, hx => by
    obtain ⟨cs', rest, rfl, h1, h2⟩ := hr
    rcases List.mem_cons.1 hx with rfl | hx
    · exact h1.2
    · exact rowRep_rng h2 x hx
theorem rows_rng {ok : Nat → Prop} {w : World} {l : List Int} {cs : List Value} (h : kInt.sl.rep ok w l cs) : ∀ x ∈ l, rng x := by
  obtain ⟨a, c, _, _, _, _, hp⟩ := h
  intro x hx
  obtain ⟨b, o, vals, _, _, hr, _⟩ := hp (List.length_pos_of_mem hx)
  exact rowRep_rng hr x hx
end Ent
end Go.Wk
namespace Go.Wk.Ent
open Cod
theorem ent_len {e : Ent} (hz : e.cmd.key.size + e.cmd.old.size + e.cmd.val.size + e.cmd.til.size ≤ 9000) (h : e.conf.vot.length + e.conf.lea.length ≤ 1000) : (entB e).length ≤ 20000 := by
  have h1 := nums_len [e.idx, e.term, e.kind]
  have h2 := Cmd.bytes_le (c := e.cmd)
  have h3 := conf_len e.conf
  have h4 := Cod.enc_le9 (Cmd.bytes e.cmd).length
  simp only [List.length_cons, List.length_nil] at h1
  unfold entB
  rw [List.length_append]
  split
  · rw [List.length_append]; omega
  · split
    · omega
    · simp only [List.length_nil]; omega
theorem hard_len (h : Hard) : (hardB h).length ≤ 27 := by
  have := nums_len [h.term, h.vote, h.commit]
  unfold hardB
  simpa using this
theorem snap_len {s : Snap} (h : s.conf.vot.length + s.conf.lea.length ≤ 1000) (hd : s.data.length ≤ 30000) : (snapB s).length ≤ 50000 := by
  have h1 := nums_len [s.idx, s.term]
  have h3 := conf_len s.conf
  have h4 := Cod.enc_le9 s.data.length
  simp only [List.length_cons, List.length_nil] at h1
  unfold snapB
  simp only [List.length_append]
  omega
end Go.Wk.Ent
namespace Go.Wk.Ent
open Cod
theorem read_sizes {b : List UInt8} (h : b.length ≤ 100000) : (read b).1.conf.vot.length ≤ BIG ∧ (read b).1.conf.lea.length ≤ BIG := by
  have h8 := entP_sizes (b, false) h
  obtain ⟨e, he⟩ : ∃ e, entP (b, false) = e := ⟨_, rfl⟩
  rw [he] at h8
  rw [read_of he]
  by_cases h1 : (rend e.2.1 e.2.2 && good e.1) = true
  · have : told (rend e.2.1 e.2.2 && good e.1) e.1 = (e.1, 0) := by unfold told; rw [if_pos h1]
    rw [this]
    exact h8
  · have : told (rend e.2.1 e.2.2 && good e.1) e.1 = (zero, 8) := by unfold told; rw [if_neg h1]
    rw [this]
    exact ⟨Nat.zero_le _, Nat.zero_le _⟩
end Go.Wk.Ent
