/- Plain facts of the entries. -/
import Derived.Test.YtondhngfjngngaaEnt3
set_option linter.unusedVariables false
set_option linter.unusedSimpArgs false
namespace Go.Wk
open Go Cod
namespace Cod
/-! ### What was read stays as it was read, whatever stands behind it -/
theorem dec_more {b t : List UInt8} (h : (dec b).2 ≠ 0) : dec (b ++ t) = dec b := by
  cases b with
  | nil => exact absurd rfl h
  | cons x r =>
    rw [dec_cons] at h
    rw [List.cons_append, dec_cons, dec_cons]
    split at h
    · exact absurd rfl h
    · rename_i hl
      rw [if_neg hl, if_neg (by rw [List.length_append]; omega), List.take_append_of_le_length (by omega)]
theorem decT_more {b t : List UInt8} (h : (decT b).2 ≠ 0) : decT (b ++ t) = decT b := by
  unfold decT at h
  split at h
  · exact absurd rfl h
  · rename_i hc
    have h1 : (dec b).2 ≠ 0 := fun e => hc (.inl e)
    have h2 : ¬ b.length - (dec b).2 < (dec b).1 := fun e => hc (.inr e)
    have hl := dec_len b
    unfold decT
    rw [dec_more h1, if_neg hc, if_neg (by rw [List.length_append]; rintro (e | e) <;> omega), List.take_append_of_le_length (by omega)]
theorem decB_more {b t : List UInt8} (h : (decB b).2 ≠ 0) : decB (b ++ t) = decB b := by
  cases b with
  | nil => exact absurd rfl h
  | cons x r => rfl
def St {α : Type} (p : S → α × S) : Prop := (∀ b, (p (b, true)).2.2 = true) ∧ ∀ b y r, p (b, false) = (y, (r, false)) → ∀ t, p (b ++ t, false) = (y, (r ++ t, false))
theorem rd_st {α : Type} {z : α} {d : List UInt8 → α × Nat} (hd : ∀ b t, (d b).2 ≠ 0 → d (b ++ t) = d b) (hl : ∀ b, (d b).2 ≤ b.length) : St (fun s => rd z (d s.1) s.1 s.2) := by
  refine ⟨fun b => by dsimp only; rw [rd_wrong], fun b y r h t => ?_⟩
  dsimp only at h ⊢
  by_cases h0 : (d b).2 = 0
  · rw [rd_bad (.inr h0)] at h
    exact absurd (congrArg (fun p => p.2.2) h) (by simp)
  · rw [rd_good rfl h0] at h
    have e1 : (d b).1 = y := congrArg (fun p => p.1) h
    have e2 : b.drop (d b).2 = r := congrArg (fun p => p.2.1) h
    rw [hd b t h0, rd_good rfl h0, e1, List.drop_append_of_le_length (hl b), e2]
theorem getN_st : St getN := rd_st (d := dec) (fun _ _ h => dec_more h) dec_len
theorem getB_st : St getB := rd_st (d := decB) (fun _ _ h => decB_more h) decB_len
theorem map_st {α β : Type} {p : S → α × S} (f : α → β) (h : St p) : St (fun s => (f (p s).1, (p s).2)) := by
  refine ⟨fun b => h.1 b, fun b y r e t => ?_⟩
  dsimp only at e ⊢
  have e2 : (p (b, false)).2 = (r, false) := congrArg Prod.snd e
  have e1 : f (p (b, false)).1 = y := congrArg Prod.fst e
  rw [h.2 b (p (b, false)).1 r (by rw [← e2]) t, e1]
theorem getI_st : St getI := map_st zag getN_st
theorem getT_st : St getT := map_st (fun l : List UInt8 => (⟨l.toArray⟩ : ByteArray)) (rd_st (z := []) (d := decT) (fun _ _ h => decT_more h) decT_len)
theorem bind_st {α β : Type} {p : S → α × S} {q : α → S → β × S} (hp : St p) (hq : ∀ a, St (q a)) : St (fun s => q (p s).1 (p s).2) := by
  refine ⟨fun b => ?_, fun b y r e t => ?_⟩
  · dsimp only
    have := hp.1 b
    obtain ⟨⟨a, b', w'⟩, hpb⟩ : ∃ x, p (b, true) = x := ⟨_, rfl⟩
    rw [hpb] at this ⊢
    dsimp only at this
    subst this
    exact (hq a).1 b'
  · dsimp only at e ⊢
    obtain ⟨⟨a, b', w'⟩, hpb⟩ : ∃ x, p (b, false) = x := ⟨_, rfl⟩
    rw [hpb] at e
    dsimp only at e
    cases w' with
    | true =>
      have := (hq a).1 b'
      rw [e] at this
      cases this
    | false =>
      rw [hp.2 b a b' hpb t]
      exact (hq a).2 b' y r e t
theorem ret_st {α : Type} (a : α) : St (fun s => (a, s)) := ⟨fun _ => rfl, fun b y r e t => by
  have e1 : a = y := congrArg (fun p => p.1) e
  have e2 : b = r := congrArg (fun p => p.2.1) e
  rw [e1, e2]⟩
theorem fail_st {α : Type} (a : α) : St (fun _ => (a, (([] : List UInt8), true))) := ⟨fun _ => rfl, fun b y r e t => absurd (congrArg (fun p => p.2.2) e) (by simp)⟩
theorem ite_st {α : Type} {c : Prop} [Decidable c] {p q : S → α × S} (hp : St p) (hq : St q) : St (fun s => if c then p s else q s) := by
  by_cases h : c
  · simpa [h] using hp
  · simpa [h] using hq
theorem getC_st (k : Int) : St (getC k) := by
  have : getC k = fun s => (fun (u : Nat) (s' : S) => if k < 0 ∨ k < (u : Int) then ((0 : Nat), (([] : List UInt8), true)) else (u, s')) (getN s).1 (getN s).2 := by
    funext s
    unfold getC cnt getN
    rfl
  rw [this]
  exact bind_st (q := fun (u : Nat) (s' : S) => if k < 0 ∨ k < (u : Int) then ((0 : Nat), (([] : List UInt8), true)) else (u, s')) getN_st fun u => ite_st (c := k < 0 ∨ k < (u : Int)) (fail_st 0) (ret_st u)
end Cod
namespace Ent
theorem many_st {α : Type} {p : S → α × S} (hp : St p) {f : Nat → S → List α × S} (f0 : ∀ s, f 0 s = ([], s)) (f1 : ∀ n s, f (n + 1) s = if s.2 = true then ([], s) else ((p s).1 :: (f n (p s).2).1, (f n (p s).2).2)) : ∀ n, St (f n)
  | 0 => by
    have : f 0 = fun s => ([], s) := funext f0
    rw [this]
    exact ret_st []
  | n + 1 => by
    have ih := many_st hp f0 f1 n
    have hb : St (fun s => ((p s).1 :: (f n (p s).2).1, (f n (p s).2).2)) := bind_st hp (q := fun a s => (a :: (f n s).1, (f n s).2)) fun a => map_st (fun l => a :: l) ih
    refine ⟨fun b => by rw [f1, if_pos rfl], fun b y r e t => ?_⟩
    rw [f1, if_neg (by simp)] at e ⊢
    exact hb.2 b y r e t
theorem numsP_st : ∀ n, St (numsP n) := many_st getI_st (fun _ => rfl) (fun _ _ => rfl)
theorem listP_st (k : Int) : St (listP k) := bind_st (getC_st k) (q := numsP) numsP_st
theorem confP_st : St confP := by
  have h := bind_st (listP_st 1000000) (q := fun v s => ((⟨v, (listP 1000000 s).1⟩ : Conf), (listP 1000000 s).2)) fun v => map_st (fun l => (⟨v, l⟩ : Conf)) (listP_st 1000000)
  exact h
end Ent
end Go.Wk
namespace Go.Wk.Ent
open Cod
theorem ifs_st {α : Type} {c : Prop} [Decidable c] (a : α) : St (fun s : S => (a, if c then s else (([] : List UInt8), true))) := by
  by_cases h : c
  · simpa [h] using ret_st a
  · simpa [h] using fail_st a
theorem entT_st (i t k : Int) : St (fun s => if k = 2 then ((⟨i, t, k, (Cmd.read (getT s).1.data.toList).1, ⟨[], []⟩⟩ : Ent), if (Cmd.read (getT s).1.data.toList).2 = 0 then (getT s).2 else (([] : List UInt8), true)) else if k = 3 then ((⟨i, t, k, Cmd.zero, (confP s).1⟩ : Ent), (confP s).2) else ((⟨i, t, k, Cmd.zero, ⟨[], []⟩⟩ : Ent), s)) := by
  refine ite_st ?_ (ite_st ?_ (ret_st _))
  · exact bind_st (q := fun (x : ByteArray) s => ((⟨i, t, k, (Cmd.read x.data.toList).1, ⟨[], []⟩⟩ : Ent), if (Cmd.read x.data.toList).2 = 0 then s else (([] : List UInt8), true))) getT_st fun x => ifs_st _
  · exact map_st (fun c => (⟨i, t, k, Cmd.zero, c⟩ : Ent)) confP_st
theorem entP_stable : St entP :=
  bind_st (q := fun i s => (fun t s => (fun k s => if k = 2 then ((⟨i, t, k, (Cmd.read (getT s).1.data.toList).1, ⟨[], []⟩⟩ : Ent), if (Cmd.read (getT s).1.data.toList).2 = 0 then (getT s).2 else (([] : List UInt8), true)) else if k = 3 then ((⟨i, t, k, Cmd.zero, (confP s).1⟩ : Ent), (confP s).2) else ((⟨i, t, k, Cmd.zero, ⟨[], []⟩⟩ : Ent), s)) (getI s).1 (getI s).2) (getI s).1 (getI s).2) getI_st fun i =>
  bind_st (q := fun t s => (fun k s => if k = 2 then ((⟨i, t, k, (Cmd.read (getT s).1.data.toList).1, ⟨[], []⟩⟩ : Ent), if (Cmd.read (getT s).1.data.toList).2 = 0 then (getT s).2 else (([] : List UInt8), true)) else if k = 3 then ((⟨i, t, k, Cmd.zero, (confP s).1⟩ : Ent), (confP s).2) else ((⟨i, t, k, Cmd.zero, ⟨[], []⟩⟩ : Ent), s)) (getI s).1 (getI s).2) getI_st fun t =>
  bind_st (q := fun k s => if k = 2 then ((⟨i, t, k, (Cmd.read (getT s).1.data.toList).1, ⟨[], []⟩⟩ : Ent), if (Cmd.read (getT s).1.data.toList).2 = 0 then (getT s).2 else (([] : List UInt8), true)) else if k = 3 then ((⟨i, t, k, Cmd.zero, (confP s).1⟩ : Ent), (confP s).2) else ((⟨i, t, k, Cmd.zero, ⟨[], []⟩⟩ : Ent), s)) getI_st fun k => entT_st i t k
theorem entsP_stable : ∀ n, St (entsP n) := many_st entP_stable (fun _ => rfl) (fun _ _ => rfl)
theorem entsL_st (k : Int) : St (entsL k) := bind_st (getC_st k) (q := entsP) entsP_stable
theorem snapP_st : St snapP :=
  bind_st (q := fun i s => (fun t s => (fun c s => ((⟨i, t, c, (getT s).1.data.toList⟩ : Snap), (getT s).2)) (confP s).1 (confP s).2) (getI s).1 (getI s).2) getI_st fun i =>
  bind_st (q := fun t s => (fun c s => ((⟨i, t, c, (getT s).1.data.toList⟩ : Snap), (getT s).2)) (confP s).1 (confP s).2) getI_st fun t =>
  bind_st (q := fun c s => ((⟨i, t, c, (getT s).1.data.toList⟩ : Snap), (getT s).2)) confP_st fun c => map_st (fun x : ByteArray => (⟨i, t, c, x.data.toList⟩ : Snap)) getT_st
end Go.Wk.Ent
namespace Go.Wk.Ent
open Cod
def msgQ10 (k1 : Int) (k2 : Int) (k3 : Int) (k4 : Int) (k5 : Int) (k6 : Int) (k7 : Int) (k8 : Int) (k9 : Bool) (k10 : Int) (s : S) : Msg × S := if k1 = 5 then ((⟨k1, k2, k3, k4, k5, k6, k7, k8, k9, k10, (entsL 16 s).1, ⟨0, 0, ⟨[], []⟩, []⟩⟩ : Msg), (entsL 16 s).2) else if k1 = 7 then ((⟨k1, k2, k3, k4, k5, k6, k7, k8, k9, k10, [], (snapP s).1⟩ : Msg), (snapP s).2) else ((⟨k1, k2, k3, k4, k5, k6, k7, k8, k9, k10, [], ⟨0, 0, ⟨[], []⟩, []⟩⟩ : Msg), s)
def msgQ9 (k1 : Int) (k2 : Int) (k3 : Int) (k4 : Int) (k5 : Int) (k6 : Int) (k7 : Int) (k8 : Int) (k9 : Bool) (s : S) : Msg × S := msgQ10 k1 k2 k3 k4 k5 k6 k7 k8 k9 (getI s).1 (getI s).2
def msgQ8 (k1 : Int) (k2 : Int) (k3 : Int) (k4 : Int) (k5 : Int) (k6 : Int) (k7 : Int) (k8 : Int) (s : S) : Msg × S := msgQ9 k1 k2 k3 k4 k5 k6 k7 k8 (getB s).1 (getB s).2
def msgQ7 (k1 : Int) (k2 : Int) (k3 : Int) (k4 : Int) (k5 : Int) (k6 : Int) (k7 : Int) (s : S) : Msg × S := msgQ8 k1 k2 k3 k4 k5 k6 k7 (getI s).1 (getI s).2
def msgQ6 (k1 : Int) (k2 : Int) (k3 : Int) (k4 : Int) (k5 : Int) (k6 : Int) (s : S) : Msg × S := msgQ7 k1 k2 k3 k4 k5 k6 (getI s).1 (getI s).2
def msgQ5 (k1 : Int) (k2 : Int) (k3 : Int) (k4 : Int) (k5 : Int) (s : S) : Msg × S := msgQ6 k1 k2 k3 k4 k5 (getI s).1 (getI s).2
def msgQ4 (k1 : Int) (k2 : Int) (k3 : Int) (k4 : Int) (s : S) : Msg × S := msgQ5 k1 k2 k3 k4 (getI s).1 (getI s).2
def msgQ3 (k1 : Int) (k2 : Int) (k3 : Int) (s : S) : Msg × S := msgQ4 k1 k2 k3 (getI s).1 (getI s).2
def msgQ2 (k1 : Int) (k2 : Int) (s : S) : Msg × S := msgQ3 k1 k2 (getI s).1 (getI s).2
def msgQ1 (k1 : Int) (s : S) : Msg × S := msgQ2 k1 (getI s).1 (getI s).2
def msgQ0  (s : S) : Msg × S := msgQ1  (getI s).1 (getI s).2
theorem msgQ (s : S) : msgP s = msgQ0 s := rfl
theorem msgQ10_st (k1 : Int) (k2 : Int) (k3 : Int) (k4 : Int) (k5 : Int) (k6 : Int) (k7 : Int) (k8 : Int) (k9 : Bool) (k10 : Int) : St (msgQ10 k1 k2 k3 k4 k5 k6 k7 k8 k9 k10) := ite_st (map_st (fun l => (⟨k1, k2, k3, k4, k5, k6, k7, k8, k9, k10, l, ⟨0, 0, ⟨[], []⟩, []⟩⟩ : Msg)) (entsL_st 16)) (ite_st (map_st (fun c => (⟨k1, k2, k3, k4, k5, k6, k7, k8, k9, k10, [], c⟩ : Msg)) snapP_st) (ret_st _))
theorem msgQ9_st (k1 : Int) (k2 : Int) (k3 : Int) (k4 : Int) (k5 : Int) (k6 : Int) (k7 : Int) (k8 : Int) (k9 : Bool) : St (msgQ9 k1 k2 k3 k4 k5 k6 k7 k8 k9) := bind_st (q := fun x => msgQ10 k1 k2 k3 k4 k5 k6 k7 k8 k9 x) getI_st fun x => msgQ10_st k1 k2 k3 k4 k5 k6 k7 k8 k9 x
theorem msgQ8_st (k1 : Int) (k2 : Int) (k3 : Int) (k4 : Int) (k5 : Int) (k6 : Int) (k7 : Int) (k8 : Int) : St (msgQ8 k1 k2 k3 k4 k5 k6 k7 k8) := bind_st (q := fun x => msgQ9 k1 k2 k3 k4 k5 k6 k7 k8 x) getB_st fun x => msgQ9_st k1 k2 k3 k4 k5 k6 k7 k8 x
theorem msgQ7_st (k1 : Int) (k2 : Int) (k3 : Int) (k4 : Int) (k5 : Int) (k6 : Int) (k7 : Int) : St (msgQ7 k1 k2 k3 k4 k5 k6 k7) := bind_st (q := fun x => msgQ8 k1 k2 k3 k4 k5 k6 k7 x) getI_st fun x => msgQ8_st k1 k2 k3 k4 k5 k6 k7 x
theorem msgQ6_st (k1 : Int) (k2 : Int) (k3 : Int) (k4 : Int) (k5 : Int) (k6 : Int) : St (msgQ6 k1 k2 k3 k4 k5 k6) := bind_st (q := fun x => msgQ7 k1 k2 k3 k4 k5 k6 x) getI_st fun x => msgQ7_st k1 k2 k3 k4 k5 k6 x
theorem msgQ5_st (k1 : Int) (k2 : Int) (k3 : Int) (k4 : Int) (k5 : Int) : St (msgQ5 k1 k2 k3 k4 k5) := bind_st (q := fun x => msgQ6 k1 k2 k3 k4 k5 x) getI_st fun x => msgQ6_st k1 k2 k3 k4 k5 x
theorem msgQ4_st (k1 : Int) (k2 : Int) (k3 : Int) (k4 : Int) : St (msgQ4 k1 k2 k3 k4) := bind_st (q := fun x => msgQ5 k1 k2 k3 k4 x) getI_st fun x => msgQ5_st k1 k2 k3 k4 x
theorem msgQ3_st (k1 : Int) (k2 : Int) (k3 : Int) : St (msgQ3 k1 k2 k3) := bind_st (q := fun x => msgQ4 k1 k2 k3 x) getI_st fun x => msgQ4_st k1 k2 k3 x
theorem msgQ2_st (k1 : Int) (k2 : Int) : St (msgQ2 k1 k2) := bind_st (q := fun x => msgQ3 k1 k2 x) getI_st fun x => msgQ3_st k1 k2 x
theorem msgQ1_st (k1 : Int) : St (msgQ1 k1) := bind_st (q := fun x => msgQ2 k1 x) getI_st fun x => msgQ2_st k1 x
theorem msgQ0_st  : St (msgQ0 ) := bind_st (q := fun x => msgQ1  x) getI_st fun x => msgQ1_st  x
theorem msgP_st : St msgP := by
  rw [show msgP = msgQ0 from funext msgQ]
  exact msgQ0_st
end Go.Wk.Ent
namespace Go.Wk.Ent
open Cod
theorem empty_nil {s : Snap} (h : emptyS s = true) : s = ⟨0, 0, ⟨[], []⟩, []⟩ := by
  obtain ⟨i, t, c, d⟩ := s
  unfold emptyS at h
  simp only [Bool.and_eq_true, decide_eq_true_eq] at h
  rw [h.1, h.2.1, none_nil h.2.2.1, List.eq_nil_of_length_eq_zero h.2.2.2]
theorem okEnts_good {ix te : Int} : ∀ {l : List Ent} {i : Int}, okEnts ix te i l = true → ∀ e ∈ l, good e = true
  | [], _, _, e, he => nomatch he
  | x :: l, i, h, e, he => by
    unfold okEnts at h
    simp only [Bool.and_eq_true] at h
    rcases List.mem_cons.1 he with rfl | he
    · exact h.1
    · exact okEnts_good h.2.2.2 e he
def wholes (l : List Ent) : Prop := ∀ e ∈ l, sane e
theorem entsP_enc : ∀ (l : List Ent) (r : List UInt8), wholes l → (∀ e ∈ l, good e = true) → entsP l.length (entsB l ++ r, false) = (l, (r, false))
  | [], r, _, _ => by simp [entsB, entsP]
  | x :: l, r, h, g => by
    have e : entsB (x :: l) ++ r = entB x ++ (entsB l ++ r) := by simp [entsB]
    rw [e, List.length_cons]
    unfold entsP
    simp only [Bool.false_eq_true, if_false]
    rw [entP_enc (h x (List.mem_cons_self ..)) (g x (List.mem_cons_self ..))]
    simp only
    rw [entsP_enc l r (fun y hy => h y (List.mem_cons_of_mem _ hy)) (fun y hy => g y (List.mem_cons_of_mem _ hy))]
theorem entsL_enc {k : Int} {l : List Ent} {r : List UInt8} (hk : (l.length : Int) ≤ k) (hl : l.length < 18446744073709551616) (h : wholes l) (g : ∀ e ∈ l, good e = true) : entsL k (enc l.length ++ (entsB l ++ r), false) = (l, (r, false)) := by
  have h1 : getC k (enc l.length ++ (entsB l ++ r), false) = (l.length, (entsB l ++ r, false)) := by
    have h2 := getN_enc hl (entsB l ++ r)
    unfold getN at h2
    simp only at h2
    unfold getC cnt
    simp only
    rw [h2, if_neg (by simp only; omega)]
  unfold entsL
  rw [h1]
  exact entsP_enc l r h g
theorem nums8 (a b c d e f g h : Int) (r : List UInt8) : numsB [a, b, c, d, e, f, g, h] ++ r = enc (zig a) ++ (enc (zig b) ++ (enc (zig c) ++ (enc (zig d) ++ (enc (zig e) ++ (enc (zig f) ++ (enc (zig g) ++ (enc (zig h) ++ r))))))) := by simp [numsB]
def saneM (m : Msg) : Prop := (rng m.kind ∧ rng m.frm ∧ rng m.to ∧ rng m.term ∧ rng m.idx ∧ rng m.lterm ∧ rng m.commit ∧ rng m.round ∧ rng m.hint) ∧ wholes m.ents ∧ rng m.snap.idx ∧ rng m.snap.term ∧ m.snap.conf.vot.length ≤ 100000 ∧ m.snap.conf.lea.length ≤ 100000 ∧ (∀ x ∈ m.snap.conf.vot, rng x) ∧ (∀ x ∈ m.snap.conf.lea, rng x) ∧ m.snap.data.length ≤ 100000
theorem msgQ_enc {k1 k2 k3 k4 k5 k6 k7 k8 k10 : Int} {k9 : Bool} (h : rng k1 ∧ rng k2 ∧ rng k3 ∧ rng k4 ∧ rng k5 ∧ rng k6 ∧ rng k7 ∧ rng k8 ∧ rng k10) (r : List UInt8) : msgP (numsB [k1, k2, k3, k4, k5, k6, k7, k8] ++ ((if k9 then 84 else 70) :: (enc (zig k10) ++ r)), false) = msgQ10 k1 k2 k3 k4 k5 k6 k7 k8 k9 k10 (r, false) := by
  obtain ⟨h1, h2, h3, h4, h5, h6, h7, h8, h10⟩ := h
  rw [msgQ, nums8]
  unfold msgQ0
  rw [getI_enc h1]
  simp only
  unfold msgQ1
  rw [getI_enc h2]
  simp only
  unfold msgQ2
  rw [getI_enc h3]
  simp only
  unfold msgQ3
  rw [getI_enc h4]
  simp only
  unfold msgQ4
  rw [getI_enc h5]
  simp only
  unfold msgQ5
  rw [getI_enc h6]
  simp only
  unfold msgQ6
  rw [getI_enc h7]
  simp only
  unfold msgQ7
  rw [getI_enc h8]
  simp only
  unfold msgQ8
  rw [getB_enc]
  simp only
  unfold msgQ9
  rw [getI_enc h10]
theorem goodMsg_parts {m : Msg} (h : goodMsg m = true) : m.ents.length ≤ 16 ∧ (m.ents.length > 0 → m.kind = 5) ∧ (∀ e ∈ m.ents, good e = true) ∧ (if m.kind = 7 then goodSnap m.snap else emptyS m.snap) = true := by
  unfold goodMsg at h
  split at h
  · cases h
  · rename_i hD
    rw [Bool.and_eq_true] at h
    refine ⟨by omega, fun h0 => Decidable.byContradiction fun hk => hD (by omega), okEnts_good h.1, h.2⟩
theorem msgP_enc {m : Msg} (hs : saneM m) (hg : goodMsg m = true) (r : List UInt8) : msgP (msgB m ++ r, false) = (m, (r, false)) := by
  obtain ⟨hr, hw, hi, ht, hv, hl, hvr, hlr, hd⟩ := hs
  obtain ⟨g1, g2, g3, g4⟩ := goodMsg_parts hg
  obtain ⟨k1, k2, k3, k4, k5, k6, k7, k8, k9, k10, es, sn⟩ := m
  simp only at hr hw hi ht hv hl hvr hlr hd g1 g2 g3 g4
  have e : msgB ⟨k1, k2, k3, k4, k5, k6, k7, k8, k9, k10, es, sn⟩ ++ r = numsB [k1, k2, k3, k4, k5, k6, k7, k8] ++ ((if k9 then 84 else 70) :: (enc (zig k10) ++ ((if k1 = 5 then enc es.length ++ entsB es else if k1 = 7 then snapB sn else []) ++ r))) := by
    simp [msgB, numsB]
  rw [e, msgQ_enc hr]
  unfold msgQ10
  by_cases h5 : k1 = 5
  · rw [if_pos h5, if_pos h5, List.append_assoc, entsL_enc (by omega) (by omega) hw g3]
    rw [if_neg (by omega)] at g4
    rw [empty_nil g4]
  · have hes : es = [] := List.eq_nil_of_length_eq_zero (by
      by_cases h0 : es.length > 0
      · exact absurd (g2 h0) h5
      · omega)
    rw [if_neg h5, if_neg h5, hes]
    by_cases h7 : k1 = 7
    · rw [if_pos h7, if_pos h7, snapP_enc hi ht hv hl hvr hlr hd]
    · rw [if_neg h7, if_neg h7]
      rw [if_neg h7] at g4
      rw [empty_nil g4]
      rfl
theorem readM_enc {m : Msg} (hs : saneM m) (hg : goodMsg m = true) : readM (msgB m) = (m, 0) := by
  have h := msgP_enc hs hg []
  rw [List.append_nil] at h
  exact (readM_of h).trans (toldM_yes rend_nil hg)
theorem rend_more (x : UInt8) : rend [x] false = false := rfl
theorem readM_more {m : Msg} (hs : saneM m) (hg : goodMsg m = true) : readM (msgB m ++ [0]) = (zeroM, 8) := (readM_of (msgP_enc hs hg [0])).trans (toldM_no (.inl (rend_more 0)))
theorem readM_ok {b : List UInt8} (h : (readM b).2 = 0) : goodMsg (readM b).1 = true := by
  obtain ⟨e, he⟩ : ∃ e, msgP (b, false) = e := ⟨_, rfl⟩
  rw [readM_of he] at h ⊢
  by_cases h1 : rend e.2.1 e.2.2 = true
  · by_cases h2 : goodMsg e.1 = true
    · rw [toldM_yes h1 h2]
      exact h2
    · rw [toldM_no (.inr (by simpa using h2))] at h
      exact absurd h (by decide)
  · rw [toldM_no (.inl (by simpa using h1))] at h
    exact absurd h (by decide)
theorem readM_cut {m : Msg} (hs : saneM m) (hg : goodMsg m = true) {n : Nat} (hn : n < (msgB m).length) : readM ((msgB m).take n) = (zeroM, 8) := by
  obtain ⟨⟨y, b', w'⟩, he⟩ : ∃ e, msgP ((msgB m).take n, false) = e := ⟨_, rfl⟩
  refine (readM_of he).trans (toldM_no (.inl ?_))
  by_cases h1 : rend b' w' = true
  · exfalso
    have hw' : w' = false := by
      cases w'
      · rfl
      · simp [rend] at h1
    subst hw'
    have hb : b' = [] := List.eq_nil_of_length_eq_zero (by simpa [rend] using h1)
    subst hb
    have h2 := msgP_st.2 _ y [] he ((msgB m).drop n)
    rw [List.take_append_drop] at h2
    have h3 := msgP_enc hs hg []
    rw [List.append_nil, h2] at h3
    have h4 : [] ++ (msgB m).drop n = [] := congrArg (fun p => p.2.1) h3
    have h5 := congrArg List.length h4
    simp at h5
    omega
  · simpa using h1
theorem msg_len {m : Msg} (h : few m.ents m.snap = true) : (msgB m).length ≤ 90000 ∧ 10 ≤ (msgB m).length := by
  have hp := few_parts h
  have h8 := nums_len [m.kind, m.frm, m.to, m.term, m.idx, m.lterm, m.commit, m.round]
  have h1 := nums_len [m.hint]
  have he := entsB_weight m.ents
  have hc := Cod.enc_le9 m.ents.length
  have hs := nums_len [m.snap.idx, m.snap.term]
  have hcf := conf_len m.snap.conf
  have hdl := Cod.enc_le9 m.snap.data.length
  have hf := wsum_nonneg m.ents
  have a1 := Cod.enc_length (zig m.kind)
  have a2 := Cod.enc_length (zig m.frm)
  have a3 := Cod.enc_length (zig m.to)
  have a4 := Cod.enc_length (zig m.term)
  have a5 := Cod.enc_length (zig m.idx)
  have a6 := Cod.enc_length (zig m.lterm)
  have a7 := Cod.enc_length (zig m.commit)
  have a8 := Cod.enc_length (zig m.round)
  have a9 := Cod.enc_length (zig m.hint)
  have hge : 10 ≤ (msgB m).length := by
    unfold msgB
    simp only [numsB, List.length_append, List.flatMap_cons, List.flatMap_nil, List.length_cons, List.length_nil]
    omega
  refine ⟨?_, hge⟩
  simp only [List.length_cons, List.length_nil] at h8 h1 hs
  unfold few fewS at h
  rw [decide_eq_true_eq] at h
  unfold msgB
  simp only [List.length_append, List.length_cons, List.length_nil]
  split
  · simp only [List.length_append]; omega
  · split
    · unfold snapB; simp only [List.length_append]; omega
    · simp only [List.length_nil]; omega
end Go.Wk.Ent
namespace Go.Wk.Ent
open Cod
theorem msgP_cases (s : S) : ∃ k1 k2 k3 k4 k5 k6 k7 k8 k9 k10 s', s'.1.length ≤ s.1.length ∧ rng k5 ∧ msgP s = msgQ10 k1 k2 k3 k4 k5 k6 k7 k8 k9 k10 s' := by
  have e1 := getI_len s
  have e2 := Nat.le_trans (getI_len (getI s).2) e1
  have e3 := Nat.le_trans (getI_len (getI (getI s).2).2) e2
  have e4 := Nat.le_trans (getI_len (getI (getI (getI s).2).2).2) e3
  have e5 := Nat.le_trans (getI_len (getI (getI (getI (getI s).2).2).2).2) e4
  have e6 := Nat.le_trans (getI_len (getI (getI (getI (getI (getI s).2).2).2).2).2) e5
  have e7 := Nat.le_trans (getI_len (getI (getI (getI (getI (getI (getI s).2).2).2).2).2).2) e6
  have e8 := Nat.le_trans (getI_len (getI (getI (getI (getI (getI (getI (getI s).2).2).2).2).2).2).2) e7
  have e9 := Nat.le_trans (getB_len (getI (getI (getI (getI (getI (getI (getI (getI s).2).2).2).2).2).2).2).2) e8
  have e10 := Nat.le_trans (getI_len (getB (getI (getI (getI (getI (getI (getI (getI (getI s).2).2).2).2).2).2).2).2).2) e9
  exact ⟨_, _, _, _, _, _, _, _, _, _, _, e10, getI_lo (getI (getI (getI (getI s).2).2).2).2, rfl⟩
theorem msgP_sizes (s : S) (h : s.1.length ≤ 100000) : (msgP s).1.snap.data.length ≤ BIG ∧ (msgP s).1.snap.conf.vot.length ≤ BIG ∧ (msgP s).1.snap.conf.lea.length ≤ BIG ∧ (msgP s).1.idx ≤ 9223372036854775807 := by
  obtain ⟨k1, k2, k3, k4, k5, k6, k7, k8, k9, k10, s', hl, hr, e⟩ := msgP_cases s
  rw [e]
  unfold msgQ10
  by_cases h5 : k1 = 5
  · rw [if_pos h5]
    exact ⟨Nat.zero_le _, Nat.zero_le _, Nat.zero_le _, hr.2⟩
  · rw [if_neg h5]
    by_cases h7 : k1 = 7
    · rw [if_pos h7]
      have := snapP_sizes s' (Nat.le_trans hl h)
      exact ⟨this.1, this.2.1, this.2.2, hr.2⟩
    · rw [if_neg h7]
      exact ⟨Nat.zero_le _, Nat.zero_le _, Nat.zero_le _, hr.2⟩
theorem readM_sizes {b : List UInt8} (h : b.length ≤ 100000) : (readM b).1.snap.data.length ≤ BIG ∧ (readM b).1.snap.conf.vot.length ≤ BIG ∧ (readM b).1.snap.conf.lea.length ≤ BIG ∧ (readM b).1.idx ≤ 9223372036854775807 := by
  have h8 := msgP_sizes (b, false) h
  obtain ⟨e, he⟩ : ∃ e, msgP (b, false) = e := ⟨_, rfl⟩
  rw [he] at h8
  rw [readM_of he]
  by_cases h1 : (rend e.2.1 e.2.2 && goodMsg e.1) = true
  · have : toldM (rend e.2.1 e.2.2 && goodMsg e.1) e.1 = (e.1, 0) := by unfold toldM; rw [if_pos h1]
    rw [this]
    exact h8
  · have : toldM (rend e.2.1 e.2.2 && goodMsg e.1) e.1 = (zeroM, 8) := by unfold toldM; rw [if_neg h1]
    rw [this]
    exact ⟨Nat.zero_le _, Nat.zero_le _, Nat.zero_le _, by decide⟩
theorem wholes_of {l : List Ent} (h : sanes l) (hw : wsum l ≤ 400) : wholes l := by
  intro e he
  obtain ⟨i, hi⟩ := List.getElem?_of_mem he
  have hz := weight_at hi hw
  obtain ⟨a, b, c, d, v, l⟩ := h e he
  unfold weight at hz
  exact ⟨a, b, c, d, by omega, by omega, by omega, v, l⟩
theorem rowRep_sanes {ok : Nat → Prop} {w : World} : ∀ {l : List Ent} {vals : List Value}, rowRep kEnt ok w l vals → sanes l
  | [], _, _ => fun x hx => nomatch hx
  | y :: l, _, hr => by
    obtain ⟨cs', rest, rfl, h1, h2⟩ := hr
    intro x hx
    rcases List.mem_cons.1 hx with rfl | hx
    · obtain ⟨hI, yy, _, hf⟩ := open_Ent.out h1
      exact ⟨hI.1, hI.2.1, hI.2.2.1, ⟨hI.2.2.2.1, hI.2.2.2.2.1, hI.2.2.2.2.2.1, hI.2.2.2.2.2.2.2.2.2.2.1⟩, rows_rng (hf _ (List.mem_cons_self ..)).2, rows_rng (hf _ (List.mem_cons_of_mem _ (List.mem_cons_self ..))).2⟩
    · exact rowRep_sanes h2 x hx
theorem rows_sanes {ok : Nat → Prop} {w : World} {l : List Ent} {cs : List Value} (h : kEnt.sl.rep ok w l cs) : sanes l := by
  obtain ⟨a, c, _, _, _, _, hp⟩ := h
  cases l with
  | nil => exact fun x hx => nomatch hx
  | cons y l =>
    obtain ⟨b, o, vals, _, _, hr, _⟩ := hp (Nat.succ_pos _)
    exact rowRep_sanes hr
end Go.Wk.Ent
