/- Plain facts of the model. -/
import Derived.Test.YtlkdpglngomblaaMod5
set_option linter.unusedVariables false
set_option linter.unusedSimpArgs false
namespace Go.Wk
open Go
/-! ### What the model's laws say of states -/
namespace SO
variable {K T : Type} [DecidableEq K] (o : SO K) (key : T → K)
theorem get_is {k : K} {l : List T} (hs : o.Srt key l) : o.get key k l = l.find? (fun y => decide (key y = k)) := (o.find_eq key hs).symm
theorem get_put {x : T} : ∀ {l : List T}, o.Srt key l → o.get key (key x) (o.put key x l) = some x := by
  intro l hs
  rw [o.get_is key (o.put_srt key hs)]
  induction l with
  | nil => rw [o.put_nil key, List.find?_cons_of_pos (by simp)]
  | cons p l ih =>
    have hc := List.pairwise_cons.1 hs
    cases h0 : o.lt (key p) (key x) with
    | true =>
      have hn : key p ≠ key x := fun h => by rw [h, o.irr] at h0; cases h0
      rw [o.put_lt key h0, List.find?_cons_of_neg (by simpa using hn)]
      exact ih hc.2
    | false =>
      by_cases hk : key p = key x
      · rw [o.put_eq key hk, List.find?_cons_of_pos (by simp)]
      · rw [o.put_gt key h0 hk, List.find?_cons_of_pos (by simp)]
theorem get_put_ne {x : T} {k : K} (hk : k ≠ key x) : ∀ {l : List T}, o.Srt key l → o.get key k (o.put key x l) = o.get key k l := by
  intro l hs
  rw [o.get_is key (o.put_srt key hs), o.get_is key hs]
  have hx : ∀ l : List T, List.find? (fun y => decide (key y = k)) (x :: l) = List.find? (fun y => decide (key y = k)) l := fun l => List.find?_cons_of_neg (by simpa using fun h : key x = k => hk h.symm)
  induction l with
  | nil => rw [o.put_nil key, hx]
  | cons p l ih =>
    have hc := List.pairwise_cons.1 hs
    cases h0 : o.lt (key p) (key x) with
    | true =>
      rw [o.put_lt key h0, List.find?_cons, List.find?_cons, ih hc.2]
    | false =>
      by_cases he : key p = key x
      · have hp : List.find? (fun y => decide (key y = k)) (p :: l) = List.find? (fun y => decide (key y = k)) l := List.find?_cons_of_neg (by rw [he]; simpa using fun h : key x = k => hk h.symm)
        rw [o.put_eq key he, hx, hp]
      · rw [o.put_gt key h0 he, hx]
theorem get_cut {k : K} {l : List T} (hs : o.Srt key l) : o.get key k (o.cut key k l) = none := by
  rw [o.get_is key (o.cut_srt key hs), ← o.cut_eq key hs]
  refine List.find?_eq_none.2 fun y hy => ?_
  have := (List.mem_filter.1 hy).2
  simpa using this
theorem get_cut_ne {k k' : K} (hk : k ≠ k') {l : List T} (hs : o.Srt key l) : o.get key k (o.cut key k' l) = o.get key k l := by
  rw [o.get_is key (o.cut_srt key hs), o.get_is key hs, ← o.cut_eq key hs, List.find?_filter]
  congr 1
  funext y
  by_cases h : key y = k
  · subst h
    simp [hk]
  · simp [h]
theorem found_get {k : K} {l : List T} : o.found key k l = (o.get key k l).isSome := by
  unfold get
  cases hf : o.found key k l with
  | false => rfl
  | true =>
    rw [if_pos rfl, List.getElem?_eq_getElem (o.found_rank key hf)]
    rfl
end SO
namespace Mod
theorem fd_get (k : ByteArray) (l : List Pair) : fd k l = (pget k l).isSome := soStr.found_get Pair.key
theorem base_get (k : ByteArray) (l l' : List Pair) (h : pget k l = pget k l') : base k l = base k l' := by
  unfold base valAt
  rw [fd_get, fd_get, h]
theorem query_get {ps : List Pair} {k : ByteArray} (h : Cmd.keyok k = true) : query ps ⟨4, 0, 0, k, Cmd.empty, Cmd.empty, Cmd.empty, 0⟩ = base k ps := by
  have hr : Cmd.reads ⟨4, 0, 0, k, Cmd.empty, Cmd.empty, Cmd.empty, 0⟩ = true := by
    simp [Cmd.reads, Cmd.good, Cmd.eqv, Cmd.part, Cmd.base, Cmd.fit, Cmd.empty, h]
  unfold query
  rw [if_neg (by rw [hr]; decide)]
  unfold doesR
  simp
theorem keyok_of {k : ByteArray} (h : ¬ k = ⟨#[]⟩) (h2 : ¬ (k.size : Int) > 64) : Cmd.keyok k = true := by
  rw [← Cmd.key_t h]
  exact decide_eq_true (by omega)
theorem first_sess {ss : List Sess} {z : Sess} (hs : soInt.Srt Sess.id ss) (hz : ss[0]? = some z) : sget z.id ss = some z := by
  have h1 := soInt.found_hit Sess.id hs hz rfl
  have h2 := soInt.rank_hit Sess.id hs hz rfl
  exact sget_yes h1 (by rw [h2]; exact hz)
theorem does_it {ps : List Pair} {ss : List Sess} {ix : Int} {c : Cmd} {z : Sess} (hI : Inv ps ss) (hz : ss[0]? = some z) (hc : c.sess = z.id) (hq : c.seq ≠ z.seq) (he : ¬ (apply ps ss ix c).2.2.err ≠ 0) (h3 : ¬ c.kind < 3) : Cmd.good c = true ∧ apply ps ss ix c = (doesP ps c, sput ⟨c.sess, c.seq, doesR ps c⟩ ss, doesR ps c) ∧ (doesR ps c).err = 0 := by
  have he := Decidable.not_not.1 he
  have hx : sget c.sess ss = some z := by rw [hc]; exact first_sess hI.ss hz
  cases hg : Cmd.good c with
  | false => rw [ap_bad hg] at he; cases he
  | true =>
    by_cases h4 : c.seq < z.seq
    · rw [ap_old hg (by omega) hx (by omega) h4] at he; cases he
    · have e := ap_does (ps := ps) (ix := ix) hg (by omega) hx (by omega) h4 hq
      rw [e] at he
      exact ⟨rfl, e, he⟩
theorem good_keyok {c : Cmd} (h : Cmd.good c = true) (h3 : ¬ c.kind < 3) (h6 : ¬ c.kind > 6) : Cmd.keyok c.key = true := by
  unfold Cmd.good at h
  rw [if_neg (by omega), if_neg (by omega)] at h
  simp at h
  have hf := h.2.2.2
  unfold Cmd.fit at hf
  split at hf
  · simp at hf; exact hf.1
  · split at hf
    · exact hf
    · split at hf
      · simp at hf; exact hf.1
      · omega
theorem fd_put {c : Cmd} {ps : List Pair} (hs : soStr.Srt Pair.key ps) : base c.key (pput ⟨c.key, c.val⟩ ps) = ⟨0, true, c.val, 0, []⟩ := by
  have h : pget c.key (pput ⟨c.key, c.val⟩ ps) = some ⟨c.key, c.val⟩ := soStr.get_put Pair.key (x := ⟨c.key, c.val⟩) hs
  unfold base valAt
  rw [fd_get, h]
  rfl
theorem fd_cut {k : ByteArray} {ps : List Pair} (hs : soStr.Srt Pair.key ps) : base k (pcut k ps) = ⟨0, false, Cmd.empty, 0, []⟩ := by
  have h : pget k (pcut k ps) = none := soStr.get_cut Pair.key hs
  unfold base valAt
  rw [fd_get, h]
  rfl
theorem other_key {c : Cmd} {ps : List Pair} {k : ByteArray} (hs : soStr.Srt Pair.key ps) (hk : k ≠ c.key) : base k (doesP ps c) = base k ps := by
  refine base_get _ _ _ ?_
  unfold doesP
  split
  · split
    · rfl
    · exact soStr.get_put_ne Pair.key (x := ⟨c.key, c.val⟩) hk hs
  · split
    · exact soStr.get_cut_ne Pair.key hk hs
    · split
      · split
        · exact soStr.get_put_ne Pair.key (x := ⟨c.key, c.val⟩) hk hs
        · rfl
      · rfl
theorem maps_put {ps : List Pair} {c : Cmd} (hs : soStr.Srt Pair.key ps) (hk : c.kind = 3) (he : (doesR ps c).err = 0) : base c.key (doesP ps c) = ⟨0, true, c.val, 0, []⟩ ∧ doesR ps c = base c.key ps := by
  unfold doesP doesR at *
  rw [if_pos hk] at he ⊢
  rw [if_pos hk]
  split at he
  · cases he
  · rename_i hf
    rw [if_neg hf, if_neg hf]
    exact ⟨fd_put hs, rfl⟩
theorem maps_del {ps : List Pair} {c : Cmd} (hs : soStr.Srt Pair.key ps) (hk : c.kind = 5) : base c.key (doesP ps c) = ⟨0, false, Cmd.empty, 0, []⟩ ∧ doesR ps c = base c.key ps := by
  obtain ⟨h1, h2⟩ := does_del (l := ps) (by omega) hk rfl
  exact ⟨by rw [h1]; exact fd_cut hs, h2⟩
theorem maps_cas {ps : List Pair} {c : Cmd} (hs : soStr.Srt Pair.key ps) (hk : c.kind = 6) : doesR ps c = ⟨0, casOk c ps, valAt c.key ps, 0, []⟩ ∧ base c.key (doesP ps c) = (if casOk c ps = true then ⟨0, true, c.val, 0, []⟩ else base c.key ps) := by
  have h3 : ¬ c.kind = 3 := by omega
  have h5 : ¬ c.kind = 5 := by omega
  unfold doesP doesR
  rw [if_neg h3, if_neg h3, if_neg h5, if_neg h5, if_pos hk, if_pos hk]
  refine ⟨rfl, ?_⟩
  split
  · exact fd_put hs
  · rfl
theorem maps_get {ps : List Pair} {c : Cmd} (h3 : ¬ c.kind = 3) (h5 : ¬ c.kind = 5) (h6 : ¬ c.kind = 6) (h7 : ¬ c.kind > 6) : doesP ps c = ps ∧ doesR ps c = base c.key ps := does_else h3 h5 h6 (by omega) rfl
/-! The document's example -/
def c0 : Cmd := ⟨1, 0, 0, ⟨#[]⟩, ⟨#[]⟩, ⟨#[]⟩, ⟨#[]⟩, 0⟩
def cp (sq : Int) (v : ByteArray) : Cmd := ⟨3, 1, sq, ⟨#[107]⟩, ⟨#[]⟩, v, ⟨#[]⟩, 0⟩
def ex1 : Out := apply [] [] 1 c0
def ex2 : Out := apply ex1.1 ex1.2.1 2 (cp 1 ⟨#[118]⟩)
def ex3 : Out := apply ex2.1 ex2.2.1 3 (cp 1 ⟨#[118]⟩)
def ex4 : Out := apply ex3.1 ex3.2.1 4 (cp 2 ⟨#[119]⟩)
theorem ex1_inv : Inv ex1.1 ex1.2.1 := Inv.nil.apply
theorem ex2_inv : Inv ex2.1 ex2.2.1 := ex1_inv.apply
theorem ex3_inv : Inv ex3.1 ex3.2.1 := ex2_inv.apply
theorem ex_ok : ex1.2.2.sess = 1 ∧ ex2.2.2.found = false ∧ ex2.2.2.err = 0 ∧ ex2.2.2 = ex3.2.2 ∧ ex4.2.2.found = true ∧ ex4.2.2.val = ⟨#[118]⟩ ∧ ex4.1 = [⟨⟨#[107]⟩, ⟨#[119]⟩⟩] := by decide +kernel
end Mod
end Go.Wk
