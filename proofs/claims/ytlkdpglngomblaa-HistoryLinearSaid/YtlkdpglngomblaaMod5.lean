/- Plain facts of the model. -/
import Derived.Test.YtlkdpglngomblaaMod4
set_option linter.unusedVariables false
set_option linter.unusedSimpArgs false
namespace Go.Wk
open Go Go.RowKit
/-! ### The reference's plain loops on sorted lists -/
theorem drop_at {α : Type} {l : List α} {i : Nat} {z : α} (h : l[i]? = some z) : l.drop i = z :: l.drop (i + 1) := by
  obtain ⟨h1, h2⟩ := List.getElem?_eq_some_iff.1 h
  rw [← h2]
  exact List.drop_eq_getElem_cons h1
theorem take_at {α : Type} {l : List α} {i : Nat} {z : α} (h : l[i]? = some z) : l.take (i + 1) = l.take i ++ [z] := by
  rw [List.take_add_one, h]
  rfl
theorem rowRep.upd {α : Type} {kd : Kd α} {ok : Nat → Prop} {w : World} {xs : List α} {vs us cs ts cs' : List Value} {j : Nat} {z z' : α} (h : rowRep kd ok w xs vs) (hj : xs[j]? = some z) (hv : vs = us ++ (cs ++ ts)) (hu : us.length = j * kd.n) (hc : cs.length = kd.n) (hz : kd.rep ok w z' cs') :
    rowRep kd ok w (xs.set j z') (us ++ (cs' ++ ts)) := by
  obtain ⟨us2, cs2, ts2, e, hl, hr, h1, h2⟩ := h.at_ hj
  rw [hv] at e
  obtain ⟨e1, e2⟩ := List.append_inj e (by rw [hu, hl])
  obtain ⟨_, e3⟩ := List.append_inj e2 (by rw [hc, kd.len hr])
  subst e1 e3
  have hlt := (List.getElem?_eq_some_iff.1 hj).1
  rw [List.set_eq_take_append_cons_drop, if_pos hlt]
  exact h1.append ⟨cs', _, rfl, hz, h2⟩
namespace SO
variable {K T : Type} (o : SO K) (key : T → K)
def insR (x : T) : Bool → List T → List T
  | d, [] => if d then [] else [x]
  | d, p :: l => (if o.lt (key x) (key p) && !d then [x] else []) ++ (p :: insR x (d || o.lt (key x) (key p)) l)
theorem ins_next {x z : T} {l out R : List T} {i : Nat} {d : Bool} (hz : l[i]? = some z) (h : out ++ o.insR key x d (l.drop i) = R) : out ++ ((if o.lt (key x) (key z) && !d then [x] else []) ++ (z :: o.insR key x (d || o.lt (key x) (key z)) (l.drop (i + 1)))) = R := by
  rw [drop_at hz, insR] at h
  exact h
theorem filter_ge {k : K} : ∀ {l : List T}, o.Srt key l → l.filter (fun p => !o.lt (key p) k) = l.drop (o.rank key k l)
  | [], _ => rfl
  | p :: l, hs => by
    have hc := List.pairwise_cons.1 hs
    cases h0 : o.lt (key p) k with
    | true =>
      rw [o.rank_lt key h0, List.filter_cons, if_neg (by rw [h0]; decide), filter_ge hc.2]
      rfl
    | false =>
      rw [o.rank_ge key h0, List.drop_zero]
      refine List.filter_eq_self.2 fun y hy => ?_
      rcases List.mem_cons.1 hy with rfl | hy
      · rw [h0]; rfl
      · cases h1 : o.lt (key y) k with
        | false => rfl
        | true => rw [o.tr (hc.1 y hy) h1] at h0; cases h0
theorem filter_lt {k : K} : ∀ {l : List T}, o.Srt key l → l.filter (fun p => o.lt (key p) k) = l.take (o.rank key k l)
  | [], _ => rfl
  | p :: l, hs => by
    have hc := List.pairwise_cons.1 hs
    cases h0 : o.lt (key p) k with
    | true =>
      rw [o.rank_lt key h0, List.filter_cons, if_pos h0, filter_lt hc.2]
      rfl
    | false =>
      rw [o.rank_ge key h0, List.take_zero]
      refine List.filter_eq_nil_iff.2 fun y hy => ?_
      rcases List.mem_cons.1 hy with rfl | hy
      · rw [h0]; decide
      · intro h1
        rw [o.tr (hc.1 y hy) h1] at h0
        cases h0
theorem rank_hit {k : K} {l : List T} {i : Nat} {z : T} (hs : o.Srt key l) (hz : l[i]? = some z) (hk : key z = k) : o.rank key k l = i := by
  subst hk
  obtain ⟨h1, e1⟩ := List.getElem?_eq_some_iff.1 hz
  refine (o.rank_is key (Nat.le_of_lt h1) hs (fun j x hj hx => ?_) (fun j x hj hx => ?_)).symm
  · obtain ⟨h2, e2⟩ := List.getElem?_eq_some_iff.1 hx
    have := List.pairwise_iff_getElem.1 hs j i h2 h1 hj
    rwa [e1, e2] at this
  · exact o.bs_hi key hs hz (o.irr _) j x hj hx
variable [DecidableEq K]
theorem found_hit {k : K} {l : List T} {i : Nat} {z : T} (hs : o.Srt key l) (hz : l[i]? = some z) (hk : key z = k) : o.found key k l = true := by
  have := o.rank_hit key hs hz hk
  rw [o.found_at key (z := z) (by rw [this]; exact hz)]
  exact decide_eq_true hk
theorem found_miss {k : K} {l : List T} (h : ∀ x ∈ l, key x ≠ k) : o.found key k l = false := by
  unfold found
  split
  · rename_i x hx
    exact decide_eq_false (h x (List.mem_of_getElem? hx))
  · rfl
theorem found_false {k : K} {l : List T} (hs : o.Srt key l) (h : o.found key k l = false) : ∀ x ∈ l, key x ≠ k := by
  intro x hx he
  obtain ⟨i, h1, h2⟩ := List.getElem_of_mem hx
  have := o.found_hit key hs (i := i) (z := x) (by rw [List.getElem?_eq_getElem h1, h2]) he
  rw [h] at this
  cases this
theorem put_next {x z : T} {l out R : List T} {i : Nat} {d : Bool} (hz : l[i]? = some z) (h : out ++ o.putR key x d (l.drop i) = R) : out ++ ((if !o.lt (key z) (key x) && !d then [x] else []) ++ ((if key z = key x then [] else [z]) ++ o.putR key x (d || !o.lt (key z) (key x)) (l.drop (i + 1)))) = R := by
  rw [drop_at hz, putR] at h
  exact h
theorem put_end {x : T} {l out : List T} {d : Bool} (hs : o.Srt key l) (h : out ++ o.putR key x d (l.drop l.length) = o.putR key x false l) : out ++ (if d then [] else [x]) = o.put key x l := by
  rw [List.drop_length, o.putR_eq key hs] at h
  exact h
theorem cut_next {k : K} {z : T} {l : List T} {i : Nat} (hz : l[i]? = some z) : (l.take (i + 1)).filter (fun y => decide (key y ≠ k)) = (l.take i).filter (fun y => decide (key y ≠ k)) ++ (if key z ≠ k then [z] else []) := by
  rw [take_at hz, List.filter_append]
  congr 1
  by_cases h : key z ≠ k
  · rw [if_pos h, List.filter_cons, if_pos (decide_eq_true h)]; rfl
  · rw [if_neg h, List.filter_cons, if_neg (by simp at h; simp [h])]; rfl
theorem insR_putR {x : T} : ∀ {l : List T} {d : Bool}, (∀ y ∈ l, key y ≠ key x) → o.insR key x d l = o.putR key x d l
  | [], _, _ => rfl
  | p :: l, d, h => by
    have hp := h p (List.mem_cons_self ..)
    have e : o.lt (key x) (key p) = !o.lt (key p) (key x) := by
      cases h1 : o.lt (key p) (key x) with
      | true => rw [o.asym h1]; rfl
      | false =>
        cases h2 : o.lt (key x) (key p) with
        | true => rfl
        | false => exact absurd (o.tri h1 h2) hp
    rw [insR, putR, e, if_neg hp, insR_putR (fun y hy => h y (List.mem_cons_of_mem _ hy))]
    rfl
theorem ins_end {x : T} {l out : List T} {d : Bool} (hs : o.Srt key l) (hf : o.found key (key x) l = false) (h : out ++ o.insR key x d (l.drop l.length) = o.insR key x false l) : out ++ (if d then [] else [x]) = o.put key x l := by
  rw [List.drop_length, o.insR_putR key (o.found_false key hs hf), o.putR_eq key hs] at h
  exact h
end SO
namespace Mod
def inScan (ke ti : ByteArray) (p : Pair) : Bool := !soStr.lt p.key ke && (decide (ti = Cmd.empty) || soStr.lt p.key ti)
theorem srt_take {l : List Pair} {i : Nat} (h : soStr.Srt Pair.key l) : soStr.Srt Pair.key (l.take i) := h.sublist (List.take_sublist _ _)
theorem rank_take {k : ByteArray} : ∀ {l : List Pair} {i : Nat}, soStr.rank Pair.key k (l.take i) = min (soStr.rank Pair.key k l) i
  | [], i => by rw [List.take_nil]; simp [SO.rank]
  | p :: l, 0 => by simp [SO.rank]
  | p :: l, i + 1 => by
    rw [List.take_succ_cons]
    cases h0 : soStr.lt p.key k with
    | true => rw [soStr.rank_lt Pair.key h0, soStr.rank_lt Pair.key h0, rank_take]; omega
    | false => rw [soStr.rank_ge Pair.key h0, soStr.rank_ge Pair.key h0]; omega
theorem scan_filter {ke ti : ByteArray} {li : Int} {l : List Pair} (hs : soStr.Srt Pair.key l) : scanL ke ti li l = (l.filter (inScan ke ti)).take li.toNat := by
  have hr1 := soStr.rank_le Pair.key ke l
  have hr2 := soStr.rank_le Pair.key ti l
  have key : ∀ e : Nat, (l.take (min (max e (rk ke l)) (rk ke l + li.toNat))).drop (rk ke l) = ((l.take e).drop (rk ke l)).take li.toNat := by
    intro e
    rw [List.drop_take, List.drop_take, List.take_take]
    congr 1
    omega
  by_cases ht : ti = Cmd.empty
  · have hf : l.filter (inScan ke ti) = l.drop (rk ke l) := by
      have e : inScan ke ti = fun p => !soStr.lt p.key ke := by
        funext p
        unfold inScan
        rw [decide_eq_true ht]
        simp
      rw [e]
      exact soStr.filter_ge Pair.key hs
    unfold scanL scanEnd
    rw [if_pos ht, hf, key, List.take_length]
  · have hf : l.filter (inScan ke ti) = (l.take (rk ti l)).drop (rk ke l) := by
      have e : inScan ke ti = fun p => (!soStr.lt p.key ke) && (soStr.lt p.key ti) := by
        funext p
        unfold inScan
        rw [decide_eq_false ht]
        simp
      rw [e, ← List.filter_filter, soStr.filter_lt Pair.key hs, soStr.filter_ge Pair.key (srt_take hs), rank_take]
      unfold rk
      by_cases h : soStr.rank Pair.key ke l ≤ soStr.rank Pair.key ti l
      · rw [Nat.min_eq_left h]
      · rw [Nat.min_eq_right (by omega), List.drop_eq_nil_of_le (by rw [List.length_take]; omega), List.drop_eq_nil_of_le (by rw [List.length_take]; omega)]
    unfold scanL scanEnd
    rw [if_neg ht, hf, key]
theorem scan_next {ke ti : ByteArray} {n : Nat} {l : List Pair} {i : Nat} {z : Pair} (hz : l[i]? = some z) :
    ((l.take (i + 1)).filter (inScan ke ti)).take n = ((l.take i).filter (inScan ke ti)).take n ++ (if inScan ke ti z = true ∧ (((l.take i).filter (inScan ke ti)).take n).length < n then [z] else []) := by
  rw [take_at hz, List.filter_append, List.filter_cons, List.take_append, List.length_take]
  congr 1
  by_cases h : inScan ke ti z = true
  · rw [if_pos h]
    by_cases h2 : ((l.take i).filter (inScan ke ti)).length < n
    · rw [if_pos ⟨h, by omega⟩]
      have : ∃ q, n - ((l.take i).filter (inScan ke ti)).length = q + 1 := ⟨n - ((l.take i).filter (inScan ke ti)).length - 1, by omega⟩
      obtain ⟨q, hq⟩ := this
      rw [hq]
      simp
    · rw [if_neg (by rintro ⟨_, h3⟩; omega)]
      have : n - ((l.take i).filter (inScan ke ti)).length = 0 := by omega
      rw [this]
      rfl
  · rw [if_neg h, if_neg (by rintro ⟨h3, _⟩; exact h h3)]
    simp
def findI (k : Int) (l : List Sess) : Int := if soInt.found Sess.id k l = true then (soInt.rank Sess.id k l : Int) else -1
theorem find_hit {k : Int} {l : List Sess} {i : Nat} {z : Sess} (hs : soInt.Srt Sess.id l) (hz : l[i]? = some z) (hk : z.id = k) : findI k l = (i : Int) := by
  unfold findI
  rw [if_pos (soInt.found_hit Sess.id hs hz hk), soInt.rank_hit Sess.id hs hz hk]
theorem find_miss {k : Int} {l : List Sess} (h : ∀ q x, q < l.length → l[q]? = some x → x.id ≠ k) : findI k l = -1 := by
  unfold findI
  rw [soInt.found_miss Sess.id (fun x hx => ?_)]
  · rfl
  · obtain ⟨i, h1, h2⟩ := List.getElem_of_mem hx
    exact h i x h1 (by rw [List.getElem?_eq_getElem h1, h2])
theorem find_yes {k : Int} {l : List Sess} (h : ¬ findI k l < 0) : soInt.found Sess.id k l = true ∧ findI k l = (soInt.rank Sess.id k l : Int) := by
  unfold findI at h ⊢
  cases hf : soInt.found Sess.id k l with
  | true => exact ⟨rfl, rfl⟩
  | false => rw [hf, if_neg (by decide)] at h; exact absurd (by decide) h
theorem find_no {k : Int} {l : List Sess} (h : findI k l < 0) : soInt.found Sess.id k l = false := by
  unfold findI at h
  cases hf : soInt.found Sess.id k l with
  | false => rfl
  | true => rw [hf, if_pos rfl] at h; omega
theorem get_hit {k : ByteArray} {l : List Pair} {i : Nat} {z : Pair} (hs : soStr.Srt Pair.key l) (hz : l[i]? = some z) (hk : z.key = k) : fd k l = true ∧ valAt k l = z.val := by
  have h1 := soStr.found_hit Pair.key hs hz hk
  have h2 := soStr.rank_hit Pair.key hs hz hk
  exact ⟨h1, valAt_yes h1 (show l[soStr.rank Pair.key k l]? = some z by rw [h2]; exact hz)⟩
theorem get_miss {k : ByteArray} {l : List Pair} (h : ∀ q x, q < l.length → l[q]? = some x → x.key ≠ k) : fd k l = false ∧ valAt k l = Cmd.empty := by
  have h1 : fd k l = false := soStr.found_miss Pair.key (fun x hx => by
    obtain ⟨i, h1, h2⟩ := List.getElem_of_mem hx
    exact h i x h1 (by rw [List.getElem?_eq_getElem h1, h2]))
  exact ⟨h1, valAt_no h1⟩
theorem miss_next {α K : Type} {key : α → K} {k : K} {l : List α} {i : Nat} {z : α} (hz : l[i]? = some z) (hk : ¬ key z = k) (h : ∀ q x, q < i → l[q]? = some x → key x ≠ k) : ∀ q x, q < i + 1 → l[q]? = some x → key x ≠ k := by
  intro q x hq hx
  by_cases e : q = i
  · subst e
    rw [hz] at hx
    cases hx
    exact hk
  · exact h q x (by omega) hx
def openE (ss : List Sess) (ix : Int) : Int := (openR ss ix).err
theorem openE_arg {ss : List Sess} {ix : Int} (h : ¬ 16 ≤ ss.length) (h1 : ix < 1) : openS ss ix = ss ∧ openE ss ix = 2 := by
  obtain ⟨e1, e2⟩ := open_arg h h1
  exact ⟨e1, by unfold openE; rw [e2]; rfl⟩
theorem openE_is {ss : List Sess} {ix : Int} (h : ¬ 16 ≤ ss.length) (h1 : ¬ ix < 1) (hf : soInt.found Sess.id ix ss = true) : openS ss ix = ss ∧ openE ss ix = 5 := by
  obtain ⟨e1, e2⟩ := open_is h h1 hf
  exact ⟨e1, by unfold openE; rw [e2]; rfl⟩
theorem openE_ok {ss : List Sess} {ix : Int} (h : ¬ 16 ≤ ss.length) (h1 : ¬ ix < 1) (hf : soInt.found Sess.id ix ss = false) : openS ss ix = sput ⟨ix, 0, err 0⟩ ss ∧ openE ss ix = 0 := by
  obtain ⟨e1, e2⟩ := open_ok h h1 hf
  exact ⟨e1, by unfold openE; rw [e2]⟩
theorem openE_zero {ss : List Sess} {ix : Int} (h : openE ss ix = 0) : openR ss ix = ⟨0, false, Cmd.empty, ix, []⟩ := by
  unfold openE openR at h
  unfold openR
  split at h
  · cases h
  · split at h
    · cases h
    · split at h
      · cases h
      · rw [if_neg (by assumption), if_neg (by assumption), if_neg (by assumption)]
theorem openE_err {ss : List Sess} {ix : Int} (h : ¬ openE ss ix = 0) : openS ss ix = ss ∧ openR ss ix = err (openE ss ix) := by
  by_cases h1 : 16 ≤ ss.length
  · obtain ⟨e1, e2⟩ := open_full (ix := ix) h1
    exact ⟨e1, by unfold openE; rw [e2]; rfl⟩
  · by_cases h2 : ix < 1
    · obtain ⟨e1, e2⟩ := open_arg h1 h2
      exact ⟨e1, by unfold openE; rw [e2]; rfl⟩
    · cases hf : soInt.found Sess.id ix ss with
      | true =>
        obtain ⟨e1, e2⟩ := open_is h1 h2 hf
        exact ⟨e1, by unfold openE; rw [e2]; rfl⟩
      | false => exact absurd (openE_ok h1 h2 hf).2 h
def askE (ss : List Sess) (id seq : Int) : Int := match sget id ss with
  | none => 14
  | some x => if seq < x.seq then 15 else if seq = x.seq then 0 else 4
theorem ask_none {ss : List Sess} {id seq : Int} (h : sget id ss = none) : askE ss id seq = 14 := by unfold askE; rw [h]
theorem ask_old {ss : List Sess} {id seq : Int} {x : Sess} (h : sget id ss = some x) (h1 : seq < x.seq) : askE ss id seq = 15 := by unfold askE; rw [h]; exact if_pos h1
theorem ask_new {ss : List Sess} {id seq : Int} {x : Sess} (h : sget id ss = some x) (h1 : ¬ seq < x.seq) (h2 : ¬ seq = x.seq) : askE ss id seq = 4 := by
  unfold askE
  rw [h]
  show (if seq < x.seq then (15 : Int) else if seq = x.seq then 0 else 4) = 4
  rw [if_neg h1, if_neg h2]
theorem ask_cases (ss : List Sess) (id seq : Int) : (∃ x, sget id ss = some x ∧ seq = x.seq) ∨ (∀ x, sget id ss = some x → seq ≠ x.seq) := by
  cases h : sget id ss with
  | none => exact .inr fun x hx => by cases hx
  | some x =>
    by_cases h1 : seq = x.seq
    · exact .inl ⟨x, rfl, h1⟩
    · exact .inr fun y hy => by cases hy; exact h1
theorem ask_yes {ss : List Sess} {id seq : Int} (h : ∀ x, sget id ss = some x → seq ≠ x.seq) : askE ss id seq = 4 ∨ askE ss id seq = 14 ∨ askE ss id seq = 15 := by
  cases hx : sget id ss with
  | none => exact .inr (.inl (ask_none hx))
  | some x =>
    by_cases h1 : seq < x.seq
    · exact .inr (.inr (ask_old hx h1))
    · exact .inl (ask_new hx h1 (h x hx))
theorem ap_ask {ps : List Pair} {ss : List Sess} {ix : Int} {c : Cmd} (hg : Cmd.good c = true) (hk : ¬ c.kind = 1) (h2 : ¬ c.kind = 2) (h : ¬ askE ss c.sess c.seq = 4) (h0 : ∀ x, sget c.sess ss = some x → c.seq ≠ x.seq) : apply ps ss ix c = (ps, ss, err (askE ss c.sess c.seq)) := by
  cases hx : sget c.sess ss with
  | none => rw [ask_none hx]; exact ap_none hg hk hx
  | some x =>
    by_cases h1 : c.seq < x.seq
    · rw [ask_old hx h1]; exact ap_old hg hk hx h2 h1
    · exact absurd (ask_new hx h1 (h0 x hx)) h
theorem ap_ask4 {ps : List Pair} {ss : List Sess} {ix : Int} {c : Cmd} (hg : Cmd.good c = true) (hk : ¬ c.kind = 1) (h2 : ¬ c.kind = 2) (h : askE ss c.sess c.seq = 4) : apply ps ss ix c = (doesP ps c, sput ⟨c.sess, c.seq, doesR ps c⟩ ss, doesR ps c) ∧ ∃ x, sget c.sess ss = some x ∧ x.seq < c.seq := by
  cases hx : sget c.sess ss with
  | none => rw [ask_none hx] at h; cases h
  | some x =>
    by_cases h1 : c.seq < x.seq
    · rw [ask_old hx h1] at h; cases h
    · by_cases h4 : c.seq = x.seq
      · unfold askE at h; rw [hx] at h
        replace h : (if c.seq < x.seq then (15 : Int) else if c.seq = x.seq then 0 else 4) = 4 := h
        rw [if_neg h1, if_pos h4] at h
        cases h
      · exact ⟨ap_does hg hk hx h2 h1 h4, x, rfl, by omega⟩
theorem cut_sess {k : Int} {l : List Sess} (h : soInt.found Sess.id k l = true) : scut k l = l.take (soInt.rank Sess.id k l) ++ l.drop (soInt.rank Sess.id k l + 1) := soInt.cut_yes Sess.id h
theorem put_sess {x : Sess} {l : List Sess} (h : soInt.found Sess.id x.id l = true) : sput x l = l.set (soInt.rank Sess.id x.id l) x := soInt.put_yes Sess.id h
end Mod
end Go.Wk
namespace Go.Wk.Mod
open Go
def sessR (k : Int) (l : List Sess) : Reply := match sget k l with
  | some x => x.rep
  | none => err 0
end Go.Wk.Mod
namespace Go.Wk
open Go Go.RowKit
theorem get_mid {α : Type} (us cs ts : List α) (k : Nat) (h : k < cs.length) : (us ++ (cs ++ ts))[us.length + k]? = cs[k]? := by
  rw [List.getElem?_append_right (by omega), Nat.add_sub_cancel_left, List.getElem?_append_left h]
theorem sess_parts {ok : Nat → Prop} {w : World} {xs : List Sess} {vals : List Value} {j : Nat} {z : Sess} {k : Int} (h : (Atom.row kSess xs vals).p ok w) (hz : xs[j]? = some z) (hk : z.id = k) :
    ∃ us, ∃ yz : Option Addr × Nat, ∃ ts, vals = us ++ ([.int .i64 k, .int .i64 z.seq, .int .i64 z.rep.err, .bool z.rep.found, .string z.rep.val, .int .i64 z.rep.sess, .slice yz.1 z.rep.pairs.length yz.2] ++ ts) ∧ us.length = j * 7 := by
  subst hk
  obtain ⟨us, cs, ts, e, hl, hr, _, _⟩ := rowRep.at_ h hz
  obtain ⟨_, yz, rfl, _⟩ := hr
  exact ⟨us, yz, ts, e, hl⟩
end Go.Wk
namespace Go.Wk.Mod
open Go
section
variable {ps : List Pair} {ss : List Sess} {ix : Int} {c : Cmd}
theorem rap_full (hg : Cmd.good c = true) (hk : c.kind = 1) (h : 16 ≤ ss.length) : apply ps ss ix c = (ps, ss, err 7) := by
  rw [ap_open hg hk, (open_full h).1, (open_full h).2]; rfl
theorem rap_err (hg : Cmd.good c = true) (hk : c.kind = 1) (h : ¬ openE ss ix = 0) : apply ps ss ix c = (ps, ss, err (openE ss ix)) := by
  obtain ⟨e1, e2⟩ := openE_err h
  rw [ap_open hg hk, e1, e2]; rfl
theorem rap_ok (hg : Cmd.good c = true) (hk : c.kind = 1) (h : openE ss ix = 0) : apply ps ss ix c = (ps, openS ss ix, ⟨0, false, Cmd.empty, ix, []⟩) := by
  rw [ap_open hg hk, openE_zero h]
theorem exp_no {k : Int} (h : ¬ (if soInt.found Sess.id k ss = true then (0 : Int) else 14) = 0) : soInt.found Sess.id k ss = false := by
  cases hf : soInt.found Sess.id k ss with
  | false => rfl
  | true => rw [hf, if_pos rfl] at h; exact absurd rfl h
theorem exp_yes {k : Int} (h : (if soInt.found Sess.id k ss = true then (0 : Int) else 14) = 0) : soInt.found Sess.id k ss = true := by
  cases hf : soInt.found Sess.id k ss with
  | true => rfl
  | false => rw [hf, if_neg (by decide)] at h; cases h
theorem rap_none (hg : Cmd.good c = true) (hk : c.kind = 2) (h : soInt.found Sess.id c.sess ss = false) : apply ps ss ix c = (ps, ss, err 14) := ap_none hg (by omega) (sget_no h)
theorem rap_end (hg : Cmd.good c = true) (hk : c.kind = 2) (h : soInt.found Sess.id c.sess ss = true) : apply ps ss ix c = (ps, scut c.sess ss, err 0) := by
  obtain ⟨z, hz⟩ : ∃ z, ss[soInt.rank Sess.id c.sess ss]? = some z := ⟨_, List.getElem?_eq_getElem (soInt.found_rank Sess.id h)⟩
  exact ap_end hg (by omega) (sget_yes h hz) hk
theorem rap_same (hg : Cmd.good c = true) (hk : ¬ c.kind = 1) (h2 : ¬ c.kind = 2) (h : ∃ x, sget c.sess ss = some x ∧ c.seq = x.seq) : apply ps ss ix c = (ps, ss, sessR c.sess ss) := by
  obtain ⟨x, hx, he⟩ := h
  rw [ap_same hg hk hx h2 he]
  unfold sessR
  rw [hx]
theorem ask_zero {id seq : Int} (h : ∀ x, sget id ss = some x → seq ≠ x.seq) : ¬ askE ss id seq = 0 := by
  intro h0
  rcases ask_yes h with h1 | h1 | h1 <;> (rw [h1] at h0; cases h0)
end
end Go.Wk.Mod
