/- Plain facts of the model. -/
import Derived.Test.YtlkdpglngomblaaMod3
set_option linter.unusedVariables false
set_option linter.unusedSimpArgs false
namespace Go.Wk
open Go
/-! ### What commands mean, on sorted lists -/
namespace Mod
def rk (k : ByteArray) (l : List Pair) : Nat := soStr.rank Pair.key k l
def fd (k : ByteArray) (l : List Pair) : Bool := soStr.found Pair.key k l
def pget (k : ByteArray) (l : List Pair) : Option Pair := soStr.get Pair.key k l
def pput (x : Pair) (l : List Pair) : List Pair := soStr.put Pair.key x l
def pcut (k : ByteArray) (l : List Pair) : List Pair := soStr.cut Pair.key k l
def sget (k : Int) (l : List Sess) : Option Sess := soInt.get Sess.id k l
def sput (x : Sess) (l : List Sess) : List Sess := soInt.put Sess.id x l
def scut (k : Int) (l : List Sess) : List Sess := soInt.cut Sess.id k l
def valAt (k : ByteArray) (l : List Pair) : ByteArray := match pget k l with
  | some p => p.val
  | none => Cmd.empty
def scanEnd (ke ti : ByteArray) (l : List Pair) : Nat := if ti = Cmd.empty then l.length else rk ti l
def scanL (ke ti : ByteArray) (li : Int) (l : List Pair) : List Pair := (l.take (min (max (scanEnd ke ti l) (rk ke l)) (rk ke l + li.toNat))).drop (rk ke l)
def err (n : Int) : Reply := ⟨n, false, Cmd.empty, 0, []⟩
def base (k : ByteArray) (l : List Pair) : Reply := ⟨0, fd k l, valAt k l, 0, []⟩
def full (k : ByteArray) (l : List Pair) : Bool := !(fd k l) && decide (2000 ≤ l.length)
def casOk (c : Cmd) (l : List Pair) : Bool := fd c.key l && decide (valAt c.key l = c.old)
def doesP (l : List Pair) (c : Cmd) : List Pair :=
  if c.kind = 3 then (if full c.key l = true then l else pput ⟨c.key, c.val⟩ l)
  else if c.kind = 5 then pcut c.key l
  else if c.kind = 6 then (if casOk c l = true then pput ⟨c.key, c.val⟩ l else l)
  else l
def doesR (l : List Pair) (c : Cmd) : Reply :=
  if c.kind = 3 then (if full c.key l = true then err 7 else base c.key l)
  else if c.kind = 5 then base c.key l
  else if c.kind = 6 then ⟨0, casOk c l, valAt c.key l, 0, []⟩
  else if c.kind = 7 then ⟨0, false, Cmd.empty, 0, scanL c.key c.til c.lim l⟩
  else base c.key l
abbrev Out := List Pair × List Sess × Reply
def openS (ss : List Sess) (ix : Int) : List Sess := if 16 ≤ ss.length then ss else if ix < 1 then ss else if soInt.found Sess.id ix ss = true then ss else sput ⟨ix, 0, err 0⟩ ss
def openR (ss : List Sess) (ix : Int) : Reply := if 16 ≤ ss.length then err 7 else if ix < 1 then err 2 else if soInt.found Sess.id ix ss = true then err 5 else ⟨0, false, Cmd.empty, ix, []⟩
def apply (ps : List Pair) (ss : List Sess) (ix : Int) (c : Cmd) : Out :=
  if Cmd.good c = false then (ps, ss, err 2)
  else if c.kind = 1 then (ps, openS ss ix, openR ss ix)
  else match sget c.sess ss with
    | none => (ps, ss, err 14)
    | some x => if c.kind = 2 then (ps, scut c.sess ss, err 0) else if c.seq < x.seq then (ps, ss, err 15) else if c.seq = x.seq then (ps, ss, x.rep)
      else (doesP ps c, sput ⟨c.sess, c.seq, doesR ps c⟩ ss, doesR ps c)
def query (ps : List Pair) (c : Cmd) : Reply := if Cmd.reads c = false then err 2 else doesR ps c
abbrev St := List Pair × List Sess
def step (s : St) (e : Ent) : St := if e.kind = 2 then ((apply s.1 s.2 e.idx e.cmd).1, (apply s.1 s.2 e.idx e.cmd).2.1) else s
def fold (l : List Ent) : St := l.foldl step ([], [])
structure Inv (l : List Pair) (s : List Sess) : Prop where
  ps : soStr.Srt Pair.key l
  pl : l.length ≤ 2000
  ss : soInt.Srt Sess.id s
  sl : s.length ≤ 16
  ip : ∀ x ∈ s, 1 ≤ x.id
theorem Inv.nil : Inv [] [] := ⟨List.Pairwise.nil, Nat.zero_le _, List.Pairwise.nil, Nat.zero_le _, fun _ h => nomatch h⟩
theorem valAt_yes {k : ByteArray} {l : List Pair} {p : Pair} (h : fd k l = true) (hp : l[rk k l]? = some p) : valAt k l = p.val := by
  unfold valAt pget SO.get
  unfold fd at h
  unfold rk at hp
  rw [if_pos h, hp]
theorem valAt_no {k : ByteArray} {l : List Pair} (h : fd k l = false) : valAt k l = Cmd.empty := by
  unfold valAt pget SO.get
  unfold fd at h
  rw [if_neg (by rw [h]; decide)]
theorem sget_yes {k : Int} {l : List Sess} {x : Sess} (h : soInt.found Sess.id k l = true) (hp : l[soInt.rank Sess.id k l]? = some x) : sget k l = some x := by
  unfold sget SO.get
  rw [if_pos h, hp]
theorem sget_no {k : Int} {l : List Sess} (h : soInt.found Sess.id k l = false) : sget k l = none := by
  unfold sget SO.get
  rw [if_neg (by rw [h]; decide)]
theorem sget_found {k : Int} {l : List Sess} {x : Sess} (h : sget k l = some x) : soInt.found Sess.id k l = true ∧ l[soInt.rank Sess.id k l]? = some x := by
  cases hf : soInt.found Sess.id k l with
  | false => rw [sget_no hf] at h; cases h
  | true =>
    refine ⟨rfl, ?_⟩
    unfold sget SO.get at h
    rwa [if_pos hf] at h
theorem doesP_srt {l : List Pair} {c : Cmd} (h : soStr.Srt Pair.key l) : soStr.Srt Pair.key (doesP l c) := by
  unfold doesP pput pcut
  split
  · split
    · exact h
    · exact soStr.put_srt Pair.key h
  · split
    · exact soStr.cut_srt Pair.key h
    · split
      · split
        · exact soStr.put_srt Pair.key h
        · exact h
      · exact h
theorem doesP_len {l : List Pair} {c : Cmd} (h : l.length ≤ 2000) : (doesP l c).length ≤ 2000 := by
  unfold doesP pput pcut
  split
  · split
    · exact h
    · rename_i hf
      cases hd : soStr.found Pair.key c.key l with
      | true => rw [soStr.put_len_yes Pair.key (x := ⟨c.key, c.val⟩) hd]; exact h
      | false =>
        have := soStr.put_len Pair.key (x := ⟨c.key, c.val⟩) (l := l)
        unfold full fd at hf
        rw [hd] at hf
        simp at hf
        omega
  · split
    · have := soStr.cut_len Pair.key (k := c.key) (l := l)
      omega
    · split
      · split
        · rename_i hk
          have hd : soStr.found Pair.key c.key l = true := by
            unfold casOk fd at hk
            simp at hk
            exact hk.1
          rw [soStr.put_len_yes Pair.key (x := ⟨c.key, c.val⟩) hd]
          exact h
        · exact h
      · exact h
def Sizes (l : List Pair) : Prop := ∀ p ∈ l, p.key.size ≤ BIG ∧ p.val.size ≤ BIG
theorem valAt_size {k : ByteArray} {l : List Pair} (h : Sizes l) : (valAt k l).size ≤ BIG := by
  unfold valAt pget SO.get
  split
  · rename_i p hp
    split at hp
    · exact (h p (List.mem_of_getElem? hp)).2
    · cases hp
  · exact Nat.zero_le _
theorem scanL_len2 {ke ti : ByteArray} {li : Int} {l : List Pair} : (scanL ke ti li l).length ≤ l.length := by
  unfold scanL
  rw [List.length_drop, List.length_take]
  omega
structure ROk (r : Reply) : Prop where
  e : -9223372036854775808 ≤ r.err ∧ r.err ≤ 9223372036854775807
  v : r.val.size ≤ BIG
  s : -9223372036854775808 ≤ r.sess ∧ r.sess ≤ 9223372036854775807
  p : r.pairs.length ≤ BIG
theorem zr : -9223372036854775808 ≤ (0 : Int) ∧ (0 : Int) ≤ 9223372036854775807 := by decide
theorem ROk.err {n : Int} (h : -9223372036854775808 ≤ n ∧ n ≤ 9223372036854775807) : ROk (err n) := ⟨h, Nat.zero_le _, zr, Nat.zero_le _⟩
theorem doesR_ok {l : List Pair} {c : Cmd} (h : Sizes l) (hl : l.length ≤ 2000) : ROk (doesR l c) := by
  have hv : ∀ k, (valAt k l).size ≤ BIG := fun k => valAt_size h
  unfold doesR
  split
  · split
    · exact .err (by decide)
    · exact ⟨zr, hv _, zr, Nat.zero_le _⟩
  · split
    · exact ⟨zr, hv _, zr, Nat.zero_le _⟩
    · split
      · exact ⟨zr, hv _, zr, Nat.zero_le _⟩
      · split
        · refine ⟨zr, Nat.zero_le _, zr, ?_⟩
          have := scanL_len2 (ke := c.key) (ti := c.til) (li := c.lim) (l := l)
          show (scanL c.key c.til c.lim l).length ≤ BIG
          simp only [BIG]
          omega
        · exact ⟨zr, hv _, zr, Nat.zero_le _⟩
theorem Inv.apply {ps : List Pair} {ss : List Sess} {ix : Int} {c : Cmd} (h : Inv ps ss) : Inv (Mod.apply ps ss ix c).1 (Mod.apply ps ss ix c).2.1 := by
  unfold Mod.apply
  split
  · exact h
  · split
    · show Inv ps (openS ss ix)
      unfold openS
      split
      · exact h
      · split
        · exact h
        · split
          · exact h
          · rename_i h16 h1 _
            refine ⟨h.ps, h.pl, soInt.put_srt Sess.id h.ss, ?_, fun x hx => ?_⟩
            · have := soInt.put_len Sess.id (x := ⟨ix, 0, err 0⟩) (l := ss)
              show (soInt.put Sess.id _ ss).length ≤ 16
              omega
            · rcases soInt.mem_put Sess.id hx with rfl | hx
              · show 1 ≤ ix
                omega
              · exact h.ip x hx
    · split
      · exact h
      · rename_i x hx
        split
        · refine ⟨h.ps, h.pl, soInt.cut_srt Sess.id h.ss, ?_, fun x hx => h.ip x (soInt.mem_cut Sess.id hx)⟩
          have := soInt.cut_len Sess.id (k := c.sess) (l := ss)
          have := h.sl
          show (soInt.cut Sess.id c.sess ss).length ≤ 16
          omega
        · split
          · exact h
          · split
            · exact h
            · refine ⟨doesP_srt h.ps, doesP_len h.pl, soInt.put_srt Sess.id h.ss, ?_, fun y hy => ?_⟩
              · show (soInt.put Sess.id _ ss).length ≤ 16
                rw [soInt.put_len_yes Sess.id (x := ⟨c.sess, c.seq, doesR ps c⟩) (sget_found hx).1]
                exact h.sl
              · rcases soInt.mem_put Sess.id hy with rfl | hy
                · have h2 := sget_found hx
                  have := h.ip x (List.mem_of_getElem? h2.2)
                  have e := soInt.found_key Sess.id h2.1 h2.2
                  show 1 ≤ c.sess
                  omega
                · exact h.ip y hy
theorem Inv.step {s : St} {e : Ent} (h : Inv s.1 s.2) : Inv (step s e).1 (step s e).2 := by
  unfold Mod.step
  split
  · exact h.apply
  · exact h
theorem Inv.folds {l : List Ent} : ∀ {s : St}, Inv s.1 s.2 → Inv (l.foldl Mod.step s).1 (l.foldl Mod.step s).2 := by
  induction l with
  | nil => exact fun h => h
  | cons e l ih => exact fun h => ih h.step
theorem Inv.fold {l : List Ent} : Inv (Mod.fold l).1 (Mod.fold l).2 := Inv.folds .nil
theorem fold_take {l : List Ent} {i : Nat} {e : Ent} (h : l[i]? = some e) : Mod.fold (l.take (i + 1)) = Mod.step (Mod.fold (l.take i)) e := by
  unfold Mod.fold
  rw [List.take_add_one, h]
  simp
/-! Ways through -/
section
variable {l : List Pair} {c : Cmd} {v : ByteArray}
theorem does_full (hk : c.kind = 3) (hf : fd c.key l = false) (hn : 2000 ≤ l.length) : doesP l c = l ∧ doesR l c = err 7 := by
  have hF : full c.key l = true := by unfold full; rw [hf]; simp [hn]
  unfold doesP doesR
  rw [if_pos hk, if_pos hk, if_pos hF, if_pos hF]
  exact ⟨rfl, rfl⟩
theorem does_put (hk : c.kind = 3) (hf : fd c.key l = true ∨ ¬ 2000 ≤ l.length) (hv : valAt c.key l = v) : doesP l c = pput ⟨c.key, c.val⟩ l ∧ doesR l c = ⟨0, fd c.key l, v, 0, []⟩ := by
  have hF : full c.key l = false := by
    unfold full
    rcases hf with hf | hf
    · rw [hf]; rfl
    · simp [hf]
  subst hv
  unfold doesP doesR
  rw [if_pos hk, if_pos hk, hF]
  exact ⟨rfl, rfl⟩
theorem does_del (h3 : ¬ c.kind = 3) (hk : c.kind = 5) (hv : valAt c.key l = v) : doesP l c = pcut c.key l ∧ doesR l c = ⟨0, fd c.key l, v, 0, []⟩ := by
  subst hv
  unfold doesP doesR
  rw [if_neg h3, if_neg h3, if_pos hk, if_pos hk]
  exact ⟨rfl, rfl⟩
theorem does_cas (h3 : ¬ c.kind = 3) (h5 : ¬ c.kind = 5) (hk : c.kind = 6) (hf : fd c.key l = true) (hv : valAt c.key l = v) : doesP l c = (if v = c.old then pput ⟨c.key, c.val⟩ l else l) ∧ doesR l c = ⟨0, decide (v = c.old), v, 0, []⟩ := by
  subst hv
  have hF : casOk c l = decide (valAt c.key l = c.old) := by unfold casOk; rw [hf]; rfl
  unfold doesP doesR
  rw [if_neg h3, if_neg h3, if_neg h5, if_neg h5, if_pos hk, if_pos hk, hF]
  refine ⟨?_, rfl⟩
  by_cases h : valAt c.key l = c.old
  · rw [if_pos h, if_pos (decide_eq_true h)]
  · rw [if_neg h, if_neg (by simp [h])]
theorem does_cas0 (h3 : ¬ c.kind = 3) (h5 : ¬ c.kind = 5) (hk : c.kind = 6) (hf : fd c.key l = false) (hv : valAt c.key l = v) : doesP l c = l ∧ doesR l c = ⟨0, false, v, 0, []⟩ := by
  subst hv
  have hF : casOk c l = false := by unfold casOk; rw [hf]; rfl
  unfold doesP doesR
  rw [if_neg h3, if_neg h3, if_neg h5, if_neg h5, if_pos hk, if_pos hk, hF]
  exact ⟨rfl, rfl⟩
theorem does_scan (hk : c.kind = 7) : doesP l c = l ∧ doesR l c = ⟨0, false, Cmd.empty, 0, scanL c.key c.til c.lim l⟩ := by
  unfold doesP doesR
  rw [if_neg (by omega), if_neg (by omega), if_neg (by omega), if_neg (by omega), if_neg (by omega), if_neg (by omega), if_pos hk]
  exact ⟨rfl, rfl⟩
theorem does_else (h3 : ¬ c.kind = 3) (h5 : ¬ c.kind = 5) (h6 : ¬ c.kind = 6) (h7 : ¬ c.kind = 7) (hv : valAt c.key l = v) : doesP l c = l ∧ doesR l c = ⟨0, fd c.key l, v, 0, []⟩ := by
  subst hv
  unfold doesP doesR
  rw [if_neg h3, if_neg h3, if_neg h5, if_neg h5, if_neg h6, if_neg h6, if_neg h7]
  exact ⟨rfl, rfl⟩
end
section
variable {ps : List Pair} {ss : List Sess} {ix : Int} {c : Cmd} {x : Sess}
theorem ap_bad (hg : Cmd.good c = false) : apply ps ss ix c = (ps, ss, err 2) := by unfold apply; rw [if_pos hg]
theorem ap_open (hg : Cmd.good c = true) (hk : c.kind = 1) : apply ps ss ix c = (ps, openS ss ix, ⟨(openR ss ix).err, (openR ss ix).found, (openR ss ix).val, (openR ss ix).sess, []⟩) := by
  have hp : (openR ss ix).pairs = [] := by unfold openR; split <;> first | rfl | (split <;> first | rfl | (split <;> rfl))
  unfold apply
  rw [if_neg (by rw [hg]; decide), if_pos hk, ← hp]
theorem ap_none (hg : Cmd.good c = true) (hk : ¬ c.kind = 1) (hf : sget c.sess ss = none) : apply ps ss ix c = (ps, ss, err 14) := by unfold apply; rw [if_neg (by rw [hg]; decide), if_neg hk, hf]
theorem ap_some (hg : Cmd.good c = true) (hk : ¬ c.kind = 1) (hx : sget c.sess ss = some x) : apply ps ss ix c = if c.kind = 2 then (ps, scut c.sess ss, err 0) else if c.seq < x.seq then (ps, ss, err 15) else if c.seq = x.seq then (ps, ss, x.rep) else (doesP ps c, sput ⟨c.sess, c.seq, doesR ps c⟩ ss, doesR ps c) := by
  unfold apply
  rw [if_neg (by rw [hg]; decide), if_neg hk, hx]
theorem ap_end (hg : Cmd.good c = true) (hk : ¬ c.kind = 1) (hx : sget c.sess ss = some x) (h2 : c.kind = 2) : apply ps ss ix c = (ps, scut c.sess ss, err 0) := by rw [ap_some hg hk hx, if_pos h2]
theorem ap_old (hg : Cmd.good c = true) (hk : ¬ c.kind = 1) (hx : sget c.sess ss = some x) (h2 : ¬ c.kind = 2) (h3 : c.seq < x.seq) : apply ps ss ix c = (ps, ss, err 15) := by rw [ap_some hg hk hx, if_neg h2, if_pos h3]
theorem ap_same (hg : Cmd.good c = true) (hk : ¬ c.kind = 1) (hx : sget c.sess ss = some x) (h2 : ¬ c.kind = 2) (h4 : c.seq = x.seq) : apply ps ss ix c = (ps, ss, x.rep) := by rw [ap_some hg hk hx, if_neg h2, if_neg (by omega), if_pos h4]
theorem ap_does (hg : Cmd.good c = true) (hk : ¬ c.kind = 1) (hx : sget c.sess ss = some x) (h2 : ¬ c.kind = 2) (h3 : ¬ c.seq < x.seq) (h4 : ¬ c.seq = x.seq) : apply ps ss ix c = (doesP ps c, sput ⟨c.sess, c.seq, doesR ps c⟩ ss, doesR ps c) := by rw [ap_some hg hk hx, if_neg h2, if_neg h3, if_neg h4]
theorem open_full (h : 16 ≤ ss.length) : openS ss ix = ss ∧ openR ss ix = err 7 := by unfold openS openR; rw [if_pos h, if_pos h]; exact ⟨rfl, rfl⟩
theorem open_arg (h : ¬ 16 ≤ ss.length) (h1 : ix < 1) : openS ss ix = ss ∧ openR ss ix = err 2 := by unfold openS openR; rw [if_neg h, if_neg h, if_pos h1, if_pos h1]; exact ⟨rfl, rfl⟩
theorem open_is (h : ¬ 16 ≤ ss.length) (h1 : ¬ ix < 1) (hf : soInt.found Sess.id ix ss = true) : openS ss ix = ss ∧ openR ss ix = err 5 := by unfold openS openR; rw [if_neg h, if_neg h, if_neg h1, if_neg h1, if_pos hf, if_pos hf]; exact ⟨rfl, rfl⟩
theorem open_ok (h : ¬ 16 ≤ ss.length) (h1 : ¬ ix < 1) (hf : soInt.found Sess.id ix ss = false) : openS ss ix = sput ⟨ix, 0, err 0⟩ ss ∧ openR ss ix = ⟨0, false, Cmd.empty, ix, []⟩ := by unfold openS openR; rw [if_neg h, if_neg h, if_neg h1, if_neg h1, hf]; exact ⟨rfl, rfl⟩
end
theorem good_lim {c : Cmd} (h : Cmd.good c = true) (hk : c.kind = 7) : 1 ≤ c.lim ∧ c.lim ≤ 64 := by
  unfold Cmd.good at h
  rw [if_neg (by omega), if_neg (by omega)] at h
  simp at h
  have := h.2.2.2
  unfold Cmd.fit at this
  rw [if_neg (by omega), if_neg (by omega), if_neg (by omega), if_pos hk] at this
  unfold Cmd.scanok at this
  simp at this
  omega
theorem reads_lim {c : Cmd} (h : Cmd.reads c = true) (hk : c.kind = 7) : 1 ≤ c.lim ∧ c.lim ≤ 64 := good_lim (c := { c with sess := 1, seq := 1 }) (Cmd.reads_iff.1 h).2.2.2 hk
theorem good_seq {c : Cmd} (h : Cmd.good c = true) (h1 : ¬ c.kind = 1) (h2 : ¬ c.kind = 2) : 1 ≤ c.seq := by
  unfold Cmd.good at h
  rw [if_neg h1, if_neg h2] at h
  simp at h
  have := h.2.2.1
  omega
end Mod
end Go.Wk
