/- Plain facts that the proof of this law leans on. -/
import Derived.Test.YtdaphlemhmgncaaGreatKinds2
import Derived.Test.YtdaphlemhmgncaaGreatCod4
import Derived.Test.YtdaphlemhmgncaaGreatEnt4
set_option linter.unusedVariables false
set_option linter.unusedSimpArgs false
namespace Go.Wk
open Go Cod
abbrev Rw.bs (r : Rw) : Bs := ⟨r.b⟩
namespace Net
/-! ### A net of messages in frames -/
def ix (i : Int) (n : Nat) : Nat := if 0 ≤ i then i.toNat else n
theorem ix_lt {i : Int} {n : Nat} : ix i n < n ↔ 0 ≤ i ∧ i < (n : Int) := by
  unfold ix
  split <;> omega
theorem ix_eq {i : Int} {n : Nat} (h : ix i n < n) : i = (ix i n : Int) := by
  have := ix_lt.1 h
  unfold ix
  rw [if_pos this.1]
  omega
theorem ix_nat {k n : Nat} : ix (k : Int) n = k := by
  unfold ix
  rw [if_pos (by omega)]
  rfl
theorem ix_ge {i : Int} {n : Nat} (h : ¬ ix i n < n) : n ≤ ix i n := Nat.le_of_not_lt h
def few (l : List Ent) (s : Snap) : Bool := decide (Ent.fewS s + Ent.wsum l ≤ 200)
theorem few_more {l : List Ent} {s : Snap} (h : few l s = true) : Ent.few l s = true := by
  have := of_decide_eq_true h
  exact decide_eq_true (by omega)
theorem few_no {l : List Ent} {s : Snap} {i : Nat} {z : Ent} (h : l[i]? = some z) {n : Int} (hn : n = Ent.fewS s + Ent.wsum (l.take i)) (hg : 200 < n + Ent.weight z) : false = few l s := by
  have h1 := Ent.wsum_le l (i + 1)
  have h2 := Ent.wsum_next h
  exact (decide_eq_false (by omega)).symm
theorem few_ok {l : List Ent} {s : Snap} {n : Int} (hn : n = Ent.fewS s + Ent.wsum (l.take l.length)) : decide (n ≤ 200) = few l s := by
  rw [hn, List.take_length]
  rfl
def mayE (i : Int) (n : Nat) : Int := if ix i n < n then 0 else 4
theorem mayE_yes {i : Int} {n : Nat} : mayE i n = 0 ↔ ix i n < n := by
  unfold mayE
  split <;> simp_all
theorem mayE_no {i : Int} {n : Nat} (h : ¬ ix i n < n) : mayE i n = 4 := if_neg h
def look (i : Int) (n : Nat) (b : List UInt8) : Msg × Int :=
  if ix i n < n then (if (unframe b).2.2 = 0 ∧ (unframe b).2.1 = b.length then Ent.readM (unframe b).1 else (Ent.zeroM, 8)) else (Ent.zeroM, 4)
theorem look_no {i : Int} {n : Nat} {b : List UInt8} (h : ¬ ix i n < n) : look i n b = (Ent.zeroM, 4) := if_neg h
theorem look_bad {i : Int} {n : Nat} {b : List UInt8} (h : ix i n < n) (h2 : ¬ ((unframe b).2.2 = 0 ∧ (unframe b).2.1 = b.length)) : look i n b = (Ent.zeroM, 8) := by
  unfold look
  rw [if_pos h, if_neg h2]
theorem look_ok {i : Int} {n : Nat} {b : List UInt8} (h : ix i n < n) (h2 : (unframe b).2.2 = 0 ∧ (unframe b).2.1 = b.length) : look i n b = Ent.readM (unframe b).1 := by
  unfold look
  rw [if_pos h, if_pos h2]
theorem unf_len (b : List UInt8) : (unframe b).1.length ≤ b.length := by
  unfold unframe
  repeat' split
  all_goals simp
  omega
abbrev sendP (mo : Int) (n : Nat) (m : Msg) : Prop := Ent.goodMsg m = true ∧ (n : Int) < mo
def sendE (mo : Int) (n : Nat) (m : Msg) : Int := if Ent.goodMsg m = true then (if (n : Int) < mo then 0 else 7) else 2
def sendH (mo : Int) (hs : List Hd) (m : Msg) (a : Option Addr) (c : Nat) : List Hd := if sendP mo hs.length m then hs ++ [⟨a, (frame (Ent.msgB m)).length, c⟩] else hs
def sendB (mo : Int) (n : Nat) (m : Msg) : List UInt8 := if sendP mo n m then frame (Ent.msgB m) else []
def sendL (mo : Int) (L : List Bs) (m : Msg) : List Bs := if sendP mo L.length m then L ++ [⟨frame (Ent.msgB m)⟩] else L
section
variable {mo : Int} {n : Nat} {m : Msg} {hs : List Hd} {a : Option Addr} {c : Nat} {L : List Bs}
theorem sendH_no (h : ¬ sendP mo hs.length m) : sendH mo hs m a c = hs := if_neg h
theorem sendH_yes (h : sendP mo hs.length m) : sendH mo hs m a c = hs ++ [⟨a, (frame (Ent.msgB m)).length, c⟩] := if_pos h
theorem sendB_no (h : ¬ sendP mo n m) : sendB mo n m = [] := if_neg h
theorem sendB_yes (h : sendP mo n m) : sendB mo n m = frame (Ent.msgB m) := if_pos h
theorem sendL_no (h : ¬ sendP mo L.length m) : sendL mo L m = L := if_neg h
theorem sendL_yes (h : sendP mo L.length m) : sendL mo L m = L ++ [⟨frame (Ent.msgB m)⟩] := if_pos h
end
abbrev dblP (mo : Int) (n : Nat) (i : Int) : Prop := ix i n < n ∧ (n : Int) < mo
def dblE (mo : Int) (n : Nat) (i : Int) : Int := if ix i n < n then (if (n : Int) < mo then 0 else 7) else 4
def dblH (mo : Int) (hs : List Hd) (i : Int) (b : List UInt8) (a : Option Addr) (c : Nat) : List Hd := if dblP mo hs.length i then hs ++ [⟨a, b.length, c⟩] else hs
def dblB (mo : Int) (n : Nat) (i : Int) (b : List UInt8) : List UInt8 := if dblP mo n i then b else []
abbrev bsAt (L : List Bs) (k : Nat) : List UInt8 := ((L[k]?).getD ⟨[]⟩).b
theorem bs_get {L : List Bs} {k : Nat} {z : Bs} (h : L[k]? = some z) : bsAt L k = z.b := by
  unfold bsAt
  rw [h]
  rfl
theorem set_same' {L : List Bs} {k : Nat} : L.set k ⟨bsAt L k⟩ = L := by
  cases hk : L[k]? with
  | none => exact List.set_eq_of_length_le (List.getElem?_eq_none_iff.1 hk)
  | some z =>
    rw [bs_get hk, set_take_drop (List.getElem?_eq_some_iff.1 hk).1]
    exact (split_at hk).symm
theorem bs_no {L : List Bs} {k : Nat} (h : ¬ k < L.length) : bsAt L k = [] := by
  unfold bsAt
  rw [List.getElem?_eq_none_iff.2 (Nat.le_of_not_lt h)]
  rfl
def dblL (mo : Int) (L : List Bs) (i : Int) : List Bs := if dblP mo L.length i then L ++ [⟨bsAt L (ix i L.length)⟩] else L
section
variable {mo : Int} {n : Nat} {i : Int} {hs : List Hd} {a : Option Addr} {c : Nat} {L : List Bs} {b : List UInt8}
theorem dblH_no (h : ¬ dblP mo hs.length i) : dblH mo hs i b a c = hs := if_neg h
theorem dblH_yes (h : dblP mo hs.length i) : dblH mo hs i b a c = hs ++ [⟨a, b.length, c⟩] := if_pos h
theorem dblB_no (h : ¬ dblP mo n i) : dblB mo n i b = [] := if_neg h
theorem dblB_yes (h : dblP mo n i) : dblB mo n i b = b := if_pos h
theorem dblL_no (h : ¬ dblP mo L.length i) : dblL mo L i = L := if_neg h
theorem dblL_yes (h : dblP mo L.length i) : dblL mo L i = L ++ [⟨bsAt L (ix i L.length)⟩] := if_pos h
end
abbrev splP (b : List UInt8) (at_ bit : Int) : Prop := 0 ≤ at_ ∧ at_ < (b.length : Int) ∧ 0 ≤ bit ∧ bit ≤ 7
def flip (b : List UInt8) (k j : Nat) : List UInt8 := b.set k (UInt8.ofNat (((b[k]?).getD 0).toNat ^^^ (1 * 2 ^ j % 2 ^ 8)))
def spl (b : List UInt8) (at_ bit : Int) : List UInt8 := if splP b at_ bit then flip b at_.toNat bit.toNat else b
def splE (i : Int) (n : Nat) (b : List UInt8) (at_ bit : Int) : Int := if ix i n < n then (if splP b at_ bit then 0 else 2) else 4
theorem spl_no {b : List UInt8} {at_ bit : Int} (h : ¬ splP b at_ bit) : spl b at_ bit = b := if_neg h
theorem spl_yes {b : List UInt8} {k j : Nat} {z : UInt8} (h : splP b (k : Int) (j : Int)) (hz : b[k]? = some z) : spl b (k : Int) (j : Int) = b.set k (UInt8.ofNat (z.toNat ^^^ (1 * 2 ^ j % 2 ^ 8))) := by
  unfold spl flip
  rw [if_pos h, show ((k : Int)).toNat = k from rfl, show ((j : Int)).toNat = j from rfl, hz]
  rfl
theorem spl_len (b : List UInt8) (at_ bit : Int) : (spl b at_ bit).length = b.length := by
  unfold spl flip
  split <;> simp
/-! ### Rows, and what the others see of them -/
section
variable {G : List Rw} {k : Nat}
theorem map_erase {α β : Type} (f : α → β) : ∀ (l : List α) (k : Nat), (l.map f).eraseIdx k = (l.eraseIdx k).map f
  | [], _ => by simp
  | x :: l, 0 => by simp
  | x :: l, k + 1 => by simp [map_erase f l k]
theorem hd_at (h : k < (G.map Rw.hd).length) : (G.map Rw.hd)[k]? = some ⟨(rowAt G k).a, (rowAt G k).b.length, (rowAt G k).c⟩ := by
  rw [List.length_map] at h
  rw [List.getElem?_map, List.getElem?_eq_getElem h]
  simp [rowAt, List.getElem?_eq_getElem h]
theorem bs_at : bsAt (G.map Rw.bs) k = (rowAt G k).b := by
  unfold bsAt rowAt
  rw [List.getElem?_map]
  cases G[k]? <;> rfl
theorem row_le {n : Nat} (h : ∀ r ∈ G, r.b.length ≤ n) : (rowAt G k).b.length ≤ n := by
  unfold rowAt
  cases hk : G[k]? with
  | none => simp
  | some r => exact h r (List.mem_of_getElem? hk)
theorem erase_le {n : Nat} (h : ∀ r ∈ G, r.b.length ≤ n) : ∀ r ∈ G.eraseIdx k, r.b.length ≤ n := fun r hr => h r (List.mem_of_mem_eraseIdx hr)
theorem map_set {α β : Type} (f : α → β) (l : List α) (k : Nat) (x : α) : (l.set k x).map f = (l.map f).set k (f x) := List.map_set
theorem set_hd {xs : List UInt8} (h : xs.length = (rowAt G k).b.length) : (G.set k ⟨(rowAt G k).a, (rowAt G k).c, xs⟩).map Rw.hd = G.map Rw.hd := by
  cases hk : G[k]? with
  | none => rw [List.set_eq_of_length_le (List.getElem?_eq_none_iff.1 hk)]
  | some r =>
    have e : rowAt G k = r := by simp [rowAt, hk]
    rw [e] at h ⊢
    apply List.ext_getElem?
    intro j
    rw [List.getElem?_map, List.getElem?_map, List.getElem?_set]
    split
    · rename_i hj
      subst hj
      have hlt := (List.getElem?_eq_some_iff.1 hk).1
      rw [if_pos hlt, hk]
      simp only [Option.map_some, Rw.hd, h]
    · rfl
theorem set_le {n : Nat} {xs : List UInt8} {a : Option Addr} {c : Nat} (h : ∀ r ∈ G, r.b.length ≤ n) (hx : xs.length ≤ n) : ∀ r ∈ G.set k ⟨a, c, xs⟩, r.b.length ≤ n := fun r hr => by
  rcases List.mem_or_eq_of_mem_set hr with hr | rfl
  · exact h r hr
  · exact hx
theorem more_le {n : Nat} {xs : List UInt8} {a : Option Addr} {c : Nat} {p : Prop} [Decidable p] (h : ∀ r ∈ G, r.b.length ≤ n) (hx : xs.length ≤ n) : ∀ r ∈ (if p then G ++ [⟨a, c, xs⟩] else G), r.b.length ≤ n := fun r hr => by
  split at hr
  · rcases List.mem_append.1 hr with hr | hr
    · exact h r hr
    · rw [List.mem_singleton.1 hr]
      exact hx
  · exact h r hr
theorem send_hd {mo : Int} {m : Msg} {a : Option Addr} {c : Nat} : (if sendP mo (G.map Rw.hd).length m then G ++ [⟨a, c, sendB mo (G.map Rw.hd).length m⟩] else G).map Rw.hd = sendH mo (G.map Rw.hd) m a c := by
  unfold sendH
  split
  · rename_i h
    rw [sendB_yes h]
    simp
  · rfl
theorem send_bs {mo : Int} {m : Msg} {a : Option Addr} {c : Nat} : (if sendP mo (G.map Rw.hd).length m then G ++ [⟨a, c, sendB mo (G.map Rw.hd).length m⟩] else G).map Rw.bs = sendL mo (G.map Rw.bs) m := by
  unfold sendL
  rw [List.length_map, List.length_map]
  split
  · rename_i h
    rw [sendB_yes h]
    simp
  · rfl
theorem dbl_hd {mo i : Int} {a : Option Addr} {c : Nat} : (if dblP mo (G.map Rw.hd).length i then G ++ [⟨a, c, dblB mo (G.map Rw.hd).length i (rowAt G k).b⟩] else G).map Rw.hd = dblH mo (G.map Rw.hd) i (rowAt G k).b a c := by
  unfold dblH
  split
  · rename_i h
    rw [dblB_yes h]
    simp
  · rfl
theorem dbl_bs {mo i : Int} {a : Option Addr} {c : Nat} : (if dblP mo (G.map Rw.hd).length i then G ++ [⟨a, c, dblB mo (G.map Rw.hd).length i (rowAt G (ix i (G.map Rw.hd).length)).b⟩] else G).map Rw.bs = dblL mo (G.map Rw.bs) i := by
  unfold dblL
  rw [List.length_map, List.length_map, bs_at]
  split
  · rename_i h
    rw [dblB_yes h]
    simp
  · rfl
theorem erase_hd : (G.eraseIdx k).map Rw.hd = (G.map Rw.hd).eraseIdx k := (map_erase _ _ _).symm
theorem erase_bs {i : Int} : (G.eraseIdx (ix i (G.map Rw.hd).length)).map Rw.bs = (G.map Rw.bs).eraseIdx (ix i (G.map Rw.bs).length) := by
  rw [map_erase, List.length_map, List.length_map]
theorem look_bs {i : Int} : look i (G.map Rw.bs).length (bsAt (G.map Rw.bs) (ix i (G.map Rw.bs).length)) = look i (G.map Rw.hd).length (rowAt G (ix i (G.map Rw.hd).length)).b := by
  rw [bs_at, List.length_map, List.length_map]
theorem spl_bs {i at_ bi : Int} {a : Option Addr} {c : Nat} : (G.set (ix i (G.map Rw.hd).length) ⟨a, c, spl (rowAt G (ix i (G.map Rw.hd).length)).b at_ bi⟩).map Rw.bs = (G.map Rw.bs).set (ix i (G.map Rw.bs).length) ⟨spl (bsAt (G.map Rw.bs) (ix i (G.map Rw.bs).length)) at_ bi⟩ := by
  rw [map_set, bs_at, List.length_map, List.length_map]
theorem splE_bs {i at_ bi : Int} : splE i (G.map Rw.hd).length (rowAt G (ix i (G.map Rw.hd).length)).b at_ bi = splE i (G.map Rw.bs).length (bsAt (G.map Rw.bs) (ix i (G.map Rw.bs).length)) at_ bi := by
  rw [bs_at, List.length_map, List.length_map]
theorem row_none (h : ¬ k < (G.map Rw.hd).length) : (rowAt G k).b = [] := by
  rw [List.length_map] at h
  rw [rowAt, List.getElem?_eq_none_iff.2 (Nat.le_of_not_lt h)]
  rfl
theorem bs_le {n : Nat} (h : ∀ r ∈ G, r.b.length ≤ n) : (bsAt (G.map Rw.bs) k).length ≤ n := by
  rw [bs_at]
  exact row_le h
theorem sendB_le {mo : Int} {n : Nat} {m : Msg} (h : Ent.few m.ents m.snap = true) : (sendB mo n m).length ≤ 100000 := by
  unfold sendB
  have := Ent.msg_len (m := m) h
  split
  · rw [frame_length (by omega)]
    omega
  · simp
theorem dblB_le {mo i : Int} {n : Nat} {b : List UInt8} (h : b.length ≤ 100000) : (dblB mo n i b).length ≤ 100000 := by
  unfold dblB
  split
  · exact h
  · simp
theorem len_send {mo : Int} {m : Msg} {r : Rw} (h : (G.length : Int) ≤ mo) : ((if sendP mo (G.map Rw.hd).length m then G ++ [r] else G).length : Int) ≤ mo := by
  rw [List.length_map]
  split
  · rename_i h1
    have := h1.2
    simp
    omega
  · exact h
theorem len_dbl {mo i : Int} {r : Rw} (h : (G.length : Int) ≤ mo) : ((if dblP mo (G.map Rw.hd).length i then G ++ [r] else G).length : Int) ≤ mo := by
  rw [List.length_map]
  split
  · rename_i h1
    have := h1.2
    simp
    omega
  · exact h
theorem len_erase {mo : Int} (h : (G.length : Int) ≤ mo) : ((G.eraseIdx k).length : Int) ≤ mo := by
  have := List.length_eraseIdx_le G k
  omega
end
theorem most_cases (mo : Int) : ¬ (1 ≤ mo ∧ mo ≤ 1000) ∨ (1 ≤ mo ∧ mo ≤ 1000) := by omega
def step (m : Msg) : Int := 1 + (m.ents.length : Int) + (m.snap.data.length : Int) / 50
theorem step_rng {m : Msg} (h : Ent.few m.ents m.snap = true) : 1 ≤ step m ∧ step m ≤ 1001 := by
  have := Ent.few_parts h
  unfold step
  omega
end Net
theorem H_sanes {P : Program} {Q : Post} {n : Nat} {k : List It} {ρ : Env} {w0 : World} {ok0 M : Nat → Prop} {X : List Atom} {l : List Ent} {cs : List Value} {i : Nat} (hi : X[i]? = some (.dat kEnt.sl l cs)) (h : Ent.sanes l → H P Q n k ρ (Asn w0 ok0 M X)) : H P Q n k ρ (Asn w0 ok0 M X) :=
  H_pure (fun _ hA => Ent.rows_sanes (hA.get hi)) h
end Go.Wk
