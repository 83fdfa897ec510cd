/- Plain facts that the proof of this law leans on. -/
import Derived.Test.YtdaphlemhmgncaaGreatNet
set_option linter.unusedVariables false
set_option linter.unusedSimpArgs false
namespace Go.Wk.Net
open Go Cod
/-! ### What was sent comes back; what was turned is seen -/
theorem look_sent {m : Msg} {i : Int} {n : Nat} (hs : Ent.saneM m) (hg : Ent.goodMsg m = true) (hf : Ent.few m.ents m.snap = true) (h : ix i n < n) : look i n (frame (Ent.msgB m)) = (m, 0) := by
  have hl := Ent.msg_len (m := m) hf
  have hu : unframe (frame (Ent.msgB m)) = (Ent.msgB m, (Ent.msgB m).length + 8, 0) := by
    have := unframe_frame (b := Ent.msgB m) (by omega) []
    rwa [List.append_nil] at this
  rw [look_ok h (by rw [hu, frame_length (by omega)]; exact ⟨rfl, rfl⟩), hu]
  exact Ent.readM_enc hs hg
theorem sent_len {m : Msg} (hf : Ent.few m.ents m.snap = true) : (frame (Ent.msgB m)).length ≤ 100000 ∧ 18 ≤ (frame (Ent.msgB m)).length := by
  have hl := Ent.msg_len (m := m) hf
  rw [frame_length (by omega)]
  omega
theorem look_spoilt {m : Msg} {i : Int} {n q j : Nat} (hf : Ent.few m.ents m.snap = true) (hq : q < 14) (hj : j < 8) (h : ix i n < n) : look i n (spl (frame (Ent.msgB m)) ((4 + q : Nat) : Int) (j : Int)) = (Ent.zeroM, 8) := by
  have hl := Ent.msg_len (m := m) hf
  have hfl := sent_len hf
  have hk : 4 + q < (frame (Ent.msgB m)).length := by omega
  have hz : (frame (Ent.msgB m))[4 + q]? = some ((frame (Ent.msgB m))[4 + q]'hk) := List.getElem?_eq_getElem hk
  rw [spl_yes ⟨by omega, by omega, by omega, by omega⟩ hz]
  refine look_bad h fun h2 => ?_
  rw [tells_flip (by omega) (by omega) hj hz] at h2
  exact absurd h2.1 (by decide)
theorem spoil_ok {m : Msg} {i : Int} {n q j : Nat} (hf : Ent.few m.ents m.snap = true) (hq : q < 14) (hj : j < 8) (h : ix i n < n) : splE i n (frame (Ent.msgB m)) ((4 + q : Nat) : Int) (j : Int) = 0 := by
  have hfl := sent_len hf
  unfold splE
  rw [if_pos h, if_pos ⟨by omega, by omega, by omega, by omega⟩]
theorem sendE_yes {mo : Int} {n : Nat} {m : Msg} (h : (n : Int) < mo) : sendE mo n m = 0 ↔ Ent.goodMsg m = true := by
  unfold sendE
  rw [if_pos h]
  split <;> simp_all
theorem sendD {mo : Int} {n : Nat} {m : Msg} (h : (n : Int) < mo) : decide (sendE mo n m = 0) = Ent.goodMsg m := by
  have := sendE_yes (m := m) h
  cases hg : Ent.goodMsg m
  · exact decide_eq_false fun e => absurd (hg.symm.trans (this.1 e)) (by decide)
  · exact decide_eq_true (this.2 hg)
theorem ix_zero {n : Nat} : ix 0 n = 0 := ix_nat (k := 0)
theorem cut_eq {α : Type} (ms : List α) (k : Nat) : [] ++ (ms.take k).drop 0 ++ (ms.take ms.length).drop (k + 1) = ms.eraseIdx k := by
  rw [eraseIdx_take_drop]
  simp
def Sent (G : List Rw) (ms : List Msg) : Prop := G.map (fun r => r.b) = ms.map (fun m => frame (Ent.msgB m)) ∧ ∀ m ∈ ms, Ent.saneM m ∧ Ent.goodMsg m = true ∧ Ent.few m.ents m.snap = true
section
variable {G : List Rw} {ms : List Msg} {k : Nat}
theorem Sent.nil : Sent [] [] := ⟨rfl, fun _ h => nomatch h⟩
theorem Sent.len (h : Sent G ms) : G.length = ms.length := by
  have := congrArg List.length h.1
  simpa using this
theorem Sent.le (h : Sent G ms) : ∀ r ∈ G, r.b.length ≤ 100000 := fun r hr => by
  have hm : r.b ∈ ms.map (fun m => frame (Ent.msgB m)) := h.1 ▸ List.mem_map.2 ⟨r, hr, rfl⟩
  obtain ⟨m, hm, e⟩ := List.mem_map.1 hm
  rw [← e]
  exact (sent_len (h.2 m hm).2.2).1
theorem Sent.row (h : Sent G ms) {m : Msg} (hk : ms[k]? = some m) : (rowAt G k).b = frame (Ent.msgB m) ∧ Ent.saneM m ∧ Ent.goodMsg m = true ∧ Ent.few m.ents m.snap = true := by
  refine ⟨?_, h.2 m (List.mem_of_getElem? hk)⟩
  have h1 : (G.map (fun r => r.b))[k]? = (ms.map (fun m => frame (Ent.msgB m)))[k]? := by rw [h.1]
  rw [List.getElem?_map, List.getElem?_map, hk] at h1
  unfold rowAt
  cases hg : G[k]? with
  | none => rw [hg] at h1; cases h1
  | some r =>
    rw [hg] at h1
    exact Option.some.inj h1
theorem Sent.more (h : Sent G ms) {m : Msg} {a : Option Addr} {c : Nat} (hm : Ent.saneM m ∧ Ent.goodMsg m = true ∧ Ent.few m.ents m.snap = true) : Sent (G ++ [⟨a, c, frame (Ent.msgB m)⟩]) (ms ++ [m]) := by
  refine ⟨by simp [h.1], fun x hx => ?_⟩
  rcases List.mem_append.1 hx with hx | hx
  · exact h.2 x hx
  · rw [List.mem_singleton.1 hx]
    exact hm
theorem Sent.erase (h : Sent G ms) : Sent (G.eraseIdx k) (ms.eraseIdx k) := by
  refine ⟨?_, fun x hx => h.2 x (List.mem_of_mem_eraseIdx hx)⟩
  rw [← map_erase, ← map_erase, h.1]
end
end Go.Wk.Net
namespace Go.Wk
theorem H_rng {P : Program} {Q : Post} {n : Nat} {k : List It} {ρ : Env} {w0 : World} {ok0 M : Nat → Prop} {X : List Atom} {l : List Int} {cs : List Value} {i : Nat} (hi : X[i]? = some (.dat kInt.sl l cs)) (h : (∀ x ∈ l, Ent.rng x) → H P Q n k ρ (Asn w0 ok0 M X)) : H P Q n k ρ (Asn w0 ok0 M X) :=
  H_pure (fun _ hA => Ent.rows_rng (hA.get hi)) h
end Go.Wk
