/- Plain facts of the model. -/
import Derived.Test.YtlkdpglngomblaaMod5
set_option linter.unusedVariables false
set_option linter.unusedSimpArgs false
namespace Go.Wk
open Go
/-! ### What the model's laws say of states -/
namespace SO
variable {K T : Type} [DecidableEq K] (o : SO K) (key : T → K)
end SO
namespace Mod
theorem query_err {ps : List Pair} {c : Cmd} : (query ps c).err = 0 ∨ (query ps c).err = 2 := by
  unfold query
  split
  · exact .inr rfl
  · rename_i h
    unfold doesR
    split
    · rename_i hk
      have := (Cmd.reads_iff.1 (by simpa using h)).2.2.1
      omega
    · left
      split
      · rfl
      · split
        · rfl
        · split
          · rfl
          · rfl
theorem query_scan {ps : List Pair} {c : Cmd} (h : ¬ (query ps c).err ≠ 0) (hk : ¬ c.kind ≠ 7) : query ps c = ⟨0, false, Cmd.empty, 0, scanL c.key c.til c.lim ps⟩ ∧ 1 ≤ c.lim ∧ c.lim ≤ 64 := by
  have hk := Decidable.not_not.1 hk
  have h := Decidable.not_not.1 h
  unfold query at h ⊢
  split at h
  · cases h
  · rename_i hr
    rw [if_neg hr]
    exact ⟨(does_scan hk).2, reads_lim (by simpa using hr) hk⟩
theorem scan_at {ke ti : ByteArray} {li : Int} {l : List Pair} {i : Nat} {z : Pair} (hs : soStr.Srt Pair.key l) (hz : l[i]? = some z) (hin : inScan ke ti z = true) (hn : (((l.take i).filter (inScan ke ti)).length : Int) < li) : (scanL ke ti li l)[((l.take i).filter (inScan ke ti)).length]? = some z := by
  rw [scan_filter hs]
  have hl : l = l.take i ++ z :: l.drop (i + 1) := by rw [← drop_at hz, List.take_append_drop]
  have hf : l.filter (inScan ke ti) = (l.take i).filter (inScan ke ti) ++ z :: (l.drop (i + 1)).filter (inScan ke ti) := by
    conv => lhs; rw [hl]
    rw [List.filter_append, List.filter_cons, if_pos hin]
  rw [hf, List.getElem?_take, if_pos (by omega), List.getElem?_append_right (Nat.le_refl _)]
  simp
theorem count_next {ke ti : ByteArray} {l : List Pair} {i : Nat} {z : Pair} (hz : l[i]? = some z) : ((l.take (i + 1)).filter (inScan ke ti)).length = ((l.take i).filter (inScan ke ti)).length + if inScan ke ti z = true then 1 else 0 := by
  rw [take_at hz, List.filter_append, List.length_append, List.filter_cons]
  congr 1
  split <;> rfl
theorem scan_count {ke ti : ByteArray} {li : Int} {l : List Pair} (hs : soStr.Srt Pair.key l) : (scanL ke ti li l).length = min li.toNat (l.filter (inScan ke ti)).length := by
  rw [scan_filter hs, List.length_take]
/-! The document's example -/
def c0 : Cmd := ⟨1, 0, 0, ⟨#[]⟩, ⟨#[]⟩, ⟨#[]⟩, ⟨#[]⟩, 0⟩
def cp (sq : Int) (v : ByteArray) : Cmd := ⟨3, 1, sq, ⟨#[107]⟩, ⟨#[]⟩, v, ⟨#[]⟩, 0⟩
def ex1 : Out := apply [] [] 1 c0
def ex2 : Out := apply ex1.1 ex1.2.1 2 (cp 1 ⟨#[118]⟩)
def ex3 : Out := apply ex2.1 ex2.2.1 3 (cp 1 ⟨#[118]⟩)
def ex4 : Out := apply ex3.1 ex3.2.1 4 (cp 2 ⟨#[119]⟩)
theorem ex1_inv : Inv ex1.1 ex1.2.1 := Inv.nil.apply
theorem ex2_inv : Inv ex2.1 ex2.2.1 := ex1_inv.apply
theorem ex3_inv : Inv ex3.1 ex3.2.1 := ex2_inv.apply
theorem ex_ok : ex1.2.2.sess = 1 ∧ ex2.2.2.found = false ∧ ex2.2.2.err = 0 ∧ ex2.2.2 = ex3.2.2 ∧ ex4.2.2.found = true ∧ ex4.2.2.val = ⟨#[118]⟩ ∧ ex4.1 = [⟨⟨#[107]⟩, ⟨#[119]⟩⟩] := by decide +kernel
end Mod
end Go.Wk
