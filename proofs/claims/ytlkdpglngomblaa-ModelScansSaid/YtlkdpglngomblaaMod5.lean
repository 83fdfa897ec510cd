/- Plain facts of the model. -/
import Derived.Test.YtlkdpglngomblaaMod4
set_option linter.unusedVariables false
set_option linter.unusedSimpArgs false
namespace Go.Wk
open Go Go.RowKit
/-! ### The reference's plain loops on sorted lists -/
theorem drop_at {α : Type} {l : List α} {i : Nat} {z : α} (h : l[i]? = some z) : l.drop i = z :: l.drop (i + 1) := by
  obtain ⟨h1, h2⟩ := List.getElem?_eq_some_iff.1 h
  rw [← h2]
  exact List.drop_eq_getElem_cons h1
theorem take_at {α : Type} {l : List α} {i : Nat} {z : α} (h : l[i]? = some z) : l.take (i + 1) = l.take i ++ [z] := by
  rw [List.take_add_one, h]
  rfl
namespace SO
variable {K T : Type} (o : SO K) (key : T → K)
def insR (x : T) : Bool → List T → List T
  | d, [] => if d then [] else [x]
  | d, p :: l => (if o.lt (key x) (key p) && !d then [x] else []) ++ (p :: insR x (d || o.lt (key x) (key p)) l)
theorem filter_ge {k : K} : ∀ {l : List T}, o.Srt key l → l.filter (fun p => !o.lt (key p) k) = l.drop (o.rank key k l)
  | [], _ => rfl
  | p :: l, hs => by
    have hc := List.pairwise_cons.1 hs
    cases h0 : o.lt (key p) k with
    | true =>
      rw [o.rank_lt key h0, List.filter_cons, if_neg (by rw [h0]; decide), filter_ge hc.2]
      rfl
    | false =>
      rw [o.rank_ge key h0, List.drop_zero]
      refine List.filter_eq_self.2 fun y hy => ?_
      rcases List.mem_cons.1 hy with rfl | hy
      · rw [h0]; rfl
      · cases h1 : o.lt (key y) k with
        | false => rfl
        | true => rw [o.tr (hc.1 y hy) h1] at h0; cases h0
theorem filter_lt {k : K} : ∀ {l : List T}, o.Srt key l → l.filter (fun p => o.lt (key p) k) = l.take (o.rank key k l)
  | [], _ => rfl
  | p :: l, hs => by
    have hc := List.pairwise_cons.1 hs
    cases h0 : o.lt (key p) k with
    | true =>
      rw [o.rank_lt key h0, List.filter_cons, if_pos h0, filter_lt hc.2]
      rfl
    | false =>
      rw [o.rank_ge key h0, List.take_zero]
      refine List.filter_eq_nil_iff.2 fun y hy => ?_
      rcases List.mem_cons.1 hy with rfl | hy
      · rw [h0]; decide
      · intro h1
        rw [o.tr (hc.1 y hy) h1] at h0
        cases h0
variable [DecidableEq K]
end SO
namespace Mod
def inScan (ke ti : ByteArray) (p : Pair) : Bool := !soStr.lt p.key ke && (decide (ti = Cmd.empty) || soStr.lt p.key ti)
theorem srt_take {l : List Pair} {i : Nat} (h : soStr.Srt Pair.key l) : soStr.Srt Pair.key (l.take i) := h.sublist (List.take_sublist _ _)
theorem rank_take {k : ByteArray} : ∀ {l : List Pair} {i : Nat}, soStr.rank Pair.key k (l.take i) = min (soStr.rank Pair.key k l) i
  | [], i => by rw [List.take_nil]; simp [SO.rank]
  | p :: l, 0 => by simp [SO.rank]
  | p :: l, i + 1 => by
    rw [List.take_succ_cons]
    cases h0 : soStr.lt p.key k with
    | true => rw [soStr.rank_lt Pair.key h0, soStr.rank_lt Pair.key h0, rank_take]; omega
    | false => rw [soStr.rank_ge Pair.key h0, soStr.rank_ge Pair.key h0]; omega
theorem scan_filter {ke ti : ByteArray} {li : Int} {l : List Pair} (hs : soStr.Srt Pair.key l) : scanL ke ti li l = (l.filter (inScan ke ti)).take li.toNat := by
  have hr1 := soStr.rank_le Pair.key ke l
  have hr2 := soStr.rank_le Pair.key ti l
  have key : ∀ e : Nat, (l.take (min (max e (rk ke l)) (rk ke l + li.toNat))).drop (rk ke l) = ((l.take e).drop (rk ke l)).take li.toNat := by
    intro e
    rw [List.drop_take, List.drop_take, List.take_take]
    congr 1
    omega
  by_cases ht : ti = Cmd.empty
  · have hf : l.filter (inScan ke ti) = l.drop (rk ke l) := by
      have e : inScan ke ti = fun p => !soStr.lt p.key ke := by
        funext p
        unfold inScan
        rw [decide_eq_true ht]
        simp
      rw [e]
      exact soStr.filter_ge Pair.key hs
    unfold scanL scanEnd
    rw [if_pos ht, hf, key, List.take_length]
  · have hf : l.filter (inScan ke ti) = (l.take (rk ti l)).drop (rk ke l) := by
      have e : inScan ke ti = fun p => (!soStr.lt p.key ke) && (soStr.lt p.key ti) := by
        funext p
        unfold inScan
        rw [decide_eq_false ht]
        simp
      rw [e, ← List.filter_filter, soStr.filter_lt Pair.key hs, soStr.filter_ge Pair.key (srt_take hs), rank_take]
      unfold rk
      by_cases h : soStr.rank Pair.key ke l ≤ soStr.rank Pair.key ti l
      · rw [Nat.min_eq_left h]
      · rw [Nat.min_eq_right (by omega), List.drop_eq_nil_of_le (by rw [List.length_take]; omega), List.drop_eq_nil_of_le (by rw [List.length_take]; omega)]
    unfold scanL scanEnd
    rw [if_neg ht, hf, key]
def findI (k : Int) (l : List Sess) : Int := if soInt.found Sess.id k l = true then (soInt.rank Sess.id k l : Int) else -1
def openE (ss : List Sess) (ix : Int) : Int := (openR ss ix).err
def askE (ss : List Sess) (id seq : Int) : Int := match sget id ss with
  | none => 14
  | some x => if seq < x.seq then 15 else if seq = x.seq then 0 else 4
end Mod
end Go.Wk
namespace Go.Wk.Mod
open Go
def sessR (k : Int) (l : List Sess) : Reply := match sget k l with
  | some x => x.rep
  | none => err 0
end Go.Wk.Mod
namespace Go.Wk
open Go Go.RowKit
end Go.Wk
namespace Go.Wk.Mod
open Go
section
variable {ps : List Pair} {ss : List Sess} {ix : Int} {c : Cmd}
end
end Go.Wk.Mod
