/- Plain facts of the model. -/
import Derived.Test.YtlkdpglngomblaaMod4
set_option linter.unusedVariables false
set_option linter.unusedSimpArgs false
namespace Go.Wk
open Go Go.RowKit
/-! ### The reference's plain loops on sorted lists -/
theorem drop_at {α : Type} {l : List α} {i : Nat} {z : α} (h : l[i]? = some z) : l.drop i = z :: l.drop (i + 1) := by
  obtain ⟨h1, h2⟩ := List.getElem?_eq_some_iff.1 h
  rw [← h2]
  exact List.drop_eq_getElem_cons h1
theorem rowRep.upd {α : Type} {kd : Kd α} {ok : Nat → Prop} {w : World} {xs : List α} {vs us cs ts cs' : List Value} {j : Nat} {z z' : α} (h : rowRep kd ok w xs vs) (hj : xs[j]? = some z) (hv : vs = us ++ (cs ++ ts)) (hu : us.length = j * kd.n) (hc : cs.length = kd.n) (hz : kd.rep ok w z' cs') :
    rowRep kd ok w (xs.set j z') (us ++ (cs' ++ ts)) := by
  obtain ⟨us2, cs2, ts2, e, hl, hr, h1, h2⟩ := h.at_ hj
  rw [hv] at e
  obtain ⟨e1, e2⟩ := List.append_inj e (by rw [hu, hl])
  obtain ⟨_, e3⟩ := List.append_inj e2 (by rw [hc, kd.len hr])
  subst e1 e3
  have hlt := (List.getElem?_eq_some_iff.1 hj).1
  rw [List.set_eq_take_append_cons_drop, if_pos hlt]
  exact h1.append ⟨cs', _, rfl, hz, h2⟩
namespace SO
variable {K T : Type} (o : SO K) (key : T → K)
def insR (x : T) : Bool → List T → List T
  | d, [] => if d then [] else [x]
  | d, p :: l => (if o.lt (key x) (key p) && !d then [x] else []) ++ (p :: insR x (d || o.lt (key x) (key p)) l)
variable [DecidableEq K]
end SO
namespace Mod
def inScan (ke ti : ByteArray) (p : Pair) : Bool := !soStr.lt p.key ke && (decide (ti = Cmd.empty) || soStr.lt p.key ti)
def findI (k : Int) (l : List Sess) : Int := if soInt.found Sess.id k l = true then (soInt.rank Sess.id k l : Int) else -1
def openE (ss : List Sess) (ix : Int) : Int := (openR ss ix).err
def askE (ss : List Sess) (id seq : Int) : Int := match sget id ss with
  | none => 14
  | some x => if seq < x.seq then 15 else if seq = x.seq then 0 else 4
end Mod
end Go.Wk
namespace Go.Wk.Mod
open Go
def sessR (k : Int) (l : List Sess) : Reply := match sget k l with
  | some x => x.rep
  | none => err 0
end Go.Wk.Mod
namespace Go.Wk
open Go Go.RowKit
end Go.Wk
namespace Go.Wk.Mod
open Go
section
variable {ps : List Pair} {ss : List Sess} {ix : Int} {c : Cmd}
end
end Go.Wk.Mod
