/- Plain facts of the model. -/
import Derived.Test.YtlkdpglngomblaaMod4
set_option linter.unusedVariables false
set_option linter.unusedSimpArgs false
namespace Go.Wk
open Go Go.RowKit
/-! ### The reference's plain loops on sorted lists -/
namespace SO
variable {K T : Type} (o : SO K) (key : T → K)
def insR (x : T) : Bool → List T → List T
  | d, [] => if d then [] else [x]
  | d, p :: l => (if o.lt (key x) (key p) && !d then [x] else []) ++ (p :: insR x (d || o.lt (key x) (key p)) l)
theorem rank_hit {k : K} {l : List T} {i : Nat} {z : T} (hs : o.Srt key l) (hz : l[i]? = some z) (hk : key z = k) : o.rank key k l = i := by
  subst hk
  obtain ⟨h1, e1⟩ := List.getElem?_eq_some_iff.1 hz
  refine (o.rank_is key (Nat.le_of_lt h1) hs (fun j x hj hx => ?_) (fun j x hj hx => ?_)).symm
  · obtain ⟨h2, e2⟩ := List.getElem?_eq_some_iff.1 hx
    have := List.pairwise_iff_getElem.1 hs j i h2 h1 hj
    rwa [e1, e2] at this
  · exact o.bs_hi key hs hz (o.irr _) j x hj hx
variable [DecidableEq K]
theorem found_hit {k : K} {l : List T} {i : Nat} {z : T} (hs : o.Srt key l) (hz : l[i]? = some z) (hk : key z = k) : o.found key k l = true := by
  have := o.rank_hit key hs hz hk
  rw [o.found_at key (z := z) (by rw [this]; exact hz)]
  exact decide_eq_true hk
end SO
namespace Mod
def inScan (ke ti : ByteArray) (p : Pair) : Bool := !soStr.lt p.key ke && (decide (ti = Cmd.empty) || soStr.lt p.key ti)
def findI (k : Int) (l : List Sess) : Int := if soInt.found Sess.id k l = true then (soInt.rank Sess.id k l : Int) else -1
def openE (ss : List Sess) (ix : Int) : Int := (openR ss ix).err
def askE (ss : List Sess) (id seq : Int) : Int := match sget id ss with
  | none => 14
  | some x => if seq < x.seq then 15 else if seq = x.seq then 0 else 4
end Mod
end Go.Wk
namespace Go.Wk.Mod
open Go
def sessR (k : Int) (l : List Sess) : Reply := match sget k l with
  | some x => x.rep
  | none => err 0
end Go.Wk.Mod
namespace Go.Wk
open Go Go.RowKit
end Go.Wk
namespace Go.Wk.Mod
open Go
section
variable {ps : List Pair} {ss : List Sess} {ix : Int} {c : Cmd}
end
end Go.Wk.Mod
