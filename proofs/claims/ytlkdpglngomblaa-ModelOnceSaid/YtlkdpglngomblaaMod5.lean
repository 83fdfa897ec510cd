/- Plain facts of the model. -/
import Derived.Test.YtlkdpglngomblaaMod4
set_option linter.unusedVariables false
set_option linter.unusedSimpArgs false
namespace Go.Wk
open Go Go.RowKit
/-! ### The reference's plain loops on sorted lists -/
namespace SO
variable {K T : Type} (o : SO K) (key : T → K)
def insR (x : T) : Bool → List T → List T
  | d, [] => if d then [] else [x]
  | d, p :: l => (if o.lt (key x) (key p) && !d then [x] else []) ++ (p :: insR x (d || o.lt (key x) (key p)) l)
variable [DecidableEq K]
end SO
namespace Mod
def inScan (ke ti : ByteArray) (p : Pair) : Bool := !soStr.lt p.key ke && (decide (ti = Cmd.empty) || soStr.lt p.key ti)
def findI (k : Int) (l : List Sess) : Int := if soInt.found Sess.id k l = true then (soInt.rank Sess.id k l : Int) else -1
def openE (ss : List Sess) (ix : Int) : Int := (openR ss ix).err
def askE (ss : List Sess) (id seq : Int) : Int := match sget id ss with
  | none => 14
  | some x => if seq < x.seq then 15 else if seq = x.seq then 0 else 4
end Mod
end Go.Wk
namespace Go.Wk.Mod
open Go
def sessR (k : Int) (l : List Sess) : Reply := match sget k l with
  | some x => x.rep
  | none => err 0
end Go.Wk.Mod
namespace Go.Wk
open Go Go.RowKit
end Go.Wk
namespace Go.Wk.Mod
open Go
section
variable {ps : List Pair} {ss : List Sess} {ix : Int} {c : Cmd}
end
end Go.Wk.Mod
