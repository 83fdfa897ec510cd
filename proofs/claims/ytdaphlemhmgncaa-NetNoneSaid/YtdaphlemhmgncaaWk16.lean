/- A small calculus of weakest preconditions over the kit's code: rules for the operations, proved for all programs. -/
import Derived.Test.YtdaphlemhmgncaaWkL
import Derived.Test.YtdaphlemhmgncaaWk11
set_option linter.unusedVariables false
set_option linter.unusedSimpArgs false
section
namespace Go.Wk
open Go Go.RowKit Go.ChangeShapes Go.WideShapes Go.ChangeAt
end Go.Wk
end
section
namespace Go.Wk
open Go Go.RowKit Go.ChangeShapes Go.WideShapes Go.ChangeAt
section
variable {H : Type} {enc : TypeId × Value → H} {P : Program} {w : World} {base : Nat} {spare : Nat → Bool} {held : Bool}
end
end Go.Wk
end
section
namespace Go.Wk
open Go Go.RowKit
section
variable {P : Program} {Q : Post} {n : Nat} {k : List It} {ρ : Env} {ops : Array Oper} {rest : List Oper}
variable {w0 : World} {ok0 M : Nat → Prop} {X R : List Atom}
variable {d : Nat} {t : TypeId} {pos : String} {after : Array Edge} {g : Option (Nat × Bool)} {x y c : Operand} {v u : Value} {t' : TypeId} {A : World → Prop}
theorem HO_of_val {o : Oper} (hw : wantedB ops ρ o.guard = some true) (hd : o.dst = some d) (hn : Nat.blt d n = true) (hv : Val P n ρ A o v) (h : HO P Q n ops rest k ((d, v) :: ρ) A) : HO P Q n ops (o :: rest) k ρ A :=
  HO_val hw hd hn hv h
end
end Go.Wk
end
section
namespace Go.Wk
open Go Go.RowKit
section
variable {P : Program} {Q : Post} {n : Nat} {k : List It} {ρ : Env} {ops : Array Oper} {rest : List Oper}
variable {w0 : World} {ok0 M : Nat → Prop} {X R : List Atom}
variable {d : Nat} {t : TypeId} {pos : String} {after : Array Edge} {g : Option (Nat × Bool)} {x y c : Operand} {v u : Value} {t' : TypeId} {A : World → Prop}
end
end Go.Wk
end
section
namespace Go.Wk
open Go Go.RowKit
section
variable {P : Program} {Q : Post} {n : Nat} {k : List It} {ρ : Env} {ops : Array Oper} {rest : List Oper}
variable {w0 : World} {ok0 M : Nat → Prop} {X R : List Atom}
variable {d : Nat} {t : TypeId} {pos : String} {after : Array Edge} {g : Option (Nat × Bool)} {x y c : Operand} {v u : Value} {t' : TypeId} {A : World → Prop}
def PartOf {α : Type} (d : Kd α) (a : Option Addr) (c : Nat) (xs ys : List α) (v : Value) : Prop := ∀ ok w, d.sl.rep ok w xs [.slice a xs.length c] → d.sl.rep ok w ys [v]
end
end Go.Wk
end
section
namespace Go.Wk
open Go Go.RowKit
section
variable {P : Program} {t : TypeId} {x y : Operand}
def andI (a b : Int) : Int := IntKind.i64.wrap ((BitVec.ofInt IntKind.i64.bits a &&& BitVec.ofInt IntKind.i64.bits b).toNat : Int)
end
end Go.Wk
end
section
namespace Go.Wk
open Go Go.RowKit
section
variable {P : Program} {Q : Post} {n : Nat} {k : List It} {ρ : Env} {A : World → Prop}
end
end Go.Wk
end
