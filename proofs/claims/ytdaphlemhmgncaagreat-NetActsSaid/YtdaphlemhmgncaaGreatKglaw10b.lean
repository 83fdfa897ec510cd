/- Contracts of the program's functions, each proved by walking its code. -/
import Derived.Test.YtdaphlemhmgncaaGreatKgent2
import Derived.Test.YtdaphlemhmgncaaGreatEnt
import Derived.Test.YtdaphlemhmgncaaGreatEnt2
import Derived.Test.YtdaphlemhmgncaaGreatKgent3
set_option maxRecDepth 100000
set_option linter.unusedVariables false
set_option linter.unusedSimpArgs false
namespace Go.Wk.Flaw10b
open Go Go.RowKit Go.Proofs Go.Wk

end Go.Wk.Flaw10b
namespace Go.Wk
open Go Go.RowKit Go.Proofs Flaw10b 
theorem rsamesnap_spec (ix te : Int) (vo le : List Int) (a1 : Option Addr) (c1 : Nat) (a2 : Option Addr) (c2 : Nat) (da : List UInt8) (a3 : Option Addr) (c3 : Nat) (ix2 te2 : Int) (vo2 le2 : List Int) (a12 : Option Addr) (c12 : Nat) (a22 : Option Addr) (c22 : Nat) (da2 : List UInt8) (a32 : Option Addr) (c32 : Nat)  : Spec Tryz.prog 35 #[.agg #[.int .i64 (ix),.int .i64 (te),.slice a1 (vo.length) c1,.slice a2 (le.length) c2,.slice a3 (da.length) c3],.agg #[.int .i64 (ix2),.int .i64 (te2),.slice a12 (vo2.length) c12,.slice a22 (le2.length) c22,.slice a32 (da2.length) c32]] [.dat kInt.sl (vo) [.slice a1 (vo.length) c1],.dat kInt.sl (le) [.slice a2 (le.length) c2],.dat kByte.sl (da) [.slice a3 (da.length) c3],.dat kInt.sl (vo2) [.slice a12 (vo2.length) c12],.dat kInt.sl (le2) [.slice a22 (le2.length) c22],.dat kByte.sl (da2) [.slice a32 (da2.length) c32]] (β:=Unit) (fun y => .bool (decide ((⟨ix,te,⟨vo,le⟩,da⟩ : Snap) = ⟨ix2,te2,⟨vo2,le2⟩,da2⟩))) (fun y => True) (fun y => []):=by
 refine Spec.enter (vs:=[_,_]) Tryz.func35 rfl Tryz.ntmps35 rfl (Nat.le_of_ble_eq_true rfl) (fun w0 ok0 => ?_)
 generalize hM0 : blks _ = M0
 have hMn:=@noM _ _ hM0 (by simp [Atom.dat,Atom.elem])
 refine H_len_le (i:=0) rfl ?_
 intro hlen0
 refine H_len_le (i:=1) rfl ?_
 intro hlen1
 refine H_len_le (i:=3) rfl ?_
 intro hlen3
 refine H_len_le (i:=4) rfl ?_
 intro hlen4
 refine SQ (RG rfl (BX [_,_,_,_,_] rfl ?_))
 intro g2
 refine BX [_,_,_,_,_] rfl ?_
 intro g3
 refine AS rfl (NI [3,2] [_,_] rfl (SQ (RG rfl (FA 0 rfl Tryz.underlying34 rfl Tryz.sizeOf3 (LD 1 0 rfl Tryz.isAgg3 (FA 0 rfl Tryz.underlying34 rfl Tryz.sizeOf3 (LD 0 0 rfl Tryz.isAgg3 (BN rfl bin_eql (MV rfl (HO_split (d:=10) rfl ?_ ?_))))))))))
 ·intro h10
  replace h10:=dT h10
  refine FA 1 rfl Tryz.underlying34 rfl Tryz.sizeOf3 (LD 1 1 rfl Tryz.isAgg3 (FA 1 rfl Tryz.underlying34 rfl Tryz.sizeOf3 (LD 0 1 rfl Tryz.isAgg3 (BN rfl bin_eql (PT rfl (MV rfl (HO_split (d:=17) rfl ?_ ?_)))))))
  ·intro h17
   replace h17:=dT h17
   refine FA 2 rfl Tryz.underlying34 rfl Tryz.sizeOf31 (LA 1 [_,_] [_,_] [_] rfl (.loc _ _ _) Tryz.isAgg31 Tryz.sizeOf31 rfl (FA 2 rfl Tryz.underlying34 rfl Tryz.sizeOf31 (LA 0 [_,_] [_,_] [_] rfl (.loc _ _ _) Tryz.isAgg31 Tryz.sizeOf31 rfl (DU 2 rfl (DU 4 rfl (DU 7 rfl (DU 9 rfl (CB [0,0,0,0] [_,_,_,_,_,_,_,_] rfl Tryz.call64 (rsameconf_spec _ _ _ _ _ _ _ _ _ _ _ _) ?_))))))))
   intro y22 hy22
   clear y22 hy22
   refine PT rfl (MV rfl (HO_split (d:=24) rfl ?_ ?_))
   ·intro h24
    replace h24:=dT h24
    refine FA 4 rfl Tryz.underlying34 rfl Tryz.sizeOf32 (LD 1 4 rfl Tryz.isAgg32 (FA 4 rfl Tryz.underlying34 rfl Tryz.sizeOf32 (LD 0 4 rfl Tryz.isAgg32 (DU 4 rfl (DU 8 rfl (CB [0,0] [_,_,_,_,_,_,_,_] rfl Tryz.call65 (rsame_spec _ _ _ _ _ _) ?_))))))
    intro y29 hy29
    clear y29 hy29
    refine PT rfl (AS rfl (NI [4] [_] rfl (WD 0 [] rfl (R1 Tryz.results35 () rfl (fun w hA => ⟨?_,?_,?_⟩)))))
    ·(exact congrArg Value.bool (by first | (simp [*];done) | (simp_all;done) | (simp_all;intros;simp_all)))
    ·trivial
    ·exact hA.keep (m:=[]) (Y:=[]) rfl
   intro h24
   replace h24:=dF h24
   refine NO rfl (NO rfl (NO rfl (NO rfl (NO rfl (PF rfl (AS rfl (NI [4] [_] rfl (WD 0 [] rfl (R1 Tryz.results35 () rfl (fun w hA => ⟨?_,?_,?_⟩))))))))))
   ·(exact congrArg Value.bool (by first | (simp [*];done) | (simp_all;done) | (simp_all;intros;simp_all)))
   ·trivial
   ·exact hA.keep (m:=[]) (Y:=[]) rfl
  intro h17
  replace h17:=dF h17
  refine NO rfl (NO rfl (NO rfl (NO rfl (NO rfl (PF rfl (MV rfl (NO rfl (NO rfl (NO rfl (NO rfl (NO rfl (PF rfl (AS rfl ?_)))))))))))))
  refine NI [4] [_] rfl (WD 0 [] rfl (R1 Tryz.results35 () rfl (fun w hA => ⟨?_,?_,?_⟩)))
  ·(exact congrArg Value.bool (by first | (simp [*];done) | (simp_all;done) | (simp_all;intros;simp_all)))
  ·trivial
  ·exact hA.keep (m:=[]) (Y:=[]) rfl
 intro h10
 replace h10:=dF h10
 refine NO rfl (NO rfl (NO rfl (NO rfl (NO rfl (PF rfl (MV rfl (NO rfl (NO rfl (NO rfl (NO rfl (NO rfl (PF rfl (MV rfl ?_)))))))))))))
 refine NO rfl (NO rfl (NO rfl (NO rfl (NO rfl (PF rfl (AS rfl (NI [4] [_] rfl (WD 0 [] rfl (R1 Tryz.results35 () rfl (fun w hA => ⟨?_,?_,?_⟩))))))))))
 ·(exact congrArg Value.bool (by first | (simp [*];done) | (simp_all;done) | (simp_all;intros;simp_all)))
 ·trivial
 ·exact hA.keep (m:=[]) (Y:=[]) rfl
end Go.Wk
