/- Contracts of the program's functions, each proved by walking its code. -/
import Derived.Test.YtdaphlemhmgncaaGreatKgent5
import Derived.Test.YtdaphlemhmgncaaGreatEnt3
set_option maxRecDepth 100000
set_option linter.unusedVariables false
set_option linter.unusedSimpArgs false
namespace Go.Wk.Fent6
open Go Go.RowKit Go.Proofs Go.Wk
theorem elt3 : Elt Tryz.prog 3 (.int .i64 (0)) 1 8:=Elt.of (by kernel_rfl) (by rfl) (by decide) (by decide)
theorem elt70 : Elt Tryz.prog 70 (.agg #[.int .i64 (0),.int .i64 (0),.int .i64 (0),.int .i64 (0),.int .i64 (0),.int .i64 (0),.string (⟨#[]⟩),.string (⟨#[]⟩),.string (⟨#[]⟩),.string (⟨#[]⟩),.int .i64 (0),.slice none 0 0,.slice none 0 0]) 13 168:=Elt.of (by kernel_rfl) (by rfl) (by decide) (by decide)
theorem bd117_0_s {a1 : Option Addr} {n1 c1 : Nat} : ∀ w,(Instr.build 117 (List.toArray (List.zip [0] [.slice a1 n1 c1]))).run Tryz.prog w = .ok (.agg #[.slice a1 n1 c1,.bool (false)]) w:=fun _ => by kernel_rfl
theorem bd34__  : ∀ w,(Instr.build 34 (List.toArray (List.zip [] []))).run Tryz.prog w = .ok (.agg #[.int .i64 (0),.int .i64 (0),.slice none 0 0,.slice none 0 0,.slice none 0 0]) w:=fun _ => by kernel_rfl
theorem bd36__  : ∀ w,(Instr.build 36 (List.toArray (List.zip [] []))).run Tryz.prog w = .ok (.agg #[.int .i64 (0),.int .i64 (0),.int .i64 (0),.int .i64 (0),.int .i64 (0),.int .i64 (0),.int .i64 (0),.int .i64 (0),.bool (false),.int .i64 (0),.slice none 0 0,.int .i64 (0),.int .i64 (0),.slice none 0 0,.slice none 0 0,.slice none 0 0]) w:=fun _ => by kernel_rfl
end Go.Wk.Fent6
namespace Go.Wk
open Go Go.RowKit Go.Proofs Fent6 
theorem rgoodmsg_spec (mk mf mt me mi ml mc mr : Int) (rj : Bool) (hi : Int) (es : List Ent) (a9 : Option Addr) (c9 : Nat) (ix te : Int) (vo le : List Int) (a1 : Option Addr) (c1 : Nat) (a2 : Option Addr) (c2 : Nat) (da : List UInt8) (a3 : Option Addr) (c3 : Nat) (nd : da.length≤BIG) (n1 : vo.length≤BIG) (n2 : le.length≤BIG) (ri : mi≤9223372036854775807) : Spec Tryz.prog 24 #[.agg #[.int .i64 (mk),.int .i64 (mf),.int .i64 (mt),.int .i64 (me),.int .i64 (mi),.int .i64 (ml),.int .i64 (mc),.int .i64 (mr),.bool (rj),.int .i64 (hi),.slice a9 (es.length) c9,.int .i64 (ix),.int .i64 (te),.slice a1 (vo.length) c1,.slice a2 (le.length) c2,.slice a3 (da.length) c3]] [.dat kEnt.sl (es) [.slice a9 (es.length) c9],.dat kInt.sl (vo) [.slice a1 (vo.length) c1],.dat kInt.sl (le) [.slice a2 (le.length) c2],.dat kByte.sl (da) [.slice a3 (da.length) c3]] (β:=Unit) (fun y => .bool (Ent.goodMsg ⟨mk,mf,mt,me,mi,ml,mc,mr,rj,hi,es,⟨ix,te,⟨vo,le⟩,da⟩⟩)) (fun y => True) (fun y => []):=by
 (try simp only [BIG] at nd n1 n2)
 refine Spec.enter (vs:=[_]) Tryz.func24 rfl Tryz.ntmps24 rfl (Nat.le_of_ble_eq_true rfl) (fun w0 ok0 => ?_)
 generalize hM0 : blks _ = M0
 have hMn:=@noM _ _ hM0 (by simp [Atom.dat,Atom.elem])
 refine H_len_le (i:=0) rfl ?_
 intro hlen0
 refine H_len_le (i:=1) rfl ?_
 intro hlen1
 refine H_len_le (i:=2) rfl ?_
 intro hlen2
 refine SQ (RG rfl (BX [_,_,_,_,_,_,_,_,_,_,_,_,_,_,_,_] rfl ?_))
 intro g1
 refine AS rfl (NI [1] [_] rfl (SQ (SQ (RG rfl (FA 0 rfl Tryz.underlying36 rfl Tryz.sizeOf3 (LD 0 0 rfl Tryz.isAgg3 (BN rfl bin_lss (MV rfl (HO_split (d:=8) rfl ?_ ?_)))))))))
 ·intro h8
  replace h8:=dT h8
  refine NO rfl (NO rfl (NO rfl (PT rfl (MV rfl (NO rfl (NO rfl (NO rfl (PT rfl (MV rfl (NO rfl (NO rfl (NO rfl (PT rfl ?_)))))))))))))
  refine MV rfl (NO rfl (NO rfl (NO rfl (PT rfl (MV rfl (NO rfl (NO rfl (NO rfl (PT rfl (MV rfl (NO rfl (NO rfl (NO rfl ?_)))))))))))))
  refine PT rfl (MV rfl (NO rfl (NO rfl (NO rfl (PT rfl (MV rfl (NO rfl (NO rfl (NO rfl (PT rfl (MV rfl (NO rfl (NO rfl ?_)))))))))))))
  refine NO rfl (PT rfl (MV rfl (NO rfl (NO rfl (NO rfl (PT rfl (MV rfl (NO rfl (NO rfl (NO rfl (PT rfl (NI [62,1] [_,_] rfl ?_))))))))))))
  refine CT rfl (SQ (RG rfl (AS rfl (NI [2] [_] rfl (WD 0 [] rfl (R1 Tryz.results24 () rfl (fun w hA => ⟨?_,?_,?_⟩)))))))
  ·(exact congrArg Value.bool (Ent.goodMsg_no (m:=⟨mk,mf,mt,me,mi,ml,mc,mr,rj,hi,es,⟨ix,te,⟨vo,le⟩,da⟩⟩) (by dsimp only;omega)))
  ·trivial
  ·exact hA.keep (m:=[]) (Y:=[]) rfl
 intro h8
 replace h8:=dF h8
 refine FA 0 rfl Tryz.underlying36 rfl Tryz.sizeOf3 (LD 0 0 rfl Tryz.isAgg3 (BN rfl bin_gtr (PF rfl (MV rfl (HO_split (d:=13) rfl ?_ ?_)))))
 ·intro h13
  replace h13:=dT h13
  refine NO rfl (NO rfl (NO rfl (PT rfl (MV rfl (NO rfl (NO rfl (NO rfl (PT rfl (MV rfl (NO rfl (NO rfl (NO rfl (PT rfl ?_)))))))))))))
  refine MV rfl (NO rfl (NO rfl (NO rfl (PT rfl (MV rfl (NO rfl (NO rfl (NO rfl (PT rfl (MV rfl (NO rfl (NO rfl (NO rfl ?_)))))))))))))
  refine PT rfl (MV rfl (NO rfl (NO rfl (NO rfl (PT rfl (MV rfl (NO rfl (NO rfl (NO rfl (PT rfl (MV rfl (NO rfl (NO rfl ?_)))))))))))))
  refine NO rfl (PT rfl (MV rfl (NO rfl (NO rfl (NO rfl (PT rfl (NI [62,1] [_,_] rfl (CT rfl (SQ (RG rfl (AS rfl (HO_nil ?_))))))))))))
  refine EV [2] [_] rfl (WD 0 [] rfl (R1 Tryz.results24 () rfl (fun w hA => ⟨?_,?_,?_⟩)))
  ·(exact congrArg Value.bool (Ent.goodMsg_no (m:=⟨mk,mf,mt,me,mi,ml,mc,mr,rj,hi,es,⟨ix,te,⟨vo,le⟩,da⟩⟩) (by dsimp only;omega)))
  ·trivial
  ·exact hA.keep (m:=[]) (Y:=[]) rfl
 intro h13
 replace h13:=dF h13
 refine FA 1 rfl Tryz.underlying36 rfl Tryz.sizeOf3 (LD 0 1 rfl Tryz.isAgg3 (BN rfl bin_lss (PF rfl (MV rfl (HO_split (d:=18) rfl ?_ ?_)))))
 ·intro h18
  replace h18:=dT h18
  refine NO rfl (NO rfl (NO rfl (PT rfl (MV rfl (NO rfl (NO rfl (NO rfl (PT rfl (MV rfl (NO rfl (NO rfl (NO rfl (PT rfl ?_)))))))))))))
  refine MV rfl (NO rfl (NO rfl (NO rfl (PT rfl (MV rfl (NO rfl (NO rfl (NO rfl (PT rfl (MV rfl (NO rfl (NO rfl (NO rfl ?_)))))))))))))
  refine PT rfl (MV rfl (NO rfl (NO rfl (NO rfl (PT rfl (MV rfl (NO rfl (NO rfl (NO rfl (PT rfl (MV rfl (NO rfl (NO rfl ?_)))))))))))))
  refine NO rfl (PT rfl (NI [62,1] [_,_] rfl (CT rfl (SQ (RG rfl (AS rfl (NI [2] [_] rfl (WD 0 [] rfl (R1 Tryz.results24 () rfl (fun w hA => ⟨?_,?_,?_⟩))))))))))
  ·(exact congrArg Value.bool (Ent.goodMsg_no (m:=⟨mk,mf,mt,me,mi,ml,mc,mr,rj,hi,es,⟨ix,te,⟨vo,le⟩,da⟩⟩) (by dsimp only;omega)))
  ·trivial
  ·exact hA.keep (m:=[]) (Y:=[]) rfl
 intro h18
 replace h18:=dF h18
 refine FA 1 rfl Tryz.underlying36 rfl Tryz.sizeOf3 (LD 0 1 rfl Tryz.isAgg3 (BN rfl bin_gtr (PF rfl (MV rfl (HO_split (d:=23) rfl ?_ ?_)))))
 ·intro h23
  replace h23:=dT h23
  refine NO rfl (NO rfl (NO rfl (PT rfl (MV rfl (NO rfl (NO rfl (NO rfl (PT rfl (MV rfl (NO rfl (NO rfl (NO rfl (PT rfl ?_)))))))))))))
  refine MV rfl (NO rfl (NO rfl (NO rfl (PT rfl (MV rfl (NO rfl (NO rfl (NO rfl (PT rfl (MV rfl (NO rfl (NO rfl (NO rfl ?_)))))))))))))
  refine PT rfl (MV rfl (NO rfl (NO rfl (NO rfl (PT rfl (MV rfl (NO rfl (NO rfl (NO rfl (PT rfl (NI [62,1] [_,_] rfl (CT rfl ?_))))))))))))
  refine SQ (RG rfl (AS rfl (NI [2] [_] rfl (WD 0 [] rfl (R1 Tryz.results24 () rfl (fun w hA => ⟨?_,?_,?_⟩))))))
  ·(exact congrArg Value.bool (Ent.goodMsg_no (m:=⟨mk,mf,mt,me,mi,ml,mc,mr,rj,hi,es,⟨ix,te,⟨vo,le⟩,da⟩⟩) (by dsimp only;omega)))
  ·trivial
  ·exact hA.keep (m:=[]) (Y:=[]) rfl
 intro h23
 replace h23:=dF h23
 refine FA 2 rfl Tryz.underlying36 rfl Tryz.sizeOf3 (LD 0 2 rfl Tryz.isAgg3 (BN rfl bin_lss (PF rfl (MV rfl (HO_split (d:=28) rfl ?_ ?_)))))
 ·intro h28
  replace h28:=dT h28
  refine NO rfl (NO rfl (NO rfl (PT rfl (MV rfl (NO rfl (NO rfl (NO rfl (PT rfl (MV rfl (NO rfl (NO rfl (NO rfl (PT rfl ?_)))))))))))))
  refine MV rfl (NO rfl (NO rfl (NO rfl (PT rfl (MV rfl (NO rfl (NO rfl (NO rfl (PT rfl (MV rfl (NO rfl (NO rfl (NO rfl ?_)))))))))))))
  refine PT rfl (MV rfl (NO rfl (NO rfl (NO rfl (PT rfl (NI [62,1] [_,_] rfl (CT rfl (SQ (RG rfl (AS rfl (NI [2] [_] rfl ?_)))))))))))
  refine WD 0 [] rfl (R1 Tryz.results24 () rfl (fun w hA => ⟨?_,?_,?_⟩))
  ·(exact congrArg Value.bool (Ent.goodMsg_no (m:=⟨mk,mf,mt,me,mi,ml,mc,mr,rj,hi,es,⟨ix,te,⟨vo,le⟩,da⟩⟩) (by dsimp only;omega)))
  ·trivial
  ·exact hA.keep (m:=[]) (Y:=[]) rfl
 intro h28
 replace h28:=dF h28
 refine FA 2 rfl Tryz.underlying36 rfl Tryz.sizeOf3 (LD 0 2 rfl Tryz.isAgg3 (BN rfl bin_gtr (PF rfl (MV rfl (HO_split (d:=33) rfl ?_ ?_)))))
 ·intro h33
  replace h33:=dT h33
  refine NO rfl (NO rfl (NO rfl (PT rfl (MV rfl (NO rfl (NO rfl (NO rfl (PT rfl (MV rfl (NO rfl (NO rfl (NO rfl (PT rfl ?_)))))))))))))
  refine MV rfl (NO rfl (NO rfl (NO rfl (PT rfl (MV rfl (NO rfl (NO rfl (NO rfl (PT rfl (MV rfl (NO rfl (NO rfl (NO rfl ?_)))))))))))))
  refine PT rfl (NI [62,1] [_,_] rfl (CT rfl (SQ (RG rfl (AS rfl (NI [2] [_] rfl (WD 0 [] rfl (R1 Tryz.results24 () rfl (fun w hA => ⟨?_,?_,?_⟩)))))))))
  ·(exact congrArg Value.bool (Ent.goodMsg_no (m:=⟨mk,mf,mt,me,mi,ml,mc,mr,rj,hi,es,⟨ix,te,⟨vo,le⟩,da⟩⟩) (by dsimp only;omega)))
  ·trivial
  ·exact hA.keep (m:=[]) (Y:=[]) rfl
 intro h33
 replace h33:=dF h33
 refine FA 3 rfl Tryz.underlying36 rfl Tryz.sizeOf3 (LD 0 3 rfl Tryz.isAgg3 (BN rfl bin_lss (PF rfl (MV rfl (HO_split (d:=38) rfl ?_ ?_)))))
 ·intro h38
  replace h38:=dT h38
  refine NO rfl (NO rfl (NO rfl (PT rfl (MV rfl (NO rfl (NO rfl (NO rfl (PT rfl (MV rfl (NO rfl (NO rfl (NO rfl (PT rfl ?_)))))))))))))
  refine MV rfl (NO rfl (NO rfl (NO rfl (PT rfl (MV rfl (NO rfl (NO rfl (NO rfl (PT rfl (NI [62,1] [_,_] rfl (CT rfl (SQ ?_))))))))))))
  refine RG rfl (AS rfl (NI [2] [_] rfl (WD 0 [] rfl (R1 Tryz.results24 () rfl (fun w hA => ⟨?_,?_,?_⟩)))))
  ·(exact congrArg Value.bool (Ent.goodMsg_no (m:=⟨mk,mf,mt,me,mi,ml,mc,mr,rj,hi,es,⟨ix,te,⟨vo,le⟩,da⟩⟩) (by dsimp only;omega)))
  ·trivial
  ·exact hA.keep (m:=[]) (Y:=[]) rfl
 intro h38
 replace h38:=dF h38
 refine FA 4 rfl Tryz.underlying36 rfl Tryz.sizeOf3 (LD 0 4 rfl Tryz.isAgg3 (BN rfl bin_lss (PF rfl (MV rfl (HO_split (d:=43) rfl ?_ ?_)))))
 ·intro h43
  replace h43:=dT h43
  refine NO rfl (NO rfl (NO rfl (PT rfl (MV rfl (NO rfl (NO rfl (NO rfl (PT rfl (MV rfl (NO rfl (NO rfl (NO rfl (PT rfl ?_)))))))))))))
  refine MV rfl (NO rfl (NO rfl (NO rfl (PT rfl (NI [62,1] [_,_] rfl (CT rfl (SQ (RG rfl (AS rfl (NI [2] [_] rfl (WD 0 [] rfl ?_)))))))))))
  refine R1 Tryz.results24 () rfl (fun w hA => ⟨?_,?_,?_⟩)
  ·(exact congrArg Value.bool (Ent.goodMsg_no (m:=⟨mk,mf,mt,me,mi,ml,mc,mr,rj,hi,es,⟨ix,te,⟨vo,le⟩,da⟩⟩) (by dsimp only;omega)))
  ·trivial
  ·exact hA.keep (m:=[]) (Y:=[]) rfl
 intro h43
 replace h43:=dF h43
 refine FA 5 rfl Tryz.underlying36 rfl Tryz.sizeOf3 (LD 0 5 rfl Tryz.isAgg3 (BN rfl bin_lss (PF rfl (MV rfl (HO_split (d:=48) rfl ?_ ?_)))))
 ·intro h48
  replace h48:=dT h48
  refine NO rfl (NO rfl (NO rfl (PT rfl (MV rfl (NO rfl (NO rfl (NO rfl (PT rfl (MV rfl (NO rfl (NO rfl (NO rfl (PT rfl ?_)))))))))))))
  refine NI [62,1] [_,_] rfl (CT rfl (SQ (RG rfl (AS rfl (NI [2] [_] rfl (WD 0 [] rfl (R1 Tryz.results24 () rfl (fun w hA => ⟨?_,?_,?_⟩))))))))
  ·(exact congrArg Value.bool (Ent.goodMsg_no (m:=⟨mk,mf,mt,me,mi,ml,mc,mr,rj,hi,es,⟨ix,te,⟨vo,le⟩,da⟩⟩) (by dsimp only;omega)))
  ·trivial
  ·exact hA.keep (m:=[]) (Y:=[]) rfl
 intro h48
 replace h48:=dF h48
 refine FA 6 rfl Tryz.underlying36 rfl Tryz.sizeOf3 (LD 0 6 rfl Tryz.isAgg3 (BN rfl bin_lss (PF rfl (MV rfl (HO_split (d:=53) rfl ?_ ?_)))))
 ·intro h53
  replace h53:=dT h53
  refine NO rfl (NO rfl (NO rfl (PT rfl (MV rfl (NO rfl (NO rfl (NO rfl (PT rfl (NI [62,1] [_,_] rfl (CT rfl (SQ (RG rfl ?_))))))))))))
  refine AS rfl (NI [2] [_] rfl (WD 0 [] rfl (R1 Tryz.results24 () rfl (fun w hA => ⟨?_,?_,?_⟩))))
  ·(exact congrArg Value.bool (Ent.goodMsg_no (m:=⟨mk,mf,mt,me,mi,ml,mc,mr,rj,hi,es,⟨ix,te,⟨vo,le⟩,da⟩⟩) (by dsimp only;omega)))
  ·trivial
  ·exact hA.keep (m:=[]) (Y:=[]) rfl
 intro h53
 replace h53:=dF h53
 refine FA 7 rfl Tryz.underlying36 rfl Tryz.sizeOf3 (LD 0 7 rfl Tryz.isAgg3 (BN rfl bin_lss (PF rfl (MV rfl (HO_split (d:=58) rfl ?_ ?_)))))
 ·intro h58
  replace h58:=dT h58
  refine NO rfl (NO rfl (NO rfl (PT rfl (NI [62,1] [_,_] rfl (CT rfl (SQ (RG rfl (AS rfl (NI [2] [_] rfl (WD 0 [] rfl (R1 Tryz.results24 () rfl (fun w hA => ⟨?_,?_,?_⟩))))))))))))
  ·(exact congrArg Value.bool (Ent.goodMsg_no (m:=⟨mk,mf,mt,me,mi,ml,mc,mr,rj,hi,es,⟨ix,te,⟨vo,le⟩,da⟩⟩) (by dsimp only;omega)))
  ·trivial
  ·exact hA.keep (m:=[]) (Y:=[]) rfl
 intro h58
 replace h58:=dF h58
 refine FA 9 rfl Tryz.underlying36 rfl Tryz.sizeOf3 (LD 0 9 rfl Tryz.isAgg3 (BN rfl bin_lss (PF rfl (NI [62,1] [_,_] rfl (H_cond rfl ?_ ?_)))))
 ·intro h62
  replace h62:=dT h62
  refine SQ (RG rfl (AS rfl (NI [2] [_] rfl (WD 0 [] rfl (R1 Tryz.results24 () rfl (fun w hA => ⟨?_,?_,?_⟩))))))
  ·(exact congrArg Value.bool (Ent.goodMsg_no (m:=⟨mk,mf,mt,me,mi,ml,mc,mr,rj,hi,es,⟨ix,te,⟨vo,le⟩,da⟩⟩) (by dsimp only;omega)))
  ·trivial
  ·exact hA.keep (m:=[]) (Y:=[]) rfl
 intro h62
 replace h62:=dF h62
 refine SK (SQ (SQ (RG rfl (FA 10 rfl Tryz.underlying36 rfl Tryz.sizeOf28 (LD 0 10 rfl Tryz.isAgg28 (BI rfl (bi_len_sl Tryz.underlying28) (BN rfl bin_gtr (MV rfl (HO_split (d:=67) rfl ?_ ?_)))))))))
 ·intro h67
  replace h67:=dT h67
  iterate 9 refine HO_no rfl rfl rfl ?_
  refine PT rfl (NI [77,1] [_,_] rfl (CT rfl (SQ (RG rfl (AS rfl (NI [2] [_] rfl (WD 0 [] rfl (R1 Tryz.results24 () rfl (fun w hA => ⟨?_,?_,?_⟩)))))))))
  ·(exact congrArg Value.bool (Ent.goodMsg_no (m:=⟨mk,mf,mt,me,mi,ml,mc,mr,rj,hi,es,⟨ix,te,⟨vo,le⟩,da⟩⟩) (by dsimp only;omega)))
  ·trivial
  ·exact hA.keep (m:=[]) (Y:=[]) rfl
 intro h67
 replace h67:=dF h67
 refine FA 10 rfl Tryz.underlying36 rfl Tryz.sizeOf28 (LD 0 10 rfl Tryz.isAgg28 (BI rfl (bi_len_sl Tryz.underlying28) (BN rfl bin_gtr (MV rfl (HO_split (d:=72) rfl ?_ ?_)))))
 ·intro h72
  replace h72:=dT h72
  refine FA 0 rfl Tryz.underlying36 rfl Tryz.sizeOf3 (LD 0 0 rfl Tryz.isAgg3 (BN rfl bin_neq (PT rfl (PF rfl (NI [77,1] [_,_] rfl (H_cond rfl ?_ ?_))))))
  ·intro h77
   replace h77:=dT h77
   refine SQ (RG rfl (AS rfl (NI [2] [_] rfl (WD 0 [] rfl (R1 Tryz.results24 () rfl (fun w hA => ⟨?_,?_,?_⟩))))))
   ·(exact congrArg Value.bool (Ent.goodMsg_no (m:=⟨mk,mf,mt,me,mi,ml,mc,mr,rj,hi,es,⟨ix,te,⟨vo,le⟩,da⟩⟩) (by dsimp only;omega)))
   ·trivial
   ·exact hA.keep (m:=[]) (Y:=[]) rfl
  intro h77
  replace h77:=dF h77
  refine SK (SQ (SQ ?_))
  have hD:=Ent.goodMsg_at (m:=⟨mk,mf,mt,me,mi,ml,mc,mr,rj,hi,es,⟨ix,te,⟨vo,le⟩,da⟩⟩) (by dsimp only;omega)
  dsimp only at hD
  refine RG rfl (FA 10 rfl Tryz.underlying36 rfl Tryz.sizeOf28 (LD 0 10 rfl Tryz.isAgg28 (BI rfl (bi_len_sl Tryz.underlying28) (MV rfl (NI [81,80,79,1] [_,_,_,_] rfl (BO (H_loop (σ:=Nat) (fun s => s≤es.length∧Ent.okEnts mi me 0 es = Ent.okEnts mi me s (es.drop s)) (fun s => [(1,.pointer (some ⟨g1,0,none⟩)),(79,.slice a9 (es.length) c9),(80,.int .i64 ((es.length : Int))),(81,.int .i64 ((s : Int)))]) (fun s => Asn w0 ok0 M0 [.loc g1 [.int .i64 (mk),.int .i64 (mf),.int .i64 (mt),.int .i64 (me),.int .i64 (mi),.int .i64 (ml),.int .i64 (mc),.int .i64 (mr),.bool (rj),.int .i64 (hi),.slice a9 (es.length) c9,.int .i64 (ix),.int .i64 (te),.slice a1 (vo.length) c1,.slice a2 (le.length) c2,.slice a3 (da.length) c3] 36,.dat kEnt.sl (es) [.slice a9 (es.length) c9],.dat kInt.sl (vo) [.slice a1 (vo.length) c1],.dat kInt.sl (le) [.slice a2 (le.length) c2],.dat kByte.sl (da) [.slice a3 (da.length) c3]]) (fun s => es.length - s) 0 ?_ ?_ ?_ ?_)))))))
  ·exact ⟨Nat.zero_le _,rfl⟩
  ·exact ⟨rfl,rfl,rfl,rfl,trivial⟩
  ·intro w hA
   exact hA.only (is:=[0,1,2,3,4]) (Z:=[]) rfl
  ·intro i hI
   (try dsimp only at hI ⊢)
   refine SQ (RG rfl (BN rfl bin_lss (HO_nil (SQ (H_cond rfl ?_ ?_)))))
   ·intro h82
    replace h82:=dT h82
    refine SK (SQ (BO (SQ (RG rfl (MV rfl (HO_indexAddr open_Ent (i:=1) rfl rfl rfl rfl rfl Tryz.underlying28 Tryz.sizeOf70 rfl ?_ ?_))))))
    ·omega
    intro b84 o84 z84 y84 hz84 hI84
    (try simp only [BIG] at hI84)
    refine LA 0 [] [_,_,_,_,_,_,_,_,_,_,_,_,_] [] rfl (.elem _ _ _) Tryz.isAgg70 Tryz.sizeOf70 rfl (AO [_,_,_,_,_,_,_,_,_,_,_,_,_] Tryz.zeroValue70 rfl ?_)
    intro g4
    refine AS rfl (SR 0 [] [_,_,_,_,_,_,_,_,_,_,_,_,_] [] [_,_,_,_,_,_,_,_,_,_,_,_,_] [_,_,_,_,_,_,_,_] [_,_,_,_,_,_,_,_,_,_,_,_,_] Tryz.sizeOf70 rfl (NI [3,4,1,79,80,81] [_,_,_,_,_,_] rfl (WD 509 [_,_,_,_,_,_,_,_] rfl (SQ (RG rfl (LA 0 [] [_,_,_,_,_,_,_,_,_,_,_,_,_] [] rfl (.loc _ _ _) Tryz.isAgg70 Tryz.sizeOf70 rfl (DU 1 rfl (DU 3 rfl (CB [0,0] [_,_,_,_,_,_,_,_] rfl Tryz.call43 (rentgood_spec _ _ _ _ _ _ _ _ _ _ _ _ _ _ _ _ _ ?_ ?_) ?_)))))))))
    ·(dsimp only [BIG];omega)
    ·(dsimp only [BIG];omega)
    intro y87 hy87
    clear y87 hy87
    refine HO_set (v':=.bool (Ent.good z84)) 87 rfl (by rfl) (NT rfl (MV rfl (HO_split (d:=89) rfl ?_ ?_)))
    ·intro h89
     replace h89:=nT h89
     iterate 8 refine HO_no rfl rfl rfl ?_
     refine PT rfl (MV rfl (NO rfl (NO rfl (NO rfl (NO rfl (NO rfl (PT rfl (NI [105,1,79,80,81] [_,_,_,_,_] rfl (WD 248 [_,_,_,_,_] rfl (CT rfl (SQ (RG rfl ?_))))))))))))
     refine AS rfl (NI [2] [_] rfl (WD 0 [] rfl (R1 Tryz.results24 () rfl (fun w hA => ⟨?_,?_,?_⟩))))
     ·(first | (exact congrArg Value.bool (hD.trans (by rw [Ent.ok_no hz84 hI.2 (.inl h89)];rfl)).symm) | (exact congrArg Value.bool (hD.trans (by rw [Ent.ok_no hz84 hI.2 (.inr (.inl h99))];rfl)).symm) | (exact congrArg Value.bool (hD.trans (by rw [Ent.ok_no hz84 hI.2 (.inr (.inr (by omega)))];rfl)).symm))
     ·trivial
     ·exact hA.keep (m:=[]) (Y:=[]) rfl
    intro h89
    replace h89:=nF h89
    have hgi:=Ent.good_idx h89
    (try dsimp only at hgi)
    refine FA 0 rfl Tryz.underlying70 rfl Tryz.sizeOf3 (LD 0 0 rfl Tryz.isAgg3 (FA 4 rfl Tryz.underlying36 rfl Tryz.sizeOf3 (LD 3 4 rfl Tryz.isAgg3 (BN rfl (bin_sub ?_ ?_) ?_))))
    ·omega
    ·omega
    refine MV rfl (BN rfl (bin_add ?_ ?_) ?_)
    ·omega
    ·omega
    refine BN rfl bin_neq (PF rfl (MV rfl (HO_split (d:=99) rfl ?_ ?_)))
    ·intro h99
     replace h99:=dT h99
     refine NO rfl (NO rfl (NO rfl (NO rfl (NO rfl (PT rfl (NI [105,1,79,80,81] [_,_,_,_,_] rfl (WD 248 [_,_,_,_,_] rfl (CT rfl (SQ (RG rfl (AS rfl (HO_nil ?_))))))))))))
     refine EV [2] [_] rfl (WD 0 [] rfl (R1 Tryz.results24 () rfl (fun w hA => ⟨?_,?_,?_⟩)))
     ·(first | (exact congrArg Value.bool (hD.trans (by rw [Ent.ok_no hz84 hI.2 (.inl h89)];rfl)).symm) | (exact congrArg Value.bool (hD.trans (by rw [Ent.ok_no hz84 hI.2 (.inr (.inl h99))];rfl)).symm) | (exact congrArg Value.bool (hD.trans (by rw [Ent.ok_no hz84 hI.2 (.inr (.inr (by omega)))];rfl)).symm))
     ·trivial
     ·exact hA.keep (m:=[]) (Y:=[]) rfl
    intro h99
    replace h99:=dF h99
    refine FA 1 rfl Tryz.underlying70 rfl Tryz.sizeOf3 (LD 0 1 rfl Tryz.isAgg3 (FA 3 rfl Tryz.underlying36 rfl Tryz.sizeOf3 (LD 3 3 rfl Tryz.isAgg3 (BN rfl bin_gtr (PF rfl (NI [105,1,79,80,81] [_,_,_,_,_] rfl (WD 248 [_,_,_,_,_] rfl (H_cond rfl ?_ ?_))))))))
    ·intro h105
     replace h105:=dT h105
     refine SQ (RG rfl (AS rfl (NI [2] [_] rfl (WD 0 [] rfl (R1 Tryz.results24 () rfl (fun w hA => ⟨?_,?_,?_⟩))))))
     ·(first | (exact congrArg Value.bool (hD.trans (by rw [Ent.ok_no hz84 hI.2 (.inl h89)];rfl)).symm) | (exact congrArg Value.bool (hD.trans (by rw [Ent.ok_no hz84 hI.2 (.inr (.inl h99))];rfl)).symm) | (exact congrArg Value.bool (hD.trans (by rw [Ent.ok_no hz84 hI.2 (.inr (.inr (by omega)))];rfl)).symm))
     ·trivial
     ·exact hA.keep (m:=[]) (Y:=[]) rfl
    intro h105
    replace h105:=dF h105
    refine SK (BD (RG rfl (BN rfl (bin_add ?_ ?_) ?_)))
    ·omega
    ·omega
    refine MV rfl (NI [81,1,79,80] [_,_,_,_] rfl (H_inv (fun a w hf hA => ⟨i + 1,?_,?_,hf.sub ?_,?_⟩)))
    ·exact ⟨by omega,Ent.ok_next hz84 hI.2 h89 (by omega) (by omega)⟩
    ·(try dsimp only);omega
    ·exact ⟨rfl,rfl,rfl,rfl,trivial⟩
    ·exact hA.only (is:=[0,1,2,3,4]) (Z:=[]) rfl
   intro h82
   replace h82:=dF h82
   refine H_exit rfl (SQ (SQ ?_))
   have hok:=Ent.ok_end hI.2 (by omega)
   refine RG rfl (FA 0 rfl Tryz.underlying36 rfl Tryz.sizeOf3 (LD 0 0 rfl Tryz.isAgg3 (BN rfl bin_eql (NI [109,1] [_,_] rfl (H_cond rfl ?_ ?_)))))
   ·intro h109
    replace h109:=dT h109
    refine SQ (RG rfl (FA 11 rfl Tryz.underlying36 rfl Tryz.sizeOf34 (LA 0 [_,_,_,_,_,_,_,_,_,_,_] [_,_,_,_,_] [] rfl (.loc _ _ _) Tryz.isAgg34 Tryz.sizeOf34 rfl (DU 2 rfl (DU 4 rfl (DU 6 rfl (CB [0,0,0] [_,_,_,_,_] rfl Tryz.call44 (rgoodsnap_spec _ _ _ _ _ _ _ _ _ _ _) ?_)))))))
    intro y112 hy112
    clear y112 hy112
    refine AS rfl (NI [2] [_] rfl (WD 0 [] rfl (R1 Tryz.results24 () rfl (fun w hA => ⟨?_,?_,?_⟩))))
    ·(exact congrArg Value.bool (hD.trans (by rw [hok,Bool.true_and,if_pos h109])).symm)
    ·trivial
    ·exact hA.keep (m:=[]) (Y:=[]) rfl
   intro h109
   replace h109:=dF h109
   refine SK (SQ (RG rfl (FA 11 rfl Tryz.underlying36 rfl Tryz.sizeOf34 (LA 0 [_,_,_,_,_,_,_,_,_,_,_] [_,_,_,_,_] [] rfl (.loc _ _ _) Tryz.isAgg34 Tryz.sizeOf34 rfl (HO_build (xo:=[]) (vs:=[]) rfl rfl rfl rfl (bd34__) (HO_nilDat kInt (HO_nilDat kInt (HO_nilDat kByte (DU 5 rfl (DU 7 rfl (DU 9 rfl (DU 5 rfl (DU 5 rfl ?_)))))))))))))
   refine DU 5 rfl (CB [0,0,0,0,0,0] [_,_,_,_,_,_,_,_] rfl Tryz.call35 (rsamesnap_spec _ _ _ _ _ _ _ _ _ _ _ _ _ _ _ _ _ _ _ _ _ _) ?_)
   intro y116 hy116
   clear y116 hy116
   refine AS rfl (NI [2] [_] rfl (WD 0 [] rfl (R1 Tryz.results24 () rfl (fun w hA => ⟨?_,?_,?_⟩))))
   ·(exact congrArg Value.bool (hD.trans (by rw [hok,Bool.true_and,if_neg h109];exact (Ent.emptyS_eq _).symm)).symm)
   ·trivial
   ·exact hA.keep (m:=[]) (Y:=[]) rfl
 intro h72
 replace h72:=dF h72
 refine NO rfl (NO rfl (NO rfl (PF rfl (PF rfl (NI [77,1] [_,_] rfl (CF rfl (SK (SQ (SQ ?_)))))))))
 have hD:=Ent.goodMsg_at (m:=⟨mk,mf,mt,me,mi,ml,mc,mr,rj,hi,es,⟨ix,te,⟨vo,le⟩,da⟩⟩) (by dsimp only;omega)
 dsimp only at hD
 refine RG rfl (FA 10 rfl Tryz.underlying36 rfl Tryz.sizeOf28 (LD 0 10 rfl Tryz.isAgg28 (BI rfl (bi_len_sl Tryz.underlying28) (MV rfl (NI [81,80,79,1] [_,_,_,_] rfl (BO (H_loop (σ:=Nat) (fun s => s≤es.length∧Ent.okEnts mi me 0 es = Ent.okEnts mi me s (es.drop s)) (fun s => [(1,.pointer (some ⟨g1,0,none⟩)),(79,.slice a9 (es.length) c9),(80,.int .i64 ((es.length : Int))),(81,.int .i64 ((s : Int)))]) (fun s => Asn w0 ok0 M0 [.loc g1 [.int .i64 (mk),.int .i64 (mf),.int .i64 (mt),.int .i64 (me),.int .i64 (mi),.int .i64 (ml),.int .i64 (mc),.int .i64 (mr),.bool (rj),.int .i64 (hi),.slice a9 (es.length) c9,.int .i64 (ix),.int .i64 (te),.slice a1 (vo.length) c1,.slice a2 (le.length) c2,.slice a3 (da.length) c3] 36,.dat kEnt.sl (es) [.slice a9 (es.length) c9],.dat kInt.sl (vo) [.slice a1 (vo.length) c1],.dat kInt.sl (le) [.slice a2 (le.length) c2],.dat kByte.sl (da) [.slice a3 (da.length) c3]]) (fun s => es.length - s) 0 ?_ ?_ ?_ ?_)))))))
 ·exact ⟨Nat.zero_le _,rfl⟩
 ·exact ⟨rfl,rfl,rfl,rfl,trivial⟩
 ·intro w hA
  exact hA.only (is:=[0,1,2,3,4]) (Z:=[]) rfl
 ·intro i hI
  (try dsimp only at hI ⊢)
  refine SQ (RG rfl (BN rfl bin_lss (HO_nil (SQ (H_cond rfl ?_ ?_)))))
  ·intro h82
   replace h82:=dT h82
   refine SK (SQ (BO (SQ (RG rfl (MV rfl (HO_indexAddr open_Ent (i:=1) rfl rfl rfl rfl rfl Tryz.underlying28 Tryz.sizeOf70 rfl ?_ ?_))))))
   ·omega
   intro b84 o84 z84 y84 hz84 hI84
   (try simp only [BIG] at hI84)
   refine LA 0 [] [_,_,_,_,_,_,_,_,_,_,_,_,_] [] rfl (.elem _ _ _) Tryz.isAgg70 Tryz.sizeOf70 rfl (AO [_,_,_,_,_,_,_,_,_,_,_,_,_] Tryz.zeroValue70 rfl ?_)
   intro g4
   refine AS rfl (SR 0 [] [_,_,_,_,_,_,_,_,_,_,_,_,_] [] [_,_,_,_,_,_,_,_,_,_,_,_,_] [_,_,_,_,_,_,_,_] [_,_,_,_,_,_,_,_,_,_,_,_,_] Tryz.sizeOf70 rfl (NI [3,4,1,79,80,81] [_,_,_,_,_,_] rfl (WD 509 [_,_,_,_,_,_,_,_] rfl (SQ (RG rfl (LA 0 [] [_,_,_,_,_,_,_,_,_,_,_,_,_] [] rfl (.loc _ _ _) Tryz.isAgg70 Tryz.sizeOf70 rfl (DU 1 rfl (DU 3 rfl (CB [0,0] [_,_,_,_,_,_,_,_] rfl Tryz.call43 (rentgood_spec _ _ _ _ _ _ _ _ _ _ _ _ _ _ _ _ _ ?_ ?_) ?_)))))))))
   ·(dsimp only [BIG];omega)
   ·(dsimp only [BIG];omega)
   intro y87 hy87
   clear y87 hy87
   refine HO_set (v':=.bool (Ent.good z84)) 87 rfl (by rfl) (NT rfl (MV rfl (HO_split (d:=89) rfl ?_ ?_)))
   ·intro h89
    replace h89:=nT h89
    iterate 8 refine HO_no rfl rfl rfl ?_
    refine PT rfl (MV rfl (NO rfl (NO rfl (NO rfl (NO rfl (NO rfl (PT rfl (NI [105,1,79,80,81] [_,_,_,_,_] rfl (WD 248 [_,_,_,_,_] rfl (CT rfl (SQ (RG rfl ?_))))))))))))
    refine AS rfl (NI [2] [_] rfl (WD 0 [] rfl (R1 Tryz.results24 () rfl (fun w hA => ⟨?_,?_,?_⟩))))
    ·(first | (exact congrArg Value.bool (hD.trans (by rw [Ent.ok_no hz84 hI.2 (.inl h89)];rfl)).symm) | (exact congrArg Value.bool (hD.trans (by rw [Ent.ok_no hz84 hI.2 (.inr (.inl h99))];rfl)).symm) | (exact congrArg Value.bool (hD.trans (by rw [Ent.ok_no hz84 hI.2 (.inr (.inr (by omega)))];rfl)).symm))
    ·trivial
    ·exact hA.keep (m:=[]) (Y:=[]) rfl
   intro h89
   replace h89:=nF h89
   have hgi:=Ent.good_idx h89
   (try dsimp only at hgi)
   refine FA 0 rfl Tryz.underlying70 rfl Tryz.sizeOf3 (LD 0 0 rfl Tryz.isAgg3 (FA 4 rfl Tryz.underlying36 rfl Tryz.sizeOf3 (LD 3 4 rfl Tryz.isAgg3 (BN rfl (bin_sub ?_ ?_) ?_))))
   ·omega
   ·omega
   refine MV rfl (BN rfl (bin_add ?_ ?_) ?_)
   ·omega
   ·omega
   refine BN rfl bin_neq (PF rfl (MV rfl (HO_split (d:=99) rfl ?_ ?_)))
   ·intro h99
    replace h99:=dT h99
    refine NO rfl (NO rfl (NO rfl (NO rfl (NO rfl (PT rfl (NI [105,1,79,80,81] [_,_,_,_,_] rfl (WD 248 [_,_,_,_,_] rfl (CT rfl (SQ (RG rfl (AS rfl (HO_nil ?_))))))))))))
    refine EV [2] [_] rfl (WD 0 [] rfl (R1 Tryz.results24 () rfl (fun w hA => ⟨?_,?_,?_⟩)))
    ·(first | (exact congrArg Value.bool (hD.trans (by rw [Ent.ok_no hz84 hI.2 (.inl h89)];rfl)).symm) | (exact congrArg Value.bool (hD.trans (by rw [Ent.ok_no hz84 hI.2 (.inr (.inl h99))];rfl)).symm) | (exact congrArg Value.bool (hD.trans (by rw [Ent.ok_no hz84 hI.2 (.inr (.inr (by omega)))];rfl)).symm))
    ·trivial
    ·exact hA.keep (m:=[]) (Y:=[]) rfl
   intro h99
   replace h99:=dF h99
   refine FA 1 rfl Tryz.underlying70 rfl Tryz.sizeOf3 (LD 0 1 rfl Tryz.isAgg3 (FA 3 rfl Tryz.underlying36 rfl Tryz.sizeOf3 (LD 3 3 rfl Tryz.isAgg3 (BN rfl bin_gtr (PF rfl (NI [105,1,79,80,81] [_,_,_,_,_] rfl (WD 248 [_,_,_,_,_] rfl (H_cond rfl ?_ ?_))))))))
   ·intro h105
    replace h105:=dT h105
    refine SQ (RG rfl (AS rfl (NI [2] [_] rfl (WD 0 [] rfl (R1 Tryz.results24 () rfl (fun w hA => ⟨?_,?_,?_⟩))))))
    ·(first | (exact congrArg Value.bool (hD.trans (by rw [Ent.ok_no hz84 hI.2 (.inl h89)];rfl)).symm) | (exact congrArg Value.bool (hD.trans (by rw [Ent.ok_no hz84 hI.2 (.inr (.inl h99))];rfl)).symm) | (exact congrArg Value.bool (hD.trans (by rw [Ent.ok_no hz84 hI.2 (.inr (.inr (by omega)))];rfl)).symm))
    ·trivial
    ·exact hA.keep (m:=[]) (Y:=[]) rfl
   intro h105
   replace h105:=dF h105
   refine SK (BD (RG rfl (BN rfl (bin_add ?_ ?_) ?_)))
   ·omega
   ·omega
   refine MV rfl (NI [81,1,79,80] [_,_,_,_] rfl (H_inv (fun a w hf hA => ⟨i + 1,?_,?_,hf.sub ?_,?_⟩)))
   ·exact ⟨by omega,Ent.ok_next hz84 hI.2 h89 (by omega) (by omega)⟩
   ·(try dsimp only);omega
   ·exact ⟨rfl,rfl,rfl,rfl,trivial⟩
   ·exact hA.only (is:=[0,1,2,3,4]) (Z:=[]) rfl
  intro h82
  replace h82:=dF h82
  refine H_exit rfl (SQ (SQ ?_))
  have hok:=Ent.ok_end hI.2 (by omega)
  refine RG rfl (FA 0 rfl Tryz.underlying36 rfl Tryz.sizeOf3 (LD 0 0 rfl Tryz.isAgg3 (BN rfl bin_eql (NI [109,1] [_,_] rfl (H_cond rfl ?_ ?_)))))
  ·intro h109
   replace h109:=dT h109
   refine SQ (RG rfl (FA 11 rfl Tryz.underlying36 rfl Tryz.sizeOf34 (LA 0 [_,_,_,_,_,_,_,_,_,_,_] [_,_,_,_,_] [] rfl (.loc _ _ _) Tryz.isAgg34 Tryz.sizeOf34 rfl (DU 2 rfl (DU 4 rfl (DU 6 rfl (CB [0,0,0] [_,_,_,_,_] rfl Tryz.call44 (rgoodsnap_spec _ _ _ _ _ _ _ _ _ _ _) ?_)))))))
   intro y112 hy112
   clear y112 hy112
   refine AS rfl (NI [2] [_] rfl (WD 0 [] rfl (R1 Tryz.results24 () rfl (fun w hA => ⟨?_,?_,?_⟩))))
   ·(exact congrArg Value.bool (hD.trans (by rw [hok,Bool.true_and,if_pos h109])).symm)
   ·trivial
   ·exact hA.keep (m:=[]) (Y:=[]) rfl
  intro h109
  replace h109:=dF h109
  refine SK (SQ (RG rfl (FA 11 rfl Tryz.underlying36 rfl Tryz.sizeOf34 (LA 0 [_,_,_,_,_,_,_,_,_,_,_] [_,_,_,_,_] [] rfl (.loc _ _ _) Tryz.isAgg34 Tryz.sizeOf34 rfl (HO_build (xo:=[]) (vs:=[]) rfl rfl rfl rfl (bd34__) (HO_nilDat kInt (HO_nilDat kInt (HO_nilDat kByte (DU 5 rfl (DU 7 rfl (DU 9 rfl (DU 5 rfl (DU 5 rfl ?_)))))))))))))
  refine DU 5 rfl (CB [0,0,0,0,0,0] [_,_,_,_,_,_,_,_] rfl Tryz.call35 (rsamesnap_spec _ _ _ _ _ _ _ _ _ _ _ _ _ _ _ _ _ _ _ _ _ _) ?_)
  intro y116 hy116
  clear y116 hy116
  refine AS rfl (NI [2] [_] rfl (WD 0 [] rfl (R1 Tryz.results24 () rfl (fun w hA => ⟨?_,?_,?_⟩))))
  ·(exact congrArg Value.bool (hD.trans (by rw [hok,Bool.true_and,if_neg h109];exact (Ent.emptyS_eq _).symm)).symm)
  ·trivial
  ·exact hA.keep (m:=[]) (Y:=[]) rfl
theorem rmsgbytes_spec (mk mf mt me mi ml mc mr : Int) (rj : Bool) (hi : Int) (es : List Ent) (a9 : Option Addr) (c9 : Nat) (ix te : Int) (vo le : List Int) (a1 : Option Addr) (c1 : Nat) (a2 : Option Addr) (c2 : Nat) (da : List UInt8) (a3 : Option Addr) (c3 : Nat) (hd : da.length≤100000) (hv : vo.length≤100000) (hl : le.length≤100000) (hn : es.length≤400) (hws : Ent.wsum es≤400) (hsn : Ent.sanes es) (hm : (-9223372036854775808≤mk∧mk≤9223372036854775807)∧(-9223372036854775808≤mf∧mf≤9223372036854775807)∧(-9223372036854775808≤mt∧mt≤9223372036854775807)∧(-9223372036854775808≤me∧me≤9223372036854775807)∧(-9223372036854775808≤mi∧mi≤9223372036854775807)∧(-9223372036854775808≤ml∧ml≤9223372036854775807)∧(-9223372036854775808≤mc∧mc≤9223372036854775807)∧(-9223372036854775808≤mr∧mr≤9223372036854775807)) (hhi : (-9223372036854775808≤hi∧hi≤9223372036854775807)) (hrs : (-9223372036854775808≤ix∧ix≤9223372036854775807)∧(-9223372036854775808≤te∧te≤9223372036854775807)) : Spec Tryz.prog 33 #[.agg #[.int .i64 (mk),.int .i64 (mf),.int .i64 (mt),.int .i64 (me),.int .i64 (mi),.int .i64 (ml),.int .i64 (mc),.int .i64 (mr),.bool (rj),.int .i64 (hi),.slice a9 (es.length) c9,.int .i64 (ix),.int .i64 (te),.slice a1 (vo.length) c1,.slice a2 (le.length) c2,.slice a3 (da.length) c3]] [.dat kEnt.sl (es) [.slice a9 (es.length) c9],.dat kInt.sl (vo) [.slice a1 (vo.length) c1],.dat kInt.sl (le) [.slice a2 (le.length) c2],.dat kByte.sl (da) [.slice a3 (da.length) c3]] (β:=Option Addr × Nat) (fun y => .slice y.1 ((Ent.msgB ⟨mk,mf,mt,me,mi,ml,mc,mr,rj,hi,es,⟨ix,te,⟨vo,le⟩,da⟩⟩).length) y.2) (fun y => True) (fun y => [.dat kByte.sl (Ent.msgB ⟨mk,mf,mt,me,mi,ml,mc,mr,rj,hi,es,⟨ix,te,⟨vo,le⟩,da⟩⟩) [.slice y.1 ((Ent.msgB ⟨mk,mf,mt,me,mi,ml,mc,mr,rj,hi,es,⟨ix,te,⟨vo,le⟩,da⟩⟩).length) y.2]]):=by
 have hn8:=Ent.nums_len [mk,mf,mt,me,mi,ml,mc,mr]
 have hn1:=Ent.nums_len [hi]
 have hle:=Cod.enc_le9 es.length
 simp only [List.length_cons,List.length_nil] at hn8 hn1
 refine Spec.enter (vs:=[_]) Tryz.func33 rfl Tryz.ntmps33 rfl (Nat.le_of_ble_eq_true rfl) (fun w0 ok0 => ?_)
 generalize hM0 : blks _ = M0
 have hMn:=@noM _ _ hM0 (by simp [Atom.dat,Atom.elem])
 refine H_len_le (i:=0) rfl ?_
 intro hlen0
 refine H_len_le (i:=1) rfl ?_
 intro hlen1
 refine H_len_le (i:=2) rfl ?_
 intro hlen2
 refine SQ (RG rfl (BX [_,_,_,_,_,_,_,_,_,_,_,_,_,_,_,_] rfl ?_))
 intro g1
 refine AS rfl (NI [1] [_] rfl (SQ (RG rfl (FA 0 rfl Tryz.underlying36 rfl Tryz.sizeOf3 (LD 0 0 rfl Tryz.isAgg3 (FA 1 rfl Tryz.underlying36 rfl Tryz.sizeOf3 (LD 0 1 rfl Tryz.isAgg3 (FA 2 rfl Tryz.underlying36 rfl Tryz.sizeOf3 (LD 0 2 rfl Tryz.isAgg3 (FA 3 rfl Tryz.underlying36 rfl Tryz.sizeOf3 (LD 0 3 rfl Tryz.isAgg3 (FA 4 rfl Tryz.underlying36 rfl Tryz.sizeOf3 ?_))))))))))))
 refine LD 0 4 rfl Tryz.isAgg3 (FA 5 rfl Tryz.underlying36 rfl Tryz.sizeOf3 (LD 0 5 rfl Tryz.isAgg3 (FA 6 rfl Tryz.underlying36 rfl Tryz.sizeOf3 (LD 0 6 rfl Tryz.isAgg3 (FA 7 rfl Tryz.underlying36 rfl Tryz.sizeOf3 (LD 0 7 rfl Tryz.isAgg3 (HO_buildSlice (kd:=kInt) (xo:=[_,_,_,_,_,_,_,_]) (vs:=[_,_,_,_,_,_,_,_]) (cs:=[_,_,_,_,_,_,_,_]) (xs:=[mk,mf,mt,me,mi,ml,mc,mr]) rfl rfl rfl rfl Tryz.underlying29 elt3 rfl rfl rfl (by decide) (by decide) (by simp [Value.cells]) rfl (by intro ok w _;exact ⟨_,_,rfl,⟨rfl,by first | omega | (constructor <;> omega)⟩,⟨_,_,rfl,⟨rfl,by first | omega | (constructor <;> omega)⟩,⟨_,_,rfl,⟨rfl,by first | omega | (constructor <;> omega)⟩,⟨_,_,rfl,⟨rfl,by first | omega | (constructor <;> omega)⟩,⟨_,_,rfl,⟨rfl,by first | omega | (constructor <;> omega)⟩,⟨_,_,rfl,⟨rfl,by first | omega | (constructor <;> omega)⟩,⟨_,_,rfl,⟨rfl,by first | omega | (constructor <;> omega)⟩,⟨_,_,rfl,⟨rfl,by first | omega | (constructor <;> omega)⟩,rfl⟩⟩⟩⟩⟩⟩⟩⟩) ?_)))))))
 intro g22
 refine HO_freeze (i:=0) (R:=[_,_,_,_,_]) rfl hMn (HO_nilDat kByte (DU 0 rfl (DU 2 rfl (CB [0,0] [_,_,_,_,_,_,_] rfl Tryz.call58 (rnums_spec _ _ _ _ _ _ ?_ ?_) ?_))))
 ·(simp)
 ·(simp)
 intro y23 hy23
 refine AS rfl (NI [3,1] [_,_] rfl (WD 249 [_,_,_,_,_,_] rfl (SQ (H_drawB (m:=[yy,yy,yy,yy,yy,yy]) (Xs:=[_,_,_,_,_,_]) (fuel:=9) (l:=#[false,false,false,false,false,false,false,false,false]) mixed rfl rfl rfl (TA 0 rfl (by kernel_rfl) (V_move rfl) (TA 1 rfl (by kernel_rfl) (V_fieldAddr (r:=8) rfl Tryz.underlying36 rfl Tryz.sizeOf4 rfl) (TA 2 rfl (by kernel_rfl) (V_load1 (i:=1) (j:=8) rfl Tryz.isAgg4 rfl (.loc _ _ _) rfl rfl) (TA 4 rfl (by kernel_rfl) (V_fieldAddr (r:=9) rfl Tryz.underlying36 rfl Tryz.sizeOf3 rfl) (TA 5 rfl (by kernel_rfl) (V_load1 (i:=1) (j:=9) rfl Tryz.isAgg3 rfl (.loc _ _ _) rfl rfl) (HA_loud2 (i:=3) (j:=6) (by kernel_rfl) rfl rfl ?_ ?_))))))))))
 ·refine HO_dup (i:=0) rfl rfl ?_
  refine CB [0] [_,_,_,_,_,_] rfl Tryz.call59 (rPutBool_spec _ _ _ _ ?_) ?_
  ·(simp only [List.length_append,List.length_cons,List.length_nil];omega)
  intro y27 hy27
  refine BK 126 [_,_,_,_,_,_] rfl (LO 6 (by kernel_rfl) rfl (HO_buildSlice (kd:=kInt) (xo:=[_]) (vs:=[_]) (cs:=[_]) (xs:=[hi]) rfl rfl rfl rfl Tryz.underlying29 elt3 rfl rfl rfl (by decide) (by decide) (by simp [Value.cells]) rfl (by intro ok w _;exact ⟨_,_,rfl,⟨rfl,by first | omega | (constructor <;> omega)⟩,rfl⟩) ?_))
  intro g30
  refine BK 252 [_,_,_,_,_,_] rfl (LO 7 (by kernel_rfl) rfl (HO_freeze (i:=1) (R:=[_,_,_,_,_,_,_]) rfl hMn (HO_freeze (i:=1) (R:=[_,_,_,_,_,_,_]) rfl hMn (DU 1 rfl (DU 1 rfl (CB [0,0] [_,_,_,_,_,_,_,_] rfl Tryz.call58 (rnums_spec _ _ _ _ _ _ ?_ ?_) ?_))))))
  ·(simp only [List.length_append,List.length_cons,List.length_nil];omega)
  ·(simp)
  intro y31 hy31
  refine BK 504 [_,_,_,_,_,_] rfl (TK 8 504 [_,_,_,_,_,_] rfl (by kernel_rfl) (V_assign rfl) (HA_done (by kernel_rfl) (EV [3,1] [_,_] rfl (WD 497 [_,_,_,_,_,_] rfl (SQ (SQ (RG rfl (FA 0 rfl Tryz.underlying36 rfl Tryz.sizeOf3 (LD 1 0 rfl Tryz.isAgg3 (BN rfl bin_eql (NI [34,3,1] [_,_,_] rfl (H_cond rfl ?_ ?_))))))))))))
  ·intro h34
   replace h34:=dT h34
   refine SQ (RG rfl (MV rfl (FA 10 rfl Tryz.underlying36 rfl Tryz.sizeOf28 (LD 1 10 rfl Tryz.isAgg28 (BI rfl (bi_len_sl Tryz.underlying28) (CV rfl (cv_int Tryz.underlying3 Tryz.underlying97 (wrap_u_i rfl _)) (HO_set (v':=.int .u64 ((es.length : Int))) 39 rfl (by exact congrArg (Value.int .u64) (by simp only [IntKind.bits];omega)) (DU 0 rfl (CB [0] [_,_,_,_,_,_] rfl Tryz.call60 (rPut_spec _ _ _ _ ?_ ?_) ?_)))))))))
   ·omega
   ·(simp only [List.length_append,List.length_cons,List.length_nil];omega)
   intro y40 hy40
   refine AS rfl (NI [3,1] [_,_] rfl (WD 125 [_,_,_,_,_,_] rfl (SQ (RG rfl (FA 10 rfl Tryz.underlying36 rfl Tryz.sizeOf28 (LD 1 10 rfl Tryz.isAgg28 (BI rfl (bi_len_sl Tryz.underlying28) (MV rfl (NI [44,43,42,3,1] [_,_,_,_,_] rfl (BO (H_freeze (i:=0) (R:=[_,_,_,_,_]) rfl hMn ?_)))))))))))
   refine H_loop (σ:=Nat × List UInt8 × Option Addr × Nat) (fun s => s.2.1 = [] ++ Ent.numsB [mk,mf,mt,me,mi,ml,mc,mr] ++ ([if rj then 84 else 70] : List UInt8) ++ Ent.numsB [hi] ++ Cod.enc es.length ++ Ent.entsB (es.take s.1)∧s.1≤es.length) (fun s => [(1,.pointer (some ⟨g1,0,none⟩)),(3,.slice s.2.2.1 (s.2.1.length) s.2.2.2),(42,.slice a9 (es.length) c9),(43,.int .i64 ((es.length : Int))),(44,.int .i64 ((s.1 : Int)))]) (fun s => Asn w0 ok0 M0 [.loc g1 [.int .i64 (mk),.int .i64 (mf),.int .i64 (mt),.int .i64 (me),.int .i64 (mi),.int .i64 (ml),.int .i64 (mc),.int .i64 (mr),.bool (rj),.int .i64 (hi),.slice a9 (es.length) c9,.int .i64 (ix),.int .i64 (te),.slice a1 (vo.length) c1,.slice a2 (le.length) c2,.slice a3 (da.length) c3] 36,.dat kByte.sl (s.2.1) [.slice s.2.2.1 (s.2.1.length) s.2.2.2],.dat kEnt.sl (es) [.slice a9 (es.length) c9],.dat kInt.sl (vo) [.slice a1 (vo.length) c1],.dat kInt.sl (le) [.slice a2 (le.length) c2],.dat kByte.sl (da) [.slice a3 (da.length) c3]]) (fun s => es.length - s.1) ⟨0,[] ++ Ent.numsB [mk,mf,mt,me,mi,ml,mc,mr] ++ ([if rj then 84 else 70] : List UInt8) ++ Ent.numsB [hi] ++ Cod.enc es.length,y40.1,y40.2⟩ ?_ ?_ ?_ ?_
   ·exact ⟨by simp [Ent.entsB],Nat.zero_le _⟩
   ·exact ⟨rfl,rfl,rfl,rfl,rfl,trivial⟩
   ·intro w hA
    exact hA.only (is:=[0,0,2,3,4,5]) (Z:=[]) rfl
   ·rintro ⟨i,r,p,q⟩ hI
    (try dsimp only at hI ⊢)
    refine SQ (RG rfl (BN rfl bin_lss (HO_nil (SQ (H_cond rfl ?_ ?_)))))
    ·intro h45
     replace h45:=dT h45
     refine SK (SQ (BO (SQ (RG rfl (HO_indexAddr open_Ent (i:=2) rfl rfl rfl rfl rfl Tryz.underlying28 Tryz.sizeOf70 rfl ?_ ?_)))))
     ·omega
     intro b46 o46 z46 y46 hz46 hI46
     (try simp only [BIG] at hI46)
     refine LA 0 [] [_,_,_,_,_,_,_,_,_,_,_,_,_] [] rfl (.elem _ _ _) Tryz.isAgg70 Tryz.sizeOf70 rfl (AO [_,_,_,_,_,_,_,_,_,_,_,_,_] Tryz.zeroValue70 rfl ?_)
     intro g5
     refine SR 0 [] [_,_,_,_,_,_,_,_,_,_,_,_,_] [] [_,_,_,_,_,_,_,_,_,_,_,_,_] [_,_,_,_,_,_,_,_,_] [_,_,_,_,_,_,_,_,_,_,_,_,_] Tryz.sizeOf70 rfl (NI [5,1,3,42,43,44] [_,_,_,_,_,_] rfl (WD 1021 [_,_,_,_,_,_,_,_,_] rfl ?_))
     have hsl : r.length≤2000000:=by rw [hI.1];have:=Ent.ents_take_len (i:=i) hws;simp only [List.length_append,List.length_cons,List.length_nil];omega
     have hwz:=Ent.weight_at hz46 hws
     have hsz:=hsn _ (List.mem_of_getElem? hz46)
     refine RG rfl (MV rfl (LA 0 [] [_,_,_,_,_,_,_,_,_,_,_,_,_] [] rfl (.loc _ _ _) Tryz.isAgg70 Tryz.sizeOf70 rfl (DU 4 rfl (DU 2 rfl (DU 4 rfl (CB [0,0,0] [_,_,_,_,_,_,_,_,_] rfl Tryz.call61 (rputent_spec _ _ _ _ _ _ _ _ _ _ _ _ _ _ _ _ _ _ _ _ ?_ ?_ ?_ ?_ ?_) ?_))))))
     ·omega
     ·(unfold Ent.weight at hwz;omega)
     ·(unfold Ent.weight at hwz;omega)
     ·(unfold Ent.weight at hwz;omega)
     ·exact ⟨hsz.1,hsz.2.1,hsz.2.2.1⟩
     intro y50 hy50
     refine AS rfl (NI [3,1,42,43,44] [_,_,_,_,_] rfl (WD 977 [_,_,_,_,_,_] rfl (BD (RG rfl (BN rfl (bin_add ?_ ?_) ?_)))))
     ·omega
     ·omega
     refine MV rfl (NI [44,3,1,42,43] [_,_,_,_,_] rfl (H_inv (fun a w hf hA => ⟨⟨i + 1,r ++ Ent.entB z46,y50.1,y50.2⟩,?_,?_,hf.sub ?_,?_⟩)))
     ·exact ⟨by rw [hI.1,Ent.ents_next hz46];simp,by omega⟩
     ·(try dsimp only);omega
     ·exact ⟨rfl,rfl,rfl,rfl,rfl,trivial⟩
     ·exact hA.only (is:=[0,0,2,3,4,5]) (Z:=[]) rfl
    intro h45
    replace h45:=dF h45
    refine H_exit rfl (SQ (SQ ?_))
    obtain rfl : i = es.length:=by omega
    have hfin:=hI.1
    rw [List.take_length] at hfin
    subst hfin
    refine RG rfl (FA 0 rfl Tryz.underlying36 rfl Tryz.sizeOf3 (LD 0 0 rfl Tryz.isAgg3 (BN rfl bin_eql (NI [54,1,3] [_,_,_] rfl (H_cond rfl ?_ ?_)))))
    ·intro h54
     replace h54:=dT h54
     (exfalso;omega)
    intro h54
    replace h54:=dF h54
    refine SK (SQ (RG rfl (MV rfl (AS rfl (NI [2] [_] rfl (WD 2 [_] rfl (R1 Tryz.results33 (p,q) rfl (fun w hA => ⟨?_,?_,?_⟩))))))))
    ·(simp [Ent.msgB, *])
    ·trivial
    ·exact (hA.keep (m:=[yy]) (Y:=[_]) rfl).cast (by simp [Ent.msgB, *])
  intro h34
  replace h34:=dF h34
  refine SK (SQ (SQ (RG rfl (FA 0 rfl Tryz.underlying36 rfl Tryz.sizeOf3 (LD 1 0 rfl Tryz.isAgg3 (BN rfl bin_eql (NI [54,3,1] [_,_,_] rfl (H_cond rfl ?_ ?_))))))))
  ·intro h54
   replace h54:=dT h54
   refine RG rfl (MV rfl (FA 11 rfl Tryz.underlying36 rfl Tryz.sizeOf34 (LA 1 [_,_,_,_,_,_,_,_,_,_,_] [_,_,_,_,_] [] rfl (.loc _ _ _) Tryz.isAgg34 Tryz.sizeOf34 rfl (DU 0 rfl (DU 4 rfl (DU 6 rfl (DU 8 rfl (CB [0,0,0,0] [_,_,_,_,_,_] rfl Tryz.call62 (rputsnap_spec _ _ _ _ _ _ _ _ _ _ _ _ _ _ ?_ ?_ ?_ ?_ ?_) ?_))))))))
   ·(simp only [List.length_append,List.length_cons,List.length_nil];omega)
   ·omega
   ·omega
   ·omega
   ·exact hrs
   intro y58 hy58
   refine AS rfl (NI [3] [_] rfl (WD 1 [_] rfl (SQ (RG rfl (MV rfl (AS rfl (NI [2] [_] rfl (R1 Tryz.results33 y58 rfl (fun w hA => ⟨?_,?_,?_⟩)))))))))
   ·(simp [Ent.msgB, *])
   ·trivial
   ·exact (hA.keep (m:=[yy]) (Y:=[_]) rfl).cast (by simp [Ent.msgB, *])
  intro h54
  replace h54:=dF h54
  refine SK (SQ (RG rfl (MV rfl (AS rfl (NI [2] [_] rfl (WD 1 [_] rfl (R1 Tryz.results33 y31 rfl (fun w hA => ⟨?_,?_,?_⟩))))))))
  ·(simp [Ent.msgB, *])
  ·trivial
  ·exact (hA.keep (m:=[yy]) (Y:=[_]) rfl).cast (by simp [Ent.msgB, *])
 ·refine HO_buildSlice (kd:=kInt) (xo:=[_]) (vs:=[_]) (cs:=[_]) (xs:=[hi]) rfl rfl rfl rfl Tryz.underlying29 elt3 rfl rfl rfl (by decide) (by decide) (by simp [Value.cells]) rfl (by intro ok w _;exact ⟨_,_,rfl,⟨rfl,by first | omega | (constructor <;> omega)⟩,rfl⟩) ?_
  intro g30
  refine BK 126 [_,_,_,_,_,_] rfl (LO 3 (by kernel_rfl) rfl (DU 1 rfl (CB [0] [_,_,_,_,_,_,_] rfl Tryz.call59 (rPutBool_spec _ _ _ _ ?_) ?_)))
  ·(simp only [List.length_append,List.length_cons,List.length_nil];omega)
  intro y27 hy27
  refine BK 252 [_,_,_,_,_,_] rfl (LO 7 (by kernel_rfl) rfl (HO_freeze (i:=0) (R:=[_,_,_,_,_,_,_]) rfl hMn (HO_freeze (i:=1) (R:=[_,_,_,_,_,_,_]) rfl hMn (DU 1 rfl (DU 1 rfl (CB [0,0] [_,_,_,_,_,_,_,_] rfl Tryz.call58 (rnums_spec _ _ _ _ _ _ ?_ ?_) ?_))))))
  ·(simp only [List.length_append,List.length_cons,List.length_nil];omega)
  ·(simp)
  intro y31 hy31
  refine BK 504 [_,_,_,_,_,_] rfl (TK 8 504 [_,_,_,_,_,_] rfl (by kernel_rfl) (V_assign rfl) (HA_done (by kernel_rfl) (EV [3,1] [_,_] rfl (WD 497 [_,_,_,_,_,_] rfl (SQ (SQ (RG rfl (FA 0 rfl Tryz.underlying36 rfl Tryz.sizeOf3 (LD 1 0 rfl Tryz.isAgg3 (BN rfl bin_eql (NI [34,3,1] [_,_,_] rfl (H_cond rfl ?_ ?_))))))))))))
  ·intro h34
   replace h34:=dT h34
   refine SQ (RG rfl (MV rfl (FA 10 rfl Tryz.underlying36 rfl Tryz.sizeOf28 (LD 1 10 rfl Tryz.isAgg28 (BI rfl (bi_len_sl Tryz.underlying28) (CV rfl (cv_int Tryz.underlying3 Tryz.underlying97 (wrap_u_i rfl _)) (HO_set (v':=.int .u64 ((es.length : Int))) 39 rfl (by exact congrArg (Value.int .u64) (by simp only [IntKind.bits];omega)) (DU 0 rfl (CB [0] [_,_,_,_,_,_] rfl Tryz.call60 (rPut_spec _ _ _ _ ?_ ?_) ?_)))))))))
   ·omega
   ·(simp only [List.length_append,List.length_cons,List.length_nil];omega)
   intro y40 hy40
   refine AS rfl (NI [3,1] [_,_] rfl (WD 125 [_,_,_,_,_,_] rfl (SQ (RG rfl (FA 10 rfl Tryz.underlying36 rfl Tryz.sizeOf28 (LD 1 10 rfl Tryz.isAgg28 (BI rfl (bi_len_sl Tryz.underlying28) (MV rfl (NI [44,43,42,3,1] [_,_,_,_,_] rfl (BO (H_freeze (i:=0) (R:=[_,_,_,_,_]) rfl hMn ?_)))))))))))
   refine H_loop (σ:=Nat × List UInt8 × Option Addr × Nat) (fun s => s.2.1 = [] ++ Ent.numsB [mk,mf,mt,me,mi,ml,mc,mr] ++ ([if rj then 84 else 70] : List UInt8) ++ Ent.numsB [hi] ++ Cod.enc es.length ++ Ent.entsB (es.take s.1)∧s.1≤es.length) (fun s => [(1,.pointer (some ⟨g1,0,none⟩)),(3,.slice s.2.2.1 (s.2.1.length) s.2.2.2),(42,.slice a9 (es.length) c9),(43,.int .i64 ((es.length : Int))),(44,.int .i64 ((s.1 : Int)))]) (fun s => Asn w0 ok0 M0 [.loc g1 [.int .i64 (mk),.int .i64 (mf),.int .i64 (mt),.int .i64 (me),.int .i64 (mi),.int .i64 (ml),.int .i64 (mc),.int .i64 (mr),.bool (rj),.int .i64 (hi),.slice a9 (es.length) c9,.int .i64 (ix),.int .i64 (te),.slice a1 (vo.length) c1,.slice a2 (le.length) c2,.slice a3 (da.length) c3] 36,.dat kByte.sl (s.2.1) [.slice s.2.2.1 (s.2.1.length) s.2.2.2],.dat kEnt.sl (es) [.slice a9 (es.length) c9],.dat kInt.sl (vo) [.slice a1 (vo.length) c1],.dat kInt.sl (le) [.slice a2 (le.length) c2],.dat kByte.sl (da) [.slice a3 (da.length) c3]]) (fun s => es.length - s.1) ⟨0,[] ++ Ent.numsB [mk,mf,mt,me,mi,ml,mc,mr] ++ ([if rj then 84 else 70] : List UInt8) ++ Ent.numsB [hi] ++ Cod.enc es.length,y40.1,y40.2⟩ ?_ ?_ ?_ ?_
   ·exact ⟨by simp [Ent.entsB],Nat.zero_le _⟩
   ·exact ⟨rfl,rfl,rfl,rfl,rfl,trivial⟩
   ·intro w hA
    exact hA.only (is:=[0,0,2,3,4,5]) (Z:=[]) rfl
   ·rintro ⟨i,r,p,q⟩ hI
    (try dsimp only at hI ⊢)
    refine SQ (RG rfl (BN rfl bin_lss (HO_nil (SQ (H_cond rfl ?_ ?_)))))
    ·intro h45
     replace h45:=dT h45
     refine SK (SQ (BO (SQ (RG rfl (HO_indexAddr open_Ent (i:=2) rfl rfl rfl rfl rfl Tryz.underlying28 Tryz.sizeOf70 rfl ?_ ?_)))))
     ·omega
     intro b46 o46 z46 y46 hz46 hI46
     (try simp only [BIG] at hI46)
     refine LA 0 [] [_,_,_,_,_,_,_,_,_,_,_,_,_] [] rfl (.elem _ _ _) Tryz.isAgg70 Tryz.sizeOf70 rfl (AO [_,_,_,_,_,_,_,_,_,_,_,_,_] Tryz.zeroValue70 rfl ?_)
     intro g5
     refine SR 0 [] [_,_,_,_,_,_,_,_,_,_,_,_,_] [] [_,_,_,_,_,_,_,_,_,_,_,_,_] [_,_,_,_,_,_,_,_,_] [_,_,_,_,_,_,_,_,_,_,_,_,_] Tryz.sizeOf70 rfl (NI [5,1,3,42,43,44] [_,_,_,_,_,_] rfl (WD 1021 [_,_,_,_,_,_,_,_,_] rfl ?_))
     have hsl : r.length≤2000000:=by rw [hI.1];have:=Ent.ents_take_len (i:=i) hws;simp only [List.length_append,List.length_cons,List.length_nil];omega
     have hwz:=Ent.weight_at hz46 hws
     have hsz:=hsn _ (List.mem_of_getElem? hz46)
     refine RG rfl (MV rfl (LA 0 [] [_,_,_,_,_,_,_,_,_,_,_,_,_] [] rfl (.loc _ _ _) Tryz.isAgg70 Tryz.sizeOf70 rfl (DU 4 rfl (DU 2 rfl (DU 4 rfl (CB [0,0,0] [_,_,_,_,_,_,_,_,_] rfl Tryz.call61 (rputent_spec _ _ _ _ _ _ _ _ _ _ _ _ _ _ _ _ _ _ _ _ ?_ ?_ ?_ ?_ ?_) ?_))))))
     ·omega
     ·(unfold Ent.weight at hwz;omega)
     ·(unfold Ent.weight at hwz;omega)
     ·(unfold Ent.weight at hwz;omega)
     ·exact ⟨hsz.1,hsz.2.1,hsz.2.2.1⟩
     intro y50 hy50
     refine AS rfl (NI [3,1,42,43,44] [_,_,_,_,_] rfl (WD 977 [_,_,_,_,_,_] rfl (BD (RG rfl (BN rfl (bin_add ?_ ?_) ?_)))))
     ·omega
     ·omega
     refine MV rfl (NI [44,3,1,42,43] [_,_,_,_,_] rfl (H_inv (fun a w hf hA => ⟨⟨i + 1,r ++ Ent.entB z46,y50.1,y50.2⟩,?_,?_,hf.sub ?_,?_⟩)))
     ·exact ⟨by rw [hI.1,Ent.ents_next hz46];simp,by omega⟩
     ·(try dsimp only);omega
     ·exact ⟨rfl,rfl,rfl,rfl,rfl,trivial⟩
     ·exact hA.only (is:=[0,0,2,3,4,5]) (Z:=[]) rfl
    intro h45
    replace h45:=dF h45
    refine H_exit rfl (SQ (SQ ?_))
    obtain rfl : i = es.length:=by omega
    have hfin:=hI.1
    rw [List.take_length] at hfin
    subst hfin
    refine RG rfl (FA 0 rfl Tryz.underlying36 rfl Tryz.sizeOf3 (LD 0 0 rfl Tryz.isAgg3 (BN rfl bin_eql (NI [54,1,3] [_,_,_] rfl (H_cond rfl ?_ ?_)))))
    ·intro h54
     replace h54:=dT h54
     (exfalso;omega)
    intro h54
    replace h54:=dF h54
    refine SK (SQ (RG rfl (MV rfl (AS rfl (NI [2] [_] rfl (WD 2 [_] rfl (R1 Tryz.results33 (p,q) rfl (fun w hA => ⟨?_,?_,?_⟩))))))))
    ·(simp [Ent.msgB, *])
    ·trivial
    ·exact (hA.keep (m:=[yy]) (Y:=[_]) rfl).cast (by simp [Ent.msgB, *])
  intro h34
  replace h34:=dF h34
  refine SK (SQ (SQ (RG rfl (FA 0 rfl Tryz.underlying36 rfl Tryz.sizeOf3 (LD 1 0 rfl Tryz.isAgg3 (BN rfl bin_eql (NI [54,3,1] [_,_,_] rfl (H_cond rfl ?_ ?_))))))))
  ·intro h54
   replace h54:=dT h54
   refine RG rfl (MV rfl (FA 11 rfl Tryz.underlying36 rfl Tryz.sizeOf34 (LA 1 [_,_,_,_,_,_,_,_,_,_,_] [_,_,_,_,_] [] rfl (.loc _ _ _) Tryz.isAgg34 Tryz.sizeOf34 rfl (DU 0 rfl (DU 4 rfl (DU 6 rfl (DU 8 rfl (CB [0,0,0,0] [_,_,_,_,_,_] rfl Tryz.call62 (rputsnap_spec _ _ _ _ _ _ _ _ _ _ _ _ _ _ ?_ ?_ ?_ ?_ ?_) ?_))))))))
   ·(simp only [List.length_append,List.length_cons,List.length_nil];omega)
   ·omega
   ·omega
   ·omega
   ·exact hrs
   intro y58 hy58
   refine AS rfl (NI [3] [_] rfl (WD 1 [_] rfl (SQ (RG rfl (MV rfl (AS rfl (NI [2] [_] rfl (R1 Tryz.results33 y58 rfl (fun w hA => ⟨?_,?_,?_⟩)))))))))
   ·(simp [Ent.msgB, *])
   ·trivial
   ·exact (hA.keep (m:=[yy]) (Y:=[_]) rfl).cast (by simp [Ent.msgB, *])
  intro h54
  replace h54:=dF h54
  refine SK (SQ (RG rfl (MV rfl (AS rfl (NI [2] [_] rfl (WD 1 [_] rfl (R1 Tryz.results33 y31 rfl (fun w hA => ⟨?_,?_,?_⟩))))))))
  ·(simp [Ent.msgB, *])
  ·trivial
  ·exact (hA.keep (m:=[yy]) (Y:=[_]) rfl).cast (by simp [Ent.msgB, *])
theorem rreadmsg_spec (b : List UInt8) (a : Option Addr) (c : Nat) (hb : b.length≤100000) : Spec Tryz.prog 40 #[.slice a (b.length) c] [.dat kByte.sl (b) [.slice a (b.length) c]] (β:=(Option Addr × Nat) × (Option Addr × Nat) × (Option Addr × Nat) × (Option Addr × Nat)) (fun y => .tuple #[.agg #[.int .i64 ((Ent.readM b).1.kind),.int .i64 ((Ent.readM b).1.frm),.int .i64 ((Ent.readM b).1.to),.int .i64 ((Ent.readM b).1.term),.int .i64 ((Ent.readM b).1.idx),.int .i64 ((Ent.readM b).1.lterm),.int .i64 ((Ent.readM b).1.commit),.int .i64 ((Ent.readM b).1.round),.bool ((Ent.readM b).1.rej),.int .i64 ((Ent.readM b).1.hint),.slice y.1.1 (((Ent.readM b).1.ents).length) y.1.2,.int .i64 ((Ent.readM b).1.snap.idx),.int .i64 ((Ent.readM b).1.snap.term),.slice y.2.1.1 (((Ent.readM b).1.snap.conf.vot).length) y.2.1.2,.slice y.2.2.1.1 (((Ent.readM b).1.snap.conf.lea).length) y.2.2.1.2,.slice y.2.2.2.1 (((Ent.readM b).1.snap.data).length) y.2.2.2.2],.int .i64 ((Ent.readM b).2)]) (fun y => True) (fun y => [.dat kEnt.sl ((Ent.readM b).1.ents) [.slice y.1.1 (((Ent.readM b).1.ents).length) y.1.2],.dat kInt.sl ((Ent.readM b).1.snap.conf.vot) [.slice y.2.1.1 (((Ent.readM b).1.snap.conf.vot).length) y.2.1.2],.dat kInt.sl ((Ent.readM b).1.snap.conf.lea) [.slice y.2.2.1.1 (((Ent.readM b).1.snap.conf.lea).length) y.2.2.1.2],.dat kByte.sl ((Ent.readM b).1.snap.data) [.slice y.2.2.2.1 (((Ent.readM b).1.snap.data).length) y.2.2.2.2]]):=by
 refine Spec.enter (vs:=[_]) Tryz.func40 rfl Tryz.ntmps40 rfl (Nat.le_of_ble_eq_true rfl) (fun w0 ok0 => ?_)
 generalize hM0 : blks _ = M0
 have hMn:=@noM _ _ hM0 (by simp [Atom.dat,Atom.elem])
 refine SQ (RG rfl (AO [_,_,_,_,_,_,_,_,_,_,_,_,_,_,_,_] Tryz.zeroValue36 rfl ?_))
 intro g2
 refine AS rfl (NI [2,0] [_,_] rfl (SQ (RG rfl (MV rfl (HO_build (xo:=[(0,_)]) (vs:=[_]) rfl rfl rfl rfl (bd117_0_s) (BX [_,_] rfl ?_))))))
 intro g10
 refine AS rfl (NI [4,2] [_,_] rfl (SQ (RG rfl (AO [_,_,_,_,_,_,_,_,_,_,_,_,_,_,_,_] Tryz.zeroValue36 rfl ?_))))
 intro g5
 refine HO_nil (SQ (RG rfl (MV rfl (DU 3 rfl (CB [1,0] [_,_,_] rfl Tryz.call76 (rInt_spec _ _ _ _ _ _) ?_)))))
 intro y12 hy12
 generalize hr_r1 : Cod.rd 0 (Cod.dec b) b false = r1
 have hl_r1 : r1.2.1.length≤b.length:=hr_r1 ▸ Cod.rd_len _ _ _ _
 have hz_r1:=Cod.zag_lo' hr_r1
 refine FA 0 rfl Tryz.underlying36 rfl Tryz.sizeOf3 (SR 2 [] [_] [_,_,_,_,_,_,_,_,_,_,_,_,_,_,_] [_] [_,_,_,_] [_,_,_,_,_,_,_,_,_,_,_,_,_,_,_,_] Tryz.sizeOf3 rfl (NI [5,4,2] [_,_,_] rfl (WD 15 [_,_,_,_] rfl (SQ (RG rfl (MV rfl (DU 2 rfl (CB [1,0] [_,_,_] rfl Tryz.call76 (rInt_spec _ _ _ _ _ _) ?_))))))))
 intro y15 hy15
 generalize hr_r2 : Cod.rd 0 (Cod.dec r1.2.1) r1.2.1 r1.2.2 = r2
 have hl_r2 : r2.2.1.length≤r1.2.1.length:=hr_r2 ▸ Cod.rd_len _ _ _ _
 have hz_r2:=Cod.zag_lo' hr_r2
 refine FA 1 rfl Tryz.underlying36 rfl Tryz.sizeOf3 (SR 2 [_] [_] [_,_,_,_,_,_,_,_,_,_,_,_,_,_] [_] [_,_,_,_] [_,_,_,_,_,_,_,_,_,_,_,_,_,_,_,_] Tryz.sizeOf3 rfl (NI [5,4,2] [_,_,_] rfl (WD 23 [_,_,_,_] rfl (SQ (RG rfl (MV rfl (DU 2 rfl (CB [1,0] [_,_,_] rfl Tryz.call76 (rInt_spec _ _ _ _ _ _) ?_))))))))
 intro y18 hy18
 generalize hr_r3 : Cod.rd 0 (Cod.dec r2.2.1) r2.2.1 r2.2.2 = r3
 have hl_r3 : r3.2.1.length≤r2.2.1.length:=hr_r3 ▸ Cod.rd_len _ _ _ _
 have hz_r3:=Cod.zag_lo' hr_r3
 refine FA 2 rfl Tryz.underlying36 rfl Tryz.sizeOf3 (SR 2 [_,_] [_] [_,_,_,_,_,_,_,_,_,_,_,_,_] [_] [_,_,_,_] [_,_,_,_,_,_,_,_,_,_,_,_,_,_,_,_] Tryz.sizeOf3 rfl (NI [5,4,2] [_,_,_] rfl (WD 23 [_,_,_,_] rfl (SQ (RG rfl (MV rfl (DU 2 rfl (CB [1,0] [_,_,_] rfl Tryz.call76 (rInt_spec _ _ _ _ _ _) ?_))))))))
 intro y21 hy21
 generalize hr_r4 : Cod.rd 0 (Cod.dec r3.2.1) r3.2.1 r3.2.2 = r4
 have hl_r4 : r4.2.1.length≤r3.2.1.length:=hr_r4 ▸ Cod.rd_len _ _ _ _
 have hz_r4:=Cod.zag_lo' hr_r4
 refine FA 3 rfl Tryz.underlying36 rfl Tryz.sizeOf3 (SR 2 [_,_,_] [_] [_,_,_,_,_,_,_,_,_,_,_,_] [_] [_,_,_,_] [_,_,_,_,_,_,_,_,_,_,_,_,_,_,_,_] Tryz.sizeOf3 rfl (NI [5,4,2] [_,_,_] rfl (WD 23 [_,_,_,_] rfl (SQ (RG rfl (MV rfl (DU 2 rfl (CB [1,0] [_,_,_] rfl Tryz.call76 (rInt_spec _ _ _ _ _ _) ?_))))))))
 intro y24 hy24
 generalize hr_r5 : Cod.rd 0 (Cod.dec r4.2.1) r4.2.1 r4.2.2 = r5
 have hl_r5 : r5.2.1.length≤r4.2.1.length:=hr_r5 ▸ Cod.rd_len _ _ _ _
 have hz_r5:=Cod.zag_lo' hr_r5
 refine FA 4 rfl Tryz.underlying36 rfl Tryz.sizeOf3 (SR 2 [_,_,_,_] [_] [_,_,_,_,_,_,_,_,_,_,_] [_] [_,_,_,_] [_,_,_,_,_,_,_,_,_,_,_,_,_,_,_,_] Tryz.sizeOf3 rfl (NI [5,4,2] [_,_,_] rfl (WD 23 [_,_,_,_] rfl (SQ (RG rfl (MV rfl (DU 2 rfl (CB [1,0] [_,_,_] rfl Tryz.call76 (rInt_spec _ _ _ _ _ _) ?_))))))))
 intro y27 hy27
 generalize hr_r6 : Cod.rd 0 (Cod.dec r5.2.1) r5.2.1 r5.2.2 = r6
 have hl_r6 : r6.2.1.length≤r5.2.1.length:=hr_r6 ▸ Cod.rd_len _ _ _ _
 have hz_r6:=Cod.zag_lo' hr_r6
 refine FA 5 rfl Tryz.underlying36 rfl Tryz.sizeOf3 (SR 2 [_,_,_,_,_] [_] [_,_,_,_,_,_,_,_,_,_] [_] [_,_,_,_] [_,_,_,_,_,_,_,_,_,_,_,_,_,_,_,_] Tryz.sizeOf3 rfl (NI [5,4,2] [_,_,_] rfl (WD 23 [_,_,_,_] rfl (SQ (RG rfl (MV rfl (DU 2 rfl (CB [1,0] [_,_,_] rfl Tryz.call76 (rInt_spec _ _ _ _ _ _) ?_))))))))
 intro y30 hy30
 generalize hr_r7 : Cod.rd 0 (Cod.dec r6.2.1) r6.2.1 r6.2.2 = r7
 have hl_r7 : r7.2.1.length≤r6.2.1.length:=hr_r7 ▸ Cod.rd_len _ _ _ _
 have hz_r7:=Cod.zag_lo' hr_r7
 refine FA 6 rfl Tryz.underlying36 rfl Tryz.sizeOf3 (SR 2 [_,_,_,_,_,_] [_] [_,_,_,_,_,_,_,_,_] [_] [_,_,_,_] [_,_,_,_,_,_,_,_,_,_,_,_,_,_,_,_] Tryz.sizeOf3 rfl (NI [5,4,2] [_,_,_] rfl (WD 23 [_,_,_,_] rfl (SQ (RG rfl (MV rfl (DU 2 rfl (CB [1,0] [_,_,_] rfl Tryz.call76 (rInt_spec _ _ _ _ _ _) ?_))))))))
 intro y33 hy33
 generalize hr_r8 : Cod.rd 0 (Cod.dec r7.2.1) r7.2.1 r7.2.2 = r8
 have hl_r8 : r8.2.1.length≤r7.2.1.length:=hr_r8 ▸ Cod.rd_len _ _ _ _
 have hz_r8:=Cod.zag_lo' hr_r8
 refine FA 7 rfl Tryz.underlying36 rfl Tryz.sizeOf3 (SR 2 [_,_,_,_,_,_,_] [_] [_,_,_,_,_,_,_,_] [_] [_,_,_,_] [_,_,_,_,_,_,_,_,_,_,_,_,_,_,_,_] Tryz.sizeOf3 rfl (NI [5,4,2] [_,_,_] rfl (WD 23 [_,_,_,_] rfl (SQ (RG rfl (MV rfl (DU 2 rfl (CB [1,0] [_,_,_] rfl Tryz.call77 (rBool_spec _ _ _ _ _ _) ?_))))))))
 intro y36 hy36
 generalize hr_r9 : Cod.rd false (Cod.decB r8.2.1) r8.2.1 r8.2.2 = r9
 have hl_r9 : r9.2.1.length≤r8.2.1.length:=hr_r9 ▸ Cod.rd_len _ _ _ _
 refine FA 8 rfl Tryz.underlying36 rfl Tryz.sizeOf4 (SR 2 [_,_,_,_,_,_,_,_] [_] [_,_,_,_,_,_,_] [_] [_,_,_,_] [_,_,_,_,_,_,_,_,_,_,_,_,_,_,_,_] Tryz.sizeOf4 rfl (NI [5,4,2] [_,_,_] rfl (WD 23 [_,_,_,_] rfl (SQ (RG rfl (MV rfl (DU 2 rfl (CB [1,0] [_,_,_] rfl Tryz.call76 (rInt_spec _ _ _ _ _ _) ?_))))))))
 intro y39 hy39
 generalize hr_r10 : Cod.rd 0 (Cod.dec r9.2.1) r9.2.1 r9.2.2 = r10
 have hl_r10 : r10.2.1.length≤r9.2.1.length:=hr_r10 ▸ Cod.rd_len _ _ _ _
 have hz_r10:=Cod.zag_lo' hr_r10
 refine FA 9 rfl Tryz.underlying36 rfl Tryz.sizeOf3 (SR 2 [_,_,_,_,_,_,_,_,_] [_] [_,_,_,_,_,_] [_] [_,_,_,_] [_,_,_,_,_,_,_,_,_,_,_,_,_,_,_,_] Tryz.sizeOf3 rfl (NI [5,4,2] [_,_,_] rfl (WD 23 [_,_,_,_] rfl (SQ (SQ (RG rfl (FA 0 rfl Tryz.underlying36 rfl Tryz.sizeOf3 (LD 0 0 rfl Tryz.isAgg3 (BN rfl bin_eql (NI [43,5,4,2] [_,_,_,_] rfl (H_cond rfl ?_ ?_)))))))))))
 ·intro h43
  replace h43:=dT h43
  refine SQ (RG rfl (MV rfl (DU 2 rfl (CB [1,0] [_,_,_] rfl Tryz.call78 (rCount_spec _ _ _ _ _ _ _ ?_) ?_))))
  ·(constructor <;> decide)
  intro y45 hy45
  generalize hr_r11 : Cod.cnt 16 r10.2.1 r10.2.2 = r11
  have hl_r11 : r11.2.1.length≤r10.2.1.length:=hr_r11 ▸ Cod.cnt_len _ _ _
  have hc9:=Cod.cnt_le (k:=16) (by decide) r10.2.1 r10.2.2
  rw [hr_r11] at hc9
  refine AS rfl (NI [6,5,4,2] [_,_,_,_] rfl (WD 23 [_,_,_,_] rfl (SQ (RG rfl (AS rfl (HO_nil (BO (H_own0 kEnt 70 none (H_loop (σ:=Nat × List UInt8 × Bool × List Ent × Option Addr × Nat × Option Addr × Nat) (fun s => Ent.entsP r11.1 r11.2 = (s.2.2.2.1 ++ (Ent.entsP (r11.1 - s.1) (s.2.1,s.2.2.1)).1,(Ent.entsP (r11.1 - s.1) (s.2.1,s.2.2.1)).2)∧s.2.1.length≤100000∧s.1≤r11.1∧s.2.2.2.1.length≤s.1) (fun s => [(2,.pointer (some ⟨g2,0,none⟩)),(4,.pointer (some ⟨g10,0,none⟩)),(5,.pointer (some ⟨g5,0,none⟩)),(6,.int .i64 ((r11.1 : Int))),(7,.int .i64 ((s.1 : Int)))]) (fun s => Asn w0 ok0 M0 [.loc g2 [.int .i64 (0),.int .i64 (0),.int .i64 (0),.int .i64 (0),.int .i64 (0),.int .i64 (0),.int .i64 (0),.int .i64 (0),.bool (false),.int .i64 (0),.slice none 0 0,.int .i64 (0),.int .i64 (0),.slice none 0 0,.slice none 0 0,.slice none 0 0] 36,.loc g10 [.slice s.2.2.2.2.1 (s.2.1.length) s.2.2.2.2.2.1,.bool (s.2.2.1)] 117,.dat kByte.sl (s.2.1) [.slice s.2.2.2.2.1 (s.2.1.length) s.2.2.2.2.2.1],.loc g5 [.int .i64 (Cod.zag r1.1),.int .i64 (Cod.zag r2.1),.int .i64 (Cod.zag r3.1),.int .i64 (Cod.zag r4.1),.int .i64 (Cod.zag r5.1),.int .i64 (Cod.zag r6.1),.int .i64 (Cod.zag r7.1),.int .i64 (Cod.zag r8.1),.bool (r9.1),.int .i64 (Cod.zag r10.1),.slice s.2.2.2.2.2.2.1 (s.2.2.2.1.length) s.2.2.2.2.2.2.2,.int .i64 (0),.int .i64 (0),.slice none 0 0,.slice none 0 0,.slice none 0 0] 36,.own 70 kEnt s.2.2.2.2.2.2.1 s.2.2.2.2.2.2.2 (s.2.2.2.1)]) (fun s => r11.1 - s.1) ⟨0,r11.2.1,r11.2.2,[],y45.1,y45.2,none,0⟩ ?_ ?_ ?_ ?_)))))))))
  ·exact ⟨by simp,by dsimp only;omega,Nat.zero_le _,Nat.zero_le _⟩
  ·exact ⟨rfl,rfl,rfl,rfl,rfl,trivial⟩
  ·intro w hA
   exact hA.only (is:=[0,0,1,2,0]) (Z:=[]) rfl
  ·rintro ⟨i,bs,wr,l,p,q,p2,q2⟩ hI
   (try dsimp only at hI ⊢)
   have hbs:=hI.2.1
   refine SQ (SQ (RG rfl (MV rfl (MV rfl (BN rfl bin_lss (MV rfl (HO_split (d:=49) rfl ?_ ?_)))))))
   ·intro h49
    replace h49:=dT h49
    refine MV rfl (NC rfl (FA 1 rfl Tryz.underlying117 rfl Tryz.sizeOf4 (LD 1 1 rfl Tryz.isAgg4 (NT rfl (PT rfl (NI [55,2,4,5,6,7] [_,_,_,_,_,_] rfl (H_cond rfl ?_ ?_)))))))
    ·intro h55
     replace h55:=nT h55
     refine SK (SQ (BO ?_))
     have hwr : wr = false:=by simpa using h55
     obtain ⟨m,hm⟩ : ∃ q,r11.1 - i = q + 1:=⟨r11.1 - i - 1,by omega⟩
     have hm2 : r11.1 - (i + 1) = m:=by omega
     rw [hm] at hI
     refine H_drawB (m:=[yy,nn,yy,nn,nn]) (Xs:=[_,_]) (fuel:=8) (l:=#[false,false,false,false,false,false,false,false]) mixed rfl rfl rfl (TK 0 5 [_,_] rfl (by kernel_rfl) (V_fieldAddr (r:=10) rfl Tryz.underlying36 rfl Tryz.sizeOf28 rfl) (TK 2 5 [_,_] rfl (by kernel_rfl) (V_move rfl) (HA_loud2 (i:=1) (j:=3) (by kernel_rfl) rfl rfl ?_ ?_)))
     ·refine HO_load1 (i:=3) (j:=10) rfl rfl rfl Tryz.isAgg28 rfl (.loc _ _ _) rfl rfl ?_
      refine BK 5 [_,_] rfl (LO 3 (by kernel_rfl) rfl (DU 2 rfl (CB [1,0] [_,_,_,_] rfl Tryz.call79 (rreadent_spec _ _ _ _ _ _ ?_) ?_)))
      ·omega
      intro y61 hy61
      refine BK 48 [_,_] rfl (LO 4 (by kernel_rfl) rfl ?_)
      have hel:=Ent.entP_len (bs,wr)
      have heI:=Ent.entP_I (bs,wr) (by dsimp only;omega)
      obtain ⟨e,he⟩ : ∃ x,Ent.entP (bs,wr) = x:=⟨_,rfl⟩
      rw [he] at hel heI ⊢
      dsimp only at hel
      refine HO_buildSlice (kd:=kEnt) (xo:=[_]) (vs:=[_]) (cs:=[_,_,_,_,_,_,_,_,_,_,_,_,_]) (xs:=[e.1]) rfl rfl rfl rfl Tryz.underlying28 elt70 rfl rfl rfl (by decide) (by decide) (by simp [Value.cells]) rfl (fun ok w hA => ⟨_,_,rfl,⟨heI,⟨⟨_,_⟩,⟨_,_⟩⟩,rfl,(List.forall_mem_cons.2 ⟨hA _ (List.mem_of_getElem? (i:=2) rfl),(List.forall_mem_cons.2 ⟨hA _ (List.mem_of_getElem? (i:=3) rfl),(by simp)⟩)⟩)⟩,rfl⟩) ?_
      intro g62
      refine BK 96 [_,_] rfl (LO 5 (by kernel_rfl) rfl (HO_append (i:=8) (R:=[_,_,_,_,_,_,_,_]) rfl rfl rfl rfl rfl Tryz.underlying28 elt70 rfl rfl (SrcOk.own (j:=0) Tryz.underlying28 rfl rfl) ?_ ?_))
      ·(simp only [List.length_append,List.length_cons,List.length_nil];omega)
      intro a63 c63
      refine BK 192 [_,_] rfl (TK 6 192 [_,_] rfl (by kernel_rfl) (V_fieldAddr (r:=10) rfl Tryz.underlying36 rfl Tryz.sizeOf28 rfl) (LO 7 (by kernel_rfl) rfl (SR 8 [_,_,_,_,_,_,_,_,_,_] [_] [_,_,_,_,_] [_] [_,_,_,_,_,_,_,_] [_,_,_,_,_,_,_,_,_,_,_,_,_,_,_,_] Tryz.sizeOf28 rfl (BK 384 [_,_] rfl (HA_done (by kernel_rfl) (EV [2,4,5,6,7] [_,_,_,_,_] rfl (WD 155 [_,_,_,_,_] rfl (BD (RG rfl (MV rfl (BN rfl (bin_add ?_ ?_) ?_)))))))))))
      ·omega
      ·omega
      refine AS rfl (NI [7,2,4,5,6] [_,_,_,_,_] rfl (H_inv (fun a w hf hA => ⟨⟨i + 1,e.2.1,e.2.2,l ++ [e.1],y61.1.1,y61.1.2,a63,c63⟩,?_,?_,hf.sub ?_,?_⟩)))
      ·exact ⟨by dsimp only;rw [hm2];exact Ent.ents_more hI.1 hwr he,by dsimp only;omega,by dsimp only;omega,by dsimp only;simp only [List.length_append,List.length_cons,List.length_nil];omega⟩
      ·(try dsimp only);omega
      ·exact ⟨rfl,rfl,rfl,rfl,rfl,trivial⟩
      ·exact hA.only (is:=[0,0,1,0,1]) (Z:=[]) rfl
     ·refine HO_dup (i:=2) rfl rfl ?_
      refine CB [1,0] [_,_,_,_] rfl Tryz.call79 (rreadent_spec _ _ _ _ _ _ ?_) ?_
      ·omega
      intro y61 hy61
      refine BK 48 [_,_] rfl (HA_loud2 (i:=1) (j:=4) (by kernel_rfl) rfl rfl ?_ ?_)
      ·refine HO_load1 (i:=6) (j:=10) rfl rfl rfl Tryz.isAgg28 rfl (.loc _ _ _) rfl rfl ?_
       refine BK 48 [_,_] rfl (LO 4 (by kernel_rfl) rfl ?_)
       have hel:=Ent.entP_len (bs,wr)
       have heI:=Ent.entP_I (bs,wr) (by dsimp only;omega)
       obtain ⟨e,he⟩ : ∃ x,Ent.entP (bs,wr) = x:=⟨_,rfl⟩
       rw [he] at hel heI ⊢
       dsimp only at hel
       refine HO_buildSlice (kd:=kEnt) (xo:=[_]) (vs:=[_]) (cs:=[_,_,_,_,_,_,_,_,_,_,_,_,_]) (xs:=[e.1]) rfl rfl rfl rfl Tryz.underlying28 elt70 rfl rfl rfl (by decide) (by decide) (by simp [Value.cells]) rfl (fun ok w hA => ⟨_,_,rfl,⟨heI,⟨⟨_,_⟩,⟨_,_⟩⟩,rfl,(List.forall_mem_cons.2 ⟨hA _ (List.mem_of_getElem? (i:=2) rfl),(List.forall_mem_cons.2 ⟨hA _ (List.mem_of_getElem? (i:=3) rfl),(by simp)⟩)⟩)⟩,rfl⟩) ?_
       intro g62
       refine BK 96 [_,_] rfl (LO 5 (by kernel_rfl) rfl (HO_append (i:=8) (R:=[_,_,_,_,_,_,_,_]) rfl rfl rfl rfl rfl Tryz.underlying28 elt70 rfl rfl (SrcOk.own (j:=0) Tryz.underlying28 rfl rfl) ?_ ?_))
       ·(simp only [List.length_append,List.length_cons,List.length_nil];omega)
       intro a63 c63
       refine BK 192 [_,_] rfl (TK 6 192 [_,_] rfl (by kernel_rfl) (V_fieldAddr (r:=10) rfl Tryz.underlying36 rfl Tryz.sizeOf28 rfl) (LO 7 (by kernel_rfl) rfl (SR 8 [_,_,_,_,_,_,_,_,_,_] [_] [_,_,_,_,_] [_] [_,_,_,_,_,_,_,_] [_,_,_,_,_,_,_,_,_,_,_,_,_,_,_,_] Tryz.sizeOf28 rfl (BK 384 [_,_] rfl (HA_done (by kernel_rfl) (EV [2,4,5,6,7] [_,_,_,_,_] rfl (WD 155 [_,_,_,_,_] rfl (BD (RG rfl (MV rfl (BN rfl (bin_add ?_ ?_) ?_)))))))))))
       ·omega
       ·omega
       refine AS rfl (NI [7,2,4,5,6] [_,_,_,_,_] rfl (H_inv (fun a w hf hA => ⟨⟨i + 1,e.2.1,e.2.2,l ++ [e.1],y61.1.1,y61.1.2,a63,c63⟩,?_,?_,hf.sub ?_,?_⟩)))
       ·exact ⟨by dsimp only;rw [hm2];exact Ent.ents_more hI.1 hwr he,by dsimp only;omega,by dsimp only;omega,by dsimp only;simp only [List.length_append,List.length_cons,List.length_nil];omega⟩
       ·(try dsimp only);omega
       ·exact ⟨rfl,rfl,rfl,rfl,rfl,trivial⟩
       ·exact hA.only (is:=[0,0,1,0,1]) (Z:=[]) rfl
      ·have hel:=Ent.entP_len (bs,wr)
       have heI:=Ent.entP_I (bs,wr) (by dsimp only;omega)
       obtain ⟨e,he⟩ : ∃ x,Ent.entP (bs,wr) = x:=⟨_,rfl⟩
       rw [he] at hel heI ⊢
       dsimp only at hel
       refine HO_buildSlice (kd:=kEnt) (xo:=[_]) (vs:=[_]) (cs:=[_,_,_,_,_,_,_,_,_,_,_,_,_]) (xs:=[e.1]) rfl rfl rfl rfl Tryz.underlying28 elt70 rfl rfl rfl (by decide) (by decide) (by simp [Value.cells]) rfl (fun ok w hA => ⟨_,_,rfl,⟨heI,⟨⟨_,_⟩,⟨_,_⟩⟩,rfl,(List.forall_mem_cons.2 ⟨hA _ (List.mem_of_getElem? (i:=2) rfl),(List.forall_mem_cons.2 ⟨hA _ (List.mem_of_getElem? (i:=3) rfl),(by simp)⟩)⟩)⟩,rfl⟩) ?_
       intro g62
       refine BK 96 [_,_] rfl (LO 1 (by kernel_rfl) rfl (LD 7 10 rfl Tryz.isAgg28 (BK 96 [_,_] rfl (LO 5 (by kernel_rfl) rfl (HO_append (i:=8) (R:=[_,_,_,_,_,_,_,_]) rfl rfl rfl rfl rfl Tryz.underlying28 elt70 rfl rfl (SrcOk.own (j:=0) Tryz.underlying28 rfl rfl) ?_ ?_)))))
       ·(simp only [List.length_append,List.length_cons,List.length_nil];omega)
       intro a63 c63
       refine BK 192 [_,_] rfl (TK 6 192 [_,_] rfl (by kernel_rfl) (V_fieldAddr (r:=10) rfl Tryz.underlying36 rfl Tryz.sizeOf28 rfl) (LO 7 (by kernel_rfl) rfl (SR 8 [_,_,_,_,_,_,_,_,_,_] [_] [_,_,_,_,_] [_] [_,_,_,_,_,_,_,_] [_,_,_,_,_,_,_,_,_,_,_,_,_,_,_,_] Tryz.sizeOf28 rfl (BK 384 [_,_] rfl (HA_done (by kernel_rfl) (EV [2,4,5,6,7] [_,_,_,_,_] rfl (WD 155 [_,_,_,_,_] rfl (BD (RG rfl (MV rfl (BN rfl (bin_add ?_ ?_) ?_)))))))))))
       ·omega
       ·omega
       refine AS rfl (NI [7,2,4,5,6] [_,_,_,_,_] rfl (H_inv (fun a w hf hA => ⟨⟨i + 1,e.2.1,e.2.2,l ++ [e.1],y61.1.1,y61.1.2,a63,c63⟩,?_,?_,hf.sub ?_,?_⟩)))
       ·exact ⟨by dsimp only;rw [hm2];exact Ent.ents_more hI.1 hwr he,by dsimp only;omega,by dsimp only;omega,by dsimp only;simp only [List.length_append,List.length_cons,List.length_nil];omega⟩
       ·(try dsimp only);omega
       ·exact ⟨rfl,rfl,rfl,rfl,rfl,trivial⟩
       ·exact hA.only (is:=[0,0,1,0,1]) (Z:=[]) rfl
    intro h55
    replace h55:=nF h55
    refine H_exit rfl (SQ (SQ ?_))
    have hps : Ent.entsP r11.1 r11.2 = (l,(bs,wr)):=by first | exact Ent.ents0 hI.1 (by omega) | exact Ent.entsW hI.1 h55
    have hc4 : Ent.entsL 16 (r10.2.1,r10.2.2) = (l,(bs,wr)):=Ent.entsL_of hr_r11 hps
    refine RG rfl (FA 0 rfl Tryz.underlying36 rfl Tryz.sizeOf3 (LD 3 0 rfl Tryz.isAgg3 (BN rfl bin_eql (NI [67,2,4,5] [_,_,_,_] rfl (H_cond rfl ?_ ?_)))))
    ·intro h67
     replace h67:=dT h67
     (exfalso;omega)
    intro h67
    replace h67:=dF h67
    refine SK (SQ (SQ (RG rfl (MV rfl (DU 2 rfl (CB [1,0] [_,_,_,_] rfl Tryz.call81 (rEnd_spec _ _ _ _ _ _) ?_))))))
    intro y72 hy72
    clear y72 hy72
    refine NT rfl (MV rfl (HO_split (d:=74) rfl ?_ ?_))
    ·intro h74
     replace h74:=nT h74
     refine NO rfl (NO rfl (NO rfl (PT rfl (NI [78,2,5] [_,_,_] rfl (WD 26 [_,_,_] rfl (CT rfl (SQ (RG rfl (HO_build (xo:=[]) (vs:=[]) rfl rfl rfl rfl (bd36__) (SR 0 [] [_,_,_,_,_,_,_,_,_,_,_,_,_,_,_,_] [] [_,_,_,_,_,_,_,_,_,_,_,_,_,_,_,_] [_,_] [_,_,_,_,_,_,_,_,_,_,_,_,_,_,_,_] Tryz.sizeOf36 rfl (AS rfl (HO_nil ?_))))))))))))
     refine EV [3,2] [_,_] rfl (WD 1 [_] rfl (H_nilDat kEnt (H_nilDat kInt (H_nilDat kInt (H_nilDat kByte ?_)))))
     have hx : Ent.readM b = Ent.toldM (Cod.rend (bs,wr).1 (bs,wr).2 && Ent.goodMsg ⟨Cod.zag r1.1,Cod.zag r2.1,Cod.zag r3.1,Cod.zag r4.1,Cod.zag r5.1,Cod.zag r6.1,Cod.zag r7.1,Cod.zag r8.1,r9.1,Cod.zag r10.1,l,⟨0,0,⟨[],[]⟩,[]⟩⟩) ⟨Cod.zag r1.1,Cod.zag r2.1,Cod.zag r3.1,Cod.zag r4.1,Cod.zag r5.1,Cod.zag r6.1,Cod.zag r7.1,Cod.zag r8.1,r9.1,Cod.zag r10.1,l,⟨0,0,⟨[],[]⟩,[]⟩⟩:=(Ent.readM_of (Ent.msgP_5 hr_r1 hr_r2 hr_r3 hr_r4 hr_r5 hr_r6 hr_r7 hr_r8 hr_r9 hr_r10 hc4 h43)).trans rfl
     have hx2:=hx.trans (Ent.toldM_no (.inl h74))
     refine H_ret2 Tryz.results40 (.cell rfl (fun w hA => run_loadVarA (cs:=[_,_,_,_,_,_,_,_,_,_,_,_,_,_,_,_]) (Tryz.isAgg36 w) (Tryz.sizeOf36 w) (Tells.cells (.loc _ _ _) (hA.get (i:=4) rfl)))) (.tmp rfl) (fun w hA => ⟨((none,0),(none,0),(none,0),(none,0)),congrArg Ending.returned ?_,?_,?_⟩)
     ·(rw [hx2] <;> rfl)
     ·trivial
     ·(rw [hx2];exact hA.only (is:=[0,0,0,0]) (Z:=[_]) rfl)
    intro h74
    replace h74:=nF h74
    refine LA 3 [] [_,_,_,_,_,_,_,_,_,_,_,_,_,_,_,_] [] rfl (.loc _ _ _) Tryz.isAgg36 Tryz.sizeOf36 rfl (HO_nilDat kInt (HO_nilDat kInt (HO_nilDat kByte (DU 2 rfl (DU 2 rfl (DU 2 rfl (CB [7,0,0,0] [_,_,_,_,_,_,_] rfl Tryz.call24 (Spec.lend (pre1:=[]) (pre2:=[_,_,_]) (rgoodmsg_spec _ _ _ _ _ _ _ _ _ _ _ _ _ _ _ _ _ _ _ _ _ _ _ _ ?_ ?_ ?_ ?_) rfl (fun _ _ ha => nomatch ha)) ?_)))))))
    ·(exact Nat.zero_le _)
    ·(exact Nat.zero_le _)
    ·(exact Nat.zero_le _)
    ·exact hz_r5.2
    intro y76 hy76
    clear y76 hy76
    refine NT rfl (PF rfl (NI [78,2,5] [_,_,_] rfl (WD 161 [_,_,_] rfl (H_cond rfl ?_ ?_))))
    ·intro h78
     replace h78:=nT h78
     refine SQ (RG rfl (HO_build (xo:=[]) (vs:=[]) rfl rfl rfl rfl (bd36__) (SR 1 [] [_,_,_,_,_,_,_,_,_,_,_,_,_,_,_,_] [] [_,_,_,_,_,_,_,_,_,_,_,_,_,_,_,_] [_,_] [_,_,_,_,_,_,_,_,_,_,_,_,_,_,_,_] Tryz.sizeOf36 rfl (AS rfl (NI [3,2] [_,_] rfl (WD 1 [_] rfl (H_nilDat kEnt (H_nilDat kInt (H_nilDat kInt (H_nilDat kByte ?_))))))))))
     have hx : Ent.readM b = Ent.toldM (Cod.rend (bs,wr).1 (bs,wr).2 && Ent.goodMsg ⟨Cod.zag r1.1,Cod.zag r2.1,Cod.zag r3.1,Cod.zag r4.1,Cod.zag r5.1,Cod.zag r6.1,Cod.zag r7.1,Cod.zag r8.1,r9.1,Cod.zag r10.1,l,⟨0,0,⟨[],[]⟩,[]⟩⟩) ⟨Cod.zag r1.1,Cod.zag r2.1,Cod.zag r3.1,Cod.zag r4.1,Cod.zag r5.1,Cod.zag r6.1,Cod.zag r7.1,Cod.zag r8.1,r9.1,Cod.zag r10.1,l,⟨0,0,⟨[],[]⟩,[]⟩⟩:=(Ent.readM_of (Ent.msgP_5 hr_r1 hr_r2 hr_r3 hr_r4 hr_r5 hr_r6 hr_r7 hr_r8 hr_r9 hr_r10 hc4 h43)).trans rfl
     have hx2:=hx.trans (Ent.toldM_no (.inr h78))
     refine H_ret2 Tryz.results40 (.cell rfl (fun w hA => run_loadVarA (cs:=[_,_,_,_,_,_,_,_,_,_,_,_,_,_,_,_]) (Tryz.isAgg36 w) (Tryz.sizeOf36 w) (Tells.cells (.loc _ _ _) (hA.get (i:=4) rfl)))) (.tmp rfl) (fun w hA => ⟨((none,0),(none,0),(none,0),(none,0)),congrArg Ending.returned ?_,?_,?_⟩)
     ·(rw [hx2] <;> rfl)
     ·trivial
     ·(rw [hx2];exact hA.only (is:=[0,0,0,0]) (Z:=[_]) rfl)
    intro h78
    replace h78:=nF h78
    refine SK (SQ (RG rfl (LA 2 [] [_,_,_,_,_,_,_,_,_,_,_,_,_,_,_,_] [] rfl (.loc _ _ _) Tryz.isAgg36 Tryz.sizeOf36 rfl (SR 1 [] [_,_,_,_,_,_,_,_,_,_,_,_,_,_,_,_] [] [_,_,_,_,_,_,_,_,_,_,_,_,_,_,_,_] [_,_] [_,_,_,_,_,_,_,_,_,_,_,_,_,_,_,_] Tryz.sizeOf36 rfl (AS rfl (NI [3,2] [_,_] rfl (WD 3 [_,_] rfl (H_freeze (i:=1) (R:=[_]) rfl hMn (H_nilDat kInt (H_nilDat kInt (H_nilDat kByte ?_)))))))))))
    have hx : Ent.readM b = Ent.toldM (Cod.rend (bs,wr).1 (bs,wr).2 && Ent.goodMsg ⟨Cod.zag r1.1,Cod.zag r2.1,Cod.zag r3.1,Cod.zag r4.1,Cod.zag r5.1,Cod.zag r6.1,Cod.zag r7.1,Cod.zag r8.1,r9.1,Cod.zag r10.1,l,⟨0,0,⟨[],[]⟩,[]⟩⟩) ⟨Cod.zag r1.1,Cod.zag r2.1,Cod.zag r3.1,Cod.zag r4.1,Cod.zag r5.1,Cod.zag r6.1,Cod.zag r7.1,Cod.zag r8.1,r9.1,Cod.zag r10.1,l,⟨0,0,⟨[],[]⟩,[]⟩⟩:=(Ent.readM_of (Ent.msgP_5 hr_r1 hr_r2 hr_r3 hr_r4 hr_r5 hr_r6 hr_r7 hr_r8 hr_r9 hr_r10 hc4 h43)).trans rfl
    have hx2:=hx.trans (Ent.toldM_yes h74 h78)
    refine H_ret2 Tryz.results40 (.cell rfl (fun w hA => run_loadVarA (cs:=[_,_,_,_,_,_,_,_,_,_,_,_,_,_,_,_]) (Tryz.isAgg36 w) (Tryz.sizeOf36 w) (Tells.cells (.loc _ _ _) (hA.get (i:=4) rfl)))) (.tmp rfl) (fun w hA => ⟨((p2,q2),(none,0),(none,0),(none,0)),congrArg Ending.returned ?_,?_,?_⟩)
    ·(rw [hx2] <;> rfl)
    ·trivial
    ·(rw [hx2];exact hA.only (is:=[0,0,0,0]) (Z:=[_]) rfl)
   intro h49
   replace h49:=dF h49
   refine NO rfl (NO rfl (NO rfl (NO rfl (NO rfl (PF rfl (NI [55,2,4,5,6,7] [_,_,_,_,_,_] rfl (CF rfl (H_exit rfl (SQ (SQ ?_))))))))))
   have hps : Ent.entsP r11.1 r11.2 = (l,(bs,wr)):=by first | exact Ent.ents0 hI.1 (by omega) | exact Ent.entsW hI.1 h55
   have hc4 : Ent.entsL 16 (r10.2.1,r10.2.2) = (l,(bs,wr)):=Ent.entsL_of hr_r11 hps
   refine RG rfl (FA 0 rfl Tryz.underlying36 rfl Tryz.sizeOf3 (LD 3 0 rfl Tryz.isAgg3 (BN rfl bin_eql (NI [67,2,4,5] [_,_,_,_] rfl (H_cond rfl ?_ ?_)))))
   ·intro h67
    replace h67:=dT h67
    (exfalso;omega)
   intro h67
   replace h67:=dF h67
   refine SK (SQ (SQ (RG rfl (MV rfl (DU 2 rfl (CB [1,0] [_,_,_,_] rfl Tryz.call81 (rEnd_spec _ _ _ _ _ _) ?_))))))
   intro y72 hy72
   clear y72 hy72
   refine NT rfl (MV rfl (HO_split (d:=74) rfl ?_ ?_))
   ·intro h74
    replace h74:=nT h74
    refine NO rfl (NO rfl (NO rfl (PT rfl (NI [78,2,5] [_,_,_] rfl (WD 26 [_,_,_] rfl (CT rfl (SQ (RG rfl (HO_build (xo:=[]) (vs:=[]) rfl rfl rfl rfl (bd36__) (SR 0 [] [_,_,_,_,_,_,_,_,_,_,_,_,_,_,_,_] [] [_,_,_,_,_,_,_,_,_,_,_,_,_,_,_,_] [_,_] [_,_,_,_,_,_,_,_,_,_,_,_,_,_,_,_] Tryz.sizeOf36 rfl (AS rfl (HO_nil ?_))))))))))))
    refine EV [3,2] [_,_] rfl (WD 1 [_] rfl (H_nilDat kEnt (H_nilDat kInt (H_nilDat kInt (H_nilDat kByte ?_)))))
    have hx : Ent.readM b = Ent.toldM (Cod.rend (bs,wr).1 (bs,wr).2 && Ent.goodMsg ⟨Cod.zag r1.1,Cod.zag r2.1,Cod.zag r3.1,Cod.zag r4.1,Cod.zag r5.1,Cod.zag r6.1,Cod.zag r7.1,Cod.zag r8.1,r9.1,Cod.zag r10.1,l,⟨0,0,⟨[],[]⟩,[]⟩⟩) ⟨Cod.zag r1.1,Cod.zag r2.1,Cod.zag r3.1,Cod.zag r4.1,Cod.zag r5.1,Cod.zag r6.1,Cod.zag r7.1,Cod.zag r8.1,r9.1,Cod.zag r10.1,l,⟨0,0,⟨[],[]⟩,[]⟩⟩:=(Ent.readM_of (Ent.msgP_5 hr_r1 hr_r2 hr_r3 hr_r4 hr_r5 hr_r6 hr_r7 hr_r8 hr_r9 hr_r10 hc4 h43)).trans rfl
    have hx2:=hx.trans (Ent.toldM_no (.inl h74))
    refine H_ret2 Tryz.results40 (.cell rfl (fun w hA => run_loadVarA (cs:=[_,_,_,_,_,_,_,_,_,_,_,_,_,_,_,_]) (Tryz.isAgg36 w) (Tryz.sizeOf36 w) (Tells.cells (.loc _ _ _) (hA.get (i:=4) rfl)))) (.tmp rfl) (fun w hA => ⟨((none,0),(none,0),(none,0),(none,0)),congrArg Ending.returned ?_,?_,?_⟩)
    ·(rw [hx2] <;> rfl)
    ·trivial
    ·(rw [hx2];exact hA.only (is:=[0,0,0,0]) (Z:=[_]) rfl)
   intro h74
   replace h74:=nF h74
   refine LA 3 [] [_,_,_,_,_,_,_,_,_,_,_,_,_,_,_,_] [] rfl (.loc _ _ _) Tryz.isAgg36 Tryz.sizeOf36 rfl (HO_nilDat kInt (HO_nilDat kInt (HO_nilDat kByte (DU 2 rfl (DU 2 rfl (DU 2 rfl (CB [7,0,0,0] [_,_,_,_,_,_,_] rfl Tryz.call24 (Spec.lend (pre1:=[]) (pre2:=[_,_,_]) (rgoodmsg_spec _ _ _ _ _ _ _ _ _ _ _ _ _ _ _ _ _ _ _ _ _ _ _ _ ?_ ?_ ?_ ?_) rfl (fun _ _ ha => nomatch ha)) ?_)))))))
   ·(exact Nat.zero_le _)
   ·(exact Nat.zero_le _)
   ·(exact Nat.zero_le _)
   ·exact hz_r5.2
   intro y76 hy76
   clear y76 hy76
   refine NT rfl (PF rfl (NI [78,2,5] [_,_,_] rfl (WD 161 [_,_,_] rfl (H_cond rfl ?_ ?_))))
   ·intro h78
    replace h78:=nT h78
    refine SQ (RG rfl (HO_build (xo:=[]) (vs:=[]) rfl rfl rfl rfl (bd36__) (SR 1 [] [_,_,_,_,_,_,_,_,_,_,_,_,_,_,_,_] [] [_,_,_,_,_,_,_,_,_,_,_,_,_,_,_,_] [_,_] [_,_,_,_,_,_,_,_,_,_,_,_,_,_,_,_] Tryz.sizeOf36 rfl (AS rfl (NI [3,2] [_,_] rfl (WD 1 [_] rfl (H_nilDat kEnt (H_nilDat kInt (H_nilDat kInt (H_nilDat kByte ?_))))))))))
    have hx : Ent.readM b = Ent.toldM (Cod.rend (bs,wr).1 (bs,wr).2 && Ent.goodMsg ⟨Cod.zag r1.1,Cod.zag r2.1,Cod.zag r3.1,Cod.zag r4.1,Cod.zag r5.1,Cod.zag r6.1,Cod.zag r7.1,Cod.zag r8.1,r9.1,Cod.zag r10.1,l,⟨0,0,⟨[],[]⟩,[]⟩⟩) ⟨Cod.zag r1.1,Cod.zag r2.1,Cod.zag r3.1,Cod.zag r4.1,Cod.zag r5.1,Cod.zag r6.1,Cod.zag r7.1,Cod.zag r8.1,r9.1,Cod.zag r10.1,l,⟨0,0,⟨[],[]⟩,[]⟩⟩:=(Ent.readM_of (Ent.msgP_5 hr_r1 hr_r2 hr_r3 hr_r4 hr_r5 hr_r6 hr_r7 hr_r8 hr_r9 hr_r10 hc4 h43)).trans rfl
    have hx2:=hx.trans (Ent.toldM_no (.inr h78))
    refine H_ret2 Tryz.results40 (.cell rfl (fun w hA => run_loadVarA (cs:=[_,_,_,_,_,_,_,_,_,_,_,_,_,_,_,_]) (Tryz.isAgg36 w) (Tryz.sizeOf36 w) (Tells.cells (.loc _ _ _) (hA.get (i:=4) rfl)))) (.tmp rfl) (fun w hA => ⟨((none,0),(none,0),(none,0),(none,0)),congrArg Ending.returned ?_,?_,?_⟩)
    ·(rw [hx2] <;> rfl)
    ·trivial
    ·(rw [hx2];exact hA.only (is:=[0,0,0,0]) (Z:=[_]) rfl)
   intro h78
   replace h78:=nF h78
   refine SK (SQ (RG rfl (LA 2 [] [_,_,_,_,_,_,_,_,_,_,_,_,_,_,_,_] [] rfl (.loc _ _ _) Tryz.isAgg36 Tryz.sizeOf36 rfl (SR 1 [] [_,_,_,_,_,_,_,_,_,_,_,_,_,_,_,_] [] [_,_,_,_,_,_,_,_,_,_,_,_,_,_,_,_] [_,_] [_,_,_,_,_,_,_,_,_,_,_,_,_,_,_,_] Tryz.sizeOf36 rfl (AS rfl (NI [3,2] [_,_] rfl (WD 3 [_,_] rfl (H_freeze (i:=1) (R:=[_]) rfl hMn (H_nilDat kInt (H_nilDat kInt (H_nilDat kByte ?_)))))))))))
   have hx : Ent.readM b = Ent.toldM (Cod.rend (bs,wr).1 (bs,wr).2 && Ent.goodMsg ⟨Cod.zag r1.1,Cod.zag r2.1,Cod.zag r3.1,Cod.zag r4.1,Cod.zag r5.1,Cod.zag r6.1,Cod.zag r7.1,Cod.zag r8.1,r9.1,Cod.zag r10.1,l,⟨0,0,⟨[],[]⟩,[]⟩⟩) ⟨Cod.zag r1.1,Cod.zag r2.1,Cod.zag r3.1,Cod.zag r4.1,Cod.zag r5.1,Cod.zag r6.1,Cod.zag r7.1,Cod.zag r8.1,r9.1,Cod.zag r10.1,l,⟨0,0,⟨[],[]⟩,[]⟩⟩:=(Ent.readM_of (Ent.msgP_5 hr_r1 hr_r2 hr_r3 hr_r4 hr_r5 hr_r6 hr_r7 hr_r8 hr_r9 hr_r10 hc4 h43)).trans rfl
   have hx2:=hx.trans (Ent.toldM_yes h74 h78)
   refine H_ret2 Tryz.results40 (.cell rfl (fun w hA => run_loadVarA (cs:=[_,_,_,_,_,_,_,_,_,_,_,_,_,_,_,_]) (Tryz.isAgg36 w) (Tryz.sizeOf36 w) (Tells.cells (.loc _ _ _) (hA.get (i:=4) rfl)))) (.tmp rfl) (fun w hA => ⟨((p2,q2),(none,0),(none,0),(none,0)),congrArg Ending.returned ?_,?_,?_⟩)
   ·(rw [hx2] <;> rfl)
   ·trivial
   ·(rw [hx2];exact hA.only (is:=[0,0,0,0]) (Z:=[_]) rfl)
 intro h43
 replace h43:=dF h43
 refine SK (SQ (SQ (RG rfl (FA 0 rfl Tryz.underlying36 rfl Tryz.sizeOf3 (LD 0 0 rfl Tryz.isAgg3 (BN rfl bin_eql (NI [67,5,4,2] [_,_,_,_] rfl (H_cond rfl ?_ ?_))))))))
 ·intro h67
  replace h67:=dT h67
  refine RG rfl (MV rfl (DU 2 rfl (CB [1,0] [_,_,_] rfl Tryz.call80 (rreadsnap_spec _ _ _ _ _ _ ?_) ?_)))
  ·omega
  intro y69 hy69
  have hcl:=Ent.snapP_len (r10.2.1,r10.2.2)
  have hcs:=Ent.snapP_sizes (r10.2.1,r10.2.2) (by dsimp only;omega)
  obtain ⟨c4,hc4⟩ : ∃ x,Ent.snapP (r10.2.1,r10.2.2) = x:=⟨_,rfl⟩
  rw [hc4] at hcs ⊢
  refine FA 11 rfl Tryz.underlying36 rfl Tryz.sizeOf34 (SR 5 [_,_,_,_,_,_,_,_,_,_,_] [_,_,_,_,_] [] [_,_,_,_,_] [_,_,_,_,_,_,_] [_,_,_,_,_,_,_,_,_,_,_,_,_,_,_,_] Tryz.sizeOf34 rfl (NI [5,4,2] [_,_,_] rfl (WD 191 [_,_,_,_,_,_,_] rfl (SQ (SQ (RG rfl (MV rfl (DU 2 rfl (CB [1,0] [_,_,_,_,_,_] rfl Tryz.call81 (rEnd_spec _ _ _ _ _ _) ?_)))))))))
  intro y72 hy72
  clear y72 hy72
  refine NT rfl (MV rfl (HO_split (d:=74) rfl ?_ ?_))
  ·intro h74
   replace h74:=nT h74
   refine NO rfl (NO rfl (NO rfl (PT rfl (NI [78,5,2] [_,_,_] rfl (WD 122 [_,_,_,_,_] rfl (CT rfl (SQ (RG rfl (HO_build (xo:=[]) (vs:=[]) rfl rfl rfl rfl (bd36__) (SR 4 [] [_,_,_,_,_,_,_,_,_,_,_,_,_,_,_,_] [] [_,_,_,_,_,_,_,_,_,_,_,_,_,_,_,_] [_,_,_,_] [_,_,_,_,_,_,_,_,_,_,_,_,_,_,_,_] Tryz.sizeOf36 rfl (AS rfl (HO_nil ?_))))))))))))
   refine EV [3,2] [_,_] rfl (WD 1 [_] rfl (H_nilDat kEnt (H_nilDat kInt (H_nilDat kInt (H_nilDat kByte ?_)))))
   have hx : Ent.readM b = Ent.toldM (Cod.rend c4.2.1 c4.2.2 && Ent.goodMsg ⟨Cod.zag r1.1,Cod.zag r2.1,Cod.zag r3.1,Cod.zag r4.1,Cod.zag r5.1,Cod.zag r6.1,Cod.zag r7.1,Cod.zag r8.1,r9.1,Cod.zag r10.1,[],⟨c4.1.idx,c4.1.term,⟨c4.1.conf.vot,c4.1.conf.lea⟩,c4.1.data⟩⟩) ⟨Cod.zag r1.1,Cod.zag r2.1,Cod.zag r3.1,Cod.zag r4.1,Cod.zag r5.1,Cod.zag r6.1,Cod.zag r7.1,Cod.zag r8.1,r9.1,Cod.zag r10.1,[],⟨c4.1.idx,c4.1.term,⟨c4.1.conf.vot,c4.1.conf.lea⟩,c4.1.data⟩⟩:=(Ent.readM_of (Ent.msgP_7 hr_r1 hr_r2 hr_r3 hr_r4 hr_r5 hr_r6 hr_r7 hr_r8 hr_r9 hr_r10 hc4 h43 h67)).trans (by rw [Snap.eta])
   have hx2:=hx.trans (Ent.toldM_no (.inl h74))
   refine H_ret2 Tryz.results40 (.cell rfl (fun w hA => run_loadVarA (cs:=[_,_,_,_,_,_,_,_,_,_,_,_,_,_,_,_]) (Tryz.isAgg36 w) (Tryz.sizeOf36 w) (Tells.cells (.loc _ _ _) (hA.get (i:=4) rfl)))) (.tmp rfl) (fun w hA => ⟨((none,0),(none,0),(none,0),(none,0)),congrArg Ending.returned ?_,?_,?_⟩)
   ·(rw [hx2] <;> rfl)
   ·trivial
   ·(rw [hx2];exact hA.only (is:=[0,0,0,0]) (Z:=[_]) rfl)
  intro h74
  replace h74:=nF h74
  refine LA 1 [] [_,_,_,_,_,_,_,_,_,_,_,_,_,_,_,_] [] rfl (.loc _ _ _) Tryz.isAgg36 Tryz.sizeOf36 rfl (HO_nilDat kEnt (DU 0 rfl (DU 5 rfl (DU 7 rfl (DU 9 rfl (CB [0,0,0,0] [_,_,_,_,_,_,_,_] rfl Tryz.call24 (rgoodmsg_spec _ _ _ _ _ _ _ _ _ _ _ _ _ _ _ _ _ _ _ _ _ _ _ _ ?_ ?_ ?_ ?_) ?_))))))
  ·exact hcs.1
  ·exact hcs.2.1
  ·exact hcs.2.2
  ·exact hz_r5.2
  intro y76 hy76
  clear y76 hy76
  refine NT rfl (PF rfl (NI [78,5,2] [_,_,_] rfl (WD 244 [_,_,_,_,_] rfl (H_cond rfl ?_ ?_))))
  ·intro h78
   replace h78:=nT h78
   refine SQ (RG rfl (HO_build (xo:=[]) (vs:=[]) rfl rfl rfl rfl (bd36__) (SR 4 [] [_,_,_,_,_,_,_,_,_,_,_,_,_,_,_,_] [] [_,_,_,_,_,_,_,_,_,_,_,_,_,_,_,_] [_,_,_,_] [_,_,_,_,_,_,_,_,_,_,_,_,_,_,_,_] Tryz.sizeOf36 rfl (AS rfl (NI [3,2] [_,_] rfl (WD 1 [_] rfl (H_nilDat kEnt (H_nilDat kInt (H_nilDat kInt (H_nilDat kByte ?_))))))))))
   have hx : Ent.readM b = Ent.toldM (Cod.rend c4.2.1 c4.2.2 && Ent.goodMsg ⟨Cod.zag r1.1,Cod.zag r2.1,Cod.zag r3.1,Cod.zag r4.1,Cod.zag r5.1,Cod.zag r6.1,Cod.zag r7.1,Cod.zag r8.1,r9.1,Cod.zag r10.1,[],⟨c4.1.idx,c4.1.term,⟨c4.1.conf.vot,c4.1.conf.lea⟩,c4.1.data⟩⟩) ⟨Cod.zag r1.1,Cod.zag r2.1,Cod.zag r3.1,Cod.zag r4.1,Cod.zag r5.1,Cod.zag r6.1,Cod.zag r7.1,Cod.zag r8.1,r9.1,Cod.zag r10.1,[],⟨c4.1.idx,c4.1.term,⟨c4.1.conf.vot,c4.1.conf.lea⟩,c4.1.data⟩⟩:=(Ent.readM_of (Ent.msgP_7 hr_r1 hr_r2 hr_r3 hr_r4 hr_r5 hr_r6 hr_r7 hr_r8 hr_r9 hr_r10 hc4 h43 h67)).trans (by rw [Snap.eta])
   have hx2:=hx.trans (Ent.toldM_no (.inr h78))
   refine H_ret2 Tryz.results40 (.cell rfl (fun w hA => run_loadVarA (cs:=[_,_,_,_,_,_,_,_,_,_,_,_,_,_,_,_]) (Tryz.isAgg36 w) (Tryz.sizeOf36 w) (Tells.cells (.loc _ _ _) (hA.get (i:=4) rfl)))) (.tmp rfl) (fun w hA => ⟨((none,0),(none,0),(none,0),(none,0)),congrArg Ending.returned ?_,?_,?_⟩)
   ·(rw [hx2] <;> rfl)
   ·trivial
   ·(rw [hx2];exact hA.only (is:=[0,0,0,0]) (Z:=[_]) rfl)
  intro h78
  replace h78:=nF h78
  refine SK (SQ (RG rfl (LA 0 [] [_,_,_,_,_,_,_,_,_,_,_,_,_,_,_,_] [] rfl (.loc _ _ _) Tryz.isAgg36 Tryz.sizeOf36 rfl (SR 4 [] [_,_,_,_,_,_,_,_,_,_,_,_,_,_,_,_] [] [_,_,_,_,_,_,_,_,_,_,_,_,_,_,_,_] [_,_,_,_] [_,_,_,_,_,_,_,_,_,_,_,_,_,_,_,_] Tryz.sizeOf36 rfl (AS rfl (NI [3,2] [_,_] rfl (WD 29 [_,_,_,_] rfl (H_nilDat kEnt ?_))))))))
  have hx : Ent.readM b = Ent.toldM (Cod.rend c4.2.1 c4.2.2 && Ent.goodMsg ⟨Cod.zag r1.1,Cod.zag r2.1,Cod.zag r3.1,Cod.zag r4.1,Cod.zag r5.1,Cod.zag r6.1,Cod.zag r7.1,Cod.zag r8.1,r9.1,Cod.zag r10.1,[],⟨c4.1.idx,c4.1.term,⟨c4.1.conf.vot,c4.1.conf.lea⟩,c4.1.data⟩⟩) ⟨Cod.zag r1.1,Cod.zag r2.1,Cod.zag r3.1,Cod.zag r4.1,Cod.zag r5.1,Cod.zag r6.1,Cod.zag r7.1,Cod.zag r8.1,r9.1,Cod.zag r10.1,[],⟨c4.1.idx,c4.1.term,⟨c4.1.conf.vot,c4.1.conf.lea⟩,c4.1.data⟩⟩:=(Ent.readM_of (Ent.msgP_7 hr_r1 hr_r2 hr_r3 hr_r4 hr_r5 hr_r6 hr_r7 hr_r8 hr_r9 hr_r10 hc4 h43 h67)).trans (by rw [Snap.eta])
  have hx2:=hx.trans (Ent.toldM_yes h74 h78)
  refine H_ret2 Tryz.results40 (.cell rfl (fun w hA => run_loadVarA (cs:=[_,_,_,_,_,_,_,_,_,_,_,_,_,_,_,_]) (Tryz.isAgg36 w) (Tryz.sizeOf36 w) (Tells.cells (.loc _ _ _) (hA.get (i:=1) rfl)))) (.tmp rfl) (fun w hA => ⟨((none,0),y69.2.1,y69.2.2.1,y69.2.2.2),congrArg Ending.returned ?_,?_,?_⟩)
  ·(rw [hx2] <;> rfl)
  ·trivial
  ·(rw [hx2];exact hA.keep (m:=[yy,nn,yy,yy,yy]) (Y:=[_,_,_,_]) rfl)
 intro h67
 replace h67:=dF h67
 refine SK (SQ (SQ (RG rfl (MV rfl (DU 2 rfl (CB [1,0] [_,_,_] rfl Tryz.call81 (rEnd_spec _ _ _ _ _ _) ?_))))))
 intro y72 hy72
 clear y72 hy72
 refine NT rfl (MV rfl (HO_split (d:=74) rfl ?_ ?_))
 ·intro h74
  replace h74:=nT h74
  refine NO rfl (NO rfl (NO rfl (PT rfl (NI [78,5,2] [_,_,_] rfl (WD 10 [_,_] rfl (CT rfl (SQ (RG rfl (HO_build (xo:=[]) (vs:=[]) rfl rfl rfl rfl (bd36__) (SR 1 [] [_,_,_,_,_,_,_,_,_,_,_,_,_,_,_,_] [] [_,_,_,_,_,_,_,_,_,_,_,_,_,_,_,_] [_] [_,_,_,_,_,_,_,_,_,_,_,_,_,_,_,_] Tryz.sizeOf36 rfl (AS rfl (HO_nil ?_))))))))))))
  refine EV [3,2] [_,_] rfl (WD 1 [_] rfl (H_nilDat kEnt (H_nilDat kInt (H_nilDat kInt (H_nilDat kByte ?_)))))
  have hx : Ent.readM b = Ent.toldM (Cod.rend r10.2.1 r10.2.2 && Ent.goodMsg ⟨Cod.zag r1.1,Cod.zag r2.1,Cod.zag r3.1,Cod.zag r4.1,Cod.zag r5.1,Cod.zag r6.1,Cod.zag r7.1,Cod.zag r8.1,r9.1,Cod.zag r10.1,[],⟨0,0,⟨[],[]⟩,[]⟩⟩) ⟨Cod.zag r1.1,Cod.zag r2.1,Cod.zag r3.1,Cod.zag r4.1,Cod.zag r5.1,Cod.zag r6.1,Cod.zag r7.1,Cod.zag r8.1,r9.1,Cod.zag r10.1,[],⟨0,0,⟨[],[]⟩,[]⟩⟩:=(Ent.readM_of (Ent.msgP_0 hr_r1 hr_r2 hr_r3 hr_r4 hr_r5 hr_r6 hr_r7 hr_r8 hr_r9 hr_r10 h43 h67)).trans rfl
  have hx2:=hx.trans (Ent.toldM_no (.inl h74))
  refine H_ret2 Tryz.results40 (.cell rfl (fun w hA => run_loadVarA (cs:=[_,_,_,_,_,_,_,_,_,_,_,_,_,_,_,_]) (Tryz.isAgg36 w) (Tryz.sizeOf36 w) (Tells.cells (.loc _ _ _) (hA.get (i:=4) rfl)))) (.tmp rfl) (fun w hA => ⟨((none,0),(none,0),(none,0),(none,0)),congrArg Ending.returned ?_,?_,?_⟩)
  ·(rw [hx2] <;> rfl)
  ·trivial
  ·(rw [hx2];exact hA.only (is:=[0,0,0,0]) (Z:=[_]) rfl)
 intro h74
 replace h74:=nF h74
 refine LA 1 [] [_,_,_,_,_,_,_,_,_,_,_,_,_,_,_,_] [] rfl (.loc _ _ _) Tryz.isAgg36 Tryz.sizeOf36 rfl (HO_nilDat kEnt (HO_nilDat kInt (HO_nilDat kInt (HO_nilDat kByte (DU 3 rfl (DU 3 rfl (DU 3 rfl (DU 3 rfl (CB [0,0,0,0] [_,_,_,_,_,_,_,_] rfl Tryz.call24 (rgoodmsg_spec _ _ _ _ _ _ _ _ _ _ _ _ _ _ _ _ _ _ _ _ _ _ _ _ ?_ ?_ ?_ ?_) ?_)))))))))
 ·(exact Nat.zero_le _)
 ·(exact Nat.zero_le _)
 ·(exact Nat.zero_le _)
 ·exact hz_r5.2
 intro y76 hy76
 clear y76 hy76
 refine NT rfl (PF rfl (NI [78,5,2] [_,_,_] rfl (WD 160 [_,_] rfl (H_cond rfl ?_ ?_))))
 ·intro h78
  replace h78:=nT h78
  refine SQ (RG rfl (HO_build (xo:=[]) (vs:=[]) rfl rfl rfl rfl (bd36__) (SR 1 [] [_,_,_,_,_,_,_,_,_,_,_,_,_,_,_,_] [] [_,_,_,_,_,_,_,_,_,_,_,_,_,_,_,_] [_] [_,_,_,_,_,_,_,_,_,_,_,_,_,_,_,_] Tryz.sizeOf36 rfl (AS rfl (NI [3,2] [_,_] rfl (WD 1 [_] rfl (H_nilDat kEnt (H_nilDat kInt (H_nilDat kInt (H_nilDat kByte ?_))))))))))
  have hx : Ent.readM b = Ent.toldM (Cod.rend r10.2.1 r10.2.2 && Ent.goodMsg ⟨Cod.zag r1.1,Cod.zag r2.1,Cod.zag r3.1,Cod.zag r4.1,Cod.zag r5.1,Cod.zag r6.1,Cod.zag r7.1,Cod.zag r8.1,r9.1,Cod.zag r10.1,[],⟨0,0,⟨[],[]⟩,[]⟩⟩) ⟨Cod.zag r1.1,Cod.zag r2.1,Cod.zag r3.1,Cod.zag r4.1,Cod.zag r5.1,Cod.zag r6.1,Cod.zag r7.1,Cod.zag r8.1,r9.1,Cod.zag r10.1,[],⟨0,0,⟨[],[]⟩,[]⟩⟩:=(Ent.readM_of (Ent.msgP_0 hr_r1 hr_r2 hr_r3 hr_r4 hr_r5 hr_r6 hr_r7 hr_r8 hr_r9 hr_r10 h43 h67)).trans rfl
  have hx2:=hx.trans (Ent.toldM_no (.inr h78))
  refine H_ret2 Tryz.results40 (.cell rfl (fun w hA => run_loadVarA (cs:=[_,_,_,_,_,_,_,_,_,_,_,_,_,_,_,_]) (Tryz.isAgg36 w) (Tryz.sizeOf36 w) (Tells.cells (.loc _ _ _) (hA.get (i:=4) rfl)))) (.tmp rfl) (fun w hA => ⟨((none,0),(none,0),(none,0),(none,0)),congrArg Ending.returned ?_,?_,?_⟩)
  ·(rw [hx2] <;> rfl)
  ·trivial
  ·(rw [hx2];exact hA.only (is:=[0,0,0,0]) (Z:=[_]) rfl)
 intro h78
 replace h78:=nF h78
 refine SK (SQ (RG rfl (LA 0 [] [_,_,_,_,_,_,_,_,_,_,_,_,_,_,_,_] [] rfl (.loc _ _ _) Tryz.isAgg36 Tryz.sizeOf36 rfl (SR 1 [] [_,_,_,_,_,_,_,_,_,_,_,_,_,_,_,_] [] [_,_,_,_,_,_,_,_,_,_,_,_,_,_,_,_] [_] [_,_,_,_,_,_,_,_,_,_,_,_,_,_,_,_] Tryz.sizeOf36 rfl (AS rfl (NI [3,2] [_,_] rfl (WD 1 [_] rfl (H_nilDat kEnt (H_nilDat kInt (H_nilDat kInt (H_nilDat kByte ?_)))))))))))
 have hx : Ent.readM b = Ent.toldM (Cod.rend r10.2.1 r10.2.2 && Ent.goodMsg ⟨Cod.zag r1.1,Cod.zag r2.1,Cod.zag r3.1,Cod.zag r4.1,Cod.zag r5.1,Cod.zag r6.1,Cod.zag r7.1,Cod.zag r8.1,r9.1,Cod.zag r10.1,[],⟨0,0,⟨[],[]⟩,[]⟩⟩) ⟨Cod.zag r1.1,Cod.zag r2.1,Cod.zag r3.1,Cod.zag r4.1,Cod.zag r5.1,Cod.zag r6.1,Cod.zag r7.1,Cod.zag r8.1,r9.1,Cod.zag r10.1,[],⟨0,0,⟨[],[]⟩,[]⟩⟩:=(Ent.readM_of (Ent.msgP_0 hr_r1 hr_r2 hr_r3 hr_r4 hr_r5 hr_r6 hr_r7 hr_r8 hr_r9 hr_r10 h43 h67)).trans rfl
 have hx2:=hx.trans (Ent.toldM_yes h74 h78)
 refine H_ret2 Tryz.results40 (.cell rfl (fun w hA => run_loadVarA (cs:=[_,_,_,_,_,_,_,_,_,_,_,_,_,_,_,_]) (Tryz.isAgg36 w) (Tryz.sizeOf36 w) (Tells.cells (.loc _ _ _) (hA.get (i:=4) rfl)))) (.tmp rfl) (fun w hA => ⟨((none,0),(none,0),(none,0),(none,0)),congrArg Ending.returned ?_,?_,?_⟩)
 ·(rw [hx2] <;> rfl)
 ·trivial
 ·(rw [hx2];exact hA.only (is:=[0,0,0,0]) (Z:=[_]) rfl)
end Go.Wk
