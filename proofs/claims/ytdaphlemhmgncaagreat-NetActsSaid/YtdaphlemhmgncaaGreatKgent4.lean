/- Contracts of the program's functions, each proved by walking its code. -/
import Derived.Test.YtdaphlemhmgncaaGreatKglaw10b
import Derived.Test.YtdaphlemhmgncaaGreatEnt3
import Derived.Test.YtdaphlemhmgncaaGreatKgent3
import Derived.Test.YtdaphlemhmgncaaGreatKgent2
import Derived.Test.YtdaphlemhmgncaaGreatEnt
set_option maxRecDepth 100000
set_option linter.unusedVariables false
set_option linter.unusedSimpArgs false
namespace Go.Wk.Fent4
open Go Go.RowKit Go.Proofs Go.Wk
theorem elt3 : Elt Tryz.prog 3 (.int .i64 (0)) 1 8:=Elt.of (by kernel_rfl) (by rfl) (by decide) (by decide)
end Go.Wk.Fent4
namespace Go.Wk
open Go Go.RowKit Go.Proofs Fent4 
theorem goodmsg1_spec (n : Int)  : Spec Tryz.prog 45 #[.int .i64 (n)] [] (β:=Unit) (fun y => .bool (decide (1≤n∧n≤9))) (fun y => True) (fun y => []):=by
 refine Spec.enter (vs:=[_]) Tryz.func45 rfl Tryz.ntmps45 rfl (Nat.le_of_ble_eq_true rfl) (fun w0 ok0 => ?_)
 generalize hM0 : blks _ = M0
 have hMn:=@noM _ _ hM0 (by simp [Atom.dat,Atom.elem])
 refine SQ (RG rfl (AS rfl (NI [0] [_] rfl (SQ (RG rfl (MV rfl (BN rfl bin_geq (MV rfl (HO_split (d:=5) rfl ?_ ?_)))))))))
 ·intro h5
  replace h5:=dT h5
  refine MV rfl (BN rfl bin_leq (PT rfl (AS rfl (NI [2] [_] rfl (R1 Tryz.results45 () rfl (fun w hA => ⟨?_,?_,?_⟩))))))
  ·(exact congrArg Value.bool (by simp [*]))
  ·trivial
  ·exact hA.keep (m:=[]) (Y:=[]) rfl
 intro h5
 replace h5:=dF h5
 refine NO rfl (NO rfl (PF rfl (AS rfl (NI [2] [_] rfl (R1 Tryz.results45 () rfl (fun w hA => ⟨?_,?_,?_⟩))))))
 ·(exact congrArg Value.bool (by simp [*]))
 ·trivial
 ·exact hA.keep (m:=[]) (Y:=[]) rfl
theorem goodmsg_spec (mk mf mt me mi ml mc mr : Int) (rj : Bool) (hi : Int) (es : List Ent) (a9 : Option Addr) (c9 : Nat) (ix te : Int) (vo le : List Int) (a1 : Option Addr) (c1 : Nat) (a2 : Option Addr) (c2 : Nat) (da : List UInt8) (a3 : Option Addr) (c3 : Nat) (nd : da.length≤BIG) (n1 : vo.length≤BIG) (n2 : le.length≤BIG) (ri : mi≤9223372036854775807) : Spec Tryz.prog 27 #[.agg #[.int .i64 (mk),.int .i64 (mf),.int .i64 (mt),.int .i64 (me),.int .i64 (mi),.int .i64 (ml),.int .i64 (mc),.int .i64 (mr),.bool (rj),.int .i64 (hi),.slice a9 (es.length) c9,.int .i64 (ix),.int .i64 (te),.slice a1 (vo.length) c1,.slice a2 (le.length) c2,.slice a3 (da.length) c3]] [.dat kEnt.sl (es) [.slice a9 (es.length) c9],.dat kInt.sl (vo) [.slice a1 (vo.length) c1],.dat kInt.sl (le) [.slice a2 (le.length) c2],.dat kByte.sl (da) [.slice a3 (da.length) c3]] (β:=Unit) (fun y => .bool (Ent.goodMsg ⟨mk,mf,mt,me,mi,ml,mc,mr,rj,hi,es,⟨ix,te,⟨vo,le⟩,da⟩⟩)) (fun y => True) (fun y => []):=by
 (try simp only [BIG] at nd n1 n2)
 refine Spec.enter (vs:=[_]) Tryz.func27 rfl Tryz.ntmps27 rfl (Nat.le_of_ble_eq_true rfl) (fun w0 ok0 => ?_)
 generalize hM0 : blks _ = M0
 have hMn:=@noM _ _ hM0 (by simp [Atom.dat,Atom.elem])
 refine H_len_le (i:=0) rfl ?_
 intro hlen0
 refine H_len_le (i:=1) rfl ?_
 intro hlen1
 refine H_len_le (i:=2) rfl ?_
 intro hlen2
 refine SQ (RG rfl (BX [_,_,_,_,_,_,_,_,_,_,_,_,_,_,_,_] rfl ?_))
 intro g1
 refine AS rfl (NI [1] [_] rfl (SQ (RG rfl (AS rfl (HO_nil (SQ (BO (SQ (SQ (RG rfl (FA 0 rfl Tryz.underlying36 rfl Tryz.sizeOf3 (LD 0 0 rfl Tryz.isAgg3 ?_))))))))))))
 refine BN rfl bin_lss (AS rfl (NI [7,3,1] [_,_,_] rfl (H_split (d:=7) rfl ?_ ?_)))
 ·intro h7
  replace h7:=dT h7
  refine CT rfl (SK (CT rfl (SQ (RG rfl (AS rfl (NI [2] [_] rfl (WD 0 [] rfl (R1 Tryz.results27 () rfl (fun w hA => ⟨?_,?_,?_⟩)))))))))
  ·(exact congrArg Value.bool (Ent.goodMsg_no (m:=⟨mk,mf,mt,me,mi,ml,mc,mr,rj,hi,es,⟨ix,te,⟨vo,le⟩,da⟩⟩) (by dsimp only;omega)))
  ·trivial
  ·exact hA.keep (m:=[]) (Y:=[]) rfl
 intro h7
 replace h7:=dF h7
 refine CF rfl (SQ (RG rfl (FA 0 rfl Tryz.underlying36 rfl Tryz.sizeOf3 (LD 0 0 rfl Tryz.isAgg3 (BN rfl bin_gtr (AS rfl (NI [7,3,1] [_,_,_] rfl (H_split (d:=7) rfl ?_ ?_))))))))
 ·intro h7_2
  replace h7_2:=dT h7_2
  refine CT rfl (SK (CT rfl (SQ (RG rfl (AS rfl (NI [2] [_] rfl (WD 0 [] rfl (R1 Tryz.results27 () rfl (fun w hA => ⟨?_,?_,?_⟩)))))))))
  ·(exact congrArg Value.bool (Ent.goodMsg_no (m:=⟨mk,mf,mt,me,mi,ml,mc,mr,rj,hi,es,⟨ix,te,⟨vo,le⟩,da⟩⟩) (by dsimp only;omega)))
  ·trivial
  ·exact hA.keep (m:=[]) (Y:=[]) rfl
 intro h7_2
 replace h7_2:=dF h7_2
 refine CF rfl (SQ (RG rfl (MV rfl (FA 1 rfl Tryz.underlying36 rfl Tryz.sizeOf3 (LD 0 1 rfl Tryz.isAgg3 (CB [] [_,_,_,_,_] rfl Tryz.call45 (goodmsg1_spec _) ?_))))))
 intro y17 hy17
 clear y17 hy17
 refine NT rfl (AS rfl (NI [7,3,1] [_,_,_] rfl (H_split (d:=7) rfl ?_ ?_)))
 ·intro h7_3
  replace h7_3:=dF (nT h7_3)
  refine CT rfl (SK (CT rfl (SQ (RG rfl (AS rfl (NI [2] [_] rfl (WD 0 [] rfl (R1 Tryz.results27 () rfl (fun w hA => ⟨?_,?_,?_⟩)))))))))
  ·(exact congrArg Value.bool (Ent.goodMsg_no (m:=⟨mk,mf,mt,me,mi,ml,mc,mr,rj,hi,es,⟨ix,te,⟨vo,le⟩,da⟩⟩) (by dsimp only;omega)))
  ·trivial
  ·exact hA.keep (m:=[]) (Y:=[]) rfl
 intro h7_3
 replace h7_3:=dT (nF h7_3)
 refine CF rfl (SQ (RG rfl (MV rfl (FA 2 rfl Tryz.underlying36 rfl Tryz.sizeOf3 (LD 0 2 rfl Tryz.isAgg3 (CB [] [_,_,_,_,_] rfl Tryz.call45 (goodmsg1_spec _) ?_))))))
 intro y22 hy22
 clear y22 hy22
 refine NT rfl (AS rfl (NI [7,1] [_,_] rfl (H_split (d:=7) rfl ?_ ?_)))
 ·intro h7_4
  replace h7_4:=dF (nT h7_4)
  refine CT rfl (SK (CT rfl (SQ (RG rfl (AS rfl (NI [2] [_] rfl (WD 0 [] rfl (R1 Tryz.results27 () rfl (fun w hA => ⟨?_,?_,?_⟩)))))))))
  ·(exact congrArg Value.bool (Ent.goodMsg_no (m:=⟨mk,mf,mt,me,mi,ml,mc,mr,rj,hi,es,⟨ix,te,⟨vo,le⟩,da⟩⟩) (by dsimp only;omega)))
  ·trivial
  ·exact hA.keep (m:=[]) (Y:=[]) rfl
 intro h7_4
 replace h7_4:=dT (nF h7_4)
 refine CF rfl (RG rfl (FA 3 rfl Tryz.underlying36 rfl Tryz.sizeOf3 (LD 0 3 rfl Tryz.isAgg3 (BN rfl bin_lss (AS rfl (NI [7,1] [_,_] rfl (H_split (d:=7) rfl ?_ ?_)))))))
 ·intro h7_5
  replace h7_5:=dT h7_5
  refine CT rfl (SQ (RG rfl (AS rfl (NI [2] [_] rfl (WD 0 [] rfl (R1 Tryz.results27 () rfl (fun w hA => ⟨?_,?_,?_⟩)))))))
  ·(exact congrArg Value.bool (Ent.goodMsg_no (m:=⟨mk,mf,mt,me,mi,ml,mc,mr,rj,hi,es,⟨ix,te,⟨vo,le⟩,da⟩⟩) (by dsimp only;omega)))
  ·trivial
  ·exact hA.keep (m:=[]) (Y:=[]) rfl
 intro h7_5
 replace h7_5:=dF h7_5
 refine CF rfl (SQ (SQ (RG rfl (FA 4 rfl Tryz.underlying36 rfl Tryz.sizeOf3 (LD 0 4 rfl Tryz.isAgg3 (FA 5 rfl Tryz.underlying36 rfl Tryz.sizeOf3 (LD 0 5 rfl Tryz.isAgg3 (FA 6 rfl Tryz.underlying36 rfl Tryz.sizeOf3 (LD 0 6 rfl Tryz.isAgg3 (FA 7 rfl Tryz.underlying36 rfl Tryz.sizeOf3 (LD 0 7 rfl Tryz.isAgg3 (FA 9 rfl Tryz.underlying36 rfl Tryz.sizeOf3 (LD 0 9 rfl Tryz.isAgg3 ?_)))))))))))))
 refine BI rfl bi_min5 (BN rfl bin_lss (AS rfl (NI [27,1] [_,_] rfl (H_split (d:=27) rfl ?_ ?_))))
 ·intro h27
  replace h27:=dT h27
  refine CT rfl (SK (CT rfl (SQ (RG rfl (AS rfl (NI [2] [_] rfl (WD 0 [] rfl (R1 Tryz.results27 () rfl (fun w hA => ⟨?_,?_,?_⟩)))))))))
  ·(exact congrArg Value.bool (Ent.goodMsg_no (m:=⟨mk,mf,mt,me,mi,ml,mc,mr,rj,hi,es,⟨ix,te,⟨vo,le⟩,da⟩⟩) (by dsimp only;omega)))
  ·trivial
  ·exact hA.keep (m:=[]) (Y:=[]) rfl
 intro h27
 replace h27:=dF h27
 refine CF rfl (RG rfl (FA 10 rfl Tryz.underlying36 rfl Tryz.sizeOf28 (LD 0 10 rfl Tryz.isAgg28 (BI rfl (bi_len_sl Tryz.underlying28) (BN rfl bin_gtr (AS rfl (NI [27,1] [_,_] rfl (H_split (d:=27) rfl ?_ ?_))))))))
 ·intro h27_2
  replace h27_2:=dT h27_2
  refine CT rfl (SQ (RG rfl (AS rfl (NI [2] [_] rfl (WD 0 [] rfl (R1 Tryz.results27 () rfl (fun w hA => ⟨?_,?_,?_⟩)))))))
  ·(exact congrArg Value.bool (Ent.goodMsg_no (m:=⟨mk,mf,mt,me,mi,ml,mc,mr,rj,hi,es,⟨ix,te,⟨vo,le⟩,da⟩⟩) (by dsimp only;omega)))
  ·trivial
  ·exact hA.keep (m:=[]) (Y:=[]) rfl
 intro h27_2
 replace h27_2:=dF h27_2
 refine CF rfl (SQ (RG rfl (FA 10 rfl Tryz.underlying36 rfl Tryz.sizeOf28 (LD 0 10 rfl Tryz.isAgg28 (BI rfl (bi_len_sl Tryz.underlying28) (BN rfl bin_gtr (MV rfl (HO_split (d:=49) rfl ?_ ?_))))))))
 ·intro h49
  replace h49:=dT h49
  refine FA 0 rfl Tryz.underlying36 rfl Tryz.sizeOf3 (LD 0 0 rfl Tryz.isAgg3 (BN rfl bin_neq (PT rfl (AS rfl (NI [44,1] [_,_] rfl (H_split (d:=44) rfl ?_ ?_))))))
  ·intro h44
   replace h44:=dT h44
   refine CT rfl (SQ (RG rfl (AS rfl (NI [2] [_] rfl (WD 0 [] rfl (R1 Tryz.results27 () rfl (fun w hA => ⟨?_,?_,?_⟩)))))))
   ·(exact congrArg Value.bool (Ent.goodMsg_no (m:=⟨mk,mf,mt,me,mi,ml,mc,mr,rj,hi,es,⟨ix,te,⟨vo,le⟩,da⟩⟩) (by dsimp only;omega)))
   ·trivial
   ·exact hA.keep (m:=[]) (Y:=[]) rfl
  intro h44
  replace h44:=dF h44
  refine CF rfl (SK (BD (SQ (SQ ?_))))
  have hD:=Ent.goodMsg_at (m:=⟨mk,mf,mt,me,mi,ml,mc,mr,rj,hi,es,⟨ix,te,⟨vo,le⟩,da⟩⟩) (by dsimp only;omega)
  dsimp only at hD
  refine RG rfl (FA 10 rfl Tryz.underlying36 rfl Tryz.sizeOf28 (LD 0 10 rfl Tryz.isAgg28 (BI rfl (bi_len_sl Tryz.underlying28) (MV rfl (NI [57,56,55,1] [_,_,_,_] rfl (BO (H_loop (σ:=Nat) (fun s => s≤es.length∧Ent.okEnts mi me 0 es = Ent.okEnts mi me s (es.drop s)) (fun s => [(1,.pointer (some ⟨g1,0,none⟩)),(55,.slice a9 (es.length) c9),(56,.int .i64 ((es.length : Int))),(57,.int .i64 ((s : Int)))]) (fun s => Asn w0 ok0 M0 [.loc g1 [.int .i64 (mk),.int .i64 (mf),.int .i64 (mt),.int .i64 (me),.int .i64 (mi),.int .i64 (ml),.int .i64 (mc),.int .i64 (mr),.bool (rj),.int .i64 (hi),.slice a9 (es.length) c9,.int .i64 (ix),.int .i64 (te),.slice a1 (vo.length) c1,.slice a2 (le.length) c2,.slice a3 (da.length) c3] 36,.dat kEnt.sl (es) [.slice a9 (es.length) c9],.dat kInt.sl (vo) [.slice a1 (vo.length) c1],.dat kInt.sl (le) [.slice a2 (le.length) c2],.dat kByte.sl (da) [.slice a3 (da.length) c3]]) (fun s => es.length - s) 0 ?_ ?_ ?_ ?_)))))))
  ·exact ⟨Nat.zero_le _,rfl⟩
  ·exact ⟨rfl,rfl,rfl,rfl,trivial⟩
  ·intro w hA
   exact hA.only (is:=[0,1,2,3,4]) (Z:=[]) rfl
  ·intro i hI
   (try dsimp only at hI ⊢)
   refine SQ (RG rfl (BN rfl bin_lss (HO_nil (SQ (H_cond rfl ?_ ?_)))))
   ·intro h58
    replace h58:=dT h58
    refine SK (SQ (BO (SQ (RG rfl (MV rfl (HO_indexAddr open_Ent (i:=1) rfl rfl rfl rfl rfl Tryz.underlying28 Tryz.sizeOf70 rfl ?_ ?_))))))
    ·omega
    intro b60 o60 z60 y60 hz60 hI60
    (try simp only [BIG] at hI60)
    refine LA 0 [] [_,_,_,_,_,_,_,_,_,_,_,_,_] [] rfl (.elem _ _ _) Tryz.isAgg70 Tryz.sizeOf70 rfl (AO [_,_,_,_,_,_,_,_,_,_,_,_,_] Tryz.zeroValue70 rfl ?_)
    intro g5
    refine AS rfl (SR 0 [] [_,_,_,_,_,_,_,_,_,_,_,_,_] [] [_,_,_,_,_,_,_,_,_,_,_,_,_] [_,_,_,_,_,_,_,_] [_,_,_,_,_,_,_,_,_,_,_,_,_] Tryz.sizeOf70 rfl (NI [4,5,1,55,56,57] [_,_,_,_,_,_] rfl (WD 509 [_,_,_,_,_,_,_,_] rfl (SQ (RG rfl (LA 0 [] [_,_,_,_,_,_,_,_,_,_,_,_,_] [] rfl (.loc _ _ _) Tryz.isAgg70 Tryz.sizeOf70 rfl (DU 1 rfl (DU 3 rfl (CB [0,0] [_,_,_,_,_,_,_,_] rfl Tryz.call46 (entgood_spec _ _ _ _ _ _ _ _ _ _ _ _ _ _ _ _ _ ?_ ?_) ?_)))))))))
    ·(dsimp only [BIG];omega)
    ·(dsimp only [BIG];omega)
    intro y63 hy63
    clear y63 hy63
    refine HO_set (v':=.bool (Ent.good z60)) 63 rfl (by rfl) (NT rfl (MV rfl (HO_split (d:=65) rfl ?_ ?_)))
    ·intro h65
     replace h65:=nT h65
     iterate 8 refine HO_no rfl rfl rfl ?_
     refine PT rfl (MV rfl (NO rfl (NO rfl (NO rfl (NO rfl (NO rfl (PT rfl (NI [81,1,55,56,57] [_,_,_,_,_] rfl (WD 248 [_,_,_,_,_] rfl (CT rfl (SQ (RG rfl ?_))))))))))))
     refine AS rfl (NI [2] [_] rfl (WD 0 [] rfl (R1 Tryz.results27 () rfl (fun w hA => ⟨?_,?_,?_⟩))))
     ·(first | (exact congrArg Value.bool (hD.trans (by rw [Ent.ok_no hz60 hI.2 (.inl h65)];rfl)).symm) | (exact congrArg Value.bool (hD.trans (by rw [Ent.ok_no hz60 hI.2 (.inr (.inl h75))];rfl)).symm) | (exact congrArg Value.bool (hD.trans (by rw [Ent.ok_no hz60 hI.2 (.inr (.inr (by omega)))];rfl)).symm))
     ·trivial
     ·exact hA.keep (m:=[]) (Y:=[]) rfl
    intro h65
    replace h65:=nF h65
    have hgi:=Ent.good_idx h65
    (try dsimp only at hgi)
    refine FA 0 rfl Tryz.underlying70 rfl Tryz.sizeOf3 (LD 0 0 rfl Tryz.isAgg3 (FA 4 rfl Tryz.underlying36 rfl Tryz.sizeOf3 (LD 3 4 rfl Tryz.isAgg3 (BN rfl (bin_sub ?_ ?_) ?_))))
    ·omega
    ·omega
    refine MV rfl (BN rfl (bin_add ?_ ?_) ?_)
    ·omega
    ·omega
    refine BN rfl bin_neq (PF rfl (MV rfl (HO_split (d:=75) rfl ?_ ?_)))
    ·intro h75
     replace h75:=dT h75
     refine NO rfl (NO rfl (NO rfl (NO rfl (NO rfl (PT rfl (NI [81,1,55,56,57] [_,_,_,_,_] rfl (WD 248 [_,_,_,_,_] rfl (CT rfl (SQ (RG rfl (AS rfl (HO_nil ?_))))))))))))
     refine EV [2] [_] rfl (WD 0 [] rfl (R1 Tryz.results27 () rfl (fun w hA => ⟨?_,?_,?_⟩)))
     ·(first | (exact congrArg Value.bool (hD.trans (by rw [Ent.ok_no hz60 hI.2 (.inl h65)];rfl)).symm) | (exact congrArg Value.bool (hD.trans (by rw [Ent.ok_no hz60 hI.2 (.inr (.inl h75))];rfl)).symm) | (exact congrArg Value.bool (hD.trans (by rw [Ent.ok_no hz60 hI.2 (.inr (.inr (by omega)))];rfl)).symm))
     ·trivial
     ·exact hA.keep (m:=[]) (Y:=[]) rfl
    intro h75
    replace h75:=dF h75
    refine FA 1 rfl Tryz.underlying70 rfl Tryz.sizeOf3 (LD 0 1 rfl Tryz.isAgg3 (FA 3 rfl Tryz.underlying36 rfl Tryz.sizeOf3 (LD 3 3 rfl Tryz.isAgg3 (BN rfl bin_gtr (PF rfl (NI [81,1,55,56,57] [_,_,_,_,_] rfl (WD 248 [_,_,_,_,_] rfl (H_cond rfl ?_ ?_))))))))
    ·intro h81
     replace h81:=dT h81
     refine SQ (RG rfl (AS rfl (NI [2] [_] rfl (WD 0 [] rfl (R1 Tryz.results27 () rfl (fun w hA => ⟨?_,?_,?_⟩))))))
     ·(first | (exact congrArg Value.bool (hD.trans (by rw [Ent.ok_no hz60 hI.2 (.inl h65)];rfl)).symm) | (exact congrArg Value.bool (hD.trans (by rw [Ent.ok_no hz60 hI.2 (.inr (.inl h75))];rfl)).symm) | (exact congrArg Value.bool (hD.trans (by rw [Ent.ok_no hz60 hI.2 (.inr (.inr (by omega)))];rfl)).symm))
     ·trivial
     ·exact hA.keep (m:=[]) (Y:=[]) rfl
    intro h81
    replace h81:=dF h81
    refine SK (BD (RG rfl (BN rfl (bin_add ?_ ?_) ?_)))
    ·omega
    ·omega
    refine MV rfl (NI [57,1,55,56] [_,_,_,_] rfl (H_inv (fun a w hf hA => ⟨i + 1,?_,?_,hf.sub ?_,?_⟩)))
    ·exact ⟨by omega,Ent.ok_next hz60 hI.2 h65 (by omega) (by omega)⟩
    ·(try dsimp only);omega
    ·exact ⟨rfl,rfl,rfl,rfl,trivial⟩
    ·exact hA.only (is:=[0,1,2,3,4]) (Z:=[]) rfl
   intro h58
   replace h58:=dF h58
   refine H_exit rfl (SQ (SQ ?_))
   have hok:=Ent.ok_end hI.2 (by omega)
   refine RG rfl (FA 0 rfl Tryz.underlying36 rfl Tryz.sizeOf3 (LD 0 0 rfl Tryz.isAgg3 (BN rfl bin_eql (NI [85,1] [_,_] rfl (H_cond rfl ?_ ?_)))))
   ·intro h85
    replace h85:=dT h85
    refine SQ (RG rfl (FA 11 rfl Tryz.underlying36 rfl Tryz.sizeOf34 (LA 0 [_,_,_,_,_,_,_,_,_,_,_] [_,_,_,_,_] [] rfl (.loc _ _ _) Tryz.isAgg34 Tryz.sizeOf34 rfl (DU 2 rfl (DU 4 rfl (DU 6 rfl (CB [0,0,0] [_,_,_,_,_] rfl Tryz.call47 (goodsnap_spec _ _ _ _ _ _ _ _ _ _ _) ?_)))))))
    intro y88 hy88
    clear y88 hy88
    refine AS rfl (NI [2] [_] rfl (WD 0 [] rfl (R1 Tryz.results27 () rfl (fun w hA => ⟨?_,?_,?_⟩))))
    ·(exact congrArg Value.bool (hD.trans (by rw [hok,Bool.true_and,if_pos h85])).symm)
    ·trivial
    ·exact hA.keep (m:=[]) (Y:=[]) rfl
   intro h85
   replace h85:=dF h85
   refine SK (SQ (RG rfl (FA 11 rfl Tryz.underlying36 rfl Tryz.sizeOf34 (LA 0 [_,_,_,_,_,_,_,_,_,_,_] [_,_,_,_,_] [] rfl (.loc _ _ _) Tryz.isAgg34 Tryz.sizeOf34 rfl (AO [_,_,_,_,_] Tryz.zeroValue34 rfl ?_)))))
   intro g6
   refine SR 0 [] [_,_,_,_,_] [] [_,_,_,_,_] [_,_,_,_,_] [_,_,_,_,_] Tryz.sizeOf34 rfl (NI [6] [_] rfl (WD 57 [_,_,_,_] rfl (SQ (RG rfl (FA 0 rfl Tryz.underlying34 rfl Tryz.sizeOf3 (LD 0 0 rfl Tryz.isAgg3 (BN rfl bin_eql (MV rfl (HO_split (d:=94) rfl ?_ ?_)))))))))
   ·intro h94
    replace h94:=dT h94
    refine FA 1 rfl Tryz.underlying34 rfl Tryz.sizeOf3 (LD 0 1 rfl Tryz.isAgg3 (BN rfl bin_eql (PT rfl (MV rfl (HO_split (d:=99) rfl ?_ ?_)))))
    ·intro h99
     replace h99:=dT h99
     refine FA 2 rfl Tryz.underlying34 rfl Tryz.sizeOf31 (LA 0 [_,_] [_,_] [_] rfl (.loc _ _ _) Tryz.isAgg31 Tryz.sizeOf31 rfl (DU 1 rfl (DU 3 rfl (CB [0,0] [_,_,_,_] rfl Tryz.call48 (none_spec _ _ _ _ _ _ ?_ ?_) ?_))))
     ·(dsimp only [BIG];omega)
     ·(dsimp only [BIG];omega)
     intro y102 hy102
     clear y102 hy102
     refine PT rfl (MV rfl (HO_split (d:=104) rfl ?_ ?_))
     ·intro h104
      refine FA 4 rfl Tryz.underlying34 rfl Tryz.sizeOf32 (LD 0 4 rfl Tryz.isAgg32 (BI rfl (bi_len_sl Tryz.underlying32) (BN rfl bin_eql (PT rfl (AS rfl (NI [2] [_] rfl (WD 0 [] rfl (R1 Tryz.results27 () rfl (fun w hA => ⟨?_,?_,?_⟩)))))))))
      ·(exact congrArg Value.bool (hD.trans (by rw [hok,Bool.true_and,if_neg h85];first | (simp [Ent.emptyS, *];done) | (simp_all [Ent.emptyS];done))).symm)
      ·trivial
      ·exact hA.keep (m:=[]) (Y:=[]) rfl
     intro h104
     refine NO rfl (NO rfl (NO rfl (NO rfl (PF rfl (AS rfl (NI [2] [_] rfl (WD 0 [] rfl (R1 Tryz.results27 () rfl (fun w hA => ⟨?_,?_,?_⟩)))))))))
     ·(exact congrArg Value.bool (hD.trans (by rw [hok,Bool.true_and,if_neg h85];first | (simp [Ent.emptyS, *];done) | (simp_all [Ent.emptyS];done))).symm)
     ·trivial
     ·exact hA.keep (m:=[]) (Y:=[]) rfl
    intro h99
    replace h99:=dF h99
    refine NO rfl (NO rfl (NO rfl (PF rfl (MV rfl (NO rfl (NO rfl (NO rfl (NO rfl (PF rfl (AS rfl (NI [2] [_] rfl (WD 0 [] rfl ?_))))))))))))
    refine R1 Tryz.results27 () rfl (fun w hA => ⟨?_,?_,?_⟩)
    ·(exact congrArg Value.bool (hD.trans (by rw [hok,Bool.true_and,if_neg h85];first | (simp [Ent.emptyS, *];done) | (simp_all [Ent.emptyS];done))).symm)
    ·trivial
    ·exact hA.keep (m:=[]) (Y:=[]) rfl
   intro h94
   replace h94:=dF h94
   refine NO rfl (NO rfl (NO rfl (PF rfl (MV rfl (NO rfl (NO rfl (NO rfl (PF rfl (MV rfl (NO rfl (NO rfl (NO rfl (NO rfl ?_)))))))))))))
   refine PF rfl (AS rfl (NI [2] [_] rfl (WD 0 [] rfl (R1 Tryz.results27 () rfl (fun w hA => ⟨?_,?_,?_⟩)))))
   ·(exact congrArg Value.bool (hD.trans (by rw [hok,Bool.true_and,if_neg h85];first | (simp [Ent.emptyS, *];done) | (simp_all [Ent.emptyS];done))).symm)
   ·trivial
   ·exact hA.keep (m:=[]) (Y:=[]) rfl
 intro h49
 replace h49:=dF h49
 refine NO rfl (NO rfl (NO rfl (PF rfl (AS rfl (NI [44,1] [_,_] rfl (CF rfl (SK (BD (SQ (SQ ?_))))))))))
 have hD:=Ent.goodMsg_at (m:=⟨mk,mf,mt,me,mi,ml,mc,mr,rj,hi,es,⟨ix,te,⟨vo,le⟩,da⟩⟩) (by dsimp only;omega)
 dsimp only at hD
 refine RG rfl (FA 10 rfl Tryz.underlying36 rfl Tryz.sizeOf28 (LD 0 10 rfl Tryz.isAgg28 (BI rfl (bi_len_sl Tryz.underlying28) (MV rfl (NI [57,56,55,1] [_,_,_,_] rfl (BO (H_loop (σ:=Nat) (fun s => s≤es.length∧Ent.okEnts mi me 0 es = Ent.okEnts mi me s (es.drop s)) (fun s => [(1,.pointer (some ⟨g1,0,none⟩)),(55,.slice a9 (es.length) c9),(56,.int .i64 ((es.length : Int))),(57,.int .i64 ((s : Int)))]) (fun s => Asn w0 ok0 M0 [.loc g1 [.int .i64 (mk),.int .i64 (mf),.int .i64 (mt),.int .i64 (me),.int .i64 (mi),.int .i64 (ml),.int .i64 (mc),.int .i64 (mr),.bool (rj),.int .i64 (hi),.slice a9 (es.length) c9,.int .i64 (ix),.int .i64 (te),.slice a1 (vo.length) c1,.slice a2 (le.length) c2,.slice a3 (da.length) c3] 36,.dat kEnt.sl (es) [.slice a9 (es.length) c9],.dat kInt.sl (vo) [.slice a1 (vo.length) c1],.dat kInt.sl (le) [.slice a2 (le.length) c2],.dat kByte.sl (da) [.slice a3 (da.length) c3]]) (fun s => es.length - s) 0 ?_ ?_ ?_ ?_)))))))
 ·exact ⟨Nat.zero_le _,rfl⟩
 ·exact ⟨rfl,rfl,rfl,rfl,trivial⟩
 ·intro w hA
  exact hA.only (is:=[0,1,2,3,4]) (Z:=[]) rfl
 ·intro i hI
  (try dsimp only at hI ⊢)
  refine SQ (RG rfl (BN rfl bin_lss (HO_nil (SQ (H_cond rfl ?_ ?_)))))
  ·intro h58
   replace h58:=dT h58
   refine SK (SQ (BO (SQ (RG rfl (MV rfl (HO_indexAddr open_Ent (i:=1) rfl rfl rfl rfl rfl Tryz.underlying28 Tryz.sizeOf70 rfl ?_ ?_))))))
   ·omega
   intro b60 o60 z60 y60 hz60 hI60
   (try simp only [BIG] at hI60)
   refine LA 0 [] [_,_,_,_,_,_,_,_,_,_,_,_,_] [] rfl (.elem _ _ _) Tryz.isAgg70 Tryz.sizeOf70 rfl (AO [_,_,_,_,_,_,_,_,_,_,_,_,_] Tryz.zeroValue70 rfl ?_)
   intro g5
   refine AS rfl (SR 0 [] [_,_,_,_,_,_,_,_,_,_,_,_,_] [] [_,_,_,_,_,_,_,_,_,_,_,_,_] [_,_,_,_,_,_,_,_] [_,_,_,_,_,_,_,_,_,_,_,_,_] Tryz.sizeOf70 rfl (NI [4,5,1,55,56,57] [_,_,_,_,_,_] rfl (WD 509 [_,_,_,_,_,_,_,_] rfl (SQ (RG rfl (LA 0 [] [_,_,_,_,_,_,_,_,_,_,_,_,_] [] rfl (.loc _ _ _) Tryz.isAgg70 Tryz.sizeOf70 rfl (DU 1 rfl (DU 3 rfl (CB [0,0] [_,_,_,_,_,_,_,_] rfl Tryz.call46 (entgood_spec _ _ _ _ _ _ _ _ _ _ _ _ _ _ _ _ _ ?_ ?_) ?_)))))))))
   ·(dsimp only [BIG];omega)
   ·(dsimp only [BIG];omega)
   intro y63 hy63
   clear y63 hy63
   refine HO_set (v':=.bool (Ent.good z60)) 63 rfl (by rfl) (NT rfl (MV rfl (HO_split (d:=65) rfl ?_ ?_)))
   ·intro h65
    replace h65:=nT h65
    iterate 8 refine HO_no rfl rfl rfl ?_
    refine PT rfl (MV rfl (NO rfl (NO rfl (NO rfl (NO rfl (NO rfl (PT rfl (NI [81,1,55,56,57] [_,_,_,_,_] rfl (WD 248 [_,_,_,_,_] rfl (CT rfl (SQ (RG rfl ?_))))))))))))
    refine AS rfl (NI [2] [_] rfl (WD 0 [] rfl (R1 Tryz.results27 () rfl (fun w hA => ⟨?_,?_,?_⟩))))
    ·(first | (exact congrArg Value.bool (hD.trans (by rw [Ent.ok_no hz60 hI.2 (.inl h65)];rfl)).symm) | (exact congrArg Value.bool (hD.trans (by rw [Ent.ok_no hz60 hI.2 (.inr (.inl h75))];rfl)).symm) | (exact congrArg Value.bool (hD.trans (by rw [Ent.ok_no hz60 hI.2 (.inr (.inr (by omega)))];rfl)).symm))
    ·trivial
    ·exact hA.keep (m:=[]) (Y:=[]) rfl
   intro h65
   replace h65:=nF h65
   have hgi:=Ent.good_idx h65
   (try dsimp only at hgi)
   refine FA 0 rfl Tryz.underlying70 rfl Tryz.sizeOf3 (LD 0 0 rfl Tryz.isAgg3 (FA 4 rfl Tryz.underlying36 rfl Tryz.sizeOf3 (LD 3 4 rfl Tryz.isAgg3 (BN rfl (bin_sub ?_ ?_) ?_))))
   ·omega
   ·omega
   refine MV rfl (BN rfl (bin_add ?_ ?_) ?_)
   ·omega
   ·omega
   refine BN rfl bin_neq (PF rfl (MV rfl (HO_split (d:=75) rfl ?_ ?_)))
   ·intro h75
    replace h75:=dT h75
    refine NO rfl (NO rfl (NO rfl (NO rfl (NO rfl (PT rfl (NI [81,1,55,56,57] [_,_,_,_,_] rfl (WD 248 [_,_,_,_,_] rfl (CT rfl (SQ (RG rfl (AS rfl (HO_nil ?_))))))))))))
    refine EV [2] [_] rfl (WD 0 [] rfl (R1 Tryz.results27 () rfl (fun w hA => ⟨?_,?_,?_⟩)))
    ·(first | (exact congrArg Value.bool (hD.trans (by rw [Ent.ok_no hz60 hI.2 (.inl h65)];rfl)).symm) | (exact congrArg Value.bool (hD.trans (by rw [Ent.ok_no hz60 hI.2 (.inr (.inl h75))];rfl)).symm) | (exact congrArg Value.bool (hD.trans (by rw [Ent.ok_no hz60 hI.2 (.inr (.inr (by omega)))];rfl)).symm))
    ·trivial
    ·exact hA.keep (m:=[]) (Y:=[]) rfl
   intro h75
   replace h75:=dF h75
   refine FA 1 rfl Tryz.underlying70 rfl Tryz.sizeOf3 (LD 0 1 rfl Tryz.isAgg3 (FA 3 rfl Tryz.underlying36 rfl Tryz.sizeOf3 (LD 3 3 rfl Tryz.isAgg3 (BN rfl bin_gtr (PF rfl (NI [81,1,55,56,57] [_,_,_,_,_] rfl (WD 248 [_,_,_,_,_] rfl (H_cond rfl ?_ ?_))))))))
   ·intro h81
    replace h81:=dT h81
    refine SQ (RG rfl (AS rfl (NI [2] [_] rfl (WD 0 [] rfl (R1 Tryz.results27 () rfl (fun w hA => ⟨?_,?_,?_⟩))))))
    ·(first | (exact congrArg Value.bool (hD.trans (by rw [Ent.ok_no hz60 hI.2 (.inl h65)];rfl)).symm) | (exact congrArg Value.bool (hD.trans (by rw [Ent.ok_no hz60 hI.2 (.inr (.inl h75))];rfl)).symm) | (exact congrArg Value.bool (hD.trans (by rw [Ent.ok_no hz60 hI.2 (.inr (.inr (by omega)))];rfl)).symm))
    ·trivial
    ·exact hA.keep (m:=[]) (Y:=[]) rfl
   intro h81
   replace h81:=dF h81
   refine SK (BD (RG rfl (BN rfl (bin_add ?_ ?_) ?_)))
   ·omega
   ·omega
   refine MV rfl (NI [57,1,55,56] [_,_,_,_] rfl (H_inv (fun a w hf hA => ⟨i + 1,?_,?_,hf.sub ?_,?_⟩)))
   ·exact ⟨by omega,Ent.ok_next hz60 hI.2 h65 (by omega) (by omega)⟩
   ·(try dsimp only);omega
   ·exact ⟨rfl,rfl,rfl,rfl,trivial⟩
   ·exact hA.only (is:=[0,1,2,3,4]) (Z:=[]) rfl
  intro h58
  replace h58:=dF h58
  refine H_exit rfl (SQ (SQ ?_))
  have hok:=Ent.ok_end hI.2 (by omega)
  refine RG rfl (FA 0 rfl Tryz.underlying36 rfl Tryz.sizeOf3 (LD 0 0 rfl Tryz.isAgg3 (BN rfl bin_eql (NI [85,1] [_,_] rfl (H_cond rfl ?_ ?_)))))
  ·intro h85
   replace h85:=dT h85
   refine SQ (RG rfl (FA 11 rfl Tryz.underlying36 rfl Tryz.sizeOf34 (LA 0 [_,_,_,_,_,_,_,_,_,_,_] [_,_,_,_,_] [] rfl (.loc _ _ _) Tryz.isAgg34 Tryz.sizeOf34 rfl (DU 2 rfl (DU 4 rfl (DU 6 rfl (CB [0,0,0] [_,_,_,_,_] rfl Tryz.call47 (goodsnap_spec _ _ _ _ _ _ _ _ _ _ _) ?_)))))))
   intro y88 hy88
   clear y88 hy88
   refine AS rfl (NI [2] [_] rfl (WD 0 [] rfl (R1 Tryz.results27 () rfl (fun w hA => ⟨?_,?_,?_⟩))))
   ·(exact congrArg Value.bool (hD.trans (by rw [hok,Bool.true_and,if_pos h85])).symm)
   ·trivial
   ·exact hA.keep (m:=[]) (Y:=[]) rfl
  intro h85
  replace h85:=dF h85
  refine SK (SQ (RG rfl (FA 11 rfl Tryz.underlying36 rfl Tryz.sizeOf34 (LA 0 [_,_,_,_,_,_,_,_,_,_,_] [_,_,_,_,_] [] rfl (.loc _ _ _) Tryz.isAgg34 Tryz.sizeOf34 rfl (AO [_,_,_,_,_] Tryz.zeroValue34 rfl ?_)))))
  intro g6
  refine SR 0 [] [_,_,_,_,_] [] [_,_,_,_,_] [_,_,_,_,_] [_,_,_,_,_] Tryz.sizeOf34 rfl (NI [6] [_] rfl (WD 57 [_,_,_,_] rfl (SQ (RG rfl (FA 0 rfl Tryz.underlying34 rfl Tryz.sizeOf3 (LD 0 0 rfl Tryz.isAgg3 (BN rfl bin_eql (MV rfl (HO_split (d:=94) rfl ?_ ?_)))))))))
  ·intro h94
   replace h94:=dT h94
   refine FA 1 rfl Tryz.underlying34 rfl Tryz.sizeOf3 (LD 0 1 rfl Tryz.isAgg3 (BN rfl bin_eql (PT rfl (MV rfl (HO_split (d:=99) rfl ?_ ?_)))))
   ·intro h99
    replace h99:=dT h99
    refine FA 2 rfl Tryz.underlying34 rfl Tryz.sizeOf31 (LA 0 [_,_] [_,_] [_] rfl (.loc _ _ _) Tryz.isAgg31 Tryz.sizeOf31 rfl (DU 1 rfl (DU 3 rfl (CB [0,0] [_,_,_,_] rfl Tryz.call48 (none_spec _ _ _ _ _ _ ?_ ?_) ?_))))
    ·(dsimp only [BIG];omega)
    ·(dsimp only [BIG];omega)
    intro y102 hy102
    clear y102 hy102
    refine PT rfl (MV rfl (HO_split (d:=104) rfl ?_ ?_))
    ·intro h104
     refine FA 4 rfl Tryz.underlying34 rfl Tryz.sizeOf32 (LD 0 4 rfl Tryz.isAgg32 (BI rfl (bi_len_sl Tryz.underlying32) (BN rfl bin_eql (PT rfl (AS rfl (NI [2] [_] rfl (WD 0 [] rfl (R1 Tryz.results27 () rfl (fun w hA => ⟨?_,?_,?_⟩)))))))))
     ·(exact congrArg Value.bool (hD.trans (by rw [hok,Bool.true_and,if_neg h85];first | (simp [Ent.emptyS, *];done) | (simp_all [Ent.emptyS];done))).symm)
     ·trivial
     ·exact hA.keep (m:=[]) (Y:=[]) rfl
    intro h104
    refine NO rfl (NO rfl (NO rfl (NO rfl (PF rfl (AS rfl (NI [2] [_] rfl (WD 0 [] rfl (R1 Tryz.results27 () rfl (fun w hA => ⟨?_,?_,?_⟩)))))))))
    ·(exact congrArg Value.bool (hD.trans (by rw [hok,Bool.true_and,if_neg h85];first | (simp [Ent.emptyS, *];done) | (simp_all [Ent.emptyS];done))).symm)
    ·trivial
    ·exact hA.keep (m:=[]) (Y:=[]) rfl
   intro h99
   replace h99:=dF h99
   refine NO rfl (NO rfl (NO rfl (PF rfl (MV rfl (NO rfl (NO rfl (NO rfl (NO rfl (PF rfl (AS rfl (NI [2] [_] rfl (WD 0 [] rfl ?_))))))))))))
   refine R1 Tryz.results27 () rfl (fun w hA => ⟨?_,?_,?_⟩)
   ·(exact congrArg Value.bool (hD.trans (by rw [hok,Bool.true_and,if_neg h85];first | (simp [Ent.emptyS, *];done) | (simp_all [Ent.emptyS];done))).symm)
   ·trivial
   ·exact hA.keep (m:=[]) (Y:=[]) rfl
  intro h94
  replace h94:=dF h94
  refine NO rfl (NO rfl (NO rfl (PF rfl (MV rfl (NO rfl (NO rfl (NO rfl (PF rfl (MV rfl (NO rfl (NO rfl (NO rfl (NO rfl ?_)))))))))))))
  refine PF rfl (AS rfl (NI [2] [_] rfl (WD 0 [] rfl (R1 Tryz.results27 () rfl (fun w hA => ⟨?_,?_,?_⟩)))))
  ·(exact congrArg Value.bool (hD.trans (by rw [hok,Bool.true_and,if_neg h85];first | (simp [Ent.emptyS, *];done) | (simp_all [Ent.emptyS];done))).symm)
  ·trivial
  ·exact hA.keep (m:=[]) (Y:=[]) rfl
theorem like_spec (es es2 : List Ent) (a9 : Option Addr) (c9 : Nat) (a92 : Option Addr) (c92 : Nat)  : Spec Tryz.prog 34 #[.slice a9 (es.length) c9,.slice a92 (es2.length) c92] [.dat kEnt.sl (es) [.slice a9 (es.length) c9],.dat kEnt.sl (es2) [.slice a92 (es2.length) c92]] (β:=Unit) (fun y => .bool (decide (es = es2))) (fun y => True) (fun y => []):=by
 refine Spec.enter (vs:=[_,_]) Tryz.func34 rfl Tryz.ntmps34 rfl (Nat.le_of_ble_eq_true rfl) (fun w0 ok0 => ?_)
 generalize hM0 : blks _ = M0
 have hMn:=@noM _ _ hM0 (by simp [Atom.dat,Atom.elem])
 refine H_len_le (i:=0) rfl ?_
 intro hlen0
 refine H_len_le (i:=1) rfl ?_
 intro hlen1
 refine SQ (RG rfl (AS rfl (NI [0,1] [_,_] rfl (SQ (SQ (RG rfl (MV rfl (BI rfl (bi_len_sl Tryz.underlying28) (MV rfl (BI rfl (bi_len_sl Tryz.underlying28) (BN rfl bin_neq (HO_nil ?_))))))))))))
 refine EV [10,0,1] [_,_,_] rfl (H_cond rfl ?_ ?_)
 ·intro h10
  replace h10:=dT h10
  refine SQ (RG rfl (AS rfl (NI [4] [_] rfl (WD 0 [] rfl (R1 Tryz.results34 () rfl (fun w hA => ⟨?_,?_,?_⟩))))))
  ·(first | exact congrArg Value.bool (Ent.same_no hz18 hz22 h25).symm | exact congrArg Value.bool (Ent.same_yes hl hI).symm | exact congrArg Value.bool (Ent.same_len h10).symm)
  ·trivial
  ·exact hA.keep (m:=[]) (Y:=[]) rfl
 intro h10
 replace h10:=dF h10
 have hl : es.length = es2.length:=by omega
 refine SK (SQ (SQ (RG rfl (MV rfl (BI rfl (bi_len_sl Tryz.underlying28) (MV rfl (NI [13,12,0,1] [_,_,_,_] rfl (BO (H_loop (σ:=Nat) (fun s => s≤es.length∧es.take s = es2.take s) (fun s => [(0,.slice a9 (es.length) c9),(1,.slice a92 (es2.length) c92),(12,.int .i64 ((es.length : Int))),(13,.int .i64 ((s : Int)))]) (fun s => Asn w0 ok0 M0 [.dat kEnt.sl (es) [.slice a9 (es.length) c9],.dat kEnt.sl (es2) [.slice a92 (es2.length) c92]]) (fun s => es.length - s) 0 ?_ ?_ ?_ ?_)))))))))
 ·exact ⟨Nat.zero_le _,by simp⟩
 ·exact ⟨rfl,rfl,rfl,rfl,trivial⟩
 ·intro w hA
  exact hA.only (is:=[0,1]) (Z:=[]) rfl
 ·intro i hI
  (try dsimp only at hI ⊢)
  refine SQ (RG rfl (BN rfl bin_lss (HO_nil (SQ (H_cond rfl ?_ ?_)))))
  ·intro h14
   replace h14:=dT h14
   refine SK (SQ (BO (SQ (RG rfl (MV rfl (AS rfl (NI [5,0,1,12,13] [_,_,_,_,_] rfl (SQ (H_drawB (m:=[yy,yy]) (Xs:=[_,_]) (fuel:=10) (l:=#[false,false,false,false,false,false,false,false,false,false]) mixed rfl rfl rfl (TA 0 rfl (by kernel_rfl) (V_move rfl) (TA 1 rfl (by kernel_rfl) (V_move rfl) (TA 4 rfl (by kernel_rfl) (V_move rfl) ?_))))))))))))
   refine TA 5 rfl (by kernel_rfl) (V_move rfl) (HA_loud2 (i:=2) (j:=6) (by kernel_rfl) rfl rfl ?_ ?_)
   ·refine HO_indexAddr open_Ent (i:=0) rfl rfl rfl rfl rfl Tryz.underlying28 Tryz.sizeOf70 rfl ?_ ?_
    ·omega
    intro b18 o18 z18 y18 hz18 hI18
    (try simp only [BIG] at hI18)
    refine BK 24 [_,_] rfl (HA_loud2 (i:=3) (j:=6) (by kernel_rfl) rfl rfl ?_ ?_)
    ·refine HO_loadA (i:=0) (us:=[]) (cs:=[_,_,_,_,_,_,_,_,_,_,_,_,_]) (ts:=[]) rfl rfl rfl Tryz.isAgg70 Tryz.sizeOf70 rfl (.elem _ _ _) rfl rfl rfl rfl ?_
     refine BK 24 [_,_] rfl (LO 6 (by kernel_rfl) rfl (HO_indexAddr open_Ent (i:=4) rfl rfl rfl rfl rfl Tryz.underlying28 Tryz.sizeOf70 rfl ?_ ?_))
     ·omega
     intro b22 o22 z22 y22 hz22 hI22
     (try simp only [BIG] at hI22)
     refine BK 192 [_,_] rfl (LO 7 (by kernel_rfl) rfl (LA 0 [] [_,_,_,_,_,_,_,_,_,_,_,_,_] [] rfl (.elem _ _ _) Tryz.isAgg70 Tryz.sizeOf70 rfl (BK 192 [_,_] rfl (LO 8 (by kernel_rfl) rfl (DU 4 rfl (DU 6 rfl (DU 3 rfl (DU 5 rfl (CB [0,0,0,0] [_,_,_,_,_,_,_,_] rfl Tryz.call63 (rentsame_spec _ _ _ _ _ _ _ _ _ _ _ _ _ _ _ _ _ _ _ _ _ _ _ _ _ _ _ _ _ _ _ _ _ _) ?_)))))))))
     intro y24 hy24
     clear y24 hy24
     refine BK 192 [_,_] rfl (TK 9 192 [_,_] rfl (by kernel_rfl) (V_not rfl) (HA_done (by kernel_rfl) (EV [25,0,1,12,13] [_,_,_,_,_] rfl (WD 192 [_,_] rfl (H_cond rfl ?_ ?_)))))
     ·intro h25
      replace h25:=dF (nT h25)
      refine SQ (RG rfl (AS rfl (NI [4] [_] rfl (WD 0 [] rfl (R1 Tryz.results34 () rfl (fun w hA => ⟨?_,?_,?_⟩))))))
      ·(first | exact congrArg Value.bool (Ent.same_no hz18 hz22 h25).symm | exact congrArg Value.bool (Ent.same_yes hl hI).symm | exact congrArg Value.bool (Ent.same_len h10).symm)
      ·trivial
      ·exact hA.keep (m:=[]) (Y:=[]) rfl
     intro h25
     replace h25:=dT (nF h25)
     refine SK (BD (RG rfl (BN rfl (bin_add ?_ ?_) ?_)))
     ·omega
     ·omega
     refine MV rfl (NI [13,0,1,12] [_,_,_,_] rfl (H_inv (fun a w hf hA => ⟨i + 1,?_,?_,hf.sub ?_,?_⟩)))
     ·exact ⟨by omega,Ent.same_next hz18 hz22 hI.2 h25⟩
     ·(try dsimp only);omega
     ·exact ⟨rfl,rfl,rfl,rfl,trivial⟩
     ·exact hA.only (is:=[0,1]) (Z:=[]) rfl
    ·refine HO_indexAddr open_Ent (i:=4) rfl rfl rfl rfl rfl Tryz.underlying28 Tryz.sizeOf70 rfl ?_ ?_
     ·omega
     intro b22 o22 z22 y22 hz22 hI22
     (try simp only [BIG] at hI22)
     refine BK 192 [_,_] rfl (HA_loud2 (i:=3) (j:=7) (by kernel_rfl) rfl rfl ?_ ?_)
     ·refine HO_loadA (i:=3) (us:=[]) (cs:=[_,_,_,_,_,_,_,_,_,_,_,_,_]) (ts:=[]) rfl rfl rfl Tryz.isAgg70 Tryz.sizeOf70 rfl (.elem _ _ _) rfl rfl rfl rfl ?_
      refine BK 192 [_,_] rfl (LO 7 (by kernel_rfl) rfl (LA 0 [] [_,_,_,_,_,_,_,_,_,_,_,_,_] [] rfl (.elem _ _ _) Tryz.isAgg70 Tryz.sizeOf70 rfl (BK 192 [_,_] rfl (LO 8 (by kernel_rfl) rfl (DU 4 rfl (DU 6 rfl (DU 3 rfl (DU 5 rfl (CB [0,0,0,0] [_,_,_,_,_,_,_,_] rfl Tryz.call63 (rentsame_spec _ _ _ _ _ _ _ _ _ _ _ _ _ _ _ _ _ _ _ _ _ _ _ _ _ _ _ _ _ _ _ _ _ _) ?_)))))))))
      intro y24 hy24
      clear y24 hy24
      refine BK 192 [_,_] rfl (TK 9 192 [_,_] rfl (by kernel_rfl) (V_not rfl) (HA_done (by kernel_rfl) (EV [25,0,1,12,13] [_,_,_,_,_] rfl (WD 192 [_,_] rfl (H_cond rfl ?_ ?_)))))
      ·intro h25
       replace h25:=dF (nT h25)
       refine SQ (RG rfl (AS rfl (NI [4] [_] rfl (WD 0 [] rfl (R1 Tryz.results34 () rfl (fun w hA => ⟨?_,?_,?_⟩))))))
       ·(first | exact congrArg Value.bool (Ent.same_no hz18 hz22 h25).symm | exact congrArg Value.bool (Ent.same_yes hl hI).symm | exact congrArg Value.bool (Ent.same_len h10).symm)
       ·trivial
       ·exact hA.keep (m:=[]) (Y:=[]) rfl
      intro h25
      replace h25:=dT (nF h25)
      refine SK (BD (RG rfl (BN rfl (bin_add ?_ ?_) ?_)))
      ·omega
      ·omega
      refine MV rfl (NI [13,0,1,12] [_,_,_,_] rfl (H_inv (fun a w hf hA => ⟨i + 1,?_,?_,hf.sub ?_,?_⟩)))
      ·exact ⟨by omega,Ent.same_next hz18 hz22 hI.2 h25⟩
      ·(try dsimp only);omega
      ·exact ⟨rfl,rfl,rfl,rfl,trivial⟩
      ·exact hA.only (is:=[0,1]) (Z:=[]) rfl
     ·refine HO_loadA (i:=0) (us:=[]) (cs:=[_,_,_,_,_,_,_,_,_,_,_,_,_]) (ts:=[]) rfl rfl rfl Tryz.isAgg70 Tryz.sizeOf70 rfl (.elem _ _ _) rfl rfl rfl rfl ?_
      refine BK 192 [_,_] rfl (LO 3 (by kernel_rfl) rfl (LA 3 [] [_,_,_,_,_,_,_,_,_,_,_,_,_] [] rfl (.elem _ _ _) Tryz.isAgg70 Tryz.sizeOf70 rfl (BK 192 [_,_] rfl (LO 8 (by kernel_rfl) rfl (DU 4 rfl (DU 6 rfl (DU 3 rfl (DU 5 rfl (CB [0,0,0,0] [_,_,_,_,_,_,_,_] rfl Tryz.call63 (rentsame_spec _ _ _ _ _ _ _ _ _ _ _ _ _ _ _ _ _ _ _ _ _ _ _ _ _ _ _ _ _ _ _ _ _ _) ?_)))))))))
      intro y24 hy24
      clear y24 hy24
      refine BK 192 [_,_] rfl (TK 9 192 [_,_] rfl (by kernel_rfl) (V_not rfl) (HA_done (by kernel_rfl) (EV [25,0,1,12,13] [_,_,_,_,_] rfl (WD 192 [_,_] rfl (H_cond rfl ?_ ?_)))))
      ·intro h25
       replace h25:=dF (nT h25)
       refine SQ (RG rfl (AS rfl (NI [4] [_] rfl (WD 0 [] rfl (R1 Tryz.results34 () rfl (fun w hA => ⟨?_,?_,?_⟩))))))
       ·(first | exact congrArg Value.bool (Ent.same_no hz18 hz22 h25).symm | exact congrArg Value.bool (Ent.same_yes hl hI).symm | exact congrArg Value.bool (Ent.same_len h10).symm)
       ·trivial
       ·exact hA.keep (m:=[]) (Y:=[]) rfl
      intro h25
      replace h25:=dT (nF h25)
      refine SK (BD (RG rfl (BN rfl (bin_add ?_ ?_) ?_)))
      ·omega
      ·omega
      refine MV rfl (NI [13,0,1,12] [_,_,_,_] rfl (H_inv (fun a w hf hA => ⟨i + 1,?_,?_,hf.sub ?_,?_⟩)))
      ·exact ⟨by omega,Ent.same_next hz18 hz22 hI.2 h25⟩
      ·(try dsimp only);omega
      ·exact ⟨rfl,rfl,rfl,rfl,trivial⟩
      ·exact hA.only (is:=[0,1]) (Z:=[]) rfl
   ·refine HO_indexAddr open_Ent (i:=1) rfl rfl rfl rfl rfl Tryz.underlying28 Tryz.sizeOf70 rfl ?_ ?_
    ·omega
    intro b22 o22 z22 y22 hz22 hI22
    (try simp only [BIG] at hI22)
    refine BK 24 [_,_] rfl (HA_loud2 (i:=2) (j:=7) (by kernel_rfl) rfl rfl ?_ ?_)
    ·refine HO_indexAddr open_Ent (i:=3) rfl rfl rfl rfl rfl Tryz.underlying28 Tryz.sizeOf70 rfl ?_ ?_
     ·omega
     intro b18 o18 z18 y18 hz18 hI18
     (try simp only [BIG] at hI18)
     refine BK 192 [_,_] rfl (HA_loud2 (i:=3) (j:=7) (by kernel_rfl) rfl rfl ?_ ?_)
     ·refine HO_loadA (i:=0) (us:=[]) (cs:=[_,_,_,_,_,_,_,_,_,_,_,_,_]) (ts:=[]) rfl rfl rfl Tryz.isAgg70 Tryz.sizeOf70 rfl (.elem _ _ _) rfl rfl rfl rfl ?_
      refine BK 192 [_,_] rfl (LO 7 (by kernel_rfl) rfl (LA 3 [] [_,_,_,_,_,_,_,_,_,_,_,_,_] [] rfl (.elem _ _ _) Tryz.isAgg70 Tryz.sizeOf70 rfl (BK 192 [_,_] rfl (LO 8 (by kernel_rfl) rfl (DU 1 rfl (DU 3 rfl (DU 6 rfl (DU 8 rfl (CB [0,0,0,0] [_,_,_,_,_,_,_,_] rfl Tryz.call63 (rentsame_spec _ _ _ _ _ _ _ _ _ _ _ _ _ _ _ _ _ _ _ _ _ _ _ _ _ _ _ _ _ _ _ _ _ _) ?_)))))))))
      intro y24 hy24
      clear y24 hy24
      refine BK 192 [_,_] rfl (TK 9 192 [_,_] rfl (by kernel_rfl) (V_not rfl) (HA_done (by kernel_rfl) (EV [25,0,1,12,13] [_,_,_,_,_] rfl (WD 192 [_,_] rfl (H_cond rfl ?_ ?_)))))
      ·intro h25
       replace h25:=dF (nT h25)
       refine SQ (RG rfl (AS rfl (NI [4] [_] rfl (WD 0 [] rfl (R1 Tryz.results34 () rfl (fun w hA => ⟨?_,?_,?_⟩))))))
       ·(first | exact congrArg Value.bool (Ent.same_no hz18 hz22 h25).symm | exact congrArg Value.bool (Ent.same_yes hl hI).symm | exact congrArg Value.bool (Ent.same_len h10).symm)
       ·trivial
       ·exact hA.keep (m:=[]) (Y:=[]) rfl
      intro h25
      replace h25:=dT (nF h25)
      refine SK (BD (RG rfl (BN rfl (bin_add ?_ ?_) ?_)))
      ·omega
      ·omega
      refine MV rfl (NI [13,0,1,12] [_,_,_,_] rfl (H_inv (fun a w hf hA => ⟨i + 1,?_,?_,hf.sub ?_,?_⟩)))
      ·exact ⟨by omega,Ent.same_next hz18 hz22 hI.2 h25⟩
      ·(try dsimp only);omega
      ·exact ⟨rfl,rfl,rfl,rfl,trivial⟩
      ·exact hA.only (is:=[0,1]) (Z:=[]) rfl
     ·refine HO_loadA (i:=3) (us:=[]) (cs:=[_,_,_,_,_,_,_,_,_,_,_,_,_]) (ts:=[]) rfl rfl rfl Tryz.isAgg70 Tryz.sizeOf70 rfl (.elem _ _ _) rfl rfl rfl rfl ?_
      refine BK 192 [_,_] rfl (LO 3 (by kernel_rfl) rfl (LA 0 [] [_,_,_,_,_,_,_,_,_,_,_,_,_] [] rfl (.elem _ _ _) Tryz.isAgg70 Tryz.sizeOf70 rfl (BK 192 [_,_] rfl (LO 8 (by kernel_rfl) rfl (DU 1 rfl (DU 3 rfl (DU 6 rfl (DU 8 rfl (CB [0,0,0,0] [_,_,_,_,_,_,_,_] rfl Tryz.call63 (rentsame_spec _ _ _ _ _ _ _ _ _ _ _ _ _ _ _ _ _ _ _ _ _ _ _ _ _ _ _ _ _ _ _ _ _ _) ?_)))))))))
      intro y24 hy24
      clear y24 hy24
      refine BK 192 [_,_] rfl (TK 9 192 [_,_] rfl (by kernel_rfl) (V_not rfl) (HA_done (by kernel_rfl) (EV [25,0,1,12,13] [_,_,_,_,_] rfl (WD 192 [_,_] rfl (H_cond rfl ?_ ?_)))))
      ·intro h25
       replace h25:=dF (nT h25)
       refine SQ (RG rfl (AS rfl (NI [4] [_] rfl (WD 0 [] rfl (R1 Tryz.results34 () rfl (fun w hA => ⟨?_,?_,?_⟩))))))
       ·(first | exact congrArg Value.bool (Ent.same_no hz18 hz22 h25).symm | exact congrArg Value.bool (Ent.same_yes hl hI).symm | exact congrArg Value.bool (Ent.same_len h10).symm)
       ·trivial
       ·exact hA.keep (m:=[]) (Y:=[]) rfl
      intro h25
      replace h25:=dT (nF h25)
      refine SK (BD (RG rfl (BN rfl (bin_add ?_ ?_) ?_)))
      ·omega
      ·omega
      refine MV rfl (NI [13,0,1,12] [_,_,_,_] rfl (H_inv (fun a w hf hA => ⟨i + 1,?_,?_,hf.sub ?_,?_⟩)))
      ·exact ⟨by omega,Ent.same_next hz18 hz22 hI.2 h25⟩
      ·(try dsimp only);omega
      ·exact ⟨rfl,rfl,rfl,rfl,trivial⟩
      ·exact hA.only (is:=[0,1]) (Z:=[]) rfl
    ·refine HO_loadA (i:=0) (us:=[]) (cs:=[_,_,_,_,_,_,_,_,_,_,_,_,_]) (ts:=[]) rfl rfl rfl Tryz.isAgg70 Tryz.sizeOf70 rfl (.elem _ _ _) rfl rfl rfl rfl ?_
     refine BK 24 [_,_] rfl (LO 2 (by kernel_rfl) rfl (HO_indexAddr open_Ent (i:=3) rfl rfl rfl rfl rfl Tryz.underlying28 Tryz.sizeOf70 rfl ?_ ?_))
     ·omega
     intro b18 o18 z18 y18 hz18 hI18
     (try simp only [BIG] at hI18)
     refine BK 192 [_,_] rfl (LO 3 (by kernel_rfl) rfl (LA 0 [] [_,_,_,_,_,_,_,_,_,_,_,_,_] [] rfl (.elem _ _ _) Tryz.isAgg70 Tryz.sizeOf70 rfl (BK 192 [_,_] rfl (LO 8 (by kernel_rfl) rfl (DU 1 rfl (DU 3 rfl (DU 6 rfl (DU 8 rfl (CB [0,0,0,0] [_,_,_,_,_,_,_,_] rfl Tryz.call63 (rentsame_spec _ _ _ _ _ _ _ _ _ _ _ _ _ _ _ _ _ _ _ _ _ _ _ _ _ _ _ _ _ _ _ _ _ _) ?_)))))))))
     intro y24 hy24
     clear y24 hy24
     refine BK 192 [_,_] rfl (TK 9 192 [_,_] rfl (by kernel_rfl) (V_not rfl) (HA_done (by kernel_rfl) (EV [25,0,1,12,13] [_,_,_,_,_] rfl (WD 192 [_,_] rfl (H_cond rfl ?_ ?_)))))
     ·intro h25
      replace h25:=dF (nT h25)
      refine SQ (RG rfl (AS rfl (NI [4] [_] rfl (WD 0 [] rfl (R1 Tryz.results34 () rfl (fun w hA => ⟨?_,?_,?_⟩))))))
      ·(first | exact congrArg Value.bool (Ent.same_no hz18 hz22 h25).symm | exact congrArg Value.bool (Ent.same_yes hl hI).symm | exact congrArg Value.bool (Ent.same_len h10).symm)
      ·trivial
      ·exact hA.keep (m:=[]) (Y:=[]) rfl
     intro h25
     replace h25:=dT (nF h25)
     refine SK (BD (RG rfl (BN rfl (bin_add ?_ ?_) ?_)))
     ·omega
     ·omega
     refine MV rfl (NI [13,0,1,12] [_,_,_,_] rfl (H_inv (fun a w hf hA => ⟨i + 1,?_,?_,hf.sub ?_,?_⟩)))
     ·exact ⟨by omega,Ent.same_next hz18 hz22 hI.2 h25⟩
     ·(try dsimp only);omega
     ·exact ⟨rfl,rfl,rfl,rfl,trivial⟩
     ·exact hA.only (is:=[0,1]) (Z:=[]) rfl
  intro h14
  replace h14:=dF h14
  refine H_exit rfl (SQ ?_)
  obtain rfl : i = es.length:=by omega
  refine RG rfl (AS rfl (NI [4] [_] rfl (WD 0 [] rfl (R1 Tryz.results34 () rfl (fun w hA => ⟨?_,?_,?_⟩)))))
  ·(first | exact congrArg Value.bool (Ent.same_no hz18 hz22 h25).symm | exact congrArg Value.bool (Ent.same_yes hl hI).symm | exact congrArg Value.bool (Ent.same_len h10).symm)
  ·trivial
  ·exact hA.keep (m:=[]) (Y:=[]) rfl
set_option maxHeartbeats 1000000 in
theorem samemsg_spec (mk mf mt me mi ml mc mr : Int) (rj : Bool) (hi : Int) (es : List Ent) (a9 : Option Addr) (c9 : Nat) (ix te : Int) (vo le : List Int) (a1 : Option Addr) (c1 : Nat) (a2 : Option Addr) (c2 : Nat) (da : List UInt8) (a3 : Option Addr) (c3 : Nat) (mk2 mf2 mt2 me2 mi2 ml2 mc2 mr2 : Int) (rj2 : Bool) (hi2 : Int) (es2 : List Ent) (a92 : Option Addr) (c92 : Nat) (ix2 te2 : Int) (vo2 le2 : List Int) (a12 : Option Addr) (c12 : Nat) (a22 : Option Addr) (c22 : Nat) (da2 : List UInt8) (a32 : Option Addr) (c32 : Nat)  : Spec Tryz.prog 14 #[.agg #[.int .i64 (mk),.int .i64 (mf),.int .i64 (mt),.int .i64 (me),.int .i64 (mi),.int .i64 (ml),.int .i64 (mc),.int .i64 (mr),.bool (rj),.int .i64 (hi),.slice a9 (es.length) c9,.int .i64 (ix),.int .i64 (te),.slice a1 (vo.length) c1,.slice a2 (le.length) c2,.slice a3 (da.length) c3],.agg #[.int .i64 (mk2),.int .i64 (mf2),.int .i64 (mt2),.int .i64 (me2),.int .i64 (mi2),.int .i64 (ml2),.int .i64 (mc2),.int .i64 (mr2),.bool (rj2),.int .i64 (hi2),.slice a92 (es2.length) c92,.int .i64 (ix2),.int .i64 (te2),.slice a12 (vo2.length) c12,.slice a22 (le2.length) c22,.slice a32 (da2.length) c32]] [.dat kEnt.sl (es) [.slice a9 (es.length) c9],.dat kInt.sl (vo) [.slice a1 (vo.length) c1],.dat kInt.sl (le) [.slice a2 (le.length) c2],.dat kByte.sl (da) [.slice a3 (da.length) c3],.dat kEnt.sl (es2) [.slice a92 (es2.length) c92],.dat kInt.sl (vo2) [.slice a12 (vo2.length) c12],.dat kInt.sl (le2) [.slice a22 (le2.length) c22],.dat kByte.sl (da2) [.slice a32 (da2.length) c32]] (β:=Unit) (fun y => .bool (decide ((⟨mk,mf,mt,me,mi,ml,mc,mr,rj,hi,es,⟨ix,te,⟨vo,le⟩,da⟩⟩ : Msg) = ⟨mk2,mf2,mt2,me2,mi2,ml2,mc2,mr2,rj2,hi2,es2,⟨ix2,te2,⟨vo2,le2⟩,da2⟩⟩))) (fun y => True) (fun y => []):=by
 refine Spec.enter (vs:=[_,_]) Tryz.func14 rfl Tryz.ntmps14 rfl (Nat.le_of_ble_eq_true rfl) (fun w0 ok0 => ?_)
 generalize hM0 : blks _ = M0
 have hMn:=@noM _ _ hM0 (by simp [Atom.dat,Atom.elem])
 refine H_len_le (i:=0) rfl ?_
 intro hlen0
 refine H_len_le (i:=1) rfl ?_
 intro hlen1
 refine H_len_le (i:=2) rfl ?_
 intro hlen2
 refine H_len_le (i:=4) rfl ?_
 intro hlen4
 refine H_len_le (i:=5) rfl ?_
 intro hlen5
 refine H_len_le (i:=6) rfl ?_
 intro hlen6
 refine SQ (RG rfl (BX [_,_,_,_,_,_,_,_,_,_,_,_,_,_,_,_] rfl ?_))
 intro g2
 refine BX [_,_,_,_,_,_,_,_,_,_,_,_,_,_,_,_] rfl ?_
 intro g3
 refine AS rfl (NI [3,2] [_,_] rfl (SQ (RG rfl (FA 0 rfl Tryz.underlying36 rfl Tryz.sizeOf3 (LD 1 0 rfl Tryz.isAgg3 (FA 0 rfl Tryz.underlying36 rfl Tryz.sizeOf3 (LD 0 0 rfl Tryz.isAgg3 (BN rfl bin_eql (MV rfl (HO_split (d:=10) rfl ?_ ?_))))))))))
 ·intro h10
  replace h10:=dT h10
  refine FA 1 rfl Tryz.underlying36 rfl Tryz.sizeOf3 (LD 1 1 rfl Tryz.isAgg3 (FA 1 rfl Tryz.underlying36 rfl Tryz.sizeOf3 (LD 0 1 rfl Tryz.isAgg3 (BN rfl bin_eql (PT rfl (MV rfl (HO_split (d:=17) rfl ?_ ?_)))))))
  ·intro h17
   replace h17:=dT h17
   refine FA 2 rfl Tryz.underlying36 rfl Tryz.sizeOf3 (LD 1 2 rfl Tryz.isAgg3 (FA 2 rfl Tryz.underlying36 rfl Tryz.sizeOf3 (LD 0 2 rfl Tryz.isAgg3 (BN rfl bin_eql (PT rfl (MV rfl (HO_split (d:=24) rfl ?_ ?_)))))))
   ·intro h24
    replace h24:=dT h24
    refine FA 3 rfl Tryz.underlying36 rfl Tryz.sizeOf3 (LD 1 3 rfl Tryz.isAgg3 (FA 3 rfl Tryz.underlying36 rfl Tryz.sizeOf3 (LD 0 3 rfl Tryz.isAgg3 (BN rfl bin_eql (PT rfl (MV rfl (HO_split (d:=31) rfl ?_ ?_)))))))
    ·intro h31
     replace h31:=dT h31
     refine FA 4 rfl Tryz.underlying36 rfl Tryz.sizeOf3 (LD 1 4 rfl Tryz.isAgg3 (FA 4 rfl Tryz.underlying36 rfl Tryz.sizeOf3 (LD 0 4 rfl Tryz.isAgg3 (BN rfl bin_eql (PT rfl (MV rfl (HO_split (d:=38) rfl ?_ ?_)))))))
     ·intro h38
      replace h38:=dT h38
      refine FA 5 rfl Tryz.underlying36 rfl Tryz.sizeOf3 (LD 1 5 rfl Tryz.isAgg3 (FA 5 rfl Tryz.underlying36 rfl Tryz.sizeOf3 (LD 0 5 rfl Tryz.isAgg3 (BN rfl bin_eql (PT rfl (MV rfl (HO_split (d:=45) rfl ?_ ?_)))))))
      ·intro h45
       replace h45:=dT h45
       refine FA 6 rfl Tryz.underlying36 rfl Tryz.sizeOf3 (LD 1 6 rfl Tryz.isAgg3 (FA 6 rfl Tryz.underlying36 rfl Tryz.sizeOf3 (LD 0 6 rfl Tryz.isAgg3 (BN rfl bin_eql (PT rfl (MV rfl (HO_split (d:=52) rfl ?_ ?_)))))))
       ·intro h52
        replace h52:=dT h52
        refine FA 7 rfl Tryz.underlying36 rfl Tryz.sizeOf3 (LD 1 7 rfl Tryz.isAgg3 (FA 7 rfl Tryz.underlying36 rfl Tryz.sizeOf3 (LD 0 7 rfl Tryz.isAgg3 (BN rfl bin_eql (PT rfl (MV rfl (HO_split (d:=59) rfl ?_ ?_)))))))
        ·intro h59
         replace h59:=dT h59
         refine FA 8 rfl Tryz.underlying36 rfl Tryz.sizeOf4 (LD 1 8 rfl Tryz.isAgg4 (FA 8 rfl Tryz.underlying36 rfl Tryz.sizeOf4 (LD 0 8 rfl Tryz.isAgg4 (BN rfl (bin_eqb Tryz.runUnderlying4) (PT rfl (MV rfl (HO_split (d:=66) rfl ?_ ?_)))))))
         ·intro h66
          (try simp only [decide_eq_true_eq,decide_eq_false_iff_not,Bool.not_eq_true',Bool.not_eq_false',Bool.not_eq_true,Bool.not_eq_false,Bool.true_eq_false,Bool.false_eq_true,not_false_eq_true,not_true_eq_false] at h66)
          refine FA 9 rfl Tryz.underlying36 rfl Tryz.sizeOf3 (LD 1 9 rfl Tryz.isAgg3 (FA 9 rfl Tryz.underlying36 rfl Tryz.sizeOf3 (LD 0 9 rfl Tryz.isAgg3 (BN rfl bin_eql (PT rfl (MV rfl (HO_split (d:=73) rfl ?_ ?_)))))))
          ·intro h73
           replace h73:=dT h73
           refine FA 10 rfl Tryz.underlying36 rfl Tryz.sizeOf28 (LD 1 10 rfl Tryz.isAgg28 (FA 10 rfl Tryz.underlying36 rfl Tryz.sizeOf28 (LD 0 10 rfl Tryz.isAgg28 (DU 2 rfl (DU 7 rfl (CB [0,0] [_,_,_,_,_,_,_,_,_,_] rfl Tryz.call34 (like_spec _ _ _ _ _ _) ?_))))))
           intro y78 hy78
           clear y78 hy78
           refine PT rfl (MV rfl (HO_split (d:=80) rfl ?_ ?_))
           ·intro h80
            replace h80:=dT h80
            refine FA 11 rfl Tryz.underlying36 rfl Tryz.sizeOf34 (LA 1 [_,_,_,_,_,_,_,_,_,_,_] [_,_,_,_,_] [] rfl (.loc _ _ _) Tryz.isAgg34 Tryz.sizeOf34 rfl (FA 11 rfl Tryz.underlying36 rfl Tryz.sizeOf34 (LA 0 [_,_,_,_,_,_,_,_,_,_,_] [_,_,_,_,_] [] rfl (.loc _ _ _) Tryz.isAgg34 Tryz.sizeOf34 rfl (DU 3 rfl (DU 5 rfl (DU 7 rfl (DU 10 rfl (DU 12 rfl (DU 14 rfl (CB [0,0,0,0,0,0] [_,_,_,_,_,_,_,_,_,_] rfl Tryz.call35 (rsamesnap_spec _ _ _ _ _ _ _ _ _ _ _ _ _ _ _ _ _ _ _ _ _ _) ?_))))))))))
            intro y85 hy85
            clear y85 hy85
            refine PT rfl (AS rfl (NI [4] [_] rfl (WD 0 [] rfl (R1 Tryz.results14 () rfl (fun w hA => ⟨?_,?_,?_⟩)))))
            ·(exact congrArg Value.bool (by first | (simp [*];done) | (simp_all;done) | (simp_all;intros;simp_all)))
            ·trivial
            ·exact hA.keep (m:=[]) (Y:=[]) rfl
           intro h80
           replace h80:=dF h80
           refine NO rfl (NO rfl (NO rfl (NO rfl (NO rfl (PF rfl (AS rfl (NI [4] [_] rfl (WD 0 [] rfl (R1 Tryz.results14 () rfl (fun w hA => ⟨?_,?_,?_⟩))))))))))
           ·(exact congrArg Value.bool (by first | (simp [*];done) | (simp_all;done) | (simp_all;intros;simp_all)))
           ·trivial
           ·exact hA.keep (m:=[]) (Y:=[]) rfl
          intro h73
          replace h73:=dF h73
          refine NO rfl (NO rfl (NO rfl (NO rfl (NO rfl (PF rfl (MV rfl (NO rfl (NO rfl (NO rfl (NO rfl (NO rfl (PF rfl (AS rfl ?_)))))))))))))
          refine NI [4] [_] rfl (WD 0 [] rfl (R1 Tryz.results14 () rfl (fun w hA => ⟨?_,?_,?_⟩)))
          ·(exact congrArg Value.bool (by first | (simp [*];done) | (simp_all;done) | (simp_all;intros;simp_all)))
          ·trivial
          ·exact hA.keep (m:=[]) (Y:=[]) rfl
         intro h66
         (try simp only [decide_eq_true_eq,decide_eq_false_iff_not,Bool.not_eq_true',Bool.not_eq_false',Bool.not_eq_true,Bool.not_eq_false,Bool.true_eq_false,Bool.false_eq_true,not_false_eq_true,not_true_eq_false] at h66)
         refine NO rfl (NO rfl (NO rfl (NO rfl (NO rfl (PF rfl (MV rfl (NO rfl (NO rfl (NO rfl (NO rfl (NO rfl (PF rfl (MV rfl ?_)))))))))))))
         refine NO rfl (NO rfl (NO rfl (NO rfl (NO rfl (PF rfl (AS rfl (NI [4] [_] rfl (WD 0 [] rfl (R1 Tryz.results14 () rfl (fun w hA => ⟨?_,?_,?_⟩))))))))))
         ·(exact congrArg Value.bool (by first | (simp [*];done) | (simp_all;done) | (simp_all;intros;simp_all)))
         ·trivial
         ·exact hA.keep (m:=[]) (Y:=[]) rfl
        intro h59
        replace h59:=dF h59
        refine NO rfl (NO rfl (NO rfl (NO rfl (NO rfl (PF rfl (MV rfl (NO rfl (NO rfl (NO rfl (NO rfl (NO rfl (PF rfl (MV rfl ?_)))))))))))))
        refine NO rfl (NO rfl (NO rfl (NO rfl (NO rfl (PF rfl (MV rfl (NO rfl (NO rfl (NO rfl (NO rfl (NO rfl (PF rfl (AS rfl ?_)))))))))))))
        refine NI [4] [_] rfl (WD 0 [] rfl (R1 Tryz.results14 () rfl (fun w hA => ⟨?_,?_,?_⟩)))
        ·(exact congrArg Value.bool (by first | (simp [*];done) | (simp_all;done) | (simp_all;intros;simp_all)))
        ·trivial
        ·exact hA.keep (m:=[]) (Y:=[]) rfl
       intro h52
       replace h52:=dF h52
       refine NO rfl (NO rfl (NO rfl (NO rfl (NO rfl (PF rfl (MV rfl (NO rfl (NO rfl (NO rfl (NO rfl (NO rfl (PF rfl (MV rfl ?_)))))))))))))
       refine NO rfl (NO rfl (NO rfl (NO rfl (NO rfl (PF rfl (MV rfl (NO rfl (NO rfl (NO rfl (NO rfl (NO rfl (PF rfl (MV rfl ?_)))))))))))))
       refine NO rfl (NO rfl (NO rfl (NO rfl (NO rfl (PF rfl (AS rfl (NI [4] [_] rfl (WD 0 [] rfl (R1 Tryz.results14 () rfl (fun w hA => ⟨?_,?_,?_⟩))))))))))
       ·(exact congrArg Value.bool (by first | (simp [*];done) | (simp_all;done) | (simp_all;intros;simp_all)))
       ·trivial
       ·exact hA.keep (m:=[]) (Y:=[]) rfl
      intro h45
      replace h45:=dF h45
      refine NO rfl (NO rfl (NO rfl (NO rfl (NO rfl (PF rfl (MV rfl (NO rfl (NO rfl (NO rfl (NO rfl (NO rfl (PF rfl (MV rfl ?_)))))))))))))
      refine NO rfl (NO rfl (NO rfl (NO rfl (NO rfl (PF rfl (MV rfl (NO rfl (NO rfl (NO rfl (NO rfl (NO rfl (PF rfl (MV rfl ?_)))))))))))))
      refine NO rfl (NO rfl (NO rfl (NO rfl (NO rfl (PF rfl (MV rfl (NO rfl (NO rfl (NO rfl (NO rfl (NO rfl (PF rfl (AS rfl ?_)))))))))))))
      refine NI [4] [_] rfl (WD 0 [] rfl (R1 Tryz.results14 () rfl (fun w hA => ⟨?_,?_,?_⟩)))
      ·(exact congrArg Value.bool (by first | (simp [*];done) | (simp_all;done) | (simp_all;intros;simp_all)))
      ·trivial
      ·exact hA.keep (m:=[]) (Y:=[]) rfl
     intro h38
     replace h38:=dF h38
     refine NO rfl (NO rfl (NO rfl (NO rfl (NO rfl (PF rfl (MV rfl (NO rfl (NO rfl (NO rfl (NO rfl (NO rfl (PF rfl (MV rfl ?_)))))))))))))
     refine NO rfl (NO rfl (NO rfl (NO rfl (NO rfl (PF rfl (MV rfl (NO rfl (NO rfl (NO rfl (NO rfl (NO rfl (PF rfl (MV rfl ?_)))))))))))))
     refine NO rfl (NO rfl (NO rfl (NO rfl (NO rfl (PF rfl (MV rfl (NO rfl (NO rfl (NO rfl (NO rfl (NO rfl (PF rfl (MV rfl ?_)))))))))))))
     refine NO rfl (NO rfl (NO rfl (NO rfl (NO rfl (PF rfl (AS rfl (NI [4] [_] rfl (WD 0 [] rfl (R1 Tryz.results14 () rfl (fun w hA => ⟨?_,?_,?_⟩))))))))))
     ·(exact congrArg Value.bool (by first | (simp [*];done) | (simp_all;done) | (simp_all;intros;simp_all)))
     ·trivial
     ·exact hA.keep (m:=[]) (Y:=[]) rfl
    intro h31
    replace h31:=dF h31
    refine NO rfl (NO rfl (NO rfl (NO rfl (NO rfl (PF rfl (MV rfl (NO rfl (NO rfl (NO rfl (NO rfl (NO rfl (PF rfl (MV rfl ?_)))))))))))))
    refine NO rfl (NO rfl (NO rfl (NO rfl (NO rfl (PF rfl (MV rfl (NO rfl (NO rfl (NO rfl (NO rfl (NO rfl (PF rfl (MV rfl ?_)))))))))))))
    refine NO rfl (NO rfl (NO rfl (NO rfl (NO rfl (PF rfl (MV rfl (NO rfl (NO rfl (NO rfl (NO rfl (NO rfl (PF rfl (MV rfl ?_)))))))))))))
    refine NO rfl (NO rfl (NO rfl (NO rfl (NO rfl (PF rfl (MV rfl (NO rfl (NO rfl (NO rfl (NO rfl (NO rfl (PF rfl (AS rfl ?_)))))))))))))
    refine NI [4] [_] rfl (WD 0 [] rfl (R1 Tryz.results14 () rfl (fun w hA => ⟨?_,?_,?_⟩)))
    ·(exact congrArg Value.bool (by first | (simp [*];done) | (simp_all;done) | (simp_all;intros;simp_all)))
    ·trivial
    ·exact hA.keep (m:=[]) (Y:=[]) rfl
   intro h24
   replace h24:=dF h24
   refine NO rfl (NO rfl (NO rfl (NO rfl (NO rfl (PF rfl (MV rfl (NO rfl (NO rfl (NO rfl (NO rfl (NO rfl (PF rfl (MV rfl ?_)))))))))))))
   refine NO rfl (NO rfl (NO rfl (NO rfl (NO rfl (PF rfl (MV rfl (NO rfl (NO rfl (NO rfl (NO rfl (NO rfl (PF rfl (MV rfl ?_)))))))))))))
   refine NO rfl (NO rfl (NO rfl (NO rfl (NO rfl (PF rfl (MV rfl (NO rfl (NO rfl (NO rfl (NO rfl (NO rfl (PF rfl (MV rfl ?_)))))))))))))
   refine NO rfl (NO rfl (NO rfl (NO rfl (NO rfl (PF rfl (MV rfl (NO rfl (NO rfl (NO rfl (NO rfl (NO rfl (PF rfl (MV rfl ?_)))))))))))))
   refine NO rfl (NO rfl (NO rfl (NO rfl (NO rfl (PF rfl (AS rfl (NI [4] [_] rfl (WD 0 [] rfl (R1 Tryz.results14 () rfl (fun w hA => ⟨?_,?_,?_⟩))))))))))
   ·(exact congrArg Value.bool (by first | (simp [*];done) | (simp_all;done) | (simp_all;intros;simp_all)))
   ·trivial
   ·exact hA.keep (m:=[]) (Y:=[]) rfl
  intro h17
  replace h17:=dF h17
  refine NO rfl (NO rfl (NO rfl (NO rfl (NO rfl (PF rfl (MV rfl (NO rfl (NO rfl (NO rfl (NO rfl (NO rfl (PF rfl (MV rfl ?_)))))))))))))
  refine NO rfl (NO rfl (NO rfl (NO rfl (NO rfl (PF rfl (MV rfl (NO rfl (NO rfl (NO rfl (NO rfl (NO rfl (PF rfl (MV rfl ?_)))))))))))))
  refine NO rfl (NO rfl (NO rfl (NO rfl (NO rfl (PF rfl (MV rfl (NO rfl (NO rfl (NO rfl (NO rfl (NO rfl (PF rfl (MV rfl ?_)))))))))))))
  refine NO rfl (NO rfl (NO rfl (NO rfl (NO rfl (PF rfl (MV rfl (NO rfl (NO rfl (NO rfl (NO rfl (NO rfl (PF rfl (MV rfl ?_)))))))))))))
  refine NO rfl (NO rfl (NO rfl (NO rfl (NO rfl (PF rfl (MV rfl (NO rfl (NO rfl (NO rfl (NO rfl (NO rfl (PF rfl (AS rfl ?_)))))))))))))
  refine NI [4] [_] rfl (WD 0 [] rfl (R1 Tryz.results14 () rfl (fun w hA => ⟨?_,?_,?_⟩)))
  ·(exact congrArg Value.bool (by first | (simp [*];done) | (simp_all;done) | (simp_all;intros;simp_all)))
  ·trivial
  ·exact hA.keep (m:=[]) (Y:=[]) rfl
 intro h10
 replace h10:=dF h10
 refine NO rfl (NO rfl (NO rfl (NO rfl (NO rfl (PF rfl (MV rfl (NO rfl (NO rfl (NO rfl (NO rfl (NO rfl (PF rfl (MV rfl ?_)))))))))))))
 refine NO rfl (NO rfl (NO rfl (NO rfl (NO rfl (PF rfl (MV rfl (NO rfl (NO rfl (NO rfl (NO rfl (NO rfl (PF rfl (MV rfl ?_)))))))))))))
 refine NO rfl (NO rfl (NO rfl (NO rfl (NO rfl (PF rfl (MV rfl (NO rfl (NO rfl (NO rfl (NO rfl (NO rfl (PF rfl (MV rfl ?_)))))))))))))
 refine NO rfl (NO rfl (NO rfl (NO rfl (NO rfl (PF rfl (MV rfl (NO rfl (NO rfl (NO rfl (NO rfl (NO rfl (PF rfl (MV rfl ?_)))))))))))))
 refine NO rfl (NO rfl (NO rfl (NO rfl (NO rfl (PF rfl (MV rfl (NO rfl (NO rfl (NO rfl (NO rfl (NO rfl (PF rfl (MV rfl ?_)))))))))))))
 refine NO rfl (NO rfl (NO rfl (NO rfl (NO rfl (PF rfl (AS rfl (NI [4] [_] rfl (WD 0 [] rfl (R1 Tryz.results14 () rfl (fun w hA => ⟨?_,?_,?_⟩))))))))))
 ·(exact congrArg Value.bool (by first | (simp [*];done) | (simp_all;done) | (simp_all;intros;simp_all)))
 ·trivial
 ·exact hA.keep (m:=[]) (Y:=[]) rfl
theorem listent_spec (b : List UInt8) (a0 : Option Addr) (c0 : Nat) (es : List Ent) (a9 : Option Addr) (c9 : Nat) (hb : b.length≤1000000) (hn : es.length≤400) (hws : Ent.wsum es≤400) (hsn : Ent.sanes es) : Spec Tryz.prog 53 #[.slice a0 (b.length) c0,.slice a9 (es.length) c9,.func (.func 54) #[] #[]] [.dat kByte.sl (b) [.slice a0 (b.length) c0],.dat kEnt.sl (es) [.slice a9 (es.length) c9]] (β:=Option Addr × Nat) (fun y => .slice y.1 ((b ++ (Cod.enc es.length ++ Ent.entsB es)).length) y.2) (fun y => True) (fun y => [.dat kByte.sl (b ++ (Cod.enc es.length ++ Ent.entsB es)) [.slice y.1 ((b ++ (Cod.enc es.length ++ Ent.entsB es)).length) y.2]]):=by
 have hle:=Cod.enc_le9 es.length
 refine Spec.enter (vs:=[_,_,_]) Tryz.func53 rfl Tryz.ntmps53 rfl (Nat.le_of_ble_eq_true rfl) (fun w0 ok0 => ?_)
 generalize hM0 : blks _ = M0
 have hMn:=@noM _ _ hM0 (by simp [Atom.dat,Atom.elem])
 refine H_len_le (i:=1) rfl ?_
 intro hlen1
 refine SQ (RG rfl (AS rfl (NI [0,1,2] [_,_,_] rfl (SQ (RG rfl (MV rfl (MV rfl (BI rfl (bi_len_sl Tryz.underlying28) (CV rfl (cv_int Tryz.underlying3 Tryz.underlying97 (wrap_u_i rfl _)) (HO_set (v':=.int .u64 ((es.length : Int))) 12 rfl (by exact congrArg (Value.int .u64) (by simp only [IntKind.bits];omega)) (DU 0 rfl (CB [0] [_,_] rfl Tryz.call86 (Put_spec _ _ _ _ ?_ ?_) ?_))))))))))))
 ·omega
 ·omega
 intro y13 hy13
 refine AS rfl (NI [0,1,2] [_,_,_] rfl (WD 5 [_,_] rfl (SQ (SQ (RG rfl (MV rfl (BI rfl (bi_len_sl Tryz.underlying28) (MV rfl (NI [16,15,14,0,2] [_,_,_,_,_] rfl (BO (H_freeze (i:=0) (R:=[_]) rfl hMn ?_)))))))))))
 refine H_loop (σ:=Nat × List UInt8 × Option Addr × Nat) (fun s => s.2.1 = b ++ Cod.enc es.length ++ Ent.entsB (es.take s.1)∧s.1≤es.length) (fun s => [(0,.slice s.2.2.1 (s.2.1.length) s.2.2.2),(2,.func (.func 54) #[] #[]),(14,.slice a9 (es.length) c9),(15,.int .i64 ((es.length : Int))),(16,.int .i64 ((s.1 : Int)))]) (fun s => Asn w0 ok0 M0 [.dat kByte.sl (s.2.1) [.slice s.2.2.1 (s.2.1.length) s.2.2.2],.dat kEnt.sl (es) [.slice a9 (es.length) c9]]) (fun s => es.length - s.1) ⟨0,b ++ Cod.enc es.length,y13.1,y13.2⟩ ?_ ?_ ?_ ?_
 ·exact ⟨by simp [Ent.entsB],Nat.zero_le _⟩
 ·exact ⟨rfl,rfl,rfl,rfl,rfl,trivial⟩
 ·intro w hA
  exact hA.only (is:=[0,1]) (Z:=[]) rfl
 ·rintro ⟨i,r,p,q⟩ hI
  (try dsimp only at hI ⊢)
  refine SQ (RG rfl (BN rfl bin_lss (HO_nil (SQ (H_cond rfl ?_ ?_)))))
  ·intro h17
   replace h17:=dT h17
   refine SK (SQ (BO (SQ (RG rfl (HO_indexAddr open_Ent (i:=1) rfl rfl rfl rfl rfl Tryz.underlying28 Tryz.sizeOf70 rfl ?_ ?_)))))
   ·omega
   intro b18 o18 z18 y18 hz18 hI18
   (try simp only [BIG] at hI18)
   refine LA 0 [] [_,_,_,_,_,_,_,_,_,_,_,_,_] [] rfl (.elem _ _ _) Tryz.isAgg70 Tryz.sizeOf70 rfl (AO [_,_,_,_,_,_,_,_,_,_,_,_,_] Tryz.zeroValue70 rfl ?_)
   intro g8
   refine SR 0 [] [_,_,_,_,_,_,_,_,_,_,_,_,_] [] [_,_,_,_,_,_,_,_,_,_,_,_,_] [_,_,_,_,_] [_,_,_,_,_,_,_,_,_,_,_,_,_] Tryz.sizeOf70 rfl (NI [8,0,2,14,15,16] [_,_,_,_,_,_] rfl (WD 61 [_,_,_,_,_] rfl ?_))
   have hsl : r.length≤2000000:=by rw [hI.1];have:=Ent.ents_take_len (i:=i) hws;simp only [List.length_append];omega
   have hwz:=Ent.weight_at hz18 hws
   have hsz:=hsn _ (List.mem_of_getElem? hz18)
   refine RG rfl (MV rfl (MV rfl (LA 0 [] [_,_,_,_,_,_,_,_,_,_,_,_,_] [] rfl (.loc _ _ _) Tryz.isAgg70 Tryz.sizeOf70 rfl (DU 3 rfl (DU 2 rfl (DU 4 rfl (CB [0,0,0] [_,_,_,_,_] rfl Tryz.call54 (putent_spec _ _ _ _ _ _ _ _ _ _ _ _ _ _ _ _ _ _ _ _ ?_ ?_ ?_ ?_ ?_) ?_)))))))
   ·omega
   ·(unfold Ent.weight at hwz;omega)
   ·(unfold Ent.weight at hwz;omega)
   ·(unfold Ent.weight at hwz;omega)
   ·exact ⟨hsz.1,hsz.2.1,hsz.2.2.1⟩
   intro y23 hy23
   refine AS rfl (NI [0,2,14,15,16] [_,_,_,_,_] rfl (WD 33 [_,_] rfl (BD (RG rfl (BN rfl (bin_add ?_ ?_) ?_)))))
   ·omega
   ·omega
   refine MV rfl (NI [16,0,2,14,15] [_,_,_,_,_] rfl (H_inv (fun a w hf hA => ⟨⟨i + 1,r ++ Ent.entB z18,y23.1,y23.2⟩,?_,?_,hf.sub ?_,?_⟩)))
   ·exact ⟨by rw [hI.1,Ent.ents_next hz18];simp,by omega⟩
   ·(try dsimp only);omega
   ·exact ⟨rfl,rfl,rfl,rfl,rfl,trivial⟩
   ·exact hA.only (is:=[0,1]) (Z:=[]) rfl
  intro h17
  replace h17:=dF h17
  refine H_exit rfl (SQ ?_)
  obtain rfl : i = es.length:=by omega
  have hfin : r = b ++ (Cod.enc es.length ++ Ent.entsB es):=by rw [hI.1,List.take_length];simp
  subst hfin
  refine RG rfl (MV rfl (AS rfl (NI [6] [_] rfl (WD 1 [_] rfl (R1 Tryz.results53 (p,q) rfl (fun w hA => ⟨?_,?_,?_⟩))))))
  ·rfl
  ·trivial
  ·exact hA.keep (m:=[yy]) (Y:=[_]) rfl
theorem msgbytes_spec (mk mf mt me mi ml mc mr : Int) (rj : Bool) (hi : Int) (es : List Ent) (a9 : Option Addr) (c9 : Nat) (ix te : Int) (vo le : List Int) (a1 : Option Addr) (c1 : Nat) (a2 : Option Addr) (c2 : Nat) (da : List UInt8) (a3 : Option Addr) (c3 : Nat) (hd : da.length≤100000) (hv : vo.length≤100000) (hl : le.length≤100000) (hn : es.length≤400) (hws : Ent.wsum es≤400) (hsn : Ent.sanes es) (hm : (-9223372036854775808≤mk∧mk≤9223372036854775807)∧(-9223372036854775808≤mf∧mf≤9223372036854775807)∧(-9223372036854775808≤mt∧mt≤9223372036854775807)∧(-9223372036854775808≤me∧me≤9223372036854775807)∧(-9223372036854775808≤mi∧mi≤9223372036854775807)∧(-9223372036854775808≤ml∧ml≤9223372036854775807)∧(-9223372036854775808≤mc∧mc≤9223372036854775807)∧(-9223372036854775808≤mr∧mr≤9223372036854775807)) (hhi : (-9223372036854775808≤hi∧hi≤9223372036854775807)) (hrs : (-9223372036854775808≤ix∧ix≤9223372036854775807)∧(-9223372036854775808≤te∧te≤9223372036854775807)) : Spec Tryz.prog 31 #[.agg #[.int .i64 (mk),.int .i64 (mf),.int .i64 (mt),.int .i64 (me),.int .i64 (mi),.int .i64 (ml),.int .i64 (mc),.int .i64 (mr),.bool (rj),.int .i64 (hi),.slice a9 (es.length) c9,.int .i64 (ix),.int .i64 (te),.slice a1 (vo.length) c1,.slice a2 (le.length) c2,.slice a3 (da.length) c3]] [.dat kEnt.sl (es) [.slice a9 (es.length) c9],.dat kInt.sl (vo) [.slice a1 (vo.length) c1],.dat kInt.sl (le) [.slice a2 (le.length) c2],.dat kByte.sl (da) [.slice a3 (da.length) c3]] (β:=Option Addr × Nat) (fun y => .slice y.1 ((Ent.msgB ⟨mk,mf,mt,me,mi,ml,mc,mr,rj,hi,es,⟨ix,te,⟨vo,le⟩,da⟩⟩).length) y.2) (fun y => True) (fun y => [.dat kByte.sl (Ent.msgB ⟨mk,mf,mt,me,mi,ml,mc,mr,rj,hi,es,⟨ix,te,⟨vo,le⟩,da⟩⟩) [.slice y.1 ((Ent.msgB ⟨mk,mf,mt,me,mi,ml,mc,mr,rj,hi,es,⟨ix,te,⟨vo,le⟩,da⟩⟩).length) y.2]]):=by
 have hn8:=Ent.nums_len [mk,mf,mt,me,mi,ml,mc,mr]
 have hn1:=Ent.nums_len [hi]
 simp only [List.length_cons,List.length_nil] at hn8 hn1
 refine Spec.enter (vs:=[_]) Tryz.func31 rfl Tryz.ntmps31 rfl (Nat.le_of_ble_eq_true rfl) (fun w0 ok0 => ?_)
 generalize hM0 : blks _ = M0
 have hMn:=@noM _ _ hM0 (by simp [Atom.dat,Atom.elem])
 refine H_len_le (i:=0) rfl ?_
 intro hlen0
 refine H_len_le (i:=1) rfl ?_
 intro hlen1
 refine H_len_le (i:=2) rfl ?_
 intro hlen2
 refine SQ (RG rfl (BX [_,_,_,_,_,_,_,_,_,_,_,_,_,_,_,_] rfl ?_))
 intro g1
 refine AS rfl (NI [1] [_] rfl (SQ (RG rfl (FA 0 rfl Tryz.underlying36 rfl Tryz.sizeOf3 (LD 0 0 rfl Tryz.isAgg3 (FA 1 rfl Tryz.underlying36 rfl Tryz.sizeOf3 (LD 0 1 rfl Tryz.isAgg3 (FA 2 rfl Tryz.underlying36 rfl Tryz.sizeOf3 (LD 0 2 rfl Tryz.isAgg3 (FA 3 rfl Tryz.underlying36 rfl Tryz.sizeOf3 (LD 0 3 rfl Tryz.isAgg3 (FA 4 rfl Tryz.underlying36 rfl Tryz.sizeOf3 ?_))))))))))))
 refine LD 0 4 rfl Tryz.isAgg3 (FA 5 rfl Tryz.underlying36 rfl Tryz.sizeOf3 (LD 0 5 rfl Tryz.isAgg3 (FA 6 rfl Tryz.underlying36 rfl Tryz.sizeOf3 (LD 0 6 rfl Tryz.isAgg3 (FA 7 rfl Tryz.underlying36 rfl Tryz.sizeOf3 (LD 0 7 rfl Tryz.isAgg3 (HO_buildSlice (kd:=kInt) (xo:=[_,_,_,_,_,_,_,_]) (vs:=[_,_,_,_,_,_,_,_]) (cs:=[_,_,_,_,_,_,_,_]) (xs:=[mk,mf,mt,me,mi,ml,mc,mr]) rfl rfl rfl rfl Tryz.underlying29 elt3 rfl rfl rfl (by decide) (by decide) (by simp [Value.cells]) rfl (by intro ok w _;exact ⟨_,_,rfl,⟨rfl,by first | omega | (constructor <;> omega)⟩,⟨_,_,rfl,⟨rfl,by first | omega | (constructor <;> omega)⟩,⟨_,_,rfl,⟨rfl,by first | omega | (constructor <;> omega)⟩,⟨_,_,rfl,⟨rfl,by first | omega | (constructor <;> omega)⟩,⟨_,_,rfl,⟨rfl,by first | omega | (constructor <;> omega)⟩,⟨_,_,rfl,⟨rfl,by first | omega | (constructor <;> omega)⟩,⟨_,_,rfl,⟨rfl,by first | omega | (constructor <;> omega)⟩,⟨_,_,rfl,⟨rfl,by first | omega | (constructor <;> omega)⟩,rfl⟩⟩⟩⟩⟩⟩⟩⟩) ?_)))))))
 intro g20
 refine HO_freeze (i:=0) (R:=[_,_,_,_,_]) rfl hMn (HO_nilDat kByte (DU 0 rfl (DU 2 rfl (CB [0,0] [_,_,_,_,_,_,_] rfl Tryz.call51 (nums_spec _ _ _ _ _ _ ?_ ?_) ?_))))
 ·(simp)
 ·(simp)
 intro y21 hy21
 refine AS rfl (NI [3,1] [_,_] rfl (WD 249 [_,_,_,_,_,_] rfl (SQ (H_drawB (m:=[yy,yy,yy,yy,yy,yy]) (Xs:=[_,_,_,_,_,_]) (fuel:=9) (l:=#[false,false,false,false,false,false,false,false,false]) mixed rfl rfl rfl (TA 0 rfl (by kernel_rfl) (V_move rfl) (TA 1 rfl (by kernel_rfl) (V_fieldAddr (r:=8) rfl Tryz.underlying36 rfl Tryz.sizeOf4 rfl) (TA 2 rfl (by kernel_rfl) (V_load1 (i:=1) (j:=8) rfl Tryz.isAgg4 rfl (.loc _ _ _) rfl rfl) (TA 4 rfl (by kernel_rfl) (V_fieldAddr (r:=9) rfl Tryz.underlying36 rfl Tryz.sizeOf3 rfl) (TA 5 rfl (by kernel_rfl) (V_load1 (i:=1) (j:=9) rfl Tryz.isAgg3 rfl (.loc _ _ _) rfl rfl) (HA_loud2 (i:=3) (j:=6) (by kernel_rfl) rfl rfl ?_ ?_))))))))))
 ·refine HO_dup (i:=0) rfl rfl ?_
  refine CB [0] [_,_,_,_,_,_] rfl Tryz.call52 (PutBool_spec _ _ _ _ ?_) ?_
  ·(simp only [List.length_append,List.length_cons,List.length_nil];omega)
  intro y25 hy25
  refine BK 126 [_,_,_,_,_,_] rfl (LO 6 (by kernel_rfl) rfl (HO_buildSlice (kd:=kInt) (xo:=[_]) (vs:=[_]) (cs:=[_]) (xs:=[hi]) rfl rfl rfl rfl Tryz.underlying29 elt3 rfl rfl rfl (by decide) (by decide) (by simp [Value.cells]) rfl (by intro ok w _;exact ⟨_,_,rfl,⟨rfl,by first | omega | (constructor <;> omega)⟩,rfl⟩) ?_))
  intro g28
  refine BK 252 [_,_,_,_,_,_] rfl (LO 7 (by kernel_rfl) rfl (HO_freeze (i:=1) (R:=[_,_,_,_,_,_,_]) rfl hMn (HO_freeze (i:=1) (R:=[_,_,_,_,_,_,_]) rfl hMn (DU 1 rfl (DU 1 rfl (CB [0,0] [_,_,_,_,_,_,_,_] rfl Tryz.call51 (nums_spec _ _ _ _ _ _ ?_ ?_) ?_))))))
  ·(simp only [List.length_append,List.length_cons,List.length_nil];omega)
  ·(simp)
  intro y29 hy29
  refine BK 504 [_,_,_,_,_,_] rfl (TK 8 504 [_,_,_,_,_,_] rfl (by kernel_rfl) (V_assign rfl) (HA_done (by kernel_rfl) (EV [3,1] [_,_] rfl (WD 497 [_,_,_,_,_,_] rfl (SQ (SQ (RG rfl (FA 0 rfl Tryz.underlying36 rfl Tryz.sizeOf3 (LD 1 0 rfl Tryz.isAgg3 (NI [31,3,1] [_,_,_] rfl (BO (SQ ?_))))))))))))
  refine RG rfl (BN rfl bin_eql (AS rfl (NI [32,31,3,1] [_,_,_,_] rfl (H_cond rfl ?_ ?_))))
  ·intro h32
   replace h32:=dT h32
   refine SQ (RG rfl (MV rfl (FA 10 rfl Tryz.underlying36 rfl Tryz.sizeOf28 (LD 1 10 rfl Tryz.isAgg28 (DU 0 rfl (DU 3 rfl (CB [0,0] [_,_,_,_,_,_] rfl Tryz.call53 (listent_spec _ _ _ _ _ _ ?_ ?_ ?_ ?_) ?_)))))))
   ·(simp only [List.length_append,List.length_cons,List.length_nil];omega)
   ·omega
   ·exact hws
   ·exact hsn
   intro y37 hy37
   refine AS rfl (NI [2] [_] rfl (WD 1 [_] rfl (R1 Tryz.results31 y37 rfl (fun w hA => ⟨?_,?_,?_⟩))))
   ·(simp [Ent.msgB, *])
   ·trivial
   ·exact (hA.keep (m:=[yy]) (Y:=[_]) rfl).cast (by simp [Ent.msgB, *])
  intro h32
  replace h32:=dF h32
  refine SQ (RG rfl (BN rfl bin_eql (AS rfl (NI [38,3,1] [_,_,_] rfl (H_cond rfl ?_ ?_)))))
  ·intro h38
   replace h38:=dT h38
   refine SQ (RG rfl (MV rfl (FA 11 rfl Tryz.underlying36 rfl Tryz.sizeOf34 (LA 1 [_,_,_,_,_,_,_,_,_,_,_] [_,_,_,_,_] [] rfl (.loc _ _ _) Tryz.isAgg34 Tryz.sizeOf34 rfl (DU 0 rfl (DU 4 rfl (DU 6 rfl (DU 8 rfl (CB [0,0,0,0] [_,_,_,_,_,_] rfl Tryz.call55 (putsnap_spec _ _ _ _ _ _ _ _ _ _ _ _ _ _ ?_ ?_ ?_ ?_ ?_) ?_)))))))))
   ·(simp only [List.length_append,List.length_cons,List.length_nil];omega)
   ·omega
   ·omega
   ·omega
   ·exact hrs
   intro y43 hy43
   refine AS rfl (NI [2] [_] rfl (WD 1 [_] rfl (R1 Tryz.results31 y43 rfl (fun w hA => ⟨?_,?_,?_⟩))))
   ·(simp [Ent.msgB, *])
   ·trivial
   ·exact (hA.keep (m:=[yy]) (Y:=[_]) rfl).cast (by simp [Ent.msgB, *])
  intro h38
  replace h38:=dF h38
  refine SK (BD (SQ (RG rfl (MV rfl (AS rfl (NI [2] [_] rfl (WD 1 [_] rfl (R1 Tryz.results31 y29 rfl (fun w hA => ⟨?_,?_,?_⟩)))))))))
  ·(simp [Ent.msgB, *])
  ·trivial
  ·exact (hA.keep (m:=[yy]) (Y:=[_]) rfl).cast (by simp [Ent.msgB, *])
 ·refine HO_buildSlice (kd:=kInt) (xo:=[_]) (vs:=[_]) (cs:=[_]) (xs:=[hi]) rfl rfl rfl rfl Tryz.underlying29 elt3 rfl rfl rfl (by decide) (by decide) (by simp [Value.cells]) rfl (by intro ok w _;exact ⟨_,_,rfl,⟨rfl,by first | omega | (constructor <;> omega)⟩,rfl⟩) ?_
  intro g28
  refine BK 126 [_,_,_,_,_,_] rfl (LO 3 (by kernel_rfl) rfl (DU 1 rfl (CB [0] [_,_,_,_,_,_,_] rfl Tryz.call52 (PutBool_spec _ _ _ _ ?_) ?_)))
  ·(simp only [List.length_append,List.length_cons,List.length_nil];omega)
  intro y25 hy25
  refine BK 252 [_,_,_,_,_,_] rfl (LO 7 (by kernel_rfl) rfl (HO_freeze (i:=0) (R:=[_,_,_,_,_,_,_]) rfl hMn (HO_freeze (i:=1) (R:=[_,_,_,_,_,_,_]) rfl hMn (DU 1 rfl (DU 1 rfl (CB [0,0] [_,_,_,_,_,_,_,_] rfl Tryz.call51 (nums_spec _ _ _ _ _ _ ?_ ?_) ?_))))))
  ·(simp only [List.length_append,List.length_cons,List.length_nil];omega)
  ·(simp)
  intro y29 hy29
  refine BK 504 [_,_,_,_,_,_] rfl (TK 8 504 [_,_,_,_,_,_] rfl (by kernel_rfl) (V_assign rfl) (HA_done (by kernel_rfl) (EV [3,1] [_,_] rfl (WD 497 [_,_,_,_,_,_] rfl (SQ (SQ (RG rfl (FA 0 rfl Tryz.underlying36 rfl Tryz.sizeOf3 (LD 1 0 rfl Tryz.isAgg3 (NI [31,3,1] [_,_,_] rfl (BO (SQ ?_))))))))))))
  refine RG rfl (BN rfl bin_eql (AS rfl (NI [32,31,3,1] [_,_,_,_] rfl (H_cond rfl ?_ ?_))))
  ·intro h32
   replace h32:=dT h32
   refine SQ (RG rfl (MV rfl (FA 10 rfl Tryz.underlying36 rfl Tryz.sizeOf28 (LD 1 10 rfl Tryz.isAgg28 (DU 0 rfl (DU 3 rfl (CB [0,0] [_,_,_,_,_,_] rfl Tryz.call53 (listent_spec _ _ _ _ _ _ ?_ ?_ ?_ ?_) ?_)))))))
   ·(simp only [List.length_append,List.length_cons,List.length_nil];omega)
   ·omega
   ·exact hws
   ·exact hsn
   intro y37 hy37
   refine AS rfl (NI [2] [_] rfl (WD 1 [_] rfl (R1 Tryz.results31 y37 rfl (fun w hA => ⟨?_,?_,?_⟩))))
   ·(simp [Ent.msgB, *])
   ·trivial
   ·exact (hA.keep (m:=[yy]) (Y:=[_]) rfl).cast (by simp [Ent.msgB, *])
  intro h32
  replace h32:=dF h32
  refine SQ (RG rfl (BN rfl bin_eql (AS rfl (NI [38,3,1] [_,_,_] rfl (H_cond rfl ?_ ?_)))))
  ·intro h38
   replace h38:=dT h38
   refine SQ (RG rfl (MV rfl (FA 11 rfl Tryz.underlying36 rfl Tryz.sizeOf34 (LA 1 [_,_,_,_,_,_,_,_,_,_,_] [_,_,_,_,_] [] rfl (.loc _ _ _) Tryz.isAgg34 Tryz.sizeOf34 rfl (DU 0 rfl (DU 4 rfl (DU 6 rfl (DU 8 rfl (CB [0,0,0,0] [_,_,_,_,_,_] rfl Tryz.call55 (putsnap_spec _ _ _ _ _ _ _ _ _ _ _ _ _ _ ?_ ?_ ?_ ?_ ?_) ?_)))))))))
   ·(simp only [List.length_append,List.length_cons,List.length_nil];omega)
   ·omega
   ·omega
   ·omega
   ·exact hrs
   intro y43 hy43
   refine AS rfl (NI [2] [_] rfl (WD 1 [_] rfl (R1 Tryz.results31 y43 rfl (fun w hA => ⟨?_,?_,?_⟩))))
   ·(simp [Ent.msgB, *])
   ·trivial
   ·exact (hA.keep (m:=[yy]) (Y:=[_]) rfl).cast (by simp [Ent.msgB, *])
  intro h38
  replace h38:=dF h38
  refine SK (BD (SQ (RG rfl (MV rfl (AS rfl (NI [2] [_] rfl (WD 1 [_] rfl (R1 Tryz.results31 y29 rfl (fun w hA => ⟨?_,?_,?_⟩)))))))))
  ·(simp [Ent.msgB, *])
  ·trivial
  ·exact (hA.keep (m:=[yy]) (Y:=[_]) rfl).cast (by simp [Ent.msgB, *])
end Go.Wk
