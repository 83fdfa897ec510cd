/- Contracts of the program's functions, each proved by walking its code. -/
import Derived.Test.YtdaphlemhmgncaaGreatKgnet2
set_option maxRecDepth 100000
set_option linter.unusedVariables false
set_option linter.unusedSimpArgs false
namespace Go.Wk.Fnet3
open Go Go.RowKit Go.Proofs Go.Wk
theorem bd36__  : ∀ w,(Instr.build 36 (List.toArray (List.zip [] []))).run Tryz.prog w = .ok (.agg #[.int .i64 (0),.int .i64 (0),.int .i64 (0),.int .i64 (0),.int .i64 (0),.int .i64 (0),.int .i64 (0),.int .i64 (0),.bool (false),.int .i64 (0),.slice none 0 0,.int .i64 (0),.int .i64 (0),.slice none 0 0,.slice none 0 0,.slice none 0 0]) w:=fun _ => by kernel_rfl
end Go.Wk.Fnet3
namespace Go.Wk
open Go Go.RowKit Go.Proofs Fnet3 
theorem look_spec (g : Nat) (ha : Option Addr) (hc : Nat) (hs : List Hd) (mo : Int) (xs : List UInt8) (a : Option Addr) (c : Nat) (i : Int) (h0 : 0 < mo) (hr : (Net.ix i hs.length) < hs.length→hs[(Net.ix i hs.length)]? = some ⟨a,xs.length,c⟩) (hx : xs.length≤100000) : Spec Tryz.prog 15 #[.pointer (some ⟨g,0,none⟩),.int .i64 (i)] [.loc g [.slice ha (hs.length) hc,.int .i64 (mo)] 65,.own 32 kHd ha hc (hs),.own 5 kByte a c (xs)] (β:=(Option Addr × Nat) × (Option Addr × Nat) × (Option Addr × Nat) × (Option Addr × Nat)) (fun y => .tuple #[.agg #[.int .i64 ((Net.look i hs.length xs).1.kind),.int .i64 ((Net.look i hs.length xs).1.frm),.int .i64 ((Net.look i hs.length xs).1.to),.int .i64 ((Net.look i hs.length xs).1.term),.int .i64 ((Net.look i hs.length xs).1.idx),.int .i64 ((Net.look i hs.length xs).1.lterm),.int .i64 ((Net.look i hs.length xs).1.commit),.int .i64 ((Net.look i hs.length xs).1.round),.bool ((Net.look i hs.length xs).1.rej),.int .i64 ((Net.look i hs.length xs).1.hint),.slice y.1.1 (((Net.look i hs.length xs).1.ents).length) y.1.2,.int .i64 ((Net.look i hs.length xs).1.snap.idx),.int .i64 ((Net.look i hs.length xs).1.snap.term),.slice y.2.1.1 (((Net.look i hs.length xs).1.snap.conf.vot).length) y.2.1.2,.slice y.2.2.1.1 (((Net.look i hs.length xs).1.snap.conf.lea).length) y.2.2.1.2,.slice y.2.2.2.1 (((Net.look i hs.length xs).1.snap.data).length) y.2.2.2.2],.int .i64 ((Net.look i hs.length xs).2)]) (fun y => True) (fun y => [.loc g [.slice ha (hs.length) hc,.int .i64 (mo)] 65,.own 32 kHd ha hc (hs),.own 5 kByte a c (xs),.dat kEnt.sl ((Net.look i hs.length xs).1.ents) [.slice y.1.1 (((Net.look i hs.length xs).1.ents).length) y.1.2],.dat kInt.sl ((Net.look i hs.length xs).1.snap.conf.vot) [.slice y.2.1.1 (((Net.look i hs.length xs).1.snap.conf.vot).length) y.2.1.2],.dat kInt.sl ((Net.look i hs.length xs).1.snap.conf.lea) [.slice y.2.2.1.1 (((Net.look i hs.length xs).1.snap.conf.lea).length) y.2.2.1.2],.dat kByte.sl ((Net.look i hs.length xs).1.snap.data) [.slice y.2.2.2.1 (((Net.look i hs.length xs).1.snap.data).length) y.2.2.2.2]]):=by
 refine Spec.enter (vs:=[_,_]) Tryz.func15 rfl Tryz.ntmps15 rfl (Nat.le_of_ble_eq_true rfl) (fun w0 ok0 => ?_)
 generalize hM0 : blks _ = M0
 refine SQ (RG rfl (AO [_,_,_,_,_,_,_,_,_,_,_,_,_,_,_,_] Tryz.zeroValue36 rfl ?_))
 intro g4
 refine AS rfl (NI [4,0,1] [_,_,_] rfl (SQ (SQ (RG rfl (MV rfl (MV rfl (CB [1] [_,_,_] rfl Tryz.call36 (may_spec _ _ _ _ _ _ ?_) ?_)))))))
 ·(first | omega | assumption | decide)
 intro y12 hy12
 clear y12 hy12
 refine AS rfl (NI [6,4,0,1] [_,_,_,_] rfl (SQ (RG rfl (MV rfl (BN rfl bin_neq (NI [14,6,4,0,1] [_,_,_,_,_] rfl (H_cond rfl ?_ ?_)))))))
 ·intro h14
  replace h14:=dT h14
  have hno : ¬ (Net.ix i hs.length) < hs.length:=fun h => h14 (Net.mayE_yes.2 h)
  refine SQ (RG rfl (HO_build (xo:=[]) (vs:=[]) rfl rfl rfl rfl (bd36__) (MV rfl (SR 1 [] [_,_,_,_,_,_,_,_,_,_,_,_,_,_,_,_] [] [_,_,_,_,_,_,_,_,_,_,_,_,_,_,_,_] [_,_,_] [_,_,_,_,_,_,_,_,_,_,_,_,_,_,_,_] Tryz.sizeOf36 rfl (AS rfl (NI [5,4] [_,_] rfl (H_nilDat kEnt (H_nilDat kInt (H_nilDat kInt (H_nilDat kByte (H_ret2 Tryz.results15 (.cell rfl (fun w hA => run_loadVarA (cs:=[_,_,_,_,_,_,_,_,_,_,_,_,_,_,_,_]) (Tryz.isAgg36 w) (Tryz.sizeOf36 w) (Tells.cells (.loc _ _ _) (hA.get (i:=4) rfl)))) (.tmp rfl) (fun w hA => ⟨((none,0),(none,0),(none,0),(none,0)),congrArg Ending.returned ?_,?_,?_⟩))))))))))))
  ·(rw [Net.look_no hno,Net.mayE_no hno];try exact rfl)
  ·trivial
  ·(rw [Net.look_no hno];exact hA.only (is:=[1,2,3,0,0,0,0]) (Z:=[_]) rfl)
 intro h14
 replace h14:=dF h14
 have hin:=Net.mayE_yes.1 (Decidable.not_not.1 h14)
 have hul:=Net.unf_len xs
 refine SK (SQ (RG rfl (MV rfl (NC rfl (FA 0 rfl Tryz.underlying65 rfl Tryz.sizeOf63 (FA 0 rfl Tryz.underlying63 rfl Tryz.sizeOf53 (LD 0 0 rfl Tryz.isAgg53 (MV rfl (HO_indexOwn (i:=2) (j:=(Net.ix i hs.length)) rfl rfl rfl rfl ?_ Tryz.underlying53 Tryz.sizeOf32 rfl (by first | rfl | (simp;done) | (simp;omega)) ?_ (Nat.mul_one _) ?_)))))))))
 ·exact Net.ix_eq hin
 ·exact hin
 intro g24 z24 hg24 hz24
 have he24 : z24 = ⟨a,xs.length,c⟩:=Option.some.inj (hz24.symm.trans (hr hin))
 refine HO_loadOwn (i:=2) (v:=.slice z24.a (z24.n) z24.c) rfl rfl rfl Tryz.isAgg32 rfl hg24 (Nat.mul_one _) hz24 (fun _ _ _ h => h.1) (HO_set (v':=.slice a (xs.length) c) 25 rfl (by rw [he24]) (CB [3] [_,_,_] rfl Tryz.call37 (Spec.lend (pre1:=[]) (pre2:=[]) (Unframe_spec _ _ _ ?_) rfl (by intro y at' ha;obtain rfl:=List.mem_singleton.1 ha;first | exact Atom.Flat.own kByte_plain _ _ _ _ | exact Atom.Flat.own kInt_plain _ _ _ _ | exact Atom.Flat.own kStr_plain _ _ _ _ | exact Atom.Flat.loc _ _ _)) ?_))
 ·(first | omega | assumption | decide)
 intro y26 hy26
 refine MV rfl (EX [_,_,_] rfl (EX [_,_,_] rfl (EX [_,_,_] rfl (AS rfl (AS rfl (AS rfl (NI [9,8,7,4,0,1] [_,_,_,_,_,_] rfl (SQ (SQ (RG rfl (MV rfl (BN rfl bin_neq ?_))))))))))))
 refine MV rfl (HO_split (d:=32) rfl ?_ ?_)
 ·intro h32
  replace h32:=dT h32
  iterate 11 refine HO_no rfl rfl rfl ?_
  refine PT rfl (NI [44,7,4] [_,_,_] rfl (CT rfl (SQ (RG rfl (HO_build (xo:=[]) (vs:=[]) rfl rfl rfl rfl (bd36__) (SR 3 [] [_,_,_,_,_,_,_,_,_,_,_,_,_,_,_,_] [] [_,_,_,_,_,_,_,_,_,_,_,_,_,_,_,_] [_,_,_,_] [_,_,_,_,_,_,_,_,_,_,_,_,_,_,_,_] Tryz.sizeOf36 rfl (AS rfl (NI [5,4] [_,_] rfl (WD 27 [_,_,_,_] rfl (H_nilDat kEnt (H_nilDat kInt ?_)))))))))))
  refine H_nilDat kInt (H_nilDat kByte (H_ret2 Tryz.results15 (.cell rfl (fun w hA => run_loadVarA (cs:=[_,_,_,_,_,_,_,_,_,_,_,_,_,_,_,_]) (Tryz.isAgg36 w) (Tryz.sizeOf36 w) (Tells.cells (.loc _ _ _) (hA.get (i:=4) rfl)))) (.tmp rfl) (fun w hA => ⟨((none,0),(none,0),(none,0),(none,0)),congrArg Ending.returned ?_,?_,?_⟩)))
  ·(rw [Net.look_bad hin (fun h => h32 (by rw [h.1];rfl))];try exact rfl)
  ·trivial
  ·(rw [Net.look_bad hin (fun h => h32 (by rw [h.1];rfl))];exact hA.only (is:=[1,2,1,0,0,0,0]) (Z:=[_]) rfl)
 intro h32
 replace h32:=dF h32
 refine MV rfl (MV rfl (NC rfl (FA 0 rfl Tryz.underlying65 rfl Tryz.sizeOf63 (FA 0 rfl Tryz.underlying63 rfl Tryz.sizeOf53 (LD 2 0 rfl Tryz.isAgg53 (MV rfl (HO_indexOwn (i:=4) (j:=(Net.ix i hs.length)) rfl rfl rfl rfl ?_ Tryz.underlying53 Tryz.sizeOf32 rfl (by first | rfl | (simp;done) | (simp;omega)) ?_ (Nat.mul_one _) ?_)))))))
 ·exact Net.ix_eq hin
 ·exact hin
 intro g40 z40 hg40 hz40
 have he40 : z40 = ⟨a,xs.length,c⟩:=Option.some.inj (hz40.symm.trans (hr hin))
 refine HO_loadOwn (i:=4) (v:=.slice z40.a (z40.n) z40.c) rfl rfl rfl Tryz.isAgg32 rfl hg40 (Nat.mul_one _) hz40 (fun _ _ _ h => h.1) (HO_set (v':=.slice a (xs.length) c) 41 rfl (by rw [he40]) (BI rfl (bi_len_sl Tryz.underlying32) (BN rfl bin_neq (PF rfl (NI [44,7,4] [_,_,_] rfl (H_cond rfl ?_ ?_))))))
 ·intro h44
  replace h44:=dT h44
  refine SQ (RG rfl (HO_build (xo:=[]) (vs:=[]) rfl rfl rfl rfl (bd36__) (SR 3 [] [_,_,_,_,_,_,_,_,_,_,_,_,_,_,_,_] [] [_,_,_,_,_,_,_,_,_,_,_,_,_,_,_,_] [_,_,_,_] [_,_,_,_,_,_,_,_,_,_,_,_,_,_,_,_] Tryz.sizeOf36 rfl (AS rfl (NI [5,4] [_,_] rfl (WD 27 [_,_,_,_] rfl (H_nilDat kEnt (H_nilDat kInt (H_nilDat kInt (H_nilDat kByte (H_ret2 Tryz.results15 (.cell rfl (fun w hA => run_loadVarA (cs:=[_,_,_,_,_,_,_,_,_,_,_,_,_,_,_,_]) (Tryz.isAgg36 w) (Tryz.sizeOf36 w) (Tells.cells (.loc _ _ _) (hA.get (i:=4) rfl)))) (.tmp rfl) (fun w hA => ⟨((none,0),(none,0),(none,0),(none,0)),congrArg Ending.returned ?_,?_,?_⟩))))))))))))
  ·(rw [Net.look_bad hin (fun h => h44 (by rw [h.2]))];try exact rfl)
  ·trivial
  ·(rw [Net.look_bad hin (fun h => h44 (by rw [h.2]))];exact hA.only (is:=[1,2,1,0,0,0,0]) (Z:=[_]) rfl)
 intro h44
 replace h44:=dF h44
 refine SK (SQ (RG rfl (MV rfl (HO_freeze (i:=1) (R:=[_,_,_,_]) rfl (keepM hM0 ⟨(fun _ h => ⟨_,List.mem_of_getElem? (i:=1) rfl,h⟩),(fun _ h => ⟨_,List.mem_of_getElem? (i:=3) rfl,h⟩),(fun _ h => ⟨_,List.mem_of_getElem? (i:=0) rfl,h⟩),trivial⟩) (DU 0 rfl (CB [0] [_,_,_,_,_] rfl Tryz.call38 (readmsg_spec _ _ _ ?_) ?_))))))
 ·(first | omega | assumption | decide)
 intro y47 hy47
 refine EX [_,_] rfl (EX [_,_] rfl (SR 7 [] [_,_,_,_,_,_,_,_,_,_,_,_,_,_,_,_] [] [_,_,_,_,_,_,_,_,_,_,_,_,_,_,_,_] [_,_,_,_,_,_,_,_] [_,_,_,_,_,_,_,_,_,_,_,_,_,_,_,_] Tryz.sizeOf36 rfl (AS rfl (NI [5,4] [_,_] rfl (WD 479 [_,_,_,_,_,_,_,_] rfl (H_ret2 Tryz.results15 (.cell rfl (fun w hA => run_loadVarA (cs:=[_,_,_,_,_,_,_,_,_,_,_,_,_,_,_,_]) (Tryz.isAgg36 w) (Tryz.sizeOf36 w) (Tells.cells (.loc _ _ _) (hA.get (i:=0) rfl)))) (.tmp rfl) (fun w hA => ⟨y47,congrArg Ending.returned ?_,?_,?_⟩)))))))
 ·(rw [Net.look_ok hin ⟨by omega,by omega⟩];try exact rfl)
 ·trivial
 ·(rw [Net.look_ok hin ⟨by omega,by omega⟩];exact hA.only (is:=[1,2,1,1,2,3,4]) (Z:=[_]) rfl)
theorem drop_spec (g : Nat) (ha : Option Addr) (hc : Nat) (hs : List Hd) (mo : Int) (i : Int) (h0 : 0 < mo) (hhs : hs.length≤1000) : Spec Tryz.prog 17 #[.pointer (some ⟨g,0,none⟩),.int .i64 (i)] [.loc g [.slice ha (hs.length) hc,.int .i64 (mo)] 65,.own 32 kHd ha hc (hs)] (β:=Option Addr × Nat) (fun y => .int .i64 (Net.mayE i hs.length)) (fun y => True) (fun y => [.loc g [.slice y.1 (((hs.eraseIdx (Net.ix i hs.length))).length) y.2,.int .i64 (mo)] 65,.own 32 kHd y.1 y.2 ((hs.eraseIdx (Net.ix i hs.length)))]):=by
 refine Spec.enter (vs:=[_,_]) Tryz.func17 rfl Tryz.ntmps17 rfl (Nat.le_of_ble_eq_true rfl) (fun w0 ok0 => ?_)
 generalize hM0 : blks _ = M0
 refine SQ (RG rfl (AS rfl (NI [0,1] [_,_] rfl (SQ (RG rfl (MV rfl (MV rfl (CB [0] [_] rfl Tryz.call36 (may_spec _ _ _ _ _ _ ?_) ?_))))))))
 ·(first | omega | assumption | decide)
 intro y8 hy8
 clear y8 hy8
 refine AS rfl (NI [5,0,1] [_,_,_] rfl (SQ (SQ (RG rfl (MV rfl (BN rfl bin_eql (NI [10,5,0,1] [_,_,_,_] rfl (H_cond rfl ?_ ?_))))))))
 ·intro h10
  replace h10:=dT h10
  have hin:=Net.mayE_yes.1 h10
  obtain ⟨k,rfl⟩ : ∃ q : Nat,i = q:=⟨_,Net.ix_eq hin⟩
  have hk:=hin
  rw [Net.ix_nat] at hk
  refine RG rfl (MV rfl (MV rfl (NC rfl (FA 0 rfl Tryz.underlying65 rfl Tryz.sizeOf63 (FA 0 rfl Tryz.underlying63 rfl Tryz.sizeOf53 (LD 0 0 rfl Tryz.isAgg53 (MV rfl (MV rfl (BN rfl (bin_add ?_ ?_) ?_)))))))))
  ·omega
  ·omega
  refine CB [1] [_] rfl Tryz.call41 (deletehd_spec _ _ _ _ ?_ ?_) ?_
  ·exact hk
  ·omega
  intro y20 hy20
  refine NC rfl (FA 0 rfl Tryz.underlying65 rfl Tryz.sizeOf63 (FA 0 rfl Tryz.underlying63 rfl Tryz.sizeOf53 (SR 1 [] [_] [_] [_] [_] [_,_] Tryz.sizeOf53 rfl (NI [5] [_] rfl (SQ (RG rfl (MV rfl (AS rfl (NI [4] [_] rfl (R1 Tryz.results17 y20 rfl (fun w hA => ⟨?_,?_,?_⟩)))))))))))
  ·rfl
  ·trivial
  ·(rw [Net.ix_nat,eraseIdx_take_drop];exact hA.keep (m:=[yy,yy]) (Y:=[_,_]) rfl)
 intro h10
 replace h10:=dF h10
 have hno : ¬ (Net.ix i hs.length) < hs.length:=fun h => h10 (Net.mayE_yes.2 h)
 refine SK (SQ (RG rfl (MV rfl (AS rfl (NI [4] [_] rfl (R1 Tryz.results17 (ha,hc) rfl (fun w hA => ⟨?_,?_,?_⟩)))))))
 ·rfl
 ·trivial
 ·(rw [List.eraseIdx_of_length_le (Net.ix_ge hno)];exact hA.keep (m:=[yy,yy]) (Y:=[_,_]) rfl)
theorem take_spec (g : Nat) (ha : Option Addr) (hc : Nat) (hs : List Hd) (mo : Int) (xs : List UInt8) (a : Option Addr) (c : Nat) (i : Int) (h0 : 0 < mo) (hhs : hs.length≤1000) (hr : (Net.ix i hs.length) < hs.length→hs[(Net.ix i hs.length)]? = some ⟨a,xs.length,c⟩) (hx : xs.length≤100000) : Spec Tryz.prog 12 #[.pointer (some ⟨g,0,none⟩),.int .i64 (i)] [.loc g [.slice ha (hs.length) hc,.int .i64 (mo)] 65,.own 32 kHd ha hc (hs),.own 5 kByte a c (xs)] (β:=(Option Addr × Nat) × (Option Addr × Nat) × (Option Addr × Nat) × (Option Addr × Nat) × (Option Addr × Nat)) (fun y => .tuple #[.agg #[.int .i64 ((Net.look i hs.length xs).1.kind),.int .i64 ((Net.look i hs.length xs).1.frm),.int .i64 ((Net.look i hs.length xs).1.to),.int .i64 ((Net.look i hs.length xs).1.term),.int .i64 ((Net.look i hs.length xs).1.idx),.int .i64 ((Net.look i hs.length xs).1.lterm),.int .i64 ((Net.look i hs.length xs).1.commit),.int .i64 ((Net.look i hs.length xs).1.round),.bool ((Net.look i hs.length xs).1.rej),.int .i64 ((Net.look i hs.length xs).1.hint),.slice y.2.1.1 (((Net.look i hs.length xs).1.ents).length) y.2.1.2,.int .i64 ((Net.look i hs.length xs).1.snap.idx),.int .i64 ((Net.look i hs.length xs).1.snap.term),.slice y.2.2.1.1 (((Net.look i hs.length xs).1.snap.conf.vot).length) y.2.2.1.2,.slice y.2.2.2.1.1 (((Net.look i hs.length xs).1.snap.conf.lea).length) y.2.2.2.1.2,.slice y.2.2.2.2.1 (((Net.look i hs.length xs).1.snap.data).length) y.2.2.2.2.2],.int .i64 ((Net.look i hs.length xs).2)]) (fun y => True) (fun y => [.loc g [.slice y.1.1 (((hs.eraseIdx (Net.ix i hs.length))).length) y.1.2,.int .i64 (mo)] 65,.own 32 kHd y.1.1 y.1.2 ((hs.eraseIdx (Net.ix i hs.length))),.own 5 kByte a c (xs),.dat kEnt.sl ((Net.look i hs.length xs).1.ents) [.slice y.2.1.1 (((Net.look i hs.length xs).1.ents).length) y.2.1.2],.dat kInt.sl ((Net.look i hs.length xs).1.snap.conf.vot) [.slice y.2.2.1.1 (((Net.look i hs.length xs).1.snap.conf.vot).length) y.2.2.1.2],.dat kInt.sl ((Net.look i hs.length xs).1.snap.conf.lea) [.slice y.2.2.2.1.1 (((Net.look i hs.length xs).1.snap.conf.lea).length) y.2.2.2.1.2],.dat kByte.sl ((Net.look i hs.length xs).1.snap.data) [.slice y.2.2.2.2.1 (((Net.look i hs.length xs).1.snap.data).length) y.2.2.2.2.2]]):=by
 refine Spec.enter (vs:=[_,_]) Tryz.func12 rfl Tryz.ntmps12 rfl (Nat.le_of_ble_eq_true rfl) (fun w0 ok0 => ?_)
 generalize hM0 : blks _ = M0
 refine SQ (RG rfl (AO [_,_,_,_,_,_,_,_,_,_,_,_,_,_,_,_] Tryz.zeroValue36 rfl ?_))
 intro g4
 refine AS rfl (NI [4,0,1] [_,_,_] rfl (SQ (RG rfl (MV rfl (MV rfl (CB [1,2,3] [_] rfl Tryz.call15 (look_spec _ _ _ _ _ _ _ _ _ ?_ ?_ ?_) ?_))))))
 ·(first | omega | assumption | decide)
 ·(first | omega | assumption | decide)
 ·(first | omega | assumption | decide)
 intro y11 hy11
 refine MV rfl (EX [_,_] rfl (EX [_,_] rfl (AO [_,_,_,_,_,_,_,_,_,_,_,_,_,_,_,_] Tryz.zeroValue36 rfl ?_)))
 intro g6
 refine SR 0 [] [_,_,_,_,_,_,_,_,_,_,_,_,_,_,_,_] [] [_,_,_,_,_,_,_,_,_,_,_,_,_,_,_,_] [_,_,_,_,_,_,_,_] [_,_,_,_,_,_,_,_,_,_,_,_,_,_,_,_] Tryz.sizeOf36 rfl (AS rfl (NI [7,6,4,0,1] [_,_,_,_,_] rfl (SQ (RG rfl (MV rfl (MV rfl (CB [1,2] [_,_,_,_,_,_,_] rfl Tryz.call17 (drop_spec _ _ _ _ _ _ ?_ ?_) ?_)))))))
 ·(first | omega | assumption | decide)
 ·(first | omega | assumption | decide)
 intro y16 hy16
 refine NI [7,6,4] [_,_,_] rfl (SQ (RG rfl (LA 2 [] [_,_,_,_,_,_,_,_,_,_,_,_,_,_,_,_] [] rfl (.loc _ _ _) Tryz.isAgg36 Tryz.sizeOf36 rfl (MV rfl (SR 8 [] [_,_,_,_,_,_,_,_,_,_,_,_,_,_,_,_] [] [_,_,_,_,_,_,_,_,_,_,_,_,_,_,_,_] [_,_,_,_,_,_,_,_] [_,_,_,_,_,_,_,_,_,_,_,_,_,_,_,_] Tryz.sizeOf36 rfl (AS rfl (NI [5,4] [_,_] rfl (WD 503 [_,_,_,_,_,_,_,_] rfl (H_ret2 Tryz.results12 (.cell rfl (fun w hA => run_loadVarA (cs:=[_,_,_,_,_,_,_,_,_,_,_,_,_,_,_,_]) (Tryz.isAgg36 w) (Tryz.sizeOf36 w) (Tells.cells (.loc _ _ _) (hA.get (i:=0) rfl)))) (.tmp rfl) (fun w hA => ⟨(y16,y11),congrArg Ending.returned ?_,?_,?_⟩))))))))))
 ·rfl
 ·trivial
 ·exact hA.keep (m:=[nn,yy,yy,yy,yy,yy,yy,yy]) (Y:=[_,_,_,_,_,_,_]) rfl
theorem double_spec (g : Nat) (ha : Option Addr) (hc : Nat) (hs : List Hd) (mo : Int) (xs : List UInt8) (a : Option Addr) (c : Nat) (i : Int) (h0 : 0 < mo) (hhs : hs.length≤1000) (hr : (Net.ix i hs.length) < hs.length→hs[(Net.ix i hs.length)]? = some ⟨a,xs.length,c⟩) (hx : xs.length≤100000) : Spec Tryz.prog 19 #[.pointer (some ⟨g,0,none⟩),.int .i64 (i)] [.loc g [.slice ha (hs.length) hc,.int .i64 (mo)] 65,.own 32 kHd ha hc (hs),.own 5 kByte a c (xs)] (β:=(Option Addr × Nat) × (Option Addr × Nat)) (fun y => .int .i64 (Net.dblE mo hs.length i)) (fun y => True) (fun y => [.loc g [.slice y.1.1 (((Net.dblH mo hs i xs y.2.1 y.2.2)).length) y.1.2,.int .i64 (mo)] 65,.own 32 kHd y.1.1 y.1.2 ((Net.dblH mo hs i xs y.2.1 y.2.2)),.own 5 kByte a c (xs),.own 5 kByte y.2.1 y.2.2 ((Net.dblB mo hs.length i xs))]):=by
 refine Spec.enter (vs:=[_,_]) Tryz.func19 rfl Tryz.ntmps19 rfl (Nat.le_of_ble_eq_true rfl) (fun w0 ok0 => ?_)
 generalize hM0 : blks _ = M0
 refine SQ (RG rfl (AS rfl (NI [0,1] [_,_] rfl (SQ (SQ (RG rfl (MV rfl (MV rfl (CB [0] [_,_] rfl Tryz.call36 (may_spec _ _ _ _ _ _ ?_) ?_)))))))))
 ·(first | omega | assumption | decide)
 intro y8 hy8
 clear y8 hy8
 refine AS rfl (NI [5,0,1] [_,_,_] rfl (SQ (RG rfl (MV rfl (BN rfl bin_neq (NI [10,5,0,1] [_,_,_,_] rfl (H_cond rfl ?_ ?_)))))))
 ·intro h10
  replace h10:=dT h10
  have hno : ¬ (Net.ix i hs.length) < hs.length:=fun h => h10 (Net.mayE_yes.2 h)
  have hnd : ¬ Net.dblP mo hs.length i:=fun h => hno h.1
  refine SQ (RG rfl (MV rfl (AS rfl (NI [4] [_] rfl (H_own0 kByte 5 none (R1 Tryz.results19 ((ha,hc),(none,0)) rfl (fun w hA => ⟨?_,?_,?_⟩)))))))
  ·(rw [Net.mayE_no hno];exact congrArg (Value.int .i64) (by unfold Net.dblE;rw [if_neg hno]))
  ·trivial
  ·(rw [Net.dblH_no hnd,Net.dblB_no hnd];exact hA.only (is:=[0,1,2,0]) (Z:=[]) rfl)
 intro h10
 replace h10:=dF h10
 have hin:=Net.mayE_yes.1 (Decidable.not_not.1 h10)
 refine SK (SQ (SQ (RG rfl (MV rfl (NC rfl (FA 0 rfl Tryz.underlying65 rfl Tryz.sizeOf63 (CB [0] [_,_] rfl Tryz.call28 (full_spec _ _ _ _ _) ?_)))))))
 intro y15 hy15
 clear y15 hy15
 refine NI [15,0,1] [_,_,_] rfl (H_cond rfl ?_ ?_)
 ·intro h15
  replace h15:=dT h15
  have hnd : ¬ Net.dblP mo hs.length i:=fun h => absurd h.2 (by omega)
  refine SQ (RG rfl (AS rfl (NI [4] [_] rfl (H_own0 kByte 5 none (R1 Tryz.results19 ((ha,hc),(none,0)) rfl (fun w hA => ⟨?_,?_,?_⟩))))))
  ·(exact congrArg (Value.int .i64) (by unfold Net.dblE;rw [if_pos hin,if_neg (by omega)]))
  ·trivial
  ·(rw [Net.dblH_no hnd,Net.dblB_no hnd];exact hA.only (is:=[0,1,2,0]) (Z:=[]) rfl)
 intro h15
 replace h15:=dF h15
 have hyd : Net.dblP mo hs.length i:=⟨hin,by omega⟩
 refine SK (SQ (H_drawB (m:=[nn,nn,yy]) (Xs:=[_]) (fuel:=13) (l:=#[false,false,false,false,false,false,false,false,false,false,false,false,false]) mixed rfl rfl rfl (TK 0 4 [_] rfl (by kernel_rfl) (V_move rfl) (TK 1 4 [_] rfl (by kernel_rfl) (V_nilCheck rfl) (TK 2 4 [_] rfl (by kernel_rfl) (V_fieldAddr (r:=0) rfl Tryz.underlying65 rfl Tryz.sizeOf63 rfl) (TK 3 4 [_] rfl (by kernel_rfl) (V_move rfl) (TK 4 4 [_] rfl (by kernel_rfl) (V_nilCheck rfl) (TK 5 4 [_] rfl (by kernel_rfl) (V_fieldAddr (r:=0) rfl Tryz.underlying65 rfl Tryz.sizeOf63 rfl) (TK 6 4 [_] rfl (by kernel_rfl) (V_fieldAddr (r:=0) rfl Tryz.underlying63 rfl Tryz.sizeOf53 rfl) (TK 8 4 [_] rfl (by kernel_rfl) (V_move rfl) (LO 7 (by kernel_rfl) rfl (LD 0 0 rfl Tryz.isAgg53 (BK 4 [_] rfl ?_)))))))))))))
 refine LO 9 (by kernel_rfl) rfl (HO_indexOwn (i:=1) (j:=(Net.ix i hs.length)) rfl rfl rfl rfl ?_ Tryz.underlying53 Tryz.sizeOf32 rfl (by first | rfl | (simp;done) | (simp;omega)) ?_ (Nat.mul_one _) ?_)
 ·exact Net.ix_eq hin
 ·exact hin
 intro g25 z25 hg25 hz25
 refine BK 4 [_] rfl (LO 10 (by kernel_rfl) rfl ?_)
 have he25 : z25 = ⟨a,xs.length,c⟩:=Option.some.inj (hz25.symm.trans (hr hin))
 refine HO_loadOwn (i:=1) (v:=.slice z25.a (z25.n) z25.c) rfl rfl rfl Tryz.isAgg32 rfl hg25 (Nat.mul_one _) hz25 (fun _ _ _ h => h.1) (HO_set (v':=.slice a (xs.length) c) 26 rfl (by rw [he25]) (BK 4 [_] rfl (LO 11 (by kernel_rfl) rfl (CB [2] [_,_] rfl Tryz.call42 (Spec.lend (pre1:=[]) (pre2:=[]) (clonebytes_spec _ _ _ ?_) rfl (by intro y at' ha;obtain rfl:=List.mem_singleton.1 ha;first | exact Atom.Flat.own kByte_plain _ _ _ _ | exact Atom.Flat.own kInt_plain _ _ _ _ | exact Atom.Flat.own kStr_plain _ _ _ _ | exact Atom.Flat.loc _ _ _)) ?_))))
 ·omega
 intro y27 hy27
 refine BK 1 [_] rfl (LO 12 (by kernel_rfl) rfl (CB [2,3] [_,_] rfl Tryz.call29 (add_spec _ _ _ _ _ _ _ _ ?_) ?_))
 ·(first | omega | assumption | decide)
 intro y28 hy28
 refine BK 4 [_] rfl (HA_done (by kernel_rfl) (EV [] [] rfl (SQ (RG rfl (AS rfl (HO_nil (R1 Tryz.results19 (y28,y27) rfl (fun w hA => ⟨?_,?_,?_⟩))))))))
 ·(exact congrArg (Value.int .i64) (by unfold Net.dblE;rw [if_pos hin,if_pos hyd.2]))
 ·trivial
 ·(rw [Net.dblH_yes hyd,Net.dblB_yes hyd];exact hA.keep (m:=[yy,yy,yy,yy]) (Y:=[_,_,_,_]) rfl)
theorem spoil_spec (g : Nat) (ha : Option Addr) (hc : Nat) (hs : List Hd) (mo : Int) (xs : List UInt8) (a : Option Addr) (c : Nat) (i at_ bi : Int) (h0 : 0 < mo) (hhs : hs.length≤1000) (hr : (Net.ix i hs.length) < hs.length→hs[(Net.ix i hs.length)]? = some ⟨a,xs.length,c⟩) (hx : xs.length≤100000) (hno0 : ¬ (Net.ix i hs.length) < hs.length→xs = []) : Spec Tryz.prog 21 #[.pointer (some ⟨g,0,none⟩),.int .i64 (i),.int .i64 (at_),.int .i64 (bi)] [.loc g [.slice ha (hs.length) hc,.int .i64 (mo)] 65,.own 32 kHd ha hc (hs),.own 5 kByte a c (xs)] (β:=Unit) (fun y => .int .i64 (Net.splE i hs.length xs at_ bi)) (fun y => True) (fun y => [.loc g [.slice ha (hs.length) hc,.int .i64 (mo)] 65,.own 32 kHd ha hc (hs),.own 5 kByte a c ((Net.spl xs at_ bi))]):=by
 refine Spec.enter (vs:=[_,_,_,_]) Tryz.func21 rfl Tryz.ntmps21 rfl (Nat.le_of_ble_eq_true rfl) (fun w0 ok0 => ?_)
 generalize hM0 : blks _ = M0
 refine SQ (RG rfl (AS rfl (NI [0,1,2,3] [_,_,_,_] rfl (SQ (SQ (RG rfl (MV rfl (MV rfl (CB [0] [_,_] rfl Tryz.call36 (may_spec _ _ _ _ _ _ ?_) ?_)))))))))
 ·(first | omega | assumption | decide)
 intro y12 hy12
 clear y12 hy12
 refine AS rfl (NI [9,0,1,2,3] [_,_,_,_,_] rfl (SQ (RG rfl (MV rfl (BN rfl bin_neq (NI [14,9,0,1,2,3] [_,_,_,_,_,_] rfl (H_cond rfl ?_ ?_)))))))
 ·intro h14
  replace h14:=dT h14
  have hno : ¬ (Net.ix i hs.length) < hs.length:=fun h => h14 (Net.mayE_yes.2 h)
  refine SQ (RG rfl (MV rfl (AS rfl (NI [8] [_] rfl ?_))))
  have hns : ¬ Net.splP xs at_ bi:=fun h => by have h1:=h.1;have h2:=h.2.1;rw [hno0 hno] at h2;simp at h2;omega
  refine R1 Tryz.results21 () rfl (fun w hA => ⟨?_,?_,?_⟩)
  ·(rw [Net.mayE_no hno];exact congrArg (Value.int .i64) (by unfold Net.splE;rw [if_neg hno]))
  ·trivial
  ·(rw [Net.spl_no hns];exact hA.keep (m:=[yy,yy,yy]) (Y:=[_,_,_]) rfl)
 intro h14
 replace h14:=dF h14
 have hin:=Net.mayE_yes.1 (Decidable.not_not.1 h14)
 refine SK (SQ (SQ (RG rfl (MV rfl (BN rfl bin_lss (MV rfl (HO_split (d:=18) rfl ?_ ?_)))))))
 ·intro h18
  replace h18:=dT h18
  iterate 11 refine HO_no rfl rfl rfl ?_
  refine PT rfl (MV rfl (NO rfl (NO rfl (PT rfl (MV rfl (NO rfl (NO rfl (PT rfl (NI [38,0,1,2,3] [_,_,_,_,_] rfl (CT rfl (SQ (RG rfl ?_))))))))))))
  refine AS rfl (NI [8] [_] rfl ?_)
  have hns : ¬ Net.splP xs at_ bi:=fun h => by have h1:=h.1;have h2:=h.2.1;have h3:=h.2.2.1;have h4:=h.2.2.2;omega
  refine R1 Tryz.results21 () rfl (fun w hA => ⟨?_,?_,?_⟩)
  ·(exact congrArg (Value.int .i64) (by unfold Net.splE;rw [if_pos hin,if_neg hns]))
  ·trivial
  ·(rw [Net.spl_no hns];exact hA.keep (m:=[yy,yy,yy]) (Y:=[_,_,_]) rfl)
 intro h18
 replace h18:=dF h18
 refine MV rfl (MV rfl (NC rfl (FA 0 rfl Tryz.underlying65 rfl Tryz.sizeOf63 (FA 0 rfl Tryz.underlying63 rfl Tryz.sizeOf53 (LD 0 0 rfl Tryz.isAgg53 (MV rfl (HO_indexOwn (i:=1) (j:=(Net.ix i hs.length)) rfl rfl rfl rfl ?_ Tryz.underlying53 Tryz.sizeOf32 rfl (by first | rfl | (simp;done) | (simp;omega)) ?_ (Nat.mul_one _) ?_)))))))
 ·exact Net.ix_eq hin
 ·exact hin
 intro g26 z26 hg26 hz26
 have he26 : z26 = ⟨a,xs.length,c⟩:=Option.some.inj (hz26.symm.trans (hr hin))
 refine HO_loadOwn (i:=1) (v:=.slice z26.a (z26.n) z26.c) rfl rfl rfl Tryz.isAgg32 rfl hg26 (Nat.mul_one _) hz26 (fun _ _ _ h => h.1) (HO_set (v':=.slice a (xs.length) c) 27 rfl (by rw [he26]) (BI rfl (bi_len_sl Tryz.underlying32) (BN rfl bin_geq (PF rfl (MV rfl (HO_split (d:=31) rfl ?_ ?_))))))
 ·intro h31
  replace h31:=dT h31
  refine NO rfl (NO rfl (PT rfl (MV rfl (NO rfl (NO rfl (PT rfl (NI [38,0,1,2,3] [_,_,_,_,_] rfl (CT rfl (SQ (RG rfl (AS rfl (HO_nil ?_))))))))))))
  refine EV [8] [_] rfl ?_
  have hns : ¬ Net.splP xs at_ bi:=fun h => by have h1:=h.1;have h2:=h.2.1;have h3:=h.2.2.1;have h4:=h.2.2.2;omega
  refine R1 Tryz.results21 () rfl (fun w hA => ⟨?_,?_,?_⟩)
  ·(exact congrArg (Value.int .i64) (by unfold Net.splE;rw [if_pos hin,if_neg hns]))
  ·trivial
  ·(rw [Net.spl_no hns];exact hA.keep (m:=[yy,yy,yy]) (Y:=[_,_,_]) rfl)
 intro h31
 replace h31:=dF h31
 refine MV rfl (BN rfl bin_lss (PF rfl (MV rfl (HO_split (d:=35) rfl ?_ ?_))))
 ·intro h35
  replace h35:=dT h35
  refine NO rfl (NO rfl (PT rfl (NI [38,0,1,2,3] [_,_,_,_,_] rfl (CT rfl (SQ (RG rfl (AS rfl (NI [8] [_] rfl ?_))))))))
  have hns : ¬ Net.splP xs at_ bi:=fun h => by have h1:=h.1;have h2:=h.2.1;have h3:=h.2.2.1;have h4:=h.2.2.2;omega
  refine R1 Tryz.results21 () rfl (fun w hA => ⟨?_,?_,?_⟩)
  ·(exact congrArg (Value.int .i64) (by unfold Net.splE;rw [if_pos hin,if_neg hns]))
  ·trivial
  ·(rw [Net.spl_no hns];exact hA.keep (m:=[yy,yy,yy]) (Y:=[_,_,_]) rfl)
 intro h35
 replace h35:=dF h35
 refine MV rfl (BN rfl bin_gtr (PF rfl (NI [38,0,1,2,3] [_,_,_,_,_] rfl (H_cond rfl ?_ ?_))))
 ·intro h38
  replace h38:=dT h38
  refine SQ (RG rfl (AS rfl (NI [8] [_] rfl ?_)))
  have hns : ¬ Net.splP xs at_ bi:=fun h => by have h1:=h.1;have h2:=h.2.1;have h3:=h.2.2.1;have h4:=h.2.2.2;omega
  refine R1 Tryz.results21 () rfl (fun w hA => ⟨?_,?_,?_⟩)
  ·(exact congrArg (Value.int .i64) (by unfold Net.splE;rw [if_pos hin,if_neg hns]))
  ·trivial
  ·(rw [Net.spl_no hns];exact hA.keep (m:=[yy,yy,yy]) (Y:=[_,_,_]) rfl)
 intro h38
 replace h38:=dF h38
 refine SK (SQ ?_)
 obtain ⟨q,rfl⟩ : ∃ q : Nat,at_ = q:=⟨at_.toNat,by omega⟩
 obtain ⟨j,rfl⟩ : ∃ j : Nat,bi = j:=⟨bi.toNat,by omega⟩
 have hsp : Net.splP xs (q : Int) (j : Int):=⟨by omega,by omega,by omega,by omega⟩
 refine H_drawB (m:=[yy,yy,nn]) (Xs:=[_,_]) (fuel:=16) (l:=#[false,false,false,false,false,false,false,false,false,false,false,false,false,false,false,false]) mixed rfl rfl rfl (TK 0 3 [_,_] rfl (by kernel_rfl) (V_move rfl) (TK 1 3 [_,_] rfl (by kernel_rfl) (V_nilCheck rfl) (TK 2 3 [_,_] rfl (by kernel_rfl) (V_fieldAddr (r:=0) rfl Tryz.underlying65 rfl Tryz.sizeOf63 rfl) (TK 3 3 [_,_] rfl (by kernel_rfl) (V_fieldAddr (r:=0) rfl Tryz.underlying63 rfl Tryz.sizeOf53 rfl) (TK 4 3 [_,_] rfl (by kernel_rfl) (V_load1 (i:=0) (j:=0) rfl Tryz.isAgg53 rfl (.loc _ _ _) rfl rfl) (TK 5 3 [_,_] rfl (by kernel_rfl) (V_move rfl) (TK 8 3 [_,_] rfl (by kernel_rfl) (V_move rfl) (TK 11 3 [_,_] rfl (by kernel_rfl) (V_move rfl) (TK 12 3 [_,_] rfl (by kernel_rfl) (V_bin rfl rfl (bin_shl' rfl ?_)) ?_)))))))))
 ·omega
 refine LO 6 (by kernel_rfl) rfl (HO_indexOwn (i:=1) (j:=(Net.ix i hs.length)) rfl rfl rfl rfl ?_ Tryz.underlying53 Tryz.sizeOf32 rfl (by first | rfl | (simp;done) | (simp;omega)) ?_ (Nat.mul_one _) ?_)
 ·exact Net.ix_eq hin
 ·exact hin
 intro g45 z45 hg45 hz45
 refine BK 3 [_,_] rfl ?_
 have he45 : z45 = ⟨a,xs.length,c⟩:=Option.some.inj (hz45.symm.trans (hr hin))
 refine TK 7 3 [_,_] rfl (by kernel_rfl) (V_loadOwn (i:=1) (v:=.slice z45.a (z45.n) z45.c) rfl Tryz.isAgg32 rfl hg45 (Nat.mul_one _) hz45 (fun _ _ _ h => h.1)) (HA_set (v':=.slice a (xs.length) c) 46 rfl (by rw [he45]) (LO 9 (by kernel_rfl) rfl (HO_indexOwn (i:=2) (j:=q) rfl rfl rfl rfl ?_ Tryz.underlying32 Tryz.sizeOf5 rfl (by first | rfl | (simp;done) | (simp;omega)) ?_ (Nat.mul_one _) ?_)))
 ·omega
 ·omega
 intro g48 z48 hg48 hz48
 refine BK 3 [_,_] rfl (LO 10 (by kernel_rfl) rfl (HO_loadOwn (i:=2) (v:=.int .u8 (z48.toNat)) rfl rfl rfl Tryz.isAgg5 rfl hg48 (Nat.mul_one _) hz48 (fun _ _ _ h => h.1) (BK 3 [_,_] rfl (TK 13 3 [_,_] rfl (by kernel_rfl) (V_bin rfl rfl (bin_xor rfl ?_ ?_)) ?_))))
 ·(exact z48.toNat_lt)
 ·(exact Nat.mod_lt _ (by decide))
 refine HA_set (v':=.int .u8 (((UInt8.ofNat (z48.toNat ^^^ (1 * 2 ^ j % 2 ^ 8))).toNat : Int))) 52 rfl (by exact Cod.flip_cast (by omega)) (LO 14 (by kernel_rfl) rfl (HO_indexOwn (i:=2) (j:=q) rfl rfl rfl rfl ?_ Tryz.underlying32 Tryz.sizeOf5 rfl (by first | rfl | (simp;done) | (simp;omega)) ?_ (Nat.mul_one _) ?_))
 ·omega
 ·omega
 intro g53 z53 hg53 hz53
 refine BK 3 [_,_] rfl (LO 15 (by kernel_rfl) rfl (HO_storeOwn (i:=2) (cs:=[_]) (R:=[_,_]) (z':=UInt8.ofNat (z48.toNat ^^^ (1 * 2 ^ j % 2 ^ 8))) rfl rfl rfl Tryz.sizeOf5 rfl (by simp [Value.oneCell']) rfl hg53 rfl (Nat.mul_one _) ?_ (fun _ _ _ => ⟨rfl,trivial⟩) ?_))
 ·omega
 refine BK 6 [_,_] rfl (HA_done (by kernel_rfl) (EV [] [] rfl (SQ (RG rfl (AS rfl (HO_nil (R1 Tryz.results21 () rfl (fun w hA => ⟨?_,?_,?_⟩))))))))
 ·(exact congrArg (Value.int .i64) (by unfold Net.splE;rw [if_pos hin,if_pos hsp]))
 ·trivial
 ·(rw [Net.spl_yes hsp hz48];exact hA.only (is:=[0,1,0]) (Z:=[]) rfl)
end Go.Wk
