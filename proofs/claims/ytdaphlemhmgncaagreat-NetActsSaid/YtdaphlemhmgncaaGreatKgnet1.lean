/- Contracts of the program's functions, each proved by walking its code. -/
import Derived.Test.YtdaphlemhmgncaaGreatKgent6
import Derived.Test.YtdaphlemhmgncaaGreatNet
set_option maxRecDepth 100000
set_option linter.unusedVariables false
set_option linter.unusedSimpArgs false
namespace Go.Wk.Fnet1
open Go Go.RowKit Go.Proofs Go.Wk
theorem elt5 : Elt Tryz.prog 5 (.int .u8 (0)) 1 1:=Elt.of (by kernel_rfl) (by rfl) (by decide) (by decide)
theorem elt32 : Elt Tryz.prog 32 (.slice none 0 0) 1 24:=Elt.of (by kernel_rfl) (by rfl) (by decide) (by decide)
end Go.Wk.Fnet1
namespace Go.Wk
open Go Go.RowKit Go.Proofs Fnet1 
theorem clonebytes_spec (xs : List UInt8) (a : Option Addr) (c : Nat) (hx : xs.length≤1000000) : Spec Tryz.prog 42 #[.slice a (xs.length) c] [.dat kByte.sl (xs) [.slice a (xs.length) c]] (β:=Option Addr × Nat) (fun y => .slice y.1 (xs.length) y.2) (fun y => True) (fun y => [.own 5 kByte y.1 y.2 (xs)]):=by
 refine Spec.enter (vs:=[_]) Tryz.func42 rfl Tryz.ntmps42 rfl (Nat.le_of_ble_eq_true rfl) (fun w0 ok0 => ?_)
 generalize hM0 : blks _ = M0
 have hMn:=@noM _ _ hM0 (by simp [Atom.dat,Atom.elem])
 refine SQ (RG rfl (AS rfl (NI [0] [_] rfl (SQ (SQ (RG rfl (MV rfl (BN rfl (bin_sl_eq_nil Tryz.runUnderlying32) (NI [4,0] [_,_] rfl (H_cond rfl ?_ ?_))))))))))
 ·intro h4
  refine SQ (H_datNone (i:=0) rfl h4 (fun hx => ?_))
  subst hx
  refine RG rfl (AS rfl (NI [2] [_] rfl (WD 0 [] rfl (H_own0 kByte 5 none (R1 Tryz.results42 (none,0) rfl (fun w hA => ⟨?_,?_,?_⟩))))))
  ·rfl
  ·trivial
  ·exact hA.keep (m:=[yy]) (Y:=[_]) rfl
 intro h4
 refine SK (SQ (RG rfl (HO_buildSlice0 (kd:=kByte) rfl rfl Tryz.underlying32 elt5 ?_)))
 intro g5
 refine MV rfl (HO_append (i:=0) (R:=[_]) rfl rfl rfl rfl rfl Tryz.underlying32 elt5 rfl rfl (SrcOk.dat (j:=0) Tryz.underlying32 rfl) ?_ ?_)
 ·(simp only [List.length_nil];omega)
 intro a7 c7
 refine AS rfl (NI [2] [_] rfl (WD 1 [_] rfl (R1 Tryz.results42 (a7,c7) rfl (fun w hA => ⟨?_,?_,?_⟩))))
 ·rfl
 ·trivial
 ·exact hA.keep (m:=[yy]) (Y:=[_]) rfl
theorem deletehd_spec (xs : List Hd) (a : Option Addr) (c : Nat) (i : Nat) (hi : i < xs.length) (hl : xs.length≤10000) : Spec Tryz.prog 41 #[.slice a (xs.length) c,.int .i64 ((i : Int)),.int .i64 ((i : Int) + 1)] [.own 32 kHd a c (xs)] (β:=Option Addr × Nat) (fun y => .slice y.1 ((xs.take i ++ xs.drop (i + 1)).length) y.2) (fun y => True) (fun y => [.own 32 kHd y.1 y.2 (xs.take i ++ xs.drop (i + 1))]):=by
 refine Spec.enter (vs:=[_,_,_]) Tryz.func41 rfl Tryz.ntmps41 rfl (Nat.le_of_ble_eq_true rfl) (fun w0 ok0 => ?_)
 generalize hM0 : blks _ = M0
 refine SQ (RG rfl (AS rfl (NI [0,1,2] [_,_,_] rfl (SQ (H_ownLen (i:=0) rfl (fun hlc hmc => ?_))))))
 refine RG rfl (MV rfl (MV rfl (MV rfl (MV rfl (BI rfl (bi_len_sl Tryz.underlying53) (HO_of_val rfl rfl rfl (V_sliceA_lhm (h':=i + 1) rfl rfl rfl rfl ?_ rfl rfl Tryz.underlying53 Tryz.sizeOf32 ?_ ?_ ?_) ?_))))))
 ·omega
 ·omega
 ·omega
 ·omega
 refine NI [0,1,2] [_,_,_] rfl (SQ (SQ (RG rfl (MV rfl (MV rfl (BN rfl bin_eql (NI [16,0,1,2] [_,_,_,_] rfl (H_cond rfl ?_ ?_))))))))
 ·intro h16
  replace h16:=dT h16
  (exfalso;omega)
 intro h16
 replace h16:=dF h16
 refine SK (SQ (RG rfl (MV rfl (BI rfl (bi_len_sl Tryz.underlying53) (AS rfl (NI [7,0,1,2] [_,_,_,_] rfl (SQ (H_openRow (i:=0) (R:=[]) rfl (by omega) (fun g0 vals0 spare0 ha0 hl0 hs0 hc0 hm0 ho0 => ?_)))))))))
 cases ha0
 replace hl0 : vals0.length = _ * 1:=hl0
 replace hs0 : spare0.length = _ * 1:=hs0
 (try simp only [List.length_cons,List.length_nil] at hl0 hs0 hc0)
 (try simp only [maxLen] at hm0)
 refine H_drawB (m:=[nn,yy]) (Xs:=[_]) (fuel:=8) (l:=#[false,false,false,false,false,false,false,false]) mixed rfl rfl rfl (TK 0 2 [_] rfl (by kernel_rfl) (V_move rfl) (TK 1 2 [_] rfl (by kernel_rfl) (V_move rfl) (TK 2 2 [_] rfl (by kernel_rfl) (V_sliceR_h rfl rfl rfl Tryz.underlying53 Tryz.sizeOf32 ?_) ?_)))
 ·omega
 refine TK 3 2 [_] rfl (by kernel_rfl) (V_move rfl) (TK 4 2 [_] rfl (by kernel_rfl) (V_move rfl) (TK 5 2 [_] rfl (by kernel_rfl) (V_sliceR_l (l:=i + 1) rfl rfl ?_ Tryz.underlying53 Tryz.sizeOf32 ?_) ?_))
 ·omega
 ·omega
 refine LO 6 (by kernel_rfl) rfl (HO_appendR (i:=0) (j:=0) (R:=[_]) (vals0.take (i * 1)) ((vals0.drop (i * 1)).take (vals0.drop ((i + 1) * 1)).length) ((vals0.drop (i * 1)).drop (vals0.drop ((i + 1) * 1)).length ++ spare0) (vals0.take ((i + 1) * 1)) (vals0.drop ((i + 1) * 1)) (spare0) rfl rfl rfl rfl Tryz.underlying53 Tryz.underlying53 Tryz.sizeOf32 rfl rfl ?_ ?_ ?_ ?_ ?_ ?_ ?_ ?_ ?_)
 ·omega
 ·(rw [List.length_drop];omega)
 ·(rw [← List.append_assoc,List.take_append_drop])
 ·(intro hne;have:=List.length_pos_iff.2 hne;rw [List.length_drop] at this;rw [List.length_take];split <;> omega)
 ·(rw [← List.append_assoc (List.take _ (vals0.drop (i * 1))),List.take_append_drop,← List.append_assoc,List.take_append_drop])
 ·(simp only [List.length_take,List.length_drop];omega)
 ·(intro _;rw [List.length_take];omega)
 ·exact (fun u hu => ho0 u (List.mem_of_mem_drop hu))
 refine BK 2 [_] rfl (TK 7 2 [_] rfl (by kernel_rfl) (V_assign rfl) (HA_done (by kernel_rfl) (EV [0,7] [_,_] rfl (SQ (RG rfl (MV rfl (MV rfl (BI rfl (bi_len_sl Tryz.underlying53) (MV rfl (HO_of_val rfl rfl rfl (V_sliceR_lh rfl rfl rfl rfl rfl Tryz.underlying53 Tryz.sizeOf32 ?_ ?_) ?_))))))))))
 ·omega
 ·omega
 refine HO_clearR (i:=0) (sz:=1) (R:=[_]) (vals0.take (i * 1) ++ vals0.drop ((i + 1) * 1)) ((vals0.drop (i * 1)).drop (vals0.drop ((i + 1) * 1)).length) (spare0) rfl rfl Tryz.underlying53 Tryz.zeroValue32 rfl (by decide) rfl ?_ ?_ ?_ ?_ ?_
 ·omega
 ·(simp only [List.append_assoc])
 ·(simp only [List.length_drop];omega)
 ·(simp only [List.length_append,List.length_take,List.length_drop];split <;> omega)
 intro nz6_5 hnz6_5
 refine NI [0] [_] rfl (SQ (H_closeRow (i:=0) (R:=[_]) (kd:=kHd) (cp:=c) (xs.take i ++ xs.drop (i + 1)) (vals0.take (i * 1) ++ vals0.drop ((i + 1) * 1)) (nz6_5 ++ spare0) rfl ?_ ?_ ?_ ?_ ?_ ?_ ?_))
 ·(simp only [List.append_assoc])
 ·omega
 ·(show _ = c * 1;simp only [List.length_append,List.length_take,List.length_drop];omega)
 ·(simp only [List.length_append,List.length_take,List.length_drop];omega)
 ·(simp only [maxLen];omega)
 ·exact (fun ok w hA => rowRep.del2 (hA _ (List.mem_of_getElem? (i:=0) rfl)) (by omega))
 refine RG rfl (MV rfl (AS rfl (NI [6] [_] rfl (R1 Tryz.results41 (some ⟨g0,0,none⟩,c) rfl (fun w hA => ⟨?_,?_,?_⟩)))))
 ·(have hq : i + (xs.length - (i + 1)) = (xs.take i ++ xs.drop (i + 1)).length:=by simp only [List.length_append,List.length_take,List.length_drop];omega);rw [hq]
 ·trivial
 ·exact hA.keep (m:=[yy,nn]) (Y:=[_]) rfl
theorem has_spec (g : Nat) (ha : Option Addr) (n hc : Nat) (mo : Int) (i : Int)  : Spec Tryz.prog 66 #[.pointer (some ⟨g,0,none⟩),.int .i64 (i)] [.loc g [.slice ha (n) hc,.int .i64 (mo)] 65] (β:=Unit) (fun y => .bool (decide (Net.ix i n < n))) (fun y => True) (fun y => [.loc g [.slice ha (n) hc,.int .i64 (mo)] 65]):=by
 refine Spec.enter (vs:=[_,_]) Tryz.func66 rfl Tryz.ntmps66 rfl (Nat.le_of_ble_eq_true rfl) (fun w0 ok0 => ?_)
 generalize hM0 : blks _ = M0
 refine SQ (RG rfl (AS rfl (NI [0,1] [_,_] rfl (SQ (RG rfl (MV rfl (BN rfl bin_geq (MV rfl (HO_split (d:=7) rfl ?_ ?_)))))))))
 ·intro h7
  replace h7:=dT h7
  refine MV rfl (MV rfl (NC rfl (FA 0 rfl Tryz.underlying63 rfl Tryz.sizeOf53 (LD 0 0 rfl Tryz.isAgg53 (BI rfl (bi_len_sl Tryz.underlying53) (BN rfl bin_lss (PT rfl (AS rfl (NI [4] [_] rfl (R1 Tryz.results66 () rfl (fun w hA => ⟨?_,?_,?_⟩)))))))))))
  ·(exact congrArg Value.bool (by first | rfl | (simp [Net.ix_lt, *];done) | (simp_all [Net.ix_lt];done) | (simp_all [Net.ix_lt];omega)))
  ·trivial
  ·exact hA.keep (m:=[yy]) (Y:=[_]) rfl
 intro h7
 replace h7:=dF h7
 iterate 7 refine HO_no rfl rfl rfl ?_
 refine PF rfl (AS rfl (NI [4] [_] rfl (R1 Tryz.results66 () rfl (fun w hA => ⟨?_,?_,?_⟩))))
 ·(exact congrArg Value.bool (by first | rfl | (simp [Net.ix_lt, *];done) | (simp_all [Net.ix_lt];done) | (simp_all [Net.ix_lt];omega)))
 ·trivial
 ·exact hA.keep (m:=[yy]) (Y:=[_]) rfl
theorem full_spec (g : Nat) (ha : Option Addr) (n hc : Nat) (mo : Int)  : Spec Tryz.prog 28 #[.pointer (some ⟨g,0,none⟩)] [.loc g [.slice ha (n) hc,.int .i64 (mo)] 65] (β:=Unit) (fun y => .bool (decide (mo≤(n : Int)))) (fun y => True) (fun y => [.loc g [.slice ha (n) hc,.int .i64 (mo)] 65]):=by
 refine Spec.enter (vs:=[_]) Tryz.func28 rfl Tryz.ntmps28 rfl (Nat.le_of_ble_eq_true rfl) (fun w0 ok0 => ?_)
 generalize hM0 : blks _ = M0
 refine SQ (RG rfl (AS rfl (NI [0] [_] rfl (SQ (H_drawB (m:=[yy]) (Xs:=[_]) (fuel:=11) (l:=#[false,false,false,false,false,false,false,false,false,false,false]) mixed rfl rfl rfl (TA 0 rfl (by kernel_rfl) (V_move rfl) (TA 1 rfl (by kernel_rfl) (V_nilCheck rfl) (TA 2 rfl (by kernel_rfl) (V_fieldAddr (r:=0) rfl Tryz.underlying63 rfl Tryz.sizeOf53 rfl) (TA 3 rfl (by kernel_rfl) (V_load1 (i:=0) (j:=0) rfl Tryz.isAgg53 rfl (.loc _ _ _) rfl rfl) (TA 4 rfl (by kernel_rfl) (V_bi rfl (bi_len_sl Tryz.underlying53)) (TA 5 rfl (by kernel_rfl) (V_move rfl) (TA 6 rfl (by kernel_rfl) (V_nilCheck rfl) ?_))))))))))))
 refine TA 7 rfl (by kernel_rfl) (V_fieldAddr (r:=1) rfl Tryz.underlying63 rfl Tryz.sizeOf3 rfl) (TA 8 rfl (by kernel_rfl) (V_load1 (i:=0) (j:=1) rfl Tryz.isAgg3 rfl (.loc _ _ _) rfl rfl) (TA 9 rfl (by kernel_rfl) (V_bin rfl rfl bin_geq) (TA 10 rfl (by kernel_rfl) (V_assign rfl) (HA_done (by kernel_rfl) (EV [2] [_] rfl (R1 Tryz.results28 () rfl (fun w hA => ⟨?_,?_,?_⟩)))))))
 ·(exact congrArg Value.bool (by first | rfl | (simp [Net.ix_lt, *];done) | (simp_all [Net.ix_lt];done) | (simp_all [Net.ix_lt];omega)))
 ·trivial
 ·exact hA.keep (m:=[yy]) (Y:=[_]) rfl
theorem made_spec (g : Nat) (ha : Option Addr) (n hc : Nat) (mo : Int)  : Spec Tryz.prog 26 #[.pointer (some ⟨g,0,none⟩)] [.loc g [.slice ha (n) hc,.int .i64 (mo)] 65] (β:=Unit) (fun y => .bool (decide (0 < mo))) (fun y => True) (fun y => [.loc g [.slice ha (n) hc,.int .i64 (mo)] 65]):=by
 refine Spec.enter (vs:=[_]) Tryz.func26 rfl Tryz.ntmps26 rfl (Nat.le_of_ble_eq_true rfl) (fun w0 ok0 => ?_)
 generalize hM0 : blks _ = M0
 refine SQ (RG rfl (AS rfl (NI [0] [_] rfl (SQ (RG rfl (MV rfl (BN (r:=.bool true) rfl (bin_ptr_ne_pn Tryz.runUnderlying23) (MV rfl (MV rfl (NC rfl (FA 0 rfl Tryz.underlying65 rfl Tryz.sizeOf63 (FA 1 rfl Tryz.underlying63 rfl Tryz.sizeOf3 ?_))))))))))))
 refine LD 0 1 rfl Tryz.isAgg3 (BN rfl bin_gtr (PT rfl (AS rfl (NI [2] [_] rfl (R1 Tryz.results26 () rfl (fun w hA => ⟨?_,?_,?_⟩))))))
 ·(exact congrArg Value.bool (by first | rfl | (simp [Net.ix_lt, *];done) | (simp_all [Net.ix_lt];done) | (simp_all [Net.ix_lt];omega)))
 ·trivial
 ·exact hA.keep (m:=[yy]) (Y:=[_]) rfl
theorem may_spec (g : Nat) (ha : Option Addr) (n hc : Nat) (mo : Int) (i : Int) (h0 : 0 < mo) : Spec Tryz.prog 36 #[.pointer (some ⟨g,0,none⟩),.int .i64 (i)] [.loc g [.slice ha (n) hc,.int .i64 (mo)] 65] (β:=Unit) (fun y => .int .i64 (Net.mayE i n)) (fun y => True) (fun y => [.loc g [.slice ha (n) hc,.int .i64 (mo)] 65]):=by
 refine Spec.enter (vs:=[_,_]) Tryz.func36 rfl Tryz.ntmps36 rfl (Nat.le_of_ble_eq_true rfl) (fun w0 ok0 => ?_)
 generalize hM0 : blks _ = M0
 refine SQ (RG rfl (AS rfl (NI [0,1] [_,_] rfl (SQ (BO (SQ (RG rfl (MV rfl (CB [0] [] rfl Tryz.call26 (made_spec _ _ _ _ _) ?_)))))))))
 intro y7 hy7
 clear y7 hy7
 refine NT rfl (AS rfl (NI [5,0,1] [_,_,_] rfl (H_cond rfl ?_ ?_)))
 ·intro h5
  replace h5:=dF (nT h5)
  (exact absurd h0 h5)
 intro h5
 replace h5:=dT (nF h5)
 refine SQ (RG rfl (MV rfl (NC rfl (FA 0 rfl Tryz.underlying65 rfl Tryz.sizeOf63 (MV rfl (CB [0] [] rfl Tryz.call66 (has_spec _ _ _ _ _ _) ?_))))))
 intro y14 hy14
 clear y14 hy14
 refine NT rfl (AS rfl (NI [9] [_] rfl (H_cond rfl ?_ ?_)))
 ·intro h9
  replace h9:=dF (nT h9)
  refine SQ (RG rfl (AS rfl (NI [4] [_] rfl (R1 Tryz.results36 () rfl (fun w hA => ⟨?_,?_,?_⟩)))))
  ·(exact congrArg (Value.int .i64) (by unfold Net.mayE;first | (rw [if_neg h9];done) | (rw [if_pos h9];done)))
  ·trivial
  ·exact hA.keep (m:=[yy]) (Y:=[_]) rfl
 intro h9
 replace h9:=dT (nF h9)
 refine SK (BD (SQ (RG rfl (AS rfl (NI [4] [_] rfl (R1 Tryz.results36 () rfl (fun w hA => ⟨?_,?_,?_⟩)))))))
 ·(exact congrArg (Value.int .i64) (by unfold Net.mayE;first | (rw [if_neg h9];done) | (rw [if_pos h9];done)))
 ·trivial
 ·exact hA.keep (m:=[yy]) (Y:=[_]) rfl
theorem len_spec (g : Nat) (ha : Option Addr) (n hc : Nat) (mo : Int) (h0 : 0 < mo) : Spec Tryz.prog 23 #[.pointer (some ⟨g,0,none⟩)] [.loc g [.slice ha (n) hc,.int .i64 (mo)] 65] (β:=Unit) (fun y => .int .i64 ((n : Int))) (fun y => True) (fun y => [.loc g [.slice ha (n) hc,.int .i64 (mo)] 65]):=by
 refine Spec.enter (vs:=[_]) Tryz.func23 rfl Tryz.ntmps23 rfl (Nat.le_of_ble_eq_true rfl) (fun w0 ok0 => ?_)
 generalize hM0 : blks _ = M0
 refine SQ (RG rfl (AS rfl (NI [0] [_] rfl (SQ (SQ (RG rfl (MV rfl (CB [0] [] rfl Tryz.call26 (made_spec _ _ _ _ _) ?_))))))))
 intro y4 hy4
 clear y4 hy4
 refine NT rfl (NI [5,0] [_,_] rfl (H_cond rfl ?_ ?_))
 ·intro h5
  replace h5:=dF (nT h5)
  (exact absurd h0 h5)
 intro h5
 replace h5:=dT (nF h5)
 refine SK (SQ (RG rfl (MV rfl (NC rfl (FA 0 rfl Tryz.underlying65 rfl Tryz.sizeOf63 (FA 0 rfl Tryz.underlying63 rfl Tryz.sizeOf53 (LD 0 0 rfl Tryz.isAgg53 (BI rfl (bi_len_sl Tryz.underlying53) (AS rfl (NI [2] [_] rfl (R1 Tryz.results23 () rfl (fun w hA => ⟨?_,?_,?_⟩))))))))))))
 ·rfl
 ·trivial
 ·exact hA.keep (m:=[yy]) (Y:=[_]) rfl
end Go.Wk
