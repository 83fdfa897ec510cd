/- Contracts of the program's functions, each proved by walking its code. -/
import Derived.Test.YtdaphlemhmgncaaKhent5
import Derived.Test.YtdaphlemhmgncaaEnt3
import Derived.Test.YtdaphlemhmgncaaNet
set_option maxRecDepth 100000
set_option linter.unusedVariables false
set_option linter.unusedSimpArgs false
namespace Go.Wk.Fnet1
open Go Go.RowKit Go.Proofs Go.Wk
theorem elt5 : Elt Try.prog 5 (.int .u8 (0)) 1 1:=Elt.of (by kernel_rfl) (by rfl) (by decide) (by decide)
theorem elt26 : Elt Try.prog 26 (.slice none 0 0) 1 24:=Elt.of (by kernel_rfl) (by rfl) (by decide) (by decide)
end Go.Wk.Fnet1
namespace Go.Wk
open Go Go.RowKit Go.Proofs Fnet1 
theorem clonebytes_spec (xs : List UInt8) (a : Option Addr) (c : Nat) (hx : xs.length≤1000000) : Spec Try.prog 22 #[.slice a (xs.length) c] [.dat kByte.sl (xs) [.slice a (xs.length) c]] (β:=Option Addr × Nat) (fun y => .slice y.1 (xs.length) y.2) (fun y => True) (fun y => [.own 5 kByte y.1 y.2 (xs)]):=by
 refine Spec.enter (vs:=[_]) Try.func22 rfl Try.ntmps22 rfl (Nat.le_of_ble_eq_true rfl) (fun w0 ok0 => ?_)
 generalize hM0 : blks _ = M0
 have hMn:=@noM _ _ hM0 (by simp [Atom.dat,Atom.elem])
 refine H_seq ?_
 refine H_region (l:=[_]) rfl ?_
 refine HO_assign rfl rfl rfl ?_
 refine HO_nil ?_
 refine H_env (ρ':=[(0,_)]) ⟨rfl,trivial⟩ ?_
 refine H_seq ?_
 refine H_seq ?_
 refine H_region (l:=[_,_]) rfl ?_
 refine HO_move rfl rfl rfl ?_
 refine HO_bin rfl rfl rfl rfl (bin_sl_eq_nil Try.runUnderlying26) ?_
 refine HO_nil ?_
 refine H_env (ρ':=[(4,_),(0,_)]) ⟨rfl,rfl,trivial⟩ ?_
 refine H_cond rfl ?_ ?_
 ·intro h4
  refine H_seq ?_
  refine H_datNone (i:=0) rfl h4 (fun hx => ?_)
  subst hx
  refine H_region (l:=[_]) rfl ?_
  refine HO_assign rfl rfl rfl ?_
  refine HO_nil ?_
  refine H_env (ρ':=[(2,_)]) ⟨rfl,trivial⟩ ?_
  refine H_world (kp [nn] [] rfl) ?_
  refine H_own0 kByte 5 none ?_
  refine H_ret1 Try.results22 (.tmp rfl) (fun w hA => ⟨(none,0),congrArg Ending.returned ?_,?_,?_⟩)
  ·rfl
  ·trivial
  ·exact hA.keep (m:=[yy]) (Y:=[_]) rfl
 intro h4
 refine H_skip ?_
 refine H_seq ?_
 refine H_region (l:=[_,_,_,_]) rfl ?_
 refine HO_buildSlice0 (kd:=kByte) rfl rfl Try.underlying26 elt5 ?_
 intro g5
 refine HO_move rfl rfl rfl ?_
 refine HO_append (i:=0) (R:=[_]) rfl rfl rfl rfl rfl Try.underlying26 elt5 rfl rfl (SrcOk.dat (j:=0) Try.underlying26 rfl) ?_ ?_
 ·(simp only [List.length_nil];omega)
 intro a7 c7
 refine HO_assign rfl rfl rfl ?_
 refine HO_nil ?_
 refine H_env (ρ':=[(2,_)]) ⟨rfl,trivial⟩ ?_
 refine H_world (kp [yy,nn] [_] rfl) ?_
 refine H_ret1 Try.results22 (.tmp rfl) (fun w hA => ⟨(a7,c7),congrArg Ending.returned ?_,?_,?_⟩)
 ·rfl
 ·trivial
 ·exact hA.keep (m:=[yy]) (Y:=[_]) rfl
theorem deletehd_spec (xs : List Hd) (a : Option Addr) (c : Nat) (i : Nat) (hi : i < xs.length) (hl : xs.length≤10000) : Spec Try.prog 21 #[.slice a (xs.length) c,.int .i64 ((i : Int)),.int .i64 ((i : Int) + 1)] [.own 26 kHd a c (xs)] (β:=Option Addr × Nat) (fun y => .slice y.1 ((xs.take i ++ xs.drop (i + 1)).length) y.2) (fun y => True) (fun y => [.own 26 kHd y.1 y.2 (xs.take i ++ xs.drop (i + 1))]):=by
 refine Spec.enter (vs:=[_,_,_]) Try.func21 rfl Try.ntmps21 rfl (Nat.le_of_ble_eq_true rfl) (fun w0 ok0 => ?_)
 generalize hM0 : blks _ = M0
 refine H_seq ?_
 refine H_region (l:=[_]) rfl ?_
 refine HO_assign rfl rfl rfl ?_
 refine HO_nil ?_
 refine H_env (ρ':=[(0,_),(1,_),(2,_)]) ⟨rfl,rfl,rfl,trivial⟩ ?_
 refine H_seq ?_
 refine H_ownLen (i:=0) rfl (fun hlc hmc => ?_)
 refine H_region (l:=[_,_,_,_,_,_]) rfl ?_
 iterate 4 refine HO_move rfl rfl rfl ?_
 refine HO_bi rfl rfl rfl (bi_len_sl Try.underlying33) ?_
 refine HO_of_val rfl rfl rfl (V_sliceA_lhm (h':=i + 1) rfl rfl rfl rfl ?_ rfl rfl Try.underlying33 Try.sizeOf26 ?_ ?_ ?_) ?_
 ·omega
 ·omega
 ·omega
 ·omega
 refine HO_nil ?_
 refine H_env (ρ':=[(0,_),(1,_),(2,_)]) ⟨rfl,rfl,rfl,trivial⟩ ?_
 refine H_seq ?_
 refine H_seq ?_
 refine H_region (l:=[_,_,_]) rfl ?_
 iterate 2 refine HO_move rfl rfl rfl ?_
 refine HO_bin rfl rfl rfl rfl bin_eql ?_
 refine HO_nil ?_
 refine H_env (ρ':=[(16,_),(0,_),(1,_),(2,_)]) ⟨rfl,rfl,rfl,rfl,trivial⟩ ?_
 refine H_cond rfl ?_ ?_
 ·intro h16
  replace h16:=dT h16
  (exfalso;omega)
 intro h16
 replace h16:=dF h16
 refine H_skip ?_
 refine H_seq ?_
 refine H_region (l:=[_,_,_]) rfl ?_
 refine HO_move rfl rfl rfl ?_
 refine HO_bi rfl rfl rfl (bi_len_sl Try.underlying33) ?_
 refine HO_assign rfl rfl rfl ?_
 refine HO_nil ?_
 refine H_env (ρ':=[(7,_),(0,_),(1,_),(2,_)]) ⟨rfl,rfl,rfl,rfl,trivial⟩ ?_
 refine H_seq ?_
 refine H_openRow (i:=0) (R:=[]) rfl (by omega) (fun g0 vals0 spare0 ha0 hl0 hs0 hc0 hm0 ho0 => ?_)
 cases ha0
 replace hl0 : vals0.length = _ * 1:=hl0
 replace hs0 : spare0.length = _ * 1:=hs0
 (try simp only [List.length_cons,List.length_nil] at hl0 hs0 hc0)
 (try simp only [maxLen] at hm0)
 refine H_drawB (m:=[nn,yy]) (Xs:=[_]) (fuel:=8) (l:=#[false,false,false,false,false,false,false,false]) mixed rfl rfl rfl ?_
 refine HA_take (i:=0) bp rfl rfl rfl rfl (by kernel_rfl) rfl (V_move rfl) (kp [nn,yy] [_] rfl) ?_
 refine HA_take (i:=1) bp rfl rfl rfl rfl (by kernel_rfl) rfl (V_move rfl) (kp [nn,yy] [_] rfl) ?_
 refine HA_take (i:=2) bp rfl rfl rfl rfl (by kernel_rfl) rfl (V_sliceR_h rfl rfl rfl Try.underlying33 Try.sizeOf26 ?_) (kp [nn,yy] [_] rfl) ?_
 ·omega
 refine HA_take (i:=3) bp rfl rfl rfl rfl (by kernel_rfl) rfl (V_move rfl) (kp [nn,yy] [_] rfl) ?_
 refine HA_take (i:=4) bp rfl rfl rfl rfl (by kernel_rfl) rfl (V_move rfl) (kp [nn,yy] [_] rfl) ?_
 refine HA_take (i:=5) bp rfl rfl rfl rfl (by kernel_rfl) rfl (V_sliceR_l (l:=i + 1) rfl rfl ?_ Try.underlying33 Try.sizeOf26 ?_) (kp [nn,yy] [_] rfl) ?_
 ·omega
 ·omega
 refine HA_loud1 (i:=6) (by kernel_rfl) rfl ?_
 refine HO_appendR (i:=0) (j:=0) (R:=[_]) (vals0.take (i * 1)) ((vals0.drop (i * 1)).take (vals0.drop ((i + 1) * 1)).length) ((vals0.drop (i * 1)).drop (vals0.drop ((i + 1) * 1)).length ++ spare0) (vals0.take ((i + 1) * 1)) (vals0.drop ((i + 1) * 1)) (spare0) rfl rfl rfl rfl Try.underlying33 Try.underlying33 Try.sizeOf26 rfl rfl ?_ ?_ ?_ ?_ ?_ ?_ ?_ ?_ ?_
 ·omega
 ·(rw [List.length_drop];omega)
 ·(rw [← List.append_assoc,List.take_append_drop])
 ·(intro hne;have:=List.length_pos_iff.2 hne;rw [List.length_drop] at this;rw [List.length_take];split <;> omega)
 ·(rw [← List.append_assoc (List.take _ (vals0.drop (i * 1))),List.take_append_drop,← List.append_assoc,List.take_append_drop])
 ·(simp only [List.length_take,List.length_drop];omega)
 ·(intro _;rw [List.length_take];omega)
 ·exact (fun u hu => ho0 u (List.mem_of_mem_drop hu))
 refine HA_back rfl (kp [nn,yy] [_] rfl) ?_
 refine HA_take (i:=7) bp rfl rfl rfl rfl (by kernel_rfl) rfl (V_assign rfl) (kp [nn,yy] [_] rfl) ?_
 refine HA_done (by kernel_rfl) ?_
 refine H_env (ρ':=[(0,_),(7,_)]) ⟨rfl,rfl,trivial⟩ ?_
 refine H_seq ?_
 refine H_region (l:=[_,_,_,_,_,_]) rfl ?_
 iterate 2 refine HO_move rfl rfl rfl ?_
 refine HO_bi rfl rfl rfl (bi_len_sl Try.underlying33) ?_
 refine HO_move rfl rfl rfl ?_
 refine HO_of_val rfl rfl rfl (V_sliceR_lh rfl rfl rfl rfl rfl Try.underlying33 Try.sizeOf26 ?_ ?_) ?_
 ·omega
 ·omega
 refine HO_clearR (i:=0) (sz:=1) (R:=[_]) (vals0.take (i * 1) ++ vals0.drop ((i + 1) * 1)) ((vals0.drop (i * 1)).drop (vals0.drop ((i + 1) * 1)).length) (spare0) rfl rfl Try.underlying33 Try.zeroValue26 rfl (by decide) rfl ?_ ?_ ?_ ?_ ?_
 ·omega
 ·(simp only [List.append_assoc])
 ·(simp only [List.length_drop];omega)
 ·(simp only [List.length_append,List.length_take,List.length_drop];split <;> omega)
 intro nz6_5 hnz6_5
 refine HO_nil ?_
 refine H_env (ρ':=[(0,_)]) ⟨rfl,trivial⟩ ?_
 refine H_seq ?_
 refine H_closeRow (i:=0) (R:=[_]) (kd:=kHd) (cp:=c) (xs.take i ++ xs.drop (i + 1)) (vals0.take (i * 1) ++ vals0.drop ((i + 1) * 1)) (nz6_5 ++ spare0) rfl ?_ ?_ ?_ ?_ ?_ ?_ ?_
 ·(simp only [List.append_assoc])
 ·omega
 ·(show _ = c * 1;simp only [List.length_append,List.length_take,List.length_drop];omega)
 ·(simp only [List.length_append,List.length_take,List.length_drop];omega)
 ·(simp only [maxLen];omega)
 ·exact (fun ok w hA => rowRep.del2 (hA _ (List.mem_of_getElem? (i:=0) rfl)) (by omega))
 refine H_region (l:=[_,_]) rfl ?_
 refine HO_move rfl rfl rfl ?_
 refine HO_assign rfl rfl rfl ?_
 refine HO_nil ?_
 refine H_env (ρ':=[(6,_)]) ⟨rfl,trivial⟩ ?_
 refine H_ret1 Try.results21 (.tmp rfl) (fun w hA => ⟨(some ⟨g0,0,none⟩,c),congrArg Ending.returned ?_,?_,?_⟩)
 ·(have hq : i + (xs.length - (i + 1)) = (xs.take i ++ xs.drop (i + 1)).length:=by simp only [List.length_append,List.length_take,List.length_drop];omega);rw [hq]
 ·trivial
 ·exact hA.keep (m:=[yy,nn]) (Y:=[_]) rfl
theorem has_spec (g : Nat) (ha : Option Addr) (n hc : Nat) (mo : Int) (i : Int)  : Spec Try.prog 25 #[.pointer (some ⟨g,0,none⟩),.int .i64 (i)] [.loc g [.slice ha (n) hc,.int .i64 (mo)] 37] (β:=Unit) (fun y => .bool (decide (Net.ix i n < n))) (fun y => True) (fun y => [.loc g [.slice ha (n) hc,.int .i64 (mo)] 37]):=by
 refine Spec.enter (vs:=[_,_]) Try.func25 rfl Try.ntmps25 rfl (Nat.le_of_ble_eq_true rfl) (fun w0 ok0 => ?_)
 generalize hM0 : blks _ = M0
 refine H_seq ?_
 refine H_region (l:=[_]) rfl ?_
 refine HO_assign rfl rfl rfl ?_
 refine HO_nil ?_
 refine H_env (ρ':=[(0,_),(1,_)]) ⟨rfl,rfl,trivial⟩ ?_
 refine H_seq ?_
 refine H_region (l:=[_,_,_,_,_,_,_,_,_,_,_,_]) rfl ?_
 refine HO_move rfl rfl rfl ?_
 refine HO_bin rfl rfl rfl rfl bin_geq ?_
 refine HO_move rfl rfl rfl ?_
 refine HO_split (d:=7) rfl ?_ ?_
 ·intro h7
  replace h7:=dT h7
  iterate 2 refine HO_move rfl rfl rfl ?_
  refine HO_nilCheck rfl rfl rfl ?_
  refine HO_fieldAddr (r:=0) rfl rfl rfl Try.underlying35 rfl Try.sizeOf33 rfl ?_
  refine HO_load1 (i:=0) (j:=0) rfl rfl rfl Try.isAgg33 rfl (.loc _ _ _) rfl rfl ?_
  refine HO_bi rfl rfl rfl (bi_len_sl Try.underlying33) ?_
  refine HO_bin rfl rfl rfl rfl bin_lss ?_
  refine HO_pick_t rfl rfl rfl rfl ?_
  refine HO_assign rfl rfl rfl ?_
  refine HO_nil ?_
  refine H_env (ρ':=[(4,_)]) ⟨rfl,trivial⟩ ?_
  refine H_ret1 Try.results25 (.tmp rfl) (fun w hA => ⟨(),congrArg Ending.returned ?_,?_,?_⟩)
  ·(exact congrArg Value.bool (by first | rfl | (simp [Net.ix_lt, *];done) | (simp_all [Net.ix_lt];done) | (simp_all [Net.ix_lt];omega)))
  ·trivial
  ·exact hA.keep (m:=[yy]) (Y:=[_]) rfl
 intro h7
 replace h7:=dF h7
 iterate 7 refine HO_no rfl rfl rfl ?_
 refine HO_pick_f rfl rfl rfl rfl ?_
 refine HO_assign rfl rfl rfl ?_
 refine HO_nil ?_
 refine H_env (ρ':=[(4,_)]) ⟨rfl,trivial⟩ ?_
 refine H_ret1 Try.results25 (.tmp rfl) (fun w hA => ⟨(),congrArg Ending.returned ?_,?_,?_⟩)
 ·(exact congrArg Value.bool (by first | rfl | (simp [Net.ix_lt, *];done) | (simp_all [Net.ix_lt];done) | (simp_all [Net.ix_lt];omega)))
 ·trivial
 ·exact hA.keep (m:=[yy]) (Y:=[_]) rfl
theorem full_spec (g : Nat) (ha : Option Addr) (n hc : Nat) (mo : Int)  : Spec Try.prog 17 #[.pointer (some ⟨g,0,none⟩)] [.loc g [.slice ha (n) hc,.int .i64 (mo)] 37] (β:=Unit) (fun y => .bool (decide (mo≤(n : Int)))) (fun y => True) (fun y => [.loc g [.slice ha (n) hc,.int .i64 (mo)] 37]):=by
 refine Spec.enter (vs:=[_]) Try.func17 rfl Try.ntmps17 rfl (Nat.le_of_ble_eq_true rfl) (fun w0 ok0 => ?_)
 generalize hM0 : blks _ = M0
 refine H_seq ?_
 refine H_region (l:=[_]) rfl ?_
 refine HO_assign rfl rfl rfl ?_
 refine HO_nil ?_
 refine H_env (ρ':=[(0,_)]) ⟨rfl,trivial⟩ ?_
 refine H_seq ?_
 refine H_drawB (m:=[yy]) (Xs:=[_]) (fuel:=11) (l:=#[false,false,false,false,false,false,false,false,false,false,false]) mixed rfl rfl rfl ?_
 refine HA_take (i:=0) bp rfl rfl rfl rfl (by kernel_rfl) rfl (V_move rfl) (fun _ hA => hA) ?_
 refine HA_take (i:=1) bp rfl rfl rfl rfl (by kernel_rfl) rfl (V_nilCheck rfl) (fun _ hA => hA) ?_
 refine HA_take (i:=2) bp rfl rfl rfl rfl (by kernel_rfl) rfl (V_fieldAddr (r:=0) rfl Try.underlying35 rfl Try.sizeOf33 rfl) (fun _ hA => hA) ?_
 refine HA_take (i:=3) bp rfl rfl rfl rfl (by kernel_rfl) rfl (V_load1 (i:=0) (j:=0) rfl Try.isAgg33 rfl (.loc _ _ _) rfl rfl) (fun _ hA => hA) ?_
 refine HA_take (i:=4) bp rfl rfl rfl rfl (by kernel_rfl) rfl (V_bi rfl (bi_len_sl Try.underlying33)) (fun _ hA => hA) ?_
 refine HA_take (i:=5) bp rfl rfl rfl rfl (by kernel_rfl) rfl (V_move rfl) (fun _ hA => hA) ?_
 refine HA_take (i:=6) bp rfl rfl rfl rfl (by kernel_rfl) rfl (V_nilCheck rfl) (fun _ hA => hA) ?_
 refine HA_take (i:=7) bp rfl rfl rfl rfl (by kernel_rfl) rfl (V_fieldAddr (r:=1) rfl Try.underlying35 rfl Try.sizeOf3 rfl) (fun _ hA => hA) ?_
 refine HA_take (i:=8) bp rfl rfl rfl rfl (by kernel_rfl) rfl (V_load1 (i:=0) (j:=1) rfl Try.isAgg3 rfl (.loc _ _ _) rfl rfl) (fun _ hA => hA) ?_
 refine HA_take (i:=9) bp rfl rfl rfl rfl (by kernel_rfl) rfl (V_bin rfl rfl bin_geq) (fun _ hA => hA) ?_
 refine HA_take (i:=10) bp rfl rfl rfl rfl (by kernel_rfl) rfl (V_assign rfl) (fun _ hA => hA) ?_
 refine HA_done (by kernel_rfl) ?_
 refine H_env (ρ':=[(2,_)]) ⟨rfl,trivial⟩ ?_
 refine H_ret1 Try.results17 (.tmp rfl) (fun w hA => ⟨(),congrArg Ending.returned ?_,?_,?_⟩)
 ·(exact congrArg Value.bool (by first | rfl | (simp [Net.ix_lt, *];done) | (simp_all [Net.ix_lt];done) | (simp_all [Net.ix_lt];omega)))
 ·trivial
 ·exact hA.keep (m:=[yy]) (Y:=[_]) rfl
theorem made_spec (g : Nat) (ha : Option Addr) (n hc : Nat) (mo : Int)  : Spec Try.prog 15 #[.pointer (some ⟨g,0,none⟩)] [.loc g [.slice ha (n) hc,.int .i64 (mo)] 37] (β:=Unit) (fun y => .bool (decide (0 < mo))) (fun y => True) (fun y => [.loc g [.slice ha (n) hc,.int .i64 (mo)] 37]):=by
 refine Spec.enter (vs:=[_]) Try.func15 rfl Try.ntmps15 rfl (Nat.le_of_ble_eq_true rfl) (fun w0 ok0 => ?_)
 generalize hM0 : blks _ = M0
 refine H_seq ?_
 refine H_region (l:=[_]) rfl ?_
 refine HO_assign rfl rfl rfl ?_
 refine HO_nil ?_
 refine H_env (ρ':=[(0,_)]) ⟨rfl,trivial⟩ ?_
 refine H_seq ?_
 refine H_region (l:=[_,_,_,_,_,_,_,_,_,_,_]) rfl ?_
 refine HO_move rfl rfl rfl ?_
 refine HO_bin (r:=.bool true) rfl rfl rfl rfl (bin_ptr_ne_pn Try.runUnderlying38) ?_
 iterate 2 refine HO_move rfl rfl rfl ?_
 refine HO_nilCheck rfl rfl rfl ?_
 refine HO_fieldAddr (r:=0) rfl rfl rfl Try.underlying37 rfl Try.sizeOf35 rfl ?_
 refine HO_fieldAddr (r:=1) rfl rfl rfl Try.underlying35 rfl Try.sizeOf3 rfl ?_
 refine HO_load1 (i:=0) (j:=1) rfl rfl rfl Try.isAgg3 rfl (.loc _ _ _) rfl rfl ?_
 refine HO_bin rfl rfl rfl rfl bin_gtr ?_
 refine HO_pick_t rfl rfl rfl rfl ?_
 refine HO_assign rfl rfl rfl ?_
 refine HO_nil ?_
 refine H_env (ρ':=[(2,_)]) ⟨rfl,trivial⟩ ?_
 refine H_ret1 Try.results15 (.tmp rfl) (fun w hA => ⟨(),congrArg Ending.returned ?_,?_,?_⟩)
 ·(exact congrArg Value.bool (by first | rfl | (simp [Net.ix_lt, *];done) | (simp_all [Net.ix_lt];done) | (simp_all [Net.ix_lt];omega)))
 ·trivial
 ·exact hA.keep (m:=[yy]) (Y:=[_]) rfl
theorem made_nil  : Spec Try.prog 15 #[.pointer none] [] (β:=Unit) (fun y => .bool (false)) (fun y => True) (fun y => []):=by
 refine Spec.enter (vs:=[_]) Try.func15 rfl Try.ntmps15 rfl (Nat.le_of_ble_eq_true rfl) (fun w0 ok0 => ?_)
 generalize hM0 : blks _ = M0
 have hMn:=@noM _ _ hM0 (by simp [Atom.dat,Atom.elem])
 refine H_seq ?_
 refine H_region (l:=[_]) rfl ?_
 refine HO_assign rfl rfl rfl ?_
 refine HO_nil ?_
 refine H_env (ρ':=[(0,_)]) ⟨rfl,trivial⟩ ?_
 refine H_seq ?_
 refine H_region (l:=[_,_,_,_,_,_,_,_,_,_,_]) rfl ?_
 refine HO_move rfl rfl rfl ?_
 refine HO_bin (r:=.bool false) rfl rfl rfl rfl (bin_ptr_ne_nn Try.runUnderlying38) ?_
 refine HO_move rfl rfl rfl ?_
 iterate 6 refine HO_no rfl rfl rfl ?_
 refine HO_pick_f rfl rfl rfl rfl ?_
 refine HO_assign rfl rfl rfl ?_
 refine HO_nil ?_
 refine H_env (ρ':=[(2,_)]) ⟨rfl,trivial⟩ ?_
 refine H_ret1 Try.results15 (.tmp rfl) (fun w hA => ⟨(),congrArg Ending.returned ?_,?_,?_⟩)
 ·rfl
 ·trivial
 ·exact hA.keep (m:=[]) (Y:=[]) rfl
theorem may_spec (g : Nat) (ha : Option Addr) (n hc : Nat) (mo : Int) (i : Int) (h0 : 0 < mo) : Spec Try.prog 12 #[.pointer (some ⟨g,0,none⟩),.int .i64 (i)] [.loc g [.slice ha (n) hc,.int .i64 (mo)] 37] (β:=Unit) (fun y => .int .i64 (Net.mayE i n)) (fun y => True) (fun y => [.loc g [.slice ha (n) hc,.int .i64 (mo)] 37]):=by
 refine Spec.enter (vs:=[_,_]) Try.func12 rfl Try.ntmps12 rfl (Nat.le_of_ble_eq_true rfl) (fun w0 ok0 => ?_)
 generalize hM0 : blks _ = M0
 refine H_seq ?_
 refine H_region (l:=[_]) rfl ?_
 refine HO_assign rfl rfl rfl ?_
 refine HO_nil ?_
 refine H_env (ρ':=[(0,_),(1,_)]) ⟨rfl,rfl,trivial⟩ ?_
 refine H_seq ?_
 refine H_block ?_
 refine H_seq ?_
 refine H_region (l:=[_,_,_,_]) rfl ?_
 refine HO_move rfl rfl rfl ?_
 refine HO_call (first:=[]) (capt:=[]) (is:=[0]) (R:=[]) rfl rfl rfl rfl rfl Try.call15 rfl (made_spec _ _ _ _ _) ?_
 intro y7 hy7
 clear y7 hy7
 refine HO_not rfl rfl rfl ?_
 refine HO_assign rfl rfl rfl ?_
 refine HO_nil ?_
 refine H_env (ρ':=[(5,_),(0,_),(1,_)]) ⟨rfl,rfl,rfl,trivial⟩ ?_
 refine H_cond rfl ?_ ?_
 ·intro h5
  replace h5:=dF (nT h5)
  (exact absurd h0 h5)
 intro h5
 replace h5:=dT (nF h5)
 refine H_seq ?_
 refine H_region (l:=[_,_,_,_,_,_,_]) rfl ?_
 refine HO_move rfl rfl rfl ?_
 refine HO_nilCheck rfl rfl rfl ?_
 refine HO_fieldAddr (r:=0) rfl rfl rfl Try.underlying37 rfl Try.sizeOf35 rfl ?_
 refine HO_move rfl rfl rfl ?_
 refine HO_call (first:=[]) (capt:=[]) (is:=[0]) (R:=[]) rfl rfl rfl rfl rfl Try.call25 rfl (has_spec _ _ _ _ _ _) ?_
 intro y14 hy14
 clear y14 hy14
 refine HO_not rfl rfl rfl ?_
 refine HO_assign rfl rfl rfl ?_
 refine HO_nil ?_
 refine H_env (ρ':=[(9,_)]) ⟨rfl,trivial⟩ ?_
 refine H_cond rfl ?_ ?_
 ·intro h9
  replace h9:=dF (nT h9)
  refine H_seq ?_
  refine H_region (l:=[_]) rfl ?_
  refine HO_assign rfl rfl rfl ?_
  refine HO_nil ?_
  refine H_env (ρ':=[(4,_)]) ⟨rfl,trivial⟩ ?_
  refine H_ret1 Try.results12 (.tmp rfl) (fun w hA => ⟨(),congrArg Ending.returned ?_,?_,?_⟩)
  ·(exact congrArg (Value.int .i64) (by unfold Net.mayE;first | (rw [if_neg h9];done) | (rw [if_pos h9];done)))
  ·trivial
  ·exact hA.keep (m:=[yy]) (Y:=[_]) rfl
 intro h9
 replace h9:=dT (nF h9)
 refine H_skip ?_
 refine H_blk ?_
 refine H_seq ?_
 refine H_region (l:=[_]) rfl ?_
 refine HO_assign rfl rfl rfl ?_
 refine HO_nil ?_
 refine H_env (ρ':=[(4,_)]) ⟨rfl,trivial⟩ ?_
 refine H_ret1 Try.results12 (.tmp rfl) (fun w hA => ⟨(),congrArg Ending.returned ?_,?_,?_⟩)
 ·(exact congrArg (Value.int .i64) (by unfold Net.mayE;first | (rw [if_neg h9];done) | (rw [if_pos h9];done)))
 ·trivial
 ·exact hA.keep (m:=[yy]) (Y:=[_]) rfl
theorem len_spec (g : Nat) (ha : Option Addr) (n hc : Nat) (mo : Int) (h0 : 0 < mo) : Spec Try.prog 10 #[.pointer (some ⟨g,0,none⟩)] [.loc g [.slice ha (n) hc,.int .i64 (mo)] 37] (β:=Unit) (fun y => .int .i64 ((n : Int))) (fun y => True) (fun y => [.loc g [.slice ha (n) hc,.int .i64 (mo)] 37]):=by
 refine Spec.enter (vs:=[_]) Try.func10 rfl Try.ntmps10 rfl (Nat.le_of_ble_eq_true rfl) (fun w0 ok0 => ?_)
 generalize hM0 : blks _ = M0
 refine H_seq ?_
 refine H_region (l:=[_]) rfl ?_
 refine HO_assign rfl rfl rfl ?_
 refine HO_nil ?_
 refine H_env (ρ':=[(0,_)]) ⟨rfl,trivial⟩ ?_
 refine H_seq ?_
 refine H_seq ?_
 refine H_region (l:=[_,_,_]) rfl ?_
 refine HO_move rfl rfl rfl ?_
 refine HO_call (first:=[]) (capt:=[]) (is:=[0]) (R:=[]) rfl rfl rfl rfl rfl Try.call15 rfl (made_spec _ _ _ _ _) ?_
 intro y4 hy4
 clear y4 hy4
 refine HO_not rfl rfl rfl ?_
 refine HO_nil ?_
 refine H_env (ρ':=[(5,_),(0,_)]) ⟨rfl,rfl,trivial⟩ ?_
 refine H_cond rfl ?_ ?_
 ·intro h5
  replace h5:=dF (nT h5)
  (exact absurd h0 h5)
 intro h5
 replace h5:=dT (nF h5)
 refine H_skip ?_
 refine H_seq ?_
 refine H_region (l:=[_,_,_,_,_,_,_]) rfl ?_
 refine HO_move rfl rfl rfl ?_
 refine HO_nilCheck rfl rfl rfl ?_
 refine HO_fieldAddr (r:=0) rfl rfl rfl Try.underlying37 rfl Try.sizeOf35 rfl ?_
 refine HO_fieldAddr (r:=0) rfl rfl rfl Try.underlying35 rfl Try.sizeOf33 rfl ?_
 refine HO_load1 (i:=0) (j:=0) rfl rfl rfl Try.isAgg33 rfl (.loc _ _ _) rfl rfl ?_
 refine HO_bi rfl rfl rfl (bi_len_sl Try.underlying33) ?_
 refine HO_assign rfl rfl rfl ?_
 refine HO_nil ?_
 refine H_env (ρ':=[(2,_)]) ⟨rfl,trivial⟩ ?_
 refine H_ret1 Try.results10 (.tmp rfl) (fun w hA => ⟨(),congrArg Ending.returned ?_,?_,?_⟩)
 ·rfl
 ·trivial
 ·exact hA.keep (m:=[yy]) (Y:=[_]) rfl
end Go.Wk
