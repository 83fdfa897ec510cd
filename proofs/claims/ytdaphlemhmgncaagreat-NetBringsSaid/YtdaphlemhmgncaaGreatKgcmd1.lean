/- Contracts of the program's functions, each proved by walking its code. -/
import Derived.Test.YtdaphlemhmgncaaGreatKgref01b
import Derived.Test.YtdaphlemhmgncaaGreatCmd
import Derived.Test.YtdaphlemhmgncaaGreatWk17
set_option maxRecDepth 100000
set_option linter.unusedVariables false
set_option linter.unusedSimpArgs false
namespace Go.Wk.Fcmd1
open Go Go.RowKit Go.Proofs Go.Wk
theorem bd68_0_1_ii {x1 : Int} {x2 : Int} : ∀ w,(Instr.build 68 (List.toArray (List.zip [0,1] [.int .i64 x1,.int .i64 x2]))).run Tryz.prog w = .ok (.agg #[.int .i64 x1,.int .i64 x2,.int .i64 (0),.string (⟨#[]⟩),.string (⟨#[]⟩),.string (⟨#[]⟩),.string (⟨#[]⟩),.int .i64 (0)]) w:=fun _ => by kernel_rfl
theorem bd68_0_1_2_3_iiit {x1 : Int} {x2 : Int} {x3 : Int} {x4 : ByteArray} : ∀ w,(Instr.build 68 (List.toArray (List.zip [0,1,2,3] [.int .i64 x1,.int .i64 x2,.int .i64 x3,.string x4]))).run Tryz.prog w = .ok (.agg #[.int .i64 x1,.int .i64 x2,.int .i64 x3,.string x4,.string (⟨#[]⟩),.string (⟨#[]⟩),.string (⟨#[]⟩),.int .i64 (0)]) w:=fun _ => by kernel_rfl
theorem bd68_0_i {x1 : Int} : ∀ w,(Instr.build 68 (List.toArray (List.zip [0] [.int .i64 x1]))).run Tryz.prog w = .ok (.agg #[.int .i64 x1,.int .i64 (0),.int .i64 (0),.string (⟨#[]⟩),.string (⟨#[]⟩),.string (⟨#[]⟩),.string (⟨#[]⟩),.int .i64 (0)]) w:=fun _ => by kernel_rfl
theorem eq68_eql {x y : Operand} {a0 b0 : Int} {a1 b1 : Int} {a2 b2 : Int} {a3 b3 : ByteArray} {a4 b4 : ByteArray} {a5 b5 : ByteArray} {a6 b6 : ByteArray} {a7 b7 : Int} : BinR Tryz.prog .eql 68 x y (.agg #[.int .i64 a0,.int .i64 a1,.int .i64 a2,.string a3,.string a4,.string a5,.string a6,.int .i64 a7]) (.agg #[.int .i64 b0,.int .i64 b1,.int .i64 b2,.string b3,.string b4,.string b5,.string b6,.int .i64 b7]) (.bool (decide (a0 = b0) && (decide (a1 = b1) && (decide (a2 = b2) && (decide (a3 = b3) && (decide (a4 = b4) && (decide (a5 = b5) && (decide (a6 = b6) && (decide (a7 = b7) && true))))))))) :=
 bin_eqs_agg (by kernel_rfl) Tryz.underlying68 (by kernel_rfl) (fun w => (eqF_int (by decide) Tryz.underlying3 Tryz.isAgg3 rfl rfl (eqF_int (by decide) Tryz.underlying3 Tryz.isAgg3 rfl rfl (eqF_int (by decide) Tryz.underlying3 Tryz.isAgg3 rfl rfl (eqF_str (by decide) Tryz.underlying9 Tryz.isAgg9 rfl rfl (eqF_str (by decide) Tryz.underlying9 Tryz.isAgg9 rfl rfl (eqF_str (by decide) Tryz.underlying9 Tryz.isAgg9 rfl rfl (eqF_str (by decide) Tryz.underlying9 Tryz.isAgg9 rfl rfl (eqF_int (by decide) Tryz.underlying3 Tryz.isAgg3 rfl rfl eqF_nil)))))))))
end Go.Wk.Fcmd1
namespace Go.Wk
open Go Go.RowKit Go.Proofs Fcmd1 
theorem key_spec (s : ByteArray)  : Spec Tryz.prog 137 #[.string (s)] [] (β:=Unit) (fun y => .bool (Cmd.keyok s)) (fun y => True) (fun y => []):=by
 refine Spec.enter (vs:=[_]) Tryz.func137 rfl Tryz.ntmps137 rfl (Nat.le_of_ble_eq_true rfl) (fun w0 ok0 => ?_)
 generalize hM0 : blks _ = M0
 have hMn:=@noM _ _ hM0 (by simp [Atom.dat,Atom.elem])
 refine H_seq ?_
 refine H_region (l:=[_]) rfl ?_
 refine HO_assign rfl rfl rfl ?_
 refine HO_nil ?_
 refine H_env (ρ':=[(0,_)]) ⟨rfl,trivial⟩ ?_
 refine H_seq ?_
 refine H_region (l:=[_,_,_,_,_,_,_,_]) rfl ?_
 refine HO_move rfl rfl rfl ?_
 refine HO_bin rfl rfl rfl rfl bin_nes ?_
 refine HO_move rfl rfl rfl ?_
 refine HO_split (d:=5) rfl ?_ ?_
 ·intro h5
  replace h5:=dF (nT h5)
  refine HO_move rfl rfl rfl ?_
  refine HO_bi rfl rfl rfl (bi_len_str Tryz.underlying9) ?_
  refine HO_bin rfl rfl rfl rfl bin_leq ?_
  refine HO_pick_t rfl rfl rfl rfl ?_
  refine HO_assign rfl rfl rfl ?_
  refine HO_nil ?_
  refine H_env (ρ':=[(2,_)]) ⟨rfl,trivial⟩ ?_
  refine H_ret1 Tryz.results137 (.tmp rfl) (fun w hA => ⟨(),congrArg Ending.returned ?_,?_,?_⟩)
  ·(exact congrArg Value.bool (by first | exact Cmd.key_t h5 | exact Cmd.key_f h5))
  ·trivial
  ·exact hA.keep (m:=[]) (Y:=[]) rfl
 intro h5
 replace h5:=dT (nF h5)
 iterate 3 refine HO_no rfl rfl rfl ?_
 refine HO_pick_f rfl rfl rfl rfl ?_
 refine HO_assign rfl rfl rfl ?_
 refine HO_nil ?_
 refine H_env (ρ':=[(2,_)]) ⟨rfl,trivial⟩ ?_
 refine H_ret1 Tryz.results137 (.tmp rfl) (fun w hA => ⟨(),congrArg Ending.returned ?_,?_,?_⟩)
 ·(exact congrArg Value.bool (by first | exact Cmd.key_t h5 | exact Cmd.key_f h5))
 ·trivial
 ·exact hA.keep (m:=[]) (Y:=[]) rfl
theorem value_spec (s : ByteArray)  : Spec Tryz.prog 139 #[.string (s)] [] (β:=Unit) (fun y => .bool (Cmd.valok s)) (fun y => True) (fun y => []):=by
 refine Spec.enter (vs:=[_]) Tryz.func139 rfl Tryz.ntmps139 rfl (Nat.le_of_ble_eq_true rfl) (fun w0 ok0 => ?_)
 generalize hM0 : blks _ = M0
 have hMn:=@noM _ _ hM0 (by simp [Atom.dat,Atom.elem])
 refine H_seq ?_
 refine H_region (l:=[_]) rfl ?_
 refine HO_assign rfl rfl rfl ?_
 refine HO_nil ?_
 refine H_env (ρ':=[(0,_)]) ⟨rfl,trivial⟩ ?_
 refine H_seq ?_
 refine H_region (l:=[_,_,_,_]) rfl ?_
 refine HO_move rfl rfl rfl ?_
 refine HO_bi rfl rfl rfl (bi_len_str Tryz.underlying9) ?_
 refine HO_bin rfl rfl rfl rfl bin_leq ?_
 refine HO_assign rfl rfl rfl ?_
 refine HO_nil ?_
 refine H_env (ρ':=[(2,_)]) ⟨rfl,trivial⟩ ?_
 refine H_ret1 Tryz.results139 (.tmp rfl) (fun w hA => ⟨(),congrArg Ending.returned ?_,?_,?_⟩)
 ·(exact congrArg Value.bool (Cmd.val_eq s))
 ·trivial
 ·exact hA.keep (m:=[]) (Y:=[]) rfl
theorem fits1_spec (g : Nat) (ki se sq : Int) (ke ol va ti : ByteArray) (li : Int)  : Spec Tryz.prog 136 #[.pointer (some ⟨g,0,none⟩)] [.loc g [.int .i64 (ki),.int .i64 (se),.int .i64 (sq),.string (ke),.string (ol),.string (va),.string (ti),.int .i64 (li)] 68] (β:=Unit) (fun y => .bool (Cmd.keyok ke)) (fun y => True) (fun y => [.loc g [.int .i64 (ki),.int .i64 (se),.int .i64 (sq),.string (ke),.string (ol),.string (va),.string (ti),.int .i64 (li)] 68]):=by
 refine Spec.enter (vs:=[_]) Tryz.func136 rfl Tryz.ntmps136 rfl (Nat.le_of_ble_eq_true rfl) (fun w0 ok0 => ?_)
 generalize hM0 : blks _ = M0
 refine H_seq ?_
 refine H_region (l:=[_]) rfl ?_
 refine HO_assign rfl rfl rfl ?_
 refine HO_nil ?_
 refine H_env (ρ':=[(0,_)]) ⟨rfl,trivial⟩ ?_
 refine H_seq ?_
 refine H_region (l:=[_,_,_,_]) rfl ?_
 refine HO_fieldAddr (r:=3) rfl rfl rfl Tryz.underlying68 rfl Tryz.sizeOf9 rfl ?_
 refine HO_load1 (i:=0) (j:=3) rfl rfl rfl Tryz.isAgg9 rfl (.loc _ _ _) rfl rfl ?_
 refine HO_call (first:=[]) (capt:=[]) (is:=[]) (R:=[_]) rfl rfl rfl rfl rfl Tryz.call137 rfl (key_spec _) ?_
 intro y4 hy4
 clear y4 hy4
 refine HO_assign rfl rfl rfl ?_
 refine HO_nil ?_
 refine H_env (ρ':=[(1,_)]) ⟨rfl,trivial⟩ ?_
 refine H_ret1 Tryz.results136 (.tmp rfl) (fun w hA => ⟨(),congrArg Ending.returned ?_,?_,?_⟩)
 ·rfl
 ·trivial
 ·exact hA.keep (m:=[yy]) (Y:=[_]) rfl
theorem fits4_spec (g : Nat) (ki se sq : Int) (ke ol va ti : ByteArray) (li : Int)  : Spec Tryz.prog 141 #[.pointer (some ⟨g,0,none⟩)] [.loc g [.int .i64 (ki),.int .i64 (se),.int .i64 (sq),.string (ke),.string (ol),.string (va),.string (ti),.int .i64 (li)] 68] (β:=Unit) (fun y => .bool (Cmd.scanok ⟨ki,se,sq,ke,ol,va,ti,li⟩)) (fun y => True) (fun y => [.loc g [.int .i64 (ki),.int .i64 (se),.int .i64 (sq),.string (ke),.string (ol),.string (va),.string (ti),.int .i64 (li)] 68]):=by
 refine Spec.enter (vs:=[_]) Tryz.func141 rfl Tryz.ntmps141 rfl (Nat.le_of_ble_eq_true rfl) (fun w0 ok0 => ?_)
 generalize hM0 : blks _ = M0
 refine H_seq ?_
 refine H_region (l:=[_]) rfl ?_
 refine HO_assign rfl rfl rfl ?_
 refine HO_nil ?_
 refine H_env (ρ':=[(0,_)]) ⟨rfl,trivial⟩ ?_
 refine H_seq ?_
 refine H_region (l:=[_,_,_,_,_,_,_,_,_,_,_,_,_,_,_,_,_,_,_]) rfl ?_
 refine HO_fieldAddr (r:=3) rfl rfl rfl Tryz.underlying68 rfl Tryz.sizeOf9 rfl ?_
 refine HO_load1 (i:=0) (j:=3) rfl rfl rfl Tryz.isAgg9 rfl (.loc _ _ _) rfl rfl ?_
 refine HO_bi rfl rfl rfl (bi_len_str Tryz.underlying9) ?_
 refine HO_fieldAddr (r:=6) rfl rfl rfl Tryz.underlying68 rfl Tryz.sizeOf9 rfl ?_
 refine HO_load1 (i:=0) (j:=6) rfl rfl rfl Tryz.isAgg9 rfl (.loc _ _ _) rfl rfl ?_
 refine HO_bi rfl rfl rfl (bi_len_str Tryz.underlying9) ?_
 refine HO_bi rfl rfl rfl bi_max2 ?_
 refine HO_bin rfl rfl rfl rfl bin_leq ?_
 refine HO_move rfl rfl rfl ?_
 refine HO_split (d:=10) rfl ?_ ?_
 ·intro h10
  replace h10:=dT h10
  refine HO_fieldAddr (r:=7) rfl rfl rfl Tryz.underlying68 rfl Tryz.sizeOf3 rfl ?_
  refine HO_load1 (i:=0) (j:=7) rfl rfl rfl Tryz.isAgg3 rfl (.loc _ _ _) rfl rfl ?_
  refine HO_bin rfl rfl rfl rfl bin_geq ?_
  refine HO_pick_t rfl rfl rfl rfl ?_
  refine HO_move rfl rfl rfl ?_
  refine HO_split (d:=15) rfl ?_ ?_
  ·intro h15
   replace h15:=dT h15
   refine HO_fieldAddr (r:=7) rfl rfl rfl Tryz.underlying68 rfl Tryz.sizeOf3 rfl ?_
   refine HO_load1 (i:=0) (j:=7) rfl rfl rfl Tryz.isAgg3 rfl (.loc _ _ _) rfl rfl ?_
   refine HO_bin rfl rfl rfl rfl bin_leq ?_
   refine HO_pick_t rfl rfl rfl rfl ?_
   refine HO_assign rfl rfl rfl ?_
   refine HO_nil ?_
   refine H_env (ρ':=[(1,_)]) ⟨rfl,trivial⟩ ?_
   refine H_ret1 Tryz.results141 (.tmp rfl) (fun w hA => ⟨(),congrArg Ending.returned ?_,?_,?_⟩)
   ·(exact congrArg Value.bool (by first | exact Cmd.scan_a (k:=⟨ki,se,sq,ke,ol,va,ti,li⟩) h10 | exact Cmd.scan_b (k:=⟨ki,se,sq,ke,ol,va,ti,li⟩) h10 h15 | exact Cmd.scan_c (k:=⟨ki,se,sq,ke,ol,va,ti,li⟩) h10 h15))
   ·trivial
   ·exact hA.keep (m:=[yy]) (Y:=[_]) rfl
  intro h15
  replace h15:=dF h15
  iterate 3 refine HO_no rfl rfl rfl ?_
  refine HO_pick_f rfl rfl rfl rfl ?_
  refine HO_assign rfl rfl rfl ?_
  refine HO_nil ?_
  refine H_env (ρ':=[(1,_)]) ⟨rfl,trivial⟩ ?_
  refine H_ret1 Tryz.results141 (.tmp rfl) (fun w hA => ⟨(),congrArg Ending.returned ?_,?_,?_⟩)
  ·(exact congrArg Value.bool (by first | exact Cmd.scan_a (k:=⟨ki,se,sq,ke,ol,va,ti,li⟩) h10 | exact Cmd.scan_b (k:=⟨ki,se,sq,ke,ol,va,ti,li⟩) h10 h15 | exact Cmd.scan_c (k:=⟨ki,se,sq,ke,ol,va,ti,li⟩) h10 h15))
  ·trivial
  ·exact hA.keep (m:=[yy]) (Y:=[_]) rfl
 intro h10
 replace h10:=dF h10
 iterate 3 refine HO_no rfl rfl rfl ?_
 refine HO_pick_f rfl rfl rfl rfl ?_
 refine HO_move rfl rfl rfl ?_
 iterate 3 refine HO_no rfl rfl rfl ?_
 refine HO_pick_f rfl rfl rfl rfl ?_
 refine HO_assign rfl rfl rfl ?_
 refine HO_nil ?_
 refine H_env (ρ':=[(1,_)]) ⟨rfl,trivial⟩ ?_
 refine H_ret1 Tryz.results141 (.tmp rfl) (fun w hA => ⟨(),congrArg Ending.returned ?_,?_,?_⟩)
 ·(exact congrArg Value.bool (by first | exact Cmd.scan_a (k:=⟨ki,se,sq,ke,ol,va,ti,li⟩) h10 | exact Cmd.scan_b (k:=⟨ki,se,sq,ke,ol,va,ti,li⟩) h10 h15 | exact Cmd.scan_c (k:=⟨ki,se,sq,ke,ol,va,ti,li⟩) h10 h15))
 ·trivial
 ·exact hA.keep (m:=[yy]) (Y:=[_]) rfl
theorem fits5_spec  : Spec Tryz.prog 142 #[] [] (β:=Unit) (fun y => .bool (false)) (fun y => True) (fun y => []):=by
 refine Spec.enter (vs:=[]) Tryz.func142 rfl Tryz.ntmps142 rfl (Nat.le_of_ble_eq_true rfl) (fun w0 ok0 => ?_)
 generalize hM0 : blks _ = M0
 have hMn:=@noM _ _ hM0 (by simp [Atom.dat,Atom.elem])
 refine H_seq ?_
 refine H_region (l:=[_]) rfl ?_
 refine HO_assign rfl rfl rfl ?_
 refine HO_nil ?_
 refine H_env (ρ':=[]) trivial ?_
 refine H_seq ?_
 refine H_region (l:=[_]) rfl ?_
 refine HO_assign rfl rfl rfl ?_
 refine HO_nil ?_
 refine H_ret1 Tryz.results142 (.tmp rfl) (fun w hA => ⟨(),congrArg Ending.returned ?_,?_,?_⟩)
 ·rfl
 ·trivial
 ·exact hA.keep (m:=[]) (Y:=[]) rfl
theorem fits2_spec (g g2 : Nat) (ki se sq : Int) (ke ol va ti : ByteArray) (li : Int)  : Spec Tryz.prog 138 #[.pointer (some ⟨g2,0,none⟩),.pointer (some ⟨g,0,none⟩)] [.loc g2 [.func (.func 136) #[] #[.pointer (some ⟨g,0,none⟩)]] 27,.loc g [.int .i64 (ki),.int .i64 (se),.int .i64 (sq),.string (ke),.string (ol),.string (va),.string (ti),.int .i64 (li)] 68] (β:=Unit) (fun y => .bool ((Cmd.keyok ke && Cmd.valok va))) (fun y => True) (fun y => [.loc g2 [.func (.func 136) #[] #[.pointer (some ⟨g,0,none⟩)]] 27,.loc g [.int .i64 (ki),.int .i64 (se),.int .i64 (sq),.string (ke),.string (ol),.string (va),.string (ti),.int .i64 (li)] 68]):=by
 refine Spec.enter (vs:=[_,_]) Tryz.func138 rfl Tryz.ntmps138 rfl (Nat.le_of_ble_eq_true rfl) (fun w0 ok0 => ?_)
 generalize hM0 : blks _ = M0
 refine H_seq ?_
 refine H_region (l:=[_]) rfl ?_
 refine HO_assign rfl rfl rfl ?_
 refine HO_nil ?_
 refine H_env (ρ':=[(0,_),(1,_)]) ⟨rfl,rfl,trivial⟩ ?_
 refine H_seq ?_
 refine H_region (l:=[_,_,_,_,_,_,_,_]) rfl ?_
 refine HO_load1 (i:=0) (j:=0) rfl rfl rfl Tryz.isAgg27 rfl (.loc _ _ _) rfl rfl ?_
 refine HO_call (first:=[]) (capt:=[_]) (is:=[1]) (R:=[_]) rfl rfl rfl rfl rfl Tryz.call136 rfl (fits1_spec _ _ _ _ _ _ _ _ _) ?_
 intro y4 hy4
 clear y4 hy4
 refine HO_move rfl rfl rfl ?_
 refine HO_split (d:=5) rfl ?_ ?_
 ·intro h5
  refine HO_fieldAddr (r:=5) rfl rfl rfl Tryz.underlying68 rfl Tryz.sizeOf9 rfl ?_
  refine HO_load1 (i:=0) (j:=5) rfl rfl rfl Tryz.isAgg9 rfl (.loc _ _ _) rfl rfl ?_
  refine HO_call (first:=[]) (capt:=[]) (is:=[]) (R:=[_,_]) rfl rfl rfl rfl rfl Tryz.call139 rfl (value_spec _) ?_
  intro y8 hy8
  clear y8 hy8
  refine HO_pick_t rfl rfl rfl rfl ?_
  refine HO_assign rfl rfl rfl ?_
  refine HO_nil ?_
  refine H_env (ρ':=[(2,_)]) ⟨rfl,trivial⟩ ?_
  refine H_ret1 Tryz.results138 (.tmp rfl) (fun w hA => ⟨(),congrArg Ending.returned ?_,?_,?_⟩)
  ·(exact congrArg Value.bool (by simp [h5]))
  ·trivial
  ·exact hA.only (is:=[0,0]) (Z:=[]) rfl
 intro h5
 iterate 3 refine HO_no rfl rfl rfl ?_
 refine HO_pick_f rfl rfl rfl rfl ?_
 refine HO_assign rfl rfl rfl ?_
 refine HO_nil ?_
 refine H_env (ρ':=[(2,_)]) ⟨rfl,trivial⟩ ?_
 refine H_ret1 Tryz.results138 (.tmp rfl) (fun w hA => ⟨(),congrArg Ending.returned ?_,?_,?_⟩)
 ·(exact congrArg Value.bool (by simp [h5]))
 ·trivial
 ·exact hA.only (is:=[0,0]) (Z:=[]) rfl
theorem fits3_spec (g g2 : Nat) (ki se sq : Int) (ke ol va ti : ByteArray) (li : Int)  : Spec Tryz.prog 140 #[.pointer (some ⟨g2,0,none⟩),.pointer (some ⟨g,0,none⟩)] [.loc g2 [.func (.func 136) #[] #[.pointer (some ⟨g,0,none⟩)]] 27,.loc g [.int .i64 (ki),.int .i64 (se),.int .i64 (sq),.string (ke),.string (ol),.string (va),.string (ti),.int .i64 (li)] 68] (β:=Unit) (fun y => .bool ((Cmd.keyok ke && (Cmd.valok ol && Cmd.valok va)))) (fun y => True) (fun y => [.loc g2 [.func (.func 136) #[] #[.pointer (some ⟨g,0,none⟩)]] 27,.loc g [.int .i64 (ki),.int .i64 (se),.int .i64 (sq),.string (ke),.string (ol),.string (va),.string (ti),.int .i64 (li)] 68]):=by
 refine Spec.enter (vs:=[_,_]) Tryz.func140 rfl Tryz.ntmps140 rfl (Nat.le_of_ble_eq_true rfl) (fun w0 ok0 => ?_)
 generalize hM0 : blks _ = M0
 refine H_seq ?_
 refine H_region (l:=[_]) rfl ?_
 refine HO_assign rfl rfl rfl ?_
 refine HO_nil ?_
 refine H_env (ρ':=[(0,_),(1,_)]) ⟨rfl,rfl,trivial⟩ ?_
 refine H_seq ?_
 refine H_region (l:=[_,_,_,_,_,_,_,_,_,_,_,_,_]) rfl ?_
 refine HO_load1 (i:=0) (j:=0) rfl rfl rfl Tryz.isAgg27 rfl (.loc _ _ _) rfl rfl ?_
 refine HO_call (first:=[]) (capt:=[_]) (is:=[1]) (R:=[_]) rfl rfl rfl rfl rfl Tryz.call136 rfl (fits1_spec _ _ _ _ _ _ _ _ _) ?_
 intro y4 hy4
 clear y4 hy4
 refine HO_move rfl rfl rfl ?_
 refine HO_split (d:=5) rfl ?_ ?_
 ·intro h5
  refine HO_fieldAddr (r:=4) rfl rfl rfl Tryz.underlying68 rfl Tryz.sizeOf9 rfl ?_
  refine HO_load1 (i:=0) (j:=4) rfl rfl rfl Tryz.isAgg9 rfl (.loc _ _ _) rfl rfl ?_
  refine HO_call (first:=[]) (capt:=[]) (is:=[]) (R:=[_,_]) rfl rfl rfl rfl rfl Tryz.call139 rfl (value_spec _) ?_
  intro y8 hy8
  clear y8 hy8
  refine HO_pick_t rfl rfl rfl rfl ?_
  refine HO_move rfl rfl rfl ?_
  refine HO_split (d:=10) rfl ?_ ?_
  ·intro h10
   refine HO_fieldAddr (r:=5) rfl rfl rfl Tryz.underlying68 rfl Tryz.sizeOf9 rfl ?_
   refine HO_load1 (i:=0) (j:=5) rfl rfl rfl Tryz.isAgg9 rfl (.loc _ _ _) rfl rfl ?_
   refine HO_call (first:=[]) (capt:=[]) (is:=[]) (R:=[_,_]) rfl rfl rfl rfl rfl Tryz.call139 rfl (value_spec _) ?_
   intro y13 hy13
   clear y13 hy13
   refine HO_pick_t rfl rfl rfl rfl ?_
   refine HO_assign rfl rfl rfl ?_
   refine HO_nil ?_
   refine H_env (ρ':=[(2,_)]) ⟨rfl,trivial⟩ ?_
   refine H_ret1 Tryz.results140 (.tmp rfl) (fun w hA => ⟨(),congrArg Ending.returned ?_,?_,?_⟩)
   ·(exact congrArg Value.bool (by first | (simp [h5,h10];done) | (simp [h5];done)))
   ·trivial
   ·exact hA.only (is:=[0,0]) (Z:=[]) rfl
  intro h10
  iterate 3 refine HO_no rfl rfl rfl ?_
  refine HO_pick_f rfl rfl rfl rfl ?_
  refine HO_assign rfl rfl rfl ?_
  refine HO_nil ?_
  refine H_env (ρ':=[(2,_)]) ⟨rfl,trivial⟩ ?_
  refine H_ret1 Tryz.results140 (.tmp rfl) (fun w hA => ⟨(),congrArg Ending.returned ?_,?_,?_⟩)
  ·(exact congrArg Value.bool (by first | (simp [h5,h10];done) | (simp [h5];done)))
  ·trivial
  ·exact hA.only (is:=[0,0]) (Z:=[]) rfl
 intro h5
 iterate 3 refine HO_no rfl rfl rfl ?_
 refine HO_pick_f rfl rfl rfl rfl ?_
 refine HO_move rfl rfl rfl ?_
 iterate 3 refine HO_no rfl rfl rfl ?_
 refine HO_pick_f rfl rfl rfl rfl ?_
 refine HO_assign rfl rfl rfl ?_
 refine HO_nil ?_
 refine H_env (ρ':=[(2,_)]) ⟨rfl,trivial⟩ ?_
 refine H_ret1 Tryz.results140 (.tmp rfl) (fun w hA => ⟨(),congrArg Ending.returned ?_,?_,?_⟩)
 ·(exact congrArg Value.bool (by first | (simp [h5,h10];done) | (simp [h5];done)))
 ·trivial
 ·exact hA.only (is:=[0,0]) (Z:=[]) rfl
theorem fits_3 (se sq : Int) (ke ol va ti : ByteArray) (li : Int)  : Spec Tryz.prog 117 #[.agg #[.int .i64 (3),.int .i64 (se),.int .i64 (sq),.string (ke),.string (ol),.string (va),.string (ti),.int .i64 (li)]] [] (β:=Nat × Nat) (fun y => .tuple #[.agg #[.int .i64 (3),.int .i64 (se),.int .i64 (sq),.string (ke),.string (⟨#[]⟩),.string (va),.string (⟨#[]⟩),.int .i64 (0)],.func (.func 138) #[] #[.pointer (some ⟨y.2,0,none⟩),.pointer (some ⟨y.1,0,none⟩)]]) (fun y => True) (fun y => [.loc y.2 [.func (.func 136) #[] #[.pointer (some ⟨y.1,0,none⟩)]] 27,.loc y.1 [.int .i64 (3),.int .i64 (se),.int .i64 (sq),.string (ke),.string (ol),.string (va),.string (ti),.int .i64 (li)] 68]):=by
 refine Spec.enter (vs:=[_]) Tryz.func117 rfl Tryz.ntmps117 rfl (Nat.le_of_ble_eq_true rfl) (fun w0 ok0 => ?_)
 generalize hM0 : blks _ = M0
 have hMn:=@noM _ _ hM0 (by simp [Atom.dat,Atom.elem])
 refine H_seq ?_
 refine H_region (l:=[_,_,_]) rfl ?_
 refine HO_box (cs:=[_,_,_,_,_,_,_,_]) rfl rfl rfl rfl ?_
 intro g1
 refine HO_alloc (cs:=[_,_,_,_,_,_,_,_]) rfl rfl Tryz.zeroValue68 rfl ?_
 intro g2
 refine HO_assign rfl rfl rfl ?_
 refine HO_nil ?_
 refine H_env (ρ':=[(2,_),(1,_)]) ⟨rfl,rfl,trivial⟩ ?_
 refine H_seq ?_
 refine H_region (l:=[_,_,_,_,_,_,_,_,_,_,_]) rfl ?_
 refine HO_fieldAddr (r:=0) rfl rfl rfl Tryz.underlying68 rfl Tryz.sizeOf3 rfl ?_
 refine HO_load1 (i:=1) (j:=0) rfl rfl rfl Tryz.isAgg3 rfl (.loc _ _ _) rfl rfl ?_
 refine HO_fieldAddr (r:=1) rfl rfl rfl Tryz.underlying68 rfl Tryz.sizeOf3 rfl ?_
 refine HO_load1 (i:=1) (j:=1) rfl rfl rfl Tryz.isAgg3 rfl (.loc _ _ _) rfl rfl ?_
 refine HO_fieldAddr (r:=2) rfl rfl rfl Tryz.underlying68 rfl Tryz.sizeOf3 rfl ?_
 refine HO_load1 (i:=1) (j:=2) rfl rfl rfl Tryz.isAgg3 rfl (.loc _ _ _) rfl rfl ?_
 refine HO_fieldAddr (r:=3) rfl rfl rfl Tryz.underlying68 rfl Tryz.sizeOf9 rfl ?_
 refine HO_load1 (i:=1) (j:=3) rfl rfl rfl Tryz.isAgg9 rfl (.loc _ _ _) rfl rfl ?_
 refine HO_build (xo:=[(0,_),(1,_),(2,_),(3,_)]) (vs:=[_,_,_,_]) rfl rfl rfl rfl (bd68_0_1_2_3_iiit) ?_
 refine HO_alloc (cs:=[_,_,_,_,_,_,_,_]) rfl rfl Tryz.zeroValue68 rfl ?_
 intro g4
 refine HO_store (i:=0) (j:=0) (us:=[]) (old:=[_,_,_,_,_,_,_,_]) (ts:=[]) (cs:=[_,_,_,_,_,_,_,_]) (R:=[_,_]) (new:=[_,_,_,_,_,_,_,_]) rfl rfl rfl Tryz.sizeOf68 rfl (by simp [Value.oneCell']) rfl rfl rfl rfl rfl rfl ?_
 refine HO_nil ?_
 refine H_env (ρ':=[(4,_),(2,_),(1,_)]) ⟨rfl,rfl,rfl,trivial⟩ ?_
 refine H_seq ?_
 refine H_region (l:=[_,_,_]) rfl ?_
 refine HO_makeFunc (vs:=[]) (us:=[_]) rfl rfl rfl rfl ?_
 refine HO_alloc (cs:=[_]) rfl rfl Tryz.zeroValue27 rfl ?_
 intro g5
 refine HO_store (i:=0) (j:=0) (us:=[]) (old:=[_]) (ts:=[]) (cs:=[_]) (R:=[_,_,_]) (new:=[_]) rfl rfl rfl Tryz.sizeOf27 rfl (by simp [Value.oneCell']) rfl rfl rfl rfl rfl rfl ?_
 refine HO_nil ?_
 refine H_env (ρ':=[(5,_),(4,_),(2,_),(1,_)]) ⟨rfl,rfl,rfl,rfl,trivial⟩ ?_
 refine H_seq ?_
 refine H_seq ?_
 refine H_region (l:=[_,_]) rfl ?_
 refine HO_fieldAddr (r:=0) rfl rfl rfl Tryz.underlying68 rfl Tryz.sizeOf3 rfl ?_
 refine HO_load1 (i:=3) (j:=0) rfl rfl rfl Tryz.isAgg3 rfl (.loc _ _ _) rfl rfl ?_
 refine HO_nil ?_
 refine H_env (ρ':=[(17,_),(5,_),(4,_),(2,_),(1,_)]) ⟨rfl,rfl,rfl,rfl,rfl,trivial⟩ ?_
 refine H_block ?_
 refine H_seq ?_
 refine H_region (l:=[_,_]) rfl ?_
 refine HO_bin rfl rfl rfl rfl (bin_lit (by decide) (fun _ => rfl)) ?_
 refine HO_assign rfl rfl rfl ?_
 refine HO_nil ?_
 refine H_env (ρ':=[(18,_),(17,_),(5,_),(4,_),(2,_),(1,_)]) ⟨rfl,rfl,rfl,rfl,rfl,rfl,trivial⟩ ?_
 refine H_cond rfl (fun _ => ?_) (fun h => nomatch h)
 refine H_seq ?_
 refine H_region (l:=[_,_,_,_]) rfl ?_
 refine HO_fieldAddr (r:=5) rfl rfl rfl Tryz.underlying68 rfl Tryz.sizeOf9 rfl ?_
 refine HO_load1 (i:=3) (j:=5) rfl rfl rfl Tryz.isAgg9 rfl (.loc _ _ _) rfl rfl ?_
 refine HO_fieldAddr (r:=5) rfl rfl rfl Tryz.underlying68 rfl Tryz.sizeOf9 rfl ?_
 refine HO_store (i:=1) (j:=0) (us:=[_,_,_,_,_]) (old:=[_]) (ts:=[_,_]) (cs:=[_]) (R:=[_,_,_]) (new:=[_,_,_,_,_,_,_,_]) rfl rfl rfl Tryz.sizeOf9 rfl (by simp [Value.oneCell']) rfl rfl rfl rfl rfl rfl ?_
 refine HO_nil ?_
 refine H_env (ρ':=[(5,_),(4,_),(2,_),(1,_)]) ⟨rfl,rfl,rfl,rfl,trivial⟩ ?_
 refine H_seq ?_
 refine H_region (l:=[_,_,_,_]) rfl ?_
 refine HO_loadA (i:=0) (us:=[]) (cs:=[_,_,_,_,_,_,_,_]) (ts:=[]) rfl rfl rfl Tryz.isAgg68 Tryz.sizeOf68 rfl (.loc _ _ _) rfl rfl rfl rfl ?_
 refine HO_makeFunc (vs:=[]) (us:=[_,_]) rfl rfl rfl rfl ?_
 refine HO_store (i:=2) (j:=0) (us:=[]) (old:=[_,_,_,_,_,_,_,_]) (ts:=[]) (cs:=[_,_,_,_,_,_,_,_]) (R:=[_,_,_]) (new:=[_,_,_,_,_,_,_,_]) rfl rfl rfl Tryz.sizeOf68 rfl (by simp [Value.oneCell']) rfl rfl rfl rfl rfl rfl ?_
 refine HO_assign rfl rfl rfl ?_
 refine HO_nil ?_
 refine H_env (ρ':=[(3,_),(2,_)]) ⟨rfl,rfl,trivial⟩ ?_
 refine H_world (kp [yy,nn,yy,yy] [_,_,_] rfl) ?_
 refine H_ret2 Tryz.results117 (.cell rfl (fun w hA => run_loadVarA (cs:=[_,_,_,_,_,_,_,_]) (Tryz.isAgg68 w) (Tryz.sizeOf68 w) (Tells.cells (.loc _ _ _) (hA.get (i:=0) rfl)))) (.tmp rfl) (fun w hA => ⟨(g1,g5),congrArg Ending.returned ?_,?_,?_⟩)
 ·rfl
 ·trivial
 ·exact hA.keep (m:=[nn,yy,yy]) (Y:=[_,_]) rfl
theorem fits_4 (se sq : Int) (ke ol va ti : ByteArray) (li : Int)  : Spec Tryz.prog 117 #[.agg #[.int .i64 (4),.int .i64 (se),.int .i64 (sq),.string (ke),.string (ol),.string (va),.string (ti),.int .i64 (li)]] [] (β:=Nat × Nat) (fun y => .tuple #[.agg #[.int .i64 (4),.int .i64 (se),.int .i64 (sq),.string (ke),.string (⟨#[]⟩),.string (⟨#[]⟩),.string (⟨#[]⟩),.int .i64 (0)],.func (.func 136) #[] #[.pointer (some ⟨y.1,0,none⟩)]]) (fun y => True) (fun y => [.loc y.1 [.int .i64 (4),.int .i64 (se),.int .i64 (sq),.string (ke),.string (ol),.string (va),.string (ti),.int .i64 (li)] 68]):=by
 refine Spec.enter (vs:=[_]) Tryz.func117 rfl Tryz.ntmps117 rfl (Nat.le_of_ble_eq_true rfl) (fun w0 ok0 => ?_)
 generalize hM0 : blks _ = M0
 have hMn:=@noM _ _ hM0 (by simp [Atom.dat,Atom.elem])
 refine H_seq ?_
 refine H_region (l:=[_,_,_]) rfl ?_
 refine HO_box (cs:=[_,_,_,_,_,_,_,_]) rfl rfl rfl rfl ?_
 intro g1
 refine HO_alloc (cs:=[_,_,_,_,_,_,_,_]) rfl rfl Tryz.zeroValue68 rfl ?_
 intro g2
 refine HO_assign rfl rfl rfl ?_
 refine HO_nil ?_
 refine H_env (ρ':=[(2,_),(1,_)]) ⟨rfl,rfl,trivial⟩ ?_
 refine H_seq ?_
 refine H_region (l:=[_,_,_,_,_,_,_,_,_,_,_]) rfl ?_
 refine HO_fieldAddr (r:=0) rfl rfl rfl Tryz.underlying68 rfl Tryz.sizeOf3 rfl ?_
 refine HO_load1 (i:=1) (j:=0) rfl rfl rfl Tryz.isAgg3 rfl (.loc _ _ _) rfl rfl ?_
 refine HO_fieldAddr (r:=1) rfl rfl rfl Tryz.underlying68 rfl Tryz.sizeOf3 rfl ?_
 refine HO_load1 (i:=1) (j:=1) rfl rfl rfl Tryz.isAgg3 rfl (.loc _ _ _) rfl rfl ?_
 refine HO_fieldAddr (r:=2) rfl rfl rfl Tryz.underlying68 rfl Tryz.sizeOf3 rfl ?_
 refine HO_load1 (i:=1) (j:=2) rfl rfl rfl Tryz.isAgg3 rfl (.loc _ _ _) rfl rfl ?_
 refine HO_fieldAddr (r:=3) rfl rfl rfl Tryz.underlying68 rfl Tryz.sizeOf9 rfl ?_
 refine HO_load1 (i:=1) (j:=3) rfl rfl rfl Tryz.isAgg9 rfl (.loc _ _ _) rfl rfl ?_
 refine HO_build (xo:=[(0,_),(1,_),(2,_),(3,_)]) (vs:=[_,_,_,_]) rfl rfl rfl rfl (bd68_0_1_2_3_iiit) ?_
 refine HO_alloc (cs:=[_,_,_,_,_,_,_,_]) rfl rfl Tryz.zeroValue68 rfl ?_
 intro g4
 refine HO_store (i:=0) (j:=0) (us:=[]) (old:=[_,_,_,_,_,_,_,_]) (ts:=[]) (cs:=[_,_,_,_,_,_,_,_]) (R:=[_,_]) (new:=[_,_,_,_,_,_,_,_]) rfl rfl rfl Tryz.sizeOf68 rfl (by simp [Value.oneCell']) rfl rfl rfl rfl rfl rfl ?_
 refine HO_nil ?_
 refine H_env (ρ':=[(4,_),(2,_),(1,_)]) ⟨rfl,rfl,rfl,trivial⟩ ?_
 refine H_seq ?_
 refine H_region (l:=[_,_,_]) rfl ?_
 refine HO_makeFunc (vs:=[]) (us:=[_]) rfl rfl rfl rfl ?_
 refine HO_alloc (cs:=[_]) rfl rfl Tryz.zeroValue27 rfl ?_
 intro g5
 refine HO_store (i:=0) (j:=0) (us:=[]) (old:=[_]) (ts:=[]) (cs:=[_]) (R:=[_,_,_]) (new:=[_]) rfl rfl rfl Tryz.sizeOf27 rfl (by simp [Value.oneCell']) rfl rfl rfl rfl rfl rfl ?_
 refine HO_nil ?_
 refine H_env (ρ':=[(5,_),(4,_),(2,_),(1,_)]) ⟨rfl,rfl,rfl,rfl,trivial⟩ ?_
 refine H_seq ?_
 refine H_seq ?_
 refine H_region (l:=[_,_]) rfl ?_
 refine HO_fieldAddr (r:=0) rfl rfl rfl Tryz.underlying68 rfl Tryz.sizeOf3 rfl ?_
 refine HO_load1 (i:=3) (j:=0) rfl rfl rfl Tryz.isAgg3 rfl (.loc _ _ _) rfl rfl ?_
 refine HO_nil ?_
 refine H_env (ρ':=[(17,_),(5,_),(4,_),(2,_),(1,_)]) ⟨rfl,rfl,rfl,rfl,rfl,trivial⟩ ?_
 refine H_block ?_
 refine H_seq ?_
 refine H_region (l:=[_,_]) rfl ?_
 refine HO_bin rfl rfl rfl rfl (bin_lit (by decide) (fun _ => rfl)) ?_
 refine HO_assign rfl rfl rfl ?_
 refine HO_nil ?_
 refine H_env (ρ':=[(18,_),(17,_),(5,_),(4,_),(2,_),(1,_)]) ⟨rfl,rfl,rfl,rfl,rfl,rfl,trivial⟩ ?_
 refine H_cond rfl (fun h => nomatch h) (fun _ => ?_)
 refine H_seq ?_
 refine H_seq ?_
 refine H_region (l:=[_,_]) rfl ?_
 refine HO_bin rfl rfl rfl rfl (bin_lit (by decide) (fun _ => rfl)) ?_
 refine HO_assign rfl rfl rfl ?_
 refine HO_nil ?_
 refine H_env (ρ':=[(25,_),(17,_),(5,_),(4,_),(2,_),(1,_)]) ⟨rfl,rfl,rfl,rfl,rfl,rfl,trivial⟩ ?_
 refine H_cond rfl (fun _ => ?_) (fun h => nomatch h)
 refine H_skip ?_
 refine H_cond rfl (fun _ => ?_) (fun h => nomatch h)
 refine H_seq ?_
 refine H_drawB (m:=[yy,yy,nn,yy]) (Xs:=[_,_,_]) (fuel:=4) (l:=#[false,false,false,false]) mixed rfl rfl rfl ?_
 refine HA_take (i:=0) bp rfl rfl rfl rfl (by kernel_rfl) rfl (V_loadA (i:=1) (us:=[]) (cs:=[_,_,_,_,_,_,_,_]) (ts:=[]) rfl Tryz.isAgg68 Tryz.sizeOf68 rfl (.loc _ _ _) rfl rfl rfl rfl) (kp [yy,yy,nn,yy] [_,_,_] rfl) ?_
 refine HA_take (i:=1) bp rfl rfl rfl rfl (by kernel_rfl) rfl (V_load1 (i:=0) (j:=0) rfl Tryz.isAgg27 rfl (.loc _ _ _) rfl rfl) (kp [yy,yy,nn,yy] [_,_,_] rfl) ?_
 refine HA_loud1 (i:=2) (by kernel_rfl) rfl ?_
 refine HO_store (i:=2) (j:=0) (us:=[]) (old:=[_,_,_,_,_,_,_,_]) (ts:=[]) (cs:=[_,_,_,_,_,_,_,_]) (R:=[_,_,_]) (new:=[_,_,_,_,_,_,_,_]) rfl rfl rfl Tryz.sizeOf68 rfl (by simp [Value.oneCell']) rfl rfl rfl rfl rfl rfl ?_
 refine HA_back rfl (kp [nn,yy,yy,yy] [_,_,_] rfl) ?_
 refine HA_take (i:=3) bp rfl rfl rfl rfl (by kernel_rfl) rfl (V_assign rfl) (kp [nn,yy,yy,yy] [_,_,_] rfl) ?_
 refine HA_done (by kernel_rfl) ?_
 refine H_env (ρ':=[(3,_),(2,_)]) ⟨rfl,rfl,trivial⟩ ?_
 refine H_world (kp [yy,nn,nn,yy] [_,_] rfl) ?_
 refine H_ret2 Tryz.results117 (.cell rfl (fun w hA => run_loadVarA (cs:=[_,_,_,_,_,_,_,_]) (Tryz.isAgg68 w) (Tryz.sizeOf68 w) (Tells.cells (.loc _ _ _) (hA.get (i:=0) rfl)))) (.tmp rfl) (fun w hA => ⟨(g1,g5),congrArg Ending.returned ?_,?_,?_⟩)
 ·rfl
 ·trivial
 ·exact hA.keep (m:=[nn,yy]) (Y:=[_]) rfl
theorem fits_5 (se sq : Int) (ke ol va ti : ByteArray) (li : Int)  : Spec Tryz.prog 117 #[.agg #[.int .i64 (5),.int .i64 (se),.int .i64 (sq),.string (ke),.string (ol),.string (va),.string (ti),.int .i64 (li)]] [] (β:=Nat × Nat) (fun y => .tuple #[.agg #[.int .i64 (5),.int .i64 (se),.int .i64 (sq),.string (ke),.string (⟨#[]⟩),.string (⟨#[]⟩),.string (⟨#[]⟩),.int .i64 (0)],.func (.func 136) #[] #[.pointer (some ⟨y.1,0,none⟩)]]) (fun y => True) (fun y => [.loc y.1 [.int .i64 (5),.int .i64 (se),.int .i64 (sq),.string (ke),.string (ol),.string (va),.string (ti),.int .i64 (li)] 68]):=by
 refine Spec.enter (vs:=[_]) Tryz.func117 rfl Tryz.ntmps117 rfl (Nat.le_of_ble_eq_true rfl) (fun w0 ok0 => ?_)
 generalize hM0 : blks _ = M0
 have hMn:=@noM _ _ hM0 (by simp [Atom.dat,Atom.elem])
 refine H_seq ?_
 refine H_region (l:=[_,_,_]) rfl ?_
 refine HO_box (cs:=[_,_,_,_,_,_,_,_]) rfl rfl rfl rfl ?_
 intro g1
 refine HO_alloc (cs:=[_,_,_,_,_,_,_,_]) rfl rfl Tryz.zeroValue68 rfl ?_
 intro g2
 refine HO_assign rfl rfl rfl ?_
 refine HO_nil ?_
 refine H_env (ρ':=[(2,_),(1,_)]) ⟨rfl,rfl,trivial⟩ ?_
 refine H_seq ?_
 refine H_region (l:=[_,_,_,_,_,_,_,_,_,_,_]) rfl ?_
 refine HO_fieldAddr (r:=0) rfl rfl rfl Tryz.underlying68 rfl Tryz.sizeOf3 rfl ?_
 refine HO_load1 (i:=1) (j:=0) rfl rfl rfl Tryz.isAgg3 rfl (.loc _ _ _) rfl rfl ?_
 refine HO_fieldAddr (r:=1) rfl rfl rfl Tryz.underlying68 rfl Tryz.sizeOf3 rfl ?_
 refine HO_load1 (i:=1) (j:=1) rfl rfl rfl Tryz.isAgg3 rfl (.loc _ _ _) rfl rfl ?_
 refine HO_fieldAddr (r:=2) rfl rfl rfl Tryz.underlying68 rfl Tryz.sizeOf3 rfl ?_
 refine HO_load1 (i:=1) (j:=2) rfl rfl rfl Tryz.isAgg3 rfl (.loc _ _ _) rfl rfl ?_
 refine HO_fieldAddr (r:=3) rfl rfl rfl Tryz.underlying68 rfl Tryz.sizeOf9 rfl ?_
 refine HO_load1 (i:=1) (j:=3) rfl rfl rfl Tryz.isAgg9 rfl (.loc _ _ _) rfl rfl ?_
 refine HO_build (xo:=[(0,_),(1,_),(2,_),(3,_)]) (vs:=[_,_,_,_]) rfl rfl rfl rfl (bd68_0_1_2_3_iiit) ?_
 refine HO_alloc (cs:=[_,_,_,_,_,_,_,_]) rfl rfl Tryz.zeroValue68 rfl ?_
 intro g4
 refine HO_store (i:=0) (j:=0) (us:=[]) (old:=[_,_,_,_,_,_,_,_]) (ts:=[]) (cs:=[_,_,_,_,_,_,_,_]) (R:=[_,_]) (new:=[_,_,_,_,_,_,_,_]) rfl rfl rfl Tryz.sizeOf68 rfl (by simp [Value.oneCell']) rfl rfl rfl rfl rfl rfl ?_
 refine HO_nil ?_
 refine H_env (ρ':=[(4,_),(2,_),(1,_)]) ⟨rfl,rfl,rfl,trivial⟩ ?_
 refine H_seq ?_
 refine H_region (l:=[_,_,_]) rfl ?_
 refine HO_makeFunc (vs:=[]) (us:=[_]) rfl rfl rfl rfl ?_
 refine HO_alloc (cs:=[_]) rfl rfl Tryz.zeroValue27 rfl ?_
 intro g5
 refine HO_store (i:=0) (j:=0) (us:=[]) (old:=[_]) (ts:=[]) (cs:=[_]) (R:=[_,_,_]) (new:=[_]) rfl rfl rfl Tryz.sizeOf27 rfl (by simp [Value.oneCell']) rfl rfl rfl rfl rfl rfl ?_
 refine HO_nil ?_
 refine H_env (ρ':=[(5,_),(4,_),(2,_),(1,_)]) ⟨rfl,rfl,rfl,rfl,trivial⟩ ?_
 refine H_seq ?_
 refine H_seq ?_
 refine H_region (l:=[_,_]) rfl ?_
 refine HO_fieldAddr (r:=0) rfl rfl rfl Tryz.underlying68 rfl Tryz.sizeOf3 rfl ?_
 refine HO_load1 (i:=3) (j:=0) rfl rfl rfl Tryz.isAgg3 rfl (.loc _ _ _) rfl rfl ?_
 refine HO_nil ?_
 refine H_env (ρ':=[(17,_),(5,_),(4,_),(2,_),(1,_)]) ⟨rfl,rfl,rfl,rfl,rfl,trivial⟩ ?_
 refine H_block ?_
 refine H_seq ?_
 refine H_region (l:=[_,_]) rfl ?_
 refine HO_bin rfl rfl rfl rfl (bin_lit (by decide) (fun _ => rfl)) ?_
 refine HO_assign rfl rfl rfl ?_
 refine HO_nil ?_
 refine H_env (ρ':=[(18,_),(17,_),(5,_),(4,_),(2,_),(1,_)]) ⟨rfl,rfl,rfl,rfl,rfl,rfl,trivial⟩ ?_
 refine H_cond rfl (fun h => nomatch h) (fun _ => ?_)
 refine H_seq ?_
 refine H_seq ?_
 refine H_region (l:=[_,_]) rfl ?_
 refine HO_bin rfl rfl rfl rfl (bin_lit (by decide) (fun _ => rfl)) ?_
 refine HO_assign rfl rfl rfl ?_
 refine HO_nil ?_
 refine H_env (ρ':=[(25,_),(17,_),(5,_),(4,_),(2,_),(1,_)]) ⟨rfl,rfl,rfl,rfl,rfl,rfl,trivial⟩ ?_
 refine H_cond rfl (fun h => nomatch h) (fun _ => ?_)
 refine H_region (l:=[_,_]) rfl ?_
 refine HO_bin rfl rfl rfl rfl (bin_lit (by decide) (fun _ => rfl)) ?_
 refine HO_assign rfl rfl rfl ?_
 refine HO_nil ?_
 refine H_env (ρ':=[(25,_),(17,_),(5,_),(4,_),(2,_),(1,_)]) ⟨rfl,rfl,rfl,rfl,rfl,rfl,trivial⟩ ?_
 refine H_cond rfl (fun _ => ?_) (fun h => nomatch h)
 refine H_seq ?_
 refine H_drawB (m:=[yy,yy,nn,yy]) (Xs:=[_,_,_]) (fuel:=4) (l:=#[false,false,false,false]) mixed rfl rfl rfl ?_
 refine HA_take (i:=0) bp rfl rfl rfl rfl (by kernel_rfl) rfl (V_loadA (i:=1) (us:=[]) (cs:=[_,_,_,_,_,_,_,_]) (ts:=[]) rfl Tryz.isAgg68 Tryz.sizeOf68 rfl (.loc _ _ _) rfl rfl rfl rfl) (kp [yy,yy,nn,yy] [_,_,_] rfl) ?_
 refine HA_take (i:=1) bp rfl rfl rfl rfl (by kernel_rfl) rfl (V_load1 (i:=0) (j:=0) rfl Tryz.isAgg27 rfl (.loc _ _ _) rfl rfl) (kp [yy,yy,nn,yy] [_,_,_] rfl) ?_
 refine HA_loud1 (i:=2) (by kernel_rfl) rfl ?_
 refine HO_store (i:=2) (j:=0) (us:=[]) (old:=[_,_,_,_,_,_,_,_]) (ts:=[]) (cs:=[_,_,_,_,_,_,_,_]) (R:=[_,_,_]) (new:=[_,_,_,_,_,_,_,_]) rfl rfl rfl Tryz.sizeOf68 rfl (by simp [Value.oneCell']) rfl rfl rfl rfl rfl rfl ?_
 refine HA_back rfl (kp [nn,yy,yy,yy] [_,_,_] rfl) ?_
 refine HA_take (i:=3) bp rfl rfl rfl rfl (by kernel_rfl) rfl (V_assign rfl) (kp [nn,yy,yy,yy] [_,_,_] rfl) ?_
 refine HA_done (by kernel_rfl) ?_
 refine H_env (ρ':=[(3,_),(2,_)]) ⟨rfl,rfl,trivial⟩ ?_
 refine H_world (kp [yy,nn,nn,yy] [_,_] rfl) ?_
 refine H_ret2 Tryz.results117 (.cell rfl (fun w hA => run_loadVarA (cs:=[_,_,_,_,_,_,_,_]) (Tryz.isAgg68 w) (Tryz.sizeOf68 w) (Tells.cells (.loc _ _ _) (hA.get (i:=0) rfl)))) (.tmp rfl) (fun w hA => ⟨(g1,g5),congrArg Ending.returned ?_,?_,?_⟩)
 ·rfl
 ·trivial
 ·exact hA.keep (m:=[nn,yy]) (Y:=[_]) rfl
theorem fits_6 (se sq : Int) (ke ol va ti : ByteArray) (li : Int)  : Spec Tryz.prog 117 #[.agg #[.int .i64 (6),.int .i64 (se),.int .i64 (sq),.string (ke),.string (ol),.string (va),.string (ti),.int .i64 (li)]] [] (β:=Nat × Nat) (fun y => .tuple #[.agg #[.int .i64 (6),.int .i64 (se),.int .i64 (sq),.string (ke),.string (ol),.string (va),.string (⟨#[]⟩),.int .i64 (0)],.func (.func 140) #[] #[.pointer (some ⟨y.2,0,none⟩),.pointer (some ⟨y.1,0,none⟩)]]) (fun y => True) (fun y => [.loc y.2 [.func (.func 136) #[] #[.pointer (some ⟨y.1,0,none⟩)]] 27,.loc y.1 [.int .i64 (6),.int .i64 (se),.int .i64 (sq),.string (ke),.string (ol),.string (va),.string (ti),.int .i64 (li)] 68]):=by
 refine Spec.enter (vs:=[_]) Tryz.func117 rfl Tryz.ntmps117 rfl (Nat.le_of_ble_eq_true rfl) (fun w0 ok0 => ?_)
 generalize hM0 : blks _ = M0
 have hMn:=@noM _ _ hM0 (by simp [Atom.dat,Atom.elem])
 refine H_seq ?_
 refine H_region (l:=[_,_,_]) rfl ?_
 refine HO_box (cs:=[_,_,_,_,_,_,_,_]) rfl rfl rfl rfl ?_
 intro g1
 refine HO_alloc (cs:=[_,_,_,_,_,_,_,_]) rfl rfl Tryz.zeroValue68 rfl ?_
 intro g2
 refine HO_assign rfl rfl rfl ?_
 refine HO_nil ?_
 refine H_env (ρ':=[(2,_),(1,_)]) ⟨rfl,rfl,trivial⟩ ?_
 refine H_seq ?_
 refine H_region (l:=[_,_,_,_,_,_,_,_,_,_,_]) rfl ?_
 refine HO_fieldAddr (r:=0) rfl rfl rfl Tryz.underlying68 rfl Tryz.sizeOf3 rfl ?_
 refine HO_load1 (i:=1) (j:=0) rfl rfl rfl Tryz.isAgg3 rfl (.loc _ _ _) rfl rfl ?_
 refine HO_fieldAddr (r:=1) rfl rfl rfl Tryz.underlying68 rfl Tryz.sizeOf3 rfl ?_
 refine HO_load1 (i:=1) (j:=1) rfl rfl rfl Tryz.isAgg3 rfl (.loc _ _ _) rfl rfl ?_
 refine HO_fieldAddr (r:=2) rfl rfl rfl Tryz.underlying68 rfl Tryz.sizeOf3 rfl ?_
 refine HO_load1 (i:=1) (j:=2) rfl rfl rfl Tryz.isAgg3 rfl (.loc _ _ _) rfl rfl ?_
 refine HO_fieldAddr (r:=3) rfl rfl rfl Tryz.underlying68 rfl Tryz.sizeOf9 rfl ?_
 refine HO_load1 (i:=1) (j:=3) rfl rfl rfl Tryz.isAgg9 rfl (.loc _ _ _) rfl rfl ?_
 refine HO_build (xo:=[(0,_),(1,_),(2,_),(3,_)]) (vs:=[_,_,_,_]) rfl rfl rfl rfl (bd68_0_1_2_3_iiit) ?_
 refine HO_alloc (cs:=[_,_,_,_,_,_,_,_]) rfl rfl Tryz.zeroValue68 rfl ?_
 intro g4
 refine HO_store (i:=0) (j:=0) (us:=[]) (old:=[_,_,_,_,_,_,_,_]) (ts:=[]) (cs:=[_,_,_,_,_,_,_,_]) (R:=[_,_]) (new:=[_,_,_,_,_,_,_,_]) rfl rfl rfl Tryz.sizeOf68 rfl (by simp [Value.oneCell']) rfl rfl rfl rfl rfl rfl ?_
 refine HO_nil ?_
 refine H_env (ρ':=[(4,_),(2,_),(1,_)]) ⟨rfl,rfl,rfl,trivial⟩ ?_
 refine H_seq ?_
 refine H_region (l:=[_,_,_]) rfl ?_
 refine HO_makeFunc (vs:=[]) (us:=[_]) rfl rfl rfl rfl ?_
 refine HO_alloc (cs:=[_]) rfl rfl Tryz.zeroValue27 rfl ?_
 intro g5
 refine HO_store (i:=0) (j:=0) (us:=[]) (old:=[_]) (ts:=[]) (cs:=[_]) (R:=[_,_,_]) (new:=[_]) rfl rfl rfl Tryz.sizeOf27 rfl (by simp [Value.oneCell']) rfl rfl rfl rfl rfl rfl ?_
 refine HO_nil ?_
 refine H_env (ρ':=[(5,_),(4,_),(2,_),(1,_)]) ⟨rfl,rfl,rfl,rfl,trivial⟩ ?_
 refine H_seq ?_
 refine H_seq ?_
 refine H_region (l:=[_,_]) rfl ?_
 refine HO_fieldAddr (r:=0) rfl rfl rfl Tryz.underlying68 rfl Tryz.sizeOf3 rfl ?_
 refine HO_load1 (i:=3) (j:=0) rfl rfl rfl Tryz.isAgg3 rfl (.loc _ _ _) rfl rfl ?_
 refine HO_nil ?_
 refine H_env (ρ':=[(17,_),(5,_),(4,_),(2,_),(1,_)]) ⟨rfl,rfl,rfl,rfl,rfl,trivial⟩ ?_
 refine H_block ?_
 refine H_seq ?_
 refine H_region (l:=[_,_]) rfl ?_
 refine HO_bin rfl rfl rfl rfl (bin_lit (by decide) (fun _ => rfl)) ?_
 refine HO_assign rfl rfl rfl ?_
 refine HO_nil ?_
 refine H_env (ρ':=[(18,_),(17,_),(5,_),(4,_),(2,_),(1,_)]) ⟨rfl,rfl,rfl,rfl,rfl,rfl,trivial⟩ ?_
 refine H_cond rfl (fun h => nomatch h) (fun _ => ?_)
 refine H_seq ?_
 refine H_seq ?_
 refine H_region (l:=[_,_]) rfl ?_
 refine HO_bin rfl rfl rfl rfl (bin_lit (by decide) (fun _ => rfl)) ?_
 refine HO_assign rfl rfl rfl ?_
 refine HO_nil ?_
 refine H_env (ρ':=[(25,_),(17,_),(5,_),(4,_),(2,_),(1,_)]) ⟨rfl,rfl,rfl,rfl,rfl,rfl,trivial⟩ ?_
 refine H_cond rfl (fun h => nomatch h) (fun _ => ?_)
 refine H_region (l:=[_,_]) rfl ?_
 refine HO_bin rfl rfl rfl rfl (bin_lit (by decide) (fun _ => rfl)) ?_
 refine HO_assign rfl rfl rfl ?_
 refine HO_nil ?_
 refine H_env (ρ':=[(25,_),(17,_),(5,_),(4,_),(2,_),(1,_)]) ⟨rfl,rfl,rfl,rfl,rfl,rfl,trivial⟩ ?_
 refine H_cond rfl (fun h => nomatch h) (fun _ => ?_)
 refine H_seq ?_
 refine H_region (l:=[_,_]) rfl ?_
 refine HO_bin rfl rfl rfl rfl (bin_lit (by decide) (fun _ => rfl)) ?_
 refine HO_assign rfl rfl rfl ?_
 refine HO_nil ?_
 refine H_env (ρ':=[(30,_),(17,_),(5,_),(4,_),(2,_),(1,_)]) ⟨rfl,rfl,rfl,rfl,rfl,rfl,trivial⟩ ?_
 refine H_cond rfl (fun _ => ?_) (fun h => nomatch h)
 refine H_seq ?_
 refine H_drawB (m:=[yy,nn,yy,yy]) (Xs:=[_,_,_]) (fuel:=8) (l:=#[false,false,false,false,false,false,false,false]) mixed rfl rfl rfl ?_
 refine HA_take (i:=0) bp rfl rfl rfl rfl (by kernel_rfl) rfl (V_fieldAddr (r:=4) rfl Tryz.underlying68 rfl Tryz.sizeOf9 rfl) (kp [yy,nn,yy,yy] [_,_,_] rfl) ?_
 refine HA_take (i:=1) bp rfl rfl rfl rfl (by kernel_rfl) rfl (V_load1 (i:=2) (j:=4) rfl Tryz.isAgg9 rfl (.loc _ _ _) rfl rfl) (kp [yy,nn,yy,yy] [_,_,_] rfl) ?_
 refine HA_take (i:=2) bp rfl rfl rfl rfl (by kernel_rfl) rfl (V_fieldAddr (r:=5) rfl Tryz.underlying68 rfl Tryz.sizeOf9 rfl) (kp [yy,nn,yy,yy] [_,_,_] rfl) ?_
 refine HA_take (i:=3) bp rfl rfl rfl rfl (by kernel_rfl) rfl (V_load1 (i:=2) (j:=5) rfl Tryz.isAgg9 rfl (.loc _ _ _) rfl rfl) (kp [yy,nn,yy,yy] [_,_,_] rfl) ?_
 refine HA_take (i:=4) bp rfl rfl rfl rfl (by kernel_rfl) rfl (V_fieldAddr (r:=4) rfl Tryz.underlying68 rfl Tryz.sizeOf9 rfl) (kp [yy,nn,yy,yy] [_,_,_] rfl) ?_
 refine HA_loud1 (i:=5) (by kernel_rfl) rfl ?_
 refine HO_store (i:=1) (j:=0) (us:=[_,_,_,_]) (old:=[_]) (ts:=[_,_,_]) (cs:=[_]) (R:=[_,_,_]) (new:=[_,_,_,_,_,_,_,_]) rfl rfl rfl Tryz.sizeOf9 rfl (by simp [Value.oneCell']) rfl rfl rfl rfl rfl rfl ?_
 refine HA_back rfl (kp [nn,yy,yy,yy] [_,_,_] rfl) ?_
 refine HA_take (i:=6) bp rfl rfl rfl rfl (by kernel_rfl) rfl (V_fieldAddr (r:=5) rfl Tryz.underlying68 rfl Tryz.sizeOf9 rfl) (kp [nn,yy,yy,yy] [_,_,_] rfl) ?_
 refine HA_loud1 (i:=7) (by kernel_rfl) rfl ?_
 refine HO_store (i:=0) (j:=0) (us:=[_,_,_,_,_]) (old:=[_]) (ts:=[_,_]) (cs:=[_]) (R:=[_,_,_]) (new:=[_,_,_,_,_,_,_,_]) rfl rfl rfl Tryz.sizeOf9 rfl (by simp [Value.oneCell']) rfl rfl rfl rfl rfl rfl ?_
 refine HA_back rfl (kp [nn,yy,yy,yy] [_,_,_] rfl) ?_
 refine HA_done (by kernel_rfl) ?_
 refine H_env (ρ':=[(5,_),(4,_),(2,_),(1,_)]) ⟨rfl,rfl,rfl,rfl,trivial⟩ ?_
 refine H_seq ?_
 refine H_region (l:=[_,_,_,_]) rfl ?_
 refine HO_loadA (i:=0) (us:=[]) (cs:=[_,_,_,_,_,_,_,_]) (ts:=[]) rfl rfl rfl Tryz.isAgg68 Tryz.sizeOf68 rfl (.loc _ _ _) rfl rfl rfl rfl ?_
 refine HO_makeFunc (vs:=[]) (us:=[_,_]) rfl rfl rfl rfl ?_
 refine HO_store (i:=2) (j:=0) (us:=[]) (old:=[_,_,_,_,_,_,_,_]) (ts:=[]) (cs:=[_,_,_,_,_,_,_,_]) (R:=[_,_,_]) (new:=[_,_,_,_,_,_,_,_]) rfl rfl rfl Tryz.sizeOf68 rfl (by simp [Value.oneCell']) rfl rfl rfl rfl rfl rfl ?_
 refine HO_assign rfl rfl rfl ?_
 refine HO_nil ?_
 refine H_env (ρ':=[(3,_),(2,_)]) ⟨rfl,rfl,trivial⟩ ?_
 refine H_world (kp [yy,nn,yy,yy] [_,_,_] rfl) ?_
 refine H_ret2 Tryz.results117 (.cell rfl (fun w hA => run_loadVarA (cs:=[_,_,_,_,_,_,_,_]) (Tryz.isAgg68 w) (Tryz.sizeOf68 w) (Tells.cells (.loc _ _ _) (hA.get (i:=0) rfl)))) (.tmp rfl) (fun w hA => ⟨(g1,g5),congrArg Ending.returned ?_,?_,?_⟩)
 ·rfl
 ·trivial
 ·exact hA.keep (m:=[nn,yy,yy]) (Y:=[_,_]) rfl
theorem fits_7 (se sq : Int) (ke ol va ti : ByteArray) (li : Int)  : Spec Tryz.prog 117 #[.agg #[.int .i64 (7),.int .i64 (se),.int .i64 (sq),.string (ke),.string (ol),.string (va),.string (ti),.int .i64 (li)]] [] (β:=Nat × Nat) (fun y => .tuple #[.agg #[.int .i64 (7),.int .i64 (se),.int .i64 (sq),.string (ke),.string (⟨#[]⟩),.string (⟨#[]⟩),.string (ti),.int .i64 (li)],.func (.func 141) #[] #[.pointer (some ⟨y.1,0,none⟩)]]) (fun y => True) (fun y => [.loc y.1 [.int .i64 (7),.int .i64 (se),.int .i64 (sq),.string (ke),.string (ol),.string (va),.string (ti),.int .i64 (li)] 68]):=by
 refine Spec.enter (vs:=[_]) Tryz.func117 rfl Tryz.ntmps117 rfl (Nat.le_of_ble_eq_true rfl) (fun w0 ok0 => ?_)
 generalize hM0 : blks _ = M0
 have hMn:=@noM _ _ hM0 (by simp [Atom.dat,Atom.elem])
 refine H_seq ?_
 refine H_region (l:=[_,_,_]) rfl ?_
 refine HO_box (cs:=[_,_,_,_,_,_,_,_]) rfl rfl rfl rfl ?_
 intro g1
 refine HO_alloc (cs:=[_,_,_,_,_,_,_,_]) rfl rfl Tryz.zeroValue68 rfl ?_
 intro g2
 refine HO_assign rfl rfl rfl ?_
 refine HO_nil ?_
 refine H_env (ρ':=[(2,_),(1,_)]) ⟨rfl,rfl,trivial⟩ ?_
 refine H_seq ?_
 refine H_region (l:=[_,_,_,_,_,_,_,_,_,_,_]) rfl ?_
 refine HO_fieldAddr (r:=0) rfl rfl rfl Tryz.underlying68 rfl Tryz.sizeOf3 rfl ?_
 refine HO_load1 (i:=1) (j:=0) rfl rfl rfl Tryz.isAgg3 rfl (.loc _ _ _) rfl rfl ?_
 refine HO_fieldAddr (r:=1) rfl rfl rfl Tryz.underlying68 rfl Tryz.sizeOf3 rfl ?_
 refine HO_load1 (i:=1) (j:=1) rfl rfl rfl Tryz.isAgg3 rfl (.loc _ _ _) rfl rfl ?_
 refine HO_fieldAddr (r:=2) rfl rfl rfl Tryz.underlying68 rfl Tryz.sizeOf3 rfl ?_
 refine HO_load1 (i:=1) (j:=2) rfl rfl rfl Tryz.isAgg3 rfl (.loc _ _ _) rfl rfl ?_
 refine HO_fieldAddr (r:=3) rfl rfl rfl Tryz.underlying68 rfl Tryz.sizeOf9 rfl ?_
 refine HO_load1 (i:=1) (j:=3) rfl rfl rfl Tryz.isAgg9 rfl (.loc _ _ _) rfl rfl ?_
 refine HO_build (xo:=[(0,_),(1,_),(2,_),(3,_)]) (vs:=[_,_,_,_]) rfl rfl rfl rfl (bd68_0_1_2_3_iiit) ?_
 refine HO_alloc (cs:=[_,_,_,_,_,_,_,_]) rfl rfl Tryz.zeroValue68 rfl ?_
 intro g4
 refine HO_store (i:=0) (j:=0) (us:=[]) (old:=[_,_,_,_,_,_,_,_]) (ts:=[]) (cs:=[_,_,_,_,_,_,_,_]) (R:=[_,_]) (new:=[_,_,_,_,_,_,_,_]) rfl rfl rfl Tryz.sizeOf68 rfl (by simp [Value.oneCell']) rfl rfl rfl rfl rfl rfl ?_
 refine HO_nil ?_
 refine H_env (ρ':=[(4,_),(2,_),(1,_)]) ⟨rfl,rfl,rfl,trivial⟩ ?_
 refine H_seq ?_
 refine H_region (l:=[_,_,_]) rfl ?_
 refine HO_makeFunc (vs:=[]) (us:=[_]) rfl rfl rfl rfl ?_
 refine HO_alloc (cs:=[_]) rfl rfl Tryz.zeroValue27 rfl ?_
 intro g5
 refine HO_store (i:=0) (j:=0) (us:=[]) (old:=[_]) (ts:=[]) (cs:=[_]) (R:=[_,_,_]) (new:=[_]) rfl rfl rfl Tryz.sizeOf27 rfl (by simp [Value.oneCell']) rfl rfl rfl rfl rfl rfl ?_
 refine HO_nil ?_
 refine H_env (ρ':=[(5,_),(4,_),(2,_),(1,_)]) ⟨rfl,rfl,rfl,rfl,trivial⟩ ?_
 refine H_seq ?_
 refine H_seq ?_
 refine H_region (l:=[_,_]) rfl ?_
 refine HO_fieldAddr (r:=0) rfl rfl rfl Tryz.underlying68 rfl Tryz.sizeOf3 rfl ?_
 refine HO_load1 (i:=3) (j:=0) rfl rfl rfl Tryz.isAgg3 rfl (.loc _ _ _) rfl rfl ?_
 refine HO_nil ?_
 refine H_env (ρ':=[(17,_),(5,_),(4,_),(2,_),(1,_)]) ⟨rfl,rfl,rfl,rfl,rfl,trivial⟩ ?_
 refine H_block ?_
 refine H_seq ?_
 refine H_region (l:=[_,_]) rfl ?_
 refine HO_bin rfl rfl rfl rfl (bin_lit (by decide) (fun _ => rfl)) ?_
 refine HO_assign rfl rfl rfl ?_
 refine HO_nil ?_
 refine H_env (ρ':=[(18,_),(17,_),(5,_),(4,_),(2,_),(1,_)]) ⟨rfl,rfl,rfl,rfl,rfl,rfl,trivial⟩ ?_
 refine H_cond rfl (fun h => nomatch h) (fun _ => ?_)
 refine H_seq ?_
 refine H_seq ?_
 refine H_region (l:=[_,_]) rfl ?_
 refine HO_bin rfl rfl rfl rfl (bin_lit (by decide) (fun _ => rfl)) ?_
 refine HO_assign rfl rfl rfl ?_
 refine HO_nil ?_
 refine H_env (ρ':=[(25,_),(17,_),(5,_),(4,_),(2,_),(1,_)]) ⟨rfl,rfl,rfl,rfl,rfl,rfl,trivial⟩ ?_
 refine H_cond rfl (fun h => nomatch h) (fun _ => ?_)
 refine H_region (l:=[_,_]) rfl ?_
 refine HO_bin rfl rfl rfl rfl (bin_lit (by decide) (fun _ => rfl)) ?_
 refine HO_assign rfl rfl rfl ?_
 refine HO_nil ?_
 refine H_env (ρ':=[(25,_),(17,_),(5,_),(4,_),(2,_),(1,_)]) ⟨rfl,rfl,rfl,rfl,rfl,rfl,trivial⟩ ?_
 refine H_cond rfl (fun h => nomatch h) (fun _ => ?_)
 refine H_seq ?_
 refine H_region (l:=[_,_]) rfl ?_
 refine HO_bin rfl rfl rfl rfl (bin_lit (by decide) (fun _ => rfl)) ?_
 refine HO_assign rfl rfl rfl ?_
 refine HO_nil ?_
 refine H_env (ρ':=[(30,_),(17,_),(5,_),(4,_),(2,_),(1,_)]) ⟨rfl,rfl,rfl,rfl,rfl,rfl,trivial⟩ ?_
 refine H_cond rfl (fun h => nomatch h) (fun _ => ?_)
 refine H_seq ?_
 refine H_region (l:=[_,_]) rfl ?_
 refine HO_bin rfl rfl rfl rfl (bin_lit (by decide) (fun _ => rfl)) ?_
 refine HO_assign rfl rfl rfl ?_
 refine HO_nil ?_
 refine H_env (ρ':=[(40,_),(4,_),(2,_),(1,_)]) ⟨rfl,rfl,rfl,rfl,trivial⟩ ?_
 refine H_world (kp [nn,yy,yy,yy] [_,_,_] rfl) ?_
 refine H_cond rfl (fun _ => ?_) (fun h => nomatch h)
 refine H_seq ?_
 refine H_drawB (m:=[nn,yy,yy]) (Xs:=[_,_]) (fuel:=8) (l:=#[false,false,false,false,false,false,false,false]) mixed rfl rfl rfl ?_
 refine HA_take (i:=0) bp rfl rfl rfl rfl (by kernel_rfl) rfl (V_fieldAddr (r:=6) rfl Tryz.underlying68 rfl Tryz.sizeOf9 rfl) (kp [nn,yy,yy] [_,_] rfl) ?_
 refine HA_take (i:=1) bp rfl rfl rfl rfl (by kernel_rfl) rfl (V_load1 (i:=1) (j:=6) rfl Tryz.isAgg9 rfl (.loc _ _ _) rfl rfl) (kp [nn,yy,yy] [_,_] rfl) ?_
 refine HA_take (i:=2) bp rfl rfl rfl rfl (by kernel_rfl) rfl (V_fieldAddr (r:=7) rfl Tryz.underlying68 rfl Tryz.sizeOf3 rfl) (kp [nn,yy,yy] [_,_] rfl) ?_
 refine HA_take (i:=3) bp rfl rfl rfl rfl (by kernel_rfl) rfl (V_load1 (i:=1) (j:=7) rfl Tryz.isAgg3 rfl (.loc _ _ _) rfl rfl) (kp [nn,yy,yy] [_,_] rfl) ?_
 refine HA_take (i:=4) bp rfl rfl rfl rfl (by kernel_rfl) rfl (V_fieldAddr (r:=6) rfl Tryz.underlying68 rfl Tryz.sizeOf9 rfl) (kp [nn,yy,yy] [_,_] rfl) ?_
 refine HA_loud1 (i:=5) (by kernel_rfl) rfl ?_
 refine HO_store (i:=0) (j:=0) (us:=[_,_,_,_,_,_]) (old:=[_]) (ts:=[_]) (cs:=[_]) (R:=[_,_]) (new:=[_,_,_,_,_,_,_,_]) rfl rfl rfl Tryz.sizeOf9 rfl (by simp [Value.oneCell']) rfl rfl rfl rfl rfl rfl ?_
 refine HA_back rfl (kp [nn,yy,yy] [_,_] rfl) ?_
 refine HA_take (i:=6) bp rfl rfl rfl rfl (by kernel_rfl) rfl (V_fieldAddr (r:=7) rfl Tryz.underlying68 rfl Tryz.sizeOf3 rfl) (kp [nn,yy,yy] [_,_] rfl) ?_
 refine HA_loud1 (i:=7) (by kernel_rfl) rfl ?_
 refine HO_store (i:=0) (j:=0) (us:=[_,_,_,_,_,_,_]) (old:=[_]) (ts:=[]) (cs:=[_]) (R:=[_,_]) (new:=[_,_,_,_,_,_,_,_]) rfl rfl rfl Tryz.sizeOf3 rfl (by simp [Value.oneCell']) rfl rfl rfl rfl rfl rfl ?_
 refine HA_back rfl (kp [nn,yy,yy] [_,_] rfl) ?_
 refine HA_done (by kernel_rfl) ?_
 refine H_env (ρ':=[(4,_),(2,_),(1,_)]) ⟨rfl,rfl,rfl,trivial⟩ ?_
 refine H_seq ?_
 refine H_region (l:=[_,_,_,_]) rfl ?_
 refine HO_loadA (i:=0) (us:=[]) (cs:=[_,_,_,_,_,_,_,_]) (ts:=[]) rfl rfl rfl Tryz.isAgg68 Tryz.sizeOf68 rfl (.loc _ _ _) rfl rfl rfl rfl ?_
 refine HO_makeFunc (vs:=[]) (us:=[_]) rfl rfl rfl rfl ?_
 refine HO_store (i:=1) (j:=0) (us:=[]) (old:=[_,_,_,_,_,_,_,_]) (ts:=[]) (cs:=[_,_,_,_,_,_,_,_]) (R:=[_,_]) (new:=[_,_,_,_,_,_,_,_]) rfl rfl rfl Tryz.sizeOf68 rfl (by simp [Value.oneCell']) rfl rfl rfl rfl rfl rfl ?_
 refine HO_assign rfl rfl rfl ?_
 refine HO_nil ?_
 refine H_env (ρ':=[(3,_),(2,_)]) ⟨rfl,rfl,trivial⟩ ?_
 refine H_world (kp [yy,nn,yy] [_,_] rfl) ?_
 refine H_ret2 Tryz.results117 (.cell rfl (fun w hA => run_loadVarA (cs:=[_,_,_,_,_,_,_,_]) (Tryz.isAgg68 w) (Tryz.sizeOf68 w) (Tells.cells (.loc _ _ _) (hA.get (i:=0) rfl)))) (.tmp rfl) (fun w hA => ⟨(g1,g5),congrArg Ending.returned ?_,?_,?_⟩)
 ·rfl
 ·trivial
 ·exact hA.keep (m:=[nn,yy]) (Y:=[_]) rfl
theorem fits_no (ki se sq : Int) (ke ol va ti : ByteArray) (li : Int) (h3 : ki ≠ 3) (h4 : ki ≠ 4) (h5 : ki ≠ 5) (h6 : ki ≠ 6) (h7 : ki ≠ 7) : Spec Tryz.prog 117 #[.agg #[.int .i64 (ki),.int .i64 (se),.int .i64 (sq),.string (ke),.string (ol),.string (va),.string (ti),.int .i64 (li)]] [] (β:=Nat × Nat) (fun y => .tuple #[.agg #[.int .i64 (ki),.int .i64 (se),.int .i64 (sq),.string (ke),.string (⟨#[]⟩),.string (⟨#[]⟩),.string (⟨#[]⟩),.int .i64 (0)],.func (.func 142) #[] #[]]) (fun y => True) (fun y => []):=by
 refine Spec.enter (vs:=[_]) Tryz.func117 rfl Tryz.ntmps117 rfl (Nat.le_of_ble_eq_true rfl) (fun w0 ok0 => ?_)
 generalize hM0 : blks _ = M0
 have hMn:=@noM _ _ hM0 (by simp [Atom.dat,Atom.elem])
 refine H_seq ?_
 refine H_region (l:=[_,_,_]) rfl ?_
 refine HO_box (cs:=[_,_,_,_,_,_,_,_]) rfl rfl rfl rfl ?_
 intro g1
 refine HO_alloc (cs:=[_,_,_,_,_,_,_,_]) rfl rfl Tryz.zeroValue68 rfl ?_
 intro g2
 refine HO_assign rfl rfl rfl ?_
 refine HO_nil ?_
 refine H_env (ρ':=[(2,_),(1,_)]) ⟨rfl,rfl,trivial⟩ ?_
 refine H_seq ?_
 refine H_region (l:=[_,_,_,_,_,_,_,_,_,_,_]) rfl ?_
 refine HO_fieldAddr (r:=0) rfl rfl rfl Tryz.underlying68 rfl Tryz.sizeOf3 rfl ?_
 refine HO_load1 (i:=1) (j:=0) rfl rfl rfl Tryz.isAgg3 rfl (.loc _ _ _) rfl rfl ?_
 refine HO_fieldAddr (r:=1) rfl rfl rfl Tryz.underlying68 rfl Tryz.sizeOf3 rfl ?_
 refine HO_load1 (i:=1) (j:=1) rfl rfl rfl Tryz.isAgg3 rfl (.loc _ _ _) rfl rfl ?_
 refine HO_fieldAddr (r:=2) rfl rfl rfl Tryz.underlying68 rfl Tryz.sizeOf3 rfl ?_
 refine HO_load1 (i:=1) (j:=2) rfl rfl rfl Tryz.isAgg3 rfl (.loc _ _ _) rfl rfl ?_
 refine HO_fieldAddr (r:=3) rfl rfl rfl Tryz.underlying68 rfl Tryz.sizeOf9 rfl ?_
 refine HO_load1 (i:=1) (j:=3) rfl rfl rfl Tryz.isAgg9 rfl (.loc _ _ _) rfl rfl ?_
 refine HO_build (xo:=[(0,_),(1,_),(2,_),(3,_)]) (vs:=[_,_,_,_]) rfl rfl rfl rfl (bd68_0_1_2_3_iiit) ?_
 refine HO_alloc (cs:=[_,_,_,_,_,_,_,_]) rfl rfl Tryz.zeroValue68 rfl ?_
 intro g4
 refine HO_store (i:=0) (j:=0) (us:=[]) (old:=[_,_,_,_,_,_,_,_]) (ts:=[]) (cs:=[_,_,_,_,_,_,_,_]) (R:=[_,_]) (new:=[_,_,_,_,_,_,_,_]) rfl rfl rfl Tryz.sizeOf68 rfl (by simp [Value.oneCell']) rfl rfl rfl rfl rfl rfl ?_
 refine HO_nil ?_
 refine H_env (ρ':=[(4,_),(2,_),(1,_)]) ⟨rfl,rfl,rfl,trivial⟩ ?_
 refine H_seq ?_
 refine H_region (l:=[_,_,_]) rfl ?_
 refine HO_makeFunc (vs:=[]) (us:=[_]) rfl rfl rfl rfl ?_
 refine HO_alloc (cs:=[_]) rfl rfl Tryz.zeroValue27 rfl ?_
 intro g5
 refine HO_store (i:=0) (j:=0) (us:=[]) (old:=[_]) (ts:=[]) (cs:=[_]) (R:=[_,_,_]) (new:=[_]) rfl rfl rfl Tryz.sizeOf27 rfl (by simp [Value.oneCell']) rfl rfl rfl rfl rfl rfl ?_
 refine HO_nil ?_
 refine H_env (ρ':=[(5,_),(4,_),(2,_),(1,_)]) ⟨rfl,rfl,rfl,rfl,trivial⟩ ?_
 refine H_seq ?_
 refine H_seq ?_
 refine H_region (l:=[_,_]) rfl ?_
 refine HO_fieldAddr (r:=0) rfl rfl rfl Tryz.underlying68 rfl Tryz.sizeOf3 rfl ?_
 refine HO_load1 (i:=3) (j:=0) rfl rfl rfl Tryz.isAgg3 rfl (.loc _ _ _) rfl rfl ?_
 refine HO_nil ?_
 refine H_env (ρ':=[(17,_),(5,_),(4,_),(2,_),(1,_)]) ⟨rfl,rfl,rfl,rfl,rfl,trivial⟩ ?_
 refine H_block ?_
 refine H_seq ?_
 refine H_region (l:=[_,_]) rfl ?_
 refine HO_bin rfl rfl rfl rfl bin_eql ?_
 refine HO_assign rfl rfl rfl ?_
 refine HO_nil ?_
 refine H_env (ρ':=[(18,_),(17,_),(5,_),(4,_),(2,_),(1,_)]) ⟨rfl,rfl,rfl,rfl,rfl,rfl,trivial⟩ ?_
 refine H_cond rfl ?_ ?_
 ·intro h18
  replace h18:=dT h18
  all_goals (exfalso;omega)
 intro h18
 replace h18:=dF h18
 refine H_seq ?_
 refine H_seq ?_
 refine H_region (l:=[_,_]) rfl ?_
 refine HO_bin rfl rfl rfl rfl bin_eql ?_
 refine HO_assign rfl rfl rfl ?_
 refine HO_nil ?_
 refine H_env (ρ':=[(25,_),(17,_),(5,_),(4,_),(2,_),(1,_)]) ⟨rfl,rfl,rfl,rfl,rfl,rfl,trivial⟩ ?_
 refine H_cond rfl ?_ ?_
 ·intro h25
  replace h25:=dT h25
  all_goals (exfalso;omega)
 intro h25
 replace h25:=dF h25
 refine H_region (l:=[_,_]) rfl ?_
 refine HO_bin rfl rfl rfl rfl bin_eql ?_
 refine HO_assign rfl rfl rfl ?_
 refine HO_nil ?_
 refine H_env (ρ':=[(25,_),(17,_),(5,_),(4,_),(2,_),(1,_)]) ⟨rfl,rfl,rfl,rfl,rfl,rfl,trivial⟩ ?_
 refine H_cond rfl ?_ ?_
 ·intro h25
  replace h25:=dT h25
  all_goals (exfalso;omega)
 intro h25
 replace h25:=dF h25
 refine H_seq ?_
 refine H_region (l:=[_,_]) rfl ?_
 refine HO_bin rfl rfl rfl rfl bin_eql ?_
 refine HO_assign rfl rfl rfl ?_
 refine HO_nil ?_
 refine H_env (ρ':=[(30,_),(17,_),(5,_),(4,_),(2,_),(1,_)]) ⟨rfl,rfl,rfl,rfl,rfl,rfl,trivial⟩ ?_
 refine H_cond rfl ?_ ?_
 ·intro h30
  replace h30:=dT h30
  all_goals (exfalso;omega)
 intro h30
 replace h30:=dF h30
 refine H_seq ?_
 refine H_region (l:=[_,_]) rfl ?_
 refine HO_bin rfl rfl rfl rfl bin_eql ?_
 refine HO_assign rfl rfl rfl ?_
 refine HO_nil ?_
 refine H_env (ρ':=[(40,_),(4,_),(2,_),(1,_)]) ⟨rfl,rfl,rfl,rfl,trivial⟩ ?_
 refine H_world (kp [nn,yy,yy,yy] [_,_,_] rfl) ?_
 refine H_cond rfl ?_ ?_
 ·intro h40
  replace h40:=dT h40
  all_goals (exfalso;omega)
 intro h40
 replace h40:=dF h40
 refine H_skip ?_
 refine H_blk ?_
 refine H_seq ?_
 refine H_region (l:=[_,_,_]) rfl ?_
 refine HO_loadA (i:=0) (us:=[]) (cs:=[_,_,_,_,_,_,_,_]) (ts:=[]) rfl rfl rfl Tryz.isAgg68 Tryz.sizeOf68 rfl (.loc _ _ _) rfl rfl rfl rfl ?_
 refine HO_store (i:=1) (j:=0) (us:=[]) (old:=[_,_,_,_,_,_,_,_]) (ts:=[]) (cs:=[_,_,_,_,_,_,_,_]) (R:=[_,_]) (new:=[_,_,_,_,_,_,_,_]) rfl rfl rfl Tryz.sizeOf68 rfl (by simp [Value.oneCell']) rfl rfl rfl rfl rfl rfl ?_
 refine HO_assign rfl rfl rfl ?_
 refine HO_nil ?_
 refine H_env (ρ':=[(3,_),(2,_)]) ⟨rfl,rfl,trivial⟩ ?_
 refine H_world (kp [yy,nn,nn] [_] rfl) ?_
 refine H_ret2 Tryz.results117 (.cell rfl (fun w hA => run_loadVarA (cs:=[_,_,_,_,_,_,_,_]) (Tryz.isAgg68 w) (Tryz.sizeOf68 w) (Tells.cells (.loc _ _ _) (hA.get (i:=0) rfl)))) (.tmp rfl) (fun w hA => ⟨(g1,g5),congrArg Ending.returned ?_,?_,?_⟩)
 ·rfl
 ·trivial
 ·exact hA.keep (m:=[nn]) (Y:=[]) rfl
theorem good_spec (ki se sq : Int) (ke ol va ti : ByteArray) (li : Int)  : Spec Tryz.prog 84 #[.agg #[.int .i64 (ki),.int .i64 (se),.int .i64 (sq),.string (ke),.string (ol),.string (va),.string (ti),.int .i64 (li)]] [] (β:=Unit) (fun y => .bool (Cmd.good ⟨ki,se,sq,ke,ol,va,ti,li⟩)) (fun y => True) (fun y => []):=by
 refine Spec.enter (vs:=[_]) Tryz.func84 rfl Tryz.ntmps84 rfl (Nat.le_of_ble_eq_true rfl) (fun w0 ok0 => ?_)
 generalize hM0 : blks _ = M0
 have hMn:=@noM _ _ hM0 (by simp [Atom.dat,Atom.elem])
 refine H_seq ?_
 refine H_region (l:=[_,_]) rfl ?_
 refine HO_box (cs:=[_,_,_,_,_,_,_,_]) rfl rfl rfl rfl ?_
 intro g1
 refine HO_assign rfl rfl rfl ?_
 refine HO_nil ?_
 refine H_env (ρ':=[(1,_)]) ⟨rfl,trivial⟩ ?_
 refine H_seq ?_
 refine H_seq ?_
 refine H_region (l:=[_,_]) rfl ?_
 refine HO_fieldAddr (r:=0) rfl rfl rfl Tryz.underlying68 rfl Tryz.sizeOf3 rfl ?_
 refine HO_load1 (i:=0) (j:=0) rfl rfl rfl Tryz.isAgg3 rfl (.loc _ _ _) rfl rfl ?_
 refine HO_nil ?_
 refine H_env (ρ':=[(6,_),(1,_)]) ⟨rfl,rfl,trivial⟩ ?_
 refine H_block ?_
 refine H_seq ?_
 refine H_region (l:=[_,_]) rfl ?_
 refine HO_bin rfl rfl rfl rfl bin_eql ?_
 refine HO_assign rfl rfl rfl ?_
 refine HO_nil ?_
 refine H_env (ρ':=[(7,_),(6,_),(1,_)]) ⟨rfl,rfl,rfl,trivial⟩ ?_
 refine H_cond rfl ?_ ?_
 ·intro h7
  replace h7:=dT h7
  refine H_seq ?_
  refine H_region (l:=[_,_,_,_]) rfl ?_
  refine HO_loadA (i:=0) (us:=[]) (cs:=[_,_,_,_,_,_,_,_]) (ts:=[]) rfl rfl rfl Tryz.isAgg68 Tryz.sizeOf68 rfl (.loc _ _ _) rfl rfl rfl rfl ?_
  refine HO_build (xo:=[(0,_)]) (vs:=[_]) rfl rfl rfl rfl (bd68_0_i) ?_
  refine HO_bin rfl rfl rfl rfl eq68_eql ?_
  refine HO_assign rfl rfl rfl ?_
  refine HO_nil ?_
  refine H_env (ρ':=[(2,_)]) ⟨rfl,trivial⟩ ?_
  refine H_world (kp [nn] [] rfl) ?_
  refine H_ret1 Tryz.results84 (.tmp rfl) (fun w hA => ⟨(),congrArg Ending.returned ?_,?_,?_⟩)
  ·(exact congrArg Value.bool (by first | (simp [Cmd.good,Cmd.part,Cmd.fit,Cmd.eqv,Cmd.base,Cmd.empty, *] <;> rfl) | (simp_all [Cmd.good,Cmd.part,Cmd.fit,Cmd.eqv,Cmd.base,Cmd.empty] <;> rfl)))
  ·trivial
  ·exact hA.keep (m:=[]) (Y:=[]) rfl
 intro h7
 replace h7:=dF h7
 refine H_seq ?_
 refine H_region (l:=[_,_]) rfl ?_
 refine HO_bin rfl rfl rfl rfl bin_eql ?_
 refine HO_assign rfl rfl rfl ?_
 refine HO_nil ?_
 refine H_env (ρ':=[(12,_),(1,_)]) ⟨rfl,rfl,trivial⟩ ?_
 refine H_cond rfl ?_ ?_
 ·intro h12
  replace h12:=dT h12
  refine H_seq ?_
  refine H_region (l:=[_,_,_,_,_,_,_,_,_,_,_]) rfl ?_
  refine HO_fieldAddr (r:=1) rfl rfl rfl Tryz.underlying68 rfl Tryz.sizeOf3 rfl ?_
  refine HO_load1 (i:=0) (j:=1) rfl rfl rfl Tryz.isAgg3 rfl (.loc _ _ _) rfl rfl ?_
  refine HO_bin rfl rfl rfl rfl bin_gtr ?_
  refine HO_move rfl rfl rfl ?_
  refine HO_split (d:=17) rfl ?_ ?_
  ·intro h17
   replace h17:=dT h17
   refine HO_loadA (i:=0) (us:=[]) (cs:=[_,_,_,_,_,_,_,_]) (ts:=[]) rfl rfl rfl Tryz.isAgg68 Tryz.sizeOf68 rfl (.loc _ _ _) rfl rfl rfl rfl ?_
   refine HO_fieldAddr (r:=1) rfl rfl rfl Tryz.underlying68 rfl Tryz.sizeOf3 rfl ?_
   refine HO_load1 (i:=0) (j:=1) rfl rfl rfl Tryz.isAgg3 rfl (.loc _ _ _) rfl rfl ?_
   refine HO_build (xo:=[(0,_),(1,_)]) (vs:=[_,_]) rfl rfl rfl rfl (bd68_0_1_ii) ?_
   refine HO_bin rfl rfl rfl rfl eq68_eql ?_
   refine HO_pick_t rfl rfl rfl rfl ?_
   refine HO_assign rfl rfl rfl ?_
   refine HO_nil ?_
   refine H_env (ρ':=[(2,_)]) ⟨rfl,trivial⟩ ?_
   refine H_world (kp [nn] [] rfl) ?_
   refine H_ret1 Tryz.results84 (.tmp rfl) (fun w hA => ⟨(),congrArg Ending.returned ?_,?_,?_⟩)
   ·(exact congrArg Value.bool (by first | (simp [Cmd.good,Cmd.part,Cmd.fit,Cmd.eqv,Cmd.base,Cmd.empty, *] <;> rfl) | (simp_all [Cmd.good,Cmd.part,Cmd.fit,Cmd.eqv,Cmd.base,Cmd.empty] <;> rfl)))
   ·trivial
   ·exact hA.keep (m:=[]) (Y:=[]) rfl
  intro h17
  replace h17:=dF h17
  iterate 5 refine HO_no rfl rfl rfl ?_
  refine HO_pick_f rfl rfl rfl rfl ?_
  refine HO_assign rfl rfl rfl ?_
  refine HO_nil ?_
  refine H_env (ρ':=[(2,_)]) ⟨rfl,trivial⟩ ?_
  refine H_world (kp [nn] [] rfl) ?_
  refine H_ret1 Tryz.results84 (.tmp rfl) (fun w hA => ⟨(),congrArg Ending.returned ?_,?_,?_⟩)
  ·(exact congrArg Value.bool (by first | (simp [Cmd.good,Cmd.part,Cmd.fit,Cmd.eqv,Cmd.base,Cmd.empty, *] <;> rfl) | (simp_all [Cmd.good,Cmd.part,Cmd.fit,Cmd.eqv,Cmd.base,Cmd.empty] <;> rfl)))
  ·trivial
  ·exact hA.keep (m:=[]) (Y:=[]) rfl
 intro h12
 replace h12:=dF h12
 refine H_skip ?_
 refine H_blk ?_
 refine H_seq ?_
 rcases (Cmd.kinds ki) with hc | hc | hc | hc | hc | hc
 ·skip
  subst hc
  refine H_region (l:=[_,_,_,_,_,_,_,_]) rfl ?_
  refine HO_loadA (i:=0) (us:=[]) (cs:=[_,_,_,_,_,_,_,_]) (ts:=[]) rfl rfl rfl Tryz.isAgg68 Tryz.sizeOf68 rfl (.loc _ _ _) rfl rfl rfl rfl ?_
  refine HO_call (first:=[]) (capt:=[]) (is:=[]) (R:=[_]) rfl rfl rfl rfl rfl Tryz.call117 rfl (fits_3 _ _ _ _ _ _ _) ?_
  intro y26 hy26
  refine HO_move rfl rfl rfl ?_
  refine HO_extract (vs:=[_,_]) rfl rfl rfl rfl ?_
  refine HO_extract (vs:=[_,_]) rfl rfl rfl rfl ?_
  refine HO_alloc (cs:=[_,_,_,_,_,_,_,_]) rfl rfl Tryz.zeroValue68 rfl ?_
  intro g3
  refine HO_store (i:=0) (j:=0) (us:=[]) (old:=[_,_,_,_,_,_,_,_]) (ts:=[]) (cs:=[_,_,_,_,_,_,_,_]) (R:=[_,_,_]) (new:=[_,_,_,_,_,_,_,_]) rfl rfl rfl Tryz.sizeOf68 rfl (by simp [Value.oneCell']) rfl rfl rfl rfl rfl rfl ?_
  refine HO_assign rfl rfl rfl ?_
  refine HO_nil ?_
  refine H_env (ρ':=[(4,_),(3,_),(1,_)]) ⟨rfl,rfl,rfl,trivial⟩ ?_
  refine H_seq ?_
  refine H_region (l:=[_,_,_,_,_,_,_,_,_,_,_,_,_,_,_,_,_,_]) rfl ?_
  refine HO_loadA (i:=3) (us:=[]) (cs:=[_,_,_,_,_,_,_,_]) (ts:=[]) rfl rfl rfl Tryz.isAgg68 Tryz.sizeOf68 rfl (.loc _ _ _) rfl rfl rfl rfl ?_
  refine HO_loadA (i:=0) (us:=[]) (cs:=[_,_,_,_,_,_,_,_]) (ts:=[]) rfl rfl rfl Tryz.isAgg68 Tryz.sizeOf68 rfl (.loc _ _ _) rfl rfl rfl rfl ?_
  refine HO_bin rfl rfl rfl rfl eq68_eql ?_
  refine HO_move rfl rfl rfl ?_
  refine HO_split (d:=32) rfl ?_ ?_
  ·intro h32
   (try simp only [decide_eq_true_eq,decide_eq_false_iff_not,Bool.not_eq_true',Bool.not_eq_false',Bool.not_eq_true,Bool.not_eq_false,Bool.true_eq_false,Bool.false_eq_true,not_false_eq_true,not_true_eq_false] at h32)
   refine HO_fieldAddr (r:=1) rfl rfl rfl Tryz.underlying68 rfl Tryz.sizeOf3 rfl ?_
   refine HO_load1 (i:=3) (j:=1) rfl rfl rfl Tryz.isAgg3 rfl (.loc _ _ _) rfl rfl ?_
   refine HO_bin rfl rfl rfl rfl bin_gtr ?_
   refine HO_pick_t rfl rfl rfl rfl ?_
   refine HO_move rfl rfl rfl ?_
   refine HO_split (d:=37) rfl ?_ ?_
   ·intro h37
    replace h37:=dT h37
    refine HO_fieldAddr (r:=2) rfl rfl rfl Tryz.underlying68 rfl Tryz.sizeOf3 rfl ?_
    refine HO_load1 (i:=3) (j:=2) rfl rfl rfl Tryz.isAgg3 rfl (.loc _ _ _) rfl rfl ?_
    refine HO_bin rfl rfl rfl rfl bin_gtr ?_
    refine HO_pick_t rfl rfl rfl rfl ?_
    refine HO_move rfl rfl rfl ?_
    refine HO_split (d:=42) rfl ?_ ?_
    ·intro h42
     replace h42:=dT h42
     refine HO_move rfl rfl rfl ?_
     refine HO_call (first:=[]) (capt:=[_,_]) (is:=[1,2]) (R:=[_,_]) rfl rfl rfl rfl rfl Tryz.call138 rfl (fits2_spec _ _ _ _ _ _ _ _ _ _) ?_
     intro y44 hy44
     clear y44 hy44
     refine HO_pick_t rfl rfl rfl rfl ?_
     refine HO_assign rfl rfl rfl ?_
     refine HO_nil ?_
     refine H_env (ρ':=[(2,_)]) ⟨rfl,trivial⟩ ?_
     refine H_world (kp [nn,nn,nn,nn] [] rfl) ?_
     refine H_ret1 Tryz.results84 (.tmp rfl) (fun w hA => ⟨(),congrArg Ending.returned ?_,?_,?_⟩)
     ·(exact congrArg Value.bool (by first | (simp [Cmd.good,Cmd.part,Cmd.fit,Cmd.eqv,Cmd.base,Cmd.empty, *] <;> rfl) | (simp_all [Cmd.good,Cmd.part,Cmd.fit,Cmd.eqv,Cmd.base,Cmd.empty] <;> rfl)))
     ·trivial
     ·exact hA.keep (m:=[]) (Y:=[]) rfl
    intro h42
    replace h42:=dF h42
    iterate 2 refine HO_no rfl rfl rfl ?_
    refine HO_pick_f rfl rfl rfl rfl ?_
    refine HO_assign rfl rfl rfl ?_
    refine HO_nil ?_
    refine H_env (ρ':=[(2,_)]) ⟨rfl,trivial⟩ ?_
    refine H_world (kp [nn,nn,nn,nn] [] rfl) ?_
    refine H_ret1 Tryz.results84 (.tmp rfl) (fun w hA => ⟨(),congrArg Ending.returned ?_,?_,?_⟩)
    ·(exact congrArg Value.bool (by first | (simp [Cmd.good,Cmd.part,Cmd.fit,Cmd.eqv,Cmd.base,Cmd.empty, *] <;> rfl) | (simp_all [Cmd.good,Cmd.part,Cmd.fit,Cmd.eqv,Cmd.base,Cmd.empty] <;> rfl)))
    ·trivial
    ·exact hA.keep (m:=[]) (Y:=[]) rfl
   intro h37
   replace h37:=dF h37
   iterate 3 refine HO_no rfl rfl rfl ?_
   refine HO_pick_f rfl rfl rfl rfl ?_
   refine HO_move rfl rfl rfl ?_
   iterate 2 refine HO_no rfl rfl rfl ?_
   refine HO_pick_f rfl rfl rfl rfl ?_
   refine HO_assign rfl rfl rfl ?_
   refine HO_nil ?_
   refine H_env (ρ':=[(2,_)]) ⟨rfl,trivial⟩ ?_
   refine H_world (kp [nn,nn,nn,nn] [] rfl) ?_
   refine H_ret1 Tryz.results84 (.tmp rfl) (fun w hA => ⟨(),congrArg Ending.returned ?_,?_,?_⟩)
   ·(exact congrArg Value.bool (by first | (simp [Cmd.good,Cmd.part,Cmd.fit,Cmd.eqv,Cmd.base,Cmd.empty, *] <;> rfl) | (simp_all [Cmd.good,Cmd.part,Cmd.fit,Cmd.eqv,Cmd.base,Cmd.empty] <;> rfl)))
   ·trivial
   ·exact hA.keep (m:=[]) (Y:=[]) rfl
  intro h32
  (try simp only [decide_eq_true_eq,decide_eq_false_iff_not,Bool.not_eq_true',Bool.not_eq_false',Bool.not_eq_true,Bool.not_eq_false,Bool.true_eq_false,Bool.false_eq_true,not_false_eq_true,not_true_eq_false] at h32)
  iterate 3 refine HO_no rfl rfl rfl ?_
  refine HO_pick_f rfl rfl rfl rfl ?_
  refine HO_move rfl rfl rfl ?_
  iterate 3 refine HO_no rfl rfl rfl ?_
  refine HO_pick_f rfl rfl rfl rfl ?_
  refine HO_move rfl rfl rfl ?_
  iterate 2 refine HO_no rfl rfl rfl ?_
  refine HO_pick_f rfl rfl rfl rfl ?_
  refine HO_assign rfl rfl rfl ?_
  refine HO_nil ?_
  refine H_env (ρ':=[(2,_)]) ⟨rfl,trivial⟩ ?_
  refine H_world (kp [nn,nn,nn,nn] [] rfl) ?_
  refine H_ret1 Tryz.results84 (.tmp rfl) (fun w hA => ⟨(),congrArg Ending.returned ?_,?_,?_⟩)
  ·(exact congrArg Value.bool (by first | (simp [Cmd.good,Cmd.part,Cmd.fit,Cmd.eqv,Cmd.base,Cmd.empty, *] <;> rfl) | (simp_all [Cmd.good,Cmd.part,Cmd.fit,Cmd.eqv,Cmd.base,Cmd.empty] <;> rfl)))
  ·trivial
  ·exact hA.keep (m:=[]) (Y:=[]) rfl
 ·skip
  subst hc
  refine H_region (l:=[_,_,_,_,_,_,_,_]) rfl ?_
  refine HO_loadA (i:=0) (us:=[]) (cs:=[_,_,_,_,_,_,_,_]) (ts:=[]) rfl rfl rfl Tryz.isAgg68 Tryz.sizeOf68 rfl (.loc _ _ _) rfl rfl rfl rfl ?_
  refine HO_call (first:=[]) (capt:=[]) (is:=[]) (R:=[_]) rfl rfl rfl rfl rfl Tryz.call117 rfl (fits_4 _ _ _ _ _ _ _) ?_
  intro y26 hy26
  refine HO_move rfl rfl rfl ?_
  refine HO_extract (vs:=[_,_]) rfl rfl rfl rfl ?_
  refine HO_extract (vs:=[_,_]) rfl rfl rfl rfl ?_
  refine HO_alloc (cs:=[_,_,_,_,_,_,_,_]) rfl rfl Tryz.zeroValue68 rfl ?_
  intro g3
  refine HO_store (i:=0) (j:=0) (us:=[]) (old:=[_,_,_,_,_,_,_,_]) (ts:=[]) (cs:=[_,_,_,_,_,_,_,_]) (R:=[_,_]) (new:=[_,_,_,_,_,_,_,_]) rfl rfl rfl Tryz.sizeOf68 rfl (by simp [Value.oneCell']) rfl rfl rfl rfl rfl rfl ?_
  refine HO_assign rfl rfl rfl ?_
  refine HO_nil ?_
  refine H_env (ρ':=[(4,_),(3,_),(1,_)]) ⟨rfl,rfl,rfl,trivial⟩ ?_
  refine H_seq ?_
  refine H_region (l:=[_,_,_,_,_,_,_,_,_,_,_,_,_,_,_,_,_,_]) rfl ?_
  refine HO_loadA (i:=2) (us:=[]) (cs:=[_,_,_,_,_,_,_,_]) (ts:=[]) rfl rfl rfl Tryz.isAgg68 Tryz.sizeOf68 rfl (.loc _ _ _) rfl rfl rfl rfl ?_
  refine HO_loadA (i:=0) (us:=[]) (cs:=[_,_,_,_,_,_,_,_]) (ts:=[]) rfl rfl rfl Tryz.isAgg68 Tryz.sizeOf68 rfl (.loc _ _ _) rfl rfl rfl rfl ?_
  refine HO_bin rfl rfl rfl rfl eq68_eql ?_
  refine HO_move rfl rfl rfl ?_
  refine HO_split (d:=32) rfl ?_ ?_
  ·intro h32
   (try simp only [decide_eq_true_eq,decide_eq_false_iff_not,Bool.not_eq_true',Bool.not_eq_false',Bool.not_eq_true,Bool.not_eq_false,Bool.true_eq_false,Bool.false_eq_true,not_false_eq_true,not_true_eq_false] at h32)
   refine HO_fieldAddr (r:=1) rfl rfl rfl Tryz.underlying68 rfl Tryz.sizeOf3 rfl ?_
   refine HO_load1 (i:=2) (j:=1) rfl rfl rfl Tryz.isAgg3 rfl (.loc _ _ _) rfl rfl ?_
   refine HO_bin rfl rfl rfl rfl bin_gtr ?_
   refine HO_pick_t rfl rfl rfl rfl ?_
   refine HO_move rfl rfl rfl ?_
   refine HO_split (d:=37) rfl ?_ ?_
   ·intro h37
    replace h37:=dT h37
    refine HO_fieldAddr (r:=2) rfl rfl rfl Tryz.underlying68 rfl Tryz.sizeOf3 rfl ?_
    refine HO_load1 (i:=2) (j:=2) rfl rfl rfl Tryz.isAgg3 rfl (.loc _ _ _) rfl rfl ?_
    refine HO_bin rfl rfl rfl rfl bin_gtr ?_
    refine HO_pick_t rfl rfl rfl rfl ?_
    refine HO_move rfl rfl rfl ?_
    refine HO_split (d:=42) rfl ?_ ?_
    ·intro h42
     replace h42:=dT h42
     refine HO_move rfl rfl rfl ?_
     refine HO_call (first:=[]) (capt:=[_]) (is:=[1]) (R:=[_,_]) rfl rfl rfl rfl rfl Tryz.call136 rfl (fits1_spec _ _ _ _ _ _ _ _ _) ?_
     intro y44 hy44
     clear y44 hy44
     refine HO_pick_t rfl rfl rfl rfl ?_
     refine HO_assign rfl rfl rfl ?_
     refine HO_nil ?_
     refine H_env (ρ':=[(2,_)]) ⟨rfl,trivial⟩ ?_
     refine H_world (kp [nn,nn,nn] [] rfl) ?_
     refine H_ret1 Tryz.results84 (.tmp rfl) (fun w hA => ⟨(),congrArg Ending.returned ?_,?_,?_⟩)
     ·(exact congrArg Value.bool (by first | (simp [Cmd.good,Cmd.part,Cmd.fit,Cmd.eqv,Cmd.base,Cmd.empty, *] <;> rfl) | (simp_all [Cmd.good,Cmd.part,Cmd.fit,Cmd.eqv,Cmd.base,Cmd.empty] <;> rfl)))
     ·trivial
     ·exact hA.keep (m:=[]) (Y:=[]) rfl
    intro h42
    replace h42:=dF h42
    iterate 2 refine HO_no rfl rfl rfl ?_
    refine HO_pick_f rfl rfl rfl rfl ?_
    refine HO_assign rfl rfl rfl ?_
    refine HO_nil ?_
    refine H_env (ρ':=[(2,_)]) ⟨rfl,trivial⟩ ?_
    refine H_world (kp [nn,nn,nn] [] rfl) ?_
    refine H_ret1 Tryz.results84 (.tmp rfl) (fun w hA => ⟨(),congrArg Ending.returned ?_,?_,?_⟩)
    ·(exact congrArg Value.bool (by first | (simp [Cmd.good,Cmd.part,Cmd.fit,Cmd.eqv,Cmd.base,Cmd.empty, *] <;> rfl) | (simp_all [Cmd.good,Cmd.part,Cmd.fit,Cmd.eqv,Cmd.base,Cmd.empty] <;> rfl)))
    ·trivial
    ·exact hA.keep (m:=[]) (Y:=[]) rfl
   intro h37
   replace h37:=dF h37
   iterate 3 refine HO_no rfl rfl rfl ?_
   refine HO_pick_f rfl rfl rfl rfl ?_
   refine HO_move rfl rfl rfl ?_
   iterate 2 refine HO_no rfl rfl rfl ?_
   refine HO_pick_f rfl rfl rfl rfl ?_
   refine HO_assign rfl rfl rfl ?_
   refine HO_nil ?_
   refine H_env (ρ':=[(2,_)]) ⟨rfl,trivial⟩ ?_
   refine H_world (kp [nn,nn,nn] [] rfl) ?_
   refine H_ret1 Tryz.results84 (.tmp rfl) (fun w hA => ⟨(),congrArg Ending.returned ?_,?_,?_⟩)
   ·(exact congrArg Value.bool (by first | (simp [Cmd.good,Cmd.part,Cmd.fit,Cmd.eqv,Cmd.base,Cmd.empty, *] <;> rfl) | (simp_all [Cmd.good,Cmd.part,Cmd.fit,Cmd.eqv,Cmd.base,Cmd.empty] <;> rfl)))
   ·trivial
   ·exact hA.keep (m:=[]) (Y:=[]) rfl
  intro h32
  (try simp only [decide_eq_true_eq,decide_eq_false_iff_not,Bool.not_eq_true',Bool.not_eq_false',Bool.not_eq_true,Bool.not_eq_false,Bool.true_eq_false,Bool.false_eq_true,not_false_eq_true,not_true_eq_false] at h32)
  iterate 3 refine HO_no rfl rfl rfl ?_
  refine HO_pick_f rfl rfl rfl rfl ?_
  refine HO_move rfl rfl rfl ?_
  iterate 3 refine HO_no rfl rfl rfl ?_
  refine HO_pick_f rfl rfl rfl rfl ?_
  refine HO_move rfl rfl rfl ?_
  iterate 2 refine HO_no rfl rfl rfl ?_
  refine HO_pick_f rfl rfl rfl rfl ?_
  refine HO_assign rfl rfl rfl ?_
  refine HO_nil ?_
  refine H_env (ρ':=[(2,_)]) ⟨rfl,trivial⟩ ?_
  refine H_world (kp [nn,nn,nn] [] rfl) ?_
  refine H_ret1 Tryz.results84 (.tmp rfl) (fun w hA => ⟨(),congrArg Ending.returned ?_,?_,?_⟩)
  ·(exact congrArg Value.bool (by first | (simp [Cmd.good,Cmd.part,Cmd.fit,Cmd.eqv,Cmd.base,Cmd.empty, *] <;> rfl) | (simp_all [Cmd.good,Cmd.part,Cmd.fit,Cmd.eqv,Cmd.base,Cmd.empty] <;> rfl)))
  ·trivial
  ·exact hA.keep (m:=[]) (Y:=[]) rfl
 ·skip
  subst hc
  refine H_region (l:=[_,_,_,_,_,_,_,_]) rfl ?_
  refine HO_loadA (i:=0) (us:=[]) (cs:=[_,_,_,_,_,_,_,_]) (ts:=[]) rfl rfl rfl Tryz.isAgg68 Tryz.sizeOf68 rfl (.loc _ _ _) rfl rfl rfl rfl ?_
  refine HO_call (first:=[]) (capt:=[]) (is:=[]) (R:=[_]) rfl rfl rfl rfl rfl Tryz.call117 rfl (fits_5 _ _ _ _ _ _ _) ?_
  intro y26 hy26
  refine HO_move rfl rfl rfl ?_
  refine HO_extract (vs:=[_,_]) rfl rfl rfl rfl ?_
  refine HO_extract (vs:=[_,_]) rfl rfl rfl rfl ?_
  refine HO_alloc (cs:=[_,_,_,_,_,_,_,_]) rfl rfl Tryz.zeroValue68 rfl ?_
  intro g3
  refine HO_store (i:=0) (j:=0) (us:=[]) (old:=[_,_,_,_,_,_,_,_]) (ts:=[]) (cs:=[_,_,_,_,_,_,_,_]) (R:=[_,_]) (new:=[_,_,_,_,_,_,_,_]) rfl rfl rfl Tryz.sizeOf68 rfl (by simp [Value.oneCell']) rfl rfl rfl rfl rfl rfl ?_
  refine HO_assign rfl rfl rfl ?_
  refine HO_nil ?_
  refine H_env (ρ':=[(4,_),(3,_),(1,_)]) ⟨rfl,rfl,rfl,trivial⟩ ?_
  refine H_seq ?_
  refine H_region (l:=[_,_,_,_,_,_,_,_,_,_,_,_,_,_,_,_,_,_]) rfl ?_
  refine HO_loadA (i:=2) (us:=[]) (cs:=[_,_,_,_,_,_,_,_]) (ts:=[]) rfl rfl rfl Tryz.isAgg68 Tryz.sizeOf68 rfl (.loc _ _ _) rfl rfl rfl rfl ?_
  refine HO_loadA (i:=0) (us:=[]) (cs:=[_,_,_,_,_,_,_,_]) (ts:=[]) rfl rfl rfl Tryz.isAgg68 Tryz.sizeOf68 rfl (.loc _ _ _) rfl rfl rfl rfl ?_
  refine HO_bin rfl rfl rfl rfl eq68_eql ?_
  refine HO_move rfl rfl rfl ?_
  refine HO_split (d:=32) rfl ?_ ?_
  ·intro h32
   (try simp only [decide_eq_true_eq,decide_eq_false_iff_not,Bool.not_eq_true',Bool.not_eq_false',Bool.not_eq_true,Bool.not_eq_false,Bool.true_eq_false,Bool.false_eq_true,not_false_eq_true,not_true_eq_false] at h32)
   refine HO_fieldAddr (r:=1) rfl rfl rfl Tryz.underlying68 rfl Tryz.sizeOf3 rfl ?_
   refine HO_load1 (i:=2) (j:=1) rfl rfl rfl Tryz.isAgg3 rfl (.loc _ _ _) rfl rfl ?_
   refine HO_bin rfl rfl rfl rfl bin_gtr ?_
   refine HO_pick_t rfl rfl rfl rfl ?_
   refine HO_move rfl rfl rfl ?_
   refine HO_split (d:=37) rfl ?_ ?_
   ·intro h37
    replace h37:=dT h37
    refine HO_fieldAddr (r:=2) rfl rfl rfl Tryz.underlying68 rfl Tryz.sizeOf3 rfl ?_
    refine HO_load1 (i:=2) (j:=2) rfl rfl rfl Tryz.isAgg3 rfl (.loc _ _ _) rfl rfl ?_
    refine HO_bin rfl rfl rfl rfl bin_gtr ?_
    refine HO_pick_t rfl rfl rfl rfl ?_
    refine HO_move rfl rfl rfl ?_
    refine HO_split (d:=42) rfl ?_ ?_
    ·intro h42
     replace h42:=dT h42
     refine HO_move rfl rfl rfl ?_
     refine HO_call (first:=[]) (capt:=[_]) (is:=[1]) (R:=[_,_]) rfl rfl rfl rfl rfl Tryz.call136 rfl (fits1_spec _ _ _ _ _ _ _ _ _) ?_
     intro y44 hy44
     clear y44 hy44
     refine HO_pick_t rfl rfl rfl rfl ?_
     refine HO_assign rfl rfl rfl ?_
     refine HO_nil ?_
     refine H_env (ρ':=[(2,_)]) ⟨rfl,trivial⟩ ?_
     refine H_world (kp [nn,nn,nn] [] rfl) ?_
     refine H_ret1 Tryz.results84 (.tmp rfl) (fun w hA => ⟨(),congrArg Ending.returned ?_,?_,?_⟩)
     ·(exact congrArg Value.bool (by first | (simp [Cmd.good,Cmd.part,Cmd.fit,Cmd.eqv,Cmd.base,Cmd.empty, *] <;> rfl) | (simp_all [Cmd.good,Cmd.part,Cmd.fit,Cmd.eqv,Cmd.base,Cmd.empty] <;> rfl)))
     ·trivial
     ·exact hA.keep (m:=[]) (Y:=[]) rfl
    intro h42
    replace h42:=dF h42
    iterate 2 refine HO_no rfl rfl rfl ?_
    refine HO_pick_f rfl rfl rfl rfl ?_
    refine HO_assign rfl rfl rfl ?_
    refine HO_nil ?_
    refine H_env (ρ':=[(2,_)]) ⟨rfl,trivial⟩ ?_
    refine H_world (kp [nn,nn,nn] [] rfl) ?_
    refine H_ret1 Tryz.results84 (.tmp rfl) (fun w hA => ⟨(),congrArg Ending.returned ?_,?_,?_⟩)
    ·(exact congrArg Value.bool (by first | (simp [Cmd.good,Cmd.part,Cmd.fit,Cmd.eqv,Cmd.base,Cmd.empty, *] <;> rfl) | (simp_all [Cmd.good,Cmd.part,Cmd.fit,Cmd.eqv,Cmd.base,Cmd.empty] <;> rfl)))
    ·trivial
    ·exact hA.keep (m:=[]) (Y:=[]) rfl
   intro h37
   replace h37:=dF h37
   iterate 3 refine HO_no rfl rfl rfl ?_
   refine HO_pick_f rfl rfl rfl rfl ?_
   refine HO_move rfl rfl rfl ?_
   iterate 2 refine HO_no rfl rfl rfl ?_
   refine HO_pick_f rfl rfl rfl rfl ?_
   refine HO_assign rfl rfl rfl ?_
   refine HO_nil ?_
   refine H_env (ρ':=[(2,_)]) ⟨rfl,trivial⟩ ?_
   refine H_world (kp [nn,nn,nn] [] rfl) ?_
   refine H_ret1 Tryz.results84 (.tmp rfl) (fun w hA => ⟨(),congrArg Ending.returned ?_,?_,?_⟩)
   ·(exact congrArg Value.bool (by first | (simp [Cmd.good,Cmd.part,Cmd.fit,Cmd.eqv,Cmd.base,Cmd.empty, *] <;> rfl) | (simp_all [Cmd.good,Cmd.part,Cmd.fit,Cmd.eqv,Cmd.base,Cmd.empty] <;> rfl)))
   ·trivial
   ·exact hA.keep (m:=[]) (Y:=[]) rfl
  intro h32
  (try simp only [decide_eq_true_eq,decide_eq_false_iff_not,Bool.not_eq_true',Bool.not_eq_false',Bool.not_eq_true,Bool.not_eq_false,Bool.true_eq_false,Bool.false_eq_true,not_false_eq_true,not_true_eq_false] at h32)
  iterate 3 refine HO_no rfl rfl rfl ?_
  refine HO_pick_f rfl rfl rfl rfl ?_
  refine HO_move rfl rfl rfl ?_
  iterate 3 refine HO_no rfl rfl rfl ?_
  refine HO_pick_f rfl rfl rfl rfl ?_
  refine HO_move rfl rfl rfl ?_
  iterate 2 refine HO_no rfl rfl rfl ?_
  refine HO_pick_f rfl rfl rfl rfl ?_
  refine HO_assign rfl rfl rfl ?_
  refine HO_nil ?_
  refine H_env (ρ':=[(2,_)]) ⟨rfl,trivial⟩ ?_
  refine H_world (kp [nn,nn,nn] [] rfl) ?_
  refine H_ret1 Tryz.results84 (.tmp rfl) (fun w hA => ⟨(),congrArg Ending.returned ?_,?_,?_⟩)
  ·(exact congrArg Value.bool (by first | (simp [Cmd.good,Cmd.part,Cmd.fit,Cmd.eqv,Cmd.base,Cmd.empty, *] <;> rfl) | (simp_all [Cmd.good,Cmd.part,Cmd.fit,Cmd.eqv,Cmd.base,Cmd.empty] <;> rfl)))
  ·trivial
  ·exact hA.keep (m:=[]) (Y:=[]) rfl
 ·skip
  subst hc
  refine H_region (l:=[_,_,_,_,_,_,_,_]) rfl ?_
  refine HO_loadA (i:=0) (us:=[]) (cs:=[_,_,_,_,_,_,_,_]) (ts:=[]) rfl rfl rfl Tryz.isAgg68 Tryz.sizeOf68 rfl (.loc _ _ _) rfl rfl rfl rfl ?_
  refine HO_call (first:=[]) (capt:=[]) (is:=[]) (R:=[_]) rfl rfl rfl rfl rfl Tryz.call117 rfl (fits_6 _ _ _ _ _ _ _) ?_
  intro y26 hy26
  refine HO_move rfl rfl rfl ?_
  refine HO_extract (vs:=[_,_]) rfl rfl rfl rfl ?_
  refine HO_extract (vs:=[_,_]) rfl rfl rfl rfl ?_
  refine HO_alloc (cs:=[_,_,_,_,_,_,_,_]) rfl rfl Tryz.zeroValue68 rfl ?_
  intro g3
  refine HO_store (i:=0) (j:=0) (us:=[]) (old:=[_,_,_,_,_,_,_,_]) (ts:=[]) (cs:=[_,_,_,_,_,_,_,_]) (R:=[_,_,_]) (new:=[_,_,_,_,_,_,_,_]) rfl rfl rfl Tryz.sizeOf68 rfl (by simp [Value.oneCell']) rfl rfl rfl rfl rfl rfl ?_
  refine HO_assign rfl rfl rfl ?_
  refine HO_nil ?_
  refine H_env (ρ':=[(4,_),(3,_),(1,_)]) ⟨rfl,rfl,rfl,trivial⟩ ?_
  refine H_seq ?_
  refine H_region (l:=[_,_,_,_,_,_,_,_,_,_,_,_,_,_,_,_,_,_]) rfl ?_
  refine HO_loadA (i:=3) (us:=[]) (cs:=[_,_,_,_,_,_,_,_]) (ts:=[]) rfl rfl rfl Tryz.isAgg68 Tryz.sizeOf68 rfl (.loc _ _ _) rfl rfl rfl rfl ?_
  refine HO_loadA (i:=0) (us:=[]) (cs:=[_,_,_,_,_,_,_,_]) (ts:=[]) rfl rfl rfl Tryz.isAgg68 Tryz.sizeOf68 rfl (.loc _ _ _) rfl rfl rfl rfl ?_
  refine HO_bin rfl rfl rfl rfl eq68_eql ?_
  refine HO_move rfl rfl rfl ?_
  refine HO_split (d:=32) rfl ?_ ?_
  ·intro h32
   (try simp only [decide_eq_true_eq,decide_eq_false_iff_not,Bool.not_eq_true',Bool.not_eq_false',Bool.not_eq_true,Bool.not_eq_false,Bool.true_eq_false,Bool.false_eq_true,not_false_eq_true,not_true_eq_false] at h32)
   refine HO_fieldAddr (r:=1) rfl rfl rfl Tryz.underlying68 rfl Tryz.sizeOf3 rfl ?_
   refine HO_load1 (i:=3) (j:=1) rfl rfl rfl Tryz.isAgg3 rfl (.loc _ _ _) rfl rfl ?_
   refine HO_bin rfl rfl rfl rfl bin_gtr ?_
   refine HO_pick_t rfl rfl rfl rfl ?_
   refine HO_move rfl rfl rfl ?_
   refine HO_split (d:=37) rfl ?_ ?_
   ·intro h37
    replace h37:=dT h37
    refine HO_fieldAddr (r:=2) rfl rfl rfl Tryz.underlying68 rfl Tryz.sizeOf3 rfl ?_
    refine HO_load1 (i:=3) (j:=2) rfl rfl rfl Tryz.isAgg3 rfl (.loc _ _ _) rfl rfl ?_
    refine HO_bin rfl rfl rfl rfl bin_gtr ?_
    refine HO_pick_t rfl rfl rfl rfl ?_
    refine HO_move rfl rfl rfl ?_
    refine HO_split (d:=42) rfl ?_ ?_
    ·intro h42
     replace h42:=dT h42
     refine HO_move rfl rfl rfl ?_
     refine HO_call (first:=[]) (capt:=[_,_]) (is:=[1,2]) (R:=[_,_]) rfl rfl rfl rfl rfl Tryz.call140 rfl (fits3_spec _ _ _ _ _ _ _ _ _ _) ?_
     intro y44 hy44
     clear y44 hy44
     refine HO_pick_t rfl rfl rfl rfl ?_
     refine HO_assign rfl rfl rfl ?_
     refine HO_nil ?_
     refine H_env (ρ':=[(2,_)]) ⟨rfl,trivial⟩ ?_
     refine H_world (kp [nn,nn,nn,nn] [] rfl) ?_
     refine H_ret1 Tryz.results84 (.tmp rfl) (fun w hA => ⟨(),congrArg Ending.returned ?_,?_,?_⟩)
     ·(exact congrArg Value.bool (by first | (simp [Cmd.good,Cmd.part,Cmd.fit,Cmd.eqv,Cmd.base,Cmd.empty, *] <;> rfl) | (simp_all [Cmd.good,Cmd.part,Cmd.fit,Cmd.eqv,Cmd.base,Cmd.empty] <;> rfl)))
     ·trivial
     ·exact hA.keep (m:=[]) (Y:=[]) rfl
    intro h42
    replace h42:=dF h42
    iterate 2 refine HO_no rfl rfl rfl ?_
    refine HO_pick_f rfl rfl rfl rfl ?_
    refine HO_assign rfl rfl rfl ?_
    refine HO_nil ?_
    refine H_env (ρ':=[(2,_)]) ⟨rfl,trivial⟩ ?_
    refine H_world (kp [nn,nn,nn,nn] [] rfl) ?_
    refine H_ret1 Tryz.results84 (.tmp rfl) (fun w hA => ⟨(),congrArg Ending.returned ?_,?_,?_⟩)
    ·(exact congrArg Value.bool (by first | (simp [Cmd.good,Cmd.part,Cmd.fit,Cmd.eqv,Cmd.base,Cmd.empty, *] <;> rfl) | (simp_all [Cmd.good,Cmd.part,Cmd.fit,Cmd.eqv,Cmd.base,Cmd.empty] <;> rfl)))
    ·trivial
    ·exact hA.keep (m:=[]) (Y:=[]) rfl
   intro h37
   replace h37:=dF h37
   iterate 3 refine HO_no rfl rfl rfl ?_
   refine HO_pick_f rfl rfl rfl rfl ?_
   refine HO_move rfl rfl rfl ?_
   iterate 2 refine HO_no rfl rfl rfl ?_
   refine HO_pick_f rfl rfl rfl rfl ?_
   refine HO_assign rfl rfl rfl ?_
   refine HO_nil ?_
   refine H_env (ρ':=[(2,_)]) ⟨rfl,trivial⟩ ?_
   refine H_world (kp [nn,nn,nn,nn] [] rfl) ?_
   refine H_ret1 Tryz.results84 (.tmp rfl) (fun w hA => ⟨(),congrArg Ending.returned ?_,?_,?_⟩)
   ·(exact congrArg Value.bool (by first | (simp [Cmd.good,Cmd.part,Cmd.fit,Cmd.eqv,Cmd.base,Cmd.empty, *] <;> rfl) | (simp_all [Cmd.good,Cmd.part,Cmd.fit,Cmd.eqv,Cmd.base,Cmd.empty] <;> rfl)))
   ·trivial
   ·exact hA.keep (m:=[]) (Y:=[]) rfl
  intro h32
  (try simp only [decide_eq_true_eq,decide_eq_false_iff_not,Bool.not_eq_true',Bool.not_eq_false',Bool.not_eq_true,Bool.not_eq_false,Bool.true_eq_false,Bool.false_eq_true,not_false_eq_true,not_true_eq_false] at h32)
  iterate 3 refine HO_no rfl rfl rfl ?_
  refine HO_pick_f rfl rfl rfl rfl ?_
  refine HO_move rfl rfl rfl ?_
  iterate 3 refine HO_no rfl rfl rfl ?_
  refine HO_pick_f rfl rfl rfl rfl ?_
  refine HO_move rfl rfl rfl ?_
  iterate 2 refine HO_no rfl rfl rfl ?_
  refine HO_pick_f rfl rfl rfl rfl ?_
  refine HO_assign rfl rfl rfl ?_
  refine HO_nil ?_
  refine H_env (ρ':=[(2,_)]) ⟨rfl,trivial⟩ ?_
  refine H_world (kp [nn,nn,nn,nn] [] rfl) ?_
  refine H_ret1 Tryz.results84 (.tmp rfl) (fun w hA => ⟨(),congrArg Ending.returned ?_,?_,?_⟩)
  ·(exact congrArg Value.bool (by first | (simp [Cmd.good,Cmd.part,Cmd.fit,Cmd.eqv,Cmd.base,Cmd.empty, *] <;> rfl) | (simp_all [Cmd.good,Cmd.part,Cmd.fit,Cmd.eqv,Cmd.base,Cmd.empty] <;> rfl)))
  ·trivial
  ·exact hA.keep (m:=[]) (Y:=[]) rfl
 ·skip
  subst hc
  refine H_region (l:=[_,_,_,_,_,_,_,_]) rfl ?_
  refine HO_loadA (i:=0) (us:=[]) (cs:=[_,_,_,_,_,_,_,_]) (ts:=[]) rfl rfl rfl Tryz.isAgg68 Tryz.sizeOf68 rfl (.loc _ _ _) rfl rfl rfl rfl ?_
  refine HO_call (first:=[]) (capt:=[]) (is:=[]) (R:=[_]) rfl rfl rfl rfl rfl Tryz.call117 rfl (fits_7 _ _ _ _ _ _ _) ?_
  intro y26 hy26
  refine HO_move rfl rfl rfl ?_
  refine HO_extract (vs:=[_,_]) rfl rfl rfl rfl ?_
  refine HO_extract (vs:=[_,_]) rfl rfl rfl rfl ?_
  refine HO_alloc (cs:=[_,_,_,_,_,_,_,_]) rfl rfl Tryz.zeroValue68 rfl ?_
  intro g3
  refine HO_store (i:=0) (j:=0) (us:=[]) (old:=[_,_,_,_,_,_,_,_]) (ts:=[]) (cs:=[_,_,_,_,_,_,_,_]) (R:=[_,_]) (new:=[_,_,_,_,_,_,_,_]) rfl rfl rfl Tryz.sizeOf68 rfl (by simp [Value.oneCell']) rfl rfl rfl rfl rfl rfl ?_
  refine HO_assign rfl rfl rfl ?_
  refine HO_nil ?_
  refine H_env (ρ':=[(4,_),(3,_),(1,_)]) ⟨rfl,rfl,rfl,trivial⟩ ?_
  refine H_seq ?_
  refine H_region (l:=[_,_,_,_,_,_,_,_,_,_,_,_,_,_,_,_,_,_]) rfl ?_
  refine HO_loadA (i:=2) (us:=[]) (cs:=[_,_,_,_,_,_,_,_]) (ts:=[]) rfl rfl rfl Tryz.isAgg68 Tryz.sizeOf68 rfl (.loc _ _ _) rfl rfl rfl rfl ?_
  refine HO_loadA (i:=0) (us:=[]) (cs:=[_,_,_,_,_,_,_,_]) (ts:=[]) rfl rfl rfl Tryz.isAgg68 Tryz.sizeOf68 rfl (.loc _ _ _) rfl rfl rfl rfl ?_
  refine HO_bin rfl rfl rfl rfl eq68_eql ?_
  refine HO_move rfl rfl rfl ?_
  refine HO_split (d:=32) rfl ?_ ?_
  ·intro h32
   (try simp only [decide_eq_true_eq,decide_eq_false_iff_not,Bool.not_eq_true',Bool.not_eq_false',Bool.not_eq_true,Bool.not_eq_false,Bool.true_eq_false,Bool.false_eq_true,not_false_eq_true,not_true_eq_false] at h32)
   refine HO_fieldAddr (r:=1) rfl rfl rfl Tryz.underlying68 rfl Tryz.sizeOf3 rfl ?_
   refine HO_load1 (i:=2) (j:=1) rfl rfl rfl Tryz.isAgg3 rfl (.loc _ _ _) rfl rfl ?_
   refine HO_bin rfl rfl rfl rfl bin_gtr ?_
   refine HO_pick_t rfl rfl rfl rfl ?_
   refine HO_move rfl rfl rfl ?_
   refine HO_split (d:=37) rfl ?_ ?_
   ·intro h37
    replace h37:=dT h37
    refine HO_fieldAddr (r:=2) rfl rfl rfl Tryz.underlying68 rfl Tryz.sizeOf3 rfl ?_
    refine HO_load1 (i:=2) (j:=2) rfl rfl rfl Tryz.isAgg3 rfl (.loc _ _ _) rfl rfl ?_
    refine HO_bin rfl rfl rfl rfl bin_gtr ?_
    refine HO_pick_t rfl rfl rfl rfl ?_
    refine HO_move rfl rfl rfl ?_
    refine HO_split (d:=42) rfl ?_ ?_
    ·intro h42
     replace h42:=dT h42
     refine HO_move rfl rfl rfl ?_
     refine HO_call (first:=[]) (capt:=[_]) (is:=[1]) (R:=[_,_]) rfl rfl rfl rfl rfl Tryz.call141 rfl (fits4_spec _ _ _ _ _ _ _ _ _) ?_
     intro y44 hy44
     clear y44 hy44
     refine HO_pick_t rfl rfl rfl rfl ?_
     refine HO_assign rfl rfl rfl ?_
     refine HO_nil ?_
     refine H_env (ρ':=[(2,_)]) ⟨rfl,trivial⟩ ?_
     refine H_world (kp [nn,nn,nn] [] rfl) ?_
     refine H_ret1 Tryz.results84 (.tmp rfl) (fun w hA => ⟨(),congrArg Ending.returned ?_,?_,?_⟩)
     ·(exact congrArg Value.bool (by first | (simp [Cmd.good,Cmd.part,Cmd.fit,Cmd.eqv,Cmd.base,Cmd.empty, *] <;> rfl) | (simp_all [Cmd.good,Cmd.part,Cmd.fit,Cmd.eqv,Cmd.base,Cmd.empty] <;> rfl)))
     ·trivial
     ·exact hA.keep (m:=[]) (Y:=[]) rfl
    intro h42
    replace h42:=dF h42
    iterate 2 refine HO_no rfl rfl rfl ?_
    refine HO_pick_f rfl rfl rfl rfl ?_
    refine HO_assign rfl rfl rfl ?_
    refine HO_nil ?_
    refine H_env (ρ':=[(2,_)]) ⟨rfl,trivial⟩ ?_
    refine H_world (kp [nn,nn,nn] [] rfl) ?_
    refine H_ret1 Tryz.results84 (.tmp rfl) (fun w hA => ⟨(),congrArg Ending.returned ?_,?_,?_⟩)
    ·(exact congrArg Value.bool (by first | (simp [Cmd.good,Cmd.part,Cmd.fit,Cmd.eqv,Cmd.base,Cmd.empty, *] <;> rfl) | (simp_all [Cmd.good,Cmd.part,Cmd.fit,Cmd.eqv,Cmd.base,Cmd.empty] <;> rfl)))
    ·trivial
    ·exact hA.keep (m:=[]) (Y:=[]) rfl
   intro h37
   replace h37:=dF h37
   iterate 3 refine HO_no rfl rfl rfl ?_
   refine HO_pick_f rfl rfl rfl rfl ?_
   refine HO_move rfl rfl rfl ?_
   iterate 2 refine HO_no rfl rfl rfl ?_
   refine HO_pick_f rfl rfl rfl rfl ?_
   refine HO_assign rfl rfl rfl ?_
   refine HO_nil ?_
   refine H_env (ρ':=[(2,_)]) ⟨rfl,trivial⟩ ?_
   refine H_world (kp [nn,nn,nn] [] rfl) ?_
   refine H_ret1 Tryz.results84 (.tmp rfl) (fun w hA => ⟨(),congrArg Ending.returned ?_,?_,?_⟩)
   ·(exact congrArg Value.bool (by first | (simp [Cmd.good,Cmd.part,Cmd.fit,Cmd.eqv,Cmd.base,Cmd.empty, *] <;> rfl) | (simp_all [Cmd.good,Cmd.part,Cmd.fit,Cmd.eqv,Cmd.base,Cmd.empty] <;> rfl)))
   ·trivial
   ·exact hA.keep (m:=[]) (Y:=[]) rfl
  intro h32
  (try simp only [decide_eq_true_eq,decide_eq_false_iff_not,Bool.not_eq_true',Bool.not_eq_false',Bool.not_eq_true,Bool.not_eq_false,Bool.true_eq_false,Bool.false_eq_true,not_false_eq_true,not_true_eq_false] at h32)
  iterate 3 refine HO_no rfl rfl rfl ?_
  refine HO_pick_f rfl rfl rfl rfl ?_
  refine HO_move rfl rfl rfl ?_
  iterate 3 refine HO_no rfl rfl rfl ?_
  refine HO_pick_f rfl rfl rfl rfl ?_
  refine HO_move rfl rfl rfl ?_
  iterate 2 refine HO_no rfl rfl rfl ?_
  refine HO_pick_f rfl rfl rfl rfl ?_
  refine HO_assign rfl rfl rfl ?_
  refine HO_nil ?_
  refine H_env (ρ':=[(2,_)]) ⟨rfl,trivial⟩ ?_
  refine H_world (kp [nn,nn,nn] [] rfl) ?_
  refine H_ret1 Tryz.results84 (.tmp rfl) (fun w hA => ⟨(),congrArg Ending.returned ?_,?_,?_⟩)
  ·(exact congrArg Value.bool (by first | (simp [Cmd.good,Cmd.part,Cmd.fit,Cmd.eqv,Cmd.base,Cmd.empty, *] <;> rfl) | (simp_all [Cmd.good,Cmd.part,Cmd.fit,Cmd.eqv,Cmd.base,Cmd.empty] <;> rfl)))
  ·trivial
  ·exact hA.keep (m:=[]) (Y:=[]) rfl
 ·skip
  refine H_region (l:=[_,_,_,_,_,_,_,_]) rfl ?_
  refine HO_loadA (i:=0) (us:=[]) (cs:=[_,_,_,_,_,_,_,_]) (ts:=[]) rfl rfl rfl Tryz.isAgg68 Tryz.sizeOf68 rfl (.loc _ _ _) rfl rfl rfl rfl ?_
  refine HO_call (first:=[]) (capt:=[]) (is:=[]) (R:=[_]) rfl rfl rfl rfl rfl Tryz.call117 rfl (fits_no _ _ _ _ _ _ _ _ ?_ ?_ ?_ ?_ ?_) ?_
  ·exact hc.1
  ·exact hc.2.1
  ·exact hc.2.2.1
  ·exact hc.2.2.2.1
  ·exact hc.2.2.2.2
  intro y26 hy26
  refine HO_move rfl rfl rfl ?_
  refine HO_extract (vs:=[_,_]) rfl rfl rfl rfl ?_
  refine HO_extract (vs:=[_,_]) rfl rfl rfl rfl ?_
  refine HO_alloc (cs:=[_,_,_,_,_,_,_,_]) rfl rfl Tryz.zeroValue68 rfl ?_
  intro g3
  refine HO_store (i:=0) (j:=0) (us:=[]) (old:=[_,_,_,_,_,_,_,_]) (ts:=[]) (cs:=[_,_,_,_,_,_,_,_]) (R:=[_]) (new:=[_,_,_,_,_,_,_,_]) rfl rfl rfl Tryz.sizeOf68 rfl (by simp [Value.oneCell']) rfl rfl rfl rfl rfl rfl ?_
  refine HO_assign rfl rfl rfl ?_
  refine HO_nil ?_
  refine H_env (ρ':=[(4,_),(3,_),(1,_)]) ⟨rfl,rfl,rfl,trivial⟩ ?_
  refine H_seq ?_
  refine H_region (l:=[_,_,_,_,_,_,_,_,_,_,_,_,_,_,_,_,_,_]) rfl ?_
  refine HO_loadA (i:=1) (us:=[]) (cs:=[_,_,_,_,_,_,_,_]) (ts:=[]) rfl rfl rfl Tryz.isAgg68 Tryz.sizeOf68 rfl (.loc _ _ _) rfl rfl rfl rfl ?_
  refine HO_loadA (i:=0) (us:=[]) (cs:=[_,_,_,_,_,_,_,_]) (ts:=[]) rfl rfl rfl Tryz.isAgg68 Tryz.sizeOf68 rfl (.loc _ _ _) rfl rfl rfl rfl ?_
  refine HO_bin rfl rfl rfl rfl eq68_eql ?_
  refine HO_move rfl rfl rfl ?_
  refine HO_split (d:=32) rfl ?_ ?_
  ·intro h32
   (try simp only [decide_eq_true_eq,decide_eq_false_iff_not,Bool.not_eq_true',Bool.not_eq_false',Bool.not_eq_true,Bool.not_eq_false,Bool.true_eq_false,Bool.false_eq_true,not_false_eq_true,not_true_eq_false] at h32)
   refine HO_fieldAddr (r:=1) rfl rfl rfl Tryz.underlying68 rfl Tryz.sizeOf3 rfl ?_
   refine HO_load1 (i:=1) (j:=1) rfl rfl rfl Tryz.isAgg3 rfl (.loc _ _ _) rfl rfl ?_
   refine HO_bin rfl rfl rfl rfl bin_gtr ?_
   refine HO_pick_t rfl rfl rfl rfl ?_
   refine HO_move rfl rfl rfl ?_
   refine HO_split (d:=37) rfl ?_ ?_
   ·intro h37
    replace h37:=dT h37
    refine HO_fieldAddr (r:=2) rfl rfl rfl Tryz.underlying68 rfl Tryz.sizeOf3 rfl ?_
    refine HO_load1 (i:=1) (j:=2) rfl rfl rfl Tryz.isAgg3 rfl (.loc _ _ _) rfl rfl ?_
    refine HO_bin rfl rfl rfl rfl bin_gtr ?_
    refine HO_pick_t rfl rfl rfl rfl ?_
    refine HO_move rfl rfl rfl ?_
    refine HO_split (d:=42) rfl ?_ ?_
    ·intro h42
     replace h42:=dT h42
     refine HO_move rfl rfl rfl ?_
     refine HO_call (first:=[]) (capt:=[]) (is:=[]) (R:=[_,_]) rfl rfl rfl rfl rfl Tryz.call142 rfl fits5_spec ?_
     intro y44 hy44
     clear y44 hy44
     refine HO_pick_t rfl rfl rfl rfl ?_
     refine HO_assign rfl rfl rfl ?_
     refine HO_nil ?_
     refine H_env (ρ':=[(2,_)]) ⟨rfl,trivial⟩ ?_
     refine H_world (kp [nn,nn] [] rfl) ?_
     refine H_ret1 Tryz.results84 (.tmp rfl) (fun w hA => ⟨(),congrArg Ending.returned ?_,?_,?_⟩)
     ·(exact congrArg Value.bool (by first | (simp [Cmd.good,Cmd.part,Cmd.fit,Cmd.eqv,Cmd.base,Cmd.empty, *] <;> rfl) | (simp_all [Cmd.good,Cmd.part,Cmd.fit,Cmd.eqv,Cmd.base,Cmd.empty] <;> rfl)))
     ·trivial
     ·exact hA.keep (m:=[]) (Y:=[]) rfl
    intro h42
    replace h42:=dF h42
    iterate 2 refine HO_no rfl rfl rfl ?_
    refine HO_pick_f rfl rfl rfl rfl ?_
    refine HO_assign rfl rfl rfl ?_
    refine HO_nil ?_
    refine H_env (ρ':=[(2,_)]) ⟨rfl,trivial⟩ ?_
    refine H_world (kp [nn,nn] [] rfl) ?_
    refine H_ret1 Tryz.results84 (.tmp rfl) (fun w hA => ⟨(),congrArg Ending.returned ?_,?_,?_⟩)
    ·(exact congrArg Value.bool (by first | (simp [Cmd.good,Cmd.part,Cmd.fit,Cmd.eqv,Cmd.base,Cmd.empty, *] <;> rfl) | (simp_all [Cmd.good,Cmd.part,Cmd.fit,Cmd.eqv,Cmd.base,Cmd.empty] <;> rfl)))
    ·trivial
    ·exact hA.keep (m:=[]) (Y:=[]) rfl
   intro h37
   replace h37:=dF h37
   iterate 3 refine HO_no rfl rfl rfl ?_
   refine HO_pick_f rfl rfl rfl rfl ?_
   refine HO_move rfl rfl rfl ?_
   iterate 2 refine HO_no rfl rfl rfl ?_
   refine HO_pick_f rfl rfl rfl rfl ?_
   refine HO_assign rfl rfl rfl ?_
   refine HO_nil ?_
   refine H_env (ρ':=[(2,_)]) ⟨rfl,trivial⟩ ?_
   refine H_world (kp [nn,nn] [] rfl) ?_
   refine H_ret1 Tryz.results84 (.tmp rfl) (fun w hA => ⟨(),congrArg Ending.returned ?_,?_,?_⟩)
   ·(exact congrArg Value.bool (by first | (simp [Cmd.good,Cmd.part,Cmd.fit,Cmd.eqv,Cmd.base,Cmd.empty, *] <;> rfl) | (simp_all [Cmd.good,Cmd.part,Cmd.fit,Cmd.eqv,Cmd.base,Cmd.empty] <;> rfl)))
   ·trivial
   ·exact hA.keep (m:=[]) (Y:=[]) rfl
  intro h32
  (try simp only [decide_eq_true_eq,decide_eq_false_iff_not,Bool.not_eq_true',Bool.not_eq_false',Bool.not_eq_true,Bool.not_eq_false,Bool.true_eq_false,Bool.false_eq_true,not_false_eq_true,not_true_eq_false] at h32)
  iterate 3 refine HO_no rfl rfl rfl ?_
  refine HO_pick_f rfl rfl rfl rfl ?_
  refine HO_move rfl rfl rfl ?_
  iterate 3 refine HO_no rfl rfl rfl ?_
  refine HO_pick_f rfl rfl rfl rfl ?_
  refine HO_move rfl rfl rfl ?_
  iterate 2 refine HO_no rfl rfl rfl ?_
  refine HO_pick_f rfl rfl rfl rfl ?_
  refine HO_assign rfl rfl rfl ?_
  refine HO_nil ?_
  refine H_env (ρ':=[(2,_)]) ⟨rfl,trivial⟩ ?_
  refine H_world (kp [nn,nn] [] rfl) ?_
  refine H_ret1 Tryz.results84 (.tmp rfl) (fun w hA => ⟨(),congrArg Ending.returned ?_,?_,?_⟩)
  ·(exact congrArg Value.bool (by first | (simp [Cmd.good,Cmd.part,Cmd.fit,Cmd.eqv,Cmd.base,Cmd.empty, *] <;> rfl) | (simp_all [Cmd.good,Cmd.part,Cmd.fit,Cmd.eqv,Cmd.base,Cmd.empty] <;> rfl)))
  ·trivial
  ·exact hA.keep (m:=[]) (Y:=[]) rfl
end Go.Wk
