/- Contracts of the program's functions, each proved by walking its code. -/
import Derived.Test.YtdaphlemhmgncaaGreatKgcmd1
import Derived.Test.YtdaphlemhmgncaaGreatCmd
import Derived.Test.YtdaphlemhmgncaaGreatWk17
import Derived.Test.YtdaphlemhmgncaaGreatKgref01b
set_option maxRecDepth 100000
set_option linter.unusedVariables false
set_option linter.unusedSimpArgs false
namespace Go.Wk.Fcmd2
open Go Go.RowKit Go.Proofs Go.Wk
theorem bd146_0_1_2_3_iiii {x1 : Int} {x2 : Int} {x3 : Int} {x4 : Int} : ∀ w,(Instr.build 146 (List.toArray (List.zip [0,1,2,3] [.int .i64 x1,.int .i64 x2,.int .i64 x3,.int .i64 x4]))).run Tryz.prog w = .ok (.agg #[.int .i64 x1,.int .i64 x2,.int .i64 x3,.int .i64 x4]) w:=fun _ => by kernel_rfl
theorem bd147_0_1_2_3_tttt {x1 : ByteArray} {x2 : ByteArray} {x3 : ByteArray} {x4 : ByteArray} : ∀ w,(Instr.build 147 (List.toArray (List.zip [0,1,2,3] [.string x1,.string x2,.string x3,.string x4]))).run Tryz.prog w = .ok (.agg #[.string x1,.string x2,.string x3,.string x4]) w:=fun _ => by kernel_rfl
theorem bd68_0_1_ii {x1 : Int} {x2 : Int} : ∀ w,(Instr.build 68 (List.toArray (List.zip [0,1] [.int .i64 x1,.int .i64 x2]))).run Tryz.prog w = .ok (.agg #[.int .i64 x1,.int .i64 x2,.int .i64 (0),.string (⟨#[]⟩),.string (⟨#[]⟩),.string (⟨#[]⟩),.string (⟨#[]⟩),.int .i64 (0)]) w:=fun _ => by kernel_rfl
theorem bd68_0_i {x1 : Int} : ∀ w,(Instr.build 68 (List.toArray (List.zip [0] [.int .i64 x1]))).run Tryz.prog w = .ok (.agg #[.int .i64 x1,.int .i64 (0),.int .i64 (0),.string (⟨#[]⟩),.string (⟨#[]⟩),.string (⟨#[]⟩),.string (⟨#[]⟩),.int .i64 (0)]) w:=fun _ => by kernel_rfl
theorem eq68_eql {x y : Operand} {a0 b0 : Int} {a1 b1 : Int} {a2 b2 : Int} {a3 b3 : ByteArray} {a4 b4 : ByteArray} {a5 b5 : ByteArray} {a6 b6 : ByteArray} {a7 b7 : Int} : BinR Tryz.prog .eql 68 x y (.agg #[.int .i64 a0,.int .i64 a1,.int .i64 a2,.string a3,.string a4,.string a5,.string a6,.int .i64 a7]) (.agg #[.int .i64 b0,.int .i64 b1,.int .i64 b2,.string b3,.string b4,.string b5,.string b6,.int .i64 b7]) (.bool (decide (a0 = b0) && (decide (a1 = b1) && (decide (a2 = b2) && (decide (a3 = b3) && (decide (a4 = b4) && (decide (a5 = b5) && (decide (a6 = b6) && (decide (a7 = b7) && true))))))))) :=
 bin_eqs_agg (by kernel_rfl) Tryz.underlying68 (by kernel_rfl) (fun w => (eqF_int (by decide) Tryz.underlying3 Tryz.isAgg3 rfl rfl (eqF_int (by decide) Tryz.underlying3 Tryz.isAgg3 rfl rfl (eqF_int (by decide) Tryz.underlying3 Tryz.isAgg3 rfl rfl (eqF_str (by decide) Tryz.underlying9 Tryz.isAgg9 rfl rfl (eqF_str (by decide) Tryz.underlying9 Tryz.isAgg9 rfl rfl (eqF_str (by decide) Tryz.underlying9 Tryz.isAgg9 rfl rfl (eqF_str (by decide) Tryz.underlying9 Tryz.isAgg9 rfl rfl (eqF_int (by decide) Tryz.underlying3 Tryz.isAgg3 rfl rfl eqF_nil)))))))))
end Go.Wk.Fcmd2
namespace Go.Wk
open Go Go.RowKit Go.Proofs Fcmd2 
theorem good2_f {ki se sq : Int} {ke ol va ti : ByteArray} {li : Int} (h : ki = 2) (h2 : (decide True && (decide True && (decide (sq = 0) && (decide (ke = (⟨#[]⟩ : ByteArray)) && (decide (ol = (⟨#[]⟩ : ByteArray)) && (decide (va = (⟨#[]⟩ : ByteArray)) && (decide (ti = (⟨#[]⟩ : ByteArray)) && (decide (li = 0) && true)))))))) = false) : false = Cmd.good ⟨ki,se,sq,ke,ol,va,ti,li⟩:=by
 subst h
 have e : Cmd.eqv ⟨2,se,sq,ke,ol,va,ti,li⟩ ⟨2,se,0,Cmd.empty,Cmd.empty,Cmd.empty,Cmd.empty,0⟩ = false:=by
  rw [← h2]
  unfold Cmd.eqv Cmd.empty
  simp
 unfold Cmd.good
 rw [if_neg (by show ¬ ((2 : Int) = 1);decide),if_pos rfl]
 simp only [e,Bool.and_false]
theorem bytes_spec (ki se sq : Int) (ke ol va ti : ByteArray) (li : Int) (hs : ke.size + ol.size + va.size + ti.size≤100000) : Spec Tryz.prog 89 #[.agg #[.int .i64 (ki),.int .i64 (se),.int .i64 (sq),.string (ke),.string (ol),.string (va),.string (ti),.int .i64 (li)]] [] (β:=Option Addr × Nat) (fun y => .slice y.1 ((Cmd.bytes ⟨ki,se,sq,ke,ol,va,ti,li⟩).length) y.2) (fun y => True) (fun y => [.own 5 kByte y.1 y.2 (Cmd.bytes ⟨ki,se,sq,ke,ol,va,ti,li⟩)]):=by
 have e0:=Cod.enc_le9 (Cod.zig ki)
 have e1:=Cod.enc_le9 (Cod.zig se)
 have e2:=Cod.enc_le9 (Cod.zig sq)
 have e3:=Cod.enc_le9 (Cod.zig li)
 have u0:=Cod.enc_le9 ke.size
 have u1:=Cod.enc_le9 ol.size
 have u2:=Cod.enc_le9 va.size
 have u3:=Cod.enc_le9 ti.size
 have v0 : ke.data.toList.length = ke.size:=Array.length_toList
 have v1 : ol.data.toList.length = ol.size:=Array.length_toList
 have v2 : va.data.toList.length = va.size:=Array.length_toList
 have v3 : ti.data.toList.length = ti.size:=Array.length_toList
 refine Spec.enter (vs:=[_]) Tryz.func89 rfl Tryz.ntmps89 rfl (Nat.le_of_ble_eq_true rfl) (fun w0 ok0 => ?_)
 generalize hM0 : blks _ = M0
 have hMn:=@noM _ _ hM0 (by simp [Atom.dat,Atom.elem])
 refine H_seq ?_
 refine H_region (l:=[_,_]) rfl ?_
 refine HO_box (cs:=[_,_,_,_,_,_,_,_]) rfl rfl rfl rfl ?_
 intro g1
 refine HO_assign rfl rfl rfl ?_
 refine HO_nil ?_
 refine H_env (ρ':=[(1,_)]) ⟨rfl,trivial⟩ ?_
 refine H_seq ?_
 refine H_region (l:=[_]) rfl ?_
 refine HO_assign rfl rfl rfl ?_
 refine HO_nil ?_
 refine H_seq ?_
 refine H_seq ?_
 refine H_region (l:=[_,_,_,_,_,_,_,_,_,_]) rfl ?_
 refine HO_fieldAddr (r:=0) rfl rfl rfl Tryz.underlying68 rfl Tryz.sizeOf3 rfl ?_
 refine HO_load1 (i:=0) (j:=0) rfl rfl rfl Tryz.isAgg3 rfl (.loc _ _ _) rfl rfl ?_
 refine HO_fieldAddr (r:=1) rfl rfl rfl Tryz.underlying68 rfl Tryz.sizeOf3 rfl ?_
 refine HO_load1 (i:=0) (j:=1) rfl rfl rfl Tryz.isAgg3 rfl (.loc _ _ _) rfl rfl ?_
 refine HO_fieldAddr (r:=2) rfl rfl rfl Tryz.underlying68 rfl Tryz.sizeOf3 rfl ?_
 refine HO_load1 (i:=0) (j:=2) rfl rfl rfl Tryz.isAgg3 rfl (.loc _ _ _) rfl rfl ?_
 refine HO_fieldAddr (r:=7) rfl rfl rfl Tryz.underlying68 rfl Tryz.sizeOf3 rfl ?_
 refine HO_load1 (i:=0) (j:=7) rfl rfl rfl Tryz.isAgg3 rfl (.loc _ _ _) rfl rfl ?_
 refine HO_build (xo:=[(0,_),(1,_),(2,_),(3,_)]) (vs:=[_,_,_,_]) rfl rfl rfl rfl (bd146_0_1_2_3_iiii) ?_
 refine HO_move rfl rfl rfl ?_
 refine HO_nil ?_
 refine H_env (ρ':=[(17,_),(16,_),(3,_),(1,_)]) ⟨rfl,rfl,rfl,rfl,trivial⟩ ?_
 refine H_block ?_
 refine H_rounds 5 ?_
 refine H_rnd ?_
 refine H_seq ?_
 refine H_region (l:=[_]) rfl ?_
 refine HO_bin rfl rfl rfl rfl (bin_lit (by decide) (fun _ => rfl)) ?_
 refine HO_nil ?_
 refine H_seq ?_
 refine H_cond rfl (fun _ => ?_) (fun h => nomatch h)
 refine H_skip ?_
 refine H_seq ?_
 refine H_block ?_
 refine H_seq ?_
 refine H_region (l:=[_,_]) rfl ?_
 refine HO_indexV (j:=0) (cs:=[_,_,_,_]) rfl rfl rfl rfl Tryz.underlying146 Tryz.isAgg3 Tryz.sizeOf3 rfl (by decide) rfl ?_
 refine HO_assign rfl rfl rfl ?_
 refine HO_nil ?_
 refine H_env (ρ':=[(5,_),(17,_),(16,_),(3,_),(1,_)]) ⟨rfl,rfl,rfl,rfl,rfl,trivial⟩ ?_
 refine H_region (l:=[_,_,_,_,_]) rfl ?_
 iterate 2 refine HO_move rfl rfl rfl ?_
 refine HO_call (first:=[]) (capt:=[]) (is:=[]) (R:=[_]) rfl rfl rfl rfl rfl Tryz.call87 rfl (zig_spec _) ?_
 intro y22 hy22
 clear y22 hy22
 refine HO_nilDat kByte ?_
 refine HO_dup (i:=0) rfl rfl ?_
 refine HO_call (first:=[]) (capt:=[]) (is:=[0]) (R:=[_,_]) rfl rfl rfl rfl rfl Tryz.call86 rfl (Put_spec _ _ _ _ ?_ ?_) ?_
 ·(exact Cod.zig_lt _)
 ·(simp only [List.length_append,List.length_nil];omega)
 intro y23 hy23
 refine HO_assign rfl rfl rfl ?_
 refine HO_nil ?_
 refine H_env (ρ':=[(3,_),(17,_),(16,_),(1,_)]) ⟨rfl,rfl,rfl,rfl,trivial⟩ ?_
 refine H_world (kp [yy,nn,yy] [_,_] rfl) ?_
 refine H_blk ?_
 refine H_region (l:=[_,_]) rfl ?_
 refine HO_bin (r:=.int .i64 (1)) rfl rfl rfl rfl (bin_lit (by decide) (fun _ => rfl)) ?_
 refine HO_move rfl rfl rfl ?_
 refine HO_nil ?_
 refine H_env (ρ':=[(17,_),(3,_),(16,_),(1,_)]) ⟨rfl,rfl,rfl,rfl,trivial⟩ ?_
 refine H_rnd ?_
 refine H_seq ?_
 refine H_region (l:=[_]) rfl ?_
 refine HO_bin rfl rfl rfl rfl (bin_lit (by decide) (fun _ => rfl)) ?_
 refine HO_nil ?_
 refine H_seq ?_
 refine H_cond rfl (fun _ => ?_) (fun h => nomatch h)
 refine H_skip ?_
 refine H_seq ?_
 refine H_block ?_
 refine H_seq ?_
 refine H_region (l:=[_,_]) rfl ?_
 refine HO_indexV (j:=1) (cs:=[_,_,_,_]) rfl rfl rfl rfl Tryz.underlying146 Tryz.isAgg3 Tryz.sizeOf3 rfl (by decide) rfl ?_
 refine HO_assign rfl rfl rfl ?_
 refine HO_nil ?_
 refine H_env (ρ':=[(5,_),(17,_),(3,_),(16,_),(1,_)]) ⟨rfl,rfl,rfl,rfl,rfl,trivial⟩ ?_
 refine H_region (l:=[_,_,_,_,_]) rfl ?_
 iterate 2 refine HO_move rfl rfl rfl ?_
 refine HO_call (first:=[]) (capt:=[]) (is:=[]) (R:=[_,_]) rfl rfl rfl rfl rfl Tryz.call87 rfl (zig_spec _) ?_
 intro y22 hy22
 clear y22 hy22
 refine HO_call (first:=[]) (capt:=[]) (is:=[0]) (R:=[_]) rfl rfl rfl rfl rfl Tryz.call86 rfl (Spec.lend (pre1:=[]) (pre2:=[]) (Put_spec _ _ _ _ ?_ ?_) rfl (by intro y at' ha;obtain rfl:=List.mem_singleton.1 ha;first | exact Atom.Flat.own kByte_plain _ _ _ _ | exact Atom.Flat.own kInt_plain _ _ _ _ | exact Atom.Flat.own kStr_plain _ _ _ _ | exact Atom.Flat.loc _ _ _)) ?_
 ·(exact Cod.zig_lt _)
 ·(simp only [List.length_append,List.length_nil];omega)
 intro y23 hy23
 refine HO_assign rfl rfl rfl ?_
 refine HO_nil ?_
 refine H_env (ρ':=[(3,_),(17,_),(16,_),(1,_)]) ⟨rfl,rfl,rfl,rfl,trivial⟩ ?_
 refine H_world (kp [nn,yy,yy] [_,_] rfl) ?_
 refine H_blk ?_
 refine H_region (l:=[_,_]) rfl ?_
 refine HO_bin (r:=.int .i64 (2)) rfl rfl rfl rfl (bin_lit (by decide) (fun _ => rfl)) ?_
 refine HO_move rfl rfl rfl ?_
 refine HO_nil ?_
 refine H_env (ρ':=[(17,_),(3,_),(16,_),(1,_)]) ⟨rfl,rfl,rfl,rfl,trivial⟩ ?_
 refine H_rnd ?_
 refine H_seq ?_
 refine H_region (l:=[_]) rfl ?_
 refine HO_bin rfl rfl rfl rfl (bin_lit (by decide) (fun _ => rfl)) ?_
 refine HO_nil ?_
 refine H_seq ?_
 refine H_cond rfl (fun _ => ?_) (fun h => nomatch h)
 refine H_skip ?_
 refine H_seq ?_
 refine H_block ?_
 refine H_seq ?_
 refine H_region (l:=[_,_]) rfl ?_
 refine HO_indexV (j:=2) (cs:=[_,_,_,_]) rfl rfl rfl rfl Tryz.underlying146 Tryz.isAgg3 Tryz.sizeOf3 rfl (by decide) rfl ?_
 refine HO_assign rfl rfl rfl ?_
 refine HO_nil ?_
 refine H_env (ρ':=[(5,_),(17,_),(3,_),(16,_),(1,_)]) ⟨rfl,rfl,rfl,rfl,rfl,trivial⟩ ?_
 refine H_region (l:=[_,_,_,_,_]) rfl ?_
 iterate 2 refine HO_move rfl rfl rfl ?_
 refine HO_call (first:=[]) (capt:=[]) (is:=[]) (R:=[_,_]) rfl rfl rfl rfl rfl Tryz.call87 rfl (zig_spec _) ?_
 intro y22 hy22
 clear y22 hy22
 refine HO_call (first:=[]) (capt:=[]) (is:=[0]) (R:=[_]) rfl rfl rfl rfl rfl Tryz.call86 rfl (Spec.lend (pre1:=[]) (pre2:=[]) (Put_spec _ _ _ _ ?_ ?_) rfl (by intro y at' ha;obtain rfl:=List.mem_singleton.1 ha;first | exact Atom.Flat.own kByte_plain _ _ _ _ | exact Atom.Flat.own kInt_plain _ _ _ _ | exact Atom.Flat.own kStr_plain _ _ _ _ | exact Atom.Flat.loc _ _ _)) ?_
 ·(exact Cod.zig_lt _)
 ·(simp only [List.length_append,List.length_nil];omega)
 intro y23 hy23
 refine HO_assign rfl rfl rfl ?_
 refine HO_nil ?_
 refine H_env (ρ':=[(3,_),(17,_),(16,_),(1,_)]) ⟨rfl,rfl,rfl,rfl,trivial⟩ ?_
 refine H_world (kp [nn,yy,yy] [_,_] rfl) ?_
 refine H_blk ?_
 refine H_region (l:=[_,_]) rfl ?_
 refine HO_bin (r:=.int .i64 (3)) rfl rfl rfl rfl (bin_lit (by decide) (fun _ => rfl)) ?_
 refine HO_move rfl rfl rfl ?_
 refine HO_nil ?_
 refine H_env (ρ':=[(17,_),(3,_),(16,_),(1,_)]) ⟨rfl,rfl,rfl,rfl,trivial⟩ ?_
 refine H_rnd ?_
 refine H_seq ?_
 refine H_region (l:=[_]) rfl ?_
 refine HO_bin rfl rfl rfl rfl (bin_lit (by decide) (fun _ => rfl)) ?_
 refine HO_nil ?_
 refine H_seq ?_
 refine H_cond rfl (fun _ => ?_) (fun h => nomatch h)
 refine H_skip ?_
 refine H_seq ?_
 refine H_block ?_
 refine H_seq ?_
 refine H_region (l:=[_,_]) rfl ?_
 refine HO_indexV (j:=3) (cs:=[_,_,_,_]) rfl rfl rfl rfl Tryz.underlying146 Tryz.isAgg3 Tryz.sizeOf3 rfl (by decide) rfl ?_
 refine HO_assign rfl rfl rfl ?_
 refine HO_nil ?_
 refine H_env (ρ':=[(5,_),(17,_),(3,_),(16,_),(1,_)]) ⟨rfl,rfl,rfl,rfl,rfl,trivial⟩ ?_
 refine H_region (l:=[_,_,_,_,_]) rfl ?_
 iterate 2 refine HO_move rfl rfl rfl ?_
 refine HO_call (first:=[]) (capt:=[]) (is:=[]) (R:=[_,_]) rfl rfl rfl rfl rfl Tryz.call87 rfl (zig_spec _) ?_
 intro y22 hy22
 clear y22 hy22
 refine HO_call (first:=[]) (capt:=[]) (is:=[0]) (R:=[_]) rfl rfl rfl rfl rfl Tryz.call86 rfl (Spec.lend (pre1:=[]) (pre2:=[]) (Put_spec _ _ _ _ ?_ ?_) rfl (by intro y at' ha;obtain rfl:=List.mem_singleton.1 ha;first | exact Atom.Flat.own kByte_plain _ _ _ _ | exact Atom.Flat.own kInt_plain _ _ _ _ | exact Atom.Flat.own kStr_plain _ _ _ _ | exact Atom.Flat.loc _ _ _)) ?_
 ·(exact Cod.zig_lt _)
 ·(simp only [List.length_append,List.length_nil];omega)
 intro y23 hy23
 refine HO_assign rfl rfl rfl ?_
 refine HO_nil ?_
 refine H_env (ρ':=[(3,_),(17,_),(16,_),(1,_)]) ⟨rfl,rfl,rfl,rfl,trivial⟩ ?_
 refine H_world (kp [nn,yy,yy] [_,_] rfl) ?_
 refine H_blk ?_
 refine H_region (l:=[_,_]) rfl ?_
 refine HO_bin (r:=.int .i64 (4)) rfl rfl rfl rfl (bin_lit (by decide) (fun _ => rfl)) ?_
 refine HO_move rfl rfl rfl ?_
 refine HO_nil ?_
 refine H_env (ρ':=[(17,_),(3,_),(16,_),(1,_)]) ⟨rfl,rfl,rfl,rfl,trivial⟩ ?_
 refine H_rnd ?_
 refine H_seq ?_
 refine H_region (l:=[_]) rfl ?_
 refine HO_bin rfl rfl rfl rfl (bin_lit (by decide) (fun _ => rfl)) ?_
 refine HO_nil ?_
 refine H_seq ?_
 refine H_cond rfl (fun h => nomatch h) (fun _ => ?_)
 refine H_exit rfl ?_
 refine H_seq ?_
 refine H_seq ?_
 refine H_region (l:=[_,_,_,_,_,_,_,_,_,_]) rfl ?_
 refine HO_fieldAddr (r:=3) rfl rfl rfl Tryz.underlying68 rfl Tryz.sizeOf9 rfl ?_
 refine HO_load1 (i:=1) (j:=3) rfl rfl rfl Tryz.isAgg9 rfl (.loc _ _ _) rfl rfl ?_
 refine HO_fieldAddr (r:=4) rfl rfl rfl Tryz.underlying68 rfl Tryz.sizeOf9 rfl ?_
 refine HO_load1 (i:=1) (j:=4) rfl rfl rfl Tryz.isAgg9 rfl (.loc _ _ _) rfl rfl ?_
 refine HO_fieldAddr (r:=5) rfl rfl rfl Tryz.underlying68 rfl Tryz.sizeOf9 rfl ?_
 refine HO_load1 (i:=1) (j:=5) rfl rfl rfl Tryz.isAgg9 rfl (.loc _ _ _) rfl rfl ?_
 refine HO_fieldAddr (r:=6) rfl rfl rfl Tryz.underlying68 rfl Tryz.sizeOf9 rfl ?_
 refine HO_load1 (i:=1) (j:=6) rfl rfl rfl Tryz.isAgg9 rfl (.loc _ _ _) rfl rfl ?_
 refine HO_build (xo:=[(0,_),(1,_),(2,_),(3,_)]) (vs:=[_,_,_,_]) rfl rfl rfl rfl (bd147_0_1_2_3_tttt) ?_
 refine HO_move rfl rfl rfl ?_
 refine HO_nil ?_
 refine H_env (ρ':=[(34,_),(33,_),(3,_)]) ⟨rfl,rfl,rfl,trivial⟩ ?_
 refine H_world (kp [yy,nn] [_] rfl) ?_
 refine H_block ?_
 refine H_rounds 5 ?_
 refine H_rnd ?_
 refine H_seq ?_
 refine H_region (l:=[_]) rfl ?_
 refine HO_bin rfl rfl rfl rfl (bin_lit (by decide) (fun _ => rfl)) ?_
 refine HO_nil ?_
 refine H_seq ?_
 refine H_cond rfl (fun _ => ?_) (fun h => nomatch h)
 refine H_skip ?_
 refine H_seq ?_
 refine H_block ?_
 refine H_seq ?_
 refine H_region (l:=[_,_]) rfl ?_
 refine HO_indexV (j:=0) (cs:=[_,_,_,_]) rfl rfl rfl rfl Tryz.underlying147 Tryz.isAgg9 Tryz.sizeOf9 rfl (by decide) rfl ?_
 refine HO_assign rfl rfl rfl ?_
 refine HO_nil ?_
 refine H_env (ρ':=[(7,_),(34,_),(33,_),(3,_)]) ⟨rfl,rfl,rfl,rfl,trivial⟩ ?_
 refine H_region (l:=[_,_,_,_]) rfl ?_
 iterate 2 refine HO_move rfl rfl rfl ?_
 refine HO_call (first:=[]) (capt:=[]) (is:=[0]) (R:=[]) rfl rfl rfl rfl rfl Tryz.call88 rfl (Spec.lend (pre1:=[]) (pre2:=[]) (PutText_spec _ _ _ _ ?_ ?_) rfl (by intro y at' ha;obtain rfl:=List.mem_singleton.1 ha;first | exact Atom.Flat.own kByte_plain _ _ _ _ | exact Atom.Flat.own kInt_plain _ _ _ _ | exact Atom.Flat.own kStr_plain _ _ _ _ | exact Atom.Flat.loc _ _ _)) ?_
 ·omega
 ·(simp only [List.length_append,List.length_nil];omega)
 intro y39 hy39
 refine HO_assign rfl rfl rfl ?_
 refine HO_nil ?_
 refine H_env (ρ':=[(3,_),(34,_),(33,_)]) ⟨rfl,rfl,rfl,trivial⟩ ?_
 refine H_world (kp [nn,yy] [_] rfl) ?_
 refine H_blk ?_
 refine H_region (l:=[_,_]) rfl ?_
 refine HO_bin (r:=.int .i64 (1)) rfl rfl rfl rfl (bin_lit (by decide) (fun _ => rfl)) ?_
 refine HO_move rfl rfl rfl ?_
 refine HO_nil ?_
 refine H_env (ρ':=[(34,_),(3,_),(33,_)]) ⟨rfl,rfl,rfl,trivial⟩ ?_
 refine H_rnd ?_
 refine H_seq ?_
 refine H_region (l:=[_]) rfl ?_
 refine HO_bin rfl rfl rfl rfl (bin_lit (by decide) (fun _ => rfl)) ?_
 refine HO_nil ?_
 refine H_seq ?_
 refine H_cond rfl (fun _ => ?_) (fun h => nomatch h)
 refine H_skip ?_
 refine H_seq ?_
 refine H_block ?_
 refine H_seq ?_
 refine H_region (l:=[_,_]) rfl ?_
 refine HO_indexV (j:=1) (cs:=[_,_,_,_]) rfl rfl rfl rfl Tryz.underlying147 Tryz.isAgg9 Tryz.sizeOf9 rfl (by decide) rfl ?_
 refine HO_assign rfl rfl rfl ?_
 refine HO_nil ?_
 refine H_env (ρ':=[(7,_),(34,_),(3,_),(33,_)]) ⟨rfl,rfl,rfl,rfl,trivial⟩ ?_
 refine H_region (l:=[_,_,_,_]) rfl ?_
 iterate 2 refine HO_move rfl rfl rfl ?_
 refine HO_call (first:=[]) (capt:=[]) (is:=[0]) (R:=[]) rfl rfl rfl rfl rfl Tryz.call88 rfl (Spec.lend (pre1:=[]) (pre2:=[]) (PutText_spec _ _ _ _ ?_ ?_) rfl (by intro y at' ha;obtain rfl:=List.mem_singleton.1 ha;first | exact Atom.Flat.own kByte_plain _ _ _ _ | exact Atom.Flat.own kInt_plain _ _ _ _ | exact Atom.Flat.own kStr_plain _ _ _ _ | exact Atom.Flat.loc _ _ _)) ?_
 ·omega
 ·(simp only [List.length_append,List.length_nil];omega)
 intro y39 hy39
 refine HO_assign rfl rfl rfl ?_
 refine HO_nil ?_
 refine H_env (ρ':=[(3,_),(34,_),(33,_)]) ⟨rfl,rfl,rfl,trivial⟩ ?_
 refine H_world (kp [nn,yy] [_] rfl) ?_
 refine H_blk ?_
 refine H_region (l:=[_,_]) rfl ?_
 refine HO_bin (r:=.int .i64 (2)) rfl rfl rfl rfl (bin_lit (by decide) (fun _ => rfl)) ?_
 refine HO_move rfl rfl rfl ?_
 refine HO_nil ?_
 refine H_env (ρ':=[(34,_),(3,_),(33,_)]) ⟨rfl,rfl,rfl,trivial⟩ ?_
 refine H_rnd ?_
 refine H_seq ?_
 refine H_region (l:=[_]) rfl ?_
 refine HO_bin rfl rfl rfl rfl (bin_lit (by decide) (fun _ => rfl)) ?_
 refine HO_nil ?_
 refine H_seq ?_
 refine H_cond rfl (fun _ => ?_) (fun h => nomatch h)
 refine H_skip ?_
 refine H_seq ?_
 refine H_block ?_
 refine H_seq ?_
 refine H_region (l:=[_,_]) rfl ?_
 refine HO_indexV (j:=2) (cs:=[_,_,_,_]) rfl rfl rfl rfl Tryz.underlying147 Tryz.isAgg9 Tryz.sizeOf9 rfl (by decide) rfl ?_
 refine HO_assign rfl rfl rfl ?_
 refine HO_nil ?_
 refine H_env (ρ':=[(7,_),(34,_),(3,_),(33,_)]) ⟨rfl,rfl,rfl,rfl,trivial⟩ ?_
 refine H_region (l:=[_,_,_,_]) rfl ?_
 iterate 2 refine HO_move rfl rfl rfl ?_
 refine HO_call (first:=[]) (capt:=[]) (is:=[0]) (R:=[]) rfl rfl rfl rfl rfl Tryz.call88 rfl (Spec.lend (pre1:=[]) (pre2:=[]) (PutText_spec _ _ _ _ ?_ ?_) rfl (by intro y at' ha;obtain rfl:=List.mem_singleton.1 ha;first | exact Atom.Flat.own kByte_plain _ _ _ _ | exact Atom.Flat.own kInt_plain _ _ _ _ | exact Atom.Flat.own kStr_plain _ _ _ _ | exact Atom.Flat.loc _ _ _)) ?_
 ·omega
 ·(simp only [List.length_append,List.length_nil];omega)
 intro y39 hy39
 refine HO_assign rfl rfl rfl ?_
 refine HO_nil ?_
 refine H_env (ρ':=[(3,_),(34,_),(33,_)]) ⟨rfl,rfl,rfl,trivial⟩ ?_
 refine H_world (kp [nn,yy] [_] rfl) ?_
 refine H_blk ?_
 refine H_region (l:=[_,_]) rfl ?_
 refine HO_bin (r:=.int .i64 (3)) rfl rfl rfl rfl (bin_lit (by decide) (fun _ => rfl)) ?_
 refine HO_move rfl rfl rfl ?_
 refine HO_nil ?_
 refine H_env (ρ':=[(34,_),(3,_),(33,_)]) ⟨rfl,rfl,rfl,trivial⟩ ?_
 refine H_rnd ?_
 refine H_seq ?_
 refine H_region (l:=[_]) rfl ?_
 refine HO_bin rfl rfl rfl rfl (bin_lit (by decide) (fun _ => rfl)) ?_
 refine HO_nil ?_
 refine H_seq ?_
 refine H_cond rfl (fun _ => ?_) (fun h => nomatch h)
 refine H_skip ?_
 refine H_seq ?_
 refine H_block ?_
 refine H_seq ?_
 refine H_region (l:=[_,_]) rfl ?_
 refine HO_indexV (j:=3) (cs:=[_,_,_,_]) rfl rfl rfl rfl Tryz.underlying147 Tryz.isAgg9 Tryz.sizeOf9 rfl (by decide) rfl ?_
 refine HO_assign rfl rfl rfl ?_
 refine HO_nil ?_
 refine H_env (ρ':=[(7,_),(34,_),(3,_),(33,_)]) ⟨rfl,rfl,rfl,rfl,trivial⟩ ?_
 refine H_region (l:=[_,_,_,_]) rfl ?_
 iterate 2 refine HO_move rfl rfl rfl ?_
 refine HO_call (first:=[]) (capt:=[]) (is:=[0]) (R:=[]) rfl rfl rfl rfl rfl Tryz.call88 rfl (Spec.lend (pre1:=[]) (pre2:=[]) (PutText_spec _ _ _ _ ?_ ?_) rfl (by intro y at' ha;obtain rfl:=List.mem_singleton.1 ha;first | exact Atom.Flat.own kByte_plain _ _ _ _ | exact Atom.Flat.own kInt_plain _ _ _ _ | exact Atom.Flat.own kStr_plain _ _ _ _ | exact Atom.Flat.loc _ _ _)) ?_
 ·omega
 ·(simp only [List.length_append,List.length_nil];omega)
 intro y39 hy39
 refine HO_assign rfl rfl rfl ?_
 refine HO_nil ?_
 refine H_env (ρ':=[(3,_),(34,_),(33,_)]) ⟨rfl,rfl,rfl,trivial⟩ ?_
 refine H_world (kp [nn,yy] [_] rfl) ?_
 refine H_blk ?_
 refine H_region (l:=[_,_]) rfl ?_
 refine HO_bin (r:=.int .i64 (4)) rfl rfl rfl rfl (bin_lit (by decide) (fun _ => rfl)) ?_
 refine HO_move rfl rfl rfl ?_
 refine HO_nil ?_
 refine H_env (ρ':=[(34,_),(3,_),(33,_)]) ⟨rfl,rfl,rfl,trivial⟩ ?_
 refine H_rnd ?_
 refine H_seq ?_
 refine H_region (l:=[_]) rfl ?_
 refine HO_bin rfl rfl rfl rfl (bin_lit (by decide) (fun _ => rfl)) ?_
 refine HO_nil ?_
 refine H_seq ?_
 refine H_cond rfl (fun h => nomatch h) (fun _ => ?_)
 refine H_exit rfl ?_
 refine H_seq ?_
 refine H_region (l:=[_,_]) rfl ?_
 refine HO_move rfl rfl rfl ?_
 refine HO_assign rfl rfl rfl ?_
 refine HO_nil ?_
 refine H_env (ρ':=[(2,_)]) ⟨rfl,trivial⟩ ?_
 refine H_ret1 Tryz.results89 (.tmp rfl) (fun w hA => ⟨y39,congrArg Ending.returned ?_,?_,?_⟩)
 ·rfl
 ·trivial
 ·exact hA.keep (m:=[yy]) (Y:=[_]) rfl
theorem rkey_spec (s : ByteArray)  : Spec Tryz.prog 114 #[.string (s)] [] (β:=Unit) (fun y => .bool (Cmd.keyok s)) (fun y => True) (fun y => []):=by
 refine Spec.enter (vs:=[_]) Tryz.func114 rfl Tryz.ntmps114 rfl (Nat.le_of_ble_eq_true rfl) (fun w0 ok0 => ?_)
 generalize hM0 : blks _ = M0
 have hMn:=@noM _ _ hM0 (by simp [Atom.dat,Atom.elem])
 refine H_seq ?_
 refine H_region (l:=[_]) rfl ?_
 refine HO_assign rfl rfl rfl ?_
 refine HO_nil ?_
 refine H_env (ρ':=[(0,_)]) ⟨rfl,trivial⟩ ?_
 refine H_seq ?_
 refine H_region (l:=[_,_,_,_,_,_,_,_,_]) rfl ?_
 refine HO_move rfl rfl rfl ?_
 refine HO_bi rfl rfl rfl (bi_len_str Tryz.underlying9) ?_
 refine HO_bin rfl rfl rfl rfl bin_geq ?_
 refine HO_move rfl rfl rfl ?_
 refine HO_split (d:=6) rfl ?_ ?_
 ·intro h6
  replace h6:=dT h6
  refine HO_move rfl rfl rfl ?_
  refine HO_bi rfl rfl rfl (bi_len_str Tryz.underlying9) ?_
  refine HO_bin rfl rfl rfl rfl bin_leq ?_
  refine HO_pick_t rfl rfl rfl rfl ?_
  refine HO_assign rfl rfl rfl ?_
  refine HO_nil ?_
  refine H_env (ρ':=[(2,_)]) ⟨rfl,trivial⟩ ?_
  refine H_ret1 Tryz.results114 (.tmp rfl) (fun w hA => ⟨(),congrArg Ending.returned ?_,?_,?_⟩)
  ·(exact congrArg Value.bool (by first | exact Cmd.rkey_t h6 | exact Cmd.rkey_f h6))
  ·trivial
  ·exact hA.keep (m:=[]) (Y:=[]) rfl
 intro h6
 replace h6:=dF h6
 iterate 3 refine HO_no rfl rfl rfl ?_
 refine HO_pick_f rfl rfl rfl rfl ?_
 refine HO_assign rfl rfl rfl ?_
 refine HO_nil ?_
 refine H_env (ρ':=[(2,_)]) ⟨rfl,trivial⟩ ?_
 refine H_ret1 Tryz.results114 (.tmp rfl) (fun w hA => ⟨(),congrArg Ending.returned ?_,?_,?_⟩)
 ·(exact congrArg Value.bool (by first | exact Cmd.rkey_t h6 | exact Cmd.rkey_f h6))
 ·trivial
 ·exact hA.keep (m:=[]) (Y:=[]) rfl
theorem rvalue_spec (s : ByteArray)  : Spec Tryz.prog 115 #[.string (s)] [] (β:=Unit) (fun y => .bool (Cmd.valok s)) (fun y => True) (fun y => []):=by
 refine Spec.enter (vs:=[_]) Tryz.func115 rfl Tryz.ntmps115 rfl (Nat.le_of_ble_eq_true rfl) (fun w0 ok0 => ?_)
 generalize hM0 : blks _ = M0
 have hMn:=@noM _ _ hM0 (by simp [Atom.dat,Atom.elem])
 refine H_seq ?_
 refine H_region (l:=[_]) rfl ?_
 refine HO_assign rfl rfl rfl ?_
 refine HO_nil ?_
 refine H_env (ρ':=[(0,_)]) ⟨rfl,trivial⟩ ?_
 refine H_seq ?_
 refine H_region (l:=[_,_,_,_]) rfl ?_
 refine HO_move rfl rfl rfl ?_
 refine HO_bi rfl rfl rfl (bi_len_str Tryz.underlying9) ?_
 refine HO_bin rfl rfl rfl rfl bin_leq ?_
 refine HO_assign rfl rfl rfl ?_
 refine HO_nil ?_
 refine H_env (ρ':=[(2,_)]) ⟨rfl,trivial⟩ ?_
 refine H_ret1 Tryz.results115 (.tmp rfl) (fun w hA => ⟨(),congrArg Ending.returned ?_,?_,?_⟩)
 ·(exact congrArg Value.bool (Cmd.val_eq s))
 ·trivial
 ·exact hA.keep (m:=[]) (Y:=[]) rfl
set_option maxHeartbeats 0 in
theorem rgood_spec (ki se sq : Int) (ke ol va ti : ByteArray) (li : Int)  : Spec Tryz.prog 82 #[.agg #[.int .i64 (ki),.int .i64 (se),.int .i64 (sq),.string (ke),.string (ol),.string (va),.string (ti),.int .i64 (li)]] [] (β:=Unit) (fun y => .bool (Cmd.good ⟨ki,se,sq,ke,ol,va,ti,li⟩)) (fun y => True) (fun y => []):=by
 refine Spec.enter (vs:=[_]) Tryz.func82 rfl Tryz.ntmps82 rfl (Nat.le_of_ble_eq_true rfl) (fun w0 ok0 => ?_)
 generalize hM0 : blks _ = M0
 have hMn:=@noM _ _ hM0 (by simp [Atom.dat,Atom.elem])
 refine H_seq ?_
 refine H_region (l:=[_,_]) rfl ?_
 refine HO_box (cs:=[_,_,_,_,_,_,_,_]) rfl rfl rfl rfl ?_
 intro g1
 refine HO_assign rfl rfl rfl ?_
 refine HO_nil ?_
 refine H_env (ρ':=[(1,_)]) ⟨rfl,trivial⟩ ?_
 refine H_seq ?_
 refine H_region (l:=[_,_,_,_,_,_,_]) rfl ?_
 refine HO_fieldAddr (r:=0) rfl rfl rfl Tryz.underlying68 rfl Tryz.sizeOf3 rfl ?_
 refine HO_load1 (i:=0) (j:=0) rfl rfl rfl Tryz.isAgg3 rfl (.loc _ _ _) rfl rfl ?_
 refine HO_fieldAddr (r:=1) rfl rfl rfl Tryz.underlying68 rfl Tryz.sizeOf3 rfl ?_
 refine HO_load1 (i:=0) (j:=1) rfl rfl rfl Tryz.isAgg3 rfl (.loc _ _ _) rfl rfl ?_
 refine HO_build (xo:=[(0,_),(1,_)]) (vs:=[_,_]) rfl rfl rfl rfl (bd68_0_1_ii) ?_
 refine HO_alloc (cs:=[_,_,_,_,_,_,_,_]) rfl rfl Tryz.zeroValue68 rfl ?_
 intro g3
 refine HO_store (i:=0) (j:=0) (us:=[]) (old:=[_,_,_,_,_,_,_,_]) (ts:=[]) (cs:=[_,_,_,_,_,_,_,_]) (R:=[_]) (new:=[_,_,_,_,_,_,_,_]) rfl rfl rfl Tryz.sizeOf68 rfl (by simp [Value.oneCell']) rfl rfl rfl rfl rfl rfl ?_
 refine HO_nil ?_
 refine H_env (ρ':=[(3,_),(1,_)]) ⟨rfl,rfl,trivial⟩ ?_
 refine H_seq ?_
 refine H_seq ?_
 refine H_region (l:=[_,_]) rfl ?_
 refine HO_fieldAddr (r:=0) rfl rfl rfl Tryz.underlying68 rfl Tryz.sizeOf3 rfl ?_
 refine HO_load1 (i:=1) (j:=0) rfl rfl rfl Tryz.isAgg3 rfl (.loc _ _ _) rfl rfl ?_
 refine HO_nil ?_
 refine H_env (ρ':=[(11,_),(3,_),(1,_)]) ⟨rfl,rfl,rfl,trivial⟩ ?_
 refine H_block ?_
 refine H_seq ?_
 refine H_region (l:=[_,_]) rfl ?_
 refine HO_bin rfl rfl rfl rfl bin_eql ?_
 refine HO_assign rfl rfl rfl ?_
 refine HO_nil ?_
 refine H_env (ρ':=[(12,_),(11,_),(3,_),(1,_)]) ⟨rfl,rfl,rfl,rfl,trivial⟩ ?_
 refine H_cond rfl ?_ ?_
 ·intro h12
  replace h12:=dT h12
  refine H_seq ?_
  refine H_region (l:=[_,_,_,_]) rfl ?_
  refine HO_loadA (i:=1) (us:=[]) (cs:=[_,_,_,_,_,_,_,_]) (ts:=[]) rfl rfl rfl Tryz.isAgg68 Tryz.sizeOf68 rfl (.loc _ _ _) rfl rfl rfl rfl ?_
  refine HO_build (xo:=[(0,_)]) (vs:=[_]) rfl rfl rfl rfl (bd68_0_i) ?_
  refine HO_bin rfl rfl rfl rfl eq68_eql ?_
  refine HO_assign rfl rfl rfl ?_
  refine HO_nil ?_
  refine H_env (ρ':=[(2,_)]) ⟨rfl,trivial⟩ ?_
  refine H_world (kp [nn,nn] [] rfl) ?_
  refine H_ret1 Tryz.results82 (.tmp rfl) (fun w hA => ⟨(),congrArg Ending.returned ?_,?_,?_⟩)
  ·(exact congrArg Value.bool (by first | (simp [Cmd.good,Cmd.part,Cmd.fit,Cmd.eqv,Cmd.base,Cmd.empty,Cmd.pos_iff,Cmd.scanok, *] <;> rfl) | (simp_all [Cmd.good,Cmd.part,Cmd.fit,Cmd.eqv,Cmd.base,Cmd.empty,Cmd.pos_iff,Cmd.scanok] <;> intros <;> first | rfl | omega | (rename_i b1 b2 b3 b4 b5 b6;exact h22 (of_decide_eq_true b3) (of_decide_eq_true b4) (of_decide_eq_true b5) (of_decide_eq_true b6)) | (simp_all;done) | (simp_all;omega))))
  ·trivial
  ·exact hA.keep (m:=[]) (Y:=[]) rfl
 intro h12
 replace h12:=dF h12
 refine H_seq ?_
 refine H_region (l:=[_,_]) rfl ?_
 refine HO_bin rfl rfl rfl rfl bin_eql ?_
 refine HO_assign rfl rfl rfl ?_
 refine HO_nil ?_
 refine H_env (ρ':=[(17,_),(3,_),(1,_)]) ⟨rfl,rfl,rfl,trivial⟩ ?_
 refine H_cond rfl ?_ ?_
 ·intro h17
  replace h17:=dT h17
  refine H_seq ?_
  refine H_region (l:=[_,_,_,_,_,_,_,_,_]) rfl ?_
  refine HO_loadA (i:=1) (us:=[]) (cs:=[_,_,_,_,_,_,_,_]) (ts:=[]) rfl rfl rfl Tryz.isAgg68 Tryz.sizeOf68 rfl (.loc _ _ _) rfl rfl rfl rfl ?_
  refine HO_loadA (i:=0) (us:=[]) (cs:=[_,_,_,_,_,_,_,_]) (ts:=[]) rfl rfl rfl Tryz.isAgg68 Tryz.sizeOf68 rfl (.loc _ _ _) rfl rfl rfl rfl ?_
  refine HO_bin rfl rfl rfl rfl eq68_eql ?_
  refine HO_move rfl rfl rfl ?_
  refine HO_split (d:=22) rfl ?_ ?_
  ·intro h22
   (try simp only [decide_eq_true_eq,decide_eq_false_iff_not,Bool.not_eq_true',Bool.not_eq_false',Bool.not_eq_true,Bool.not_eq_false,Bool.true_eq_false,Bool.false_eq_true,not_false_eq_true,not_true_eq_false] at h22)
   refine HO_fieldAddr (r:=1) rfl rfl rfl Tryz.underlying68 rfl Tryz.sizeOf3 rfl ?_
   refine HO_load1 (i:=1) (j:=1) rfl rfl rfl Tryz.isAgg3 rfl (.loc _ _ _) rfl rfl ?_
   refine HO_bin rfl rfl rfl rfl bin_geq ?_
   refine HO_pick_t rfl rfl rfl rfl ?_
   refine HO_assign rfl rfl rfl ?_
   refine HO_nil ?_
   refine H_env (ρ':=[(2,_)]) ⟨rfl,trivial⟩ ?_
   refine H_world (kp [nn,nn] [] rfl) ?_
   refine H_ret1 Tryz.results82 (.tmp rfl) (fun w hA => ⟨(),congrArg Ending.returned ?_,?_,?_⟩)
   ·(exact congrArg Value.bool (by first | (simp [Cmd.good,Cmd.part,Cmd.fit,Cmd.eqv,Cmd.base,Cmd.empty,Cmd.pos_iff,Cmd.scanok, *] <;> rfl) | (simp_all [Cmd.good,Cmd.part,Cmd.fit,Cmd.eqv,Cmd.base,Cmd.empty,Cmd.pos_iff,Cmd.scanok] <;> intros <;> first | rfl | omega | (rename_i b1 b2 b3 b4 b5 b6;exact h22 (of_decide_eq_true b3) (of_decide_eq_true b4) (of_decide_eq_true b5) (of_decide_eq_true b6)) | (simp_all;done) | (simp_all;omega))))
   ·trivial
   ·exact hA.keep (m:=[]) (Y:=[]) rfl
  intro h22
  (try simp only [decide_eq_true_eq,decide_eq_false_iff_not,Bool.not_eq_true',Bool.not_eq_false',Bool.not_eq_true,Bool.not_eq_false,Bool.true_eq_false,Bool.false_eq_true,not_false_eq_true,not_true_eq_false] at h22)
  iterate 3 refine HO_no rfl rfl rfl ?_
  refine HO_pick_f rfl rfl rfl rfl ?_
  refine HO_assign rfl rfl rfl ?_
  refine HO_nil ?_
  refine H_env (ρ':=[(2,_)]) ⟨rfl,trivial⟩ ?_
  refine H_world (kp [nn,nn] [] rfl) ?_
  refine H_ret1 Tryz.results82 (.tmp rfl) (fun w hA => ⟨(),congrArg Ending.returned ?_,?_,?_⟩)
  ·(exact congrArg Value.bool (good2_f h17 h22))
  ·trivial
  ·exact hA.keep (m:=[]) (Y:=[]) rfl
 intro h17
 replace h17:=dF h17
 refine H_skip ?_
 refine H_blk ?_
 refine H_seq ?_
 refine H_region (l:=[_,_,_,_]) rfl ?_
 refine HO_fieldAddr (r:=2) rfl rfl rfl Tryz.underlying68 rfl Tryz.sizeOf3 rfl ?_
 refine HO_load1 (i:=1) (j:=2) rfl rfl rfl Tryz.isAgg3 rfl (.loc _ _ _) rfl rfl ?_
 refine HO_fieldAddr (r:=2) rfl rfl rfl Tryz.underlying68 rfl Tryz.sizeOf3 rfl ?_
 refine HO_store (i:=0) (j:=0) (us:=[_,_]) (old:=[_]) (ts:=[_,_,_,_,_]) (cs:=[_]) (R:=[_]) (new:=[_,_,_,_,_,_,_,_]) rfl rfl rfl Tryz.sizeOf3 rfl (by simp [Value.oneCell']) rfl rfl rfl rfl rfl rfl ?_
 refine HO_nil ?_
 refine H_env (ρ':=[(3,_),(1,_)]) ⟨rfl,rfl,trivial⟩ ?_
 refine H_seq ?_
 refine H_region (l:=[_,_,_,_]) rfl ?_
 refine HO_fieldAddr (r:=3) rfl rfl rfl Tryz.underlying68 rfl Tryz.sizeOf9 rfl ?_
 refine HO_load1 (i:=1) (j:=3) rfl rfl rfl Tryz.isAgg9 rfl (.loc _ _ _) rfl rfl ?_
 refine HO_fieldAddr (r:=3) rfl rfl rfl Tryz.underlying68 rfl Tryz.sizeOf9 rfl ?_
 refine HO_store (i:=0) (j:=0) (us:=[_,_,_]) (old:=[_]) (ts:=[_,_,_,_]) (cs:=[_]) (R:=[_]) (new:=[_,_,_,_,_,_,_,_]) rfl rfl rfl Tryz.sizeOf9 rfl (by simp [Value.oneCell']) rfl rfl rfl rfl rfl rfl ?_
 refine HO_nil ?_
 refine H_env (ρ':=[(3,_),(1,_)]) ⟨rfl,rfl,trivial⟩ ?_
 refine H_seq ?_
 refine H_region (l:=[_,_,_,_]) rfl ?_
 refine HO_fieldAddr (r:=3) rfl rfl rfl Tryz.underlying68 rfl Tryz.sizeOf9 rfl ?_
 refine HO_load1 (i:=1) (j:=3) rfl rfl rfl Tryz.isAgg9 rfl (.loc _ _ _) rfl rfl ?_
 refine HO_call (first:=[]) (capt:=[]) (is:=[]) (R:=[_,_]) rfl rfl rfl rfl rfl Tryz.call114 rfl (rkey_spec _) ?_
 intro y35 hy35
 clear y35 hy35
 refine HO_assign rfl rfl rfl ?_
 refine HO_nil ?_
 refine H_env (ρ':=[(4,_),(3,_),(1,_)]) ⟨rfl,rfl,rfl,trivial⟩ ?_
 refine H_seq ?_
 refine H_seq ?_
 refine H_region (l:=[_,_]) rfl ?_
 refine HO_fieldAddr (r:=0) rfl rfl rfl Tryz.underlying68 rfl Tryz.sizeOf3 rfl ?_
 refine HO_load1 (i:=1) (j:=0) rfl rfl rfl Tryz.isAgg3 rfl (.loc _ _ _) rfl rfl ?_
 refine HO_nil ?_
 refine H_env (ρ':=[(37,_),(4,_),(3,_),(1,_)]) ⟨rfl,rfl,rfl,rfl,trivial⟩ ?_
 refine H_block ?_
 refine H_seq ?_
 refine H_region (l:=[_,_]) rfl ?_
 refine HO_bin rfl rfl rfl rfl bin_eql ?_
 refine HO_assign rfl rfl rfl ?_
 refine HO_nil ?_
 refine H_env (ρ':=[(38,_),(37,_),(4,_),(3,_),(1,_)]) ⟨rfl,rfl,rfl,rfl,rfl,trivial⟩ ?_
 refine H_cond rfl ?_ ?_
 ·intro h38
  replace h38:=dT h38
  refine H_seq ?_
  refine H_region (l:=[_,_,_,_]) rfl ?_
  refine HO_fieldAddr (r:=5) rfl rfl rfl Tryz.underlying68 rfl Tryz.sizeOf9 rfl ?_
  refine HO_load1 (i:=1) (j:=5) rfl rfl rfl Tryz.isAgg9 rfl (.loc _ _ _) rfl rfl ?_
  refine HO_fieldAddr (r:=5) rfl rfl rfl Tryz.underlying68 rfl Tryz.sizeOf9 rfl ?_
  refine HO_store (i:=0) (j:=0) (us:=[_,_,_,_,_]) (old:=[_]) (ts:=[_,_]) (cs:=[_]) (R:=[_]) (new:=[_,_,_,_,_,_,_,_]) rfl rfl rfl Tryz.sizeOf9 rfl (by simp [Value.oneCell']) rfl rfl rfl rfl rfl rfl ?_
  refine HO_nil ?_
  refine H_env (ρ':=[(4,_),(3,_),(1,_)]) ⟨rfl,rfl,rfl,trivial⟩ ?_
  refine H_region (l:=[_,_,_,_,_,_,_]) rfl ?_
  iterate 2 refine HO_move rfl rfl rfl ?_
  refine HO_split (d:=44) rfl ?_ ?_
  ·intro h44
   refine HO_fieldAddr (r:=5) rfl rfl rfl Tryz.underlying68 rfl Tryz.sizeOf9 rfl ?_
   refine HO_load1 (i:=1) (j:=5) rfl rfl rfl Tryz.isAgg9 rfl (.loc _ _ _) rfl rfl ?_
   refine HO_call (first:=[]) (capt:=[]) (is:=[]) (R:=[_,_]) rfl rfl rfl rfl rfl Tryz.call115 rfl (rvalue_spec _) ?_
   intro y47 hy47
   clear y47 hy47
   refine HO_pick_t rfl rfl rfl rfl ?_
   refine HO_assign rfl rfl rfl ?_
   refine HO_nil ?_
   refine H_env (ρ':=[(4,_),(3,_),(1,_)]) ⟨rfl,rfl,rfl,trivial⟩ ?_
   refine H_blk ?_
   refine H_seq ?_
   refine H_region (l:=[_,_,_,_,_,_,_,_,_,_,_,_,_,_,_,_,_]) rfl ?_
   iterate 2 refine HO_move rfl rfl rfl ?_
   refine HO_split (d:=100) rfl ?_ ?_
   ·intro h100
    refine HO_loadA (i:=1) (us:=[]) (cs:=[_,_,_,_,_,_,_,_]) (ts:=[]) rfl rfl rfl Tryz.isAgg68 Tryz.sizeOf68 rfl (.loc _ _ _) rfl rfl rfl rfl ?_
    refine HO_loadA (i:=0) (us:=[]) (cs:=[_,_,_,_,_,_,_,_]) (ts:=[]) rfl rfl rfl Tryz.isAgg68 Tryz.sizeOf68 rfl (.loc _ _ _) rfl rfl rfl rfl ?_
    refine HO_bin rfl rfl rfl rfl eq68_eql ?_
    refine HO_pick_t rfl rfl rfl rfl ?_
    refine HO_move rfl rfl rfl ?_
    refine HO_split (d:=105) rfl ?_ ?_
    ·intro h105
     (try simp only [decide_eq_true_eq,decide_eq_false_iff_not,Bool.not_eq_true',Bool.not_eq_false',Bool.not_eq_true,Bool.not_eq_false,Bool.true_eq_false,Bool.false_eq_true,not_false_eq_true,not_true_eq_false] at h105)
     refine HO_fieldAddr (r:=1) rfl rfl rfl Tryz.underlying68 rfl Tryz.sizeOf3 rfl ?_
     refine HO_load1 (i:=1) (j:=1) rfl rfl rfl Tryz.isAgg3 rfl (.loc _ _ _) rfl rfl ?_
     refine HO_bin rfl rfl rfl rfl bin_geq ?_
     refine HO_pick_t rfl rfl rfl rfl ?_
     refine HO_move rfl rfl rfl ?_
     refine HO_split (d:=110) rfl ?_ ?_
     ·intro h110
      replace h110:=dT h110
      refine HO_fieldAddr (r:=2) rfl rfl rfl Tryz.underlying68 rfl Tryz.sizeOf3 rfl ?_
      refine HO_load1 (i:=1) (j:=2) rfl rfl rfl Tryz.isAgg3 rfl (.loc _ _ _) rfl rfl ?_
      refine HO_bin rfl rfl rfl rfl bin_geq ?_
      refine HO_pick_t rfl rfl rfl rfl ?_
      refine HO_assign rfl rfl rfl ?_
      refine HO_nil ?_
      refine H_env (ρ':=[(2,_)]) ⟨rfl,trivial⟩ ?_
      refine H_world (kp [nn,nn] [] rfl) ?_
      refine H_ret1 Tryz.results82 (.tmp rfl) (fun w hA => ⟨(),congrArg Ending.returned ?_,?_,?_⟩)
      ·(exact congrArg Value.bool (by first | (simp [Cmd.good,Cmd.part,Cmd.fit,Cmd.eqv,Cmd.base,Cmd.empty,Cmd.pos_iff,Cmd.scanok, *] <;> rfl) | (simp_all [Cmd.good,Cmd.part,Cmd.fit,Cmd.eqv,Cmd.base,Cmd.empty,Cmd.pos_iff,Cmd.scanok] <;> intros <;> first | rfl | omega | (rename_i b1 b2 b3 b4 b5 b6;exact h22 (of_decide_eq_true b3) (of_decide_eq_true b4) (of_decide_eq_true b5) (of_decide_eq_true b6)) | (simp_all;done) | (simp_all;omega))))
      ·trivial
      ·exact hA.keep (m:=[]) (Y:=[]) rfl
     intro h110
     replace h110:=dF h110
     iterate 3 refine HO_no rfl rfl rfl ?_
     refine HO_pick_f rfl rfl rfl rfl ?_
     refine HO_assign rfl rfl rfl ?_
     refine HO_nil ?_
     refine H_env (ρ':=[(2,_)]) ⟨rfl,trivial⟩ ?_
     refine H_world (kp [nn,nn] [] rfl) ?_
     refine H_ret1 Tryz.results82 (.tmp rfl) (fun w hA => ⟨(),congrArg Ending.returned ?_,?_,?_⟩)
     ·(exact congrArg Value.bool (by first | (simp [Cmd.good,Cmd.part,Cmd.fit,Cmd.eqv,Cmd.base,Cmd.empty,Cmd.pos_iff,Cmd.scanok, *] <;> rfl) | (simp_all [Cmd.good,Cmd.part,Cmd.fit,Cmd.eqv,Cmd.base,Cmd.empty,Cmd.pos_iff,Cmd.scanok] <;> intros <;> first | rfl | omega | (rename_i b1 b2 b3 b4 b5 b6;exact h22 (of_decide_eq_true b3) (of_decide_eq_true b4) (of_decide_eq_true b5) (of_decide_eq_true b6)) | (simp_all;done) | (simp_all;omega))))
     ·trivial
     ·exact hA.keep (m:=[]) (Y:=[]) rfl
    intro h105
    (try simp only [decide_eq_true_eq,decide_eq_false_iff_not,Bool.not_eq_true',Bool.not_eq_false',Bool.not_eq_true,Bool.not_eq_false,Bool.true_eq_false,Bool.false_eq_true,not_false_eq_true,not_true_eq_false] at h105)
    iterate 3 refine HO_no rfl rfl rfl ?_
    refine HO_pick_f rfl rfl rfl rfl ?_
    refine HO_move rfl rfl rfl ?_
    iterate 3 refine HO_no rfl rfl rfl ?_
    refine HO_pick_f rfl rfl rfl rfl ?_
    refine HO_assign rfl rfl rfl ?_
    refine HO_nil ?_
    refine H_env (ρ':=[(2,_)]) ⟨rfl,trivial⟩ ?_
    refine H_world (kp [nn,nn] [] rfl) ?_
    refine H_ret1 Tryz.results82 (.tmp rfl) (fun w hA => ⟨(),congrArg Ending.returned ?_,?_,?_⟩)
    ·(exact congrArg Value.bool (by first | (simp [Cmd.good,Cmd.part,Cmd.fit,Cmd.eqv,Cmd.base,Cmd.empty,Cmd.pos_iff,Cmd.scanok, *] <;> rfl) | (simp_all [Cmd.good,Cmd.part,Cmd.fit,Cmd.eqv,Cmd.base,Cmd.empty,Cmd.pos_iff,Cmd.scanok] <;> intros <;> first | rfl | omega | (rename_i b1 b2 b3 b4 b5 b6;exact h22 (of_decide_eq_true b3) (of_decide_eq_true b4) (of_decide_eq_true b5) (of_decide_eq_true b6)) | (simp_all;done) | (simp_all;omega))))
    ·trivial
    ·exact hA.keep (m:=[]) (Y:=[]) rfl
   intro h100
   iterate 3 refine HO_no rfl rfl rfl ?_
   refine HO_pick_f rfl rfl rfl rfl ?_
   refine HO_move rfl rfl rfl ?_
   iterate 3 refine HO_no rfl rfl rfl ?_
   refine HO_pick_f rfl rfl rfl rfl ?_
   refine HO_move rfl rfl rfl ?_
   iterate 3 refine HO_no rfl rfl rfl ?_
   refine HO_pick_f rfl rfl rfl rfl ?_
   refine HO_assign rfl rfl rfl ?_
   refine HO_nil ?_
   refine H_env (ρ':=[(2,_)]) ⟨rfl,trivial⟩ ?_
   refine H_world (kp [nn,nn] [] rfl) ?_
   refine H_ret1 Tryz.results82 (.tmp rfl) (fun w hA => ⟨(),congrArg Ending.returned ?_,?_,?_⟩)
   ·(exact congrArg Value.bool (by first | (simp [Cmd.good,Cmd.part,Cmd.fit,Cmd.eqv,Cmd.base,Cmd.empty,Cmd.pos_iff,Cmd.scanok, *] <;> rfl) | (simp_all [Cmd.good,Cmd.part,Cmd.fit,Cmd.eqv,Cmd.base,Cmd.empty,Cmd.pos_iff,Cmd.scanok] <;> intros <;> first | rfl | omega | (rename_i b1 b2 b3 b4 b5 b6;exact h22 (of_decide_eq_true b3) (of_decide_eq_true b4) (of_decide_eq_true b5) (of_decide_eq_true b6)) | (simp_all;done) | (simp_all;omega))))
   ·trivial
   ·exact hA.keep (m:=[]) (Y:=[]) rfl
  intro h44
  iterate 3 refine HO_no rfl rfl rfl ?_
  refine HO_pick_f rfl rfl rfl rfl ?_
  refine HO_assign rfl rfl rfl ?_
  refine HO_nil ?_
  refine H_env (ρ':=[(4,_),(3,_),(1,_)]) ⟨rfl,rfl,rfl,trivial⟩ ?_
  refine H_blk ?_
  refine H_seq ?_
  refine H_region (l:=[_,_,_,_,_,_,_,_,_,_,_,_,_,_,_,_,_]) rfl ?_
  iterate 2 refine HO_move rfl rfl rfl ?_
  iterate 3 refine HO_no rfl rfl rfl ?_
  refine HO_pick_f rfl rfl rfl rfl ?_
  refine HO_move rfl rfl rfl ?_
  iterate 3 refine HO_no rfl rfl rfl ?_
  refine HO_pick_f rfl rfl rfl rfl ?_
  refine HO_move rfl rfl rfl ?_
  iterate 3 refine HO_no rfl rfl rfl ?_
  refine HO_pick_f rfl rfl rfl rfl ?_
  refine HO_assign rfl rfl rfl ?_
  refine HO_nil ?_
  refine H_env (ρ':=[(2,_)]) ⟨rfl,trivial⟩ ?_
  refine H_world (kp [nn,nn] [] rfl) ?_
  refine H_ret1 Tryz.results82 (.tmp rfl) (fun w hA => ⟨(),congrArg Ending.returned ?_,?_,?_⟩)
  ·(exact congrArg Value.bool (by first | (simp [Cmd.good,Cmd.part,Cmd.fit,Cmd.eqv,Cmd.base,Cmd.empty,Cmd.pos_iff,Cmd.scanok, *] <;> rfl) | (simp_all [Cmd.good,Cmd.part,Cmd.fit,Cmd.eqv,Cmd.base,Cmd.empty,Cmd.pos_iff,Cmd.scanok] <;> intros <;> first | rfl | omega | (rename_i b1 b2 b3 b4 b5 b6;exact h22 (of_decide_eq_true b3) (of_decide_eq_true b4) (of_decide_eq_true b5) (of_decide_eq_true b6)) | (simp_all;done) | (simp_all;omega))))
  ·trivial
  ·exact hA.keep (m:=[]) (Y:=[]) rfl
 intro h38
 replace h38:=dF h38
 refine H_seq ?_
 refine H_seq ?_
 refine H_region (l:=[_,_]) rfl ?_
 refine HO_bin rfl rfl rfl rfl bin_eql ?_
 refine HO_assign rfl rfl rfl ?_
 refine HO_nil ?_
 refine H_env (ρ':=[(49,_),(37,_),(4,_),(3,_),(1,_)]) ⟨rfl,rfl,rfl,rfl,rfl,trivial⟩ ?_
 refine H_cond rfl ?_ ?_
 ·intro h49
  replace h49:=dT h49
  refine H_skip ?_
  refine H_cond rfl ?_ ?_
  ·intro h49
   replace h49:=dT h49
   refine H_skip ?_
   refine H_blk ?_
   refine H_seq ?_
   refine H_region (l:=[_,_,_,_,_,_,_,_,_,_,_,_,_,_,_,_,_]) rfl ?_
   iterate 2 refine HO_move rfl rfl rfl ?_
   refine HO_split (d:=100) rfl ?_ ?_
   ·intro h100
    refine HO_loadA (i:=1) (us:=[]) (cs:=[_,_,_,_,_,_,_,_]) (ts:=[]) rfl rfl rfl Tryz.isAgg68 Tryz.sizeOf68 rfl (.loc _ _ _) rfl rfl rfl rfl ?_
    refine HO_loadA (i:=0) (us:=[]) (cs:=[_,_,_,_,_,_,_,_]) (ts:=[]) rfl rfl rfl Tryz.isAgg68 Tryz.sizeOf68 rfl (.loc _ _ _) rfl rfl rfl rfl ?_
    refine HO_bin rfl rfl rfl rfl eq68_eql ?_
    refine HO_pick_t rfl rfl rfl rfl ?_
    refine HO_move rfl rfl rfl ?_
    refine HO_split (d:=105) rfl ?_ ?_
    ·intro h105
     (try simp only [decide_eq_true_eq,decide_eq_false_iff_not,Bool.not_eq_true',Bool.not_eq_false',Bool.not_eq_true,Bool.not_eq_false,Bool.true_eq_false,Bool.false_eq_true,not_false_eq_true,not_true_eq_false] at h105)
     refine HO_fieldAddr (r:=1) rfl rfl rfl Tryz.underlying68 rfl Tryz.sizeOf3 rfl ?_
     refine HO_load1 (i:=1) (j:=1) rfl rfl rfl Tryz.isAgg3 rfl (.loc _ _ _) rfl rfl ?_
     refine HO_bin rfl rfl rfl rfl bin_geq ?_
     refine HO_pick_t rfl rfl rfl rfl ?_
     refine HO_move rfl rfl rfl ?_
     refine HO_split (d:=110) rfl ?_ ?_
     ·intro h110
      replace h110:=dT h110
      refine HO_fieldAddr (r:=2) rfl rfl rfl Tryz.underlying68 rfl Tryz.sizeOf3 rfl ?_
      refine HO_load1 (i:=1) (j:=2) rfl rfl rfl Tryz.isAgg3 rfl (.loc _ _ _) rfl rfl ?_
      refine HO_bin rfl rfl rfl rfl bin_geq ?_
      refine HO_pick_t rfl rfl rfl rfl ?_
      refine HO_assign rfl rfl rfl ?_
      refine HO_nil ?_
      refine H_env (ρ':=[(2,_)]) ⟨rfl,trivial⟩ ?_
      refine H_world (kp [nn,nn] [] rfl) ?_
      refine H_ret1 Tryz.results82 (.tmp rfl) (fun w hA => ⟨(),congrArg Ending.returned ?_,?_,?_⟩)
      ·(exact congrArg Value.bool (by first | (simp [Cmd.good,Cmd.part,Cmd.fit,Cmd.eqv,Cmd.base,Cmd.empty,Cmd.pos_iff,Cmd.scanok, *] <;> rfl) | (simp_all [Cmd.good,Cmd.part,Cmd.fit,Cmd.eqv,Cmd.base,Cmd.empty,Cmd.pos_iff,Cmd.scanok] <;> intros <;> first | rfl | omega | (rename_i b1 b2 b3 b4 b5 b6;exact h22 (of_decide_eq_true b3) (of_decide_eq_true b4) (of_decide_eq_true b5) (of_decide_eq_true b6)) | (simp_all;done) | (simp_all;omega))))
      ·trivial
      ·exact hA.keep (m:=[]) (Y:=[]) rfl
     intro h110
     replace h110:=dF h110
     iterate 3 refine HO_no rfl rfl rfl ?_
     refine HO_pick_f rfl rfl rfl rfl ?_
     refine HO_assign rfl rfl rfl ?_
     refine HO_nil ?_
     refine H_env (ρ':=[(2,_)]) ⟨rfl,trivial⟩ ?_
     refine H_world (kp [nn,nn] [] rfl) ?_
     refine H_ret1 Tryz.results82 (.tmp rfl) (fun w hA => ⟨(),congrArg Ending.returned ?_,?_,?_⟩)
     ·(exact congrArg Value.bool (by first | (simp [Cmd.good,Cmd.part,Cmd.fit,Cmd.eqv,Cmd.base,Cmd.empty,Cmd.pos_iff,Cmd.scanok, *] <;> rfl) | (simp_all [Cmd.good,Cmd.part,Cmd.fit,Cmd.eqv,Cmd.base,Cmd.empty,Cmd.pos_iff,Cmd.scanok] <;> intros <;> first | rfl | omega | (rename_i b1 b2 b3 b4 b5 b6;exact h22 (of_decide_eq_true b3) (of_decide_eq_true b4) (of_decide_eq_true b5) (of_decide_eq_true b6)) | (simp_all;done) | (simp_all;omega))))
     ·trivial
     ·exact hA.keep (m:=[]) (Y:=[]) rfl
    intro h105
    (try simp only [decide_eq_true_eq,decide_eq_false_iff_not,Bool.not_eq_true',Bool.not_eq_false',Bool.not_eq_true,Bool.not_eq_false,Bool.true_eq_false,Bool.false_eq_true,not_false_eq_true,not_true_eq_false] at h105)
    iterate 3 refine HO_no rfl rfl rfl ?_
    refine HO_pick_f rfl rfl rfl rfl ?_
    refine HO_move rfl rfl rfl ?_
    iterate 3 refine HO_no rfl rfl rfl ?_
    refine HO_pick_f rfl rfl rfl rfl ?_
    refine HO_assign rfl rfl rfl ?_
    refine HO_nil ?_
    refine H_env (ρ':=[(2,_)]) ⟨rfl,trivial⟩ ?_
    refine H_world (kp [nn,nn] [] rfl) ?_
    refine H_ret1 Tryz.results82 (.tmp rfl) (fun w hA => ⟨(),congrArg Ending.returned ?_,?_,?_⟩)
    ·(exact congrArg Value.bool (by first | (simp [Cmd.good,Cmd.part,Cmd.fit,Cmd.eqv,Cmd.base,Cmd.empty,Cmd.pos_iff,Cmd.scanok, *] <;> rfl) | (simp_all [Cmd.good,Cmd.part,Cmd.fit,Cmd.eqv,Cmd.base,Cmd.empty,Cmd.pos_iff,Cmd.scanok] <;> intros <;> first | rfl | omega | (rename_i b1 b2 b3 b4 b5 b6;exact h22 (of_decide_eq_true b3) (of_decide_eq_true b4) (of_decide_eq_true b5) (of_decide_eq_true b6)) | (simp_all;done) | (simp_all;omega))))
    ·trivial
    ·exact hA.keep (m:=[]) (Y:=[]) rfl
   intro h100
   iterate 3 refine HO_no rfl rfl rfl ?_
   refine HO_pick_f rfl rfl rfl rfl ?_
   refine HO_move rfl rfl rfl ?_
   iterate 3 refine HO_no rfl rfl rfl ?_
   refine HO_pick_f rfl rfl rfl rfl ?_
   refine HO_move rfl rfl rfl ?_
   iterate 3 refine HO_no rfl rfl rfl ?_
   refine HO_pick_f rfl rfl rfl rfl ?_
   refine HO_assign rfl rfl rfl ?_
   refine HO_nil ?_
   refine H_env (ρ':=[(2,_)]) ⟨rfl,trivial⟩ ?_
   refine H_world (kp [nn,nn] [] rfl) ?_
   refine H_ret1 Tryz.results82 (.tmp rfl) (fun w hA => ⟨(),congrArg Ending.returned ?_,?_,?_⟩)
   ·(exact congrArg Value.bool (by first | (simp [Cmd.good,Cmd.part,Cmd.fit,Cmd.eqv,Cmd.base,Cmd.empty,Cmd.pos_iff,Cmd.scanok, *] <;> rfl) | (simp_all [Cmd.good,Cmd.part,Cmd.fit,Cmd.eqv,Cmd.base,Cmd.empty,Cmd.pos_iff,Cmd.scanok] <;> intros <;> first | rfl | omega | (rename_i b1 b2 b3 b4 b5 b6;exact h22 (of_decide_eq_true b3) (of_decide_eq_true b4) (of_decide_eq_true b5) (of_decide_eq_true b6)) | (simp_all;done) | (simp_all;omega))))
   ·trivial
   ·exact hA.keep (m:=[]) (Y:=[]) rfl
  intro h49
  replace h49:=dF h49
  refine H_seq ?_
  refine H_region (l:=[_,_]) rfl ?_
  refine HO_bin rfl rfl rfl rfl bin_eql ?_
  refine HO_assign rfl rfl rfl ?_
  refine HO_nil ?_
  refine H_env (ρ':=[(52,_),(37,_),(4,_),(3,_),(1,_)]) ⟨rfl,rfl,rfl,rfl,rfl,trivial⟩ ?_
  refine H_cond rfl ?_ ?_
  ·intro h52
   replace h52:=dT h52
   refine H_seq ?_
   refine H_drawB (m:=[nn,yy]) (Xs:=[_]) (fuel:=8) (l:=#[false,false,false,false,false,false,false,false]) mixed rfl rfl rfl ?_
   refine HA_take (i:=0) bp rfl rfl rfl rfl (by kernel_rfl) rfl (V_fieldAddr (r:=4) rfl Tryz.underlying68 rfl Tryz.sizeOf9 rfl) (kp [nn,yy] [_] rfl) ?_
   refine HA_take (i:=1) bp rfl rfl rfl rfl (by kernel_rfl) rfl (V_load1 (i:=0) (j:=4) rfl Tryz.isAgg9 rfl (.loc _ _ _) rfl rfl) (kp [nn,yy] [_] rfl) ?_
   refine HA_take (i:=2) bp rfl rfl rfl rfl (by kernel_rfl) rfl (V_fieldAddr (r:=5) rfl Tryz.underlying68 rfl Tryz.sizeOf9 rfl) (kp [nn,yy] [_] rfl) ?_
   refine HA_take (i:=3) bp rfl rfl rfl rfl (by kernel_rfl) rfl (V_load1 (i:=0) (j:=5) rfl Tryz.isAgg9 rfl (.loc _ _ _) rfl rfl) (kp [nn,yy] [_] rfl) ?_
   refine HA_take (i:=4) bp rfl rfl rfl rfl (by kernel_rfl) rfl (V_fieldAddr (r:=4) rfl Tryz.underlying68 rfl Tryz.sizeOf9 rfl) (kp [nn,yy] [_] rfl) ?_
   refine HA_loud1 (i:=5) (by kernel_rfl) rfl ?_
   refine HO_store (i:=0) (j:=0) (us:=[_,_,_,_]) (old:=[_]) (ts:=[_,_,_]) (cs:=[_]) (R:=[_]) (new:=[_,_,_,_,_,_,_,_]) rfl rfl rfl Tryz.sizeOf9 rfl (by simp [Value.oneCell']) rfl rfl rfl rfl rfl rfl ?_
   refine HA_back rfl (kp [nn,yy] [_] rfl) ?_
   refine HA_take (i:=6) bp rfl rfl rfl rfl (by kernel_rfl) rfl (V_fieldAddr (r:=5) rfl Tryz.underlying68 rfl Tryz.sizeOf9 rfl) (kp [nn,yy] [_] rfl) ?_
   refine HA_loud1 (i:=7) (by kernel_rfl) rfl ?_
   refine HO_store (i:=0) (j:=0) (us:=[_,_,_,_,_]) (old:=[_]) (ts:=[_,_]) (cs:=[_]) (R:=[_]) (new:=[_,_,_,_,_,_,_,_]) rfl rfl rfl Tryz.sizeOf9 rfl (by simp [Value.oneCell']) rfl rfl rfl rfl rfl rfl ?_
   refine HA_back rfl (kp [nn,yy] [_] rfl) ?_
   refine HA_done (by kernel_rfl) ?_
   refine H_env (ρ':=[(4,_),(3,_),(1,_)]) ⟨rfl,rfl,rfl,trivial⟩ ?_
   refine H_region (l:=[_,_,_,_,_,_,_,_,_,_,_,_]) rfl ?_
   iterate 2 refine HO_move rfl rfl rfl ?_
   refine HO_split (d:=61) rfl ?_ ?_
   ·intro h61
    refine HO_fieldAddr (r:=4) rfl rfl rfl Tryz.underlying68 rfl Tryz.sizeOf9 rfl ?_
    refine HO_load1 (i:=1) (j:=4) rfl rfl rfl Tryz.isAgg9 rfl (.loc _ _ _) rfl rfl ?_
    refine HO_call (first:=[]) (capt:=[]) (is:=[]) (R:=[_,_]) rfl rfl rfl rfl rfl Tryz.call115 rfl (rvalue_spec _) ?_
    intro y64 hy64
    clear y64 hy64
    refine HO_pick_t rfl rfl rfl rfl ?_
    refine HO_move rfl rfl rfl ?_
    refine HO_split (d:=66) rfl ?_ ?_
    ·intro h66
     refine HO_fieldAddr (r:=5) rfl rfl rfl Tryz.underlying68 rfl Tryz.sizeOf9 rfl ?_
     refine HO_load1 (i:=1) (j:=5) rfl rfl rfl Tryz.isAgg9 rfl (.loc _ _ _) rfl rfl ?_
     refine HO_call (first:=[]) (capt:=[]) (is:=[]) (R:=[_,_]) rfl rfl rfl rfl rfl Tryz.call115 rfl (rvalue_spec _) ?_
     intro y69 hy69
     clear y69 hy69
     refine HO_pick_t rfl rfl rfl rfl ?_
     refine HO_assign rfl rfl rfl ?_
     refine HO_nil ?_
     refine H_env (ρ':=[(4,_),(3,_),(1,_)]) ⟨rfl,rfl,rfl,trivial⟩ ?_
     refine H_blk ?_
     refine H_seq ?_
     refine H_region (l:=[_,_,_,_,_,_,_,_,_,_,_,_,_,_,_,_,_]) rfl ?_
     iterate 2 refine HO_move rfl rfl rfl ?_
     refine HO_split (d:=100) rfl ?_ ?_
     ·intro h100
      refine HO_loadA (i:=1) (us:=[]) (cs:=[_,_,_,_,_,_,_,_]) (ts:=[]) rfl rfl rfl Tryz.isAgg68 Tryz.sizeOf68 rfl (.loc _ _ _) rfl rfl rfl rfl ?_
      refine HO_loadA (i:=0) (us:=[]) (cs:=[_,_,_,_,_,_,_,_]) (ts:=[]) rfl rfl rfl Tryz.isAgg68 Tryz.sizeOf68 rfl (.loc _ _ _) rfl rfl rfl rfl ?_
      refine HO_bin rfl rfl rfl rfl eq68_eql ?_
      refine HO_pick_t rfl rfl rfl rfl ?_
      refine HO_move rfl rfl rfl ?_
      refine HO_split (d:=105) rfl ?_ ?_
      ·intro h105
       (try simp only [decide_eq_true_eq,decide_eq_false_iff_not,Bool.not_eq_true',Bool.not_eq_false',Bool.not_eq_true,Bool.not_eq_false,Bool.true_eq_false,Bool.false_eq_true,not_false_eq_true,not_true_eq_false] at h105)
       refine HO_fieldAddr (r:=1) rfl rfl rfl Tryz.underlying68 rfl Tryz.sizeOf3 rfl ?_
       refine HO_load1 (i:=1) (j:=1) rfl rfl rfl Tryz.isAgg3 rfl (.loc _ _ _) rfl rfl ?_
       refine HO_bin rfl rfl rfl rfl bin_geq ?_
       refine HO_pick_t rfl rfl rfl rfl ?_
       refine HO_move rfl rfl rfl ?_
       refine HO_split (d:=110) rfl ?_ ?_
       ·intro h110
        replace h110:=dT h110
        refine HO_fieldAddr (r:=2) rfl rfl rfl Tryz.underlying68 rfl Tryz.sizeOf3 rfl ?_
        refine HO_load1 (i:=1) (j:=2) rfl rfl rfl Tryz.isAgg3 rfl (.loc _ _ _) rfl rfl ?_
        refine HO_bin rfl rfl rfl rfl bin_geq ?_
        refine HO_pick_t rfl rfl rfl rfl ?_
        refine HO_assign rfl rfl rfl ?_
        refine HO_nil ?_
        refine H_env (ρ':=[(2,_)]) ⟨rfl,trivial⟩ ?_
        refine H_world (kp [nn,nn] [] rfl) ?_
        refine H_ret1 Tryz.results82 (.tmp rfl) (fun w hA => ⟨(),congrArg Ending.returned ?_,?_,?_⟩)
        ·(exact congrArg Value.bool (by first | (simp [Cmd.good,Cmd.part,Cmd.fit,Cmd.eqv,Cmd.base,Cmd.empty,Cmd.pos_iff,Cmd.scanok, *] <;> rfl) | (simp_all [Cmd.good,Cmd.part,Cmd.fit,Cmd.eqv,Cmd.base,Cmd.empty,Cmd.pos_iff,Cmd.scanok] <;> intros <;> first | rfl | omega | (rename_i b1 b2 b3 b4 b5 b6;exact h22 (of_decide_eq_true b3) (of_decide_eq_true b4) (of_decide_eq_true b5) (of_decide_eq_true b6)) | (simp_all;done) | (simp_all;omega))))
        ·trivial
        ·exact hA.keep (m:=[]) (Y:=[]) rfl
       intro h110
       replace h110:=dF h110
       iterate 3 refine HO_no rfl rfl rfl ?_
       refine HO_pick_f rfl rfl rfl rfl ?_
       refine HO_assign rfl rfl rfl ?_
       refine HO_nil ?_
       refine H_env (ρ':=[(2,_)]) ⟨rfl,trivial⟩ ?_
       refine H_world (kp [nn,nn] [] rfl) ?_
       refine H_ret1 Tryz.results82 (.tmp rfl) (fun w hA => ⟨(),congrArg Ending.returned ?_,?_,?_⟩)
       ·(exact congrArg Value.bool (by first | (simp [Cmd.good,Cmd.part,Cmd.fit,Cmd.eqv,Cmd.base,Cmd.empty,Cmd.pos_iff,Cmd.scanok, *] <;> rfl) | (simp_all [Cmd.good,Cmd.part,Cmd.fit,Cmd.eqv,Cmd.base,Cmd.empty,Cmd.pos_iff,Cmd.scanok] <;> intros <;> first | rfl | omega | (rename_i b1 b2 b3 b4 b5 b6;exact h22 (of_decide_eq_true b3) (of_decide_eq_true b4) (of_decide_eq_true b5) (of_decide_eq_true b6)) | (simp_all;done) | (simp_all;omega))))
       ·trivial
       ·exact hA.keep (m:=[]) (Y:=[]) rfl
      intro h105
      (try simp only [decide_eq_true_eq,decide_eq_false_iff_not,Bool.not_eq_true',Bool.not_eq_false',Bool.not_eq_true,Bool.not_eq_false,Bool.true_eq_false,Bool.false_eq_true,not_false_eq_true,not_true_eq_false] at h105)
      iterate 3 refine HO_no rfl rfl rfl ?_
      refine HO_pick_f rfl rfl rfl rfl ?_
      refine HO_move rfl rfl rfl ?_
      iterate 3 refine HO_no rfl rfl rfl ?_
      refine HO_pick_f rfl rfl rfl rfl ?_
      refine HO_assign rfl rfl rfl ?_
      refine HO_nil ?_
      refine H_env (ρ':=[(2,_)]) ⟨rfl,trivial⟩ ?_
      refine H_world (kp [nn,nn] [] rfl) ?_
      refine H_ret1 Tryz.results82 (.tmp rfl) (fun w hA => ⟨(),congrArg Ending.returned ?_,?_,?_⟩)
      ·(exact congrArg Value.bool (by first | (simp [Cmd.good,Cmd.part,Cmd.fit,Cmd.eqv,Cmd.base,Cmd.empty,Cmd.pos_iff,Cmd.scanok, *] <;> rfl) | (simp_all [Cmd.good,Cmd.part,Cmd.fit,Cmd.eqv,Cmd.base,Cmd.empty,Cmd.pos_iff,Cmd.scanok] <;> intros <;> first | rfl | omega | (rename_i b1 b2 b3 b4 b5 b6;exact h22 (of_decide_eq_true b3) (of_decide_eq_true b4) (of_decide_eq_true b5) (of_decide_eq_true b6)) | (simp_all;done) | (simp_all;omega))))
      ·trivial
      ·exact hA.keep (m:=[]) (Y:=[]) rfl
     intro h100
     iterate 3 refine HO_no rfl rfl rfl ?_
     refine HO_pick_f rfl rfl rfl rfl ?_
     refine HO_move rfl rfl rfl ?_
     iterate 3 refine HO_no rfl rfl rfl ?_
     refine HO_pick_f rfl rfl rfl rfl ?_
     refine HO_move rfl rfl rfl ?_
     iterate 3 refine HO_no rfl rfl rfl ?_
     refine HO_pick_f rfl rfl rfl rfl ?_
     refine HO_assign rfl rfl rfl ?_
     refine HO_nil ?_
     refine H_env (ρ':=[(2,_)]) ⟨rfl,trivial⟩ ?_
     refine H_world (kp [nn,nn] [] rfl) ?_
     refine H_ret1 Tryz.results82 (.tmp rfl) (fun w hA => ⟨(),congrArg Ending.returned ?_,?_,?_⟩)
     ·(exact congrArg Value.bool (by first | (simp [Cmd.good,Cmd.part,Cmd.fit,Cmd.eqv,Cmd.base,Cmd.empty,Cmd.pos_iff,Cmd.scanok, *] <;> rfl) | (simp_all [Cmd.good,Cmd.part,Cmd.fit,Cmd.eqv,Cmd.base,Cmd.empty,Cmd.pos_iff,Cmd.scanok] <;> intros <;> first | rfl | omega | (rename_i b1 b2 b3 b4 b5 b6;exact h22 (of_decide_eq_true b3) (of_decide_eq_true b4) (of_decide_eq_true b5) (of_decide_eq_true b6)) | (simp_all;done) | (simp_all;omega))))
     ·trivial
     ·exact hA.keep (m:=[]) (Y:=[]) rfl
    intro h66
    iterate 3 refine HO_no rfl rfl rfl ?_
    refine HO_pick_f rfl rfl rfl rfl ?_
    refine HO_assign rfl rfl rfl ?_
    refine HO_nil ?_
    refine H_env (ρ':=[(4,_),(3,_),(1,_)]) ⟨rfl,rfl,rfl,trivial⟩ ?_
    refine H_blk ?_
    refine H_seq ?_
    refine H_region (l:=[_,_,_,_,_,_,_,_,_,_,_,_,_,_,_,_,_]) rfl ?_
    iterate 2 refine HO_move rfl rfl rfl ?_
    iterate 3 refine HO_no rfl rfl rfl ?_
    refine HO_pick_f rfl rfl rfl rfl ?_
    refine HO_move rfl rfl rfl ?_
    iterate 3 refine HO_no rfl rfl rfl ?_
    refine HO_pick_f rfl rfl rfl rfl ?_
    refine HO_move rfl rfl rfl ?_
    iterate 3 refine HO_no rfl rfl rfl ?_
    refine HO_pick_f rfl rfl rfl rfl ?_
    refine HO_assign rfl rfl rfl ?_
    refine HO_nil ?_
    refine H_env (ρ':=[(2,_)]) ⟨rfl,trivial⟩ ?_
    refine H_world (kp [nn,nn] [] rfl) ?_
    refine H_ret1 Tryz.results82 (.tmp rfl) (fun w hA => ⟨(),congrArg Ending.returned ?_,?_,?_⟩)
    ·(exact congrArg Value.bool (by first | (simp [Cmd.good,Cmd.part,Cmd.fit,Cmd.eqv,Cmd.base,Cmd.empty,Cmd.pos_iff,Cmd.scanok, *] <;> rfl) | (simp_all [Cmd.good,Cmd.part,Cmd.fit,Cmd.eqv,Cmd.base,Cmd.empty,Cmd.pos_iff,Cmd.scanok] <;> intros <;> first | rfl | omega | (rename_i b1 b2 b3 b4 b5 b6;exact h22 (of_decide_eq_true b3) (of_decide_eq_true b4) (of_decide_eq_true b5) (of_decide_eq_true b6)) | (simp_all;done) | (simp_all;omega))))
    ·trivial
    ·exact hA.keep (m:=[]) (Y:=[]) rfl
   intro h61
   iterate 3 refine HO_no rfl rfl rfl ?_
   refine HO_pick_f rfl rfl rfl rfl ?_
   refine HO_move rfl rfl rfl ?_
   iterate 3 refine HO_no rfl rfl rfl ?_
   refine HO_pick_f rfl rfl rfl rfl ?_
   refine HO_assign rfl rfl rfl ?_
   refine HO_nil ?_
   refine H_env (ρ':=[(4,_),(3,_),(1,_)]) ⟨rfl,rfl,rfl,trivial⟩ ?_
   refine H_blk ?_
   refine H_seq ?_
   refine H_region (l:=[_,_,_,_,_,_,_,_,_,_,_,_,_,_,_,_,_]) rfl ?_
   iterate 2 refine HO_move rfl rfl rfl ?_
   iterate 3 refine HO_no rfl rfl rfl ?_
   refine HO_pick_f rfl rfl rfl rfl ?_
   refine HO_move rfl rfl rfl ?_
   iterate 3 refine HO_no rfl rfl rfl ?_
   refine HO_pick_f rfl rfl rfl rfl ?_
   refine HO_move rfl rfl rfl ?_
   iterate 3 refine HO_no rfl rfl rfl ?_
   refine HO_pick_f rfl rfl rfl rfl ?_
   refine HO_assign rfl rfl rfl ?_
   refine HO_nil ?_
   refine H_env (ρ':=[(2,_)]) ⟨rfl,trivial⟩ ?_
   refine H_world (kp [nn,nn] [] rfl) ?_
   refine H_ret1 Tryz.results82 (.tmp rfl) (fun w hA => ⟨(),congrArg Ending.returned ?_,?_,?_⟩)
   ·(exact congrArg Value.bool (by first | (simp [Cmd.good,Cmd.part,Cmd.fit,Cmd.eqv,Cmd.base,Cmd.empty,Cmd.pos_iff,Cmd.scanok, *] <;> rfl) | (simp_all [Cmd.good,Cmd.part,Cmd.fit,Cmd.eqv,Cmd.base,Cmd.empty,Cmd.pos_iff,Cmd.scanok] <;> intros <;> first | rfl | omega | (rename_i b1 b2 b3 b4 b5 b6;exact h22 (of_decide_eq_true b3) (of_decide_eq_true b4) (of_decide_eq_true b5) (of_decide_eq_true b6)) | (simp_all;done) | (simp_all;omega))))
   ·trivial
   ·exact hA.keep (m:=[]) (Y:=[]) rfl
  intro h52
  replace h52:=dF h52
  refine H_seq ?_
  refine H_region (l:=[_,_]) rfl ?_
  refine HO_bin rfl rfl rfl rfl bin_eql ?_
  refine HO_assign rfl rfl rfl ?_
  refine HO_nil ?_
  refine H_env (ρ':=[(71,_),(3,_),(1,_)]) ⟨rfl,rfl,rfl,trivial⟩ ?_
  refine H_cond rfl ?_ ?_
  ·intro h71
   replace h71:=dT h71
   refine H_seq ?_
   refine H_drawB (m:=[nn,yy]) (Xs:=[_]) (fuel:=8) (l:=#[false,false,false,false,false,false,false,false]) mixed rfl rfl rfl ?_
   refine HA_take (i:=0) bp rfl rfl rfl rfl (by kernel_rfl) rfl (V_fieldAddr (r:=6) rfl Tryz.underlying68 rfl Tryz.sizeOf9 rfl) (kp [nn,yy] [_] rfl) ?_
   refine HA_take (i:=1) bp rfl rfl rfl rfl (by kernel_rfl) rfl (V_load1 (i:=0) (j:=6) rfl Tryz.isAgg9 rfl (.loc _ _ _) rfl rfl) (kp [nn,yy] [_] rfl) ?_
   refine HA_take (i:=2) bp rfl rfl rfl rfl (by kernel_rfl) rfl (V_fieldAddr (r:=7) rfl Tryz.underlying68 rfl Tryz.sizeOf3 rfl) (kp [nn,yy] [_] rfl) ?_
   refine HA_take (i:=3) bp rfl rfl rfl rfl (by kernel_rfl) rfl (V_load1 (i:=0) (j:=7) rfl Tryz.isAgg3 rfl (.loc _ _ _) rfl rfl) (kp [nn,yy] [_] rfl) ?_
   refine HA_take (i:=4) bp rfl rfl rfl rfl (by kernel_rfl) rfl (V_fieldAddr (r:=6) rfl Tryz.underlying68 rfl Tryz.sizeOf9 rfl) (kp [nn,yy] [_] rfl) ?_
   refine HA_loud1 (i:=5) (by kernel_rfl) rfl ?_
   refine HO_store (i:=0) (j:=0) (us:=[_,_,_,_,_,_]) (old:=[_]) (ts:=[_]) (cs:=[_]) (R:=[_]) (new:=[_,_,_,_,_,_,_,_]) rfl rfl rfl Tryz.sizeOf9 rfl (by simp [Value.oneCell']) rfl rfl rfl rfl rfl rfl ?_
   refine HA_back rfl (kp [nn,yy] [_] rfl) ?_
   refine HA_take (i:=6) bp rfl rfl rfl rfl (by kernel_rfl) rfl (V_fieldAddr (r:=7) rfl Tryz.underlying68 rfl Tryz.sizeOf3 rfl) (kp [nn,yy] [_] rfl) ?_
   refine HA_loud1 (i:=7) (by kernel_rfl) rfl ?_
   refine HO_store (i:=0) (j:=0) (us:=[_,_,_,_,_,_,_]) (old:=[_]) (ts:=[]) (cs:=[_]) (R:=[_]) (new:=[_,_,_,_,_,_,_,_]) rfl rfl rfl Tryz.sizeOf3 rfl (by simp [Value.oneCell']) rfl rfl rfl rfl rfl rfl ?_
   refine HA_back rfl (kp [nn,yy] [_] rfl) ?_
   refine HA_done (by kernel_rfl) ?_
   refine H_env (ρ':=[(3,_),(1,_)]) ⟨rfl,rfl,trivial⟩ ?_
   refine H_region (l:=[_,_,_,_,_,_,_,_,_,_,_,_,_,_,_,_,_,_,_,_,_]) rfl ?_
   refine HO_fieldAddr (r:=3) rfl rfl rfl Tryz.underlying68 rfl Tryz.sizeOf9 rfl ?_
   refine HO_load1 (i:=1) (j:=3) rfl rfl rfl Tryz.isAgg9 rfl (.loc _ _ _) rfl rfl ?_
   refine HO_bi rfl rfl rfl (bi_len_str Tryz.underlying9) ?_
   refine HO_bin rfl rfl rfl rfl bin_leq ?_
   refine HO_move rfl rfl rfl ?_
   refine HO_split (d:=83) rfl ?_ ?_
   ·intro h83
    replace h83:=dT h83
    refine HO_fieldAddr (r:=6) rfl rfl rfl Tryz.underlying68 rfl Tryz.sizeOf9 rfl ?_
    refine HO_load1 (i:=1) (j:=6) rfl rfl rfl Tryz.isAgg9 rfl (.loc _ _ _) rfl rfl ?_
    refine HO_bi rfl rfl rfl (bi_len_str Tryz.underlying9) ?_
    refine HO_bin rfl rfl rfl rfl bin_leq ?_
    refine HO_pick_t rfl rfl rfl rfl ?_
    refine HO_move rfl rfl rfl ?_
    refine HO_split (d:=89) rfl ?_ ?_
    ·intro h89
     replace h89:=dT h89
     refine HO_fieldAddr (r:=7) rfl rfl rfl Tryz.underlying68 rfl Tryz.sizeOf3 rfl ?_
     refine HO_load1 (i:=1) (j:=7) rfl rfl rfl Tryz.isAgg3 rfl (.loc _ _ _) rfl rfl ?_
     refine HO_bin rfl rfl rfl rfl bin_geq ?_
     refine HO_pick_t rfl rfl rfl rfl ?_
     refine HO_move rfl rfl rfl ?_
     refine HO_split (d:=94) rfl ?_ ?_
     ·intro h94
      replace h94:=dT h94
      refine HO_fieldAddr (r:=7) rfl rfl rfl Tryz.underlying68 rfl Tryz.sizeOf3 rfl ?_
      refine HO_load1 (i:=1) (j:=7) rfl rfl rfl Tryz.isAgg3 rfl (.loc _ _ _) rfl rfl ?_
      refine HO_bin rfl rfl rfl rfl bin_leq ?_
      refine HO_pick_t rfl rfl rfl rfl ?_
      refine HO_assign rfl rfl rfl ?_
      refine HO_nil ?_
      refine H_env (ρ':=[(4,_),(3,_),(1,_)]) ⟨rfl,rfl,rfl,trivial⟩ ?_
      refine H_blk ?_
      refine H_seq ?_
      refine H_region (l:=[_,_,_,_,_,_,_,_,_,_,_,_,_,_,_,_,_]) rfl ?_
      iterate 2 refine HO_move rfl rfl rfl ?_
      refine HO_split (d:=100) rfl ?_ ?_
      ·intro h100
       replace h100:=dT h100
       refine HO_loadA (i:=1) (us:=[]) (cs:=[_,_,_,_,_,_,_,_]) (ts:=[]) rfl rfl rfl Tryz.isAgg68 Tryz.sizeOf68 rfl (.loc _ _ _) rfl rfl rfl rfl ?_
       refine HO_loadA (i:=0) (us:=[]) (cs:=[_,_,_,_,_,_,_,_]) (ts:=[]) rfl rfl rfl Tryz.isAgg68 Tryz.sizeOf68 rfl (.loc _ _ _) rfl rfl rfl rfl ?_
       refine HO_bin rfl rfl rfl rfl eq68_eql ?_
       refine HO_pick_t rfl rfl rfl rfl ?_
       refine HO_move rfl rfl rfl ?_
       refine HO_split (d:=105) rfl ?_ ?_
       ·intro h105
        (try simp only [decide_eq_true_eq,decide_eq_false_iff_not,Bool.not_eq_true',Bool.not_eq_false',Bool.not_eq_true,Bool.not_eq_false,Bool.true_eq_false,Bool.false_eq_true,not_false_eq_true,not_true_eq_false] at h105)
        refine HO_fieldAddr (r:=1) rfl rfl rfl Tryz.underlying68 rfl Tryz.sizeOf3 rfl ?_
        refine HO_load1 (i:=1) (j:=1) rfl rfl rfl Tryz.isAgg3 rfl (.loc _ _ _) rfl rfl ?_
        refine HO_bin rfl rfl rfl rfl bin_geq ?_
        refine HO_pick_t rfl rfl rfl rfl ?_
        refine HO_move rfl rfl rfl ?_
        refine HO_split (d:=110) rfl ?_ ?_
        ·intro h110
         replace h110:=dT h110
         refine HO_fieldAddr (r:=2) rfl rfl rfl Tryz.underlying68 rfl Tryz.sizeOf3 rfl ?_
         refine HO_load1 (i:=1) (j:=2) rfl rfl rfl Tryz.isAgg3 rfl (.loc _ _ _) rfl rfl ?_
         refine HO_bin rfl rfl rfl rfl bin_geq ?_
         refine HO_pick_t rfl rfl rfl rfl ?_
         refine HO_assign rfl rfl rfl ?_
         refine HO_nil ?_
         refine H_env (ρ':=[(2,_)]) ⟨rfl,trivial⟩ ?_
         refine H_world (kp [nn,nn] [] rfl) ?_
         refine H_ret1 Tryz.results82 (.tmp rfl) (fun w hA => ⟨(),congrArg Ending.returned ?_,?_,?_⟩)
         ·(exact congrArg Value.bool (by first | (simp [Cmd.good,Cmd.part,Cmd.fit,Cmd.eqv,Cmd.base,Cmd.empty,Cmd.pos_iff,Cmd.scanok, *] <;> rfl) | (simp_all [Cmd.good,Cmd.part,Cmd.fit,Cmd.eqv,Cmd.base,Cmd.empty,Cmd.pos_iff,Cmd.scanok] <;> intros <;> first | rfl | omega | (rename_i b1 b2 b3 b4 b5 b6;exact h22 (of_decide_eq_true b3) (of_decide_eq_true b4) (of_decide_eq_true b5) (of_decide_eq_true b6)) | (simp_all;done) | (simp_all;omega))))
         ·trivial
         ·exact hA.keep (m:=[]) (Y:=[]) rfl
        intro h110
        replace h110:=dF h110
        iterate 3 refine HO_no rfl rfl rfl ?_
        refine HO_pick_f rfl rfl rfl rfl ?_
        refine HO_assign rfl rfl rfl ?_
        refine HO_nil ?_
        refine H_env (ρ':=[(2,_)]) ⟨rfl,trivial⟩ ?_
        refine H_world (kp [nn,nn] [] rfl) ?_
        refine H_ret1 Tryz.results82 (.tmp rfl) (fun w hA => ⟨(),congrArg Ending.returned ?_,?_,?_⟩)
        ·(exact congrArg Value.bool (by first | (simp [Cmd.good,Cmd.part,Cmd.fit,Cmd.eqv,Cmd.base,Cmd.empty,Cmd.pos_iff,Cmd.scanok, *] <;> rfl) | (simp_all [Cmd.good,Cmd.part,Cmd.fit,Cmd.eqv,Cmd.base,Cmd.empty,Cmd.pos_iff,Cmd.scanok] <;> intros <;> first | rfl | omega | (rename_i b1 b2 b3 b4 b5 b6;exact h22 (of_decide_eq_true b3) (of_decide_eq_true b4) (of_decide_eq_true b5) (of_decide_eq_true b6)) | (simp_all;done) | (simp_all;omega))))
        ·trivial
        ·exact hA.keep (m:=[]) (Y:=[]) rfl
       intro h105
       (try simp only [decide_eq_true_eq,decide_eq_false_iff_not,Bool.not_eq_true',Bool.not_eq_false',Bool.not_eq_true,Bool.not_eq_false,Bool.true_eq_false,Bool.false_eq_true,not_false_eq_true,not_true_eq_false] at h105)
       iterate 3 refine HO_no rfl rfl rfl ?_
       refine HO_pick_f rfl rfl rfl rfl ?_
       refine HO_move rfl rfl rfl ?_
       iterate 3 refine HO_no rfl rfl rfl ?_
       refine HO_pick_f rfl rfl rfl rfl ?_
       refine HO_assign rfl rfl rfl ?_
       refine HO_nil ?_
       refine H_env (ρ':=[(2,_)]) ⟨rfl,trivial⟩ ?_
       refine H_world (kp [nn,nn] [] rfl) ?_
       refine H_ret1 Tryz.results82 (.tmp rfl) (fun w hA => ⟨(),congrArg Ending.returned ?_,?_,?_⟩)
       ·(exact congrArg Value.bool (by first | (simp [Cmd.good,Cmd.part,Cmd.fit,Cmd.eqv,Cmd.base,Cmd.empty,Cmd.pos_iff,Cmd.scanok, *] <;> rfl) | (simp_all [Cmd.good,Cmd.part,Cmd.fit,Cmd.eqv,Cmd.base,Cmd.empty,Cmd.pos_iff,Cmd.scanok] <;> intros <;> first | rfl | omega | (rename_i b1 b2 b3 b4 b5 b6;exact h22 (of_decide_eq_true b3) (of_decide_eq_true b4) (of_decide_eq_true b5) (of_decide_eq_true b6)) | (simp_all;done) | (simp_all;omega))))
       ·trivial
       ·exact hA.keep (m:=[]) (Y:=[]) rfl
      intro h100
      replace h100:=dF h100
      iterate 3 refine HO_no rfl rfl rfl ?_
      refine HO_pick_f rfl rfl rfl rfl ?_
      refine HO_move rfl rfl rfl ?_
      iterate 3 refine HO_no rfl rfl rfl ?_
      refine HO_pick_f rfl rfl rfl rfl ?_
      refine HO_move rfl rfl rfl ?_
      iterate 3 refine HO_no rfl rfl rfl ?_
      refine HO_pick_f rfl rfl rfl rfl ?_
      refine HO_assign rfl rfl rfl ?_
      refine HO_nil ?_
      refine H_env (ρ':=[(2,_)]) ⟨rfl,trivial⟩ ?_
      refine H_world (kp [nn,nn] [] rfl) ?_
      refine H_ret1 Tryz.results82 (.tmp rfl) (fun w hA => ⟨(),congrArg Ending.returned ?_,?_,?_⟩)
      ·(exact congrArg Value.bool (by first | (simp [Cmd.good,Cmd.part,Cmd.fit,Cmd.eqv,Cmd.base,Cmd.empty,Cmd.pos_iff,Cmd.scanok, *] <;> rfl) | (simp_all [Cmd.good,Cmd.part,Cmd.fit,Cmd.eqv,Cmd.base,Cmd.empty,Cmd.pos_iff,Cmd.scanok] <;> intros <;> first | rfl | omega | (rename_i b1 b2 b3 b4 b5 b6;exact h22 (of_decide_eq_true b3) (of_decide_eq_true b4) (of_decide_eq_true b5) (of_decide_eq_true b6)) | (simp_all;done) | (simp_all;omega))))
      ·trivial
      ·exact hA.keep (m:=[]) (Y:=[]) rfl
     intro h94
     replace h94:=dF h94
     iterate 3 refine HO_no rfl rfl rfl ?_
     refine HO_pick_f rfl rfl rfl rfl ?_
     refine HO_assign rfl rfl rfl ?_
     refine HO_nil ?_
     refine H_env (ρ':=[(4,_),(3,_),(1,_)]) ⟨rfl,rfl,rfl,trivial⟩ ?_
     refine H_blk ?_
     refine H_seq ?_
     refine H_region (l:=[_,_,_,_,_,_,_,_,_,_,_,_,_,_,_,_,_]) rfl ?_
     iterate 2 refine HO_move rfl rfl rfl ?_
     iterate 3 refine HO_no rfl rfl rfl ?_
     refine HO_pick_f rfl rfl rfl rfl ?_
     refine HO_move rfl rfl rfl ?_
     iterate 3 refine HO_no rfl rfl rfl ?_
     refine HO_pick_f rfl rfl rfl rfl ?_
     refine HO_move rfl rfl rfl ?_
     iterate 3 refine HO_no rfl rfl rfl ?_
     refine HO_pick_f rfl rfl rfl rfl ?_
     refine HO_assign rfl rfl rfl ?_
     refine HO_nil ?_
     refine H_env (ρ':=[(2,_)]) ⟨rfl,trivial⟩ ?_
     refine H_world (kp [nn,nn] [] rfl) ?_
     refine H_ret1 Tryz.results82 (.tmp rfl) (fun w hA => ⟨(),congrArg Ending.returned ?_,?_,?_⟩)
     ·(exact congrArg Value.bool (by first | (simp [Cmd.good,Cmd.part,Cmd.fit,Cmd.eqv,Cmd.base,Cmd.empty,Cmd.pos_iff,Cmd.scanok, *] <;> rfl) | (simp_all [Cmd.good,Cmd.part,Cmd.fit,Cmd.eqv,Cmd.base,Cmd.empty,Cmd.pos_iff,Cmd.scanok] <;> intros <;> first | rfl | omega | (rename_i b1 b2 b3 b4 b5 b6;exact h22 (of_decide_eq_true b3) (of_decide_eq_true b4) (of_decide_eq_true b5) (of_decide_eq_true b6)) | (simp_all;done) | (simp_all;omega))))
     ·trivial
     ·exact hA.keep (m:=[]) (Y:=[]) rfl
    intro h89
    replace h89:=dF h89
    iterate 3 refine HO_no rfl rfl rfl ?_
    refine HO_pick_f rfl rfl rfl rfl ?_
    refine HO_move rfl rfl rfl ?_
    iterate 3 refine HO_no rfl rfl rfl ?_
    refine HO_pick_f rfl rfl rfl rfl ?_
    refine HO_assign rfl rfl rfl ?_
    refine HO_nil ?_
    refine H_env (ρ':=[(4,_),(3,_),(1,_)]) ⟨rfl,rfl,rfl,trivial⟩ ?_
    refine H_blk ?_
    refine H_seq ?_
    refine H_region (l:=[_,_,_,_,_,_,_,_,_,_,_,_,_,_,_,_,_]) rfl ?_
    iterate 2 refine HO_move rfl rfl rfl ?_
    iterate 3 refine HO_no rfl rfl rfl ?_
    refine HO_pick_f rfl rfl rfl rfl ?_
    refine HO_move rfl rfl rfl ?_
    iterate 3 refine HO_no rfl rfl rfl ?_
    refine HO_pick_f rfl rfl rfl rfl ?_
    refine HO_move rfl rfl rfl ?_
    iterate 3 refine HO_no rfl rfl rfl ?_
    refine HO_pick_f rfl rfl rfl rfl ?_
    refine HO_assign rfl rfl rfl ?_
    refine HO_nil ?_
    refine H_env (ρ':=[(2,_)]) ⟨rfl,trivial⟩ ?_
    refine H_world (kp [nn,nn] [] rfl) ?_
    refine H_ret1 Tryz.results82 (.tmp rfl) (fun w hA => ⟨(),congrArg Ending.returned ?_,?_,?_⟩)
    ·(exact congrArg Value.bool (by first | (simp [Cmd.good,Cmd.part,Cmd.fit,Cmd.eqv,Cmd.base,Cmd.empty,Cmd.pos_iff,Cmd.scanok, *] <;> rfl) | (simp_all [Cmd.good,Cmd.part,Cmd.fit,Cmd.eqv,Cmd.base,Cmd.empty,Cmd.pos_iff,Cmd.scanok] <;> intros <;> first | rfl | omega | (rename_i b1 b2 b3 b4 b5 b6;exact h22 (of_decide_eq_true b3) (of_decide_eq_true b4) (of_decide_eq_true b5) (of_decide_eq_true b6)) | (simp_all;done) | (simp_all;omega))))
    ·trivial
    ·exact hA.keep (m:=[]) (Y:=[]) rfl
   intro h83
   replace h83:=dF h83
   iterate 4 refine HO_no rfl rfl rfl ?_
   refine HO_pick_f rfl rfl rfl rfl ?_
   refine HO_move rfl rfl rfl ?_
   iterate 3 refine HO_no rfl rfl rfl ?_
   refine HO_pick_f rfl rfl rfl rfl ?_
   refine HO_move rfl rfl rfl ?_
   iterate 3 refine HO_no rfl rfl rfl ?_
   refine HO_pick_f rfl rfl rfl rfl ?_
   refine HO_assign rfl rfl rfl ?_
   refine HO_nil ?_
   refine H_env (ρ':=[(4,_),(3,_),(1,_)]) ⟨rfl,rfl,rfl,trivial⟩ ?_
   refine H_blk ?_
   refine H_seq ?_
   refine H_region (l:=[_,_,_,_,_,_,_,_,_,_,_,_,_,_,_,_,_]) rfl ?_
   iterate 2 refine HO_move rfl rfl rfl ?_
   iterate 3 refine HO_no rfl rfl rfl ?_
   refine HO_pick_f rfl rfl rfl rfl ?_
   refine HO_move rfl rfl rfl ?_
   iterate 3 refine HO_no rfl rfl rfl ?_
   refine HO_pick_f rfl rfl rfl rfl ?_
   refine HO_move rfl rfl rfl ?_
   iterate 3 refine HO_no rfl rfl rfl ?_
   refine HO_pick_f rfl rfl rfl rfl ?_
   refine HO_assign rfl rfl rfl ?_
   refine HO_nil ?_
   refine H_env (ρ':=[(2,_)]) ⟨rfl,trivial⟩ ?_
   refine H_world (kp [nn,nn] [] rfl) ?_
   refine H_ret1 Tryz.results82 (.tmp rfl) (fun w hA => ⟨(),congrArg Ending.returned ?_,?_,?_⟩)
   ·(exact congrArg Value.bool (by first | (simp [Cmd.good,Cmd.part,Cmd.fit,Cmd.eqv,Cmd.base,Cmd.empty,Cmd.pos_iff,Cmd.scanok, *] <;> rfl) | (simp_all [Cmd.good,Cmd.part,Cmd.fit,Cmd.eqv,Cmd.base,Cmd.empty,Cmd.pos_iff,Cmd.scanok] <;> intros <;> first | rfl | omega | (rename_i b1 b2 b3 b4 b5 b6;exact h22 (of_decide_eq_true b3) (of_decide_eq_true b4) (of_decide_eq_true b5) (of_decide_eq_true b6)) | (simp_all;done) | (simp_all;omega))))
   ·trivial
   ·exact hA.keep (m:=[]) (Y:=[]) rfl
  intro h71
  replace h71:=dF h71
  refine H_seq ?_
  refine H_region (l:=[_]) rfl ?_
  refine HO_assign rfl rfl rfl ?_
  refine HO_nil ?_
  refine H_env (ρ':=[(2,_)]) ⟨rfl,trivial⟩ ?_
  refine H_world (kp [nn,nn] [] rfl) ?_
  refine H_ret1 Tryz.results82 (.tmp rfl) (fun w hA => ⟨(),congrArg Ending.returned ?_,?_,?_⟩)
  ·(exact congrArg Value.bool (by first | (simp [Cmd.good,Cmd.part,Cmd.fit,Cmd.eqv,Cmd.base,Cmd.empty,Cmd.pos_iff,Cmd.scanok, *] <;> rfl) | (simp_all [Cmd.good,Cmd.part,Cmd.fit,Cmd.eqv,Cmd.base,Cmd.empty,Cmd.pos_iff,Cmd.scanok] <;> intros <;> first | rfl | omega | (rename_i b1 b2 b3 b4 b5 b6;exact h22 (of_decide_eq_true b3) (of_decide_eq_true b4) (of_decide_eq_true b5) (of_decide_eq_true b6)) | (simp_all;done) | (simp_all;omega))))
  ·trivial
  ·exact hA.keep (m:=[]) (Y:=[]) rfl
 intro h49
 replace h49:=dF h49
 refine H_region (l:=[_,_]) rfl ?_
 refine HO_bin rfl rfl rfl rfl bin_eql ?_
 refine HO_assign rfl rfl rfl ?_
 refine HO_nil ?_
 refine H_env (ρ':=[(49,_),(37,_),(4,_),(3,_),(1,_)]) ⟨rfl,rfl,rfl,rfl,rfl,trivial⟩ ?_
 refine H_cond rfl ?_ ?_
 ·intro h49
  replace h49:=dT h49
  refine H_skip ?_
  refine H_blk ?_
  refine H_seq ?_
  refine H_region (l:=[_,_,_,_,_,_,_,_,_,_,_,_,_,_,_,_,_]) rfl ?_
  iterate 2 refine HO_move rfl rfl rfl ?_
  refine HO_split (d:=100) rfl ?_ ?_
  ·intro h100
   refine HO_loadA (i:=1) (us:=[]) (cs:=[_,_,_,_,_,_,_,_]) (ts:=[]) rfl rfl rfl Tryz.isAgg68 Tryz.sizeOf68 rfl (.loc _ _ _) rfl rfl rfl rfl ?_
   refine HO_loadA (i:=0) (us:=[]) (cs:=[_,_,_,_,_,_,_,_]) (ts:=[]) rfl rfl rfl Tryz.isAgg68 Tryz.sizeOf68 rfl (.loc _ _ _) rfl rfl rfl rfl ?_
   refine HO_bin rfl rfl rfl rfl eq68_eql ?_
   refine HO_pick_t rfl rfl rfl rfl ?_
   refine HO_move rfl rfl rfl ?_
   refine HO_split (d:=105) rfl ?_ ?_
   ·intro h105
    (try simp only [decide_eq_true_eq,decide_eq_false_iff_not,Bool.not_eq_true',Bool.not_eq_false',Bool.not_eq_true,Bool.not_eq_false,Bool.true_eq_false,Bool.false_eq_true,not_false_eq_true,not_true_eq_false] at h105)
    refine HO_fieldAddr (r:=1) rfl rfl rfl Tryz.underlying68 rfl Tryz.sizeOf3 rfl ?_
    refine HO_load1 (i:=1) (j:=1) rfl rfl rfl Tryz.isAgg3 rfl (.loc _ _ _) rfl rfl ?_
    refine HO_bin rfl rfl rfl rfl bin_geq ?_
    refine HO_pick_t rfl rfl rfl rfl ?_
    refine HO_move rfl rfl rfl ?_
    refine HO_split (d:=110) rfl ?_ ?_
    ·intro h110
     replace h110:=dT h110
     refine HO_fieldAddr (r:=2) rfl rfl rfl Tryz.underlying68 rfl Tryz.sizeOf3 rfl ?_
     refine HO_load1 (i:=1) (j:=2) rfl rfl rfl Tryz.isAgg3 rfl (.loc _ _ _) rfl rfl ?_
     refine HO_bin rfl rfl rfl rfl bin_geq ?_
     refine HO_pick_t rfl rfl rfl rfl ?_
     refine HO_assign rfl rfl rfl ?_
     refine HO_nil ?_
     refine H_env (ρ':=[(2,_)]) ⟨rfl,trivial⟩ ?_
     refine H_world (kp [nn,nn] [] rfl) ?_
     refine H_ret1 Tryz.results82 (.tmp rfl) (fun w hA => ⟨(),congrArg Ending.returned ?_,?_,?_⟩)
     ·(exact congrArg Value.bool (by first | (simp [Cmd.good,Cmd.part,Cmd.fit,Cmd.eqv,Cmd.base,Cmd.empty,Cmd.pos_iff,Cmd.scanok, *] <;> rfl) | (simp_all [Cmd.good,Cmd.part,Cmd.fit,Cmd.eqv,Cmd.base,Cmd.empty,Cmd.pos_iff,Cmd.scanok] <;> intros <;> first | rfl | omega | (rename_i b1 b2 b3 b4 b5 b6;exact h22 (of_decide_eq_true b3) (of_decide_eq_true b4) (of_decide_eq_true b5) (of_decide_eq_true b6)) | (simp_all;done) | (simp_all;omega))))
     ·trivial
     ·exact hA.keep (m:=[]) (Y:=[]) rfl
    intro h110
    replace h110:=dF h110
    iterate 3 refine HO_no rfl rfl rfl ?_
    refine HO_pick_f rfl rfl rfl rfl ?_
    refine HO_assign rfl rfl rfl ?_
    refine HO_nil ?_
    refine H_env (ρ':=[(2,_)]) ⟨rfl,trivial⟩ ?_
    refine H_world (kp [nn,nn] [] rfl) ?_
    refine H_ret1 Tryz.results82 (.tmp rfl) (fun w hA => ⟨(),congrArg Ending.returned ?_,?_,?_⟩)
    ·(exact congrArg Value.bool (by first | (simp [Cmd.good,Cmd.part,Cmd.fit,Cmd.eqv,Cmd.base,Cmd.empty,Cmd.pos_iff,Cmd.scanok, *] <;> rfl) | (simp_all [Cmd.good,Cmd.part,Cmd.fit,Cmd.eqv,Cmd.base,Cmd.empty,Cmd.pos_iff,Cmd.scanok] <;> intros <;> first | rfl | omega | (rename_i b1 b2 b3 b4 b5 b6;exact h22 (of_decide_eq_true b3) (of_decide_eq_true b4) (of_decide_eq_true b5) (of_decide_eq_true b6)) | (simp_all;done) | (simp_all;omega))))
    ·trivial
    ·exact hA.keep (m:=[]) (Y:=[]) rfl
   intro h105
   (try simp only [decide_eq_true_eq,decide_eq_false_iff_not,Bool.not_eq_true',Bool.not_eq_false',Bool.not_eq_true,Bool.not_eq_false,Bool.true_eq_false,Bool.false_eq_true,not_false_eq_true,not_true_eq_false] at h105)
   iterate 3 refine HO_no rfl rfl rfl ?_
   refine HO_pick_f rfl rfl rfl rfl ?_
   refine HO_move rfl rfl rfl ?_
   iterate 3 refine HO_no rfl rfl rfl ?_
   refine HO_pick_f rfl rfl rfl rfl ?_
   refine HO_assign rfl rfl rfl ?_
   refine HO_nil ?_
   refine H_env (ρ':=[(2,_)]) ⟨rfl,trivial⟩ ?_
   refine H_world (kp [nn,nn] [] rfl) ?_
   refine H_ret1 Tryz.results82 (.tmp rfl) (fun w hA => ⟨(),congrArg Ending.returned ?_,?_,?_⟩)
   ·(exact congrArg Value.bool (by first | (simp [Cmd.good,Cmd.part,Cmd.fit,Cmd.eqv,Cmd.base,Cmd.empty,Cmd.pos_iff,Cmd.scanok, *] <;> rfl) | (simp_all [Cmd.good,Cmd.part,Cmd.fit,Cmd.eqv,Cmd.base,Cmd.empty,Cmd.pos_iff,Cmd.scanok] <;> intros <;> first | rfl | omega | (rename_i b1 b2 b3 b4 b5 b6;exact h22 (of_decide_eq_true b3) (of_decide_eq_true b4) (of_decide_eq_true b5) (of_decide_eq_true b6)) | (simp_all;done) | (simp_all;omega))))
   ·trivial
   ·exact hA.keep (m:=[]) (Y:=[]) rfl
  intro h100
  iterate 3 refine HO_no rfl rfl rfl ?_
  refine HO_pick_f rfl rfl rfl rfl ?_
  refine HO_move rfl rfl rfl ?_
  iterate 3 refine HO_no rfl rfl rfl ?_
  refine HO_pick_f rfl rfl rfl rfl ?_
  refine HO_move rfl rfl rfl ?_
  iterate 3 refine HO_no rfl rfl rfl ?_
  refine HO_pick_f rfl rfl rfl rfl ?_
  refine HO_assign rfl rfl rfl ?_
  refine HO_nil ?_
  refine H_env (ρ':=[(2,_)]) ⟨rfl,trivial⟩ ?_
  refine H_world (kp [nn,nn] [] rfl) ?_
  refine H_ret1 Tryz.results82 (.tmp rfl) (fun w hA => ⟨(),congrArg Ending.returned ?_,?_,?_⟩)
  ·(exact congrArg Value.bool (by first | (simp [Cmd.good,Cmd.part,Cmd.fit,Cmd.eqv,Cmd.base,Cmd.empty,Cmd.pos_iff,Cmd.scanok, *] <;> rfl) | (simp_all [Cmd.good,Cmd.part,Cmd.fit,Cmd.eqv,Cmd.base,Cmd.empty,Cmd.pos_iff,Cmd.scanok] <;> intros <;> first | rfl | omega | (rename_i b1 b2 b3 b4 b5 b6;exact h22 (of_decide_eq_true b3) (of_decide_eq_true b4) (of_decide_eq_true b5) (of_decide_eq_true b6)) | (simp_all;done) | (simp_all;omega))))
  ·trivial
  ·exact hA.keep (m:=[]) (Y:=[]) rfl
 intro h49
 replace h49:=dF h49
 refine H_seq ?_
 refine H_region (l:=[_,_]) rfl ?_
 refine HO_bin rfl rfl rfl rfl bin_eql ?_
 refine HO_assign rfl rfl rfl ?_
 refine HO_nil ?_
 refine H_env (ρ':=[(52,_),(37,_),(4,_),(3,_),(1,_)]) ⟨rfl,rfl,rfl,rfl,rfl,trivial⟩ ?_
 refine H_cond rfl ?_ ?_
 ·intro h52
  replace h52:=dT h52
  refine H_seq ?_
  refine H_drawB (m:=[nn,yy]) (Xs:=[_]) (fuel:=8) (l:=#[false,false,false,false,false,false,false,false]) mixed rfl rfl rfl ?_
  refine HA_take (i:=0) bp rfl rfl rfl rfl (by kernel_rfl) rfl (V_fieldAddr (r:=4) rfl Tryz.underlying68 rfl Tryz.sizeOf9 rfl) (kp [nn,yy] [_] rfl) ?_
  refine HA_take (i:=1) bp rfl rfl rfl rfl (by kernel_rfl) rfl (V_load1 (i:=0) (j:=4) rfl Tryz.isAgg9 rfl (.loc _ _ _) rfl rfl) (kp [nn,yy] [_] rfl) ?_
  refine HA_take (i:=2) bp rfl rfl rfl rfl (by kernel_rfl) rfl (V_fieldAddr (r:=5) rfl Tryz.underlying68 rfl Tryz.sizeOf9 rfl) (kp [nn,yy] [_] rfl) ?_
  refine HA_take (i:=3) bp rfl rfl rfl rfl (by kernel_rfl) rfl (V_load1 (i:=0) (j:=5) rfl Tryz.isAgg9 rfl (.loc _ _ _) rfl rfl) (kp [nn,yy] [_] rfl) ?_
  refine HA_take (i:=4) bp rfl rfl rfl rfl (by kernel_rfl) rfl (V_fieldAddr (r:=4) rfl Tryz.underlying68 rfl Tryz.sizeOf9 rfl) (kp [nn,yy] [_] rfl) ?_
  refine HA_loud1 (i:=5) (by kernel_rfl) rfl ?_
  refine HO_store (i:=0) (j:=0) (us:=[_,_,_,_]) (old:=[_]) (ts:=[_,_,_]) (cs:=[_]) (R:=[_]) (new:=[_,_,_,_,_,_,_,_]) rfl rfl rfl Tryz.sizeOf9 rfl (by simp [Value.oneCell']) rfl rfl rfl rfl rfl rfl ?_
  refine HA_back rfl (kp [nn,yy] [_] rfl) ?_
  refine HA_take (i:=6) bp rfl rfl rfl rfl (by kernel_rfl) rfl (V_fieldAddr (r:=5) rfl Tryz.underlying68 rfl Tryz.sizeOf9 rfl) (kp [nn,yy] [_] rfl) ?_
  refine HA_loud1 (i:=7) (by kernel_rfl) rfl ?_
  refine HO_store (i:=0) (j:=0) (us:=[_,_,_,_,_]) (old:=[_]) (ts:=[_,_]) (cs:=[_]) (R:=[_]) (new:=[_,_,_,_,_,_,_,_]) rfl rfl rfl Tryz.sizeOf9 rfl (by simp [Value.oneCell']) rfl rfl rfl rfl rfl rfl ?_
  refine HA_back rfl (kp [nn,yy] [_] rfl) ?_
  refine HA_done (by kernel_rfl) ?_
  refine H_env (ρ':=[(4,_),(3,_),(1,_)]) ⟨rfl,rfl,rfl,trivial⟩ ?_
  refine H_region (l:=[_,_,_,_,_,_,_,_,_,_,_,_]) rfl ?_
  iterate 2 refine HO_move rfl rfl rfl ?_
  refine HO_split (d:=61) rfl ?_ ?_
  ·intro h61
   refine HO_fieldAddr (r:=4) rfl rfl rfl Tryz.underlying68 rfl Tryz.sizeOf9 rfl ?_
   refine HO_load1 (i:=1) (j:=4) rfl rfl rfl Tryz.isAgg9 rfl (.loc _ _ _) rfl rfl ?_
   refine HO_call (first:=[]) (capt:=[]) (is:=[]) (R:=[_,_]) rfl rfl rfl rfl rfl Tryz.call115 rfl (rvalue_spec _) ?_
   intro y64 hy64
   clear y64 hy64
   refine HO_pick_t rfl rfl rfl rfl ?_
   refine HO_move rfl rfl rfl ?_
   refine HO_split (d:=66) rfl ?_ ?_
   ·intro h66
    refine HO_fieldAddr (r:=5) rfl rfl rfl Tryz.underlying68 rfl Tryz.sizeOf9 rfl ?_
    refine HO_load1 (i:=1) (j:=5) rfl rfl rfl Tryz.isAgg9 rfl (.loc _ _ _) rfl rfl ?_
    refine HO_call (first:=[]) (capt:=[]) (is:=[]) (R:=[_,_]) rfl rfl rfl rfl rfl Tryz.call115 rfl (rvalue_spec _) ?_
    intro y69 hy69
    clear y69 hy69
    refine HO_pick_t rfl rfl rfl rfl ?_
    refine HO_assign rfl rfl rfl ?_
    refine HO_nil ?_
    refine H_env (ρ':=[(4,_),(3,_),(1,_)]) ⟨rfl,rfl,rfl,trivial⟩ ?_
    refine H_blk ?_
    refine H_seq ?_
    refine H_region (l:=[_,_,_,_,_,_,_,_,_,_,_,_,_,_,_,_,_]) rfl ?_
    iterate 2 refine HO_move rfl rfl rfl ?_
    refine HO_split (d:=100) rfl ?_ ?_
    ·intro h100
     refine HO_loadA (i:=1) (us:=[]) (cs:=[_,_,_,_,_,_,_,_]) (ts:=[]) rfl rfl rfl Tryz.isAgg68 Tryz.sizeOf68 rfl (.loc _ _ _) rfl rfl rfl rfl ?_
     refine HO_loadA (i:=0) (us:=[]) (cs:=[_,_,_,_,_,_,_,_]) (ts:=[]) rfl rfl rfl Tryz.isAgg68 Tryz.sizeOf68 rfl (.loc _ _ _) rfl rfl rfl rfl ?_
     refine HO_bin rfl rfl rfl rfl eq68_eql ?_
     refine HO_pick_t rfl rfl rfl rfl ?_
     refine HO_move rfl rfl rfl ?_
     refine HO_split (d:=105) rfl ?_ ?_
     ·intro h105
      (try simp only [decide_eq_true_eq,decide_eq_false_iff_not,Bool.not_eq_true',Bool.not_eq_false',Bool.not_eq_true,Bool.not_eq_false,Bool.true_eq_false,Bool.false_eq_true,not_false_eq_true,not_true_eq_false] at h105)
      refine HO_fieldAddr (r:=1) rfl rfl rfl Tryz.underlying68 rfl Tryz.sizeOf3 rfl ?_
      refine HO_load1 (i:=1) (j:=1) rfl rfl rfl Tryz.isAgg3 rfl (.loc _ _ _) rfl rfl ?_
      refine HO_bin rfl rfl rfl rfl bin_geq ?_
      refine HO_pick_t rfl rfl rfl rfl ?_
      refine HO_move rfl rfl rfl ?_
      refine HO_split (d:=110) rfl ?_ ?_
      ·intro h110
       replace h110:=dT h110
       refine HO_fieldAddr (r:=2) rfl rfl rfl Tryz.underlying68 rfl Tryz.sizeOf3 rfl ?_
       refine HO_load1 (i:=1) (j:=2) rfl rfl rfl Tryz.isAgg3 rfl (.loc _ _ _) rfl rfl ?_
       refine HO_bin rfl rfl rfl rfl bin_geq ?_
       refine HO_pick_t rfl rfl rfl rfl ?_
       refine HO_assign rfl rfl rfl ?_
       refine HO_nil ?_
       refine H_env (ρ':=[(2,_)]) ⟨rfl,trivial⟩ ?_
       refine H_world (kp [nn,nn] [] rfl) ?_
       refine H_ret1 Tryz.results82 (.tmp rfl) (fun w hA => ⟨(),congrArg Ending.returned ?_,?_,?_⟩)
       ·(exact congrArg Value.bool (by first | (simp [Cmd.good,Cmd.part,Cmd.fit,Cmd.eqv,Cmd.base,Cmd.empty,Cmd.pos_iff,Cmd.scanok, *] <;> rfl) | (simp_all [Cmd.good,Cmd.part,Cmd.fit,Cmd.eqv,Cmd.base,Cmd.empty,Cmd.pos_iff,Cmd.scanok] <;> intros <;> first | rfl | omega | (rename_i b1 b2 b3 b4 b5 b6;exact h22 (of_decide_eq_true b3) (of_decide_eq_true b4) (of_decide_eq_true b5) (of_decide_eq_true b6)) | (simp_all;done) | (simp_all;omega))))
       ·trivial
       ·exact hA.keep (m:=[]) (Y:=[]) rfl
      intro h110
      replace h110:=dF h110
      iterate 3 refine HO_no rfl rfl rfl ?_
      refine HO_pick_f rfl rfl rfl rfl ?_
      refine HO_assign rfl rfl rfl ?_
      refine HO_nil ?_
      refine H_env (ρ':=[(2,_)]) ⟨rfl,trivial⟩ ?_
      refine H_world (kp [nn,nn] [] rfl) ?_
      refine H_ret1 Tryz.results82 (.tmp rfl) (fun w hA => ⟨(),congrArg Ending.returned ?_,?_,?_⟩)
      ·(exact congrArg Value.bool (by first | (simp [Cmd.good,Cmd.part,Cmd.fit,Cmd.eqv,Cmd.base,Cmd.empty,Cmd.pos_iff,Cmd.scanok, *] <;> rfl) | (simp_all [Cmd.good,Cmd.part,Cmd.fit,Cmd.eqv,Cmd.base,Cmd.empty,Cmd.pos_iff,Cmd.scanok] <;> intros <;> first | rfl | omega | (rename_i b1 b2 b3 b4 b5 b6;exact h22 (of_decide_eq_true b3) (of_decide_eq_true b4) (of_decide_eq_true b5) (of_decide_eq_true b6)) | (simp_all;done) | (simp_all;omega))))
      ·trivial
      ·exact hA.keep (m:=[]) (Y:=[]) rfl
     intro h105
     (try simp only [decide_eq_true_eq,decide_eq_false_iff_not,Bool.not_eq_true',Bool.not_eq_false',Bool.not_eq_true,Bool.not_eq_false,Bool.true_eq_false,Bool.false_eq_true,not_false_eq_true,not_true_eq_false] at h105)
     iterate 3 refine HO_no rfl rfl rfl ?_
     refine HO_pick_f rfl rfl rfl rfl ?_
     refine HO_move rfl rfl rfl ?_
     iterate 3 refine HO_no rfl rfl rfl ?_
     refine HO_pick_f rfl rfl rfl rfl ?_
     refine HO_assign rfl rfl rfl ?_
     refine HO_nil ?_
     refine H_env (ρ':=[(2,_)]) ⟨rfl,trivial⟩ ?_
     refine H_world (kp [nn,nn] [] rfl) ?_
     refine H_ret1 Tryz.results82 (.tmp rfl) (fun w hA => ⟨(),congrArg Ending.returned ?_,?_,?_⟩)
     ·(exact congrArg Value.bool (by first | (simp [Cmd.good,Cmd.part,Cmd.fit,Cmd.eqv,Cmd.base,Cmd.empty,Cmd.pos_iff,Cmd.scanok, *] <;> rfl) | (simp_all [Cmd.good,Cmd.part,Cmd.fit,Cmd.eqv,Cmd.base,Cmd.empty,Cmd.pos_iff,Cmd.scanok] <;> intros <;> first | rfl | omega | (rename_i b1 b2 b3 b4 b5 b6;exact h22 (of_decide_eq_true b3) (of_decide_eq_true b4) (of_decide_eq_true b5) (of_decide_eq_true b6)) | (simp_all;done) | (simp_all;omega))))
     ·trivial
     ·exact hA.keep (m:=[]) (Y:=[]) rfl
    intro h100
    iterate 3 refine HO_no rfl rfl rfl ?_
    refine HO_pick_f rfl rfl rfl rfl ?_
    refine HO_move rfl rfl rfl ?_
    iterate 3 refine HO_no rfl rfl rfl ?_
    refine HO_pick_f rfl rfl rfl rfl ?_
    refine HO_move rfl rfl rfl ?_
    iterate 3 refine HO_no rfl rfl rfl ?_
    refine HO_pick_f rfl rfl rfl rfl ?_
    refine HO_assign rfl rfl rfl ?_
    refine HO_nil ?_
    refine H_env (ρ':=[(2,_)]) ⟨rfl,trivial⟩ ?_
    refine H_world (kp [nn,nn] [] rfl) ?_
    refine H_ret1 Tryz.results82 (.tmp rfl) (fun w hA => ⟨(),congrArg Ending.returned ?_,?_,?_⟩)
    ·(exact congrArg Value.bool (by first | (simp [Cmd.good,Cmd.part,Cmd.fit,Cmd.eqv,Cmd.base,Cmd.empty,Cmd.pos_iff,Cmd.scanok, *] <;> rfl) | (simp_all [Cmd.good,Cmd.part,Cmd.fit,Cmd.eqv,Cmd.base,Cmd.empty,Cmd.pos_iff,Cmd.scanok] <;> intros <;> first | rfl | omega | (rename_i b1 b2 b3 b4 b5 b6;exact h22 (of_decide_eq_true b3) (of_decide_eq_true b4) (of_decide_eq_true b5) (of_decide_eq_true b6)) | (simp_all;done) | (simp_all;omega))))
    ·trivial
    ·exact hA.keep (m:=[]) (Y:=[]) rfl
   intro h66
   iterate 3 refine HO_no rfl rfl rfl ?_
   refine HO_pick_f rfl rfl rfl rfl ?_
   refine HO_assign rfl rfl rfl ?_
   refine HO_nil ?_
   refine H_env (ρ':=[(4,_),(3,_),(1,_)]) ⟨rfl,rfl,rfl,trivial⟩ ?_
   refine H_blk ?_
   refine H_seq ?_
   refine H_region (l:=[_,_,_,_,_,_,_,_,_,_,_,_,_,_,_,_,_]) rfl ?_
   iterate 2 refine HO_move rfl rfl rfl ?_
   iterate 3 refine HO_no rfl rfl rfl ?_
   refine HO_pick_f rfl rfl rfl rfl ?_
   refine HO_move rfl rfl rfl ?_
   iterate 3 refine HO_no rfl rfl rfl ?_
   refine HO_pick_f rfl rfl rfl rfl ?_
   refine HO_move rfl rfl rfl ?_
   iterate 3 refine HO_no rfl rfl rfl ?_
   refine HO_pick_f rfl rfl rfl rfl ?_
   refine HO_assign rfl rfl rfl ?_
   refine HO_nil ?_
   refine H_env (ρ':=[(2,_)]) ⟨rfl,trivial⟩ ?_
   refine H_world (kp [nn,nn] [] rfl) ?_
   refine H_ret1 Tryz.results82 (.tmp rfl) (fun w hA => ⟨(),congrArg Ending.returned ?_,?_,?_⟩)
   ·(exact congrArg Value.bool (by first | (simp [Cmd.good,Cmd.part,Cmd.fit,Cmd.eqv,Cmd.base,Cmd.empty,Cmd.pos_iff,Cmd.scanok, *] <;> rfl) | (simp_all [Cmd.good,Cmd.part,Cmd.fit,Cmd.eqv,Cmd.base,Cmd.empty,Cmd.pos_iff,Cmd.scanok] <;> intros <;> first | rfl | omega | (rename_i b1 b2 b3 b4 b5 b6;exact h22 (of_decide_eq_true b3) (of_decide_eq_true b4) (of_decide_eq_true b5) (of_decide_eq_true b6)) | (simp_all;done) | (simp_all;omega))))
   ·trivial
   ·exact hA.keep (m:=[]) (Y:=[]) rfl
  intro h61
  iterate 3 refine HO_no rfl rfl rfl ?_
  refine HO_pick_f rfl rfl rfl rfl ?_
  refine HO_move rfl rfl rfl ?_
  iterate 3 refine HO_no rfl rfl rfl ?_
  refine HO_pick_f rfl rfl rfl rfl ?_
  refine HO_assign rfl rfl rfl ?_
  refine HO_nil ?_
  refine H_env (ρ':=[(4,_),(3,_),(1,_)]) ⟨rfl,rfl,rfl,trivial⟩ ?_
  refine H_blk ?_
  refine H_seq ?_
  refine H_region (l:=[_,_,_,_,_,_,_,_,_,_,_,_,_,_,_,_,_]) rfl ?_
  iterate 2 refine HO_move rfl rfl rfl ?_
  iterate 3 refine HO_no rfl rfl rfl ?_
  refine HO_pick_f rfl rfl rfl rfl ?_
  refine HO_move rfl rfl rfl ?_
  iterate 3 refine HO_no rfl rfl rfl ?_
  refine HO_pick_f rfl rfl rfl rfl ?_
  refine HO_move rfl rfl rfl ?_
  iterate 3 refine HO_no rfl rfl rfl ?_
  refine HO_pick_f rfl rfl rfl rfl ?_
  refine HO_assign rfl rfl rfl ?_
  refine HO_nil ?_
  refine H_env (ρ':=[(2,_)]) ⟨rfl,trivial⟩ ?_
  refine H_world (kp [nn,nn] [] rfl) ?_
  refine H_ret1 Tryz.results82 (.tmp rfl) (fun w hA => ⟨(),congrArg Ending.returned ?_,?_,?_⟩)
  ·(exact congrArg Value.bool (by first | (simp [Cmd.good,Cmd.part,Cmd.fit,Cmd.eqv,Cmd.base,Cmd.empty,Cmd.pos_iff,Cmd.scanok, *] <;> rfl) | (simp_all [Cmd.good,Cmd.part,Cmd.fit,Cmd.eqv,Cmd.base,Cmd.empty,Cmd.pos_iff,Cmd.scanok] <;> intros <;> first | rfl | omega | (rename_i b1 b2 b3 b4 b5 b6;exact h22 (of_decide_eq_true b3) (of_decide_eq_true b4) (of_decide_eq_true b5) (of_decide_eq_true b6)) | (simp_all;done) | (simp_all;omega))))
  ·trivial
  ·exact hA.keep (m:=[]) (Y:=[]) rfl
 intro h52
 replace h52:=dF h52
 refine H_seq ?_
 refine H_region (l:=[_,_]) rfl ?_
 refine HO_bin rfl rfl rfl rfl bin_eql ?_
 refine HO_assign rfl rfl rfl ?_
 refine HO_nil ?_
 refine H_env (ρ':=[(71,_),(3,_),(1,_)]) ⟨rfl,rfl,rfl,trivial⟩ ?_
 refine H_cond rfl ?_ ?_
 ·intro h71
  replace h71:=dT h71
  refine H_seq ?_
  refine H_drawB (m:=[nn,yy]) (Xs:=[_]) (fuel:=8) (l:=#[false,false,false,false,false,false,false,false]) mixed rfl rfl rfl ?_
  refine HA_take (i:=0) bp rfl rfl rfl rfl (by kernel_rfl) rfl (V_fieldAddr (r:=6) rfl Tryz.underlying68 rfl Tryz.sizeOf9 rfl) (kp [nn,yy] [_] rfl) ?_
  refine HA_take (i:=1) bp rfl rfl rfl rfl (by kernel_rfl) rfl (V_load1 (i:=0) (j:=6) rfl Tryz.isAgg9 rfl (.loc _ _ _) rfl rfl) (kp [nn,yy] [_] rfl) ?_
  refine HA_take (i:=2) bp rfl rfl rfl rfl (by kernel_rfl) rfl (V_fieldAddr (r:=7) rfl Tryz.underlying68 rfl Tryz.sizeOf3 rfl) (kp [nn,yy] [_] rfl) ?_
  refine HA_take (i:=3) bp rfl rfl rfl rfl (by kernel_rfl) rfl (V_load1 (i:=0) (j:=7) rfl Tryz.isAgg3 rfl (.loc _ _ _) rfl rfl) (kp [nn,yy] [_] rfl) ?_
  refine HA_take (i:=4) bp rfl rfl rfl rfl (by kernel_rfl) rfl (V_fieldAddr (r:=6) rfl Tryz.underlying68 rfl Tryz.sizeOf9 rfl) (kp [nn,yy] [_] rfl) ?_
  refine HA_loud1 (i:=5) (by kernel_rfl) rfl ?_
  refine HO_store (i:=0) (j:=0) (us:=[_,_,_,_,_,_]) (old:=[_]) (ts:=[_]) (cs:=[_]) (R:=[_]) (new:=[_,_,_,_,_,_,_,_]) rfl rfl rfl Tryz.sizeOf9 rfl (by simp [Value.oneCell']) rfl rfl rfl rfl rfl rfl ?_
  refine HA_back rfl (kp [nn,yy] [_] rfl) ?_
  refine HA_take (i:=6) bp rfl rfl rfl rfl (by kernel_rfl) rfl (V_fieldAddr (r:=7) rfl Tryz.underlying68 rfl Tryz.sizeOf3 rfl) (kp [nn,yy] [_] rfl) ?_
  refine HA_loud1 (i:=7) (by kernel_rfl) rfl ?_
  refine HO_store (i:=0) (j:=0) (us:=[_,_,_,_,_,_,_]) (old:=[_]) (ts:=[]) (cs:=[_]) (R:=[_]) (new:=[_,_,_,_,_,_,_,_]) rfl rfl rfl Tryz.sizeOf3 rfl (by simp [Value.oneCell']) rfl rfl rfl rfl rfl rfl ?_
  refine HA_back rfl (kp [nn,yy] [_] rfl) ?_
  refine HA_done (by kernel_rfl) ?_
  refine H_env (ρ':=[(3,_),(1,_)]) ⟨rfl,rfl,trivial⟩ ?_
  refine H_region (l:=[_,_,_,_,_,_,_,_,_,_,_,_,_,_,_,_,_,_,_,_,_]) rfl ?_
  refine HO_fieldAddr (r:=3) rfl rfl rfl Tryz.underlying68 rfl Tryz.sizeOf9 rfl ?_
  refine HO_load1 (i:=1) (j:=3) rfl rfl rfl Tryz.isAgg9 rfl (.loc _ _ _) rfl rfl ?_
  refine HO_bi rfl rfl rfl (bi_len_str Tryz.underlying9) ?_
  refine HO_bin rfl rfl rfl rfl bin_leq ?_
  refine HO_move rfl rfl rfl ?_
  refine HO_split (d:=83) rfl ?_ ?_
  ·intro h83
   replace h83:=dT h83
   refine HO_fieldAddr (r:=6) rfl rfl rfl Tryz.underlying68 rfl Tryz.sizeOf9 rfl ?_
   refine HO_load1 (i:=1) (j:=6) rfl rfl rfl Tryz.isAgg9 rfl (.loc _ _ _) rfl rfl ?_
   refine HO_bi rfl rfl rfl (bi_len_str Tryz.underlying9) ?_
   refine HO_bin rfl rfl rfl rfl bin_leq ?_
   refine HO_pick_t rfl rfl rfl rfl ?_
   refine HO_move rfl rfl rfl ?_
   refine HO_split (d:=89) rfl ?_ ?_
   ·intro h89
    replace h89:=dT h89
    refine HO_fieldAddr (r:=7) rfl rfl rfl Tryz.underlying68 rfl Tryz.sizeOf3 rfl ?_
    refine HO_load1 (i:=1) (j:=7) rfl rfl rfl Tryz.isAgg3 rfl (.loc _ _ _) rfl rfl ?_
    refine HO_bin rfl rfl rfl rfl bin_geq ?_
    refine HO_pick_t rfl rfl rfl rfl ?_
    refine HO_move rfl rfl rfl ?_
    refine HO_split (d:=94) rfl ?_ ?_
    ·intro h94
     replace h94:=dT h94
     refine HO_fieldAddr (r:=7) rfl rfl rfl Tryz.underlying68 rfl Tryz.sizeOf3 rfl ?_
     refine HO_load1 (i:=1) (j:=7) rfl rfl rfl Tryz.isAgg3 rfl (.loc _ _ _) rfl rfl ?_
     refine HO_bin rfl rfl rfl rfl bin_leq ?_
     refine HO_pick_t rfl rfl rfl rfl ?_
     refine HO_assign rfl rfl rfl ?_
     refine HO_nil ?_
     refine H_env (ρ':=[(4,_),(3,_),(1,_)]) ⟨rfl,rfl,rfl,trivial⟩ ?_
     refine H_blk ?_
     refine H_seq ?_
     refine H_region (l:=[_,_,_,_,_,_,_,_,_,_,_,_,_,_,_,_,_]) rfl ?_
     iterate 2 refine HO_move rfl rfl rfl ?_
     refine HO_split (d:=100) rfl ?_ ?_
     ·intro h100
      replace h100:=dT h100
      refine HO_loadA (i:=1) (us:=[]) (cs:=[_,_,_,_,_,_,_,_]) (ts:=[]) rfl rfl rfl Tryz.isAgg68 Tryz.sizeOf68 rfl (.loc _ _ _) rfl rfl rfl rfl ?_
      refine HO_loadA (i:=0) (us:=[]) (cs:=[_,_,_,_,_,_,_,_]) (ts:=[]) rfl rfl rfl Tryz.isAgg68 Tryz.sizeOf68 rfl (.loc _ _ _) rfl rfl rfl rfl ?_
      refine HO_bin rfl rfl rfl rfl eq68_eql ?_
      refine HO_pick_t rfl rfl rfl rfl ?_
      refine HO_move rfl rfl rfl ?_
      refine HO_split (d:=105) rfl ?_ ?_
      ·intro h105
       (try simp only [decide_eq_true_eq,decide_eq_false_iff_not,Bool.not_eq_true',Bool.not_eq_false',Bool.not_eq_true,Bool.not_eq_false,Bool.true_eq_false,Bool.false_eq_true,not_false_eq_true,not_true_eq_false] at h105)
       refine HO_fieldAddr (r:=1) rfl rfl rfl Tryz.underlying68 rfl Tryz.sizeOf3 rfl ?_
       refine HO_load1 (i:=1) (j:=1) rfl rfl rfl Tryz.isAgg3 rfl (.loc _ _ _) rfl rfl ?_
       refine HO_bin rfl rfl rfl rfl bin_geq ?_
       refine HO_pick_t rfl rfl rfl rfl ?_
       refine HO_move rfl rfl rfl ?_
       refine HO_split (d:=110) rfl ?_ ?_
       ·intro h110
        replace h110:=dT h110
        refine HO_fieldAddr (r:=2) rfl rfl rfl Tryz.underlying68 rfl Tryz.sizeOf3 rfl ?_
        refine HO_load1 (i:=1) (j:=2) rfl rfl rfl Tryz.isAgg3 rfl (.loc _ _ _) rfl rfl ?_
        refine HO_bin rfl rfl rfl rfl bin_geq ?_
        refine HO_pick_t rfl rfl rfl rfl ?_
        refine HO_assign rfl rfl rfl ?_
        refine HO_nil ?_
        refine H_env (ρ':=[(2,_)]) ⟨rfl,trivial⟩ ?_
        refine H_world (kp [nn,nn] [] rfl) ?_
        refine H_ret1 Tryz.results82 (.tmp rfl) (fun w hA => ⟨(),congrArg Ending.returned ?_,?_,?_⟩)
        ·(exact congrArg Value.bool (by first | (simp [Cmd.good,Cmd.part,Cmd.fit,Cmd.eqv,Cmd.base,Cmd.empty,Cmd.pos_iff,Cmd.scanok, *] <;> rfl) | (simp_all [Cmd.good,Cmd.part,Cmd.fit,Cmd.eqv,Cmd.base,Cmd.empty,Cmd.pos_iff,Cmd.scanok] <;> intros <;> first | rfl | omega | (rename_i b1 b2 b3 b4 b5 b6;exact h22 (of_decide_eq_true b3) (of_decide_eq_true b4) (of_decide_eq_true b5) (of_decide_eq_true b6)) | (simp_all;done) | (simp_all;omega))))
        ·trivial
        ·exact hA.keep (m:=[]) (Y:=[]) rfl
       intro h110
       replace h110:=dF h110
       iterate 3 refine HO_no rfl rfl rfl ?_
       refine HO_pick_f rfl rfl rfl rfl ?_
       refine HO_assign rfl rfl rfl ?_
       refine HO_nil ?_
       refine H_env (ρ':=[(2,_)]) ⟨rfl,trivial⟩ ?_
       refine H_world (kp [nn,nn] [] rfl) ?_
       refine H_ret1 Tryz.results82 (.tmp rfl) (fun w hA => ⟨(),congrArg Ending.returned ?_,?_,?_⟩)
       ·(exact congrArg Value.bool (by first | (simp [Cmd.good,Cmd.part,Cmd.fit,Cmd.eqv,Cmd.base,Cmd.empty,Cmd.pos_iff,Cmd.scanok, *] <;> rfl) | (simp_all [Cmd.good,Cmd.part,Cmd.fit,Cmd.eqv,Cmd.base,Cmd.empty,Cmd.pos_iff,Cmd.scanok] <;> intros <;> first | rfl | omega | (rename_i b1 b2 b3 b4 b5 b6;exact h22 (of_decide_eq_true b3) (of_decide_eq_true b4) (of_decide_eq_true b5) (of_decide_eq_true b6)) | (simp_all;done) | (simp_all;omega))))
       ·trivial
       ·exact hA.keep (m:=[]) (Y:=[]) rfl
      intro h105
      (try simp only [decide_eq_true_eq,decide_eq_false_iff_not,Bool.not_eq_true',Bool.not_eq_false',Bool.not_eq_true,Bool.not_eq_false,Bool.true_eq_false,Bool.false_eq_true,not_false_eq_true,not_true_eq_false] at h105)
      iterate 3 refine HO_no rfl rfl rfl ?_
      refine HO_pick_f rfl rfl rfl rfl ?_
      refine HO_move rfl rfl rfl ?_
      iterate 3 refine HO_no rfl rfl rfl ?_
      refine HO_pick_f rfl rfl rfl rfl ?_
      refine HO_assign rfl rfl rfl ?_
      refine HO_nil ?_
      refine H_env (ρ':=[(2,_)]) ⟨rfl,trivial⟩ ?_
      refine H_world (kp [nn,nn] [] rfl) ?_
      refine H_ret1 Tryz.results82 (.tmp rfl) (fun w hA => ⟨(),congrArg Ending.returned ?_,?_,?_⟩)
      ·(exact congrArg Value.bool (by first | (simp [Cmd.good,Cmd.part,Cmd.fit,Cmd.eqv,Cmd.base,Cmd.empty,Cmd.pos_iff,Cmd.scanok, *] <;> rfl) | (simp_all [Cmd.good,Cmd.part,Cmd.fit,Cmd.eqv,Cmd.base,Cmd.empty,Cmd.pos_iff,Cmd.scanok] <;> intros <;> first | rfl | omega | (rename_i b1 b2 b3 b4 b5 b6;exact h22 (of_decide_eq_true b3) (of_decide_eq_true b4) (of_decide_eq_true b5) (of_decide_eq_true b6)) | (simp_all;done) | (simp_all;omega))))
      ·trivial
      ·exact hA.keep (m:=[]) (Y:=[]) rfl
     intro h100
     replace h100:=dF h100
     iterate 3 refine HO_no rfl rfl rfl ?_
     refine HO_pick_f rfl rfl rfl rfl ?_
     refine HO_move rfl rfl rfl ?_
     iterate 3 refine HO_no rfl rfl rfl ?_
     refine HO_pick_f rfl rfl rfl rfl ?_
     refine HO_move rfl rfl rfl ?_
     iterate 3 refine HO_no rfl rfl rfl ?_
     refine HO_pick_f rfl rfl rfl rfl ?_
     refine HO_assign rfl rfl rfl ?_
     refine HO_nil ?_
     refine H_env (ρ':=[(2,_)]) ⟨rfl,trivial⟩ ?_
     refine H_world (kp [nn,nn] [] rfl) ?_
     refine H_ret1 Tryz.results82 (.tmp rfl) (fun w hA => ⟨(),congrArg Ending.returned ?_,?_,?_⟩)
     ·(exact congrArg Value.bool (by first | (simp [Cmd.good,Cmd.part,Cmd.fit,Cmd.eqv,Cmd.base,Cmd.empty,Cmd.pos_iff,Cmd.scanok, *] <;> rfl) | (simp_all [Cmd.good,Cmd.part,Cmd.fit,Cmd.eqv,Cmd.base,Cmd.empty,Cmd.pos_iff,Cmd.scanok] <;> intros <;> first | rfl | omega | (rename_i b1 b2 b3 b4 b5 b6;exact h22 (of_decide_eq_true b3) (of_decide_eq_true b4) (of_decide_eq_true b5) (of_decide_eq_true b6)) | (simp_all;done) | (simp_all;omega))))
     ·trivial
     ·exact hA.keep (m:=[]) (Y:=[]) rfl
    intro h94
    replace h94:=dF h94
    iterate 3 refine HO_no rfl rfl rfl ?_
    refine HO_pick_f rfl rfl rfl rfl ?_
    refine HO_assign rfl rfl rfl ?_
    refine HO_nil ?_
    refine H_env (ρ':=[(4,_),(3,_),(1,_)]) ⟨rfl,rfl,rfl,trivial⟩ ?_
    refine H_blk ?_
    refine H_seq ?_
    refine H_region (l:=[_,_,_,_,_,_,_,_,_,_,_,_,_,_,_,_,_]) rfl ?_
    iterate 2 refine HO_move rfl rfl rfl ?_
    iterate 3 refine HO_no rfl rfl rfl ?_
    refine HO_pick_f rfl rfl rfl rfl ?_
    refine HO_move rfl rfl rfl ?_
    iterate 3 refine HO_no rfl rfl rfl ?_
    refine HO_pick_f rfl rfl rfl rfl ?_
    refine HO_move rfl rfl rfl ?_
    iterate 3 refine HO_no rfl rfl rfl ?_
    refine HO_pick_f rfl rfl rfl rfl ?_
    refine HO_assign rfl rfl rfl ?_
    refine HO_nil ?_
    refine H_env (ρ':=[(2,_)]) ⟨rfl,trivial⟩ ?_
    refine H_world (kp [nn,nn] [] rfl) ?_
    refine H_ret1 Tryz.results82 (.tmp rfl) (fun w hA => ⟨(),congrArg Ending.returned ?_,?_,?_⟩)
    ·(exact congrArg Value.bool (by first | (simp [Cmd.good,Cmd.part,Cmd.fit,Cmd.eqv,Cmd.base,Cmd.empty,Cmd.pos_iff,Cmd.scanok, *] <;> rfl) | (simp_all [Cmd.good,Cmd.part,Cmd.fit,Cmd.eqv,Cmd.base,Cmd.empty,Cmd.pos_iff,Cmd.scanok] <;> intros <;> first | rfl | omega | (rename_i b1 b2 b3 b4 b5 b6;exact h22 (of_decide_eq_true b3) (of_decide_eq_true b4) (of_decide_eq_true b5) (of_decide_eq_true b6)) | (simp_all;done) | (simp_all;omega))))
    ·trivial
    ·exact hA.keep (m:=[]) (Y:=[]) rfl
   intro h89
   replace h89:=dF h89
   iterate 3 refine HO_no rfl rfl rfl ?_
   refine HO_pick_f rfl rfl rfl rfl ?_
   refine HO_move rfl rfl rfl ?_
   iterate 3 refine HO_no rfl rfl rfl ?_
   refine HO_pick_f rfl rfl rfl rfl ?_
   refine HO_assign rfl rfl rfl ?_
   refine HO_nil ?_
   refine H_env (ρ':=[(4,_),(3,_),(1,_)]) ⟨rfl,rfl,rfl,trivial⟩ ?_
   refine H_blk ?_
   refine H_seq ?_
   refine H_region (l:=[_,_,_,_,_,_,_,_,_,_,_,_,_,_,_,_,_]) rfl ?_
   iterate 2 refine HO_move rfl rfl rfl ?_
   iterate 3 refine HO_no rfl rfl rfl ?_
   refine HO_pick_f rfl rfl rfl rfl ?_
   refine HO_move rfl rfl rfl ?_
   iterate 3 refine HO_no rfl rfl rfl ?_
   refine HO_pick_f rfl rfl rfl rfl ?_
   refine HO_move rfl rfl rfl ?_
   iterate 3 refine HO_no rfl rfl rfl ?_
   refine HO_pick_f rfl rfl rfl rfl ?_
   refine HO_assign rfl rfl rfl ?_
   refine HO_nil ?_
   refine H_env (ρ':=[(2,_)]) ⟨rfl,trivial⟩ ?_
   refine H_world (kp [nn,nn] [] rfl) ?_
   refine H_ret1 Tryz.results82 (.tmp rfl) (fun w hA => ⟨(),congrArg Ending.returned ?_,?_,?_⟩)
   ·(exact congrArg Value.bool (by first | (simp [Cmd.good,Cmd.part,Cmd.fit,Cmd.eqv,Cmd.base,Cmd.empty,Cmd.pos_iff,Cmd.scanok, *] <;> rfl) | (simp_all [Cmd.good,Cmd.part,Cmd.fit,Cmd.eqv,Cmd.base,Cmd.empty,Cmd.pos_iff,Cmd.scanok] <;> intros <;> first | rfl | omega | (rename_i b1 b2 b3 b4 b5 b6;exact h22 (of_decide_eq_true b3) (of_decide_eq_true b4) (of_decide_eq_true b5) (of_decide_eq_true b6)) | (simp_all;done) | (simp_all;omega))))
   ·trivial
   ·exact hA.keep (m:=[]) (Y:=[]) rfl
  intro h83
  replace h83:=dF h83
  iterate 4 refine HO_no rfl rfl rfl ?_
  refine HO_pick_f rfl rfl rfl rfl ?_
  refine HO_move rfl rfl rfl ?_
  iterate 3 refine HO_no rfl rfl rfl ?_
  refine HO_pick_f rfl rfl rfl rfl ?_
  refine HO_move rfl rfl rfl ?_
  iterate 3 refine HO_no rfl rfl rfl ?_
  refine HO_pick_f rfl rfl rfl rfl ?_
  refine HO_assign rfl rfl rfl ?_
  refine HO_nil ?_
  refine H_env (ρ':=[(4,_),(3,_),(1,_)]) ⟨rfl,rfl,rfl,trivial⟩ ?_
  refine H_blk ?_
  refine H_seq ?_
  refine H_region (l:=[_,_,_,_,_,_,_,_,_,_,_,_,_,_,_,_,_]) rfl ?_
  iterate 2 refine HO_move rfl rfl rfl ?_
  iterate 3 refine HO_no rfl rfl rfl ?_
  refine HO_pick_f rfl rfl rfl rfl ?_
  refine HO_move rfl rfl rfl ?_
  iterate 3 refine HO_no rfl rfl rfl ?_
  refine HO_pick_f rfl rfl rfl rfl ?_
  refine HO_move rfl rfl rfl ?_
  iterate 3 refine HO_no rfl rfl rfl ?_
  refine HO_pick_f rfl rfl rfl rfl ?_
  refine HO_assign rfl rfl rfl ?_
  refine HO_nil ?_
  refine H_env (ρ':=[(2,_)]) ⟨rfl,trivial⟩ ?_
  refine H_world (kp [nn,nn] [] rfl) ?_
  refine H_ret1 Tryz.results82 (.tmp rfl) (fun w hA => ⟨(),congrArg Ending.returned ?_,?_,?_⟩)
  ·(exact congrArg Value.bool (by first | (simp [Cmd.good,Cmd.part,Cmd.fit,Cmd.eqv,Cmd.base,Cmd.empty,Cmd.pos_iff,Cmd.scanok, *] <;> rfl) | (simp_all [Cmd.good,Cmd.part,Cmd.fit,Cmd.eqv,Cmd.base,Cmd.empty,Cmd.pos_iff,Cmd.scanok] <;> intros <;> first | rfl | omega | (rename_i b1 b2 b3 b4 b5 b6;exact h22 (of_decide_eq_true b3) (of_decide_eq_true b4) (of_decide_eq_true b5) (of_decide_eq_true b6)) | (simp_all;done) | (simp_all;omega))))
  ·trivial
  ·exact hA.keep (m:=[]) (Y:=[]) rfl
 intro h71
 replace h71:=dF h71
 refine H_seq ?_
 refine H_region (l:=[_]) rfl ?_
 refine HO_assign rfl rfl rfl ?_
 refine HO_nil ?_
 refine H_env (ρ':=[(2,_)]) ⟨rfl,trivial⟩ ?_
 refine H_world (kp [nn,nn] [] rfl) ?_
 refine H_ret1 Tryz.results82 (.tmp rfl) (fun w hA => ⟨(),congrArg Ending.returned ?_,?_,?_⟩)
 ·(exact congrArg Value.bool (by first | (simp [Cmd.good,Cmd.part,Cmd.fit,Cmd.eqv,Cmd.base,Cmd.empty,Cmd.pos_iff,Cmd.scanok, *] <;> rfl) | (simp_all [Cmd.good,Cmd.part,Cmd.fit,Cmd.eqv,Cmd.base,Cmd.empty,Cmd.pos_iff,Cmd.scanok] <;> intros <;> first | rfl | omega | (rename_i b1 b2 b3 b4 b5 b6;exact h22 (of_decide_eq_true b3) (of_decide_eq_true b4) (of_decide_eq_true b5) (of_decide_eq_true b6)) | (simp_all;done) | (simp_all;omega))))
 ·trivial
 ·exact hA.keep (m:=[]) (Y:=[]) rfl
end Go.Wk
