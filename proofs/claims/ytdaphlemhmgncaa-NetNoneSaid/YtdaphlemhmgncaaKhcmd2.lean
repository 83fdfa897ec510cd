/- Contracts of the program's functions, each proved by walking its code. -/
import Derived.Test.YtdaphlemhmgncaaKhcmd1
import Derived.Test.YtdaphlemhmgncaaCmd
import Derived.Test.YtdaphlemhmgncaaWk17
import Derived.Test.YtdaphlemhmgncaaKhcodec3
set_option maxRecDepth 100000
set_option linter.unusedVariables false
set_option linter.unusedSimpArgs false
namespace Go.Wk.Fcmd2
open Go Go.RowKit Go.Proofs Go.Wk
theorem bd120_0_1_2_3_iiii {x1 : Int} {x2 : Int} {x3 : Int} {x4 : Int} : ∀ w,(Instr.build 120 (List.toArray (List.zip [0,1,2,3] [.int .i64 x1,.int .i64 x2,.int .i64 x3,.int .i64 x4]))).run Try.prog w = .ok (.agg #[.int .i64 x1,.int .i64 x2,.int .i64 x3,.int .i64 x4]) w:=fun _ => by kernel_rfl
theorem bd121_0_1_2_3_tttt {x1 : ByteArray} {x2 : ByteArray} {x3 : ByteArray} {x4 : ByteArray} : ∀ w,(Instr.build 121 (List.toArray (List.zip [0,1,2,3] [.string x1,.string x2,.string x3,.string x4]))).run Try.prog w = .ok (.agg #[.string x1,.string x2,.string x3,.string x4]) w:=fun _ => by kernel_rfl
end Go.Wk.Fcmd2
namespace Go.Wk
open Go Go.RowKit Go.Proofs Fcmd2 
theorem bytes_spec (ki se sq : Int) (ke ol va ti : ByteArray) (li : Int) (hs : ke.size + ol.size + va.size + ti.size≤100000) : Spec Try.prog 60 #[.agg #[.int .i64 (ki),.int .i64 (se),.int .i64 (sq),.string (ke),.string (ol),.string (va),.string (ti),.int .i64 (li)]] [] (β:=Option Addr × Nat) (fun y => .slice y.1 ((Cmd.bytes ⟨ki,se,sq,ke,ol,va,ti,li⟩).length) y.2) (fun y => True) (fun y => [.own 5 kByte y.1 y.2 (Cmd.bytes ⟨ki,se,sq,ke,ol,va,ti,li⟩)]):=by
 have e0:=Cod.enc_le9 (Cod.zig ki)
 have e1:=Cod.enc_le9 (Cod.zig se)
 have e2:=Cod.enc_le9 (Cod.zig sq)
 have e3:=Cod.enc_le9 (Cod.zig li)
 have u0:=Cod.enc_le9 ke.size
 have u1:=Cod.enc_le9 ol.size
 have u2:=Cod.enc_le9 va.size
 have u3:=Cod.enc_le9 ti.size
 have v0 : ke.data.toList.length = ke.size:=Array.length_toList
 have v1 : ol.data.toList.length = ol.size:=Array.length_toList
 have v2 : va.data.toList.length = va.size:=Array.length_toList
 have v3 : ti.data.toList.length = ti.size:=Array.length_toList
 refine Spec.enter (vs:=[_]) Try.func60 rfl Try.ntmps60 rfl (Nat.le_of_ble_eq_true rfl) (fun w0 ok0 => ?_)
 generalize hM0 : blks _ = M0
 have hMn:=@noM _ _ hM0 (by simp [Atom.dat,Atom.elem])
 refine H_seq ?_
 refine H_region (l:=[_,_]) rfl ?_
 refine HO_box (cs:=[_,_,_,_,_,_,_,_]) rfl rfl rfl rfl ?_
 intro g1
 refine HO_assign rfl rfl rfl ?_
 refine HO_nil ?_
 refine H_env (ρ':=[(1,_)]) ⟨rfl,trivial⟩ ?_
 refine H_seq ?_
 refine H_region (l:=[_]) rfl ?_
 refine HO_assign rfl rfl rfl ?_
 refine HO_nil ?_
 refine H_seq ?_
 refine H_seq ?_
 refine H_region (l:=[_,_,_,_,_,_,_,_,_,_]) rfl ?_
 refine HO_fieldAddr (r:=0) rfl rfl rfl Try.underlying72 rfl Try.sizeOf3 rfl ?_
 refine HO_load1 (i:=0) (j:=0) rfl rfl rfl Try.isAgg3 rfl (.loc _ _ _) rfl rfl ?_
 refine HO_fieldAddr (r:=1) rfl rfl rfl Try.underlying72 rfl Try.sizeOf3 rfl ?_
 refine HO_load1 (i:=0) (j:=1) rfl rfl rfl Try.isAgg3 rfl (.loc _ _ _) rfl rfl ?_
 refine HO_fieldAddr (r:=2) rfl rfl rfl Try.underlying72 rfl Try.sizeOf3 rfl ?_
 refine HO_load1 (i:=0) (j:=2) rfl rfl rfl Try.isAgg3 rfl (.loc _ _ _) rfl rfl ?_
 refine HO_fieldAddr (r:=7) rfl rfl rfl Try.underlying72 rfl Try.sizeOf3 rfl ?_
 refine HO_load1 (i:=0) (j:=7) rfl rfl rfl Try.isAgg3 rfl (.loc _ _ _) rfl rfl ?_
 refine HO_build (xo:=[(0,_),(1,_),(2,_),(3,_)]) (vs:=[_,_,_,_]) rfl rfl rfl rfl (bd120_0_1_2_3_iiii) ?_
 refine HO_move rfl rfl rfl ?_
 refine HO_nil ?_
 refine H_env (ρ':=[(17,_),(16,_),(3,_),(1,_)]) ⟨rfl,rfl,rfl,rfl,trivial⟩ ?_
 refine H_block ?_
 refine H_rounds 5 ?_
 refine H_rnd ?_
 refine H_seq ?_
 refine H_region (l:=[_]) rfl ?_
 refine HO_bin rfl rfl rfl rfl (bin_lit (by decide) (fun _ => rfl)) ?_
 refine HO_nil ?_
 refine H_seq ?_
 refine H_cond rfl (fun _ => ?_) (fun h => nomatch h)
 refine H_skip ?_
 refine H_seq ?_
 refine H_block ?_
 refine H_seq ?_
 refine H_region (l:=[_,_]) rfl ?_
 refine HO_indexV (j:=0) (cs:=[_,_,_,_]) rfl rfl rfl rfl Try.underlying120 Try.isAgg3 Try.sizeOf3 rfl (by decide) rfl ?_
 refine HO_assign rfl rfl rfl ?_
 refine HO_nil ?_
 refine H_env (ρ':=[(5,_),(17,_),(16,_),(3,_),(1,_)]) ⟨rfl,rfl,rfl,rfl,rfl,trivial⟩ ?_
 refine H_region (l:=[_,_,_,_,_]) rfl ?_
 iterate 2 refine HO_move rfl rfl rfl ?_
 refine HO_call (first:=[]) (capt:=[]) (is:=[]) (R:=[_]) rfl rfl rfl rfl rfl Try.call58 rfl (zig_spec _) ?_
 intro y22 hy22
 clear y22 hy22
 refine HO_nilDat kByte ?_
 refine HO_dup (i:=0) rfl rfl ?_
 refine HO_call (first:=[]) (capt:=[]) (is:=[0]) (R:=[_,_]) rfl rfl rfl rfl rfl Try.call57 rfl (Put_spec _ _ _ _ ?_ ?_) ?_
 ·(exact Cod.zig_lt _)
 ·(simp only [List.length_append,List.length_nil];omega)
 intro y23 hy23
 refine HO_assign rfl rfl rfl ?_
 refine HO_nil ?_
 refine H_env (ρ':=[(3,_),(17,_),(16,_),(1,_)]) ⟨rfl,rfl,rfl,rfl,trivial⟩ ?_
 refine H_world (kp [yy,nn,yy] [_,_] rfl) ?_
 refine H_blk ?_
 refine H_region (l:=[_,_]) rfl ?_
 refine HO_bin (r:=.int .i64 (1)) rfl rfl rfl rfl (bin_lit (by decide) (fun _ => rfl)) ?_
 refine HO_move rfl rfl rfl ?_
 refine HO_nil ?_
 refine H_env (ρ':=[(17,_),(3,_),(16,_),(1,_)]) ⟨rfl,rfl,rfl,rfl,trivial⟩ ?_
 refine H_rnd ?_
 refine H_seq ?_
 refine H_region (l:=[_]) rfl ?_
 refine HO_bin rfl rfl rfl rfl (bin_lit (by decide) (fun _ => rfl)) ?_
 refine HO_nil ?_
 refine H_seq ?_
 refine H_cond rfl (fun _ => ?_) (fun h => nomatch h)
 refine H_skip ?_
 refine H_seq ?_
 refine H_block ?_
 refine H_seq ?_
 refine H_region (l:=[_,_]) rfl ?_
 refine HO_indexV (j:=1) (cs:=[_,_,_,_]) rfl rfl rfl rfl Try.underlying120 Try.isAgg3 Try.sizeOf3 rfl (by decide) rfl ?_
 refine HO_assign rfl rfl rfl ?_
 refine HO_nil ?_
 refine H_env (ρ':=[(5,_),(17,_),(3,_),(16,_),(1,_)]) ⟨rfl,rfl,rfl,rfl,rfl,trivial⟩ ?_
 refine H_region (l:=[_,_,_,_,_]) rfl ?_
 iterate 2 refine HO_move rfl rfl rfl ?_
 refine HO_call (first:=[]) (capt:=[]) (is:=[]) (R:=[_,_]) rfl rfl rfl rfl rfl Try.call58 rfl (zig_spec _) ?_
 intro y22 hy22
 clear y22 hy22
 refine HO_call (first:=[]) (capt:=[]) (is:=[0]) (R:=[_]) rfl rfl rfl rfl rfl Try.call57 rfl (Spec.lend (pre1:=[]) (pre2:=[]) (Put_spec _ _ _ _ ?_ ?_) rfl (by intro y at' ha;obtain rfl:=List.mem_singleton.1 ha;first | exact Atom.Flat.own kByte_plain _ _ _ _ | exact Atom.Flat.own kInt_plain _ _ _ _ | exact Atom.Flat.own kStr_plain _ _ _ _ | exact Atom.Flat.loc _ _ _)) ?_
 ·(exact Cod.zig_lt _)
 ·(simp only [List.length_append,List.length_nil];omega)
 intro y23 hy23
 refine HO_assign rfl rfl rfl ?_
 refine HO_nil ?_
 refine H_env (ρ':=[(3,_),(17,_),(16,_),(1,_)]) ⟨rfl,rfl,rfl,rfl,trivial⟩ ?_
 refine H_world (kp [nn,yy,yy] [_,_] rfl) ?_
 refine H_blk ?_
 refine H_region (l:=[_,_]) rfl ?_
 refine HO_bin (r:=.int .i64 (2)) rfl rfl rfl rfl (bin_lit (by decide) (fun _ => rfl)) ?_
 refine HO_move rfl rfl rfl ?_
 refine HO_nil ?_
 refine H_env (ρ':=[(17,_),(3,_),(16,_),(1,_)]) ⟨rfl,rfl,rfl,rfl,trivial⟩ ?_
 refine H_rnd ?_
 refine H_seq ?_
 refine H_region (l:=[_]) rfl ?_
 refine HO_bin rfl rfl rfl rfl (bin_lit (by decide) (fun _ => rfl)) ?_
 refine HO_nil ?_
 refine H_seq ?_
 refine H_cond rfl (fun _ => ?_) (fun h => nomatch h)
 refine H_skip ?_
 refine H_seq ?_
 refine H_block ?_
 refine H_seq ?_
 refine H_region (l:=[_,_]) rfl ?_
 refine HO_indexV (j:=2) (cs:=[_,_,_,_]) rfl rfl rfl rfl Try.underlying120 Try.isAgg3 Try.sizeOf3 rfl (by decide) rfl ?_
 refine HO_assign rfl rfl rfl ?_
 refine HO_nil ?_
 refine H_env (ρ':=[(5,_),(17,_),(3,_),(16,_),(1,_)]) ⟨rfl,rfl,rfl,rfl,rfl,trivial⟩ ?_
 refine H_region (l:=[_,_,_,_,_]) rfl ?_
 iterate 2 refine HO_move rfl rfl rfl ?_
 refine HO_call (first:=[]) (capt:=[]) (is:=[]) (R:=[_,_]) rfl rfl rfl rfl rfl Try.call58 rfl (zig_spec _) ?_
 intro y22 hy22
 clear y22 hy22
 refine HO_call (first:=[]) (capt:=[]) (is:=[0]) (R:=[_]) rfl rfl rfl rfl rfl Try.call57 rfl (Spec.lend (pre1:=[]) (pre2:=[]) (Put_spec _ _ _ _ ?_ ?_) rfl (by intro y at' ha;obtain rfl:=List.mem_singleton.1 ha;first | exact Atom.Flat.own kByte_plain _ _ _ _ | exact Atom.Flat.own kInt_plain _ _ _ _ | exact Atom.Flat.own kStr_plain _ _ _ _ | exact Atom.Flat.loc _ _ _)) ?_
 ·(exact Cod.zig_lt _)
 ·(simp only [List.length_append,List.length_nil];omega)
 intro y23 hy23
 refine HO_assign rfl rfl rfl ?_
 refine HO_nil ?_
 refine H_env (ρ':=[(3,_),(17,_),(16,_),(1,_)]) ⟨rfl,rfl,rfl,rfl,trivial⟩ ?_
 refine H_world (kp [nn,yy,yy] [_,_] rfl) ?_
 refine H_blk ?_
 refine H_region (l:=[_,_]) rfl ?_
 refine HO_bin (r:=.int .i64 (3)) rfl rfl rfl rfl (bin_lit (by decide) (fun _ => rfl)) ?_
 refine HO_move rfl rfl rfl ?_
 refine HO_nil ?_
 refine H_env (ρ':=[(17,_),(3,_),(16,_),(1,_)]) ⟨rfl,rfl,rfl,rfl,trivial⟩ ?_
 refine H_rnd ?_
 refine H_seq ?_
 refine H_region (l:=[_]) rfl ?_
 refine HO_bin rfl rfl rfl rfl (bin_lit (by decide) (fun _ => rfl)) ?_
 refine HO_nil ?_
 refine H_seq ?_
 refine H_cond rfl (fun _ => ?_) (fun h => nomatch h)
 refine H_skip ?_
 refine H_seq ?_
 refine H_block ?_
 refine H_seq ?_
 refine H_region (l:=[_,_]) rfl ?_
 refine HO_indexV (j:=3) (cs:=[_,_,_,_]) rfl rfl rfl rfl Try.underlying120 Try.isAgg3 Try.sizeOf3 rfl (by decide) rfl ?_
 refine HO_assign rfl rfl rfl ?_
 refine HO_nil ?_
 refine H_env (ρ':=[(5,_),(17,_),(3,_),(16,_),(1,_)]) ⟨rfl,rfl,rfl,rfl,rfl,trivial⟩ ?_
 refine H_region (l:=[_,_,_,_,_]) rfl ?_
 iterate 2 refine HO_move rfl rfl rfl ?_
 refine HO_call (first:=[]) (capt:=[]) (is:=[]) (R:=[_,_]) rfl rfl rfl rfl rfl Try.call58 rfl (zig_spec _) ?_
 intro y22 hy22
 clear y22 hy22
 refine HO_call (first:=[]) (capt:=[]) (is:=[0]) (R:=[_]) rfl rfl rfl rfl rfl Try.call57 rfl (Spec.lend (pre1:=[]) (pre2:=[]) (Put_spec _ _ _ _ ?_ ?_) rfl (by intro y at' ha;obtain rfl:=List.mem_singleton.1 ha;first | exact Atom.Flat.own kByte_plain _ _ _ _ | exact Atom.Flat.own kInt_plain _ _ _ _ | exact Atom.Flat.own kStr_plain _ _ _ _ | exact Atom.Flat.loc _ _ _)) ?_
 ·(exact Cod.zig_lt _)
 ·(simp only [List.length_append,List.length_nil];omega)
 intro y23 hy23
 refine HO_assign rfl rfl rfl ?_
 refine HO_nil ?_
 refine H_env (ρ':=[(3,_),(17,_),(16,_),(1,_)]) ⟨rfl,rfl,rfl,rfl,trivial⟩ ?_
 refine H_world (kp [nn,yy,yy] [_,_] rfl) ?_
 refine H_blk ?_
 refine H_region (l:=[_,_]) rfl ?_
 refine HO_bin (r:=.int .i64 (4)) rfl rfl rfl rfl (bin_lit (by decide) (fun _ => rfl)) ?_
 refine HO_move rfl rfl rfl ?_
 refine HO_nil ?_
 refine H_env (ρ':=[(17,_),(3,_),(16,_),(1,_)]) ⟨rfl,rfl,rfl,rfl,trivial⟩ ?_
 refine H_rnd ?_
 refine H_seq ?_
 refine H_region (l:=[_]) rfl ?_
 refine HO_bin rfl rfl rfl rfl (bin_lit (by decide) (fun _ => rfl)) ?_
 refine HO_nil ?_
 refine H_seq ?_
 refine H_cond rfl (fun h => nomatch h) (fun _ => ?_)
 refine H_exit rfl ?_
 refine H_seq ?_
 refine H_seq ?_
 refine H_region (l:=[_,_,_,_,_,_,_,_,_,_]) rfl ?_
 refine HO_fieldAddr (r:=3) rfl rfl rfl Try.underlying72 rfl Try.sizeOf9 rfl ?_
 refine HO_load1 (i:=1) (j:=3) rfl rfl rfl Try.isAgg9 rfl (.loc _ _ _) rfl rfl ?_
 refine HO_fieldAddr (r:=4) rfl rfl rfl Try.underlying72 rfl Try.sizeOf9 rfl ?_
 refine HO_load1 (i:=1) (j:=4) rfl rfl rfl Try.isAgg9 rfl (.loc _ _ _) rfl rfl ?_
 refine HO_fieldAddr (r:=5) rfl rfl rfl Try.underlying72 rfl Try.sizeOf9 rfl ?_
 refine HO_load1 (i:=1) (j:=5) rfl rfl rfl Try.isAgg9 rfl (.loc _ _ _) rfl rfl ?_
 refine HO_fieldAddr (r:=6) rfl rfl rfl Try.underlying72 rfl Try.sizeOf9 rfl ?_
 refine HO_load1 (i:=1) (j:=6) rfl rfl rfl Try.isAgg9 rfl (.loc _ _ _) rfl rfl ?_
 refine HO_build (xo:=[(0,_),(1,_),(2,_),(3,_)]) (vs:=[_,_,_,_]) rfl rfl rfl rfl (bd121_0_1_2_3_tttt) ?_
 refine HO_move rfl rfl rfl ?_
 refine HO_nil ?_
 refine H_env (ρ':=[(34,_),(33,_),(3,_)]) ⟨rfl,rfl,rfl,trivial⟩ ?_
 refine H_world (kp [yy,nn] [_] rfl) ?_
 refine H_block ?_
 refine H_rounds 5 ?_
 refine H_rnd ?_
 refine H_seq ?_
 refine H_region (l:=[_]) rfl ?_
 refine HO_bin rfl rfl rfl rfl (bin_lit (by decide) (fun _ => rfl)) ?_
 refine HO_nil ?_
 refine H_seq ?_
 refine H_cond rfl (fun _ => ?_) (fun h => nomatch h)
 refine H_skip ?_
 refine H_seq ?_
 refine H_block ?_
 refine H_seq ?_
 refine H_region (l:=[_,_]) rfl ?_
 refine HO_indexV (j:=0) (cs:=[_,_,_,_]) rfl rfl rfl rfl Try.underlying121 Try.isAgg9 Try.sizeOf9 rfl (by decide) rfl ?_
 refine HO_assign rfl rfl rfl ?_
 refine HO_nil ?_
 refine H_env (ρ':=[(7,_),(34,_),(33,_),(3,_)]) ⟨rfl,rfl,rfl,rfl,trivial⟩ ?_
 refine H_region (l:=[_,_,_,_]) rfl ?_
 iterate 2 refine HO_move rfl rfl rfl ?_
 refine HO_call (first:=[]) (capt:=[]) (is:=[0]) (R:=[]) rfl rfl rfl rfl rfl Try.call59 rfl (Spec.lend (pre1:=[]) (pre2:=[]) (PutText_spec _ _ _ _ ?_ ?_) rfl (by intro y at' ha;obtain rfl:=List.mem_singleton.1 ha;first | exact Atom.Flat.own kByte_plain _ _ _ _ | exact Atom.Flat.own kInt_plain _ _ _ _ | exact Atom.Flat.own kStr_plain _ _ _ _ | exact Atom.Flat.loc _ _ _)) ?_
 ·omega
 ·(simp only [List.length_append,List.length_nil];omega)
 intro y39 hy39
 refine HO_assign rfl rfl rfl ?_
 refine HO_nil ?_
 refine H_env (ρ':=[(3,_),(34,_),(33,_)]) ⟨rfl,rfl,rfl,trivial⟩ ?_
 refine H_world (kp [nn,yy] [_] rfl) ?_
 refine H_blk ?_
 refine H_region (l:=[_,_]) rfl ?_
 refine HO_bin (r:=.int .i64 (1)) rfl rfl rfl rfl (bin_lit (by decide) (fun _ => rfl)) ?_
 refine HO_move rfl rfl rfl ?_
 refine HO_nil ?_
 refine H_env (ρ':=[(34,_),(3,_),(33,_)]) ⟨rfl,rfl,rfl,trivial⟩ ?_
 refine H_rnd ?_
 refine H_seq ?_
 refine H_region (l:=[_]) rfl ?_
 refine HO_bin rfl rfl rfl rfl (bin_lit (by decide) (fun _ => rfl)) ?_
 refine HO_nil ?_
 refine H_seq ?_
 refine H_cond rfl (fun _ => ?_) (fun h => nomatch h)
 refine H_skip ?_
 refine H_seq ?_
 refine H_block ?_
 refine H_seq ?_
 refine H_region (l:=[_,_]) rfl ?_
 refine HO_indexV (j:=1) (cs:=[_,_,_,_]) rfl rfl rfl rfl Try.underlying121 Try.isAgg9 Try.sizeOf9 rfl (by decide) rfl ?_
 refine HO_assign rfl rfl rfl ?_
 refine HO_nil ?_
 refine H_env (ρ':=[(7,_),(34,_),(3,_),(33,_)]) ⟨rfl,rfl,rfl,rfl,trivial⟩ ?_
 refine H_region (l:=[_,_,_,_]) rfl ?_
 iterate 2 refine HO_move rfl rfl rfl ?_
 refine HO_call (first:=[]) (capt:=[]) (is:=[0]) (R:=[]) rfl rfl rfl rfl rfl Try.call59 rfl (Spec.lend (pre1:=[]) (pre2:=[]) (PutText_spec _ _ _ _ ?_ ?_) rfl (by intro y at' ha;obtain rfl:=List.mem_singleton.1 ha;first | exact Atom.Flat.own kByte_plain _ _ _ _ | exact Atom.Flat.own kInt_plain _ _ _ _ | exact Atom.Flat.own kStr_plain _ _ _ _ | exact Atom.Flat.loc _ _ _)) ?_
 ·omega
 ·(simp only [List.length_append,List.length_nil];omega)
 intro y39 hy39
 refine HO_assign rfl rfl rfl ?_
 refine HO_nil ?_
 refine H_env (ρ':=[(3,_),(34,_),(33,_)]) ⟨rfl,rfl,rfl,trivial⟩ ?_
 refine H_world (kp [nn,yy] [_] rfl) ?_
 refine H_blk ?_
 refine H_region (l:=[_,_]) rfl ?_
 refine HO_bin (r:=.int .i64 (2)) rfl rfl rfl rfl (bin_lit (by decide) (fun _ => rfl)) ?_
 refine HO_move rfl rfl rfl ?_
 refine HO_nil ?_
 refine H_env (ρ':=[(34,_),(3,_),(33,_)]) ⟨rfl,rfl,rfl,trivial⟩ ?_
 refine H_rnd ?_
 refine H_seq ?_
 refine H_region (l:=[_]) rfl ?_
 refine HO_bin rfl rfl rfl rfl (bin_lit (by decide) (fun _ => rfl)) ?_
 refine HO_nil ?_
 refine H_seq ?_
 refine H_cond rfl (fun _ => ?_) (fun h => nomatch h)
 refine H_skip ?_
 refine H_seq ?_
 refine H_block ?_
 refine H_seq ?_
 refine H_region (l:=[_,_]) rfl ?_
 refine HO_indexV (j:=2) (cs:=[_,_,_,_]) rfl rfl rfl rfl Try.underlying121 Try.isAgg9 Try.sizeOf9 rfl (by decide) rfl ?_
 refine HO_assign rfl rfl rfl ?_
 refine HO_nil ?_
 refine H_env (ρ':=[(7,_),(34,_),(3,_),(33,_)]) ⟨rfl,rfl,rfl,rfl,trivial⟩ ?_
 refine H_region (l:=[_,_,_,_]) rfl ?_
 iterate 2 refine HO_move rfl rfl rfl ?_
 refine HO_call (first:=[]) (capt:=[]) (is:=[0]) (R:=[]) rfl rfl rfl rfl rfl Try.call59 rfl (Spec.lend (pre1:=[]) (pre2:=[]) (PutText_spec _ _ _ _ ?_ ?_) rfl (by intro y at' ha;obtain rfl:=List.mem_singleton.1 ha;first | exact Atom.Flat.own kByte_plain _ _ _ _ | exact Atom.Flat.own kInt_plain _ _ _ _ | exact Atom.Flat.own kStr_plain _ _ _ _ | exact Atom.Flat.loc _ _ _)) ?_
 ·omega
 ·(simp only [List.length_append,List.length_nil];omega)
 intro y39 hy39
 refine HO_assign rfl rfl rfl ?_
 refine HO_nil ?_
 refine H_env (ρ':=[(3,_),(34,_),(33,_)]) ⟨rfl,rfl,rfl,trivial⟩ ?_
 refine H_world (kp [nn,yy] [_] rfl) ?_
 refine H_blk ?_
 refine H_region (l:=[_,_]) rfl ?_
 refine HO_bin (r:=.int .i64 (3)) rfl rfl rfl rfl (bin_lit (by decide) (fun _ => rfl)) ?_
 refine HO_move rfl rfl rfl ?_
 refine HO_nil ?_
 refine H_env (ρ':=[(34,_),(3,_),(33,_)]) ⟨rfl,rfl,rfl,trivial⟩ ?_
 refine H_rnd ?_
 refine H_seq ?_
 refine H_region (l:=[_]) rfl ?_
 refine HO_bin rfl rfl rfl rfl (bin_lit (by decide) (fun _ => rfl)) ?_
 refine HO_nil ?_
 refine H_seq ?_
 refine H_cond rfl (fun _ => ?_) (fun h => nomatch h)
 refine H_skip ?_
 refine H_seq ?_
 refine H_block ?_
 refine H_seq ?_
 refine H_region (l:=[_,_]) rfl ?_
 refine HO_indexV (j:=3) (cs:=[_,_,_,_]) rfl rfl rfl rfl Try.underlying121 Try.isAgg9 Try.sizeOf9 rfl (by decide) rfl ?_
 refine HO_assign rfl rfl rfl ?_
 refine HO_nil ?_
 refine H_env (ρ':=[(7,_),(34,_),(3,_),(33,_)]) ⟨rfl,rfl,rfl,rfl,trivial⟩ ?_
 refine H_region (l:=[_,_,_,_]) rfl ?_
 iterate 2 refine HO_move rfl rfl rfl ?_
 refine HO_call (first:=[]) (capt:=[]) (is:=[0]) (R:=[]) rfl rfl rfl rfl rfl Try.call59 rfl (Spec.lend (pre1:=[]) (pre2:=[]) (PutText_spec _ _ _ _ ?_ ?_) rfl (by intro y at' ha;obtain rfl:=List.mem_singleton.1 ha;first | exact Atom.Flat.own kByte_plain _ _ _ _ | exact Atom.Flat.own kInt_plain _ _ _ _ | exact Atom.Flat.own kStr_plain _ _ _ _ | exact Atom.Flat.loc _ _ _)) ?_
 ·omega
 ·(simp only [List.length_append,List.length_nil];omega)
 intro y39 hy39
 refine HO_assign rfl rfl rfl ?_
 refine HO_nil ?_
 refine H_env (ρ':=[(3,_),(34,_),(33,_)]) ⟨rfl,rfl,rfl,trivial⟩ ?_
 refine H_world (kp [nn,yy] [_] rfl) ?_
 refine H_blk ?_
 refine H_region (l:=[_,_]) rfl ?_
 refine HO_bin (r:=.int .i64 (4)) rfl rfl rfl rfl (bin_lit (by decide) (fun _ => rfl)) ?_
 refine HO_move rfl rfl rfl ?_
 refine HO_nil ?_
 refine H_env (ρ':=[(34,_),(3,_),(33,_)]) ⟨rfl,rfl,rfl,trivial⟩ ?_
 refine H_rnd ?_
 refine H_seq ?_
 refine H_region (l:=[_]) rfl ?_
 refine HO_bin rfl rfl rfl rfl (bin_lit (by decide) (fun _ => rfl)) ?_
 refine HO_nil ?_
 refine H_seq ?_
 refine H_cond rfl (fun h => nomatch h) (fun _ => ?_)
 refine H_exit rfl ?_
 refine H_seq ?_
 refine H_region (l:=[_,_]) rfl ?_
 refine HO_move rfl rfl rfl ?_
 refine HO_assign rfl rfl rfl ?_
 refine HO_nil ?_
 refine H_env (ρ':=[(2,_)]) ⟨rfl,trivial⟩ ?_
 refine H_ret1 Try.results60 (.tmp rfl) (fun w hA => ⟨y39,congrArg Ending.returned ?_,?_,?_⟩)
 ·rfl
 ·trivial
 ·exact hA.keep (m:=[yy]) (Y:=[_]) rfl
end Go.Wk
