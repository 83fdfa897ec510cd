/- Contracts of the program's functions, each proved by walking its code. -/
import Derived.Test.YtdaphlemhmgncaaGreatKgcmd1
import Derived.Test.YtdaphlemhmgncaaGreatCmd
import Derived.Test.YtdaphlemhmgncaaGreatWk17
import Derived.Test.YtdaphlemhmgncaaGreatKgref01b
set_option maxRecDepth 100000
set_option linter.unusedVariables false
set_option linter.unusedSimpArgs false
namespace Go.Wk.Fcmd2
open Go Go.RowKit Go.Proofs Go.Wk
theorem bd146_0_1_2_3_iiii {x1 : Int} {x2 : Int} {x3 : Int} {x4 : Int} : ∀ w,(Instr.build 146 (List.toArray (List.zip [0,1,2,3] [.int .i64 x1,.int .i64 x2,.int .i64 x3,.int .i64 x4]))).run Tryz.prog w = .ok (.agg #[.int .i64 x1,.int .i64 x2,.int .i64 x3,.int .i64 x4]) w:=fun _ => by kernel_rfl
theorem bd147_0_1_2_3_tttt {x1 : ByteArray} {x2 : ByteArray} {x3 : ByteArray} {x4 : ByteArray} : ∀ w,(Instr.build 147 (List.toArray (List.zip [0,1,2,3] [.string x1,.string x2,.string x3,.string x4]))).run Tryz.prog w = .ok (.agg #[.string x1,.string x2,.string x3,.string x4]) w:=fun _ => by kernel_rfl
theorem bd68_0_1_ii {x1 : Int} {x2 : Int} : ∀ w,(Instr.build 68 (List.toArray (List.zip [0,1] [.int .i64 x1,.int .i64 x2]))).run Tryz.prog w = .ok (.agg #[.int .i64 x1,.int .i64 x2,.int .i64 (0),.string (⟨#[]⟩),.string (⟨#[]⟩),.string (⟨#[]⟩),.string (⟨#[]⟩),.int .i64 (0)]) w:=fun _ => by kernel_rfl
theorem bd68_0_i {x1 : Int} : ∀ w,(Instr.build 68 (List.toArray (List.zip [0] [.int .i64 x1]))).run Tryz.prog w = .ok (.agg #[.int .i64 x1,.int .i64 (0),.int .i64 (0),.string (⟨#[]⟩),.string (⟨#[]⟩),.string (⟨#[]⟩),.string (⟨#[]⟩),.int .i64 (0)]) w:=fun _ => by kernel_rfl
theorem eq68_eql {x y : Operand} {a0 b0 : Int} {a1 b1 : Int} {a2 b2 : Int} {a3 b3 : ByteArray} {a4 b4 : ByteArray} {a5 b5 : ByteArray} {a6 b6 : ByteArray} {a7 b7 : Int} : BinR Tryz.prog .eql 68 x y (.agg #[.int .i64 a0,.int .i64 a1,.int .i64 a2,.string a3,.string a4,.string a5,.string a6,.int .i64 a7]) (.agg #[.int .i64 b0,.int .i64 b1,.int .i64 b2,.string b3,.string b4,.string b5,.string b6,.int .i64 b7]) (.bool (decide (a0 = b0) && (decide (a1 = b1) && (decide (a2 = b2) && (decide (a3 = b3) && (decide (a4 = b4) && (decide (a5 = b5) && (decide (a6 = b6) && (decide (a7 = b7) && true))))))))) :=
 bin_eqs_agg (by kernel_rfl) Tryz.underlying68 (by kernel_rfl) (fun w => (eqF_int (by decide) Tryz.underlying3 Tryz.isAgg3 rfl rfl (eqF_int (by decide) Tryz.underlying3 Tryz.isAgg3 rfl rfl (eqF_int (by decide) Tryz.underlying3 Tryz.isAgg3 rfl rfl (eqF_str (by decide) Tryz.underlying9 Tryz.isAgg9 rfl rfl (eqF_str (by decide) Tryz.underlying9 Tryz.isAgg9 rfl rfl (eqF_str (by decide) Tryz.underlying9 Tryz.isAgg9 rfl rfl (eqF_str (by decide) Tryz.underlying9 Tryz.isAgg9 rfl rfl (eqF_int (by decide) Tryz.underlying3 Tryz.isAgg3 rfl rfl eqF_nil)))))))))
end Go.Wk.Fcmd2
namespace Go.Wk
open Go Go.RowKit Go.Proofs Fcmd2 
theorem good2_f {ki se sq : Int} {ke ol va ti : ByteArray} {li : Int} (h : ki = 2) (h2 : (decide True && (decide True && (decide (sq = 0) && (decide (ke = (⟨#[]⟩ : ByteArray)) && (decide (ol = (⟨#[]⟩ : ByteArray)) && (decide (va = (⟨#[]⟩ : ByteArray)) && (decide (ti = (⟨#[]⟩ : ByteArray)) && (decide (li = 0) && true)))))))) = false) : false = Cmd.good ⟨ki,se,sq,ke,ol,va,ti,li⟩:=by
 subst h
 have e : Cmd.eqv ⟨2,se,sq,ke,ol,va,ti,li⟩ ⟨2,se,0,Cmd.empty,Cmd.empty,Cmd.empty,Cmd.empty,0⟩ = false:=by
  rw [← h2]
  unfold Cmd.eqv Cmd.empty
  simp
 unfold Cmd.good
 rw [if_neg (by show ¬ ((2 : Int) = 1);decide),if_pos rfl]
 simp only [e,Bool.and_false]
theorem bytes_spec (ki se sq : Int) (ke ol va ti : ByteArray) (li : Int) (hs : ke.size + ol.size + va.size + ti.size≤100000) : Spec Tryz.prog 89 #[.agg #[.int .i64 (ki),.int .i64 (se),.int .i64 (sq),.string (ke),.string (ol),.string (va),.string (ti),.int .i64 (li)]] [] (β:=Option Addr × Nat) (fun y => .slice y.1 ((Cmd.bytes ⟨ki,se,sq,ke,ol,va,ti,li⟩).length) y.2) (fun y => True) (fun y => [.own 5 kByte y.1 y.2 (Cmd.bytes ⟨ki,se,sq,ke,ol,va,ti,li⟩)]):=by
 have e0:=Cod.enc_le9 (Cod.zig ki)
 have e1:=Cod.enc_le9 (Cod.zig se)
 have e2:=Cod.enc_le9 (Cod.zig sq)
 have e3:=Cod.enc_le9 (Cod.zig li)
 have u0:=Cod.enc_le9 ke.size
 have u1:=Cod.enc_le9 ol.size
 have u2:=Cod.enc_le9 va.size
 have u3:=Cod.enc_le9 ti.size
 have v0 : ke.data.toList.length = ke.size:=Array.length_toList
 have v1 : ol.data.toList.length = ol.size:=Array.length_toList
 have v2 : va.data.toList.length = va.size:=Array.length_toList
 have v3 : ti.data.toList.length = ti.size:=Array.length_toList
 refine Spec.enter (vs:=[_]) Tryz.func89 rfl Tryz.ntmps89 rfl (Nat.le_of_ble_eq_true rfl) (fun w0 ok0 => ?_)
 generalize hM0 : blks _ = M0
 have hMn:=@noM _ _ hM0 (by simp [Atom.dat,Atom.elem])
 refine SQ (RG rfl (BX [_,_,_,_,_,_,_,_] rfl ?_))
 intro g1
 refine AS rfl (NI [1] [_] rfl (SQ (RG rfl (AS rfl (HO_nil (SQ (SQ (RG rfl (FA 0 rfl Tryz.underlying68 rfl Tryz.sizeOf3 (LD 0 0 rfl Tryz.isAgg3 (FA 1 rfl Tryz.underlying68 rfl Tryz.sizeOf3 (LD 0 1 rfl Tryz.isAgg3 ?_))))))))))))
 refine FA 2 rfl Tryz.underlying68 rfl Tryz.sizeOf3 (LD 0 2 rfl Tryz.isAgg3 (FA 7 rfl Tryz.underlying68 rfl Tryz.sizeOf3 (LD 0 7 rfl Tryz.isAgg3 (HO_build (xo:=[(0,_),(1,_),(2,_),(3,_)]) (vs:=[_,_,_,_]) rfl rfl rfl rfl (bd146_0_1_2_3_iiii) (MV rfl (NI [17,16,3,1] [_,_,_,_] rfl (BO (H_rounds 5 (H_rnd (SQ (RG rfl (BN rfl (bin_lit (by decide) (fun _ => rfl)) ?_))))))))))))
 refine HO_nil (SQ (CT rfl (SK (SQ (BO (SQ (RG rfl (HO_indexV (j:=0) (cs:=[_,_,_,_]) rfl rfl rfl rfl Tryz.underlying146 Tryz.isAgg3 Tryz.sizeOf3 rfl (by decide) rfl (AS rfl (NI [5,17,16,3,1] [_,_,_,_,_] rfl (RG rfl (MV rfl ?_))))))))))))
 refine MV rfl (CB [] [_] rfl Tryz.call87 (zig_spec _) ?_)
 intro y22 hy22
 clear y22 hy22
 refine HO_nilDat kByte (DU 0 rfl (CB [0] [_,_] rfl Tryz.call86 (Put_spec _ _ _ _ ?_ ?_) ?_))
 ·(exact Cod.zig_lt _)
 ·(simp only [List.length_append,List.length_nil];omega)
 intro y23 hy23
 refine AS rfl (NI [3,17,16,1] [_,_,_,_] rfl (WD 5 [_,_] rfl (BD (RG rfl (BN (r:=.int .i64 (1)) rfl (bin_lit (by decide) (fun _ => rfl)) (MV rfl (NI [17,3,16,1] [_,_,_,_] rfl (H_rnd (SQ (RG rfl (BN rfl (bin_lit (by decide) (fun _ => rfl)) ?_)))))))))))
 refine HO_nil (SQ (CT rfl (SK (SQ (BO (SQ (RG rfl (HO_indexV (j:=1) (cs:=[_,_,_,_]) rfl rfl rfl rfl Tryz.underlying146 Tryz.isAgg3 Tryz.sizeOf3 rfl (by decide) rfl (AS rfl (NI [5,17,3,16,1] [_,_,_,_,_] rfl (RG rfl (MV rfl ?_))))))))))))
 refine MV rfl (CB [] [_,_] rfl Tryz.call87 (zig_spec _) ?_)
 intro y22 hy22
 clear y22 hy22
 refine CB [0] [_] rfl Tryz.call86 (Spec.lend (pre1:=[]) (pre2:=[]) (Put_spec _ _ _ _ ?_ ?_) rfl (by intro y at' ha;obtain rfl:=List.mem_singleton.1 ha;first | exact Atom.Flat.own kByte_plain _ _ _ _ | exact Atom.Flat.own kInt_plain _ _ _ _ | exact Atom.Flat.own kStr_plain _ _ _ _ | exact Atom.Flat.loc _ _ _)) ?_
 ·(exact Cod.zig_lt _)
 ·(simp only [List.length_append,List.length_nil];omega)
 intro y23 hy23
 refine AS rfl (NI [3,17,16,1] [_,_,_,_] rfl (WD 6 [_,_] rfl (BD (RG rfl (BN (r:=.int .i64 (2)) rfl (bin_lit (by decide) (fun _ => rfl)) (MV rfl (NI [17,3,16,1] [_,_,_,_] rfl (H_rnd (SQ (RG rfl (BN rfl (bin_lit (by decide) (fun _ => rfl)) ?_)))))))))))
 refine HO_nil (SQ (CT rfl (SK (SQ (BO (SQ (RG rfl (HO_indexV (j:=2) (cs:=[_,_,_,_]) rfl rfl rfl rfl Tryz.underlying146 Tryz.isAgg3 Tryz.sizeOf3 rfl (by decide) rfl (AS rfl (NI [5,17,3,16,1] [_,_,_,_,_] rfl (RG rfl (MV rfl ?_))))))))))))
 refine MV rfl (CB [] [_,_] rfl Tryz.call87 (zig_spec _) ?_)
 intro y22 hy22
 clear y22 hy22
 refine CB [0] [_] rfl Tryz.call86 (Spec.lend (pre1:=[]) (pre2:=[]) (Put_spec _ _ _ _ ?_ ?_) rfl (by intro y at' ha;obtain rfl:=List.mem_singleton.1 ha;first | exact Atom.Flat.own kByte_plain _ _ _ _ | exact Atom.Flat.own kInt_plain _ _ _ _ | exact Atom.Flat.own kStr_plain _ _ _ _ | exact Atom.Flat.loc _ _ _)) ?_
 ·(exact Cod.zig_lt _)
 ·(simp only [List.length_append,List.length_nil];omega)
 intro y23 hy23
 refine AS rfl (NI [3,17,16,1] [_,_,_,_] rfl (WD 6 [_,_] rfl (BD (RG rfl (BN (r:=.int .i64 (3)) rfl (bin_lit (by decide) (fun _ => rfl)) (MV rfl (NI [17,3,16,1] [_,_,_,_] rfl (H_rnd (SQ (RG rfl (BN rfl (bin_lit (by decide) (fun _ => rfl)) ?_)))))))))))
 refine HO_nil (SQ (CT rfl (SK (SQ (BO (SQ (RG rfl (HO_indexV (j:=3) (cs:=[_,_,_,_]) rfl rfl rfl rfl Tryz.underlying146 Tryz.isAgg3 Tryz.sizeOf3 rfl (by decide) rfl (AS rfl (NI [5,17,3,16,1] [_,_,_,_,_] rfl (RG rfl (MV rfl ?_))))))))))))
 refine MV rfl (CB [] [_,_] rfl Tryz.call87 (zig_spec _) ?_)
 intro y22 hy22
 clear y22 hy22
 refine CB [0] [_] rfl Tryz.call86 (Spec.lend (pre1:=[]) (pre2:=[]) (Put_spec _ _ _ _ ?_ ?_) rfl (by intro y at' ha;obtain rfl:=List.mem_singleton.1 ha;first | exact Atom.Flat.own kByte_plain _ _ _ _ | exact Atom.Flat.own kInt_plain _ _ _ _ | exact Atom.Flat.own kStr_plain _ _ _ _ | exact Atom.Flat.loc _ _ _)) ?_
 ·(exact Cod.zig_lt _)
 ·(simp only [List.length_append,List.length_nil];omega)
 intro y23 hy23
 refine AS rfl (NI [3,17,16,1] [_,_,_,_] rfl (WD 6 [_,_] rfl (BD (RG rfl (BN (r:=.int .i64 (4)) rfl (bin_lit (by decide) (fun _ => rfl)) (MV rfl (NI [17,3,16,1] [_,_,_,_] rfl (H_rnd (SQ (RG rfl (BN rfl (bin_lit (by decide) (fun _ => rfl)) ?_)))))))))))
 refine HO_nil (SQ (CF rfl (H_exit rfl (SQ (SQ (RG rfl (FA 3 rfl Tryz.underlying68 rfl Tryz.sizeOf9 (LD 1 3 rfl Tryz.isAgg9 (FA 4 rfl Tryz.underlying68 rfl Tryz.sizeOf9 (LD 1 4 rfl Tryz.isAgg9 (FA 5 rfl Tryz.underlying68 rfl Tryz.sizeOf9 (LD 1 5 rfl Tryz.isAgg9 (FA 6 rfl Tryz.underlying68 rfl Tryz.sizeOf9 ?_)))))))))))))
 refine LD 1 6 rfl Tryz.isAgg9 (HO_build (xo:=[(0,_),(1,_),(2,_),(3,_)]) (vs:=[_,_,_,_]) rfl rfl rfl rfl (bd147_0_1_2_3_tttt) (MV rfl (NI [34,33,3] [_,_,_] rfl (WD 1 [_] rfl (BO (H_rounds 5 (H_rnd (SQ (RG rfl (BN rfl (bin_lit (by decide) (fun _ => rfl)) (HO_nil (SQ ?_))))))))))))
 refine CT rfl (SK (SQ (BO (SQ (RG rfl (HO_indexV (j:=0) (cs:=[_,_,_,_]) rfl rfl rfl rfl Tryz.underlying147 Tryz.isAgg9 Tryz.sizeOf9 rfl (by decide) rfl (AS rfl (NI [7,34,33,3] [_,_,_,_] rfl (RG rfl (MV rfl (MV rfl (CB [0] [] rfl Tryz.call88 (Spec.lend (pre1:=[]) (pre2:=[]) (PutText_spec _ _ _ _ ?_ ?_) rfl (by intro y at' ha;obtain rfl:=List.mem_singleton.1 ha;first | exact Atom.Flat.own kByte_plain _ _ _ _ | exact Atom.Flat.own kInt_plain _ _ _ _ | exact Atom.Flat.own kStr_plain _ _ _ _ | exact Atom.Flat.loc _ _ _)) ?_))))))))))))
 ·omega
 ·(simp only [List.length_append,List.length_nil];omega)
 intro y39 hy39
 refine AS rfl (NI [3,34,33] [_,_,_] rfl (WD 2 [_] rfl (BD (RG rfl (BN (r:=.int .i64 (1)) rfl (bin_lit (by decide) (fun _ => rfl)) (MV rfl (NI [34,3,33] [_,_,_] rfl (H_rnd (SQ (RG rfl (BN rfl (bin_lit (by decide) (fun _ => rfl)) ?_)))))))))))
 refine HO_nil (SQ (CT rfl (SK (SQ (BO (SQ (RG rfl (HO_indexV (j:=1) (cs:=[_,_,_,_]) rfl rfl rfl rfl Tryz.underlying147 Tryz.isAgg9 Tryz.sizeOf9 rfl (by decide) rfl (AS rfl (NI [7,34,3,33] [_,_,_,_] rfl (RG rfl (MV rfl ?_))))))))))))
 refine MV rfl (CB [0] [] rfl Tryz.call88 (Spec.lend (pre1:=[]) (pre2:=[]) (PutText_spec _ _ _ _ ?_ ?_) rfl (by intro y at' ha;obtain rfl:=List.mem_singleton.1 ha;first | exact Atom.Flat.own kByte_plain _ _ _ _ | exact Atom.Flat.own kInt_plain _ _ _ _ | exact Atom.Flat.own kStr_plain _ _ _ _ | exact Atom.Flat.loc _ _ _)) ?_)
 ·omega
 ·(simp only [List.length_append,List.length_nil];omega)
 intro y39 hy39
 refine AS rfl (NI [3,34,33] [_,_,_] rfl (WD 2 [_] rfl (BD (RG rfl (BN (r:=.int .i64 (2)) rfl (bin_lit (by decide) (fun _ => rfl)) (MV rfl (NI [34,3,33] [_,_,_] rfl (H_rnd (SQ (RG rfl (BN rfl (bin_lit (by decide) (fun _ => rfl)) ?_)))))))))))
 refine HO_nil (SQ (CT rfl (SK (SQ (BO (SQ (RG rfl (HO_indexV (j:=2) (cs:=[_,_,_,_]) rfl rfl rfl rfl Tryz.underlying147 Tryz.isAgg9 Tryz.sizeOf9 rfl (by decide) rfl (AS rfl (NI [7,34,3,33] [_,_,_,_] rfl (RG rfl (MV rfl ?_))))))))))))
 refine MV rfl (CB [0] [] rfl Tryz.call88 (Spec.lend (pre1:=[]) (pre2:=[]) (PutText_spec _ _ _ _ ?_ ?_) rfl (by intro y at' ha;obtain rfl:=List.mem_singleton.1 ha;first | exact Atom.Flat.own kByte_plain _ _ _ _ | exact Atom.Flat.own kInt_plain _ _ _ _ | exact Atom.Flat.own kStr_plain _ _ _ _ | exact Atom.Flat.loc _ _ _)) ?_)
 ·omega
 ·(simp only [List.length_append,List.length_nil];omega)
 intro y39 hy39
 refine AS rfl (NI [3,34,33] [_,_,_] rfl (WD 2 [_] rfl (BD (RG rfl (BN (r:=.int .i64 (3)) rfl (bin_lit (by decide) (fun _ => rfl)) (MV rfl (NI [34,3,33] [_,_,_] rfl (H_rnd (SQ (RG rfl (BN rfl (bin_lit (by decide) (fun _ => rfl)) ?_)))))))))))
 refine HO_nil (SQ (CT rfl (SK (SQ (BO (SQ (RG rfl (HO_indexV (j:=3) (cs:=[_,_,_,_]) rfl rfl rfl rfl Tryz.underlying147 Tryz.isAgg9 Tryz.sizeOf9 rfl (by decide) rfl (AS rfl (NI [7,34,3,33] [_,_,_,_] rfl (RG rfl (MV rfl ?_))))))))))))
 refine MV rfl (CB [0] [] rfl Tryz.call88 (Spec.lend (pre1:=[]) (pre2:=[]) (PutText_spec _ _ _ _ ?_ ?_) rfl (by intro y at' ha;obtain rfl:=List.mem_singleton.1 ha;first | exact Atom.Flat.own kByte_plain _ _ _ _ | exact Atom.Flat.own kInt_plain _ _ _ _ | exact Atom.Flat.own kStr_plain _ _ _ _ | exact Atom.Flat.loc _ _ _)) ?_)
 ·omega
 ·(simp only [List.length_append,List.length_nil];omega)
 intro y39 hy39
 refine AS rfl (NI [3,34,33] [_,_,_] rfl (WD 2 [_] rfl (BD (RG rfl (BN (r:=.int .i64 (4)) rfl (bin_lit (by decide) (fun _ => rfl)) (MV rfl (NI [34,3,33] [_,_,_] rfl (H_rnd (SQ (RG rfl (BN rfl (bin_lit (by decide) (fun _ => rfl)) ?_)))))))))))
 refine HO_nil (SQ (CF rfl (H_exit rfl (SQ (RG rfl (MV rfl (AS rfl (NI [2] [_] rfl (R1 Tryz.results89 y39 rfl (fun w hA => ⟨?_,?_,?_⟩))))))))))
 ·rfl
 ·trivial
 ·exact hA.keep (m:=[yy]) (Y:=[_]) rfl
theorem rbytes_spec (ki se sq : Int) (ke ol va ti : ByteArray) (li : Int) (hs : ke.size + ol.size + va.size + ti.size≤100000) : Spec Tryz.prog 94 #[.agg #[.int .i64 (ki),.int .i64 (se),.int .i64 (sq),.string (ke),.string (ol),.string (va),.string (ti),.int .i64 (li)]] [] (β:=Option Addr × Nat) (fun y => .slice y.1 ((Cmd.bytes ⟨ki,se,sq,ke,ol,va,ti,li⟩).length) y.2) (fun y => True) (fun y => [.own 5 kByte y.1 y.2 (Cmd.bytes ⟨ki,se,sq,ke,ol,va,ti,li⟩)]):=by
 have e0:=Cod.enc_le9 (Cod.zig ki)
 have e1:=Cod.enc_le9 (Cod.zig se)
 have e2:=Cod.enc_le9 (Cod.zig sq)
 have e3:=Cod.enc_le9 (Cod.zig li)
 have u0:=Cod.enc_le9 ke.size
 have u1:=Cod.enc_le9 ol.size
 have u2:=Cod.enc_le9 va.size
 have u3:=Cod.enc_le9 ti.size
 have v0 : ke.data.toList.length = ke.size:=Array.length_toList
 have v1 : ol.data.toList.length = ol.size:=Array.length_toList
 have v2 : va.data.toList.length = va.size:=Array.length_toList
 have v3 : ti.data.toList.length = ti.size:=Array.length_toList
 refine Spec.enter (vs:=[_]) Tryz.func94 rfl Tryz.ntmps94 rfl (Nat.le_of_ble_eq_true rfl) (fun w0 ok0 => ?_)
 generalize hM0 : blks _ = M0
 have hMn:=@noM _ _ hM0 (by simp [Atom.dat,Atom.elem])
 refine SQ (RG rfl (BX [_,_,_,_,_,_,_,_] rfl ?_))
 intro g1
 refine AS rfl (NI [1] [_] rfl (SQ (RG rfl (AS rfl (HO_nil (SQ (SQ (RG rfl (FA 0 rfl Tryz.underlying68 rfl Tryz.sizeOf3 (LD 0 0 rfl Tryz.isAgg3 (FA 1 rfl Tryz.underlying68 rfl Tryz.sizeOf3 (LD 0 1 rfl Tryz.isAgg3 ?_))))))))))))
 refine FA 2 rfl Tryz.underlying68 rfl Tryz.sizeOf3 (LD 0 2 rfl Tryz.isAgg3 (FA 7 rfl Tryz.underlying68 rfl Tryz.sizeOf3 (LD 0 7 rfl Tryz.isAgg3 (HO_build (xo:=[(0,_),(1,_),(2,_),(3,_)]) (vs:=[_,_,_,_]) rfl rfl rfl rfl (bd146_0_1_2_3_iiii) (MV rfl (NI [17,16,3,1] [_,_,_,_] rfl (BO (H_rounds 5 (H_rnd (SQ (RG rfl (BN rfl (bin_lit (by decide) (fun _ => rfl)) ?_))))))))))))
 refine HO_nil (SQ (CT rfl (SK (SQ (BO (SQ (RG rfl (HO_indexV (j:=0) (cs:=[_,_,_,_]) rfl rfl rfl rfl Tryz.underlying146 Tryz.isAgg3 Tryz.sizeOf3 rfl (by decide) rfl (AS rfl (NI [5,17,16,3,1] [_,_,_,_,_] rfl (RG rfl (MV rfl ?_))))))))))))
 refine MV rfl (CB [] [_] rfl Tryz.call91 (rzig_spec _) ?_)
 intro y22 hy22
 clear y22 hy22
 refine HO_nilDat kByte (DU 0 rfl (CB [0] [_,_] rfl Tryz.call60 (rPut_spec _ _ _ _ ?_ ?_) ?_))
 ·(exact Cod.zig_lt _)
 ·(simp only [List.length_append,List.length_nil];omega)
 intro y23 hy23
 refine AS rfl (NI [3,17,16,1] [_,_,_,_] rfl (WD 5 [_,_] rfl (BD (RG rfl (BN (r:=.int .i64 (1)) rfl (bin_lit (by decide) (fun _ => rfl)) (MV rfl (NI [17,3,16,1] [_,_,_,_] rfl (H_rnd (SQ (RG rfl (BN rfl (bin_lit (by decide) (fun _ => rfl)) ?_)))))))))))
 refine HO_nil (SQ (CT rfl (SK (SQ (BO (SQ (RG rfl (HO_indexV (j:=1) (cs:=[_,_,_,_]) rfl rfl rfl rfl Tryz.underlying146 Tryz.isAgg3 Tryz.sizeOf3 rfl (by decide) rfl (AS rfl (NI [5,17,3,16,1] [_,_,_,_,_] rfl (RG rfl (MV rfl ?_))))))))))))
 refine MV rfl (CB [] [_,_] rfl Tryz.call91 (rzig_spec _) ?_)
 intro y22 hy22
 clear y22 hy22
 refine CB [0] [_] rfl Tryz.call60 (Spec.lend (pre1:=[]) (pre2:=[]) (rPut_spec _ _ _ _ ?_ ?_) rfl (by intro y at' ha;obtain rfl:=List.mem_singleton.1 ha;first | exact Atom.Flat.own kByte_plain _ _ _ _ | exact Atom.Flat.own kInt_plain _ _ _ _ | exact Atom.Flat.own kStr_plain _ _ _ _ | exact Atom.Flat.loc _ _ _)) ?_
 ·(exact Cod.zig_lt _)
 ·(simp only [List.length_append,List.length_nil];omega)
 intro y23 hy23
 refine AS rfl (NI [3,17,16,1] [_,_,_,_] rfl (WD 6 [_,_] rfl (BD (RG rfl (BN (r:=.int .i64 (2)) rfl (bin_lit (by decide) (fun _ => rfl)) (MV rfl (NI [17,3,16,1] [_,_,_,_] rfl (H_rnd (SQ (RG rfl (BN rfl (bin_lit (by decide) (fun _ => rfl)) ?_)))))))))))
 refine HO_nil (SQ (CT rfl (SK (SQ (BO (SQ (RG rfl (HO_indexV (j:=2) (cs:=[_,_,_,_]) rfl rfl rfl rfl Tryz.underlying146 Tryz.isAgg3 Tryz.sizeOf3 rfl (by decide) rfl (AS rfl (NI [5,17,3,16,1] [_,_,_,_,_] rfl (RG rfl (MV rfl ?_))))))))))))
 refine MV rfl (CB [] [_,_] rfl Tryz.call91 (rzig_spec _) ?_)
 intro y22 hy22
 clear y22 hy22
 refine CB [0] [_] rfl Tryz.call60 (Spec.lend (pre1:=[]) (pre2:=[]) (rPut_spec _ _ _ _ ?_ ?_) rfl (by intro y at' ha;obtain rfl:=List.mem_singleton.1 ha;first | exact Atom.Flat.own kByte_plain _ _ _ _ | exact Atom.Flat.own kInt_plain _ _ _ _ | exact Atom.Flat.own kStr_plain _ _ _ _ | exact Atom.Flat.loc _ _ _)) ?_
 ·(exact Cod.zig_lt _)
 ·(simp only [List.length_append,List.length_nil];omega)
 intro y23 hy23
 refine AS rfl (NI [3,17,16,1] [_,_,_,_] rfl (WD 6 [_,_] rfl (BD (RG rfl (BN (r:=.int .i64 (3)) rfl (bin_lit (by decide) (fun _ => rfl)) (MV rfl (NI [17,3,16,1] [_,_,_,_] rfl (H_rnd (SQ (RG rfl (BN rfl (bin_lit (by decide) (fun _ => rfl)) ?_)))))))))))
 refine HO_nil (SQ (CT rfl (SK (SQ (BO (SQ (RG rfl (HO_indexV (j:=3) (cs:=[_,_,_,_]) rfl rfl rfl rfl Tryz.underlying146 Tryz.isAgg3 Tryz.sizeOf3 rfl (by decide) rfl (AS rfl (NI [5,17,3,16,1] [_,_,_,_,_] rfl (RG rfl (MV rfl ?_))))))))))))
 refine MV rfl (CB [] [_,_] rfl Tryz.call91 (rzig_spec _) ?_)
 intro y22 hy22
 clear y22 hy22
 refine CB [0] [_] rfl Tryz.call60 (Spec.lend (pre1:=[]) (pre2:=[]) (rPut_spec _ _ _ _ ?_ ?_) rfl (by intro y at' ha;obtain rfl:=List.mem_singleton.1 ha;first | exact Atom.Flat.own kByte_plain _ _ _ _ | exact Atom.Flat.own kInt_plain _ _ _ _ | exact Atom.Flat.own kStr_plain _ _ _ _ | exact Atom.Flat.loc _ _ _)) ?_
 ·(exact Cod.zig_lt _)
 ·(simp only [List.length_append,List.length_nil];omega)
 intro y23 hy23
 refine AS rfl (NI [3,17,16,1] [_,_,_,_] rfl (WD 6 [_,_] rfl (BD (RG rfl (BN (r:=.int .i64 (4)) rfl (bin_lit (by decide) (fun _ => rfl)) (MV rfl (NI [17,3,16,1] [_,_,_,_] rfl (H_rnd (SQ (RG rfl (BN rfl (bin_lit (by decide) (fun _ => rfl)) ?_)))))))))))
 refine HO_nil (SQ (CF rfl (H_exit rfl (SQ (SQ (RG rfl (FA 3 rfl Tryz.underlying68 rfl Tryz.sizeOf9 (LD 1 3 rfl Tryz.isAgg9 (FA 4 rfl Tryz.underlying68 rfl Tryz.sizeOf9 (LD 1 4 rfl Tryz.isAgg9 (FA 5 rfl Tryz.underlying68 rfl Tryz.sizeOf9 (LD 1 5 rfl Tryz.isAgg9 (FA 6 rfl Tryz.underlying68 rfl Tryz.sizeOf9 ?_)))))))))))))
 refine LD 1 6 rfl Tryz.isAgg9 (HO_build (xo:=[(0,_),(1,_),(2,_),(3,_)]) (vs:=[_,_,_,_]) rfl rfl rfl rfl (bd147_0_1_2_3_tttt) (MV rfl (NI [34,33,3] [_,_,_] rfl (WD 1 [_] rfl (BO (H_rounds 5 (H_rnd (SQ (RG rfl (BN rfl (bin_lit (by decide) (fun _ => rfl)) (HO_nil (SQ ?_))))))))))))
 refine CT rfl (SK (SQ (BO (SQ (RG rfl (HO_indexV (j:=0) (cs:=[_,_,_,_]) rfl rfl rfl rfl Tryz.underlying147 Tryz.isAgg9 Tryz.sizeOf9 rfl (by decide) rfl (AS rfl (NI [7,34,33,3] [_,_,_,_] rfl (RG rfl (MV rfl (MV rfl (CB [0] [] rfl Tryz.call93 (Spec.lend (pre1:=[]) (pre2:=[]) (rPutText_spec _ _ _ _ ?_ ?_) rfl (by intro y at' ha;obtain rfl:=List.mem_singleton.1 ha;first | exact Atom.Flat.own kByte_plain _ _ _ _ | exact Atom.Flat.own kInt_plain _ _ _ _ | exact Atom.Flat.own kStr_plain _ _ _ _ | exact Atom.Flat.loc _ _ _)) ?_))))))))))))
 ·omega
 ·(simp only [List.length_append,List.length_nil];omega)
 intro y39 hy39
 refine AS rfl (NI [3,34,33] [_,_,_] rfl (WD 2 [_] rfl (BD (RG rfl (BN (r:=.int .i64 (1)) rfl (bin_lit (by decide) (fun _ => rfl)) (MV rfl (NI [34,3,33] [_,_,_] rfl (H_rnd (SQ (RG rfl (BN rfl (bin_lit (by decide) (fun _ => rfl)) ?_)))))))))))
 refine HO_nil (SQ (CT rfl (SK (SQ (BO (SQ (RG rfl (HO_indexV (j:=1) (cs:=[_,_,_,_]) rfl rfl rfl rfl Tryz.underlying147 Tryz.isAgg9 Tryz.sizeOf9 rfl (by decide) rfl (AS rfl (NI [7,34,3,33] [_,_,_,_] rfl (RG rfl (MV rfl ?_))))))))))))
 refine MV rfl (CB [0] [] rfl Tryz.call93 (Spec.lend (pre1:=[]) (pre2:=[]) (rPutText_spec _ _ _ _ ?_ ?_) rfl (by intro y at' ha;obtain rfl:=List.mem_singleton.1 ha;first | exact Atom.Flat.own kByte_plain _ _ _ _ | exact Atom.Flat.own kInt_plain _ _ _ _ | exact Atom.Flat.own kStr_plain _ _ _ _ | exact Atom.Flat.loc _ _ _)) ?_)
 ·omega
 ·(simp only [List.length_append,List.length_nil];omega)
 intro y39 hy39
 refine AS rfl (NI [3,34,33] [_,_,_] rfl (WD 2 [_] rfl (BD (RG rfl (BN (r:=.int .i64 (2)) rfl (bin_lit (by decide) (fun _ => rfl)) (MV rfl (NI [34,3,33] [_,_,_] rfl (H_rnd (SQ (RG rfl (BN rfl (bin_lit (by decide) (fun _ => rfl)) ?_)))))))))))
 refine HO_nil (SQ (CT rfl (SK (SQ (BO (SQ (RG rfl (HO_indexV (j:=2) (cs:=[_,_,_,_]) rfl rfl rfl rfl Tryz.underlying147 Tryz.isAgg9 Tryz.sizeOf9 rfl (by decide) rfl (AS rfl (NI [7,34,3,33] [_,_,_,_] rfl (RG rfl (MV rfl ?_))))))))))))
 refine MV rfl (CB [0] [] rfl Tryz.call93 (Spec.lend (pre1:=[]) (pre2:=[]) (rPutText_spec _ _ _ _ ?_ ?_) rfl (by intro y at' ha;obtain rfl:=List.mem_singleton.1 ha;first | exact Atom.Flat.own kByte_plain _ _ _ _ | exact Atom.Flat.own kInt_plain _ _ _ _ | exact Atom.Flat.own kStr_plain _ _ _ _ | exact Atom.Flat.loc _ _ _)) ?_)
 ·omega
 ·(simp only [List.length_append,List.length_nil];omega)
 intro y39 hy39
 refine AS rfl (NI [3,34,33] [_,_,_] rfl (WD 2 [_] rfl (BD (RG rfl (BN (r:=.int .i64 (3)) rfl (bin_lit (by decide) (fun _ => rfl)) (MV rfl (NI [34,3,33] [_,_,_] rfl (H_rnd (SQ (RG rfl (BN rfl (bin_lit (by decide) (fun _ => rfl)) ?_)))))))))))
 refine HO_nil (SQ (CT rfl (SK (SQ (BO (SQ (RG rfl (HO_indexV (j:=3) (cs:=[_,_,_,_]) rfl rfl rfl rfl Tryz.underlying147 Tryz.isAgg9 Tryz.sizeOf9 rfl (by decide) rfl (AS rfl (NI [7,34,3,33] [_,_,_,_] rfl (RG rfl (MV rfl ?_))))))))))))
 refine MV rfl (CB [0] [] rfl Tryz.call93 (Spec.lend (pre1:=[]) (pre2:=[]) (rPutText_spec _ _ _ _ ?_ ?_) rfl (by intro y at' ha;obtain rfl:=List.mem_singleton.1 ha;first | exact Atom.Flat.own kByte_plain _ _ _ _ | exact Atom.Flat.own kInt_plain _ _ _ _ | exact Atom.Flat.own kStr_plain _ _ _ _ | exact Atom.Flat.loc _ _ _)) ?_)
 ·omega
 ·(simp only [List.length_append,List.length_nil];omega)
 intro y39 hy39
 refine AS rfl (NI [3,34,33] [_,_,_] rfl (WD 2 [_] rfl (BD (RG rfl (BN (r:=.int .i64 (4)) rfl (bin_lit (by decide) (fun _ => rfl)) (MV rfl (NI [34,3,33] [_,_,_] rfl (H_rnd (SQ (RG rfl (BN rfl (bin_lit (by decide) (fun _ => rfl)) ?_)))))))))))
 refine HO_nil (SQ (CF rfl (H_exit rfl (SQ (RG rfl (MV rfl (AS rfl (NI [2] [_] rfl (R1 Tryz.results94 y39 rfl (fun w hA => ⟨?_,?_,?_⟩))))))))))
 ·rfl
 ·trivial
 ·exact hA.keep (m:=[yy]) (Y:=[_]) rfl
theorem rkey_spec (s : ByteArray)  : Spec Tryz.prog 114 #[.string (s)] [] (β:=Unit) (fun y => .bool (Cmd.keyok s)) (fun y => True) (fun y => []):=by
 refine Spec.enter (vs:=[_]) Tryz.func114 rfl Tryz.ntmps114 rfl (Nat.le_of_ble_eq_true rfl) (fun w0 ok0 => ?_)
 generalize hM0 : blks _ = M0
 have hMn:=@noM _ _ hM0 (by simp [Atom.dat,Atom.elem])
 refine SQ (RG rfl (AS rfl (NI [0] [_] rfl (SQ (RG rfl (MV rfl (BI rfl (bi_len_str Tryz.underlying9) (BN rfl bin_geq (MV rfl (HO_split (d:=6) rfl ?_ ?_))))))))))
 ·intro h6
  replace h6:=dT h6
  refine MV rfl (BI rfl (bi_len_str Tryz.underlying9) (BN rfl bin_leq (PT rfl (AS rfl (NI [2] [_] rfl (R1 Tryz.results114 () rfl (fun w hA => ⟨?_,?_,?_⟩)))))))
  ·(exact congrArg Value.bool (by first | exact Cmd.rkey_t h6 | exact Cmd.rkey_f h6))
  ·trivial
  ·exact hA.keep (m:=[]) (Y:=[]) rfl
 intro h6
 replace h6:=dF h6
 refine NO rfl (NO rfl (NO rfl (PF rfl (AS rfl (NI [2] [_] rfl (R1 Tryz.results114 () rfl (fun w hA => ⟨?_,?_,?_⟩)))))))
 ·(exact congrArg Value.bool (by first | exact Cmd.rkey_t h6 | exact Cmd.rkey_f h6))
 ·trivial
 ·exact hA.keep (m:=[]) (Y:=[]) rfl
theorem rvalue_spec (s : ByteArray)  : Spec Tryz.prog 115 #[.string (s)] [] (β:=Unit) (fun y => .bool (Cmd.valok s)) (fun y => True) (fun y => []):=by
 refine Spec.enter (vs:=[_]) Tryz.func115 rfl Tryz.ntmps115 rfl (Nat.le_of_ble_eq_true rfl) (fun w0 ok0 => ?_)
 generalize hM0 : blks _ = M0
 have hMn:=@noM _ _ hM0 (by simp [Atom.dat,Atom.elem])
 refine SQ (RG rfl (AS rfl (NI [0] [_] rfl (SQ (RG rfl (MV rfl (BI rfl (bi_len_str Tryz.underlying9) (BN rfl bin_leq (AS rfl (NI [2] [_] rfl (R1 Tryz.results115 () rfl (fun w hA => ⟨?_,?_,?_⟩))))))))))))
 ·(exact congrArg Value.bool (Cmd.val_eq s))
 ·trivial
 ·exact hA.keep (m:=[]) (Y:=[]) rfl
set_option maxHeartbeats 0 in
theorem rgood_spec (ki se sq : Int) (ke ol va ti : ByteArray) (li : Int)  : Spec Tryz.prog 82 #[.agg #[.int .i64 (ki),.int .i64 (se),.int .i64 (sq),.string (ke),.string (ol),.string (va),.string (ti),.int .i64 (li)]] [] (β:=Unit) (fun y => .bool (Cmd.good ⟨ki,se,sq,ke,ol,va,ti,li⟩)) (fun y => True) (fun y => []):=by
 refine Spec.enter (vs:=[_]) Tryz.func82 rfl Tryz.ntmps82 rfl (Nat.le_of_ble_eq_true rfl) (fun w0 ok0 => ?_)
 generalize hM0 : blks _ = M0
 have hMn:=@noM _ _ hM0 (by simp [Atom.dat,Atom.elem])
 refine SQ (RG rfl (BX [_,_,_,_,_,_,_,_] rfl ?_))
 intro g1
 refine AS rfl (NI [1] [_] rfl (SQ (RG rfl (FA 0 rfl Tryz.underlying68 rfl Tryz.sizeOf3 (LD 0 0 rfl Tryz.isAgg3 (FA 1 rfl Tryz.underlying68 rfl Tryz.sizeOf3 (LD 0 1 rfl Tryz.isAgg3 (HO_build (xo:=[(0,_),(1,_)]) (vs:=[_,_]) rfl rfl rfl rfl (bd68_0_1_ii) (AO [_,_,_,_,_,_,_,_] Tryz.zeroValue68 rfl ?_)))))))))
 intro g3
 refine SR 0 [] [_,_,_,_,_,_,_,_] [] [_,_,_,_,_,_,_,_] [_] [_,_,_,_,_,_,_,_] Tryz.sizeOf68 rfl (NI [3,1] [_,_] rfl (SQ (SQ (RG rfl (FA 0 rfl Tryz.underlying68 rfl Tryz.sizeOf3 (LD 1 0 rfl Tryz.isAgg3 (NI [11,3,1] [_,_,_] rfl (BO (SQ (RG rfl (BN rfl bin_eql ?_)))))))))))
 refine AS rfl (NI [12,11,3,1] [_,_,_,_] rfl (H_cond rfl ?_ ?_))
 ·intro h12
  replace h12:=dT h12
  refine SQ (RG rfl (LA 1 [] [_,_,_,_,_,_,_,_] [] rfl (.loc _ _ _) Tryz.isAgg68 Tryz.sizeOf68 rfl (HO_build (xo:=[(0,_)]) (vs:=[_]) rfl rfl rfl rfl (bd68_0_i) (BN rfl eq68_eql (AS rfl (NI [2] [_] rfl (WD 0 [] rfl (R1 Tryz.results82 () rfl (fun w hA => ⟨?_,?_,?_⟩)))))))))
  ·(exact congrArg Value.bool (by first | (simp [Cmd.good,Cmd.part,Cmd.fit,Cmd.eqv,Cmd.base,Cmd.empty,Cmd.pos_iff,Cmd.scanok, *] <;> rfl) | (simp_all [Cmd.good,Cmd.part,Cmd.fit,Cmd.eqv,Cmd.base,Cmd.empty,Cmd.pos_iff,Cmd.scanok] <;> intros <;> first | rfl | omega | (rename_i b1 b2 b3 b4 b5 b6;exact h22 (of_decide_eq_true b3) (of_decide_eq_true b4) (of_decide_eq_true b5) (of_decide_eq_true b6)) | (simp_all;done) | (simp_all;omega))))
  ·trivial
  ·exact hA.keep (m:=[]) (Y:=[]) rfl
 intro h12
 replace h12:=dF h12
 refine SQ (RG rfl (BN rfl bin_eql (AS rfl (NI [17,3,1] [_,_,_] rfl (H_cond rfl ?_ ?_)))))
 ·intro h17
  replace h17:=dT h17
  refine SQ (RG rfl (LA 1 [] [_,_,_,_,_,_,_,_] [] rfl (.loc _ _ _) Tryz.isAgg68 Tryz.sizeOf68 rfl (LA 0 [] [_,_,_,_,_,_,_,_] [] rfl (.loc _ _ _) Tryz.isAgg68 Tryz.sizeOf68 rfl (BN rfl eq68_eql (MV rfl (HO_split (d:=22) rfl ?_ ?_))))))
  ·intro h22
   (try simp only [decide_eq_true_eq,decide_eq_false_iff_not,Bool.not_eq_true',Bool.not_eq_false',Bool.not_eq_true,Bool.not_eq_false,Bool.true_eq_false,Bool.false_eq_true,not_false_eq_true,not_true_eq_false] at h22)
   refine FA 1 rfl Tryz.underlying68 rfl Tryz.sizeOf3 (LD 1 1 rfl Tryz.isAgg3 (BN rfl bin_geq (PT rfl (AS rfl (NI [2] [_] rfl (WD 0 [] rfl (R1 Tryz.results82 () rfl (fun w hA => ⟨?_,?_,?_⟩))))))))
   ·(exact congrArg Value.bool (by first | (simp [Cmd.good,Cmd.part,Cmd.fit,Cmd.eqv,Cmd.base,Cmd.empty,Cmd.pos_iff,Cmd.scanok, *] <;> rfl) | (simp_all [Cmd.good,Cmd.part,Cmd.fit,Cmd.eqv,Cmd.base,Cmd.empty,Cmd.pos_iff,Cmd.scanok] <;> intros <;> first | rfl | omega | (rename_i b1 b2 b3 b4 b5 b6;exact h22 (of_decide_eq_true b3) (of_decide_eq_true b4) (of_decide_eq_true b5) (of_decide_eq_true b6)) | (simp_all;done) | (simp_all;omega))))
   ·trivial
   ·exact hA.keep (m:=[]) (Y:=[]) rfl
  intro h22
  (try simp only [decide_eq_true_eq,decide_eq_false_iff_not,Bool.not_eq_true',Bool.not_eq_false',Bool.not_eq_true,Bool.not_eq_false,Bool.true_eq_false,Bool.false_eq_true,not_false_eq_true,not_true_eq_false] at h22)
  refine NO rfl (NO rfl (NO rfl (PF rfl (AS rfl (NI [2] [_] rfl (WD 0 [] rfl (R1 Tryz.results82 () rfl (fun w hA => ⟨?_,?_,?_⟩))))))))
  ·(exact congrArg Value.bool (good2_f h17 h22))
  ·trivial
  ·exact hA.keep (m:=[]) (Y:=[]) rfl
 intro h17
 replace h17:=dF h17
 refine SK (BD (SQ (RG rfl (FA 2 rfl Tryz.underlying68 rfl Tryz.sizeOf3 (LD 1 2 rfl Tryz.isAgg3 (FA 2 rfl Tryz.underlying68 rfl Tryz.sizeOf3 (SR 0 [_,_] [_] [_,_,_,_,_] [_] [_] [_,_,_,_,_,_,_,_] Tryz.sizeOf3 rfl (NI [3,1] [_,_] rfl (SQ (RG rfl (FA 3 rfl Tryz.underlying68 rfl Tryz.sizeOf9 (LD 1 3 rfl Tryz.isAgg9 ?_))))))))))))
 refine FA 3 rfl Tryz.underlying68 rfl Tryz.sizeOf9 (SR 0 [_,_,_] [_] [_,_,_,_] [_] [_] [_,_,_,_,_,_,_,_] Tryz.sizeOf9 rfl (NI [3,1] [_,_] rfl (SQ (RG rfl (FA 3 rfl Tryz.underlying68 rfl Tryz.sizeOf9 (LD 1 3 rfl Tryz.isAgg9 (CB [] [_,_] rfl Tryz.call114 (rkey_spec _) ?_)))))))
 intro y35 hy35
 clear y35 hy35
 refine AS rfl (NI [4,3,1] [_,_,_] rfl (SQ (SQ (RG rfl (FA 0 rfl Tryz.underlying68 rfl Tryz.sizeOf3 (LD 1 0 rfl Tryz.isAgg3 (NI [37,4,3,1] [_,_,_,_] rfl (BO (SQ (RG rfl (BN rfl bin_eql ?_)))))))))))
 refine AS rfl (NI [38,37,4,3,1] [_,_,_,_,_] rfl (H_cond rfl ?_ ?_))
 ·intro h38
  replace h38:=dT h38
  refine SQ (RG rfl (FA 5 rfl Tryz.underlying68 rfl Tryz.sizeOf9 (LD 1 5 rfl Tryz.isAgg9 (FA 5 rfl Tryz.underlying68 rfl Tryz.sizeOf9 (SR 0 [_,_,_,_,_] [_] [_,_] [_] [_] [_,_,_,_,_,_,_,_] Tryz.sizeOf9 rfl (NI [4,3,1] [_,_,_] rfl (RG rfl (MV rfl (MV rfl (HO_split (d:=44) rfl ?_ ?_))))))))))
  ·intro h44
   refine FA 5 rfl Tryz.underlying68 rfl Tryz.sizeOf9 (LD 1 5 rfl Tryz.isAgg9 (CB [] [_,_] rfl Tryz.call115 (rvalue_spec _) ?_))
   intro y47 hy47
   clear y47 hy47
   refine PT rfl (AS rfl (NI [4,3,1] [_,_,_] rfl (BD (SQ (RG rfl (MV rfl (MV rfl (HO_split (d:=100) rfl ?_ ?_))))))))
   ·intro h100
    refine LA 1 [] [_,_,_,_,_,_,_,_] [] rfl (.loc _ _ _) Tryz.isAgg68 Tryz.sizeOf68 rfl (LA 0 [] [_,_,_,_,_,_,_,_] [] rfl (.loc _ _ _) Tryz.isAgg68 Tryz.sizeOf68 rfl (BN rfl eq68_eql (PT rfl (MV rfl (HO_split (d:=105) rfl ?_ ?_)))))
    ·intro h105
     (try simp only [decide_eq_true_eq,decide_eq_false_iff_not,Bool.not_eq_true',Bool.not_eq_false',Bool.not_eq_true,Bool.not_eq_false,Bool.true_eq_false,Bool.false_eq_true,not_false_eq_true,not_true_eq_false] at h105)
     refine FA 1 rfl Tryz.underlying68 rfl Tryz.sizeOf3 (LD 1 1 rfl Tryz.isAgg3 (BN rfl bin_geq (PT rfl (MV rfl (HO_split (d:=110) rfl ?_ ?_)))))
     ·intro h110
      replace h110:=dT h110
      refine FA 2 rfl Tryz.underlying68 rfl Tryz.sizeOf3 (LD 1 2 rfl Tryz.isAgg3 (BN rfl bin_geq (PT rfl (AS rfl (NI [2] [_] rfl (WD 0 [] rfl (R1 Tryz.results82 () rfl (fun w hA => ⟨?_,?_,?_⟩))))))))
      ·(exact congrArg Value.bool (by first | (simp [Cmd.good,Cmd.part,Cmd.fit,Cmd.eqv,Cmd.base,Cmd.empty,Cmd.pos_iff,Cmd.scanok, *] <;> rfl) | (simp_all [Cmd.good,Cmd.part,Cmd.fit,Cmd.eqv,Cmd.base,Cmd.empty,Cmd.pos_iff,Cmd.scanok] <;> intros <;> first | rfl | omega | (rename_i b1 b2 b3 b4 b5 b6;exact h22 (of_decide_eq_true b3) (of_decide_eq_true b4) (of_decide_eq_true b5) (of_decide_eq_true b6)) | (simp_all;done) | (simp_all;omega))))
      ·trivial
      ·exact hA.keep (m:=[]) (Y:=[]) rfl
     intro h110
     replace h110:=dF h110
     refine NO rfl (NO rfl (NO rfl (PF rfl (AS rfl (NI [2] [_] rfl (WD 0 [] rfl (R1 Tryz.results82 () rfl (fun w hA => ⟨?_,?_,?_⟩))))))))
     ·(exact congrArg Value.bool (by first | (simp [Cmd.good,Cmd.part,Cmd.fit,Cmd.eqv,Cmd.base,Cmd.empty,Cmd.pos_iff,Cmd.scanok, *] <;> rfl) | (simp_all [Cmd.good,Cmd.part,Cmd.fit,Cmd.eqv,Cmd.base,Cmd.empty,Cmd.pos_iff,Cmd.scanok] <;> intros <;> first | rfl | omega | (rename_i b1 b2 b3 b4 b5 b6;exact h22 (of_decide_eq_true b3) (of_decide_eq_true b4) (of_decide_eq_true b5) (of_decide_eq_true b6)) | (simp_all;done) | (simp_all;omega))))
     ·trivial
     ·exact hA.keep (m:=[]) (Y:=[]) rfl
    intro h105
    (try simp only [decide_eq_true_eq,decide_eq_false_iff_not,Bool.not_eq_true',Bool.not_eq_false',Bool.not_eq_true,Bool.not_eq_false,Bool.true_eq_false,Bool.false_eq_true,not_false_eq_true,not_true_eq_false] at h105)
    refine NO rfl (NO rfl (NO rfl (PF rfl (MV rfl (NO rfl (NO rfl (NO rfl (PF rfl (AS rfl (NI [2] [_] rfl (WD 0 [] rfl (R1 Tryz.results82 () rfl (fun w hA => ⟨?_,?_,?_⟩)))))))))))))
    ·(exact congrArg Value.bool (by first | (simp [Cmd.good,Cmd.part,Cmd.fit,Cmd.eqv,Cmd.base,Cmd.empty,Cmd.pos_iff,Cmd.scanok, *] <;> rfl) | (simp_all [Cmd.good,Cmd.part,Cmd.fit,Cmd.eqv,Cmd.base,Cmd.empty,Cmd.pos_iff,Cmd.scanok] <;> intros <;> first | rfl | omega | (rename_i b1 b2 b3 b4 b5 b6;exact h22 (of_decide_eq_true b3) (of_decide_eq_true b4) (of_decide_eq_true b5) (of_decide_eq_true b6)) | (simp_all;done) | (simp_all;omega))))
    ·trivial
    ·exact hA.keep (m:=[]) (Y:=[]) rfl
   intro h100
   refine NO rfl (NO rfl (NO rfl (PF rfl (MV rfl (NO rfl (NO rfl (NO rfl (PF rfl (MV rfl (NO rfl (NO rfl (NO rfl (PF rfl ?_)))))))))))))
   refine AS rfl (NI [2] [_] rfl (WD 0 [] rfl (R1 Tryz.results82 () rfl (fun w hA => ⟨?_,?_,?_⟩))))
   ·(exact congrArg Value.bool (by first | (simp [Cmd.good,Cmd.part,Cmd.fit,Cmd.eqv,Cmd.base,Cmd.empty,Cmd.pos_iff,Cmd.scanok, *] <;> rfl) | (simp_all [Cmd.good,Cmd.part,Cmd.fit,Cmd.eqv,Cmd.base,Cmd.empty,Cmd.pos_iff,Cmd.scanok] <;> intros <;> first | rfl | omega | (rename_i b1 b2 b3 b4 b5 b6;exact h22 (of_decide_eq_true b3) (of_decide_eq_true b4) (of_decide_eq_true b5) (of_decide_eq_true b6)) | (simp_all;done) | (simp_all;omega))))
   ·trivial
   ·exact hA.keep (m:=[]) (Y:=[]) rfl
  intro h44
  refine NO rfl (NO rfl (NO rfl (PF rfl (AS rfl (NI [4,3,1] [_,_,_] rfl (BD (SQ (RG rfl (MV rfl (MV rfl (NO rfl (NO rfl ?_))))))))))))
  refine NO rfl (PF rfl (MV rfl (NO rfl (NO rfl (NO rfl (PF rfl (MV rfl (NO rfl (NO rfl (NO rfl (PF rfl (AS rfl (HO_nil ?_)))))))))))))
  refine EV [2] [_] rfl (WD 0 [] rfl (R1 Tryz.results82 () rfl (fun w hA => ⟨?_,?_,?_⟩)))
  ·(exact congrArg Value.bool (by first | (simp [Cmd.good,Cmd.part,Cmd.fit,Cmd.eqv,Cmd.base,Cmd.empty,Cmd.pos_iff,Cmd.scanok, *] <;> rfl) | (simp_all [Cmd.good,Cmd.part,Cmd.fit,Cmd.eqv,Cmd.base,Cmd.empty,Cmd.pos_iff,Cmd.scanok] <;> intros <;> first | rfl | omega | (rename_i b1 b2 b3 b4 b5 b6;exact h22 (of_decide_eq_true b3) (of_decide_eq_true b4) (of_decide_eq_true b5) (of_decide_eq_true b6)) | (simp_all;done) | (simp_all;omega))))
  ·trivial
  ·exact hA.keep (m:=[]) (Y:=[]) rfl
 intro h38
 replace h38:=dF h38
 refine SQ (SQ (RG rfl (BN rfl bin_eql (AS rfl (NI [49,37,4,3,1] [_,_,_,_,_] rfl (H_cond rfl ?_ ?_))))))
 ·intro h49
  replace h49:=dT h49
  refine SK (H_cond rfl ?_ ?_)
  ·intro h49
   replace h49:=dT h49
   refine SK (BD (SQ (RG rfl (MV rfl (MV rfl (HO_split (d:=100) rfl ?_ ?_))))))
   ·intro h100
    refine LA 1 [] [_,_,_,_,_,_,_,_] [] rfl (.loc _ _ _) Tryz.isAgg68 Tryz.sizeOf68 rfl (LA 0 [] [_,_,_,_,_,_,_,_] [] rfl (.loc _ _ _) Tryz.isAgg68 Tryz.sizeOf68 rfl (BN rfl eq68_eql (PT rfl (MV rfl (HO_split (d:=105) rfl ?_ ?_)))))
    ·intro h105
     (try simp only [decide_eq_true_eq,decide_eq_false_iff_not,Bool.not_eq_true',Bool.not_eq_false',Bool.not_eq_true,Bool.not_eq_false,Bool.true_eq_false,Bool.false_eq_true,not_false_eq_true,not_true_eq_false] at h105)
     refine FA 1 rfl Tryz.underlying68 rfl Tryz.sizeOf3 (LD 1 1 rfl Tryz.isAgg3 (BN rfl bin_geq (PT rfl (MV rfl (HO_split (d:=110) rfl ?_ ?_)))))
     ·intro h110
      replace h110:=dT h110
      refine FA 2 rfl Tryz.underlying68 rfl Tryz.sizeOf3 (LD 1 2 rfl Tryz.isAgg3 (BN rfl bin_geq (PT rfl (AS rfl (NI [2] [_] rfl (WD 0 [] rfl (R1 Tryz.results82 () rfl (fun w hA => ⟨?_,?_,?_⟩))))))))
      ·(exact congrArg Value.bool (by first | (simp [Cmd.good,Cmd.part,Cmd.fit,Cmd.eqv,Cmd.base,Cmd.empty,Cmd.pos_iff,Cmd.scanok, *] <;> rfl) | (simp_all [Cmd.good,Cmd.part,Cmd.fit,Cmd.eqv,Cmd.base,Cmd.empty,Cmd.pos_iff,Cmd.scanok] <;> intros <;> first | rfl | omega | (rename_i b1 b2 b3 b4 b5 b6;exact h22 (of_decide_eq_true b3) (of_decide_eq_true b4) (of_decide_eq_true b5) (of_decide_eq_true b6)) | (simp_all;done) | (simp_all;omega))))
      ·trivial
      ·exact hA.keep (m:=[]) (Y:=[]) rfl
     intro h110
     replace h110:=dF h110
     refine NO rfl (NO rfl (NO rfl (PF rfl (AS rfl (NI [2] [_] rfl (WD 0 [] rfl (R1 Tryz.results82 () rfl (fun w hA => ⟨?_,?_,?_⟩))))))))
     ·(exact congrArg Value.bool (by first | (simp [Cmd.good,Cmd.part,Cmd.fit,Cmd.eqv,Cmd.base,Cmd.empty,Cmd.pos_iff,Cmd.scanok, *] <;> rfl) | (simp_all [Cmd.good,Cmd.part,Cmd.fit,Cmd.eqv,Cmd.base,Cmd.empty,Cmd.pos_iff,Cmd.scanok] <;> intros <;> first | rfl | omega | (rename_i b1 b2 b3 b4 b5 b6;exact h22 (of_decide_eq_true b3) (of_decide_eq_true b4) (of_decide_eq_true b5) (of_decide_eq_true b6)) | (simp_all;done) | (simp_all;omega))))
     ·trivial
     ·exact hA.keep (m:=[]) (Y:=[]) rfl
    intro h105
    (try simp only [decide_eq_true_eq,decide_eq_false_iff_not,Bool.not_eq_true',Bool.not_eq_false',Bool.not_eq_true,Bool.not_eq_false,Bool.true_eq_false,Bool.false_eq_true,not_false_eq_true,not_true_eq_false] at h105)
    refine NO rfl (NO rfl (NO rfl (PF rfl (MV rfl (NO rfl (NO rfl (NO rfl (PF rfl (AS rfl (NI [2] [_] rfl (WD 0 [] rfl (R1 Tryz.results82 () rfl (fun w hA => ⟨?_,?_,?_⟩)))))))))))))
    ·(exact congrArg Value.bool (by first | (simp [Cmd.good,Cmd.part,Cmd.fit,Cmd.eqv,Cmd.base,Cmd.empty,Cmd.pos_iff,Cmd.scanok, *] <;> rfl) | (simp_all [Cmd.good,Cmd.part,Cmd.fit,Cmd.eqv,Cmd.base,Cmd.empty,Cmd.pos_iff,Cmd.scanok] <;> intros <;> first | rfl | omega | (rename_i b1 b2 b3 b4 b5 b6;exact h22 (of_decide_eq_true b3) (of_decide_eq_true b4) (of_decide_eq_true b5) (of_decide_eq_true b6)) | (simp_all;done) | (simp_all;omega))))
    ·trivial
    ·exact hA.keep (m:=[]) (Y:=[]) rfl
   intro h100
   refine NO rfl (NO rfl (NO rfl (PF rfl (MV rfl (NO rfl (NO rfl (NO rfl (PF rfl (MV rfl (NO rfl (NO rfl (NO rfl (PF rfl ?_)))))))))))))
   refine AS rfl (NI [2] [_] rfl (WD 0 [] rfl (R1 Tryz.results82 () rfl (fun w hA => ⟨?_,?_,?_⟩))))
   ·(exact congrArg Value.bool (by first | (simp [Cmd.good,Cmd.part,Cmd.fit,Cmd.eqv,Cmd.base,Cmd.empty,Cmd.pos_iff,Cmd.scanok, *] <;> rfl) | (simp_all [Cmd.good,Cmd.part,Cmd.fit,Cmd.eqv,Cmd.base,Cmd.empty,Cmd.pos_iff,Cmd.scanok] <;> intros <;> first | rfl | omega | (rename_i b1 b2 b3 b4 b5 b6;exact h22 (of_decide_eq_true b3) (of_decide_eq_true b4) (of_decide_eq_true b5) (of_decide_eq_true b6)) | (simp_all;done) | (simp_all;omega))))
   ·trivial
   ·exact hA.keep (m:=[]) (Y:=[]) rfl
  intro h49
  replace h49:=dF h49
  refine SQ (RG rfl (BN rfl bin_eql (AS rfl (NI [52,37,4,3,1] [_,_,_,_,_] rfl (H_cond rfl ?_ ?_)))))
  ·intro h52
   replace h52:=dT h52
   refine SQ (H_drawB (m:=[nn,yy]) (Xs:=[_]) (fuel:=8) (l:=#[false,false,false,false,false,false,false,false]) mixed rfl rfl rfl (TK 0 2 [_] rfl (by kernel_rfl) (V_fieldAddr (r:=4) rfl Tryz.underlying68 rfl Tryz.sizeOf9 rfl) (TK 1 2 [_] rfl (by kernel_rfl) (V_load1 (i:=0) (j:=4) rfl Tryz.isAgg9 rfl (.loc _ _ _) rfl rfl) (TK 2 2 [_] rfl (by kernel_rfl) (V_fieldAddr (r:=5) rfl Tryz.underlying68 rfl Tryz.sizeOf9 rfl) (TK 3 2 [_] rfl (by kernel_rfl) (V_load1 (i:=0) (j:=5) rfl Tryz.isAgg9 rfl (.loc _ _ _) rfl rfl) (TK 4 2 [_] rfl (by kernel_rfl) (V_fieldAddr (r:=4) rfl Tryz.underlying68 rfl Tryz.sizeOf9 rfl) (LO 5 (by kernel_rfl) rfl (SR 0 [_,_,_,_] [_] [_,_,_] [_] [_] [_,_,_,_,_,_,_,_] Tryz.sizeOf9 rfl (BK 2 [_] rfl (TK 6 2 [_] rfl (by kernel_rfl) (V_fieldAddr (r:=5) rfl Tryz.underlying68 rfl Tryz.sizeOf9 rfl) (LO 7 (by kernel_rfl) rfl (SR 0 [_,_,_,_,_] [_] [_,_] [_] [_] [_,_,_,_,_,_,_,_] Tryz.sizeOf9 rfl (BK 2 [_] rfl ?_)))))))))))))
   refine HA_done (by kernel_rfl) (EV [4,3,1] [_,_,_] rfl (RG rfl (MV rfl (MV rfl (HO_split (d:=61) rfl ?_ ?_)))))
   ·intro h61
    refine FA 4 rfl Tryz.underlying68 rfl Tryz.sizeOf9 (LD 1 4 rfl Tryz.isAgg9 (CB [] [_,_] rfl Tryz.call115 (rvalue_spec _) ?_))
    intro y64 hy64
    clear y64 hy64
    refine PT rfl (MV rfl (HO_split (d:=66) rfl ?_ ?_))
    ·intro h66
     refine FA 5 rfl Tryz.underlying68 rfl Tryz.sizeOf9 (LD 1 5 rfl Tryz.isAgg9 (CB [] [_,_] rfl Tryz.call115 (rvalue_spec _) ?_))
     intro y69 hy69
     clear y69 hy69
     refine PT rfl (AS rfl (NI [4,3,1] [_,_,_] rfl (BD (SQ (RG rfl (MV rfl (MV rfl (HO_split (d:=100) rfl ?_ ?_))))))))
     ·intro h100
      refine LA 1 [] [_,_,_,_,_,_,_,_] [] rfl (.loc _ _ _) Tryz.isAgg68 Tryz.sizeOf68 rfl (LA 0 [] [_,_,_,_,_,_,_,_] [] rfl (.loc _ _ _) Tryz.isAgg68 Tryz.sizeOf68 rfl (BN rfl eq68_eql (PT rfl (MV rfl (HO_split (d:=105) rfl ?_ ?_)))))
      ·intro h105
       (try simp only [decide_eq_true_eq,decide_eq_false_iff_not,Bool.not_eq_true',Bool.not_eq_false',Bool.not_eq_true,Bool.not_eq_false,Bool.true_eq_false,Bool.false_eq_true,not_false_eq_true,not_true_eq_false] at h105)
       refine FA 1 rfl Tryz.underlying68 rfl Tryz.sizeOf3 (LD 1 1 rfl Tryz.isAgg3 (BN rfl bin_geq (PT rfl (MV rfl (HO_split (d:=110) rfl ?_ ?_)))))
       ·intro h110
        replace h110:=dT h110
        refine FA 2 rfl Tryz.underlying68 rfl Tryz.sizeOf3 (LD 1 2 rfl Tryz.isAgg3 (BN rfl bin_geq (PT rfl (AS rfl (NI [2] [_] rfl (WD 0 [] rfl (R1 Tryz.results82 () rfl (fun w hA => ⟨?_,?_,?_⟩))))))))
        ·(exact congrArg Value.bool (by first | (simp [Cmd.good,Cmd.part,Cmd.fit,Cmd.eqv,Cmd.base,Cmd.empty,Cmd.pos_iff,Cmd.scanok, *] <;> rfl) | (simp_all [Cmd.good,Cmd.part,Cmd.fit,Cmd.eqv,Cmd.base,Cmd.empty,Cmd.pos_iff,Cmd.scanok] <;> intros <;> first | rfl | omega | (rename_i b1 b2 b3 b4 b5 b6;exact h22 (of_decide_eq_true b3) (of_decide_eq_true b4) (of_decide_eq_true b5) (of_decide_eq_true b6)) | (simp_all;done) | (simp_all;omega))))
        ·trivial
        ·exact hA.keep (m:=[]) (Y:=[]) rfl
       intro h110
       replace h110:=dF h110
       refine NO rfl (NO rfl (NO rfl (PF rfl (AS rfl (NI [2] [_] rfl (WD 0 [] rfl (R1 Tryz.results82 () rfl (fun w hA => ⟨?_,?_,?_⟩))))))))
       ·(exact congrArg Value.bool (by first | (simp [Cmd.good,Cmd.part,Cmd.fit,Cmd.eqv,Cmd.base,Cmd.empty,Cmd.pos_iff,Cmd.scanok, *] <;> rfl) | (simp_all [Cmd.good,Cmd.part,Cmd.fit,Cmd.eqv,Cmd.base,Cmd.empty,Cmd.pos_iff,Cmd.scanok] <;> intros <;> first | rfl | omega | (rename_i b1 b2 b3 b4 b5 b6;exact h22 (of_decide_eq_true b3) (of_decide_eq_true b4) (of_decide_eq_true b5) (of_decide_eq_true b6)) | (simp_all;done) | (simp_all;omega))))
       ·trivial
       ·exact hA.keep (m:=[]) (Y:=[]) rfl
      intro h105
      (try simp only [decide_eq_true_eq,decide_eq_false_iff_not,Bool.not_eq_true',Bool.not_eq_false',Bool.not_eq_true,Bool.not_eq_false,Bool.true_eq_false,Bool.false_eq_true,not_false_eq_true,not_true_eq_false] at h105)
      refine NO rfl (NO rfl (NO rfl (PF rfl (MV rfl (NO rfl (NO rfl (NO rfl (PF rfl (AS rfl (NI [2] [_] rfl (WD 0 [] rfl (R1 Tryz.results82 () rfl (fun w hA => ⟨?_,?_,?_⟩)))))))))))))
      ·(exact congrArg Value.bool (by first | (simp [Cmd.good,Cmd.part,Cmd.fit,Cmd.eqv,Cmd.base,Cmd.empty,Cmd.pos_iff,Cmd.scanok, *] <;> rfl) | (simp_all [Cmd.good,Cmd.part,Cmd.fit,Cmd.eqv,Cmd.base,Cmd.empty,Cmd.pos_iff,Cmd.scanok] <;> intros <;> first | rfl | omega | (rename_i b1 b2 b3 b4 b5 b6;exact h22 (of_decide_eq_true b3) (of_decide_eq_true b4) (of_decide_eq_true b5) (of_decide_eq_true b6)) | (simp_all;done) | (simp_all;omega))))
      ·trivial
      ·exact hA.keep (m:=[]) (Y:=[]) rfl
     intro h100
     refine NO rfl (NO rfl (NO rfl (PF rfl (MV rfl (NO rfl (NO rfl (NO rfl (PF rfl (MV rfl (NO rfl (NO rfl (NO rfl (PF rfl ?_)))))))))))))
     refine AS rfl (NI [2] [_] rfl (WD 0 [] rfl (R1 Tryz.results82 () rfl (fun w hA => ⟨?_,?_,?_⟩))))
     ·(exact congrArg Value.bool (by first | (simp [Cmd.good,Cmd.part,Cmd.fit,Cmd.eqv,Cmd.base,Cmd.empty,Cmd.pos_iff,Cmd.scanok, *] <;> rfl) | (simp_all [Cmd.good,Cmd.part,Cmd.fit,Cmd.eqv,Cmd.base,Cmd.empty,Cmd.pos_iff,Cmd.scanok] <;> intros <;> first | rfl | omega | (rename_i b1 b2 b3 b4 b5 b6;exact h22 (of_decide_eq_true b3) (of_decide_eq_true b4) (of_decide_eq_true b5) (of_decide_eq_true b6)) | (simp_all;done) | (simp_all;omega))))
     ·trivial
     ·exact hA.keep (m:=[]) (Y:=[]) rfl
    intro h66
    refine NO rfl (NO rfl (NO rfl (PF rfl (AS rfl (NI [4,3,1] [_,_,_] rfl (BD (SQ (RG rfl (MV rfl (MV rfl (NO rfl (NO rfl ?_))))))))))))
    refine NO rfl (PF rfl (MV rfl (NO rfl (NO rfl (NO rfl (PF rfl (MV rfl (NO rfl (NO rfl (NO rfl (PF rfl (AS rfl (HO_nil ?_)))))))))))))
    refine EV [2] [_] rfl (WD 0 [] rfl (R1 Tryz.results82 () rfl (fun w hA => ⟨?_,?_,?_⟩)))
    ·(exact congrArg Value.bool (by first | (simp [Cmd.good,Cmd.part,Cmd.fit,Cmd.eqv,Cmd.base,Cmd.empty,Cmd.pos_iff,Cmd.scanok, *] <;> rfl) | (simp_all [Cmd.good,Cmd.part,Cmd.fit,Cmd.eqv,Cmd.base,Cmd.empty,Cmd.pos_iff,Cmd.scanok] <;> intros <;> first | rfl | omega | (rename_i b1 b2 b3 b4 b5 b6;exact h22 (of_decide_eq_true b3) (of_decide_eq_true b4) (of_decide_eq_true b5) (of_decide_eq_true b6)) | (simp_all;done) | (simp_all;omega))))
    ·trivial
    ·exact hA.keep (m:=[]) (Y:=[]) rfl
   intro h61
   refine NO rfl (NO rfl (NO rfl (PF rfl (MV rfl (NO rfl (NO rfl (NO rfl (PF rfl (AS rfl (NI [4,3,1] [_,_,_] rfl (BD (SQ ?_))))))))))))
   refine RG rfl (MV rfl (MV rfl (NO rfl (NO rfl (NO rfl (PF rfl (MV rfl (NO rfl (NO rfl (NO rfl (PF rfl (MV rfl (NO rfl ?_)))))))))))))
   refine NO rfl (NO rfl (PF rfl (AS rfl (NI [2] [_] rfl (WD 0 [] rfl (R1 Tryz.results82 () rfl (fun w hA => ⟨?_,?_,?_⟩)))))))
   ·(exact congrArg Value.bool (by first | (simp [Cmd.good,Cmd.part,Cmd.fit,Cmd.eqv,Cmd.base,Cmd.empty,Cmd.pos_iff,Cmd.scanok, *] <;> rfl) | (simp_all [Cmd.good,Cmd.part,Cmd.fit,Cmd.eqv,Cmd.base,Cmd.empty,Cmd.pos_iff,Cmd.scanok] <;> intros <;> first | rfl | omega | (rename_i b1 b2 b3 b4 b5 b6;exact h22 (of_decide_eq_true b3) (of_decide_eq_true b4) (of_decide_eq_true b5) (of_decide_eq_true b6)) | (simp_all;done) | (simp_all;omega))))
   ·trivial
   ·exact hA.keep (m:=[]) (Y:=[]) rfl
  intro h52
  replace h52:=dF h52
  refine SQ (RG rfl (BN rfl bin_eql (AS rfl (NI [71,3,1] [_,_,_] rfl (H_cond rfl ?_ ?_)))))
  ·intro h71
   replace h71:=dT h71
   refine SQ (H_drawB (m:=[nn,yy]) (Xs:=[_]) (fuel:=8) (l:=#[false,false,false,false,false,false,false,false]) mixed rfl rfl rfl (TK 0 2 [_] rfl (by kernel_rfl) (V_fieldAddr (r:=6) rfl Tryz.underlying68 rfl Tryz.sizeOf9 rfl) (TK 1 2 [_] rfl (by kernel_rfl) (V_load1 (i:=0) (j:=6) rfl Tryz.isAgg9 rfl (.loc _ _ _) rfl rfl) (TK 2 2 [_] rfl (by kernel_rfl) (V_fieldAddr (r:=7) rfl Tryz.underlying68 rfl Tryz.sizeOf3 rfl) (TK 3 2 [_] rfl (by kernel_rfl) (V_load1 (i:=0) (j:=7) rfl Tryz.isAgg3 rfl (.loc _ _ _) rfl rfl) (TK 4 2 [_] rfl (by kernel_rfl) (V_fieldAddr (r:=6) rfl Tryz.underlying68 rfl Tryz.sizeOf9 rfl) (LO 5 (by kernel_rfl) rfl (SR 0 [_,_,_,_,_,_] [_] [_] [_] [_] [_,_,_,_,_,_,_,_] Tryz.sizeOf9 rfl (BK 2 [_] rfl (TK 6 2 [_] rfl (by kernel_rfl) (V_fieldAddr (r:=7) rfl Tryz.underlying68 rfl Tryz.sizeOf3 rfl) (LO 7 (by kernel_rfl) rfl (SR 0 [_,_,_,_,_,_,_] [_] [] [_] [_] [_,_,_,_,_,_,_,_] Tryz.sizeOf3 rfl (BK 2 [_] rfl ?_)))))))))))))
   refine HA_done (by kernel_rfl) (EV [3,1] [_,_] rfl (RG rfl (FA 3 rfl Tryz.underlying68 rfl Tryz.sizeOf9 (LD 1 3 rfl Tryz.isAgg9 (BI rfl (bi_len_str Tryz.underlying9) (BN rfl bin_leq (MV rfl (HO_split (d:=83) rfl ?_ ?_))))))))
   ·intro h83
    replace h83:=dT h83
    refine FA 6 rfl Tryz.underlying68 rfl Tryz.sizeOf9 (LD 1 6 rfl Tryz.isAgg9 (BI rfl (bi_len_str Tryz.underlying9) (BN rfl bin_leq (PT rfl (MV rfl (HO_split (d:=89) rfl ?_ ?_))))))
    ·intro h89
     replace h89:=dT h89
     refine FA 7 rfl Tryz.underlying68 rfl Tryz.sizeOf3 (LD 1 7 rfl Tryz.isAgg3 (BN rfl bin_geq (PT rfl (MV rfl (HO_split (d:=94) rfl ?_ ?_)))))
     ·intro h94
      replace h94:=dT h94
      refine FA 7 rfl Tryz.underlying68 rfl Tryz.sizeOf3 (LD 1 7 rfl Tryz.isAgg3 (BN rfl bin_leq (PT rfl (AS rfl (NI [4,3,1] [_,_,_] rfl (BD (SQ (RG rfl (MV rfl (MV rfl (HO_split (d:=100) rfl ?_ ?_)))))))))))
      ·intro h100
       replace h100:=dT h100
       refine LA 1 [] [_,_,_,_,_,_,_,_] [] rfl (.loc _ _ _) Tryz.isAgg68 Tryz.sizeOf68 rfl (LA 0 [] [_,_,_,_,_,_,_,_] [] rfl (.loc _ _ _) Tryz.isAgg68 Tryz.sizeOf68 rfl (BN rfl eq68_eql (PT rfl (MV rfl (HO_split (d:=105) rfl ?_ ?_)))))
       ·intro h105
        (try simp only [decide_eq_true_eq,decide_eq_false_iff_not,Bool.not_eq_true',Bool.not_eq_false',Bool.not_eq_true,Bool.not_eq_false,Bool.true_eq_false,Bool.false_eq_true,not_false_eq_true,not_true_eq_false] at h105)
        refine FA 1 rfl Tryz.underlying68 rfl Tryz.sizeOf3 (LD 1 1 rfl Tryz.isAgg3 (BN rfl bin_geq (PT rfl (MV rfl (HO_split (d:=110) rfl ?_ ?_)))))
        ·intro h110
         replace h110:=dT h110
         refine FA 2 rfl Tryz.underlying68 rfl Tryz.sizeOf3 (LD 1 2 rfl Tryz.isAgg3 (BN rfl bin_geq (PT rfl (AS rfl (NI [2] [_] rfl (WD 0 [] rfl (R1 Tryz.results82 () rfl (fun w hA => ⟨?_,?_,?_⟩))))))))
         ·(exact congrArg Value.bool (by first | (simp [Cmd.good,Cmd.part,Cmd.fit,Cmd.eqv,Cmd.base,Cmd.empty,Cmd.pos_iff,Cmd.scanok, *] <;> rfl) | (simp_all [Cmd.good,Cmd.part,Cmd.fit,Cmd.eqv,Cmd.base,Cmd.empty,Cmd.pos_iff,Cmd.scanok] <;> intros <;> first | rfl | omega | (rename_i b1 b2 b3 b4 b5 b6;exact h22 (of_decide_eq_true b3) (of_decide_eq_true b4) (of_decide_eq_true b5) (of_decide_eq_true b6)) | (simp_all;done) | (simp_all;omega))))
         ·trivial
         ·exact hA.keep (m:=[]) (Y:=[]) rfl
        intro h110
        replace h110:=dF h110
        refine NO rfl (NO rfl (NO rfl (PF rfl (AS rfl (NI [2] [_] rfl (WD 0 [] rfl (R1 Tryz.results82 () rfl (fun w hA => ⟨?_,?_,?_⟩))))))))
        ·(exact congrArg Value.bool (by first | (simp [Cmd.good,Cmd.part,Cmd.fit,Cmd.eqv,Cmd.base,Cmd.empty,Cmd.pos_iff,Cmd.scanok, *] <;> rfl) | (simp_all [Cmd.good,Cmd.part,Cmd.fit,Cmd.eqv,Cmd.base,Cmd.empty,Cmd.pos_iff,Cmd.scanok] <;> intros <;> first | rfl | omega | (rename_i b1 b2 b3 b4 b5 b6;exact h22 (of_decide_eq_true b3) (of_decide_eq_true b4) (of_decide_eq_true b5) (of_decide_eq_true b6)) | (simp_all;done) | (simp_all;omega))))
        ·trivial
        ·exact hA.keep (m:=[]) (Y:=[]) rfl
       intro h105
       (try simp only [decide_eq_true_eq,decide_eq_false_iff_not,Bool.not_eq_true',Bool.not_eq_false',Bool.not_eq_true,Bool.not_eq_false,Bool.true_eq_false,Bool.false_eq_true,not_false_eq_true,not_true_eq_false] at h105)
       refine NO rfl (NO rfl (NO rfl (PF rfl (MV rfl (NO rfl (NO rfl (NO rfl (PF rfl (AS rfl (NI [2] [_] rfl (WD 0 [] rfl (R1 Tryz.results82 () rfl (fun w hA => ⟨?_,?_,?_⟩)))))))))))))
       ·(exact congrArg Value.bool (by first | (simp [Cmd.good,Cmd.part,Cmd.fit,Cmd.eqv,Cmd.base,Cmd.empty,Cmd.pos_iff,Cmd.scanok, *] <;> rfl) | (simp_all [Cmd.good,Cmd.part,Cmd.fit,Cmd.eqv,Cmd.base,Cmd.empty,Cmd.pos_iff,Cmd.scanok] <;> intros <;> first | rfl | omega | (rename_i b1 b2 b3 b4 b5 b6;exact h22 (of_decide_eq_true b3) (of_decide_eq_true b4) (of_decide_eq_true b5) (of_decide_eq_true b6)) | (simp_all;done) | (simp_all;omega))))
       ·trivial
       ·exact hA.keep (m:=[]) (Y:=[]) rfl
      intro h100
      replace h100:=dF h100
      refine NO rfl (NO rfl (NO rfl (PF rfl (MV rfl (NO rfl (NO rfl (NO rfl (PF rfl (MV rfl (NO rfl (NO rfl (NO rfl (PF rfl ?_)))))))))))))
      refine AS rfl (NI [2] [_] rfl (WD 0 [] rfl (R1 Tryz.results82 () rfl (fun w hA => ⟨?_,?_,?_⟩))))
      ·(exact congrArg Value.bool (by first | (simp [Cmd.good,Cmd.part,Cmd.fit,Cmd.eqv,Cmd.base,Cmd.empty,Cmd.pos_iff,Cmd.scanok, *] <;> rfl) | (simp_all [Cmd.good,Cmd.part,Cmd.fit,Cmd.eqv,Cmd.base,Cmd.empty,Cmd.pos_iff,Cmd.scanok] <;> intros <;> first | rfl | omega | (rename_i b1 b2 b3 b4 b5 b6;exact h22 (of_decide_eq_true b3) (of_decide_eq_true b4) (of_decide_eq_true b5) (of_decide_eq_true b6)) | (simp_all;done) | (simp_all;omega))))
      ·trivial
      ·exact hA.keep (m:=[]) (Y:=[]) rfl
     intro h94
     replace h94:=dF h94
     refine NO rfl (NO rfl (NO rfl (PF rfl (AS rfl (NI [4,3,1] [_,_,_] rfl (BD (SQ (RG rfl (MV rfl (MV rfl (NO rfl (NO rfl ?_))))))))))))
     refine NO rfl (PF rfl (MV rfl (NO rfl (NO rfl (NO rfl (PF rfl (MV rfl (NO rfl (NO rfl (NO rfl (PF rfl (AS rfl (HO_nil ?_)))))))))))))
     refine EV [2] [_] rfl (WD 0 [] rfl (R1 Tryz.results82 () rfl (fun w hA => ⟨?_,?_,?_⟩)))
     ·(exact congrArg Value.bool (by first | (simp [Cmd.good,Cmd.part,Cmd.fit,Cmd.eqv,Cmd.base,Cmd.empty,Cmd.pos_iff,Cmd.scanok, *] <;> rfl) | (simp_all [Cmd.good,Cmd.part,Cmd.fit,Cmd.eqv,Cmd.base,Cmd.empty,Cmd.pos_iff,Cmd.scanok] <;> intros <;> first | rfl | omega | (rename_i b1 b2 b3 b4 b5 b6;exact h22 (of_decide_eq_true b3) (of_decide_eq_true b4) (of_decide_eq_true b5) (of_decide_eq_true b6)) | (simp_all;done) | (simp_all;omega))))
     ·trivial
     ·exact hA.keep (m:=[]) (Y:=[]) rfl
    intro h89
    replace h89:=dF h89
    refine NO rfl (NO rfl (NO rfl (PF rfl (MV rfl (NO rfl (NO rfl (NO rfl (PF rfl (AS rfl (NI [4,3,1] [_,_,_] rfl (BD (SQ ?_))))))))))))
    refine RG rfl (MV rfl (MV rfl (NO rfl (NO rfl (NO rfl (PF rfl (MV rfl (NO rfl (NO rfl (NO rfl (PF rfl (MV rfl (NO rfl ?_)))))))))))))
    refine NO rfl (NO rfl (PF rfl (AS rfl (NI [2] [_] rfl (WD 0 [] rfl (R1 Tryz.results82 () rfl (fun w hA => ⟨?_,?_,?_⟩)))))))
    ·(exact congrArg Value.bool (by first | (simp [Cmd.good,Cmd.part,Cmd.fit,Cmd.eqv,Cmd.base,Cmd.empty,Cmd.pos_iff,Cmd.scanok, *] <;> rfl) | (simp_all [Cmd.good,Cmd.part,Cmd.fit,Cmd.eqv,Cmd.base,Cmd.empty,Cmd.pos_iff,Cmd.scanok] <;> intros <;> first | rfl | omega | (rename_i b1 b2 b3 b4 b5 b6;exact h22 (of_decide_eq_true b3) (of_decide_eq_true b4) (of_decide_eq_true b5) (of_decide_eq_true b6)) | (simp_all;done) | (simp_all;omega))))
    ·trivial
    ·exact hA.keep (m:=[]) (Y:=[]) rfl
   intro h83
   replace h83:=dF h83
   refine NO rfl (NO rfl (NO rfl (NO rfl (PF rfl (MV rfl (NO rfl (NO rfl (NO rfl (PF rfl (MV rfl (NO rfl (NO rfl (NO rfl ?_)))))))))))))
   refine PF rfl (AS rfl (NI [4,3,1] [_,_,_] rfl (BD (SQ (RG rfl (MV rfl (MV rfl (NO rfl (NO rfl (NO rfl (PF rfl (MV rfl ?_))))))))))))
   refine NO rfl (NO rfl (NO rfl (PF rfl (MV rfl (NO rfl (NO rfl (NO rfl (PF rfl (AS rfl (NI [2] [_] rfl (WD 0 [] rfl (R1 Tryz.results82 () rfl (fun w hA => ⟨?_,?_,?_⟩)))))))))))))
   ·(exact congrArg Value.bool (by first | (simp [Cmd.good,Cmd.part,Cmd.fit,Cmd.eqv,Cmd.base,Cmd.empty,Cmd.pos_iff,Cmd.scanok, *] <;> rfl) | (simp_all [Cmd.good,Cmd.part,Cmd.fit,Cmd.eqv,Cmd.base,Cmd.empty,Cmd.pos_iff,Cmd.scanok] <;> intros <;> first | rfl | omega | (rename_i b1 b2 b3 b4 b5 b6;exact h22 (of_decide_eq_true b3) (of_decide_eq_true b4) (of_decide_eq_true b5) (of_decide_eq_true b6)) | (simp_all;done) | (simp_all;omega))))
   ·trivial
   ·exact hA.keep (m:=[]) (Y:=[]) rfl
  intro h71
  replace h71:=dF h71
  refine SQ (RG rfl (AS rfl (NI [2] [_] rfl (WD 0 [] rfl (R1 Tryz.results82 () rfl (fun w hA => ⟨?_,?_,?_⟩))))))
  ·(exact congrArg Value.bool (by first | (simp [Cmd.good,Cmd.part,Cmd.fit,Cmd.eqv,Cmd.base,Cmd.empty,Cmd.pos_iff,Cmd.scanok, *] <;> rfl) | (simp_all [Cmd.good,Cmd.part,Cmd.fit,Cmd.eqv,Cmd.base,Cmd.empty,Cmd.pos_iff,Cmd.scanok] <;> intros <;> first | rfl | omega | (rename_i b1 b2 b3 b4 b5 b6;exact h22 (of_decide_eq_true b3) (of_decide_eq_true b4) (of_decide_eq_true b5) (of_decide_eq_true b6)) | (simp_all;done) | (simp_all;omega))))
  ·trivial
  ·exact hA.keep (m:=[]) (Y:=[]) rfl
 intro h49
 replace h49:=dF h49
 refine RG rfl (BN rfl bin_eql (AS rfl (NI [49,37,4,3,1] [_,_,_,_,_] rfl (H_cond rfl ?_ ?_))))
 ·intro h49
  replace h49:=dT h49
  refine SK (BD (SQ (RG rfl (MV rfl (MV rfl (HO_split (d:=100) rfl ?_ ?_))))))
  ·intro h100
   refine LA 1 [] [_,_,_,_,_,_,_,_] [] rfl (.loc _ _ _) Tryz.isAgg68 Tryz.sizeOf68 rfl (LA 0 [] [_,_,_,_,_,_,_,_] [] rfl (.loc _ _ _) Tryz.isAgg68 Tryz.sizeOf68 rfl (BN rfl eq68_eql (PT rfl (MV rfl (HO_split (d:=105) rfl ?_ ?_)))))
   ·intro h105
    (try simp only [decide_eq_true_eq,decide_eq_false_iff_not,Bool.not_eq_true',Bool.not_eq_false',Bool.not_eq_true,Bool.not_eq_false,Bool.true_eq_false,Bool.false_eq_true,not_false_eq_true,not_true_eq_false] at h105)
    refine FA 1 rfl Tryz.underlying68 rfl Tryz.sizeOf3 (LD 1 1 rfl Tryz.isAgg3 (BN rfl bin_geq (PT rfl (MV rfl (HO_split (d:=110) rfl ?_ ?_)))))
    ·intro h110
     replace h110:=dT h110
     refine FA 2 rfl Tryz.underlying68 rfl Tryz.sizeOf3 (LD 1 2 rfl Tryz.isAgg3 (BN rfl bin_geq (PT rfl (AS rfl (NI [2] [_] rfl (WD 0 [] rfl (R1 Tryz.results82 () rfl (fun w hA => ⟨?_,?_,?_⟩))))))))
     ·(exact congrArg Value.bool (by first | (simp [Cmd.good,Cmd.part,Cmd.fit,Cmd.eqv,Cmd.base,Cmd.empty,Cmd.pos_iff,Cmd.scanok, *] <;> rfl) | (simp_all [Cmd.good,Cmd.part,Cmd.fit,Cmd.eqv,Cmd.base,Cmd.empty,Cmd.pos_iff,Cmd.scanok] <;> intros <;> first | rfl | omega | (rename_i b1 b2 b3 b4 b5 b6;exact h22 (of_decide_eq_true b3) (of_decide_eq_true b4) (of_decide_eq_true b5) (of_decide_eq_true b6)) | (simp_all;done) | (simp_all;omega))))
     ·trivial
     ·exact hA.keep (m:=[]) (Y:=[]) rfl
    intro h110
    replace h110:=dF h110
    refine NO rfl (NO rfl (NO rfl (PF rfl (AS rfl (NI [2] [_] rfl (WD 0 [] rfl (R1 Tryz.results82 () rfl (fun w hA => ⟨?_,?_,?_⟩))))))))
    ·(exact congrArg Value.bool (by first | (simp [Cmd.good,Cmd.part,Cmd.fit,Cmd.eqv,Cmd.base,Cmd.empty,Cmd.pos_iff,Cmd.scanok, *] <;> rfl) | (simp_all [Cmd.good,Cmd.part,Cmd.fit,Cmd.eqv,Cmd.base,Cmd.empty,Cmd.pos_iff,Cmd.scanok] <;> intros <;> first | rfl | omega | (rename_i b1 b2 b3 b4 b5 b6;exact h22 (of_decide_eq_true b3) (of_decide_eq_true b4) (of_decide_eq_true b5) (of_decide_eq_true b6)) | (simp_all;done) | (simp_all;omega))))
    ·trivial
    ·exact hA.keep (m:=[]) (Y:=[]) rfl
   intro h105
   (try simp only [decide_eq_true_eq,decide_eq_false_iff_not,Bool.not_eq_true',Bool.not_eq_false',Bool.not_eq_true,Bool.not_eq_false,Bool.true_eq_false,Bool.false_eq_true,not_false_eq_true,not_true_eq_false] at h105)
   refine NO rfl (NO rfl (NO rfl (PF rfl (MV rfl (NO rfl (NO rfl (NO rfl (PF rfl (AS rfl (NI [2] [_] rfl (WD 0 [] rfl (R1 Tryz.results82 () rfl (fun w hA => ⟨?_,?_,?_⟩)))))))))))))
   ·(exact congrArg Value.bool (by first | (simp [Cmd.good,Cmd.part,Cmd.fit,Cmd.eqv,Cmd.base,Cmd.empty,Cmd.pos_iff,Cmd.scanok, *] <;> rfl) | (simp_all [Cmd.good,Cmd.part,Cmd.fit,Cmd.eqv,Cmd.base,Cmd.empty,Cmd.pos_iff,Cmd.scanok] <;> intros <;> first | rfl | omega | (rename_i b1 b2 b3 b4 b5 b6;exact h22 (of_decide_eq_true b3) (of_decide_eq_true b4) (of_decide_eq_true b5) (of_decide_eq_true b6)) | (simp_all;done) | (simp_all;omega))))
   ·trivial
   ·exact hA.keep (m:=[]) (Y:=[]) rfl
  intro h100
  refine NO rfl (NO rfl (NO rfl (PF rfl (MV rfl (NO rfl (NO rfl (NO rfl (PF rfl (MV rfl (NO rfl (NO rfl (NO rfl (PF rfl ?_)))))))))))))
  refine AS rfl (NI [2] [_] rfl (WD 0 [] rfl (R1 Tryz.results82 () rfl (fun w hA => ⟨?_,?_,?_⟩))))
  ·(exact congrArg Value.bool (by first | (simp [Cmd.good,Cmd.part,Cmd.fit,Cmd.eqv,Cmd.base,Cmd.empty,Cmd.pos_iff,Cmd.scanok, *] <;> rfl) | (simp_all [Cmd.good,Cmd.part,Cmd.fit,Cmd.eqv,Cmd.base,Cmd.empty,Cmd.pos_iff,Cmd.scanok] <;> intros <;> first | rfl | omega | (rename_i b1 b2 b3 b4 b5 b6;exact h22 (of_decide_eq_true b3) (of_decide_eq_true b4) (of_decide_eq_true b5) (of_decide_eq_true b6)) | (simp_all;done) | (simp_all;omega))))
  ·trivial
  ·exact hA.keep (m:=[]) (Y:=[]) rfl
 intro h49
 replace h49:=dF h49
 refine SQ (RG rfl (BN rfl bin_eql (AS rfl (NI [52,37,4,3,1] [_,_,_,_,_] rfl (H_cond rfl ?_ ?_)))))
 ·intro h52
  replace h52:=dT h52
  refine SQ (H_drawB (m:=[nn,yy]) (Xs:=[_]) (fuel:=8) (l:=#[false,false,false,false,false,false,false,false]) mixed rfl rfl rfl (TK 0 2 [_] rfl (by kernel_rfl) (V_fieldAddr (r:=4) rfl Tryz.underlying68 rfl Tryz.sizeOf9 rfl) (TK 1 2 [_] rfl (by kernel_rfl) (V_load1 (i:=0) (j:=4) rfl Tryz.isAgg9 rfl (.loc _ _ _) rfl rfl) (TK 2 2 [_] rfl (by kernel_rfl) (V_fieldAddr (r:=5) rfl Tryz.underlying68 rfl Tryz.sizeOf9 rfl) (TK 3 2 [_] rfl (by kernel_rfl) (V_load1 (i:=0) (j:=5) rfl Tryz.isAgg9 rfl (.loc _ _ _) rfl rfl) (TK 4 2 [_] rfl (by kernel_rfl) (V_fieldAddr (r:=4) rfl Tryz.underlying68 rfl Tryz.sizeOf9 rfl) (LO 5 (by kernel_rfl) rfl (SR 0 [_,_,_,_] [_] [_,_,_] [_] [_] [_,_,_,_,_,_,_,_] Tryz.sizeOf9 rfl (BK 2 [_] rfl (TK 6 2 [_] rfl (by kernel_rfl) (V_fieldAddr (r:=5) rfl Tryz.underlying68 rfl Tryz.sizeOf9 rfl) (LO 7 (by kernel_rfl) rfl (SR 0 [_,_,_,_,_] [_] [_,_] [_] [_] [_,_,_,_,_,_,_,_] Tryz.sizeOf9 rfl (BK 2 [_] rfl ?_)))))))))))))
  refine HA_done (by kernel_rfl) (EV [4,3,1] [_,_,_] rfl (RG rfl (MV rfl (MV rfl (HO_split (d:=61) rfl ?_ ?_)))))
  ·intro h61
   refine FA 4 rfl Tryz.underlying68 rfl Tryz.sizeOf9 (LD 1 4 rfl Tryz.isAgg9 (CB [] [_,_] rfl Tryz.call115 (rvalue_spec _) ?_))
   intro y64 hy64
   clear y64 hy64
   refine PT rfl (MV rfl (HO_split (d:=66) rfl ?_ ?_))
   ·intro h66
    refine FA 5 rfl Tryz.underlying68 rfl Tryz.sizeOf9 (LD 1 5 rfl Tryz.isAgg9 (CB [] [_,_] rfl Tryz.call115 (rvalue_spec _) ?_))
    intro y69 hy69
    clear y69 hy69
    refine PT rfl (AS rfl (NI [4,3,1] [_,_,_] rfl (BD (SQ (RG rfl (MV rfl (MV rfl (HO_split (d:=100) rfl ?_ ?_))))))))
    ·intro h100
     refine LA 1 [] [_,_,_,_,_,_,_,_] [] rfl (.loc _ _ _) Tryz.isAgg68 Tryz.sizeOf68 rfl (LA 0 [] [_,_,_,_,_,_,_,_] [] rfl (.loc _ _ _) Tryz.isAgg68 Tryz.sizeOf68 rfl (BN rfl eq68_eql (PT rfl (MV rfl (HO_split (d:=105) rfl ?_ ?_)))))
     ·intro h105
      (try simp only [decide_eq_true_eq,decide_eq_false_iff_not,Bool.not_eq_true',Bool.not_eq_false',Bool.not_eq_true,Bool.not_eq_false,Bool.true_eq_false,Bool.false_eq_true,not_false_eq_true,not_true_eq_false] at h105)
      refine FA 1 rfl Tryz.underlying68 rfl Tryz.sizeOf3 (LD 1 1 rfl Tryz.isAgg3 (BN rfl bin_geq (PT rfl (MV rfl (HO_split (d:=110) rfl ?_ ?_)))))
      ·intro h110
       replace h110:=dT h110
       refine FA 2 rfl Tryz.underlying68 rfl Tryz.sizeOf3 (LD 1 2 rfl Tryz.isAgg3 (BN rfl bin_geq (PT rfl (AS rfl (NI [2] [_] rfl (WD 0 [] rfl (R1 Tryz.results82 () rfl (fun w hA => ⟨?_,?_,?_⟩))))))))
       ·(exact congrArg Value.bool (by first | (simp [Cmd.good,Cmd.part,Cmd.fit,Cmd.eqv,Cmd.base,Cmd.empty,Cmd.pos_iff,Cmd.scanok, *] <;> rfl) | (simp_all [Cmd.good,Cmd.part,Cmd.fit,Cmd.eqv,Cmd.base,Cmd.empty,Cmd.pos_iff,Cmd.scanok] <;> intros <;> first | rfl | omega | (rename_i b1 b2 b3 b4 b5 b6;exact h22 (of_decide_eq_true b3) (of_decide_eq_true b4) (of_decide_eq_true b5) (of_decide_eq_true b6)) | (simp_all;done) | (simp_all;omega))))
       ·trivial
       ·exact hA.keep (m:=[]) (Y:=[]) rfl
      intro h110
      replace h110:=dF h110
      refine NO rfl (NO rfl (NO rfl (PF rfl (AS rfl (NI [2] [_] rfl (WD 0 [] rfl (R1 Tryz.results82 () rfl (fun w hA => ⟨?_,?_,?_⟩))))))))
      ·(exact congrArg Value.bool (by first | (simp [Cmd.good,Cmd.part,Cmd.fit,Cmd.eqv,Cmd.base,Cmd.empty,Cmd.pos_iff,Cmd.scanok, *] <;> rfl) | (simp_all [Cmd.good,Cmd.part,Cmd.fit,Cmd.eqv,Cmd.base,Cmd.empty,Cmd.pos_iff,Cmd.scanok] <;> intros <;> first | rfl | omega | (rename_i b1 b2 b3 b4 b5 b6;exact h22 (of_decide_eq_true b3) (of_decide_eq_true b4) (of_decide_eq_true b5) (of_decide_eq_true b6)) | (simp_all;done) | (simp_all;omega))))
      ·trivial
      ·exact hA.keep (m:=[]) (Y:=[]) rfl
     intro h105
     (try simp only [decide_eq_true_eq,decide_eq_false_iff_not,Bool.not_eq_true',Bool.not_eq_false',Bool.not_eq_true,Bool.not_eq_false,Bool.true_eq_false,Bool.false_eq_true,not_false_eq_true,not_true_eq_false] at h105)
     refine NO rfl (NO rfl (NO rfl (PF rfl (MV rfl (NO rfl (NO rfl (NO rfl (PF rfl (AS rfl (NI [2] [_] rfl (WD 0 [] rfl (R1 Tryz.results82 () rfl (fun w hA => ⟨?_,?_,?_⟩)))))))))))))
     ·(exact congrArg Value.bool (by first | (simp [Cmd.good,Cmd.part,Cmd.fit,Cmd.eqv,Cmd.base,Cmd.empty,Cmd.pos_iff,Cmd.scanok, *] <;> rfl) | (simp_all [Cmd.good,Cmd.part,Cmd.fit,Cmd.eqv,Cmd.base,Cmd.empty,Cmd.pos_iff,Cmd.scanok] <;> intros <;> first | rfl | omega | (rename_i b1 b2 b3 b4 b5 b6;exact h22 (of_decide_eq_true b3) (of_decide_eq_true b4) (of_decide_eq_true b5) (of_decide_eq_true b6)) | (simp_all;done) | (simp_all;omega))))
     ·trivial
     ·exact hA.keep (m:=[]) (Y:=[]) rfl
    intro h100
    refine NO rfl (NO rfl (NO rfl (PF rfl (MV rfl (NO rfl (NO rfl (NO rfl (PF rfl (MV rfl (NO rfl (NO rfl (NO rfl (PF rfl ?_)))))))))))))
    refine AS rfl (NI [2] [_] rfl (WD 0 [] rfl (R1 Tryz.results82 () rfl (fun w hA => ⟨?_,?_,?_⟩))))
    ·(exact congrArg Value.bool (by first | (simp [Cmd.good,Cmd.part,Cmd.fit,Cmd.eqv,Cmd.base,Cmd.empty,Cmd.pos_iff,Cmd.scanok, *] <;> rfl) | (simp_all [Cmd.good,Cmd.part,Cmd.fit,Cmd.eqv,Cmd.base,Cmd.empty,Cmd.pos_iff,Cmd.scanok] <;> intros <;> first | rfl | omega | (rename_i b1 b2 b3 b4 b5 b6;exact h22 (of_decide_eq_true b3) (of_decide_eq_true b4) (of_decide_eq_true b5) (of_decide_eq_true b6)) | (simp_all;done) | (simp_all;omega))))
    ·trivial
    ·exact hA.keep (m:=[]) (Y:=[]) rfl
   intro h66
   refine NO rfl (NO rfl (NO rfl (PF rfl (AS rfl (NI [4,3,1] [_,_,_] rfl (BD (SQ (RG rfl (MV rfl (MV rfl (NO rfl (NO rfl ?_))))))))))))
   refine NO rfl (PF rfl (MV rfl (NO rfl (NO rfl (NO rfl (PF rfl (MV rfl (NO rfl (NO rfl (NO rfl (PF rfl (AS rfl (HO_nil ?_)))))))))))))
   refine EV [2] [_] rfl (WD 0 [] rfl (R1 Tryz.results82 () rfl (fun w hA => ⟨?_,?_,?_⟩)))
   ·(exact congrArg Value.bool (by first | (simp [Cmd.good,Cmd.part,Cmd.fit,Cmd.eqv,Cmd.base,Cmd.empty,Cmd.pos_iff,Cmd.scanok, *] <;> rfl) | (simp_all [Cmd.good,Cmd.part,Cmd.fit,Cmd.eqv,Cmd.base,Cmd.empty,Cmd.pos_iff,Cmd.scanok] <;> intros <;> first | rfl | omega | (rename_i b1 b2 b3 b4 b5 b6;exact h22 (of_decide_eq_true b3) (of_decide_eq_true b4) (of_decide_eq_true b5) (of_decide_eq_true b6)) | (simp_all;done) | (simp_all;omega))))
   ·trivial
   ·exact hA.keep (m:=[]) (Y:=[]) rfl
  intro h61
  refine NO rfl (NO rfl (NO rfl (PF rfl (MV rfl (NO rfl (NO rfl (NO rfl (PF rfl (AS rfl (NI [4,3,1] [_,_,_] rfl (BD (SQ ?_))))))))))))
  refine RG rfl (MV rfl (MV rfl (NO rfl (NO rfl (NO rfl (PF rfl (MV rfl (NO rfl (NO rfl (NO rfl (PF rfl (MV rfl (NO rfl ?_)))))))))))))
  refine NO rfl (NO rfl (PF rfl (AS rfl (NI [2] [_] rfl (WD 0 [] rfl (R1 Tryz.results82 () rfl (fun w hA => ⟨?_,?_,?_⟩)))))))
  ·(exact congrArg Value.bool (by first | (simp [Cmd.good,Cmd.part,Cmd.fit,Cmd.eqv,Cmd.base,Cmd.empty,Cmd.pos_iff,Cmd.scanok, *] <;> rfl) | (simp_all [Cmd.good,Cmd.part,Cmd.fit,Cmd.eqv,Cmd.base,Cmd.empty,Cmd.pos_iff,Cmd.scanok] <;> intros <;> first | rfl | omega | (rename_i b1 b2 b3 b4 b5 b6;exact h22 (of_decide_eq_true b3) (of_decide_eq_true b4) (of_decide_eq_true b5) (of_decide_eq_true b6)) | (simp_all;done) | (simp_all;omega))))
  ·trivial
  ·exact hA.keep (m:=[]) (Y:=[]) rfl
 intro h52
 replace h52:=dF h52
 refine SQ (RG rfl (BN rfl bin_eql (AS rfl (NI [71,3,1] [_,_,_] rfl (H_cond rfl ?_ ?_)))))
 ·intro h71
  replace h71:=dT h71
  refine SQ (H_drawB (m:=[nn,yy]) (Xs:=[_]) (fuel:=8) (l:=#[false,false,false,false,false,false,false,false]) mixed rfl rfl rfl (TK 0 2 [_] rfl (by kernel_rfl) (V_fieldAddr (r:=6) rfl Tryz.underlying68 rfl Tryz.sizeOf9 rfl) (TK 1 2 [_] rfl (by kernel_rfl) (V_load1 (i:=0) (j:=6) rfl Tryz.isAgg9 rfl (.loc _ _ _) rfl rfl) (TK 2 2 [_] rfl (by kernel_rfl) (V_fieldAddr (r:=7) rfl Tryz.underlying68 rfl Tryz.sizeOf3 rfl) (TK 3 2 [_] rfl (by kernel_rfl) (V_load1 (i:=0) (j:=7) rfl Tryz.isAgg3 rfl (.loc _ _ _) rfl rfl) (TK 4 2 [_] rfl (by kernel_rfl) (V_fieldAddr (r:=6) rfl Tryz.underlying68 rfl Tryz.sizeOf9 rfl) (LO 5 (by kernel_rfl) rfl (SR 0 [_,_,_,_,_,_] [_] [_] [_] [_] [_,_,_,_,_,_,_,_] Tryz.sizeOf9 rfl (BK 2 [_] rfl (TK 6 2 [_] rfl (by kernel_rfl) (V_fieldAddr (r:=7) rfl Tryz.underlying68 rfl Tryz.sizeOf3 rfl) (LO 7 (by kernel_rfl) rfl (SR 0 [_,_,_,_,_,_,_] [_] [] [_] [_] [_,_,_,_,_,_,_,_] Tryz.sizeOf3 rfl (BK 2 [_] rfl ?_)))))))))))))
  refine HA_done (by kernel_rfl) (EV [3,1] [_,_] rfl (RG rfl (FA 3 rfl Tryz.underlying68 rfl Tryz.sizeOf9 (LD 1 3 rfl Tryz.isAgg9 (BI rfl (bi_len_str Tryz.underlying9) (BN rfl bin_leq (MV rfl (HO_split (d:=83) rfl ?_ ?_))))))))
  ·intro h83
   replace h83:=dT h83
   refine FA 6 rfl Tryz.underlying68 rfl Tryz.sizeOf9 (LD 1 6 rfl Tryz.isAgg9 (BI rfl (bi_len_str Tryz.underlying9) (BN rfl bin_leq (PT rfl (MV rfl (HO_split (d:=89) rfl ?_ ?_))))))
   ·intro h89
    replace h89:=dT h89
    refine FA 7 rfl Tryz.underlying68 rfl Tryz.sizeOf3 (LD 1 7 rfl Tryz.isAgg3 (BN rfl bin_geq (PT rfl (MV rfl (HO_split (d:=94) rfl ?_ ?_)))))
    ·intro h94
     replace h94:=dT h94
     refine FA 7 rfl Tryz.underlying68 rfl Tryz.sizeOf3 (LD 1 7 rfl Tryz.isAgg3 (BN rfl bin_leq (PT rfl (AS rfl (NI [4,3,1] [_,_,_] rfl (BD (SQ (RG rfl (MV rfl (MV rfl (HO_split (d:=100) rfl ?_ ?_)))))))))))
     ·intro h100
      replace h100:=dT h100
      refine LA 1 [] [_,_,_,_,_,_,_,_] [] rfl (.loc _ _ _) Tryz.isAgg68 Tryz.sizeOf68 rfl (LA 0 [] [_,_,_,_,_,_,_,_] [] rfl (.loc _ _ _) Tryz.isAgg68 Tryz.sizeOf68 rfl (BN rfl eq68_eql (PT rfl (MV rfl (HO_split (d:=105) rfl ?_ ?_)))))
      ·intro h105
       (try simp only [decide_eq_true_eq,decide_eq_false_iff_not,Bool.not_eq_true',Bool.not_eq_false',Bool.not_eq_true,Bool.not_eq_false,Bool.true_eq_false,Bool.false_eq_true,not_false_eq_true,not_true_eq_false] at h105)
       refine FA 1 rfl Tryz.underlying68 rfl Tryz.sizeOf3 (LD 1 1 rfl Tryz.isAgg3 (BN rfl bin_geq (PT rfl (MV rfl (HO_split (d:=110) rfl ?_ ?_)))))
       ·intro h110
        replace h110:=dT h110
        refine FA 2 rfl Tryz.underlying68 rfl Tryz.sizeOf3 (LD 1 2 rfl Tryz.isAgg3 (BN rfl bin_geq (PT rfl (AS rfl (NI [2] [_] rfl (WD 0 [] rfl (R1 Tryz.results82 () rfl (fun w hA => ⟨?_,?_,?_⟩))))))))
        ·(exact congrArg Value.bool (by first | (simp [Cmd.good,Cmd.part,Cmd.fit,Cmd.eqv,Cmd.base,Cmd.empty,Cmd.pos_iff,Cmd.scanok, *] <;> rfl) | (simp_all [Cmd.good,Cmd.part,Cmd.fit,Cmd.eqv,Cmd.base,Cmd.empty,Cmd.pos_iff,Cmd.scanok] <;> intros <;> first | rfl | omega | (rename_i b1 b2 b3 b4 b5 b6;exact h22 (of_decide_eq_true b3) (of_decide_eq_true b4) (of_decide_eq_true b5) (of_decide_eq_true b6)) | (simp_all;done) | (simp_all;omega))))
        ·trivial
        ·exact hA.keep (m:=[]) (Y:=[]) rfl
       intro h110
       replace h110:=dF h110
       refine NO rfl (NO rfl (NO rfl (PF rfl (AS rfl (NI [2] [_] rfl (WD 0 [] rfl (R1 Tryz.results82 () rfl (fun w hA => ⟨?_,?_,?_⟩))))))))
       ·(exact congrArg Value.bool (by first | (simp [Cmd.good,Cmd.part,Cmd.fit,Cmd.eqv,Cmd.base,Cmd.empty,Cmd.pos_iff,Cmd.scanok, *] <;> rfl) | (simp_all [Cmd.good,Cmd.part,Cmd.fit,Cmd.eqv,Cmd.base,Cmd.empty,Cmd.pos_iff,Cmd.scanok] <;> intros <;> first | rfl | omega | (rename_i b1 b2 b3 b4 b5 b6;exact h22 (of_decide_eq_true b3) (of_decide_eq_true b4) (of_decide_eq_true b5) (of_decide_eq_true b6)) | (simp_all;done) | (simp_all;omega))))
       ·trivial
       ·exact hA.keep (m:=[]) (Y:=[]) rfl
      intro h105
      (try simp only [decide_eq_true_eq,decide_eq_false_iff_not,Bool.not_eq_true',Bool.not_eq_false',Bool.not_eq_true,Bool.not_eq_false,Bool.true_eq_false,Bool.false_eq_true,not_false_eq_true,not_true_eq_false] at h105)
      refine NO rfl (NO rfl (NO rfl (PF rfl (MV rfl (NO rfl (NO rfl (NO rfl (PF rfl (AS rfl (NI [2] [_] rfl (WD 0 [] rfl (R1 Tryz.results82 () rfl (fun w hA => ⟨?_,?_,?_⟩)))))))))))))
      ·(exact congrArg Value.bool (by first | (simp [Cmd.good,Cmd.part,Cmd.fit,Cmd.eqv,Cmd.base,Cmd.empty,Cmd.pos_iff,Cmd.scanok, *] <;> rfl) | (simp_all [Cmd.good,Cmd.part,Cmd.fit,Cmd.eqv,Cmd.base,Cmd.empty,Cmd.pos_iff,Cmd.scanok] <;> intros <;> first | rfl | omega | (rename_i b1 b2 b3 b4 b5 b6;exact h22 (of_decide_eq_true b3) (of_decide_eq_true b4) (of_decide_eq_true b5) (of_decide_eq_true b6)) | (simp_all;done) | (simp_all;omega))))
      ·trivial
      ·exact hA.keep (m:=[]) (Y:=[]) rfl
     intro h100
     replace h100:=dF h100
     refine NO rfl (NO rfl (NO rfl (PF rfl (MV rfl (NO rfl (NO rfl (NO rfl (PF rfl (MV rfl (NO rfl (NO rfl (NO rfl (PF rfl ?_)))))))))))))
     refine AS rfl (NI [2] [_] rfl (WD 0 [] rfl (R1 Tryz.results82 () rfl (fun w hA => ⟨?_,?_,?_⟩))))
     ·(exact congrArg Value.bool (by first | (simp [Cmd.good,Cmd.part,Cmd.fit,Cmd.eqv,Cmd.base,Cmd.empty,Cmd.pos_iff,Cmd.scanok, *] <;> rfl) | (simp_all [Cmd.good,Cmd.part,Cmd.fit,Cmd.eqv,Cmd.base,Cmd.empty,Cmd.pos_iff,Cmd.scanok] <;> intros <;> first | rfl | omega | (rename_i b1 b2 b3 b4 b5 b6;exact h22 (of_decide_eq_true b3) (of_decide_eq_true b4) (of_decide_eq_true b5) (of_decide_eq_true b6)) | (simp_all;done) | (simp_all;omega))))
     ·trivial
     ·exact hA.keep (m:=[]) (Y:=[]) rfl
    intro h94
    replace h94:=dF h94
    refine NO rfl (NO rfl (NO rfl (PF rfl (AS rfl (NI [4,3,1] [_,_,_] rfl (BD (SQ (RG rfl (MV rfl (MV rfl (NO rfl (NO rfl ?_))))))))))))
    refine NO rfl (PF rfl (MV rfl (NO rfl (NO rfl (NO rfl (PF rfl (MV rfl (NO rfl (NO rfl (NO rfl (PF rfl (AS rfl (HO_nil ?_)))))))))))))
    refine EV [2] [_] rfl (WD 0 [] rfl (R1 Tryz.results82 () rfl (fun w hA => ⟨?_,?_,?_⟩)))
    ·(exact congrArg Value.bool (by first | (simp [Cmd.good,Cmd.part,Cmd.fit,Cmd.eqv,Cmd.base,Cmd.empty,Cmd.pos_iff,Cmd.scanok, *] <;> rfl) | (simp_all [Cmd.good,Cmd.part,Cmd.fit,Cmd.eqv,Cmd.base,Cmd.empty,Cmd.pos_iff,Cmd.scanok] <;> intros <;> first | rfl | omega | (rename_i b1 b2 b3 b4 b5 b6;exact h22 (of_decide_eq_true b3) (of_decide_eq_true b4) (of_decide_eq_true b5) (of_decide_eq_true b6)) | (simp_all;done) | (simp_all;omega))))
    ·trivial
    ·exact hA.keep (m:=[]) (Y:=[]) rfl
   intro h89
   replace h89:=dF h89
   refine NO rfl (NO rfl (NO rfl (PF rfl (MV rfl (NO rfl (NO rfl (NO rfl (PF rfl (AS rfl (NI [4,3,1] [_,_,_] rfl (BD (SQ ?_))))))))))))
   refine RG rfl (MV rfl (MV rfl (NO rfl (NO rfl (NO rfl (PF rfl (MV rfl (NO rfl (NO rfl (NO rfl (PF rfl (MV rfl (NO rfl ?_)))))))))))))
   refine NO rfl (NO rfl (PF rfl (AS rfl (NI [2] [_] rfl (WD 0 [] rfl (R1 Tryz.results82 () rfl (fun w hA => ⟨?_,?_,?_⟩)))))))
   ·(exact congrArg Value.bool (by first | (simp [Cmd.good,Cmd.part,Cmd.fit,Cmd.eqv,Cmd.base,Cmd.empty,Cmd.pos_iff,Cmd.scanok, *] <;> rfl) | (simp_all [Cmd.good,Cmd.part,Cmd.fit,Cmd.eqv,Cmd.base,Cmd.empty,Cmd.pos_iff,Cmd.scanok] <;> intros <;> first | rfl | omega | (rename_i b1 b2 b3 b4 b5 b6;exact h22 (of_decide_eq_true b3) (of_decide_eq_true b4) (of_decide_eq_true b5) (of_decide_eq_true b6)) | (simp_all;done) | (simp_all;omega))))
   ·trivial
   ·exact hA.keep (m:=[]) (Y:=[]) rfl
  intro h83
  replace h83:=dF h83
  refine NO rfl (NO rfl (NO rfl (NO rfl (PF rfl (MV rfl (NO rfl (NO rfl (NO rfl (PF rfl (MV rfl (NO rfl (NO rfl (NO rfl ?_)))))))))))))
  refine PF rfl (AS rfl (NI [4,3,1] [_,_,_] rfl (BD (SQ (RG rfl (MV rfl (MV rfl (NO rfl (NO rfl (NO rfl (PF rfl (MV rfl ?_))))))))))))
  refine NO rfl (NO rfl (NO rfl (PF rfl (MV rfl (NO rfl (NO rfl (NO rfl (PF rfl (AS rfl (NI [2] [_] rfl (WD 0 [] rfl (R1 Tryz.results82 () rfl (fun w hA => ⟨?_,?_,?_⟩)))))))))))))
  ·(exact congrArg Value.bool (by first | (simp [Cmd.good,Cmd.part,Cmd.fit,Cmd.eqv,Cmd.base,Cmd.empty,Cmd.pos_iff,Cmd.scanok, *] <;> rfl) | (simp_all [Cmd.good,Cmd.part,Cmd.fit,Cmd.eqv,Cmd.base,Cmd.empty,Cmd.pos_iff,Cmd.scanok] <;> intros <;> first | rfl | omega | (rename_i b1 b2 b3 b4 b5 b6;exact h22 (of_decide_eq_true b3) (of_decide_eq_true b4) (of_decide_eq_true b5) (of_decide_eq_true b6)) | (simp_all;done) | (simp_all;omega))))
  ·trivial
  ·exact hA.keep (m:=[]) (Y:=[]) rfl
 intro h71
 replace h71:=dF h71
 refine SQ (RG rfl (AS rfl (NI [2] [_] rfl (WD 0 [] rfl (R1 Tryz.results82 () rfl (fun w hA => ⟨?_,?_,?_⟩))))))
 ·(exact congrArg Value.bool (by first | (simp [Cmd.good,Cmd.part,Cmd.fit,Cmd.eqv,Cmd.base,Cmd.empty,Cmd.pos_iff,Cmd.scanok, *] <;> rfl) | (simp_all [Cmd.good,Cmd.part,Cmd.fit,Cmd.eqv,Cmd.base,Cmd.empty,Cmd.pos_iff,Cmd.scanok] <;> intros <;> first | rfl | omega | (rename_i b1 b2 b3 b4 b5 b6;exact h22 (of_decide_eq_true b3) (of_decide_eq_true b4) (of_decide_eq_true b5) (of_decide_eq_true b6)) | (simp_all;done) | (simp_all;omega))))
 ·trivial
 ·exact hA.keep (m:=[]) (Y:=[]) rfl
end Go.Wk
