/- Contracts of the program's functions, each proved by walking its code. -/
import Derived.Test.YtondhngfjngngaaKecmd1
import Derived.Test.YtondhngfjngngaaCmd
import Derived.Test.YtondhngfjngngaaWk17
import Derived.Test.YtondhngfjngngaaKeref01b
set_option maxRecDepth 100000
set_option linter.unusedVariables false
set_option linter.unusedSimpArgs false
namespace Go.Wk.Fcmd2
open Go Go.RowKit Go.Proofs Go.Wk
theorem bd23_0_1_ii {x1 : Int} {x2 : Int} : ∀ w, (Instr.build 23 (List.toArray (List.zip [0, 1] [.int .i64 x1, .int .i64 x2]))).run Try.prog w = .ok (.agg #[.int .i64 x1, .int .i64 x2, .int .i64 (0), .string (⟨#[]⟩), .string (⟨#[]⟩), .string (⟨#[]⟩), .string (⟨#[]⟩), .int .i64 (0)]) w := fun _ => by kernel_rfl
theorem bd23_0_i {x1 : Int} : ∀ w, (Instr.build 23 (List.toArray (List.zip [0] [.int .i64 x1]))).run Try.prog w = .ok (.agg #[.int .i64 x1, .int .i64 (0), .int .i64 (0), .string (⟨#[]⟩), .string (⟨#[]⟩), .string (⟨#[]⟩), .string (⟨#[]⟩), .int .i64 (0)]) w := fun _ => by kernel_rfl
theorem bd95_0_1_2_3_iiii {x1 : Int} {x2 : Int} {x3 : Int} {x4 : Int} : ∀ w, (Instr.build 95 (List.toArray (List.zip [0, 1, 2, 3] [.int .i64 x1, .int .i64 x2, .int .i64 x3, .int .i64 x4]))).run Try.prog w = .ok (.agg #[.int .i64 x1, .int .i64 x2, .int .i64 x3, .int .i64 x4]) w := fun _ => by kernel_rfl
theorem bd99_0_1_2_3_tttt {x1 : ByteArray} {x2 : ByteArray} {x3 : ByteArray} {x4 : ByteArray} : ∀ w, (Instr.build 99 (List.toArray (List.zip [0, 1, 2, 3] [.string x1, .string x2, .string x3, .string x4]))).run Try.prog w = .ok (.agg #[.string x1, .string x2, .string x3, .string x4]) w := fun _ => by kernel_rfl
theorem eq23_eql {x y : Operand} {a0 b0 : Int} {a1 b1 : Int} {a2 b2 : Int} {a3 b3 : ByteArray} {a4 b4 : ByteArray} {a5 b5 : ByteArray} {a6 b6 : ByteArray} {a7 b7 : Int} : BinR Try.prog .eql 23 x y (.agg #[.int .i64 a0, .int .i64 a1, .int .i64 a2, .string a3, .string a4, .string a5, .string a6, .int .i64 a7]) (.agg #[.int .i64 b0, .int .i64 b1, .int .i64 b2, .string b3, .string b4, .string b5, .string b6, .int .i64 b7]) (.bool (decide (a0 = b0) && (decide (a1 = b1) && (decide (a2 = b2) && (decide (a3 = b3) && (decide (a4 = b4) && (decide (a5 = b5) && (decide (a6 = b6) && (decide (a7 = b7) && true))))))))) :=
  bin_eqs_agg (by kernel_rfl) Try.underlying23 (by kernel_rfl) (fun w => (eqF_int (by decide) Try.underlying3 Try.isAgg3 rfl rfl (eqF_int (by decide) Try.underlying3 Try.isAgg3 rfl rfl (eqF_int (by decide) Try.underlying3 Try.isAgg3 rfl rfl (eqF_str (by decide) Try.underlying9 Try.isAgg9 rfl rfl (eqF_str (by decide) Try.underlying9 Try.isAgg9 rfl rfl (eqF_str (by decide) Try.underlying9 Try.isAgg9 rfl rfl (eqF_str (by decide) Try.underlying9 Try.isAgg9 rfl rfl (eqF_int (by decide) Try.underlying3 Try.isAgg3 rfl rfl eqF_nil)))))))))
end Go.Wk.Fcmd2
namespace Go.Wk
open Go Go.RowKit Go.Proofs Fcmd2 
theorem bytes_spec (ki se sq : Int) (ke ol va ti : ByteArray) (li : Int) (hs : ke.size + ol.size + va.size + ti.size ≤ 100000) : Spec Try.prog 23 #[.agg #[.int .i64 (ki), .int .i64 (se), .int .i64 (sq), .string (ke), .string (ol), .string (va), .string (ti), .int .i64 (li)]] [] (β := Option Addr × Nat) (fun y => .slice y.1 ((Cmd.bytes ⟨ki, se, sq, ke, ol, va, ti, li⟩).length) y.2) (fun y => True) (fun y => [.own 5 kByte y.1 y.2 (Cmd.bytes ⟨ki, se, sq, ke, ol, va, ti, li⟩)]) := by
  have e0 := Cod.enc_le9 (Cod.zig ki)
  have e1 := Cod.enc_le9 (Cod.zig se)
  have e2 := Cod.enc_le9 (Cod.zig sq)
  have e3 := Cod.enc_le9 (Cod.zig li)
  have u0 := Cod.enc_le9 ke.size
  have u1 := Cod.enc_le9 ol.size
  have u2 := Cod.enc_le9 va.size
  have u3 := Cod.enc_le9 ti.size
  have v0 : ke.data.toList.length = ke.size := Array.length_toList
  have v1 : ol.data.toList.length = ol.size := Array.length_toList
  have v2 : va.data.toList.length = va.size := Array.length_toList
  have v3 : ti.data.toList.length = ti.size := Array.length_toList
  refine Spec.enter (vs := [_]) Try.func23 rfl Try.ntmps23 rfl (Nat.le_of_ble_eq_true rfl) (fun w0 ok0 => ?_)
  generalize hM0 : blks _ = M0
  have hMn : ∀ {R : List Atom} (b : Nat), M0 b → blks R b := fun b hb => absurd (hM0 ▸ hb) (blks_none (by simp [Atom.dat, Atom.elem]) b)
  refine H_seq ?_
  -- R0 command.go:60
  refine H_region (l := [_, _]) rfl ?_
  refine HO_box (cs := [_, _, _, _, _, _, _, _]) rfl rfl rfl rfl ?_
  intro g1
  refine HO_assign rfl rfl rfl ?_
  refine HO_nil ?_
  refine H_env (ρ' := [(1, _)]) ⟨rfl, trivial⟩ ?_
  refine H_seq ?_
  -- R1 command.go:61
  refine H_region (l := [_]) rfl ?_
  refine HO_assign rfl rfl rfl ?_
  refine HO_nil ?_
  refine H_seq ?_
  refine H_seq ?_
  -- R2 command.go:62
  refine H_region (l := [_, _, _, _, _, _, _, _, _, _]) rfl ?_
  refine HO_fieldAddr (r := 0) rfl rfl rfl Try.underlying23 rfl Try.sizeOf3 rfl ?_
  refine HO_load1 (i := 0) (j := 0) rfl rfl rfl Try.isAgg3 rfl (.loc _ _ _) rfl rfl ?_
  refine HO_fieldAddr (r := 1) rfl rfl rfl Try.underlying23 rfl Try.sizeOf3 rfl ?_
  refine HO_load1 (i := 0) (j := 1) rfl rfl rfl Try.isAgg3 rfl (.loc _ _ _) rfl rfl ?_
  refine HO_fieldAddr (r := 2) rfl rfl rfl Try.underlying23 rfl Try.sizeOf3 rfl ?_
  refine HO_load1 (i := 0) (j := 2) rfl rfl rfl Try.isAgg3 rfl (.loc _ _ _) rfl rfl ?_
  refine HO_fieldAddr (r := 7) rfl rfl rfl Try.underlying23 rfl Try.sizeOf3 rfl ?_
  refine HO_load1 (i := 0) (j := 7) rfl rfl rfl Try.isAgg3 rfl (.loc _ _ _) rfl rfl ?_
  refine HO_build (xo := [(0, _), (1, _), (2, _), (3, _)]) (vs := [_, _, _, _]) rfl rfl rfl rfl (bd95_0_1_2_3_iiii) ?_
  refine HO_move rfl rfl rfl ?_
  refine HO_nil ?_
  refine H_env (ρ' := [(17, _), (16, _), (3, _), (1, _)]) ⟨rfl, rfl, rfl, rfl, trivial⟩ ?_
  refine H_block ?_
  refine H_rounds 5 ?_
  refine H_rnd ?_
  refine H_seq ?_
  -- R3 command.go:62
  refine H_region (l := [_]) rfl ?_
  refine HO_bin rfl rfl rfl rfl (bin_lit (by decide) (fun _ => rfl)) ?_
  refine HO_nil ?_
  refine H_seq ?_
  refine H_cond rfl (fun _ => ?_) (fun h => nomatch h)
  refine H_skip ?_
  refine H_seq ?_
  refine H_block ?_
  refine H_seq ?_
  -- R4 command.go:62
  refine H_region (l := [_, _]) rfl ?_
  refine HO_indexV (j := 0) (cs := [_, _, _, _]) rfl rfl rfl rfl Try.underlying95 Try.isAgg3 Try.sizeOf3 rfl (by decide) rfl ?_
  refine HO_assign rfl rfl rfl ?_
  refine HO_nil ?_
  refine H_env (ρ' := [(5, _), (17, _), (16, _), (3, _), (1, _)]) ⟨rfl, rfl, rfl, rfl, rfl, trivial⟩ ?_
  -- R5 command.go:63
  refine H_region (l := [_, _, _, _, _]) rfl ?_
  refine HO_move rfl rfl rfl ?_
  refine HO_move rfl rfl rfl ?_
  refine HO_call (first := []) (capt := []) (is := []) (R := [_]) rfl rfl rfl rfl rfl Try.call68 rfl (zig_spec _) ?_
  intro y22 hy22
  clear y22 hy22
  refine HO_nilDat kByte ?_
  refine HO_dup (i := 0) rfl rfl ?_
  refine HO_call (first := []) (capt := []) (is := [0]) (R := [_, _]) rfl rfl rfl rfl rfl Try.call67 rfl (Put_spec _ _ _ _ ?_ ?_) ?_
  · (exact Cod.zig_lt _)
  · (simp only [List.length_append, List.length_nil]; omega)
  intro y23 hy23
  refine HO_assign rfl rfl rfl ?_
  refine HO_nil ?_
  refine H_env (ρ' := [(3, _), (17, _), (16, _), (1, _)]) ⟨rfl, rfl, rfl, rfl, trivial⟩ ?_
  refine H_world (fun _ hA => hA.drop (is := [1]) (Y := [_]) (Z := [_, _]) rfl) ?_
  refine H_blk ?_
  -- R6 command.go:62
  refine H_region (l := [_, _]) rfl ?_
  refine HO_bin (r := .int .i64 (1)) rfl rfl rfl rfl (bin_lit (by decide) (fun _ => rfl)) ?_
  refine HO_move rfl rfl rfl ?_
  refine HO_nil ?_
  refine H_env (ρ' := [(17, _), (3, _), (16, _), (1, _)]) ⟨rfl, rfl, rfl, rfl, trivial⟩ ?_
  refine H_rnd ?_
  refine H_seq ?_
  -- R3 command.go:62
  refine H_region (l := [_]) rfl ?_
  refine HO_bin rfl rfl rfl rfl (bin_lit (by decide) (fun _ => rfl)) ?_
  refine HO_nil ?_
  refine H_seq ?_
  refine H_cond rfl (fun _ => ?_) (fun h => nomatch h)
  refine H_skip ?_
  refine H_seq ?_
  refine H_block ?_
  refine H_seq ?_
  -- R4 command.go:62
  refine H_region (l := [_, _]) rfl ?_
  refine HO_indexV (j := 1) (cs := [_, _, _, _]) rfl rfl rfl rfl Try.underlying95 Try.isAgg3 Try.sizeOf3 rfl (by decide) rfl ?_
  refine HO_assign rfl rfl rfl ?_
  refine HO_nil ?_
  refine H_env (ρ' := [(5, _), (17, _), (3, _), (16, _), (1, _)]) ⟨rfl, rfl, rfl, rfl, rfl, trivial⟩ ?_
  -- R5 command.go:63
  refine H_region (l := [_, _, _, _, _]) rfl ?_
  refine HO_move rfl rfl rfl ?_
  refine HO_move rfl rfl rfl ?_
  refine HO_call (first := []) (capt := []) (is := []) (R := [_, _]) rfl rfl rfl rfl rfl Try.call68 rfl (zig_spec _) ?_
  intro y22 hy22
  clear y22 hy22
  refine HO_call (first := []) (capt := []) (is := [0]) (R := [_]) rfl rfl rfl rfl rfl Try.call67 rfl (Spec.lend (pre1 := []) (pre2 := []) (Put_spec _ _ _ _ ?_ ?_) rfl (by intro y at' ha; obtain rfl := List.mem_singleton.1 ha; first | exact Atom.Flat.own kByte_plain _ _ _ _ | exact Atom.Flat.own kInt_plain _ _ _ _ | exact Atom.Flat.own kStr_plain _ _ _ _ | exact Atom.Flat.loc _ _ _)) ?_
  · (exact Cod.zig_lt _)
  · (simp only [List.length_append, List.length_nil]; omega)
  intro y23 hy23
  refine HO_assign rfl rfl rfl ?_
  refine HO_nil ?_
  refine H_env (ρ' := [(3, _), (17, _), (16, _), (1, _)]) ⟨rfl, rfl, rfl, rfl, trivial⟩ ?_
  refine H_world (fun _ hA => hA.drop (is := [0]) (Y := [_]) (Z := [_, _]) rfl) ?_
  refine H_blk ?_
  -- R6 command.go:62
  refine H_region (l := [_, _]) rfl ?_
  refine HO_bin (r := .int .i64 (2)) rfl rfl rfl rfl (bin_lit (by decide) (fun _ => rfl)) ?_
  refine HO_move rfl rfl rfl ?_
  refine HO_nil ?_
  refine H_env (ρ' := [(17, _), (3, _), (16, _), (1, _)]) ⟨rfl, rfl, rfl, rfl, trivial⟩ ?_
  refine H_rnd ?_
  refine H_seq ?_
  -- R3 command.go:62
  refine H_region (l := [_]) rfl ?_
  refine HO_bin rfl rfl rfl rfl (bin_lit (by decide) (fun _ => rfl)) ?_
  refine HO_nil ?_
  refine H_seq ?_
  refine H_cond rfl (fun _ => ?_) (fun h => nomatch h)
  refine H_skip ?_
  refine H_seq ?_
  refine H_block ?_
  refine H_seq ?_
  -- R4 command.go:62
  refine H_region (l := [_, _]) rfl ?_
  refine HO_indexV (j := 2) (cs := [_, _, _, _]) rfl rfl rfl rfl Try.underlying95 Try.isAgg3 Try.sizeOf3 rfl (by decide) rfl ?_
  refine HO_assign rfl rfl rfl ?_
  refine HO_nil ?_
  refine H_env (ρ' := [(5, _), (17, _), (3, _), (16, _), (1, _)]) ⟨rfl, rfl, rfl, rfl, rfl, trivial⟩ ?_
  -- R5 command.go:63
  refine H_region (l := [_, _, _, _, _]) rfl ?_
  refine HO_move rfl rfl rfl ?_
  refine HO_move rfl rfl rfl ?_
  refine HO_call (first := []) (capt := []) (is := []) (R := [_, _]) rfl rfl rfl rfl rfl Try.call68 rfl (zig_spec _) ?_
  intro y22 hy22
  clear y22 hy22
  refine HO_call (first := []) (capt := []) (is := [0]) (R := [_]) rfl rfl rfl rfl rfl Try.call67 rfl (Spec.lend (pre1 := []) (pre2 := []) (Put_spec _ _ _ _ ?_ ?_) rfl (by intro y at' ha; obtain rfl := List.mem_singleton.1 ha; first | exact Atom.Flat.own kByte_plain _ _ _ _ | exact Atom.Flat.own kInt_plain _ _ _ _ | exact Atom.Flat.own kStr_plain _ _ _ _ | exact Atom.Flat.loc _ _ _)) ?_
  · (exact Cod.zig_lt _)
  · (simp only [List.length_append, List.length_nil]; omega)
  intro y23 hy23
  refine HO_assign rfl rfl rfl ?_
  refine HO_nil ?_
  refine H_env (ρ' := [(3, _), (17, _), (16, _), (1, _)]) ⟨rfl, rfl, rfl, rfl, trivial⟩ ?_
  refine H_world (fun _ hA => hA.drop (is := [0]) (Y := [_]) (Z := [_, _]) rfl) ?_
  refine H_blk ?_
  -- R6 command.go:62
  refine H_region (l := [_, _]) rfl ?_
  refine HO_bin (r := .int .i64 (3)) rfl rfl rfl rfl (bin_lit (by decide) (fun _ => rfl)) ?_
  refine HO_move rfl rfl rfl ?_
  refine HO_nil ?_
  refine H_env (ρ' := [(17, _), (3, _), (16, _), (1, _)]) ⟨rfl, rfl, rfl, rfl, trivial⟩ ?_
  refine H_rnd ?_
  refine H_seq ?_
  -- R3 command.go:62
  refine H_region (l := [_]) rfl ?_
  refine HO_bin rfl rfl rfl rfl (bin_lit (by decide) (fun _ => rfl)) ?_
  refine HO_nil ?_
  refine H_seq ?_
  refine H_cond rfl (fun _ => ?_) (fun h => nomatch h)
  refine H_skip ?_
  refine H_seq ?_
  refine H_block ?_
  refine H_seq ?_
  -- R4 command.go:62
  refine H_region (l := [_, _]) rfl ?_
  refine HO_indexV (j := 3) (cs := [_, _, _, _]) rfl rfl rfl rfl Try.underlying95 Try.isAgg3 Try.sizeOf3 rfl (by decide) rfl ?_
  refine HO_assign rfl rfl rfl ?_
  refine HO_nil ?_
  refine H_env (ρ' := [(5, _), (17, _), (3, _), (16, _), (1, _)]) ⟨rfl, rfl, rfl, rfl, rfl, trivial⟩ ?_
  -- R5 command.go:63
  refine H_region (l := [_, _, _, _, _]) rfl ?_
  refine HO_move rfl rfl rfl ?_
  refine HO_move rfl rfl rfl ?_
  refine HO_call (first := []) (capt := []) (is := []) (R := [_, _]) rfl rfl rfl rfl rfl Try.call68 rfl (zig_spec _) ?_
  intro y22 hy22
  clear y22 hy22
  refine HO_call (first := []) (capt := []) (is := [0]) (R := [_]) rfl rfl rfl rfl rfl Try.call67 rfl (Spec.lend (pre1 := []) (pre2 := []) (Put_spec _ _ _ _ ?_ ?_) rfl (by intro y at' ha; obtain rfl := List.mem_singleton.1 ha; first | exact Atom.Flat.own kByte_plain _ _ _ _ | exact Atom.Flat.own kInt_plain _ _ _ _ | exact Atom.Flat.own kStr_plain _ _ _ _ | exact Atom.Flat.loc _ _ _)) ?_
  · (exact Cod.zig_lt _)
  · (simp only [List.length_append, List.length_nil]; omega)
  intro y23 hy23
  refine HO_assign rfl rfl rfl ?_
  refine HO_nil ?_
  refine H_env (ρ' := [(3, _), (17, _), (16, _), (1, _)]) ⟨rfl, rfl, rfl, rfl, trivial⟩ ?_
  refine H_world (fun _ hA => hA.drop (is := [0]) (Y := [_]) (Z := [_, _]) rfl) ?_
  refine H_blk ?_
  -- R6 command.go:62
  refine H_region (l := [_, _]) rfl ?_
  refine HO_bin (r := .int .i64 (4)) rfl rfl rfl rfl (bin_lit (by decide) (fun _ => rfl)) ?_
  refine HO_move rfl rfl rfl ?_
  refine HO_nil ?_
  refine H_env (ρ' := [(17, _), (3, _), (16, _), (1, _)]) ⟨rfl, rfl, rfl, rfl, trivial⟩ ?_
  refine H_rnd ?_
  refine H_seq ?_
  -- R3 command.go:62
  refine H_region (l := [_]) rfl ?_
  refine HO_bin rfl rfl rfl rfl (bin_lit (by decide) (fun _ => rfl)) ?_
  refine HO_nil ?_
  refine H_seq ?_
  refine H_cond rfl (fun h => nomatch h) (fun _ => ?_)
  refine H_exit rfl ?_
  refine H_seq ?_
  refine H_seq ?_
  -- R7 command.go:65
  refine H_region (l := [_, _, _, _, _, _, _, _, _, _]) rfl ?_
  refine HO_fieldAddr (r := 3) rfl rfl rfl Try.underlying23 rfl Try.sizeOf9 rfl ?_
  refine HO_load1 (i := 1) (j := 3) rfl rfl rfl Try.isAgg9 rfl (.loc _ _ _) rfl rfl ?_
  refine HO_fieldAddr (r := 4) rfl rfl rfl Try.underlying23 rfl Try.sizeOf9 rfl ?_
  refine HO_load1 (i := 1) (j := 4) rfl rfl rfl Try.isAgg9 rfl (.loc _ _ _) rfl rfl ?_
  refine HO_fieldAddr (r := 5) rfl rfl rfl Try.underlying23 rfl Try.sizeOf9 rfl ?_
  refine HO_load1 (i := 1) (j := 5) rfl rfl rfl Try.isAgg9 rfl (.loc _ _ _) rfl rfl ?_
  refine HO_fieldAddr (r := 6) rfl rfl rfl Try.underlying23 rfl Try.sizeOf9 rfl ?_
  refine HO_load1 (i := 1) (j := 6) rfl rfl rfl Try.isAgg9 rfl (.loc _ _ _) rfl rfl ?_
  refine HO_build (xo := [(0, _), (1, _), (2, _), (3, _)]) (vs := [_, _, _, _]) rfl rfl rfl rfl (bd99_0_1_2_3_tttt) ?_
  refine HO_move rfl rfl rfl ?_
  refine HO_nil ?_
  refine H_env (ρ' := [(34, _), (33, _), (3, _)]) ⟨rfl, rfl, rfl, trivial⟩ ?_
  refine H_world (fun _ hA => hA.drop (is := [1]) (Y := [_]) (Z := [_]) rfl) ?_
  refine H_block ?_
  refine H_rounds 5 ?_
  refine H_rnd ?_
  refine H_seq ?_
  -- R8 command.go:65
  refine H_region (l := [_]) rfl ?_
  refine HO_bin rfl rfl rfl rfl (bin_lit (by decide) (fun _ => rfl)) ?_
  refine HO_nil ?_
  refine H_seq ?_
  refine H_cond rfl (fun _ => ?_) (fun h => nomatch h)
  refine H_skip ?_
  refine H_seq ?_
  refine H_block ?_
  refine H_seq ?_
  -- R9 command.go:65
  refine H_region (l := [_, _]) rfl ?_
  refine HO_indexV (j := 0) (cs := [_, _, _, _]) rfl rfl rfl rfl Try.underlying99 Try.isAgg9 Try.sizeOf9 rfl (by decide) rfl ?_
  refine HO_assign rfl rfl rfl ?_
  refine HO_nil ?_
  refine H_env (ρ' := [(7, _), (34, _), (33, _), (3, _)]) ⟨rfl, rfl, rfl, rfl, trivial⟩ ?_
  -- R10 command.go:66
  refine H_region (l := [_, _, _, _]) rfl ?_
  refine HO_move rfl rfl rfl ?_
  refine HO_move rfl rfl rfl ?_
  refine HO_call (first := []) (capt := []) (is := [0]) (R := []) rfl rfl rfl rfl rfl Try.call69 rfl (Spec.lend (pre1 := []) (pre2 := []) (PutText_spec _ _ _ _ ?_ ?_) rfl (by intro y at' ha; obtain rfl := List.mem_singleton.1 ha; first | exact Atom.Flat.own kByte_plain _ _ _ _ | exact Atom.Flat.own kInt_plain _ _ _ _ | exact Atom.Flat.own kStr_plain _ _ _ _ | exact Atom.Flat.loc _ _ _)) ?_
  · omega
  · (simp only [List.length_append, List.length_nil]; omega)
  intro y39 hy39
  refine HO_assign rfl rfl rfl ?_
  refine HO_nil ?_
  refine H_env (ρ' := [(3, _), (34, _), (33, _)]) ⟨rfl, rfl, rfl, trivial⟩ ?_
  refine H_world (fun _ hA => hA.drop (is := [0]) (Y := [_]) (Z := [_]) rfl) ?_
  refine H_blk ?_
  -- R11 command.go:65
  refine H_region (l := [_, _]) rfl ?_
  refine HO_bin (r := .int .i64 (1)) rfl rfl rfl rfl (bin_lit (by decide) (fun _ => rfl)) ?_
  refine HO_move rfl rfl rfl ?_
  refine HO_nil ?_
  refine H_env (ρ' := [(34, _), (3, _), (33, _)]) ⟨rfl, rfl, rfl, trivial⟩ ?_
  refine H_rnd ?_
  refine H_seq ?_
  -- R8 command.go:65
  refine H_region (l := [_]) rfl ?_
  refine HO_bin rfl rfl rfl rfl (bin_lit (by decide) (fun _ => rfl)) ?_
  refine HO_nil ?_
  refine H_seq ?_
  refine H_cond rfl (fun _ => ?_) (fun h => nomatch h)
  refine H_skip ?_
  refine H_seq ?_
  refine H_block ?_
  refine H_seq ?_
  -- R9 command.go:65
  refine H_region (l := [_, _]) rfl ?_
  refine HO_indexV (j := 1) (cs := [_, _, _, _]) rfl rfl rfl rfl Try.underlying99 Try.isAgg9 Try.sizeOf9 rfl (by decide) rfl ?_
  refine HO_assign rfl rfl rfl ?_
  refine HO_nil ?_
  refine H_env (ρ' := [(7, _), (34, _), (3, _), (33, _)]) ⟨rfl, rfl, rfl, rfl, trivial⟩ ?_
  -- R10 command.go:66
  refine H_region (l := [_, _, _, _]) rfl ?_
  refine HO_move rfl rfl rfl ?_
  refine HO_move rfl rfl rfl ?_
  refine HO_call (first := []) (capt := []) (is := [0]) (R := []) rfl rfl rfl rfl rfl Try.call69 rfl (Spec.lend (pre1 := []) (pre2 := []) (PutText_spec _ _ _ _ ?_ ?_) rfl (by intro y at' ha; obtain rfl := List.mem_singleton.1 ha; first | exact Atom.Flat.own kByte_plain _ _ _ _ | exact Atom.Flat.own kInt_plain _ _ _ _ | exact Atom.Flat.own kStr_plain _ _ _ _ | exact Atom.Flat.loc _ _ _)) ?_
  · omega
  · (simp only [List.length_append, List.length_nil]; omega)
  intro y39 hy39
  refine HO_assign rfl rfl rfl ?_
  refine HO_nil ?_
  refine H_env (ρ' := [(3, _), (34, _), (33, _)]) ⟨rfl, rfl, rfl, trivial⟩ ?_
  refine H_world (fun _ hA => hA.drop (is := [0]) (Y := [_]) (Z := [_]) rfl) ?_
  refine H_blk ?_
  -- R11 command.go:65
  refine H_region (l := [_, _]) rfl ?_
  refine HO_bin (r := .int .i64 (2)) rfl rfl rfl rfl (bin_lit (by decide) (fun _ => rfl)) ?_
  refine HO_move rfl rfl rfl ?_
  refine HO_nil ?_
  refine H_env (ρ' := [(34, _), (3, _), (33, _)]) ⟨rfl, rfl, rfl, trivial⟩ ?_
  refine H_rnd ?_
  refine H_seq ?_
  -- R8 command.go:65
  refine H_region (l := [_]) rfl ?_
  refine HO_bin rfl rfl rfl rfl (bin_lit (by decide) (fun _ => rfl)) ?_
  refine HO_nil ?_
  refine H_seq ?_
  refine H_cond rfl (fun _ => ?_) (fun h => nomatch h)
  refine H_skip ?_
  refine H_seq ?_
  refine H_block ?_
  refine H_seq ?_
  -- R9 command.go:65
  refine H_region (l := [_, _]) rfl ?_
  refine HO_indexV (j := 2) (cs := [_, _, _, _]) rfl rfl rfl rfl Try.underlying99 Try.isAgg9 Try.sizeOf9 rfl (by decide) rfl ?_
  refine HO_assign rfl rfl rfl ?_
  refine HO_nil ?_
  refine H_env (ρ' := [(7, _), (34, _), (3, _), (33, _)]) ⟨rfl, rfl, rfl, rfl, trivial⟩ ?_
  -- R10 command.go:66
  refine H_region (l := [_, _, _, _]) rfl ?_
  refine HO_move rfl rfl rfl ?_
  refine HO_move rfl rfl rfl ?_
  refine HO_call (first := []) (capt := []) (is := [0]) (R := []) rfl rfl rfl rfl rfl Try.call69 rfl (Spec.lend (pre1 := []) (pre2 := []) (PutText_spec _ _ _ _ ?_ ?_) rfl (by intro y at' ha; obtain rfl := List.mem_singleton.1 ha; first | exact Atom.Flat.own kByte_plain _ _ _ _ | exact Atom.Flat.own kInt_plain _ _ _ _ | exact Atom.Flat.own kStr_plain _ _ _ _ | exact Atom.Flat.loc _ _ _)) ?_
  · omega
  · (simp only [List.length_append, List.length_nil]; omega)
  intro y39 hy39
  refine HO_assign rfl rfl rfl ?_
  refine HO_nil ?_
  refine H_env (ρ' := [(3, _), (34, _), (33, _)]) ⟨rfl, rfl, rfl, trivial⟩ ?_
  refine H_world (fun _ hA => hA.drop (is := [0]) (Y := [_]) (Z := [_]) rfl) ?_
  refine H_blk ?_
  -- R11 command.go:65
  refine H_region (l := [_, _]) rfl ?_
  refine HO_bin (r := .int .i64 (3)) rfl rfl rfl rfl (bin_lit (by decide) (fun _ => rfl)) ?_
  refine HO_move rfl rfl rfl ?_
  refine HO_nil ?_
  refine H_env (ρ' := [(34, _), (3, _), (33, _)]) ⟨rfl, rfl, rfl, trivial⟩ ?_
  refine H_rnd ?_
  refine H_seq ?_
  -- R8 command.go:65
  refine H_region (l := [_]) rfl ?_
  refine HO_bin rfl rfl rfl rfl (bin_lit (by decide) (fun _ => rfl)) ?_
  refine HO_nil ?_
  refine H_seq ?_
  refine H_cond rfl (fun _ => ?_) (fun h => nomatch h)
  refine H_skip ?_
  refine H_seq ?_
  refine H_block ?_
  refine H_seq ?_
  -- R9 command.go:65
  refine H_region (l := [_, _]) rfl ?_
  refine HO_indexV (j := 3) (cs := [_, _, _, _]) rfl rfl rfl rfl Try.underlying99 Try.isAgg9 Try.sizeOf9 rfl (by decide) rfl ?_
  refine HO_assign rfl rfl rfl ?_
  refine HO_nil ?_
  refine H_env (ρ' := [(7, _), (34, _), (3, _), (33, _)]) ⟨rfl, rfl, rfl, rfl, trivial⟩ ?_
  -- R10 command.go:66
  refine H_region (l := [_, _, _, _]) rfl ?_
  refine HO_move rfl rfl rfl ?_
  refine HO_move rfl rfl rfl ?_
  refine HO_call (first := []) (capt := []) (is := [0]) (R := []) rfl rfl rfl rfl rfl Try.call69 rfl (Spec.lend (pre1 := []) (pre2 := []) (PutText_spec _ _ _ _ ?_ ?_) rfl (by intro y at' ha; obtain rfl := List.mem_singleton.1 ha; first | exact Atom.Flat.own kByte_plain _ _ _ _ | exact Atom.Flat.own kInt_plain _ _ _ _ | exact Atom.Flat.own kStr_plain _ _ _ _ | exact Atom.Flat.loc _ _ _)) ?_
  · omega
  · (simp only [List.length_append, List.length_nil]; omega)
  intro y39 hy39
  refine HO_assign rfl rfl rfl ?_
  refine HO_nil ?_
  refine H_env (ρ' := [(3, _), (34, _), (33, _)]) ⟨rfl, rfl, rfl, trivial⟩ ?_
  refine H_world (fun _ hA => hA.drop (is := [0]) (Y := [_]) (Z := [_]) rfl) ?_
  refine H_blk ?_
  -- R11 command.go:65
  refine H_region (l := [_, _]) rfl ?_
  refine HO_bin (r := .int .i64 (4)) rfl rfl rfl rfl (bin_lit (by decide) (fun _ => rfl)) ?_
  refine HO_move rfl rfl rfl ?_
  refine HO_nil ?_
  refine H_env (ρ' := [(34, _), (3, _), (33, _)]) ⟨rfl, rfl, rfl, trivial⟩ ?_
  refine H_rnd ?_
  refine H_seq ?_
  -- R8 command.go:65
  refine H_region (l := [_]) rfl ?_
  refine HO_bin rfl rfl rfl rfl (bin_lit (by decide) (fun _ => rfl)) ?_
  refine HO_nil ?_
  refine H_seq ?_
  refine H_cond rfl (fun h => nomatch h) (fun _ => ?_)
  refine H_exit rfl ?_
  refine H_seq ?_
  -- R12 command.go:68
  refine H_region (l := [_, _]) rfl ?_
  refine HO_move rfl rfl rfl ?_
  refine HO_assign rfl rfl rfl ?_
  refine HO_nil ?_
  refine H_env (ρ' := [(2, _)]) ⟨rfl, trivial⟩ ?_
  -- end1
  refine H_ret1 Try.results23 (.tmp rfl) (fun w hA => ⟨y39, congrArg Ending.returned ?_, ?_, ?_⟩)
  · rfl
  · trivial
  · exact hA.only (is := [0]) (Z := []) rfl
end Go.Wk
