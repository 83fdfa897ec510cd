/- Contracts of the program's functions, each proved by walking its code. -/
import Derived.Test.YtondhngfjngngaaKelaw09b
import Derived.Test.YtondhngfjngngaaRdr
import Derived.Test.YtondhngfjngngaaKerdr
set_option maxRecDepth 100000
set_option linter.unusedVariables false
set_option linter.unusedSimpArgs false
namespace Go.Wk.Fcmd3
open Go Go.RowKit Go.Proofs Go.Wk
theorem bd107_0_s {a1 : Option Addr} {n1 c1 : Nat} : ∀ w, (Instr.build 107 (List.toArray (List.zip [0] [.slice a1 n1 c1]))).run Try.prog w = .ok (.agg #[.slice a1 n1 c1, .bool (false)]) w := fun _ => by kernel_rfl
theorem bd110_0_1_2_3_pppp {x1 : Option Addr} {x2 : Option Addr} {x3 : Option Addr} {x4 : Option Addr} : ∀ w, (Instr.build 110 (List.toArray (List.zip [0, 1, 2, 3] [.pointer x1, .pointer x2, .pointer x3, .pointer x4]))).run Try.prog w = .ok (.agg #[.pointer x1, .pointer x2, .pointer x3, .pointer x4]) w := fun _ => by kernel_rfl
theorem bd23__  : ∀ w, (Instr.build 23 (List.toArray (List.zip [] []))).run Try.prog w = .ok (.agg #[.int .i64 (0), .int .i64 (0), .int .i64 (0), .string (⟨#[]⟩), .string (⟨#[]⟩), .string (⟨#[]⟩), .string (⟨#[]⟩), .int .i64 (0)]) w := fun _ => by kernel_rfl
theorem bd23_0_1_2_7_iiii {x1 : Int} {x2 : Int} {x3 : Int} {x4 : Int} : ∀ w, (Instr.build 23 (List.toArray (List.zip [0, 1, 2, 7] [.int .i64 x1, .int .i64 x2, .int .i64 x3, .int .i64 x4]))).run Try.prog w = .ok (.agg #[.int .i64 x1, .int .i64 x2, .int .i64 x3, .string (⟨#[]⟩), .string (⟨#[]⟩), .string (⟨#[]⟩), .string (⟨#[]⟩), .int .i64 x4]) w := fun _ => by kernel_rfl
theorem eq23_eql {x y : Operand} {a0 b0 : Int} {a1 b1 : Int} {a2 b2 : Int} {a3 b3 : ByteArray} {a4 b4 : ByteArray} {a5 b5 : ByteArray} {a6 b6 : ByteArray} {a7 b7 : Int} : BinR Try.prog .eql 23 x y (.agg #[.int .i64 a0, .int .i64 a1, .int .i64 a2, .string a3, .string a4, .string a5, .string a6, .int .i64 a7]) (.agg #[.int .i64 b0, .int .i64 b1, .int .i64 b2, .string b3, .string b4, .string b5, .string b6, .int .i64 b7]) (.bool (decide (a0 = b0) && (decide (a1 = b1) && (decide (a2 = b2) && (decide (a3 = b3) && (decide (a4 = b4) && (decide (a5 = b5) && (decide (a6 = b6) && (decide (a7 = b7) && true))))))))) :=
  bin_eqs_agg (by kernel_rfl) Try.underlying23 (by kernel_rfl) (fun w => (eqF_int (by decide) Try.underlying3 Try.isAgg3 rfl rfl (eqF_int (by decide) Try.underlying3 Try.isAgg3 rfl rfl (eqF_int (by decide) Try.underlying3 Try.isAgg3 rfl rfl (eqF_str (by decide) Try.underlying9 Try.isAgg9 rfl rfl (eqF_str (by decide) Try.underlying9 Try.isAgg9 rfl rfl (eqF_str (by decide) Try.underlying9 Try.isAgg9 rfl rfl (eqF_str (by decide) Try.underlying9 Try.isAgg9 rfl rfl (eqF_int (by decide) Try.underlying3 Try.isAgg3 rfl rfl eqF_nil)))))))))
end Go.Wk.Fcmd3
namespace Go.Wk
open Go Go.RowKit Go.Proofs Fcmd3 
theorem cread_spec (b : List UInt8) (a : Option Addr) (c : Nat) (hb : b.length ≤ 100000) : Spec Try.prog 28 #[.slice a (b.length) c] [.dat kByte.sl (b) [.slice a (b.length) c]] (β := Unit) (fun y => .tuple #[.agg #[.int .i64 ((Cmd.read b).1.kind), .int .i64 ((Cmd.read b).1.sess), .int .i64 ((Cmd.read b).1.seq), .string ((Cmd.read b).1.key), .string ((Cmd.read b).1.old), .string ((Cmd.read b).1.val), .string ((Cmd.read b).1.til), .int .i64 ((Cmd.read b).1.lim)], .int .i64 ((Cmd.read b).2)]) (fun y => True) (fun y => []) := by
  refine Spec.enter (vs := [_]) Try.func28 rfl Try.ntmps28 rfl (Nat.le_of_ble_eq_true rfl) (fun w0 ok0 => ?_)
  generalize hM0 : blks _ = M0
  have hMn : ∀ {R : List Atom} (b : Nat), M0 b → blks R b := fun b hb => absurd (hM0 ▸ hb) (blks_none (by simp [Atom.dat, Atom.elem]) b)
  refine H_seq ?_
  -- R0 command.go:72
  refine H_region (l := [_, _]) rfl ?_
  refine HO_alloc (cs := [_, _, _, _, _, _, _, _]) rfl rfl Try.zeroValue23 rfl ?_
  intro g2
  refine HO_assign rfl rfl rfl ?_
  refine HO_nil ?_
  refine H_env (ρ' := [(2, _), (0, _)]) ⟨rfl, rfl, trivial⟩ ?_
  refine H_seq ?_
  -- R1 command.go:73
  refine H_region (l := [_, _, _, _]) rfl ?_
  refine HO_move rfl rfl rfl ?_
  refine HO_build (xo := [(0, _)]) (vs := [_]) rfl rfl rfl rfl (bd107_0_s) ?_
  refine HO_box (cs := [_, _]) rfl rfl rfl rfl ?_
  intro g10
  refine HO_assign rfl rfl rfl ?_
  refine HO_nil ?_
  refine H_env (ρ' := [(4, _), (2, _)]) ⟨rfl, rfl, trivial⟩ ?_
  refine H_seq ?_
  -- R2 command.go:74
  refine H_region (l := [_, _, _, _, _, _, _, _, _, _, _]) rfl ?_
  refine HO_move rfl rfl rfl ?_
  refine HO_dup (i := 2) rfl rfl ?_
  refine HO_call (first := []) (capt := []) (is := [0, 0]) (R := [_, _]) rfl rfl rfl rfl rfl Try.call75 rfl (cInt_spec _ _ _ _ _ _) ?_
  intro y12 hy12
  generalize hr_r1 : Cod.rd 0 (Cod.dec b) b false = r1
  have hl_r1 : r1.2.1.length ≤ b.length := hr_r1 ▸ Cod.rd_len _ _ _ _
  refine HO_move rfl rfl rfl ?_
  refine HO_dup (i := 1) rfl rfl ?_
  refine HO_call (first := []) (capt := []) (is := [0, 0]) (R := [_, _, _]) rfl rfl rfl rfl rfl Try.call75 rfl (cInt_spec _ _ _ _ _ _) ?_
  intro y14 hy14
  generalize hr_r2 : Cod.rd 0 (Cod.dec r1.2.1) r1.2.1 r1.2.2 = r2
  have hl_r2 : r2.2.1.length ≤ r1.2.1.length := hr_r2 ▸ Cod.rd_len _ _ _ _
  refine HO_move rfl rfl rfl ?_
  refine HO_dup (i := 1) rfl rfl ?_
  refine HO_call (first := []) (capt := []) (is := [0, 0]) (R := [_, _, _, _]) rfl rfl rfl rfl rfl Try.call75 rfl (cInt_spec _ _ _ _ _ _) ?_
  intro y16 hy16
  generalize hr_r3 : Cod.rd 0 (Cod.dec r2.2.1) r2.2.1 r2.2.2 = r3
  have hl_r3 : r3.2.1.length ≤ r2.2.1.length := hr_r3 ▸ Cod.rd_len _ _ _ _
  refine HO_move rfl rfl rfl ?_
  refine HO_dup (i := 1) rfl rfl ?_
  refine HO_call (first := []) (capt := []) (is := [0, 0]) (R := [_, _, _, _, _]) rfl rfl rfl rfl rfl Try.call75 rfl (cInt_spec _ _ _ _ _ _) ?_
  intro y18 hy18
  generalize hr_r4 : Cod.rd 0 (Cod.dec r3.2.1) r3.2.1 r3.2.2 = r4
  have hl_r4 : r4.2.1.length ≤ r3.2.1.length := hr_r4 ▸ Cod.rd_len _ _ _ _
  refine HO_build (xo := [(0, _), (1, _), (2, _), (7, _)]) (vs := [_, _, _, _]) rfl rfl rfl rfl (bd23_0_1_2_7_iiii) ?_
  refine HO_alloc (cs := [_, _, _, _, _, _, _, _]) rfl rfl Try.zeroValue23 rfl ?_
  intro g5
  refine HO_store (i := 0) (j := 0) (us := []) (old := [_, _, _, _, _, _, _, _]) (ts := []) (cs := [_, _, _, _, _, _, _, _]) (R := [_, _, _, _, _, _, _]) (new := [_, _, _, _, _, _, _, _]) rfl rfl rfl Try.sizeOf23 rfl (by simp [Value.oneCell']) rfl rfl rfl rfl rfl rfl ?_
  refine HO_nil ?_
  refine H_env (ρ' := [(5, _), (4, _), (2, _)]) ⟨rfl, rfl, rfl, trivial⟩ ?_
  refine H_world (fun _ hA => hA.drop (is := [3, 4, 5, 7]) (Y := [_, _, _, _]) (Z := [_, _, _, _]) rfl) ?_
  refine H_seq ?_
  refine H_seq ?_
  -- R3 command.go:75
  refine H_region (l := [_, _, _, _, _, _]) rfl ?_
  refine HO_fieldAddr (r := 3) rfl rfl rfl Try.underlying23 rfl Try.sizeOf9 rfl ?_
  refine HO_fieldAddr (r := 4) rfl rfl rfl Try.underlying23 rfl Try.sizeOf9 rfl ?_
  refine HO_fieldAddr (r := 5) rfl rfl rfl Try.underlying23 rfl Try.sizeOf9 rfl ?_
  refine HO_fieldAddr (r := 6) rfl rfl rfl Try.underlying23 rfl Try.sizeOf9 rfl ?_
  refine HO_build (xo := [(0, _), (1, _), (2, _), (3, _)]) (vs := [_, _, _, _]) rfl rfl rfl rfl (bd110_0_1_2_3_pppp) ?_
  refine HO_move rfl rfl rfl ?_
  refine HO_nil ?_
  refine H_env (ρ' := [(25, _), (24, _), (5, _), (4, _), (2, _)]) ⟨rfl, rfl, rfl, rfl, rfl, trivial⟩ ?_
  refine H_block ?_
  refine H_rounds 5 ?_
  refine H_rnd ?_
  refine H_seq ?_
  -- R4 command.go:75
  refine H_region (l := [_]) rfl ?_
  refine HO_bin rfl rfl rfl rfl (bin_lit (by decide) (fun _ => rfl)) ?_
  refine HO_nil ?_
  refine H_seq ?_
  refine H_cond rfl (fun _ => ?_) (fun h => nomatch h)
  refine H_skip ?_
  refine H_seq ?_
  refine H_block ?_
  refine H_seq ?_
  -- R5 command.go:75
  refine H_region (l := [_, _]) rfl ?_
  refine HO_indexV (j := 0) (cs := [_, _, _, _]) rfl rfl rfl rfl Try.underlying110 Try.isAgg109 Try.sizeOf109 rfl (by decide) rfl ?_
  refine HO_assign rfl rfl rfl ?_
  refine HO_nil ?_
  refine H_env (ρ' := [(7, _), (25, _), (24, _), (5, _), (4, _), (2, _)]) ⟨rfl, rfl, rfl, rfl, rfl, rfl, trivial⟩ ?_
  -- R6 command.go:76
  refine H_region (l := [_, _, _, _, _]) rfl ?_
  refine HO_move rfl rfl rfl ?_
  refine HO_move rfl rfl rfl ?_
  refine HO_dup (i := 2) rfl rfl ?_
  refine HO_call (first := []) (capt := []) (is := [1, 0]) (R := [_, _, _]) rfl rfl rfl rfl rfl Try.call76 rfl (cText_spec _ _ _ _ _ _ ?_) ?_
  · (first | omega | assumption | decide)
  intro y30 hy30
  generalize hr_r5 : Cod.rd [] (Cod.decT r4.2.1) r4.2.1 r4.2.2 = r5
  have hl_r5 : r5.2.1.length ≤ r4.2.1.length := hr_r5 ▸ Cod.rd_len _ _ _ _
  have hs_r5 := Cod.rdT_size hr_r5
  refine HO_nilCheck rfl rfl rfl ?_
  refine HO_store (i := 2) (j := 0) (us := [_, _, _]) (old := [_]) (ts := [_, _, _, _]) (cs := [_]) (R := [_, _, _, _]) (new := [_, _, _, _, _, _, _, _]) rfl rfl rfl Try.sizeOf9 rfl (by simp [Value.oneCell']) rfl rfl rfl rfl rfl rfl ?_
  refine HO_nil ?_
  refine H_env (ρ' := [(25, _), (24, _), (5, _), (4, _), (2, _)]) ⟨rfl, rfl, rfl, rfl, rfl, trivial⟩ ?_
  refine H_world (fun _ hA => hA.drop (is := [3]) (Y := [_]) (Z := [_, _, _, _]) rfl) ?_
  refine H_blk ?_
  -- R7 command.go:75
  refine H_region (l := [_, _]) rfl ?_
  refine HO_bin (r := .int .i64 (1)) rfl rfl rfl rfl (bin_lit (by decide) (fun _ => rfl)) ?_
  refine HO_move rfl rfl rfl ?_
  refine HO_nil ?_
  refine H_env (ρ' := [(25, _), (24, _), (5, _), (4, _), (2, _)]) ⟨rfl, rfl, rfl, rfl, rfl, trivial⟩ ?_
  refine H_rnd ?_
  refine H_seq ?_
  -- R4 command.go:75
  refine H_region (l := [_]) rfl ?_
  refine HO_bin rfl rfl rfl rfl (bin_lit (by decide) (fun _ => rfl)) ?_
  refine HO_nil ?_
  refine H_seq ?_
  refine H_cond rfl (fun _ => ?_) (fun h => nomatch h)
  refine H_skip ?_
  refine H_seq ?_
  refine H_block ?_
  refine H_seq ?_
  -- R5 command.go:75
  refine H_region (l := [_, _]) rfl ?_
  refine HO_indexV (j := 1) (cs := [_, _, _, _]) rfl rfl rfl rfl Try.underlying110 Try.isAgg109 Try.sizeOf109 rfl (by decide) rfl ?_
  refine HO_assign rfl rfl rfl ?_
  refine HO_nil ?_
  refine H_env (ρ' := [(7, _), (25, _), (24, _), (5, _), (4, _), (2, _)]) ⟨rfl, rfl, rfl, rfl, rfl, rfl, trivial⟩ ?_
  -- R6 command.go:76
  refine H_region (l := [_, _, _, _, _]) rfl ?_
  refine HO_move rfl rfl rfl ?_
  refine HO_move rfl rfl rfl ?_
  refine HO_dup (i := 2) rfl rfl ?_
  refine HO_call (first := []) (capt := []) (is := [1, 0]) (R := [_, _, _]) rfl rfl rfl rfl rfl Try.call76 rfl (cText_spec _ _ _ _ _ _ ?_) ?_
  · (first | omega | assumption | decide)
  intro y30 hy30
  generalize hr_r6 : Cod.rd [] (Cod.decT r5.2.1) r5.2.1 r5.2.2 = r6
  have hl_r6 : r6.2.1.length ≤ r5.2.1.length := hr_r6 ▸ Cod.rd_len _ _ _ _
  have hs_r6 := Cod.rdT_size hr_r6
  refine HO_nilCheck rfl rfl rfl ?_
  refine HO_store (i := 2) (j := 0) (us := [_, _, _, _]) (old := [_]) (ts := [_, _, _]) (cs := [_]) (R := [_, _, _, _]) (new := [_, _, _, _, _, _, _, _]) rfl rfl rfl Try.sizeOf9 rfl (by simp [Value.oneCell']) rfl rfl rfl rfl rfl rfl ?_
  refine HO_nil ?_
  refine H_env (ρ' := [(25, _), (24, _), (5, _), (4, _), (2, _)]) ⟨rfl, rfl, rfl, rfl, rfl, trivial⟩ ?_
  refine H_world (fun _ hA => hA.drop (is := [3]) (Y := [_]) (Z := [_, _, _, _]) rfl) ?_
  refine H_blk ?_
  -- R7 command.go:75
  refine H_region (l := [_, _]) rfl ?_
  refine HO_bin (r := .int .i64 (2)) rfl rfl rfl rfl (bin_lit (by decide) (fun _ => rfl)) ?_
  refine HO_move rfl rfl rfl ?_
  refine HO_nil ?_
  refine H_env (ρ' := [(25, _), (24, _), (5, _), (4, _), (2, _)]) ⟨rfl, rfl, rfl, rfl, rfl, trivial⟩ ?_
  refine H_rnd ?_
  refine H_seq ?_
  -- R4 command.go:75
  refine H_region (l := [_]) rfl ?_
  refine HO_bin rfl rfl rfl rfl (bin_lit (by decide) (fun _ => rfl)) ?_
  refine HO_nil ?_
  refine H_seq ?_
  refine H_cond rfl (fun _ => ?_) (fun h => nomatch h)
  refine H_skip ?_
  refine H_seq ?_
  refine H_block ?_
  refine H_seq ?_
  -- R5 command.go:75
  refine H_region (l := [_, _]) rfl ?_
  refine HO_indexV (j := 2) (cs := [_, _, _, _]) rfl rfl rfl rfl Try.underlying110 Try.isAgg109 Try.sizeOf109 rfl (by decide) rfl ?_
  refine HO_assign rfl rfl rfl ?_
  refine HO_nil ?_
  refine H_env (ρ' := [(7, _), (25, _), (24, _), (5, _), (4, _), (2, _)]) ⟨rfl, rfl, rfl, rfl, rfl, rfl, trivial⟩ ?_
  -- R6 command.go:76
  refine H_region (l := [_, _, _, _, _]) rfl ?_
  refine HO_move rfl rfl rfl ?_
  refine HO_move rfl rfl rfl ?_
  refine HO_dup (i := 2) rfl rfl ?_
  refine HO_call (first := []) (capt := []) (is := [1, 0]) (R := [_, _, _]) rfl rfl rfl rfl rfl Try.call76 rfl (cText_spec _ _ _ _ _ _ ?_) ?_
  · (first | omega | assumption | decide)
  intro y30 hy30
  generalize hr_r7 : Cod.rd [] (Cod.decT r6.2.1) r6.2.1 r6.2.2 = r7
  have hl_r7 : r7.2.1.length ≤ r6.2.1.length := hr_r7 ▸ Cod.rd_len _ _ _ _
  have hs_r7 := Cod.rdT_size hr_r7
  refine HO_nilCheck rfl rfl rfl ?_
  refine HO_store (i := 2) (j := 0) (us := [_, _, _, _, _]) (old := [_]) (ts := [_, _]) (cs := [_]) (R := [_, _, _, _]) (new := [_, _, _, _, _, _, _, _]) rfl rfl rfl Try.sizeOf9 rfl (by simp [Value.oneCell']) rfl rfl rfl rfl rfl rfl ?_
  refine HO_nil ?_
  refine H_env (ρ' := [(25, _), (24, _), (5, _), (4, _), (2, _)]) ⟨rfl, rfl, rfl, rfl, rfl, trivial⟩ ?_
  refine H_world (fun _ hA => hA.drop (is := [3]) (Y := [_]) (Z := [_, _, _, _]) rfl) ?_
  refine H_blk ?_
  -- R7 command.go:75
  refine H_region (l := [_, _]) rfl ?_
  refine HO_bin (r := .int .i64 (3)) rfl rfl rfl rfl (bin_lit (by decide) (fun _ => rfl)) ?_
  refine HO_move rfl rfl rfl ?_
  refine HO_nil ?_
  refine H_env (ρ' := [(25, _), (24, _), (5, _), (4, _), (2, _)]) ⟨rfl, rfl, rfl, rfl, rfl, trivial⟩ ?_
  refine H_rnd ?_
  refine H_seq ?_
  -- R4 command.go:75
  refine H_region (l := [_]) rfl ?_
  refine HO_bin rfl rfl rfl rfl (bin_lit (by decide) (fun _ => rfl)) ?_
  refine HO_nil ?_
  refine H_seq ?_
  refine H_cond rfl (fun _ => ?_) (fun h => nomatch h)
  refine H_skip ?_
  refine H_seq ?_
  refine H_block ?_
  refine H_seq ?_
  -- R5 command.go:75
  refine H_region (l := [_, _]) rfl ?_
  refine HO_indexV (j := 3) (cs := [_, _, _, _]) rfl rfl rfl rfl Try.underlying110 Try.isAgg109 Try.sizeOf109 rfl (by decide) rfl ?_
  refine HO_assign rfl rfl rfl ?_
  refine HO_nil ?_
  refine H_env (ρ' := [(7, _), (25, _), (24, _), (5, _), (4, _), (2, _)]) ⟨rfl, rfl, rfl, rfl, rfl, rfl, trivial⟩ ?_
  -- R6 command.go:76
  refine H_region (l := [_, _, _, _, _]) rfl ?_
  refine HO_move rfl rfl rfl ?_
  refine HO_move rfl rfl rfl ?_
  refine HO_dup (i := 2) rfl rfl ?_
  refine HO_call (first := []) (capt := []) (is := [1, 0]) (R := [_, _, _]) rfl rfl rfl rfl rfl Try.call76 rfl (cText_spec _ _ _ _ _ _ ?_) ?_
  · (first | omega | assumption | decide)
  intro y30 hy30
  generalize hr_r8 : Cod.rd [] (Cod.decT r7.2.1) r7.2.1 r7.2.2 = r8
  have hl_r8 : r8.2.1.length ≤ r7.2.1.length := hr_r8 ▸ Cod.rd_len _ _ _ _
  have hs_r8 := Cod.rdT_size hr_r8
  refine HO_nilCheck rfl rfl rfl ?_
  refine HO_store (i := 2) (j := 0) (us := [_, _, _, _, _, _]) (old := [_]) (ts := [_]) (cs := [_]) (R := [_, _, _, _]) (new := [_, _, _, _, _, _, _, _]) rfl rfl rfl Try.sizeOf9 rfl (by simp [Value.oneCell']) rfl rfl rfl rfl rfl rfl ?_
  refine HO_nil ?_
  refine H_env (ρ' := [(25, _), (24, _), (5, _), (4, _), (2, _)]) ⟨rfl, rfl, rfl, rfl, rfl, trivial⟩ ?_
  refine H_world (fun _ hA => hA.drop (is := [3]) (Y := [_]) (Z := [_, _, _, _]) rfl) ?_
  refine H_blk ?_
  -- R7 command.go:75
  refine H_region (l := [_, _]) rfl ?_
  refine HO_bin (r := .int .i64 (4)) rfl rfl rfl rfl (bin_lit (by decide) (fun _ => rfl)) ?_
  refine HO_move rfl rfl rfl ?_
  refine HO_nil ?_
  refine H_env (ρ' := [(25, _), (24, _), (5, _), (4, _), (2, _)]) ⟨rfl, rfl, rfl, rfl, rfl, trivial⟩ ?_
  refine H_rnd ?_
  refine H_seq ?_
  -- R4 command.go:75
  refine H_region (l := [_]) rfl ?_
  refine HO_bin rfl rfl rfl rfl (bin_lit (by decide) (fun _ => rfl)) ?_
  refine HO_nil ?_
  refine H_seq ?_
  refine H_cond rfl (fun h => nomatch h) (fun _ => ?_)
  refine H_exit rfl ?_
  refine H_seq ?_
  refine H_seq ?_
  -- R8 command.go:78
  have hp := Cmd.parse_of hr_r1 hr_r2 hr_r3 hr_r4 hr_r5 hr_r6 hr_r7 hr_r8
  refine H_region (l := [_, _, _, _, _, _, _, _]) rfl ?_
  refine HO_move rfl rfl rfl ?_
  refine HO_dup (i := 2) rfl rfl ?_
  refine HO_call (first := []) (capt := []) (is := [1, 0]) (R := [_, _, _]) rfl rfl rfl rfl rfl Try.call77 rfl (cEnd_spec _ _ _ _ _ _) ?_
  intro y34 hy34
  clear y34 hy34
  refine HO_not rfl rfl rfl ?_
  refine HO_move rfl rfl rfl ?_
  refine HO_split (d := 36) rfl ?_ ?_
  · intro h36
    (try simp only [decide_eq_true_eq, decide_eq_false_iff_not, Bool.not_eq_true', Bool.not_eq_false', Bool.not_eq_true, Bool.not_eq_false, Bool.true_eq_false, Bool.false_eq_true, not_false_eq_true, not_true_eq_false] at h36)
    refine HO_no rfl rfl rfl ?_
    refine HO_no rfl rfl rfl ?_
    refine HO_no rfl rfl rfl ?_
    refine HO_pick_t rfl rfl rfl rfl ?_
    refine HO_nil ?_
    refine H_env (ρ' := [(40, _), (5, _), (2, _)]) ⟨rfl, rfl, rfl, trivial⟩ ?_
    refine H_world (fun _ hA => hA.drop (is := [0, 2]) (Y := [_, _]) (Z := [_, _]) rfl) ?_
    refine H_cond rfl (fun _ => ?_) (fun h => nomatch h)
    refine H_seq ?_
    -- R9 command.go:79
    refine H_region (l := [_, _, _]) rfl ?_
    refine HO_build (xo := []) (vs := []) rfl rfl rfl rfl (bd23__) ?_
    refine HO_store (i := 1) (j := 0) (us := []) (old := [_, _, _, _, _, _, _, _]) (ts := []) (cs := [_, _, _, _, _, _, _, _]) (R := [_]) (new := [_, _, _, _, _, _, _, _]) rfl rfl rfl Try.sizeOf23 rfl (by simp [Value.oneCell']) rfl rfl rfl rfl rfl rfl ?_
    refine HO_assign rfl rfl rfl ?_
    refine HO_nil ?_
    refine H_env (ρ' := [(3, _), (2, _)]) ⟨rfl, rfl, trivial⟩ ?_
    refine H_world (fun _ hA => hA.drop (is := [1]) (Y := [_]) (Z := [_]) rfl) ?_
    -- end1
    refine H_ret2 Try.results28 (.cell rfl (fun w hA => run_loadVarA (cs := [_, _, _, _, _, _, _, _]) (Try.isAgg23 w) (Try.sizeOf23 w) (Tells.cells (.loc _ _ _) (hA.get (i := 0) rfl)))) (.tmp rfl) (fun w hA => ⟨(), congrArg Ending.returned ?_, ?_, ?_⟩)
    · (rw [Cmd.read_bad hp (.inl h36)] <;> rfl)
    · trivial
    · exact hA.only (is := []) (Z := [_]) rfl
  · intro h36
    (try simp only [decide_eq_true_eq, decide_eq_false_iff_not, Bool.not_eq_true', Bool.not_eq_false', Bool.not_eq_true, Bool.not_eq_false, Bool.true_eq_false, Bool.false_eq_true, not_false_eq_true, not_true_eq_false] at h36)
    refine HO_loadA (i := 1) (us := []) (cs := [_, _, _, _, _, _, _, _]) (ts := []) rfl rfl rfl Try.isAgg23 Try.sizeOf23 rfl (.loc _ _ _) rfl rfl rfl rfl ?_
    refine HO_call (first := []) (capt := []) (is := []) (R := [_, _, _, _]) rfl rfl rfl rfl rfl Try.call16 rfl (good_spec _ _ _ _ _ _ _ _) ?_
    intro y38 hy38
    clear y38 hy38
    refine HO_not rfl rfl rfl ?_
    refine HO_pick_f rfl rfl rfl rfl ?_
    refine HO_nil ?_
    refine H_env (ρ' := [(40, _), (5, _), (2, _)]) ⟨rfl, rfl, rfl, trivial⟩ ?_
    refine H_world (fun _ hA => hA.drop (is := [0, 2]) (Y := [_, _]) (Z := [_, _]) rfl) ?_
    refine H_cond rfl ?_ ?_
    · intro h40
      (try simp only [decide_eq_true_eq, decide_eq_false_iff_not, Bool.not_eq_true', Bool.not_eq_false', Bool.not_eq_true, Bool.not_eq_false, Bool.true_eq_false, Bool.false_eq_true, not_false_eq_true, not_true_eq_false] at h40)
      refine H_seq ?_
      -- R9 command.go:79
      refine H_region (l := [_, _, _]) rfl ?_
      refine HO_build (xo := []) (vs := []) rfl rfl rfl rfl (bd23__) ?_
      refine HO_store (i := 1) (j := 0) (us := []) (old := [_, _, _, _, _, _, _, _]) (ts := []) (cs := [_, _, _, _, _, _, _, _]) (R := [_]) (new := [_, _, _, _, _, _, _, _]) rfl rfl rfl Try.sizeOf23 rfl (by simp [Value.oneCell']) rfl rfl rfl rfl rfl rfl ?_
      refine HO_assign rfl rfl rfl ?_
      refine HO_nil ?_
      refine H_env (ρ' := [(3, _), (2, _)]) ⟨rfl, rfl, trivial⟩ ?_
      refine H_world (fun _ hA => hA.drop (is := [1]) (Y := [_]) (Z := [_]) rfl) ?_
      -- end2
      refine H_ret2 Try.results28 (.cell rfl (fun w hA => run_loadVarA (cs := [_, _, _, _, _, _, _, _]) (Try.isAgg23 w) (Try.sizeOf23 w) (Tells.cells (.loc _ _ _) (hA.get (i := 0) rfl)))) (.tmp rfl) (fun w hA => ⟨(), congrArg Ending.returned ?_, ?_, ?_⟩)
      · (rw [Cmd.read_bad hp (.inr h40)] <;> rfl)
      · trivial
      · exact hA.only (is := []) (Z := [_]) rfl
    · intro h40
      (try simp only [decide_eq_true_eq, decide_eq_false_iff_not, Bool.not_eq_true', Bool.not_eq_false', Bool.not_eq_true, Bool.not_eq_false, Bool.true_eq_false, Bool.false_eq_true, not_false_eq_true, not_true_eq_false] at h40)
      refine H_skip ?_
      refine H_seq ?_
      -- R10 command.go:81
      refine H_region (l := [_, _, _]) rfl ?_
      refine HO_loadA (i := 0) (us := []) (cs := [_, _, _, _, _, _, _, _]) (ts := []) rfl rfl rfl Try.isAgg23 Try.sizeOf23 rfl (.loc _ _ _) rfl rfl rfl rfl ?_
      refine HO_store (i := 1) (j := 0) (us := []) (old := [_, _, _, _, _, _, _, _]) (ts := []) (cs := [_, _, _, _, _, _, _, _]) (R := [_]) (new := [_, _, _, _, _, _, _, _]) rfl rfl rfl Try.sizeOf23 rfl (by simp [Value.oneCell']) rfl rfl rfl rfl rfl rfl ?_
      refine HO_assign rfl rfl rfl ?_
      refine HO_nil ?_
      refine H_env (ρ' := [(3, _), (2, _)]) ⟨rfl, rfl, trivial⟩ ?_
      refine H_world (fun _ hA => hA.drop (is := [1]) (Y := [_]) (Z := [_]) rfl) ?_
      -- end3
      refine H_ret2 Try.results28 (.cell rfl (fun w hA => run_loadVarA (cs := [_, _, _, _, _, _, _, _]) (Try.isAgg23 w) (Try.sizeOf23 w) (Tells.cells (.loc _ _ _) (hA.get (i := 0) rfl)))) (.tmp rfl) (fun w hA => ⟨(), congrArg Ending.returned ?_, ?_, ?_⟩)
      · (rw [Cmd.read_good hp h36 h40] <;> rfl)
      · trivial
      · exact hA.only (is := []) (Z := [_]) rfl
end Go.Wk
