/- Contracts of the program's functions, each proved by walking its code. -/
import Derived.Test.YtondhngfjngngaaGreatKezcodec3
set_option maxRecDepth 100000
set_option linter.unusedVariables false
set_option linter.unusedSimpArgs false
namespace Go.Wk.Fref01
open Go Go.RowKit Go.Proofs Go.Wk
theorem elt5 : Elt Tryz.prog 5 (.int .u8 (0)) 1 1 := Elt.of (by kernel_rfl) (by rfl) (by decide) (by decide)
end Go.Wk.Fref01
namespace Go.Wk
open Go Go.RowKit Go.Proofs Fref01 
theorem rzig_spec (n : Int)  : Spec Tryz.prog 78 #[.int .i64 (n)] [] (β := Unit) (fun y => .int .u64 ((Cod.zig n : Int))) (fun y => True) (fun y => []) := by
 refine Spec.enter (vs := [_]) Tryz.func78 rfl Tryz.ntmps78 rfl (Nat.le_of_ble_eq_true rfl) (fun w0 ok0 => ?_)
 generalize hM0 : blks _ = M0
 have hMn := @noM _ _ hM0 (by simp [Atom.dat, Atom.elem])
 refine H_seq ?_
 refine H_region (l := [_]) rfl ?_
 refine HO_assign rfl rfl rfl ?_
 refine HO_nil ?_
 refine H_env (ρ' := [(0, _)]) ⟨rfl, trivial⟩ ?_
 refine H_seq ?_
 refine H_region (l := [_, _, _]) rfl ?_
 refine HO_move rfl rfl rfl ?_
 refine HO_conv rfl rfl rfl (cv_int Tryz.underlying3 Tryz.underlying78 (wrap_u_i rfl _)) ?_
 refine HO_assign rfl rfl rfl ?_
 refine HO_nil ?_
 refine H_env (ρ' := [(3, _)]) ⟨rfl, trivial⟩ ?_
 refine H_seq ?_
 refine H_region (l := [_, _, _, _, _, _]) rfl ?_
 refine HO_move rfl rfl rfl ?_
 refine HO_bin rfl rfl rfl rfl (bin_shl (s := 1) rfl) ?_
 refine HO_move rfl rfl rfl ?_
 refine HO_bin rfl rfl rfl rfl (bin_shr (s := 63) ?_) ?_
 ·(simp only [IntKind.bits]; omega)
 refine HO_bin rfl rfl rfl rfl (bin_or rfl ?_ ?_) ?_
 ·(exact Nat.mod_lt _ (by decide))
 ·(simp only [IntKind.bits]; omega)
 refine HO_assign rfl rfl rfl ?_
 refine HO_nil ?_
 refine H_env (ρ' := [(2, _)]) ⟨rfl, trivial⟩ ?_
 refine H_ret1 Tryz.results78 (.tmp rfl) (fun w hA => ⟨(), congrArg Ending.returned ?_, ?_, ?_⟩)
 ·rfl
 ·trivial
 ·exact hA.keep (m := []) (Y := []) rfl
theorem rzag_spec (u : Nat) (hu : u < 18446744073709551616) : Spec Tryz.prog 63 #[.int .u64 (u)] [] (β := Unit) (fun y => .int .i64 (Cod.zag u)) (fun y => True) (fun y => []) := by
 refine Spec.enter (vs := [_]) Tryz.func63 rfl Tryz.ntmps63 rfl (Nat.le_of_ble_eq_true rfl) (fun w0 ok0 => ?_)
 generalize hM0 : blks _ = M0
 have hMn := @noM _ _ hM0 (by simp [Atom.dat, Atom.elem])
 refine H_seq ?_
 refine H_region (l := [_]) rfl ?_
 refine HO_assign rfl rfl rfl ?_
 refine HO_nil ?_
 refine H_env (ρ' := [(0, _)]) ⟨rfl, trivial⟩ ?_
 refine H_seq ?_
 refine H_region (l := [_, _, _, _, _, _, _]) rfl ?_
 refine HO_move rfl rfl rfl ?_
 refine HO_bin rfl rfl rfl rfl (bin_shr (s := 1) ?_) ?_
 ·(simp only [IntKind.bits]; omega)
 refine HO_move rfl rfl rfl ?_
 refine HO_bin rfl rfl rfl rfl (bin_shl (s := 63) rfl) ?_
 refine HO_bin rfl rfl rfl rfl (bin_or rfl ?_ ?_) ?_
 ·(simp only [IntKind.bits]; omega)
 ·(exact Nat.mod_lt _ (by decide))
 refine HO_set (v' := .int .u64 ((Cod.zagU u : Int))) 7 rfl (by exact congrArg (fun m : Nat => Value.int .u64 (m : Int)) (Nat.or_comm _ _)) ?_
 refine HO_conv rfl rfl rfl (cv_int Tryz.underlying78 Tryz.underlying3 (wrap_toI (Cod.zagU_lt hu))) ?_
 refine HO_assign rfl rfl rfl ?_
 refine HO_nil ?_
 refine H_env (ρ' := [(2, _)]) ⟨rfl, trivial⟩ ?_
 refine H_ret1 Tryz.results63 (.tmp rfl) (fun w hA => ⟨(), congrArg Ending.returned ?_, ?_, ?_⟩)
 ·rfl
 ·trivial
 ·exact hA.keep (m := []) (Y := []) rfl
theorem rmore_spec (u : Nat) (hu : u < 18446744073709551616) : Spec Tryz.prog 79 #[.int .u64 (u)] [] (β := Unit) (fun y => .int .i64 ((Cod.beh u : Int))) (fun y => True) (fun y => []) := by
 refine Spec.enter (vs := [_]) Tryz.func79 rfl Tryz.ntmps79 rfl (Nat.le_of_ble_eq_true rfl) (fun w0 ok0 => ?_)
 generalize hM0 : blks _ = M0
 have hMn := @noM _ _ hM0 (by simp [Atom.dat, Atom.elem])
 refine H_seq ?_
 refine H_region (l := [_]) rfl ?_
 refine HO_assign rfl rfl rfl ?_
 refine HO_nil ?_
 refine H_env (ρ' := [(0, _)]) ⟨rfl, trivial⟩ ?_
 refine H_seq ?_
 refine H_seq ?_
 refine H_region (l := [_]) rfl ?_
 refine HO_assign rfl rfl rfl ?_
 refine HO_nil ?_
 refine H_block ?_
 refine H_loop (σ := Nat) (fun s => s ≤ 8 ∧ s ≤ Cod.beh u) (fun s => [(0, .int .u64 (u)), (3, .int .i64 ((s : Int)))]) (fun s => Asn w0 ok0 M0 []) (fun s => 8 - s) 0 ?_ ?_ ?_ ?_
 ·exact ⟨Nat.zero_le _, Nat.zero_le _⟩
 ·exact ⟨rfl, rfl, trivial⟩
 ·intro w hA
  exact hA.only (is := []) (Z := []) rfl
 ·intro k hI
  (try dsimp only at hI ⊢)
  refine H_seq ?_
  refine H_seq ?_
  refine H_region (l := [_, _]) rfl ?_
  refine HO_move rfl rfl rfl ?_
  refine HO_bin rfl rfl rfl rfl bin_lss ?_
  refine HO_nil ?_
  refine H_env (ρ' := [(5, _), (0, _), (3, _)]) ⟨rfl, rfl, rfl, trivial⟩ ?_
  refine H_cond rfl ?_ ?_
  ·intro h5
   replace h5 := dT h5
   refine H_skip ?_
   refine H_seq ?_
   refine H_block ?_
   refine H_seq ?_
   refine H_region (l := [_, _, _, _, _, _, _]) rfl ?_
   iterate 2 refine HO_move rfl rfl rfl ?_
   refine HO_bin rfl rfl rfl rfl (bin_add ?_ ?_) ?_
   ·omega
   ·omega
   refine HO_bin rfl rfl rfl rfl (bin_mul ?_ ?_) ?_
   ·omega
   ·omega
   refine HO_conv rfl rfl rfl (cv_int Tryz.underlying3 Tryz.underlying102 (wrap_u_i rfl _)) ?_
   refine HO_set (v' := .int .u64 (((7 * (k + 1) : Nat) : Int))) 12 rfl (by exact congrArg (Value.int .u64) (by simp only [IntKind.bits]; omega)) ?_
   refine HO_bin rfl rfl rfl rfl (bin_shl' rfl ?_) ?_
   ·omega
   refine HO_bin rfl rfl rfl rfl bin_lss ?_
   refine HO_nil ?_
   refine H_env (ρ' := [(14, _), (0, _), (3, _)]) ⟨rfl, rfl, rfl, trivial⟩ ?_
   refine H_cond rfl ?_ ?_
   ·intro h14
    replace h14 := dT h14
    have hb := (Cod.beh_le_iff hu (k := k) (by omega)).2 (Int.ofNat_lt.1 h14)
    refine H_seq ?_
    refine H_region (l := [_, _]) rfl ?_
    refine HO_move rfl rfl rfl ?_
    refine HO_assign rfl rfl rfl ?_
    refine HO_nil ?_
    refine H_env (ρ' := [(2, _)]) ⟨rfl, trivial⟩ ?_
    refine H_ret1 Tryz.results79 (.tmp rfl) (fun w hA => ⟨(), congrArg Ending.returned ?_, ?_, ?_⟩)
    ·(exact congrArg (Value.int .i64) (by have := Cod.beh_le u; omega))
    ·trivial
    ·exact hA.keep (m := []) (Y := []) rfl
   intro h14
   replace h14 := dF h14
   have hb : k < Cod.beh u := by refine Nat.lt_of_not_le fun h => h14 ?_; have := (Cod.beh_le_iff hu (k := k) (by omega)).1 h; exact Int.ofNat_lt.2 this
   refine H_skip ?_
   refine H_blk ?_
   refine H_region (l := [_, _, _]) rfl ?_
   refine HO_move rfl rfl rfl ?_
   refine HO_bin rfl rfl rfl rfl (bin_add ?_ ?_) ?_
   ·omega
   ·omega
   refine HO_assign rfl rfl rfl ?_
   refine HO_nil ?_
   refine H_env (ρ' := [(3, _), (0, _)]) ⟨rfl, rfl, trivial⟩ ?_
   refine H_inv (fun a w hf hA => ⟨k + 1, ?_, ?_, hf.sub ?_, ?_⟩)
   ·exact ⟨by omega, by omega⟩
   ·(try dsimp only); omega
   ·exact ⟨rfl, rfl, trivial⟩
   ·exact hA.only (is := []) (Z := []) rfl
  intro h5
  replace h5 := dF h5
  refine H_exit rfl ?_
  refine H_seq ?_
  refine H_region (l := [_]) rfl ?_
  refine HO_assign rfl rfl rfl ?_
  refine HO_nil ?_
  refine H_env (ρ' := [(2, _)]) ⟨rfl, trivial⟩ ?_
  refine H_ret1 Tryz.results79 (.tmp rfl) (fun w hA => ⟨(), congrArg Ending.returned ?_, ?_, ?_⟩)
  ·(exact congrArg (Value.int .i64) (by have := Cod.beh_le u; omega))
  ·trivial
  ·exact hA.keep (m := []) (Y := []) rfl
theorem rsame_spec (b b2 : List UInt8) (a : Option Addr) (c : Nat) (a2 : Option Addr) (c2 : Nat)  : Spec Tryz.prog 10 #[.slice a (b.length) c, .slice a2 (b2.length) c2] [.dat kByte.sl (b) [.slice a (b.length) c], .dat kByte.sl (b2) [.slice a2 (b2.length) c2]] (β := Unit) (fun y => .bool (decide (b = b2))) (fun y => True) (fun y => []) := by
 refine Spec.enter (vs := [_, _]) Tryz.func10 rfl Tryz.ntmps10 rfl (Nat.le_of_ble_eq_true rfl) (fun w0 ok0 => ?_)
 generalize hM0 : blks _ = M0
 have hMn := @noM _ _ hM0 (by simp [Atom.dat, Atom.elem])
 refine H_seq ?_
 refine H_region (l := [_]) rfl ?_
 refine HO_assign rfl rfl rfl ?_
 refine HO_nil ?_
 refine H_env (ρ' := [(0, _), (1, _)]) ⟨rfl, rfl, trivial⟩ ?_
 refine H_seq ?_
 refine H_region (l := [_, _, _, _, _, _]) rfl ?_
 refine HO_move rfl rfl rfl ?_
 refine HO_bytesStr (i := 0) rfl rfl rfl Tryz.underlying26 Tryz.underlying9 Tryz.underlying5 rfl ?_
 refine HO_move rfl rfl rfl ?_
 refine HO_bytesStr (i := 1) rfl rfl rfl Tryz.underlying26 Tryz.underlying9 Tryz.underlying5 rfl ?_
 refine HO_bin rfl rfl rfl rfl bin_eqs ?_
 refine HO_assign rfl rfl rfl ?_
 refine HO_nil ?_
 refine H_env (ρ' := [(4, _)]) ⟨rfl, trivial⟩ ?_
 refine H_world (fun _ hA => hA.keep (m := [nn, nn]) (Y := []) rfl) ?_
 refine H_ret1 Tryz.results10 (.tmp rfl) (fun w hA => ⟨(), congrArg Ending.returned ?_, ?_, ?_⟩)
 ·(exact congrArg Value.bool (Cod.dec_same b b2))
 ·trivial
 ·exact hA.keep (m := []) (Y := []) rfl
theorem rPut_spec (b : List UInt8) (u : Nat) (a : Option Addr) (c : Nat) (hu : u < 18446744073709551616) (hb : b.length ≤ 1099511627776) : Spec Tryz.prog 44 #[.slice a (b.length) c, .int .u64 (u)] [.dat kByte.sl (b) [.slice a (b.length) c]] (β := Option Addr × Nat) (fun y => .slice y.1 ((b ++ Cod.enc u).length) y.2) (fun y => True) (fun y => [.own 5 kByte y.1 y.2 (b ++ Cod.enc u)]) := by
 have hk8 := Cod.beh_le u
 refine Spec.enter (vs := [_, _]) Tryz.func44 rfl Tryz.ntmps44 rfl (Nat.le_of_ble_eq_true rfl) (fun w0 ok0 => ?_)
 generalize hM0 : blks _ = M0
 have hMn := @noM _ _ hM0 (by simp [Atom.dat, Atom.elem])
 refine H_seq ?_
 refine H_region (l := [_]) rfl ?_
 refine HO_assign rfl rfl rfl ?_
 refine HO_nil ?_
 refine H_env (ρ' := [(0, _), (1, _)]) ⟨rfl, rfl, trivial⟩ ?_
 refine H_seq ?_
 refine H_region (l := [_, _, _, _]) rfl ?_
 refine HO_buildSlice0 (kd := kByte) rfl rfl Tryz.underlying26 elt5 ?_
 intro g10
 refine HO_move rfl rfl rfl ?_
 refine HO_append (i := 0) (R := [_]) rfl rfl rfl rfl rfl Tryz.underlying26 elt5 rfl rfl (SrcOk.dat (j := 0) Tryz.underlying26 rfl) ?_ ?_
 ·(simp only [List.length_nil]; omega)
 intro a12 c12
 refine HO_assign rfl rfl rfl ?_
 refine HO_nil ?_
 refine H_env (ρ' := [(5, _), (1, _)]) ⟨rfl, rfl, trivial⟩ ?_
 refine H_world (fun _ hA => hA.keep (m := [yy, nn]) (Y := [_]) rfl) ?_
 refine H_seq ?_
 refine H_region (l := [_, _, _]) rfl ?_
 refine HO_move rfl rfl rfl ?_
 refine HO_call (first := []) (capt := []) (is := []) (R := [_]) rfl rfl rfl rfl rfl Tryz.call79 rfl (rmore_spec _ ?_) ?_
 ·(first | omega | assumption | decide)
 intro y14 hy14
 clear y14 hy14
 refine HO_assign rfl rfl rfl ?_
 refine HO_nil ?_
 refine H_env (ρ' := [(6, _), (5, _), (1, _)]) ⟨rfl, rfl, rfl, trivial⟩ ?_
 refine H_seq ?_
 refine H_region (l := [_]) rfl ?_
 refine HO_assign rfl rfl rfl ?_
 refine HO_nil ?_
 refine H_seq ?_
 refine H_seq ?_
 refine H_region (l := [_]) rfl ?_
 refine HO_assign rfl rfl rfl ?_
 refine HO_nil ?_
 refine H_block ?_
 refine H_loop (σ := Nat) (fun s => s ≤ Cod.beh u) (fun s => [(1, .int .u64 (u)), (5, .slice a12 (b.length) c12), (6, .int .i64 ((Cod.beh u : Int))), (7, .int .u8 ((Cod.onesB s : Int))), (8, .int .i64 ((s : Int)))]) (fun s => Asn w0 ok0 M0 [.own 5 kByte a12 c12 (b)]) (fun s => Cod.beh u - s) 0 ?_ ?_ ?_ ?_
 ·exact Nat.zero_le _
 ·exact ⟨rfl, rfl, rfl, rfl, rfl, trivial⟩
 ·intro w hA
  exact hA.only (is := [0]) (Z := []) rfl
 ·intro i hI
  (try dsimp only at hI ⊢)
  refine H_seq ?_
  refine H_seq ?_
  refine H_region (l := [_, _, _]) rfl ?_
  iterate 2 refine HO_move rfl rfl rfl ?_
  refine HO_bin rfl rfl rfl rfl bin_lss ?_
  refine HO_nil ?_
  refine H_env (ρ' := [(17, _), (1, _), (5, _), (6, _), (7, _), (8, _)]) ⟨rfl, rfl, rfl, rfl, rfl, rfl, trivial⟩ ?_
  refine H_cond rfl ?_ ?_
  ·intro h17
   replace h17 := dT h17
   refine H_skip ?_
   refine H_seq ?_
   refine H_block ?_
   refine H_region (l := [_, _, _, _, _, _]) rfl ?_
   iterate 2 refine HO_move rfl rfl rfl ?_
   refine HO_conv rfl rfl rfl (cv_int Tryz.underlying3 Tryz.underlying102 (wrap_u_i rfl _)) ?_
   refine HO_set (v' := .int .u64 (((i : Nat) : Int))) 22 rfl (by exact congrArg (Value.int .u64) (by simp only [IntKind.bits]; omega)) ?_
   refine HO_bin rfl rfl rfl rfl (bin_shr' ?_ ?_) ?_
   ·decide
   ·omega
   refine HO_bin rfl rfl rfl rfl (bin_or rfl ?_ ?_) ?_
   ·(simp only [IntKind.bits]; have := Cod.onesB_lt i; omega)
   ·(simp only [IntKind.bits]; exact Nat.lt_of_le_of_lt (Nat.div_le_self _ _) (by decide))
   refine HO_set (v' := .int .u8 ((Cod.onesB (i + 1) : Int))) 24 rfl (by exact congrArg (fun m : Nat => Value.int .u8 (m : Int)) (by have h8 : ((i : Int)).toNat = i := (by omega); rw [h8]; exact Cod.ones_next (by omega))) ?_
   refine HO_assign rfl rfl rfl ?_
   refine HO_nil ?_
   refine H_env (ρ' := [(7, _), (1, _), (5, _), (6, _), (8, _)]) ⟨rfl, rfl, rfl, rfl, rfl, trivial⟩ ?_
   refine H_blk ?_
   refine H_region (l := [_, _, _]) rfl ?_
   refine HO_move rfl rfl rfl ?_
   refine HO_bin rfl rfl rfl rfl (bin_add ?_ ?_) ?_
   ·omega
   ·omega
   refine HO_assign rfl rfl rfl ?_
   refine HO_nil ?_
   refine H_env (ρ' := [(8, _), (7, _), (1, _), (5, _), (6, _)]) ⟨rfl, rfl, rfl, rfl, rfl, trivial⟩ ?_
   refine H_inv (fun a w hf hA => ⟨i + 1, ?_, ?_, hf.sub ?_, ?_⟩)
   ·omega
   ·(try dsimp only); omega
   ·exact ⟨rfl, rfl, rfl, rfl, rfl, trivial⟩
   ·exact hA.only (is := [0]) (Z := []) rfl
  intro h17
  replace h17 := dF h17
  refine H_exit rfl ?_
  refine H_seq ?_
  refine H_seq ?_
  obtain rfl : i = Cod.beh u := by omega
  refine H_region (l := [_, _]) rfl ?_
  refine HO_move rfl rfl rfl ?_
  refine HO_bin rfl rfl rfl rfl bin_lss ?_
  refine HO_nil ?_
  refine H_env (ρ' := [(26, _), (1, _), (5, _), (6, _), (7, _)]) ⟨rfl, rfl, rfl, rfl, rfl, trivial⟩ ?_
  refine H_cond rfl ?_ ?_
  ·intro h26
   replace h26 := dT h26
   refine H_region (l := [_, _, _, _, _, _, _, _, _]) rfl ?_
   iterate 3 refine HO_move rfl rfl rfl ?_
   refine HO_bin rfl rfl rfl rfl (bin_mul ?_ ?_) ?_
   ·omega
   ·omega
   refine HO_conv rfl rfl rfl (cv_int Tryz.underlying3 Tryz.underlying102 (wrap_u_i rfl _)) ?_
   refine HO_set (v' := .int .u64 (((8 * Cod.beh u : Nat) : Int))) 31 rfl (by exact congrArg (Value.int .u64) (by simp only [IntKind.bits]; omega)) ?_
   refine HO_bin rfl rfl rfl rfl (bin_shr' ?_ ?_) ?_
   ·(simp only [IntKind.bits]; omega)
   ·omega
   refine HO_conv rfl rfl rfl (cv_int Tryz.underlying78 Tryz.underlying5 (wrap_u rfl _)) ?_
   refine HO_bin rfl rfl rfl rfl (bin_or rfl ?_ ?_) ?_
   ·(simp only [IntKind.bits]; have := Cod.onesB_lt (Cod.beh u); omega)
   ·(exact Nat.mod_lt _ (by decide))
   refine HO_assign rfl rfl rfl ?_
   refine HO_nil ?_
   refine H_env (ρ' := [(7, _), (1, _), (5, _), (6, _)]) ⟨rfl, rfl, rfl, rfl, trivial⟩ ?_
   refine H_seq ?_
   refine H_set (v' := .int .u8 ((UInt8.ofNat (Cod.headB u)).toNat : Int)) 7 rfl (by (first | exact head_set1 (by omega) (by omega) | exact head_set2 (by omega))) ?_
   refine H_region (l := [_, _, _, _, _]) rfl ?_
   iterate 2 refine HO_move rfl rfl rfl ?_
   refine HO_buildSlice (kd := kByte) (xo := [_]) (vs := [_]) (cs := [_]) (xs := [_]) rfl rfl rfl rfl Tryz.underlying26 elt5 rfl rfl rfl (by decide) (by decide) (by simp [Value.cells]) rfl (fun _ _ _ => ⟨_, _, rfl, ⟨rfl, trivial⟩, rfl⟩) ?_
   intro g37
   refine HO_append (i := 1) (R := [_]) rfl rfl rfl rfl rfl Tryz.underlying26 elt5 rfl rfl (SrcOk.own (j := 0) Tryz.underlying26 rfl rfl) ?_ ?_
   ·(simp only [List.length_append, List.length_cons, List.length_nil]; omega)
   intro a38 c38
   refine HO_assign rfl rfl rfl ?_
   refine HO_nil ?_
   refine H_env (ρ' := [(5, _), (1, _), (6, _)]) ⟨rfl, rfl, rfl, trivial⟩ ?_
   refine H_world (fun _ hA => hA.keep (m := [yy, nn]) (Y := [_]) rfl) ?_
   refine H_seq ?_
   refine H_seq ?_
   refine H_region (l := [_, _, _]) rfl ?_
   refine HO_move rfl rfl rfl ?_
   refine HO_bin rfl rfl rfl rfl (bin_sub ?_ ?_) ?_
   ·omega
   ·omega
   refine HO_assign rfl rfl rfl ?_
   refine HO_nil ?_
   refine H_env (ρ' := [(9, _), (5, _), (1, _)]) ⟨rfl, rfl, rfl, trivial⟩ ?_
   refine H_block ?_
   refine H_loop (σ := Nat × List UInt8 × Option Addr × Nat) (fun s => s.2.1 ++ Cod.tailB u s.1 = b ++ Cod.enc u ∧ s.1 ≤ 8) (fun s => [(5, .slice s.2.2.1 (s.2.1.length) s.2.2.2), (1, .int .u64 (u)), (9, .int .i64 ((s.1 : Int) - 1))]) (fun s => Asn w0 ok0 M0 [.own 5 kByte s.2.2.1 s.2.2.2 (s.2.1)]) (fun s => s.1) ⟨Cod.beh u, b ++ [UInt8.ofNat (Cod.headB u)], a38, c38⟩ ?_ ?_ ?_ ?_
   ·exact ⟨by simp [Cod.enc], Cod.beh_le u⟩
   ·exact ⟨rfl, rfl, rfl, trivial⟩
   ·intro w hA
    exact hA.only (is := [0]) (Z := []) rfl
   ·rintro ⟨j, l, a, c⟩ hI
    (try dsimp only at hI ⊢)
    refine H_seq ?_
    refine H_seq ?_
    refine H_region (l := [_, _]) rfl ?_
    refine HO_move rfl rfl rfl ?_
    refine HO_bin rfl rfl rfl rfl bin_geq ?_
    refine HO_nil ?_
    refine H_env (ρ' := [(42, _), (5, _), (1, _), (9, _)]) ⟨rfl, rfl, rfl, rfl, trivial⟩ ?_
    refine H_cond rfl ?_ ?_
    ·intro h42
     replace h42 := dT h42
     refine H_skip ?_
     refine H_seq ?_
     refine H_block ?_
     refine H_region (l := [_, _, _, _, _, _, _, _, _, _]) rfl ?_
     iterate 3 refine HO_move rfl rfl rfl ?_
     refine HO_bin rfl rfl rfl rfl (bin_mul ?_ ?_) ?_
     ·omega
     ·omega
     refine HO_conv rfl rfl rfl (cv_int Tryz.underlying3 Tryz.underlying102 (wrap_u_i rfl _)) ?_
     refine HO_set (v' := .int .u64 (((8 * (j - 1) : Nat) : Int))) 49 rfl (by exact congrArg (Value.int .u64) (by simp only [IntKind.bits]; omega)) ?_
     refine HO_bin rfl rfl rfl rfl (bin_shr' ?_ ?_) ?_
     ·(simp only [IntKind.bits]; omega)
     ·omega
     refine HO_conv rfl rfl rfl (cv_int Tryz.underlying78 Tryz.underlying5 (wrap_u rfl _)) ?_
     refine HO_set (v' := .int .u8 (((UInt8.ofNat (u / 2 ^ (8 * (j - 1)))).toNat : Int))) 51 rfl (by (exact byte_eq (by first | rfl | (congr 2; omega)))) ?_
     refine HO_buildSlice (kd := kByte) (xo := [_]) (vs := [_]) (cs := [_]) (xs := [_]) rfl rfl rfl rfl Tryz.underlying26 elt5 rfl rfl rfl (by decide) (by decide) (by simp [Value.cells]) rfl (fun _ _ _ => ⟨_, _, rfl, ⟨rfl, trivial⟩, rfl⟩) ?_
     intro g52
     refine HO_append (i := 1) (R := [_]) rfl rfl rfl rfl rfl Tryz.underlying26 elt5 rfl rfl (SrcOk.own (j := 0) Tryz.underlying26 rfl rfl) ?_ ?_
     ·(simp only [List.length_cons, List.length_nil]; have := congrArg List.length hI.1; simp only [List.length_append, Cod.tailB_length, Cod.enc_length] at this; omega)
     intro a53 c53
     refine HO_assign rfl rfl rfl ?_
     refine HO_nil ?_
     refine H_env (ρ' := [(5, _), (1, _), (9, _)]) ⟨rfl, rfl, rfl, trivial⟩ ?_
     refine H_world (fun _ hA => hA.keep (m := [yy, nn]) (Y := [_]) rfl) ?_
     refine H_blk ?_
     refine H_region (l := [_, _, _]) rfl ?_
     refine HO_move rfl rfl rfl ?_
     refine HO_bin rfl rfl rfl rfl (bin_sub ?_ ?_) ?_
     ·omega
     ·omega
     refine HO_assign rfl rfl rfl ?_
     refine HO_nil ?_
     refine H_env (ρ' := [(9, _), (5, _), (1, _)]) ⟨rfl, rfl, rfl, trivial⟩ ?_
     refine H_inv (fun a w hf hA => ⟨⟨j - 1, l ++ [UInt8.ofNat (u / 2 ^ (8 * (j - 1)))], a53, c53⟩, ?_, ?_, hf.sub ?_, ?_⟩)
     ·exact ⟨by obtain ⟨j', rfl⟩ : ∃ m, j = m + 1 := ⟨j - 1, by omega⟩; simpa [Cod.tailB] using hI.1, by omega⟩
     ·(try dsimp only); omega
     ·exact ⟨rfl, rfl, congrArg (fun z => some (Value.int .i64 z)) (by omega), trivial⟩
     ·exact hA.only (is := [0]) (Z := []) rfl
    intro h42
    replace h42 := dF h42
    refine H_exit rfl ?_
    refine H_seq ?_
    refine H_region (l := [_, _]) rfl ?_
    refine HO_move rfl rfl rfl ?_
    refine HO_assign rfl rfl rfl ?_
    refine HO_nil ?_
    refine H_env (ρ' := [(4, _)]) ⟨rfl, trivial⟩ ?_
    obtain rfl : j = 0 := by omega
    have hI1 := hI.1
    simp only [Cod.tailB, List.append_nil] at hI1
    subst hI1
    refine H_ret1 Tryz.results44 (.tmp rfl) (fun w hA => ⟨(a, c), congrArg Ending.returned ?_, ?_, ?_⟩)
    ·rfl
    ·trivial
    ·exact hA.keep (m := [yy]) (Y := [_]) rfl
  intro h26
  replace h26 := dF h26
  refine H_skip ?_
  refine H_seq ?_
  refine H_set (v' := .int .u8 ((UInt8.ofNat (Cod.headB u)).toNat : Int)) 7 rfl (by (first | exact head_set1 (by omega) (by omega) | exact head_set2 (by omega))) ?_
  refine H_region (l := [_, _, _, _, _]) rfl ?_
  iterate 2 refine HO_move rfl rfl rfl ?_
  refine HO_buildSlice (kd := kByte) (xo := [_]) (vs := [_]) (cs := [_]) (xs := [_]) rfl rfl rfl rfl Tryz.underlying26 elt5 rfl rfl rfl (by decide) (by decide) (by simp [Value.cells]) rfl (fun _ _ _ => ⟨_, _, rfl, ⟨rfl, trivial⟩, rfl⟩) ?_
  intro g37
  refine HO_append (i := 1) (R := [_]) rfl rfl rfl rfl rfl Tryz.underlying26 elt5 rfl rfl (SrcOk.own (j := 0) Tryz.underlying26 rfl rfl) ?_ ?_
  ·(simp only [List.length_append, List.length_cons, List.length_nil]; omega)
  intro a38 c38
  refine HO_assign rfl rfl rfl ?_
  refine HO_nil ?_
  refine H_env (ρ' := [(5, _), (1, _), (6, _)]) ⟨rfl, rfl, rfl, trivial⟩ ?_
  refine H_world (fun _ hA => hA.keep (m := [yy, nn]) (Y := [_]) rfl) ?_
  refine H_seq ?_
  refine H_seq ?_
  refine H_region (l := [_, _, _]) rfl ?_
  refine HO_move rfl rfl rfl ?_
  refine HO_bin rfl rfl rfl rfl (bin_sub ?_ ?_) ?_
  ·omega
  ·omega
  refine HO_assign rfl rfl rfl ?_
  refine HO_nil ?_
  refine H_env (ρ' := [(9, _), (5, _), (1, _)]) ⟨rfl, rfl, rfl, trivial⟩ ?_
  refine H_block ?_
  refine H_loop (σ := Nat × List UInt8 × Option Addr × Nat) (fun s => s.2.1 ++ Cod.tailB u s.1 = b ++ Cod.enc u ∧ s.1 ≤ 8) (fun s => [(5, .slice s.2.2.1 (s.2.1.length) s.2.2.2), (1, .int .u64 (u)), (9, .int .i64 ((s.1 : Int) - 1))]) (fun s => Asn w0 ok0 M0 [.own 5 kByte s.2.2.1 s.2.2.2 (s.2.1)]) (fun s => s.1) ⟨Cod.beh u, b ++ [UInt8.ofNat (Cod.headB u)], a38, c38⟩ ?_ ?_ ?_ ?_
  ·exact ⟨by simp [Cod.enc], Cod.beh_le u⟩
  ·exact ⟨rfl, rfl, rfl, trivial⟩
  ·intro w hA
   exact hA.only (is := [0]) (Z := []) rfl
  ·rintro ⟨j, l, a, c⟩ hI
   (try dsimp only at hI ⊢)
   refine H_seq ?_
   refine H_seq ?_
   refine H_region (l := [_, _]) rfl ?_
   refine HO_move rfl rfl rfl ?_
   refine HO_bin rfl rfl rfl rfl bin_geq ?_
   refine HO_nil ?_
   refine H_env (ρ' := [(42, _), (5, _), (1, _), (9, _)]) ⟨rfl, rfl, rfl, rfl, trivial⟩ ?_
   refine H_cond rfl ?_ ?_
   ·intro h42
    replace h42 := dT h42
    refine H_skip ?_
    refine H_seq ?_
    refine H_block ?_
    refine H_region (l := [_, _, _, _, _, _, _, _, _, _]) rfl ?_
    iterate 3 refine HO_move rfl rfl rfl ?_
    refine HO_bin rfl rfl rfl rfl (bin_mul ?_ ?_) ?_
    ·omega
    ·omega
    refine HO_conv rfl rfl rfl (cv_int Tryz.underlying3 Tryz.underlying102 (wrap_u_i rfl _)) ?_
    refine HO_set (v' := .int .u64 (((8 * (j - 1) : Nat) : Int))) 49 rfl (by exact congrArg (Value.int .u64) (by simp only [IntKind.bits]; omega)) ?_
    refine HO_bin rfl rfl rfl rfl (bin_shr' ?_ ?_) ?_
    ·(simp only [IntKind.bits]; omega)
    ·omega
    refine HO_conv rfl rfl rfl (cv_int Tryz.underlying78 Tryz.underlying5 (wrap_u rfl _)) ?_
    refine HO_set (v' := .int .u8 (((UInt8.ofNat (u / 2 ^ (8 * (j - 1)))).toNat : Int))) 51 rfl (by (exact byte_eq (by first | rfl | (congr 2; omega)))) ?_
    refine HO_buildSlice (kd := kByte) (xo := [_]) (vs := [_]) (cs := [_]) (xs := [_]) rfl rfl rfl rfl Tryz.underlying26 elt5 rfl rfl rfl (by decide) (by decide) (by simp [Value.cells]) rfl (fun _ _ _ => ⟨_, _, rfl, ⟨rfl, trivial⟩, rfl⟩) ?_
    intro g52
    refine HO_append (i := 1) (R := [_]) rfl rfl rfl rfl rfl Tryz.underlying26 elt5 rfl rfl (SrcOk.own (j := 0) Tryz.underlying26 rfl rfl) ?_ ?_
    ·(simp only [List.length_cons, List.length_nil]; have := congrArg List.length hI.1; simp only [List.length_append, Cod.tailB_length, Cod.enc_length] at this; omega)
    intro a53 c53
    refine HO_assign rfl rfl rfl ?_
    refine HO_nil ?_
    refine H_env (ρ' := [(5, _), (1, _), (9, _)]) ⟨rfl, rfl, rfl, trivial⟩ ?_
    refine H_world (fun _ hA => hA.keep (m := [yy, nn]) (Y := [_]) rfl) ?_
    refine H_blk ?_
    refine H_region (l := [_, _, _]) rfl ?_
    refine HO_move rfl rfl rfl ?_
    refine HO_bin rfl rfl rfl rfl (bin_sub ?_ ?_) ?_
    ·omega
    ·omega
    refine HO_assign rfl rfl rfl ?_
    refine HO_nil ?_
    refine H_env (ρ' := [(9, _), (5, _), (1, _)]) ⟨rfl, rfl, rfl, trivial⟩ ?_
    refine H_inv (fun a w hf hA => ⟨⟨j - 1, l ++ [UInt8.ofNat (u / 2 ^ (8 * (j - 1)))], a53, c53⟩, ?_, ?_, hf.sub ?_, ?_⟩)
    ·exact ⟨by obtain ⟨j', rfl⟩ : ∃ m, j = m + 1 := ⟨j - 1, by omega⟩; simpa [Cod.tailB] using hI.1, by omega⟩
    ·(try dsimp only); omega
    ·exact ⟨rfl, rfl, congrArg (fun z => some (Value.int .i64 z)) (by omega), trivial⟩
    ·exact hA.only (is := [0]) (Z := []) rfl
   intro h42
   replace h42 := dF h42
   refine H_exit rfl ?_
   refine H_seq ?_
   refine H_region (l := [_, _]) rfl ?_
   refine HO_move rfl rfl rfl ?_
   refine HO_assign rfl rfl rfl ?_
   refine HO_nil ?_
   refine H_env (ρ' := [(4, _)]) ⟨rfl, trivial⟩ ?_
   obtain rfl : j = 0 := by omega
   have hI1 := hI.1
   simp only [Cod.tailB, List.append_nil] at hI1
   subst hI1
   refine H_ret1 Tryz.results44 (.tmp rfl) (fun w hA => ⟨(a, c), congrArg Ending.returned ?_, ?_, ?_⟩)
   ·rfl
   ·trivial
   ·exact hA.keep (m := [yy]) (Y := [_]) rfl
theorem rPutText_spec (b : List UInt8) (s : ByteArray) (a : Option Addr) (c : Nat) (hs : s.size ≤ 1099511627776) (hb : b.length ≤ 1099511627776) : Spec Tryz.prog 80 #[.slice a (b.length) c, .string (s)] [.dat kByte.sl (b) [.slice a (b.length) c]] (β := Option Addr × Nat) (fun y => .slice y.1 ((b ++ (Cod.enc s.size ++ s.data.toList)).length) y.2) (fun y => True) (fun y => [.own 5 kByte y.1 y.2 (b ++ (Cod.enc s.size ++ s.data.toList))]) := by
 refine Spec.enter (vs := [_, _]) Tryz.func80 rfl Tryz.ntmps80 rfl (Nat.le_of_ble_eq_true rfl) (fun w0 ok0 => ?_)
 generalize hM0 : blks _ = M0
 have hMn := @noM _ _ hM0 (by simp [Atom.dat, Atom.elem])
 refine H_seq ?_
 refine H_region (l := [_]) rfl ?_
 refine HO_assign rfl rfl rfl ?_
 refine HO_nil ?_
 refine H_env (ρ' := [(0, _), (1, _)]) ⟨rfl, rfl, trivial⟩ ?_
 refine H_seq ?_
 refine H_region (l := [_, _, _, _, _, _, _, _]) rfl ?_
 iterate 2 refine HO_move rfl rfl rfl ?_
 refine HO_bi rfl rfl rfl (bi_len_str Tryz.underlying9) ?_
 refine HO_conv rfl rfl rfl (cv_int Tryz.underlying3 Tryz.underlying78 (wrap_u_i rfl _)) ?_
 refine HO_set (v' := .int .u64 ((s.size : Int))) 8 rfl (by exact congrArg (Value.int .u64) (by simp only [IntKind.bits]; omega)) ?_
 refine HO_dup (i := 0) rfl rfl ?_
 refine HO_call (first := []) (capt := []) (is := [0]) (R := [_]) rfl rfl rfl rfl rfl Tryz.call44 rfl (rPut_spec _ _ _ _ ?_ ?_) ?_
 ·omega
 ·assumption
 intro y9 hy9
 refine HO_move rfl rfl rfl ?_
 refine HO_append (i := 0) (R := [_]) rfl rfl rfl rfl rfl Tryz.underlying26 elt5 rfl rfl (SrcOk.str Tryz.underlying9) ?_ ?_
 ·(have := Cod.enc_length s.size; have := Cod.beh_le s.size; have hss : s.data.toList.length = s.size := Array.length_toList; simp only [List.length_append]; omega)
 intro a11 c11
 refine HO_assign rfl rfl rfl ?_
 refine HO_nil ?_
 refine H_env (ρ' := [(4, _)]) ⟨rfl, trivial⟩ ?_
 refine H_world (fun _ hA => hA.keep (m := [yy, nn]) (Y := [_]) rfl) ?_
 refine H_ret1 Tryz.results80 (.tmp rfl) (fun w hA => ⟨(a11, c11), congrArg Ending.returned ?_, ?_, ?_⟩)
 ·simp [List.append_assoc]
 ·trivial
 ·exact (hA.keep (m := [yy]) (Y := [_]) rfl).cast (by simp [List.append_assoc])
theorem rPutBool_spec (b : List UInt8) (t : Bool) (a : Option Addr) (c : Nat) (hb : b.length ≤ 1099511627776) : Spec Tryz.prog 43 #[.slice a (b.length) c, .bool (t)] [.dat kByte.sl (b) [.slice a (b.length) c]] (β := Option Addr × Nat) (fun y => .slice y.1 ((b ++ [if t then 84 else 70] : List UInt8).length) y.2) (fun y => True) (fun y => [.own 5 kByte y.1 y.2 (b ++ [if t then 84 else 70])]) := by
 refine Spec.enter (vs := [_, _]) Tryz.func43 rfl Tryz.ntmps43 rfl (Nat.le_of_ble_eq_true rfl) (fun w0 ok0 => ?_)
 generalize hM0 : blks _ = M0
 have hMn := @noM _ _ hM0 (by simp [Atom.dat, Atom.elem])
 refine H_seq ?_
 refine H_region (l := [_]) rfl ?_
 refine HO_assign rfl rfl rfl ?_
 refine HO_nil ?_
 refine H_env (ρ' := [(0, _), (1, _)]) ⟨rfl, rfl, trivial⟩ ?_
 refine H_seq ?_
 refine H_seq ?_
 refine H_region (l := [_]) rfl ?_
 refine HO_move rfl rfl rfl ?_
 refine HO_nil ?_
 refine H_env (ρ' := [(5, _), (0, _)]) ⟨rfl, rfl, trivial⟩ ?_
 refine H_cond rfl ?_ ?_
 ·intro h5
  subst h5
  refine H_seq ?_
  refine H_region (l := [_, _, _, _, _, _]) rfl ?_
  refine HO_buildSlice0 (kd := kByte) rfl rfl Tryz.underlying26 elt5 ?_
  intro g6
  refine HO_move rfl rfl rfl ?_
  refine HO_append (i := 0) (R := [_]) rfl rfl rfl rfl rfl Tryz.underlying26 elt5 rfl rfl (SrcOk.dat (j := 0) Tryz.underlying26 rfl) ?_ ?_
  ·(simp only [List.length_nil, List.nil_append, List.length_cons]; omega)
  intro a8 c8
  refine HO_buildSlice (kd := kByte) (xo := [_]) (vs := [_]) (cs := [_]) (xs := [(84 : UInt8)]) rfl rfl rfl rfl Tryz.underlying26 elt5 rfl rfl rfl (by decide) (by decide) (by simp [Value.cells]) rfl (fun _ _ _ => ⟨_, _, rfl, ⟨rfl, trivial⟩, rfl⟩) ?_
  intro g9
  refine HO_append (i := 1) (R := [_, _]) rfl rfl rfl rfl rfl Tryz.underlying26 elt5 rfl rfl (SrcOk.own (j := 0) Tryz.underlying26 rfl rfl) ?_ ?_
  ·(simp only [List.length_nil, List.nil_append, List.length_cons]; omega)
  intro a10 c10
  refine HO_assign rfl rfl rfl ?_
  refine HO_nil ?_
  refine H_env (ρ' := [(4, _)]) ⟨rfl, trivial⟩ ?_
  refine H_world (fun _ hA => hA.keep (m := [yy, nn, nn]) (Y := [_]) rfl) ?_
  refine H_ret1 Tryz.results43 (.tmp rfl) (fun w hA => ⟨(a10, c10), congrArg Ending.returned ?_, ?_, ?_⟩)
  ·rfl
  ·trivial
  ·exact hA.keep (m := [yy]) (Y := [_]) rfl
 intro h5
 subst h5
 refine H_skip ?_
 refine H_seq ?_
 refine H_region (l := [_, _, _, _, _, _]) rfl ?_
 refine HO_buildSlice0 (kd := kByte) rfl rfl Tryz.underlying26 elt5 ?_
 intro g11
 refine HO_move rfl rfl rfl ?_
 refine HO_append (i := 0) (R := [_]) rfl rfl rfl rfl rfl Tryz.underlying26 elt5 rfl rfl (SrcOk.dat (j := 0) Tryz.underlying26 rfl) ?_ ?_
 ·(simp only [List.length_nil, List.nil_append, List.length_cons]; omega)
 intro a13 c13
 refine HO_buildSlice (kd := kByte) (xo := [_]) (vs := [_]) (cs := [_]) (xs := [(70 : UInt8)]) rfl rfl rfl rfl Tryz.underlying26 elt5 rfl rfl rfl (by decide) (by decide) (by simp [Value.cells]) rfl (fun _ _ _ => ⟨_, _, rfl, ⟨rfl, trivial⟩, rfl⟩) ?_
 intro g14
 refine HO_append (i := 1) (R := [_, _]) rfl rfl rfl rfl rfl Tryz.underlying26 elt5 rfl rfl (SrcOk.own (j := 0) Tryz.underlying26 rfl rfl) ?_ ?_
 ·(simp only [List.length_nil, List.nil_append, List.length_cons]; omega)
 intro a15 c15
 refine HO_assign rfl rfl rfl ?_
 refine HO_nil ?_
 refine H_env (ρ' := [(4, _)]) ⟨rfl, trivial⟩ ?_
 refine H_world (fun _ hA => hA.keep (m := [yy, nn, nn]) (Y := [_]) rfl) ?_
 refine H_ret1 Tryz.results43 (.tmp rfl) (fun w hA => ⟨(a15, c15), congrArg Ending.returned ?_, ?_, ?_⟩)
 ·rfl
 ·trivial
 ·exact hA.keep (m := [yy]) (Y := [_]) rfl
theorem rGet_spec (b : List UInt8) (a : Option Addr) (c : Nat)  : Spec Tryz.prog 93 #[.slice a (b.length) c] [.dat kByte.sl (b) [.slice a (b.length) c]] (β := Unit) (fun y => .tuple #[.int .u64 (((Cod.dec b).1 : Int)), .int .i64 (((Cod.dec b).2 : Int))]) (fun y => True) (fun y => []) := by
 refine Spec.enter (vs := [_]) Tryz.func93 rfl Tryz.ntmps93 rfl (Nat.le_of_ble_eq_true rfl) (fun w0 ok0 => ?_)
 generalize hM0 : blks _ = M0
 have hMn := @noM _ _ hM0 (by simp [Atom.dat, Atom.elem])
 refine H_seq ?_
 refine H_region (l := [_, _]) rfl ?_
 iterate 2 refine HO_assign rfl rfl rfl ?_
 refine HO_nil ?_
 refine H_env (ρ' := [(0, _)]) ⟨rfl, trivial⟩ ?_
 refine H_seq ?_
 refine H_seq ?_
 refine H_region (l := [_, _, _]) rfl ?_
 refine HO_move rfl rfl rfl ?_
 refine HO_bi rfl rfl rfl (bi_len_sl Tryz.underlying26) ?_
 refine HO_bin rfl rfl rfl rfl bin_eql ?_
 refine HO_nil ?_
 refine H_env (ρ' := [(9, _), (0, _)]) ⟨rfl, rfl, trivial⟩ ?_
 refine H_cond rfl ?_ ?_
 ·intro h9
  replace h9 := dT h9
  obtain rfl : b = [] := List.eq_nil_of_length_eq_zero (by omega)
  refine H_seq ?_
  refine H_region (l := [_, _]) rfl ?_
  iterate 2 refine HO_assign rfl rfl rfl ?_
  refine HO_nil ?_
  refine H_env (ρ' := [(3, _), (2, _)]) ⟨rfl, rfl, trivial⟩ ?_
  refine H_world (fun _ hA => hA.keep (m := [nn]) (Y := []) rfl) ?_
  refine H_ret2 Tryz.results93 (.tmp rfl) (.tmp rfl) (fun w hA => ⟨(), congrArg Ending.returned ?_, ?_, ?_⟩)
  ·rfl
  ·trivial
  ·exact hA.keep (m := []) (Y := []) rfl
 intro h9
 replace h9 := dF h9
 refine H_skip ?_
 refine H_seq ?_
 obtain ⟨z0, hz0⟩ : ∃ z, b[0]? = some z := ⟨_, List.getElem?_eq_getElem (by omega)⟩
 have hlead := Cod.lead_le z0.toNat
 have hzlt := z0.toNat_lt
 have hdec := Cod.dec_at' hz0
 refine H_region (l := [_]) rfl ?_
 refine HO_assign rfl rfl rfl ?_
 refine HO_nil ?_
 refine H_env (ρ' := [(4, _), (0, _)]) ⟨rfl, rfl, trivial⟩ ?_
 refine H_seq ?_
 refine H_block ?_
 refine H_loop (σ := Nat) (fun s => s ≤ Cod.lead z0.toNat ∧ s ≤ 8) (fun s => [(0, .slice a (b.length) c), (4, .int .i64 ((s : Int)))]) (fun s => Asn w0 ok0 M0 [.dat kByte.sl (b) [.slice a (b.length) c]]) (fun s => 8 - s) 0 ?_ ?_ ?_ ?_
 ·exact ⟨Nat.zero_le _, Nat.zero_le _⟩
 ·exact ⟨rfl, rfl, trivial⟩
 ·intro w hA
  exact hA.only (is := [0]) (Z := []) rfl
 ·intro k hI
  (try dsimp only at hI ⊢)
  refine H_seq ?_
  refine H_seq ?_
  refine H_region (l := [_, _, _, _, _, _, _, _, _, _, _, _, _]) rfl ?_
  refine HO_move rfl rfl rfl ?_
  refine HO_bin rfl rfl rfl rfl bin_lss ?_
  refine HO_move rfl rfl rfl ?_
  refine HO_split (d := 12) rfl ?_ ?_
  ·intro h12
   replace h12 := dT h12
   refine HO_move rfl rfl rfl ?_
   refine HO_indexAddr open_byte (i := 0) (j := 0) rfl rfl rfl rfl rfl Tryz.underlying26 Tryz.sizeOf5 rfl ?_ ?_
   ·omega
   intro b14 o14 z14 y14 hz14 hI14
   clear y14 hI14
   obtain rfl : z0 = z14 := Option.some.inj (hz0.symm.trans hz14)
   refine HO_load1 (i := 0) (j := 0) rfl rfl rfl Tryz.isAgg5 rfl (.elem _ _ _) rfl rfl ?_
   refine HO_move rfl rfl rfl ?_
   refine HO_bin rfl rfl rfl rfl (bin_sub ?_ ?_) ?_
   ·omega
   ·omega
   refine HO_conv rfl rfl rfl (cv_int Tryz.underlying3 Tryz.underlying102 (wrap_u_i rfl _)) ?_
   refine HO_set (v' := .int .u64 (((7 - k : Nat) : Int))) 18 rfl (by exact congrArg (Value.int .u64) (by simp only [IntKind.bits]; omega)) ?_
   refine HO_bin rfl rfl rfl rfl (bin_shr' ?_ ?_) ?_
   ·(have := z0.toNat_lt; simp only [IntKind.bits]; omega)
   ·omega
   refine HO_bin rfl rfl rfl rfl (bin_and rfl ?_ ?_) ?_
   ·(exact Nat.lt_of_le_of_lt (Nat.div_le_self _ _) z0.toNat_lt)
   ·decide
   refine HO_bin rfl rfl rfl rfl bin_eql ?_
   refine HO_pick_t rfl rfl rfl rfl ?_
   refine HO_nil ?_
   refine H_env (ρ' := [(22, _), (0, _), (4, _)]) ⟨rfl, rfl, rfl, trivial⟩ ?_
   refine H_world (fun _ hA => hA.keep (m := [nn, yy]) (Y := [_]) rfl) ?_
   refine H_cond rfl ?_ ?_
   ·intro h22
    replace h22 := dT h22
    refine H_skip ?_
    refine H_block ?_
    have hk1 := Cod.lead_go hzlt hI.1 (by omega) h22
    refine H_region (l := [_, _, _]) rfl ?_
    refine HO_move rfl rfl rfl ?_
    refine HO_bin rfl rfl rfl rfl (bin_add ?_ ?_) ?_
    ·omega
    ·omega
    refine HO_assign rfl rfl rfl ?_
    refine HO_nil ?_
    refine H_env (ρ' := [(4, _), (0, _)]) ⟨rfl, rfl, trivial⟩ ?_
    refine H_blk ?_
    refine H_inv (fun a w hf hA => ⟨k + 1, ?_, ?_, hf.sub ?_, ?_⟩)
    ·exact ⟨hk1, by omega⟩
    ·(try dsimp only); omega
    ·exact ⟨rfl, rfl, trivial⟩
    ·exact hA.only (is := [0]) (Z := []) rfl
   intro h22
   replace h22 := dF h22
   refine H_exit rfl ?_
   refine H_seq ?_
   refine H_seq ?_
   obtain rfl : k = Cod.lead z0.toNat := by first | omega | exact Cod.lead_end hzlt hI.1 hI.2 (by omega) h22
   refine H_region (l := [_, _, _, _, _]) rfl ?_
   refine HO_move rfl rfl rfl ?_
   refine HO_bi rfl rfl rfl (bi_len_sl Tryz.underlying26) ?_
   refine HO_move rfl rfl rfl ?_
   refine HO_bin rfl rfl rfl rfl (bin_add ?_ ?_) ?_
   ·omega
   ·omega
   refine HO_bin rfl rfl rfl rfl bin_lss ?_
   refine HO_nil ?_
   refine H_env (ρ' := [(29, _), (0, _), (4, _)]) ⟨rfl, rfl, rfl, trivial⟩ ?_
   refine H_cond rfl ?_ ?_
   ·intro h29
    replace h29 := dT h29
    rw [if_pos (by omega)] at hdec
    refine H_seq ?_
    refine H_region (l := [_, _]) rfl ?_
    iterate 2 refine HO_assign rfl rfl rfl ?_
    refine HO_nil ?_
    refine H_env (ρ' := [(3, _), (2, _)]) ⟨rfl, rfl, trivial⟩ ?_
    refine H_world (fun _ hA => hA.keep (m := [nn]) (Y := []) rfl) ?_
    refine H_ret2 Tryz.results93 (.tmp rfl) (.tmp rfl) (fun w hA => ⟨(), congrArg Ending.returned ?_, ?_, ?_⟩)
    ·(rw [hdec]; rfl)
    ·trivial
    ·exact hA.keep (m := []) (Y := []) rfl
   intro h29
   replace h29 := dF h29
   rw [if_neg (by omega)] at hdec
   refine H_skip ?_
   refine H_seq ?_
   refine H_region (l := [_]) rfl ?_
   refine HO_assign rfl rfl rfl ?_
   refine HO_nil ?_
   refine H_env (ρ' := [(5, _), (0, _), (4, _)]) ⟨rfl, rfl, rfl, trivial⟩ ?_
   refine H_seq ?_
   refine H_seq ?_
   refine H_region (l := [_, _]) rfl ?_
   refine HO_move rfl rfl rfl ?_
   refine HO_bin rfl rfl rfl rfl bin_lss ?_
   refine HO_nil ?_
   refine H_env (ρ' := [(31, _), (5, _), (0, _), (4, _)]) ⟨rfl, rfl, rfl, rfl, trivial⟩ ?_
   refine H_cond rfl ?_ ?_
   ·intro h31
    replace h31 := dT h31
    refine H_region (l := [_, _, _, _, _, _, _, _, _]) rfl ?_
    refine HO_move rfl rfl rfl ?_
    refine HO_indexAddr open_byte (i := 0) (j := 0) rfl rfl rfl rfl rfl Tryz.underlying26 Tryz.sizeOf5 rfl ?_ ?_
    ·omega
    intro b33 o33 z33 y33 hz33 hI33
    clear y33 hI33
    refine HO_load1 (i := 0) (j := 0) rfl rfl rfl Tryz.isAgg5 rfl (.elem _ _ _) rfl rfl ?_
    refine HO_move rfl rfl rfl ?_
    refine HO_conv rfl rfl rfl (cv_int Tryz.underlying3 Tryz.underlying102 (wrap_u_i rfl _)) ?_
    refine HO_set (v' := .int .u64 (((Cod.lead z0.toNat : Nat) : Int))) 36 rfl (by exact congrArg (Value.int .u64) (by simp only [IntKind.bits]; omega)) ?_
    refine HO_bin rfl rfl rfl rfl (bin_shr' ?_ ?_) ?_
    ·decide
    ·omega
    refine HO_bin rfl rfl rfl rfl (bin_and rfl ?_ ?_) ?_
    ·(exact z33.toNat_lt)
    ·(exact Nat.lt_of_le_of_lt (Nat.div_le_self _ _) (by decide))
    refine HO_conv rfl rfl rfl (cv_int Tryz.underlying5 Tryz.underlying78 (wrap_u_lt rfl ?_)) ?_
    ·(exact Nat.lt_of_le_of_lt Nat.and_le_left (Nat.lt_of_lt_of_le z33.toNat_lt (by decide)))
    refine HO_assign rfl rfl rfl ?_
    refine HO_nil ?_
    refine H_env (ρ' := [(5, _), (0, _), (4, _)]) ⟨rfl, rfl, rfl, trivial⟩ ?_
    refine H_world (fun _ hA => hA.keep (m := [nn, yy]) (Y := [_]) rfl) ?_
    refine H_seq ?_
    refine H_seq ?_
    refine H_set (v' := .int .u64 ((z0.toNat &&& (255 - Cod.onesB (Cod.lead z0.toNat))) : Int)) 5 rfl ?_ ?_
    ·first | exact congrArg (Value.int .u64) (Cod.mask_eq hz0 hz33 (by omega)) | exact congrArg (Value.int .u64) (Cod.mask_zero hzlt (by omega))
    refine H_region (l := [_]) rfl ?_
    refine HO_assign rfl rfl rfl ?_
    refine HO_nil ?_
    refine H_block ?_
    refine H_loop (σ := Nat) (fun s => s ≤ Cod.lead z0.toNat) (fun s => [(0, .slice a (b.length) c), (4, .int .i64 ((Cod.lead z0.toNat : Int))), (5, .int .u64 ((Cod.foldB (z0.toNat &&& (255 - Cod.onesB (Cod.lead z0.toNat))) (List.take s (List.drop 1 b)) : Int))), (6, .int .i64 ((s : Int) + 1))]) (fun s => Asn w0 ok0 M0 [.dat kByte.sl (b) [.slice a (b.length) c]]) (fun s => Cod.lead z0.toNat - s) 0 ?_ ?_ ?_ ?_
    ·exact Nat.zero_le _
    ·exact ⟨rfl, rfl, rfl, rfl, trivial⟩
    ·intro w hA
     exact hA.only (is := [0]) (Z := []) rfl
    ·intro m hI
     (try dsimp only at hI ⊢)
     refine H_seq ?_
     refine H_seq ?_
     refine H_region (l := [_, _, _]) rfl ?_
     iterate 2 refine HO_move rfl rfl rfl ?_
     refine HO_bin rfl rfl rfl rfl bin_leq ?_
     refine HO_nil ?_
     refine H_env (ρ' := [(42, _), (0, _), (4, _), (5, _), (6, _)]) ⟨rfl, rfl, rfl, rfl, rfl, trivial⟩ ?_
     refine H_cond rfl ?_ ?_
     ·intro h42
      replace h42 := dT h42
      refine H_skip ?_
      refine H_seq ?_
      refine H_block ?_
      refine H_region (l := [_, _, _, _, _, _, _, _, _]) rfl ?_
      refine HO_move rfl rfl rfl ?_
      refine HO_bin rfl rfl rfl rfl (bin_shl (s := 8) rfl) ?_
      iterate 2 refine HO_move rfl rfl rfl ?_
      refine HO_indexAddr open_byte (i := 0) (j := m + 1) rfl rfl rfl rfl ?_ Tryz.underlying26 Tryz.sizeOf5 rfl ?_ ?_
      ·omega
      ·omega
      intro b49 o49 z49 y49 hz49 hI49
      clear y49 hI49
      refine HO_load1 (i := 0) (j := 0) rfl rfl rfl Tryz.isAgg5 rfl (.elem _ _ _) rfl rfl ?_
      refine HO_conv rfl rfl rfl (cv_int Tryz.underlying5 Tryz.underlying78 (wrap_u_lt rfl ?_)) ?_
      ·(have := z49.toNat_lt; simp only [IntKind.bits]; omega)
      refine HO_bin rfl rfl rfl rfl (bin_or rfl ?_ ?_) ?_
      ·(exact Nat.mod_lt _ (by decide))
      ·(have := z49.toNat_lt; simp only [IntKind.bits]; omega)
      refine HO_assign rfl rfl rfl ?_
      refine HO_nil ?_
      refine H_env (ρ' := [(5, _), (0, _), (4, _), (6, _)]) ⟨rfl, rfl, rfl, rfl, trivial⟩ ?_
      refine H_world (fun _ hA => hA.keep (m := [nn, yy]) (Y := [_]) rfl) ?_
      refine H_blk ?_
      refine H_region (l := [_, _, _]) rfl ?_
      refine HO_move rfl rfl rfl ?_
      refine HO_bin rfl rfl rfl rfl (bin_add ?_ ?_) ?_
      ·omega
      ·omega
      refine HO_assign rfl rfl rfl ?_
      refine HO_nil ?_
      refine H_env (ρ' := [(6, _), (5, _), (0, _), (4, _)]) ⟨rfl, rfl, rfl, rfl, trivial⟩ ?_
      refine H_inv (fun a w hf hA => ⟨m + 1, ?_, ?_, hf.sub ?_, ?_⟩)
      ·omega
      ·(try dsimp only); omega
      ·exact ⟨rfl, rfl, congrArg (fun m : Nat => some (Value.int .u64 (m : Int))) (Cod.foldB_take (by rw [List.getElem?_drop, Nat.add_comm]; exact hz49)), congrArg (fun z => some (Value.int .i64 z)) (by omega), trivial⟩
      ·exact hA.only (is := [0]) (Z := []) rfl
     intro h42
     replace h42 := dF h42
     refine H_exit rfl ?_
     refine H_seq ?_
     refine H_seq ?_
     obtain rfl : m = Cod.lead z0.toNat := by omega
     refine H_region (l := [_, _, _, _]) rfl ?_
     refine HO_move rfl rfl rfl ?_
     refine HO_call (first := []) (capt := []) (is := []) (R := [_]) rfl rfl rfl rfl rfl Tryz.call79 rfl (rmore_spec _ ?_) ?_
     ·(exact Cod.foldB_lt (Nat.lt_of_le_of_lt Nat.and_le_left (Nat.lt_of_lt_of_le z0.toNat_lt (by decide))) _)
     intro y54 hy54
     clear y54 hy54
     refine HO_move rfl rfl rfl ?_
     refine HO_bin rfl rfl rfl rfl bin_neq ?_
     refine HO_nil ?_
     refine H_env (ρ' := [(56, _), (4, _), (5, _)]) ⟨rfl, rfl, rfl, trivial⟩ ?_
     refine H_world (fun _ hA => hA.keep (m := [nn]) (Y := []) rfl) ?_
     refine H_cond rfl ?_ ?_
     ·intro h56
      replace h56 := dT h56
      rw [if_neg (by omega)] at hdec
      refine H_seq ?_
      refine H_region (l := [_, _]) rfl ?_
      iterate 2 refine HO_assign rfl rfl rfl ?_
      refine HO_nil ?_
      refine H_env (ρ' := [(3, _), (2, _)]) ⟨rfl, rfl, trivial⟩ ?_
      refine H_ret2 Tryz.results93 (.tmp rfl) (.tmp rfl) (fun w hA => ⟨(), congrArg Ending.returned ?_, ?_, ?_⟩)
      ·(rw [hdec]; rfl)
      ·trivial
      ·exact hA.keep (m := []) (Y := []) rfl
     intro h56
     replace h56 := dF h56
     rw [if_pos (by omega)] at hdec
     refine H_skip ?_
     refine H_seq ?_
     refine H_region (l := [_, _, _, _, _]) rfl ?_
     iterate 2 refine HO_move rfl rfl rfl ?_
     refine HO_bin rfl rfl rfl rfl (bin_add ?_ ?_) ?_
     ·omega
     ·omega
     iterate 2 refine HO_assign rfl rfl rfl ?_
     refine HO_nil ?_
     refine H_env (ρ' := [(3, _), (2, _)]) ⟨rfl, rfl, trivial⟩ ?_
     refine H_ret2 Tryz.results93 (.tmp rfl) (.tmp rfl) (fun w hA => ⟨(), congrArg Ending.returned ?_, ?_, ?_⟩)
     ·(rw [hdec]; rfl)
     ·trivial
     ·exact hA.keep (m := []) (Y := []) rfl
   intro h31
   replace h31 := dF h31
   refine H_skip ?_
   refine H_seq ?_
   refine H_seq ?_
   refine H_set (v' := .int .u64 ((z0.toNat &&& (255 - Cod.onesB (Cod.lead z0.toNat))) : Int)) 5 rfl ?_ ?_
   ·first | exact congrArg (Value.int .u64) (Cod.mask_eq hz0 hz33 (by omega)) | exact congrArg (Value.int .u64) (Cod.mask_zero hzlt (by omega))
   refine H_region (l := [_]) rfl ?_
   refine HO_assign rfl rfl rfl ?_
   refine HO_nil ?_
   refine H_env (ρ' := [(6, _), (5, _), (0, _), (4, _)]) ⟨rfl, rfl, rfl, rfl, trivial⟩ ?_
   refine H_block ?_
   refine H_loop (σ := Nat) (fun s => s ≤ Cod.lead z0.toNat) (fun s => [(0, .slice a (b.length) c), (4, .int .i64 ((Cod.lead z0.toNat : Int))), (5, .int .u64 ((Cod.foldB (z0.toNat &&& (255 - Cod.onesB (Cod.lead z0.toNat))) (List.take s (List.drop 1 b)) : Int))), (6, .int .i64 ((s : Int) + 1))]) (fun s => Asn w0 ok0 M0 [.dat kByte.sl (b) [.slice a (b.length) c]]) (fun s => Cod.lead z0.toNat - s) 0 ?_ ?_ ?_ ?_
   ·exact Nat.zero_le _
   ·exact ⟨rfl, rfl, rfl, rfl, trivial⟩
   ·intro w hA
    exact hA.only (is := [0]) (Z := []) rfl
   ·intro m hI
    (try dsimp only at hI ⊢)
    refine H_seq ?_
    refine H_seq ?_
    refine H_region (l := [_, _, _]) rfl ?_
    iterate 2 refine HO_move rfl rfl rfl ?_
    refine HO_bin rfl rfl rfl rfl bin_leq ?_
    refine HO_nil ?_
    refine H_env (ρ' := [(42, _), (0, _), (4, _), (5, _), (6, _)]) ⟨rfl, rfl, rfl, rfl, rfl, trivial⟩ ?_
    refine H_cond rfl ?_ ?_
    ·intro h42
     replace h42 := dT h42
     refine H_skip ?_
     refine H_seq ?_
     refine H_block ?_
     refine H_region (l := [_, _, _, _, _, _, _, _, _]) rfl ?_
     refine HO_move rfl rfl rfl ?_
     refine HO_bin rfl rfl rfl rfl (bin_shl (s := 8) rfl) ?_
     iterate 2 refine HO_move rfl rfl rfl ?_
     refine HO_indexAddr open_byte (i := 0) (j := m + 1) rfl rfl rfl rfl ?_ Tryz.underlying26 Tryz.sizeOf5 rfl ?_ ?_
     ·omega
     ·omega
     intro b49 o49 z49 y49 hz49 hI49
     clear y49 hI49
     refine HO_load1 (i := 0) (j := 0) rfl rfl rfl Tryz.isAgg5 rfl (.elem _ _ _) rfl rfl ?_
     refine HO_conv rfl rfl rfl (cv_int Tryz.underlying5 Tryz.underlying78 (wrap_u_lt rfl ?_)) ?_
     ·(have := z49.toNat_lt; simp only [IntKind.bits]; omega)
     refine HO_bin rfl rfl rfl rfl (bin_or rfl ?_ ?_) ?_
     ·(exact Nat.mod_lt _ (by decide))
     ·(have := z49.toNat_lt; simp only [IntKind.bits]; omega)
     refine HO_assign rfl rfl rfl ?_
     refine HO_nil ?_
     refine H_env (ρ' := [(5, _), (0, _), (4, _), (6, _)]) ⟨rfl, rfl, rfl, rfl, trivial⟩ ?_
     refine H_world (fun _ hA => hA.keep (m := [nn, yy]) (Y := [_]) rfl) ?_
     refine H_blk ?_
     refine H_region (l := [_, _, _]) rfl ?_
     refine HO_move rfl rfl rfl ?_
     refine HO_bin rfl rfl rfl rfl (bin_add ?_ ?_) ?_
     ·omega
     ·omega
     refine HO_assign rfl rfl rfl ?_
     refine HO_nil ?_
     refine H_env (ρ' := [(6, _), (5, _), (0, _), (4, _)]) ⟨rfl, rfl, rfl, rfl, trivial⟩ ?_
     refine H_inv (fun a w hf hA => ⟨m + 1, ?_, ?_, hf.sub ?_, ?_⟩)
     ·omega
     ·(try dsimp only); omega
     ·exact ⟨rfl, rfl, congrArg (fun m : Nat => some (Value.int .u64 (m : Int))) (Cod.foldB_take (by rw [List.getElem?_drop, Nat.add_comm]; exact hz49)), congrArg (fun z => some (Value.int .i64 z)) (by omega), trivial⟩
     ·exact hA.only (is := [0]) (Z := []) rfl
    intro h42
    replace h42 := dF h42
    refine H_exit rfl ?_
    refine H_seq ?_
    refine H_seq ?_
    obtain rfl : m = Cod.lead z0.toNat := by omega
    refine H_region (l := [_, _, _, _]) rfl ?_
    refine HO_move rfl rfl rfl ?_
    refine HO_call (first := []) (capt := []) (is := []) (R := [_]) rfl rfl rfl rfl rfl Tryz.call79 rfl (rmore_spec _ ?_) ?_
    ·(exact Cod.foldB_lt (Nat.lt_of_le_of_lt Nat.and_le_left (Nat.lt_of_lt_of_le z0.toNat_lt (by decide))) _)
    intro y54 hy54
    clear y54 hy54
    refine HO_move rfl rfl rfl ?_
    refine HO_bin rfl rfl rfl rfl bin_neq ?_
    refine HO_nil ?_
    refine H_env (ρ' := [(56, _), (4, _), (5, _)]) ⟨rfl, rfl, rfl, trivial⟩ ?_
    refine H_world (fun _ hA => hA.keep (m := [nn]) (Y := []) rfl) ?_
    refine H_cond rfl ?_ ?_
    ·intro h56
     replace h56 := dT h56
     rw [if_neg (by omega)] at hdec
     refine H_seq ?_
     refine H_region (l := [_, _]) rfl ?_
     iterate 2 refine HO_assign rfl rfl rfl ?_
     refine HO_nil ?_
     refine H_env (ρ' := [(3, _), (2, _)]) ⟨rfl, rfl, trivial⟩ ?_
     refine H_ret2 Tryz.results93 (.tmp rfl) (.tmp rfl) (fun w hA => ⟨(), congrArg Ending.returned ?_, ?_, ?_⟩)
     ·(rw [hdec]; rfl)
     ·trivial
     ·exact hA.keep (m := []) (Y := []) rfl
    intro h56
    replace h56 := dF h56
    rw [if_pos (by omega)] at hdec
    refine H_skip ?_
    refine H_seq ?_
    refine H_region (l := [_, _, _, _, _]) rfl ?_
    iterate 2 refine HO_move rfl rfl rfl ?_
    refine HO_bin rfl rfl rfl rfl (bin_add ?_ ?_) ?_
    ·omega
    ·omega
    iterate 2 refine HO_assign rfl rfl rfl ?_
    refine HO_nil ?_
    refine H_env (ρ' := [(3, _), (2, _)]) ⟨rfl, rfl, trivial⟩ ?_
    refine H_ret2 Tryz.results93 (.tmp rfl) (.tmp rfl) (fun w hA => ⟨(), congrArg Ending.returned ?_, ?_, ?_⟩)
    ·(rw [hdec]; rfl)
    ·trivial
    ·exact hA.keep (m := []) (Y := []) rfl
  intro h12
  replace h12 := dF h12
  iterate 9 refine HO_no rfl rfl rfl ?_
  refine HO_pick_f rfl rfl rfl rfl ?_
  refine HO_nil ?_
  refine H_env (ρ' := [(22, _), (0, _), (4, _)]) ⟨rfl, rfl, rfl, trivial⟩ ?_
  refine H_cond rfl (fun h => nomatch h) (fun _ => ?_)
  refine H_exit rfl ?_
  refine H_seq ?_
  refine H_seq ?_
  obtain rfl : k = Cod.lead z0.toNat := by first | omega | exact Cod.lead_end hzlt hI.1 hI.2 (by omega) h22
  refine H_region (l := [_, _, _, _, _]) rfl ?_
  refine HO_move rfl rfl rfl ?_
  refine HO_bi rfl rfl rfl (bi_len_sl Tryz.underlying26) ?_
  refine HO_move rfl rfl rfl ?_
  refine HO_bin rfl rfl rfl rfl (bin_add ?_ ?_) ?_
  ·omega
  ·omega
  refine HO_bin rfl rfl rfl rfl bin_lss ?_
  refine HO_nil ?_
  refine H_env (ρ' := [(29, _), (0, _), (4, _)]) ⟨rfl, rfl, rfl, trivial⟩ ?_
  refine H_cond rfl ?_ ?_
  ·intro h29
   replace h29 := dT h29
   rw [if_pos (by omega)] at hdec
   refine H_seq ?_
   refine H_region (l := [_, _]) rfl ?_
   iterate 2 refine HO_assign rfl rfl rfl ?_
   refine HO_nil ?_
   refine H_env (ρ' := [(3, _), (2, _)]) ⟨rfl, rfl, trivial⟩ ?_
   refine H_world (fun _ hA => hA.keep (m := [nn]) (Y := []) rfl) ?_
   refine H_ret2 Tryz.results93 (.tmp rfl) (.tmp rfl) (fun w hA => ⟨(), congrArg Ending.returned ?_, ?_, ?_⟩)
   ·(rw [hdec]; rfl)
   ·trivial
   ·exact hA.keep (m := []) (Y := []) rfl
  intro h29
  replace h29 := dF h29
  rw [if_neg (by omega)] at hdec
  refine H_skip ?_
  refine H_seq ?_
  refine H_region (l := [_]) rfl ?_
  refine HO_assign rfl rfl rfl ?_
  refine HO_nil ?_
  refine H_env (ρ' := [(5, _), (0, _), (4, _)]) ⟨rfl, rfl, rfl, trivial⟩ ?_
  refine H_seq ?_
  refine H_seq ?_
  refine H_region (l := [_, _]) rfl ?_
  refine HO_move rfl rfl rfl ?_
  refine HO_bin rfl rfl rfl rfl bin_lss ?_
  refine HO_nil ?_
  refine H_env (ρ' := [(31, _), (5, _), (0, _), (4, _)]) ⟨rfl, rfl, rfl, rfl, trivial⟩ ?_
  refine H_cond rfl ?_ ?_
  ·intro h31
   replace h31 := dT h31
   refine H_region (l := [_, _, _, _, _, _, _, _, _]) rfl ?_
   refine HO_move rfl rfl rfl ?_
   refine HO_indexAddr open_byte (i := 0) (j := 0) rfl rfl rfl rfl rfl Tryz.underlying26 Tryz.sizeOf5 rfl ?_ ?_
   ·omega
   intro b33 o33 z33 y33 hz33 hI33
   clear y33 hI33
   refine HO_load1 (i := 0) (j := 0) rfl rfl rfl Tryz.isAgg5 rfl (.elem _ _ _) rfl rfl ?_
   refine HO_move rfl rfl rfl ?_
   refine HO_conv rfl rfl rfl (cv_int Tryz.underlying3 Tryz.underlying102 (wrap_u_i rfl _)) ?_
   refine HO_set (v' := .int .u64 (((Cod.lead z0.toNat : Nat) : Int))) 36 rfl (by exact congrArg (Value.int .u64) (by simp only [IntKind.bits]; omega)) ?_
   refine HO_bin rfl rfl rfl rfl (bin_shr' ?_ ?_) ?_
   ·decide
   ·omega
   refine HO_bin rfl rfl rfl rfl (bin_and rfl ?_ ?_) ?_
   ·(exact z33.toNat_lt)
   ·(exact Nat.lt_of_le_of_lt (Nat.div_le_self _ _) (by decide))
   refine HO_conv rfl rfl rfl (cv_int Tryz.underlying5 Tryz.underlying78 (wrap_u_lt rfl ?_)) ?_
   ·(exact Nat.lt_of_le_of_lt Nat.and_le_left (Nat.lt_of_lt_of_le z33.toNat_lt (by decide)))
   refine HO_assign rfl rfl rfl ?_
   refine HO_nil ?_
   refine H_env (ρ' := [(5, _), (0, _), (4, _)]) ⟨rfl, rfl, rfl, trivial⟩ ?_
   refine H_world (fun _ hA => hA.keep (m := [nn, yy]) (Y := [_]) rfl) ?_
   refine H_seq ?_
   refine H_seq ?_
   refine H_set (v' := .int .u64 ((z0.toNat &&& (255 - Cod.onesB (Cod.lead z0.toNat))) : Int)) 5 rfl ?_ ?_
   ·first | exact congrArg (Value.int .u64) (Cod.mask_eq hz0 hz33 (by omega)) | exact congrArg (Value.int .u64) (Cod.mask_zero hzlt (by omega))
   refine H_region (l := [_]) rfl ?_
   refine HO_assign rfl rfl rfl ?_
   refine HO_nil ?_
   refine H_block ?_
   refine H_loop (σ := Nat) (fun s => s ≤ Cod.lead z0.toNat) (fun s => [(0, .slice a (b.length) c), (4, .int .i64 ((Cod.lead z0.toNat : Int))), (5, .int .u64 ((Cod.foldB (z0.toNat &&& (255 - Cod.onesB (Cod.lead z0.toNat))) (List.take s (List.drop 1 b)) : Int))), (6, .int .i64 ((s : Int) + 1))]) (fun s => Asn w0 ok0 M0 [.dat kByte.sl (b) [.slice a (b.length) c]]) (fun s => Cod.lead z0.toNat - s) 0 ?_ ?_ ?_ ?_
   ·exact Nat.zero_le _
   ·exact ⟨rfl, rfl, rfl, rfl, trivial⟩
   ·intro w hA
    exact hA.only (is := [0]) (Z := []) rfl
   ·intro m hI
    (try dsimp only at hI ⊢)
    refine H_seq ?_
    refine H_seq ?_
    refine H_region (l := [_, _, _]) rfl ?_
    iterate 2 refine HO_move rfl rfl rfl ?_
    refine HO_bin rfl rfl rfl rfl bin_leq ?_
    refine HO_nil ?_
    refine H_env (ρ' := [(42, _), (0, _), (4, _), (5, _), (6, _)]) ⟨rfl, rfl, rfl, rfl, rfl, trivial⟩ ?_
    refine H_cond rfl ?_ ?_
    ·intro h42
     replace h42 := dT h42
     refine H_skip ?_
     refine H_seq ?_
     refine H_block ?_
     refine H_region (l := [_, _, _, _, _, _, _, _, _]) rfl ?_
     refine HO_move rfl rfl rfl ?_
     refine HO_bin rfl rfl rfl rfl (bin_shl (s := 8) rfl) ?_
     iterate 2 refine HO_move rfl rfl rfl ?_
     refine HO_indexAddr open_byte (i := 0) (j := m + 1) rfl rfl rfl rfl ?_ Tryz.underlying26 Tryz.sizeOf5 rfl ?_ ?_
     ·omega
     ·omega
     intro b49 o49 z49 y49 hz49 hI49
     clear y49 hI49
     refine HO_load1 (i := 0) (j := 0) rfl rfl rfl Tryz.isAgg5 rfl (.elem _ _ _) rfl rfl ?_
     refine HO_conv rfl rfl rfl (cv_int Tryz.underlying5 Tryz.underlying78 (wrap_u_lt rfl ?_)) ?_
     ·(have := z49.toNat_lt; simp only [IntKind.bits]; omega)
     refine HO_bin rfl rfl rfl rfl (bin_or rfl ?_ ?_) ?_
     ·(exact Nat.mod_lt _ (by decide))
     ·(have := z49.toNat_lt; simp only [IntKind.bits]; omega)
     refine HO_assign rfl rfl rfl ?_
     refine HO_nil ?_
     refine H_env (ρ' := [(5, _), (0, _), (4, _), (6, _)]) ⟨rfl, rfl, rfl, rfl, trivial⟩ ?_
     refine H_world (fun _ hA => hA.keep (m := [nn, yy]) (Y := [_]) rfl) ?_
     refine H_blk ?_
     refine H_region (l := [_, _, _]) rfl ?_
     refine HO_move rfl rfl rfl ?_
     refine HO_bin rfl rfl rfl rfl (bin_add ?_ ?_) ?_
     ·omega
     ·omega
     refine HO_assign rfl rfl rfl ?_
     refine HO_nil ?_
     refine H_env (ρ' := [(6, _), (5, _), (0, _), (4, _)]) ⟨rfl, rfl, rfl, rfl, trivial⟩ ?_
     refine H_inv (fun a w hf hA => ⟨m + 1, ?_, ?_, hf.sub ?_, ?_⟩)
     ·omega
     ·(try dsimp only); omega
     ·exact ⟨rfl, rfl, congrArg (fun m : Nat => some (Value.int .u64 (m : Int))) (Cod.foldB_take (by rw [List.getElem?_drop, Nat.add_comm]; exact hz49)), congrArg (fun z => some (Value.int .i64 z)) (by omega), trivial⟩
     ·exact hA.only (is := [0]) (Z := []) rfl
    intro h42
    replace h42 := dF h42
    refine H_exit rfl ?_
    refine H_seq ?_
    refine H_seq ?_
    obtain rfl : m = Cod.lead z0.toNat := by omega
    refine H_region (l := [_, _, _, _]) rfl ?_
    refine HO_move rfl rfl rfl ?_
    refine HO_call (first := []) (capt := []) (is := []) (R := [_]) rfl rfl rfl rfl rfl Tryz.call79 rfl (rmore_spec _ ?_) ?_
    ·(exact Cod.foldB_lt (Nat.lt_of_le_of_lt Nat.and_le_left (Nat.lt_of_lt_of_le z0.toNat_lt (by decide))) _)
    intro y54 hy54
    clear y54 hy54
    refine HO_move rfl rfl rfl ?_
    refine HO_bin rfl rfl rfl rfl bin_neq ?_
    refine HO_nil ?_
    refine H_env (ρ' := [(56, _), (4, _), (5, _)]) ⟨rfl, rfl, rfl, trivial⟩ ?_
    refine H_world (fun _ hA => hA.keep (m := [nn]) (Y := []) rfl) ?_
    refine H_cond rfl ?_ ?_
    ·intro h56
     replace h56 := dT h56
     rw [if_neg (by omega)] at hdec
     refine H_seq ?_
     refine H_region (l := [_, _]) rfl ?_
     iterate 2 refine HO_assign rfl rfl rfl ?_
     refine HO_nil ?_
     refine H_env (ρ' := [(3, _), (2, _)]) ⟨rfl, rfl, trivial⟩ ?_
     refine H_ret2 Tryz.results93 (.tmp rfl) (.tmp rfl) (fun w hA => ⟨(), congrArg Ending.returned ?_, ?_, ?_⟩)
     ·(rw [hdec]; rfl)
     ·trivial
     ·exact hA.keep (m := []) (Y := []) rfl
    intro h56
    replace h56 := dF h56
    rw [if_pos (by omega)] at hdec
    refine H_skip ?_
    refine H_seq ?_
    refine H_region (l := [_, _, _, _, _]) rfl ?_
    iterate 2 refine HO_move rfl rfl rfl ?_
    refine HO_bin rfl rfl rfl rfl (bin_add ?_ ?_) ?_
    ·omega
    ·omega
    iterate 2 refine HO_assign rfl rfl rfl ?_
    refine HO_nil ?_
    refine H_env (ρ' := [(3, _), (2, _)]) ⟨rfl, rfl, trivial⟩ ?_
    refine H_ret2 Tryz.results93 (.tmp rfl) (.tmp rfl) (fun w hA => ⟨(), congrArg Ending.returned ?_, ?_, ?_⟩)
    ·(rw [hdec]; rfl)
    ·trivial
    ·exact hA.keep (m := []) (Y := []) rfl
  intro h31
  replace h31 := dF h31
  refine H_skip ?_
  refine H_seq ?_
  refine H_seq ?_
  refine H_set (v' := .int .u64 ((z0.toNat &&& (255 - Cod.onesB (Cod.lead z0.toNat))) : Int)) 5 rfl ?_ ?_
  ·first | exact congrArg (Value.int .u64) (Cod.mask_eq hz0 hz33 (by omega)) | exact congrArg (Value.int .u64) (Cod.mask_zero hzlt (by omega))
  refine H_region (l := [_]) rfl ?_
  refine HO_assign rfl rfl rfl ?_
  refine HO_nil ?_
  refine H_env (ρ' := [(6, _), (5, _), (0, _), (4, _)]) ⟨rfl, rfl, rfl, rfl, trivial⟩ ?_
  refine H_block ?_
  refine H_loop (σ := Nat) (fun s => s ≤ Cod.lead z0.toNat) (fun s => [(0, .slice a (b.length) c), (4, .int .i64 ((Cod.lead z0.toNat : Int))), (5, .int .u64 ((Cod.foldB (z0.toNat &&& (255 - Cod.onesB (Cod.lead z0.toNat))) (List.take s (List.drop 1 b)) : Int))), (6, .int .i64 ((s : Int) + 1))]) (fun s => Asn w0 ok0 M0 [.dat kByte.sl (b) [.slice a (b.length) c]]) (fun s => Cod.lead z0.toNat - s) 0 ?_ ?_ ?_ ?_
  ·exact Nat.zero_le _
  ·exact ⟨rfl, rfl, rfl, rfl, trivial⟩
  ·intro w hA
   exact hA.only (is := [0]) (Z := []) rfl
  ·intro m hI
   (try dsimp only at hI ⊢)
   refine H_seq ?_
   refine H_seq ?_
   refine H_region (l := [_, _, _]) rfl ?_
   iterate 2 refine HO_move rfl rfl rfl ?_
   refine HO_bin rfl rfl rfl rfl bin_leq ?_
   refine HO_nil ?_
   refine H_env (ρ' := [(42, _), (0, _), (4, _), (5, _), (6, _)]) ⟨rfl, rfl, rfl, rfl, rfl, trivial⟩ ?_
   refine H_cond rfl ?_ ?_
   ·intro h42
    replace h42 := dT h42
    refine H_skip ?_
    refine H_seq ?_
    refine H_block ?_
    refine H_region (l := [_, _, _, _, _, _, _, _, _]) rfl ?_
    refine HO_move rfl rfl rfl ?_
    refine HO_bin rfl rfl rfl rfl (bin_shl (s := 8) rfl) ?_
    iterate 2 refine HO_move rfl rfl rfl ?_
    refine HO_indexAddr open_byte (i := 0) (j := m + 1) rfl rfl rfl rfl ?_ Tryz.underlying26 Tryz.sizeOf5 rfl ?_ ?_
    ·omega
    ·omega
    intro b49 o49 z49 y49 hz49 hI49
    clear y49 hI49
    refine HO_load1 (i := 0) (j := 0) rfl rfl rfl Tryz.isAgg5 rfl (.elem _ _ _) rfl rfl ?_
    refine HO_conv rfl rfl rfl (cv_int Tryz.underlying5 Tryz.underlying78 (wrap_u_lt rfl ?_)) ?_
    ·(have := z49.toNat_lt; simp only [IntKind.bits]; omega)
    refine HO_bin rfl rfl rfl rfl (bin_or rfl ?_ ?_) ?_
    ·(exact Nat.mod_lt _ (by decide))
    ·(have := z49.toNat_lt; simp only [IntKind.bits]; omega)
    refine HO_assign rfl rfl rfl ?_
    refine HO_nil ?_
    refine H_env (ρ' := [(5, _), (0, _), (4, _), (6, _)]) ⟨rfl, rfl, rfl, rfl, trivial⟩ ?_
    refine H_world (fun _ hA => hA.keep (m := [nn, yy]) (Y := [_]) rfl) ?_
    refine H_blk ?_
    refine H_region (l := [_, _, _]) rfl ?_
    refine HO_move rfl rfl rfl ?_
    refine HO_bin rfl rfl rfl rfl (bin_add ?_ ?_) ?_
    ·omega
    ·omega
    refine HO_assign rfl rfl rfl ?_
    refine HO_nil ?_
    refine H_env (ρ' := [(6, _), (5, _), (0, _), (4, _)]) ⟨rfl, rfl, rfl, rfl, trivial⟩ ?_
    refine H_inv (fun a w hf hA => ⟨m + 1, ?_, ?_, hf.sub ?_, ?_⟩)
    ·omega
    ·(try dsimp only); omega
    ·exact ⟨rfl, rfl, congrArg (fun m : Nat => some (Value.int .u64 (m : Int))) (Cod.foldB_take (by rw [List.getElem?_drop, Nat.add_comm]; exact hz49)), congrArg (fun z => some (Value.int .i64 z)) (by omega), trivial⟩
    ·exact hA.only (is := [0]) (Z := []) rfl
   intro h42
   replace h42 := dF h42
   refine H_exit rfl ?_
   refine H_seq ?_
   refine H_seq ?_
   obtain rfl : m = Cod.lead z0.toNat := by omega
   refine H_region (l := [_, _, _, _]) rfl ?_
   refine HO_move rfl rfl rfl ?_
   refine HO_call (first := []) (capt := []) (is := []) (R := [_]) rfl rfl rfl rfl rfl Tryz.call79 rfl (rmore_spec _ ?_) ?_
   ·(exact Cod.foldB_lt (Nat.lt_of_le_of_lt Nat.and_le_left (Nat.lt_of_lt_of_le z0.toNat_lt (by decide))) _)
   intro y54 hy54
   clear y54 hy54
   refine HO_move rfl rfl rfl ?_
   refine HO_bin rfl rfl rfl rfl bin_neq ?_
   refine HO_nil ?_
   refine H_env (ρ' := [(56, _), (4, _), (5, _)]) ⟨rfl, rfl, rfl, trivial⟩ ?_
   refine H_world (fun _ hA => hA.keep (m := [nn]) (Y := []) rfl) ?_
   refine H_cond rfl ?_ ?_
   ·intro h56
    replace h56 := dT h56
    rw [if_neg (by omega)] at hdec
    refine H_seq ?_
    refine H_region (l := [_, _]) rfl ?_
    iterate 2 refine HO_assign rfl rfl rfl ?_
    refine HO_nil ?_
    refine H_env (ρ' := [(3, _), (2, _)]) ⟨rfl, rfl, trivial⟩ ?_
    refine H_ret2 Tryz.results93 (.tmp rfl) (.tmp rfl) (fun w hA => ⟨(), congrArg Ending.returned ?_, ?_, ?_⟩)
    ·(rw [hdec]; rfl)
    ·trivial
    ·exact hA.keep (m := []) (Y := []) rfl
   intro h56
   replace h56 := dF h56
   rw [if_pos (by omega)] at hdec
   refine H_skip ?_
   refine H_seq ?_
   refine H_region (l := [_, _, _, _, _]) rfl ?_
   iterate 2 refine HO_move rfl rfl rfl ?_
   refine HO_bin rfl rfl rfl rfl (bin_add ?_ ?_) ?_
   ·omega
   ·omega
   iterate 2 refine HO_assign rfl rfl rfl ?_
   refine HO_nil ?_
   refine H_env (ρ' := [(3, _), (2, _)]) ⟨rfl, rfl, trivial⟩ ?_
   refine H_ret2 Tryz.results93 (.tmp rfl) (.tmp rfl) (fun w hA => ⟨(), congrArg Ending.returned ?_, ?_, ?_⟩)
   ·(rw [hdec]; rfl)
   ·trivial
   ·exact hA.keep (m := []) (Y := []) rfl
theorem rGetText_spec (b : List UInt8) (a : Option Addr) (c : Nat) (hb : b.length ≤ 1099511627776) : Spec Tryz.prog 94 #[.slice a (b.length) c] [.dat kByte.sl (b) [.slice a (b.length) c]] (β := Unit) (fun y => .tuple #[.string (⟨(Cod.decT b).1.toArray⟩), .int .i64 (((Cod.decT b).2 : Int))]) (fun y => True) (fun y => []) := by
 have hlt := Cod.dec_lt b
 have hle := Cod.dec_len b
 have hu := Cod.decT.eq_1 b
 refine Spec.enter (vs := [_]) Tryz.func94 rfl Tryz.ntmps94 rfl (Nat.le_of_ble_eq_true rfl) (fun w0 ok0 => ?_)
 generalize hM0 : blks _ = M0
 have hMn := @noM _ _ hM0 (by simp [Atom.dat, Atom.elem])
 refine H_seq ?_
 refine H_region (l := [_, _]) rfl ?_
 iterate 2 refine HO_assign rfl rfl rfl ?_
 refine HO_nil ?_
 refine H_env (ρ' := [(0, _)]) ⟨rfl, trivial⟩ ?_
 refine H_seq ?_
 refine H_region (l := [_, _, _, _, _, _, _]) rfl ?_
 refine HO_move rfl rfl rfl ?_
 refine HO_dup (i := 0) rfl rfl ?_
 refine HO_call (first := []) (capt := []) (is := [0]) (R := [_]) rfl rfl rfl rfl rfl Tryz.call93 rfl (rGet_spec _ _ _) ?_
 intro y8 hy8
 clear y8 hy8
 refine HO_move rfl rfl rfl ?_
 refine HO_extract (vs := [_, _]) rfl rfl rfl rfl ?_
 refine HO_extract (vs := [_, _]) rfl rfl rfl rfl ?_
 iterate 2 refine HO_assign rfl rfl rfl ?_
 refine HO_nil ?_
 refine H_env (ρ' := [(5, _), (4, _), (0, _)]) ⟨rfl, rfl, rfl, trivial⟩ ?_
 refine H_seq ?_
 refine H_seq ?_
 refine H_region (l := [_, _, _, _, _, _, _, _, _, _, _]) rfl ?_
 refine HO_move rfl rfl rfl ?_
 refine HO_bin rfl rfl rfl rfl bin_eql ?_
 refine HO_move rfl rfl rfl ?_
 refine HO_split (d := 13) rfl ?_ ?_
 ·intro h13
  replace h13 := dT h13
  iterate 7 refine HO_no rfl rfl rfl ?_
  refine HO_pick_t rfl rfl rfl rfl ?_
  refine HO_nil ?_
  refine H_env (ρ' := [(21, _), (5, _), (4, _), (0, _)]) ⟨rfl, rfl, rfl, rfl, trivial⟩ ?_
  refine H_cond rfl (fun _ => ?_) (fun h => nomatch h)
  refine H_seq ?_
  refine H_region (l := [_, _]) rfl ?_
  iterate 2 refine HO_assign rfl rfl rfl ?_
  refine HO_nil ?_
  refine H_env (ρ' := [(3, _), (2, _)]) ⟨rfl, rfl, trivial⟩ ?_
  refine H_world (fun _ hA => hA.keep (m := [nn]) (Y := []) rfl) ?_
  refine H_ret2 Tryz.results94 (.tmp rfl) (.tmp rfl) (fun w hA => ⟨(), congrArg Ending.returned ?_, ?_, ?_⟩)
  ·(rw [hu, if_pos (by omega)]; rfl)
  ·trivial
  ·exact hA.keep (m := []) (Y := []) rfl
 intro h13
 replace h13 := dF h13
 iterate 2 refine HO_move rfl rfl rfl ?_
 refine HO_bi rfl rfl rfl (bi_len_sl Tryz.underlying26) ?_
 refine HO_move rfl rfl rfl ?_
 refine HO_bin rfl rfl rfl rfl (bin_sub ?_ ?_) ?_
 ·omega
 ·omega
 refine HO_conv rfl rfl rfl (cv_int Tryz.underlying3 Tryz.underlying78 (wrap_u_i rfl _)) ?_
 refine HO_set (v' := .int .u64 (((b.length - (Cod.dec b).2 : Nat) : Int))) 19 rfl (by exact congrArg (Value.int .u64) (by simp only [IntKind.bits]; omega)) ?_
 refine HO_bin rfl rfl rfl rfl bin_gtr ?_
 refine HO_pick_f rfl rfl rfl rfl ?_
 refine HO_nil ?_
 refine H_env (ρ' := [(21, _), (5, _), (4, _), (0, _)]) ⟨rfl, rfl, rfl, rfl, trivial⟩ ?_
 refine H_cond rfl ?_ ?_
 ·intro h21
  replace h21 := dT h21
  refine H_seq ?_
  refine H_region (l := [_, _]) rfl ?_
  iterate 2 refine HO_assign rfl rfl rfl ?_
  refine HO_nil ?_
  refine H_env (ρ' := [(3, _), (2, _)]) ⟨rfl, rfl, trivial⟩ ?_
  refine H_world (fun _ hA => hA.keep (m := [nn]) (Y := []) rfl) ?_
  refine H_ret2 Tryz.results94 (.tmp rfl) (.tmp rfl) (fun w hA => ⟨(), congrArg Ending.returned ?_, ?_, ?_⟩)
  ·(rw [hu, if_pos (by omega)]; rfl)
  ·trivial
  ·exact hA.keep (m := []) (Y := []) rfl
 intro h21
 replace h21 := dF h21
 refine H_skip ?_
 refine H_seq ?_
 refine H_region (l := [_, _, _, _, _, _, _, _, _, _, _, _, _, _]) rfl ?_
 iterate 4 refine HO_move rfl rfl rfl ?_
 refine HO_conv rfl rfl rfl (cv_int Tryz.underlying78 Tryz.underlying3 (wrap_i64_nat ?_)) ?_
 ·omega
 refine HO_bin rfl rfl rfl rfl (bin_add ?_ ?_) ?_
 ·omega
 ·omega
 refine HO_slice_lh (i := 0) (l := (Cod.dec b).2) (h' := (Cod.dec b).2 + (Cod.dec b).1) rfl rfl rfl rfl rfl ?_ ?_ Tryz.underlying26 Tryz.sizeOf5 rfl ?_ ?_ ?_
 ·omega
 ·omega
 ·omega
 ·omega
 intro a28 c28
 refine HO_bytesStr (i := 0) rfl rfl rfl Tryz.underlying26 Tryz.underlying9 Tryz.underlying5 rfl ?_
 iterate 2 refine HO_move rfl rfl rfl ?_
 refine HO_conv rfl rfl rfl (cv_int Tryz.underlying78 Tryz.underlying3 (wrap_i64_nat ?_)) ?_
 ·omega
 refine HO_bin rfl rfl rfl rfl (bin_add ?_ ?_) ?_
 ·omega
 ·omega
 iterate 2 refine HO_assign rfl rfl rfl ?_
 refine HO_nil ?_
 refine H_env (ρ' := [(3, _), (2, _)]) ⟨rfl, rfl, trivial⟩ ?_
 refine H_world (fun _ hA => hA.keep (m := [nn, nn]) (Y := []) rfl) ?_
 refine H_ret2 Tryz.results94 (.tmp rfl) (.tmp rfl) (fun w hA => ⟨(), congrArg Ending.returned ?_, ?_, ?_⟩)
 ·(rw [hu, if_neg (by omega)]; rfl)
 ·trivial
 ·exact hA.keep (m := []) (Y := []) rfl
theorem rGetBool_spec (b : List UInt8) (a : Option Addr) (c : Nat)  : Spec Tryz.prog 65 #[.slice a (b.length) c] [.dat kByte.sl (b) [.slice a (b.length) c]] (β := Unit) (fun y => .tuple #[.bool ((Cod.decB b).1), .int .i64 (((Cod.decB b).2 : Int))]) (fun y => True) (fun y => []) := by
 refine Spec.enter (vs := [_]) Tryz.func65 rfl Tryz.ntmps65 rfl (Nat.le_of_ble_eq_true rfl) (fun w0 ok0 => ?_)
 generalize hM0 : blks _ = M0
 have hMn := @noM _ _ hM0 (by simp [Atom.dat, Atom.elem])
 refine H_seq ?_
 refine H_region (l := [_, _]) rfl ?_
 iterate 2 refine HO_assign rfl rfl rfl ?_
 refine HO_nil ?_
 refine H_env (ρ' := [(0, _)]) ⟨rfl, trivial⟩ ?_
 refine H_seq ?_
 refine H_seq ?_
 refine H_region (l := [_, _, _, _, _, _, _, _, _, _, _, _, _, _, _]) rfl ?_
 refine HO_move rfl rfl rfl ?_
 refine HO_bi rfl rfl rfl (bi_len_sl Tryz.underlying26) ?_
 refine HO_bin rfl rfl rfl rfl bin_eql ?_
 refine HO_move rfl rfl rfl ?_
 refine HO_split (d := 7) rfl ?_ ?_
 ·intro h7
  replace h7 := dT h7
  iterate 10 refine HO_no rfl rfl rfl ?_
  refine HO_pick_t rfl rfl rfl rfl ?_
  refine HO_nil ?_
  refine H_env (ρ' := [(18, _), (0, _)]) ⟨rfl, rfl, trivial⟩ ?_
  refine H_cond rfl (fun _ => ?_) (fun h => nomatch h)
  refine H_seq ?_
  refine H_region (l := [_, _]) rfl ?_
  iterate 2 refine HO_assign rfl rfl rfl ?_
  refine HO_nil ?_
  refine H_env (ρ' := [(3, _), (2, _)]) ⟨rfl, rfl, trivial⟩ ?_
  refine H_world (fun _ hA => hA.keep (m := [nn]) (Y := []) rfl) ?_
  obtain rfl : b = [] := List.eq_nil_of_length_eq_zero (by omega)
  refine H_ret2 Tryz.results65 (.tmp rfl) (.tmp rfl) (fun w hA => ⟨(), congrArg Ending.returned ?_, ?_, ?_⟩)
  ·rfl
  ·trivial
  ·exact hA.keep (m := []) (Y := []) rfl
 intro h7
 replace h7 := dF h7
 refine HO_move rfl rfl rfl ?_
 refine HO_indexAddr open_byte (i := 0) (j := 0) rfl rfl rfl rfl rfl Tryz.underlying26 Tryz.sizeOf5 rfl ?_ ?_
 ·omega
 intro b9 o9 z9 y9 hz9 hI9
 clear y9 hI9
 refine HO_load1 (i := 0) (j := 0) rfl rfl rfl Tryz.isAgg5 rfl (.elem _ _ _) rfl rfl ?_
 refine HO_bin rfl rfl rfl rfl bin_neq ?_
 refine HO_move rfl rfl rfl ?_
 refine HO_split (d := 12) rfl ?_ ?_
 ·intro h12
  replace h12 := dT h12
  refine HO_move rfl rfl rfl ?_
  refine HO_indexAddr open_byte (i := 1) (j := 0) rfl rfl rfl rfl rfl Tryz.underlying26 Tryz.sizeOf5 rfl ?_ ?_
  ·omega
  intro b14 o14 z14 y14 hz14 hI14
  clear y14 hI14
  refine HO_load1 (i := 0) (j := 0) rfl rfl rfl Tryz.isAgg5 rfl (.elem _ _ _) rfl rfl ?_
  refine HO_bin rfl rfl rfl rfl bin_neq ?_
  refine HO_pick_t rfl rfl rfl rfl ?_
  refine HO_pick_f rfl rfl rfl rfl ?_
  refine HO_nil ?_
  refine H_env (ρ' := [(18, _), (0, _)]) ⟨rfl, rfl, trivial⟩ ?_
  refine H_world (fun _ hA => hA.keep (m := [nn, nn, yy]) (Y := [_]) rfl) ?_
  refine H_cond rfl ?_ ?_
  ·intro h18
   replace h18 := dT h18
   refine H_seq ?_
   refine H_region (l := [_, _]) rfl ?_
   iterate 2 refine HO_assign rfl rfl rfl ?_
   refine HO_nil ?_
   refine H_env (ρ' := [(3, _), (2, _)]) ⟨rfl, rfl, trivial⟩ ?_
   refine H_world (fun _ hA => hA.keep (m := [nn]) (Y := []) rfl) ?_
   refine H_ret2 Tryz.results65 (.tmp rfl) (.tmp rfl) (fun w hA => ⟨(), congrArg Ending.returned ?_, ?_, ?_⟩)
   ·(first | (rw [Cod.getb_no hz9 hz14 h12 h18]; rfl) | (rw [Cod.getb_yes hz9 hz20 (.inl (by omega))]; rfl) | (rw [Cod.getb_yes hz14 hz20 (.inr (by omega))]; rfl))
   ·trivial
   ·exact hA.keep (m := []) (Y := []) rfl
  intro h18
  replace h18 := dF h18
  refine H_skip ?_
  refine H_seq ?_
  refine H_region (l := [_, _, _, _, _, _]) rfl ?_
  refine HO_move rfl rfl rfl ?_
  refine HO_indexAddr open_byte (i := 0) (j := 0) rfl rfl rfl rfl rfl Tryz.underlying26 Tryz.sizeOf5 rfl ?_ ?_
  ·omega
  intro b20 o20 z20 y20 hz20 hI20
  clear y20 hI20
  refine HO_load1 (i := 0) (j := 0) rfl rfl rfl Tryz.isAgg5 rfl (.elem _ _ _) rfl rfl ?_
  refine HO_bin rfl rfl rfl rfl bin_eql ?_
  iterate 2 refine HO_assign rfl rfl rfl ?_
  refine HO_nil ?_
  refine H_env (ρ' := [(3, _), (2, _)]) ⟨rfl, rfl, trivial⟩ ?_
  refine H_world (fun _ hA => hA.keep (m := [nn, nn]) (Y := []) rfl) ?_
  refine H_ret2 Tryz.results65 (.tmp rfl) (.tmp rfl) (fun w hA => ⟨(), congrArg Ending.returned ?_, ?_, ?_⟩)
  ·(first | (rw [Cod.getb_no hz9 hz14 h12 h18]; rfl) | (rw [Cod.getb_yes hz9 hz20 (.inl (by omega))]; rfl) | (rw [Cod.getb_yes hz14 hz20 (.inr (by omega))]; rfl))
  ·trivial
  ·exact hA.keep (m := []) (Y := []) rfl
 intro h12
 replace h12 := dF h12
 iterate 4 refine HO_no rfl rfl rfl ?_
 iterate 2 refine HO_pick_f rfl rfl rfl rfl ?_
 refine HO_nil ?_
 refine H_env (ρ' := [(18, _), (0, _)]) ⟨rfl, rfl, trivial⟩ ?_
 refine H_world (fun _ hA => hA.keep (m := [nn, yy]) (Y := [_]) rfl) ?_
 refine H_cond rfl (fun h => nomatch h) (fun _ => ?_)
 refine H_skip ?_
 refine H_seq ?_
 refine H_region (l := [_, _, _, _, _, _]) rfl ?_
 refine HO_move rfl rfl rfl ?_
 refine HO_indexAddr open_byte (i := 0) (j := 0) rfl rfl rfl rfl rfl Tryz.underlying26 Tryz.sizeOf5 rfl ?_ ?_
 ·omega
 intro b20 o20 z20 y20 hz20 hI20
 clear y20 hI20
 refine HO_load1 (i := 0) (j := 0) rfl rfl rfl Tryz.isAgg5 rfl (.elem _ _ _) rfl rfl ?_
 refine HO_bin rfl rfl rfl rfl bin_eql ?_
 iterate 2 refine HO_assign rfl rfl rfl ?_
 refine HO_nil ?_
 refine H_env (ρ' := [(3, _), (2, _)]) ⟨rfl, rfl, trivial⟩ ?_
 refine H_world (fun _ hA => hA.keep (m := [nn, nn]) (Y := []) rfl) ?_
 refine H_ret2 Tryz.results65 (.tmp rfl) (.tmp rfl) (fun w hA => ⟨(), congrArg Ending.returned ?_, ?_, ?_⟩)
 ·(first | (rw [Cod.getb_no hz9 hz14 h12 h18]; rfl) | (rw [Cod.getb_yes hz9 hz20 (.inl (by omega))]; rfl) | (rw [Cod.getb_yes hz14 hz20 (.inr (by omega))]; rfl))
 ·trivial
 ·exact hA.keep (m := []) (Y := []) rfl
end Go.Wk
