/- Contracts of the program's functions, each proved by walking its code. -/
import Derived.Test.YtondhngfjngngaaKecodec3
set_option maxRecDepth 100000
set_option linter.unusedVariables false
set_option linter.unusedSimpArgs false
namespace Go.Wk.Fref01
open Go Go.RowKit Go.Proofs Go.Wk
theorem elt5 : Elt Try.prog 5 (.int .u8 (0)) 1 1 := Elt.of (by kernel_rfl) (by rfl) (by decide) (by decide)
end Go.Wk.Fref01
namespace Go.Wk
open Go Go.RowKit Go.Proofs Fref01 
theorem rzig_spec (n : Int)  : Spec Try.prog 71 #[.int .i64 (n)] [] (β := Unit) (fun y => .int .u64 ((Cod.zig n : Int))) (fun y => True) (fun y => []) := by
  refine Spec.enter (vs := [_]) Try.func71 rfl Try.ntmps71 rfl (Nat.le_of_ble_eq_true rfl) (fun w0 ok0 => ?_)
  generalize hM0 : blks _ = M0
  have hMn : ∀ {R : List Atom} (b : Nat), M0 b → blks R b := fun b hb => absurd (hM0 ▸ hb) (blks_none (by simp [Atom.dat, Atom.elem]) b)
  refine H_seq ?_
  -- R0 ref.go:82
  refine H_region (l := [_]) rfl ?_
  refine HO_assign rfl rfl rfl ?_
  refine HO_nil ?_
  refine H_env (ρ' := [(0, _)]) ⟨rfl, trivial⟩ ?_
  refine H_seq ?_
  -- R1 ref.go:83
  refine H_region (l := [_, _, _]) rfl ?_
  refine HO_move rfl rfl rfl ?_
  refine HO_conv rfl rfl rfl (cv_int Try.underlying3 Try.underlying97 (wrap_u_i rfl _)) ?_
  refine HO_assign rfl rfl rfl ?_
  refine HO_nil ?_
  refine H_env (ρ' := [(3, _)]) ⟨rfl, trivial⟩ ?_
  refine H_seq ?_
  -- R2 ref.go:84
  refine H_region (l := [_, _, _, _, _, _]) rfl ?_
  refine HO_move rfl rfl rfl ?_
  refine HO_bin rfl rfl rfl rfl (bin_shl (s := 1) rfl) ?_
  refine HO_move rfl rfl rfl ?_
  refine HO_bin rfl rfl rfl rfl (bin_shr (s := 63) ?_) ?_
  · (simp only [IntKind.bits]; omega)
  refine HO_bin rfl rfl rfl rfl (bin_or rfl ?_ ?_) ?_
  · (exact Nat.mod_lt _ (by decide))
  · (simp only [IntKind.bits]; omega)
  refine HO_assign rfl rfl rfl ?_
  refine HO_nil ?_
  refine H_env (ρ' := [(2, _)]) ⟨rfl, trivial⟩ ?_
  -- end1
  refine H_ret1 Try.results71 (.tmp rfl) (fun w hA => ⟨(), congrArg Ending.returned ?_, ?_, ?_⟩)
  · rfl
  · trivial
  · exact hA.only (is := []) (Z := []) rfl
theorem rmore_spec (u : Nat) (hu : u < 18446744073709551616) : Spec Try.prog 126 #[.int .u64 (u)] [] (β := Unit) (fun y => .int .i64 ((Cod.beh u : Int))) (fun y => True) (fun y => []) := by
  refine Spec.enter (vs := [_]) Try.func126 rfl Try.ntmps126 rfl (Nat.le_of_ble_eq_true rfl) (fun w0 ok0 => ?_)
  generalize hM0 : blks _ = M0
  have hMn : ∀ {R : List Atom} (b : Nat), M0 b → blks R b := fun b hb => absurd (hM0 ▸ hb) (blks_none (by simp [Atom.dat, Atom.elem]) b)
  refine H_seq ?_
  -- R0 ref.go:91
  refine H_region (l := [_]) rfl ?_
  refine HO_assign rfl rfl rfl ?_
  refine HO_nil ?_
  refine H_env (ρ' := [(0, _)]) ⟨rfl, trivial⟩ ?_
  refine H_seq ?_
  refine H_seq ?_
  -- R1 ref.go:92
  refine H_region (l := [_]) rfl ?_
  refine HO_assign rfl rfl rfl ?_
  refine HO_nil ?_
  refine H_block ?_
  refine H_loop (σ := Nat) (fun s => s ≤ 8 ∧ s ≤ Cod.beh u) (fun s => [(0, .int .u64 (u)), (3, .int .i64 ((s : Int)))]) (fun s => Asn w0 ok0 M0 []) (fun s => 8 - s) 0 ?_ ?_ ?_ ?_
  · exact ⟨Nat.zero_le _, Nat.zero_le _⟩
  · exact ⟨rfl, rfl, trivial⟩
  · intro w hA
    exact hA.only (is := []) (Z := []) rfl
  · intro k hI
    (try dsimp only at hI ⊢)
    refine H_seq ?_
    refine H_seq ?_
    -- R2 ref.go:92
    refine H_region (l := [_, _]) rfl ?_
    refine HO_move rfl rfl rfl ?_
    refine HO_bin rfl rfl rfl rfl bin_lss ?_
    refine HO_nil ?_
    refine H_env (ρ' := [(5, _), (0, _), (3, _)]) ⟨rfl, rfl, rfl, trivial⟩ ?_
    refine H_cond rfl ?_ ?_
    · intro h5
      (try simp only [decide_eq_true_eq, decide_eq_false_iff_not, Bool.not_eq_true', Bool.not_eq_false', Bool.not_eq_true, Bool.not_eq_false, Bool.true_eq_false, Bool.false_eq_true, not_false_eq_true, not_true_eq_false] at h5)
      refine H_skip ?_
      refine H_seq ?_
      refine H_block ?_
      refine H_seq ?_
      -- R4 ref.go:93
      refine H_region (l := [_, _, _, _, _, _, _]) rfl ?_
      refine HO_move rfl rfl rfl ?_
      refine HO_move rfl rfl rfl ?_
      refine HO_bin rfl rfl rfl rfl (bin_add ?_ ?_) ?_
      · omega
      · omega
      refine HO_bin rfl rfl rfl rfl (bin_mul ?_ ?_) ?_
      · omega
      · omega
      refine HO_conv rfl rfl rfl (cv_int Try.underlying3 Try.underlying86 (wrap_u_i rfl _)) ?_
      refine HO_set (v' := .int .u64 (((7 * (k + 1) : Nat) : Int))) 12 rfl (by exact congrArg (Value.int .u64) (by simp only [IntKind.bits]; omega)) ?_
      refine HO_bin rfl rfl rfl rfl (bin_shl' rfl ?_) ?_
      · omega
      refine HO_bin rfl rfl rfl rfl bin_lss ?_
      refine HO_nil ?_
      refine H_env (ρ' := [(14, _), (0, _), (3, _)]) ⟨rfl, rfl, rfl, trivial⟩ ?_
      refine H_cond rfl ?_ ?_
      · intro h14
        (try simp only [decide_eq_true_eq, decide_eq_false_iff_not, Bool.not_eq_true', Bool.not_eq_false', Bool.not_eq_true, Bool.not_eq_false, Bool.true_eq_false, Bool.false_eq_true, not_false_eq_true, not_true_eq_false] at h14)
        have hb := (Cod.beh_le_iff hu (k := k) (by omega)).2 (Int.ofNat_lt.1 h14)
        refine H_seq ?_
        -- R5 ref.go:94
        refine H_region (l := [_, _]) rfl ?_
        refine HO_move rfl rfl rfl ?_
        refine HO_assign rfl rfl rfl ?_
        refine HO_nil ?_
        refine H_env (ρ' := [(2, _)]) ⟨rfl, trivial⟩ ?_
        -- end1
        refine H_ret1 Try.results126 (.tmp rfl) (fun w hA => ⟨(), congrArg Ending.returned ?_, ?_, ?_⟩)
        · (exact congrArg (Value.int .i64) (by have := Cod.beh_le u; omega))
        · trivial
        · exact hA.only (is := []) (Z := []) rfl
      · intro h14
        (try simp only [decide_eq_true_eq, decide_eq_false_iff_not, Bool.not_eq_true', Bool.not_eq_false', Bool.not_eq_true, Bool.not_eq_false, Bool.true_eq_false, Bool.false_eq_true, not_false_eq_true, not_true_eq_false] at h14)
        have hb : k < Cod.beh u := by refine Nat.lt_of_not_le fun h => h14 ?_; have := (Cod.beh_le_iff hu (k := k) (by omega)).1 h; exact Int.ofNat_lt.2 this
        refine H_skip ?_
        refine H_blk ?_
        -- R3 ref.go:92
        refine H_region (l := [_, _, _]) rfl ?_
        refine HO_move rfl rfl rfl ?_
        refine HO_bin rfl rfl rfl rfl (bin_add ?_ ?_) ?_
        · omega
        · omega
        refine HO_assign rfl rfl rfl ?_
        refine HO_nil ?_
        refine H_env (ρ' := [(3, _), (0, _)]) ⟨rfl, rfl, trivial⟩ ?_
        refine H_inv (fun a w hf hA => ⟨k + 1, ?_, ?_, hf.sub ?_, ?_⟩)
        · exact ⟨by omega, by omega⟩
        · (try dsimp only); omega
        · exact ⟨rfl, rfl, trivial⟩
        · exact hA.only (is := []) (Z := []) rfl
    · intro h5
      (try simp only [decide_eq_true_eq, decide_eq_false_iff_not, Bool.not_eq_true', Bool.not_eq_false', Bool.not_eq_true, Bool.not_eq_false, Bool.true_eq_false, Bool.false_eq_true, not_false_eq_true, not_true_eq_false] at h5)
      refine H_exit rfl ?_
      refine H_seq ?_
      -- R6 ref.go:97
      refine H_region (l := [_]) rfl ?_
      refine HO_assign rfl rfl rfl ?_
      refine HO_nil ?_
      refine H_env (ρ' := [(2, _)]) ⟨rfl, trivial⟩ ?_
      -- end2
      refine H_ret1 Try.results126 (.tmp rfl) (fun w hA => ⟨(), congrArg Ending.returned ?_, ?_, ?_⟩)
      · (exact congrArg (Value.int .i64) (by have := Cod.beh_le u; omega))
      · trivial
      · exact hA.only (is := []) (Z := []) rfl
theorem rsame_spec (b b2 : List UInt8) (a : Option Addr) (c : Nat) (a2 : Option Addr) (c2 : Nat)  : Spec Try.prog 22 #[.slice a (b.length) c, .slice a2 (b2.length) c2] [.dat kByte.sl (b) [.slice a (b.length) c], .dat kByte.sl (b2) [.slice a2 (b2.length) c2]] (β := Unit) (fun y => .bool (decide (b = b2))) (fun y => True) (fun y => []) := by
  refine Spec.enter (vs := [_, _]) Try.func22 rfl Try.ntmps22 rfl (Nat.le_of_ble_eq_true rfl) (fun w0 ok0 => ?_)
  generalize hM0 : blks _ = M0
  have hMn : ∀ {R : List Atom} (b : Nat), M0 b → blks R b := fun b hb => absurd (hM0 ▸ hb) (blks_none (by simp [Atom.dat, Atom.elem]) b)
  refine H_seq ?_
  -- R0 ref.go:229
  refine H_region (l := [_]) rfl ?_
  refine HO_assign rfl rfl rfl ?_
  refine HO_nil ?_
  refine H_env (ρ' := [(0, _), (1, _)]) ⟨rfl, rfl, trivial⟩ ?_
  refine H_seq ?_
  -- R1 ref.go:229
  refine H_region (l := [_, _, _, _, _, _]) rfl ?_
  refine HO_move rfl rfl rfl ?_
  refine HO_bytesStr (i := 0) rfl rfl rfl Try.underlying28 Try.underlying9 Try.underlying5 rfl ?_
  refine HO_move rfl rfl rfl ?_
  refine HO_bytesStr (i := 1) rfl rfl rfl Try.underlying28 Try.underlying9 Try.underlying5 rfl ?_
  refine HO_bin rfl rfl rfl rfl bin_eqs ?_
  refine HO_assign rfl rfl rfl ?_
  refine HO_nil ?_
  refine H_env (ρ' := [(4, _)]) ⟨rfl, trivial⟩ ?_
  refine H_world (fun _ hA => hA.drop (is := [0, 1]) (Y := [_, _]) (Z := []) rfl) ?_
  -- end1
  refine H_ret1 Try.results22 (.tmp rfl) (fun w hA => ⟨(), congrArg Ending.returned ?_, ?_, ?_⟩)
  · (exact congrArg Value.bool (Cod.dec_same b b2))
  · trivial
  · exact hA.only (is := []) (Z := []) rfl
theorem rPut_spec (b : List UInt8) (u : Nat) (a : Option Addr) (c : Nat) (hu : u < 18446744073709551616) (hb : b.length ≤ 1099511627776) : Spec Try.prog 70 #[.slice a (b.length) c, .int .u64 (u)] [.dat kByte.sl (b) [.slice a (b.length) c]] (β := Option Addr × Nat) (fun y => .slice y.1 ((b ++ Cod.enc u).length) y.2) (fun y => True) (fun y => [.own 5 kByte y.1 y.2 (b ++ Cod.enc u)]) := by
  have hk8 := Cod.beh_le u
  refine Spec.enter (vs := [_, _]) Try.func70 rfl Try.ntmps70 rfl (Nat.le_of_ble_eq_true rfl) (fun w0 ok0 => ?_)
  generalize hM0 : blks _ = M0
  have hMn : ∀ {R : List Atom} (b : Nat), M0 b → blks R b := fun b hb => absurd (hM0 ▸ hb) (blks_none (by simp [Atom.dat, Atom.elem]) b)
  refine H_seq ?_
  -- R0 ref.go:101
  refine H_region (l := [_]) rfl ?_
  refine HO_assign rfl rfl rfl ?_
  refine HO_nil ?_
  refine H_env (ρ' := [(0, _), (1, _)]) ⟨rfl, rfl, trivial⟩ ?_
  refine H_seq ?_
  -- R1 ref.go:102
  refine H_region (l := [_, _, _, _]) rfl ?_
  refine HO_buildSlice0 (kd := kByte) rfl rfl Try.underlying28 elt5 ?_
  intro g10
  refine HO_move rfl rfl rfl ?_
  refine HO_append (i := 0) (R := [_]) rfl rfl rfl rfl rfl Try.underlying28 elt5 rfl rfl (SrcOk.dat (j := 0) Try.underlying28 rfl) ?_ ?_
  · (simp only [List.length_nil]; omega)
  intro a12 c12
  refine HO_assign rfl rfl rfl ?_
  refine HO_nil ?_
  refine H_env (ρ' := [(5, _), (1, _)]) ⟨rfl, rfl, trivial⟩ ?_
  refine H_world (fun _ hA => hA.drop (is := [1]) (Y := [_]) (Z := [_]) rfl) ?_
  refine H_seq ?_
  -- R2 ref.go:103
  refine H_region (l := [_, _, _]) rfl ?_
  refine HO_move rfl rfl rfl ?_
  refine HO_call (first := []) (capt := []) (is := []) (R := [_]) rfl rfl rfl rfl rfl Try.call126 rfl (rmore_spec _ ?_) ?_
  · (first | omega | assumption | decide)
  intro y14 hy14
  clear y14 hy14
  refine HO_assign rfl rfl rfl ?_
  refine HO_nil ?_
  refine H_env (ρ' := [(6, _), (5, _), (1, _)]) ⟨rfl, rfl, rfl, trivial⟩ ?_
  refine H_seq ?_
  -- R3 ref.go:104
  refine H_region (l := [_]) rfl ?_
  refine HO_assign rfl rfl rfl ?_
  refine HO_nil ?_
  refine H_seq ?_
  refine H_seq ?_
  -- R4 ref.go:105
  refine H_region (l := [_]) rfl ?_
  refine HO_assign rfl rfl rfl ?_
  refine HO_nil ?_
  refine H_block ?_
  refine H_loop (σ := Nat) (fun s => s ≤ Cod.beh u) (fun s => [(1, .int .u64 (u)), (5, .slice a12 (b.length) c12), (6, .int .i64 ((Cod.beh u : Int))), (7, .int .u8 ((Cod.onesB s : Int))), (8, .int .i64 ((s : Int)))]) (fun s => Asn w0 ok0 M0 [.own 5 kByte a12 c12 (b)]) (fun s => Cod.beh u - s) 0 ?_ ?_ ?_ ?_
  · exact Nat.zero_le _
  · exact ⟨rfl, rfl, rfl, rfl, rfl, trivial⟩
  · intro w hA
    exact hA.only (is := [0]) (Z := []) rfl
  · intro i hI
    (try dsimp only at hI ⊢)
    refine H_seq ?_
    refine H_seq ?_
    -- R5 ref.go:105
    refine H_region (l := [_, _, _]) rfl ?_
    refine HO_move rfl rfl rfl ?_
    refine HO_move rfl rfl rfl ?_
    refine HO_bin rfl rfl rfl rfl bin_lss ?_
    refine HO_nil ?_
    refine H_env (ρ' := [(17, _), (1, _), (5, _), (6, _), (7, _), (8, _)]) ⟨rfl, rfl, rfl, rfl, rfl, rfl, trivial⟩ ?_
    refine H_cond rfl ?_ ?_
    · intro h17
      (try simp only [decide_eq_true_eq, decide_eq_false_iff_not, Bool.not_eq_true', Bool.not_eq_false', Bool.not_eq_true, Bool.not_eq_false, Bool.true_eq_false, Bool.false_eq_true, not_false_eq_true, not_true_eq_false] at h17)
      refine H_skip ?_
      refine H_seq ?_
      refine H_block ?_
      -- R7 ref.go:106
      refine H_region (l := [_, _, _, _, _, _]) rfl ?_
      refine HO_move rfl rfl rfl ?_
      refine HO_move rfl rfl rfl ?_
      refine HO_conv rfl rfl rfl (cv_int Try.underlying3 Try.underlying86 (wrap_u_i rfl _)) ?_
      refine HO_set (v' := .int .u64 (((i : Nat) : Int))) 22 rfl (by exact congrArg (Value.int .u64) (by simp only [IntKind.bits]; omega)) ?_
      refine HO_bin rfl rfl rfl rfl (bin_shr' ?_ ?_) ?_
      · decide
      · omega
      refine HO_bin rfl rfl rfl rfl (bin_or rfl ?_ ?_) ?_
      · (simp only [IntKind.bits]; have := Cod.onesB_lt i; omega)
      · (simp only [IntKind.bits]; exact Nat.lt_of_le_of_lt (Nat.div_le_self _ _) (by decide))
      refine HO_set (v' := .int .u8 ((Cod.onesB (i + 1) : Int))) 24 rfl (by exact congrArg (fun m : Nat => Value.int .u8 (m : Int)) (by have h8 : ((i : Int)).toNat = i := (by omega); rw [h8]; exact Cod.ones_next (by omega))) ?_
      refine HO_assign rfl rfl rfl ?_
      refine HO_nil ?_
      refine H_env (ρ' := [(7, _), (1, _), (5, _), (6, _), (8, _)]) ⟨rfl, rfl, rfl, rfl, rfl, trivial⟩ ?_
      refine H_blk ?_
      -- R6 ref.go:105
      refine H_region (l := [_, _, _]) rfl ?_
      refine HO_move rfl rfl rfl ?_
      refine HO_bin rfl rfl rfl rfl (bin_add ?_ ?_) ?_
      · omega
      · omega
      refine HO_assign rfl rfl rfl ?_
      refine HO_nil ?_
      refine H_env (ρ' := [(8, _), (7, _), (1, _), (5, _), (6, _)]) ⟨rfl, rfl, rfl, rfl, rfl, trivial⟩ ?_
      refine H_inv (fun a w hf hA => ⟨i + 1, ?_, ?_, hf.sub ?_, ?_⟩)
      · omega
      · (try dsimp only); omega
      · exact ⟨rfl, rfl, rfl, rfl, rfl, trivial⟩
      · exact hA.only (is := [0]) (Z := []) rfl
    · intro h17
      (try simp only [decide_eq_true_eq, decide_eq_false_iff_not, Bool.not_eq_true', Bool.not_eq_false', Bool.not_eq_true, Bool.not_eq_false, Bool.true_eq_false, Bool.false_eq_true, not_false_eq_true, not_true_eq_false] at h17)
      refine H_exit rfl ?_
      refine H_seq ?_
      refine H_seq ?_
      -- R8 ref.go:108
      obtain rfl : i = Cod.beh u := by omega
      refine H_region (l := [_, _]) rfl ?_
      refine HO_move rfl rfl rfl ?_
      refine HO_bin rfl rfl rfl rfl bin_lss ?_
      refine HO_nil ?_
      refine H_env (ρ' := [(26, _), (1, _), (5, _), (6, _), (7, _)]) ⟨rfl, rfl, rfl, rfl, rfl, trivial⟩ ?_
      refine H_cond rfl ?_ ?_
      · intro h26
        (try simp only [decide_eq_true_eq, decide_eq_false_iff_not, Bool.not_eq_true', Bool.not_eq_false', Bool.not_eq_true, Bool.not_eq_false, Bool.true_eq_false, Bool.false_eq_true, not_false_eq_true, not_true_eq_false] at h26)
        -- R9 ref.go:109
        refine H_region (l := [_, _, _, _, _, _, _, _, _]) rfl ?_
        refine HO_move rfl rfl rfl ?_
        refine HO_move rfl rfl rfl ?_
        refine HO_move rfl rfl rfl ?_
        refine HO_bin rfl rfl rfl rfl (bin_mul ?_ ?_) ?_
        · omega
        · omega
        refine HO_conv rfl rfl rfl (cv_int Try.underlying3 Try.underlying86 (wrap_u_i rfl _)) ?_
        refine HO_set (v' := .int .u64 (((8 * Cod.beh u : Nat) : Int))) 31 rfl (by exact congrArg (Value.int .u64) (by simp only [IntKind.bits]; omega)) ?_
        refine HO_bin rfl rfl rfl rfl (bin_shr' ?_ ?_) ?_
        · (simp only [IntKind.bits]; omega)
        · omega
        refine HO_conv rfl rfl rfl (cv_int Try.underlying97 Try.underlying5 (wrap_u rfl _)) ?_
        refine HO_bin rfl rfl rfl rfl (bin_or rfl ?_ ?_) ?_
        · (simp only [IntKind.bits]; have := Cod.onesB_lt (Cod.beh u); omega)
        · (exact Nat.mod_lt _ (by decide))
        refine HO_assign rfl rfl rfl ?_
        refine HO_nil ?_
        refine H_env (ρ' := [(7, _), (1, _), (5, _), (6, _)]) ⟨rfl, rfl, rfl, rfl, trivial⟩ ?_
        refine H_seq ?_
        -- R10 ref.go:111
        refine H_set (v' := .int .u8 ((UInt8.ofNat (Cod.headB u)).toNat : Int)) 7 rfl (by (first | exact head_set1 (by omega) (by omega) | exact head_set2 (by omega))) ?_
        refine H_region (l := [_, _, _, _, _]) rfl ?_
        refine HO_move rfl rfl rfl ?_
        refine HO_move rfl rfl rfl ?_
        refine HO_buildSlice (kd := kByte) (xo := [_]) (vs := [_]) (cs := [_]) (xs := [_]) rfl rfl rfl rfl Try.underlying28 elt5 rfl rfl rfl (by decide) (by decide) (by simp [Value.cells]) rfl (fun _ _ _ => ⟨_, _, rfl, ⟨rfl, trivial⟩, rfl⟩) ?_
        intro g37
        refine HO_append (i := 1) (R := [_]) rfl rfl rfl rfl rfl Try.underlying28 elt5 rfl rfl (SrcOk.own (j := 0) Try.underlying28 rfl rfl) ?_ ?_
        · (simp only [List.length_append, List.length_cons, List.length_nil]; omega)
        intro a38 c38
        refine HO_assign rfl rfl rfl ?_
        refine HO_nil ?_
        refine H_env (ρ' := [(5, _), (1, _), (6, _)]) ⟨rfl, rfl, rfl, trivial⟩ ?_
        refine H_world (fun _ hA => hA.drop (is := [1]) (Y := [_]) (Z := [_]) rfl) ?_
        refine H_seq ?_
        refine H_seq ?_
        -- R11 ref.go:112
        refine H_region (l := [_, _, _]) rfl ?_
        refine HO_move rfl rfl rfl ?_
        refine HO_bin rfl rfl rfl rfl (bin_sub ?_ ?_) ?_
        · omega
        · omega
        refine HO_assign rfl rfl rfl ?_
        refine HO_nil ?_
        refine H_env (ρ' := [(9, _), (5, _), (1, _)]) ⟨rfl, rfl, rfl, trivial⟩ ?_
        refine H_block ?_
        refine H_loop (σ := Nat × List UInt8 × Option Addr × Nat) (fun s => s.2.1 ++ Cod.tailB u s.1 = b ++ Cod.enc u ∧ s.1 ≤ 8) (fun s => [(5, .slice s.2.2.1 (s.2.1.length) s.2.2.2), (1, .int .u64 (u)), (9, .int .i64 ((s.1 : Int) - 1))]) (fun s => Asn w0 ok0 M0 [.own 5 kByte s.2.2.1 s.2.2.2 (s.2.1)]) (fun s => s.1) ⟨Cod.beh u, b ++ [UInt8.ofNat (Cod.headB u)], a38, c38⟩ ?_ ?_ ?_ ?_
        · exact ⟨by simp [Cod.enc], Cod.beh_le u⟩
        · exact ⟨rfl, rfl, rfl, trivial⟩
        · intro w hA
          exact hA.only (is := [0]) (Z := []) rfl
        · rintro ⟨j, l, a, c⟩ hI
          (try dsimp only at hI ⊢)
          refine H_seq ?_
          refine H_seq ?_
          -- R12 ref.go:112
          refine H_region (l := [_, _]) rfl ?_
          refine HO_move rfl rfl rfl ?_
          refine HO_bin rfl rfl rfl rfl bin_geq ?_
          refine HO_nil ?_
          refine H_env (ρ' := [(42, _), (5, _), (1, _), (9, _)]) ⟨rfl, rfl, rfl, rfl, trivial⟩ ?_
          refine H_cond rfl ?_ ?_
          · intro h42
            (try simp only [decide_eq_true_eq, decide_eq_false_iff_not, Bool.not_eq_true', Bool.not_eq_false', Bool.not_eq_true, Bool.not_eq_false, Bool.true_eq_false, Bool.false_eq_true, not_false_eq_true, not_true_eq_false] at h42)
            refine H_skip ?_
            refine H_seq ?_
            refine H_block ?_
            -- R14 ref.go:113
            refine H_region (l := [_, _, _, _, _, _, _, _, _, _]) rfl ?_
            refine HO_move rfl rfl rfl ?_
            refine HO_move rfl rfl rfl ?_
            refine HO_move rfl rfl rfl ?_
            refine HO_bin rfl rfl rfl rfl (bin_mul ?_ ?_) ?_
            · omega
            · omega
            refine HO_conv rfl rfl rfl (cv_int Try.underlying3 Try.underlying86 (wrap_u_i rfl _)) ?_
            refine HO_set (v' := .int .u64 (((8 * (j - 1) : Nat) : Int))) 49 rfl (by exact congrArg (Value.int .u64) (by simp only [IntKind.bits]; omega)) ?_
            refine HO_bin rfl rfl rfl rfl (bin_shr' ?_ ?_) ?_
            · (simp only [IntKind.bits]; omega)
            · omega
            refine HO_conv rfl rfl rfl (cv_int Try.underlying97 Try.underlying5 (wrap_u rfl _)) ?_
            refine HO_set (v' := .int .u8 (((UInt8.ofNat (u / 2 ^ (8 * (j - 1)))).toNat : Int))) 51 rfl (by (exact byte_eq (by first | rfl | (congr 2; omega)))) ?_
            refine HO_buildSlice (kd := kByte) (xo := [_]) (vs := [_]) (cs := [_]) (xs := [_]) rfl rfl rfl rfl Try.underlying28 elt5 rfl rfl rfl (by decide) (by decide) (by simp [Value.cells]) rfl (fun _ _ _ => ⟨_, _, rfl, ⟨rfl, trivial⟩, rfl⟩) ?_
            intro g52
            refine HO_append (i := 1) (R := [_]) rfl rfl rfl rfl rfl Try.underlying28 elt5 rfl rfl (SrcOk.own (j := 0) Try.underlying28 rfl rfl) ?_ ?_
            · (simp only [List.length_cons, List.length_nil]; have := congrArg List.length hI.1; simp only [List.length_append, Cod.tailB_length, Cod.enc_length] at this; omega)
            intro a53 c53
            refine HO_assign rfl rfl rfl ?_
            refine HO_nil ?_
            refine H_env (ρ' := [(5, _), (1, _), (9, _)]) ⟨rfl, rfl, rfl, trivial⟩ ?_
            refine H_world (fun _ hA => hA.drop (is := [1]) (Y := [_]) (Z := [_]) rfl) ?_
            refine H_blk ?_
            -- R13 ref.go:112
            refine H_region (l := [_, _, _]) rfl ?_
            refine HO_move rfl rfl rfl ?_
            refine HO_bin rfl rfl rfl rfl (bin_sub ?_ ?_) ?_
            · omega
            · omega
            refine HO_assign rfl rfl rfl ?_
            refine HO_nil ?_
            refine H_env (ρ' := [(9, _), (5, _), (1, _)]) ⟨rfl, rfl, rfl, trivial⟩ ?_
            refine H_inv (fun a w hf hA => ⟨⟨j - 1, l ++ [UInt8.ofNat (u / 2 ^ (8 * (j - 1)))], a53, c53⟩, ?_, ?_, hf.sub ?_, ?_⟩)
            · exact ⟨by obtain ⟨j', rfl⟩ : ∃ m, j = m + 1 := ⟨j - 1, by omega⟩; simpa [Cod.tailB] using hI.1, by omega⟩
            · (try dsimp only); omega
            · exact ⟨rfl, rfl, congrArg (fun z => some (Value.int .i64 z)) (by omega), trivial⟩
            · exact hA.only (is := [0]) (Z := []) rfl
          · intro h42
            (try simp only [decide_eq_true_eq, decide_eq_false_iff_not, Bool.not_eq_true', Bool.not_eq_false', Bool.not_eq_true, Bool.not_eq_false, Bool.true_eq_false, Bool.false_eq_true, not_false_eq_true, not_true_eq_false] at h42)
            refine H_exit rfl ?_
            refine H_seq ?_
            -- R15 ref.go:115
            refine H_region (l := [_, _]) rfl ?_
            refine HO_move rfl rfl rfl ?_
            refine HO_assign rfl rfl rfl ?_
            refine HO_nil ?_
            refine H_env (ρ' := [(4, _)]) ⟨rfl, trivial⟩ ?_
            obtain rfl : j = 0 := by omega
            have hI1 := hI.1
            simp only [Cod.tailB, List.append_nil] at hI1
            subst hI1
            -- end1
            refine H_ret1 Try.results70 (.tmp rfl) (fun w hA => ⟨(a, c), congrArg Ending.returned ?_, ?_, ?_⟩)
            · rfl
            · trivial
            · exact hA.only (is := [0]) (Z := []) rfl
      · intro h26
        (try simp only [decide_eq_true_eq, decide_eq_false_iff_not, Bool.not_eq_true', Bool.not_eq_false', Bool.not_eq_true, Bool.not_eq_false, Bool.true_eq_false, Bool.false_eq_true, not_false_eq_true, not_true_eq_false] at h26)
        refine H_skip ?_
        refine H_seq ?_
        -- R10 ref.go:111
        refine H_set (v' := .int .u8 ((UInt8.ofNat (Cod.headB u)).toNat : Int)) 7 rfl (by (first | exact head_set1 (by omega) (by omega) | exact head_set2 (by omega))) ?_
        refine H_region (l := [_, _, _, _, _]) rfl ?_
        refine HO_move rfl rfl rfl ?_
        refine HO_move rfl rfl rfl ?_
        refine HO_buildSlice (kd := kByte) (xo := [_]) (vs := [_]) (cs := [_]) (xs := [_]) rfl rfl rfl rfl Try.underlying28 elt5 rfl rfl rfl (by decide) (by decide) (by simp [Value.cells]) rfl (fun _ _ _ => ⟨_, _, rfl, ⟨rfl, trivial⟩, rfl⟩) ?_
        intro g37
        refine HO_append (i := 1) (R := [_]) rfl rfl rfl rfl rfl Try.underlying28 elt5 rfl rfl (SrcOk.own (j := 0) Try.underlying28 rfl rfl) ?_ ?_
        · (simp only [List.length_append, List.length_cons, List.length_nil]; omega)
        intro a38 c38
        refine HO_assign rfl rfl rfl ?_
        refine HO_nil ?_
        refine H_env (ρ' := [(5, _), (1, _), (6, _)]) ⟨rfl, rfl, rfl, trivial⟩ ?_
        refine H_world (fun _ hA => hA.drop (is := [1]) (Y := [_]) (Z := [_]) rfl) ?_
        refine H_seq ?_
        refine H_seq ?_
        -- R11 ref.go:112
        refine H_region (l := [_, _, _]) rfl ?_
        refine HO_move rfl rfl rfl ?_
        refine HO_bin rfl rfl rfl rfl (bin_sub ?_ ?_) ?_
        · omega
        · omega
        refine HO_assign rfl rfl rfl ?_
        refine HO_nil ?_
        refine H_env (ρ' := [(9, _), (5, _), (1, _)]) ⟨rfl, rfl, rfl, trivial⟩ ?_
        refine H_block ?_
        refine H_loop (σ := Nat × List UInt8 × Option Addr × Nat) (fun s => s.2.1 ++ Cod.tailB u s.1 = b ++ Cod.enc u ∧ s.1 ≤ 8) (fun s => [(5, .slice s.2.2.1 (s.2.1.length) s.2.2.2), (1, .int .u64 (u)), (9, .int .i64 ((s.1 : Int) - 1))]) (fun s => Asn w0 ok0 M0 [.own 5 kByte s.2.2.1 s.2.2.2 (s.2.1)]) (fun s => s.1) ⟨Cod.beh u, b ++ [UInt8.ofNat (Cod.headB u)], a38, c38⟩ ?_ ?_ ?_ ?_
        · exact ⟨by simp [Cod.enc], Cod.beh_le u⟩
        · exact ⟨rfl, rfl, rfl, trivial⟩
        · intro w hA
          exact hA.only (is := [0]) (Z := []) rfl
        · rintro ⟨j, l, a, c⟩ hI
          (try dsimp only at hI ⊢)
          refine H_seq ?_
          refine H_seq ?_
          -- R12 ref.go:112
          refine H_region (l := [_, _]) rfl ?_
          refine HO_move rfl rfl rfl ?_
          refine HO_bin rfl rfl rfl rfl bin_geq ?_
          refine HO_nil ?_
          refine H_env (ρ' := [(42, _), (5, _), (1, _), (9, _)]) ⟨rfl, rfl, rfl, rfl, trivial⟩ ?_
          refine H_cond rfl ?_ ?_
          · intro h42
            (try simp only [decide_eq_true_eq, decide_eq_false_iff_not, Bool.not_eq_true', Bool.not_eq_false', Bool.not_eq_true, Bool.not_eq_false, Bool.true_eq_false, Bool.false_eq_true, not_false_eq_true, not_true_eq_false] at h42)
            refine H_skip ?_
            refine H_seq ?_
            refine H_block ?_
            -- R14 ref.go:113
            refine H_region (l := [_, _, _, _, _, _, _, _, _, _]) rfl ?_
            refine HO_move rfl rfl rfl ?_
            refine HO_move rfl rfl rfl ?_
            refine HO_move rfl rfl rfl ?_
            refine HO_bin rfl rfl rfl rfl (bin_mul ?_ ?_) ?_
            · omega
            · omega
            refine HO_conv rfl rfl rfl (cv_int Try.underlying3 Try.underlying86 (wrap_u_i rfl _)) ?_
            refine HO_set (v' := .int .u64 (((8 * (j - 1) : Nat) : Int))) 49 rfl (by exact congrArg (Value.int .u64) (by simp only [IntKind.bits]; omega)) ?_
            refine HO_bin rfl rfl rfl rfl (bin_shr' ?_ ?_) ?_
            · (simp only [IntKind.bits]; omega)
            · omega
            refine HO_conv rfl rfl rfl (cv_int Try.underlying97 Try.underlying5 (wrap_u rfl _)) ?_
            refine HO_set (v' := .int .u8 (((UInt8.ofNat (u / 2 ^ (8 * (j - 1)))).toNat : Int))) 51 rfl (by (exact byte_eq (by first | rfl | (congr 2; omega)))) ?_
            refine HO_buildSlice (kd := kByte) (xo := [_]) (vs := [_]) (cs := [_]) (xs := [_]) rfl rfl rfl rfl Try.underlying28 elt5 rfl rfl rfl (by decide) (by decide) (by simp [Value.cells]) rfl (fun _ _ _ => ⟨_, _, rfl, ⟨rfl, trivial⟩, rfl⟩) ?_
            intro g52
            refine HO_append (i := 1) (R := [_]) rfl rfl rfl rfl rfl Try.underlying28 elt5 rfl rfl (SrcOk.own (j := 0) Try.underlying28 rfl rfl) ?_ ?_
            · (simp only [List.length_cons, List.length_nil]; have := congrArg List.length hI.1; simp only [List.length_append, Cod.tailB_length, Cod.enc_length] at this; omega)
            intro a53 c53
            refine HO_assign rfl rfl rfl ?_
            refine HO_nil ?_
            refine H_env (ρ' := [(5, _), (1, _), (9, _)]) ⟨rfl, rfl, rfl, trivial⟩ ?_
            refine H_world (fun _ hA => hA.drop (is := [1]) (Y := [_]) (Z := [_]) rfl) ?_
            refine H_blk ?_
            -- R13 ref.go:112
            refine H_region (l := [_, _, _]) rfl ?_
            refine HO_move rfl rfl rfl ?_
            refine HO_bin rfl rfl rfl rfl (bin_sub ?_ ?_) ?_
            · omega
            · omega
            refine HO_assign rfl rfl rfl ?_
            refine HO_nil ?_
            refine H_env (ρ' := [(9, _), (5, _), (1, _)]) ⟨rfl, rfl, rfl, trivial⟩ ?_
            refine H_inv (fun a w hf hA => ⟨⟨j - 1, l ++ [UInt8.ofNat (u / 2 ^ (8 * (j - 1)))], a53, c53⟩, ?_, ?_, hf.sub ?_, ?_⟩)
            · exact ⟨by obtain ⟨j', rfl⟩ : ∃ m, j = m + 1 := ⟨j - 1, by omega⟩; simpa [Cod.tailB] using hI.1, by omega⟩
            · (try dsimp only); omega
            · exact ⟨rfl, rfl, congrArg (fun z => some (Value.int .i64 z)) (by omega), trivial⟩
            · exact hA.only (is := [0]) (Z := []) rfl
          · intro h42
            (try simp only [decide_eq_true_eq, decide_eq_false_iff_not, Bool.not_eq_true', Bool.not_eq_false', Bool.not_eq_true, Bool.not_eq_false, Bool.true_eq_false, Bool.false_eq_true, not_false_eq_true, not_true_eq_false] at h42)
            refine H_exit rfl ?_
            refine H_seq ?_
            -- R15 ref.go:115
            refine H_region (l := [_, _]) rfl ?_
            refine HO_move rfl rfl rfl ?_
            refine HO_assign rfl rfl rfl ?_
            refine HO_nil ?_
            refine H_env (ρ' := [(4, _)]) ⟨rfl, trivial⟩ ?_
            obtain rfl : j = 0 := by omega
            have hI1 := hI.1
            simp only [Cod.tailB, List.append_nil] at hI1
            subst hI1
            -- end2
            refine H_ret1 Try.results70 (.tmp rfl) (fun w hA => ⟨(a, c), congrArg Ending.returned ?_, ?_, ?_⟩)
            · rfl
            · trivial
            · exact hA.only (is := [0]) (Z := []) rfl
theorem rPutText_spec (b : List UInt8) (s : ByteArray) (a : Option Addr) (c : Nat) (hs : s.size ≤ 1099511627776) (hb : b.length ≤ 1099511627776) : Spec Try.prog 72 #[.slice a (b.length) c, .string (s)] [.dat kByte.sl (b) [.slice a (b.length) c]] (β := Option Addr × Nat) (fun y => .slice y.1 ((b ++ (Cod.enc s.size ++ s.data.toList)).length) y.2) (fun y => True) (fun y => [.own 5 kByte y.1 y.2 (b ++ (Cod.enc s.size ++ s.data.toList))]) := by
  refine Spec.enter (vs := [_, _]) Try.func72 rfl Try.ntmps72 rfl (Nat.le_of_ble_eq_true rfl) (fun w0 ok0 => ?_)
  generalize hM0 : blks _ = M0
  have hMn : ∀ {R : List Atom} (b : Nat), M0 b → blks R b := fun b hb => absurd (hM0 ▸ hb) (blks_none (by simp [Atom.dat, Atom.elem]) b)
  refine H_seq ?_
  -- R0 ref.go:144
  refine H_region (l := [_]) rfl ?_
  refine HO_assign rfl rfl rfl ?_
  refine HO_nil ?_
  refine H_env (ρ' := [(0, _), (1, _)]) ⟨rfl, rfl, trivial⟩ ?_
  refine H_seq ?_
  -- R1 ref.go:144
  refine H_region (l := [_, _, _, _, _, _, _, _]) rfl ?_
  refine HO_move rfl rfl rfl ?_
  refine HO_move rfl rfl rfl ?_
  refine HO_bi rfl rfl rfl (bi_len_str Try.underlying9) ?_
  refine HO_conv rfl rfl rfl (cv_int Try.underlying3 Try.underlying97 (wrap_u_i rfl _)) ?_
  refine HO_set (v' := .int .u64 ((s.size : Int))) 8 rfl (by exact congrArg (Value.int .u64) (by simp only [IntKind.bits]; omega)) ?_
  refine HO_dup (i := 0) rfl rfl ?_
  refine HO_call (first := []) (capt := []) (is := [0]) (R := [_]) rfl rfl rfl rfl rfl Try.call70 rfl (rPut_spec _ _ _ _ ?_ ?_) ?_
  · omega
  · assumption
  intro y9 hy9
  refine HO_move rfl rfl rfl ?_
  refine HO_append (i := 0) (R := [_]) rfl rfl rfl rfl rfl Try.underlying28 elt5 rfl rfl (SrcOk.str Try.underlying9) ?_ ?_
  · (have := Cod.enc_length s.size; have := Cod.beh_le s.size; have hss : s.data.toList.length = s.size := Array.length_toList; simp only [List.length_append]; omega)
  intro a11 c11
  refine HO_assign rfl rfl rfl ?_
  refine HO_nil ?_
  refine H_env (ρ' := [(4, _)]) ⟨rfl, trivial⟩ ?_
  refine H_world (fun _ hA => hA.drop (is := [1]) (Y := [_]) (Z := [_]) rfl) ?_
  -- end1
  refine H_ret1 Try.results72 (.tmp rfl) (fun w hA => ⟨(a11, c11), congrArg Ending.returned ?_, ?_, ?_⟩)
  · simp [List.append_assoc]
  · trivial
  · exact (hA.only (is := [0]) (Z := []) rfl).cast (by simp [List.append_assoc])
end Go.Wk
