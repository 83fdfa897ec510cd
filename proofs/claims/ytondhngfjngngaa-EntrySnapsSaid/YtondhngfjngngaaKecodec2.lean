/- Contracts of the program's functions, each proved by walking its code. -/
import Derived.Test.YtondhngfjngngaaKecodec1
set_option maxRecDepth 100000
set_option linter.unusedVariables false
set_option linter.unusedSimpArgs false
namespace Go.Wk.Fcodec2
open Go Go.RowKit Go.Proofs Go.Wk
theorem elt5 : Elt Try.prog 5 (.int .u8 (0)) 1 1 := Elt.of (by kernel_rfl) (by rfl) (by decide) (by decide)
end Go.Wk.Fcodec2
namespace Go.Wk
open Go Go.RowKit Go.Proofs Fcodec2 
theorem put_spec (b : List UInt8) (u : Nat) (a : Option Addr) (c : Nat) (hu : u < 18446744073709551616) (hb : b.length ≤ 1099511627776) : Spec Try.prog 123 #[.slice a (b.length) c, .int .u64 (u)] [.own 5 kByte a c (b)] (β := Option Addr × Nat) (fun y => .slice y.1 ((b ++ Cod.enc u).length) y.2) (fun y => True) (fun y => [.own 5 kByte y.1 y.2 (b ++ Cod.enc u)]) := by
  have hk8 := Cod.beh_le u
  refine Spec.enter (vs := [_, _]) Try.func123 rfl Try.ntmps123 rfl (Nat.le_of_ble_eq_true rfl) (fun w0 ok0 => ?_)
  generalize hM0 : blks _ = M0
  refine H_seq ?_
  -- R0 codec.go:90
  refine H_region (l := [_]) rfl ?_
  refine HO_assign rfl rfl rfl ?_
  refine HO_nil ?_
  refine H_env (ρ' := [(0, _), (1, _)]) ⟨rfl, rfl, trivial⟩ ?_
  refine H_seq ?_
  -- R1 codec.go:91
  refine H_region (l := [_, _, _]) rfl ?_
  refine HO_move rfl rfl rfl ?_
  refine HO_call (first := []) (capt := []) (is := []) (R := [_]) rfl rfl rfl rfl rfl Try.call147 rfl (behind_spec _ ?_) ?_
  · (first | omega | assumption | decide)
  intro y8 hy8
  clear y8 hy8
  refine HO_assign rfl rfl rfl ?_
  refine HO_nil ?_
  refine H_env (ρ' := [(5, _), (0, _), (1, _)]) ⟨rfl, rfl, rfl, trivial⟩ ?_
  refine H_seq ?_
  -- R2 codec.go:92
  refine H_region (l := [_, _, _]) rfl ?_
  refine HO_move rfl rfl rfl ?_
  refine HO_call (first := []) (capt := []) (is := []) (R := [_]) rfl rfl rfl rfl rfl Try.call148 rfl (ones_spec _ ?_) ?_
  · (first | omega | assumption | decide)
  intro y10 hy10
  clear y10 hy10
  refine HO_assign rfl rfl rfl ?_
  refine HO_nil ?_
  refine H_env (ρ' := [(6, _), (5, _), (0, _), (1, _)]) ⟨rfl, rfl, rfl, rfl, trivial⟩ ?_
  refine H_seq ?_
  refine H_seq ?_
  -- R3 codec.go:93
  refine H_region (l := [_, _]) rfl ?_
  refine HO_move rfl rfl rfl ?_
  refine HO_bin rfl rfl rfl rfl bin_lss ?_
  refine HO_nil ?_
  refine H_env (ρ' := [(12, _), (6, _), (5, _), (0, _), (1, _)]) ⟨rfl, rfl, rfl, rfl, rfl, trivial⟩ ?_
  refine H_cond rfl ?_ ?_
  · intro h12
    (try simp only [decide_eq_true_eq, decide_eq_false_iff_not, Bool.not_eq_true', Bool.not_eq_false', Bool.not_eq_true, Bool.not_eq_false, Bool.true_eq_false, Bool.false_eq_true, not_false_eq_true, not_true_eq_false] at h12)
    -- R4 codec.go:94
    refine H_region (l := [_, _, _, _, _, _, _, _]) rfl ?_
    refine HO_move rfl rfl rfl ?_
    refine HO_move rfl rfl rfl ?_
    refine HO_move rfl rfl rfl ?_
    refine HO_bin rfl rfl rfl rfl (bin_mul ?_ ?_) ?_
    · omega
    · omega
    refine HO_bin rfl rfl rfl rfl (bin_shr' ?_ ?_) ?_
    · (simp only [IntKind.bits]; omega)
    · omega
    refine HO_conv rfl rfl rfl (cv_int Try.underlying97 Try.underlying5 (wrap_u rfl _)) ?_
    refine HO_bin rfl rfl rfl rfl (bin_or rfl ?_ ?_) ?_
    · (simp only [IntKind.bits]; have := Cod.onesB_lt (Cod.beh u); omega)
    · (exact Nat.mod_lt _ (by decide))
    refine HO_assign rfl rfl rfl ?_
    refine HO_nil ?_
    refine H_env (ρ' := [(6, _), (5, _), (0, _), (1, _)]) ⟨rfl, rfl, rfl, rfl, trivial⟩ ?_
    refine H_seq ?_
    -- R5 codec.go:96
    refine H_set (v' := .int .u8 ((UInt8.ofNat (Cod.headB u)).toNat : Int)) 6 rfl (by (first | exact head_set1 (by omega) (by omega) | exact head_set2 (by omega))) ?_
    refine H_region (l := [_, _, _, _, _]) rfl ?_
    refine HO_move rfl rfl rfl ?_
    refine HO_move rfl rfl rfl ?_
    refine HO_buildSlice (kd := kByte) (xo := [_]) (vs := [_]) (cs := [_]) (xs := [_]) rfl rfl rfl rfl Try.underlying28 elt5 rfl rfl rfl (by decide) (by decide) (by simp [Value.cells]) rfl (fun _ _ _ => ⟨_, _, rfl, ⟨rfl, trivial⟩, rfl⟩) ?_
    intro g22
    refine HO_append (i := 1) (R := [_]) rfl rfl rfl rfl rfl Try.underlying28 elt5 rfl rfl (SrcOk.own (j := 0) Try.underlying28 rfl rfl) ?_ ?_
    · (simp only [List.length_cons, List.length_nil]; omega)
    intro a23 c23
    refine HO_assign rfl rfl rfl ?_
    refine HO_nil ?_
    refine H_env (ρ' := [(0, _), (5, _), (1, _)]) ⟨rfl, rfl, rfl, trivial⟩ ?_
    refine H_world (fun _ hA => hA.drop (is := [1]) (Y := [_]) (Z := [_]) rfl) ?_
    refine H_seq ?_
    refine H_seq ?_
    -- R6 codec.go:97
    refine H_region (l := [_, _, _]) rfl ?_
    refine HO_move rfl rfl rfl ?_
    refine HO_bin rfl rfl rfl rfl (bin_sub ?_ ?_) ?_
    · (first | omega | assumption | decide)
    · (first | omega | assumption | decide)
    refine HO_assign rfl rfl rfl ?_
    refine HO_nil ?_
    refine H_env (ρ' := [(5, _), (0, _), (1, _)]) ⟨rfl, rfl, rfl, trivial⟩ ?_
    refine H_block ?_
    refine H_loop (σ := Nat × List UInt8 × Option Addr × Nat) (fun s => s.2.1 ++ Cod.tailB u s.1 = b ++ Cod.enc u ∧ s.1 ≤ 8) (fun s => [(0, .slice s.2.2.1 (s.2.1.length) s.2.2.2), (1, .int .u64 (u)), (5, .int .i64 ((s.1 : Int) - 1))]) (fun s => Asn w0 ok0 M0 [.own 5 kByte s.2.2.1 s.2.2.2 (s.2.1)]) (fun s => s.1) ⟨Cod.beh u, b ++ [UInt8.ofNat (Cod.headB u)], a23, c23⟩ ?_ ?_ ?_ ?_
    · exact ⟨by simp [Cod.enc], Cod.beh_le u⟩
    · exact ⟨rfl, rfl, rfl, trivial⟩
    · intro w hA
      exact hA.only (is := [0]) (Z := []) rfl
    · rintro ⟨j, l, a, c⟩ hI
      (try dsimp only at hI ⊢)
      refine H_seq ?_
      refine H_seq ?_
      -- R7 codec.go:97
      refine H_region (l := [_, _]) rfl ?_
      refine HO_move rfl rfl rfl ?_
      refine HO_bin rfl rfl rfl rfl bin_geq ?_
      refine HO_nil ?_
      refine H_env (ρ' := [(27, _), (0, _), (1, _), (5, _)]) ⟨rfl, rfl, rfl, rfl, trivial⟩ ?_
      refine H_cond rfl ?_ ?_
      · intro h27
        (try simp only [decide_eq_true_eq, decide_eq_false_iff_not, Bool.not_eq_true', Bool.not_eq_false', Bool.not_eq_true, Bool.not_eq_false, Bool.true_eq_false, Bool.false_eq_true, not_false_eq_true, not_true_eq_false] at h27)
        refine H_skip ?_
        refine H_seq ?_
        refine H_block ?_
        -- R9 codec.go:98
        refine H_region (l := [_, _, _, _, _, _, _, _, _]) rfl ?_
        refine HO_move rfl rfl rfl ?_
        refine HO_move rfl rfl rfl ?_
        refine HO_move rfl rfl rfl ?_
        refine HO_bin rfl rfl rfl rfl (bin_mul ?_ ?_) ?_
        · omega
        · omega
        refine HO_bin rfl rfl rfl rfl (bin_shr' ?_ ?_) ?_
        · (simp only [IntKind.bits]; omega)
        · omega
        refine HO_conv rfl rfl rfl (cv_int Try.underlying97 Try.underlying5 (wrap_u rfl _)) ?_
        refine HO_set (v' := .int .u8 (((UInt8.ofNat (u / 2 ^ (8 * (j - 1)))).toNat : Int))) 35 rfl (by (exact byte_eq (by congr 2; omega))) ?_
        refine HO_buildSlice (kd := kByte) (xo := [_]) (vs := [_]) (cs := [_]) (xs := [_]) rfl rfl rfl rfl Try.underlying28 elt5 rfl rfl rfl (by decide) (by decide) (by simp [Value.cells]) rfl (fun _ _ _ => ⟨_, _, rfl, ⟨rfl, trivial⟩, rfl⟩) ?_
        intro g36
        refine HO_append (i := 1) (R := [_]) rfl rfl rfl rfl rfl Try.underlying28 elt5 rfl rfl (SrcOk.own (j := 0) Try.underlying28 rfl rfl) ?_ ?_
        · (simp only [List.length_cons, List.length_nil]; have := congrArg List.length hI.1; simp only [List.length_append, Cod.tailB_length, Cod.enc_length] at this; omega)
        intro a37 c37
        refine HO_assign rfl rfl rfl ?_
        refine HO_nil ?_
        refine H_env (ρ' := [(0, _), (1, _), (5, _)]) ⟨rfl, rfl, rfl, trivial⟩ ?_
        refine H_world (fun _ hA => hA.drop (is := [1]) (Y := [_]) (Z := [_]) rfl) ?_
        refine H_blk ?_
        -- R8 codec.go:97
        refine H_region (l := [_, _, _]) rfl ?_
        refine HO_move rfl rfl rfl ?_
        refine HO_bin rfl rfl rfl rfl (bin_sub ?_ ?_) ?_
        · (first | omega | assumption | decide)
        · (first | omega | assumption | decide)
        refine HO_assign rfl rfl rfl ?_
        refine HO_nil ?_
        refine H_env (ρ' := [(5, _), (0, _), (1, _)]) ⟨rfl, rfl, rfl, trivial⟩ ?_
        refine H_inv (fun a w hf hA => ⟨⟨j - 1, l ++ [UInt8.ofNat (u / 2 ^ (8 * (j - 1)))], a37, c37⟩, ?_, ?_, hf.sub ?_, ?_⟩)
        · exact ⟨by obtain ⟨j', rfl⟩ : ∃ m, j = m + 1 := ⟨j - 1, by omega⟩; simpa [Cod.tailB] using hI.1, by omega⟩
        · (try dsimp only); omega
        · exact ⟨rfl, rfl, congrArg (fun z => some (Value.int .i64 z)) (by omega), trivial⟩
        · exact hA.only (is := [0]) (Z := []) rfl
      · intro h27
        (try simp only [decide_eq_true_eq, decide_eq_false_iff_not, Bool.not_eq_true', Bool.not_eq_false', Bool.not_eq_true, Bool.not_eq_false, Bool.true_eq_false, Bool.false_eq_true, not_false_eq_true, not_true_eq_false] at h27)
        refine H_exit rfl ?_
        refine H_seq ?_
        -- R10 codec.go:100
        refine H_region (l := [_, _]) rfl ?_
        refine HO_move rfl rfl rfl ?_
        refine HO_assign rfl rfl rfl ?_
        refine HO_nil ?_
        refine H_env (ρ' := [(4, _)]) ⟨rfl, trivial⟩ ?_
        obtain rfl : j = 0 := by omega
        have hI1 := hI.1
        simp only [Cod.tailB, List.append_nil] at hI1
        subst hI1
        -- end1
        refine H_ret1 Try.results123 (.tmp rfl) (fun w hA => ⟨(a, c), congrArg Ending.returned ?_, ?_, ?_⟩)
        · rfl
        · trivial
        · exact hA.only (is := [0]) (Z := []) rfl
  · intro h12
    (try simp only [decide_eq_true_eq, decide_eq_false_iff_not, Bool.not_eq_true', Bool.not_eq_false', Bool.not_eq_true, Bool.not_eq_false, Bool.true_eq_false, Bool.false_eq_true, not_false_eq_true, not_true_eq_false] at h12)
    refine H_skip ?_
    refine H_seq ?_
    -- R5 codec.go:96
    refine H_set (v' := .int .u8 ((UInt8.ofNat (Cod.headB u)).toNat : Int)) 6 rfl (by (first | exact head_set1 (by omega) (by omega) | exact head_set2 (by omega))) ?_
    refine H_region (l := [_, _, _, _, _]) rfl ?_
    refine HO_move rfl rfl rfl ?_
    refine HO_move rfl rfl rfl ?_
    refine HO_buildSlice (kd := kByte) (xo := [_]) (vs := [_]) (cs := [_]) (xs := [_]) rfl rfl rfl rfl Try.underlying28 elt5 rfl rfl rfl (by decide) (by decide) (by simp [Value.cells]) rfl (fun _ _ _ => ⟨_, _, rfl, ⟨rfl, trivial⟩, rfl⟩) ?_
    intro g22
    refine HO_append (i := 1) (R := [_]) rfl rfl rfl rfl rfl Try.underlying28 elt5 rfl rfl (SrcOk.own (j := 0) Try.underlying28 rfl rfl) ?_ ?_
    · (simp only [List.length_cons, List.length_nil]; omega)
    intro a23 c23
    refine HO_assign rfl rfl rfl ?_
    refine HO_nil ?_
    refine H_env (ρ' := [(0, _), (5, _), (1, _)]) ⟨rfl, rfl, rfl, trivial⟩ ?_
    refine H_world (fun _ hA => hA.drop (is := [1]) (Y := [_]) (Z := [_]) rfl) ?_
    refine H_seq ?_
    refine H_seq ?_
    -- R6 codec.go:97
    refine H_region (l := [_, _, _]) rfl ?_
    refine HO_move rfl rfl rfl ?_
    refine HO_bin rfl rfl rfl rfl (bin_sub ?_ ?_) ?_
    · (first | omega | assumption | decide)
    · (first | omega | assumption | decide)
    refine HO_assign rfl rfl rfl ?_
    refine HO_nil ?_
    refine H_env (ρ' := [(5, _), (0, _), (1, _)]) ⟨rfl, rfl, rfl, trivial⟩ ?_
    refine H_block ?_
    refine H_loop (σ := Nat × List UInt8 × Option Addr × Nat) (fun s => s.2.1 ++ Cod.tailB u s.1 = b ++ Cod.enc u ∧ s.1 ≤ 8) (fun s => [(0, .slice s.2.2.1 (s.2.1.length) s.2.2.2), (1, .int .u64 (u)), (5, .int .i64 ((s.1 : Int) - 1))]) (fun s => Asn w0 ok0 M0 [.own 5 kByte s.2.2.1 s.2.2.2 (s.2.1)]) (fun s => s.1) ⟨Cod.beh u, b ++ [UInt8.ofNat (Cod.headB u)], a23, c23⟩ ?_ ?_ ?_ ?_
    · exact ⟨by simp [Cod.enc], Cod.beh_le u⟩
    · exact ⟨rfl, rfl, rfl, trivial⟩
    · intro w hA
      exact hA.only (is := [0]) (Z := []) rfl
    · rintro ⟨j, l, a, c⟩ hI
      (try dsimp only at hI ⊢)
      refine H_seq ?_
      refine H_seq ?_
      -- R7 codec.go:97
      refine H_region (l := [_, _]) rfl ?_
      refine HO_move rfl rfl rfl ?_
      refine HO_bin rfl rfl rfl rfl bin_geq ?_
      refine HO_nil ?_
      refine H_env (ρ' := [(27, _), (0, _), (1, _), (5, _)]) ⟨rfl, rfl, rfl, rfl, trivial⟩ ?_
      refine H_cond rfl ?_ ?_
      · intro h27
        (try simp only [decide_eq_true_eq, decide_eq_false_iff_not, Bool.not_eq_true', Bool.not_eq_false', Bool.not_eq_true, Bool.not_eq_false, Bool.true_eq_false, Bool.false_eq_true, not_false_eq_true, not_true_eq_false] at h27)
        refine H_skip ?_
        refine H_seq ?_
        refine H_block ?_
        -- R9 codec.go:98
        refine H_region (l := [_, _, _, _, _, _, _, _, _]) rfl ?_
        refine HO_move rfl rfl rfl ?_
        refine HO_move rfl rfl rfl ?_
        refine HO_move rfl rfl rfl ?_
        refine HO_bin rfl rfl rfl rfl (bin_mul ?_ ?_) ?_
        · omega
        · omega
        refine HO_bin rfl rfl rfl rfl (bin_shr' ?_ ?_) ?_
        · (simp only [IntKind.bits]; omega)
        · omega
        refine HO_conv rfl rfl rfl (cv_int Try.underlying97 Try.underlying5 (wrap_u rfl _)) ?_
        refine HO_set (v' := .int .u8 (((UInt8.ofNat (u / 2 ^ (8 * (j - 1)))).toNat : Int))) 35 rfl (by (exact byte_eq (by congr 2; omega))) ?_
        refine HO_buildSlice (kd := kByte) (xo := [_]) (vs := [_]) (cs := [_]) (xs := [_]) rfl rfl rfl rfl Try.underlying28 elt5 rfl rfl rfl (by decide) (by decide) (by simp [Value.cells]) rfl (fun _ _ _ => ⟨_, _, rfl, ⟨rfl, trivial⟩, rfl⟩) ?_
        intro g36
        refine HO_append (i := 1) (R := [_]) rfl rfl rfl rfl rfl Try.underlying28 elt5 rfl rfl (SrcOk.own (j := 0) Try.underlying28 rfl rfl) ?_ ?_
        · (simp only [List.length_cons, List.length_nil]; have := congrArg List.length hI.1; simp only [List.length_append, Cod.tailB_length, Cod.enc_length] at this; omega)
        intro a37 c37
        refine HO_assign rfl rfl rfl ?_
        refine HO_nil ?_
        refine H_env (ρ' := [(0, _), (1, _), (5, _)]) ⟨rfl, rfl, rfl, trivial⟩ ?_
        refine H_world (fun _ hA => hA.drop (is := [1]) (Y := [_]) (Z := [_]) rfl) ?_
        refine H_blk ?_
        -- R8 codec.go:97
        refine H_region (l := [_, _, _]) rfl ?_
        refine HO_move rfl rfl rfl ?_
        refine HO_bin rfl rfl rfl rfl (bin_sub ?_ ?_) ?_
        · (first | omega | assumption | decide)
        · (first | omega | assumption | decide)
        refine HO_assign rfl rfl rfl ?_
        refine HO_nil ?_
        refine H_env (ρ' := [(5, _), (0, _), (1, _)]) ⟨rfl, rfl, rfl, trivial⟩ ?_
        refine H_inv (fun a w hf hA => ⟨⟨j - 1, l ++ [UInt8.ofNat (u / 2 ^ (8 * (j - 1)))], a37, c37⟩, ?_, ?_, hf.sub ?_, ?_⟩)
        · exact ⟨by obtain ⟨j', rfl⟩ : ∃ m, j = m + 1 := ⟨j - 1, by omega⟩; simpa [Cod.tailB] using hI.1, by omega⟩
        · (try dsimp only); omega
        · exact ⟨rfl, rfl, congrArg (fun z => some (Value.int .i64 z)) (by omega), trivial⟩
        · exact hA.only (is := [0]) (Z := []) rfl
      · intro h27
        (try simp only [decide_eq_true_eq, decide_eq_false_iff_not, Bool.not_eq_true', Bool.not_eq_false', Bool.not_eq_true, Bool.not_eq_false, Bool.true_eq_false, Bool.false_eq_true, not_false_eq_true, not_true_eq_false] at h27)
        refine H_exit rfl ?_
        refine H_seq ?_
        -- R10 codec.go:100
        refine H_region (l := [_, _]) rfl ?_
        refine HO_move rfl rfl rfl ?_
        refine HO_assign rfl rfl rfl ?_
        refine HO_nil ?_
        refine H_env (ρ' := [(4, _)]) ⟨rfl, trivial⟩ ?_
        obtain rfl : j = 0 := by omega
        have hI1 := hI.1
        simp only [Cod.tailB, List.append_nil] at hI1
        subst hI1
        -- end2
        refine H_ret1 Try.results123 (.tmp rfl) (fun w hA => ⟨(a, c), congrArg Ending.returned ?_, ?_, ?_⟩)
        · rfl
        · trivial
        · exact hA.only (is := [0]) (Z := []) rfl
theorem Put_spec (b : List UInt8) (u : Nat) (a : Option Addr) (c : Nat) (hu : u < 18446744073709551616) (hb : b.length ≤ 1099511627776) : Spec Try.prog 67 #[.slice a (b.length) c, .int .u64 (u)] [.dat kByte.sl (b) [.slice a (b.length) c]] (β := Option Addr × Nat) (fun y => .slice y.1 ((b ++ Cod.enc u).length) y.2) (fun y => True) (fun y => [.own 5 kByte y.1 y.2 (b ++ Cod.enc u)]) := by
  refine Spec.enter (vs := [_, _]) Try.func67 rfl Try.ntmps67 rfl (Nat.le_of_ble_eq_true rfl) (fun w0 ok0 => ?_)
  generalize hM0 : blks _ = M0
  have hMn : ∀ {R : List Atom} (b : Nat), M0 b → blks R b := fun b hb => absurd (hM0 ▸ hb) (blks_none (by simp [Atom.dat, Atom.elem]) b)
  refine H_seq ?_
  -- R0 codec.go:104
  refine H_region (l := [_]) rfl ?_
  refine HO_assign rfl rfl rfl ?_
  refine HO_nil ?_
  refine H_env (ρ' := [(0, _), (1, _)]) ⟨rfl, rfl, trivial⟩ ?_
  refine H_seq ?_
  -- R1 codec.go:104
  refine H_region (l := [_, _, _, _, _]) rfl ?_
  refine HO_move rfl rfl rfl ?_
  refine HO_own0 kByte 5 none ?_
  refine HO_append (i := 0) (R := [_]) rfl rfl rfl rfl rfl Try.underlying28 elt5 rfl rfl (SrcOk.dat (j := 0) Try.underlying28 rfl) ?_ ?_
  · (simp only [List.length_nil]; omega)
  intro a6 c6
  refine HO_move rfl rfl rfl ?_
  refine HO_call (first := []) (capt := []) (is := [0]) (R := [_]) rfl rfl rfl rfl rfl Try.call123 rfl (put_spec _ _ _ _ ?_ ?_) ?_
  · assumption
  · (simpa using hb)
  intro y8 hy8
  refine HO_assign rfl rfl rfl ?_
  refine HO_nil ?_
  refine H_env (ρ' := [(4, _)]) ⟨rfl, trivial⟩ ?_
  refine H_world (fun _ hA => hA.drop (is := [1]) (Y := [_]) (Z := [_]) rfl) ?_
  -- end1
  refine H_ret1 Try.results67 (.tmp rfl) (fun w hA => ⟨y8, congrArg Ending.returned ?_, ?_, ?_⟩)
  · rfl
  · trivial
  · exact hA.only (is := [0]) (Z := []) rfl
theorem text_spec (b : List UInt8) (s : ByteArray) (a : Option Addr) (c : Nat) (hs : s.size ≤ 1099511627776) (hb : b.length ≤ 1099511627776) : Spec Try.prog 125 #[.slice a (b.length) c, .string (s)] [.own 5 kByte a c (b)] (β := Option Addr × Nat) (fun y => .slice y.1 ((b ++ (Cod.enc s.size ++ s.data.toList)).length) y.2) (fun y => True) (fun y => [.own 5 kByte y.1 y.2 (b ++ (Cod.enc s.size ++ s.data.toList))]) := by
  refine Spec.enter (vs := [_, _]) Try.func125 rfl Try.ntmps125 rfl (Nat.le_of_ble_eq_true rfl) (fun w0 ok0 => ?_)
  generalize hM0 : blks _ = M0
  refine H_seq ?_
  -- R0 codec.go:125
  refine H_region (l := [_]) rfl ?_
  refine HO_assign rfl rfl rfl ?_
  refine HO_nil ?_
  refine H_env (ρ' := [(0, _), (1, _)]) ⟨rfl, rfl, trivial⟩ ?_
  refine H_seq ?_
  -- R1 codec.go:125
  refine H_region (l := [_, _, _, _, _, _, _, _]) rfl ?_
  refine HO_move rfl rfl rfl ?_
  refine HO_move rfl rfl rfl ?_
  refine HO_bi rfl rfl rfl (bi_len_str Try.underlying9) ?_
  refine HO_conv rfl rfl rfl (cv_int Try.underlying3 Try.underlying97 (wrap_u_i rfl _)) ?_
  refine HO_set (v' := .int .u64 ((s.size : Int))) 8 rfl (by exact congrArg (Value.int .u64) (by simp only [IntKind.bits]; omega)) ?_
  refine HO_call (first := []) (capt := []) (is := [0]) (R := []) rfl rfl rfl rfl rfl Try.call123 rfl (put_spec _ _ _ _ ?_ ?_) ?_
  · omega
  · assumption
  intro y9 hy9
  refine HO_move rfl rfl rfl ?_
  refine HO_append (i := 0) (R := []) rfl rfl rfl rfl rfl Try.underlying28 elt5 rfl rfl (SrcOk.str Try.underlying9) ?_ ?_
  · (have := Cod.enc_length s.size; have := Cod.beh_le s.size; have hss : s.data.toList.length = s.size := Array.length_toList; simp only [List.length_append]; omega)
  intro a11 c11
  refine HO_assign rfl rfl rfl ?_
  refine HO_nil ?_
  refine H_env (ρ' := [(4, _)]) ⟨rfl, trivial⟩ ?_
  -- end1
  refine H_ret1 Try.results125 (.tmp rfl) (fun w hA => ⟨(a11, c11), congrArg Ending.returned ?_, ?_, ?_⟩)
  · simp [List.append_assoc]
  · trivial
  · exact (hA.only (is := [0]) (Z := []) rfl).cast (by simp [List.append_assoc])
theorem PutText_spec (b : List UInt8) (s : ByteArray) (a : Option Addr) (c : Nat) (hs : s.size ≤ 1099511627776) (hb : b.length ≤ 1099511627776) : Spec Try.prog 69 #[.slice a (b.length) c, .string (s)] [.dat kByte.sl (b) [.slice a (b.length) c]] (β := Option Addr × Nat) (fun y => .slice y.1 ((b ++ (Cod.enc s.size ++ s.data.toList)).length) y.2) (fun y => True) (fun y => [.own 5 kByte y.1 y.2 (b ++ (Cod.enc s.size ++ s.data.toList))]) := by
  refine Spec.enter (vs := [_, _]) Try.func69 rfl Try.ntmps69 rfl (Nat.le_of_ble_eq_true rfl) (fun w0 ok0 => ?_)
  generalize hM0 : blks _ = M0
  have hMn : ∀ {R : List Atom} (b : Nat), M0 b → blks R b := fun b hb => absurd (hM0 ▸ hb) (blks_none (by simp [Atom.dat, Atom.elem]) b)
  refine H_seq ?_
  -- R0 codec.go:128
  refine H_region (l := [_]) rfl ?_
  refine HO_assign rfl rfl rfl ?_
  refine HO_nil ?_
  refine H_env (ρ' := [(0, _), (1, _)]) ⟨rfl, rfl, trivial⟩ ?_
  refine H_seq ?_
  -- R1 codec.go:128
  refine H_region (l := [_, _, _, _, _]) rfl ?_
  refine HO_move rfl rfl rfl ?_
  refine HO_own0 kByte 5 none ?_
  refine HO_append (i := 0) (R := [_]) rfl rfl rfl rfl rfl Try.underlying28 elt5 rfl rfl (SrcOk.dat (j := 0) Try.underlying28 rfl) ?_ ?_
  · (simp only [List.length_nil]; omega)
  intro a6 c6
  refine HO_move rfl rfl rfl ?_
  refine HO_call (first := []) (capt := []) (is := [0]) (R := [_]) rfl rfl rfl rfl rfl Try.call125 rfl (text_spec _ _ _ _ ?_ ?_) ?_
  · assumption
  · (simpa using hb)
  intro y8 hy8
  refine HO_assign rfl rfl rfl ?_
  refine HO_nil ?_
  refine H_env (ρ' := [(4, _)]) ⟨rfl, trivial⟩ ?_
  refine H_world (fun _ hA => hA.drop (is := [1]) (Y := [_]) (Z := [_]) rfl) ?_
  -- end1
  refine H_ret1 Try.results69 (.tmp rfl) (fun w hA => ⟨y8, congrArg Ending.returned ?_, ?_, ?_⟩)
  · rfl
  · trivial
  · exact hA.only (is := [0]) (Z := []) rfl
end Go.Wk
