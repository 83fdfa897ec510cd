/- Contracts of the program's functions, each proved by walking its code. -/
import Derived.Test.YtbbcndjahjpdjaaKalaw01
import Derived.Test.YtbbcndjahjpdjaaCod3
import Derived.Test.YtbbcndjahjpdjaaWk13
set_option maxRecDepth 100000
set_option linter.unusedVariables false
set_option linter.unusedSimpArgs false
namespace Go.Wk.Flaw01c
open Go Go.RowKit Go.Proofs Go.Wk
theorem elt5 : Elt Try.prog 5 (.int .u8 (0)) 1 1 := Elt.of (by kernel_rfl) (by rfl) (by decide) (by decide)
end Go.Wk.Flaw01c
namespace Go.Wk
open Go Go.RowKit Go.Proofs Flaw01c 
theorem CodecShort_spec (u : Nat) (hu : u < 18446744073709551616) : Spec Try.prog 5 #[.int .u64 (u)] [] (β := Unit) (fun y => .bool (true)) (fun y => True) (fun y => []) := by
  have hk8 := Cod.beh_le u
  have hel : (Cod.enc u).length = Cod.beh u + 1 := Cod.enc_length u
  refine Spec.enter (vs := [_]) Try.func5 rfl Try.ntmps5 rfl (Nat.le_of_ble_eq_true rfl) (fun w0 ok0 => ?_)
  generalize hM0 : blks _ = M0
  have hMn : ∀ {R : List Atom} (b : Nat), M0 b → blks R b := fun b hb => absurd (hM0 ▸ hb) (blks_none (by simp [Atom.dat, Atom.elem]) b)
  refine H_seq ?_
  -- R0 law.go:117
  refine H_region (l := [_]) rfl ?_
  refine HO_assign rfl rfl rfl ?_
  refine HO_nil ?_
  refine H_env (ρ' := [(0, _)]) ⟨rfl, trivial⟩ ?_
  refine H_seq ?_
  -- R1 law.go:118
  refine H_region (l := [_, _, _]) rfl ?_
  refine HO_move rfl rfl rfl ?_
  refine HO_nilDat kByte ?_
  refine HO_dup (i := 0) rfl rfl ?_
  refine HO_call (first := []) (capt := []) (is := [0]) (R := [_]) rfl rfl rfl rfl rfl Try.call19 rfl (Put_spec _ _ _ _ ?_ ?_) ?_
  · assumption
  · decide
  intro y16 hy16
  refine HO_assign rfl rfl rfl ?_
  refine HO_nil ?_
  refine H_env (ρ' := [(3, _), (0, _)]) ⟨rfl, rfl, trivial⟩ ?_
  refine H_world (fun _ hA => hA.drop (is := [1]) (Y := [_]) (Z := [_]) rfl) ?_
  refine H_seq ?_
  -- R2 law.go:119
  refine H_region (l := [_]) rfl ?_
  refine HO_assign rfl rfl rfl ?_
  refine HO_nil ?_
  refine H_seq ?_
  refine H_seq ?_
  -- R3 law.go:120
  refine H_region (l := [_, _, _]) rfl ?_
  refine HO_move rfl rfl rfl ?_
  refine HO_bin rfl rfl rfl rfl (bin_shr (s := 7) ?_) ?_
  · (simp only [IntKind.bits]; omega)
  refine HO_assign rfl rfl rfl ?_
  refine HO_nil ?_
  refine H_env (ρ' := [(5, _), (4, _), (3, _), (0, _)]) ⟨rfl, rfl, rfl, rfl, trivial⟩ ?_
  refine H_block ?_
  refine H_loop (σ := Nat) (fun s => s ≤ Cod.beh u ∧ s ≤ 8) (fun s => [(0, .int .u64 (u)), (3, .slice y16.1 (([] ++ Cod.enc u).length) y16.2), (4, .int .i64 ((s : Int) + 1)), (5, .int .u64 (((u / 2 ^ (7 * (s + 1)) : Nat) : Int)))]) (fun s => Asn w0 ok0 M0 [.own 5 kByte y16.1 y16.2 ([] ++ Cod.enc u)]) (fun s => 8 - s) 0 ?_ ?_ ?_ ?_
  · exact ⟨Nat.zero_le _, Nat.zero_le _⟩
  · exact ⟨rfl, rfl, rfl, rfl, trivial⟩
  · intro w hA
    exact hA.only (is := [0]) (Z := []) rfl
  · intro j hI
    (try dsimp only at hI ⊢)
    refine H_seq ?_
    refine H_seq ?_
    -- R4 law.go:120
    refine H_region (l := [_, _, _, _, _, _]) rfl ?_
    refine HO_move rfl rfl rfl ?_
    refine HO_bin rfl rfl rfl rfl bin_gtr ?_
    refine HO_move rfl rfl rfl ?_
    refine HO_split (d := 21) rfl ?_ ?_
    · intro h21
      (try simp only [decide_eq_true_eq, decide_eq_false_iff_not, Bool.not_eq_true', Bool.not_eq_false', Bool.not_eq_true, Bool.not_eq_false, Bool.true_eq_false, Bool.false_eq_true, not_false_eq_true, not_true_eq_false] at h21)
      refine HO_move rfl rfl rfl ?_
      refine HO_bin rfl rfl rfl rfl bin_lss ?_
      refine HO_pick_t rfl rfl rfl rfl ?_
      refine HO_nil ?_
      refine H_env (ρ' := [(24, _), (0, _), (3, _), (4, _), (5, _)]) ⟨rfl, rfl, rfl, rfl, rfl, trivial⟩ ?_
      refine H_cond rfl ?_ ?_
      · intro h24
        (try simp only [decide_eq_true_eq, decide_eq_false_iff_not, Bool.not_eq_true', Bool.not_eq_false', Bool.not_eq_true, Bool.not_eq_false, Bool.true_eq_false, Bool.false_eq_true, not_false_eq_true, not_true_eq_false] at h24)
        refine H_skip ?_
        refine H_seq ?_
        refine H_block ?_
        -- R6 law.go:121
        have hj1 := Cod.short_go hu hI.1 (by omega) (Int.ofNat_lt.1 h21)
        refine H_region (l := [_, _, _]) rfl ?_
        refine HO_move rfl rfl rfl ?_
        refine HO_bin rfl rfl rfl rfl (bin_add ?_ ?_) ?_
        · omega
        · omega
        refine HO_assign rfl rfl rfl ?_
        refine HO_nil ?_
        refine H_env (ρ' := [(4, _), (0, _), (3, _), (5, _)]) ⟨rfl, rfl, rfl, rfl, trivial⟩ ?_
        refine H_blk ?_
        -- R5 law.go:120
        refine H_region (l := [_, _, _]) rfl ?_
        refine HO_move rfl rfl rfl ?_
        refine HO_bin rfl rfl rfl rfl (bin_shr (s := 7) ?_) ?_
        · (exact Cod.div_lt64 hu _)
        refine HO_assign rfl rfl rfl ?_
        refine HO_nil ?_
        refine H_env (ρ' := [(5, _), (4, _), (0, _), (3, _)]) ⟨rfl, rfl, rfl, rfl, trivial⟩ ?_
        refine H_inv (fun a w hf hA => ⟨j + 1, ?_, ?_, hf.sub ?_, ?_⟩)
        · exact ⟨hj1, by omega⟩
        · (try dsimp only); omega
        · exact ⟨rfl, rfl, congrArg (fun z => some (Value.int .i64 z)) (by omega), congrArg (fun m : Nat => some (Value.int .u64 (m : Int))) (Cod.div7 u j), trivial⟩
        · exact hA.only (is := [0]) (Z := []) rfl
      · intro h24
        (try simp only [decide_eq_true_eq, decide_eq_false_iff_not, Bool.not_eq_true', Bool.not_eq_false', Bool.not_eq_true, Bool.not_eq_false, Bool.true_eq_false, Bool.false_eq_true, not_false_eq_true, not_true_eq_false] at h24)
        refine H_exit rfl ?_
        refine H_seq ?_
        -- R7 law.go:123
        obtain rfl : j = Cod.beh u := by first | exact Cod.short_end hu hI.1 hI.2 h21 | omega
        refine H_region (l := [_, _, _, _, _, _, _, _, _, _, _]) rfl ?_
        refine HO_buildSlice0 (kd := kByte) rfl rfl Try.underlying28 elt5 ?_
        intro g30
        refine HO_move rfl rfl rfl ?_
        refine HO_append (i := 0) (R := [_]) rfl rfl rfl rfl rfl Try.underlying28 elt5 rfl rfl (SrcOk.own (j := 0) Try.underlying28 rfl rfl) ?_ ?_
        · (simp; omega)
        intro a32 c32
        refine HO_buildSlice (kd := kByte) (xo := [_, _]) (vs := [_, _]) (cs := [_, _]) (xs := [(255 : UInt8), 1]) rfl rfl rfl rfl Try.underlying28 elt5 rfl rfl rfl (by decide) (by decide) (by simp [Value.cells]) rfl (fun _ _ _ => ⟨_, _, rfl, ⟨rfl, trivial⟩, ⟨_, _, rfl, ⟨rfl, trivial⟩, rfl⟩⟩) ?_
        intro g33
        refine HO_append (i := 1) (R := [_, _]) rfl rfl rfl rfl rfl Try.underlying28 elt5 rfl rfl (SrcOk.own (j := 0) Try.underlying28 rfl rfl) ?_ ?_
        · (simp; omega)
        intro a34 c34
        refine HO_call (first := []) (capt := []) (is := [0]) (R := [_, _]) rfl rfl rfl rfl rfl Try.call21 rfl (Spec.lend (pre1 := []) (pre2 := []) (Get_spec _ _ _) rfl (fun _ _ ha => nomatch ha)) ?_
        intro y35 hy35
        clear y35 hy35
        refine HO_move rfl rfl rfl ?_
        refine HO_extract (vs := [_, _]) rfl rfl rfl rfl ?_
        refine HO_extract (vs := [_, _]) rfl rfl rfl rfl ?_
        refine HO_assign rfl rfl rfl ?_
        refine HO_assign rfl rfl rfl ?_
        refine HO_nil ?_
        refine H_env (ρ' := [(7, _), (6, _), (0, _), (3, _), (4, _)]) ⟨rfl, rfl, rfl, rfl, rfl, trivial⟩ ?_
        refine H_world (fun _ hA => hA.drop (is := [0, 1]) (Y := [_, _]) (Z := [_]) rfl) ?_
        refine H_seq ?_
        refine H_seq ?_
        -- R8 law.go:124
        rw [Cod.dec_short hu]
        refine H_region (l := [_, _, _, _, _, _, _, _, _, _, _, _, _, _]) rfl ?_
        refine HO_move rfl rfl rfl ?_
        refine HO_bi rfl rfl rfl (bi_len_sl Try.underlying28) ?_
        refine HO_move rfl rfl rfl ?_
        refine HO_bin rfl rfl rfl rfl bin_neq ?_
        refine HO_move rfl rfl rfl ?_
        refine HO_split (d := 42) rfl ?_ ?_
        · intro h42
          (try simp only [decide_eq_true_eq, decide_eq_false_iff_not, Bool.not_eq_true', Bool.not_eq_false', Bool.not_eq_true, Bool.not_eq_false, Bool.true_eq_false, Bool.false_eq_true, not_false_eq_true, not_true_eq_false] at h42)
          (exfalso; simp at h42; omega)
        · intro h42
          (try simp only [decide_eq_true_eq, decide_eq_false_iff_not, Bool.not_eq_true', Bool.not_eq_false', Bool.not_eq_true, Bool.not_eq_false, Bool.true_eq_false, Bool.false_eq_true, not_false_eq_true, not_true_eq_false] at h42)
          refine HO_move rfl rfl rfl ?_
          refine HO_move rfl rfl rfl ?_
          refine HO_bin rfl rfl rfl rfl bin_neq ?_
          refine HO_pick_f rfl rfl rfl rfl ?_
          refine HO_move rfl rfl rfl ?_
          refine HO_split (d := 47) rfl ?_ ?_
          · intro h47
            (try simp only [decide_eq_true_eq, decide_eq_false_iff_not, Bool.not_eq_true', Bool.not_eq_false', Bool.not_eq_true, Bool.not_eq_false, Bool.true_eq_false, Bool.false_eq_true, not_false_eq_true, not_true_eq_false] at h47)
            (exact absurd rfl h47)
          · intro h47
            (try simp only [decide_eq_true_eq, decide_eq_false_iff_not, Bool.not_eq_true', Bool.not_eq_false', Bool.not_eq_true, Bool.not_eq_false, Bool.true_eq_false, Bool.false_eq_true, not_false_eq_true, not_true_eq_false] at h47)
            refine HO_move rfl rfl rfl ?_
            refine HO_move rfl rfl rfl ?_
            refine HO_bin rfl rfl rfl rfl bin_neq ?_
            refine HO_pick_f rfl rfl rfl rfl ?_
            refine HO_nil ?_
            refine H_env (ρ' := [(51, _), (0, _), (3, _), (4, _)]) ⟨rfl, rfl, rfl, rfl, trivial⟩ ?_
            refine H_cond rfl ?_ ?_
            · intro h51
              (try simp only [decide_eq_true_eq, decide_eq_false_iff_not, Bool.not_eq_true', Bool.not_eq_false', Bool.not_eq_true, Bool.not_eq_false, Bool.true_eq_false, Bool.false_eq_true, not_false_eq_true, not_true_eq_false] at h51)
              (exact absurd rfl h51)
            · intro h51
              (try simp only [decide_eq_true_eq, decide_eq_false_iff_not, Bool.not_eq_true', Bool.not_eq_false', Bool.not_eq_true, Bool.not_eq_false, Bool.true_eq_false, Bool.false_eq_true, not_false_eq_true, not_true_eq_false] at h51)
              refine H_skip ?_
              refine H_seq ?_
              refine H_seq ?_
              -- R10 law.go:127
              refine H_freeze (i := 0) (R := []) rfl hMn ?_
              refine H_region (l := [_]) rfl ?_
              refine HO_assign rfl rfl rfl ?_
              refine HO_nil ?_
              refine H_env (ρ' := [(8, _), (0, _), (3, _), (4, _)]) ⟨rfl, rfl, rfl, rfl, trivial⟩ ?_
              refine H_block ?_
              refine H_loop (σ := Nat) (fun s => s ≤ Cod.beh u + 1) (fun s => [(0, .int .u64 (u)), (3, .slice y16.1 (([] ++ Cod.enc u).length) y16.2), (4, .int .i64 ((Cod.beh u : Int) + 1)), (8, .int .i64 ((s : Int)))]) (fun s => Asn w0 ok0 M0 [.dat kByte.sl ([] ++ Cod.enc u) [.slice y16.1 (([] ++ Cod.enc u).length) y16.2]]) (fun s => Cod.beh u + 1 - s) 0 ?_ ?_ ?_ ?_
              · exact Nat.zero_le _
              · exact ⟨rfl, rfl, rfl, rfl, trivial⟩
              · intro w hA
                exact hA.only (is := [0]) (Z := []) rfl
              · intro i hI
                (try dsimp only at hI ⊢)
                refine H_seq ?_
                refine H_seq ?_
                -- R11 law.go:127
                refine H_region (l := [_, _, _]) rfl ?_
                refine HO_move rfl rfl rfl ?_
                refine HO_move rfl rfl rfl ?_
                refine HO_bin rfl rfl rfl rfl bin_lss ?_
                refine HO_nil ?_
                refine H_env (ρ' := [(54, _), (0, _), (3, _), (4, _), (8, _)]) ⟨rfl, rfl, rfl, rfl, rfl, trivial⟩ ?_
                refine H_cond rfl ?_ ?_
                · intro h54
                  (try simp only [decide_eq_true_eq, decide_eq_false_iff_not, Bool.not_eq_true', Bool.not_eq_false', Bool.not_eq_true, Bool.not_eq_false, Bool.true_eq_false, Bool.false_eq_true, not_false_eq_true, not_true_eq_false] at h54)
                  refine H_skip ?_
                  refine H_seq ?_
                  refine H_block ?_
                  refine H_seq ?_
                  -- R13 law.go:128
                  refine H_region (l := [_, _, _, _, _, _, _, _, _]) rfl ?_
                  refine HO_move rfl rfl rfl ?_
                  refine HO_move rfl rfl rfl ?_
                  refine HO_slice_h (i := 0) rfl rfl rfl rfl rfl Try.underlying28 Try.sizeOf5 rfl ?_ ?_
                  · omega
                  intro a60 c60
                  refine HO_dup (i := 0) rfl rfl ?_
                  refine HO_call (first := []) (capt := []) (is := [0]) (R := [_, _]) rfl rfl rfl rfl rfl Try.call21 rfl (Get_spec _ _ _) ?_
                  intro y61 hy61
                  clear y61 hy61
                  refine HO_move rfl rfl rfl ?_
                  refine HO_extract (vs := [_, _]) rfl rfl rfl rfl ?_
                  refine HO_extract (vs := [_, _]) rfl rfl rfl rfl ?_
                  refine HO_assign rfl rfl rfl ?_
                  refine HO_assign rfl rfl rfl ?_
                  refine HO_nil ?_
                  refine H_env (ρ' := [(10, _), (0, _), (3, _), (4, _), (8, _)]) ⟨rfl, rfl, rfl, rfl, rfl, trivial⟩ ?_
                  refine H_world (fun _ hA => hA.drop (is := [0]) (Y := [_]) (Z := [_]) rfl) ?_
                  refine H_seq ?_
                  -- R14 law.go:128
                  refine H_region (l := [_, _]) rfl ?_
                  refine HO_move rfl rfl rfl ?_
                  refine HO_bin rfl rfl rfl rfl bin_neq ?_
                  refine HO_nil ?_
                  refine H_env (ρ' := [(65, _), (0, _), (3, _), (4, _), (8, _)]) ⟨rfl, rfl, rfl, rfl, rfl, trivial⟩ ?_
                  refine H_cond rfl ?_ ?_
                  · intro h65
                    (try simp only [decide_eq_true_eq, decide_eq_false_iff_not, Bool.not_eq_true', Bool.not_eq_false', Bool.not_eq_true, Bool.not_eq_false, Bool.true_eq_false, Bool.false_eq_true, not_false_eq_true, not_true_eq_false] at h65)
                    (rw [Cod.early hu (by omega)] at h65; exact absurd rfl h65)
                  · intro h65
                    (try simp only [decide_eq_true_eq, decide_eq_false_iff_not, Bool.not_eq_true', Bool.not_eq_false', Bool.not_eq_true, Bool.not_eq_false, Bool.true_eq_false, Bool.false_eq_true, not_false_eq_true, not_true_eq_false] at h65)
                    refine H_skip ?_
                    refine H_blk ?_
                    -- R12 law.go:127
                    refine H_region (l := [_, _, _]) rfl ?_
                    refine HO_move rfl rfl rfl ?_
                    refine HO_bin rfl rfl rfl rfl (bin_add ?_ ?_) ?_
                    · omega
                    · omega
                    refine HO_assign rfl rfl rfl ?_
                    refine HO_nil ?_
                    refine H_env (ρ' := [(8, _), (0, _), (3, _), (4, _)]) ⟨rfl, rfl, rfl, rfl, trivial⟩ ?_
                    refine H_inv (fun a w hf hA => ⟨i + 1, ?_, ?_, hf.sub ?_, ?_⟩)
                    · omega
                    · (try dsimp only); omega
                    · exact ⟨rfl, rfl, rfl, rfl, trivial⟩
                    · exact hA.only (is := [0]) (Z := []) rfl
                · intro h54
                  (try simp only [decide_eq_true_eq, decide_eq_false_iff_not, Bool.not_eq_true', Bool.not_eq_false', Bool.not_eq_true, Bool.not_eq_false, Bool.true_eq_false, Bool.false_eq_true, not_false_eq_true, not_true_eq_false] at h54)
                  refine H_exit rfl ?_
                  refine H_seq ?_
                  refine H_seq ?_
                  -- R16 law.go:132
                  refine H_region (l := [_, _, _, _, _, _]) rfl ?_
                  refine HO_move rfl rfl rfl ?_
                  refine HO_bin rfl rfl rfl rfl bin_lss ?_
                  refine HO_move rfl rfl rfl ?_
                  refine HO_split (d := 68) rfl ?_ ?_
                  · intro h68
                    (try simp only [decide_eq_true_eq, decide_eq_false_iff_not, Bool.not_eq_true', Bool.not_eq_false', Bool.not_eq_true, Bool.not_eq_false, Bool.true_eq_false, Bool.false_eq_true, not_false_eq_true, not_true_eq_false] at h68)
                    refine HO_move rfl rfl rfl ?_
                    refine HO_bin rfl rfl rfl rfl bin_gtr ?_
                    refine HO_pick_t rfl rfl rfl rfl ?_
                    refine HO_nil ?_
                    refine H_env (ρ' := [(71, _), (0, _)]) ⟨rfl, rfl, trivial⟩ ?_
                    refine H_world (fun _ hA => hA.drop (is := [0]) (Y := [_]) (Z := []) rfl) ?_
                    refine H_cond rfl ?_ ?_
                    · intro h71
                      (try simp only [decide_eq_true_eq, decide_eq_false_iff_not, Bool.not_eq_true', Bool.not_eq_false', Bool.not_eq_true, Bool.not_eq_false, Bool.true_eq_false, Bool.false_eq_true, not_false_eq_true, not_true_eq_false] at h71)
                      refine H_seq ?_
                      -- R17 law.go:133
                      have hb8 : Cod.beh u ≠ 8 := by omega
                      refine H_region (l := [_, _, _]) rfl ?_
                      refine HO_buildSlice (kd := kByte) (xo := [_]) (vs := [_]) (cs := [_]) (xs := [(255 : UInt8)]) rfl rfl rfl rfl Try.underlying28 elt5 rfl rfl rfl (by decide) (by decide) (by simp [Value.cells]) rfl (fun _ _ _ => ⟨_, _, rfl, ⟨rfl, trivial⟩, rfl⟩) ?_
                      intro g72
                      refine HO_appendMake (i := 0) (R := []) (mm := 8) rfl rfl rfl rfl rfl Try.underlying28 elt5 Try.underlying3 Try.underlying9 rfl ?_ ?_ ?_
                      · (decide)
                      · decide
                      intro a73 c73
                      refine HO_assign rfl rfl rfl ?_
                      refine HO_nil ?_
                      refine H_env (ρ' := [(11, _), (0, _)]) ⟨rfl, rfl, trivial⟩ ?_
                      refine H_seq ?_
                      refine H_seq ?_
                      -- R18 law.go:134
                      refine H_region (l := [_]) rfl ?_
                      refine HO_assign rfl rfl rfl ?_
                      refine HO_nil ?_
                      refine H_block ?_
                      refine H_loop (σ := Nat) (fun s => s ≤ 8) (fun s => [(0, .int .u64 (u)), (11, .slice a73 (9) c73), (12, .int .i64 ((s : Int)))]) (fun s => Asn w0 ok0 M0 [.own 5 kByte a73 c73 ((255 :: (List.replicate (8 - s) 0 ++ Cod.tailB u s)))]) (fun s => 8 - s) 0 ?_ ?_ ?_ ?_
                      · exact Nat.zero_le _
                      · exact ⟨rfl, rfl, rfl, trivial⟩
                      · intro w hA
                        exact hA.only (is := [0]) (Z := []) rfl
                      · intro i hI
                        (try dsimp only at hI ⊢)
                        refine H_seq ?_
                        refine H_seq ?_
                        -- R19 law.go:134
                        refine H_region (l := [_, _]) rfl ?_
                        refine HO_move rfl rfl rfl ?_
                        refine HO_bin rfl rfl rfl rfl bin_lss ?_
                        refine HO_nil ?_
                        refine H_env (ρ' := [(75, _), (0, _), (11, _), (12, _)]) ⟨rfl, rfl, rfl, rfl, trivial⟩ ?_
                        refine H_cond rfl ?_ ?_
                        · intro h75
                          (try simp only [decide_eq_true_eq, decide_eq_false_iff_not, Bool.not_eq_true', Bool.not_eq_false', Bool.not_eq_true, Bool.not_eq_false, Bool.true_eq_false, Bool.false_eq_true, not_false_eq_true, not_true_eq_false] at h75)
                          refine H_skip ?_
                          refine H_seq ?_
                          refine H_block ?_
                          -- R21 law.go:135
                          refine H_region (l := [_, _, _, _, _, _, _, _, _, _, _]) rfl ?_
                          refine HO_move rfl rfl rfl ?_
                          refine HO_move rfl rfl rfl ?_
                          refine HO_bin rfl rfl rfl rfl (bin_sub ?_ ?_) ?_
                          · omega
                          · omega
                          refine HO_move rfl rfl rfl ?_
                          refine HO_move rfl rfl rfl ?_
                          refine HO_bin rfl rfl rfl rfl (bin_mul ?_ ?_) ?_
                          · omega
                          · omega
                          refine HO_conv rfl rfl rfl (cv_int Try.underlying3 Try.underlying31 (wrap_u_i rfl _)) ?_
                          refine HO_set (v' := .int .u64 (((8 * i : Nat) : Int))) 84 rfl (by exact congrArg (Value.int .u64) (by simp only [IntKind.bits]; omega)) ?_
                          refine HO_bin rfl rfl rfl rfl (bin_shr' ?_ ?_) ?_
                          · (simp only [IntKind.bits]; omega)
                          · omega
                          refine HO_conv rfl rfl rfl (cv_int Try.underlying27 Try.underlying5 (wrap_u rfl _)) ?_
                          refine HO_set (v' := .int .u8 (((UInt8.ofNat (u / 2 ^ (8 * i))).toNat : Int))) 86 rfl (by exact byte_eq rfl) ?_
                          refine HO_indexOwn (i := 0) (j := 8 - i) rfl rfl rfl rfl ?_ Try.underlying28 Try.sizeOf5 rfl (by simp [Cod.tailB_length]; omega) ?_ (Nat.mul_one _) ?_
                          · omega
                          · (simp [Cod.tailB_length]; omega)
                          intro g87 z87 hg87 hz87
                          refine HO_storeOwn (i := 0) (cs := [_]) (R := []) (z' := UInt8.ofNat (u / 2 ^ (8 * i))) rfl rfl rfl Try.sizeOf5 rfl (by simp [Value.oneCell']) rfl hg87 rfl (Nat.mul_one _) ?_ (fun _ _ _ => ⟨rfl, trivial⟩) ?_
                          · (simp [Cod.tailB_length]; omega)
                          refine HO_nil ?_
                          refine H_env (ρ' := [(0, _), (11, _), (12, _)]) ⟨rfl, rfl, rfl, trivial⟩ ?_
                          refine H_blk ?_
                          -- R20 law.go:134
                          refine H_region (l := [_, _, _]) rfl ?_
                          refine HO_move rfl rfl rfl ?_
                          refine HO_bin rfl rfl rfl rfl (bin_add ?_ ?_) ?_
                          · omega
                          · omega
                          refine HO_assign rfl rfl rfl ?_
                          refine HO_nil ?_
                          refine H_env (ρ' := [(12, _), (0, _), (11, _)]) ⟨rfl, rfl, rfl, trivial⟩ ?_
                          refine H_inv (fun a w hf hA => ⟨i + 1, ?_, ?_, hf.sub ?_, ?_⟩)
                          · omega
                          · (try dsimp only); omega
                          · exact ⟨rfl, rfl, rfl, trivial⟩
                          · rw [Cod.wide_next (by omega)]; exact hA.only (is := [0]) (Z := []) rfl
                        · intro h75
                          (try simp only [decide_eq_true_eq, decide_eq_false_iff_not, Bool.not_eq_true', Bool.not_eq_false', Bool.not_eq_true, Bool.not_eq_false, Bool.true_eq_false, Bool.false_eq_true, not_false_eq_true, not_true_eq_false] at h75)
                          refine H_exit rfl ?_
                          refine H_seq ?_
                          -- R22 law.go:137
                          obtain rfl : i = 8 := by omega
                          refine H_set (v' := .slice a73 (255 :: (List.replicate (8 - 8) 0 ++ Cod.tailB u 8) : List UInt8).length c73) 11 rfl rfl ?_
                          refine H_region (l := [_, _, _, _, _, _, _]) rfl ?_
                          refine HO_move rfl rfl rfl ?_
                          refine HO_call (first := []) (capt := []) (is := [0]) (R := []) rfl rfl rfl rfl rfl Try.call21 rfl (Spec.lend (pre1 := []) (pre2 := []) (Get_spec _ _ _) rfl (fun _ _ ha => nomatch ha)) ?_
                          intro y90 hy90
                          clear y90 hy90
                          refine HO_move rfl rfl rfl ?_
                          refine HO_extract (vs := [_, _]) rfl rfl rfl rfl ?_
                          refine HO_extract (vs := [_, _]) rfl rfl rfl rfl ?_
                          refine HO_assign rfl rfl rfl ?_
                          refine HO_assign rfl rfl rfl ?_
                          refine HO_nil ?_
                          refine H_env (ρ' := [(14, _)]) ⟨rfl, trivial⟩ ?_
                          refine H_world (fun _ hA => hA.drop (is := [0]) (Y := [_]) (Z := []) rfl) ?_
                          refine H_seq ?_
                          -- R23 law.go:137
                          rw [Cod.dec_wide' hu hb8]
                          refine H_region (l := [_, _]) rfl ?_
                          refine HO_move rfl rfl rfl ?_
                          refine HO_bin rfl rfl rfl rfl bin_neq ?_
                          refine HO_nil ?_
                          refine H_env (ρ' := [(94, _)]) ⟨rfl, trivial⟩ ?_
                          refine H_cond rfl ?_ ?_
                          · intro h94
                            (try simp only [decide_eq_true_eq, decide_eq_false_iff_not, Bool.not_eq_true', Bool.not_eq_false', Bool.not_eq_true, Bool.not_eq_false, Bool.true_eq_false, Bool.false_eq_true, not_false_eq_true, not_true_eq_false] at h94)
                            (exact absurd rfl h94)
                          · intro h94
                            (try simp only [decide_eq_true_eq, decide_eq_false_iff_not, Bool.not_eq_true', Bool.not_eq_false', Bool.not_eq_true, Bool.not_eq_false, Bool.true_eq_false, Bool.false_eq_true, not_false_eq_true, not_true_eq_false] at h94)
                            refine H_skip ?_
                            refine H_seq ?_
                            -- R25 law.go:141
                            refine H_region (l := [_, _]) rfl ?_
                            refine HO_call (first := []) (capt := []) (is := []) (R := []) rfl rfl rfl rfl rfl Try.call20 rfl lives_spec ?_
                            intro y95 hy95
                            clear y95 hy95
                            refine HO_assign rfl rfl rfl ?_
                            refine HO_nil ?_
                            refine H_env (ρ' := [(2, _)]) ⟨rfl, trivial⟩ ?_
                            -- end1
                            refine H_ret1 Try.results5 (.tmp rfl) (fun w hA => ⟨(), congrArg Ending.returned ?_, ?_, ?_⟩)
                            · (exact congrArg Value.bool (by first | rfl | assumption | simp_all))
                            · trivial
                            · exact hA.only (is := []) (Z := []) rfl
                    · intro h71
                      (try simp only [decide_eq_true_eq, decide_eq_false_iff_not, Bool.not_eq_true', Bool.not_eq_false', Bool.not_eq_true, Bool.not_eq_false, Bool.true_eq_false, Bool.false_eq_true, not_false_eq_true, not_true_eq_false] at h71)
                      refine H_skip ?_
                      refine H_seq ?_
                      -- R25 law.go:141
                      refine H_region (l := [_, _]) rfl ?_
                      refine HO_call (first := []) (capt := []) (is := []) (R := []) rfl rfl rfl rfl rfl Try.call20 rfl lives_spec ?_
                      intro y95 hy95
                      clear y95 hy95
                      refine HO_assign rfl rfl rfl ?_
                      refine HO_nil ?_
                      refine H_env (ρ' := [(2, _)]) ⟨rfl, trivial⟩ ?_
                      -- end2
                      refine H_ret1 Try.results5 (.tmp rfl) (fun w hA => ⟨(), congrArg Ending.returned ?_, ?_, ?_⟩)
                      · (exact congrArg Value.bool (by first | rfl | assumption | simp_all))
                      · trivial
                      · exact hA.only (is := []) (Z := []) rfl
                  · intro h68
                    (try simp only [decide_eq_true_eq, decide_eq_false_iff_not, Bool.not_eq_true', Bool.not_eq_false', Bool.not_eq_true, Bool.not_eq_false, Bool.true_eq_false, Bool.false_eq_true, not_false_eq_true, not_true_eq_false] at h68)
                    refine HO_no rfl rfl rfl ?_
                    refine HO_no rfl rfl rfl ?_
                    refine HO_pick_f rfl rfl rfl rfl ?_
                    refine HO_nil ?_
                    refine H_env (ρ' := [(71, _), (0, _)]) ⟨rfl, rfl, trivial⟩ ?_
                    refine H_world (fun _ hA => hA.drop (is := [0]) (Y := [_]) (Z := []) rfl) ?_
                    refine H_cond rfl (fun h => nomatch h) (fun _ => ?_)
                    refine H_skip ?_
                    refine H_seq ?_
                    -- R25 law.go:141
                    refine H_region (l := [_, _]) rfl ?_
                    refine HO_call (first := []) (capt := []) (is := []) (R := []) rfl rfl rfl rfl rfl Try.call20 rfl lives_spec ?_
                    intro y95 hy95
                    clear y95 hy95
                    refine HO_assign rfl rfl rfl ?_
                    refine HO_nil ?_
                    refine H_env (ρ' := [(2, _)]) ⟨rfl, trivial⟩ ?_
                    -- end3
                    refine H_ret1 Try.results5 (.tmp rfl) (fun w hA => ⟨(), congrArg Ending.returned ?_, ?_, ?_⟩)
                    · (exact congrArg Value.bool (by first | rfl | assumption | simp_all))
                    · trivial
                    · exact hA.only (is := []) (Z := []) rfl
    · intro h21
      (try simp only [decide_eq_true_eq, decide_eq_false_iff_not, Bool.not_eq_true', Bool.not_eq_false', Bool.not_eq_true, Bool.not_eq_false, Bool.true_eq_false, Bool.false_eq_true, not_false_eq_true, not_true_eq_false] at h21)
      refine HO_no rfl rfl rfl ?_
      refine HO_no rfl rfl rfl ?_
      refine HO_pick_f rfl rfl rfl rfl ?_
      refine HO_nil ?_
      refine H_env (ρ' := [(24, _), (0, _), (3, _), (4, _), (5, _)]) ⟨rfl, rfl, rfl, rfl, rfl, trivial⟩ ?_
      refine H_cond rfl (fun h => nomatch h) (fun _ => ?_)
      refine H_exit rfl ?_
      refine H_seq ?_
      -- R7 law.go:123
      obtain rfl : j = Cod.beh u := by first | exact Cod.short_end hu hI.1 hI.2 h21 | omega
      refine H_region (l := [_, _, _, _, _, _, _, _, _, _, _]) rfl ?_
      refine HO_buildSlice0 (kd := kByte) rfl rfl Try.underlying28 elt5 ?_
      intro g30
      refine HO_move rfl rfl rfl ?_
      refine HO_append (i := 0) (R := [_]) rfl rfl rfl rfl rfl Try.underlying28 elt5 rfl rfl (SrcOk.own (j := 0) Try.underlying28 rfl rfl) ?_ ?_
      · (simp; omega)
      intro a32 c32
      refine HO_buildSlice (kd := kByte) (xo := [_, _]) (vs := [_, _]) (cs := [_, _]) (xs := [(255 : UInt8), 1]) rfl rfl rfl rfl Try.underlying28 elt5 rfl rfl rfl (by decide) (by decide) (by simp [Value.cells]) rfl (fun _ _ _ => ⟨_, _, rfl, ⟨rfl, trivial⟩, ⟨_, _, rfl, ⟨rfl, trivial⟩, rfl⟩⟩) ?_
      intro g33
      refine HO_append (i := 1) (R := [_, _]) rfl rfl rfl rfl rfl Try.underlying28 elt5 rfl rfl (SrcOk.own (j := 0) Try.underlying28 rfl rfl) ?_ ?_
      · (simp; omega)
      intro a34 c34
      refine HO_call (first := []) (capt := []) (is := [0]) (R := [_, _]) rfl rfl rfl rfl rfl Try.call21 rfl (Spec.lend (pre1 := []) (pre2 := []) (Get_spec _ _ _) rfl (fun _ _ ha => nomatch ha)) ?_
      intro y35 hy35
      clear y35 hy35
      refine HO_move rfl rfl rfl ?_
      refine HO_extract (vs := [_, _]) rfl rfl rfl rfl ?_
      refine HO_extract (vs := [_, _]) rfl rfl rfl rfl ?_
      refine HO_assign rfl rfl rfl ?_
      refine HO_assign rfl rfl rfl ?_
      refine HO_nil ?_
      refine H_env (ρ' := [(7, _), (6, _), (0, _), (3, _), (4, _)]) ⟨rfl, rfl, rfl, rfl, rfl, trivial⟩ ?_
      refine H_world (fun _ hA => hA.drop (is := [0, 1]) (Y := [_, _]) (Z := [_]) rfl) ?_
      refine H_seq ?_
      refine H_seq ?_
      -- R8 law.go:124
      rw [Cod.dec_short hu]
      refine H_region (l := [_, _, _, _, _, _, _, _, _, _, _, _, _, _]) rfl ?_
      refine HO_move rfl rfl rfl ?_
      refine HO_bi rfl rfl rfl (bi_len_sl Try.underlying28) ?_
      refine HO_move rfl rfl rfl ?_
      refine HO_bin rfl rfl rfl rfl bin_neq ?_
      refine HO_move rfl rfl rfl ?_
      refine HO_split (d := 42) rfl ?_ ?_
      · intro h42
        (try simp only [decide_eq_true_eq, decide_eq_false_iff_not, Bool.not_eq_true', Bool.not_eq_false', Bool.not_eq_true, Bool.not_eq_false, Bool.true_eq_false, Bool.false_eq_true, not_false_eq_true, not_true_eq_false] at h42)
        (exfalso; simp at h42; omega)
      · intro h42
        (try simp only [decide_eq_true_eq, decide_eq_false_iff_not, Bool.not_eq_true', Bool.not_eq_false', Bool.not_eq_true, Bool.not_eq_false, Bool.true_eq_false, Bool.false_eq_true, not_false_eq_true, not_true_eq_false] at h42)
        refine HO_move rfl rfl rfl ?_
        refine HO_move rfl rfl rfl ?_
        refine HO_bin rfl rfl rfl rfl bin_neq ?_
        refine HO_pick_f rfl rfl rfl rfl ?_
        refine HO_move rfl rfl rfl ?_
        refine HO_split (d := 47) rfl ?_ ?_
        · intro h47
          (try simp only [decide_eq_true_eq, decide_eq_false_iff_not, Bool.not_eq_true', Bool.not_eq_false', Bool.not_eq_true, Bool.not_eq_false, Bool.true_eq_false, Bool.false_eq_true, not_false_eq_true, not_true_eq_false] at h47)
          (exact absurd rfl h47)
        · intro h47
          (try simp only [decide_eq_true_eq, decide_eq_false_iff_not, Bool.not_eq_true', Bool.not_eq_false', Bool.not_eq_true, Bool.not_eq_false, Bool.true_eq_false, Bool.false_eq_true, not_false_eq_true, not_true_eq_false] at h47)
          refine HO_move rfl rfl rfl ?_
          refine HO_move rfl rfl rfl ?_
          refine HO_bin rfl rfl rfl rfl bin_neq ?_
          refine HO_pick_f rfl rfl rfl rfl ?_
          refine HO_nil ?_
          refine H_env (ρ' := [(51, _), (0, _), (3, _), (4, _)]) ⟨rfl, rfl, rfl, rfl, trivial⟩ ?_
          refine H_cond rfl ?_ ?_
          · intro h51
            (try simp only [decide_eq_true_eq, decide_eq_false_iff_not, Bool.not_eq_true', Bool.not_eq_false', Bool.not_eq_true, Bool.not_eq_false, Bool.true_eq_false, Bool.false_eq_true, not_false_eq_true, not_true_eq_false] at h51)
            (exact absurd rfl h51)
          · intro h51
            (try simp only [decide_eq_true_eq, decide_eq_false_iff_not, Bool.not_eq_true', Bool.not_eq_false', Bool.not_eq_true, Bool.not_eq_false, Bool.true_eq_false, Bool.false_eq_true, not_false_eq_true, not_true_eq_false] at h51)
            refine H_skip ?_
            refine H_seq ?_
            refine H_seq ?_
            -- R10 law.go:127
            refine H_freeze (i := 0) (R := []) rfl hMn ?_
            refine H_region (l := [_]) rfl ?_
            refine HO_assign rfl rfl rfl ?_
            refine HO_nil ?_
            refine H_env (ρ' := [(8, _), (0, _), (3, _), (4, _)]) ⟨rfl, rfl, rfl, rfl, trivial⟩ ?_
            refine H_block ?_
            refine H_loop (σ := Nat) (fun s => s ≤ Cod.beh u + 1) (fun s => [(0, .int .u64 (u)), (3, .slice y16.1 (([] ++ Cod.enc u).length) y16.2), (4, .int .i64 ((Cod.beh u : Int) + 1)), (8, .int .i64 ((s : Int)))]) (fun s => Asn w0 ok0 M0 [.dat kByte.sl ([] ++ Cod.enc u) [.slice y16.1 (([] ++ Cod.enc u).length) y16.2]]) (fun s => Cod.beh u + 1 - s) 0 ?_ ?_ ?_ ?_
            · exact Nat.zero_le _
            · exact ⟨rfl, rfl, rfl, rfl, trivial⟩
            · intro w hA
              exact hA.only (is := [0]) (Z := []) rfl
            · intro i hI
              (try dsimp only at hI ⊢)
              refine H_seq ?_
              refine H_seq ?_
              -- R11 law.go:127
              refine H_region (l := [_, _, _]) rfl ?_
              refine HO_move rfl rfl rfl ?_
              refine HO_move rfl rfl rfl ?_
              refine HO_bin rfl rfl rfl rfl bin_lss ?_
              refine HO_nil ?_
              refine H_env (ρ' := [(54, _), (0, _), (3, _), (4, _), (8, _)]) ⟨rfl, rfl, rfl, rfl, rfl, trivial⟩ ?_
              refine H_cond rfl ?_ ?_
              · intro h54
                (try simp only [decide_eq_true_eq, decide_eq_false_iff_not, Bool.not_eq_true', Bool.not_eq_false', Bool.not_eq_true, Bool.not_eq_false, Bool.true_eq_false, Bool.false_eq_true, not_false_eq_true, not_true_eq_false] at h54)
                refine H_skip ?_
                refine H_seq ?_
                refine H_block ?_
                refine H_seq ?_
                -- R13 law.go:128
                refine H_region (l := [_, _, _, _, _, _, _, _, _]) rfl ?_
                refine HO_move rfl rfl rfl ?_
                refine HO_move rfl rfl rfl ?_
                refine HO_slice_h (i := 0) rfl rfl rfl rfl rfl Try.underlying28 Try.sizeOf5 rfl ?_ ?_
                · omega
                intro a60 c60
                refine HO_dup (i := 0) rfl rfl ?_
                refine HO_call (first := []) (capt := []) (is := [0]) (R := [_, _]) rfl rfl rfl rfl rfl Try.call21 rfl (Get_spec _ _ _) ?_
                intro y61 hy61
                clear y61 hy61
                refine HO_move rfl rfl rfl ?_
                refine HO_extract (vs := [_, _]) rfl rfl rfl rfl ?_
                refine HO_extract (vs := [_, _]) rfl rfl rfl rfl ?_
                refine HO_assign rfl rfl rfl ?_
                refine HO_assign rfl rfl rfl ?_
                refine HO_nil ?_
                refine H_env (ρ' := [(10, _), (0, _), (3, _), (4, _), (8, _)]) ⟨rfl, rfl, rfl, rfl, rfl, trivial⟩ ?_
                refine H_world (fun _ hA => hA.drop (is := [0]) (Y := [_]) (Z := [_]) rfl) ?_
                refine H_seq ?_
                -- R14 law.go:128
                refine H_region (l := [_, _]) rfl ?_
                refine HO_move rfl rfl rfl ?_
                refine HO_bin rfl rfl rfl rfl bin_neq ?_
                refine HO_nil ?_
                refine H_env (ρ' := [(65, _), (0, _), (3, _), (4, _), (8, _)]) ⟨rfl, rfl, rfl, rfl, rfl, trivial⟩ ?_
                refine H_cond rfl ?_ ?_
                · intro h65
                  (try simp only [decide_eq_true_eq, decide_eq_false_iff_not, Bool.not_eq_true', Bool.not_eq_false', Bool.not_eq_true, Bool.not_eq_false, Bool.true_eq_false, Bool.false_eq_true, not_false_eq_true, not_true_eq_false] at h65)
                  (rw [Cod.early hu (by omega)] at h65; exact absurd rfl h65)
                · intro h65
                  (try simp only [decide_eq_true_eq, decide_eq_false_iff_not, Bool.not_eq_true', Bool.not_eq_false', Bool.not_eq_true, Bool.not_eq_false, Bool.true_eq_false, Bool.false_eq_true, not_false_eq_true, not_true_eq_false] at h65)
                  refine H_skip ?_
                  refine H_blk ?_
                  -- R12 law.go:127
                  refine H_region (l := [_, _, _]) rfl ?_
                  refine HO_move rfl rfl rfl ?_
                  refine HO_bin rfl rfl rfl rfl (bin_add ?_ ?_) ?_
                  · omega
                  · omega
                  refine HO_assign rfl rfl rfl ?_
                  refine HO_nil ?_
                  refine H_env (ρ' := [(8, _), (0, _), (3, _), (4, _)]) ⟨rfl, rfl, rfl, rfl, trivial⟩ ?_
                  refine H_inv (fun a w hf hA => ⟨i + 1, ?_, ?_, hf.sub ?_, ?_⟩)
                  · omega
                  · (try dsimp only); omega
                  · exact ⟨rfl, rfl, rfl, rfl, trivial⟩
                  · exact hA.only (is := [0]) (Z := []) rfl
              · intro h54
                (try simp only [decide_eq_true_eq, decide_eq_false_iff_not, Bool.not_eq_true', Bool.not_eq_false', Bool.not_eq_true, Bool.not_eq_false, Bool.true_eq_false, Bool.false_eq_true, not_false_eq_true, not_true_eq_false] at h54)
                refine H_exit rfl ?_
                refine H_seq ?_
                refine H_seq ?_
                -- R16 law.go:132
                refine H_region (l := [_, _, _, _, _, _]) rfl ?_
                refine HO_move rfl rfl rfl ?_
                refine HO_bin rfl rfl rfl rfl bin_lss ?_
                refine HO_move rfl rfl rfl ?_
                refine HO_split (d := 68) rfl ?_ ?_
                · intro h68
                  (try simp only [decide_eq_true_eq, decide_eq_false_iff_not, Bool.not_eq_true', Bool.not_eq_false', Bool.not_eq_true, Bool.not_eq_false, Bool.true_eq_false, Bool.false_eq_true, not_false_eq_true, not_true_eq_false] at h68)
                  refine HO_move rfl rfl rfl ?_
                  refine HO_bin rfl rfl rfl rfl bin_gtr ?_
                  refine HO_pick_t rfl rfl rfl rfl ?_
                  refine HO_nil ?_
                  refine H_env (ρ' := [(71, _), (0, _)]) ⟨rfl, rfl, trivial⟩ ?_
                  refine H_world (fun _ hA => hA.drop (is := [0]) (Y := [_]) (Z := []) rfl) ?_
                  refine H_cond rfl ?_ ?_
                  · intro h71
                    (try simp only [decide_eq_true_eq, decide_eq_false_iff_not, Bool.not_eq_true', Bool.not_eq_false', Bool.not_eq_true, Bool.not_eq_false, Bool.true_eq_false, Bool.false_eq_true, not_false_eq_true, not_true_eq_false] at h71)
                    refine H_seq ?_
                    -- R17 law.go:133
                    have hb8 : Cod.beh u ≠ 8 := by omega
                    refine H_region (l := [_, _, _]) rfl ?_
                    refine HO_buildSlice (kd := kByte) (xo := [_]) (vs := [_]) (cs := [_]) (xs := [(255 : UInt8)]) rfl rfl rfl rfl Try.underlying28 elt5 rfl rfl rfl (by decide) (by decide) (by simp [Value.cells]) rfl (fun _ _ _ => ⟨_, _, rfl, ⟨rfl, trivial⟩, rfl⟩) ?_
                    intro g72
                    refine HO_appendMake (i := 0) (R := []) (mm := 8) rfl rfl rfl rfl rfl Try.underlying28 elt5 Try.underlying3 Try.underlying9 rfl ?_ ?_ ?_
                    · (decide)
                    · decide
                    intro a73 c73
                    refine HO_assign rfl rfl rfl ?_
                    refine HO_nil ?_
                    refine H_env (ρ' := [(11, _), (0, _)]) ⟨rfl, rfl, trivial⟩ ?_
                    refine H_seq ?_
                    refine H_seq ?_
                    -- R18 law.go:134
                    refine H_region (l := [_]) rfl ?_
                    refine HO_assign rfl rfl rfl ?_
                    refine HO_nil ?_
                    refine H_block ?_
                    refine H_loop (σ := Nat) (fun s => s ≤ 8) (fun s => [(0, .int .u64 (u)), (11, .slice a73 (9) c73), (12, .int .i64 ((s : Int)))]) (fun s => Asn w0 ok0 M0 [.own 5 kByte a73 c73 ((255 :: (List.replicate (8 - s) 0 ++ Cod.tailB u s)))]) (fun s => 8 - s) 0 ?_ ?_ ?_ ?_
                    · exact Nat.zero_le _
                    · exact ⟨rfl, rfl, rfl, trivial⟩
                    · intro w hA
                      exact hA.only (is := [0]) (Z := []) rfl
                    · intro i hI
                      (try dsimp only at hI ⊢)
                      refine H_seq ?_
                      refine H_seq ?_
                      -- R19 law.go:134
                      refine H_region (l := [_, _]) rfl ?_
                      refine HO_move rfl rfl rfl ?_
                      refine HO_bin rfl rfl rfl rfl bin_lss ?_
                      refine HO_nil ?_
                      refine H_env (ρ' := [(75, _), (0, _), (11, _), (12, _)]) ⟨rfl, rfl, rfl, rfl, trivial⟩ ?_
                      refine H_cond rfl ?_ ?_
                      · intro h75
                        (try simp only [decide_eq_true_eq, decide_eq_false_iff_not, Bool.not_eq_true', Bool.not_eq_false', Bool.not_eq_true, Bool.not_eq_false, Bool.true_eq_false, Bool.false_eq_true, not_false_eq_true, not_true_eq_false] at h75)
                        refine H_skip ?_
                        refine H_seq ?_
                        refine H_block ?_
                        -- R21 law.go:135
                        refine H_region (l := [_, _, _, _, _, _, _, _, _, _, _]) rfl ?_
                        refine HO_move rfl rfl rfl ?_
                        refine HO_move rfl rfl rfl ?_
                        refine HO_bin rfl rfl rfl rfl (bin_sub ?_ ?_) ?_
                        · omega
                        · omega
                        refine HO_move rfl rfl rfl ?_
                        refine HO_move rfl rfl rfl ?_
                        refine HO_bin rfl rfl rfl rfl (bin_mul ?_ ?_) ?_
                        · omega
                        · omega
                        refine HO_conv rfl rfl rfl (cv_int Try.underlying3 Try.underlying31 (wrap_u_i rfl _)) ?_
                        refine HO_set (v' := .int .u64 (((8 * i : Nat) : Int))) 84 rfl (by exact congrArg (Value.int .u64) (by simp only [IntKind.bits]; omega)) ?_
                        refine HO_bin rfl rfl rfl rfl (bin_shr' ?_ ?_) ?_
                        · (simp only [IntKind.bits]; omega)
                        · omega
                        refine HO_conv rfl rfl rfl (cv_int Try.underlying27 Try.underlying5 (wrap_u rfl _)) ?_
                        refine HO_set (v' := .int .u8 (((UInt8.ofNat (u / 2 ^ (8 * i))).toNat : Int))) 86 rfl (by exact byte_eq rfl) ?_
                        refine HO_indexOwn (i := 0) (j := 8 - i) rfl rfl rfl rfl ?_ Try.underlying28 Try.sizeOf5 rfl (by simp [Cod.tailB_length]; omega) ?_ (Nat.mul_one _) ?_
                        · omega
                        · (simp [Cod.tailB_length]; omega)
                        intro g87 z87 hg87 hz87
                        refine HO_storeOwn (i := 0) (cs := [_]) (R := []) (z' := UInt8.ofNat (u / 2 ^ (8 * i))) rfl rfl rfl Try.sizeOf5 rfl (by simp [Value.oneCell']) rfl hg87 rfl (Nat.mul_one _) ?_ (fun _ _ _ => ⟨rfl, trivial⟩) ?_
                        · (simp [Cod.tailB_length]; omega)
                        refine HO_nil ?_
                        refine H_env (ρ' := [(0, _), (11, _), (12, _)]) ⟨rfl, rfl, rfl, trivial⟩ ?_
                        refine H_blk ?_
                        -- R20 law.go:134
                        refine H_region (l := [_, _, _]) rfl ?_
                        refine HO_move rfl rfl rfl ?_
                        refine HO_bin rfl rfl rfl rfl (bin_add ?_ ?_) ?_
                        · omega
                        · omega
                        refine HO_assign rfl rfl rfl ?_
                        refine HO_nil ?_
                        refine H_env (ρ' := [(12, _), (0, _), (11, _)]) ⟨rfl, rfl, rfl, trivial⟩ ?_
                        refine H_inv (fun a w hf hA => ⟨i + 1, ?_, ?_, hf.sub ?_, ?_⟩)
                        · omega
                        · (try dsimp only); omega
                        · exact ⟨rfl, rfl, rfl, trivial⟩
                        · rw [Cod.wide_next (by omega)]; exact hA.only (is := [0]) (Z := []) rfl
                      · intro h75
                        (try simp only [decide_eq_true_eq, decide_eq_false_iff_not, Bool.not_eq_true', Bool.not_eq_false', Bool.not_eq_true, Bool.not_eq_false, Bool.true_eq_false, Bool.false_eq_true, not_false_eq_true, not_true_eq_false] at h75)
                        refine H_exit rfl ?_
                        refine H_seq ?_
                        -- R22 law.go:137
                        obtain rfl : i = 8 := by omega
                        refine H_set (v' := .slice a73 (255 :: (List.replicate (8 - 8) 0 ++ Cod.tailB u 8) : List UInt8).length c73) 11 rfl rfl ?_
                        refine H_region (l := [_, _, _, _, _, _, _]) rfl ?_
                        refine HO_move rfl rfl rfl ?_
                        refine HO_call (first := []) (capt := []) (is := [0]) (R := []) rfl rfl rfl rfl rfl Try.call21 rfl (Spec.lend (pre1 := []) (pre2 := []) (Get_spec _ _ _) rfl (fun _ _ ha => nomatch ha)) ?_
                        intro y90 hy90
                        clear y90 hy90
                        refine HO_move rfl rfl rfl ?_
                        refine HO_extract (vs := [_, _]) rfl rfl rfl rfl ?_
                        refine HO_extract (vs := [_, _]) rfl rfl rfl rfl ?_
                        refine HO_assign rfl rfl rfl ?_
                        refine HO_assign rfl rfl rfl ?_
                        refine HO_nil ?_
                        refine H_env (ρ' := [(14, _)]) ⟨rfl, trivial⟩ ?_
                        refine H_world (fun _ hA => hA.drop (is := [0]) (Y := [_]) (Z := []) rfl) ?_
                        refine H_seq ?_
                        -- R23 law.go:137
                        rw [Cod.dec_wide' hu hb8]
                        refine H_region (l := [_, _]) rfl ?_
                        refine HO_move rfl rfl rfl ?_
                        refine HO_bin rfl rfl rfl rfl bin_neq ?_
                        refine HO_nil ?_
                        refine H_env (ρ' := [(94, _)]) ⟨rfl, trivial⟩ ?_
                        refine H_cond rfl ?_ ?_
                        · intro h94
                          (try simp only [decide_eq_true_eq, decide_eq_false_iff_not, Bool.not_eq_true', Bool.not_eq_false', Bool.not_eq_true, Bool.not_eq_false, Bool.true_eq_false, Bool.false_eq_true, not_false_eq_true, not_true_eq_false] at h94)
                          (exact absurd rfl h94)
                        · intro h94
                          (try simp only [decide_eq_true_eq, decide_eq_false_iff_not, Bool.not_eq_true', Bool.not_eq_false', Bool.not_eq_true, Bool.not_eq_false, Bool.true_eq_false, Bool.false_eq_true, not_false_eq_true, not_true_eq_false] at h94)
                          refine H_skip ?_
                          refine H_seq ?_
                          -- R25 law.go:141
                          refine H_region (l := [_, _]) rfl ?_
                          refine HO_call (first := []) (capt := []) (is := []) (R := []) rfl rfl rfl rfl rfl Try.call20 rfl lives_spec ?_
                          intro y95 hy95
                          clear y95 hy95
                          refine HO_assign rfl rfl rfl ?_
                          refine HO_nil ?_
                          refine H_env (ρ' := [(2, _)]) ⟨rfl, trivial⟩ ?_
                          -- end4
                          refine H_ret1 Try.results5 (.tmp rfl) (fun w hA => ⟨(), congrArg Ending.returned ?_, ?_, ?_⟩)
                          · (exact congrArg Value.bool (by first | rfl | assumption | simp_all))
                          · trivial
                          · exact hA.only (is := []) (Z := []) rfl
                  · intro h71
                    (try simp only [decide_eq_true_eq, decide_eq_false_iff_not, Bool.not_eq_true', Bool.not_eq_false', Bool.not_eq_true, Bool.not_eq_false, Bool.true_eq_false, Bool.false_eq_true, not_false_eq_true, not_true_eq_false] at h71)
                    refine H_skip ?_
                    refine H_seq ?_
                    -- R25 law.go:141
                    refine H_region (l := [_, _]) rfl ?_
                    refine HO_call (first := []) (capt := []) (is := []) (R := []) rfl rfl rfl rfl rfl Try.call20 rfl lives_spec ?_
                    intro y95 hy95
                    clear y95 hy95
                    refine HO_assign rfl rfl rfl ?_
                    refine HO_nil ?_
                    refine H_env (ρ' := [(2, _)]) ⟨rfl, trivial⟩ ?_
                    -- end5
                    refine H_ret1 Try.results5 (.tmp rfl) (fun w hA => ⟨(), congrArg Ending.returned ?_, ?_, ?_⟩)
                    · (exact congrArg Value.bool (by first | rfl | assumption | simp_all))
                    · trivial
                    · exact hA.only (is := []) (Z := []) rfl
                · intro h68
                  (try simp only [decide_eq_true_eq, decide_eq_false_iff_not, Bool.not_eq_true', Bool.not_eq_false', Bool.not_eq_true, Bool.not_eq_false, Bool.true_eq_false, Bool.false_eq_true, not_false_eq_true, not_true_eq_false] at h68)
                  refine HO_no rfl rfl rfl ?_
                  refine HO_no rfl rfl rfl ?_
                  refine HO_pick_f rfl rfl rfl rfl ?_
                  refine HO_nil ?_
                  refine H_env (ρ' := [(71, _), (0, _)]) ⟨rfl, rfl, trivial⟩ ?_
                  refine H_world (fun _ hA => hA.drop (is := [0]) (Y := [_]) (Z := []) rfl) ?_
                  refine H_cond rfl (fun h => nomatch h) (fun _ => ?_)
                  refine H_skip ?_
                  refine H_seq ?_
                  -- R25 law.go:141
                  refine H_region (l := [_, _]) rfl ?_
                  refine HO_call (first := []) (capt := []) (is := []) (R := []) rfl rfl rfl rfl rfl Try.call20 rfl lives_spec ?_
                  intro y95 hy95
                  clear y95 hy95
                  refine HO_assign rfl rfl rfl ?_
                  refine HO_nil ?_
                  refine H_env (ρ' := [(2, _)]) ⟨rfl, trivial⟩ ?_
                  -- end6
                  refine H_ret1 Try.results5 (.tmp rfl) (fun w hA => ⟨(), congrArg Ending.returned ?_, ?_, ?_⟩)
                  · (exact congrArg Value.bool (by first | rfl | assumption | simp_all))
                  · trivial
                  · exact hA.only (is := []) (Z := []) rfl
end Go.Wk
