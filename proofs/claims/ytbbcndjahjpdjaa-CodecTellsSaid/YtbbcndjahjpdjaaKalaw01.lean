/- Contracts of the program's functions, each proved by walking its code. -/
import Derived.Test.YtbbcndjahjpdjaaKaref01b
import Derived.Test.YtbbcndjahjpdjaaCod2
set_option maxRecDepth 100000
set_option linter.unusedVariables false
set_option linter.unusedSimpArgs false
namespace Go.Wk.Flaw01
open Go Go.RowKit Go.Proofs Go.Wk
theorem elt5 : Elt Try.prog 5 (.int .u8 (0)) 1 1 := Elt.of (by kernel_rfl) (by rfl) (by decide) (by decide)
end Go.Wk.Flaw01
namespace Go.Wk
open Go Go.RowKit Go.Proofs Flaw01 
theorem lives_spec  : Spec Try.prog 20 #[] [] (β := Unit) (fun y => .bool (true)) (fun y => True) (fun y => []) := by
  refine Spec.enter (vs := []) Try.func20 rfl Try.ntmps20 rfl (Nat.le_of_ble_eq_true rfl) (fun w0 ok0 => ?_)
  generalize hM0 : blks _ = M0
  have hMn : ∀ {R : List Atom} (b : Nat), M0 b → blks R b := fun b hb => absurd (hM0 ▸ hb) (blks_none (by simp [Atom.dat, Atom.elem]) b)
  refine H_seq ?_
  -- R0 law.go:11
  refine H_region (l := [_]) rfl ?_
  refine HO_assign rfl rfl rfl ?_
  refine HO_nil ?_
  refine H_env (ρ' := []) trivial ?_
  refine H_seq ?_
  -- R1 law.go:12
  refine H_region (l := [_, _, _, _, _, _, _, _, _, _, _, _, _, _, _, _, _, _, _, _, _, _, _, _]) rfl ?_
  refine HO_call (first := []) (capt := []) (is := []) (R := []) rfl rfl rfl rfl rfl Try.call26 rfl (zig_spec _) ?_
  intro y1 hy1
  clear y1 hy1
  refine HO_bin rfl rfl rfl rfl bin_eql ?_
  refine HO_move rfl rfl rfl ?_
  refine HO_split (d := 3) rfl ?_ ?_
  · intro h3
    (try simp only [decide_eq_true_eq, decide_eq_false_iff_not, Bool.not_eq_true', Bool.not_eq_false', Bool.not_eq_true, Bool.not_eq_false, Bool.true_eq_false, Bool.false_eq_true, not_false_eq_true, not_true_eq_false] at h3)
    refine HO_nilDat kByte ?_
    refine HO_dup (i := 0) rfl rfl ?_
    refine HO_call (first := []) (capt := []) (is := [0]) (R := [_]) rfl rfl rfl rfl rfl Try.call19 rfl (Put_spec _ _ _ _ ?_ ?_) ?_
    · decide
    · decide
    intro y4 hy4
    refine HO_buildSlice (kd := kByte) (xo := [_, _]) (vs := [_, _]) (cs := [_, _]) (xs := [(129 : UInt8), 44]) rfl rfl rfl rfl Try.underlying28 elt5 rfl rfl rfl (by decide) (by decide) (by simp [Value.cells]) rfl (fun _ _ _ => ⟨_, _, rfl, ⟨rfl, trivial⟩, ⟨_, _, rfl, ⟨rfl, trivial⟩, rfl⟩⟩) ?_
    intro g5
    refine HO_call (first := []) (capt := []) (is := [0, 0]) (R := [_]) rfl rfl rfl rfl rfl Try.call24 rfl (Spec.lend (pre1 := [_]) (pre2 := []) (Spec.lend (pre1 := []) (pre2 := [_]) (rsame_spec _ _ _ _ _ _) rfl (fun _ _ ha => nomatch ha)) rfl (by intro y at' ha; obtain rfl := List.mem_singleton.1 ha; first | exact Atom.Flat.own kByte_plain _ _ _ _ | exact Atom.Flat.own kInt_plain _ _ _ _ | exact Atom.Flat.own kStr_plain _ _ _ _ | exact Atom.Flat.loc _ _ _)) ?_
    intro y6 hy6
    clear y6 hy6
    refine HO_pick_t rfl rfl rfl rfl ?_
    refine HO_move rfl rfl rfl ?_
    refine HO_split (d := 8) rfl ?_ ?_
    · intro h8
      (try simp only [decide_eq_true_eq, decide_eq_false_iff_not, Bool.not_eq_true', Bool.not_eq_false', Bool.not_eq_true, Bool.not_eq_false, Bool.true_eq_false, Bool.false_eq_true, not_false_eq_true, not_true_eq_false] at h8)
      refine HO_nilDat kByte ?_
      refine HO_dup (i := 0) rfl rfl ?_
      refine HO_call (first := []) (capt := []) (is := [0]) (R := [_, _, _, _]) rfl rfl rfl rfl rfl Try.call47 rfl (PutText_spec _ _ _ _ ?_ ?_) ?_
      · decide
      · decide
      intro y9 hy9
      refine HO_buildSlice (kd := kByte) (xo := [_, _, _]) (vs := [_, _, _]) (cs := [_, _, _]) (xs := [(2 : UInt8), 97, 98]) rfl rfl rfl rfl Try.underlying28 elt5 rfl rfl rfl (by decide) (by decide) (by simp [Value.cells]) rfl (fun _ _ _ => ⟨_, _, rfl, ⟨rfl, trivial⟩, ⟨_, _, rfl, ⟨rfl, trivial⟩, ⟨_, _, rfl, ⟨rfl, trivial⟩, rfl⟩⟩⟩) ?_
      intro g10
      refine HO_call (first := []) (capt := []) (is := [0, 0]) (R := [_, _, _, _]) rfl rfl rfl rfl rfl Try.call24 rfl (Spec.lend (pre1 := [_]) (pre2 := []) (Spec.lend (pre1 := []) (pre2 := [_]) (rsame_spec _ _ _ _ _ _) rfl (fun _ _ ha => nomatch ha)) rfl (by intro y at' ha; obtain rfl := List.mem_singleton.1 ha; first | exact Atom.Flat.own kByte_plain _ _ _ _ | exact Atom.Flat.own kInt_plain _ _ _ _ | exact Atom.Flat.own kStr_plain _ _ _ _ | exact Atom.Flat.loc _ _ _)) ?_
      intro y11 hy11
      clear y11 hy11
      refine HO_pick_t rfl rfl rfl rfl ?_
      refine HO_move rfl rfl rfl ?_
      refine HO_split (d := 13) rfl ?_ ?_
      · intro h13
        (try simp only [decide_eq_true_eq, decide_eq_false_iff_not, Bool.not_eq_true', Bool.not_eq_false', Bool.not_eq_true, Bool.not_eq_false, Bool.true_eq_false, Bool.false_eq_true, not_false_eq_true, not_true_eq_false] at h13)
        refine HO_nilDat kByte ?_
        refine HO_dup (i := 0) rfl rfl ?_
        refine HO_call (first := []) (capt := []) (is := [0]) (R := [_, _, _, _, _, _, _]) rfl rfl rfl rfl rfl Try.call41 rfl (Frame_spec _ _ _ ?_) ?_
        · decide
        intro y14 hy14
        refine HO_bi rfl rfl rfl (bi_len_sl Try.underlying28) ?_
        refine HO_bin rfl rfl rfl rfl bin_eql ?_
        refine HO_pick_t rfl rfl rfl rfl ?_
        refine HO_move rfl rfl rfl ?_
        refine HO_split (d := 18) rfl ?_ ?_
        · intro h18
          (try simp only [decide_eq_true_eq, decide_eq_false_iff_not, Bool.not_eq_true', Bool.not_eq_false', Bool.not_eq_true, Bool.not_eq_false, Bool.true_eq_false, Bool.false_eq_true, not_false_eq_true, not_true_eq_false] at h18)
          refine HO_buildSlice (kd := kByte) (xo := [_, _, _, _, _, _, _, _, _]) (vs := [_, _, _, _, _, _, _, _, _]) (cs := [_, _, _, _, _, _, _, _, _]) (xs := [(49 : UInt8), 50, 51, 52, 53, 54, 55, 56, 57]) rfl rfl rfl rfl Try.underlying28 elt5 rfl rfl rfl (by decide) (by decide) (by simp [Value.cells]) rfl (fun _ _ _ => ⟨_, _, rfl, ⟨rfl, trivial⟩, ⟨_, _, rfl, ⟨rfl, trivial⟩, ⟨_, _, rfl, ⟨rfl, trivial⟩, ⟨_, _, rfl, ⟨rfl, trivial⟩, ⟨_, _, rfl, ⟨rfl, trivial⟩, ⟨_, _, rfl, ⟨rfl, trivial⟩, ⟨_, _, rfl, ⟨rfl, trivial⟩, ⟨_, _, rfl, ⟨rfl, trivial⟩, ⟨_, _, rfl, ⟨rfl, trivial⟩, rfl⟩⟩⟩⟩⟩⟩⟩⟩⟩) ?_
          intro g19
          refine HO_constBytes (i := 0) (R := [_, _, _, _, _, _, _, _]) rfl rfl rfl Try.underlying28 Try.underlying5 rfl rfl hMn (by decide) ?_
          refine HO_dup (i := 0) rfl rfl ?_
          refine HO_call (first := []) (capt := []) (is := [0]) (R := [_, _, _, _, _, _, _, _, _]) rfl rfl rfl rfl rfl Try.call39 rfl (Sum_spec _ _ _) ?_
          intro y21 hy21
          clear y21 hy21
          refine HO_bin rfl rfl rfl rfl bin_eql ?_
          refine HO_pick_t rfl rfl rfl rfl ?_
          refine HO_assign rfl rfl rfl ?_
          refine HO_nil ?_
          refine H_env (ρ' := [(0, _)]) ⟨rfl, trivial⟩ ?_
          refine H_world (fun _ hA => hA.drop (is := [0, 1, 2, 3, 4, 5, 6, 7, 8]) (Y := [_, _, _, _, _, _, _, _, _]) (Z := []) rfl) ?_
          -- end1
          refine H_ret1 Try.results20 (.tmp rfl) (fun w hA => ⟨(), congrArg Ending.returned ?_, ?_, ?_⟩)
          · (exact congrArg Value.bool (by decide +kernel))
          · trivial
          · exact hA.only (is := []) (Z := []) rfl
        · intro h18
          (try simp only [decide_eq_true_eq, decide_eq_false_iff_not, Bool.not_eq_true', Bool.not_eq_false', Bool.not_eq_true, Bool.not_eq_false, Bool.true_eq_false, Bool.false_eq_true, not_false_eq_true, not_true_eq_false] at h18)
          (exact absurd h18 (by decide +kernel))
      · intro h13
        (try simp only [decide_eq_true_eq, decide_eq_false_iff_not, Bool.not_eq_true', Bool.not_eq_false', Bool.not_eq_true, Bool.not_eq_false, Bool.true_eq_false, Bool.false_eq_true, not_false_eq_true, not_true_eq_false] at h13)
        (exact absurd h13 (by decide))
    · intro h8
      (try simp only [decide_eq_true_eq, decide_eq_false_iff_not, Bool.not_eq_true', Bool.not_eq_false', Bool.not_eq_true, Bool.not_eq_false, Bool.true_eq_false, Bool.false_eq_true, not_false_eq_true, not_true_eq_false] at h8)
      (exact absurd h8 (by decide))
  · intro h3
    (try simp only [decide_eq_true_eq, decide_eq_false_iff_not, Bool.not_eq_true', Bool.not_eq_false', Bool.not_eq_true, Bool.not_eq_false, Bool.true_eq_false, Bool.false_eq_true, not_false_eq_true, not_true_eq_false] at h3)
    (exact absurd rfl h3)
theorem CodecOrder_spec (u v : Nat) (hu : u < 18446744073709551616) (hv : v < 18446744073709551616) : Spec Try.prog 4 #[.int .u64 (u), .int .u64 (v)] [] (β := Unit) (fun y => .bool (true)) (fun y => True) (fun y => []) := by
  refine Spec.enter (vs := [_, _]) Try.func4 rfl Try.ntmps4 rfl (Nat.le_of_ble_eq_true rfl) (fun w0 ok0 => ?_)
  generalize hM0 : blks _ = M0
  have hMn : ∀ {R : List Atom} (b : Nat), M0 b → blks R b := fun b hb => absurd (hM0 ▸ hb) (blks_none (by simp [Atom.dat, Atom.elem]) b)
  refine H_seq ?_
  -- R0 law.go:145
  refine H_region (l := [_]) rfl ?_
  refine HO_assign rfl rfl rfl ?_
  refine HO_nil ?_
  refine H_env (ρ' := [(0, _), (1, _)]) ⟨rfl, rfl, trivial⟩ ?_
  refine H_seq ?_
  -- R1 law.go:146 draws
  refine H_draw (is := []) (Xs := []) (Z := []) (fuel := 8) (l := #[false, false, false, false, false, false, false, false]) mixed rfl rfl rfl ?_
  refine HA_take (i := 0) (listed' := #[true, false, false, false, false, false, false, false]) (bodyPost_pan _ _ _) rfl rfl rfl rfl (by kernel_rfl) rfl (V_move rfl) (fun _ hA => hA.only (is := []) (Y := []) (Z := []) rfl) ?_
  refine HA_take (i := 3) (listed' := #[true, false, false, true, false, false, false, false]) (bodyPost_pan _ _ _) rfl rfl rfl rfl (by kernel_rfl) rfl (V_move rfl) (fun _ hA => hA.only (is := []) (Y := []) (Z := []) rfl) ?_
  refine HA_loud1 (i := 1) (by kernel_rfl) rfl ?_
  refine HO_nilDat kByte ?_
  refine HO_dup (i := 0) rfl rfl ?_
  refine HO_call (first := []) (capt := []) (is := [0]) (R := [_]) rfl rfl rfl rfl rfl Try.call19 rfl (Put_spec _ _ _ _ ?_ ?_) ?_
  · assumption
  · decide
  intro y8 hy8
  refine HA_back (listed' := #[true, true, false, true, false, false, false, false]) rfl (fun _ hA => hA.only (is := []) (Y := []) (Z := [_, _]) rfl) ?_
  refine HA_loud2 (i := 2) (j := 4) (by kernel_rfl) rfl rfl ?_ ?_
  · refine HO_bytesStrOwn (i := 0) rfl rfl rfl Try.underlying28 Try.underlying9 Try.underlying5 rfl rfl ?_
    refine HA_back (listed' := #[true, true, true, true, false, false, false, false]) rfl (fun _ hA => hA.only (is := []) (Y := []) (Z := [_, _]) rfl) ?_
    refine HA_loud1 (i := 4) (by kernel_rfl) rfl ?_
    refine HO_nilDat kByte ?_
    refine HO_dup (i := 0) rfl rfl ?_
    refine HO_call (first := []) (capt := []) (is := [0]) (R := [_, _, _]) rfl rfl rfl rfl rfl Try.call19 rfl (Put_spec _ _ _ _ ?_ ?_) ?_
    · assumption
    · decide
    intro y11 hy11
    refine HA_back (listed' := #[true, true, true, true, true, false, false, false]) rfl (fun _ hA => hA.only (is := []) (Y := []) (Z := [_, _, _, _]) rfl) ?_
    refine HA_take (i := 6) (listed' := #[true, true, true, true, true, false, true, false]) (bodyPost_pan _ _ _) rfl rfl rfl rfl (by kernel_rfl) rfl (V_assign rfl) (fun _ hA => hA.only (is := []) (Y := []) (Z := [_, _, _, _]) rfl) ?_
    refine HA_loud1 (i := 5) (by kernel_rfl) rfl ?_
    refine HO_bytesStrOwn (i := 0) rfl rfl rfl Try.underlying28 Try.underlying9 Try.underlying5 rfl rfl ?_
    refine HA_back (listed' := #[true, true, true, true, true, true, true, false]) rfl (fun _ hA => hA.only (is := []) (Y := []) (Z := [_, _, _, _]) rfl) ?_
    refine HA_take (i := 7) (listed' := #[true, true, true, true, true, true, true, true]) (bodyPost_pan _ _ _) rfl rfl rfl rfl (by kernel_rfl) rfl (V_assign rfl) (fun _ hA => hA.only (is := []) (Y := []) (Z := [_, _, _, _]) rfl) ?_
    refine HA_done (by kernel_rfl) ?_
    refine H_env (ρ' := [(6, _), (5, _), (0, _), (1, _)]) ⟨rfl, rfl, rfl, rfl, trivial⟩ ?_
    refine H_world (fun _ hA => hA.drop (is := [0, 1, 2, 3]) (Y := [_, _, _, _]) (Z := []) rfl) ?_
    refine H_seq ?_
    -- R2 law.go:147
    refine H_region (l := [_, _, _, _, _, _, _, _, _, _, _, _, _, _, _, _, _, _, _, _]) rfl ?_
    refine HO_move rfl rfl rfl ?_
    refine HO_move rfl rfl rfl ?_
    refine HO_bin rfl rfl rfl rfl bin_lts ?_
    refine HO_move rfl rfl rfl ?_
    refine HO_move rfl rfl rfl ?_
    refine HO_bin rfl rfl rfl rfl bin_lss ?_
    refine HO_bin rfl rfl rfl rfl (bin_eqb Try.runUnderlying4) ?_
    refine HO_move rfl rfl rfl ?_
    refine HO_split (d := 20) rfl ?_ ?_
    · intro h20
      (try simp only [decide_eq_true_eq, decide_eq_false_iff_not, Bool.not_eq_true', Bool.not_eq_false', Bool.not_eq_true, Bool.not_eq_false, Bool.true_eq_false, Bool.false_eq_true, not_false_eq_true, not_true_eq_false] at h20)
      refine HO_move rfl rfl rfl ?_
      refine HO_move rfl rfl rfl ?_
      refine HO_bin rfl rfl rfl rfl bin_eqs ?_
      refine HO_move rfl rfl rfl ?_
      refine HO_move rfl rfl rfl ?_
      refine HO_bin rfl rfl rfl rfl bin_eql ?_
      refine HO_bin rfl rfl rfl rfl (bin_eqb Try.runUnderlying4) ?_
      refine HO_pick_t rfl rfl rfl rfl ?_
      refine HO_move rfl rfl rfl ?_
      refine HO_split (d := 29) rfl ?_ ?_
      · intro h29
        (try simp only [decide_eq_true_eq, decide_eq_false_iff_not, Bool.not_eq_true', Bool.not_eq_false', Bool.not_eq_true, Bool.not_eq_false, Bool.true_eq_false, Bool.false_eq_true, not_false_eq_true, not_true_eq_false] at h29)
        refine HO_call (first := []) (capt := []) (is := []) (R := []) rfl rfl rfl rfl rfl Try.call20 rfl lives_spec ?_
        intro y30 hy30
        clear y30 hy30
        refine HO_pick_t rfl rfl rfl rfl ?_
        refine HO_assign rfl rfl rfl ?_
        refine HO_nil ?_
        refine H_env (ρ' := [(4, _)]) ⟨rfl, trivial⟩ ?_
        -- end1
        refine H_ret1 Try.results4 (.tmp rfl) (fun w hA => ⟨(), congrArg Ending.returned ?_, ?_, ?_⟩)
        · (exact congrArg Value.bool (by first | rfl | assumption | simp_all))
        · trivial
        · exact hA.only (is := []) (Z := []) rfl
      · intro h29
        (try simp only [decide_eq_true_eq, decide_eq_false_iff_not, Bool.not_eq_true', Bool.not_eq_false', Bool.not_eq_true, Bool.not_eq_false, Bool.true_eq_false, Bool.false_eq_true, not_false_eq_true, not_true_eq_false] at h29)
        (exact Bool.noConfusion (h29.symm.trans (Cod.enc_eq hu hv)))
    · intro h20
      (try simp only [decide_eq_true_eq, decide_eq_false_iff_not, Bool.not_eq_true', Bool.not_eq_false', Bool.not_eq_true, Bool.not_eq_false, Bool.true_eq_false, Bool.false_eq_true, not_false_eq_true, not_true_eq_false] at h20)
      (exact Bool.noConfusion (h20.symm.trans (Cod.enc_lt hu hv)))
  · refine HO_nilDat kByte ?_
    refine HO_dup (i := 0) rfl rfl ?_
    refine HO_call (first := []) (capt := []) (is := [0]) (R := [_, _, _]) rfl rfl rfl rfl rfl Try.call19 rfl (Put_spec _ _ _ _ ?_ ?_) ?_
    · assumption
    · decide
    intro y11 hy11
    refine HA_back (listed' := #[true, true, false, true, true, false, false, false]) rfl (fun _ hA => hA.only (is := []) (Y := []) (Z := [_, _, _, _]) rfl) ?_
    refine HA_loud2 (i := 2) (j := 5) (by kernel_rfl) rfl rfl ?_ ?_
    · refine HO_bytesStrOwn (i := 2) rfl rfl rfl Try.underlying28 Try.underlying9 Try.underlying5 rfl rfl ?_
      refine HA_back (listed' := #[true, true, true, true, true, false, false, false]) rfl (fun _ hA => hA.only (is := []) (Y := []) (Z := [_, _, _, _]) rfl) ?_
      refine HA_take (i := 6) (listed' := #[true, true, true, true, true, false, true, false]) (bodyPost_pan _ _ _) rfl rfl rfl rfl (by kernel_rfl) rfl (V_assign rfl) (fun _ hA => hA.only (is := []) (Y := []) (Z := [_, _, _, _]) rfl) ?_
      refine HA_loud1 (i := 5) (by kernel_rfl) rfl ?_
      refine HO_bytesStrOwn (i := 0) rfl rfl rfl Try.underlying28 Try.underlying9 Try.underlying5 rfl rfl ?_
      refine HA_back (listed' := #[true, true, true, true, true, true, true, false]) rfl (fun _ hA => hA.only (is := []) (Y := []) (Z := [_, _, _, _]) rfl) ?_
      refine HA_take (i := 7) (listed' := #[true, true, true, true, true, true, true, true]) (bodyPost_pan _ _ _) rfl rfl rfl rfl (by kernel_rfl) rfl (V_assign rfl) (fun _ hA => hA.only (is := []) (Y := []) (Z := [_, _, _, _]) rfl) ?_
      refine HA_done (by kernel_rfl) ?_
      refine H_env (ρ' := [(6, _), (5, _), (0, _), (1, _)]) ⟨rfl, rfl, rfl, rfl, trivial⟩ ?_
      refine H_world (fun _ hA => hA.drop (is := [0, 1, 2, 3]) (Y := [_, _, _, _]) (Z := []) rfl) ?_
      refine H_seq ?_
      -- R2 law.go:147
      refine H_region (l := [_, _, _, _, _, _, _, _, _, _, _, _, _, _, _, _, _, _, _, _]) rfl ?_
      refine HO_move rfl rfl rfl ?_
      refine HO_move rfl rfl rfl ?_
      refine HO_bin rfl rfl rfl rfl bin_lts ?_
      refine HO_move rfl rfl rfl ?_
      refine HO_move rfl rfl rfl ?_
      refine HO_bin rfl rfl rfl rfl bin_lss ?_
      refine HO_bin rfl rfl rfl rfl (bin_eqb Try.runUnderlying4) ?_
      refine HO_move rfl rfl rfl ?_
      refine HO_split (d := 20) rfl ?_ ?_
      · intro h20
        (try simp only [decide_eq_true_eq, decide_eq_false_iff_not, Bool.not_eq_true', Bool.not_eq_false', Bool.not_eq_true, Bool.not_eq_false, Bool.true_eq_false, Bool.false_eq_true, not_false_eq_true, not_true_eq_false] at h20)
        refine HO_move rfl rfl rfl ?_
        refine HO_move rfl rfl rfl ?_
        refine HO_bin rfl rfl rfl rfl bin_eqs ?_
        refine HO_move rfl rfl rfl ?_
        refine HO_move rfl rfl rfl ?_
        refine HO_bin rfl rfl rfl rfl bin_eql ?_
        refine HO_bin rfl rfl rfl rfl (bin_eqb Try.runUnderlying4) ?_
        refine HO_pick_t rfl rfl rfl rfl ?_
        refine HO_move rfl rfl rfl ?_
        refine HO_split (d := 29) rfl ?_ ?_
        · intro h29
          (try simp only [decide_eq_true_eq, decide_eq_false_iff_not, Bool.not_eq_true', Bool.not_eq_false', Bool.not_eq_true, Bool.not_eq_false, Bool.true_eq_false, Bool.false_eq_true, not_false_eq_true, not_true_eq_false] at h29)
          refine HO_call (first := []) (capt := []) (is := []) (R := []) rfl rfl rfl rfl rfl Try.call20 rfl lives_spec ?_
          intro y30 hy30
          clear y30 hy30
          refine HO_pick_t rfl rfl rfl rfl ?_
          refine HO_assign rfl rfl rfl ?_
          refine HO_nil ?_
          refine H_env (ρ' := [(4, _)]) ⟨rfl, trivial⟩ ?_
          -- end2
          refine H_ret1 Try.results4 (.tmp rfl) (fun w hA => ⟨(), congrArg Ending.returned ?_, ?_, ?_⟩)
          · (exact congrArg Value.bool (by first | rfl | assumption | simp_all))
          · trivial
          · exact hA.only (is := []) (Z := []) rfl
        · intro h29
          (try simp only [decide_eq_true_eq, decide_eq_false_iff_not, Bool.not_eq_true', Bool.not_eq_false', Bool.not_eq_true, Bool.not_eq_false, Bool.true_eq_false, Bool.false_eq_true, not_false_eq_true, not_true_eq_false] at h29)
          (exact Bool.noConfusion (h29.symm.trans (Cod.enc_eq hu hv)))
      · intro h20
        (try simp only [decide_eq_true_eq, decide_eq_false_iff_not, Bool.not_eq_true', Bool.not_eq_false', Bool.not_eq_true, Bool.not_eq_false, Bool.true_eq_false, Bool.false_eq_true, not_false_eq_true, not_true_eq_false] at h20)
        (exact Bool.noConfusion (h20.symm.trans (Cod.enc_lt hu hv)))
    · refine HO_bytesStrOwn (i := 0) rfl rfl rfl Try.underlying28 Try.underlying9 Try.underlying5 rfl rfl ?_
      refine HA_back (listed' := #[true, true, false, true, true, true, false, false]) rfl (fun _ hA => hA.only (is := []) (Y := []) (Z := [_, _, _, _]) rfl) ?_
      refine HA_loud1 (i := 2) (by kernel_rfl) rfl ?_
      refine HO_bytesStrOwn (i := 2) rfl rfl rfl Try.underlying28 Try.underlying9 Try.underlying5 rfl rfl ?_
      refine HA_back (listed' := #[true, true, true, true, true, true, false, false]) rfl (fun _ hA => hA.only (is := []) (Y := []) (Z := [_, _, _, _]) rfl) ?_
      refine HA_take (i := 6) (listed' := #[true, true, true, true, true, true, true, false]) (bodyPost_pan _ _ _) rfl rfl rfl rfl (by kernel_rfl) rfl (V_assign rfl) (fun _ hA => hA.only (is := []) (Y := []) (Z := [_, _, _, _]) rfl) ?_
      refine HA_take (i := 7) (listed' := #[true, true, true, true, true, true, true, true]) (bodyPost_pan _ _ _) rfl rfl rfl rfl (by kernel_rfl) rfl (V_assign rfl) (fun _ hA => hA.only (is := []) (Y := []) (Z := [_, _, _, _]) rfl) ?_
      refine HA_done (by kernel_rfl) ?_
      refine H_env (ρ' := [(6, _), (5, _), (0, _), (1, _)]) ⟨rfl, rfl, rfl, rfl, trivial⟩ ?_
      refine H_world (fun _ hA => hA.drop (is := [0, 1, 2, 3]) (Y := [_, _, _, _]) (Z := []) rfl) ?_
      refine H_seq ?_
      -- R2 law.go:147
      refine H_region (l := [_, _, _, _, _, _, _, _, _, _, _, _, _, _, _, _, _, _, _, _]) rfl ?_
      refine HO_move rfl rfl rfl ?_
      refine HO_move rfl rfl rfl ?_
      refine HO_bin rfl rfl rfl rfl bin_lts ?_
      refine HO_move rfl rfl rfl ?_
      refine HO_move rfl rfl rfl ?_
      refine HO_bin rfl rfl rfl rfl bin_lss ?_
      refine HO_bin rfl rfl rfl rfl (bin_eqb Try.runUnderlying4) ?_
      refine HO_move rfl rfl rfl ?_
      refine HO_split (d := 20) rfl ?_ ?_
      · intro h20
        (try simp only [decide_eq_true_eq, decide_eq_false_iff_not, Bool.not_eq_true', Bool.not_eq_false', Bool.not_eq_true, Bool.not_eq_false, Bool.true_eq_false, Bool.false_eq_true, not_false_eq_true, not_true_eq_false] at h20)
        refine HO_move rfl rfl rfl ?_
        refine HO_move rfl rfl rfl ?_
        refine HO_bin rfl rfl rfl rfl bin_eqs ?_
        refine HO_move rfl rfl rfl ?_
        refine HO_move rfl rfl rfl ?_
        refine HO_bin rfl rfl rfl rfl bin_eql ?_
        refine HO_bin rfl rfl rfl rfl (bin_eqb Try.runUnderlying4) ?_
        refine HO_pick_t rfl rfl rfl rfl ?_
        refine HO_move rfl rfl rfl ?_
        refine HO_split (d := 29) rfl ?_ ?_
        · intro h29
          (try simp only [decide_eq_true_eq, decide_eq_false_iff_not, Bool.not_eq_true', Bool.not_eq_false', Bool.not_eq_true, Bool.not_eq_false, Bool.true_eq_false, Bool.false_eq_true, not_false_eq_true, not_true_eq_false] at h29)
          refine HO_call (first := []) (capt := []) (is := []) (R := []) rfl rfl rfl rfl rfl Try.call20 rfl lives_spec ?_
          intro y30 hy30
          clear y30 hy30
          refine HO_pick_t rfl rfl rfl rfl ?_
          refine HO_assign rfl rfl rfl ?_
          refine HO_nil ?_
          refine H_env (ρ' := [(4, _)]) ⟨rfl, trivial⟩ ?_
          -- end3
          refine H_ret1 Try.results4 (.tmp rfl) (fun w hA => ⟨(), congrArg Ending.returned ?_, ?_, ?_⟩)
          · (exact congrArg Value.bool (by first | rfl | assumption | simp_all))
          · trivial
          · exact hA.only (is := []) (Z := []) rfl
        · intro h29
          (try simp only [decide_eq_true_eq, decide_eq_false_iff_not, Bool.not_eq_true', Bool.not_eq_false', Bool.not_eq_true, Bool.not_eq_false, Bool.true_eq_false, Bool.false_eq_true, not_false_eq_true, not_true_eq_false] at h29)
          (exact Bool.noConfusion (h29.symm.trans (Cod.enc_eq hu hv)))
      · intro h20
        (try simp only [decide_eq_true_eq, decide_eq_false_iff_not, Bool.not_eq_true', Bool.not_eq_false', Bool.not_eq_true, Bool.not_eq_false, Bool.true_eq_false, Bool.false_eq_true, not_false_eq_true, not_true_eq_false] at h20)
        (exact Bool.noConfusion (h20.symm.trans (Cod.enc_lt hu hv)))
end Go.Wk
