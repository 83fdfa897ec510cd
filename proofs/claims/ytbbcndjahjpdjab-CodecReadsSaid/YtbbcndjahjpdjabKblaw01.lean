/- Contracts of the program's functions, each proved by walking its code. -/
import Derived.Test.YtbbcndjahjpdjabKbref01b
import Derived.Test.YtbbcndjahjpdjabCod2
set_option maxRecDepth 100000
set_option linter.unusedVariables false
set_option linter.unusedSimpArgs false
namespace Go.Wk.Flaw01
open Go Go.RowKit Go.Proofs Go.Wk
theorem elt5 : Elt Try.prog 5 (.int .u8 (0)) 1 1 := Elt.of (by kernel_rfl) (by rfl) (by decide) (by decide)
end Go.Wk.Flaw01
namespace Go.Wk
open Go Go.RowKit Go.Proofs Flaw01 
theorem lives_spec  : Spec Try.prog 15 #[] [] (β := Unit) (fun y => .bool (true)) (fun y => True) (fun y => []) := by
  refine Spec.enter (vs := []) Try.func15 rfl Try.ntmps15 rfl (Nat.le_of_ble_eq_true rfl) (fun w0 ok0 => ?_)
  generalize hM0 : blks _ = M0
  have hMn : ∀ {R : List Atom} (b : Nat), M0 b → blks R b := fun b hb => absurd (hM0 ▸ hb) (blks_none (by simp [Atom.dat, Atom.elem]) b)
  refine H_seq ?_
  -- R0 law.go:11
  refine H_region (l := [_]) rfl ?_
  refine HO_assign rfl rfl rfl ?_
  refine HO_nil ?_
  refine H_env (ρ' := []) trivial ?_
  refine H_seq ?_
  -- R1 law.go:12
  refine H_region (l := [_, _, _, _, _, _, _, _, _, _, _, _, _, _, _, _, _, _, _, _, _, _, _, _]) rfl ?_
  refine HO_call (first := []) (capt := []) (is := []) (R := []) rfl rfl rfl rfl rfl Try.call24 rfl (zig_spec _) ?_
  intro y1 hy1
  clear y1 hy1
  refine HO_bin rfl rfl rfl rfl bin_eql ?_
  refine HO_move rfl rfl rfl ?_
  refine HO_split (d := 3) rfl ?_ ?_
  · intro h3
    (try simp only [decide_eq_true_eq, decide_eq_false_iff_not, Bool.not_eq_true', Bool.not_eq_false', Bool.not_eq_true, Bool.not_eq_false, Bool.true_eq_false, Bool.false_eq_true, not_false_eq_true, not_true_eq_false] at h3)
    refine HO_nilDat kByte ?_
    refine HO_dup (i := 0) rfl rfl ?_
    refine HO_call (first := []) (capt := []) (is := [0]) (R := [_]) rfl rfl rfl rfl rfl Try.call18 rfl (Put_spec _ _ _ _ ?_ ?_) ?_
    · decide
    · decide
    intro y4 hy4
    refine HO_buildSlice (kd := kByte) (xo := [_, _]) (vs := [_, _]) (cs := [_, _]) (xs := [(129 : UInt8), 44]) rfl rfl rfl rfl Try.underlying25 elt5 rfl rfl rfl (by decide) (by decide) (by simp [Value.cells]) rfl (fun _ _ _ => ⟨_, _, rfl, ⟨rfl, trivial⟩, ⟨_, _, rfl, ⟨rfl, trivial⟩, rfl⟩⟩) ?_
    intro g5
    refine HO_call (first := []) (capt := []) (is := [0, 0]) (R := [_]) rfl rfl rfl rfl rfl Try.call35 rfl (Spec.lend (pre1 := [_]) (pre2 := []) (Spec.lend (pre1 := []) (pre2 := [_]) (rsame_spec _ _ _ _ _ _) rfl (fun _ _ ha => nomatch ha)) rfl (by intro y at' ha; obtain rfl := List.mem_singleton.1 ha; first | exact Atom.Flat.own kByte_plain _ _ _ _ | exact Atom.Flat.own kInt_plain _ _ _ _ | exact Atom.Flat.own kStr_plain _ _ _ _ | exact Atom.Flat.loc _ _ _)) ?_
    intro y6 hy6
    clear y6 hy6
    refine HO_pick_t rfl rfl rfl rfl ?_
    refine HO_move rfl rfl rfl ?_
    refine HO_split (d := 8) rfl ?_ ?_
    · intro h8
      (try simp only [decide_eq_true_eq, decide_eq_false_iff_not, Bool.not_eq_true', Bool.not_eq_false', Bool.not_eq_true, Bool.not_eq_false, Bool.true_eq_false, Bool.false_eq_true, not_false_eq_true, not_true_eq_false] at h8)
      refine HO_nilDat kByte ?_
      refine HO_dup (i := 0) rfl rfl ?_
      refine HO_call (first := []) (capt := []) (is := [0]) (R := [_, _, _, _]) rfl rfl rfl rfl rfl Try.call17 rfl (PutText_spec _ _ _ _ ?_ ?_) ?_
      · decide
      · decide
      intro y9 hy9
      refine HO_buildSlice (kd := kByte) (xo := [_, _, _]) (vs := [_, _, _]) (cs := [_, _, _]) (xs := [(2 : UInt8), 97, 98]) rfl rfl rfl rfl Try.underlying25 elt5 rfl rfl rfl (by decide) (by decide) (by simp [Value.cells]) rfl (fun _ _ _ => ⟨_, _, rfl, ⟨rfl, trivial⟩, ⟨_, _, rfl, ⟨rfl, trivial⟩, ⟨_, _, rfl, ⟨rfl, trivial⟩, rfl⟩⟩⟩) ?_
      intro g10
      refine HO_call (first := []) (capt := []) (is := [0, 0]) (R := [_, _, _, _]) rfl rfl rfl rfl rfl Try.call35 rfl (Spec.lend (pre1 := [_]) (pre2 := []) (Spec.lend (pre1 := []) (pre2 := [_]) (rsame_spec _ _ _ _ _ _) rfl (fun _ _ ha => nomatch ha)) rfl (by intro y at' ha; obtain rfl := List.mem_singleton.1 ha; first | exact Atom.Flat.own kByte_plain _ _ _ _ | exact Atom.Flat.own kInt_plain _ _ _ _ | exact Atom.Flat.own kStr_plain _ _ _ _ | exact Atom.Flat.loc _ _ _)) ?_
      intro y11 hy11
      clear y11 hy11
      refine HO_pick_t rfl rfl rfl rfl ?_
      refine HO_move rfl rfl rfl ?_
      refine HO_split (d := 13) rfl ?_ ?_
      · intro h13
        (try simp only [decide_eq_true_eq, decide_eq_false_iff_not, Bool.not_eq_true', Bool.not_eq_false', Bool.not_eq_true, Bool.not_eq_false, Bool.true_eq_false, Bool.false_eq_true, not_false_eq_true, not_true_eq_false] at h13)
        refine HO_nilDat kByte ?_
        refine HO_dup (i := 0) rfl rfl ?_
        refine HO_call (first := []) (capt := []) (is := [0]) (R := [_, _, _, _, _, _, _]) rfl rfl rfl rfl rfl Try.call84 rfl (Frame_spec _ _ _ ?_) ?_
        · decide
        intro y14 hy14
        refine HO_bi rfl rfl rfl (bi_len_sl Try.underlying25) ?_
        refine HO_bin rfl rfl rfl rfl bin_eql ?_
        refine HO_pick_t rfl rfl rfl rfl ?_
        refine HO_move rfl rfl rfl ?_
        refine HO_split (d := 18) rfl ?_ ?_
        · intro h18
          (try simp only [decide_eq_true_eq, decide_eq_false_iff_not, Bool.not_eq_true', Bool.not_eq_false', Bool.not_eq_true, Bool.not_eq_false, Bool.true_eq_false, Bool.false_eq_true, not_false_eq_true, not_true_eq_false] at h18)
          refine HO_buildSlice (kd := kByte) (xo := [_, _, _, _, _, _, _, _, _]) (vs := [_, _, _, _, _, _, _, _, _]) (cs := [_, _, _, _, _, _, _, _, _]) (xs := [(49 : UInt8), 50, 51, 52, 53, 54, 55, 56, 57]) rfl rfl rfl rfl Try.underlying25 elt5 rfl rfl rfl (by decide) (by decide) (by simp [Value.cells]) rfl (fun _ _ _ => ⟨_, _, rfl, ⟨rfl, trivial⟩, ⟨_, _, rfl, ⟨rfl, trivial⟩, ⟨_, _, rfl, ⟨rfl, trivial⟩, ⟨_, _, rfl, ⟨rfl, trivial⟩, ⟨_, _, rfl, ⟨rfl, trivial⟩, ⟨_, _, rfl, ⟨rfl, trivial⟩, ⟨_, _, rfl, ⟨rfl, trivial⟩, ⟨_, _, rfl, ⟨rfl, trivial⟩, ⟨_, _, rfl, ⟨rfl, trivial⟩, rfl⟩⟩⟩⟩⟩⟩⟩⟩⟩) ?_
          intro g19
          refine HO_constBytes (i := 0) (R := [_, _, _, _, _, _, _, _]) rfl rfl rfl Try.underlying25 Try.underlying5 rfl rfl hMn (by decide) ?_
          refine HO_dup (i := 0) rfl rfl ?_
          refine HO_call (first := []) (capt := []) (is := [0]) (R := [_, _, _, _, _, _, _, _, _]) rfl rfl rfl rfl rfl Try.call85 rfl (Sum_spec _ _ _) ?_
          intro y21 hy21
          clear y21 hy21
          refine HO_bin rfl rfl rfl rfl bin_eql ?_
          refine HO_pick_t rfl rfl rfl rfl ?_
          refine HO_assign rfl rfl rfl ?_
          refine HO_nil ?_
          refine H_env (ρ' := [(0, _)]) ⟨rfl, trivial⟩ ?_
          refine H_world (fun _ hA => hA.drop (is := [0, 1, 2, 3, 4, 5, 6, 7, 8]) (Y := [_, _, _, _, _, _, _, _, _]) (Z := []) rfl) ?_
          -- end1
          refine H_ret1 Try.results15 (.tmp rfl) (fun w hA => ⟨(), congrArg Ending.returned ?_, ?_, ?_⟩)
          · (exact congrArg Value.bool (by decide +kernel))
          · trivial
          · exact hA.only (is := []) (Z := []) rfl
        · intro h18
          (try simp only [decide_eq_true_eq, decide_eq_false_iff_not, Bool.not_eq_true', Bool.not_eq_false', Bool.not_eq_true, Bool.not_eq_false, Bool.true_eq_false, Bool.false_eq_true, not_false_eq_true, not_true_eq_false] at h18)
          (exact absurd h18 (by decide +kernel))
      · intro h13
        (try simp only [decide_eq_true_eq, decide_eq_false_iff_not, Bool.not_eq_true', Bool.not_eq_false', Bool.not_eq_true, Bool.not_eq_false, Bool.true_eq_false, Bool.false_eq_true, not_false_eq_true, not_true_eq_false] at h13)
        (exact absurd h13 (by decide))
    · intro h8
      (try simp only [decide_eq_true_eq, decide_eq_false_iff_not, Bool.not_eq_true', Bool.not_eq_false', Bool.not_eq_true, Bool.not_eq_false, Bool.true_eq_false, Bool.false_eq_true, not_false_eq_true, not_true_eq_false] at h8)
      (exact absurd h8 (by decide))
  · intro h3
    (try simp only [decide_eq_true_eq, decide_eq_false_iff_not, Bool.not_eq_true', Bool.not_eq_false', Bool.not_eq_true, Bool.not_eq_false, Bool.true_eq_false, Bool.false_eq_true, not_false_eq_true, not_true_eq_false] at h3)
    (exact absurd rfl h3)
end Go.Wk
