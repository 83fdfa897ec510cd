/- Contracts of the program's functions, each proved by walking its code. -/
import Derived.Test.YtondhngfjngngaaKecmd2
import Derived.Test.YtondhngfjngngaaCmd
import Derived.Test.YtondhngfjngngaaWk17
set_option maxRecDepth 100000
set_option linter.unusedVariables false
set_option linter.unusedSimpArgs false
namespace Go.Wk.Flaw09b
open Go Go.RowKit Go.Proofs Go.Wk
theorem bd23_0_1_ii {x1 : Int} {x2 : Int} : ∀ w, (Instr.build 23 (List.toArray (List.zip [0, 1] [.int .i64 x1, .int .i64 x2]))).run Try.prog w = .ok (.agg #[.int .i64 x1, .int .i64 x2, .int .i64 (0), .string (⟨#[]⟩), .string (⟨#[]⟩), .string (⟨#[]⟩), .string (⟨#[]⟩), .int .i64 (0)]) w := fun _ => by kernel_rfl
theorem bd23_0_1_2_3_5_iiitt {x1 : Int} {x2 : Int} {x3 : Int} {x4 : ByteArray} {x5 : ByteArray} : ∀ w, (Instr.build 23 (List.toArray (List.zip [0, 1, 2, 3, 5] [.int .i64 x1, .int .i64 x2, .int .i64 x3, .string x4, .string x5]))).run Try.prog w = .ok (.agg #[.int .i64 x1, .int .i64 x2, .int .i64 x3, .string x4, .string (⟨#[]⟩), .string x5, .string (⟨#[]⟩), .int .i64 (0)]) w := fun _ => by kernel_rfl
theorem bd23_0_3_it {x1 : Int} {x2 : ByteArray} : ∀ w, (Instr.build 23 (List.toArray (List.zip [0, 3] [.int .i64 x1, .string x2]))).run Try.prog w = .ok (.agg #[.int .i64 x1, .int .i64 (0), .int .i64 (0), .string x2, .string (⟨#[]⟩), .string (⟨#[]⟩), .string (⟨#[]⟩), .int .i64 (0)]) w := fun _ => by kernel_rfl
end Go.Wk.Flaw09b
namespace Go.Wk
open Go Go.RowKit Go.Proofs Flaw09b 
theorem lives09_spec  : Spec Try.prog 15 #[] [] (β := Unit) (fun y => .bool (true)) (fun y => True) (fun y => []) := by
  refine Spec.enter (vs := []) Try.func15 rfl Try.ntmps15 rfl (Nat.le_of_ble_eq_true rfl) (fun w0 ok0 => ?_)
  generalize hM0 : blks _ = M0
  have hMn : ∀ {R : List Atom} (b : Nat), M0 b → blks R b := fun b hb => absurd (hM0 ▸ hb) (blks_none (by simp [Atom.dat, Atom.elem]) b)
  refine H_seq ?_
  -- R0 law.go:12
  refine H_region (l := [_]) rfl ?_
  refine HO_assign rfl rfl rfl ?_
  refine HO_nil ?_
  refine H_env (ρ' := []) trivial ?_
  refine H_seq ?_
  -- R1 law.go:13
  refine H_region (l := [_, _, _]) rfl ?_
  refine HO_build (xo := [(0, _), (1, _), (2, _), (3, _), (5, _)]) (vs := [_, _, _, _, _]) rfl rfl rfl rfl (bd23_0_1_2_3_5_iiitt) ?_
  refine HO_alloc (cs := [_, _, _, _, _, _, _, _]) rfl rfl Try.zeroValue23 rfl ?_
  intro g1
  refine HO_store (i := 0) (j := 0) (us := []) (old := [_, _, _, _, _, _, _, _]) (ts := []) (cs := [_, _, _, _, _, _, _, _]) (R := []) (new := [_, _, _, _, _, _, _, _]) rfl rfl rfl Try.sizeOf23 rfl (by simp [Value.oneCell']) rfl rfl rfl rfl rfl rfl ?_
  refine HO_nil ?_
  refine H_env (ρ' := [(1, _)]) ⟨rfl, trivial⟩ ?_
  refine H_seq ?_
  -- R2 law.go:14
  refine H_region (l := [_, _, _, _, _, _, _, _, _, _, _, _, _, _, _]) rfl ?_
  refine HO_loadA (i := 0) (us := []) (cs := [_, _, _, _, _, _, _, _]) (ts := []) rfl rfl rfl Try.isAgg23 Try.sizeOf23 rfl (.loc _ _ _) rfl rfl rfl rfl ?_
  refine HO_call (first := []) (capt := []) (is := []) (R := [_]) rfl rfl rfl rfl rfl Try.call16 rfl (good_spec _ _ _ _ _ _ _ _) ?_
  intro y4 hy4
  clear y4 hy4
  refine HO_move rfl rfl rfl ?_
  refine HO_split (d := 5) rfl ?_ ?_
  · intro h5
    (try simp only [decide_eq_true_eq, decide_eq_false_iff_not, Bool.not_eq_true', Bool.not_eq_false', Bool.not_eq_true, Bool.not_eq_false, Bool.true_eq_false, Bool.false_eq_true, not_false_eq_true, not_true_eq_false] at h5)
    refine HO_build (xo := [(0, _), (1, _)]) (vs := [_, _]) rfl rfl rfl rfl (bd23_0_1_ii) ?_
    refine HO_call (first := []) (capt := []) (is := []) (R := [_]) rfl rfl rfl rfl rfl Try.call16 rfl (good_spec _ _ _ _ _ _ _ _) ?_
    intro y7 hy7
    clear y7 hy7
    refine HO_not rfl rfl rfl ?_
    refine HO_pick_t rfl rfl rfl rfl ?_
    refine HO_move rfl rfl rfl ?_
    refine HO_split (d := 10) rfl ?_ ?_
    · intro h10
      (try simp only [decide_eq_true_eq, decide_eq_false_iff_not, Bool.not_eq_true', Bool.not_eq_false', Bool.not_eq_true, Bool.not_eq_false, Bool.true_eq_false, Bool.false_eq_true, not_false_eq_true, not_true_eq_false] at h10)
      refine HO_build (xo := [(0, _), (3, _)]) (vs := [_, _]) rfl rfl rfl rfl (bd23_0_3_it) ?_
      refine HO_call (first := []) (capt := []) (is := []) (R := [_]) rfl rfl rfl rfl rfl Try.call18 rfl (reads_spec _ _ _ _ _ _ _ _) ?_
      intro y12 hy12
      clear y12 hy12
      refine HO_pick_t rfl rfl rfl rfl ?_
      refine HO_move rfl rfl rfl ?_
      refine HO_split (d := 14) rfl ?_ ?_
      · intro h14
        (try simp only [decide_eq_true_eq, decide_eq_false_iff_not, Bool.not_eq_true', Bool.not_eq_false', Bool.not_eq_true, Bool.not_eq_false, Bool.true_eq_false, Bool.false_eq_true, not_false_eq_true, not_true_eq_false] at h14)
        refine HO_call (first := []) (capt := []) (is := []) (R := [_]) rfl rfl rfl rfl rfl Try.call20 rfl (changes_spec _) ?_
        intro y15 hy15
        clear y15 hy15
        refine HO_pick_t rfl rfl rfl rfl ?_
        refine HO_assign rfl rfl rfl ?_
        refine HO_nil ?_
        refine H_env (ρ' := [(0, _)]) ⟨rfl, trivial⟩ ?_
        refine H_world (fun _ hA => hA.drop (is := [0]) (Y := [_]) (Z := []) rfl) ?_
        -- end1
        refine H_ret1 Try.results15 (.tmp rfl) (fun w hA => ⟨(), congrArg Ending.returned ?_, ?_, ?_⟩)
        · (exact congrArg Value.bool (by decide +kernel))
        · trivial
        · exact hA.only (is := []) (Z := []) rfl
      · intro h14
        (try simp only [decide_eq_true_eq, decide_eq_false_iff_not, Bool.not_eq_true', Bool.not_eq_false', Bool.not_eq_true, Bool.not_eq_false, Bool.true_eq_false, Bool.false_eq_true, not_false_eq_true, not_true_eq_false] at h14)
        (exact absurd h14 (by decide +kernel))
    · intro h10
      (try simp only [decide_eq_true_eq, decide_eq_false_iff_not, Bool.not_eq_true', Bool.not_eq_false', Bool.not_eq_true, Bool.not_eq_false, Bool.true_eq_false, Bool.false_eq_true, not_false_eq_true, not_true_eq_false] at h10)
      (exact absurd h10 (by decide +kernel))
  · intro h5
    (try simp only [decide_eq_true_eq, decide_eq_false_iff_not, Bool.not_eq_true', Bool.not_eq_false', Bool.not_eq_true, Bool.not_eq_false, Bool.true_eq_false, Bool.false_eq_true, not_false_eq_true, not_true_eq_false] at h5)
    (exact absurd h5 (by decide +kernel))
end Go.Wk
