/- Contracts of the program's functions, each proved by walking its code. -/
import Derived.Test.YtondhngfjngngaaKeent2
import Derived.Test.YtondhngfjngngaaEnt
set_option maxRecDepth 100000
set_option linter.unusedVariables false
set_option linter.unusedSimpArgs false
namespace Go.Wk.Flaw10
open Go Go.RowKit Go.Proofs Go.Wk
theorem elt3 : Elt Try.prog 3 (.int .i64 (0)) 1 8 := Elt.of (by kernel_rfl) (by rfl) (by decide) (by decide)
theorem elt5 : Elt Try.prog 5 (.int .u8 (0)) 1 1 := Elt.of (by kernel_rfl) (by rfl) (by decide) (by decide)
theorem bd45__  : ∀ w, (Instr.build 45 (List.toArray (List.zip [] []))).run Try.prog w = .ok (.agg #[.slice none 0 0, .slice none 0 0]) w := fun _ => by kernel_rfl
theorem bd45_0_s {a1 : Option Addr} {n1 c1 : Nat} : ∀ w, (Instr.build 45 (List.toArray (List.zip [0] [.slice a1 n1 c1]))).run Try.prog w = .ok (.agg #[.slice a1 n1 c1, .slice none 0 0]) w := fun _ => by kernel_rfl
theorem bd61_0_1_2_iii {x1 : Int} {x2 : Int} {x3 : Int} : ∀ w, (Instr.build 61 (List.toArray (List.zip [0, 1, 2] [.int .i64 x1, .int .i64 x2, .int .i64 x3]))).run Try.prog w = .ok (.agg #[.int .i64 x1, .int .i64 x2, .int .i64 x3, .int .i64 (0), .int .i64 (0), .int .i64 (0), .string (⟨#[]⟩), .string (⟨#[]⟩), .string (⟨#[]⟩), .string (⟨#[]⟩), .int .i64 (0), .slice none 0 0, .slice none 0 0]) w := fun _ => by kernel_rfl
end Go.Wk.Flaw10
namespace Go.Wk
open Go Go.RowKit Go.Proofs Flaw10 
theorem lives10_spec  : Spec Try.prog 31 #[] [] (β := Unit) (fun y => .bool (true)) (fun y => True) (fun y => []) := by
  refine Spec.enter (vs := []) Try.func31 rfl Try.ntmps31 rfl (Nat.le_of_ble_eq_true rfl) (fun w0 ok0 => ?_)
  generalize hM0 : blks _ = M0
  have hMn : ∀ {R : List Atom} (b : Nat), M0 b → blks R b := fun b hb => absurd (hM0 ▸ hb) (blks_none (by simp [Atom.dat, Atom.elem]) b)
  refine H_seq ?_
  -- R0 law.go:12
  refine H_region (l := [_]) rfl ?_
  refine HO_assign rfl rfl rfl ?_
  refine HO_nil ?_
  refine H_env (ρ' := []) trivial ?_
  refine H_seq ?_
  -- R1 law.go:13
  refine H_region (l := [_, _, _]) rfl ?_
  refine HO_build (xo := [(0, _), (1, _), (2, _)]) (vs := [_, _, _]) rfl rfl rfl rfl (bd61_0_1_2_iii) ?_
  refine HO_alloc (cs := [_, _, _, _, _, _, _, _, _, _, _, _, _]) rfl rfl Try.zeroValue61 rfl ?_
  intro g1
  refine HO_store (i := 0) (j := 0) (us := []) (old := [_, _, _, _, _, _, _, _, _, _, _, _, _]) (ts := []) (cs := [_, _, _, _, _, _, _, _, _, _, _, _, _]) (R := []) (new := [_, _, _, _, _, _, _, _, _, _, _, _, _]) rfl rfl rfl Try.sizeOf61 rfl (by simp [Value.oneCell']) rfl rfl rfl rfl rfl rfl ?_
  refine HO_nil ?_
  refine H_env (ρ' := [(1, _)]) ⟨rfl, trivial⟩ ?_
  refine H_seq ?_
  -- R2 law.go:14
  refine H_region (l := [_, _, _, _, _, _, _, _, _, _, _, _, _, _, _, _, _, _, _]) rfl ?_
  refine HO_loadA (i := 0) (us := []) (cs := [_, _, _, _, _, _, _, _, _, _, _, _, _]) (ts := []) rfl rfl rfl Try.isAgg61 Try.sizeOf61 rfl (.loc _ _ _) rfl rfl rfl rfl ?_
  refine HO_nilDat kInt ?_
  refine HO_nilDat kInt ?_
  refine HO_dup (i := 1) rfl rfl ?_
  refine HO_dup (i := 1) rfl rfl ?_
  refine HO_call (first := []) (capt := []) (is := [0, 0]) (R := [_, _, _]) rfl rfl rfl rfl rfl Try.call39 rfl (entgood_spec _ _ _ _ _ _ _ _ _ _ _ _ _ _ _ _ _ ?_ ?_) ?_
  · (first | omega | assumption | decide)
  · (first | omega | assumption | decide)
  intro y4 hy4
  clear y4 hy4
  refine HO_move rfl rfl rfl ?_
  refine HO_split (d := 5) rfl ?_ ?_
  · intro h5
    (try simp only [decide_eq_true_eq, decide_eq_false_iff_not, Bool.not_eq_true', Bool.not_eq_false', Bool.not_eq_true, Bool.not_eq_false, Bool.true_eq_false, Bool.false_eq_true, not_false_eq_true, not_true_eq_false] at h5)
    refine HO_loadA (i := 2) (us := []) (cs := [_, _, _, _, _, _, _, _, _, _, _, _, _]) (ts := []) rfl rfl rfl Try.isAgg61 Try.sizeOf61 rfl (.loc _ _ _) rfl rfl rfl rfl ?_
    refine HO_nilDat kInt ?_
    refine HO_nilDat kInt ?_
    refine HO_dup (i := 1) rfl rfl ?_
    refine HO_dup (i := 1) rfl rfl ?_
    refine HO_call (first := []) (capt := []) (is := [0, 0]) (R := [_, _, _, _, _]) rfl rfl rfl rfl rfl Try.call44 rfl (entbytes_spec _ _ _ _ _ _ _ _ _ _ _ _ _ _ _ _ _ ?_ ?_ ?_ ?_) ?_
    · (first | omega | assumption | decide)
    · (first | omega | assumption | decide)
    · (first | omega | assumption | decide)
    · (first | omega | assumption | decide)
    intro y7 hy7
    refine HO_buildSlice (kd := kByte) (xo := [_, _, _]) (vs := [_, _, _]) (cs := [_, _, _]) (xs := [2, 2, 2]) rfl rfl rfl rfl Try.underlying28 elt5 rfl rfl rfl (by decide) (by decide) (by simp [Value.cells]) rfl (fun _ _ _ => ⟨_, _, rfl, ⟨rfl, trivial⟩, ⟨_, _, rfl, ⟨rfl, trivial⟩, ⟨_, _, rfl, ⟨rfl, trivial⟩, rfl⟩⟩⟩) ?_
    intro g8
    refine HO_dup (i := 1) rfl rfl ?_
    refine HO_call (first := []) (capt := []) (is := [0, 1]) (R := [_, _, _, _, _, _]) rfl rfl rfl rfl rfl Try.call22 rfl (Spec.lend (pre1 := [_]) (pre2 := []) (rsame_spec _ _ _ _ _ _) rfl (fun _ _ ha => nomatch ha)) ?_
    intro y9 hy9
    clear y9 hy9
    refine HO_pick_t rfl rfl rfl rfl ?_
    refine HO_move rfl rfl rfl ?_
    refine HO_split (d := 11) rfl ?_ ?_
    · intro h11
      (try simp only [decide_eq_true_eq, decide_eq_false_iff_not, Bool.not_eq_true', Bool.not_eq_false', Bool.not_eq_true, Bool.not_eq_false, Bool.true_eq_false, Bool.false_eq_true, not_false_eq_true, not_true_eq_false] at h11)
      refine HO_build (xo := []) (vs := []) rfl rfl rfl rfl (bd45__) ?_
      refine HO_nilDat kInt ?_
      refine HO_nilDat kInt ?_
      refine HO_dup (i := 1) rfl rfl ?_
      refine HO_dup (i := 1) rfl rfl ?_
      refine HO_call (first := []) (capt := []) (is := [0, 0]) (R := [_, _, _, _, _, _, _, _, _]) rfl rfl rfl rfl rfl Try.call38 rfl (goodconf_spec _ _ _ _ _ _) ?_
      intro y13 hy13
      clear y13 hy13
      refine HO_not rfl rfl rfl ?_
      refine HO_pick_t rfl rfl rfl rfl ?_
      refine HO_move rfl rfl rfl ?_
      refine HO_split (d := 16) rfl ?_ ?_
      · intro h16
        (try simp only [decide_eq_true_eq, decide_eq_false_iff_not, Bool.not_eq_true', Bool.not_eq_false', Bool.not_eq_true, Bool.not_eq_false, Bool.true_eq_false, Bool.false_eq_true, not_false_eq_true, not_true_eq_false] at h16)
        refine HO_buildSlice (kd := kInt) (xo := [_, _]) (vs := [_, _]) (cs := [_, _]) (xs := [1, 3]) rfl rfl rfl rfl Try.underlying43 elt3 rfl rfl rfl (by decide) (by decide) (by simp [Value.cells]) rfl (by intro ok w _; exact ⟨_, _, rfl, ⟨rfl, by first | omega | (constructor <;> omega)⟩, ⟨_, _, rfl, ⟨rfl, by first | omega | (constructor <;> omega)⟩, rfl⟩⟩) ?_
        intro g17
        refine HO_build (xo := [(0, _)]) (vs := [_]) rfl rfl rfl rfl (bd45_0_s) ?_
        refine HO_nilDat kInt ?_
        refine HO_dup (i := 0) rfl rfl ?_
        refine HO_call (first := []) (capt := []) (is := [1, 0]) (R := [_, _, _, _, _, _, _, _, _, _]) rfl rfl rfl rfl rfl Try.call38 rfl (Spec.lend (pre1 := []) (pre2 := [_]) (goodconf_spec _ _ _ _ _ _) rfl (fun _ _ ha => nomatch ha)) ?_
        intro y19 hy19
        clear y19 hy19
        refine HO_pick_t rfl rfl rfl rfl ?_
        refine HO_assign rfl rfl rfl ?_
        refine HO_nil ?_
        refine H_env (ρ' := [(0, _)]) ⟨rfl, trivial⟩ ?_
        refine H_world (fun _ hA => hA.drop (is := [0, 1, 2, 3, 4, 5, 6, 7, 8, 9, 10]) (Y := [_, _, _, _, _, _, _, _, _, _, _]) (Z := []) rfl) ?_
        -- end1
        refine H_ret1 Try.results31 (.tmp rfl) (fun w hA => ⟨(), congrArg Ending.returned ?_, ?_, ?_⟩)
        · (exact congrArg Value.bool (by decide +kernel))
        · trivial
        · exact hA.only (is := []) (Z := []) rfl
      · intro h16
        (try simp only [decide_eq_true_eq, decide_eq_false_iff_not, Bool.not_eq_true', Bool.not_eq_false', Bool.not_eq_true, Bool.not_eq_false, Bool.true_eq_false, Bool.false_eq_true, not_false_eq_true, not_true_eq_false] at h16)
        (exact absurd h16 (by decide +kernel))
    · intro h11
      (try simp only [decide_eq_true_eq, decide_eq_false_iff_not, Bool.not_eq_true', Bool.not_eq_false', Bool.not_eq_true, Bool.not_eq_false, Bool.true_eq_false, Bool.false_eq_true, not_false_eq_true, not_true_eq_false] at h11)
      (exact absurd h11 (by decide +kernel))
  · intro h5
    (try simp only [decide_eq_true_eq, decide_eq_false_iff_not, Bool.not_eq_true', Bool.not_eq_false', Bool.not_eq_true, Bool.not_eq_false, Bool.true_eq_false, Bool.false_eq_true, not_false_eq_true, not_true_eq_false] at h5)
    (exact absurd h5 (by decide +kernel))
end Go.Wk
