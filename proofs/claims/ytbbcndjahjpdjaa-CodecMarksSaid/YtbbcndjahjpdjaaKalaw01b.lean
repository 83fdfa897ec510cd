/- Contracts of the program's functions, each proved by walking its code. -/
import Derived.Test.YtbbcndjahjpdjaaKalaw01
import Derived.Test.YtbbcndjahjpdjaaCod3
import Derived.Test.YtbbcndjahjpdjaaWk12
set_option maxRecDepth 100000
set_option linter.unusedVariables false
set_option linter.unusedSimpArgs false
namespace Go.Wk.Flaw01b
open Go Go.RowKit Go.Proofs Go.Wk

end Go.Wk.Flaw01b
namespace Go.Wk
open Go Go.RowKit Go.Proofs Flaw01b 
theorem CodecNumbers_spec (b : List UInt8) (u : Nat) (n : Int) (a : Option Addr) (c : Nat) (hu : u < 18446744073709551616) : Spec Try.prog 6 #[.slice a (b.length) c, .int .u64 (u), .int .i64 (n)] [.dat kByte.sl (b) [.slice a (b.length) c]] (β := Unit) (fun y => .bool (true)) (fun y => True) (fun y => []) := by
  refine Spec.enter (vs := [_, _, _]) Try.func6 rfl Try.ntmps6 rfl (Nat.le_of_ble_eq_true rfl) (fun w0 ok0 => ?_)
  generalize hM0 : blks _ = M0
  have hMn : ∀ {R : List Atom} (b : Nat), M0 b → blks R b := fun b hb => absurd (hM0 ▸ hb) (blks_none (by simp [Atom.dat, Atom.elem]) b)
  refine H_seq ?_
  -- R0 law.go:27
  refine H_region (l := [_]) rfl ?_
  refine HO_assign rfl rfl rfl ?_
  refine HO_nil ?_
  refine H_env (ρ' := [(0, _), (1, _), (2, _)]) ⟨rfl, rfl, rfl, trivial⟩ ?_
  refine H_seq ?_
  refine H_seq ?_
  -- R1 law.go:28
  refine H_region (l := [_, _, _]) rfl ?_
  refine HO_move rfl rfl rfl ?_
  refine HO_bi rfl rfl rfl (bi_len_sl Try.underlying28) ?_
  refine HO_bin rfl rfl rfl rfl bin_gtr ?_
  refine HO_nil ?_
  refine H_env (ρ' := [(15, _), (0, _), (1, _), (2, _)]) ⟨rfl, rfl, rfl, rfl, trivial⟩ ?_
  refine H_cond rfl ?_ ?_
  · intro h15
    (try simp only [decide_eq_true_eq, decide_eq_false_iff_not, Bool.not_eq_true', Bool.not_eq_false', Bool.not_eq_true, Bool.not_eq_false, Bool.true_eq_false, Bool.false_eq_true, not_false_eq_true, not_true_eq_false] at h15)
    refine H_seq ?_
    -- R2 law.go:29
    refine H_region (l := [_, _]) rfl ?_
    refine HO_call (first := []) (capt := []) (is := []) (R := [_]) rfl rfl rfl rfl rfl Try.call20 rfl lives_spec ?_
    intro y16 hy16
    clear y16 hy16
    refine HO_assign rfl rfl rfl ?_
    refine HO_nil ?_
    refine H_env (ρ' := [(6, _)]) ⟨rfl, trivial⟩ ?_
    refine H_world (fun _ hA => hA.drop (is := [0]) (Y := [_]) (Z := []) rfl) ?_
    -- end1
    refine H_ret1 Try.results6 (.tmp rfl) (fun w hA => ⟨(), congrArg Ending.returned ?_, ?_, ?_⟩)
    · (exact congrArg Value.bool (by first | rfl | assumption | simp_all))
    · trivial
    · exact hA.only (is := []) (Z := []) rfl
  · intro h15
    (try simp only [decide_eq_true_eq, decide_eq_false_iff_not, Bool.not_eq_true', Bool.not_eq_false', Bool.not_eq_true, Bool.not_eq_false, Bool.true_eq_false, Bool.false_eq_true, not_false_eq_true, not_true_eq_false] at h15)
    refine H_skip ?_
    refine H_seq ?_
    -- R3 law.go:31
    refine H_region (l := [_, _, _, _, _, _, _]) rfl ?_
    refine HO_move rfl rfl rfl ?_
    refine HO_dup (i := 0) rfl rfl ?_
    refine HO_call (first := []) (capt := []) (is := [0]) (R := [_]) rfl rfl rfl rfl rfl Try.call22 rfl (rLend_spec _ _ _ ?_) ?_
    · (first | omega | assumption | decide)
    intro y19 hy19
    refine HO_move rfl rfl rfl ?_
    refine HO_extract (vs := [_, _]) rfl rfl rfl rfl ?_
    refine HO_extract (vs := [_, _]) rfl rfl rfl rfl ?_
    refine HO_assign rfl rfl rfl ?_
    refine HO_assign rfl rfl rfl ?_
    refine HO_nil ?_
    refine H_env (ρ' := [(8, _), (7, _), (0, _), (1, _), (2, _)]) ⟨rfl, rfl, rfl, rfl, rfl, trivial⟩ ?_
    refine H_seq ?_
    -- R4 law.go:32
    refine H_region (l := [_, _, _, _, _, _, _]) rfl ?_
    refine HO_move rfl rfl rfl ?_
    refine HO_dup (i := 1) rfl rfl ?_
    refine HO_call (first := []) (capt := []) (is := [0]) (R := [_, _, _]) rfl rfl rfl rfl rfl Try.call21 rfl (Get_spec _ _ _) ?_
    intro y24 hy24
    clear y24 hy24
    refine HO_move rfl rfl rfl ?_
    refine HO_extract (vs := [_, _]) rfl rfl rfl rfl ?_
    refine HO_extract (vs := [_, _]) rfl rfl rfl rfl ?_
    refine HO_assign rfl rfl rfl ?_
    refine HO_assign rfl rfl rfl ?_
    refine HO_nil ?_
    refine H_env (ρ' := [(10, _), (9, _), (8, _), (7, _), (0, _), (1, _), (2, _)]) ⟨rfl, rfl, rfl, rfl, rfl, rfl, rfl, trivial⟩ ?_
    refine H_seq ?_
    -- R5 law.go:33
    refine H_region (l := [_, _, _, _, _, _, _]) rfl ?_
    refine HO_move rfl rfl rfl ?_
    refine HO_dup (i := 2) rfl rfl ?_
    refine HO_call (first := []) (capt := []) (is := [0]) (R := [_, _, _]) rfl rfl rfl rfl rfl Try.call23 rfl (rGet_spec _ _ _) ?_
    intro y29 hy29
    clear y29 hy29
    refine HO_move rfl rfl rfl ?_
    refine HO_extract (vs := [_, _]) rfl rfl rfl rfl ?_
    refine HO_extract (vs := [_, _]) rfl rfl rfl rfl ?_
    refine HO_assign rfl rfl rfl ?_
    refine HO_assign rfl rfl rfl ?_
    refine HO_nil ?_
    refine H_env (ρ' := [(12, _), (11, _), (10, _), (9, _), (8, _), (7, _), (0, _), (1, _), (2, _)]) ⟨rfl, rfl, rfl, rfl, rfl, rfl, rfl, rfl, rfl, trivial⟩ ?_
    refine H_seq ?_
    -- R6 law.go:34
    refine H_region (l := [_, _, _, _, _, _, _, _, _, _, _, _, _, _, _, _, _, _, _, _, _, _, _, _, _, _, _, _, _, _, _, _, _, _, _, _, _, _, _, _]) rfl ?_
    refine HO_move rfl rfl rfl ?_
    refine HO_move rfl rfl rfl ?_
    refine HO_dup (i := 1) rfl rfl ?_
    refine HO_call (first := []) (capt := []) (is := [0]) (R := [_, _, _]) rfl rfl rfl rfl rfl Try.call19 rfl (Put_spec _ _ _ _ ?_ ?_) ?_
    · (first | omega | assumption | decide)
    · (first | omega | assumption | decide)
    intro y34 hy34
    refine HO_move rfl rfl rfl ?_
    refine HO_move rfl rfl rfl ?_
    refine HO_dup (i := 3) rfl rfl ?_
    refine HO_call (first := []) (capt := []) (is := [0]) (R := [_, _, _, _]) rfl rfl rfl rfl rfl Try.call25 rfl (rPut_spec _ _ _ _ ?_ ?_) ?_
    · (first | omega | assumption | decide)
    · (first | omega | assumption | decide)
    intro y37 hy37
    refine HO_call (first := []) (capt := []) (is := [0, 0]) (R := [_, _, _]) rfl rfl rfl rfl rfl Try.call24 rfl (Spec.lend (pre1 := [_]) (pre2 := []) (Spec.lend (pre1 := []) (pre2 := [_]) (rsame_spec _ _ _ _ _ _) rfl (fun _ _ ha => nomatch ha)) rfl (by intro y at' ha; obtain rfl := List.mem_singleton.1 ha; first | exact Atom.Flat.own kByte_plain _ _ _ _ | exact Atom.Flat.own kInt_plain _ _ _ _ | exact Atom.Flat.own kStr_plain _ _ _ _ | exact Atom.Flat.loc _ _ _)) ?_
    intro y38 hy38
    clear y38 hy38
    refine HO_move rfl rfl rfl ?_
    refine HO_split (d := 39) rfl ?_ ?_
    · intro h39
      (try simp only [decide_eq_true_eq, decide_eq_false_iff_not, Bool.not_eq_true', Bool.not_eq_false', Bool.not_eq_true, Bool.not_eq_false, Bool.true_eq_false, Bool.false_eq_true, not_false_eq_true, not_true_eq_false] at h39)
      refine HO_move rfl rfl rfl ?_
      refine HO_move rfl rfl rfl ?_
      refine HO_bin rfl rfl rfl rfl bin_eql ?_
      refine HO_pick_t rfl rfl rfl rfl ?_
      refine HO_move rfl rfl rfl ?_
      refine HO_split (d := 44) rfl ?_ ?_
      · intro h44
        (try simp only [decide_eq_true_eq, decide_eq_false_iff_not, Bool.not_eq_true', Bool.not_eq_false', Bool.not_eq_true, Bool.not_eq_false, Bool.true_eq_false, Bool.false_eq_true, not_false_eq_true, not_true_eq_false] at h44)
        refine HO_move rfl rfl rfl ?_
        refine HO_move rfl rfl rfl ?_
        refine HO_bin rfl rfl rfl rfl bin_eql ?_
        refine HO_pick_t rfl rfl rfl rfl ?_
        refine HO_move rfl rfl rfl ?_
        refine HO_split (d := 49) rfl ?_ ?_
        · intro h49
          (try simp only [decide_eq_true_eq, decide_eq_false_iff_not, Bool.not_eq_true', Bool.not_eq_false', Bool.not_eq_true, Bool.not_eq_false, Bool.true_eq_false, Bool.false_eq_true, not_false_eq_true, not_true_eq_false] at h49)
          refine HO_move rfl rfl rfl ?_
          refine HO_call (first := []) (capt := []) (is := []) (R := [_, _, _, _, _]) rfl rfl rfl rfl rfl Try.call26 rfl (zig_spec _) ?_
          intro y51 hy51
          clear y51 hy51
          refine HO_move rfl rfl rfl ?_
          refine HO_call (first := []) (capt := []) (is := []) (R := [_, _, _, _, _]) rfl rfl rfl rfl rfl Try.call27 rfl (rzig_spec _) ?_
          intro y53 hy53
          clear y53 hy53
          refine HO_bin rfl rfl rfl rfl bin_eql ?_
          refine HO_pick_t rfl rfl rfl rfl ?_
          refine HO_move rfl rfl rfl ?_
          refine HO_split (d := 56) rfl ?_ ?_
          · intro h56
            (try simp only [decide_eq_true_eq, decide_eq_false_iff_not, Bool.not_eq_true', Bool.not_eq_false', Bool.not_eq_true, Bool.not_eq_false, Bool.true_eq_false, Bool.false_eq_true, not_false_eq_true, not_true_eq_false] at h56)
            refine HO_move rfl rfl rfl ?_
            refine HO_call (first := []) (capt := []) (is := []) (R := [_, _, _, _, _]) rfl rfl rfl rfl rfl Try.call28 rfl (zag_spec _ ?_) ?_
            · (first | omega | assumption | decide)
            intro y58 hy58
            clear y58 hy58
            refine HO_move rfl rfl rfl ?_
            refine HO_call (first := []) (capt := []) (is := []) (R := [_, _, _, _, _]) rfl rfl rfl rfl rfl Try.call29 rfl (rzag_spec _ ?_) ?_
            · (first | omega | assumption | decide)
            intro y60 hy60
            clear y60 hy60
            refine HO_bin rfl rfl rfl rfl bin_eql ?_
            refine HO_pick_t rfl rfl rfl rfl ?_
            refine HO_move rfl rfl rfl ?_
            refine HO_split (d := 63) rfl ?_ ?_
            · intro h63
              (try simp only [decide_eq_true_eq, decide_eq_false_iff_not, Bool.not_eq_true', Bool.not_eq_false', Bool.not_eq_true, Bool.not_eq_false, Bool.true_eq_false, Bool.false_eq_true, not_false_eq_true, not_true_eq_false] at h63)
              refine HO_move rfl rfl rfl ?_
              refine HO_move rfl rfl rfl ?_
              refine HO_dup (i := 2) rfl rfl ?_
              refine HO_dup (i := 5) rfl rfl ?_
              refine HO_call (first := []) (capt := []) (is := [0, 0]) (R := [_, _, _, _, _]) rfl rfl rfl rfl rfl Try.call30 rfl (rKept_spec _ _ _ _ _ ?_) ?_
              · (first | omega | assumption | decide)
              intro y66 hy66
              clear y66 hy66
              refine HO_pick_t rfl rfl rfl rfl ?_
              refine HO_move rfl rfl rfl ?_
              refine HO_split (d := 68) rfl ?_ ?_
              · intro h68
                (try simp only [decide_eq_true_eq, decide_eq_false_iff_not, Bool.not_eq_true', Bool.not_eq_false', Bool.not_eq_true, Bool.not_eq_false, Bool.true_eq_false, Bool.false_eq_true, not_false_eq_true, not_true_eq_false] at h68)
                refine HO_call (first := []) (capt := []) (is := []) (R := [_, _, _, _, _]) rfl rfl rfl rfl rfl Try.call20 rfl lives_spec ?_
                intro y69 hy69
                clear y69 hy69
                refine HO_pick_t rfl rfl rfl rfl ?_
                refine HO_assign rfl rfl rfl ?_
                refine HO_nil ?_
                refine H_env (ρ' := [(6, _)]) ⟨rfl, trivial⟩ ?_
                refine H_world (fun _ hA => hA.drop (is := [0, 1, 2, 3, 4]) (Y := [_, _, _, _, _]) (Z := []) rfl) ?_
                -- end2
                refine H_ret1 Try.results6 (.tmp rfl) (fun w hA => ⟨(), congrArg Ending.returned ?_, ?_, ?_⟩)
                · (exact congrArg Value.bool (by first | rfl | assumption | simp_all))
                · trivial
                · exact hA.only (is := []) (Z := []) rfl
              · intro h68
                (try simp only [decide_eq_true_eq, decide_eq_false_iff_not, Bool.not_eq_true', Bool.not_eq_false', Bool.not_eq_true, Bool.not_eq_false, Bool.true_eq_false, Bool.false_eq_true, not_false_eq_true, not_true_eq_false] at h68)
                all_goals (exact absurd rfl h68)
            · intro h63
              (try simp only [decide_eq_true_eq, decide_eq_false_iff_not, Bool.not_eq_true', Bool.not_eq_false', Bool.not_eq_true, Bool.not_eq_false, Bool.true_eq_false, Bool.false_eq_true, not_false_eq_true, not_true_eq_false] at h63)
              all_goals (exact absurd rfl h63)
          · intro h56
            (try simp only [decide_eq_true_eq, decide_eq_false_iff_not, Bool.not_eq_true', Bool.not_eq_false', Bool.not_eq_true, Bool.not_eq_false, Bool.true_eq_false, Bool.false_eq_true, not_false_eq_true, not_true_eq_false] at h56)
            all_goals (exact absurd rfl h56)
        · intro h49
          (try simp only [decide_eq_true_eq, decide_eq_false_iff_not, Bool.not_eq_true', Bool.not_eq_false', Bool.not_eq_true, Bool.not_eq_false, Bool.true_eq_false, Bool.false_eq_true, not_false_eq_true, not_true_eq_false] at h49)
          all_goals (exact absurd rfl h49)
      · intro h44
        (try simp only [decide_eq_true_eq, decide_eq_false_iff_not, Bool.not_eq_true', Bool.not_eq_false', Bool.not_eq_true, Bool.not_eq_false, Bool.true_eq_false, Bool.false_eq_true, not_false_eq_true, not_true_eq_false] at h44)
        all_goals (exact absurd rfl h44)
    · intro h39
      (try simp only [decide_eq_true_eq, decide_eq_false_iff_not, Bool.not_eq_true', Bool.not_eq_false', Bool.not_eq_true, Bool.not_eq_false, Bool.true_eq_false, Bool.false_eq_true, not_false_eq_true, not_true_eq_false] at h39)
      all_goals (exact absurd rfl h39)
theorem CodecFrames_spec (b : List UInt8) (a : Option Addr) (c : Nat)  : Spec Try.prog 8 #[.slice a (b.length) c] [.dat kByte.sl (b) [.slice a (b.length) c]] (β := Unit) (fun y => .bool (true)) (fun y => True) (fun y => []) := by
  refine Spec.enter (vs := [_]) Try.func8 rfl Try.ntmps8 rfl (Nat.le_of_ble_eq_true rfl) (fun w0 ok0 => ?_)
  generalize hM0 : blks _ = M0
  have hMn : ∀ {R : List Atom} (b : Nat), M0 b → blks R b := fun b hb => absurd (hM0 ▸ hb) (blks_none (by simp [Atom.dat, Atom.elem]) b)
  refine H_seq ?_
  -- R0 law.go:16
  refine H_region (l := [_]) rfl ?_
  refine HO_assign rfl rfl rfl ?_
  refine HO_nil ?_
  refine H_env (ρ' := [(0, _)]) ⟨rfl, trivial⟩ ?_
  refine H_seq ?_
  refine H_seq ?_
  -- R1 law.go:17
  refine H_region (l := [_, _, _]) rfl ?_
  refine HO_move rfl rfl rfl ?_
  refine HO_bi rfl rfl rfl (bi_len_sl Try.underlying28) ?_
  refine HO_bin rfl rfl rfl rfl bin_gtr ?_
  refine HO_nil ?_
  refine H_env (ρ' := [(13, _), (0, _)]) ⟨rfl, rfl, trivial⟩ ?_
  refine H_cond rfl ?_ ?_
  · intro h13
    (try simp only [decide_eq_true_eq, decide_eq_false_iff_not, Bool.not_eq_true', Bool.not_eq_false', Bool.not_eq_true, Bool.not_eq_false, Bool.true_eq_false, Bool.false_eq_true, not_false_eq_true, not_true_eq_false] at h13)
    refine H_seq ?_
    -- R2 law.go:18
    refine H_region (l := [_, _]) rfl ?_
    refine HO_call (first := []) (capt := []) (is := []) (R := [_]) rfl rfl rfl rfl rfl Try.call20 rfl lives_spec ?_
    intro y14 hy14
    clear y14 hy14
    refine HO_assign rfl rfl rfl ?_
    refine HO_nil ?_
    refine H_env (ρ' := [(2, _)]) ⟨rfl, trivial⟩ ?_
    refine H_world (fun _ hA => hA.drop (is := [0]) (Y := [_]) (Z := []) rfl) ?_
    -- end1
    refine H_ret1 Try.results8 (.tmp rfl) (fun w hA => ⟨(), congrArg Ending.returned ?_, ?_, ?_⟩)
    · (exact congrArg Value.bool (by first | rfl | assumption | simp_all))
    · trivial
    · exact hA.only (is := []) (Z := []) rfl
  · intro h13
    (try simp only [decide_eq_true_eq, decide_eq_false_iff_not, Bool.not_eq_true', Bool.not_eq_false', Bool.not_eq_true, Bool.not_eq_false, Bool.true_eq_false, Bool.false_eq_true, not_false_eq_true, not_true_eq_false] at h13)
    refine H_skip ?_
    refine H_seq ?_
    -- R3 law.go:20
    refine H_region (l := [_, _, _, _, _, _, _]) rfl ?_
    refine HO_move rfl rfl rfl ?_
    refine HO_dup (i := 0) rfl rfl ?_
    refine HO_call (first := []) (capt := []) (is := [0]) (R := [_]) rfl rfl rfl rfl rfl Try.call22 rfl (rLend_spec _ _ _ ?_) ?_
    · (first | omega | assumption | decide)
    intro y17 hy17
    refine HO_move rfl rfl rfl ?_
    refine HO_extract (vs := [_, _]) rfl rfl rfl rfl ?_
    refine HO_extract (vs := [_, _]) rfl rfl rfl rfl ?_
    refine HO_assign rfl rfl rfl ?_
    refine HO_assign rfl rfl rfl ?_
    refine HO_nil ?_
    refine H_env (ρ' := [(4, _), (3, _), (0, _)]) ⟨rfl, rfl, rfl, trivial⟩ ?_
    refine H_seq ?_
    -- R4 law.go:21
    refine H_region (l := [_, _, _, _, _, _, _, _, _]) rfl ?_
    refine HO_move rfl rfl rfl ?_
    refine HO_dup (i := 1) rfl rfl ?_
    refine HO_call (first := []) (capt := []) (is := [0]) (R := [_, _, _]) rfl rfl rfl rfl rfl Try.call37 rfl (Unframe_spec _ _ _ ?_) ?_
    · (first | omega | assumption | decide)
    intro y22 hy22
    refine HO_move rfl rfl rfl ?_
    refine HO_extract (vs := [_, _, _]) rfl rfl rfl rfl ?_
    refine HO_extract (vs := [_, _, _]) rfl rfl rfl rfl ?_
    refine HO_extract (vs := [_, _, _]) rfl rfl rfl rfl ?_
    refine HO_assign rfl rfl rfl ?_
    refine HO_assign rfl rfl rfl ?_
    refine HO_assign rfl rfl rfl ?_
    refine HO_nil ?_
    refine H_env (ρ' := [(7, _), (6, _), (5, _), (4, _), (3, _), (0, _)]) ⟨rfl, rfl, rfl, rfl, rfl, rfl, trivial⟩ ?_
    refine H_seq ?_
    -- R5 law.go:22
    refine H_region (l := [_, _, _, _, _, _, _, _, _]) rfl ?_
    refine HO_move rfl rfl rfl ?_
    refine HO_dup (i := 3) rfl rfl ?_
    refine HO_call (first := []) (capt := []) (is := [0]) (R := [_, _, _, _]) rfl rfl rfl rfl rfl Try.call38 rfl (rUnframe_spec _ _ _ ?_) ?_
    · (first | omega | assumption | decide)
    intro y28 hy28
    refine HO_move rfl rfl rfl ?_
    refine HO_extract (vs := [_, _, _]) rfl rfl rfl rfl ?_
    refine HO_extract (vs := [_, _, _]) rfl rfl rfl rfl ?_
    refine HO_extract (vs := [_, _, _]) rfl rfl rfl rfl ?_
    refine HO_assign rfl rfl rfl ?_
    refine HO_assign rfl rfl rfl ?_
    refine HO_assign rfl rfl rfl ?_
    refine HO_nil ?_
    refine H_env (ρ' := [(10, _), (9, _), (8, _), (7, _), (6, _), (5, _), (4, _), (3, _), (0, _)]) ⟨rfl, rfl, rfl, rfl, rfl, rfl, rfl, rfl, rfl, trivial⟩ ?_
    refine H_seq ?_
    -- R6 law.go:23
    refine H_region (l := [_, _, _, _, _, _, _, _, _, _, _, _, _, _, _, _, _, _, _, _, _, _, _, _, _, _, _, _, _, _, _, _, _, _, _, _]) rfl ?_
    refine HO_move rfl rfl rfl ?_
    refine HO_dup (i := 3) rfl rfl ?_
    refine HO_call (first := []) (capt := []) (is := [0]) (R := [_, _, _, _, _]) rfl rfl rfl rfl rfl Try.call39 rfl (Sum_spec _ _ _) ?_
    intro y33 hy33
    clear y33 hy33
    refine HO_move rfl rfl rfl ?_
    refine HO_dup (i := 4) rfl rfl ?_
    refine HO_call (first := []) (capt := []) (is := [0]) (R := [_, _, _, _, _]) rfl rfl rfl rfl rfl Try.call40 rfl (rSum_spec _ _ _) ?_
    intro y35 hy35
    clear y35 hy35
    refine HO_bin rfl rfl rfl rfl bin_eql ?_
    refine HO_move rfl rfl rfl ?_
    refine HO_split (d := 37) rfl ?_ ?_
    · intro h37
      (try simp only [decide_eq_true_eq, decide_eq_false_iff_not, Bool.not_eq_true', Bool.not_eq_false', Bool.not_eq_true, Bool.not_eq_false, Bool.true_eq_false, Bool.false_eq_true, not_false_eq_true, not_true_eq_false] at h37)
      refine HO_move rfl rfl rfl ?_
      refine HO_dup (i := 3) rfl rfl ?_
      refine HO_call (first := []) (capt := []) (is := [0]) (R := [_, _, _, _, _]) rfl rfl rfl rfl rfl Try.call41 rfl (Frame_spec _ _ _ ?_) ?_
      · (first | omega | assumption | decide)
      intro y39 hy39
      refine HO_move rfl rfl rfl ?_
      refine HO_dup (i := 5) rfl rfl ?_
      refine HO_call (first := []) (capt := []) (is := [0]) (R := [_, _, _, _, _, _]) rfl rfl rfl rfl rfl Try.call42 rfl (rFrame_spec _ _ _ ?_) ?_
      · (first | omega | assumption | decide)
      intro y41 hy41
      refine HO_call (first := []) (capt := []) (is := [0, 0]) (R := [_, _, _, _, _]) rfl rfl rfl rfl rfl Try.call24 rfl (Spec.lend (pre1 := [_]) (pre2 := []) (Spec.lend (pre1 := []) (pre2 := [_]) (rsame_spec _ _ _ _ _ _) rfl (fun _ _ ha => nomatch ha)) rfl (by intro y at' ha; obtain rfl := List.mem_singleton.1 ha; first | exact Atom.Flat.own kByte_plain _ _ _ _ | exact Atom.Flat.own kInt_plain _ _ _ _ | exact Atom.Flat.own kStr_plain _ _ _ _ | exact Atom.Flat.loc _ _ _)) ?_
      intro y42 hy42
      clear y42 hy42
      refine HO_pick_t rfl rfl rfl rfl ?_
      refine HO_move rfl rfl rfl ?_
      refine HO_split (d := 44) rfl ?_ ?_
      · intro h44
        (try simp only [decide_eq_true_eq, decide_eq_false_iff_not, Bool.not_eq_true', Bool.not_eq_false', Bool.not_eq_true, Bool.not_eq_false, Bool.true_eq_false, Bool.false_eq_true, not_false_eq_true, not_true_eq_false] at h44)
        refine HO_move rfl rfl rfl ?_
        refine HO_move rfl rfl rfl ?_
        refine HO_call (first := []) (capt := []) (is := [2, 2]) (R := [_, _, _, _, _]) rfl rfl rfl rfl rfl Try.call24 rfl (Spec.lend (pre1 := [_]) (pre2 := []) (Spec.lend (pre1 := []) (pre2 := [_]) (rsame_spec _ _ _ _ _ _) rfl (fun _ _ ha => nomatch ha)) rfl (by intro y at' ha; obtain rfl := List.mem_singleton.1 ha; first | exact Atom.Flat.own kByte_plain _ _ _ _ | exact Atom.Flat.own kInt_plain _ _ _ _ | exact Atom.Flat.own kStr_plain _ _ _ _ | exact Atom.Flat.loc _ _ _)) ?_
        intro y47 hy47
        clear y47 hy47
        refine HO_pick_t rfl rfl rfl rfl ?_
        refine HO_move rfl rfl rfl ?_
        refine HO_split (d := 49) rfl ?_ ?_
        · intro h49
          (try simp only [decide_eq_true_eq, decide_eq_false_iff_not, Bool.not_eq_true', Bool.not_eq_false', Bool.not_eq_true, Bool.not_eq_false, Bool.true_eq_false, Bool.false_eq_true, not_false_eq_true, not_true_eq_false] at h49)
          refine HO_move rfl rfl rfl ?_
          refine HO_move rfl rfl rfl ?_
          refine HO_bin rfl rfl rfl rfl bin_eql ?_
          refine HO_pick_t rfl rfl rfl rfl ?_
          refine HO_move rfl rfl rfl ?_
          refine HO_split (d := 54) rfl ?_ ?_
          · intro h54
            (try simp only [decide_eq_true_eq, decide_eq_false_iff_not, Bool.not_eq_true', Bool.not_eq_false', Bool.not_eq_true, Bool.not_eq_false, Bool.true_eq_false, Bool.false_eq_true, not_false_eq_true, not_true_eq_false] at h54)
            refine HO_move rfl rfl rfl ?_
            refine HO_move rfl rfl rfl ?_
            refine HO_bin rfl rfl rfl rfl bin_eql ?_
            refine HO_pick_t rfl rfl rfl rfl ?_
            refine HO_move rfl rfl rfl ?_
            refine HO_split (d := 59) rfl ?_ ?_
            · intro h59
              (try simp only [decide_eq_true_eq, decide_eq_false_iff_not, Bool.not_eq_true', Bool.not_eq_false', Bool.not_eq_true, Bool.not_eq_false, Bool.true_eq_false, Bool.false_eq_true, not_false_eq_true, not_true_eq_false] at h59)
              refine HO_move rfl rfl rfl ?_
              refine HO_move rfl rfl rfl ?_
              refine HO_dup (i := 4) rfl rfl ?_
              refine HO_dup (i := 7) rfl rfl ?_
              refine HO_call (first := []) (capt := []) (is := [0, 0]) (R := [_, _, _, _, _, _, _]) rfl rfl rfl rfl rfl Try.call30 rfl (rKept_spec _ _ _ _ _ ?_) ?_
              · (first | omega | assumption | decide)
              intro y62 hy62
              clear y62 hy62
              refine HO_pick_t rfl rfl rfl rfl ?_
              refine HO_move rfl rfl rfl ?_
              refine HO_split (d := 64) rfl ?_ ?_
              · intro h64
                (try simp only [decide_eq_true_eq, decide_eq_false_iff_not, Bool.not_eq_true', Bool.not_eq_false', Bool.not_eq_true, Bool.not_eq_false, Bool.true_eq_false, Bool.false_eq_true, not_false_eq_true, not_true_eq_false] at h64)
                refine HO_call (first := []) (capt := []) (is := []) (R := [_, _, _, _, _, _, _]) rfl rfl rfl rfl rfl Try.call20 rfl lives_spec ?_
                intro y65 hy65
                clear y65 hy65
                refine HO_pick_t rfl rfl rfl rfl ?_
                refine HO_assign rfl rfl rfl ?_
                refine HO_nil ?_
                refine H_env (ρ' := [(2, _)]) ⟨rfl, trivial⟩ ?_
                refine H_world (fun _ hA => hA.drop (is := [0, 1, 2, 3, 4, 5, 6]) (Y := [_, _, _, _, _, _, _]) (Z := []) rfl) ?_
                -- end2
                refine H_ret1 Try.results8 (.tmp rfl) (fun w hA => ⟨(), congrArg Ending.returned ?_, ?_, ?_⟩)
                · (exact congrArg Value.bool (by first | rfl | assumption | simp_all))
                · trivial
                · exact hA.only (is := []) (Z := []) rfl
              · intro h64
                (try simp only [decide_eq_true_eq, decide_eq_false_iff_not, Bool.not_eq_true', Bool.not_eq_false', Bool.not_eq_true, Bool.not_eq_false, Bool.true_eq_false, Bool.false_eq_true, not_false_eq_true, not_true_eq_false] at h64)
                all_goals (exact absurd rfl h64)
            · intro h59
              (try simp only [decide_eq_true_eq, decide_eq_false_iff_not, Bool.not_eq_true', Bool.not_eq_false', Bool.not_eq_true, Bool.not_eq_false, Bool.true_eq_false, Bool.false_eq_true, not_false_eq_true, not_true_eq_false] at h59)
              all_goals (exact absurd rfl h59)
          · intro h54
            (try simp only [decide_eq_true_eq, decide_eq_false_iff_not, Bool.not_eq_true', Bool.not_eq_false', Bool.not_eq_true, Bool.not_eq_false, Bool.true_eq_false, Bool.false_eq_true, not_false_eq_true, not_true_eq_false] at h54)
            all_goals (exact absurd rfl h54)
        · intro h49
          (try simp only [decide_eq_true_eq, decide_eq_false_iff_not, Bool.not_eq_true', Bool.not_eq_false', Bool.not_eq_true, Bool.not_eq_false, Bool.true_eq_false, Bool.false_eq_true, not_false_eq_true, not_true_eq_false] at h49)
          all_goals (exact absurd rfl h49)
      · intro h44
        (try simp only [decide_eq_true_eq, decide_eq_false_iff_not, Bool.not_eq_true', Bool.not_eq_false', Bool.not_eq_true, Bool.not_eq_false, Bool.true_eq_false, Bool.false_eq_true, not_false_eq_true, not_true_eq_false] at h44)
        all_goals (exact absurd rfl h44)
    · intro h37
      (try simp only [decide_eq_true_eq, decide_eq_false_iff_not, Bool.not_eq_true', Bool.not_eq_false', Bool.not_eq_true, Bool.not_eq_false, Bool.true_eq_false, Bool.false_eq_true, not_false_eq_true, not_true_eq_false] at h37)
      all_goals (exact absurd rfl h37)
theorem CodecTexts_spec (b : List UInt8) (s : ByteArray) (t : Bool) (a : Option Addr) (c : Nat) (sb : b.length ≤ 140737488351232) (ss : s.size ≤ 140737488351232) : Spec Try.prog 11 #[.slice a (b.length) c, .string (s), .bool (t)] [.dat kByte.sl (b) [.slice a (b.length) c]] (β := Unit) (fun y => .bool (true)) (fun y => True) (fun y => []) := by
  refine Spec.enter (vs := [_, _, _]) Try.func11 rfl Try.ntmps11 rfl (Nat.le_of_ble_eq_true rfl) (fun w0 ok0 => ?_)
  generalize hM0 : blks _ = M0
  have hMn : ∀ {R : List Atom} (b : Nat), M0 b → blks R b := fun b hb => absurd (hM0 ▸ hb) (blks_none (by simp [Atom.dat, Atom.elem]) b)
  refine H_seq ?_
  -- R0 law.go:38
  refine H_region (l := [_]) rfl ?_
  refine HO_assign rfl rfl rfl ?_
  refine HO_nil ?_
  refine H_env (ρ' := [(0, _), (1, _), (2, _)]) ⟨rfl, rfl, rfl, trivial⟩ ?_
  refine H_seq ?_
  refine H_seq ?_
  -- R1 law.go:39
  refine H_region (l := [_, _, _, _, _, _]) rfl ?_
  refine HO_move rfl rfl rfl ?_
  refine HO_bi rfl rfl rfl (bi_len_sl Try.underlying28) ?_
  refine HO_move rfl rfl rfl ?_
  refine HO_bi rfl rfl rfl (bi_len_str Try.underlying9) ?_
  refine HO_bin rfl rfl rfl rfl (bin_add ?_ ?_) ?_
  · (first | omega | assumption | decide)
  · (first | omega | assumption | decide)
  refine HO_bin rfl rfl rfl rfl bin_gtr ?_
  refine HO_nil ?_
  refine H_env (ρ' := [(22, _), (0, _), (1, _), (2, _)]) ⟨rfl, rfl, rfl, rfl, trivial⟩ ?_
  refine H_cond rfl ?_ ?_
  · intro h22
    (try simp only [decide_eq_true_eq, decide_eq_false_iff_not, Bool.not_eq_true', Bool.not_eq_false', Bool.not_eq_true, Bool.not_eq_false, Bool.true_eq_false, Bool.false_eq_true, not_false_eq_true, not_true_eq_false] at h22)
    refine H_seq ?_
    -- R2 law.go:40
    refine H_region (l := [_, _]) rfl ?_
    refine HO_call (first := []) (capt := []) (is := []) (R := [_]) rfl rfl rfl rfl rfl Try.call20 rfl lives_spec ?_
    intro y23 hy23
    clear y23 hy23
    refine HO_assign rfl rfl rfl ?_
    refine HO_nil ?_
    refine H_env (ρ' := [(6, _)]) ⟨rfl, trivial⟩ ?_
    refine H_world (fun _ hA => hA.drop (is := [0]) (Y := [_]) (Z := []) rfl) ?_
    -- end1
    refine H_ret1 Try.results11 (.tmp rfl) (fun w hA => ⟨(), congrArg Ending.returned ?_, ?_, ?_⟩)
    · (exact congrArg Value.bool (by first | rfl | assumption | simp_all))
    · trivial
    · exact hA.only (is := []) (Z := []) rfl
  · intro h22
    (try simp only [decide_eq_true_eq, decide_eq_false_iff_not, Bool.not_eq_true', Bool.not_eq_false', Bool.not_eq_true, Bool.not_eq_false, Bool.true_eq_false, Bool.false_eq_true, not_false_eq_true, not_true_eq_false] at h22)
    refine H_skip ?_
    refine H_seq ?_
    -- R3 law.go:42
    refine H_region (l := [_, _, _, _, _, _, _]) rfl ?_
    refine HO_move rfl rfl rfl ?_
    refine HO_dup (i := 0) rfl rfl ?_
    refine HO_call (first := []) (capt := []) (is := [0]) (R := [_]) rfl rfl rfl rfl rfl Try.call22 rfl (rLend_spec _ _ _ ?_) ?_
    · (first | omega | assumption | decide)
    intro y26 hy26
    refine HO_move rfl rfl rfl ?_
    refine HO_extract (vs := [_, _]) rfl rfl rfl rfl ?_
    refine HO_extract (vs := [_, _]) rfl rfl rfl rfl ?_
    refine HO_assign rfl rfl rfl ?_
    refine HO_assign rfl rfl rfl ?_
    refine HO_nil ?_
    refine H_env (ρ' := [(8, _), (7, _), (0, _), (1, _), (2, _)]) ⟨rfl, rfl, rfl, rfl, rfl, trivial⟩ ?_
    refine H_seq ?_
    -- R4 law.go:43
    refine H_region (l := [_, _, _, _, _, _, _]) rfl ?_
    refine HO_move rfl rfl rfl ?_
    refine HO_dup (i := 1) rfl rfl ?_
    refine HO_call (first := []) (capt := []) (is := [0]) (R := [_, _, _]) rfl rfl rfl rfl rfl Try.call43 rfl (GetText_spec _ _ _ ?_) ?_
    · (first | omega | assumption | decide)
    intro y31 hy31
    clear y31 hy31
    refine HO_move rfl rfl rfl ?_
    refine HO_extract (vs := [_, _]) rfl rfl rfl rfl ?_
    refine HO_extract (vs := [_, _]) rfl rfl rfl rfl ?_
    refine HO_assign rfl rfl rfl ?_
    refine HO_assign rfl rfl rfl ?_
    refine HO_nil ?_
    refine H_env (ρ' := [(10, _), (9, _), (8, _), (7, _), (0, _), (1, _), (2, _)]) ⟨rfl, rfl, rfl, rfl, rfl, rfl, rfl, trivial⟩ ?_
    refine H_seq ?_
    -- R5 law.go:44
    refine H_region (l := [_, _, _, _, _, _, _]) rfl ?_
    refine HO_move rfl rfl rfl ?_
    refine HO_dup (i := 2) rfl rfl ?_
    refine HO_call (first := []) (capt := []) (is := [0]) (R := [_, _, _]) rfl rfl rfl rfl rfl Try.call44 rfl (rGetText_spec _ _ _ ?_) ?_
    · (first | omega | assumption | decide)
    intro y36 hy36
    clear y36 hy36
    refine HO_move rfl rfl rfl ?_
    refine HO_extract (vs := [_, _]) rfl rfl rfl rfl ?_
    refine HO_extract (vs := [_, _]) rfl rfl rfl rfl ?_
    refine HO_assign rfl rfl rfl ?_
    refine HO_assign rfl rfl rfl ?_
    refine HO_nil ?_
    refine H_env (ρ' := [(12, _), (11, _), (10, _), (9, _), (8, _), (7, _), (0, _), (1, _), (2, _)]) ⟨rfl, rfl, rfl, rfl, rfl, rfl, rfl, rfl, rfl, trivial⟩ ?_
    refine H_seq ?_
    -- R6 law.go:45
    refine H_region (l := [_, _, _, _, _, _, _]) rfl ?_
    refine HO_move rfl rfl rfl ?_
    refine HO_dup (i := 1) rfl rfl ?_
    refine HO_call (first := []) (capt := []) (is := [0]) (R := [_, _, _]) rfl rfl rfl rfl rfl Try.call45 rfl (GetBool_spec _ _ _) ?_
    intro y41 hy41
    clear y41 hy41
    refine HO_move rfl rfl rfl ?_
    refine HO_extract (vs := [_, _]) rfl rfl rfl rfl ?_
    refine HO_extract (vs := [_, _]) rfl rfl rfl rfl ?_
    refine HO_assign rfl rfl rfl ?_
    refine HO_assign rfl rfl rfl ?_
    refine HO_nil ?_
    refine H_env (ρ' := [(14, _), (13, _), (12, _), (11, _), (10, _), (9, _), (8, _), (7, _), (0, _), (1, _), (2, _)]) ⟨rfl, rfl, rfl, rfl, rfl, rfl, rfl, rfl, rfl, rfl, rfl, trivial⟩ ?_
    refine H_seq ?_
    -- R7 law.go:46
    refine H_region (l := [_, _, _, _, _, _, _]) rfl ?_
    refine HO_move rfl rfl rfl ?_
    refine HO_dup (i := 2) rfl rfl ?_
    refine HO_call (first := []) (capt := []) (is := [0]) (R := [_, _, _]) rfl rfl rfl rfl rfl Try.call46 rfl (rGetBool_spec _ _ _) ?_
    intro y46 hy46
    clear y46 hy46
    refine HO_move rfl rfl rfl ?_
    refine HO_extract (vs := [_, _]) rfl rfl rfl rfl ?_
    refine HO_extract (vs := [_, _]) rfl rfl rfl rfl ?_
    refine HO_assign rfl rfl rfl ?_
    refine HO_assign rfl rfl rfl ?_
    refine HO_nil ?_
    refine H_env (ρ' := [(16, _), (15, _), (14, _), (13, _), (12, _), (11, _), (10, _), (9, _), (8, _), (7, _), (0, _), (1, _), (2, _)]) ⟨rfl, rfl, rfl, rfl, rfl, rfl, rfl, rfl, rfl, rfl, rfl, rfl, rfl, trivial⟩ ?_
    refine H_seq ?_
    -- R8 law.go:47
    refine H_region (l := [_, _, _, _, _, _, _, _, _, _, _, _, _, _, _, _, _, _, _, _, _, _, _, _, _, _, _, _, _, _, _, _, _, _, _, _, _, _, _, _, _, _, _, _, _]) rfl ?_
    refine HO_move rfl rfl rfl ?_
    refine HO_move rfl rfl rfl ?_
    refine HO_dup (i := 1) rfl rfl ?_
    refine HO_call (first := []) (capt := []) (is := [0]) (R := [_, _, _]) rfl rfl rfl rfl rfl Try.call47 rfl (PutText_spec _ _ _ _ ?_ ?_) ?_
    · (first | omega | assumption | decide)
    · (first | omega | assumption | decide)
    intro y51 hy51
    refine HO_move rfl rfl rfl ?_
    refine HO_move rfl rfl rfl ?_
    refine HO_dup (i := 3) rfl rfl ?_
    refine HO_call (first := []) (capt := []) (is := [0]) (R := [_, _, _, _]) rfl rfl rfl rfl rfl Try.call48 rfl (rPutText_spec _ _ _ _ ?_ ?_) ?_
    · (first | omega | assumption | decide)
    · (first | omega | assumption | decide)
    intro y54 hy54
    refine HO_call (first := []) (capt := []) (is := [0, 0]) (R := [_, _, _]) rfl rfl rfl rfl rfl Try.call24 rfl (Spec.lend (pre1 := [_]) (pre2 := []) (Spec.lend (pre1 := []) (pre2 := [_]) (rsame_spec _ _ _ _ _ _) rfl (fun _ _ ha => nomatch ha)) rfl (by intro y at' ha; obtain rfl := List.mem_singleton.1 ha; first | exact Atom.Flat.own kByte_plain _ _ _ _ | exact Atom.Flat.own kInt_plain _ _ _ _ | exact Atom.Flat.own kStr_plain _ _ _ _ | exact Atom.Flat.loc _ _ _)) ?_
    intro y55 hy55
    clear y55 hy55
    refine HO_move rfl rfl rfl ?_
    refine HO_split (d := 56) rfl ?_ ?_
    · intro h56
      (try simp only [decide_eq_true_eq, decide_eq_false_iff_not, Bool.not_eq_true', Bool.not_eq_false', Bool.not_eq_true, Bool.not_eq_false, Bool.true_eq_false, Bool.false_eq_true, not_false_eq_true, not_true_eq_false] at h56)
      refine HO_move rfl rfl rfl ?_
      refine HO_move rfl rfl rfl ?_
      refine HO_bin rfl rfl rfl rfl bin_eqs ?_
      refine HO_pick_t rfl rfl rfl rfl ?_
      refine HO_move rfl rfl rfl ?_
      refine HO_split (d := 61) rfl ?_ ?_
      · intro h61
        (try simp only [decide_eq_true_eq, decide_eq_false_iff_not, Bool.not_eq_true', Bool.not_eq_false', Bool.not_eq_true, Bool.not_eq_false, Bool.true_eq_false, Bool.false_eq_true, not_false_eq_true, not_true_eq_false] at h61)
        refine HO_move rfl rfl rfl ?_
        refine HO_move rfl rfl rfl ?_
        refine HO_bin rfl rfl rfl rfl bin_eql ?_
        refine HO_pick_t rfl rfl rfl rfl ?_
        refine HO_move rfl rfl rfl ?_
        refine HO_split (d := 66) rfl ?_ ?_
        · intro h66
          (try simp only [decide_eq_true_eq, decide_eq_false_iff_not, Bool.not_eq_true', Bool.not_eq_false', Bool.not_eq_true, Bool.not_eq_false, Bool.true_eq_false, Bool.false_eq_true, not_false_eq_true, not_true_eq_false] at h66)
          refine HO_move rfl rfl rfl ?_
          refine HO_move rfl rfl rfl ?_
          refine HO_dup (i := 3) rfl rfl ?_
          refine HO_call (first := []) (capt := []) (is := [0]) (R := [_, _, _, _, _]) rfl rfl rfl rfl rfl Try.call49 rfl (PutBool_spec _ _ _ _ ?_) ?_
          · (first | omega | assumption | decide)
          intro y69 hy69
          refine HO_move rfl rfl rfl ?_
          refine HO_move rfl rfl rfl ?_
          refine HO_dup (i := 5) rfl rfl ?_
          refine HO_call (first := []) (capt := []) (is := [0]) (R := [_, _, _, _, _, _]) rfl rfl rfl rfl rfl Try.call50 rfl (rPutBool_spec _ _ _ _ ?_) ?_
          · (first | omega | assumption | decide)
          intro y72 hy72
          refine HO_call (first := []) (capt := []) (is := [0, 0]) (R := [_, _, _, _, _]) rfl rfl rfl rfl rfl Try.call24 rfl (Spec.lend (pre1 := [_]) (pre2 := []) (Spec.lend (pre1 := []) (pre2 := [_]) (rsame_spec _ _ _ _ _ _) rfl (fun _ _ ha => nomatch ha)) rfl (by intro y at' ha; obtain rfl := List.mem_singleton.1 ha; first | exact Atom.Flat.own kByte_plain _ _ _ _ | exact Atom.Flat.own kInt_plain _ _ _ _ | exact Atom.Flat.own kStr_plain _ _ _ _ | exact Atom.Flat.loc _ _ _)) ?_
          intro y73 hy73
          clear y73 hy73
          refine HO_pick_t rfl rfl rfl rfl ?_
          refine HO_move rfl rfl rfl ?_
          refine HO_split (d := 75) rfl ?_ ?_
          · intro h75
            (try simp only [decide_eq_true_eq, decide_eq_false_iff_not, Bool.not_eq_true', Bool.not_eq_false', Bool.not_eq_true, Bool.not_eq_false, Bool.true_eq_false, Bool.false_eq_true, not_false_eq_true, not_true_eq_false] at h75)
            refine HO_move rfl rfl rfl ?_
            refine HO_move rfl rfl rfl ?_
            refine HO_bin rfl rfl rfl rfl (bin_eqb Try.runUnderlying4) ?_
            refine HO_pick_t rfl rfl rfl rfl ?_
            refine HO_move rfl rfl rfl ?_
            refine HO_split (d := 80) rfl ?_ ?_
            · intro h80
              (try simp only [decide_eq_true_eq, decide_eq_false_iff_not, Bool.not_eq_true', Bool.not_eq_false', Bool.not_eq_true, Bool.not_eq_false, Bool.true_eq_false, Bool.false_eq_true, not_false_eq_true, not_true_eq_false] at h80)
              refine HO_move rfl rfl rfl ?_
              refine HO_move rfl rfl rfl ?_
              refine HO_bin rfl rfl rfl rfl bin_eql ?_
              refine HO_pick_t rfl rfl rfl rfl ?_
              refine HO_move rfl rfl rfl ?_
              refine HO_split (d := 85) rfl ?_ ?_
              · intro h85
                (try simp only [decide_eq_true_eq, decide_eq_false_iff_not, Bool.not_eq_true', Bool.not_eq_false', Bool.not_eq_true, Bool.not_eq_false, Bool.true_eq_false, Bool.false_eq_true, not_false_eq_true, not_true_eq_false] at h85)
                refine HO_move rfl rfl rfl ?_
                refine HO_move rfl rfl rfl ?_
                refine HO_dup (i := 4) rfl rfl ?_
                refine HO_dup (i := 7) rfl rfl ?_
                refine HO_call (first := []) (capt := []) (is := [0, 0]) (R := [_, _, _, _, _, _, _]) rfl rfl rfl rfl rfl Try.call30 rfl (rKept_spec _ _ _ _ _ ?_) ?_
                · (first | omega | assumption | decide)
                intro y88 hy88
                clear y88 hy88
                refine HO_pick_t rfl rfl rfl rfl ?_
                refine HO_move rfl rfl rfl ?_
                refine HO_split (d := 90) rfl ?_ ?_
                · intro h90
                  (try simp only [decide_eq_true_eq, decide_eq_false_iff_not, Bool.not_eq_true', Bool.not_eq_false', Bool.not_eq_true, Bool.not_eq_false, Bool.true_eq_false, Bool.false_eq_true, not_false_eq_true, not_true_eq_false] at h90)
                  refine HO_call (first := []) (capt := []) (is := []) (R := [_, _, _, _, _, _, _]) rfl rfl rfl rfl rfl Try.call20 rfl lives_spec ?_
                  intro y91 hy91
                  clear y91 hy91
                  refine HO_pick_t rfl rfl rfl rfl ?_
                  refine HO_assign rfl rfl rfl ?_
                  refine HO_nil ?_
                  refine H_env (ρ' := [(6, _)]) ⟨rfl, trivial⟩ ?_
                  refine H_world (fun _ hA => hA.drop (is := [0, 1, 2, 3, 4, 5, 6]) (Y := [_, _, _, _, _, _, _]) (Z := []) rfl) ?_
                  -- end2
                  refine H_ret1 Try.results11 (.tmp rfl) (fun w hA => ⟨(), congrArg Ending.returned ?_, ?_, ?_⟩)
                  · (exact congrArg Value.bool (by first | rfl | assumption | simp_all))
                  · trivial
                  · exact hA.only (is := []) (Z := []) rfl
                · intro h90
                  (try simp only [decide_eq_true_eq, decide_eq_false_iff_not, Bool.not_eq_true', Bool.not_eq_false', Bool.not_eq_true, Bool.not_eq_false, Bool.true_eq_false, Bool.false_eq_true, not_false_eq_true, not_true_eq_false] at h90)
                  all_goals (exact absurd rfl h90)
              · intro h85
                (try simp only [decide_eq_true_eq, decide_eq_false_iff_not, Bool.not_eq_true', Bool.not_eq_false', Bool.not_eq_true, Bool.not_eq_false, Bool.true_eq_false, Bool.false_eq_true, not_false_eq_true, not_true_eq_false] at h85)
                all_goals (exact absurd rfl h85)
            · intro h80
              (try simp only [decide_eq_true_eq, decide_eq_false_iff_not, Bool.not_eq_true', Bool.not_eq_false', Bool.not_eq_true, Bool.not_eq_false, Bool.true_eq_false, Bool.false_eq_true, not_false_eq_true, not_true_eq_false] at h80)
              (exact absurd h80 (by simp))
          · intro h75
            (try simp only [decide_eq_true_eq, decide_eq_false_iff_not, Bool.not_eq_true', Bool.not_eq_false', Bool.not_eq_true, Bool.not_eq_false, Bool.true_eq_false, Bool.false_eq_true, not_false_eq_true, not_true_eq_false] at h75)
            all_goals (exact absurd rfl h75)
        · intro h66
          (try simp only [decide_eq_true_eq, decide_eq_false_iff_not, Bool.not_eq_true', Bool.not_eq_false', Bool.not_eq_true, Bool.not_eq_false, Bool.true_eq_false, Bool.false_eq_true, not_false_eq_true, not_true_eq_false] at h66)
          all_goals (exact absurd rfl h66)
      · intro h61
        (try simp only [decide_eq_true_eq, decide_eq_false_iff_not, Bool.not_eq_true', Bool.not_eq_false', Bool.not_eq_true, Bool.not_eq_false, Bool.true_eq_false, Bool.false_eq_true, not_false_eq_true, not_true_eq_false] at h61)
        all_goals (exact absurd rfl h61)
    · intro h56
      (try simp only [decide_eq_true_eq, decide_eq_false_iff_not, Bool.not_eq_true', Bool.not_eq_false', Bool.not_eq_true, Bool.not_eq_false, Bool.true_eq_false, Bool.false_eq_true, not_false_eq_true, not_true_eq_false] at h56)
      all_goals (exact absurd rfl h56)
theorem CodecMarks_spec (b : List UInt8) (z : UInt8) (a : Option Addr) (c : Nat)  : Spec Try.prog 10 #[.slice a (b.length) c, .int .u8 ((z.toNat : Int))] [.dat kByte.sl (b) [.slice a (b.length) c]] (β := Unit) (fun y => .bool (true)) (fun y => True) (fun y => []) := by
  refine Spec.enter (vs := [_, _]) Try.func10 rfl Try.ntmps10 rfl (Nat.le_of_ble_eq_true rfl) (fun w0 ok0 => ?_)
  generalize hM0 : blks _ = M0
  have hMn : ∀ {R : List Atom} (b : Nat), M0 b → blks R b := fun b hb => absurd (hM0 ▸ hb) (blks_none (by simp [Atom.dat, Atom.elem]) b)
  refine H_seq ?_
  -- R0 law.go:151
  refine H_region (l := [_]) rfl ?_
  refine HO_assign rfl rfl rfl ?_
  refine HO_nil ?_
  refine H_env (ρ' := [(0, _), (1, _)]) ⟨rfl, rfl, trivial⟩ ?_
  refine H_seq ?_
  refine H_seq ?_
  -- R1 law.go:152
  refine H_region (l := [_, _, _]) rfl ?_
  refine HO_move rfl rfl rfl ?_
  refine HO_bi rfl rfl rfl (bi_len_sl Try.underlying28) ?_
  refine HO_bin rfl rfl rfl rfl bin_gtr ?_
  refine HO_nil ?_
  refine H_env (ρ' := [(11, _), (0, _), (1, _)]) ⟨rfl, rfl, rfl, trivial⟩ ?_
  refine H_cond rfl ?_ ?_
  · intro h11
    (try simp only [decide_eq_true_eq, decide_eq_false_iff_not, Bool.not_eq_true', Bool.not_eq_false', Bool.not_eq_true, Bool.not_eq_false, Bool.true_eq_false, Bool.false_eq_true, not_false_eq_true, not_true_eq_false] at h11)
    refine H_seq ?_
    -- R2 law.go:153
    refine H_region (l := [_, _]) rfl ?_
    refine HO_call (first := []) (capt := []) (is := []) (R := [_]) rfl rfl rfl rfl rfl Try.call20 rfl lives_spec ?_
    intro y12 hy12
    clear y12 hy12
    refine HO_assign rfl rfl rfl ?_
    refine HO_nil ?_
    refine H_env (ρ' := [(4, _)]) ⟨rfl, trivial⟩ ?_
    refine H_world (fun _ hA => hA.drop (is := [0]) (Y := [_]) (Z := []) rfl) ?_
    -- end1
    refine H_ret1 Try.results10 (.tmp rfl) (fun w hA => ⟨(), congrArg Ending.returned ?_, ?_, ?_⟩)
    · (exact congrArg Value.bool (by first | rfl | assumption | simp_all))
    · trivial
    · exact hA.only (is := []) (Z := []) rfl
  · intro h11
    (try simp only [decide_eq_true_eq, decide_eq_false_iff_not, Bool.not_eq_true', Bool.not_eq_false', Bool.not_eq_true, Bool.not_eq_false, Bool.true_eq_false, Bool.false_eq_true, not_false_eq_true, not_true_eq_false] at h11)
    refine H_skip ?_
    refine H_seq ?_
    -- R3 law.go:155
    have hb : b.length ≤ 20000 := by omega
    have hfl : (Cod.frame b).length = b.length + 8 := Cod.frame_length (by omega)
    refine H_region (l := [_, _, _]) rfl ?_
    refine HO_move rfl rfl rfl ?_
    refine HO_dup (i := 0) rfl rfl ?_
    refine HO_call (first := []) (capt := []) (is := [0]) (R := [_]) rfl rfl rfl rfl rfl Try.call41 rfl (Frame_spec _ _ _ ?_) ?_
    · (first | omega | assumption | decide)
    intro y14 hy14
    refine HO_assign rfl rfl rfl ?_
    refine HO_nil ?_
    refine H_env (ρ' := [(5, _), (0, _), (1, _)]) ⟨rfl, rfl, rfl, trivial⟩ ?_
    refine H_seq ?_
    refine H_seq ?_
    refine H_ownAddr (i := 0) rfl (by omega) (fun g5 hg5 => ?_)
    rw [hg5]
    -- R4 law.go:156 draws
    refine H_draw (is := [0, 1]) (Xs := [_, _]) (Z := []) (fuel := 30) (l := #[false, false, false, false, false, false, false, false, false, false, false, false, false, false, false, false, false, false, false, false, false, false, false, false, false, false, false, false, false, false]) mixed rfl rfl rfl ?_
    refine HA_take (i := 0) (listed' := #[true, false, false, false, false, false, false, false, false, false, false, false, false, false, false, false, false, false, false, false, false, false, false, false, false, false, false, false, false, false]) (bodyPost_pan _ _ _) rfl rfl rfl rfl (by kernel_rfl) rfl (V_move rfl) (fun _ hA => hA.only (is := [0, 1]) (Y := [_, _]) (Z := []) rfl) ?_
    refine HA_take (i := 1) (listed' := #[true, true, false, false, false, false, false, false, false, false, false, false, false, false, false, false, false, false, false, false, false, false, false, false, false, false, false, false, false, false]) (bodyPost_pan _ _ _) rfl rfl rfl rfl (by kernel_rfl) rfl (V_bi rfl (bi_len_sl Try.underlying28)) (fun _ hA => hA.only (is := [0, 1]) (Y := [_, _]) (Z := []) rfl) ?_
    refine HA_take (i := 2) (listed' := #[true, true, true, false, false, false, false, false, false, false, false, false, false, false, false, false, false, false, false, false, false, false, false, false, false, false, false, false, false, false]) (bodyPost_pan _ _ _) rfl rfl rfl rfl (by kernel_rfl) rfl (V_bin rfl rfl bin_lss) (fun _ hA => hA.only (is := [0, 1]) (Y := [_, _]) (Z := []) rfl) ?_
    refine HA_take (i := 3) (listed' := #[true, true, true, true, false, false, false, false, false, false, false, false, false, false, false, false, false, false, false, false, false, false, false, false, false, false, false, false, false, false]) (bodyPost_pan _ _ _) rfl rfl rfl rfl (by kernel_rfl) rfl (V_move rfl) (fun _ hA => hA.only (is := [0, 1]) (Y := [_, _]) (Z := []) rfl) ?_
    refine HA_split (d := 18) rfl ?_ ?_
    · intro h18
      (try simp only [decide_eq_true_eq, decide_eq_false_iff_not, Bool.not_eq_true', Bool.not_eq_false', Bool.not_eq_true, Bool.not_eq_false, Bool.true_eq_false, Bool.false_eq_true, not_false_eq_true, not_true_eq_false] at h18)
      (exfalso; omega)
    · intro h18
      (try simp only [decide_eq_true_eq, decide_eq_false_iff_not, Bool.not_eq_true', Bool.not_eq_false', Bool.not_eq_true, Bool.not_eq_false, Bool.true_eq_false, Bool.false_eq_true, not_false_eq_true, not_true_eq_false] at h18)
      refine HA_take (i := 4) (listed' := #[true, true, true, true, true, false, false, false, false, false, false, false, false, false, false, false, false, false, false, false, false, false, false, false, false, false, false, false, false, false]) (bodyPost_pan _ _ _) rfl rfl rfl rfl (by kernel_rfl) rfl (V_move rfl) (fun _ hA => hA.only (is := [0, 1]) (Y := [_, _]) (Z := []) rfl) ?_
      refine HA_take (i := 5) (listed' := #[true, true, true, true, true, true, false, false, false, false, false, false, false, false, false, false, false, false, false, false, false, false, false, false, false, false, false, false, false, false]) (bodyPost_pan _ _ _) rfl rfl rfl rfl (by kernel_rfl) rfl (V_indexC (j := 0) rfl rfl rfl Try.underlying28 Try.sizeOf5 ?_ ((congrArg (0 + ·) (Nat.mul_one _)).trans (Nat.zero_add _))) (fun _ hA => hA.only (is := [0, 1]) (Y := [_, _]) (Z := []) rfl) ?_
      · omega
      refine HA_take (i := 6) (listed' := #[true, true, true, true, true, true, true, false, false, false, false, false, false, false, false, false, false, false, false, false, false, false, false, false, false, false, false, false, false, false]) (bodyPost_pan _ _ _) rfl rfl rfl rfl (by kernel_rfl) rfl (V_loadOwn (i := 0) (v := .int .u8 (((197 : UInt8)).toNat)) rfl Try.isAgg5 rfl rfl (Nat.mul_one _) (Cod.frame_0 hb) (fun _ _ _ h => h.1)) (fun _ hA => hA.only (is := [0, 1]) (Y := [_, _]) (Z := []) rfl) ?_
      refine HA_take (i := 7) (listed' := #[true, true, true, true, true, true, true, true, false, false, false, false, false, false, false, false, false, false, false, false, false, false, false, false, false, false, false, false, false, false]) (bodyPost_pan _ _ _) rfl rfl rfl rfl (by kernel_rfl) rfl (V_bin rfl rfl bin_neq) (fun _ hA => hA.only (is := [0, 1]) (Y := [_, _]) (Z := []) rfl) ?_
      refine HA_take (i := 8) (listed' := #[true, true, true, true, true, true, true, true, true, false, false, false, false, false, false, false, false, false, false, false, false, false, false, false, false, false, false, false, false, false]) (bodyPost_pan _ _ _) rfl rfl rfl rfl (by kernel_rfl) rfl (V_pick_f rfl rfl) (fun _ hA => hA.only (is := [0, 1]) (Y := [_, _]) (Z := []) rfl) ?_
      refine HA_take (i := 9) (listed' := #[true, true, true, true, true, true, true, true, true, true, false, false, false, false, false, false, false, false, false, false, false, false, false, false, false, false, false, false, false, false]) (bodyPost_pan _ _ _) rfl rfl rfl rfl (by kernel_rfl) rfl (V_move rfl) (fun _ hA => hA.only (is := [0, 1]) (Y := [_, _]) (Z := []) rfl) ?_
      refine HA_split (d := 24) rfl ?_ ?_
      · intro h24
        (try simp only [decide_eq_true_eq, decide_eq_false_iff_not, Bool.not_eq_true', Bool.not_eq_false', Bool.not_eq_true, Bool.not_eq_false, Bool.true_eq_false, Bool.false_eq_true, not_false_eq_true, not_true_eq_false] at h24)
        all_goals (exact absurd rfl h24)
      · intro h24
        (try simp only [decide_eq_true_eq, decide_eq_false_iff_not, Bool.not_eq_true', Bool.not_eq_false', Bool.not_eq_true, Bool.not_eq_false, Bool.true_eq_false, Bool.false_eq_true, not_false_eq_true, not_true_eq_false] at h24)
        refine HA_take (i := 10) (listed' := #[true, true, true, true, true, true, true, true, true, true, true, false, false, false, false, false, false, false, false, false, false, false, false, false, false, false, false, false, false, false]) (bodyPost_pan _ _ _) rfl rfl rfl rfl (by kernel_rfl) rfl (V_move rfl) (fun _ hA => hA.only (is := [0, 1]) (Y := [_, _]) (Z := []) rfl) ?_
        refine HA_take (i := 11) (listed' := #[true, true, true, true, true, true, true, true, true, true, true, true, false, false, false, false, false, false, false, false, false, false, false, false, false, false, false, false, false, false]) (bodyPost_pan _ _ _) rfl rfl rfl rfl (by kernel_rfl) rfl (V_indexC (j := 1) rfl rfl rfl Try.underlying28 Try.sizeOf5 ?_ ((congrArg (0 + ·) (Nat.mul_one _)).trans (Nat.zero_add _))) (fun _ hA => hA.only (is := [0, 1]) (Y := [_, _]) (Z := []) rfl) ?_
        · omega
        refine HA_take (i := 12) (listed' := #[true, true, true, true, true, true, true, true, true, true, true, true, true, false, false, false, false, false, false, false, false, false, false, false, false, false, false, false, false, false]) (bodyPost_pan _ _ _) rfl rfl rfl rfl (by kernel_rfl) rfl (V_loadOwn (i := 0) (v := .int .u8 ((UInt8.ofNat b.length).toNat)) rfl Try.isAgg5 rfl rfl (Nat.mul_one _) (Cod.frame_1 hb) (fun _ _ _ h => h.1)) (fun _ hA => hA.only (is := [0, 1]) (Y := [_, _]) (Z := []) rfl) ?_
        refine HA_take (i := 13) (listed' := #[true, true, true, true, true, true, true, true, true, true, true, true, true, true, false, false, false, false, false, false, false, false, false, false, false, false, false, false, false, false]) (bodyPost_pan _ _ _) rfl rfl rfl rfl (by kernel_rfl) rfl (V_conv rfl (cv_int Try.underlying5 Try.underlying3 (wrap_i64_nat ?_))) (fun _ hA => hA.only (is := [0, 1]) (Y := [_, _]) (Z := []) rfl) ?_
        · (have := (UInt8.ofNat b.length).toNat_lt; omega)
        refine HA_take (i := 14) (listed' := #[true, true, true, true, true, true, true, true, true, true, true, true, true, true, true, false, false, false, false, false, false, false, false, false, false, false, false, false, false, false]) (bodyPost_pan _ _ _) rfl rfl rfl rfl (by kernel_rfl) rfl (V_move rfl) (fun _ hA => hA.only (is := [0, 1]) (Y := [_, _]) (Z := []) rfl) ?_
        refine HA_take (i := 15) (listed' := #[true, true, true, true, true, true, true, true, true, true, true, true, true, true, true, true, false, false, false, false, false, false, false, false, false, false, false, false, false, false]) (bodyPost_pan _ _ _) rfl rfl rfl rfl (by kernel_rfl) rfl (V_indexC (j := 2) rfl rfl rfl Try.underlying28 Try.sizeOf5 ?_ ((congrArg (0 + ·) (Nat.mul_one _)).trans (Nat.zero_add _))) (fun _ hA => hA.only (is := [0, 1]) (Y := [_, _]) (Z := []) rfl) ?_
        · omega
        refine HA_take (i := 16) (listed' := #[true, true, true, true, true, true, true, true, true, true, true, true, true, true, true, true, true, false, false, false, false, false, false, false, false, false, false, false, false, false]) (bodyPost_pan _ _ _) rfl rfl rfl rfl (by kernel_rfl) rfl (V_loadOwn (i := 0) (v := .int .u8 ((UInt8.ofNat (b.length / 2 ^ 8)).toNat)) rfl Try.isAgg5 rfl rfl (Nat.mul_one _) (Cod.frame_2 hb) (fun _ _ _ h => h.1)) (fun _ hA => hA.only (is := [0, 1]) (Y := [_, _]) (Z := []) rfl) ?_
        refine HA_take (i := 17) (listed' := #[true, true, true, true, true, true, true, true, true, true, true, true, true, true, true, true, true, true, false, false, false, false, false, false, false, false, false, false, false, false]) (bodyPost_pan _ _ _) rfl rfl rfl rfl (by kernel_rfl) rfl (V_conv rfl (cv_int Try.underlying5 Try.underlying3 (wrap_i64_nat ?_))) (fun _ hA => hA.only (is := [0, 1]) (Y := [_, _]) (Z := []) rfl) ?_
        · (have := (UInt8.ofNat (b.length / 2 ^ 8)).toNat_lt; omega)
        refine HA_take (i := 18) (listed' := #[true, true, true, true, true, true, true, true, true, true, true, true, true, true, true, true, true, true, true, false, false, false, false, false, false, false, false, false, false, false]) (bodyPost_pan _ _ _) rfl rfl rfl rfl (by kernel_rfl) rfl (V_bin rfl rfl (bin_shli (s := 8) (by decide) ?_ ?_)) (fun _ hA => hA.only (is := [0, 1]) (Y := [_, _]) (Z := []) rfl) ?_
        · (have h1 := (UInt8.ofNat b.length).toNat_lt; have h2 := (UInt8.ofNat (b.length / 2 ^ 8)).toNat_lt; have h3 := (UInt8.ofNat (b.length / 2 ^ 8 / 2 ^ 8)).toNat_lt; omega)
        · (have h1 := (UInt8.ofNat b.length).toNat_lt; have h2 := (UInt8.ofNat (b.length / 2 ^ 8)).toNat_lt; have h3 := (UInt8.ofNat (b.length / 2 ^ 8 / 2 ^ 8)).toNat_lt; omega)
        refine HA_take (i := 19) (listed' := #[true, true, true, true, true, true, true, true, true, true, true, true, true, true, true, true, true, true, true, true, false, false, false, false, false, false, false, false, false, false]) (bodyPost_pan _ _ _) rfl rfl rfl rfl (by kernel_rfl) rfl (V_bin rfl rfl (bin_add ?_ ?_)) (fun _ hA => hA.only (is := [0, 1]) (Y := [_, _]) (Z := []) rfl) ?_
        · (have h1 := (UInt8.ofNat b.length).toNat_lt; have h2 := (UInt8.ofNat (b.length / 2 ^ 8)).toNat_lt; have h3 := (UInt8.ofNat (b.length / 2 ^ 8 / 2 ^ 8)).toNat_lt; omega)
        · (have h1 := (UInt8.ofNat b.length).toNat_lt; have h2 := (UInt8.ofNat (b.length / 2 ^ 8)).toNat_lt; have h3 := (UInt8.ofNat (b.length / 2 ^ 8 / 2 ^ 8)).toNat_lt; omega)
        refine HA_take (i := 20) (listed' := #[true, true, true, true, true, true, true, true, true, true, true, true, true, true, true, true, true, true, true, true, true, false, false, false, false, false, false, false, false, false]) (bodyPost_pan _ _ _) rfl rfl rfl rfl (by kernel_rfl) rfl (V_move rfl) (fun _ hA => hA.only (is := [0, 1]) (Y := [_, _]) (Z := []) rfl) ?_
        refine HA_take (i := 21) (listed' := #[true, true, true, true, true, true, true, true, true, true, true, true, true, true, true, true, true, true, true, true, true, true, false, false, false, false, false, false, false, false]) (bodyPost_pan _ _ _) rfl rfl rfl rfl (by kernel_rfl) rfl (V_indexC (j := 3) rfl rfl rfl Try.underlying28 Try.sizeOf5 ?_ ((congrArg (0 + ·) (Nat.mul_one _)).trans (Nat.zero_add _))) (fun _ hA => hA.only (is := [0, 1]) (Y := [_, _]) (Z := []) rfl) ?_
        · omega
        refine HA_take (i := 22) (listed' := #[true, true, true, true, true, true, true, true, true, true, true, true, true, true, true, true, true, true, true, true, true, true, true, false, false, false, false, false, false, false]) (bodyPost_pan _ _ _) rfl rfl rfl rfl (by kernel_rfl) rfl (V_loadOwn (i := 0) (v := .int .u8 ((UInt8.ofNat (b.length / 2 ^ 8 / 2 ^ 8)).toNat)) rfl Try.isAgg5 rfl rfl (Nat.mul_one _) (Cod.frame_3 hb) (fun _ _ _ h => h.1)) (fun _ hA => hA.only (is := [0, 1]) (Y := [_, _]) (Z := []) rfl) ?_
        refine HA_take (i := 23) (listed' := #[true, true, true, true, true, true, true, true, true, true, true, true, true, true, true, true, true, true, true, true, true, true, true, true, false, false, false, false, false, false]) (bodyPost_pan _ _ _) rfl rfl rfl rfl (by kernel_rfl) rfl (V_conv rfl (cv_int Try.underlying5 Try.underlying3 (wrap_i64_nat ?_))) (fun _ hA => hA.only (is := [0, 1]) (Y := [_, _]) (Z := []) rfl) ?_
        · (have := (UInt8.ofNat (b.length / 2 ^ 8 / 2 ^ 8)).toNat_lt; omega)
        refine HA_take (i := 24) (listed' := #[true, true, true, true, true, true, true, true, true, true, true, true, true, true, true, true, true, true, true, true, true, true, true, true, true, false, false, false, false, false]) (bodyPost_pan _ _ _) rfl rfl rfl rfl (by kernel_rfl) rfl (V_bin rfl rfl (bin_shli (s := 16) (by decide) ?_ ?_)) (fun _ hA => hA.only (is := [0, 1]) (Y := [_, _]) (Z := []) rfl) ?_
        · (have h1 := (UInt8.ofNat b.length).toNat_lt; have h2 := (UInt8.ofNat (b.length / 2 ^ 8)).toNat_lt; have h3 := (UInt8.ofNat (b.length / 2 ^ 8 / 2 ^ 8)).toNat_lt; omega)
        · (have h1 := (UInt8.ofNat b.length).toNat_lt; have h2 := (UInt8.ofNat (b.length / 2 ^ 8)).toNat_lt; have h3 := (UInt8.ofNat (b.length / 2 ^ 8 / 2 ^ 8)).toNat_lt; omega)
        refine HA_take (i := 25) (listed' := #[true, true, true, true, true, true, true, true, true, true, true, true, true, true, true, true, true, true, true, true, true, true, true, true, true, true, false, false, false, false]) (bodyPost_pan _ _ _) rfl rfl rfl rfl (by kernel_rfl) rfl (V_bin rfl rfl (bin_add ?_ ?_)) (fun _ hA => hA.only (is := [0, 1]) (Y := [_, _]) (Z := []) rfl) ?_
        · (have h1 := (UInt8.ofNat b.length).toNat_lt; have h2 := (UInt8.ofNat (b.length / 2 ^ 8)).toNat_lt; have h3 := (UInt8.ofNat (b.length / 2 ^ 8 / 2 ^ 8)).toNat_lt; omega)
        · (have h1 := (UInt8.ofNat b.length).toNat_lt; have h2 := (UInt8.ofNat (b.length / 2 ^ 8)).toNat_lt; have h3 := (UInt8.ofNat (b.length / 2 ^ 8 / 2 ^ 8)).toNat_lt; omega)
        refine HA_take (i := 26) (listed' := #[true, true, true, true, true, true, true, true, true, true, true, true, true, true, true, true, true, true, true, true, true, true, true, true, true, true, true, false, false, false]) (bodyPost_pan _ _ _) rfl rfl rfl rfl (by kernel_rfl) rfl (V_move rfl) (fun _ hA => hA.only (is := [0, 1]) (Y := [_, _]) (Z := []) rfl) ?_
        refine HA_take (i := 27) (listed' := #[true, true, true, true, true, true, true, true, true, true, true, true, true, true, true, true, true, true, true, true, true, true, true, true, true, true, true, true, false, false]) (bodyPost_pan _ _ _) rfl rfl rfl rfl (by kernel_rfl) rfl (V_bi rfl (bi_len_sl Try.underlying28)) (fun _ hA => hA.only (is := [0, 1]) (Y := [_, _]) (Z := []) rfl) ?_
        refine HA_take (i := 28) (listed' := #[true, true, true, true, true, true, true, true, true, true, true, true, true, true, true, true, true, true, true, true, true, true, true, true, true, true, true, true, true, false]) (bodyPost_pan _ _ _) rfl rfl rfl rfl (by kernel_rfl) rfl (V_bin rfl rfl bin_neq) (fun _ hA => hA.only (is := [0, 1]) (Y := [_, _]) (Z := []) rfl) ?_
        refine HA_take (i := 29) (listed' := #[true, true, true, true, true, true, true, true, true, true, true, true, true, true, true, true, true, true, true, true, true, true, true, true, true, true, true, true, true, true]) (bodyPost_pan _ _ _) rfl rfl rfl rfl (by kernel_rfl) rfl (V_pick_f rfl rfl) (fun _ hA => hA.only (is := [0, 1]) (Y := [_, _]) (Z := []) rfl) ?_
        refine HA_done (by kernel_rfl) ?_
        refine H_env (ρ' := [(44, _), (5, _), (1, _)]) ⟨rfl, rfl, rfl, trivial⟩ ?_
        refine H_world (fun _ hA => hA.drop (is := [1]) (Y := [_]) (Z := [_]) rfl) ?_
        refine H_cond rfl ?_ ?_
        · intro h44
          (try simp only [decide_eq_true_eq, decide_eq_false_iff_not, Bool.not_eq_true', Bool.not_eq_false', Bool.not_eq_true, Bool.not_eq_false, Bool.true_eq_false, Bool.false_eq_true, not_false_eq_true, not_true_eq_false] at h44)
          (exfalso; exact Cod.marks_len hb h44)
        · intro h44
          (try simp only [decide_eq_true_eq, decide_eq_false_iff_not, Bool.not_eq_true', Bool.not_eq_false', Bool.not_eq_true, Bool.not_eq_false, Bool.true_eq_false, Bool.false_eq_true, not_false_eq_true, not_true_eq_false] at h44)
          refine H_skip ?_
          refine H_seq ?_
          -- R6 law.go:159
          refine H_region (l := [_, _, _, _]) rfl ?_
          refine HO_move rfl rfl rfl ?_
          refine HO_move rfl rfl rfl ?_
          refine HO_indexC (j := 0) rfl rfl rfl rfl rfl Try.underlying28 Try.sizeOf5 ?_ ((congrArg (0 + ·) (Nat.mul_one _)).trans (Nat.zero_add _)) ?_
          · (first | omega | assumption | decide)
          refine HO_storeOwn (i := 0) (cs := [_]) (R := []) rfl rfl rfl Try.sizeOf5 rfl (by simp [Value.oneCell']) rfl rfl rfl (Nat.mul_one _) ?_ (fun _ _ _ => ⟨rfl, trivial⟩) ?_
          · (first | omega | assumption | decide)
          refine HO_nil ?_
          refine H_env (ρ' := [(5, _), (1, _)]) ⟨rfl, rfl, trivial⟩ ?_
          refine H_seq ?_
          -- R7 law.go:160
          refine H_set (v' := .slice (some ⟨g5, 0, none⟩) ((Cod.frame b).set 0 z).length y14.2) 5 rfl (by rw [List.length_set]) ?_
          refine H_region (l := [_, _, _, _, _, _, _, _, _]) rfl ?_
          refine HO_move rfl rfl rfl ?_
          refine HO_call (first := []) (capt := []) (is := [0]) (R := []) rfl rfl rfl rfl rfl Try.call37 rfl (Spec.lend (pre1 := []) (pre2 := []) (Unframe_spec _ _ _ ?_) rfl (by intro y at' ha; obtain rfl := List.mem_singleton.1 ha; first | exact Atom.Flat.own kByte_plain _ _ _ _ | exact Atom.Flat.own kInt_plain _ _ _ _ | exact Atom.Flat.own kStr_plain _ _ _ _ | exact Atom.Flat.loc _ _ _)) ?_
          · (rw [List.length_set]; omega)
          intro y50 hy50
          refine HO_move rfl rfl rfl ?_
          refine HO_extract (vs := [_, _, _]) rfl rfl rfl rfl ?_
          refine HO_extract (vs := [_, _, _]) rfl rfl rfl rfl ?_
          refine HO_extract (vs := [_, _, _]) rfl rfl rfl rfl ?_
          refine HO_assign rfl rfl rfl ?_
          refine HO_assign rfl rfl rfl ?_
          refine HO_assign rfl rfl rfl ?_
          refine HO_nil ?_
          refine H_env (ρ' := [(8, _), (7, _), (1, _)]) ⟨rfl, rfl, rfl, trivial⟩ ?_
          refine H_world (fun _ hA => hA.drop (is := [0, 1]) (Y := [_, _]) (Z := []) rfl) ?_
          refine H_seq ?_
          -- R8 law.go:161
          refine H_region (l := [_, _, _, _, _, _, _, _, _, _, _, _, _, _, _, _, _, _, _, _, _]) rfl ?_
          refine HO_move rfl rfl rfl ?_
          refine HO_bin rfl rfl rfl rfl bin_eql ?_
          refine HO_move rfl rfl rfl ?_
          refine HO_bin rfl rfl rfl rfl bin_eql ?_
          refine HO_bin rfl rfl rfl rfl (bin_eqb Try.runUnderlying4) ?_
          refine HO_move rfl rfl rfl ?_
          refine HO_split (d := 59) rfl ?_ ?_
          · intro h59
            (try simp only [decide_eq_true_eq, decide_eq_false_iff_not, Bool.not_eq_true', Bool.not_eq_false', Bool.not_eq_true, Bool.not_eq_false, Bool.true_eq_false, Bool.false_eq_true, not_false_eq_true, not_true_eq_false] at h59)
            refine HO_move rfl rfl rfl ?_
            refine HO_bin rfl rfl rfl rfl bin_eql ?_
            refine HO_move rfl rfl rfl ?_
            refine HO_split (d := 62) rfl ?_ ?_
            · intro h62
              (try simp only [decide_eq_true_eq, decide_eq_false_iff_not, Bool.not_eq_true', Bool.not_eq_false', Bool.not_eq_true, Bool.not_eq_false, Bool.true_eq_false, Bool.false_eq_true, not_false_eq_true, not_true_eq_false] at h62)
              refine HO_no rfl rfl rfl ?_
              refine HO_no rfl rfl rfl ?_
              refine HO_no rfl rfl rfl ?_
              refine HO_no rfl rfl rfl ?_
              refine HO_no rfl rfl rfl ?_
              refine HO_no rfl rfl rfl ?_
              refine HO_pick_t rfl rfl rfl rfl ?_
              refine HO_pick_t rfl rfl rfl rfl ?_
              refine HO_move rfl rfl rfl ?_
              refine HO_call (first := []) (capt := []) (is := []) (R := []) rfl rfl rfl rfl rfl Try.call20 rfl lives_spec ?_
              intro y72 hy72
              clear y72 hy72
              refine HO_pick_t rfl rfl rfl rfl ?_
              refine HO_assign rfl rfl rfl ?_
              refine HO_nil ?_
              refine H_env (ρ' := [(4, _)]) ⟨rfl, trivial⟩ ?_
              -- end2
              refine H_ret1 Try.results10 (.tmp rfl) (fun w hA => ⟨(), congrArg Ending.returned ?_, ?_, ?_⟩)
              · (exact congrArg Value.bool (by first | rfl | assumption | simp_all))
              · trivial
              · exact hA.only (is := []) (Z := []) rfl
            · intro h62
              (try simp only [decide_eq_true_eq, decide_eq_false_iff_not, Bool.not_eq_true', Bool.not_eq_false', Bool.not_eq_true, Bool.not_eq_false, Bool.true_eq_false, Bool.false_eq_true, not_false_eq_true, not_true_eq_false] at h62)
              refine HO_move rfl rfl rfl ?_
              refine HO_bin rfl rfl rfl rfl bin_eql ?_
              refine HO_move rfl rfl rfl ?_
              refine HO_split (d := 65) rfl ?_ ?_
              · intro h65
                (try simp only [decide_eq_true_eq, decide_eq_false_iff_not, Bool.not_eq_true', Bool.not_eq_false', Bool.not_eq_true, Bool.not_eq_false, Bool.true_eq_false, Bool.false_eq_true, not_false_eq_true, not_true_eq_false] at h65)
                refine HO_move rfl rfl rfl ?_
                refine HO_bin rfl rfl rfl rfl bin_eql ?_
                refine HO_pick_t rfl rfl rfl rfl ?_
                refine HO_pick_f rfl rfl rfl rfl ?_
                refine HO_pick_t rfl rfl rfl rfl ?_
                refine HO_move rfl rfl rfl ?_
                refine HO_split (d := 71) rfl ?_ ?_
                · intro h71
                  (try simp only [decide_eq_true_eq, decide_eq_false_iff_not, Bool.not_eq_true', Bool.not_eq_false', Bool.not_eq_true, Bool.not_eq_false, Bool.true_eq_false, Bool.false_eq_true, not_false_eq_true, not_true_eq_false] at h71)
                  refine HO_call (first := []) (capt := []) (is := []) (R := []) rfl rfl rfl rfl rfl Try.call20 rfl lives_spec ?_
                  intro y72 hy72
                  clear y72 hy72
                  refine HO_pick_t rfl rfl rfl rfl ?_
                  refine HO_assign rfl rfl rfl ?_
                  refine HO_nil ?_
                  refine H_env (ρ' := [(4, _)]) ⟨rfl, trivial⟩ ?_
                  -- end3
                  refine H_ret1 Try.results10 (.tmp rfl) (fun w hA => ⟨(), congrArg Ending.returned ?_, ?_, ?_⟩)
                  · (exact congrArg Value.bool (by first | rfl | assumption | simp_all))
                  · trivial
                  · exact hA.only (is := []) (Z := []) rfl
                · intro h71
                  (try simp only [decide_eq_true_eq, decide_eq_false_iff_not, Bool.not_eq_true', Bool.not_eq_false', Bool.not_eq_true, Bool.not_eq_false, Bool.true_eq_false, Bool.false_eq_true, not_false_eq_true, not_true_eq_false] at h71)
                  all_goals (exfalso; exact Cod.marks_c hb h62 h71)
              · intro h65
                (try simp only [decide_eq_true_eq, decide_eq_false_iff_not, Bool.not_eq_true', Bool.not_eq_false', Bool.not_eq_true, Bool.not_eq_false, Bool.true_eq_false, Bool.false_eq_true, not_false_eq_true, not_true_eq_false] at h65)
                all_goals (exfalso; exact Cod.marks_b hb h62 h65)
          · intro h59
            (try simp only [decide_eq_true_eq, decide_eq_false_iff_not, Bool.not_eq_true', Bool.not_eq_false', Bool.not_eq_true, Bool.not_eq_false, Bool.true_eq_false, Bool.false_eq_true, not_false_eq_true, not_true_eq_false] at h59)
            all_goals (exfalso; exact Cod.marks_a hb h59)
end Go.Wk
