/- Contracts of the program's functions, each proved by walking its code. -/
import Derived.Test.YtbbcndjahjpdjabKbrdr
import Derived.Test.YtbbcndjahjpdjabCod5
import Derived.Test.YtbbcndjahjpdjabWk14
import Derived.Test.YtbbcndjahjpdjabKblaw01
set_option maxRecDepth 100000
set_option linter.unusedVariables false
set_option linter.unusedSimpArgs false
namespace Go.Wk.Flaw01r
open Go Go.RowKit Go.Proofs Go.Wk
theorem bd30_0_s {a1 : Option Addr} {n1 c1 : Nat} : ∀ w, (Instr.build 30 (List.toArray (List.zip [0] [.slice a1 n1 c1]))).run Try.prog w = .ok (.agg #[.slice a1 n1 c1, .bool (false)]) w := fun _ => by kernel_rfl
end Go.Wk.Flaw01r
namespace Go.Wk
open Go Go.RowKit Go.Proofs Flaw01r 
theorem CodecNone_spec (k : Int)  : Spec Try.prog 6 #[.int .i64 (k)] [] (β := Unit) (fun y => .bool (true)) (fun y => True) (fun y => []) := by
  refine Spec.enter (vs := [_]) Try.func6 rfl Try.ntmps6 rfl (Nat.le_of_ble_eq_true rfl) (fun w0 ok0 => ?_)
  generalize hM0 : blks _ = M0
  have hMn : ∀ {R : List Atom} (b : Nat), M0 b → blks R b := fun b hb => absurd (hM0 ▸ hb) (blks_none (by simp [Atom.dat, Atom.elem]) b)
  refine H_seq ?_
  -- R0 law.go:78
  refine H_region (l := [_]) rfl ?_
  refine HO_assign rfl rfl rfl ?_
  refine HO_nil ?_
  refine H_env (ρ' := [(0, _)]) ⟨rfl, trivial⟩ ?_
  refine H_seq ?_
  -- R1 law.go:79
  refine H_region (l := [_]) rfl ?_
  refine HO_assign rfl rfl rfl ?_
  refine HO_nil ?_
  refine H_seq ?_
  -- R2 law.go:80
  refine H_region (l := [_, _, _, _, _, _, _, _, _, _, _, _, _, _, _, _, _, _, _, _, _, _, _, _, _, _, _, _, _, _, _, _, _]) rfl ?_
  refine HO_move rfl rfl rfl ?_
  refine HO_call (first := []) (capt := []) (is := []) (R := []) rfl rfl rfl rfl rfl Try.call19 rfl cNum_nil ?_
  intro y5 hy5
  clear y5 hy5
  refine HO_bin rfl rfl rfl rfl (bin_lit (by decide) (fun _ => rfl)) ?_
  refine HO_move rfl rfl rfl ?_
  refine HO_move rfl rfl rfl ?_
  refine HO_call (first := []) (capt := []) (is := []) (R := []) rfl rfl rfl rfl rfl Try.call29 rfl cInt_nil ?_
  intro y9 hy9
  clear y9 hy9
  refine HO_bin rfl rfl rfl rfl (bin_lit (by decide) (fun _ => rfl)) ?_
  refine HO_pick_t rfl rfl rfl rfl ?_
  refine HO_move rfl rfl rfl ?_
  refine HO_move rfl rfl rfl ?_
  refine HO_call (first := []) (capt := []) (is := []) (R := []) rfl rfl rfl rfl rfl Try.call20 rfl cText_nil ?_
  intro y14 hy14
  clear y14 hy14
  refine HO_bin rfl rfl rfl rfl bin_eqs ?_
  refine HO_pick_t rfl rfl rfl rfl ?_
  refine HO_move rfl rfl rfl ?_
  refine HO_split (d := 17) rfl ?_ ?_
  · intro h17
    (try simp only [decide_eq_true_eq, decide_eq_false_iff_not, Bool.not_eq_true', Bool.not_eq_false', Bool.not_eq_true, Bool.not_eq_false, Bool.true_eq_false, Bool.false_eq_true, not_false_eq_true, not_true_eq_false] at h17)
    refine HO_move rfl rfl rfl ?_
    refine HO_call (first := []) (capt := []) (is := []) (R := []) rfl rfl rfl rfl rfl Try.call21 rfl cBool_nil ?_
    intro y19 hy19
    clear y19 hy19
    refine HO_not rfl rfl rfl ?_
    refine HO_pick_t rfl rfl rfl rfl ?_
    refine HO_move rfl rfl rfl ?_
    refine HO_move rfl rfl rfl ?_
    refine HO_move rfl rfl rfl ?_
    refine HO_call (first := []) (capt := []) (is := []) (R := []) rfl rfl rfl rfl rfl Try.call33 rfl (cCount_nil _) ?_
    intro y25 hy25
    clear y25 hy25
    refine HO_bin rfl rfl rfl rfl (bin_lit (by decide) (fun _ => rfl)) ?_
    refine HO_pick_t rfl rfl rfl rfl ?_
    refine HO_move rfl rfl rfl ?_
    refine HO_move rfl rfl rfl ?_
    refine HO_call (first := []) (capt := []) (is := []) (R := []) rfl rfl rfl rfl rfl Try.call22 rfl cEnd_nil ?_
    intro y30 hy30
    clear y30 hy30
    refine HO_not rfl rfl rfl ?_
    refine HO_pick_t rfl rfl rfl rfl ?_
    refine HO_move rfl rfl rfl ?_
    refine HO_call (first := []) (capt := []) (is := []) (R := []) rfl rfl rfl rfl rfl Try.call15 rfl lives_spec ?_
    intro y34 hy34
    clear y34 hy34
    refine HO_pick_t rfl rfl rfl rfl ?_
    refine HO_assign rfl rfl rfl ?_
    refine HO_nil ?_
    refine H_env (ρ' := [(2, _)]) ⟨rfl, trivial⟩ ?_
    -- end1
    refine H_ret1 Try.results6 (.tmp rfl) (fun w hA => ⟨(), congrArg Ending.returned ?_, ?_, ?_⟩)
    · (exact congrArg Value.bool (by first | rfl | assumption | simp_all))
    · trivial
    · exact hA.only (is := []) (Z := []) rfl
  · intro h17
    (try simp only [decide_eq_true_eq, decide_eq_false_iff_not, Bool.not_eq_true', Bool.not_eq_false', Bool.not_eq_true, Bool.not_eq_false, Bool.true_eq_false, Bool.false_eq_true, not_false_eq_true, not_true_eq_false] at h17)
    all_goals (exact absurd rfl h17)
theorem CodecBack_spec (u : Nat) (s : ByteArray) (t : Bool) (hu : u < 18446744073709551616) (ss : s.size ≤ 140737488351232) : Spec Try.prog 3 #[.int .u64 (u), .string (s), .bool (t)] [] (β := Unit) (fun y => .bool (true)) (fun y => True) (fun y => []) := by
  have hsl : s.data.toList.length = s.size := Array.length_toList
  have hlen9 := Cod.enc_length u
  have hbu := Cod.beh_le u
  have hls9 := Cod.enc_length s.size
  have hbs := Cod.beh_le s.size
  refine Spec.enter (vs := [_, _, _]) Try.func3 rfl Try.ntmps3 rfl (Nat.le_of_ble_eq_true rfl) (fun w0 ok0 => ?_)
  generalize hM0 : blks _ = M0
  have hMn : ∀ {R : List Atom} (b : Nat), M0 b → blks R b := fun b hb => absurd (hM0 ▸ hb) (blks_none (by simp [Atom.dat, Atom.elem]) b)
  refine H_seq ?_
  -- R0 law.go:84
  refine H_region (l := [_]) rfl ?_
  refine HO_assign rfl rfl rfl ?_
  refine HO_nil ?_
  refine H_env (ρ' := [(0, _), (1, _), (2, _)]) ⟨rfl, rfl, rfl, trivial⟩ ?_
  refine H_seq ?_
  refine H_seq ?_
  -- R1 law.go:85
  refine H_region (l := [_, _, _]) rfl ?_
  refine HO_move rfl rfl rfl ?_
  refine HO_bi rfl rfl rfl (bi_len_str Try.underlying9) ?_
  refine HO_bin rfl rfl rfl rfl bin_gtr ?_
  refine HO_nil ?_
  refine H_env (ρ' := [(10, _), (0, _), (1, _), (2, _)]) ⟨rfl, rfl, rfl, rfl, trivial⟩ ?_
  refine H_cond rfl ?_ ?_
  · intro h10
    (try simp only [decide_eq_true_eq, decide_eq_false_iff_not, Bool.not_eq_true', Bool.not_eq_false', Bool.not_eq_true, Bool.not_eq_false, Bool.true_eq_false, Bool.false_eq_true, not_false_eq_true, not_true_eq_false] at h10)
    refine H_seq ?_
    -- R2 law.go:86
    refine H_region (l := [_, _]) rfl ?_
    refine HO_call (first := []) (capt := []) (is := []) (R := []) rfl rfl rfl rfl rfl Try.call15 rfl lives_spec ?_
    intro y11 hy11
    clear y11 hy11
    refine HO_assign rfl rfl rfl ?_
    refine HO_nil ?_
    refine H_env (ρ' := [(6, _)]) ⟨rfl, trivial⟩ ?_
    -- end1
    refine H_ret1 Try.results3 (.tmp rfl) (fun w hA => ⟨(), congrArg Ending.returned ?_, ?_, ?_⟩)
    · (exact congrArg Value.bool (by first | rfl | assumption | simp_all))
    · trivial
    · exact hA.only (is := []) (Z := []) rfl
  · intro h10
    (try simp only [decide_eq_true_eq, decide_eq_false_iff_not, Bool.not_eq_true', Bool.not_eq_false', Bool.not_eq_true, Bool.not_eq_false, Bool.true_eq_false, Bool.false_eq_true, not_false_eq_true, not_true_eq_false] at h10)
    refine H_skip ?_
    refine H_seq ?_
    -- R3 law.go:88
    refine H_region (l := [_, _, _, _, _, _, _, _, _]) rfl ?_
    refine HO_move rfl rfl rfl ?_
    refine HO_nilDat kByte ?_
    refine HO_dup (i := 0) rfl rfl ?_
    refine HO_call (first := []) (capt := []) (is := [0]) (R := [_]) rfl rfl rfl rfl rfl Try.call18 rfl (Put_spec _ _ _ _ ?_ ?_) ?_
    · assumption
    · decide
    intro y13 hy13
    refine HO_move rfl rfl rfl ?_
    refine HO_call (first := []) (capt := []) (is := [0]) (R := [_]) rfl rfl rfl rfl rfl Try.call17 rfl (Spec.lend (pre1 := []) (pre2 := []) (PutText_spec _ _ _ _ ?_ ?_) rfl (by intro y at' ha; obtain rfl := List.mem_singleton.1 ha; first | exact Atom.Flat.own kByte_plain _ _ _ _ | exact Atom.Flat.own kInt_plain _ _ _ _ | exact Atom.Flat.own kStr_plain _ _ _ _ | exact Atom.Flat.loc _ _ _)) ?_
    · omega
    · (simp; omega)
    intro y15 hy15
    refine HO_move rfl rfl rfl ?_
    refine HO_call (first := []) (capt := []) (is := [1]) (R := [_, _]) rfl rfl rfl rfl rfl Try.call16 rfl (Spec.lend (pre1 := []) (pre2 := []) (PutBool_spec _ _ _ _ ?_) rfl (by intro y at' ha; obtain rfl := List.mem_singleton.1 ha; first | exact Atom.Flat.own kByte_plain _ _ _ _ | exact Atom.Flat.own kInt_plain _ _ _ _ | exact Atom.Flat.own kStr_plain _ _ _ _ | exact Atom.Flat.loc _ _ _)) ?_
    · (simp; omega)
    intro y17 hy17
    refine HO_build (xo := [(0, _)]) (vs := [_]) rfl rfl rfl rfl (bd30_0_s) ?_
    refine HO_box (cs := [_, _]) rfl rfl rfl rfl ?_
    intro g19
    refine HO_assign rfl rfl rfl ?_
    refine HO_nil ?_
    refine H_env (ρ' := [(7, _), (0, _), (1, _), (2, _)]) ⟨rfl, rfl, rfl, rfl, trivial⟩ ?_
    refine H_world (fun _ hA => hA.drop (is := [1, 3, 4]) (Y := [_, _, _]) (Z := [_, _]) rfl) ?_
    refine H_seq ?_
    refine H_seq ?_
    -- R4 law.go:89
    rw [Cod.back_all]
    refine H_freeze (i := 1) (R := [_]) rfl hMn ?_
    refine H_region (l := [_, _, _, _, _, _, _, _, _, _, _, _, _, _, _, _, _, _, _, _, _, _, _, _, _, _, _, _, _, _]) rfl ?_
    refine HO_move rfl rfl rfl ?_
    refine HO_dup (i := 0) rfl rfl ?_
    refine HO_call (first := []) (capt := []) (is := [1, 0]) (R := [_]) rfl rfl rfl rfl rfl Try.call19 rfl (cNum_spec _ _ _ _ _) ?_
    intro y21 hy21
    rw [Cod.rd_num hu]
    refine HO_move rfl rfl rfl ?_
    refine HO_bin rfl rfl rfl rfl bin_neq ?_
    refine HO_move rfl rfl rfl ?_
    refine HO_split (d := 24) rfl ?_ ?_
    · intro h24
      (try simp only [decide_eq_true_eq, decide_eq_false_iff_not, Bool.not_eq_true', Bool.not_eq_false', Bool.not_eq_true, Bool.not_eq_false, Bool.true_eq_false, Bool.false_eq_true, not_false_eq_true, not_true_eq_false] at h24)
      all_goals (exact absurd rfl h24)
    · intro h24
      (try simp only [decide_eq_true_eq, decide_eq_false_iff_not, Bool.not_eq_true', Bool.not_eq_false', Bool.not_eq_true, Bool.not_eq_false, Bool.true_eq_false, Bool.false_eq_true, not_false_eq_true, not_true_eq_false] at h24)
      refine HO_move rfl rfl rfl ?_
      refine HO_dup (i := 1) rfl rfl ?_
      refine HO_call (first := []) (capt := []) (is := [0, 0]) (R := [_, _]) rfl rfl rfl rfl rfl Try.call20 rfl (cText_spec _ _ _ _ _ ?_) ?_
      · (simp; omega)
      intro y26 hy26
      rw [Cod.rd_text (by omega)]
      refine HO_move rfl rfl rfl ?_
      refine HO_bin rfl rfl rfl rfl bin_nes ?_
      refine HO_pick_f rfl rfl rfl rfl ?_
      refine HO_move rfl rfl rfl ?_
      refine HO_split (d := 30) rfl ?_ ?_
      · intro h30
        (try simp only [decide_eq_true_eq, decide_eq_false_iff_not, Bool.not_eq_true', Bool.not_eq_false', Bool.not_eq_true, Bool.not_eq_false, Bool.true_eq_false, Bool.false_eq_true, not_false_eq_true, not_true_eq_false] at h30)
        all_goals (exact absurd rfl h30)
      · intro h30
        (try simp only [decide_eq_true_eq, decide_eq_false_iff_not, Bool.not_eq_true', Bool.not_eq_false', Bool.not_eq_true, Bool.not_eq_false, Bool.true_eq_false, Bool.false_eq_true, not_false_eq_true, not_true_eq_false] at h30)
        refine HO_move rfl rfl rfl ?_
        refine HO_dup (i := 1) rfl rfl ?_
        refine HO_call (first := []) (capt := []) (is := [0, 0]) (R := [_, _, _]) rfl rfl rfl rfl rfl Try.call21 rfl (cBool_spec _ _ _ _ _) ?_
        intro y32 hy32
        rw [Cod.rd_bool]
        refine HO_move rfl rfl rfl ?_
        refine HO_bin rfl rfl rfl rfl (bin_neb Try.runUnderlying4) ?_
        refine HO_pick_f rfl rfl rfl rfl ?_
        refine HO_move rfl rfl rfl ?_
        refine HO_split (d := 36) rfl ?_ ?_
        · intro h36
          (try simp only [decide_eq_true_eq, decide_eq_false_iff_not, Bool.not_eq_true', Bool.not_eq_false', Bool.not_eq_true, Bool.not_eq_false, Bool.true_eq_false, Bool.false_eq_true, not_false_eq_true, not_true_eq_false] at h36)
          (exact absurd h36 (by simp))
        · intro h36
          (try simp only [decide_eq_true_eq, decide_eq_false_iff_not, Bool.not_eq_true', Bool.not_eq_false', Bool.not_eq_true, Bool.not_eq_false, Bool.true_eq_false, Bool.false_eq_true, not_false_eq_true, not_true_eq_false] at h36)
          refine HO_move rfl rfl rfl ?_
          refine HO_dup (i := 1) rfl rfl ?_
          refine HO_call (first := []) (capt := []) (is := [0, 0]) (R := [_, _, _, _]) rfl rfl rfl rfl rfl Try.call22 rfl (cEnd_spec _ _ _ _ _) ?_
          intro y38 hy38
          clear y38 hy38
          refine HO_not rfl rfl rfl ?_
          refine HO_pick_f rfl rfl rfl rfl ?_
          refine HO_move rfl rfl rfl ?_
          refine HO_split (d := 41) rfl ?_ ?_
          · intro h41
            (try simp only [decide_eq_true_eq, decide_eq_false_iff_not, Bool.not_eq_true', Bool.not_eq_false', Bool.not_eq_true, Bool.not_eq_false, Bool.true_eq_false, Bool.false_eq_true, not_false_eq_true, not_true_eq_false] at h41)
            (exact absurd h41 (by decide))
          · intro h41
            (try simp only [decide_eq_true_eq, decide_eq_false_iff_not, Bool.not_eq_true', Bool.not_eq_false', Bool.not_eq_true, Bool.not_eq_false, Bool.true_eq_false, Bool.false_eq_true, not_false_eq_true, not_true_eq_false] at h41)
            refine HO_move rfl rfl rfl ?_
            refine HO_conv rfl rfl rfl (cv_int Try.underlying22 Try.underlying3 (wrap_toI hu)) ?_
            refine HO_call (first := []) (capt := []) (is := []) (R := [_, _, _, _, _]) rfl rfl rfl rfl rfl Try.call24 rfl (zig_spec _) ?_
            intro y44 hy44
            clear y44 hy44
            refine HO_call (first := []) (capt := []) (is := []) (R := [_, _, _, _, _]) rfl rfl rfl rfl rfl Try.call23 rfl (zag_spec _ ?_) ?_
            · (exact Cod.zig_lt _)
            intro y45 hy45
            clear y45 hy45
            refine HO_move rfl rfl rfl ?_
            refine HO_conv rfl rfl rfl (cv_int Try.underlying22 Try.underlying3 (wrap_toI hu)) ?_
            refine HO_bin rfl rfl rfl rfl bin_neq ?_
            refine HO_pick_f rfl rfl rfl rfl ?_
            refine HO_nil ?_
            refine H_env (ρ' := [(49, _), (7, _)]) ⟨rfl, rfl, trivial⟩ ?_
            refine H_world (fun _ hA => hA.drop (is := [2, 3, 4]) (Y := [_, _, _]) (Z := [_, _]) rfl) ?_
            refine H_cond rfl ?_ ?_
            · intro h49
              (try simp only [decide_eq_true_eq, decide_eq_false_iff_not, Bool.not_eq_true', Bool.not_eq_false', Bool.not_eq_true, Bool.not_eq_false, Bool.true_eq_false, Bool.false_eq_true, not_false_eq_true, not_true_eq_false] at h49)
              (exact absurd (Cod.zag_zig hu) h49)
            · intro h49
              (try simp only [decide_eq_true_eq, decide_eq_false_iff_not, Bool.not_eq_true', Bool.not_eq_false', Bool.not_eq_true, Bool.not_eq_false, Bool.true_eq_false, Bool.false_eq_true, not_false_eq_true, not_true_eq_false] at h49)
              refine H_skip ?_
              refine H_seq ?_
              -- R6 law.go:92
              refine H_region (l := [_, _]) rfl ?_
              refine HO_move rfl rfl rfl ?_
              refine HO_dup (i := 1) rfl rfl ?_
              refine HO_call (first := []) (capt := []) (is := [0, 0]) (R := [_]) rfl rfl rfl rfl rfl Try.call19 rfl (cNum_spec _ _ _ _ _) ?_
              intro y51 hy51
              refine HO_nil ?_
              refine H_env (ρ' := [(7, _)]) ⟨rfl, trivial⟩ ?_
              refine H_world (fun _ hA => hA.drop (is := [2]) (Y := [_]) (Z := [_, _]) rfl) ?_
              refine H_seq ?_
              -- R7 law.go:93
              rw [Cod.rd_bad (z := 0) (r := Cod.dec []) (b := []) (w := false) (.inr rfl)]
              refine H_region (l := [_, _, _, _, _, _, _, _, _, _, _, _, _]) rfl ?_
              refine HO_move rfl rfl rfl ?_
              refine HO_nilCheck rfl rfl rfl ?_
              refine HO_fieldAddr (r := 1) rfl rfl rfl Try.underlying30 rfl Try.sizeOf4 rfl ?_
              refine HO_load1 (i := 0) (j := 1) rfl rfl rfl Try.isAgg4 rfl (.loc _ _ _) rfl rfl ?_
              refine HO_move rfl rfl rfl ?_
              refine HO_split (d := 56) rfl ?_ ?_
              · intro h56
                (try simp only [decide_eq_true_eq, decide_eq_false_iff_not, Bool.not_eq_true', Bool.not_eq_false', Bool.not_eq_true, Bool.not_eq_false, Bool.true_eq_false, Bool.false_eq_true, not_false_eq_true, not_true_eq_false] at h56)
                refine HO_move rfl rfl rfl ?_
                refine HO_dup (i := 1) rfl rfl ?_
                refine HO_call (first := []) (capt := []) (is := [0, 0]) (R := [_]) rfl rfl rfl rfl rfl Try.call22 rfl (cEnd_spec _ _ _ _ _) ?_
                intro y58 hy58
                clear y58 hy58
                refine HO_not rfl rfl rfl ?_
                refine HO_pick_t rfl rfl rfl rfl ?_
                refine HO_move rfl rfl rfl ?_
                refine HO_split (d := 61) rfl ?_ ?_
                · intro h61
                  (try simp only [decide_eq_true_eq, decide_eq_false_iff_not, Bool.not_eq_true', Bool.not_eq_false', Bool.not_eq_true, Bool.not_eq_false, Bool.true_eq_false, Bool.false_eq_true, not_false_eq_true, not_true_eq_false] at h61)
                  refine HO_call (first := []) (capt := []) (is := []) (R := [_, _]) rfl rfl rfl rfl rfl Try.call15 rfl lives_spec ?_
                  intro y62 hy62
                  clear y62 hy62
                  refine HO_pick_t rfl rfl rfl rfl ?_
                  refine HO_assign rfl rfl rfl ?_
                  refine HO_nil ?_
                  refine H_env (ρ' := [(6, _)]) ⟨rfl, trivial⟩ ?_
                  refine H_world (fun _ hA => hA.drop (is := [0, 1]) (Y := [_, _]) (Z := []) rfl) ?_
                  -- end2
                  refine H_ret1 Try.results3 (.tmp rfl) (fun w hA => ⟨(), congrArg Ending.returned ?_, ?_, ?_⟩)
                  · (exact congrArg Value.bool (by first | rfl | assumption | simp_all))
                  · trivial
                  · exact hA.only (is := []) (Z := []) rfl
                · intro h61
                  (try simp only [decide_eq_true_eq, decide_eq_false_iff_not, Bool.not_eq_true', Bool.not_eq_false', Bool.not_eq_true, Bool.not_eq_false, Bool.true_eq_false, Bool.false_eq_true, not_false_eq_true, not_true_eq_false] at h61)
                  (exact absurd h61 (by decide))
              · intro h56
                (try simp only [decide_eq_true_eq, decide_eq_false_iff_not, Bool.not_eq_true', Bool.not_eq_false', Bool.not_eq_true, Bool.not_eq_false, Bool.true_eq_false, Bool.false_eq_true, not_false_eq_true, not_true_eq_false] at h56)
                all_goals (exact absurd rfl h56)
end Go.Wk
