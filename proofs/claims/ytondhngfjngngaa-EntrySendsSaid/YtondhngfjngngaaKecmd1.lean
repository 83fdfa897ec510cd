/- Contracts of the program's functions, each proved by walking its code. -/
import Derived.Test.YtondhngfjngngaaKeref01b
import Derived.Test.YtondhngfjngngaaCmd
import Derived.Test.YtondhngfjngngaaWk17
set_option maxRecDepth 100000
set_option linter.unusedVariables false
set_option linter.unusedSimpArgs false
namespace Go.Wk.Fcmd1
open Go Go.RowKit Go.Proofs Go.Wk
theorem bd23_0_1_ii {x1 : Int} {x2 : Int} : ∀ w, (Instr.build 23 (List.toArray (List.zip [0, 1] [.int .i64 x1, .int .i64 x2]))).run Try.prog w = .ok (.agg #[.int .i64 x1, .int .i64 x2, .int .i64 (0), .string (⟨#[]⟩), .string (⟨#[]⟩), .string (⟨#[]⟩), .string (⟨#[]⟩), .int .i64 (0)]) w := fun _ => by kernel_rfl
theorem bd23_0_1_2_3_iiit {x1 : Int} {x2 : Int} {x3 : Int} {x4 : ByteArray} : ∀ w, (Instr.build 23 (List.toArray (List.zip [0, 1, 2, 3] [.int .i64 x1, .int .i64 x2, .int .i64 x3, .string x4]))).run Try.prog w = .ok (.agg #[.int .i64 x1, .int .i64 x2, .int .i64 x3, .string x4, .string (⟨#[]⟩), .string (⟨#[]⟩), .string (⟨#[]⟩), .int .i64 (0)]) w := fun _ => by kernel_rfl
theorem bd23_0_i {x1 : Int} : ∀ w, (Instr.build 23 (List.toArray (List.zip [0] [.int .i64 x1]))).run Try.prog w = .ok (.agg #[.int .i64 x1, .int .i64 (0), .int .i64 (0), .string (⟨#[]⟩), .string (⟨#[]⟩), .string (⟨#[]⟩), .string (⟨#[]⟩), .int .i64 (0)]) w := fun _ => by kernel_rfl
theorem eq23_eql {x y : Operand} {a0 b0 : Int} {a1 b1 : Int} {a2 b2 : Int} {a3 b3 : ByteArray} {a4 b4 : ByteArray} {a5 b5 : ByteArray} {a6 b6 : ByteArray} {a7 b7 : Int} : BinR Try.prog .eql 23 x y (.agg #[.int .i64 a0, .int .i64 a1, .int .i64 a2, .string a3, .string a4, .string a5, .string a6, .int .i64 a7]) (.agg #[.int .i64 b0, .int .i64 b1, .int .i64 b2, .string b3, .string b4, .string b5, .string b6, .int .i64 b7]) (.bool (decide (a0 = b0) && (decide (a1 = b1) && (decide (a2 = b2) && (decide (a3 = b3) && (decide (a4 = b4) && (decide (a5 = b5) && (decide (a6 = b6) && (decide (a7 = b7) && true))))))))) :=
  bin_eqs_agg (by kernel_rfl) Try.underlying23 (by kernel_rfl) (fun w => (eqF_int (by decide) Try.underlying3 Try.isAgg3 rfl rfl (eqF_int (by decide) Try.underlying3 Try.isAgg3 rfl rfl (eqF_int (by decide) Try.underlying3 Try.isAgg3 rfl rfl (eqF_str (by decide) Try.underlying9 Try.isAgg9 rfl rfl (eqF_str (by decide) Try.underlying9 Try.isAgg9 rfl rfl (eqF_str (by decide) Try.underlying9 Try.isAgg9 rfl rfl (eqF_str (by decide) Try.underlying9 Try.isAgg9 rfl rfl (eqF_int (by decide) Try.underlying3 Try.isAgg3 rfl rfl eqF_nil)))))))))
end Go.Wk.Fcmd1
namespace Go.Wk
open Go Go.RowKit Go.Proofs Fcmd1 
theorem key_spec (s : ByteArray)  : Spec Try.prog 117 #[.string (s)] [] (β := Unit) (fun y => .bool (Cmd.keyok s)) (fun y => True) (fun y => []) := by
  refine Spec.enter (vs := [_]) Try.func117 rfl Try.ntmps117 rfl (Nat.le_of_ble_eq_true rfl) (fun w0 ok0 => ?_)
  generalize hM0 : blks _ = M0
  have hMn : ∀ {R : List Atom} (b : Nat), M0 b → blks R b := fun b hb => absurd (hM0 ▸ hb) (blks_none (by simp [Atom.dat, Atom.elem]) b)
  refine H_seq ?_
  -- R0 command.go:11
  refine H_region (l := [_]) rfl ?_
  refine HO_assign rfl rfl rfl ?_
  refine HO_nil ?_
  refine H_env (ρ' := [(0, _)]) ⟨rfl, trivial⟩ ?_
  refine H_seq ?_
  -- R1 command.go:11
  refine H_region (l := [_, _, _, _, _, _, _, _]) rfl ?_
  refine HO_move rfl rfl rfl ?_
  refine HO_bin rfl rfl rfl rfl bin_nes ?_
  refine HO_move rfl rfl rfl ?_
  refine HO_split (d := 5) rfl ?_ ?_
  · intro h5
    (try simp only [decide_eq_true_eq, decide_eq_false_iff_not, Bool.not_eq_true', Bool.not_eq_false', Bool.not_eq_true, Bool.not_eq_false, Bool.true_eq_false, Bool.false_eq_true, not_false_eq_true, not_true_eq_false] at h5)
    refine HO_move rfl rfl rfl ?_
    refine HO_bi rfl rfl rfl (bi_len_str Try.underlying9) ?_
    refine HO_bin rfl rfl rfl rfl bin_leq ?_
    refine HO_pick_t rfl rfl rfl rfl ?_
    refine HO_assign rfl rfl rfl ?_
    refine HO_nil ?_
    refine H_env (ρ' := [(2, _)]) ⟨rfl, trivial⟩ ?_
    -- end1
    refine H_ret1 Try.results117 (.tmp rfl) (fun w hA => ⟨(), congrArg Ending.returned ?_, ?_, ?_⟩)
    · (exact congrArg Value.bool (by first | exact Cmd.key_t h5 | exact Cmd.key_f h5))
    · trivial
    · exact hA.only (is := []) (Z := []) rfl
  · intro h5
    (try simp only [decide_eq_true_eq, decide_eq_false_iff_not, Bool.not_eq_true', Bool.not_eq_false', Bool.not_eq_true, Bool.not_eq_false, Bool.true_eq_false, Bool.false_eq_true, not_false_eq_true, not_true_eq_false] at h5)
    refine HO_no rfl rfl rfl ?_
    refine HO_no rfl rfl rfl ?_
    refine HO_no rfl rfl rfl ?_
    refine HO_pick_f rfl rfl rfl rfl ?_
    refine HO_assign rfl rfl rfl ?_
    refine HO_nil ?_
    refine H_env (ρ' := [(2, _)]) ⟨rfl, trivial⟩ ?_
    -- end2
    refine H_ret1 Try.results117 (.tmp rfl) (fun w hA => ⟨(), congrArg Ending.returned ?_, ?_, ?_⟩)
    · (exact congrArg Value.bool (by first | exact Cmd.key_t h5 | exact Cmd.key_f h5))
    · trivial
    · exact hA.only (is := []) (Z := []) rfl
theorem value_spec (s : ByteArray)  : Spec Try.prog 119 #[.string (s)] [] (β := Unit) (fun y => .bool (Cmd.valok s)) (fun y => True) (fun y => []) := by
  refine Spec.enter (vs := [_]) Try.func119 rfl Try.ntmps119 rfl (Nat.le_of_ble_eq_true rfl) (fun w0 ok0 => ?_)
  generalize hM0 : blks _ = M0
  have hMn : ∀ {R : List Atom} (b : Nat), M0 b → blks R b := fun b hb => absurd (hM0 ▸ hb) (blks_none (by simp [Atom.dat, Atom.elem]) b)
  refine H_seq ?_
  -- R0 command.go:13
  refine H_region (l := [_]) rfl ?_
  refine HO_assign rfl rfl rfl ?_
  refine HO_nil ?_
  refine H_env (ρ' := [(0, _)]) ⟨rfl, trivial⟩ ?_
  refine H_seq ?_
  -- R1 command.go:13
  refine H_region (l := [_, _, _, _]) rfl ?_
  refine HO_move rfl rfl rfl ?_
  refine HO_bi rfl rfl rfl (bi_len_str Try.underlying9) ?_
  refine HO_bin rfl rfl rfl rfl bin_leq ?_
  refine HO_assign rfl rfl rfl ?_
  refine HO_nil ?_
  refine H_env (ρ' := [(2, _)]) ⟨rfl, trivial⟩ ?_
  -- end1
  refine H_ret1 Try.results119 (.tmp rfl) (fun w hA => ⟨(), congrArg Ending.returned ?_, ?_, ?_⟩)
  · (exact congrArg Value.bool (Cmd.val_eq s))
  · trivial
  · exact hA.only (is := []) (Z := []) rfl
theorem fits1_spec (g : Nat) (ki se sq : Int) (ke ol va ti : ByteArray) (li : Int)  : Spec Try.prog 116 #[.pointer (some ⟨g, 0, none⟩)] [.loc g [.int .i64 (ki), .int .i64 (se), .int .i64 (sq), .string (ke), .string (ol), .string (va), .string (ti), .int .i64 (li)] 23] (β := Unit) (fun y => .bool (Cmd.keyok ke)) (fun y => True) (fun y => [.loc g [.int .i64 (ki), .int .i64 (se), .int .i64 (sq), .string (ke), .string (ol), .string (va), .string (ti), .int .i64 (li)] 23]) := by
  refine Spec.enter (vs := [_]) Try.func116 rfl Try.ntmps116 rfl (Nat.le_of_ble_eq_true rfl) (fun w0 ok0 => ?_)
  generalize hM0 : blks _ = M0
  refine H_seq ?_
  -- R0 command.go:18
  refine H_region (l := [_]) rfl ?_
  refine HO_assign rfl rfl rfl ?_
  refine HO_nil ?_
  refine H_env (ρ' := [(0, _)]) ⟨rfl, trivial⟩ ?_
  refine H_seq ?_
  -- R1 command.go:18
  refine H_region (l := [_, _, _, _]) rfl ?_
  refine HO_fieldAddr (r := 3) rfl rfl rfl Try.underlying23 rfl Try.sizeOf9 rfl ?_
  refine HO_load1 (i := 0) (j := 3) rfl rfl rfl Try.isAgg9 rfl (.loc _ _ _) rfl rfl ?_
  refine HO_call (first := []) (capt := []) (is := []) (R := [_]) rfl rfl rfl rfl rfl Try.call117 rfl (key_spec _) ?_
  intro y4 hy4
  clear y4 hy4
  refine HO_assign rfl rfl rfl ?_
  refine HO_nil ?_
  refine H_env (ρ' := [(1, _)]) ⟨rfl, trivial⟩ ?_
  -- end1
  refine H_ret1 Try.results116 (.tmp rfl) (fun w hA => ⟨(), congrArg Ending.returned ?_, ?_, ?_⟩)
  · rfl
  · trivial
  · exact hA.only (is := [0]) (Z := []) rfl
theorem fits4_spec (g : Nat) (ki se sq : Int) (ke ol va ti : ByteArray) (li : Int)  : Spec Try.prog 121 #[.pointer (some ⟨g, 0, none⟩)] [.loc g [.int .i64 (ki), .int .i64 (se), .int .i64 (sq), .string (ke), .string (ol), .string (va), .string (ti), .int .i64 (li)] 23] (β := Unit) (fun y => .bool (Cmd.scanok ⟨ki, se, sq, ke, ol, va, ti, li⟩)) (fun y => True) (fun y => [.loc g [.int .i64 (ki), .int .i64 (se), .int .i64 (sq), .string (ke), .string (ol), .string (va), .string (ti), .int .i64 (li)] 23]) := by
  refine Spec.enter (vs := [_]) Try.func121 rfl Try.ntmps121 rfl (Nat.le_of_ble_eq_true rfl) (fun w0 ok0 => ?_)
  generalize hM0 : blks _ = M0
  refine H_seq ?_
  -- R0 command.go:30
  refine H_region (l := [_]) rfl ?_
  refine HO_assign rfl rfl rfl ?_
  refine HO_nil ?_
  refine H_env (ρ' := [(0, _)]) ⟨rfl, trivial⟩ ?_
  refine H_seq ?_
  -- R1 command.go:31
  refine H_region (l := [_, _, _, _, _, _, _, _, _, _, _, _, _, _, _, _, _, _, _]) rfl ?_
  refine HO_fieldAddr (r := 3) rfl rfl rfl Try.underlying23 rfl Try.sizeOf9 rfl ?_
  refine HO_load1 (i := 0) (j := 3) rfl rfl rfl Try.isAgg9 rfl (.loc _ _ _) rfl rfl ?_
  refine HO_bi rfl rfl rfl (bi_len_str Try.underlying9) ?_
  refine HO_fieldAddr (r := 6) rfl rfl rfl Try.underlying23 rfl Try.sizeOf9 rfl ?_
  refine HO_load1 (i := 0) (j := 6) rfl rfl rfl Try.isAgg9 rfl (.loc _ _ _) rfl rfl ?_
  refine HO_bi rfl rfl rfl (bi_len_str Try.underlying9) ?_
  refine HO_bi rfl rfl rfl bi_max2 ?_
  refine HO_bin rfl rfl rfl rfl bin_leq ?_
  refine HO_move rfl rfl rfl ?_
  refine HO_split (d := 10) rfl ?_ ?_
  · intro h10
    (try simp only [decide_eq_true_eq, decide_eq_false_iff_not, Bool.not_eq_true', Bool.not_eq_false', Bool.not_eq_true, Bool.not_eq_false, Bool.true_eq_false, Bool.false_eq_true, not_false_eq_true, not_true_eq_false] at h10)
    refine HO_fieldAddr (r := 7) rfl rfl rfl Try.underlying23 rfl Try.sizeOf3 rfl ?_
    refine HO_load1 (i := 0) (j := 7) rfl rfl rfl Try.isAgg3 rfl (.loc _ _ _) rfl rfl ?_
    refine HO_bin rfl rfl rfl rfl bin_geq ?_
    refine HO_pick_t rfl rfl rfl rfl ?_
    refine HO_move rfl rfl rfl ?_
    refine HO_split (d := 15) rfl ?_ ?_
    · intro h15
      (try simp only [decide_eq_true_eq, decide_eq_false_iff_not, Bool.not_eq_true', Bool.not_eq_false', Bool.not_eq_true, Bool.not_eq_false, Bool.true_eq_false, Bool.false_eq_true, not_false_eq_true, not_true_eq_false] at h15)
      refine HO_fieldAddr (r := 7) rfl rfl rfl Try.underlying23 rfl Try.sizeOf3 rfl ?_
      refine HO_load1 (i := 0) (j := 7) rfl rfl rfl Try.isAgg3 rfl (.loc _ _ _) rfl rfl ?_
      refine HO_bin rfl rfl rfl rfl bin_leq ?_
      refine HO_pick_t rfl rfl rfl rfl ?_
      refine HO_assign rfl rfl rfl ?_
      refine HO_nil ?_
      refine H_env (ρ' := [(1, _)]) ⟨rfl, trivial⟩ ?_
      -- end1
      refine H_ret1 Try.results121 (.tmp rfl) (fun w hA => ⟨(), congrArg Ending.returned ?_, ?_, ?_⟩)
      · (exact congrArg Value.bool (by first | exact Cmd.scan_a (k := ⟨ki, se, sq, ke, ol, va, ti, li⟩) h10 | exact Cmd.scan_b (k := ⟨ki, se, sq, ke, ol, va, ti, li⟩) h10 h15 | exact Cmd.scan_c (k := ⟨ki, se, sq, ke, ol, va, ti, li⟩) h10 h15))
      · trivial
      · exact hA.only (is := [0]) (Z := []) rfl
    · intro h15
      (try simp only [decide_eq_true_eq, decide_eq_false_iff_not, Bool.not_eq_true', Bool.not_eq_false', Bool.not_eq_true, Bool.not_eq_false, Bool.true_eq_false, Bool.false_eq_true, not_false_eq_true, not_true_eq_false] at h15)
      refine HO_no rfl rfl rfl ?_
      refine HO_no rfl rfl rfl ?_
      refine HO_no rfl rfl rfl ?_
      refine HO_pick_f rfl rfl rfl rfl ?_
      refine HO_assign rfl rfl rfl ?_
      refine HO_nil ?_
      refine H_env (ρ' := [(1, _)]) ⟨rfl, trivial⟩ ?_
      -- end2
      refine H_ret1 Try.results121 (.tmp rfl) (fun w hA => ⟨(), congrArg Ending.returned ?_, ?_, ?_⟩)
      · (exact congrArg Value.bool (by first | exact Cmd.scan_a (k := ⟨ki, se, sq, ke, ol, va, ti, li⟩) h10 | exact Cmd.scan_b (k := ⟨ki, se, sq, ke, ol, va, ti, li⟩) h10 h15 | exact Cmd.scan_c (k := ⟨ki, se, sq, ke, ol, va, ti, li⟩) h10 h15))
      · trivial
      · exact hA.only (is := [0]) (Z := []) rfl
  · intro h10
    (try simp only [decide_eq_true_eq, decide_eq_false_iff_not, Bool.not_eq_true', Bool.not_eq_false', Bool.not_eq_true, Bool.not_eq_false, Bool.true_eq_false, Bool.false_eq_true, not_false_eq_true, not_true_eq_false] at h10)
    refine HO_no rfl rfl rfl ?_
    refine HO_no rfl rfl rfl ?_
    refine HO_no rfl rfl rfl ?_
    refine HO_pick_f rfl rfl rfl rfl ?_
    refine HO_move rfl rfl rfl ?_
    refine HO_no rfl rfl rfl ?_
    refine HO_no rfl rfl rfl ?_
    refine HO_no rfl rfl rfl ?_
    refine HO_pick_f rfl rfl rfl rfl ?_
    refine HO_assign rfl rfl rfl ?_
    refine HO_nil ?_
    refine H_env (ρ' := [(1, _)]) ⟨rfl, trivial⟩ ?_
    -- end3
    refine H_ret1 Try.results121 (.tmp rfl) (fun w hA => ⟨(), congrArg Ending.returned ?_, ?_, ?_⟩)
    · (exact congrArg Value.bool (by first | exact Cmd.scan_a (k := ⟨ki, se, sq, ke, ol, va, ti, li⟩) h10 | exact Cmd.scan_b (k := ⟨ki, se, sq, ke, ol, va, ti, li⟩) h10 h15 | exact Cmd.scan_c (k := ⟨ki, se, sq, ke, ol, va, ti, li⟩) h10 h15))
    · trivial
    · exact hA.only (is := [0]) (Z := []) rfl
theorem fits5_spec  : Spec Try.prog 122 #[] [] (β := Unit) (fun y => .bool (false)) (fun y => True) (fun y => []) := by
  refine Spec.enter (vs := []) Try.func122 rfl Try.ntmps122 rfl (Nat.le_of_ble_eq_true rfl) (fun w0 ok0 => ?_)
  generalize hM0 : blks _ = M0
  have hMn : ∀ {R : List Atom} (b : Nat), M0 b → blks R b := fun b hb => absurd (hM0 ▸ hb) (blks_none (by simp [Atom.dat, Atom.elem]) b)
  refine H_seq ?_
  -- R0 command.go:34
  refine H_region (l := [_]) rfl ?_
  refine HO_assign rfl rfl rfl ?_
  refine HO_nil ?_
  refine H_env (ρ' := []) trivial ?_
  refine H_seq ?_
  -- R1 command.go:34
  refine H_region (l := [_]) rfl ?_
  refine HO_assign rfl rfl rfl ?_
  refine HO_nil ?_
  -- end1
  refine H_ret1 Try.results122 (.tmp rfl) (fun w hA => ⟨(), congrArg Ending.returned ?_, ?_, ?_⟩)
  · rfl
  · trivial
  · exact hA.only (is := []) (Z := []) rfl
theorem fits2_spec (g g2 : Nat) (ki se sq : Int) (ke ol va ti : ByteArray) (li : Int)  : Spec Try.prog 118 #[.pointer (some ⟨g2, 0, none⟩), .pointer (some ⟨g, 0, none⟩)] [.loc g2 [.func (.func 116) #[] #[.pointer (some ⟨g, 0, none⟩)]] 25, .loc g [.int .i64 (ki), .int .i64 (se), .int .i64 (sq), .string (ke), .string (ol), .string (va), .string (ti), .int .i64 (li)] 23] (β := Unit) (fun y => .bool ((Cmd.keyok ke && Cmd.valok va))) (fun y => True) (fun y => [.loc g2 [.func (.func 116) #[] #[.pointer (some ⟨g, 0, none⟩)]] 25, .loc g [.int .i64 (ki), .int .i64 (se), .int .i64 (sq), .string (ke), .string (ol), .string (va), .string (ti), .int .i64 (li)] 23]) := by
  refine Spec.enter (vs := [_, _]) Try.func118 rfl Try.ntmps118 rfl (Nat.le_of_ble_eq_true rfl) (fun w0 ok0 => ?_)
  generalize hM0 : blks _ = M0
  refine H_seq ?_
  -- R0 command.go:22
  refine H_region (l := [_]) rfl ?_
  refine HO_assign rfl rfl rfl ?_
  refine HO_nil ?_
  refine H_env (ρ' := [(0, _), (1, _)]) ⟨rfl, rfl, trivial⟩ ?_
  refine H_seq ?_
  -- R1 command.go:22
  refine H_region (l := [_, _, _, _, _, _, _, _]) rfl ?_
  refine HO_load1 (i := 0) (j := 0) rfl rfl rfl Try.isAgg25 rfl (.loc _ _ _) rfl rfl ?_
  refine HO_call (first := []) (capt := [_]) (is := [1]) (R := [_]) rfl rfl rfl rfl rfl Try.call116 rfl (fits1_spec _ _ _ _ _ _ _ _ _) ?_
  intro y4 hy4
  clear y4 hy4
  refine HO_move rfl rfl rfl ?_
  refine HO_split (d := 5) rfl ?_ ?_
  · intro h5
    (try simp only [decide_eq_true_eq, decide_eq_false_iff_not, Bool.not_eq_true', Bool.not_eq_false', Bool.not_eq_true, Bool.not_eq_false, Bool.true_eq_false, Bool.false_eq_true, not_false_eq_true, not_true_eq_false] at h5)
    refine HO_fieldAddr (r := 5) rfl rfl rfl Try.underlying23 rfl Try.sizeOf9 rfl ?_
    refine HO_load1 (i := 0) (j := 5) rfl rfl rfl Try.isAgg9 rfl (.loc _ _ _) rfl rfl ?_
    refine HO_call (first := []) (capt := []) (is := []) (R := [_, _]) rfl rfl rfl rfl rfl Try.call119 rfl (value_spec _) ?_
    intro y8 hy8
    clear y8 hy8
    refine HO_pick_t rfl rfl rfl rfl ?_
    refine HO_assign rfl rfl rfl ?_
    refine HO_nil ?_
    refine H_env (ρ' := [(2, _)]) ⟨rfl, trivial⟩ ?_
    -- end1
    refine H_ret1 Try.results118 (.tmp rfl) (fun w hA => ⟨(), congrArg Ending.returned ?_, ?_, ?_⟩)
    · (exact congrArg Value.bool (by simp [h5]))
    · trivial
    · exact hA.only (is := [0, 0]) (Z := []) rfl
  · intro h5
    (try simp only [decide_eq_true_eq, decide_eq_false_iff_not, Bool.not_eq_true', Bool.not_eq_false', Bool.not_eq_true, Bool.not_eq_false, Bool.true_eq_false, Bool.false_eq_true, not_false_eq_true, not_true_eq_false] at h5)
    refine HO_no rfl rfl rfl ?_
    refine HO_no rfl rfl rfl ?_
    refine HO_no rfl rfl rfl ?_
    refine HO_pick_f rfl rfl rfl rfl ?_
    refine HO_assign rfl rfl rfl ?_
    refine HO_nil ?_
    refine H_env (ρ' := [(2, _)]) ⟨rfl, trivial⟩ ?_
    -- end2
    refine H_ret1 Try.results118 (.tmp rfl) (fun w hA => ⟨(), congrArg Ending.returned ?_, ?_, ?_⟩)
    · (exact congrArg Value.bool (by simp [h5]))
    · trivial
    · exact hA.only (is := [0, 0]) (Z := []) rfl
theorem fits3_spec (g g2 : Nat) (ki se sq : Int) (ke ol va ti : ByteArray) (li : Int)  : Spec Try.prog 120 #[.pointer (some ⟨g2, 0, none⟩), .pointer (some ⟨g, 0, none⟩)] [.loc g2 [.func (.func 116) #[] #[.pointer (some ⟨g, 0, none⟩)]] 25, .loc g [.int .i64 (ki), .int .i64 (se), .int .i64 (sq), .string (ke), .string (ol), .string (va), .string (ti), .int .i64 (li)] 23] (β := Unit) (fun y => .bool ((Cmd.keyok ke && (Cmd.valok ol && Cmd.valok va)))) (fun y => True) (fun y => [.loc g2 [.func (.func 116) #[] #[.pointer (some ⟨g, 0, none⟩)]] 25, .loc g [.int .i64 (ki), .int .i64 (se), .int .i64 (sq), .string (ke), .string (ol), .string (va), .string (ti), .int .i64 (li)] 23]) := by
  refine Spec.enter (vs := [_, _]) Try.func120 rfl Try.ntmps120 rfl (Nat.le_of_ble_eq_true rfl) (fun w0 ok0 => ?_)
  generalize hM0 : blks _ = M0
  refine H_seq ?_
  -- R0 command.go:27
  refine H_region (l := [_]) rfl ?_
  refine HO_assign rfl rfl rfl ?_
  refine HO_nil ?_
  refine H_env (ρ' := [(0, _), (1, _)]) ⟨rfl, rfl, trivial⟩ ?_
  refine H_seq ?_
  -- R1 command.go:27
  refine H_region (l := [_, _, _, _, _, _, _, _, _, _, _, _, _]) rfl ?_
  refine HO_load1 (i := 0) (j := 0) rfl rfl rfl Try.isAgg25 rfl (.loc _ _ _) rfl rfl ?_
  refine HO_call (first := []) (capt := [_]) (is := [1]) (R := [_]) rfl rfl rfl rfl rfl Try.call116 rfl (fits1_spec _ _ _ _ _ _ _ _ _) ?_
  intro y4 hy4
  clear y4 hy4
  refine HO_move rfl rfl rfl ?_
  refine HO_split (d := 5) rfl ?_ ?_
  · intro h5
    (try simp only [decide_eq_true_eq, decide_eq_false_iff_not, Bool.not_eq_true', Bool.not_eq_false', Bool.not_eq_true, Bool.not_eq_false, Bool.true_eq_false, Bool.false_eq_true, not_false_eq_true, not_true_eq_false] at h5)
    refine HO_fieldAddr (r := 4) rfl rfl rfl Try.underlying23 rfl Try.sizeOf9 rfl ?_
    refine HO_load1 (i := 0) (j := 4) rfl rfl rfl Try.isAgg9 rfl (.loc _ _ _) rfl rfl ?_
    refine HO_call (first := []) (capt := []) (is := []) (R := [_, _]) rfl rfl rfl rfl rfl Try.call119 rfl (value_spec _) ?_
    intro y8 hy8
    clear y8 hy8
    refine HO_pick_t rfl rfl rfl rfl ?_
    refine HO_move rfl rfl rfl ?_
    refine HO_split (d := 10) rfl ?_ ?_
    · intro h10
      (try simp only [decide_eq_true_eq, decide_eq_false_iff_not, Bool.not_eq_true', Bool.not_eq_false', Bool.not_eq_true, Bool.not_eq_false, Bool.true_eq_false, Bool.false_eq_true, not_false_eq_true, not_true_eq_false] at h10)
      refine HO_fieldAddr (r := 5) rfl rfl rfl Try.underlying23 rfl Try.sizeOf9 rfl ?_
      refine HO_load1 (i := 0) (j := 5) rfl rfl rfl Try.isAgg9 rfl (.loc _ _ _) rfl rfl ?_
      refine HO_call (first := []) (capt := []) (is := []) (R := [_, _]) rfl rfl rfl rfl rfl Try.call119 rfl (value_spec _) ?_
      intro y13 hy13
      clear y13 hy13
      refine HO_pick_t rfl rfl rfl rfl ?_
      refine HO_assign rfl rfl rfl ?_
      refine HO_nil ?_
      refine H_env (ρ' := [(2, _)]) ⟨rfl, trivial⟩ ?_
      -- end1
      refine H_ret1 Try.results120 (.tmp rfl) (fun w hA => ⟨(), congrArg Ending.returned ?_, ?_, ?_⟩)
      · (exact congrArg Value.bool (by first | (simp [h5, h10]; done) | (simp [h5]; done)))
      · trivial
      · exact hA.only (is := [0, 0]) (Z := []) rfl
    · intro h10
      (try simp only [decide_eq_true_eq, decide_eq_false_iff_not, Bool.not_eq_true', Bool.not_eq_false', Bool.not_eq_true, Bool.not_eq_false, Bool.true_eq_false, Bool.false_eq_true, not_false_eq_true, not_true_eq_false] at h10)
      refine HO_no rfl rfl rfl ?_
      refine HO_no rfl rfl rfl ?_
      refine HO_no rfl rfl rfl ?_
      refine HO_pick_f rfl rfl rfl rfl ?_
      refine HO_assign rfl rfl rfl ?_
      refine HO_nil ?_
      refine H_env (ρ' := [(2, _)]) ⟨rfl, trivial⟩ ?_
      -- end2
      refine H_ret1 Try.results120 (.tmp rfl) (fun w hA => ⟨(), congrArg Ending.returned ?_, ?_, ?_⟩)
      · (exact congrArg Value.bool (by first | (simp [h5, h10]; done) | (simp [h5]; done)))
      · trivial
      · exact hA.only (is := [0, 0]) (Z := []) rfl
  · intro h5
    (try simp only [decide_eq_true_eq, decide_eq_false_iff_not, Bool.not_eq_true', Bool.not_eq_false', Bool.not_eq_true, Bool.not_eq_false, Bool.true_eq_false, Bool.false_eq_true, not_false_eq_true, not_true_eq_false] at h5)
    refine HO_no rfl rfl rfl ?_
    refine HO_no rfl rfl rfl ?_
    refine HO_no rfl rfl rfl ?_
    refine HO_pick_f rfl rfl rfl rfl ?_
    refine HO_move rfl rfl rfl ?_
    refine HO_no rfl rfl rfl ?_
    refine HO_no rfl rfl rfl ?_
    refine HO_no rfl rfl rfl ?_
    refine HO_pick_f rfl rfl rfl rfl ?_
    refine HO_assign rfl rfl rfl ?_
    refine HO_nil ?_
    refine H_env (ρ' := [(2, _)]) ⟨rfl, trivial⟩ ?_
    -- end3
    refine H_ret1 Try.results120 (.tmp rfl) (fun w hA => ⟨(), congrArg Ending.returned ?_, ?_, ?_⟩)
    · (exact congrArg Value.bool (by first | (simp [h5, h10]; done) | (simp [h5]; done)))
    · trivial
    · exact hA.only (is := [0, 0]) (Z := []) rfl
theorem fits_3 (se sq : Int) (ke ol va ti : ByteArray) (li : Int)  : Spec Try.prog 64 #[.agg #[.int .i64 (3), .int .i64 (se), .int .i64 (sq), .string (ke), .string (ol), .string (va), .string (ti), .int .i64 (li)]] [] (β := Nat × Nat) (fun y => .tuple #[.agg #[.int .i64 (3), .int .i64 (se), .int .i64 (sq), .string (ke), .string (⟨#[]⟩), .string (va), .string (⟨#[]⟩), .int .i64 (0)], .func (.func 118) #[] #[.pointer (some ⟨y.2, 0, none⟩), .pointer (some ⟨y.1, 0, none⟩)]]) (fun y => True) (fun y => [.loc y.2 [.func (.func 116) #[] #[.pointer (some ⟨y.1, 0, none⟩)]] 25, .loc y.1 [.int .i64 (3), .int .i64 (se), .int .i64 (sq), .string (ke), .string (ol), .string (va), .string (ti), .int .i64 (li)] 23]) := by
  refine Spec.enter (vs := [_]) Try.func64 rfl Try.ntmps64 rfl (Nat.le_of_ble_eq_true rfl) (fun w0 ok0 => ?_)
  generalize hM0 : blks _ = M0
  have hMn : ∀ {R : List Atom} (b : Nat), M0 b → blks R b := fun b hb => absurd (hM0 ▸ hb) (blks_none (by simp [Atom.dat, Atom.elem]) b)
  refine H_seq ?_
  -- R0 command.go:16
  refine H_region (l := [_, _, _]) rfl ?_
  refine HO_box (cs := [_, _, _, _, _, _, _, _]) rfl rfl rfl rfl ?_
  intro g1
  refine HO_alloc (cs := [_, _, _, _, _, _, _, _]) rfl rfl Try.zeroValue23 rfl ?_
  intro g2
  refine HO_assign rfl rfl rfl ?_
  refine HO_nil ?_
  refine H_env (ρ' := [(2, _), (1, _)]) ⟨rfl, rfl, trivial⟩ ?_
  refine H_seq ?_
  -- R1 command.go:17
  refine H_region (l := [_, _, _, _, _, _, _, _, _, _, _]) rfl ?_
  refine HO_fieldAddr (r := 0) rfl rfl rfl Try.underlying23 rfl Try.sizeOf3 rfl ?_
  refine HO_load1 (i := 1) (j := 0) rfl rfl rfl Try.isAgg3 rfl (.loc _ _ _) rfl rfl ?_
  refine HO_fieldAddr (r := 1) rfl rfl rfl Try.underlying23 rfl Try.sizeOf3 rfl ?_
  refine HO_load1 (i := 1) (j := 1) rfl rfl rfl Try.isAgg3 rfl (.loc _ _ _) rfl rfl ?_
  refine HO_fieldAddr (r := 2) rfl rfl rfl Try.underlying23 rfl Try.sizeOf3 rfl ?_
  refine HO_load1 (i := 1) (j := 2) rfl rfl rfl Try.isAgg3 rfl (.loc _ _ _) rfl rfl ?_
  refine HO_fieldAddr (r := 3) rfl rfl rfl Try.underlying23 rfl Try.sizeOf9 rfl ?_
  refine HO_load1 (i := 1) (j := 3) rfl rfl rfl Try.isAgg9 rfl (.loc _ _ _) rfl rfl ?_
  refine HO_build (xo := [(0, _), (1, _), (2, _), (3, _)]) (vs := [_, _, _, _]) rfl rfl rfl rfl (bd23_0_1_2_3_iiit) ?_
  refine HO_alloc (cs := [_, _, _, _, _, _, _, _]) rfl rfl Try.zeroValue23 rfl ?_
  intro g4
  refine HO_store (i := 0) (j := 0) (us := []) (old := [_, _, _, _, _, _, _, _]) (ts := []) (cs := [_, _, _, _, _, _, _, _]) (R := [_, _]) (new := [_, _, _, _, _, _, _, _]) rfl rfl rfl Try.sizeOf23 rfl (by simp [Value.oneCell']) rfl rfl rfl rfl rfl rfl ?_
  refine HO_nil ?_
  refine H_env (ρ' := [(4, _), (2, _), (1, _)]) ⟨rfl, rfl, rfl, trivial⟩ ?_
  refine H_seq ?_
  -- R2 command.go:18
  refine H_region (l := [_, _, _]) rfl ?_
  refine HO_makeFunc (vs := []) (us := [_]) rfl rfl rfl rfl ?_
  refine HO_alloc (cs := [_]) rfl rfl Try.zeroValue25 rfl ?_
  intro g5
  refine HO_store (i := 0) (j := 0) (us := []) (old := [_]) (ts := []) (cs := [_]) (R := [_, _, _]) (new := [_]) rfl rfl rfl Try.sizeOf25 rfl (by simp [Value.oneCell']) rfl rfl rfl rfl rfl rfl ?_
  refine HO_nil ?_
  refine H_env (ρ' := [(5, _), (4, _), (2, _), (1, _)]) ⟨rfl, rfl, rfl, rfl, trivial⟩ ?_
  refine H_seq ?_
  refine H_seq ?_
  -- R3 command.go:19
  refine H_region (l := [_, _]) rfl ?_
  refine HO_fieldAddr (r := 0) rfl rfl rfl Try.underlying23 rfl Try.sizeOf3 rfl ?_
  refine HO_load1 (i := 3) (j := 0) rfl rfl rfl Try.isAgg3 rfl (.loc _ _ _) rfl rfl ?_
  refine HO_nil ?_
  refine H_env (ρ' := [(17, _), (5, _), (4, _), (2, _), (1, _)]) ⟨rfl, rfl, rfl, rfl, rfl, trivial⟩ ?_
  refine H_block ?_
  refine H_seq ?_
  -- R4 command.go:20
  refine H_region (l := [_, _]) rfl ?_
  refine HO_bin rfl rfl rfl rfl (bin_lit (by decide) (fun _ => rfl)) ?_
  refine HO_assign rfl rfl rfl ?_
  refine HO_nil ?_
  refine H_env (ρ' := [(18, _), (17, _), (5, _), (4, _), (2, _), (1, _)]) ⟨rfl, rfl, rfl, rfl, rfl, rfl, trivial⟩ ?_
  refine H_cond rfl (fun _ => ?_) (fun h => nomatch h)
  refine H_seq ?_
  -- R5 command.go:21
  refine H_region (l := [_, _, _, _]) rfl ?_
  refine HO_fieldAddr (r := 5) rfl rfl rfl Try.underlying23 rfl Try.sizeOf9 rfl ?_
  refine HO_load1 (i := 3) (j := 5) rfl rfl rfl Try.isAgg9 rfl (.loc _ _ _) rfl rfl ?_
  refine HO_fieldAddr (r := 5) rfl rfl rfl Try.underlying23 rfl Try.sizeOf9 rfl ?_
  refine HO_store (i := 1) (j := 0) (us := [_, _, _, _, _]) (old := [_]) (ts := [_, _]) (cs := [_]) (R := [_, _, _]) (new := [_, _, _, _, _, _, _, _]) rfl rfl rfl Try.sizeOf9 rfl (by simp [Value.oneCell']) rfl rfl rfl rfl rfl rfl ?_
  refine HO_nil ?_
  refine H_env (ρ' := [(5, _), (4, _), (2, _), (1, _)]) ⟨rfl, rfl, rfl, rfl, trivial⟩ ?_
  refine H_seq ?_
  -- R6 command.go:22
  refine H_region (l := [_, _, _, _]) rfl ?_
  refine HO_loadA (i := 0) (us := []) (cs := [_, _, _, _, _, _, _, _]) (ts := []) rfl rfl rfl Try.isAgg23 Try.sizeOf23 rfl (.loc _ _ _) rfl rfl rfl rfl ?_
  refine HO_makeFunc (vs := []) (us := [_, _]) rfl rfl rfl rfl ?_
  refine HO_store (i := 2) (j := 0) (us := []) (old := [_, _, _, _, _, _, _, _]) (ts := []) (cs := [_, _, _, _, _, _, _, _]) (R := [_, _, _]) (new := [_, _, _, _, _, _, _, _]) rfl rfl rfl Try.sizeOf23 rfl (by simp [Value.oneCell']) rfl rfl rfl rfl rfl rfl ?_
  refine HO_assign rfl rfl rfl ?_
  refine HO_nil ?_
  refine H_env (ρ' := [(3, _), (2, _)]) ⟨rfl, rfl, trivial⟩ ?_
  refine H_world (fun _ hA => hA.drop (is := [1]) (Y := [_]) (Z := [_, _, _]) rfl) ?_
  -- end1
  refine H_ret2 Try.results64 (.cell rfl (fun w hA => run_loadVarA (cs := [_, _, _, _, _, _, _, _]) (Try.isAgg23 w) (Try.sizeOf23 w) (Tells.cells (.loc _ _ _) (hA.get (i := 0) rfl)))) (.tmp rfl) (fun w hA => ⟨(g1, g5), congrArg Ending.returned ?_, ?_, ?_⟩)
  · rfl
  · trivial
  · exact hA.only (is := [1, 2]) (Z := [_]) rfl
theorem fits_4 (se sq : Int) (ke ol va ti : ByteArray) (li : Int)  : Spec Try.prog 64 #[.agg #[.int .i64 (4), .int .i64 (se), .int .i64 (sq), .string (ke), .string (ol), .string (va), .string (ti), .int .i64 (li)]] [] (β := Nat × Nat) (fun y => .tuple #[.agg #[.int .i64 (4), .int .i64 (se), .int .i64 (sq), .string (ke), .string (⟨#[]⟩), .string (⟨#[]⟩), .string (⟨#[]⟩), .int .i64 (0)], .func (.func 116) #[] #[.pointer (some ⟨y.1, 0, none⟩)]]) (fun y => True) (fun y => [.loc y.1 [.int .i64 (4), .int .i64 (se), .int .i64 (sq), .string (ke), .string (ol), .string (va), .string (ti), .int .i64 (li)] 23]) := by
  refine Spec.enter (vs := [_]) Try.func64 rfl Try.ntmps64 rfl (Nat.le_of_ble_eq_true rfl) (fun w0 ok0 => ?_)
  generalize hM0 : blks _ = M0
  have hMn : ∀ {R : List Atom} (b : Nat), M0 b → blks R b := fun b hb => absurd (hM0 ▸ hb) (blks_none (by simp [Atom.dat, Atom.elem]) b)
  refine H_seq ?_
  -- R0 command.go:16
  refine H_region (l := [_, _, _]) rfl ?_
  refine HO_box (cs := [_, _, _, _, _, _, _, _]) rfl rfl rfl rfl ?_
  intro g1
  refine HO_alloc (cs := [_, _, _, _, _, _, _, _]) rfl rfl Try.zeroValue23 rfl ?_
  intro g2
  refine HO_assign rfl rfl rfl ?_
  refine HO_nil ?_
  refine H_env (ρ' := [(2, _), (1, _)]) ⟨rfl, rfl, trivial⟩ ?_
  refine H_seq ?_
  -- R1 command.go:17
  refine H_region (l := [_, _, _, _, _, _, _, _, _, _, _]) rfl ?_
  refine HO_fieldAddr (r := 0) rfl rfl rfl Try.underlying23 rfl Try.sizeOf3 rfl ?_
  refine HO_load1 (i := 1) (j := 0) rfl rfl rfl Try.isAgg3 rfl (.loc _ _ _) rfl rfl ?_
  refine HO_fieldAddr (r := 1) rfl rfl rfl Try.underlying23 rfl Try.sizeOf3 rfl ?_
  refine HO_load1 (i := 1) (j := 1) rfl rfl rfl Try.isAgg3 rfl (.loc _ _ _) rfl rfl ?_
  refine HO_fieldAddr (r := 2) rfl rfl rfl Try.underlying23 rfl Try.sizeOf3 rfl ?_
  refine HO_load1 (i := 1) (j := 2) rfl rfl rfl Try.isAgg3 rfl (.loc _ _ _) rfl rfl ?_
  refine HO_fieldAddr (r := 3) rfl rfl rfl Try.underlying23 rfl Try.sizeOf9 rfl ?_
  refine HO_load1 (i := 1) (j := 3) rfl rfl rfl Try.isAgg9 rfl (.loc _ _ _) rfl rfl ?_
  refine HO_build (xo := [(0, _), (1, _), (2, _), (3, _)]) (vs := [_, _, _, _]) rfl rfl rfl rfl (bd23_0_1_2_3_iiit) ?_
  refine HO_alloc (cs := [_, _, _, _, _, _, _, _]) rfl rfl Try.zeroValue23 rfl ?_
  intro g4
  refine HO_store (i := 0) (j := 0) (us := []) (old := [_, _, _, _, _, _, _, _]) (ts := []) (cs := [_, _, _, _, _, _, _, _]) (R := [_, _]) (new := [_, _, _, _, _, _, _, _]) rfl rfl rfl Try.sizeOf23 rfl (by simp [Value.oneCell']) rfl rfl rfl rfl rfl rfl ?_
  refine HO_nil ?_
  refine H_env (ρ' := [(4, _), (2, _), (1, _)]) ⟨rfl, rfl, rfl, trivial⟩ ?_
  refine H_seq ?_
  -- R2 command.go:18
  refine H_region (l := [_, _, _]) rfl ?_
  refine HO_makeFunc (vs := []) (us := [_]) rfl rfl rfl rfl ?_
  refine HO_alloc (cs := [_]) rfl rfl Try.zeroValue25 rfl ?_
  intro g5
  refine HO_store (i := 0) (j := 0) (us := []) (old := [_]) (ts := []) (cs := [_]) (R := [_, _, _]) (new := [_]) rfl rfl rfl Try.sizeOf25 rfl (by simp [Value.oneCell']) rfl rfl rfl rfl rfl rfl ?_
  refine HO_nil ?_
  refine H_env (ρ' := [(5, _), (4, _), (2, _), (1, _)]) ⟨rfl, rfl, rfl, rfl, trivial⟩ ?_
  refine H_seq ?_
  refine H_seq ?_
  -- R3 command.go:19
  refine H_region (l := [_, _]) rfl ?_
  refine HO_fieldAddr (r := 0) rfl rfl rfl Try.underlying23 rfl Try.sizeOf3 rfl ?_
  refine HO_load1 (i := 3) (j := 0) rfl rfl rfl Try.isAgg3 rfl (.loc _ _ _) rfl rfl ?_
  refine HO_nil ?_
  refine H_env (ρ' := [(17, _), (5, _), (4, _), (2, _), (1, _)]) ⟨rfl, rfl, rfl, rfl, rfl, trivial⟩ ?_
  refine H_block ?_
  refine H_seq ?_
  -- R4 command.go:20
  refine H_region (l := [_, _]) rfl ?_
  refine HO_bin rfl rfl rfl rfl (bin_lit (by decide) (fun _ => rfl)) ?_
  refine HO_assign rfl rfl rfl ?_
  refine HO_nil ?_
  refine H_env (ρ' := [(18, _), (17, _), (5, _), (4, _), (2, _), (1, _)]) ⟨rfl, rfl, rfl, rfl, rfl, rfl, trivial⟩ ?_
  refine H_cond rfl (fun h => nomatch h) (fun _ => ?_)
  refine H_seq ?_
  refine H_seq ?_
  -- R7 command.go:23
  refine H_region (l := [_, _]) rfl ?_
  refine HO_bin rfl rfl rfl rfl (bin_lit (by decide) (fun _ => rfl)) ?_
  refine HO_assign rfl rfl rfl ?_
  refine HO_nil ?_
  refine H_env (ρ' := [(25, _), (17, _), (5, _), (4, _), (2, _), (1, _)]) ⟨rfl, rfl, rfl, rfl, rfl, rfl, trivial⟩ ?_
  refine H_cond rfl (fun _ => ?_) (fun h => nomatch h)
  refine H_skip ?_
  refine H_cond rfl (fun _ => ?_) (fun h => nomatch h)
  refine H_seq ?_
  -- R9 command.go:24 draws
  refine H_draw (is := [0, 1, 3]) (Xs := [_, _, _]) (Z := [_]) (fuel := 4) (l := #[false, false, false, false]) mixed rfl rfl rfl ?_
  refine HA_take (i := 0) (listed' := #[true, false, false, false]) (bodyPost_pan _ _ _) rfl rfl rfl rfl (by kernel_rfl) rfl (V_loadA (i := 1) (us := []) (cs := [_, _, _, _, _, _, _, _]) (ts := []) rfl Try.isAgg23 Try.sizeOf23 rfl (.loc _ _ _) rfl rfl rfl rfl) (fun _ hA => hA.only (is := [0, 1, 3]) (Y := [_, _, _]) (Z := [_]) rfl) ?_
  refine HA_take (i := 1) (listed' := #[true, true, false, false]) (bodyPost_pan _ _ _) rfl rfl rfl rfl (by kernel_rfl) rfl (V_load1 (i := 0) (j := 0) rfl Try.isAgg25 rfl (.loc _ _ _) rfl rfl) (fun _ hA => hA.only (is := [0, 1, 3]) (Y := [_, _, _]) (Z := [_]) rfl) ?_
  refine HA_loud1 (i := 2) (by kernel_rfl) rfl ?_
  refine HO_store (i := 2) (j := 0) (us := []) (old := [_, _, _, _, _, _, _, _]) (ts := []) (cs := [_, _, _, _, _, _, _, _]) (R := [_, _, _]) (new := [_, _, _, _, _, _, _, _]) rfl rfl rfl Try.sizeOf23 rfl (by simp [Value.oneCell']) rfl rfl rfl rfl rfl rfl ?_
  refine HA_back (listed' := #[true, true, true, false]) rfl (fun _ hA => hA.only (is := [1, 2, 3]) (Y := [_, _, _]) (Z := [_]) rfl) ?_
  refine HA_take (i := 3) (listed' := #[true, true, true, true]) (bodyPost_pan _ _ _) rfl rfl rfl rfl (by kernel_rfl) rfl (V_assign rfl) (fun _ hA => hA.only (is := [1, 2, 3]) (Y := [_, _, _]) (Z := [_]) rfl) ?_
  refine HA_done (by kernel_rfl) ?_
  refine H_env (ρ' := [(3, _), (2, _)]) ⟨rfl, rfl, trivial⟩ ?_
  refine H_world (fun _ hA => hA.drop (is := [1, 2]) (Y := [_, _]) (Z := [_, _]) rfl) ?_
  -- end1
  refine H_ret2 Try.results64 (.cell rfl (fun w hA => run_loadVarA (cs := [_, _, _, _, _, _, _, _]) (Try.isAgg23 w) (Try.sizeOf23 w) (Tells.cells (.loc _ _ _) (hA.get (i := 0) rfl)))) (.tmp rfl) (fun w hA => ⟨(g1, g5), congrArg Ending.returned ?_, ?_, ?_⟩)
  · rfl
  · trivial
  · exact hA.only (is := [1]) (Z := [_]) rfl
theorem fits_5 (se sq : Int) (ke ol va ti : ByteArray) (li : Int)  : Spec Try.prog 64 #[.agg #[.int .i64 (5), .int .i64 (se), .int .i64 (sq), .string (ke), .string (ol), .string (va), .string (ti), .int .i64 (li)]] [] (β := Nat × Nat) (fun y => .tuple #[.agg #[.int .i64 (5), .int .i64 (se), .int .i64 (sq), .string (ke), .string (⟨#[]⟩), .string (⟨#[]⟩), .string (⟨#[]⟩), .int .i64 (0)], .func (.func 116) #[] #[.pointer (some ⟨y.1, 0, none⟩)]]) (fun y => True) (fun y => [.loc y.1 [.int .i64 (5), .int .i64 (se), .int .i64 (sq), .string (ke), .string (ol), .string (va), .string (ti), .int .i64 (li)] 23]) := by
  refine Spec.enter (vs := [_]) Try.func64 rfl Try.ntmps64 rfl (Nat.le_of_ble_eq_true rfl) (fun w0 ok0 => ?_)
  generalize hM0 : blks _ = M0
  have hMn : ∀ {R : List Atom} (b : Nat), M0 b → blks R b := fun b hb => absurd (hM0 ▸ hb) (blks_none (by simp [Atom.dat, Atom.elem]) b)
  refine H_seq ?_
  -- R0 command.go:16
  refine H_region (l := [_, _, _]) rfl ?_
  refine HO_box (cs := [_, _, _, _, _, _, _, _]) rfl rfl rfl rfl ?_
  intro g1
  refine HO_alloc (cs := [_, _, _, _, _, _, _, _]) rfl rfl Try.zeroValue23 rfl ?_
  intro g2
  refine HO_assign rfl rfl rfl ?_
  refine HO_nil ?_
  refine H_env (ρ' := [(2, _), (1, _)]) ⟨rfl, rfl, trivial⟩ ?_
  refine H_seq ?_
  -- R1 command.go:17
  refine H_region (l := [_, _, _, _, _, _, _, _, _, _, _]) rfl ?_
  refine HO_fieldAddr (r := 0) rfl rfl rfl Try.underlying23 rfl Try.sizeOf3 rfl ?_
  refine HO_load1 (i := 1) (j := 0) rfl rfl rfl Try.isAgg3 rfl (.loc _ _ _) rfl rfl ?_
  refine HO_fieldAddr (r := 1) rfl rfl rfl Try.underlying23 rfl Try.sizeOf3 rfl ?_
  refine HO_load1 (i := 1) (j := 1) rfl rfl rfl Try.isAgg3 rfl (.loc _ _ _) rfl rfl ?_
  refine HO_fieldAddr (r := 2) rfl rfl rfl Try.underlying23 rfl Try.sizeOf3 rfl ?_
  refine HO_load1 (i := 1) (j := 2) rfl rfl rfl Try.isAgg3 rfl (.loc _ _ _) rfl rfl ?_
  refine HO_fieldAddr (r := 3) rfl rfl rfl Try.underlying23 rfl Try.sizeOf9 rfl ?_
  refine HO_load1 (i := 1) (j := 3) rfl rfl rfl Try.isAgg9 rfl (.loc _ _ _) rfl rfl ?_
  refine HO_build (xo := [(0, _), (1, _), (2, _), (3, _)]) (vs := [_, _, _, _]) rfl rfl rfl rfl (bd23_0_1_2_3_iiit) ?_
  refine HO_alloc (cs := [_, _, _, _, _, _, _, _]) rfl rfl Try.zeroValue23 rfl ?_
  intro g4
  refine HO_store (i := 0) (j := 0) (us := []) (old := [_, _, _, _, _, _, _, _]) (ts := []) (cs := [_, _, _, _, _, _, _, _]) (R := [_, _]) (new := [_, _, _, _, _, _, _, _]) rfl rfl rfl Try.sizeOf23 rfl (by simp [Value.oneCell']) rfl rfl rfl rfl rfl rfl ?_
  refine HO_nil ?_
  refine H_env (ρ' := [(4, _), (2, _), (1, _)]) ⟨rfl, rfl, rfl, trivial⟩ ?_
  refine H_seq ?_
  -- R2 command.go:18
  refine H_region (l := [_, _, _]) rfl ?_
  refine HO_makeFunc (vs := []) (us := [_]) rfl rfl rfl rfl ?_
  refine HO_alloc (cs := [_]) rfl rfl Try.zeroValue25 rfl ?_
  intro g5
  refine HO_store (i := 0) (j := 0) (us := []) (old := [_]) (ts := []) (cs := [_]) (R := [_, _, _]) (new := [_]) rfl rfl rfl Try.sizeOf25 rfl (by simp [Value.oneCell']) rfl rfl rfl rfl rfl rfl ?_
  refine HO_nil ?_
  refine H_env (ρ' := [(5, _), (4, _), (2, _), (1, _)]) ⟨rfl, rfl, rfl, rfl, trivial⟩ ?_
  refine H_seq ?_
  refine H_seq ?_
  -- R3 command.go:19
  refine H_region (l := [_, _]) rfl ?_
  refine HO_fieldAddr (r := 0) rfl rfl rfl Try.underlying23 rfl Try.sizeOf3 rfl ?_
  refine HO_load1 (i := 3) (j := 0) rfl rfl rfl Try.isAgg3 rfl (.loc _ _ _) rfl rfl ?_
  refine HO_nil ?_
  refine H_env (ρ' := [(17, _), (5, _), (4, _), (2, _), (1, _)]) ⟨rfl, rfl, rfl, rfl, rfl, trivial⟩ ?_
  refine H_block ?_
  refine H_seq ?_
  -- R4 command.go:20
  refine H_region (l := [_, _]) rfl ?_
  refine HO_bin rfl rfl rfl rfl (bin_lit (by decide) (fun _ => rfl)) ?_
  refine HO_assign rfl rfl rfl ?_
  refine HO_nil ?_
  refine H_env (ρ' := [(18, _), (17, _), (5, _), (4, _), (2, _), (1, _)]) ⟨rfl, rfl, rfl, rfl, rfl, rfl, trivial⟩ ?_
  refine H_cond rfl (fun h => nomatch h) (fun _ => ?_)
  refine H_seq ?_
  refine H_seq ?_
  -- R7 command.go:23
  refine H_region (l := [_, _]) rfl ?_
  refine HO_bin rfl rfl rfl rfl (bin_lit (by decide) (fun _ => rfl)) ?_
  refine HO_assign rfl rfl rfl ?_
  refine HO_nil ?_
  refine H_env (ρ' := [(25, _), (17, _), (5, _), (4, _), (2, _), (1, _)]) ⟨rfl, rfl, rfl, rfl, rfl, rfl, trivial⟩ ?_
  refine H_cond rfl (fun h => nomatch h) (fun _ => ?_)
  -- R8 command.go:23
  refine H_region (l := [_, _]) rfl ?_
  refine HO_bin rfl rfl rfl rfl (bin_lit (by decide) (fun _ => rfl)) ?_
  refine HO_assign rfl rfl rfl ?_
  refine HO_nil ?_
  refine H_env (ρ' := [(25, _), (17, _), (5, _), (4, _), (2, _), (1, _)]) ⟨rfl, rfl, rfl, rfl, rfl, rfl, trivial⟩ ?_
  refine H_cond rfl (fun _ => ?_) (fun h => nomatch h)
  refine H_seq ?_
  -- R9 command.go:24 draws
  refine H_draw (is := [0, 1, 3]) (Xs := [_, _, _]) (Z := [_]) (fuel := 4) (l := #[false, false, false, false]) mixed rfl rfl rfl ?_
  refine HA_take (i := 0) (listed' := #[true, false, false, false]) (bodyPost_pan _ _ _) rfl rfl rfl rfl (by kernel_rfl) rfl (V_loadA (i := 1) (us := []) (cs := [_, _, _, _, _, _, _, _]) (ts := []) rfl Try.isAgg23 Try.sizeOf23 rfl (.loc _ _ _) rfl rfl rfl rfl) (fun _ hA => hA.only (is := [0, 1, 3]) (Y := [_, _, _]) (Z := [_]) rfl) ?_
  refine HA_take (i := 1) (listed' := #[true, true, false, false]) (bodyPost_pan _ _ _) rfl rfl rfl rfl (by kernel_rfl) rfl (V_load1 (i := 0) (j := 0) rfl Try.isAgg25 rfl (.loc _ _ _) rfl rfl) (fun _ hA => hA.only (is := [0, 1, 3]) (Y := [_, _, _]) (Z := [_]) rfl) ?_
  refine HA_loud1 (i := 2) (by kernel_rfl) rfl ?_
  refine HO_store (i := 2) (j := 0) (us := []) (old := [_, _, _, _, _, _, _, _]) (ts := []) (cs := [_, _, _, _, _, _, _, _]) (R := [_, _, _]) (new := [_, _, _, _, _, _, _, _]) rfl rfl rfl Try.sizeOf23 rfl (by simp [Value.oneCell']) rfl rfl rfl rfl rfl rfl ?_
  refine HA_back (listed' := #[true, true, true, false]) rfl (fun _ hA => hA.only (is := [1, 2, 3]) (Y := [_, _, _]) (Z := [_]) rfl) ?_
  refine HA_take (i := 3) (listed' := #[true, true, true, true]) (bodyPost_pan _ _ _) rfl rfl rfl rfl (by kernel_rfl) rfl (V_assign rfl) (fun _ hA => hA.only (is := [1, 2, 3]) (Y := [_, _, _]) (Z := [_]) rfl) ?_
  refine HA_done (by kernel_rfl) ?_
  refine H_env (ρ' := [(3, _), (2, _)]) ⟨rfl, rfl, trivial⟩ ?_
  refine H_world (fun _ hA => hA.drop (is := [1, 2]) (Y := [_, _]) (Z := [_, _]) rfl) ?_
  -- end1
  refine H_ret2 Try.results64 (.cell rfl (fun w hA => run_loadVarA (cs := [_, _, _, _, _, _, _, _]) (Try.isAgg23 w) (Try.sizeOf23 w) (Tells.cells (.loc _ _ _) (hA.get (i := 0) rfl)))) (.tmp rfl) (fun w hA => ⟨(g1, g5), congrArg Ending.returned ?_, ?_, ?_⟩)
  · rfl
  · trivial
  · exact hA.only (is := [1]) (Z := [_]) rfl
theorem fits_6 (se sq : Int) (ke ol va ti : ByteArray) (li : Int)  : Spec Try.prog 64 #[.agg #[.int .i64 (6), .int .i64 (se), .int .i64 (sq), .string (ke), .string (ol), .string (va), .string (ti), .int .i64 (li)]] [] (β := Nat × Nat) (fun y => .tuple #[.agg #[.int .i64 (6), .int .i64 (se), .int .i64 (sq), .string (ke), .string (ol), .string (va), .string (⟨#[]⟩), .int .i64 (0)], .func (.func 120) #[] #[.pointer (some ⟨y.2, 0, none⟩), .pointer (some ⟨y.1, 0, none⟩)]]) (fun y => True) (fun y => [.loc y.2 [.func (.func 116) #[] #[.pointer (some ⟨y.1, 0, none⟩)]] 25, .loc y.1 [.int .i64 (6), .int .i64 (se), .int .i64 (sq), .string (ke), .string (ol), .string (va), .string (ti), .int .i64 (li)] 23]) := by
  refine Spec.enter (vs := [_]) Try.func64 rfl Try.ntmps64 rfl (Nat.le_of_ble_eq_true rfl) (fun w0 ok0 => ?_)
  generalize hM0 : blks _ = M0
  have hMn : ∀ {R : List Atom} (b : Nat), M0 b → blks R b := fun b hb => absurd (hM0 ▸ hb) (blks_none (by simp [Atom.dat, Atom.elem]) b)
  refine H_seq ?_
  -- R0 command.go:16
  refine H_region (l := [_, _, _]) rfl ?_
  refine HO_box (cs := [_, _, _, _, _, _, _, _]) rfl rfl rfl rfl ?_
  intro g1
  refine HO_alloc (cs := [_, _, _, _, _, _, _, _]) rfl rfl Try.zeroValue23 rfl ?_
  intro g2
  refine HO_assign rfl rfl rfl ?_
  refine HO_nil ?_
  refine H_env (ρ' := [(2, _), (1, _)]) ⟨rfl, rfl, trivial⟩ ?_
  refine H_seq ?_
  -- R1 command.go:17
  refine H_region (l := [_, _, _, _, _, _, _, _, _, _, _]) rfl ?_
  refine HO_fieldAddr (r := 0) rfl rfl rfl Try.underlying23 rfl Try.sizeOf3 rfl ?_
  refine HO_load1 (i := 1) (j := 0) rfl rfl rfl Try.isAgg3 rfl (.loc _ _ _) rfl rfl ?_
  refine HO_fieldAddr (r := 1) rfl rfl rfl Try.underlying23 rfl Try.sizeOf3 rfl ?_
  refine HO_load1 (i := 1) (j := 1) rfl rfl rfl Try.isAgg3 rfl (.loc _ _ _) rfl rfl ?_
  refine HO_fieldAddr (r := 2) rfl rfl rfl Try.underlying23 rfl Try.sizeOf3 rfl ?_
  refine HO_load1 (i := 1) (j := 2) rfl rfl rfl Try.isAgg3 rfl (.loc _ _ _) rfl rfl ?_
  refine HO_fieldAddr (r := 3) rfl rfl rfl Try.underlying23 rfl Try.sizeOf9 rfl ?_
  refine HO_load1 (i := 1) (j := 3) rfl rfl rfl Try.isAgg9 rfl (.loc _ _ _) rfl rfl ?_
  refine HO_build (xo := [(0, _), (1, _), (2, _), (3, _)]) (vs := [_, _, _, _]) rfl rfl rfl rfl (bd23_0_1_2_3_iiit) ?_
  refine HO_alloc (cs := [_, _, _, _, _, _, _, _]) rfl rfl Try.zeroValue23 rfl ?_
  intro g4
  refine HO_store (i := 0) (j := 0) (us := []) (old := [_, _, _, _, _, _, _, _]) (ts := []) (cs := [_, _, _, _, _, _, _, _]) (R := [_, _]) (new := [_, _, _, _, _, _, _, _]) rfl rfl rfl Try.sizeOf23 rfl (by simp [Value.oneCell']) rfl rfl rfl rfl rfl rfl ?_
  refine HO_nil ?_
  refine H_env (ρ' := [(4, _), (2, _), (1, _)]) ⟨rfl, rfl, rfl, trivial⟩ ?_
  refine H_seq ?_
  -- R2 command.go:18
  refine H_region (l := [_, _, _]) rfl ?_
  refine HO_makeFunc (vs := []) (us := [_]) rfl rfl rfl rfl ?_
  refine HO_alloc (cs := [_]) rfl rfl Try.zeroValue25 rfl ?_
  intro g5
  refine HO_store (i := 0) (j := 0) (us := []) (old := [_]) (ts := []) (cs := [_]) (R := [_, _, _]) (new := [_]) rfl rfl rfl Try.sizeOf25 rfl (by simp [Value.oneCell']) rfl rfl rfl rfl rfl rfl ?_
  refine HO_nil ?_
  refine H_env (ρ' := [(5, _), (4, _), (2, _), (1, _)]) ⟨rfl, rfl, rfl, rfl, trivial⟩ ?_
  refine H_seq ?_
  refine H_seq ?_
  -- R3 command.go:19
  refine H_region (l := [_, _]) rfl ?_
  refine HO_fieldAddr (r := 0) rfl rfl rfl Try.underlying23 rfl Try.sizeOf3 rfl ?_
  refine HO_load1 (i := 3) (j := 0) rfl rfl rfl Try.isAgg3 rfl (.loc _ _ _) rfl rfl ?_
  refine HO_nil ?_
  refine H_env (ρ' := [(17, _), (5, _), (4, _), (2, _), (1, _)]) ⟨rfl, rfl, rfl, rfl, rfl, trivial⟩ ?_
  refine H_block ?_
  refine H_seq ?_
  -- R4 command.go:20
  refine H_region (l := [_, _]) rfl ?_
  refine HO_bin rfl rfl rfl rfl (bin_lit (by decide) (fun _ => rfl)) ?_
  refine HO_assign rfl rfl rfl ?_
  refine HO_nil ?_
  refine H_env (ρ' := [(18, _), (17, _), (5, _), (4, _), (2, _), (1, _)]) ⟨rfl, rfl, rfl, rfl, rfl, rfl, trivial⟩ ?_
  refine H_cond rfl (fun h => nomatch h) (fun _ => ?_)
  refine H_seq ?_
  refine H_seq ?_
  -- R7 command.go:23
  refine H_region (l := [_, _]) rfl ?_
  refine HO_bin rfl rfl rfl rfl (bin_lit (by decide) (fun _ => rfl)) ?_
  refine HO_assign rfl rfl rfl ?_
  refine HO_nil ?_
  refine H_env (ρ' := [(25, _), (17, _), (5, _), (4, _), (2, _), (1, _)]) ⟨rfl, rfl, rfl, rfl, rfl, rfl, trivial⟩ ?_
  refine H_cond rfl (fun h => nomatch h) (fun _ => ?_)
  -- R8 command.go:23
  refine H_region (l := [_, _]) rfl ?_
  refine HO_bin rfl rfl rfl rfl (bin_lit (by decide) (fun _ => rfl)) ?_
  refine HO_assign rfl rfl rfl ?_
  refine HO_nil ?_
  refine H_env (ρ' := [(25, _), (17, _), (5, _), (4, _), (2, _), (1, _)]) ⟨rfl, rfl, rfl, rfl, rfl, rfl, trivial⟩ ?_
  refine H_cond rfl (fun h => nomatch h) (fun _ => ?_)
  refine H_seq ?_
  -- R10 command.go:25
  refine H_region (l := [_, _]) rfl ?_
  refine HO_bin rfl rfl rfl rfl (bin_lit (by decide) (fun _ => rfl)) ?_
  refine HO_assign rfl rfl rfl ?_
  refine HO_nil ?_
  refine H_env (ρ' := [(30, _), (17, _), (5, _), (4, _), (2, _), (1, _)]) ⟨rfl, rfl, rfl, rfl, rfl, rfl, trivial⟩ ?_
  refine H_cond rfl (fun _ => ?_) (fun h => nomatch h)
  refine H_seq ?_
  -- R11 command.go:26 draws
  refine H_draw (is := [0, 2, 3]) (Xs := [_, _, _]) (Z := [_]) (fuel := 8) (l := #[false, false, false, false, false, false, false, false]) mixed rfl rfl rfl ?_
  refine HA_take (i := 0) (listed' := #[true, false, false, false, false, false, false, false]) (bodyPost_pan _ _ _) rfl rfl rfl rfl (by kernel_rfl) rfl (V_fieldAddr (r := 4) rfl Try.underlying23 rfl Try.sizeOf9 rfl) (fun _ hA => hA.only (is := [0, 2, 3]) (Y := [_, _, _]) (Z := [_]) rfl) ?_
  refine HA_take (i := 1) (listed' := #[true, true, false, false, false, false, false, false]) (bodyPost_pan _ _ _) rfl rfl rfl rfl (by kernel_rfl) rfl (V_load1 (i := 2) (j := 4) rfl Try.isAgg9 rfl (.loc _ _ _) rfl rfl) (fun _ hA => hA.only (is := [0, 2, 3]) (Y := [_, _, _]) (Z := [_]) rfl) ?_
  refine HA_take (i := 2) (listed' := #[true, true, true, false, false, false, false, false]) (bodyPost_pan _ _ _) rfl rfl rfl rfl (by kernel_rfl) rfl (V_fieldAddr (r := 5) rfl Try.underlying23 rfl Try.sizeOf9 rfl) (fun _ hA => hA.only (is := [0, 2, 3]) (Y := [_, _, _]) (Z := [_]) rfl) ?_
  refine HA_take (i := 3) (listed' := #[true, true, true, true, false, false, false, false]) (bodyPost_pan _ _ _) rfl rfl rfl rfl (by kernel_rfl) rfl (V_load1 (i := 2) (j := 5) rfl Try.isAgg9 rfl (.loc _ _ _) rfl rfl) (fun _ hA => hA.only (is := [0, 2, 3]) (Y := [_, _, _]) (Z := [_]) rfl) ?_
  refine HA_take (i := 4) (listed' := #[true, true, true, true, true, false, false, false]) (bodyPost_pan _ _ _) rfl rfl rfl rfl (by kernel_rfl) rfl (V_fieldAddr (r := 4) rfl Try.underlying23 rfl Try.sizeOf9 rfl) (fun _ hA => hA.only (is := [0, 2, 3]) (Y := [_, _, _]) (Z := [_]) rfl) ?_
  refine HA_loud1 (i := 5) (by kernel_rfl) rfl ?_
  refine HO_store (i := 1) (j := 0) (us := [_, _, _, _]) (old := [_]) (ts := [_, _, _]) (cs := [_]) (R := [_, _, _]) (new := [_, _, _, _, _, _, _, _]) rfl rfl rfl Try.sizeOf9 rfl (by simp [Value.oneCell']) rfl rfl rfl rfl rfl rfl ?_
  refine HA_back (listed' := #[true, true, true, true, true, true, false, false]) rfl (fun _ hA => hA.only (is := [1, 2, 3]) (Y := [_, _, _]) (Z := [_]) rfl) ?_
  refine HA_take (i := 6) (listed' := #[true, true, true, true, true, true, true, false]) (bodyPost_pan _ _ _) rfl rfl rfl rfl (by kernel_rfl) rfl (V_fieldAddr (r := 5) rfl Try.underlying23 rfl Try.sizeOf9 rfl) (fun _ hA => hA.only (is := [1, 2, 3]) (Y := [_, _, _]) (Z := [_]) rfl) ?_
  refine HA_loud1 (i := 7) (by kernel_rfl) rfl ?_
  refine HO_store (i := 0) (j := 0) (us := [_, _, _, _, _]) (old := [_]) (ts := [_, _]) (cs := [_]) (R := [_, _, _]) (new := [_, _, _, _, _, _, _, _]) rfl rfl rfl Try.sizeOf9 rfl (by simp [Value.oneCell']) rfl rfl rfl rfl rfl rfl ?_
  refine HA_back (listed' := #[true, true, true, true, true, true, true, true]) rfl (fun _ hA => hA.only (is := [1, 2, 3]) (Y := [_, _, _]) (Z := [_]) rfl) ?_
  refine HA_done (by kernel_rfl) ?_
  refine H_env (ρ' := [(5, _), (4, _), (2, _), (1, _)]) ⟨rfl, rfl, rfl, rfl, trivial⟩ ?_
  refine H_seq ?_
  -- R12 command.go:27
  refine H_region (l := [_, _, _, _]) rfl ?_
  refine HO_loadA (i := 0) (us := []) (cs := [_, _, _, _, _, _, _, _]) (ts := []) rfl rfl rfl Try.isAgg23 Try.sizeOf23 rfl (.loc _ _ _) rfl rfl rfl rfl ?_
  refine HO_makeFunc (vs := []) (us := [_, _]) rfl rfl rfl rfl ?_
  refine HO_store (i := 2) (j := 0) (us := []) (old := [_, _, _, _, _, _, _, _]) (ts := []) (cs := [_, _, _, _, _, _, _, _]) (R := [_, _, _]) (new := [_, _, _, _, _, _, _, _]) rfl rfl rfl Try.sizeOf23 rfl (by simp [Value.oneCell']) rfl rfl rfl rfl rfl rfl ?_
  refine HO_assign rfl rfl rfl ?_
  refine HO_nil ?_
  refine H_env (ρ' := [(3, _), (2, _)]) ⟨rfl, rfl, trivial⟩ ?_
  refine H_world (fun _ hA => hA.drop (is := [1]) (Y := [_]) (Z := [_, _, _]) rfl) ?_
  -- end1
  refine H_ret2 Try.results64 (.cell rfl (fun w hA => run_loadVarA (cs := [_, _, _, _, _, _, _, _]) (Try.isAgg23 w) (Try.sizeOf23 w) (Tells.cells (.loc _ _ _) (hA.get (i := 0) rfl)))) (.tmp rfl) (fun w hA => ⟨(g1, g5), congrArg Ending.returned ?_, ?_, ?_⟩)
  · rfl
  · trivial
  · exact hA.only (is := [1, 2]) (Z := [_]) rfl
theorem fits_7 (se sq : Int) (ke ol va ti : ByteArray) (li : Int)  : Spec Try.prog 64 #[.agg #[.int .i64 (7), .int .i64 (se), .int .i64 (sq), .string (ke), .string (ol), .string (va), .string (ti), .int .i64 (li)]] [] (β := Nat × Nat) (fun y => .tuple #[.agg #[.int .i64 (7), .int .i64 (se), .int .i64 (sq), .string (ke), .string (⟨#[]⟩), .string (⟨#[]⟩), .string (ti), .int .i64 (li)], .func (.func 121) #[] #[.pointer (some ⟨y.1, 0, none⟩)]]) (fun y => True) (fun y => [.loc y.1 [.int .i64 (7), .int .i64 (se), .int .i64 (sq), .string (ke), .string (ol), .string (va), .string (ti), .int .i64 (li)] 23]) := by
  refine Spec.enter (vs := [_]) Try.func64 rfl Try.ntmps64 rfl (Nat.le_of_ble_eq_true rfl) (fun w0 ok0 => ?_)
  generalize hM0 : blks _ = M0
  have hMn : ∀ {R : List Atom} (b : Nat), M0 b → blks R b := fun b hb => absurd (hM0 ▸ hb) (blks_none (by simp [Atom.dat, Atom.elem]) b)
  refine H_seq ?_
  -- R0 command.go:16
  refine H_region (l := [_, _, _]) rfl ?_
  refine HO_box (cs := [_, _, _, _, _, _, _, _]) rfl rfl rfl rfl ?_
  intro g1
  refine HO_alloc (cs := [_, _, _, _, _, _, _, _]) rfl rfl Try.zeroValue23 rfl ?_
  intro g2
  refine HO_assign rfl rfl rfl ?_
  refine HO_nil ?_
  refine H_env (ρ' := [(2, _), (1, _)]) ⟨rfl, rfl, trivial⟩ ?_
  refine H_seq ?_
  -- R1 command.go:17
  refine H_region (l := [_, _, _, _, _, _, _, _, _, _, _]) rfl ?_
  refine HO_fieldAddr (r := 0) rfl rfl rfl Try.underlying23 rfl Try.sizeOf3 rfl ?_
  refine HO_load1 (i := 1) (j := 0) rfl rfl rfl Try.isAgg3 rfl (.loc _ _ _) rfl rfl ?_
  refine HO_fieldAddr (r := 1) rfl rfl rfl Try.underlying23 rfl Try.sizeOf3 rfl ?_
  refine HO_load1 (i := 1) (j := 1) rfl rfl rfl Try.isAgg3 rfl (.loc _ _ _) rfl rfl ?_
  refine HO_fieldAddr (r := 2) rfl rfl rfl Try.underlying23 rfl Try.sizeOf3 rfl ?_
  refine HO_load1 (i := 1) (j := 2) rfl rfl rfl Try.isAgg3 rfl (.loc _ _ _) rfl rfl ?_
  refine HO_fieldAddr (r := 3) rfl rfl rfl Try.underlying23 rfl Try.sizeOf9 rfl ?_
  refine HO_load1 (i := 1) (j := 3) rfl rfl rfl Try.isAgg9 rfl (.loc _ _ _) rfl rfl ?_
  refine HO_build (xo := [(0, _), (1, _), (2, _), (3, _)]) (vs := [_, _, _, _]) rfl rfl rfl rfl (bd23_0_1_2_3_iiit) ?_
  refine HO_alloc (cs := [_, _, _, _, _, _, _, _]) rfl rfl Try.zeroValue23 rfl ?_
  intro g4
  refine HO_store (i := 0) (j := 0) (us := []) (old := [_, _, _, _, _, _, _, _]) (ts := []) (cs := [_, _, _, _, _, _, _, _]) (R := [_, _]) (new := [_, _, _, _, _, _, _, _]) rfl rfl rfl Try.sizeOf23 rfl (by simp [Value.oneCell']) rfl rfl rfl rfl rfl rfl ?_
  refine HO_nil ?_
  refine H_env (ρ' := [(4, _), (2, _), (1, _)]) ⟨rfl, rfl, rfl, trivial⟩ ?_
  refine H_seq ?_
  -- R2 command.go:18
  refine H_region (l := [_, _, _]) rfl ?_
  refine HO_makeFunc (vs := []) (us := [_]) rfl rfl rfl rfl ?_
  refine HO_alloc (cs := [_]) rfl rfl Try.zeroValue25 rfl ?_
  intro g5
  refine HO_store (i := 0) (j := 0) (us := []) (old := [_]) (ts := []) (cs := [_]) (R := [_, _, _]) (new := [_]) rfl rfl rfl Try.sizeOf25 rfl (by simp [Value.oneCell']) rfl rfl rfl rfl rfl rfl ?_
  refine HO_nil ?_
  refine H_env (ρ' := [(5, _), (4, _), (2, _), (1, _)]) ⟨rfl, rfl, rfl, rfl, trivial⟩ ?_
  refine H_seq ?_
  refine H_seq ?_
  -- R3 command.go:19
  refine H_region (l := [_, _]) rfl ?_
  refine HO_fieldAddr (r := 0) rfl rfl rfl Try.underlying23 rfl Try.sizeOf3 rfl ?_
  refine HO_load1 (i := 3) (j := 0) rfl rfl rfl Try.isAgg3 rfl (.loc _ _ _) rfl rfl ?_
  refine HO_nil ?_
  refine H_env (ρ' := [(17, _), (5, _), (4, _), (2, _), (1, _)]) ⟨rfl, rfl, rfl, rfl, rfl, trivial⟩ ?_
  refine H_block ?_
  refine H_seq ?_
  -- R4 command.go:20
  refine H_region (l := [_, _]) rfl ?_
  refine HO_bin rfl rfl rfl rfl (bin_lit (by decide) (fun _ => rfl)) ?_
  refine HO_assign rfl rfl rfl ?_
  refine HO_nil ?_
  refine H_env (ρ' := [(18, _), (17, _), (5, _), (4, _), (2, _), (1, _)]) ⟨rfl, rfl, rfl, rfl, rfl, rfl, trivial⟩ ?_
  refine H_cond rfl (fun h => nomatch h) (fun _ => ?_)
  refine H_seq ?_
  refine H_seq ?_
  -- R7 command.go:23
  refine H_region (l := [_, _]) rfl ?_
  refine HO_bin rfl rfl rfl rfl (bin_lit (by decide) (fun _ => rfl)) ?_
  refine HO_assign rfl rfl rfl ?_
  refine HO_nil ?_
  refine H_env (ρ' := [(25, _), (17, _), (5, _), (4, _), (2, _), (1, _)]) ⟨rfl, rfl, rfl, rfl, rfl, rfl, trivial⟩ ?_
  refine H_cond rfl (fun h => nomatch h) (fun _ => ?_)
  -- R8 command.go:23
  refine H_region (l := [_, _]) rfl ?_
  refine HO_bin rfl rfl rfl rfl (bin_lit (by decide) (fun _ => rfl)) ?_
  refine HO_assign rfl rfl rfl ?_
  refine HO_nil ?_
  refine H_env (ρ' := [(25, _), (17, _), (5, _), (4, _), (2, _), (1, _)]) ⟨rfl, rfl, rfl, rfl, rfl, rfl, trivial⟩ ?_
  refine H_cond rfl (fun h => nomatch h) (fun _ => ?_)
  refine H_seq ?_
  -- R10 command.go:25
  refine H_region (l := [_, _]) rfl ?_
  refine HO_bin rfl rfl rfl rfl (bin_lit (by decide) (fun _ => rfl)) ?_
  refine HO_assign rfl rfl rfl ?_
  refine HO_nil ?_
  refine H_env (ρ' := [(30, _), (17, _), (5, _), (4, _), (2, _), (1, _)]) ⟨rfl, rfl, rfl, rfl, rfl, rfl, trivial⟩ ?_
  refine H_cond rfl (fun h => nomatch h) (fun _ => ?_)
  refine H_seq ?_
  -- R13 command.go:28
  refine H_region (l := [_, _]) rfl ?_
  refine HO_bin rfl rfl rfl rfl (bin_lit (by decide) (fun _ => rfl)) ?_
  refine HO_assign rfl rfl rfl ?_
  refine HO_nil ?_
  refine H_env (ρ' := [(40, _), (4, _), (2, _), (1, _)]) ⟨rfl, rfl, rfl, rfl, trivial⟩ ?_
  refine H_world (fun _ hA => hA.drop (is := [0]) (Y := [_]) (Z := [_, _, _]) rfl) ?_
  refine H_cond rfl (fun _ => ?_) (fun h => nomatch h)
  refine H_seq ?_
  -- R14 command.go:29 draws
  refine H_draw (is := [1, 2]) (Xs := [_, _]) (Z := [_]) (fuel := 8) (l := #[false, false, false, false, false, false, false, false]) mixed rfl rfl rfl ?_
  refine HA_take (i := 0) (listed' := #[true, false, false, false, false, false, false, false]) (bodyPost_pan _ _ _) rfl rfl rfl rfl (by kernel_rfl) rfl (V_fieldAddr (r := 6) rfl Try.underlying23 rfl Try.sizeOf9 rfl) (fun _ hA => hA.only (is := [1, 2]) (Y := [_, _]) (Z := [_]) rfl) ?_
  refine HA_take (i := 1) (listed' := #[true, true, false, false, false, false, false, false]) (bodyPost_pan _ _ _) rfl rfl rfl rfl (by kernel_rfl) rfl (V_load1 (i := 1) (j := 6) rfl Try.isAgg9 rfl (.loc _ _ _) rfl rfl) (fun _ hA => hA.only (is := [1, 2]) (Y := [_, _]) (Z := [_]) rfl) ?_
  refine HA_take (i := 2) (listed' := #[true, true, true, false, false, false, false, false]) (bodyPost_pan _ _ _) rfl rfl rfl rfl (by kernel_rfl) rfl (V_fieldAddr (r := 7) rfl Try.underlying23 rfl Try.sizeOf3 rfl) (fun _ hA => hA.only (is := [1, 2]) (Y := [_, _]) (Z := [_]) rfl) ?_
  refine HA_take (i := 3) (listed' := #[true, true, true, true, false, false, false, false]) (bodyPost_pan _ _ _) rfl rfl rfl rfl (by kernel_rfl) rfl (V_load1 (i := 1) (j := 7) rfl Try.isAgg3 rfl (.loc _ _ _) rfl rfl) (fun _ hA => hA.only (is := [1, 2]) (Y := [_, _]) (Z := [_]) rfl) ?_
  refine HA_take (i := 4) (listed' := #[true, true, true, true, true, false, false, false]) (bodyPost_pan _ _ _) rfl rfl rfl rfl (by kernel_rfl) rfl (V_fieldAddr (r := 6) rfl Try.underlying23 rfl Try.sizeOf9 rfl) (fun _ hA => hA.only (is := [1, 2]) (Y := [_, _]) (Z := [_]) rfl) ?_
  refine HA_loud1 (i := 5) (by kernel_rfl) rfl ?_
  refine HO_store (i := 0) (j := 0) (us := [_, _, _, _, _, _]) (old := [_]) (ts := [_]) (cs := [_]) (R := [_, _]) (new := [_, _, _, _, _, _, _, _]) rfl rfl rfl Try.sizeOf9 rfl (by simp [Value.oneCell']) rfl rfl rfl rfl rfl rfl ?_
  refine HA_back (listed' := #[true, true, true, true, true, true, false, false]) rfl (fun _ hA => hA.only (is := [1, 2]) (Y := [_, _]) (Z := [_]) rfl) ?_
  refine HA_take (i := 6) (listed' := #[true, true, true, true, true, true, true, false]) (bodyPost_pan _ _ _) rfl rfl rfl rfl (by kernel_rfl) rfl (V_fieldAddr (r := 7) rfl Try.underlying23 rfl Try.sizeOf3 rfl) (fun _ hA => hA.only (is := [1, 2]) (Y := [_, _]) (Z := [_]) rfl) ?_
  refine HA_loud1 (i := 7) (by kernel_rfl) rfl ?_
  refine HO_store (i := 0) (j := 0) (us := [_, _, _, _, _, _, _]) (old := [_]) (ts := []) (cs := [_]) (R := [_, _]) (new := [_, _, _, _, _, _, _, _]) rfl rfl rfl Try.sizeOf3 rfl (by simp [Value.oneCell']) rfl rfl rfl rfl rfl rfl ?_
  refine HA_back (listed' := #[true, true, true, true, true, true, true, true]) rfl (fun _ hA => hA.only (is := [1, 2]) (Y := [_, _]) (Z := [_]) rfl) ?_
  refine HA_done (by kernel_rfl) ?_
  refine H_env (ρ' := [(4, _), (2, _), (1, _)]) ⟨rfl, rfl, rfl, trivial⟩ ?_
  refine H_seq ?_
  -- R15 command.go:30
  refine H_region (l := [_, _, _, _]) rfl ?_
  refine HO_loadA (i := 0) (us := []) (cs := [_, _, _, _, _, _, _, _]) (ts := []) rfl rfl rfl Try.isAgg23 Try.sizeOf23 rfl (.loc _ _ _) rfl rfl rfl rfl ?_
  refine HO_makeFunc (vs := []) (us := [_]) rfl rfl rfl rfl ?_
  refine HO_store (i := 1) (j := 0) (us := []) (old := [_, _, _, _, _, _, _, _]) (ts := []) (cs := [_, _, _, _, _, _, _, _]) (R := [_, _]) (new := [_, _, _, _, _, _, _, _]) rfl rfl rfl Try.sizeOf23 rfl (by simp [Value.oneCell']) rfl rfl rfl rfl rfl rfl ?_
  refine HO_assign rfl rfl rfl ?_
  refine HO_nil ?_
  refine H_env (ρ' := [(3, _), (2, _)]) ⟨rfl, rfl, trivial⟩ ?_
  refine H_world (fun _ hA => hA.drop (is := [1]) (Y := [_]) (Z := [_, _]) rfl) ?_
  -- end1
  refine H_ret2 Try.results64 (.cell rfl (fun w hA => run_loadVarA (cs := [_, _, _, _, _, _, _, _]) (Try.isAgg23 w) (Try.sizeOf23 w) (Tells.cells (.loc _ _ _) (hA.get (i := 0) rfl)))) (.tmp rfl) (fun w hA => ⟨(g1, g5), congrArg Ending.returned ?_, ?_, ?_⟩)
  · rfl
  · trivial
  · exact hA.only (is := [1]) (Z := [_]) rfl
theorem fits_no (ki se sq : Int) (ke ol va ti : ByteArray) (li : Int) (h3 : ki ≠ 3) (h4 : ki ≠ 4) (h5 : ki ≠ 5) (h6 : ki ≠ 6) (h7 : ki ≠ 7) : Spec Try.prog 64 #[.agg #[.int .i64 (ki), .int .i64 (se), .int .i64 (sq), .string (ke), .string (ol), .string (va), .string (ti), .int .i64 (li)]] [] (β := Nat × Nat) (fun y => .tuple #[.agg #[.int .i64 (ki), .int .i64 (se), .int .i64 (sq), .string (ke), .string (⟨#[]⟩), .string (⟨#[]⟩), .string (⟨#[]⟩), .int .i64 (0)], .func (.func 122) #[] #[]]) (fun y => True) (fun y => []) := by
  refine Spec.enter (vs := [_]) Try.func64 rfl Try.ntmps64 rfl (Nat.le_of_ble_eq_true rfl) (fun w0 ok0 => ?_)
  generalize hM0 : blks _ = M0
  have hMn : ∀ {R : List Atom} (b : Nat), M0 b → blks R b := fun b hb => absurd (hM0 ▸ hb) (blks_none (by simp [Atom.dat, Atom.elem]) b)
  refine H_seq ?_
  -- R0 command.go:16
  refine H_region (l := [_, _, _]) rfl ?_
  refine HO_box (cs := [_, _, _, _, _, _, _, _]) rfl rfl rfl rfl ?_
  intro g1
  refine HO_alloc (cs := [_, _, _, _, _, _, _, _]) rfl rfl Try.zeroValue23 rfl ?_
  intro g2
  refine HO_assign rfl rfl rfl ?_
  refine HO_nil ?_
  refine H_env (ρ' := [(2, _), (1, _)]) ⟨rfl, rfl, trivial⟩ ?_
  refine H_seq ?_
  -- R1 command.go:17
  refine H_region (l := [_, _, _, _, _, _, _, _, _, _, _]) rfl ?_
  refine HO_fieldAddr (r := 0) rfl rfl rfl Try.underlying23 rfl Try.sizeOf3 rfl ?_
  refine HO_load1 (i := 1) (j := 0) rfl rfl rfl Try.isAgg3 rfl (.loc _ _ _) rfl rfl ?_
  refine HO_fieldAddr (r := 1) rfl rfl rfl Try.underlying23 rfl Try.sizeOf3 rfl ?_
  refine HO_load1 (i := 1) (j := 1) rfl rfl rfl Try.isAgg3 rfl (.loc _ _ _) rfl rfl ?_
  refine HO_fieldAddr (r := 2) rfl rfl rfl Try.underlying23 rfl Try.sizeOf3 rfl ?_
  refine HO_load1 (i := 1) (j := 2) rfl rfl rfl Try.isAgg3 rfl (.loc _ _ _) rfl rfl ?_
  refine HO_fieldAddr (r := 3) rfl rfl rfl Try.underlying23 rfl Try.sizeOf9 rfl ?_
  refine HO_load1 (i := 1) (j := 3) rfl rfl rfl Try.isAgg9 rfl (.loc _ _ _) rfl rfl ?_
  refine HO_build (xo := [(0, _), (1, _), (2, _), (3, _)]) (vs := [_, _, _, _]) rfl rfl rfl rfl (bd23_0_1_2_3_iiit) ?_
  refine HO_alloc (cs := [_, _, _, _, _, _, _, _]) rfl rfl Try.zeroValue23 rfl ?_
  intro g4
  refine HO_store (i := 0) (j := 0) (us := []) (old := [_, _, _, _, _, _, _, _]) (ts := []) (cs := [_, _, _, _, _, _, _, _]) (R := [_, _]) (new := [_, _, _, _, _, _, _, _]) rfl rfl rfl Try.sizeOf23 rfl (by simp [Value.oneCell']) rfl rfl rfl rfl rfl rfl ?_
  refine HO_nil ?_
  refine H_env (ρ' := [(4, _), (2, _), (1, _)]) ⟨rfl, rfl, rfl, trivial⟩ ?_
  refine H_seq ?_
  -- R2 command.go:18
  refine H_region (l := [_, _, _]) rfl ?_
  refine HO_makeFunc (vs := []) (us := [_]) rfl rfl rfl rfl ?_
  refine HO_alloc (cs := [_]) rfl rfl Try.zeroValue25 rfl ?_
  intro g5
  refine HO_store (i := 0) (j := 0) (us := []) (old := [_]) (ts := []) (cs := [_]) (R := [_, _, _]) (new := [_]) rfl rfl rfl Try.sizeOf25 rfl (by simp [Value.oneCell']) rfl rfl rfl rfl rfl rfl ?_
  refine HO_nil ?_
  refine H_env (ρ' := [(5, _), (4, _), (2, _), (1, _)]) ⟨rfl, rfl, rfl, rfl, trivial⟩ ?_
  refine H_seq ?_
  refine H_seq ?_
  -- R3 command.go:19
  refine H_region (l := [_, _]) rfl ?_
  refine HO_fieldAddr (r := 0) rfl rfl rfl Try.underlying23 rfl Try.sizeOf3 rfl ?_
  refine HO_load1 (i := 3) (j := 0) rfl rfl rfl Try.isAgg3 rfl (.loc _ _ _) rfl rfl ?_
  refine HO_nil ?_
  refine H_env (ρ' := [(17, _), (5, _), (4, _), (2, _), (1, _)]) ⟨rfl, rfl, rfl, rfl, rfl, trivial⟩ ?_
  refine H_block ?_
  refine H_seq ?_
  -- R4 command.go:20
  refine H_region (l := [_, _]) rfl ?_
  refine HO_bin rfl rfl rfl rfl bin_eql ?_
  refine HO_assign rfl rfl rfl ?_
  refine HO_nil ?_
  refine H_env (ρ' := [(18, _), (17, _), (5, _), (4, _), (2, _), (1, _)]) ⟨rfl, rfl, rfl, rfl, rfl, rfl, trivial⟩ ?_
  refine H_cond rfl ?_ ?_
  · intro h18
    (try simp only [decide_eq_true_eq, decide_eq_false_iff_not, Bool.not_eq_true', Bool.not_eq_false', Bool.not_eq_true, Bool.not_eq_false, Bool.true_eq_false, Bool.false_eq_true, not_false_eq_true, not_true_eq_false] at h18)
    all_goals (exfalso; omega)
  · intro h18
    (try simp only [decide_eq_true_eq, decide_eq_false_iff_not, Bool.not_eq_true', Bool.not_eq_false', Bool.not_eq_true, Bool.not_eq_false, Bool.true_eq_false, Bool.false_eq_true, not_false_eq_true, not_true_eq_false] at h18)
    refine H_seq ?_
    refine H_seq ?_
    -- R7 command.go:23
    refine H_region (l := [_, _]) rfl ?_
    refine HO_bin rfl rfl rfl rfl bin_eql ?_
    refine HO_assign rfl rfl rfl ?_
    refine HO_nil ?_
    refine H_env (ρ' := [(25, _), (17, _), (5, _), (4, _), (2, _), (1, _)]) ⟨rfl, rfl, rfl, rfl, rfl, rfl, trivial⟩ ?_
    refine H_cond rfl ?_ ?_
    · intro h25
      (try simp only [decide_eq_true_eq, decide_eq_false_iff_not, Bool.not_eq_true', Bool.not_eq_false', Bool.not_eq_true, Bool.not_eq_false, Bool.true_eq_false, Bool.false_eq_true, not_false_eq_true, not_true_eq_false] at h25)
      all_goals (exfalso; omega)
    · intro h25
      (try simp only [decide_eq_true_eq, decide_eq_false_iff_not, Bool.not_eq_true', Bool.not_eq_false', Bool.not_eq_true, Bool.not_eq_false, Bool.true_eq_false, Bool.false_eq_true, not_false_eq_true, not_true_eq_false] at h25)
      -- R8 command.go:23
      refine H_region (l := [_, _]) rfl ?_
      refine HO_bin rfl rfl rfl rfl bin_eql ?_
      refine HO_assign rfl rfl rfl ?_
      refine HO_nil ?_
      refine H_env (ρ' := [(25, _), (17, _), (5, _), (4, _), (2, _), (1, _)]) ⟨rfl, rfl, rfl, rfl, rfl, rfl, trivial⟩ ?_
      refine H_cond rfl ?_ ?_
      · intro h25
        (try simp only [decide_eq_true_eq, decide_eq_false_iff_not, Bool.not_eq_true', Bool.not_eq_false', Bool.not_eq_true, Bool.not_eq_false, Bool.true_eq_false, Bool.false_eq_true, not_false_eq_true, not_true_eq_false] at h25)
        all_goals (exfalso; omega)
      · intro h25
        (try simp only [decide_eq_true_eq, decide_eq_false_iff_not, Bool.not_eq_true', Bool.not_eq_false', Bool.not_eq_true, Bool.not_eq_false, Bool.true_eq_false, Bool.false_eq_true, not_false_eq_true, not_true_eq_false] at h25)
        refine H_seq ?_
        -- R10 command.go:25
        refine H_region (l := [_, _]) rfl ?_
        refine HO_bin rfl rfl rfl rfl bin_eql ?_
        refine HO_assign rfl rfl rfl ?_
        refine HO_nil ?_
        refine H_env (ρ' := [(30, _), (17, _), (5, _), (4, _), (2, _), (1, _)]) ⟨rfl, rfl, rfl, rfl, rfl, rfl, trivial⟩ ?_
        refine H_cond rfl ?_ ?_
        · intro h30
          (try simp only [decide_eq_true_eq, decide_eq_false_iff_not, Bool.not_eq_true', Bool.not_eq_false', Bool.not_eq_true, Bool.not_eq_false, Bool.true_eq_false, Bool.false_eq_true, not_false_eq_true, not_true_eq_false] at h30)
          all_goals (exfalso; omega)
        · intro h30
          (try simp only [decide_eq_true_eq, decide_eq_false_iff_not, Bool.not_eq_true', Bool.not_eq_false', Bool.not_eq_true, Bool.not_eq_false, Bool.true_eq_false, Bool.false_eq_true, not_false_eq_true, not_true_eq_false] at h30)
          refine H_seq ?_
          -- R13 command.go:28
          refine H_region (l := [_, _]) rfl ?_
          refine HO_bin rfl rfl rfl rfl bin_eql ?_
          refine HO_assign rfl rfl rfl ?_
          refine HO_nil ?_
          refine H_env (ρ' := [(40, _), (4, _), (2, _), (1, _)]) ⟨rfl, rfl, rfl, rfl, trivial⟩ ?_
          refine H_world (fun _ hA => hA.drop (is := [0]) (Y := [_]) (Z := [_, _, _]) rfl) ?_
          refine H_cond rfl ?_ ?_
          · intro h40
            (try simp only [decide_eq_true_eq, decide_eq_false_iff_not, Bool.not_eq_true', Bool.not_eq_false', Bool.not_eq_true, Bool.not_eq_false, Bool.true_eq_false, Bool.false_eq_true, not_false_eq_true, not_true_eq_false] at h40)
            all_goals (exfalso; omega)
          · intro h40
            (try simp only [decide_eq_true_eq, decide_eq_false_iff_not, Bool.not_eq_true', Bool.not_eq_false', Bool.not_eq_true, Bool.not_eq_false, Bool.true_eq_false, Bool.false_eq_true, not_false_eq_true, not_true_eq_false] at h40)
            refine H_skip ?_
            refine H_blk ?_
            refine H_seq ?_
            -- R16 command.go:34
            refine H_region (l := [_, _, _]) rfl ?_
            refine HO_loadA (i := 0) (us := []) (cs := [_, _, _, _, _, _, _, _]) (ts := []) rfl rfl rfl Try.isAgg23 Try.sizeOf23 rfl (.loc _ _ _) rfl rfl rfl rfl ?_
            refine HO_store (i := 1) (j := 0) (us := []) (old := [_, _, _, _, _, _, _, _]) (ts := []) (cs := [_, _, _, _, _, _, _, _]) (R := [_, _]) (new := [_, _, _, _, _, _, _, _]) rfl rfl rfl Try.sizeOf23 rfl (by simp [Value.oneCell']) rfl rfl rfl rfl rfl rfl ?_
            refine HO_assign rfl rfl rfl ?_
            refine HO_nil ?_
            refine H_env (ρ' := [(3, _), (2, _)]) ⟨rfl, rfl, trivial⟩ ?_
            refine H_world (fun _ hA => hA.drop (is := [1, 2]) (Y := [_, _]) (Z := [_]) rfl) ?_
            -- end1
            refine H_ret2 Try.results64 (.cell rfl (fun w hA => run_loadVarA (cs := [_, _, _, _, _, _, _, _]) (Try.isAgg23 w) (Try.sizeOf23 w) (Tells.cells (.loc _ _ _) (hA.get (i := 0) rfl)))) (.tmp rfl) (fun w hA => ⟨(g1, g5), congrArg Ending.returned ?_, ?_, ?_⟩)
            · rfl
            · trivial
            · exact hA.only (is := []) (Z := [_]) rfl
theorem good_spec (ki se sq : Int) (ke ol va ti : ByteArray) (li : Int)  : Spec Try.prog 16 #[.agg #[.int .i64 (ki), .int .i64 (se), .int .i64 (sq), .string (ke), .string (ol), .string (va), .string (ti), .int .i64 (li)]] [] (β := Unit) (fun y => .bool (Cmd.good ⟨ki, se, sq, ke, ol, va, ti, li⟩)) (fun y => True) (fun y => []) := by
  refine Spec.enter (vs := [_]) Try.func16 rfl Try.ntmps16 rfl (Nat.le_of_ble_eq_true rfl) (fun w0 ok0 => ?_)
  generalize hM0 : blks _ = M0
  have hMn : ∀ {R : List Atom} (b : Nat), M0 b → blks R b := fun b hb => absurd (hM0 ▸ hb) (blks_none (by simp [Atom.dat, Atom.elem]) b)
  refine H_seq ?_
  -- R0 command.go:38
  refine H_region (l := [_, _]) rfl ?_
  refine HO_box (cs := [_, _, _, _, _, _, _, _]) rfl rfl rfl rfl ?_
  intro g1
  refine HO_assign rfl rfl rfl ?_
  refine HO_nil ?_
  refine H_env (ρ' := [(1, _)]) ⟨rfl, trivial⟩ ?_
  refine H_seq ?_
  refine H_seq ?_
  -- R1 command.go:39
  refine H_region (l := [_, _]) rfl ?_
  refine HO_fieldAddr (r := 0) rfl rfl rfl Try.underlying23 rfl Try.sizeOf3 rfl ?_
  refine HO_load1 (i := 0) (j := 0) rfl rfl rfl Try.isAgg3 rfl (.loc _ _ _) rfl rfl ?_
  refine HO_nil ?_
  refine H_env (ρ' := [(6, _), (1, _)]) ⟨rfl, rfl, trivial⟩ ?_
  refine H_block ?_
  refine H_seq ?_
  -- R2 command.go:40
  refine H_region (l := [_, _]) rfl ?_
  refine HO_bin rfl rfl rfl rfl bin_eql ?_
  refine HO_assign rfl rfl rfl ?_
  refine HO_nil ?_
  refine H_env (ρ' := [(7, _), (6, _), (1, _)]) ⟨rfl, rfl, rfl, trivial⟩ ?_
  refine H_cond rfl ?_ ?_
  · intro h7
    (try simp only [decide_eq_true_eq, decide_eq_false_iff_not, Bool.not_eq_true', Bool.not_eq_false', Bool.not_eq_true, Bool.not_eq_false, Bool.true_eq_false, Bool.false_eq_true, not_false_eq_true, not_true_eq_false] at h7)
    refine H_seq ?_
    -- R3 command.go:41
    refine H_region (l := [_, _, _, _]) rfl ?_
    refine HO_loadA (i := 0) (us := []) (cs := [_, _, _, _, _, _, _, _]) (ts := []) rfl rfl rfl Try.isAgg23 Try.sizeOf23 rfl (.loc _ _ _) rfl rfl rfl rfl ?_
    refine HO_build (xo := [(0, _)]) (vs := [_]) rfl rfl rfl rfl (bd23_0_i) ?_
    refine HO_bin rfl rfl rfl rfl eq23_eql ?_
    refine HO_assign rfl rfl rfl ?_
    refine HO_nil ?_
    refine H_env (ρ' := [(2, _)]) ⟨rfl, trivial⟩ ?_
    refine H_world (fun _ hA => hA.drop (is := [0]) (Y := [_]) (Z := []) rfl) ?_
    -- end1
    refine H_ret1 Try.results16 (.tmp rfl) (fun w hA => ⟨(), congrArg Ending.returned ?_, ?_, ?_⟩)
    · (exact congrArg Value.bool (by first | (simp [Cmd.good, Cmd.part, Cmd.fit, Cmd.eqv, Cmd.base, Cmd.empty, *]; done) | (simp [Cmd.good, Cmd.part, Cmd.fit, Cmd.eqv, Cmd.base, Cmd.empty, *]; rfl) | (simp_all [Cmd.good, Cmd.part, Cmd.fit, Cmd.eqv, Cmd.base, Cmd.empty]; done) | (simp_all [Cmd.good, Cmd.part, Cmd.fit, Cmd.eqv, Cmd.base, Cmd.empty]; rfl)))
    · trivial
    · exact hA.only (is := []) (Z := []) rfl
  · intro h7
    (try simp only [decide_eq_true_eq, decide_eq_false_iff_not, Bool.not_eq_true', Bool.not_eq_false', Bool.not_eq_true, Bool.not_eq_false, Bool.true_eq_false, Bool.false_eq_true, not_false_eq_true, not_true_eq_false] at h7)
    refine H_seq ?_
    -- R4 command.go:42
    refine H_region (l := [_, _]) rfl ?_
    refine HO_bin rfl rfl rfl rfl bin_eql ?_
    refine HO_assign rfl rfl rfl ?_
    refine HO_nil ?_
    refine H_env (ρ' := [(12, _), (1, _)]) ⟨rfl, rfl, trivial⟩ ?_
    refine H_cond rfl ?_ ?_
    · intro h12
      (try simp only [decide_eq_true_eq, decide_eq_false_iff_not, Bool.not_eq_true', Bool.not_eq_false', Bool.not_eq_true, Bool.not_eq_false, Bool.true_eq_false, Bool.false_eq_true, not_false_eq_true, not_true_eq_false] at h12)
      refine H_seq ?_
      -- R5 command.go:43
      refine H_region (l := [_, _, _, _, _, _, _, _, _, _, _]) rfl ?_
      refine HO_fieldAddr (r := 1) rfl rfl rfl Try.underlying23 rfl Try.sizeOf3 rfl ?_
      refine HO_load1 (i := 0) (j := 1) rfl rfl rfl Try.isAgg3 rfl (.loc _ _ _) rfl rfl ?_
      refine HO_bin rfl rfl rfl rfl bin_gtr ?_
      refine HO_move rfl rfl rfl ?_
      refine HO_split (d := 17) rfl ?_ ?_
      · intro h17
        (try simp only [decide_eq_true_eq, decide_eq_false_iff_not, Bool.not_eq_true', Bool.not_eq_false', Bool.not_eq_true, Bool.not_eq_false, Bool.true_eq_false, Bool.false_eq_true, not_false_eq_true, not_true_eq_false] at h17)
        refine HO_loadA (i := 0) (us := []) (cs := [_, _, _, _, _, _, _, _]) (ts := []) rfl rfl rfl Try.isAgg23 Try.sizeOf23 rfl (.loc _ _ _) rfl rfl rfl rfl ?_
        refine HO_fieldAddr (r := 1) rfl rfl rfl Try.underlying23 rfl Try.sizeOf3 rfl ?_
        refine HO_load1 (i := 0) (j := 1) rfl rfl rfl Try.isAgg3 rfl (.loc _ _ _) rfl rfl ?_
        refine HO_build (xo := [(0, _), (1, _)]) (vs := [_, _]) rfl rfl rfl rfl (bd23_0_1_ii) ?_
        refine HO_bin rfl rfl rfl rfl eq23_eql ?_
        refine HO_pick_t rfl rfl rfl rfl ?_
        refine HO_assign rfl rfl rfl ?_
        refine HO_nil ?_
        refine H_env (ρ' := [(2, _)]) ⟨rfl, trivial⟩ ?_
        refine H_world (fun _ hA => hA.drop (is := [0]) (Y := [_]) (Z := []) rfl) ?_
        -- end2
        refine H_ret1 Try.results16 (.tmp rfl) (fun w hA => ⟨(), congrArg Ending.returned ?_, ?_, ?_⟩)
        · (exact congrArg Value.bool (by first | (simp [Cmd.good, Cmd.part, Cmd.fit, Cmd.eqv, Cmd.base, Cmd.empty, *]; done) | (simp [Cmd.good, Cmd.part, Cmd.fit, Cmd.eqv, Cmd.base, Cmd.empty, *]; rfl) | (simp_all [Cmd.good, Cmd.part, Cmd.fit, Cmd.eqv, Cmd.base, Cmd.empty]; done) | (simp_all [Cmd.good, Cmd.part, Cmd.fit, Cmd.eqv, Cmd.base, Cmd.empty]; rfl)))
        · trivial
        · exact hA.only (is := []) (Z := []) rfl
      · intro h17
        (try simp only [decide_eq_true_eq, decide_eq_false_iff_not, Bool.not_eq_true', Bool.not_eq_false', Bool.not_eq_true, Bool.not_eq_false, Bool.true_eq_false, Bool.false_eq_true, not_false_eq_true, not_true_eq_false] at h17)
        refine HO_no rfl rfl rfl ?_
        refine HO_no rfl rfl rfl ?_
        refine HO_no rfl rfl rfl ?_
        refine HO_no rfl rfl rfl ?_
        refine HO_no rfl rfl rfl ?_
        refine HO_pick_f rfl rfl rfl rfl ?_
        refine HO_assign rfl rfl rfl ?_
        refine HO_nil ?_
        refine H_env (ρ' := [(2, _)]) ⟨rfl, trivial⟩ ?_
        refine H_world (fun _ hA => hA.drop (is := [0]) (Y := [_]) (Z := []) rfl) ?_
        -- end3
        refine H_ret1 Try.results16 (.tmp rfl) (fun w hA => ⟨(), congrArg Ending.returned ?_, ?_, ?_⟩)
        · (exact congrArg Value.bool (by first | (simp [Cmd.good, Cmd.part, Cmd.fit, Cmd.eqv, Cmd.base, Cmd.empty, *]; done) | (simp [Cmd.good, Cmd.part, Cmd.fit, Cmd.eqv, Cmd.base, Cmd.empty, *]; rfl) | (simp_all [Cmd.good, Cmd.part, Cmd.fit, Cmd.eqv, Cmd.base, Cmd.empty]; done) | (simp_all [Cmd.good, Cmd.part, Cmd.fit, Cmd.eqv, Cmd.base, Cmd.empty]; rfl)))
        · trivial
        · exact hA.only (is := []) (Z := []) rfl
    · intro h12
      (try simp only [decide_eq_true_eq, decide_eq_false_iff_not, Bool.not_eq_true', Bool.not_eq_false', Bool.not_eq_true, Bool.not_eq_false, Bool.true_eq_false, Bool.false_eq_true, not_false_eq_true, not_true_eq_false] at h12)
      refine H_skip ?_
      refine H_blk ?_
      refine H_seq ?_
      rcases (Cmd.kinds ki) with hc | hc | hc | hc | hc | hc
      · skip
        subst hc
        -- R6 command.go:45
        refine H_region (l := [_, _, _, _, _, _, _, _]) rfl ?_
        refine HO_loadA (i := 0) (us := []) (cs := [_, _, _, _, _, _, _, _]) (ts := []) rfl rfl rfl Try.isAgg23 Try.sizeOf23 rfl (.loc _ _ _) rfl rfl rfl rfl ?_
        refine HO_call (first := []) (capt := []) (is := []) (R := [_]) rfl rfl rfl rfl rfl Try.call64 rfl (fits_3 _ _ _ _ _ _ _) ?_
        intro y26 hy26
        refine HO_move rfl rfl rfl ?_
        refine HO_extract (vs := [_, _]) rfl rfl rfl rfl ?_
        refine HO_extract (vs := [_, _]) rfl rfl rfl rfl ?_
        refine HO_alloc (cs := [_, _, _, _, _, _, _, _]) rfl rfl Try.zeroValue23 rfl ?_
        intro g3
        refine HO_store (i := 0) (j := 0) (us := []) (old := [_, _, _, _, _, _, _, _]) (ts := []) (cs := [_, _, _, _, _, _, _, _]) (R := [_, _, _]) (new := [_, _, _, _, _, _, _, _]) rfl rfl rfl Try.sizeOf23 rfl (by simp [Value.oneCell']) rfl rfl rfl rfl rfl rfl ?_
        refine HO_assign rfl rfl rfl ?_
        refine HO_nil ?_
        refine H_env (ρ' := [(4, _), (3, _), (1, _)]) ⟨rfl, rfl, rfl, trivial⟩ ?_
        refine H_seq ?_
        -- R7 command.go:46
        refine H_region (l := [_, _, _, _, _, _, _, _, _, _, _, _, _, _, _, _, _, _]) rfl ?_
        refine HO_loadA (i := 3) (us := []) (cs := [_, _, _, _, _, _, _, _]) (ts := []) rfl rfl rfl Try.isAgg23 Try.sizeOf23 rfl (.loc _ _ _) rfl rfl rfl rfl ?_
        refine HO_loadA (i := 0) (us := []) (cs := [_, _, _, _, _, _, _, _]) (ts := []) rfl rfl rfl Try.isAgg23 Try.sizeOf23 rfl (.loc _ _ _) rfl rfl rfl rfl ?_
        refine HO_bin rfl rfl rfl rfl eq23_eql ?_
        refine HO_move rfl rfl rfl ?_
        refine HO_split (d := 32) rfl ?_ ?_
        · intro h32
          (try simp only [decide_eq_true_eq, decide_eq_false_iff_not, Bool.not_eq_true', Bool.not_eq_false', Bool.not_eq_true, Bool.not_eq_false, Bool.true_eq_false, Bool.false_eq_true, not_false_eq_true, not_true_eq_false] at h32)
          refine HO_fieldAddr (r := 1) rfl rfl rfl Try.underlying23 rfl Try.sizeOf3 rfl ?_
          refine HO_load1 (i := 3) (j := 1) rfl rfl rfl Try.isAgg3 rfl (.loc _ _ _) rfl rfl ?_
          refine HO_bin rfl rfl rfl rfl bin_gtr ?_
          refine HO_pick_t rfl rfl rfl rfl ?_
          refine HO_move rfl rfl rfl ?_
          refine HO_split (d := 37) rfl ?_ ?_
          · intro h37
            (try simp only [decide_eq_true_eq, decide_eq_false_iff_not, Bool.not_eq_true', Bool.not_eq_false', Bool.not_eq_true, Bool.not_eq_false, Bool.true_eq_false, Bool.false_eq_true, not_false_eq_true, not_true_eq_false] at h37)
            refine HO_fieldAddr (r := 2) rfl rfl rfl Try.underlying23 rfl Try.sizeOf3 rfl ?_
            refine HO_load1 (i := 3) (j := 2) rfl rfl rfl Try.isAgg3 rfl (.loc _ _ _) rfl rfl ?_
            refine HO_bin rfl rfl rfl rfl bin_gtr ?_
            refine HO_pick_t rfl rfl rfl rfl ?_
            refine HO_move rfl rfl rfl ?_
            refine HO_split (d := 42) rfl ?_ ?_
            · intro h42
              (try simp only [decide_eq_true_eq, decide_eq_false_iff_not, Bool.not_eq_true', Bool.not_eq_false', Bool.not_eq_true, Bool.not_eq_false, Bool.true_eq_false, Bool.false_eq_true, not_false_eq_true, not_true_eq_false] at h42)
              refine HO_move rfl rfl rfl ?_
              refine HO_call (first := []) (capt := [_, _]) (is := [1, 2]) (R := [_, _]) rfl rfl rfl rfl rfl Try.call118 rfl (fits2_spec _ _ _ _ _ _ _ _ _ _) ?_
              intro y44 hy44
              clear y44 hy44
              refine HO_pick_t rfl rfl rfl rfl ?_
              refine HO_assign rfl rfl rfl ?_
              refine HO_nil ?_
              refine H_env (ρ' := [(2, _)]) ⟨rfl, trivial⟩ ?_
              refine H_world (fun _ hA => hA.drop (is := [0, 1, 2, 3]) (Y := [_, _, _, _]) (Z := []) rfl) ?_
              -- end4
              refine H_ret1 Try.results16 (.tmp rfl) (fun w hA => ⟨(), congrArg Ending.returned ?_, ?_, ?_⟩)
              · (exact congrArg Value.bool (by first | (simp [Cmd.good, Cmd.part, Cmd.fit, Cmd.eqv, Cmd.base, Cmd.empty, *]; done) | (simp [Cmd.good, Cmd.part, Cmd.fit, Cmd.eqv, Cmd.base, Cmd.empty, *]; rfl) | (simp_all [Cmd.good, Cmd.part, Cmd.fit, Cmd.eqv, Cmd.base, Cmd.empty]; done) | (simp_all [Cmd.good, Cmd.part, Cmd.fit, Cmd.eqv, Cmd.base, Cmd.empty]; rfl)))
              · trivial
              · exact hA.only (is := []) (Z := []) rfl
            · intro h42
              (try simp only [decide_eq_true_eq, decide_eq_false_iff_not, Bool.not_eq_true', Bool.not_eq_false', Bool.not_eq_true, Bool.not_eq_false, Bool.true_eq_false, Bool.false_eq_true, not_false_eq_true, not_true_eq_false] at h42)
              refine HO_no rfl rfl rfl ?_
              refine HO_no rfl rfl rfl ?_
              refine HO_pick_f rfl rfl rfl rfl ?_
              refine HO_assign rfl rfl rfl ?_
              refine HO_nil ?_
              refine H_env (ρ' := [(2, _)]) ⟨rfl, trivial⟩ ?_
              refine H_world (fun _ hA => hA.drop (is := [0, 1, 2, 3]) (Y := [_, _, _, _]) (Z := []) rfl) ?_
              -- end5
              refine H_ret1 Try.results16 (.tmp rfl) (fun w hA => ⟨(), congrArg Ending.returned ?_, ?_, ?_⟩)
              · (exact congrArg Value.bool (by first | (simp [Cmd.good, Cmd.part, Cmd.fit, Cmd.eqv, Cmd.base, Cmd.empty, *]; done) | (simp [Cmd.good, Cmd.part, Cmd.fit, Cmd.eqv, Cmd.base, Cmd.empty, *]; rfl) | (simp_all [Cmd.good, Cmd.part, Cmd.fit, Cmd.eqv, Cmd.base, Cmd.empty]; done) | (simp_all [Cmd.good, Cmd.part, Cmd.fit, Cmd.eqv, Cmd.base, Cmd.empty]; rfl)))
              · trivial
              · exact hA.only (is := []) (Z := []) rfl
          · intro h37
            (try simp only [decide_eq_true_eq, decide_eq_false_iff_not, Bool.not_eq_true', Bool.not_eq_false', Bool.not_eq_true, Bool.not_eq_false, Bool.true_eq_false, Bool.false_eq_true, not_false_eq_true, not_true_eq_false] at h37)
            refine HO_no rfl rfl rfl ?_
            refine HO_no rfl rfl rfl ?_
            refine HO_no rfl rfl rfl ?_
            refine HO_pick_f rfl rfl rfl rfl ?_
            refine HO_move rfl rfl rfl ?_
            refine HO_no rfl rfl rfl ?_
            refine HO_no rfl rfl rfl ?_
            refine HO_pick_f rfl rfl rfl rfl ?_
            refine HO_assign rfl rfl rfl ?_
            refine HO_nil ?_
            refine H_env (ρ' := [(2, _)]) ⟨rfl, trivial⟩ ?_
            refine H_world (fun _ hA => hA.drop (is := [0, 1, 2, 3]) (Y := [_, _, _, _]) (Z := []) rfl) ?_
            -- end6
            refine H_ret1 Try.results16 (.tmp rfl) (fun w hA => ⟨(), congrArg Ending.returned ?_, ?_, ?_⟩)
            · (exact congrArg Value.bool (by first | (simp [Cmd.good, Cmd.part, Cmd.fit, Cmd.eqv, Cmd.base, Cmd.empty, *]; done) | (simp [Cmd.good, Cmd.part, Cmd.fit, Cmd.eqv, Cmd.base, Cmd.empty, *]; rfl) | (simp_all [Cmd.good, Cmd.part, Cmd.fit, Cmd.eqv, Cmd.base, Cmd.empty]; done) | (simp_all [Cmd.good, Cmd.part, Cmd.fit, Cmd.eqv, Cmd.base, Cmd.empty]; rfl)))
            · trivial
            · exact hA.only (is := []) (Z := []) rfl
        · intro h32
          (try simp only [decide_eq_true_eq, decide_eq_false_iff_not, Bool.not_eq_true', Bool.not_eq_false', Bool.not_eq_true, Bool.not_eq_false, Bool.true_eq_false, Bool.false_eq_true, not_false_eq_true, not_true_eq_false] at h32)
          refine HO_no rfl rfl rfl ?_
          refine HO_no rfl rfl rfl ?_
          refine HO_no rfl rfl rfl ?_
          refine HO_pick_f rfl rfl rfl rfl ?_
          refine HO_move rfl rfl rfl ?_
          refine HO_no rfl rfl rfl ?_
          refine HO_no rfl rfl rfl ?_
          refine HO_no rfl rfl rfl ?_
          refine HO_pick_f rfl rfl rfl rfl ?_
          refine HO_move rfl rfl rfl ?_
          refine HO_no rfl rfl rfl ?_
          refine HO_no rfl rfl rfl ?_
          refine HO_pick_f rfl rfl rfl rfl ?_
          refine HO_assign rfl rfl rfl ?_
          refine HO_nil ?_
          refine H_env (ρ' := [(2, _)]) ⟨rfl, trivial⟩ ?_
          refine H_world (fun _ hA => hA.drop (is := [0, 1, 2, 3]) (Y := [_, _, _, _]) (Z := []) rfl) ?_
          -- end7
          refine H_ret1 Try.results16 (.tmp rfl) (fun w hA => ⟨(), congrArg Ending.returned ?_, ?_, ?_⟩)
          · (exact congrArg Value.bool (by first | (simp [Cmd.good, Cmd.part, Cmd.fit, Cmd.eqv, Cmd.base, Cmd.empty, *]; done) | (simp [Cmd.good, Cmd.part, Cmd.fit, Cmd.eqv, Cmd.base, Cmd.empty, *]; rfl) | (simp_all [Cmd.good, Cmd.part, Cmd.fit, Cmd.eqv, Cmd.base, Cmd.empty]; done) | (simp_all [Cmd.good, Cmd.part, Cmd.fit, Cmd.eqv, Cmd.base, Cmd.empty]; rfl)))
          · trivial
          · exact hA.only (is := []) (Z := []) rfl
      · skip
        subst hc
        -- R6 command.go:45
        refine H_region (l := [_, _, _, _, _, _, _, _]) rfl ?_
        refine HO_loadA (i := 0) (us := []) (cs := [_, _, _, _, _, _, _, _]) (ts := []) rfl rfl rfl Try.isAgg23 Try.sizeOf23 rfl (.loc _ _ _) rfl rfl rfl rfl ?_
        refine HO_call (first := []) (capt := []) (is := []) (R := [_]) rfl rfl rfl rfl rfl Try.call64 rfl (fits_4 _ _ _ _ _ _ _) ?_
        intro y26 hy26
        refine HO_move rfl rfl rfl ?_
        refine HO_extract (vs := [_, _]) rfl rfl rfl rfl ?_
        refine HO_extract (vs := [_, _]) rfl rfl rfl rfl ?_
        refine HO_alloc (cs := [_, _, _, _, _, _, _, _]) rfl rfl Try.zeroValue23 rfl ?_
        intro g3
        refine HO_store (i := 0) (j := 0) (us := []) (old := [_, _, _, _, _, _, _, _]) (ts := []) (cs := [_, _, _, _, _, _, _, _]) (R := [_, _]) (new := [_, _, _, _, _, _, _, _]) rfl rfl rfl Try.sizeOf23 rfl (by simp [Value.oneCell']) rfl rfl rfl rfl rfl rfl ?_
        refine HO_assign rfl rfl rfl ?_
        refine HO_nil ?_
        refine H_env (ρ' := [(4, _), (3, _), (1, _)]) ⟨rfl, rfl, rfl, trivial⟩ ?_
        refine H_seq ?_
        -- R7 command.go:46
        refine H_region (l := [_, _, _, _, _, _, _, _, _, _, _, _, _, _, _, _, _, _]) rfl ?_
        refine HO_loadA (i := 2) (us := []) (cs := [_, _, _, _, _, _, _, _]) (ts := []) rfl rfl rfl Try.isAgg23 Try.sizeOf23 rfl (.loc _ _ _) rfl rfl rfl rfl ?_
        refine HO_loadA (i := 0) (us := []) (cs := [_, _, _, _, _, _, _, _]) (ts := []) rfl rfl rfl Try.isAgg23 Try.sizeOf23 rfl (.loc _ _ _) rfl rfl rfl rfl ?_
        refine HO_bin rfl rfl rfl rfl eq23_eql ?_
        refine HO_move rfl rfl rfl ?_
        refine HO_split (d := 32) rfl ?_ ?_
        · intro h32
          (try simp only [decide_eq_true_eq, decide_eq_false_iff_not, Bool.not_eq_true', Bool.not_eq_false', Bool.not_eq_true, Bool.not_eq_false, Bool.true_eq_false, Bool.false_eq_true, not_false_eq_true, not_true_eq_false] at h32)
          refine HO_fieldAddr (r := 1) rfl rfl rfl Try.underlying23 rfl Try.sizeOf3 rfl ?_
          refine HO_load1 (i := 2) (j := 1) rfl rfl rfl Try.isAgg3 rfl (.loc _ _ _) rfl rfl ?_
          refine HO_bin rfl rfl rfl rfl bin_gtr ?_
          refine HO_pick_t rfl rfl rfl rfl ?_
          refine HO_move rfl rfl rfl ?_
          refine HO_split (d := 37) rfl ?_ ?_
          · intro h37
            (try simp only [decide_eq_true_eq, decide_eq_false_iff_not, Bool.not_eq_true', Bool.not_eq_false', Bool.not_eq_true, Bool.not_eq_false, Bool.true_eq_false, Bool.false_eq_true, not_false_eq_true, not_true_eq_false] at h37)
            refine HO_fieldAddr (r := 2) rfl rfl rfl Try.underlying23 rfl Try.sizeOf3 rfl ?_
            refine HO_load1 (i := 2) (j := 2) rfl rfl rfl Try.isAgg3 rfl (.loc _ _ _) rfl rfl ?_
            refine HO_bin rfl rfl rfl rfl bin_gtr ?_
            refine HO_pick_t rfl rfl rfl rfl ?_
            refine HO_move rfl rfl rfl ?_
            refine HO_split (d := 42) rfl ?_ ?_
            · intro h42
              (try simp only [decide_eq_true_eq, decide_eq_false_iff_not, Bool.not_eq_true', Bool.not_eq_false', Bool.not_eq_true, Bool.not_eq_false, Bool.true_eq_false, Bool.false_eq_true, not_false_eq_true, not_true_eq_false] at h42)
              refine HO_move rfl rfl rfl ?_
              refine HO_call (first := []) (capt := [_]) (is := [1]) (R := [_, _]) rfl rfl rfl rfl rfl Try.call116 rfl (fits1_spec _ _ _ _ _ _ _ _ _) ?_
              intro y44 hy44
              clear y44 hy44
              refine HO_pick_t rfl rfl rfl rfl ?_
              refine HO_assign rfl rfl rfl ?_
              refine HO_nil ?_
              refine H_env (ρ' := [(2, _)]) ⟨rfl, trivial⟩ ?_
              refine H_world (fun _ hA => hA.drop (is := [0, 1, 2]) (Y := [_, _, _]) (Z := []) rfl) ?_
              -- end8
              refine H_ret1 Try.results16 (.tmp rfl) (fun w hA => ⟨(), congrArg Ending.returned ?_, ?_, ?_⟩)
              · (exact congrArg Value.bool (by first | (simp [Cmd.good, Cmd.part, Cmd.fit, Cmd.eqv, Cmd.base, Cmd.empty, *]; done) | (simp [Cmd.good, Cmd.part, Cmd.fit, Cmd.eqv, Cmd.base, Cmd.empty, *]; rfl) | (simp_all [Cmd.good, Cmd.part, Cmd.fit, Cmd.eqv, Cmd.base, Cmd.empty]; done) | (simp_all [Cmd.good, Cmd.part, Cmd.fit, Cmd.eqv, Cmd.base, Cmd.empty]; rfl)))
              · trivial
              · exact hA.only (is := []) (Z := []) rfl
            · intro h42
              (try simp only [decide_eq_true_eq, decide_eq_false_iff_not, Bool.not_eq_true', Bool.not_eq_false', Bool.not_eq_true, Bool.not_eq_false, Bool.true_eq_false, Bool.false_eq_true, not_false_eq_true, not_true_eq_false] at h42)
              refine HO_no rfl rfl rfl ?_
              refine HO_no rfl rfl rfl ?_
              refine HO_pick_f rfl rfl rfl rfl ?_
              refine HO_assign rfl rfl rfl ?_
              refine HO_nil ?_
              refine H_env (ρ' := [(2, _)]) ⟨rfl, trivial⟩ ?_
              refine H_world (fun _ hA => hA.drop (is := [0, 1, 2]) (Y := [_, _, _]) (Z := []) rfl) ?_
              -- end9
              refine H_ret1 Try.results16 (.tmp rfl) (fun w hA => ⟨(), congrArg Ending.returned ?_, ?_, ?_⟩)
              · (exact congrArg Value.bool (by first | (simp [Cmd.good, Cmd.part, Cmd.fit, Cmd.eqv, Cmd.base, Cmd.empty, *]; done) | (simp [Cmd.good, Cmd.part, Cmd.fit, Cmd.eqv, Cmd.base, Cmd.empty, *]; rfl) | (simp_all [Cmd.good, Cmd.part, Cmd.fit, Cmd.eqv, Cmd.base, Cmd.empty]; done) | (simp_all [Cmd.good, Cmd.part, Cmd.fit, Cmd.eqv, Cmd.base, Cmd.empty]; rfl)))
              · trivial
              · exact hA.only (is := []) (Z := []) rfl
          · intro h37
            (try simp only [decide_eq_true_eq, decide_eq_false_iff_not, Bool.not_eq_true', Bool.not_eq_false', Bool.not_eq_true, Bool.not_eq_false, Bool.true_eq_false, Bool.false_eq_true, not_false_eq_true, not_true_eq_false] at h37)
            refine HO_no rfl rfl rfl ?_
            refine HO_no rfl rfl rfl ?_
            refine HO_no rfl rfl rfl ?_
            refine HO_pick_f rfl rfl rfl rfl ?_
            refine HO_move rfl rfl rfl ?_
            refine HO_no rfl rfl rfl ?_
            refine HO_no rfl rfl rfl ?_
            refine HO_pick_f rfl rfl rfl rfl ?_
            refine HO_assign rfl rfl rfl ?_
            refine HO_nil ?_
            refine H_env (ρ' := [(2, _)]) ⟨rfl, trivial⟩ ?_
            refine H_world (fun _ hA => hA.drop (is := [0, 1, 2]) (Y := [_, _, _]) (Z := []) rfl) ?_
            -- end10
            refine H_ret1 Try.results16 (.tmp rfl) (fun w hA => ⟨(), congrArg Ending.returned ?_, ?_, ?_⟩)
            · (exact congrArg Value.bool (by first | (simp [Cmd.good, Cmd.part, Cmd.fit, Cmd.eqv, Cmd.base, Cmd.empty, *]; done) | (simp [Cmd.good, Cmd.part, Cmd.fit, Cmd.eqv, Cmd.base, Cmd.empty, *]; rfl) | (simp_all [Cmd.good, Cmd.part, Cmd.fit, Cmd.eqv, Cmd.base, Cmd.empty]; done) | (simp_all [Cmd.good, Cmd.part, Cmd.fit, Cmd.eqv, Cmd.base, Cmd.empty]; rfl)))
            · trivial
            · exact hA.only (is := []) (Z := []) rfl
        · intro h32
          (try simp only [decide_eq_true_eq, decide_eq_false_iff_not, Bool.not_eq_true', Bool.not_eq_false', Bool.not_eq_true, Bool.not_eq_false, Bool.true_eq_false, Bool.false_eq_true, not_false_eq_true, not_true_eq_false] at h32)
          refine HO_no rfl rfl rfl ?_
          refine HO_no rfl rfl rfl ?_
          refine HO_no rfl rfl rfl ?_
          refine HO_pick_f rfl rfl rfl rfl ?_
          refine HO_move rfl rfl rfl ?_
          refine HO_no rfl rfl rfl ?_
          refine HO_no rfl rfl rfl ?_
          refine HO_no rfl rfl rfl ?_
          refine HO_pick_f rfl rfl rfl rfl ?_
          refine HO_move rfl rfl rfl ?_
          refine HO_no rfl rfl rfl ?_
          refine HO_no rfl rfl rfl ?_
          refine HO_pick_f rfl rfl rfl rfl ?_
          refine HO_assign rfl rfl rfl ?_
          refine HO_nil ?_
          refine H_env (ρ' := [(2, _)]) ⟨rfl, trivial⟩ ?_
          refine H_world (fun _ hA => hA.drop (is := [0, 1, 2]) (Y := [_, _, _]) (Z := []) rfl) ?_
          -- end11
          refine H_ret1 Try.results16 (.tmp rfl) (fun w hA => ⟨(), congrArg Ending.returned ?_, ?_, ?_⟩)
          · (exact congrArg Value.bool (by first | (simp [Cmd.good, Cmd.part, Cmd.fit, Cmd.eqv, Cmd.base, Cmd.empty, *]; done) | (simp [Cmd.good, Cmd.part, Cmd.fit, Cmd.eqv, Cmd.base, Cmd.empty, *]; rfl) | (simp_all [Cmd.good, Cmd.part, Cmd.fit, Cmd.eqv, Cmd.base, Cmd.empty]; done) | (simp_all [Cmd.good, Cmd.part, Cmd.fit, Cmd.eqv, Cmd.base, Cmd.empty]; rfl)))
          · trivial
          · exact hA.only (is := []) (Z := []) rfl
      · skip
        subst hc
        -- R6 command.go:45
        refine H_region (l := [_, _, _, _, _, _, _, _]) rfl ?_
        refine HO_loadA (i := 0) (us := []) (cs := [_, _, _, _, _, _, _, _]) (ts := []) rfl rfl rfl Try.isAgg23 Try.sizeOf23 rfl (.loc _ _ _) rfl rfl rfl rfl ?_
        refine HO_call (first := []) (capt := []) (is := []) (R := [_]) rfl rfl rfl rfl rfl Try.call64 rfl (fits_5 _ _ _ _ _ _ _) ?_
        intro y26 hy26
        refine HO_move rfl rfl rfl ?_
        refine HO_extract (vs := [_, _]) rfl rfl rfl rfl ?_
        refine HO_extract (vs := [_, _]) rfl rfl rfl rfl ?_
        refine HO_alloc (cs := [_, _, _, _, _, _, _, _]) rfl rfl Try.zeroValue23 rfl ?_
        intro g3
        refine HO_store (i := 0) (j := 0) (us := []) (old := [_, _, _, _, _, _, _, _]) (ts := []) (cs := [_, _, _, _, _, _, _, _]) (R := [_, _]) (new := [_, _, _, _, _, _, _, _]) rfl rfl rfl Try.sizeOf23 rfl (by simp [Value.oneCell']) rfl rfl rfl rfl rfl rfl ?_
        refine HO_assign rfl rfl rfl ?_
        refine HO_nil ?_
        refine H_env (ρ' := [(4, _), (3, _), (1, _)]) ⟨rfl, rfl, rfl, trivial⟩ ?_
        refine H_seq ?_
        -- R7 command.go:46
        refine H_region (l := [_, _, _, _, _, _, _, _, _, _, _, _, _, _, _, _, _, _]) rfl ?_
        refine HO_loadA (i := 2) (us := []) (cs := [_, _, _, _, _, _, _, _]) (ts := []) rfl rfl rfl Try.isAgg23 Try.sizeOf23 rfl (.loc _ _ _) rfl rfl rfl rfl ?_
        refine HO_loadA (i := 0) (us := []) (cs := [_, _, _, _, _, _, _, _]) (ts := []) rfl rfl rfl Try.isAgg23 Try.sizeOf23 rfl (.loc _ _ _) rfl rfl rfl rfl ?_
        refine HO_bin rfl rfl rfl rfl eq23_eql ?_
        refine HO_move rfl rfl rfl ?_
        refine HO_split (d := 32) rfl ?_ ?_
        · intro h32
          (try simp only [decide_eq_true_eq, decide_eq_false_iff_not, Bool.not_eq_true', Bool.not_eq_false', Bool.not_eq_true, Bool.not_eq_false, Bool.true_eq_false, Bool.false_eq_true, not_false_eq_true, not_true_eq_false] at h32)
          refine HO_fieldAddr (r := 1) rfl rfl rfl Try.underlying23 rfl Try.sizeOf3 rfl ?_
          refine HO_load1 (i := 2) (j := 1) rfl rfl rfl Try.isAgg3 rfl (.loc _ _ _) rfl rfl ?_
          refine HO_bin rfl rfl rfl rfl bin_gtr ?_
          refine HO_pick_t rfl rfl rfl rfl ?_
          refine HO_move rfl rfl rfl ?_
          refine HO_split (d := 37) rfl ?_ ?_
          · intro h37
            (try simp only [decide_eq_true_eq, decide_eq_false_iff_not, Bool.not_eq_true', Bool.not_eq_false', Bool.not_eq_true, Bool.not_eq_false, Bool.true_eq_false, Bool.false_eq_true, not_false_eq_true, not_true_eq_false] at h37)
            refine HO_fieldAddr (r := 2) rfl rfl rfl Try.underlying23 rfl Try.sizeOf3 rfl ?_
            refine HO_load1 (i := 2) (j := 2) rfl rfl rfl Try.isAgg3 rfl (.loc _ _ _) rfl rfl ?_
            refine HO_bin rfl rfl rfl rfl bin_gtr ?_
            refine HO_pick_t rfl rfl rfl rfl ?_
            refine HO_move rfl rfl rfl ?_
            refine HO_split (d := 42) rfl ?_ ?_
            · intro h42
              (try simp only [decide_eq_true_eq, decide_eq_false_iff_not, Bool.not_eq_true', Bool.not_eq_false', Bool.not_eq_true, Bool.not_eq_false, Bool.true_eq_false, Bool.false_eq_true, not_false_eq_true, not_true_eq_false] at h42)
              refine HO_move rfl rfl rfl ?_
              refine HO_call (first := []) (capt := [_]) (is := [1]) (R := [_, _]) rfl rfl rfl rfl rfl Try.call116 rfl (fits1_spec _ _ _ _ _ _ _ _ _) ?_
              intro y44 hy44
              clear y44 hy44
              refine HO_pick_t rfl rfl rfl rfl ?_
              refine HO_assign rfl rfl rfl ?_
              refine HO_nil ?_
              refine H_env (ρ' := [(2, _)]) ⟨rfl, trivial⟩ ?_
              refine H_world (fun _ hA => hA.drop (is := [0, 1, 2]) (Y := [_, _, _]) (Z := []) rfl) ?_
              -- end12
              refine H_ret1 Try.results16 (.tmp rfl) (fun w hA => ⟨(), congrArg Ending.returned ?_, ?_, ?_⟩)
              · (exact congrArg Value.bool (by first | (simp [Cmd.good, Cmd.part, Cmd.fit, Cmd.eqv, Cmd.base, Cmd.empty, *]; done) | (simp [Cmd.good, Cmd.part, Cmd.fit, Cmd.eqv, Cmd.base, Cmd.empty, *]; rfl) | (simp_all [Cmd.good, Cmd.part, Cmd.fit, Cmd.eqv, Cmd.base, Cmd.empty]; done) | (simp_all [Cmd.good, Cmd.part, Cmd.fit, Cmd.eqv, Cmd.base, Cmd.empty]; rfl)))
              · trivial
              · exact hA.only (is := []) (Z := []) rfl
            · intro h42
              (try simp only [decide_eq_true_eq, decide_eq_false_iff_not, Bool.not_eq_true', Bool.not_eq_false', Bool.not_eq_true, Bool.not_eq_false, Bool.true_eq_false, Bool.false_eq_true, not_false_eq_true, not_true_eq_false] at h42)
              refine HO_no rfl rfl rfl ?_
              refine HO_no rfl rfl rfl ?_
              refine HO_pick_f rfl rfl rfl rfl ?_
              refine HO_assign rfl rfl rfl ?_
              refine HO_nil ?_
              refine H_env (ρ' := [(2, _)]) ⟨rfl, trivial⟩ ?_
              refine H_world (fun _ hA => hA.drop (is := [0, 1, 2]) (Y := [_, _, _]) (Z := []) rfl) ?_
              -- end13
              refine H_ret1 Try.results16 (.tmp rfl) (fun w hA => ⟨(), congrArg Ending.returned ?_, ?_, ?_⟩)
              · (exact congrArg Value.bool (by first | (simp [Cmd.good, Cmd.part, Cmd.fit, Cmd.eqv, Cmd.base, Cmd.empty, *]; done) | (simp [Cmd.good, Cmd.part, Cmd.fit, Cmd.eqv, Cmd.base, Cmd.empty, *]; rfl) | (simp_all [Cmd.good, Cmd.part, Cmd.fit, Cmd.eqv, Cmd.base, Cmd.empty]; done) | (simp_all [Cmd.good, Cmd.part, Cmd.fit, Cmd.eqv, Cmd.base, Cmd.empty]; rfl)))
              · trivial
              · exact hA.only (is := []) (Z := []) rfl
          · intro h37
            (try simp only [decide_eq_true_eq, decide_eq_false_iff_not, Bool.not_eq_true', Bool.not_eq_false', Bool.not_eq_true, Bool.not_eq_false, Bool.true_eq_false, Bool.false_eq_true, not_false_eq_true, not_true_eq_false] at h37)
            refine HO_no rfl rfl rfl ?_
            refine HO_no rfl rfl rfl ?_
            refine HO_no rfl rfl rfl ?_
            refine HO_pick_f rfl rfl rfl rfl ?_
            refine HO_move rfl rfl rfl ?_
            refine HO_no rfl rfl rfl ?_
            refine HO_no rfl rfl rfl ?_
            refine HO_pick_f rfl rfl rfl rfl ?_
            refine HO_assign rfl rfl rfl ?_
            refine HO_nil ?_
            refine H_env (ρ' := [(2, _)]) ⟨rfl, trivial⟩ ?_
            refine H_world (fun _ hA => hA.drop (is := [0, 1, 2]) (Y := [_, _, _]) (Z := []) rfl) ?_
            -- end14
            refine H_ret1 Try.results16 (.tmp rfl) (fun w hA => ⟨(), congrArg Ending.returned ?_, ?_, ?_⟩)
            · (exact congrArg Value.bool (by first | (simp [Cmd.good, Cmd.part, Cmd.fit, Cmd.eqv, Cmd.base, Cmd.empty, *]; done) | (simp [Cmd.good, Cmd.part, Cmd.fit, Cmd.eqv, Cmd.base, Cmd.empty, *]; rfl) | (simp_all [Cmd.good, Cmd.part, Cmd.fit, Cmd.eqv, Cmd.base, Cmd.empty]; done) | (simp_all [Cmd.good, Cmd.part, Cmd.fit, Cmd.eqv, Cmd.base, Cmd.empty]; rfl)))
            · trivial
            · exact hA.only (is := []) (Z := []) rfl
        · intro h32
          (try simp only [decide_eq_true_eq, decide_eq_false_iff_not, Bool.not_eq_true', Bool.not_eq_false', Bool.not_eq_true, Bool.not_eq_false, Bool.true_eq_false, Bool.false_eq_true, not_false_eq_true, not_true_eq_false] at h32)
          refine HO_no rfl rfl rfl ?_
          refine HO_no rfl rfl rfl ?_
          refine HO_no rfl rfl rfl ?_
          refine HO_pick_f rfl rfl rfl rfl ?_
          refine HO_move rfl rfl rfl ?_
          refine HO_no rfl rfl rfl ?_
          refine HO_no rfl rfl rfl ?_
          refine HO_no rfl rfl rfl ?_
          refine HO_pick_f rfl rfl rfl rfl ?_
          refine HO_move rfl rfl rfl ?_
          refine HO_no rfl rfl rfl ?_
          refine HO_no rfl rfl rfl ?_
          refine HO_pick_f rfl rfl rfl rfl ?_
          refine HO_assign rfl rfl rfl ?_
          refine HO_nil ?_
          refine H_env (ρ' := [(2, _)]) ⟨rfl, trivial⟩ ?_
          refine H_world (fun _ hA => hA.drop (is := [0, 1, 2]) (Y := [_, _, _]) (Z := []) rfl) ?_
          -- end15
          refine H_ret1 Try.results16 (.tmp rfl) (fun w hA => ⟨(), congrArg Ending.returned ?_, ?_, ?_⟩)
          · (exact congrArg Value.bool (by first | (simp [Cmd.good, Cmd.part, Cmd.fit, Cmd.eqv, Cmd.base, Cmd.empty, *]; done) | (simp [Cmd.good, Cmd.part, Cmd.fit, Cmd.eqv, Cmd.base, Cmd.empty, *]; rfl) | (simp_all [Cmd.good, Cmd.part, Cmd.fit, Cmd.eqv, Cmd.base, Cmd.empty]; done) | (simp_all [Cmd.good, Cmd.part, Cmd.fit, Cmd.eqv, Cmd.base, Cmd.empty]; rfl)))
          · trivial
          · exact hA.only (is := []) (Z := []) rfl
      · skip
        subst hc
        -- R6 command.go:45
        refine H_region (l := [_, _, _, _, _, _, _, _]) rfl ?_
        refine HO_loadA (i := 0) (us := []) (cs := [_, _, _, _, _, _, _, _]) (ts := []) rfl rfl rfl Try.isAgg23 Try.sizeOf23 rfl (.loc _ _ _) rfl rfl rfl rfl ?_
        refine HO_call (first := []) (capt := []) (is := []) (R := [_]) rfl rfl rfl rfl rfl Try.call64 rfl (fits_6 _ _ _ _ _ _ _) ?_
        intro y26 hy26
        refine HO_move rfl rfl rfl ?_
        refine HO_extract (vs := [_, _]) rfl rfl rfl rfl ?_
        refine HO_extract (vs := [_, _]) rfl rfl rfl rfl ?_
        refine HO_alloc (cs := [_, _, _, _, _, _, _, _]) rfl rfl Try.zeroValue23 rfl ?_
        intro g3
        refine HO_store (i := 0) (j := 0) (us := []) (old := [_, _, _, _, _, _, _, _]) (ts := []) (cs := [_, _, _, _, _, _, _, _]) (R := [_, _, _]) (new := [_, _, _, _, _, _, _, _]) rfl rfl rfl Try.sizeOf23 rfl (by simp [Value.oneCell']) rfl rfl rfl rfl rfl rfl ?_
        refine HO_assign rfl rfl rfl ?_
        refine HO_nil ?_
        refine H_env (ρ' := [(4, _), (3, _), (1, _)]) ⟨rfl, rfl, rfl, trivial⟩ ?_
        refine H_seq ?_
        -- R7 command.go:46
        refine H_region (l := [_, _, _, _, _, _, _, _, _, _, _, _, _, _, _, _, _, _]) rfl ?_
        refine HO_loadA (i := 3) (us := []) (cs := [_, _, _, _, _, _, _, _]) (ts := []) rfl rfl rfl Try.isAgg23 Try.sizeOf23 rfl (.loc _ _ _) rfl rfl rfl rfl ?_
        refine HO_loadA (i := 0) (us := []) (cs := [_, _, _, _, _, _, _, _]) (ts := []) rfl rfl rfl Try.isAgg23 Try.sizeOf23 rfl (.loc _ _ _) rfl rfl rfl rfl ?_
        refine HO_bin rfl rfl rfl rfl eq23_eql ?_
        refine HO_move rfl rfl rfl ?_
        refine HO_split (d := 32) rfl ?_ ?_
        · intro h32
          (try simp only [decide_eq_true_eq, decide_eq_false_iff_not, Bool.not_eq_true', Bool.not_eq_false', Bool.not_eq_true, Bool.not_eq_false, Bool.true_eq_false, Bool.false_eq_true, not_false_eq_true, not_true_eq_false] at h32)
          refine HO_fieldAddr (r := 1) rfl rfl rfl Try.underlying23 rfl Try.sizeOf3 rfl ?_
          refine HO_load1 (i := 3) (j := 1) rfl rfl rfl Try.isAgg3 rfl (.loc _ _ _) rfl rfl ?_
          refine HO_bin rfl rfl rfl rfl bin_gtr ?_
          refine HO_pick_t rfl rfl rfl rfl ?_
          refine HO_move rfl rfl rfl ?_
          refine HO_split (d := 37) rfl ?_ ?_
          · intro h37
            (try simp only [decide_eq_true_eq, decide_eq_false_iff_not, Bool.not_eq_true', Bool.not_eq_false', Bool.not_eq_true, Bool.not_eq_false, Bool.true_eq_false, Bool.false_eq_true, not_false_eq_true, not_true_eq_false] at h37)
            refine HO_fieldAddr (r := 2) rfl rfl rfl Try.underlying23 rfl Try.sizeOf3 rfl ?_
            refine HO_load1 (i := 3) (j := 2) rfl rfl rfl Try.isAgg3 rfl (.loc _ _ _) rfl rfl ?_
            refine HO_bin rfl rfl rfl rfl bin_gtr ?_
            refine HO_pick_t rfl rfl rfl rfl ?_
            refine HO_move rfl rfl rfl ?_
            refine HO_split (d := 42) rfl ?_ ?_
            · intro h42
              (try simp only [decide_eq_true_eq, decide_eq_false_iff_not, Bool.not_eq_true', Bool.not_eq_false', Bool.not_eq_true, Bool.not_eq_false, Bool.true_eq_false, Bool.false_eq_true, not_false_eq_true, not_true_eq_false] at h42)
              refine HO_move rfl rfl rfl ?_
              refine HO_call (first := []) (capt := [_, _]) (is := [1, 2]) (R := [_, _]) rfl rfl rfl rfl rfl Try.call120 rfl (fits3_spec _ _ _ _ _ _ _ _ _ _) ?_
              intro y44 hy44
              clear y44 hy44
              refine HO_pick_t rfl rfl rfl rfl ?_
              refine HO_assign rfl rfl rfl ?_
              refine HO_nil ?_
              refine H_env (ρ' := [(2, _)]) ⟨rfl, trivial⟩ ?_
              refine H_world (fun _ hA => hA.drop (is := [0, 1, 2, 3]) (Y := [_, _, _, _]) (Z := []) rfl) ?_
              -- end16
              refine H_ret1 Try.results16 (.tmp rfl) (fun w hA => ⟨(), congrArg Ending.returned ?_, ?_, ?_⟩)
              · (exact congrArg Value.bool (by first | (simp [Cmd.good, Cmd.part, Cmd.fit, Cmd.eqv, Cmd.base, Cmd.empty, *]; done) | (simp [Cmd.good, Cmd.part, Cmd.fit, Cmd.eqv, Cmd.base, Cmd.empty, *]; rfl) | (simp_all [Cmd.good, Cmd.part, Cmd.fit, Cmd.eqv, Cmd.base, Cmd.empty]; done) | (simp_all [Cmd.good, Cmd.part, Cmd.fit, Cmd.eqv, Cmd.base, Cmd.empty]; rfl)))
              · trivial
              · exact hA.only (is := []) (Z := []) rfl
            · intro h42
              (try simp only [decide_eq_true_eq, decide_eq_false_iff_not, Bool.not_eq_true', Bool.not_eq_false', Bool.not_eq_true, Bool.not_eq_false, Bool.true_eq_false, Bool.false_eq_true, not_false_eq_true, not_true_eq_false] at h42)
              refine HO_no rfl rfl rfl ?_
              refine HO_no rfl rfl rfl ?_
              refine HO_pick_f rfl rfl rfl rfl ?_
              refine HO_assign rfl rfl rfl ?_
              refine HO_nil ?_
              refine H_env (ρ' := [(2, _)]) ⟨rfl, trivial⟩ ?_
              refine H_world (fun _ hA => hA.drop (is := [0, 1, 2, 3]) (Y := [_, _, _, _]) (Z := []) rfl) ?_
              -- end17
              refine H_ret1 Try.results16 (.tmp rfl) (fun w hA => ⟨(), congrArg Ending.returned ?_, ?_, ?_⟩)
              · (exact congrArg Value.bool (by first | (simp [Cmd.good, Cmd.part, Cmd.fit, Cmd.eqv, Cmd.base, Cmd.empty, *]; done) | (simp [Cmd.good, Cmd.part, Cmd.fit, Cmd.eqv, Cmd.base, Cmd.empty, *]; rfl) | (simp_all [Cmd.good, Cmd.part, Cmd.fit, Cmd.eqv, Cmd.base, Cmd.empty]; done) | (simp_all [Cmd.good, Cmd.part, Cmd.fit, Cmd.eqv, Cmd.base, Cmd.empty]; rfl)))
              · trivial
              · exact hA.only (is := []) (Z := []) rfl
          · intro h37
            (try simp only [decide_eq_true_eq, decide_eq_false_iff_not, Bool.not_eq_true', Bool.not_eq_false', Bool.not_eq_true, Bool.not_eq_false, Bool.true_eq_false, Bool.false_eq_true, not_false_eq_true, not_true_eq_false] at h37)
            refine HO_no rfl rfl rfl ?_
            refine HO_no rfl rfl rfl ?_
            refine HO_no rfl rfl rfl ?_
            refine HO_pick_f rfl rfl rfl rfl ?_
            refine HO_move rfl rfl rfl ?_
            refine HO_no rfl rfl rfl ?_
            refine HO_no rfl rfl rfl ?_
            refine HO_pick_f rfl rfl rfl rfl ?_
            refine HO_assign rfl rfl rfl ?_
            refine HO_nil ?_
            refine H_env (ρ' := [(2, _)]) ⟨rfl, trivial⟩ ?_
            refine H_world (fun _ hA => hA.drop (is := [0, 1, 2, 3]) (Y := [_, _, _, _]) (Z := []) rfl) ?_
            -- end18
            refine H_ret1 Try.results16 (.tmp rfl) (fun w hA => ⟨(), congrArg Ending.returned ?_, ?_, ?_⟩)
            · (exact congrArg Value.bool (by first | (simp [Cmd.good, Cmd.part, Cmd.fit, Cmd.eqv, Cmd.base, Cmd.empty, *]; done) | (simp [Cmd.good, Cmd.part, Cmd.fit, Cmd.eqv, Cmd.base, Cmd.empty, *]; rfl) | (simp_all [Cmd.good, Cmd.part, Cmd.fit, Cmd.eqv, Cmd.base, Cmd.empty]; done) | (simp_all [Cmd.good, Cmd.part, Cmd.fit, Cmd.eqv, Cmd.base, Cmd.empty]; rfl)))
            · trivial
            · exact hA.only (is := []) (Z := []) rfl
        · intro h32
          (try simp only [decide_eq_true_eq, decide_eq_false_iff_not, Bool.not_eq_true', Bool.not_eq_false', Bool.not_eq_true, Bool.not_eq_false, Bool.true_eq_false, Bool.false_eq_true, not_false_eq_true, not_true_eq_false] at h32)
          refine HO_no rfl rfl rfl ?_
          refine HO_no rfl rfl rfl ?_
          refine HO_no rfl rfl rfl ?_
          refine HO_pick_f rfl rfl rfl rfl ?_
          refine HO_move rfl rfl rfl ?_
          refine HO_no rfl rfl rfl ?_
          refine HO_no rfl rfl rfl ?_
          refine HO_no rfl rfl rfl ?_
          refine HO_pick_f rfl rfl rfl rfl ?_
          refine HO_move rfl rfl rfl ?_
          refine HO_no rfl rfl rfl ?_
          refine HO_no rfl rfl rfl ?_
          refine HO_pick_f rfl rfl rfl rfl ?_
          refine HO_assign rfl rfl rfl ?_
          refine HO_nil ?_
          refine H_env (ρ' := [(2, _)]) ⟨rfl, trivial⟩ ?_
          refine H_world (fun _ hA => hA.drop (is := [0, 1, 2, 3]) (Y := [_, _, _, _]) (Z := []) rfl) ?_
          -- end19
          refine H_ret1 Try.results16 (.tmp rfl) (fun w hA => ⟨(), congrArg Ending.returned ?_, ?_, ?_⟩)
          · (exact congrArg Value.bool (by first | (simp [Cmd.good, Cmd.part, Cmd.fit, Cmd.eqv, Cmd.base, Cmd.empty, *]; done) | (simp [Cmd.good, Cmd.part, Cmd.fit, Cmd.eqv, Cmd.base, Cmd.empty, *]; rfl) | (simp_all [Cmd.good, Cmd.part, Cmd.fit, Cmd.eqv, Cmd.base, Cmd.empty]; done) | (simp_all [Cmd.good, Cmd.part, Cmd.fit, Cmd.eqv, Cmd.base, Cmd.empty]; rfl)))
          · trivial
          · exact hA.only (is := []) (Z := []) rfl
      · skip
        subst hc
        -- R6 command.go:45
        refine H_region (l := [_, _, _, _, _, _, _, _]) rfl ?_
        refine HO_loadA (i := 0) (us := []) (cs := [_, _, _, _, _, _, _, _]) (ts := []) rfl rfl rfl Try.isAgg23 Try.sizeOf23 rfl (.loc _ _ _) rfl rfl rfl rfl ?_
        refine HO_call (first := []) (capt := []) (is := []) (R := [_]) rfl rfl rfl rfl rfl Try.call64 rfl (fits_7 _ _ _ _ _ _ _) ?_
        intro y26 hy26
        refine HO_move rfl rfl rfl ?_
        refine HO_extract (vs := [_, _]) rfl rfl rfl rfl ?_
        refine HO_extract (vs := [_, _]) rfl rfl rfl rfl ?_
        refine HO_alloc (cs := [_, _, _, _, _, _, _, _]) rfl rfl Try.zeroValue23 rfl ?_
        intro g3
        refine HO_store (i := 0) (j := 0) (us := []) (old := [_, _, _, _, _, _, _, _]) (ts := []) (cs := [_, _, _, _, _, _, _, _]) (R := [_, _]) (new := [_, _, _, _, _, _, _, _]) rfl rfl rfl Try.sizeOf23 rfl (by simp [Value.oneCell']) rfl rfl rfl rfl rfl rfl ?_
        refine HO_assign rfl rfl rfl ?_
        refine HO_nil ?_
        refine H_env (ρ' := [(4, _), (3, _), (1, _)]) ⟨rfl, rfl, rfl, trivial⟩ ?_
        refine H_seq ?_
        -- R7 command.go:46
        refine H_region (l := [_, _, _, _, _, _, _, _, _, _, _, _, _, _, _, _, _, _]) rfl ?_
        refine HO_loadA (i := 2) (us := []) (cs := [_, _, _, _, _, _, _, _]) (ts := []) rfl rfl rfl Try.isAgg23 Try.sizeOf23 rfl (.loc _ _ _) rfl rfl rfl rfl ?_
        refine HO_loadA (i := 0) (us := []) (cs := [_, _, _, _, _, _, _, _]) (ts := []) rfl rfl rfl Try.isAgg23 Try.sizeOf23 rfl (.loc _ _ _) rfl rfl rfl rfl ?_
        refine HO_bin rfl rfl rfl rfl eq23_eql ?_
        refine HO_move rfl rfl rfl ?_
        refine HO_split (d := 32) rfl ?_ ?_
        · intro h32
          (try simp only [decide_eq_true_eq, decide_eq_false_iff_not, Bool.not_eq_true', Bool.not_eq_false', Bool.not_eq_true, Bool.not_eq_false, Bool.true_eq_false, Bool.false_eq_true, not_false_eq_true, not_true_eq_false] at h32)
          refine HO_fieldAddr (r := 1) rfl rfl rfl Try.underlying23 rfl Try.sizeOf3 rfl ?_
          refine HO_load1 (i := 2) (j := 1) rfl rfl rfl Try.isAgg3 rfl (.loc _ _ _) rfl rfl ?_
          refine HO_bin rfl rfl rfl rfl bin_gtr ?_
          refine HO_pick_t rfl rfl rfl rfl ?_
          refine HO_move rfl rfl rfl ?_
          refine HO_split (d := 37) rfl ?_ ?_
          · intro h37
            (try simp only [decide_eq_true_eq, decide_eq_false_iff_not, Bool.not_eq_true', Bool.not_eq_false', Bool.not_eq_true, Bool.not_eq_false, Bool.true_eq_false, Bool.false_eq_true, not_false_eq_true, not_true_eq_false] at h37)
            refine HO_fieldAddr (r := 2) rfl rfl rfl Try.underlying23 rfl Try.sizeOf3 rfl ?_
            refine HO_load1 (i := 2) (j := 2) rfl rfl rfl Try.isAgg3 rfl (.loc _ _ _) rfl rfl ?_
            refine HO_bin rfl rfl rfl rfl bin_gtr ?_
            refine HO_pick_t rfl rfl rfl rfl ?_
            refine HO_move rfl rfl rfl ?_
            refine HO_split (d := 42) rfl ?_ ?_
            · intro h42
              (try simp only [decide_eq_true_eq, decide_eq_false_iff_not, Bool.not_eq_true', Bool.not_eq_false', Bool.not_eq_true, Bool.not_eq_false, Bool.true_eq_false, Bool.false_eq_true, not_false_eq_true, not_true_eq_false] at h42)
              refine HO_move rfl rfl rfl ?_
              refine HO_call (first := []) (capt := [_]) (is := [1]) (R := [_, _]) rfl rfl rfl rfl rfl Try.call121 rfl (fits4_spec _ _ _ _ _ _ _ _ _) ?_
              intro y44 hy44
              clear y44 hy44
              refine HO_pick_t rfl rfl rfl rfl ?_
              refine HO_assign rfl rfl rfl ?_
              refine HO_nil ?_
              refine H_env (ρ' := [(2, _)]) ⟨rfl, trivial⟩ ?_
              refine H_world (fun _ hA => hA.drop (is := [0, 1, 2]) (Y := [_, _, _]) (Z := []) rfl) ?_
              -- end20
              refine H_ret1 Try.results16 (.tmp rfl) (fun w hA => ⟨(), congrArg Ending.returned ?_, ?_, ?_⟩)
              · (exact congrArg Value.bool (by first | (simp [Cmd.good, Cmd.part, Cmd.fit, Cmd.eqv, Cmd.base, Cmd.empty, *]; done) | (simp [Cmd.good, Cmd.part, Cmd.fit, Cmd.eqv, Cmd.base, Cmd.empty, *]; rfl) | (simp_all [Cmd.good, Cmd.part, Cmd.fit, Cmd.eqv, Cmd.base, Cmd.empty]; done) | (simp_all [Cmd.good, Cmd.part, Cmd.fit, Cmd.eqv, Cmd.base, Cmd.empty]; rfl)))
              · trivial
              · exact hA.only (is := []) (Z := []) rfl
            · intro h42
              (try simp only [decide_eq_true_eq, decide_eq_false_iff_not, Bool.not_eq_true', Bool.not_eq_false', Bool.not_eq_true, Bool.not_eq_false, Bool.true_eq_false, Bool.false_eq_true, not_false_eq_true, not_true_eq_false] at h42)
              refine HO_no rfl rfl rfl ?_
              refine HO_no rfl rfl rfl ?_
              refine HO_pick_f rfl rfl rfl rfl ?_
              refine HO_assign rfl rfl rfl ?_
              refine HO_nil ?_
              refine H_env (ρ' := [(2, _)]) ⟨rfl, trivial⟩ ?_
              refine H_world (fun _ hA => hA.drop (is := [0, 1, 2]) (Y := [_, _, _]) (Z := []) rfl) ?_
              -- end21
              refine H_ret1 Try.results16 (.tmp rfl) (fun w hA => ⟨(), congrArg Ending.returned ?_, ?_, ?_⟩)
              · (exact congrArg Value.bool (by first | (simp [Cmd.good, Cmd.part, Cmd.fit, Cmd.eqv, Cmd.base, Cmd.empty, *]; done) | (simp [Cmd.good, Cmd.part, Cmd.fit, Cmd.eqv, Cmd.base, Cmd.empty, *]; rfl) | (simp_all [Cmd.good, Cmd.part, Cmd.fit, Cmd.eqv, Cmd.base, Cmd.empty]; done) | (simp_all [Cmd.good, Cmd.part, Cmd.fit, Cmd.eqv, Cmd.base, Cmd.empty]; rfl)))
              · trivial
              · exact hA.only (is := []) (Z := []) rfl
          · intro h37
            (try simp only [decide_eq_true_eq, decide_eq_false_iff_not, Bool.not_eq_true', Bool.not_eq_false', Bool.not_eq_true, Bool.not_eq_false, Bool.true_eq_false, Bool.false_eq_true, not_false_eq_true, not_true_eq_false] at h37)
            refine HO_no rfl rfl rfl ?_
            refine HO_no rfl rfl rfl ?_
            refine HO_no rfl rfl rfl ?_
            refine HO_pick_f rfl rfl rfl rfl ?_
            refine HO_move rfl rfl rfl ?_
            refine HO_no rfl rfl rfl ?_
            refine HO_no rfl rfl rfl ?_
            refine HO_pick_f rfl rfl rfl rfl ?_
            refine HO_assign rfl rfl rfl ?_
            refine HO_nil ?_
            refine H_env (ρ' := [(2, _)]) ⟨rfl, trivial⟩ ?_
            refine H_world (fun _ hA => hA.drop (is := [0, 1, 2]) (Y := [_, _, _]) (Z := []) rfl) ?_
            -- end22
            refine H_ret1 Try.results16 (.tmp rfl) (fun w hA => ⟨(), congrArg Ending.returned ?_, ?_, ?_⟩)
            · (exact congrArg Value.bool (by first | (simp [Cmd.good, Cmd.part, Cmd.fit, Cmd.eqv, Cmd.base, Cmd.empty, *]; done) | (simp [Cmd.good, Cmd.part, Cmd.fit, Cmd.eqv, Cmd.base, Cmd.empty, *]; rfl) | (simp_all [Cmd.good, Cmd.part, Cmd.fit, Cmd.eqv, Cmd.base, Cmd.empty]; done) | (simp_all [Cmd.good, Cmd.part, Cmd.fit, Cmd.eqv, Cmd.base, Cmd.empty]; rfl)))
            · trivial
            · exact hA.only (is := []) (Z := []) rfl
        · intro h32
          (try simp only [decide_eq_true_eq, decide_eq_false_iff_not, Bool.not_eq_true', Bool.not_eq_false', Bool.not_eq_true, Bool.not_eq_false, Bool.true_eq_false, Bool.false_eq_true, not_false_eq_true, not_true_eq_false] at h32)
          refine HO_no rfl rfl rfl ?_
          refine HO_no rfl rfl rfl ?_
          refine HO_no rfl rfl rfl ?_
          refine HO_pick_f rfl rfl rfl rfl ?_
          refine HO_move rfl rfl rfl ?_
          refine HO_no rfl rfl rfl ?_
          refine HO_no rfl rfl rfl ?_
          refine HO_no rfl rfl rfl ?_
          refine HO_pick_f rfl rfl rfl rfl ?_
          refine HO_move rfl rfl rfl ?_
          refine HO_no rfl rfl rfl ?_
          refine HO_no rfl rfl rfl ?_
          refine HO_pick_f rfl rfl rfl rfl ?_
          refine HO_assign rfl rfl rfl ?_
          refine HO_nil ?_
          refine H_env (ρ' := [(2, _)]) ⟨rfl, trivial⟩ ?_
          refine H_world (fun _ hA => hA.drop (is := [0, 1, 2]) (Y := [_, _, _]) (Z := []) rfl) ?_
          -- end23
          refine H_ret1 Try.results16 (.tmp rfl) (fun w hA => ⟨(), congrArg Ending.returned ?_, ?_, ?_⟩)
          · (exact congrArg Value.bool (by first | (simp [Cmd.good, Cmd.part, Cmd.fit, Cmd.eqv, Cmd.base, Cmd.empty, *]; done) | (simp [Cmd.good, Cmd.part, Cmd.fit, Cmd.eqv, Cmd.base, Cmd.empty, *]; rfl) | (simp_all [Cmd.good, Cmd.part, Cmd.fit, Cmd.eqv, Cmd.base, Cmd.empty]; done) | (simp_all [Cmd.good, Cmd.part, Cmd.fit, Cmd.eqv, Cmd.base, Cmd.empty]; rfl)))
          · trivial
          · exact hA.only (is := []) (Z := []) rfl
      · skip
        -- R6 command.go:45
        refine H_region (l := [_, _, _, _, _, _, _, _]) rfl ?_
        refine HO_loadA (i := 0) (us := []) (cs := [_, _, _, _, _, _, _, _]) (ts := []) rfl rfl rfl Try.isAgg23 Try.sizeOf23 rfl (.loc _ _ _) rfl rfl rfl rfl ?_
        refine HO_call (first := []) (capt := []) (is := []) (R := [_]) rfl rfl rfl rfl rfl Try.call64 rfl (fits_no _ _ _ _ _ _ _ _ ?_ ?_ ?_ ?_ ?_) ?_
        · exact hc.1
        · exact hc.2.1
        · exact hc.2.2.1
        · exact hc.2.2.2.1
        · exact hc.2.2.2.2
        intro y26 hy26
        refine HO_move rfl rfl rfl ?_
        refine HO_extract (vs := [_, _]) rfl rfl rfl rfl ?_
        refine HO_extract (vs := [_, _]) rfl rfl rfl rfl ?_
        refine HO_alloc (cs := [_, _, _, _, _, _, _, _]) rfl rfl Try.zeroValue23 rfl ?_
        intro g3
        refine HO_store (i := 0) (j := 0) (us := []) (old := [_, _, _, _, _, _, _, _]) (ts := []) (cs := [_, _, _, _, _, _, _, _]) (R := [_]) (new := [_, _, _, _, _, _, _, _]) rfl rfl rfl Try.sizeOf23 rfl (by simp [Value.oneCell']) rfl rfl rfl rfl rfl rfl ?_
        refine HO_assign rfl rfl rfl ?_
        refine HO_nil ?_
        refine H_env (ρ' := [(4, _), (3, _), (1, _)]) ⟨rfl, rfl, rfl, trivial⟩ ?_
        refine H_seq ?_
        -- R7 command.go:46
        refine H_region (l := [_, _, _, _, _, _, _, _, _, _, _, _, _, _, _, _, _, _]) rfl ?_
        refine HO_loadA (i := 1) (us := []) (cs := [_, _, _, _, _, _, _, _]) (ts := []) rfl rfl rfl Try.isAgg23 Try.sizeOf23 rfl (.loc _ _ _) rfl rfl rfl rfl ?_
        refine HO_loadA (i := 0) (us := []) (cs := [_, _, _, _, _, _, _, _]) (ts := []) rfl rfl rfl Try.isAgg23 Try.sizeOf23 rfl (.loc _ _ _) rfl rfl rfl rfl ?_
        refine HO_bin rfl rfl rfl rfl eq23_eql ?_
        refine HO_move rfl rfl rfl ?_
        refine HO_split (d := 32) rfl ?_ ?_
        · intro h32
          (try simp only [decide_eq_true_eq, decide_eq_false_iff_not, Bool.not_eq_true', Bool.not_eq_false', Bool.not_eq_true, Bool.not_eq_false, Bool.true_eq_false, Bool.false_eq_true, not_false_eq_true, not_true_eq_false] at h32)
          refine HO_fieldAddr (r := 1) rfl rfl rfl Try.underlying23 rfl Try.sizeOf3 rfl ?_
          refine HO_load1 (i := 1) (j := 1) rfl rfl rfl Try.isAgg3 rfl (.loc _ _ _) rfl rfl ?_
          refine HO_bin rfl rfl rfl rfl bin_gtr ?_
          refine HO_pick_t rfl rfl rfl rfl ?_
          refine HO_move rfl rfl rfl ?_
          refine HO_split (d := 37) rfl ?_ ?_
          · intro h37
            (try simp only [decide_eq_true_eq, decide_eq_false_iff_not, Bool.not_eq_true', Bool.not_eq_false', Bool.not_eq_true, Bool.not_eq_false, Bool.true_eq_false, Bool.false_eq_true, not_false_eq_true, not_true_eq_false] at h37)
            refine HO_fieldAddr (r := 2) rfl rfl rfl Try.underlying23 rfl Try.sizeOf3 rfl ?_
            refine HO_load1 (i := 1) (j := 2) rfl rfl rfl Try.isAgg3 rfl (.loc _ _ _) rfl rfl ?_
            refine HO_bin rfl rfl rfl rfl bin_gtr ?_
            refine HO_pick_t rfl rfl rfl rfl ?_
            refine HO_move rfl rfl rfl ?_
            refine HO_split (d := 42) rfl ?_ ?_
            · intro h42
              (try simp only [decide_eq_true_eq, decide_eq_false_iff_not, Bool.not_eq_true', Bool.not_eq_false', Bool.not_eq_true, Bool.not_eq_false, Bool.true_eq_false, Bool.false_eq_true, not_false_eq_true, not_true_eq_false] at h42)
              refine HO_move rfl rfl rfl ?_
              refine HO_call (first := []) (capt := []) (is := []) (R := [_, _]) rfl rfl rfl rfl rfl Try.call122 rfl fits5_spec ?_
              intro y44 hy44
              clear y44 hy44
              refine HO_pick_t rfl rfl rfl rfl ?_
              refine HO_assign rfl rfl rfl ?_
              refine HO_nil ?_
              refine H_env (ρ' := [(2, _)]) ⟨rfl, trivial⟩ ?_
              refine H_world (fun _ hA => hA.drop (is := [0, 1]) (Y := [_, _]) (Z := []) rfl) ?_
              -- end24
              refine H_ret1 Try.results16 (.tmp rfl) (fun w hA => ⟨(), congrArg Ending.returned ?_, ?_, ?_⟩)
              · (exact congrArg Value.bool (by first | (simp [Cmd.good, Cmd.part, Cmd.fit, Cmd.eqv, Cmd.base, Cmd.empty, *]; done) | (simp [Cmd.good, Cmd.part, Cmd.fit, Cmd.eqv, Cmd.base, Cmd.empty, *]; rfl) | (simp_all [Cmd.good, Cmd.part, Cmd.fit, Cmd.eqv, Cmd.base, Cmd.empty]; done) | (simp_all [Cmd.good, Cmd.part, Cmd.fit, Cmd.eqv, Cmd.base, Cmd.empty]; rfl)))
              · trivial
              · exact hA.only (is := []) (Z := []) rfl
            · intro h42
              (try simp only [decide_eq_true_eq, decide_eq_false_iff_not, Bool.not_eq_true', Bool.not_eq_false', Bool.not_eq_true, Bool.not_eq_false, Bool.true_eq_false, Bool.false_eq_true, not_false_eq_true, not_true_eq_false] at h42)
              refine HO_no rfl rfl rfl ?_
              refine HO_no rfl rfl rfl ?_
              refine HO_pick_f rfl rfl rfl rfl ?_
              refine HO_assign rfl rfl rfl ?_
              refine HO_nil ?_
              refine H_env (ρ' := [(2, _)]) ⟨rfl, trivial⟩ ?_
              refine H_world (fun _ hA => hA.drop (is := [0, 1]) (Y := [_, _]) (Z := []) rfl) ?_
              -- end25
              refine H_ret1 Try.results16 (.tmp rfl) (fun w hA => ⟨(), congrArg Ending.returned ?_, ?_, ?_⟩)
              · (exact congrArg Value.bool (by first | (simp [Cmd.good, Cmd.part, Cmd.fit, Cmd.eqv, Cmd.base, Cmd.empty, *]; done) | (simp [Cmd.good, Cmd.part, Cmd.fit, Cmd.eqv, Cmd.base, Cmd.empty, *]; rfl) | (simp_all [Cmd.good, Cmd.part, Cmd.fit, Cmd.eqv, Cmd.base, Cmd.empty]; done) | (simp_all [Cmd.good, Cmd.part, Cmd.fit, Cmd.eqv, Cmd.base, Cmd.empty]; rfl)))
              · trivial
              · exact hA.only (is := []) (Z := []) rfl
          · intro h37
            (try simp only [decide_eq_true_eq, decide_eq_false_iff_not, Bool.not_eq_true', Bool.not_eq_false', Bool.not_eq_true, Bool.not_eq_false, Bool.true_eq_false, Bool.false_eq_true, not_false_eq_true, not_true_eq_false] at h37)
            refine HO_no rfl rfl rfl ?_
            refine HO_no rfl rfl rfl ?_
            refine HO_no rfl rfl rfl ?_
            refine HO_pick_f rfl rfl rfl rfl ?_
            refine HO_move rfl rfl rfl ?_
            refine HO_no rfl rfl rfl ?_
            refine HO_no rfl rfl rfl ?_
            refine HO_pick_f rfl rfl rfl rfl ?_
            refine HO_assign rfl rfl rfl ?_
            refine HO_nil ?_
            refine H_env (ρ' := [(2, _)]) ⟨rfl, trivial⟩ ?_
            refine H_world (fun _ hA => hA.drop (is := [0, 1]) (Y := [_, _]) (Z := []) rfl) ?_
            -- end26
            refine H_ret1 Try.results16 (.tmp rfl) (fun w hA => ⟨(), congrArg Ending.returned ?_, ?_, ?_⟩)
            · (exact congrArg Value.bool (by first | (simp [Cmd.good, Cmd.part, Cmd.fit, Cmd.eqv, Cmd.base, Cmd.empty, *]; done) | (simp [Cmd.good, Cmd.part, Cmd.fit, Cmd.eqv, Cmd.base, Cmd.empty, *]; rfl) | (simp_all [Cmd.good, Cmd.part, Cmd.fit, Cmd.eqv, Cmd.base, Cmd.empty]; done) | (simp_all [Cmd.good, Cmd.part, Cmd.fit, Cmd.eqv, Cmd.base, Cmd.empty]; rfl)))
            · trivial
            · exact hA.only (is := []) (Z := []) rfl
        · intro h32
          (try simp only [decide_eq_true_eq, decide_eq_false_iff_not, Bool.not_eq_true', Bool.not_eq_false', Bool.not_eq_true, Bool.not_eq_false, Bool.true_eq_false, Bool.false_eq_true, not_false_eq_true, not_true_eq_false] at h32)
          refine HO_no rfl rfl rfl ?_
          refine HO_no rfl rfl rfl ?_
          refine HO_no rfl rfl rfl ?_
          refine HO_pick_f rfl rfl rfl rfl ?_
          refine HO_move rfl rfl rfl ?_
          refine HO_no rfl rfl rfl ?_
          refine HO_no rfl rfl rfl ?_
          refine HO_no rfl rfl rfl ?_
          refine HO_pick_f rfl rfl rfl rfl ?_
          refine HO_move rfl rfl rfl ?_
          refine HO_no rfl rfl rfl ?_
          refine HO_no rfl rfl rfl ?_
          refine HO_pick_f rfl rfl rfl rfl ?_
          refine HO_assign rfl rfl rfl ?_
          refine HO_nil ?_
          refine H_env (ρ' := [(2, _)]) ⟨rfl, trivial⟩ ?_
          refine H_world (fun _ hA => hA.drop (is := [0, 1]) (Y := [_, _]) (Z := []) rfl) ?_
          -- end27
          refine H_ret1 Try.results16 (.tmp rfl) (fun w hA => ⟨(), congrArg Ending.returned ?_, ?_, ?_⟩)
          · (exact congrArg Value.bool (by first | (simp [Cmd.good, Cmd.part, Cmd.fit, Cmd.eqv, Cmd.base, Cmd.empty, *]; done) | (simp [Cmd.good, Cmd.part, Cmd.fit, Cmd.eqv, Cmd.base, Cmd.empty, *]; rfl) | (simp_all [Cmd.good, Cmd.part, Cmd.fit, Cmd.eqv, Cmd.base, Cmd.empty]; done) | (simp_all [Cmd.good, Cmd.part, Cmd.fit, Cmd.eqv, Cmd.base, Cmd.empty]; rfl)))
          · trivial
          · exact hA.only (is := []) (Z := []) rfl
end Go.Wk
