/- Contracts of the program's functions, each proved by walking its code. -/
import Derived.Test.YtbbcndjahjpdjaaKaref01
set_option maxRecDepth 100000
set_option linter.unusedVariables false
set_option linter.unusedSimpArgs false
namespace Go.Wk.Fref01b
open Go Go.RowKit Go.Proofs Go.Wk
theorem elt5 : Elt Try.prog 5 (.int .u8 (0)) 1 1 := Elt.of (by kernel_rfl) (by rfl) (by decide) (by decide)
end Go.Wk.Fref01b
namespace Go.Wk
open Go Go.RowKit Go.Proofs Fref01b 
theorem rSum_spec (b : List UInt8) (a : Option Addr) (c : Nat)  : Spec Try.prog 40 #[.slice a (b.length) c] [.dat kByte.sl (b) [.slice a (b.length) c]] (β := Unit) (fun y => .int .u32 ((Cod.crc b : Int))) (fun y => True) (fun y => []) := by
  refine Spec.enter (vs := [_]) Try.func40 rfl Try.ntmps40 rfl (Nat.le_of_ble_eq_true rfl) (fun w0 ok0 => ?_)
  generalize hM0 : blks _ = M0
  have hMn : ∀ {R : List Atom} (b : Nat), M0 b → blks R b := fun b hb => absurd (hM0 ▸ hb) (blks_none (by simp [Atom.dat, Atom.elem]) b)
  refine H_seq ?_
  -- R0 ref.go:13
  refine H_region (l := [_]) rfl ?_
  refine HO_assign rfl rfl rfl ?_
  refine HO_nil ?_
  refine H_env (ρ' := [(0, _)]) ⟨rfl, trivial⟩ ?_
  refine H_seq ?_
  -- R1 ref.go:14
  refine H_region (l := [_]) rfl ?_
  refine HO_assign rfl rfl rfl ?_
  refine HO_nil ?_
  refine H_seq ?_
  refine H_seq ?_
  -- R2 ref.go:15
  refine H_len_le (i := 0) rfl (fun hlen => ?_)
  refine H_region (l := [_, _, _]) rfl ?_
  refine HO_move rfl rfl rfl ?_
  refine HO_bi rfl rfl rfl (bi_len_sl Try.underlying28) ?_
  refine HO_move rfl rfl rfl ?_
  refine HO_nil ?_
  refine H_env (ρ' := [(10, _), (9, _), (8, _), (3, _)]) ⟨rfl, rfl, rfl, rfl, trivial⟩ ?_
  refine H_block ?_
  refine H_loop (σ := Nat) (fun s => s ≤ b.length) (fun s => [(8, .slice a (b.length) c), (3, .int .u32 ((Cod.crcS 4294967295 (List.take s b) : Int))), (9, .int .i64 ((b.length : Int))), (10, .int .i64 ((s : Int)))]) (fun s => Asn w0 ok0 M0 [.dat kByte.sl (b) [.slice a (b.length) c]]) (fun s => b.length - s) 0 ?_ ?_ ?_ ?_
  · exact Nat.zero_le _
  · exact ⟨rfl, rfl, rfl, rfl, trivial⟩
  · intro w hA
    exact hA.only (is := [0]) (Z := []) rfl
  · intro i hI
    (try dsimp only at hI ⊢)
    refine H_seq ?_
    -- R3 ref.go:15
    refine H_region (l := [_]) rfl ?_
    refine HO_bin rfl rfl rfl rfl bin_lss ?_
    refine HO_nil ?_
    refine H_seq ?_
    refine H_cond rfl ?_ ?_
    · intro h11
      (try simp only [decide_eq_true_eq, decide_eq_false_iff_not, Bool.not_eq_true', Bool.not_eq_false', Bool.not_eq_true, Bool.not_eq_false, Bool.true_eq_false, Bool.false_eq_true, not_false_eq_true, not_true_eq_false] at h11)
      refine H_skip ?_
      refine H_seq ?_
      refine H_block ?_
      refine H_seq ?_
      -- R4 ref.go:15
      refine H_region (l := [_, _, _]) rfl ?_
      refine HO_indexAddr open_byte (i := 0) rfl rfl rfl rfl rfl Try.underlying28 Try.sizeOf5 rfl ?_ ?_
      · omega
      intro b12 o12 z12 y12 hz12 hI12
      clear y12 hI12
      refine HO_load1 (i := 0) (j := 0) rfl rfl rfl Try.isAgg5 rfl (.elem _ _ _) rfl rfl ?_
      refine HO_assign rfl rfl rfl ?_
      refine HO_nil ?_
      refine H_env (ρ' := [(5, _), (8, _), (3, _), (9, _), (10, _)]) ⟨rfl, rfl, rfl, rfl, rfl, trivial⟩ ?_
      refine H_world (fun _ hA => hA.drop (is := [0]) (Y := [_]) (Z := [_]) rfl) ?_
      refine H_seq ?_
      -- R5 ref.go:16
      refine H_region (l := [_]) rfl ?_
      refine HO_assign rfl rfl rfl ?_
      refine HO_nil ?_
      refine H_block ?_
      refine H_loop (σ := Nat × Nat) (fun s => s.2 ^^^ (z12.toNat / 2 ^ s.1) = Cod.iter Cod.step1 s.1 (Cod.crcS 4294967295 (List.take i b) ^^^ z12.toNat) ∧ s.2 < 4294967296 ∧ s.1 ≤ 8) (fun s => [(8, .slice a (b.length) c), (3, .int .u32 ((s.2 : Int))), (5, .int .u8 ((z12.toNat : Int))), (6, .int .i64 ((s.1 : Int))), (9, .int .i64 ((b.length : Int))), (10, .int .i64 ((i : Int)))]) (fun s => Asn w0 ok0 M0 [.dat kByte.sl (b) [.slice a (b.length) c]]) (fun s => 8 - s.1) ⟨0, Cod.crcS 4294967295 (List.take i b)⟩ ?_ ?_ ?_ ?_
      · exact ⟨by simp [Cod.iter], Cod.crcS_lt (by decide) _, Nat.zero_le _⟩
      · exact ⟨rfl, rfl, rfl, rfl, rfl, rfl, trivial⟩
      · intro w hA
        exact hA.only (is := [0]) (Z := []) rfl
      · rintro ⟨j, q⟩ hI
        (try dsimp only at hI ⊢)
        refine H_seq ?_
        refine H_seq ?_
        -- R6 ref.go:16
        refine H_region (l := [_, _]) rfl ?_
        refine HO_move rfl rfl rfl ?_
        refine HO_bin rfl rfl rfl rfl bin_lss ?_
        refine HO_nil ?_
        refine H_env (ρ' := [(15, _), (8, _), (3, _), (5, _), (6, _), (9, _), (10, _)]) ⟨rfl, rfl, rfl, rfl, rfl, rfl, rfl, trivial⟩ ?_
        refine H_cond rfl ?_ ?_
        · intro h15
          (try simp only [decide_eq_true_eq, decide_eq_false_iff_not, Bool.not_eq_true', Bool.not_eq_false', Bool.not_eq_true, Bool.not_eq_false, Bool.true_eq_false, Bool.false_eq_true, not_false_eq_true, not_true_eq_false] at h15)
          refine H_skip ?_
          refine H_seq ?_
          refine H_block ?_
          refine H_seq ?_
          -- R8 ref.go:17
          refine H_region (l := [_, _, _, _, _, _, _, _, _]) rfl ?_
          refine HO_move rfl rfl rfl ?_
          refine HO_move rfl rfl rfl ?_
          refine HO_move rfl rfl rfl ?_
          refine HO_conv rfl rfl rfl (cv_int Try.underlying3 Try.underlying31 (wrap_u_i rfl _)) ?_
          refine HO_set (v' := .int .u64 (((j : Nat) : Int))) 21 rfl (by exact congrArg (Value.int .u64) (by simp only [IntKind.bits]; omega)) ?_
          refine HO_bin rfl rfl rfl rfl (bin_shr' ?_ ?_) ?_
          · (have := z12.toNat_lt; simp only [IntKind.bits]; omega)
          · omega
          refine HO_conv rfl rfl rfl (cv_int Try.underlying5 Try.underlying48 (wrap_u_lt rfl ?_)) ?_
          · (simp only [Int.toNat_natCast]; have := Nat.div_le_self z12.toNat (2 ^ j); have := z12.toNat_lt; simp only [IntKind.bits]; omega)
          refine HO_bin rfl rfl rfl rfl (bin_xor rfl ?_ ?_) ?_
          · (simp only [IntKind.bits]; omega)
          · (simp only [Int.toNat_natCast]; have := Nat.div_le_self z12.toNat (2 ^ j); have := z12.toNat_lt; simp only [IntKind.bits]; omega)
          refine HO_bin rfl rfl rfl rfl (bin_and rfl ?_ ?_) ?_
          · (exact Nat.xor_lt_two_pow (n := 32) (by omega) (by simp only [Int.toNat_natCast]; have := Nat.div_le_self z12.toNat (2 ^ j); have := z12.toNat_lt; omega))
          · decide
          refine HO_assign rfl rfl rfl ?_
          refine HO_nil ?_
          refine H_env (ρ' := [(7, _), (8, _), (3, _), (5, _), (6, _), (9, _), (10, _)]) ⟨rfl, rfl, rfl, rfl, rfl, rfl, rfl, trivial⟩ ?_
          refine H_seq ?_
          -- R9 ref.go:18
          refine H_region (l := [_, _, _]) rfl ?_
          refine HO_move rfl rfl rfl ?_
          refine HO_bin rfl rfl rfl rfl (bin_shr (s := 1) ?_) ?_
          · (simp only [IntKind.bits]; omega)
          refine HO_assign rfl rfl rfl ?_
          refine HO_nil ?_
          refine H_env (ρ' := [(3, _), (7, _), (8, _), (5, _), (6, _), (9, _), (10, _)]) ⟨rfl, rfl, rfl, rfl, rfl, rfl, rfl, trivial⟩ ?_
          refine H_seq ?_
          -- R10 ref.go:19
          refine H_region (l := [_, _]) rfl ?_
          refine HO_move rfl rfl rfl ?_
          refine HO_bin rfl rfl rfl rfl bin_eql ?_
          refine HO_nil ?_
          refine H_env (ρ' := [(29, _), (3, _), (8, _), (5, _), (6, _), (9, _), (10, _)]) ⟨rfl, rfl, rfl, rfl, rfl, rfl, rfl, trivial⟩ ?_
          refine H_cond rfl ?_ ?_
          · intro h29
            (try simp only [decide_eq_true_eq, decide_eq_false_iff_not, Bool.not_eq_true', Bool.not_eq_false', Bool.not_eq_true, Bool.not_eq_false, Bool.true_eq_false, Bool.false_eq_true, not_false_eq_true, not_true_eq_false] at h29)
            -- R11 ref.go:20
            refine H_region (l := [_, _, _]) rfl ?_
            refine HO_move rfl rfl rfl ?_
            refine HO_bin rfl rfl rfl rfl (bin_xor rfl ?_ ?_) ?_
            · (simp only [IntKind.bits]; omega)
            · decide
            refine HO_assign rfl rfl rfl ?_
            refine HO_nil ?_
            refine H_env (ρ' := [(3, _), (8, _), (5, _), (6, _), (9, _), (10, _)]) ⟨rfl, rfl, rfl, rfl, rfl, rfl, trivial⟩ ?_
            refine H_blk ?_
            -- R7 ref.go:16
            refine H_region (l := [_, _, _]) rfl ?_
            refine HO_move rfl rfl rfl ?_
            refine HO_bin rfl rfl rfl rfl (bin_add ?_ ?_) ?_
            · omega
            · omega
            refine HO_assign rfl rfl rfl ?_
            refine HO_nil ?_
            refine H_env (ρ' := [(6, _), (3, _), (8, _), (5, _), (9, _), (10, _)]) ⟨rfl, rfl, rfl, rfl, rfl, rfl, trivial⟩ ?_
            refine H_inv (fun a w hf hA => ⟨⟨j + 1, Cod.step1r q (z12.toNat / 2 ^ j)⟩, ?_, ?_, hf.sub ?_, ?_⟩)
            · exact ⟨(Cod.ref_next hI.1), Cod.step1r_lt hI.2.1, by omega⟩
            · (try dsimp only); omega
            · exact ⟨rfl, congrArg (fun m : Nat => some (Value.int .u32 (m : Int))) (by first | exact Cod.step1r_yes h29 | exact Cod.step1r_no h29), rfl, rfl, rfl, rfl, trivial⟩
            · exact hA.only (is := [0]) (Z := []) rfl
          · intro h29
            (try simp only [decide_eq_true_eq, decide_eq_false_iff_not, Bool.not_eq_true', Bool.not_eq_false', Bool.not_eq_true, Bool.not_eq_false, Bool.true_eq_false, Bool.false_eq_true, not_false_eq_true, not_true_eq_false] at h29)
            refine H_skip ?_
            refine H_blk ?_
            -- R7 ref.go:16
            refine H_region (l := [_, _, _]) rfl ?_
            refine HO_move rfl rfl rfl ?_
            refine HO_bin rfl rfl rfl rfl (bin_add ?_ ?_) ?_
            · omega
            · omega
            refine HO_assign rfl rfl rfl ?_
            refine HO_nil ?_
            refine H_env (ρ' := [(6, _), (3, _), (8, _), (5, _), (9, _), (10, _)]) ⟨rfl, rfl, rfl, rfl, rfl, rfl, trivial⟩ ?_
            refine H_inv (fun a w hf hA => ⟨⟨j + 1, Cod.step1r q (z12.toNat / 2 ^ j)⟩, ?_, ?_, hf.sub ?_, ?_⟩)
            · exact ⟨(Cod.ref_next hI.1), Cod.step1r_lt hI.2.1, by omega⟩
            · (try dsimp only); omega
            · exact ⟨rfl, congrArg (fun m : Nat => some (Value.int .u32 (m : Int))) (by first | exact Cod.step1r_yes h29 | exact Cod.step1r_no h29), rfl, rfl, rfl, rfl, trivial⟩
            · exact hA.only (is := [0]) (Z := []) rfl
        · intro h15
          (try simp only [decide_eq_true_eq, decide_eq_false_iff_not, Bool.not_eq_true', Bool.not_eq_false', Bool.not_eq_true, Bool.not_eq_false, Bool.true_eq_false, Bool.false_eq_true, not_false_eq_true, not_true_eq_false] at h15)
          refine H_exit rfl ?_
          refine H_blk ?_
          -- R12 ref.go:15
          have hj : j = 8 := by omega
          subst hj
          refine H_region (l := [_, _]) rfl ?_
          refine HO_bin rfl rfl rfl rfl (bin_add ?_ ?_) ?_
          · omega
          · omega
          refine HO_move rfl rfl rfl ?_
          refine HO_nil ?_
          refine H_env (ρ' := [(10, _), (8, _), (3, _), (9, _)]) ⟨rfl, rfl, rfl, rfl, trivial⟩ ?_
          refine H_inv (fun a w hf hA => ⟨i + 1, ?_, ?_, hf.sub ?_, ?_⟩)
          · omega
          · (try dsimp only); omega
          · exact ⟨rfl, congrArg (fun m : Nat => some (Value.int .u32 (m : Int))) ((Cod.ref_close z12.toNat_lt hI.1).trans (Cod.crcS_take hz12)), rfl, rfl, trivial⟩
          · exact hA.only (is := [0]) (Z := []) rfl
    · intro h11
      (try simp only [decide_eq_true_eq, decide_eq_false_iff_not, Bool.not_eq_true', Bool.not_eq_false', Bool.not_eq_true, Bool.not_eq_false, Bool.true_eq_false, Bool.false_eq_true, not_false_eq_true, not_true_eq_false] at h11)
      refine H_exit rfl ?_
      refine H_seq ?_
      -- R13 ref.go:24
      have hi : i = b.length := by omega
      subst hi
      rw [List.take_length]
      refine H_region (l := [_, _, _]) rfl ?_
      refine HO_move rfl rfl rfl ?_
      refine HO_bin rfl rfl rfl rfl (bin_xor rfl ?_ ?_) ?_
      · (have := Cod.crcS_lt (c := 4294967295) (by decide) b; simpa [IntKind.bits] using this)
      · decide
      refine HO_set (v' := .int .u32 ((Cod.crc b : Int))) 34 rfl (by exact congrArg (fun m : Nat => Value.int .u32 (m : Int)) (Cod.compl_xor (n := 32) (Cod.crcS_lt (c := 4294967295) (by decide) b))) ?_
      refine HO_assign rfl rfl rfl ?_
      refine HO_nil ?_
      refine H_env (ρ' := [(2, _)]) ⟨rfl, trivial⟩ ?_
      refine H_world (fun _ hA => hA.drop (is := [0]) (Y := [_]) (Z := []) rfl) ?_
      -- end1
      refine H_ret1 Try.results40 (.tmp rfl) (fun w hA => ⟨(), congrArg Ending.returned ?_, ?_, ?_⟩)
      · rfl
      · trivial
      · exact hA.only (is := []) (Z := []) rfl
theorem rFrame_spec (b : List UInt8) (a : Option Addr) (c : Nat) (hb : b.length ≤ 1099511627776) : Spec Try.prog 42 #[.slice a (b.length) c] [.dat kByte.sl (b) [.slice a (b.length) c]] (β := Option Addr × Nat) (fun y => .slice y.1 ((Cod.frame b).length) y.2) (fun y => True) (fun y => [.own 5 kByte y.1 y.2 (Cod.frame b)]) := by
  refine Spec.enter (vs := [_]) Try.func42 rfl Try.ntmps42 rfl (Nat.le_of_ble_eq_true rfl) (fun w0 ok0 => ?_)
  generalize hM0 : blks _ = M0
  have hMn : ∀ {R : List Atom} (b : Nat), M0 b → blks R b := fun b hb => absurd (hM0 ▸ hb) (blks_none (by simp [Atom.dat, Atom.elem]) b)
  refine H_seq ?_
  -- R0 ref.go:49
  refine H_region (l := [_]) rfl ?_
  refine HO_assign rfl rfl rfl ?_
  refine HO_nil ?_
  refine H_env (ρ' := [(0, _)]) ⟨rfl, trivial⟩ ?_
  refine H_seq ?_
  refine H_seq ?_
  -- R1 ref.go:50
  refine H_region (l := [_, _, _]) rfl ?_
  refine HO_move rfl rfl rfl ?_
  refine HO_bi rfl rfl rfl (bi_len_sl Try.underlying28) ?_
  refine HO_bin rfl rfl rfl rfl bin_gtr ?_
  refine HO_nil ?_
  refine H_env (ρ' := [(6, _), (0, _)]) ⟨rfl, rfl, trivial⟩ ?_
  refine H_cond rfl ?_ ?_
  · intro h6
    (try simp only [decide_eq_true_eq, decide_eq_false_iff_not, Bool.not_eq_true', Bool.not_eq_false', Bool.not_eq_true, Bool.not_eq_false, Bool.true_eq_false, Bool.false_eq_true, not_false_eq_true, not_true_eq_false] at h6)
    have hfr : Cod.frame b = [] := if_pos (by omega)
    refine H_seq ?_
    -- R2 ref.go:51
    refine H_region (l := [_]) rfl ?_
    refine HO_assign rfl rfl rfl ?_
    refine HO_nil ?_
    refine H_env (ρ' := [(2, _)]) ⟨rfl, trivial⟩ ?_
    refine H_world (fun _ hA => hA.drop (is := [0]) (Y := [_]) (Z := []) rfl) ?_
    refine H_own0 kByte 5 none ?_
    -- end1
    refine H_ret1 Try.results42 (.tmp rfl) (fun w hA => ⟨(none, 0), congrArg Ending.returned ?_, ?_, ?_⟩)
    · (rw [hfr]; rfl)
    · trivial
    · (rw [hfr]; exact hA.only (is := [0]) (Z := []) rfl)
  · intro h6
    (try simp only [decide_eq_true_eq, decide_eq_false_iff_not, Bool.not_eq_true', Bool.not_eq_false', Bool.not_eq_true, Bool.not_eq_false, Bool.true_eq_false, Bool.false_eq_true, not_false_eq_true, not_true_eq_false] at h6)
    have hfr : Cod.frame b = ((197 :: Cod.le b.length 3) ++ b) ++ Cod.le (Cod.crc ((197 :: Cod.le b.length 3) ++ b)) 4 := if_neg (by omega)
    refine H_skip ?_
    refine H_seq ?_
    -- R3 ref.go:53
    refine H_region (l := [_, _, _, _, _, _, _]) rfl ?_
    refine HO_buildSlice (kd := kByte) (xo := [_]) (vs := [_]) (cs := [_]) (xs := [(197 : UInt8)]) rfl rfl rfl rfl Try.underlying28 elt5 rfl rfl rfl (by decide) (by decide) (by simp [Value.cells]) rfl (fun _ _ _ => ⟨_, _, rfl, ⟨rfl, trivial⟩, rfl⟩) ?_
    intro g7
    refine HO_move rfl rfl rfl ?_
    refine HO_bi rfl rfl rfl (bi_len_sl Try.underlying28) ?_
    refine HO_conv rfl rfl rfl (cv_int Try.underlying3 Try.underlying27 (wrap_u_i rfl _)) ?_
    refine HO_set (v' := .int .u64 (((b.length : Nat) : Int))) 10 rfl (by exact congrArg (Value.int .u64) (by simp only [IntKind.bits]; omega)) ?_
    refine HO_call (first := []) (capt := []) (is := []) (R := [_, _]) rfl rfl rfl rfl rfl Try.call76 rfl (rlow_spec _ _ ?_ ?_) ?_
    · omega
    · decide
    intro y11 hy11
    refine HO_append (i := 1) (R := [_, _]) rfl rfl rfl rfl rfl Try.underlying28 elt5 rfl rfl (SrcOk.own (j := 0) Try.underlying28 rfl rfl) ?_ ?_
    · (simp only [List.length_append, List.length_cons, List.length_nil, Cod.le_length]; omega)
    intro a12 c12
    refine HO_assign rfl rfl rfl ?_
    refine HO_nil ?_
    refine H_env (ρ' := [(3, _), (0, _)]) ⟨rfl, rfl, trivial⟩ ?_
    refine H_world (fun _ hA => hA.drop (is := [1]) (Y := [_]) (Z := [_, _]) rfl) ?_
    refine H_seq ?_
    -- R4 ref.go:54
    refine H_region (l := [_, _, _, _]) rfl ?_
    refine HO_move rfl rfl rfl ?_
    refine HO_move rfl rfl rfl ?_
    refine HO_append (i := 0) (R := [_]) rfl rfl rfl rfl rfl Try.underlying28 elt5 rfl rfl (SrcOk.dat (j := 0) Try.underlying28 rfl) ?_ ?_
    · (simp only [List.length_append, List.length_cons, List.length_nil, Cod.le_length]; omega)
    intro a15 c15
    refine HO_assign rfl rfl rfl ?_
    refine HO_nil ?_
    refine H_env (ρ' := [(3, _)]) ⟨rfl, trivial⟩ ?_
    refine H_world (fun _ hA => hA.drop (is := [1]) (Y := [_]) (Z := [_]) rfl) ?_
    refine H_seq ?_
    -- R5 ref.go:55
    refine H_region (l := [_, _, _, _, _, _, _]) rfl ?_
    refine HO_move rfl rfl rfl ?_
    refine HO_move rfl rfl rfl ?_
    refine HO_call (first := []) (capt := []) (is := [0]) (R := []) rfl rfl rfl rfl rfl Try.call40 rfl (Spec.lend (pre1 := []) (pre2 := []) (rSum_spec _ _ _) rfl (fun _ _ ha => nomatch ha)) ?_
    intro y18 hy18
    clear y18 hy18
    refine HO_conv rfl rfl rfl (cv_int Try.underlying48 Try.underlying27 (wrap_u_lt rfl ?_)) ?_
    · (exact Nat.lt_trans (Cod.crc_lt _) (by decide))
    refine HO_call (first := []) (capt := []) (is := []) (R := [_]) rfl rfl rfl rfl rfl Try.call76 rfl (rlow_spec _ _ ?_ ?_) ?_
    · (exact Nat.lt_trans (Cod.crc_lt _) (by decide))
    · decide
    intro y20 hy20
    refine HO_append (i := 1) (R := [_]) rfl rfl rfl rfl rfl Try.underlying28 elt5 rfl rfl (SrcOk.own (j := 0) Try.underlying28 rfl rfl) ?_ ?_
    · (simp only [List.length_append, List.length_cons, List.length_nil, Cod.le_length]; omega)
    intro a21 c21
    refine HO_assign rfl rfl rfl ?_
    refine HO_nil ?_
    refine H_env (ρ' := [(2, _)]) ⟨rfl, trivial⟩ ?_
    refine H_world (fun _ hA => hA.drop (is := [1]) (Y := [_]) (Z := [_]) rfl) ?_
    -- end2
    refine H_ret1 Try.results42 (.tmp rfl) (fun w hA => ⟨(a21, c21), congrArg Ending.returned ?_, ?_, ?_⟩)
    · (rw [hfr]; rfl)
    · trivial
    · (rw [hfr]; exact hA.only (is := [0]) (Z := []) rfl)
theorem rUnframe_spec (b : List UInt8) (a : Option Addr) (c : Nat) (hb : b.length ≤ 1099511627776) : Spec Try.prog 38 #[.slice a (b.length) c] [.dat kByte.sl (b) [.slice a (b.length) c]] (β := Option Addr × Nat) (fun y => .tuple #[.slice y.1 ((Cod.unframe b).1.length) y.2, .int .i64 (((Cod.unframe b).2.1 : Int)), .int .i64 (((Cod.unframe b).2.2 : Int))]) (fun y => True) (fun y => [.own 5 kByte y.1 y.2 ((Cod.unframe b).1)]) := by
  have hu := Cod.unframe.eq_1 b
  refine Spec.enter (vs := [_]) Try.func38 rfl Try.ntmps38 rfl (Nat.le_of_ble_eq_true rfl) (fun w0 ok0 => ?_)
  generalize hM0 : blks _ = M0
  have hMn : ∀ {R : List Atom} (b : Nat), M0 b → blks R b := fun b hb => absurd (hM0 ▸ hb) (blks_none (by simp [Atom.dat, Atom.elem]) b)
  refine H_seq ?_
  -- R0 ref.go:59
  refine H_region (l := [_, _, _]) rfl ?_
  refine HO_assign rfl rfl rfl ?_
  refine HO_assign rfl rfl rfl ?_
  refine HO_assign rfl rfl rfl ?_
  refine HO_nil ?_
  refine H_env (ρ' := [(0, _)]) ⟨rfl, trivial⟩ ?_
  refine H_seq ?_
  refine H_seq ?_
  -- R1 ref.go:60
  refine H_region (l := [_, _, _]) rfl ?_
  refine HO_move rfl rfl rfl ?_
  refine HO_bi rfl rfl rfl (bi_len_sl Try.underlying28) ?_
  refine HO_bin rfl rfl rfl rfl bin_eql ?_
  refine HO_nil ?_
  refine H_env (ρ' := [(8, _), (0, _)]) ⟨rfl, rfl, trivial⟩ ?_
  refine H_cond rfl ?_ ?_
  · intro h8
    (try simp only [decide_eq_true_eq, decide_eq_false_iff_not, Bool.not_eq_true', Bool.not_eq_false', Bool.not_eq_true, Bool.not_eq_false, Bool.true_eq_false, Bool.false_eq_true, not_false_eq_true, not_true_eq_false] at h8)
    rw [if_pos (by omega)] at hu
    refine H_seq ?_
    -- R2 ref.go:61
    refine H_region (l := [_, _, _]) rfl ?_
    refine HO_assign rfl rfl rfl ?_
    refine HO_assign rfl rfl rfl ?_
    refine HO_assign rfl rfl rfl ?_
    refine HO_nil ?_
    refine H_env (ρ' := [(4, _), (3, _), (2, _)]) ⟨rfl, rfl, rfl, trivial⟩ ?_
    refine H_world (fun _ hA => hA.drop (is := [0]) (Y := [_]) (Z := []) rfl) ?_
    refine H_own0 kByte 5 none ?_
    -- end1
    refine H_ret3 Try.results38 (.tmp rfl) (.tmp rfl) (.tmp rfl) (fun w hA => ⟨(none, 0), congrArg Ending.returned ?_, ?_, ?_⟩)
    · (rw [hu]; rfl)
    · trivial
    · (rw [hu]; exact hA.only (is := [0]) (Z := []) rfl)
  · intro h8
    (try simp only [decide_eq_true_eq, decide_eq_false_iff_not, Bool.not_eq_true', Bool.not_eq_false', Bool.not_eq_true, Bool.not_eq_false, Bool.true_eq_false, Bool.false_eq_true, not_false_eq_true, not_true_eq_false] at h8)
    rw [if_neg (by omega)] at hu
    refine H_skip ?_
    refine H_seq ?_
    refine H_seq ?_
    -- R3 ref.go:63
    refine H_region (l := [_, _, _, _]) rfl ?_
    refine HO_move rfl rfl rfl ?_
    refine HO_indexAddr open_byte (i := 0) (j := 0) rfl rfl rfl rfl rfl Try.underlying28 Try.sizeOf5 rfl ?_ ?_
    · omega
    intro b10 o10 z10 y10 hz10 hI10
    clear y10 hI10
    refine HO_load1 (i := 0) (j := 0) rfl rfl rfl Try.isAgg5 rfl (.elem _ _ _) rfl rfl ?_
    refine HO_bin rfl rfl rfl rfl bin_neq ?_
    refine HO_nil ?_
    refine H_env (ρ' := [(12, _), (0, _)]) ⟨rfl, rfl, trivial⟩ ?_
    refine H_world (fun _ hA => hA.drop (is := [0]) (Y := [_]) (Z := [_]) rfl) ?_
    refine H_cond rfl ?_ ?_
    · intro h12
      (try simp only [decide_eq_true_eq, decide_eq_false_iff_not, Bool.not_eq_true', Bool.not_eq_false', Bool.not_eq_true, Bool.not_eq_false, Bool.true_eq_false, Bool.false_eq_true, not_false_eq_true, not_true_eq_false] at h12)
      rw [if_pos (by rw [Cod.head_at hz10]; intro h; apply h12; rw [Option.some.inj h]; rfl)] at hu
      refine H_seq ?_
      -- R4 ref.go:64
      refine H_region (l := [_, _, _]) rfl ?_
      refine HO_assign rfl rfl rfl ?_
      refine HO_assign rfl rfl rfl ?_
      refine HO_assign rfl rfl rfl ?_
      refine HO_nil ?_
      refine H_env (ρ' := [(4, _), (3, _), (2, _)]) ⟨rfl, rfl, rfl, trivial⟩ ?_
      refine H_world (fun _ hA => hA.drop (is := [0]) (Y := [_]) (Z := []) rfl) ?_
      refine H_own0 kByte 5 none ?_
      -- end2
      refine H_ret3 Try.results38 (.tmp rfl) (.tmp rfl) (.tmp rfl) (fun w hA => ⟨(none, 0), congrArg Ending.returned ?_, ?_, ?_⟩)
      · (rw [hu]; rfl)
      · trivial
      · (rw [hu]; exact hA.only (is := [0]) (Z := []) rfl)
    · intro h12
      (try simp only [decide_eq_true_eq, decide_eq_false_iff_not, Bool.not_eq_true', Bool.not_eq_false', Bool.not_eq_true, Bool.not_eq_false, Bool.true_eq_false, Bool.false_eq_true, not_false_eq_true, not_true_eq_false] at h12)
      rw [if_neg (by rw [Cod.head_at hz10]; intro h; exact h (congrArg some (Cod.byte_of (by omega))))] at hu
      refine H_skip ?_
      refine H_seq ?_
      refine H_seq ?_
      -- R5 ref.go:66
      refine H_region (l := [_, _, _]) rfl ?_
      refine HO_move rfl rfl rfl ?_
      refine HO_bi rfl rfl rfl (bi_len_sl Try.underlying28) ?_
      refine HO_bin rfl rfl rfl rfl bin_lss ?_
      refine HO_nil ?_
      refine H_env (ρ' := [(15, _), (0, _)]) ⟨rfl, rfl, trivial⟩ ?_
      refine H_cond rfl ?_ ?_
      · intro h15
        (try simp only [decide_eq_true_eq, decide_eq_false_iff_not, Bool.not_eq_true', Bool.not_eq_false', Bool.not_eq_true, Bool.not_eq_false, Bool.true_eq_false, Bool.false_eq_true, not_false_eq_true, not_true_eq_false] at h15)
        rw [if_pos (by omega)] at hu
        refine H_seq ?_
        -- R6 ref.go:67
        refine H_region (l := [_, _, _]) rfl ?_
        refine HO_assign rfl rfl rfl ?_
        refine HO_assign rfl rfl rfl ?_
        refine HO_assign rfl rfl rfl ?_
        refine HO_nil ?_
        refine H_env (ρ' := [(4, _), (3, _), (2, _)]) ⟨rfl, rfl, rfl, trivial⟩ ?_
        refine H_world (fun _ hA => hA.drop (is := [0]) (Y := [_]) (Z := []) rfl) ?_
        refine H_own0 kByte 5 none ?_
        -- end3
        refine H_ret3 Try.results38 (.tmp rfl) (.tmp rfl) (.tmp rfl) (fun w hA => ⟨(none, 0), congrArg Ending.returned ?_, ?_, ?_⟩)
        · (rw [hu]; rfl)
        · trivial
        · (rw [hu]; exact hA.only (is := [0]) (Z := []) rfl)
      · intro h15
        (try simp only [decide_eq_true_eq, decide_eq_false_iff_not, Bool.not_eq_true', Bool.not_eq_false', Bool.not_eq_true, Bool.not_eq_false, Bool.true_eq_false, Bool.false_eq_true, not_false_eq_true, not_true_eq_false] at h15)
        rw [if_neg (by omega)] at hu
        refine H_skip ?_
        refine H_seq ?_
        -- R7 ref.go:69
        refine H_region (l := [_, _, _, _, _]) rfl ?_
        refine HO_move rfl rfl rfl ?_
        refine HO_slice_lh (i := 0) (l := 1) (h' := 4) rfl rfl rfl rfl rfl rfl rfl Try.underlying28 Try.sizeOf5 rfl ?_ ?_ ?_
        · omega
        · omega
        intro a17 c17
        refine HO_dup (i := 0) rfl rfl ?_
        refine HO_call (first := []) (capt := []) (is := [0]) (R := [_, _]) rfl rfl rfl rfl rfl Try.call74 rfl (rof_spec _ _ _ ?_) ?_
        · (simp only [List.length_drop, List.length_take]; omega)
        intro y18 hy18
        clear y18 hy18
        refine HO_conv rfl rfl rfl (cv_int Try.underlying27 Try.underlying3 (wrap_i64_nat ?_)) ?_
        · (have := Cod.wh_lt (List.drop 1 (List.take 4 b)); have h2 : (List.drop 1 (List.take 4 b)).length = 3 := (by simp; omega); rw [h2] at this; omega)
        refine HO_assign rfl rfl rfl ?_
        refine HO_nil ?_
        refine H_env (ρ' := [(5, _), (0, _)]) ⟨rfl, rfl, trivial⟩ ?_
        refine H_world (fun _ hA => hA.drop (is := [0]) (Y := [_]) (Z := [_]) rfl) ?_
        refine H_seq ?_
        refine H_block ?_
        refine H_seq ?_
        -- R8 ref.go:71
        have hw24 := Cod.wh_lt (List.drop 1 (List.take 4 b))
        have hl3 : (List.drop 1 (List.take 4 b)).length = 3 := by simp; omega
        rw [hl3] at hw24
        refine H_region (l := [_, _, _]) rfl ?_
        refine HO_move rfl rfl rfl ?_
        refine HO_bin rfl rfl rfl rfl bin_gtr ?_
        refine HO_assign rfl rfl rfl ?_
        refine HO_nil ?_
        refine H_env (ρ' := [(20, _), (5, _), (0, _)]) ⟨rfl, rfl, rfl, trivial⟩ ?_
        refine H_cond rfl ?_ ?_
        · intro h20
          (try simp only [decide_eq_true_eq, decide_eq_false_iff_not, Bool.not_eq_true', Bool.not_eq_false', Bool.not_eq_true, Bool.not_eq_false, Bool.true_eq_false, Bool.false_eq_true, not_false_eq_true, not_true_eq_false] at h20)
          rw [if_pos (by omega)] at hu
          refine H_seq ?_
          -- R9 ref.go:72
          refine H_region (l := [_, _, _]) rfl ?_
          refine HO_assign rfl rfl rfl ?_
          refine HO_assign rfl rfl rfl ?_
          refine HO_assign rfl rfl rfl ?_
          refine HO_nil ?_
          refine H_env (ρ' := [(4, _), (3, _), (2, _)]) ⟨rfl, rfl, rfl, trivial⟩ ?_
          refine H_world (fun _ hA => hA.drop (is := [0]) (Y := [_]) (Z := []) rfl) ?_
          refine H_own0 kByte 5 none ?_
          -- end4
          refine H_ret3 Try.results38 (.tmp rfl) (.tmp rfl) (.tmp rfl) (fun w hA => ⟨(none, 0), congrArg Ending.returned ?_, ?_, ?_⟩)
          · (rw [hu]; rfl)
          · trivial
          · (rw [hu]; exact hA.only (is := [0]) (Z := []) rfl)
        · intro h20
          (try simp only [decide_eq_true_eq, decide_eq_false_iff_not, Bool.not_eq_true', Bool.not_eq_false', Bool.not_eq_true, Bool.not_eq_false, Bool.true_eq_false, Bool.false_eq_true, not_false_eq_true, not_true_eq_false] at h20)
          rw [if_neg (by omega)] at hu
          refine H_seq ?_
          -- R10 ref.go:73
          refine H_region (l := [_, _, _, _, _, _]) rfl ?_
          refine HO_move rfl rfl rfl ?_
          refine HO_bi rfl rfl rfl (bi_len_sl Try.underlying28) ?_
          refine HO_bin rfl rfl rfl rfl (bin_sub ?_ ?_) ?_
          · omega
          · omega
          refine HO_move rfl rfl rfl ?_
          refine HO_bin rfl rfl rfl rfl bin_lss ?_
          refine HO_assign rfl rfl rfl ?_
          refine HO_nil ?_
          refine H_env (ρ' := [(23, _), (5, _), (0, _)]) ⟨rfl, rfl, rfl, trivial⟩ ?_
          refine H_cond rfl ?_ ?_
          · intro h23
            (try simp only [decide_eq_true_eq, decide_eq_false_iff_not, Bool.not_eq_true', Bool.not_eq_false', Bool.not_eq_true, Bool.not_eq_false, Bool.true_eq_false, Bool.false_eq_true, not_false_eq_true, not_true_eq_false] at h23)
            rw [if_pos (by omega)] at hu
            refine H_seq ?_
            -- R11 ref.go:74
            refine H_region (l := [_, _, _]) rfl ?_
            refine HO_assign rfl rfl rfl ?_
            refine HO_assign rfl rfl rfl ?_
            refine HO_assign rfl rfl rfl ?_
            refine HO_nil ?_
            refine H_env (ρ' := [(4, _), (3, _), (2, _)]) ⟨rfl, rfl, rfl, trivial⟩ ?_
            refine H_world (fun _ hA => hA.drop (is := [0]) (Y := [_]) (Z := []) rfl) ?_
            refine H_own0 kByte 5 none ?_
            -- end5
            refine H_ret3 Try.results38 (.tmp rfl) (.tmp rfl) (.tmp rfl) (fun w hA => ⟨(none, 0), congrArg Ending.returned ?_, ?_, ?_⟩)
            · (rw [hu]; rfl)
            · trivial
            · (rw [hu]; exact hA.only (is := [0]) (Z := []) rfl)
          · intro h23
            (try simp only [decide_eq_true_eq, decide_eq_false_iff_not, Bool.not_eq_true', Bool.not_eq_false', Bool.not_eq_true, Bool.not_eq_false, Bool.true_eq_false, Bool.false_eq_true, not_false_eq_true, not_true_eq_false] at h23)
            rw [if_neg (by omega)] at hu
            refine H_seq ?_
            -- R12 ref.go:75 draws
            refine H_draw (is := [0]) (Xs := [_]) (Z := []) (fuel := 15) (l := #[false, false, false, false, false, false, false, false, false, false, false, false, false, false, false]) mixed rfl rfl rfl ?_
            refine HA_take (i := 0) (listed' := #[true, false, false, false, false, false, false, false, false, false, false, false, false, false, false]) (bodyPost_pan _ _ _) rfl rfl rfl rfl (by kernel_rfl) rfl (V_move rfl) (fun _ hA => hA.only (is := [0]) (Y := [_]) (Z := []) rfl) ?_
            refine HA_take (i := 1) (listed' := #[true, true, false, false, false, false, false, false, false, false, false, false, false, false, false]) (bodyPost_pan _ _ _) rfl rfl rfl rfl (by kernel_rfl) rfl (V_move rfl) (fun _ hA => hA.only (is := [0]) (Y := [_]) (Z := []) rfl) ?_
            refine HA_take (i := 2) (listed' := #[true, true, true, false, false, false, false, false, false, false, false, false, false, false, false]) (bodyPost_pan _ _ _) rfl rfl rfl rfl (by kernel_rfl) rfl (V_bin rfl rfl (bin_add ?_ ?_)) (fun _ hA => hA.only (is := [0]) (Y := [_]) (Z := []) rfl) ?_
            · omega
            · omega
            refine HA_take (i := 6) (listed' := #[true, true, true, false, false, false, true, false, false, false, false, false, false, false, false]) (bodyPost_pan _ _ _) rfl rfl rfl rfl (by kernel_rfl) rfl (V_move rfl) (fun _ hA => hA.only (is := [0]) (Y := [_]) (Z := []) rfl) ?_
            refine HA_take (i := 7) (listed' := #[true, true, true, false, false, false, true, true, false, false, false, false, false, false, false]) (bodyPost_pan _ _ _) rfl rfl rfl rfl (by kernel_rfl) rfl (V_move rfl) (fun _ hA => hA.only (is := [0]) (Y := [_]) (Z := []) rfl) ?_
            refine HA_take (i := 8) (listed' := #[true, true, true, false, false, false, true, true, true, false, false, false, false, false, false]) (bodyPost_pan _ _ _) rfl rfl rfl rfl (by kernel_rfl) rfl (V_bin rfl rfl (bin_add ?_ ?_)) (fun _ hA => hA.only (is := [0]) (Y := [_]) (Z := []) rfl) ?_
            · omega
            · omega
            refine HA_take (i := 9) (listed' := #[true, true, true, false, false, false, true, true, true, true, false, false, false, false, false]) (bodyPost_pan _ _ _) rfl rfl rfl rfl (by kernel_rfl) rfl (V_move rfl) (fun _ hA => hA.only (is := [0]) (Y := [_]) (Z := []) rfl) ?_
            refine HA_take (i := 10) (listed' := #[true, true, true, false, false, false, true, true, true, true, true, false, false, false, false]) (bodyPost_pan _ _ _) rfl rfl rfl rfl (by kernel_rfl) rfl (V_bin rfl rfl (bin_add ?_ ?_)) (fun _ hA => hA.only (is := [0]) (Y := [_]) (Z := []) rfl) ?_
            · omega
            · omega
            refine HA_loud2 (i := 3) (j := 11) (by kernel_rfl) rfl rfl ?_ ?_
            · refine HO_slice_h (i := 0) (h' := Cod.wh (List.drop 1 (List.take 4 b)) + 4) rfl rfl rfl rfl ?_ Try.underlying28 Try.sizeOf5 rfl ?_ ?_
              · omega
              · omega
              intro a33 c33
              refine HA_back (listed' := #[true, true, true, true, false, false, true, true, true, true, true, false, false, false, false]) rfl (fun _ hA => hA.only (is := [1]) (Y := [_]) (Z := [_]) rfl) ?_
              refine HA_loud2 (i := 4) (j := 11) (by kernel_rfl) rfl rfl ?_ ?_
              · refine HO_dup (i := 0) rfl rfl ?_
                refine HO_call (first := []) (capt := []) (is := [0]) (R := [_, _]) rfl rfl rfl rfl rfl Try.call40 rfl (rSum_spec _ _ _) ?_
                intro y34 hy34
                clear y34 hy34
                refine HA_back (listed' := #[true, true, true, true, true, false, true, true, true, true, true, false, false, false, false]) rfl (fun _ hA => hA.only (is := [1]) (Y := [_]) (Z := [_]) rfl) ?_
                refine HA_take (i := 5) (listed' := #[true, true, true, true, true, true, true, true, true, true, true, false, false, false, false]) (bodyPost_pan _ _ _) rfl rfl rfl rfl (by kernel_rfl) rfl (V_conv rfl (cv_int Try.underlying48 Try.underlying27 (wrap_u_lt rfl ?_))) (fun _ hA => hA.only (is := [1]) (Y := [_]) (Z := [_]) rfl) ?_
                · (have := Cod.crc_lt (List.take (Cod.wh (List.drop 1 (List.take 4 b)) + 4) b); simp only [IntKind.bits]; omega)
                refine HA_loud1 (i := 11) (by kernel_rfl) rfl ?_
                refine HO_slice_lh (i := 1) (l := Cod.wh (List.drop 1 (List.take 4 b)) + 4) (h' := Cod.wh (List.drop 1 (List.take 4 b)) + 4 + 4) rfl rfl rfl rfl rfl ?_ ?_ Try.underlying28 Try.sizeOf5 rfl ?_ ?_ ?_
                · omega
                · omega
                · omega
                · omega
                intro a41 c41
                refine HA_back (listed' := #[true, true, true, true, true, true, true, true, true, true, true, true, false, false, false]) rfl (fun _ hA => hA.only (is := [2]) (Y := [_]) (Z := [_, _]) rfl) ?_
                refine HA_loud1 (i := 12) (by kernel_rfl) rfl ?_
                refine HO_dup (i := 0) rfl rfl ?_
                refine HO_call (first := []) (capt := []) (is := [0]) (R := [_, _, _]) rfl rfl rfl rfl rfl Try.call74 rfl (rof_spec _ _ _ ?_) ?_
                · (simp only [List.length_drop, List.length_take]; omega)
                intro y42 hy42
                clear y42 hy42
                refine HA_back (listed' := #[true, true, true, true, true, true, true, true, true, true, true, true, true, false, false]) rfl (fun _ hA => hA.only (is := [2]) (Y := [_]) (Z := [_, _]) rfl) ?_
                refine HA_take (i := 13) (listed' := #[true, true, true, true, true, true, true, true, true, true, true, true, true, true, false]) (bodyPost_pan _ _ _) rfl rfl rfl rfl (by kernel_rfl) rfl (V_bin rfl rfl bin_neq) (fun _ hA => hA.only (is := [2]) (Y := [_]) (Z := [_, _]) rfl) ?_
                refine HA_take (i := 14) (listed' := #[true, true, true, true, true, true, true, true, true, true, true, true, true, true, true]) (bodyPost_pan _ _ _) rfl rfl rfl rfl (by kernel_rfl) rfl (V_assign rfl) (fun _ hA => hA.only (is := [2]) (Y := [_]) (Z := [_, _]) rfl) ?_
                refine HA_done (by kernel_rfl) ?_
                refine H_env (ρ' := [(29, _), (5, _), (0, _)]) ⟨rfl, rfl, rfl, trivial⟩ ?_
                refine H_world (fun _ hA => hA.drop (is := [0, 1]) (Y := [_, _]) (Z := [_]) rfl) ?_
                refine H_cond rfl ?_ ?_
                · intro h29
                  (try simp only [decide_eq_true_eq, decide_eq_false_iff_not, Bool.not_eq_true', Bool.not_eq_false', Bool.not_eq_true, Bool.not_eq_false, Bool.true_eq_false, Bool.false_eq_true, not_false_eq_true, not_true_eq_false] at h29)
                  rw [if_pos (by omega)] at hu
                  refine H_seq ?_
                  -- R13 ref.go:76
                  refine H_region (l := [_, _, _]) rfl ?_
                  refine HO_assign rfl rfl rfl ?_
                  refine HO_assign rfl rfl rfl ?_
                  refine HO_assign rfl rfl rfl ?_
                  refine HO_nil ?_
                  refine H_env (ρ' := [(4, _), (3, _), (2, _)]) ⟨rfl, rfl, rfl, trivial⟩ ?_
                  refine H_world (fun _ hA => hA.drop (is := [0]) (Y := [_]) (Z := []) rfl) ?_
                  refine H_own0 kByte 5 none ?_
                  -- end6
                  refine H_ret3 Try.results38 (.tmp rfl) (.tmp rfl) (.tmp rfl) (fun w hA => ⟨(none, 0), congrArg Ending.returned ?_, ?_, ?_⟩)
                  · (rw [hu]; rfl)
                  · trivial
                  · (rw [hu]; exact hA.only (is := [0]) (Z := []) rfl)
                · intro h29
                  (try simp only [decide_eq_true_eq, decide_eq_false_iff_not, Bool.not_eq_true', Bool.not_eq_false', Bool.not_eq_true, Bool.not_eq_false, Bool.true_eq_false, Bool.false_eq_true, not_false_eq_true, not_true_eq_false] at h29)
                  rw [if_neg (by omega)] at hu
                  refine H_skip ?_
                  refine H_blk ?_
                  refine H_seq ?_
                  -- R14 ref.go:78
                  refine H_region (l := [_, _, _, _, _, _, _, _, _, _, _]) rfl ?_
                  refine HO_buildSlice0 (kd := kByte) rfl rfl Try.underlying28 elt5 ?_
                  intro g44
                  refine HO_move rfl rfl rfl ?_
                  refine HO_move rfl rfl rfl ?_
                  refine HO_bin rfl rfl rfl rfl (bin_add ?_ ?_) ?_
                  · omega
                  · omega
                  refine HO_slice_lh (i := 1) (l := 4) (h' := Cod.wh (List.drop 1 (List.take 4 b)) + 4) rfl rfl rfl rfl rfl rfl ?_ Try.underlying28 Try.sizeOf5 rfl ?_ ?_ ?_
                  · omega
                  · omega
                  · omega
                  intro a48 c48
                  refine HO_append (i := 1) (R := [_, _]) rfl rfl rfl rfl rfl Try.underlying28 elt5 rfl rfl (SrcOk.dat (j := 0) Try.underlying28 rfl) ?_ ?_
                  · (simp only [List.length_nil, List.length_drop, List.length_take]; omega)
                  intro a49 c49
                  refine HO_move rfl rfl rfl ?_
                  refine HO_bin rfl rfl rfl rfl (bin_add ?_ ?_) ?_
                  · omega
                  · omega
                  refine HO_assign rfl rfl rfl ?_
                  refine HO_assign rfl rfl rfl ?_
                  refine HO_assign rfl rfl rfl ?_
                  refine HO_nil ?_
                  refine H_env (ρ' := [(4, _), (3, _), (2, _)]) ⟨rfl, rfl, rfl, trivial⟩ ?_
                  refine H_world (fun _ hA => hA.drop (is := [1, 2]) (Y := [_, _]) (Z := [_]) rfl) ?_
                  -- end7
                  refine H_ret3 Try.results38 (.tmp rfl) (.tmp rfl) (.tmp rfl) (fun w hA => ⟨(a49, c49), congrArg Ending.returned ?_, ?_, ?_⟩)
                  · (rw [hu]; rfl)
                  · trivial
                  · (rw [hu]; exact hA.only (is := [0]) (Z := []) rfl)
              · refine HO_slice_lh (i := 1) (l := Cod.wh (List.drop 1 (List.take 4 b)) + 4) (h' := Cod.wh (List.drop 1 (List.take 4 b)) + 4 + 4) rfl rfl rfl rfl rfl ?_ ?_ Try.underlying28 Try.sizeOf5 rfl ?_ ?_ ?_
                · omega
                · omega
                · omega
                · omega
                intro a41 c41
                refine HA_back (listed' := #[true, true, true, true, false, false, true, true, true, true, true, true, false, false, false]) rfl (fun _ hA => hA.only (is := [2]) (Y := [_]) (Z := [_, _]) rfl) ?_
                refine HA_loud1 (i := 4) (by kernel_rfl) rfl ?_
                refine HO_dup (i := 1) rfl rfl ?_
                refine HO_call (first := []) (capt := []) (is := [0]) (R := [_, _, _]) rfl rfl rfl rfl rfl Try.call40 rfl (rSum_spec _ _ _) ?_
                intro y34 hy34
                clear y34 hy34
                refine HA_back (listed' := #[true, true, true, true, true, false, true, true, true, true, true, true, false, false, false]) rfl (fun _ hA => hA.only (is := [2]) (Y := [_]) (Z := [_, _]) rfl) ?_
                refine HA_take (i := 5) (listed' := #[true, true, true, true, true, true, true, true, true, true, true, true, false, false, false]) (bodyPost_pan _ _ _) rfl rfl rfl rfl (by kernel_rfl) rfl (V_conv rfl (cv_int Try.underlying48 Try.underlying27 (wrap_u_lt rfl ?_))) (fun _ hA => hA.only (is := [2]) (Y := [_]) (Z := [_, _]) rfl) ?_
                · (have := Cod.crc_lt (List.take (Cod.wh (List.drop 1 (List.take 4 b)) + 4) b); simp only [IntKind.bits]; omega)
                refine HA_loud1 (i := 12) (by kernel_rfl) rfl ?_
                refine HO_dup (i := 0) rfl rfl ?_
                refine HO_call (first := []) (capt := []) (is := [0]) (R := [_, _, _]) rfl rfl rfl rfl rfl Try.call74 rfl (rof_spec _ _ _ ?_) ?_
                · (simp only [List.length_drop, List.length_take]; omega)
                intro y42 hy42
                clear y42 hy42
                refine HA_back (listed' := #[true, true, true, true, true, true, true, true, true, true, true, true, true, false, false]) rfl (fun _ hA => hA.only (is := [2]) (Y := [_]) (Z := [_, _]) rfl) ?_
                refine HA_take (i := 13) (listed' := #[true, true, true, true, true, true, true, true, true, true, true, true, true, true, false]) (bodyPost_pan _ _ _) rfl rfl rfl rfl (by kernel_rfl) rfl (V_bin rfl rfl bin_neq) (fun _ hA => hA.only (is := [2]) (Y := [_]) (Z := [_, _]) rfl) ?_
                refine HA_take (i := 14) (listed' := #[true, true, true, true, true, true, true, true, true, true, true, true, true, true, true]) (bodyPost_pan _ _ _) rfl rfl rfl rfl (by kernel_rfl) rfl (V_assign rfl) (fun _ hA => hA.only (is := [2]) (Y := [_]) (Z := [_, _]) rfl) ?_
                refine HA_done (by kernel_rfl) ?_
                refine H_env (ρ' := [(29, _), (5, _), (0, _)]) ⟨rfl, rfl, rfl, trivial⟩ ?_
                refine H_world (fun _ hA => hA.drop (is := [0, 1]) (Y := [_, _]) (Z := [_]) rfl) ?_
                refine H_cond rfl ?_ ?_
                · intro h29
                  (try simp only [decide_eq_true_eq, decide_eq_false_iff_not, Bool.not_eq_true', Bool.not_eq_false', Bool.not_eq_true, Bool.not_eq_false, Bool.true_eq_false, Bool.false_eq_true, not_false_eq_true, not_true_eq_false] at h29)
                  rw [if_pos (by omega)] at hu
                  refine H_seq ?_
                  -- R13 ref.go:76
                  refine H_region (l := [_, _, _]) rfl ?_
                  refine HO_assign rfl rfl rfl ?_
                  refine HO_assign rfl rfl rfl ?_
                  refine HO_assign rfl rfl rfl ?_
                  refine HO_nil ?_
                  refine H_env (ρ' := [(4, _), (3, _), (2, _)]) ⟨rfl, rfl, rfl, trivial⟩ ?_
                  refine H_world (fun _ hA => hA.drop (is := [0]) (Y := [_]) (Z := []) rfl) ?_
                  refine H_own0 kByte 5 none ?_
                  -- end8
                  refine H_ret3 Try.results38 (.tmp rfl) (.tmp rfl) (.tmp rfl) (fun w hA => ⟨(none, 0), congrArg Ending.returned ?_, ?_, ?_⟩)
                  · (rw [hu]; rfl)
                  · trivial
                  · (rw [hu]; exact hA.only (is := [0]) (Z := []) rfl)
                · intro h29
                  (try simp only [decide_eq_true_eq, decide_eq_false_iff_not, Bool.not_eq_true', Bool.not_eq_false', Bool.not_eq_true, Bool.not_eq_false, Bool.true_eq_false, Bool.false_eq_true, not_false_eq_true, not_true_eq_false] at h29)
                  rw [if_neg (by omega)] at hu
                  refine H_skip ?_
                  refine H_blk ?_
                  refine H_seq ?_
                  -- R14 ref.go:78
                  refine H_region (l := [_, _, _, _, _, _, _, _, _, _, _]) rfl ?_
                  refine HO_buildSlice0 (kd := kByte) rfl rfl Try.underlying28 elt5 ?_
                  intro g44
                  refine HO_move rfl rfl rfl ?_
                  refine HO_move rfl rfl rfl ?_
                  refine HO_bin rfl rfl rfl rfl (bin_add ?_ ?_) ?_
                  · omega
                  · omega
                  refine HO_slice_lh (i := 1) (l := 4) (h' := Cod.wh (List.drop 1 (List.take 4 b)) + 4) rfl rfl rfl rfl rfl rfl ?_ Try.underlying28 Try.sizeOf5 rfl ?_ ?_ ?_
                  · omega
                  · omega
                  · omega
                  intro a48 c48
                  refine HO_append (i := 1) (R := [_, _]) rfl rfl rfl rfl rfl Try.underlying28 elt5 rfl rfl (SrcOk.dat (j := 0) Try.underlying28 rfl) ?_ ?_
                  · (simp only [List.length_nil, List.length_drop, List.length_take]; omega)
                  intro a49 c49
                  refine HO_move rfl rfl rfl ?_
                  refine HO_bin rfl rfl rfl rfl (bin_add ?_ ?_) ?_
                  · omega
                  · omega
                  refine HO_assign rfl rfl rfl ?_
                  refine HO_assign rfl rfl rfl ?_
                  refine HO_assign rfl rfl rfl ?_
                  refine HO_nil ?_
                  refine H_env (ρ' := [(4, _), (3, _), (2, _)]) ⟨rfl, rfl, rfl, trivial⟩ ?_
                  refine H_world (fun _ hA => hA.drop (is := [1, 2]) (Y := [_, _]) (Z := [_]) rfl) ?_
                  -- end9
                  refine H_ret3 Try.results38 (.tmp rfl) (.tmp rfl) (.tmp rfl) (fun w hA => ⟨(a49, c49), congrArg Ending.returned ?_, ?_, ?_⟩)
                  · (rw [hu]; rfl)
                  · trivial
                  · (rw [hu]; exact hA.only (is := [0]) (Z := []) rfl)
            · refine HO_slice_lh (i := 0) (l := Cod.wh (List.drop 1 (List.take 4 b)) + 4) (h' := Cod.wh (List.drop 1 (List.take 4 b)) + 4 + 4) rfl rfl rfl rfl rfl ?_ ?_ Try.underlying28 Try.sizeOf5 rfl ?_ ?_ ?_
              · omega
              · omega
              · omega
              · omega
              intro a41 c41
              refine HA_back (listed' := #[true, true, true, false, false, false, true, true, true, true, true, true, false, false, false]) rfl (fun _ hA => hA.only (is := [1]) (Y := [_]) (Z := [_]) rfl) ?_
              refine HA_loud1 (i := 3) (by kernel_rfl) rfl ?_
              refine HO_slice_h (i := 1) (h' := Cod.wh (List.drop 1 (List.take 4 b)) + 4) rfl rfl rfl rfl ?_ Try.underlying28 Try.sizeOf5 rfl ?_ ?_
              · omega
              · omega
              intro a33 c33
              refine HA_back (listed' := #[true, true, true, true, false, false, true, true, true, true, true, true, false, false, false]) rfl (fun _ hA => hA.only (is := [2]) (Y := [_]) (Z := [_, _]) rfl) ?_
              refine HA_loud1 (i := 4) (by kernel_rfl) rfl ?_
              refine HO_dup (i := 0) rfl rfl ?_
              refine HO_call (first := []) (capt := []) (is := [0]) (R := [_, _, _]) rfl rfl rfl rfl rfl Try.call40 rfl (rSum_spec _ _ _) ?_
              intro y34 hy34
              clear y34 hy34
              refine HA_back (listed' := #[true, true, true, true, true, false, true, true, true, true, true, true, false, false, false]) rfl (fun _ hA => hA.only (is := [2]) (Y := [_]) (Z := [_, _]) rfl) ?_
              refine HA_take (i := 5) (listed' := #[true, true, true, true, true, true, true, true, true, true, true, true, false, false, false]) (bodyPost_pan _ _ _) rfl rfl rfl rfl (by kernel_rfl) rfl (V_conv rfl (cv_int Try.underlying48 Try.underlying27 (wrap_u_lt rfl ?_))) (fun _ hA => hA.only (is := [2]) (Y := [_]) (Z := [_, _]) rfl) ?_
              · (have := Cod.crc_lt (List.take (Cod.wh (List.drop 1 (List.take 4 b)) + 4) b); simp only [IntKind.bits]; omega)
              refine HA_loud1 (i := 12) (by kernel_rfl) rfl ?_
              refine HO_dup (i := 1) rfl rfl ?_
              refine HO_call (first := []) (capt := []) (is := [0]) (R := [_, _, _]) rfl rfl rfl rfl rfl Try.call74 rfl (rof_spec _ _ _ ?_) ?_
              · (simp only [List.length_drop, List.length_take]; omega)
              intro y42 hy42
              clear y42 hy42
              refine HA_back (listed' := #[true, true, true, true, true, true, true, true, true, true, true, true, true, false, false]) rfl (fun _ hA => hA.only (is := [2]) (Y := [_]) (Z := [_, _]) rfl) ?_
              refine HA_take (i := 13) (listed' := #[true, true, true, true, true, true, true, true, true, true, true, true, true, true, false]) (bodyPost_pan _ _ _) rfl rfl rfl rfl (by kernel_rfl) rfl (V_bin rfl rfl bin_neq) (fun _ hA => hA.only (is := [2]) (Y := [_]) (Z := [_, _]) rfl) ?_
              refine HA_take (i := 14) (listed' := #[true, true, true, true, true, true, true, true, true, true, true, true, true, true, true]) (bodyPost_pan _ _ _) rfl rfl rfl rfl (by kernel_rfl) rfl (V_assign rfl) (fun _ hA => hA.only (is := [2]) (Y := [_]) (Z := [_, _]) rfl) ?_
              refine HA_done (by kernel_rfl) ?_
              refine H_env (ρ' := [(29, _), (5, _), (0, _)]) ⟨rfl, rfl, rfl, trivial⟩ ?_
              refine H_world (fun _ hA => hA.drop (is := [0, 1]) (Y := [_, _]) (Z := [_]) rfl) ?_
              refine H_cond rfl ?_ ?_
              · intro h29
                (try simp only [decide_eq_true_eq, decide_eq_false_iff_not, Bool.not_eq_true', Bool.not_eq_false', Bool.not_eq_true, Bool.not_eq_false, Bool.true_eq_false, Bool.false_eq_true, not_false_eq_true, not_true_eq_false] at h29)
                rw [if_pos (by omega)] at hu
                refine H_seq ?_
                -- R13 ref.go:76
                refine H_region (l := [_, _, _]) rfl ?_
                refine HO_assign rfl rfl rfl ?_
                refine HO_assign rfl rfl rfl ?_
                refine HO_assign rfl rfl rfl ?_
                refine HO_nil ?_
                refine H_env (ρ' := [(4, _), (3, _), (2, _)]) ⟨rfl, rfl, rfl, trivial⟩ ?_
                refine H_world (fun _ hA => hA.drop (is := [0]) (Y := [_]) (Z := []) rfl) ?_
                refine H_own0 kByte 5 none ?_
                -- end10
                refine H_ret3 Try.results38 (.tmp rfl) (.tmp rfl) (.tmp rfl) (fun w hA => ⟨(none, 0), congrArg Ending.returned ?_, ?_, ?_⟩)
                · (rw [hu]; rfl)
                · trivial
                · (rw [hu]; exact hA.only (is := [0]) (Z := []) rfl)
              · intro h29
                (try simp only [decide_eq_true_eq, decide_eq_false_iff_not, Bool.not_eq_true', Bool.not_eq_false', Bool.not_eq_true, Bool.not_eq_false, Bool.true_eq_false, Bool.false_eq_true, not_false_eq_true, not_true_eq_false] at h29)
                rw [if_neg (by omega)] at hu
                refine H_skip ?_
                refine H_blk ?_
                refine H_seq ?_
                -- R14 ref.go:78
                refine H_region (l := [_, _, _, _, _, _, _, _, _, _, _]) rfl ?_
                refine HO_buildSlice0 (kd := kByte) rfl rfl Try.underlying28 elt5 ?_
                intro g44
                refine HO_move rfl rfl rfl ?_
                refine HO_move rfl rfl rfl ?_
                refine HO_bin rfl rfl rfl rfl (bin_add ?_ ?_) ?_
                · omega
                · omega
                refine HO_slice_lh (i := 1) (l := 4) (h' := Cod.wh (List.drop 1 (List.take 4 b)) + 4) rfl rfl rfl rfl rfl rfl ?_ Try.underlying28 Try.sizeOf5 rfl ?_ ?_ ?_
                · omega
                · omega
                · omega
                intro a48 c48
                refine HO_append (i := 1) (R := [_, _]) rfl rfl rfl rfl rfl Try.underlying28 elt5 rfl rfl (SrcOk.dat (j := 0) Try.underlying28 rfl) ?_ ?_
                · (simp only [List.length_nil, List.length_drop, List.length_take]; omega)
                intro a49 c49
                refine HO_move rfl rfl rfl ?_
                refine HO_bin rfl rfl rfl rfl (bin_add ?_ ?_) ?_
                · omega
                · omega
                refine HO_assign rfl rfl rfl ?_
                refine HO_assign rfl rfl rfl ?_
                refine HO_assign rfl rfl rfl ?_
                refine HO_nil ?_
                refine H_env (ρ' := [(4, _), (3, _), (2, _)]) ⟨rfl, rfl, rfl, trivial⟩ ?_
                refine H_world (fun _ hA => hA.drop (is := [1, 2]) (Y := [_, _]) (Z := [_]) rfl) ?_
                -- end11
                refine H_ret3 Try.results38 (.tmp rfl) (.tmp rfl) (.tmp rfl) (fun w hA => ⟨(a49, c49), congrArg Ending.returned ?_, ?_, ?_⟩)
                · (rw [hu]; rfl)
                · trivial
                · (rw [hu]; exact hA.only (is := [0]) (Z := []) rfl)
theorem rLend_spec (b : List UInt8) (a : Option Addr) (c : Nat) (hb : b.length ≤ 1099511627776) : Spec Try.prog 22 #[.slice a (b.length) c] [.dat kByte.sl (b) [.slice a (b.length) c]] (β := Option Addr × Nat × Option Addr × Nat) (fun y => .tuple #[.slice y.1 ((165 :: (b ++ [90]) : List UInt8).length) y.2.1, .slice y.2.2.1 (b.length) y.2.2.2]) (fun y => True) (fun y => [.dat kByte.sl ((165 :: (b ++ [90]) : List UInt8)) [.slice y.1 ((165 :: (b ++ [90]) : List UInt8).length) y.2.1], .dat kByte.sl (b) [.slice y.2.2.1 (b.length) y.2.2.2]]) := by
  refine Spec.enter (vs := [_]) Try.func22 rfl Try.ntmps22 rfl (Nat.le_of_ble_eq_true rfl) (fun w0 ok0 => ?_)
  generalize hM0 : blks _ = M0
  have hMn : ∀ {R : List Atom} (b : Nat), M0 b → blks R b := fun b hb => absurd (hM0 ▸ hb) (blks_none (by simp [Atom.dat, Atom.elem]) b)
  refine H_seq ?_
  -- R0 ref.go:271
  refine H_region (l := [_, _]) rfl ?_
  refine HO_assign rfl rfl rfl ?_
  refine HO_assign rfl rfl rfl ?_
  refine HO_nil ?_
  refine H_env (ρ' := [(0, _)]) ⟨rfl, trivial⟩ ?_
  refine H_seq ?_
  -- R1 ref.go:272
  refine H_region (l := [_, _, _, _, _]) rfl ?_
  refine HO_move rfl rfl rfl ?_
  refine HO_bi rfl rfl rfl (bi_len_sl Try.underlying28) ?_
  refine HO_bin rfl rfl rfl rfl (bin_add ?_ ?_) ?_
  · omega
  · omega
  refine HO_makeSlice (kd := kByte) (zs := [_]) (x0 := (0 : UInt8)) (m := b.length + 2) rfl rfl rfl rfl Try.underlying28 elt5 rfl rfl ?_ ?_ (fun _ _ => ⟨rfl, trivial⟩) ?_ ?_
  · omega
  · omega
  · omega
  intro g10
  refine HO_assign rfl rfl rfl ?_
  refine HO_nil ?_
  refine H_env (ρ' := [(4, _), (0, _)]) ⟨rfl, rfl, trivial⟩ ?_
  refine H_seq ?_
  -- R2 ref.go:273
  refine H_region (l := [_, _, _, _, _, _, _, _, _]) rfl ?_
  refine HO_move rfl rfl rfl ?_
  refine HO_move rfl rfl rfl ?_
  refine HO_move rfl rfl rfl ?_
  refine HO_bi rfl rfl rfl (bi_len_sl Try.underlying28) ?_
  refine HO_bin rfl rfl rfl rfl (bin_add ?_ ?_) ?_
  · omega
  · omega
  refine HO_indexOwn (i := 0) (j := 0) rfl rfl rfl rfl rfl Try.underlying28 Try.sizeOf5 rfl (by first | rfl | (simp; done) | (simp; omega)) ?_ (Nat.mul_one _) ?_
  · (simp)
  intro g16 z16 hg16 hz16
  refine HO_storeOwn (i := 0) (cs := [_]) (R := [_]) (z' := (165 : UInt8)) rfl rfl rfl Try.sizeOf5 rfl (by simp [Value.oneCell']) rfl hg16 rfl (Nat.mul_one _) ?_ (fun _ _ _ => ⟨rfl, trivial⟩) ?_
  · (simp)
  refine HO_indexOwn (i := 0) (j := b.length + 1) rfl rfl rfl rfl ?_ Try.underlying28 Try.sizeOf5 rfl (by first | rfl | (simp; done) | (simp; omega)) ?_ (Nat.mul_one _) ?_
  · omega
  · (simp)
  intro g17 z17 hg17 hz17
  refine HO_storeOwn (i := 0) (cs := [_]) (R := [_]) (z' := (90 : UInt8)) rfl rfl rfl Try.sizeOf5 rfl (by simp [Value.oneCell']) rfl hg17 rfl (Nat.mul_one _) ?_ (fun _ _ _ => ⟨rfl, trivial⟩) ?_
  · (simp)
  refine HO_nil ?_
  refine H_env (ρ' := [(4, _), (0, _)]) ⟨rfl, rfl, trivial⟩ ?_
  refine H_seq ?_
  refine H_seq ?_
  -- R3 ref.go:274
  refine H_region (l := [_, _, _]) rfl ?_
  refine HO_move rfl rfl rfl ?_
  refine HO_bi rfl rfl rfl (bi_len_sl Try.underlying28) ?_
  refine HO_move rfl rfl rfl ?_
  refine HO_nil ?_
  refine H_block ?_
  refine H_loop (σ := Nat) (fun s => s ≤ b.length) (fun s => [(0, .slice a (b.length) c), (4, .slice (some ⟨g10, 0, none⟩) (b.length + 2) (b.length + 2)), (18, .slice a (b.length) c), (19, .int .i64 ((b.length : Int))), (20, .int .i64 ((s : Int)))]) (fun s => Asn w0 ok0 M0 [.dat kByte.sl (b) [.slice a (b.length) c], .own 5 kByte (some ⟨g10, 0, none⟩) (b.length + 2) (165 :: (List.take s b ++ (List.replicate (b.length - s) 0 ++ [90])))]) (fun s => b.length - s) 0 ?_ ?_ ?_ ?_
  · exact Nat.zero_le _
  · exact ⟨rfl, by rw [List.length_replicate]; rfl, rfl, rfl, rfl, trivial⟩
  · intro w hA
    rw [← Cod.lend0]; exact hA.only (is := [0, 0]) (Z := []) rfl
  · intro i hI
    (try dsimp only at hI ⊢)
    refine H_seq ?_
    -- R4 ref.go:274
    refine H_region (l := [_]) rfl ?_
    refine HO_bin rfl rfl rfl rfl bin_lss ?_
    refine HO_nil ?_
    refine H_seq ?_
    refine H_cond rfl ?_ ?_
    · intro h21
      (try simp only [decide_eq_true_eq, decide_eq_false_iff_not, Bool.not_eq_true', Bool.not_eq_false', Bool.not_eq_true, Bool.not_eq_false, Bool.true_eq_false, Bool.false_eq_true, not_false_eq_true, not_true_eq_false] at h21)
      refine H_skip ?_
      refine H_seq ?_
      refine H_block ?_
      refine H_seq ?_
      -- R5 ref.go:274
      refine H_region (l := [_, _, _, _, _]) rfl ?_
      refine HO_move rfl rfl rfl ?_
      refine HO_indexAddr open_byte (i := 0) rfl rfl rfl rfl rfl Try.underlying28 Try.sizeOf5 rfl ?_ ?_
      · omega
      intro b23 o23 z23 y23 hz23 hI23
      clear y23 hI23
      refine HO_load1 (i := 0) (j := 0) rfl rfl rfl Try.isAgg5 rfl (.elem _ _ _) rfl rfl ?_
      refine HO_assign rfl rfl rfl ?_
      refine HO_assign rfl rfl rfl ?_
      refine HO_nil ?_
      refine H_env (ρ' := [(6, _), (5, _), (0, _), (4, _), (18, _), (19, _), (20, _)]) ⟨rfl, rfl, rfl, rfl, rfl, rfl, rfl, trivial⟩ ?_
      refine H_world (fun _ hA => hA.drop (is := [0]) (Y := [_]) (Z := [_, _]) rfl) ?_
      -- R6 ref.go:275
      refine H_region (l := [_, _, _, _, _, _]) rfl ?_
      refine HO_move rfl rfl rfl ?_
      refine HO_move rfl rfl rfl ?_
      refine HO_bin rfl rfl rfl rfl (bin_add ?_ ?_) ?_
      · omega
      · omega
      refine HO_move rfl rfl rfl ?_
      refine HO_indexOwn (i := 1) (j := i + 1) rfl rfl rfl rfl ?_ Try.underlying28 Try.sizeOf5 rfl (by first | rfl | (simp; done) | (simp; omega)) ?_ (Nat.mul_one _) ?_
      · omega
      · (have : (List.take i b).length = i := (by simp; omega); simp; omega)
      intro g29 z29 hg29 hz29
      refine HO_storeOwn (i := 1) (cs := [_]) (R := [_]) (z' := z23) rfl rfl rfl Try.sizeOf5 rfl (by simp [Value.oneCell']) rfl hg29 rfl (Nat.mul_one _) ?_ (fun _ _ _ => ⟨rfl, trivial⟩) ?_
      · (have : (List.take i b).length = i := (by simp; omega); simp; omega)
      refine HO_nil ?_
      refine H_env (ρ' := [(0, _), (4, _), (18, _), (19, _), (20, _)]) ⟨rfl, rfl, rfl, rfl, rfl, trivial⟩ ?_
      refine H_blk ?_
      -- R7 ref.go:274
      refine H_region (l := [_, _]) rfl ?_
      refine HO_bin rfl rfl rfl rfl (bin_add ?_ ?_) ?_
      · omega
      · omega
      refine HO_move rfl rfl rfl ?_
      refine HO_nil ?_
      refine H_env (ρ' := [(20, _), (0, _), (4, _), (18, _), (19, _)]) ⟨rfl, rfl, rfl, rfl, rfl, trivial⟩ ?_
      refine H_inv (fun a w hf hA => ⟨i + 1, ?_, ?_, hf.sub ?_, ?_⟩)
      · omega
      · (try dsimp only); omega
      · exact ⟨rfl, rfl, rfl, rfl, rfl, trivial⟩
      · rw [Cod.lend1 hz23]; exact hA.only (is := [0, 0]) (Z := []) rfl
    · intro h21
      (try simp only [decide_eq_true_eq, decide_eq_false_iff_not, Bool.not_eq_true', Bool.not_eq_false', Bool.not_eq_true, Bool.not_eq_false, Bool.true_eq_false, Bool.false_eq_true, not_false_eq_true, not_true_eq_false] at h21)
      refine H_exit rfl ?_
      refine H_seq ?_
      obtain rfl : i = b.length := by omega
      rw [Cod.lend2]
      refine H_set (v' := .slice (some ⟨g10, 0, none⟩) (165 :: (b ++ [90]) : List UInt8).length (b.length + 2)) 4 rfl (by simp) ?_
      refine H_freeze (i := 1) (R := [_]) rfl hMn ?_
      -- R8 ref.go:277 draws
      refine H_draw (is := [0, 1]) (Xs := [_, _]) (Z := []) (fuel := 8) (l := #[false, false, false, false, false, false, false, false]) mixed rfl rfl rfl ?_
      refine HA_take (i := 0) (listed' := #[true, false, false, false, false, false, false, false]) (bodyPost_pan _ _ _) rfl rfl rfl rfl (by kernel_rfl) rfl (V_move rfl) (fun _ hA => hA.only (is := [0, 1]) (Y := [_, _]) (Z := []) rfl) ?_
      refine HA_take (i := 1) (listed' := #[true, true, false, false, false, false, false, false]) (bodyPost_pan _ _ _) rfl rfl rfl rfl (by kernel_rfl) rfl (V_move rfl) (fun _ hA => hA.only (is := [0, 1]) (Y := [_, _]) (Z := []) rfl) ?_
      refine HA_take (i := 2) (listed' := #[true, true, true, false, false, false, false, false]) (bodyPost_pan _ _ _) rfl rfl rfl rfl (by kernel_rfl) rfl (V_move rfl) (fun _ hA => hA.only (is := [0, 1]) (Y := [_, _]) (Z := []) rfl) ?_
      refine HA_take (i := 3) (listed' := #[true, true, true, true, false, false, false, false]) (bodyPost_pan _ _ _) rfl rfl rfl rfl (by kernel_rfl) rfl (V_bi rfl (bi_len_sl Try.underlying28)) (fun _ hA => hA.only (is := [0, 1]) (Y := [_, _]) (Z := []) rfl) ?_
      refine HA_take (i := 4) (listed' := #[true, true, true, true, true, false, false, false]) (bodyPost_pan _ _ _) rfl rfl rfl rfl (by kernel_rfl) rfl (V_bin rfl rfl (bin_add ?_ ?_)) (fun _ hA => hA.only (is := [0, 1]) (Y := [_, _]) (Z := []) rfl) ?_
      · omega
      · omega
      refine HA_take (i := 6) (listed' := #[true, true, true, true, true, false, true, false]) (bodyPost_pan _ _ _) rfl rfl rfl rfl (by kernel_rfl) rfl (V_assign rfl) (fun _ hA => hA.only (is := [0, 1]) (Y := [_, _]) (Z := []) rfl) ?_
      refine HA_loud1 (i := 5) (by kernel_rfl) rfl ?_
      refine HO_slice_lh (i := 0) (l := 1) (h' := b.length + 1) rfl rfl rfl rfl rfl rfl ?_ Try.underlying28 Try.sizeOf5 rfl ?_ ?_ ?_
      · omega
      · omega
      · (simp)
      intro a36 c36
      refine HA_back (listed' := #[true, true, true, true, true, true, true, false]) rfl (fun _ hA => hA.only (is := [1, 2]) (Y := [_, _]) (Z := [_]) rfl) ?_
      refine HA_take (i := 7) (listed' := #[true, true, true, true, true, true, true, true]) (bodyPost_pan _ _ _) rfl rfl rfl rfl (by kernel_rfl) rfl (V_assign rfl) (fun _ hA => hA.only (is := [1, 2]) (Y := [_, _]) (Z := [_]) rfl) ?_
      refine HA_done (by kernel_rfl) ?_
      refine H_env (ρ' := [(3, _), (2, _)]) ⟨rfl, rfl, trivial⟩ ?_
      refine H_world (fun _ hA => hA.drop (is := [2]) (Y := [_]) (Z := [_, _]) rfl) ?_
      rw [Cod.lend3]
      -- end1
      refine H_ret2 Try.results22 (.tmp rfl) (.tmp rfl) (fun w hA => ⟨(some ⟨g10, 0, none⟩, b.length + 2, a36, c36), congrArg Ending.returned ?_, ?_, ?_⟩)
      · rfl
      · trivial
      · exact hA.only (is := [0, 0]) (Z := []) rfl
theorem rKept_spec (b : List UInt8) (a : Option Addr) (c : Nat) (a2 : Option Addr) (c2 : Nat) (hb : b.length ≤ 1099511627776) : Spec Try.prog 30 #[.slice a ((165 :: (b ++ [90]) : List UInt8).length) c, .slice a2 (b.length) c2] [.dat kByte.sl ((165 :: (b ++ [90]) : List UInt8)) [.slice a ((165 :: (b ++ [90]) : List UInt8).length) c], .dat kByte.sl (b) [.slice a2 (b.length) c2]] (β := Unit) (fun y => .bool (true)) (fun y => True) (fun y => []) := by
  refine Spec.enter (vs := [_, _]) Try.func30 rfl Try.ntmps30 rfl (Nat.le_of_ble_eq_true rfl) (fun w0 ok0 => ?_)
  generalize hM0 : blks _ = M0
  have hMn : ∀ {R : List Atom} (b : Nat), M0 b → blks R b := fun b hb => absurd (hM0 ▸ hb) (blks_none (by simp [Atom.dat, Atom.elem]) b)
  refine H_seq ?_
  -- R0 ref.go:281
  refine H_region (l := [_]) rfl ?_
  refine HO_assign rfl rfl rfl ?_
  refine HO_nil ?_
  refine H_env (ρ' := [(0, _), (1, _)]) ⟨rfl, rfl, trivial⟩ ?_
  refine H_seq ?_
  -- R1 ref.go:282 draws
  refine H_draw (is := [0, 1]) (Xs := [_, _]) (Z := []) (fuel := 33) (l := #[false, false, false, false, false, false, false, false, false, false, false, false, false, false, false, false, false, false, false, false, false, false, false, false, false, false, false, false, false, false, false, false, false]) mixed rfl rfl rfl ?_
  refine HA_take (i := 0) (listed' := #[true, false, false, false, false, false, false, false, false, false, false, false, false, false, false, false, false, false, false, false, false, false, false, false, false, false, false, false, false, false, false, false, false]) (bodyPost_pan _ _ _) rfl rfl rfl rfl (by kernel_rfl) rfl (V_move rfl) (fun _ hA => hA.only (is := [0, 1]) (Y := [_, _]) (Z := []) rfl) ?_
  refine HA_take (i := 1) (listed' := #[true, true, false, false, false, false, false, false, false, false, false, false, false, false, false, false, false, false, false, false, false, false, false, false, false, false, false, false, false, false, false, false, false]) (bodyPost_pan _ _ _) rfl rfl rfl rfl (by kernel_rfl) rfl (V_bi rfl (bi_len_sl Try.underlying28)) (fun _ hA => hA.only (is := [0, 1]) (Y := [_, _]) (Z := []) rfl) ?_
  refine HA_take (i := 2) (listed' := #[true, true, true, false, false, false, false, false, false, false, false, false, false, false, false, false, false, false, false, false, false, false, false, false, false, false, false, false, false, false, false, false, false]) (bodyPost_pan _ _ _) rfl rfl rfl rfl (by kernel_rfl) rfl (V_move rfl) (fun _ hA => hA.only (is := [0, 1]) (Y := [_, _]) (Z := []) rfl) ?_
  refine HA_take (i := 3) (listed' := #[true, true, true, true, false, false, false, false, false, false, false, false, false, false, false, false, false, false, false, false, false, false, false, false, false, false, false, false, false, false, false, false, false]) (bodyPost_pan _ _ _) rfl rfl rfl rfl (by kernel_rfl) rfl (V_bi rfl (bi_len_sl Try.underlying28)) (fun _ hA => hA.only (is := [0, 1]) (Y := [_, _]) (Z := []) rfl) ?_
  refine HA_take (i := 4) (listed' := #[true, true, true, true, true, false, false, false, false, false, false, false, false, false, false, false, false, false, false, false, false, false, false, false, false, false, false, false, false, false, false, false, false]) (bodyPost_pan _ _ _) rfl rfl rfl rfl (by kernel_rfl) rfl (V_bin rfl rfl (bin_add ?_ ?_)) (fun _ hA => hA.only (is := [0, 1]) (Y := [_, _]) (Z := []) rfl) ?_
  · omega
  · omega
  refine HA_take (i := 5) (listed' := #[true, true, true, true, true, true, false, false, false, false, false, false, false, false, false, false, false, false, false, false, false, false, false, false, false, false, false, false, false, false, false, false, false]) (bodyPost_pan _ _ _) rfl rfl rfl rfl (by kernel_rfl) rfl (V_bin rfl rfl bin_eql) (fun _ hA => hA.only (is := [0, 1]) (Y := [_, _]) (Z := []) rfl) ?_
  refine HA_take (i := 6) (listed' := #[true, true, true, true, true, true, true, false, false, false, false, false, false, false, false, false, false, false, false, false, false, false, false, false, false, false, false, false, false, false, false, false, false]) (bodyPost_pan _ _ _) rfl rfl rfl rfl (by kernel_rfl) rfl (V_move rfl) (fun _ hA => hA.only (is := [0, 1]) (Y := [_, _]) (Z := []) rfl) ?_
  refine HA_split (d := 11) rfl ?_ ?_
  · intro h11
    (try simp only [decide_eq_true_eq, decide_eq_false_iff_not, Bool.not_eq_true', Bool.not_eq_false', Bool.not_eq_true, Bool.not_eq_false, Bool.true_eq_false, Bool.false_eq_true, not_false_eq_true, not_true_eq_false] at h11)
    refine HA_take (i := 7) (listed' := #[true, true, true, true, true, true, true, true, false, false, false, false, false, false, false, false, false, false, false, false, false, false, false, false, false, false, false, false, false, false, false, false, false]) (bodyPost_pan _ _ _) rfl rfl rfl rfl (by kernel_rfl) rfl (V_move rfl) (fun _ hA => hA.only (is := [0, 1]) (Y := [_, _]) (Z := []) rfl) ?_
    refine HA_loud1 (i := 8) (by kernel_rfl) rfl ?_
    refine HO_indexAddr open_byte (i := 0) (j := 0) rfl rfl rfl rfl rfl Try.underlying28 Try.sizeOf5 rfl ?_ ?_
    · (simp)
    intro b13 o13 z13 y13 hz13 hI13
    clear y13 hI13
    refine HA_back (listed' := #[true, true, true, true, true, true, true, true, true, false, false, false, false, false, false, false, false, false, false, false, false, false, false, false, false, false, false, false, false, false, false, false, false]) rfl (fun _ hA => hA.only (is := [1, 2]) (Y := [_, _]) (Z := [_]) rfl) ?_
    refine HA_loud1 (i := 9) (by kernel_rfl) rfl ?_
    refine HO_load1 (i := 0) (j := 0) rfl rfl rfl Try.isAgg5 rfl (.elem _ _ _) rfl rfl ?_
    refine HA_back (listed' := #[true, true, true, true, true, true, true, true, true, true, false, false, false, false, false, false, false, false, false, false, false, false, false, false, false, false, false, false, false, false, false, false, false]) rfl (fun _ hA => hA.only (is := [1, 2]) (Y := [_, _]) (Z := [_]) rfl) ?_
    refine HA_take (i := 10) (listed' := #[true, true, true, true, true, true, true, true, true, true, true, false, false, false, false, false, false, false, false, false, false, false, false, false, false, false, false, false, false, false, false, false, false]) (bodyPost_pan _ _ _) rfl rfl rfl rfl (by kernel_rfl) rfl (V_bin rfl rfl bin_eql) (fun _ hA => hA.only (is := [1, 2]) (Y := [_, _]) (Z := [_]) rfl) ?_
    refine HA_take (i := 11) (listed' := #[true, true, true, true, true, true, true, true, true, true, true, true, false, false, false, false, false, false, false, false, false, false, false, false, false, false, false, false, false, false, false, false, false]) (bodyPost_pan _ _ _) rfl rfl rfl rfl (by kernel_rfl) rfl (V_pick_t rfl rfl) (fun _ hA => hA.only (is := [1, 2]) (Y := [_, _]) (Z := [_]) rfl) ?_
    refine HA_take (i := 12) (listed' := #[true, true, true, true, true, true, true, true, true, true, true, true, true, false, false, false, false, false, false, false, false, false, false, false, false, false, false, false, false, false, false, false, false]) (bodyPost_pan _ _ _) rfl rfl rfl rfl (by kernel_rfl) rfl (V_move rfl) (fun _ hA => hA.only (is := [1, 2]) (Y := [_, _]) (Z := [_]) rfl) ?_
    refine HA_split (d := 17) rfl ?_ ?_
    · intro h17
      (try simp only [decide_eq_true_eq, decide_eq_false_iff_not, Bool.not_eq_true', Bool.not_eq_false', Bool.not_eq_true, Bool.not_eq_false, Bool.true_eq_false, Bool.false_eq_true, not_false_eq_true, not_true_eq_false] at h17)
      refine HA_take (i := 13) (listed' := #[true, true, true, true, true, true, true, true, true, true, true, true, true, true, false, false, false, false, false, false, false, false, false, false, false, false, false, false, false, false, false, false, false]) (bodyPost_pan _ _ _) rfl rfl rfl rfl (by kernel_rfl) rfl (V_move rfl) (fun _ hA => hA.only (is := [1, 2]) (Y := [_, _]) (Z := [_]) rfl) ?_
      refine HA_take (i := 14) (listed' := #[true, true, true, true, true, true, true, true, true, true, true, true, true, true, true, false, false, false, false, false, false, false, false, false, false, false, false, false, false, false, false, false, false]) (bodyPost_pan _ _ _) rfl rfl rfl rfl (by kernel_rfl) rfl (V_move rfl) (fun _ hA => hA.only (is := [1, 2]) (Y := [_, _]) (Z := [_]) rfl) ?_
      refine HA_take (i := 15) (listed' := #[true, true, true, true, true, true, true, true, true, true, true, true, true, true, true, true, false, false, false, false, false, false, false, false, false, false, false, false, false, false, false, false, false]) (bodyPost_pan _ _ _) rfl rfl rfl rfl (by kernel_rfl) rfl (V_bi rfl (bi_len_sl Try.underlying28)) (fun _ hA => hA.only (is := [1, 2]) (Y := [_, _]) (Z := [_]) rfl) ?_
      refine HA_take (i := 16) (listed' := #[true, true, true, true, true, true, true, true, true, true, true, true, true, true, true, true, true, false, false, false, false, false, false, false, false, false, false, false, false, false, false, false, false]) (bodyPost_pan _ _ _) rfl rfl rfl rfl (by kernel_rfl) rfl (V_bin rfl rfl (bin_add ?_ ?_)) (fun _ hA => hA.only (is := [1, 2]) (Y := [_, _]) (Z := [_]) rfl) ?_
      · omega
      · omega
      refine HA_loud1 (i := 17) (by kernel_rfl) rfl ?_
      refine HO_indexAddr open_byte (i := 1) (j := b.length + 1) rfl rfl rfl rfl ?_ Try.underlying28 Try.sizeOf5 rfl ?_ ?_
      · omega
      · (simp)
      intro b22 o22 z22 y22 hz22 hI22
      clear y22 hI22
      refine HA_back (listed' := #[true, true, true, true, true, true, true, true, true, true, true, true, true, true, true, true, true, true, false, false, false, false, false, false, false, false, false, false, false, false, false, false, false]) rfl (fun _ hA => hA.only (is := [2, 3]) (Y := [_, _]) (Z := [_, _]) rfl) ?_
      refine HA_loud1 (i := 18) (by kernel_rfl) rfl ?_
      refine HO_load1 (i := 0) (j := 0) rfl rfl rfl Try.isAgg5 rfl (.elem _ _ _) rfl rfl ?_
      refine HA_back (listed' := #[true, true, true, true, true, true, true, true, true, true, true, true, true, true, true, true, true, true, true, false, false, false, false, false, false, false, false, false, false, false, false, false, false]) rfl (fun _ hA => hA.only (is := [2, 3]) (Y := [_, _]) (Z := [_, _]) rfl) ?_
      refine HA_take (i := 19) (listed' := #[true, true, true, true, true, true, true, true, true, true, true, true, true, true, true, true, true, true, true, true, false, false, false, false, false, false, false, false, false, false, false, false, false]) (bodyPost_pan _ _ _) rfl rfl rfl rfl (by kernel_rfl) rfl (V_bin rfl rfl bin_eql) (fun _ hA => hA.only (is := [2, 3]) (Y := [_, _]) (Z := [_, _]) rfl) ?_
      refine HA_take (i := 20) (listed' := #[true, true, true, true, true, true, true, true, true, true, true, true, true, true, true, true, true, true, true, true, true, false, false, false, false, false, false, false, false, false, false, false, false]) (bodyPost_pan _ _ _) rfl rfl rfl rfl (by kernel_rfl) rfl (V_pick_t rfl rfl) (fun _ hA => hA.only (is := [2, 3]) (Y := [_, _]) (Z := [_, _]) rfl) ?_
      refine HA_take (i := 21) (listed' := #[true, true, true, true, true, true, true, true, true, true, true, true, true, true, true, true, true, true, true, true, true, true, false, false, false, false, false, false, false, false, false, false, false]) (bodyPost_pan _ _ _) rfl rfl rfl rfl (by kernel_rfl) rfl (V_move rfl) (fun _ hA => hA.only (is := [2, 3]) (Y := [_, _]) (Z := [_, _]) rfl) ?_
      refine HA_split (d := 26) rfl ?_ ?_
      · intro h26
        (try simp only [decide_eq_true_eq, decide_eq_false_iff_not, Bool.not_eq_true', Bool.not_eq_false', Bool.not_eq_true, Bool.not_eq_false, Bool.true_eq_false, Bool.false_eq_true, not_false_eq_true, not_true_eq_false] at h26)
        refine HA_take (i := 22) (listed' := #[true, true, true, true, true, true, true, true, true, true, true, true, true, true, true, true, true, true, true, true, true, true, true, false, false, false, false, false, false, false, false, false, false]) (bodyPost_pan _ _ _) rfl rfl rfl rfl (by kernel_rfl) rfl (V_move rfl) (fun _ hA => hA.only (is := [2, 3]) (Y := [_, _]) (Z := [_, _]) rfl) ?_
        refine HA_take (i := 23) (listed' := #[true, true, true, true, true, true, true, true, true, true, true, true, true, true, true, true, true, true, true, true, true, true, true, true, false, false, false, false, false, false, false, false, false]) (bodyPost_pan _ _ _) rfl rfl rfl rfl (by kernel_rfl) rfl (V_move rfl) (fun _ hA => hA.only (is := [2, 3]) (Y := [_, _]) (Z := [_, _]) rfl) ?_
        refine HA_take (i := 24) (listed' := #[true, true, true, true, true, true, true, true, true, true, true, true, true, true, true, true, true, true, true, true, true, true, true, true, true, false, false, false, false, false, false, false, false]) (bodyPost_pan _ _ _) rfl rfl rfl rfl (by kernel_rfl) rfl (V_bi rfl (bi_len_sl Try.underlying28)) (fun _ hA => hA.only (is := [2, 3]) (Y := [_, _]) (Z := [_, _]) rfl) ?_
        refine HA_take (i := 25) (listed' := #[true, true, true, true, true, true, true, true, true, true, true, true, true, true, true, true, true, true, true, true, true, true, true, true, true, true, false, false, false, false, false, false, false]) (bodyPost_pan _ _ _) rfl rfl rfl rfl (by kernel_rfl) rfl (V_bin rfl rfl (bin_add ?_ ?_)) (fun _ hA => hA.only (is := [2, 3]) (Y := [_, _]) (Z := [_, _]) rfl) ?_
        · omega
        · omega
        refine HA_take (i := 28) (listed' := #[true, true, true, true, true, true, true, true, true, true, true, true, true, true, true, true, true, true, true, true, true, true, true, true, true, true, false, false, true, false, false, false, false]) (bodyPost_pan _ _ _) rfl rfl rfl rfl (by kernel_rfl) rfl (V_move rfl) (fun _ hA => hA.only (is := [2, 3]) (Y := [_, _]) (Z := [_, _]) rfl) ?_
        refine HA_take (i := 29) (listed' := #[true, true, true, true, true, true, true, true, true, true, true, true, true, true, true, true, true, true, true, true, true, true, true, true, true, true, false, false, true, true, false, false, false]) (bodyPost_pan _ _ _) rfl rfl rfl rfl (by kernel_rfl) rfl (V_bytesStr (i := 1) rfl Try.underlying28 Try.underlying9 Try.underlying5 rfl) (fun _ hA => hA.only (is := [2, 3]) (Y := [_, _]) (Z := [_, _]) rfl) ?_
        refine HA_loud1 (i := 26) (by kernel_rfl) rfl ?_
        refine HO_slice_lh (i := 2) (l := 1) (h' := b.length + 1) rfl rfl rfl rfl rfl rfl ?_ Try.underlying28 Try.sizeOf5 rfl ?_ ?_ ?_
        · omega
        · omega
        · (simp)
        intro a31 c31
        refine HA_back (listed' := #[true, true, true, true, true, true, true, true, true, true, true, true, true, true, true, true, true, true, true, true, true, true, true, true, true, true, true, false, true, true, false, false, false]) rfl (fun _ hA => hA.only (is := [3, 4]) (Y := [_, _]) (Z := [_, _, _]) rfl) ?_
        refine HA_loud1 (i := 27) (by kernel_rfl) rfl ?_
        refine HO_bytesStr (i := 0) rfl rfl rfl Try.underlying28 Try.underlying9 Try.underlying5 rfl ?_
        refine HA_back (listed' := #[true, true, true, true, true, true, true, true, true, true, true, true, true, true, true, true, true, true, true, true, true, true, true, true, true, true, true, true, true, true, false, false, false]) rfl (fun _ hA => hA.only (is := [3, 4]) (Y := [_, _]) (Z := [_, _, _]) rfl) ?_
        refine HA_take (i := 30) (listed' := #[true, true, true, true, true, true, true, true, true, true, true, true, true, true, true, true, true, true, true, true, true, true, true, true, true, true, true, true, true, true, true, false, false]) (bodyPost_pan _ _ _) rfl rfl rfl rfl (by kernel_rfl) rfl (V_bin rfl rfl bin_eqs) (fun _ hA => hA.only (is := [3, 4]) (Y := [_, _]) (Z := [_, _, _]) rfl) ?_
        refine HA_take (i := 31) (listed' := #[true, true, true, true, true, true, true, true, true, true, true, true, true, true, true, true, true, true, true, true, true, true, true, true, true, true, true, true, true, true, true, true, false]) (bodyPost_pan _ _ _) rfl rfl rfl rfl (by kernel_rfl) rfl (V_pick_t rfl rfl) (fun _ hA => hA.only (is := [3, 4]) (Y := [_, _]) (Z := [_, _, _]) rfl) ?_
        refine HA_take (i := 32) (listed' := #[true, true, true, true, true, true, true, true, true, true, true, true, true, true, true, true, true, true, true, true, true, true, true, true, true, true, true, true, true, true, true, true, true]) (bodyPost_pan _ _ _) rfl rfl rfl rfl (by kernel_rfl) rfl (V_assign rfl) (fun _ hA => hA.only (is := [3, 4]) (Y := [_, _]) (Z := [_, _, _]) rfl) ?_
        refine HA_done (by kernel_rfl) ?_
        refine H_env (ρ' := [(4, _)]) ⟨rfl, trivial⟩ ?_
        refine H_world (fun _ hA => hA.drop (is := [0, 1, 2, 3, 4]) (Y := [_, _, _, _, _]) (Z := []) rfl) ?_
        -- end1
        refine H_ret1 Try.results30 (.tmp rfl) (fun w hA => ⟨(), congrArg Ending.returned ?_, ?_, ?_⟩)
        · (exact congrArg Value.bool (by simp))
        · trivial
        · exact hA.only (is := []) (Z := []) rfl
      · intro h26
        (try simp only [decide_eq_true_eq, decide_eq_false_iff_not, Bool.not_eq_true', Bool.not_eq_false', Bool.not_eq_true, Bool.not_eq_false, Bool.true_eq_false, Bool.false_eq_true, not_false_eq_true, not_true_eq_false] at h26)
        (exfalso; simp at hz22; subst hz22; exact absurd rfl h26)
    · intro h17
      (try simp only [decide_eq_true_eq, decide_eq_false_iff_not, Bool.not_eq_true', Bool.not_eq_false', Bool.not_eq_true, Bool.not_eq_false, Bool.true_eq_false, Bool.false_eq_true, not_false_eq_true, not_true_eq_false] at h17)
      (exfalso; simp at hz13; subst hz13; exact absurd rfl h17)
  · intro h11
    (try simp only [decide_eq_true_eq, decide_eq_false_iff_not, Bool.not_eq_true', Bool.not_eq_false', Bool.not_eq_true, Bool.not_eq_false, Bool.true_eq_false, Bool.false_eq_true, not_false_eq_true, not_true_eq_false] at h11)
    (exfalso; simp at h11; omega)
end Go.Wk
