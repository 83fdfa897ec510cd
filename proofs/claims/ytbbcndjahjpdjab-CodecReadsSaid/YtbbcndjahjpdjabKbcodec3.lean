/- Contracts of the program's functions, each proved by walking its code. -/
import Derived.Test.YtbbcndjahjpdjabKbcodec2
set_option maxRecDepth 100000
set_option linter.unusedVariables false
set_option linter.unusedSimpArgs false
namespace Go.Wk.Fcodec3
open Go Go.RowKit Go.Proofs Go.Wk
theorem elt5 : Elt Try.prog 5 (.int .u8 (0)) 1 1 := Elt.of (by kernel_rfl) (by rfl) (by decide) (by decide)
end Go.Wk.Fcodec3
namespace Go.Wk
open Go Go.RowKit Go.Proofs Fcodec3 
theorem little_spec (b : List UInt8) (u n : Nat) (a : Option Addr) (c : Nat) (hu : u < 4294967296) (hn : n ≤ 100) (hb : b.length ≤ 1099511627776) : Spec Try.prog 154 #[.slice a (b.length) c, .int .u32 (u), .int .i64 ((n : Int))] [.own 5 kByte a c (b)] (β := Option Addr × Nat) (fun y => .slice y.1 ((b ++ Cod.le u n).length) y.2) (fun y => True) (fun y => [.own 5 kByte y.1 y.2 (b ++ Cod.le u n)]) := by
  refine Spec.enter (vs := [_, _, _]) Try.func154 rfl Try.ntmps154 rfl (Nat.le_of_ble_eq_true rfl) (fun w0 ok0 => ?_)
  generalize hM0 : blks _ = M0
  refine H_seq ?_
  -- R0 codec.go:29
  refine H_region (l := [_]) rfl ?_
  refine HO_assign rfl rfl rfl ?_
  refine HO_nil ?_
  refine H_env (ρ' := [(0, _), (1, _), (2, _)]) ⟨rfl, rfl, rfl, trivial⟩ ?_
  refine H_seq ?_
  refine H_seq ?_
  -- R1 codec.go:30
  refine H_region (l := [_, _]) rfl ?_
  refine HO_move rfl rfl rfl ?_
  refine HO_move rfl rfl rfl ?_
  refine HO_nil ?_
  refine H_env (ρ' := [(8, _), (7, _), (0, _), (1, _)]) ⟨rfl, rfl, rfl, rfl, trivial⟩ ?_
  refine H_block ?_
  refine H_loop (σ := Nat × Nat × List UInt8 × Option Addr × Nat) (fun s => s.2.2.1 ++ Cod.le s.2.1 (n - s.1) = b ++ Cod.le u n ∧ s.1 ≤ n ∧ s.2.1 < 4294967296) (fun s => [(0, .slice s.2.2.2.1 (s.2.2.1.length) s.2.2.2.2), (1, .int .u32 ((s.2.1 : Int))), (7, .int .i64 ((n : Int))), (8, .int .i64 ((s.1 : Int)))]) (fun s => Asn w0 ok0 M0 [.own 5 kByte s.2.2.2.1 s.2.2.2.2 (s.2.2.1)]) (fun s => n - s.1) ⟨0, u, b, a, c⟩ ?_ ?_ ?_ ?_
  · exact ⟨rfl, Nat.zero_le _, hu⟩
  · exact ⟨rfl, rfl, rfl, rfl, trivial⟩
  · intro w hA
    exact hA.only (is := [0]) (Z := []) rfl
  · rintro ⟨i, v, l, a, c⟩ hI
    (try dsimp only at hI ⊢)
    refine H_seq ?_
    -- R2 codec.go:30
    refine H_region (l := [_]) rfl ?_
    refine HO_bin rfl rfl rfl rfl bin_lss ?_
    refine HO_nil ?_
    refine H_seq ?_
    refine H_cond rfl ?_ ?_
    · intro h9
      (try simp only [decide_eq_true_eq, decide_eq_false_iff_not, Bool.not_eq_true', Bool.not_eq_false', Bool.not_eq_true, Bool.not_eq_false, Bool.true_eq_false, Bool.false_eq_true, not_false_eq_true, not_true_eq_false] at h9)
      refine H_skip ?_
      refine H_seq ?_
      refine H_block ?_
      -- R3 codec.go:31
      refine H_region (l := [_, _, _, _, _, _, _, _, _]) rfl ?_
      refine HO_move rfl rfl rfl ?_
      refine HO_move rfl rfl rfl ?_
      refine HO_conv rfl rfl rfl (cv_int Try.underlying124 Try.underlying5 (wrap_u rfl _)) ?_
      refine HO_set (v' := .int .u8 (((UInt8.ofNat v).toNat : Int))) 12 rfl (by exact byte_eq rfl) ?_
      refine HO_buildSlice (kd := kByte) (xo := [_]) (vs := [_]) (cs := [_]) (xs := [_]) rfl rfl rfl rfl Try.underlying25 elt5 rfl rfl rfl (by decide) (by decide) (by simp [Value.cells]) rfl (fun _ _ _ => ⟨_, _, rfl, ⟨rfl, trivial⟩, rfl⟩) ?_
      intro g13
      refine HO_append (i := 1) (R := [_]) rfl rfl rfl rfl rfl Try.underlying25 elt5 rfl rfl (SrcOk.own (j := 0) Try.underlying25 rfl rfl) ?_ ?_
      · (simp only [List.length_cons, List.length_nil]; have := congrArg List.length hI.1; simp only [List.length_append, Cod.le_length] at this; omega)
      intro a14 c14
      refine HO_move rfl rfl rfl ?_
      refine HO_bin rfl rfl rfl rfl (bin_shr (s := 8) ?_) ?_
      · (simp only [IntKind.bits]; omega)
      refine HO_assign rfl rfl rfl ?_
      refine HO_assign rfl rfl rfl ?_
      refine HO_nil ?_
      refine H_env (ρ' := [(1, _), (0, _), (7, _), (8, _)]) ⟨rfl, rfl, rfl, rfl, trivial⟩ ?_
      refine H_world (fun _ hA => hA.drop (is := [1]) (Y := [_]) (Z := [_]) rfl) ?_
      refine H_blk ?_
      -- R4 codec.go:30
      refine H_region (l := [_, _]) rfl ?_
      refine HO_bin rfl rfl rfl rfl (bin_add ?_ ?_) ?_
      · omega
      · omega
      refine HO_move rfl rfl rfl ?_
      refine HO_nil ?_
      refine H_env (ρ' := [(8, _), (1, _), (0, _), (7, _)]) ⟨rfl, rfl, rfl, rfl, trivial⟩ ?_
      refine H_inv (fun a w hf hA => ⟨⟨i + 1, v / 2 ^ 8, l ++ [UInt8.ofNat v], a14, c14⟩, ?_, ?_, hf.sub ?_, ?_⟩)
      · exact ⟨by rw [← hI.1]; obtain ⟨q, hq⟩ : ∃ q, n - i = q + 1 := ⟨n - i - 1, by omega⟩; rw [hq, show n - (i + 1) = q by omega]; simp [Cod.le], by omega, by have h3 := hI.2.2; show v / 2 ^ 8 < _; omega⟩
      · (try dsimp only); omega
      · exact ⟨rfl, rfl, rfl, rfl, trivial⟩
      · exact hA.only (is := [0]) (Z := []) rfl
    · intro h9
      (try simp only [decide_eq_true_eq, decide_eq_false_iff_not, Bool.not_eq_true', Bool.not_eq_false', Bool.not_eq_true, Bool.not_eq_false, Bool.true_eq_false, Bool.false_eq_true, not_false_eq_true, not_true_eq_false] at h9)
      refine H_exit rfl ?_
      refine H_seq ?_
      -- R5 codec.go:33
      refine H_region (l := [_, _]) rfl ?_
      refine HO_move rfl rfl rfl ?_
      refine HO_assign rfl rfl rfl ?_
      refine HO_nil ?_
      refine H_env (ρ' := [(6, _)]) ⟨rfl, trivial⟩ ?_
      obtain rfl : i = n := by omega
      have hI1 := hI.1
      simp only [Nat.sub_self, Cod.le, List.append_nil] at hI1
      subst hI1
      -- end1
      refine H_ret1 Try.results154 (.tmp rfl) (fun w hA => ⟨(a, c), congrArg Ending.returned ?_, ?_, ?_⟩)
      · rfl
      · trivial
      · exact hA.only (is := [0]) (Z := []) rfl
theorem Sum_spec (b : List UInt8) (a : Option Addr) (c : Nat)  : Spec Try.prog 85 #[.slice a (b.length) c] [.dat kByte.sl (b) [.slice a (b.length) c]] (β := Unit) (fun y => .int .u32 ((Cod.crc b : Int))) (fun y => True) (fun y => []) := by
  refine Spec.enter (vs := [_]) Try.func85 rfl Try.ntmps85 rfl (Nat.le_of_ble_eq_true rfl) (fun w0 ok0 => ?_)
  generalize hM0 : blks _ = M0
  have hMn : ∀ {R : List Atom} (b : Nat), M0 b → blks R b := fun b hb => absurd (hM0 ▸ hb) (blks_none (by simp [Atom.dat, Atom.elem]) b)
  refine H_seq ?_
  -- R0 codec.go:17
  refine H_region (l := [_]) rfl ?_
  refine HO_assign rfl rfl rfl ?_
  refine HO_nil ?_
  refine H_env (ρ' := [(0, _)]) ⟨rfl, trivial⟩ ?_
  refine H_seq ?_
  -- R1 codec.go:18
  refine H_region (l := [_]) rfl ?_
  refine HO_assign rfl rfl rfl ?_
  refine HO_nil ?_
  refine H_seq ?_
  refine H_seq ?_
  -- R2 codec.go:19
  refine H_len_le (i := 0) rfl (fun hlen => ?_)
  refine H_region (l := [_, _, _]) rfl ?_
  refine HO_move rfl rfl rfl ?_
  refine HO_bi rfl rfl rfl (bi_len_sl Try.underlying25) ?_
  refine HO_move rfl rfl rfl ?_
  refine HO_nil ?_
  refine H_env (ρ' := [(8, _), (7, _), (6, _), (3, _)]) ⟨rfl, rfl, rfl, rfl, trivial⟩ ?_
  refine H_block ?_
  refine H_loop (σ := Nat) (fun s => s ≤ b.length) (fun s => [(6, .slice a (b.length) c), (3, .int .u32 ((Cod.crcS 4294967295 (List.take s b) : Int))), (7, .int .i64 ((b.length : Int))), (8, .int .i64 ((s : Int)))]) (fun s => Asn w0 ok0 M0 [.dat kByte.sl (b) [.slice a (b.length) c]]) (fun s => b.length - s) 0 ?_ ?_ ?_ ?_
  · exact Nat.zero_le _
  · exact ⟨rfl, rfl, rfl, rfl, trivial⟩
  · intro w hA
    exact hA.only (is := [0]) (Z := []) rfl
  · intro i hI
    (try dsimp only at hI ⊢)
    refine H_seq ?_
    -- R3 codec.go:19
    refine H_region (l := [_]) rfl ?_
    refine HO_bin rfl rfl rfl rfl bin_lss ?_
    refine HO_nil ?_
    refine H_seq ?_
    refine H_cond rfl ?_ ?_
    · intro h9
      (try simp only [decide_eq_true_eq, decide_eq_false_iff_not, Bool.not_eq_true', Bool.not_eq_false', Bool.not_eq_true, Bool.not_eq_false, Bool.true_eq_false, Bool.false_eq_true, not_false_eq_true, not_true_eq_false] at h9)
      refine H_skip ?_
      refine H_seq ?_
      refine H_block ?_
      refine H_seq ?_
      -- R4 codec.go:19
      refine H_region (l := [_, _, _]) rfl ?_
      refine HO_indexAddr open_byte (i := 0) rfl rfl rfl rfl rfl Try.underlying25 Try.sizeOf5 rfl ?_ ?_
      · omega
      intro b10 o10 z10 y10 hz10 hI10
      clear y10 hI10
      refine HO_load1 (i := 0) (j := 0) rfl rfl rfl Try.isAgg5 rfl (.elem _ _ _) rfl rfl ?_
      refine HO_assign rfl rfl rfl ?_
      refine HO_nil ?_
      refine H_env (ρ' := [(5, _), (6, _), (3, _), (7, _), (8, _)]) ⟨rfl, rfl, rfl, rfl, rfl, trivial⟩ ?_
      refine H_world (fun _ hA => hA.drop (is := [0]) (Y := [_]) (Z := [_]) rfl) ?_
      refine H_seq ?_
      -- R5 codec.go:20
      refine H_region (l := [_, _, _, _, _]) rfl ?_
      refine HO_move rfl rfl rfl ?_
      refine HO_move rfl rfl rfl ?_
      refine HO_conv rfl rfl rfl (cv_int Try.underlying5 Try.underlying124 (wrap_u_lt rfl ?_)) ?_
      · (have := z10.toNat_lt; simp only [IntKind.bits]; omega)
      refine HO_bin rfl rfl rfl rfl (bin_xor rfl ?_ ?_) ?_
      · (have := Cod.crcS_lt (c := 4294967295) (by decide) (List.take i b); simpa [IntKind.bits] using this)
      · (have := z10.toNat_lt; simp only [IntKind.bits]; omega)
      refine HO_assign rfl rfl rfl ?_
      refine HO_nil ?_
      refine H_env (ρ' := [(3, _), (6, _), (7, _), (8, _)]) ⟨rfl, rfl, rfl, rfl, trivial⟩ ?_
      refine H_seq ?_
      -- R6 codec.go:21
      refine H_region (l := [_]) rfl ?_
      refine HO_move rfl rfl rfl ?_
      refine HO_nil ?_
      refine H_block ?_
      refine H_loop (σ := Nat) (fun s => s ≤ 8) (fun s => [(6, .slice a (b.length) c), (3, .int .u32 ((Cod.iter Cod.step1 s (Cod.crcS 4294967295 (List.take i b) ^^^ z10.toNat) : Int))), (7, .int .i64 ((b.length : Int))), (8, .int .i64 ((i : Int))), (16, .int .i64 ((s : Int)))]) (fun s => Asn w0 ok0 M0 [.dat kByte.sl (b) [.slice a (b.length) c]]) (fun s => 8 - s) 0 ?_ ?_ ?_ ?_
      · exact Nat.zero_le _
      · exact ⟨rfl, rfl, rfl, rfl, rfl, trivial⟩
      · intro w hA
        exact hA.only (is := [0]) (Z := []) rfl
      · intro j hI
        (try dsimp only at hI ⊢)
        refine H_seq ?_
        -- R7 codec.go:21
        refine H_region (l := [_]) rfl ?_
        refine HO_bin rfl rfl rfl rfl bin_lss ?_
        refine HO_nil ?_
        refine H_seq ?_
        refine H_cond rfl ?_ ?_
        · intro h17
          (try simp only [decide_eq_true_eq, decide_eq_false_iff_not, Bool.not_eq_true', Bool.not_eq_false', Bool.not_eq_true, Bool.not_eq_false, Bool.true_eq_false, Bool.false_eq_true, not_false_eq_true, not_true_eq_false] at h17)
          refine H_skip ?_
          refine H_seq ?_
          refine H_block ?_
          -- R8 codec.go:22
          refine H_region (l := [_, _, _, _, _, _, _, _]) rfl ?_
          refine HO_move rfl rfl rfl ?_
          refine HO_bin rfl rfl rfl rfl (bin_shr (s := 1) ?_) ?_
          · (have := Cod.iter_lt (c := Cod.crcS 4294967295 (List.take i b) ^^^ z10.toNat) (Cod.xor_byte_lt (Cod.crcS_lt (by decide) _) _) j; simpa [IntKind.bits] using this)
          refine HO_move rfl rfl rfl ?_
          refine HO_bin rfl rfl rfl rfl (bin_and rfl ?_ ?_) ?_
          · (have := Cod.iter_lt (c := Cod.crcS 4294967295 (List.take i b) ^^^ z10.toNat) (Cod.xor_byte_lt (Cod.crcS_lt (by decide) _) _) j; simpa [IntKind.bits] using this)
          · decide
          refine HO_negu rfl rfl rfl rfl ?_ ?_
          · (exact Nat.lt_of_le_of_lt Nat.and_le_right (by decide))
          refine HO_bin rfl rfl rfl rfl (bin_and rfl ?_ ?_) ?_
          · (show 2197175160 < 2 ^ 32; decide)
          · (exact Nat.mod_lt _ (Nat.two_pow_pos _))
          refine HO_bin rfl rfl rfl rfl (bin_xor rfl ?_ ?_) ?_
          · (have := Cod.iter_lt (c := Cod.crcS 4294967295 (List.take i b) ^^^ z10.toNat) (Cod.xor_byte_lt (Cod.crcS_lt (by decide) _) _) j; simp only [IntKind.bits]; omega)
          · (exact Nat.lt_of_le_of_lt Nat.and_le_left (by decide))
          refine HO_set (v' := .int .u32 ((Cod.iter Cod.step1 (j + 1) (Cod.crcS 4294967295 (List.take i b) ^^^ z10.toNat) : Int))) 24 rfl (by rfl) ?_
          refine HO_assign rfl rfl rfl ?_
          refine HO_nil ?_
          refine H_env (ρ' := [(3, _), (6, _), (7, _), (8, _), (16, _)]) ⟨rfl, rfl, rfl, rfl, rfl, trivial⟩ ?_
          refine H_blk ?_
          -- R9 codec.go:21
          refine H_region (l := [_, _]) rfl ?_
          refine HO_bin rfl rfl rfl rfl (bin_add ?_ ?_) ?_
          · omega
          · omega
          refine HO_move rfl rfl rfl ?_
          refine HO_nil ?_
          refine H_env (ρ' := [(16, _), (3, _), (6, _), (7, _), (8, _)]) ⟨rfl, rfl, rfl, rfl, rfl, trivial⟩ ?_
          refine H_inv (fun a w hf hA => ⟨j + 1, ?_, ?_, hf.sub ?_, ?_⟩)
          · omega
          · (try dsimp only); omega
          · exact ⟨rfl, rfl, rfl, rfl, rfl, trivial⟩
          · exact hA.only (is := [0]) (Z := []) rfl
        · intro h17
          (try simp only [decide_eq_true_eq, decide_eq_false_iff_not, Bool.not_eq_true', Bool.not_eq_false', Bool.not_eq_true, Bool.not_eq_false, Bool.true_eq_false, Bool.false_eq_true, not_false_eq_true, not_true_eq_false] at h17)
          refine H_exit rfl ?_
          refine H_blk ?_
          -- R10 codec.go:19
          have hj : j = 8 := by omega
          subst hj
          refine H_region (l := [_, _]) rfl ?_
          refine HO_bin rfl rfl rfl rfl (bin_add ?_ ?_) ?_
          · omega
          · omega
          refine HO_move rfl rfl rfl ?_
          refine HO_nil ?_
          refine H_env (ρ' := [(8, _), (6, _), (3, _), (7, _)]) ⟨rfl, rfl, rfl, rfl, trivial⟩ ?_
          refine H_inv (fun a w hf hA => ⟨i + 1, ?_, ?_, hf.sub ?_, ?_⟩)
          · omega
          · (try dsimp only); omega
          · exact ⟨rfl, congrArg (fun m : Nat => some (Value.int .u32 (m : Int))) (Cod.crcS_take hz10), rfl, rfl, trivial⟩
          · exact hA.only (is := [0]) (Z := []) rfl
    · intro h9
      (try simp only [decide_eq_true_eq, decide_eq_false_iff_not, Bool.not_eq_true', Bool.not_eq_false', Bool.not_eq_true, Bool.not_eq_false, Bool.true_eq_false, Bool.false_eq_true, not_false_eq_true, not_true_eq_false] at h9)
      refine H_exit rfl ?_
      refine H_seq ?_
      -- R11 codec.go:25
      have hi : i = b.length := by omega
      subst hi
      rw [List.take_length]
      refine H_region (l := [_, _, _]) rfl ?_
      refine HO_move rfl rfl rfl ?_
      refine HO_compl rfl rfl rfl rfl ?_ ?_
      · (have := Cod.crcS_lt (c := 4294967295) (by decide) b; simpa [IntKind.bits] using this)
      refine HO_assign rfl rfl rfl ?_
      refine HO_nil ?_
      refine H_env (ρ' := [(2, _)]) ⟨rfl, trivial⟩ ?_
      refine H_world (fun _ hA => hA.drop (is := [0]) (Y := [_]) (Z := []) rfl) ?_
      -- end1
      refine H_ret1 Try.results85 (.tmp rfl) (fun w hA => ⟨(), congrArg Ending.returned ?_, ?_, ?_⟩)
      · rfl
      · trivial
      · exact hA.only (is := []) (Z := []) rfl
theorem Frame_spec (b : List UInt8) (a : Option Addr) (c : Nat) (hb : b.length ≤ 1099511627776) : Spec Try.prog 84 #[.slice a (b.length) c] [.dat kByte.sl (b) [.slice a (b.length) c]] (β := Option Addr × Nat) (fun y => .slice y.1 ((Cod.frame b).length) y.2) (fun y => True) (fun y => [.own 5 kByte y.1 y.2 (Cod.frame b)]) := by
  refine Spec.enter (vs := [_]) Try.func84 rfl Try.ntmps84 rfl (Nat.le_of_ble_eq_true rfl) (fun w0 ok0 => ?_)
  generalize hM0 : blks _ = M0
  have hMn : ∀ {R : List Atom} (b : Nat), M0 b → blks R b := fun b hb => absurd (hM0 ▸ hb) (blks_none (by simp [Atom.dat, Atom.elem]) b)
  refine H_seq ?_
  -- R0 codec.go:46
  refine H_region (l := [_]) rfl ?_
  refine HO_assign rfl rfl rfl ?_
  refine HO_nil ?_
  refine H_env (ρ' := [(0, _)]) ⟨rfl, trivial⟩ ?_
  refine H_seq ?_
  refine H_seq ?_
  -- R1 codec.go:47
  refine H_region (l := [_, _, _]) rfl ?_
  refine HO_move rfl rfl rfl ?_
  refine HO_bi rfl rfl rfl (bi_len_sl Try.underlying25) ?_
  refine HO_bin rfl rfl rfl rfl bin_gtr ?_
  refine HO_nil ?_
  refine H_env (ρ' := [(6, _), (0, _)]) ⟨rfl, rfl, trivial⟩ ?_
  refine H_cond rfl ?_ ?_
  · intro h6
    (try simp only [decide_eq_true_eq, decide_eq_false_iff_not, Bool.not_eq_true', Bool.not_eq_false', Bool.not_eq_true, Bool.not_eq_false, Bool.true_eq_false, Bool.false_eq_true, not_false_eq_true, not_true_eq_false] at h6)
    have hfr : Cod.frame b = [] := if_pos (by omega)
    refine H_seq ?_
    -- R2 codec.go:48
    refine H_region (l := [_]) rfl ?_
    refine HO_assign rfl rfl rfl ?_
    refine HO_nil ?_
    refine H_env (ρ' := [(2, _)]) ⟨rfl, trivial⟩ ?_
    refine H_world (fun _ hA => hA.drop (is := [0]) (Y := [_]) (Z := []) rfl) ?_
    refine H_own0 kByte 5 none ?_
    -- end1
    refine H_ret1 Try.results84 (.tmp rfl) (fun w hA => ⟨(none, 0), congrArg Ending.returned ?_, ?_, ?_⟩)
    · (rw [hfr]; rfl)
    · trivial
    · (rw [hfr]; exact hA.only (is := [0]) (Z := []) rfl)
  · intro h6
    (try simp only [decide_eq_true_eq, decide_eq_false_iff_not, Bool.not_eq_true', Bool.not_eq_false', Bool.not_eq_true, Bool.not_eq_false, Bool.true_eq_false, Bool.false_eq_true, not_false_eq_true, not_true_eq_false] at h6)
    have hfr : Cod.frame b = (197 :: (Cod.le b.length 3 ++ b)) ++ Cod.le (Cod.crc (197 :: (Cod.le b.length 3 ++ b))) 4 := if_neg (by omega)
    refine H_skip ?_
    refine H_seq ?_
    -- R3 codec.go:50
    refine H_region (l := [_, _, _, _, _, _]) rfl ?_
    refine HO_buildSlice (kd := kByte) (xo := [_]) (vs := [_]) (cs := [_]) (xs := [(197 : UInt8)]) rfl rfl rfl rfl Try.underlying25 elt5 rfl rfl rfl (by decide) (by decide) (by simp [Value.cells]) rfl (fun _ _ _ => ⟨_, _, rfl, ⟨rfl, trivial⟩, rfl⟩) ?_
    intro g7
    refine HO_move rfl rfl rfl ?_
    refine HO_bi rfl rfl rfl (bi_len_sl Try.underlying25) ?_
    refine HO_conv rfl rfl rfl (cv_int Try.underlying3 Try.underlying124 (wrap_u_i rfl _)) ?_
    refine HO_set (v' := .int .u32 ((b.length : Int))) 10 rfl (by exact congrArg (Value.int .u32) (by simp only [IntKind.bits]; omega)) ?_
    refine HO_call (first := []) (capt := []) (is := [0]) (R := [_]) rfl rfl rfl rfl rfl Try.call154 rfl (little_spec _ _ _ _ _ ?_ ?_ ?_) ?_
    · omega
    · decide
    · (simp only [List.length_append, List.length_cons, List.length_nil, Cod.le_length]; omega)
    intro y11 hy11
    refine HO_assign rfl rfl rfl ?_
    refine HO_nil ?_
    refine H_env (ρ' := [(3, _), (0, _)]) ⟨rfl, rfl, trivial⟩ ?_
    refine H_seq ?_
    -- R4 codec.go:51
    refine H_region (l := [_, _, _, _]) rfl ?_
    refine HO_move rfl rfl rfl ?_
    refine HO_move rfl rfl rfl ?_
    refine HO_append (i := 0) (R := [_]) rfl rfl rfl rfl rfl Try.underlying25 elt5 rfl rfl (SrcOk.dat (j := 0) Try.underlying25 rfl) ?_ ?_
    · (simp only [List.length_append, List.length_cons, List.length_nil, Cod.le_length]; omega)
    intro a14 c14
    refine HO_assign rfl rfl rfl ?_
    refine HO_nil ?_
    refine H_env (ρ' := [(3, _)]) ⟨rfl, trivial⟩ ?_
    refine H_world (fun _ hA => hA.drop (is := [1]) (Y := [_]) (Z := [_]) rfl) ?_
    refine H_seq ?_
    -- R5 codec.go:52
    refine H_region (l := [_, _, _, _, _]) rfl ?_
    refine HO_move rfl rfl rfl ?_
    refine HO_move rfl rfl rfl ?_
    refine HO_call (first := []) (capt := []) (is := [0]) (R := []) rfl rfl rfl rfl rfl Try.call85 rfl (Spec.lend (pre1 := []) (pre2 := []) (Sum_spec _ _ _) rfl (fun _ _ ha => nomatch ha)) ?_
    intro y17 hy17
    clear y17 hy17
    refine HO_call (first := []) (capt := []) (is := [0]) (R := []) rfl rfl rfl rfl rfl Try.call154 rfl (little_spec _ _ _ _ _ ?_ ?_ ?_) ?_
    · (exact Cod.crc_lt _)
    · decide
    · (simp only [List.length_append, List.length_cons, List.length_nil, Cod.le_length]; omega)
    intro y18 hy18
    refine HO_assign rfl rfl rfl ?_
    refine HO_nil ?_
    refine H_env (ρ' := [(2, _)]) ⟨rfl, trivial⟩ ?_
    -- end2
    refine H_ret1 Try.results84 (.tmp rfl) (fun w hA => ⟨y18, congrArg Ending.returned ?_, ?_, ?_⟩)
    · (rw [hfr]; rfl)
    · trivial
    · (rw [hfr]; exact hA.only (is := [0]) (Z := []) rfl)
theorem GetText_spec (b : List UInt8) (a : Option Addr) (c : Nat) (hb : b.length ≤ 1099511627776) : Spec Try.prog 91 #[.slice a (b.length) c] [.dat kByte.sl (b) [.slice a (b.length) c]] (β := Unit) (fun y => .tuple #[.string (⟨(Cod.decT b).1.toArray⟩), .int .i64 (((Cod.decT b).2 : Int))]) (fun y => True) (fun y => []) := by
  have hlt := Cod.dec_lt b
  have hle := Cod.dec_len b
  have hu := Cod.decT.eq_1 b
  refine Spec.enter (vs := [_]) Try.func91 rfl Try.ntmps91 rfl (Nat.le_of_ble_eq_true rfl) (fun w0 ok0 => ?_)
  generalize hM0 : blks _ = M0
  have hMn : ∀ {R : List Atom} (b : Nat), M0 b → blks R b := fun b hb => absurd (hM0 ▸ hb) (blks_none (by simp [Atom.dat, Atom.elem]) b)
  refine H_seq ?_
  -- R0 codec.go:131
  refine H_region (l := [_, _]) rfl ?_
  refine HO_assign rfl rfl rfl ?_
  refine HO_assign rfl rfl rfl ?_
  refine HO_nil ?_
  refine H_env (ρ' := [(0, _)]) ⟨rfl, trivial⟩ ?_
  refine H_seq ?_
  -- R1 codec.go:132
  refine H_region (l := [_, _, _, _, _, _, _]) rfl ?_
  refine HO_move rfl rfl rfl ?_
  refine HO_dup (i := 0) rfl rfl ?_
  refine HO_call (first := []) (capt := []) (is := [0]) (R := [_]) rfl rfl rfl rfl rfl Try.call89 rfl (Get_spec _ _ _) ?_
  intro y9 hy9
  clear y9 hy9
  refine HO_move rfl rfl rfl ?_
  refine HO_extract (vs := [_, _]) rfl rfl rfl rfl ?_
  refine HO_extract (vs := [_, _]) rfl rfl rfl rfl ?_
  refine HO_assign rfl rfl rfl ?_
  refine HO_assign rfl rfl rfl ?_
  refine HO_nil ?_
  refine H_env (ρ' := [(5, _), (4, _), (0, _)]) ⟨rfl, rfl, rfl, trivial⟩ ?_
  refine H_seq ?_
  refine H_seq ?_
  -- R2 codec.go:133
  refine H_region (l := [_, _, _, _, _, _, _, _, _, _, _]) rfl ?_
  refine HO_move rfl rfl rfl ?_
  refine HO_bin rfl rfl rfl rfl bin_eql ?_
  refine HO_move rfl rfl rfl ?_
  refine HO_split (d := 14) rfl ?_ ?_
  · intro h14
    (try simp only [decide_eq_true_eq, decide_eq_false_iff_not, Bool.not_eq_true', Bool.not_eq_false', Bool.not_eq_true, Bool.not_eq_false, Bool.true_eq_false, Bool.false_eq_true, not_false_eq_true, not_true_eq_false] at h14)
    refine HO_no rfl rfl rfl ?_
    refine HO_no rfl rfl rfl ?_
    refine HO_no rfl rfl rfl ?_
    refine HO_no rfl rfl rfl ?_
    refine HO_no rfl rfl rfl ?_
    refine HO_no rfl rfl rfl ?_
    refine HO_no rfl rfl rfl ?_
    refine HO_pick_t rfl rfl rfl rfl ?_
    refine HO_nil ?_
    refine H_env (ρ' := [(22, _), (5, _), (4, _), (0, _)]) ⟨rfl, rfl, rfl, rfl, trivial⟩ ?_
    refine H_cond rfl (fun _ => ?_) (fun h => nomatch h)
    refine H_seq ?_
    -- R3 codec.go:134
    refine H_region (l := [_, _]) rfl ?_
    refine HO_assign rfl rfl rfl ?_
    refine HO_assign rfl rfl rfl ?_
    refine HO_nil ?_
    refine H_env (ρ' := [(3, _), (2, _)]) ⟨rfl, rfl, trivial⟩ ?_
    refine H_world (fun _ hA => hA.drop (is := [0]) (Y := [_]) (Z := []) rfl) ?_
    -- end1
    refine H_ret2 Try.results91 (.tmp rfl) (.tmp rfl) (fun w hA => ⟨(), congrArg Ending.returned ?_, ?_, ?_⟩)
    · (rw [hu, if_pos (by omega)]; rfl)
    · trivial
    · exact hA.only (is := []) (Z := []) rfl
  · intro h14
    (try simp only [decide_eq_true_eq, decide_eq_false_iff_not, Bool.not_eq_true', Bool.not_eq_false', Bool.not_eq_true, Bool.not_eq_false, Bool.true_eq_false, Bool.false_eq_true, not_false_eq_true, not_true_eq_false] at h14)
    refine HO_move rfl rfl rfl ?_
    refine HO_move rfl rfl rfl ?_
    refine HO_bi rfl rfl rfl (bi_len_sl Try.underlying25) ?_
    refine HO_move rfl rfl rfl ?_
    refine HO_bin rfl rfl rfl rfl (bin_sub ?_ ?_) ?_
    · omega
    · omega
    refine HO_conv rfl rfl rfl (cv_int Try.underlying3 Try.underlying22 (wrap_u_i rfl _)) ?_
    refine HO_set (v' := .int .u64 (((b.length - (Cod.dec b).2 : Nat) : Int))) 20 rfl (by exact congrArg (Value.int .u64) (by simp only [IntKind.bits]; omega)) ?_
    refine HO_bin rfl rfl rfl rfl bin_gtr ?_
    refine HO_pick_f rfl rfl rfl rfl ?_
    refine HO_nil ?_
    refine H_env (ρ' := [(22, _), (5, _), (4, _), (0, _)]) ⟨rfl, rfl, rfl, rfl, trivial⟩ ?_
    refine H_cond rfl ?_ ?_
    · intro h22
      (try simp only [decide_eq_true_eq, decide_eq_false_iff_not, Bool.not_eq_true', Bool.not_eq_false', Bool.not_eq_true, Bool.not_eq_false, Bool.true_eq_false, Bool.false_eq_true, not_false_eq_true, not_true_eq_false] at h22)
      skip
      refine H_seq ?_
      -- R3 codec.go:134
      refine H_region (l := [_, _]) rfl ?_
      refine HO_assign rfl rfl rfl ?_
      refine HO_assign rfl rfl rfl ?_
      refine HO_nil ?_
      refine H_env (ρ' := [(3, _), (2, _)]) ⟨rfl, rfl, trivial⟩ ?_
      refine H_world (fun _ hA => hA.drop (is := [0]) (Y := [_]) (Z := []) rfl) ?_
      -- end2
      refine H_ret2 Try.results91 (.tmp rfl) (.tmp rfl) (fun w hA => ⟨(), congrArg Ending.returned ?_, ?_, ?_⟩)
      · (rw [hu, if_pos (by omega)]; rfl)
      · trivial
      · exact hA.only (is := []) (Z := []) rfl
    · intro h22
      (try simp only [decide_eq_true_eq, decide_eq_false_iff_not, Bool.not_eq_true', Bool.not_eq_false', Bool.not_eq_true, Bool.not_eq_false, Bool.true_eq_false, Bool.false_eq_true, not_false_eq_true, not_true_eq_false] at h22)
      refine H_skip ?_
      refine H_seq ?_
      -- R4 codec.go:136
      refine H_region (l := [_, _, _, _, _]) rfl ?_
      refine HO_move rfl rfl rfl ?_
      refine HO_move rfl rfl rfl ?_
      refine HO_conv rfl rfl rfl (cv_int Try.underlying22 Try.underlying3 (wrap_i64_nat ?_)) ?_
      · omega
      refine HO_bin rfl rfl rfl rfl (bin_add ?_ ?_) ?_
      · omega
      · omega
      refine HO_assign rfl rfl rfl ?_
      refine HO_nil ?_
      refine H_env (ρ' := [(6, _), (5, _), (0, _)]) ⟨rfl, rfl, rfl, trivial⟩ ?_
      refine H_seq ?_
      -- R5 codec.go:137
      refine H_region (l := [_, _, _, _, _, _, _, _]) rfl ?_
      refine HO_move rfl rfl rfl ?_
      refine HO_move rfl rfl rfl ?_
      refine HO_move rfl rfl rfl ?_
      refine HO_slice_lh (i := 0) (l := (Cod.dec b).2) (h' := (Cod.dec b).2 + (Cod.dec b).1) rfl rfl rfl rfl rfl ?_ ?_ Try.underlying25 Try.sizeOf5 rfl ?_ ?_ ?_
      · omega
      · omega
      · omega
      · omega
      intro a30 c30
      refine HO_bytesStr (i := 0) rfl rfl rfl Try.underlying25 Try.underlying9 Try.underlying5 rfl ?_
      refine HO_move rfl rfl rfl ?_
      refine HO_assign rfl rfl rfl ?_
      refine HO_assign rfl rfl rfl ?_
      refine HO_nil ?_
      refine H_env (ρ' := [(3, _), (2, _)]) ⟨rfl, rfl, trivial⟩ ?_
      refine H_world (fun _ hA => hA.drop (is := [0, 1]) (Y := [_, _]) (Z := []) rfl) ?_
      -- end3
      refine H_ret2 Try.results91 (.tmp rfl) (.tmp rfl) (fun w hA => ⟨(), congrArg Ending.returned ?_, ?_, ?_⟩)
      · (rw [hu, if_neg (by omega)]; rfl)
      · trivial
      · exact hA.only (is := []) (Z := []) rfl
theorem GetBool_spec (b : List UInt8) (a : Option Addr) (c : Nat)  : Spec Try.prog 93 #[.slice a (b.length) c] [.dat kByte.sl (b) [.slice a (b.length) c]] (β := Unit) (fun y => .tuple #[.bool ((Cod.decB b).1), .int .i64 (((Cod.decB b).2 : Int))]) (fun y => True) (fun y => []) := by
  refine Spec.enter (vs := [_]) Try.func93 rfl Try.ntmps93 rfl (Nat.le_of_ble_eq_true rfl) (fun w0 ok0 => ?_)
  generalize hM0 : blks _ = M0
  have hMn : ∀ {R : List Atom} (b : Nat), M0 b → blks R b := fun b hb => absurd (hM0 ▸ hb) (blks_none (by simp [Atom.dat, Atom.elem]) b)
  refine H_seq ?_
  -- R0 codec.go:150
  refine H_region (l := [_, _]) rfl ?_
  refine HO_assign rfl rfl rfl ?_
  refine HO_assign rfl rfl rfl ?_
  refine HO_nil ?_
  refine H_env (ρ' := [(0, _)]) ⟨rfl, trivial⟩ ?_
  refine H_seq ?_
  refine H_seq ?_
  -- R1 codec.go:151
  refine H_region (l := [_, _, _, _, _, _, _, _, _, _, _, _, _, _, _]) rfl ?_
  refine HO_move rfl rfl rfl ?_
  refine HO_bi rfl rfl rfl (bi_len_sl Try.underlying25) ?_
  refine HO_bin rfl rfl rfl rfl bin_eql ?_
  refine HO_move rfl rfl rfl ?_
  refine HO_split (d := 7) rfl ?_ ?_
  · intro h7
    (try simp only [decide_eq_true_eq, decide_eq_false_iff_not, Bool.not_eq_true', Bool.not_eq_false', Bool.not_eq_true, Bool.not_eq_false, Bool.true_eq_false, Bool.false_eq_true, not_false_eq_true, not_true_eq_false] at h7)
    refine HO_no rfl rfl rfl ?_
    refine HO_no rfl rfl rfl ?_
    refine HO_no rfl rfl rfl ?_
    refine HO_no rfl rfl rfl ?_
    refine HO_no rfl rfl rfl ?_
    refine HO_no rfl rfl rfl ?_
    refine HO_no rfl rfl rfl ?_
    refine HO_no rfl rfl rfl ?_
    refine HO_no rfl rfl rfl ?_
    refine HO_no rfl rfl rfl ?_
    refine HO_pick_t rfl rfl rfl rfl ?_
    refine HO_nil ?_
    refine H_env (ρ' := [(18, _), (0, _)]) ⟨rfl, rfl, trivial⟩ ?_
    refine H_cond rfl (fun _ => ?_) (fun h => nomatch h)
    refine H_seq ?_
    -- R2 codec.go:152
    refine H_region (l := [_, _]) rfl ?_
    refine HO_assign rfl rfl rfl ?_
    refine HO_assign rfl rfl rfl ?_
    refine HO_nil ?_
    refine H_env (ρ' := [(3, _), (2, _)]) ⟨rfl, rfl, trivial⟩ ?_
    refine H_world (fun _ hA => hA.drop (is := [0]) (Y := [_]) (Z := []) rfl) ?_
    obtain rfl : b = [] := List.eq_nil_of_length_eq_zero (by omega)
    -- end1
    refine H_ret2 Try.results93 (.tmp rfl) (.tmp rfl) (fun w hA => ⟨(), congrArg Ending.returned ?_, ?_, ?_⟩)
    · rfl
    · trivial
    · exact hA.only (is := []) (Z := []) rfl
  · intro h7
    (try simp only [decide_eq_true_eq, decide_eq_false_iff_not, Bool.not_eq_true', Bool.not_eq_false', Bool.not_eq_true, Bool.not_eq_false, Bool.true_eq_false, Bool.false_eq_true, not_false_eq_true, not_true_eq_false] at h7)
    refine HO_move rfl rfl rfl ?_
    refine HO_indexAddr open_byte (i := 0) (j := 0) rfl rfl rfl rfl rfl Try.underlying25 Try.sizeOf5 rfl ?_ ?_
    · omega
    intro b9 o9 z9 y9 hz9 hI9
    clear y9 hI9
    refine HO_load1 (i := 0) (j := 0) rfl rfl rfl Try.isAgg5 rfl (.elem _ _ _) rfl rfl ?_
    refine HO_bin rfl rfl rfl rfl bin_neq ?_
    refine HO_move rfl rfl rfl ?_
    refine HO_split (d := 12) rfl ?_ ?_
    · intro h12
      (try simp only [decide_eq_true_eq, decide_eq_false_iff_not, Bool.not_eq_true', Bool.not_eq_false', Bool.not_eq_true, Bool.not_eq_false, Bool.true_eq_false, Bool.false_eq_true, not_false_eq_true, not_true_eq_false] at h12)
      refine HO_move rfl rfl rfl ?_
      refine HO_indexAddr open_byte (i := 1) (j := 0) rfl rfl rfl rfl rfl Try.underlying25 Try.sizeOf5 rfl ?_ ?_
      · omega
      intro b14 o14 z14 y14 hz14 hI14
      clear y14 hI14
      refine HO_load1 (i := 0) (j := 0) rfl rfl rfl Try.isAgg5 rfl (.elem _ _ _) rfl rfl ?_
      refine HO_bin rfl rfl rfl rfl bin_neq ?_
      refine HO_pick_t rfl rfl rfl rfl ?_
      refine HO_pick_f rfl rfl rfl rfl ?_
      refine HO_nil ?_
      refine H_env (ρ' := [(18, _), (0, _)]) ⟨rfl, rfl, trivial⟩ ?_
      refine H_world (fun _ hA => hA.drop (is := [0, 1]) (Y := [_, _]) (Z := [_]) rfl) ?_
      refine H_cond rfl ?_ ?_
      · intro h18
        (try simp only [decide_eq_true_eq, decide_eq_false_iff_not, Bool.not_eq_true', Bool.not_eq_false', Bool.not_eq_true, Bool.not_eq_false, Bool.true_eq_false, Bool.false_eq_true, not_false_eq_true, not_true_eq_false] at h18)
        refine H_seq ?_
        -- R2 codec.go:152
        refine H_region (l := [_, _]) rfl ?_
        refine HO_assign rfl rfl rfl ?_
        refine HO_assign rfl rfl rfl ?_
        refine HO_nil ?_
        refine H_env (ρ' := [(3, _), (2, _)]) ⟨rfl, rfl, trivial⟩ ?_
        refine H_world (fun _ hA => hA.drop (is := [0]) (Y := [_]) (Z := []) rfl) ?_
        -- end2
        refine H_ret2 Try.results93 (.tmp rfl) (.tmp rfl) (fun w hA => ⟨(), congrArg Ending.returned ?_, ?_, ?_⟩)
        · (first | (rw [Cod.getb_no hz9 hz14 h12 h18]; rfl) | (rw [Cod.getb_yes hz9 hz20 (.inl (by omega))]; rfl) | (rw [Cod.getb_yes hz14 hz20 (.inr (by omega))]; rfl))
        · trivial
        · exact hA.only (is := []) (Z := []) rfl
      · intro h18
        (try simp only [decide_eq_true_eq, decide_eq_false_iff_not, Bool.not_eq_true', Bool.not_eq_false', Bool.not_eq_true, Bool.not_eq_false, Bool.true_eq_false, Bool.false_eq_true, not_false_eq_true, not_true_eq_false] at h18)
        refine H_skip ?_
        refine H_seq ?_
        -- R3 codec.go:154
        refine H_region (l := [_, _, _, _, _, _]) rfl ?_
        refine HO_move rfl rfl rfl ?_
        refine HO_indexAddr open_byte (i := 0) (j := 0) rfl rfl rfl rfl rfl Try.underlying25 Try.sizeOf5 rfl ?_ ?_
        · omega
        intro b20 o20 z20 y20 hz20 hI20
        clear y20 hI20
        refine HO_load1 (i := 0) (j := 0) rfl rfl rfl Try.isAgg5 rfl (.elem _ _ _) rfl rfl ?_
        refine HO_bin rfl rfl rfl rfl bin_eql ?_
        refine HO_assign rfl rfl rfl ?_
        refine HO_assign rfl rfl rfl ?_
        refine HO_nil ?_
        refine H_env (ρ' := [(3, _), (2, _)]) ⟨rfl, rfl, trivial⟩ ?_
        refine H_world (fun _ hA => hA.drop (is := [0, 1]) (Y := [_, _]) (Z := []) rfl) ?_
        -- end3
        refine H_ret2 Try.results93 (.tmp rfl) (.tmp rfl) (fun w hA => ⟨(), congrArg Ending.returned ?_, ?_, ?_⟩)
        · (first | (rw [Cod.getb_no hz9 hz14 h12 h18]; rfl) | (rw [Cod.getb_yes hz9 hz20 (.inl (by omega))]; rfl) | (rw [Cod.getb_yes hz14 hz20 (.inr (by omega))]; rfl))
        · trivial
        · exact hA.only (is := []) (Z := []) rfl
    · intro h12
      (try simp only [decide_eq_true_eq, decide_eq_false_iff_not, Bool.not_eq_true', Bool.not_eq_false', Bool.not_eq_true, Bool.not_eq_false, Bool.true_eq_false, Bool.false_eq_true, not_false_eq_true, not_true_eq_false] at h12)
      refine HO_no rfl rfl rfl ?_
      refine HO_no rfl rfl rfl ?_
      refine HO_no rfl rfl rfl ?_
      refine HO_no rfl rfl rfl ?_
      refine HO_pick_f rfl rfl rfl rfl ?_
      refine HO_pick_f rfl rfl rfl rfl ?_
      refine HO_nil ?_
      refine H_env (ρ' := [(18, _), (0, _)]) ⟨rfl, rfl, trivial⟩ ?_
      refine H_world (fun _ hA => hA.drop (is := [0]) (Y := [_]) (Z := [_]) rfl) ?_
      refine H_cond rfl (fun h => nomatch h) (fun _ => ?_)
      refine H_skip ?_
      refine H_seq ?_
      -- R3 codec.go:154
      refine H_region (l := [_, _, _, _, _, _]) rfl ?_
      refine HO_move rfl rfl rfl ?_
      refine HO_indexAddr open_byte (i := 0) (j := 0) rfl rfl rfl rfl rfl Try.underlying25 Try.sizeOf5 rfl ?_ ?_
      · omega
      intro b20 o20 z20 y20 hz20 hI20
      clear y20 hI20
      refine HO_load1 (i := 0) (j := 0) rfl rfl rfl Try.isAgg5 rfl (.elem _ _ _) rfl rfl ?_
      refine HO_bin rfl rfl rfl rfl bin_eql ?_
      refine HO_assign rfl rfl rfl ?_
      refine HO_assign rfl rfl rfl ?_
      refine HO_nil ?_
      refine H_env (ρ' := [(3, _), (2, _)]) ⟨rfl, rfl, trivial⟩ ?_
      refine H_world (fun _ hA => hA.drop (is := [0, 1]) (Y := [_, _]) (Z := []) rfl) ?_
      -- end4
      refine H_ret2 Try.results93 (.tmp rfl) (.tmp rfl) (fun w hA => ⟨(), congrArg Ending.returned ?_, ?_, ?_⟩)
      · (first | (rw [Cod.getb_no hz9 hz14 h12 h18]; rfl) | (rw [Cod.getb_yes hz9 hz20 (.inl (by omega))]; rfl) | (rw [Cod.getb_yes hz14 hz20 (.inr (by omega))]; rfl))
      · trivial
      · exact hA.only (is := []) (Z := []) rfl
end Go.Wk
