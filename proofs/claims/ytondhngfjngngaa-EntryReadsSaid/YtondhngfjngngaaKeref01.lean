/- Contracts of the program's functions, each proved by walking its code. -/
import Derived.Test.YtondhngfjngngaaKecodec3
set_option maxRecDepth 100000
set_option linter.unusedVariables false
set_option linter.unusedSimpArgs false
namespace Go.Wk.Fref01
open Go Go.RowKit Go.Proofs Go.Wk
theorem elt5 : Elt Try.prog 5 (.int .u8 (0)) 1 1 := Elt.of (by kernel_rfl) (by rfl) (by decide) (by decide)
end Go.Wk.Fref01
namespace Go.Wk
open Go Go.RowKit Go.Proofs Fref01 
theorem rzag_spec (u : Nat) (hu : u < 18446744073709551616) : Spec Try.prog 130 #[.int .u64 (u)] [] (β := Unit) (fun y => .int .i64 (Cod.zag u)) (fun y => True) (fun y => []) := by
  refine Spec.enter (vs := [_]) Try.func130 rfl Try.ntmps130 rfl (Nat.le_of_ble_eq_true rfl) (fun w0 ok0 => ?_)
  generalize hM0 : blks _ = M0
  have hMn : ∀ {R : List Atom} (b : Nat), M0 b → blks R b := fun b hb => absurd (hM0 ▸ hb) (blks_none (by simp [Atom.dat, Atom.elem]) b)
  refine H_seq ?_
  -- R0 ref.go:88
  refine H_region (l := [_]) rfl ?_
  refine HO_assign rfl rfl rfl ?_
  refine HO_nil ?_
  refine H_env (ρ' := [(0, _)]) ⟨rfl, trivial⟩ ?_
  refine H_seq ?_
  -- R1 ref.go:88
  refine H_region (l := [_, _, _, _, _, _, _]) rfl ?_
  refine HO_move rfl rfl rfl ?_
  refine HO_bin rfl rfl rfl rfl (bin_shr (s := 1) ?_) ?_
  · (simp only [IntKind.bits]; omega)
  refine HO_move rfl rfl rfl ?_
  refine HO_bin rfl rfl rfl rfl (bin_shl (s := 63) rfl) ?_
  refine HO_bin rfl rfl rfl rfl (bin_or rfl ?_ ?_) ?_
  · (simp only [IntKind.bits]; omega)
  · (exact Nat.mod_lt _ (by decide))
  refine HO_set (v' := .int .u64 ((Cod.zagU u : Int))) 7 rfl (by exact congrArg (fun m : Nat => Value.int .u64 (m : Int)) (Nat.or_comm _ _)) ?_
  refine HO_conv rfl rfl rfl (cv_int Try.underlying97 Try.underlying3 (wrap_toI (Cod.zagU_lt hu))) ?_
  refine HO_assign rfl rfl rfl ?_
  refine HO_nil ?_
  refine H_env (ρ' := [(2, _)]) ⟨rfl, trivial⟩ ?_
  -- end1
  refine H_ret1 Try.results130 (.tmp rfl) (fun w hA => ⟨(), congrArg Ending.returned ?_, ?_, ?_⟩)
  · rfl
  · trivial
  · exact hA.only (is := []) (Z := []) rfl
theorem rmore_spec (u : Nat) (hu : u < 18446744073709551616) : Spec Try.prog 126 #[.int .u64 (u)] [] (β := Unit) (fun y => .int .i64 ((Cod.beh u : Int))) (fun y => True) (fun y => []) := by
  refine Spec.enter (vs := [_]) Try.func126 rfl Try.ntmps126 rfl (Nat.le_of_ble_eq_true rfl) (fun w0 ok0 => ?_)
  generalize hM0 : blks _ = M0
  have hMn : ∀ {R : List Atom} (b : Nat), M0 b → blks R b := fun b hb => absurd (hM0 ▸ hb) (blks_none (by simp [Atom.dat, Atom.elem]) b)
  refine H_seq ?_
  -- R0 ref.go:91
  refine H_region (l := [_]) rfl ?_
  refine HO_assign rfl rfl rfl ?_
  refine HO_nil ?_
  refine H_env (ρ' := [(0, _)]) ⟨rfl, trivial⟩ ?_
  refine H_seq ?_
  refine H_seq ?_
  -- R1 ref.go:92
  refine H_region (l := [_]) rfl ?_
  refine HO_assign rfl rfl rfl ?_
  refine HO_nil ?_
  refine H_block ?_
  refine H_loop (σ := Nat) (fun s => s ≤ 8 ∧ s ≤ Cod.beh u) (fun s => [(0, .int .u64 (u)), (3, .int .i64 ((s : Int)))]) (fun s => Asn w0 ok0 M0 []) (fun s => 8 - s) 0 ?_ ?_ ?_ ?_
  · exact ⟨Nat.zero_le _, Nat.zero_le _⟩
  · exact ⟨rfl, rfl, trivial⟩
  · intro w hA
    exact hA.only (is := []) (Z := []) rfl
  · intro k hI
    (try dsimp only at hI ⊢)
    refine H_seq ?_
    refine H_seq ?_
    -- R2 ref.go:92
    refine H_region (l := [_, _]) rfl ?_
    refine HO_move rfl rfl rfl ?_
    refine HO_bin rfl rfl rfl rfl bin_lss ?_
    refine HO_nil ?_
    refine H_env (ρ' := [(5, _), (0, _), (3, _)]) ⟨rfl, rfl, rfl, trivial⟩ ?_
    refine H_cond rfl ?_ ?_
    · intro h5
      (try simp only [decide_eq_true_eq, decide_eq_false_iff_not, Bool.not_eq_true', Bool.not_eq_false', Bool.not_eq_true, Bool.not_eq_false, Bool.true_eq_false, Bool.false_eq_true, not_false_eq_true, not_true_eq_false] at h5)
      refine H_skip ?_
      refine H_seq ?_
      refine H_block ?_
      refine H_seq ?_
      -- R4 ref.go:93
      refine H_region (l := [_, _, _, _, _, _, _]) rfl ?_
      refine HO_move rfl rfl rfl ?_
      refine HO_move rfl rfl rfl ?_
      refine HO_bin rfl rfl rfl rfl (bin_add ?_ ?_) ?_
      · omega
      · omega
      refine HO_bin rfl rfl rfl rfl (bin_mul ?_ ?_) ?_
      · omega
      · omega
      refine HO_conv rfl rfl rfl (cv_int Try.underlying3 Try.underlying86 (wrap_u_i rfl _)) ?_
      refine HO_set (v' := .int .u64 (((7 * (k + 1) : Nat) : Int))) 12 rfl (by exact congrArg (Value.int .u64) (by simp only [IntKind.bits]; omega)) ?_
      refine HO_bin rfl rfl rfl rfl (bin_shl' rfl ?_) ?_
      · omega
      refine HO_bin rfl rfl rfl rfl bin_lss ?_
      refine HO_nil ?_
      refine H_env (ρ' := [(14, _), (0, _), (3, _)]) ⟨rfl, rfl, rfl, trivial⟩ ?_
      refine H_cond rfl ?_ ?_
      · intro h14
        (try simp only [decide_eq_true_eq, decide_eq_false_iff_not, Bool.not_eq_true', Bool.not_eq_false', Bool.not_eq_true, Bool.not_eq_false, Bool.true_eq_false, Bool.false_eq_true, not_false_eq_true, not_true_eq_false] at h14)
        have hb := (Cod.beh_le_iff hu (k := k) (by omega)).2 (Int.ofNat_lt.1 h14)
        refine H_seq ?_
        -- R5 ref.go:94
        refine H_region (l := [_, _]) rfl ?_
        refine HO_move rfl rfl rfl ?_
        refine HO_assign rfl rfl rfl ?_
        refine HO_nil ?_
        refine H_env (ρ' := [(2, _)]) ⟨rfl, trivial⟩ ?_
        -- end1
        refine H_ret1 Try.results126 (.tmp rfl) (fun w hA => ⟨(), congrArg Ending.returned ?_, ?_, ?_⟩)
        · (exact congrArg (Value.int .i64) (by have := Cod.beh_le u; omega))
        · trivial
        · exact hA.only (is := []) (Z := []) rfl
      · intro h14
        (try simp only [decide_eq_true_eq, decide_eq_false_iff_not, Bool.not_eq_true', Bool.not_eq_false', Bool.not_eq_true, Bool.not_eq_false, Bool.true_eq_false, Bool.false_eq_true, not_false_eq_true, not_true_eq_false] at h14)
        have hb : k < Cod.beh u := by refine Nat.lt_of_not_le fun h => h14 ?_; have := (Cod.beh_le_iff hu (k := k) (by omega)).1 h; exact Int.ofNat_lt.2 this
        refine H_skip ?_
        refine H_blk ?_
        -- R3 ref.go:92
        refine H_region (l := [_, _, _]) rfl ?_
        refine HO_move rfl rfl rfl ?_
        refine HO_bin rfl rfl rfl rfl (bin_add ?_ ?_) ?_
        · omega
        · omega
        refine HO_assign rfl rfl rfl ?_
        refine HO_nil ?_
        refine H_env (ρ' := [(3, _), (0, _)]) ⟨rfl, rfl, trivial⟩ ?_
        refine H_inv (fun a w hf hA => ⟨k + 1, ?_, ?_, hf.sub ?_, ?_⟩)
        · exact ⟨by omega, by omega⟩
        · (try dsimp only); omega
        · exact ⟨rfl, rfl, trivial⟩
        · exact hA.only (is := []) (Z := []) rfl
    · intro h5
      (try simp only [decide_eq_true_eq, decide_eq_false_iff_not, Bool.not_eq_true', Bool.not_eq_false', Bool.not_eq_true, Bool.not_eq_false, Bool.true_eq_false, Bool.false_eq_true, not_false_eq_true, not_true_eq_false] at h5)
      refine H_exit rfl ?_
      refine H_seq ?_
      -- R6 ref.go:97
      refine H_region (l := [_]) rfl ?_
      refine HO_assign rfl rfl rfl ?_
      refine HO_nil ?_
      refine H_env (ρ' := [(2, _)]) ⟨rfl, trivial⟩ ?_
      -- end2
      refine H_ret1 Try.results126 (.tmp rfl) (fun w hA => ⟨(), congrArg Ending.returned ?_, ?_, ?_⟩)
      · (exact congrArg (Value.int .i64) (by have := Cod.beh_le u; omega))
      · trivial
      · exact hA.only (is := []) (Z := []) rfl
theorem rsame_spec (b b2 : List UInt8) (a : Option Addr) (c : Nat) (a2 : Option Addr) (c2 : Nat)  : Spec Try.prog 22 #[.slice a (b.length) c, .slice a2 (b2.length) c2] [.dat kByte.sl (b) [.slice a (b.length) c], .dat kByte.sl (b2) [.slice a2 (b2.length) c2]] (β := Unit) (fun y => .bool (decide (b = b2))) (fun y => True) (fun y => []) := by
  refine Spec.enter (vs := [_, _]) Try.func22 rfl Try.ntmps22 rfl (Nat.le_of_ble_eq_true rfl) (fun w0 ok0 => ?_)
  generalize hM0 : blks _ = M0
  have hMn : ∀ {R : List Atom} (b : Nat), M0 b → blks R b := fun b hb => absurd (hM0 ▸ hb) (blks_none (by simp [Atom.dat, Atom.elem]) b)
  refine H_seq ?_
  -- R0 ref.go:229
  refine H_region (l := [_]) rfl ?_
  refine HO_assign rfl rfl rfl ?_
  refine HO_nil ?_
  refine H_env (ρ' := [(0, _), (1, _)]) ⟨rfl, rfl, trivial⟩ ?_
  refine H_seq ?_
  -- R1 ref.go:229
  refine H_region (l := [_, _, _, _, _, _]) rfl ?_
  refine HO_move rfl rfl rfl ?_
  refine HO_bytesStr (i := 0) rfl rfl rfl Try.underlying28 Try.underlying9 Try.underlying5 rfl ?_
  refine HO_move rfl rfl rfl ?_
  refine HO_bytesStr (i := 1) rfl rfl rfl Try.underlying28 Try.underlying9 Try.underlying5 rfl ?_
  refine HO_bin rfl rfl rfl rfl bin_eqs ?_
  refine HO_assign rfl rfl rfl ?_
  refine HO_nil ?_
  refine H_env (ρ' := [(4, _)]) ⟨rfl, trivial⟩ ?_
  refine H_world (fun _ hA => hA.drop (is := [0, 1]) (Y := [_, _]) (Z := []) rfl) ?_
  -- end1
  refine H_ret1 Try.results22 (.tmp rfl) (fun w hA => ⟨(), congrArg Ending.returned ?_, ?_, ?_⟩)
  · (exact congrArg Value.bool (Cod.dec_same b b2))
  · trivial
  · exact hA.only (is := []) (Z := []) rfl
theorem rGet_spec (b : List UInt8) (a : Option Addr) (c : Nat)  : Spec Try.prog 142 #[.slice a (b.length) c] [.dat kByte.sl (b) [.slice a (b.length) c]] (β := Unit) (fun y => .tuple #[.int .u64 (((Cod.dec b).1 : Int)), .int .i64 (((Cod.dec b).2 : Int))]) (fun y => True) (fun y => []) := by
  refine Spec.enter (vs := [_]) Try.func142 rfl Try.ntmps142 rfl (Nat.le_of_ble_eq_true rfl) (fun w0 ok0 => ?_)
  generalize hM0 : blks _ = M0
  have hMn : ∀ {R : List Atom} (b : Nat), M0 b → blks R b := fun b hb => absurd (hM0 ▸ hb) (blks_none (by simp [Atom.dat, Atom.elem]) b)
  refine H_seq ?_
  -- R0 ref.go:119
  refine H_region (l := [_, _]) rfl ?_
  refine HO_assign rfl rfl rfl ?_
  refine HO_assign rfl rfl rfl ?_
  refine HO_nil ?_
  refine H_env (ρ' := [(0, _)]) ⟨rfl, trivial⟩ ?_
  refine H_seq ?_
  refine H_seq ?_
  -- R1 ref.go:120
  refine H_region (l := [_, _, _]) rfl ?_
  refine HO_move rfl rfl rfl ?_
  refine HO_bi rfl rfl rfl (bi_len_sl Try.underlying28) ?_
  refine HO_bin rfl rfl rfl rfl bin_eql ?_
  refine HO_nil ?_
  refine H_env (ρ' := [(9, _), (0, _)]) ⟨rfl, rfl, trivial⟩ ?_
  refine H_cond rfl ?_ ?_
  · intro h9
    (try simp only [decide_eq_true_eq, decide_eq_false_iff_not, Bool.not_eq_true', Bool.not_eq_false', Bool.not_eq_true, Bool.not_eq_false, Bool.true_eq_false, Bool.false_eq_true, not_false_eq_true, not_true_eq_false] at h9)
    obtain rfl : b = [] := List.eq_nil_of_length_eq_zero (by omega)
    refine H_seq ?_
    -- R2 ref.go:121
    refine H_region (l := [_, _]) rfl ?_
    refine HO_assign rfl rfl rfl ?_
    refine HO_assign rfl rfl rfl ?_
    refine HO_nil ?_
    refine H_env (ρ' := [(3, _), (2, _)]) ⟨rfl, rfl, trivial⟩ ?_
    refine H_world (fun _ hA => hA.drop (is := [0]) (Y := [_]) (Z := []) rfl) ?_
    -- end1
    refine H_ret2 Try.results142 (.tmp rfl) (.tmp rfl) (fun w hA => ⟨(), congrArg Ending.returned ?_, ?_, ?_⟩)
    · rfl
    · trivial
    · exact hA.only (is := []) (Z := []) rfl
  · intro h9
    (try simp only [decide_eq_true_eq, decide_eq_false_iff_not, Bool.not_eq_true', Bool.not_eq_false', Bool.not_eq_true, Bool.not_eq_false, Bool.true_eq_false, Bool.false_eq_true, not_false_eq_true, not_true_eq_false] at h9)
    refine H_skip ?_
    refine H_seq ?_
    -- R3 ref.go:123
    obtain ⟨z0, hz0⟩ : ∃ z, b[0]? = some z := ⟨_, List.getElem?_eq_getElem (by omega)⟩
    have hlead := Cod.lead_le z0.toNat
    have hzlt := z0.toNat_lt
    have hdec := Cod.dec_at' hz0
    refine H_region (l := [_]) rfl ?_
    refine HO_assign rfl rfl rfl ?_
    refine HO_nil ?_
    refine H_env (ρ' := [(4, _), (0, _)]) ⟨rfl, rfl, trivial⟩ ?_
    refine H_seq ?_
    refine H_block ?_
    refine H_loop (σ := Nat) (fun s => s ≤ Cod.lead z0.toNat ∧ s ≤ 8) (fun s => [(0, .slice a (b.length) c), (4, .int .i64 ((s : Int)))]) (fun s => Asn w0 ok0 M0 [.dat kByte.sl (b) [.slice a (b.length) c]]) (fun s => 8 - s) 0 ?_ ?_ ?_ ?_
    · exact ⟨Nat.zero_le _, Nat.zero_le _⟩
    · exact ⟨rfl, rfl, trivial⟩
    · intro w hA
      exact hA.only (is := [0]) (Z := []) rfl
    · intro k hI
      (try dsimp only at hI ⊢)
      refine H_seq ?_
      refine H_seq ?_
      -- R4 ref.go:124
      refine H_region (l := [_, _, _, _, _, _, _, _, _, _, _, _, _]) rfl ?_
      refine HO_move rfl rfl rfl ?_
      refine HO_bin rfl rfl rfl rfl bin_lss ?_
      refine HO_move rfl rfl rfl ?_
      refine HO_split (d := 12) rfl ?_ ?_
      · intro h12
        (try simp only [decide_eq_true_eq, decide_eq_false_iff_not, Bool.not_eq_true', Bool.not_eq_false', Bool.not_eq_true, Bool.not_eq_false, Bool.true_eq_false, Bool.false_eq_true, not_false_eq_true, not_true_eq_false] at h12)
        refine HO_move rfl rfl rfl ?_
        refine HO_indexAddr open_byte (i := 0) (j := 0) rfl rfl rfl rfl rfl Try.underlying28 Try.sizeOf5 rfl ?_ ?_
        · omega
        intro b14 o14 z14 y14 hz14 hI14
        clear y14 hI14
        obtain rfl : z0 = z14 := Option.some.inj (hz0.symm.trans hz14)
        refine HO_load1 (i := 0) (j := 0) rfl rfl rfl Try.isAgg5 rfl (.elem _ _ _) rfl rfl ?_
        refine HO_move rfl rfl rfl ?_
        refine HO_bin rfl rfl rfl rfl (bin_sub ?_ ?_) ?_
        · omega
        · omega
        refine HO_conv rfl rfl rfl (cv_int Try.underlying3 Try.underlying86 (wrap_u_i rfl _)) ?_
        refine HO_set (v' := .int .u64 (((7 - k : Nat) : Int))) 18 rfl (by exact congrArg (Value.int .u64) (by simp only [IntKind.bits]; omega)) ?_
        refine HO_bin rfl rfl rfl rfl (bin_shr' ?_ ?_) ?_
        · (have := z0.toNat_lt; simp only [IntKind.bits]; omega)
        · omega
        refine HO_bin rfl rfl rfl rfl (bin_and rfl ?_ ?_) ?_
        · (exact Nat.lt_of_le_of_lt (Nat.div_le_self _ _) z0.toNat_lt)
        · decide
        refine HO_bin rfl rfl rfl rfl bin_eql ?_
        refine HO_pick_t rfl rfl rfl rfl ?_
        refine HO_nil ?_
        refine H_env (ρ' := [(22, _), (0, _), (4, _)]) ⟨rfl, rfl, rfl, trivial⟩ ?_
        refine H_world (fun _ hA => hA.drop (is := [0]) (Y := [_]) (Z := [_]) rfl) ?_
        refine H_cond rfl ?_ ?_
        · intro h22
          (try simp only [decide_eq_true_eq, decide_eq_false_iff_not, Bool.not_eq_true', Bool.not_eq_false', Bool.not_eq_true, Bool.not_eq_false, Bool.true_eq_false, Bool.false_eq_true, not_false_eq_true, not_true_eq_false] at h22)
          refine H_skip ?_
          refine H_block ?_
          -- R5 ref.go:125
          have hk1 := Cod.lead_go hzlt hI.1 (by omega) h22
          refine H_region (l := [_, _, _]) rfl ?_
          refine HO_move rfl rfl rfl ?_
          refine HO_bin rfl rfl rfl rfl (bin_add ?_ ?_) ?_
          · omega
          · omega
          refine HO_assign rfl rfl rfl ?_
          refine HO_nil ?_
          refine H_env (ρ' := [(4, _), (0, _)]) ⟨rfl, rfl, trivial⟩ ?_
          refine H_blk ?_
          refine H_inv (fun a w hf hA => ⟨k + 1, ?_, ?_, hf.sub ?_, ?_⟩)
          · exact ⟨hk1, by omega⟩
          · (try dsimp only); omega
          · exact ⟨rfl, rfl, trivial⟩
          · exact hA.only (is := [0]) (Z := []) rfl
        · intro h22
          (try simp only [decide_eq_true_eq, decide_eq_false_iff_not, Bool.not_eq_true', Bool.not_eq_false', Bool.not_eq_true, Bool.not_eq_false, Bool.true_eq_false, Bool.false_eq_true, not_false_eq_true, not_true_eq_false] at h22)
          refine H_exit rfl ?_
          refine H_seq ?_
          refine H_seq ?_
          -- R6 ref.go:127
          obtain rfl : k = Cod.lead z0.toNat := by first | omega | exact Cod.lead_end hzlt hI.1 hI.2 (by omega) h22
          refine H_region (l := [_, _, _, _, _]) rfl ?_
          refine HO_move rfl rfl rfl ?_
          refine HO_bi rfl rfl rfl (bi_len_sl Try.underlying28) ?_
          refine HO_move rfl rfl rfl ?_
          refine HO_bin rfl rfl rfl rfl (bin_add ?_ ?_) ?_
          · omega
          · omega
          refine HO_bin rfl rfl rfl rfl bin_lss ?_
          refine HO_nil ?_
          refine H_env (ρ' := [(29, _), (0, _), (4, _)]) ⟨rfl, rfl, rfl, trivial⟩ ?_
          refine H_cond rfl ?_ ?_
          · intro h29
            (try simp only [decide_eq_true_eq, decide_eq_false_iff_not, Bool.not_eq_true', Bool.not_eq_false', Bool.not_eq_true, Bool.not_eq_false, Bool.true_eq_false, Bool.false_eq_true, not_false_eq_true, not_true_eq_false] at h29)
            rw [if_pos (by omega)] at hdec
            refine H_seq ?_
            -- R7 ref.go:128
            refine H_region (l := [_, _]) rfl ?_
            refine HO_assign rfl rfl rfl ?_
            refine HO_assign rfl rfl rfl ?_
            refine HO_nil ?_
            refine H_env (ρ' := [(3, _), (2, _)]) ⟨rfl, rfl, trivial⟩ ?_
            refine H_world (fun _ hA => hA.drop (is := [0]) (Y := [_]) (Z := []) rfl) ?_
            -- end2
            refine H_ret2 Try.results142 (.tmp rfl) (.tmp rfl) (fun w hA => ⟨(), congrArg Ending.returned ?_, ?_, ?_⟩)
            · (rw [hdec]; rfl)
            · trivial
            · exact hA.only (is := []) (Z := []) rfl
          · intro h29
            (try simp only [decide_eq_true_eq, decide_eq_false_iff_not, Bool.not_eq_true', Bool.not_eq_false', Bool.not_eq_true, Bool.not_eq_false, Bool.true_eq_false, Bool.false_eq_true, not_false_eq_true, not_true_eq_false] at h29)
            rw [if_neg (by omega)] at hdec
            refine H_skip ?_
            refine H_seq ?_
            -- R8 ref.go:130
            refine H_region (l := [_]) rfl ?_
            refine HO_assign rfl rfl rfl ?_
            refine HO_nil ?_
            refine H_env (ρ' := [(5, _), (0, _), (4, _)]) ⟨rfl, rfl, rfl, trivial⟩ ?_
            refine H_seq ?_
            refine H_seq ?_
            -- R9 ref.go:131
            refine H_region (l := [_, _]) rfl ?_
            refine HO_move rfl rfl rfl ?_
            refine HO_bin rfl rfl rfl rfl bin_lss ?_
            refine HO_nil ?_
            refine H_env (ρ' := [(31, _), (5, _), (0, _), (4, _)]) ⟨rfl, rfl, rfl, rfl, trivial⟩ ?_
            refine H_cond rfl ?_ ?_
            · intro h31
              (try simp only [decide_eq_true_eq, decide_eq_false_iff_not, Bool.not_eq_true', Bool.not_eq_false', Bool.not_eq_true, Bool.not_eq_false, Bool.true_eq_false, Bool.false_eq_true, not_false_eq_true, not_true_eq_false] at h31)
              -- R10 ref.go:132
              refine H_region (l := [_, _, _, _, _, _, _, _, _]) rfl ?_
              refine HO_move rfl rfl rfl ?_
              refine HO_indexAddr open_byte (i := 0) (j := 0) rfl rfl rfl rfl rfl Try.underlying28 Try.sizeOf5 rfl ?_ ?_
              · omega
              intro b33 o33 z33 y33 hz33 hI33
              clear y33 hI33
              refine HO_load1 (i := 0) (j := 0) rfl rfl rfl Try.isAgg5 rfl (.elem _ _ _) rfl rfl ?_
              refine HO_move rfl rfl rfl ?_
              refine HO_conv rfl rfl rfl (cv_int Try.underlying3 Try.underlying86 (wrap_u_i rfl _)) ?_
              refine HO_set (v' := .int .u64 (((Cod.lead z0.toNat : Nat) : Int))) 36 rfl (by exact congrArg (Value.int .u64) (by simp only [IntKind.bits]; omega)) ?_
              refine HO_bin rfl rfl rfl rfl (bin_shr' ?_ ?_) ?_
              · decide
              · omega
              refine HO_bin rfl rfl rfl rfl (bin_and rfl ?_ ?_) ?_
              · (exact z33.toNat_lt)
              · (exact Nat.lt_of_le_of_lt (Nat.div_le_self _ _) (by decide))
              refine HO_conv rfl rfl rfl (cv_int Try.underlying5 Try.underlying97 (wrap_u_lt rfl ?_)) ?_
              · (exact Nat.lt_of_le_of_lt Nat.and_le_left (Nat.lt_of_lt_of_le z33.toNat_lt (by decide)))
              refine HO_assign rfl rfl rfl ?_
              refine HO_nil ?_
              refine H_env (ρ' := [(5, _), (0, _), (4, _)]) ⟨rfl, rfl, rfl, trivial⟩ ?_
              refine H_world (fun _ hA => hA.drop (is := [0]) (Y := [_]) (Z := [_]) rfl) ?_
              refine H_seq ?_
              refine H_seq ?_
              -- R11 ref.go:134
              refine H_set (v' := .int .u64 ((z0.toNat &&& (255 - Cod.onesB (Cod.lead z0.toNat))) : Int)) 5 rfl ?_ ?_
              · first | exact congrArg (Value.int .u64) (Cod.mask_eq hz0 hz33 (by omega)) | exact congrArg (Value.int .u64) (Cod.mask_zero hzlt (by omega))
              refine H_region (l := [_]) rfl ?_
              refine HO_assign rfl rfl rfl ?_
              refine HO_nil ?_
              refine H_block ?_
              refine H_loop (σ := Nat) (fun s => s ≤ Cod.lead z0.toNat) (fun s => [(0, .slice a (b.length) c), (4, .int .i64 ((Cod.lead z0.toNat : Int))), (5, .int .u64 ((Cod.foldB (z0.toNat &&& (255 - Cod.onesB (Cod.lead z0.toNat))) (List.take s (List.drop 1 b)) : Int))), (6, .int .i64 ((s : Int) + 1))]) (fun s => Asn w0 ok0 M0 [.dat kByte.sl (b) [.slice a (b.length) c]]) (fun s => Cod.lead z0.toNat - s) 0 ?_ ?_ ?_ ?_
              · exact Nat.zero_le _
              · exact ⟨rfl, rfl, rfl, rfl, trivial⟩
              · intro w hA
                exact hA.only (is := [0]) (Z := []) rfl
              · intro m hI
                (try dsimp only at hI ⊢)
                refine H_seq ?_
                refine H_seq ?_
                -- R12 ref.go:134
                refine H_region (l := [_, _, _]) rfl ?_
                refine HO_move rfl rfl rfl ?_
                refine HO_move rfl rfl rfl ?_
                refine HO_bin rfl rfl rfl rfl bin_leq ?_
                refine HO_nil ?_
                refine H_env (ρ' := [(42, _), (0, _), (4, _), (5, _), (6, _)]) ⟨rfl, rfl, rfl, rfl, rfl, trivial⟩ ?_
                refine H_cond rfl ?_ ?_
                · intro h42
                  (try simp only [decide_eq_true_eq, decide_eq_false_iff_not, Bool.not_eq_true', Bool.not_eq_false', Bool.not_eq_true, Bool.not_eq_false, Bool.true_eq_false, Bool.false_eq_true, not_false_eq_true, not_true_eq_false] at h42)
                  refine H_skip ?_
                  refine H_seq ?_
                  refine H_block ?_
                  -- R14 ref.go:135
                  refine H_region (l := [_, _, _, _, _, _, _, _, _]) rfl ?_
                  refine HO_move rfl rfl rfl ?_
                  refine HO_bin rfl rfl rfl rfl (bin_shl (s := 8) rfl) ?_
                  refine HO_move rfl rfl rfl ?_
                  refine HO_move rfl rfl rfl ?_
                  refine HO_indexAddr open_byte (i := 0) (j := m + 1) rfl rfl rfl rfl ?_ Try.underlying28 Try.sizeOf5 rfl ?_ ?_
                  · omega
                  · omega
                  intro b49 o49 z49 y49 hz49 hI49
                  clear y49 hI49
                  refine HO_load1 (i := 0) (j := 0) rfl rfl rfl Try.isAgg5 rfl (.elem _ _ _) rfl rfl ?_
                  refine HO_conv rfl rfl rfl (cv_int Try.underlying5 Try.underlying97 (wrap_u_lt rfl ?_)) ?_
                  · (have := z49.toNat_lt; simp only [IntKind.bits]; omega)
                  refine HO_bin rfl rfl rfl rfl (bin_or rfl ?_ ?_) ?_
                  · (exact Nat.mod_lt _ (by decide))
                  · (have := z49.toNat_lt; simp only [IntKind.bits]; omega)
                  refine HO_assign rfl rfl rfl ?_
                  refine HO_nil ?_
                  refine H_env (ρ' := [(5, _), (0, _), (4, _), (6, _)]) ⟨rfl, rfl, rfl, rfl, trivial⟩ ?_
                  refine H_world (fun _ hA => hA.drop (is := [0]) (Y := [_]) (Z := [_]) rfl) ?_
                  refine H_blk ?_
                  -- R13 ref.go:134
                  refine H_region (l := [_, _, _]) rfl ?_
                  refine HO_move rfl rfl rfl ?_
                  refine HO_bin rfl rfl rfl rfl (bin_add ?_ ?_) ?_
                  · omega
                  · omega
                  refine HO_assign rfl rfl rfl ?_
                  refine HO_nil ?_
                  refine H_env (ρ' := [(6, _), (5, _), (0, _), (4, _)]) ⟨rfl, rfl, rfl, rfl, trivial⟩ ?_
                  refine H_inv (fun a w hf hA => ⟨m + 1, ?_, ?_, hf.sub ?_, ?_⟩)
                  · omega
                  · (try dsimp only); omega
                  · exact ⟨rfl, rfl, congrArg (fun m : Nat => some (Value.int .u64 (m : Int))) (Cod.foldB_take (by rw [List.getElem?_drop, Nat.add_comm]; exact hz49)), congrArg (fun z => some (Value.int .i64 z)) (by omega), trivial⟩
                  · exact hA.only (is := [0]) (Z := []) rfl
                · intro h42
                  (try simp only [decide_eq_true_eq, decide_eq_false_iff_not, Bool.not_eq_true', Bool.not_eq_false', Bool.not_eq_true, Bool.not_eq_false, Bool.true_eq_false, Bool.false_eq_true, not_false_eq_true, not_true_eq_false] at h42)
                  refine H_exit rfl ?_
                  refine H_seq ?_
                  refine H_seq ?_
                  -- R15 ref.go:137
                  obtain rfl : m = Cod.lead z0.toNat := by omega
                  refine H_region (l := [_, _, _, _]) rfl ?_
                  refine HO_move rfl rfl rfl ?_
                  refine HO_call (first := []) (capt := []) (is := []) (R := [_]) rfl rfl rfl rfl rfl Try.call126 rfl (rmore_spec _ ?_) ?_
                  · (exact Cod.foldB_lt (Nat.lt_of_le_of_lt Nat.and_le_left (Nat.lt_of_lt_of_le z0.toNat_lt (by decide))) _)
                  intro y54 hy54
                  clear y54 hy54
                  refine HO_move rfl rfl rfl ?_
                  refine HO_bin rfl rfl rfl rfl bin_neq ?_
                  refine HO_nil ?_
                  refine H_env (ρ' := [(56, _), (4, _), (5, _)]) ⟨rfl, rfl, rfl, trivial⟩ ?_
                  refine H_world (fun _ hA => hA.drop (is := [0]) (Y := [_]) (Z := []) rfl) ?_
                  refine H_cond rfl ?_ ?_
                  · intro h56
                    (try simp only [decide_eq_true_eq, decide_eq_false_iff_not, Bool.not_eq_true', Bool.not_eq_false', Bool.not_eq_true, Bool.not_eq_false, Bool.true_eq_false, Bool.false_eq_true, not_false_eq_true, not_true_eq_false] at h56)
                    rw [if_neg (by omega)] at hdec
                    refine H_seq ?_
                    -- R16 ref.go:138
                    refine H_region (l := [_, _]) rfl ?_
                    refine HO_assign rfl rfl rfl ?_
                    refine HO_assign rfl rfl rfl ?_
                    refine HO_nil ?_
                    refine H_env (ρ' := [(3, _), (2, _)]) ⟨rfl, rfl, trivial⟩ ?_
                    -- end3
                    refine H_ret2 Try.results142 (.tmp rfl) (.tmp rfl) (fun w hA => ⟨(), congrArg Ending.returned ?_, ?_, ?_⟩)
                    · (rw [hdec]; rfl)
                    · trivial
                    · exact hA.only (is := []) (Z := []) rfl
                  · intro h56
                    (try simp only [decide_eq_true_eq, decide_eq_false_iff_not, Bool.not_eq_true', Bool.not_eq_false', Bool.not_eq_true, Bool.not_eq_false, Bool.true_eq_false, Bool.false_eq_true, not_false_eq_true, not_true_eq_false] at h56)
                    rw [if_pos (by omega)] at hdec
                    refine H_skip ?_
                    refine H_seq ?_
                    -- R17 ref.go:140
                    refine H_region (l := [_, _, _, _, _]) rfl ?_
                    refine HO_move rfl rfl rfl ?_
                    refine HO_move rfl rfl rfl ?_
                    refine HO_bin rfl rfl rfl rfl (bin_add ?_ ?_) ?_
                    · omega
                    · omega
                    refine HO_assign rfl rfl rfl ?_
                    refine HO_assign rfl rfl rfl ?_
                    refine HO_nil ?_
                    refine H_env (ρ' := [(3, _), (2, _)]) ⟨rfl, rfl, trivial⟩ ?_
                    -- end4
                    refine H_ret2 Try.results142 (.tmp rfl) (.tmp rfl) (fun w hA => ⟨(), congrArg Ending.returned ?_, ?_, ?_⟩)
                    · (rw [hdec]; rfl)
                    · trivial
                    · exact hA.only (is := []) (Z := []) rfl
            · intro h31
              (try simp only [decide_eq_true_eq, decide_eq_false_iff_not, Bool.not_eq_true', Bool.not_eq_false', Bool.not_eq_true, Bool.not_eq_false, Bool.true_eq_false, Bool.false_eq_true, not_false_eq_true, not_true_eq_false] at h31)
              refine H_skip ?_
              refine H_seq ?_
              refine H_seq ?_
              -- R11 ref.go:134
              refine H_set (v' := .int .u64 ((z0.toNat &&& (255 - Cod.onesB (Cod.lead z0.toNat))) : Int)) 5 rfl ?_ ?_
              · first | exact congrArg (Value.int .u64) (Cod.mask_eq hz0 hz33 (by omega)) | exact congrArg (Value.int .u64) (Cod.mask_zero hzlt (by omega))
              refine H_region (l := [_]) rfl ?_
              refine HO_assign rfl rfl rfl ?_
              refine HO_nil ?_
              refine H_env (ρ' := [(6, _), (5, _), (0, _), (4, _)]) ⟨rfl, rfl, rfl, rfl, trivial⟩ ?_
              refine H_block ?_
              refine H_loop (σ := Nat) (fun s => s ≤ Cod.lead z0.toNat) (fun s => [(0, .slice a (b.length) c), (4, .int .i64 ((Cod.lead z0.toNat : Int))), (5, .int .u64 ((Cod.foldB (z0.toNat &&& (255 - Cod.onesB (Cod.lead z0.toNat))) (List.take s (List.drop 1 b)) : Int))), (6, .int .i64 ((s : Int) + 1))]) (fun s => Asn w0 ok0 M0 [.dat kByte.sl (b) [.slice a (b.length) c]]) (fun s => Cod.lead z0.toNat - s) 0 ?_ ?_ ?_ ?_
              · exact Nat.zero_le _
              · exact ⟨rfl, rfl, rfl, rfl, trivial⟩
              · intro w hA
                exact hA.only (is := [0]) (Z := []) rfl
              · intro m hI
                (try dsimp only at hI ⊢)
                refine H_seq ?_
                refine H_seq ?_
                -- R12 ref.go:134
                refine H_region (l := [_, _, _]) rfl ?_
                refine HO_move rfl rfl rfl ?_
                refine HO_move rfl rfl rfl ?_
                refine HO_bin rfl rfl rfl rfl bin_leq ?_
                refine HO_nil ?_
                refine H_env (ρ' := [(42, _), (0, _), (4, _), (5, _), (6, _)]) ⟨rfl, rfl, rfl, rfl, rfl, trivial⟩ ?_
                refine H_cond rfl ?_ ?_
                · intro h42
                  (try simp only [decide_eq_true_eq, decide_eq_false_iff_not, Bool.not_eq_true', Bool.not_eq_false', Bool.not_eq_true, Bool.not_eq_false, Bool.true_eq_false, Bool.false_eq_true, not_false_eq_true, not_true_eq_false] at h42)
                  refine H_skip ?_
                  refine H_seq ?_
                  refine H_block ?_
                  -- R14 ref.go:135
                  refine H_region (l := [_, _, _, _, _, _, _, _, _]) rfl ?_
                  refine HO_move rfl rfl rfl ?_
                  refine HO_bin rfl rfl rfl rfl (bin_shl (s := 8) rfl) ?_
                  refine HO_move rfl rfl rfl ?_
                  refine HO_move rfl rfl rfl ?_
                  refine HO_indexAddr open_byte (i := 0) (j := m + 1) rfl rfl rfl rfl ?_ Try.underlying28 Try.sizeOf5 rfl ?_ ?_
                  · omega
                  · omega
                  intro b49 o49 z49 y49 hz49 hI49
                  clear y49 hI49
                  refine HO_load1 (i := 0) (j := 0) rfl rfl rfl Try.isAgg5 rfl (.elem _ _ _) rfl rfl ?_
                  refine HO_conv rfl rfl rfl (cv_int Try.underlying5 Try.underlying97 (wrap_u_lt rfl ?_)) ?_
                  · (have := z49.toNat_lt; simp only [IntKind.bits]; omega)
                  refine HO_bin rfl rfl rfl rfl (bin_or rfl ?_ ?_) ?_
                  · (exact Nat.mod_lt _ (by decide))
                  · (have := z49.toNat_lt; simp only [IntKind.bits]; omega)
                  refine HO_assign rfl rfl rfl ?_
                  refine HO_nil ?_
                  refine H_env (ρ' := [(5, _), (0, _), (4, _), (6, _)]) ⟨rfl, rfl, rfl, rfl, trivial⟩ ?_
                  refine H_world (fun _ hA => hA.drop (is := [0]) (Y := [_]) (Z := [_]) rfl) ?_
                  refine H_blk ?_
                  -- R13 ref.go:134
                  refine H_region (l := [_, _, _]) rfl ?_
                  refine HO_move rfl rfl rfl ?_
                  refine HO_bin rfl rfl rfl rfl (bin_add ?_ ?_) ?_
                  · omega
                  · omega
                  refine HO_assign rfl rfl rfl ?_
                  refine HO_nil ?_
                  refine H_env (ρ' := [(6, _), (5, _), (0, _), (4, _)]) ⟨rfl, rfl, rfl, rfl, trivial⟩ ?_
                  refine H_inv (fun a w hf hA => ⟨m + 1, ?_, ?_, hf.sub ?_, ?_⟩)
                  · omega
                  · (try dsimp only); omega
                  · exact ⟨rfl, rfl, congrArg (fun m : Nat => some (Value.int .u64 (m : Int))) (Cod.foldB_take (by rw [List.getElem?_drop, Nat.add_comm]; exact hz49)), congrArg (fun z => some (Value.int .i64 z)) (by omega), trivial⟩
                  · exact hA.only (is := [0]) (Z := []) rfl
                · intro h42
                  (try simp only [decide_eq_true_eq, decide_eq_false_iff_not, Bool.not_eq_true', Bool.not_eq_false', Bool.not_eq_true, Bool.not_eq_false, Bool.true_eq_false, Bool.false_eq_true, not_false_eq_true, not_true_eq_false] at h42)
                  refine H_exit rfl ?_
                  refine H_seq ?_
                  refine H_seq ?_
                  -- R15 ref.go:137
                  obtain rfl : m = Cod.lead z0.toNat := by omega
                  refine H_region (l := [_, _, _, _]) rfl ?_
                  refine HO_move rfl rfl rfl ?_
                  refine HO_call (first := []) (capt := []) (is := []) (R := [_]) rfl rfl rfl rfl rfl Try.call126 rfl (rmore_spec _ ?_) ?_
                  · (exact Cod.foldB_lt (Nat.lt_of_le_of_lt Nat.and_le_left (Nat.lt_of_lt_of_le z0.toNat_lt (by decide))) _)
                  intro y54 hy54
                  clear y54 hy54
                  refine HO_move rfl rfl rfl ?_
                  refine HO_bin rfl rfl rfl rfl bin_neq ?_
                  refine HO_nil ?_
                  refine H_env (ρ' := [(56, _), (4, _), (5, _)]) ⟨rfl, rfl, rfl, trivial⟩ ?_
                  refine H_world (fun _ hA => hA.drop (is := [0]) (Y := [_]) (Z := []) rfl) ?_
                  refine H_cond rfl ?_ ?_
                  · intro h56
                    (try simp only [decide_eq_true_eq, decide_eq_false_iff_not, Bool.not_eq_true', Bool.not_eq_false', Bool.not_eq_true, Bool.not_eq_false, Bool.true_eq_false, Bool.false_eq_true, not_false_eq_true, not_true_eq_false] at h56)
                    rw [if_neg (by omega)] at hdec
                    refine H_seq ?_
                    -- R16 ref.go:138
                    refine H_region (l := [_, _]) rfl ?_
                    refine HO_assign rfl rfl rfl ?_
                    refine HO_assign rfl rfl rfl ?_
                    refine HO_nil ?_
                    refine H_env (ρ' := [(3, _), (2, _)]) ⟨rfl, rfl, trivial⟩ ?_
                    -- end5
                    refine H_ret2 Try.results142 (.tmp rfl) (.tmp rfl) (fun w hA => ⟨(), congrArg Ending.returned ?_, ?_, ?_⟩)
                    · (rw [hdec]; rfl)
                    · trivial
                    · exact hA.only (is := []) (Z := []) rfl
                  · intro h56
                    (try simp only [decide_eq_true_eq, decide_eq_false_iff_not, Bool.not_eq_true', Bool.not_eq_false', Bool.not_eq_true, Bool.not_eq_false, Bool.true_eq_false, Bool.false_eq_true, not_false_eq_true, not_true_eq_false] at h56)
                    rw [if_pos (by omega)] at hdec
                    refine H_skip ?_
                    refine H_seq ?_
                    -- R17 ref.go:140
                    refine H_region (l := [_, _, _, _, _]) rfl ?_
                    refine HO_move rfl rfl rfl ?_
                    refine HO_move rfl rfl rfl ?_
                    refine HO_bin rfl rfl rfl rfl (bin_add ?_ ?_) ?_
                    · omega
                    · omega
                    refine HO_assign rfl rfl rfl ?_
                    refine HO_assign rfl rfl rfl ?_
                    refine HO_nil ?_
                    refine H_env (ρ' := [(3, _), (2, _)]) ⟨rfl, rfl, trivial⟩ ?_
                    -- end6
                    refine H_ret2 Try.results142 (.tmp rfl) (.tmp rfl) (fun w hA => ⟨(), congrArg Ending.returned ?_, ?_, ?_⟩)
                    · (rw [hdec]; rfl)
                    · trivial
                    · exact hA.only (is := []) (Z := []) rfl
      · intro h12
        (try simp only [decide_eq_true_eq, decide_eq_false_iff_not, Bool.not_eq_true', Bool.not_eq_false', Bool.not_eq_true, Bool.not_eq_false, Bool.true_eq_false, Bool.false_eq_true, not_false_eq_true, not_true_eq_false] at h12)
        refine HO_no rfl rfl rfl ?_
        refine HO_no rfl rfl rfl ?_
        refine HO_no rfl rfl rfl ?_
        refine HO_no rfl rfl rfl ?_
        refine HO_no rfl rfl rfl ?_
        refine HO_no rfl rfl rfl ?_
        refine HO_no rfl rfl rfl ?_
        refine HO_no rfl rfl rfl ?_
        refine HO_no rfl rfl rfl ?_
        refine HO_pick_f rfl rfl rfl rfl ?_
        refine HO_nil ?_
        refine H_env (ρ' := [(22, _), (0, _), (4, _)]) ⟨rfl, rfl, rfl, trivial⟩ ?_
        refine H_cond rfl (fun h => nomatch h) (fun _ => ?_)
        refine H_exit rfl ?_
        refine H_seq ?_
        refine H_seq ?_
        -- R6 ref.go:127
        obtain rfl : k = Cod.lead z0.toNat := by first | omega | exact Cod.lead_end hzlt hI.1 hI.2 (by omega) h22
        refine H_region (l := [_, _, _, _, _]) rfl ?_
        refine HO_move rfl rfl rfl ?_
        refine HO_bi rfl rfl rfl (bi_len_sl Try.underlying28) ?_
        refine HO_move rfl rfl rfl ?_
        refine HO_bin rfl rfl rfl rfl (bin_add ?_ ?_) ?_
        · omega
        · omega
        refine HO_bin rfl rfl rfl rfl bin_lss ?_
        refine HO_nil ?_
        refine H_env (ρ' := [(29, _), (0, _), (4, _)]) ⟨rfl, rfl, rfl, trivial⟩ ?_
        refine H_cond rfl ?_ ?_
        · intro h29
          (try simp only [decide_eq_true_eq, decide_eq_false_iff_not, Bool.not_eq_true', Bool.not_eq_false', Bool.not_eq_true, Bool.not_eq_false, Bool.true_eq_false, Bool.false_eq_true, not_false_eq_true, not_true_eq_false] at h29)
          rw [if_pos (by omega)] at hdec
          refine H_seq ?_
          -- R7 ref.go:128
          refine H_region (l := [_, _]) rfl ?_
          refine HO_assign rfl rfl rfl ?_
          refine HO_assign rfl rfl rfl ?_
          refine HO_nil ?_
          refine H_env (ρ' := [(3, _), (2, _)]) ⟨rfl, rfl, trivial⟩ ?_
          refine H_world (fun _ hA => hA.drop (is := [0]) (Y := [_]) (Z := []) rfl) ?_
          -- end7
          refine H_ret2 Try.results142 (.tmp rfl) (.tmp rfl) (fun w hA => ⟨(), congrArg Ending.returned ?_, ?_, ?_⟩)
          · (rw [hdec]; rfl)
          · trivial
          · exact hA.only (is := []) (Z := []) rfl
        · intro h29
          (try simp only [decide_eq_true_eq, decide_eq_false_iff_not, Bool.not_eq_true', Bool.not_eq_false', Bool.not_eq_true, Bool.not_eq_false, Bool.true_eq_false, Bool.false_eq_true, not_false_eq_true, not_true_eq_false] at h29)
          rw [if_neg (by omega)] at hdec
          refine H_skip ?_
          refine H_seq ?_
          -- R8 ref.go:130
          refine H_region (l := [_]) rfl ?_
          refine HO_assign rfl rfl rfl ?_
          refine HO_nil ?_
          refine H_env (ρ' := [(5, _), (0, _), (4, _)]) ⟨rfl, rfl, rfl, trivial⟩ ?_
          refine H_seq ?_
          refine H_seq ?_
          -- R9 ref.go:131
          refine H_region (l := [_, _]) rfl ?_
          refine HO_move rfl rfl rfl ?_
          refine HO_bin rfl rfl rfl rfl bin_lss ?_
          refine HO_nil ?_
          refine H_env (ρ' := [(31, _), (5, _), (0, _), (4, _)]) ⟨rfl, rfl, rfl, rfl, trivial⟩ ?_
          refine H_cond rfl ?_ ?_
          · intro h31
            (try simp only [decide_eq_true_eq, decide_eq_false_iff_not, Bool.not_eq_true', Bool.not_eq_false', Bool.not_eq_true, Bool.not_eq_false, Bool.true_eq_false, Bool.false_eq_true, not_false_eq_true, not_true_eq_false] at h31)
            -- R10 ref.go:132
            refine H_region (l := [_, _, _, _, _, _, _, _, _]) rfl ?_
            refine HO_move rfl rfl rfl ?_
            refine HO_indexAddr open_byte (i := 0) (j := 0) rfl rfl rfl rfl rfl Try.underlying28 Try.sizeOf5 rfl ?_ ?_
            · omega
            intro b33 o33 z33 y33 hz33 hI33
            clear y33 hI33
            refine HO_load1 (i := 0) (j := 0) rfl rfl rfl Try.isAgg5 rfl (.elem _ _ _) rfl rfl ?_
            refine HO_move rfl rfl rfl ?_
            refine HO_conv rfl rfl rfl (cv_int Try.underlying3 Try.underlying86 (wrap_u_i rfl _)) ?_
            refine HO_set (v' := .int .u64 (((Cod.lead z0.toNat : Nat) : Int))) 36 rfl (by exact congrArg (Value.int .u64) (by simp only [IntKind.bits]; omega)) ?_
            refine HO_bin rfl rfl rfl rfl (bin_shr' ?_ ?_) ?_
            · decide
            · omega
            refine HO_bin rfl rfl rfl rfl (bin_and rfl ?_ ?_) ?_
            · (exact z33.toNat_lt)
            · (exact Nat.lt_of_le_of_lt (Nat.div_le_self _ _) (by decide))
            refine HO_conv rfl rfl rfl (cv_int Try.underlying5 Try.underlying97 (wrap_u_lt rfl ?_)) ?_
            · (exact Nat.lt_of_le_of_lt Nat.and_le_left (Nat.lt_of_lt_of_le z33.toNat_lt (by decide)))
            refine HO_assign rfl rfl rfl ?_
            refine HO_nil ?_
            refine H_env (ρ' := [(5, _), (0, _), (4, _)]) ⟨rfl, rfl, rfl, trivial⟩ ?_
            refine H_world (fun _ hA => hA.drop (is := [0]) (Y := [_]) (Z := [_]) rfl) ?_
            refine H_seq ?_
            refine H_seq ?_
            -- R11 ref.go:134
            refine H_set (v' := .int .u64 ((z0.toNat &&& (255 - Cod.onesB (Cod.lead z0.toNat))) : Int)) 5 rfl ?_ ?_
            · first | exact congrArg (Value.int .u64) (Cod.mask_eq hz0 hz33 (by omega)) | exact congrArg (Value.int .u64) (Cod.mask_zero hzlt (by omega))
            refine H_region (l := [_]) rfl ?_
            refine HO_assign rfl rfl rfl ?_
            refine HO_nil ?_
            refine H_block ?_
            refine H_loop (σ := Nat) (fun s => s ≤ Cod.lead z0.toNat) (fun s => [(0, .slice a (b.length) c), (4, .int .i64 ((Cod.lead z0.toNat : Int))), (5, .int .u64 ((Cod.foldB (z0.toNat &&& (255 - Cod.onesB (Cod.lead z0.toNat))) (List.take s (List.drop 1 b)) : Int))), (6, .int .i64 ((s : Int) + 1))]) (fun s => Asn w0 ok0 M0 [.dat kByte.sl (b) [.slice a (b.length) c]]) (fun s => Cod.lead z0.toNat - s) 0 ?_ ?_ ?_ ?_
            · exact Nat.zero_le _
            · exact ⟨rfl, rfl, rfl, rfl, trivial⟩
            · intro w hA
              exact hA.only (is := [0]) (Z := []) rfl
            · intro m hI
              (try dsimp only at hI ⊢)
              refine H_seq ?_
              refine H_seq ?_
              -- R12 ref.go:134
              refine H_region (l := [_, _, _]) rfl ?_
              refine HO_move rfl rfl rfl ?_
              refine HO_move rfl rfl rfl ?_
              refine HO_bin rfl rfl rfl rfl bin_leq ?_
              refine HO_nil ?_
              refine H_env (ρ' := [(42, _), (0, _), (4, _), (5, _), (6, _)]) ⟨rfl, rfl, rfl, rfl, rfl, trivial⟩ ?_
              refine H_cond rfl ?_ ?_
              · intro h42
                (try simp only [decide_eq_true_eq, decide_eq_false_iff_not, Bool.not_eq_true', Bool.not_eq_false', Bool.not_eq_true, Bool.not_eq_false, Bool.true_eq_false, Bool.false_eq_true, not_false_eq_true, not_true_eq_false] at h42)
                refine H_skip ?_
                refine H_seq ?_
                refine H_block ?_
                -- R14 ref.go:135
                refine H_region (l := [_, _, _, _, _, _, _, _, _]) rfl ?_
                refine HO_move rfl rfl rfl ?_
                refine HO_bin rfl rfl rfl rfl (bin_shl (s := 8) rfl) ?_
                refine HO_move rfl rfl rfl ?_
                refine HO_move rfl rfl rfl ?_
                refine HO_indexAddr open_byte (i := 0) (j := m + 1) rfl rfl rfl rfl ?_ Try.underlying28 Try.sizeOf5 rfl ?_ ?_
                · omega
                · omega
                intro b49 o49 z49 y49 hz49 hI49
                clear y49 hI49
                refine HO_load1 (i := 0) (j := 0) rfl rfl rfl Try.isAgg5 rfl (.elem _ _ _) rfl rfl ?_
                refine HO_conv rfl rfl rfl (cv_int Try.underlying5 Try.underlying97 (wrap_u_lt rfl ?_)) ?_
                · (have := z49.toNat_lt; simp only [IntKind.bits]; omega)
                refine HO_bin rfl rfl rfl rfl (bin_or rfl ?_ ?_) ?_
                · (exact Nat.mod_lt _ (by decide))
                · (have := z49.toNat_lt; simp only [IntKind.bits]; omega)
                refine HO_assign rfl rfl rfl ?_
                refine HO_nil ?_
                refine H_env (ρ' := [(5, _), (0, _), (4, _), (6, _)]) ⟨rfl, rfl, rfl, rfl, trivial⟩ ?_
                refine H_world (fun _ hA => hA.drop (is := [0]) (Y := [_]) (Z := [_]) rfl) ?_
                refine H_blk ?_
                -- R13 ref.go:134
                refine H_region (l := [_, _, _]) rfl ?_
                refine HO_move rfl rfl rfl ?_
                refine HO_bin rfl rfl rfl rfl (bin_add ?_ ?_) ?_
                · omega
                · omega
                refine HO_assign rfl rfl rfl ?_
                refine HO_nil ?_
                refine H_env (ρ' := [(6, _), (5, _), (0, _), (4, _)]) ⟨rfl, rfl, rfl, rfl, trivial⟩ ?_
                refine H_inv (fun a w hf hA => ⟨m + 1, ?_, ?_, hf.sub ?_, ?_⟩)
                · omega
                · (try dsimp only); omega
                · exact ⟨rfl, rfl, congrArg (fun m : Nat => some (Value.int .u64 (m : Int))) (Cod.foldB_take (by rw [List.getElem?_drop, Nat.add_comm]; exact hz49)), congrArg (fun z => some (Value.int .i64 z)) (by omega), trivial⟩
                · exact hA.only (is := [0]) (Z := []) rfl
              · intro h42
                (try simp only [decide_eq_true_eq, decide_eq_false_iff_not, Bool.not_eq_true', Bool.not_eq_false', Bool.not_eq_true, Bool.not_eq_false, Bool.true_eq_false, Bool.false_eq_true, not_false_eq_true, not_true_eq_false] at h42)
                refine H_exit rfl ?_
                refine H_seq ?_
                refine H_seq ?_
                -- R15 ref.go:137
                obtain rfl : m = Cod.lead z0.toNat := by omega
                refine H_region (l := [_, _, _, _]) rfl ?_
                refine HO_move rfl rfl rfl ?_
                refine HO_call (first := []) (capt := []) (is := []) (R := [_]) rfl rfl rfl rfl rfl Try.call126 rfl (rmore_spec _ ?_) ?_
                · (exact Cod.foldB_lt (Nat.lt_of_le_of_lt Nat.and_le_left (Nat.lt_of_lt_of_le z0.toNat_lt (by decide))) _)
                intro y54 hy54
                clear y54 hy54
                refine HO_move rfl rfl rfl ?_
                refine HO_bin rfl rfl rfl rfl bin_neq ?_
                refine HO_nil ?_
                refine H_env (ρ' := [(56, _), (4, _), (5, _)]) ⟨rfl, rfl, rfl, trivial⟩ ?_
                refine H_world (fun _ hA => hA.drop (is := [0]) (Y := [_]) (Z := []) rfl) ?_
                refine H_cond rfl ?_ ?_
                · intro h56
                  (try simp only [decide_eq_true_eq, decide_eq_false_iff_not, Bool.not_eq_true', Bool.not_eq_false', Bool.not_eq_true, Bool.not_eq_false, Bool.true_eq_false, Bool.false_eq_true, not_false_eq_true, not_true_eq_false] at h56)
                  rw [if_neg (by omega)] at hdec
                  refine H_seq ?_
                  -- R16 ref.go:138
                  refine H_region (l := [_, _]) rfl ?_
                  refine HO_assign rfl rfl rfl ?_
                  refine HO_assign rfl rfl rfl ?_
                  refine HO_nil ?_
                  refine H_env (ρ' := [(3, _), (2, _)]) ⟨rfl, rfl, trivial⟩ ?_
                  -- end8
                  refine H_ret2 Try.results142 (.tmp rfl) (.tmp rfl) (fun w hA => ⟨(), congrArg Ending.returned ?_, ?_, ?_⟩)
                  · (rw [hdec]; rfl)
                  · trivial
                  · exact hA.only (is := []) (Z := []) rfl
                · intro h56
                  (try simp only [decide_eq_true_eq, decide_eq_false_iff_not, Bool.not_eq_true', Bool.not_eq_false', Bool.not_eq_true, Bool.not_eq_false, Bool.true_eq_false, Bool.false_eq_true, not_false_eq_true, not_true_eq_false] at h56)
                  rw [if_pos (by omega)] at hdec
                  refine H_skip ?_
                  refine H_seq ?_
                  -- R17 ref.go:140
                  refine H_region (l := [_, _, _, _, _]) rfl ?_
                  refine HO_move rfl rfl rfl ?_
                  refine HO_move rfl rfl rfl ?_
                  refine HO_bin rfl rfl rfl rfl (bin_add ?_ ?_) ?_
                  · omega
                  · omega
                  refine HO_assign rfl rfl rfl ?_
                  refine HO_assign rfl rfl rfl ?_
                  refine HO_nil ?_
                  refine H_env (ρ' := [(3, _), (2, _)]) ⟨rfl, rfl, trivial⟩ ?_
                  -- end9
                  refine H_ret2 Try.results142 (.tmp rfl) (.tmp rfl) (fun w hA => ⟨(), congrArg Ending.returned ?_, ?_, ?_⟩)
                  · (rw [hdec]; rfl)
                  · trivial
                  · exact hA.only (is := []) (Z := []) rfl
          · intro h31
            (try simp only [decide_eq_true_eq, decide_eq_false_iff_not, Bool.not_eq_true', Bool.not_eq_false', Bool.not_eq_true, Bool.not_eq_false, Bool.true_eq_false, Bool.false_eq_true, not_false_eq_true, not_true_eq_false] at h31)
            refine H_skip ?_
            refine H_seq ?_
            refine H_seq ?_
            -- R11 ref.go:134
            refine H_set (v' := .int .u64 ((z0.toNat &&& (255 - Cod.onesB (Cod.lead z0.toNat))) : Int)) 5 rfl ?_ ?_
            · first | exact congrArg (Value.int .u64) (Cod.mask_eq hz0 hz33 (by omega)) | exact congrArg (Value.int .u64) (Cod.mask_zero hzlt (by omega))
            refine H_region (l := [_]) rfl ?_
            refine HO_assign rfl rfl rfl ?_
            refine HO_nil ?_
            refine H_env (ρ' := [(6, _), (5, _), (0, _), (4, _)]) ⟨rfl, rfl, rfl, rfl, trivial⟩ ?_
            refine H_block ?_
            refine H_loop (σ := Nat) (fun s => s ≤ Cod.lead z0.toNat) (fun s => [(0, .slice a (b.length) c), (4, .int .i64 ((Cod.lead z0.toNat : Int))), (5, .int .u64 ((Cod.foldB (z0.toNat &&& (255 - Cod.onesB (Cod.lead z0.toNat))) (List.take s (List.drop 1 b)) : Int))), (6, .int .i64 ((s : Int) + 1))]) (fun s => Asn w0 ok0 M0 [.dat kByte.sl (b) [.slice a (b.length) c]]) (fun s => Cod.lead z0.toNat - s) 0 ?_ ?_ ?_ ?_
            · exact Nat.zero_le _
            · exact ⟨rfl, rfl, rfl, rfl, trivial⟩
            · intro w hA
              exact hA.only (is := [0]) (Z := []) rfl
            · intro m hI
              (try dsimp only at hI ⊢)
              refine H_seq ?_
              refine H_seq ?_
              -- R12 ref.go:134
              refine H_region (l := [_, _, _]) rfl ?_
              refine HO_move rfl rfl rfl ?_
              refine HO_move rfl rfl rfl ?_
              refine HO_bin rfl rfl rfl rfl bin_leq ?_
              refine HO_nil ?_
              refine H_env (ρ' := [(42, _), (0, _), (4, _), (5, _), (6, _)]) ⟨rfl, rfl, rfl, rfl, rfl, trivial⟩ ?_
              refine H_cond rfl ?_ ?_
              · intro h42
                (try simp only [decide_eq_true_eq, decide_eq_false_iff_not, Bool.not_eq_true', Bool.not_eq_false', Bool.not_eq_true, Bool.not_eq_false, Bool.true_eq_false, Bool.false_eq_true, not_false_eq_true, not_true_eq_false] at h42)
                refine H_skip ?_
                refine H_seq ?_
                refine H_block ?_
                -- R14 ref.go:135
                refine H_region (l := [_, _, _, _, _, _, _, _, _]) rfl ?_
                refine HO_move rfl rfl rfl ?_
                refine HO_bin rfl rfl rfl rfl (bin_shl (s := 8) rfl) ?_
                refine HO_move rfl rfl rfl ?_
                refine HO_move rfl rfl rfl ?_
                refine HO_indexAddr open_byte (i := 0) (j := m + 1) rfl rfl rfl rfl ?_ Try.underlying28 Try.sizeOf5 rfl ?_ ?_
                · omega
                · omega
                intro b49 o49 z49 y49 hz49 hI49
                clear y49 hI49
                refine HO_load1 (i := 0) (j := 0) rfl rfl rfl Try.isAgg5 rfl (.elem _ _ _) rfl rfl ?_
                refine HO_conv rfl rfl rfl (cv_int Try.underlying5 Try.underlying97 (wrap_u_lt rfl ?_)) ?_
                · (have := z49.toNat_lt; simp only [IntKind.bits]; omega)
                refine HO_bin rfl rfl rfl rfl (bin_or rfl ?_ ?_) ?_
                · (exact Nat.mod_lt _ (by decide))
                · (have := z49.toNat_lt; simp only [IntKind.bits]; omega)
                refine HO_assign rfl rfl rfl ?_
                refine HO_nil ?_
                refine H_env (ρ' := [(5, _), (0, _), (4, _), (6, _)]) ⟨rfl, rfl, rfl, rfl, trivial⟩ ?_
                refine H_world (fun _ hA => hA.drop (is := [0]) (Y := [_]) (Z := [_]) rfl) ?_
                refine H_blk ?_
                -- R13 ref.go:134
                refine H_region (l := [_, _, _]) rfl ?_
                refine HO_move rfl rfl rfl ?_
                refine HO_bin rfl rfl rfl rfl (bin_add ?_ ?_) ?_
                · omega
                · omega
                refine HO_assign rfl rfl rfl ?_
                refine HO_nil ?_
                refine H_env (ρ' := [(6, _), (5, _), (0, _), (4, _)]) ⟨rfl, rfl, rfl, rfl, trivial⟩ ?_
                refine H_inv (fun a w hf hA => ⟨m + 1, ?_, ?_, hf.sub ?_, ?_⟩)
                · omega
                · (try dsimp only); omega
                · exact ⟨rfl, rfl, congrArg (fun m : Nat => some (Value.int .u64 (m : Int))) (Cod.foldB_take (by rw [List.getElem?_drop, Nat.add_comm]; exact hz49)), congrArg (fun z => some (Value.int .i64 z)) (by omega), trivial⟩
                · exact hA.only (is := [0]) (Z := []) rfl
              · intro h42
                (try simp only [decide_eq_true_eq, decide_eq_false_iff_not, Bool.not_eq_true', Bool.not_eq_false', Bool.not_eq_true, Bool.not_eq_false, Bool.true_eq_false, Bool.false_eq_true, not_false_eq_true, not_true_eq_false] at h42)
                refine H_exit rfl ?_
                refine H_seq ?_
                refine H_seq ?_
                -- R15 ref.go:137
                obtain rfl : m = Cod.lead z0.toNat := by omega
                refine H_region (l := [_, _, _, _]) rfl ?_
                refine HO_move rfl rfl rfl ?_
                refine HO_call (first := []) (capt := []) (is := []) (R := [_]) rfl rfl rfl rfl rfl Try.call126 rfl (rmore_spec _ ?_) ?_
                · (exact Cod.foldB_lt (Nat.lt_of_le_of_lt Nat.and_le_left (Nat.lt_of_lt_of_le z0.toNat_lt (by decide))) _)
                intro y54 hy54
                clear y54 hy54
                refine HO_move rfl rfl rfl ?_
                refine HO_bin rfl rfl rfl rfl bin_neq ?_
                refine HO_nil ?_
                refine H_env (ρ' := [(56, _), (4, _), (5, _)]) ⟨rfl, rfl, rfl, trivial⟩ ?_
                refine H_world (fun _ hA => hA.drop (is := [0]) (Y := [_]) (Z := []) rfl) ?_
                refine H_cond rfl ?_ ?_
                · intro h56
                  (try simp only [decide_eq_true_eq, decide_eq_false_iff_not, Bool.not_eq_true', Bool.not_eq_false', Bool.not_eq_true, Bool.not_eq_false, Bool.true_eq_false, Bool.false_eq_true, not_false_eq_true, not_true_eq_false] at h56)
                  rw [if_neg (by omega)] at hdec
                  refine H_seq ?_
                  -- R16 ref.go:138
                  refine H_region (l := [_, _]) rfl ?_
                  refine HO_assign rfl rfl rfl ?_
                  refine HO_assign rfl rfl rfl ?_
                  refine HO_nil ?_
                  refine H_env (ρ' := [(3, _), (2, _)]) ⟨rfl, rfl, trivial⟩ ?_
                  -- end10
                  refine H_ret2 Try.results142 (.tmp rfl) (.tmp rfl) (fun w hA => ⟨(), congrArg Ending.returned ?_, ?_, ?_⟩)
                  · (rw [hdec]; rfl)
                  · trivial
                  · exact hA.only (is := []) (Z := []) rfl
                · intro h56
                  (try simp only [decide_eq_true_eq, decide_eq_false_iff_not, Bool.not_eq_true', Bool.not_eq_false', Bool.not_eq_true, Bool.not_eq_false, Bool.true_eq_false, Bool.false_eq_true, not_false_eq_true, not_true_eq_false] at h56)
                  rw [if_pos (by omega)] at hdec
                  refine H_skip ?_
                  refine H_seq ?_
                  -- R17 ref.go:140
                  refine H_region (l := [_, _, _, _, _]) rfl ?_
                  refine HO_move rfl rfl rfl ?_
                  refine HO_move rfl rfl rfl ?_
                  refine HO_bin rfl rfl rfl rfl (bin_add ?_ ?_) ?_
                  · omega
                  · omega
                  refine HO_assign rfl rfl rfl ?_
                  refine HO_assign rfl rfl rfl ?_
                  refine HO_nil ?_
                  refine H_env (ρ' := [(3, _), (2, _)]) ⟨rfl, rfl, trivial⟩ ?_
                  -- end11
                  refine H_ret2 Try.results142 (.tmp rfl) (.tmp rfl) (fun w hA => ⟨(), congrArg Ending.returned ?_, ?_, ?_⟩)
                  · (rw [hdec]; rfl)
                  · trivial
                  · exact hA.only (is := []) (Z := []) rfl
theorem rGetText_spec (b : List UInt8) (a : Option Addr) (c : Nat) (hb : b.length ≤ 1099511627776) : Spec Try.prog 131 #[.slice a (b.length) c] [.dat kByte.sl (b) [.slice a (b.length) c]] (β := Unit) (fun y => .tuple #[.string (⟨(Cod.decT b).1.toArray⟩), .int .i64 (((Cod.decT b).2 : Int))]) (fun y => True) (fun y => []) := by
  have hlt := Cod.dec_lt b
  have hle := Cod.dec_len b
  have hu := Cod.decT.eq_1 b
  refine Spec.enter (vs := [_]) Try.func131 rfl Try.ntmps131 rfl (Nat.le_of_ble_eq_true rfl) (fun w0 ok0 => ?_)
  generalize hM0 : blks _ = M0
  have hMn : ∀ {R : List Atom} (b : Nat), M0 b → blks R b := fun b hb => absurd (hM0 ▸ hb) (blks_none (by simp [Atom.dat, Atom.elem]) b)
  refine H_seq ?_
  -- R0 ref.go:147
  refine H_region (l := [_, _]) rfl ?_
  refine HO_assign rfl rfl rfl ?_
  refine HO_assign rfl rfl rfl ?_
  refine HO_nil ?_
  refine H_env (ρ' := [(0, _)]) ⟨rfl, trivial⟩ ?_
  refine H_seq ?_
  -- R1 ref.go:148
  refine H_region (l := [_, _, _, _, _, _, _]) rfl ?_
  refine HO_move rfl rfl rfl ?_
  refine HO_dup (i := 0) rfl rfl ?_
  refine HO_call (first := []) (capt := []) (is := [0]) (R := [_]) rfl rfl rfl rfl rfl Try.call142 rfl (rGet_spec _ _ _) ?_
  intro y8 hy8
  clear y8 hy8
  refine HO_move rfl rfl rfl ?_
  refine HO_extract (vs := [_, _]) rfl rfl rfl rfl ?_
  refine HO_extract (vs := [_, _]) rfl rfl rfl rfl ?_
  refine HO_assign rfl rfl rfl ?_
  refine HO_assign rfl rfl rfl ?_
  refine HO_nil ?_
  refine H_env (ρ' := [(5, _), (4, _), (0, _)]) ⟨rfl, rfl, rfl, trivial⟩ ?_
  refine H_seq ?_
  refine H_seq ?_
  -- R2 ref.go:149
  refine H_region (l := [_, _, _, _, _, _, _, _, _, _, _]) rfl ?_
  refine HO_move rfl rfl rfl ?_
  refine HO_bin rfl rfl rfl rfl bin_eql ?_
  refine HO_move rfl rfl rfl ?_
  refine HO_split (d := 13) rfl ?_ ?_
  · intro h13
    (try simp only [decide_eq_true_eq, decide_eq_false_iff_not, Bool.not_eq_true', Bool.not_eq_false', Bool.not_eq_true, Bool.not_eq_false, Bool.true_eq_false, Bool.false_eq_true, not_false_eq_true, not_true_eq_false] at h13)
    refine HO_no rfl rfl rfl ?_
    refine HO_no rfl rfl rfl ?_
    refine HO_no rfl rfl rfl ?_
    refine HO_no rfl rfl rfl ?_
    refine HO_no rfl rfl rfl ?_
    refine HO_no rfl rfl rfl ?_
    refine HO_no rfl rfl rfl ?_
    refine HO_pick_t rfl rfl rfl rfl ?_
    refine HO_nil ?_
    refine H_env (ρ' := [(21, _), (5, _), (4, _), (0, _)]) ⟨rfl, rfl, rfl, rfl, trivial⟩ ?_
    refine H_cond rfl (fun _ => ?_) (fun h => nomatch h)
    refine H_seq ?_
    -- R3 ref.go:150
    refine H_region (l := [_, _]) rfl ?_
    refine HO_assign rfl rfl rfl ?_
    refine HO_assign rfl rfl rfl ?_
    refine HO_nil ?_
    refine H_env (ρ' := [(3, _), (2, _)]) ⟨rfl, rfl, trivial⟩ ?_
    refine H_world (fun _ hA => hA.drop (is := [0]) (Y := [_]) (Z := []) rfl) ?_
    -- end1
    refine H_ret2 Try.results131 (.tmp rfl) (.tmp rfl) (fun w hA => ⟨(), congrArg Ending.returned ?_, ?_, ?_⟩)
    · (rw [hu, if_pos (by omega)]; rfl)
    · trivial
    · exact hA.only (is := []) (Z := []) rfl
  · intro h13
    (try simp only [decide_eq_true_eq, decide_eq_false_iff_not, Bool.not_eq_true', Bool.not_eq_false', Bool.not_eq_true, Bool.not_eq_false, Bool.true_eq_false, Bool.false_eq_true, not_false_eq_true, not_true_eq_false] at h13)
    refine HO_move rfl rfl rfl ?_
    refine HO_move rfl rfl rfl ?_
    refine HO_bi rfl rfl rfl (bi_len_sl Try.underlying28) ?_
    refine HO_move rfl rfl rfl ?_
    refine HO_bin rfl rfl rfl rfl (bin_sub ?_ ?_) ?_
    · omega
    · omega
    refine HO_conv rfl rfl rfl (cv_int Try.underlying3 Try.underlying97 (wrap_u_i rfl _)) ?_
    refine HO_set (v' := .int .u64 (((b.length - (Cod.dec b).2 : Nat) : Int))) 19 rfl (by exact congrArg (Value.int .u64) (by simp only [IntKind.bits]; omega)) ?_
    refine HO_bin rfl rfl rfl rfl bin_gtr ?_
    refine HO_pick_f rfl rfl rfl rfl ?_
    refine HO_nil ?_
    refine H_env (ρ' := [(21, _), (5, _), (4, _), (0, _)]) ⟨rfl, rfl, rfl, rfl, trivial⟩ ?_
    refine H_cond rfl ?_ ?_
    · intro h21
      (try simp only [decide_eq_true_eq, decide_eq_false_iff_not, Bool.not_eq_true', Bool.not_eq_false', Bool.not_eq_true, Bool.not_eq_false, Bool.true_eq_false, Bool.false_eq_true, not_false_eq_true, not_true_eq_false] at h21)
      refine H_seq ?_
      -- R3 ref.go:150
      refine H_region (l := [_, _]) rfl ?_
      refine HO_assign rfl rfl rfl ?_
      refine HO_assign rfl rfl rfl ?_
      refine HO_nil ?_
      refine H_env (ρ' := [(3, _), (2, _)]) ⟨rfl, rfl, trivial⟩ ?_
      refine H_world (fun _ hA => hA.drop (is := [0]) (Y := [_]) (Z := []) rfl) ?_
      -- end2
      refine H_ret2 Try.results131 (.tmp rfl) (.tmp rfl) (fun w hA => ⟨(), congrArg Ending.returned ?_, ?_, ?_⟩)
      · (rw [hu, if_pos (by omega)]; rfl)
      · trivial
      · exact hA.only (is := []) (Z := []) rfl
    · intro h21
      (try simp only [decide_eq_true_eq, decide_eq_false_iff_not, Bool.not_eq_true', Bool.not_eq_false', Bool.not_eq_true, Bool.not_eq_false, Bool.true_eq_false, Bool.false_eq_true, not_false_eq_true, not_true_eq_false] at h21)
      refine H_skip ?_
      refine H_seq ?_
      -- R4 ref.go:152
      refine H_region (l := [_, _, _, _, _, _, _, _, _, _, _, _, _, _]) rfl ?_
      refine HO_move rfl rfl rfl ?_
      refine HO_move rfl rfl rfl ?_
      refine HO_move rfl rfl rfl ?_
      refine HO_move rfl rfl rfl ?_
      refine HO_conv rfl rfl rfl (cv_int Try.underlying97 Try.underlying3 (wrap_i64_nat ?_)) ?_
      · omega
      refine HO_bin rfl rfl rfl rfl (bin_add ?_ ?_) ?_
      · omega
      · omega
      refine HO_slice_lh (i := 0) (l := (Cod.dec b).2) (h' := (Cod.dec b).2 + (Cod.dec b).1) rfl rfl rfl rfl rfl ?_ ?_ Try.underlying28 Try.sizeOf5 rfl ?_ ?_ ?_
      · omega
      · omega
      · omega
      · omega
      intro a28 c28
      refine HO_bytesStr (i := 0) rfl rfl rfl Try.underlying28 Try.underlying9 Try.underlying5 rfl ?_
      refine HO_move rfl rfl rfl ?_
      refine HO_move rfl rfl rfl ?_
      refine HO_conv rfl rfl rfl (cv_int Try.underlying97 Try.underlying3 (wrap_i64_nat ?_)) ?_
      · omega
      refine HO_bin rfl rfl rfl rfl (bin_add ?_ ?_) ?_
      · omega
      · omega
      refine HO_assign rfl rfl rfl ?_
      refine HO_assign rfl rfl rfl ?_
      refine HO_nil ?_
      refine H_env (ρ' := [(3, _), (2, _)]) ⟨rfl, rfl, trivial⟩ ?_
      refine H_world (fun _ hA => hA.drop (is := [0, 1]) (Y := [_, _]) (Z := []) rfl) ?_
      -- end3
      refine H_ret2 Try.results131 (.tmp rfl) (.tmp rfl) (fun w hA => ⟨(), congrArg Ending.returned ?_, ?_, ?_⟩)
      · (rw [hu, if_neg (by omega)]; rfl)
      · trivial
      · exact hA.only (is := []) (Z := []) rfl
end Go.Wk
