/- Contracts of the program's functions, each proved by walking its code. -/
import Derived.Test.YtbbcndjahjpdjaaKalaw01
import Derived.Test.YtbbcndjahjpdjaaCod4
import Derived.Test.YtbbcndjahjpdjaaWk14
set_option maxRecDepth 100000
set_option linter.unusedVariables false
set_option linter.unusedSimpArgs false
namespace Go.Wk.Flaw01d
open Go Go.RowKit Go.Proofs Go.Wk
theorem elt5 : Elt Try.prog 5 (.int .u8 (0)) 1 1 := Elt.of (by kernel_rfl) (by rfl) (by decide) (by decide)
end Go.Wk.Flaw01d
namespace Go.Wk
open Go Go.RowKit Go.Proofs Flaw01d 
theorem CodecTells_spec (b : List UInt8) (q t : Nat) (a : Option Addr) (c : Nat) (hq : q < 18446744073709551616) (ht : t < 18446744073709551616) : Spec Try.prog 9 #[.slice a (b.length) c, .int .u64 (q), .int .u64 (t)] [.dat kByte.sl (b) [.slice a (b.length) c]] (β := Unit) (fun y => .bool (true)) (fun y => True) (fun y => []) := by
  refine Spec.enter (vs := [_, _, _]) Try.func9 rfl Try.ntmps9 rfl (Nat.le_of_ble_eq_true rfl) (fun w0 ok0 => ?_)
  generalize hM0 : blks _ = M0
  have hMn : ∀ {R : List Atom} (b : Nat), M0 b → blks R b := fun b hb => absurd (hM0 ▸ hb) (blks_none (by simp [Atom.dat, Atom.elem]) b)
  refine H_seq ?_
  -- R0 law.go:97
  refine H_region (l := [_]) rfl ?_
  refine HO_assign rfl rfl rfl ?_
  refine HO_nil ?_
  refine H_env (ρ' := [(0, _), (1, _), (2, _)]) ⟨rfl, rfl, rfl, trivial⟩ ?_
  refine H_seq ?_
  refine H_seq ?_
  -- R1 law.go:98
  refine H_region (l := [_, _, _]) rfl ?_
  refine HO_move rfl rfl rfl ?_
  refine HO_bi rfl rfl rfl (bi_len_sl Try.underlying28) ?_
  refine HO_bin rfl rfl rfl rfl bin_gtr ?_
  refine HO_nil ?_
  refine H_env (ρ' := [(17, _), (0, _), (1, _), (2, _)]) ⟨rfl, rfl, rfl, rfl, trivial⟩ ?_
  refine H_cond rfl ?_ ?_
  · intro h17
    (try simp only [decide_eq_true_eq, decide_eq_false_iff_not, Bool.not_eq_true', Bool.not_eq_false', Bool.not_eq_true, Bool.not_eq_false, Bool.true_eq_false, Bool.false_eq_true, not_false_eq_true, not_true_eq_false] at h17)
    refine H_seq ?_
    -- R2 law.go:99
    refine H_region (l := [_, _]) rfl ?_
    refine HO_call (first := []) (capt := []) (is := []) (R := [_]) rfl rfl rfl rfl rfl Try.call20 rfl lives_spec ?_
    intro y18 hy18
    clear y18 hy18
    refine HO_assign rfl rfl rfl ?_
    refine HO_nil ?_
    refine H_env (ρ' := [(6, _)]) ⟨rfl, trivial⟩ ?_
    refine H_world (fun _ hA => hA.drop (is := [0]) (Y := [_]) (Z := []) rfl) ?_
    -- end1
    refine H_ret1 Try.results9 (.tmp rfl) (fun w hA => ⟨(), congrArg Ending.returned ?_, ?_, ?_⟩)
    · (exact congrArg Value.bool (by first | rfl | assumption | simp_all))
    · trivial
    · exact hA.only (is := []) (Z := []) rfl
  · intro h17
    (try simp only [decide_eq_true_eq, decide_eq_false_iff_not, Bool.not_eq_true', Bool.not_eq_false', Bool.not_eq_true, Bool.not_eq_false, Bool.true_eq_false, Bool.false_eq_true, not_false_eq_true, not_true_eq_false] at h17)
    refine H_skip ?_
    refine H_seq ?_
    -- R3 law.go:101
    have hb : b.length ≤ 20000 := by omega
    have hfl : (Cod.frame b).length = b.length + 8 := Cod.frame_length (by omega)
    refine H_region (l := [_, _, _]) rfl ?_
    refine HO_move rfl rfl rfl ?_
    refine HO_dup (i := 0) rfl rfl ?_
    refine HO_call (first := []) (capt := []) (is := [0]) (R := [_]) rfl rfl rfl rfl rfl Try.call41 rfl (Frame_spec _ _ _ ?_) ?_
    · (first | omega | assumption | decide)
    intro y20 hy20
    refine HO_assign rfl rfl rfl ?_
    refine HO_nil ?_
    refine H_env (ρ' := [(7, _), (0, _), (1, _), (2, _)]) ⟨rfl, rfl, rfl, rfl, trivial⟩ ?_
    refine H_seq ?_
    refine H_seq ?_
    -- R4 law.go:102
    refine H_region (l := [_, _, _, _, _, _]) rfl ?_
    refine HO_move rfl rfl rfl ?_
    refine HO_bi rfl rfl rfl (bi_len_sl Try.underlying28) ?_
    refine HO_move rfl rfl rfl ?_
    refine HO_bi rfl rfl rfl (bi_len_sl Try.underlying28) ?_
    refine HO_bin rfl rfl rfl rfl (bin_add ?_ ?_) ?_
    · omega
    · omega
    refine HO_bin rfl rfl rfl rfl bin_neq ?_
    refine HO_nil ?_
    refine H_env (ρ' := [(26, _), (7, _), (0, _), (1, _), (2, _)]) ⟨rfl, rfl, rfl, rfl, rfl, trivial⟩ ?_
    refine H_cond rfl ?_ ?_
    · intro h26
      (try simp only [decide_eq_true_eq, decide_eq_false_iff_not, Bool.not_eq_true', Bool.not_eq_false', Bool.not_eq_true, Bool.not_eq_false, Bool.true_eq_false, Bool.false_eq_true, not_false_eq_true, not_true_eq_false] at h26)
      (exfalso; omega)
    · intro h26
      (try simp only [decide_eq_true_eq, decide_eq_false_iff_not, Bool.not_eq_true', Bool.not_eq_false', Bool.not_eq_true, Bool.not_eq_false, Bool.true_eq_false, Bool.false_eq_true, not_false_eq_true, not_true_eq_false] at h26)
      refine H_skip ?_
      refine H_seq ?_
      -- R6 law.go:105
      have hcut : q % (b.length + 8) < b.length + 8 := Nat.mod_lt _ (by omega)
      refine H_region (l := [_, _, _, _, _, _, _, _, _, _, _, _, _, _, _]) rfl ?_
      refine HO_move rfl rfl rfl ?_
      refine HO_move rfl rfl rfl ?_
      refine HO_move rfl rfl rfl ?_
      refine HO_bi rfl rfl rfl (bi_len_sl Try.underlying28) ?_
      refine HO_conv rfl rfl rfl (cv_int Try.underlying3 Try.underlying31 (wrap_u_i rfl _)) ?_
      refine HO_set (v' := .int .u64 (((b.length + 8 : Nat) : Int))) 32 rfl (by exact congrArg (Value.int .u64) (by first | rfl | (simp only [IntKind.bits]; omega))) ?_
      refine HO_bin rfl rfl rfl rfl (bin_remu ?_) ?_
      · omega
      refine HO_set (v' := .int .u64 (((q % (b.length + 8) : Nat) : Int))) 33 rfl (by exact congrArg (Value.int .u64) (by first | rfl | (simp only [IntKind.bits]; omega))) ?_
      refine HO_sliceOwn_h (i := 0) (h' := q % (b.length + 8)) rfl rfl rfl rfl ?_ Try.underlying28 Try.sizeOf5 rfl rfl rfl ?_ ?_
      · omega
      · omega
      intro a34 c34 hp34
      refine HO_call (first := []) (capt := []) (is := [0]) (R := [_]) rfl rfl rfl rfl rfl Try.call37 rfl (Spec.lendPart (pre1 := []) (pre2 := []) (Unframe_spec _ _ _ ?_) hp34 (by intro y at' ha; obtain rfl := List.mem_singleton.1 ha; first | exact Atom.Flat.own kByte_plain _ _ _ _ | exact Atom.Flat.own kInt_plain _ _ _ _ | exact Atom.Flat.own kStr_plain _ _ _ _ | exact Atom.Flat.loc _ _ _)) ?_
      · (simp; omega)
      intro y35 hy35
      refine HO_move rfl rfl rfl ?_
      refine HO_extract (vs := [_, _, _]) rfl rfl rfl rfl ?_
      refine HO_extract (vs := [_, _, _]) rfl rfl rfl rfl ?_
      refine HO_extract (vs := [_, _, _]) rfl rfl rfl rfl ?_
      refine HO_assign rfl rfl rfl ?_
      refine HO_assign rfl rfl rfl ?_
      refine HO_assign rfl rfl rfl ?_
      refine HO_nil ?_
      refine H_env (ρ' := [(10, _), (7, _), (0, _), (2, _)]) ⟨rfl, rfl, rfl, rfl, trivial⟩ ?_
      refine H_world (fun _ hA => hA.drop (is := [1]) (Y := [_]) (Z := [_, _]) rfl) ?_
      refine H_seq ?_
      -- R7 law.go:106
      rw [Cod.unframe_cut (by omega) hcut]
      refine H_region (l := [_, _, _, _, _, _, _, _, _, _, _, _, _]) rfl ?_
      refine HO_buildSlice0 (kd := kByte) rfl rfl Try.underlying28 elt5 ?_
      intro g40
      refine HO_move rfl rfl rfl ?_
      refine HO_append (i := 0) (R := [_, _]) rfl rfl rfl rfl rfl Try.underlying28 elt5 rfl rfl (SrcOk.own (j := 0) Try.underlying28 rfl rfl) ?_ ?_
      · (simp; omega)
      intro a42 c42
      refine HO_buildSlice (kd := kByte) (xo := [_, _]) (vs := [_, _]) (cs := [_, _]) (xs := [(1 : UInt8), 2]) rfl rfl rfl rfl Try.underlying28 elt5 rfl rfl rfl (by decide) (by decide) (by simp [Value.cells]) rfl (fun _ _ _ => ⟨_, _, rfl, ⟨rfl, trivial⟩, ⟨_, _, rfl, ⟨rfl, trivial⟩, rfl⟩⟩) ?_
      intro g43
      refine HO_append (i := 1) (R := [_, _, _]) rfl rfl rfl rfl rfl Try.underlying28 elt5 rfl rfl (SrcOk.own (j := 0) Try.underlying28 rfl rfl) ?_ ?_
      · (simp; omega)
      intro a44 c44
      refine HO_call (first := []) (capt := []) (is := [0]) (R := [_, _, _]) rfl rfl rfl rfl rfl Try.call37 rfl (Spec.lend (pre1 := []) (pre2 := []) (Unframe_spec _ _ _ ?_) rfl (by intro y at' ha; obtain rfl := List.mem_singleton.1 ha; first | exact Atom.Flat.own kByte_plain _ _ _ _ | exact Atom.Flat.own kInt_plain _ _ _ _ | exact Atom.Flat.own kStr_plain _ _ _ _ | exact Atom.Flat.loc _ _ _)) ?_
      · (simp; omega)
      intro y45 hy45
      refine HO_move rfl rfl rfl ?_
      refine HO_extract (vs := [_, _, _]) rfl rfl rfl rfl ?_
      refine HO_extract (vs := [_, _, _]) rfl rfl rfl rfl ?_
      refine HO_extract (vs := [_, _, _]) rfl rfl rfl rfl ?_
      refine HO_assign rfl rfl rfl ?_
      refine HO_assign rfl rfl rfl ?_
      refine HO_assign rfl rfl rfl ?_
      refine HO_nil ?_
      refine H_env (ρ' := [(13, _), (12, _), (11, _), (10, _), (7, _), (0, _), (2, _)]) ⟨rfl, rfl, rfl, rfl, rfl, rfl, rfl, trivial⟩ ?_
      refine H_world (fun _ hA => hA.drop (is := [0, 2]) (Y := [_, _]) (Z := [_, _, _]) rfl) ?_
      refine H_seq ?_
      refine H_seq ?_
      -- R8 law.go:107
      rw [Cod.tells_whole (by omega)]
      refine H_region (l := [_, _, _, _, _, _, _, _, _, _, _, _, _, _, _, _, _, _]) rfl ?_
      refine HO_move rfl rfl rfl ?_
      refine HO_bin rfl rfl rfl rfl bin_neq ?_
      refine HO_move rfl rfl rfl ?_
      refine HO_split (d := 51) rfl ?_ ?_
      · intro h51
        (try simp only [decide_eq_true_eq, decide_eq_false_iff_not, Bool.not_eq_true', Bool.not_eq_false', Bool.not_eq_true, Bool.not_eq_false, Bool.true_eq_false, Bool.false_eq_true, not_false_eq_true, not_true_eq_false] at h51)
        all_goals (exact absurd rfl h51)
      · intro h51
        (try simp only [decide_eq_true_eq, decide_eq_false_iff_not, Bool.not_eq_true', Bool.not_eq_false', Bool.not_eq_true, Bool.not_eq_false, Bool.true_eq_false, Bool.false_eq_true, not_false_eq_true, not_true_eq_false] at h51)
        refine HO_move rfl rfl rfl ?_
        refine HO_bin rfl rfl rfl rfl bin_neq ?_
        refine HO_pick_f rfl rfl rfl rfl ?_
        refine HO_move rfl rfl rfl ?_
        refine HO_split (d := 55) rfl ?_ ?_
        · intro h55
          (try simp only [decide_eq_true_eq, decide_eq_false_iff_not, Bool.not_eq_true', Bool.not_eq_false', Bool.not_eq_true, Bool.not_eq_false, Bool.true_eq_false, Bool.false_eq_true, not_false_eq_true, not_true_eq_false] at h55)
          all_goals (exact absurd rfl h55)
        · intro h55
          (try simp only [decide_eq_true_eq, decide_eq_false_iff_not, Bool.not_eq_true', Bool.not_eq_false', Bool.not_eq_true, Bool.not_eq_false, Bool.true_eq_false, Bool.false_eq_true, not_false_eq_true, not_true_eq_false] at h55)
          refine HO_move rfl rfl rfl ?_
          refine HO_move rfl rfl rfl ?_
          refine HO_bi rfl rfl rfl (bi_len_sl Try.underlying28) ?_
          refine HO_bin rfl rfl rfl rfl bin_neq ?_
          refine HO_pick_f rfl rfl rfl rfl ?_
          refine HO_move rfl rfl rfl ?_
          refine HO_split (d := 61) rfl ?_ ?_
          · intro h61
            (try simp only [decide_eq_true_eq, decide_eq_false_iff_not, Bool.not_eq_true', Bool.not_eq_false', Bool.not_eq_true, Bool.not_eq_false, Bool.true_eq_false, Bool.false_eq_true, not_false_eq_true, not_true_eq_false] at h61)
            all_goals (exfalso; omega)
          · intro h61
            (try simp only [decide_eq_true_eq, decide_eq_false_iff_not, Bool.not_eq_true', Bool.not_eq_false', Bool.not_eq_true, Bool.not_eq_false, Bool.true_eq_false, Bool.false_eq_true, not_false_eq_true, not_true_eq_false] at h61)
            refine HO_move rfl rfl rfl ?_
            refine HO_move rfl rfl rfl ?_
            refine HO_dup (i := 2) rfl rfl ?_
            refine HO_call (first := []) (capt := []) (is := [0, 0]) (R := [_, _]) rfl rfl rfl rfl rfl Try.call24 rfl (Spec.lend (pre1 := []) (pre2 := [_]) (rsame_spec _ _ _ _ _ _) rfl (fun _ _ ha => nomatch ha)) ?_
            intro y64 hy64
            clear y64 hy64
            refine HO_not rfl rfl rfl ?_
            refine HO_pick_f rfl rfl rfl rfl ?_
            refine HO_nil ?_
            refine H_env (ρ' := [(66, _), (7, _), (0, _), (2, _)]) ⟨rfl, rfl, rfl, rfl, trivial⟩ ?_
            refine H_world (fun _ hA => hA.drop (is := [0]) (Y := [_]) (Z := [_, _]) rfl) ?_
            refine H_cond rfl ?_ ?_
            · intro h66
              (try simp only [decide_eq_true_eq, decide_eq_false_iff_not, Bool.not_eq_true', Bool.not_eq_false', Bool.not_eq_true, Bool.not_eq_false, Bool.true_eq_false, Bool.false_eq_true, not_false_eq_true, not_true_eq_false] at h66)
              all_goals (exact absurd rfl h66)
            · intro h66
              (try simp only [decide_eq_true_eq, decide_eq_false_iff_not, Bool.not_eq_true', Bool.not_eq_false', Bool.not_eq_true, Bool.not_eq_false, Bool.true_eq_false, Bool.false_eq_true, not_false_eq_true, not_true_eq_false] at h66)
              refine H_skip ?_
              refine H_seq ?_
              -- R10 law.go:110
              have hk : t % (8 * (b.length + 4)) < 8 * (b.length + 4) := Nat.mod_lt _ (by omega)
              have hk2 : t % (8 * (b.length + 4)) / 8 < b.length + 4 := by omega
              refine H_region (l := [_, _, _, _, _, _, _, _]) rfl ?_
              refine HO_move rfl rfl rfl ?_
              refine HO_move rfl rfl rfl ?_
              refine HO_bi rfl rfl rfl (bi_len_sl Try.underlying28) ?_
              refine HO_bin rfl rfl rfl rfl (bin_add ?_ ?_) ?_
              · omega
              · omega
              refine HO_bin rfl rfl rfl rfl (bin_mul ?_ ?_) ?_
              · omega
              · omega
              refine HO_conv rfl rfl rfl (cv_int Try.underlying3 Try.underlying31 (wrap_u_i rfl _)) ?_
              refine HO_set (v' := .int .u64 (((8 * (b.length + 4) : Nat) : Int))) 72 rfl (by exact congrArg (Value.int .u64) (by first | rfl | (simp only [IntKind.bits]; omega))) ?_
              refine HO_bin rfl rfl rfl rfl (bin_remu ?_) ?_
              · omega
              refine HO_set (v' := .int .u64 (((t % (8 * (b.length + 4)) : Nat) : Int))) 73 rfl (by exact congrArg (Value.int .u64) (by first | rfl | (simp only [IntKind.bits]; omega))) ?_
              refine HO_assign rfl rfl rfl ?_
              refine HO_nil ?_
              refine H_env (ρ' := [(14, _), (7, _)]) ⟨rfl, rfl, trivial⟩ ?_
              refine H_world (fun _ hA => hA.drop (is := [1]) (Y := [_]) (Z := [_]) rfl) ?_
              refine H_seq ?_
              -- R11 law.go:111
              refine H_region (l := [_, _, _, _, _, _, _, _, _, _, _, _]) rfl ?_
              refine HO_move rfl rfl rfl ?_
              refine HO_move rfl rfl rfl ?_
              refine HO_bin rfl rfl rfl rfl (bin_quou (b := 8) rfl ?_ ?_) ?_
              · (simp only [IntKind.bits]; omega)
              · decide
              refine HO_set (v' := .int .u64 (((t % (8 * (b.length + 4)) / 8 : Nat) : Int))) 76 rfl (by exact congrArg (Value.int .u64) (by first | rfl | (simp only [IntKind.bits]; omega))) ?_
              refine HO_bin rfl rfl rfl rfl (bin_addu rfl) ?_
              refine HO_set (v' := .int .u64 (((4 + t % (8 * (b.length + 4)) / 8 : Nat) : Int))) 77 rfl (by exact congrArg (Value.int .u64) (by first | rfl | (simp only [IntKind.bits]; omega))) ?_
              refine HO_indexOwn (i := 0) (j := 4 + t % (8 * (b.length + 4)) / 8) rfl rfl rfl rfl ?_ Try.underlying28 Try.sizeOf5 rfl (by first | rfl | (simp; done) | (simp; omega)) ?_ (Nat.mul_one _) ?_
              · omega
              · omega
              intro g78 z78 hg78 hz78
              refine HO_loadOwn (i := 0) (v := .int .u8 (z78.toNat)) rfl rfl rfl Try.isAgg5 rfl hg78 (Nat.mul_one _) hz78 (fun _ _ _ h => h.1) ?_
              refine HO_move rfl rfl rfl ?_
              refine HO_bin rfl rfl rfl rfl (bin_remu (b := 8) ?_) ?_
              · decide
              refine HO_set (v' := .int .u64 (((t % (8 * (b.length + 4)) % 8 : Nat) : Int))) 81 rfl (by exact congrArg (Value.int .u64) (by first | rfl | (simp only [IntKind.bits]; omega))) ?_
              refine HO_bin rfl rfl rfl rfl (bin_shl' rfl ?_) ?_
              · (first | omega | assumption | decide)
              refine HO_bin rfl rfl rfl rfl (bin_xor rfl ?_ ?_) ?_
              · (exact z78.toNat_lt)
              · (exact Nat.mod_lt _ (by decide))
              refine HO_set (v' := .int .u8 (((UInt8.ofNat (z78.toNat ^^^ (1 * 2 ^ (t % (8 * (b.length + 4)) % 8) % 2 ^ 8))).toNat : Int))) 83 rfl (by exact Cod.flip_cast (by omega)) ?_
              refine HO_indexOwn (i := 0) (j := 4 + t % (8 * (b.length + 4)) / 8) rfl rfl rfl rfl ?_ Try.underlying28 Try.sizeOf5 rfl (by first | rfl | (simp; done) | (simp; omega)) ?_ (Nat.mul_one _) ?_
              · omega
              · omega
              intro g84 z84 hg84 hz84
              refine HO_storeOwn (i := 0) (cs := [_]) (R := []) (z' := UInt8.ofNat (z78.toNat ^^^ (1 * 2 ^ (t % (8 * (b.length + 4)) % 8) % 2 ^ 8))) rfl rfl rfl Try.sizeOf5 rfl (by simp [Value.oneCell']) rfl hg84 rfl (Nat.mul_one _) ?_ (fun _ _ _ => ⟨rfl, trivial⟩) ?_
              · omega
              refine HO_nil ?_
              refine H_env (ρ' := [(7, _)]) ⟨rfl, trivial⟩ ?_
              refine H_seq ?_
              -- R12 law.go:112
              refine H_set (v' := .slice y20.1 ((Cod.frame b).set (4 + t % (8 * (b.length + 4)) / 8) (UInt8.ofNat (z78.toNat ^^^ (1 * 2 ^ (t % (8 * (b.length + 4)) % 8) % 2 ^ 8)))).length y20.2) 7 rfl (by rw [List.length_set]) ?_
              refine H_region (l := [_, _, _, _, _, _, _]) rfl ?_
              refine HO_move rfl rfl rfl ?_
              refine HO_call (first := []) (capt := []) (is := [0]) (R := []) rfl rfl rfl rfl rfl Try.call37 rfl (Spec.lend (pre1 := []) (pre2 := []) (Unframe_spec _ _ _ ?_) rfl (by intro y at' ha; obtain rfl := List.mem_singleton.1 ha; first | exact Atom.Flat.own kByte_plain _ _ _ _ | exact Atom.Flat.own kInt_plain _ _ _ _ | exact Atom.Flat.own kStr_plain _ _ _ _ | exact Atom.Flat.loc _ _ _)) ?_
              · (rw [List.length_set]; omega)
              intro y87 hy87
              refine HO_move rfl rfl rfl ?_
              refine HO_extract (vs := [_, _, _]) rfl rfl rfl rfl ?_
              refine HO_extract (vs := [_, _, _]) rfl rfl rfl rfl ?_
              refine HO_extract (vs := [_, _, _]) rfl rfl rfl rfl ?_
              refine HO_assign rfl rfl rfl ?_
              refine HO_nil ?_
              refine H_env (ρ' := [(10, _)]) ⟨rfl, trivial⟩ ?_
              refine H_world (fun _ hA => hA.drop (is := [0, 1]) (Y := [_, _]) (Z := []) rfl) ?_
              refine H_seq ?_
              -- R13 law.go:113
              rw [Cod.tells_flip (by omega) hk2 (by omega) hz78]
              refine H_region (l := [_, _, _, _, _, _]) rfl ?_
              refine HO_move rfl rfl rfl ?_
              refine HO_bin rfl rfl rfl rfl bin_eql ?_
              refine HO_move rfl rfl rfl ?_
              refine HO_split (d := 93) rfl ?_ ?_
              · intro h93
                (try simp only [decide_eq_true_eq, decide_eq_false_iff_not, Bool.not_eq_true', Bool.not_eq_false', Bool.not_eq_true, Bool.not_eq_false, Bool.true_eq_false, Bool.false_eq_true, not_false_eq_true, not_true_eq_false] at h93)
                refine HO_call (first := []) (capt := []) (is := []) (R := []) rfl rfl rfl rfl rfl Try.call20 rfl lives_spec ?_
                intro y94 hy94
                clear y94 hy94
                refine HO_pick_t rfl rfl rfl rfl ?_
                refine HO_assign rfl rfl rfl ?_
                refine HO_nil ?_
                refine H_env (ρ' := [(6, _)]) ⟨rfl, trivial⟩ ?_
                -- end2
                refine H_ret1 Try.results9 (.tmp rfl) (fun w hA => ⟨(), congrArg Ending.returned ?_, ?_, ?_⟩)
                · (exact congrArg Value.bool (by first | rfl | assumption | simp_all))
                · trivial
                · exact hA.only (is := []) (Z := []) rfl
              · intro h93
                (try simp only [decide_eq_true_eq, decide_eq_false_iff_not, Bool.not_eq_true', Bool.not_eq_false', Bool.not_eq_true, Bool.not_eq_false, Bool.true_eq_false, Bool.false_eq_true, not_false_eq_true, not_true_eq_false] at h93)
                all_goals (exact absurd rfl h93)
end Go.Wk
