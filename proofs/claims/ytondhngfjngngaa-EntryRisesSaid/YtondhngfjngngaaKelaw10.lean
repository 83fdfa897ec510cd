/- Contracts of the program's functions, each proved by walking its code. -/
import Derived.Test.YtondhngfjngngaaKeent2
import Derived.Test.YtondhngfjngngaaEnt
set_option maxRecDepth 100000
set_option linter.unusedVariables false
set_option linter.unusedSimpArgs false
namespace Go.Wk.Flaw10
open Go Go.RowKit Go.Proofs Go.Wk
theorem elt3 : Elt Try.prog 3 (.int .i64 (0)) 1 8 := Elt.of (by kernel_rfl) (by rfl) (by decide) (by decide)
theorem elt5 : Elt Try.prog 5 (.int .u8 (0)) 1 1 := Elt.of (by kernel_rfl) (by rfl) (by decide) (by decide)
theorem bd45__  : ∀ w, (Instr.build 45 (List.toArray (List.zip [] []))).run Try.prog w = .ok (.agg #[.slice none 0 0, .slice none 0 0]) w := fun _ => by kernel_rfl
theorem bd45_0_s {a1 : Option Addr} {n1 c1 : Nat} : ∀ w, (Instr.build 45 (List.toArray (List.zip [0] [.slice a1 n1 c1]))).run Try.prog w = .ok (.agg #[.slice a1 n1 c1, .slice none 0 0]) w := fun _ => by kernel_rfl
theorem bd61_0_1_2_iii {x1 : Int} {x2 : Int} {x3 : Int} : ∀ w, (Instr.build 61 (List.toArray (List.zip [0, 1, 2] [.int .i64 x1, .int .i64 x2, .int .i64 x3]))).run Try.prog w = .ok (.agg #[.int .i64 x1, .int .i64 x2, .int .i64 x3, .int .i64 (0), .int .i64 (0), .int .i64 (0), .string (⟨#[]⟩), .string (⟨#[]⟩), .string (⟨#[]⟩), .string (⟨#[]⟩), .int .i64 (0), .slice none 0 0, .slice none 0 0]) w := fun _ => by kernel_rfl
theorem bd61_0_1_2_4_iiiAssE {x1 : Int} {x2 : Int} {x3 : Int} {a5 : Option Addr} {n5 c5 : Nat} {a6 : Option Addr} {n6 c6 : Nat} : ∀ w, (Instr.build 61 (List.toArray (List.zip [0, 1, 2, 4] [.int .i64 x1, .int .i64 x2, .int .i64 x3, .agg #[.slice a5 n5 c5, .slice a6 n6 c6]]))).run Try.prog w = .ok (.agg #[.int .i64 x1, .int .i64 x2, .int .i64 x3, .int .i64 (0), .int .i64 (0), .int .i64 (0), .string (⟨#[]⟩), .string (⟨#[]⟩), .string (⟨#[]⟩), .string (⟨#[]⟩), .int .i64 (0), .slice a5 n5 c5, .slice a6 n6 c6]) w := fun _ => by kernel_rfl
end Go.Wk.Flaw10
namespace Go.Wk
open Go Go.RowKit Go.Proofs Flaw10 
theorem lives10_spec  : Spec Try.prog 31 #[] [] (β := Unit) (fun y => .bool (true)) (fun y => True) (fun y => []) := by
  refine Spec.enter (vs := []) Try.func31 rfl Try.ntmps31 rfl (Nat.le_of_ble_eq_true rfl) (fun w0 ok0 => ?_)
  generalize hM0 : blks _ = M0
  have hMn : ∀ {R : List Atom} (b : Nat), M0 b → blks R b := fun b hb => absurd (hM0 ▸ hb) (blks_none (by simp [Atom.dat, Atom.elem]) b)
  refine H_seq ?_
  -- R0 law.go:12
  refine H_region (l := [_]) rfl ?_
  refine HO_assign rfl rfl rfl ?_
  refine HO_nil ?_
  refine H_env (ρ' := []) trivial ?_
  refine H_seq ?_
  -- R1 law.go:13
  refine H_region (l := [_, _, _]) rfl ?_
  refine HO_build (xo := [(0, _), (1, _), (2, _)]) (vs := [_, _, _]) rfl rfl rfl rfl (bd61_0_1_2_iii) ?_
  refine HO_alloc (cs := [_, _, _, _, _, _, _, _, _, _, _, _, _]) rfl rfl Try.zeroValue61 rfl ?_
  intro g1
  refine HO_store (i := 0) (j := 0) (us := []) (old := [_, _, _, _, _, _, _, _, _, _, _, _, _]) (ts := []) (cs := [_, _, _, _, _, _, _, _, _, _, _, _, _]) (R := []) (new := [_, _, _, _, _, _, _, _, _, _, _, _, _]) rfl rfl rfl Try.sizeOf61 rfl (by simp [Value.oneCell']) rfl rfl rfl rfl rfl rfl ?_
  refine HO_nil ?_
  refine H_env (ρ' := [(1, _)]) ⟨rfl, trivial⟩ ?_
  refine H_seq ?_
  -- R2 law.go:14
  refine H_region (l := [_, _, _, _, _, _, _, _, _, _, _, _, _, _, _, _, _, _, _]) rfl ?_
  refine HO_loadA (i := 0) (us := []) (cs := [_, _, _, _, _, _, _, _, _, _, _, _, _]) (ts := []) rfl rfl rfl Try.isAgg61 Try.sizeOf61 rfl (.loc _ _ _) rfl rfl rfl rfl ?_
  refine HO_nilDat kInt ?_
  refine HO_nilDat kInt ?_
  refine HO_dup (i := 1) rfl rfl ?_
  refine HO_dup (i := 1) rfl rfl ?_
  refine HO_call (first := []) (capt := []) (is := [0, 0]) (R := [_, _, _]) rfl rfl rfl rfl rfl Try.call39 rfl (entgood_spec _ _ _ _ _ _ _ _ _ _ _ _ _ _ _ _ _ ?_ ?_) ?_
  · (first | omega | assumption | decide)
  · (first | omega | assumption | decide)
  intro y4 hy4
  clear y4 hy4
  refine HO_move rfl rfl rfl ?_
  refine HO_split (d := 5) rfl ?_ ?_
  · intro h5
    (try simp only [decide_eq_true_eq, decide_eq_false_iff_not, Bool.not_eq_true', Bool.not_eq_false', Bool.not_eq_true, Bool.not_eq_false, Bool.true_eq_false, Bool.false_eq_true, not_false_eq_true, not_true_eq_false] at h5)
    refine HO_loadA (i := 2) (us := []) (cs := [_, _, _, _, _, _, _, _, _, _, _, _, _]) (ts := []) rfl rfl rfl Try.isAgg61 Try.sizeOf61 rfl (.loc _ _ _) rfl rfl rfl rfl ?_
    refine HO_nilDat kInt ?_
    refine HO_nilDat kInt ?_
    refine HO_dup (i := 1) rfl rfl ?_
    refine HO_dup (i := 1) rfl rfl ?_
    refine HO_call (first := []) (capt := []) (is := [0, 0]) (R := [_, _, _, _, _]) rfl rfl rfl rfl rfl Try.call44 rfl (entbytes_spec _ _ _ _ _ _ _ _ _ _ _ _ _ _ _ _ _ ?_ ?_ ?_ ?_) ?_
    · (first | omega | assumption | decide)
    · (first | omega | assumption | decide)
    · (first | omega | assumption | decide)
    · (first | omega | assumption | decide)
    intro y7 hy7
    refine HO_buildSlice (kd := kByte) (xo := [_, _, _]) (vs := [_, _, _]) (cs := [_, _, _]) (xs := [2, 2, 2]) rfl rfl rfl rfl Try.underlying28 elt5 rfl rfl rfl (by decide) (by decide) (by simp [Value.cells]) rfl (fun _ _ _ => ⟨_, _, rfl, ⟨rfl, trivial⟩, ⟨_, _, rfl, ⟨rfl, trivial⟩, ⟨_, _, rfl, ⟨rfl, trivial⟩, rfl⟩⟩⟩) ?_
    intro g8
    refine HO_dup (i := 1) rfl rfl ?_
    refine HO_call (first := []) (capt := []) (is := [0, 1]) (R := [_, _, _, _, _, _]) rfl rfl rfl rfl rfl Try.call22 rfl (Spec.lend (pre1 := [_]) (pre2 := []) (rsame_spec _ _ _ _ _ _) rfl (fun _ _ ha => nomatch ha)) ?_
    intro y9 hy9
    clear y9 hy9
    refine HO_pick_t rfl rfl rfl rfl ?_
    refine HO_move rfl rfl rfl ?_
    refine HO_split (d := 11) rfl ?_ ?_
    · intro h11
      (try simp only [decide_eq_true_eq, decide_eq_false_iff_not, Bool.not_eq_true', Bool.not_eq_false', Bool.not_eq_true, Bool.not_eq_false, Bool.true_eq_false, Bool.false_eq_true, not_false_eq_true, not_true_eq_false] at h11)
      refine HO_build (xo := []) (vs := []) rfl rfl rfl rfl (bd45__) ?_
      refine HO_nilDat kInt ?_
      refine HO_nilDat kInt ?_
      refine HO_dup (i := 1) rfl rfl ?_
      refine HO_dup (i := 1) rfl rfl ?_
      refine HO_call (first := []) (capt := []) (is := [0, 0]) (R := [_, _, _, _, _, _, _, _, _]) rfl rfl rfl rfl rfl Try.call38 rfl (goodconf_spec _ _ _ _ _ _) ?_
      intro y13 hy13
      clear y13 hy13
      refine HO_not rfl rfl rfl ?_
      refine HO_pick_t rfl rfl rfl rfl ?_
      refine HO_move rfl rfl rfl ?_
      refine HO_split (d := 16) rfl ?_ ?_
      · intro h16
        (try simp only [decide_eq_true_eq, decide_eq_false_iff_not, Bool.not_eq_true', Bool.not_eq_false', Bool.not_eq_true, Bool.not_eq_false, Bool.true_eq_false, Bool.false_eq_true, not_false_eq_true, not_true_eq_false] at h16)
        refine HO_buildSlice (kd := kInt) (xo := [_, _]) (vs := [_, _]) (cs := [_, _]) (xs := [1, 3]) rfl rfl rfl rfl Try.underlying43 elt3 rfl rfl rfl (by decide) (by decide) (by simp [Value.cells]) rfl (by intro ok w _; exact ⟨_, _, rfl, ⟨rfl, by first | omega | (constructor <;> omega)⟩, ⟨_, _, rfl, ⟨rfl, by first | omega | (constructor <;> omega)⟩, rfl⟩⟩) ?_
        intro g17
        refine HO_build (xo := [(0, _)]) (vs := [_]) rfl rfl rfl rfl (bd45_0_s) ?_
        refine HO_nilDat kInt ?_
        refine HO_dup (i := 0) rfl rfl ?_
        refine HO_call (first := []) (capt := []) (is := [1, 0]) (R := [_, _, _, _, _, _, _, _, _, _]) rfl rfl rfl rfl rfl Try.call38 rfl (Spec.lend (pre1 := []) (pre2 := [_]) (goodconf_spec _ _ _ _ _ _) rfl (fun _ _ ha => nomatch ha)) ?_
        intro y19 hy19
        clear y19 hy19
        refine HO_pick_t rfl rfl rfl rfl ?_
        refine HO_assign rfl rfl rfl ?_
        refine HO_nil ?_
        refine H_env (ρ' := [(0, _)]) ⟨rfl, trivial⟩ ?_
        refine H_world (fun _ hA => hA.drop (is := [0, 1, 2, 3, 4, 5, 6, 7, 8, 9, 10]) (Y := [_, _, _, _, _, _, _, _, _, _, _]) (Z := []) rfl) ?_
        -- end1
        refine H_ret1 Try.results31 (.tmp rfl) (fun w hA => ⟨(), congrArg Ending.returned ?_, ?_, ?_⟩)
        · (exact congrArg Value.bool (by decide +kernel))
        · trivial
        · exact hA.only (is := []) (Z := []) rfl
      · intro h16
        (try simp only [decide_eq_true_eq, decide_eq_false_iff_not, Bool.not_eq_true', Bool.not_eq_false', Bool.not_eq_true, Bool.not_eq_false, Bool.true_eq_false, Bool.false_eq_true, not_false_eq_true, not_true_eq_false] at h16)
        (exact absurd h16 (by decide +kernel))
    · intro h11
      (try simp only [decide_eq_true_eq, decide_eq_false_iff_not, Bool.not_eq_true', Bool.not_eq_false', Bool.not_eq_true, Bool.not_eq_false, Bool.true_eq_false, Bool.false_eq_true, not_false_eq_true, not_true_eq_false] at h11)
      (exact absurd h11 (by decide +kernel))
  · intro h5
    (try simp only [decide_eq_true_eq, decide_eq_false_iff_not, Bool.not_eq_true', Bool.not_eq_false', Bool.not_eq_true, Bool.not_eq_false, Bool.true_eq_false, Bool.false_eq_true, not_false_eq_true, not_true_eq_false] at h5)
    (exact absurd h5 (by decide +kernel))
theorem EntryRises_spec (vo le : List Int) (a1 : Option Addr) (c1 : Nat) (a2 : Option Addr) (c2 : Nat) (n1 : vo.length ≤ BIG) (n2 : le.length ≤ BIG) : Spec Try.prog 7 #[.agg #[.slice a1 (vo.length) c1, .slice a2 (le.length) c2]] [.dat kInt.sl (vo) [.slice a1 (vo.length) c1], .dat kInt.sl (le) [.slice a2 (le.length) c2]] (β := Unit) (fun y => .bool (true)) (fun y => True) (fun y => []) := by
  (try simp only [BIG] at n1 n2)
  refine Spec.enter (vs := [_]) Try.func7 rfl Try.ntmps7 rfl (Nat.le_of_ble_eq_true rfl) (fun w0 ok0 => ?_)
  generalize hM0 : blks _ = M0
  have hMn : ∀ {R : List Atom} (b : Nat), M0 b → blks R b := fun b hb => absurd (hM0 ▸ hb) (blks_none (by simp [Atom.dat, Atom.elem]) b)
  refine H_len_le (i := 0) rfl ?_
  intro hlen0
  refine H_len_le (i := 1) rfl ?_
  intro hlen1
  refine H_seq ?_
  -- R0 law.go:109
  refine H_region (l := [_, _]) rfl ?_
  refine HO_box (cs := [_, _]) rfl rfl rfl rfl ?_
  intro g1
  refine HO_assign rfl rfl rfl ?_
  refine HO_nil ?_
  refine H_env (ρ' := [(1, _)]) ⟨rfl, trivial⟩ ?_
  refine H_seq ?_
  refine H_seq ?_
  -- R1 law.go:110
  refine H_region (l := [_, _, _, _, _, _, _, _]) rfl ?_
  refine HO_fieldAddr (r := 0) rfl rfl rfl Try.underlying45 rfl Try.sizeOf43 rfl ?_
  refine HO_load1 (i := 0) (j := 0) rfl rfl rfl Try.isAgg43 rfl (.loc _ _ _) rfl rfl ?_
  refine HO_bi rfl rfl rfl (bi_len_sl Try.underlying43) ?_
  refine HO_fieldAddr (r := 1) rfl rfl rfl Try.underlying45 rfl Try.sizeOf43 rfl ?_
  refine HO_load1 (i := 0) (j := 1) rfl rfl rfl Try.isAgg43 rfl (.loc _ _ _) rfl rfl ?_
  refine HO_bi rfl rfl rfl (bi_len_sl Try.underlying43) ?_
  refine HO_bin rfl rfl rfl rfl (bin_add ?_ ?_) ?_
  · omega
  · omega
  refine HO_bin rfl rfl rfl rfl bin_gtr ?_
  refine HO_nil ?_
  refine H_env (ρ' := [(16, _), (1, _)]) ⟨rfl, rfl, trivial⟩ ?_
  refine H_cond rfl ?_ ?_
  · intro h16
    (try simp only [decide_eq_true_eq, decide_eq_false_iff_not, Bool.not_eq_true', Bool.not_eq_false', Bool.not_eq_true, Bool.not_eq_false, Bool.true_eq_false, Bool.false_eq_true, not_false_eq_true, not_true_eq_false] at h16)
    refine H_seq ?_
    -- R2 law.go:111
    refine H_region (l := [_, _]) rfl ?_
    refine HO_call (first := []) (capt := []) (is := []) (R := [_, _, _]) rfl rfl rfl rfl rfl Try.call31 rfl lives10_spec ?_
    intro y17 hy17
    clear y17 hy17
    refine HO_assign rfl rfl rfl ?_
    refine HO_nil ?_
    refine H_env (ρ' := [(2, _)]) ⟨rfl, trivial⟩ ?_
    refine H_world (fun _ hA => hA.drop (is := [0, 1, 2]) (Y := [_, _, _]) (Z := []) rfl) ?_
    -- end1
    refine H_ret1 Try.results7 (.tmp rfl) (fun w hA => ⟨(), congrArg Ending.returned ?_, ?_, ?_⟩)
    · (exact congrArg Value.bool (by first | rfl | assumption | simp_all))
    · trivial
    · exact hA.only (is := []) (Z := []) rfl
  · intro h16
    (try simp only [decide_eq_true_eq, decide_eq_false_iff_not, Bool.not_eq_true', Bool.not_eq_false', Bool.not_eq_true, Bool.not_eq_false, Bool.true_eq_false, Bool.false_eq_true, not_false_eq_true, not_true_eq_false] at h16)
    refine H_skip ?_
    refine H_seq ?_
    refine H_seq ?_
    -- R3 law.go:113
    refine H_region (l := [_, _, _]) rfl ?_
    refine HO_loadA (i := 0) (us := []) (cs := [_, _]) (ts := []) rfl rfl rfl Try.isAgg45 Try.sizeOf45 rfl (.loc _ _ _) rfl rfl rfl rfl ?_
    refine HO_dup (i := 1) rfl rfl ?_
    refine HO_dup (i := 3) rfl rfl ?_
    refine HO_call (first := []) (capt := []) (is := [0, 0]) (R := [_, _, _]) rfl rfl rfl rfl rfl Try.call38 rfl (goodconf_spec _ _ _ _ _ _) ?_
    intro y19 hy19
    clear y19 hy19
    refine HO_not rfl rfl rfl ?_
    refine HO_nil ?_
    refine H_env (ρ' := [(20, _), (1, _)]) ⟨rfl, rfl, trivial⟩ ?_
    refine H_cond rfl ?_ ?_
    · intro h20
      (try simp only [decide_eq_true_eq, decide_eq_false_iff_not, Bool.not_eq_true', Bool.not_eq_false', Bool.not_eq_true, Bool.not_eq_false, Bool.true_eq_false, Bool.false_eq_true, not_false_eq_true, not_true_eq_false] at h20)
      refine H_seq ?_
      -- R4 law.go:114
      refine H_region (l := [_, _, _, _, _, _, _, _]) rfl ?_
      refine HO_loadA (i := 0) (us := []) (cs := [_, _]) (ts := []) rfl rfl rfl Try.isAgg45 Try.sizeOf45 rfl (.loc _ _ _) rfl rfl rfl rfl ?_
      refine HO_build (xo := [(0, _), (1, _), (2, _), (4, _)]) (vs := [_, _, _, _]) rfl rfl rfl rfl (bd61_0_1_2_4_iiiAssE) ?_
      refine HO_dup (i := 1) rfl rfl ?_
      refine HO_dup (i := 3) rfl rfl ?_
      refine HO_call (first := []) (capt := []) (is := [0, 0]) (R := [_, _, _]) rfl rfl rfl rfl rfl Try.call39 rfl (entgood_spec _ _ _ _ _ _ _ _ _ _ _ _ _ _ _ _ _ ?_ ?_) ?_
      · (first | omega | assumption | decide)
      · (first | omega | assumption | decide)
      intro y23 hy23
      clear y23 hy23
      refine HO_not rfl rfl rfl ?_
      refine HO_move rfl rfl rfl ?_
      refine HO_split (d := 25) rfl ?_ ?_
      · intro h25
        (try simp only [decide_eq_true_eq, decide_eq_false_iff_not, Bool.not_eq_true', Bool.not_eq_false', Bool.not_eq_true, Bool.not_eq_false, Bool.true_eq_false, Bool.false_eq_true, not_false_eq_true, not_true_eq_false] at h25)
        refine HO_call (first := []) (capt := []) (is := []) (R := [_, _, _]) rfl rfl rfl rfl rfl Try.call31 rfl lives10_spec ?_
        intro y26 hy26
        clear y26 hy26
        refine HO_pick_t rfl rfl rfl rfl ?_
        refine HO_assign rfl rfl rfl ?_
        refine HO_nil ?_
        refine H_env (ρ' := [(2, _)]) ⟨rfl, trivial⟩ ?_
        refine H_world (fun _ hA => hA.drop (is := [0, 1, 2]) (Y := [_, _, _]) (Z := []) rfl) ?_
        -- end2
        refine H_ret1 Try.results7 (.tmp rfl) (fun w hA => ⟨(), congrArg Ending.returned ?_, ?_, ?_⟩)
        · (exact congrArg Value.bool (by first | rfl | assumption | simp_all))
        · trivial
        · exact hA.only (is := []) (Z := []) rfl
      · intro h25
        (try simp only [decide_eq_true_eq, decide_eq_false_iff_not, Bool.not_eq_true', Bool.not_eq_false', Bool.not_eq_true, Bool.not_eq_false, Bool.true_eq_false, Bool.false_eq_true, not_false_eq_true, not_true_eq_false] at h25)
        (exact absurd (Ent.good3.symm.trans h25) (by rw [h20]; decide))
    · intro h20
      (try simp only [decide_eq_true_eq, decide_eq_false_iff_not, Bool.not_eq_true', Bool.not_eq_false', Bool.not_eq_true, Bool.not_eq_false, Bool.true_eq_false, Bool.false_eq_true, not_false_eq_true, not_true_eq_false] at h20)
      refine H_skip ?_
      refine H_seq ?_
      refine H_seq ?_
      -- R5 law.go:116
      obtain ⟨hv0, hrv, hrl, hbo⟩ := Ent.good_parts h20
      refine H_region (l := [_, _, _, _]) rfl ?_
      refine HO_fieldAddr (r := 0) rfl rfl rfl Try.underlying45 rfl Try.sizeOf43 rfl ?_
      refine HO_load1 (i := 0) (j := 0) rfl rfl rfl Try.isAgg43 rfl (.loc _ _ _) rfl rfl ?_
      refine HO_bi rfl rfl rfl (bi_len_sl Try.underlying43) ?_
      refine HO_move rfl rfl rfl ?_
      refine HO_nil ?_
      refine H_env (ρ' := [(31, _), (30, _), (29, _), (1, _)]) ⟨rfl, rfl, rfl, rfl, trivial⟩ ?_
      refine H_block ?_
      refine H_loop (σ := Nat) (fun s => s ≤ vo.length) (fun s => [(1, .pointer (some ⟨g1, 0, none⟩)), (29, .slice a1 (vo.length) c1), (30, .int .i64 ((vo.length : Int))), (31, .int .i64 ((s : Int)))]) (fun s => Asn w0 ok0 M0 [.loc g1 [.slice a1 (vo.length) c1, .slice a2 (le.length) c2] 45, .dat kInt.sl (vo) [.slice a1 (vo.length) c1], .dat kInt.sl (le) [.slice a2 (le.length) c2]]) (fun s => vo.length - s) 0 ?_ ?_ ?_ ?_
      · exact Nat.zero_le _
      · exact ⟨rfl, rfl, rfl, rfl, trivial⟩
      · intro w hA
        exact hA.only (is := [0, 1, 2]) (Z := []) rfl
      · intro i hI
        (try dsimp only at hI ⊢)
        refine H_seq ?_
        -- R6 law.go:116
        refine H_region (l := [_]) rfl ?_
        refine HO_bin rfl rfl rfl rfl bin_lss ?_
        refine HO_nil ?_
        refine H_seq ?_
        refine H_cond rfl ?_ ?_
        · intro h32
          (try simp only [decide_eq_true_eq, decide_eq_false_iff_not, Bool.not_eq_true', Bool.not_eq_false', Bool.not_eq_true, Bool.not_eq_false, Bool.true_eq_false, Bool.false_eq_true, not_false_eq_true, not_true_eq_false] at h32)
          refine H_skip ?_
          refine H_seq ?_
          refine H_block ?_
          refine H_seq ?_
          -- R7 law.go:116
          refine H_region (l := [_, _, _, _, _]) rfl ?_
          refine HO_move rfl rfl rfl ?_
          refine HO_indexAddr open_int (i := 1) rfl rfl rfl rfl rfl Try.underlying43 Try.sizeOf3 rfl ?_ ?_
          · omega
          intro b34 o34 z34 y34 hz34 hI34
          clear y34
          refine HO_load1 (i := 0) (j := 0) rfl rfl rfl Try.isAgg3 rfl (.elem _ _ _) rfl rfl ?_
          refine HO_assign rfl rfl rfl ?_
          refine HO_assign rfl rfl rfl ?_
          refine HO_nil ?_
          refine H_env (ρ' := [(4, _), (3, _), (1, _), (29, _), (30, _), (31, _)]) ⟨rfl, rfl, rfl, rfl, rfl, rfl, trivial⟩ ?_
          refine H_world (fun _ hA => hA.drop (is := [0]) (Y := [_]) (Z := [_, _, _]) rfl) ?_
          refine H_seq ?_
          refine H_seq ?_
          -- R8 law.go:117
          have hz9 := Ent.rises_at hrv hz34
          refine H_region (l := [_, _, _, _, _, _, _, _, _, _, _, _, _, _, _, _, _, _, _, _]) rfl ?_
          refine HO_move rfl rfl rfl ?_
          refine HO_bin rfl rfl rfl rfl bin_lss ?_
          refine HO_move rfl rfl rfl ?_
          refine HO_split (d := 38) rfl ?_ ?_
          · intro h38
            (try simp only [decide_eq_true_eq, decide_eq_false_iff_not, Bool.not_eq_true', Bool.not_eq_false', Bool.not_eq_true, Bool.not_eq_false, Bool.true_eq_false, Bool.false_eq_true, not_false_eq_true, not_true_eq_false] at h38)
            (exfalso; omega)
          · intro h38
            (try simp only [decide_eq_true_eq, decide_eq_false_iff_not, Bool.not_eq_true', Bool.not_eq_false', Bool.not_eq_true, Bool.not_eq_false, Bool.true_eq_false, Bool.false_eq_true, not_false_eq_true, not_true_eq_false] at h38)
            refine HO_move rfl rfl rfl ?_
            refine HO_bin rfl rfl rfl rfl bin_gtr ?_
            refine HO_pick_f rfl rfl rfl rfl ?_
            refine HO_move rfl rfl rfl ?_
            refine HO_split (d := 42) rfl ?_ ?_
            · intro h42
              (try simp only [decide_eq_true_eq, decide_eq_false_iff_not, Bool.not_eq_true', Bool.not_eq_false', Bool.not_eq_true, Bool.not_eq_false, Bool.true_eq_false, Bool.false_eq_true, not_false_eq_true, not_true_eq_false] at h42)
              (exfalso; omega)
            · intro h42
              (try simp only [decide_eq_true_eq, decide_eq_false_iff_not, Bool.not_eq_true', Bool.not_eq_false', Bool.not_eq_true, Bool.not_eq_false, Bool.true_eq_false, Bool.false_eq_true, not_false_eq_true, not_true_eq_false] at h42)
              refine HO_move rfl rfl rfl ?_
              refine HO_bin rfl rfl rfl rfl bin_gtr ?_
              refine HO_move rfl rfl rfl ?_
              refine HO_split (d := 45) rfl ?_ ?_
              · intro h45
                (try simp only [decide_eq_true_eq, decide_eq_false_iff_not, Bool.not_eq_true', Bool.not_eq_false', Bool.not_eq_true, Bool.not_eq_false, Bool.true_eq_false, Bool.false_eq_true, not_false_eq_true, not_true_eq_false] at h45)
                refine HO_fieldAddr (r := 0) rfl rfl rfl Try.underlying45 rfl Try.sizeOf43 rfl ?_
                refine HO_load1 (i := 0) (j := 0) rfl rfl rfl Try.isAgg43 rfl (.loc _ _ _) rfl rfl ?_
                refine HO_move rfl rfl rfl ?_
                refine HO_bin rfl rfl rfl rfl (bin_sub ?_ ?_) ?_
                · omega
                · omega
                refine HO_indexAddr open_int (i := 1) (j := i - 1) rfl rfl rfl rfl ?_ Try.underlying43 Try.sizeOf3 rfl ?_ ?_
                · omega
                · omega
                intro b50 o50 z50 y50 hz50 hI50
                clear y50
                refine HO_load1 (i := 0) (j := 0) rfl rfl rfl Try.isAgg3 rfl (.elem _ _ _) rfl rfl ?_
                refine HO_move rfl rfl rfl ?_
                refine HO_bin rfl rfl rfl rfl bin_geq ?_
                refine HO_pick_t rfl rfl rfl rfl ?_
                refine HO_pick_f rfl rfl rfl rfl ?_
                refine HO_nil ?_
                refine H_env (ρ' := [(55, _), (4, _), (1, _), (29, _), (30, _), (31, _)]) ⟨rfl, rfl, rfl, rfl, rfl, rfl, trivial⟩ ?_
                refine H_world (fun _ hA => hA.drop (is := [0]) (Y := [_]) (Z := [_, _, _]) rfl) ?_
                refine H_cond rfl ?_ ?_
                · intro h55
                  (try simp only [decide_eq_true_eq, decide_eq_false_iff_not, Bool.not_eq_true', Bool.not_eq_false', Bool.not_eq_true, Bool.not_eq_false, Bool.true_eq_false, Bool.false_eq_true, not_false_eq_true, not_true_eq_false] at h55)
                  (exfalso; have := Ent.rises_lt hrv hz34 (by omega) hz50; omega)
                · intro h55
                  (try simp only [decide_eq_true_eq, decide_eq_false_iff_not, Bool.not_eq_true', Bool.not_eq_false', Bool.not_eq_true, Bool.not_eq_false, Bool.true_eq_false, Bool.false_eq_true, not_false_eq_true, not_true_eq_false] at h55)
                  refine H_skip ?_
                  refine H_seq ?_
                  -- R10 law.go:120
                  refine H_region (l := [_, _, _, _]) rfl ?_
                  refine HO_fieldAddr (r := 1) rfl rfl rfl Try.underlying45 rfl Try.sizeOf43 rfl ?_
                  refine HO_load1 (i := 0) (j := 1) rfl rfl rfl Try.isAgg43 rfl (.loc _ _ _) rfl rfl ?_
                  refine HO_bi rfl rfl rfl (bi_len_sl Try.underlying43) ?_
                  refine HO_move rfl rfl rfl ?_
                  refine HO_nil ?_
                  refine H_env (ρ' := [(59, _), (58, _), (57, _), (4, _), (1, _), (29, _), (30, _), (31, _)]) ⟨rfl, rfl, rfl, rfl, rfl, rfl, rfl, rfl, trivial⟩ ?_
                  refine H_block ?_
                  refine H_loop (σ := Nat) (fun s => s ≤ le.length) (fun s => [(1, .pointer (some ⟨g1, 0, none⟩)), (4, .int .i64 (z34)), (29, .slice a1 (vo.length) c1), (30, .int .i64 ((vo.length : Int))), (31, .int .i64 ((i : Int))), (57, .slice a2 (le.length) c2), (58, .int .i64 ((le.length : Int))), (59, .int .i64 ((s : Int)))]) (fun s => Asn w0 ok0 M0 [.loc g1 [.slice a1 (vo.length) c1, .slice a2 (le.length) c2] 45, .dat kInt.sl (vo) [.slice a1 (vo.length) c1], .dat kInt.sl (le) [.slice a2 (le.length) c2]]) (fun s => le.length - s) 0 ?_ ?_ ?_ ?_
                  · exact Nat.zero_le _
                  · exact ⟨rfl, rfl, rfl, rfl, rfl, rfl, rfl, rfl, trivial⟩
                  · intro w hA
                    exact hA.only (is := [0, 1, 2]) (Z := []) rfl
                  · intro j hI
                    (try dsimp only at hI ⊢)
                    refine H_seq ?_
                    -- R11 law.go:120
                    refine H_region (l := [_]) rfl ?_
                    refine HO_bin rfl rfl rfl rfl bin_lss ?_
                    refine HO_nil ?_
                    refine H_seq ?_
                    refine H_cond rfl ?_ ?_
                    · intro h60
                      (try simp only [decide_eq_true_eq, decide_eq_false_iff_not, Bool.not_eq_true', Bool.not_eq_false', Bool.not_eq_true, Bool.not_eq_false, Bool.true_eq_false, Bool.false_eq_true, not_false_eq_true, not_true_eq_false] at h60)
                      refine H_skip ?_
                      refine H_seq ?_
                      refine H_block ?_
                      refine H_seq ?_
                      -- R12 law.go:120
                      refine H_region (l := [_, _, _]) rfl ?_
                      refine HO_indexAddr open_int (i := 2) rfl rfl rfl rfl rfl Try.underlying43 Try.sizeOf3 rfl ?_ ?_
                      · omega
                      intro b61 o61 z61 y61 hz61 hI61
                      clear y61
                      refine HO_load1 (i := 0) (j := 0) rfl rfl rfl Try.isAgg3 rfl (.elem _ _ _) rfl rfl ?_
                      refine HO_assign rfl rfl rfl ?_
                      refine HO_nil ?_
                      refine H_env (ρ' := [(6, _), (1, _), (4, _), (29, _), (30, _), (31, _), (57, _), (58, _), (59, _)]) ⟨rfl, rfl, rfl, rfl, rfl, rfl, rfl, rfl, rfl, trivial⟩ ?_
                      refine H_world (fun _ hA => hA.drop (is := [0]) (Y := [_]) (Z := [_, _, _]) rfl) ?_
                      refine H_seq ?_
                      -- R13 law.go:121
                      refine H_region (l := [_, _, _]) rfl ?_
                      refine HO_move rfl rfl rfl ?_
                      refine HO_move rfl rfl rfl ?_
                      refine HO_bin rfl rfl rfl rfl bin_eql ?_
                      refine HO_nil ?_
                      refine H_env (ρ' := [(65, _), (1, _), (4, _), (29, _), (30, _), (31, _), (57, _), (58, _), (59, _)]) ⟨rfl, rfl, rfl, rfl, rfl, rfl, rfl, rfl, rfl, trivial⟩ ?_
                      refine H_cond rfl ?_ ?_
                      · intro h65
                        (try simp only [decide_eq_true_eq, decide_eq_false_iff_not, Bool.not_eq_true', Bool.not_eq_false', Bool.not_eq_true, Bool.not_eq_false, Bool.true_eq_false, Bool.false_eq_true, not_false_eq_true, not_true_eq_false] at h65)
                        (exact absurd h65 (Ent.both_no hbo hz34 hz61))
                      · intro h65
                        (try simp only [decide_eq_true_eq, decide_eq_false_iff_not, Bool.not_eq_true', Bool.not_eq_false', Bool.not_eq_true, Bool.not_eq_false, Bool.true_eq_false, Bool.false_eq_true, not_false_eq_true, not_true_eq_false] at h65)
                        refine H_skip ?_
                        refine H_blk ?_
                        -- R15 law.go:120
                        refine H_region (l := [_, _]) rfl ?_
                        refine HO_bin rfl rfl rfl rfl (bin_add ?_ ?_) ?_
                        · omega
                        · omega
                        refine HO_move rfl rfl rfl ?_
                        refine HO_nil ?_
                        refine H_env (ρ' := [(59, _), (1, _), (4, _), (29, _), (30, _), (31, _), (57, _), (58, _)]) ⟨rfl, rfl, rfl, rfl, rfl, rfl, rfl, rfl, trivial⟩ ?_
                        refine H_inv (fun a w hf hA => ⟨j + 1, ?_, ?_, hf.sub ?_, ?_⟩)
                        · omega
                        · (try dsimp only); omega
                        · exact ⟨rfl, rfl, rfl, rfl, rfl, rfl, rfl, rfl, trivial⟩
                        · exact hA.only (is := [0, 1, 2]) (Z := []) rfl
                    · intro h60
                      (try simp only [decide_eq_true_eq, decide_eq_false_iff_not, Bool.not_eq_true', Bool.not_eq_false', Bool.not_eq_true, Bool.not_eq_false, Bool.true_eq_false, Bool.false_eq_true, not_false_eq_true, not_true_eq_false] at h60)
                      refine H_exit rfl ?_
                      refine H_blk ?_
                      -- R16 law.go:116
                      refine H_region (l := [_, _]) rfl ?_
                      refine HO_bin rfl rfl rfl rfl (bin_add ?_ ?_) ?_
                      · omega
                      · omega
                      refine HO_move rfl rfl rfl ?_
                      refine HO_nil ?_
                      refine H_env (ρ' := [(31, _), (1, _), (29, _), (30, _)]) ⟨rfl, rfl, rfl, rfl, trivial⟩ ?_
                      refine H_inv (fun a w hf hA => ⟨i + 1, ?_, ?_, hf.sub ?_, ?_⟩)
                      · omega
                      · (try dsimp only); omega
                      · exact ⟨rfl, rfl, rfl, rfl, trivial⟩
                      · exact hA.only (is := [0, 1, 2]) (Z := []) rfl
              · intro h45
                (try simp only [decide_eq_true_eq, decide_eq_false_iff_not, Bool.not_eq_true', Bool.not_eq_false', Bool.not_eq_true, Bool.not_eq_false, Bool.true_eq_false, Bool.false_eq_true, not_false_eq_true, not_true_eq_false] at h45)
                refine HO_no rfl rfl rfl ?_
                refine HO_no rfl rfl rfl ?_
                refine HO_no rfl rfl rfl ?_
                refine HO_no rfl rfl rfl ?_
                refine HO_no rfl rfl rfl ?_
                refine HO_no rfl rfl rfl ?_
                refine HO_no rfl rfl rfl ?_
                refine HO_no rfl rfl rfl ?_
                refine HO_pick_f rfl rfl rfl rfl ?_
                refine HO_pick_f rfl rfl rfl rfl ?_
                refine HO_nil ?_
                refine H_env (ρ' := [(55, _), (4, _), (1, _), (29, _), (30, _), (31, _)]) ⟨rfl, rfl, rfl, rfl, rfl, rfl, trivial⟩ ?_
                refine H_cond rfl (fun h => nomatch h) (fun _ => ?_)
                refine H_skip ?_
                refine H_seq ?_
                -- R10 law.go:120
                refine H_region (l := [_, _, _, _]) rfl ?_
                refine HO_fieldAddr (r := 1) rfl rfl rfl Try.underlying45 rfl Try.sizeOf43 rfl ?_
                refine HO_load1 (i := 0) (j := 1) rfl rfl rfl Try.isAgg43 rfl (.loc _ _ _) rfl rfl ?_
                refine HO_bi rfl rfl rfl (bi_len_sl Try.underlying43) ?_
                refine HO_move rfl rfl rfl ?_
                refine HO_nil ?_
                refine H_env (ρ' := [(59, _), (58, _), (57, _), (4, _), (1, _), (29, _), (30, _), (31, _)]) ⟨rfl, rfl, rfl, rfl, rfl, rfl, rfl, rfl, trivial⟩ ?_
                refine H_block ?_
                refine H_loop (σ := Nat) (fun s => s ≤ le.length) (fun s => [(1, .pointer (some ⟨g1, 0, none⟩)), (4, .int .i64 (z34)), (29, .slice a1 (vo.length) c1), (30, .int .i64 ((vo.length : Int))), (31, .int .i64 ((i : Int))), (57, .slice a2 (le.length) c2), (58, .int .i64 ((le.length : Int))), (59, .int .i64 ((s : Int)))]) (fun s => Asn w0 ok0 M0 [.loc g1 [.slice a1 (vo.length) c1, .slice a2 (le.length) c2] 45, .dat kInt.sl (vo) [.slice a1 (vo.length) c1], .dat kInt.sl (le) [.slice a2 (le.length) c2]]) (fun s => le.length - s) 0 ?_ ?_ ?_ ?_
                · exact Nat.zero_le _
                · exact ⟨rfl, rfl, rfl, rfl, rfl, rfl, rfl, rfl, trivial⟩
                · intro w hA
                  exact hA.only (is := [0, 1, 2]) (Z := []) rfl
                · intro j hI
                  (try dsimp only at hI ⊢)
                  refine H_seq ?_
                  -- R11 law.go:120
                  refine H_region (l := [_]) rfl ?_
                  refine HO_bin rfl rfl rfl rfl bin_lss ?_
                  refine HO_nil ?_
                  refine H_seq ?_
                  refine H_cond rfl ?_ ?_
                  · intro h60
                    (try simp only [decide_eq_true_eq, decide_eq_false_iff_not, Bool.not_eq_true', Bool.not_eq_false', Bool.not_eq_true, Bool.not_eq_false, Bool.true_eq_false, Bool.false_eq_true, not_false_eq_true, not_true_eq_false] at h60)
                    refine H_skip ?_
                    refine H_seq ?_
                    refine H_block ?_
                    refine H_seq ?_
                    -- R12 law.go:120
                    refine H_region (l := [_, _, _]) rfl ?_
                    refine HO_indexAddr open_int (i := 2) rfl rfl rfl rfl rfl Try.underlying43 Try.sizeOf3 rfl ?_ ?_
                    · omega
                    intro b61 o61 z61 y61 hz61 hI61
                    clear y61
                    refine HO_load1 (i := 0) (j := 0) rfl rfl rfl Try.isAgg3 rfl (.elem _ _ _) rfl rfl ?_
                    refine HO_assign rfl rfl rfl ?_
                    refine HO_nil ?_
                    refine H_env (ρ' := [(6, _), (1, _), (4, _), (29, _), (30, _), (31, _), (57, _), (58, _), (59, _)]) ⟨rfl, rfl, rfl, rfl, rfl, rfl, rfl, rfl, rfl, trivial⟩ ?_
                    refine H_world (fun _ hA => hA.drop (is := [0]) (Y := [_]) (Z := [_, _, _]) rfl) ?_
                    refine H_seq ?_
                    -- R13 law.go:121
                    refine H_region (l := [_, _, _]) rfl ?_
                    refine HO_move rfl rfl rfl ?_
                    refine HO_move rfl rfl rfl ?_
                    refine HO_bin rfl rfl rfl rfl bin_eql ?_
                    refine HO_nil ?_
                    refine H_env (ρ' := [(65, _), (1, _), (4, _), (29, _), (30, _), (31, _), (57, _), (58, _), (59, _)]) ⟨rfl, rfl, rfl, rfl, rfl, rfl, rfl, rfl, rfl, trivial⟩ ?_
                    refine H_cond rfl ?_ ?_
                    · intro h65
                      (try simp only [decide_eq_true_eq, decide_eq_false_iff_not, Bool.not_eq_true', Bool.not_eq_false', Bool.not_eq_true, Bool.not_eq_false, Bool.true_eq_false, Bool.false_eq_true, not_false_eq_true, not_true_eq_false] at h65)
                      (exact absurd h65 (Ent.both_no hbo hz34 hz61))
                    · intro h65
                      (try simp only [decide_eq_true_eq, decide_eq_false_iff_not, Bool.not_eq_true', Bool.not_eq_false', Bool.not_eq_true, Bool.not_eq_false, Bool.true_eq_false, Bool.false_eq_true, not_false_eq_true, not_true_eq_false] at h65)
                      refine H_skip ?_
                      refine H_blk ?_
                      -- R15 law.go:120
                      refine H_region (l := [_, _]) rfl ?_
                      refine HO_bin rfl rfl rfl rfl (bin_add ?_ ?_) ?_
                      · omega
                      · omega
                      refine HO_move rfl rfl rfl ?_
                      refine HO_nil ?_
                      refine H_env (ρ' := [(59, _), (1, _), (4, _), (29, _), (30, _), (31, _), (57, _), (58, _)]) ⟨rfl, rfl, rfl, rfl, rfl, rfl, rfl, rfl, trivial⟩ ?_
                      refine H_inv (fun a w hf hA => ⟨j + 1, ?_, ?_, hf.sub ?_, ?_⟩)
                      · omega
                      · (try dsimp only); omega
                      · exact ⟨rfl, rfl, rfl, rfl, rfl, rfl, rfl, rfl, trivial⟩
                      · exact hA.only (is := [0, 1, 2]) (Z := []) rfl
                  · intro h60
                    (try simp only [decide_eq_true_eq, decide_eq_false_iff_not, Bool.not_eq_true', Bool.not_eq_false', Bool.not_eq_true, Bool.not_eq_false, Bool.true_eq_false, Bool.false_eq_true, not_false_eq_true, not_true_eq_false] at h60)
                    refine H_exit rfl ?_
                    refine H_blk ?_
                    -- R16 law.go:116
                    refine H_region (l := [_, _]) rfl ?_
                    refine HO_bin rfl rfl rfl rfl (bin_add ?_ ?_) ?_
                    · omega
                    · omega
                    refine HO_move rfl rfl rfl ?_
                    refine HO_nil ?_
                    refine H_env (ρ' := [(31, _), (1, _), (29, _), (30, _)]) ⟨rfl, rfl, rfl, rfl, trivial⟩ ?_
                    refine H_inv (fun a w hf hA => ⟨i + 1, ?_, ?_, hf.sub ?_, ?_⟩)
                    · omega
                    · (try dsimp only); omega
                    · exact ⟨rfl, rfl, rfl, rfl, trivial⟩
                    · exact hA.only (is := [0, 1, 2]) (Z := []) rfl
        · intro h32
          (try simp only [decide_eq_true_eq, decide_eq_false_iff_not, Bool.not_eq_true', Bool.not_eq_false', Bool.not_eq_true, Bool.not_eq_false, Bool.true_eq_false, Bool.false_eq_true, not_false_eq_true, not_true_eq_false] at h32)
          refine H_exit rfl ?_
          refine H_seq ?_
          refine H_seq ?_
          -- R17 law.go:126
          refine H_region (l := [_, _, _, _]) rfl ?_
          refine HO_fieldAddr (r := 1) rfl rfl rfl Try.underlying45 rfl Try.sizeOf43 rfl ?_
          refine HO_load1 (i := 0) (j := 1) rfl rfl rfl Try.isAgg43 rfl (.loc _ _ _) rfl rfl ?_
          refine HO_bi rfl rfl rfl (bi_len_sl Try.underlying43) ?_
          refine HO_move rfl rfl rfl ?_
          refine HO_nil ?_
          refine H_env (ρ' := [(71, _), (70, _), (69, _), (1, _)]) ⟨rfl, rfl, rfl, rfl, trivial⟩ ?_
          refine H_block ?_
          refine H_loop (σ := Nat) (fun s => s ≤ le.length) (fun s => [(1, .pointer (some ⟨g1, 0, none⟩)), (69, .slice a2 (le.length) c2), (70, .int .i64 ((le.length : Int))), (71, .int .i64 ((s : Int)))]) (fun s => Asn w0 ok0 M0 [.loc g1 [.slice a1 (vo.length) c1, .slice a2 (le.length) c2] 45, .dat kInt.sl (vo) [.slice a1 (vo.length) c1], .dat kInt.sl (le) [.slice a2 (le.length) c2]]) (fun s => le.length - s) 0 ?_ ?_ ?_ ?_
          · exact Nat.zero_le _
          · exact ⟨rfl, rfl, rfl, rfl, trivial⟩
          · intro w hA
            exact hA.only (is := [0, 1, 2]) (Z := []) rfl
          · intro k hI
            (try dsimp only at hI ⊢)
            refine H_seq ?_
            -- R18 law.go:126
            refine H_region (l := [_]) rfl ?_
            refine HO_bin rfl rfl rfl rfl bin_lss ?_
            refine HO_nil ?_
            refine H_seq ?_
            refine H_cond rfl ?_ ?_
            · intro h72
              (try simp only [decide_eq_true_eq, decide_eq_false_iff_not, Bool.not_eq_true', Bool.not_eq_false', Bool.not_eq_true, Bool.not_eq_false, Bool.true_eq_false, Bool.false_eq_true, not_false_eq_true, not_true_eq_false] at h72)
              refine H_skip ?_
              refine H_seq ?_
              refine H_block ?_
              refine H_seq ?_
              -- R19 law.go:126
              refine H_region (l := [_, _, _, _, _]) rfl ?_
              refine HO_move rfl rfl rfl ?_
              refine HO_indexAddr open_int (i := 2) rfl rfl rfl rfl rfl Try.underlying43 Try.sizeOf3 rfl ?_ ?_
              · omega
              intro b74 o74 z74 y74 hz74 hI74
              clear y74
              refine HO_load1 (i := 0) (j := 0) rfl rfl rfl Try.isAgg3 rfl (.elem _ _ _) rfl rfl ?_
              refine HO_assign rfl rfl rfl ?_
              refine HO_assign rfl rfl rfl ?_
              refine HO_nil ?_
              refine H_env (ρ' := [(8, _), (7, _), (1, _), (69, _), (70, _), (71, _)]) ⟨rfl, rfl, rfl, rfl, rfl, rfl, trivial⟩ ?_
              refine H_world (fun _ hA => hA.drop (is := [0]) (Y := [_]) (Z := [_, _, _]) rfl) ?_
              refine H_seq ?_
              -- R20 law.go:127
              have hz9 := Ent.rises_at hrl hz74
              refine H_region (l := [_, _, _, _, _, _, _, _, _, _, _, _, _, _, _, _, _, _, _, _]) rfl ?_
              refine HO_move rfl rfl rfl ?_
              refine HO_bin rfl rfl rfl rfl bin_lss ?_
              refine HO_move rfl rfl rfl ?_
              refine HO_split (d := 78) rfl ?_ ?_
              · intro h78
                (try simp only [decide_eq_true_eq, decide_eq_false_iff_not, Bool.not_eq_true', Bool.not_eq_false', Bool.not_eq_true, Bool.not_eq_false, Bool.true_eq_false, Bool.false_eq_true, not_false_eq_true, not_true_eq_false] at h78)
                (exfalso; omega)
              · intro h78
                (try simp only [decide_eq_true_eq, decide_eq_false_iff_not, Bool.not_eq_true', Bool.not_eq_false', Bool.not_eq_true, Bool.not_eq_false, Bool.true_eq_false, Bool.false_eq_true, not_false_eq_true, not_true_eq_false] at h78)
                refine HO_move rfl rfl rfl ?_
                refine HO_bin rfl rfl rfl rfl bin_gtr ?_
                refine HO_pick_f rfl rfl rfl rfl ?_
                refine HO_move rfl rfl rfl ?_
                refine HO_split (d := 82) rfl ?_ ?_
                · intro h82
                  (try simp only [decide_eq_true_eq, decide_eq_false_iff_not, Bool.not_eq_true', Bool.not_eq_false', Bool.not_eq_true, Bool.not_eq_false, Bool.true_eq_false, Bool.false_eq_true, not_false_eq_true, not_true_eq_false] at h82)
                  (exfalso; omega)
                · intro h82
                  (try simp only [decide_eq_true_eq, decide_eq_false_iff_not, Bool.not_eq_true', Bool.not_eq_false', Bool.not_eq_true, Bool.not_eq_false, Bool.true_eq_false, Bool.false_eq_true, not_false_eq_true, not_true_eq_false] at h82)
                  refine HO_move rfl rfl rfl ?_
                  refine HO_bin rfl rfl rfl rfl bin_gtr ?_
                  refine HO_move rfl rfl rfl ?_
                  refine HO_split (d := 85) rfl ?_ ?_
                  · intro h85
                    (try simp only [decide_eq_true_eq, decide_eq_false_iff_not, Bool.not_eq_true', Bool.not_eq_false', Bool.not_eq_true, Bool.not_eq_false, Bool.true_eq_false, Bool.false_eq_true, not_false_eq_true, not_true_eq_false] at h85)
                    refine HO_fieldAddr (r := 1) rfl rfl rfl Try.underlying45 rfl Try.sizeOf43 rfl ?_
                    refine HO_load1 (i := 0) (j := 1) rfl rfl rfl Try.isAgg43 rfl (.loc _ _ _) rfl rfl ?_
                    refine HO_move rfl rfl rfl ?_
                    refine HO_bin rfl rfl rfl rfl (bin_sub ?_ ?_) ?_
                    · omega
                    · omega
                    refine HO_indexAddr open_int (i := 2) (j := k - 1) rfl rfl rfl rfl ?_ Try.underlying43 Try.sizeOf3 rfl ?_ ?_
                    · omega
                    · omega
                    intro b90 o90 z90 y90 hz90 hI90
                    clear y90
                    refine HO_load1 (i := 0) (j := 0) rfl rfl rfl Try.isAgg3 rfl (.elem _ _ _) rfl rfl ?_
                    refine HO_move rfl rfl rfl ?_
                    refine HO_bin rfl rfl rfl rfl bin_geq ?_
                    refine HO_pick_t rfl rfl rfl rfl ?_
                    refine HO_pick_f rfl rfl rfl rfl ?_
                    refine HO_nil ?_
                    refine H_env (ρ' := [(95, _), (1, _), (69, _), (70, _), (71, _)]) ⟨rfl, rfl, rfl, rfl, rfl, trivial⟩ ?_
                    refine H_world (fun _ hA => hA.drop (is := [0]) (Y := [_]) (Z := [_, _, _]) rfl) ?_
                    refine H_cond rfl ?_ ?_
                    · intro h95
                      (try simp only [decide_eq_true_eq, decide_eq_false_iff_not, Bool.not_eq_true', Bool.not_eq_false', Bool.not_eq_true, Bool.not_eq_false, Bool.true_eq_false, Bool.false_eq_true, not_false_eq_true, not_true_eq_false] at h95)
                      (exfalso; have := Ent.rises_lt hrl hz74 (by omega) hz90; omega)
                    · intro h95
                      (try simp only [decide_eq_true_eq, decide_eq_false_iff_not, Bool.not_eq_true', Bool.not_eq_false', Bool.not_eq_true, Bool.not_eq_false, Bool.true_eq_false, Bool.false_eq_true, not_false_eq_true, not_true_eq_false] at h95)
                      refine H_skip ?_
                      refine H_blk ?_
                      -- R22 law.go:126
                      refine H_region (l := [_, _]) rfl ?_
                      refine HO_bin rfl rfl rfl rfl (bin_add ?_ ?_) ?_
                      · omega
                      · omega
                      refine HO_move rfl rfl rfl ?_
                      refine HO_nil ?_
                      refine H_env (ρ' := [(71, _), (1, _), (69, _), (70, _)]) ⟨rfl, rfl, rfl, rfl, trivial⟩ ?_
                      refine H_inv (fun a w hf hA => ⟨k + 1, ?_, ?_, hf.sub ?_, ?_⟩)
                      · omega
                      · (try dsimp only); omega
                      · exact ⟨rfl, rfl, rfl, rfl, trivial⟩
                      · exact hA.only (is := [0, 1, 2]) (Z := []) rfl
                  · intro h85
                    (try simp only [decide_eq_true_eq, decide_eq_false_iff_not, Bool.not_eq_true', Bool.not_eq_false', Bool.not_eq_true, Bool.not_eq_false, Bool.true_eq_false, Bool.false_eq_true, not_false_eq_true, not_true_eq_false] at h85)
                    refine HO_no rfl rfl rfl ?_
                    refine HO_no rfl rfl rfl ?_
                    refine HO_no rfl rfl rfl ?_
                    refine HO_no rfl rfl rfl ?_
                    refine HO_no rfl rfl rfl ?_
                    refine HO_no rfl rfl rfl ?_
                    refine HO_no rfl rfl rfl ?_
                    refine HO_no rfl rfl rfl ?_
                    refine HO_pick_f rfl rfl rfl rfl ?_
                    refine HO_pick_f rfl rfl rfl rfl ?_
                    refine HO_nil ?_
                    refine H_env (ρ' := [(95, _), (1, _), (69, _), (70, _), (71, _)]) ⟨rfl, rfl, rfl, rfl, rfl, trivial⟩ ?_
                    refine H_cond rfl (fun h => nomatch h) (fun _ => ?_)
                    refine H_skip ?_
                    refine H_blk ?_
                    -- R22 law.go:126
                    refine H_region (l := [_, _]) rfl ?_
                    refine HO_bin rfl rfl rfl rfl (bin_add ?_ ?_) ?_
                    · omega
                    · omega
                    refine HO_move rfl rfl rfl ?_
                    refine HO_nil ?_
                    refine H_env (ρ' := [(71, _), (1, _), (69, _), (70, _)]) ⟨rfl, rfl, rfl, rfl, trivial⟩ ?_
                    refine H_inv (fun a w hf hA => ⟨k + 1, ?_, ?_, hf.sub ?_, ?_⟩)
                    · omega
                    · (try dsimp only); omega
                    · exact ⟨rfl, rfl, rfl, rfl, trivial⟩
                    · exact hA.only (is := [0, 1, 2]) (Z := []) rfl
            · intro h72
              (try simp only [decide_eq_true_eq, decide_eq_false_iff_not, Bool.not_eq_true', Bool.not_eq_false', Bool.not_eq_true, Bool.not_eq_false, Bool.true_eq_false, Bool.false_eq_true, not_false_eq_true, not_true_eq_false] at h72)
              refine H_exit rfl ?_
              refine H_seq ?_
              -- R23 law.go:131
              refine H_region (l := [_, _, _, _, _, _, _, _, _, _, _, _, _, _, _, _, _, _]) rfl ?_
              refine HO_fieldAddr (r := 0) rfl rfl rfl Try.underlying45 rfl Try.sizeOf43 rfl ?_
              refine HO_load1 (i := 0) (j := 0) rfl rfl rfl Try.isAgg43 rfl (.loc _ _ _) rfl rfl ?_
              refine HO_bi rfl rfl rfl (bi_len_sl Try.underlying43) ?_
              refine HO_bin rfl rfl rfl rfl bin_gtr ?_
              refine HO_move rfl rfl rfl ?_
              refine HO_split (d := 101) rfl ?_ ?_
              · intro h101
                (try simp only [decide_eq_true_eq, decide_eq_false_iff_not, Bool.not_eq_true', Bool.not_eq_false', Bool.not_eq_true, Bool.not_eq_false, Bool.true_eq_false, Bool.false_eq_true, not_false_eq_true, not_true_eq_false] at h101)
                refine HO_loadA (i := 0) (us := []) (cs := [_, _]) (ts := []) rfl rfl rfl Try.isAgg45 Try.sizeOf45 rfl (.loc _ _ _) rfl rfl rfl rfl ?_
                refine HO_build (xo := [(0, _), (1, _), (2, _), (4, _)]) (vs := [_, _, _, _]) rfl rfl rfl rfl (bd61_0_1_2_4_iiiAssE) ?_
                refine HO_dup (i := 1) rfl rfl ?_
                refine HO_dup (i := 3) rfl rfl ?_
                refine HO_call (first := []) (capt := []) (is := [0, 0]) (R := [_, _, _]) rfl rfl rfl rfl rfl Try.call39 rfl (entgood_spec _ _ _ _ _ _ _ _ _ _ _ _ _ _ _ _ _ ?_ ?_) ?_
                · (first | omega | assumption | decide)
                · (first | omega | assumption | decide)
                intro y104 hy104
                clear y104 hy104
                refine HO_pick_t rfl rfl rfl rfl ?_
                refine HO_move rfl rfl rfl ?_
                refine HO_split (d := 106) rfl ?_ ?_
                · intro h106
                  (try simp only [decide_eq_true_eq, decide_eq_false_iff_not, Bool.not_eq_true', Bool.not_eq_false', Bool.not_eq_true, Bool.not_eq_false, Bool.true_eq_false, Bool.false_eq_true, not_false_eq_true, not_true_eq_false] at h106)
                  refine HO_loadA (i := 0) (us := []) (cs := [_, _]) (ts := []) rfl rfl rfl Try.isAgg45 Try.sizeOf45 rfl (.loc _ _ _) rfl rfl rfl rfl ?_
                  refine HO_loadA (i := 0) (us := []) (cs := [_, _]) (ts := []) rfl rfl rfl Try.isAgg45 Try.sizeOf45 rfl (.loc _ _ _) rfl rfl rfl rfl ?_
                  refine HO_dup (i := 1) rfl rfl ?_
                  refine HO_dup (i := 3) rfl rfl ?_
                  refine HO_dup (i := 3) rfl rfl ?_
                  refine HO_dup (i := 5) rfl rfl ?_
                  refine HO_call (first := []) (capt := []) (is := [0, 0, 0, 0]) (R := [_, _, _]) rfl rfl rfl rfl rfl Try.call40 rfl (sameconf_spec _ _ _ _ _ _ _ _ _ _ _ _) ?_
                  intro y109 hy109
                  clear y109 hy109
                  refine HO_pick_t rfl rfl rfl rfl ?_
                  refine HO_move rfl rfl rfl ?_
                  refine HO_split (d := 111) rfl ?_ ?_
                  · intro h111
                    (try simp only [decide_eq_true_eq, decide_eq_false_iff_not, Bool.not_eq_true', Bool.not_eq_false', Bool.not_eq_true, Bool.not_eq_false, Bool.true_eq_false, Bool.false_eq_true, not_false_eq_true, not_true_eq_false] at h111)
                    refine HO_call (first := []) (capt := []) (is := []) (R := [_, _, _]) rfl rfl rfl rfl rfl Try.call31 rfl lives10_spec ?_
                    intro y112 hy112
                    clear y112 hy112
                    refine HO_pick_t rfl rfl rfl rfl ?_
                    refine HO_assign rfl rfl rfl ?_
                    refine HO_nil ?_
                    refine H_env (ρ' := [(2, _)]) ⟨rfl, trivial⟩ ?_
                    refine H_world (fun _ hA => hA.drop (is := [0, 1, 2]) (Y := [_, _, _]) (Z := []) rfl) ?_
                    -- end3
                    refine H_ret1 Try.results7 (.tmp rfl) (fun w hA => ⟨(), congrArg Ending.returned ?_, ?_, ?_⟩)
                    · (exact congrArg Value.bool (by first | rfl | assumption | simp_all))
                    · trivial
                    · exact hA.only (is := []) (Z := []) rfl
                  · intro h111
                    (try simp only [decide_eq_true_eq, decide_eq_false_iff_not, Bool.not_eq_true', Bool.not_eq_false', Bool.not_eq_true, Bool.not_eq_false, Bool.true_eq_false, Bool.false_eq_true, not_false_eq_true, not_true_eq_false] at h111)
                    all_goals (exact absurd rfl h111)
                · intro h106
                  (try simp only [decide_eq_true_eq, decide_eq_false_iff_not, Bool.not_eq_true', Bool.not_eq_false', Bool.not_eq_true, Bool.not_eq_false, Bool.true_eq_false, Bool.false_eq_true, not_false_eq_true, not_true_eq_false] at h106)
                  (exact absurd (Ent.good3.symm.trans h106) (by rw [h20]; decide))
              · intro h101
                (try simp only [decide_eq_true_eq, decide_eq_false_iff_not, Bool.not_eq_true', Bool.not_eq_false', Bool.not_eq_true, Bool.not_eq_false, Bool.true_eq_false, Bool.false_eq_true, not_false_eq_true, not_true_eq_false] at h101)
                (exfalso; omega)
end Go.Wk
