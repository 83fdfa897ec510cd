/- Contracts of the program's functions, each proved by walking its code. -/
import Derived.Test.YtondhngfjngngaaKeent2
import Derived.Test.YtondhngfjngngaaEnt
set_option maxRecDepth 100000
set_option linter.unusedVariables false
set_option linter.unusedSimpArgs false
namespace Go.Wk.Flaw10
open Go Go.RowKit Go.Proofs Go.Wk
theorem elt3 : Elt Try.prog 3 (.int .i64 (0)) 1 8 := Elt.of (by kernel_rfl) (by rfl) (by decide) (by decide)
theorem elt5 : Elt Try.prog 5 (.int .u8 (0)) 1 1 := Elt.of (by kernel_rfl) (by rfl) (by decide) (by decide)
theorem bd45__  : ∀ w, (Instr.build 45 (List.toArray (List.zip [] []))).run Try.prog w = .ok (.agg #[.slice none 0 0, .slice none 0 0]) w := fun _ => by kernel_rfl
theorem bd45_0_s {a1 : Option Addr} {n1 c1 : Nat} : ∀ w, (Instr.build 45 (List.toArray (List.zip [0] [.slice a1 n1 c1]))).run Try.prog w = .ok (.agg #[.slice a1 n1 c1, .slice none 0 0]) w := fun _ => by kernel_rfl
theorem bd61_0_1_2_iii {x1 : Int} {x2 : Int} {x3 : Int} : ∀ w, (Instr.build 61 (List.toArray (List.zip [0, 1, 2] [.int .i64 x1, .int .i64 x2, .int .i64 x3]))).run Try.prog w = .ok (.agg #[.int .i64 x1, .int .i64 x2, .int .i64 x3, .int .i64 (0), .int .i64 (0), .int .i64 (0), .string (⟨#[]⟩), .string (⟨#[]⟩), .string (⟨#[]⟩), .string (⟨#[]⟩), .int .i64 (0), .slice none 0 0, .slice none 0 0]) w := fun _ => by kernel_rfl
end Go.Wk.Flaw10
namespace Go.Wk
open Go Go.RowKit Go.Proofs Flaw10 
theorem weight_spec (ix te ki : Int) (ck cs sq : Int) (ke ol cv ti : ByteArray) (li : Int) (vo le : List Int) (a1 : Option Addr) (c1 : Nat) (a2 : Option Addr) (c2 : Nat) (z0 : ke.size ≤ BIG) (z1 : ol.size ≤ BIG) (z2 : cv.size ≤ BIG) (z3 : ti.size ≤ BIG) (n1 : vo.length ≤ BIG) (n2 : le.length ≤ BIG) : Spec Try.prog 41 #[.agg #[.int .i64 (ix), .int .i64 (te), .int .i64 (ki), .int .i64 (ck), .int .i64 (cs), .int .i64 (sq), .string (ke), .string (ol), .string (cv), .string (ti), .int .i64 (li), .slice a1 (vo.length) c1, .slice a2 (le.length) c2]] [.dat kInt.sl (vo) [.slice a1 (vo.length) c1], .dat kInt.sl (le) [.slice a2 (le.length) c2]] (β := Unit) (fun y => .int .i64 (Ent.weight ⟨ix, te, ki, ⟨ck, cs, sq, ke, ol, cv, ti, li⟩, ⟨vo, le⟩⟩)) (fun y => True) (fun y => []) := by
  (try simp only [BIG] at z0 z1 z2 z3 n1 n2)
  refine Spec.enter (vs := [_]) Try.func41 rfl Try.ntmps41 rfl (Nat.le_of_ble_eq_true rfl) (fun w0 ok0 => ?_)
  generalize hM0 : blks _ = M0
  have hMn : ∀ {R : List Atom} (b : Nat), M0 b → blks R b := fun b hb => absurd (hM0 ▸ hb) (blks_none (by simp [Atom.dat, Atom.elem]) b)
  refine H_len_le (i := 0) rfl ?_
  intro hlen0
  refine H_len_le (i := 1) rfl ?_
  intro hlen1
  refine H_seq ?_
  -- R0 law.go:18
  refine H_region (l := [_, _]) rfl ?_
  refine HO_box (cs := [_, _, _, _, _, _, _, _, _, _, _, _, _]) rfl rfl rfl rfl ?_
  intro g1
  refine HO_assign rfl rfl rfl ?_
  refine HO_nil ?_
  refine H_env (ρ' := [(1, _)]) ⟨rfl, trivial⟩ ?_
  refine H_seq ?_
  -- R1 law.go:19
  refine H_region (l := [_, _, _, _]) rfl ?_
  refine HO_fieldAddr (r := 3) rfl rfl rfl Try.underlying61 rfl Try.sizeOf23 rfl ?_
  refine HO_loadA (i := 0) (us := [_, _, _]) (cs := [_, _, _, _, _, _, _, _]) (ts := [_, _]) rfl rfl rfl Try.isAgg23 Try.sizeOf23 rfl (.loc _ _ _) rfl rfl rfl rfl ?_
  refine HO_alloc (cs := [_, _, _, _, _, _, _, _]) rfl rfl Try.zeroValue23 rfl ?_
  intro g3
  refine HO_store (i := 0) (j := 0) (us := []) (old := [_, _, _, _, _, _, _, _]) (ts := []) (cs := [_, _, _, _, _, _, _, _]) (R := [_, _, _]) (new := [_, _, _, _, _, _, _, _]) rfl rfl rfl Try.sizeOf23 rfl (by simp [Value.oneCell']) rfl rfl rfl rfl rfl rfl ?_
  refine HO_nil ?_
  refine H_env (ρ' := [(3, _), (1, _)]) ⟨rfl, rfl, trivial⟩ ?_
  refine H_seq ?_
  -- R2 law.go:20
  refine H_region (l := [_, _, _, _, _, _, _, _, _, _, _, _, _, _, _, _, _, _, _, _, _, _, _, _, _, _, _, _]) rfl ?_
  refine HO_fieldAddr (r := 3) rfl rfl rfl Try.underlying23 rfl Try.sizeOf9 rfl ?_
  refine HO_load1 (i := 0) (j := 3) rfl rfl rfl Try.isAgg9 rfl (.loc _ _ _) rfl rfl ?_
  refine HO_bi rfl rfl rfl (bi_len_str Try.underlying9) ?_
  refine HO_fieldAddr (r := 4) rfl rfl rfl Try.underlying23 rfl Try.sizeOf9 rfl ?_
  refine HO_load1 (i := 0) (j := 4) rfl rfl rfl Try.isAgg9 rfl (.loc _ _ _) rfl rfl ?_
  refine HO_bi rfl rfl rfl (bi_len_str Try.underlying9) ?_
  refine HO_bin rfl rfl rfl rfl (bin_add ?_ ?_) ?_
  · omega
  · omega
  refine HO_fieldAddr (r := 5) rfl rfl rfl Try.underlying23 rfl Try.sizeOf9 rfl ?_
  refine HO_load1 (i := 0) (j := 5) rfl rfl rfl Try.isAgg9 rfl (.loc _ _ _) rfl rfl ?_
  refine HO_bi rfl rfl rfl (bi_len_str Try.underlying9) ?_
  refine HO_bin rfl rfl rfl rfl (bin_add ?_ ?_) ?_
  · omega
  · omega
  refine HO_fieldAddr (r := 6) rfl rfl rfl Try.underlying23 rfl Try.sizeOf9 rfl ?_
  refine HO_load1 (i := 0) (j := 6) rfl rfl rfl Try.isAgg9 rfl (.loc _ _ _) rfl rfl ?_
  refine HO_bi rfl rfl rfl (bi_len_str Try.underlying9) ?_
  refine HO_bin rfl rfl rfl rfl (bin_add ?_ ?_) ?_
  · omega
  · omega
  refine HO_bin rfl rfl rfl rfl (bin_quo ?_ ?_ ?_) ?_
  · omega
  · omega
  · omega
  refine HO_bin rfl rfl rfl rfl (bin_add ?_ ?_) ?_
  · omega
  · omega
  refine HO_fieldAddr (r := 11) rfl rfl rfl Try.underlying61 rfl Try.sizeOf45 rfl ?_
  refine HO_fieldAddr (r := 11) rfl rfl rfl Try.underlying45 rfl Try.sizeOf43 rfl ?_
  refine HO_load1 (i := 1) (j := 11) rfl rfl rfl Try.isAgg43 rfl (.loc _ _ _) rfl rfl ?_
  refine HO_bi rfl rfl rfl (bi_len_sl Try.underlying43) ?_
  refine HO_bin rfl rfl rfl rfl (bin_add ?_ ?_) ?_
  · omega
  · omega
  refine HO_fieldAddr (r := 11) rfl rfl rfl Try.underlying61 rfl Try.sizeOf45 rfl ?_
  refine HO_fieldAddr (r := 12) rfl rfl rfl Try.underlying45 rfl Try.sizeOf43 rfl ?_
  refine HO_load1 (i := 1) (j := 12) rfl rfl rfl Try.isAgg43 rfl (.loc _ _ _) rfl rfl ?_
  refine HO_bi rfl rfl rfl (bi_len_sl Try.underlying43) ?_
  refine HO_bin rfl rfl rfl rfl (bin_add ?_ ?_) ?_
  · omega
  · omega
  refine HO_assign rfl rfl rfl ?_
  refine HO_nil ?_
  refine H_env (ρ' := [(2, _)]) ⟨rfl, trivial⟩ ?_
  refine H_world (fun _ hA => hA.drop (is := [0, 1, 2, 3]) (Y := [_, _, _, _]) (Z := []) rfl) ?_
  -- end1
  refine H_ret1 Try.results41 (.tmp rfl) (fun w hA => ⟨(), congrArg Ending.returned ?_, ?_, ?_⟩)
  · rfl
  · trivial
  · exact hA.only (is := []) (Z := []) rfl
theorem lives10_spec  : Spec Try.prog 31 #[] [] (β := Unit) (fun y => .bool (true)) (fun y => True) (fun y => []) := by
  refine Spec.enter (vs := []) Try.func31 rfl Try.ntmps31 rfl (Nat.le_of_ble_eq_true rfl) (fun w0 ok0 => ?_)
  generalize hM0 : blks _ = M0
  have hMn : ∀ {R : List Atom} (b : Nat), M0 b → blks R b := fun b hb => absurd (hM0 ▸ hb) (blks_none (by simp [Atom.dat, Atom.elem]) b)
  refine H_seq ?_
  -- R0 law.go:12
  refine H_region (l := [_]) rfl ?_
  refine HO_assign rfl rfl rfl ?_
  refine HO_nil ?_
  refine H_env (ρ' := []) trivial ?_
  refine H_seq ?_
  -- R1 law.go:13
  refine H_region (l := [_, _, _]) rfl ?_
  refine HO_build (xo := [(0, _), (1, _), (2, _)]) (vs := [_, _, _]) rfl rfl rfl rfl (bd61_0_1_2_iii) ?_
  refine HO_alloc (cs := [_, _, _, _, _, _, _, _, _, _, _, _, _]) rfl rfl Try.zeroValue61 rfl ?_
  intro g1
  refine HO_store (i := 0) (j := 0) (us := []) (old := [_, _, _, _, _, _, _, _, _, _, _, _, _]) (ts := []) (cs := [_, _, _, _, _, _, _, _, _, _, _, _, _]) (R := []) (new := [_, _, _, _, _, _, _, _, _, _, _, _, _]) rfl rfl rfl Try.sizeOf61 rfl (by simp [Value.oneCell']) rfl rfl rfl rfl rfl rfl ?_
  refine HO_nil ?_
  refine H_env (ρ' := [(1, _)]) ⟨rfl, trivial⟩ ?_
  refine H_seq ?_
  -- R2 law.go:14
  refine H_region (l := [_, _, _, _, _, _, _, _, _, _, _, _, _, _, _, _, _, _, _]) rfl ?_
  refine HO_loadA (i := 0) (us := []) (cs := [_, _, _, _, _, _, _, _, _, _, _, _, _]) (ts := []) rfl rfl rfl Try.isAgg61 Try.sizeOf61 rfl (.loc _ _ _) rfl rfl rfl rfl ?_
  refine HO_nilDat kInt ?_
  refine HO_nilDat kInt ?_
  refine HO_dup (i := 1) rfl rfl ?_
  refine HO_dup (i := 1) rfl rfl ?_
  refine HO_call (first := []) (capt := []) (is := [0, 0]) (R := [_, _, _]) rfl rfl rfl rfl rfl Try.call39 rfl (entgood_spec _ _ _ _ _ _ _ _ _ _ _ _ _ _ _ _ _ ?_ ?_) ?_
  · (first | omega | assumption | decide)
  · (first | omega | assumption | decide)
  intro y4 hy4
  clear y4 hy4
  refine HO_move rfl rfl rfl ?_
  refine HO_split (d := 5) rfl ?_ ?_
  · intro h5
    (try simp only [decide_eq_true_eq, decide_eq_false_iff_not, Bool.not_eq_true', Bool.not_eq_false', Bool.not_eq_true, Bool.not_eq_false, Bool.true_eq_false, Bool.false_eq_true, not_false_eq_true, not_true_eq_false] at h5)
    refine HO_loadA (i := 2) (us := []) (cs := [_, _, _, _, _, _, _, _, _, _, _, _, _]) (ts := []) rfl rfl rfl Try.isAgg61 Try.sizeOf61 rfl (.loc _ _ _) rfl rfl rfl rfl ?_
    refine HO_nilDat kInt ?_
    refine HO_nilDat kInt ?_
    refine HO_dup (i := 1) rfl rfl ?_
    refine HO_dup (i := 1) rfl rfl ?_
    refine HO_call (first := []) (capt := []) (is := [0, 0]) (R := [_, _, _, _, _]) rfl rfl rfl rfl rfl Try.call44 rfl (entbytes_spec _ _ _ _ _ _ _ _ _ _ _ _ _ _ _ _ _ ?_ ?_ ?_ ?_) ?_
    · (first | omega | assumption | decide)
    · (first | omega | assumption | decide)
    · (first | omega | assumption | decide)
    · (first | omega | assumption | decide)
    intro y7 hy7
    refine HO_buildSlice (kd := kByte) (xo := [_, _, _]) (vs := [_, _, _]) (cs := [_, _, _]) (xs := [2, 2, 2]) rfl rfl rfl rfl Try.underlying28 elt5 rfl rfl rfl (by decide) (by decide) (by simp [Value.cells]) rfl (fun _ _ _ => ⟨_, _, rfl, ⟨rfl, trivial⟩, ⟨_, _, rfl, ⟨rfl, trivial⟩, ⟨_, _, rfl, ⟨rfl, trivial⟩, rfl⟩⟩⟩) ?_
    intro g8
    refine HO_dup (i := 1) rfl rfl ?_
    refine HO_call (first := []) (capt := []) (is := [0, 1]) (R := [_, _, _, _, _, _]) rfl rfl rfl rfl rfl Try.call22 rfl (Spec.lend (pre1 := [_]) (pre2 := []) (rsame_spec _ _ _ _ _ _) rfl (fun _ _ ha => nomatch ha)) ?_
    intro y9 hy9
    clear y9 hy9
    refine HO_pick_t rfl rfl rfl rfl ?_
    refine HO_move rfl rfl rfl ?_
    refine HO_split (d := 11) rfl ?_ ?_
    · intro h11
      (try simp only [decide_eq_true_eq, decide_eq_false_iff_not, Bool.not_eq_true', Bool.not_eq_false', Bool.not_eq_true, Bool.not_eq_false, Bool.true_eq_false, Bool.false_eq_true, not_false_eq_true, not_true_eq_false] at h11)
      refine HO_build (xo := []) (vs := []) rfl rfl rfl rfl (bd45__) ?_
      refine HO_nilDat kInt ?_
      refine HO_nilDat kInt ?_
      refine HO_dup (i := 1) rfl rfl ?_
      refine HO_dup (i := 1) rfl rfl ?_
      refine HO_call (first := []) (capt := []) (is := [0, 0]) (R := [_, _, _, _, _, _, _, _, _]) rfl rfl rfl rfl rfl Try.call38 rfl (goodconf_spec _ _ _ _ _ _) ?_
      intro y13 hy13
      clear y13 hy13
      refine HO_not rfl rfl rfl ?_
      refine HO_pick_t rfl rfl rfl rfl ?_
      refine HO_move rfl rfl rfl ?_
      refine HO_split (d := 16) rfl ?_ ?_
      · intro h16
        (try simp only [decide_eq_true_eq, decide_eq_false_iff_not, Bool.not_eq_true', Bool.not_eq_false', Bool.not_eq_true, Bool.not_eq_false, Bool.true_eq_false, Bool.false_eq_true, not_false_eq_true, not_true_eq_false] at h16)
        refine HO_buildSlice (kd := kInt) (xo := [_, _]) (vs := [_, _]) (cs := [_, _]) (xs := [1, 3]) rfl rfl rfl rfl Try.underlying43 elt3 rfl rfl rfl (by decide) (by decide) (by simp [Value.cells]) rfl (by intro ok w _; exact ⟨_, _, rfl, ⟨rfl, by first | omega | (constructor <;> omega)⟩, ⟨_, _, rfl, ⟨rfl, by first | omega | (constructor <;> omega)⟩, rfl⟩⟩) ?_
        intro g17
        refine HO_build (xo := [(0, _)]) (vs := [_]) rfl rfl rfl rfl (bd45_0_s) ?_
        refine HO_nilDat kInt ?_
        refine HO_dup (i := 0) rfl rfl ?_
        refine HO_call (first := []) (capt := []) (is := [1, 0]) (R := [_, _, _, _, _, _, _, _, _, _]) rfl rfl rfl rfl rfl Try.call38 rfl (Spec.lend (pre1 := []) (pre2 := [_]) (goodconf_spec _ _ _ _ _ _) rfl (fun _ _ ha => nomatch ha)) ?_
        intro y19 hy19
        clear y19 hy19
        refine HO_pick_t rfl rfl rfl rfl ?_
        refine HO_assign rfl rfl rfl ?_
        refine HO_nil ?_
        refine H_env (ρ' := [(0, _)]) ⟨rfl, trivial⟩ ?_
        refine H_world (fun _ hA => hA.drop (is := [0, 1, 2, 3, 4, 5, 6, 7, 8, 9, 10]) (Y := [_, _, _, _, _, _, _, _, _, _, _]) (Z := []) rfl) ?_
        -- end1
        refine H_ret1 Try.results31 (.tmp rfl) (fun w hA => ⟨(), congrArg Ending.returned ?_, ?_, ?_⟩)
        · (exact congrArg Value.bool (by decide +kernel))
        · trivial
        · exact hA.only (is := []) (Z := []) rfl
      · intro h16
        (try simp only [decide_eq_true_eq, decide_eq_false_iff_not, Bool.not_eq_true', Bool.not_eq_false', Bool.not_eq_true, Bool.not_eq_false, Bool.true_eq_false, Bool.false_eq_true, not_false_eq_true, not_true_eq_false] at h16)
        (exact absurd h16 (by decide +kernel))
    · intro h11
      (try simp only [decide_eq_true_eq, decide_eq_false_iff_not, Bool.not_eq_true', Bool.not_eq_false', Bool.not_eq_true, Bool.not_eq_false, Bool.true_eq_false, Bool.false_eq_true, not_false_eq_true, not_true_eq_false] at h11)
      (exact absurd h11 (by decide +kernel))
  · intro h5
    (try simp only [decide_eq_true_eq, decide_eq_false_iff_not, Bool.not_eq_true', Bool.not_eq_false', Bool.not_eq_true, Bool.not_eq_false, Bool.true_eq_false, Bool.false_eq_true, not_false_eq_true, not_true_eq_false] at h5)
    (exact absurd h5 (by decide +kernel))
theorem EntryTells_spec (ix te ki : Int) (ck cs sq : Int) (ke ol cv ti : ByteArray) (li : Int) (vo le : List Int) (a1 : Option Addr) (c1 : Nat) (a2 : Option Addr) (c2 : Nat) (ix2 te2 ki2 : Int) (ck2 cs2 sq2 : Int) (ke2 ol2 cv2 ti2 : ByteArray) (li2 : Int) (vo2 le2 : List Int) (a12 : Option Addr) (c12 : Nat) (a22 : Option Addr) (c22 : Nat) (z0 : ke.size ≤ BIG) (z1 : ol.size ≤ BIG) (z2 : cv.size ≤ BIG) (z3 : ti.size ≤ BIG) (n1 : vo.length ≤ BIG) (n2 : le.length ≤ BIG) (z02 : ke2.size ≤ BIG) (z12 : ol2.size ≤ BIG) (z22 : cv2.size ≤ BIG) (z32 : ti2.size ≤ BIG) (n12 : vo2.length ≤ BIG) (n22 : le2.length ≤ BIG) (hr : (-9223372036854775808 ≤ ix ∧ ix ≤ 9223372036854775807) ∧ (-9223372036854775808 ≤ te ∧ te ≤ 9223372036854775807) ∧ (-9223372036854775808 ≤ ki ∧ ki ≤ 9223372036854775807)) : Spec Try.prog 8 #[.agg #[.int .i64 (ix), .int .i64 (te), .int .i64 (ki), .int .i64 (ck), .int .i64 (cs), .int .i64 (sq), .string (ke), .string (ol), .string (cv), .string (ti), .int .i64 (li), .slice a1 (vo.length) c1, .slice a2 (le.length) c2], .agg #[.int .i64 (ix2), .int .i64 (te2), .int .i64 (ki2), .int .i64 (ck2), .int .i64 (cs2), .int .i64 (sq2), .string (ke2), .string (ol2), .string (cv2), .string (ti2), .int .i64 (li2), .slice a12 (vo2.length) c12, .slice a22 (le2.length) c22]] [.dat kInt.sl (vo) [.slice a1 (vo.length) c1], .dat kInt.sl (le) [.slice a2 (le.length) c2], .dat kInt.sl (vo2) [.slice a12 (vo2.length) c12], .dat kInt.sl (le2) [.slice a22 (le2.length) c22]] (β := Unit) (fun y => .bool (true)) (fun y => True) (fun y => []) := by
  refine Spec.enter (vs := [_, _]) Try.func8 rfl Try.ntmps8 rfl (Nat.le_of_ble_eq_true rfl) (fun w0 ok0 => ?_)
  generalize hM0 : blks _ = M0
  have hMn : ∀ {R : List Atom} (b : Nat), M0 b → blks R b := fun b hb => absurd (hM0 ▸ hb) (blks_none (by simp [Atom.dat, Atom.elem]) b)
  refine H_len_le (i := 0) rfl ?_
  intro hlen0
  refine H_len_le (i := 1) rfl ?_
  intro hlen1
  refine H_len_le (i := 2) rfl ?_
  intro hlen2
  refine H_len_le (i := 3) rfl ?_
  intro hlen3
  refine H_seq ?_
  -- R0 law.go:36
  refine H_region (l := [_, _, _]) rfl ?_
  refine HO_box (cs := [_, _, _, _, _, _, _, _, _, _, _, _, _]) rfl rfl rfl rfl ?_
  intro g2
  refine HO_box (cs := [_, _, _, _, _, _, _, _, _, _, _, _, _]) rfl rfl rfl rfl ?_
  intro g3
  refine HO_assign rfl rfl rfl ?_
  refine HO_nil ?_
  refine H_env (ρ' := [(3, _), (2, _)]) ⟨rfl, rfl, trivial⟩ ?_
  refine H_seq ?_
  refine H_seq ?_
  -- R1 law.go:37
  refine H_region (l := [_, _, _, _, _, _, _, _]) rfl ?_
  refine HO_loadA (i := 1) (us := []) (cs := [_, _, _, _, _, _, _, _, _, _, _, _, _]) (ts := []) rfl rfl rfl Try.isAgg61 Try.sizeOf61 rfl (.loc _ _ _) rfl rfl rfl rfl ?_
  refine HO_dup (i := 2) rfl rfl ?_
  refine HO_dup (i := 4) rfl rfl ?_
  refine HO_call (first := []) (capt := []) (is := [0, 0]) (R := [_, _, _, _, _, _]) rfl rfl rfl rfl rfl Try.call41 rfl (weight_spec _ _ _ _ _ _ _ _ _ _ _ _ _ _ _ _ _ ?_ ?_ ?_ ?_ ?_ ?_) ?_
  · (first | omega | assumption | decide)
  · (first | omega | assumption | decide)
  · (first | omega | assumption | decide)
  · (first | omega | assumption | decide)
  · (first | omega | assumption | decide)
  · (first | omega | assumption | decide)
  intro y6 hy6
  clear y6 hy6
  refine HO_bin rfl rfl rfl rfl bin_gtr ?_
  refine HO_move rfl rfl rfl ?_
  refine HO_split (d := 8) rfl ?_ ?_
  · intro h8
    (try simp only [decide_eq_true_eq, decide_eq_false_iff_not, Bool.not_eq_true', Bool.not_eq_false', Bool.not_eq_true, Bool.not_eq_false, Bool.true_eq_false, Bool.false_eq_true, not_false_eq_true, not_true_eq_false] at h8)
    refine HO_no rfl rfl rfl ?_
    refine HO_no rfl rfl rfl ?_
    refine HO_no rfl rfl rfl ?_
    refine HO_pick_t rfl rfl rfl rfl ?_
    refine HO_nil ?_
    refine H_env (ρ' := [(12, _), (3, _), (2, _)]) ⟨rfl, rfl, rfl, trivial⟩ ?_
    refine H_cond rfl (fun _ => ?_) (fun h => nomatch h)
    refine H_seq ?_
    -- R2 law.go:38
    refine H_region (l := [_, _]) rfl ?_
    refine HO_call (first := []) (capt := []) (is := []) (R := [_, _, _, _, _, _]) rfl rfl rfl rfl rfl Try.call31 rfl lives10_spec ?_
    intro y13 hy13
    clear y13 hy13
    refine HO_assign rfl rfl rfl ?_
    refine HO_nil ?_
    refine H_env (ρ' := [(4, _)]) ⟨rfl, trivial⟩ ?_
    refine H_world (fun _ hA => hA.drop (is := [0, 1, 2, 3, 4, 5]) (Y := [_, _, _, _, _, _]) (Z := []) rfl) ?_
    -- end1
    refine H_ret1 Try.results8 (.tmp rfl) (fun w hA => ⟨(), congrArg Ending.returned ?_, ?_, ?_⟩)
    · (exact congrArg Value.bool (by first | rfl | assumption | simp_all))
    · trivial
    · exact hA.only (is := []) (Z := []) rfl
  · intro h8
    (try simp only [decide_eq_true_eq, decide_eq_false_iff_not, Bool.not_eq_true', Bool.not_eq_false', Bool.not_eq_true, Bool.not_eq_false, Bool.true_eq_false, Bool.false_eq_true, not_false_eq_true, not_true_eq_false] at h8)
    refine HO_loadA (i := 0) (us := []) (cs := [_, _, _, _, _, _, _, _, _, _, _, _, _]) (ts := []) rfl rfl rfl Try.isAgg61 Try.sizeOf61 rfl (.loc _ _ _) rfl rfl rfl rfl ?_
    refine HO_dup (i := 4) rfl rfl ?_
    refine HO_dup (i := 6) rfl rfl ?_
    refine HO_call (first := []) (capt := []) (is := [0, 0]) (R := [_, _, _, _, _, _]) rfl rfl rfl rfl rfl Try.call41 rfl (weight_spec _ _ _ _ _ _ _ _ _ _ _ _ _ _ _ _ _ ?_ ?_ ?_ ?_ ?_ ?_) ?_
    · (first | omega | assumption | decide)
    · (first | omega | assumption | decide)
    · (first | omega | assumption | decide)
    · (first | omega | assumption | decide)
    · (first | omega | assumption | decide)
    · (first | omega | assumption | decide)
    intro y10 hy10
    clear y10 hy10
    refine HO_bin rfl rfl rfl rfl bin_gtr ?_
    refine HO_pick_f rfl rfl rfl rfl ?_
    refine HO_nil ?_
    refine H_env (ρ' := [(12, _), (3, _), (2, _)]) ⟨rfl, rfl, rfl, trivial⟩ ?_
    refine H_cond rfl ?_ ?_
    · intro h12
      (try simp only [decide_eq_true_eq, decide_eq_false_iff_not, Bool.not_eq_true', Bool.not_eq_false', Bool.not_eq_true, Bool.not_eq_false, Bool.true_eq_false, Bool.false_eq_true, not_false_eq_true, not_true_eq_false] at h12)
      refine H_seq ?_
      -- R2 law.go:38
      refine H_region (l := [_, _]) rfl ?_
      refine HO_call (first := []) (capt := []) (is := []) (R := [_, _, _, _, _, _]) rfl rfl rfl rfl rfl Try.call31 rfl lives10_spec ?_
      intro y13 hy13
      clear y13 hy13
      refine HO_assign rfl rfl rfl ?_
      refine HO_nil ?_
      refine H_env (ρ' := [(4, _)]) ⟨rfl, trivial⟩ ?_
      refine H_world (fun _ hA => hA.drop (is := [0, 1, 2, 3, 4, 5]) (Y := [_, _, _, _, _, _]) (Z := []) rfl) ?_
      -- end2
      refine H_ret1 Try.results8 (.tmp rfl) (fun w hA => ⟨(), congrArg Ending.returned ?_, ?_, ?_⟩)
      · (exact congrArg Value.bool (by first | rfl | assumption | simp_all))
      · trivial
      · exact hA.only (is := []) (Z := []) rfl
    · intro h12
      (try simp only [decide_eq_true_eq, decide_eq_false_iff_not, Bool.not_eq_true', Bool.not_eq_false', Bool.not_eq_true, Bool.not_eq_false, Bool.true_eq_false, Bool.false_eq_true, not_false_eq_true, not_true_eq_false] at h12)
      refine H_skip ?_
      refine H_seq ?_
      have hwz : ke.size + ol.size + cv.size + ti.size ≤ 100000 ∧ vo.length ≤ 100000 ∧ le.length ≤ 100000 := by unfold Ent.weight at h8; dsimp only at h8; omega
      -- R3 law.go:40 draws
      refine H_draw (is := [0, 1, 2, 3, 4, 5]) (Xs := [_, _, _, _, _, _]) (Z := []) (fuel := 47) (l := #[false, false, false, false, false, false, false, false, false, false, false, false, false, false, false, false, false, false, false, false, false, false, false, false, false, false, false, false, false, false, false, false, false, false, false, false, false, false, false, false, false, false, false, false, false, false, false]) mixed rfl rfl rfl ?_
      refine HA_take (i := 0) (listed' := #[true, false, false, false, false, false, false, false, false, false, false, false, false, false, false, false, false, false, false, false, false, false, false, false, false, false, false, false, false, false, false, false, false, false, false, false, false, false, false, false, false, false, false, false, false, false, false]) (bodyPost_pan _ _ _) rfl rfl rfl rfl (by kernel_rfl) rfl (V_loadA (i := 1) (us := []) (cs := [_, _, _, _, _, _, _, _, _, _, _, _, _]) (ts := []) rfl Try.isAgg61 Try.sizeOf61 rfl (.loc _ _ _) rfl rfl rfl rfl) (fun _ hA => hA.only (is := [0, 1, 2, 3, 4, 5]) (Y := [_, _, _, _, _, _]) (Z := []) rfl) ?_
      refine HA_take (i := 2) (listed' := #[true, false, true, false, false, false, false, false, false, false, false, false, false, false, false, false, false, false, false, false, false, false, false, false, false, false, false, false, false, false, false, false, false, false, false, false, false, false, false, false, false, false, false, false, false, false, false]) (bodyPost_pan _ _ _) rfl rfl rfl rfl (by kernel_rfl) rfl (V_loadA (i := 1) (us := []) (cs := [_, _, _, _, _, _, _, _, _, _, _, _, _]) (ts := []) rfl Try.isAgg61 Try.sizeOf61 rfl (.loc _ _ _) rfl rfl rfl rfl) (fun _ hA => hA.only (is := [0, 1, 2, 3, 4, 5]) (Y := [_, _, _, _, _, _]) (Z := []) rfl) ?_
      refine HA_loud1 (i := 1) (by kernel_rfl) rfl ?_
      refine HO_dup (i := 2) rfl rfl ?_
      refine HO_dup (i := 4) rfl rfl ?_
      refine HO_call (first := []) (capt := []) (is := [0, 0]) (R := [_, _, _, _, _, _]) rfl rfl rfl rfl rfl Try.call39 rfl (entgood_spec _ _ _ _ _ _ _ _ _ _ _ _ _ _ _ _ _ ?_ ?_) ?_
      · (first | omega | assumption | decide)
      · (first | omega | assumption | decide)
      intro y15 hy15
      clear y15 hy15
      refine HA_back (listed' := #[true, true, true, false, false, false, false, false, false, false, false, false, false, false, false, false, false, false, false, false, false, false, false, false, false, false, false, false, false, false, false, false, false, false, false, false, false, false, false, false, false, false, false, false, false, false, false]) rfl (fun _ hA => hA.only (is := [0, 1, 2, 3, 4, 5]) (Y := [_, _, _, _, _, _]) (Z := []) rfl) ?_
      refine HA_loud1 (i := 3) (by kernel_rfl) rfl ?_
      refine HO_dup (i := 2) rfl rfl ?_
      refine HO_dup (i := 4) rfl rfl ?_
      refine HO_call (first := []) (capt := []) (is := [0, 0]) (R := [_, _, _, _, _, _]) rfl rfl rfl rfl rfl Try.call42 rfl (rentgood_spec _ _ _ _ _ _ _ _ _ _ _ _ _ _ _ _ _ ?_ ?_) ?_
      · (first | omega | assumption | decide)
      · (first | omega | assumption | decide)
      intro y17 hy17
      clear y17 hy17
      refine HA_back (listed' := #[true, true, true, true, false, false, false, false, false, false, false, false, false, false, false, false, false, false, false, false, false, false, false, false, false, false, false, false, false, false, false, false, false, false, false, false, false, false, false, false, false, false, false, false, false, false, false]) rfl (fun _ hA => hA.only (is := [0, 1, 2, 3, 4, 5]) (Y := [_, _, _, _, _, _]) (Z := []) rfl) ?_
      refine HA_take (i := 4) (listed' := #[true, true, true, true, true, false, false, false, false, false, false, false, false, false, false, false, false, false, false, false, false, false, false, false, false, false, false, false, false, false, false, false, false, false, false, false, false, false, false, false, false, false, false, false, false, false, false]) (bodyPost_pan _ _ _) rfl rfl rfl rfl (by kernel_rfl) rfl (V_bin rfl rfl (bin_eqb Try.runUnderlying4)) (fun _ hA => hA.only (is := [0, 1, 2, 3, 4, 5]) (Y := [_, _, _, _, _, _]) (Z := []) rfl) ?_
      refine HA_take (i := 5) (listed' := #[true, true, true, true, true, true, false, false, false, false, false, false, false, false, false, false, false, false, false, false, false, false, false, false, false, false, false, false, false, false, false, false, false, false, false, false, false, false, false, false, false, false, false, false, false, false, false]) (bodyPost_pan _ _ _) rfl rfl rfl rfl (by kernel_rfl) rfl (V_move rfl) (fun _ hA => hA.only (is := [0, 1, 2, 3, 4, 5]) (Y := [_, _, _, _, _, _]) (Z := []) rfl) ?_
      refine HA_split (d := 19) rfl ?_ ?_
      · intro h19
        (try simp only [decide_eq_true_eq, decide_eq_false_iff_not, Bool.not_eq_true', Bool.not_eq_false', Bool.not_eq_true, Bool.not_eq_false, Bool.true_eq_false, Bool.false_eq_true, not_false_eq_true, not_true_eq_false] at h19)
        refine HA_take (i := 6) (listed' := #[true, true, true, true, true, true, true, false, false, false, false, false, false, false, false, false, false, false, false, false, false, false, false, false, false, false, false, false, false, false, false, false, false, false, false, false, false, false, false, false, false, false, false, false, false, false, false]) (bodyPost_pan _ _ _) rfl rfl rfl rfl (by kernel_rfl) rfl (V_fieldAddr (r := 11) rfl Try.underlying61 rfl Try.sizeOf45 rfl) (fun _ hA => hA.only (is := [0, 1, 2, 3, 4, 5]) (Y := [_, _, _, _, _, _]) (Z := []) rfl) ?_
        refine HA_take (i := 7) (listed' := #[true, true, true, true, true, true, true, true, false, false, false, false, false, false, false, false, false, false, false, false, false, false, false, false, false, false, false, false, false, false, false, false, false, false, false, false, false, false, false, false, false, false, false, false, false, false, false]) (bodyPost_pan _ _ _) rfl rfl rfl rfl (by kernel_rfl) rfl (V_loadA (i := 1) (us := [_, _, _, _, _, _, _, _, _, _, _]) (cs := [_, _]) (ts := []) rfl Try.isAgg45 Try.sizeOf45 rfl (.loc _ _ _) rfl rfl rfl rfl) (fun _ hA => hA.only (is := [0, 1, 2, 3, 4, 5]) (Y := [_, _, _, _, _, _]) (Z := []) rfl) ?_
        refine HA_take (i := 9) (listed' := #[true, true, true, true, true, true, true, true, false, true, false, false, false, false, false, false, false, false, false, false, false, false, false, false, false, false, false, false, false, false, false, false, false, false, false, false, false, false, false, false, false, false, false, false, false, false, false]) (bodyPost_pan _ _ _) rfl rfl rfl rfl (by kernel_rfl) rfl (V_fieldAddr (r := 11) rfl Try.underlying61 rfl Try.sizeOf45 rfl) (fun _ hA => hA.only (is := [0, 1, 2, 3, 4, 5]) (Y := [_, _, _, _, _, _]) (Z := []) rfl) ?_
        refine HA_take (i := 10) (listed' := #[true, true, true, true, true, true, true, true, false, true, true, false, false, false, false, false, false, false, false, false, false, false, false, false, false, false, false, false, false, false, false, false, false, false, false, false, false, false, false, false, false, false, false, false, false, false, false]) (bodyPost_pan _ _ _) rfl rfl rfl rfl (by kernel_rfl) rfl (V_loadA (i := 1) (us := [_, _, _, _, _, _, _, _, _, _, _]) (cs := [_, _]) (ts := []) rfl Try.isAgg45 Try.sizeOf45 rfl (.loc _ _ _) rfl rfl rfl rfl) (fun _ hA => hA.only (is := [0, 1, 2, 3, 4, 5]) (Y := [_, _, _, _, _, _]) (Z := []) rfl) ?_
        refine HA_loud1 (i := 8) (by kernel_rfl) rfl ?_
        refine HO_dup (i := 2) rfl rfl ?_
        refine HO_dup (i := 4) rfl rfl ?_
        refine HO_call (first := []) (capt := []) (is := [0, 0]) (R := [_, _, _, _, _, _]) rfl rfl rfl rfl rfl Try.call38 rfl (goodconf_spec _ _ _ _ _ _) ?_
        intro y22 hy22
        clear y22 hy22
        refine HA_back (listed' := #[true, true, true, true, true, true, true, true, true, true, true, false, false, false, false, false, false, false, false, false, false, false, false, false, false, false, false, false, false, false, false, false, false, false, false, false, false, false, false, false, false, false, false, false, false, false, false]) rfl (fun _ hA => hA.only (is := [0, 1, 2, 3, 4, 5]) (Y := [_, _, _, _, _, _]) (Z := []) rfl) ?_
        refine HA_loud1 (i := 11) (by kernel_rfl) rfl ?_
        refine HO_dup (i := 2) rfl rfl ?_
        refine HO_dup (i := 4) rfl rfl ?_
        refine HO_call (first := []) (capt := []) (is := [0, 0]) (R := [_, _, _, _, _, _]) rfl rfl rfl rfl rfl Try.call43 rfl (rgoodconf_spec _ _ _ _ _ _) ?_
        intro y25 hy25
        clear y25 hy25
        refine HA_back (listed' := #[true, true, true, true, true, true, true, true, true, true, true, true, false, false, false, false, false, false, false, false, false, false, false, false, false, false, false, false, false, false, false, false, false, false, false, false, false, false, false, false, false, false, false, false, false, false, false]) rfl (fun _ hA => hA.only (is := [0, 1, 2, 3, 4, 5]) (Y := [_, _, _, _, _, _]) (Z := []) rfl) ?_
        refine HA_take (i := 12) (listed' := #[true, true, true, true, true, true, true, true, true, true, true, true, true, false, false, false, false, false, false, false, false, false, false, false, false, false, false, false, false, false, false, false, false, false, false, false, false, false, false, false, false, false, false, false, false, false, false]) (bodyPost_pan _ _ _) rfl rfl rfl rfl (by kernel_rfl) rfl (V_bin rfl rfl (bin_eqb Try.runUnderlying4)) (fun _ hA => hA.only (is := [0, 1, 2, 3, 4, 5]) (Y := [_, _, _, _, _, _]) (Z := []) rfl) ?_
        refine HA_take (i := 13) (listed' := #[true, true, true, true, true, true, true, true, true, true, true, true, true, true, false, false, false, false, false, false, false, false, false, false, false, false, false, false, false, false, false, false, false, false, false, false, false, false, false, false, false, false, false, false, false, false, false]) (bodyPost_pan _ _ _) rfl rfl rfl rfl (by kernel_rfl) rfl (V_pick_t rfl rfl) (fun _ hA => hA.only (is := [0, 1, 2, 3, 4, 5]) (Y := [_, _, _, _, _, _]) (Z := []) rfl) ?_
        refine HA_take (i := 14) (listed' := #[true, true, true, true, true, true, true, true, true, true, true, true, true, true, true, false, false, false, false, false, false, false, false, false, false, false, false, false, false, false, false, false, false, false, false, false, false, false, false, false, false, false, false, false, false, false, false]) (bodyPost_pan _ _ _) rfl rfl rfl rfl (by kernel_rfl) rfl (V_move rfl) (fun _ hA => hA.only (is := [0, 1, 2, 3, 4, 5]) (Y := [_, _, _, _, _, _]) (Z := []) rfl) ?_
        refine HA_split (d := 28) rfl ?_ ?_
        · intro h28
          (try simp only [decide_eq_true_eq, decide_eq_false_iff_not, Bool.not_eq_true', Bool.not_eq_false', Bool.not_eq_true, Bool.not_eq_false, Bool.true_eq_false, Bool.false_eq_true, not_false_eq_true, not_true_eq_false] at h28)
          refine HA_take (i := 15) (listed' := #[true, true, true, true, true, true, true, true, true, true, true, true, true, true, true, true, false, false, false, false, false, false, false, false, false, false, false, false, false, false, false, false, false, false, false, false, false, false, false, false, false, false, false, false, false, false, false]) (bodyPost_pan _ _ _) rfl rfl rfl rfl (by kernel_rfl) rfl (V_loadA (i := 1) (us := []) (cs := [_, _, _, _, _, _, _, _, _, _, _, _, _]) (ts := []) rfl Try.isAgg61 Try.sizeOf61 rfl (.loc _ _ _) rfl rfl rfl rfl) (fun _ hA => hA.only (is := [0, 1, 2, 3, 4, 5]) (Y := [_, _, _, _, _, _]) (Z := []) rfl) ?_
          refine HA_take (i := 17) (listed' := #[true, true, true, true, true, true, true, true, true, true, true, true, true, true, true, true, false, true, false, false, false, false, false, false, false, false, false, false, false, false, false, false, false, false, false, false, false, false, false, false, false, false, false, false, false, false, false]) (bodyPost_pan _ _ _) rfl rfl rfl rfl (by kernel_rfl) rfl (V_loadA (i := 1) (us := []) (cs := [_, _, _, _, _, _, _, _, _, _, _, _, _]) (ts := []) rfl Try.isAgg61 Try.sizeOf61 rfl (.loc _ _ _) rfl rfl rfl rfl) (fun _ hA => hA.only (is := [0, 1, 2, 3, 4, 5]) (Y := [_, _, _, _, _, _]) (Z := []) rfl) ?_
          refine HA_loud1 (i := 16) (by kernel_rfl) rfl ?_
          refine HO_dup (i := 2) rfl rfl ?_
          refine HO_dup (i := 4) rfl rfl ?_
          refine HO_call (first := []) (capt := []) (is := [0, 0]) (R := [_, _, _, _, _, _]) rfl rfl rfl rfl rfl Try.call44 rfl (entbytes_spec _ _ _ _ _ _ _ _ _ _ _ _ _ _ _ _ _ ?_ ?_ ?_ ?_) ?_
          · omega
          · omega
          · omega
          · exact hr
          intro y30 hy30
          refine HA_back (listed' := #[true, true, true, true, true, true, true, true, true, true, true, true, true, true, true, true, true, true, false, false, false, false, false, false, false, false, false, false, false, false, false, false, false, false, false, false, false, false, false, false, false, false, false, false, false, false, false]) rfl (fun _ hA => hA.only (is := [1, 2, 3, 4, 5, 6]) (Y := [_, _, _, _, _, _]) (Z := [_]) rfl) ?_
          refine HA_loud1 (i := 18) (by kernel_rfl) rfl ?_
          refine HO_dup (i := 3) rfl rfl ?_
          refine HO_dup (i := 5) rfl rfl ?_
          refine HO_call (first := []) (capt := []) (is := [0, 0]) (R := [_, _, _, _, _, _, _]) rfl rfl rfl rfl rfl Try.call45 rfl (rentbytes_spec _ _ _ _ _ _ _ _ _ _ _ _ _ _ _ _ _ ?_ ?_ ?_ ?_) ?_
          · omega
          · omega
          · omega
          · exact hr
          intro y32 hy32
          refine HA_back (listed' := #[true, true, true, true, true, true, true, true, true, true, true, true, true, true, true, true, true, true, true, false, false, false, false, false, false, false, false, false, false, false, false, false, false, false, false, false, false, false, false, false, false, false, false, false, false, false, false]) rfl (fun _ hA => hA.only (is := [2, 3, 4, 5, 6, 7]) (Y := [_, _, _, _, _, _]) (Z := [_, _]) rfl) ?_
          refine HA_loud1 (i := 19) (by kernel_rfl) rfl ?_
          refine HO_dup (i := 1) rfl rfl ?_
          refine HO_dup (i := 1) rfl rfl ?_
          refine HO_call (first := []) (capt := []) (is := [0, 0]) (R := [_, _, _, _, _, _, _, _]) rfl rfl rfl rfl rfl Try.call22 rfl (rsame_spec _ _ _ _ _ _) ?_
          intro y33 hy33
          clear y33 hy33
          refine HA_back (listed' := #[true, true, true, true, true, true, true, true, true, true, true, true, true, true, true, true, true, true, true, true, false, false, false, false, false, false, false, false, false, false, false, false, false, false, false, false, false, false, false, false, false, false, false, false, false, false, false]) rfl (fun _ hA => hA.only (is := [2, 3, 4, 5, 6, 7]) (Y := [_, _, _, _, _, _]) (Z := [_, _]) rfl) ?_
          refine HA_take (i := 20) (listed' := #[true, true, true, true, true, true, true, true, true, true, true, true, true, true, true, true, true, true, true, true, true, false, false, false, false, false, false, false, false, false, false, false, false, false, false, false, false, false, false, false, false, false, false, false, false, false, false]) (bodyPost_pan _ _ _) rfl rfl rfl rfl (by kernel_rfl) rfl (V_pick_t rfl rfl) (fun _ hA => hA.only (is := [2, 3, 4, 5, 6, 7]) (Y := [_, _, _, _, _, _]) (Z := [_, _]) rfl) ?_
          refine HA_take (i := 21) (listed' := #[true, true, true, true, true, true, true, true, true, true, true, true, true, true, true, true, true, true, true, true, true, true, false, false, false, false, false, false, false, false, false, false, false, false, false, false, false, false, false, false, false, false, false, false, false, false, false]) (bodyPost_pan _ _ _) rfl rfl rfl rfl (by kernel_rfl) rfl (V_move rfl) (fun _ hA => hA.only (is := [2, 3, 4, 5, 6, 7]) (Y := [_, _, _, _, _, _]) (Z := [_, _]) rfl) ?_
          refine HA_split (d := 35) rfl ?_ ?_
          · intro h35
            (try simp only [decide_eq_true_eq, decide_eq_false_iff_not, Bool.not_eq_true', Bool.not_eq_false', Bool.not_eq_true, Bool.not_eq_false, Bool.true_eq_false, Bool.false_eq_true, not_false_eq_true, not_true_eq_false] at h35)
            refine HA_take (i := 22) (listed' := #[true, true, true, true, true, true, true, true, true, true, true, true, true, true, true, true, true, true, true, true, true, true, true, false, false, false, false, false, false, false, false, false, false, false, false, false, false, false, false, false, false, false, false, false, false, false, false]) (bodyPost_pan _ _ _) rfl rfl rfl rfl (by kernel_rfl) rfl (V_loadA (i := 1) (us := []) (cs := [_, _, _, _, _, _, _, _, _, _, _, _, _]) (ts := []) rfl Try.isAgg61 Try.sizeOf61 rfl (.loc _ _ _) rfl rfl rfl rfl) (fun _ hA => hA.only (is := [2, 3, 4, 5, 6, 7]) (Y := [_, _, _, _, _, _]) (Z := [_, _]) rfl) ?_
            refine HA_take (i := 23) (listed' := #[true, true, true, true, true, true, true, true, true, true, true, true, true, true, true, true, true, true, true, true, true, true, true, true, false, false, false, false, false, false, false, false, false, false, false, false, false, false, false, false, false, false, false, false, false, false, false]) (bodyPost_pan _ _ _) rfl rfl rfl rfl (by kernel_rfl) rfl (V_loadA (i := 0) (us := []) (cs := [_, _, _, _, _, _, _, _, _, _, _, _, _]) (ts := []) rfl Try.isAgg61 Try.sizeOf61 rfl (.loc _ _ _) rfl rfl rfl rfl) (fun _ hA => hA.only (is := [2, 3, 4, 5, 6, 7]) (Y := [_, _, _, _, _, _]) (Z := [_, _]) rfl) ?_
            refine HA_take (i := 25) (listed' := #[true, true, true, true, true, true, true, true, true, true, true, true, true, true, true, true, true, true, true, true, true, true, true, true, false, true, false, false, false, false, false, false, false, false, false, false, false, false, false, false, false, false, false, false, false, false, false]) (bodyPost_pan _ _ _) rfl rfl rfl rfl (by kernel_rfl) rfl (V_loadA (i := 1) (us := []) (cs := [_, _, _, _, _, _, _, _, _, _, _, _, _]) (ts := []) rfl Try.isAgg61 Try.sizeOf61 rfl (.loc _ _ _) rfl rfl rfl rfl) (fun _ hA => hA.only (is := [2, 3, 4, 5, 6, 7]) (Y := [_, _, _, _, _, _]) (Z := [_, _]) rfl) ?_
            refine HA_take (i := 26) (listed' := #[true, true, true, true, true, true, true, true, true, true, true, true, true, true, true, true, true, true, true, true, true, true, true, true, false, true, true, false, false, false, false, false, false, false, false, false, false, false, false, false, false, false, false, false, false, false, false]) (bodyPost_pan _ _ _) rfl rfl rfl rfl (by kernel_rfl) rfl (V_loadA (i := 0) (us := []) (cs := [_, _, _, _, _, _, _, _, _, _, _, _, _]) (ts := []) rfl Try.isAgg61 Try.sizeOf61 rfl (.loc _ _ _) rfl rfl rfl rfl) (fun _ hA => hA.only (is := [2, 3, 4, 5, 6, 7]) (Y := [_, _, _, _, _, _]) (Z := [_, _]) rfl) ?_
            refine HA_loud1 (i := 24) (by kernel_rfl) rfl ?_
            refine HO_dup (i := 4) rfl rfl ?_
            refine HO_dup (i := 6) rfl rfl ?_
            refine HO_dup (i := 8) rfl rfl ?_
            refine HO_dup (i := 10) rfl rfl ?_
            refine HO_call (first := []) (capt := []) (is := [0, 0, 0, 0]) (R := [_, _, _, _, _, _, _, _]) rfl rfl rfl rfl rfl Try.call46 rfl (entsame_spec _ _ _ _ _ _ _ _ _ _ _ _ _ _ _ _ _ _ _ _ _ _ _ _ _ _ _ _ _ _ _ _ _ _) ?_
            intro y38 hy38
            clear y38 hy38
            refine HA_back (listed' := #[true, true, true, true, true, true, true, true, true, true, true, true, true, true, true, true, true, true, true, true, true, true, true, true, true, true, true, false, false, false, false, false, false, false, false, false, false, false, false, false, false, false, false, false, false, false, false]) rfl (fun _ hA => hA.only (is := [2, 3, 4, 5, 6, 7]) (Y := [_, _, _, _, _, _]) (Z := [_, _]) rfl) ?_
            refine HA_loud1 (i := 27) (by kernel_rfl) rfl ?_
            refine HO_dup (i := 4) rfl rfl ?_
            refine HO_dup (i := 6) rfl rfl ?_
            refine HO_dup (i := 8) rfl rfl ?_
            refine HO_dup (i := 10) rfl rfl ?_
            refine HO_call (first := []) (capt := []) (is := [0, 0, 0, 0]) (R := [_, _, _, _, _, _, _, _]) rfl rfl rfl rfl rfl Try.call47 rfl (rentsame_spec _ _ _ _ _ _ _ _ _ _ _ _ _ _ _ _ _ _ _ _ _ _ _ _ _ _ _ _ _ _ _ _ _ _) ?_
            intro y41 hy41
            clear y41 hy41
            refine HA_back (listed' := #[true, true, true, true, true, true, true, true, true, true, true, true, true, true, true, true, true, true, true, true, true, true, true, true, true, true, true, true, false, false, false, false, false, false, false, false, false, false, false, false, false, false, false, false, false, false, false]) rfl (fun _ hA => hA.only (is := [2, 3, 4, 5, 6, 7]) (Y := [_, _, _, _, _, _]) (Z := [_, _]) rfl) ?_
            refine HA_take (i := 28) (listed' := #[true, true, true, true, true, true, true, true, true, true, true, true, true, true, true, true, true, true, true, true, true, true, true, true, true, true, true, true, true, false, false, false, false, false, false, false, false, false, false, false, false, false, false, false, false, false, false]) (bodyPost_pan _ _ _) rfl rfl rfl rfl (by kernel_rfl) rfl (V_bin rfl rfl (bin_eqb Try.runUnderlying4)) (fun _ hA => hA.only (is := [2, 3, 4, 5, 6, 7]) (Y := [_, _, _, _, _, _]) (Z := [_, _]) rfl) ?_
            refine HA_take (i := 29) (listed' := #[true, true, true, true, true, true, true, true, true, true, true, true, true, true, true, true, true, true, true, true, true, true, true, true, true, true, true, true, true, true, false, false, false, false, false, false, false, false, false, false, false, false, false, false, false, false, false]) (bodyPost_pan _ _ _) rfl rfl rfl rfl (by kernel_rfl) rfl (V_pick_t rfl rfl) (fun _ hA => hA.only (is := [2, 3, 4, 5, 6, 7]) (Y := [_, _, _, _, _, _]) (Z := [_, _]) rfl) ?_
            refine HA_take (i := 30) (listed' := #[true, true, true, true, true, true, true, true, true, true, true, true, true, true, true, true, true, true, true, true, true, true, true, true, true, true, true, true, true, true, true, false, false, false, false, false, false, false, false, false, false, false, false, false, false, false, false]) (bodyPost_pan _ _ _) rfl rfl rfl rfl (by kernel_rfl) rfl (V_move rfl) (fun _ hA => hA.only (is := [2, 3, 4, 5, 6, 7]) (Y := [_, _, _, _, _, _]) (Z := [_, _]) rfl) ?_
            refine HA_split (d := 44) rfl ?_ ?_
            · intro h44
              (try simp only [decide_eq_true_eq, decide_eq_false_iff_not, Bool.not_eq_true', Bool.not_eq_false', Bool.not_eq_true, Bool.not_eq_false, Bool.true_eq_false, Bool.false_eq_true, not_false_eq_true, not_true_eq_false] at h44)
              refine HA_take (i := 31) (listed' := #[true, true, true, true, true, true, true, true, true, true, true, true, true, true, true, true, true, true, true, true, true, true, true, true, true, true, true, true, true, true, true, true, false, false, false, false, false, false, false, false, false, false, false, false, false, false, false]) (bodyPost_pan _ _ _) rfl rfl rfl rfl (by kernel_rfl) rfl (V_fieldAddr (r := 11) rfl Try.underlying61 rfl Try.sizeOf45 rfl) (fun _ hA => hA.only (is := [2, 3, 4, 5, 6, 7]) (Y := [_, _, _, _, _, _]) (Z := [_, _]) rfl) ?_
              refine HA_take (i := 32) (listed' := #[true, true, true, true, true, true, true, true, true, true, true, true, true, true, true, true, true, true, true, true, true, true, true, true, true, true, true, true, true, true, true, true, true, false, false, false, false, false, false, false, false, false, false, false, false, false, false]) (bodyPost_pan _ _ _) rfl rfl rfl rfl (by kernel_rfl) rfl (V_loadA (i := 1) (us := [_, _, _, _, _, _, _, _, _, _, _]) (cs := [_, _]) (ts := []) rfl Try.isAgg45 Try.sizeOf45 rfl (.loc _ _ _) rfl rfl rfl rfl) (fun _ hA => hA.only (is := [2, 3, 4, 5, 6, 7]) (Y := [_, _, _, _, _, _]) (Z := [_, _]) rfl) ?_
              refine HA_take (i := 33) (listed' := #[true, true, true, true, true, true, true, true, true, true, true, true, true, true, true, true, true, true, true, true, true, true, true, true, true, true, true, true, true, true, true, true, true, true, false, false, false, false, false, false, false, false, false, false, false, false, false]) (bodyPost_pan _ _ _) rfl rfl rfl rfl (by kernel_rfl) rfl (V_fieldAddr (r := 11) rfl Try.underlying61 rfl Try.sizeOf45 rfl) (fun _ hA => hA.only (is := [2, 3, 4, 5, 6, 7]) (Y := [_, _, _, _, _, _]) (Z := [_, _]) rfl) ?_
              refine HA_take (i := 34) (listed' := #[true, true, true, true, true, true, true, true, true, true, true, true, true, true, true, true, true, true, true, true, true, true, true, true, true, true, true, true, true, true, true, true, true, true, true, false, false, false, false, false, false, false, false, false, false, false, false]) (bodyPost_pan _ _ _) rfl rfl rfl rfl (by kernel_rfl) rfl (V_loadA (i := 0) (us := [_, _, _, _, _, _, _, _, _, _, _]) (cs := [_, _]) (ts := []) rfl Try.isAgg45 Try.sizeOf45 rfl (.loc _ _ _) rfl rfl rfl rfl) (fun _ hA => hA.only (is := [2, 3, 4, 5, 6, 7]) (Y := [_, _, _, _, _, _]) (Z := [_, _]) rfl) ?_
              refine HA_take (i := 36) (listed' := #[true, true, true, true, true, true, true, true, true, true, true, true, true, true, true, true, true, true, true, true, true, true, true, true, true, true, true, true, true, true, true, true, true, true, true, false, true, false, false, false, false, false, false, false, false, false, false]) (bodyPost_pan _ _ _) rfl rfl rfl rfl (by kernel_rfl) rfl (V_fieldAddr (r := 11) rfl Try.underlying61 rfl Try.sizeOf45 rfl) (fun _ hA => hA.only (is := [2, 3, 4, 5, 6, 7]) (Y := [_, _, _, _, _, _]) (Z := [_, _]) rfl) ?_
              refine HA_take (i := 37) (listed' := #[true, true, true, true, true, true, true, true, true, true, true, true, true, true, true, true, true, true, true, true, true, true, true, true, true, true, true, true, true, true, true, true, true, true, true, false, true, true, false, false, false, false, false, false, false, false, false]) (bodyPost_pan _ _ _) rfl rfl rfl rfl (by kernel_rfl) rfl (V_loadA (i := 1) (us := [_, _, _, _, _, _, _, _, _, _, _]) (cs := [_, _]) (ts := []) rfl Try.isAgg45 Try.sizeOf45 rfl (.loc _ _ _) rfl rfl rfl rfl) (fun _ hA => hA.only (is := [2, 3, 4, 5, 6, 7]) (Y := [_, _, _, _, _, _]) (Z := [_, _]) rfl) ?_
              refine HA_take (i := 38) (listed' := #[true, true, true, true, true, true, true, true, true, true, true, true, true, true, true, true, true, true, true, true, true, true, true, true, true, true, true, true, true, true, true, true, true, true, true, false, true, true, true, false, false, false, false, false, false, false, false]) (bodyPost_pan _ _ _) rfl rfl rfl rfl (by kernel_rfl) rfl (V_fieldAddr (r := 11) rfl Try.underlying61 rfl Try.sizeOf45 rfl) (fun _ hA => hA.only (is := [2, 3, 4, 5, 6, 7]) (Y := [_, _, _, _, _, _]) (Z := [_, _]) rfl) ?_
              refine HA_take (i := 39) (listed' := #[true, true, true, true, true, true, true, true, true, true, true, true, true, true, true, true, true, true, true, true, true, true, true, true, true, true, true, true, true, true, true, true, true, true, true, false, true, true, true, true, false, false, false, false, false, false, false]) (bodyPost_pan _ _ _) rfl rfl rfl rfl (by kernel_rfl) rfl (V_loadA (i := 0) (us := [_, _, _, _, _, _, _, _, _, _, _]) (cs := [_, _]) (ts := []) rfl Try.isAgg45 Try.sizeOf45 rfl (.loc _ _ _) rfl rfl rfl rfl) (fun _ hA => hA.only (is := [2, 3, 4, 5, 6, 7]) (Y := [_, _, _, _, _, _]) (Z := [_, _]) rfl) ?_
              refine HA_loud1 (i := 35) (by kernel_rfl) rfl ?_
              refine HO_dup (i := 4) rfl rfl ?_
              refine HO_dup (i := 6) rfl rfl ?_
              refine HO_dup (i := 8) rfl rfl ?_
              refine HO_dup (i := 10) rfl rfl ?_
              refine HO_call (first := []) (capt := []) (is := [0, 0, 0, 0]) (R := [_, _, _, _, _, _, _, _]) rfl rfl rfl rfl rfl Try.call40 rfl (sameconf_spec _ _ _ _ _ _ _ _ _ _ _ _) ?_
              intro y49 hy49
              clear y49 hy49
              refine HA_back (listed' := #[true, true, true, true, true, true, true, true, true, true, true, true, true, true, true, true, true, true, true, true, true, true, true, true, true, true, true, true, true, true, true, true, true, true, true, true, true, true, true, true, false, false, false, false, false, false, false]) rfl (fun _ hA => hA.only (is := [2, 3, 4, 5, 6, 7]) (Y := [_, _, _, _, _, _]) (Z := [_, _]) rfl) ?_
              refine HA_loud1 (i := 40) (by kernel_rfl) rfl ?_
              refine HO_dup (i := 4) rfl rfl ?_
              refine HO_dup (i := 6) rfl rfl ?_
              refine HO_dup (i := 8) rfl rfl ?_
              refine HO_dup (i := 10) rfl rfl ?_
              refine HO_call (first := []) (capt := []) (is := [0, 0, 0, 0]) (R := [_, _, _, _, _, _, _, _]) rfl rfl rfl rfl rfl Try.call48 rfl (rsameconf_spec _ _ _ _ _ _ _ _ _ _ _ _) ?_
              intro y54 hy54
              clear y54 hy54
              refine HA_back (listed' := #[true, true, true, true, true, true, true, true, true, true, true, true, true, true, true, true, true, true, true, true, true, true, true, true, true, true, true, true, true, true, true, true, true, true, true, true, true, true, true, true, true, false, false, false, false, false, false]) rfl (fun _ hA => hA.only (is := [2, 3, 4, 5, 6, 7]) (Y := [_, _, _, _, _, _]) (Z := [_, _]) rfl) ?_
              refine HA_take (i := 41) (listed' := #[true, true, true, true, true, true, true, true, true, true, true, true, true, true, true, true, true, true, true, true, true, true, true, true, true, true, true, true, true, true, true, true, true, true, true, true, true, true, true, true, true, true, false, false, false, false, false]) (bodyPost_pan _ _ _) rfl rfl rfl rfl (by kernel_rfl) rfl (V_bin rfl rfl (bin_eqb Try.runUnderlying4)) (fun _ hA => hA.only (is := [2, 3, 4, 5, 6, 7]) (Y := [_, _, _, _, _, _]) (Z := [_, _]) rfl) ?_
              refine HA_take (i := 42) (listed' := #[true, true, true, true, true, true, true, true, true, true, true, true, true, true, true, true, true, true, true, true, true, true, true, true, true, true, true, true, true, true, true, true, true, true, true, true, true, true, true, true, true, true, true, false, false, false, false]) (bodyPost_pan _ _ _) rfl rfl rfl rfl (by kernel_rfl) rfl (V_pick_t rfl rfl) (fun _ hA => hA.only (is := [2, 3, 4, 5, 6, 7]) (Y := [_, _, _, _, _, _]) (Z := [_, _]) rfl) ?_
              refine HA_take (i := 43) (listed' := #[true, true, true, true, true, true, true, true, true, true, true, true, true, true, true, true, true, true, true, true, true, true, true, true, true, true, true, true, true, true, true, true, true, true, true, true, true, true, true, true, true, true, true, true, false, false, false]) (bodyPost_pan _ _ _) rfl rfl rfl rfl (by kernel_rfl) rfl (V_move rfl) (fun _ hA => hA.only (is := [2, 3, 4, 5, 6, 7]) (Y := [_, _, _, _, _, _]) (Z := [_, _]) rfl) ?_
              refine HA_split (d := 57) rfl ?_ ?_
              · intro h57
                (try simp only [decide_eq_true_eq, decide_eq_false_iff_not, Bool.not_eq_true', Bool.not_eq_false', Bool.not_eq_true, Bool.not_eq_false, Bool.true_eq_false, Bool.false_eq_true, not_false_eq_true, not_true_eq_false] at h57)
                refine HA_loud1 (i := 44) (by kernel_rfl) rfl ?_
                refine HO_call (first := []) (capt := []) (is := []) (R := [_, _, _, _, _, _, _, _]) rfl rfl rfl rfl rfl Try.call31 rfl lives10_spec ?_
                intro y58 hy58
                clear y58 hy58
                refine HA_back (listed' := #[true, true, true, true, true, true, true, true, true, true, true, true, true, true, true, true, true, true, true, true, true, true, true, true, true, true, true, true, true, true, true, true, true, true, true, true, true, true, true, true, true, true, true, true, true, false, false]) rfl (fun _ hA => hA.only (is := [2, 3, 4, 5, 6, 7]) (Y := [_, _, _, _, _, _]) (Z := [_, _]) rfl) ?_
                refine HA_take (i := 45) (listed' := #[true, true, true, true, true, true, true, true, true, true, true, true, true, true, true, true, true, true, true, true, true, true, true, true, true, true, true, true, true, true, true, true, true, true, true, true, true, true, true, true, true, true, true, true, true, true, false]) (bodyPost_pan _ _ _) rfl rfl rfl rfl (by kernel_rfl) rfl (V_pick_t rfl rfl) (fun _ hA => hA.only (is := [2, 3, 4, 5, 6, 7]) (Y := [_, _, _, _, _, _]) (Z := [_, _]) rfl) ?_
                refine HA_take (i := 46) (listed' := #[true, true, true, true, true, true, true, true, true, true, true, true, true, true, true, true, true, true, true, true, true, true, true, true, true, true, true, true, true, true, true, true, true, true, true, true, true, true, true, true, true, true, true, true, true, true, true]) (bodyPost_pan _ _ _) rfl rfl rfl rfl (by kernel_rfl) rfl (V_assign rfl) (fun _ hA => hA.only (is := [2, 3, 4, 5, 6, 7]) (Y := [_, _, _, _, _, _]) (Z := [_, _]) rfl) ?_
                refine HA_done (by kernel_rfl) ?_
                refine H_env (ρ' := [(4, _)]) ⟨rfl, trivial⟩ ?_
                refine H_world (fun _ hA => hA.drop (is := [0, 1, 2, 3, 4, 5, 6, 7]) (Y := [_, _, _, _, _, _, _, _]) (Z := []) rfl) ?_
                -- end3
                refine H_ret1 Try.results8 (.tmp rfl) (fun w hA => ⟨(), congrArg Ending.returned ?_, ?_, ?_⟩)
                · (exact congrArg Value.bool (by first | rfl | assumption | simp_all))
                · trivial
                · exact hA.only (is := []) (Z := []) rfl
              · intro h57
                (try simp only [decide_eq_true_eq, decide_eq_false_iff_not, Bool.not_eq_true', Bool.not_eq_false', Bool.not_eq_true, Bool.not_eq_false, Bool.true_eq_false, Bool.false_eq_true, not_false_eq_true, not_true_eq_false] at h57)
                all_goals (exact absurd h57 (by simp))
            · intro h44
              (try simp only [decide_eq_true_eq, decide_eq_false_iff_not, Bool.not_eq_true', Bool.not_eq_false', Bool.not_eq_true, Bool.not_eq_false, Bool.true_eq_false, Bool.false_eq_true, not_false_eq_true, not_true_eq_false] at h44)
              all_goals (exact absurd h44 (by simp))
          · intro h35
            (try simp only [decide_eq_true_eq, decide_eq_false_iff_not, Bool.not_eq_true', Bool.not_eq_false', Bool.not_eq_true, Bool.not_eq_false, Bool.true_eq_false, Bool.false_eq_true, not_false_eq_true, not_true_eq_false] at h35)
            all_goals (exact absurd rfl h35)
        · intro h28
          (try simp only [decide_eq_true_eq, decide_eq_false_iff_not, Bool.not_eq_true', Bool.not_eq_false', Bool.not_eq_true, Bool.not_eq_false, Bool.true_eq_false, Bool.false_eq_true, not_false_eq_true, not_true_eq_false] at h28)
          all_goals (exact absurd h28 (by simp))
      · intro h19
        (try simp only [decide_eq_true_eq, decide_eq_false_iff_not, Bool.not_eq_true', Bool.not_eq_false', Bool.not_eq_true, Bool.not_eq_false, Bool.true_eq_false, Bool.false_eq_true, not_false_eq_true, not_true_eq_false] at h19)
        all_goals (exact absurd h19 (by simp))
end Go.Wk
