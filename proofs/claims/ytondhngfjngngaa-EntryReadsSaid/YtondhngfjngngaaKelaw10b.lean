/- Contracts of the program's functions, each proved by walking its code. -/
import Derived.Test.YtondhngfjngngaaKelaw10
import Derived.Test.YtondhngfjngngaaEnt2
import Derived.Test.YtondhngfjngngaaKeent3
set_option maxRecDepth 100000
set_option linter.unusedVariables false
set_option linter.unusedSimpArgs false
namespace Go.Wk.Flaw10b
open Go Go.RowKit Go.Proofs Go.Wk
theorem eq49_eql {x y : Operand} {a0 b0 : Int} {a1 b1 : Int} {a2 b2 : Int} : BinR Try.prog .eql 49 x y (.agg #[.int .i64 a0, .int .i64 a1, .int .i64 a2]) (.agg #[.int .i64 b0, .int .i64 b1, .int .i64 b2]) (.bool (decide (a0 = b0) && (decide (a1 = b1) && (decide (a2 = b2) && true)))) :=
  bin_eqs_agg (by kernel_rfl) Try.underlying49 (by kernel_rfl) (fun w => (eqF_int (by decide) Try.underlying3 Try.isAgg3 rfl rfl (eqF_int (by decide) Try.underlying3 Try.isAgg3 rfl rfl (eqF_int (by decide) Try.underlying3 Try.isAgg3 rfl rfl eqF_nil))))
end Go.Wk.Flaw10b
namespace Go.Wk
open Go Go.RowKit Go.Proofs Flaw10b 
theorem rsamesnap_spec (ix te : Int) (vo le : List Int) (a1 : Option Addr) (c1 : Nat) (a2 : Option Addr) (c2 : Nat) (da : List UInt8) (a3 : Option Addr) (c3 : Nat) (ix2 te2 : Int) (vo2 le2 : List Int) (a12 : Option Addr) (c12 : Nat) (a22 : Option Addr) (c22 : Nat) (da2 : List UInt8) (a32 : Option Addr) (c32 : Nat)  : Spec Try.prog 59 #[.agg #[.int .i64 (ix), .int .i64 (te), .slice a1 (vo.length) c1, .slice a2 (le.length) c2, .slice a3 (da.length) c3], .agg #[.int .i64 (ix2), .int .i64 (te2), .slice a12 (vo2.length) c12, .slice a22 (le2.length) c22, .slice a32 (da2.length) c32]] [.dat kInt.sl (vo) [.slice a1 (vo.length) c1], .dat kInt.sl (le) [.slice a2 (le.length) c2], .dat kByte.sl (da) [.slice a3 (da.length) c3], .dat kInt.sl (vo2) [.slice a12 (vo2.length) c12], .dat kInt.sl (le2) [.slice a22 (le2.length) c22], .dat kByte.sl (da2) [.slice a32 (da2.length) c32]] (β := Unit) (fun y => .bool (decide ((⟨ix, te, ⟨vo, le⟩, da⟩ : Snap) = ⟨ix2, te2, ⟨vo2, le2⟩, da2⟩))) (fun y => True) (fun y => []) := by
  refine Spec.enter (vs := [_, _]) Try.func59 rfl Try.ntmps59 rfl (Nat.le_of_ble_eq_true rfl) (fun w0 ok0 => ?_)
  generalize hM0 : blks _ = M0
  have hMn : ∀ {R : List Atom} (b : Nat), M0 b → blks R b := fun b hb => absurd (hM0 ▸ hb) (blks_none (by simp [Atom.dat, Atom.elem]) b)
  refine H_len_le (i := 0) rfl ?_
  intro hlen0
  refine H_len_le (i := 1) rfl ?_
  intro hlen1
  refine H_len_le (i := 3) rfl ?_
  intro hlen3
  refine H_len_le (i := 4) rfl ?_
  intro hlen4
  refine H_seq ?_
  -- R0 ref.go:216
  refine H_region (l := [_, _, _]) rfl ?_
  refine HO_box (cs := [_, _, _, _, _]) rfl rfl rfl rfl ?_
  intro g2
  refine HO_box (cs := [_, _, _, _, _]) rfl rfl rfl rfl ?_
  intro g3
  refine HO_assign rfl rfl rfl ?_
  refine HO_nil ?_
  refine H_env (ρ' := [(3, _), (2, _)]) ⟨rfl, rfl, trivial⟩ ?_
  refine H_seq ?_
  -- R1 ref.go:217
  refine H_region (l := [_, _, _, _, _, _, _, _, _, _, _, _, _, _, _, _, _, _, _, _, _, _, _, _, _, _, _]) rfl ?_
  refine HO_fieldAddr (r := 0) rfl rfl rfl Try.underlying47 rfl Try.sizeOf3 rfl ?_
  refine HO_load1 (i := 1) (j := 0) rfl rfl rfl Try.isAgg3 rfl (.loc _ _ _) rfl rfl ?_
  refine HO_fieldAddr (r := 0) rfl rfl rfl Try.underlying47 rfl Try.sizeOf3 rfl ?_
  refine HO_load1 (i := 0) (j := 0) rfl rfl rfl Try.isAgg3 rfl (.loc _ _ _) rfl rfl ?_
  refine HO_bin rfl rfl rfl rfl bin_eql ?_
  refine HO_move rfl rfl rfl ?_
  refine HO_split (d := 10) rfl ?_ ?_
  · intro h10
    (try simp only [decide_eq_true_eq, decide_eq_false_iff_not, Bool.not_eq_true', Bool.not_eq_false', Bool.not_eq_true, Bool.not_eq_false, Bool.true_eq_false, Bool.false_eq_true, not_false_eq_true, not_true_eq_false] at h10)
    refine HO_fieldAddr (r := 1) rfl rfl rfl Try.underlying47 rfl Try.sizeOf3 rfl ?_
    refine HO_load1 (i := 1) (j := 1) rfl rfl rfl Try.isAgg3 rfl (.loc _ _ _) rfl rfl ?_
    refine HO_fieldAddr (r := 1) rfl rfl rfl Try.underlying47 rfl Try.sizeOf3 rfl ?_
    refine HO_load1 (i := 0) (j := 1) rfl rfl rfl Try.isAgg3 rfl (.loc _ _ _) rfl rfl ?_
    refine HO_bin rfl rfl rfl rfl bin_eql ?_
    refine HO_pick_t rfl rfl rfl rfl ?_
    refine HO_move rfl rfl rfl ?_
    refine HO_split (d := 17) rfl ?_ ?_
    · intro h17
      (try simp only [decide_eq_true_eq, decide_eq_false_iff_not, Bool.not_eq_true', Bool.not_eq_false', Bool.not_eq_true, Bool.not_eq_false, Bool.true_eq_false, Bool.false_eq_true, not_false_eq_true, not_true_eq_false] at h17)
      refine HO_fieldAddr (r := 2) rfl rfl rfl Try.underlying47 rfl Try.sizeOf45 rfl ?_
      refine HO_loadA (i := 1) (us := [_, _]) (cs := [_, _]) (ts := [_]) rfl rfl rfl Try.isAgg45 Try.sizeOf45 rfl (.loc _ _ _) rfl rfl rfl rfl ?_
      refine HO_fieldAddr (r := 2) rfl rfl rfl Try.underlying47 rfl Try.sizeOf45 rfl ?_
      refine HO_loadA (i := 0) (us := [_, _]) (cs := [_, _]) (ts := [_]) rfl rfl rfl Try.isAgg45 Try.sizeOf45 rfl (.loc _ _ _) rfl rfl rfl rfl ?_
      refine HO_dup (i := 2) rfl rfl ?_
      refine HO_dup (i := 4) rfl rfl ?_
      refine HO_dup (i := 7) rfl rfl ?_
      refine HO_dup (i := 9) rfl rfl ?_
      refine HO_call (first := []) (capt := []) (is := [0, 0, 0, 0]) (R := [_, _, _, _, _, _, _, _]) rfl rfl rfl rfl rfl Try.call48 rfl (rsameconf_spec _ _ _ _ _ _ _ _ _ _ _ _) ?_
      intro y22 hy22
      clear y22 hy22
      refine HO_pick_t rfl rfl rfl rfl ?_
      refine HO_move rfl rfl rfl ?_
      refine HO_split (d := 24) rfl ?_ ?_
      · intro h24
        (try simp only [decide_eq_true_eq, decide_eq_false_iff_not, Bool.not_eq_true', Bool.not_eq_false', Bool.not_eq_true, Bool.not_eq_false, Bool.true_eq_false, Bool.false_eq_true, not_false_eq_true, not_true_eq_false] at h24)
        refine HO_fieldAddr (r := 4) rfl rfl rfl Try.underlying47 rfl Try.sizeOf28 rfl ?_
        refine HO_load1 (i := 1) (j := 4) rfl rfl rfl Try.isAgg28 rfl (.loc _ _ _) rfl rfl ?_
        refine HO_fieldAddr (r := 4) rfl rfl rfl Try.underlying47 rfl Try.sizeOf28 rfl ?_
        refine HO_load1 (i := 0) (j := 4) rfl rfl rfl Try.isAgg28 rfl (.loc _ _ _) rfl rfl ?_
        refine HO_dup (i := 4) rfl rfl ?_
        refine HO_dup (i := 8) rfl rfl ?_
        refine HO_call (first := []) (capt := []) (is := [0, 0]) (R := [_, _, _, _, _, _, _, _]) rfl rfl rfl rfl rfl Try.call22 rfl (rsame_spec _ _ _ _ _ _) ?_
        intro y29 hy29
        clear y29 hy29
        refine HO_pick_t rfl rfl rfl rfl ?_
        refine HO_assign rfl rfl rfl ?_
        refine HO_nil ?_
        refine H_env (ρ' := [(4, _)]) ⟨rfl, trivial⟩ ?_
        refine H_world (fun _ hA => hA.drop (is := [0, 1, 2, 3, 4, 5, 6, 7]) (Y := [_, _, _, _, _, _, _, _]) (Z := []) rfl) ?_
        -- end1
        refine H_ret1 Try.results59 (.tmp rfl) (fun w hA => ⟨(), congrArg Ending.returned ?_, ?_, ?_⟩)
        · (exact congrArg Value.bool (by first | (simp [*]; done) | (simp_all; done) | (simp_all; intros; simp_all)))
        · trivial
        · exact hA.only (is := []) (Z := []) rfl
      · intro h24
        (try simp only [decide_eq_true_eq, decide_eq_false_iff_not, Bool.not_eq_true', Bool.not_eq_false', Bool.not_eq_true, Bool.not_eq_false, Bool.true_eq_false, Bool.false_eq_true, not_false_eq_true, not_true_eq_false] at h24)
        refine HO_no rfl rfl rfl ?_
        refine HO_no rfl rfl rfl ?_
        refine HO_no rfl rfl rfl ?_
        refine HO_no rfl rfl rfl ?_
        refine HO_no rfl rfl rfl ?_
        refine HO_pick_f rfl rfl rfl rfl ?_
        refine HO_assign rfl rfl rfl ?_
        refine HO_nil ?_
        refine H_env (ρ' := [(4, _)]) ⟨rfl, trivial⟩ ?_
        refine H_world (fun _ hA => hA.drop (is := [0, 1, 2, 3, 4, 5, 6, 7]) (Y := [_, _, _, _, _, _, _, _]) (Z := []) rfl) ?_
        -- end2
        refine H_ret1 Try.results59 (.tmp rfl) (fun w hA => ⟨(), congrArg Ending.returned ?_, ?_, ?_⟩)
        · (exact congrArg Value.bool (by first | (simp [*]; done) | (simp_all; done) | (simp_all; intros; simp_all)))
        · trivial
        · exact hA.only (is := []) (Z := []) rfl
    · intro h17
      (try simp only [decide_eq_true_eq, decide_eq_false_iff_not, Bool.not_eq_true', Bool.not_eq_false', Bool.not_eq_true, Bool.not_eq_false, Bool.true_eq_false, Bool.false_eq_true, not_false_eq_true, not_true_eq_false] at h17)
      refine HO_no rfl rfl rfl ?_
      refine HO_no rfl rfl rfl ?_
      refine HO_no rfl rfl rfl ?_
      refine HO_no rfl rfl rfl ?_
      refine HO_no rfl rfl rfl ?_
      refine HO_pick_f rfl rfl rfl rfl ?_
      refine HO_move rfl rfl rfl ?_
      refine HO_no rfl rfl rfl ?_
      refine HO_no rfl rfl rfl ?_
      refine HO_no rfl rfl rfl ?_
      refine HO_no rfl rfl rfl ?_
      refine HO_no rfl rfl rfl ?_
      refine HO_pick_f rfl rfl rfl rfl ?_
      refine HO_assign rfl rfl rfl ?_
      refine HO_nil ?_
      refine H_env (ρ' := [(4, _)]) ⟨rfl, trivial⟩ ?_
      refine H_world (fun _ hA => hA.drop (is := [0, 1, 2, 3, 4, 5, 6, 7]) (Y := [_, _, _, _, _, _, _, _]) (Z := []) rfl) ?_
      -- end3
      refine H_ret1 Try.results59 (.tmp rfl) (fun w hA => ⟨(), congrArg Ending.returned ?_, ?_, ?_⟩)
      · (exact congrArg Value.bool (by first | (simp [*]; done) | (simp_all; done) | (simp_all; intros; simp_all)))
      · trivial
      · exact hA.only (is := []) (Z := []) rfl
  · intro h10
    (try simp only [decide_eq_true_eq, decide_eq_false_iff_not, Bool.not_eq_true', Bool.not_eq_false', Bool.not_eq_true, Bool.not_eq_false, Bool.true_eq_false, Bool.false_eq_true, not_false_eq_true, not_true_eq_false] at h10)
    refine HO_no rfl rfl rfl ?_
    refine HO_no rfl rfl rfl ?_
    refine HO_no rfl rfl rfl ?_
    refine HO_no rfl rfl rfl ?_
    refine HO_no rfl rfl rfl ?_
    refine HO_pick_f rfl rfl rfl rfl ?_
    refine HO_move rfl rfl rfl ?_
    refine HO_no rfl rfl rfl ?_
    refine HO_no rfl rfl rfl ?_
    refine HO_no rfl rfl rfl ?_
    refine HO_no rfl rfl rfl ?_
    refine HO_no rfl rfl rfl ?_
    refine HO_pick_f rfl rfl rfl rfl ?_
    refine HO_move rfl rfl rfl ?_
    refine HO_no rfl rfl rfl ?_
    refine HO_no rfl rfl rfl ?_
    refine HO_no rfl rfl rfl ?_
    refine HO_no rfl rfl rfl ?_
    refine HO_no rfl rfl rfl ?_
    refine HO_pick_f rfl rfl rfl rfl ?_
    refine HO_assign rfl rfl rfl ?_
    refine HO_nil ?_
    refine H_env (ρ' := [(4, _)]) ⟨rfl, trivial⟩ ?_
    refine H_world (fun _ hA => hA.drop (is := [0, 1, 2, 3, 4, 5, 6, 7]) (Y := [_, _, _, _, _, _, _, _]) (Z := []) rfl) ?_
    -- end4
    refine H_ret1 Try.results59 (.tmp rfl) (fun w hA => ⟨(), congrArg Ending.returned ?_, ?_, ?_⟩)
    · (exact congrArg Value.bool (by first | (simp [*]; done) | (simp_all; done) | (simp_all; intros; simp_all)))
    · trivial
    · exact hA.only (is := []) (Z := []) rfl
set_option maxHeartbeats 1000000 in
theorem EntryReads_spec (b : List UInt8) (a : Option Addr) (c : Nat)  : Spec Try.prog 11 #[.slice a (b.length) c] [.dat kByte.sl (b) [.slice a (b.length) c]] (β := Unit) (fun y => .bool (true)) (fun y => True) (fun y => []) := by
  refine Spec.enter (vs := [_]) Try.func11 rfl Try.ntmps11 rfl (Nat.le_of_ble_eq_true rfl) (fun w0 ok0 => ?_)
  generalize hM0 : blks _ = M0
  have hMn : ∀ {R : List Atom} (b : Nat), M0 b → blks R b := fun b hb => absurd (hM0 ▸ hb) (blks_none (by simp [Atom.dat, Atom.elem]) b)
  refine H_seq ?_
  -- R0 law.go:44
  refine H_region (l := [_]) rfl ?_
  refine HO_assign rfl rfl rfl ?_
  refine HO_nil ?_
  refine H_env (ρ' := [(0, _)]) ⟨rfl, trivial⟩ ?_
  refine H_seq ?_
  refine H_seq ?_
  -- R1 law.go:45
  refine H_region (l := [_, _, _]) rfl ?_
  refine HO_move rfl rfl rfl ?_
  refine HO_bi rfl rfl rfl (bi_len_sl Try.underlying28) ?_
  refine HO_bin rfl rfl rfl rfl bin_gtr ?_
  refine HO_nil ?_
  refine H_env (ρ' := [(17, _), (0, _)]) ⟨rfl, rfl, trivial⟩ ?_
  refine H_cond rfl ?_ ?_
  · intro h17
    (try simp only [decide_eq_true_eq, decide_eq_false_iff_not, Bool.not_eq_true', Bool.not_eq_false', Bool.not_eq_true, Bool.not_eq_false, Bool.true_eq_false, Bool.false_eq_true, not_false_eq_true, not_true_eq_false] at h17)
    refine H_seq ?_
    -- R2 law.go:46
    refine H_region (l := [_, _]) rfl ?_
    refine HO_call (first := []) (capt := []) (is := []) (R := [_]) rfl rfl rfl rfl rfl Try.call31 rfl lives10_spec ?_
    intro y18 hy18
    clear y18 hy18
    refine HO_assign rfl rfl rfl ?_
    refine HO_nil ?_
    refine H_env (ρ' := [(2, _)]) ⟨rfl, trivial⟩ ?_
    refine H_world (fun _ hA => hA.drop (is := [0]) (Y := [_]) (Z := []) rfl) ?_
    -- end1
    refine H_ret1 Try.results11 (.tmp rfl) (fun w hA => ⟨(), congrArg Ending.returned ?_, ?_, ?_⟩)
    · (exact congrArg Value.bool (by first | rfl | assumption | simp_all))
    · trivial
    · exact hA.only (is := []) (Z := []) rfl
  · intro h17
    (try simp only [decide_eq_true_eq, decide_eq_false_iff_not, Bool.not_eq_true', Bool.not_eq_false', Bool.not_eq_true, Bool.not_eq_false, Bool.true_eq_false, Bool.false_eq_true, not_false_eq_true, not_true_eq_false] at h17)
    refine H_skip ?_
    refine H_seq ?_
    -- R3 law.go:48
    refine H_region (l := [_, _, _, _, _, _, _, _]) rfl ?_
    refine HO_move rfl rfl rfl ?_
    refine HO_dup (i := 0) rfl rfl ?_
    refine HO_call (first := []) (capt := []) (is := [0]) (R := [_]) rfl rfl rfl rfl rfl Try.call53 rfl (readent_spec _ _ _ ?_) ?_
    · (first | omega | assumption | decide)
    intro y21 hy21
    obtain ⟨e1, he1⟩ : ∃ e, Ent.read b = e := ⟨_, rfl⟩
    rw [he1]
    refine HO_move rfl rfl rfl ?_
    refine HO_extract (vs := [_, _]) rfl rfl rfl rfl ?_
    refine HO_extract (vs := [_, _]) rfl rfl rfl rfl ?_
    refine HO_alloc (cs := [_, _, _, _, _, _, _, _, _, _, _, _, _]) rfl rfl Try.zeroValue61 rfl ?_
    intro g3
    refine HO_store (i := 0) (j := 0) (us := []) (old := [_, _, _, _, _, _, _, _, _, _, _, _, _]) (ts := []) (cs := [_, _, _, _, _, _, _, _, _, _, _, _, _]) (R := [_, _, _]) (new := [_, _, _, _, _, _, _, _, _, _, _, _, _]) rfl rfl rfl Try.sizeOf61 rfl (by simp [Value.oneCell']) rfl rfl rfl rfl rfl rfl ?_
    refine HO_assign rfl rfl rfl ?_
    refine HO_nil ?_
    refine H_env (ρ' := [(4, _), (3, _), (0, _)]) ⟨rfl, rfl, rfl, trivial⟩ ?_
    refine H_seq ?_
    -- R4 law.go:49
    refine H_region (l := [_, _, _, _, _, _, _, _]) rfl ?_
    refine HO_move rfl rfl rfl ?_
    refine HO_dup (i := 3) rfl rfl ?_
    refine HO_call (first := []) (capt := []) (is := [0]) (R := [_, _, _, _]) rfl rfl rfl rfl rfl Try.call54 rfl (rreadentry_spec _ _ _ ?_) ?_
    · (first | omega | assumption | decide)
    intro y26 hy26
    rw [he1]
    refine HO_move rfl rfl rfl ?_
    refine HO_extract (vs := [_, _]) rfl rfl rfl rfl ?_
    refine HO_extract (vs := [_, _]) rfl rfl rfl rfl ?_
    refine HO_alloc (cs := [_, _, _, _, _, _, _, _, _, _, _, _, _]) rfl rfl Try.zeroValue61 rfl ?_
    intro g5
    refine HO_store (i := 0) (j := 0) (us := []) (old := [_, _, _, _, _, _, _, _, _, _, _, _, _]) (ts := []) (cs := [_, _, _, _, _, _, _, _, _, _, _, _, _]) (R := [_, _, _, _, _, _]) (new := [_, _, _, _, _, _, _, _, _, _, _, _, _]) rfl rfl rfl Try.sizeOf61 rfl (by simp [Value.oneCell']) rfl rfl rfl rfl rfl rfl ?_
    refine HO_assign rfl rfl rfl ?_
    refine HO_nil ?_
    refine H_env (ρ' := [(6, _), (5, _), (4, _), (3, _), (0, _)]) ⟨rfl, rfl, rfl, rfl, rfl, trivial⟩ ?_
    refine H_seq ?_
    -- R5 law.go:50
    refine H_region (l := [_, _, _, _, _, _, _, _]) rfl ?_
    refine HO_move rfl rfl rfl ?_
    refine HO_dup (i := 6) rfl rfl ?_
    refine HO_call (first := []) (capt := []) (is := [0]) (R := [_, _, _, _, _, _, _]) rfl rfl rfl rfl rfl Try.call55 rfl (readhard_spec _ _ _ ?_) ?_
    · (first | omega | assumption | decide)
    intro y31 hy31
    clear y31 hy31
    obtain ⟨e2, he2⟩ : ∃ e, Ent.readH b = e := ⟨_, rfl⟩
    rw [he2]
    refine HO_move rfl rfl rfl ?_
    refine HO_extract (vs := [_, _]) rfl rfl rfl rfl ?_
    refine HO_extract (vs := [_, _]) rfl rfl rfl rfl ?_
    refine HO_alloc (cs := [_, _, _]) rfl rfl Try.zeroValue49 rfl ?_
    intro g7
    refine HO_store (i := 0) (j := 0) (us := []) (old := [_, _, _]) (ts := []) (cs := [_, _, _]) (R := [_, _, _, _, _, _, _]) (new := [_, _, _]) rfl rfl rfl Try.sizeOf49 rfl (by simp [Value.oneCell']) rfl rfl rfl rfl rfl rfl ?_
    refine HO_assign rfl rfl rfl ?_
    refine HO_nil ?_
    refine H_env (ρ' := [(8, _), (7, _), (6, _), (5, _), (4, _), (3, _), (0, _)]) ⟨rfl, rfl, rfl, rfl, rfl, rfl, rfl, trivial⟩ ?_
    refine H_seq ?_
    -- R6 law.go:51
    refine H_region (l := [_, _, _, _, _, _, _, _]) rfl ?_
    refine HO_move rfl rfl rfl ?_
    refine HO_dup (i := 7) rfl rfl ?_
    refine HO_call (first := []) (capt := []) (is := [0]) (R := [_, _, _, _, _, _, _, _]) rfl rfl rfl rfl rfl Try.call56 rfl (rreadhard_spec _ _ _ ?_) ?_
    · (first | omega | assumption | decide)
    intro y36 hy36
    clear y36 hy36
    rw [he2]
    refine HO_move rfl rfl rfl ?_
    refine HO_extract (vs := [_, _]) rfl rfl rfl rfl ?_
    refine HO_extract (vs := [_, _]) rfl rfl rfl rfl ?_
    refine HO_alloc (cs := [_, _, _]) rfl rfl Try.zeroValue49 rfl ?_
    intro g9
    refine HO_store (i := 0) (j := 0) (us := []) (old := [_, _, _]) (ts := []) (cs := [_, _, _]) (R := [_, _, _, _, _, _, _, _]) (new := [_, _, _]) rfl rfl rfl Try.sizeOf49 rfl (by simp [Value.oneCell']) rfl rfl rfl rfl rfl rfl ?_
    refine HO_assign rfl rfl rfl ?_
    refine HO_nil ?_
    refine H_env (ρ' := [(10, _), (9, _), (8, _), (7, _), (6, _), (5, _), (4, _), (3, _), (0, _)]) ⟨rfl, rfl, rfl, rfl, rfl, rfl, rfl, rfl, rfl, trivial⟩ ?_
    refine H_seq ?_
    -- R7 law.go:52
    refine H_region (l := [_, _, _, _, _, _, _, _]) rfl ?_
    refine HO_move rfl rfl rfl ?_
    refine HO_dup (i := 8) rfl rfl ?_
    refine HO_call (first := []) (capt := []) (is := [0]) (R := [_, _, _, _, _, _, _, _, _]) rfl rfl rfl rfl rfl Try.call57 rfl (readsnap_spec _ _ _ ?_) ?_
    · (first | omega | assumption | decide)
    intro y41 hy41
    obtain ⟨e3, he3⟩ : ∃ e, Ent.readS b = e := ⟨_, rfl⟩
    rw [he3]
    refine HO_move rfl rfl rfl ?_
    refine HO_extract (vs := [_, _]) rfl rfl rfl rfl ?_
    refine HO_extract (vs := [_, _]) rfl rfl rfl rfl ?_
    refine HO_alloc (cs := [_, _, _, _, _]) rfl rfl Try.zeroValue47 rfl ?_
    intro g11
    refine HO_store (i := 0) (j := 0) (us := []) (old := [_, _, _, _, _]) (ts := []) (cs := [_, _, _, _, _]) (R := [_, _, _, _, _, _, _, _, _, _, _, _]) (new := [_, _, _, _, _]) rfl rfl rfl Try.sizeOf47 rfl (by simp [Value.oneCell']) rfl rfl rfl rfl rfl rfl ?_
    refine HO_assign rfl rfl rfl ?_
    refine HO_nil ?_
    refine H_env (ρ' := [(12, _), (11, _), (10, _), (9, _), (8, _), (7, _), (6, _), (5, _), (4, _), (3, _), (0, _)]) ⟨rfl, rfl, rfl, rfl, rfl, rfl, rfl, rfl, rfl, rfl, rfl, trivial⟩ ?_
    refine H_seq ?_
    -- R8 law.go:53
    refine H_region (l := [_, _, _, _, _, _, _, _]) rfl ?_
    refine HO_move rfl rfl rfl ?_
    refine HO_dup (i := 12) rfl rfl ?_
    refine HO_call (first := []) (capt := []) (is := [0]) (R := [_, _, _, _, _, _, _, _, _, _, _, _, _]) rfl rfl rfl rfl rfl Try.call58 rfl (rreadsnapshot_spec _ _ _ ?_) ?_
    · (first | omega | assumption | decide)
    intro y46 hy46
    rw [he3]
    refine HO_move rfl rfl rfl ?_
    refine HO_extract (vs := [_, _]) rfl rfl rfl rfl ?_
    refine HO_extract (vs := [_, _]) rfl rfl rfl rfl ?_
    refine HO_alloc (cs := [_, _, _, _, _]) rfl rfl Try.zeroValue47 rfl ?_
    intro g13
    refine HO_store (i := 0) (j := 0) (us := []) (old := [_, _, _, _, _]) (ts := []) (cs := [_, _, _, _, _]) (R := [_, _, _, _, _, _, _, _, _, _, _, _, _, _, _, _]) (new := [_, _, _, _, _]) rfl rfl rfl Try.sizeOf47 rfl (by simp [Value.oneCell']) rfl rfl rfl rfl rfl rfl ?_
    refine HO_assign rfl rfl rfl ?_
    refine HO_nil ?_
    refine H_env (ρ' := [(14, _), (13, _), (12, _), (11, _), (10, _), (9, _), (8, _), (7, _), (6, _), (5, _), (4, _), (3, _)]) ⟨rfl, rfl, rfl, rfl, rfl, rfl, rfl, rfl, rfl, rfl, rfl, rfl, trivial⟩ ?_
    refine H_world (fun _ hA => hA.drop (is := [16]) (Y := [_]) (Z := [_, _, _, _, _, _, _, _, _, _, _, _, _, _, _, _]) rfl) ?_
    refine H_seq ?_
    -- R9 law.go:54
    refine H_region (l := [_, _, _, _, _, _, _, _, _, _, _, _, _, _, _, _, _, _, _, _, _, _, _, _, _, _, _, _, _, _, _, _]) rfl ?_
    refine HO_loadA (i := 13) (us := []) (cs := [_, _, _, _, _, _, _, _, _, _, _, _, _]) (ts := []) rfl rfl rfl Try.isAgg61 Try.sizeOf61 rfl (.loc _ _ _) rfl rfl rfl rfl ?_
    refine HO_loadA (i := 10) (us := []) (cs := [_, _, _, _, _, _, _, _, _, _, _, _, _]) (ts := []) rfl rfl rfl Try.isAgg61 Try.sizeOf61 rfl (.loc _ _ _) rfl rfl rfl rfl ?_
    refine HO_dup (i := 14) rfl rfl ?_
    refine HO_dup (i := 16) rfl rfl ?_
    refine HO_dup (i := 13) rfl rfl ?_
    refine HO_dup (i := 15) rfl rfl ?_
    refine HO_call (first := []) (capt := []) (is := [0, 0, 0, 0]) (R := [_, _, _, _, _, _, _, _, _, _, _, _, _, _, _, _]) rfl rfl rfl rfl rfl Try.call47 rfl (rentsame_spec _ _ _ _ _ _ _ _ _ _ _ _ _ _ _ _ _ _ _ _ _ _ _ _ _ _ _ _ _ _ _ _ _ _) ?_
    intro y51 hy51
    clear y51 hy51
    refine HO_move rfl rfl rfl ?_
    refine HO_split (d := 52) rfl ?_ ?_
    · intro h52
      (try simp only [decide_eq_true_eq, decide_eq_false_iff_not, Bool.not_eq_true', Bool.not_eq_false', Bool.not_eq_true, Bool.not_eq_false, Bool.true_eq_false, Bool.false_eq_true, not_false_eq_true, not_true_eq_false] at h52)
      refine HO_move rfl rfl rfl ?_
      refine HO_move rfl rfl rfl ?_
      refine HO_bin rfl rfl rfl rfl bin_eql ?_
      refine HO_pick_t rfl rfl rfl rfl ?_
      refine HO_move rfl rfl rfl ?_
      refine HO_split (d := 57) rfl ?_ ?_
      · intro h57
        (try simp only [decide_eq_true_eq, decide_eq_false_iff_not, Bool.not_eq_true', Bool.not_eq_false', Bool.not_eq_true, Bool.not_eq_false, Bool.true_eq_false, Bool.false_eq_true, not_false_eq_true, not_true_eq_false] at h57)
        refine HO_loadA (i := 9) (us := []) (cs := [_, _, _]) (ts := []) rfl rfl rfl Try.isAgg49 Try.sizeOf49 rfl (.loc _ _ _) rfl rfl rfl rfl ?_
        refine HO_loadA (i := 8) (us := []) (cs := [_, _, _]) (ts := []) rfl rfl rfl Try.isAgg49 Try.sizeOf49 rfl (.loc _ _ _) rfl rfl rfl rfl ?_
        refine HO_bin rfl rfl rfl rfl eq49_eql ?_
        refine HO_pick_t rfl rfl rfl rfl ?_
        refine HO_move rfl rfl rfl ?_
        refine HO_split (d := 62) rfl ?_ ?_
        · intro h62
          (try simp only [decide_eq_true_eq, decide_eq_false_iff_not, Bool.not_eq_true', Bool.not_eq_false', Bool.not_eq_true, Bool.not_eq_false, Bool.true_eq_false, Bool.false_eq_true, not_false_eq_true, not_true_eq_false] at h62)
          refine HO_move rfl rfl rfl ?_
          refine HO_move rfl rfl rfl ?_
          refine HO_bin rfl rfl rfl rfl bin_eql ?_
          refine HO_pick_t rfl rfl rfl rfl ?_
          refine HO_move rfl rfl rfl ?_
          refine HO_split (d := 67) rfl ?_ ?_
          · intro h67
            (try simp only [decide_eq_true_eq, decide_eq_false_iff_not, Bool.not_eq_true', Bool.not_eq_false', Bool.not_eq_true, Bool.not_eq_false, Bool.true_eq_false, Bool.false_eq_true, not_false_eq_true, not_true_eq_false] at h67)
            refine HO_loadA (i := 4) (us := []) (cs := [_, _, _, _, _]) (ts := []) rfl rfl rfl Try.isAgg47 Try.sizeOf47 rfl (.loc _ _ _) rfl rfl rfl rfl ?_
            refine HO_loadA (i := 0) (us := []) (cs := [_, _, _, _, _]) (ts := []) rfl rfl rfl Try.isAgg47 Try.sizeOf47 rfl (.loc _ _ _) rfl rfl rfl rfl ?_
            refine HO_dup (i := 5) rfl rfl ?_
            refine HO_dup (i := 7) rfl rfl ?_
            refine HO_dup (i := 9) rfl rfl ?_
            refine HO_dup (i := 4) rfl rfl ?_
            refine HO_dup (i := 6) rfl rfl ?_
            refine HO_dup (i := 8) rfl rfl ?_
            refine HO_call (first := []) (capt := []) (is := [0, 0, 0, 0, 0, 0]) (R := [_, _, _, _, _, _, _, _, _, _, _, _, _, _, _, _]) rfl rfl rfl rfl rfl Try.call59 rfl (rsamesnap_spec _ _ _ _ _ _ _ _ _ _ _ _ _ _ _ _ _ _ _ _ _ _) ?_
            intro y70 hy70
            clear y70 hy70
            refine HO_pick_t rfl rfl rfl rfl ?_
            refine HO_move rfl rfl rfl ?_
            refine HO_split (d := 72) rfl ?_ ?_
            · intro h72
              (try simp only [decide_eq_true_eq, decide_eq_false_iff_not, Bool.not_eq_true', Bool.not_eq_false', Bool.not_eq_true, Bool.not_eq_false, Bool.true_eq_false, Bool.false_eq_true, not_false_eq_true, not_true_eq_false] at h72)
              refine HO_move rfl rfl rfl ?_
              refine HO_move rfl rfl rfl ?_
              refine HO_bin rfl rfl rfl rfl bin_eql ?_
              refine HO_pick_t rfl rfl rfl rfl ?_
              refine HO_move rfl rfl rfl ?_
              refine HO_split (d := 77) rfl ?_ ?_
              · intro h77
                (try simp only [decide_eq_true_eq, decide_eq_false_iff_not, Bool.not_eq_true', Bool.not_eq_false', Bool.not_eq_true, Bool.not_eq_false, Bool.true_eq_false, Bool.false_eq_true, not_false_eq_true, not_true_eq_false] at h77)
                refine HO_call (first := []) (capt := []) (is := []) (R := [_, _, _, _, _, _, _, _, _, _, _, _, _, _, _, _]) rfl rfl rfl rfl rfl Try.call31 rfl lives10_spec ?_
                intro y78 hy78
                clear y78 hy78
                refine HO_pick_t rfl rfl rfl rfl ?_
                refine HO_assign rfl rfl rfl ?_
                refine HO_nil ?_
                refine H_env (ρ' := [(2, _)]) ⟨rfl, trivial⟩ ?_
                refine H_world (fun _ hA => hA.drop (is := [0, 1, 2, 3, 4, 5, 6, 7, 8, 9, 10, 11, 12, 13, 14, 15]) (Y := [_, _, _, _, _, _, _, _, _, _, _, _, _, _, _, _]) (Z := []) rfl) ?_
                -- end2
                refine H_ret1 Try.results11 (.tmp rfl) (fun w hA => ⟨(), congrArg Ending.returned ?_, ?_, ?_⟩)
                · (exact congrArg Value.bool (by first | rfl | assumption | simp_all))
                · trivial
                · exact hA.only (is := []) (Z := []) rfl
              · intro h77
                (try simp only [decide_eq_true_eq, decide_eq_false_iff_not, Bool.not_eq_true', Bool.not_eq_false', Bool.not_eq_true, Bool.not_eq_false, Bool.true_eq_false, Bool.false_eq_true, not_false_eq_true, not_true_eq_false] at h77)
                all_goals (exact absurd rfl h77)
            · intro h72
              (try simp only [decide_eq_true_eq, decide_eq_false_iff_not, Bool.not_eq_true', Bool.not_eq_false', Bool.not_eq_true, Bool.not_eq_false, Bool.true_eq_false, Bool.false_eq_true, not_false_eq_true, not_true_eq_false] at h72)
              all_goals (exact absurd rfl h72)
          · intro h67
            (try simp only [decide_eq_true_eq, decide_eq_false_iff_not, Bool.not_eq_true', Bool.not_eq_false', Bool.not_eq_true, Bool.not_eq_false, Bool.true_eq_false, Bool.false_eq_true, not_false_eq_true, not_true_eq_false] at h67)
            all_goals (exact absurd rfl h67)
        · intro h62
          (try simp only [decide_eq_true_eq, decide_eq_false_iff_not, Bool.not_eq_true', Bool.not_eq_false', Bool.not_eq_true, Bool.not_eq_false, Bool.true_eq_false, Bool.false_eq_true, not_false_eq_true, not_true_eq_false] at h62)
          all_goals (exact absurd h62 (by simp))
      · intro h57
        (try simp only [decide_eq_true_eq, decide_eq_false_iff_not, Bool.not_eq_true', Bool.not_eq_false', Bool.not_eq_true, Bool.not_eq_false, Bool.true_eq_false, Bool.false_eq_true, not_false_eq_true, not_true_eq_false] at h57)
        all_goals (exact absurd rfl h57)
    · intro h52
      (try simp only [decide_eq_true_eq, decide_eq_false_iff_not, Bool.not_eq_true', Bool.not_eq_false', Bool.not_eq_true, Bool.not_eq_false, Bool.true_eq_false, Bool.false_eq_true, not_false_eq_true, not_true_eq_false] at h52)
      all_goals (exact absurd rfl h52)
end Go.Wk
