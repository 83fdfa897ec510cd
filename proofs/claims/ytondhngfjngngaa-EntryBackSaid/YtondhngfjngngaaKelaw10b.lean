/- Contracts of the program's functions, each proved by walking its code. -/
import Derived.Test.YtondhngfjngngaaKelaw10
import Derived.Test.YtondhngfjngngaaEnt2
import Derived.Test.YtondhngfjngngaaKeent3
set_option maxRecDepth 100000
set_option linter.unusedVariables false
set_option linter.unusedSimpArgs false
namespace Go.Wk.Flaw10b
open Go Go.RowKit Go.Proofs Go.Wk
theorem bd53_11_AiisssE {x2 : Int} {x3 : Int} {a4 : Option Addr} {n4 c4 : Nat} {a5 : Option Addr} {n5 c5 : Nat} {a6 : Option Addr} {n6 c6 : Nat} : ∀ w, (Instr.build 53 (List.toArray (List.zip [11] [.agg #[.int .i64 x2, .int .i64 x3, .slice a4 n4 c4, .slice a5 n5 c5, .slice a6 n6 c6]]))).run Try.prog w = .ok (.agg #[.int .i64 (0), .int .i64 (0), .int .i64 (0), .int .i64 (0), .int .i64 (0), .int .i64 (0), .int .i64 (0), .int .i64 (0), .bool (false), .int .i64 (0), .slice none 0 0, .int .i64 x2, .int .i64 x3, .slice a4 n4 c4, .slice a5 n5 c5, .slice a6 n6 c6]) w := fun _ => by kernel_rfl
theorem eq49_neq {x y : Operand} {a0 b0 : Int} {a1 b1 : Int} {a2 b2 : Int} : BinR Try.prog .neq 49 x y (.agg #[.int .i64 a0, .int .i64 a1, .int .i64 a2]) (.agg #[.int .i64 b0, .int .i64 b1, .int .i64 b2]) (.bool (!(decide (a0 = b0) && (decide (a1 = b1) && (decide (a2 = b2) && true))))) :=
  bin_nes_agg (by kernel_rfl) Try.underlying49 (by kernel_rfl) (fun w => (eqF_int (by decide) Try.underlying3 Try.isAgg3 rfl rfl (eqF_int (by decide) Try.underlying3 Try.isAgg3 rfl rfl (eqF_int (by decide) Try.underlying3 Try.isAgg3 rfl rfl eqF_nil))))
end Go.Wk.Flaw10b
namespace Go.Wk
open Go Go.RowKit Go.Proofs Flaw10b 
theorem rsamesnap_spec (ix te : Int) (vo le : List Int) (a1 : Option Addr) (c1 : Nat) (a2 : Option Addr) (c2 : Nat) (da : List UInt8) (a3 : Option Addr) (c3 : Nat) (ix2 te2 : Int) (vo2 le2 : List Int) (a12 : Option Addr) (c12 : Nat) (a22 : Option Addr) (c22 : Nat) (da2 : List UInt8) (a32 : Option Addr) (c32 : Nat)  : Spec Try.prog 59 #[.agg #[.int .i64 (ix), .int .i64 (te), .slice a1 (vo.length) c1, .slice a2 (le.length) c2, .slice a3 (da.length) c3], .agg #[.int .i64 (ix2), .int .i64 (te2), .slice a12 (vo2.length) c12, .slice a22 (le2.length) c22, .slice a32 (da2.length) c32]] [.dat kInt.sl (vo) [.slice a1 (vo.length) c1], .dat kInt.sl (le) [.slice a2 (le.length) c2], .dat kByte.sl (da) [.slice a3 (da.length) c3], .dat kInt.sl (vo2) [.slice a12 (vo2.length) c12], .dat kInt.sl (le2) [.slice a22 (le2.length) c22], .dat kByte.sl (da2) [.slice a32 (da2.length) c32]] (β := Unit) (fun y => .bool (decide ((⟨ix, te, ⟨vo, le⟩, da⟩ : Snap) = ⟨ix2, te2, ⟨vo2, le2⟩, da2⟩))) (fun y => True) (fun y => []) := by
  refine Spec.enter (vs := [_, _]) Try.func59 rfl Try.ntmps59 rfl (Nat.le_of_ble_eq_true rfl) (fun w0 ok0 => ?_)
  generalize hM0 : blks _ = M0
  have hMn : ∀ {R : List Atom} (b : Nat), M0 b → blks R b := fun b hb => absurd (hM0 ▸ hb) (blks_none (by simp [Atom.dat, Atom.elem]) b)
  refine H_len_le (i := 0) rfl ?_
  intro hlen0
  refine H_len_le (i := 1) rfl ?_
  intro hlen1
  refine H_len_le (i := 3) rfl ?_
  intro hlen3
  refine H_len_le (i := 4) rfl ?_
  intro hlen4
  refine H_seq ?_
  -- R0 ref.go:216
  refine H_region (l := [_, _, _]) rfl ?_
  refine HO_box (cs := [_, _, _, _, _]) rfl rfl rfl rfl ?_
  intro g2
  refine HO_box (cs := [_, _, _, _, _]) rfl rfl rfl rfl ?_
  intro g3
  refine HO_assign rfl rfl rfl ?_
  refine HO_nil ?_
  refine H_env (ρ' := [(3, _), (2, _)]) ⟨rfl, rfl, trivial⟩ ?_
  refine H_seq ?_
  -- R1 ref.go:217
  refine H_region (l := [_, _, _, _, _, _, _, _, _, _, _, _, _, _, _, _, _, _, _, _, _, _, _, _, _, _, _]) rfl ?_
  refine HO_fieldAddr (r := 0) rfl rfl rfl Try.underlying47 rfl Try.sizeOf3 rfl ?_
  refine HO_load1 (i := 1) (j := 0) rfl rfl rfl Try.isAgg3 rfl (.loc _ _ _) rfl rfl ?_
  refine HO_fieldAddr (r := 0) rfl rfl rfl Try.underlying47 rfl Try.sizeOf3 rfl ?_
  refine HO_load1 (i := 0) (j := 0) rfl rfl rfl Try.isAgg3 rfl (.loc _ _ _) rfl rfl ?_
  refine HO_bin rfl rfl rfl rfl bin_eql ?_
  refine HO_move rfl rfl rfl ?_
  refine HO_split (d := 10) rfl ?_ ?_
  · intro h10
    (try simp only [decide_eq_true_eq, decide_eq_false_iff_not, Bool.not_eq_true', Bool.not_eq_false', Bool.not_eq_true, Bool.not_eq_false, Bool.true_eq_false, Bool.false_eq_true, not_false_eq_true, not_true_eq_false] at h10)
    refine HO_fieldAddr (r := 1) rfl rfl rfl Try.underlying47 rfl Try.sizeOf3 rfl ?_
    refine HO_load1 (i := 1) (j := 1) rfl rfl rfl Try.isAgg3 rfl (.loc _ _ _) rfl rfl ?_
    refine HO_fieldAddr (r := 1) rfl rfl rfl Try.underlying47 rfl Try.sizeOf3 rfl ?_
    refine HO_load1 (i := 0) (j := 1) rfl rfl rfl Try.isAgg3 rfl (.loc _ _ _) rfl rfl ?_
    refine HO_bin rfl rfl rfl rfl bin_eql ?_
    refine HO_pick_t rfl rfl rfl rfl ?_
    refine HO_move rfl rfl rfl ?_
    refine HO_split (d := 17) rfl ?_ ?_
    · intro h17
      (try simp only [decide_eq_true_eq, decide_eq_false_iff_not, Bool.not_eq_true', Bool.not_eq_false', Bool.not_eq_true, Bool.not_eq_false, Bool.true_eq_false, Bool.false_eq_true, not_false_eq_true, not_true_eq_false] at h17)
      refine HO_fieldAddr (r := 2) rfl rfl rfl Try.underlying47 rfl Try.sizeOf45 rfl ?_
      refine HO_loadA (i := 1) (us := [_, _]) (cs := [_, _]) (ts := [_]) rfl rfl rfl Try.isAgg45 Try.sizeOf45 rfl (.loc _ _ _) rfl rfl rfl rfl ?_
      refine HO_fieldAddr (r := 2) rfl rfl rfl Try.underlying47 rfl Try.sizeOf45 rfl ?_
      refine HO_loadA (i := 0) (us := [_, _]) (cs := [_, _]) (ts := [_]) rfl rfl rfl Try.isAgg45 Try.sizeOf45 rfl (.loc _ _ _) rfl rfl rfl rfl ?_
      refine HO_dup (i := 2) rfl rfl ?_
      refine HO_dup (i := 4) rfl rfl ?_
      refine HO_dup (i := 7) rfl rfl ?_
      refine HO_dup (i := 9) rfl rfl ?_
      refine HO_call (first := []) (capt := []) (is := [0, 0, 0, 0]) (R := [_, _, _, _, _, _, _, _]) rfl rfl rfl rfl rfl Try.call48 rfl (rsameconf_spec _ _ _ _ _ _ _ _ _ _ _ _) ?_
      intro y22 hy22
      clear y22 hy22
      refine HO_pick_t rfl rfl rfl rfl ?_
      refine HO_move rfl rfl rfl ?_
      refine HO_split (d := 24) rfl ?_ ?_
      · intro h24
        (try simp only [decide_eq_true_eq, decide_eq_false_iff_not, Bool.not_eq_true', Bool.not_eq_false', Bool.not_eq_true, Bool.not_eq_false, Bool.true_eq_false, Bool.false_eq_true, not_false_eq_true, not_true_eq_false] at h24)
        refine HO_fieldAddr (r := 4) rfl rfl rfl Try.underlying47 rfl Try.sizeOf28 rfl ?_
        refine HO_load1 (i := 1) (j := 4) rfl rfl rfl Try.isAgg28 rfl (.loc _ _ _) rfl rfl ?_
        refine HO_fieldAddr (r := 4) rfl rfl rfl Try.underlying47 rfl Try.sizeOf28 rfl ?_
        refine HO_load1 (i := 0) (j := 4) rfl rfl rfl Try.isAgg28 rfl (.loc _ _ _) rfl rfl ?_
        refine HO_dup (i := 4) rfl rfl ?_
        refine HO_dup (i := 8) rfl rfl ?_
        refine HO_call (first := []) (capt := []) (is := [0, 0]) (R := [_, _, _, _, _, _, _, _]) rfl rfl rfl rfl rfl Try.call22 rfl (rsame_spec _ _ _ _ _ _) ?_
        intro y29 hy29
        clear y29 hy29
        refine HO_pick_t rfl rfl rfl rfl ?_
        refine HO_assign rfl rfl rfl ?_
        refine HO_nil ?_
        refine H_env (ρ' := [(4, _)]) ⟨rfl, trivial⟩ ?_
        refine H_world (fun _ hA => hA.drop (is := [0, 1, 2, 3, 4, 5, 6, 7]) (Y := [_, _, _, _, _, _, _, _]) (Z := []) rfl) ?_
        -- end1
        refine H_ret1 Try.results59 (.tmp rfl) (fun w hA => ⟨(), congrArg Ending.returned ?_, ?_, ?_⟩)
        · (exact congrArg Value.bool (by first | (simp [*]; done) | (simp_all; done) | (simp_all; intros; simp_all)))
        · trivial
        · exact hA.only (is := []) (Z := []) rfl
      · intro h24
        (try simp only [decide_eq_true_eq, decide_eq_false_iff_not, Bool.not_eq_true', Bool.not_eq_false', Bool.not_eq_true, Bool.not_eq_false, Bool.true_eq_false, Bool.false_eq_true, not_false_eq_true, not_true_eq_false] at h24)
        refine HO_no rfl rfl rfl ?_
        refine HO_no rfl rfl rfl ?_
        refine HO_no rfl rfl rfl ?_
        refine HO_no rfl rfl rfl ?_
        refine HO_no rfl rfl rfl ?_
        refine HO_pick_f rfl rfl rfl rfl ?_
        refine HO_assign rfl rfl rfl ?_
        refine HO_nil ?_
        refine H_env (ρ' := [(4, _)]) ⟨rfl, trivial⟩ ?_
        refine H_world (fun _ hA => hA.drop (is := [0, 1, 2, 3, 4, 5, 6, 7]) (Y := [_, _, _, _, _, _, _, _]) (Z := []) rfl) ?_
        -- end2
        refine H_ret1 Try.results59 (.tmp rfl) (fun w hA => ⟨(), congrArg Ending.returned ?_, ?_, ?_⟩)
        · (exact congrArg Value.bool (by first | (simp [*]; done) | (simp_all; done) | (simp_all; intros; simp_all)))
        · trivial
        · exact hA.only (is := []) (Z := []) rfl
    · intro h17
      (try simp only [decide_eq_true_eq, decide_eq_false_iff_not, Bool.not_eq_true', Bool.not_eq_false', Bool.not_eq_true, Bool.not_eq_false, Bool.true_eq_false, Bool.false_eq_true, not_false_eq_true, not_true_eq_false] at h17)
      refine HO_no rfl rfl rfl ?_
      refine HO_no rfl rfl rfl ?_
      refine HO_no rfl rfl rfl ?_
      refine HO_no rfl rfl rfl ?_
      refine HO_no rfl rfl rfl ?_
      refine HO_pick_f rfl rfl rfl rfl ?_
      refine HO_move rfl rfl rfl ?_
      refine HO_no rfl rfl rfl ?_
      refine HO_no rfl rfl rfl ?_
      refine HO_no rfl rfl rfl ?_
      refine HO_no rfl rfl rfl ?_
      refine HO_no rfl rfl rfl ?_
      refine HO_pick_f rfl rfl rfl rfl ?_
      refine HO_assign rfl rfl rfl ?_
      refine HO_nil ?_
      refine H_env (ρ' := [(4, _)]) ⟨rfl, trivial⟩ ?_
      refine H_world (fun _ hA => hA.drop (is := [0, 1, 2, 3, 4, 5, 6, 7]) (Y := [_, _, _, _, _, _, _, _]) (Z := []) rfl) ?_
      -- end3
      refine H_ret1 Try.results59 (.tmp rfl) (fun w hA => ⟨(), congrArg Ending.returned ?_, ?_, ?_⟩)
      · (exact congrArg Value.bool (by first | (simp [*]; done) | (simp_all; done) | (simp_all; intros; simp_all)))
      · trivial
      · exact hA.only (is := []) (Z := []) rfl
  · intro h10
    (try simp only [decide_eq_true_eq, decide_eq_false_iff_not, Bool.not_eq_true', Bool.not_eq_false', Bool.not_eq_true, Bool.not_eq_false, Bool.true_eq_false, Bool.false_eq_true, not_false_eq_true, not_true_eq_false] at h10)
    refine HO_no rfl rfl rfl ?_
    refine HO_no rfl rfl rfl ?_
    refine HO_no rfl rfl rfl ?_
    refine HO_no rfl rfl rfl ?_
    refine HO_no rfl rfl rfl ?_
    refine HO_pick_f rfl rfl rfl rfl ?_
    refine HO_move rfl rfl rfl ?_
    refine HO_no rfl rfl rfl ?_
    refine HO_no rfl rfl rfl ?_
    refine HO_no rfl rfl rfl ?_
    refine HO_no rfl rfl rfl ?_
    refine HO_no rfl rfl rfl ?_
    refine HO_pick_f rfl rfl rfl rfl ?_
    refine HO_move rfl rfl rfl ?_
    refine HO_no rfl rfl rfl ?_
    refine HO_no rfl rfl rfl ?_
    refine HO_no rfl rfl rfl ?_
    refine HO_no rfl rfl rfl ?_
    refine HO_no rfl rfl rfl ?_
    refine HO_pick_f rfl rfl rfl rfl ?_
    refine HO_assign rfl rfl rfl ?_
    refine HO_nil ?_
    refine H_env (ρ' := [(4, _)]) ⟨rfl, trivial⟩ ?_
    refine H_world (fun _ hA => hA.drop (is := [0, 1, 2, 3, 4, 5, 6, 7]) (Y := [_, _, _, _, _, _, _, _]) (Z := []) rfl) ?_
    -- end4
    refine H_ret1 Try.results59 (.tmp rfl) (fun w hA => ⟨(), congrArg Ending.returned ?_, ?_, ?_⟩)
    · (exact congrArg Value.bool (by first | (simp [*]; done) | (simp_all; done) | (simp_all; intros; simp_all)))
    · trivial
    · exact hA.only (is := []) (Z := []) rfl
set_option maxHeartbeats 1000000 in
theorem EntryBack_spec (ix te ki : Int) (ck cs sq : Int) (ke ol cv ti : ByteArray) (li : Int) (vo le : List Int) (a1 : Option Addr) (c1 : Nat) (a2 : Option Addr) (c2 : Nat) (ht hu hw : Int) (ix2 te2 : Int) (vo2 le2 : List Int) (a12 : Option Addr) (c12 : Nat) (a22 : Option Addr) (c22 : Nat) (da2 : List UInt8) (a32 : Option Addr) (c32 : Nat) (z0 : ke.size ≤ BIG) (z1 : ol.size ≤ BIG) (z2 : cv.size ≤ BIG) (z3 : ti.size ≤ BIG) (n1 : vo.length ≤ BIG) (n2 : le.length ≤ BIG) (hr : (-9223372036854775808 ≤ ix ∧ ix ≤ 9223372036854775807) ∧ (-9223372036854775808 ≤ te ∧ te ≤ 9223372036854775807) ∧ (-9223372036854775808 ≤ ki ∧ ki ≤ 9223372036854775807)) (hcw : Cmd.whole ⟨ck, cs, sq, ke, ol, cv, ti, li⟩) (rv : ∀ x ∈ vo, Ent.rng x) (rl : ∀ x ∈ le, Ent.rng x) (hh : (-9223372036854775808 ≤ ht ∧ ht ≤ 9223372036854775807) ∧ (-9223372036854775808 ≤ hu ∧ hu ≤ 9223372036854775807) ∧ (-9223372036854775808 ≤ hw ∧ hw ≤ 9223372036854775807)) (nd2 : da2.length ≤ BIG) (n12 : vo2.length ≤ BIG) (n22 : le2.length ≤ BIG) (hrs : (-9223372036854775808 ≤ ix2 ∧ ix2 ≤ 9223372036854775807) ∧ (-9223372036854775808 ≤ te2 ∧ te2 ≤ 9223372036854775807)) (rv2 : ∀ x ∈ vo2, Ent.rng x) (rl2 : ∀ x ∈ le2, Ent.rng x) : Spec Try.prog 12 #[.agg #[.int .i64 (ix), .int .i64 (te), .int .i64 (ki), .int .i64 (ck), .int .i64 (cs), .int .i64 (sq), .string (ke), .string (ol), .string (cv), .string (ti), .int .i64 (li), .slice a1 (vo.length) c1, .slice a2 (le.length) c2], .agg #[.int .i64 (ht), .int .i64 (hu), .int .i64 (hw)], .agg #[.int .i64 (ix2), .int .i64 (te2), .slice a12 (vo2.length) c12, .slice a22 (le2.length) c22, .slice a32 (da2.length) c32]] [.dat kInt.sl (vo) [.slice a1 (vo.length) c1], .dat kInt.sl (le) [.slice a2 (le.length) c2], .dat kInt.sl (vo2) [.slice a12 (vo2.length) c12], .dat kInt.sl (le2) [.slice a22 (le2.length) c22], .dat kByte.sl (da2) [.slice a32 (da2.length) c32]] (β := Unit) (fun y => .bool (true)) (fun y => True) (fun y => []) := by
  (try simp only [BIG] at z0 z1 z2 z3 n1 n2 nd2 n12 n22)
  refine Spec.enter (vs := [_, _, _]) Try.func12 rfl Try.ntmps12 rfl (Nat.le_of_ble_eq_true rfl) (fun w0 ok0 => ?_)
  generalize hM0 : blks _ = M0
  have hMn : ∀ {R : List Atom} (b : Nat), M0 b → blks R b := fun b hb => absurd (hM0 ▸ hb) (blks_none (by simp [Atom.dat, Atom.elem]) b)
  refine H_len_le (i := 0) rfl ?_
  intro hlen0
  refine H_len_le (i := 1) rfl ?_
  intro hlen1
  refine H_len_le (i := 2) rfl ?_
  intro hlen2
  refine H_len_le (i := 3) rfl ?_
  intro hlen3
  refine H_seq ?_
  -- R0 law.go:76
  refine H_region (l := [_, _, _, _]) rfl ?_
  refine HO_box (cs := [_, _, _, _, _, _, _, _, _, _, _, _, _]) rfl rfl rfl rfl ?_
  intro g3
  refine HO_box (cs := [_, _, _]) rfl rfl rfl rfl ?_
  intro g4
  refine HO_box (cs := [_, _, _, _, _]) rfl rfl rfl rfl ?_
  intro g5
  refine HO_assign rfl rfl rfl ?_
  refine HO_nil ?_
  refine H_env (ρ' := [(5, _), (4, _), (3, _)]) ⟨rfl, rfl, rfl, trivial⟩ ?_
  refine H_seq ?_
  refine H_seq ?_
  -- R1 law.go:77
  refine H_region (l := [_, _, _, _, _, _, _, _, _]) rfl ?_
  refine HO_loadA (i := 2) (us := []) (cs := [_, _, _, _, _, _, _, _, _, _, _, _, _]) (ts := []) rfl rfl rfl Try.isAgg61 Try.sizeOf61 rfl (.loc _ _ _) rfl rfl rfl rfl ?_
  refine HO_dup (i := 3) rfl rfl ?_
  refine HO_dup (i := 5) rfl rfl ?_
  refine HO_call (first := []) (capt := []) (is := [0, 0]) (R := [_, _, _, _, _, _, _, _]) rfl rfl rfl rfl rfl Try.call41 rfl (weight_spec _ _ _ _ _ _ _ _ _ _ _ _ _ _ _ _ _ ?_ ?_ ?_ ?_ ?_ ?_) ?_
  · (first | omega | assumption | decide)
  · (first | omega | assumption | decide)
  · (first | omega | assumption | decide)
  · (first | omega | assumption | decide)
  · (first | omega | assumption | decide)
  · (first | omega | assumption | decide)
  intro y14 hy14
  clear y14 hy14
  refine HO_bin rfl rfl rfl rfl bin_gtr ?_
  refine HO_move rfl rfl rfl ?_
  refine HO_split (d := 16) rfl ?_ ?_
  · intro h16
    (try simp only [decide_eq_true_eq, decide_eq_false_iff_not, Bool.not_eq_true', Bool.not_eq_false', Bool.not_eq_true, Bool.not_eq_false, Bool.true_eq_false, Bool.false_eq_true, not_false_eq_true, not_true_eq_false] at h16)
    refine HO_no rfl rfl rfl ?_
    refine HO_no rfl rfl rfl ?_
    refine HO_no rfl rfl rfl ?_
    refine HO_no rfl rfl rfl ?_
    refine HO_pick_t rfl rfl rfl rfl ?_
    refine HO_nil ?_
    refine H_env (ρ' := [(21, _), (5, _), (4, _), (3, _)]) ⟨rfl, rfl, rfl, rfl, trivial⟩ ?_
    refine H_cond rfl (fun _ => ?_) (fun h => nomatch h)
    refine H_seq ?_
    -- R2 law.go:78
    refine H_region (l := [_, _]) rfl ?_
    refine HO_call (first := []) (capt := []) (is := []) (R := [_, _, _, _, _, _, _, _]) rfl rfl rfl rfl rfl Try.call31 rfl lives10_spec ?_
    intro y22 hy22
    clear y22 hy22
    refine HO_assign rfl rfl rfl ?_
    refine HO_nil ?_
    refine H_env (ρ' := [(6, _)]) ⟨rfl, trivial⟩ ?_
    refine H_world (fun _ hA => hA.drop (is := [0, 1, 2, 3, 4, 5, 6, 7]) (Y := [_, _, _, _, _, _, _, _]) (Z := []) rfl) ?_
    -- end1
    refine H_ret1 Try.results12 (.tmp rfl) (fun w hA => ⟨(), congrArg Ending.returned ?_, ?_, ?_⟩)
    · (exact congrArg Value.bool (by first | rfl | assumption | simp_all))
    · trivial
    · exact hA.only (is := []) (Z := []) rfl
  · intro h16
    (try simp only [decide_eq_true_eq, decide_eq_false_iff_not, Bool.not_eq_true', Bool.not_eq_false', Bool.not_eq_true, Bool.not_eq_false, Bool.true_eq_false, Bool.false_eq_true, not_false_eq_true, not_true_eq_false] at h16)
    refine HO_loadA (i := 0) (us := []) (cs := [_, _, _, _, _]) (ts := []) rfl rfl rfl Try.isAgg47 Try.sizeOf47 rfl (.loc _ _ _) rfl rfl rfl rfl ?_
    refine HO_build (xo := [(11, _)]) (vs := [_]) rfl rfl rfl rfl (bd53_11_AiisssE) ?_
    refine HO_nilDat kEnt ?_
    refine HO_dup (i := 0) rfl rfl ?_
    refine HO_dup (i := 7) rfl rfl ?_
    refine HO_dup (i := 9) rfl rfl ?_
    refine HO_dup (i := 11) rfl rfl ?_
    refine HO_call (first := []) (capt := []) (is := [0, 0, 0, 0]) (R := [_, _, _, _, _, _, _, _, _]) rfl rfl rfl rfl rfl Try.call30 rfl (few10_spec _ _ _ _ _ _ _ _ _ _ _ _ _ _ _ _ _ _ _ _ _ _ _ _ ?_ ?_ ?_) ?_
    · (first | omega | assumption | decide)
    · (first | omega | assumption | decide)
    · (first | omega | assumption | decide)
    intro y19 hy19
    clear y19 hy19
    refine HO_not rfl rfl rfl ?_
    refine HO_pick_f rfl rfl rfl rfl ?_
    refine HO_nil ?_
    refine H_env (ρ' := [(21, _), (5, _), (4, _), (3, _)]) ⟨rfl, rfl, rfl, rfl, trivial⟩ ?_
    refine H_world (fun _ hA => hA.drop (is := [0]) (Y := [_]) (Z := [_, _, _, _, _, _, _, _]) rfl) ?_
    refine H_cond rfl ?_ ?_
    · intro h21
      (try simp only [decide_eq_true_eq, decide_eq_false_iff_not, Bool.not_eq_true', Bool.not_eq_false', Bool.not_eq_true, Bool.not_eq_false, Bool.true_eq_false, Bool.false_eq_true, not_false_eq_true, not_true_eq_false] at h21)
      refine H_seq ?_
      -- R2 law.go:78
      refine H_region (l := [_, _]) rfl ?_
      refine HO_call (first := []) (capt := []) (is := []) (R := [_, _, _, _, _, _, _, _]) rfl rfl rfl rfl rfl Try.call31 rfl lives10_spec ?_
      intro y22 hy22
      clear y22 hy22
      refine HO_assign rfl rfl rfl ?_
      refine HO_nil ?_
      refine H_env (ρ' := [(6, _)]) ⟨rfl, trivial⟩ ?_
      refine H_world (fun _ hA => hA.drop (is := [0, 1, 2, 3, 4, 5, 6, 7]) (Y := [_, _, _, _, _, _, _, _]) (Z := []) rfl) ?_
      -- end2
      refine H_ret1 Try.results12 (.tmp rfl) (fun w hA => ⟨(), congrArg Ending.returned ?_, ?_, ?_⟩)
      · (exact congrArg Value.bool (by first | rfl | assumption | simp_all))
      · trivial
      · exact hA.only (is := []) (Z := []) rfl
    · intro h21
      (try simp only [decide_eq_true_eq, decide_eq_false_iff_not, Bool.not_eq_true', Bool.not_eq_false', Bool.not_eq_true, Bool.not_eq_false, Bool.true_eq_false, Bool.false_eq_true, not_false_eq_true, not_true_eq_false] at h21)
      refine H_skip ?_
      refine H_seq ?_
      -- R3 law.go:80
      have hwz : ke.size + ol.size + cv.size + ti.size ≤ 9000 ∧ vo.length + le.length ≤ 1000 := by unfold Ent.weight at h16; dsimp only at h16; omega
      have hsz : da2.length ≤ 30000 ∧ vo2.length + le2.length ≤ 1000 := by unfold Ent.few Ent.fewS Ent.wsum at h21; simp at h21; omega
      have hs : Ent.sane ⟨ix, te, ki, ⟨ck, cs, sq, ke, ol, cv, ti, li⟩, ⟨vo, le⟩⟩ := ⟨hr.1, hr.2.1, hr.2.2, hcw, by dsimp only; omega, by dsimp only; omega, by dsimp only; omega, rv, rl⟩
      refine H_region (l := [_, _, _, _, _, _, _, _, _]) rfl ?_
      refine HO_loadA (i := 2) (us := []) (cs := [_, _, _, _, _, _, _, _, _, _, _, _, _]) (ts := []) rfl rfl rfl Try.isAgg61 Try.sizeOf61 rfl (.loc _ _ _) rfl rfl rfl rfl ?_
      refine HO_dup (i := 3) rfl rfl ?_
      refine HO_dup (i := 5) rfl rfl ?_
      refine HO_call (first := []) (capt := []) (is := [0, 0]) (R := [_, _, _, _, _, _, _, _]) rfl rfl rfl rfl rfl Try.call44 rfl (entbytes_spec _ _ _ _ _ _ _ _ _ _ _ _ _ _ _ _ _ ?_ ?_ ?_ ?_) ?_
      · omega
      · omega
      · omega
      · exact hr
      intro y25 hy25
      refine HO_dup (i := 0) rfl rfl ?_
      refine HO_call (first := []) (capt := []) (is := [0]) (R := [_, _, _, _, _, _, _, _, _]) rfl rfl rfl rfl rfl Try.call53 rfl (readent_spec _ _ _ ?_) ?_
      · (exact Nat.le_trans (Ent.ent_len (e := ⟨ix, te, ki, ⟨ck, cs, sq, ke, ol, cv, ti, li⟩, ⟨vo, le⟩⟩) (by dsimp only; omega) (by dsimp only; omega)) (by decide))
      intro y26 hy26
      obtain ⟨e1, he1⟩ : ∃ e, Ent.read (Ent.entB ⟨ix, te, ki, ⟨ck, cs, sq, ke, ol, cv, ti, li⟩, ⟨vo, le⟩⟩) = e := ⟨_, rfl⟩
      rw [he1]
      have he8 : e1.1.conf.vot.length ≤ BIG ∧ e1.1.conf.lea.length ≤ BIG := he1 ▸ Ent.read_sizes (Nat.le_trans (Ent.ent_len (e := ⟨ix, te, ki, ⟨ck, cs, sq, ke, ol, cv, ti, li⟩, ⟨vo, le⟩⟩) (by dsimp only; omega) (by dsimp only; omega)) (by decide))
      have hok1 : e1.2 = 0 → Ent.good e1.1 = true := fun h => he1 ▸ Ent.read_ok (he1 ▸ h)
      refine HO_move rfl rfl rfl ?_
      refine HO_extract (vs := [_, _]) rfl rfl rfl rfl ?_
      refine HO_extract (vs := [_, _]) rfl rfl rfl rfl ?_
      refine HO_alloc (cs := [_, _, _, _, _, _, _, _, _, _, _, _, _]) rfl rfl Try.zeroValue61 rfl ?_
      intro g7
      refine HO_store (i := 0) (j := 0) (us := []) (old := [_, _, _, _, _, _, _, _, _, _, _, _, _]) (ts := []) (cs := [_, _, _, _, _, _, _, _, _, _, _, _, _]) (R := [_, _, _, _, _, _, _, _, _, _, _]) (new := [_, _, _, _, _, _, _, _, _, _, _, _, _]) rfl rfl rfl Try.sizeOf61 rfl (by simp [Value.oneCell']) rfl rfl rfl rfl rfl rfl ?_
      refine HO_assign rfl rfl rfl ?_
      refine HO_nil ?_
      refine H_env (ρ' := [(8, _), (7, _), (5, _), (4, _), (3, _)]) ⟨rfl, rfl, rfl, rfl, rfl, trivial⟩ ?_
      refine H_world (fun _ hA => hA.drop (is := [3]) (Y := [_]) (Z := [_, _, _, _, _, _, _, _, _, _, _]) rfl) ?_
      refine H_seq ?_
      -- R4 law.go:81
      refine H_region (l := [_, _, _, _, _, _, _, _, _]) rfl ?_
      refine HO_loadA (i := 4) (us := []) (cs := [_, _, _]) (ts := []) rfl rfl rfl Try.isAgg49 Try.sizeOf49 rfl (.loc _ _ _) rfl rfl rfl rfl ?_
      refine HO_call (first := []) (capt := []) (is := []) (R := [_, _, _, _, _, _, _, _, _, _, _]) rfl rfl rfl rfl rfl Try.call36 rfl (hardbytes_spec _ _ _ ?_) ?_
      · exact hh
      intro y31 hy31
      refine HO_dup (i := 0) rfl rfl ?_
      refine HO_call (first := []) (capt := []) (is := [0]) (R := [_, _, _, _, _, _, _, _, _, _, _, _]) rfl rfl rfl rfl rfl Try.call55 rfl (readhard_spec _ _ _ ?_) ?_
      · (exact Nat.le_trans (Ent.hard_len ⟨ht, hu, hw⟩) (by decide))
      intro y32 hy32
      clear y32 hy32
      obtain ⟨e2, he2⟩ : ∃ e, Ent.readH (Ent.hardB ⟨ht, hu, hw⟩) = e := ⟨_, rfl⟩
      rw [he2]
      have hq2 := he2.symm.trans (Ent.readH_enc (h := ⟨ht, hu, hw⟩) hh.1 hh.2.1 hh.2.2)
      refine HO_move rfl rfl rfl ?_
      refine HO_extract (vs := [_, _]) rfl rfl rfl rfl ?_
      refine HO_extract (vs := [_, _]) rfl rfl rfl rfl ?_
      refine HO_alloc (cs := [_, _, _]) rfl rfl Try.zeroValue49 rfl ?_
      intro g9
      refine HO_store (i := 0) (j := 0) (us := []) (old := [_, _, _]) (ts := []) (cs := [_, _, _]) (R := [_, _, _, _, _, _, _, _, _, _, _, _]) (new := [_, _, _]) rfl rfl rfl Try.sizeOf49 rfl (by simp [Value.oneCell']) rfl rfl rfl rfl rfl rfl ?_
      refine HO_assign rfl rfl rfl ?_
      refine HO_nil ?_
      refine H_env (ρ' := [(10, _), (9, _), (8, _), (7, _), (5, _), (4, _), (3, _)]) ⟨rfl, rfl, rfl, rfl, rfl, rfl, rfl, trivial⟩ ?_
      refine H_world (fun _ hA => hA.drop (is := [1]) (Y := [_]) (Z := [_, _, _, _, _, _, _, _, _, _, _, _]) rfl) ?_
      refine H_seq ?_
      -- R5 law.go:82
      refine H_region (l := [_, _, _, _, _, _, _, _, _]) rfl ?_
      refine HO_loadA (i := 4) (us := []) (cs := [_, _, _, _, _]) (ts := []) rfl rfl rfl Try.isAgg47 Try.sizeOf47 rfl (.loc _ _ _) rfl rfl rfl rfl ?_
      refine HO_dup (i := 9) rfl rfl ?_
      refine HO_dup (i := 11) rfl rfl ?_
      refine HO_dup (i := 13) rfl rfl ?_
      refine HO_call (first := []) (capt := []) (is := [0, 0, 0]) (R := [_, _, _, _, _, _, _, _, _, _, _, _]) rfl rfl rfl rfl rfl Try.call34 rfl (snapbytes_spec _ _ _ _ _ _ _ _ _ _ _ ?_ ?_ ?_ ?_) ?_
      · omega
      · omega
      · omega
      · exact hrs
      intro y37 hy37
      refine HO_dup (i := 0) rfl rfl ?_
      refine HO_call (first := []) (capt := []) (is := [0]) (R := [_, _, _, _, _, _, _, _, _, _, _, _, _]) rfl rfl rfl rfl rfl Try.call57 rfl (readsnap_spec _ _ _ ?_) ?_
      · (exact Nat.le_trans (Ent.snap_len (s := ⟨ix2, te2, ⟨vo2, le2⟩, da2⟩) (by dsimp only; omega) (by dsimp only; omega)) (by decide))
      intro y38 hy38
      obtain ⟨e3, he3⟩ : ∃ e, Ent.readS (Ent.snapB ⟨ix2, te2, ⟨vo2, le2⟩, da2⟩) = e := ⟨_, rfl⟩
      rw [he3]
      have hq3 := he3.symm.trans (Ent.readS_enc (s := ⟨ix2, te2, ⟨vo2, le2⟩, da2⟩) hrs.1 hrs.2 (by dsimp only; omega) (by dsimp only; omega) rv2 rl2 (by dsimp only; omega))
      refine HO_move rfl rfl rfl ?_
      refine HO_extract (vs := [_, _]) rfl rfl rfl rfl ?_
      refine HO_extract (vs := [_, _]) rfl rfl rfl rfl ?_
      refine HO_alloc (cs := [_, _, _, _, _]) rfl rfl Try.zeroValue47 rfl ?_
      intro g11
      refine HO_store (i := 0) (j := 0) (us := []) (old := [_, _, _, _, _]) (ts := []) (cs := [_, _, _, _, _]) (R := [_, _, _, _, _, _, _, _, _, _, _, _, _, _, _, _]) (new := [_, _, _, _, _]) rfl rfl rfl Try.sizeOf47 rfl (by simp [Value.oneCell']) rfl rfl rfl rfl rfl rfl ?_
      refine HO_assign rfl rfl rfl ?_
      refine HO_nil ?_
      refine H_env (ρ' := [(12, _), (11, _), (10, _), (9, _), (8, _), (7, _), (5, _), (4, _), (3, _)]) ⟨rfl, rfl, rfl, rfl, rfl, rfl, rfl, rfl, rfl, trivial⟩ ?_
      refine H_world (fun _ hA => hA.drop (is := [4]) (Y := [_]) (Z := [_, _, _, _, _, _, _, _, _, _, _, _, _, _, _, _]) rfl) ?_
      refine H_seq ?_
      refine H_seq ?_
      -- R6 law.go:83
      refine H_region (l := [_, _, _, _, _, _, _, _, _, _, _, _, _, _, _, _, _, _, _, _, _]) rfl ?_
      refine HO_move rfl rfl rfl ?_
      refine HO_bin rfl rfl rfl rfl bin_eql ?_
      refine HO_move rfl rfl rfl ?_
      refine HO_split (d := 43) rfl ?_ ?_
      · intro h43
        (try simp only [decide_eq_true_eq, decide_eq_false_iff_not, Bool.not_eq_true', Bool.not_eq_false', Bool.not_eq_true, Bool.not_eq_false, Bool.true_eq_false, Bool.false_eq_true, not_false_eq_true, not_true_eq_false] at h43)
        refine HO_loadA (i := 5) (us := []) (cs := [_, _, _, _, _, _, _, _, _, _, _, _, _]) (ts := []) rfl rfl rfl Try.isAgg61 Try.sizeOf61 rfl (.loc _ _ _) rfl rfl rfl rfl ?_
        refine HO_dup (i := 6) rfl rfl ?_
        refine HO_dup (i := 8) rfl rfl ?_
        refine HO_call (first := []) (capt := []) (is := [0, 0]) (R := [_, _, _, _, _, _, _, _, _, _, _, _, _, _, _, _]) rfl rfl rfl rfl rfl Try.call39 rfl (entgood_spec _ _ _ _ _ _ _ _ _ _ _ _ _ _ _ _ _ ?_ ?_) ?_
        · exact he8.1
        · exact he8.2
        intro y45 hy45
        clear y45 hy45
        refine HO_not rfl rfl rfl ?_
        refine HO_pick_t rfl rfl rfl rfl ?_
        refine HO_move rfl rfl rfl ?_
        refine HO_split (d := 48) rfl ?_ ?_
        · intro h48
          (try simp only [decide_eq_true_eq, decide_eq_false_iff_not, Bool.not_eq_true', Bool.not_eq_false', Bool.not_eq_true, Bool.not_eq_false, Bool.true_eq_false, Bool.false_eq_true, not_false_eq_true, not_true_eq_false] at h48)
          (exact Bool.noConfusion (h48.symm.trans (hok1 h43)))
        · intro h48
          (try simp only [decide_eq_true_eq, decide_eq_false_iff_not, Bool.not_eq_true', Bool.not_eq_false', Bool.not_eq_true, Bool.not_eq_false, Bool.true_eq_false, Bool.false_eq_true, not_false_eq_true, not_true_eq_false] at h48)
          refine HO_loadA (i := 10) (us := []) (cs := [_, _, _, _, _, _, _, _, _, _, _, _, _]) (ts := []) rfl rfl rfl Try.isAgg61 Try.sizeOf61 rfl (.loc _ _ _) rfl rfl rfl rfl ?_
          refine HO_dup (i := 11) rfl rfl ?_
          refine HO_dup (i := 13) rfl rfl ?_
          refine HO_call (first := []) (capt := []) (is := [0, 0]) (R := [_, _, _, _, _, _, _, _, _, _, _, _, _, _, _, _]) rfl rfl rfl rfl rfl Try.call39 rfl (entgood_spec _ _ _ _ _ _ _ _ _ _ _ _ _ _ _ _ _ ?_ ?_) ?_
          · (first | omega | assumption | decide)
          · (first | omega | assumption | decide)
          intro y50 hy50
          clear y50 hy50
          refine HO_move rfl rfl rfl ?_
          refine HO_split (d := 51) rfl ?_ ?_
          · intro h51
            (try simp only [decide_eq_true_eq, decide_eq_false_iff_not, Bool.not_eq_true', Bool.not_eq_false', Bool.not_eq_true, Bool.not_eq_false, Bool.true_eq_false, Bool.false_eq_true, not_false_eq_true, not_true_eq_false] at h51)
            refine HO_move rfl rfl rfl ?_
            refine HO_bin rfl rfl rfl rfl bin_neq ?_
            refine HO_move rfl rfl rfl ?_
            refine HO_split (d := 54) rfl ?_ ?_
            · intro h54
              (try simp only [decide_eq_true_eq, decide_eq_false_iff_not, Bool.not_eq_true', Bool.not_eq_false', Bool.not_eq_true, Bool.not_eq_false, Bool.true_eq_false, Bool.false_eq_true, not_false_eq_true, not_true_eq_false] at h54)
              (exact absurd (congrArg Prod.snd (he1.symm.trans (Ent.read_enc hs h51))) h54)
            · intro h54
              (try simp only [decide_eq_true_eq, decide_eq_false_iff_not, Bool.not_eq_true', Bool.not_eq_false', Bool.not_eq_true, Bool.not_eq_false, Bool.true_eq_false, Bool.false_eq_true, not_false_eq_true, not_true_eq_false] at h54)
              refine HO_loadA (i := 5) (us := []) (cs := [_, _, _, _, _, _, _, _, _, _, _, _, _]) (ts := []) rfl rfl rfl Try.isAgg61 Try.sizeOf61 rfl (.loc _ _ _) rfl rfl rfl rfl ?_
              refine HO_loadA (i := 10) (us := []) (cs := [_, _, _, _, _, _, _, _, _, _, _, _, _]) (ts := []) rfl rfl rfl Try.isAgg61 Try.sizeOf61 rfl (.loc _ _ _) rfl rfl rfl rfl ?_
              refine HO_dup (i := 6) rfl rfl ?_
              refine HO_dup (i := 8) rfl rfl ?_
              refine HO_dup (i := 13) rfl rfl ?_
              refine HO_dup (i := 15) rfl rfl ?_
              refine HO_call (first := []) (capt := []) (is := [0, 0, 0, 0]) (R := [_, _, _, _, _, _, _, _, _, _, _, _, _, _, _, _]) rfl rfl rfl rfl rfl Try.call46 rfl (entsame_spec _ _ _ _ _ _ _ _ _ _ _ _ _ _ _ _ _ _ _ _ _ _ _ _ _ _ _ _ _ _ _ _ _ _) ?_
              intro y57 hy57
              clear y57 hy57
              refine HO_not rfl rfl rfl ?_
              refine HO_pick_f rfl rfl rfl rfl ?_
              refine HO_pick_t rfl rfl rfl rfl ?_
              refine HO_pick_f rfl rfl rfl rfl ?_
              refine HO_nil ?_
              refine H_env (ρ' := [(61, _), (12, _), (11, _), (10, _), (9, _), (5, _), (4, _)]) ⟨rfl, rfl, rfl, rfl, rfl, rfl, rfl, trivial⟩ ?_
              refine H_world (fun _ hA => hA.drop (is := [5, 6, 7, 10, 11, 12]) (Y := [_, _, _, _, _, _]) (Z := [_, _, _, _, _, _, _, _, _, _]) rfl) ?_
              refine H_cond rfl ?_ ?_
              · intro h61
                (try simp only [decide_eq_true_eq, decide_eq_false_iff_not, Bool.not_eq_true', Bool.not_eq_false', Bool.not_eq_true, Bool.not_eq_false, Bool.true_eq_false, Bool.false_eq_true, not_false_eq_true, not_true_eq_false] at h61)
                (exact absurd (congrArg Prod.fst (he1.symm.trans (Ent.read_enc hs h51))) h61)
              · intro h61
                (try simp only [decide_eq_true_eq, decide_eq_false_iff_not, Bool.not_eq_true', Bool.not_eq_false', Bool.not_eq_true, Bool.not_eq_false, Bool.true_eq_false, Bool.false_eq_true, not_false_eq_true, not_true_eq_false] at h61)
                refine H_skip ?_
                refine H_seq ?_
                refine H_seq ?_
                -- R8 law.go:86
                refine H_region (l := [_, _, _, _, _, _, _, _, _, _, _, _, _, _, _, _, _, _, _, _, _, _, _, _, _]) rfl ?_
                refine HO_move rfl rfl rfl ?_
                refine HO_bin rfl rfl rfl rfl bin_eql ?_
                refine HO_fieldAddr (r := 0) rfl rfl rfl Try.underlying49 rfl Try.sizeOf3 rfl ?_
                refine HO_load1 (i := 6) (j := 0) rfl rfl rfl Try.isAgg3 rfl (.loc _ _ _) rfl rfl ?_
                refine HO_bin rfl rfl rfl rfl bin_geq ?_
                refine HO_move rfl rfl rfl ?_
                refine HO_split (d := 67) rfl ?_ ?_
                · intro h67
                  (try simp only [decide_eq_true_eq, decide_eq_false_iff_not, Bool.not_eq_true', Bool.not_eq_false', Bool.not_eq_true, Bool.not_eq_false, Bool.true_eq_false, Bool.false_eq_true, not_false_eq_true, not_true_eq_false] at h67)
                  refine HO_fieldAddr (r := 1) rfl rfl rfl Try.underlying49 rfl Try.sizeOf3 rfl ?_
                  refine HO_load1 (i := 6) (j := 1) rfl rfl rfl Try.isAgg3 rfl (.loc _ _ _) rfl rfl ?_
                  refine HO_bin rfl rfl rfl rfl bin_geq ?_
                  refine HO_pick_t rfl rfl rfl rfl ?_
                  refine HO_move rfl rfl rfl ?_
                  refine HO_split (d := 72) rfl ?_ ?_
                  · intro h72
                    (try simp only [decide_eq_true_eq, decide_eq_false_iff_not, Bool.not_eq_true', Bool.not_eq_false', Bool.not_eq_true, Bool.not_eq_false, Bool.true_eq_false, Bool.false_eq_true, not_false_eq_true, not_true_eq_false] at h72)
                    refine HO_fieldAddr (r := 2) rfl rfl rfl Try.underlying49 rfl Try.sizeOf3 rfl ?_
                    refine HO_load1 (i := 6) (j := 2) rfl rfl rfl Try.isAgg3 rfl (.loc _ _ _) rfl rfl ?_
                    refine HO_bin rfl rfl rfl rfl bin_geq ?_
                    refine HO_pick_t rfl rfl rfl rfl ?_
                    refine HO_bin rfl rfl rfl rfl (bin_neb Try.runUnderlying4) ?_
                    refine HO_move rfl rfl rfl ?_
                    refine HO_split (d := 78) rfl ?_ ?_
                    · intro h78
                      (try simp only [decide_eq_true_eq, decide_eq_false_iff_not, Bool.not_eq_true', Bool.not_eq_false', Bool.not_eq_true, Bool.not_eq_false, Bool.true_eq_false, Bool.false_eq_true, not_false_eq_true, not_true_eq_false] at h78)
                      (exfalso; revert h78; rw [hq2]; by_cases hg : Ent.goodH ⟨ht, hu, hw⟩ = true <;> simp [hg] <;> simp_all [Ent.goodH] <;> omega)
                    · intro h78
                      (try simp only [decide_eq_true_eq, decide_eq_false_iff_not, Bool.not_eq_true', Bool.not_eq_false', Bool.not_eq_true, Bool.not_eq_false, Bool.true_eq_false, Bool.false_eq_true, not_false_eq_true, not_true_eq_false] at h78)
                      refine HO_move rfl rfl rfl ?_
                      refine HO_bin rfl rfl rfl rfl bin_eql ?_
                      refine HO_move rfl rfl rfl ?_
                      refine HO_split (d := 81) rfl ?_ ?_
                      · intro h81
                        (try simp only [decide_eq_true_eq, decide_eq_false_iff_not, Bool.not_eq_true', Bool.not_eq_false', Bool.not_eq_true, Bool.not_eq_false, Bool.true_eq_false, Bool.false_eq_true, not_false_eq_true, not_true_eq_false] at h81)
                        refine HO_loadA (i := 4) (us := []) (cs := [_, _, _]) (ts := []) rfl rfl rfl Try.isAgg49 Try.sizeOf49 rfl (.loc _ _ _) rfl rfl rfl rfl ?_
                        refine HO_loadA (i := 6) (us := []) (cs := [_, _, _]) (ts := []) rfl rfl rfl Try.isAgg49 Try.sizeOf49 rfl (.loc _ _ _) rfl rfl rfl rfl ?_
                        refine HO_bin rfl rfl rfl rfl eq49_neq ?_
                        refine HO_pick_t rfl rfl rfl rfl ?_
                        refine HO_pick_f rfl rfl rfl rfl ?_
                        refine HO_nil ?_
                        refine H_env (ρ' := [(86, _), (12, _), (11, _), (5, _)]) ⟨rfl, rfl, rfl, rfl, trivial⟩ ?_
                        refine H_world (fun _ hA => hA.drop (is := [4, 6]) (Y := [_, _]) (Z := [_, _, _, _, _, _, _, _]) rfl) ?_
                        refine H_cond rfl ?_ ?_
                        · intro h86
                          (try simp only [decide_eq_true_eq, decide_eq_false_iff_not, Bool.not_eq_true', Bool.not_eq_false', Bool.not_eq_true, Bool.not_eq_false, Bool.true_eq_false, Bool.false_eq_true, not_false_eq_true, not_true_eq_false] at h86)
                          (exfalso; rw [hq2] at h81 h86; by_cases hg : Ent.goodH ⟨ht, hu, hw⟩ = true <;> simp [hg] at h81 h86)
                        · intro h86
                          (try simp only [decide_eq_true_eq, decide_eq_false_iff_not, Bool.not_eq_true', Bool.not_eq_false', Bool.not_eq_true, Bool.not_eq_false, Bool.true_eq_false, Bool.false_eq_true, not_false_eq_true, not_true_eq_false] at h86)
                          refine H_skip ?_
                          refine H_seq ?_
                          -- R10 law.go:89
                          refine H_region (l := [_, _, _, _, _, _, _, _, _, _, _, _, _, _, _, _, _, _]) rfl ?_
                          refine HO_loadA (i := 4) (us := []) (cs := [_, _, _, _, _]) (ts := []) rfl rfl rfl Try.isAgg47 Try.sizeOf47 rfl (.loc _ _ _) rfl rfl rfl rfl ?_
                          refine HO_dup (i := 5) rfl rfl ?_
                          refine HO_dup (i := 7) rfl rfl ?_
                          refine HO_dup (i := 9) rfl rfl ?_
                          refine HO_call (first := []) (capt := []) (is := [0, 0, 0]) (R := [_, _, _, _, _, _, _, _]) rfl rfl rfl rfl rfl Try.call32 rfl (goodsnap_spec _ _ _ _ _ _ _ _ _ _ _) ?_
                          intro y88 hy88
                          clear y88 hy88
                          refine HO_move rfl rfl rfl ?_
                          refine HO_bin rfl rfl rfl rfl bin_eql ?_
                          refine HO_bin rfl rfl rfl rfl (bin_eqb Try.runUnderlying4) ?_
                          refine HO_move rfl rfl rfl ?_
                          refine HO_split (d := 92) rfl ?_ ?_
                          · intro h92
                            (try simp only [decide_eq_true_eq, decide_eq_false_iff_not, Bool.not_eq_true', Bool.not_eq_false', Bool.not_eq_true, Bool.not_eq_false, Bool.true_eq_false, Bool.false_eq_true, not_false_eq_true, not_true_eq_false] at h92)
                            refine HO_move rfl rfl rfl ?_
                            refine HO_bin rfl rfl rfl rfl bin_neq ?_
                            refine HO_move rfl rfl rfl ?_
                            refine HO_split (d := 95) rfl ?_ ?_
                            · intro h95
                              (try simp only [decide_eq_true_eq, decide_eq_false_iff_not, Bool.not_eq_true', Bool.not_eq_false', Bool.not_eq_true, Bool.not_eq_false, Bool.true_eq_false, Bool.false_eq_true, not_false_eq_true, not_true_eq_false] at h95)
                              refine HO_no rfl rfl rfl ?_
                              refine HO_no rfl rfl rfl ?_
                              refine HO_no rfl rfl rfl ?_
                              refine HO_pick_t rfl rfl rfl rfl ?_
                              refine HO_pick_t rfl rfl rfl rfl ?_
                              refine HO_move rfl rfl rfl ?_
                              refine HO_call (first := []) (capt := []) (is := []) (R := [_, _, _, _, _, _, _, _]) rfl rfl rfl rfl rfl Try.call31 rfl lives10_spec ?_
                              intro y102 hy102
                              clear y102 hy102
                              refine HO_pick_t rfl rfl rfl rfl ?_
                              refine HO_assign rfl rfl rfl ?_
                              refine HO_nil ?_
                              refine H_env (ρ' := [(6, _)]) ⟨rfl, trivial⟩ ?_
                              refine H_world (fun _ hA => hA.drop (is := [0, 1, 2, 3, 4, 5, 6, 7]) (Y := [_, _, _, _, _, _, _, _]) (Z := []) rfl) ?_
                              -- end3
                              refine H_ret1 Try.results12 (.tmp rfl) (fun w hA => ⟨(), congrArg Ending.returned ?_, ?_, ?_⟩)
                              · (exact congrArg Value.bool (by first | rfl | assumption | simp_all))
                              · trivial
                              · exact hA.only (is := []) (Z := []) rfl
                            · intro h95
                              (try simp only [decide_eq_true_eq, decide_eq_false_iff_not, Bool.not_eq_true', Bool.not_eq_false', Bool.not_eq_true, Bool.not_eq_false, Bool.true_eq_false, Bool.false_eq_true, not_false_eq_true, not_true_eq_false] at h95)
                              refine HO_loadA (i := 0) (us := []) (cs := [_, _, _, _, _]) (ts := []) rfl rfl rfl Try.isAgg47 Try.sizeOf47 rfl (.loc _ _ _) rfl rfl rfl rfl ?_
                              refine HO_loadA (i := 4) (us := []) (cs := [_, _, _, _, _]) (ts := []) rfl rfl rfl Try.isAgg47 Try.sizeOf47 rfl (.loc _ _ _) rfl rfl rfl rfl ?_
                              refine HO_dup (i := 1) rfl rfl ?_
                              refine HO_dup (i := 3) rfl rfl ?_
                              refine HO_dup (i := 5) rfl rfl ?_
                              refine HO_dup (i := 8) rfl rfl ?_
                              refine HO_dup (i := 10) rfl rfl ?_
                              refine HO_dup (i := 12) rfl rfl ?_
                              refine HO_call (first := []) (capt := []) (is := [0, 0, 0, 0, 0, 0]) (R := [_, _, _, _, _, _, _, _]) rfl rfl rfl rfl rfl Try.call59 rfl (rsamesnap_spec _ _ _ _ _ _ _ _ _ _ _ _ _ _ _ _ _ _ _ _ _ _) ?_
                              intro y98 hy98
                              clear y98 hy98
                              refine HO_pick_f rfl rfl rfl rfl ?_
                              refine HO_pick_t rfl rfl rfl rfl ?_
                              refine HO_move rfl rfl rfl ?_
                              refine HO_split (d := 101) rfl ?_ ?_
                              · intro h101
                                (try simp only [decide_eq_true_eq, decide_eq_false_iff_not, Bool.not_eq_true', Bool.not_eq_false', Bool.not_eq_true, Bool.not_eq_false, Bool.true_eq_false, Bool.false_eq_true, not_false_eq_true, not_true_eq_false] at h101)
                                refine HO_call (first := []) (capt := []) (is := []) (R := [_, _, _, _, _, _, _, _]) rfl rfl rfl rfl rfl Try.call31 rfl lives10_spec ?_
                                intro y102 hy102
                                clear y102 hy102
                                refine HO_pick_t rfl rfl rfl rfl ?_
                                refine HO_assign rfl rfl rfl ?_
                                refine HO_nil ?_
                                refine H_env (ρ' := [(6, _)]) ⟨rfl, trivial⟩ ?_
                                refine H_world (fun _ hA => hA.drop (is := [0, 1, 2, 3, 4, 5, 6, 7]) (Y := [_, _, _, _, _, _, _, _]) (Z := []) rfl) ?_
                                -- end4
                                refine H_ret1 Try.results12 (.tmp rfl) (fun w hA => ⟨(), congrArg Ending.returned ?_, ?_, ?_⟩)
                                · (exact congrArg Value.bool (by first | rfl | assumption | simp_all))
                                · trivial
                                · exact hA.only (is := []) (Z := []) rfl
                              · intro h101
                                (try simp only [decide_eq_true_eq, decide_eq_false_iff_not, Bool.not_eq_true', Bool.not_eq_false', Bool.not_eq_true, Bool.not_eq_false, Bool.true_eq_false, Bool.false_eq_true, not_false_eq_true, not_true_eq_false] at h101)
                                (exfalso; rw [hq3] at h95 h101; by_cases hg : Ent.goodSnap ⟨ix2, te2, ⟨vo2, le2⟩, da2⟩ = true <;> simp [hg] at h95 h101)
                          · intro h92
                            (try simp only [decide_eq_true_eq, decide_eq_false_iff_not, Bool.not_eq_true', Bool.not_eq_false', Bool.not_eq_true, Bool.not_eq_false, Bool.true_eq_false, Bool.false_eq_true, not_false_eq_true, not_true_eq_false] at h92)
                            (exfalso; rw [hq3] at h92; by_cases hg : Ent.goodSnap ⟨ix2, te2, ⟨vo2, le2⟩, da2⟩ = true <;> simp [hg] at h92)
                      · intro h81
                        (try simp only [decide_eq_true_eq, decide_eq_false_iff_not, Bool.not_eq_true', Bool.not_eq_false', Bool.not_eq_true, Bool.not_eq_false, Bool.true_eq_false, Bool.false_eq_true, not_false_eq_true, not_true_eq_false] at h81)
                        refine HO_no rfl rfl rfl ?_
                        refine HO_no rfl rfl rfl ?_
                        refine HO_no rfl rfl rfl ?_
                        refine HO_pick_f rfl rfl rfl rfl ?_
                        refine HO_pick_f rfl rfl rfl rfl ?_
                        refine HO_nil ?_
                        refine H_env (ρ' := [(86, _), (12, _), (11, _), (5, _)]) ⟨rfl, rfl, rfl, rfl, trivial⟩ ?_
                        refine H_world (fun _ hA => hA.drop (is := [4, 6]) (Y := [_, _]) (Z := [_, _, _, _, _, _, _, _]) rfl) ?_
                        refine H_cond rfl (fun h => nomatch h) (fun _ => ?_)
                        refine H_skip ?_
                        refine H_seq ?_
                        -- R10 law.go:89
                        refine H_region (l := [_, _, _, _, _, _, _, _, _, _, _, _, _, _, _, _, _, _]) rfl ?_
                        refine HO_loadA (i := 4) (us := []) (cs := [_, _, _, _, _]) (ts := []) rfl rfl rfl Try.isAgg47 Try.sizeOf47 rfl (.loc _ _ _) rfl rfl rfl rfl ?_
                        refine HO_dup (i := 5) rfl rfl ?_
                        refine HO_dup (i := 7) rfl rfl ?_
                        refine HO_dup (i := 9) rfl rfl ?_
                        refine HO_call (first := []) (capt := []) (is := [0, 0, 0]) (R := [_, _, _, _, _, _, _, _]) rfl rfl rfl rfl rfl Try.call32 rfl (goodsnap_spec _ _ _ _ _ _ _ _ _ _ _) ?_
                        intro y88 hy88
                        clear y88 hy88
                        refine HO_move rfl rfl rfl ?_
                        refine HO_bin rfl rfl rfl rfl bin_eql ?_
                        refine HO_bin rfl rfl rfl rfl (bin_eqb Try.runUnderlying4) ?_
                        refine HO_move rfl rfl rfl ?_
                        refine HO_split (d := 92) rfl ?_ ?_
                        · intro h92
                          (try simp only [decide_eq_true_eq, decide_eq_false_iff_not, Bool.not_eq_true', Bool.not_eq_false', Bool.not_eq_true, Bool.not_eq_false, Bool.true_eq_false, Bool.false_eq_true, not_false_eq_true, not_true_eq_false] at h92)
                          refine HO_move rfl rfl rfl ?_
                          refine HO_bin rfl rfl rfl rfl bin_neq ?_
                          refine HO_move rfl rfl rfl ?_
                          refine HO_split (d := 95) rfl ?_ ?_
                          · intro h95
                            (try simp only [decide_eq_true_eq, decide_eq_false_iff_not, Bool.not_eq_true', Bool.not_eq_false', Bool.not_eq_true, Bool.not_eq_false, Bool.true_eq_false, Bool.false_eq_true, not_false_eq_true, not_true_eq_false] at h95)
                            refine HO_no rfl rfl rfl ?_
                            refine HO_no rfl rfl rfl ?_
                            refine HO_no rfl rfl rfl ?_
                            refine HO_pick_t rfl rfl rfl rfl ?_
                            refine HO_pick_t rfl rfl rfl rfl ?_
                            refine HO_move rfl rfl rfl ?_
                            refine HO_call (first := []) (capt := []) (is := []) (R := [_, _, _, _, _, _, _, _]) rfl rfl rfl rfl rfl Try.call31 rfl lives10_spec ?_
                            intro y102 hy102
                            clear y102 hy102
                            refine HO_pick_t rfl rfl rfl rfl ?_
                            refine HO_assign rfl rfl rfl ?_
                            refine HO_nil ?_
                            refine H_env (ρ' := [(6, _)]) ⟨rfl, trivial⟩ ?_
                            refine H_world (fun _ hA => hA.drop (is := [0, 1, 2, 3, 4, 5, 6, 7]) (Y := [_, _, _, _, _, _, _, _]) (Z := []) rfl) ?_
                            -- end5
                            refine H_ret1 Try.results12 (.tmp rfl) (fun w hA => ⟨(), congrArg Ending.returned ?_, ?_, ?_⟩)
                            · (exact congrArg Value.bool (by first | rfl | assumption | simp_all))
                            · trivial
                            · exact hA.only (is := []) (Z := []) rfl
                          · intro h95
                            (try simp only [decide_eq_true_eq, decide_eq_false_iff_not, Bool.not_eq_true', Bool.not_eq_false', Bool.not_eq_true, Bool.not_eq_false, Bool.true_eq_false, Bool.false_eq_true, not_false_eq_true, not_true_eq_false] at h95)
                            refine HO_loadA (i := 0) (us := []) (cs := [_, _, _, _, _]) (ts := []) rfl rfl rfl Try.isAgg47 Try.sizeOf47 rfl (.loc _ _ _) rfl rfl rfl rfl ?_
                            refine HO_loadA (i := 4) (us := []) (cs := [_, _, _, _, _]) (ts := []) rfl rfl rfl Try.isAgg47 Try.sizeOf47 rfl (.loc _ _ _) rfl rfl rfl rfl ?_
                            refine HO_dup (i := 1) rfl rfl ?_
                            refine HO_dup (i := 3) rfl rfl ?_
                            refine HO_dup (i := 5) rfl rfl ?_
                            refine HO_dup (i := 8) rfl rfl ?_
                            refine HO_dup (i := 10) rfl rfl ?_
                            refine HO_dup (i := 12) rfl rfl ?_
                            refine HO_call (first := []) (capt := []) (is := [0, 0, 0, 0, 0, 0]) (R := [_, _, _, _, _, _, _, _]) rfl rfl rfl rfl rfl Try.call59 rfl (rsamesnap_spec _ _ _ _ _ _ _ _ _ _ _ _ _ _ _ _ _ _ _ _ _ _) ?_
                            intro y98 hy98
                            clear y98 hy98
                            refine HO_pick_f rfl rfl rfl rfl ?_
                            refine HO_pick_t rfl rfl rfl rfl ?_
                            refine HO_move rfl rfl rfl ?_
                            refine HO_split (d := 101) rfl ?_ ?_
                            · intro h101
                              (try simp only [decide_eq_true_eq, decide_eq_false_iff_not, Bool.not_eq_true', Bool.not_eq_false', Bool.not_eq_true, Bool.not_eq_false, Bool.true_eq_false, Bool.false_eq_true, not_false_eq_true, not_true_eq_false] at h101)
                              refine HO_call (first := []) (capt := []) (is := []) (R := [_, _, _, _, _, _, _, _]) rfl rfl rfl rfl rfl Try.call31 rfl lives10_spec ?_
                              intro y102 hy102
                              clear y102 hy102
                              refine HO_pick_t rfl rfl rfl rfl ?_
                              refine HO_assign rfl rfl rfl ?_
                              refine HO_nil ?_
                              refine H_env (ρ' := [(6, _)]) ⟨rfl, trivial⟩ ?_
                              refine H_world (fun _ hA => hA.drop (is := [0, 1, 2, 3, 4, 5, 6, 7]) (Y := [_, _, _, _, _, _, _, _]) (Z := []) rfl) ?_
                              -- end6
                              refine H_ret1 Try.results12 (.tmp rfl) (fun w hA => ⟨(), congrArg Ending.returned ?_, ?_, ?_⟩)
                              · (exact congrArg Value.bool (by first | rfl | assumption | simp_all))
                              · trivial
                              · exact hA.only (is := []) (Z := []) rfl
                            · intro h101
                              (try simp only [decide_eq_true_eq, decide_eq_false_iff_not, Bool.not_eq_true', Bool.not_eq_false', Bool.not_eq_true, Bool.not_eq_false, Bool.true_eq_false, Bool.false_eq_true, not_false_eq_true, not_true_eq_false] at h101)
                              (exfalso; rw [hq3] at h95 h101; by_cases hg : Ent.goodSnap ⟨ix2, te2, ⟨vo2, le2⟩, da2⟩ = true <;> simp [hg] at h95 h101)
                        · intro h92
                          (try simp only [decide_eq_true_eq, decide_eq_false_iff_not, Bool.not_eq_true', Bool.not_eq_false', Bool.not_eq_true, Bool.not_eq_false, Bool.true_eq_false, Bool.false_eq_true, not_false_eq_true, not_true_eq_false] at h92)
                          (exfalso; rw [hq3] at h92; by_cases hg : Ent.goodSnap ⟨ix2, te2, ⟨vo2, le2⟩, da2⟩ = true <;> simp [hg] at h92)
                  · intro h72
                    (try simp only [decide_eq_true_eq, decide_eq_false_iff_not, Bool.not_eq_true', Bool.not_eq_false', Bool.not_eq_true, Bool.not_eq_false, Bool.true_eq_false, Bool.false_eq_true, not_false_eq_true, not_true_eq_false] at h72)
                    refine HO_no rfl rfl rfl ?_
                    refine HO_no rfl rfl rfl ?_
                    refine HO_no rfl rfl rfl ?_
                    refine HO_pick_f rfl rfl rfl rfl ?_
                    refine HO_bin rfl rfl rfl rfl (bin_neb Try.runUnderlying4) ?_
                    refine HO_move rfl rfl rfl ?_
                    refine HO_split (d := 78) rfl ?_ ?_
                    · intro h78
                      (try simp only [decide_eq_true_eq, decide_eq_false_iff_not, Bool.not_eq_true', Bool.not_eq_false', Bool.not_eq_true, Bool.not_eq_false, Bool.true_eq_false, Bool.false_eq_true, not_false_eq_true, not_true_eq_false] at h78)
                      (exfalso; revert h78; rw [hq2]; by_cases hg : Ent.goodH ⟨ht, hu, hw⟩ = true <;> simp [hg] <;> simp_all [Ent.goodH] <;> omega)
                    · intro h78
                      (try simp only [decide_eq_true_eq, decide_eq_false_iff_not, Bool.not_eq_true', Bool.not_eq_false', Bool.not_eq_true, Bool.not_eq_false, Bool.true_eq_false, Bool.false_eq_true, not_false_eq_true, not_true_eq_false] at h78)
                      refine HO_move rfl rfl rfl ?_
                      refine HO_bin rfl rfl rfl rfl bin_eql ?_
                      refine HO_move rfl rfl rfl ?_
                      refine HO_split (d := 81) rfl ?_ ?_
                      · intro h81
                        (try simp only [decide_eq_true_eq, decide_eq_false_iff_not, Bool.not_eq_true', Bool.not_eq_false', Bool.not_eq_true, Bool.not_eq_false, Bool.true_eq_false, Bool.false_eq_true, not_false_eq_true, not_true_eq_false] at h81)
                        refine HO_loadA (i := 4) (us := []) (cs := [_, _, _]) (ts := []) rfl rfl rfl Try.isAgg49 Try.sizeOf49 rfl (.loc _ _ _) rfl rfl rfl rfl ?_
                        refine HO_loadA (i := 6) (us := []) (cs := [_, _, _]) (ts := []) rfl rfl rfl Try.isAgg49 Try.sizeOf49 rfl (.loc _ _ _) rfl rfl rfl rfl ?_
                        refine HO_bin rfl rfl rfl rfl eq49_neq ?_
                        refine HO_pick_t rfl rfl rfl rfl ?_
                        refine HO_pick_f rfl rfl rfl rfl ?_
                        refine HO_nil ?_
                        refine H_env (ρ' := [(86, _), (12, _), (11, _), (5, _)]) ⟨rfl, rfl, rfl, rfl, trivial⟩ ?_
                        refine H_world (fun _ hA => hA.drop (is := [4, 6]) (Y := [_, _]) (Z := [_, _, _, _, _, _, _, _]) rfl) ?_
                        refine H_cond rfl ?_ ?_
                        · intro h86
                          (try simp only [decide_eq_true_eq, decide_eq_false_iff_not, Bool.not_eq_true', Bool.not_eq_false', Bool.not_eq_true, Bool.not_eq_false, Bool.true_eq_false, Bool.false_eq_true, not_false_eq_true, not_true_eq_false] at h86)
                          (exfalso; rw [hq2] at h81 h86; by_cases hg : Ent.goodH ⟨ht, hu, hw⟩ = true <;> simp [hg] at h81 h86)
                        · intro h86
                          (try simp only [decide_eq_true_eq, decide_eq_false_iff_not, Bool.not_eq_true', Bool.not_eq_false', Bool.not_eq_true, Bool.not_eq_false, Bool.true_eq_false, Bool.false_eq_true, not_false_eq_true, not_true_eq_false] at h86)
                          refine H_skip ?_
                          refine H_seq ?_
                          -- R10 law.go:89
                          refine H_region (l := [_, _, _, _, _, _, _, _, _, _, _, _, _, _, _, _, _, _]) rfl ?_
                          refine HO_loadA (i := 4) (us := []) (cs := [_, _, _, _, _]) (ts := []) rfl rfl rfl Try.isAgg47 Try.sizeOf47 rfl (.loc _ _ _) rfl rfl rfl rfl ?_
                          refine HO_dup (i := 5) rfl rfl ?_
                          refine HO_dup (i := 7) rfl rfl ?_
                          refine HO_dup (i := 9) rfl rfl ?_
                          refine HO_call (first := []) (capt := []) (is := [0, 0, 0]) (R := [_, _, _, _, _, _, _, _]) rfl rfl rfl rfl rfl Try.call32 rfl (goodsnap_spec _ _ _ _ _ _ _ _ _ _ _) ?_
                          intro y88 hy88
                          clear y88 hy88
                          refine HO_move rfl rfl rfl ?_
                          refine HO_bin rfl rfl rfl rfl bin_eql ?_
                          refine HO_bin rfl rfl rfl rfl (bin_eqb Try.runUnderlying4) ?_
                          refine HO_move rfl rfl rfl ?_
                          refine HO_split (d := 92) rfl ?_ ?_
                          · intro h92
                            (try simp only [decide_eq_true_eq, decide_eq_false_iff_not, Bool.not_eq_true', Bool.not_eq_false', Bool.not_eq_true, Bool.not_eq_false, Bool.true_eq_false, Bool.false_eq_true, not_false_eq_true, not_true_eq_false] at h92)
                            refine HO_move rfl rfl rfl ?_
                            refine HO_bin rfl rfl rfl rfl bin_neq ?_
                            refine HO_move rfl rfl rfl ?_
                            refine HO_split (d := 95) rfl ?_ ?_
                            · intro h95
                              (try simp only [decide_eq_true_eq, decide_eq_false_iff_not, Bool.not_eq_true', Bool.not_eq_false', Bool.not_eq_true, Bool.not_eq_false, Bool.true_eq_false, Bool.false_eq_true, not_false_eq_true, not_true_eq_false] at h95)
                              refine HO_no rfl rfl rfl ?_
                              refine HO_no rfl rfl rfl ?_
                              refine HO_no rfl rfl rfl ?_
                              refine HO_pick_t rfl rfl rfl rfl ?_
                              refine HO_pick_t rfl rfl rfl rfl ?_
                              refine HO_move rfl rfl rfl ?_
                              refine HO_call (first := []) (capt := []) (is := []) (R := [_, _, _, _, _, _, _, _]) rfl rfl rfl rfl rfl Try.call31 rfl lives10_spec ?_
                              intro y102 hy102
                              clear y102 hy102
                              refine HO_pick_t rfl rfl rfl rfl ?_
                              refine HO_assign rfl rfl rfl ?_
                              refine HO_nil ?_
                              refine H_env (ρ' := [(6, _)]) ⟨rfl, trivial⟩ ?_
                              refine H_world (fun _ hA => hA.drop (is := [0, 1, 2, 3, 4, 5, 6, 7]) (Y := [_, _, _, _, _, _, _, _]) (Z := []) rfl) ?_
                              -- end7
                              refine H_ret1 Try.results12 (.tmp rfl) (fun w hA => ⟨(), congrArg Ending.returned ?_, ?_, ?_⟩)
                              · (exact congrArg Value.bool (by first | rfl | assumption | simp_all))
                              · trivial
                              · exact hA.only (is := []) (Z := []) rfl
                            · intro h95
                              (try simp only [decide_eq_true_eq, decide_eq_false_iff_not, Bool.not_eq_true', Bool.not_eq_false', Bool.not_eq_true, Bool.not_eq_false, Bool.true_eq_false, Bool.false_eq_true, not_false_eq_true, not_true_eq_false] at h95)
                              refine HO_loadA (i := 0) (us := []) (cs := [_, _, _, _, _]) (ts := []) rfl rfl rfl Try.isAgg47 Try.sizeOf47 rfl (.loc _ _ _) rfl rfl rfl rfl ?_
                              refine HO_loadA (i := 4) (us := []) (cs := [_, _, _, _, _]) (ts := []) rfl rfl rfl Try.isAgg47 Try.sizeOf47 rfl (.loc _ _ _) rfl rfl rfl rfl ?_
                              refine HO_dup (i := 1) rfl rfl ?_
                              refine HO_dup (i := 3) rfl rfl ?_
                              refine HO_dup (i := 5) rfl rfl ?_
                              refine HO_dup (i := 8) rfl rfl ?_
                              refine HO_dup (i := 10) rfl rfl ?_
                              refine HO_dup (i := 12) rfl rfl ?_
                              refine HO_call (first := []) (capt := []) (is := [0, 0, 0, 0, 0, 0]) (R := [_, _, _, _, _, _, _, _]) rfl rfl rfl rfl rfl Try.call59 rfl (rsamesnap_spec _ _ _ _ _ _ _ _ _ _ _ _ _ _ _ _ _ _ _ _ _ _) ?_
                              intro y98 hy98
                              clear y98 hy98
                              refine HO_pick_f rfl rfl rfl rfl ?_
                              refine HO_pick_t rfl rfl rfl rfl ?_
                              refine HO_move rfl rfl rfl ?_
                              refine HO_split (d := 101) rfl ?_ ?_
                              · intro h101
                                (try simp only [decide_eq_true_eq, decide_eq_false_iff_not, Bool.not_eq_true', Bool.not_eq_false', Bool.not_eq_true, Bool.not_eq_false, Bool.true_eq_false, Bool.false_eq_true, not_false_eq_true, not_true_eq_false] at h101)
                                refine HO_call (first := []) (capt := []) (is := []) (R := [_, _, _, _, _, _, _, _]) rfl rfl rfl rfl rfl Try.call31 rfl lives10_spec ?_
                                intro y102 hy102
                                clear y102 hy102
                                refine HO_pick_t rfl rfl rfl rfl ?_
                                refine HO_assign rfl rfl rfl ?_
                                refine HO_nil ?_
                                refine H_env (ρ' := [(6, _)]) ⟨rfl, trivial⟩ ?_
                                refine H_world (fun _ hA => hA.drop (is := [0, 1, 2, 3, 4, 5, 6, 7]) (Y := [_, _, _, _, _, _, _, _]) (Z := []) rfl) ?_
                                -- end8
                                refine H_ret1 Try.results12 (.tmp rfl) (fun w hA => ⟨(), congrArg Ending.returned ?_, ?_, ?_⟩)
                                · (exact congrArg Value.bool (by first | rfl | assumption | simp_all))
                                · trivial
                                · exact hA.only (is := []) (Z := []) rfl
                              · intro h101
                                (try simp only [decide_eq_true_eq, decide_eq_false_iff_not, Bool.not_eq_true', Bool.not_eq_false', Bool.not_eq_true, Bool.not_eq_false, Bool.true_eq_false, Bool.false_eq_true, not_false_eq_true, not_true_eq_false] at h101)
                                (exfalso; rw [hq3] at h95 h101; by_cases hg : Ent.goodSnap ⟨ix2, te2, ⟨vo2, le2⟩, da2⟩ = true <;> simp [hg] at h95 h101)
                          · intro h92
                            (try simp only [decide_eq_true_eq, decide_eq_false_iff_not, Bool.not_eq_true', Bool.not_eq_false', Bool.not_eq_true, Bool.not_eq_false, Bool.true_eq_false, Bool.false_eq_true, not_false_eq_true, not_true_eq_false] at h92)
                            (exfalso; rw [hq3] at h92; by_cases hg : Ent.goodSnap ⟨ix2, te2, ⟨vo2, le2⟩, da2⟩ = true <;> simp [hg] at h92)
                      · intro h81
                        (try simp only [decide_eq_true_eq, decide_eq_false_iff_not, Bool.not_eq_true', Bool.not_eq_false', Bool.not_eq_true, Bool.not_eq_false, Bool.true_eq_false, Bool.false_eq_true, not_false_eq_true, not_true_eq_false] at h81)
                        refine HO_no rfl rfl rfl ?_
                        refine HO_no rfl rfl rfl ?_
                        refine HO_no rfl rfl rfl ?_
                        refine HO_pick_f rfl rfl rfl rfl ?_
                        refine HO_pick_f rfl rfl rfl rfl ?_
                        refine HO_nil ?_
                        refine H_env (ρ' := [(86, _), (12, _), (11, _), (5, _)]) ⟨rfl, rfl, rfl, rfl, trivial⟩ ?_
                        refine H_world (fun _ hA => hA.drop (is := [4, 6]) (Y := [_, _]) (Z := [_, _, _, _, _, _, _, _]) rfl) ?_
                        refine H_cond rfl (fun h => nomatch h) (fun _ => ?_)
                        refine H_skip ?_
                        refine H_seq ?_
                        -- R10 law.go:89
                        refine H_region (l := [_, _, _, _, _, _, _, _, _, _, _, _, _, _, _, _, _, _]) rfl ?_
                        refine HO_loadA (i := 4) (us := []) (cs := [_, _, _, _, _]) (ts := []) rfl rfl rfl Try.isAgg47 Try.sizeOf47 rfl (.loc _ _ _) rfl rfl rfl rfl ?_
                        refine HO_dup (i := 5) rfl rfl ?_
                        refine HO_dup (i := 7) rfl rfl ?_
                        refine HO_dup (i := 9) rfl rfl ?_
                        refine HO_call (first := []) (capt := []) (is := [0, 0, 0]) (R := [_, _, _, _, _, _, _, _]) rfl rfl rfl rfl rfl Try.call32 rfl (goodsnap_spec _ _ _ _ _ _ _ _ _ _ _) ?_
                        intro y88 hy88
                        clear y88 hy88
                        refine HO_move rfl rfl rfl ?_
                        refine HO_bin rfl rfl rfl rfl bin_eql ?_
                        refine HO_bin rfl rfl rfl rfl (bin_eqb Try.runUnderlying4) ?_
                        refine HO_move rfl rfl rfl ?_
                        refine HO_split (d := 92) rfl ?_ ?_
                        · intro h92
                          (try simp only [decide_eq_true_eq, decide_eq_false_iff_not, Bool.not_eq_true', Bool.not_eq_false', Bool.not_eq_true, Bool.not_eq_false, Bool.true_eq_false, Bool.false_eq_true, not_false_eq_true, not_true_eq_false] at h92)
                          refine HO_move rfl rfl rfl ?_
                          refine HO_bin rfl rfl rfl rfl bin_neq ?_
                          refine HO_move rfl rfl rfl ?_
                          refine HO_split (d := 95) rfl ?_ ?_
                          · intro h95
                            (try simp only [decide_eq_true_eq, decide_eq_false_iff_not, Bool.not_eq_true', Bool.not_eq_false', Bool.not_eq_true, Bool.not_eq_false, Bool.true_eq_false, Bool.false_eq_true, not_false_eq_true, not_true_eq_false] at h95)
                            refine HO_no rfl rfl rfl ?_
                            refine HO_no rfl rfl rfl ?_
                            refine HO_no rfl rfl rfl ?_
                            refine HO_pick_t rfl rfl rfl rfl ?_
                            refine HO_pick_t rfl rfl rfl rfl ?_
                            refine HO_move rfl rfl rfl ?_
                            refine HO_call (first := []) (capt := []) (is := []) (R := [_, _, _, _, _, _, _, _]) rfl rfl rfl rfl rfl Try.call31 rfl lives10_spec ?_
                            intro y102 hy102
                            clear y102 hy102
                            refine HO_pick_t rfl rfl rfl rfl ?_
                            refine HO_assign rfl rfl rfl ?_
                            refine HO_nil ?_
                            refine H_env (ρ' := [(6, _)]) ⟨rfl, trivial⟩ ?_
                            refine H_world (fun _ hA => hA.drop (is := [0, 1, 2, 3, 4, 5, 6, 7]) (Y := [_, _, _, _, _, _, _, _]) (Z := []) rfl) ?_
                            -- end9
                            refine H_ret1 Try.results12 (.tmp rfl) (fun w hA => ⟨(), congrArg Ending.returned ?_, ?_, ?_⟩)
                            · (exact congrArg Value.bool (by first | rfl | assumption | simp_all))
                            · trivial
                            · exact hA.only (is := []) (Z := []) rfl
                          · intro h95
                            (try simp only [decide_eq_true_eq, decide_eq_false_iff_not, Bool.not_eq_true', Bool.not_eq_false', Bool.not_eq_true, Bool.not_eq_false, Bool.true_eq_false, Bool.false_eq_true, not_false_eq_true, not_true_eq_false] at h95)
                            refine HO_loadA (i := 0) (us := []) (cs := [_, _, _, _, _]) (ts := []) rfl rfl rfl Try.isAgg47 Try.sizeOf47 rfl (.loc _ _ _) rfl rfl rfl rfl ?_
                            refine HO_loadA (i := 4) (us := []) (cs := [_, _, _, _, _]) (ts := []) rfl rfl rfl Try.isAgg47 Try.sizeOf47 rfl (.loc _ _ _) rfl rfl rfl rfl ?_
                            refine HO_dup (i := 1) rfl rfl ?_
                            refine HO_dup (i := 3) rfl rfl ?_
                            refine HO_dup (i := 5) rfl rfl ?_
                            refine HO_dup (i := 8) rfl rfl ?_
                            refine HO_dup (i := 10) rfl rfl ?_
                            refine HO_dup (i := 12) rfl rfl ?_
                            refine HO_call (first := []) (capt := []) (is := [0, 0, 0, 0, 0, 0]) (R := [_, _, _, _, _, _, _, _]) rfl rfl rfl rfl rfl Try.call59 rfl (rsamesnap_spec _ _ _ _ _ _ _ _ _ _ _ _ _ _ _ _ _ _ _ _ _ _) ?_
                            intro y98 hy98
                            clear y98 hy98
                            refine HO_pick_f rfl rfl rfl rfl ?_
                            refine HO_pick_t rfl rfl rfl rfl ?_
                            refine HO_move rfl rfl rfl ?_
                            refine HO_split (d := 101) rfl ?_ ?_
                            · intro h101
                              (try simp only [decide_eq_true_eq, decide_eq_false_iff_not, Bool.not_eq_true', Bool.not_eq_false', Bool.not_eq_true, Bool.not_eq_false, Bool.true_eq_false, Bool.false_eq_true, not_false_eq_true, not_true_eq_false] at h101)
                              refine HO_call (first := []) (capt := []) (is := []) (R := [_, _, _, _, _, _, _, _]) rfl rfl rfl rfl rfl Try.call31 rfl lives10_spec ?_
                              intro y102 hy102
                              clear y102 hy102
                              refine HO_pick_t rfl rfl rfl rfl ?_
                              refine HO_assign rfl rfl rfl ?_
                              refine HO_nil ?_
                              refine H_env (ρ' := [(6, _)]) ⟨rfl, trivial⟩ ?_
                              refine H_world (fun _ hA => hA.drop (is := [0, 1, 2, 3, 4, 5, 6, 7]) (Y := [_, _, _, _, _, _, _, _]) (Z := []) rfl) ?_
                              -- end10
                              refine H_ret1 Try.results12 (.tmp rfl) (fun w hA => ⟨(), congrArg Ending.returned ?_, ?_, ?_⟩)
                              · (exact congrArg Value.bool (by first | rfl | assumption | simp_all))
                              · trivial
                              · exact hA.only (is := []) (Z := []) rfl
                            · intro h101
                              (try simp only [decide_eq_true_eq, decide_eq_false_iff_not, Bool.not_eq_true', Bool.not_eq_false', Bool.not_eq_true, Bool.not_eq_false, Bool.true_eq_false, Bool.false_eq_true, not_false_eq_true, not_true_eq_false] at h101)
                              (exfalso; rw [hq3] at h95 h101; by_cases hg : Ent.goodSnap ⟨ix2, te2, ⟨vo2, le2⟩, da2⟩ = true <;> simp [hg] at h95 h101)
                        · intro h92
                          (try simp only [decide_eq_true_eq, decide_eq_false_iff_not, Bool.not_eq_true', Bool.not_eq_false', Bool.not_eq_true, Bool.not_eq_false, Bool.true_eq_false, Bool.false_eq_true, not_false_eq_true, not_true_eq_false] at h92)
                          (exfalso; rw [hq3] at h92; by_cases hg : Ent.goodSnap ⟨ix2, te2, ⟨vo2, le2⟩, da2⟩ = true <;> simp [hg] at h92)
                · intro h67
                  (try simp only [decide_eq_true_eq, decide_eq_false_iff_not, Bool.not_eq_true', Bool.not_eq_false', Bool.not_eq_true, Bool.not_eq_false, Bool.true_eq_false, Bool.false_eq_true, not_false_eq_true, not_true_eq_false] at h67)
                  refine HO_no rfl rfl rfl ?_
                  refine HO_no rfl rfl rfl ?_
                  refine HO_no rfl rfl rfl ?_
                  refine HO_pick_f rfl rfl rfl rfl ?_
                  refine HO_move rfl rfl rfl ?_
                  refine HO_no rfl rfl rfl ?_
                  refine HO_no rfl rfl rfl ?_
                  refine HO_no rfl rfl rfl ?_
                  refine HO_pick_f rfl rfl rfl rfl ?_
                  refine HO_bin rfl rfl rfl rfl (bin_neb Try.runUnderlying4) ?_
                  refine HO_move rfl rfl rfl ?_
                  refine HO_split (d := 78) rfl ?_ ?_
                  · intro h78
                    (try simp only [decide_eq_true_eq, decide_eq_false_iff_not, Bool.not_eq_true', Bool.not_eq_false', Bool.not_eq_true, Bool.not_eq_false, Bool.true_eq_false, Bool.false_eq_true, not_false_eq_true, not_true_eq_false] at h78)
                    (exfalso; revert h78; rw [hq2]; by_cases hg : Ent.goodH ⟨ht, hu, hw⟩ = true <;> simp [hg] <;> simp_all [Ent.goodH] <;> omega)
                  · intro h78
                    (try simp only [decide_eq_true_eq, decide_eq_false_iff_not, Bool.not_eq_true', Bool.not_eq_false', Bool.not_eq_true, Bool.not_eq_false, Bool.true_eq_false, Bool.false_eq_true, not_false_eq_true, not_true_eq_false] at h78)
                    refine HO_move rfl rfl rfl ?_
                    refine HO_bin rfl rfl rfl rfl bin_eql ?_
                    refine HO_move rfl rfl rfl ?_
                    refine HO_split (d := 81) rfl ?_ ?_
                    · intro h81
                      (try simp only [decide_eq_true_eq, decide_eq_false_iff_not, Bool.not_eq_true', Bool.not_eq_false', Bool.not_eq_true, Bool.not_eq_false, Bool.true_eq_false, Bool.false_eq_true, not_false_eq_true, not_true_eq_false] at h81)
                      refine HO_loadA (i := 4) (us := []) (cs := [_, _, _]) (ts := []) rfl rfl rfl Try.isAgg49 Try.sizeOf49 rfl (.loc _ _ _) rfl rfl rfl rfl ?_
                      refine HO_loadA (i := 6) (us := []) (cs := [_, _, _]) (ts := []) rfl rfl rfl Try.isAgg49 Try.sizeOf49 rfl (.loc _ _ _) rfl rfl rfl rfl ?_
                      refine HO_bin rfl rfl rfl rfl eq49_neq ?_
                      refine HO_pick_t rfl rfl rfl rfl ?_
                      refine HO_pick_f rfl rfl rfl rfl ?_
                      refine HO_nil ?_
                      refine H_env (ρ' := [(86, _), (12, _), (11, _), (5, _)]) ⟨rfl, rfl, rfl, rfl, trivial⟩ ?_
                      refine H_world (fun _ hA => hA.drop (is := [4, 6]) (Y := [_, _]) (Z := [_, _, _, _, _, _, _, _]) rfl) ?_
                      refine H_cond rfl ?_ ?_
                      · intro h86
                        (try simp only [decide_eq_true_eq, decide_eq_false_iff_not, Bool.not_eq_true', Bool.not_eq_false', Bool.not_eq_true, Bool.not_eq_false, Bool.true_eq_false, Bool.false_eq_true, not_false_eq_true, not_true_eq_false] at h86)
                        (exfalso; rw [hq2] at h81 h86; by_cases hg : Ent.goodH ⟨ht, hu, hw⟩ = true <;> simp [hg] at h81 h86)
                      · intro h86
                        (try simp only [decide_eq_true_eq, decide_eq_false_iff_not, Bool.not_eq_true', Bool.not_eq_false', Bool.not_eq_true, Bool.not_eq_false, Bool.true_eq_false, Bool.false_eq_true, not_false_eq_true, not_true_eq_false] at h86)
                        refine H_skip ?_
                        refine H_seq ?_
                        -- R10 law.go:89
                        refine H_region (l := [_, _, _, _, _, _, _, _, _, _, _, _, _, _, _, _, _, _]) rfl ?_
                        refine HO_loadA (i := 4) (us := []) (cs := [_, _, _, _, _]) (ts := []) rfl rfl rfl Try.isAgg47 Try.sizeOf47 rfl (.loc _ _ _) rfl rfl rfl rfl ?_
                        refine HO_dup (i := 5) rfl rfl ?_
                        refine HO_dup (i := 7) rfl rfl ?_
                        refine HO_dup (i := 9) rfl rfl ?_
                        refine HO_call (first := []) (capt := []) (is := [0, 0, 0]) (R := [_, _, _, _, _, _, _, _]) rfl rfl rfl rfl rfl Try.call32 rfl (goodsnap_spec _ _ _ _ _ _ _ _ _ _ _) ?_
                        intro y88 hy88
                        clear y88 hy88
                        refine HO_move rfl rfl rfl ?_
                        refine HO_bin rfl rfl rfl rfl bin_eql ?_
                        refine HO_bin rfl rfl rfl rfl (bin_eqb Try.runUnderlying4) ?_
                        refine HO_move rfl rfl rfl ?_
                        refine HO_split (d := 92) rfl ?_ ?_
                        · intro h92
                          (try simp only [decide_eq_true_eq, decide_eq_false_iff_not, Bool.not_eq_true', Bool.not_eq_false', Bool.not_eq_true, Bool.not_eq_false, Bool.true_eq_false, Bool.false_eq_true, not_false_eq_true, not_true_eq_false] at h92)
                          refine HO_move rfl rfl rfl ?_
                          refine HO_bin rfl rfl rfl rfl bin_neq ?_
                          refine HO_move rfl rfl rfl ?_
                          refine HO_split (d := 95) rfl ?_ ?_
                          · intro h95
                            (try simp only [decide_eq_true_eq, decide_eq_false_iff_not, Bool.not_eq_true', Bool.not_eq_false', Bool.not_eq_true, Bool.not_eq_false, Bool.true_eq_false, Bool.false_eq_true, not_false_eq_true, not_true_eq_false] at h95)
                            refine HO_no rfl rfl rfl ?_
                            refine HO_no rfl rfl rfl ?_
                            refine HO_no rfl rfl rfl ?_
                            refine HO_pick_t rfl rfl rfl rfl ?_
                            refine HO_pick_t rfl rfl rfl rfl ?_
                            refine HO_move rfl rfl rfl ?_
                            refine HO_call (first := []) (capt := []) (is := []) (R := [_, _, _, _, _, _, _, _]) rfl rfl rfl rfl rfl Try.call31 rfl lives10_spec ?_
                            intro y102 hy102
                            clear y102 hy102
                            refine HO_pick_t rfl rfl rfl rfl ?_
                            refine HO_assign rfl rfl rfl ?_
                            refine HO_nil ?_
                            refine H_env (ρ' := [(6, _)]) ⟨rfl, trivial⟩ ?_
                            refine H_world (fun _ hA => hA.drop (is := [0, 1, 2, 3, 4, 5, 6, 7]) (Y := [_, _, _, _, _, _, _, _]) (Z := []) rfl) ?_
                            -- end11
                            refine H_ret1 Try.results12 (.tmp rfl) (fun w hA => ⟨(), congrArg Ending.returned ?_, ?_, ?_⟩)
                            · (exact congrArg Value.bool (by first | rfl | assumption | simp_all))
                            · trivial
                            · exact hA.only (is := []) (Z := []) rfl
                          · intro h95
                            (try simp only [decide_eq_true_eq, decide_eq_false_iff_not, Bool.not_eq_true', Bool.not_eq_false', Bool.not_eq_true, Bool.not_eq_false, Bool.true_eq_false, Bool.false_eq_true, not_false_eq_true, not_true_eq_false] at h95)
                            refine HO_loadA (i := 0) (us := []) (cs := [_, _, _, _, _]) (ts := []) rfl rfl rfl Try.isAgg47 Try.sizeOf47 rfl (.loc _ _ _) rfl rfl rfl rfl ?_
                            refine HO_loadA (i := 4) (us := []) (cs := [_, _, _, _, _]) (ts := []) rfl rfl rfl Try.isAgg47 Try.sizeOf47 rfl (.loc _ _ _) rfl rfl rfl rfl ?_
                            refine HO_dup (i := 1) rfl rfl ?_
                            refine HO_dup (i := 3) rfl rfl ?_
                            refine HO_dup (i := 5) rfl rfl ?_
                            refine HO_dup (i := 8) rfl rfl ?_
                            refine HO_dup (i := 10) rfl rfl ?_
                            refine HO_dup (i := 12) rfl rfl ?_
                            refine HO_call (first := []) (capt := []) (is := [0, 0, 0, 0, 0, 0]) (R := [_, _, _, _, _, _, _, _]) rfl rfl rfl rfl rfl Try.call59 rfl (rsamesnap_spec _ _ _ _ _ _ _ _ _ _ _ _ _ _ _ _ _ _ _ _ _ _) ?_
                            intro y98 hy98
                            clear y98 hy98
                            refine HO_pick_f rfl rfl rfl rfl ?_
                            refine HO_pick_t rfl rfl rfl rfl ?_
                            refine HO_move rfl rfl rfl ?_
                            refine HO_split (d := 101) rfl ?_ ?_
                            · intro h101
                              (try simp only [decide_eq_true_eq, decide_eq_false_iff_not, Bool.not_eq_true', Bool.not_eq_false', Bool.not_eq_true, Bool.not_eq_false, Bool.true_eq_false, Bool.false_eq_true, not_false_eq_true, not_true_eq_false] at h101)
                              refine HO_call (first := []) (capt := []) (is := []) (R := [_, _, _, _, _, _, _, _]) rfl rfl rfl rfl rfl Try.call31 rfl lives10_spec ?_
                              intro y102 hy102
                              clear y102 hy102
                              refine HO_pick_t rfl rfl rfl rfl ?_
                              refine HO_assign rfl rfl rfl ?_
                              refine HO_nil ?_
                              refine H_env (ρ' := [(6, _)]) ⟨rfl, trivial⟩ ?_
                              refine H_world (fun _ hA => hA.drop (is := [0, 1, 2, 3, 4, 5, 6, 7]) (Y := [_, _, _, _, _, _, _, _]) (Z := []) rfl) ?_
                              -- end12
                              refine H_ret1 Try.results12 (.tmp rfl) (fun w hA => ⟨(), congrArg Ending.returned ?_, ?_, ?_⟩)
                              · (exact congrArg Value.bool (by first | rfl | assumption | simp_all))
                              · trivial
                              · exact hA.only (is := []) (Z := []) rfl
                            · intro h101
                              (try simp only [decide_eq_true_eq, decide_eq_false_iff_not, Bool.not_eq_true', Bool.not_eq_false', Bool.not_eq_true, Bool.not_eq_false, Bool.true_eq_false, Bool.false_eq_true, not_false_eq_true, not_true_eq_false] at h101)
                              (exfalso; rw [hq3] at h95 h101; by_cases hg : Ent.goodSnap ⟨ix2, te2, ⟨vo2, le2⟩, da2⟩ = true <;> simp [hg] at h95 h101)
                        · intro h92
                          (try simp only [decide_eq_true_eq, decide_eq_false_iff_not, Bool.not_eq_true', Bool.not_eq_false', Bool.not_eq_true, Bool.not_eq_false, Bool.true_eq_false, Bool.false_eq_true, not_false_eq_true, not_true_eq_false] at h92)
                          (exfalso; rw [hq3] at h92; by_cases hg : Ent.goodSnap ⟨ix2, te2, ⟨vo2, le2⟩, da2⟩ = true <;> simp [hg] at h92)
                    · intro h81
                      (try simp only [decide_eq_true_eq, decide_eq_false_iff_not, Bool.not_eq_true', Bool.not_eq_false', Bool.not_eq_true, Bool.not_eq_false, Bool.true_eq_false, Bool.false_eq_true, not_false_eq_true, not_true_eq_false] at h81)
                      refine HO_no rfl rfl rfl ?_
                      refine HO_no rfl rfl rfl ?_
                      refine HO_no rfl rfl rfl ?_
                      refine HO_pick_f rfl rfl rfl rfl ?_
                      refine HO_pick_f rfl rfl rfl rfl ?_
                      refine HO_nil ?_
                      refine H_env (ρ' := [(86, _), (12, _), (11, _), (5, _)]) ⟨rfl, rfl, rfl, rfl, trivial⟩ ?_
                      refine H_world (fun _ hA => hA.drop (is := [4, 6]) (Y := [_, _]) (Z := [_, _, _, _, _, _, _, _]) rfl) ?_
                      refine H_cond rfl (fun h => nomatch h) (fun _ => ?_)
                      refine H_skip ?_
                      refine H_seq ?_
                      -- R10 law.go:89
                      refine H_region (l := [_, _, _, _, _, _, _, _, _, _, _, _, _, _, _, _, _, _]) rfl ?_
                      refine HO_loadA (i := 4) (us := []) (cs := [_, _, _, _, _]) (ts := []) rfl rfl rfl Try.isAgg47 Try.sizeOf47 rfl (.loc _ _ _) rfl rfl rfl rfl ?_
                      refine HO_dup (i := 5) rfl rfl ?_
                      refine HO_dup (i := 7) rfl rfl ?_
                      refine HO_dup (i := 9) rfl rfl ?_
                      refine HO_call (first := []) (capt := []) (is := [0, 0, 0]) (R := [_, _, _, _, _, _, _, _]) rfl rfl rfl rfl rfl Try.call32 rfl (goodsnap_spec _ _ _ _ _ _ _ _ _ _ _) ?_
                      intro y88 hy88
                      clear y88 hy88
                      refine HO_move rfl rfl rfl ?_
                      refine HO_bin rfl rfl rfl rfl bin_eql ?_
                      refine HO_bin rfl rfl rfl rfl (bin_eqb Try.runUnderlying4) ?_
                      refine HO_move rfl rfl rfl ?_
                      refine HO_split (d := 92) rfl ?_ ?_
                      · intro h92
                        (try simp only [decide_eq_true_eq, decide_eq_false_iff_not, Bool.not_eq_true', Bool.not_eq_false', Bool.not_eq_true, Bool.not_eq_false, Bool.true_eq_false, Bool.false_eq_true, not_false_eq_true, not_true_eq_false] at h92)
                        refine HO_move rfl rfl rfl ?_
                        refine HO_bin rfl rfl rfl rfl bin_neq ?_
                        refine HO_move rfl rfl rfl ?_
                        refine HO_split (d := 95) rfl ?_ ?_
                        · intro h95
                          (try simp only [decide_eq_true_eq, decide_eq_false_iff_not, Bool.not_eq_true', Bool.not_eq_false', Bool.not_eq_true, Bool.not_eq_false, Bool.true_eq_false, Bool.false_eq_true, not_false_eq_true, not_true_eq_false] at h95)
                          refine HO_no rfl rfl rfl ?_
                          refine HO_no rfl rfl rfl ?_
                          refine HO_no rfl rfl rfl ?_
                          refine HO_pick_t rfl rfl rfl rfl ?_
                          refine HO_pick_t rfl rfl rfl rfl ?_
                          refine HO_move rfl rfl rfl ?_
                          refine HO_call (first := []) (capt := []) (is := []) (R := [_, _, _, _, _, _, _, _]) rfl rfl rfl rfl rfl Try.call31 rfl lives10_spec ?_
                          intro y102 hy102
                          clear y102 hy102
                          refine HO_pick_t rfl rfl rfl rfl ?_
                          refine HO_assign rfl rfl rfl ?_
                          refine HO_nil ?_
                          refine H_env (ρ' := [(6, _)]) ⟨rfl, trivial⟩ ?_
                          refine H_world (fun _ hA => hA.drop (is := [0, 1, 2, 3, 4, 5, 6, 7]) (Y := [_, _, _, _, _, _, _, _]) (Z := []) rfl) ?_
                          -- end13
                          refine H_ret1 Try.results12 (.tmp rfl) (fun w hA => ⟨(), congrArg Ending.returned ?_, ?_, ?_⟩)
                          · (exact congrArg Value.bool (by first | rfl | assumption | simp_all))
                          · trivial
                          · exact hA.only (is := []) (Z := []) rfl
                        · intro h95
                          (try simp only [decide_eq_true_eq, decide_eq_false_iff_not, Bool.not_eq_true', Bool.not_eq_false', Bool.not_eq_true, Bool.not_eq_false, Bool.true_eq_false, Bool.false_eq_true, not_false_eq_true, not_true_eq_false] at h95)
                          refine HO_loadA (i := 0) (us := []) (cs := [_, _, _, _, _]) (ts := []) rfl rfl rfl Try.isAgg47 Try.sizeOf47 rfl (.loc _ _ _) rfl rfl rfl rfl ?_
                          refine HO_loadA (i := 4) (us := []) (cs := [_, _, _, _, _]) (ts := []) rfl rfl rfl Try.isAgg47 Try.sizeOf47 rfl (.loc _ _ _) rfl rfl rfl rfl ?_
                          refine HO_dup (i := 1) rfl rfl ?_
                          refine HO_dup (i := 3) rfl rfl ?_
                          refine HO_dup (i := 5) rfl rfl ?_
                          refine HO_dup (i := 8) rfl rfl ?_
                          refine HO_dup (i := 10) rfl rfl ?_
                          refine HO_dup (i := 12) rfl rfl ?_
                          refine HO_call (first := []) (capt := []) (is := [0, 0, 0, 0, 0, 0]) (R := [_, _, _, _, _, _, _, _]) rfl rfl rfl rfl rfl Try.call59 rfl (rsamesnap_spec _ _ _ _ _ _ _ _ _ _ _ _ _ _ _ _ _ _ _ _ _ _) ?_
                          intro y98 hy98
                          clear y98 hy98
                          refine HO_pick_f rfl rfl rfl rfl ?_
                          refine HO_pick_t rfl rfl rfl rfl ?_
                          refine HO_move rfl rfl rfl ?_
                          refine HO_split (d := 101) rfl ?_ ?_
                          · intro h101
                            (try simp only [decide_eq_true_eq, decide_eq_false_iff_not, Bool.not_eq_true', Bool.not_eq_false', Bool.not_eq_true, Bool.not_eq_false, Bool.true_eq_false, Bool.false_eq_true, not_false_eq_true, not_true_eq_false] at h101)
                            refine HO_call (first := []) (capt := []) (is := []) (R := [_, _, _, _, _, _, _, _]) rfl rfl rfl rfl rfl Try.call31 rfl lives10_spec ?_
                            intro y102 hy102
                            clear y102 hy102
                            refine HO_pick_t rfl rfl rfl rfl ?_
                            refine HO_assign rfl rfl rfl ?_
                            refine HO_nil ?_
                            refine H_env (ρ' := [(6, _)]) ⟨rfl, trivial⟩ ?_
                            refine H_world (fun _ hA => hA.drop (is := [0, 1, 2, 3, 4, 5, 6, 7]) (Y := [_, _, _, _, _, _, _, _]) (Z := []) rfl) ?_
                            -- end14
                            refine H_ret1 Try.results12 (.tmp rfl) (fun w hA => ⟨(), congrArg Ending.returned ?_, ?_, ?_⟩)
                            · (exact congrArg Value.bool (by first | rfl | assumption | simp_all))
                            · trivial
                            · exact hA.only (is := []) (Z := []) rfl
                          · intro h101
                            (try simp only [decide_eq_true_eq, decide_eq_false_iff_not, Bool.not_eq_true', Bool.not_eq_false', Bool.not_eq_true, Bool.not_eq_false, Bool.true_eq_false, Bool.false_eq_true, not_false_eq_true, not_true_eq_false] at h101)
                            (exfalso; rw [hq3] at h95 h101; by_cases hg : Ent.goodSnap ⟨ix2, te2, ⟨vo2, le2⟩, da2⟩ = true <;> simp [hg] at h95 h101)
                      · intro h92
                        (try simp only [decide_eq_true_eq, decide_eq_false_iff_not, Bool.not_eq_true', Bool.not_eq_false', Bool.not_eq_true, Bool.not_eq_false, Bool.true_eq_false, Bool.false_eq_true, not_false_eq_true, not_true_eq_false] at h92)
                        (exfalso; rw [hq3] at h92; by_cases hg : Ent.goodSnap ⟨ix2, te2, ⟨vo2, le2⟩, da2⟩ = true <;> simp [hg] at h92)
          · intro h51
            (try simp only [decide_eq_true_eq, decide_eq_false_iff_not, Bool.not_eq_true', Bool.not_eq_false', Bool.not_eq_true, Bool.not_eq_false, Bool.true_eq_false, Bool.false_eq_true, not_false_eq_true, not_true_eq_false] at h51)
            refine HO_no rfl rfl rfl ?_
            refine HO_no rfl rfl rfl ?_
            refine HO_no rfl rfl rfl ?_
            refine HO_no rfl rfl rfl ?_
            refine HO_no rfl rfl rfl ?_
            refine HO_no rfl rfl rfl ?_
            refine HO_no rfl rfl rfl ?_
            refine HO_no rfl rfl rfl ?_
            refine HO_pick_f rfl rfl rfl rfl ?_
            refine HO_pick_f rfl rfl rfl rfl ?_
            refine HO_nil ?_
            refine H_env (ρ' := [(61, _), (12, _), (11, _), (10, _), (9, _), (5, _), (4, _)]) ⟨rfl, rfl, rfl, rfl, rfl, rfl, rfl, trivial⟩ ?_
            refine H_world (fun _ hA => hA.drop (is := [5, 6, 7, 10, 11, 12]) (Y := [_, _, _, _, _, _]) (Z := [_, _, _, _, _, _, _, _, _, _]) rfl) ?_
            refine H_cond rfl (fun h => nomatch h) (fun _ => ?_)
            refine H_skip ?_
            refine H_seq ?_
            refine H_seq ?_
            -- R8 law.go:86
            refine H_region (l := [_, _, _, _, _, _, _, _, _, _, _, _, _, _, _, _, _, _, _, _, _, _, _, _, _]) rfl ?_
            refine HO_move rfl rfl rfl ?_
            refine HO_bin rfl rfl rfl rfl bin_eql ?_
            refine HO_fieldAddr (r := 0) rfl rfl rfl Try.underlying49 rfl Try.sizeOf3 rfl ?_
            refine HO_load1 (i := 6) (j := 0) rfl rfl rfl Try.isAgg3 rfl (.loc _ _ _) rfl rfl ?_
            refine HO_bin rfl rfl rfl rfl bin_geq ?_
            refine HO_move rfl rfl rfl ?_
            refine HO_split (d := 67) rfl ?_ ?_
            · intro h67
              (try simp only [decide_eq_true_eq, decide_eq_false_iff_not, Bool.not_eq_true', Bool.not_eq_false', Bool.not_eq_true, Bool.not_eq_false, Bool.true_eq_false, Bool.false_eq_true, not_false_eq_true, not_true_eq_false] at h67)
              refine HO_fieldAddr (r := 1) rfl rfl rfl Try.underlying49 rfl Try.sizeOf3 rfl ?_
              refine HO_load1 (i := 6) (j := 1) rfl rfl rfl Try.isAgg3 rfl (.loc _ _ _) rfl rfl ?_
              refine HO_bin rfl rfl rfl rfl bin_geq ?_
              refine HO_pick_t rfl rfl rfl rfl ?_
              refine HO_move rfl rfl rfl ?_
              refine HO_split (d := 72) rfl ?_ ?_
              · intro h72
                (try simp only [decide_eq_true_eq, decide_eq_false_iff_not, Bool.not_eq_true', Bool.not_eq_false', Bool.not_eq_true, Bool.not_eq_false, Bool.true_eq_false, Bool.false_eq_true, not_false_eq_true, not_true_eq_false] at h72)
                refine HO_fieldAddr (r := 2) rfl rfl rfl Try.underlying49 rfl Try.sizeOf3 rfl ?_
                refine HO_load1 (i := 6) (j := 2) rfl rfl rfl Try.isAgg3 rfl (.loc _ _ _) rfl rfl ?_
                refine HO_bin rfl rfl rfl rfl bin_geq ?_
                refine HO_pick_t rfl rfl rfl rfl ?_
                refine HO_bin rfl rfl rfl rfl (bin_neb Try.runUnderlying4) ?_
                refine HO_move rfl rfl rfl ?_
                refine HO_split (d := 78) rfl ?_ ?_
                · intro h78
                  (try simp only [decide_eq_true_eq, decide_eq_false_iff_not, Bool.not_eq_true', Bool.not_eq_false', Bool.not_eq_true, Bool.not_eq_false, Bool.true_eq_false, Bool.false_eq_true, not_false_eq_true, not_true_eq_false] at h78)
                  (exfalso; revert h78; rw [hq2]; by_cases hg : Ent.goodH ⟨ht, hu, hw⟩ = true <;> simp [hg] <;> simp_all [Ent.goodH] <;> omega)
                · intro h78
                  (try simp only [decide_eq_true_eq, decide_eq_false_iff_not, Bool.not_eq_true', Bool.not_eq_false', Bool.not_eq_true, Bool.not_eq_false, Bool.true_eq_false, Bool.false_eq_true, not_false_eq_true, not_true_eq_false] at h78)
                  refine HO_move rfl rfl rfl ?_
                  refine HO_bin rfl rfl rfl rfl bin_eql ?_
                  refine HO_move rfl rfl rfl ?_
                  refine HO_split (d := 81) rfl ?_ ?_
                  · intro h81
                    (try simp only [decide_eq_true_eq, decide_eq_false_iff_not, Bool.not_eq_true', Bool.not_eq_false', Bool.not_eq_true, Bool.not_eq_false, Bool.true_eq_false, Bool.false_eq_true, not_false_eq_true, not_true_eq_false] at h81)
                    refine HO_loadA (i := 4) (us := []) (cs := [_, _, _]) (ts := []) rfl rfl rfl Try.isAgg49 Try.sizeOf49 rfl (.loc _ _ _) rfl rfl rfl rfl ?_
                    refine HO_loadA (i := 6) (us := []) (cs := [_, _, _]) (ts := []) rfl rfl rfl Try.isAgg49 Try.sizeOf49 rfl (.loc _ _ _) rfl rfl rfl rfl ?_
                    refine HO_bin rfl rfl rfl rfl eq49_neq ?_
                    refine HO_pick_t rfl rfl rfl rfl ?_
                    refine HO_pick_f rfl rfl rfl rfl ?_
                    refine HO_nil ?_
                    refine H_env (ρ' := [(86, _), (12, _), (11, _), (5, _)]) ⟨rfl, rfl, rfl, rfl, trivial⟩ ?_
                    refine H_world (fun _ hA => hA.drop (is := [4, 6]) (Y := [_, _]) (Z := [_, _, _, _, _, _, _, _]) rfl) ?_
                    refine H_cond rfl ?_ ?_
                    · intro h86
                      (try simp only [decide_eq_true_eq, decide_eq_false_iff_not, Bool.not_eq_true', Bool.not_eq_false', Bool.not_eq_true, Bool.not_eq_false, Bool.true_eq_false, Bool.false_eq_true, not_false_eq_true, not_true_eq_false] at h86)
                      (exfalso; rw [hq2] at h81 h86; by_cases hg : Ent.goodH ⟨ht, hu, hw⟩ = true <;> simp [hg] at h81 h86)
                    · intro h86
                      (try simp only [decide_eq_true_eq, decide_eq_false_iff_not, Bool.not_eq_true', Bool.not_eq_false', Bool.not_eq_true, Bool.not_eq_false, Bool.true_eq_false, Bool.false_eq_true, not_false_eq_true, not_true_eq_false] at h86)
                      refine H_skip ?_
                      refine H_seq ?_
                      -- R10 law.go:89
                      refine H_region (l := [_, _, _, _, _, _, _, _, _, _, _, _, _, _, _, _, _, _]) rfl ?_
                      refine HO_loadA (i := 4) (us := []) (cs := [_, _, _, _, _]) (ts := []) rfl rfl rfl Try.isAgg47 Try.sizeOf47 rfl (.loc _ _ _) rfl rfl rfl rfl ?_
                      refine HO_dup (i := 5) rfl rfl ?_
                      refine HO_dup (i := 7) rfl rfl ?_
                      refine HO_dup (i := 9) rfl rfl ?_
                      refine HO_call (first := []) (capt := []) (is := [0, 0, 0]) (R := [_, _, _, _, _, _, _, _]) rfl rfl rfl rfl rfl Try.call32 rfl (goodsnap_spec _ _ _ _ _ _ _ _ _ _ _) ?_
                      intro y88 hy88
                      clear y88 hy88
                      refine HO_move rfl rfl rfl ?_
                      refine HO_bin rfl rfl rfl rfl bin_eql ?_
                      refine HO_bin rfl rfl rfl rfl (bin_eqb Try.runUnderlying4) ?_
                      refine HO_move rfl rfl rfl ?_
                      refine HO_split (d := 92) rfl ?_ ?_
                      · intro h92
                        (try simp only [decide_eq_true_eq, decide_eq_false_iff_not, Bool.not_eq_true', Bool.not_eq_false', Bool.not_eq_true, Bool.not_eq_false, Bool.true_eq_false, Bool.false_eq_true, not_false_eq_true, not_true_eq_false] at h92)
                        refine HO_move rfl rfl rfl ?_
                        refine HO_bin rfl rfl rfl rfl bin_neq ?_
                        refine HO_move rfl rfl rfl ?_
                        refine HO_split (d := 95) rfl ?_ ?_
                        · intro h95
                          (try simp only [decide_eq_true_eq, decide_eq_false_iff_not, Bool.not_eq_true', Bool.not_eq_false', Bool.not_eq_true, Bool.not_eq_false, Bool.true_eq_false, Bool.false_eq_true, not_false_eq_true, not_true_eq_false] at h95)
                          refine HO_no rfl rfl rfl ?_
                          refine HO_no rfl rfl rfl ?_
                          refine HO_no rfl rfl rfl ?_
                          refine HO_pick_t rfl rfl rfl rfl ?_
                          refine HO_pick_t rfl rfl rfl rfl ?_
                          refine HO_move rfl rfl rfl ?_
                          refine HO_call (first := []) (capt := []) (is := []) (R := [_, _, _, _, _, _, _, _]) rfl rfl rfl rfl rfl Try.call31 rfl lives10_spec ?_
                          intro y102 hy102
                          clear y102 hy102
                          refine HO_pick_t rfl rfl rfl rfl ?_
                          refine HO_assign rfl rfl rfl ?_
                          refine HO_nil ?_
                          refine H_env (ρ' := [(6, _)]) ⟨rfl, trivial⟩ ?_
                          refine H_world (fun _ hA => hA.drop (is := [0, 1, 2, 3, 4, 5, 6, 7]) (Y := [_, _, _, _, _, _, _, _]) (Z := []) rfl) ?_
                          -- end15
                          refine H_ret1 Try.results12 (.tmp rfl) (fun w hA => ⟨(), congrArg Ending.returned ?_, ?_, ?_⟩)
                          · (exact congrArg Value.bool (by first | rfl | assumption | simp_all))
                          · trivial
                          · exact hA.only (is := []) (Z := []) rfl
                        · intro h95
                          (try simp only [decide_eq_true_eq, decide_eq_false_iff_not, Bool.not_eq_true', Bool.not_eq_false', Bool.not_eq_true, Bool.not_eq_false, Bool.true_eq_false, Bool.false_eq_true, not_false_eq_true, not_true_eq_false] at h95)
                          refine HO_loadA (i := 0) (us := []) (cs := [_, _, _, _, _]) (ts := []) rfl rfl rfl Try.isAgg47 Try.sizeOf47 rfl (.loc _ _ _) rfl rfl rfl rfl ?_
                          refine HO_loadA (i := 4) (us := []) (cs := [_, _, _, _, _]) (ts := []) rfl rfl rfl Try.isAgg47 Try.sizeOf47 rfl (.loc _ _ _) rfl rfl rfl rfl ?_
                          refine HO_dup (i := 1) rfl rfl ?_
                          refine HO_dup (i := 3) rfl rfl ?_
                          refine HO_dup (i := 5) rfl rfl ?_
                          refine HO_dup (i := 8) rfl rfl ?_
                          refine HO_dup (i := 10) rfl rfl ?_
                          refine HO_dup (i := 12) rfl rfl ?_
                          refine HO_call (first := []) (capt := []) (is := [0, 0, 0, 0, 0, 0]) (R := [_, _, _, _, _, _, _, _]) rfl rfl rfl rfl rfl Try.call59 rfl (rsamesnap_spec _ _ _ _ _ _ _ _ _ _ _ _ _ _ _ _ _ _ _ _ _ _) ?_
                          intro y98 hy98
                          clear y98 hy98
                          refine HO_pick_f rfl rfl rfl rfl ?_
                          refine HO_pick_t rfl rfl rfl rfl ?_
                          refine HO_move rfl rfl rfl ?_
                          refine HO_split (d := 101) rfl ?_ ?_
                          · intro h101
                            (try simp only [decide_eq_true_eq, decide_eq_false_iff_not, Bool.not_eq_true', Bool.not_eq_false', Bool.not_eq_true, Bool.not_eq_false, Bool.true_eq_false, Bool.false_eq_true, not_false_eq_true, not_true_eq_false] at h101)
                            refine HO_call (first := []) (capt := []) (is := []) (R := [_, _, _, _, _, _, _, _]) rfl rfl rfl rfl rfl Try.call31 rfl lives10_spec ?_
                            intro y102 hy102
                            clear y102 hy102
                            refine HO_pick_t rfl rfl rfl rfl ?_
                            refine HO_assign rfl rfl rfl ?_
                            refine HO_nil ?_
                            refine H_env (ρ' := [(6, _)]) ⟨rfl, trivial⟩ ?_
                            refine H_world (fun _ hA => hA.drop (is := [0, 1, 2, 3, 4, 5, 6, 7]) (Y := [_, _, _, _, _, _, _, _]) (Z := []) rfl) ?_
                            -- end16
                            refine H_ret1 Try.results12 (.tmp rfl) (fun w hA => ⟨(), congrArg Ending.returned ?_, ?_, ?_⟩)
                            · (exact congrArg Value.bool (by first | rfl | assumption | simp_all))
                            · trivial
                            · exact hA.only (is := []) (Z := []) rfl
                          · intro h101
                            (try simp only [decide_eq_true_eq, decide_eq_false_iff_not, Bool.not_eq_true', Bool.not_eq_false', Bool.not_eq_true, Bool.not_eq_false, Bool.true_eq_false, Bool.false_eq_true, not_false_eq_true, not_true_eq_false] at h101)
                            (exfalso; rw [hq3] at h95 h101; by_cases hg : Ent.goodSnap ⟨ix2, te2, ⟨vo2, le2⟩, da2⟩ = true <;> simp [hg] at h95 h101)
                      · intro h92
                        (try simp only [decide_eq_true_eq, decide_eq_false_iff_not, Bool.not_eq_true', Bool.not_eq_false', Bool.not_eq_true, Bool.not_eq_false, Bool.true_eq_false, Bool.false_eq_true, not_false_eq_true, not_true_eq_false] at h92)
                        (exfalso; rw [hq3] at h92; by_cases hg : Ent.goodSnap ⟨ix2, te2, ⟨vo2, le2⟩, da2⟩ = true <;> simp [hg] at h92)
                  · intro h81
                    (try simp only [decide_eq_true_eq, decide_eq_false_iff_not, Bool.not_eq_true', Bool.not_eq_false', Bool.not_eq_true, Bool.not_eq_false, Bool.true_eq_false, Bool.false_eq_true, not_false_eq_true, not_true_eq_false] at h81)
                    refine HO_no rfl rfl rfl ?_
                    refine HO_no rfl rfl rfl ?_
                    refine HO_no rfl rfl rfl ?_
                    refine HO_pick_f rfl rfl rfl rfl ?_
                    refine HO_pick_f rfl rfl rfl rfl ?_
                    refine HO_nil ?_
                    refine H_env (ρ' := [(86, _), (12, _), (11, _), (5, _)]) ⟨rfl, rfl, rfl, rfl, trivial⟩ ?_
                    refine H_world (fun _ hA => hA.drop (is := [4, 6]) (Y := [_, _]) (Z := [_, _, _, _, _, _, _, _]) rfl) ?_
                    refine H_cond rfl (fun h => nomatch h) (fun _ => ?_)
                    refine H_skip ?_
                    refine H_seq ?_
                    -- R10 law.go:89
                    refine H_region (l := [_, _, _, _, _, _, _, _, _, _, _, _, _, _, _, _, _, _]) rfl ?_
                    refine HO_loadA (i := 4) (us := []) (cs := [_, _, _, _, _]) (ts := []) rfl rfl rfl Try.isAgg47 Try.sizeOf47 rfl (.loc _ _ _) rfl rfl rfl rfl ?_
                    refine HO_dup (i := 5) rfl rfl ?_
                    refine HO_dup (i := 7) rfl rfl ?_
                    refine HO_dup (i := 9) rfl rfl ?_
                    refine HO_call (first := []) (capt := []) (is := [0, 0, 0]) (R := [_, _, _, _, _, _, _, _]) rfl rfl rfl rfl rfl Try.call32 rfl (goodsnap_spec _ _ _ _ _ _ _ _ _ _ _) ?_
                    intro y88 hy88
                    clear y88 hy88
                    refine HO_move rfl rfl rfl ?_
                    refine HO_bin rfl rfl rfl rfl bin_eql ?_
                    refine HO_bin rfl rfl rfl rfl (bin_eqb Try.runUnderlying4) ?_
                    refine HO_move rfl rfl rfl ?_
                    refine HO_split (d := 92) rfl ?_ ?_
                    · intro h92
                      (try simp only [decide_eq_true_eq, decide_eq_false_iff_not, Bool.not_eq_true', Bool.not_eq_false', Bool.not_eq_true, Bool.not_eq_false, Bool.true_eq_false, Bool.false_eq_true, not_false_eq_true, not_true_eq_false] at h92)
                      refine HO_move rfl rfl rfl ?_
                      refine HO_bin rfl rfl rfl rfl bin_neq ?_
                      refine HO_move rfl rfl rfl ?_
                      refine HO_split (d := 95) rfl ?_ ?_
                      · intro h95
                        (try simp only [decide_eq_true_eq, decide_eq_false_iff_not, Bool.not_eq_true', Bool.not_eq_false', Bool.not_eq_true, Bool.not_eq_false, Bool.true_eq_false, Bool.false_eq_true, not_false_eq_true, not_true_eq_false] at h95)
                        refine HO_no rfl rfl rfl ?_
                        refine HO_no rfl rfl rfl ?_
                        refine HO_no rfl rfl rfl ?_
                        refine HO_pick_t rfl rfl rfl rfl ?_
                        refine HO_pick_t rfl rfl rfl rfl ?_
                        refine HO_move rfl rfl rfl ?_
                        refine HO_call (first := []) (capt := []) (is := []) (R := [_, _, _, _, _, _, _, _]) rfl rfl rfl rfl rfl Try.call31 rfl lives10_spec ?_
                        intro y102 hy102
                        clear y102 hy102
                        refine HO_pick_t rfl rfl rfl rfl ?_
                        refine HO_assign rfl rfl rfl ?_
                        refine HO_nil ?_
                        refine H_env (ρ' := [(6, _)]) ⟨rfl, trivial⟩ ?_
                        refine H_world (fun _ hA => hA.drop (is := [0, 1, 2, 3, 4, 5, 6, 7]) (Y := [_, _, _, _, _, _, _, _]) (Z := []) rfl) ?_
                        -- end17
                        refine H_ret1 Try.results12 (.tmp rfl) (fun w hA => ⟨(), congrArg Ending.returned ?_, ?_, ?_⟩)
                        · (exact congrArg Value.bool (by first | rfl | assumption | simp_all))
                        · trivial
                        · exact hA.only (is := []) (Z := []) rfl
                      · intro h95
                        (try simp only [decide_eq_true_eq, decide_eq_false_iff_not, Bool.not_eq_true', Bool.not_eq_false', Bool.not_eq_true, Bool.not_eq_false, Bool.true_eq_false, Bool.false_eq_true, not_false_eq_true, not_true_eq_false] at h95)
                        refine HO_loadA (i := 0) (us := []) (cs := [_, _, _, _, _]) (ts := []) rfl rfl rfl Try.isAgg47 Try.sizeOf47 rfl (.loc _ _ _) rfl rfl rfl rfl ?_
                        refine HO_loadA (i := 4) (us := []) (cs := [_, _, _, _, _]) (ts := []) rfl rfl rfl Try.isAgg47 Try.sizeOf47 rfl (.loc _ _ _) rfl rfl rfl rfl ?_
                        refine HO_dup (i := 1) rfl rfl ?_
                        refine HO_dup (i := 3) rfl rfl ?_
                        refine HO_dup (i := 5) rfl rfl ?_
                        refine HO_dup (i := 8) rfl rfl ?_
                        refine HO_dup (i := 10) rfl rfl ?_
                        refine HO_dup (i := 12) rfl rfl ?_
                        refine HO_call (first := []) (capt := []) (is := [0, 0, 0, 0, 0, 0]) (R := [_, _, _, _, _, _, _, _]) rfl rfl rfl rfl rfl Try.call59 rfl (rsamesnap_spec _ _ _ _ _ _ _ _ _ _ _ _ _ _ _ _ _ _ _ _ _ _) ?_
                        intro y98 hy98
                        clear y98 hy98
                        refine HO_pick_f rfl rfl rfl rfl ?_
                        refine HO_pick_t rfl rfl rfl rfl ?_
                        refine HO_move rfl rfl rfl ?_
                        refine HO_split (d := 101) rfl ?_ ?_
                        · intro h101
                          (try simp only [decide_eq_true_eq, decide_eq_false_iff_not, Bool.not_eq_true', Bool.not_eq_false', Bool.not_eq_true, Bool.not_eq_false, Bool.true_eq_false, Bool.false_eq_true, not_false_eq_true, not_true_eq_false] at h101)
                          refine HO_call (first := []) (capt := []) (is := []) (R := [_, _, _, _, _, _, _, _]) rfl rfl rfl rfl rfl Try.call31 rfl lives10_spec ?_
                          intro y102 hy102
                          clear y102 hy102
                          refine HO_pick_t rfl rfl rfl rfl ?_
                          refine HO_assign rfl rfl rfl ?_
                          refine HO_nil ?_
                          refine H_env (ρ' := [(6, _)]) ⟨rfl, trivial⟩ ?_
                          refine H_world (fun _ hA => hA.drop (is := [0, 1, 2, 3, 4, 5, 6, 7]) (Y := [_, _, _, _, _, _, _, _]) (Z := []) rfl) ?_
                          -- end18
                          refine H_ret1 Try.results12 (.tmp rfl) (fun w hA => ⟨(), congrArg Ending.returned ?_, ?_, ?_⟩)
                          · (exact congrArg Value.bool (by first | rfl | assumption | simp_all))
                          · trivial
                          · exact hA.only (is := []) (Z := []) rfl
                        · intro h101
                          (try simp only [decide_eq_true_eq, decide_eq_false_iff_not, Bool.not_eq_true', Bool.not_eq_false', Bool.not_eq_true, Bool.not_eq_false, Bool.true_eq_false, Bool.false_eq_true, not_false_eq_true, not_true_eq_false] at h101)
                          (exfalso; rw [hq3] at h95 h101; by_cases hg : Ent.goodSnap ⟨ix2, te2, ⟨vo2, le2⟩, da2⟩ = true <;> simp [hg] at h95 h101)
                    · intro h92
                      (try simp only [decide_eq_true_eq, decide_eq_false_iff_not, Bool.not_eq_true', Bool.not_eq_false', Bool.not_eq_true, Bool.not_eq_false, Bool.true_eq_false, Bool.false_eq_true, not_false_eq_true, not_true_eq_false] at h92)
                      (exfalso; rw [hq3] at h92; by_cases hg : Ent.goodSnap ⟨ix2, te2, ⟨vo2, le2⟩, da2⟩ = true <;> simp [hg] at h92)
              · intro h72
                (try simp only [decide_eq_true_eq, decide_eq_false_iff_not, Bool.not_eq_true', Bool.not_eq_false', Bool.not_eq_true, Bool.not_eq_false, Bool.true_eq_false, Bool.false_eq_true, not_false_eq_true, not_true_eq_false] at h72)
                refine HO_no rfl rfl rfl ?_
                refine HO_no rfl rfl rfl ?_
                refine HO_no rfl rfl rfl ?_
                refine HO_pick_f rfl rfl rfl rfl ?_
                refine HO_bin rfl rfl rfl rfl (bin_neb Try.runUnderlying4) ?_
                refine HO_move rfl rfl rfl ?_
                refine HO_split (d := 78) rfl ?_ ?_
                · intro h78
                  (try simp only [decide_eq_true_eq, decide_eq_false_iff_not, Bool.not_eq_true', Bool.not_eq_false', Bool.not_eq_true, Bool.not_eq_false, Bool.true_eq_false, Bool.false_eq_true, not_false_eq_true, not_true_eq_false] at h78)
                  (exfalso; revert h78; rw [hq2]; by_cases hg : Ent.goodH ⟨ht, hu, hw⟩ = true <;> simp [hg] <;> simp_all [Ent.goodH] <;> omega)
                · intro h78
                  (try simp only [decide_eq_true_eq, decide_eq_false_iff_not, Bool.not_eq_true', Bool.not_eq_false', Bool.not_eq_true, Bool.not_eq_false, Bool.true_eq_false, Bool.false_eq_true, not_false_eq_true, not_true_eq_false] at h78)
                  refine HO_move rfl rfl rfl ?_
                  refine HO_bin rfl rfl rfl rfl bin_eql ?_
                  refine HO_move rfl rfl rfl ?_
                  refine HO_split (d := 81) rfl ?_ ?_
                  · intro h81
                    (try simp only [decide_eq_true_eq, decide_eq_false_iff_not, Bool.not_eq_true', Bool.not_eq_false', Bool.not_eq_true, Bool.not_eq_false, Bool.true_eq_false, Bool.false_eq_true, not_false_eq_true, not_true_eq_false] at h81)
                    refine HO_loadA (i := 4) (us := []) (cs := [_, _, _]) (ts := []) rfl rfl rfl Try.isAgg49 Try.sizeOf49 rfl (.loc _ _ _) rfl rfl rfl rfl ?_
                    refine HO_loadA (i := 6) (us := []) (cs := [_, _, _]) (ts := []) rfl rfl rfl Try.isAgg49 Try.sizeOf49 rfl (.loc _ _ _) rfl rfl rfl rfl ?_
                    refine HO_bin rfl rfl rfl rfl eq49_neq ?_
                    refine HO_pick_t rfl rfl rfl rfl ?_
                    refine HO_pick_f rfl rfl rfl rfl ?_
                    refine HO_nil ?_
                    refine H_env (ρ' := [(86, _), (12, _), (11, _), (5, _)]) ⟨rfl, rfl, rfl, rfl, trivial⟩ ?_
                    refine H_world (fun _ hA => hA.drop (is := [4, 6]) (Y := [_, _]) (Z := [_, _, _, _, _, _, _, _]) rfl) ?_
                    refine H_cond rfl ?_ ?_
                    · intro h86
                      (try simp only [decide_eq_true_eq, decide_eq_false_iff_not, Bool.not_eq_true', Bool.not_eq_false', Bool.not_eq_true, Bool.not_eq_false, Bool.true_eq_false, Bool.false_eq_true, not_false_eq_true, not_true_eq_false] at h86)
                      (exfalso; rw [hq2] at h81 h86; by_cases hg : Ent.goodH ⟨ht, hu, hw⟩ = true <;> simp [hg] at h81 h86)
                    · intro h86
                      (try simp only [decide_eq_true_eq, decide_eq_false_iff_not, Bool.not_eq_true', Bool.not_eq_false', Bool.not_eq_true, Bool.not_eq_false, Bool.true_eq_false, Bool.false_eq_true, not_false_eq_true, not_true_eq_false] at h86)
                      refine H_skip ?_
                      refine H_seq ?_
                      -- R10 law.go:89
                      refine H_region (l := [_, _, _, _, _, _, _, _, _, _, _, _, _, _, _, _, _, _]) rfl ?_
                      refine HO_loadA (i := 4) (us := []) (cs := [_, _, _, _, _]) (ts := []) rfl rfl rfl Try.isAgg47 Try.sizeOf47 rfl (.loc _ _ _) rfl rfl rfl rfl ?_
                      refine HO_dup (i := 5) rfl rfl ?_
                      refine HO_dup (i := 7) rfl rfl ?_
                      refine HO_dup (i := 9) rfl rfl ?_
                      refine HO_call (first := []) (capt := []) (is := [0, 0, 0]) (R := [_, _, _, _, _, _, _, _]) rfl rfl rfl rfl rfl Try.call32 rfl (goodsnap_spec _ _ _ _ _ _ _ _ _ _ _) ?_
                      intro y88 hy88
                      clear y88 hy88
                      refine HO_move rfl rfl rfl ?_
                      refine HO_bin rfl rfl rfl rfl bin_eql ?_
                      refine HO_bin rfl rfl rfl rfl (bin_eqb Try.runUnderlying4) ?_
                      refine HO_move rfl rfl rfl ?_
                      refine HO_split (d := 92) rfl ?_ ?_
                      · intro h92
                        (try simp only [decide_eq_true_eq, decide_eq_false_iff_not, Bool.not_eq_true', Bool.not_eq_false', Bool.not_eq_true, Bool.not_eq_false, Bool.true_eq_false, Bool.false_eq_true, not_false_eq_true, not_true_eq_false] at h92)
                        refine HO_move rfl rfl rfl ?_
                        refine HO_bin rfl rfl rfl rfl bin_neq ?_
                        refine HO_move rfl rfl rfl ?_
                        refine HO_split (d := 95) rfl ?_ ?_
                        · intro h95
                          (try simp only [decide_eq_true_eq, decide_eq_false_iff_not, Bool.not_eq_true', Bool.not_eq_false', Bool.not_eq_true, Bool.not_eq_false, Bool.true_eq_false, Bool.false_eq_true, not_false_eq_true, not_true_eq_false] at h95)
                          refine HO_no rfl rfl rfl ?_
                          refine HO_no rfl rfl rfl ?_
                          refine HO_no rfl rfl rfl ?_
                          refine HO_pick_t rfl rfl rfl rfl ?_
                          refine HO_pick_t rfl rfl rfl rfl ?_
                          refine HO_move rfl rfl rfl ?_
                          refine HO_call (first := []) (capt := []) (is := []) (R := [_, _, _, _, _, _, _, _]) rfl rfl rfl rfl rfl Try.call31 rfl lives10_spec ?_
                          intro y102 hy102
                          clear y102 hy102
                          refine HO_pick_t rfl rfl rfl rfl ?_
                          refine HO_assign rfl rfl rfl ?_
                          refine HO_nil ?_
                          refine H_env (ρ' := [(6, _)]) ⟨rfl, trivial⟩ ?_
                          refine H_world (fun _ hA => hA.drop (is := [0, 1, 2, 3, 4, 5, 6, 7]) (Y := [_, _, _, _, _, _, _, _]) (Z := []) rfl) ?_
                          -- end19
                          refine H_ret1 Try.results12 (.tmp rfl) (fun w hA => ⟨(), congrArg Ending.returned ?_, ?_, ?_⟩)
                          · (exact congrArg Value.bool (by first | rfl | assumption | simp_all))
                          · trivial
                          · exact hA.only (is := []) (Z := []) rfl
                        · intro h95
                          (try simp only [decide_eq_true_eq, decide_eq_false_iff_not, Bool.not_eq_true', Bool.not_eq_false', Bool.not_eq_true, Bool.not_eq_false, Bool.true_eq_false, Bool.false_eq_true, not_false_eq_true, not_true_eq_false] at h95)
                          refine HO_loadA (i := 0) (us := []) (cs := [_, _, _, _, _]) (ts := []) rfl rfl rfl Try.isAgg47 Try.sizeOf47 rfl (.loc _ _ _) rfl rfl rfl rfl ?_
                          refine HO_loadA (i := 4) (us := []) (cs := [_, _, _, _, _]) (ts := []) rfl rfl rfl Try.isAgg47 Try.sizeOf47 rfl (.loc _ _ _) rfl rfl rfl rfl ?_
                          refine HO_dup (i := 1) rfl rfl ?_
                          refine HO_dup (i := 3) rfl rfl ?_
                          refine HO_dup (i := 5) rfl rfl ?_
                          refine HO_dup (i := 8) rfl rfl ?_
                          refine HO_dup (i := 10) rfl rfl ?_
                          refine HO_dup (i := 12) rfl rfl ?_
                          refine HO_call (first := []) (capt := []) (is := [0, 0, 0, 0, 0, 0]) (R := [_, _, _, _, _, _, _, _]) rfl rfl rfl rfl rfl Try.call59 rfl (rsamesnap_spec _ _ _ _ _ _ _ _ _ _ _ _ _ _ _ _ _ _ _ _ _ _) ?_
                          intro y98 hy98
                          clear y98 hy98
                          refine HO_pick_f rfl rfl rfl rfl ?_
                          refine HO_pick_t rfl rfl rfl rfl ?_
                          refine HO_move rfl rfl rfl ?_
                          refine HO_split (d := 101) rfl ?_ ?_
                          · intro h101
                            (try simp only [decide_eq_true_eq, decide_eq_false_iff_not, Bool.not_eq_true', Bool.not_eq_false', Bool.not_eq_true, Bool.not_eq_false, Bool.true_eq_false, Bool.false_eq_true, not_false_eq_true, not_true_eq_false] at h101)
                            refine HO_call (first := []) (capt := []) (is := []) (R := [_, _, _, _, _, _, _, _]) rfl rfl rfl rfl rfl Try.call31 rfl lives10_spec ?_
                            intro y102 hy102
                            clear y102 hy102
                            refine HO_pick_t rfl rfl rfl rfl ?_
                            refine HO_assign rfl rfl rfl ?_
                            refine HO_nil ?_
                            refine H_env (ρ' := [(6, _)]) ⟨rfl, trivial⟩ ?_
                            refine H_world (fun _ hA => hA.drop (is := [0, 1, 2, 3, 4, 5, 6, 7]) (Y := [_, _, _, _, _, _, _, _]) (Z := []) rfl) ?_
                            -- end20
                            refine H_ret1 Try.results12 (.tmp rfl) (fun w hA => ⟨(), congrArg Ending.returned ?_, ?_, ?_⟩)
                            · (exact congrArg Value.bool (by first | rfl | assumption | simp_all))
                            · trivial
                            · exact hA.only (is := []) (Z := []) rfl
                          · intro h101
                            (try simp only [decide_eq_true_eq, decide_eq_false_iff_not, Bool.not_eq_true', Bool.not_eq_false', Bool.not_eq_true, Bool.not_eq_false, Bool.true_eq_false, Bool.false_eq_true, not_false_eq_true, not_true_eq_false] at h101)
                            (exfalso; rw [hq3] at h95 h101; by_cases hg : Ent.goodSnap ⟨ix2, te2, ⟨vo2, le2⟩, da2⟩ = true <;> simp [hg] at h95 h101)
                      · intro h92
                        (try simp only [decide_eq_true_eq, decide_eq_false_iff_not, Bool.not_eq_true', Bool.not_eq_false', Bool.not_eq_true, Bool.not_eq_false, Bool.true_eq_false, Bool.false_eq_true, not_false_eq_true, not_true_eq_false] at h92)
                        (exfalso; rw [hq3] at h92; by_cases hg : Ent.goodSnap ⟨ix2, te2, ⟨vo2, le2⟩, da2⟩ = true <;> simp [hg] at h92)
                  · intro h81
                    (try simp only [decide_eq_true_eq, decide_eq_false_iff_not, Bool.not_eq_true', Bool.not_eq_false', Bool.not_eq_true, Bool.not_eq_false, Bool.true_eq_false, Bool.false_eq_true, not_false_eq_true, not_true_eq_false] at h81)
                    refine HO_no rfl rfl rfl ?_
                    refine HO_no rfl rfl rfl ?_
                    refine HO_no rfl rfl rfl ?_
                    refine HO_pick_f rfl rfl rfl rfl ?_
                    refine HO_pick_f rfl rfl rfl rfl ?_
                    refine HO_nil ?_
                    refine H_env (ρ' := [(86, _), (12, _), (11, _), (5, _)]) ⟨rfl, rfl, rfl, rfl, trivial⟩ ?_
                    refine H_world (fun _ hA => hA.drop (is := [4, 6]) (Y := [_, _]) (Z := [_, _, _, _, _, _, _, _]) rfl) ?_
                    refine H_cond rfl (fun h => nomatch h) (fun _ => ?_)
                    refine H_skip ?_
                    refine H_seq ?_
                    -- R10 law.go:89
                    refine H_region (l := [_, _, _, _, _, _, _, _, _, _, _, _, _, _, _, _, _, _]) rfl ?_
                    refine HO_loadA (i := 4) (us := []) (cs := [_, _, _, _, _]) (ts := []) rfl rfl rfl Try.isAgg47 Try.sizeOf47 rfl (.loc _ _ _) rfl rfl rfl rfl ?_
                    refine HO_dup (i := 5) rfl rfl ?_
                    refine HO_dup (i := 7) rfl rfl ?_
                    refine HO_dup (i := 9) rfl rfl ?_
                    refine HO_call (first := []) (capt := []) (is := [0, 0, 0]) (R := [_, _, _, _, _, _, _, _]) rfl rfl rfl rfl rfl Try.call32 rfl (goodsnap_spec _ _ _ _ _ _ _ _ _ _ _) ?_
                    intro y88 hy88
                    clear y88 hy88
                    refine HO_move rfl rfl rfl ?_
                    refine HO_bin rfl rfl rfl rfl bin_eql ?_
                    refine HO_bin rfl rfl rfl rfl (bin_eqb Try.runUnderlying4) ?_
                    refine HO_move rfl rfl rfl ?_
                    refine HO_split (d := 92) rfl ?_ ?_
                    · intro h92
                      (try simp only [decide_eq_true_eq, decide_eq_false_iff_not, Bool.not_eq_true', Bool.not_eq_false', Bool.not_eq_true, Bool.not_eq_false, Bool.true_eq_false, Bool.false_eq_true, not_false_eq_true, not_true_eq_false] at h92)
                      refine HO_move rfl rfl rfl ?_
                      refine HO_bin rfl rfl rfl rfl bin_neq ?_
                      refine HO_move rfl rfl rfl ?_
                      refine HO_split (d := 95) rfl ?_ ?_
                      · intro h95
                        (try simp only [decide_eq_true_eq, decide_eq_false_iff_not, Bool.not_eq_true', Bool.not_eq_false', Bool.not_eq_true, Bool.not_eq_false, Bool.true_eq_false, Bool.false_eq_true, not_false_eq_true, not_true_eq_false] at h95)
                        refine HO_no rfl rfl rfl ?_
                        refine HO_no rfl rfl rfl ?_
                        refine HO_no rfl rfl rfl ?_
                        refine HO_pick_t rfl rfl rfl rfl ?_
                        refine HO_pick_t rfl rfl rfl rfl ?_
                        refine HO_move rfl rfl rfl ?_
                        refine HO_call (first := []) (capt := []) (is := []) (R := [_, _, _, _, _, _, _, _]) rfl rfl rfl rfl rfl Try.call31 rfl lives10_spec ?_
                        intro y102 hy102
                        clear y102 hy102
                        refine HO_pick_t rfl rfl rfl rfl ?_
                        refine HO_assign rfl rfl rfl ?_
                        refine HO_nil ?_
                        refine H_env (ρ' := [(6, _)]) ⟨rfl, trivial⟩ ?_
                        refine H_world (fun _ hA => hA.drop (is := [0, 1, 2, 3, 4, 5, 6, 7]) (Y := [_, _, _, _, _, _, _, _]) (Z := []) rfl) ?_
                        -- end21
                        refine H_ret1 Try.results12 (.tmp rfl) (fun w hA => ⟨(), congrArg Ending.returned ?_, ?_, ?_⟩)
                        · (exact congrArg Value.bool (by first | rfl | assumption | simp_all))
                        · trivial
                        · exact hA.only (is := []) (Z := []) rfl
                      · intro h95
                        (try simp only [decide_eq_true_eq, decide_eq_false_iff_not, Bool.not_eq_true', Bool.not_eq_false', Bool.not_eq_true, Bool.not_eq_false, Bool.true_eq_false, Bool.false_eq_true, not_false_eq_true, not_true_eq_false] at h95)
                        refine HO_loadA (i := 0) (us := []) (cs := [_, _, _, _, _]) (ts := []) rfl rfl rfl Try.isAgg47 Try.sizeOf47 rfl (.loc _ _ _) rfl rfl rfl rfl ?_
                        refine HO_loadA (i := 4) (us := []) (cs := [_, _, _, _, _]) (ts := []) rfl rfl rfl Try.isAgg47 Try.sizeOf47 rfl (.loc _ _ _) rfl rfl rfl rfl ?_
                        refine HO_dup (i := 1) rfl rfl ?_
                        refine HO_dup (i := 3) rfl rfl ?_
                        refine HO_dup (i := 5) rfl rfl ?_
                        refine HO_dup (i := 8) rfl rfl ?_
                        refine HO_dup (i := 10) rfl rfl ?_
                        refine HO_dup (i := 12) rfl rfl ?_
                        refine HO_call (first := []) (capt := []) (is := [0, 0, 0, 0, 0, 0]) (R := [_, _, _, _, _, _, _, _]) rfl rfl rfl rfl rfl Try.call59 rfl (rsamesnap_spec _ _ _ _ _ _ _ _ _ _ _ _ _ _ _ _ _ _ _ _ _ _) ?_
                        intro y98 hy98
                        clear y98 hy98
                        refine HO_pick_f rfl rfl rfl rfl ?_
                        refine HO_pick_t rfl rfl rfl rfl ?_
                        refine HO_move rfl rfl rfl ?_
                        refine HO_split (d := 101) rfl ?_ ?_
                        · intro h101
                          (try simp only [decide_eq_true_eq, decide_eq_false_iff_not, Bool.not_eq_true', Bool.not_eq_false', Bool.not_eq_true, Bool.not_eq_false, Bool.true_eq_false, Bool.false_eq_true, not_false_eq_true, not_true_eq_false] at h101)
                          refine HO_call (first := []) (capt := []) (is := []) (R := [_, _, _, _, _, _, _, _]) rfl rfl rfl rfl rfl Try.call31 rfl lives10_spec ?_
                          intro y102 hy102
                          clear y102 hy102
                          refine HO_pick_t rfl rfl rfl rfl ?_
                          refine HO_assign rfl rfl rfl ?_
                          refine HO_nil ?_
                          refine H_env (ρ' := [(6, _)]) ⟨rfl, trivial⟩ ?_
                          refine H_world (fun _ hA => hA.drop (is := [0, 1, 2, 3, 4, 5, 6, 7]) (Y := [_, _, _, _, _, _, _, _]) (Z := []) rfl) ?_
                          -- end22
                          refine H_ret1 Try.results12 (.tmp rfl) (fun w hA => ⟨(), congrArg Ending.returned ?_, ?_, ?_⟩)
                          · (exact congrArg Value.bool (by first | rfl | assumption | simp_all))
                          · trivial
                          · exact hA.only (is := []) (Z := []) rfl
                        · intro h101
                          (try simp only [decide_eq_true_eq, decide_eq_false_iff_not, Bool.not_eq_true', Bool.not_eq_false', Bool.not_eq_true, Bool.not_eq_false, Bool.true_eq_false, Bool.false_eq_true, not_false_eq_true, not_true_eq_false] at h101)
                          (exfalso; rw [hq3] at h95 h101; by_cases hg : Ent.goodSnap ⟨ix2, te2, ⟨vo2, le2⟩, da2⟩ = true <;> simp [hg] at h95 h101)
                    · intro h92
                      (try simp only [decide_eq_true_eq, decide_eq_false_iff_not, Bool.not_eq_true', Bool.not_eq_false', Bool.not_eq_true, Bool.not_eq_false, Bool.true_eq_false, Bool.false_eq_true, not_false_eq_true, not_true_eq_false] at h92)
                      (exfalso; rw [hq3] at h92; by_cases hg : Ent.goodSnap ⟨ix2, te2, ⟨vo2, le2⟩, da2⟩ = true <;> simp [hg] at h92)
            · intro h67
              (try simp only [decide_eq_true_eq, decide_eq_false_iff_not, Bool.not_eq_true', Bool.not_eq_false', Bool.not_eq_true, Bool.not_eq_false, Bool.true_eq_false, Bool.false_eq_true, not_false_eq_true, not_true_eq_false] at h67)
              refine HO_no rfl rfl rfl ?_
              refine HO_no rfl rfl rfl ?_
              refine HO_no rfl rfl rfl ?_
              refine HO_pick_f rfl rfl rfl rfl ?_
              refine HO_move rfl rfl rfl ?_
              refine HO_no rfl rfl rfl ?_
              refine HO_no rfl rfl rfl ?_
              refine HO_no rfl rfl rfl ?_
              refine HO_pick_f rfl rfl rfl rfl ?_
              refine HO_bin rfl rfl rfl rfl (bin_neb Try.runUnderlying4) ?_
              refine HO_move rfl rfl rfl ?_
              refine HO_split (d := 78) rfl ?_ ?_
              · intro h78
                (try simp only [decide_eq_true_eq, decide_eq_false_iff_not, Bool.not_eq_true', Bool.not_eq_false', Bool.not_eq_true, Bool.not_eq_false, Bool.true_eq_false, Bool.false_eq_true, not_false_eq_true, not_true_eq_false] at h78)
                (exfalso; revert h78; rw [hq2]; by_cases hg : Ent.goodH ⟨ht, hu, hw⟩ = true <;> simp [hg] <;> simp_all [Ent.goodH] <;> omega)
              · intro h78
                (try simp only [decide_eq_true_eq, decide_eq_false_iff_not, Bool.not_eq_true', Bool.not_eq_false', Bool.not_eq_true, Bool.not_eq_false, Bool.true_eq_false, Bool.false_eq_true, not_false_eq_true, not_true_eq_false] at h78)
                refine HO_move rfl rfl rfl ?_
                refine HO_bin rfl rfl rfl rfl bin_eql ?_
                refine HO_move rfl rfl rfl ?_
                refine HO_split (d := 81) rfl ?_ ?_
                · intro h81
                  (try simp only [decide_eq_true_eq, decide_eq_false_iff_not, Bool.not_eq_true', Bool.not_eq_false', Bool.not_eq_true, Bool.not_eq_false, Bool.true_eq_false, Bool.false_eq_true, not_false_eq_true, not_true_eq_false] at h81)
                  refine HO_loadA (i := 4) (us := []) (cs := [_, _, _]) (ts := []) rfl rfl rfl Try.isAgg49 Try.sizeOf49 rfl (.loc _ _ _) rfl rfl rfl rfl ?_
                  refine HO_loadA (i := 6) (us := []) (cs := [_, _, _]) (ts := []) rfl rfl rfl Try.isAgg49 Try.sizeOf49 rfl (.loc _ _ _) rfl rfl rfl rfl ?_
                  refine HO_bin rfl rfl rfl rfl eq49_neq ?_
                  refine HO_pick_t rfl rfl rfl rfl ?_
                  refine HO_pick_f rfl rfl rfl rfl ?_
                  refine HO_nil ?_
                  refine H_env (ρ' := [(86, _), (12, _), (11, _), (5, _)]) ⟨rfl, rfl, rfl, rfl, trivial⟩ ?_
                  refine H_world (fun _ hA => hA.drop (is := [4, 6]) (Y := [_, _]) (Z := [_, _, _, _, _, _, _, _]) rfl) ?_
                  refine H_cond rfl ?_ ?_
                  · intro h86
                    (try simp only [decide_eq_true_eq, decide_eq_false_iff_not, Bool.not_eq_true', Bool.not_eq_false', Bool.not_eq_true, Bool.not_eq_false, Bool.true_eq_false, Bool.false_eq_true, not_false_eq_true, not_true_eq_false] at h86)
                    (exfalso; rw [hq2] at h81 h86; by_cases hg : Ent.goodH ⟨ht, hu, hw⟩ = true <;> simp [hg] at h81 h86)
                  · intro h86
                    (try simp only [decide_eq_true_eq, decide_eq_false_iff_not, Bool.not_eq_true', Bool.not_eq_false', Bool.not_eq_true, Bool.not_eq_false, Bool.true_eq_false, Bool.false_eq_true, not_false_eq_true, not_true_eq_false] at h86)
                    refine H_skip ?_
                    refine H_seq ?_
                    -- R10 law.go:89
                    refine H_region (l := [_, _, _, _, _, _, _, _, _, _, _, _, _, _, _, _, _, _]) rfl ?_
                    refine HO_loadA (i := 4) (us := []) (cs := [_, _, _, _, _]) (ts := []) rfl rfl rfl Try.isAgg47 Try.sizeOf47 rfl (.loc _ _ _) rfl rfl rfl rfl ?_
                    refine HO_dup (i := 5) rfl rfl ?_
                    refine HO_dup (i := 7) rfl rfl ?_
                    refine HO_dup (i := 9) rfl rfl ?_
                    refine HO_call (first := []) (capt := []) (is := [0, 0, 0]) (R := [_, _, _, _, _, _, _, _]) rfl rfl rfl rfl rfl Try.call32 rfl (goodsnap_spec _ _ _ _ _ _ _ _ _ _ _) ?_
                    intro y88 hy88
                    clear y88 hy88
                    refine HO_move rfl rfl rfl ?_
                    refine HO_bin rfl rfl rfl rfl bin_eql ?_
                    refine HO_bin rfl rfl rfl rfl (bin_eqb Try.runUnderlying4) ?_
                    refine HO_move rfl rfl rfl ?_
                    refine HO_split (d := 92) rfl ?_ ?_
                    · intro h92
                      (try simp only [decide_eq_true_eq, decide_eq_false_iff_not, Bool.not_eq_true', Bool.not_eq_false', Bool.not_eq_true, Bool.not_eq_false, Bool.true_eq_false, Bool.false_eq_true, not_false_eq_true, not_true_eq_false] at h92)
                      refine HO_move rfl rfl rfl ?_
                      refine HO_bin rfl rfl rfl rfl bin_neq ?_
                      refine HO_move rfl rfl rfl ?_
                      refine HO_split (d := 95) rfl ?_ ?_
                      · intro h95
                        (try simp only [decide_eq_true_eq, decide_eq_false_iff_not, Bool.not_eq_true', Bool.not_eq_false', Bool.not_eq_true, Bool.not_eq_false, Bool.true_eq_false, Bool.false_eq_true, not_false_eq_true, not_true_eq_false] at h95)
                        refine HO_no rfl rfl rfl ?_
                        refine HO_no rfl rfl rfl ?_
                        refine HO_no rfl rfl rfl ?_
                        refine HO_pick_t rfl rfl rfl rfl ?_
                        refine HO_pick_t rfl rfl rfl rfl ?_
                        refine HO_move rfl rfl rfl ?_
                        refine HO_call (first := []) (capt := []) (is := []) (R := [_, _, _, _, _, _, _, _]) rfl rfl rfl rfl rfl Try.call31 rfl lives10_spec ?_
                        intro y102 hy102
                        clear y102 hy102
                        refine HO_pick_t rfl rfl rfl rfl ?_
                        refine HO_assign rfl rfl rfl ?_
                        refine HO_nil ?_
                        refine H_env (ρ' := [(6, _)]) ⟨rfl, trivial⟩ ?_
                        refine H_world (fun _ hA => hA.drop (is := [0, 1, 2, 3, 4, 5, 6, 7]) (Y := [_, _, _, _, _, _, _, _]) (Z := []) rfl) ?_
                        -- end23
                        refine H_ret1 Try.results12 (.tmp rfl) (fun w hA => ⟨(), congrArg Ending.returned ?_, ?_, ?_⟩)
                        · (exact congrArg Value.bool (by first | rfl | assumption | simp_all))
                        · trivial
                        · exact hA.only (is := []) (Z := []) rfl
                      · intro h95
                        (try simp only [decide_eq_true_eq, decide_eq_false_iff_not, Bool.not_eq_true', Bool.not_eq_false', Bool.not_eq_true, Bool.not_eq_false, Bool.true_eq_false, Bool.false_eq_true, not_false_eq_true, not_true_eq_false] at h95)
                        refine HO_loadA (i := 0) (us := []) (cs := [_, _, _, _, _]) (ts := []) rfl rfl rfl Try.isAgg47 Try.sizeOf47 rfl (.loc _ _ _) rfl rfl rfl rfl ?_
                        refine HO_loadA (i := 4) (us := []) (cs := [_, _, _, _, _]) (ts := []) rfl rfl rfl Try.isAgg47 Try.sizeOf47 rfl (.loc _ _ _) rfl rfl rfl rfl ?_
                        refine HO_dup (i := 1) rfl rfl ?_
                        refine HO_dup (i := 3) rfl rfl ?_
                        refine HO_dup (i := 5) rfl rfl ?_
                        refine HO_dup (i := 8) rfl rfl ?_
                        refine HO_dup (i := 10) rfl rfl ?_
                        refine HO_dup (i := 12) rfl rfl ?_
                        refine HO_call (first := []) (capt := []) (is := [0, 0, 0, 0, 0, 0]) (R := [_, _, _, _, _, _, _, _]) rfl rfl rfl rfl rfl Try.call59 rfl (rsamesnap_spec _ _ _ _ _ _ _ _ _ _ _ _ _ _ _ _ _ _ _ _ _ _) ?_
                        intro y98 hy98
                        clear y98 hy98
                        refine HO_pick_f rfl rfl rfl rfl ?_
                        refine HO_pick_t rfl rfl rfl rfl ?_
                        refine HO_move rfl rfl rfl ?_
                        refine HO_split (d := 101) rfl ?_ ?_
                        · intro h101
                          (try simp only [decide_eq_true_eq, decide_eq_false_iff_not, Bool.not_eq_true', Bool.not_eq_false', Bool.not_eq_true, Bool.not_eq_false, Bool.true_eq_false, Bool.false_eq_true, not_false_eq_true, not_true_eq_false] at h101)
                          refine HO_call (first := []) (capt := []) (is := []) (R := [_, _, _, _, _, _, _, _]) rfl rfl rfl rfl rfl Try.call31 rfl lives10_spec ?_
                          intro y102 hy102
                          clear y102 hy102
                          refine HO_pick_t rfl rfl rfl rfl ?_
                          refine HO_assign rfl rfl rfl ?_
                          refine HO_nil ?_
                          refine H_env (ρ' := [(6, _)]) ⟨rfl, trivial⟩ ?_
                          refine H_world (fun _ hA => hA.drop (is := [0, 1, 2, 3, 4, 5, 6, 7]) (Y := [_, _, _, _, _, _, _, _]) (Z := []) rfl) ?_
                          -- end24
                          refine H_ret1 Try.results12 (.tmp rfl) (fun w hA => ⟨(), congrArg Ending.returned ?_, ?_, ?_⟩)
                          · (exact congrArg Value.bool (by first | rfl | assumption | simp_all))
                          · trivial
                          · exact hA.only (is := []) (Z := []) rfl
                        · intro h101
                          (try simp only [decide_eq_true_eq, decide_eq_false_iff_not, Bool.not_eq_true', Bool.not_eq_false', Bool.not_eq_true, Bool.not_eq_false, Bool.true_eq_false, Bool.false_eq_true, not_false_eq_true, not_true_eq_false] at h101)
                          (exfalso; rw [hq3] at h95 h101; by_cases hg : Ent.goodSnap ⟨ix2, te2, ⟨vo2, le2⟩, da2⟩ = true <;> simp [hg] at h95 h101)
                    · intro h92
                      (try simp only [decide_eq_true_eq, decide_eq_false_iff_not, Bool.not_eq_true', Bool.not_eq_false', Bool.not_eq_true, Bool.not_eq_false, Bool.true_eq_false, Bool.false_eq_true, not_false_eq_true, not_true_eq_false] at h92)
                      (exfalso; rw [hq3] at h92; by_cases hg : Ent.goodSnap ⟨ix2, te2, ⟨vo2, le2⟩, da2⟩ = true <;> simp [hg] at h92)
                · intro h81
                  (try simp only [decide_eq_true_eq, decide_eq_false_iff_not, Bool.not_eq_true', Bool.not_eq_false', Bool.not_eq_true, Bool.not_eq_false, Bool.true_eq_false, Bool.false_eq_true, not_false_eq_true, not_true_eq_false] at h81)
                  refine HO_no rfl rfl rfl ?_
                  refine HO_no rfl rfl rfl ?_
                  refine HO_no rfl rfl rfl ?_
                  refine HO_pick_f rfl rfl rfl rfl ?_
                  refine HO_pick_f rfl rfl rfl rfl ?_
                  refine HO_nil ?_
                  refine H_env (ρ' := [(86, _), (12, _), (11, _), (5, _)]) ⟨rfl, rfl, rfl, rfl, trivial⟩ ?_
                  refine H_world (fun _ hA => hA.drop (is := [4, 6]) (Y := [_, _]) (Z := [_, _, _, _, _, _, _, _]) rfl) ?_
                  refine H_cond rfl (fun h => nomatch h) (fun _ => ?_)
                  refine H_skip ?_
                  refine H_seq ?_
                  -- R10 law.go:89
                  refine H_region (l := [_, _, _, _, _, _, _, _, _, _, _, _, _, _, _, _, _, _]) rfl ?_
                  refine HO_loadA (i := 4) (us := []) (cs := [_, _, _, _, _]) (ts := []) rfl rfl rfl Try.isAgg47 Try.sizeOf47 rfl (.loc _ _ _) rfl rfl rfl rfl ?_
                  refine HO_dup (i := 5) rfl rfl ?_
                  refine HO_dup (i := 7) rfl rfl ?_
                  refine HO_dup (i := 9) rfl rfl ?_
                  refine HO_call (first := []) (capt := []) (is := [0, 0, 0]) (R := [_, _, _, _, _, _, _, _]) rfl rfl rfl rfl rfl Try.call32 rfl (goodsnap_spec _ _ _ _ _ _ _ _ _ _ _) ?_
                  intro y88 hy88
                  clear y88 hy88
                  refine HO_move rfl rfl rfl ?_
                  refine HO_bin rfl rfl rfl rfl bin_eql ?_
                  refine HO_bin rfl rfl rfl rfl (bin_eqb Try.runUnderlying4) ?_
                  refine HO_move rfl rfl rfl ?_
                  refine HO_split (d := 92) rfl ?_ ?_
                  · intro h92
                    (try simp only [decide_eq_true_eq, decide_eq_false_iff_not, Bool.not_eq_true', Bool.not_eq_false', Bool.not_eq_true, Bool.not_eq_false, Bool.true_eq_false, Bool.false_eq_true, not_false_eq_true, not_true_eq_false] at h92)
                    refine HO_move rfl rfl rfl ?_
                    refine HO_bin rfl rfl rfl rfl bin_neq ?_
                    refine HO_move rfl rfl rfl ?_
                    refine HO_split (d := 95) rfl ?_ ?_
                    · intro h95
                      (try simp only [decide_eq_true_eq, decide_eq_false_iff_not, Bool.not_eq_true', Bool.not_eq_false', Bool.not_eq_true, Bool.not_eq_false, Bool.true_eq_false, Bool.false_eq_true, not_false_eq_true, not_true_eq_false] at h95)
                      refine HO_no rfl rfl rfl ?_
                      refine HO_no rfl rfl rfl ?_
                      refine HO_no rfl rfl rfl ?_
                      refine HO_pick_t rfl rfl rfl rfl ?_
                      refine HO_pick_t rfl rfl rfl rfl ?_
                      refine HO_move rfl rfl rfl ?_
                      refine HO_call (first := []) (capt := []) (is := []) (R := [_, _, _, _, _, _, _, _]) rfl rfl rfl rfl rfl Try.call31 rfl lives10_spec ?_
                      intro y102 hy102
                      clear y102 hy102
                      refine HO_pick_t rfl rfl rfl rfl ?_
                      refine HO_assign rfl rfl rfl ?_
                      refine HO_nil ?_
                      refine H_env (ρ' := [(6, _)]) ⟨rfl, trivial⟩ ?_
                      refine H_world (fun _ hA => hA.drop (is := [0, 1, 2, 3, 4, 5, 6, 7]) (Y := [_, _, _, _, _, _, _, _]) (Z := []) rfl) ?_
                      -- end25
                      refine H_ret1 Try.results12 (.tmp rfl) (fun w hA => ⟨(), congrArg Ending.returned ?_, ?_, ?_⟩)
                      · (exact congrArg Value.bool (by first | rfl | assumption | simp_all))
                      · trivial
                      · exact hA.only (is := []) (Z := []) rfl
                    · intro h95
                      (try simp only [decide_eq_true_eq, decide_eq_false_iff_not, Bool.not_eq_true', Bool.not_eq_false', Bool.not_eq_true, Bool.not_eq_false, Bool.true_eq_false, Bool.false_eq_true, not_false_eq_true, not_true_eq_false] at h95)
                      refine HO_loadA (i := 0) (us := []) (cs := [_, _, _, _, _]) (ts := []) rfl rfl rfl Try.isAgg47 Try.sizeOf47 rfl (.loc _ _ _) rfl rfl rfl rfl ?_
                      refine HO_loadA (i := 4) (us := []) (cs := [_, _, _, _, _]) (ts := []) rfl rfl rfl Try.isAgg47 Try.sizeOf47 rfl (.loc _ _ _) rfl rfl rfl rfl ?_
                      refine HO_dup (i := 1) rfl rfl ?_
                      refine HO_dup (i := 3) rfl rfl ?_
                      refine HO_dup (i := 5) rfl rfl ?_
                      refine HO_dup (i := 8) rfl rfl ?_
                      refine HO_dup (i := 10) rfl rfl ?_
                      refine HO_dup (i := 12) rfl rfl ?_
                      refine HO_call (first := []) (capt := []) (is := [0, 0, 0, 0, 0, 0]) (R := [_, _, _, _, _, _, _, _]) rfl rfl rfl rfl rfl Try.call59 rfl (rsamesnap_spec _ _ _ _ _ _ _ _ _ _ _ _ _ _ _ _ _ _ _ _ _ _) ?_
                      intro y98 hy98
                      clear y98 hy98
                      refine HO_pick_f rfl rfl rfl rfl ?_
                      refine HO_pick_t rfl rfl rfl rfl ?_
                      refine HO_move rfl rfl rfl ?_
                      refine HO_split (d := 101) rfl ?_ ?_
                      · intro h101
                        (try simp only [decide_eq_true_eq, decide_eq_false_iff_not, Bool.not_eq_true', Bool.not_eq_false', Bool.not_eq_true, Bool.not_eq_false, Bool.true_eq_false, Bool.false_eq_true, not_false_eq_true, not_true_eq_false] at h101)
                        refine HO_call (first := []) (capt := []) (is := []) (R := [_, _, _, _, _, _, _, _]) rfl rfl rfl rfl rfl Try.call31 rfl lives10_spec ?_
                        intro y102 hy102
                        clear y102 hy102
                        refine HO_pick_t rfl rfl rfl rfl ?_
                        refine HO_assign rfl rfl rfl ?_
                        refine HO_nil ?_
                        refine H_env (ρ' := [(6, _)]) ⟨rfl, trivial⟩ ?_
                        refine H_world (fun _ hA => hA.drop (is := [0, 1, 2, 3, 4, 5, 6, 7]) (Y := [_, _, _, _, _, _, _, _]) (Z := []) rfl) ?_
                        -- end26
                        refine H_ret1 Try.results12 (.tmp rfl) (fun w hA => ⟨(), congrArg Ending.returned ?_, ?_, ?_⟩)
                        · (exact congrArg Value.bool (by first | rfl | assumption | simp_all))
                        · trivial
                        · exact hA.only (is := []) (Z := []) rfl
                      · intro h101
                        (try simp only [decide_eq_true_eq, decide_eq_false_iff_not, Bool.not_eq_true', Bool.not_eq_false', Bool.not_eq_true, Bool.not_eq_false, Bool.true_eq_false, Bool.false_eq_true, not_false_eq_true, not_true_eq_false] at h101)
                        (exfalso; rw [hq3] at h95 h101; by_cases hg : Ent.goodSnap ⟨ix2, te2, ⟨vo2, le2⟩, da2⟩ = true <;> simp [hg] at h95 h101)
                  · intro h92
                    (try simp only [decide_eq_true_eq, decide_eq_false_iff_not, Bool.not_eq_true', Bool.not_eq_false', Bool.not_eq_true, Bool.not_eq_false, Bool.true_eq_false, Bool.false_eq_true, not_false_eq_true, not_true_eq_false] at h92)
                    (exfalso; rw [hq3] at h92; by_cases hg : Ent.goodSnap ⟨ix2, te2, ⟨vo2, le2⟩, da2⟩ = true <;> simp [hg] at h92)
      · intro h43
        (try simp only [decide_eq_true_eq, decide_eq_false_iff_not, Bool.not_eq_true', Bool.not_eq_false', Bool.not_eq_true, Bool.not_eq_false, Bool.true_eq_false, Bool.false_eq_true, not_false_eq_true, not_true_eq_false] at h43)
        refine HO_no rfl rfl rfl ?_
        refine HO_no rfl rfl rfl ?_
        refine HO_no rfl rfl rfl ?_
        refine HO_pick_f rfl rfl rfl rfl ?_
        refine HO_move rfl rfl rfl ?_
        refine HO_loadA (i := 10) (us := []) (cs := [_, _, _, _, _, _, _, _, _, _, _, _, _]) (ts := []) rfl rfl rfl Try.isAgg61 Try.sizeOf61 rfl (.loc _ _ _) rfl rfl rfl rfl ?_
        refine HO_dup (i := 11) rfl rfl ?_
        refine HO_dup (i := 13) rfl rfl ?_
        refine HO_call (first := []) (capt := []) (is := [0, 0]) (R := [_, _, _, _, _, _, _, _, _, _, _, _, _, _, _, _]) rfl rfl rfl rfl rfl Try.call39 rfl (entgood_spec _ _ _ _ _ _ _ _ _ _ _ _ _ _ _ _ _ ?_ ?_) ?_
        · (first | omega | assumption | decide)
        · (first | omega | assumption | decide)
        intro y50 hy50
        clear y50 hy50
        refine HO_move rfl rfl rfl ?_
        refine HO_split (d := 51) rfl ?_ ?_
        · intro h51
          (try simp only [decide_eq_true_eq, decide_eq_false_iff_not, Bool.not_eq_true', Bool.not_eq_false', Bool.not_eq_true, Bool.not_eq_false, Bool.true_eq_false, Bool.false_eq_true, not_false_eq_true, not_true_eq_false] at h51)
          refine HO_move rfl rfl rfl ?_
          refine HO_bin rfl rfl rfl rfl bin_neq ?_
          refine HO_move rfl rfl rfl ?_
          refine HO_split (d := 54) rfl ?_ ?_
          · intro h54
            (try simp only [decide_eq_true_eq, decide_eq_false_iff_not, Bool.not_eq_true', Bool.not_eq_false', Bool.not_eq_true, Bool.not_eq_false, Bool.true_eq_false, Bool.false_eq_true, not_false_eq_true, not_true_eq_false] at h54)
            (exact absurd (congrArg Prod.snd (he1.symm.trans (Ent.read_enc hs h51))) h54)
          · intro h54
            (try simp only [decide_eq_true_eq, decide_eq_false_iff_not, Bool.not_eq_true', Bool.not_eq_false', Bool.not_eq_true, Bool.not_eq_false, Bool.true_eq_false, Bool.false_eq_true, not_false_eq_true, not_true_eq_false] at h54)
            refine HO_loadA (i := 5) (us := []) (cs := [_, _, _, _, _, _, _, _, _, _, _, _, _]) (ts := []) rfl rfl rfl Try.isAgg61 Try.sizeOf61 rfl (.loc _ _ _) rfl rfl rfl rfl ?_
            refine HO_loadA (i := 10) (us := []) (cs := [_, _, _, _, _, _, _, _, _, _, _, _, _]) (ts := []) rfl rfl rfl Try.isAgg61 Try.sizeOf61 rfl (.loc _ _ _) rfl rfl rfl rfl ?_
            refine HO_dup (i := 6) rfl rfl ?_
            refine HO_dup (i := 8) rfl rfl ?_
            refine HO_dup (i := 13) rfl rfl ?_
            refine HO_dup (i := 15) rfl rfl ?_
            refine HO_call (first := []) (capt := []) (is := [0, 0, 0, 0]) (R := [_, _, _, _, _, _, _, _, _, _, _, _, _, _, _, _]) rfl rfl rfl rfl rfl Try.call46 rfl (entsame_spec _ _ _ _ _ _ _ _ _ _ _ _ _ _ _ _ _ _ _ _ _ _ _ _ _ _ _ _ _ _ _ _ _ _) ?_
            intro y57 hy57
            clear y57 hy57
            refine HO_not rfl rfl rfl ?_
            refine HO_pick_f rfl rfl rfl rfl ?_
            refine HO_pick_t rfl rfl rfl rfl ?_
            refine HO_pick_f rfl rfl rfl rfl ?_
            refine HO_nil ?_
            refine H_env (ρ' := [(61, _), (12, _), (11, _), (10, _), (9, _), (5, _), (4, _)]) ⟨rfl, rfl, rfl, rfl, rfl, rfl, rfl, trivial⟩ ?_
            refine H_world (fun _ hA => hA.drop (is := [5, 6, 7, 10, 11, 12]) (Y := [_, _, _, _, _, _]) (Z := [_, _, _, _, _, _, _, _, _, _]) rfl) ?_
            refine H_cond rfl ?_ ?_
            · intro h61
              (try simp only [decide_eq_true_eq, decide_eq_false_iff_not, Bool.not_eq_true', Bool.not_eq_false', Bool.not_eq_true, Bool.not_eq_false, Bool.true_eq_false, Bool.false_eq_true, not_false_eq_true, not_true_eq_false] at h61)
              (exact absurd (congrArg Prod.fst (he1.symm.trans (Ent.read_enc hs h51))) h61)
            · intro h61
              (try simp only [decide_eq_true_eq, decide_eq_false_iff_not, Bool.not_eq_true', Bool.not_eq_false', Bool.not_eq_true, Bool.not_eq_false, Bool.true_eq_false, Bool.false_eq_true, not_false_eq_true, not_true_eq_false] at h61)
              refine H_skip ?_
              refine H_seq ?_
              refine H_seq ?_
              -- R8 law.go:86
              refine H_region (l := [_, _, _, _, _, _, _, _, _, _, _, _, _, _, _, _, _, _, _, _, _, _, _, _, _]) rfl ?_
              refine HO_move rfl rfl rfl ?_
              refine HO_bin rfl rfl rfl rfl bin_eql ?_
              refine HO_fieldAddr (r := 0) rfl rfl rfl Try.underlying49 rfl Try.sizeOf3 rfl ?_
              refine HO_load1 (i := 6) (j := 0) rfl rfl rfl Try.isAgg3 rfl (.loc _ _ _) rfl rfl ?_
              refine HO_bin rfl rfl rfl rfl bin_geq ?_
              refine HO_move rfl rfl rfl ?_
              refine HO_split (d := 67) rfl ?_ ?_
              · intro h67
                (try simp only [decide_eq_true_eq, decide_eq_false_iff_not, Bool.not_eq_true', Bool.not_eq_false', Bool.not_eq_true, Bool.not_eq_false, Bool.true_eq_false, Bool.false_eq_true, not_false_eq_true, not_true_eq_false] at h67)
                refine HO_fieldAddr (r := 1) rfl rfl rfl Try.underlying49 rfl Try.sizeOf3 rfl ?_
                refine HO_load1 (i := 6) (j := 1) rfl rfl rfl Try.isAgg3 rfl (.loc _ _ _) rfl rfl ?_
                refine HO_bin rfl rfl rfl rfl bin_geq ?_
                refine HO_pick_t rfl rfl rfl rfl ?_
                refine HO_move rfl rfl rfl ?_
                refine HO_split (d := 72) rfl ?_ ?_
                · intro h72
                  (try simp only [decide_eq_true_eq, decide_eq_false_iff_not, Bool.not_eq_true', Bool.not_eq_false', Bool.not_eq_true, Bool.not_eq_false, Bool.true_eq_false, Bool.false_eq_true, not_false_eq_true, not_true_eq_false] at h72)
                  refine HO_fieldAddr (r := 2) rfl rfl rfl Try.underlying49 rfl Try.sizeOf3 rfl ?_
                  refine HO_load1 (i := 6) (j := 2) rfl rfl rfl Try.isAgg3 rfl (.loc _ _ _) rfl rfl ?_
                  refine HO_bin rfl rfl rfl rfl bin_geq ?_
                  refine HO_pick_t rfl rfl rfl rfl ?_
                  refine HO_bin rfl rfl rfl rfl (bin_neb Try.runUnderlying4) ?_
                  refine HO_move rfl rfl rfl ?_
                  refine HO_split (d := 78) rfl ?_ ?_
                  · intro h78
                    (try simp only [decide_eq_true_eq, decide_eq_false_iff_not, Bool.not_eq_true', Bool.not_eq_false', Bool.not_eq_true, Bool.not_eq_false, Bool.true_eq_false, Bool.false_eq_true, not_false_eq_true, not_true_eq_false] at h78)
                    (exfalso; revert h78; rw [hq2]; by_cases hg : Ent.goodH ⟨ht, hu, hw⟩ = true <;> simp [hg] <;> simp_all [Ent.goodH] <;> omega)
                  · intro h78
                    (try simp only [decide_eq_true_eq, decide_eq_false_iff_not, Bool.not_eq_true', Bool.not_eq_false', Bool.not_eq_true, Bool.not_eq_false, Bool.true_eq_false, Bool.false_eq_true, not_false_eq_true, not_true_eq_false] at h78)
                    refine HO_move rfl rfl rfl ?_
                    refine HO_bin rfl rfl rfl rfl bin_eql ?_
                    refine HO_move rfl rfl rfl ?_
                    refine HO_split (d := 81) rfl ?_ ?_
                    · intro h81
                      (try simp only [decide_eq_true_eq, decide_eq_false_iff_not, Bool.not_eq_true', Bool.not_eq_false', Bool.not_eq_true, Bool.not_eq_false, Bool.true_eq_false, Bool.false_eq_true, not_false_eq_true, not_true_eq_false] at h81)
                      refine HO_loadA (i := 4) (us := []) (cs := [_, _, _]) (ts := []) rfl rfl rfl Try.isAgg49 Try.sizeOf49 rfl (.loc _ _ _) rfl rfl rfl rfl ?_
                      refine HO_loadA (i := 6) (us := []) (cs := [_, _, _]) (ts := []) rfl rfl rfl Try.isAgg49 Try.sizeOf49 rfl (.loc _ _ _) rfl rfl rfl rfl ?_
                      refine HO_bin rfl rfl rfl rfl eq49_neq ?_
                      refine HO_pick_t rfl rfl rfl rfl ?_
                      refine HO_pick_f rfl rfl rfl rfl ?_
                      refine HO_nil ?_
                      refine H_env (ρ' := [(86, _), (12, _), (11, _), (5, _)]) ⟨rfl, rfl, rfl, rfl, trivial⟩ ?_
                      refine H_world (fun _ hA => hA.drop (is := [4, 6]) (Y := [_, _]) (Z := [_, _, _, _, _, _, _, _]) rfl) ?_
                      refine H_cond rfl ?_ ?_
                      · intro h86
                        (try simp only [decide_eq_true_eq, decide_eq_false_iff_not, Bool.not_eq_true', Bool.not_eq_false', Bool.not_eq_true, Bool.not_eq_false, Bool.true_eq_false, Bool.false_eq_true, not_false_eq_true, not_true_eq_false] at h86)
                        (exfalso; rw [hq2] at h81 h86; by_cases hg : Ent.goodH ⟨ht, hu, hw⟩ = true <;> simp [hg] at h81 h86)
                      · intro h86
                        (try simp only [decide_eq_true_eq, decide_eq_false_iff_not, Bool.not_eq_true', Bool.not_eq_false', Bool.not_eq_true, Bool.not_eq_false, Bool.true_eq_false, Bool.false_eq_true, not_false_eq_true, not_true_eq_false] at h86)
                        refine H_skip ?_
                        refine H_seq ?_
                        -- R10 law.go:89
                        refine H_region (l := [_, _, _, _, _, _, _, _, _, _, _, _, _, _, _, _, _, _]) rfl ?_
                        refine HO_loadA (i := 4) (us := []) (cs := [_, _, _, _, _]) (ts := []) rfl rfl rfl Try.isAgg47 Try.sizeOf47 rfl (.loc _ _ _) rfl rfl rfl rfl ?_
                        refine HO_dup (i := 5) rfl rfl ?_
                        refine HO_dup (i := 7) rfl rfl ?_
                        refine HO_dup (i := 9) rfl rfl ?_
                        refine HO_call (first := []) (capt := []) (is := [0, 0, 0]) (R := [_, _, _, _, _, _, _, _]) rfl rfl rfl rfl rfl Try.call32 rfl (goodsnap_spec _ _ _ _ _ _ _ _ _ _ _) ?_
                        intro y88 hy88
                        clear y88 hy88
                        refine HO_move rfl rfl rfl ?_
                        refine HO_bin rfl rfl rfl rfl bin_eql ?_
                        refine HO_bin rfl rfl rfl rfl (bin_eqb Try.runUnderlying4) ?_
                        refine HO_move rfl rfl rfl ?_
                        refine HO_split (d := 92) rfl ?_ ?_
                        · intro h92
                          (try simp only [decide_eq_true_eq, decide_eq_false_iff_not, Bool.not_eq_true', Bool.not_eq_false', Bool.not_eq_true, Bool.not_eq_false, Bool.true_eq_false, Bool.false_eq_true, not_false_eq_true, not_true_eq_false] at h92)
                          refine HO_move rfl rfl rfl ?_
                          refine HO_bin rfl rfl rfl rfl bin_neq ?_
                          refine HO_move rfl rfl rfl ?_
                          refine HO_split (d := 95) rfl ?_ ?_
                          · intro h95
                            (try simp only [decide_eq_true_eq, decide_eq_false_iff_not, Bool.not_eq_true', Bool.not_eq_false', Bool.not_eq_true, Bool.not_eq_false, Bool.true_eq_false, Bool.false_eq_true, not_false_eq_true, not_true_eq_false] at h95)
                            refine HO_no rfl rfl rfl ?_
                            refine HO_no rfl rfl rfl ?_
                            refine HO_no rfl rfl rfl ?_
                            refine HO_pick_t rfl rfl rfl rfl ?_
                            refine HO_pick_t rfl rfl rfl rfl ?_
                            refine HO_move rfl rfl rfl ?_
                            refine HO_call (first := []) (capt := []) (is := []) (R := [_, _, _, _, _, _, _, _]) rfl rfl rfl rfl rfl Try.call31 rfl lives10_spec ?_
                            intro y102 hy102
                            clear y102 hy102
                            refine HO_pick_t rfl rfl rfl rfl ?_
                            refine HO_assign rfl rfl rfl ?_
                            refine HO_nil ?_
                            refine H_env (ρ' := [(6, _)]) ⟨rfl, trivial⟩ ?_
                            refine H_world (fun _ hA => hA.drop (is := [0, 1, 2, 3, 4, 5, 6, 7]) (Y := [_, _, _, _, _, _, _, _]) (Z := []) rfl) ?_
                            -- end27
                            refine H_ret1 Try.results12 (.tmp rfl) (fun w hA => ⟨(), congrArg Ending.returned ?_, ?_, ?_⟩)
                            · (exact congrArg Value.bool (by first | rfl | assumption | simp_all))
                            · trivial
                            · exact hA.only (is := []) (Z := []) rfl
                          · intro h95
                            (try simp only [decide_eq_true_eq, decide_eq_false_iff_not, Bool.not_eq_true', Bool.not_eq_false', Bool.not_eq_true, Bool.not_eq_false, Bool.true_eq_false, Bool.false_eq_true, not_false_eq_true, not_true_eq_false] at h95)
                            refine HO_loadA (i := 0) (us := []) (cs := [_, _, _, _, _]) (ts := []) rfl rfl rfl Try.isAgg47 Try.sizeOf47 rfl (.loc _ _ _) rfl rfl rfl rfl ?_
                            refine HO_loadA (i := 4) (us := []) (cs := [_, _, _, _, _]) (ts := []) rfl rfl rfl Try.isAgg47 Try.sizeOf47 rfl (.loc _ _ _) rfl rfl rfl rfl ?_
                            refine HO_dup (i := 1) rfl rfl ?_
                            refine HO_dup (i := 3) rfl rfl ?_
                            refine HO_dup (i := 5) rfl rfl ?_
                            refine HO_dup (i := 8) rfl rfl ?_
                            refine HO_dup (i := 10) rfl rfl ?_
                            refine HO_dup (i := 12) rfl rfl ?_
                            refine HO_call (first := []) (capt := []) (is := [0, 0, 0, 0, 0, 0]) (R := [_, _, _, _, _, _, _, _]) rfl rfl rfl rfl rfl Try.call59 rfl (rsamesnap_spec _ _ _ _ _ _ _ _ _ _ _ _ _ _ _ _ _ _ _ _ _ _) ?_
                            intro y98 hy98
                            clear y98 hy98
                            refine HO_pick_f rfl rfl rfl rfl ?_
                            refine HO_pick_t rfl rfl rfl rfl ?_
                            refine HO_move rfl rfl rfl ?_
                            refine HO_split (d := 101) rfl ?_ ?_
                            · intro h101
                              (try simp only [decide_eq_true_eq, decide_eq_false_iff_not, Bool.not_eq_true', Bool.not_eq_false', Bool.not_eq_true, Bool.not_eq_false, Bool.true_eq_false, Bool.false_eq_true, not_false_eq_true, not_true_eq_false] at h101)
                              refine HO_call (first := []) (capt := []) (is := []) (R := [_, _, _, _, _, _, _, _]) rfl rfl rfl rfl rfl Try.call31 rfl lives10_spec ?_
                              intro y102 hy102
                              clear y102 hy102
                              refine HO_pick_t rfl rfl rfl rfl ?_
                              refine HO_assign rfl rfl rfl ?_
                              refine HO_nil ?_
                              refine H_env (ρ' := [(6, _)]) ⟨rfl, trivial⟩ ?_
                              refine H_world (fun _ hA => hA.drop (is := [0, 1, 2, 3, 4, 5, 6, 7]) (Y := [_, _, _, _, _, _, _, _]) (Z := []) rfl) ?_
                              -- end28
                              refine H_ret1 Try.results12 (.tmp rfl) (fun w hA => ⟨(), congrArg Ending.returned ?_, ?_, ?_⟩)
                              · (exact congrArg Value.bool (by first | rfl | assumption | simp_all))
                              · trivial
                              · exact hA.only (is := []) (Z := []) rfl
                            · intro h101
                              (try simp only [decide_eq_true_eq, decide_eq_false_iff_not, Bool.not_eq_true', Bool.not_eq_false', Bool.not_eq_true, Bool.not_eq_false, Bool.true_eq_false, Bool.false_eq_true, not_false_eq_true, not_true_eq_false] at h101)
                              (exfalso; rw [hq3] at h95 h101; by_cases hg : Ent.goodSnap ⟨ix2, te2, ⟨vo2, le2⟩, da2⟩ = true <;> simp [hg] at h95 h101)
                        · intro h92
                          (try simp only [decide_eq_true_eq, decide_eq_false_iff_not, Bool.not_eq_true', Bool.not_eq_false', Bool.not_eq_true, Bool.not_eq_false, Bool.true_eq_false, Bool.false_eq_true, not_false_eq_true, not_true_eq_false] at h92)
                          (exfalso; rw [hq3] at h92; by_cases hg : Ent.goodSnap ⟨ix2, te2, ⟨vo2, le2⟩, da2⟩ = true <;> simp [hg] at h92)
                    · intro h81
                      (try simp only [decide_eq_true_eq, decide_eq_false_iff_not, Bool.not_eq_true', Bool.not_eq_false', Bool.not_eq_true, Bool.not_eq_false, Bool.true_eq_false, Bool.false_eq_true, not_false_eq_true, not_true_eq_false] at h81)
                      refine HO_no rfl rfl rfl ?_
                      refine HO_no rfl rfl rfl ?_
                      refine HO_no rfl rfl rfl ?_
                      refine HO_pick_f rfl rfl rfl rfl ?_
                      refine HO_pick_f rfl rfl rfl rfl ?_
                      refine HO_nil ?_
                      refine H_env (ρ' := [(86, _), (12, _), (11, _), (5, _)]) ⟨rfl, rfl, rfl, rfl, trivial⟩ ?_
                      refine H_world (fun _ hA => hA.drop (is := [4, 6]) (Y := [_, _]) (Z := [_, _, _, _, _, _, _, _]) rfl) ?_
                      refine H_cond rfl (fun h => nomatch h) (fun _ => ?_)
                      refine H_skip ?_
                      refine H_seq ?_
                      -- R10 law.go:89
                      refine H_region (l := [_, _, _, _, _, _, _, _, _, _, _, _, _, _, _, _, _, _]) rfl ?_
                      refine HO_loadA (i := 4) (us := []) (cs := [_, _, _, _, _]) (ts := []) rfl rfl rfl Try.isAgg47 Try.sizeOf47 rfl (.loc _ _ _) rfl rfl rfl rfl ?_
                      refine HO_dup (i := 5) rfl rfl ?_
                      refine HO_dup (i := 7) rfl rfl ?_
                      refine HO_dup (i := 9) rfl rfl ?_
                      refine HO_call (first := []) (capt := []) (is := [0, 0, 0]) (R := [_, _, _, _, _, _, _, _]) rfl rfl rfl rfl rfl Try.call32 rfl (goodsnap_spec _ _ _ _ _ _ _ _ _ _ _) ?_
                      intro y88 hy88
                      clear y88 hy88
                      refine HO_move rfl rfl rfl ?_
                      refine HO_bin rfl rfl rfl rfl bin_eql ?_
                      refine HO_bin rfl rfl rfl rfl (bin_eqb Try.runUnderlying4) ?_
                      refine HO_move rfl rfl rfl ?_
                      refine HO_split (d := 92) rfl ?_ ?_
                      · intro h92
                        (try simp only [decide_eq_true_eq, decide_eq_false_iff_not, Bool.not_eq_true', Bool.not_eq_false', Bool.not_eq_true, Bool.not_eq_false, Bool.true_eq_false, Bool.false_eq_true, not_false_eq_true, not_true_eq_false] at h92)
                        refine HO_move rfl rfl rfl ?_
                        refine HO_bin rfl rfl rfl rfl bin_neq ?_
                        refine HO_move rfl rfl rfl ?_
                        refine HO_split (d := 95) rfl ?_ ?_
                        · intro h95
                          (try simp only [decide_eq_true_eq, decide_eq_false_iff_not, Bool.not_eq_true', Bool.not_eq_false', Bool.not_eq_true, Bool.not_eq_false, Bool.true_eq_false, Bool.false_eq_true, not_false_eq_true, not_true_eq_false] at h95)
                          refine HO_no rfl rfl rfl ?_
                          refine HO_no rfl rfl rfl ?_
                          refine HO_no rfl rfl rfl ?_
                          refine HO_pick_t rfl rfl rfl rfl ?_
                          refine HO_pick_t rfl rfl rfl rfl ?_
                          refine HO_move rfl rfl rfl ?_
                          refine HO_call (first := []) (capt := []) (is := []) (R := [_, _, _, _, _, _, _, _]) rfl rfl rfl rfl rfl Try.call31 rfl lives10_spec ?_
                          intro y102 hy102
                          clear y102 hy102
                          refine HO_pick_t rfl rfl rfl rfl ?_
                          refine HO_assign rfl rfl rfl ?_
                          refine HO_nil ?_
                          refine H_env (ρ' := [(6, _)]) ⟨rfl, trivial⟩ ?_
                          refine H_world (fun _ hA => hA.drop (is := [0, 1, 2, 3, 4, 5, 6, 7]) (Y := [_, _, _, _, _, _, _, _]) (Z := []) rfl) ?_
                          -- end29
                          refine H_ret1 Try.results12 (.tmp rfl) (fun w hA => ⟨(), congrArg Ending.returned ?_, ?_, ?_⟩)
                          · (exact congrArg Value.bool (by first | rfl | assumption | simp_all))
                          · trivial
                          · exact hA.only (is := []) (Z := []) rfl
                        · intro h95
                          (try simp only [decide_eq_true_eq, decide_eq_false_iff_not, Bool.not_eq_true', Bool.not_eq_false', Bool.not_eq_true, Bool.not_eq_false, Bool.true_eq_false, Bool.false_eq_true, not_false_eq_true, not_true_eq_false] at h95)
                          refine HO_loadA (i := 0) (us := []) (cs := [_, _, _, _, _]) (ts := []) rfl rfl rfl Try.isAgg47 Try.sizeOf47 rfl (.loc _ _ _) rfl rfl rfl rfl ?_
                          refine HO_loadA (i := 4) (us := []) (cs := [_, _, _, _, _]) (ts := []) rfl rfl rfl Try.isAgg47 Try.sizeOf47 rfl (.loc _ _ _) rfl rfl rfl rfl ?_
                          refine HO_dup (i := 1) rfl rfl ?_
                          refine HO_dup (i := 3) rfl rfl ?_
                          refine HO_dup (i := 5) rfl rfl ?_
                          refine HO_dup (i := 8) rfl rfl ?_
                          refine HO_dup (i := 10) rfl rfl ?_
                          refine HO_dup (i := 12) rfl rfl ?_
                          refine HO_call (first := []) (capt := []) (is := [0, 0, 0, 0, 0, 0]) (R := [_, _, _, _, _, _, _, _]) rfl rfl rfl rfl rfl Try.call59 rfl (rsamesnap_spec _ _ _ _ _ _ _ _ _ _ _ _ _ _ _ _ _ _ _ _ _ _) ?_
                          intro y98 hy98
                          clear y98 hy98
                          refine HO_pick_f rfl rfl rfl rfl ?_
                          refine HO_pick_t rfl rfl rfl rfl ?_
                          refine HO_move rfl rfl rfl ?_
                          refine HO_split (d := 101) rfl ?_ ?_
                          · intro h101
                            (try simp only [decide_eq_true_eq, decide_eq_false_iff_not, Bool.not_eq_true', Bool.not_eq_false', Bool.not_eq_true, Bool.not_eq_false, Bool.true_eq_false, Bool.false_eq_true, not_false_eq_true, not_true_eq_false] at h101)
                            refine HO_call (first := []) (capt := []) (is := []) (R := [_, _, _, _, _, _, _, _]) rfl rfl rfl rfl rfl Try.call31 rfl lives10_spec ?_
                            intro y102 hy102
                            clear y102 hy102
                            refine HO_pick_t rfl rfl rfl rfl ?_
                            refine HO_assign rfl rfl rfl ?_
                            refine HO_nil ?_
                            refine H_env (ρ' := [(6, _)]) ⟨rfl, trivial⟩ ?_
                            refine H_world (fun _ hA => hA.drop (is := [0, 1, 2, 3, 4, 5, 6, 7]) (Y := [_, _, _, _, _, _, _, _]) (Z := []) rfl) ?_
                            -- end30
                            refine H_ret1 Try.results12 (.tmp rfl) (fun w hA => ⟨(), congrArg Ending.returned ?_, ?_, ?_⟩)
                            · (exact congrArg Value.bool (by first | rfl | assumption | simp_all))
                            · trivial
                            · exact hA.only (is := []) (Z := []) rfl
                          · intro h101
                            (try simp only [decide_eq_true_eq, decide_eq_false_iff_not, Bool.not_eq_true', Bool.not_eq_false', Bool.not_eq_true, Bool.not_eq_false, Bool.true_eq_false, Bool.false_eq_true, not_false_eq_true, not_true_eq_false] at h101)
                            (exfalso; rw [hq3] at h95 h101; by_cases hg : Ent.goodSnap ⟨ix2, te2, ⟨vo2, le2⟩, da2⟩ = true <;> simp [hg] at h95 h101)
                      · intro h92
                        (try simp only [decide_eq_true_eq, decide_eq_false_iff_not, Bool.not_eq_true', Bool.not_eq_false', Bool.not_eq_true, Bool.not_eq_false, Bool.true_eq_false, Bool.false_eq_true, not_false_eq_true, not_true_eq_false] at h92)
                        (exfalso; rw [hq3] at h92; by_cases hg : Ent.goodSnap ⟨ix2, te2, ⟨vo2, le2⟩, da2⟩ = true <;> simp [hg] at h92)
                · intro h72
                  (try simp only [decide_eq_true_eq, decide_eq_false_iff_not, Bool.not_eq_true', Bool.not_eq_false', Bool.not_eq_true, Bool.not_eq_false, Bool.true_eq_false, Bool.false_eq_true, not_false_eq_true, not_true_eq_false] at h72)
                  refine HO_no rfl rfl rfl ?_
                  refine HO_no rfl rfl rfl ?_
                  refine HO_no rfl rfl rfl ?_
                  refine HO_pick_f rfl rfl rfl rfl ?_
                  refine HO_bin rfl rfl rfl rfl (bin_neb Try.runUnderlying4) ?_
                  refine HO_move rfl rfl rfl ?_
                  refine HO_split (d := 78) rfl ?_ ?_
                  · intro h78
                    (try simp only [decide_eq_true_eq, decide_eq_false_iff_not, Bool.not_eq_true', Bool.not_eq_false', Bool.not_eq_true, Bool.not_eq_false, Bool.true_eq_false, Bool.false_eq_true, not_false_eq_true, not_true_eq_false] at h78)
                    (exfalso; revert h78; rw [hq2]; by_cases hg : Ent.goodH ⟨ht, hu, hw⟩ = true <;> simp [hg] <;> simp_all [Ent.goodH] <;> omega)
                  · intro h78
                    (try simp only [decide_eq_true_eq, decide_eq_false_iff_not, Bool.not_eq_true', Bool.not_eq_false', Bool.not_eq_true, Bool.not_eq_false, Bool.true_eq_false, Bool.false_eq_true, not_false_eq_true, not_true_eq_false] at h78)
                    refine HO_move rfl rfl rfl ?_
                    refine HO_bin rfl rfl rfl rfl bin_eql ?_
                    refine HO_move rfl rfl rfl ?_
                    refine HO_split (d := 81) rfl ?_ ?_
                    · intro h81
                      (try simp only [decide_eq_true_eq, decide_eq_false_iff_not, Bool.not_eq_true', Bool.not_eq_false', Bool.not_eq_true, Bool.not_eq_false, Bool.true_eq_false, Bool.false_eq_true, not_false_eq_true, not_true_eq_false] at h81)
                      refine HO_loadA (i := 4) (us := []) (cs := [_, _, _]) (ts := []) rfl rfl rfl Try.isAgg49 Try.sizeOf49 rfl (.loc _ _ _) rfl rfl rfl rfl ?_
                      refine HO_loadA (i := 6) (us := []) (cs := [_, _, _]) (ts := []) rfl rfl rfl Try.isAgg49 Try.sizeOf49 rfl (.loc _ _ _) rfl rfl rfl rfl ?_
                      refine HO_bin rfl rfl rfl rfl eq49_neq ?_
                      refine HO_pick_t rfl rfl rfl rfl ?_
                      refine HO_pick_f rfl rfl rfl rfl ?_
                      refine HO_nil ?_
                      refine H_env (ρ' := [(86, _), (12, _), (11, _), (5, _)]) ⟨rfl, rfl, rfl, rfl, trivial⟩ ?_
                      refine H_world (fun _ hA => hA.drop (is := [4, 6]) (Y := [_, _]) (Z := [_, _, _, _, _, _, _, _]) rfl) ?_
                      refine H_cond rfl ?_ ?_
                      · intro h86
                        (try simp only [decide_eq_true_eq, decide_eq_false_iff_not, Bool.not_eq_true', Bool.not_eq_false', Bool.not_eq_true, Bool.not_eq_false, Bool.true_eq_false, Bool.false_eq_true, not_false_eq_true, not_true_eq_false] at h86)
                        (exfalso; rw [hq2] at h81 h86; by_cases hg : Ent.goodH ⟨ht, hu, hw⟩ = true <;> simp [hg] at h81 h86)
                      · intro h86
                        (try simp only [decide_eq_true_eq, decide_eq_false_iff_not, Bool.not_eq_true', Bool.not_eq_false', Bool.not_eq_true, Bool.not_eq_false, Bool.true_eq_false, Bool.false_eq_true, not_false_eq_true, not_true_eq_false] at h86)
                        refine H_skip ?_
                        refine H_seq ?_
                        -- R10 law.go:89
                        refine H_region (l := [_, _, _, _, _, _, _, _, _, _, _, _, _, _, _, _, _, _]) rfl ?_
                        refine HO_loadA (i := 4) (us := []) (cs := [_, _, _, _, _]) (ts := []) rfl rfl rfl Try.isAgg47 Try.sizeOf47 rfl (.loc _ _ _) rfl rfl rfl rfl ?_
                        refine HO_dup (i := 5) rfl rfl ?_
                        refine HO_dup (i := 7) rfl rfl ?_
                        refine HO_dup (i := 9) rfl rfl ?_
                        refine HO_call (first := []) (capt := []) (is := [0, 0, 0]) (R := [_, _, _, _, _, _, _, _]) rfl rfl rfl rfl rfl Try.call32 rfl (goodsnap_spec _ _ _ _ _ _ _ _ _ _ _) ?_
                        intro y88 hy88
                        clear y88 hy88
                        refine HO_move rfl rfl rfl ?_
                        refine HO_bin rfl rfl rfl rfl bin_eql ?_
                        refine HO_bin rfl rfl rfl rfl (bin_eqb Try.runUnderlying4) ?_
                        refine HO_move rfl rfl rfl ?_
                        refine HO_split (d := 92) rfl ?_ ?_
                        · intro h92
                          (try simp only [decide_eq_true_eq, decide_eq_false_iff_not, Bool.not_eq_true', Bool.not_eq_false', Bool.not_eq_true, Bool.not_eq_false, Bool.true_eq_false, Bool.false_eq_true, not_false_eq_true, not_true_eq_false] at h92)
                          refine HO_move rfl rfl rfl ?_
                          refine HO_bin rfl rfl rfl rfl bin_neq ?_
                          refine HO_move rfl rfl rfl ?_
                          refine HO_split (d := 95) rfl ?_ ?_
                          · intro h95
                            (try simp only [decide_eq_true_eq, decide_eq_false_iff_not, Bool.not_eq_true', Bool.not_eq_false', Bool.not_eq_true, Bool.not_eq_false, Bool.true_eq_false, Bool.false_eq_true, not_false_eq_true, not_true_eq_false] at h95)
                            refine HO_no rfl rfl rfl ?_
                            refine HO_no rfl rfl rfl ?_
                            refine HO_no rfl rfl rfl ?_
                            refine HO_pick_t rfl rfl rfl rfl ?_
                            refine HO_pick_t rfl rfl rfl rfl ?_
                            refine HO_move rfl rfl rfl ?_
                            refine HO_call (first := []) (capt := []) (is := []) (R := [_, _, _, _, _, _, _, _]) rfl rfl rfl rfl rfl Try.call31 rfl lives10_spec ?_
                            intro y102 hy102
                            clear y102 hy102
                            refine HO_pick_t rfl rfl rfl rfl ?_
                            refine HO_assign rfl rfl rfl ?_
                            refine HO_nil ?_
                            refine H_env (ρ' := [(6, _)]) ⟨rfl, trivial⟩ ?_
                            refine H_world (fun _ hA => hA.drop (is := [0, 1, 2, 3, 4, 5, 6, 7]) (Y := [_, _, _, _, _, _, _, _]) (Z := []) rfl) ?_
                            -- end31
                            refine H_ret1 Try.results12 (.tmp rfl) (fun w hA => ⟨(), congrArg Ending.returned ?_, ?_, ?_⟩)
                            · (exact congrArg Value.bool (by first | rfl | assumption | simp_all))
                            · trivial
                            · exact hA.only (is := []) (Z := []) rfl
                          · intro h95
                            (try simp only [decide_eq_true_eq, decide_eq_false_iff_not, Bool.not_eq_true', Bool.not_eq_false', Bool.not_eq_true, Bool.not_eq_false, Bool.true_eq_false, Bool.false_eq_true, not_false_eq_true, not_true_eq_false] at h95)
                            refine HO_loadA (i := 0) (us := []) (cs := [_, _, _, _, _]) (ts := []) rfl rfl rfl Try.isAgg47 Try.sizeOf47 rfl (.loc _ _ _) rfl rfl rfl rfl ?_
                            refine HO_loadA (i := 4) (us := []) (cs := [_, _, _, _, _]) (ts := []) rfl rfl rfl Try.isAgg47 Try.sizeOf47 rfl (.loc _ _ _) rfl rfl rfl rfl ?_
                            refine HO_dup (i := 1) rfl rfl ?_
                            refine HO_dup (i := 3) rfl rfl ?_
                            refine HO_dup (i := 5) rfl rfl ?_
                            refine HO_dup (i := 8) rfl rfl ?_
                            refine HO_dup (i := 10) rfl rfl ?_
                            refine HO_dup (i := 12) rfl rfl ?_
                            refine HO_call (first := []) (capt := []) (is := [0, 0, 0, 0, 0, 0]) (R := [_, _, _, _, _, _, _, _]) rfl rfl rfl rfl rfl Try.call59 rfl (rsamesnap_spec _ _ _ _ _ _ _ _ _ _ _ _ _ _ _ _ _ _ _ _ _ _) ?_
                            intro y98 hy98
                            clear y98 hy98
                            refine HO_pick_f rfl rfl rfl rfl ?_
                            refine HO_pick_t rfl rfl rfl rfl ?_
                            refine HO_move rfl rfl rfl ?_
                            refine HO_split (d := 101) rfl ?_ ?_
                            · intro h101
                              (try simp only [decide_eq_true_eq, decide_eq_false_iff_not, Bool.not_eq_true', Bool.not_eq_false', Bool.not_eq_true, Bool.not_eq_false, Bool.true_eq_false, Bool.false_eq_true, not_false_eq_true, not_true_eq_false] at h101)
                              refine HO_call (first := []) (capt := []) (is := []) (R := [_, _, _, _, _, _, _, _]) rfl rfl rfl rfl rfl Try.call31 rfl lives10_spec ?_
                              intro y102 hy102
                              clear y102 hy102
                              refine HO_pick_t rfl rfl rfl rfl ?_
                              refine HO_assign rfl rfl rfl ?_
                              refine HO_nil ?_
                              refine H_env (ρ' := [(6, _)]) ⟨rfl, trivial⟩ ?_
                              refine H_world (fun _ hA => hA.drop (is := [0, 1, 2, 3, 4, 5, 6, 7]) (Y := [_, _, _, _, _, _, _, _]) (Z := []) rfl) ?_
                              -- end32
                              refine H_ret1 Try.results12 (.tmp rfl) (fun w hA => ⟨(), congrArg Ending.returned ?_, ?_, ?_⟩)
                              · (exact congrArg Value.bool (by first | rfl | assumption | simp_all))
                              · trivial
                              · exact hA.only (is := []) (Z := []) rfl
                            · intro h101
                              (try simp only [decide_eq_true_eq, decide_eq_false_iff_not, Bool.not_eq_true', Bool.not_eq_false', Bool.not_eq_true, Bool.not_eq_false, Bool.true_eq_false, Bool.false_eq_true, not_false_eq_true, not_true_eq_false] at h101)
                              (exfalso; rw [hq3] at h95 h101; by_cases hg : Ent.goodSnap ⟨ix2, te2, ⟨vo2, le2⟩, da2⟩ = true <;> simp [hg] at h95 h101)
                        · intro h92
                          (try simp only [decide_eq_true_eq, decide_eq_false_iff_not, Bool.not_eq_true', Bool.not_eq_false', Bool.not_eq_true, Bool.not_eq_false, Bool.true_eq_false, Bool.false_eq_true, not_false_eq_true, not_true_eq_false] at h92)
                          (exfalso; rw [hq3] at h92; by_cases hg : Ent.goodSnap ⟨ix2, te2, ⟨vo2, le2⟩, da2⟩ = true <;> simp [hg] at h92)
                    · intro h81
                      (try simp only [decide_eq_true_eq, decide_eq_false_iff_not, Bool.not_eq_true', Bool.not_eq_false', Bool.not_eq_true, Bool.not_eq_false, Bool.true_eq_false, Bool.false_eq_true, not_false_eq_true, not_true_eq_false] at h81)
                      refine HO_no rfl rfl rfl ?_
                      refine HO_no rfl rfl rfl ?_
                      refine HO_no rfl rfl rfl ?_
                      refine HO_pick_f rfl rfl rfl rfl ?_
                      refine HO_pick_f rfl rfl rfl rfl ?_
                      refine HO_nil ?_
                      refine H_env (ρ' := [(86, _), (12, _), (11, _), (5, _)]) ⟨rfl, rfl, rfl, rfl, trivial⟩ ?_
                      refine H_world (fun _ hA => hA.drop (is := [4, 6]) (Y := [_, _]) (Z := [_, _, _, _, _, _, _, _]) rfl) ?_
                      refine H_cond rfl (fun h => nomatch h) (fun _ => ?_)
                      refine H_skip ?_
                      refine H_seq ?_
                      -- R10 law.go:89
                      refine H_region (l := [_, _, _, _, _, _, _, _, _, _, _, _, _, _, _, _, _, _]) rfl ?_
                      refine HO_loadA (i := 4) (us := []) (cs := [_, _, _, _, _]) (ts := []) rfl rfl rfl Try.isAgg47 Try.sizeOf47 rfl (.loc _ _ _) rfl rfl rfl rfl ?_
                      refine HO_dup (i := 5) rfl rfl ?_
                      refine HO_dup (i := 7) rfl rfl ?_
                      refine HO_dup (i := 9) rfl rfl ?_
                      refine HO_call (first := []) (capt := []) (is := [0, 0, 0]) (R := [_, _, _, _, _, _, _, _]) rfl rfl rfl rfl rfl Try.call32 rfl (goodsnap_spec _ _ _ _ _ _ _ _ _ _ _) ?_
                      intro y88 hy88
                      clear y88 hy88
                      refine HO_move rfl rfl rfl ?_
                      refine HO_bin rfl rfl rfl rfl bin_eql ?_
                      refine HO_bin rfl rfl rfl rfl (bin_eqb Try.runUnderlying4) ?_
                      refine HO_move rfl rfl rfl ?_
                      refine HO_split (d := 92) rfl ?_ ?_
                      · intro h92
                        (try simp only [decide_eq_true_eq, decide_eq_false_iff_not, Bool.not_eq_true', Bool.not_eq_false', Bool.not_eq_true, Bool.not_eq_false, Bool.true_eq_false, Bool.false_eq_true, not_false_eq_true, not_true_eq_false] at h92)
                        refine HO_move rfl rfl rfl ?_
                        refine HO_bin rfl rfl rfl rfl bin_neq ?_
                        refine HO_move rfl rfl rfl ?_
                        refine HO_split (d := 95) rfl ?_ ?_
                        · intro h95
                          (try simp only [decide_eq_true_eq, decide_eq_false_iff_not, Bool.not_eq_true', Bool.not_eq_false', Bool.not_eq_true, Bool.not_eq_false, Bool.true_eq_false, Bool.false_eq_true, not_false_eq_true, not_true_eq_false] at h95)
                          refine HO_no rfl rfl rfl ?_
                          refine HO_no rfl rfl rfl ?_
                          refine HO_no rfl rfl rfl ?_
                          refine HO_pick_t rfl rfl rfl rfl ?_
                          refine HO_pick_t rfl rfl rfl rfl ?_
                          refine HO_move rfl rfl rfl ?_
                          refine HO_call (first := []) (capt := []) (is := []) (R := [_, _, _, _, _, _, _, _]) rfl rfl rfl rfl rfl Try.call31 rfl lives10_spec ?_
                          intro y102 hy102
                          clear y102 hy102
                          refine HO_pick_t rfl rfl rfl rfl ?_
                          refine HO_assign rfl rfl rfl ?_
                          refine HO_nil ?_
                          refine H_env (ρ' := [(6, _)]) ⟨rfl, trivial⟩ ?_
                          refine H_world (fun _ hA => hA.drop (is := [0, 1, 2, 3, 4, 5, 6, 7]) (Y := [_, _, _, _, _, _, _, _]) (Z := []) rfl) ?_
                          -- end33
                          refine H_ret1 Try.results12 (.tmp rfl) (fun w hA => ⟨(), congrArg Ending.returned ?_, ?_, ?_⟩)
                          · (exact congrArg Value.bool (by first | rfl | assumption | simp_all))
                          · trivial
                          · exact hA.only (is := []) (Z := []) rfl
                        · intro h95
                          (try simp only [decide_eq_true_eq, decide_eq_false_iff_not, Bool.not_eq_true', Bool.not_eq_false', Bool.not_eq_true, Bool.not_eq_false, Bool.true_eq_false, Bool.false_eq_true, not_false_eq_true, not_true_eq_false] at h95)
                          refine HO_loadA (i := 0) (us := []) (cs := [_, _, _, _, _]) (ts := []) rfl rfl rfl Try.isAgg47 Try.sizeOf47 rfl (.loc _ _ _) rfl rfl rfl rfl ?_
                          refine HO_loadA (i := 4) (us := []) (cs := [_, _, _, _, _]) (ts := []) rfl rfl rfl Try.isAgg47 Try.sizeOf47 rfl (.loc _ _ _) rfl rfl rfl rfl ?_
                          refine HO_dup (i := 1) rfl rfl ?_
                          refine HO_dup (i := 3) rfl rfl ?_
                          refine HO_dup (i := 5) rfl rfl ?_
                          refine HO_dup (i := 8) rfl rfl ?_
                          refine HO_dup (i := 10) rfl rfl ?_
                          refine HO_dup (i := 12) rfl rfl ?_
                          refine HO_call (first := []) (capt := []) (is := [0, 0, 0, 0, 0, 0]) (R := [_, _, _, _, _, _, _, _]) rfl rfl rfl rfl rfl Try.call59 rfl (rsamesnap_spec _ _ _ _ _ _ _ _ _ _ _ _ _ _ _ _ _ _ _ _ _ _) ?_
                          intro y98 hy98
                          clear y98 hy98
                          refine HO_pick_f rfl rfl rfl rfl ?_
                          refine HO_pick_t rfl rfl rfl rfl ?_
                          refine HO_move rfl rfl rfl ?_
                          refine HO_split (d := 101) rfl ?_ ?_
                          · intro h101
                            (try simp only [decide_eq_true_eq, decide_eq_false_iff_not, Bool.not_eq_true', Bool.not_eq_false', Bool.not_eq_true, Bool.not_eq_false, Bool.true_eq_false, Bool.false_eq_true, not_false_eq_true, not_true_eq_false] at h101)
                            refine HO_call (first := []) (capt := []) (is := []) (R := [_, _, _, _, _, _, _, _]) rfl rfl rfl rfl rfl Try.call31 rfl lives10_spec ?_
                            intro y102 hy102
                            clear y102 hy102
                            refine HO_pick_t rfl rfl rfl rfl ?_
                            refine HO_assign rfl rfl rfl ?_
                            refine HO_nil ?_
                            refine H_env (ρ' := [(6, _)]) ⟨rfl, trivial⟩ ?_
                            refine H_world (fun _ hA => hA.drop (is := [0, 1, 2, 3, 4, 5, 6, 7]) (Y := [_, _, _, _, _, _, _, _]) (Z := []) rfl) ?_
                            -- end34
                            refine H_ret1 Try.results12 (.tmp rfl) (fun w hA => ⟨(), congrArg Ending.returned ?_, ?_, ?_⟩)
                            · (exact congrArg Value.bool (by first | rfl | assumption | simp_all))
                            · trivial
                            · exact hA.only (is := []) (Z := []) rfl
                          · intro h101
                            (try simp only [decide_eq_true_eq, decide_eq_false_iff_not, Bool.not_eq_true', Bool.not_eq_false', Bool.not_eq_true, Bool.not_eq_false, Bool.true_eq_false, Bool.false_eq_true, not_false_eq_true, not_true_eq_false] at h101)
                            (exfalso; rw [hq3] at h95 h101; by_cases hg : Ent.goodSnap ⟨ix2, te2, ⟨vo2, le2⟩, da2⟩ = true <;> simp [hg] at h95 h101)
                      · intro h92
                        (try simp only [decide_eq_true_eq, decide_eq_false_iff_not, Bool.not_eq_true', Bool.not_eq_false', Bool.not_eq_true, Bool.not_eq_false, Bool.true_eq_false, Bool.false_eq_true, not_false_eq_true, not_true_eq_false] at h92)
                        (exfalso; rw [hq3] at h92; by_cases hg : Ent.goodSnap ⟨ix2, te2, ⟨vo2, le2⟩, da2⟩ = true <;> simp [hg] at h92)
              · intro h67
                (try simp only [decide_eq_true_eq, decide_eq_false_iff_not, Bool.not_eq_true', Bool.not_eq_false', Bool.not_eq_true, Bool.not_eq_false, Bool.true_eq_false, Bool.false_eq_true, not_false_eq_true, not_true_eq_false] at h67)
                refine HO_no rfl rfl rfl ?_
                refine HO_no rfl rfl rfl ?_
                refine HO_no rfl rfl rfl ?_
                refine HO_pick_f rfl rfl rfl rfl ?_
                refine HO_move rfl rfl rfl ?_
                refine HO_no rfl rfl rfl ?_
                refine HO_no rfl rfl rfl ?_
                refine HO_no rfl rfl rfl ?_
                refine HO_pick_f rfl rfl rfl rfl ?_
                refine HO_bin rfl rfl rfl rfl (bin_neb Try.runUnderlying4) ?_
                refine HO_move rfl rfl rfl ?_
                refine HO_split (d := 78) rfl ?_ ?_
                · intro h78
                  (try simp only [decide_eq_true_eq, decide_eq_false_iff_not, Bool.not_eq_true', Bool.not_eq_false', Bool.not_eq_true, Bool.not_eq_false, Bool.true_eq_false, Bool.false_eq_true, not_false_eq_true, not_true_eq_false] at h78)
                  (exfalso; revert h78; rw [hq2]; by_cases hg : Ent.goodH ⟨ht, hu, hw⟩ = true <;> simp [hg] <;> simp_all [Ent.goodH] <;> omega)
                · intro h78
                  (try simp only [decide_eq_true_eq, decide_eq_false_iff_not, Bool.not_eq_true', Bool.not_eq_false', Bool.not_eq_true, Bool.not_eq_false, Bool.true_eq_false, Bool.false_eq_true, not_false_eq_true, not_true_eq_false] at h78)
                  refine HO_move rfl rfl rfl ?_
                  refine HO_bin rfl rfl rfl rfl bin_eql ?_
                  refine HO_move rfl rfl rfl ?_
                  refine HO_split (d := 81) rfl ?_ ?_
                  · intro h81
                    (try simp only [decide_eq_true_eq, decide_eq_false_iff_not, Bool.not_eq_true', Bool.not_eq_false', Bool.not_eq_true, Bool.not_eq_false, Bool.true_eq_false, Bool.false_eq_true, not_false_eq_true, not_true_eq_false] at h81)
                    refine HO_loadA (i := 4) (us := []) (cs := [_, _, _]) (ts := []) rfl rfl rfl Try.isAgg49 Try.sizeOf49 rfl (.loc _ _ _) rfl rfl rfl rfl ?_
                    refine HO_loadA (i := 6) (us := []) (cs := [_, _, _]) (ts := []) rfl rfl rfl Try.isAgg49 Try.sizeOf49 rfl (.loc _ _ _) rfl rfl rfl rfl ?_
                    refine HO_bin rfl rfl rfl rfl eq49_neq ?_
                    refine HO_pick_t rfl rfl rfl rfl ?_
                    refine HO_pick_f rfl rfl rfl rfl ?_
                    refine HO_nil ?_
                    refine H_env (ρ' := [(86, _), (12, _), (11, _), (5, _)]) ⟨rfl, rfl, rfl, rfl, trivial⟩ ?_
                    refine H_world (fun _ hA => hA.drop (is := [4, 6]) (Y := [_, _]) (Z := [_, _, _, _, _, _, _, _]) rfl) ?_
                    refine H_cond rfl ?_ ?_
                    · intro h86
                      (try simp only [decide_eq_true_eq, decide_eq_false_iff_not, Bool.not_eq_true', Bool.not_eq_false', Bool.not_eq_true, Bool.not_eq_false, Bool.true_eq_false, Bool.false_eq_true, not_false_eq_true, not_true_eq_false] at h86)
                      (exfalso; rw [hq2] at h81 h86; by_cases hg : Ent.goodH ⟨ht, hu, hw⟩ = true <;> simp [hg] at h81 h86)
                    · intro h86
                      (try simp only [decide_eq_true_eq, decide_eq_false_iff_not, Bool.not_eq_true', Bool.not_eq_false', Bool.not_eq_true, Bool.not_eq_false, Bool.true_eq_false, Bool.false_eq_true, not_false_eq_true, not_true_eq_false] at h86)
                      refine H_skip ?_
                      refine H_seq ?_
                      -- R10 law.go:89
                      refine H_region (l := [_, _, _, _, _, _, _, _, _, _, _, _, _, _, _, _, _, _]) rfl ?_
                      refine HO_loadA (i := 4) (us := []) (cs := [_, _, _, _, _]) (ts := []) rfl rfl rfl Try.isAgg47 Try.sizeOf47 rfl (.loc _ _ _) rfl rfl rfl rfl ?_
                      refine HO_dup (i := 5) rfl rfl ?_
                      refine HO_dup (i := 7) rfl rfl ?_
                      refine HO_dup (i := 9) rfl rfl ?_
                      refine HO_call (first := []) (capt := []) (is := [0, 0, 0]) (R := [_, _, _, _, _, _, _, _]) rfl rfl rfl rfl rfl Try.call32 rfl (goodsnap_spec _ _ _ _ _ _ _ _ _ _ _) ?_
                      intro y88 hy88
                      clear y88 hy88
                      refine HO_move rfl rfl rfl ?_
                      refine HO_bin rfl rfl rfl rfl bin_eql ?_
                      refine HO_bin rfl rfl rfl rfl (bin_eqb Try.runUnderlying4) ?_
                      refine HO_move rfl rfl rfl ?_
                      refine HO_split (d := 92) rfl ?_ ?_
                      · intro h92
                        (try simp only [decide_eq_true_eq, decide_eq_false_iff_not, Bool.not_eq_true', Bool.not_eq_false', Bool.not_eq_true, Bool.not_eq_false, Bool.true_eq_false, Bool.false_eq_true, not_false_eq_true, not_true_eq_false] at h92)
                        refine HO_move rfl rfl rfl ?_
                        refine HO_bin rfl rfl rfl rfl bin_neq ?_
                        refine HO_move rfl rfl rfl ?_
                        refine HO_split (d := 95) rfl ?_ ?_
                        · intro h95
                          (try simp only [decide_eq_true_eq, decide_eq_false_iff_not, Bool.not_eq_true', Bool.not_eq_false', Bool.not_eq_true, Bool.not_eq_false, Bool.true_eq_false, Bool.false_eq_true, not_false_eq_true, not_true_eq_false] at h95)
                          refine HO_no rfl rfl rfl ?_
                          refine HO_no rfl rfl rfl ?_
                          refine HO_no rfl rfl rfl ?_
                          refine HO_pick_t rfl rfl rfl rfl ?_
                          refine HO_pick_t rfl rfl rfl rfl ?_
                          refine HO_move rfl rfl rfl ?_
                          refine HO_call (first := []) (capt := []) (is := []) (R := [_, _, _, _, _, _, _, _]) rfl rfl rfl rfl rfl Try.call31 rfl lives10_spec ?_
                          intro y102 hy102
                          clear y102 hy102
                          refine HO_pick_t rfl rfl rfl rfl ?_
                          refine HO_assign rfl rfl rfl ?_
                          refine HO_nil ?_
                          refine H_env (ρ' := [(6, _)]) ⟨rfl, trivial⟩ ?_
                          refine H_world (fun _ hA => hA.drop (is := [0, 1, 2, 3, 4, 5, 6, 7]) (Y := [_, _, _, _, _, _, _, _]) (Z := []) rfl) ?_
                          -- end35
                          refine H_ret1 Try.results12 (.tmp rfl) (fun w hA => ⟨(), congrArg Ending.returned ?_, ?_, ?_⟩)
                          · (exact congrArg Value.bool (by first | rfl | assumption | simp_all))
                          · trivial
                          · exact hA.only (is := []) (Z := []) rfl
                        · intro h95
                          (try simp only [decide_eq_true_eq, decide_eq_false_iff_not, Bool.not_eq_true', Bool.not_eq_false', Bool.not_eq_true, Bool.not_eq_false, Bool.true_eq_false, Bool.false_eq_true, not_false_eq_true, not_true_eq_false] at h95)
                          refine HO_loadA (i := 0) (us := []) (cs := [_, _, _, _, _]) (ts := []) rfl rfl rfl Try.isAgg47 Try.sizeOf47 rfl (.loc _ _ _) rfl rfl rfl rfl ?_
                          refine HO_loadA (i := 4) (us := []) (cs := [_, _, _, _, _]) (ts := []) rfl rfl rfl Try.isAgg47 Try.sizeOf47 rfl (.loc _ _ _) rfl rfl rfl rfl ?_
                          refine HO_dup (i := 1) rfl rfl ?_
                          refine HO_dup (i := 3) rfl rfl ?_
                          refine HO_dup (i := 5) rfl rfl ?_
                          refine HO_dup (i := 8) rfl rfl ?_
                          refine HO_dup (i := 10) rfl rfl ?_
                          refine HO_dup (i := 12) rfl rfl ?_
                          refine HO_call (first := []) (capt := []) (is := [0, 0, 0, 0, 0, 0]) (R := [_, _, _, _, _, _, _, _]) rfl rfl rfl rfl rfl Try.call59 rfl (rsamesnap_spec _ _ _ _ _ _ _ _ _ _ _ _ _ _ _ _ _ _ _ _ _ _) ?_
                          intro y98 hy98
                          clear y98 hy98
                          refine HO_pick_f rfl rfl rfl rfl ?_
                          refine HO_pick_t rfl rfl rfl rfl ?_
                          refine HO_move rfl rfl rfl ?_
                          refine HO_split (d := 101) rfl ?_ ?_
                          · intro h101
                            (try simp only [decide_eq_true_eq, decide_eq_false_iff_not, Bool.not_eq_true', Bool.not_eq_false', Bool.not_eq_true, Bool.not_eq_false, Bool.true_eq_false, Bool.false_eq_true, not_false_eq_true, not_true_eq_false] at h101)
                            refine HO_call (first := []) (capt := []) (is := []) (R := [_, _, _, _, _, _, _, _]) rfl rfl rfl rfl rfl Try.call31 rfl lives10_spec ?_
                            intro y102 hy102
                            clear y102 hy102
                            refine HO_pick_t rfl rfl rfl rfl ?_
                            refine HO_assign rfl rfl rfl ?_
                            refine HO_nil ?_
                            refine H_env (ρ' := [(6, _)]) ⟨rfl, trivial⟩ ?_
                            refine H_world (fun _ hA => hA.drop (is := [0, 1, 2, 3, 4, 5, 6, 7]) (Y := [_, _, _, _, _, _, _, _]) (Z := []) rfl) ?_
                            -- end36
                            refine H_ret1 Try.results12 (.tmp rfl) (fun w hA => ⟨(), congrArg Ending.returned ?_, ?_, ?_⟩)
                            · (exact congrArg Value.bool (by first | rfl | assumption | simp_all))
                            · trivial
                            · exact hA.only (is := []) (Z := []) rfl
                          · intro h101
                            (try simp only [decide_eq_true_eq, decide_eq_false_iff_not, Bool.not_eq_true', Bool.not_eq_false', Bool.not_eq_true, Bool.not_eq_false, Bool.true_eq_false, Bool.false_eq_true, not_false_eq_true, not_true_eq_false] at h101)
                            (exfalso; rw [hq3] at h95 h101; by_cases hg : Ent.goodSnap ⟨ix2, te2, ⟨vo2, le2⟩, da2⟩ = true <;> simp [hg] at h95 h101)
                      · intro h92
                        (try simp only [decide_eq_true_eq, decide_eq_false_iff_not, Bool.not_eq_true', Bool.not_eq_false', Bool.not_eq_true, Bool.not_eq_false, Bool.true_eq_false, Bool.false_eq_true, not_false_eq_true, not_true_eq_false] at h92)
                        (exfalso; rw [hq3] at h92; by_cases hg : Ent.goodSnap ⟨ix2, te2, ⟨vo2, le2⟩, da2⟩ = true <;> simp [hg] at h92)
                  · intro h81
                    (try simp only [decide_eq_true_eq, decide_eq_false_iff_not, Bool.not_eq_true', Bool.not_eq_false', Bool.not_eq_true, Bool.not_eq_false, Bool.true_eq_false, Bool.false_eq_true, not_false_eq_true, not_true_eq_false] at h81)
                    refine HO_no rfl rfl rfl ?_
                    refine HO_no rfl rfl rfl ?_
                    refine HO_no rfl rfl rfl ?_
                    refine HO_pick_f rfl rfl rfl rfl ?_
                    refine HO_pick_f rfl rfl rfl rfl ?_
                    refine HO_nil ?_
                    refine H_env (ρ' := [(86, _), (12, _), (11, _), (5, _)]) ⟨rfl, rfl, rfl, rfl, trivial⟩ ?_
                    refine H_world (fun _ hA => hA.drop (is := [4, 6]) (Y := [_, _]) (Z := [_, _, _, _, _, _, _, _]) rfl) ?_
                    refine H_cond rfl (fun h => nomatch h) (fun _ => ?_)
                    refine H_skip ?_
                    refine H_seq ?_
                    -- R10 law.go:89
                    refine H_region (l := [_, _, _, _, _, _, _, _, _, _, _, _, _, _, _, _, _, _]) rfl ?_
                    refine HO_loadA (i := 4) (us := []) (cs := [_, _, _, _, _]) (ts := []) rfl rfl rfl Try.isAgg47 Try.sizeOf47 rfl (.loc _ _ _) rfl rfl rfl rfl ?_
                    refine HO_dup (i := 5) rfl rfl ?_
                    refine HO_dup (i := 7) rfl rfl ?_
                    refine HO_dup (i := 9) rfl rfl ?_
                    refine HO_call (first := []) (capt := []) (is := [0, 0, 0]) (R := [_, _, _, _, _, _, _, _]) rfl rfl rfl rfl rfl Try.call32 rfl (goodsnap_spec _ _ _ _ _ _ _ _ _ _ _) ?_
                    intro y88 hy88
                    clear y88 hy88
                    refine HO_move rfl rfl rfl ?_
                    refine HO_bin rfl rfl rfl rfl bin_eql ?_
                    refine HO_bin rfl rfl rfl rfl (bin_eqb Try.runUnderlying4) ?_
                    refine HO_move rfl rfl rfl ?_
                    refine HO_split (d := 92) rfl ?_ ?_
                    · intro h92
                      (try simp only [decide_eq_true_eq, decide_eq_false_iff_not, Bool.not_eq_true', Bool.not_eq_false', Bool.not_eq_true, Bool.not_eq_false, Bool.true_eq_false, Bool.false_eq_true, not_false_eq_true, not_true_eq_false] at h92)
                      refine HO_move rfl rfl rfl ?_
                      refine HO_bin rfl rfl rfl rfl bin_neq ?_
                      refine HO_move rfl rfl rfl ?_
                      refine HO_split (d := 95) rfl ?_ ?_
                      · intro h95
                        (try simp only [decide_eq_true_eq, decide_eq_false_iff_not, Bool.not_eq_true', Bool.not_eq_false', Bool.not_eq_true, Bool.not_eq_false, Bool.true_eq_false, Bool.false_eq_true, not_false_eq_true, not_true_eq_false] at h95)
                        refine HO_no rfl rfl rfl ?_
                        refine HO_no rfl rfl rfl ?_
                        refine HO_no rfl rfl rfl ?_
                        refine HO_pick_t rfl rfl rfl rfl ?_
                        refine HO_pick_t rfl rfl rfl rfl ?_
                        refine HO_move rfl rfl rfl ?_
                        refine HO_call (first := []) (capt := []) (is := []) (R := [_, _, _, _, _, _, _, _]) rfl rfl rfl rfl rfl Try.call31 rfl lives10_spec ?_
                        intro y102 hy102
                        clear y102 hy102
                        refine HO_pick_t rfl rfl rfl rfl ?_
                        refine HO_assign rfl rfl rfl ?_
                        refine HO_nil ?_
                        refine H_env (ρ' := [(6, _)]) ⟨rfl, trivial⟩ ?_
                        refine H_world (fun _ hA => hA.drop (is := [0, 1, 2, 3, 4, 5, 6, 7]) (Y := [_, _, _, _, _, _, _, _]) (Z := []) rfl) ?_
                        -- end37
                        refine H_ret1 Try.results12 (.tmp rfl) (fun w hA => ⟨(), congrArg Ending.returned ?_, ?_, ?_⟩)
                        · (exact congrArg Value.bool (by first | rfl | assumption | simp_all))
                        · trivial
                        · exact hA.only (is := []) (Z := []) rfl
                      · intro h95
                        (try simp only [decide_eq_true_eq, decide_eq_false_iff_not, Bool.not_eq_true', Bool.not_eq_false', Bool.not_eq_true, Bool.not_eq_false, Bool.true_eq_false, Bool.false_eq_true, not_false_eq_true, not_true_eq_false] at h95)
                        refine HO_loadA (i := 0) (us := []) (cs := [_, _, _, _, _]) (ts := []) rfl rfl rfl Try.isAgg47 Try.sizeOf47 rfl (.loc _ _ _) rfl rfl rfl rfl ?_
                        refine HO_loadA (i := 4) (us := []) (cs := [_, _, _, _, _]) (ts := []) rfl rfl rfl Try.isAgg47 Try.sizeOf47 rfl (.loc _ _ _) rfl rfl rfl rfl ?_
                        refine HO_dup (i := 1) rfl rfl ?_
                        refine HO_dup (i := 3) rfl rfl ?_
                        refine HO_dup (i := 5) rfl rfl ?_
                        refine HO_dup (i := 8) rfl rfl ?_
                        refine HO_dup (i := 10) rfl rfl ?_
                        refine HO_dup (i := 12) rfl rfl ?_
                        refine HO_call (first := []) (capt := []) (is := [0, 0, 0, 0, 0, 0]) (R := [_, _, _, _, _, _, _, _]) rfl rfl rfl rfl rfl Try.call59 rfl (rsamesnap_spec _ _ _ _ _ _ _ _ _ _ _ _ _ _ _ _ _ _ _ _ _ _) ?_
                        intro y98 hy98
                        clear y98 hy98
                        refine HO_pick_f rfl rfl rfl rfl ?_
                        refine HO_pick_t rfl rfl rfl rfl ?_
                        refine HO_move rfl rfl rfl ?_
                        refine HO_split (d := 101) rfl ?_ ?_
                        · intro h101
                          (try simp only [decide_eq_true_eq, decide_eq_false_iff_not, Bool.not_eq_true', Bool.not_eq_false', Bool.not_eq_true, Bool.not_eq_false, Bool.true_eq_false, Bool.false_eq_true, not_false_eq_true, not_true_eq_false] at h101)
                          refine HO_call (first := []) (capt := []) (is := []) (R := [_, _, _, _, _, _, _, _]) rfl rfl rfl rfl rfl Try.call31 rfl lives10_spec ?_
                          intro y102 hy102
                          clear y102 hy102
                          refine HO_pick_t rfl rfl rfl rfl ?_
                          refine HO_assign rfl rfl rfl ?_
                          refine HO_nil ?_
                          refine H_env (ρ' := [(6, _)]) ⟨rfl, trivial⟩ ?_
                          refine H_world (fun _ hA => hA.drop (is := [0, 1, 2, 3, 4, 5, 6, 7]) (Y := [_, _, _, _, _, _, _, _]) (Z := []) rfl) ?_
                          -- end38
                          refine H_ret1 Try.results12 (.tmp rfl) (fun w hA => ⟨(), congrArg Ending.returned ?_, ?_, ?_⟩)
                          · (exact congrArg Value.bool (by first | rfl | assumption | simp_all))
                          · trivial
                          · exact hA.only (is := []) (Z := []) rfl
                        · intro h101
                          (try simp only [decide_eq_true_eq, decide_eq_false_iff_not, Bool.not_eq_true', Bool.not_eq_false', Bool.not_eq_true, Bool.not_eq_false, Bool.true_eq_false, Bool.false_eq_true, not_false_eq_true, not_true_eq_false] at h101)
                          (exfalso; rw [hq3] at h95 h101; by_cases hg : Ent.goodSnap ⟨ix2, te2, ⟨vo2, le2⟩, da2⟩ = true <;> simp [hg] at h95 h101)
                    · intro h92
                      (try simp only [decide_eq_true_eq, decide_eq_false_iff_not, Bool.not_eq_true', Bool.not_eq_false', Bool.not_eq_true, Bool.not_eq_false, Bool.true_eq_false, Bool.false_eq_true, not_false_eq_true, not_true_eq_false] at h92)
                      (exfalso; rw [hq3] at h92; by_cases hg : Ent.goodSnap ⟨ix2, te2, ⟨vo2, le2⟩, da2⟩ = true <;> simp [hg] at h92)
        · intro h51
          (try simp only [decide_eq_true_eq, decide_eq_false_iff_not, Bool.not_eq_true', Bool.not_eq_false', Bool.not_eq_true, Bool.not_eq_false, Bool.true_eq_false, Bool.false_eq_true, not_false_eq_true, not_true_eq_false] at h51)
          refine HO_no rfl rfl rfl ?_
          refine HO_no rfl rfl rfl ?_
          refine HO_no rfl rfl rfl ?_
          refine HO_no rfl rfl rfl ?_
          refine HO_no rfl rfl rfl ?_
          refine HO_no rfl rfl rfl ?_
          refine HO_no rfl rfl rfl ?_
          refine HO_no rfl rfl rfl ?_
          refine HO_pick_f rfl rfl rfl rfl ?_
          refine HO_pick_f rfl rfl rfl rfl ?_
          refine HO_nil ?_
          refine H_env (ρ' := [(61, _), (12, _), (11, _), (10, _), (9, _), (5, _), (4, _)]) ⟨rfl, rfl, rfl, rfl, rfl, rfl, rfl, trivial⟩ ?_
          refine H_world (fun _ hA => hA.drop (is := [5, 6, 7, 10, 11, 12]) (Y := [_, _, _, _, _, _]) (Z := [_, _, _, _, _, _, _, _, _, _]) rfl) ?_
          refine H_cond rfl (fun h => nomatch h) (fun _ => ?_)
          refine H_skip ?_
          refine H_seq ?_
          refine H_seq ?_
          -- R8 law.go:86
          refine H_region (l := [_, _, _, _, _, _, _, _, _, _, _, _, _, _, _, _, _, _, _, _, _, _, _, _, _]) rfl ?_
          refine HO_move rfl rfl rfl ?_
          refine HO_bin rfl rfl rfl rfl bin_eql ?_
          refine HO_fieldAddr (r := 0) rfl rfl rfl Try.underlying49 rfl Try.sizeOf3 rfl ?_
          refine HO_load1 (i := 6) (j := 0) rfl rfl rfl Try.isAgg3 rfl (.loc _ _ _) rfl rfl ?_
          refine HO_bin rfl rfl rfl rfl bin_geq ?_
          refine HO_move rfl rfl rfl ?_
          refine HO_split (d := 67) rfl ?_ ?_
          · intro h67
            (try simp only [decide_eq_true_eq, decide_eq_false_iff_not, Bool.not_eq_true', Bool.not_eq_false', Bool.not_eq_true, Bool.not_eq_false, Bool.true_eq_false, Bool.false_eq_true, not_false_eq_true, not_true_eq_false] at h67)
            refine HO_fieldAddr (r := 1) rfl rfl rfl Try.underlying49 rfl Try.sizeOf3 rfl ?_
            refine HO_load1 (i := 6) (j := 1) rfl rfl rfl Try.isAgg3 rfl (.loc _ _ _) rfl rfl ?_
            refine HO_bin rfl rfl rfl rfl bin_geq ?_
            refine HO_pick_t rfl rfl rfl rfl ?_
            refine HO_move rfl rfl rfl ?_
            refine HO_split (d := 72) rfl ?_ ?_
            · intro h72
              (try simp only [decide_eq_true_eq, decide_eq_false_iff_not, Bool.not_eq_true', Bool.not_eq_false', Bool.not_eq_true, Bool.not_eq_false, Bool.true_eq_false, Bool.false_eq_true, not_false_eq_true, not_true_eq_false] at h72)
              refine HO_fieldAddr (r := 2) rfl rfl rfl Try.underlying49 rfl Try.sizeOf3 rfl ?_
              refine HO_load1 (i := 6) (j := 2) rfl rfl rfl Try.isAgg3 rfl (.loc _ _ _) rfl rfl ?_
              refine HO_bin rfl rfl rfl rfl bin_geq ?_
              refine HO_pick_t rfl rfl rfl rfl ?_
              refine HO_bin rfl rfl rfl rfl (bin_neb Try.runUnderlying4) ?_
              refine HO_move rfl rfl rfl ?_
              refine HO_split (d := 78) rfl ?_ ?_
              · intro h78
                (try simp only [decide_eq_true_eq, decide_eq_false_iff_not, Bool.not_eq_true', Bool.not_eq_false', Bool.not_eq_true, Bool.not_eq_false, Bool.true_eq_false, Bool.false_eq_true, not_false_eq_true, not_true_eq_false] at h78)
                (exfalso; revert h78; rw [hq2]; by_cases hg : Ent.goodH ⟨ht, hu, hw⟩ = true <;> simp [hg] <;> simp_all [Ent.goodH] <;> omega)
              · intro h78
                (try simp only [decide_eq_true_eq, decide_eq_false_iff_not, Bool.not_eq_true', Bool.not_eq_false', Bool.not_eq_true, Bool.not_eq_false, Bool.true_eq_false, Bool.false_eq_true, not_false_eq_true, not_true_eq_false] at h78)
                refine HO_move rfl rfl rfl ?_
                refine HO_bin rfl rfl rfl rfl bin_eql ?_
                refine HO_move rfl rfl rfl ?_
                refine HO_split (d := 81) rfl ?_ ?_
                · intro h81
                  (try simp only [decide_eq_true_eq, decide_eq_false_iff_not, Bool.not_eq_true', Bool.not_eq_false', Bool.not_eq_true, Bool.not_eq_false, Bool.true_eq_false, Bool.false_eq_true, not_false_eq_true, not_true_eq_false] at h81)
                  refine HO_loadA (i := 4) (us := []) (cs := [_, _, _]) (ts := []) rfl rfl rfl Try.isAgg49 Try.sizeOf49 rfl (.loc _ _ _) rfl rfl rfl rfl ?_
                  refine HO_loadA (i := 6) (us := []) (cs := [_, _, _]) (ts := []) rfl rfl rfl Try.isAgg49 Try.sizeOf49 rfl (.loc _ _ _) rfl rfl rfl rfl ?_
                  refine HO_bin rfl rfl rfl rfl eq49_neq ?_
                  refine HO_pick_t rfl rfl rfl rfl ?_
                  refine HO_pick_f rfl rfl rfl rfl ?_
                  refine HO_nil ?_
                  refine H_env (ρ' := [(86, _), (12, _), (11, _), (5, _)]) ⟨rfl, rfl, rfl, rfl, trivial⟩ ?_
                  refine H_world (fun _ hA => hA.drop (is := [4, 6]) (Y := [_, _]) (Z := [_, _, _, _, _, _, _, _]) rfl) ?_
                  refine H_cond rfl ?_ ?_
                  · intro h86
                    (try simp only [decide_eq_true_eq, decide_eq_false_iff_not, Bool.not_eq_true', Bool.not_eq_false', Bool.not_eq_true, Bool.not_eq_false, Bool.true_eq_false, Bool.false_eq_true, not_false_eq_true, not_true_eq_false] at h86)
                    (exfalso; rw [hq2] at h81 h86; by_cases hg : Ent.goodH ⟨ht, hu, hw⟩ = true <;> simp [hg] at h81 h86)
                  · intro h86
                    (try simp only [decide_eq_true_eq, decide_eq_false_iff_not, Bool.not_eq_true', Bool.not_eq_false', Bool.not_eq_true, Bool.not_eq_false, Bool.true_eq_false, Bool.false_eq_true, not_false_eq_true, not_true_eq_false] at h86)
                    refine H_skip ?_
                    refine H_seq ?_
                    -- R10 law.go:89
                    refine H_region (l := [_, _, _, _, _, _, _, _, _, _, _, _, _, _, _, _, _, _]) rfl ?_
                    refine HO_loadA (i := 4) (us := []) (cs := [_, _, _, _, _]) (ts := []) rfl rfl rfl Try.isAgg47 Try.sizeOf47 rfl (.loc _ _ _) rfl rfl rfl rfl ?_
                    refine HO_dup (i := 5) rfl rfl ?_
                    refine HO_dup (i := 7) rfl rfl ?_
                    refine HO_dup (i := 9) rfl rfl ?_
                    refine HO_call (first := []) (capt := []) (is := [0, 0, 0]) (R := [_, _, _, _, _, _, _, _]) rfl rfl rfl rfl rfl Try.call32 rfl (goodsnap_spec _ _ _ _ _ _ _ _ _ _ _) ?_
                    intro y88 hy88
                    clear y88 hy88
                    refine HO_move rfl rfl rfl ?_
                    refine HO_bin rfl rfl rfl rfl bin_eql ?_
                    refine HO_bin rfl rfl rfl rfl (bin_eqb Try.runUnderlying4) ?_
                    refine HO_move rfl rfl rfl ?_
                    refine HO_split (d := 92) rfl ?_ ?_
                    · intro h92
                      (try simp only [decide_eq_true_eq, decide_eq_false_iff_not, Bool.not_eq_true', Bool.not_eq_false', Bool.not_eq_true, Bool.not_eq_false, Bool.true_eq_false, Bool.false_eq_true, not_false_eq_true, not_true_eq_false] at h92)
                      refine HO_move rfl rfl rfl ?_
                      refine HO_bin rfl rfl rfl rfl bin_neq ?_
                      refine HO_move rfl rfl rfl ?_
                      refine HO_split (d := 95) rfl ?_ ?_
                      · intro h95
                        (try simp only [decide_eq_true_eq, decide_eq_false_iff_not, Bool.not_eq_true', Bool.not_eq_false', Bool.not_eq_true, Bool.not_eq_false, Bool.true_eq_false, Bool.false_eq_true, not_false_eq_true, not_true_eq_false] at h95)
                        refine HO_no rfl rfl rfl ?_
                        refine HO_no rfl rfl rfl ?_
                        refine HO_no rfl rfl rfl ?_
                        refine HO_pick_t rfl rfl rfl rfl ?_
                        refine HO_pick_t rfl rfl rfl rfl ?_
                        refine HO_move rfl rfl rfl ?_
                        refine HO_call (first := []) (capt := []) (is := []) (R := [_, _, _, _, _, _, _, _]) rfl rfl rfl rfl rfl Try.call31 rfl lives10_spec ?_
                        intro y102 hy102
                        clear y102 hy102
                        refine HO_pick_t rfl rfl rfl rfl ?_
                        refine HO_assign rfl rfl rfl ?_
                        refine HO_nil ?_
                        refine H_env (ρ' := [(6, _)]) ⟨rfl, trivial⟩ ?_
                        refine H_world (fun _ hA => hA.drop (is := [0, 1, 2, 3, 4, 5, 6, 7]) (Y := [_, _, _, _, _, _, _, _]) (Z := []) rfl) ?_
                        -- end39
                        refine H_ret1 Try.results12 (.tmp rfl) (fun w hA => ⟨(), congrArg Ending.returned ?_, ?_, ?_⟩)
                        · (exact congrArg Value.bool (by first | rfl | assumption | simp_all))
                        · trivial
                        · exact hA.only (is := []) (Z := []) rfl
                      · intro h95
                        (try simp only [decide_eq_true_eq, decide_eq_false_iff_not, Bool.not_eq_true', Bool.not_eq_false', Bool.not_eq_true, Bool.not_eq_false, Bool.true_eq_false, Bool.false_eq_true, not_false_eq_true, not_true_eq_false] at h95)
                        refine HO_loadA (i := 0) (us := []) (cs := [_, _, _, _, _]) (ts := []) rfl rfl rfl Try.isAgg47 Try.sizeOf47 rfl (.loc _ _ _) rfl rfl rfl rfl ?_
                        refine HO_loadA (i := 4) (us := []) (cs := [_, _, _, _, _]) (ts := []) rfl rfl rfl Try.isAgg47 Try.sizeOf47 rfl (.loc _ _ _) rfl rfl rfl rfl ?_
                        refine HO_dup (i := 1) rfl rfl ?_
                        refine HO_dup (i := 3) rfl rfl ?_
                        refine HO_dup (i := 5) rfl rfl ?_
                        refine HO_dup (i := 8) rfl rfl ?_
                        refine HO_dup (i := 10) rfl rfl ?_
                        refine HO_dup (i := 12) rfl rfl ?_
                        refine HO_call (first := []) (capt := []) (is := [0, 0, 0, 0, 0, 0]) (R := [_, _, _, _, _, _, _, _]) rfl rfl rfl rfl rfl Try.call59 rfl (rsamesnap_spec _ _ _ _ _ _ _ _ _ _ _ _ _ _ _ _ _ _ _ _ _ _) ?_
                        intro y98 hy98
                        clear y98 hy98
                        refine HO_pick_f rfl rfl rfl rfl ?_
                        refine HO_pick_t rfl rfl rfl rfl ?_
                        refine HO_move rfl rfl rfl ?_
                        refine HO_split (d := 101) rfl ?_ ?_
                        · intro h101
                          (try simp only [decide_eq_true_eq, decide_eq_false_iff_not, Bool.not_eq_true', Bool.not_eq_false', Bool.not_eq_true, Bool.not_eq_false, Bool.true_eq_false, Bool.false_eq_true, not_false_eq_true, not_true_eq_false] at h101)
                          refine HO_call (first := []) (capt := []) (is := []) (R := [_, _, _, _, _, _, _, _]) rfl rfl rfl rfl rfl Try.call31 rfl lives10_spec ?_
                          intro y102 hy102
                          clear y102 hy102
                          refine HO_pick_t rfl rfl rfl rfl ?_
                          refine HO_assign rfl rfl rfl ?_
                          refine HO_nil ?_
                          refine H_env (ρ' := [(6, _)]) ⟨rfl, trivial⟩ ?_
                          refine H_world (fun _ hA => hA.drop (is := [0, 1, 2, 3, 4, 5, 6, 7]) (Y := [_, _, _, _, _, _, _, _]) (Z := []) rfl) ?_
                          -- end40
                          refine H_ret1 Try.results12 (.tmp rfl) (fun w hA => ⟨(), congrArg Ending.returned ?_, ?_, ?_⟩)
                          · (exact congrArg Value.bool (by first | rfl | assumption | simp_all))
                          · trivial
                          · exact hA.only (is := []) (Z := []) rfl
                        · intro h101
                          (try simp only [decide_eq_true_eq, decide_eq_false_iff_not, Bool.not_eq_true', Bool.not_eq_false', Bool.not_eq_true, Bool.not_eq_false, Bool.true_eq_false, Bool.false_eq_true, not_false_eq_true, not_true_eq_false] at h101)
                          (exfalso; rw [hq3] at h95 h101; by_cases hg : Ent.goodSnap ⟨ix2, te2, ⟨vo2, le2⟩, da2⟩ = true <;> simp [hg] at h95 h101)
                    · intro h92
                      (try simp only [decide_eq_true_eq, decide_eq_false_iff_not, Bool.not_eq_true', Bool.not_eq_false', Bool.not_eq_true, Bool.not_eq_false, Bool.true_eq_false, Bool.false_eq_true, not_false_eq_true, not_true_eq_false] at h92)
                      (exfalso; rw [hq3] at h92; by_cases hg : Ent.goodSnap ⟨ix2, te2, ⟨vo2, le2⟩, da2⟩ = true <;> simp [hg] at h92)
                · intro h81
                  (try simp only [decide_eq_true_eq, decide_eq_false_iff_not, Bool.not_eq_true', Bool.not_eq_false', Bool.not_eq_true, Bool.not_eq_false, Bool.true_eq_false, Bool.false_eq_true, not_false_eq_true, not_true_eq_false] at h81)
                  refine HO_no rfl rfl rfl ?_
                  refine HO_no rfl rfl rfl ?_
                  refine HO_no rfl rfl rfl ?_
                  refine HO_pick_f rfl rfl rfl rfl ?_
                  refine HO_pick_f rfl rfl rfl rfl ?_
                  refine HO_nil ?_
                  refine H_env (ρ' := [(86, _), (12, _), (11, _), (5, _)]) ⟨rfl, rfl, rfl, rfl, trivial⟩ ?_
                  refine H_world (fun _ hA => hA.drop (is := [4, 6]) (Y := [_, _]) (Z := [_, _, _, _, _, _, _, _]) rfl) ?_
                  refine H_cond rfl (fun h => nomatch h) (fun _ => ?_)
                  refine H_skip ?_
                  refine H_seq ?_
                  -- R10 law.go:89
                  refine H_region (l := [_, _, _, _, _, _, _, _, _, _, _, _, _, _, _, _, _, _]) rfl ?_
                  refine HO_loadA (i := 4) (us := []) (cs := [_, _, _, _, _]) (ts := []) rfl rfl rfl Try.isAgg47 Try.sizeOf47 rfl (.loc _ _ _) rfl rfl rfl rfl ?_
                  refine HO_dup (i := 5) rfl rfl ?_
                  refine HO_dup (i := 7) rfl rfl ?_
                  refine HO_dup (i := 9) rfl rfl ?_
                  refine HO_call (first := []) (capt := []) (is := [0, 0, 0]) (R := [_, _, _, _, _, _, _, _]) rfl rfl rfl rfl rfl Try.call32 rfl (goodsnap_spec _ _ _ _ _ _ _ _ _ _ _) ?_
                  intro y88 hy88
                  clear y88 hy88
                  refine HO_move rfl rfl rfl ?_
                  refine HO_bin rfl rfl rfl rfl bin_eql ?_
                  refine HO_bin rfl rfl rfl rfl (bin_eqb Try.runUnderlying4) ?_
                  refine HO_move rfl rfl rfl ?_
                  refine HO_split (d := 92) rfl ?_ ?_
                  · intro h92
                    (try simp only [decide_eq_true_eq, decide_eq_false_iff_not, Bool.not_eq_true', Bool.not_eq_false', Bool.not_eq_true, Bool.not_eq_false, Bool.true_eq_false, Bool.false_eq_true, not_false_eq_true, not_true_eq_false] at h92)
                    refine HO_move rfl rfl rfl ?_
                    refine HO_bin rfl rfl rfl rfl bin_neq ?_
                    refine HO_move rfl rfl rfl ?_
                    refine HO_split (d := 95) rfl ?_ ?_
                    · intro h95
                      (try simp only [decide_eq_true_eq, decide_eq_false_iff_not, Bool.not_eq_true', Bool.not_eq_false', Bool.not_eq_true, Bool.not_eq_false, Bool.true_eq_false, Bool.false_eq_true, not_false_eq_true, not_true_eq_false] at h95)
                      refine HO_no rfl rfl rfl ?_
                      refine HO_no rfl rfl rfl ?_
                      refine HO_no rfl rfl rfl ?_
                      refine HO_pick_t rfl rfl rfl rfl ?_
                      refine HO_pick_t rfl rfl rfl rfl ?_
                      refine HO_move rfl rfl rfl ?_
                      refine HO_call (first := []) (capt := []) (is := []) (R := [_, _, _, _, _, _, _, _]) rfl rfl rfl rfl rfl Try.call31 rfl lives10_spec ?_
                      intro y102 hy102
                      clear y102 hy102
                      refine HO_pick_t rfl rfl rfl rfl ?_
                      refine HO_assign rfl rfl rfl ?_
                      refine HO_nil ?_
                      refine H_env (ρ' := [(6, _)]) ⟨rfl, trivial⟩ ?_
                      refine H_world (fun _ hA => hA.drop (is := [0, 1, 2, 3, 4, 5, 6, 7]) (Y := [_, _, _, _, _, _, _, _]) (Z := []) rfl) ?_
                      -- end41
                      refine H_ret1 Try.results12 (.tmp rfl) (fun w hA => ⟨(), congrArg Ending.returned ?_, ?_, ?_⟩)
                      · (exact congrArg Value.bool (by first | rfl | assumption | simp_all))
                      · trivial
                      · exact hA.only (is := []) (Z := []) rfl
                    · intro h95
                      (try simp only [decide_eq_true_eq, decide_eq_false_iff_not, Bool.not_eq_true', Bool.not_eq_false', Bool.not_eq_true, Bool.not_eq_false, Bool.true_eq_false, Bool.false_eq_true, not_false_eq_true, not_true_eq_false] at h95)
                      refine HO_loadA (i := 0) (us := []) (cs := [_, _, _, _, _]) (ts := []) rfl rfl rfl Try.isAgg47 Try.sizeOf47 rfl (.loc _ _ _) rfl rfl rfl rfl ?_
                      refine HO_loadA (i := 4) (us := []) (cs := [_, _, _, _, _]) (ts := []) rfl rfl rfl Try.isAgg47 Try.sizeOf47 rfl (.loc _ _ _) rfl rfl rfl rfl ?_
                      refine HO_dup (i := 1) rfl rfl ?_
                      refine HO_dup (i := 3) rfl rfl ?_
                      refine HO_dup (i := 5) rfl rfl ?_
                      refine HO_dup (i := 8) rfl rfl ?_
                      refine HO_dup (i := 10) rfl rfl ?_
                      refine HO_dup (i := 12) rfl rfl ?_
                      refine HO_call (first := []) (capt := []) (is := [0, 0, 0, 0, 0, 0]) (R := [_, _, _, _, _, _, _, _]) rfl rfl rfl rfl rfl Try.call59 rfl (rsamesnap_spec _ _ _ _ _ _ _ _ _ _ _ _ _ _ _ _ _ _ _ _ _ _) ?_
                      intro y98 hy98
                      clear y98 hy98
                      refine HO_pick_f rfl rfl rfl rfl ?_
                      refine HO_pick_t rfl rfl rfl rfl ?_
                      refine HO_move rfl rfl rfl ?_
                      refine HO_split (d := 101) rfl ?_ ?_
                      · intro h101
                        (try simp only [decide_eq_true_eq, decide_eq_false_iff_not, Bool.not_eq_true', Bool.not_eq_false', Bool.not_eq_true, Bool.not_eq_false, Bool.true_eq_false, Bool.false_eq_true, not_false_eq_true, not_true_eq_false] at h101)
                        refine HO_call (first := []) (capt := []) (is := []) (R := [_, _, _, _, _, _, _, _]) rfl rfl rfl rfl rfl Try.call31 rfl lives10_spec ?_
                        intro y102 hy102
                        clear y102 hy102
                        refine HO_pick_t rfl rfl rfl rfl ?_
                        refine HO_assign rfl rfl rfl ?_
                        refine HO_nil ?_
                        refine H_env (ρ' := [(6, _)]) ⟨rfl, trivial⟩ ?_
                        refine H_world (fun _ hA => hA.drop (is := [0, 1, 2, 3, 4, 5, 6, 7]) (Y := [_, _, _, _, _, _, _, _]) (Z := []) rfl) ?_
                        -- end42
                        refine H_ret1 Try.results12 (.tmp rfl) (fun w hA => ⟨(), congrArg Ending.returned ?_, ?_, ?_⟩)
                        · (exact congrArg Value.bool (by first | rfl | assumption | simp_all))
                        · trivial
                        · exact hA.only (is := []) (Z := []) rfl
                      · intro h101
                        (try simp only [decide_eq_true_eq, decide_eq_false_iff_not, Bool.not_eq_true', Bool.not_eq_false', Bool.not_eq_true, Bool.not_eq_false, Bool.true_eq_false, Bool.false_eq_true, not_false_eq_true, not_true_eq_false] at h101)
                        (exfalso; rw [hq3] at h95 h101; by_cases hg : Ent.goodSnap ⟨ix2, te2, ⟨vo2, le2⟩, da2⟩ = true <;> simp [hg] at h95 h101)
                  · intro h92
                    (try simp only [decide_eq_true_eq, decide_eq_false_iff_not, Bool.not_eq_true', Bool.not_eq_false', Bool.not_eq_true, Bool.not_eq_false, Bool.true_eq_false, Bool.false_eq_true, not_false_eq_true, not_true_eq_false] at h92)
                    (exfalso; rw [hq3] at h92; by_cases hg : Ent.goodSnap ⟨ix2, te2, ⟨vo2, le2⟩, da2⟩ = true <;> simp [hg] at h92)
            · intro h72
              (try simp only [decide_eq_true_eq, decide_eq_false_iff_not, Bool.not_eq_true', Bool.not_eq_false', Bool.not_eq_true, Bool.not_eq_false, Bool.true_eq_false, Bool.false_eq_true, not_false_eq_true, not_true_eq_false] at h72)
              refine HO_no rfl rfl rfl ?_
              refine HO_no rfl rfl rfl ?_
              refine HO_no rfl rfl rfl ?_
              refine HO_pick_f rfl rfl rfl rfl ?_
              refine HO_bin rfl rfl rfl rfl (bin_neb Try.runUnderlying4) ?_
              refine HO_move rfl rfl rfl ?_
              refine HO_split (d := 78) rfl ?_ ?_
              · intro h78
                (try simp only [decide_eq_true_eq, decide_eq_false_iff_not, Bool.not_eq_true', Bool.not_eq_false', Bool.not_eq_true, Bool.not_eq_false, Bool.true_eq_false, Bool.false_eq_true, not_false_eq_true, not_true_eq_false] at h78)
                (exfalso; revert h78; rw [hq2]; by_cases hg : Ent.goodH ⟨ht, hu, hw⟩ = true <;> simp [hg] <;> simp_all [Ent.goodH] <;> omega)
              · intro h78
                (try simp only [decide_eq_true_eq, decide_eq_false_iff_not, Bool.not_eq_true', Bool.not_eq_false', Bool.not_eq_true, Bool.not_eq_false, Bool.true_eq_false, Bool.false_eq_true, not_false_eq_true, not_true_eq_false] at h78)
                refine HO_move rfl rfl rfl ?_
                refine HO_bin rfl rfl rfl rfl bin_eql ?_
                refine HO_move rfl rfl rfl ?_
                refine HO_split (d := 81) rfl ?_ ?_
                · intro h81
                  (try simp only [decide_eq_true_eq, decide_eq_false_iff_not, Bool.not_eq_true', Bool.not_eq_false', Bool.not_eq_true, Bool.not_eq_false, Bool.true_eq_false, Bool.false_eq_true, not_false_eq_true, not_true_eq_false] at h81)
                  refine HO_loadA (i := 4) (us := []) (cs := [_, _, _]) (ts := []) rfl rfl rfl Try.isAgg49 Try.sizeOf49 rfl (.loc _ _ _) rfl rfl rfl rfl ?_
                  refine HO_loadA (i := 6) (us := []) (cs := [_, _, _]) (ts := []) rfl rfl rfl Try.isAgg49 Try.sizeOf49 rfl (.loc _ _ _) rfl rfl rfl rfl ?_
                  refine HO_bin rfl rfl rfl rfl eq49_neq ?_
                  refine HO_pick_t rfl rfl rfl rfl ?_
                  refine HO_pick_f rfl rfl rfl rfl ?_
                  refine HO_nil ?_
                  refine H_env (ρ' := [(86, _), (12, _), (11, _), (5, _)]) ⟨rfl, rfl, rfl, rfl, trivial⟩ ?_
                  refine H_world (fun _ hA => hA.drop (is := [4, 6]) (Y := [_, _]) (Z := [_, _, _, _, _, _, _, _]) rfl) ?_
                  refine H_cond rfl ?_ ?_
                  · intro h86
                    (try simp only [decide_eq_true_eq, decide_eq_false_iff_not, Bool.not_eq_true', Bool.not_eq_false', Bool.not_eq_true, Bool.not_eq_false, Bool.true_eq_false, Bool.false_eq_true, not_false_eq_true, not_true_eq_false] at h86)
                    (exfalso; rw [hq2] at h81 h86; by_cases hg : Ent.goodH ⟨ht, hu, hw⟩ = true <;> simp [hg] at h81 h86)
                  · intro h86
                    (try simp only [decide_eq_true_eq, decide_eq_false_iff_not, Bool.not_eq_true', Bool.not_eq_false', Bool.not_eq_true, Bool.not_eq_false, Bool.true_eq_false, Bool.false_eq_true, not_false_eq_true, not_true_eq_false] at h86)
                    refine H_skip ?_
                    refine H_seq ?_
                    -- R10 law.go:89
                    refine H_region (l := [_, _, _, _, _, _, _, _, _, _, _, _, _, _, _, _, _, _]) rfl ?_
                    refine HO_loadA (i := 4) (us := []) (cs := [_, _, _, _, _]) (ts := []) rfl rfl rfl Try.isAgg47 Try.sizeOf47 rfl (.loc _ _ _) rfl rfl rfl rfl ?_
                    refine HO_dup (i := 5) rfl rfl ?_
                    refine HO_dup (i := 7) rfl rfl ?_
                    refine HO_dup (i := 9) rfl rfl ?_
                    refine HO_call (first := []) (capt := []) (is := [0, 0, 0]) (R := [_, _, _, _, _, _, _, _]) rfl rfl rfl rfl rfl Try.call32 rfl (goodsnap_spec _ _ _ _ _ _ _ _ _ _ _) ?_
                    intro y88 hy88
                    clear y88 hy88
                    refine HO_move rfl rfl rfl ?_
                    refine HO_bin rfl rfl rfl rfl bin_eql ?_
                    refine HO_bin rfl rfl rfl rfl (bin_eqb Try.runUnderlying4) ?_
                    refine HO_move rfl rfl rfl ?_
                    refine HO_split (d := 92) rfl ?_ ?_
                    · intro h92
                      (try simp only [decide_eq_true_eq, decide_eq_false_iff_not, Bool.not_eq_true', Bool.not_eq_false', Bool.not_eq_true, Bool.not_eq_false, Bool.true_eq_false, Bool.false_eq_true, not_false_eq_true, not_true_eq_false] at h92)
                      refine HO_move rfl rfl rfl ?_
                      refine HO_bin rfl rfl rfl rfl bin_neq ?_
                      refine HO_move rfl rfl rfl ?_
                      refine HO_split (d := 95) rfl ?_ ?_
                      · intro h95
                        (try simp only [decide_eq_true_eq, decide_eq_false_iff_not, Bool.not_eq_true', Bool.not_eq_false', Bool.not_eq_true, Bool.not_eq_false, Bool.true_eq_false, Bool.false_eq_true, not_false_eq_true, not_true_eq_false] at h95)
                        refine HO_no rfl rfl rfl ?_
                        refine HO_no rfl rfl rfl ?_
                        refine HO_no rfl rfl rfl ?_
                        refine HO_pick_t rfl rfl rfl rfl ?_
                        refine HO_pick_t rfl rfl rfl rfl ?_
                        refine HO_move rfl rfl rfl ?_
                        refine HO_call (first := []) (capt := []) (is := []) (R := [_, _, _, _, _, _, _, _]) rfl rfl rfl rfl rfl Try.call31 rfl lives10_spec ?_
                        intro y102 hy102
                        clear y102 hy102
                        refine HO_pick_t rfl rfl rfl rfl ?_
                        refine HO_assign rfl rfl rfl ?_
                        refine HO_nil ?_
                        refine H_env (ρ' := [(6, _)]) ⟨rfl, trivial⟩ ?_
                        refine H_world (fun _ hA => hA.drop (is := [0, 1, 2, 3, 4, 5, 6, 7]) (Y := [_, _, _, _, _, _, _, _]) (Z := []) rfl) ?_
                        -- end43
                        refine H_ret1 Try.results12 (.tmp rfl) (fun w hA => ⟨(), congrArg Ending.returned ?_, ?_, ?_⟩)
                        · (exact congrArg Value.bool (by first | rfl | assumption | simp_all))
                        · trivial
                        · exact hA.only (is := []) (Z := []) rfl
                      · intro h95
                        (try simp only [decide_eq_true_eq, decide_eq_false_iff_not, Bool.not_eq_true', Bool.not_eq_false', Bool.not_eq_true, Bool.not_eq_false, Bool.true_eq_false, Bool.false_eq_true, not_false_eq_true, not_true_eq_false] at h95)
                        refine HO_loadA (i := 0) (us := []) (cs := [_, _, _, _, _]) (ts := []) rfl rfl rfl Try.isAgg47 Try.sizeOf47 rfl (.loc _ _ _) rfl rfl rfl rfl ?_
                        refine HO_loadA (i := 4) (us := []) (cs := [_, _, _, _, _]) (ts := []) rfl rfl rfl Try.isAgg47 Try.sizeOf47 rfl (.loc _ _ _) rfl rfl rfl rfl ?_
                        refine HO_dup (i := 1) rfl rfl ?_
                        refine HO_dup (i := 3) rfl rfl ?_
                        refine HO_dup (i := 5) rfl rfl ?_
                        refine HO_dup (i := 8) rfl rfl ?_
                        refine HO_dup (i := 10) rfl rfl ?_
                        refine HO_dup (i := 12) rfl rfl ?_
                        refine HO_call (first := []) (capt := []) (is := [0, 0, 0, 0, 0, 0]) (R := [_, _, _, _, _, _, _, _]) rfl rfl rfl rfl rfl Try.call59 rfl (rsamesnap_spec _ _ _ _ _ _ _ _ _ _ _ _ _ _ _ _ _ _ _ _ _ _) ?_
                        intro y98 hy98
                        clear y98 hy98
                        refine HO_pick_f rfl rfl rfl rfl ?_
                        refine HO_pick_t rfl rfl rfl rfl ?_
                        refine HO_move rfl rfl rfl ?_
                        refine HO_split (d := 101) rfl ?_ ?_
                        · intro h101
                          (try simp only [decide_eq_true_eq, decide_eq_false_iff_not, Bool.not_eq_true', Bool.not_eq_false', Bool.not_eq_true, Bool.not_eq_false, Bool.true_eq_false, Bool.false_eq_true, not_false_eq_true, not_true_eq_false] at h101)
                          refine HO_call (first := []) (capt := []) (is := []) (R := [_, _, _, _, _, _, _, _]) rfl rfl rfl rfl rfl Try.call31 rfl lives10_spec ?_
                          intro y102 hy102
                          clear y102 hy102
                          refine HO_pick_t rfl rfl rfl rfl ?_
                          refine HO_assign rfl rfl rfl ?_
                          refine HO_nil ?_
                          refine H_env (ρ' := [(6, _)]) ⟨rfl, trivial⟩ ?_
                          refine H_world (fun _ hA => hA.drop (is := [0, 1, 2, 3, 4, 5, 6, 7]) (Y := [_, _, _, _, _, _, _, _]) (Z := []) rfl) ?_
                          -- end44
                          refine H_ret1 Try.results12 (.tmp rfl) (fun w hA => ⟨(), congrArg Ending.returned ?_, ?_, ?_⟩)
                          · (exact congrArg Value.bool (by first | rfl | assumption | simp_all))
                          · trivial
                          · exact hA.only (is := []) (Z := []) rfl
                        · intro h101
                          (try simp only [decide_eq_true_eq, decide_eq_false_iff_not, Bool.not_eq_true', Bool.not_eq_false', Bool.not_eq_true, Bool.not_eq_false, Bool.true_eq_false, Bool.false_eq_true, not_false_eq_true, not_true_eq_false] at h101)
                          (exfalso; rw [hq3] at h95 h101; by_cases hg : Ent.goodSnap ⟨ix2, te2, ⟨vo2, le2⟩, da2⟩ = true <;> simp [hg] at h95 h101)
                    · intro h92
                      (try simp only [decide_eq_true_eq, decide_eq_false_iff_not, Bool.not_eq_true', Bool.not_eq_false', Bool.not_eq_true, Bool.not_eq_false, Bool.true_eq_false, Bool.false_eq_true, not_false_eq_true, not_true_eq_false] at h92)
                      (exfalso; rw [hq3] at h92; by_cases hg : Ent.goodSnap ⟨ix2, te2, ⟨vo2, le2⟩, da2⟩ = true <;> simp [hg] at h92)
                · intro h81
                  (try simp only [decide_eq_true_eq, decide_eq_false_iff_not, Bool.not_eq_true', Bool.not_eq_false', Bool.not_eq_true, Bool.not_eq_false, Bool.true_eq_false, Bool.false_eq_true, not_false_eq_true, not_true_eq_false] at h81)
                  refine HO_no rfl rfl rfl ?_
                  refine HO_no rfl rfl rfl ?_
                  refine HO_no rfl rfl rfl ?_
                  refine HO_pick_f rfl rfl rfl rfl ?_
                  refine HO_pick_f rfl rfl rfl rfl ?_
                  refine HO_nil ?_
                  refine H_env (ρ' := [(86, _), (12, _), (11, _), (5, _)]) ⟨rfl, rfl, rfl, rfl, trivial⟩ ?_
                  refine H_world (fun _ hA => hA.drop (is := [4, 6]) (Y := [_, _]) (Z := [_, _, _, _, _, _, _, _]) rfl) ?_
                  refine H_cond rfl (fun h => nomatch h) (fun _ => ?_)
                  refine H_skip ?_
                  refine H_seq ?_
                  -- R10 law.go:89
                  refine H_region (l := [_, _, _, _, _, _, _, _, _, _, _, _, _, _, _, _, _, _]) rfl ?_
                  refine HO_loadA (i := 4) (us := []) (cs := [_, _, _, _, _]) (ts := []) rfl rfl rfl Try.isAgg47 Try.sizeOf47 rfl (.loc _ _ _) rfl rfl rfl rfl ?_
                  refine HO_dup (i := 5) rfl rfl ?_
                  refine HO_dup (i := 7) rfl rfl ?_
                  refine HO_dup (i := 9) rfl rfl ?_
                  refine HO_call (first := []) (capt := []) (is := [0, 0, 0]) (R := [_, _, _, _, _, _, _, _]) rfl rfl rfl rfl rfl Try.call32 rfl (goodsnap_spec _ _ _ _ _ _ _ _ _ _ _) ?_
                  intro y88 hy88
                  clear y88 hy88
                  refine HO_move rfl rfl rfl ?_
                  refine HO_bin rfl rfl rfl rfl bin_eql ?_
                  refine HO_bin rfl rfl rfl rfl (bin_eqb Try.runUnderlying4) ?_
                  refine HO_move rfl rfl rfl ?_
                  refine HO_split (d := 92) rfl ?_ ?_
                  · intro h92
                    (try simp only [decide_eq_true_eq, decide_eq_false_iff_not, Bool.not_eq_true', Bool.not_eq_false', Bool.not_eq_true, Bool.not_eq_false, Bool.true_eq_false, Bool.false_eq_true, not_false_eq_true, not_true_eq_false] at h92)
                    refine HO_move rfl rfl rfl ?_
                    refine HO_bin rfl rfl rfl rfl bin_neq ?_
                    refine HO_move rfl rfl rfl ?_
                    refine HO_split (d := 95) rfl ?_ ?_
                    · intro h95
                      (try simp only [decide_eq_true_eq, decide_eq_false_iff_not, Bool.not_eq_true', Bool.not_eq_false', Bool.not_eq_true, Bool.not_eq_false, Bool.true_eq_false, Bool.false_eq_true, not_false_eq_true, not_true_eq_false] at h95)
                      refine HO_no rfl rfl rfl ?_
                      refine HO_no rfl rfl rfl ?_
                      refine HO_no rfl rfl rfl ?_
                      refine HO_pick_t rfl rfl rfl rfl ?_
                      refine HO_pick_t rfl rfl rfl rfl ?_
                      refine HO_move rfl rfl rfl ?_
                      refine HO_call (first := []) (capt := []) (is := []) (R := [_, _, _, _, _, _, _, _]) rfl rfl rfl rfl rfl Try.call31 rfl lives10_spec ?_
                      intro y102 hy102
                      clear y102 hy102
                      refine HO_pick_t rfl rfl rfl rfl ?_
                      refine HO_assign rfl rfl rfl ?_
                      refine HO_nil ?_
                      refine H_env (ρ' := [(6, _)]) ⟨rfl, trivial⟩ ?_
                      refine H_world (fun _ hA => hA.drop (is := [0, 1, 2, 3, 4, 5, 6, 7]) (Y := [_, _, _, _, _, _, _, _]) (Z := []) rfl) ?_
                      -- end45
                      refine H_ret1 Try.results12 (.tmp rfl) (fun w hA => ⟨(), congrArg Ending.returned ?_, ?_, ?_⟩)
                      · (exact congrArg Value.bool (by first | rfl | assumption | simp_all))
                      · trivial
                      · exact hA.only (is := []) (Z := []) rfl
                    · intro h95
                      (try simp only [decide_eq_true_eq, decide_eq_false_iff_not, Bool.not_eq_true', Bool.not_eq_false', Bool.not_eq_true, Bool.not_eq_false, Bool.true_eq_false, Bool.false_eq_true, not_false_eq_true, not_true_eq_false] at h95)
                      refine HO_loadA (i := 0) (us := []) (cs := [_, _, _, _, _]) (ts := []) rfl rfl rfl Try.isAgg47 Try.sizeOf47 rfl (.loc _ _ _) rfl rfl rfl rfl ?_
                      refine HO_loadA (i := 4) (us := []) (cs := [_, _, _, _, _]) (ts := []) rfl rfl rfl Try.isAgg47 Try.sizeOf47 rfl (.loc _ _ _) rfl rfl rfl rfl ?_
                      refine HO_dup (i := 1) rfl rfl ?_
                      refine HO_dup (i := 3) rfl rfl ?_
                      refine HO_dup (i := 5) rfl rfl ?_
                      refine HO_dup (i := 8) rfl rfl ?_
                      refine HO_dup (i := 10) rfl rfl ?_
                      refine HO_dup (i := 12) rfl rfl ?_
                      refine HO_call (first := []) (capt := []) (is := [0, 0, 0, 0, 0, 0]) (R := [_, _, _, _, _, _, _, _]) rfl rfl rfl rfl rfl Try.call59 rfl (rsamesnap_spec _ _ _ _ _ _ _ _ _ _ _ _ _ _ _ _ _ _ _ _ _ _) ?_
                      intro y98 hy98
                      clear y98 hy98
                      refine HO_pick_f rfl rfl rfl rfl ?_
                      refine HO_pick_t rfl rfl rfl rfl ?_
                      refine HO_move rfl rfl rfl ?_
                      refine HO_split (d := 101) rfl ?_ ?_
                      · intro h101
                        (try simp only [decide_eq_true_eq, decide_eq_false_iff_not, Bool.not_eq_true', Bool.not_eq_false', Bool.not_eq_true, Bool.not_eq_false, Bool.true_eq_false, Bool.false_eq_true, not_false_eq_true, not_true_eq_false] at h101)
                        refine HO_call (first := []) (capt := []) (is := []) (R := [_, _, _, _, _, _, _, _]) rfl rfl rfl rfl rfl Try.call31 rfl lives10_spec ?_
                        intro y102 hy102
                        clear y102 hy102
                        refine HO_pick_t rfl rfl rfl rfl ?_
                        refine HO_assign rfl rfl rfl ?_
                        refine HO_nil ?_
                        refine H_env (ρ' := [(6, _)]) ⟨rfl, trivial⟩ ?_
                        refine H_world (fun _ hA => hA.drop (is := [0, 1, 2, 3, 4, 5, 6, 7]) (Y := [_, _, _, _, _, _, _, _]) (Z := []) rfl) ?_
                        -- end46
                        refine H_ret1 Try.results12 (.tmp rfl) (fun w hA => ⟨(), congrArg Ending.returned ?_, ?_, ?_⟩)
                        · (exact congrArg Value.bool (by first | rfl | assumption | simp_all))
                        · trivial
                        · exact hA.only (is := []) (Z := []) rfl
                      · intro h101
                        (try simp only [decide_eq_true_eq, decide_eq_false_iff_not, Bool.not_eq_true', Bool.not_eq_false', Bool.not_eq_true, Bool.not_eq_false, Bool.true_eq_false, Bool.false_eq_true, not_false_eq_true, not_true_eq_false] at h101)
                        (exfalso; rw [hq3] at h95 h101; by_cases hg : Ent.goodSnap ⟨ix2, te2, ⟨vo2, le2⟩, da2⟩ = true <;> simp [hg] at h95 h101)
                  · intro h92
                    (try simp only [decide_eq_true_eq, decide_eq_false_iff_not, Bool.not_eq_true', Bool.not_eq_false', Bool.not_eq_true, Bool.not_eq_false, Bool.true_eq_false, Bool.false_eq_true, not_false_eq_true, not_true_eq_false] at h92)
                    (exfalso; rw [hq3] at h92; by_cases hg : Ent.goodSnap ⟨ix2, te2, ⟨vo2, le2⟩, da2⟩ = true <;> simp [hg] at h92)
          · intro h67
            (try simp only [decide_eq_true_eq, decide_eq_false_iff_not, Bool.not_eq_true', Bool.not_eq_false', Bool.not_eq_true, Bool.not_eq_false, Bool.true_eq_false, Bool.false_eq_true, not_false_eq_true, not_true_eq_false] at h67)
            refine HO_no rfl rfl rfl ?_
            refine HO_no rfl rfl rfl ?_
            refine HO_no rfl rfl rfl ?_
            refine HO_pick_f rfl rfl rfl rfl ?_
            refine HO_move rfl rfl rfl ?_
            refine HO_no rfl rfl rfl ?_
            refine HO_no rfl rfl rfl ?_
            refine HO_no rfl rfl rfl ?_
            refine HO_pick_f rfl rfl rfl rfl ?_
            refine HO_bin rfl rfl rfl rfl (bin_neb Try.runUnderlying4) ?_
            refine HO_move rfl rfl rfl ?_
            refine HO_split (d := 78) rfl ?_ ?_
            · intro h78
              (try simp only [decide_eq_true_eq, decide_eq_false_iff_not, Bool.not_eq_true', Bool.not_eq_false', Bool.not_eq_true, Bool.not_eq_false, Bool.true_eq_false, Bool.false_eq_true, not_false_eq_true, not_true_eq_false] at h78)
              (exfalso; revert h78; rw [hq2]; by_cases hg : Ent.goodH ⟨ht, hu, hw⟩ = true <;> simp [hg] <;> simp_all [Ent.goodH] <;> omega)
            · intro h78
              (try simp only [decide_eq_true_eq, decide_eq_false_iff_not, Bool.not_eq_true', Bool.not_eq_false', Bool.not_eq_true, Bool.not_eq_false, Bool.true_eq_false, Bool.false_eq_true, not_false_eq_true, not_true_eq_false] at h78)
              refine HO_move rfl rfl rfl ?_
              refine HO_bin rfl rfl rfl rfl bin_eql ?_
              refine HO_move rfl rfl rfl ?_
              refine HO_split (d := 81) rfl ?_ ?_
              · intro h81
                (try simp only [decide_eq_true_eq, decide_eq_false_iff_not, Bool.not_eq_true', Bool.not_eq_false', Bool.not_eq_true, Bool.not_eq_false, Bool.true_eq_false, Bool.false_eq_true, not_false_eq_true, not_true_eq_false] at h81)
                refine HO_loadA (i := 4) (us := []) (cs := [_, _, _]) (ts := []) rfl rfl rfl Try.isAgg49 Try.sizeOf49 rfl (.loc _ _ _) rfl rfl rfl rfl ?_
                refine HO_loadA (i := 6) (us := []) (cs := [_, _, _]) (ts := []) rfl rfl rfl Try.isAgg49 Try.sizeOf49 rfl (.loc _ _ _) rfl rfl rfl rfl ?_
                refine HO_bin rfl rfl rfl rfl eq49_neq ?_
                refine HO_pick_t rfl rfl rfl rfl ?_
                refine HO_pick_f rfl rfl rfl rfl ?_
                refine HO_nil ?_
                refine H_env (ρ' := [(86, _), (12, _), (11, _), (5, _)]) ⟨rfl, rfl, rfl, rfl, trivial⟩ ?_
                refine H_world (fun _ hA => hA.drop (is := [4, 6]) (Y := [_, _]) (Z := [_, _, _, _, _, _, _, _]) rfl) ?_
                refine H_cond rfl ?_ ?_
                · intro h86
                  (try simp only [decide_eq_true_eq, decide_eq_false_iff_not, Bool.not_eq_true', Bool.not_eq_false', Bool.not_eq_true, Bool.not_eq_false, Bool.true_eq_false, Bool.false_eq_true, not_false_eq_true, not_true_eq_false] at h86)
                  (exfalso; rw [hq2] at h81 h86; by_cases hg : Ent.goodH ⟨ht, hu, hw⟩ = true <;> simp [hg] at h81 h86)
                · intro h86
                  (try simp only [decide_eq_true_eq, decide_eq_false_iff_not, Bool.not_eq_true', Bool.not_eq_false', Bool.not_eq_true, Bool.not_eq_false, Bool.true_eq_false, Bool.false_eq_true, not_false_eq_true, not_true_eq_false] at h86)
                  refine H_skip ?_
                  refine H_seq ?_
                  -- R10 law.go:89
                  refine H_region (l := [_, _, _, _, _, _, _, _, _, _, _, _, _, _, _, _, _, _]) rfl ?_
                  refine HO_loadA (i := 4) (us := []) (cs := [_, _, _, _, _]) (ts := []) rfl rfl rfl Try.isAgg47 Try.sizeOf47 rfl (.loc _ _ _) rfl rfl rfl rfl ?_
                  refine HO_dup (i := 5) rfl rfl ?_
                  refine HO_dup (i := 7) rfl rfl ?_
                  refine HO_dup (i := 9) rfl rfl ?_
                  refine HO_call (first := []) (capt := []) (is := [0, 0, 0]) (R := [_, _, _, _, _, _, _, _]) rfl rfl rfl rfl rfl Try.call32 rfl (goodsnap_spec _ _ _ _ _ _ _ _ _ _ _) ?_
                  intro y88 hy88
                  clear y88 hy88
                  refine HO_move rfl rfl rfl ?_
                  refine HO_bin rfl rfl rfl rfl bin_eql ?_
                  refine HO_bin rfl rfl rfl rfl (bin_eqb Try.runUnderlying4) ?_
                  refine HO_move rfl rfl rfl ?_
                  refine HO_split (d := 92) rfl ?_ ?_
                  · intro h92
                    (try simp only [decide_eq_true_eq, decide_eq_false_iff_not, Bool.not_eq_true', Bool.not_eq_false', Bool.not_eq_true, Bool.not_eq_false, Bool.true_eq_false, Bool.false_eq_true, not_false_eq_true, not_true_eq_false] at h92)
                    refine HO_move rfl rfl rfl ?_
                    refine HO_bin rfl rfl rfl rfl bin_neq ?_
                    refine HO_move rfl rfl rfl ?_
                    refine HO_split (d := 95) rfl ?_ ?_
                    · intro h95
                      (try simp only [decide_eq_true_eq, decide_eq_false_iff_not, Bool.not_eq_true', Bool.not_eq_false', Bool.not_eq_true, Bool.not_eq_false, Bool.true_eq_false, Bool.false_eq_true, not_false_eq_true, not_true_eq_false] at h95)
                      refine HO_no rfl rfl rfl ?_
                      refine HO_no rfl rfl rfl ?_
                      refine HO_no rfl rfl rfl ?_
                      refine HO_pick_t rfl rfl rfl rfl ?_
                      refine HO_pick_t rfl rfl rfl rfl ?_
                      refine HO_move rfl rfl rfl ?_
                      refine HO_call (first := []) (capt := []) (is := []) (R := [_, _, _, _, _, _, _, _]) rfl rfl rfl rfl rfl Try.call31 rfl lives10_spec ?_
                      intro y102 hy102
                      clear y102 hy102
                      refine HO_pick_t rfl rfl rfl rfl ?_
                      refine HO_assign rfl rfl rfl ?_
                      refine HO_nil ?_
                      refine H_env (ρ' := [(6, _)]) ⟨rfl, trivial⟩ ?_
                      refine H_world (fun _ hA => hA.drop (is := [0, 1, 2, 3, 4, 5, 6, 7]) (Y := [_, _, _, _, _, _, _, _]) (Z := []) rfl) ?_
                      -- end47
                      refine H_ret1 Try.results12 (.tmp rfl) (fun w hA => ⟨(), congrArg Ending.returned ?_, ?_, ?_⟩)
                      · (exact congrArg Value.bool (by first | rfl | assumption | simp_all))
                      · trivial
                      · exact hA.only (is := []) (Z := []) rfl
                    · intro h95
                      (try simp only [decide_eq_true_eq, decide_eq_false_iff_not, Bool.not_eq_true', Bool.not_eq_false', Bool.not_eq_true, Bool.not_eq_false, Bool.true_eq_false, Bool.false_eq_true, not_false_eq_true, not_true_eq_false] at h95)
                      refine HO_loadA (i := 0) (us := []) (cs := [_, _, _, _, _]) (ts := []) rfl rfl rfl Try.isAgg47 Try.sizeOf47 rfl (.loc _ _ _) rfl rfl rfl rfl ?_
                      refine HO_loadA (i := 4) (us := []) (cs := [_, _, _, _, _]) (ts := []) rfl rfl rfl Try.isAgg47 Try.sizeOf47 rfl (.loc _ _ _) rfl rfl rfl rfl ?_
                      refine HO_dup (i := 1) rfl rfl ?_
                      refine HO_dup (i := 3) rfl rfl ?_
                      refine HO_dup (i := 5) rfl rfl ?_
                      refine HO_dup (i := 8) rfl rfl ?_
                      refine HO_dup (i := 10) rfl rfl ?_
                      refine HO_dup (i := 12) rfl rfl ?_
                      refine HO_call (first := []) (capt := []) (is := [0, 0, 0, 0, 0, 0]) (R := [_, _, _, _, _, _, _, _]) rfl rfl rfl rfl rfl Try.call59 rfl (rsamesnap_spec _ _ _ _ _ _ _ _ _ _ _ _ _ _ _ _ _ _ _ _ _ _) ?_
                      intro y98 hy98
                      clear y98 hy98
                      refine HO_pick_f rfl rfl rfl rfl ?_
                      refine HO_pick_t rfl rfl rfl rfl ?_
                      refine HO_move rfl rfl rfl ?_
                      refine HO_split (d := 101) rfl ?_ ?_
                      · intro h101
                        (try simp only [decide_eq_true_eq, decide_eq_false_iff_not, Bool.not_eq_true', Bool.not_eq_false', Bool.not_eq_true, Bool.not_eq_false, Bool.true_eq_false, Bool.false_eq_true, not_false_eq_true, not_true_eq_false] at h101)
                        refine HO_call (first := []) (capt := []) (is := []) (R := [_, _, _, _, _, _, _, _]) rfl rfl rfl rfl rfl Try.call31 rfl lives10_spec ?_
                        intro y102 hy102
                        clear y102 hy102
                        refine HO_pick_t rfl rfl rfl rfl ?_
                        refine HO_assign rfl rfl rfl ?_
                        refine HO_nil ?_
                        refine H_env (ρ' := [(6, _)]) ⟨rfl, trivial⟩ ?_
                        refine H_world (fun _ hA => hA.drop (is := [0, 1, 2, 3, 4, 5, 6, 7]) (Y := [_, _, _, _, _, _, _, _]) (Z := []) rfl) ?_
                        -- end48
                        refine H_ret1 Try.results12 (.tmp rfl) (fun w hA => ⟨(), congrArg Ending.returned ?_, ?_, ?_⟩)
                        · (exact congrArg Value.bool (by first | rfl | assumption | simp_all))
                        · trivial
                        · exact hA.only (is := []) (Z := []) rfl
                      · intro h101
                        (try simp only [decide_eq_true_eq, decide_eq_false_iff_not, Bool.not_eq_true', Bool.not_eq_false', Bool.not_eq_true, Bool.not_eq_false, Bool.true_eq_false, Bool.false_eq_true, not_false_eq_true, not_true_eq_false] at h101)
                        (exfalso; rw [hq3] at h95 h101; by_cases hg : Ent.goodSnap ⟨ix2, te2, ⟨vo2, le2⟩, da2⟩ = true <;> simp [hg] at h95 h101)
                  · intro h92
                    (try simp only [decide_eq_true_eq, decide_eq_false_iff_not, Bool.not_eq_true', Bool.not_eq_false', Bool.not_eq_true, Bool.not_eq_false, Bool.true_eq_false, Bool.false_eq_true, not_false_eq_true, not_true_eq_false] at h92)
                    (exfalso; rw [hq3] at h92; by_cases hg : Ent.goodSnap ⟨ix2, te2, ⟨vo2, le2⟩, da2⟩ = true <;> simp [hg] at h92)
              · intro h81
                (try simp only [decide_eq_true_eq, decide_eq_false_iff_not, Bool.not_eq_true', Bool.not_eq_false', Bool.not_eq_true, Bool.not_eq_false, Bool.true_eq_false, Bool.false_eq_true, not_false_eq_true, not_true_eq_false] at h81)
                refine HO_no rfl rfl rfl ?_
                refine HO_no rfl rfl rfl ?_
                refine HO_no rfl rfl rfl ?_
                refine HO_pick_f rfl rfl rfl rfl ?_
                refine HO_pick_f rfl rfl rfl rfl ?_
                refine HO_nil ?_
                refine H_env (ρ' := [(86, _), (12, _), (11, _), (5, _)]) ⟨rfl, rfl, rfl, rfl, trivial⟩ ?_
                refine H_world (fun _ hA => hA.drop (is := [4, 6]) (Y := [_, _]) (Z := [_, _, _, _, _, _, _, _]) rfl) ?_
                refine H_cond rfl (fun h => nomatch h) (fun _ => ?_)
                refine H_skip ?_
                refine H_seq ?_
                -- R10 law.go:89
                refine H_region (l := [_, _, _, _, _, _, _, _, _, _, _, _, _, _, _, _, _, _]) rfl ?_
                refine HO_loadA (i := 4) (us := []) (cs := [_, _, _, _, _]) (ts := []) rfl rfl rfl Try.isAgg47 Try.sizeOf47 rfl (.loc _ _ _) rfl rfl rfl rfl ?_
                refine HO_dup (i := 5) rfl rfl ?_
                refine HO_dup (i := 7) rfl rfl ?_
                refine HO_dup (i := 9) rfl rfl ?_
                refine HO_call (first := []) (capt := []) (is := [0, 0, 0]) (R := [_, _, _, _, _, _, _, _]) rfl rfl rfl rfl rfl Try.call32 rfl (goodsnap_spec _ _ _ _ _ _ _ _ _ _ _) ?_
                intro y88 hy88
                clear y88 hy88
                refine HO_move rfl rfl rfl ?_
                refine HO_bin rfl rfl rfl rfl bin_eql ?_
                refine HO_bin rfl rfl rfl rfl (bin_eqb Try.runUnderlying4) ?_
                refine HO_move rfl rfl rfl ?_
                refine HO_split (d := 92) rfl ?_ ?_
                · intro h92
                  (try simp only [decide_eq_true_eq, decide_eq_false_iff_not, Bool.not_eq_true', Bool.not_eq_false', Bool.not_eq_true, Bool.not_eq_false, Bool.true_eq_false, Bool.false_eq_true, not_false_eq_true, not_true_eq_false] at h92)
                  refine HO_move rfl rfl rfl ?_
                  refine HO_bin rfl rfl rfl rfl bin_neq ?_
                  refine HO_move rfl rfl rfl ?_
                  refine HO_split (d := 95) rfl ?_ ?_
                  · intro h95
                    (try simp only [decide_eq_true_eq, decide_eq_false_iff_not, Bool.not_eq_true', Bool.not_eq_false', Bool.not_eq_true, Bool.not_eq_false, Bool.true_eq_false, Bool.false_eq_true, not_false_eq_true, not_true_eq_false] at h95)
                    refine HO_no rfl rfl rfl ?_
                    refine HO_no rfl rfl rfl ?_
                    refine HO_no rfl rfl rfl ?_
                    refine HO_pick_t rfl rfl rfl rfl ?_
                    refine HO_pick_t rfl rfl rfl rfl ?_
                    refine HO_move rfl rfl rfl ?_
                    refine HO_call (first := []) (capt := []) (is := []) (R := [_, _, _, _, _, _, _, _]) rfl rfl rfl rfl rfl Try.call31 rfl lives10_spec ?_
                    intro y102 hy102
                    clear y102 hy102
                    refine HO_pick_t rfl rfl rfl rfl ?_
                    refine HO_assign rfl rfl rfl ?_
                    refine HO_nil ?_
                    refine H_env (ρ' := [(6, _)]) ⟨rfl, trivial⟩ ?_
                    refine H_world (fun _ hA => hA.drop (is := [0, 1, 2, 3, 4, 5, 6, 7]) (Y := [_, _, _, _, _, _, _, _]) (Z := []) rfl) ?_
                    -- end49
                    refine H_ret1 Try.results12 (.tmp rfl) (fun w hA => ⟨(), congrArg Ending.returned ?_, ?_, ?_⟩)
                    · (exact congrArg Value.bool (by first | rfl | assumption | simp_all))
                    · trivial
                    · exact hA.only (is := []) (Z := []) rfl
                  · intro h95
                    (try simp only [decide_eq_true_eq, decide_eq_false_iff_not, Bool.not_eq_true', Bool.not_eq_false', Bool.not_eq_true, Bool.not_eq_false, Bool.true_eq_false, Bool.false_eq_true, not_false_eq_true, not_true_eq_false] at h95)
                    refine HO_loadA (i := 0) (us := []) (cs := [_, _, _, _, _]) (ts := []) rfl rfl rfl Try.isAgg47 Try.sizeOf47 rfl (.loc _ _ _) rfl rfl rfl rfl ?_
                    refine HO_loadA (i := 4) (us := []) (cs := [_, _, _, _, _]) (ts := []) rfl rfl rfl Try.isAgg47 Try.sizeOf47 rfl (.loc _ _ _) rfl rfl rfl rfl ?_
                    refine HO_dup (i := 1) rfl rfl ?_
                    refine HO_dup (i := 3) rfl rfl ?_
                    refine HO_dup (i := 5) rfl rfl ?_
                    refine HO_dup (i := 8) rfl rfl ?_
                    refine HO_dup (i := 10) rfl rfl ?_
                    refine HO_dup (i := 12) rfl rfl ?_
                    refine HO_call (first := []) (capt := []) (is := [0, 0, 0, 0, 0, 0]) (R := [_, _, _, _, _, _, _, _]) rfl rfl rfl rfl rfl Try.call59 rfl (rsamesnap_spec _ _ _ _ _ _ _ _ _ _ _ _ _ _ _ _ _ _ _ _ _ _) ?_
                    intro y98 hy98
                    clear y98 hy98
                    refine HO_pick_f rfl rfl rfl rfl ?_
                    refine HO_pick_t rfl rfl rfl rfl ?_
                    refine HO_move rfl rfl rfl ?_
                    refine HO_split (d := 101) rfl ?_ ?_
                    · intro h101
                      (try simp only [decide_eq_true_eq, decide_eq_false_iff_not, Bool.not_eq_true', Bool.not_eq_false', Bool.not_eq_true, Bool.not_eq_false, Bool.true_eq_false, Bool.false_eq_true, not_false_eq_true, not_true_eq_false] at h101)
                      refine HO_call (first := []) (capt := []) (is := []) (R := [_, _, _, _, _, _, _, _]) rfl rfl rfl rfl rfl Try.call31 rfl lives10_spec ?_
                      intro y102 hy102
                      clear y102 hy102
                      refine HO_pick_t rfl rfl rfl rfl ?_
                      refine HO_assign rfl rfl rfl ?_
                      refine HO_nil ?_
                      refine H_env (ρ' := [(6, _)]) ⟨rfl, trivial⟩ ?_
                      refine H_world (fun _ hA => hA.drop (is := [0, 1, 2, 3, 4, 5, 6, 7]) (Y := [_, _, _, _, _, _, _, _]) (Z := []) rfl) ?_
                      -- end50
                      refine H_ret1 Try.results12 (.tmp rfl) (fun w hA => ⟨(), congrArg Ending.returned ?_, ?_, ?_⟩)
                      · (exact congrArg Value.bool (by first | rfl | assumption | simp_all))
                      · trivial
                      · exact hA.only (is := []) (Z := []) rfl
                    · intro h101
                      (try simp only [decide_eq_true_eq, decide_eq_false_iff_not, Bool.not_eq_true', Bool.not_eq_false', Bool.not_eq_true, Bool.not_eq_false, Bool.true_eq_false, Bool.false_eq_true, not_false_eq_true, not_true_eq_false] at h101)
                      (exfalso; rw [hq3] at h95 h101; by_cases hg : Ent.goodSnap ⟨ix2, te2, ⟨vo2, le2⟩, da2⟩ = true <;> simp [hg] at h95 h101)
                · intro h92
                  (try simp only [decide_eq_true_eq, decide_eq_false_iff_not, Bool.not_eq_true', Bool.not_eq_false', Bool.not_eq_true, Bool.not_eq_false, Bool.true_eq_false, Bool.false_eq_true, not_false_eq_true, not_true_eq_false] at h92)
                  (exfalso; rw [hq3] at h92; by_cases hg : Ent.goodSnap ⟨ix2, te2, ⟨vo2, le2⟩, da2⟩ = true <;> simp [hg] at h92)
end Go.Wk
