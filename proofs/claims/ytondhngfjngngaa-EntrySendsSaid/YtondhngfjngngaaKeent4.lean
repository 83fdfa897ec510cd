/- Contracts of the program's functions, each proved by walking its code. -/
import Derived.Test.YtondhngfjngngaaKelaw10b
import Derived.Test.YtondhngfjngngaaEnt3
import Derived.Test.YtondhngfjngngaaKeent3
import Derived.Test.YtondhngfjngngaaKelaw10
set_option maxRecDepth 100000
set_option linter.unusedVariables false
set_option linter.unusedSimpArgs false
namespace Go.Wk.Fent4
open Go Go.RowKit Go.Proofs Go.Wk
theorem elt3 : Elt Try.prog 3 (.int .i64 (0)) 1 8 := Elt.of (by kernel_rfl) (by rfl) (by decide) (by decide)
end Go.Wk.Fent4
namespace Go.Wk
open Go Go.RowKit Go.Proofs Fent4 
theorem goodmsg1_spec (n : Int)  : Spec Try.prog 111 #[.int .i64 (n)] [] (β := Unit) (fun y => .bool (decide (1 ≤ n ∧ n ≤ 9))) (fun y => True) (fun y => []) := by
  refine Spec.enter (vs := [_]) Try.func111 rfl Try.ntmps111 rfl (Nat.le_of_ble_eq_true rfl) (fun w0 ok0 => ?_)
  generalize hM0 : blks _ = M0
  have hMn : ∀ {R : List Atom} (b : Nat), M0 b → blks R b := fun b hb => absurd (hM0 ▸ hb) (blks_none (by simp [Atom.dat, Atom.elem]) b)
  refine H_seq ?_
  -- R0 entry.go:193
  refine H_region (l := [_]) rfl ?_
  refine HO_assign rfl rfl rfl ?_
  refine HO_nil ?_
  refine H_env (ρ' := [(0, _)]) ⟨rfl, trivial⟩ ?_
  refine H_seq ?_
  -- R1 entry.go:193
  refine H_region (l := [_, _, _, _, _, _, _]) rfl ?_
  refine HO_move rfl rfl rfl ?_
  refine HO_bin rfl rfl rfl rfl bin_geq ?_
  refine HO_move rfl rfl rfl ?_
  refine HO_split (d := 5) rfl ?_ ?_
  · intro h5
    (try simp only [decide_eq_true_eq, decide_eq_false_iff_not, Bool.not_eq_true', Bool.not_eq_false', Bool.not_eq_true, Bool.not_eq_false, Bool.true_eq_false, Bool.false_eq_true, not_false_eq_true, not_true_eq_false] at h5)
    refine HO_move rfl rfl rfl ?_
    refine HO_bin rfl rfl rfl rfl bin_leq ?_
    refine HO_pick_t rfl rfl rfl rfl ?_
    refine HO_assign rfl rfl rfl ?_
    refine HO_nil ?_
    refine H_env (ρ' := [(2, _)]) ⟨rfl, trivial⟩ ?_
    -- end1
    refine H_ret1 Try.results111 (.tmp rfl) (fun w hA => ⟨(), congrArg Ending.returned ?_, ?_, ?_⟩)
    · (exact congrArg Value.bool (by simp [*]))
    · trivial
    · exact hA.only (is := []) (Z := []) rfl
  · intro h5
    (try simp only [decide_eq_true_eq, decide_eq_false_iff_not, Bool.not_eq_true', Bool.not_eq_false', Bool.not_eq_true, Bool.not_eq_false, Bool.true_eq_false, Bool.false_eq_true, not_false_eq_true, not_true_eq_false] at h5)
    refine HO_no rfl rfl rfl ?_
    refine HO_no rfl rfl rfl ?_
    refine HO_pick_f rfl rfl rfl rfl ?_
    refine HO_assign rfl rfl rfl ?_
    refine HO_nil ?_
    refine H_env (ρ' := [(2, _)]) ⟨rfl, trivial⟩ ?_
    -- end2
    refine H_ret1 Try.results111 (.tmp rfl) (fun w hA => ⟨(), congrArg Ending.returned ?_, ?_, ?_⟩)
    · (exact congrArg Value.bool (by simp [*]))
    · trivial
    · exact hA.only (is := []) (Z := []) rfl
theorem goodmsg_spec (mk mf mt me mi ml mc mr : Int) (rj : Bool) (hi : Int) (es : List Ent) (a9 : Option Addr) (c9 : Nat) (ix te : Int) (vo le : List Int) (a1 : Option Addr) (c1 : Nat) (a2 : Option Addr) (c2 : Nat) (da : List UInt8) (a3 : Option Addr) (c3 : Nat) (nd : da.length ≤ BIG) (n1 : vo.length ≤ BIG) (n2 : le.length ≤ BIG) (ri : mi ≤ 9223372036854775807) : Spec Try.prog 60 #[.agg #[.int .i64 (mk), .int .i64 (mf), .int .i64 (mt), .int .i64 (me), .int .i64 (mi), .int .i64 (ml), .int .i64 (mc), .int .i64 (mr), .bool (rj), .int .i64 (hi), .slice a9 (es.length) c9, .int .i64 (ix), .int .i64 (te), .slice a1 (vo.length) c1, .slice a2 (le.length) c2, .slice a3 (da.length) c3]] [.dat kEnt.sl (es) [.slice a9 (es.length) c9], .dat kInt.sl (vo) [.slice a1 (vo.length) c1], .dat kInt.sl (le) [.slice a2 (le.length) c2], .dat kByte.sl (da) [.slice a3 (da.length) c3]] (β := Unit) (fun y => .bool (Ent.goodMsg ⟨mk, mf, mt, me, mi, ml, mc, mr, rj, hi, es, ⟨ix, te, ⟨vo, le⟩, da⟩⟩)) (fun y => True) (fun y => []) := by
  (try simp only [BIG] at nd n1 n2)
  refine Spec.enter (vs := [_]) Try.func60 rfl Try.ntmps60 rfl (Nat.le_of_ble_eq_true rfl) (fun w0 ok0 => ?_)
  generalize hM0 : blks _ = M0
  have hMn : ∀ {R : List Atom} (b : Nat), M0 b → blks R b := fun b hb => absurd (hM0 ▸ hb) (blks_none (by simp [Atom.dat, Atom.elem]) b)
  refine H_len_le (i := 0) rfl ?_
  intro hlen0
  refine H_len_le (i := 1) rfl ?_
  intro hlen1
  refine H_len_le (i := 2) rfl ?_
  intro hlen2
  refine H_seq ?_
  -- R0 entry.go:192
  refine H_region (l := [_, _]) rfl ?_
  refine HO_box (cs := [_, _, _, _, _, _, _, _, _, _, _, _, _, _, _, _]) rfl rfl rfl rfl ?_
  intro g1
  refine HO_assign rfl rfl rfl ?_
  refine HO_nil ?_
  refine H_env (ρ' := [(1, _)]) ⟨rfl, trivial⟩ ?_
  refine H_seq ?_
  -- R1 entry.go:193
  refine H_region (l := [_]) rfl ?_
  refine HO_assign rfl rfl rfl ?_
  refine HO_nil ?_
  refine H_seq ?_
  refine H_block ?_
  refine H_seq ?_
  refine H_seq ?_
  -- R2 entry.go:195
  refine H_region (l := [_, _, _, _]) rfl ?_
  refine HO_fieldAddr (r := 0) rfl rfl rfl Try.underlying53 rfl Try.sizeOf3 rfl ?_
  refine HO_load1 (i := 0) (j := 0) rfl rfl rfl Try.isAgg3 rfl (.loc _ _ _) rfl rfl ?_
  refine HO_bin rfl rfl rfl rfl bin_lss ?_
  refine HO_assign rfl rfl rfl ?_
  refine HO_nil ?_
  refine H_env (ρ' := [(7, _), (3, _), (1, _)]) ⟨rfl, rfl, rfl, trivial⟩ ?_
  refine H_split (d := 7) rfl ?_ ?_
  · intro h7
    (try simp only [decide_eq_true_eq, decide_eq_false_iff_not, Bool.not_eq_true', Bool.not_eq_false', Bool.not_eq_true, Bool.not_eq_false, Bool.true_eq_false, Bool.false_eq_true, not_false_eq_true, not_true_eq_false] at h7)
    refine H_cond rfl (fun _ => ?_) (fun h => nomatch h)
    refine H_skip ?_
    refine H_cond rfl (fun _ => ?_) (fun h => nomatch h)
    refine H_seq ?_
    -- R7 entry.go:196
    refine H_region (l := [_]) rfl ?_
    refine HO_assign rfl rfl rfl ?_
    refine HO_nil ?_
    refine H_env (ρ' := [(2, _)]) ⟨rfl, trivial⟩ ?_
    refine H_world (fun _ hA => hA.drop (is := [0, 1, 2, 3, 4]) (Y := [_, _, _, _, _]) (Z := []) rfl) ?_
    -- end1
    refine H_ret1 Try.results60 (.tmp rfl) (fun w hA => ⟨(), congrArg Ending.returned ?_, ?_, ?_⟩)
    · (first | exact congrArg Value.bool (Ent.goodMsg_no (m := ⟨mk, mf, mt, me, mi, ml, mc, mr, rj, hi, es, ⟨ix, te, ⟨vo, le⟩, da⟩⟩) (by dsimp only; omega)) | (exact congrArg Value.bool (hD.trans (by rw [Ent.ok_no hz60 hI.2 (.inl h65)]; rfl)).symm) | (exact congrArg Value.bool (hD.trans (by rw [Ent.ok_no hz60 hI.2 (.inr (.inl h75))]; rfl)).symm) | (exact congrArg Value.bool (hD.trans (by rw [Ent.ok_no hz60 hI.2 (.inr (.inr (by omega)))]; rfl)).symm) | (exact congrArg Value.bool (hD.trans (by rw [hok, Bool.true_and, if_pos h85])).symm) | (exact congrArg Value.bool (hD.trans (by rw [hok, Bool.true_and, if_neg h85]; first | (simp [Ent.emptyS, *]; done) | (simp_all [Ent.emptyS]; done))).symm))
    · trivial
    · exact hA.only (is := []) (Z := []) rfl
  · intro h7
    (try simp only [decide_eq_true_eq, decide_eq_false_iff_not, Bool.not_eq_true', Bool.not_eq_false', Bool.not_eq_true, Bool.not_eq_false, Bool.true_eq_false, Bool.false_eq_true, not_false_eq_true, not_true_eq_false] at h7)
    refine H_cond rfl (fun h => nomatch h) (fun _ => ?_)
    refine H_seq ?_
    -- R3 entry.go:195
    refine H_region (l := [_, _, _, _]) rfl ?_
    refine HO_fieldAddr (r := 0) rfl rfl rfl Try.underlying53 rfl Try.sizeOf3 rfl ?_
    refine HO_load1 (i := 0) (j := 0) rfl rfl rfl Try.isAgg3 rfl (.loc _ _ _) rfl rfl ?_
    refine HO_bin rfl rfl rfl rfl bin_gtr ?_
    refine HO_assign rfl rfl rfl ?_
    refine HO_nil ?_
    refine H_env (ρ' := [(7, _), (3, _), (1, _)]) ⟨rfl, rfl, rfl, trivial⟩ ?_
    refine H_split (d := 7) rfl ?_ ?_
    · intro h7_2
      (try simp only [decide_eq_true_eq, decide_eq_false_iff_not, Bool.not_eq_true', Bool.not_eq_false', Bool.not_eq_true, Bool.not_eq_false, Bool.true_eq_false, Bool.false_eq_true, not_false_eq_true, not_true_eq_false] at h7_2)
      refine H_cond rfl (fun _ => ?_) (fun h => nomatch h)
      refine H_skip ?_
      refine H_cond rfl (fun _ => ?_) (fun h => nomatch h)
      refine H_seq ?_
      -- R7 entry.go:196
      refine H_region (l := [_]) rfl ?_
      refine HO_assign rfl rfl rfl ?_
      refine HO_nil ?_
      refine H_env (ρ' := [(2, _)]) ⟨rfl, trivial⟩ ?_
      refine H_world (fun _ hA => hA.drop (is := [0, 1, 2, 3, 4]) (Y := [_, _, _, _, _]) (Z := []) rfl) ?_
      -- end2
      refine H_ret1 Try.results60 (.tmp rfl) (fun w hA => ⟨(), congrArg Ending.returned ?_, ?_, ?_⟩)
      · (first | exact congrArg Value.bool (Ent.goodMsg_no (m := ⟨mk, mf, mt, me, mi, ml, mc, mr, rj, hi, es, ⟨ix, te, ⟨vo, le⟩, da⟩⟩) (by dsimp only; omega)) | (exact congrArg Value.bool (hD.trans (by rw [Ent.ok_no hz60 hI.2 (.inl h65)]; rfl)).symm) | (exact congrArg Value.bool (hD.trans (by rw [Ent.ok_no hz60 hI.2 (.inr (.inl h75))]; rfl)).symm) | (exact congrArg Value.bool (hD.trans (by rw [Ent.ok_no hz60 hI.2 (.inr (.inr (by omega)))]; rfl)).symm) | (exact congrArg Value.bool (hD.trans (by rw [hok, Bool.true_and, if_pos h85])).symm) | (exact congrArg Value.bool (hD.trans (by rw [hok, Bool.true_and, if_neg h85]; first | (simp [Ent.emptyS, *]; done) | (simp_all [Ent.emptyS]; done))).symm))
      · trivial
      · exact hA.only (is := []) (Z := []) rfl
    · intro h7_2
      (try simp only [decide_eq_true_eq, decide_eq_false_iff_not, Bool.not_eq_true', Bool.not_eq_false', Bool.not_eq_true, Bool.not_eq_false, Bool.true_eq_false, Bool.false_eq_true, not_false_eq_true, not_true_eq_false] at h7_2)
      refine H_cond rfl (fun h => nomatch h) (fun _ => ?_)
      refine H_seq ?_
      -- R4 entry.go:195
      refine H_region (l := [_, _, _, _, _, _]) rfl ?_
      refine HO_move rfl rfl rfl ?_
      refine HO_fieldAddr (r := 1) rfl rfl rfl Try.underlying53 rfl Try.sizeOf3 rfl ?_
      refine HO_load1 (i := 0) (j := 1) rfl rfl rfl Try.isAgg3 rfl (.loc _ _ _) rfl rfl ?_
      refine HO_call (first := []) (capt := []) (is := []) (R := [_, _, _, _, _]) rfl rfl rfl rfl rfl Try.call111 rfl (goodmsg1_spec _) ?_
      intro y17 hy17
      clear y17 hy17
      refine HO_not rfl rfl rfl ?_
      refine HO_assign rfl rfl rfl ?_
      refine HO_nil ?_
      refine H_env (ρ' := [(7, _), (3, _), (1, _)]) ⟨rfl, rfl, rfl, trivial⟩ ?_
      refine H_split (d := 7) rfl ?_ ?_
      · intro h7_3
        (try simp only [decide_eq_true_eq, decide_eq_false_iff_not, Bool.not_eq_true', Bool.not_eq_false', Bool.not_eq_true, Bool.not_eq_false, Bool.true_eq_false, Bool.false_eq_true, not_false_eq_true, not_true_eq_false] at h7_3)
        refine H_cond rfl (fun _ => ?_) (fun h => nomatch h)
        refine H_skip ?_
        refine H_cond rfl (fun _ => ?_) (fun h => nomatch h)
        refine H_seq ?_
        -- R7 entry.go:196
        refine H_region (l := [_]) rfl ?_
        refine HO_assign rfl rfl rfl ?_
        refine HO_nil ?_
        refine H_env (ρ' := [(2, _)]) ⟨rfl, trivial⟩ ?_
        refine H_world (fun _ hA => hA.drop (is := [0, 1, 2, 3, 4]) (Y := [_, _, _, _, _]) (Z := []) rfl) ?_
        -- end3
        refine H_ret1 Try.results60 (.tmp rfl) (fun w hA => ⟨(), congrArg Ending.returned ?_, ?_, ?_⟩)
        · (first | exact congrArg Value.bool (Ent.goodMsg_no (m := ⟨mk, mf, mt, me, mi, ml, mc, mr, rj, hi, es, ⟨ix, te, ⟨vo, le⟩, da⟩⟩) (by dsimp only; omega)) | (exact congrArg Value.bool (hD.trans (by rw [Ent.ok_no hz60 hI.2 (.inl h65)]; rfl)).symm) | (exact congrArg Value.bool (hD.trans (by rw [Ent.ok_no hz60 hI.2 (.inr (.inl h75))]; rfl)).symm) | (exact congrArg Value.bool (hD.trans (by rw [Ent.ok_no hz60 hI.2 (.inr (.inr (by omega)))]; rfl)).symm) | (exact congrArg Value.bool (hD.trans (by rw [hok, Bool.true_and, if_pos h85])).symm) | (exact congrArg Value.bool (hD.trans (by rw [hok, Bool.true_and, if_neg h85]; first | (simp [Ent.emptyS, *]; done) | (simp_all [Ent.emptyS]; done))).symm))
        · trivial
        · exact hA.only (is := []) (Z := []) rfl
      · intro h7_3
        (try simp only [decide_eq_true_eq, decide_eq_false_iff_not, Bool.not_eq_true', Bool.not_eq_false', Bool.not_eq_true, Bool.not_eq_false, Bool.true_eq_false, Bool.false_eq_true, not_false_eq_true, not_true_eq_false] at h7_3)
        refine H_cond rfl (fun h => nomatch h) (fun _ => ?_)
        refine H_seq ?_
        -- R5 entry.go:195
        refine H_region (l := [_, _, _, _, _, _]) rfl ?_
        refine HO_move rfl rfl rfl ?_
        refine HO_fieldAddr (r := 2) rfl rfl rfl Try.underlying53 rfl Try.sizeOf3 rfl ?_
        refine HO_load1 (i := 0) (j := 2) rfl rfl rfl Try.isAgg3 rfl (.loc _ _ _) rfl rfl ?_
        refine HO_call (first := []) (capt := []) (is := []) (R := [_, _, _, _, _]) rfl rfl rfl rfl rfl Try.call111 rfl (goodmsg1_spec _) ?_
        intro y22 hy22
        clear y22 hy22
        refine HO_not rfl rfl rfl ?_
        refine HO_assign rfl rfl rfl ?_
        refine HO_nil ?_
        refine H_env (ρ' := [(7, _), (1, _)]) ⟨rfl, rfl, trivial⟩ ?_
        refine H_split (d := 7) rfl ?_ ?_
        · intro h7_4
          (try simp only [decide_eq_true_eq, decide_eq_false_iff_not, Bool.not_eq_true', Bool.not_eq_false', Bool.not_eq_true, Bool.not_eq_false, Bool.true_eq_false, Bool.false_eq_true, not_false_eq_true, not_true_eq_false] at h7_4)
          refine H_cond rfl (fun _ => ?_) (fun h => nomatch h)
          refine H_skip ?_
          refine H_cond rfl (fun _ => ?_) (fun h => nomatch h)
          refine H_seq ?_
          -- R7 entry.go:196
          refine H_region (l := [_]) rfl ?_
          refine HO_assign rfl rfl rfl ?_
          refine HO_nil ?_
          refine H_env (ρ' := [(2, _)]) ⟨rfl, trivial⟩ ?_
          refine H_world (fun _ hA => hA.drop (is := [0, 1, 2, 3, 4]) (Y := [_, _, _, _, _]) (Z := []) rfl) ?_
          -- end4
          refine H_ret1 Try.results60 (.tmp rfl) (fun w hA => ⟨(), congrArg Ending.returned ?_, ?_, ?_⟩)
          · (first | exact congrArg Value.bool (Ent.goodMsg_no (m := ⟨mk, mf, mt, me, mi, ml, mc, mr, rj, hi, es, ⟨ix, te, ⟨vo, le⟩, da⟩⟩) (by dsimp only; omega)) | (exact congrArg Value.bool (hD.trans (by rw [Ent.ok_no hz60 hI.2 (.inl h65)]; rfl)).symm) | (exact congrArg Value.bool (hD.trans (by rw [Ent.ok_no hz60 hI.2 (.inr (.inl h75))]; rfl)).symm) | (exact congrArg Value.bool (hD.trans (by rw [Ent.ok_no hz60 hI.2 (.inr (.inr (by omega)))]; rfl)).symm) | (exact congrArg Value.bool (hD.trans (by rw [hok, Bool.true_and, if_pos h85])).symm) | (exact congrArg Value.bool (hD.trans (by rw [hok, Bool.true_and, if_neg h85]; first | (simp [Ent.emptyS, *]; done) | (simp_all [Ent.emptyS]; done))).symm))
          · trivial
          · exact hA.only (is := []) (Z := []) rfl
        · intro h7_4
          (try simp only [decide_eq_true_eq, decide_eq_false_iff_not, Bool.not_eq_true', Bool.not_eq_false', Bool.not_eq_true, Bool.not_eq_false, Bool.true_eq_false, Bool.false_eq_true, not_false_eq_true, not_true_eq_false] at h7_4)
          refine H_cond rfl (fun h => nomatch h) (fun _ => ?_)
          -- R6 entry.go:195
          refine H_region (l := [_, _, _, _]) rfl ?_
          refine HO_fieldAddr (r := 3) rfl rfl rfl Try.underlying53 rfl Try.sizeOf3 rfl ?_
          refine HO_load1 (i := 0) (j := 3) rfl rfl rfl Try.isAgg3 rfl (.loc _ _ _) rfl rfl ?_
          refine HO_bin rfl rfl rfl rfl bin_lss ?_
          refine HO_assign rfl rfl rfl ?_
          refine HO_nil ?_
          refine H_env (ρ' := [(7, _), (1, _)]) ⟨rfl, rfl, trivial⟩ ?_
          refine H_split (d := 7) rfl ?_ ?_
          · intro h7_5
            (try simp only [decide_eq_true_eq, decide_eq_false_iff_not, Bool.not_eq_true', Bool.not_eq_false', Bool.not_eq_true, Bool.not_eq_false, Bool.true_eq_false, Bool.false_eq_true, not_false_eq_true, not_true_eq_false] at h7_5)
            refine H_cond rfl (fun _ => ?_) (fun h => nomatch h)
            refine H_seq ?_
            -- R7 entry.go:196
            refine H_region (l := [_]) rfl ?_
            refine HO_assign rfl rfl rfl ?_
            refine HO_nil ?_
            refine H_env (ρ' := [(2, _)]) ⟨rfl, trivial⟩ ?_
            refine H_world (fun _ hA => hA.drop (is := [0, 1, 2, 3, 4]) (Y := [_, _, _, _, _]) (Z := []) rfl) ?_
            -- end5
            refine H_ret1 Try.results60 (.tmp rfl) (fun w hA => ⟨(), congrArg Ending.returned ?_, ?_, ?_⟩)
            · (first | exact congrArg Value.bool (Ent.goodMsg_no (m := ⟨mk, mf, mt, me, mi, ml, mc, mr, rj, hi, es, ⟨ix, te, ⟨vo, le⟩, da⟩⟩) (by dsimp only; omega)) | (exact congrArg Value.bool (hD.trans (by rw [Ent.ok_no hz60 hI.2 (.inl h65)]; rfl)).symm) | (exact congrArg Value.bool (hD.trans (by rw [Ent.ok_no hz60 hI.2 (.inr (.inl h75))]; rfl)).symm) | (exact congrArg Value.bool (hD.trans (by rw [Ent.ok_no hz60 hI.2 (.inr (.inr (by omega)))]; rfl)).symm) | (exact congrArg Value.bool (hD.trans (by rw [hok, Bool.true_and, if_pos h85])).symm) | (exact congrArg Value.bool (hD.trans (by rw [hok, Bool.true_and, if_neg h85]; first | (simp [Ent.emptyS, *]; done) | (simp_all [Ent.emptyS]; done))).symm))
            · trivial
            · exact hA.only (is := []) (Z := []) rfl
          · intro h7_5
            (try simp only [decide_eq_true_eq, decide_eq_false_iff_not, Bool.not_eq_true', Bool.not_eq_false', Bool.not_eq_true, Bool.not_eq_false, Bool.true_eq_false, Bool.false_eq_true, not_false_eq_true, not_true_eq_false] at h7_5)
            refine H_cond rfl (fun h => nomatch h) (fun _ => ?_)
            refine H_seq ?_
            refine H_seq ?_
            -- R8 entry.go:197
            refine H_region (l := [_, _, _, _, _, _, _, _, _, _, _, _, _]) rfl ?_
            refine HO_fieldAddr (r := 4) rfl rfl rfl Try.underlying53 rfl Try.sizeOf3 rfl ?_
            refine HO_load1 (i := 0) (j := 4) rfl rfl rfl Try.isAgg3 rfl (.loc _ _ _) rfl rfl ?_
            refine HO_fieldAddr (r := 5) rfl rfl rfl Try.underlying53 rfl Try.sizeOf3 rfl ?_
            refine HO_load1 (i := 0) (j := 5) rfl rfl rfl Try.isAgg3 rfl (.loc _ _ _) rfl rfl ?_
            refine HO_fieldAddr (r := 6) rfl rfl rfl Try.underlying53 rfl Try.sizeOf3 rfl ?_
            refine HO_load1 (i := 0) (j := 6) rfl rfl rfl Try.isAgg3 rfl (.loc _ _ _) rfl rfl ?_
            refine HO_fieldAddr (r := 7) rfl rfl rfl Try.underlying53 rfl Try.sizeOf3 rfl ?_
            refine HO_load1 (i := 0) (j := 7) rfl rfl rfl Try.isAgg3 rfl (.loc _ _ _) rfl rfl ?_
            refine HO_fieldAddr (r := 9) rfl rfl rfl Try.underlying53 rfl Try.sizeOf3 rfl ?_
            refine HO_load1 (i := 0) (j := 9) rfl rfl rfl Try.isAgg3 rfl (.loc _ _ _) rfl rfl ?_
            refine HO_bi rfl rfl rfl bi_min5 ?_
            refine HO_bin rfl rfl rfl rfl bin_lss ?_
            refine HO_assign rfl rfl rfl ?_
            refine HO_nil ?_
            refine H_env (ρ' := [(27, _), (1, _)]) ⟨rfl, rfl, trivial⟩ ?_
            refine H_split (d := 27) rfl ?_ ?_
            · intro h27
              (try simp only [decide_eq_true_eq, decide_eq_false_iff_not, Bool.not_eq_true', Bool.not_eq_false', Bool.not_eq_true, Bool.not_eq_false, Bool.true_eq_false, Bool.false_eq_true, not_false_eq_true, not_true_eq_false] at h27)
              refine H_cond rfl (fun _ => ?_) (fun h => nomatch h)
              refine H_skip ?_
              refine H_cond rfl (fun _ => ?_) (fun h => nomatch h)
              refine H_seq ?_
              -- R10 entry.go:198
              refine H_region (l := [_]) rfl ?_
              refine HO_assign rfl rfl rfl ?_
              refine HO_nil ?_
              refine H_env (ρ' := [(2, _)]) ⟨rfl, trivial⟩ ?_
              refine H_world (fun _ hA => hA.drop (is := [0, 1, 2, 3, 4]) (Y := [_, _, _, _, _]) (Z := []) rfl) ?_
              -- end6
              refine H_ret1 Try.results60 (.tmp rfl) (fun w hA => ⟨(), congrArg Ending.returned ?_, ?_, ?_⟩)
              · (first | exact congrArg Value.bool (Ent.goodMsg_no (m := ⟨mk, mf, mt, me, mi, ml, mc, mr, rj, hi, es, ⟨ix, te, ⟨vo, le⟩, da⟩⟩) (by dsimp only; omega)) | (exact congrArg Value.bool (hD.trans (by rw [Ent.ok_no hz60 hI.2 (.inl h65)]; rfl)).symm) | (exact congrArg Value.bool (hD.trans (by rw [Ent.ok_no hz60 hI.2 (.inr (.inl h75))]; rfl)).symm) | (exact congrArg Value.bool (hD.trans (by rw [Ent.ok_no hz60 hI.2 (.inr (.inr (by omega)))]; rfl)).symm) | (exact congrArg Value.bool (hD.trans (by rw [hok, Bool.true_and, if_pos h85])).symm) | (exact congrArg Value.bool (hD.trans (by rw [hok, Bool.true_and, if_neg h85]; first | (simp [Ent.emptyS, *]; done) | (simp_all [Ent.emptyS]; done))).symm))
              · trivial
              · exact hA.only (is := []) (Z := []) rfl
            · intro h27
              (try simp only [decide_eq_true_eq, decide_eq_false_iff_not, Bool.not_eq_true', Bool.not_eq_false', Bool.not_eq_true, Bool.not_eq_false, Bool.true_eq_false, Bool.false_eq_true, not_false_eq_true, not_true_eq_false] at h27)
              refine H_cond rfl (fun h => nomatch h) (fun _ => ?_)
              -- R9 entry.go:197
              refine H_region (l := [_, _, _, _, _]) rfl ?_
              refine HO_fieldAddr (r := 10) rfl rfl rfl Try.underlying53 rfl Try.sizeOf51 rfl ?_
              refine HO_load1 (i := 0) (j := 10) rfl rfl rfl Try.isAgg51 rfl (.loc _ _ _) rfl rfl ?_
              refine HO_bi rfl rfl rfl (bi_len_sl Try.underlying51) ?_
              refine HO_bin rfl rfl rfl rfl bin_gtr ?_
              refine HO_assign rfl rfl rfl ?_
              refine HO_nil ?_
              refine H_env (ρ' := [(27, _), (1, _)]) ⟨rfl, rfl, trivial⟩ ?_
              refine H_split (d := 27) rfl ?_ ?_
              · intro h27_2
                (try simp only [decide_eq_true_eq, decide_eq_false_iff_not, Bool.not_eq_true', Bool.not_eq_false', Bool.not_eq_true, Bool.not_eq_false, Bool.true_eq_false, Bool.false_eq_true, not_false_eq_true, not_true_eq_false] at h27_2)
                refine H_cond rfl (fun _ => ?_) (fun h => nomatch h)
                refine H_seq ?_
                -- R10 entry.go:198
                refine H_region (l := [_]) rfl ?_
                refine HO_assign rfl rfl rfl ?_
                refine HO_nil ?_
                refine H_env (ρ' := [(2, _)]) ⟨rfl, trivial⟩ ?_
                refine H_world (fun _ hA => hA.drop (is := [0, 1, 2, 3, 4]) (Y := [_, _, _, _, _]) (Z := []) rfl) ?_
                -- end7
                refine H_ret1 Try.results60 (.tmp rfl) (fun w hA => ⟨(), congrArg Ending.returned ?_, ?_, ?_⟩)
                · (first | exact congrArg Value.bool (Ent.goodMsg_no (m := ⟨mk, mf, mt, me, mi, ml, mc, mr, rj, hi, es, ⟨ix, te, ⟨vo, le⟩, da⟩⟩) (by dsimp only; omega)) | (exact congrArg Value.bool (hD.trans (by rw [Ent.ok_no hz60 hI.2 (.inl h65)]; rfl)).symm) | (exact congrArg Value.bool (hD.trans (by rw [Ent.ok_no hz60 hI.2 (.inr (.inl h75))]; rfl)).symm) | (exact congrArg Value.bool (hD.trans (by rw [Ent.ok_no hz60 hI.2 (.inr (.inr (by omega)))]; rfl)).symm) | (exact congrArg Value.bool (hD.trans (by rw [hok, Bool.true_and, if_pos h85])).symm) | (exact congrArg Value.bool (hD.trans (by rw [hok, Bool.true_and, if_neg h85]; first | (simp [Ent.emptyS, *]; done) | (simp_all [Ent.emptyS]; done))).symm))
                · trivial
                · exact hA.only (is := []) (Z := []) rfl
              · intro h27_2
                (try simp only [decide_eq_true_eq, decide_eq_false_iff_not, Bool.not_eq_true', Bool.not_eq_false', Bool.not_eq_true, Bool.not_eq_false, Bool.true_eq_false, Bool.false_eq_true, not_false_eq_true, not_true_eq_false] at h27_2)
                refine H_cond rfl (fun h => nomatch h) (fun _ => ?_)
                refine H_seq ?_
                -- R11 entry.go:199
                refine H_region (l := [_, _, _, _, _, _, _, _, _, _]) rfl ?_
                refine HO_fieldAddr (r := 10) rfl rfl rfl Try.underlying53 rfl Try.sizeOf51 rfl ?_
                refine HO_load1 (i := 0) (j := 10) rfl rfl rfl Try.isAgg51 rfl (.loc _ _ _) rfl rfl ?_
                refine HO_bi rfl rfl rfl (bi_len_sl Try.underlying51) ?_
                refine HO_bin rfl rfl rfl rfl bin_gtr ?_
                refine HO_move rfl rfl rfl ?_
                refine HO_split (d := 49) rfl ?_ ?_
                · intro h49
                  (try simp only [decide_eq_true_eq, decide_eq_false_iff_not, Bool.not_eq_true', Bool.not_eq_false', Bool.not_eq_true, Bool.not_eq_false, Bool.true_eq_false, Bool.false_eq_true, not_false_eq_true, not_true_eq_false] at h49)
                  refine HO_fieldAddr (r := 0) rfl rfl rfl Try.underlying53 rfl Try.sizeOf3 rfl ?_
                  refine HO_load1 (i := 0) (j := 0) rfl rfl rfl Try.isAgg3 rfl (.loc _ _ _) rfl rfl ?_
                  refine HO_bin rfl rfl rfl rfl bin_neq ?_
                  refine HO_pick_t rfl rfl rfl rfl ?_
                  refine HO_assign rfl rfl rfl ?_
                  refine HO_nil ?_
                  refine H_env (ρ' := [(44, _), (1, _)]) ⟨rfl, rfl, trivial⟩ ?_
                  refine H_split (d := 44) rfl ?_ ?_
                  · intro h44
                    (try simp only [decide_eq_true_eq, decide_eq_false_iff_not, Bool.not_eq_true', Bool.not_eq_false', Bool.not_eq_true, Bool.not_eq_false, Bool.true_eq_false, Bool.false_eq_true, not_false_eq_true, not_true_eq_false] at h44)
                    refine H_cond rfl (fun _ => ?_) (fun h => nomatch h)
                    refine H_seq ?_
                    -- R12 entry.go:200
                    refine H_region (l := [_]) rfl ?_
                    refine HO_assign rfl rfl rfl ?_
                    refine HO_nil ?_
                    refine H_env (ρ' := [(2, _)]) ⟨rfl, trivial⟩ ?_
                    refine H_world (fun _ hA => hA.drop (is := [0, 1, 2, 3, 4]) (Y := [_, _, _, _, _]) (Z := []) rfl) ?_
                    -- end8
                    refine H_ret1 Try.results60 (.tmp rfl) (fun w hA => ⟨(), congrArg Ending.returned ?_, ?_, ?_⟩)
                    · (first | exact congrArg Value.bool (Ent.goodMsg_no (m := ⟨mk, mf, mt, me, mi, ml, mc, mr, rj, hi, es, ⟨ix, te, ⟨vo, le⟩, da⟩⟩) (by dsimp only; omega)) | (exact congrArg Value.bool (hD.trans (by rw [Ent.ok_no hz60 hI.2 (.inl h65)]; rfl)).symm) | (exact congrArg Value.bool (hD.trans (by rw [Ent.ok_no hz60 hI.2 (.inr (.inl h75))]; rfl)).symm) | (exact congrArg Value.bool (hD.trans (by rw [Ent.ok_no hz60 hI.2 (.inr (.inr (by omega)))]; rfl)).symm) | (exact congrArg Value.bool (hD.trans (by rw [hok, Bool.true_and, if_pos h85])).symm) | (exact congrArg Value.bool (hD.trans (by rw [hok, Bool.true_and, if_neg h85]; first | (simp [Ent.emptyS, *]; done) | (simp_all [Ent.emptyS]; done))).symm))
                    · trivial
                    · exact hA.only (is := []) (Z := []) rfl
                  · intro h44
                    (try simp only [decide_eq_true_eq, decide_eq_false_iff_not, Bool.not_eq_true', Bool.not_eq_false', Bool.not_eq_true, Bool.not_eq_false, Bool.true_eq_false, Bool.false_eq_true, not_false_eq_true, not_true_eq_false] at h44)
                    refine H_cond rfl (fun h => nomatch h) (fun _ => ?_)
                    refine H_skip ?_
                    refine H_blk ?_
                    refine H_seq ?_
                    refine H_seq ?_
                    -- R13 entry.go:202
                    have hD := Ent.goodMsg_at (m := ⟨mk, mf, mt, me, mi, ml, mc, mr, rj, hi, es, ⟨ix, te, ⟨vo, le⟩, da⟩⟩) (by dsimp only; omega)
                    dsimp only at hD
                    refine H_region (l := [_, _, _, _]) rfl ?_
                    refine HO_fieldAddr (r := 10) rfl rfl rfl Try.underlying53 rfl Try.sizeOf51 rfl ?_
                    refine HO_load1 (i := 0) (j := 10) rfl rfl rfl Try.isAgg51 rfl (.loc _ _ _) rfl rfl ?_
                    refine HO_bi rfl rfl rfl (bi_len_sl Try.underlying51) ?_
                    refine HO_move rfl rfl rfl ?_
                    refine HO_nil ?_
                    refine H_env (ρ' := [(57, _), (56, _), (55, _), (1, _)]) ⟨rfl, rfl, rfl, rfl, trivial⟩ ?_
                    refine H_block ?_
                    refine H_loop (σ := Nat) (fun s => s ≤ es.length ∧ Ent.okEnts mi me 0 es = Ent.okEnts mi me s (es.drop s)) (fun s => [(1, .pointer (some ⟨g1, 0, none⟩)), (55, .slice a9 (es.length) c9), (56, .int .i64 ((es.length : Int))), (57, .int .i64 ((s : Int)))]) (fun s => Asn w0 ok0 M0 [.loc g1 [.int .i64 (mk), .int .i64 (mf), .int .i64 (mt), .int .i64 (me), .int .i64 (mi), .int .i64 (ml), .int .i64 (mc), .int .i64 (mr), .bool (rj), .int .i64 (hi), .slice a9 (es.length) c9, .int .i64 (ix), .int .i64 (te), .slice a1 (vo.length) c1, .slice a2 (le.length) c2, .slice a3 (da.length) c3] 53, .dat kEnt.sl (es) [.slice a9 (es.length) c9], .dat kInt.sl (vo) [.slice a1 (vo.length) c1], .dat kInt.sl (le) [.slice a2 (le.length) c2], .dat kByte.sl (da) [.slice a3 (da.length) c3]]) (fun s => es.length - s) 0 ?_ ?_ ?_ ?_
                    · exact ⟨Nat.zero_le _, rfl⟩
                    · exact ⟨rfl, rfl, rfl, rfl, trivial⟩
                    · intro w hA
                      exact hA.only (is := [0, 1, 2, 3, 4]) (Z := []) rfl
                    · intro i hI
                      (try dsimp only at hI ⊢)
                      refine H_seq ?_
                      -- R14 entry.go:202
                      refine H_region (l := [_]) rfl ?_
                      refine HO_bin rfl rfl rfl rfl bin_lss ?_
                      refine HO_nil ?_
                      refine H_seq ?_
                      refine H_cond rfl ?_ ?_
                      · intro h58
                        (try simp only [decide_eq_true_eq, decide_eq_false_iff_not, Bool.not_eq_true', Bool.not_eq_false', Bool.not_eq_true, Bool.not_eq_false, Bool.true_eq_false, Bool.false_eq_true, not_false_eq_true, not_true_eq_false] at h58)
                        refine H_skip ?_
                        refine H_seq ?_
                        refine H_block ?_
                        refine H_seq ?_
                        -- R15 entry.go:202
                        refine H_region (l := [_, _, _, _, _, _]) rfl ?_
                        refine HO_move rfl rfl rfl ?_
                        refine HO_indexAddr open_Ent (i := 1) rfl rfl rfl rfl rfl Try.underlying51 Try.sizeOf61 rfl ?_ ?_
                        · omega
                        intro b60 o60 z60 y60 hz60 hI60
                        (try simp only [BIG] at hI60)
                        refine HO_loadA (i := 0) (us := []) (cs := [_, _, _, _, _, _, _, _, _, _, _, _, _]) (ts := []) rfl rfl rfl Try.isAgg61 Try.sizeOf61 rfl (.elem _ _ _) rfl rfl rfl rfl ?_
                        refine HO_alloc (cs := [_, _, _, _, _, _, _, _, _, _, _, _, _]) rfl rfl Try.zeroValue61 rfl ?_
                        intro g5
                        refine HO_assign rfl rfl rfl ?_
                        refine HO_store (i := 0) (j := 0) (us := []) (old := [_, _, _, _, _, _, _, _, _, _, _, _, _]) (ts := []) (cs := [_, _, _, _, _, _, _, _, _, _, _, _, _]) (R := [_, _, _, _, _, _, _, _]) (new := [_, _, _, _, _, _, _, _, _, _, _, _, _]) rfl rfl rfl Try.sizeOf61 rfl (by simp [Value.oneCell']) rfl rfl rfl rfl rfl rfl ?_
                        refine HO_nil ?_
                        refine H_env (ρ' := [(4, _), (5, _), (1, _), (55, _), (56, _), (57, _)]) ⟨rfl, rfl, rfl, rfl, rfl, rfl, trivial⟩ ?_
                        refine H_world (fun _ hA => hA.drop (is := [1]) (Y := [_]) (Z := [_, _, _, _, _, _, _, _]) rfl) ?_
                        refine H_seq ?_
                        -- R16 entry.go:203
                        refine H_region (l := [_, _, _, _, _, _, _, _, _, _, _, _, _, _, _, _, _, _, _, _]) rfl ?_
                        refine HO_loadA (i := 0) (us := []) (cs := [_, _, _, _, _, _, _, _, _, _, _, _, _]) (ts := []) rfl rfl rfl Try.isAgg61 Try.sizeOf61 rfl (.loc _ _ _) rfl rfl rfl rfl ?_
                        refine HO_dup (i := 1) rfl rfl ?_
                        refine HO_dup (i := 3) rfl rfl ?_
                        refine HO_call (first := []) (capt := []) (is := [0, 0]) (R := [_, _, _, _, _, _, _, _]) rfl rfl rfl rfl rfl Try.call39 rfl (entgood_spec _ _ _ _ _ _ _ _ _ _ _ _ _ _ _ _ _ ?_ ?_) ?_
                        · (dsimp only [BIG]; omega)
                        · (dsimp only [BIG]; omega)
                        intro y63 hy63
                        clear y63 hy63
                        refine HO_set (v' := .bool (Ent.good z60)) 63 rfl (by rfl) ?_
                        refine HO_not rfl rfl rfl ?_
                        refine HO_move rfl rfl rfl ?_
                        refine HO_split (d := 65) rfl ?_ ?_
                        · intro h65
                          (try simp only [decide_eq_true_eq, decide_eq_false_iff_not, Bool.not_eq_true', Bool.not_eq_false', Bool.not_eq_true, Bool.not_eq_false, Bool.true_eq_false, Bool.false_eq_true, not_false_eq_true, not_true_eq_false] at h65)
                          refine HO_no rfl rfl rfl ?_
                          refine HO_no rfl rfl rfl ?_
                          refine HO_no rfl rfl rfl ?_
                          refine HO_no rfl rfl rfl ?_
                          refine HO_no rfl rfl rfl ?_
                          refine HO_no rfl rfl rfl ?_
                          refine HO_no rfl rfl rfl ?_
                          refine HO_no rfl rfl rfl ?_
                          refine HO_pick_t rfl rfl rfl rfl ?_
                          refine HO_move rfl rfl rfl ?_
                          refine HO_no rfl rfl rfl ?_
                          refine HO_no rfl rfl rfl ?_
                          refine HO_no rfl rfl rfl ?_
                          refine HO_no rfl rfl rfl ?_
                          refine HO_no rfl rfl rfl ?_
                          refine HO_pick_t rfl rfl rfl rfl ?_
                          refine HO_nil ?_
                          refine H_env (ρ' := [(81, _), (1, _), (55, _), (56, _), (57, _)]) ⟨rfl, rfl, rfl, rfl, rfl, trivial⟩ ?_
                          refine H_world (fun _ hA => hA.drop (is := [0, 1, 2]) (Y := [_, _, _]) (Z := [_, _, _, _, _]) rfl) ?_
                          refine H_cond rfl (fun _ => ?_) (fun h => nomatch h)
                          refine H_seq ?_
                          -- R17 entry.go:204
                          refine H_region (l := [_]) rfl ?_
                          refine HO_assign rfl rfl rfl ?_
                          refine HO_nil ?_
                          refine H_env (ρ' := [(2, _)]) ⟨rfl, trivial⟩ ?_
                          refine H_world (fun _ hA => hA.drop (is := [0, 1, 2, 3, 4]) (Y := [_, _, _, _, _]) (Z := []) rfl) ?_
                          -- end9
                          refine H_ret1 Try.results60 (.tmp rfl) (fun w hA => ⟨(), congrArg Ending.returned ?_, ?_, ?_⟩)
                          · (first | exact congrArg Value.bool (Ent.goodMsg_no (m := ⟨mk, mf, mt, me, mi, ml, mc, mr, rj, hi, es, ⟨ix, te, ⟨vo, le⟩, da⟩⟩) (by dsimp only; omega)) | (exact congrArg Value.bool (hD.trans (by rw [Ent.ok_no hz60 hI.2 (.inl h65)]; rfl)).symm) | (exact congrArg Value.bool (hD.trans (by rw [Ent.ok_no hz60 hI.2 (.inr (.inl h75))]; rfl)).symm) | (exact congrArg Value.bool (hD.trans (by rw [Ent.ok_no hz60 hI.2 (.inr (.inr (by omega)))]; rfl)).symm) | (exact congrArg Value.bool (hD.trans (by rw [hok, Bool.true_and, if_pos h85])).symm) | (exact congrArg Value.bool (hD.trans (by rw [hok, Bool.true_and, if_neg h85]; first | (simp [Ent.emptyS, *]; done) | (simp_all [Ent.emptyS]; done))).symm))
                          · trivial
                          · exact hA.only (is := []) (Z := []) rfl
                        · intro h65
                          (try simp only [decide_eq_true_eq, decide_eq_false_iff_not, Bool.not_eq_true', Bool.not_eq_false', Bool.not_eq_true, Bool.not_eq_false, Bool.true_eq_false, Bool.false_eq_true, not_false_eq_true, not_true_eq_false] at h65)
                          have hgi := Ent.good_idx h65
                          (try dsimp only at hgi)
                          refine HO_fieldAddr (r := 0) rfl rfl rfl Try.underlying61 rfl Try.sizeOf3 rfl ?_
                          refine HO_load1 (i := 0) (j := 0) rfl rfl rfl Try.isAgg3 rfl (.loc _ _ _) rfl rfl ?_
                          refine HO_fieldAddr (r := 4) rfl rfl rfl Try.underlying53 rfl Try.sizeOf3 rfl ?_
                          refine HO_load1 (i := 3) (j := 4) rfl rfl rfl Try.isAgg3 rfl (.loc _ _ _) rfl rfl ?_
                          refine HO_bin rfl rfl rfl rfl (bin_sub ?_ ?_) ?_
                          · omega
                          · omega
                          refine HO_move rfl rfl rfl ?_
                          refine HO_bin rfl rfl rfl rfl (bin_add ?_ ?_) ?_
                          · omega
                          · omega
                          refine HO_bin rfl rfl rfl rfl bin_neq ?_
                          refine HO_pick_f rfl rfl rfl rfl ?_
                          refine HO_move rfl rfl rfl ?_
                          refine HO_split (d := 75) rfl ?_ ?_
                          · intro h75
                            (try simp only [decide_eq_true_eq, decide_eq_false_iff_not, Bool.not_eq_true', Bool.not_eq_false', Bool.not_eq_true, Bool.not_eq_false, Bool.true_eq_false, Bool.false_eq_true, not_false_eq_true, not_true_eq_false] at h75)
                            refine HO_no rfl rfl rfl ?_
                            refine HO_no rfl rfl rfl ?_
                            refine HO_no rfl rfl rfl ?_
                            refine HO_no rfl rfl rfl ?_
                            refine HO_no rfl rfl rfl ?_
                            refine HO_pick_t rfl rfl rfl rfl ?_
                            refine HO_nil ?_
                            refine H_env (ρ' := [(81, _), (1, _), (55, _), (56, _), (57, _)]) ⟨rfl, rfl, rfl, rfl, rfl, trivial⟩ ?_
                            refine H_world (fun _ hA => hA.drop (is := [0, 1, 2]) (Y := [_, _, _]) (Z := [_, _, _, _, _]) rfl) ?_
                            refine H_cond rfl (fun _ => ?_) (fun h => nomatch h)
                            refine H_seq ?_
                            -- R17 entry.go:204
                            refine H_region (l := [_]) rfl ?_
                            refine HO_assign rfl rfl rfl ?_
                            refine HO_nil ?_
                            refine H_env (ρ' := [(2, _)]) ⟨rfl, trivial⟩ ?_
                            refine H_world (fun _ hA => hA.drop (is := [0, 1, 2, 3, 4]) (Y := [_, _, _, _, _]) (Z := []) rfl) ?_
                            -- end10
                            refine H_ret1 Try.results60 (.tmp rfl) (fun w hA => ⟨(), congrArg Ending.returned ?_, ?_, ?_⟩)
                            · (first | exact congrArg Value.bool (Ent.goodMsg_no (m := ⟨mk, mf, mt, me, mi, ml, mc, mr, rj, hi, es, ⟨ix, te, ⟨vo, le⟩, da⟩⟩) (by dsimp only; omega)) | (exact congrArg Value.bool (hD.trans (by rw [Ent.ok_no hz60 hI.2 (.inl h65)]; rfl)).symm) | (exact congrArg Value.bool (hD.trans (by rw [Ent.ok_no hz60 hI.2 (.inr (.inl h75))]; rfl)).symm) | (exact congrArg Value.bool (hD.trans (by rw [Ent.ok_no hz60 hI.2 (.inr (.inr (by omega)))]; rfl)).symm) | (exact congrArg Value.bool (hD.trans (by rw [hok, Bool.true_and, if_pos h85])).symm) | (exact congrArg Value.bool (hD.trans (by rw [hok, Bool.true_and, if_neg h85]; first | (simp [Ent.emptyS, *]; done) | (simp_all [Ent.emptyS]; done))).symm))
                            · trivial
                            · exact hA.only (is := []) (Z := []) rfl
                          · intro h75
                            (try simp only [decide_eq_true_eq, decide_eq_false_iff_not, Bool.not_eq_true', Bool.not_eq_false', Bool.not_eq_true, Bool.not_eq_false, Bool.true_eq_false, Bool.false_eq_true, not_false_eq_true, not_true_eq_false] at h75)
                            refine HO_fieldAddr (r := 1) rfl rfl rfl Try.underlying61 rfl Try.sizeOf3 rfl ?_
                            refine HO_load1 (i := 0) (j := 1) rfl rfl rfl Try.isAgg3 rfl (.loc _ _ _) rfl rfl ?_
                            refine HO_fieldAddr (r := 3) rfl rfl rfl Try.underlying53 rfl Try.sizeOf3 rfl ?_
                            refine HO_load1 (i := 3) (j := 3) rfl rfl rfl Try.isAgg3 rfl (.loc _ _ _) rfl rfl ?_
                            refine HO_bin rfl rfl rfl rfl bin_gtr ?_
                            refine HO_pick_f rfl rfl rfl rfl ?_
                            refine HO_nil ?_
                            refine H_env (ρ' := [(81, _), (1, _), (55, _), (56, _), (57, _)]) ⟨rfl, rfl, rfl, rfl, rfl, trivial⟩ ?_
                            refine H_world (fun _ hA => hA.drop (is := [0, 1, 2]) (Y := [_, _, _]) (Z := [_, _, _, _, _]) rfl) ?_
                            refine H_cond rfl ?_ ?_
                            · intro h81
                              (try simp only [decide_eq_true_eq, decide_eq_false_iff_not, Bool.not_eq_true', Bool.not_eq_false', Bool.not_eq_true, Bool.not_eq_false, Bool.true_eq_false, Bool.false_eq_true, not_false_eq_true, not_true_eq_false] at h81)
                              refine H_seq ?_
                              -- R17 entry.go:204
                              refine H_region (l := [_]) rfl ?_
                              refine HO_assign rfl rfl rfl ?_
                              refine HO_nil ?_
                              refine H_env (ρ' := [(2, _)]) ⟨rfl, trivial⟩ ?_
                              refine H_world (fun _ hA => hA.drop (is := [0, 1, 2, 3, 4]) (Y := [_, _, _, _, _]) (Z := []) rfl) ?_
                              -- end11
                              refine H_ret1 Try.results60 (.tmp rfl) (fun w hA => ⟨(), congrArg Ending.returned ?_, ?_, ?_⟩)
                              · (first | exact congrArg Value.bool (Ent.goodMsg_no (m := ⟨mk, mf, mt, me, mi, ml, mc, mr, rj, hi, es, ⟨ix, te, ⟨vo, le⟩, da⟩⟩) (by dsimp only; omega)) | (exact congrArg Value.bool (hD.trans (by rw [Ent.ok_no hz60 hI.2 (.inl h65)]; rfl)).symm) | (exact congrArg Value.bool (hD.trans (by rw [Ent.ok_no hz60 hI.2 (.inr (.inl h75))]; rfl)).symm) | (exact congrArg Value.bool (hD.trans (by rw [Ent.ok_no hz60 hI.2 (.inr (.inr (by omega)))]; rfl)).symm) | (exact congrArg Value.bool (hD.trans (by rw [hok, Bool.true_and, if_pos h85])).symm) | (exact congrArg Value.bool (hD.trans (by rw [hok, Bool.true_and, if_neg h85]; first | (simp [Ent.emptyS, *]; done) | (simp_all [Ent.emptyS]; done))).symm))
                              · trivial
                              · exact hA.only (is := []) (Z := []) rfl
                            · intro h81
                              (try simp only [decide_eq_true_eq, decide_eq_false_iff_not, Bool.not_eq_true', Bool.not_eq_false', Bool.not_eq_true, Bool.not_eq_false, Bool.true_eq_false, Bool.false_eq_true, not_false_eq_true, not_true_eq_false] at h81)
                              refine H_skip ?_
                              refine H_blk ?_
                              -- R18 entry.go:202
                              refine H_region (l := [_, _]) rfl ?_
                              refine HO_bin rfl rfl rfl rfl (bin_add ?_ ?_) ?_
                              · omega
                              · omega
                              refine HO_move rfl rfl rfl ?_
                              refine HO_nil ?_
                              refine H_env (ρ' := [(57, _), (1, _), (55, _), (56, _)]) ⟨rfl, rfl, rfl, rfl, trivial⟩ ?_
                              refine H_inv (fun a w hf hA => ⟨i + 1, ?_, ?_, hf.sub ?_, ?_⟩)
                              · exact ⟨by omega, Ent.ok_next hz60 hI.2 h65 (by omega) (by omega)⟩
                              · (try dsimp only); omega
                              · exact ⟨rfl, rfl, rfl, rfl, trivial⟩
                              · exact hA.only (is := [0, 1, 2, 3, 4]) (Z := []) rfl
                      · intro h58
                        (try simp only [decide_eq_true_eq, decide_eq_false_iff_not, Bool.not_eq_true', Bool.not_eq_false', Bool.not_eq_true, Bool.not_eq_false, Bool.true_eq_false, Bool.false_eq_true, not_false_eq_true, not_true_eq_false] at h58)
                        refine H_exit rfl ?_
                        refine H_seq ?_
                        refine H_seq ?_
                        -- R19 entry.go:207
                        have hok := Ent.ok_end hI.2 (by omega)
                        refine H_region (l := [_, _, _]) rfl ?_
                        refine HO_fieldAddr (r := 0) rfl rfl rfl Try.underlying53 rfl Try.sizeOf3 rfl ?_
                        refine HO_load1 (i := 0) (j := 0) rfl rfl rfl Try.isAgg3 rfl (.loc _ _ _) rfl rfl ?_
                        refine HO_bin rfl rfl rfl rfl bin_eql ?_
                        refine HO_nil ?_
                        refine H_env (ρ' := [(85, _), (1, _)]) ⟨rfl, rfl, trivial⟩ ?_
                        refine H_cond rfl ?_ ?_
                        · intro h85
                          (try simp only [decide_eq_true_eq, decide_eq_false_iff_not, Bool.not_eq_true', Bool.not_eq_false', Bool.not_eq_true, Bool.not_eq_false, Bool.true_eq_false, Bool.false_eq_true, not_false_eq_true, not_true_eq_false] at h85)
                          refine H_seq ?_
                          -- R20 entry.go:208
                          refine H_region (l := [_, _, _, _]) rfl ?_
                          refine HO_fieldAddr (r := 11) rfl rfl rfl Try.underlying53 rfl Try.sizeOf47 rfl ?_
                          refine HO_loadA (i := 0) (us := [_, _, _, _, _, _, _, _, _, _, _]) (cs := [_, _, _, _, _]) (ts := []) rfl rfl rfl Try.isAgg47 Try.sizeOf47 rfl (.loc _ _ _) rfl rfl rfl rfl ?_
                          refine HO_dup (i := 2) rfl rfl ?_
                          refine HO_dup (i := 4) rfl rfl ?_
                          refine HO_dup (i := 6) rfl rfl ?_
                          refine HO_call (first := []) (capt := []) (is := [0, 0, 0]) (R := [_, _, _, _, _]) rfl rfl rfl rfl rfl Try.call32 rfl (goodsnap_spec _ _ _ _ _ _ _ _ _ _ _) ?_
                          intro y88 hy88
                          clear y88 hy88
                          refine HO_assign rfl rfl rfl ?_
                          refine HO_nil ?_
                          refine H_env (ρ' := [(2, _)]) ⟨rfl, trivial⟩ ?_
                          refine H_world (fun _ hA => hA.drop (is := [0, 1, 2, 3, 4]) (Y := [_, _, _, _, _]) (Z := []) rfl) ?_
                          -- end12
                          refine H_ret1 Try.results60 (.tmp rfl) (fun w hA => ⟨(), congrArg Ending.returned ?_, ?_, ?_⟩)
                          · (first | exact congrArg Value.bool (Ent.goodMsg_no (m := ⟨mk, mf, mt, me, mi, ml, mc, mr, rj, hi, es, ⟨ix, te, ⟨vo, le⟩, da⟩⟩) (by dsimp only; omega)) | (exact congrArg Value.bool (hD.trans (by rw [Ent.ok_no hz60 hI.2 (.inl h65)]; rfl)).symm) | (exact congrArg Value.bool (hD.trans (by rw [Ent.ok_no hz60 hI.2 (.inr (.inl h75))]; rfl)).symm) | (exact congrArg Value.bool (hD.trans (by rw [Ent.ok_no hz60 hI.2 (.inr (.inr (by omega)))]; rfl)).symm) | (exact congrArg Value.bool (hD.trans (by rw [hok, Bool.true_and, if_pos h85])).symm) | (exact congrArg Value.bool (hD.trans (by rw [hok, Bool.true_and, if_neg h85]; first | (simp [Ent.emptyS, *]; done) | (simp_all [Ent.emptyS]; done))).symm))
                          · trivial
                          · exact hA.only (is := []) (Z := []) rfl
                        · intro h85
                          (try simp only [decide_eq_true_eq, decide_eq_false_iff_not, Bool.not_eq_true', Bool.not_eq_false', Bool.not_eq_true, Bool.not_eq_false, Bool.true_eq_false, Bool.false_eq_true, not_false_eq_true, not_true_eq_false] at h85)
                          refine H_skip ?_
                          refine H_seq ?_
                          -- R21 entry.go:210
                          refine H_region (l := [_, _, _, _]) rfl ?_
                          refine HO_fieldAddr (r := 11) rfl rfl rfl Try.underlying53 rfl Try.sizeOf47 rfl ?_
                          refine HO_loadA (i := 0) (us := [_, _, _, _, _, _, _, _, _, _, _]) (cs := [_, _, _, _, _]) (ts := []) rfl rfl rfl Try.isAgg47 Try.sizeOf47 rfl (.loc _ _ _) rfl rfl rfl rfl ?_
                          refine HO_alloc (cs := [_, _, _, _, _]) rfl rfl Try.zeroValue47 rfl ?_
                          intro g6
                          refine HO_store (i := 0) (j := 0) (us := []) (old := [_, _, _, _, _]) (ts := []) (cs := [_, _, _, _, _]) (R := [_, _, _, _, _]) (new := [_, _, _, _, _]) rfl rfl rfl Try.sizeOf47 rfl (by simp [Value.oneCell']) rfl rfl rfl rfl rfl rfl ?_
                          refine HO_nil ?_
                          refine H_env (ρ' := [(6, _)]) ⟨rfl, trivial⟩ ?_
                          refine H_world (fun _ hA => hA.drop (is := [1, 2]) (Y := [_, _]) (Z := [_, _, _, _]) rfl) ?_
                          refine H_seq ?_
                          -- R22 entry.go:211
                          refine H_region (l := [_, _, _, _, _, _, _, _, _, _, _, _, _, _, _, _, _, _, _, _]) rfl ?_
                          refine HO_fieldAddr (r := 0) rfl rfl rfl Try.underlying47 rfl Try.sizeOf3 rfl ?_
                          refine HO_load1 (i := 0) (j := 0) rfl rfl rfl Try.isAgg3 rfl (.loc _ _ _) rfl rfl ?_
                          refine HO_bin rfl rfl rfl rfl bin_eql ?_
                          refine HO_move rfl rfl rfl ?_
                          refine HO_split (d := 94) rfl ?_ ?_
                          · intro h94
                            (try simp only [decide_eq_true_eq, decide_eq_false_iff_not, Bool.not_eq_true', Bool.not_eq_false', Bool.not_eq_true, Bool.not_eq_false, Bool.true_eq_false, Bool.false_eq_true, not_false_eq_true, not_true_eq_false] at h94)
                            refine HO_fieldAddr (r := 1) rfl rfl rfl Try.underlying47 rfl Try.sizeOf3 rfl ?_
                            refine HO_load1 (i := 0) (j := 1) rfl rfl rfl Try.isAgg3 rfl (.loc _ _ _) rfl rfl ?_
                            refine HO_bin rfl rfl rfl rfl bin_eql ?_
                            refine HO_pick_t rfl rfl rfl rfl ?_
                            refine HO_move rfl rfl rfl ?_
                            refine HO_split (d := 99) rfl ?_ ?_
                            · intro h99
                              (try simp only [decide_eq_true_eq, decide_eq_false_iff_not, Bool.not_eq_true', Bool.not_eq_false', Bool.not_eq_true, Bool.not_eq_false, Bool.true_eq_false, Bool.false_eq_true, not_false_eq_true, not_true_eq_false] at h99)
                              refine HO_fieldAddr (r := 2) rfl rfl rfl Try.underlying47 rfl Try.sizeOf45 rfl ?_
                              refine HO_loadA (i := 0) (us := [_, _]) (cs := [_, _]) (ts := [_]) rfl rfl rfl Try.isAgg45 Try.sizeOf45 rfl (.loc _ _ _) rfl rfl rfl rfl ?_
                              refine HO_dup (i := 1) rfl rfl ?_
                              refine HO_dup (i := 3) rfl rfl ?_
                              refine HO_call (first := []) (capt := []) (is := [0, 0]) (R := [_, _, _, _]) rfl rfl rfl rfl rfl Try.call89 rfl (none_spec _ _ _ _ _ _ ?_ ?_) ?_
                              · (dsimp only [BIG]; omega)
                              · (dsimp only [BIG]; omega)
                              intro y102 hy102
                              clear y102 hy102
                              refine HO_pick_t rfl rfl rfl rfl ?_
                              refine HO_move rfl rfl rfl ?_
                              refine HO_split (d := 104) rfl ?_ ?_
                              · intro h104
                                (try simp only [decide_eq_true_eq, decide_eq_false_iff_not, Bool.not_eq_true', Bool.not_eq_false', Bool.not_eq_true, Bool.not_eq_false, Bool.true_eq_false, Bool.false_eq_true, not_false_eq_true, not_true_eq_false] at h104)
                                refine HO_fieldAddr (r := 4) rfl rfl rfl Try.underlying47 rfl Try.sizeOf28 rfl ?_
                                refine HO_load1 (i := 0) (j := 4) rfl rfl rfl Try.isAgg28 rfl (.loc _ _ _) rfl rfl ?_
                                refine HO_bi rfl rfl rfl (bi_len_sl Try.underlying28) ?_
                                refine HO_bin rfl rfl rfl rfl bin_eql ?_
                                refine HO_pick_t rfl rfl rfl rfl ?_
                                refine HO_assign rfl rfl rfl ?_
                                refine HO_nil ?_
                                refine H_env (ρ' := [(2, _)]) ⟨rfl, trivial⟩ ?_
                                refine H_world (fun _ hA => hA.drop (is := [0, 1, 2, 3]) (Y := [_, _, _, _]) (Z := []) rfl) ?_
                                -- end13
                                refine H_ret1 Try.results60 (.tmp rfl) (fun w hA => ⟨(), congrArg Ending.returned ?_, ?_, ?_⟩)
                                · (first | exact congrArg Value.bool (Ent.goodMsg_no (m := ⟨mk, mf, mt, me, mi, ml, mc, mr, rj, hi, es, ⟨ix, te, ⟨vo, le⟩, da⟩⟩) (by dsimp only; omega)) | (exact congrArg Value.bool (hD.trans (by rw [Ent.ok_no hz60 hI.2 (.inl h65)]; rfl)).symm) | (exact congrArg Value.bool (hD.trans (by rw [Ent.ok_no hz60 hI.2 (.inr (.inl h75))]; rfl)).symm) | (exact congrArg Value.bool (hD.trans (by rw [Ent.ok_no hz60 hI.2 (.inr (.inr (by omega)))]; rfl)).symm) | (exact congrArg Value.bool (hD.trans (by rw [hok, Bool.true_and, if_pos h85])).symm) | (exact congrArg Value.bool (hD.trans (by rw [hok, Bool.true_and, if_neg h85]; first | (simp [Ent.emptyS, *]; done) | (simp_all [Ent.emptyS]; done))).symm))
                                · trivial
                                · exact hA.only (is := []) (Z := []) rfl
                              · intro h104
                                (try simp only [decide_eq_true_eq, decide_eq_false_iff_not, Bool.not_eq_true', Bool.not_eq_false', Bool.not_eq_true, Bool.not_eq_false, Bool.true_eq_false, Bool.false_eq_true, not_false_eq_true, not_true_eq_false] at h104)
                                refine HO_no rfl rfl rfl ?_
                                refine HO_no rfl rfl rfl ?_
                                refine HO_no rfl rfl rfl ?_
                                refine HO_no rfl rfl rfl ?_
                                refine HO_pick_f rfl rfl rfl rfl ?_
                                refine HO_assign rfl rfl rfl ?_
                                refine HO_nil ?_
                                refine H_env (ρ' := [(2, _)]) ⟨rfl, trivial⟩ ?_
                                refine H_world (fun _ hA => hA.drop (is := [0, 1, 2, 3]) (Y := [_, _, _, _]) (Z := []) rfl) ?_
                                -- end14
                                refine H_ret1 Try.results60 (.tmp rfl) (fun w hA => ⟨(), congrArg Ending.returned ?_, ?_, ?_⟩)
                                · (first | exact congrArg Value.bool (Ent.goodMsg_no (m := ⟨mk, mf, mt, me, mi, ml, mc, mr, rj, hi, es, ⟨ix, te, ⟨vo, le⟩, da⟩⟩) (by dsimp only; omega)) | (exact congrArg Value.bool (hD.trans (by rw [Ent.ok_no hz60 hI.2 (.inl h65)]; rfl)).symm) | (exact congrArg Value.bool (hD.trans (by rw [Ent.ok_no hz60 hI.2 (.inr (.inl h75))]; rfl)).symm) | (exact congrArg Value.bool (hD.trans (by rw [Ent.ok_no hz60 hI.2 (.inr (.inr (by omega)))]; rfl)).symm) | (exact congrArg Value.bool (hD.trans (by rw [hok, Bool.true_and, if_pos h85])).symm) | (exact congrArg Value.bool (hD.trans (by rw [hok, Bool.true_and, if_neg h85]; first | (simp [Ent.emptyS, *]; done) | (simp_all [Ent.emptyS]; done))).symm))
                                · trivial
                                · exact hA.only (is := []) (Z := []) rfl
                            · intro h99
                              (try simp only [decide_eq_true_eq, decide_eq_false_iff_not, Bool.not_eq_true', Bool.not_eq_false', Bool.not_eq_true, Bool.not_eq_false, Bool.true_eq_false, Bool.false_eq_true, not_false_eq_true, not_true_eq_false] at h99)
                              refine HO_no rfl rfl rfl ?_
                              refine HO_no rfl rfl rfl ?_
                              refine HO_no rfl rfl rfl ?_
                              refine HO_pick_f rfl rfl rfl rfl ?_
                              refine HO_move rfl rfl rfl ?_
                              refine HO_no rfl rfl rfl ?_
                              refine HO_no rfl rfl rfl ?_
                              refine HO_no rfl rfl rfl ?_
                              refine HO_no rfl rfl rfl ?_
                              refine HO_pick_f rfl rfl rfl rfl ?_
                              refine HO_assign rfl rfl rfl ?_
                              refine HO_nil ?_
                              refine H_env (ρ' := [(2, _)]) ⟨rfl, trivial⟩ ?_
                              refine H_world (fun _ hA => hA.drop (is := [0, 1, 2, 3]) (Y := [_, _, _, _]) (Z := []) rfl) ?_
                              -- end15
                              refine H_ret1 Try.results60 (.tmp rfl) (fun w hA => ⟨(), congrArg Ending.returned ?_, ?_, ?_⟩)
                              · (first | exact congrArg Value.bool (Ent.goodMsg_no (m := ⟨mk, mf, mt, me, mi, ml, mc, mr, rj, hi, es, ⟨ix, te, ⟨vo, le⟩, da⟩⟩) (by dsimp only; omega)) | (exact congrArg Value.bool (hD.trans (by rw [Ent.ok_no hz60 hI.2 (.inl h65)]; rfl)).symm) | (exact congrArg Value.bool (hD.trans (by rw [Ent.ok_no hz60 hI.2 (.inr (.inl h75))]; rfl)).symm) | (exact congrArg Value.bool (hD.trans (by rw [Ent.ok_no hz60 hI.2 (.inr (.inr (by omega)))]; rfl)).symm) | (exact congrArg Value.bool (hD.trans (by rw [hok, Bool.true_and, if_pos h85])).symm) | (exact congrArg Value.bool (hD.trans (by rw [hok, Bool.true_and, if_neg h85]; first | (simp [Ent.emptyS, *]; done) | (simp_all [Ent.emptyS]; done))).symm))
                              · trivial
                              · exact hA.only (is := []) (Z := []) rfl
                          · intro h94
                            (try simp only [decide_eq_true_eq, decide_eq_false_iff_not, Bool.not_eq_true', Bool.not_eq_false', Bool.not_eq_true, Bool.not_eq_false, Bool.true_eq_false, Bool.false_eq_true, not_false_eq_true, not_true_eq_false] at h94)
                            refine HO_no rfl rfl rfl ?_
                            refine HO_no rfl rfl rfl ?_
                            refine HO_no rfl rfl rfl ?_
                            refine HO_pick_f rfl rfl rfl rfl ?_
                            refine HO_move rfl rfl rfl ?_
                            refine HO_no rfl rfl rfl ?_
                            refine HO_no rfl rfl rfl ?_
                            refine HO_no rfl rfl rfl ?_
                            refine HO_pick_f rfl rfl rfl rfl ?_
                            refine HO_move rfl rfl rfl ?_
                            refine HO_no rfl rfl rfl ?_
                            refine HO_no rfl rfl rfl ?_
                            refine HO_no rfl rfl rfl ?_
                            refine HO_no rfl rfl rfl ?_
                            refine HO_pick_f rfl rfl rfl rfl ?_
                            refine HO_assign rfl rfl rfl ?_
                            refine HO_nil ?_
                            refine H_env (ρ' := [(2, _)]) ⟨rfl, trivial⟩ ?_
                            refine H_world (fun _ hA => hA.drop (is := [0, 1, 2, 3]) (Y := [_, _, _, _]) (Z := []) rfl) ?_
                            -- end16
                            refine H_ret1 Try.results60 (.tmp rfl) (fun w hA => ⟨(), congrArg Ending.returned ?_, ?_, ?_⟩)
                            · (first | exact congrArg Value.bool (Ent.goodMsg_no (m := ⟨mk, mf, mt, me, mi, ml, mc, mr, rj, hi, es, ⟨ix, te, ⟨vo, le⟩, da⟩⟩) (by dsimp only; omega)) | (exact congrArg Value.bool (hD.trans (by rw [Ent.ok_no hz60 hI.2 (.inl h65)]; rfl)).symm) | (exact congrArg Value.bool (hD.trans (by rw [Ent.ok_no hz60 hI.2 (.inr (.inl h75))]; rfl)).symm) | (exact congrArg Value.bool (hD.trans (by rw [Ent.ok_no hz60 hI.2 (.inr (.inr (by omega)))]; rfl)).symm) | (exact congrArg Value.bool (hD.trans (by rw [hok, Bool.true_and, if_pos h85])).symm) | (exact congrArg Value.bool (hD.trans (by rw [hok, Bool.true_and, if_neg h85]; first | (simp [Ent.emptyS, *]; done) | (simp_all [Ent.emptyS]; done))).symm))
                            · trivial
                            · exact hA.only (is := []) (Z := []) rfl
                · intro h49
                  (try simp only [decide_eq_true_eq, decide_eq_false_iff_not, Bool.not_eq_true', Bool.not_eq_false', Bool.not_eq_true, Bool.not_eq_false, Bool.true_eq_false, Bool.false_eq_true, not_false_eq_true, not_true_eq_false] at h49)
                  refine HO_no rfl rfl rfl ?_
                  refine HO_no rfl rfl rfl ?_
                  refine HO_no rfl rfl rfl ?_
                  refine HO_pick_f rfl rfl rfl rfl ?_
                  refine HO_assign rfl rfl rfl ?_
                  refine HO_nil ?_
                  refine H_env (ρ' := [(44, _), (1, _)]) ⟨rfl, rfl, trivial⟩ ?_
                  refine H_cond rfl (fun h => nomatch h) (fun _ => ?_)
                  refine H_skip ?_
                  refine H_blk ?_
                  refine H_seq ?_
                  refine H_seq ?_
                  -- R13 entry.go:202
                  have hD := Ent.goodMsg_at (m := ⟨mk, mf, mt, me, mi, ml, mc, mr, rj, hi, es, ⟨ix, te, ⟨vo, le⟩, da⟩⟩) (by dsimp only; omega)
                  dsimp only at hD
                  refine H_region (l := [_, _, _, _]) rfl ?_
                  refine HO_fieldAddr (r := 10) rfl rfl rfl Try.underlying53 rfl Try.sizeOf51 rfl ?_
                  refine HO_load1 (i := 0) (j := 10) rfl rfl rfl Try.isAgg51 rfl (.loc _ _ _) rfl rfl ?_
                  refine HO_bi rfl rfl rfl (bi_len_sl Try.underlying51) ?_
                  refine HO_move rfl rfl rfl ?_
                  refine HO_nil ?_
                  refine H_env (ρ' := [(57, _), (56, _), (55, _), (1, _)]) ⟨rfl, rfl, rfl, rfl, trivial⟩ ?_
                  refine H_block ?_
                  refine H_loop (σ := Nat) (fun s => s ≤ es.length ∧ Ent.okEnts mi me 0 es = Ent.okEnts mi me s (es.drop s)) (fun s => [(1, .pointer (some ⟨g1, 0, none⟩)), (55, .slice a9 (es.length) c9), (56, .int .i64 ((es.length : Int))), (57, .int .i64 ((s : Int)))]) (fun s => Asn w0 ok0 M0 [.loc g1 [.int .i64 (mk), .int .i64 (mf), .int .i64 (mt), .int .i64 (me), .int .i64 (mi), .int .i64 (ml), .int .i64 (mc), .int .i64 (mr), .bool (rj), .int .i64 (hi), .slice a9 (es.length) c9, .int .i64 (ix), .int .i64 (te), .slice a1 (vo.length) c1, .slice a2 (le.length) c2, .slice a3 (da.length) c3] 53, .dat kEnt.sl (es) [.slice a9 (es.length) c9], .dat kInt.sl (vo) [.slice a1 (vo.length) c1], .dat kInt.sl (le) [.slice a2 (le.length) c2], .dat kByte.sl (da) [.slice a3 (da.length) c3]]) (fun s => es.length - s) 0 ?_ ?_ ?_ ?_
                  · exact ⟨Nat.zero_le _, rfl⟩
                  · exact ⟨rfl, rfl, rfl, rfl, trivial⟩
                  · intro w hA
                    exact hA.only (is := [0, 1, 2, 3, 4]) (Z := []) rfl
                  · intro i hI
                    (try dsimp only at hI ⊢)
                    refine H_seq ?_
                    -- R14 entry.go:202
                    refine H_region (l := [_]) rfl ?_
                    refine HO_bin rfl rfl rfl rfl bin_lss ?_
                    refine HO_nil ?_
                    refine H_seq ?_
                    refine H_cond rfl ?_ ?_
                    · intro h58
                      (try simp only [decide_eq_true_eq, decide_eq_false_iff_not, Bool.not_eq_true', Bool.not_eq_false', Bool.not_eq_true, Bool.not_eq_false, Bool.true_eq_false, Bool.false_eq_true, not_false_eq_true, not_true_eq_false] at h58)
                      refine H_skip ?_
                      refine H_seq ?_
                      refine H_block ?_
                      refine H_seq ?_
                      -- R15 entry.go:202
                      refine H_region (l := [_, _, _, _, _, _]) rfl ?_
                      refine HO_move rfl rfl rfl ?_
                      refine HO_indexAddr open_Ent (i := 1) rfl rfl rfl rfl rfl Try.underlying51 Try.sizeOf61 rfl ?_ ?_
                      · omega
                      intro b60 o60 z60 y60 hz60 hI60
                      (try simp only [BIG] at hI60)
                      refine HO_loadA (i := 0) (us := []) (cs := [_, _, _, _, _, _, _, _, _, _, _, _, _]) (ts := []) rfl rfl rfl Try.isAgg61 Try.sizeOf61 rfl (.elem _ _ _) rfl rfl rfl rfl ?_
                      refine HO_alloc (cs := [_, _, _, _, _, _, _, _, _, _, _, _, _]) rfl rfl Try.zeroValue61 rfl ?_
                      intro g5
                      refine HO_assign rfl rfl rfl ?_
                      refine HO_store (i := 0) (j := 0) (us := []) (old := [_, _, _, _, _, _, _, _, _, _, _, _, _]) (ts := []) (cs := [_, _, _, _, _, _, _, _, _, _, _, _, _]) (R := [_, _, _, _, _, _, _, _]) (new := [_, _, _, _, _, _, _, _, _, _, _, _, _]) rfl rfl rfl Try.sizeOf61 rfl (by simp [Value.oneCell']) rfl rfl rfl rfl rfl rfl ?_
                      refine HO_nil ?_
                      refine H_env (ρ' := [(4, _), (5, _), (1, _), (55, _), (56, _), (57, _)]) ⟨rfl, rfl, rfl, rfl, rfl, rfl, trivial⟩ ?_
                      refine H_world (fun _ hA => hA.drop (is := [1]) (Y := [_]) (Z := [_, _, _, _, _, _, _, _]) rfl) ?_
                      refine H_seq ?_
                      -- R16 entry.go:203
                      refine H_region (l := [_, _, _, _, _, _, _, _, _, _, _, _, _, _, _, _, _, _, _, _]) rfl ?_
                      refine HO_loadA (i := 0) (us := []) (cs := [_, _, _, _, _, _, _, _, _, _, _, _, _]) (ts := []) rfl rfl rfl Try.isAgg61 Try.sizeOf61 rfl (.loc _ _ _) rfl rfl rfl rfl ?_
                      refine HO_dup (i := 1) rfl rfl ?_
                      refine HO_dup (i := 3) rfl rfl ?_
                      refine HO_call (first := []) (capt := []) (is := [0, 0]) (R := [_, _, _, _, _, _, _, _]) rfl rfl rfl rfl rfl Try.call39 rfl (entgood_spec _ _ _ _ _ _ _ _ _ _ _ _ _ _ _ _ _ ?_ ?_) ?_
                      · (dsimp only [BIG]; omega)
                      · (dsimp only [BIG]; omega)
                      intro y63 hy63
                      clear y63 hy63
                      refine HO_set (v' := .bool (Ent.good z60)) 63 rfl (by rfl) ?_
                      refine HO_not rfl rfl rfl ?_
                      refine HO_move rfl rfl rfl ?_
                      refine HO_split (d := 65) rfl ?_ ?_
                      · intro h65
                        (try simp only [decide_eq_true_eq, decide_eq_false_iff_not, Bool.not_eq_true', Bool.not_eq_false', Bool.not_eq_true, Bool.not_eq_false, Bool.true_eq_false, Bool.false_eq_true, not_false_eq_true, not_true_eq_false] at h65)
                        refine HO_no rfl rfl rfl ?_
                        refine HO_no rfl rfl rfl ?_
                        refine HO_no rfl rfl rfl ?_
                        refine HO_no rfl rfl rfl ?_
                        refine HO_no rfl rfl rfl ?_
                        refine HO_no rfl rfl rfl ?_
                        refine HO_no rfl rfl rfl ?_
                        refine HO_no rfl rfl rfl ?_
                        refine HO_pick_t rfl rfl rfl rfl ?_
                        refine HO_move rfl rfl rfl ?_
                        refine HO_no rfl rfl rfl ?_
                        refine HO_no rfl rfl rfl ?_
                        refine HO_no rfl rfl rfl ?_
                        refine HO_no rfl rfl rfl ?_
                        refine HO_no rfl rfl rfl ?_
                        refine HO_pick_t rfl rfl rfl rfl ?_
                        refine HO_nil ?_
                        refine H_env (ρ' := [(81, _), (1, _), (55, _), (56, _), (57, _)]) ⟨rfl, rfl, rfl, rfl, rfl, trivial⟩ ?_
                        refine H_world (fun _ hA => hA.drop (is := [0, 1, 2]) (Y := [_, _, _]) (Z := [_, _, _, _, _]) rfl) ?_
                        refine H_cond rfl (fun _ => ?_) (fun h => nomatch h)
                        refine H_seq ?_
                        -- R17 entry.go:204
                        refine H_region (l := [_]) rfl ?_
                        refine HO_assign rfl rfl rfl ?_
                        refine HO_nil ?_
                        refine H_env (ρ' := [(2, _)]) ⟨rfl, trivial⟩ ?_
                        refine H_world (fun _ hA => hA.drop (is := [0, 1, 2, 3, 4]) (Y := [_, _, _, _, _]) (Z := []) rfl) ?_
                        -- end17
                        refine H_ret1 Try.results60 (.tmp rfl) (fun w hA => ⟨(), congrArg Ending.returned ?_, ?_, ?_⟩)
                        · (first | exact congrArg Value.bool (Ent.goodMsg_no (m := ⟨mk, mf, mt, me, mi, ml, mc, mr, rj, hi, es, ⟨ix, te, ⟨vo, le⟩, da⟩⟩) (by dsimp only; omega)) | (exact congrArg Value.bool (hD.trans (by rw [Ent.ok_no hz60 hI.2 (.inl h65)]; rfl)).symm) | (exact congrArg Value.bool (hD.trans (by rw [Ent.ok_no hz60 hI.2 (.inr (.inl h75))]; rfl)).symm) | (exact congrArg Value.bool (hD.trans (by rw [Ent.ok_no hz60 hI.2 (.inr (.inr (by omega)))]; rfl)).symm) | (exact congrArg Value.bool (hD.trans (by rw [hok, Bool.true_and, if_pos h85])).symm) | (exact congrArg Value.bool (hD.trans (by rw [hok, Bool.true_and, if_neg h85]; first | (simp [Ent.emptyS, *]; done) | (simp_all [Ent.emptyS]; done))).symm))
                        · trivial
                        · exact hA.only (is := []) (Z := []) rfl
                      · intro h65
                        (try simp only [decide_eq_true_eq, decide_eq_false_iff_not, Bool.not_eq_true', Bool.not_eq_false', Bool.not_eq_true, Bool.not_eq_false, Bool.true_eq_false, Bool.false_eq_true, not_false_eq_true, not_true_eq_false] at h65)
                        have hgi := Ent.good_idx h65
                        (try dsimp only at hgi)
                        refine HO_fieldAddr (r := 0) rfl rfl rfl Try.underlying61 rfl Try.sizeOf3 rfl ?_
                        refine HO_load1 (i := 0) (j := 0) rfl rfl rfl Try.isAgg3 rfl (.loc _ _ _) rfl rfl ?_
                        refine HO_fieldAddr (r := 4) rfl rfl rfl Try.underlying53 rfl Try.sizeOf3 rfl ?_
                        refine HO_load1 (i := 3) (j := 4) rfl rfl rfl Try.isAgg3 rfl (.loc _ _ _) rfl rfl ?_
                        refine HO_bin rfl rfl rfl rfl (bin_sub ?_ ?_) ?_
                        · omega
                        · omega
                        refine HO_move rfl rfl rfl ?_
                        refine HO_bin rfl rfl rfl rfl (bin_add ?_ ?_) ?_
                        · omega
                        · omega
                        refine HO_bin rfl rfl rfl rfl bin_neq ?_
                        refine HO_pick_f rfl rfl rfl rfl ?_
                        refine HO_move rfl rfl rfl ?_
                        refine HO_split (d := 75) rfl ?_ ?_
                        · intro h75
                          (try simp only [decide_eq_true_eq, decide_eq_false_iff_not, Bool.not_eq_true', Bool.not_eq_false', Bool.not_eq_true, Bool.not_eq_false, Bool.true_eq_false, Bool.false_eq_true, not_false_eq_true, not_true_eq_false] at h75)
                          refine HO_no rfl rfl rfl ?_
                          refine HO_no rfl rfl rfl ?_
                          refine HO_no rfl rfl rfl ?_
                          refine HO_no rfl rfl rfl ?_
                          refine HO_no rfl rfl rfl ?_
                          refine HO_pick_t rfl rfl rfl rfl ?_
                          refine HO_nil ?_
                          refine H_env (ρ' := [(81, _), (1, _), (55, _), (56, _), (57, _)]) ⟨rfl, rfl, rfl, rfl, rfl, trivial⟩ ?_
                          refine H_world (fun _ hA => hA.drop (is := [0, 1, 2]) (Y := [_, _, _]) (Z := [_, _, _, _, _]) rfl) ?_
                          refine H_cond rfl (fun _ => ?_) (fun h => nomatch h)
                          refine H_seq ?_
                          -- R17 entry.go:204
                          refine H_region (l := [_]) rfl ?_
                          refine HO_assign rfl rfl rfl ?_
                          refine HO_nil ?_
                          refine H_env (ρ' := [(2, _)]) ⟨rfl, trivial⟩ ?_
                          refine H_world (fun _ hA => hA.drop (is := [0, 1, 2, 3, 4]) (Y := [_, _, _, _, _]) (Z := []) rfl) ?_
                          -- end18
                          refine H_ret1 Try.results60 (.tmp rfl) (fun w hA => ⟨(), congrArg Ending.returned ?_, ?_, ?_⟩)
                          · (first | exact congrArg Value.bool (Ent.goodMsg_no (m := ⟨mk, mf, mt, me, mi, ml, mc, mr, rj, hi, es, ⟨ix, te, ⟨vo, le⟩, da⟩⟩) (by dsimp only; omega)) | (exact congrArg Value.bool (hD.trans (by rw [Ent.ok_no hz60 hI.2 (.inl h65)]; rfl)).symm) | (exact congrArg Value.bool (hD.trans (by rw [Ent.ok_no hz60 hI.2 (.inr (.inl h75))]; rfl)).symm) | (exact congrArg Value.bool (hD.trans (by rw [Ent.ok_no hz60 hI.2 (.inr (.inr (by omega)))]; rfl)).symm) | (exact congrArg Value.bool (hD.trans (by rw [hok, Bool.true_and, if_pos h85])).symm) | (exact congrArg Value.bool (hD.trans (by rw [hok, Bool.true_and, if_neg h85]; first | (simp [Ent.emptyS, *]; done) | (simp_all [Ent.emptyS]; done))).symm))
                          · trivial
                          · exact hA.only (is := []) (Z := []) rfl
                        · intro h75
                          (try simp only [decide_eq_true_eq, decide_eq_false_iff_not, Bool.not_eq_true', Bool.not_eq_false', Bool.not_eq_true, Bool.not_eq_false, Bool.true_eq_false, Bool.false_eq_true, not_false_eq_true, not_true_eq_false] at h75)
                          refine HO_fieldAddr (r := 1) rfl rfl rfl Try.underlying61 rfl Try.sizeOf3 rfl ?_
                          refine HO_load1 (i := 0) (j := 1) rfl rfl rfl Try.isAgg3 rfl (.loc _ _ _) rfl rfl ?_
                          refine HO_fieldAddr (r := 3) rfl rfl rfl Try.underlying53 rfl Try.sizeOf3 rfl ?_
                          refine HO_load1 (i := 3) (j := 3) rfl rfl rfl Try.isAgg3 rfl (.loc _ _ _) rfl rfl ?_
                          refine HO_bin rfl rfl rfl rfl bin_gtr ?_
                          refine HO_pick_f rfl rfl rfl rfl ?_
                          refine HO_nil ?_
                          refine H_env (ρ' := [(81, _), (1, _), (55, _), (56, _), (57, _)]) ⟨rfl, rfl, rfl, rfl, rfl, trivial⟩ ?_
                          refine H_world (fun _ hA => hA.drop (is := [0, 1, 2]) (Y := [_, _, _]) (Z := [_, _, _, _, _]) rfl) ?_
                          refine H_cond rfl ?_ ?_
                          · intro h81
                            (try simp only [decide_eq_true_eq, decide_eq_false_iff_not, Bool.not_eq_true', Bool.not_eq_false', Bool.not_eq_true, Bool.not_eq_false, Bool.true_eq_false, Bool.false_eq_true, not_false_eq_true, not_true_eq_false] at h81)
                            refine H_seq ?_
                            -- R17 entry.go:204
                            refine H_region (l := [_]) rfl ?_
                            refine HO_assign rfl rfl rfl ?_
                            refine HO_nil ?_
                            refine H_env (ρ' := [(2, _)]) ⟨rfl, trivial⟩ ?_
                            refine H_world (fun _ hA => hA.drop (is := [0, 1, 2, 3, 4]) (Y := [_, _, _, _, _]) (Z := []) rfl) ?_
                            -- end19
                            refine H_ret1 Try.results60 (.tmp rfl) (fun w hA => ⟨(), congrArg Ending.returned ?_, ?_, ?_⟩)
                            · (first | exact congrArg Value.bool (Ent.goodMsg_no (m := ⟨mk, mf, mt, me, mi, ml, mc, mr, rj, hi, es, ⟨ix, te, ⟨vo, le⟩, da⟩⟩) (by dsimp only; omega)) | (exact congrArg Value.bool (hD.trans (by rw [Ent.ok_no hz60 hI.2 (.inl h65)]; rfl)).symm) | (exact congrArg Value.bool (hD.trans (by rw [Ent.ok_no hz60 hI.2 (.inr (.inl h75))]; rfl)).symm) | (exact congrArg Value.bool (hD.trans (by rw [Ent.ok_no hz60 hI.2 (.inr (.inr (by omega)))]; rfl)).symm) | (exact congrArg Value.bool (hD.trans (by rw [hok, Bool.true_and, if_pos h85])).symm) | (exact congrArg Value.bool (hD.trans (by rw [hok, Bool.true_and, if_neg h85]; first | (simp [Ent.emptyS, *]; done) | (simp_all [Ent.emptyS]; done))).symm))
                            · trivial
                            · exact hA.only (is := []) (Z := []) rfl
                          · intro h81
                            (try simp only [decide_eq_true_eq, decide_eq_false_iff_not, Bool.not_eq_true', Bool.not_eq_false', Bool.not_eq_true, Bool.not_eq_false, Bool.true_eq_false, Bool.false_eq_true, not_false_eq_true, not_true_eq_false] at h81)
                            refine H_skip ?_
                            refine H_blk ?_
                            -- R18 entry.go:202
                            refine H_region (l := [_, _]) rfl ?_
                            refine HO_bin rfl rfl rfl rfl (bin_add ?_ ?_) ?_
                            · omega
                            · omega
                            refine HO_move rfl rfl rfl ?_
                            refine HO_nil ?_
                            refine H_env (ρ' := [(57, _), (1, _), (55, _), (56, _)]) ⟨rfl, rfl, rfl, rfl, trivial⟩ ?_
                            refine H_inv (fun a w hf hA => ⟨i + 1, ?_, ?_, hf.sub ?_, ?_⟩)
                            · exact ⟨by omega, Ent.ok_next hz60 hI.2 h65 (by omega) (by omega)⟩
                            · (try dsimp only); omega
                            · exact ⟨rfl, rfl, rfl, rfl, trivial⟩
                            · exact hA.only (is := [0, 1, 2, 3, 4]) (Z := []) rfl
                    · intro h58
                      (try simp only [decide_eq_true_eq, decide_eq_false_iff_not, Bool.not_eq_true', Bool.not_eq_false', Bool.not_eq_true, Bool.not_eq_false, Bool.true_eq_false, Bool.false_eq_true, not_false_eq_true, not_true_eq_false] at h58)
                      refine H_exit rfl ?_
                      refine H_seq ?_
                      refine H_seq ?_
                      -- R19 entry.go:207
                      have hok := Ent.ok_end hI.2 (by omega)
                      refine H_region (l := [_, _, _]) rfl ?_
                      refine HO_fieldAddr (r := 0) rfl rfl rfl Try.underlying53 rfl Try.sizeOf3 rfl ?_
                      refine HO_load1 (i := 0) (j := 0) rfl rfl rfl Try.isAgg3 rfl (.loc _ _ _) rfl rfl ?_
                      refine HO_bin rfl rfl rfl rfl bin_eql ?_
                      refine HO_nil ?_
                      refine H_env (ρ' := [(85, _), (1, _)]) ⟨rfl, rfl, trivial⟩ ?_
                      refine H_cond rfl ?_ ?_
                      · intro h85
                        (try simp only [decide_eq_true_eq, decide_eq_false_iff_not, Bool.not_eq_true', Bool.not_eq_false', Bool.not_eq_true, Bool.not_eq_false, Bool.true_eq_false, Bool.false_eq_true, not_false_eq_true, not_true_eq_false] at h85)
                        refine H_seq ?_
                        -- R20 entry.go:208
                        refine H_region (l := [_, _, _, _]) rfl ?_
                        refine HO_fieldAddr (r := 11) rfl rfl rfl Try.underlying53 rfl Try.sizeOf47 rfl ?_
                        refine HO_loadA (i := 0) (us := [_, _, _, _, _, _, _, _, _, _, _]) (cs := [_, _, _, _, _]) (ts := []) rfl rfl rfl Try.isAgg47 Try.sizeOf47 rfl (.loc _ _ _) rfl rfl rfl rfl ?_
                        refine HO_dup (i := 2) rfl rfl ?_
                        refine HO_dup (i := 4) rfl rfl ?_
                        refine HO_dup (i := 6) rfl rfl ?_
                        refine HO_call (first := []) (capt := []) (is := [0, 0, 0]) (R := [_, _, _, _, _]) rfl rfl rfl rfl rfl Try.call32 rfl (goodsnap_spec _ _ _ _ _ _ _ _ _ _ _) ?_
                        intro y88 hy88
                        clear y88 hy88
                        refine HO_assign rfl rfl rfl ?_
                        refine HO_nil ?_
                        refine H_env (ρ' := [(2, _)]) ⟨rfl, trivial⟩ ?_
                        refine H_world (fun _ hA => hA.drop (is := [0, 1, 2, 3, 4]) (Y := [_, _, _, _, _]) (Z := []) rfl) ?_
                        -- end20
                        refine H_ret1 Try.results60 (.tmp rfl) (fun w hA => ⟨(), congrArg Ending.returned ?_, ?_, ?_⟩)
                        · (first | exact congrArg Value.bool (Ent.goodMsg_no (m := ⟨mk, mf, mt, me, mi, ml, mc, mr, rj, hi, es, ⟨ix, te, ⟨vo, le⟩, da⟩⟩) (by dsimp only; omega)) | (exact congrArg Value.bool (hD.trans (by rw [Ent.ok_no hz60 hI.2 (.inl h65)]; rfl)).symm) | (exact congrArg Value.bool (hD.trans (by rw [Ent.ok_no hz60 hI.2 (.inr (.inl h75))]; rfl)).symm) | (exact congrArg Value.bool (hD.trans (by rw [Ent.ok_no hz60 hI.2 (.inr (.inr (by omega)))]; rfl)).symm) | (exact congrArg Value.bool (hD.trans (by rw [hok, Bool.true_and, if_pos h85])).symm) | (exact congrArg Value.bool (hD.trans (by rw [hok, Bool.true_and, if_neg h85]; first | (simp [Ent.emptyS, *]; done) | (simp_all [Ent.emptyS]; done))).symm))
                        · trivial
                        · exact hA.only (is := []) (Z := []) rfl
                      · intro h85
                        (try simp only [decide_eq_true_eq, decide_eq_false_iff_not, Bool.not_eq_true', Bool.not_eq_false', Bool.not_eq_true, Bool.not_eq_false, Bool.true_eq_false, Bool.false_eq_true, not_false_eq_true, not_true_eq_false] at h85)
                        refine H_skip ?_
                        refine H_seq ?_
                        -- R21 entry.go:210
                        refine H_region (l := [_, _, _, _]) rfl ?_
                        refine HO_fieldAddr (r := 11) rfl rfl rfl Try.underlying53 rfl Try.sizeOf47 rfl ?_
                        refine HO_loadA (i := 0) (us := [_, _, _, _, _, _, _, _, _, _, _]) (cs := [_, _, _, _, _]) (ts := []) rfl rfl rfl Try.isAgg47 Try.sizeOf47 rfl (.loc _ _ _) rfl rfl rfl rfl ?_
                        refine HO_alloc (cs := [_, _, _, _, _]) rfl rfl Try.zeroValue47 rfl ?_
                        intro g6
                        refine HO_store (i := 0) (j := 0) (us := []) (old := [_, _, _, _, _]) (ts := []) (cs := [_, _, _, _, _]) (R := [_, _, _, _, _]) (new := [_, _, _, _, _]) rfl rfl rfl Try.sizeOf47 rfl (by simp [Value.oneCell']) rfl rfl rfl rfl rfl rfl ?_
                        refine HO_nil ?_
                        refine H_env (ρ' := [(6, _)]) ⟨rfl, trivial⟩ ?_
                        refine H_world (fun _ hA => hA.drop (is := [1, 2]) (Y := [_, _]) (Z := [_, _, _, _]) rfl) ?_
                        refine H_seq ?_
                        -- R22 entry.go:211
                        refine H_region (l := [_, _, _, _, _, _, _, _, _, _, _, _, _, _, _, _, _, _, _, _]) rfl ?_
                        refine HO_fieldAddr (r := 0) rfl rfl rfl Try.underlying47 rfl Try.sizeOf3 rfl ?_
                        refine HO_load1 (i := 0) (j := 0) rfl rfl rfl Try.isAgg3 rfl (.loc _ _ _) rfl rfl ?_
                        refine HO_bin rfl rfl rfl rfl bin_eql ?_
                        refine HO_move rfl rfl rfl ?_
                        refine HO_split (d := 94) rfl ?_ ?_
                        · intro h94
                          (try simp only [decide_eq_true_eq, decide_eq_false_iff_not, Bool.not_eq_true', Bool.not_eq_false', Bool.not_eq_true, Bool.not_eq_false, Bool.true_eq_false, Bool.false_eq_true, not_false_eq_true, not_true_eq_false] at h94)
                          refine HO_fieldAddr (r := 1) rfl rfl rfl Try.underlying47 rfl Try.sizeOf3 rfl ?_
                          refine HO_load1 (i := 0) (j := 1) rfl rfl rfl Try.isAgg3 rfl (.loc _ _ _) rfl rfl ?_
                          refine HO_bin rfl rfl rfl rfl bin_eql ?_
                          refine HO_pick_t rfl rfl rfl rfl ?_
                          refine HO_move rfl rfl rfl ?_
                          refine HO_split (d := 99) rfl ?_ ?_
                          · intro h99
                            (try simp only [decide_eq_true_eq, decide_eq_false_iff_not, Bool.not_eq_true', Bool.not_eq_false', Bool.not_eq_true, Bool.not_eq_false, Bool.true_eq_false, Bool.false_eq_true, not_false_eq_true, not_true_eq_false] at h99)
                            refine HO_fieldAddr (r := 2) rfl rfl rfl Try.underlying47 rfl Try.sizeOf45 rfl ?_
                            refine HO_loadA (i := 0) (us := [_, _]) (cs := [_, _]) (ts := [_]) rfl rfl rfl Try.isAgg45 Try.sizeOf45 rfl (.loc _ _ _) rfl rfl rfl rfl ?_
                            refine HO_dup (i := 1) rfl rfl ?_
                            refine HO_dup (i := 3) rfl rfl ?_
                            refine HO_call (first := []) (capt := []) (is := [0, 0]) (R := [_, _, _, _]) rfl rfl rfl rfl rfl Try.call89 rfl (none_spec _ _ _ _ _ _ ?_ ?_) ?_
                            · (dsimp only [BIG]; omega)
                            · (dsimp only [BIG]; omega)
                            intro y102 hy102
                            clear y102 hy102
                            refine HO_pick_t rfl rfl rfl rfl ?_
                            refine HO_move rfl rfl rfl ?_
                            refine HO_split (d := 104) rfl ?_ ?_
                            · intro h104
                              (try simp only [decide_eq_true_eq, decide_eq_false_iff_not, Bool.not_eq_true', Bool.not_eq_false', Bool.not_eq_true, Bool.not_eq_false, Bool.true_eq_false, Bool.false_eq_true, not_false_eq_true, not_true_eq_false] at h104)
                              refine HO_fieldAddr (r := 4) rfl rfl rfl Try.underlying47 rfl Try.sizeOf28 rfl ?_
                              refine HO_load1 (i := 0) (j := 4) rfl rfl rfl Try.isAgg28 rfl (.loc _ _ _) rfl rfl ?_
                              refine HO_bi rfl rfl rfl (bi_len_sl Try.underlying28) ?_
                              refine HO_bin rfl rfl rfl rfl bin_eql ?_
                              refine HO_pick_t rfl rfl rfl rfl ?_
                              refine HO_assign rfl rfl rfl ?_
                              refine HO_nil ?_
                              refine H_env (ρ' := [(2, _)]) ⟨rfl, trivial⟩ ?_
                              refine H_world (fun _ hA => hA.drop (is := [0, 1, 2, 3]) (Y := [_, _, _, _]) (Z := []) rfl) ?_
                              -- end21
                              refine H_ret1 Try.results60 (.tmp rfl) (fun w hA => ⟨(), congrArg Ending.returned ?_, ?_, ?_⟩)
                              · (first | exact congrArg Value.bool (Ent.goodMsg_no (m := ⟨mk, mf, mt, me, mi, ml, mc, mr, rj, hi, es, ⟨ix, te, ⟨vo, le⟩, da⟩⟩) (by dsimp only; omega)) | (exact congrArg Value.bool (hD.trans (by rw [Ent.ok_no hz60 hI.2 (.inl h65)]; rfl)).symm) | (exact congrArg Value.bool (hD.trans (by rw [Ent.ok_no hz60 hI.2 (.inr (.inl h75))]; rfl)).symm) | (exact congrArg Value.bool (hD.trans (by rw [Ent.ok_no hz60 hI.2 (.inr (.inr (by omega)))]; rfl)).symm) | (exact congrArg Value.bool (hD.trans (by rw [hok, Bool.true_and, if_pos h85])).symm) | (exact congrArg Value.bool (hD.trans (by rw [hok, Bool.true_and, if_neg h85]; first | (simp [Ent.emptyS, *]; done) | (simp_all [Ent.emptyS]; done))).symm))
                              · trivial
                              · exact hA.only (is := []) (Z := []) rfl
                            · intro h104
                              (try simp only [decide_eq_true_eq, decide_eq_false_iff_not, Bool.not_eq_true', Bool.not_eq_false', Bool.not_eq_true, Bool.not_eq_false, Bool.true_eq_false, Bool.false_eq_true, not_false_eq_true, not_true_eq_false] at h104)
                              refine HO_no rfl rfl rfl ?_
                              refine HO_no rfl rfl rfl ?_
                              refine HO_no rfl rfl rfl ?_
                              refine HO_no rfl rfl rfl ?_
                              refine HO_pick_f rfl rfl rfl rfl ?_
                              refine HO_assign rfl rfl rfl ?_
                              refine HO_nil ?_
                              refine H_env (ρ' := [(2, _)]) ⟨rfl, trivial⟩ ?_
                              refine H_world (fun _ hA => hA.drop (is := [0, 1, 2, 3]) (Y := [_, _, _, _]) (Z := []) rfl) ?_
                              -- end22
                              refine H_ret1 Try.results60 (.tmp rfl) (fun w hA => ⟨(), congrArg Ending.returned ?_, ?_, ?_⟩)
                              · (first | exact congrArg Value.bool (Ent.goodMsg_no (m := ⟨mk, mf, mt, me, mi, ml, mc, mr, rj, hi, es, ⟨ix, te, ⟨vo, le⟩, da⟩⟩) (by dsimp only; omega)) | (exact congrArg Value.bool (hD.trans (by rw [Ent.ok_no hz60 hI.2 (.inl h65)]; rfl)).symm) | (exact congrArg Value.bool (hD.trans (by rw [Ent.ok_no hz60 hI.2 (.inr (.inl h75))]; rfl)).symm) | (exact congrArg Value.bool (hD.trans (by rw [Ent.ok_no hz60 hI.2 (.inr (.inr (by omega)))]; rfl)).symm) | (exact congrArg Value.bool (hD.trans (by rw [hok, Bool.true_and, if_pos h85])).symm) | (exact congrArg Value.bool (hD.trans (by rw [hok, Bool.true_and, if_neg h85]; first | (simp [Ent.emptyS, *]; done) | (simp_all [Ent.emptyS]; done))).symm))
                              · trivial
                              · exact hA.only (is := []) (Z := []) rfl
                          · intro h99
                            (try simp only [decide_eq_true_eq, decide_eq_false_iff_not, Bool.not_eq_true', Bool.not_eq_false', Bool.not_eq_true, Bool.not_eq_false, Bool.true_eq_false, Bool.false_eq_true, not_false_eq_true, not_true_eq_false] at h99)
                            refine HO_no rfl rfl rfl ?_
                            refine HO_no rfl rfl rfl ?_
                            refine HO_no rfl rfl rfl ?_
                            refine HO_pick_f rfl rfl rfl rfl ?_
                            refine HO_move rfl rfl rfl ?_
                            refine HO_no rfl rfl rfl ?_
                            refine HO_no rfl rfl rfl ?_
                            refine HO_no rfl rfl rfl ?_
                            refine HO_no rfl rfl rfl ?_
                            refine HO_pick_f rfl rfl rfl rfl ?_
                            refine HO_assign rfl rfl rfl ?_
                            refine HO_nil ?_
                            refine H_env (ρ' := [(2, _)]) ⟨rfl, trivial⟩ ?_
                            refine H_world (fun _ hA => hA.drop (is := [0, 1, 2, 3]) (Y := [_, _, _, _]) (Z := []) rfl) ?_
                            -- end23
                            refine H_ret1 Try.results60 (.tmp rfl) (fun w hA => ⟨(), congrArg Ending.returned ?_, ?_, ?_⟩)
                            · (first | exact congrArg Value.bool (Ent.goodMsg_no (m := ⟨mk, mf, mt, me, mi, ml, mc, mr, rj, hi, es, ⟨ix, te, ⟨vo, le⟩, da⟩⟩) (by dsimp only; omega)) | (exact congrArg Value.bool (hD.trans (by rw [Ent.ok_no hz60 hI.2 (.inl h65)]; rfl)).symm) | (exact congrArg Value.bool (hD.trans (by rw [Ent.ok_no hz60 hI.2 (.inr (.inl h75))]; rfl)).symm) | (exact congrArg Value.bool (hD.trans (by rw [Ent.ok_no hz60 hI.2 (.inr (.inr (by omega)))]; rfl)).symm) | (exact congrArg Value.bool (hD.trans (by rw [hok, Bool.true_and, if_pos h85])).symm) | (exact congrArg Value.bool (hD.trans (by rw [hok, Bool.true_and, if_neg h85]; first | (simp [Ent.emptyS, *]; done) | (simp_all [Ent.emptyS]; done))).symm))
                            · trivial
                            · exact hA.only (is := []) (Z := []) rfl
                        · intro h94
                          (try simp only [decide_eq_true_eq, decide_eq_false_iff_not, Bool.not_eq_true', Bool.not_eq_false', Bool.not_eq_true, Bool.not_eq_false, Bool.true_eq_false, Bool.false_eq_true, not_false_eq_true, not_true_eq_false] at h94)
                          refine HO_no rfl rfl rfl ?_
                          refine HO_no rfl rfl rfl ?_
                          refine HO_no rfl rfl rfl ?_
                          refine HO_pick_f rfl rfl rfl rfl ?_
                          refine HO_move rfl rfl rfl ?_
                          refine HO_no rfl rfl rfl ?_
                          refine HO_no rfl rfl rfl ?_
                          refine HO_no rfl rfl rfl ?_
                          refine HO_pick_f rfl rfl rfl rfl ?_
                          refine HO_move rfl rfl rfl ?_
                          refine HO_no rfl rfl rfl ?_
                          refine HO_no rfl rfl rfl ?_
                          refine HO_no rfl rfl rfl ?_
                          refine HO_no rfl rfl rfl ?_
                          refine HO_pick_f rfl rfl rfl rfl ?_
                          refine HO_assign rfl rfl rfl ?_
                          refine HO_nil ?_
                          refine H_env (ρ' := [(2, _)]) ⟨rfl, trivial⟩ ?_
                          refine H_world (fun _ hA => hA.drop (is := [0, 1, 2, 3]) (Y := [_, _, _, _]) (Z := []) rfl) ?_
                          -- end24
                          refine H_ret1 Try.results60 (.tmp rfl) (fun w hA => ⟨(), congrArg Ending.returned ?_, ?_, ?_⟩)
                          · (first | exact congrArg Value.bool (Ent.goodMsg_no (m := ⟨mk, mf, mt, me, mi, ml, mc, mr, rj, hi, es, ⟨ix, te, ⟨vo, le⟩, da⟩⟩) (by dsimp only; omega)) | (exact congrArg Value.bool (hD.trans (by rw [Ent.ok_no hz60 hI.2 (.inl h65)]; rfl)).symm) | (exact congrArg Value.bool (hD.trans (by rw [Ent.ok_no hz60 hI.2 (.inr (.inl h75))]; rfl)).symm) | (exact congrArg Value.bool (hD.trans (by rw [Ent.ok_no hz60 hI.2 (.inr (.inr (by omega)))]; rfl)).symm) | (exact congrArg Value.bool (hD.trans (by rw [hok, Bool.true_and, if_pos h85])).symm) | (exact congrArg Value.bool (hD.trans (by rw [hok, Bool.true_and, if_neg h85]; first | (simp [Ent.emptyS, *]; done) | (simp_all [Ent.emptyS]; done))).symm))
                          · trivial
                          · exact hA.only (is := []) (Z := []) rfl
theorem like_spec (es es2 : List Ent) (a9 : Option Addr) (c9 : Nat) (a92 : Option Addr) (c92 : Nat)  : Spec Try.prog 115 #[.slice a9 (es.length) c9, .slice a92 (es2.length) c92] [.dat kEnt.sl (es) [.slice a9 (es.length) c9], .dat kEnt.sl (es2) [.slice a92 (es2.length) c92]] (β := Unit) (fun y => .bool (decide (es = es2))) (fun y => True) (fun y => []) := by
  refine Spec.enter (vs := [_, _]) Try.func115 rfl Try.ntmps115 rfl (Nat.le_of_ble_eq_true rfl) (fun w0 ok0 => ?_)
  generalize hM0 : blks _ = M0
  have hMn : ∀ {R : List Atom} (b : Nat), M0 b → blks R b := fun b hb => absurd (hM0 ▸ hb) (blks_none (by simp [Atom.dat, Atom.elem]) b)
  refine H_len_le (i := 0) rfl ?_
  intro hlen0
  refine H_len_le (i := 1) rfl ?_
  intro hlen1
  refine H_seq ?_
  -- R0 ref.go:55
  refine H_region (l := [_]) rfl ?_
  refine HO_assign rfl rfl rfl ?_
  refine HO_nil ?_
  refine H_env (ρ' := [(0, _), (1, _)]) ⟨rfl, rfl, trivial⟩ ?_
  refine H_seq ?_
  refine H_seq ?_
  -- R1 ref.go:56
  refine H_region (l := [_, _, _, _, _]) rfl ?_
  refine HO_move rfl rfl rfl ?_
  refine HO_bi rfl rfl rfl (bi_len_sl Try.underlying51) ?_
  refine HO_move rfl rfl rfl ?_
  refine HO_bi rfl rfl rfl (bi_len_sl Try.underlying51) ?_
  refine HO_bin rfl rfl rfl rfl bin_neq ?_
  refine HO_nil ?_
  refine H_env (ρ' := [(10, _), (0, _), (1, _)]) ⟨rfl, rfl, rfl, trivial⟩ ?_
  refine H_cond rfl ?_ ?_
  · intro h10
    (try simp only [decide_eq_true_eq, decide_eq_false_iff_not, Bool.not_eq_true', Bool.not_eq_false', Bool.not_eq_true, Bool.not_eq_false, Bool.true_eq_false, Bool.false_eq_true, not_false_eq_true, not_true_eq_false] at h10)
    refine H_seq ?_
    -- R2 ref.go:57
    refine H_region (l := [_]) rfl ?_
    refine HO_assign rfl rfl rfl ?_
    refine HO_nil ?_
    refine H_env (ρ' := [(4, _)]) ⟨rfl, trivial⟩ ?_
    refine H_world (fun _ hA => hA.drop (is := [0, 1]) (Y := [_, _]) (Z := []) rfl) ?_
    -- end1
    refine H_ret1 Try.results115 (.tmp rfl) (fun w hA => ⟨(), congrArg Ending.returned ?_, ?_, ?_⟩)
    · (first | exact congrArg Value.bool (Ent.same_no hz18 hz22 h25).symm | exact congrArg Value.bool (Ent.same_yes hl hI).symm | exact congrArg Value.bool (Ent.same_len h10).symm)
    · trivial
    · exact hA.only (is := []) (Z := []) rfl
  · intro h10
    (try simp only [decide_eq_true_eq, decide_eq_false_iff_not, Bool.not_eq_true', Bool.not_eq_false', Bool.not_eq_true, Bool.not_eq_false, Bool.true_eq_false, Bool.false_eq_true, not_false_eq_true, not_true_eq_false] at h10)
    have hl : es.length = es2.length := by omega
    refine H_skip ?_
    refine H_seq ?_
    refine H_seq ?_
    -- R3 ref.go:59
    refine H_region (l := [_, _, _]) rfl ?_
    refine HO_move rfl rfl rfl ?_
    refine HO_bi rfl rfl rfl (bi_len_sl Try.underlying51) ?_
    refine HO_move rfl rfl rfl ?_
    refine HO_nil ?_
    refine H_env (ρ' := [(13, _), (12, _), (0, _), (1, _)]) ⟨rfl, rfl, rfl, rfl, trivial⟩ ?_
    refine H_block ?_
    refine H_loop (σ := Nat) (fun s => s ≤ es.length ∧ es.take s = es2.take s) (fun s => [(0, .slice a9 (es.length) c9), (1, .slice a92 (es2.length) c92), (12, .int .i64 ((es.length : Int))), (13, .int .i64 ((s : Int)))]) (fun s => Asn w0 ok0 M0 [.dat kEnt.sl (es) [.slice a9 (es.length) c9], .dat kEnt.sl (es2) [.slice a92 (es2.length) c92]]) (fun s => es.length - s) 0 ?_ ?_ ?_ ?_
    · exact ⟨Nat.zero_le _, by simp⟩
    · exact ⟨rfl, rfl, rfl, rfl, trivial⟩
    · intro w hA
      exact hA.only (is := [0, 1]) (Z := []) rfl
    · intro i hI
      (try dsimp only at hI ⊢)
      refine H_seq ?_
      -- R4 ref.go:59
      refine H_region (l := [_]) rfl ?_
      refine HO_bin rfl rfl rfl rfl bin_lss ?_
      refine HO_nil ?_
      refine H_seq ?_
      refine H_cond rfl ?_ ?_
      · intro h14
        (try simp only [decide_eq_true_eq, decide_eq_false_iff_not, Bool.not_eq_true', Bool.not_eq_false', Bool.not_eq_true, Bool.not_eq_false, Bool.true_eq_false, Bool.false_eq_true, not_false_eq_true, not_true_eq_false] at h14)
        refine H_skip ?_
        refine H_seq ?_
        refine H_block ?_
        refine H_seq ?_
        -- R5 ref.go:59
        refine H_region (l := [_, _]) rfl ?_
        refine HO_move rfl rfl rfl ?_
        refine HO_assign rfl rfl rfl ?_
        refine HO_nil ?_
        refine H_env (ρ' := [(5, _), (0, _), (1, _), (12, _), (13, _)]) ⟨rfl, rfl, rfl, rfl, rfl, trivial⟩ ?_
        refine H_seq ?_
        -- R6 ref.go:60 draws
        refine H_draw (is := [0, 1]) (Xs := [_, _]) (Z := []) (fuel := 10) (l := #[false, false, false, false, false, false, false, false, false, false]) mixed rfl rfl rfl ?_
        refine HA_take (i := 0) (listed' := #[true, false, false, false, false, false, false, false, false, false]) (bodyPost_pan _ _ _) rfl rfl rfl rfl (by kernel_rfl) rfl (V_move rfl) (fun _ hA => hA.only (is := [0, 1]) (Y := [_, _]) (Z := []) rfl) ?_
        refine HA_take (i := 1) (listed' := #[true, true, false, false, false, false, false, false, false, false]) (bodyPost_pan _ _ _) rfl rfl rfl rfl (by kernel_rfl) rfl (V_move rfl) (fun _ hA => hA.only (is := [0, 1]) (Y := [_, _]) (Z := []) rfl) ?_
        refine HA_take (i := 4) (listed' := #[true, true, false, false, true, false, false, false, false, false]) (bodyPost_pan _ _ _) rfl rfl rfl rfl (by kernel_rfl) rfl (V_move rfl) (fun _ hA => hA.only (is := [0, 1]) (Y := [_, _]) (Z := []) rfl) ?_
        refine HA_take (i := 5) (listed' := #[true, true, false, false, true, true, false, false, false, false]) (bodyPost_pan _ _ _) rfl rfl rfl rfl (by kernel_rfl) rfl (V_move rfl) (fun _ hA => hA.only (is := [0, 1]) (Y := [_, _]) (Z := []) rfl) ?_
        refine HA_loud2 (i := 2) (j := 6) (by kernel_rfl) rfl rfl ?_ ?_
        · refine HO_indexAddr open_Ent (i := 0) rfl rfl rfl rfl rfl Try.underlying51 Try.sizeOf61 rfl ?_ ?_
          · omega
          intro b18 o18 z18 y18 hz18 hI18
          (try simp only [BIG] at hI18)
          refine HA_back (listed' := #[true, true, true, false, true, true, false, false, false, false]) rfl (fun _ hA => hA.only (is := [3, 4]) (Y := [_, _]) (Z := [_, _, _]) rfl) ?_
          refine HA_loud2 (i := 3) (j := 6) (by kernel_rfl) rfl rfl ?_ ?_
          · refine HO_loadA (i := 0) (us := []) (cs := [_, _, _, _, _, _, _, _, _, _, _, _, _]) (ts := []) rfl rfl rfl Try.isAgg61 Try.sizeOf61 rfl (.elem _ _ _) rfl rfl rfl rfl ?_
            refine HA_back (listed' := #[true, true, true, true, true, true, false, false, false, false]) rfl (fun _ hA => hA.only (is := [3, 4]) (Y := [_, _]) (Z := [_, _, _]) rfl) ?_
            refine HA_loud1 (i := 6) (by kernel_rfl) rfl ?_
            refine HO_indexAddr open_Ent (i := 4) rfl rfl rfl rfl rfl Try.underlying51 Try.sizeOf61 rfl ?_ ?_
            · omega
            intro b22 o22 z22 y22 hz22 hI22
            (try simp only [BIG] at hI22)
            refine HA_back (listed' := #[true, true, true, true, true, true, true, false, false, false]) rfl (fun _ hA => hA.only (is := [6, 7]) (Y := [_, _]) (Z := [_, _, _, _, _, _]) rfl) ?_
            refine HA_loud1 (i := 7) (by kernel_rfl) rfl ?_
            refine HO_loadA (i := 0) (us := []) (cs := [_, _, _, _, _, _, _, _, _, _, _, _, _]) (ts := []) rfl rfl rfl Try.isAgg61 Try.sizeOf61 rfl (.elem _ _ _) rfl rfl rfl rfl ?_
            refine HA_back (listed' := #[true, true, true, true, true, true, true, true, false, false]) rfl (fun _ hA => hA.only (is := [6, 7]) (Y := [_, _]) (Z := [_, _, _, _, _, _]) rfl) ?_
            refine HA_loud1 (i := 8) (by kernel_rfl) rfl ?_
            refine HO_dup (i := 4) rfl rfl ?_
            refine HO_dup (i := 6) rfl rfl ?_
            refine HO_dup (i := 3) rfl rfl ?_
            refine HO_dup (i := 5) rfl rfl ?_
            refine HO_call (first := []) (capt := []) (is := [0, 0, 0, 0]) (R := [_, _, _, _, _, _, _, _]) rfl rfl rfl rfl rfl Try.call47 rfl (rentsame_spec _ _ _ _ _ _ _ _ _ _ _ _ _ _ _ _ _ _ _ _ _ _ _ _ _ _ _ _ _ _ _ _ _ _) ?_
            intro y24 hy24
            clear y24 hy24
            refine HA_back (listed' := #[true, true, true, true, true, true, true, true, true, false]) rfl (fun _ hA => hA.only (is := [6, 7]) (Y := [_, _]) (Z := [_, _, _, _, _, _]) rfl) ?_
            refine HA_take (i := 9) (listed' := #[true, true, true, true, true, true, true, true, true, true]) (bodyPost_pan _ _ _) rfl rfl rfl rfl (by kernel_rfl) rfl (V_not rfl) (fun _ hA => hA.only (is := [6, 7]) (Y := [_, _]) (Z := [_, _, _, _, _, _]) rfl) ?_
            refine HA_done (by kernel_rfl) ?_
            refine H_env (ρ' := [(25, _), (0, _), (1, _), (12, _), (13, _)]) ⟨rfl, rfl, rfl, rfl, rfl, trivial⟩ ?_
            refine H_world (fun _ hA => hA.drop (is := [0, 1, 2, 3, 4, 5]) (Y := [_, _, _, _, _, _]) (Z := [_, _]) rfl) ?_
            refine H_cond rfl ?_ ?_
            · intro h25
              (try simp only [decide_eq_true_eq, decide_eq_false_iff_not, Bool.not_eq_true', Bool.not_eq_false', Bool.not_eq_true, Bool.not_eq_false, Bool.true_eq_false, Bool.false_eq_true, not_false_eq_true, not_true_eq_false] at h25)
              refine H_seq ?_
              -- R7 ref.go:61
              refine H_region (l := [_]) rfl ?_
              refine HO_assign rfl rfl rfl ?_
              refine HO_nil ?_
              refine H_env (ρ' := [(4, _)]) ⟨rfl, trivial⟩ ?_
              refine H_world (fun _ hA => hA.drop (is := [0, 1]) (Y := [_, _]) (Z := []) rfl) ?_
              -- end2
              refine H_ret1 Try.results115 (.tmp rfl) (fun w hA => ⟨(), congrArg Ending.returned ?_, ?_, ?_⟩)
              · (first | exact congrArg Value.bool (Ent.same_no hz18 hz22 h25).symm | exact congrArg Value.bool (Ent.same_yes hl hI).symm | exact congrArg Value.bool (Ent.same_len h10).symm)
              · trivial
              · exact hA.only (is := []) (Z := []) rfl
            · intro h25
              (try simp only [decide_eq_true_eq, decide_eq_false_iff_not, Bool.not_eq_true', Bool.not_eq_false', Bool.not_eq_true, Bool.not_eq_false, Bool.true_eq_false, Bool.false_eq_true, not_false_eq_true, not_true_eq_false] at h25)
              refine H_skip ?_
              refine H_blk ?_
              -- R8 ref.go:59
              refine H_region (l := [_, _]) rfl ?_
              refine HO_bin rfl rfl rfl rfl (bin_add ?_ ?_) ?_
              · omega
              · omega
              refine HO_move rfl rfl rfl ?_
              refine HO_nil ?_
              refine H_env (ρ' := [(13, _), (0, _), (1, _), (12, _)]) ⟨rfl, rfl, rfl, rfl, trivial⟩ ?_
              refine H_inv (fun a w hf hA => ⟨i + 1, ?_, ?_, hf.sub ?_, ?_⟩)
              · exact ⟨by omega, Ent.same_next hz18 hz22 hI.2 h25⟩
              · (try dsimp only); omega
              · exact ⟨rfl, rfl, rfl, rfl, trivial⟩
              · exact hA.only (is := [0, 1]) (Z := []) rfl
          · refine HO_indexAddr open_Ent (i := 4) rfl rfl rfl rfl rfl Try.underlying51 Try.sizeOf61 rfl ?_ ?_
            · omega
            intro b22 o22 z22 y22 hz22 hI22
            (try simp only [BIG] at hI22)
            refine HA_back (listed' := #[true, true, true, false, true, true, true, false, false, false]) rfl (fun _ hA => hA.only (is := [6, 7]) (Y := [_, _]) (Z := [_, _, _, _, _, _]) rfl) ?_
            refine HA_loud2 (i := 3) (j := 7) (by kernel_rfl) rfl rfl ?_ ?_
            · refine HO_loadA (i := 3) (us := []) (cs := [_, _, _, _, _, _, _, _, _, _, _, _, _]) (ts := []) rfl rfl rfl Try.isAgg61 Try.sizeOf61 rfl (.elem _ _ _) rfl rfl rfl rfl ?_
              refine HA_back (listed' := #[true, true, true, true, true, true, true, false, false, false]) rfl (fun _ hA => hA.only (is := [6, 7]) (Y := [_, _]) (Z := [_, _, _, _, _, _]) rfl) ?_
              refine HA_loud1 (i := 7) (by kernel_rfl) rfl ?_
              refine HO_loadA (i := 0) (us := []) (cs := [_, _, _, _, _, _, _, _, _, _, _, _, _]) (ts := []) rfl rfl rfl Try.isAgg61 Try.sizeOf61 rfl (.elem _ _ _) rfl rfl rfl rfl ?_
              refine HA_back (listed' := #[true, true, true, true, true, true, true, true, false, false]) rfl (fun _ hA => hA.only (is := [6, 7]) (Y := [_, _]) (Z := [_, _, _, _, _, _]) rfl) ?_
              refine HA_loud1 (i := 8) (by kernel_rfl) rfl ?_
              refine HO_dup (i := 4) rfl rfl ?_
              refine HO_dup (i := 6) rfl rfl ?_
              refine HO_dup (i := 3) rfl rfl ?_
              refine HO_dup (i := 5) rfl rfl ?_
              refine HO_call (first := []) (capt := []) (is := [0, 0, 0, 0]) (R := [_, _, _, _, _, _, _, _]) rfl rfl rfl rfl rfl Try.call47 rfl (rentsame_spec _ _ _ _ _ _ _ _ _ _ _ _ _ _ _ _ _ _ _ _ _ _ _ _ _ _ _ _ _ _ _ _ _ _) ?_
              intro y24 hy24
              clear y24 hy24
              refine HA_back (listed' := #[true, true, true, true, true, true, true, true, true, false]) rfl (fun _ hA => hA.only (is := [6, 7]) (Y := [_, _]) (Z := [_, _, _, _, _, _]) rfl) ?_
              refine HA_take (i := 9) (listed' := #[true, true, true, true, true, true, true, true, true, true]) (bodyPost_pan _ _ _) rfl rfl rfl rfl (by kernel_rfl) rfl (V_not rfl) (fun _ hA => hA.only (is := [6, 7]) (Y := [_, _]) (Z := [_, _, _, _, _, _]) rfl) ?_
              refine HA_done (by kernel_rfl) ?_
              refine H_env (ρ' := [(25, _), (0, _), (1, _), (12, _), (13, _)]) ⟨rfl, rfl, rfl, rfl, rfl, trivial⟩ ?_
              refine H_world (fun _ hA => hA.drop (is := [0, 1, 2, 3, 4, 5]) (Y := [_, _, _, _, _, _]) (Z := [_, _]) rfl) ?_
              refine H_cond rfl ?_ ?_
              · intro h25
                (try simp only [decide_eq_true_eq, decide_eq_false_iff_not, Bool.not_eq_true', Bool.not_eq_false', Bool.not_eq_true, Bool.not_eq_false, Bool.true_eq_false, Bool.false_eq_true, not_false_eq_true, not_true_eq_false] at h25)
                refine H_seq ?_
                -- R7 ref.go:61
                refine H_region (l := [_]) rfl ?_
                refine HO_assign rfl rfl rfl ?_
                refine HO_nil ?_
                refine H_env (ρ' := [(4, _)]) ⟨rfl, trivial⟩ ?_
                refine H_world (fun _ hA => hA.drop (is := [0, 1]) (Y := [_, _]) (Z := []) rfl) ?_
                -- end3
                refine H_ret1 Try.results115 (.tmp rfl) (fun w hA => ⟨(), congrArg Ending.returned ?_, ?_, ?_⟩)
                · (first | exact congrArg Value.bool (Ent.same_no hz18 hz22 h25).symm | exact congrArg Value.bool (Ent.same_yes hl hI).symm | exact congrArg Value.bool (Ent.same_len h10).symm)
                · trivial
                · exact hA.only (is := []) (Z := []) rfl
              · intro h25
                (try simp only [decide_eq_true_eq, decide_eq_false_iff_not, Bool.not_eq_true', Bool.not_eq_false', Bool.not_eq_true, Bool.not_eq_false, Bool.true_eq_false, Bool.false_eq_true, not_false_eq_true, not_true_eq_false] at h25)
                refine H_skip ?_
                refine H_blk ?_
                -- R8 ref.go:59
                refine H_region (l := [_, _]) rfl ?_
                refine HO_bin rfl rfl rfl rfl (bin_add ?_ ?_) ?_
                · omega
                · omega
                refine HO_move rfl rfl rfl ?_
                refine HO_nil ?_
                refine H_env (ρ' := [(13, _), (0, _), (1, _), (12, _)]) ⟨rfl, rfl, rfl, rfl, trivial⟩ ?_
                refine H_inv (fun a w hf hA => ⟨i + 1, ?_, ?_, hf.sub ?_, ?_⟩)
                · exact ⟨by omega, Ent.same_next hz18 hz22 hI.2 h25⟩
                · (try dsimp only); omega
                · exact ⟨rfl, rfl, rfl, rfl, trivial⟩
                · exact hA.only (is := [0, 1]) (Z := []) rfl
            · refine HO_loadA (i := 0) (us := []) (cs := [_, _, _, _, _, _, _, _, _, _, _, _, _]) (ts := []) rfl rfl rfl Try.isAgg61 Try.sizeOf61 rfl (.elem _ _ _) rfl rfl rfl rfl ?_
              refine HA_back (listed' := #[true, true, true, false, true, true, true, true, false, false]) rfl (fun _ hA => hA.only (is := [6, 7]) (Y := [_, _]) (Z := [_, _, _, _, _, _]) rfl) ?_
              refine HA_loud1 (i := 3) (by kernel_rfl) rfl ?_
              refine HO_loadA (i := 3) (us := []) (cs := [_, _, _, _, _, _, _, _, _, _, _, _, _]) (ts := []) rfl rfl rfl Try.isAgg61 Try.sizeOf61 rfl (.elem _ _ _) rfl rfl rfl rfl ?_
              refine HA_back (listed' := #[true, true, true, true, true, true, true, true, false, false]) rfl (fun _ hA => hA.only (is := [6, 7]) (Y := [_, _]) (Z := [_, _, _, _, _, _]) rfl) ?_
              refine HA_loud1 (i := 8) (by kernel_rfl) rfl ?_
              refine HO_dup (i := 4) rfl rfl ?_
              refine HO_dup (i := 6) rfl rfl ?_
              refine HO_dup (i := 3) rfl rfl ?_
              refine HO_dup (i := 5) rfl rfl ?_
              refine HO_call (first := []) (capt := []) (is := [0, 0, 0, 0]) (R := [_, _, _, _, _, _, _, _]) rfl rfl rfl rfl rfl Try.call47 rfl (rentsame_spec _ _ _ _ _ _ _ _ _ _ _ _ _ _ _ _ _ _ _ _ _ _ _ _ _ _ _ _ _ _ _ _ _ _) ?_
              intro y24 hy24
              clear y24 hy24
              refine HA_back (listed' := #[true, true, true, true, true, true, true, true, true, false]) rfl (fun _ hA => hA.only (is := [6, 7]) (Y := [_, _]) (Z := [_, _, _, _, _, _]) rfl) ?_
              refine HA_take (i := 9) (listed' := #[true, true, true, true, true, true, true, true, true, true]) (bodyPost_pan _ _ _) rfl rfl rfl rfl (by kernel_rfl) rfl (V_not rfl) (fun _ hA => hA.only (is := [6, 7]) (Y := [_, _]) (Z := [_, _, _, _, _, _]) rfl) ?_
              refine HA_done (by kernel_rfl) ?_
              refine H_env (ρ' := [(25, _), (0, _), (1, _), (12, _), (13, _)]) ⟨rfl, rfl, rfl, rfl, rfl, trivial⟩ ?_
              refine H_world (fun _ hA => hA.drop (is := [0, 1, 2, 3, 4, 5]) (Y := [_, _, _, _, _, _]) (Z := [_, _]) rfl) ?_
              refine H_cond rfl ?_ ?_
              · intro h25
                (try simp only [decide_eq_true_eq, decide_eq_false_iff_not, Bool.not_eq_true', Bool.not_eq_false', Bool.not_eq_true, Bool.not_eq_false, Bool.true_eq_false, Bool.false_eq_true, not_false_eq_true, not_true_eq_false] at h25)
                refine H_seq ?_
                -- R7 ref.go:61
                refine H_region (l := [_]) rfl ?_
                refine HO_assign rfl rfl rfl ?_
                refine HO_nil ?_
                refine H_env (ρ' := [(4, _)]) ⟨rfl, trivial⟩ ?_
                refine H_world (fun _ hA => hA.drop (is := [0, 1]) (Y := [_, _]) (Z := []) rfl) ?_
                -- end4
                refine H_ret1 Try.results115 (.tmp rfl) (fun w hA => ⟨(), congrArg Ending.returned ?_, ?_, ?_⟩)
                · (first | exact congrArg Value.bool (Ent.same_no hz18 hz22 h25).symm | exact congrArg Value.bool (Ent.same_yes hl hI).symm | exact congrArg Value.bool (Ent.same_len h10).symm)
                · trivial
                · exact hA.only (is := []) (Z := []) rfl
              · intro h25
                (try simp only [decide_eq_true_eq, decide_eq_false_iff_not, Bool.not_eq_true', Bool.not_eq_false', Bool.not_eq_true, Bool.not_eq_false, Bool.true_eq_false, Bool.false_eq_true, not_false_eq_true, not_true_eq_false] at h25)
                refine H_skip ?_
                refine H_blk ?_
                -- R8 ref.go:59
                refine H_region (l := [_, _]) rfl ?_
                refine HO_bin rfl rfl rfl rfl (bin_add ?_ ?_) ?_
                · omega
                · omega
                refine HO_move rfl rfl rfl ?_
                refine HO_nil ?_
                refine H_env (ρ' := [(13, _), (0, _), (1, _), (12, _)]) ⟨rfl, rfl, rfl, rfl, trivial⟩ ?_
                refine H_inv (fun a w hf hA => ⟨i + 1, ?_, ?_, hf.sub ?_, ?_⟩)
                · exact ⟨by omega, Ent.same_next hz18 hz22 hI.2 h25⟩
                · (try dsimp only); omega
                · exact ⟨rfl, rfl, rfl, rfl, trivial⟩
                · exact hA.only (is := [0, 1]) (Z := []) rfl
        · refine HO_indexAddr open_Ent (i := 1) rfl rfl rfl rfl rfl Try.underlying51 Try.sizeOf61 rfl ?_ ?_
          · omega
          intro b22 o22 z22 y22 hz22 hI22
          (try simp only [BIG] at hI22)
          refine HA_back (listed' := #[true, true, false, false, true, true, true, false, false, false]) rfl (fun _ hA => hA.only (is := [3, 4]) (Y := [_, _]) (Z := [_, _, _]) rfl) ?_
          refine HA_loud2 (i := 2) (j := 7) (by kernel_rfl) rfl rfl ?_ ?_
          · refine HO_indexAddr open_Ent (i := 3) rfl rfl rfl rfl rfl Try.underlying51 Try.sizeOf61 rfl ?_ ?_
            · omega
            intro b18 o18 z18 y18 hz18 hI18
            (try simp only [BIG] at hI18)
            refine HA_back (listed' := #[true, true, true, false, true, true, true, false, false, false]) rfl (fun _ hA => hA.only (is := [6, 7]) (Y := [_, _]) (Z := [_, _, _, _, _, _]) rfl) ?_
            refine HA_loud2 (i := 3) (j := 7) (by kernel_rfl) rfl rfl ?_ ?_
            · refine HO_loadA (i := 0) (us := []) (cs := [_, _, _, _, _, _, _, _, _, _, _, _, _]) (ts := []) rfl rfl rfl Try.isAgg61 Try.sizeOf61 rfl (.elem _ _ _) rfl rfl rfl rfl ?_
              refine HA_back (listed' := #[true, true, true, true, true, true, true, false, false, false]) rfl (fun _ hA => hA.only (is := [6, 7]) (Y := [_, _]) (Z := [_, _, _, _, _, _]) rfl) ?_
              refine HA_loud1 (i := 7) (by kernel_rfl) rfl ?_
              refine HO_loadA (i := 3) (us := []) (cs := [_, _, _, _, _, _, _, _, _, _, _, _, _]) (ts := []) rfl rfl rfl Try.isAgg61 Try.sizeOf61 rfl (.elem _ _ _) rfl rfl rfl rfl ?_
              refine HA_back (listed' := #[true, true, true, true, true, true, true, true, false, false]) rfl (fun _ hA => hA.only (is := [6, 7]) (Y := [_, _]) (Z := [_, _, _, _, _, _]) rfl) ?_
              refine HA_loud1 (i := 8) (by kernel_rfl) rfl ?_
              refine HO_dup (i := 1) rfl rfl ?_
              refine HO_dup (i := 3) rfl rfl ?_
              refine HO_dup (i := 6) rfl rfl ?_
              refine HO_dup (i := 8) rfl rfl ?_
              refine HO_call (first := []) (capt := []) (is := [0, 0, 0, 0]) (R := [_, _, _, _, _, _, _, _]) rfl rfl rfl rfl rfl Try.call47 rfl (rentsame_spec _ _ _ _ _ _ _ _ _ _ _ _ _ _ _ _ _ _ _ _ _ _ _ _ _ _ _ _ _ _ _ _ _ _) ?_
              intro y24 hy24
              clear y24 hy24
              refine HA_back (listed' := #[true, true, true, true, true, true, true, true, true, false]) rfl (fun _ hA => hA.only (is := [6, 7]) (Y := [_, _]) (Z := [_, _, _, _, _, _]) rfl) ?_
              refine HA_take (i := 9) (listed' := #[true, true, true, true, true, true, true, true, true, true]) (bodyPost_pan _ _ _) rfl rfl rfl rfl (by kernel_rfl) rfl (V_not rfl) (fun _ hA => hA.only (is := [6, 7]) (Y := [_, _]) (Z := [_, _, _, _, _, _]) rfl) ?_
              refine HA_done (by kernel_rfl) ?_
              refine H_env (ρ' := [(25, _), (0, _), (1, _), (12, _), (13, _)]) ⟨rfl, rfl, rfl, rfl, rfl, trivial⟩ ?_
              refine H_world (fun _ hA => hA.drop (is := [0, 1, 2, 3, 4, 5]) (Y := [_, _, _, _, _, _]) (Z := [_, _]) rfl) ?_
              refine H_cond rfl ?_ ?_
              · intro h25
                (try simp only [decide_eq_true_eq, decide_eq_false_iff_not, Bool.not_eq_true', Bool.not_eq_false', Bool.not_eq_true, Bool.not_eq_false, Bool.true_eq_false, Bool.false_eq_true, not_false_eq_true, not_true_eq_false] at h25)
                refine H_seq ?_
                -- R7 ref.go:61
                refine H_region (l := [_]) rfl ?_
                refine HO_assign rfl rfl rfl ?_
                refine HO_nil ?_
                refine H_env (ρ' := [(4, _)]) ⟨rfl, trivial⟩ ?_
                refine H_world (fun _ hA => hA.drop (is := [0, 1]) (Y := [_, _]) (Z := []) rfl) ?_
                -- end5
                refine H_ret1 Try.results115 (.tmp rfl) (fun w hA => ⟨(), congrArg Ending.returned ?_, ?_, ?_⟩)
                · (first | exact congrArg Value.bool (Ent.same_no hz18 hz22 h25).symm | exact congrArg Value.bool (Ent.same_yes hl hI).symm | exact congrArg Value.bool (Ent.same_len h10).symm)
                · trivial
                · exact hA.only (is := []) (Z := []) rfl
              · intro h25
                (try simp only [decide_eq_true_eq, decide_eq_false_iff_not, Bool.not_eq_true', Bool.not_eq_false', Bool.not_eq_true, Bool.not_eq_false, Bool.true_eq_false, Bool.false_eq_true, not_false_eq_true, not_true_eq_false] at h25)
                refine H_skip ?_
                refine H_blk ?_
                -- R8 ref.go:59
                refine H_region (l := [_, _]) rfl ?_
                refine HO_bin rfl rfl rfl rfl (bin_add ?_ ?_) ?_
                · omega
                · omega
                refine HO_move rfl rfl rfl ?_
                refine HO_nil ?_
                refine H_env (ρ' := [(13, _), (0, _), (1, _), (12, _)]) ⟨rfl, rfl, rfl, rfl, trivial⟩ ?_
                refine H_inv (fun a w hf hA => ⟨i + 1, ?_, ?_, hf.sub ?_, ?_⟩)
                · exact ⟨by omega, Ent.same_next hz18 hz22 hI.2 h25⟩
                · (try dsimp only); omega
                · exact ⟨rfl, rfl, rfl, rfl, trivial⟩
                · exact hA.only (is := [0, 1]) (Z := []) rfl
            · refine HO_loadA (i := 3) (us := []) (cs := [_, _, _, _, _, _, _, _, _, _, _, _, _]) (ts := []) rfl rfl rfl Try.isAgg61 Try.sizeOf61 rfl (.elem _ _ _) rfl rfl rfl rfl ?_
              refine HA_back (listed' := #[true, true, true, false, true, true, true, true, false, false]) rfl (fun _ hA => hA.only (is := [6, 7]) (Y := [_, _]) (Z := [_, _, _, _, _, _]) rfl) ?_
              refine HA_loud1 (i := 3) (by kernel_rfl) rfl ?_
              refine HO_loadA (i := 0) (us := []) (cs := [_, _, _, _, _, _, _, _, _, _, _, _, _]) (ts := []) rfl rfl rfl Try.isAgg61 Try.sizeOf61 rfl (.elem _ _ _) rfl rfl rfl rfl ?_
              refine HA_back (listed' := #[true, true, true, true, true, true, true, true, false, false]) rfl (fun _ hA => hA.only (is := [6, 7]) (Y := [_, _]) (Z := [_, _, _, _, _, _]) rfl) ?_
              refine HA_loud1 (i := 8) (by kernel_rfl) rfl ?_
              refine HO_dup (i := 1) rfl rfl ?_
              refine HO_dup (i := 3) rfl rfl ?_
              refine HO_dup (i := 6) rfl rfl ?_
              refine HO_dup (i := 8) rfl rfl ?_
              refine HO_call (first := []) (capt := []) (is := [0, 0, 0, 0]) (R := [_, _, _, _, _, _, _, _]) rfl rfl rfl rfl rfl Try.call47 rfl (rentsame_spec _ _ _ _ _ _ _ _ _ _ _ _ _ _ _ _ _ _ _ _ _ _ _ _ _ _ _ _ _ _ _ _ _ _) ?_
              intro y24 hy24
              clear y24 hy24
              refine HA_back (listed' := #[true, true, true, true, true, true, true, true, true, false]) rfl (fun _ hA => hA.only (is := [6, 7]) (Y := [_, _]) (Z := [_, _, _, _, _, _]) rfl) ?_
              refine HA_take (i := 9) (listed' := #[true, true, true, true, true, true, true, true, true, true]) (bodyPost_pan _ _ _) rfl rfl rfl rfl (by kernel_rfl) rfl (V_not rfl) (fun _ hA => hA.only (is := [6, 7]) (Y := [_, _]) (Z := [_, _, _, _, _, _]) rfl) ?_
              refine HA_done (by kernel_rfl) ?_
              refine H_env (ρ' := [(25, _), (0, _), (1, _), (12, _), (13, _)]) ⟨rfl, rfl, rfl, rfl, rfl, trivial⟩ ?_
              refine H_world (fun _ hA => hA.drop (is := [0, 1, 2, 3, 4, 5]) (Y := [_, _, _, _, _, _]) (Z := [_, _]) rfl) ?_
              refine H_cond rfl ?_ ?_
              · intro h25
                (try simp only [decide_eq_true_eq, decide_eq_false_iff_not, Bool.not_eq_true', Bool.not_eq_false', Bool.not_eq_true, Bool.not_eq_false, Bool.true_eq_false, Bool.false_eq_true, not_false_eq_true, not_true_eq_false] at h25)
                refine H_seq ?_
                -- R7 ref.go:61
                refine H_region (l := [_]) rfl ?_
                refine HO_assign rfl rfl rfl ?_
                refine HO_nil ?_
                refine H_env (ρ' := [(4, _)]) ⟨rfl, trivial⟩ ?_
                refine H_world (fun _ hA => hA.drop (is := [0, 1]) (Y := [_, _]) (Z := []) rfl) ?_
                -- end6
                refine H_ret1 Try.results115 (.tmp rfl) (fun w hA => ⟨(), congrArg Ending.returned ?_, ?_, ?_⟩)
                · (first | exact congrArg Value.bool (Ent.same_no hz18 hz22 h25).symm | exact congrArg Value.bool (Ent.same_yes hl hI).symm | exact congrArg Value.bool (Ent.same_len h10).symm)
                · trivial
                · exact hA.only (is := []) (Z := []) rfl
              · intro h25
                (try simp only [decide_eq_true_eq, decide_eq_false_iff_not, Bool.not_eq_true', Bool.not_eq_false', Bool.not_eq_true, Bool.not_eq_false, Bool.true_eq_false, Bool.false_eq_true, not_false_eq_true, not_true_eq_false] at h25)
                refine H_skip ?_
                refine H_blk ?_
                -- R8 ref.go:59
                refine H_region (l := [_, _]) rfl ?_
                refine HO_bin rfl rfl rfl rfl (bin_add ?_ ?_) ?_
                · omega
                · omega
                refine HO_move rfl rfl rfl ?_
                refine HO_nil ?_
                refine H_env (ρ' := [(13, _), (0, _), (1, _), (12, _)]) ⟨rfl, rfl, rfl, rfl, trivial⟩ ?_
                refine H_inv (fun a w hf hA => ⟨i + 1, ?_, ?_, hf.sub ?_, ?_⟩)
                · exact ⟨by omega, Ent.same_next hz18 hz22 hI.2 h25⟩
                · (try dsimp only); omega
                · exact ⟨rfl, rfl, rfl, rfl, trivial⟩
                · exact hA.only (is := [0, 1]) (Z := []) rfl
          · refine HO_loadA (i := 0) (us := []) (cs := [_, _, _, _, _, _, _, _, _, _, _, _, _]) (ts := []) rfl rfl rfl Try.isAgg61 Try.sizeOf61 rfl (.elem _ _ _) rfl rfl rfl rfl ?_
            refine HA_back (listed' := #[true, true, false, false, true, true, true, true, false, false]) rfl (fun _ hA => hA.only (is := [3, 4]) (Y := [_, _]) (Z := [_, _, _]) rfl) ?_
            refine HA_loud1 (i := 2) (by kernel_rfl) rfl ?_
            refine HO_indexAddr open_Ent (i := 3) rfl rfl rfl rfl rfl Try.underlying51 Try.sizeOf61 rfl ?_ ?_
            · omega
            intro b18 o18 z18 y18 hz18 hI18
            (try simp only [BIG] at hI18)
            refine HA_back (listed' := #[true, true, true, false, true, true, true, true, false, false]) rfl (fun _ hA => hA.only (is := [6, 7]) (Y := [_, _]) (Z := [_, _, _, _, _, _]) rfl) ?_
            refine HA_loud1 (i := 3) (by kernel_rfl) rfl ?_
            refine HO_loadA (i := 0) (us := []) (cs := [_, _, _, _, _, _, _, _, _, _, _, _, _]) (ts := []) rfl rfl rfl Try.isAgg61 Try.sizeOf61 rfl (.elem _ _ _) rfl rfl rfl rfl ?_
            refine HA_back (listed' := #[true, true, true, true, true, true, true, true, false, false]) rfl (fun _ hA => hA.only (is := [6, 7]) (Y := [_, _]) (Z := [_, _, _, _, _, _]) rfl) ?_
            refine HA_loud1 (i := 8) (by kernel_rfl) rfl ?_
            refine HO_dup (i := 1) rfl rfl ?_
            refine HO_dup (i := 3) rfl rfl ?_
            refine HO_dup (i := 6) rfl rfl ?_
            refine HO_dup (i := 8) rfl rfl ?_
            refine HO_call (first := []) (capt := []) (is := [0, 0, 0, 0]) (R := [_, _, _, _, _, _, _, _]) rfl rfl rfl rfl rfl Try.call47 rfl (rentsame_spec _ _ _ _ _ _ _ _ _ _ _ _ _ _ _ _ _ _ _ _ _ _ _ _ _ _ _ _ _ _ _ _ _ _) ?_
            intro y24 hy24
            clear y24 hy24
            refine HA_back (listed' := #[true, true, true, true, true, true, true, true, true, false]) rfl (fun _ hA => hA.only (is := [6, 7]) (Y := [_, _]) (Z := [_, _, _, _, _, _]) rfl) ?_
            refine HA_take (i := 9) (listed' := #[true, true, true, true, true, true, true, true, true, true]) (bodyPost_pan _ _ _) rfl rfl rfl rfl (by kernel_rfl) rfl (V_not rfl) (fun _ hA => hA.only (is := [6, 7]) (Y := [_, _]) (Z := [_, _, _, _, _, _]) rfl) ?_
            refine HA_done (by kernel_rfl) ?_
            refine H_env (ρ' := [(25, _), (0, _), (1, _), (12, _), (13, _)]) ⟨rfl, rfl, rfl, rfl, rfl, trivial⟩ ?_
            refine H_world (fun _ hA => hA.drop (is := [0, 1, 2, 3, 4, 5]) (Y := [_, _, _, _, _, _]) (Z := [_, _]) rfl) ?_
            refine H_cond rfl ?_ ?_
            · intro h25
              (try simp only [decide_eq_true_eq, decide_eq_false_iff_not, Bool.not_eq_true', Bool.not_eq_false', Bool.not_eq_true, Bool.not_eq_false, Bool.true_eq_false, Bool.false_eq_true, not_false_eq_true, not_true_eq_false] at h25)
              refine H_seq ?_
              -- R7 ref.go:61
              refine H_region (l := [_]) rfl ?_
              refine HO_assign rfl rfl rfl ?_
              refine HO_nil ?_
              refine H_env (ρ' := [(4, _)]) ⟨rfl, trivial⟩ ?_
              refine H_world (fun _ hA => hA.drop (is := [0, 1]) (Y := [_, _]) (Z := []) rfl) ?_
              -- end7
              refine H_ret1 Try.results115 (.tmp rfl) (fun w hA => ⟨(), congrArg Ending.returned ?_, ?_, ?_⟩)
              · (first | exact congrArg Value.bool (Ent.same_no hz18 hz22 h25).symm | exact congrArg Value.bool (Ent.same_yes hl hI).symm | exact congrArg Value.bool (Ent.same_len h10).symm)
              · trivial
              · exact hA.only (is := []) (Z := []) rfl
            · intro h25
              (try simp only [decide_eq_true_eq, decide_eq_false_iff_not, Bool.not_eq_true', Bool.not_eq_false', Bool.not_eq_true, Bool.not_eq_false, Bool.true_eq_false, Bool.false_eq_true, not_false_eq_true, not_true_eq_false] at h25)
              refine H_skip ?_
              refine H_blk ?_
              -- R8 ref.go:59
              refine H_region (l := [_, _]) rfl ?_
              refine HO_bin rfl rfl rfl rfl (bin_add ?_ ?_) ?_
              · omega
              · omega
              refine HO_move rfl rfl rfl ?_
              refine HO_nil ?_
              refine H_env (ρ' := [(13, _), (0, _), (1, _), (12, _)]) ⟨rfl, rfl, rfl, rfl, trivial⟩ ?_
              refine H_inv (fun a w hf hA => ⟨i + 1, ?_, ?_, hf.sub ?_, ?_⟩)
              · exact ⟨by omega, Ent.same_next hz18 hz22 hI.2 h25⟩
              · (try dsimp only); omega
              · exact ⟨rfl, rfl, rfl, rfl, trivial⟩
              · exact hA.only (is := [0, 1]) (Z := []) rfl
      · intro h14
        (try simp only [decide_eq_true_eq, decide_eq_false_iff_not, Bool.not_eq_true', Bool.not_eq_false', Bool.not_eq_true, Bool.not_eq_false, Bool.true_eq_false, Bool.false_eq_true, not_false_eq_true, not_true_eq_false] at h14)
        refine H_exit rfl ?_
        refine H_seq ?_
        -- R9 ref.go:64
        obtain rfl : i = es.length := by omega
        refine H_region (l := [_]) rfl ?_
        refine HO_assign rfl rfl rfl ?_
        refine HO_nil ?_
        refine H_env (ρ' := [(4, _)]) ⟨rfl, trivial⟩ ?_
        refine H_world (fun _ hA => hA.drop (is := [0, 1]) (Y := [_, _]) (Z := []) rfl) ?_
        -- end8
        refine H_ret1 Try.results115 (.tmp rfl) (fun w hA => ⟨(), congrArg Ending.returned ?_, ?_, ?_⟩)
        · (first | exact congrArg Value.bool (Ent.same_no hz18 hz22 h25).symm | exact congrArg Value.bool (Ent.same_yes hl hI).symm | exact congrArg Value.bool (Ent.same_len h10).symm)
        · trivial
        · exact hA.only (is := []) (Z := []) rfl
set_option maxHeartbeats 1000000 in
theorem samemsg_spec (mk mf mt me mi ml mc mr : Int) (rj : Bool) (hi : Int) (es : List Ent) (a9 : Option Addr) (c9 : Nat) (ix te : Int) (vo le : List Int) (a1 : Option Addr) (c1 : Nat) (a2 : Option Addr) (c2 : Nat) (da : List UInt8) (a3 : Option Addr) (c3 : Nat) (mk2 mf2 mt2 me2 mi2 ml2 mc2 mr2 : Int) (rj2 : Bool) (hi2 : Int) (es2 : List Ent) (a92 : Option Addr) (c92 : Nat) (ix2 te2 : Int) (vo2 le2 : List Int) (a12 : Option Addr) (c12 : Nat) (a22 : Option Addr) (c22 : Nat) (da2 : List UInt8) (a32 : Option Addr) (c32 : Nat)  : Spec Try.prog 63 #[.agg #[.int .i64 (mk), .int .i64 (mf), .int .i64 (mt), .int .i64 (me), .int .i64 (mi), .int .i64 (ml), .int .i64 (mc), .int .i64 (mr), .bool (rj), .int .i64 (hi), .slice a9 (es.length) c9, .int .i64 (ix), .int .i64 (te), .slice a1 (vo.length) c1, .slice a2 (le.length) c2, .slice a3 (da.length) c3], .agg #[.int .i64 (mk2), .int .i64 (mf2), .int .i64 (mt2), .int .i64 (me2), .int .i64 (mi2), .int .i64 (ml2), .int .i64 (mc2), .int .i64 (mr2), .bool (rj2), .int .i64 (hi2), .slice a92 (es2.length) c92, .int .i64 (ix2), .int .i64 (te2), .slice a12 (vo2.length) c12, .slice a22 (le2.length) c22, .slice a32 (da2.length) c32]] [.dat kEnt.sl (es) [.slice a9 (es.length) c9], .dat kInt.sl (vo) [.slice a1 (vo.length) c1], .dat kInt.sl (le) [.slice a2 (le.length) c2], .dat kByte.sl (da) [.slice a3 (da.length) c3], .dat kEnt.sl (es2) [.slice a92 (es2.length) c92], .dat kInt.sl (vo2) [.slice a12 (vo2.length) c12], .dat kInt.sl (le2) [.slice a22 (le2.length) c22], .dat kByte.sl (da2) [.slice a32 (da2.length) c32]] (β := Unit) (fun y => .bool (decide ((⟨mk, mf, mt, me, mi, ml, mc, mr, rj, hi, es, ⟨ix, te, ⟨vo, le⟩, da⟩⟩ : Msg) = ⟨mk2, mf2, mt2, me2, mi2, ml2, mc2, mr2, rj2, hi2, es2, ⟨ix2, te2, ⟨vo2, le2⟩, da2⟩⟩))) (fun y => True) (fun y => []) := by
  refine Spec.enter (vs := [_, _]) Try.func63 rfl Try.ntmps63 rfl (Nat.le_of_ble_eq_true rfl) (fun w0 ok0 => ?_)
  generalize hM0 : blks _ = M0
  have hMn : ∀ {R : List Atom} (b : Nat), M0 b → blks R b := fun b hb => absurd (hM0 ▸ hb) (blks_none (by simp [Atom.dat, Atom.elem]) b)
  refine H_len_le (i := 0) rfl ?_
  intro hlen0
  refine H_len_le (i := 1) rfl ?_
  intro hlen1
  refine H_len_le (i := 2) rfl ?_
  intro hlen2
  refine H_len_le (i := 4) rfl ?_
  intro hlen4
  refine H_len_le (i := 5) rfl ?_
  intro hlen5
  refine H_len_le (i := 6) rfl ?_
  intro hlen6
  refine H_seq ?_
  -- R0 ref.go:279
  refine H_region (l := [_, _, _]) rfl ?_
  refine HO_box (cs := [_, _, _, _, _, _, _, _, _, _, _, _, _, _, _, _]) rfl rfl rfl rfl ?_
  intro g2
  refine HO_box (cs := [_, _, _, _, _, _, _, _, _, _, _, _, _, _, _, _]) rfl rfl rfl rfl ?_
  intro g3
  refine HO_assign rfl rfl rfl ?_
  refine HO_nil ?_
  refine H_env (ρ' := [(3, _), (2, _)]) ⟨rfl, rfl, trivial⟩ ?_
  refine H_seq ?_
  -- R1 ref.go:280
  refine H_region (l := [_, _, _, _, _, _, _, _, _, _, _, _, _, _, _, _, _, _, _, _, _, _, _, _, _, _, _, _, _, _, _, _, _, _, _, _, _, _, _, _, _, _, _, _, _, _, _, _, _, _, _, _, _, _, _, _, _, _, _, _, _, _, _, _, _, _, _, _, _, _, _, _, _, _, _, _, _, _, _, _, _, _, _]) rfl ?_
  refine HO_fieldAddr (r := 0) rfl rfl rfl Try.underlying53 rfl Try.sizeOf3 rfl ?_
  refine HO_load1 (i := 1) (j := 0) rfl rfl rfl Try.isAgg3 rfl (.loc _ _ _) rfl rfl ?_
  refine HO_fieldAddr (r := 0) rfl rfl rfl Try.underlying53 rfl Try.sizeOf3 rfl ?_
  refine HO_load1 (i := 0) (j := 0) rfl rfl rfl Try.isAgg3 rfl (.loc _ _ _) rfl rfl ?_
  refine HO_bin rfl rfl rfl rfl bin_eql ?_
  refine HO_move rfl rfl rfl ?_
  refine HO_split (d := 10) rfl ?_ ?_
  · intro h10
    (try simp only [decide_eq_true_eq, decide_eq_false_iff_not, Bool.not_eq_true', Bool.not_eq_false', Bool.not_eq_true, Bool.not_eq_false, Bool.true_eq_false, Bool.false_eq_true, not_false_eq_true, not_true_eq_false] at h10)
    refine HO_fieldAddr (r := 1) rfl rfl rfl Try.underlying53 rfl Try.sizeOf3 rfl ?_
    refine HO_load1 (i := 1) (j := 1) rfl rfl rfl Try.isAgg3 rfl (.loc _ _ _) rfl rfl ?_
    refine HO_fieldAddr (r := 1) rfl rfl rfl Try.underlying53 rfl Try.sizeOf3 rfl ?_
    refine HO_load1 (i := 0) (j := 1) rfl rfl rfl Try.isAgg3 rfl (.loc _ _ _) rfl rfl ?_
    refine HO_bin rfl rfl rfl rfl bin_eql ?_
    refine HO_pick_t rfl rfl rfl rfl ?_
    refine HO_move rfl rfl rfl ?_
    refine HO_split (d := 17) rfl ?_ ?_
    · intro h17
      (try simp only [decide_eq_true_eq, decide_eq_false_iff_not, Bool.not_eq_true', Bool.not_eq_false', Bool.not_eq_true, Bool.not_eq_false, Bool.true_eq_false, Bool.false_eq_true, not_false_eq_true, not_true_eq_false] at h17)
      refine HO_fieldAddr (r := 2) rfl rfl rfl Try.underlying53 rfl Try.sizeOf3 rfl ?_
      refine HO_load1 (i := 1) (j := 2) rfl rfl rfl Try.isAgg3 rfl (.loc _ _ _) rfl rfl ?_
      refine HO_fieldAddr (r := 2) rfl rfl rfl Try.underlying53 rfl Try.sizeOf3 rfl ?_
      refine HO_load1 (i := 0) (j := 2) rfl rfl rfl Try.isAgg3 rfl (.loc _ _ _) rfl rfl ?_
      refine HO_bin rfl rfl rfl rfl bin_eql ?_
      refine HO_pick_t rfl rfl rfl rfl ?_
      refine HO_move rfl rfl rfl ?_
      refine HO_split (d := 24) rfl ?_ ?_
      · intro h24
        (try simp only [decide_eq_true_eq, decide_eq_false_iff_not, Bool.not_eq_true', Bool.not_eq_false', Bool.not_eq_true, Bool.not_eq_false, Bool.true_eq_false, Bool.false_eq_true, not_false_eq_true, not_true_eq_false] at h24)
        refine HO_fieldAddr (r := 3) rfl rfl rfl Try.underlying53 rfl Try.sizeOf3 rfl ?_
        refine HO_load1 (i := 1) (j := 3) rfl rfl rfl Try.isAgg3 rfl (.loc _ _ _) rfl rfl ?_
        refine HO_fieldAddr (r := 3) rfl rfl rfl Try.underlying53 rfl Try.sizeOf3 rfl ?_
        refine HO_load1 (i := 0) (j := 3) rfl rfl rfl Try.isAgg3 rfl (.loc _ _ _) rfl rfl ?_
        refine HO_bin rfl rfl rfl rfl bin_eql ?_
        refine HO_pick_t rfl rfl rfl rfl ?_
        refine HO_move rfl rfl rfl ?_
        refine HO_split (d := 31) rfl ?_ ?_
        · intro h31
          (try simp only [decide_eq_true_eq, decide_eq_false_iff_not, Bool.not_eq_true', Bool.not_eq_false', Bool.not_eq_true, Bool.not_eq_false, Bool.true_eq_false, Bool.false_eq_true, not_false_eq_true, not_true_eq_false] at h31)
          refine HO_fieldAddr (r := 4) rfl rfl rfl Try.underlying53 rfl Try.sizeOf3 rfl ?_
          refine HO_load1 (i := 1) (j := 4) rfl rfl rfl Try.isAgg3 rfl (.loc _ _ _) rfl rfl ?_
          refine HO_fieldAddr (r := 4) rfl rfl rfl Try.underlying53 rfl Try.sizeOf3 rfl ?_
          refine HO_load1 (i := 0) (j := 4) rfl rfl rfl Try.isAgg3 rfl (.loc _ _ _) rfl rfl ?_
          refine HO_bin rfl rfl rfl rfl bin_eql ?_
          refine HO_pick_t rfl rfl rfl rfl ?_
          refine HO_move rfl rfl rfl ?_
          refine HO_split (d := 38) rfl ?_ ?_
          · intro h38
            (try simp only [decide_eq_true_eq, decide_eq_false_iff_not, Bool.not_eq_true', Bool.not_eq_false', Bool.not_eq_true, Bool.not_eq_false, Bool.true_eq_false, Bool.false_eq_true, not_false_eq_true, not_true_eq_false] at h38)
            refine HO_fieldAddr (r := 5) rfl rfl rfl Try.underlying53 rfl Try.sizeOf3 rfl ?_
            refine HO_load1 (i := 1) (j := 5) rfl rfl rfl Try.isAgg3 rfl (.loc _ _ _) rfl rfl ?_
            refine HO_fieldAddr (r := 5) rfl rfl rfl Try.underlying53 rfl Try.sizeOf3 rfl ?_
            refine HO_load1 (i := 0) (j := 5) rfl rfl rfl Try.isAgg3 rfl (.loc _ _ _) rfl rfl ?_
            refine HO_bin rfl rfl rfl rfl bin_eql ?_
            refine HO_pick_t rfl rfl rfl rfl ?_
            refine HO_move rfl rfl rfl ?_
            refine HO_split (d := 45) rfl ?_ ?_
            · intro h45
              (try simp only [decide_eq_true_eq, decide_eq_false_iff_not, Bool.not_eq_true', Bool.not_eq_false', Bool.not_eq_true, Bool.not_eq_false, Bool.true_eq_false, Bool.false_eq_true, not_false_eq_true, not_true_eq_false] at h45)
              refine HO_fieldAddr (r := 6) rfl rfl rfl Try.underlying53 rfl Try.sizeOf3 rfl ?_
              refine HO_load1 (i := 1) (j := 6) rfl rfl rfl Try.isAgg3 rfl (.loc _ _ _) rfl rfl ?_
              refine HO_fieldAddr (r := 6) rfl rfl rfl Try.underlying53 rfl Try.sizeOf3 rfl ?_
              refine HO_load1 (i := 0) (j := 6) rfl rfl rfl Try.isAgg3 rfl (.loc _ _ _) rfl rfl ?_
              refine HO_bin rfl rfl rfl rfl bin_eql ?_
              refine HO_pick_t rfl rfl rfl rfl ?_
              refine HO_move rfl rfl rfl ?_
              refine HO_split (d := 52) rfl ?_ ?_
              · intro h52
                (try simp only [decide_eq_true_eq, decide_eq_false_iff_not, Bool.not_eq_true', Bool.not_eq_false', Bool.not_eq_true, Bool.not_eq_false, Bool.true_eq_false, Bool.false_eq_true, not_false_eq_true, not_true_eq_false] at h52)
                refine HO_fieldAddr (r := 7) rfl rfl rfl Try.underlying53 rfl Try.sizeOf3 rfl ?_
                refine HO_load1 (i := 1) (j := 7) rfl rfl rfl Try.isAgg3 rfl (.loc _ _ _) rfl rfl ?_
                refine HO_fieldAddr (r := 7) rfl rfl rfl Try.underlying53 rfl Try.sizeOf3 rfl ?_
                refine HO_load1 (i := 0) (j := 7) rfl rfl rfl Try.isAgg3 rfl (.loc _ _ _) rfl rfl ?_
                refine HO_bin rfl rfl rfl rfl bin_eql ?_
                refine HO_pick_t rfl rfl rfl rfl ?_
                refine HO_move rfl rfl rfl ?_
                refine HO_split (d := 59) rfl ?_ ?_
                · intro h59
                  (try simp only [decide_eq_true_eq, decide_eq_false_iff_not, Bool.not_eq_true', Bool.not_eq_false', Bool.not_eq_true, Bool.not_eq_false, Bool.true_eq_false, Bool.false_eq_true, not_false_eq_true, not_true_eq_false] at h59)
                  refine HO_fieldAddr (r := 8) rfl rfl rfl Try.underlying53 rfl Try.sizeOf4 rfl ?_
                  refine HO_load1 (i := 1) (j := 8) rfl rfl rfl Try.isAgg4 rfl (.loc _ _ _) rfl rfl ?_
                  refine HO_fieldAddr (r := 8) rfl rfl rfl Try.underlying53 rfl Try.sizeOf4 rfl ?_
                  refine HO_load1 (i := 0) (j := 8) rfl rfl rfl Try.isAgg4 rfl (.loc _ _ _) rfl rfl ?_
                  refine HO_bin rfl rfl rfl rfl (bin_eqb Try.runUnderlying4) ?_
                  refine HO_pick_t rfl rfl rfl rfl ?_
                  refine HO_move rfl rfl rfl ?_
                  refine HO_split (d := 66) rfl ?_ ?_
                  · intro h66
                    (try simp only [decide_eq_true_eq, decide_eq_false_iff_not, Bool.not_eq_true', Bool.not_eq_false', Bool.not_eq_true, Bool.not_eq_false, Bool.true_eq_false, Bool.false_eq_true, not_false_eq_true, not_true_eq_false] at h66)
                    refine HO_fieldAddr (r := 9) rfl rfl rfl Try.underlying53 rfl Try.sizeOf3 rfl ?_
                    refine HO_load1 (i := 1) (j := 9) rfl rfl rfl Try.isAgg3 rfl (.loc _ _ _) rfl rfl ?_
                    refine HO_fieldAddr (r := 9) rfl rfl rfl Try.underlying53 rfl Try.sizeOf3 rfl ?_
                    refine HO_load1 (i := 0) (j := 9) rfl rfl rfl Try.isAgg3 rfl (.loc _ _ _) rfl rfl ?_
                    refine HO_bin rfl rfl rfl rfl bin_eql ?_
                    refine HO_pick_t rfl rfl rfl rfl ?_
                    refine HO_move rfl rfl rfl ?_
                    refine HO_split (d := 73) rfl ?_ ?_
                    · intro h73
                      (try simp only [decide_eq_true_eq, decide_eq_false_iff_not, Bool.not_eq_true', Bool.not_eq_false', Bool.not_eq_true, Bool.not_eq_false, Bool.true_eq_false, Bool.false_eq_true, not_false_eq_true, not_true_eq_false] at h73)
                      refine HO_fieldAddr (r := 10) rfl rfl rfl Try.underlying53 rfl Try.sizeOf51 rfl ?_
                      refine HO_load1 (i := 1) (j := 10) rfl rfl rfl Try.isAgg51 rfl (.loc _ _ _) rfl rfl ?_
                      refine HO_fieldAddr (r := 10) rfl rfl rfl Try.underlying53 rfl Try.sizeOf51 rfl ?_
                      refine HO_load1 (i := 0) (j := 10) rfl rfl rfl Try.isAgg51 rfl (.loc _ _ _) rfl rfl ?_
                      refine HO_dup (i := 2) rfl rfl ?_
                      refine HO_dup (i := 7) rfl rfl ?_
                      refine HO_call (first := []) (capt := []) (is := [0, 0]) (R := [_, _, _, _, _, _, _, _, _, _]) rfl rfl rfl rfl rfl Try.call115 rfl (like_spec _ _ _ _ _ _) ?_
                      intro y78 hy78
                      clear y78 hy78
                      refine HO_pick_t rfl rfl rfl rfl ?_
                      refine HO_move rfl rfl rfl ?_
                      refine HO_split (d := 80) rfl ?_ ?_
                      · intro h80
                        (try simp only [decide_eq_true_eq, decide_eq_false_iff_not, Bool.not_eq_true', Bool.not_eq_false', Bool.not_eq_true, Bool.not_eq_false, Bool.true_eq_false, Bool.false_eq_true, not_false_eq_true, not_true_eq_false] at h80)
                        refine HO_fieldAddr (r := 11) rfl rfl rfl Try.underlying53 rfl Try.sizeOf47 rfl ?_
                        refine HO_loadA (i := 1) (us := [_, _, _, _, _, _, _, _, _, _, _]) (cs := [_, _, _, _, _]) (ts := []) rfl rfl rfl Try.isAgg47 Try.sizeOf47 rfl (.loc _ _ _) rfl rfl rfl rfl ?_
                        refine HO_fieldAddr (r := 11) rfl rfl rfl Try.underlying53 rfl Try.sizeOf47 rfl ?_
                        refine HO_loadA (i := 0) (us := [_, _, _, _, _, _, _, _, _, _, _]) (cs := [_, _, _, _, _]) (ts := []) rfl rfl rfl Try.isAgg47 Try.sizeOf47 rfl (.loc _ _ _) rfl rfl rfl rfl ?_
                        refine HO_dup (i := 3) rfl rfl ?_
                        refine HO_dup (i := 5) rfl rfl ?_
                        refine HO_dup (i := 7) rfl rfl ?_
                        refine HO_dup (i := 10) rfl rfl ?_
                        refine HO_dup (i := 12) rfl rfl ?_
                        refine HO_dup (i := 14) rfl rfl ?_
                        refine HO_call (first := []) (capt := []) (is := [0, 0, 0, 0, 0, 0]) (R := [_, _, _, _, _, _, _, _, _, _]) rfl rfl rfl rfl rfl Try.call59 rfl (rsamesnap_spec _ _ _ _ _ _ _ _ _ _ _ _ _ _ _ _ _ _ _ _ _ _) ?_
                        intro y85 hy85
                        clear y85 hy85
                        refine HO_pick_t rfl rfl rfl rfl ?_
                        refine HO_assign rfl rfl rfl ?_
                        refine HO_nil ?_
                        refine H_env (ρ' := [(4, _)]) ⟨rfl, trivial⟩ ?_
                        refine H_world (fun _ hA => hA.drop (is := [0, 1, 2, 3, 4, 5, 6, 7, 8, 9]) (Y := [_, _, _, _, _, _, _, _, _, _]) (Z := []) rfl) ?_
                        -- end1
                        refine H_ret1 Try.results63 (.tmp rfl) (fun w hA => ⟨(), congrArg Ending.returned ?_, ?_, ?_⟩)
                        · (exact congrArg Value.bool (by first | (simp [*]; done) | (simp_all; done) | (simp_all; intros; simp_all)))
                        · trivial
                        · exact hA.only (is := []) (Z := []) rfl
                      · intro h80
                        (try simp only [decide_eq_true_eq, decide_eq_false_iff_not, Bool.not_eq_true', Bool.not_eq_false', Bool.not_eq_true, Bool.not_eq_false, Bool.true_eq_false, Bool.false_eq_true, not_false_eq_true, not_true_eq_false] at h80)
                        refine HO_no rfl rfl rfl ?_
                        refine HO_no rfl rfl rfl ?_
                        refine HO_no rfl rfl rfl ?_
                        refine HO_no rfl rfl rfl ?_
                        refine HO_no rfl rfl rfl ?_
                        refine HO_pick_f rfl rfl rfl rfl ?_
                        refine HO_assign rfl rfl rfl ?_
                        refine HO_nil ?_
                        refine H_env (ρ' := [(4, _)]) ⟨rfl, trivial⟩ ?_
                        refine H_world (fun _ hA => hA.drop (is := [0, 1, 2, 3, 4, 5, 6, 7, 8, 9]) (Y := [_, _, _, _, _, _, _, _, _, _]) (Z := []) rfl) ?_
                        -- end2
                        refine H_ret1 Try.results63 (.tmp rfl) (fun w hA => ⟨(), congrArg Ending.returned ?_, ?_, ?_⟩)
                        · (exact congrArg Value.bool (by first | (simp [*]; done) | (simp_all; done) | (simp_all; intros; simp_all)))
                        · trivial
                        · exact hA.only (is := []) (Z := []) rfl
                    · intro h73
                      (try simp only [decide_eq_true_eq, decide_eq_false_iff_not, Bool.not_eq_true', Bool.not_eq_false', Bool.not_eq_true, Bool.not_eq_false, Bool.true_eq_false, Bool.false_eq_true, not_false_eq_true, not_true_eq_false] at h73)
                      refine HO_no rfl rfl rfl ?_
                      refine HO_no rfl rfl rfl ?_
                      refine HO_no rfl rfl rfl ?_
                      refine HO_no rfl rfl rfl ?_
                      refine HO_no rfl rfl rfl ?_
                      refine HO_pick_f rfl rfl rfl rfl ?_
                      refine HO_move rfl rfl rfl ?_
                      refine HO_no rfl rfl rfl ?_
                      refine HO_no rfl rfl rfl ?_
                      refine HO_no rfl rfl rfl ?_
                      refine HO_no rfl rfl rfl ?_
                      refine HO_no rfl rfl rfl ?_
                      refine HO_pick_f rfl rfl rfl rfl ?_
                      refine HO_assign rfl rfl rfl ?_
                      refine HO_nil ?_
                      refine H_env (ρ' := [(4, _)]) ⟨rfl, trivial⟩ ?_
                      refine H_world (fun _ hA => hA.drop (is := [0, 1, 2, 3, 4, 5, 6, 7, 8, 9]) (Y := [_, _, _, _, _, _, _, _, _, _]) (Z := []) rfl) ?_
                      -- end3
                      refine H_ret1 Try.results63 (.tmp rfl) (fun w hA => ⟨(), congrArg Ending.returned ?_, ?_, ?_⟩)
                      · (exact congrArg Value.bool (by first | (simp [*]; done) | (simp_all; done) | (simp_all; intros; simp_all)))
                      · trivial
                      · exact hA.only (is := []) (Z := []) rfl
                  · intro h66
                    (try simp only [decide_eq_true_eq, decide_eq_false_iff_not, Bool.not_eq_true', Bool.not_eq_false', Bool.not_eq_true, Bool.not_eq_false, Bool.true_eq_false, Bool.false_eq_true, not_false_eq_true, not_true_eq_false] at h66)
                    refine HO_no rfl rfl rfl ?_
                    refine HO_no rfl rfl rfl ?_
                    refine HO_no rfl rfl rfl ?_
                    refine HO_no rfl rfl rfl ?_
                    refine HO_no rfl rfl rfl ?_
                    refine HO_pick_f rfl rfl rfl rfl ?_
                    refine HO_move rfl rfl rfl ?_
                    refine HO_no rfl rfl rfl ?_
                    refine HO_no rfl rfl rfl ?_
                    refine HO_no rfl rfl rfl ?_
                    refine HO_no rfl rfl rfl ?_
                    refine HO_no rfl rfl rfl ?_
                    refine HO_pick_f rfl rfl rfl rfl ?_
                    refine HO_move rfl rfl rfl ?_
                    refine HO_no rfl rfl rfl ?_
                    refine HO_no rfl rfl rfl ?_
                    refine HO_no rfl rfl rfl ?_
                    refine HO_no rfl rfl rfl ?_
                    refine HO_no rfl rfl rfl ?_
                    refine HO_pick_f rfl rfl rfl rfl ?_
                    refine HO_assign rfl rfl rfl ?_
                    refine HO_nil ?_
                    refine H_env (ρ' := [(4, _)]) ⟨rfl, trivial⟩ ?_
                    refine H_world (fun _ hA => hA.drop (is := [0, 1, 2, 3, 4, 5, 6, 7, 8, 9]) (Y := [_, _, _, _, _, _, _, _, _, _]) (Z := []) rfl) ?_
                    -- end4
                    refine H_ret1 Try.results63 (.tmp rfl) (fun w hA => ⟨(), congrArg Ending.returned ?_, ?_, ?_⟩)
                    · (exact congrArg Value.bool (by first | (simp [*]; done) | (simp_all; done) | (simp_all; intros; simp_all)))
                    · trivial
                    · exact hA.only (is := []) (Z := []) rfl
                · intro h59
                  (try simp only [decide_eq_true_eq, decide_eq_false_iff_not, Bool.not_eq_true', Bool.not_eq_false', Bool.not_eq_true, Bool.not_eq_false, Bool.true_eq_false, Bool.false_eq_true, not_false_eq_true, not_true_eq_false] at h59)
                  refine HO_no rfl rfl rfl ?_
                  refine HO_no rfl rfl rfl ?_
                  refine HO_no rfl rfl rfl ?_
                  refine HO_no rfl rfl rfl ?_
                  refine HO_no rfl rfl rfl ?_
                  refine HO_pick_f rfl rfl rfl rfl ?_
                  refine HO_move rfl rfl rfl ?_
                  refine HO_no rfl rfl rfl ?_
                  refine HO_no rfl rfl rfl ?_
                  refine HO_no rfl rfl rfl ?_
                  refine HO_no rfl rfl rfl ?_
                  refine HO_no rfl rfl rfl ?_
                  refine HO_pick_f rfl rfl rfl rfl ?_
                  refine HO_move rfl rfl rfl ?_
                  refine HO_no rfl rfl rfl ?_
                  refine HO_no rfl rfl rfl ?_
                  refine HO_no rfl rfl rfl ?_
                  refine HO_no rfl rfl rfl ?_
                  refine HO_no rfl rfl rfl ?_
                  refine HO_pick_f rfl rfl rfl rfl ?_
                  refine HO_move rfl rfl rfl ?_
                  refine HO_no rfl rfl rfl ?_
                  refine HO_no rfl rfl rfl ?_
                  refine HO_no rfl rfl rfl ?_
                  refine HO_no rfl rfl rfl ?_
                  refine HO_no rfl rfl rfl ?_
                  refine HO_pick_f rfl rfl rfl rfl ?_
                  refine HO_assign rfl rfl rfl ?_
                  refine HO_nil ?_
                  refine H_env (ρ' := [(4, _)]) ⟨rfl, trivial⟩ ?_
                  refine H_world (fun _ hA => hA.drop (is := [0, 1, 2, 3, 4, 5, 6, 7, 8, 9]) (Y := [_, _, _, _, _, _, _, _, _, _]) (Z := []) rfl) ?_
                  -- end5
                  refine H_ret1 Try.results63 (.tmp rfl) (fun w hA => ⟨(), congrArg Ending.returned ?_, ?_, ?_⟩)
                  · (exact congrArg Value.bool (by first | (simp [*]; done) | (simp_all; done) | (simp_all; intros; simp_all)))
                  · trivial
                  · exact hA.only (is := []) (Z := []) rfl
              · intro h52
                (try simp only [decide_eq_true_eq, decide_eq_false_iff_not, Bool.not_eq_true', Bool.not_eq_false', Bool.not_eq_true, Bool.not_eq_false, Bool.true_eq_false, Bool.false_eq_true, not_false_eq_true, not_true_eq_false] at h52)
                refine HO_no rfl rfl rfl ?_
                refine HO_no rfl rfl rfl ?_
                refine HO_no rfl rfl rfl ?_
                refine HO_no rfl rfl rfl ?_
                refine HO_no rfl rfl rfl ?_
                refine HO_pick_f rfl rfl rfl rfl ?_
                refine HO_move rfl rfl rfl ?_
                refine HO_no rfl rfl rfl ?_
                refine HO_no rfl rfl rfl ?_
                refine HO_no rfl rfl rfl ?_
                refine HO_no rfl rfl rfl ?_
                refine HO_no rfl rfl rfl ?_
                refine HO_pick_f rfl rfl rfl rfl ?_
                refine HO_move rfl rfl rfl ?_
                refine HO_no rfl rfl rfl ?_
                refine HO_no rfl rfl rfl ?_
                refine HO_no rfl rfl rfl ?_
                refine HO_no rfl rfl rfl ?_
                refine HO_no rfl rfl rfl ?_
                refine HO_pick_f rfl rfl rfl rfl ?_
                refine HO_move rfl rfl rfl ?_
                refine HO_no rfl rfl rfl ?_
                refine HO_no rfl rfl rfl ?_
                refine HO_no rfl rfl rfl ?_
                refine HO_no rfl rfl rfl ?_
                refine HO_no rfl rfl rfl ?_
                refine HO_pick_f rfl rfl rfl rfl ?_
                refine HO_move rfl rfl rfl ?_
                refine HO_no rfl rfl rfl ?_
                refine HO_no rfl rfl rfl ?_
                refine HO_no rfl rfl rfl ?_
                refine HO_no rfl rfl rfl ?_
                refine HO_no rfl rfl rfl ?_
                refine HO_pick_f rfl rfl rfl rfl ?_
                refine HO_assign rfl rfl rfl ?_
                refine HO_nil ?_
                refine H_env (ρ' := [(4, _)]) ⟨rfl, trivial⟩ ?_
                refine H_world (fun _ hA => hA.drop (is := [0, 1, 2, 3, 4, 5, 6, 7, 8, 9]) (Y := [_, _, _, _, _, _, _, _, _, _]) (Z := []) rfl) ?_
                -- end6
                refine H_ret1 Try.results63 (.tmp rfl) (fun w hA => ⟨(), congrArg Ending.returned ?_, ?_, ?_⟩)
                · (exact congrArg Value.bool (by first | (simp [*]; done) | (simp_all; done) | (simp_all; intros; simp_all)))
                · trivial
                · exact hA.only (is := []) (Z := []) rfl
            · intro h45
              (try simp only [decide_eq_true_eq, decide_eq_false_iff_not, Bool.not_eq_true', Bool.not_eq_false', Bool.not_eq_true, Bool.not_eq_false, Bool.true_eq_false, Bool.false_eq_true, not_false_eq_true, not_true_eq_false] at h45)
              refine HO_no rfl rfl rfl ?_
              refine HO_no rfl rfl rfl ?_
              refine HO_no rfl rfl rfl ?_
              refine HO_no rfl rfl rfl ?_
              refine HO_no rfl rfl rfl ?_
              refine HO_pick_f rfl rfl rfl rfl ?_
              refine HO_move rfl rfl rfl ?_
              refine HO_no rfl rfl rfl ?_
              refine HO_no rfl rfl rfl ?_
              refine HO_no rfl rfl rfl ?_
              refine HO_no rfl rfl rfl ?_
              refine HO_no rfl rfl rfl ?_
              refine HO_pick_f rfl rfl rfl rfl ?_
              refine HO_move rfl rfl rfl ?_
              refine HO_no rfl rfl rfl ?_
              refine HO_no rfl rfl rfl ?_
              refine HO_no rfl rfl rfl ?_
              refine HO_no rfl rfl rfl ?_
              refine HO_no rfl rfl rfl ?_
              refine HO_pick_f rfl rfl rfl rfl ?_
              refine HO_move rfl rfl rfl ?_
              refine HO_no rfl rfl rfl ?_
              refine HO_no rfl rfl rfl ?_
              refine HO_no rfl rfl rfl ?_
              refine HO_no rfl rfl rfl ?_
              refine HO_no rfl rfl rfl ?_
              refine HO_pick_f rfl rfl rfl rfl ?_
              refine HO_move rfl rfl rfl ?_
              refine HO_no rfl rfl rfl ?_
              refine HO_no rfl rfl rfl ?_
              refine HO_no rfl rfl rfl ?_
              refine HO_no rfl rfl rfl ?_
              refine HO_no rfl rfl rfl ?_
              refine HO_pick_f rfl rfl rfl rfl ?_
              refine HO_move rfl rfl rfl ?_
              refine HO_no rfl rfl rfl ?_
              refine HO_no rfl rfl rfl ?_
              refine HO_no rfl rfl rfl ?_
              refine HO_no rfl rfl rfl ?_
              refine HO_no rfl rfl rfl ?_
              refine HO_pick_f rfl rfl rfl rfl ?_
              refine HO_assign rfl rfl rfl ?_
              refine HO_nil ?_
              refine H_env (ρ' := [(4, _)]) ⟨rfl, trivial⟩ ?_
              refine H_world (fun _ hA => hA.drop (is := [0, 1, 2, 3, 4, 5, 6, 7, 8, 9]) (Y := [_, _, _, _, _, _, _, _, _, _]) (Z := []) rfl) ?_
              -- end7
              refine H_ret1 Try.results63 (.tmp rfl) (fun w hA => ⟨(), congrArg Ending.returned ?_, ?_, ?_⟩)
              · (exact congrArg Value.bool (by first | (simp [*]; done) | (simp_all; done) | (simp_all; intros; simp_all)))
              · trivial
              · exact hA.only (is := []) (Z := []) rfl
          · intro h38
            (try simp only [decide_eq_true_eq, decide_eq_false_iff_not, Bool.not_eq_true', Bool.not_eq_false', Bool.not_eq_true, Bool.not_eq_false, Bool.true_eq_false, Bool.false_eq_true, not_false_eq_true, not_true_eq_false] at h38)
            refine HO_no rfl rfl rfl ?_
            refine HO_no rfl rfl rfl ?_
            refine HO_no rfl rfl rfl ?_
            refine HO_no rfl rfl rfl ?_
            refine HO_no rfl rfl rfl ?_
            refine HO_pick_f rfl rfl rfl rfl ?_
            refine HO_move rfl rfl rfl ?_
            refine HO_no rfl rfl rfl ?_
            refine HO_no rfl rfl rfl ?_
            refine HO_no rfl rfl rfl ?_
            refine HO_no rfl rfl rfl ?_
            refine HO_no rfl rfl rfl ?_
            refine HO_pick_f rfl rfl rfl rfl ?_
            refine HO_move rfl rfl rfl ?_
            refine HO_no rfl rfl rfl ?_
            refine HO_no rfl rfl rfl ?_
            refine HO_no rfl rfl rfl ?_
            refine HO_no rfl rfl rfl ?_
            refine HO_no rfl rfl rfl ?_
            refine HO_pick_f rfl rfl rfl rfl ?_
            refine HO_move rfl rfl rfl ?_
            refine HO_no rfl rfl rfl ?_
            refine HO_no rfl rfl rfl ?_
            refine HO_no rfl rfl rfl ?_
            refine HO_no rfl rfl rfl ?_
            refine HO_no rfl rfl rfl ?_
            refine HO_pick_f rfl rfl rfl rfl ?_
            refine HO_move rfl rfl rfl ?_
            refine HO_no rfl rfl rfl ?_
            refine HO_no rfl rfl rfl ?_
            refine HO_no rfl rfl rfl ?_
            refine HO_no rfl rfl rfl ?_
            refine HO_no rfl rfl rfl ?_
            refine HO_pick_f rfl rfl rfl rfl ?_
            refine HO_move rfl rfl rfl ?_
            refine HO_no rfl rfl rfl ?_
            refine HO_no rfl rfl rfl ?_
            refine HO_no rfl rfl rfl ?_
            refine HO_no rfl rfl rfl ?_
            refine HO_no rfl rfl rfl ?_
            refine HO_pick_f rfl rfl rfl rfl ?_
            refine HO_move rfl rfl rfl ?_
            refine HO_no rfl rfl rfl ?_
            refine HO_no rfl rfl rfl ?_
            refine HO_no rfl rfl rfl ?_
            refine HO_no rfl rfl rfl ?_
            refine HO_no rfl rfl rfl ?_
            refine HO_pick_f rfl rfl rfl rfl ?_
            refine HO_assign rfl rfl rfl ?_
            refine HO_nil ?_
            refine H_env (ρ' := [(4, _)]) ⟨rfl, trivial⟩ ?_
            refine H_world (fun _ hA => hA.drop (is := [0, 1, 2, 3, 4, 5, 6, 7, 8, 9]) (Y := [_, _, _, _, _, _, _, _, _, _]) (Z := []) rfl) ?_
            -- end8
            refine H_ret1 Try.results63 (.tmp rfl) (fun w hA => ⟨(), congrArg Ending.returned ?_, ?_, ?_⟩)
            · (exact congrArg Value.bool (by first | (simp [*]; done) | (simp_all; done) | (simp_all; intros; simp_all)))
            · trivial
            · exact hA.only (is := []) (Z := []) rfl
        · intro h31
          (try simp only [decide_eq_true_eq, decide_eq_false_iff_not, Bool.not_eq_true', Bool.not_eq_false', Bool.not_eq_true, Bool.not_eq_false, Bool.true_eq_false, Bool.false_eq_true, not_false_eq_true, not_true_eq_false] at h31)
          refine HO_no rfl rfl rfl ?_
          refine HO_no rfl rfl rfl ?_
          refine HO_no rfl rfl rfl ?_
          refine HO_no rfl rfl rfl ?_
          refine HO_no rfl rfl rfl ?_
          refine HO_pick_f rfl rfl rfl rfl ?_
          refine HO_move rfl rfl rfl ?_
          refine HO_no rfl rfl rfl ?_
          refine HO_no rfl rfl rfl ?_
          refine HO_no rfl rfl rfl ?_
          refine HO_no rfl rfl rfl ?_
          refine HO_no rfl rfl rfl ?_
          refine HO_pick_f rfl rfl rfl rfl ?_
          refine HO_move rfl rfl rfl ?_
          refine HO_no rfl rfl rfl ?_
          refine HO_no rfl rfl rfl ?_
          refine HO_no rfl rfl rfl ?_
          refine HO_no rfl rfl rfl ?_
          refine HO_no rfl rfl rfl ?_
          refine HO_pick_f rfl rfl rfl rfl ?_
          refine HO_move rfl rfl rfl ?_
          refine HO_no rfl rfl rfl ?_
          refine HO_no rfl rfl rfl ?_
          refine HO_no rfl rfl rfl ?_
          refine HO_no rfl rfl rfl ?_
          refine HO_no rfl rfl rfl ?_
          refine HO_pick_f rfl rfl rfl rfl ?_
          refine HO_move rfl rfl rfl ?_
          refine HO_no rfl rfl rfl ?_
          refine HO_no rfl rfl rfl ?_
          refine HO_no rfl rfl rfl ?_
          refine HO_no rfl rfl rfl ?_
          refine HO_no rfl rfl rfl ?_
          refine HO_pick_f rfl rfl rfl rfl ?_
          refine HO_move rfl rfl rfl ?_
          refine HO_no rfl rfl rfl ?_
          refine HO_no rfl rfl rfl ?_
          refine HO_no rfl rfl rfl ?_
          refine HO_no rfl rfl rfl ?_
          refine HO_no rfl rfl rfl ?_
          refine HO_pick_f rfl rfl rfl rfl ?_
          refine HO_move rfl rfl rfl ?_
          refine HO_no rfl rfl rfl ?_
          refine HO_no rfl rfl rfl ?_
          refine HO_no rfl rfl rfl ?_
          refine HO_no rfl rfl rfl ?_
          refine HO_no rfl rfl rfl ?_
          refine HO_pick_f rfl rfl rfl rfl ?_
          refine HO_move rfl rfl rfl ?_
          refine HO_no rfl rfl rfl ?_
          refine HO_no rfl rfl rfl ?_
          refine HO_no rfl rfl rfl ?_
          refine HO_no rfl rfl rfl ?_
          refine HO_no rfl rfl rfl ?_
          refine HO_pick_f rfl rfl rfl rfl ?_
          refine HO_assign rfl rfl rfl ?_
          refine HO_nil ?_
          refine H_env (ρ' := [(4, _)]) ⟨rfl, trivial⟩ ?_
          refine H_world (fun _ hA => hA.drop (is := [0, 1, 2, 3, 4, 5, 6, 7, 8, 9]) (Y := [_, _, _, _, _, _, _, _, _, _]) (Z := []) rfl) ?_
          -- end9
          refine H_ret1 Try.results63 (.tmp rfl) (fun w hA => ⟨(), congrArg Ending.returned ?_, ?_, ?_⟩)
          · (exact congrArg Value.bool (by first | (simp [*]; done) | (simp_all; done) | (simp_all; intros; simp_all)))
          · trivial
          · exact hA.only (is := []) (Z := []) rfl
      · intro h24
        (try simp only [decide_eq_true_eq, decide_eq_false_iff_not, Bool.not_eq_true', Bool.not_eq_false', Bool.not_eq_true, Bool.not_eq_false, Bool.true_eq_false, Bool.false_eq_true, not_false_eq_true, not_true_eq_false] at h24)
        refine HO_no rfl rfl rfl ?_
        refine HO_no rfl rfl rfl ?_
        refine HO_no rfl rfl rfl ?_
        refine HO_no rfl rfl rfl ?_
        refine HO_no rfl rfl rfl ?_
        refine HO_pick_f rfl rfl rfl rfl ?_
        refine HO_move rfl rfl rfl ?_
        refine HO_no rfl rfl rfl ?_
        refine HO_no rfl rfl rfl ?_
        refine HO_no rfl rfl rfl ?_
        refine HO_no rfl rfl rfl ?_
        refine HO_no rfl rfl rfl ?_
        refine HO_pick_f rfl rfl rfl rfl ?_
        refine HO_move rfl rfl rfl ?_
        refine HO_no rfl rfl rfl ?_
        refine HO_no rfl rfl rfl ?_
        refine HO_no rfl rfl rfl ?_
        refine HO_no rfl rfl rfl ?_
        refine HO_no rfl rfl rfl ?_
        refine HO_pick_f rfl rfl rfl rfl ?_
        refine HO_move rfl rfl rfl ?_
        refine HO_no rfl rfl rfl ?_
        refine HO_no rfl rfl rfl ?_
        refine HO_no rfl rfl rfl ?_
        refine HO_no rfl rfl rfl ?_
        refine HO_no rfl rfl rfl ?_
        refine HO_pick_f rfl rfl rfl rfl ?_
        refine HO_move rfl rfl rfl ?_
        refine HO_no rfl rfl rfl ?_
        refine HO_no rfl rfl rfl ?_
        refine HO_no rfl rfl rfl ?_
        refine HO_no rfl rfl rfl ?_
        refine HO_no rfl rfl rfl ?_
        refine HO_pick_f rfl rfl rfl rfl ?_
        refine HO_move rfl rfl rfl ?_
        refine HO_no rfl rfl rfl ?_
        refine HO_no rfl rfl rfl ?_
        refine HO_no rfl rfl rfl ?_
        refine HO_no rfl rfl rfl ?_
        refine HO_no rfl rfl rfl ?_
        refine HO_pick_f rfl rfl rfl rfl ?_
        refine HO_move rfl rfl rfl ?_
        refine HO_no rfl rfl rfl ?_
        refine HO_no rfl rfl rfl ?_
        refine HO_no rfl rfl rfl ?_
        refine HO_no rfl rfl rfl ?_
        refine HO_no rfl rfl rfl ?_
        refine HO_pick_f rfl rfl rfl rfl ?_
        refine HO_move rfl rfl rfl ?_
        refine HO_no rfl rfl rfl ?_
        refine HO_no rfl rfl rfl ?_
        refine HO_no rfl rfl rfl ?_
        refine HO_no rfl rfl rfl ?_
        refine HO_no rfl rfl rfl ?_
        refine HO_pick_f rfl rfl rfl rfl ?_
        refine HO_move rfl rfl rfl ?_
        refine HO_no rfl rfl rfl ?_
        refine HO_no rfl rfl rfl ?_
        refine HO_no rfl rfl rfl ?_
        refine HO_no rfl rfl rfl ?_
        refine HO_no rfl rfl rfl ?_
        refine HO_pick_f rfl rfl rfl rfl ?_
        refine HO_assign rfl rfl rfl ?_
        refine HO_nil ?_
        refine H_env (ρ' := [(4, _)]) ⟨rfl, trivial⟩ ?_
        refine H_world (fun _ hA => hA.drop (is := [0, 1, 2, 3, 4, 5, 6, 7, 8, 9]) (Y := [_, _, _, _, _, _, _, _, _, _]) (Z := []) rfl) ?_
        -- end10
        refine H_ret1 Try.results63 (.tmp rfl) (fun w hA => ⟨(), congrArg Ending.returned ?_, ?_, ?_⟩)
        · (exact congrArg Value.bool (by first | (simp [*]; done) | (simp_all; done) | (simp_all; intros; simp_all)))
        · trivial
        · exact hA.only (is := []) (Z := []) rfl
    · intro h17
      (try simp only [decide_eq_true_eq, decide_eq_false_iff_not, Bool.not_eq_true', Bool.not_eq_false', Bool.not_eq_true, Bool.not_eq_false, Bool.true_eq_false, Bool.false_eq_true, not_false_eq_true, not_true_eq_false] at h17)
      refine HO_no rfl rfl rfl ?_
      refine HO_no rfl rfl rfl ?_
      refine HO_no rfl rfl rfl ?_
      refine HO_no rfl rfl rfl ?_
      refine HO_no rfl rfl rfl ?_
      refine HO_pick_f rfl rfl rfl rfl ?_
      refine HO_move rfl rfl rfl ?_
      refine HO_no rfl rfl rfl ?_
      refine HO_no rfl rfl rfl ?_
      refine HO_no rfl rfl rfl ?_
      refine HO_no rfl rfl rfl ?_
      refine HO_no rfl rfl rfl ?_
      refine HO_pick_f rfl rfl rfl rfl ?_
      refine HO_move rfl rfl rfl ?_
      refine HO_no rfl rfl rfl ?_
      refine HO_no rfl rfl rfl ?_
      refine HO_no rfl rfl rfl ?_
      refine HO_no rfl rfl rfl ?_
      refine HO_no rfl rfl rfl ?_
      refine HO_pick_f rfl rfl rfl rfl ?_
      refine HO_move rfl rfl rfl ?_
      refine HO_no rfl rfl rfl ?_
      refine HO_no rfl rfl rfl ?_
      refine HO_no rfl rfl rfl ?_
      refine HO_no rfl rfl rfl ?_
      refine HO_no rfl rfl rfl ?_
      refine HO_pick_f rfl rfl rfl rfl ?_
      refine HO_move rfl rfl rfl ?_
      refine HO_no rfl rfl rfl ?_
      refine HO_no rfl rfl rfl ?_
      refine HO_no rfl rfl rfl ?_
      refine HO_no rfl rfl rfl ?_
      refine HO_no rfl rfl rfl ?_
      refine HO_pick_f rfl rfl rfl rfl ?_
      refine HO_move rfl rfl rfl ?_
      refine HO_no rfl rfl rfl ?_
      refine HO_no rfl rfl rfl ?_
      refine HO_no rfl rfl rfl ?_
      refine HO_no rfl rfl rfl ?_
      refine HO_no rfl rfl rfl ?_
      refine HO_pick_f rfl rfl rfl rfl ?_
      refine HO_move rfl rfl rfl ?_
      refine HO_no rfl rfl rfl ?_
      refine HO_no rfl rfl rfl ?_
      refine HO_no rfl rfl rfl ?_
      refine HO_no rfl rfl rfl ?_
      refine HO_no rfl rfl rfl ?_
      refine HO_pick_f rfl rfl rfl rfl ?_
      refine HO_move rfl rfl rfl ?_
      refine HO_no rfl rfl rfl ?_
      refine HO_no rfl rfl rfl ?_
      refine HO_no rfl rfl rfl ?_
      refine HO_no rfl rfl rfl ?_
      refine HO_no rfl rfl rfl ?_
      refine HO_pick_f rfl rfl rfl rfl ?_
      refine HO_move rfl rfl rfl ?_
      refine HO_no rfl rfl rfl ?_
      refine HO_no rfl rfl rfl ?_
      refine HO_no rfl rfl rfl ?_
      refine HO_no rfl rfl rfl ?_
      refine HO_no rfl rfl rfl ?_
      refine HO_pick_f rfl rfl rfl rfl ?_
      refine HO_move rfl rfl rfl ?_
      refine HO_no rfl rfl rfl ?_
      refine HO_no rfl rfl rfl ?_
      refine HO_no rfl rfl rfl ?_
      refine HO_no rfl rfl rfl ?_
      refine HO_no rfl rfl rfl ?_
      refine HO_pick_f rfl rfl rfl rfl ?_
      refine HO_assign rfl rfl rfl ?_
      refine HO_nil ?_
      refine H_env (ρ' := [(4, _)]) ⟨rfl, trivial⟩ ?_
      refine H_world (fun _ hA => hA.drop (is := [0, 1, 2, 3, 4, 5, 6, 7, 8, 9]) (Y := [_, _, _, _, _, _, _, _, _, _]) (Z := []) rfl) ?_
      -- end11
      refine H_ret1 Try.results63 (.tmp rfl) (fun w hA => ⟨(), congrArg Ending.returned ?_, ?_, ?_⟩)
      · (exact congrArg Value.bool (by first | (simp [*]; done) | (simp_all; done) | (simp_all; intros; simp_all)))
      · trivial
      · exact hA.only (is := []) (Z := []) rfl
  · intro h10
    (try simp only [decide_eq_true_eq, decide_eq_false_iff_not, Bool.not_eq_true', Bool.not_eq_false', Bool.not_eq_true, Bool.not_eq_false, Bool.true_eq_false, Bool.false_eq_true, not_false_eq_true, not_true_eq_false] at h10)
    refine HO_no rfl rfl rfl ?_
    refine HO_no rfl rfl rfl ?_
    refine HO_no rfl rfl rfl ?_
    refine HO_no rfl rfl rfl ?_
    refine HO_no rfl rfl rfl ?_
    refine HO_pick_f rfl rfl rfl rfl ?_
    refine HO_move rfl rfl rfl ?_
    refine HO_no rfl rfl rfl ?_
    refine HO_no rfl rfl rfl ?_
    refine HO_no rfl rfl rfl ?_
    refine HO_no rfl rfl rfl ?_
    refine HO_no rfl rfl rfl ?_
    refine HO_pick_f rfl rfl rfl rfl ?_
    refine HO_move rfl rfl rfl ?_
    refine HO_no rfl rfl rfl ?_
    refine HO_no rfl rfl rfl ?_
    refine HO_no rfl rfl rfl ?_
    refine HO_no rfl rfl rfl ?_
    refine HO_no rfl rfl rfl ?_
    refine HO_pick_f rfl rfl rfl rfl ?_
    refine HO_move rfl rfl rfl ?_
    refine HO_no rfl rfl rfl ?_
    refine HO_no rfl rfl rfl ?_
    refine HO_no rfl rfl rfl ?_
    refine HO_no rfl rfl rfl ?_
    refine HO_no rfl rfl rfl ?_
    refine HO_pick_f rfl rfl rfl rfl ?_
    refine HO_move rfl rfl rfl ?_
    refine HO_no rfl rfl rfl ?_
    refine HO_no rfl rfl rfl ?_
    refine HO_no rfl rfl rfl ?_
    refine HO_no rfl rfl rfl ?_
    refine HO_no rfl rfl rfl ?_
    refine HO_pick_f rfl rfl rfl rfl ?_
    refine HO_move rfl rfl rfl ?_
    refine HO_no rfl rfl rfl ?_
    refine HO_no rfl rfl rfl ?_
    refine HO_no rfl rfl rfl ?_
    refine HO_no rfl rfl rfl ?_
    refine HO_no rfl rfl rfl ?_
    refine HO_pick_f rfl rfl rfl rfl ?_
    refine HO_move rfl rfl rfl ?_
    refine HO_no rfl rfl rfl ?_
    refine HO_no rfl rfl rfl ?_
    refine HO_no rfl rfl rfl ?_
    refine HO_no rfl rfl rfl ?_
    refine HO_no rfl rfl rfl ?_
    refine HO_pick_f rfl rfl rfl rfl ?_
    refine HO_move rfl rfl rfl ?_
    refine HO_no rfl rfl rfl ?_
    refine HO_no rfl rfl rfl ?_
    refine HO_no rfl rfl rfl ?_
    refine HO_no rfl rfl rfl ?_
    refine HO_no rfl rfl rfl ?_
    refine HO_pick_f rfl rfl rfl rfl ?_
    refine HO_move rfl rfl rfl ?_
    refine HO_no rfl rfl rfl ?_
    refine HO_no rfl rfl rfl ?_
    refine HO_no rfl rfl rfl ?_
    refine HO_no rfl rfl rfl ?_
    refine HO_no rfl rfl rfl ?_
    refine HO_pick_f rfl rfl rfl rfl ?_
    refine HO_move rfl rfl rfl ?_
    refine HO_no rfl rfl rfl ?_
    refine HO_no rfl rfl rfl ?_
    refine HO_no rfl rfl rfl ?_
    refine HO_no rfl rfl rfl ?_
    refine HO_no rfl rfl rfl ?_
    refine HO_pick_f rfl rfl rfl rfl ?_
    refine HO_move rfl rfl rfl ?_
    refine HO_no rfl rfl rfl ?_
    refine HO_no rfl rfl rfl ?_
    refine HO_no rfl rfl rfl ?_
    refine HO_no rfl rfl rfl ?_
    refine HO_no rfl rfl rfl ?_
    refine HO_pick_f rfl rfl rfl rfl ?_
    refine HO_assign rfl rfl rfl ?_
    refine HO_nil ?_
    refine H_env (ρ' := [(4, _)]) ⟨rfl, trivial⟩ ?_
    refine H_world (fun _ hA => hA.drop (is := [0, 1, 2, 3, 4, 5, 6, 7, 8, 9]) (Y := [_, _, _, _, _, _, _, _, _, _]) (Z := []) rfl) ?_
    -- end12
    refine H_ret1 Try.results63 (.tmp rfl) (fun w hA => ⟨(), congrArg Ending.returned ?_, ?_, ?_⟩)
    · (exact congrArg Value.bool (by first | (simp [*]; done) | (simp_all; done) | (simp_all; intros; simp_all)))
    · trivial
    · exact hA.only (is := []) (Z := []) rfl
theorem listent_spec (b : List UInt8) (a0 : Option Addr) (c0 : Nat) (es : List Ent) (a9 : Option Addr) (c9 : Nat) (hb : b.length ≤ 1000000) (hn : es.length ≤ 400) (hws : Ent.wsum es ≤ 400) (hsn : Ent.sanes es) : Spec Try.prog 114 #[.slice a0 (b.length) c0, .slice a9 (es.length) c9, .func (.func 92) #[] #[]] [.dat kByte.sl (b) [.slice a0 (b.length) c0], .dat kEnt.sl (es) [.slice a9 (es.length) c9]] (β := Option Addr × Nat) (fun y => .slice y.1 ((b ++ (Cod.enc es.length ++ Ent.entsB es)).length) y.2) (fun y => True) (fun y => [.dat kByte.sl (b ++ (Cod.enc es.length ++ Ent.entsB es)) [.slice y.1 ((b ++ (Cod.enc es.length ++ Ent.entsB es)).length) y.2]]) := by
  have hle := Cod.enc_le9 es.length
  refine Spec.enter (vs := [_, _, _]) Try.func114 rfl Try.ntmps114 rfl (Nat.le_of_ble_eq_true rfl) (fun w0 ok0 => ?_)
  generalize hM0 : blks _ = M0
  have hMn : ∀ {R : List Atom} (b : Nat), M0 b → blks R b := fun b hb => absurd (hM0 ▸ hb) (blks_none (by simp [Atom.dat, Atom.elem]) b)
  refine H_len_le (i := 1) rfl ?_
  intro hlen1
  refine H_seq ?_
  -- R0 entry.go:60
  refine H_region (l := [_]) rfl ?_
  refine HO_assign rfl rfl rfl ?_
  refine HO_nil ?_
  refine H_env (ρ' := [(0, _), (1, _), (2, _)]) ⟨rfl, rfl, rfl, trivial⟩ ?_
  refine H_seq ?_
  -- R1 entry.go:61
  refine H_region (l := [_, _, _, _, _, _]) rfl ?_
  refine HO_move rfl rfl rfl ?_
  refine HO_move rfl rfl rfl ?_
  refine HO_bi rfl rfl rfl (bi_len_sl Try.underlying51) ?_
  refine HO_conv rfl rfl rfl (cv_int Try.underlying3 Try.underlying97 (wrap_u_i rfl _)) ?_
  refine HO_set (v' := .int .u64 ((es.length : Int))) 12 rfl (by exact congrArg (Value.int .u64) (by simp only [IntKind.bits]; omega)) ?_
  refine HO_dup (i := 0) rfl rfl ?_
  refine HO_call (first := []) (capt := []) (is := [0]) (R := [_, _]) rfl rfl rfl rfl rfl Try.call67 rfl (Put_spec _ _ _ _ ?_ ?_) ?_
  · omega
  · omega
  intro y13 hy13
  refine HO_assign rfl rfl rfl ?_
  refine HO_nil ?_
  refine H_env (ρ' := [(0, _), (1, _), (2, _)]) ⟨rfl, rfl, rfl, trivial⟩ ?_
  refine H_world (fun _ hA => hA.drop (is := [1]) (Y := [_]) (Z := [_, _]) rfl) ?_
  refine H_seq ?_
  refine H_seq ?_
  -- R2 entry.go:62
  refine H_region (l := [_, _, _]) rfl ?_
  refine HO_move rfl rfl rfl ?_
  refine HO_bi rfl rfl rfl (bi_len_sl Try.underlying51) ?_
  refine HO_move rfl rfl rfl ?_
  refine HO_nil ?_
  refine H_env (ρ' := [(16, _), (15, _), (14, _), (0, _), (2, _)]) ⟨rfl, rfl, rfl, rfl, rfl, trivial⟩ ?_
  refine H_block ?_
  refine H_freeze (i := 0) (R := [_]) rfl hMn ?_
  refine H_loop (σ := Nat × List UInt8 × Option Addr × Nat) (fun s => s.2.1 = b ++ Cod.enc es.length ++ Ent.entsB (es.take s.1) ∧ s.1 ≤ es.length) (fun s => [(0, .slice s.2.2.1 (s.2.1.length) s.2.2.2), (2, .func (.func 92) #[] #[]), (14, .slice a9 (es.length) c9), (15, .int .i64 ((es.length : Int))), (16, .int .i64 ((s.1 : Int)))]) (fun s => Asn w0 ok0 M0 [.dat kByte.sl (s.2.1) [.slice s.2.2.1 (s.2.1.length) s.2.2.2], .dat kEnt.sl (es) [.slice a9 (es.length) c9]]) (fun s => es.length - s.1) ⟨0, b ++ Cod.enc es.length, y13.1, y13.2⟩ ?_ ?_ ?_ ?_
  · exact ⟨by simp [Ent.entsB], Nat.zero_le _⟩
  · exact ⟨rfl, rfl, rfl, rfl, rfl, trivial⟩
  · intro w hA
    exact hA.only (is := [0, 1]) (Z := []) rfl
  · rintro ⟨i, r, p, q⟩ hI
    (try dsimp only at hI ⊢)
    refine H_seq ?_
    -- R3 entry.go:62
    refine H_region (l := [_]) rfl ?_
    refine HO_bin rfl rfl rfl rfl bin_lss ?_
    refine HO_nil ?_
    refine H_seq ?_
    refine H_cond rfl ?_ ?_
    · intro h17
      (try simp only [decide_eq_true_eq, decide_eq_false_iff_not, Bool.not_eq_true', Bool.not_eq_false', Bool.not_eq_true, Bool.not_eq_false, Bool.true_eq_false, Bool.false_eq_true, not_false_eq_true, not_true_eq_false] at h17)
      refine H_skip ?_
      refine H_seq ?_
      refine H_block ?_
      refine H_seq ?_
      -- R4 entry.go:62
      refine H_region (l := [_, _, _, _]) rfl ?_
      refine HO_indexAddr open_Ent (i := 1) rfl rfl rfl rfl rfl Try.underlying51 Try.sizeOf61 rfl ?_ ?_
      · omega
      intro b18 o18 z18 y18 hz18 hI18
      (try simp only [BIG] at hI18)
      refine HO_loadA (i := 0) (us := []) (cs := [_, _, _, _, _, _, _, _, _, _, _, _, _]) (ts := []) rfl rfl rfl Try.isAgg61 Try.sizeOf61 rfl (.elem _ _ _) rfl rfl rfl rfl ?_
      refine HO_alloc (cs := [_, _, _, _, _, _, _, _, _, _, _, _, _]) rfl rfl Try.zeroValue61 rfl ?_
      intro g8
      refine HO_store (i := 0) (j := 0) (us := []) (old := [_, _, _, _, _, _, _, _, _, _, _, _, _]) (ts := []) (cs := [_, _, _, _, _, _, _, _, _, _, _, _, _]) (R := [_, _, _, _, _]) (new := [_, _, _, _, _, _, _, _, _, _, _, _, _]) rfl rfl rfl Try.sizeOf61 rfl (by simp [Value.oneCell']) rfl rfl rfl rfl rfl rfl ?_
      refine HO_nil ?_
      refine H_env (ρ' := [(8, _), (0, _), (2, _), (14, _), (15, _), (16, _)]) ⟨rfl, rfl, rfl, rfl, rfl, rfl, trivial⟩ ?_
      refine H_world (fun _ hA => hA.drop (is := [1]) (Y := [_]) (Z := [_, _, _, _, _]) rfl) ?_
      -- R5 entry.go:63
      have hsl : r.length ≤ 2000000 := by rw [hI.1]; have := Ent.ents_take_len (i := i) hws; simp only [List.length_append]; omega
      have hwz := Ent.weight_at hz18 hws
      have hsz := hsn _ (List.mem_of_getElem? hz18)
      refine H_region (l := [_, _, _, _, _]) rfl ?_
      refine HO_move rfl rfl rfl ?_
      refine HO_move rfl rfl rfl ?_
      refine HO_loadA (i := 0) (us := []) (cs := [_, _, _, _, _, _, _, _, _, _, _, _, _]) (ts := []) rfl rfl rfl Try.isAgg61 Try.sizeOf61 rfl (.loc _ _ _) rfl rfl rfl rfl ?_
      refine HO_dup (i := 3) rfl rfl ?_
      refine HO_dup (i := 2) rfl rfl ?_
      refine HO_dup (i := 4) rfl rfl ?_
      refine HO_call (first := []) (capt := []) (is := [0, 0, 0]) (R := [_, _, _, _, _]) rfl rfl rfl rfl rfl Try.call92 rfl (putent_spec _ _ _ _ _ _ _ _ _ _ _ _ _ _ _ _ _ _ _ _ ?_ ?_ ?_ ?_ ?_) ?_
      · omega
      · (unfold Ent.weight at hwz; omega)
      · (unfold Ent.weight at hwz; omega)
      · (unfold Ent.weight at hwz; omega)
      · exact ⟨hsz.1, hsz.2.1, hsz.2.2.1⟩
      intro y23 hy23
      refine HO_assign rfl rfl rfl ?_
      refine HO_nil ?_
      refine H_env (ρ' := [(0, _), (2, _), (14, _), (15, _), (16, _)]) ⟨rfl, rfl, rfl, rfl, rfl, trivial⟩ ?_
      refine H_world (fun _ hA => hA.drop (is := [1, 2, 3, 4]) (Y := [_, _, _, _]) (Z := [_, _]) rfl) ?_
      refine H_blk ?_
      -- R6 entry.go:62
      refine H_region (l := [_, _]) rfl ?_
      refine HO_bin rfl rfl rfl rfl (bin_add ?_ ?_) ?_
      · omega
      · omega
      refine HO_move rfl rfl rfl ?_
      refine HO_nil ?_
      refine H_env (ρ' := [(16, _), (0, _), (2, _), (14, _), (15, _)]) ⟨rfl, rfl, rfl, rfl, rfl, trivial⟩ ?_
      refine H_inv (fun a w hf hA => ⟨⟨i + 1, r ++ Ent.entB z18, y23.1, y23.2⟩, ?_, ?_, hf.sub ?_, ?_⟩)
      · exact ⟨by rw [hI.1, Ent.ents_next hz18]; simp, by omega⟩
      · (try dsimp only); omega
      · exact ⟨rfl, rfl, rfl, rfl, rfl, trivial⟩
      · exact hA.only (is := [0, 1]) (Z := []) rfl
    · intro h17
      (try simp only [decide_eq_true_eq, decide_eq_false_iff_not, Bool.not_eq_true', Bool.not_eq_false', Bool.not_eq_true, Bool.not_eq_false, Bool.true_eq_false, Bool.false_eq_true, not_false_eq_true, not_true_eq_false] at h17)
      refine H_exit rfl ?_
      refine H_seq ?_
      -- R7 entry.go:65
      obtain rfl : i = es.length := by omega
      have hfin : r = b ++ (Cod.enc es.length ++ Ent.entsB es) := by rw [hI.1, List.take_length]; simp
      subst hfin
      refine H_region (l := [_, _]) rfl ?_
      refine HO_move rfl rfl rfl ?_
      refine HO_assign rfl rfl rfl ?_
      refine HO_nil ?_
      refine H_env (ρ' := [(6, _)]) ⟨rfl, trivial⟩ ?_
      refine H_world (fun _ hA => hA.drop (is := [1]) (Y := [_]) (Z := [_]) rfl) ?_
      -- end1
      refine H_ret1 Try.results114 (.tmp rfl) (fun w hA => ⟨(p, q), congrArg Ending.returned ?_, ?_, ?_⟩)
      · rfl
      · trivial
      · exact hA.only (is := [0]) (Z := []) rfl
theorem msgbytes_spec (mk mf mt me mi ml mc mr : Int) (rj : Bool) (hi : Int) (es : List Ent) (a9 : Option Addr) (c9 : Nat) (ix te : Int) (vo le : List Int) (a1 : Option Addr) (c1 : Nat) (a2 : Option Addr) (c2 : Nat) (da : List UInt8) (a3 : Option Addr) (c3 : Nat) (hd : da.length ≤ 100000) (hv : vo.length ≤ 100000) (hl : le.length ≤ 100000) (hn : es.length ≤ 400) (hws : Ent.wsum es ≤ 400) (hsn : Ent.sanes es) (hm : (-9223372036854775808 ≤ mk ∧ mk ≤ 9223372036854775807) ∧ (-9223372036854775808 ≤ mf ∧ mf ≤ 9223372036854775807) ∧ (-9223372036854775808 ≤ mt ∧ mt ≤ 9223372036854775807) ∧ (-9223372036854775808 ≤ me ∧ me ≤ 9223372036854775807) ∧ (-9223372036854775808 ≤ mi ∧ mi ≤ 9223372036854775807) ∧ (-9223372036854775808 ≤ ml ∧ ml ≤ 9223372036854775807) ∧ (-9223372036854775808 ≤ mc ∧ mc ≤ 9223372036854775807) ∧ (-9223372036854775808 ≤ mr ∧ mr ≤ 9223372036854775807)) (hhi : (-9223372036854775808 ≤ hi ∧ hi ≤ 9223372036854775807)) (hrs : (-9223372036854775808 ≤ ix ∧ ix ≤ 9223372036854775807) ∧ (-9223372036854775808 ≤ te ∧ te ≤ 9223372036854775807)) : Spec Try.prog 62 #[.agg #[.int .i64 (mk), .int .i64 (mf), .int .i64 (mt), .int .i64 (me), .int .i64 (mi), .int .i64 (ml), .int .i64 (mc), .int .i64 (mr), .bool (rj), .int .i64 (hi), .slice a9 (es.length) c9, .int .i64 (ix), .int .i64 (te), .slice a1 (vo.length) c1, .slice a2 (le.length) c2, .slice a3 (da.length) c3]] [.dat kEnt.sl (es) [.slice a9 (es.length) c9], .dat kInt.sl (vo) [.slice a1 (vo.length) c1], .dat kInt.sl (le) [.slice a2 (le.length) c2], .dat kByte.sl (da) [.slice a3 (da.length) c3]] (β := Option Addr × Nat) (fun y => .slice y.1 ((Ent.msgB ⟨mk, mf, mt, me, mi, ml, mc, mr, rj, hi, es, ⟨ix, te, ⟨vo, le⟩, da⟩⟩).length) y.2) (fun y => True) (fun y => [.dat kByte.sl (Ent.msgB ⟨mk, mf, mt, me, mi, ml, mc, mr, rj, hi, es, ⟨ix, te, ⟨vo, le⟩, da⟩⟩) [.slice y.1 ((Ent.msgB ⟨mk, mf, mt, me, mi, ml, mc, mr, rj, hi, es, ⟨ix, te, ⟨vo, le⟩, da⟩⟩).length) y.2]]) := by
  have hn8 := Ent.nums_len [mk, mf, mt, me, mi, ml, mc, mr]
  have hn1 := Ent.nums_len [hi]
  simp only [List.length_cons, List.length_nil] at hn8 hn1
  refine Spec.enter (vs := [_]) Try.func62 rfl Try.ntmps62 rfl (Nat.le_of_ble_eq_true rfl) (fun w0 ok0 => ?_)
  generalize hM0 : blks _ = M0
  have hMn : ∀ {R : List Atom} (b : Nat), M0 b → blks R b := fun b hb => absurd (hM0 ▸ hb) (blks_none (by simp [Atom.dat, Atom.elem]) b)
  refine H_len_le (i := 0) rfl ?_
  intro hlen0
  refine H_len_le (i := 1) rfl ?_
  intro hlen1
  refine H_len_le (i := 2) rfl ?_
  intro hlen2
  refine H_seq ?_
  -- R0 entry.go:97
  refine H_region (l := [_, _]) rfl ?_
  refine HO_box (cs := [_, _, _, _, _, _, _, _, _, _, _, _, _, _, _, _]) rfl rfl rfl rfl ?_
  intro g1
  refine HO_assign rfl rfl rfl ?_
  refine HO_nil ?_
  refine H_env (ρ' := [(1, _)]) ⟨rfl, trivial⟩ ?_
  refine H_seq ?_
  -- R1 entry.go:98
  refine H_region (l := [_, _, _, _, _, _, _, _, _, _, _, _, _, _, _, _, _, _, _]) rfl ?_
  refine HO_fieldAddr (r := 0) rfl rfl rfl Try.underlying53 rfl Try.sizeOf3 rfl ?_
  refine HO_load1 (i := 0) (j := 0) rfl rfl rfl Try.isAgg3 rfl (.loc _ _ _) rfl rfl ?_
  refine HO_fieldAddr (r := 1) rfl rfl rfl Try.underlying53 rfl Try.sizeOf3 rfl ?_
  refine HO_load1 (i := 0) (j := 1) rfl rfl rfl Try.isAgg3 rfl (.loc _ _ _) rfl rfl ?_
  refine HO_fieldAddr (r := 2) rfl rfl rfl Try.underlying53 rfl Try.sizeOf3 rfl ?_
  refine HO_load1 (i := 0) (j := 2) rfl rfl rfl Try.isAgg3 rfl (.loc _ _ _) rfl rfl ?_
  refine HO_fieldAddr (r := 3) rfl rfl rfl Try.underlying53 rfl Try.sizeOf3 rfl ?_
  refine HO_load1 (i := 0) (j := 3) rfl rfl rfl Try.isAgg3 rfl (.loc _ _ _) rfl rfl ?_
  refine HO_fieldAddr (r := 4) rfl rfl rfl Try.underlying53 rfl Try.sizeOf3 rfl ?_
  refine HO_load1 (i := 0) (j := 4) rfl rfl rfl Try.isAgg3 rfl (.loc _ _ _) rfl rfl ?_
  refine HO_fieldAddr (r := 5) rfl rfl rfl Try.underlying53 rfl Try.sizeOf3 rfl ?_
  refine HO_load1 (i := 0) (j := 5) rfl rfl rfl Try.isAgg3 rfl (.loc _ _ _) rfl rfl ?_
  refine HO_fieldAddr (r := 6) rfl rfl rfl Try.underlying53 rfl Try.sizeOf3 rfl ?_
  refine HO_load1 (i := 0) (j := 6) rfl rfl rfl Try.isAgg3 rfl (.loc _ _ _) rfl rfl ?_
  refine HO_fieldAddr (r := 7) rfl rfl rfl Try.underlying53 rfl Try.sizeOf3 rfl ?_
  refine HO_load1 (i := 0) (j := 7) rfl rfl rfl Try.isAgg3 rfl (.loc _ _ _) rfl rfl ?_
  refine HO_buildSlice (kd := kInt) (xo := [_, _, _, _, _, _, _, _]) (vs := [_, _, _, _, _, _, _, _]) (cs := [_, _, _, _, _, _, _, _]) (xs := [mk, mf, mt, me, mi, ml, mc, mr]) rfl rfl rfl rfl Try.underlying43 elt3 rfl rfl rfl (by decide) (by decide) (by simp [Value.cells]) rfl (by intro ok w _; exact ⟨_, _, rfl, ⟨rfl, by first | omega | (constructor <;> omega)⟩, ⟨_, _, rfl, ⟨rfl, by first | omega | (constructor <;> omega)⟩, ⟨_, _, rfl, ⟨rfl, by first | omega | (constructor <;> omega)⟩, ⟨_, _, rfl, ⟨rfl, by first | omega | (constructor <;> omega)⟩, ⟨_, _, rfl, ⟨rfl, by first | omega | (constructor <;> omega)⟩, ⟨_, _, rfl, ⟨rfl, by first | omega | (constructor <;> omega)⟩, ⟨_, _, rfl, ⟨rfl, by first | omega | (constructor <;> omega)⟩, ⟨_, _, rfl, ⟨rfl, by first | omega | (constructor <;> omega)⟩, rfl⟩⟩⟩⟩⟩⟩⟩⟩) ?_
  intro g20
  refine HO_nilDat kByte ?_
  refine HO_freeze (i := 1) (R := [_, _, _, _, _, _]) rfl hMn ?_
  refine HO_dup (i := 1) rfl rfl ?_
  refine HO_dup (i := 1) rfl rfl ?_
  refine HO_call (first := []) (capt := []) (is := [0, 0]) (R := [_, _, _, _, _, _, _]) rfl rfl rfl rfl rfl Try.call83 rfl (nums_spec _ _ _ _ _ _ ?_ ?_) ?_
  · (simp)
  · (simp)
  intro y21 hy21
  refine HO_assign rfl rfl rfl ?_
  refine HO_nil ?_
  refine H_env (ρ' := [(3, _), (1, _)]) ⟨rfl, rfl, trivial⟩ ?_
  refine H_world (fun _ hA => hA.drop (is := [1, 2]) (Y := [_, _]) (Z := [_, _, _, _, _, _]) rfl) ?_
  refine H_seq ?_
  -- R2 entry.go:99 draws
  refine H_draw (is := [0, 1, 2, 3, 4, 5]) (Xs := [_, _, _, _, _, _]) (Z := []) (fuel := 9) (l := #[false, false, false, false, false, false, false, false, false]) mixed rfl rfl rfl ?_
  refine HA_take (i := 0) (listed' := #[true, false, false, false, false, false, false, false, false]) (bodyPost_pan _ _ _) rfl rfl rfl rfl (by kernel_rfl) rfl (V_move rfl) (fun _ hA => hA.only (is := [0, 1, 2, 3, 4, 5]) (Y := [_, _, _, _, _, _]) (Z := []) rfl) ?_
  refine HA_take (i := 1) (listed' := #[true, true, false, false, false, false, false, false, false]) (bodyPost_pan _ _ _) rfl rfl rfl rfl (by kernel_rfl) rfl (V_fieldAddr (r := 8) rfl Try.underlying53 rfl Try.sizeOf4 rfl) (fun _ hA => hA.only (is := [0, 1, 2, 3, 4, 5]) (Y := [_, _, _, _, _, _]) (Z := []) rfl) ?_
  refine HA_take (i := 2) (listed' := #[true, true, true, false, false, false, false, false, false]) (bodyPost_pan _ _ _) rfl rfl rfl rfl (by kernel_rfl) rfl (V_load1 (i := 1) (j := 8) rfl Try.isAgg4 rfl (.loc _ _ _) rfl rfl) (fun _ hA => hA.only (is := [0, 1, 2, 3, 4, 5]) (Y := [_, _, _, _, _, _]) (Z := []) rfl) ?_
  refine HA_take (i := 4) (listed' := #[true, true, true, false, true, false, false, false, false]) (bodyPost_pan _ _ _) rfl rfl rfl rfl (by kernel_rfl) rfl (V_fieldAddr (r := 9) rfl Try.underlying53 rfl Try.sizeOf3 rfl) (fun _ hA => hA.only (is := [0, 1, 2, 3, 4, 5]) (Y := [_, _, _, _, _, _]) (Z := []) rfl) ?_
  refine HA_take (i := 5) (listed' := #[true, true, true, false, true, true, false, false, false]) (bodyPost_pan _ _ _) rfl rfl rfl rfl (by kernel_rfl) rfl (V_load1 (i := 1) (j := 9) rfl Try.isAgg3 rfl (.loc _ _ _) rfl rfl) (fun _ hA => hA.only (is := [0, 1, 2, 3, 4, 5]) (Y := [_, _, _, _, _, _]) (Z := []) rfl) ?_
  refine HA_loud2 (i := 3) (j := 6) (by kernel_rfl) rfl rfl ?_ ?_
  · refine HO_dup (i := 0) rfl rfl ?_
    refine HO_call (first := []) (capt := []) (is := [0]) (R := [_, _, _, _, _, _]) rfl rfl rfl rfl rfl Try.call74 rfl (PutBool_spec _ _ _ _ ?_) ?_
    · (simp only [List.length_append, List.length_cons, List.length_nil]; omega)
    intro y25 hy25
    refine HA_back (listed' := #[true, true, true, true, true, true, false, false, false]) rfl (fun _ hA => hA.only (is := [1, 2, 3, 4, 5, 6]) (Y := [_, _, _, _, _, _]) (Z := [_]) rfl) ?_
    refine HA_loud1 (i := 6) (by kernel_rfl) rfl ?_
    refine HO_buildSlice (kd := kInt) (xo := [_]) (vs := [_]) (cs := [_]) (xs := [hi]) rfl rfl rfl rfl Try.underlying43 elt3 rfl rfl rfl (by decide) (by decide) (by simp [Value.cells]) rfl (by intro ok w _; exact ⟨_, _, rfl, ⟨rfl, by first | omega | (constructor <;> omega)⟩, rfl⟩) ?_
    intro g28
    refine HA_back (listed' := #[true, true, true, true, true, true, true, false, false]) rfl (fun _ hA => hA.only (is := [2, 3, 4, 5, 6, 7]) (Y := [_, _, _, _, _, _]) (Z := [_, _]) rfl) ?_
    refine HA_loud1 (i := 7) (by kernel_rfl) rfl ?_
    refine HO_freeze (i := 1) (R := [_, _, _, _, _, _, _]) rfl hMn ?_
    refine HO_freeze (i := 1) (R := [_, _, _, _, _, _, _]) rfl hMn ?_
    refine HO_dup (i := 1) rfl rfl ?_
    refine HO_dup (i := 1) rfl rfl ?_
    refine HO_call (first := []) (capt := []) (is := [0, 0]) (R := [_, _, _, _, _, _, _, _]) rfl rfl rfl rfl rfl Try.call83 rfl (nums_spec _ _ _ _ _ _ ?_ ?_) ?_
    · (simp only [List.length_append, List.length_cons, List.length_nil]; omega)
    · (simp)
    intro y29 hy29
    refine HA_back (listed' := #[true, true, true, true, true, true, true, true, false]) rfl (fun _ hA => hA.only (is := [3, 4, 5, 6, 7, 8]) (Y := [_, _, _, _, _, _]) (Z := [_, _, _]) rfl) ?_
    refine HA_take (i := 8) (listed' := #[true, true, true, true, true, true, true, true, true]) (bodyPost_pan _ _ _) rfl rfl rfl rfl (by kernel_rfl) rfl (V_assign rfl) (fun _ hA => hA.only (is := [3, 4, 5, 6, 7, 8]) (Y := [_, _, _, _, _, _]) (Z := [_, _, _]) rfl) ?_
    refine HA_done (by kernel_rfl) ?_
    refine H_env (ρ' := [(3, _), (1, _)]) ⟨rfl, rfl, trivial⟩ ?_
    refine H_world (fun _ hA => hA.drop (is := [1, 2, 3]) (Y := [_, _, _]) (Z := [_, _, _, _, _, _]) rfl) ?_
    refine H_seq ?_
    refine H_seq ?_
    -- R3 entry.go:100
    refine H_region (l := [_, _]) rfl ?_
    refine HO_fieldAddr (r := 0) rfl rfl rfl Try.underlying53 rfl Try.sizeOf3 rfl ?_
    refine HO_load1 (i := 1) (j := 0) rfl rfl rfl Try.isAgg3 rfl (.loc _ _ _) rfl rfl ?_
    refine HO_nil ?_
    refine H_env (ρ' := [(31, _), (3, _), (1, _)]) ⟨rfl, rfl, rfl, trivial⟩ ?_
    refine H_block ?_
    refine H_seq ?_
    -- R4 entry.go:101
    refine H_region (l := [_, _]) rfl ?_
    refine HO_bin rfl rfl rfl rfl bin_eql ?_
    refine HO_assign rfl rfl rfl ?_
    refine HO_nil ?_
    refine H_env (ρ' := [(32, _), (31, _), (3, _), (1, _)]) ⟨rfl, rfl, rfl, rfl, trivial⟩ ?_
    refine H_cond rfl ?_ ?_
    · intro h32
      (try simp only [decide_eq_true_eq, decide_eq_false_iff_not, Bool.not_eq_true', Bool.not_eq_false', Bool.not_eq_true, Bool.not_eq_false, Bool.true_eq_false, Bool.false_eq_true, not_false_eq_true, not_true_eq_false] at h32)
      refine H_seq ?_
      -- R5 entry.go:102
      refine H_region (l := [_, _, _, _, _]) rfl ?_
      refine HO_move rfl rfl rfl ?_
      refine HO_fieldAddr (r := 10) rfl rfl rfl Try.underlying53 rfl Try.sizeOf51 rfl ?_
      refine HO_load1 (i := 1) (j := 10) rfl rfl rfl Try.isAgg51 rfl (.loc _ _ _) rfl rfl ?_
      refine HO_dup (i := 0) rfl rfl ?_
      refine HO_dup (i := 3) rfl rfl ?_
      refine HO_call (first := []) (capt := []) (is := [0, 0]) (R := [_, _, _, _, _, _]) rfl rfl rfl rfl rfl Try.call114 rfl (listent_spec _ _ _ _ _ _ ?_ ?_ ?_ ?_) ?_
      · (simp only [List.length_append, List.length_cons, List.length_nil]; omega)
      · omega
      · exact hws
      · exact hsn
      intro y37 hy37
      refine HO_assign rfl rfl rfl ?_
      refine HO_nil ?_
      refine H_env (ρ' := [(2, _)]) ⟨rfl, trivial⟩ ?_
      refine H_world (fun _ hA => hA.drop (is := [1, 2, 3, 4, 5, 6]) (Y := [_, _, _, _, _, _]) (Z := [_]) rfl) ?_
      -- end1
      refine H_ret1 Try.results62 (.tmp rfl) (fun w hA => ⟨y37, congrArg Ending.returned ?_, ?_, ?_⟩)
      · (simp [Ent.msgB, *])
      · trivial
      · exact (hA.only (is := [0]) (Z := []) rfl).cast (by simp [Ent.msgB, *])
    · intro h32
      (try simp only [decide_eq_true_eq, decide_eq_false_iff_not, Bool.not_eq_true', Bool.not_eq_false', Bool.not_eq_true, Bool.not_eq_false, Bool.true_eq_false, Bool.false_eq_true, not_false_eq_true, not_true_eq_false] at h32)
      refine H_seq ?_
      -- R6 entry.go:103
      refine H_region (l := [_, _]) rfl ?_
      refine HO_bin rfl rfl rfl rfl bin_eql ?_
      refine HO_assign rfl rfl rfl ?_
      refine HO_nil ?_
      refine H_env (ρ' := [(38, _), (3, _), (1, _)]) ⟨rfl, rfl, rfl, trivial⟩ ?_
      refine H_cond rfl ?_ ?_
      · intro h38
        (try simp only [decide_eq_true_eq, decide_eq_false_iff_not, Bool.not_eq_true', Bool.not_eq_false', Bool.not_eq_true, Bool.not_eq_false, Bool.true_eq_false, Bool.false_eq_true, not_false_eq_true, not_true_eq_false] at h38)
        refine H_seq ?_
        -- R7 entry.go:104
        refine H_region (l := [_, _, _, _, _]) rfl ?_
        refine HO_move rfl rfl rfl ?_
        refine HO_fieldAddr (r := 11) rfl rfl rfl Try.underlying53 rfl Try.sizeOf47 rfl ?_
        refine HO_loadA (i := 1) (us := [_, _, _, _, _, _, _, _, _, _, _]) (cs := [_, _, _, _, _]) (ts := []) rfl rfl rfl Try.isAgg47 Try.sizeOf47 rfl (.loc _ _ _) rfl rfl rfl rfl ?_
        refine HO_dup (i := 0) rfl rfl ?_
        refine HO_dup (i := 4) rfl rfl ?_
        refine HO_dup (i := 6) rfl rfl ?_
        refine HO_dup (i := 8) rfl rfl ?_
        refine HO_call (first := []) (capt := []) (is := [0, 0, 0, 0]) (R := [_, _, _, _, _, _]) rfl rfl rfl rfl rfl Try.call81 rfl (putsnap_spec _ _ _ _ _ _ _ _ _ _ _ _ _ _ ?_ ?_ ?_ ?_ ?_) ?_
        · (simp only [List.length_append, List.length_cons, List.length_nil]; omega)
        · omega
        · omega
        · omega
        · exact hrs
        intro y43 hy43
        refine HO_assign rfl rfl rfl ?_
        refine HO_nil ?_
        refine H_env (ρ' := [(2, _)]) ⟨rfl, trivial⟩ ?_
        refine H_world (fun _ hA => hA.drop (is := [1, 2, 3, 4, 5, 6]) (Y := [_, _, _, _, _, _]) (Z := [_]) rfl) ?_
        -- end2
        refine H_ret1 Try.results62 (.tmp rfl) (fun w hA => ⟨y43, congrArg Ending.returned ?_, ?_, ?_⟩)
        · (simp [Ent.msgB, *])
        · trivial
        · exact (hA.only (is := [0]) (Z := []) rfl).cast (by simp [Ent.msgB, *])
      · intro h38
        (try simp only [decide_eq_true_eq, decide_eq_false_iff_not, Bool.not_eq_true', Bool.not_eq_false', Bool.not_eq_true, Bool.not_eq_false, Bool.true_eq_false, Bool.false_eq_true, not_false_eq_true, not_true_eq_false] at h38)
        refine H_skip ?_
        refine H_blk ?_
        refine H_seq ?_
        -- R8 entry.go:106
        refine H_region (l := [_, _]) rfl ?_
        refine HO_move rfl rfl rfl ?_
        refine HO_assign rfl rfl rfl ?_
        refine HO_nil ?_
        refine H_env (ρ' := [(2, _)]) ⟨rfl, trivial⟩ ?_
        refine H_world (fun _ hA => hA.drop (is := [1, 2, 3, 4, 5]) (Y := [_, _, _, _, _]) (Z := [_]) rfl) ?_
        -- end3
        refine H_ret1 Try.results62 (.tmp rfl) (fun w hA => ⟨y29, congrArg Ending.returned ?_, ?_, ?_⟩)
        · (simp [Ent.msgB, *])
        · trivial
        · exact (hA.only (is := [0]) (Z := []) rfl).cast (by simp [Ent.msgB, *])
  · refine HO_buildSlice (kd := kInt) (xo := [_]) (vs := [_]) (cs := [_]) (xs := [hi]) rfl rfl rfl rfl Try.underlying43 elt3 rfl rfl rfl (by decide) (by decide) (by simp [Value.cells]) rfl (by intro ok w _; exact ⟨_, _, rfl, ⟨rfl, by first | omega | (constructor <;> omega)⟩, rfl⟩) ?_
    intro g28
    refine HA_back (listed' := #[true, true, true, false, true, true, true, false, false]) rfl (fun _ hA => hA.only (is := [1, 2, 3, 4, 5, 6]) (Y := [_, _, _, _, _, _]) (Z := [_]) rfl) ?_
    refine HA_loud1 (i := 3) (by kernel_rfl) rfl ?_
    refine HO_dup (i := 1) rfl rfl ?_
    refine HO_call (first := []) (capt := []) (is := [0]) (R := [_, _, _, _, _, _, _]) rfl rfl rfl rfl rfl Try.call74 rfl (PutBool_spec _ _ _ _ ?_) ?_
    · (simp only [List.length_append, List.length_cons, List.length_nil]; omega)
    intro y25 hy25
    refine HA_back (listed' := #[true, true, true, true, true, true, true, false, false]) rfl (fun _ hA => hA.only (is := [2, 3, 4, 5, 6, 7]) (Y := [_, _, _, _, _, _]) (Z := [_, _]) rfl) ?_
    refine HA_loud1 (i := 7) (by kernel_rfl) rfl ?_
    refine HO_freeze (i := 0) (R := [_, _, _, _, _, _, _]) rfl hMn ?_
    refine HO_freeze (i := 1) (R := [_, _, _, _, _, _, _]) rfl hMn ?_
    refine HO_dup (i := 1) rfl rfl ?_
    refine HO_dup (i := 1) rfl rfl ?_
    refine HO_call (first := []) (capt := []) (is := [0, 0]) (R := [_, _, _, _, _, _, _, _]) rfl rfl rfl rfl rfl Try.call83 rfl (nums_spec _ _ _ _ _ _ ?_ ?_) ?_
    · (simp only [List.length_append, List.length_cons, List.length_nil]; omega)
    · (simp)
    intro y29 hy29
    refine HA_back (listed' := #[true, true, true, true, true, true, true, true, false]) rfl (fun _ hA => hA.only (is := [3, 4, 5, 6, 7, 8]) (Y := [_, _, _, _, _, _]) (Z := [_, _, _]) rfl) ?_
    refine HA_take (i := 8) (listed' := #[true, true, true, true, true, true, true, true, true]) (bodyPost_pan _ _ _) rfl rfl rfl rfl (by kernel_rfl) rfl (V_assign rfl) (fun _ hA => hA.only (is := [3, 4, 5, 6, 7, 8]) (Y := [_, _, _, _, _, _]) (Z := [_, _, _]) rfl) ?_
    refine HA_done (by kernel_rfl) ?_
    refine H_env (ρ' := [(3, _), (1, _)]) ⟨rfl, rfl, trivial⟩ ?_
    refine H_world (fun _ hA => hA.drop (is := [1, 2, 3]) (Y := [_, _, _]) (Z := [_, _, _, _, _, _]) rfl) ?_
    refine H_seq ?_
    refine H_seq ?_
    -- R3 entry.go:100
    refine H_region (l := [_, _]) rfl ?_
    refine HO_fieldAddr (r := 0) rfl rfl rfl Try.underlying53 rfl Try.sizeOf3 rfl ?_
    refine HO_load1 (i := 1) (j := 0) rfl rfl rfl Try.isAgg3 rfl (.loc _ _ _) rfl rfl ?_
    refine HO_nil ?_
    refine H_env (ρ' := [(31, _), (3, _), (1, _)]) ⟨rfl, rfl, rfl, trivial⟩ ?_
    refine H_block ?_
    refine H_seq ?_
    -- R4 entry.go:101
    refine H_region (l := [_, _]) rfl ?_
    refine HO_bin rfl rfl rfl rfl bin_eql ?_
    refine HO_assign rfl rfl rfl ?_
    refine HO_nil ?_
    refine H_env (ρ' := [(32, _), (31, _), (3, _), (1, _)]) ⟨rfl, rfl, rfl, rfl, trivial⟩ ?_
    refine H_cond rfl ?_ ?_
    · intro h32
      (try simp only [decide_eq_true_eq, decide_eq_false_iff_not, Bool.not_eq_true', Bool.not_eq_false', Bool.not_eq_true, Bool.not_eq_false, Bool.true_eq_false, Bool.false_eq_true, not_false_eq_true, not_true_eq_false] at h32)
      refine H_seq ?_
      -- R5 entry.go:102
      refine H_region (l := [_, _, _, _, _]) rfl ?_
      refine HO_move rfl rfl rfl ?_
      refine HO_fieldAddr (r := 10) rfl rfl rfl Try.underlying53 rfl Try.sizeOf51 rfl ?_
      refine HO_load1 (i := 1) (j := 10) rfl rfl rfl Try.isAgg51 rfl (.loc _ _ _) rfl rfl ?_
      refine HO_dup (i := 0) rfl rfl ?_
      refine HO_dup (i := 3) rfl rfl ?_
      refine HO_call (first := []) (capt := []) (is := [0, 0]) (R := [_, _, _, _, _, _]) rfl rfl rfl rfl rfl Try.call114 rfl (listent_spec _ _ _ _ _ _ ?_ ?_ ?_ ?_) ?_
      · (simp only [List.length_append, List.length_cons, List.length_nil]; omega)
      · omega
      · exact hws
      · exact hsn
      intro y37 hy37
      refine HO_assign rfl rfl rfl ?_
      refine HO_nil ?_
      refine H_env (ρ' := [(2, _)]) ⟨rfl, trivial⟩ ?_
      refine H_world (fun _ hA => hA.drop (is := [1, 2, 3, 4, 5, 6]) (Y := [_, _, _, _, _, _]) (Z := [_]) rfl) ?_
      -- end4
      refine H_ret1 Try.results62 (.tmp rfl) (fun w hA => ⟨y37, congrArg Ending.returned ?_, ?_, ?_⟩)
      · (simp [Ent.msgB, *])
      · trivial
      · exact (hA.only (is := [0]) (Z := []) rfl).cast (by simp [Ent.msgB, *])
    · intro h32
      (try simp only [decide_eq_true_eq, decide_eq_false_iff_not, Bool.not_eq_true', Bool.not_eq_false', Bool.not_eq_true, Bool.not_eq_false, Bool.true_eq_false, Bool.false_eq_true, not_false_eq_true, not_true_eq_false] at h32)
      refine H_seq ?_
      -- R6 entry.go:103
      refine H_region (l := [_, _]) rfl ?_
      refine HO_bin rfl rfl rfl rfl bin_eql ?_
      refine HO_assign rfl rfl rfl ?_
      refine HO_nil ?_
      refine H_env (ρ' := [(38, _), (3, _), (1, _)]) ⟨rfl, rfl, rfl, trivial⟩ ?_
      refine H_cond rfl ?_ ?_
      · intro h38
        (try simp only [decide_eq_true_eq, decide_eq_false_iff_not, Bool.not_eq_true', Bool.not_eq_false', Bool.not_eq_true, Bool.not_eq_false, Bool.true_eq_false, Bool.false_eq_true, not_false_eq_true, not_true_eq_false] at h38)
        refine H_seq ?_
        -- R7 entry.go:104
        refine H_region (l := [_, _, _, _, _]) rfl ?_
        refine HO_move rfl rfl rfl ?_
        refine HO_fieldAddr (r := 11) rfl rfl rfl Try.underlying53 rfl Try.sizeOf47 rfl ?_
        refine HO_loadA (i := 1) (us := [_, _, _, _, _, _, _, _, _, _, _]) (cs := [_, _, _, _, _]) (ts := []) rfl rfl rfl Try.isAgg47 Try.sizeOf47 rfl (.loc _ _ _) rfl rfl rfl rfl ?_
        refine HO_dup (i := 0) rfl rfl ?_
        refine HO_dup (i := 4) rfl rfl ?_
        refine HO_dup (i := 6) rfl rfl ?_
        refine HO_dup (i := 8) rfl rfl ?_
        refine HO_call (first := []) (capt := []) (is := [0, 0, 0, 0]) (R := [_, _, _, _, _, _]) rfl rfl rfl rfl rfl Try.call81 rfl (putsnap_spec _ _ _ _ _ _ _ _ _ _ _ _ _ _ ?_ ?_ ?_ ?_ ?_) ?_
        · (simp only [List.length_append, List.length_cons, List.length_nil]; omega)
        · omega
        · omega
        · omega
        · exact hrs
        intro y43 hy43
        refine HO_assign rfl rfl rfl ?_
        refine HO_nil ?_
        refine H_env (ρ' := [(2, _)]) ⟨rfl, trivial⟩ ?_
        refine H_world (fun _ hA => hA.drop (is := [1, 2, 3, 4, 5, 6]) (Y := [_, _, _, _, _, _]) (Z := [_]) rfl) ?_
        -- end5
        refine H_ret1 Try.results62 (.tmp rfl) (fun w hA => ⟨y43, congrArg Ending.returned ?_, ?_, ?_⟩)
        · (simp [Ent.msgB, *])
        · trivial
        · exact (hA.only (is := [0]) (Z := []) rfl).cast (by simp [Ent.msgB, *])
      · intro h38
        (try simp only [decide_eq_true_eq, decide_eq_false_iff_not, Bool.not_eq_true', Bool.not_eq_false', Bool.not_eq_true, Bool.not_eq_false, Bool.true_eq_false, Bool.false_eq_true, not_false_eq_true, not_true_eq_false] at h38)
        refine H_skip ?_
        refine H_blk ?_
        refine H_seq ?_
        -- R8 entry.go:106
        refine H_region (l := [_, _]) rfl ?_
        refine HO_move rfl rfl rfl ?_
        refine HO_assign rfl rfl rfl ?_
        refine HO_nil ?_
        refine H_env (ρ' := [(2, _)]) ⟨rfl, trivial⟩ ?_
        refine H_world (fun _ hA => hA.drop (is := [1, 2, 3, 4, 5]) (Y := [_, _, _, _, _]) (Z := [_]) rfl) ?_
        -- end6
        refine H_ret1 Try.results62 (.tmp rfl) (fun w hA => ⟨y29, congrArg Ending.returned ?_, ?_, ?_⟩)
        · (simp [Ent.msgB, *])
        · trivial
        · exact (hA.only (is := [0]) (Z := []) rfl).cast (by simp [Ent.msgB, *])
end Go.Wk
