/- Contracts of the program's functions, each proved by walking its code. -/
import Derived.Test.YtondhngfjngngaaKeent5
import Derived.Test.YtondhngfjngngaaEnt4
set_option maxRecDepth 100000
set_option linter.unusedVariables false
set_option linter.unusedSimpArgs false
namespace Go.Wk.Flaw10c
open Go Go.RowKit Go.Proofs Go.Wk
theorem elt5 : Elt Try.prog 5 (.int .u8 (0)) 1 1 := Elt.of (by kernel_rfl) (by rfl) (by decide) (by decide)
end Go.Wk.Flaw10c
namespace Go.Wk
open Go Go.RowKit Go.Proofs Flaw10c 
set_option maxHeartbeats 1000000 in
theorem EntrySends_spec (mk mf mt me mi ml mc mr : Int) (rj : Bool) (hi : Int) (es : List Ent) (a9 : Option Addr) (c9 : Nat) (ix te : Int) (vo le : List Int) (a1 : Option Addr) (c1 : Nat) (a2 : Option Addr) (c2 : Nat) (da : List UInt8) (a3 : Option Addr) (c3 : Nat) (cut : Nat) (nd : da.length ≤ BIG) (n1 : vo.length ≤ BIG) (n2 : le.length ≤ BIG) (hm : (-9223372036854775808 ≤ mk ∧ mk ≤ 9223372036854775807) ∧ (-9223372036854775808 ≤ mf ∧ mf ≤ 9223372036854775807) ∧ (-9223372036854775808 ≤ mt ∧ mt ≤ 9223372036854775807) ∧ (-9223372036854775808 ≤ me ∧ me ≤ 9223372036854775807) ∧ (-9223372036854775808 ≤ mi ∧ mi ≤ 9223372036854775807) ∧ (-9223372036854775808 ≤ ml ∧ ml ≤ 9223372036854775807) ∧ (-9223372036854775808 ≤ mc ∧ mc ≤ 9223372036854775807) ∧ (-9223372036854775808 ≤ mr ∧ mr ≤ 9223372036854775807)) (hhi : (-9223372036854775808 ≤ hi ∧ hi ≤ 9223372036854775807)) (hrs : (-9223372036854775808 ≤ ix ∧ ix ≤ 9223372036854775807) ∧ (-9223372036854775808 ≤ te ∧ te ≤ 9223372036854775807)) (hsn : Ent.sanes es) (rv : ∀ x ∈ vo, Ent.rng x) (rl : ∀ x ∈ le, Ent.rng x) (hcut : cut < 18446744073709551616) : Spec Try.prog 13 #[.agg #[.int .i64 (mk), .int .i64 (mf), .int .i64 (mt), .int .i64 (me), .int .i64 (mi), .int .i64 (ml), .int .i64 (mc), .int .i64 (mr), .bool (rj), .int .i64 (hi), .slice a9 (es.length) c9, .int .i64 (ix), .int .i64 (te), .slice a1 (vo.length) c1, .slice a2 (le.length) c2, .slice a3 (da.length) c3], .int .u64 ((cut : Int))] [.dat kEnt.sl (es) [.slice a9 (es.length) c9], .dat kInt.sl (vo) [.slice a1 (vo.length) c1], .dat kInt.sl (le) [.slice a2 (le.length) c2], .dat kByte.sl (da) [.slice a3 (da.length) c3]] (β := Unit) (fun y => .bool (true)) (fun y => True) (fun y => []) := by
  (try simp only [BIG] at nd n1 n2)
  refine Spec.enter (vs := [_, _]) Try.func13 rfl Try.ntmps13 rfl (Nat.le_of_ble_eq_true rfl) (fun w0 ok0 => ?_)
  generalize hM0 : blks _ = M0
  have hMn : ∀ {R : List Atom} (b : Nat), M0 b → blks R b := fun b hb => absurd (hM0 ▸ hb) (blks_none (by simp [Atom.dat, Atom.elem]) b)
  refine H_len_le (i := 0) rfl ?_
  intro hlen0
  refine H_len_le (i := 1) rfl ?_
  intro hlen1
  refine H_len_le (i := 2) rfl ?_
  intro hlen2
  refine H_seq ?_
  -- R0 law.go:93
  refine H_region (l := [_, _]) rfl ?_
  refine HO_box (cs := [_, _, _, _, _, _, _, _, _, _, _, _, _, _, _, _]) rfl rfl rfl rfl ?_
  intro g2
  refine HO_assign rfl rfl rfl ?_
  refine HO_nil ?_
  refine H_env (ρ' := [(2, _), (1, _)]) ⟨rfl, rfl, trivial⟩ ?_
  refine H_seq ?_
  refine H_seq ?_
  -- R1 law.go:94
  refine H_region (l := [_, _, _]) rfl ?_
  refine HO_loadA (i := 0) (us := []) (cs := [_, _, _, _, _, _, _, _, _, _, _, _, _, _, _, _]) (ts := []) rfl rfl rfl Try.isAgg53 Try.sizeOf53 rfl (.loc _ _ _) rfl rfl rfl rfl ?_
  refine HO_dup (i := 1) rfl rfl ?_
  refine HO_dup (i := 3) rfl rfl ?_
  refine HO_dup (i := 5) rfl rfl ?_
  refine HO_dup (i := 7) rfl rfl ?_
  refine HO_call (first := []) (capt := []) (is := [0, 0, 0, 0]) (R := [_, _, _, _, _]) rfl rfl rfl rfl rfl Try.call30 rfl (few10_spec _ _ _ _ _ _ _ _ _ _ _ _ _ _ _ _ _ _ _ _ _ _ _ _ ?_ ?_ ?_) ?_
  · (dsimp only [BIG]; omega)
  · (dsimp only [BIG]; omega)
  · (dsimp only [BIG]; omega)
  intro y15 hy15
  clear y15 hy15
  refine HO_not rfl rfl rfl ?_
  refine HO_nil ?_
  refine H_env (ρ' := [(16, _), (2, _), (1, _)]) ⟨rfl, rfl, rfl, trivial⟩ ?_
  refine H_cond rfl ?_ ?_
  · intro h16
    (try simp only [decide_eq_true_eq, decide_eq_false_iff_not, Bool.not_eq_true', Bool.not_eq_false', Bool.not_eq_true, Bool.not_eq_false, Bool.true_eq_false, Bool.false_eq_true, not_false_eq_true, not_true_eq_false] at h16)
    refine H_seq ?_
    -- R2 law.go:95
    refine H_region (l := [_, _]) rfl ?_
    refine HO_call (first := []) (capt := []) (is := []) (R := [_, _, _, _, _]) rfl rfl rfl rfl rfl Try.call31 rfl lives10_spec ?_
    intro y17 hy17
    clear y17 hy17
    refine HO_assign rfl rfl rfl ?_
    refine HO_nil ?_
    refine H_env (ρ' := [(4, _)]) ⟨rfl, trivial⟩ ?_
    refine H_world (fun _ hA => hA.drop (is := [0, 1, 2, 3, 4]) (Y := [_, _, _, _, _]) (Z := []) rfl) ?_
    -- end1
    refine H_ret1 Try.results13 (.tmp rfl) (fun w hA => ⟨(), congrArg Ending.returned ?_, ?_, ?_⟩)
    · (exact congrArg Value.bool (by first | rfl | assumption | simp_all))
    · trivial
    · exact hA.only (is := []) (Z := []) rfl
  · intro h16
    (try simp only [decide_eq_true_eq, decide_eq_false_iff_not, Bool.not_eq_true', Bool.not_eq_false', Bool.not_eq_true, Bool.not_eq_false, Bool.true_eq_false, Bool.false_eq_true, not_false_eq_true, not_true_eq_false] at h16)
    refine H_skip ?_
    refine H_seq ?_
    refine H_seq ?_
    -- R3 law.go:97
    have hfp := Ent.few_parts h16
    dsimp only at hfp
    have hws := hfp.1
    have hln := Ent.msg_len (m := ⟨mk, mf, mt, me, mi, ml, mc, mr, rj, hi, es, ⟨ix, te, ⟨vo, le⟩, da⟩⟩) h16
    have hsm : Ent.saneM ⟨mk, mf, mt, me, mi, ml, mc, mr, rj, hi, es, ⟨ix, te, ⟨vo, le⟩, da⟩⟩ := ⟨⟨hm.1, hm.2.1, hm.2.2.1, hm.2.2.2.1, hm.2.2.2.2.1, hm.2.2.2.2.2.1, hm.2.2.2.2.2.2.1, hm.2.2.2.2.2.2.2, hhi⟩, Ent.wholes_of hsn hws, hrs.1, hrs.2, by dsimp only; omega, by dsimp only; omega, rv, rl, by dsimp only; omega⟩
    refine H_region (l := [_, _, _]) rfl ?_
    refine HO_loadA (i := 0) (us := []) (cs := [_, _, _, _, _, _, _, _, _, _, _, _, _, _, _, _]) (ts := []) rfl rfl rfl Try.isAgg53 Try.sizeOf53 rfl (.loc _ _ _) rfl rfl rfl rfl ?_
    refine HO_dup (i := 1) rfl rfl ?_
    refine HO_dup (i := 3) rfl rfl ?_
    refine HO_dup (i := 5) rfl rfl ?_
    refine HO_dup (i := 7) rfl rfl ?_
    refine HO_call (first := []) (capt := []) (is := [0, 0, 0, 0]) (R := [_, _, _, _, _]) rfl rfl rfl rfl rfl Try.call60 rfl (goodmsg_spec _ _ _ _ _ _ _ _ _ _ _ _ _ _ _ _ _ _ _ _ _ _ _ _ ?_ ?_ ?_ ?_) ?_
    · (dsimp only [BIG]; omega)
    · (dsimp only [BIG]; omega)
    · (dsimp only [BIG]; omega)
    · exact hm.2.2.2.2.1.2
    intro y19 hy19
    clear y19 hy19
    refine HO_not rfl rfl rfl ?_
    refine HO_nil ?_
    refine H_env (ρ' := [(20, _), (2, _), (1, _)]) ⟨rfl, rfl, rfl, trivial⟩ ?_
    refine H_cond rfl ?_ ?_
    · intro h20
      (try simp only [decide_eq_true_eq, decide_eq_false_iff_not, Bool.not_eq_true', Bool.not_eq_false', Bool.not_eq_true, Bool.not_eq_false, Bool.true_eq_false, Bool.false_eq_true, not_false_eq_true, not_true_eq_false] at h20)
      refine H_seq ?_
      -- R4 law.go:98
      refine H_region (l := [_, _, _, _, _, _, _, _, _]) rfl ?_
      refine HO_loadA (i := 0) (us := []) (cs := [_, _, _, _, _, _, _, _, _, _, _, _, _, _, _, _]) (ts := []) rfl rfl rfl Try.isAgg53 Try.sizeOf53 rfl (.loc _ _ _) rfl rfl rfl rfl ?_
      refine HO_dup (i := 1) rfl rfl ?_
      refine HO_dup (i := 3) rfl rfl ?_
      refine HO_dup (i := 5) rfl rfl ?_
      refine HO_dup (i := 7) rfl rfl ?_
      refine HO_call (first := []) (capt := []) (is := [0, 0, 0, 0]) (R := [_, _, _, _, _]) rfl rfl rfl rfl rfl Try.call62 rfl (msgbytes_spec _ _ _ _ _ _ _ _ _ _ _ _ _ _ _ _ _ _ _ _ _ _ _ _ ?_ ?_ ?_ ?_ ?_ ?_ ?_ ?_ ?_) ?_
      · omega
      · omega
      · omega
      · omega
      · exact hws
      · exact hsn
      · exact hm
      · exact hhi
      · exact hrs
      intro y23 hy23
      refine HO_dup (i := 0) rfl rfl ?_
      refine HO_call (first := []) (capt := []) (is := [0]) (R := [_, _, _, _, _, _]) rfl rfl rfl rfl rfl Try.call61 rfl (readmsg_spec _ _ _ ?_) ?_
      · omega
      intro y24 hy24
      have hok1 := fun h => Ent.readM_ok (b := Ent.msgB ⟨mk, mf, mt, me, mi, ml, mc, mr, rj, hi, es, ⟨ix, te, ⟨vo, le⟩, da⟩⟩) h
      have hs1 := Ent.readM_sizes (b := Ent.msgB ⟨mk, mf, mt, me, mi, ml, mc, mr, rj, hi, es, ⟨ix, te, ⟨vo, le⟩, da⟩⟩) (by omega)
      obtain ⟨e1, he1⟩ : ∃ e, Ent.readM (Ent.msgB ⟨mk, mf, mt, me, mi, ml, mc, mr, rj, hi, es, ⟨ix, te, ⟨vo, le⟩, da⟩⟩) = e := ⟨_, rfl⟩
      rw [he1] at hok1 hs1 ⊢
      refine HO_move rfl rfl rfl ?_
      refine HO_extract (vs := [_, _]) rfl rfl rfl rfl ?_
      refine HO_extract (vs := [_, _]) rfl rfl rfl rfl ?_
      refine HO_alloc (cs := [_, _, _, _, _, _, _, _, _, _, _, _, _, _, _, _]) rfl rfl Try.zeroValue53 rfl ?_
      intro g5
      refine HO_store (i := 0) (j := 0) (us := []) (old := [_, _, _, _, _, _, _, _, _, _, _, _, _, _, _, _]) (ts := []) (cs := [_, _, _, _, _, _, _, _, _, _, _, _, _, _, _, _]) (R := [_, _, _, _, _, _, _, _, _, _]) (new := [_, _, _, _, _, _, _, _, _, _, _, _, _, _, _, _]) rfl rfl rfl Try.sizeOf53 rfl (by simp [Value.oneCell']) rfl rfl rfl rfl rfl rfl ?_
      refine HO_assign rfl rfl rfl ?_
      refine HO_nil ?_
      refine H_env (ρ' := [(6, _), (5, _)]) ⟨rfl, rfl, trivial⟩ ?_
      refine H_world (fun _ hA => hA.drop (is := [5, 6, 7, 8, 9, 10]) (Y := [_, _, _, _, _, _]) (Z := [_, _, _, _, _]) rfl) ?_
      refine H_seq ?_
      -- R5 law.go:99
      refine H_region (l := [_, _, _, _, _, _, _, _, _, _]) rfl ?_
      refine HO_move rfl rfl rfl ?_
      refine HO_bin rfl rfl rfl rfl bin_neq ?_
      refine HO_move rfl rfl rfl ?_
      refine HO_split (d := 29) rfl ?_ ?_
      · intro h29
        (try simp only [decide_eq_true_eq, decide_eq_false_iff_not, Bool.not_eq_true', Bool.not_eq_false', Bool.not_eq_true, Bool.not_eq_false, Bool.true_eq_false, Bool.false_eq_true, not_false_eq_true, not_true_eq_false] at h29)
        refine HO_no rfl rfl rfl ?_
        refine HO_no rfl rfl rfl ?_
        refine HO_pick_t rfl rfl rfl rfl ?_
        refine HO_move rfl rfl rfl ?_
        refine HO_call (first := []) (capt := []) (is := []) (R := [_, _, _, _, _]) rfl rfl rfl rfl rfl Try.call31 rfl lives10_spec ?_
        intro y34 hy34
        clear y34 hy34
        refine HO_pick_t rfl rfl rfl rfl ?_
        refine HO_assign rfl rfl rfl ?_
        refine HO_nil ?_
        refine H_env (ρ' := [(4, _)]) ⟨rfl, trivial⟩ ?_
        refine H_world (fun _ hA => hA.drop (is := [0, 1, 2, 3, 4]) (Y := [_, _, _, _, _]) (Z := []) rfl) ?_
        -- end2
        refine H_ret1 Try.results13 (.tmp rfl) (fun w hA => ⟨(), congrArg Ending.returned ?_, ?_, ?_⟩)
        · (exact congrArg Value.bool (by first | rfl | assumption | simp_all))
        · trivial
        · exact hA.only (is := []) (Z := []) rfl
      · intro h29
        (try simp only [decide_eq_true_eq, decide_eq_false_iff_not, Bool.not_eq_true', Bool.not_eq_false', Bool.not_eq_true, Bool.not_eq_false, Bool.true_eq_false, Bool.false_eq_true, not_false_eq_true, not_true_eq_false] at h29)
        refine HO_loadA (i := 0) (us := []) (cs := [_, _, _, _, _, _, _, _, _, _, _, _, _, _, _, _]) (ts := []) rfl rfl rfl Try.isAgg53 Try.sizeOf53 rfl (.loc _ _ _) rfl rfl rfl rfl ?_
        refine HO_dup (i := 1) rfl rfl ?_
        refine HO_dup (i := 3) rfl rfl ?_
        refine HO_dup (i := 5) rfl rfl ?_
        refine HO_dup (i := 7) rfl rfl ?_
        refine HO_call (first := []) (capt := []) (is := [0, 0, 0, 0]) (R := [_, _, _, _, _]) rfl rfl rfl rfl rfl Try.call60 rfl (goodmsg_spec _ _ _ _ _ _ _ _ _ _ _ _ _ _ _ _ _ _ _ _ _ _ _ _ ?_ ?_ ?_ ?_) ?_
        · exact hs1.1
        · exact hs1.2.1
        · exact hs1.2.2.1
        · exact hs1.2.2.2
        intro y31 hy31
        clear y31 hy31
        refine HO_pick_f rfl rfl rfl rfl ?_
        refine HO_move rfl rfl rfl ?_
        refine HO_split (d := 33) rfl ?_ ?_
        · intro h33
          (try simp only [decide_eq_true_eq, decide_eq_false_iff_not, Bool.not_eq_true', Bool.not_eq_false', Bool.not_eq_true, Bool.not_eq_false, Bool.true_eq_false, Bool.false_eq_true, not_false_eq_true, not_true_eq_false] at h33)
          refine HO_call (first := []) (capt := []) (is := []) (R := [_, _, _, _, _]) rfl rfl rfl rfl rfl Try.call31 rfl lives10_spec ?_
          intro y34 hy34
          clear y34 hy34
          refine HO_pick_t rfl rfl rfl rfl ?_
          refine HO_assign rfl rfl rfl ?_
          refine HO_nil ?_
          refine H_env (ρ' := [(4, _)]) ⟨rfl, trivial⟩ ?_
          refine H_world (fun _ hA => hA.drop (is := [0, 1, 2, 3, 4]) (Y := [_, _, _, _, _]) (Z := []) rfl) ?_
          -- end3
          refine H_ret1 Try.results13 (.tmp rfl) (fun w hA => ⟨(), congrArg Ending.returned ?_, ?_, ?_⟩)
          · (exact congrArg Value.bool (by first | rfl | assumption | simp_all))
          · trivial
          · exact hA.only (is := []) (Z := []) rfl
        · intro h33
          (try simp only [decide_eq_true_eq, decide_eq_false_iff_not, Bool.not_eq_true', Bool.not_eq_false', Bool.not_eq_true, Bool.not_eq_false, Bool.true_eq_false, Bool.false_eq_true, not_false_eq_true, not_true_eq_false] at h33)
          (exact Bool.noConfusion (h33.symm.trans (hok1 (Decidable.not_not.1 h29))))
    · intro h20
      (try simp only [decide_eq_true_eq, decide_eq_false_iff_not, Bool.not_eq_true', Bool.not_eq_false', Bool.not_eq_true, Bool.not_eq_false, Bool.true_eq_false, Bool.false_eq_true, not_false_eq_true, not_true_eq_false] at h20)
      refine H_skip ?_
      refine H_seq ?_
      -- R6 law.go:101
      refine H_region (l := [_, _, _]) rfl ?_
      refine HO_loadA (i := 0) (us := []) (cs := [_, _, _, _, _, _, _, _, _, _, _, _, _, _, _, _]) (ts := []) rfl rfl rfl Try.isAgg53 Try.sizeOf53 rfl (.loc _ _ _) rfl rfl rfl rfl ?_
      refine HO_dup (i := 1) rfl rfl ?_
      refine HO_dup (i := 3) rfl rfl ?_
      refine HO_dup (i := 5) rfl rfl ?_
      refine HO_dup (i := 7) rfl rfl ?_
      refine HO_call (first := []) (capt := []) (is := [0, 0, 0, 0]) (R := [_, _, _, _, _]) rfl rfl rfl rfl rfl Try.call62 rfl (msgbytes_spec _ _ _ _ _ _ _ _ _ _ _ _ _ _ _ _ _ _ _ _ _ _ _ _ ?_ ?_ ?_ ?_ ?_ ?_ ?_ ?_ ?_) ?_
      · omega
      · omega
      · omega
      · omega
      · exact hws
      · exact hsn
      · exact hm
      · exact hhi
      · exact hrs
      intro y37 hy37
      refine HO_assign rfl rfl rfl ?_
      refine HO_nil ?_
      refine H_env (ρ' := [(7, _), (2, _), (1, _)]) ⟨rfl, rfl, rfl, trivial⟩ ?_
      refine H_seq ?_
      -- R7 law.go:102
      refine H_region (l := [_, _, _, _, _, _, _, _]) rfl ?_
      refine HO_move rfl rfl rfl ?_
      refine HO_dup (i := 0) rfl rfl ?_
      refine HO_call (first := []) (capt := []) (is := [0]) (R := [_, _, _, _, _, _]) rfl rfl rfl rfl rfl Try.call61 rfl (readmsg_spec _ _ _ ?_) ?_
      · omega
      intro y40 hy40
      rw [Ent.readM_enc hsm h20]
      refine HO_move rfl rfl rfl ?_
      refine HO_extract (vs := [_, _]) rfl rfl rfl rfl ?_
      refine HO_extract (vs := [_, _]) rfl rfl rfl rfl ?_
      refine HO_alloc (cs := [_, _, _, _, _, _, _, _, _, _, _, _, _, _, _, _]) rfl rfl Try.zeroValue53 rfl ?_
      intro g8
      refine HO_store (i := 0) (j := 0) (us := []) (old := [_, _, _, _, _, _, _, _, _, _, _, _, _, _, _, _]) (ts := []) (cs := [_, _, _, _, _, _, _, _, _, _, _, _, _, _, _, _]) (R := [_, _, _, _, _, _, _, _, _, _]) (new := [_, _, _, _, _, _, _, _, _, _, _, _, _, _, _, _]) rfl rfl rfl Try.sizeOf53 rfl (by simp [Value.oneCell']) rfl rfl rfl rfl rfl rfl ?_
      refine HO_assign rfl rfl rfl ?_
      refine HO_nil ?_
      refine H_env (ρ' := [(9, _), (8, _), (7, _), (2, _), (1, _)]) ⟨rfl, rfl, rfl, rfl, rfl, trivial⟩ ?_
      refine H_seq ?_
      -- R8 law.go:103
      refine H_region (l := [_, _, _, _, _, _, _, _, _, _, _, _, _, _, _]) rfl ?_
      refine HO_move rfl rfl rfl ?_
      refine HO_move rfl rfl rfl ?_
      refine HO_move rfl rfl rfl ?_
      refine HO_bi rfl rfl rfl (bi_len_sl Try.underlying28) ?_
      refine HO_conv rfl rfl rfl (cv_int Try.underlying3 Try.underlying86 (wrap_u_i rfl _)) ?_
      refine HO_set (v' := .int .u64 (((Ent.msgB ⟨mk, mf, mt, me, mi, ml, mc, mr, rj, hi, es, ⟨ix, te, ⟨vo, le⟩, da⟩⟩).length : Int))) 48 rfl (by exact congrArg (Value.int .u64) (by simp only [IntKind.bits]; omega)) ?_
      refine HO_bin rfl rfl rfl rfl (bin_remu ?_) ?_
      · omega
      refine HO_conv rfl rfl rfl (cv_int Try.underlying86 Try.underlying3 (wrap_i64_nat ?_)) ?_
      · (have := Nat.mod_lt cut (show 0 < (Ent.msgB ⟨mk, mf, mt, me, mi, ml, mc, mr, rj, hi, es, ⟨ix, te, ⟨vo, le⟩, da⟩⟩).length by omega); omega)
      refine HO_slice_h (i := 5) (h' := cut % (Ent.msgB ⟨mk, mf, mt, me, mi, ml, mc, mr, rj, hi, es, ⟨ix, te, ⟨vo, le⟩, da⟩⟩).length) rfl rfl rfl rfl ?_ Try.underlying28 Try.sizeOf5 rfl ?_ ?_
      · rfl
      · (exact Nat.le_of_lt (Nat.mod_lt _ (by omega)))
      intro a51 c51
      refine HO_dup (i := 0) rfl rfl ?_
      refine HO_call (first := []) (capt := []) (is := [0]) (R := [_, _, _, _, _, _, _, _, _, _, _, _]) rfl rfl rfl rfl rfl Try.call61 rfl (readmsg_spec _ _ _ ?_) ?_
      · (rw [List.length_take]; omega)
      intro y52 hy52
      rw [Ent.readM_cut hsm h20 (Nat.mod_lt _ (by omega))]
      refine HO_move rfl rfl rfl ?_
      refine HO_extract (vs := [_, _]) rfl rfl rfl rfl ?_
      refine HO_extract (vs := [_, _]) rfl rfl rfl rfl ?_
      refine HO_alloc (cs := [_, _, _, _, _, _, _, _, _, _, _, _, _, _, _, _]) rfl rfl Try.zeroValue53 rfl ?_
      intro g10
      refine HO_store (i := 0) (j := 0) (us := []) (old := [_, _, _, _, _, _, _, _, _, _, _, _, _, _, _, _]) (ts := []) (cs := [_, _, _, _, _, _, _, _, _, _, _, _, _, _, _, _]) (R := [_, _, _, _, _, _, _, _, _, _, _, _, _, _, _, _]) (new := [_, _, _, _, _, _, _, _, _, _, _, _, _, _, _, _]) rfl rfl rfl Try.sizeOf53 rfl (by simp [Value.oneCell']) rfl rfl rfl rfl rfl rfl ?_
      refine HO_assign rfl rfl rfl ?_
      refine HO_nil ?_
      refine H_env (ρ' := [(11, _), (9, _), (8, _), (7, _), (2, _)]) ⟨rfl, rfl, rfl, rfl, rfl, trivial⟩ ?_
      refine H_world (fun _ hA => hA.drop (is := [0, 1, 2, 3, 4, 5]) (Y := [_, _, _, _, _, _]) (Z := [_, _, _, _, _, _, _, _, _, _, _]) rfl) ?_
      refine H_seq ?_
      -- R9 law.go:104
      refine H_region (l := [_, _, _, _, _, _, _, _, _, _, _, _]) rfl ?_
      refine HO_buildSlice0 (kd := kByte) rfl rfl Try.underlying28 elt5 ?_
      intro g56
      refine HO_move rfl rfl rfl ?_
      refine HO_append (i := 0) (R := [_, _, _, _, _, _, _, _, _, _, _]) rfl rfl rfl rfl rfl Try.underlying28 elt5 rfl rfl (SrcOk.dat (j := 5) Try.underlying28 rfl) ?_ ?_
      · (simp only [List.length_append, List.length_nil]; omega)
      intro a58 c58
      refine HO_buildSlice (kd := kByte) (xo := [_]) (vs := [_]) (cs := [_]) (xs := [(0 : UInt8)]) rfl rfl rfl rfl Try.underlying28 elt5 rfl rfl rfl (by decide) (by decide) (by simp [Value.cells]) rfl (fun _ _ _ => ⟨_, _, rfl, ⟨rfl, trivial⟩, rfl⟩) ?_
      intro g59
      refine HO_append (i := 1) (R := [_, _, _, _, _, _, _, _, _, _, _, _]) rfl rfl rfl rfl rfl Try.underlying28 elt5 rfl rfl (SrcOk.own (j := 0) Try.underlying28 rfl rfl) ?_ ?_
      · (simp only [List.length_append, List.length_cons, List.length_nil]; omega)
      intro a60 c60
      refine HO_freeze (i := 0) (R := [_, _, _, _, _, _, _, _, _, _, _, _]) rfl hMn ?_
      refine HO_dup (i := 0) rfl rfl ?_
      refine HO_call (first := []) (capt := []) (is := [0]) (R := [_, _, _, _, _, _, _, _, _, _, _, _, _]) rfl rfl rfl rfl rfl Try.call61 rfl (readmsg_spec _ _ _ ?_) ?_
      · (simp only [List.length_append, List.length_cons, List.length_nil]; omega)
      intro y61 hy61
      rw [List.nil_append, Ent.readM_more hsm h20]
      refine HO_move rfl rfl rfl ?_
      refine HO_extract (vs := [_, _]) rfl rfl rfl rfl ?_
      refine HO_extract (vs := [_, _]) rfl rfl rfl rfl ?_
      refine HO_alloc (cs := [_, _, _, _, _, _, _, _, _, _, _, _, _, _, _, _]) rfl rfl Try.zeroValue53 rfl ?_
      intro g12
      refine HO_store (i := 0) (j := 0) (us := []) (old := [_, _, _, _, _, _, _, _, _, _, _, _, _, _, _, _]) (ts := []) (cs := [_, _, _, _, _, _, _, _, _, _, _, _, _, _, _, _]) (R := [_, _, _, _, _, _, _, _, _, _, _, _, _, _, _, _, _]) (new := [_, _, _, _, _, _, _, _, _, _, _, _, _, _, _, _]) rfl rfl rfl Try.sizeOf53 rfl (by simp [Value.oneCell']) rfl rfl rfl rfl rfl rfl ?_
      refine HO_assign rfl rfl rfl ?_
      refine HO_nil ?_
      refine H_env (ρ' := [(13, _), (11, _), (9, _), (8, _), (2, _)]) ⟨rfl, rfl, rfl, rfl, rfl, trivial⟩ ?_
      refine H_world (fun _ hA => hA.drop (is := [0, 1, 2, 3, 4, 5, 6, 12]) (Y := [_, _, _, _, _, _, _, _]) (Z := [_, _, _, _, _, _, _, _, _, _]) rfl) ?_
      refine H_seq ?_
      -- R10 law.go:105
      refine H_region (l := [_, _, _, _, _, _, _, _, _, _, _, _, _, _, _, _, _, _, _]) rfl ?_
      refine HO_move rfl rfl rfl ?_
      refine HO_bin rfl rfl rfl rfl bin_eql ?_
      refine HO_move rfl rfl rfl ?_
      refine HO_split (d := 66) rfl ?_ ?_
      · intro h66
        (try simp only [decide_eq_true_eq, decide_eq_false_iff_not, Bool.not_eq_true', Bool.not_eq_false', Bool.not_eq_true, Bool.not_eq_false, Bool.true_eq_false, Bool.false_eq_true, not_false_eq_true, not_true_eq_false] at h66)
        refine HO_loadA (i := 0) (us := []) (cs := [_, _, _, _, _, _, _, _, _, _, _, _, _, _, _, _]) (ts := []) rfl rfl rfl Try.isAgg53 Try.sizeOf53 rfl (.loc _ _ _) rfl rfl rfl rfl ?_
        refine HO_loadA (i := 5) (us := []) (cs := [_, _, _, _, _, _, _, _, _, _, _, _, _, _, _, _]) (ts := []) rfl rfl rfl Try.isAgg53 Try.sizeOf53 rfl (.loc _ _ _) rfl rfl rfl rfl ?_
        refine HO_dup (i := 1) rfl rfl ?_
        refine HO_dup (i := 3) rfl rfl ?_
        refine HO_dup (i := 5) rfl rfl ?_
        refine HO_dup (i := 7) rfl rfl ?_
        refine HO_dup (i := 10) rfl rfl ?_
        refine HO_dup (i := 12) rfl rfl ?_
        refine HO_dup (i := 14) rfl rfl ?_
        refine HO_dup (i := 16) rfl rfl ?_
        refine HO_call (first := []) (capt := []) (is := [0, 0, 0, 0, 0, 0, 0, 0]) (R := [_, _, _, _, _, _, _, _, _, _]) rfl rfl rfl rfl rfl Try.call63 rfl (samemsg_spec _ _ _ _ _ _ _ _ _ _ _ _ _ _ _ _ _ _ _ _ _ _ _ _ _ _ _ _ _ _ _ _ _ _ _ _ _ _ _ _ _ _ _ _ _ _ _ _) ?_
        intro y69 hy69
        clear y69 hy69
        refine HO_pick_t rfl rfl rfl rfl ?_
        refine HO_move rfl rfl rfl ?_
        refine HO_split (d := 71) rfl ?_ ?_
        · intro h71
          (try simp only [decide_eq_true_eq, decide_eq_false_iff_not, Bool.not_eq_true', Bool.not_eq_false', Bool.not_eq_true, Bool.not_eq_false, Bool.true_eq_false, Bool.false_eq_true, not_false_eq_true, not_true_eq_false] at h71)
          refine HO_move rfl rfl rfl ?_
          refine HO_bin rfl rfl rfl rfl bin_eql ?_
          refine HO_pick_t rfl rfl rfl rfl ?_
          refine HO_move rfl rfl rfl ?_
          refine HO_split (d := 75) rfl ?_ ?_
          · intro h75
            (try simp only [decide_eq_true_eq, decide_eq_false_iff_not, Bool.not_eq_true', Bool.not_eq_false', Bool.not_eq_true, Bool.not_eq_false, Bool.true_eq_false, Bool.false_eq_true, not_false_eq_true, not_true_eq_false] at h75)
            refine HO_move rfl rfl rfl ?_
            refine HO_bin rfl rfl rfl rfl bin_eql ?_
            refine HO_pick_t rfl rfl rfl rfl ?_
            refine HO_move rfl rfl rfl ?_
            refine HO_split (d := 79) rfl ?_ ?_
            · intro h79
              (try simp only [decide_eq_true_eq, decide_eq_false_iff_not, Bool.not_eq_true', Bool.not_eq_false', Bool.not_eq_true, Bool.not_eq_false, Bool.true_eq_false, Bool.false_eq_true, not_false_eq_true, not_true_eq_false] at h79)
              refine HO_call (first := []) (capt := []) (is := []) (R := [_, _, _, _, _, _, _, _, _, _]) rfl rfl rfl rfl rfl Try.call31 rfl lives10_spec ?_
              intro y80 hy80
              clear y80 hy80
              refine HO_pick_t rfl rfl rfl rfl ?_
              refine HO_assign rfl rfl rfl ?_
              refine HO_nil ?_
              refine H_env (ρ' := [(4, _)]) ⟨rfl, trivial⟩ ?_
              refine H_world (fun _ hA => hA.drop (is := [0, 1, 2, 3, 4, 5, 6, 7, 8, 9]) (Y := [_, _, _, _, _, _, _, _, _, _]) (Z := []) rfl) ?_
              -- end4
              refine H_ret1 Try.results13 (.tmp rfl) (fun w hA => ⟨(), congrArg Ending.returned ?_, ?_, ?_⟩)
              · (exact congrArg Value.bool (by first | rfl | assumption | simp_all))
              · trivial
              · exact hA.only (is := []) (Z := []) rfl
            · intro h79
              (try simp only [decide_eq_true_eq, decide_eq_false_iff_not, Bool.not_eq_true', Bool.not_eq_false', Bool.not_eq_true, Bool.not_eq_false, Bool.true_eq_false, Bool.false_eq_true, not_false_eq_true, not_true_eq_false] at h79)
              all_goals (exact absurd rfl h79)
          · intro h75
            (try simp only [decide_eq_true_eq, decide_eq_false_iff_not, Bool.not_eq_true', Bool.not_eq_false', Bool.not_eq_true, Bool.not_eq_false, Bool.true_eq_false, Bool.false_eq_true, not_false_eq_true, not_true_eq_false] at h75)
            all_goals (exact absurd rfl h75)
        · intro h71
          (try simp only [decide_eq_true_eq, decide_eq_false_iff_not, Bool.not_eq_true', Bool.not_eq_false', Bool.not_eq_true, Bool.not_eq_false, Bool.true_eq_false, Bool.false_eq_true, not_false_eq_true, not_true_eq_false] at h71)
          all_goals (exact absurd rfl h71)
      · intro h66
        (try simp only [decide_eq_true_eq, decide_eq_false_iff_not, Bool.not_eq_true', Bool.not_eq_false', Bool.not_eq_true, Bool.not_eq_false, Bool.true_eq_false, Bool.false_eq_true, not_false_eq_true, not_true_eq_false] at h66)
        all_goals (exact absurd rfl h66)
end Go.Wk
