/- Contracts of the program's functions, each proved by walking its code. -/
import Derived.Test.YtondhngfjngngaaGreatKezent6
import Derived.Test.YtondhngfjngngaaGreatEnt4
import Derived.Test.YtondhngfjngngaaGreatWkK
set_option maxRecDepth 100000
set_option linter.unusedVariables false
set_option linter.unusedSimpArgs false
namespace Go.Wk.Flaw10d
open Go Go.RowKit Go.Proofs Go.Wk

end Go.Wk.Flaw10d
namespace Go.Wk
open Go Go.RowKit Go.Proofs Flaw10d 
set_option maxHeartbeats 0 in
theorem EntryMsgs_spec (mk mf mt me mi ml mc mr : Int) (rj : Bool) (hi : Int) (es : List Ent) (a9 : Option Addr) (c9 : Nat) (ix te : Int) (vo le : List Int) (a1 : Option Addr) (c1 : Nat) (a2 : Option Addr) (c2 : Nat) (da : List UInt8) (a3 : Option Addr) (c3 : Nat) (b : List UInt8) (a4 : Option Addr) (c4 : Nat) (nd : da.length ≤ BIG) (n1 : vo.length ≤ BIG) (n2 : le.length ≤ BIG) (hm : (-9223372036854775808 ≤ mk ∧ mk ≤ 9223372036854775807) ∧ (-9223372036854775808 ≤ mf ∧ mf ≤ 9223372036854775807) ∧ (-9223372036854775808 ≤ mt ∧ mt ≤ 9223372036854775807) ∧ (-9223372036854775808 ≤ me ∧ me ≤ 9223372036854775807) ∧ (-9223372036854775808 ≤ mi ∧ mi ≤ 9223372036854775807) ∧ (-9223372036854775808 ≤ ml ∧ ml ≤ 9223372036854775807) ∧ (-9223372036854775808 ≤ mc ∧ mc ≤ 9223372036854775807) ∧ (-9223372036854775808 ≤ mr ∧ mr ≤ 9223372036854775807)) (hhi : (-9223372036854775808 ≤ hi ∧ hi ≤ 9223372036854775807)) (hrs : (-9223372036854775808 ≤ ix ∧ ix ≤ 9223372036854775807) ∧ (-9223372036854775808 ≤ te ∧ te ≤ 9223372036854775807)) (hsn : Ent.sanes es) (rv : ∀ x ∈ vo, Ent.rng x) (rl : ∀ x ∈ le, Ent.rng x) : Spec Tryz.prog 3 #[.agg #[.int .i64 (mk), .int .i64 (mf), .int .i64 (mt), .int .i64 (me), .int .i64 (mi), .int .i64 (ml), .int .i64 (mc), .int .i64 (mr), .bool (rj), .int .i64 (hi), .slice a9 (es.length) c9, .int .i64 (ix), .int .i64 (te), .slice a1 (vo.length) c1, .slice a2 (le.length) c2, .slice a3 (da.length) c3], .slice a4 (b.length) c4] [.dat kEnt.sl (es) [.slice a9 (es.length) c9], .dat kInt.sl (vo) [.slice a1 (vo.length) c1], .dat kInt.sl (le) [.slice a2 (le.length) c2], .dat kByte.sl (da) [.slice a3 (da.length) c3], .dat kByte.sl (b) [.slice a4 (b.length) c4]] (β := Unit) (fun y => .bool (true)) (fun y => True) (fun y => []) := by
 (try simp only [BIG] at nd n1 n2)
 refine Spec.enter (vs := [_, _]) Tryz.func3 rfl Tryz.ntmps3 rfl (Nat.le_of_ble_eq_true rfl) (fun w0 ok0 => ?_)
 generalize hM0 : blks _ = M0
 have hMn := @noM _ _ hM0 (by simp [Atom.dat, Atom.elem])
 refine H_len_le (i := 0) rfl ?_
 intro hlen0
 refine H_len_le (i := 1) rfl ?_
 intro hlen1
 refine H_len_le (i := 2) rfl ?_
 intro hlen2
 refine H_seq ?_
 refine H_region (l := [_, _]) rfl ?_
 refine HO_box (cs := [_, _, _, _, _, _, _, _, _, _, _, _, _, _, _, _]) rfl rfl rfl rfl ?_
 intro g2
 refine HO_assign rfl rfl rfl ?_
 refine HO_nil ?_
 refine H_env (ρ' := [(2, _), (1, _)]) ⟨rfl, rfl, trivial⟩ ?_
 refine H_seq ?_
 refine H_seq ?_
 refine H_region (l := [_, _, _, _, _, _, _, _]) rfl ?_
 refine HO_loadA (i := 0) (us := []) (cs := [_, _, _, _, _, _, _, _, _, _, _, _, _, _, _, _]) (ts := []) rfl rfl rfl Tryz.isAgg30 Tryz.sizeOf30 rfl (.loc _ _ _) rfl rfl rfl rfl ?_
 refine HO_dup (i := 1) rfl rfl ?_
 refine HO_dup (i := 3) rfl rfl ?_
 refine HO_dup (i := 5) rfl rfl ?_
 refine HO_dup (i := 7) rfl rfl ?_
 refine HO_call (first := []) (capt := []) (is := [0, 0, 0, 0]) (R := [_, _, _, _, _, _]) rfl rfl rfl rfl rfl Tryz.call4 rfl (few10_spec _ _ _ _ _ _ _ _ _ _ _ _ _ _ _ _ _ _ _ _ _ _ _ _ ?_ ?_ ?_) ?_
 ·(dsimp only [BIG]; omega)
 ·(dsimp only [BIG]; omega)
 ·(dsimp only [BIG]; omega)
 intro y10 hy10
 clear y10 hy10
 refine HO_not rfl rfl rfl ?_
 refine HO_move rfl rfl rfl ?_
 refine HO_split (d := 12) rfl ?_ ?_
 ·intro h12
  replace h12 := nT h12
  iterate 3 refine HO_no rfl rfl rfl ?_
  refine HO_pick_t rfl rfl rfl rfl ?_
  refine HO_nil ?_
  refine H_env (ρ' := [(16, _), (2, _), (1, _)]) ⟨rfl, rfl, rfl, trivial⟩ ?_
  refine H_cond rfl (fun _ => ?_) (fun h => nomatch h)
  refine H_seq ?_
  refine H_region (l := [_, _]) rfl ?_
  refine HO_call (first := []) (capt := []) (is := []) (R := [_, _, _, _, _, _]) rfl rfl rfl rfl rfl Tryz.call5 rfl lives10_spec ?_
  intro y17 hy17
  clear y17 hy17
  refine HO_assign rfl rfl rfl ?_
  refine HO_nil ?_
  refine H_env (ρ' := [(4, _)]) ⟨rfl, trivial⟩ ?_
  refine H_world (fun _ hA => hA.keep (m := [nn, nn, nn, nn, nn, nn]) (Y := []) rfl) ?_
  refine H_ret1 Tryz.results3 (.tmp rfl) (fun w hA => ⟨(), congrArg Ending.returned ?_, ?_, ?_⟩)
  ·(exact congrArg Value.bool (by first | rfl | assumption | simp_all))
  ·trivial
  ·exact hA.keep (m := []) (Y := []) rfl
 intro h12
 replace h12 := nF h12
 refine HO_move rfl rfl rfl ?_
 refine HO_bi rfl rfl rfl (bi_len_sl Tryz.underlying26) ?_
 refine HO_bin rfl rfl rfl rfl bin_gtr ?_
 refine HO_pick_f rfl rfl rfl rfl ?_
 refine HO_nil ?_
 refine H_env (ρ' := [(16, _), (2, _), (1, _)]) ⟨rfl, rfl, rfl, trivial⟩ ?_
 refine H_cond rfl ?_ ?_
 ·intro h16
  replace h16 := dT h16
  refine H_seq ?_
  refine H_region (l := [_, _]) rfl ?_
  refine HO_call (first := []) (capt := []) (is := []) (R := [_, _, _, _, _, _]) rfl rfl rfl rfl rfl Tryz.call5 rfl lives10_spec ?_
  intro y17 hy17
  clear y17 hy17
  refine HO_assign rfl rfl rfl ?_
  refine HO_nil ?_
  refine H_env (ρ' := [(4, _)]) ⟨rfl, trivial⟩ ?_
  refine H_world (fun _ hA => hA.keep (m := [nn, nn, nn, nn, nn, nn]) (Y := []) rfl) ?_
  refine H_ret1 Tryz.results3 (.tmp rfl) (fun w hA => ⟨(), congrArg Ending.returned ?_, ?_, ?_⟩)
  ·(exact congrArg Value.bool (by first | rfl | assumption | simp_all))
  ·trivial
  ·exact hA.keep (m := []) (Y := []) rfl
 intro h16
 replace h16 := dF h16
 refine H_skip ?_
 refine H_seq ?_
 have hfp := Ent.few_parts h12
 dsimp only at hfp
 have hws := hfp.1
 refine H_region (l := [_, _, _, _, _, _, _, _]) rfl ?_
 refine HO_move rfl rfl rfl ?_
 refine HO_dup (i := 5) rfl rfl ?_
 refine HO_call (first := []) (capt := []) (is := [0]) (R := [_, _, _, _, _, _]) rfl rfl rfl rfl rfl Tryz.call6 rfl (readmsg_spec _ _ _ ?_) ?_
 ·omega
 intro y20 hy20
 obtain ⟨e1, he1⟩ : ∃ e, Ent.readM b = e := ⟨_, rfl⟩
 rw [he1]
 refine HO_move rfl rfl rfl ?_
 refine HO_extract (vs := [_, _]) rfl rfl rfl rfl ?_
 refine HO_extract (vs := [_, _]) rfl rfl rfl rfl ?_
 refine HO_alloc (cs := [_, _, _, _, _, _, _, _, _, _, _, _, _, _, _, _]) rfl rfl Tryz.zeroValue30 rfl ?_
 intro g5
 refine HO_store (i := 0) (j := 0) (us := []) (old := [_, _, _, _, _, _, _, _, _, _, _, _, _, _, _, _]) (ts := []) (cs := [_, _, _, _, _, _, _, _, _, _, _, _, _, _, _, _]) (R := [_, _, _, _, _, _, _, _, _, _]) (new := [_, _, _, _, _, _, _, _, _, _, _, _, _, _, _, _]) rfl rfl rfl Tryz.sizeOf30 rfl (by simp [Value.oneCell']) rfl rfl rfl rfl rfl rfl ?_
 refine HO_assign rfl rfl rfl ?_
 refine HO_nil ?_
 refine H_env (ρ' := [(6, _), (5, _), (2, _), (1, _)]) ⟨rfl, rfl, rfl, rfl, trivial⟩ ?_
 refine H_seq ?_
 refine H_region (l := [_, _, _, _, _, _, _, _]) rfl ?_
 refine HO_move rfl rfl rfl ?_
 refine HO_dup (i := 10) rfl rfl ?_
 refine HO_call (first := []) (capt := []) (is := [0]) (R := [_, _, _, _, _, _, _, _, _, _, _]) rfl rfl rfl rfl rfl Tryz.call7 rfl (rreadmsg_spec _ _ _ ?_) ?_
 ·omega
 intro y25 hy25
 rw [he1]
 refine HO_move rfl rfl rfl ?_
 refine HO_extract (vs := [_, _]) rfl rfl rfl rfl ?_
 refine HO_extract (vs := [_, _]) rfl rfl rfl rfl ?_
 refine HO_alloc (cs := [_, _, _, _, _, _, _, _, _, _, _, _, _, _, _, _]) rfl rfl Tryz.zeroValue30 rfl ?_
 intro g7
 refine HO_store (i := 0) (j := 0) (us := []) (old := [_, _, _, _, _, _, _, _, _, _, _, _, _, _, _, _]) (ts := []) (cs := [_, _, _, _, _, _, _, _, _, _, _, _, _, _, _, _]) (R := [_, _, _, _, _, _, _, _, _, _, _, _, _, _, _]) (new := [_, _, _, _, _, _, _, _, _, _, _, _, _, _, _, _]) rfl rfl rfl Tryz.sizeOf30 rfl (by simp [Value.oneCell']) rfl rfl rfl rfl rfl rfl ?_
 refine HO_assign rfl rfl rfl ?_
 refine HO_nil ?_
 refine H_env (ρ' := [(8, _), (7, _), (6, _), (5, _), (2, _)]) ⟨rfl, rfl, rfl, rfl, rfl, trivial⟩ ?_
 refine H_world (fun _ hA => hA.keep (m := [yy, yy, yy, yy, yy, yy, yy, yy, yy, yy, yy, yy, yy, yy, yy, nn]) (Y := [_, _, _, _, _, _, _, _, _, _, _, _, _, _, _]) rfl) ?_
 refine H_seq ?_
 refine H_drawB (m := [yy, yy, yy, yy, yy, yy, yy, yy, yy, yy, yy, yy, yy, yy, yy]) (Xs := [_, _, _, _, _, _, _, _, _, _, _, _, _, _, _]) (fuel := 26) (l := #[false, false, false, false, false, false, false, false, false, false, false, false, false, false, false, false, false, false, false, false, false, false, false, false, false, false]) mixed rfl rfl rfl ?_
 refine HA_take (i := 0) (listed' := #[true, false, false, false, false, false, false, false, false, false, false, false, false, false, false, false, false, false, false, false, false, false, false, false, false, false]) (bodyPost_pan _ _ _) rfl rfl rfl rfl (by kernel_rfl) rfl (V_loadA (i := 10) (us := []) (cs := [_, _, _, _, _, _, _, _, _, _, _, _, _, _, _, _]) (ts := []) rfl Tryz.isAgg30 Tryz.sizeOf30 rfl (.loc _ _ _) rfl rfl rfl rfl) (fun _ hA => hA) ?_
 refine HA_take (i := 2) (listed' := #[true, false, true, false, false, false, false, false, false, false, false, false, false, false, false, false, false, false, false, false, false, false, false, false, false, false]) (bodyPost_pan _ _ _) rfl rfl rfl rfl (by kernel_rfl) rfl (V_loadA (i := 10) (us := []) (cs := [_, _, _, _, _, _, _, _, _, _, _, _, _, _, _, _]) (ts := []) rfl Tryz.isAgg30 Tryz.sizeOf30 rfl (.loc _ _ _) rfl rfl rfl rfl) (fun _ hA => hA) ?_
 refine HA_loud1 (i := 1) (by kernel_rfl) rfl ?_
 refine HO_dup (i := 11) rfl rfl ?_
 refine HO_dup (i := 13) rfl rfl ?_
 refine HO_dup (i := 15) rfl rfl ?_
 refine HO_dup (i := 17) rfl rfl ?_
 refine HO_call (first := []) (capt := []) (is := [0, 0, 0, 0]) (R := [_, _, _, _, _, _, _, _, _, _, _, _, _, _, _]) rfl rfl rfl rfl rfl Tryz.call8 rfl (goodmsg_spec _ _ _ _ _ _ _ _ _ _ _ _ _ _ _ _ _ _ _ _ _ _ _ _ ?_ ?_ ?_ ?_) ?_
 ·(dsimp only [BIG]; omega)
 ·(dsimp only [BIG]; omega)
 ·(dsimp only [BIG]; omega)
 ·exact hm.2.2.2.2.1.2
 intro y29 hy29
 clear y29 hy29
 refine HA_back (listed' := #[true, true, true, false, false, false, false, false, false, false, false, false, false, false, false, false, false, false, false, false, false, false, false, false, false, false]) rfl (fun _ hA => hA) ?_
 refine HA_loud1 (i := 3) (by kernel_rfl) rfl ?_
 refine HO_dup (i := 11) rfl rfl ?_
 refine HO_dup (i := 13) rfl rfl ?_
 refine HO_dup (i := 15) rfl rfl ?_
 refine HO_dup (i := 17) rfl rfl ?_
 refine HO_call (first := []) (capt := []) (is := [0, 0, 0, 0]) (R := [_, _, _, _, _, _, _, _, _, _, _, _, _, _, _]) rfl rfl rfl rfl rfl Tryz.call9 rfl (rgoodmsg_spec _ _ _ _ _ _ _ _ _ _ _ _ _ _ _ _ _ _ _ _ _ _ _ _ ?_ ?_ ?_ ?_) ?_
 ·(dsimp only [BIG]; omega)
 ·(dsimp only [BIG]; omega)
 ·(dsimp only [BIG]; omega)
 ·exact hm.2.2.2.2.1.2
 intro y31 hy31
 clear y31 hy31
 refine HA_back (listed' := #[true, true, true, true, false, false, false, false, false, false, false, false, false, false, false, false, false, false, false, false, false, false, false, false, false, false]) rfl (fun _ hA => hA) ?_
 refine HA_take (i := 4) (listed' := #[true, true, true, true, true, false, false, false, false, false, false, false, false, false, false, false, false, false, false, false, false, false, false, false, false, false]) (bodyPost_pan _ _ _) rfl rfl rfl rfl (by kernel_rfl) rfl (V_bin rfl rfl (bin_eqb Tryz.runUnderlying4)) (fun _ hA => hA) ?_
 refine HA_take (i := 5) (listed' := #[true, true, true, true, true, true, false, false, false, false, false, false, false, false, false, false, false, false, false, false, false, false, false, false, false, false]) (bodyPost_pan _ _ _) rfl rfl rfl rfl (by kernel_rfl) rfl (V_move rfl) (fun _ hA => hA) ?_
 refine HA_split (d := 33) rfl ?_ ?_
 ·intro h33
  (try simp only [decide_eq_true_eq, decide_eq_false_iff_not, Bool.not_eq_true', Bool.not_eq_false', Bool.not_eq_true, Bool.not_eq_false, Bool.true_eq_false, Bool.false_eq_true, not_false_eq_true, not_true_eq_false] at h33)
  refine HA_take (i := 6) (listed' := #[true, true, true, true, true, true, true, false, false, false, false, false, false, false, false, false, false, false, false, false, false, false, false, false, false, false]) (bodyPost_pan _ _ _) rfl rfl rfl rfl (by kernel_rfl) rfl (V_loadA (i := 10) (us := []) (cs := [_, _, _, _, _, _, _, _, _, _, _, _, _, _, _, _]) (ts := []) rfl Tryz.isAgg30 Tryz.sizeOf30 rfl (.loc _ _ _) rfl rfl rfl rfl) (fun _ hA => hA) ?_
  refine HA_take (i := 8) (listed' := #[true, true, true, true, true, true, true, false, true, false, false, false, false, false, false, false, false, false, false, false, false, false, false, false, false, false]) (bodyPost_pan _ _ _) rfl rfl rfl rfl (by kernel_rfl) rfl (V_loadA (i := 10) (us := []) (cs := [_, _, _, _, _, _, _, _, _, _, _, _, _, _, _, _]) (ts := []) rfl Tryz.isAgg30 Tryz.sizeOf30 rfl (.loc _ _ _) rfl rfl rfl rfl) (fun _ hA => hA) ?_
  refine HA_loud1 (i := 7) (by kernel_rfl) rfl ?_
  refine HO_dup (i := 11) rfl rfl ?_
  refine HO_dup (i := 13) rfl rfl ?_
  refine HO_dup (i := 15) rfl rfl ?_
  refine HO_dup (i := 17) rfl rfl ?_
  refine HO_call (first := []) (capt := []) (is := [0, 0, 0, 0]) (R := [_, _, _, _, _, _, _, _, _, _, _, _, _, _, _]) rfl rfl rfl rfl rfl Tryz.call11 rfl (msgbytes_spec _ _ _ _ _ _ _ _ _ _ _ _ _ _ _ _ _ _ _ _ _ _ _ _ ?_ ?_ ?_ ?_ ?_ ?_ ?_ ?_ ?_) ?_
  ·omega
  ·omega
  ·omega
  ·omega
  ·exact hws
  ·exact hsn
  ·exact hm
  ·exact hhi
  ·exact hrs
  intro y35 hy35
  refine HA_back (listed' := #[true, true, true, true, true, true, true, true, true, false, false, false, false, false, false, false, false, false, false, false, false, false, false, false, false, false]) rfl (fun _ hA => hA.keep (m := [nn, yy, yy, yy, yy, yy, yy, yy, yy, yy, yy, yy, yy, yy, yy, yy]) (Y := [_, _, _, _, _, _, _, _, _, _, _, _, _, _, _]) rfl) ?_
  refine HA_loud1 (i := 9) (by kernel_rfl) rfl ?_
  refine HO_dup (i := 12) rfl rfl ?_
  refine HO_dup (i := 14) rfl rfl ?_
  refine HO_dup (i := 16) rfl rfl ?_
  refine HO_dup (i := 18) rfl rfl ?_
  refine HO_call (first := []) (capt := []) (is := [0, 0, 0, 0]) (R := [_, _, _, _, _, _, _, _, _, _, _, _, _, _, _, _]) rfl rfl rfl rfl rfl Tryz.call12 rfl (rmsgbytes_spec _ _ _ _ _ _ _ _ _ _ _ _ _ _ _ _ _ _ _ _ _ _ _ _ ?_ ?_ ?_ ?_ ?_ ?_ ?_ ?_ ?_) ?_
  ·omega
  ·omega
  ·omega
  ·omega
  ·exact hws
  ·exact hsn
  ·exact hm
  ·exact hhi
  ·exact hrs
  intro y37 hy37
  refine HA_back (listed' := #[true, true, true, true, true, true, true, true, true, true, false, false, false, false, false, false, false, false, false, false, false, false, false, false, false, false]) rfl (fun _ hA => hA.keep (m := [nn, nn, yy, yy, yy, yy, yy, yy, yy, yy, yy, yy, yy, yy, yy, yy, yy]) (Y := [_, _, _, _, _, _, _, _, _, _, _, _, _, _, _]) rfl) ?_
  refine HA_loud1 (i := 10) (by kernel_rfl) rfl ?_
  refine HO_dup (i := 1) rfl rfl ?_
  refine HO_dup (i := 1) rfl rfl ?_
  refine HO_call (first := []) (capt := []) (is := [0, 0]) (R := [_, _, _, _, _, _, _, _, _, _, _, _, _, _, _, _, _]) rfl rfl rfl rfl rfl Tryz.call10 rfl (rsame_spec _ _ _ _ _ _) ?_
  intro y38 hy38
  clear y38 hy38
  refine HA_back (listed' := #[true, true, true, true, true, true, true, true, true, true, true, false, false, false, false, false, false, false, false, false, false, false, false, false, false, false]) rfl (fun _ hA => hA.keep (m := [nn, nn, yy, yy, yy, yy, yy, yy, yy, yy, yy, yy, yy, yy, yy, yy, yy]) (Y := [_, _, _, _, _, _, _, _, _, _, _, _, _, _, _]) rfl) ?_
  refine HA_take (i := 11) (listed' := #[true, true, true, true, true, true, true, true, true, true, true, true, false, false, false, false, false, false, false, false, false, false, false, false, false, false]) (bodyPost_pan _ _ _) rfl rfl rfl rfl (by kernel_rfl) rfl (V_pick_t rfl rfl) (fun _ hA => hA.keep (m := [nn, nn, yy, yy, yy, yy, yy, yy, yy, yy, yy, yy, yy, yy, yy, yy, yy]) (Y := [_, _, _, _, _, _, _, _, _, _, _, _, _, _, _]) rfl) ?_
  refine HA_take (i := 12) (listed' := #[true, true, true, true, true, true, true, true, true, true, true, true, true, false, false, false, false, false, false, false, false, false, false, false, false, false]) (bodyPost_pan _ _ _) rfl rfl rfl rfl (by kernel_rfl) rfl (V_move rfl) (fun _ hA => hA.keep (m := [nn, nn, yy, yy, yy, yy, yy, yy, yy, yy, yy, yy, yy, yy, yy, yy, yy]) (Y := [_, _, _, _, _, _, _, _, _, _, _, _, _, _, _]) rfl) ?_
  refine HA_split (d := 40) rfl ?_ ?_
  ·intro h40
   replace h40 := dT h40
   refine HA_take (i := 13) (listed' := #[true, true, true, true, true, true, true, true, true, true, true, true, true, true, false, false, false, false, false, false, false, false, false, false, false, false]) (bodyPost_pan _ _ _) rfl rfl rfl rfl (by kernel_rfl) rfl (V_loadA (i := 5) (us := []) (cs := [_, _, _, _, _, _, _, _, _, _, _, _, _, _, _, _]) (ts := []) rfl Tryz.isAgg30 Tryz.sizeOf30 rfl (.loc _ _ _) rfl rfl rfl rfl) (fun _ hA => hA.keep (m := [nn, nn, yy, yy, yy, yy, yy, yy, yy, yy, yy, yy, yy, yy, yy, yy, yy]) (Y := [_, _, _, _, _, _, _, _, _, _, _, _, _, _, _]) rfl) ?_
   refine HA_take (i := 14) (listed' := #[true, true, true, true, true, true, true, true, true, true, true, true, true, true, true, false, false, false, false, false, false, false, false, false, false, false]) (bodyPost_pan _ _ _) rfl rfl rfl rfl (by kernel_rfl) rfl (V_loadA (i := 0) (us := []) (cs := [_, _, _, _, _, _, _, _, _, _, _, _, _, _, _, _]) (ts := []) rfl Tryz.isAgg30 Tryz.sizeOf30 rfl (.loc _ _ _) rfl rfl rfl rfl) (fun _ hA => hA.keep (m := [nn, nn, yy, yy, yy, yy, yy, yy, yy, yy, yy, yy, yy, yy, yy, yy, yy]) (Y := [_, _, _, _, _, _, _, _, _, _, _, _, _, _, _]) rfl) ?_
   refine HA_loud1 (i := 15) (by kernel_rfl) rfl ?_
   refine HO_dup (i := 8) rfl rfl ?_
   refine HO_dup (i := 10) rfl rfl ?_
   refine HO_dup (i := 12) rfl rfl ?_
   refine HO_dup (i := 14) rfl rfl ?_
   refine HO_dup (i := 7) rfl rfl ?_
   refine HO_dup (i := 9) rfl rfl ?_
   refine HO_dup (i := 11) rfl rfl ?_
   refine HO_dup (i := 13) rfl rfl ?_
   refine HO_call (first := []) (capt := []) (is := [0, 0, 0, 0, 0, 0, 0, 0]) (R := [_, _, _, _, _, _, _, _, _, _, _, _, _, _, _, _, _]) rfl rfl rfl rfl rfl Tryz.call13 rfl (samemsg_spec _ _ _ _ _ _ _ _ _ _ _ _ _ _ _ _ _ _ _ _ _ _ _ _ _ _ _ _ _ _ _ _ _ _ _ _ _ _ _ _ _ _ _ _ _ _ _ _) ?_
   intro y43 hy43
   clear y43 hy43
   refine HA_back (listed' := #[true, true, true, true, true, true, true, true, true, true, true, true, true, true, true, true, false, false, false, false, false, false, false, false, false, false]) rfl (fun _ hA => hA.keep (m := [nn, nn, yy, yy, yy, yy, yy, yy, yy, yy, yy, yy, yy, yy, yy, yy, yy]) (Y := [_, _, _, _, _, _, _, _, _, _, _, _, _, _, _]) rfl) ?_
   refine HA_take (i := 16) (listed' := #[true, true, true, true, true, true, true, true, true, true, true, true, true, true, true, true, true, false, false, false, false, false, false, false, false, false]) (bodyPost_pan _ _ _) rfl rfl rfl rfl (by kernel_rfl) rfl (V_pick_t rfl rfl) (fun _ hA => hA.keep (m := [nn, nn, yy, yy, yy, yy, yy, yy, yy, yy, yy, yy, yy, yy, yy, yy, yy]) (Y := [_, _, _, _, _, _, _, _, _, _, _, _, _, _, _]) rfl) ?_
   refine HA_take (i := 17) (listed' := #[true, true, true, true, true, true, true, true, true, true, true, true, true, true, true, true, true, true, false, false, false, false, false, false, false, false]) (bodyPost_pan _ _ _) rfl rfl rfl rfl (by kernel_rfl) rfl (V_move rfl) (fun _ hA => hA.keep (m := [nn, nn, yy, yy, yy, yy, yy, yy, yy, yy, yy, yy, yy, yy, yy, yy, yy]) (Y := [_, _, _, _, _, _, _, _, _, _, _, _, _, _, _]) rfl) ?_
   refine HA_split (d := 45) rfl ?_ ?_
   ·intro h45
    replace h45 := dT h45
    refine HA_take (i := 18) (listed' := #[true, true, true, true, true, true, true, true, true, true, true, true, true, true, true, true, true, true, true, false, false, false, false, false, false, false]) (bodyPost_pan _ _ _) rfl rfl rfl rfl (by kernel_rfl) rfl (V_move rfl) (fun _ hA => hA.keep (m := [nn, nn, yy, yy, yy, yy, yy, yy, yy, yy, yy, yy, yy, yy, yy, yy, yy]) (Y := [_, _, _, _, _, _, _, _, _, _, _, _, _, _, _]) rfl) ?_
    refine HA_take (i := 19) (listed' := #[true, true, true, true, true, true, true, true, true, true, true, true, true, true, true, true, true, true, true, true, false, false, false, false, false, false]) (bodyPost_pan _ _ _) rfl rfl rfl rfl (by kernel_rfl) rfl (V_move rfl) (fun _ hA => hA.keep (m := [nn, nn, yy, yy, yy, yy, yy, yy, yy, yy, yy, yy, yy, yy, yy, yy, yy]) (Y := [_, _, _, _, _, _, _, _, _, _, _, _, _, _, _]) rfl) ?_
    refine HA_take (i := 20) (listed' := #[true, true, true, true, true, true, true, true, true, true, true, true, true, true, true, true, true, true, true, true, true, false, false, false, false, false]) (bodyPost_pan _ _ _) rfl rfl rfl rfl (by kernel_rfl) rfl (V_bin rfl rfl bin_eql) (fun _ hA => hA.keep (m := [nn, nn, yy, yy, yy, yy, yy, yy, yy, yy, yy, yy, yy, yy, yy, yy, yy]) (Y := [_, _, _, _, _, _, _, _, _, _, _, _, _, _, _]) rfl) ?_
    refine HA_take (i := 21) (listed' := #[true, true, true, true, true, true, true, true, true, true, true, true, true, true, true, true, true, true, true, true, true, true, false, false, false, false]) (bodyPost_pan _ _ _) rfl rfl rfl rfl (by kernel_rfl) rfl (V_pick_t rfl rfl) (fun _ hA => hA.keep (m := [nn, nn, yy, yy, yy, yy, yy, yy, yy, yy, yy, yy, yy, yy, yy, yy, yy]) (Y := [_, _, _, _, _, _, _, _, _, _, _, _, _, _, _]) rfl) ?_
    refine HA_take (i := 22) (listed' := #[true, true, true, true, true, true, true, true, true, true, true, true, true, true, true, true, true, true, true, true, true, true, true, false, false, false]) (bodyPost_pan _ _ _) rfl rfl rfl rfl (by kernel_rfl) rfl (V_move rfl) (fun _ hA => hA.keep (m := [nn, nn, yy, yy, yy, yy, yy, yy, yy, yy, yy, yy, yy, yy, yy, yy, yy]) (Y := [_, _, _, _, _, _, _, _, _, _, _, _, _, _, _]) rfl) ?_
    refine HA_split (d := 50) rfl ?_ ?_
    ·intro h50
     replace h50 := dT h50
     refine HA_loud1 (i := 23) (by kernel_rfl) rfl ?_
     refine HO_call (first := []) (capt := []) (is := []) (R := [_, _, _, _, _, _, _, _, _, _, _, _, _, _, _, _, _]) rfl rfl rfl rfl rfl Tryz.call5 rfl lives10_spec ?_
     intro y51 hy51
     clear y51 hy51
     refine HA_back (listed' := #[true, true, true, true, true, true, true, true, true, true, true, true, true, true, true, true, true, true, true, true, true, true, true, true, false, false]) rfl (fun _ hA => hA.keep (m := [nn, nn, yy, yy, yy, yy, yy, yy, yy, yy, yy, yy, yy, yy, yy, yy, yy]) (Y := [_, _, _, _, _, _, _, _, _, _, _, _, _, _, _]) rfl) ?_
     refine HA_take (i := 24) (listed' := #[true, true, true, true, true, true, true, true, true, true, true, true, true, true, true, true, true, true, true, true, true, true, true, true, true, false]) (bodyPost_pan _ _ _) rfl rfl rfl rfl (by kernel_rfl) rfl (V_pick_t rfl rfl) (fun _ hA => hA.keep (m := [nn, nn, yy, yy, yy, yy, yy, yy, yy, yy, yy, yy, yy, yy, yy, yy, yy]) (Y := [_, _, _, _, _, _, _, _, _, _, _, _, _, _, _]) rfl) ?_
     refine HA_take (i := 25) (listed' := #[true, true, true, true, true, true, true, true, true, true, true, true, true, true, true, true, true, true, true, true, true, true, true, true, true, true]) (bodyPost_pan _ _ _) rfl rfl rfl rfl (by kernel_rfl) rfl (V_assign rfl) (fun _ hA => hA.keep (m := [nn, nn, yy, yy, yy, yy, yy, yy, yy, yy, yy, yy, yy, yy, yy, yy, yy]) (Y := [_, _, _, _, _, _, _, _, _, _, _, _, _, _, _]) rfl) ?_
     refine HA_done (by kernel_rfl) ?_
     refine H_env (ρ' := [(4, _)]) ⟨rfl, trivial⟩ ?_
     refine H_world (fun _ hA => hA.keep (m := [nn, nn, nn, nn, nn, nn, nn, nn, nn, nn, nn, nn, nn, nn, nn, nn, nn]) (Y := []) rfl) ?_
     refine H_ret1 Tryz.results3 (.tmp rfl) (fun w hA => ⟨(), congrArg Ending.returned ?_, ?_, ?_⟩)
     ·(exact congrArg Value.bool (by first | rfl | assumption | simp_all))
     ·trivial
     ·exact hA.keep (m := []) (Y := []) rfl
    intro h50
    replace h50 := dF h50
    all_goals (exact absurd rfl h50)
   intro h45
   replace h45 := dF h45
   all_goals (exact absurd rfl h45)
  intro h40
  replace h40 := dF h40
  all_goals (exact absurd rfl h40)
 intro h33
 (try simp only [decide_eq_true_eq, decide_eq_false_iff_not, Bool.not_eq_true', Bool.not_eq_false', Bool.not_eq_true, Bool.not_eq_false, Bool.true_eq_false, Bool.false_eq_true, not_false_eq_true, not_true_eq_false] at h33)
 all_goals (exact absurd h33 (by simp))
end Go.Wk
