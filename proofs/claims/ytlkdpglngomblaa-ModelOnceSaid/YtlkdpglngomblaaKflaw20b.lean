/- Contracts of the program's functions, each proved by walking its code. -/
import Derived.Test.YtlkdpglngomblaaKflaw20
import Derived.Test.YtlkdpglngomblaaMod6
set_option maxRecDepth 100000
set_option linter.unusedVariables false
set_option linter.unusedSimpArgs false
namespace Go.Wk.Flaw20b
open Go Go.RowKit Go.Proofs Go.Wk
theorem bd36_0_1_ii {x1 : Int} {x2 : Int} : ∀ w, (Instr.build 36 (List.toArray (List.zip [0, 1] [.int .i64 x1, .int .i64 x2]))).run Try.prog w = .ok (.agg #[.int .i64 x1, .int .i64 x2, .int .i64 (0), .string (⟨#[]⟩), .string (⟨#[]⟩), .string (⟨#[]⟩), .string (⟨#[]⟩), .int .i64 (0)]) w := fun _ => by kernel_rfl
end Go.Wk.Flaw20b
namespace Go.Wk
open Go Go.RowKit Go.Proofs Flaw20b 
set_option maxHeartbeats 0 in
theorem ModelOnce_spec (es : List Ent) (a : Option Addr) (c : Nat) (ki cs sq : Int) (ke ol cv ti : ByteArray) (li : Int) (ki2 cs2 sq2 : Int) (ke2 ol2 cv2 ti2 : ByteArray) (li2 : Int) (rc : -9223372036854775808 ≤ cs ∧ cs ≤ 9223372036854775807) (rq : -9223372036854775808 ≤ sq ∧ sq ≤ 9223372036854775807) (sk : ke.size ≤ BIG) (so : ol.size ≤ BIG) (sc : cv.size ≤ BIG) (st : ti.size ≤ BIG) (sk2 : ke2.size ≤ BIG) (so2 : ol2.size ≤ BIG) (sc2 : cv2.size ≤ BIG) (st2 : ti2.size ≤ BIG) : Spec Try.prog 8 #[.slice a (es.length) c, .agg #[.int .i64 (ki), .int .i64 (cs), .int .i64 (sq), .string (ke), .string (ol), .string (cv), .string (ti), .int .i64 (li)], .agg #[.int .i64 (ki2), .int .i64 (cs2), .int .i64 (sq2), .string (ke2), .string (ol2), .string (cv2), .string (ti2), .int .i64 (li2)]] [.dat kEnt.sl (es) [.slice a (es.length) c]] (β := Unit) (fun y => .bool (true)) (fun y => True) (fun y => []) := by
 refine Spec.enter (vs := [_, _, _]) Try.func8 rfl Try.ntmps8 rfl (Nat.le_of_ble_eq_true rfl) (fun w0 ok0 => ?_)
 generalize hM0 : blks _ = M0
 have hMn := @noM _ _ hM0 (by simp [Atom.dat, Atom.elem])
 refine H_len_le (i := 0) rfl ?_
 intro hlen0
 refine H_seq ?_
 refine H_region (l := [_, _, _]) rfl ?_
 refine HO_box (cs := [_, _, _, _, _, _, _, _]) rfl rfl rfl rfl ?_
 intro g4
 refine HO_box (cs := [_, _, _, _, _, _, _, _]) rfl rfl rfl rfl ?_
 intro g5
 refine HO_assign rfl rfl rfl ?_
 refine HO_nil ?_
 refine H_env (ρ' := [(5, _), (4, _), (0, _)]) ⟨rfl, rfl, rfl, trivial⟩ ?_
 refine H_seq ?_
 refine H_seq ?_
 refine H_region (l := [_, _, _, _, _, _, _, _, _, _]) rfl ?_
 refine HO_move rfl rfl rfl ?_
 refine HO_dup (i := 2) rfl rfl ?_
 refine HO_call (first := []) (capt := []) (is := [0]) (R := [_, _, _]) rfl rfl rfl rfl rfl Try.call22 rfl (heavy20_spec _ _ _) ?_
 intro y14 hy14
 refine HO_move rfl rfl rfl ?_
 refine HO_split (d := 15) rfl ?_ ?_
 ·intro h15
  iterate 2 refine HO_no rfl rfl rfl ?_
  refine HO_pick_t rfl rfl rfl rfl ?_
  refine HO_move rfl rfl rfl ?_
  iterate 2 refine HO_no rfl rfl rfl ?_
  refine HO_pick_t rfl rfl rfl rfl ?_
  refine HO_nil ?_
  refine H_env (ρ' := [(22, _), (5, _), (4, _), (0, _)]) ⟨rfl, rfl, rfl, rfl, trivial⟩ ?_
  refine H_cond rfl (fun _ => ?_) (fun h => nomatch h)
  refine H_seq ?_
  refine H_region (l := [_, _]) rfl ?_
  refine HO_call (first := []) (capt := []) (is := []) (R := [_, _, _]) rfl rfl rfl rfl rfl Try.call24 rfl lives20_spec ?_
  intro y23 hy23
  clear y23 hy23
  refine HO_assign rfl rfl rfl ?_
  refine HO_nil ?_
  refine H_env (ρ' := [(6, _)]) ⟨rfl, trivial⟩ ?_
  refine H_world (fun _ hA => hA.keep (m := [nn, nn, nn]) (Y := []) rfl) ?_
  refine H_ret1 Try.results8 (.tmp rfl) (fun w hA => ⟨(), congrArg Ending.returned ?_, ?_, ?_⟩)
  ·(exact congrArg Value.bool (by first | rfl | assumption | simp_all))
  ·trivial
  ·exact hA.keep (m := []) (Y := []) rfl
 intro h15
 refine HO_loadA (i := 1) (us := []) (cs := [_, _, _, _, _, _, _, _]) (ts := []) rfl rfl rfl Try.isAgg36 Try.sizeOf36 rfl (.loc _ _ _) rfl rfl rfl rfl ?_
 refine HO_call (first := []) (capt := []) (is := []) (R := [_, _, _]) rfl rfl rfl rfl rfl Try.call23 rfl (great20_spec _ _ _ _ _ _ _ _ ?_ ?_ ?_ ?_) ?_
 ·exact sk
 ·exact so
 ·exact sc
 ·exact st
 intro y17 hy17
 clear y17 hy17
 refine HO_pick_f rfl rfl rfl rfl ?_
 refine HO_move rfl rfl rfl ?_
 refine HO_split (d := 19) rfl ?_ ?_
 ·intro h19
  replace h19 := dT h19
  iterate 2 refine HO_no rfl rfl rfl ?_
  refine HO_pick_t rfl rfl rfl rfl ?_
  refine HO_nil ?_
  refine H_env (ρ' := [(22, _), (5, _), (4, _), (0, _)]) ⟨rfl, rfl, rfl, rfl, trivial⟩ ?_
  refine H_cond rfl (fun _ => ?_) (fun h => nomatch h)
  refine H_seq ?_
  refine H_region (l := [_, _]) rfl ?_
  refine HO_call (first := []) (capt := []) (is := []) (R := [_, _, _]) rfl rfl rfl rfl rfl Try.call24 rfl lives20_spec ?_
  intro y23 hy23
  clear y23 hy23
  refine HO_assign rfl rfl rfl ?_
  refine HO_nil ?_
  refine H_env (ρ' := [(6, _)]) ⟨rfl, trivial⟩ ?_
  refine H_world (fun _ hA => hA.keep (m := [nn, nn, nn]) (Y := []) rfl) ?_
  refine H_ret1 Try.results8 (.tmp rfl) (fun w hA => ⟨(), congrArg Ending.returned ?_, ?_, ?_⟩)
  ·(exact congrArg Value.bool (by first | rfl | assumption | simp_all))
  ·trivial
  ·exact hA.keep (m := []) (Y := []) rfl
 intro h19
 replace h19 := dF h19
 refine HO_loadA (i := 0) (us := []) (cs := [_, _, _, _, _, _, _, _]) (ts := []) rfl rfl rfl Try.isAgg36 Try.sizeOf36 rfl (.loc _ _ _) rfl rfl rfl rfl ?_
 refine HO_call (first := []) (capt := []) (is := []) (R := [_, _, _]) rfl rfl rfl rfl rfl Try.call23 rfl (great20_spec _ _ _ _ _ _ _ _ ?_ ?_ ?_ ?_) ?_
 ·exact sk2
 ·exact so2
 ·exact sc2
 ·exact st2
 intro y21 hy21
 clear y21 hy21
 refine HO_pick_f rfl rfl rfl rfl ?_
 refine HO_nil ?_
 refine H_env (ρ' := [(22, _), (5, _), (4, _), (0, _)]) ⟨rfl, rfl, rfl, rfl, trivial⟩ ?_
 refine H_cond rfl ?_ ?_
 ·intro h22
  replace h22 := dT h22
  refine H_seq ?_
  refine H_region (l := [_, _]) rfl ?_
  refine HO_call (first := []) (capt := []) (is := []) (R := [_, _, _]) rfl rfl rfl rfl rfl Try.call24 rfl lives20_spec ?_
  intro y23 hy23
  clear y23 hy23
  refine HO_assign rfl rfl rfl ?_
  refine HO_nil ?_
  refine H_env (ρ' := [(6, _)]) ⟨rfl, trivial⟩ ?_
  refine H_world (fun _ hA => hA.keep (m := [nn, nn, nn]) (Y := []) rfl) ?_
  refine H_ret1 Try.results8 (.tmp rfl) (fun w hA => ⟨(), congrArg Ending.returned ?_, ?_, ?_⟩)
  ·(exact congrArg Value.bool (by first | rfl | assumption | simp_all))
  ·trivial
  ·exact hA.keep (m := []) (Y := []) rfl
 intro h22
 replace h22 := dF h22
 refine H_skip ?_
 refine H_seq ?_
 refine H_meetE (σ := Nat × Nat × ((Option Addr × Nat) × (Option Addr × Nat) × (Option Addr × Nat))) _ (fun s => True) (fun s => [(4, .pointer (some ⟨g4, 0, none⟩)), (5, .pointer (some ⟨g5, 0, none⟩)), (7, .pointer (some ⟨s.1, 0, none⟩)), (8, .pointer (some ⟨s.2.1, 0, none⟩))]) (fun s => Asn w0 ok0 M0 [.loc g4 [.int .i64 (ki), .int .i64 (cs), .int .i64 (sq), .string (ke), .string (ol), .string (cv), .string (ti), .int .i64 (li)] 36, .loc g5 [.int .i64 (ki2), .int .i64 (cs2), .int .i64 (sq2), .string (ke2), .string (ol2), .string (cv2), .string (ti2), .int .i64 (li2)] 36, .loc s.1 [.slice s.2.2.1.1 (((Mod.apply (Mod.fold es).1 (Mod.fold es).2 1000 (⟨ki, cs, sq, ke, ol, cv, ti, li⟩ : Cmd)).1).length) s.2.2.1.2, .slice s.2.2.2.1.1 (((Mod.apply (Mod.fold es).1 (Mod.fold es).2 1000 (⟨ki, cs, sq, ke, ol, cv, ti, li⟩ : Cmd)).2.1).length) s.2.2.2.1.2] 56, .dat kPair.sl ((Mod.apply (Mod.fold es).1 (Mod.fold es).2 1000 (⟨ki, cs, sq, ke, ol, cv, ti, li⟩ : Cmd)).1) [.slice s.2.2.1.1 (((Mod.apply (Mod.fold es).1 (Mod.fold es).2 1000 (⟨ki, cs, sq, ke, ol, cv, ti, li⟩ : Cmd)).1).length) s.2.2.1.2], .dat kSess.sl ((Mod.apply (Mod.fold es).1 (Mod.fold es).2 1000 (⟨ki, cs, sq, ke, ol, cv, ti, li⟩ : Cmd)).2.1) [.slice s.2.2.2.1.1 (((Mod.apply (Mod.fold es).1 (Mod.fold es).2 1000 (⟨ki, cs, sq, ke, ol, cv, ti, li⟩ : Cmd)).2.1).length) s.2.2.2.1.2], .loc s.2.1 [.int .i64 ((Mod.apply (Mod.fold es).1 (Mod.fold es).2 1000 (⟨ki, cs, sq, ke, ol, cv, ti, li⟩ : Cmd)).2.2.err), .bool ((Mod.apply (Mod.fold es).1 (Mod.fold es).2 1000 (⟨ki, cs, sq, ke, ol, cv, ti, li⟩ : Cmd)).2.2.found), .string ((Mod.apply (Mod.fold es).1 (Mod.fold es).2 1000 (⟨ki, cs, sq, ke, ol, cv, ti, li⟩ : Cmd)).2.2.val), .int .i64 ((Mod.apply (Mod.fold es).1 (Mod.fold es).2 1000 (⟨ki, cs, sq, ke, ol, cv, ti, li⟩ : Cmd)).2.2.sess), .slice s.2.2.2.2.1 (((Mod.apply (Mod.fold es).1 (Mod.fold es).2 1000 (⟨ki, cs, sq, ke, ol, cv, ti, li⟩ : Cmd)).2.2.pairs).length) s.2.2.2.2.2] 38, .dat kPair.sl ((Mod.apply (Mod.fold es).1 (Mod.fold es).2 1000 (⟨ki, cs, sq, ke, ol, cv, ti, li⟩ : Cmd)).2.2.pairs) [.slice s.2.2.2.2.1 (((Mod.apply (Mod.fold es).1 (Mod.fold es).2 1000 (⟨ki, cs, sq, ke, ol, cv, ti, li⟩ : Cmd)).2.2.pairs).length) s.2.2.2.2.2]]) ?_ ?_
 ·skip
  refine H_drawB (m := [yy, yy, yy]) (Xs := [_, _, _]) (fuel := 11) (l := #[false, false, false, false, false, false, false, false, false, false, false]) mixed rfl rfl rfl ?_
  refine HA_take (i := 0) (listed' := #[true, false, false, false, false, false, false, false, false, false, false]) (bodyPost_pan _ _ _) rfl rfl rfl rfl (by kernel_rfl) rfl (V_move rfl) (fun _ hA => hA) ?_
  refine HA_take (i := 2) (listed' := #[true, false, true, false, false, false, false, false, false, false, false]) (bodyPost_pan _ _ _) rfl rfl rfl rfl (by kernel_rfl) rfl (V_loadA (i := 1) (us := []) (cs := [_, _, _, _, _, _, _, _]) (ts := []) rfl Try.isAgg36 Try.sizeOf36 rfl (.loc _ _ _) rfl rfl rfl rfl) (fun _ hA => hA) ?_
  refine HA_loud3 (i := 1) (j := 7) (m := 8) (by kernel_rfl) rfl rfl rfl ?_ ?_ ?_
  ·refine HO_dup (i := 2) rfl rfl ?_
   refine HO_call (first := []) (capt := []) (is := [0]) (R := [_, _, _]) rfl rfl rfl rfl rfl Try.call25 rfl (fold_spec _ _ _) ?_
   intro y26 hy26
   refine HA_back (listed' := #[true, true, true, false, false, false, false, false, false, false, false]) rfl (fun _ hA => hA.keep (m := [nn, nn, yy, yy, yy]) (Y := [_, _, _]) rfl) ?_
   refine HA_loud3 (i := 3) (j := 7) (m := 8) (by kernel_rfl) rfl rfl rfl ?_ ?_ ?_
   ·refine HO_dup (i := 0) rfl rfl ?_
    refine HO_dup (i := 2) rfl rfl ?_
    refine HO_call (first := []) (capt := []) (is := [0, 0]) (R := [_, _, _, _, _]) rfl rfl rfl rfl rfl Try.call29 rfl (apply_spec _ _ _ _ _ _ _ _ _ _ _ _ _ _ _ ?_ ?_ ?_ ?_ ?_ ?_) ?_
    ·exact Mod.Inv.fold
    ·decide
    ·exact rc
    ·exact rq
    ·exact sk
    ·exact sc
    intro y28 hy28
    refine HA_back (listed' := #[true, true, true, true, false, false, false, false, false, false, false]) rfl (fun _ hA => hA.keep (m := [nn, nn, nn, nn, nn, yy, yy, yy]) (Y := [_, _, _]) rfl) ?_
    refine HA_take (i := 4) (listed' := #[true, true, true, true, true, false, false, false, false, false, false]) (bodyPost_pan _ _ _) rfl rfl rfl rfl (by kernel_rfl) rfl (V_move rfl) (fun _ hA => hA.keep (m := [nn, nn, nn, nn, nn, yy, yy, yy]) (Y := [_, _, _]) rfl) ?_
    refine HA_take (i := 5) (listed' := #[true, true, true, true, true, true, false, false, false, false, false]) (bodyPost_pan _ _ _) rfl rfl rfl rfl (by kernel_rfl) rfl (V_extract (vs := [_, _]) rfl rfl) (fun _ hA => hA.keep (m := [nn, nn, nn, nn, nn, yy, yy, yy]) (Y := [_, _, _]) rfl) ?_
    refine HA_take (i := 6) (listed' := #[true, true, true, true, true, true, true, false, false, false, false]) (bodyPost_pan _ _ _) rfl rfl rfl rfl (by kernel_rfl) rfl (V_extract (vs := [_, _]) rfl rfl) (fun _ hA => hA.keep (m := [nn, nn, nn, nn, nn, yy, yy, yy]) (Y := [_, _, _]) rfl) ?_
    refine HA_loud2 (i := 7) (j := 8) (by kernel_rfl) rfl rfl ?_ ?_
    ·refine HO_alloc (cs := [_, _]) rfl rfl Try.zeroValue56 rfl ?_
     intro g7
     refine HA_back (listed' := #[true, true, true, true, true, true, true, true, false, false, false]) rfl (fun _ hA => hA.keep (m := [nn, nn, nn, nn, nn, nn, yy, yy, yy]) (Y := [_, _, _]) rfl) ?_
     refine HA_loud1 (i := 8) (by kernel_rfl) rfl ?_
     refine HO_alloc (cs := [_, _, _, _, _]) rfl rfl Try.zeroValue38 rfl ?_
     intro g8
     refine HA_back (listed' := #[true, true, true, true, true, true, true, true, true, false, false]) rfl (fun _ hA => hA.keep (m := [nn, nn, nn, nn, nn, nn, nn, yy, yy, yy]) (Y := [_, _, _]) rfl) ?_
     refine HA_loud1 (i := 9) (by kernel_rfl) rfl ?_
     refine HO_store (i := 1) (j := 0) (us := []) (old := [_, _]) (ts := []) (cs := [_, _]) (R := [_, _, _, _, _, _, _, _, _]) (new := [_, _]) rfl rfl rfl Try.sizeOf56 rfl (by simp [Value.oneCell']) rfl rfl rfl rfl rfl rfl ?_
     refine HA_back (listed' := #[true, true, true, true, true, true, true, true, true, true, false]) rfl (fun _ hA => hA.keep (m := [nn, nn, nn, nn, nn, nn, nn, yy, yy, yy]) (Y := [_, _, _]) rfl) ?_
     refine HA_loud1 (i := 10) (by kernel_rfl) rfl ?_
     refine HO_store (i := 1) (j := 0) (us := []) (old := [_, _, _, _, _]) (ts := []) (cs := [_, _, _, _, _]) (R := [_, _, _, _, _, _, _, _, _]) (new := [_, _, _, _, _]) rfl rfl rfl Try.sizeOf38 rfl (by simp [Value.oneCell']) rfl rfl rfl rfl rfl rfl ?_
     refine HA_back (listed' := #[true, true, true, true, true, true, true, true, true, true, true]) rfl (fun _ hA => hA.keep (m := [nn, nn, nn, nn, nn, nn, nn, yy, yy, yy]) (Y := [_, _, _]) rfl) ?_
     refine HA_done (by kernel_rfl) ?_
     refine H_env (ρ' := [(8, _), (7, _), (5, _), (4, _)]) ⟨rfl, rfl, rfl, rfl, trivial⟩ ?_
     refine H_world (fun _ hA => hA.keep (m := [yy, yy, yy, yy, yy, nn, nn, yy, yy, nn]) (Y := [_, _, _, _, _, _, _]) rfl) ?_
     refine H_inv (fun a w hf hA => ⟨⟨g7, g8, y28⟩, ?_, hf.sub ?_, ?_⟩)
     ·trivial
     ·exact ⟨rfl, rfl, rfl, rfl, trivial⟩
     ·exact hA.only (is := [0, 0, 0, 1, 2, 0, 4]) (Z := []) rfl
    ·refine HO_alloc (cs := [_, _, _, _, _]) rfl rfl Try.zeroValue38 rfl ?_
     intro g8
     refine HA_back (listed' := #[true, true, true, true, true, true, true, false, true, false, false]) rfl (fun _ hA => hA.keep (m := [nn, nn, nn, nn, nn, nn, yy, yy, yy]) (Y := [_, _, _]) rfl) ?_
     refine HA_loud1 (i := 7) (by kernel_rfl) rfl ?_
     refine HO_alloc (cs := [_, _]) rfl rfl Try.zeroValue56 rfl ?_
     intro g7
     refine HA_back (listed' := #[true, true, true, true, true, true, true, true, true, false, false]) rfl (fun _ hA => hA.keep (m := [nn, nn, nn, nn, nn, nn, nn, yy, yy, yy]) (Y := [_, _, _]) rfl) ?_
     refine HA_loud1 (i := 9) (by kernel_rfl) rfl ?_
     refine HO_store (i := 0) (j := 0) (us := []) (old := [_, _]) (ts := []) (cs := [_, _]) (R := [_, _, _, _, _, _, _, _, _]) (new := [_, _]) rfl rfl rfl Try.sizeOf56 rfl (by simp [Value.oneCell']) rfl rfl rfl rfl rfl rfl ?_
     refine HA_back (listed' := #[true, true, true, true, true, true, true, true, true, true, false]) rfl (fun _ hA => hA.keep (m := [nn, nn, nn, nn, nn, nn, nn, yy, yy, yy]) (Y := [_, _, _]) rfl) ?_
     refine HA_loud1 (i := 10) (by kernel_rfl) rfl ?_
     refine HO_store (i := 1) (j := 0) (us := []) (old := [_, _, _, _, _]) (ts := []) (cs := [_, _, _, _, _]) (R := [_, _, _, _, _, _, _, _, _]) (new := [_, _, _, _, _]) rfl rfl rfl Try.sizeOf38 rfl (by simp [Value.oneCell']) rfl rfl rfl rfl rfl rfl ?_
     refine HA_back (listed' := #[true, true, true, true, true, true, true, true, true, true, true]) rfl (fun _ hA => hA.keep (m := [nn, nn, nn, nn, nn, nn, nn, yy, yy, yy]) (Y := [_, _, _]) rfl) ?_
     refine HA_done (by kernel_rfl) ?_
     refine H_env (ρ' := [(7, _), (8, _), (5, _), (4, _)]) ⟨rfl, rfl, rfl, rfl, trivial⟩ ?_
     refine H_world (fun _ hA => hA.keep (m := [yy, yy, yy, yy, yy, nn, nn, yy, yy, nn]) (Y := [_, _, _, _, _, _, _]) rfl) ?_
     refine H_inv (fun a w hf hA => ⟨⟨g7, g8, y28⟩, ?_, hf.sub ?_, ?_⟩)
     ·trivial
     ·exact ⟨rfl, rfl, rfl, rfl, trivial⟩
     ·exact hA.only (is := [0, 0, 0, 1, 2, 0, 4]) (Z := []) rfl
   ·refine HO_alloc (cs := [_, _]) rfl rfl Try.zeroValue56 rfl ?_
    intro g7
    refine HA_back (listed' := #[true, true, true, false, false, false, false, true, false, false, false]) rfl (fun _ hA => hA.keep (m := [nn, nn, nn, yy, yy, yy]) (Y := [_, _, _]) rfl) ?_
    refine HA_loud2 (i := 3) (j := 8) (by kernel_rfl) rfl rfl ?_ ?_
    ·refine HO_dup (i := 1) rfl rfl ?_
     refine HO_dup (i := 3) rfl rfl ?_
     refine HO_call (first := []) (capt := []) (is := [0, 0]) (R := [_, _, _, _, _, _]) rfl rfl rfl rfl rfl Try.call29 rfl (apply_spec _ _ _ _ _ _ _ _ _ _ _ _ _ _ _ ?_ ?_ ?_ ?_ ?_ ?_) ?_
     ·exact Mod.Inv.fold
     ·decide
     ·exact rc
     ·exact rq
     ·exact sk
     ·exact sc
     intro y28 hy28
     refine HA_back (listed' := #[true, true, true, true, false, false, false, true, false, false, false]) rfl (fun _ hA => hA.keep (m := [nn, nn, nn, nn, nn, nn, yy, yy, yy]) (Y := [_, _, _]) rfl) ?_
     refine HA_take (i := 4) (listed' := #[true, true, true, true, true, false, false, true, false, false, false]) (bodyPost_pan _ _ _) rfl rfl rfl rfl (by kernel_rfl) rfl (V_move rfl) (fun _ hA => hA.keep (m := [nn, nn, nn, nn, nn, nn, yy, yy, yy]) (Y := [_, _, _]) rfl) ?_
     refine HA_take (i := 5) (listed' := #[true, true, true, true, true, true, false, true, false, false, false]) (bodyPost_pan _ _ _) rfl rfl rfl rfl (by kernel_rfl) rfl (V_extract (vs := [_, _]) rfl rfl) (fun _ hA => hA.keep (m := [nn, nn, nn, nn, nn, nn, yy, yy, yy]) (Y := [_, _, _]) rfl) ?_
     refine HA_take (i := 6) (listed' := #[true, true, true, true, true, true, true, true, false, false, false]) (bodyPost_pan _ _ _) rfl rfl rfl rfl (by kernel_rfl) rfl (V_extract (vs := [_, _]) rfl rfl) (fun _ hA => hA.keep (m := [nn, nn, nn, nn, nn, nn, yy, yy, yy]) (Y := [_, _, _]) rfl) ?_
     refine HA_loud1 (i := 8) (by kernel_rfl) rfl ?_
     refine HO_alloc (cs := [_, _, _, _, _]) rfl rfl Try.zeroValue38 rfl ?_
     intro g8
     refine HA_back (listed' := #[true, true, true, true, true, true, true, true, true, false, false]) rfl (fun _ hA => hA.keep (m := [nn, nn, nn, nn, nn, nn, nn, yy, yy, yy]) (Y := [_, _, _]) rfl) ?_
     refine HA_loud1 (i := 9) (by kernel_rfl) rfl ?_
     refine HO_store (i := 4) (j := 0) (us := []) (old := [_, _]) (ts := []) (cs := [_, _]) (R := [_, _, _, _, _, _, _, _, _]) (new := [_, _]) rfl rfl rfl Try.sizeOf56 rfl (by simp [Value.oneCell']) rfl rfl rfl rfl rfl rfl ?_
     refine HA_back (listed' := #[true, true, true, true, true, true, true, true, true, true, false]) rfl (fun _ hA => hA.keep (m := [nn, nn, nn, nn, nn, nn, nn, yy, yy, yy]) (Y := [_, _, _]) rfl) ?_
     refine HA_loud1 (i := 10) (by kernel_rfl) rfl ?_
     refine HO_store (i := 1) (j := 0) (us := []) (old := [_, _, _, _, _]) (ts := []) (cs := [_, _, _, _, _]) (R := [_, _, _, _, _, _, _, _, _]) (new := [_, _, _, _, _]) rfl rfl rfl Try.sizeOf38 rfl (by simp [Value.oneCell']) rfl rfl rfl rfl rfl rfl ?_
     refine HA_back (listed' := #[true, true, true, true, true, true, true, true, true, true, true]) rfl (fun _ hA => hA.keep (m := [nn, nn, nn, nn, nn, nn, nn, yy, yy, yy]) (Y := [_, _, _]) rfl) ?_
     refine HA_done (by kernel_rfl) ?_
     refine H_env (ρ' := [(8, _), (7, _), (5, _), (4, _)]) ⟨rfl, rfl, rfl, rfl, trivial⟩ ?_
     refine H_world (fun _ hA => hA.keep (m := [yy, yy, yy, yy, yy, nn, nn, yy, yy, nn]) (Y := [_, _, _, _, _, _, _]) rfl) ?_
     refine H_inv (fun a w hf hA => ⟨⟨g7, g8, y28⟩, ?_, hf.sub ?_, ?_⟩)
     ·trivial
     ·exact ⟨rfl, rfl, rfl, rfl, trivial⟩
     ·exact hA.only (is := [0, 0, 0, 1, 2, 0, 4]) (Z := []) rfl
    ·refine HO_alloc (cs := [_, _, _, _, _]) rfl rfl Try.zeroValue38 rfl ?_
     intro g8
     refine HA_back (listed' := #[true, true, true, false, false, false, false, true, true, false, false]) rfl (fun _ hA => hA.keep (m := [nn, nn, nn, nn, yy, yy, yy]) (Y := [_, _, _]) rfl) ?_
     refine HA_loud1 (i := 3) (by kernel_rfl) rfl ?_
     refine HO_dup (i := 2) rfl rfl ?_
     refine HO_dup (i := 4) rfl rfl ?_
     refine HO_call (first := []) (capt := []) (is := [0, 0]) (R := [_, _, _, _, _, _, _]) rfl rfl rfl rfl rfl Try.call29 rfl (apply_spec _ _ _ _ _ _ _ _ _ _ _ _ _ _ _ ?_ ?_ ?_ ?_ ?_ ?_) ?_
     ·exact Mod.Inv.fold
     ·decide
     ·exact rc
     ·exact rq
     ·exact sk
     ·exact sc
     intro y28 hy28
     refine HA_back (listed' := #[true, true, true, true, false, false, false, true, true, false, false]) rfl (fun _ hA => hA.keep (m := [nn, nn, nn, nn, nn, nn, nn, yy, yy, yy]) (Y := [_, _, _]) rfl) ?_
     refine HA_take (i := 4) (listed' := #[true, true, true, true, true, false, false, true, true, false, false]) (bodyPost_pan _ _ _) rfl rfl rfl rfl (by kernel_rfl) rfl (V_move rfl) (fun _ hA => hA.keep (m := [nn, nn, nn, nn, nn, nn, nn, yy, yy, yy]) (Y := [_, _, _]) rfl) ?_
     refine HA_take (i := 5) (listed' := #[true, true, true, true, true, true, false, true, true, false, false]) (bodyPost_pan _ _ _) rfl rfl rfl rfl (by kernel_rfl) rfl (V_extract (vs := [_, _]) rfl rfl) (fun _ hA => hA.keep (m := [nn, nn, nn, nn, nn, nn, nn, yy, yy, yy]) (Y := [_, _, _]) rfl) ?_
     refine HA_take (i := 6) (listed' := #[true, true, true, true, true, true, true, true, true, false, false]) (bodyPost_pan _ _ _) rfl rfl rfl rfl (by kernel_rfl) rfl (V_extract (vs := [_, _]) rfl rfl) (fun _ hA => hA.keep (m := [nn, nn, nn, nn, nn, nn, nn, yy, yy, yy]) (Y := [_, _, _]) rfl) ?_
     refine HA_loud1 (i := 9) (by kernel_rfl) rfl ?_
     refine HO_store (i := 4) (j := 0) (us := []) (old := [_, _]) (ts := []) (cs := [_, _]) (R := [_, _, _, _, _, _, _, _, _]) (new := [_, _]) rfl rfl rfl Try.sizeOf56 rfl (by simp [Value.oneCell']) rfl rfl rfl rfl rfl rfl ?_
     refine HA_back (listed' := #[true, true, true, true, true, true, true, true, true, true, false]) rfl (fun _ hA => hA.keep (m := [nn, nn, nn, nn, nn, nn, nn, yy, yy, yy]) (Y := [_, _, _]) rfl) ?_
     refine HA_loud1 (i := 10) (by kernel_rfl) rfl ?_
     refine HO_store (i := 4) (j := 0) (us := []) (old := [_, _, _, _, _]) (ts := []) (cs := [_, _, _, _, _]) (R := [_, _, _, _, _, _, _, _, _]) (new := [_, _, _, _, _]) rfl rfl rfl Try.sizeOf38 rfl (by simp [Value.oneCell']) rfl rfl rfl rfl rfl rfl ?_
     refine HA_back (listed' := #[true, true, true, true, true, true, true, true, true, true, true]) rfl (fun _ hA => hA.keep (m := [nn, nn, nn, nn, nn, nn, nn, yy, yy, yy]) (Y := [_, _, _]) rfl) ?_
     refine HA_done (by kernel_rfl) ?_
     refine H_env (ρ' := [(8, _), (7, _), (5, _), (4, _)]) ⟨rfl, rfl, rfl, rfl, trivial⟩ ?_
     refine H_world (fun _ hA => hA.keep (m := [yy, yy, yy, yy, yy, nn, nn, yy, yy, nn]) (Y := [_, _, _, _, _, _, _]) rfl) ?_
     refine H_inv (fun a w hf hA => ⟨⟨g7, g8, y28⟩, ?_, hf.sub ?_, ?_⟩)
     ·trivial
     ·exact ⟨rfl, rfl, rfl, rfl, trivial⟩
     ·exact hA.only (is := [0, 0, 0, 1, 2, 0, 4]) (Z := []) rfl
   ·refine HO_alloc (cs := [_, _, _, _, _]) rfl rfl Try.zeroValue38 rfl ?_
    intro g8
    refine HA_back (listed' := #[true, true, true, false, false, false, false, false, true, false, false]) rfl (fun _ hA => hA.keep (m := [nn, nn, nn, yy, yy, yy]) (Y := [_, _, _]) rfl) ?_
    refine HA_loud2 (i := 3) (j := 7) (by kernel_rfl) rfl rfl ?_ ?_
    ·refine HO_dup (i := 1) rfl rfl ?_
     refine HO_dup (i := 3) rfl rfl ?_
     refine HO_call (first := []) (capt := []) (is := [0, 0]) (R := [_, _, _, _, _, _]) rfl rfl rfl rfl rfl Try.call29 rfl (apply_spec _ _ _ _ _ _ _ _ _ _ _ _ _ _ _ ?_ ?_ ?_ ?_ ?_ ?_) ?_
     ·exact Mod.Inv.fold
     ·decide
     ·exact rc
     ·exact rq
     ·exact sk
     ·exact sc
     intro y28 hy28
     refine HA_back (listed' := #[true, true, true, true, false, false, false, false, true, false, false]) rfl (fun _ hA => hA.keep (m := [nn, nn, nn, nn, nn, nn, yy, yy, yy]) (Y := [_, _, _]) rfl) ?_
     refine HA_take (i := 4) (listed' := #[true, true, true, true, true, false, false, false, true, false, false]) (bodyPost_pan _ _ _) rfl rfl rfl rfl (by kernel_rfl) rfl (V_move rfl) (fun _ hA => hA.keep (m := [nn, nn, nn, nn, nn, nn, yy, yy, yy]) (Y := [_, _, _]) rfl) ?_
     refine HA_take (i := 5) (listed' := #[true, true, true, true, true, true, false, false, true, false, false]) (bodyPost_pan _ _ _) rfl rfl rfl rfl (by kernel_rfl) rfl (V_extract (vs := [_, _]) rfl rfl) (fun _ hA => hA.keep (m := [nn, nn, nn, nn, nn, nn, yy, yy, yy]) (Y := [_, _, _]) rfl) ?_
     refine HA_take (i := 6) (listed' := #[true, true, true, true, true, true, true, false, true, false, false]) (bodyPost_pan _ _ _) rfl rfl rfl rfl (by kernel_rfl) rfl (V_extract (vs := [_, _]) rfl rfl) (fun _ hA => hA.keep (m := [nn, nn, nn, nn, nn, nn, yy, yy, yy]) (Y := [_, _, _]) rfl) ?_
     refine HA_loud1 (i := 7) (by kernel_rfl) rfl ?_
     refine HO_alloc (cs := [_, _]) rfl rfl Try.zeroValue56 rfl ?_
     intro g7
     refine HA_back (listed' := #[true, true, true, true, true, true, true, true, true, false, false]) rfl (fun _ hA => hA.keep (m := [nn, nn, nn, nn, nn, nn, nn, yy, yy, yy]) (Y := [_, _, _]) rfl) ?_
     refine HA_loud1 (i := 9) (by kernel_rfl) rfl ?_
     refine HO_store (i := 0) (j := 0) (us := []) (old := [_, _]) (ts := []) (cs := [_, _]) (R := [_, _, _, _, _, _, _, _, _]) (new := [_, _]) rfl rfl rfl Try.sizeOf56 rfl (by simp [Value.oneCell']) rfl rfl rfl rfl rfl rfl ?_
     refine HA_back (listed' := #[true, true, true, true, true, true, true, true, true, true, false]) rfl (fun _ hA => hA.keep (m := [nn, nn, nn, nn, nn, nn, nn, yy, yy, yy]) (Y := [_, _, _]) rfl) ?_
     refine HA_loud1 (i := 10) (by kernel_rfl) rfl ?_
     refine HO_store (i := 4) (j := 0) (us := []) (old := [_, _, _, _, _]) (ts := []) (cs := [_, _, _, _, _]) (R := [_, _, _, _, _, _, _, _, _]) (new := [_, _, _, _, _]) rfl rfl rfl Try.sizeOf38 rfl (by simp [Value.oneCell']) rfl rfl rfl rfl rfl rfl ?_
     refine HA_back (listed' := #[true, true, true, true, true, true, true, true, true, true, true]) rfl (fun _ hA => hA.keep (m := [nn, nn, nn, nn, nn, nn, nn, yy, yy, yy]) (Y := [_, _, _]) rfl) ?_
     refine HA_done (by kernel_rfl) ?_
     refine H_env (ρ' := [(7, _), (8, _), (5, _), (4, _)]) ⟨rfl, rfl, rfl, rfl, trivial⟩ ?_
     refine H_world (fun _ hA => hA.keep (m := [yy, yy, yy, yy, yy, nn, nn, yy, yy, nn]) (Y := [_, _, _, _, _, _, _]) rfl) ?_
     refine H_inv (fun a w hf hA => ⟨⟨g7, g8, y28⟩, ?_, hf.sub ?_, ?_⟩)
     ·trivial
     ·exact ⟨rfl, rfl, rfl, rfl, trivial⟩
     ·exact hA.only (is := [0, 0, 0, 1, 2, 0, 4]) (Z := []) rfl
    ·refine HO_alloc (cs := [_, _]) rfl rfl Try.zeroValue56 rfl ?_
     intro g7
     refine HA_back (listed' := #[true, true, true, false, false, false, false, true, true, false, false]) rfl (fun _ hA => hA.keep (m := [nn, nn, nn, nn, yy, yy, yy]) (Y := [_, _, _]) rfl) ?_
     refine HA_loud1 (i := 3) (by kernel_rfl) rfl ?_
     refine HO_dup (i := 2) rfl rfl ?_
     refine HO_dup (i := 4) rfl rfl ?_
     refine HO_call (first := []) (capt := []) (is := [0, 0]) (R := [_, _, _, _, _, _, _]) rfl rfl rfl rfl rfl Try.call29 rfl (apply_spec _ _ _ _ _ _ _ _ _ _ _ _ _ _ _ ?_ ?_ ?_ ?_ ?_ ?_) ?_
     ·exact Mod.Inv.fold
     ·decide
     ·exact rc
     ·exact rq
     ·exact sk
     ·exact sc
     intro y28 hy28
     refine HA_back (listed' := #[true, true, true, true, false, false, false, true, true, false, false]) rfl (fun _ hA => hA.keep (m := [nn, nn, nn, nn, nn, nn, nn, yy, yy, yy]) (Y := [_, _, _]) rfl) ?_
     refine HA_take (i := 4) (listed' := #[true, true, true, true, true, false, false, true, true, false, false]) (bodyPost_pan _ _ _) rfl rfl rfl rfl (by kernel_rfl) rfl (V_move rfl) (fun _ hA => hA.keep (m := [nn, nn, nn, nn, nn, nn, nn, yy, yy, yy]) (Y := [_, _, _]) rfl) ?_
     refine HA_take (i := 5) (listed' := #[true, true, true, true, true, true, false, true, true, false, false]) (bodyPost_pan _ _ _) rfl rfl rfl rfl (by kernel_rfl) rfl (V_extract (vs := [_, _]) rfl rfl) (fun _ hA => hA.keep (m := [nn, nn, nn, nn, nn, nn, nn, yy, yy, yy]) (Y := [_, _, _]) rfl) ?_
     refine HA_take (i := 6) (listed' := #[true, true, true, true, true, true, true, true, true, false, false]) (bodyPost_pan _ _ _) rfl rfl rfl rfl (by kernel_rfl) rfl (V_extract (vs := [_, _]) rfl rfl) (fun _ hA => hA.keep (m := [nn, nn, nn, nn, nn, nn, nn, yy, yy, yy]) (Y := [_, _, _]) rfl) ?_
     refine HA_loud1 (i := 9) (by kernel_rfl) rfl ?_
     refine HO_store (i := 3) (j := 0) (us := []) (old := [_, _]) (ts := []) (cs := [_, _]) (R := [_, _, _, _, _, _, _, _, _]) (new := [_, _]) rfl rfl rfl Try.sizeOf56 rfl (by simp [Value.oneCell']) rfl rfl rfl rfl rfl rfl ?_
     refine HA_back (listed' := #[true, true, true, true, true, true, true, true, true, true, false]) rfl (fun _ hA => hA.keep (m := [nn, nn, nn, nn, nn, nn, nn, yy, yy, yy]) (Y := [_, _, _]) rfl) ?_
     refine HA_loud1 (i := 10) (by kernel_rfl) rfl ?_
     refine HO_store (i := 4) (j := 0) (us := []) (old := [_, _, _, _, _]) (ts := []) (cs := [_, _, _, _, _]) (R := [_, _, _, _, _, _, _, _, _]) (new := [_, _, _, _, _]) rfl rfl rfl Try.sizeOf38 rfl (by simp [Value.oneCell']) rfl rfl rfl rfl rfl rfl ?_
     refine HA_back (listed' := #[true, true, true, true, true, true, true, true, true, true, true]) rfl (fun _ hA => hA.keep (m := [nn, nn, nn, nn, nn, nn, nn, yy, yy, yy]) (Y := [_, _, _]) rfl) ?_
     refine HA_done (by kernel_rfl) ?_
     refine H_env (ρ' := [(7, _), (8, _), (5, _), (4, _)]) ⟨rfl, rfl, rfl, rfl, trivial⟩ ?_
     refine H_world (fun _ hA => hA.keep (m := [yy, yy, yy, yy, yy, nn, nn, yy, yy, nn]) (Y := [_, _, _, _, _, _, _]) rfl) ?_
     refine H_inv (fun a w hf hA => ⟨⟨g7, g8, y28⟩, ?_, hf.sub ?_, ?_⟩)
     ·trivial
     ·exact ⟨rfl, rfl, rfl, rfl, trivial⟩
     ·exact hA.only (is := [0, 0, 0, 1, 2, 0, 4]) (Z := []) rfl
  ·refine HO_alloc (cs := [_, _]) rfl rfl Try.zeroValue56 rfl ?_
   intro g7
   refine HA_back (listed' := #[true, false, true, false, false, false, false, true, false, false, false]) rfl (fun _ hA => hA.keep (m := [nn, yy, yy, yy]) (Y := [_, _, _]) rfl) ?_
   refine HA_loud2 (i := 1) (j := 8) (by kernel_rfl) rfl rfl ?_ ?_
   ·refine HO_dup (i := 3) rfl rfl ?_
    refine HO_call (first := []) (capt := []) (is := [0]) (R := [_, _, _, _]) rfl rfl rfl rfl rfl Try.call25 rfl (fold_spec _ _ _) ?_
    intro y26 hy26
    refine HA_back (listed' := #[true, true, true, false, false, false, false, true, false, false, false]) rfl (fun _ hA => hA.keep (m := [nn, nn, nn, yy, yy, yy]) (Y := [_, _, _]) rfl) ?_
    refine HA_loud2 (i := 3) (j := 8) (by kernel_rfl) rfl rfl ?_ ?_
    ·refine HO_dup (i := 0) rfl rfl ?_
     refine HO_dup (i := 2) rfl rfl ?_
     refine HO_call (first := []) (capt := []) (is := [0, 0]) (R := [_, _, _, _, _, _]) rfl rfl rfl rfl rfl Try.call29 rfl (apply_spec _ _ _ _ _ _ _ _ _ _ _ _ _ _ _ ?_ ?_ ?_ ?_ ?_ ?_) ?_
     ·exact Mod.Inv.fold
     ·decide
     ·exact rc
     ·exact rq
     ·exact sk
     ·exact sc
     intro y28 hy28
     refine HA_back (listed' := #[true, true, true, true, false, false, false, true, false, false, false]) rfl (fun _ hA => hA.keep (m := [nn, nn, nn, nn, nn, nn, yy, yy, yy]) (Y := [_, _, _]) rfl) ?_
     refine HA_take (i := 4) (listed' := #[true, true, true, true, true, false, false, true, false, false, false]) (bodyPost_pan _ _ _) rfl rfl rfl rfl (by kernel_rfl) rfl (V_move rfl) (fun _ hA => hA.keep (m := [nn, nn, nn, nn, nn, nn, yy, yy, yy]) (Y := [_, _, _]) rfl) ?_
     refine HA_take (i := 5) (listed' := #[true, true, true, true, true, true, false, true, false, false, false]) (bodyPost_pan _ _ _) rfl rfl rfl rfl (by kernel_rfl) rfl (V_extract (vs := [_, _]) rfl rfl) (fun _ hA => hA.keep (m := [nn, nn, nn, nn, nn, nn, yy, yy, yy]) (Y := [_, _, _]) rfl) ?_
     refine HA_take (i := 6) (listed' := #[true, true, true, true, true, true, true, true, false, false, false]) (bodyPost_pan _ _ _) rfl rfl rfl rfl (by kernel_rfl) rfl (V_extract (vs := [_, _]) rfl rfl) (fun _ hA => hA.keep (m := [nn, nn, nn, nn, nn, nn, yy, yy, yy]) (Y := [_, _, _]) rfl) ?_
     refine HA_loud1 (i := 8) (by kernel_rfl) rfl ?_
     refine HO_alloc (cs := [_, _, _, _, _]) rfl rfl Try.zeroValue38 rfl ?_
     intro g8
     refine HA_back (listed' := #[true, true, true, true, true, true, true, true, true, false, false]) rfl (fun _ hA => hA.keep (m := [nn, nn, nn, nn, nn, nn, nn, yy, yy, yy]) (Y := [_, _, _]) rfl) ?_
     refine HA_loud1 (i := 9) (by kernel_rfl) rfl ?_
     refine HO_store (i := 6) (j := 0) (us := []) (old := [_, _]) (ts := []) (cs := [_, _]) (R := [_, _, _, _, _, _, _, _, _]) (new := [_, _]) rfl rfl rfl Try.sizeOf56 rfl (by simp [Value.oneCell']) rfl rfl rfl rfl rfl rfl ?_
     refine HA_back (listed' := #[true, true, true, true, true, true, true, true, true, true, false]) rfl (fun _ hA => hA.keep (m := [nn, nn, nn, nn, nn, nn, nn, yy, yy, yy]) (Y := [_, _, _]) rfl) ?_
     refine HA_loud1 (i := 10) (by kernel_rfl) rfl ?_
     refine HO_store (i := 1) (j := 0) (us := []) (old := [_, _, _, _, _]) (ts := []) (cs := [_, _, _, _, _]) (R := [_, _, _, _, _, _, _, _, _]) (new := [_, _, _, _, _]) rfl rfl rfl Try.sizeOf38 rfl (by simp [Value.oneCell']) rfl rfl rfl rfl rfl rfl ?_
     refine HA_back (listed' := #[true, true, true, true, true, true, true, true, true, true, true]) rfl (fun _ hA => hA.keep (m := [nn, nn, nn, nn, nn, nn, nn, yy, yy, yy]) (Y := [_, _, _]) rfl) ?_
     refine HA_done (by kernel_rfl) ?_
     refine H_env (ρ' := [(8, _), (7, _), (5, _), (4, _)]) ⟨rfl, rfl, rfl, rfl, trivial⟩ ?_
     refine H_world (fun _ hA => hA.keep (m := [yy, yy, yy, yy, yy, nn, nn, yy, yy, nn]) (Y := [_, _, _, _, _, _, _]) rfl) ?_
     refine H_inv (fun a w hf hA => ⟨⟨g7, g8, y28⟩, ?_, hf.sub ?_, ?_⟩)
     ·trivial
     ·exact ⟨rfl, rfl, rfl, rfl, trivial⟩
     ·exact hA.only (is := [0, 0, 0, 1, 2, 0, 4]) (Z := []) rfl
    ·refine HO_alloc (cs := [_, _, _, _, _]) rfl rfl Try.zeroValue38 rfl ?_
     intro g8
     refine HA_back (listed' := #[true, true, true, false, false, false, false, true, true, false, false]) rfl (fun _ hA => hA.keep (m := [nn, nn, nn, nn, yy, yy, yy]) (Y := [_, _, _]) rfl) ?_
     refine HA_loud1 (i := 3) (by kernel_rfl) rfl ?_
     refine HO_dup (i := 1) rfl rfl ?_
     refine HO_dup (i := 3) rfl rfl ?_
     refine HO_call (first := []) (capt := []) (is := [0, 0]) (R := [_, _, _, _, _, _, _]) rfl rfl rfl rfl rfl Try.call29 rfl (apply_spec _ _ _ _ _ _ _ _ _ _ _ _ _ _ _ ?_ ?_ ?_ ?_ ?_ ?_) ?_
     ·exact Mod.Inv.fold
     ·decide
     ·exact rc
     ·exact rq
     ·exact sk
     ·exact sc
     intro y28 hy28
     refine HA_back (listed' := #[true, true, true, true, false, false, false, true, true, false, false]) rfl (fun _ hA => hA.keep (m := [nn, nn, nn, nn, nn, nn, nn, yy, yy, yy]) (Y := [_, _, _]) rfl) ?_
     refine HA_take (i := 4) (listed' := #[true, true, true, true, true, false, false, true, true, false, false]) (bodyPost_pan _ _ _) rfl rfl rfl rfl (by kernel_rfl) rfl (V_move rfl) (fun _ hA => hA.keep (m := [nn, nn, nn, nn, nn, nn, nn, yy, yy, yy]) (Y := [_, _, _]) rfl) ?_
     refine HA_take (i := 5) (listed' := #[true, true, true, true, true, true, false, true, true, false, false]) (bodyPost_pan _ _ _) rfl rfl rfl rfl (by kernel_rfl) rfl (V_extract (vs := [_, _]) rfl rfl) (fun _ hA => hA.keep (m := [nn, nn, nn, nn, nn, nn, nn, yy, yy, yy]) (Y := [_, _, _]) rfl) ?_
     refine HA_take (i := 6) (listed' := #[true, true, true, true, true, true, true, true, true, false, false]) (bodyPost_pan _ _ _) rfl rfl rfl rfl (by kernel_rfl) rfl (V_extract (vs := [_, _]) rfl rfl) (fun _ hA => hA.keep (m := [nn, nn, nn, nn, nn, nn, nn, yy, yy, yy]) (Y := [_, _, _]) rfl) ?_
     refine HA_loud1 (i := 9) (by kernel_rfl) rfl ?_
     refine HO_store (i := 6) (j := 0) (us := []) (old := [_, _]) (ts := []) (cs := [_, _]) (R := [_, _, _, _, _, _, _, _, _]) (new := [_, _]) rfl rfl rfl Try.sizeOf56 rfl (by simp [Value.oneCell']) rfl rfl rfl rfl rfl rfl ?_
     refine HA_back (listed' := #[true, true, true, true, true, true, true, true, true, true, false]) rfl (fun _ hA => hA.keep (m := [nn, nn, nn, nn, nn, nn, nn, yy, yy, yy]) (Y := [_, _, _]) rfl) ?_
     refine HA_loud1 (i := 10) (by kernel_rfl) rfl ?_
     refine HO_store (i := 4) (j := 0) (us := []) (old := [_, _, _, _, _]) (ts := []) (cs := [_, _, _, _, _]) (R := [_, _, _, _, _, _, _, _, _]) (new := [_, _, _, _, _]) rfl rfl rfl Try.sizeOf38 rfl (by simp [Value.oneCell']) rfl rfl rfl rfl rfl rfl ?_
     refine HA_back (listed' := #[true, true, true, true, true, true, true, true, true, true, true]) rfl (fun _ hA => hA.keep (m := [nn, nn, nn, nn, nn, nn, nn, yy, yy, yy]) (Y := [_, _, _]) rfl) ?_
     refine HA_done (by kernel_rfl) ?_
     refine H_env (ρ' := [(8, _), (7, _), (5, _), (4, _)]) ⟨rfl, rfl, rfl, rfl, trivial⟩ ?_
     refine H_world (fun _ hA => hA.keep (m := [yy, yy, yy, yy, yy, nn, nn, yy, yy, nn]) (Y := [_, _, _, _, _, _, _]) rfl) ?_
     refine H_inv (fun a w hf hA => ⟨⟨g7, g8, y28⟩, ?_, hf.sub ?_, ?_⟩)
     ·trivial
     ·exact ⟨rfl, rfl, rfl, rfl, trivial⟩
     ·exact hA.only (is := [0, 0, 0, 1, 2, 0, 4]) (Z := []) rfl
   ·refine HO_alloc (cs := [_, _, _, _, _]) rfl rfl Try.zeroValue38 rfl ?_
    intro g8
    refine HA_back (listed' := #[true, false, true, false, false, false, false, true, true, false, false]) rfl (fun _ hA => hA.keep (m := [nn, nn, yy, yy, yy]) (Y := [_, _, _]) rfl) ?_
    refine HA_loud1 (i := 1) (by kernel_rfl) rfl ?_
    refine HO_dup (i := 4) rfl rfl ?_
    refine HO_call (first := []) (capt := []) (is := [0]) (R := [_, _, _, _, _]) rfl rfl rfl rfl rfl Try.call25 rfl (fold_spec _ _ _) ?_
    intro y26 hy26
    refine HA_back (listed' := #[true, true, true, false, false, false, false, true, true, false, false]) rfl (fun _ hA => hA.keep (m := [nn, nn, nn, nn, yy, yy, yy]) (Y := [_, _, _]) rfl) ?_
    refine HA_loud1 (i := 3) (by kernel_rfl) rfl ?_
    refine HO_dup (i := 0) rfl rfl ?_
    refine HO_dup (i := 2) rfl rfl ?_
    refine HO_call (first := []) (capt := []) (is := [0, 0]) (R := [_, _, _, _, _, _, _]) rfl rfl rfl rfl rfl Try.call29 rfl (apply_spec _ _ _ _ _ _ _ _ _ _ _ _ _ _ _ ?_ ?_ ?_ ?_ ?_ ?_) ?_
    ·exact Mod.Inv.fold
    ·decide
    ·exact rc
    ·exact rq
    ·exact sk
    ·exact sc
    intro y28 hy28
    refine HA_back (listed' := #[true, true, true, true, false, false, false, true, true, false, false]) rfl (fun _ hA => hA.keep (m := [nn, nn, nn, nn, nn, nn, nn, yy, yy, yy]) (Y := [_, _, _]) rfl) ?_
    refine HA_take (i := 4) (listed' := #[true, true, true, true, true, false, false, true, true, false, false]) (bodyPost_pan _ _ _) rfl rfl rfl rfl (by kernel_rfl) rfl (V_move rfl) (fun _ hA => hA.keep (m := [nn, nn, nn, nn, nn, nn, nn, yy, yy, yy]) (Y := [_, _, _]) rfl) ?_
    refine HA_take (i := 5) (listed' := #[true, true, true, true, true, true, false, true, true, false, false]) (bodyPost_pan _ _ _) rfl rfl rfl rfl (by kernel_rfl) rfl (V_extract (vs := [_, _]) rfl rfl) (fun _ hA => hA.keep (m := [nn, nn, nn, nn, nn, nn, nn, yy, yy, yy]) (Y := [_, _, _]) rfl) ?_
    refine HA_take (i := 6) (listed' := #[true, true, true, true, true, true, true, true, true, false, false]) (bodyPost_pan _ _ _) rfl rfl rfl rfl (by kernel_rfl) rfl (V_extract (vs := [_, _]) rfl rfl) (fun _ hA => hA.keep (m := [nn, nn, nn, nn, nn, nn, nn, yy, yy, yy]) (Y := [_, _, _]) rfl) ?_
    refine HA_loud1 (i := 9) (by kernel_rfl) rfl ?_
    refine HO_store (i := 6) (j := 0) (us := []) (old := [_, _]) (ts := []) (cs := [_, _]) (R := [_, _, _, _, _, _, _, _, _]) (new := [_, _]) rfl rfl rfl Try.sizeOf56 rfl (by simp [Value.oneCell']) rfl rfl rfl rfl rfl rfl ?_
    refine HA_back (listed' := #[true, true, true, true, true, true, true, true, true, true, false]) rfl (fun _ hA => hA.keep (m := [nn, nn, nn, nn, nn, nn, nn, yy, yy, yy]) (Y := [_, _, _]) rfl) ?_
    refine HA_loud1 (i := 10) (by kernel_rfl) rfl ?_
    refine HO_store (i := 6) (j := 0) (us := []) (old := [_, _, _, _, _]) (ts := []) (cs := [_, _, _, _, _]) (R := [_, _, _, _, _, _, _, _, _]) (new := [_, _, _, _, _]) rfl rfl rfl Try.sizeOf38 rfl (by simp [Value.oneCell']) rfl rfl rfl rfl rfl rfl ?_
    refine HA_back (listed' := #[true, true, true, true, true, true, true, true, true, true, true]) rfl (fun _ hA => hA.keep (m := [nn, nn, nn, nn, nn, nn, nn, yy, yy, yy]) (Y := [_, _, _]) rfl) ?_
    refine HA_done (by kernel_rfl) ?_
    refine H_env (ρ' := [(8, _), (7, _), (5, _), (4, _)]) ⟨rfl, rfl, rfl, rfl, trivial⟩ ?_
    refine H_world (fun _ hA => hA.keep (m := [yy, yy, yy, yy, yy, nn, nn, yy, yy, nn]) (Y := [_, _, _, _, _, _, _]) rfl) ?_
    refine H_inv (fun a w hf hA => ⟨⟨g7, g8, y28⟩, ?_, hf.sub ?_, ?_⟩)
    ·trivial
    ·exact ⟨rfl, rfl, rfl, rfl, trivial⟩
    ·exact hA.only (is := [0, 0, 0, 1, 2, 0, 4]) (Z := []) rfl
  ·refine HO_alloc (cs := [_, _, _, _, _]) rfl rfl Try.zeroValue38 rfl ?_
   intro g8
   refine HA_back (listed' := #[true, false, true, false, false, false, false, false, true, false, false]) rfl (fun _ hA => hA.keep (m := [nn, yy, yy, yy]) (Y := [_, _, _]) rfl) ?_
   refine HA_loud2 (i := 1) (j := 7) (by kernel_rfl) rfl rfl ?_ ?_
   ·refine HO_dup (i := 3) rfl rfl ?_
    refine HO_call (first := []) (capt := []) (is := [0]) (R := [_, _, _, _]) rfl rfl rfl rfl rfl Try.call25 rfl (fold_spec _ _ _) ?_
    intro y26 hy26
    refine HA_back (listed' := #[true, true, true, false, false, false, false, false, true, false, false]) rfl (fun _ hA => hA.keep (m := [nn, nn, nn, yy, yy, yy]) (Y := [_, _, _]) rfl) ?_
    refine HA_loud2 (i := 3) (j := 7) (by kernel_rfl) rfl rfl ?_ ?_
    ·refine HO_dup (i := 0) rfl rfl ?_
     refine HO_dup (i := 2) rfl rfl ?_
     refine HO_call (first := []) (capt := []) (is := [0, 0]) (R := [_, _, _, _, _, _]) rfl rfl rfl rfl rfl Try.call29 rfl (apply_spec _ _ _ _ _ _ _ _ _ _ _ _ _ _ _ ?_ ?_ ?_ ?_ ?_ ?_) ?_
     ·exact Mod.Inv.fold
     ·decide
     ·exact rc
     ·exact rq
     ·exact sk
     ·exact sc
     intro y28 hy28
     refine HA_back (listed' := #[true, true, true, true, false, false, false, false, true, false, false]) rfl (fun _ hA => hA.keep (m := [nn, nn, nn, nn, nn, nn, yy, yy, yy]) (Y := [_, _, _]) rfl) ?_
     refine HA_take (i := 4) (listed' := #[true, true, true, true, true, false, false, false, true, false, false]) (bodyPost_pan _ _ _) rfl rfl rfl rfl (by kernel_rfl) rfl (V_move rfl) (fun _ hA => hA.keep (m := [nn, nn, nn, nn, nn, nn, yy, yy, yy]) (Y := [_, _, _]) rfl) ?_
     refine HA_take (i := 5) (listed' := #[true, true, true, true, true, true, false, false, true, false, false]) (bodyPost_pan _ _ _) rfl rfl rfl rfl (by kernel_rfl) rfl (V_extract (vs := [_, _]) rfl rfl) (fun _ hA => hA.keep (m := [nn, nn, nn, nn, nn, nn, yy, yy, yy]) (Y := [_, _, _]) rfl) ?_
     refine HA_take (i := 6) (listed' := #[true, true, true, true, true, true, true, false, true, false, false]) (bodyPost_pan _ _ _) rfl rfl rfl rfl (by kernel_rfl) rfl (V_extract (vs := [_, _]) rfl rfl) (fun _ hA => hA.keep (m := [nn, nn, nn, nn, nn, nn, yy, yy, yy]) (Y := [_, _, _]) rfl) ?_
     refine HA_loud1 (i := 7) (by kernel_rfl) rfl ?_
     refine HO_alloc (cs := [_, _]) rfl rfl Try.zeroValue56 rfl ?_
     intro g7
     refine HA_back (listed' := #[true, true, true, true, true, true, true, true, true, false, false]) rfl (fun _ hA => hA.keep (m := [nn, nn, nn, nn, nn, nn, nn, yy, yy, yy]) (Y := [_, _, _]) rfl) ?_
     refine HA_loud1 (i := 9) (by kernel_rfl) rfl ?_
     refine HO_store (i := 0) (j := 0) (us := []) (old := [_, _]) (ts := []) (cs := [_, _]) (R := [_, _, _, _, _, _, _, _, _]) (new := [_, _]) rfl rfl rfl Try.sizeOf56 rfl (by simp [Value.oneCell']) rfl rfl rfl rfl rfl rfl ?_
     refine HA_back (listed' := #[true, true, true, true, true, true, true, true, true, true, false]) rfl (fun _ hA => hA.keep (m := [nn, nn, nn, nn, nn, nn, nn, yy, yy, yy]) (Y := [_, _, _]) rfl) ?_
     refine HA_loud1 (i := 10) (by kernel_rfl) rfl ?_
     refine HO_store (i := 6) (j := 0) (us := []) (old := [_, _, _, _, _]) (ts := []) (cs := [_, _, _, _, _]) (R := [_, _, _, _, _, _, _, _, _]) (new := [_, _, _, _, _]) rfl rfl rfl Try.sizeOf38 rfl (by simp [Value.oneCell']) rfl rfl rfl rfl rfl rfl ?_
     refine HA_back (listed' := #[true, true, true, true, true, true, true, true, true, true, true]) rfl (fun _ hA => hA.keep (m := [nn, nn, nn, nn, nn, nn, nn, yy, yy, yy]) (Y := [_, _, _]) rfl) ?_
     refine HA_done (by kernel_rfl) ?_
     refine H_env (ρ' := [(7, _), (8, _), (5, _), (4, _)]) ⟨rfl, rfl, rfl, rfl, trivial⟩ ?_
     refine H_world (fun _ hA => hA.keep (m := [yy, yy, yy, yy, yy, nn, nn, yy, yy, nn]) (Y := [_, _, _, _, _, _, _]) rfl) ?_
     refine H_inv (fun a w hf hA => ⟨⟨g7, g8, y28⟩, ?_, hf.sub ?_, ?_⟩)
     ·trivial
     ·exact ⟨rfl, rfl, rfl, rfl, trivial⟩
     ·exact hA.only (is := [0, 0, 0, 1, 2, 0, 4]) (Z := []) rfl
    ·refine HO_alloc (cs := [_, _]) rfl rfl Try.zeroValue56 rfl ?_
     intro g7
     refine HA_back (listed' := #[true, true, true, false, false, false, false, true, true, false, false]) rfl (fun _ hA => hA.keep (m := [nn, nn, nn, nn, yy, yy, yy]) (Y := [_, _, _]) rfl) ?_
     refine HA_loud1 (i := 3) (by kernel_rfl) rfl ?_
     refine HO_dup (i := 1) rfl rfl ?_
     refine HO_dup (i := 3) rfl rfl ?_
     refine HO_call (first := []) (capt := []) (is := [0, 0]) (R := [_, _, _, _, _, _, _]) rfl rfl rfl rfl rfl Try.call29 rfl (apply_spec _ _ _ _ _ _ _ _ _ _ _ _ _ _ _ ?_ ?_ ?_ ?_ ?_ ?_) ?_
     ·exact Mod.Inv.fold
     ·decide
     ·exact rc
     ·exact rq
     ·exact sk
     ·exact sc
     intro y28 hy28
     refine HA_back (listed' := #[true, true, true, true, false, false, false, true, true, false, false]) rfl (fun _ hA => hA.keep (m := [nn, nn, nn, nn, nn, nn, nn, yy, yy, yy]) (Y := [_, _, _]) rfl) ?_
     refine HA_take (i := 4) (listed' := #[true, true, true, true, true, false, false, true, true, false, false]) (bodyPost_pan _ _ _) rfl rfl rfl rfl (by kernel_rfl) rfl (V_move rfl) (fun _ hA => hA.keep (m := [nn, nn, nn, nn, nn, nn, nn, yy, yy, yy]) (Y := [_, _, _]) rfl) ?_
     refine HA_take (i := 5) (listed' := #[true, true, true, true, true, true, false, true, true, false, false]) (bodyPost_pan _ _ _) rfl rfl rfl rfl (by kernel_rfl) rfl (V_extract (vs := [_, _]) rfl rfl) (fun _ hA => hA.keep (m := [nn, nn, nn, nn, nn, nn, nn, yy, yy, yy]) (Y := [_, _, _]) rfl) ?_
     refine HA_take (i := 6) (listed' := #[true, true, true, true, true, true, true, true, true, false, false]) (bodyPost_pan _ _ _) rfl rfl rfl rfl (by kernel_rfl) rfl (V_extract (vs := [_, _]) rfl rfl) (fun _ hA => hA.keep (m := [nn, nn, nn, nn, nn, nn, nn, yy, yy, yy]) (Y := [_, _, _]) rfl) ?_
     refine HA_loud1 (i := 9) (by kernel_rfl) rfl ?_
     refine HO_store (i := 3) (j := 0) (us := []) (old := [_, _]) (ts := []) (cs := [_, _]) (R := [_, _, _, _, _, _, _, _, _]) (new := [_, _]) rfl rfl rfl Try.sizeOf56 rfl (by simp [Value.oneCell']) rfl rfl rfl rfl rfl rfl ?_
     refine HA_back (listed' := #[true, true, true, true, true, true, true, true, true, true, false]) rfl (fun _ hA => hA.keep (m := [nn, nn, nn, nn, nn, nn, nn, yy, yy, yy]) (Y := [_, _, _]) rfl) ?_
     refine HA_loud1 (i := 10) (by kernel_rfl) rfl ?_
     refine HO_store (i := 6) (j := 0) (us := []) (old := [_, _, _, _, _]) (ts := []) (cs := [_, _, _, _, _]) (R := [_, _, _, _, _, _, _, _, _]) (new := [_, _, _, _, _]) rfl rfl rfl Try.sizeOf38 rfl (by simp [Value.oneCell']) rfl rfl rfl rfl rfl rfl ?_
     refine HA_back (listed' := #[true, true, true, true, true, true, true, true, true, true, true]) rfl (fun _ hA => hA.keep (m := [nn, nn, nn, nn, nn, nn, nn, yy, yy, yy]) (Y := [_, _, _]) rfl) ?_
     refine HA_done (by kernel_rfl) ?_
     refine H_env (ρ' := [(7, _), (8, _), (5, _), (4, _)]) ⟨rfl, rfl, rfl, rfl, trivial⟩ ?_
     refine H_world (fun _ hA => hA.keep (m := [yy, yy, yy, yy, yy, nn, nn, yy, yy, nn]) (Y := [_, _, _, _, _, _, _]) rfl) ?_
     refine H_inv (fun a w hf hA => ⟨⟨g7, g8, y28⟩, ?_, hf.sub ?_, ?_⟩)
     ·trivial
     ·exact ⟨rfl, rfl, rfl, rfl, trivial⟩
     ·exact hA.only (is := [0, 0, 0, 1, 2, 0, 4]) (Z := []) rfl
   ·refine HO_alloc (cs := [_, _]) rfl rfl Try.zeroValue56 rfl ?_
    intro g7
    refine HA_back (listed' := #[true, false, true, false, false, false, false, true, true, false, false]) rfl (fun _ hA => hA.keep (m := [nn, nn, yy, yy, yy]) (Y := [_, _, _]) rfl) ?_
    refine HA_loud1 (i := 1) (by kernel_rfl) rfl ?_
    refine HO_dup (i := 4) rfl rfl ?_
    refine HO_call (first := []) (capt := []) (is := [0]) (R := [_, _, _, _, _]) rfl rfl rfl rfl rfl Try.call25 rfl (fold_spec _ _ _) ?_
    intro y26 hy26
    refine HA_back (listed' := #[true, true, true, false, false, false, false, true, true, false, false]) rfl (fun _ hA => hA.keep (m := [nn, nn, nn, nn, yy, yy, yy]) (Y := [_, _, _]) rfl) ?_
    refine HA_loud1 (i := 3) (by kernel_rfl) rfl ?_
    refine HO_dup (i := 0) rfl rfl ?_
    refine HO_dup (i := 2) rfl rfl ?_
    refine HO_call (first := []) (capt := []) (is := [0, 0]) (R := [_, _, _, _, _, _, _]) rfl rfl rfl rfl rfl Try.call29 rfl (apply_spec _ _ _ _ _ _ _ _ _ _ _ _ _ _ _ ?_ ?_ ?_ ?_ ?_ ?_) ?_
    ·exact Mod.Inv.fold
    ·decide
    ·exact rc
    ·exact rq
    ·exact sk
    ·exact sc
    intro y28 hy28
    refine HA_back (listed' := #[true, true, true, true, false, false, false, true, true, false, false]) rfl (fun _ hA => hA.keep (m := [nn, nn, nn, nn, nn, nn, nn, yy, yy, yy]) (Y := [_, _, _]) rfl) ?_
    refine HA_take (i := 4) (listed' := #[true, true, true, true, true, false, false, true, true, false, false]) (bodyPost_pan _ _ _) rfl rfl rfl rfl (by kernel_rfl) rfl (V_move rfl) (fun _ hA => hA.keep (m := [nn, nn, nn, nn, nn, nn, nn, yy, yy, yy]) (Y := [_, _, _]) rfl) ?_
    refine HA_take (i := 5) (listed' := #[true, true, true, true, true, true, false, true, true, false, false]) (bodyPost_pan _ _ _) rfl rfl rfl rfl (by kernel_rfl) rfl (V_extract (vs := [_, _]) rfl rfl) (fun _ hA => hA.keep (m := [nn, nn, nn, nn, nn, nn, nn, yy, yy, yy]) (Y := [_, _, _]) rfl) ?_
    refine HA_take (i := 6) (listed' := #[true, true, true, true, true, true, true, true, true, false, false]) (bodyPost_pan _ _ _) rfl rfl rfl rfl (by kernel_rfl) rfl (V_extract (vs := [_, _]) rfl rfl) (fun _ hA => hA.keep (m := [nn, nn, nn, nn, nn, nn, nn, yy, yy, yy]) (Y := [_, _, _]) rfl) ?_
    refine HA_loud1 (i := 9) (by kernel_rfl) rfl ?_
    refine HO_store (i := 5) (j := 0) (us := []) (old := [_, _]) (ts := []) (cs := [_, _]) (R := [_, _, _, _, _, _, _, _, _]) (new := [_, _]) rfl rfl rfl Try.sizeOf56 rfl (by simp [Value.oneCell']) rfl rfl rfl rfl rfl rfl ?_
    refine HA_back (listed' := #[true, true, true, true, true, true, true, true, true, true, false]) rfl (fun _ hA => hA.keep (m := [nn, nn, nn, nn, nn, nn, nn, yy, yy, yy]) (Y := [_, _, _]) rfl) ?_
    refine HA_loud1 (i := 10) (by kernel_rfl) rfl ?_
    refine HO_store (i := 6) (j := 0) (us := []) (old := [_, _, _, _, _]) (ts := []) (cs := [_, _, _, _, _]) (R := [_, _, _, _, _, _, _, _, _]) (new := [_, _, _, _, _]) rfl rfl rfl Try.sizeOf38 rfl (by simp [Value.oneCell']) rfl rfl rfl rfl rfl rfl ?_
    refine HA_back (listed' := #[true, true, true, true, true, true, true, true, true, true, true]) rfl (fun _ hA => hA.keep (m := [nn, nn, nn, nn, nn, nn, nn, yy, yy, yy]) (Y := [_, _, _]) rfl) ?_
    refine HA_done (by kernel_rfl) ?_
    refine H_env (ρ' := [(7, _), (8, _), (5, _), (4, _)]) ⟨rfl, rfl, rfl, rfl, trivial⟩ ?_
    refine H_world (fun _ hA => hA.keep (m := [yy, yy, yy, yy, yy, nn, nn, yy, yy, nn]) (Y := [_, _, _, _, _, _, _]) rfl) ?_
    refine H_inv (fun a w hf hA => ⟨⟨g7, g8, y28⟩, ?_, hf.sub ?_, ?_⟩)
    ·trivial
    ·exact ⟨rfl, rfl, rfl, rfl, trivial⟩
    ·exact hA.only (is := [0, 0, 0, 1, 2, 0, 4]) (Z := []) rfl
 rintro ⟨g7, g8, u⟩ hJ
 (try dsimp only at hJ ⊢)
 refine H_seq ?_
 refine H_seq ?_
 refine H_region (l := [_, _, _, _, _, _, _, _, _, _, _, _, _, _, _, _, _, _, _, _, _, _, _]) rfl ?_
 refine HO_fieldAddr (r := 0) rfl rfl rfl Try.underlying38 rfl Try.sizeOf26 rfl ?_
 refine HO_load1 (i := 5) (j := 0) rfl rfl rfl Try.isAgg26 rfl (.loc _ _ _) rfl rfl ?_
 refine HO_bin rfl rfl rfl rfl bin_eql ?_
 refine HO_move rfl rfl rfl ?_
 refine HO_split (d := 34) rfl ?_ ?_
 ·intro h34
  replace h34 := dT h34
  iterate 3 refine HO_no rfl rfl rfl ?_
  refine HO_pick_t rfl rfl rfl rfl ?_
  refine HO_move rfl rfl rfl ?_
  iterate 3 refine HO_no rfl rfl rfl ?_
  refine HO_pick_t rfl rfl rfl rfl ?_
  refine HO_move rfl rfl rfl ?_
  iterate 3 refine HO_no rfl rfl rfl ?_
  refine HO_pick_t rfl rfl rfl rfl ?_
  refine HO_move rfl rfl rfl ?_
  iterate 3 refine HO_no rfl rfl rfl ?_
  refine HO_pick_t rfl rfl rfl rfl ?_
  refine HO_nil ?_
  refine H_env (ρ' := [(53, _), (4, _), (5, _), (7, _), (8, _)]) ⟨rfl, rfl, rfl, rfl, rfl, trivial⟩ ?_
  refine H_cond rfl (fun _ => ?_) (fun h => nomatch h)
  refine H_seq ?_
  refine H_region (l := [_, _]) rfl ?_
  refine HO_call (first := []) (capt := []) (is := []) (R := [_, _, _, _, _, _, _]) rfl rfl rfl rfl rfl Try.call24 rfl lives20_spec ?_
  intro y54 hy54
  clear y54 hy54
  refine HO_assign rfl rfl rfl ?_
  refine HO_nil ?_
  refine H_env (ρ' := [(6, _)]) ⟨rfl, trivial⟩ ?_
  refine H_world (fun _ hA => hA.keep (m := [nn, nn, nn, nn, nn, nn, nn]) (Y := []) rfl) ?_
  refine H_ret1 Try.results8 (.tmp rfl) (fun w hA => ⟨(), congrArg Ending.returned ?_, ?_, ?_⟩)
  ·(exact congrArg Value.bool (by first | rfl | assumption | simp_all))
  ·trivial
  ·exact hA.keep (m := []) (Y := []) rfl
 intro h34
 replace h34 := dF h34
 refine HO_fieldAddr (r := 0) rfl rfl rfl Try.underlying38 rfl Try.sizeOf26 rfl ?_
 refine HO_load1 (i := 5) (j := 0) rfl rfl rfl Try.isAgg26 rfl (.loc _ _ _) rfl rfl ?_
 refine HO_bin rfl rfl rfl rfl bin_eql ?_
 refine HO_pick_f rfl rfl rfl rfl ?_
 refine HO_move rfl rfl rfl ?_
 refine HO_split (d := 39) rfl ?_ ?_
 ·intro h39
  replace h39 := dT h39
  iterate 3 refine HO_no rfl rfl rfl ?_
  refine HO_pick_t rfl rfl rfl rfl ?_
  refine HO_move rfl rfl rfl ?_
  iterate 3 refine HO_no rfl rfl rfl ?_
  refine HO_pick_t rfl rfl rfl rfl ?_
  refine HO_move rfl rfl rfl ?_
  iterate 3 refine HO_no rfl rfl rfl ?_
  refine HO_pick_t rfl rfl rfl rfl ?_
  refine HO_nil ?_
  refine H_env (ρ' := [(53, _), (4, _), (5, _), (7, _), (8, _)]) ⟨rfl, rfl, rfl, rfl, rfl, trivial⟩ ?_
  refine H_cond rfl (fun _ => ?_) (fun h => nomatch h)
  refine H_seq ?_
  refine H_region (l := [_, _]) rfl ?_
  refine HO_call (first := []) (capt := []) (is := []) (R := [_, _, _, _, _, _, _]) rfl rfl rfl rfl rfl Try.call24 rfl lives20_spec ?_
  intro y54 hy54
  clear y54 hy54
  refine HO_assign rfl rfl rfl ?_
  refine HO_nil ?_
  refine H_env (ρ' := [(6, _)]) ⟨rfl, trivial⟩ ?_
  refine H_world (fun _ hA => hA.keep (m := [nn, nn, nn, nn, nn, nn, nn]) (Y := []) rfl) ?_
  refine H_ret1 Try.results8 (.tmp rfl) (fun w hA => ⟨(), congrArg Ending.returned ?_, ?_, ?_⟩)
  ·(exact congrArg Value.bool (by first | rfl | assumption | simp_all))
  ·trivial
  ·exact hA.keep (m := []) (Y := []) rfl
 intro h39
 replace h39 := dF h39
 refine HO_fieldAddr (r := 0) rfl rfl rfl Try.underlying38 rfl Try.sizeOf26 rfl ?_
 refine HO_load1 (i := 5) (j := 0) rfl rfl rfl Try.isAgg26 rfl (.loc _ _ _) rfl rfl ?_
 refine HO_bin rfl rfl rfl rfl bin_eql ?_
 refine HO_pick_f rfl rfl rfl rfl ?_
 refine HO_move rfl rfl rfl ?_
 refine HO_split (d := 44) rfl ?_ ?_
 ·intro h44
  replace h44 := dT h44
  iterate 3 refine HO_no rfl rfl rfl ?_
  refine HO_pick_t rfl rfl rfl rfl ?_
  refine HO_move rfl rfl rfl ?_
  iterate 3 refine HO_no rfl rfl rfl ?_
  refine HO_pick_t rfl rfl rfl rfl ?_
  refine HO_nil ?_
  refine H_env (ρ' := [(53, _), (4, _), (5, _), (7, _), (8, _)]) ⟨rfl, rfl, rfl, rfl, rfl, trivial⟩ ?_
  refine H_cond rfl (fun _ => ?_) (fun h => nomatch h)
  refine H_seq ?_
  refine H_region (l := [_, _]) rfl ?_
  refine HO_call (first := []) (capt := []) (is := []) (R := [_, _, _, _, _, _, _]) rfl rfl rfl rfl rfl Try.call24 rfl lives20_spec ?_
  intro y54 hy54
  clear y54 hy54
  refine HO_assign rfl rfl rfl ?_
  refine HO_nil ?_
  refine H_env (ρ' := [(6, _)]) ⟨rfl, trivial⟩ ?_
  refine H_world (fun _ hA => hA.keep (m := [nn, nn, nn, nn, nn, nn, nn]) (Y := []) rfl) ?_
  refine H_ret1 Try.results8 (.tmp rfl) (fun w hA => ⟨(), congrArg Ending.returned ?_, ?_, ?_⟩)
  ·(exact congrArg Value.bool (by first | rfl | assumption | simp_all))
  ·trivial
  ·exact hA.keep (m := []) (Y := []) rfl
 intro h44
 replace h44 := dF h44
 refine HO_fieldAddr (r := 0) rfl rfl rfl Try.underlying36 rfl Try.sizeOf3 rfl ?_
 refine HO_load1 (i := 0) (j := 0) rfl rfl rfl Try.isAgg3 rfl (.loc _ _ _) rfl rfl ?_
 refine HO_bin rfl rfl rfl rfl bin_eql ?_
 refine HO_pick_f rfl rfl rfl rfl ?_
 refine HO_move rfl rfl rfl ?_
 refine HO_split (d := 49) rfl ?_ ?_
 ·intro h49
  replace h49 := dT h49
  iterate 3 refine HO_no rfl rfl rfl ?_
  refine HO_pick_t rfl rfl rfl rfl ?_
  refine HO_nil ?_
  refine H_env (ρ' := [(53, _), (4, _), (5, _), (7, _), (8, _)]) ⟨rfl, rfl, rfl, rfl, rfl, trivial⟩ ?_
  refine H_cond rfl (fun _ => ?_) (fun h => nomatch h)
  refine H_seq ?_
  refine H_region (l := [_, _]) rfl ?_
  refine HO_call (first := []) (capt := []) (is := []) (R := [_, _, _, _, _, _, _]) rfl rfl rfl rfl rfl Try.call24 rfl lives20_spec ?_
  intro y54 hy54
  clear y54 hy54
  refine HO_assign rfl rfl rfl ?_
  refine HO_nil ?_
  refine H_env (ρ' := [(6, _)]) ⟨rfl, trivial⟩ ?_
  refine H_world (fun _ hA => hA.keep (m := [nn, nn, nn, nn, nn, nn, nn]) (Y := []) rfl) ?_
  refine H_ret1 Try.results8 (.tmp rfl) (fun w hA => ⟨(), congrArg Ending.returned ?_, ?_, ?_⟩)
  ·(exact congrArg Value.bool (by first | rfl | assumption | simp_all))
  ·trivial
  ·exact hA.keep (m := []) (Y := []) rfl
 intro h49
 replace h49 := dF h49
 refine HO_fieldAddr (r := 0) rfl rfl rfl Try.underlying36 rfl Try.sizeOf3 rfl ?_
 refine HO_load1 (i := 0) (j := 0) rfl rfl rfl Try.isAgg3 rfl (.loc _ _ _) rfl rfl ?_
 refine HO_bin rfl rfl rfl rfl bin_eql ?_
 refine HO_pick_f rfl rfl rfl rfl ?_
 refine HO_nil ?_
 refine H_env (ρ' := [(53, _), (4, _), (5, _), (7, _), (8, _)]) ⟨rfl, rfl, rfl, rfl, rfl, trivial⟩ ?_
 refine H_cond rfl ?_ ?_
 ·intro h53
  replace h53 := dT h53
  refine H_seq ?_
  refine H_region (l := [_, _]) rfl ?_
  refine HO_call (first := []) (capt := []) (is := []) (R := [_, _, _, _, _, _, _]) rfl rfl rfl rfl rfl Try.call24 rfl lives20_spec ?_
  intro y54 hy54
  clear y54 hy54
  refine HO_assign rfl rfl rfl ?_
  refine HO_nil ?_
  refine H_env (ρ' := [(6, _)]) ⟨rfl, trivial⟩ ?_
  refine H_world (fun _ hA => hA.keep (m := [nn, nn, nn, nn, nn, nn, nn]) (Y := []) rfl) ?_
  refine H_ret1 Try.results8 (.tmp rfl) (fun w hA => ⟨(), congrArg Ending.returned ?_, ?_, ?_⟩)
  ·(exact congrArg Value.bool (by first | rfl | assumption | simp_all))
  ·trivial
  ·exact hA.keep (m := []) (Y := []) rfl
 intro h53
 replace h53 := dF h53
 refine H_skip ?_
 refine H_seq ?_
 obtain ⟨hg, x, hx, hq, hr⟩ := Mod.once (c := (⟨ki, cs, sq, ke, ol, cv, ti, li⟩ : Cmd)) Mod.Inv.fold h34 h39 h44 h49 h53
 have hk := Mod.good_kind hg h49 h53
 have hsq : 1 ≤ sq := Mod.good_seq hg h49 h53
 have e1 := Mod.again (ix := 1001) (ps := (Mod.apply (Mod.fold es).1 (Mod.fold es).2 1000 (⟨ki, cs, sq, ke, ol, cv, ti, li⟩ : Cmd)).1) hg hk hx hq
 refine H_region (l := [_, _, _, _, _, _, _, _, _, _]) rfl ?_
 refine HO_loadA (i := 2) (us := []) (cs := [_, _]) (ts := []) rfl rfl rfl Try.isAgg56 Try.sizeOf56 rfl (.loc _ _ _) rfl rfl rfl rfl ?_
 refine HO_loadA (i := 0) (us := []) (cs := [_, _, _, _, _, _, _, _]) (ts := []) rfl rfl rfl Try.isAgg36 Try.sizeOf36 rfl (.loc _ _ _) rfl rfl rfl rfl ?_
 refine HO_dup (i := 3) rfl rfl ?_
 refine HO_dup (i := 5) rfl rfl ?_
 refine HO_call (first := []) (capt := []) (is := [0, 0]) (R := [_, _, _, _, _, _, _]) rfl rfl rfl rfl rfl Try.call29 rfl (apply_spec _ _ _ _ _ _ _ _ _ _ _ _ _ _ _ ?_ ?_ ?_ ?_ ?_ ?_) ?_
 ·exact Mod.Inv.fold.apply
 ·decide
 ·exact rc
 ·exact rq
 ·exact sk
 ·exact sc
 intro y58 hy58
 refine HO_move rfl rfl rfl ?_
 refine HO_extract (vs := [_, _]) rfl rfl rfl rfl ?_
 refine HO_extract (vs := [_, _]) rfl rfl rfl rfl ?_
 refine HO_alloc (cs := [_, _]) rfl rfl Try.zeroValue56 rfl ?_
 intro g9
 refine HO_alloc (cs := [_, _, _, _, _]) rfl rfl Try.zeroValue38 rfl ?_
 intro g10
 refine HO_store (i := 1) (j := 0) (us := []) (old := [_, _]) (ts := []) (cs := [_, _]) (R := [_, _, _, _, _, _, _, _, _, _, _]) (new := [_, _]) rfl rfl rfl Try.sizeOf56 rfl (by simp [Value.oneCell']) rfl rfl rfl rfl rfl rfl ?_
 refine HO_store (i := 1) (j := 0) (us := []) (old := [_, _, _, _, _]) (ts := []) (cs := [_, _, _, _, _]) (R := [_, _, _, _, _, _, _, _, _, _, _]) (new := [_, _, _, _, _]) rfl rfl rfl Try.sizeOf38 rfl (by simp [Value.oneCell']) rfl rfl rfl rfl rfl rfl ?_
 refine HO_nil ?_
 refine H_env (ρ' := [(10, _), (9, _), (4, _), (5, _), (7, _), (8, _)]) ⟨rfl, rfl, rfl, rfl, rfl, rfl, trivial⟩ ?_
 refine H_seq ?_
 refine H_seq ?_
 refine H_region (l := [_, _, _, _, _, _, _, _, _, _]) rfl ?_
 refine HO_loadA (i := 7) (us := []) (cs := [_, _]) (ts := []) rfl rfl rfl Try.isAgg56 Try.sizeOf56 rfl (.loc _ _ _) rfl rfl rfl rfl ?_
 refine HO_loadA (i := 1) (us := []) (cs := [_, _]) (ts := []) rfl rfl rfl Try.isAgg56 Try.sizeOf56 rfl (.loc _ _ _) rfl rfl rfl rfl ?_
 refine HO_dup (i := 8) rfl rfl ?_
 refine HO_dup (i := 10) rfl rfl ?_
 refine HO_dup (i := 4) rfl rfl ?_
 refine HO_dup (i := 6) rfl rfl ?_
 refine HO_call (first := []) (capt := []) (is := [0, 0, 0, 0]) (R := [_, _, _, _, _, _, _, _, _, _, _, _]) rfl rfl rfl rfl rfl Try.call33 rfl (msame_spec _ _ _ _ _ _ _ _ _ _ _ _) ?_
 intro y63 hy63
 clear y63 hy63
 refine HO_not rfl rfl rfl ?_
 refine HO_move rfl rfl rfl ?_
 refine HO_split (d := 65) rfl ?_ ?_
 ·intro h65
  (try simp only [decide_eq_true_eq, decide_eq_false_iff_not, Bool.not_eq_true', Bool.not_eq_false', Bool.not_eq_true, Bool.not_eq_false, Bool.true_eq_false, Bool.false_eq_true, not_false_eq_true, not_true_eq_false] at h65)
  (rw [e1] at h65; simp at h65)
 intro h65
 (try simp only [decide_eq_true_eq, decide_eq_false_iff_not, Bool.not_eq_true', Bool.not_eq_false', Bool.not_eq_true, Bool.not_eq_false, Bool.true_eq_false, Bool.false_eq_true, not_false_eq_true, not_true_eq_false] at h65)
 refine HO_loadA (i := 10) (us := []) (cs := [_, _, _, _, _]) (ts := []) rfl rfl rfl Try.isAgg38 Try.sizeOf38 rfl (.loc _ _ _) rfl rfl rfl rfl ?_
 refine HO_loadA (i := 0) (us := []) (cs := [_, _, _, _, _]) (ts := []) rfl rfl rfl Try.isAgg38 Try.sizeOf38 rfl (.loc _ _ _) rfl rfl rfl rfl ?_
 refine HO_dup (i := 11) rfl rfl ?_
 refine HO_dup (i := 5) rfl rfl ?_
 refine HO_call (first := []) (capt := []) (is := [0, 0]) (R := [_, _, _, _, _, _, _, _, _, _, _, _]) rfl rfl rfl rfl rfl Try.call19 rfl (rrsame9_spec _ _ _ _ _ _ _ _ _ _ _ _ _ _) ?_
 intro y68 hy68
 clear y68 hy68
 refine HO_not rfl rfl rfl ?_
 refine HO_pick_f rfl rfl rfl rfl ?_
 refine HO_nil ?_
 refine H_env (ρ' := [(70, _), (4, _), (5, _), (7, _), (8, _)]) ⟨rfl, rfl, rfl, rfl, rfl, trivial⟩ ?_
 refine H_world (fun _ hA => hA.keep (m := [nn, nn, nn, nn, nn, yy, yy, yy, yy, yy, yy, yy]) (Y := [_, _, _, _, _, _, _]) rfl) ?_
 refine H_cond rfl ?_ ?_
 ·intro h70
  replace h70 := dF (nT h70)
  (rw [e1, hr] at h70; exact absurd rfl h70)
 intro h70
 replace h70 := dT (nF h70)
 refine H_skip ?_
 refine H_seq ?_
 refine H_drawB (m := [yy, nn, yy, yy, yy, yy, yy]) (Xs := [_, _, _, _, _, _]) (fuel := 8) (l := #[false, false, false, false, false, false, false, false]) mixed rfl rfl rfl ?_
 refine HA_take (i := 0) (listed' := #[true, false, false, false, false, false, false, false]) (bodyPost_pan _ _ _) rfl rfl rfl rfl (by kernel_rfl) rfl (V_fieldAddr (r := 1) rfl Try.underlying36 rfl Try.sizeOf3 rfl) (fun _ hA => hA.keep (m := [yy, nn, yy, yy, yy, yy, yy]) (Y := [_, _, _, _, _, _]) rfl) ?_
 refine HA_take (i := 1) (listed' := #[true, true, false, false, false, false, false, false]) (bodyPost_pan _ _ _) rfl rfl rfl rfl (by kernel_rfl) rfl (V_load1 (i := 0) (j := 1) rfl Try.isAgg3 rfl (.loc _ _ _) rfl rfl) (fun _ hA => hA.keep (m := [yy, nn, yy, yy, yy, yy, yy]) (Y := [_, _, _, _, _, _]) rfl) ?_
 refine HA_take (i := 2) (listed' := #[true, true, true, false, false, false, false, false]) (bodyPost_pan _ _ _) rfl rfl rfl rfl (by kernel_rfl) rfl (V_fieldAddr (r := 2) rfl Try.underlying36 rfl Try.sizeOf3 rfl) (fun _ hA => hA.keep (m := [yy, nn, yy, yy, yy, yy, yy]) (Y := [_, _, _, _, _, _]) rfl) ?_
 refine HA_take (i := 3) (listed' := #[true, true, true, true, false, false, false, false]) (bodyPost_pan _ _ _) rfl rfl rfl rfl (by kernel_rfl) rfl (V_load1 (i := 0) (j := 2) rfl Try.isAgg3 rfl (.loc _ _ _) rfl rfl) (fun _ hA => hA.keep (m := [yy, nn, yy, yy, yy, yy, yy]) (Y := [_, _, _, _, _, _]) rfl) ?_
 refine HA_take (i := 4) (listed' := #[true, true, true, true, true, false, false, false]) (bodyPost_pan _ _ _) rfl rfl rfl rfl (by kernel_rfl) rfl (V_fieldAddr (r := 1) rfl Try.underlying36 rfl Try.sizeOf3 rfl) (fun _ hA => hA.keep (m := [yy, nn, yy, yy, yy, yy, yy]) (Y := [_, _, _, _, _, _]) rfl) ?_
 refine HA_loud1 (i := 5) (by kernel_rfl) rfl ?_
 refine HO_store (i := 1) (j := 0) (us := [_]) (old := [_]) (ts := [_, _, _, _, _, _]) (cs := [_]) (R := [_, _, _, _, _, _]) (new := [_, _, _, _, _, _, _, _]) rfl rfl rfl Try.sizeOf3 rfl (by simp [Value.oneCell']) rfl rfl rfl rfl rfl rfl ?_
 refine HA_back (listed' := #[true, true, true, true, true, true, false, false]) rfl (fun _ hA => hA.keep (m := [nn, yy, yy, yy, yy, yy, yy]) (Y := [_, _, _, _, _, _]) rfl) ?_
 refine HA_take (i := 6) (listed' := #[true, true, true, true, true, true, true, false]) (bodyPost_pan _ _ _) rfl rfl rfl rfl (by kernel_rfl) rfl (V_fieldAddr (r := 2) rfl Try.underlying36 rfl Try.sizeOf3 rfl) (fun _ hA => hA.keep (m := [nn, yy, yy, yy, yy, yy, yy]) (Y := [_, _, _, _, _, _]) rfl) ?_
 refine HA_loud1 (i := 7) (by kernel_rfl) rfl ?_
 refine HO_store (i := 0) (j := 0) (us := [_, _]) (old := [_]) (ts := [_, _, _, _, _]) (cs := [_]) (R := [_, _, _, _, _, _]) (new := [_, _, _, _, _, _, _, _]) rfl rfl rfl Try.sizeOf3 rfl (by simp [Value.oneCell']) rfl rfl rfl rfl rfl rfl ?_
 refine HA_back (listed' := #[true, true, true, true, true, true, true, true]) rfl (fun _ hA => hA.keep (m := [nn, yy, yy, yy, yy, yy, yy]) (Y := [_, _, _, _, _, _]) rfl) ?_
 refine HA_done (by kernel_rfl) ?_
 refine H_env (ρ' := [(5, _), (7, _), (8, _)]) ⟨rfl, rfl, rfl, trivial⟩ ?_
 refine H_world (fun _ hA => hA.keep (m := [yy, nn, yy, yy, yy, yy, yy]) (Y := [_, _, _, _, _, _]) rfl) ?_
 refine H_seq ?_
 refine H_region (l := [_, _, _, _, _, _, _, _, _, _]) rfl ?_
 refine HO_loadA (i := 1) (us := []) (cs := [_, _]) (ts := []) rfl rfl rfl Try.isAgg56 Try.sizeOf56 rfl (.loc _ _ _) rfl rfl rfl rfl ?_
 refine HO_loadA (i := 0) (us := []) (cs := [_, _, _, _, _, _, _, _]) (ts := []) rfl rfl rfl Try.isAgg36 Try.sizeOf36 rfl (.loc _ _ _) rfl rfl rfl rfl ?_
 refine HO_dup (i := 2) rfl rfl ?_
 refine HO_dup (i := 4) rfl rfl ?_
 refine HO_call (first := []) (capt := []) (is := [0, 0]) (R := [_, _, _, _, _, _]) rfl rfl rfl rfl rfl Try.call29 rfl (apply_spec _ _ _ _ _ _ _ _ _ _ _ _ _ _ _ ?_ ?_ ?_ ?_ ?_ ?_) ?_
 ·exact Mod.Inv.fold.apply
 ·decide
 ·exact rc
 ·exact rq
 ·exact sk2
 ·exact sc2
 intro y80 hy80
 refine HO_move rfl rfl rfl ?_
 refine HO_extract (vs := [_, _]) rfl rfl rfl rfl ?_
 refine HO_extract (vs := [_, _]) rfl rfl rfl rfl ?_
 refine HO_alloc (cs := [_, _]) rfl rfl Try.zeroValue56 rfl ?_
 intro g11
 refine HO_alloc (cs := [_, _, _, _, _]) rfl rfl Try.zeroValue38 rfl ?_
 intro g12
 refine HO_store (i := 1) (j := 0) (us := []) (old := [_, _]) (ts := []) (cs := [_, _]) (R := [_, _, _, _, _, _, _, _, _, _]) (new := [_, _]) rfl rfl rfl Try.sizeOf56 rfl (by simp [Value.oneCell']) rfl rfl rfl rfl rfl rfl ?_
 refine HO_store (i := 1) (j := 0) (us := []) (old := [_, _, _, _, _]) (ts := []) (cs := [_, _, _, _, _]) (R := [_, _, _, _, _, _, _, _, _, _]) (new := [_, _, _, _, _]) rfl rfl rfl Try.sizeOf38 rfl (by simp [Value.oneCell']) rfl rfl rfl rfl rfl rfl ?_
 refine HO_nil ?_
 refine H_env (ρ' := [(12, _), (11, _), (5, _), (7, _), (8, _)]) ⟨rfl, rfl, rfl, rfl, rfl, trivial⟩ ?_
 refine H_seq ?_
 refine H_seq ?_
 refine H_region (l := [_, _, _, _, _, _, _, _, _, _, _, _, _, _, _, _, _, _, _]) rfl ?_
 refine HO_loadA (i := 5) (us := []) (cs := [_, _, _, _, _, _, _, _]) (ts := []) rfl rfl rfl Try.isAgg36 Try.sizeOf36 rfl (.loc _ _ _) rfl rfl rfl rfl ?_
 refine HO_call (first := []) (capt := []) (is := []) (R := [_, _, _, _, _, _, _, _, _, _, _]) rfl rfl rfl rfl rfl Try.call34 rfl (rgood_spec _ _ _ _ _ _ _ _) ?_
 intro y84 hy84
 clear y84 hy84
 refine HO_move rfl rfl rfl ?_
 refine HO_split (d := 85) rfl ?_ ?_
 ·intro h85
  refine HO_fieldAddr (r := 0) rfl rfl rfl Try.underlying36 rfl Try.sizeOf3 rfl ?_
  refine HO_load1 (i := 5) (j := 0) rfl rfl rfl Try.isAgg3 rfl (.loc _ _ _) rfl rfl ?_
  refine HO_bin rfl rfl rfl rfl bin_gtr ?_
  refine HO_pick_t rfl rfl rfl rfl ?_
  refine HO_move rfl rfl rfl ?_
  refine HO_split (d := 90) rfl ?_ ?_
  ·intro h90
   replace h90 := dT h90
   have e3 := Mod.again (ix := 1002) (ps := (Mod.apply (Mod.fold es).1 (Mod.fold es).2 1000 (⟨ki, cs, sq, ke, ol, cv, ti, li⟩ : Cmd)).1) (d := (⟨ki2, cs, sq, ke2, ol2, cv2, ti2, li2⟩ : Cmd)) h85 h90 hx hq
   refine HO_loadA (i := 6) (us := []) (cs := [_, _]) (ts := []) rfl rfl rfl Try.isAgg56 Try.sizeOf56 rfl (.loc _ _ _) rfl rfl rfl rfl ?_
   refine HO_loadA (i := 1) (us := []) (cs := [_, _]) (ts := []) rfl rfl rfl Try.isAgg56 Try.sizeOf56 rfl (.loc _ _ _) rfl rfl rfl rfl ?_
   refine HO_dup (i := 7) rfl rfl ?_
   refine HO_dup (i := 9) rfl rfl ?_
   refine HO_dup (i := 4) rfl rfl ?_
   refine HO_dup (i := 6) rfl rfl ?_
   refine HO_call (first := []) (capt := []) (is := [0, 0, 0, 0]) (R := [_, _, _, _, _, _, _, _, _, _, _]) rfl rfl rfl rfl rfl Try.call33 rfl (msame_spec _ _ _ _ _ _ _ _ _ _ _ _) ?_
   intro y93 hy93
   clear y93 hy93
   refine HO_not rfl rfl rfl ?_
   refine HO_move rfl rfl rfl ?_
   refine HO_split (d := 95) rfl ?_ ?_
   ·intro h95
    (try simp only [decide_eq_true_eq, decide_eq_false_iff_not, Bool.not_eq_true', Bool.not_eq_false', Bool.not_eq_true, Bool.not_eq_false, Bool.true_eq_false, Bool.false_eq_true, not_false_eq_true, not_true_eq_false] at h95)
    (rw [e3] at h95; simp at h95)
   intro h95
   (try simp only [decide_eq_true_eq, decide_eq_false_iff_not, Bool.not_eq_true', Bool.not_eq_false', Bool.not_eq_true, Bool.not_eq_false, Bool.true_eq_false, Bool.false_eq_true, not_false_eq_true, not_true_eq_false] at h95)
   refine HO_loadA (i := 9) (us := []) (cs := [_, _, _, _, _]) (ts := []) rfl rfl rfl Try.isAgg38 Try.sizeOf38 rfl (.loc _ _ _) rfl rfl rfl rfl ?_
   refine HO_loadA (i := 0) (us := []) (cs := [_, _, _, _, _]) (ts := []) rfl rfl rfl Try.isAgg38 Try.sizeOf38 rfl (.loc _ _ _) rfl rfl rfl rfl ?_
   refine HO_dup (i := 10) rfl rfl ?_
   refine HO_dup (i := 5) rfl rfl ?_
   refine HO_call (first := []) (capt := []) (is := [0, 0]) (R := [_, _, _, _, _, _, _, _, _, _, _]) rfl rfl rfl rfl rfl Try.call19 rfl (rrsame9_spec _ _ _ _ _ _ _ _ _ _ _ _ _ _) ?_
   intro y98 hy98
   clear y98 hy98
   refine HO_not rfl rfl rfl ?_
   refine HO_pick_f rfl rfl rfl rfl ?_
   refine HO_pick_t rfl rfl rfl rfl ?_
   refine HO_nil ?_
   refine H_env (ρ' := [(101, _), (12, _), (5, _), (7, _)]) ⟨rfl, rfl, rfl, rfl, trivial⟩ ?_
   refine H_world (fun _ hA => hA.keep (m := [yy, nn, nn, nn, yy, yy, yy, yy, yy, nn, nn]) (Y := [_, _, _, _, _, _]) rfl) ?_
   refine H_cond rfl ?_ ?_
   ·intro h101
    replace h101 := dF (nT h101)
    (rw [e3, hr] at h101; exact absurd rfl h101)
   intro h101
   replace h101 := dT (nF h101)
   refine H_skip ?_
   refine H_seq ?_
   refine H_seq ?_
   refine H_region (l := [_, _, _, _, _]) rfl ?_
   refine HO_fieldAddr (r := 2) rfl rfl rfl Try.underlying36 rfl Try.sizeOf3 rfl ?_
   refine HO_load1 (i := 2) (j := 2) rfl rfl rfl Try.isAgg3 rfl (.loc _ _ _) rfl rfl ?_
   refine HO_bin rfl rfl rfl rfl (bin_sub ?_ ?_) ?_
   ·omega
   ·omega
   refine HO_fieldAddr (r := 2) rfl rfl rfl Try.underlying36 rfl Try.sizeOf3 rfl ?_
   refine HO_store (i := 2) (j := 0) (us := [_, _]) (old := [_]) (ts := [_, _, _, _, _]) (cs := [_]) (R := [_, _, _, _, _]) (new := [_, _, _, _, _, _, _, _]) rfl rfl rfl Try.sizeOf3 rfl (by simp [Value.oneCell']) rfl rfl rfl rfl rfl rfl ?_
   refine HO_nil ?_
   refine H_env (ρ' := [(12, _), (5, _), (7, _)]) ⟨rfl, rfl, rfl, trivial⟩ ?_
   refine H_seq ?_
   refine H_region (l := [_, _, _, _, _, _, _]) rfl ?_
   refine HO_loadA (i := 0) (us := []) (cs := [_, _, _, _, _, _, _, _]) (ts := []) rfl rfl rfl Try.isAgg36 Try.sizeOf36 rfl (.loc _ _ _) rfl rfl rfl rfl ?_
   refine HO_call (first := []) (capt := []) (is := []) (R := [_, _, _, _, _, _]) rfl rfl rfl rfl rfl Try.call34 rfl (rgood_spec _ _ _ _ _ _ _ _) ?_
   intro y107 hy107
   clear y107 hy107
   refine HO_move rfl rfl rfl ?_
   refine HO_split (d := 108) rfl ?_ ?_
   ·intro h108
    refine HO_fieldAddr (r := 0) rfl rfl rfl Try.underlying36 rfl Try.sizeOf3 rfl ?_
    refine HO_load1 (i := 0) (j := 0) rfl rfl rfl Try.isAgg3 rfl (.loc _ _ _) rfl rfl ?_
    refine HO_bin rfl rfl rfl rfl bin_gtr ?_
    refine HO_pick_t rfl rfl rfl rfl ?_
    refine HO_nil ?_
    refine H_env (ρ' := [(112, _), (12, _), (5, _), (7, _)]) ⟨rfl, rfl, rfl, rfl, trivial⟩ ?_
    refine H_cond rfl ?_ ?_
    ·intro h112
     replace h112 := dT h112
     refine H_seq ?_
     refine H_region (l := [_, _, _, _, _, _, _]) rfl ?_
     refine HO_loadA (i := 3) (us := []) (cs := [_, _]) (ts := []) rfl rfl rfl Try.isAgg56 Try.sizeOf56 rfl (.loc _ _ _) rfl rfl rfl rfl ?_
     refine HO_loadA (i := 0) (us := []) (cs := [_, _, _, _, _, _, _, _]) (ts := []) rfl rfl rfl Try.isAgg36 Try.sizeOf36 rfl (.loc _ _ _) rfl rfl rfl rfl ?_
     refine HO_dup (i := 4) rfl rfl ?_
     refine HO_dup (i := 6) rfl rfl ?_
     refine HO_call (first := []) (capt := []) (is := [0, 0]) (R := [_, _, _, _, _, _]) rfl rfl rfl rfl rfl Try.call29 rfl (apply_spec _ _ _ _ _ _ _ _ _ _ _ _ _ _ _ ?_ ?_ ?_ ?_ ?_ ?_) ?_
     ·exact Mod.Inv.fold.apply
     ·decide
     ·exact rc
     ·(constructor <;> omega)
     ·exact sk2
     ·exact sc2
     intro y116 hy116
     refine HO_move rfl rfl rfl ?_
     refine HO_extract (vs := [_, _]) rfl rfl rfl rfl ?_
     refine HO_extract (vs := [_, _]) rfl rfl rfl rfl ?_
     refine HO_store (i := 4) (j := 0) (us := []) (old := [_, _, _, _, _]) (ts := []) (cs := [_, _, _, _, _]) (R := [_, _, _, _, _, _, _, _]) (new := [_, _, _, _, _]) rfl rfl rfl Try.sizeOf38 rfl (by simp [Value.oneCell']) rfl rfl rfl rfl rfl rfl ?_
     refine HO_nil ?_
     refine H_env (ρ' := [(12, _)]) ⟨rfl, trivial⟩ ?_
     refine H_world (fun _ hA => hA.keep (m := [yy, nn, nn, yy, nn, nn, nn, nn, nn]) (Y := [_, _]) rfl) ?_
     refine H_seq ?_
     refine H_region (l := [_, _, _, _, _, _, _]) rfl ?_
     refine HO_fieldAddr (r := 0) rfl rfl rfl Try.underlying38 rfl Try.sizeOf26 rfl ?_
     refine HO_load1 (i := 0) (j := 0) rfl rfl rfl Try.isAgg26 rfl (.loc _ _ _) rfl rfl ?_
     refine HO_bin rfl rfl rfl rfl bin_eql ?_
     refine HO_move rfl rfl rfl ?_
     refine HO_split (d := 122) rfl ?_ ?_
     ·intro h122
      replace h122 := dT h122
      refine HO_call (first := []) (capt := []) (is := []) (R := [_, _]) rfl rfl rfl rfl rfl Try.call24 rfl lives20_spec ?_
      intro y123 hy123
      clear y123 hy123
      refine HO_pick_t rfl rfl rfl rfl ?_
      refine HO_assign rfl rfl rfl ?_
      refine HO_nil ?_
      refine H_env (ρ' := [(6, _)]) ⟨rfl, trivial⟩ ?_
      refine H_world (fun _ hA => hA.keep (m := [nn, nn]) (Y := []) rfl) ?_
      refine H_ret1 Try.results8 (.tmp rfl) (fun w hA => ⟨(), congrArg Ending.returned ?_, ?_, ?_⟩)
      ·(exact congrArg Value.bool (by first | rfl | assumption | simp_all))
      ·trivial
      ·exact hA.keep (m := []) (Y := []) rfl
     intro h122
     replace h122 := dF h122
     (exact absurd (Mod.elder h108 h112 hx (by show sq - 1 < x.seq; rw [hq]; show sq - 1 < sq; omega)) h122)
    intro h112
    replace h112 := dF h112
    refine H_skip ?_
    refine H_seq ?_
    refine H_region (l := [_, _]) rfl ?_
    refine HO_call (first := []) (capt := []) (is := []) (R := [_, _, _, _, _, _]) rfl rfl rfl rfl rfl Try.call24 rfl lives20_spec ?_
    intro y125 hy125
    clear y125 hy125
    refine HO_assign rfl rfl rfl ?_
    refine HO_nil ?_
    refine H_env (ρ' := [(6, _)]) ⟨rfl, trivial⟩ ?_
    refine H_world (fun _ hA => hA.keep (m := [nn, nn, nn, nn, nn, nn]) (Y := []) rfl) ?_
    refine H_ret1 Try.results8 (.tmp rfl) (fun w hA => ⟨(), congrArg Ending.returned ?_, ?_, ?_⟩)
    ·(exact congrArg Value.bool (by first | rfl | assumption | simp_all))
    ·trivial
    ·exact hA.keep (m := []) (Y := []) rfl
   intro h108
   iterate 3 refine HO_no rfl rfl rfl ?_
   refine HO_pick_f rfl rfl rfl rfl ?_
   refine HO_nil ?_
   refine H_env (ρ' := [(112, _), (12, _), (5, _), (7, _)]) ⟨rfl, rfl, rfl, rfl, trivial⟩ ?_
   refine H_cond rfl (fun h => nomatch h) (fun _ => ?_)
   refine H_skip ?_
   refine H_seq ?_
   refine H_region (l := [_, _]) rfl ?_
   refine HO_call (first := []) (capt := []) (is := []) (R := [_, _, _, _, _, _]) rfl rfl rfl rfl rfl Try.call24 rfl lives20_spec ?_
   intro y125 hy125
   clear y125 hy125
   refine HO_assign rfl rfl rfl ?_
   refine HO_nil ?_
   refine H_env (ρ' := [(6, _)]) ⟨rfl, trivial⟩ ?_
   refine H_world (fun _ hA => hA.keep (m := [nn, nn, nn, nn, nn, nn]) (Y := []) rfl) ?_
   refine H_ret1 Try.results8 (.tmp rfl) (fun w hA => ⟨(), congrArg Ending.returned ?_, ?_, ?_⟩)
   ·(exact congrArg Value.bool (by first | rfl | assumption | simp_all))
   ·trivial
   ·exact hA.keep (m := []) (Y := []) rfl
  intro h90
  replace h90 := dF h90
  iterate 10 refine HO_no rfl rfl rfl ?_
  refine HO_pick_f rfl rfl rfl rfl ?_
  refine HO_nil ?_
  refine H_env (ρ' := [(101, _), (12, _), (5, _), (7, _)]) ⟨rfl, rfl, rfl, rfl, trivial⟩ ?_
  refine H_world (fun _ hA => hA.keep (m := [yy, nn, nn, nn, yy, yy, yy, yy, yy, nn, nn]) (Y := [_, _, _, _, _, _]) rfl) ?_
  refine H_cond rfl (fun h => nomatch h) (fun _ => ?_)
  refine H_skip ?_
  refine H_seq ?_
  refine H_seq ?_
  refine H_region (l := [_, _, _, _, _]) rfl ?_
  refine HO_fieldAddr (r := 2) rfl rfl rfl Try.underlying36 rfl Try.sizeOf3 rfl ?_
  refine HO_load1 (i := 2) (j := 2) rfl rfl rfl Try.isAgg3 rfl (.loc _ _ _) rfl rfl ?_
  refine HO_bin rfl rfl rfl rfl (bin_sub ?_ ?_) ?_
  ·omega
  ·omega
  refine HO_fieldAddr (r := 2) rfl rfl rfl Try.underlying36 rfl Try.sizeOf3 rfl ?_
  refine HO_store (i := 2) (j := 0) (us := [_, _]) (old := [_]) (ts := [_, _, _, _, _]) (cs := [_]) (R := [_, _, _, _, _]) (new := [_, _, _, _, _, _, _, _]) rfl rfl rfl Try.sizeOf3 rfl (by simp [Value.oneCell']) rfl rfl rfl rfl rfl rfl ?_
  refine HO_nil ?_
  refine H_env (ρ' := [(12, _), (5, _), (7, _)]) ⟨rfl, rfl, rfl, trivial⟩ ?_
  refine H_seq ?_
  refine H_region (l := [_, _, _, _, _, _, _]) rfl ?_
  refine HO_loadA (i := 0) (us := []) (cs := [_, _, _, _, _, _, _, _]) (ts := []) rfl rfl rfl Try.isAgg36 Try.sizeOf36 rfl (.loc _ _ _) rfl rfl rfl rfl ?_
  refine HO_call (first := []) (capt := []) (is := []) (R := [_, _, _, _, _, _]) rfl rfl rfl rfl rfl Try.call34 rfl (rgood_spec _ _ _ _ _ _ _ _) ?_
  intro y107 hy107
  clear y107 hy107
  refine HO_move rfl rfl rfl ?_
  refine HO_split (d := 108) rfl ?_ ?_
  ·intro h108
   refine HO_fieldAddr (r := 0) rfl rfl rfl Try.underlying36 rfl Try.sizeOf3 rfl ?_
   refine HO_load1 (i := 0) (j := 0) rfl rfl rfl Try.isAgg3 rfl (.loc _ _ _) rfl rfl ?_
   refine HO_bin rfl rfl rfl rfl bin_gtr ?_
   refine HO_pick_t rfl rfl rfl rfl ?_
   refine HO_nil ?_
   refine H_env (ρ' := [(112, _), (12, _), (5, _), (7, _)]) ⟨rfl, rfl, rfl, rfl, trivial⟩ ?_
   refine H_cond rfl ?_ ?_
   ·intro h112
    replace h112 := dT h112
    refine H_seq ?_
    refine H_region (l := [_, _, _, _, _, _, _]) rfl ?_
    refine HO_loadA (i := 3) (us := []) (cs := [_, _]) (ts := []) rfl rfl rfl Try.isAgg56 Try.sizeOf56 rfl (.loc _ _ _) rfl rfl rfl rfl ?_
    refine HO_loadA (i := 0) (us := []) (cs := [_, _, _, _, _, _, _, _]) (ts := []) rfl rfl rfl Try.isAgg36 Try.sizeOf36 rfl (.loc _ _ _) rfl rfl rfl rfl ?_
    refine HO_dup (i := 4) rfl rfl ?_
    refine HO_dup (i := 6) rfl rfl ?_
    refine HO_call (first := []) (capt := []) (is := [0, 0]) (R := [_, _, _, _, _, _]) rfl rfl rfl rfl rfl Try.call29 rfl (apply_spec _ _ _ _ _ _ _ _ _ _ _ _ _ _ _ ?_ ?_ ?_ ?_ ?_ ?_) ?_
    ·exact Mod.Inv.fold.apply
    ·decide
    ·exact rc
    ·(constructor <;> omega)
    ·exact sk2
    ·exact sc2
    intro y116 hy116
    refine HO_move rfl rfl rfl ?_
    refine HO_extract (vs := [_, _]) rfl rfl rfl rfl ?_
    refine HO_extract (vs := [_, _]) rfl rfl rfl rfl ?_
    refine HO_store (i := 4) (j := 0) (us := []) (old := [_, _, _, _, _]) (ts := []) (cs := [_, _, _, _, _]) (R := [_, _, _, _, _, _, _, _]) (new := [_, _, _, _, _]) rfl rfl rfl Try.sizeOf38 rfl (by simp [Value.oneCell']) rfl rfl rfl rfl rfl rfl ?_
    refine HO_nil ?_
    refine H_env (ρ' := [(12, _)]) ⟨rfl, trivial⟩ ?_
    refine H_world (fun _ hA => hA.keep (m := [yy, nn, nn, yy, nn, nn, nn, nn, nn]) (Y := [_, _]) rfl) ?_
    refine H_seq ?_
    refine H_region (l := [_, _, _, _, _, _, _]) rfl ?_
    refine HO_fieldAddr (r := 0) rfl rfl rfl Try.underlying38 rfl Try.sizeOf26 rfl ?_
    refine HO_load1 (i := 0) (j := 0) rfl rfl rfl Try.isAgg26 rfl (.loc _ _ _) rfl rfl ?_
    refine HO_bin rfl rfl rfl rfl bin_eql ?_
    refine HO_move rfl rfl rfl ?_
    refine HO_split (d := 122) rfl ?_ ?_
    ·intro h122
     replace h122 := dT h122
     refine HO_call (first := []) (capt := []) (is := []) (R := [_, _]) rfl rfl rfl rfl rfl Try.call24 rfl lives20_spec ?_
     intro y123 hy123
     clear y123 hy123
     refine HO_pick_t rfl rfl rfl rfl ?_
     refine HO_assign rfl rfl rfl ?_
     refine HO_nil ?_
     refine H_env (ρ' := [(6, _)]) ⟨rfl, trivial⟩ ?_
     refine H_world (fun _ hA => hA.keep (m := [nn, nn]) (Y := []) rfl) ?_
     refine H_ret1 Try.results8 (.tmp rfl) (fun w hA => ⟨(), congrArg Ending.returned ?_, ?_, ?_⟩)
     ·(exact congrArg Value.bool (by first | rfl | assumption | simp_all))
     ·trivial
     ·exact hA.keep (m := []) (Y := []) rfl
    intro h122
    replace h122 := dF h122
    (exact absurd (Mod.elder h108 h112 hx (by show sq - 1 < x.seq; rw [hq]; show sq - 1 < sq; omega)) h122)
   intro h112
   replace h112 := dF h112
   refine H_skip ?_
   refine H_seq ?_
   refine H_region (l := [_, _]) rfl ?_
   refine HO_call (first := []) (capt := []) (is := []) (R := [_, _, _, _, _, _]) rfl rfl rfl rfl rfl Try.call24 rfl lives20_spec ?_
   intro y125 hy125
   clear y125 hy125
   refine HO_assign rfl rfl rfl ?_
   refine HO_nil ?_
   refine H_env (ρ' := [(6, _)]) ⟨rfl, trivial⟩ ?_
   refine H_world (fun _ hA => hA.keep (m := [nn, nn, nn, nn, nn, nn]) (Y := []) rfl) ?_
   refine H_ret1 Try.results8 (.tmp rfl) (fun w hA => ⟨(), congrArg Ending.returned ?_, ?_, ?_⟩)
   ·(exact congrArg Value.bool (by first | rfl | assumption | simp_all))
   ·trivial
   ·exact hA.keep (m := []) (Y := []) rfl
  intro h108
  iterate 3 refine HO_no rfl rfl rfl ?_
  refine HO_pick_f rfl rfl rfl rfl ?_
  refine HO_nil ?_
  refine H_env (ρ' := [(112, _), (12, _), (5, _), (7, _)]) ⟨rfl, rfl, rfl, rfl, trivial⟩ ?_
  refine H_cond rfl (fun h => nomatch h) (fun _ => ?_)
  refine H_skip ?_
  refine H_seq ?_
  refine H_region (l := [_, _]) rfl ?_
  refine HO_call (first := []) (capt := []) (is := []) (R := [_, _, _, _, _, _]) rfl rfl rfl rfl rfl Try.call24 rfl lives20_spec ?_
  intro y125 hy125
  clear y125 hy125
  refine HO_assign rfl rfl rfl ?_
  refine HO_nil ?_
  refine H_env (ρ' := [(6, _)]) ⟨rfl, trivial⟩ ?_
  refine H_world (fun _ hA => hA.keep (m := [nn, nn, nn, nn, nn, nn]) (Y := []) rfl) ?_
  refine H_ret1 Try.results8 (.tmp rfl) (fun w hA => ⟨(), congrArg Ending.returned ?_, ?_, ?_⟩)
  ·(exact congrArg Value.bool (by first | rfl | assumption | simp_all))
  ·trivial
  ·exact hA.keep (m := []) (Y := []) rfl
 intro h85
 iterate 3 refine HO_no rfl rfl rfl ?_
 refine HO_pick_f rfl rfl rfl rfl ?_
 refine HO_move rfl rfl rfl ?_
 iterate 10 refine HO_no rfl rfl rfl ?_
 refine HO_pick_f rfl rfl rfl rfl ?_
 refine HO_nil ?_
 refine H_env (ρ' := [(101, _), (12, _), (5, _), (7, _)]) ⟨rfl, rfl, rfl, rfl, trivial⟩ ?_
 refine H_world (fun _ hA => hA.keep (m := [yy, nn, nn, nn, yy, yy, yy, yy, yy, nn, nn]) (Y := [_, _, _, _, _, _]) rfl) ?_
 refine H_cond rfl (fun h => nomatch h) (fun _ => ?_)
 refine H_skip ?_
 refine H_seq ?_
 refine H_seq ?_
 refine H_region (l := [_, _, _, _, _]) rfl ?_
 refine HO_fieldAddr (r := 2) rfl rfl rfl Try.underlying36 rfl Try.sizeOf3 rfl ?_
 refine HO_load1 (i := 2) (j := 2) rfl rfl rfl Try.isAgg3 rfl (.loc _ _ _) rfl rfl ?_
 refine HO_bin rfl rfl rfl rfl (bin_sub ?_ ?_) ?_
 ·omega
 ·omega
 refine HO_fieldAddr (r := 2) rfl rfl rfl Try.underlying36 rfl Try.sizeOf3 rfl ?_
 refine HO_store (i := 2) (j := 0) (us := [_, _]) (old := [_]) (ts := [_, _, _, _, _]) (cs := [_]) (R := [_, _, _, _, _]) (new := [_, _, _, _, _, _, _, _]) rfl rfl rfl Try.sizeOf3 rfl (by simp [Value.oneCell']) rfl rfl rfl rfl rfl rfl ?_
 refine HO_nil ?_
 refine H_env (ρ' := [(12, _), (5, _), (7, _)]) ⟨rfl, rfl, rfl, trivial⟩ ?_
 refine H_seq ?_
 refine H_region (l := [_, _, _, _, _, _, _]) rfl ?_
 refine HO_loadA (i := 0) (us := []) (cs := [_, _, _, _, _, _, _, _]) (ts := []) rfl rfl rfl Try.isAgg36 Try.sizeOf36 rfl (.loc _ _ _) rfl rfl rfl rfl ?_
 refine HO_call (first := []) (capt := []) (is := []) (R := [_, _, _, _, _, _]) rfl rfl rfl rfl rfl Try.call34 rfl (rgood_spec _ _ _ _ _ _ _ _) ?_
 intro y107 hy107
 clear y107 hy107
 refine HO_move rfl rfl rfl ?_
 refine HO_split (d := 108) rfl ?_ ?_
 ·intro h108
  refine HO_fieldAddr (r := 0) rfl rfl rfl Try.underlying36 rfl Try.sizeOf3 rfl ?_
  refine HO_load1 (i := 0) (j := 0) rfl rfl rfl Try.isAgg3 rfl (.loc _ _ _) rfl rfl ?_
  refine HO_bin rfl rfl rfl rfl bin_gtr ?_
  refine HO_pick_t rfl rfl rfl rfl ?_
  refine HO_nil ?_
  refine H_env (ρ' := [(112, _), (12, _), (5, _), (7, _)]) ⟨rfl, rfl, rfl, rfl, trivial⟩ ?_
  refine H_cond rfl ?_ ?_
  ·intro h112
   replace h112 := dT h112
   refine H_seq ?_
   refine H_region (l := [_, _, _, _, _, _, _]) rfl ?_
   refine HO_loadA (i := 3) (us := []) (cs := [_, _]) (ts := []) rfl rfl rfl Try.isAgg56 Try.sizeOf56 rfl (.loc _ _ _) rfl rfl rfl rfl ?_
   refine HO_loadA (i := 0) (us := []) (cs := [_, _, _, _, _, _, _, _]) (ts := []) rfl rfl rfl Try.isAgg36 Try.sizeOf36 rfl (.loc _ _ _) rfl rfl rfl rfl ?_
   refine HO_dup (i := 4) rfl rfl ?_
   refine HO_dup (i := 6) rfl rfl ?_
   refine HO_call (first := []) (capt := []) (is := [0, 0]) (R := [_, _, _, _, _, _]) rfl rfl rfl rfl rfl Try.call29 rfl (apply_spec _ _ _ _ _ _ _ _ _ _ _ _ _ _ _ ?_ ?_ ?_ ?_ ?_ ?_) ?_
   ·exact Mod.Inv.fold.apply
   ·decide
   ·exact rc
   ·(constructor <;> omega)
   ·exact sk2
   ·exact sc2
   intro y116 hy116
   refine HO_move rfl rfl rfl ?_
   refine HO_extract (vs := [_, _]) rfl rfl rfl rfl ?_
   refine HO_extract (vs := [_, _]) rfl rfl rfl rfl ?_
   refine HO_store (i := 4) (j := 0) (us := []) (old := [_, _, _, _, _]) (ts := []) (cs := [_, _, _, _, _]) (R := [_, _, _, _, _, _, _, _]) (new := [_, _, _, _, _]) rfl rfl rfl Try.sizeOf38 rfl (by simp [Value.oneCell']) rfl rfl rfl rfl rfl rfl ?_
   refine HO_nil ?_
   refine H_env (ρ' := [(12, _)]) ⟨rfl, trivial⟩ ?_
   refine H_world (fun _ hA => hA.keep (m := [yy, nn, nn, yy, nn, nn, nn, nn, nn]) (Y := [_, _]) rfl) ?_
   refine H_seq ?_
   refine H_region (l := [_, _, _, _, _, _, _]) rfl ?_
   refine HO_fieldAddr (r := 0) rfl rfl rfl Try.underlying38 rfl Try.sizeOf26 rfl ?_
   refine HO_load1 (i := 0) (j := 0) rfl rfl rfl Try.isAgg26 rfl (.loc _ _ _) rfl rfl ?_
   refine HO_bin rfl rfl rfl rfl bin_eql ?_
   refine HO_move rfl rfl rfl ?_
   refine HO_split (d := 122) rfl ?_ ?_
   ·intro h122
    replace h122 := dT h122
    refine HO_call (first := []) (capt := []) (is := []) (R := [_, _]) rfl rfl rfl rfl rfl Try.call24 rfl lives20_spec ?_
    intro y123 hy123
    clear y123 hy123
    refine HO_pick_t rfl rfl rfl rfl ?_
    refine HO_assign rfl rfl rfl ?_
    refine HO_nil ?_
    refine H_env (ρ' := [(6, _)]) ⟨rfl, trivial⟩ ?_
    refine H_world (fun _ hA => hA.keep (m := [nn, nn]) (Y := []) rfl) ?_
    refine H_ret1 Try.results8 (.tmp rfl) (fun w hA => ⟨(), congrArg Ending.returned ?_, ?_, ?_⟩)
    ·(exact congrArg Value.bool (by first | rfl | assumption | simp_all))
    ·trivial
    ·exact hA.keep (m := []) (Y := []) rfl
   intro h122
   replace h122 := dF h122
   (exact absurd (Mod.elder h108 h112 hx (by show sq - 1 < x.seq; rw [hq]; show sq - 1 < sq; omega)) h122)
  intro h112
  replace h112 := dF h112
  refine H_skip ?_
  refine H_seq ?_
  refine H_region (l := [_, _]) rfl ?_
  refine HO_call (first := []) (capt := []) (is := []) (R := [_, _, _, _, _, _]) rfl rfl rfl rfl rfl Try.call24 rfl lives20_spec ?_
  intro y125 hy125
  clear y125 hy125
  refine HO_assign rfl rfl rfl ?_
  refine HO_nil ?_
  refine H_env (ρ' := [(6, _)]) ⟨rfl, trivial⟩ ?_
  refine H_world (fun _ hA => hA.keep (m := [nn, nn, nn, nn, nn, nn]) (Y := []) rfl) ?_
  refine H_ret1 Try.results8 (.tmp rfl) (fun w hA => ⟨(), congrArg Ending.returned ?_, ?_, ?_⟩)
  ·(exact congrArg Value.bool (by first | rfl | assumption | simp_all))
  ·trivial
  ·exact hA.keep (m := []) (Y := []) rfl
 intro h108
 iterate 3 refine HO_no rfl rfl rfl ?_
 refine HO_pick_f rfl rfl rfl rfl ?_
 refine HO_nil ?_
 refine H_env (ρ' := [(112, _), (12, _), (5, _), (7, _)]) ⟨rfl, rfl, rfl, rfl, trivial⟩ ?_
 refine H_cond rfl (fun h => nomatch h) (fun _ => ?_)
 refine H_skip ?_
 refine H_seq ?_
 refine H_region (l := [_, _]) rfl ?_
 refine HO_call (first := []) (capt := []) (is := []) (R := [_, _, _, _, _, _]) rfl rfl rfl rfl rfl Try.call24 rfl lives20_spec ?_
 intro y125 hy125
 clear y125 hy125
 refine HO_assign rfl rfl rfl ?_
 refine HO_nil ?_
 refine H_env (ρ' := [(6, _)]) ⟨rfl, trivial⟩ ?_
 refine H_world (fun _ hA => hA.keep (m := [nn, nn, nn, nn, nn, nn]) (Y := []) rfl) ?_
 refine H_ret1 Try.results8 (.tmp rfl) (fun w hA => ⟨(), congrArg Ending.returned ?_, ?_, ?_⟩)
 ·(exact congrArg Value.bool (by first | rfl | assumption | simp_all))
 ·trivial
 ·exact hA.keep (m := []) (Y := []) rfl
end Go.Wk
