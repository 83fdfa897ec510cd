/- Contracts of the program's functions, each proved by walking its code. -/
import Derived.Test.YtlkdpglngomblaaKflaw20b
import Derived.Test.YtlkdpglngomblaaMod6
set_option maxRecDepth 100000
set_option linter.unusedVariables false
set_option linter.unusedSimpArgs false
namespace Go.Wk.Flaw20c
open Go Go.RowKit Go.Proofs Go.Wk
theorem bd36_0_3_it {x1 : Int} {x2 : ByteArray} : ∀ w, (Instr.build 36 (List.toArray (List.zip [0, 3] [.int .i64 x1, .string x2]))).run Try.prog w = .ok (.agg #[.int .i64 x1, .int .i64 (0), .int .i64 (0), .string x2, .string (⟨#[]⟩), .string (⟨#[]⟩), .string (⟨#[]⟩), .int .i64 (0)]) w := fun _ => by kernel_rfl
end Go.Wk.Flaw20c
namespace Go.Wk
open Go Go.RowKit Go.Proofs Flaw20c 
theorem lget_spec (ps : List Pair) (a1 : Option Addr) (c1 : Nat) (a2 : Option Addr) (n2 c2 : Nat) (ky : ByteArray) (hs : soStr.Srt Pair.key ps) (hl : ps.length ≤ 2000) (sy : ky.size ≤ BIG) : Spec Try.prog 30 #[.agg #[.slice a1 (ps.length) c1, .slice a2 (n2) c2], .string (ky)] [.dat kPair.sl (ps) [.slice a1 (ps.length) c1]] (β := Option Addr × Nat) (fun y => .agg #[.int .i64 ((Mod.query ps (⟨4, 0, 0, ky, ⟨#[]⟩, ⟨#[]⟩, ⟨#[]⟩, 0⟩ : Cmd)).err), .bool ((Mod.query ps (⟨4, 0, 0, ky, ⟨#[]⟩, ⟨#[]⟩, ⟨#[]⟩, 0⟩ : Cmd)).found), .string ((Mod.query ps (⟨4, 0, 0, ky, ⟨#[]⟩, ⟨#[]⟩, ⟨#[]⟩, 0⟩ : Cmd)).val), .int .i64 ((Mod.query ps (⟨4, 0, 0, ky, ⟨#[]⟩, ⟨#[]⟩, ⟨#[]⟩, 0⟩ : Cmd)).sess), .slice y.1 (((Mod.query ps (⟨4, 0, 0, ky, ⟨#[]⟩, ⟨#[]⟩, ⟨#[]⟩, 0⟩ : Cmd)).pairs).length) y.2]) (fun y => True) (fun y => [.dat kPair.sl ((Mod.query ps (⟨4, 0, 0, ky, ⟨#[]⟩, ⟨#[]⟩, ⟨#[]⟩, 0⟩ : Cmd)).pairs) [.slice y.1 (((Mod.query ps (⟨4, 0, 0, ky, ⟨#[]⟩, ⟨#[]⟩, ⟨#[]⟩, 0⟩ : Cmd)).pairs).length) y.2]]) := by
 refine Spec.enter (vs := [_, _]) Try.func30 rfl Try.ntmps30 rfl (Nat.le_of_ble_eq_true rfl) (fun w0 ok0 => ?_)
 generalize hM0 : blks _ = M0
 have hMn := @noM _ _ hM0 (by simp [Atom.dat, Atom.elem])
 refine H_len_le (i := 0) rfl ?_
 intro hlen0
 refine H_seq ?_
 refine H_region (l := [_, _]) rfl ?_
 refine HO_box (cs := [_, _]) rfl rfl rfl rfl ?_
 intro g2
 refine HO_alloc (cs := [_, _, _, _, _]) rfl rfl Try.zeroValue38 rfl ?_
 intro g4
 refine HO_nil ?_
 refine H_env (ρ' := [(4, _), (2, _), (1, _)]) ⟨rfl, rfl, rfl, trivial⟩ ?_
 refine H_seq ?_
 refine H_region (l := [_, _, _, _, _]) rfl ?_
 refine HO_loadA (i := 1) (us := []) (cs := [_, _]) (ts := []) rfl rfl rfl Try.isAgg56 Try.sizeOf56 rfl (.loc _ _ _) rfl rfl rfl rfl ?_
 refine HO_move rfl rfl rfl ?_
 refine HO_build (xo := [(0, _), (3, _)]) (vs := [_, _]) rfl rfl rfl rfl (bd36_0_3_it) ?_
 refine HO_dup (i := 2) rfl rfl ?_
 refine HO_call (first := []) (capt := []) (is := [0]) (R := [_, _, _]) rfl rfl rfl rfl rfl Try.call31 rfl (query_spec _ _ _ _ _ _ _ _ _ _ _ _ _ _ ?_ ?_ ?_ ?_) ?_
 ·exact hs
 ·exact hl
 ·exact sy
 ·exact (Nat.zero_le _)
 intro y8 hy8
 refine HO_store (i := 1) (j := 0) (us := []) (old := [_, _, _, _, _]) (ts := []) (cs := [_, _, _, _, _]) (R := [_, _, _]) (new := [_, _, _, _, _]) rfl rfl rfl Try.sizeOf38 rfl (by simp [Value.oneCell']) rfl rfl rfl rfl rfl rfl ?_
 refine HO_nil ?_
 refine H_env (ρ' := [(4, _)]) ⟨rfl, trivial⟩ ?_
 refine H_world (fun _ hA => hA.keep (m := [yy, yy, nn, nn]) (Y := [_, _]) rfl) ?_
 refine H_ret1 Try.results30 (.cell rfl (fun w hA => run_loadVarA (cs := [_, _, _, _, _]) (Try.isAgg38 w) (Try.sizeOf38 w) (Tells.cells (.loc _ _ _) (hA.get (i := 0) rfl)))) (fun w hA => ⟨y8, congrArg Ending.returned ?_, ?_, ?_⟩)
 ·rfl
 ·trivial
 ·exact hA.keep (m := [nn, yy]) (Y := [_]) rfl
set_option maxHeartbeats 0 in
theorem ModelMaps_spec (es : List Ent) (a : Option Addr) (c : Nat) (ki cs sq : Int) (ke ol cv ti : ByteArray) (li : Int) (ky : ByteArray) (rc : -9223372036854775808 ≤ cs ∧ cs ≤ 9223372036854775807) (rq : -9223372036854775808 ≤ sq ∧ sq ≤ 9223372036854775807) (sk : ke.size ≤ BIG) (so : ol.size ≤ BIG) (sc : cv.size ≤ BIG) (st : ti.size ≤ BIG) (sy : ky.size ≤ BIG) : Spec Try.prog 6 #[.slice a (es.length) c, .agg #[.int .i64 (ki), .int .i64 (cs), .int .i64 (sq), .string (ke), .string (ol), .string (cv), .string (ti), .int .i64 (li)], .string (ky)] [.dat kEnt.sl (es) [.slice a (es.length) c]] (β := Unit) (fun y => .bool (true)) (fun y => True) (fun y => []) := by
 refine Spec.enter (vs := [_, _, _]) Try.func6 rfl Try.ntmps6 rfl (Nat.le_of_ble_eq_true rfl) (fun w0 ok0 => ?_)
 generalize hM0 : blks _ = M0
 have hMn := @noM _ _ hM0 (by simp [Atom.dat, Atom.elem])
 refine H_len_le (i := 0) rfl ?_
 intro hlen0
 refine H_seq ?_
 refine H_region (l := [_, _]) rfl ?_
 refine HO_box (cs := [_, _, _, _, _, _, _, _]) rfl rfl rfl rfl ?_
 intro g4
 refine HO_assign rfl rfl rfl ?_
 refine HO_nil ?_
 refine H_env (ρ' := [(4, _), (0, _), (2, _)]) ⟨rfl, rfl, rfl, trivial⟩ ?_
 refine H_seq ?_
 refine H_seq ?_
 refine H_region (l := [_, _, _, _, _, _, _, _, _, _, _, _, _, _, _]) rfl ?_
 refine HO_move rfl rfl rfl ?_
 refine HO_dup (i := 1) rfl rfl ?_
 refine HO_call (first := []) (capt := []) (is := [0]) (R := [_, _]) rfl rfl rfl rfl rfl Try.call22 rfl (heavy20_spec _ _ _) ?_
 intro y16 hy16
 refine HO_move rfl rfl rfl ?_
 refine HO_split (d := 17) rfl ?_ ?_
 ·intro h17
  iterate 2 refine HO_no rfl rfl rfl ?_
  refine HO_pick_t rfl rfl rfl rfl ?_
  refine HO_move rfl rfl rfl ?_
  iterate 3 refine HO_no rfl rfl rfl ?_
  refine HO_pick_t rfl rfl rfl rfl ?_
  refine HO_move rfl rfl rfl ?_
  iterate 2 refine HO_no rfl rfl rfl ?_
  refine HO_pick_t rfl rfl rfl rfl ?_
  refine HO_nil ?_
  refine H_env (ρ' := [(29, _), (4, _), (0, _), (2, _)]) ⟨rfl, rfl, rfl, rfl, trivial⟩ ?_
  refine H_cond rfl (fun _ => ?_) (fun h => nomatch h)
  refine H_seq ?_
  refine H_region (l := [_, _]) rfl ?_
  refine HO_call (first := []) (capt := []) (is := []) (R := [_, _]) rfl rfl rfl rfl rfl Try.call24 rfl lives20_spec ?_
  intro y30 hy30
  clear y30 hy30
  refine HO_assign rfl rfl rfl ?_
  refine HO_nil ?_
  refine H_env (ρ' := [(6, _)]) ⟨rfl, trivial⟩ ?_
  refine H_world (fun _ hA => hA.keep (m := [nn, nn]) (Y := []) rfl) ?_
  refine H_ret1 Try.results6 (.tmp rfl) (fun w hA => ⟨(), congrArg Ending.returned ?_, ?_, ?_⟩)
  ·(exact congrArg Value.bool (by first | rfl | assumption | simp_all))
  ·trivial
  ·exact hA.keep (m := []) (Y := []) rfl
 intro h17
 refine HO_loadA (i := 0) (us := []) (cs := [_, _, _, _, _, _, _, _]) (ts := []) rfl rfl rfl Try.isAgg36 Try.sizeOf36 rfl (.loc _ _ _) rfl rfl rfl rfl ?_
 refine HO_call (first := []) (capt := []) (is := []) (R := [_, _]) rfl rfl rfl rfl rfl Try.call23 rfl (great20_spec _ _ _ _ _ _ _ _ ?_ ?_ ?_ ?_) ?_
 ·exact sk
 ·exact so
 ·exact sc
 ·exact st
 intro y19 hy19
 clear y19 hy19
 refine HO_pick_f rfl rfl rfl rfl ?_
 refine HO_move rfl rfl rfl ?_
 refine HO_split (d := 21) rfl ?_ ?_
 ·intro h21
  replace h21 := dT h21
  iterate 3 refine HO_no rfl rfl rfl ?_
  refine HO_pick_t rfl rfl rfl rfl ?_
  refine HO_move rfl rfl rfl ?_
  iterate 2 refine HO_no rfl rfl rfl ?_
  refine HO_pick_t rfl rfl rfl rfl ?_
  refine HO_nil ?_
  refine H_env (ρ' := [(29, _), (4, _), (0, _), (2, _)]) ⟨rfl, rfl, rfl, rfl, trivial⟩ ?_
  refine H_cond rfl (fun _ => ?_) (fun h => nomatch h)
  refine H_seq ?_
  refine H_region (l := [_, _]) rfl ?_
  refine HO_call (first := []) (capt := []) (is := []) (R := [_, _]) rfl rfl rfl rfl rfl Try.call24 rfl lives20_spec ?_
  intro y30 hy30
  clear y30 hy30
  refine HO_assign rfl rfl rfl ?_
  refine HO_nil ?_
  refine H_env (ρ' := [(6, _)]) ⟨rfl, trivial⟩ ?_
  refine H_world (fun _ hA => hA.keep (m := [nn, nn]) (Y := []) rfl) ?_
  refine H_ret1 Try.results6 (.tmp rfl) (fun w hA => ⟨(), congrArg Ending.returned ?_, ?_, ?_⟩)
  ·(exact congrArg Value.bool (by first | rfl | assumption | simp_all))
  ·trivial
  ·exact hA.keep (m := []) (Y := []) rfl
 intro h21
 replace h21 := dF h21
 refine HO_move rfl rfl rfl ?_
 refine HO_bi rfl rfl rfl (bi_len_str Try.underlying9) ?_
 refine HO_bin rfl rfl rfl rfl bin_gtr ?_
 refine HO_pick_f rfl rfl rfl rfl ?_
 refine HO_move rfl rfl rfl ?_
 refine HO_split (d := 26) rfl ?_ ?_
 ·intro h26
  replace h26 := dT h26
  iterate 2 refine HO_no rfl rfl rfl ?_
  refine HO_pick_t rfl rfl rfl rfl ?_
  refine HO_nil ?_
  refine H_env (ρ' := [(29, _), (4, _), (0, _), (2, _)]) ⟨rfl, rfl, rfl, rfl, trivial⟩ ?_
  refine H_cond rfl (fun _ => ?_) (fun h => nomatch h)
  refine H_seq ?_
  refine H_region (l := [_, _]) rfl ?_
  refine HO_call (first := []) (capt := []) (is := []) (R := [_, _]) rfl rfl rfl rfl rfl Try.call24 rfl lives20_spec ?_
  intro y30 hy30
  clear y30 hy30
  refine HO_assign rfl rfl rfl ?_
  refine HO_nil ?_
  refine H_env (ρ' := [(6, _)]) ⟨rfl, trivial⟩ ?_
  refine H_world (fun _ hA => hA.keep (m := [nn, nn]) (Y := []) rfl) ?_
  refine H_ret1 Try.results6 (.tmp rfl) (fun w hA => ⟨(), congrArg Ending.returned ?_, ?_, ?_⟩)
  ·(exact congrArg Value.bool (by first | rfl | assumption | simp_all))
  ·trivial
  ·exact hA.keep (m := []) (Y := []) rfl
 intro h26
 replace h26 := dF h26
 refine HO_move rfl rfl rfl ?_
 refine HO_bin rfl rfl rfl rfl bin_eqs ?_
 refine HO_pick_f rfl rfl rfl rfl ?_
 refine HO_nil ?_
 refine H_env (ρ' := [(29, _), (4, _), (0, _), (2, _)]) ⟨rfl, rfl, rfl, rfl, trivial⟩ ?_
 refine H_cond rfl ?_ ?_
 ·intro h29
  replace h29 := dT h29
  refine H_seq ?_
  refine H_region (l := [_, _]) rfl ?_
  refine HO_call (first := []) (capt := []) (is := []) (R := [_, _]) rfl rfl rfl rfl rfl Try.call24 rfl lives20_spec ?_
  intro y30 hy30
  clear y30 hy30
  refine HO_assign rfl rfl rfl ?_
  refine HO_nil ?_
  refine H_env (ρ' := [(6, _)]) ⟨rfl, trivial⟩ ?_
  refine H_world (fun _ hA => hA.keep (m := [nn, nn]) (Y := []) rfl) ?_
  refine H_ret1 Try.results6 (.tmp rfl) (fun w hA => ⟨(), congrArg Ending.returned ?_, ?_, ?_⟩)
  ·(exact congrArg Value.bool (by first | rfl | assumption | simp_all))
  ·trivial
  ·exact hA.keep (m := []) (Y := []) rfl
 intro h29
 replace h29 := dF h29
 refine H_skip ?_
 refine H_seq ?_
 refine H_region (l := [_, _, _, _]) rfl ?_
 refine HO_move rfl rfl rfl ?_
 refine HO_dup (i := 1) rfl rfl ?_
 refine HO_call (first := []) (capt := []) (is := [0]) (R := [_, _]) rfl rfl rfl rfl rfl Try.call25 rfl (fold_spec _ _ _) ?_
 intro y32 hy32
 refine HO_alloc (cs := [_, _]) rfl rfl Try.zeroValue56 rfl ?_
 intro g7
 refine HO_store (i := 0) (j := 0) (us := []) (old := [_, _]) (ts := []) (cs := [_, _]) (R := [_, _, _, _]) (new := [_, _]) rfl rfl rfl Try.sizeOf56 rfl (by simp [Value.oneCell']) rfl rfl rfl rfl rfl rfl ?_
 refine HO_nil ?_
 refine H_env (ρ' := [(7, _), (4, _), (2, _)]) ⟨rfl, rfl, rfl, trivial⟩ ?_
 refine H_world (fun _ hA => hA.keep (m := [yy, yy, yy, yy, nn]) (Y := [_, _, _, _]) rfl) ?_
 refine H_seq ?_
 refine H_region (l := [_]) rfl ?_
 refine HO_assign rfl rfl rfl ?_
 refine HO_nil ?_
 refine H_seq ?_
 refine H_meetE (σ := Nat × Option Addr × Nat × Option Addr × Nat × Nat × (Option Addr × Nat) × Nat × (Option Addr × Nat)) _ (fun s => True) (fun s => [(2, .string (ky)), (4, .pointer (some ⟨g4, 0, none⟩)), (7, .pointer (some ⟨s.1, 0, none⟩)), (8, .func (.func 30) #[] #[]), (9, .pointer (some ⟨s.2.2.2.2.2.1, 0, none⟩)), (10, .pointer (some ⟨s.2.2.2.2.2.2.2.1, 0, none⟩))]) (fun s => Asn w0 ok0 M0 [.loc g4 [.int .i64 (ki), .int .i64 (cs), .int .i64 (sq), .string (ke), .string (ol), .string (cv), .string (ti), .int .i64 (li)] 36, .loc s.1 [.slice s.2.1 (((Mod.fold es).1).length) s.2.2.1, .slice s.2.2.2.1 (((Mod.fold es).2).length) s.2.2.2.2.1] 56, .dat kPair.sl ((Mod.fold es).1) [.slice s.2.1 (((Mod.fold es).1).length) s.2.2.1], .dat kSess.sl ((Mod.fold es).2) [.slice s.2.2.2.1 (((Mod.fold es).2).length) s.2.2.2.2.1], .loc s.2.2.2.2.2.1 [.int .i64 ((Mod.query (Mod.fold es).1 (⟨4, 0, 0, ky, ⟨#[]⟩, ⟨#[]⟩, ⟨#[]⟩, 0⟩ : Cmd)).err), .bool ((Mod.query (Mod.fold es).1 (⟨4, 0, 0, ky, ⟨#[]⟩, ⟨#[]⟩, ⟨#[]⟩, 0⟩ : Cmd)).found), .string ((Mod.query (Mod.fold es).1 (⟨4, 0, 0, ky, ⟨#[]⟩, ⟨#[]⟩, ⟨#[]⟩, 0⟩ : Cmd)).val), .int .i64 ((Mod.query (Mod.fold es).1 (⟨4, 0, 0, ky, ⟨#[]⟩, ⟨#[]⟩, ⟨#[]⟩, 0⟩ : Cmd)).sess), .slice s.2.2.2.2.2.2.1.1 (((Mod.query (Mod.fold es).1 (⟨4, 0, 0, ky, ⟨#[]⟩, ⟨#[]⟩, ⟨#[]⟩, 0⟩ : Cmd)).pairs).length) s.2.2.2.2.2.2.1.2] 38, .dat kPair.sl ((Mod.query (Mod.fold es).1 (⟨4, 0, 0, ky, ⟨#[]⟩, ⟨#[]⟩, ⟨#[]⟩, 0⟩ : Cmd)).pairs) [.slice s.2.2.2.2.2.2.1.1 (((Mod.query (Mod.fold es).1 (⟨4, 0, 0, ky, ⟨#[]⟩, ⟨#[]⟩, ⟨#[]⟩, 0⟩ : Cmd)).pairs).length) s.2.2.2.2.2.2.1.2], .loc s.2.2.2.2.2.2.2.1 [.int .i64 ((Mod.query (Mod.fold es).1 (⟨4, 0, 0, ke, ⟨#[]⟩, ⟨#[]⟩, ⟨#[]⟩, 0⟩ : Cmd)).err), .bool ((Mod.query (Mod.fold es).1 (⟨4, 0, 0, ke, ⟨#[]⟩, ⟨#[]⟩, ⟨#[]⟩, 0⟩ : Cmd)).found), .string ((Mod.query (Mod.fold es).1 (⟨4, 0, 0, ke, ⟨#[]⟩, ⟨#[]⟩, ⟨#[]⟩, 0⟩ : Cmd)).val), .int .i64 ((Mod.query (Mod.fold es).1 (⟨4, 0, 0, ke, ⟨#[]⟩, ⟨#[]⟩, ⟨#[]⟩, 0⟩ : Cmd)).sess), .slice s.2.2.2.2.2.2.2.2.1 (((Mod.query (Mod.fold es).1 (⟨4, 0, 0, ke, ⟨#[]⟩, ⟨#[]⟩, ⟨#[]⟩, 0⟩ : Cmd)).pairs).length) s.2.2.2.2.2.2.2.2.2] 38, .dat kPair.sl ((Mod.query (Mod.fold es).1 (⟨4, 0, 0, ke, ⟨#[]⟩, ⟨#[]⟩, ⟨#[]⟩, 0⟩ : Cmd)).pairs) [.slice s.2.2.2.2.2.2.2.2.1 (((Mod.query (Mod.fold es).1 (⟨4, 0, 0, ke, ⟨#[]⟩, ⟨#[]⟩, ⟨#[]⟩, 0⟩ : Cmd)).pairs).length) s.2.2.2.2.2.2.2.2.2]]) ?_ ?_
 ·skip
  refine H_drawB (m := [yy, yy, yy, yy]) (Xs := [_, _, _, _]) (fuel := 13) (l := #[false, false, false, false, false, false, false, false, false, false, false, false, false]) mixed rfl rfl rfl ?_
  refine HA_take (i := 0) (listed' := #[true, false, false, false, false, false, false, false, false, false, false, false, false]) (bodyPost_pan _ _ _) rfl rfl rfl rfl (by kernel_rfl) rfl (V_move rfl) (fun _ hA => hA) ?_
  refine HA_take (i := 1) (listed' := #[true, true, false, false, false, false, false, false, false, false, false, false, false]) (bodyPost_pan _ _ _) rfl rfl rfl rfl (by kernel_rfl) rfl (V_loadA (i := 0) (us := []) (cs := [_, _]) (ts := []) rfl Try.isAgg56 Try.sizeOf56 rfl (.loc _ _ _) rfl rfl rfl rfl) (fun _ hA => hA) ?_
  refine HA_take (i := 2) (listed' := #[true, true, true, false, false, false, false, false, false, false, false, false, false]) (bodyPost_pan _ _ _) rfl rfl rfl rfl (by kernel_rfl) rfl (V_move rfl) (fun _ hA => hA) ?_
  refine HA_take (i := 4) (listed' := #[true, true, true, false, true, false, false, false, false, false, false, false, false]) (bodyPost_pan _ _ _) rfl rfl rfl rfl (by kernel_rfl) rfl (V_move rfl) (fun _ hA => hA) ?_
  refine HA_take (i := 5) (listed' := #[true, true, true, false, true, true, false, false, false, false, false, false, false]) (bodyPost_pan _ _ _) rfl rfl rfl rfl (by kernel_rfl) rfl (V_loadA (i := 0) (us := []) (cs := [_, _]) (ts := []) rfl Try.isAgg56 Try.sizeOf56 rfl (.loc _ _ _) rfl rfl rfl rfl) (fun _ hA => hA) ?_
  refine HA_take (i := 6) (listed' := #[true, true, true, false, true, true, true, false, false, false, false, false, false]) (bodyPost_pan _ _ _) rfl rfl rfl rfl (by kernel_rfl) rfl (V_fieldAddr (r := 3) rfl Try.underlying36 rfl Try.sizeOf9 rfl) (fun _ hA => hA) ?_
  refine HA_take (i := 7) (listed' := #[true, true, true, false, true, true, true, true, false, false, false, false, false]) (bodyPost_pan _ _ _) rfl rfl rfl rfl (by kernel_rfl) rfl (V_load1 (i := 3) (j := 3) rfl Try.isAgg9 rfl (.loc _ _ _) rfl rfl) (fun _ hA => hA) ?_
  refine HA_loud3 (i := 3) (j := 9) (m := 10) (by kernel_rfl) rfl rfl rfl ?_ ?_ ?_
  ·refine HO_dup (i := 1) rfl rfl ?_
   refine HO_call (first := []) (capt := []) (is := [0]) (R := [_, _, _, _]) rfl rfl rfl rfl rfl Try.call30 rfl (lget_spec _ _ _ _ _ _ _ ?_ ?_ ?_) ?_
   ·exact Mod.Inv.fold.ps
   ·exact Mod.Inv.fold.pl
   ·exact sy
   intro y36 hy36
   refine HA_back (listed' := #[true, true, true, true, true, true, true, true, false, false, false, false, false]) rfl (fun _ hA => hA.keep (m := [nn, yy, yy, yy, yy]) (Y := [_, _, _, _]) rfl) ?_
   refine HA_loud3 (i := 8) (j := 9) (m := 10) (by kernel_rfl) rfl rfl rfl ?_ ?_ ?_
   ·refine HO_dup (i := 2) rfl rfl ?_
    refine HO_call (first := []) (capt := []) (is := [0]) (R := [_, _, _, _, _]) rfl rfl rfl rfl rfl Try.call30 rfl (lget_spec _ _ _ _ _ _ _ ?_ ?_ ?_) ?_
    ·exact Mod.Inv.fold.ps
    ·exact Mod.Inv.fold.pl
    ·exact sk
    intro y41 hy41
    refine HA_back (listed' := #[true, true, true, true, true, true, true, true, true, false, false, false, false]) rfl (fun _ hA => hA.keep (m := [nn, nn, yy, yy, yy, yy]) (Y := [_, _, _, _]) rfl) ?_
    refine HA_loud2 (i := 9) (j := 10) (by kernel_rfl) rfl rfl ?_ ?_
    ·refine HO_alloc (cs := [_, _, _, _, _]) rfl rfl Try.zeroValue38 rfl ?_
     intro g9
     refine HA_back (listed' := #[true, true, true, true, true, true, true, true, true, true, false, false, false]) rfl (fun _ hA => hA.keep (m := [nn, nn, nn, yy, yy, yy, yy]) (Y := [_, _, _, _]) rfl) ?_
     refine HA_loud1 (i := 10) (by kernel_rfl) rfl ?_
     refine HO_alloc (cs := [_, _, _, _, _]) rfl rfl Try.zeroValue38 rfl ?_
     intro g10
     refine HA_back (listed' := #[true, true, true, true, true, true, true, true, true, true, true, false, false]) rfl (fun _ hA => hA.keep (m := [nn, nn, nn, nn, yy, yy, yy, yy]) (Y := [_, _, _, _]) rfl) ?_
     refine HA_loud1 (i := 11) (by kernel_rfl) rfl ?_
     refine HO_store (i := 1) (j := 0) (us := []) (old := [_, _, _, _, _]) (ts := []) (cs := [_, _, _, _, _]) (R := [_, _, _, _, _, _, _]) (new := [_, _, _, _, _]) rfl rfl rfl Try.sizeOf38 rfl (by simp [Value.oneCell']) rfl rfl rfl rfl rfl rfl ?_
     refine HA_back (listed' := #[true, true, true, true, true, true, true, true, true, true, true, true, false]) rfl (fun _ hA => hA.keep (m := [nn, nn, nn, nn, yy, yy, yy, yy]) (Y := [_, _, _, _]) rfl) ?_
     refine HA_loud1 (i := 12) (by kernel_rfl) rfl ?_
     refine HO_store (i := 1) (j := 0) (us := []) (old := [_, _, _, _, _]) (ts := []) (cs := [_, _, _, _, _]) (R := [_, _, _, _, _, _, _]) (new := [_, _, _, _, _]) rfl rfl rfl Try.sizeOf38 rfl (by simp [Value.oneCell']) rfl rfl rfl rfl rfl rfl ?_
     refine HA_back (listed' := #[true, true, true, true, true, true, true, true, true, true, true, true, true]) rfl (fun _ hA => hA.keep (m := [nn, nn, nn, nn, yy, yy, yy, yy]) (Y := [_, _, _, _]) rfl) ?_
     refine HA_done (by kernel_rfl) ?_
     refine H_env (ρ' := [(10, _), (9, _), (8, _), (7, _), (4, _), (2, _)]) ⟨rfl, rfl, rfl, rfl, rfl, rfl, trivial⟩ ?_
     refine H_inv (fun a w hf hA => ⟨⟨g7, y32.1.1, y32.1.2, y32.2.1, y32.2.2, g9, y36, g10, y41⟩, ?_, hf.sub ?_, ?_⟩)
     ·trivial
     ·exact ⟨rfl, rfl, rfl, rfl, rfl, rfl, trivial⟩
     ·exact hA.only (is := [0, 0, 1, 2, 0, 1, 0, 2]) (Z := []) rfl
    ·refine HO_alloc (cs := [_, _, _, _, _]) rfl rfl Try.zeroValue38 rfl ?_
     intro g10
     refine HA_back (listed' := #[true, true, true, true, true, true, true, true, true, false, true, false, false]) rfl (fun _ hA => hA.keep (m := [nn, nn, nn, yy, yy, yy, yy]) (Y := [_, _, _, _]) rfl) ?_
     refine HA_loud1 (i := 9) (by kernel_rfl) rfl ?_
     refine HO_alloc (cs := [_, _, _, _, _]) rfl rfl Try.zeroValue38 rfl ?_
     intro g9
     refine HA_back (listed' := #[true, true, true, true, true, true, true, true, true, true, true, false, false]) rfl (fun _ hA => hA.keep (m := [nn, nn, nn, nn, yy, yy, yy, yy]) (Y := [_, _, _, _]) rfl) ?_
     refine HA_loud1 (i := 11) (by kernel_rfl) rfl ?_
     refine HO_store (i := 0) (j := 0) (us := []) (old := [_, _, _, _, _]) (ts := []) (cs := [_, _, _, _, _]) (R := [_, _, _, _, _, _, _]) (new := [_, _, _, _, _]) rfl rfl rfl Try.sizeOf38 rfl (by simp [Value.oneCell']) rfl rfl rfl rfl rfl rfl ?_
     refine HA_back (listed' := #[true, true, true, true, true, true, true, true, true, true, true, true, false]) rfl (fun _ hA => hA.keep (m := [nn, nn, nn, nn, yy, yy, yy, yy]) (Y := [_, _, _, _]) rfl) ?_
     refine HA_loud1 (i := 12) (by kernel_rfl) rfl ?_
     refine HO_store (i := 1) (j := 0) (us := []) (old := [_, _, _, _, _]) (ts := []) (cs := [_, _, _, _, _]) (R := [_, _, _, _, _, _, _]) (new := [_, _, _, _, _]) rfl rfl rfl Try.sizeOf38 rfl (by simp [Value.oneCell']) rfl rfl rfl rfl rfl rfl ?_
     refine HA_back (listed' := #[true, true, true, true, true, true, true, true, true, true, true, true, true]) rfl (fun _ hA => hA.keep (m := [nn, nn, nn, nn, yy, yy, yy, yy]) (Y := [_, _, _, _]) rfl) ?_
     refine HA_done (by kernel_rfl) ?_
     refine H_env (ρ' := [(9, _), (10, _), (8, _), (7, _), (4, _), (2, _)]) ⟨rfl, rfl, rfl, rfl, rfl, rfl, trivial⟩ ?_
     refine H_inv (fun a w hf hA => ⟨⟨g7, y32.1.1, y32.1.2, y32.2.1, y32.2.2, g9, y36, g10, y41⟩, ?_, hf.sub ?_, ?_⟩)
     ·trivial
     ·exact ⟨rfl, rfl, rfl, rfl, rfl, rfl, trivial⟩
     ·exact hA.only (is := [0, 0, 1, 2, 0, 1, 0, 2]) (Z := []) rfl
   ·refine HO_alloc (cs := [_, _, _, _, _]) rfl rfl Try.zeroValue38 rfl ?_
    intro g9
    refine HA_back (listed' := #[true, true, true, true, true, true, true, true, false, true, false, false, false]) rfl (fun _ hA => hA.keep (m := [nn, nn, yy, yy, yy, yy]) (Y := [_, _, _, _]) rfl) ?_
    refine HA_loud2 (i := 8) (j := 10) (by kernel_rfl) rfl rfl ?_ ?_
    ·refine HO_dup (i := 3) rfl rfl ?_
     refine HO_call (first := []) (capt := []) (is := [0]) (R := [_, _, _, _, _, _]) rfl rfl rfl rfl rfl Try.call30 rfl (lget_spec _ _ _ _ _ _ _ ?_ ?_ ?_) ?_
     ·exact Mod.Inv.fold.ps
     ·exact Mod.Inv.fold.pl
     ·exact sk
     intro y41 hy41
     refine HA_back (listed' := #[true, true, true, true, true, true, true, true, true, true, false, false, false]) rfl (fun _ hA => hA.keep (m := [nn, nn, nn, yy, yy, yy, yy]) (Y := [_, _, _, _]) rfl) ?_
     refine HA_loud1 (i := 10) (by kernel_rfl) rfl ?_
     refine HO_alloc (cs := [_, _, _, _, _]) rfl rfl Try.zeroValue38 rfl ?_
     intro g10
     refine HA_back (listed' := #[true, true, true, true, true, true, true, true, true, true, true, false, false]) rfl (fun _ hA => hA.keep (m := [nn, nn, nn, nn, yy, yy, yy, yy]) (Y := [_, _, _, _]) rfl) ?_
     refine HA_loud1 (i := 11) (by kernel_rfl) rfl ?_
     refine HO_store (i := 2) (j := 0) (us := []) (old := [_, _, _, _, _]) (ts := []) (cs := [_, _, _, _, _]) (R := [_, _, _, _, _, _, _]) (new := [_, _, _, _, _]) rfl rfl rfl Try.sizeOf38 rfl (by simp [Value.oneCell']) rfl rfl rfl rfl rfl rfl ?_
     refine HA_back (listed' := #[true, true, true, true, true, true, true, true, true, true, true, true, false]) rfl (fun _ hA => hA.keep (m := [nn, nn, nn, nn, yy, yy, yy, yy]) (Y := [_, _, _, _]) rfl) ?_
     refine HA_loud1 (i := 12) (by kernel_rfl) rfl ?_
     refine HO_store (i := 1) (j := 0) (us := []) (old := [_, _, _, _, _]) (ts := []) (cs := [_, _, _, _, _]) (R := [_, _, _, _, _, _, _]) (new := [_, _, _, _, _]) rfl rfl rfl Try.sizeOf38 rfl (by simp [Value.oneCell']) rfl rfl rfl rfl rfl rfl ?_
     refine HA_back (listed' := #[true, true, true, true, true, true, true, true, true, true, true, true, true]) rfl (fun _ hA => hA.keep (m := [nn, nn, nn, nn, yy, yy, yy, yy]) (Y := [_, _, _, _]) rfl) ?_
     refine HA_done (by kernel_rfl) ?_
     refine H_env (ρ' := [(10, _), (9, _), (8, _), (7, _), (4, _), (2, _)]) ⟨rfl, rfl, rfl, rfl, rfl, rfl, trivial⟩ ?_
     refine H_inv (fun a w hf hA => ⟨⟨g7, y32.1.1, y32.1.2, y32.2.1, y32.2.2, g9, y36, g10, y41⟩, ?_, hf.sub ?_, ?_⟩)
     ·trivial
     ·exact ⟨rfl, rfl, rfl, rfl, rfl, rfl, trivial⟩
     ·exact hA.only (is := [0, 0, 1, 2, 0, 1, 0, 2]) (Z := []) rfl
    ·refine HO_alloc (cs := [_, _, _, _, _]) rfl rfl Try.zeroValue38 rfl ?_
     intro g10
     refine HA_back (listed' := #[true, true, true, true, true, true, true, true, false, true, true, false, false]) rfl (fun _ hA => hA.keep (m := [nn, nn, nn, yy, yy, yy, yy]) (Y := [_, _, _, _]) rfl) ?_
     refine HA_loud1 (i := 8) (by kernel_rfl) rfl ?_
     refine HO_dup (i := 4) rfl rfl ?_
     refine HO_call (first := []) (capt := []) (is := [0]) (R := [_, _, _, _, _, _, _]) rfl rfl rfl rfl rfl Try.call30 rfl (lget_spec _ _ _ _ _ _ _ ?_ ?_ ?_) ?_
     ·exact Mod.Inv.fold.ps
     ·exact Mod.Inv.fold.pl
     ·exact sk
     intro y41 hy41
     refine HA_back (listed' := #[true, true, true, true, true, true, true, true, true, true, true, false, false]) rfl (fun _ hA => hA.keep (m := [nn, nn, nn, nn, yy, yy, yy, yy]) (Y := [_, _, _, _]) rfl) ?_
     refine HA_loud1 (i := 11) (by kernel_rfl) rfl ?_
     refine HO_store (i := 2) (j := 0) (us := []) (old := [_, _, _, _, _]) (ts := []) (cs := [_, _, _, _, _]) (R := [_, _, _, _, _, _, _]) (new := [_, _, _, _, _]) rfl rfl rfl Try.sizeOf38 rfl (by simp [Value.oneCell']) rfl rfl rfl rfl rfl rfl ?_
     refine HA_back (listed' := #[true, true, true, true, true, true, true, true, true, true, true, true, false]) rfl (fun _ hA => hA.keep (m := [nn, nn, nn, nn, yy, yy, yy, yy]) (Y := [_, _, _, _]) rfl) ?_
     refine HA_loud1 (i := 12) (by kernel_rfl) rfl ?_
     refine HO_store (i := 2) (j := 0) (us := []) (old := [_, _, _, _, _]) (ts := []) (cs := [_, _, _, _, _]) (R := [_, _, _, _, _, _, _]) (new := [_, _, _, _, _]) rfl rfl rfl Try.sizeOf38 rfl (by simp [Value.oneCell']) rfl rfl rfl rfl rfl rfl ?_
     refine HA_back (listed' := #[true, true, true, true, true, true, true, true, true, true, true, true, true]) rfl (fun _ hA => hA.keep (m := [nn, nn, nn, nn, yy, yy, yy, yy]) (Y := [_, _, _, _]) rfl) ?_
     refine HA_done (by kernel_rfl) ?_
     refine H_env (ρ' := [(10, _), (9, _), (8, _), (7, _), (4, _), (2, _)]) ⟨rfl, rfl, rfl, rfl, rfl, rfl, trivial⟩ ?_
     refine H_inv (fun a w hf hA => ⟨⟨g7, y32.1.1, y32.1.2, y32.2.1, y32.2.2, g9, y36, g10, y41⟩, ?_, hf.sub ?_, ?_⟩)
     ·trivial
     ·exact ⟨rfl, rfl, rfl, rfl, rfl, rfl, trivial⟩
     ·exact hA.only (is := [0, 0, 1, 2, 0, 1, 0, 2]) (Z := []) rfl
   ·refine HO_alloc (cs := [_, _, _, _, _]) rfl rfl Try.zeroValue38 rfl ?_
    intro g10
    refine HA_back (listed' := #[true, true, true, true, true, true, true, true, false, false, true, false, false]) rfl (fun _ hA => hA.keep (m := [nn, nn, yy, yy, yy, yy]) (Y := [_, _, _, _]) rfl) ?_
    refine HA_loud2 (i := 8) (j := 9) (by kernel_rfl) rfl rfl ?_ ?_
    ·refine HO_dup (i := 3) rfl rfl ?_
     refine HO_call (first := []) (capt := []) (is := [0]) (R := [_, _, _, _, _, _]) rfl rfl rfl rfl rfl Try.call30 rfl (lget_spec _ _ _ _ _ _ _ ?_ ?_ ?_) ?_
     ·exact Mod.Inv.fold.ps
     ·exact Mod.Inv.fold.pl
     ·exact sk
     intro y41 hy41
     refine HA_back (listed' := #[true, true, true, true, true, true, true, true, true, false, true, false, false]) rfl (fun _ hA => hA.keep (m := [nn, nn, nn, yy, yy, yy, yy]) (Y := [_, _, _, _]) rfl) ?_
     refine HA_loud1 (i := 9) (by kernel_rfl) rfl ?_
     refine HO_alloc (cs := [_, _, _, _, _]) rfl rfl Try.zeroValue38 rfl ?_
     intro g9
     refine HA_back (listed' := #[true, true, true, true, true, true, true, true, true, true, true, false, false]) rfl (fun _ hA => hA.keep (m := [nn, nn, nn, nn, yy, yy, yy, yy]) (Y := [_, _, _, _]) rfl) ?_
     refine HA_loud1 (i := 11) (by kernel_rfl) rfl ?_
     refine HO_store (i := 0) (j := 0) (us := []) (old := [_, _, _, _, _]) (ts := []) (cs := [_, _, _, _, _]) (R := [_, _, _, _, _, _, _]) (new := [_, _, _, _, _]) rfl rfl rfl Try.sizeOf38 rfl (by simp [Value.oneCell']) rfl rfl rfl rfl rfl rfl ?_
     refine HA_back (listed' := #[true, true, true, true, true, true, true, true, true, true, true, true, false]) rfl (fun _ hA => hA.keep (m := [nn, nn, nn, nn, yy, yy, yy, yy]) (Y := [_, _, _, _]) rfl) ?_
     refine HA_loud1 (i := 12) (by kernel_rfl) rfl ?_
     refine HO_store (i := 2) (j := 0) (us := []) (old := [_, _, _, _, _]) (ts := []) (cs := [_, _, _, _, _]) (R := [_, _, _, _, _, _, _]) (new := [_, _, _, _, _]) rfl rfl rfl Try.sizeOf38 rfl (by simp [Value.oneCell']) rfl rfl rfl rfl rfl rfl ?_
     refine HA_back (listed' := #[true, true, true, true, true, true, true, true, true, true, true, true, true]) rfl (fun _ hA => hA.keep (m := [nn, nn, nn, nn, yy, yy, yy, yy]) (Y := [_, _, _, _]) rfl) ?_
     refine HA_done (by kernel_rfl) ?_
     refine H_env (ρ' := [(9, _), (10, _), (8, _), (7, _), (4, _), (2, _)]) ⟨rfl, rfl, rfl, rfl, rfl, rfl, trivial⟩ ?_
     refine H_inv (fun a w hf hA => ⟨⟨g7, y32.1.1, y32.1.2, y32.2.1, y32.2.2, g9, y36, g10, y41⟩, ?_, hf.sub ?_, ?_⟩)
     ·trivial
     ·exact ⟨rfl, rfl, rfl, rfl, rfl, rfl, trivial⟩
     ·exact hA.only (is := [0, 0, 1, 2, 0, 1, 0, 2]) (Z := []) rfl
    ·refine HO_alloc (cs := [_, _, _, _, _]) rfl rfl Try.zeroValue38 rfl ?_
     intro g9
     refine HA_back (listed' := #[true, true, true, true, true, true, true, true, false, true, true, false, false]) rfl (fun _ hA => hA.keep (m := [nn, nn, nn, yy, yy, yy, yy]) (Y := [_, _, _, _]) rfl) ?_
     refine HA_loud1 (i := 8) (by kernel_rfl) rfl ?_
     refine HO_dup (i := 4) rfl rfl ?_
     refine HO_call (first := []) (capt := []) (is := [0]) (R := [_, _, _, _, _, _, _]) rfl rfl rfl rfl rfl Try.call30 rfl (lget_spec _ _ _ _ _ _ _ ?_ ?_ ?_) ?_
     ·exact Mod.Inv.fold.ps
     ·exact Mod.Inv.fold.pl
     ·exact sk
     intro y41 hy41
     refine HA_back (listed' := #[true, true, true, true, true, true, true, true, true, true, true, false, false]) rfl (fun _ hA => hA.keep (m := [nn, nn, nn, nn, yy, yy, yy, yy]) (Y := [_, _, _, _]) rfl) ?_
     refine HA_loud1 (i := 11) (by kernel_rfl) rfl ?_
     refine HO_store (i := 1) (j := 0) (us := []) (old := [_, _, _, _, _]) (ts := []) (cs := [_, _, _, _, _]) (R := [_, _, _, _, _, _, _]) (new := [_, _, _, _, _]) rfl rfl rfl Try.sizeOf38 rfl (by simp [Value.oneCell']) rfl rfl rfl rfl rfl rfl ?_
     refine HA_back (listed' := #[true, true, true, true, true, true, true, true, true, true, true, true, false]) rfl (fun _ hA => hA.keep (m := [nn, nn, nn, nn, yy, yy, yy, yy]) (Y := [_, _, _, _]) rfl) ?_
     refine HA_loud1 (i := 12) (by kernel_rfl) rfl ?_
     refine HO_store (i := 2) (j := 0) (us := []) (old := [_, _, _, _, _]) (ts := []) (cs := [_, _, _, _, _]) (R := [_, _, _, _, _, _, _]) (new := [_, _, _, _, _]) rfl rfl rfl Try.sizeOf38 rfl (by simp [Value.oneCell']) rfl rfl rfl rfl rfl rfl ?_
     refine HA_back (listed' := #[true, true, true, true, true, true, true, true, true, true, true, true, true]) rfl (fun _ hA => hA.keep (m := [nn, nn, nn, nn, yy, yy, yy, yy]) (Y := [_, _, _, _]) rfl) ?_
     refine HA_done (by kernel_rfl) ?_
     refine H_env (ρ' := [(9, _), (10, _), (8, _), (7, _), (4, _), (2, _)]) ⟨rfl, rfl, rfl, rfl, rfl, rfl, trivial⟩ ?_
     refine H_inv (fun a w hf hA => ⟨⟨g7, y32.1.1, y32.1.2, y32.2.1, y32.2.2, g9, y36, g10, y41⟩, ?_, hf.sub ?_, ?_⟩)
     ·trivial
     ·exact ⟨rfl, rfl, rfl, rfl, rfl, rfl, trivial⟩
     ·exact hA.only (is := [0, 0, 1, 2, 0, 1, 0, 2]) (Z := []) rfl
  ·refine HO_alloc (cs := [_, _, _, _, _]) rfl rfl Try.zeroValue38 rfl ?_
   intro g9
   refine HA_back (listed' := #[true, true, true, false, true, true, true, true, false, true, false, false, false]) rfl (fun _ hA => hA.keep (m := [nn, yy, yy, yy, yy]) (Y := [_, _, _, _]) rfl) ?_
   refine HA_loud2 (i := 3) (j := 10) (by kernel_rfl) rfl rfl ?_ ?_
   ·refine HO_dup (i := 2) rfl rfl ?_
    refine HO_call (first := []) (capt := []) (is := [0]) (R := [_, _, _, _, _]) rfl rfl rfl rfl rfl Try.call30 rfl (lget_spec _ _ _ _ _ _ _ ?_ ?_ ?_) ?_
    ·exact Mod.Inv.fold.ps
    ·exact Mod.Inv.fold.pl
    ·exact sy
    intro y36 hy36
    refine HA_back (listed' := #[true, true, true, true, true, true, true, true, false, true, false, false, false]) rfl (fun _ hA => hA.keep (m := [nn, nn, yy, yy, yy, yy]) (Y := [_, _, _, _]) rfl) ?_
    refine HA_loud2 (i := 8) (j := 10) (by kernel_rfl) rfl rfl ?_ ?_
    ·refine HO_dup (i := 3) rfl rfl ?_
     refine HO_call (first := []) (capt := []) (is := [0]) (R := [_, _, _, _, _, _]) rfl rfl rfl rfl rfl Try.call30 rfl (lget_spec _ _ _ _ _ _ _ ?_ ?_ ?_) ?_
     ·exact Mod.Inv.fold.ps
     ·exact Mod.Inv.fold.pl
     ·exact sk
     intro y41 hy41
     refine HA_back (listed' := #[true, true, true, true, true, true, true, true, true, true, false, false, false]) rfl (fun _ hA => hA.keep (m := [nn, nn, nn, yy, yy, yy, yy]) (Y := [_, _, _, _]) rfl) ?_
     refine HA_loud1 (i := 10) (by kernel_rfl) rfl ?_
     refine HO_alloc (cs := [_, _, _, _, _]) rfl rfl Try.zeroValue38 rfl ?_
     intro g10
     refine HA_back (listed' := #[true, true, true, true, true, true, true, true, true, true, true, false, false]) rfl (fun _ hA => hA.keep (m := [nn, nn, nn, nn, yy, yy, yy, yy]) (Y := [_, _, _, _]) rfl) ?_
     refine HA_loud1 (i := 11) (by kernel_rfl) rfl ?_
     refine HO_store (i := 3) (j := 0) (us := []) (old := [_, _, _, _, _]) (ts := []) (cs := [_, _, _, _, _]) (R := [_, _, _, _, _, _, _]) (new := [_, _, _, _, _]) rfl rfl rfl Try.sizeOf38 rfl (by simp [Value.oneCell']) rfl rfl rfl rfl rfl rfl ?_
     refine HA_back (listed' := #[true, true, true, true, true, true, true, true, true, true, true, true, false]) rfl (fun _ hA => hA.keep (m := [nn, nn, nn, nn, yy, yy, yy, yy]) (Y := [_, _, _, _]) rfl) ?_
     refine HA_loud1 (i := 12) (by kernel_rfl) rfl ?_
     refine HO_store (i := 1) (j := 0) (us := []) (old := [_, _, _, _, _]) (ts := []) (cs := [_, _, _, _, _]) (R := [_, _, _, _, _, _, _]) (new := [_, _, _, _, _]) rfl rfl rfl Try.sizeOf38 rfl (by simp [Value.oneCell']) rfl rfl rfl rfl rfl rfl ?_
     refine HA_back (listed' := #[true, true, true, true, true, true, true, true, true, true, true, true, true]) rfl (fun _ hA => hA.keep (m := [nn, nn, nn, nn, yy, yy, yy, yy]) (Y := [_, _, _, _]) rfl) ?_
     refine HA_done (by kernel_rfl) ?_
     refine H_env (ρ' := [(10, _), (9, _), (8, _), (7, _), (4, _), (2, _)]) ⟨rfl, rfl, rfl, rfl, rfl, rfl, trivial⟩ ?_
     refine H_inv (fun a w hf hA => ⟨⟨g7, y32.1.1, y32.1.2, y32.2.1, y32.2.2, g9, y36, g10, y41⟩, ?_, hf.sub ?_, ?_⟩)
     ·trivial
     ·exact ⟨rfl, rfl, rfl, rfl, rfl, rfl, trivial⟩
     ·exact hA.only (is := [0, 0, 1, 2, 0, 1, 0, 2]) (Z := []) rfl
    ·refine HO_alloc (cs := [_, _, _, _, _]) rfl rfl Try.zeroValue38 rfl ?_
     intro g10
     refine HA_back (listed' := #[true, true, true, true, true, true, true, true, false, true, true, false, false]) rfl (fun _ hA => hA.keep (m := [nn, nn, nn, yy, yy, yy, yy]) (Y := [_, _, _, _]) rfl) ?_
     refine HA_loud1 (i := 8) (by kernel_rfl) rfl ?_
     refine HO_dup (i := 4) rfl rfl ?_
     refine HO_call (first := []) (capt := []) (is := [0]) (R := [_, _, _, _, _, _, _]) rfl rfl rfl rfl rfl Try.call30 rfl (lget_spec _ _ _ _ _ _ _ ?_ ?_ ?_) ?_
     ·exact Mod.Inv.fold.ps
     ·exact Mod.Inv.fold.pl
     ·exact sk
     intro y41 hy41
     refine HA_back (listed' := #[true, true, true, true, true, true, true, true, true, true, true, false, false]) rfl (fun _ hA => hA.keep (m := [nn, nn, nn, nn, yy, yy, yy, yy]) (Y := [_, _, _, _]) rfl) ?_
     refine HA_loud1 (i := 11) (by kernel_rfl) rfl ?_
     refine HO_store (i := 3) (j := 0) (us := []) (old := [_, _, _, _, _]) (ts := []) (cs := [_, _, _, _, _]) (R := [_, _, _, _, _, _, _]) (new := [_, _, _, _, _]) rfl rfl rfl Try.sizeOf38 rfl (by simp [Value.oneCell']) rfl rfl rfl rfl rfl rfl ?_
     refine HA_back (listed' := #[true, true, true, true, true, true, true, true, true, true, true, true, false]) rfl (fun _ hA => hA.keep (m := [nn, nn, nn, nn, yy, yy, yy, yy]) (Y := [_, _, _, _]) rfl) ?_
     refine HA_loud1 (i := 12) (by kernel_rfl) rfl ?_
     refine HO_store (i := 2) (j := 0) (us := []) (old := [_, _, _, _, _]) (ts := []) (cs := [_, _, _, _, _]) (R := [_, _, _, _, _, _, _]) (new := [_, _, _, _, _]) rfl rfl rfl Try.sizeOf38 rfl (by simp [Value.oneCell']) rfl rfl rfl rfl rfl rfl ?_
     refine HA_back (listed' := #[true, true, true, true, true, true, true, true, true, true, true, true, true]) rfl (fun _ hA => hA.keep (m := [nn, nn, nn, nn, yy, yy, yy, yy]) (Y := [_, _, _, _]) rfl) ?_
     refine HA_done (by kernel_rfl) ?_
     refine H_env (ρ' := [(10, _), (9, _), (8, _), (7, _), (4, _), (2, _)]) ⟨rfl, rfl, rfl, rfl, rfl, rfl, trivial⟩ ?_
     refine H_inv (fun a w hf hA => ⟨⟨g7, y32.1.1, y32.1.2, y32.2.1, y32.2.2, g9, y36, g10, y41⟩, ?_, hf.sub ?_, ?_⟩)
     ·trivial
     ·exact ⟨rfl, rfl, rfl, rfl, rfl, rfl, trivial⟩
     ·exact hA.only (is := [0, 0, 1, 2, 0, 1, 0, 2]) (Z := []) rfl
   ·refine HO_alloc (cs := [_, _, _, _, _]) rfl rfl Try.zeroValue38 rfl ?_
    intro g10
    refine HA_back (listed' := #[true, true, true, false, true, true, true, true, false, true, true, false, false]) rfl (fun _ hA => hA.keep (m := [nn, nn, yy, yy, yy, yy]) (Y := [_, _, _, _]) rfl) ?_
    refine HA_loud1 (i := 3) (by kernel_rfl) rfl ?_
    refine HO_dup (i := 3) rfl rfl ?_
    refine HO_call (first := []) (capt := []) (is := [0]) (R := [_, _, _, _, _, _]) rfl rfl rfl rfl rfl Try.call30 rfl (lget_spec _ _ _ _ _ _ _ ?_ ?_ ?_) ?_
    ·exact Mod.Inv.fold.ps
    ·exact Mod.Inv.fold.pl
    ·exact sy
    intro y36 hy36
    refine HA_back (listed' := #[true, true, true, true, true, true, true, true, false, true, true, false, false]) rfl (fun _ hA => hA.keep (m := [nn, nn, nn, yy, yy, yy, yy]) (Y := [_, _, _, _]) rfl) ?_
    refine HA_loud1 (i := 8) (by kernel_rfl) rfl ?_
    refine HO_dup (i := 4) rfl rfl ?_
    refine HO_call (first := []) (capt := []) (is := [0]) (R := [_, _, _, _, _, _, _]) rfl rfl rfl rfl rfl Try.call30 rfl (lget_spec _ _ _ _ _ _ _ ?_ ?_ ?_) ?_
    ·exact Mod.Inv.fold.ps
    ·exact Mod.Inv.fold.pl
    ·exact sk
    intro y41 hy41
    refine HA_back (listed' := #[true, true, true, true, true, true, true, true, true, true, true, false, false]) rfl (fun _ hA => hA.keep (m := [nn, nn, nn, nn, yy, yy, yy, yy]) (Y := [_, _, _, _]) rfl) ?_
    refine HA_loud1 (i := 11) (by kernel_rfl) rfl ?_
    refine HO_store (i := 3) (j := 0) (us := []) (old := [_, _, _, _, _]) (ts := []) (cs := [_, _, _, _, _]) (R := [_, _, _, _, _, _, _]) (new := [_, _, _, _, _]) rfl rfl rfl Try.sizeOf38 rfl (by simp [Value.oneCell']) rfl rfl rfl rfl rfl rfl ?_
    refine HA_back (listed' := #[true, true, true, true, true, true, true, true, true, true, true, true, false]) rfl (fun _ hA => hA.keep (m := [nn, nn, nn, nn, yy, yy, yy, yy]) (Y := [_, _, _, _]) rfl) ?_
    refine HA_loud1 (i := 12) (by kernel_rfl) rfl ?_
    refine HO_store (i := 3) (j := 0) (us := []) (old := [_, _, _, _, _]) (ts := []) (cs := [_, _, _, _, _]) (R := [_, _, _, _, _, _, _]) (new := [_, _, _, _, _]) rfl rfl rfl Try.sizeOf38 rfl (by simp [Value.oneCell']) rfl rfl rfl rfl rfl rfl ?_
    refine HA_back (listed' := #[true, true, true, true, true, true, true, true, true, true, true, true, true]) rfl (fun _ hA => hA.keep (m := [nn, nn, nn, nn, yy, yy, yy, yy]) (Y := [_, _, _, _]) rfl) ?_
    refine HA_done (by kernel_rfl) ?_
    refine H_env (ρ' := [(10, _), (9, _), (8, _), (7, _), (4, _), (2, _)]) ⟨rfl, rfl, rfl, rfl, rfl, rfl, trivial⟩ ?_
    refine H_inv (fun a w hf hA => ⟨⟨g7, y32.1.1, y32.1.2, y32.2.1, y32.2.2, g9, y36, g10, y41⟩, ?_, hf.sub ?_, ?_⟩)
    ·trivial
    ·exact ⟨rfl, rfl, rfl, rfl, rfl, rfl, trivial⟩
    ·exact hA.only (is := [0, 0, 1, 2, 0, 1, 0, 2]) (Z := []) rfl
  ·refine HO_alloc (cs := [_, _, _, _, _]) rfl rfl Try.zeroValue38 rfl ?_
   intro g10
   refine HA_back (listed' := #[true, true, true, false, true, true, true, true, false, false, true, false, false]) rfl (fun _ hA => hA.keep (m := [nn, yy, yy, yy, yy]) (Y := [_, _, _, _]) rfl) ?_
   refine HA_loud2 (i := 3) (j := 9) (by kernel_rfl) rfl rfl ?_ ?_
   ·refine HO_dup (i := 2) rfl rfl ?_
    refine HO_call (first := []) (capt := []) (is := [0]) (R := [_, _, _, _, _]) rfl rfl rfl rfl rfl Try.call30 rfl (lget_spec _ _ _ _ _ _ _ ?_ ?_ ?_) ?_
    ·exact Mod.Inv.fold.ps
    ·exact Mod.Inv.fold.pl
    ·exact sy
    intro y36 hy36
    refine HA_back (listed' := #[true, true, true, true, true, true, true, true, false, false, true, false, false]) rfl (fun _ hA => hA.keep (m := [nn, nn, yy, yy, yy, yy]) (Y := [_, _, _, _]) rfl) ?_
    refine HA_loud2 (i := 8) (j := 9) (by kernel_rfl) rfl rfl ?_ ?_
    ·refine HO_dup (i := 3) rfl rfl ?_
     refine HO_call (first := []) (capt := []) (is := [0]) (R := [_, _, _, _, _, _]) rfl rfl rfl rfl rfl Try.call30 rfl (lget_spec _ _ _ _ _ _ _ ?_ ?_ ?_) ?_
     ·exact Mod.Inv.fold.ps
     ·exact Mod.Inv.fold.pl
     ·exact sk
     intro y41 hy41
     refine HA_back (listed' := #[true, true, true, true, true, true, true, true, true, false, true, false, false]) rfl (fun _ hA => hA.keep (m := [nn, nn, nn, yy, yy, yy, yy]) (Y := [_, _, _, _]) rfl) ?_
     refine HA_loud1 (i := 9) (by kernel_rfl) rfl ?_
     refine HO_alloc (cs := [_, _, _, _, _]) rfl rfl Try.zeroValue38 rfl ?_
     intro g9
     refine HA_back (listed' := #[true, true, true, true, true, true, true, true, true, true, true, false, false]) rfl (fun _ hA => hA.keep (m := [nn, nn, nn, nn, yy, yy, yy, yy]) (Y := [_, _, _, _]) rfl) ?_
     refine HA_loud1 (i := 11) (by kernel_rfl) rfl ?_
     refine HO_store (i := 0) (j := 0) (us := []) (old := [_, _, _, _, _]) (ts := []) (cs := [_, _, _, _, _]) (R := [_, _, _, _, _, _, _]) (new := [_, _, _, _, _]) rfl rfl rfl Try.sizeOf38 rfl (by simp [Value.oneCell']) rfl rfl rfl rfl rfl rfl ?_
     refine HA_back (listed' := #[true, true, true, true, true, true, true, true, true, true, true, true, false]) rfl (fun _ hA => hA.keep (m := [nn, nn, nn, nn, yy, yy, yy, yy]) (Y := [_, _, _, _]) rfl) ?_
     refine HA_loud1 (i := 12) (by kernel_rfl) rfl ?_
     refine HO_store (i := 3) (j := 0) (us := []) (old := [_, _, _, _, _]) (ts := []) (cs := [_, _, _, _, _]) (R := [_, _, _, _, _, _, _]) (new := [_, _, _, _, _]) rfl rfl rfl Try.sizeOf38 rfl (by simp [Value.oneCell']) rfl rfl rfl rfl rfl rfl ?_
     refine HA_back (listed' := #[true, true, true, true, true, true, true, true, true, true, true, true, true]) rfl (fun _ hA => hA.keep (m := [nn, nn, nn, nn, yy, yy, yy, yy]) (Y := [_, _, _, _]) rfl) ?_
     refine HA_done (by kernel_rfl) ?_
     refine H_env (ρ' := [(9, _), (10, _), (8, _), (7, _), (4, _), (2, _)]) ⟨rfl, rfl, rfl, rfl, rfl, rfl, trivial⟩ ?_
     refine H_inv (fun a w hf hA => ⟨⟨g7, y32.1.1, y32.1.2, y32.2.1, y32.2.2, g9, y36, g10, y41⟩, ?_, hf.sub ?_, ?_⟩)
     ·trivial
     ·exact ⟨rfl, rfl, rfl, rfl, rfl, rfl, trivial⟩
     ·exact hA.only (is := [0, 0, 1, 2, 0, 1, 0, 2]) (Z := []) rfl
    ·refine HO_alloc (cs := [_, _, _, _, _]) rfl rfl Try.zeroValue38 rfl ?_
     intro g9
     refine HA_back (listed' := #[true, true, true, true, true, true, true, true, false, true, true, false, false]) rfl (fun _ hA => hA.keep (m := [nn, nn, nn, yy, yy, yy, yy]) (Y := [_, _, _, _]) rfl) ?_
     refine HA_loud1 (i := 8) (by kernel_rfl) rfl ?_
     refine HO_dup (i := 4) rfl rfl ?_
     refine HO_call (first := []) (capt := []) (is := [0]) (R := [_, _, _, _, _, _, _]) rfl rfl rfl rfl rfl Try.call30 rfl (lget_spec _ _ _ _ _ _ _ ?_ ?_ ?_) ?_
     ·exact Mod.Inv.fold.ps
     ·exact Mod.Inv.fold.pl
     ·exact sk
     intro y41 hy41
     refine HA_back (listed' := #[true, true, true, true, true, true, true, true, true, true, true, false, false]) rfl (fun _ hA => hA.keep (m := [nn, nn, nn, nn, yy, yy, yy, yy]) (Y := [_, _, _, _]) rfl) ?_
     refine HA_loud1 (i := 11) (by kernel_rfl) rfl ?_
     refine HO_store (i := 1) (j := 0) (us := []) (old := [_, _, _, _, _]) (ts := []) (cs := [_, _, _, _, _]) (R := [_, _, _, _, _, _, _]) (new := [_, _, _, _, _]) rfl rfl rfl Try.sizeOf38 rfl (by simp [Value.oneCell']) rfl rfl rfl rfl rfl rfl ?_
     refine HA_back (listed' := #[true, true, true, true, true, true, true, true, true, true, true, true, false]) rfl (fun _ hA => hA.keep (m := [nn, nn, nn, nn, yy, yy, yy, yy]) (Y := [_, _, _, _]) rfl) ?_
     refine HA_loud1 (i := 12) (by kernel_rfl) rfl ?_
     refine HO_store (i := 3) (j := 0) (us := []) (old := [_, _, _, _, _]) (ts := []) (cs := [_, _, _, _, _]) (R := [_, _, _, _, _, _, _]) (new := [_, _, _, _, _]) rfl rfl rfl Try.sizeOf38 rfl (by simp [Value.oneCell']) rfl rfl rfl rfl rfl rfl ?_
     refine HA_back (listed' := #[true, true, true, true, true, true, true, true, true, true, true, true, true]) rfl (fun _ hA => hA.keep (m := [nn, nn, nn, nn, yy, yy, yy, yy]) (Y := [_, _, _, _]) rfl) ?_
     refine HA_done (by kernel_rfl) ?_
     refine H_env (ρ' := [(9, _), (10, _), (8, _), (7, _), (4, _), (2, _)]) ⟨rfl, rfl, rfl, rfl, rfl, rfl, trivial⟩ ?_
     refine H_inv (fun a w hf hA => ⟨⟨g7, y32.1.1, y32.1.2, y32.2.1, y32.2.2, g9, y36, g10, y41⟩, ?_, hf.sub ?_, ?_⟩)
     ·trivial
     ·exact ⟨rfl, rfl, rfl, rfl, rfl, rfl, trivial⟩
     ·exact hA.only (is := [0, 0, 1, 2, 0, 1, 0, 2]) (Z := []) rfl
   ·refine HO_alloc (cs := [_, _, _, _, _]) rfl rfl Try.zeroValue38 rfl ?_
    intro g9
    refine HA_back (listed' := #[true, true, true, false, true, true, true, true, false, true, true, false, false]) rfl (fun _ hA => hA.keep (m := [nn, nn, yy, yy, yy, yy]) (Y := [_, _, _, _]) rfl) ?_
    refine HA_loud1 (i := 3) (by kernel_rfl) rfl ?_
    refine HO_dup (i := 3) rfl rfl ?_
    refine HO_call (first := []) (capt := []) (is := [0]) (R := [_, _, _, _, _, _]) rfl rfl rfl rfl rfl Try.call30 rfl (lget_spec _ _ _ _ _ _ _ ?_ ?_ ?_) ?_
    ·exact Mod.Inv.fold.ps
    ·exact Mod.Inv.fold.pl
    ·exact sy
    intro y36 hy36
    refine HA_back (listed' := #[true, true, true, true, true, true, true, true, false, true, true, false, false]) rfl (fun _ hA => hA.keep (m := [nn, nn, nn, yy, yy, yy, yy]) (Y := [_, _, _, _]) rfl) ?_
    refine HA_loud1 (i := 8) (by kernel_rfl) rfl ?_
    refine HO_dup (i := 4) rfl rfl ?_
    refine HO_call (first := []) (capt := []) (is := [0]) (R := [_, _, _, _, _, _, _]) rfl rfl rfl rfl rfl Try.call30 rfl (lget_spec _ _ _ _ _ _ _ ?_ ?_ ?_) ?_
    ·exact Mod.Inv.fold.ps
    ·exact Mod.Inv.fold.pl
    ·exact sk
    intro y41 hy41
    refine HA_back (listed' := #[true, true, true, true, true, true, true, true, true, true, true, false, false]) rfl (fun _ hA => hA.keep (m := [nn, nn, nn, nn, yy, yy, yy, yy]) (Y := [_, _, _, _]) rfl) ?_
    refine HA_loud1 (i := 11) (by kernel_rfl) rfl ?_
    refine HO_store (i := 2) (j := 0) (us := []) (old := [_, _, _, _, _]) (ts := []) (cs := [_, _, _, _, _]) (R := [_, _, _, _, _, _, _]) (new := [_, _, _, _, _]) rfl rfl rfl Try.sizeOf38 rfl (by simp [Value.oneCell']) rfl rfl rfl rfl rfl rfl ?_
    refine HA_back (listed' := #[true, true, true, true, true, true, true, true, true, true, true, true, false]) rfl (fun _ hA => hA.keep (m := [nn, nn, nn, nn, yy, yy, yy, yy]) (Y := [_, _, _, _]) rfl) ?_
    refine HA_loud1 (i := 12) (by kernel_rfl) rfl ?_
    refine HO_store (i := 3) (j := 0) (us := []) (old := [_, _, _, _, _]) (ts := []) (cs := [_, _, _, _, _]) (R := [_, _, _, _, _, _, _]) (new := [_, _, _, _, _]) rfl rfl rfl Try.sizeOf38 rfl (by simp [Value.oneCell']) rfl rfl rfl rfl rfl rfl ?_
    refine HA_back (listed' := #[true, true, true, true, true, true, true, true, true, true, true, true, true]) rfl (fun _ hA => hA.keep (m := [nn, nn, nn, nn, yy, yy, yy, yy]) (Y := [_, _, _, _]) rfl) ?_
    refine HA_done (by kernel_rfl) ?_
    refine H_env (ρ' := [(9, _), (10, _), (8, _), (7, _), (4, _), (2, _)]) ⟨rfl, rfl, rfl, rfl, rfl, rfl, trivial⟩ ?_
    refine H_inv (fun a w hf hA => ⟨⟨g7, y32.1.1, y32.1.2, y32.2.1, y32.2.2, g9, y36, g10, y41⟩, ?_, hf.sub ?_, ?_⟩)
    ·trivial
    ·exact ⟨rfl, rfl, rfl, rfl, rfl, rfl, trivial⟩
    ·exact hA.only (is := [0, 0, 1, 2, 0, 1, 0, 2]) (Z := []) rfl
 rintro ⟨g7, p1, q1, p2, q2, g9, u9, g10, u10⟩ hJ
 (try dsimp only at hJ ⊢)
 refine H_seq ?_
 refine H_seq ?_
 refine H_region (l := [_, _, _, _]) rfl ?_
 refine HO_fieldAddr (r := 1) rfl rfl rfl Try.underlying56 rfl Try.sizeOf54 rfl ?_
 refine HO_load1 (i := 1) (j := 1) rfl rfl rfl Try.isAgg54 rfl (.loc _ _ _) rfl rfl ?_
 refine HO_bi rfl rfl rfl (bi_len_sl Try.underlying54) ?_
 refine HO_bin rfl rfl rfl rfl bin_eql ?_
 refine HO_nil ?_
 refine H_env (ρ' := [(45, _), (2, _), (4, _), (7, _), (8, _), (9, _), (10, _)]) ⟨rfl, rfl, rfl, rfl, rfl, rfl, rfl, trivial⟩ ?_
 refine H_cond rfl ?_ ?_
 ·intro h45
  replace h45 := dT h45
  refine H_seq ?_
  refine H_region (l := [_, _]) rfl ?_
  refine HO_call (first := []) (capt := []) (is := []) (R := [_, _, _, _, _, _, _, _]) rfl rfl rfl rfl rfl Try.call24 rfl lives20_spec ?_
  intro y46 hy46
  clear y46 hy46
  refine HO_assign rfl rfl rfl ?_
  refine HO_nil ?_
  refine H_env (ρ' := [(6, _)]) ⟨rfl, trivial⟩ ?_
  refine H_world (fun _ hA => hA.keep (m := [nn, nn, nn, nn, nn, nn, nn, nn]) (Y := []) rfl) ?_
  refine H_ret1 Try.results6 (.tmp rfl) (fun w hA => ⟨(), congrArg Ending.returned ?_, ?_, ?_⟩)
  ·(exact congrArg Value.bool (by first | rfl | assumption | simp_all))
  ·trivial
  ·exact hA.keep (m := []) (Y := []) rfl
 intro h45
 replace h45 := dF h45
 refine H_skip ?_
 refine H_seq ?_
 refine H_elem open_Sess (i := 3) (0) rfl (by omega) ?_
 intro be oe ze ye hae hze hIe
 cases hae
 (try simp only [BIG] at hIe)
 refine H_drawB (m := [yy, yy, nn, yy, yy, yy, yy, yy, yy, yy]) (Xs := [_, _, _, _, _, _, _, _, _]) (fuel := 15) (l := #[false, false, false, false, false, false, false, false, false, false, false, false, false, false, false]) mixed rfl rfl rfl ?_
 refine HA_take (i := 0) (listed' := #[true, false, false, false, false, false, false, false, false, false, false, false, false, false, false]) (bodyPost_pan _ _ _) rfl rfl rfl rfl (by kernel_rfl) rfl (V_fieldAddr (r := 1) rfl Try.underlying56 rfl Try.sizeOf54 rfl) (fun _ hA => hA.keep (m := [yy, yy, nn, yy, yy, yy, yy, yy, yy, yy]) (Y := [_, _, _, _, _, _, _, _, _]) rfl) ?_
 refine HA_take (i := 1) (listed' := #[true, true, false, false, false, false, false, false, false, false, false, false, false, false, false]) (bodyPost_pan _ _ _) rfl rfl rfl rfl (by kernel_rfl) rfl (V_load1 (i := 2) (j := 1) rfl Try.isAgg54 rfl (.loc _ _ _) rfl rfl) (fun _ hA => hA.keep (m := [yy, yy, nn, yy, yy, yy, yy, yy, yy, yy]) (Y := [_, _, _, _, _, _, _, _, _]) rfl) ?_
 refine HA_take (i := 2) (listed' := #[true, true, true, false, false, false, false, false, false, false, false, false, false, false, false]) (bodyPost_pan _ _ _) rfl rfl rfl rfl (by kernel_rfl) rfl (V_indexC (j := 0) rfl rfl rfl Try.underlying54 Try.sizeOf67 ?_ rfl) (fun _ hA => hA.keep (m := [yy, yy, nn, yy, yy, yy, yy, yy, yy, yy]) (Y := [_, _, _, _, _, _, _, _, _]) rfl) ?_
 ·omega
 refine HA_take (i := 3) (listed' := #[true, true, true, true, false, false, false, false, false, false, false, false, false, false, false]) (bodyPost_pan _ _ _) rfl rfl rfl rfl (by kernel_rfl) rfl (V_fieldAddr rfl Try.underlying67 rfl Try.sizeOf3 rfl) (fun _ hA => hA.keep (m := [yy, yy, nn, yy, yy, yy, yy, yy, yy, yy]) (Y := [_, _, _, _, _, _, _, _, _]) rfl) ?_
 refine HA_take (i := 4) (listed' := #[true, true, true, true, true, false, false, false, false, false, false, false, false, false, false]) (bodyPost_pan _ _ _) rfl rfl rfl rfl (by kernel_rfl) rfl (V_load1 (i := 0) (j := 0) rfl Try.isAgg3 rfl (.elem _ _ _) rfl rfl) (fun _ hA => hA.keep (m := [yy, yy, nn, yy, yy, yy, yy, yy, yy, yy]) (Y := [_, _, _, _, _, _, _, _, _]) rfl) ?_
 refine HA_take (i := 5) (listed' := #[true, true, true, true, true, true, false, false, false, false, false, false, false, false, false]) (bodyPost_pan _ _ _) rfl rfl rfl rfl (by kernel_rfl) rfl (V_fieldAddr (r := 1) rfl Try.underlying56 rfl Try.sizeOf54 rfl) (fun _ hA => hA.keep (m := [yy, yy, nn, yy, yy, yy, yy, yy, yy, yy]) (Y := [_, _, _, _, _, _, _, _, _]) rfl) ?_
 refine HA_take (i := 6) (listed' := #[true, true, true, true, true, true, true, false, false, false, false, false, false, false, false]) (bodyPost_pan _ _ _) rfl rfl rfl rfl (by kernel_rfl) rfl (V_load1 (i := 2) (j := 1) rfl Try.isAgg54 rfl (.loc _ _ _) rfl rfl) (fun _ hA => hA.keep (m := [yy, yy, nn, yy, yy, yy, yy, yy, yy, yy]) (Y := [_, _, _, _, _, _, _, _, _]) rfl) ?_
 refine HA_take (i := 7) (listed' := #[true, true, true, true, true, true, true, true, false, false, false, false, false, false, false]) (bodyPost_pan _ _ _) rfl rfl rfl rfl (by kernel_rfl) rfl (V_indexC (j := 0) rfl rfl rfl Try.underlying54 Try.sizeOf67 ?_ rfl) (fun _ hA => hA.keep (m := [yy, yy, nn, yy, yy, yy, yy, yy, yy, yy]) (Y := [_, _, _, _, _, _, _, _, _]) rfl) ?_
 ·omega
 refine HA_take (i := 8) (listed' := #[true, true, true, true, true, true, true, true, true, false, false, false, false, false, false]) (bodyPost_pan _ _ _) rfl rfl rfl rfl (by kernel_rfl) rfl (V_fieldAddr rfl Try.underlying67 rfl Try.sizeOf3 rfl) (fun _ hA => hA.keep (m := [yy, yy, nn, yy, yy, yy, yy, yy, yy, yy]) (Y := [_, _, _, _, _, _, _, _, _]) rfl) ?_
 refine HA_take (i := 9) (listed' := #[true, true, true, true, true, true, true, true, true, true, false, false, false, false, false]) (bodyPost_pan _ _ _) rfl rfl rfl rfl (by kernel_rfl) rfl (V_load1 (i := 0) (j := 1) rfl Try.isAgg3 rfl (.elem _ _ _) rfl rfl) (fun _ hA => hA.keep (m := [yy, yy, nn, yy, yy, yy, yy, yy, yy, yy]) (Y := [_, _, _, _, _, _, _, _, _]) rfl) ?_
 refine HA_take (i := 10) (listed' := #[true, true, true, true, true, true, true, true, true, true, true, false, false, false, false]) (bodyPost_pan _ _ _) rfl rfl rfl rfl (by kernel_rfl) rfl (V_bin rfl rfl bin_addw) (fun _ hA => hA.keep (m := [yy, yy, nn, yy, yy, yy, yy, yy, yy, yy]) (Y := [_, _, _, _, _, _, _, _, _]) rfl) ?_
 refine HA_take (i := 11) (listed' := #[true, true, true, true, true, true, true, true, true, true, true, true, false, false, false]) (bodyPost_pan _ _ _) rfl rfl rfl rfl (by kernel_rfl) rfl (V_fieldAddr (r := 1) rfl Try.underlying36 rfl Try.sizeOf3 rfl) (fun _ hA => hA.keep (m := [yy, yy, nn, yy, yy, yy, yy, yy, yy, yy]) (Y := [_, _, _, _, _, _, _, _, _]) rfl) ?_
 refine HA_loud1 (i := 12) (by kernel_rfl) rfl ?_
 refine HO_store (i := 2) (j := 0) (us := [_]) (old := [_]) (ts := [_, _, _, _, _, _]) (cs := [_]) (R := [_, _, _, _, _, _, _, _, _]) (new := [_, _, _, _, _, _, _, _]) rfl rfl rfl Try.sizeOf3 rfl (by simp [Value.oneCell']) rfl rfl rfl rfl rfl rfl ?_
 refine HA_back (listed' := #[true, true, true, true, true, true, true, true, true, true, true, true, true, false, false]) rfl (fun _ hA => hA.keep (m := [nn, yy, yy, yy, yy, yy, yy, yy, yy, yy]) (Y := [_, _, _, _, _, _, _, _, _]) rfl) ?_
 refine HA_take (i := 13) (listed' := #[true, true, true, true, true, true, true, true, true, true, true, true, true, true, false]) (bodyPost_pan _ _ _) rfl rfl rfl rfl (by kernel_rfl) rfl (V_fieldAddr (r := 2) rfl Try.underlying36 rfl Try.sizeOf3 rfl) (fun _ hA => hA.keep (m := [nn, yy, yy, yy, yy, yy, yy, yy, yy, yy]) (Y := [_, _, _, _, _, _, _, _, _]) rfl) ?_
 refine HA_loud1 (i := 14) (by kernel_rfl) rfl ?_
 refine HO_store (i := 0) (j := 0) (us := [_, _]) (old := [_]) (ts := [_, _, _, _, _]) (cs := [_]) (R := [_, _, _, _, _, _, _, _, _]) (new := [_, _, _, _, _, _, _, _]) rfl rfl rfl Try.sizeOf3 rfl (by simp [Value.oneCell']) rfl rfl rfl rfl rfl rfl ?_
 refine HA_back (listed' := #[true, true, true, true, true, true, true, true, true, true, true, true, true, true, true]) rfl (fun _ hA => hA.keep (m := [nn, yy, yy, yy, yy, yy, yy, yy, yy, yy]) (Y := [_, _, _, _, _, _, _, _, _]) rfl) ?_
 refine HA_done (by kernel_rfl) ?_
 refine H_env (ρ' := [(2, _), (4, _), (7, _), (8, _), (9, _), (10, _)]) ⟨rfl, rfl, rfl, rfl, rfl, rfl, trivial⟩ ?_
 refine H_world (fun _ hA => hA.keep (m := [yy, nn, nn, yy, yy, yy, yy, yy, yy, yy]) (Y := [_, _, _, _, _, _, _, _]) rfl) ?_
 refine H_seq ?_
 refine H_region (l := [_, _, _, _, _, _, _, _, _, _]) rfl ?_
 refine HO_loadA (i := 1) (us := []) (cs := [_, _]) (ts := []) rfl rfl rfl Try.isAgg56 Try.sizeOf56 rfl (.loc _ _ _) rfl rfl rfl rfl ?_
 refine HO_loadA (i := 0) (us := []) (cs := [_, _, _, _, _, _, _, _]) (ts := []) rfl rfl rfl Try.isAgg36 Try.sizeOf36 rfl (.loc _ _ _) rfl rfl rfl rfl ?_
 refine HO_dup (i := 2) rfl rfl ?_
 refine HO_dup (i := 4) rfl rfl ?_
 refine HO_call (first := []) (capt := []) (is := [0, 0]) (R := [_, _, _, _, _, _, _, _]) rfl rfl rfl rfl rfl Try.call29 rfl (apply_spec _ _ _ _ _ _ _ _ _ _ _ _ _ _ _ ?_ ?_ ?_ ?_ ?_ ?_) ?_
 ·exact Mod.Inv.fold
 ·decide
 ·exact hIe.1
 ·exact wrap_rng _
 ·exact sk
 ·exact sc
 intro y63 hy63
 refine HO_move rfl rfl rfl ?_
 refine HO_extract (vs := [_, _]) rfl rfl rfl rfl ?_
 refine HO_extract (vs := [_, _]) rfl rfl rfl rfl ?_
 refine HO_alloc (cs := [_, _]) rfl rfl Try.zeroValue56 rfl ?_
 intro g11
 refine HO_alloc (cs := [_, _, _, _, _]) rfl rfl Try.zeroValue38 rfl ?_
 intro g12
 refine HO_store (i := 1) (j := 0) (us := []) (old := [_, _]) (ts := []) (cs := [_, _]) (R := [_, _, _, _, _, _, _, _, _, _, _, _]) (new := [_, _]) rfl rfl rfl Try.sizeOf56 rfl (by simp [Value.oneCell']) rfl rfl rfl rfl rfl rfl ?_
 refine HO_store (i := 1) (j := 0) (us := []) (old := [_, _, _, _, _]) (ts := []) (cs := [_, _, _, _, _]) (R := [_, _, _, _, _, _, _, _, _, _, _, _]) (new := [_, _, _, _, _]) rfl rfl rfl Try.sizeOf38 rfl (by simp [Value.oneCell']) rfl rfl rfl rfl rfl rfl ?_
 refine HO_nil ?_
 refine H_env (ρ' := [(12, _), (11, _), (2, _), (4, _), (8, _), (9, _), (10, _)]) ⟨rfl, rfl, rfl, rfl, rfl, rfl, rfl, trivial⟩ ?_
 refine H_world (fun _ hA => hA.keep (m := [yy, yy, yy, yy, yy, yy, nn, nn, nn, yy, yy, yy, yy]) (Y := [_, _, _, _, _, _, _, _, _, _]) rfl) ?_
 refine H_seq ?_
 refine H_seq ?_
 refine H_region (l := [_, _, _, _, _, _, _, _, _, _, _, _, _]) rfl ?_
 refine HO_fieldAddr (r := 0) rfl rfl rfl Try.underlying38 rfl Try.sizeOf26 rfl ?_
 refine HO_load1 (i := 0) (j := 0) rfl rfl rfl Try.isAgg26 rfl (.loc _ _ _) rfl rfl ?_
 refine HO_bin rfl rfl rfl rfl bin_neq ?_
 refine HO_move rfl rfl rfl ?_
 refine HO_split (d := 69) rfl ?_ ?_
 ·intro h69
  replace h69 := dT h69
  iterate 3 refine HO_no rfl rfl rfl ?_
  refine HO_pick_t rfl rfl rfl rfl ?_
  refine HO_move rfl rfl rfl ?_
  iterate 3 refine HO_no rfl rfl rfl ?_
  refine HO_pick_t rfl rfl rfl rfl ?_
  refine HO_nil ?_
  refine H_env (ρ' := [(78, _), (12, _), (11, _), (2, _), (4, _), (8, _), (9, _), (10, _)]) ⟨rfl, rfl, rfl, rfl, rfl, rfl, rfl, rfl, trivial⟩ ?_
  refine H_cond rfl (fun _ => ?_) (fun h => nomatch h)
  refine H_seq ?_
  refine H_region (l := [_, _]) rfl ?_
  refine HO_call (first := []) (capt := []) (is := []) (R := [_, _, _, _, _, _, _, _, _, _]) rfl rfl rfl rfl rfl Try.call24 rfl lives20_spec ?_
  intro y79 hy79
  clear y79 hy79
  refine HO_assign rfl rfl rfl ?_
  refine HO_nil ?_
  refine H_env (ρ' := [(6, _)]) ⟨rfl, trivial⟩ ?_
  refine H_world (fun _ hA => hA.keep (m := [nn, nn, nn, nn, nn, nn, nn, nn, nn, nn]) (Y := []) rfl) ?_
  refine H_ret1 Try.results6 (.tmp rfl) (fun w hA => ⟨(), congrArg Ending.returned ?_, ?_, ?_⟩)
  ·(exact congrArg Value.bool (by first | rfl | assumption | simp_all))
  ·trivial
  ·exact hA.keep (m := []) (Y := []) rfl
 intro h69
 replace h69 := dF h69
 refine HO_fieldAddr (r := 0) rfl rfl rfl Try.underlying36 rfl Try.sizeOf3 rfl ?_
 refine HO_load1 (i := 5) (j := 0) rfl rfl rfl Try.isAgg3 rfl (.loc _ _ _) rfl rfl ?_
 refine HO_bin rfl rfl rfl rfl bin_lss ?_
 refine HO_pick_f rfl rfl rfl rfl ?_
 refine HO_move rfl rfl rfl ?_
 refine HO_split (d := 74) rfl ?_ ?_
 ·intro h74
  replace h74 := dT h74
  iterate 3 refine HO_no rfl rfl rfl ?_
  refine HO_pick_t rfl rfl rfl rfl ?_
  refine HO_nil ?_
  refine H_env (ρ' := [(78, _), (12, _), (11, _), (2, _), (4, _), (8, _), (9, _), (10, _)]) ⟨rfl, rfl, rfl, rfl, rfl, rfl, rfl, rfl, trivial⟩ ?_
  refine H_cond rfl (fun _ => ?_) (fun h => nomatch h)
  refine H_seq ?_
  refine H_region (l := [_, _]) rfl ?_
  refine HO_call (first := []) (capt := []) (is := []) (R := [_, _, _, _, _, _, _, _, _, _]) rfl rfl rfl rfl rfl Try.call24 rfl lives20_spec ?_
  intro y79 hy79
  clear y79 hy79
  refine HO_assign rfl rfl rfl ?_
  refine HO_nil ?_
  refine H_env (ρ' := [(6, _)]) ⟨rfl, trivial⟩ ?_
  refine H_world (fun _ hA => hA.keep (m := [nn, nn, nn, nn, nn, nn, nn, nn, nn, nn]) (Y := []) rfl) ?_
  refine H_ret1 Try.results6 (.tmp rfl) (fun w hA => ⟨(), congrArg Ending.returned ?_, ?_, ?_⟩)
  ·(exact congrArg Value.bool (by first | rfl | assumption | simp_all))
  ·trivial
  ·exact hA.keep (m := []) (Y := []) rfl
 intro h74
 replace h74 := dF h74
 refine HO_fieldAddr (r := 0) rfl rfl rfl Try.underlying36 rfl Try.sizeOf3 rfl ?_
 refine HO_load1 (i := 5) (j := 0) rfl rfl rfl Try.isAgg3 rfl (.loc _ _ _) rfl rfl ?_
 refine HO_bin rfl rfl rfl rfl bin_gtr ?_
 refine HO_pick_f rfl rfl rfl rfl ?_
 refine HO_nil ?_
 refine H_env (ρ' := [(78, _), (12, _), (11, _), (2, _), (4, _), (8, _), (9, _), (10, _)]) ⟨rfl, rfl, rfl, rfl, rfl, rfl, rfl, rfl, trivial⟩ ?_
 refine H_cond rfl ?_ ?_
 ·intro h78
  replace h78 := dT h78
  refine H_seq ?_
  refine H_region (l := [_, _]) rfl ?_
  refine HO_call (first := []) (capt := []) (is := []) (R := [_, _, _, _, _, _, _, _, _, _]) rfl rfl rfl rfl rfl Try.call24 rfl lives20_spec ?_
  intro y79 hy79
  clear y79 hy79
  refine HO_assign rfl rfl rfl ?_
  refine HO_nil ?_
  refine H_env (ρ' := [(6, _)]) ⟨rfl, trivial⟩ ?_
  refine H_world (fun _ hA => hA.keep (m := [nn, nn, nn, nn, nn, nn, nn, nn, nn, nn]) (Y := []) rfl) ?_
  refine H_ret1 Try.results6 (.tmp rfl) (fun w hA => ⟨(), congrArg Ending.returned ?_, ?_, ?_⟩)
  ·(exact congrArg Value.bool (by first | rfl | assumption | simp_all))
  ·trivial
  ·exact hA.keep (m := []) (Y := []) rfl
 intro h78
 replace h78 := dF h78
 refine H_skip ?_
 refine H_seq ?_
 obtain ⟨hg, hap, he0⟩ := Mod.does_it (c := (⟨ki, ze.id, IntKind.i64.wrap (ze.seq + 1), ke, ol, cv, ti, li⟩ : Cmd)) Mod.Inv.fold hze rfl (wrap_ne hIe.2.1) h69 h74
 have hko : Cmd.keyok ke = true := Mod.good_keyok hg h74 h78
 have hkk := Mod.keyok_of h29 h26
 have hnow : (Mod.query (Mod.apply (Mod.fold es).1 (Mod.fold es).2 1000 (⟨ki, ze.id, IntKind.i64.wrap (ze.seq + 1), ke, ol, cv, ti, li⟩ : Cmd)).1 (⟨4, 0, 0, ke, ⟨#[]⟩, ⟨#[]⟩, ⟨#[]⟩, 0⟩ : Cmd)) = Mod.base ke (Mod.doesP (Mod.fold es).1 (⟨ki, ze.id, IntKind.i64.wrap (ze.seq + 1), ke, ol, cv, ti, li⟩ : Cmd)) := by rw [hap]; exact Mod.query_get hko
 have hmine : (Mod.query (Mod.fold es).1 (⟨4, 0, 0, ke, ⟨#[]⟩, ⟨#[]⟩, ⟨#[]⟩, 0⟩ : Cmd)) = Mod.base ke (Mod.fold es).1 := Mod.query_get hko
 have hr : (Mod.apply (Mod.fold es).1 (Mod.fold es).2 1000 (⟨ki, ze.id, IntKind.i64.wrap (ze.seq + 1), ke, ol, cv, ti, li⟩ : Cmd)).2.2 = Mod.doesR (Mod.fold es).1 (⟨ki, ze.id, IntKind.i64.wrap (ze.seq + 1), ke, ol, cv, ti, li⟩ : Cmd) := by rw [hap]
 have hoth : ky ≠ ke → (Mod.query (Mod.apply (Mod.fold es).1 (Mod.fold es).2 1000 (⟨ki, ze.id, IntKind.i64.wrap (ze.seq + 1), ke, ol, cv, ti, li⟩ : Cmd)).1 (⟨4, 0, 0, ky, ⟨#[]⟩, ⟨#[]⟩, ⟨#[]⟩, 0⟩ : Cmd)) = (Mod.query (Mod.fold es).1 (⟨4, 0, 0, ky, ⟨#[]⟩, ⟨#[]⟩, ⟨#[]⟩, 0⟩ : Cmd)) := fun h => by rw [show (Mod.query (Mod.apply (Mod.fold es).1 (Mod.fold es).2 1000 (⟨ki, ze.id, IntKind.i64.wrap (ze.seq + 1), ke, ol, cv, ti, li⟩ : Cmd)).1 (⟨4, 0, 0, ky, ⟨#[]⟩, ⟨#[]⟩, ⟨#[]⟩, 0⟩ : Cmd)) = _ from Mod.query_get hkk, show (Mod.query (Mod.fold es).1 (⟨4, 0, 0, ky, ⟨#[]⟩, ⟨#[]⟩, ⟨#[]⟩, 0⟩ : Cmd)) = _ from Mod.query_get hkk, hap]; exact Mod.other_key Mod.Inv.fold.ps h
 refine H_region (l := [_, _, _, _, _, _, _]) rfl ?_
 refine HO_move rfl rfl rfl ?_
 refine HO_loadA (i := 1) (us := []) (cs := [_, _]) (ts := []) rfl rfl rfl Try.isAgg56 Try.sizeOf56 rfl (.loc _ _ _) rfl rfl rfl rfl ?_
 refine HO_fieldAddr (r := 3) rfl rfl rfl Try.underlying36 rfl Try.sizeOf9 rfl ?_
 refine HO_load1 (i := 5) (j := 3) rfl rfl rfl Try.isAgg9 rfl (.loc _ _ _) rfl rfl ?_
 refine HO_dup (i := 2) rfl rfl ?_
 refine HO_call (first := []) (capt := []) (is := [0]) (R := [_, _, _, _, _, _, _, _, _, _]) rfl rfl rfl rfl rfl Try.call30 rfl (lget_spec _ _ _ _ _ _ _ ?_ ?_ ?_) ?_
 ·exact Mod.Inv.fold.apply.ps
 ·exact Mod.Inv.fold.apply.pl
 ·exact sk
 intro y84 hy84
 refine HO_alloc (cs := [_, _, _, _, _]) rfl rfl Try.zeroValue38 rfl ?_
 intro g13
 refine HO_store (i := 0) (j := 0) (us := []) (old := [_, _, _, _, _]) (ts := []) (cs := [_, _, _, _, _]) (R := [_, _, _, _, _, _, _, _, _, _, _]) (new := [_, _, _, _, _]) rfl rfl rfl Try.sizeOf38 rfl (by simp [Value.oneCell']) rfl rfl rfl rfl rfl rfl ?_
 refine HO_nil ?_
 refine H_env (ρ' := [(13, _), (12, _), (11, _), (2, _), (4, _), (8, _), (9, _), (10, _)]) ⟨rfl, rfl, rfl, rfl, rfl, rfl, rfl, rfl, trivial⟩ ?_
 refine H_seq ?_
 refine H_seq ?_
 refine H_drawB (m := [yy, yy, yy, yy, yy, yy, yy, yy, yy, yy, yy, yy]) (Xs := [_, _, _, _, _, _, _, _, _, _, _, _]) (fuel := 13) (l := #[false, false, false, false, false, false, false, false, false, false, false, false, false]) mixed rfl rfl rfl ?_
 refine HA_take (i := 0) (listed' := #[true, false, false, false, false, false, false, false, false, false, false, false, false]) (bodyPost_pan _ _ _) rfl rfl rfl rfl (by kernel_rfl) rfl (V_move rfl) (fun _ hA => hA) ?_
 refine HA_take (i := 1) (listed' := #[true, true, false, false, false, false, false, false, false, false, false, false, false]) (bodyPost_pan _ _ _) rfl rfl rfl rfl (by kernel_rfl) rfl (V_fieldAddr (r := 3) rfl Try.underlying36 rfl Try.sizeOf9 rfl) (fun _ hA => hA) ?_
 refine HA_take (i := 2) (listed' := #[true, true, true, false, false, false, false, false, false, false, false, false, false]) (bodyPost_pan _ _ _) rfl rfl rfl rfl (by kernel_rfl) rfl (V_load1 (i := 7) (j := 3) rfl Try.isAgg9 rfl (.loc _ _ _) rfl rfl) (fun _ hA => hA) ?_
 refine HA_take (i := 3) (listed' := #[true, true, true, true, false, false, false, false, false, false, false, false, false]) (bodyPost_pan _ _ _) rfl rfl rfl rfl (by kernel_rfl) rfl (V_bin rfl rfl bin_nes) (fun _ hA => hA) ?_
 refine HA_take (i := 4) (listed' := #[true, true, true, true, true, false, false, false, false, false, false, false, false]) (bodyPost_pan _ _ _) rfl rfl rfl rfl (by kernel_rfl) rfl (V_move rfl) (fun _ hA => hA) ?_
 refine HA_split (d := 89) rfl ?_ ?_
 ·intro h89
  replace h89 := dF (nT h89)
  refine HA_take (i := 5) (listed' := #[true, true, true, true, true, true, false, false, false, false, false, false, false]) (bodyPost_pan _ _ _) rfl rfl rfl rfl (by kernel_rfl) rfl (V_move rfl) (fun _ hA => hA) ?_
  refine HA_take (i := 6) (listed' := #[true, true, true, true, true, true, true, false, false, false, false, false, false]) (bodyPost_pan _ _ _) rfl rfl rfl rfl (by kernel_rfl) rfl (V_loadA (i := 3) (us := []) (cs := [_, _]) (ts := []) rfl Try.isAgg56 Try.sizeOf56 rfl (.loc _ _ _) rfl rfl rfl rfl) (fun _ hA => hA) ?_
  refine HA_take (i := 7) (listed' := #[true, true, true, true, true, true, true, true, false, false, false, false, false]) (bodyPost_pan _ _ _) rfl rfl rfl rfl (by kernel_rfl) rfl (V_move rfl) (fun _ hA => hA) ?_
  refine HA_take (i := 9) (listed' := #[true, true, true, true, true, true, true, true, false, true, false, false, false]) (bodyPost_pan _ _ _) rfl rfl rfl rfl (by kernel_rfl) rfl (V_loadA (i := 8) (us := []) (cs := [_, _, _, _, _]) (ts := []) rfl Try.isAgg38 Try.sizeOf38 rfl (.loc _ _ _) rfl rfl rfl rfl) (fun _ hA => hA) ?_
  refine HA_loud1 (i := 8) (by kernel_rfl) rfl ?_
  refine HO_dup (i := 4) rfl rfl ?_
  refine HO_call (first := []) (capt := []) (is := [0]) (R := [_, _, _, _, _, _, _, _, _, _, _, _]) rfl rfl rfl rfl rfl Try.call30 rfl (lget_spec _ _ _ _ _ _ _ ?_ ?_ ?_) ?_
  ·exact Mod.Inv.fold.apply.ps
  ·exact Mod.Inv.fold.apply.pl
  ·exact sy
  intro y93 hy93
  refine HA_back (listed' := #[true, true, true, true, true, true, true, true, true, true, false, false, false]) rfl (fun _ hA => hA.keep (m := [nn, yy, yy, yy, yy, yy, yy, yy, yy, yy, yy, yy, yy]) (Y := [_, _, _, _, _, _, _, _, _, _, _, _]) rfl) ?_
  refine HA_loud1 (i := 10) (by kernel_rfl) rfl ?_
  refine HO_dup (i := 0) rfl rfl ?_
  refine HO_dup (i := 11) rfl rfl ?_
  refine HO_call (first := []) (capt := []) (is := [0, 0]) (R := [_, _, _, _, _, _, _, _, _, _, _, _, _]) rfl rfl rfl rfl rfl Try.call19 rfl (rrsame9_spec _ _ _ _ _ _ _ _ _ _ _ _ _ _) ?_
  intro y95 hy95
  clear y95 hy95
  refine HA_back (listed' := #[true, true, true, true, true, true, true, true, true, true, true, false, false]) rfl (fun _ hA => hA.keep (m := [nn, yy, yy, yy, yy, yy, yy, yy, yy, yy, yy, yy, yy]) (Y := [_, _, _, _, _, _, _, _, _, _, _, _]) rfl) ?_
  refine HA_take (i := 11) (listed' := #[true, true, true, true, true, true, true, true, true, true, true, true, false]) (bodyPost_pan _ _ _) rfl rfl rfl rfl (by kernel_rfl) rfl (V_not rfl) (fun _ hA => hA.keep (m := [nn, yy, yy, yy, yy, yy, yy, yy, yy, yy, yy, yy, yy]) (Y := [_, _, _, _, _, _, _, _, _, _, _, _]) rfl) ?_
  refine HA_take (i := 12) (listed' := #[true, true, true, true, true, true, true, true, true, true, true, true, true]) (bodyPost_pan _ _ _) rfl rfl rfl rfl (by kernel_rfl) rfl (V_pick_t rfl rfl) (fun _ hA => hA.keep (m := [nn, yy, yy, yy, yy, yy, yy, yy, yy, yy, yy, yy, yy]) (Y := [_, _, _, _, _, _, _, _, _, _, _, _]) rfl) ?_
  refine HA_done (by kernel_rfl) ?_
  refine H_env (ρ' := [(97, _), (13, _), (12, _), (4, _), (10, _)]) ⟨rfl, rfl, rfl, rfl, rfl, trivial⟩ ?_
  refine H_world (fun _ hA => hA.keep (m := [nn, yy, yy, yy, nn, nn, nn, yy, yy, nn, nn, yy, yy]) (Y := [_, _, _, _, _, _, _]) rfl) ?_
  refine H_cond rfl ?_ ?_
  ·intro h97
   replace h97 := dF (nT h97)
   (exact absurd (by rw [hoth h89]) h97)
  intro h97
  replace h97 := dT (nF h97)
  refine H_skip ?_
  refine H_seq ?_
  refine H_seq ?_
  refine H_region (l := [_, _]) rfl ?_
  refine HO_fieldAddr (r := 0) rfl rfl rfl Try.underlying36 rfl Try.sizeOf3 rfl ?_
  refine HO_load1 (i := 4) (j := 0) rfl rfl rfl Try.isAgg3 rfl (.loc _ _ _) rfl rfl ?_
  refine HO_nil ?_
  refine H_env (ρ' := [(99, _), (13, _), (12, _), (4, _), (10, _)]) ⟨rfl, rfl, rfl, rfl, rfl, trivial⟩ ?_
  refine H_block ?_
  refine H_seq ?_
  refine H_region (l := [_, _]) rfl ?_
  refine HO_bin rfl rfl rfl rfl bin_eql ?_
  refine HO_assign rfl rfl rfl ?_
  refine HO_nil ?_
  refine H_env (ρ' := [(100, _), (99, _), (13, _), (12, _), (4, _), (10, _)]) ⟨rfl, rfl, rfl, rfl, rfl, rfl, trivial⟩ ?_
  refine H_cond rfl ?_ ?_
  ·intro h100
   replace h100 := dT h100
   have hm := Mod.maps_put (c := (⟨ki, ze.id, IntKind.i64.wrap (ze.seq + 1), ke, ol, cv, ti, li⟩ : Cmd)) (ps := (Mod.fold es).1) Mod.Inv.fold.ps h100 he0
   have hnow1 := hnow.trans hm.1
   have hrm := hr.trans (hm.2.trans hmine.symm)
   refine H_seq ?_
   refine H_region (l := [_, _, _, _, _, _, _, _, _, _, _, _, _, _, _, _, _, _]) rfl ?_
   refine HO_fieldAddr (r := 1) rfl rfl rfl Try.underlying38 rfl Try.sizeOf4 rfl ?_
   refine HO_load1 (i := 0) (j := 1) rfl rfl rfl Try.isAgg4 rfl (.loc _ _ _) rfl rfl ?_
   refine HO_move rfl rfl rfl ?_
   refine HO_split (d := 104) rfl ?_ ?_
   ·intro h104
    refine HO_fieldAddr (r := 2) rfl rfl rfl Try.underlying38 rfl Try.sizeOf9 rfl ?_
    refine HO_load1 (i := 0) (j := 2) rfl rfl rfl Try.isAgg9 rfl (.loc _ _ _) rfl rfl ?_
    refine HO_fieldAddr (r := 5) rfl rfl rfl Try.underlying36 rfl Try.sizeOf9 rfl ?_
    refine HO_load1 (i := 4) (j := 5) rfl rfl rfl Try.isAgg9 rfl (.loc _ _ _) rfl rfl ?_
    refine HO_bin rfl rfl rfl rfl bin_eqs ?_
    refine HO_pick_t rfl rfl rfl rfl ?_
    refine HO_move rfl rfl rfl ?_
    refine HO_split (d := 111) rfl ?_ ?_
    ·intro h111
     replace h111 := dT h111
     refine HO_loadA (i := 2) (us := []) (cs := [_, _, _, _, _]) (ts := []) rfl rfl rfl Try.isAgg38 Try.sizeOf38 rfl (.loc _ _ _) rfl rfl rfl rfl ?_
     refine HO_loadA (i := 5) (us := []) (cs := [_, _, _, _, _]) (ts := []) rfl rfl rfl Try.isAgg38 Try.sizeOf38 rfl (.loc _ _ _) rfl rfl rfl rfl ?_
     refine HO_dup (i := 3) rfl rfl ?_
     refine HO_dup (i := 7) rfl rfl ?_
     refine HO_call (first := []) (capt := []) (is := [0, 0]) (R := [_, _, _, _, _, _, _]) rfl rfl rfl rfl rfl Try.call19 rfl (rrsame9_spec _ _ _ _ _ _ _ _ _ _ _ _ _ _) ?_
     intro y114 hy114
     clear y114 hy114
     refine HO_pick_t rfl rfl rfl rfl ?_
     refine HO_move rfl rfl rfl ?_
     refine HO_split (d := 116) rfl ?_ ?_
     ·intro h116
      replace h116 := dT h116
      refine HO_call (first := []) (capt := []) (is := []) (R := [_, _, _, _, _, _, _]) rfl rfl rfl rfl rfl Try.call24 rfl lives20_spec ?_
      intro y117 hy117
      clear y117 hy117
      refine HO_pick_t rfl rfl rfl rfl ?_
      refine HO_assign rfl rfl rfl ?_
      refine HO_nil ?_
      refine H_env (ρ' := [(6, _)]) ⟨rfl, trivial⟩ ?_
      refine H_world (fun _ hA => hA.keep (m := [nn, nn, nn, nn, nn, nn, nn]) (Y := []) rfl) ?_
      refine H_ret1 Try.results6 (.tmp rfl) (fun w hA => ⟨(), congrArg Ending.returned ?_, ?_, ?_⟩)
      ·(exact congrArg Value.bool (by first | rfl | assumption | simp_all))
      ·trivial
      ·exact hA.keep (m := []) (Y := []) rfl
     intro h116
     replace h116 := dF h116
     (rw [hrm] at h116; exact absurd rfl h116)
    intro h111
    replace h111 := dF h111
    (rw [hnow1] at h111; exact absurd rfl h111)
   intro h104
   (rw [hnow1] at h104; cases h104)
  intro h100
  replace h100 := dF h100
  refine H_seq ?_
  refine H_region (l := [_, _]) rfl ?_
  refine HO_bin rfl rfl rfl rfl bin_eql ?_
  refine HO_assign rfl rfl rfl ?_
  refine HO_nil ?_
  refine H_env (ρ' := [(119, _), (99, _), (13, _), (12, _), (4, _), (10, _)]) ⟨rfl, rfl, rfl, rfl, rfl, rfl, trivial⟩ ?_
  refine H_cond rfl ?_ ?_
  ·intro h119
   replace h119 := dT h119
   have hm := Mod.maps_del (c := (⟨ki, ze.id, IntKind.i64.wrap (ze.seq + 1), ke, ol, cv, ti, li⟩ : Cmd)) (ps := (Mod.fold es).1) Mod.Inv.fold.ps h119
   have hnow1 := hnow.trans hm.1
   have hrm := hr.trans (hm.2.trans hmine.symm)
   refine H_seq ?_
   refine H_region (l := [_, _, _, _, _, _, _, _, _, _, _, _]) rfl ?_
   refine HO_fieldAddr (r := 1) rfl rfl rfl Try.underlying38 rfl Try.sizeOf4 rfl ?_
   refine HO_load1 (i := 0) (j := 1) rfl rfl rfl Try.isAgg4 rfl (.loc _ _ _) rfl rfl ?_
   refine HO_not rfl rfl rfl ?_
   refine HO_move rfl rfl rfl ?_
   refine HO_split (d := 124) rfl ?_ ?_
   ·intro h124
    replace h124 := nT h124
    refine HO_loadA (i := 2) (us := []) (cs := [_, _, _, _, _]) (ts := []) rfl rfl rfl Try.isAgg38 Try.sizeOf38 rfl (.loc _ _ _) rfl rfl rfl rfl ?_
    refine HO_loadA (i := 5) (us := []) (cs := [_, _, _, _, _]) (ts := []) rfl rfl rfl Try.isAgg38 Try.sizeOf38 rfl (.loc _ _ _) rfl rfl rfl rfl ?_
    refine HO_dup (i := 3) rfl rfl ?_
    refine HO_dup (i := 7) rfl rfl ?_
    refine HO_call (first := []) (capt := []) (is := [0, 0]) (R := [_, _, _, _, _, _, _]) rfl rfl rfl rfl rfl Try.call19 rfl (rrsame9_spec _ _ _ _ _ _ _ _ _ _ _ _ _ _) ?_
    intro y127 hy127
    clear y127 hy127
    refine HO_pick_t rfl rfl rfl rfl ?_
    refine HO_move rfl rfl rfl ?_
    refine HO_split (d := 129) rfl ?_ ?_
    ·intro h129
     replace h129 := dT h129
     refine HO_call (first := []) (capt := []) (is := []) (R := [_, _, _, _, _, _, _]) rfl rfl rfl rfl rfl Try.call24 rfl lives20_spec ?_
     intro y130 hy130
     clear y130 hy130
     refine HO_pick_t rfl rfl rfl rfl ?_
     refine HO_assign rfl rfl rfl ?_
     refine HO_nil ?_
     refine H_env (ρ' := [(6, _)]) ⟨rfl, trivial⟩ ?_
     refine H_world (fun _ hA => hA.keep (m := [nn, nn, nn, nn, nn, nn, nn]) (Y := []) rfl) ?_
     refine H_ret1 Try.results6 (.tmp rfl) (fun w hA => ⟨(), congrArg Ending.returned ?_, ?_, ?_⟩)
     ·(exact congrArg Value.bool (by first | rfl | assumption | simp_all))
     ·trivial
     ·exact hA.keep (m := []) (Y := []) rfl
    intro h129
    replace h129 := dF h129
    (rw [hrm] at h129; exact absurd rfl h129)
   intro h124
   replace h124 := nF h124
   (rw [hnow1] at h124; cases h124)
  intro h119
  replace h119 := dF h119
  refine H_seq ?_
  refine H_region (l := [_, _]) rfl ?_
  refine HO_bin rfl rfl rfl rfl bin_eql ?_
  refine HO_assign rfl rfl rfl ?_
  refine HO_nil ?_
  refine H_env (ρ' := [(132, _), (13, _), (12, _), (4, _), (10, _)]) ⟨rfl, rfl, rfl, rfl, rfl, trivial⟩ ?_
  refine H_cond rfl ?_ ?_
  ·intro h132
   replace h132 := dT h132
   have hm := Mod.maps_cas (c := (⟨ki, ze.id, IntKind.i64.wrap (ze.seq + 1), ke, ol, cv, ti, li⟩ : Cmd)) (ps := (Mod.fold es).1) Mod.Inv.fold.ps h132
   refine H_seq ?_
   rcases (Bool.eq_false_or_eq_true (Mod.casOk (⟨ki, ze.id, IntKind.i64.wrap (ze.seq + 1), ke, ol, cv, ti, li⟩ : Cmd) (Mod.fold es).1)) with hc | hc
   ·skip
    have hr6 := hr.trans hm.1
    rw [hc] at hr6
    have hnm := hnow.trans hm.2
    rw [hc] at hnm
    have hnow1 := hnm.trans (if_pos rfl)
    have hcc := hc
    unfold Mod.casOk at hcc
    have hmf : (Mod.query (Mod.fold es).1 (⟨4, 0, 0, ke, ⟨#[]⟩, ⟨#[]⟩, ⟨#[]⟩, 0⟩ : Cmd)).found = true := by rw [hmine]; exact (Bool.and_eq_true_iff.1 hcc).1
    have hmv : (Mod.query (Mod.fold es).1 (⟨4, 0, 0, ke, ⟨#[]⟩, ⟨#[]⟩, ⟨#[]⟩, 0⟩ : Cmd)).val = ol := by rw [hmine]; exact of_decide_eq_true (Bool.and_eq_true_iff.1 hcc).2
    refine H_region (l := [_, _, _, _, _, _, _, _, _, _]) rfl ?_
    refine HO_fieldAddr (r := 1) rfl rfl rfl Try.underlying38 rfl Try.sizeOf4 rfl ?_
    refine HO_load1 (i := 5) (j := 1) rfl rfl rfl Try.isAgg4 rfl (.loc _ _ _) rfl rfl ?_
    refine HO_move rfl rfl rfl ?_
    refine HO_split (d := 136) rfl ?_ ?_
    ·intro h136
     refine HO_fieldAddr (r := 2) rfl rfl rfl Try.underlying38 rfl Try.sizeOf9 rfl ?_
     refine HO_load1 (i := 5) (j := 2) rfl rfl rfl Try.isAgg9 rfl (.loc _ _ _) rfl rfl ?_
     refine HO_fieldAddr (r := 4) rfl rfl rfl Try.underlying36 rfl Try.sizeOf9 rfl ?_
     refine HO_load1 (i := 4) (j := 4) rfl rfl rfl Try.isAgg9 rfl (.loc _ _ _) rfl rfl ?_
     refine HO_bin rfl rfl rfl rfl bin_eqs ?_
     refine HO_pick_t rfl rfl rfl rfl ?_
     refine HO_assign rfl rfl rfl ?_
     refine HO_nil ?_
     refine H_env (ρ' := [(14, _), (13, _), (12, _), (4, _), (10, _)]) ⟨rfl, rfl, rfl, rfl, rfl, trivial⟩ ?_
     refine H_seq ?_
     refine H_region (l := [_, _, _, _, _, _, _, _, _, _, _, _, _, _, _, _, _, _, _, _, _, _, _, _, _, _, _, _, _, _, _, _, _, _, _, _, _, _]) rfl ?_
     refine HO_fieldAddr (r := 1) rfl rfl rfl Try.underlying38 rfl Try.sizeOf4 rfl ?_
     refine HO_load1 (i := 2) (j := 1) rfl rfl rfl Try.isAgg4 rfl (.loc _ _ _) rfl rfl ?_
     refine HO_move rfl rfl rfl ?_
     refine HO_bin rfl rfl rfl rfl (bin_eqb Try.runUnderlying4) ?_
     refine HO_move rfl rfl rfl ?_
     refine HO_split (d := 147) rfl ?_ ?_
     ·intro h147
      (try simp only [decide_eq_true_eq, decide_eq_false_iff_not, Bool.not_eq_true', Bool.not_eq_false', Bool.not_eq_true, Bool.not_eq_false, Bool.true_eq_false, Bool.false_eq_true, not_false_eq_true, not_true_eq_false] at h147)
      refine HO_fieldAddr (r := 2) rfl rfl rfl Try.underlying38 rfl Try.sizeOf9 rfl ?_
      refine HO_load1 (i := 2) (j := 2) rfl rfl rfl Try.isAgg9 rfl (.loc _ _ _) rfl rfl ?_
      refine HO_fieldAddr (r := 2) rfl rfl rfl Try.underlying38 rfl Try.sizeOf9 rfl ?_
      refine HO_load1 (i := 5) (j := 2) rfl rfl rfl Try.isAgg9 rfl (.loc _ _ _) rfl rfl ?_
      refine HO_bin rfl rfl rfl rfl bin_eqs ?_
      refine HO_pick_t rfl rfl rfl rfl ?_
      refine HO_move rfl rfl rfl ?_
      refine HO_split (d := 154) rfl ?_ ?_
      ·intro h154
       replace h154 := dT h154
       refine HO_move rfl rfl rfl ?_
       refine HO_not rfl rfl rfl ?_
       refine HO_move rfl rfl rfl ?_
       refine HO_split (d := 157) rfl ?_ ?_
       ·intro h157
        replace h157 := dF (nT h157)
        (first | (simp [hmv] at h157; done) | (simp_all; done))
       intro h157
       replace h157 := dT (nF h157)
       iterate 3 refine HO_no rfl rfl rfl ?_
       refine HO_pick_f rfl rfl rfl rfl ?_
       iterate 3 refine HO_move rfl rfl rfl ?_
       refine HO_split (d := 164) rfl ?_ ?_
       ·intro h164
        replace h164 := dT h164
        refine HO_fieldAddr (r := 1) rfl rfl rfl Try.underlying38 rfl Try.sizeOf4 rfl ?_
        refine HO_load1 (i := 0) (j := 1) rfl rfl rfl Try.isAgg4 rfl (.loc _ _ _) rfl rfl ?_
        refine HO_pick_t rfl rfl rfl rfl ?_
        refine HO_move rfl rfl rfl ?_
        refine HO_split (d := 168) rfl ?_ ?_
        ·intro h168
         refine HO_fieldAddr (r := 2) rfl rfl rfl Try.underlying38 rfl Try.sizeOf9 rfl ?_
         refine HO_load1 (i := 0) (j := 2) rfl rfl rfl Try.isAgg9 rfl (.loc _ _ _) rfl rfl ?_
         refine HO_fieldAddr (r := 5) rfl rfl rfl Try.underlying36 rfl Try.sizeOf9 rfl ?_
         refine HO_load1 (i := 4) (j := 5) rfl rfl rfl Try.isAgg9 rfl (.loc _ _ _) rfl rfl ?_
         refine HO_bin rfl rfl rfl rfl bin_eqs ?_
         refine HO_pick_t rfl rfl rfl rfl ?_
         refine HO_pick_f rfl rfl rfl rfl ?_
         refine HO_pick_t rfl rfl rfl rfl ?_
         refine HO_move rfl rfl rfl ?_
         refine HO_split (d := 177) rfl ?_ ?_
         ·intro h177
          replace h177 := dT h177
          refine HO_call (first := []) (capt := []) (is := []) (R := [_, _, _, _, _, _, _]) rfl rfl rfl rfl rfl Try.call24 rfl lives20_spec ?_
          intro y178 hy178
          clear y178 hy178
          refine HO_pick_t rfl rfl rfl rfl ?_
          refine HO_assign rfl rfl rfl ?_
          refine HO_nil ?_
          refine H_env (ρ' := [(6, _)]) ⟨rfl, trivial⟩ ?_
          refine H_world (fun _ hA => hA.keep (m := [nn, nn, nn, nn, nn, nn, nn]) (Y := []) rfl) ?_
          refine H_ret1 Try.results6 (.tmp rfl) (fun w hA => ⟨(), congrArg Ending.returned ?_, ?_, ?_⟩)
          ·(exact congrArg Value.bool (by first | rfl | assumption | simp_all))
          ·trivial
          ·exact hA.keep (m := []) (Y := []) rfl
         intro h177
         replace h177 := dF h177
         (first | (rw [hnow1] at h177; exact absurd rfl h177) | (simp_all; done))
        intro h168
        (rw [hnow1] at h168; cases h168)
       intro h164
       replace h164 := dF h164
       (first | (exact absurd hmv h164) | (simp_all; done))
      intro h154
      replace h154 := dF h154
      (first | (rw [hr6, hmine] at h154; exact absurd rfl h154) | (simp_all; done))
     intro h147
     (try simp only [decide_eq_true_eq, decide_eq_false_iff_not, Bool.not_eq_true', Bool.not_eq_false', Bool.not_eq_true, Bool.not_eq_false, Bool.true_eq_false, Bool.false_eq_true, not_false_eq_true, not_true_eq_false] at h147)
     (first | (simp [hr6, hmv] at h147; done) | (simp_all; done))
    intro h136
    (rw [hmf] at h136; cases h136)
   ·skip
    have hr6 := hr.trans hm.1
    rw [hc] at hr6
    have hnm := hnow.trans hm.2
    rw [hc] at hnm
    replace hnm := hnm.trans ((if_neg (by decide)).trans hmine.symm)
    have hcc : ((Mod.query (Mod.fold es).1 (⟨4, 0, 0, ke, ⟨#[]⟩, ⟨#[]⟩, ⟨#[]⟩, 0⟩ : Cmd)).found && decide ((Mod.query (Mod.fold es).1 (⟨4, 0, 0, ke, ⟨#[]⟩, ⟨#[]⟩, ⟨#[]⟩, 0⟩ : Cmd)).val = ol)) = false := by rw [hmine]; exact hc
    refine H_region (l := [_, _, _, _, _, _, _, _, _, _]) rfl ?_
    refine HO_fieldAddr (r := 1) rfl rfl rfl Try.underlying38 rfl Try.sizeOf4 rfl ?_
    refine HO_load1 (i := 5) (j := 1) rfl rfl rfl Try.isAgg4 rfl (.loc _ _ _) rfl rfl ?_
    refine HO_move rfl rfl rfl ?_
    refine HO_split (d := 136) rfl ?_ ?_
    ·intro h136
     refine HO_fieldAddr (r := 2) rfl rfl rfl Try.underlying38 rfl Try.sizeOf9 rfl ?_
     refine HO_load1 (i := 5) (j := 2) rfl rfl rfl Try.isAgg9 rfl (.loc _ _ _) rfl rfl ?_
     refine HO_fieldAddr (r := 4) rfl rfl rfl Try.underlying36 rfl Try.sizeOf9 rfl ?_
     refine HO_load1 (i := 4) (j := 4) rfl rfl rfl Try.isAgg9 rfl (.loc _ _ _) rfl rfl ?_
     refine HO_bin rfl rfl rfl rfl bin_eqs ?_
     refine HO_pick_t rfl rfl rfl rfl ?_
     refine HO_assign rfl rfl rfl ?_
     refine HO_nil ?_
     refine H_env (ρ' := [(14, _), (13, _), (12, _), (4, _), (10, _)]) ⟨rfl, rfl, rfl, rfl, rfl, trivial⟩ ?_
     refine H_seq ?_
     refine H_region (l := [_, _, _, _, _, _, _, _, _, _, _, _, _, _, _, _, _, _, _, _, _, _, _, _, _, _, _, _, _, _, _, _, _, _, _, _, _, _]) rfl ?_
     refine HO_fieldAddr (r := 1) rfl rfl rfl Try.underlying38 rfl Try.sizeOf4 rfl ?_
     refine HO_load1 (i := 2) (j := 1) rfl rfl rfl Try.isAgg4 rfl (.loc _ _ _) rfl rfl ?_
     refine HO_move rfl rfl rfl ?_
     refine HO_bin rfl rfl rfl rfl (bin_eqb Try.runUnderlying4) ?_
     refine HO_move rfl rfl rfl ?_
     refine HO_split (d := 147) rfl ?_ ?_
     ·intro h147
      (try simp only [decide_eq_true_eq, decide_eq_false_iff_not, Bool.not_eq_true', Bool.not_eq_false', Bool.not_eq_true, Bool.not_eq_false, Bool.true_eq_false, Bool.false_eq_true, not_false_eq_true, not_true_eq_false] at h147)
      refine HO_fieldAddr (r := 2) rfl rfl rfl Try.underlying38 rfl Try.sizeOf9 rfl ?_
      refine HO_load1 (i := 2) (j := 2) rfl rfl rfl Try.isAgg9 rfl (.loc _ _ _) rfl rfl ?_
      refine HO_fieldAddr (r := 2) rfl rfl rfl Try.underlying38 rfl Try.sizeOf9 rfl ?_
      refine HO_load1 (i := 5) (j := 2) rfl rfl rfl Try.isAgg9 rfl (.loc _ _ _) rfl rfl ?_
      refine HO_bin rfl rfl rfl rfl bin_eqs ?_
      refine HO_pick_t rfl rfl rfl rfl ?_
      refine HO_move rfl rfl rfl ?_
      refine HO_split (d := 154) rfl ?_ ?_
      ·intro h154
       replace h154 := dT h154
       refine HO_move rfl rfl rfl ?_
       refine HO_not rfl rfl rfl ?_
       refine HO_move rfl rfl rfl ?_
       refine HO_split (d := 157) rfl ?_ ?_
       ·intro h157
        replace h157 := dF (nT h157)
        refine HO_loadA (i := 0) (us := []) (cs := [_, _, _, _, _]) (ts := []) rfl rfl rfl Try.isAgg38 Try.sizeOf38 rfl (.loc _ _ _) rfl rfl rfl rfl ?_
        refine HO_loadA (i := 5) (us := []) (cs := [_, _, _, _, _]) (ts := []) rfl rfl rfl Try.isAgg38 Try.sizeOf38 rfl (.loc _ _ _) rfl rfl rfl rfl ?_
        refine HO_dup (i := 1) rfl rfl ?_
        refine HO_dup (i := 7) rfl rfl ?_
        refine HO_call (first := []) (capt := []) (is := [0, 0]) (R := [_, _, _, _, _, _, _]) rfl rfl rfl rfl rfl Try.call19 rfl (rrsame9_spec _ _ _ _ _ _ _ _ _ _ _ _ _ _) ?_
        intro y160 hy160
        clear y160 hy160
        refine HO_pick_t rfl rfl rfl rfl ?_
        refine HO_move rfl rfl rfl ?_
        refine HO_split (d := 162) rfl ?_ ?_
        ·intro h162
         replace h162 := dT h162
         iterate 12 refine HO_no rfl rfl rfl ?_
         iterate 2 refine HO_pick_t rfl rfl rfl rfl ?_
         refine HO_move rfl rfl rfl ?_
         refine HO_call (first := []) (capt := []) (is := []) (R := [_, _, _, _, _, _, _]) rfl rfl rfl rfl rfl Try.call24 rfl lives20_spec ?_
         intro y178 hy178
         clear y178 hy178
         refine HO_pick_t rfl rfl rfl rfl ?_
         refine HO_assign rfl rfl rfl ?_
         refine HO_nil ?_
         refine H_env (ρ' := [(6, _)]) ⟨rfl, trivial⟩ ?_
         refine H_world (fun _ hA => hA.keep (m := [nn, nn, nn, nn, nn, nn, nn]) (Y := []) rfl) ?_
         refine H_ret1 Try.results6 (.tmp rfl) (fun w hA => ⟨(), congrArg Ending.returned ?_, ?_, ?_⟩)
         ·(exact congrArg Value.bool (by first | rfl | assumption | simp_all))
         ·trivial
         ·exact hA.keep (m := []) (Y := []) rfl
        intro h162
        replace h162 := dF h162
        (rw [hnm] at h162; exact absurd rfl h162)
       intro h157
       replace h157 := dT (nF h157)
       (first | (simp_all; done))
      intro h154
      replace h154 := dF h154
      (first | (rw [hr6, hmine] at h154; exact absurd rfl h154) | (simp_all; done))
     intro h147
     (try simp only [decide_eq_true_eq, decide_eq_false_iff_not, Bool.not_eq_true', Bool.not_eq_false', Bool.not_eq_true, Bool.not_eq_false, Bool.true_eq_false, Bool.false_eq_true, not_false_eq_true, not_true_eq_false] at h147)
     (first | (simp [hr6, hmv] at h147; done) | (simp_all; done))
    intro h136
    iterate 5 refine HO_no rfl rfl rfl ?_
    refine HO_pick_f rfl rfl rfl rfl ?_
    refine HO_assign rfl rfl rfl ?_
    refine HO_nil ?_
    refine H_env (ρ' := [(14, _), (13, _), (12, _), (4, _), (10, _)]) ⟨rfl, rfl, rfl, rfl, rfl, trivial⟩ ?_
    refine H_seq ?_
    refine H_region (l := [_, _, _, _, _, _, _, _, _, _, _, _, _, _, _, _, _, _, _, _, _, _, _, _, _, _, _, _, _, _, _, _, _, _, _, _, _, _]) rfl ?_
    refine HO_fieldAddr (r := 1) rfl rfl rfl Try.underlying38 rfl Try.sizeOf4 rfl ?_
    refine HO_load1 (i := 2) (j := 1) rfl rfl rfl Try.isAgg4 rfl (.loc _ _ _) rfl rfl ?_
    refine HO_move rfl rfl rfl ?_
    refine HO_bin rfl rfl rfl rfl (bin_eqb Try.runUnderlying4) ?_
    refine HO_move rfl rfl rfl ?_
    refine HO_split (d := 147) rfl ?_ ?_
    ·intro h147
     (try simp only [decide_eq_true_eq, decide_eq_false_iff_not, Bool.not_eq_true', Bool.not_eq_false', Bool.not_eq_true, Bool.not_eq_false, Bool.true_eq_false, Bool.false_eq_true, not_false_eq_true, not_true_eq_false] at h147)
     refine HO_fieldAddr (r := 2) rfl rfl rfl Try.underlying38 rfl Try.sizeOf9 rfl ?_
     refine HO_load1 (i := 2) (j := 2) rfl rfl rfl Try.isAgg9 rfl (.loc _ _ _) rfl rfl ?_
     refine HO_fieldAddr (r := 2) rfl rfl rfl Try.underlying38 rfl Try.sizeOf9 rfl ?_
     refine HO_load1 (i := 5) (j := 2) rfl rfl rfl Try.isAgg9 rfl (.loc _ _ _) rfl rfl ?_
     refine HO_bin rfl rfl rfl rfl bin_eqs ?_
     refine HO_pick_t rfl rfl rfl rfl ?_
     refine HO_move rfl rfl rfl ?_
     refine HO_split (d := 154) rfl ?_ ?_
     ·intro h154
      replace h154 := dT h154
      refine HO_move rfl rfl rfl ?_
      refine HO_not rfl rfl rfl ?_
      refine HO_move rfl rfl rfl ?_
      refine HO_loadA (i := 0) (us := []) (cs := [_, _, _, _, _]) (ts := []) rfl rfl rfl Try.isAgg38 Try.sizeOf38 rfl (.loc _ _ _) rfl rfl rfl rfl ?_
      refine HO_loadA (i := 5) (us := []) (cs := [_, _, _, _, _]) (ts := []) rfl rfl rfl Try.isAgg38 Try.sizeOf38 rfl (.loc _ _ _) rfl rfl rfl rfl ?_
      refine HO_dup (i := 1) rfl rfl ?_
      refine HO_dup (i := 7) rfl rfl ?_
      refine HO_call (first := []) (capt := []) (is := [0, 0]) (R := [_, _, _, _, _, _, _]) rfl rfl rfl rfl rfl Try.call19 rfl (rrsame9_spec _ _ _ _ _ _ _ _ _ _ _ _ _ _) ?_
      intro y160 hy160
      clear y160 hy160
      refine HO_pick_t rfl rfl rfl rfl ?_
      refine HO_move rfl rfl rfl ?_
      refine HO_split (d := 162) rfl ?_ ?_
      ·intro h162
       replace h162 := dT h162
       iterate 12 refine HO_no rfl rfl rfl ?_
       iterate 2 refine HO_pick_t rfl rfl rfl rfl ?_
       refine HO_move rfl rfl rfl ?_
       refine HO_call (first := []) (capt := []) (is := []) (R := [_, _, _, _, _, _, _]) rfl rfl rfl rfl rfl Try.call24 rfl lives20_spec ?_
       intro y178 hy178
       clear y178 hy178
       refine HO_pick_t rfl rfl rfl rfl ?_
       refine HO_assign rfl rfl rfl ?_
       refine HO_nil ?_
       refine H_env (ρ' := [(6, _)]) ⟨rfl, trivial⟩ ?_
       refine H_world (fun _ hA => hA.keep (m := [nn, nn, nn, nn, nn, nn, nn]) (Y := []) rfl) ?_
       refine H_ret1 Try.results6 (.tmp rfl) (fun w hA => ⟨(), congrArg Ending.returned ?_, ?_, ?_⟩)
       ·(exact congrArg Value.bool (by first | rfl | assumption | simp_all))
       ·trivial
       ·exact hA.keep (m := []) (Y := []) rfl
      intro h162
      replace h162 := dF h162
      (rw [hnm] at h162; exact absurd rfl h162)
     intro h154
     replace h154 := dF h154
     (first | (rw [hr6, hmine] at h154; exact absurd rfl h154) | (simp_all; done))
    intro h147
    (try simp only [decide_eq_true_eq, decide_eq_false_iff_not, Bool.not_eq_true', Bool.not_eq_false', Bool.not_eq_true, Bool.not_eq_false, Bool.true_eq_false, Bool.false_eq_true, not_false_eq_true, not_true_eq_false] at h147)
    (first | (simp [hr6, hmv] at h147; done) | (simp_all; done))
  intro h132
  replace h132 := dF h132
  refine H_skip ?_
  refine H_blk ?_
  refine H_seq ?_
  have hm := Mod.maps_get (c := (⟨ki, ze.id, IntKind.i64.wrap (ze.seq + 1), ke, ol, cv, ti, li⟩ : Cmd)) (ps := (Mod.fold es).1) h100 h119 h132 h78
  have hrm := hr.trans (hm.2.trans hmine.symm)
  have hnm : (Mod.query (Mod.apply (Mod.fold es).1 (Mod.fold es).2 1000 (⟨ki, ze.id, IntKind.i64.wrap (ze.seq + 1), ke, ol, cv, ti, li⟩ : Cmd)).1 (⟨4, 0, 0, ke, ⟨#[]⟩, ⟨#[]⟩, ⟨#[]⟩, 0⟩ : Cmd)) = (Mod.query (Mod.fold es).1 (⟨4, 0, 0, ke, ⟨#[]⟩, ⟨#[]⟩, ⟨#[]⟩, 0⟩ : Cmd)) := hnow.trans (by rw [hm.1]; exact hmine.symm)
  refine H_region (l := [_, _, _, _, _, _, _, _, _, _, _, _]) rfl ?_
  refine HO_loadA (i := 2) (us := []) (cs := [_, _, _, _, _]) (ts := []) rfl rfl rfl Try.isAgg38 Try.sizeOf38 rfl (.loc _ _ _) rfl rfl rfl rfl ?_
  refine HO_loadA (i := 5) (us := []) (cs := [_, _, _, _, _]) (ts := []) rfl rfl rfl Try.isAgg38 Try.sizeOf38 rfl (.loc _ _ _) rfl rfl rfl rfl ?_
  refine HO_dup (i := 3) rfl rfl ?_
  refine HO_dup (i := 7) rfl rfl ?_
  refine HO_call (first := []) (capt := []) (is := [0, 0]) (R := [_, _, _, _, _, _, _]) rfl rfl rfl rfl rfl Try.call19 rfl (rrsame9_spec _ _ _ _ _ _ _ _ _ _ _ _ _ _) ?_
  intro y182 hy182
  clear y182 hy182
  refine HO_move rfl rfl rfl ?_
  refine HO_split (d := 183) rfl ?_ ?_
  ·intro h183
   replace h183 := dT h183
   refine HO_loadA (i := 0) (us := []) (cs := [_, _, _, _, _]) (ts := []) rfl rfl rfl Try.isAgg38 Try.sizeOf38 rfl (.loc _ _ _) rfl rfl rfl rfl ?_
   refine HO_loadA (i := 5) (us := []) (cs := [_, _, _, _, _]) (ts := []) rfl rfl rfl Try.isAgg38 Try.sizeOf38 rfl (.loc _ _ _) rfl rfl rfl rfl ?_
   refine HO_dup (i := 1) rfl rfl ?_
   refine HO_dup (i := 7) rfl rfl ?_
   refine HO_call (first := []) (capt := []) (is := [0, 0]) (R := [_, _, _, _, _, _, _]) rfl rfl rfl rfl rfl Try.call19 rfl (rrsame9_spec _ _ _ _ _ _ _ _ _ _ _ _ _ _) ?_
   intro y186 hy186
   clear y186 hy186
   refine HO_pick_t rfl rfl rfl rfl ?_
   refine HO_move rfl rfl rfl ?_
   refine HO_split (d := 188) rfl ?_ ?_
   ·intro h188
    replace h188 := dT h188
    refine HO_call (first := []) (capt := []) (is := []) (R := [_, _, _, _, _, _, _]) rfl rfl rfl rfl rfl Try.call24 rfl lives20_spec ?_
    intro y189 hy189
    clear y189 hy189
    refine HO_pick_t rfl rfl rfl rfl ?_
    refine HO_assign rfl rfl rfl ?_
    refine HO_nil ?_
    refine H_env (ρ' := [(6, _)]) ⟨rfl, trivial⟩ ?_
    refine H_world (fun _ hA => hA.keep (m := [nn, nn, nn, nn, nn, nn, nn]) (Y := []) rfl) ?_
    refine H_ret1 Try.results6 (.tmp rfl) (fun w hA => ⟨(), congrArg Ending.returned ?_, ?_, ?_⟩)
    ·(exact congrArg Value.bool (by first | rfl | assumption | simp_all))
    ·trivial
    ·exact hA.keep (m := []) (Y := []) rfl
   intro h188
   replace h188 := dF h188
   (rw [hnm] at h188; exact absurd rfl h188)
  intro h183
  replace h183 := dF h183
  (rw [hrm] at h183; exact absurd rfl h183)
 intro h89
 replace h89 := dT (nF h89)
 refine HA_no (i := 5) (listed' := #[true, true, true, true, true, true, false, false, false, false, false, false, false]) (bodyPost_pan _ _ _) rfl rfl rfl rfl (by kernel_rfl) rfl (fun _ hA => hA) ?_
 refine HA_no (i := 6) (listed' := #[true, true, true, true, true, true, true, false, false, false, false, false, false]) (bodyPost_pan _ _ _) rfl rfl rfl rfl (by kernel_rfl) rfl (fun _ hA => hA) ?_
 refine HA_no (i := 7) (listed' := #[true, true, true, true, true, true, true, true, false, false, false, false, false]) (bodyPost_pan _ _ _) rfl rfl rfl rfl (by kernel_rfl) rfl (fun _ hA => hA) ?_
 refine HA_no (i := 8) (listed' := #[true, true, true, true, true, true, true, true, true, false, false, false, false]) (bodyPost_pan _ _ _) rfl rfl rfl rfl (by kernel_rfl) rfl (fun _ hA => hA) ?_
 refine HA_no (i := 9) (listed' := #[true, true, true, true, true, true, true, true, true, true, false, false, false]) (bodyPost_pan _ _ _) rfl rfl rfl rfl (by kernel_rfl) rfl (fun _ hA => hA) ?_
 refine HA_no (i := 10) (listed' := #[true, true, true, true, true, true, true, true, true, true, true, false, false]) (bodyPost_pan _ _ _) rfl rfl rfl rfl (by kernel_rfl) rfl (fun _ hA => hA) ?_
 refine HA_no (i := 11) (listed' := #[true, true, true, true, true, true, true, true, true, true, true, true, false]) (bodyPost_pan _ _ _) rfl rfl rfl rfl (by kernel_rfl) rfl (fun _ hA => hA) ?_
 refine HA_take (i := 12) (listed' := #[true, true, true, true, true, true, true, true, true, true, true, true, true]) (bodyPost_pan _ _ _) rfl rfl rfl rfl (by kernel_rfl) rfl (V_pick_f rfl rfl) (fun _ hA => hA) ?_
 refine HA_done (by kernel_rfl) ?_
 refine H_env (ρ' := [(97, _), (13, _), (12, _), (4, _), (10, _)]) ⟨rfl, rfl, rfl, rfl, rfl, trivial⟩ ?_
 refine H_world (fun _ hA => hA.keep (m := [yy, yy, yy, nn, nn, nn, yy, yy, nn, nn, yy, yy]) (Y := [_, _, _, _, _, _, _]) rfl) ?_
 refine H_cond rfl (fun h => nomatch h) (fun _ => ?_)
 refine H_skip ?_
 refine H_seq ?_
 refine H_seq ?_
 refine H_region (l := [_, _]) rfl ?_
 refine HO_fieldAddr (r := 0) rfl rfl rfl Try.underlying36 rfl Try.sizeOf3 rfl ?_
 refine HO_load1 (i := 4) (j := 0) rfl rfl rfl Try.isAgg3 rfl (.loc _ _ _) rfl rfl ?_
 refine HO_nil ?_
 refine H_env (ρ' := [(99, _), (13, _), (12, _), (4, _), (10, _)]) ⟨rfl, rfl, rfl, rfl, rfl, trivial⟩ ?_
 refine H_block ?_
 refine H_seq ?_
 refine H_region (l := [_, _]) rfl ?_
 refine HO_bin rfl rfl rfl rfl bin_eql ?_
 refine HO_assign rfl rfl rfl ?_
 refine HO_nil ?_
 refine H_env (ρ' := [(100, _), (99, _), (13, _), (12, _), (4, _), (10, _)]) ⟨rfl, rfl, rfl, rfl, rfl, rfl, trivial⟩ ?_
 refine H_cond rfl ?_ ?_
 ·intro h100
  replace h100 := dT h100
  have hm := Mod.maps_put (c := (⟨ki, ze.id, IntKind.i64.wrap (ze.seq + 1), ke, ol, cv, ti, li⟩ : Cmd)) (ps := (Mod.fold es).1) Mod.Inv.fold.ps h100 he0
  have hnow1 := hnow.trans hm.1
  have hrm := hr.trans (hm.2.trans hmine.symm)
  refine H_seq ?_
  refine H_region (l := [_, _, _, _, _, _, _, _, _, _, _, _, _, _, _, _, _, _]) rfl ?_
  refine HO_fieldAddr (r := 1) rfl rfl rfl Try.underlying38 rfl Try.sizeOf4 rfl ?_
  refine HO_load1 (i := 0) (j := 1) rfl rfl rfl Try.isAgg4 rfl (.loc _ _ _) rfl rfl ?_
  refine HO_move rfl rfl rfl ?_
  refine HO_split (d := 104) rfl ?_ ?_
  ·intro h104
   refine HO_fieldAddr (r := 2) rfl rfl rfl Try.underlying38 rfl Try.sizeOf9 rfl ?_
   refine HO_load1 (i := 0) (j := 2) rfl rfl rfl Try.isAgg9 rfl (.loc _ _ _) rfl rfl ?_
   refine HO_fieldAddr (r := 5) rfl rfl rfl Try.underlying36 rfl Try.sizeOf9 rfl ?_
   refine HO_load1 (i := 4) (j := 5) rfl rfl rfl Try.isAgg9 rfl (.loc _ _ _) rfl rfl ?_
   refine HO_bin rfl rfl rfl rfl bin_eqs ?_
   refine HO_pick_t rfl rfl rfl rfl ?_
   refine HO_move rfl rfl rfl ?_
   refine HO_split (d := 111) rfl ?_ ?_
   ·intro h111
    replace h111 := dT h111
    refine HO_loadA (i := 2) (us := []) (cs := [_, _, _, _, _]) (ts := []) rfl rfl rfl Try.isAgg38 Try.sizeOf38 rfl (.loc _ _ _) rfl rfl rfl rfl ?_
    refine HO_loadA (i := 5) (us := []) (cs := [_, _, _, _, _]) (ts := []) rfl rfl rfl Try.isAgg38 Try.sizeOf38 rfl (.loc _ _ _) rfl rfl rfl rfl ?_
    refine HO_dup (i := 3) rfl rfl ?_
    refine HO_dup (i := 7) rfl rfl ?_
    refine HO_call (first := []) (capt := []) (is := [0, 0]) (R := [_, _, _, _, _, _, _]) rfl rfl rfl rfl rfl Try.call19 rfl (rrsame9_spec _ _ _ _ _ _ _ _ _ _ _ _ _ _) ?_
    intro y114 hy114
    clear y114 hy114
    refine HO_pick_t rfl rfl rfl rfl ?_
    refine HO_move rfl rfl rfl ?_
    refine HO_split (d := 116) rfl ?_ ?_
    ·intro h116
     replace h116 := dT h116
     refine HO_call (first := []) (capt := []) (is := []) (R := [_, _, _, _, _, _, _]) rfl rfl rfl rfl rfl Try.call24 rfl lives20_spec ?_
     intro y117 hy117
     clear y117 hy117
     refine HO_pick_t rfl rfl rfl rfl ?_
     refine HO_assign rfl rfl rfl ?_
     refine HO_nil ?_
     refine H_env (ρ' := [(6, _)]) ⟨rfl, trivial⟩ ?_
     refine H_world (fun _ hA => hA.keep (m := [nn, nn, nn, nn, nn, nn, nn]) (Y := []) rfl) ?_
     refine H_ret1 Try.results6 (.tmp rfl) (fun w hA => ⟨(), congrArg Ending.returned ?_, ?_, ?_⟩)
     ·(exact congrArg Value.bool (by first | rfl | assumption | simp_all))
     ·trivial
     ·exact hA.keep (m := []) (Y := []) rfl
    intro h116
    replace h116 := dF h116
    (rw [hrm] at h116; exact absurd rfl h116)
   intro h111
   replace h111 := dF h111
   (rw [hnow1] at h111; exact absurd rfl h111)
  intro h104
  (rw [hnow1] at h104; cases h104)
 intro h100
 replace h100 := dF h100
 refine H_seq ?_
 refine H_region (l := [_, _]) rfl ?_
 refine HO_bin rfl rfl rfl rfl bin_eql ?_
 refine HO_assign rfl rfl rfl ?_
 refine HO_nil ?_
 refine H_env (ρ' := [(119, _), (99, _), (13, _), (12, _), (4, _), (10, _)]) ⟨rfl, rfl, rfl, rfl, rfl, rfl, trivial⟩ ?_
 refine H_cond rfl ?_ ?_
 ·intro h119
  replace h119 := dT h119
  have hm := Mod.maps_del (c := (⟨ki, ze.id, IntKind.i64.wrap (ze.seq + 1), ke, ol, cv, ti, li⟩ : Cmd)) (ps := (Mod.fold es).1) Mod.Inv.fold.ps h119
  have hnow1 := hnow.trans hm.1
  have hrm := hr.trans (hm.2.trans hmine.symm)
  refine H_seq ?_
  refine H_region (l := [_, _, _, _, _, _, _, _, _, _, _, _]) rfl ?_
  refine HO_fieldAddr (r := 1) rfl rfl rfl Try.underlying38 rfl Try.sizeOf4 rfl ?_
  refine HO_load1 (i := 0) (j := 1) rfl rfl rfl Try.isAgg4 rfl (.loc _ _ _) rfl rfl ?_
  refine HO_not rfl rfl rfl ?_
  refine HO_move rfl rfl rfl ?_
  refine HO_split (d := 124) rfl ?_ ?_
  ·intro h124
   replace h124 := nT h124
   refine HO_loadA (i := 2) (us := []) (cs := [_, _, _, _, _]) (ts := []) rfl rfl rfl Try.isAgg38 Try.sizeOf38 rfl (.loc _ _ _) rfl rfl rfl rfl ?_
   refine HO_loadA (i := 5) (us := []) (cs := [_, _, _, _, _]) (ts := []) rfl rfl rfl Try.isAgg38 Try.sizeOf38 rfl (.loc _ _ _) rfl rfl rfl rfl ?_
   refine HO_dup (i := 3) rfl rfl ?_
   refine HO_dup (i := 7) rfl rfl ?_
   refine HO_call (first := []) (capt := []) (is := [0, 0]) (R := [_, _, _, _, _, _, _]) rfl rfl rfl rfl rfl Try.call19 rfl (rrsame9_spec _ _ _ _ _ _ _ _ _ _ _ _ _ _) ?_
   intro y127 hy127
   clear y127 hy127
   refine HO_pick_t rfl rfl rfl rfl ?_
   refine HO_move rfl rfl rfl ?_
   refine HO_split (d := 129) rfl ?_ ?_
   ·intro h129
    replace h129 := dT h129
    refine HO_call (first := []) (capt := []) (is := []) (R := [_, _, _, _, _, _, _]) rfl rfl rfl rfl rfl Try.call24 rfl lives20_spec ?_
    intro y130 hy130
    clear y130 hy130
    refine HO_pick_t rfl rfl rfl rfl ?_
    refine HO_assign rfl rfl rfl ?_
    refine HO_nil ?_
    refine H_env (ρ' := [(6, _)]) ⟨rfl, trivial⟩ ?_
    refine H_world (fun _ hA => hA.keep (m := [nn, nn, nn, nn, nn, nn, nn]) (Y := []) rfl) ?_
    refine H_ret1 Try.results6 (.tmp rfl) (fun w hA => ⟨(), congrArg Ending.returned ?_, ?_, ?_⟩)
    ·(exact congrArg Value.bool (by first | rfl | assumption | simp_all))
    ·trivial
    ·exact hA.keep (m := []) (Y := []) rfl
   intro h129
   replace h129 := dF h129
   (rw [hrm] at h129; exact absurd rfl h129)
  intro h124
  replace h124 := nF h124
  (rw [hnow1] at h124; cases h124)
 intro h119
 replace h119 := dF h119
 refine H_seq ?_
 refine H_region (l := [_, _]) rfl ?_
 refine HO_bin rfl rfl rfl rfl bin_eql ?_
 refine HO_assign rfl rfl rfl ?_
 refine HO_nil ?_
 refine H_env (ρ' := [(132, _), (13, _), (12, _), (4, _), (10, _)]) ⟨rfl, rfl, rfl, rfl, rfl, trivial⟩ ?_
 refine H_cond rfl ?_ ?_
 ·intro h132
  replace h132 := dT h132
  have hm := Mod.maps_cas (c := (⟨ki, ze.id, IntKind.i64.wrap (ze.seq + 1), ke, ol, cv, ti, li⟩ : Cmd)) (ps := (Mod.fold es).1) Mod.Inv.fold.ps h132
  refine H_seq ?_
  rcases (Bool.eq_false_or_eq_true (Mod.casOk (⟨ki, ze.id, IntKind.i64.wrap (ze.seq + 1), ke, ol, cv, ti, li⟩ : Cmd) (Mod.fold es).1)) with hc | hc
  ·skip
   have hr6 := hr.trans hm.1
   rw [hc] at hr6
   have hnm := hnow.trans hm.2
   rw [hc] at hnm
   have hnow1 := hnm.trans (if_pos rfl)
   have hcc := hc
   unfold Mod.casOk at hcc
   have hmf : (Mod.query (Mod.fold es).1 (⟨4, 0, 0, ke, ⟨#[]⟩, ⟨#[]⟩, ⟨#[]⟩, 0⟩ : Cmd)).found = true := by rw [hmine]; exact (Bool.and_eq_true_iff.1 hcc).1
   have hmv : (Mod.query (Mod.fold es).1 (⟨4, 0, 0, ke, ⟨#[]⟩, ⟨#[]⟩, ⟨#[]⟩, 0⟩ : Cmd)).val = ol := by rw [hmine]; exact of_decide_eq_true (Bool.and_eq_true_iff.1 hcc).2
   refine H_region (l := [_, _, _, _, _, _, _, _, _, _]) rfl ?_
   refine HO_fieldAddr (r := 1) rfl rfl rfl Try.underlying38 rfl Try.sizeOf4 rfl ?_
   refine HO_load1 (i := 5) (j := 1) rfl rfl rfl Try.isAgg4 rfl (.loc _ _ _) rfl rfl ?_
   refine HO_move rfl rfl rfl ?_
   refine HO_split (d := 136) rfl ?_ ?_
   ·intro h136
    refine HO_fieldAddr (r := 2) rfl rfl rfl Try.underlying38 rfl Try.sizeOf9 rfl ?_
    refine HO_load1 (i := 5) (j := 2) rfl rfl rfl Try.isAgg9 rfl (.loc _ _ _) rfl rfl ?_
    refine HO_fieldAddr (r := 4) rfl rfl rfl Try.underlying36 rfl Try.sizeOf9 rfl ?_
    refine HO_load1 (i := 4) (j := 4) rfl rfl rfl Try.isAgg9 rfl (.loc _ _ _) rfl rfl ?_
    refine HO_bin rfl rfl rfl rfl bin_eqs ?_
    refine HO_pick_t rfl rfl rfl rfl ?_
    refine HO_assign rfl rfl rfl ?_
    refine HO_nil ?_
    refine H_env (ρ' := [(14, _), (13, _), (12, _), (4, _), (10, _)]) ⟨rfl, rfl, rfl, rfl, rfl, trivial⟩ ?_
    refine H_seq ?_
    refine H_region (l := [_, _, _, _, _, _, _, _, _, _, _, _, _, _, _, _, _, _, _, _, _, _, _, _, _, _, _, _, _, _, _, _, _, _, _, _, _, _]) rfl ?_
    refine HO_fieldAddr (r := 1) rfl rfl rfl Try.underlying38 rfl Try.sizeOf4 rfl ?_
    refine HO_load1 (i := 2) (j := 1) rfl rfl rfl Try.isAgg4 rfl (.loc _ _ _) rfl rfl ?_
    refine HO_move rfl rfl rfl ?_
    refine HO_bin rfl rfl rfl rfl (bin_eqb Try.runUnderlying4) ?_
    refine HO_move rfl rfl rfl ?_
    refine HO_split (d := 147) rfl ?_ ?_
    ·intro h147
     (try simp only [decide_eq_true_eq, decide_eq_false_iff_not, Bool.not_eq_true', Bool.not_eq_false', Bool.not_eq_true, Bool.not_eq_false, Bool.true_eq_false, Bool.false_eq_true, not_false_eq_true, not_true_eq_false] at h147)
     refine HO_fieldAddr (r := 2) rfl rfl rfl Try.underlying38 rfl Try.sizeOf9 rfl ?_
     refine HO_load1 (i := 2) (j := 2) rfl rfl rfl Try.isAgg9 rfl (.loc _ _ _) rfl rfl ?_
     refine HO_fieldAddr (r := 2) rfl rfl rfl Try.underlying38 rfl Try.sizeOf9 rfl ?_
     refine HO_load1 (i := 5) (j := 2) rfl rfl rfl Try.isAgg9 rfl (.loc _ _ _) rfl rfl ?_
     refine HO_bin rfl rfl rfl rfl bin_eqs ?_
     refine HO_pick_t rfl rfl rfl rfl ?_
     refine HO_move rfl rfl rfl ?_
     refine HO_split (d := 154) rfl ?_ ?_
     ·intro h154
      replace h154 := dT h154
      refine HO_move rfl rfl rfl ?_
      refine HO_not rfl rfl rfl ?_
      refine HO_move rfl rfl rfl ?_
      refine HO_split (d := 157) rfl ?_ ?_
      ·intro h157
       replace h157 := dF (nT h157)
       (first | (simp [hmv] at h157; done) | (simp_all; done))
      intro h157
      replace h157 := dT (nF h157)
      iterate 3 refine HO_no rfl rfl rfl ?_
      refine HO_pick_f rfl rfl rfl rfl ?_
      iterate 3 refine HO_move rfl rfl rfl ?_
      refine HO_split (d := 164) rfl ?_ ?_
      ·intro h164
       replace h164 := dT h164
       refine HO_fieldAddr (r := 1) rfl rfl rfl Try.underlying38 rfl Try.sizeOf4 rfl ?_
       refine HO_load1 (i := 0) (j := 1) rfl rfl rfl Try.isAgg4 rfl (.loc _ _ _) rfl rfl ?_
       refine HO_pick_t rfl rfl rfl rfl ?_
       refine HO_move rfl rfl rfl ?_
       refine HO_split (d := 168) rfl ?_ ?_
       ·intro h168
        refine HO_fieldAddr (r := 2) rfl rfl rfl Try.underlying38 rfl Try.sizeOf9 rfl ?_
        refine HO_load1 (i := 0) (j := 2) rfl rfl rfl Try.isAgg9 rfl (.loc _ _ _) rfl rfl ?_
        refine HO_fieldAddr (r := 5) rfl rfl rfl Try.underlying36 rfl Try.sizeOf9 rfl ?_
        refine HO_load1 (i := 4) (j := 5) rfl rfl rfl Try.isAgg9 rfl (.loc _ _ _) rfl rfl ?_
        refine HO_bin rfl rfl rfl rfl bin_eqs ?_
        refine HO_pick_t rfl rfl rfl rfl ?_
        refine HO_pick_f rfl rfl rfl rfl ?_
        refine HO_pick_t rfl rfl rfl rfl ?_
        refine HO_move rfl rfl rfl ?_
        refine HO_split (d := 177) rfl ?_ ?_
        ·intro h177
         replace h177 := dT h177
         refine HO_call (first := []) (capt := []) (is := []) (R := [_, _, _, _, _, _, _]) rfl rfl rfl rfl rfl Try.call24 rfl lives20_spec ?_
         intro y178 hy178
         clear y178 hy178
         refine HO_pick_t rfl rfl rfl rfl ?_
         refine HO_assign rfl rfl rfl ?_
         refine HO_nil ?_
         refine H_env (ρ' := [(6, _)]) ⟨rfl, trivial⟩ ?_
         refine H_world (fun _ hA => hA.keep (m := [nn, nn, nn, nn, nn, nn, nn]) (Y := []) rfl) ?_
         refine H_ret1 Try.results6 (.tmp rfl) (fun w hA => ⟨(), congrArg Ending.returned ?_, ?_, ?_⟩)
         ·(exact congrArg Value.bool (by first | rfl | assumption | simp_all))
         ·trivial
         ·exact hA.keep (m := []) (Y := []) rfl
        intro h177
        replace h177 := dF h177
        (first | (rw [hnow1] at h177; exact absurd rfl h177) | (simp_all; done))
       intro h168
       (rw [hnow1] at h168; cases h168)
      intro h164
      replace h164 := dF h164
      (first | (exact absurd hmv h164) | (simp_all; done))
     intro h154
     replace h154 := dF h154
     (first | (rw [hr6, hmine] at h154; exact absurd rfl h154) | (simp_all; done))
    intro h147
    (try simp only [decide_eq_true_eq, decide_eq_false_iff_not, Bool.not_eq_true', Bool.not_eq_false', Bool.not_eq_true, Bool.not_eq_false, Bool.true_eq_false, Bool.false_eq_true, not_false_eq_true, not_true_eq_false] at h147)
    (first | (simp [hr6, hmv] at h147; done) | (simp_all; done))
   intro h136
   (rw [hmf] at h136; cases h136)
  ·skip
   have hr6 := hr.trans hm.1
   rw [hc] at hr6
   have hnm := hnow.trans hm.2
   rw [hc] at hnm
   replace hnm := hnm.trans ((if_neg (by decide)).trans hmine.symm)
   have hcc : ((Mod.query (Mod.fold es).1 (⟨4, 0, 0, ke, ⟨#[]⟩, ⟨#[]⟩, ⟨#[]⟩, 0⟩ : Cmd)).found && decide ((Mod.query (Mod.fold es).1 (⟨4, 0, 0, ke, ⟨#[]⟩, ⟨#[]⟩, ⟨#[]⟩, 0⟩ : Cmd)).val = ol)) = false := by rw [hmine]; exact hc
   refine H_region (l := [_, _, _, _, _, _, _, _, _, _]) rfl ?_
   refine HO_fieldAddr (r := 1) rfl rfl rfl Try.underlying38 rfl Try.sizeOf4 rfl ?_
   refine HO_load1 (i := 5) (j := 1) rfl rfl rfl Try.isAgg4 rfl (.loc _ _ _) rfl rfl ?_
   refine HO_move rfl rfl rfl ?_
   refine HO_split (d := 136) rfl ?_ ?_
   ·intro h136
    refine HO_fieldAddr (r := 2) rfl rfl rfl Try.underlying38 rfl Try.sizeOf9 rfl ?_
    refine HO_load1 (i := 5) (j := 2) rfl rfl rfl Try.isAgg9 rfl (.loc _ _ _) rfl rfl ?_
    refine HO_fieldAddr (r := 4) rfl rfl rfl Try.underlying36 rfl Try.sizeOf9 rfl ?_
    refine HO_load1 (i := 4) (j := 4) rfl rfl rfl Try.isAgg9 rfl (.loc _ _ _) rfl rfl ?_
    refine HO_bin rfl rfl rfl rfl bin_eqs ?_
    refine HO_pick_t rfl rfl rfl rfl ?_
    refine HO_assign rfl rfl rfl ?_
    refine HO_nil ?_
    refine H_env (ρ' := [(14, _), (13, _), (12, _), (4, _), (10, _)]) ⟨rfl, rfl, rfl, rfl, rfl, trivial⟩ ?_
    refine H_seq ?_
    refine H_region (l := [_, _, _, _, _, _, _, _, _, _, _, _, _, _, _, _, _, _, _, _, _, _, _, _, _, _, _, _, _, _, _, _, _, _, _, _, _, _]) rfl ?_
    refine HO_fieldAddr (r := 1) rfl rfl rfl Try.underlying38 rfl Try.sizeOf4 rfl ?_
    refine HO_load1 (i := 2) (j := 1) rfl rfl rfl Try.isAgg4 rfl (.loc _ _ _) rfl rfl ?_
    refine HO_move rfl rfl rfl ?_
    refine HO_bin rfl rfl rfl rfl (bin_eqb Try.runUnderlying4) ?_
    refine HO_move rfl rfl rfl ?_
    refine HO_split (d := 147) rfl ?_ ?_
    ·intro h147
     (try simp only [decide_eq_true_eq, decide_eq_false_iff_not, Bool.not_eq_true', Bool.not_eq_false', Bool.not_eq_true, Bool.not_eq_false, Bool.true_eq_false, Bool.false_eq_true, not_false_eq_true, not_true_eq_false] at h147)
     refine HO_fieldAddr (r := 2) rfl rfl rfl Try.underlying38 rfl Try.sizeOf9 rfl ?_
     refine HO_load1 (i := 2) (j := 2) rfl rfl rfl Try.isAgg9 rfl (.loc _ _ _) rfl rfl ?_
     refine HO_fieldAddr (r := 2) rfl rfl rfl Try.underlying38 rfl Try.sizeOf9 rfl ?_
     refine HO_load1 (i := 5) (j := 2) rfl rfl rfl Try.isAgg9 rfl (.loc _ _ _) rfl rfl ?_
     refine HO_bin rfl rfl rfl rfl bin_eqs ?_
     refine HO_pick_t rfl rfl rfl rfl ?_
     refine HO_move rfl rfl rfl ?_
     refine HO_split (d := 154) rfl ?_ ?_
     ·intro h154
      replace h154 := dT h154
      refine HO_move rfl rfl rfl ?_
      refine HO_not rfl rfl rfl ?_
      refine HO_move rfl rfl rfl ?_
      refine HO_split (d := 157) rfl ?_ ?_
      ·intro h157
       replace h157 := dF (nT h157)
       refine HO_loadA (i := 0) (us := []) (cs := [_, _, _, _, _]) (ts := []) rfl rfl rfl Try.isAgg38 Try.sizeOf38 rfl (.loc _ _ _) rfl rfl rfl rfl ?_
       refine HO_loadA (i := 5) (us := []) (cs := [_, _, _, _, _]) (ts := []) rfl rfl rfl Try.isAgg38 Try.sizeOf38 rfl (.loc _ _ _) rfl rfl rfl rfl ?_
       refine HO_dup (i := 1) rfl rfl ?_
       refine HO_dup (i := 7) rfl rfl ?_
       refine HO_call (first := []) (capt := []) (is := [0, 0]) (R := [_, _, _, _, _, _, _]) rfl rfl rfl rfl rfl Try.call19 rfl (rrsame9_spec _ _ _ _ _ _ _ _ _ _ _ _ _ _) ?_
       intro y160 hy160
       clear y160 hy160
       refine HO_pick_t rfl rfl rfl rfl ?_
       refine HO_move rfl rfl rfl ?_
       refine HO_split (d := 162) rfl ?_ ?_
       ·intro h162
        replace h162 := dT h162
        iterate 12 refine HO_no rfl rfl rfl ?_
        iterate 2 refine HO_pick_t rfl rfl rfl rfl ?_
        refine HO_move rfl rfl rfl ?_
        refine HO_call (first := []) (capt := []) (is := []) (R := [_, _, _, _, _, _, _]) rfl rfl rfl rfl rfl Try.call24 rfl lives20_spec ?_
        intro y178 hy178
        clear y178 hy178
        refine HO_pick_t rfl rfl rfl rfl ?_
        refine HO_assign rfl rfl rfl ?_
        refine HO_nil ?_
        refine H_env (ρ' := [(6, _)]) ⟨rfl, trivial⟩ ?_
        refine H_world (fun _ hA => hA.keep (m := [nn, nn, nn, nn, nn, nn, nn]) (Y := []) rfl) ?_
        refine H_ret1 Try.results6 (.tmp rfl) (fun w hA => ⟨(), congrArg Ending.returned ?_, ?_, ?_⟩)
        ·(exact congrArg Value.bool (by first | rfl | assumption | simp_all))
        ·trivial
        ·exact hA.keep (m := []) (Y := []) rfl
       intro h162
       replace h162 := dF h162
       (rw [hnm] at h162; exact absurd rfl h162)
      intro h157
      replace h157 := dT (nF h157)
      (first | (simp_all; done))
     intro h154
     replace h154 := dF h154
     (first | (rw [hr6, hmine] at h154; exact absurd rfl h154) | (simp_all; done))
    intro h147
    (try simp only [decide_eq_true_eq, decide_eq_false_iff_not, Bool.not_eq_true', Bool.not_eq_false', Bool.not_eq_true, Bool.not_eq_false, Bool.true_eq_false, Bool.false_eq_true, not_false_eq_true, not_true_eq_false] at h147)
    (first | (simp [hr6, hmv] at h147; done) | (simp_all; done))
   intro h136
   iterate 5 refine HO_no rfl rfl rfl ?_
   refine HO_pick_f rfl rfl rfl rfl ?_
   refine HO_assign rfl rfl rfl ?_
   refine HO_nil ?_
   refine H_env (ρ' := [(14, _), (13, _), (12, _), (4, _), (10, _)]) ⟨rfl, rfl, rfl, rfl, rfl, trivial⟩ ?_
   refine H_seq ?_
   refine H_region (l := [_, _, _, _, _, _, _, _, _, _, _, _, _, _, _, _, _, _, _, _, _, _, _, _, _, _, _, _, _, _, _, _, _, _, _, _, _, _]) rfl ?_
   refine HO_fieldAddr (r := 1) rfl rfl rfl Try.underlying38 rfl Try.sizeOf4 rfl ?_
   refine HO_load1 (i := 2) (j := 1) rfl rfl rfl Try.isAgg4 rfl (.loc _ _ _) rfl rfl ?_
   refine HO_move rfl rfl rfl ?_
   refine HO_bin rfl rfl rfl rfl (bin_eqb Try.runUnderlying4) ?_
   refine HO_move rfl rfl rfl ?_
   refine HO_split (d := 147) rfl ?_ ?_
   ·intro h147
    (try simp only [decide_eq_true_eq, decide_eq_false_iff_not, Bool.not_eq_true', Bool.not_eq_false', Bool.not_eq_true, Bool.not_eq_false, Bool.true_eq_false, Bool.false_eq_true, not_false_eq_true, not_true_eq_false] at h147)
    refine HO_fieldAddr (r := 2) rfl rfl rfl Try.underlying38 rfl Try.sizeOf9 rfl ?_
    refine HO_load1 (i := 2) (j := 2) rfl rfl rfl Try.isAgg9 rfl (.loc _ _ _) rfl rfl ?_
    refine HO_fieldAddr (r := 2) rfl rfl rfl Try.underlying38 rfl Try.sizeOf9 rfl ?_
    refine HO_load1 (i := 5) (j := 2) rfl rfl rfl Try.isAgg9 rfl (.loc _ _ _) rfl rfl ?_
    refine HO_bin rfl rfl rfl rfl bin_eqs ?_
    refine HO_pick_t rfl rfl rfl rfl ?_
    refine HO_move rfl rfl rfl ?_
    refine HO_split (d := 154) rfl ?_ ?_
    ·intro h154
     replace h154 := dT h154
     refine HO_move rfl rfl rfl ?_
     refine HO_not rfl rfl rfl ?_
     refine HO_move rfl rfl rfl ?_
     refine HO_loadA (i := 0) (us := []) (cs := [_, _, _, _, _]) (ts := []) rfl rfl rfl Try.isAgg38 Try.sizeOf38 rfl (.loc _ _ _) rfl rfl rfl rfl ?_
     refine HO_loadA (i := 5) (us := []) (cs := [_, _, _, _, _]) (ts := []) rfl rfl rfl Try.isAgg38 Try.sizeOf38 rfl (.loc _ _ _) rfl rfl rfl rfl ?_
     refine HO_dup (i := 1) rfl rfl ?_
     refine HO_dup (i := 7) rfl rfl ?_
     refine HO_call (first := []) (capt := []) (is := [0, 0]) (R := [_, _, _, _, _, _, _]) rfl rfl rfl rfl rfl Try.call19 rfl (rrsame9_spec _ _ _ _ _ _ _ _ _ _ _ _ _ _) ?_
     intro y160 hy160
     clear y160 hy160
     refine HO_pick_t rfl rfl rfl rfl ?_
     refine HO_move rfl rfl rfl ?_
     refine HO_split (d := 162) rfl ?_ ?_
     ·intro h162
      replace h162 := dT h162
      iterate 12 refine HO_no rfl rfl rfl ?_
      iterate 2 refine HO_pick_t rfl rfl rfl rfl ?_
      refine HO_move rfl rfl rfl ?_
      refine HO_call (first := []) (capt := []) (is := []) (R := [_, _, _, _, _, _, _]) rfl rfl rfl rfl rfl Try.call24 rfl lives20_spec ?_
      intro y178 hy178
      clear y178 hy178
      refine HO_pick_t rfl rfl rfl rfl ?_
      refine HO_assign rfl rfl rfl ?_
      refine HO_nil ?_
      refine H_env (ρ' := [(6, _)]) ⟨rfl, trivial⟩ ?_
      refine H_world (fun _ hA => hA.keep (m := [nn, nn, nn, nn, nn, nn, nn]) (Y := []) rfl) ?_
      refine H_ret1 Try.results6 (.tmp rfl) (fun w hA => ⟨(), congrArg Ending.returned ?_, ?_, ?_⟩)
      ·(exact congrArg Value.bool (by first | rfl | assumption | simp_all))
      ·trivial
      ·exact hA.keep (m := []) (Y := []) rfl
     intro h162
     replace h162 := dF h162
     (rw [hnm] at h162; exact absurd rfl h162)
    intro h154
    replace h154 := dF h154
    (first | (rw [hr6, hmine] at h154; exact absurd rfl h154) | (simp_all; done))
   intro h147
   (try simp only [decide_eq_true_eq, decide_eq_false_iff_not, Bool.not_eq_true', Bool.not_eq_false', Bool.not_eq_true, Bool.not_eq_false, Bool.true_eq_false, Bool.false_eq_true, not_false_eq_true, not_true_eq_false] at h147)
   (first | (simp [hr6, hmv] at h147; done) | (simp_all; done))
 intro h132
 replace h132 := dF h132
 refine H_skip ?_
 refine H_blk ?_
 refine H_seq ?_
 have hm := Mod.maps_get (c := (⟨ki, ze.id, IntKind.i64.wrap (ze.seq + 1), ke, ol, cv, ti, li⟩ : Cmd)) (ps := (Mod.fold es).1) h100 h119 h132 h78
 have hrm := hr.trans (hm.2.trans hmine.symm)
 have hnm : (Mod.query (Mod.apply (Mod.fold es).1 (Mod.fold es).2 1000 (⟨ki, ze.id, IntKind.i64.wrap (ze.seq + 1), ke, ol, cv, ti, li⟩ : Cmd)).1 (⟨4, 0, 0, ke, ⟨#[]⟩, ⟨#[]⟩, ⟨#[]⟩, 0⟩ : Cmd)) = (Mod.query (Mod.fold es).1 (⟨4, 0, 0, ke, ⟨#[]⟩, ⟨#[]⟩, ⟨#[]⟩, 0⟩ : Cmd)) := hnow.trans (by rw [hm.1]; exact hmine.symm)
 refine H_region (l := [_, _, _, _, _, _, _, _, _, _, _, _]) rfl ?_
 refine HO_loadA (i := 2) (us := []) (cs := [_, _, _, _, _]) (ts := []) rfl rfl rfl Try.isAgg38 Try.sizeOf38 rfl (.loc _ _ _) rfl rfl rfl rfl ?_
 refine HO_loadA (i := 5) (us := []) (cs := [_, _, _, _, _]) (ts := []) rfl rfl rfl Try.isAgg38 Try.sizeOf38 rfl (.loc _ _ _) rfl rfl rfl rfl ?_
 refine HO_dup (i := 3) rfl rfl ?_
 refine HO_dup (i := 7) rfl rfl ?_
 refine HO_call (first := []) (capt := []) (is := [0, 0]) (R := [_, _, _, _, _, _, _]) rfl rfl rfl rfl rfl Try.call19 rfl (rrsame9_spec _ _ _ _ _ _ _ _ _ _ _ _ _ _) ?_
 intro y182 hy182
 clear y182 hy182
 refine HO_move rfl rfl rfl ?_
 refine HO_split (d := 183) rfl ?_ ?_
 ·intro h183
  replace h183 := dT h183
  refine HO_loadA (i := 0) (us := []) (cs := [_, _, _, _, _]) (ts := []) rfl rfl rfl Try.isAgg38 Try.sizeOf38 rfl (.loc _ _ _) rfl rfl rfl rfl ?_
  refine HO_loadA (i := 5) (us := []) (cs := [_, _, _, _, _]) (ts := []) rfl rfl rfl Try.isAgg38 Try.sizeOf38 rfl (.loc _ _ _) rfl rfl rfl rfl ?_
  refine HO_dup (i := 1) rfl rfl ?_
  refine HO_dup (i := 7) rfl rfl ?_
  refine HO_call (first := []) (capt := []) (is := [0, 0]) (R := [_, _, _, _, _, _, _]) rfl rfl rfl rfl rfl Try.call19 rfl (rrsame9_spec _ _ _ _ _ _ _ _ _ _ _ _ _ _) ?_
  intro y186 hy186
  clear y186 hy186
  refine HO_pick_t rfl rfl rfl rfl ?_
  refine HO_move rfl rfl rfl ?_
  refine HO_split (d := 188) rfl ?_ ?_
  ·intro h188
   replace h188 := dT h188
   refine HO_call (first := []) (capt := []) (is := []) (R := [_, _, _, _, _, _, _]) rfl rfl rfl rfl rfl Try.call24 rfl lives20_spec ?_
   intro y189 hy189
   clear y189 hy189
   refine HO_pick_t rfl rfl rfl rfl ?_
   refine HO_assign rfl rfl rfl ?_
   refine HO_nil ?_
   refine H_env (ρ' := [(6, _)]) ⟨rfl, trivial⟩ ?_
   refine H_world (fun _ hA => hA.keep (m := [nn, nn, nn, nn, nn, nn, nn]) (Y := []) rfl) ?_
   refine H_ret1 Try.results6 (.tmp rfl) (fun w hA => ⟨(), congrArg Ending.returned ?_, ?_, ?_⟩)
   ·(exact congrArg Value.bool (by first | rfl | assumption | simp_all))
   ·trivial
   ·exact hA.keep (m := []) (Y := []) rfl
  intro h188
  replace h188 := dF h188
  (rw [hnm] at h188; exact absurd rfl h188)
 intro h183
 replace h183 := dF h183
 (rw [hrm] at h183; exact absurd rfl h183)
end Go.Wk
