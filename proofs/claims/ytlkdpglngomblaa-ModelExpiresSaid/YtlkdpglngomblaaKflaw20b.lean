/- Contracts of the program's functions, each proved by walking its code. -/
import Derived.Test.YtlkdpglngomblaaKflaw20
import Derived.Test.YtlkdpglngomblaaMod6
set_option maxRecDepth 100000
set_option linter.unusedVariables false
set_option linter.unusedSimpArgs false
namespace Go.Wk.Flaw20b
open Go Go.RowKit Go.Proofs Go.Wk
theorem bd36_0_1_ii {x1 : Int} {x2 : Int} : ∀ w, (Instr.build 36 (List.toArray (List.zip [0, 1] [.int .i64 x1, .int .i64 x2]))).run Try.prog w = .ok (.agg #[.int .i64 x1, .int .i64 x2, .int .i64 (0), .string (⟨#[]⟩), .string (⟨#[]⟩), .string (⟨#[]⟩), .string (⟨#[]⟩), .int .i64 (0)]) w := fun _ => by kernel_rfl
theorem bd36_0_3_it {x1 : Int} {x2 : ByteArray} : ∀ w, (Instr.build 36 (List.toArray (List.zip [0, 3] [.int .i64 x1, .string x2]))).run Try.prog w = .ok (.agg #[.int .i64 x1, .int .i64 (0), .int .i64 (0), .string x2, .string (⟨#[]⟩), .string (⟨#[]⟩), .string (⟨#[]⟩), .int .i64 (0)]) w := fun _ => by kernel_rfl
end Go.Wk.Flaw20b
namespace Go.Wk
open Go Go.RowKit Go.Proofs Flaw20b 
set_option maxHeartbeats 0 in
theorem ModelExpires_spec (es : List Ent) (a : Option Addr) (c : Nat) (ki cs sq : Int) (ke ol cv ti : ByteArray) (li : Int) (ky : ByteArray) (rc : -9223372036854775808 ≤ cs ∧ cs ≤ 9223372036854775807) (rq : -9223372036854775808 ≤ sq ∧ sq ≤ 9223372036854775807) (sk : ke.size ≤ BIG) (so : ol.size ≤ BIG) (sc : cv.size ≤ BIG) (st : ti.size ≤ BIG) (sy : ky.size ≤ BIG) : Spec Try.prog 10 #[.slice a (es.length) c, .agg #[.int .i64 (ki), .int .i64 (cs), .int .i64 (sq), .string (ke), .string (ol), .string (cv), .string (ti), .int .i64 (li)], .string (ky)] [.dat kEnt.sl (es) [.slice a (es.length) c]] (β := Unit) (fun y => .bool (true)) (fun y => True) (fun y => []) := by
 refine Spec.enter (vs := [_, _, _]) Try.func10 rfl Try.ntmps10 rfl (Nat.le_of_ble_eq_true rfl) (fun w0 ok0 => ?_)
 generalize hM0 : blks _ = M0
 have hMn := @noM _ _ hM0 (by simp [Atom.dat, Atom.elem])
 refine H_len_le (i := 0) rfl ?_
 intro hlen0
 refine H_seq ?_
 refine H_region (l := [_, _]) rfl ?_
 refine HO_box (cs := [_, _, _, _, _, _, _, _]) rfl rfl rfl rfl ?_
 intro g4
 refine HO_assign rfl rfl rfl ?_
 refine HO_nil ?_
 refine H_env (ρ' := [(4, _), (0, _), (2, _)]) ⟨rfl, rfl, rfl, trivial⟩ ?_
 refine H_seq ?_
 refine H_seq ?_
 refine H_region (l := [_, _, _, _, _, _, _, _, _, _, _, _, _, _, _]) rfl ?_
 refine HO_move rfl rfl rfl ?_
 refine HO_dup (i := 1) rfl rfl ?_
 refine HO_call (first := []) (capt := []) (is := [0]) (R := [_, _]) rfl rfl rfl rfl rfl Try.call22 rfl (heavy20_spec _ _ _) ?_
 intro y15 hy15
 refine HO_move rfl rfl rfl ?_
 refine HO_split (d := 16) rfl ?_ ?_
 ·intro h16
  iterate 2 refine HO_no rfl rfl rfl ?_
  refine HO_pick_t rfl rfl rfl rfl ?_
  refine HO_move rfl rfl rfl ?_
  iterate 3 refine HO_no rfl rfl rfl ?_
  refine HO_pick_t rfl rfl rfl rfl ?_
  refine HO_move rfl rfl rfl ?_
  iterate 2 refine HO_no rfl rfl rfl ?_
  refine HO_pick_t rfl rfl rfl rfl ?_
  refine HO_nil ?_
  refine H_env (ρ' := [(28, _), (4, _), (0, _), (2, _)]) ⟨rfl, rfl, rfl, rfl, trivial⟩ ?_
  refine H_cond rfl (fun _ => ?_) (fun h => nomatch h)
  refine H_seq ?_
  refine H_region (l := [_, _]) rfl ?_
  refine HO_call (first := []) (capt := []) (is := []) (R := [_, _]) rfl rfl rfl rfl rfl Try.call24 rfl lives20_spec ?_
  intro y29 hy29
  clear y29 hy29
  refine HO_assign rfl rfl rfl ?_
  refine HO_nil ?_
  refine H_env (ρ' := [(6, _)]) ⟨rfl, trivial⟩ ?_
  refine H_world (fun _ hA => hA.keep (m := [nn, nn]) (Y := []) rfl) ?_
  refine H_ret1 Try.results10 (.tmp rfl) (fun w hA => ⟨(), congrArg Ending.returned ?_, ?_, ?_⟩)
  ·(exact congrArg Value.bool (by first | rfl | assumption | simp_all))
  ·trivial
  ·exact hA.keep (m := []) (Y := []) rfl
 intro h16
 refine HO_loadA (i := 0) (us := []) (cs := [_, _, _, _, _, _, _, _]) (ts := []) rfl rfl rfl Try.isAgg36 Try.sizeOf36 rfl (.loc _ _ _) rfl rfl rfl rfl ?_
 refine HO_call (first := []) (capt := []) (is := []) (R := [_, _]) rfl rfl rfl rfl rfl Try.call23 rfl (great20_spec _ _ _ _ _ _ _ _ ?_ ?_ ?_ ?_) ?_
 ·exact sk
 ·exact so
 ·exact sc
 ·exact st
 intro y18 hy18
 clear y18 hy18
 refine HO_pick_f rfl rfl rfl rfl ?_
 refine HO_move rfl rfl rfl ?_
 refine HO_split (d := 20) rfl ?_ ?_
 ·intro h20
  replace h20 := dT h20
  iterate 3 refine HO_no rfl rfl rfl ?_
  refine HO_pick_t rfl rfl rfl rfl ?_
  refine HO_move rfl rfl rfl ?_
  iterate 2 refine HO_no rfl rfl rfl ?_
  refine HO_pick_t rfl rfl rfl rfl ?_
  refine HO_nil ?_
  refine H_env (ρ' := [(28, _), (4, _), (0, _), (2, _)]) ⟨rfl, rfl, rfl, rfl, trivial⟩ ?_
  refine H_cond rfl (fun _ => ?_) (fun h => nomatch h)
  refine H_seq ?_
  refine H_region (l := [_, _]) rfl ?_
  refine HO_call (first := []) (capt := []) (is := []) (R := [_, _]) rfl rfl rfl rfl rfl Try.call24 rfl lives20_spec ?_
  intro y29 hy29
  clear y29 hy29
  refine HO_assign rfl rfl rfl ?_
  refine HO_nil ?_
  refine H_env (ρ' := [(6, _)]) ⟨rfl, trivial⟩ ?_
  refine H_world (fun _ hA => hA.keep (m := [nn, nn]) (Y := []) rfl) ?_
  refine H_ret1 Try.results10 (.tmp rfl) (fun w hA => ⟨(), congrArg Ending.returned ?_, ?_, ?_⟩)
  ·(exact congrArg Value.bool (by first | rfl | assumption | simp_all))
  ·trivial
  ·exact hA.keep (m := []) (Y := []) rfl
 intro h20
 replace h20 := dF h20
 refine HO_move rfl rfl rfl ?_
 refine HO_bi rfl rfl rfl (bi_len_str Try.underlying9) ?_
 refine HO_bin rfl rfl rfl rfl bin_gtr ?_
 refine HO_pick_f rfl rfl rfl rfl ?_
 refine HO_move rfl rfl rfl ?_
 refine HO_split (d := 25) rfl ?_ ?_
 ·intro h25
  replace h25 := dT h25
  iterate 2 refine HO_no rfl rfl rfl ?_
  refine HO_pick_t rfl rfl rfl rfl ?_
  refine HO_nil ?_
  refine H_env (ρ' := [(28, _), (4, _), (0, _), (2, _)]) ⟨rfl, rfl, rfl, rfl, trivial⟩ ?_
  refine H_cond rfl (fun _ => ?_) (fun h => nomatch h)
  refine H_seq ?_
  refine H_region (l := [_, _]) rfl ?_
  refine HO_call (first := []) (capt := []) (is := []) (R := [_, _]) rfl rfl rfl rfl rfl Try.call24 rfl lives20_spec ?_
  intro y29 hy29
  clear y29 hy29
  refine HO_assign rfl rfl rfl ?_
  refine HO_nil ?_
  refine H_env (ρ' := [(6, _)]) ⟨rfl, trivial⟩ ?_
  refine H_world (fun _ hA => hA.keep (m := [nn, nn]) (Y := []) rfl) ?_
  refine H_ret1 Try.results10 (.tmp rfl) (fun w hA => ⟨(), congrArg Ending.returned ?_, ?_, ?_⟩)
  ·(exact congrArg Value.bool (by first | rfl | assumption | simp_all))
  ·trivial
  ·exact hA.keep (m := []) (Y := []) rfl
 intro h25
 replace h25 := dF h25
 refine HO_move rfl rfl rfl ?_
 refine HO_bin rfl rfl rfl rfl bin_eqs ?_
 refine HO_pick_f rfl rfl rfl rfl ?_
 refine HO_nil ?_
 refine H_env (ρ' := [(28, _), (4, _), (0, _), (2, _)]) ⟨rfl, rfl, rfl, rfl, trivial⟩ ?_
 refine H_cond rfl ?_ ?_
 ·intro h28
  replace h28 := dT h28
  refine H_seq ?_
  refine H_region (l := [_, _]) rfl ?_
  refine HO_call (first := []) (capt := []) (is := []) (R := [_, _]) rfl rfl rfl rfl rfl Try.call24 rfl lives20_spec ?_
  intro y29 hy29
  clear y29 hy29
  refine HO_assign rfl rfl rfl ?_
  refine HO_nil ?_
  refine H_env (ρ' := [(6, _)]) ⟨rfl, trivial⟩ ?_
  refine H_world (fun _ hA => hA.keep (m := [nn, nn]) (Y := []) rfl) ?_
  refine H_ret1 Try.results10 (.tmp rfl) (fun w hA => ⟨(), congrArg Ending.returned ?_, ?_, ?_⟩)
  ·(exact congrArg Value.bool (by first | rfl | assumption | simp_all))
  ·trivial
  ·exact hA.keep (m := []) (Y := []) rfl
 intro h28
 replace h28 := dF h28
 refine H_skip ?_
 refine H_seq ?_
 refine H_region (l := [_, _, _, _]) rfl ?_
 refine HO_move rfl rfl rfl ?_
 refine HO_dup (i := 1) rfl rfl ?_
 refine HO_call (first := []) (capt := []) (is := [0]) (R := [_, _]) rfl rfl rfl rfl rfl Try.call25 rfl (fold_spec _ _ _) ?_
 intro y31 hy31
 refine HO_alloc (cs := [_, _]) rfl rfl Try.zeroValue56 rfl ?_
 intro g7
 refine HO_store (i := 0) (j := 0) (us := []) (old := [_, _]) (ts := []) (cs := [_, _]) (R := [_, _, _, _]) (new := [_, _]) rfl rfl rfl Try.sizeOf56 rfl (by simp [Value.oneCell']) rfl rfl rfl rfl rfl rfl ?_
 refine HO_nil ?_
 refine H_env (ρ' := [(7, _), (4, _), (2, _)]) ⟨rfl, rfl, rfl, trivial⟩ ?_
 refine H_world (fun _ hA => hA.keep (m := [yy, yy, yy, yy, nn]) (Y := [_, _, _, _]) rfl) ?_
 refine H_seq ?_
 refine H_seq ?_
 refine H_region (l := [_, _, _, _, _, _, _, _, _]) rfl ?_
 refine HO_fieldAddr (r := 1) rfl rfl rfl Try.underlying56 rfl Try.sizeOf54 rfl ?_
 refine HO_load1 (i := 0) (j := 1) rfl rfl rfl Try.isAgg54 rfl (.loc _ _ _) rfl rfl ?_
 refine HO_bi rfl rfl rfl (bi_len_sl Try.underlying54) ?_
 refine HO_bin rfl rfl rfl rfl bin_eql ?_
 refine HO_move rfl rfl rfl ?_
 refine HO_split (d := 36) rfl ?_ ?_
 ·intro h36
  replace h36 := dT h36
  iterate 3 refine HO_no rfl rfl rfl ?_
  refine HO_pick_t rfl rfl rfl rfl ?_
  refine HO_nil ?_
  refine H_env (ρ' := [(40, _), (7, _), (4, _), (2, _)]) ⟨rfl, rfl, rfl, rfl, trivial⟩ ?_
  refine H_cond rfl (fun _ => ?_) (fun h => nomatch h)
  refine H_seq ?_
  refine H_region (l := [_, _]) rfl ?_
  refine HO_call (first := []) (capt := []) (is := []) (R := [_, _, _, _]) rfl rfl rfl rfl rfl Try.call24 rfl lives20_spec ?_
  intro y41 hy41
  clear y41 hy41
  refine HO_assign rfl rfl rfl ?_
  refine HO_nil ?_
  refine H_env (ρ' := [(6, _)]) ⟨rfl, trivial⟩ ?_
  refine H_world (fun _ hA => hA.keep (m := [nn, nn, nn, nn]) (Y := []) rfl) ?_
  refine H_ret1 Try.results10 (.tmp rfl) (fun w hA => ⟨(), congrArg Ending.returned ?_, ?_, ?_⟩)
  ·(exact congrArg Value.bool (by first | rfl | assumption | simp_all))
  ·trivial
  ·exact hA.keep (m := []) (Y := []) rfl
 intro h36
 replace h36 := dF h36
 refine HO_fieldAddr (r := 0) rfl rfl rfl Try.underlying36 rfl Try.sizeOf3 rfl ?_
 refine HO_load1 (i := 3) (j := 0) rfl rfl rfl Try.isAgg3 rfl (.loc _ _ _) rfl rfl ?_
 refine HO_bin rfl rfl rfl rfl bin_leq ?_
 refine HO_pick_f rfl rfl rfl rfl ?_
 refine HO_nil ?_
 refine H_env (ρ' := [(40, _), (7, _), (4, _), (2, _)]) ⟨rfl, rfl, rfl, rfl, trivial⟩ ?_
 refine H_cond rfl ?_ ?_
 ·intro h40
  replace h40 := dT h40
  refine H_seq ?_
  refine H_region (l := [_, _]) rfl ?_
  refine HO_call (first := []) (capt := []) (is := []) (R := [_, _, _, _]) rfl rfl rfl rfl rfl Try.call24 rfl lives20_spec ?_
  intro y41 hy41
  clear y41 hy41
  refine HO_assign rfl rfl rfl ?_
  refine HO_nil ?_
  refine H_env (ρ' := [(6, _)]) ⟨rfl, trivial⟩ ?_
  refine H_world (fun _ hA => hA.keep (m := [nn, nn, nn, nn]) (Y := []) rfl) ?_
  refine H_ret1 Try.results10 (.tmp rfl) (fun w hA => ⟨(), congrArg Ending.returned ?_, ?_, ?_⟩)
  ·(exact congrArg Value.bool (by first | rfl | assumption | simp_all))
  ·trivial
  ·exact hA.keep (m := []) (Y := []) rfl
 intro h40
 replace h40 := dF h40
 refine H_skip ?_
 refine H_seq ?_
 refine H_region (l := [_, _, _, _, _, _]) rfl ?_
 refine HO_fieldAddr (r := 1) rfl rfl rfl Try.underlying56 rfl Try.sizeOf54 rfl ?_
 refine HO_load1 (i := 0) (j := 1) rfl rfl rfl Try.isAgg54 rfl (.loc _ _ _) rfl rfl ?_
 refine HO_indexAddr open_Sess (i := 2) (j := 0) rfl rfl rfl rfl rfl Try.underlying54 Try.sizeOf67 rfl ?_ ?_
 ·omega
 intro b44 o44 z44 y44 hz44 hI44
 (try simp only [BIG] at hI44)
 refine HO_fieldAddr rfl rfl rfl Try.underlying67 rfl Try.sizeOf3 rfl ?_
 refine HO_load1 (i := 0) (j := 0) rfl rfl rfl Try.isAgg3 rfl (.elem _ _ _) rfl rfl ?_
 refine HO_assign rfl rfl rfl ?_
 refine HO_nil ?_
 refine H_env (ρ' := [(8, _), (7, _), (4, _), (2, _)]) ⟨rfl, rfl, rfl, rfl, trivial⟩ ?_
 refine H_world (fun _ hA => hA.keep (m := [nn, nn, yy, yy, yy, yy]) (Y := [_, _, _, _]) rfl) ?_
 refine H_seq ?_
 have hx0 := Mod.expires (ps := (Mod.fold es).1) (ix := 1000) Mod.Inv.fold hz44
 have e1 : (Mod.apply (Mod.fold es).1 (Mod.fold es).2 1000 (⟨2, z44.id, 0, ⟨#[]⟩, ⟨#[]⟩, ⟨#[]⟩, ⟨#[]⟩, 0⟩ : Cmd)) = ((Mod.fold es).1, Mod.scut z44.id (Mod.fold es).2, Mod.err 0) := hx0.1
 have e2 := hx0.2.1
 have hsl := (Mod.Inv.fold (l := es)).sl
 refine H_region (l := [_, _, _, _, _, _, _, _, _, _, _]) rfl ?_
 refine HO_loadA (i := 0) (us := []) (cs := [_, _]) (ts := []) rfl rfl rfl Try.isAgg56 Try.sizeOf56 rfl (.loc _ _ _) rfl rfl rfl rfl ?_
 refine HO_move rfl rfl rfl ?_
 refine HO_build (xo := [(0, _), (1, _)]) (vs := [_, _]) rfl rfl rfl rfl (bd36_0_1_ii) ?_
 refine HO_dup (i := 1) rfl rfl ?_
 refine HO_dup (i := 3) rfl rfl ?_
 refine HO_call (first := []) (capt := []) (is := [0, 0]) (R := [_, _, _, _]) rfl rfl rfl rfl rfl Try.call29 rfl (apply_spec _ _ _ _ _ _ _ _ _ _ _ _ _ _ _ ?_ ?_ ?_ ?_ ?_ ?_) ?_
 ·exact Mod.Inv.fold
 ·decide
 ·exact hI44.1
 ·exact Mod.zr
 ·exact (Nat.zero_le _)
 ·exact (Nat.zero_le _)
 intro y51 hy51
 refine HO_move rfl rfl rfl ?_
 refine HO_extract (vs := [_, _]) rfl rfl rfl rfl ?_
 refine HO_extract (vs := [_, _]) rfl rfl rfl rfl ?_
 refine HO_alloc (cs := [_, _]) rfl rfl Try.zeroValue56 rfl ?_
 intro g9
 refine HO_alloc (cs := [_, _, _, _, _]) rfl rfl Try.zeroValue38 rfl ?_
 intro g10
 refine HO_store (i := 1) (j := 0) (us := []) (old := [_, _]) (ts := []) (cs := [_, _]) (R := [_, _, _, _, _, _, _, _]) (new := [_, _]) rfl rfl rfl Try.sizeOf56 rfl (by simp [Value.oneCell']) rfl rfl rfl rfl rfl rfl ?_
 refine HO_store (i := 1) (j := 0) (us := []) (old := [_, _, _, _, _]) (ts := []) (cs := [_, _, _, _, _]) (R := [_, _, _, _, _, _, _, _]) (new := [_, _, _, _, _]) rfl rfl rfl Try.sizeOf38 rfl (by simp [Value.oneCell']) rfl rfl rfl rfl rfl rfl ?_
 refine HO_nil ?_
 refine H_env (ρ' := [(10, _), (9, _), (8, _), (7, _), (4, _), (2, _)]) ⟨rfl, rfl, rfl, rfl, rfl, rfl, trivial⟩ ?_
 refine H_seq ?_
 refine H_seq ?_
 refine H_region (l := [_, _, _, _, _, _, _, _, _, _, _, _, _, _, _, _, _, _, _, _, _]) rfl ?_
 refine HO_fieldAddr (r := 0) rfl rfl rfl Try.underlying38 rfl Try.sizeOf26 rfl ?_
 refine HO_load1 (i := 0) (j := 0) rfl rfl rfl Try.isAgg26 rfl (.loc _ _ _) rfl rfl ?_
 refine HO_bin rfl rfl rfl rfl bin_neq ?_
 refine HO_move rfl rfl rfl ?_
 refine HO_split (d := 57) rfl ?_ ?_
 ·intro h57
  replace h57 := dT h57
  (rw [e1] at h57; exact absurd rfl h57)
 intro h57
 replace h57 := dF h57
 refine HO_fieldAddr (r := 1) rfl rfl rfl Try.underlying56 rfl Try.sizeOf54 rfl ?_
 refine HO_load1 (i := 1) (j := 1) rfl rfl rfl Try.isAgg54 rfl (.loc _ _ _) rfl rfl ?_
 refine HO_bi rfl rfl rfl (bi_len_sl Try.underlying54) ?_
 refine HO_fieldAddr (r := 1) rfl rfl rfl Try.underlying56 rfl Try.sizeOf54 rfl ?_
 refine HO_load1 (i := 5) (j := 1) rfl rfl rfl Try.isAgg54 rfl (.loc _ _ _) rfl rfl ?_
 refine HO_bi rfl rfl rfl (bi_len_sl Try.underlying54) ?_
 refine HO_bin rfl rfl rfl rfl (bin_sub ?_ ?_) ?_
 ·omega
 ·omega
 refine HO_bin rfl rfl rfl rfl bin_neq ?_
 refine HO_pick_f rfl rfl rfl rfl ?_
 refine HO_move rfl rfl rfl ?_
 refine HO_split (d := 67) rfl ?_ ?_
 ·intro h67
  replace h67 := dT h67
  (rw [e1] at h67; dsimp only at h67; omega)
 intro h67
 replace h67 := dF h67
 refine HO_fieldAddr (r := 0) rfl rfl rfl Try.underlying56 rfl Try.sizeOf31 rfl ?_
 refine HO_load1 (i := 1) (j := 0) rfl rfl rfl Try.isAgg31 rfl (.loc _ _ _) rfl rfl ?_
 refine HO_fieldAddr (r := 0) rfl rfl rfl Try.underlying56 rfl Try.sizeOf31 rfl ?_
 refine HO_load1 (i := 5) (j := 0) rfl rfl rfl Try.isAgg31 rfl (.loc _ _ _) rfl rfl ?_
 refine HO_dup (i := 2) rfl rfl ?_
 refine HO_dup (i := 7) rfl rfl ?_
 refine HO_call (first := []) (capt := []) (is := [0, 0]) (R := [_, _, _, _, _, _, _, _, _]) rfl rfl rfl rfl rfl Try.call32 rfl (reqpairs_spec _ _ _ _ _ _) ?_
 intro y72 hy72
 clear y72 hy72
 refine HO_not rfl rfl rfl ?_
 refine HO_pick_f rfl rfl rfl rfl ?_
 refine HO_nil ?_
 refine H_env (ρ' := [(74, _), (9, _), (8, _), (7, _), (4, _), (2, _)]) ⟨rfl, rfl, rfl, rfl, rfl, rfl, trivial⟩ ?_
 refine H_world (fun _ hA => hA.keep (m := [nn, yy, yy, yy, nn, yy, yy, yy, yy]) (Y := [_, _, _, _, _, _, _]) rfl) ?_
 refine H_cond rfl ?_ ?_
 ·intro h74
  replace h74 := dF (nT h74)
  (rw [e1] at h74; exact absurd rfl h74)
 intro h74
 replace h74 := dT (nF h74)
 refine H_skip ?_
 refine H_seq ?_
 refine H_region (l := [_, _, _, _, _]) rfl ?_
 refine HO_move rfl rfl rfl ?_
 refine HO_fieldAddr (r := 1) rfl rfl rfl Try.underlying36 rfl Try.sizeOf3 rfl ?_
 refine HO_store (i := 6) (j := 0) (us := [_]) (old := [_]) (ts := [_, _, _, _, _, _]) (cs := [_]) (R := [_, _, _, _, _, _]) (new := [_, _, _, _, _, _, _, _]) rfl rfl rfl Try.sizeOf3 rfl (by simp [Value.oneCell']) rfl rfl rfl rfl rfl rfl ?_
 refine HO_fieldAddr (r := 2) rfl rfl rfl Try.underlying36 rfl Try.sizeOf3 rfl ?_
 refine HO_store (i := 0) (j := 0) (us := [_, _]) (old := [_]) (ts := [_, _, _, _, _]) (cs := [_]) (R := [_, _, _, _, _, _]) (new := [_, _, _, _, _, _, _, _]) rfl rfl rfl Try.sizeOf3 rfl (by simp [Value.oneCell']) rfl rfl rfl rfl rfl rfl ?_
 refine HO_nil ?_
 refine H_env (ρ' := [(9, _), (7, _), (4, _), (2, _)]) ⟨rfl, rfl, rfl, rfl, trivial⟩ ?_
 refine H_seq ?_
 refine H_region (l := [_, _, _, _, _, _, _, _, _, _]) rfl ?_
 refine HO_loadA (i := 1) (us := []) (cs := [_, _]) (ts := []) rfl rfl rfl Try.isAgg56 Try.sizeOf56 rfl (.loc _ _ _) rfl rfl rfl rfl ?_
 refine HO_loadA (i := 0) (us := []) (cs := [_, _, _, _, _, _, _, _]) (ts := []) rfl rfl rfl Try.isAgg36 Try.sizeOf36 rfl (.loc _ _ _) rfl rfl rfl rfl ?_
 refine HO_dup (i := 2) rfl rfl ?_
 refine HO_dup (i := 4) rfl rfl ?_
 refine HO_call (first := []) (capt := []) (is := [0, 0]) (R := [_, _, _, _, _, _, _]) rfl rfl rfl rfl rfl Try.call29 rfl (apply_spec _ _ _ _ _ _ _ _ _ _ _ _ _ _ _ ?_ ?_ ?_ ?_ ?_ ?_) ?_
 ·exact Mod.Inv.fold.apply
 ·decide
 ·exact hI44.1
 ·decide
 ·exact sk
 ·exact sc
 intro y81 hy81
 refine HO_move rfl rfl rfl ?_
 refine HO_extract (vs := [_, _]) rfl rfl rfl rfl ?_
 refine HO_extract (vs := [_, _]) rfl rfl rfl rfl ?_
 refine HO_alloc (cs := [_, _]) rfl rfl Try.zeroValue56 rfl ?_
 intro g11
 refine HO_alloc (cs := [_, _, _, _, _]) rfl rfl Try.zeroValue38 rfl ?_
 intro g12
 refine HO_store (i := 1) (j := 0) (us := []) (old := [_, _]) (ts := []) (cs := [_, _]) (R := [_, _, _, _, _, _, _, _, _, _, _]) (new := [_, _]) rfl rfl rfl Try.sizeOf56 rfl (by simp [Value.oneCell']) rfl rfl rfl rfl rfl rfl ?_
 refine HO_store (i := 1) (j := 0) (us := []) (old := [_, _, _, _, _]) (ts := []) (cs := [_, _, _, _, _]) (R := [_, _, _, _, _, _, _, _, _, _, _]) (new := [_, _, _, _, _]) rfl rfl rfl Try.sizeOf38 rfl (by simp [Value.oneCell']) rfl rfl rfl rfl rfl rfl ?_
 refine HO_nil ?_
 refine H_env (ρ' := [(12, _), (11, _), (9, _), (7, _), (2, _)]) ⟨rfl, rfl, rfl, rfl, rfl, trivial⟩ ?_
 refine H_world (fun _ hA => hA.keep (m := [yy, yy, yy, yy, yy, nn, yy, yy, yy, yy, yy, yy]) (Y := [_, _, _, _, _, _, _, _, _, _, _]) rfl) ?_
 refine H_seq ?_
 refine H_seq ?_
 have e3 := Mod.after_end (ps := (Mod.apply (Mod.fold es).1 (Mod.fold es).2 1000 (⟨2, z44.id, 0, ⟨#[]⟩, ⟨#[]⟩, ⟨#[]⟩, ⟨#[]⟩, 0⟩ : Cmd)).1) (ss := (Mod.apply (Mod.fold es).1 (Mod.fold es).2 1000 (⟨2, z44.id, 0, ⟨#[]⟩, ⟨#[]⟩, ⟨#[]⟩, ⟨#[]⟩, 0⟩ : Cmd)).2.1) (ix := 1001) (c := (⟨ki, z44.id, 1099511627776, ke, ol, cv, ti, li⟩ : Cmd)) (by rw [e1]; exact hx0.2.2) h40
 have hu : (Mod.apply (Mod.apply (Mod.fold es).1 (Mod.fold es).2 1000 (⟨2, z44.id, 0, ⟨#[]⟩, ⟨#[]⟩, ⟨#[]⟩, ⟨#[]⟩, 0⟩ : Cmd)).1 (Mod.apply (Mod.fold es).1 (Mod.fold es).2 1000 (⟨2, z44.id, 0, ⟨#[]⟩, ⟨#[]⟩, ⟨#[]⟩, ⟨#[]⟩, 0⟩ : Cmd)).2.1 1001 (⟨ki, z44.id, 1099511627776, ke, ol, cv, ti, li⟩ : Cmd)).1 = (Mod.fold es).1 := by rcases e3 with e3 | e3 <;> rw [e3, e1]
 refine H_region (l := [_, _, _, _, _, _, _, _, _, _, _, _, _, _]) rfl ?_
 refine HO_fieldAddr (r := 0) rfl rfl rfl Try.underlying38 rfl Try.sizeOf26 rfl ?_
 refine HO_load1 (i := 0) (j := 0) rfl rfl rfl Try.isAgg26 rfl (.loc _ _ _) rfl rfl ?_
 refine HO_bin rfl rfl rfl rfl bin_neq ?_
 refine HO_move rfl rfl rfl ?_
 refine HO_split (d := 87) rfl ?_ ?_
 ·intro h87
  replace h87 := dT h87
  refine HO_fieldAddr (r := 0) rfl rfl rfl Try.underlying38 rfl Try.sizeOf26 rfl ?_
  refine HO_load1 (i := 0) (j := 0) rfl rfl rfl Try.isAgg26 rfl (.loc _ _ _) rfl rfl ?_
  refine HO_bin rfl rfl rfl rfl bin_neq ?_
  refine HO_pick_t rfl rfl rfl rfl ?_
  refine HO_move rfl rfl rfl ?_
  refine HO_split (d := 92) rfl ?_ ?_
  ·intro h92
   replace h92 := dT h92
   (rcases e3 with e3 | e3 <;> (first | (rw [e3] at h87; exact absurd rfl h87) | (rw [e3] at h92; exact absurd rfl h92)))
  intro h92
  replace h92 := dF h92
  refine HO_loadA (i := 5) (us := []) (cs := [_, _]) (ts := []) rfl rfl rfl Try.isAgg56 Try.sizeOf56 rfl (.loc _ _ _) rfl rfl rfl rfl ?_
  refine HO_loadA (i := 1) (us := []) (cs := [_, _]) (ts := []) rfl rfl rfl Try.isAgg56 Try.sizeOf56 rfl (.loc _ _ _) rfl rfl rfl rfl ?_
  refine HO_dup (i := 6) rfl rfl ?_
  refine HO_dup (i := 8) rfl rfl ?_
  refine HO_dup (i := 4) rfl rfl ?_
  refine HO_dup (i := 6) rfl rfl ?_
  refine HO_call (first := []) (capt := []) (is := [0, 0, 0, 0]) (R := [_, _, _, _, _, _, _, _, _, _, _]) rfl rfl rfl rfl rfl Try.call33 rfl (msame_spec _ _ _ _ _ _ _ _ _ _ _ _) ?_
  intro y95 hy95
  clear y95 hy95
  refine HO_not rfl rfl rfl ?_
  refine HO_pick_f rfl rfl rfl rfl ?_
  refine HO_nil ?_
  refine H_env (ρ' := [(97, _), (11, _), (7, _), (2, _)]) ⟨rfl, rfl, rfl, rfl, trivial⟩ ?_
  refine H_world (fun _ hA => hA.keep (m := [nn, yy, yy, yy, nn, nn, nn, nn, yy, yy, yy]) (Y := [_, _, _, _, _, _]) rfl) ?_
  refine H_cond rfl ?_ ?_
  ·intro h97
   (try simp only [decide_eq_true_eq, decide_eq_false_iff_not, Bool.not_eq_true', Bool.not_eq_false', Bool.not_eq_true, Bool.not_eq_false, Bool.true_eq_false, Bool.false_eq_true, not_false_eq_true, not_true_eq_false] at h97)
   (rcases e3 with e3 | e3 <;> (rw [e3] at h97; simp at h97))
  intro h97
  (try simp only [decide_eq_true_eq, decide_eq_false_iff_not, Bool.not_eq_true', Bool.not_eq_false', Bool.not_eq_true, Bool.not_eq_false, Bool.true_eq_false, Bool.false_eq_true, not_false_eq_true, not_true_eq_false] at h97)
  refine H_skip ?_
  refine H_seq ?_
  refine H_region (l := [_, _, _, _]) rfl ?_
  refine HO_move rfl rfl rfl ?_
  refine HO_build (xo := [(0, _), (3, _)]) (vs := [_, _]) rfl rfl rfl rfl (bd36_0_3_it) ?_
  refine HO_alloc (cs := [_, _, _, _, _, _, _, _]) rfl rfl Try.zeroValue36 rfl ?_
  intro g13
  refine HO_store (i := 0) (j := 0) (us := []) (old := [_, _, _, _, _, _, _, _]) (ts := []) (cs := [_, _, _, _, _, _, _, _]) (R := [_, _, _, _, _, _]) (new := [_, _, _, _, _, _, _, _]) rfl rfl rfl Try.sizeOf36 rfl (by simp [Value.oneCell']) rfl rfl rfl rfl rfl rfl ?_
  refine HO_nil ?_
  refine H_env (ρ' := [(13, _), (11, _), (7, _)]) ⟨rfl, rfl, rfl, trivial⟩ ?_
  refine H_seq ?_
  refine H_drawB (m := [yy, yy, yy, yy, yy, yy, yy]) (Xs := [_, _, _, _, _, _, _]) (fuel := 11) (l := #[false, false, false, false, false, false, false, false, false, false, false]) mixed rfl rfl rfl ?_
  refine HA_take (i := 0) (listed' := #[true, false, false, false, false, false, false, false, false, false, false]) (bodyPost_pan _ _ _) rfl rfl rfl rfl (by kernel_rfl) rfl (V_loadA (i := 4) (us := []) (cs := [_, _]) (ts := []) rfl Try.isAgg56 Try.sizeOf56 rfl (.loc _ _ _) rfl rfl rfl rfl) (fun _ hA => hA) ?_
  refine HA_take (i := 1) (listed' := #[true, true, false, false, false, false, false, false, false, false, false]) (bodyPost_pan _ _ _) rfl rfl rfl rfl (by kernel_rfl) rfl (V_loadA (i := 0) (us := []) (cs := [_, _, _, _, _, _, _, _]) (ts := []) rfl Try.isAgg36 Try.sizeOf36 rfl (.loc _ _ _) rfl rfl rfl rfl) (fun _ hA => hA) ?_
  refine HA_take (i := 3) (listed' := #[true, true, false, true, false, false, false, false, false, false, false]) (bodyPost_pan _ _ _) rfl rfl rfl rfl (by kernel_rfl) rfl (V_loadA (i := 1) (us := []) (cs := [_, _]) (ts := []) rfl Try.isAgg56 Try.sizeOf56 rfl (.loc _ _ _) rfl rfl rfl rfl) (fun _ hA => hA) ?_
  refine HA_take (i := 4) (listed' := #[true, true, false, true, true, false, false, false, false, false, false]) (bodyPost_pan _ _ _) rfl rfl rfl rfl (by kernel_rfl) rfl (V_loadA (i := 0) (us := []) (cs := [_, _, _, _, _, _, _, _]) (ts := []) rfl Try.isAgg36 Try.sizeOf36 rfl (.loc _ _ _) rfl rfl rfl rfl) (fun _ hA => hA) ?_
  refine HA_loud1 (i := 2) (by kernel_rfl) rfl ?_
  refine HO_dup (i := 5) rfl rfl ?_
  refine HO_call (first := []) (capt := []) (is := [0]) (R := [_, _, _, _, _, _, _]) rfl rfl rfl rfl rfl Try.call31 rfl (query_spec _ _ _ _ _ _ _ _ _ _ _ _ _ _ ?_ ?_ ?_ ?_) ?_
  ·exact Mod.Inv.fold.ps
  ·exact Mod.Inv.fold.pl
  ·exact sy
  ·exact (Nat.zero_le _)
  intro y102 hy102
  refine HA_back (listed' := #[true, true, true, true, true, false, false, false, false, false, false]) rfl (fun _ hA => hA.keep (m := [nn, yy, yy, yy, yy, yy, yy, yy]) (Y := [_, _, _, _, _, _, _]) rfl) ?_
  refine HA_loud1 (i := 5) (by kernel_rfl) rfl ?_
  refine HO_dup (i := 3) rfl rfl ?_
  refine HO_call (first := []) (capt := []) (is := [0]) (R := [_, _, _, _, _, _, _, _]) rfl rfl rfl rfl rfl Try.call31 rfl (query_spec _ _ _ _ _ _ _ _ _ _ _ _ _ _ ?_ ?_ ?_ ?_) ?_
  ·exact Mod.Inv.fold.apply.apply.ps
  ·exact Mod.Inv.fold.apply.apply.pl
  ·exact sy
  ·exact (Nat.zero_le _)
  intro y105 hy105
  refine HA_back (listed' := #[true, true, true, true, true, true, false, false, false, false, false]) rfl (fun _ hA => hA.keep (m := [nn, nn, yy, yy, yy, yy, yy, yy, yy]) (Y := [_, _, _, _, _, _, _]) rfl) ?_
  refine HA_loud1 (i := 6) (by kernel_rfl) rfl ?_
  refine HO_dup (i := 1) rfl rfl ?_
  refine HO_dup (i := 1) rfl rfl ?_
  refine HO_call (first := []) (capt := []) (is := [0, 0]) (R := [_, _, _, _, _, _, _, _, _]) rfl rfl rfl rfl rfl Try.call19 rfl (rrsame9_spec _ _ _ _ _ _ _ _ _ _ _ _ _ _) ?_
  intro y106 hy106
  clear y106 hy106
  refine HA_back (listed' := #[true, true, true, true, true, true, true, false, false, false, false]) rfl (fun _ hA => hA.keep (m := [nn, nn, yy, yy, yy, yy, yy, yy, yy]) (Y := [_, _, _, _, _, _, _]) rfl) ?_
  refine HA_take (i := 7) (listed' := #[true, true, true, true, true, true, true, true, false, false, false]) (bodyPost_pan _ _ _) rfl rfl rfl rfl (by kernel_rfl) rfl (V_move rfl) (fun _ hA => hA.keep (m := [nn, nn, yy, yy, yy, yy, yy, yy, yy]) (Y := [_, _, _, _, _, _, _]) rfl) ?_
  refine HA_split (d := 107) rfl ?_ ?_
  ·intro h107
   replace h107 := dT h107
   refine HA_loud1 (i := 8) (by kernel_rfl) rfl ?_
   refine HO_call (first := []) (capt := []) (is := []) (R := [_, _, _, _, _, _, _, _, _]) rfl rfl rfl rfl rfl Try.call24 rfl lives20_spec ?_
   intro y108 hy108
   clear y108 hy108
   refine HA_back (listed' := #[true, true, true, true, true, true, true, true, true, false, false]) rfl (fun _ hA => hA.keep (m := [nn, nn, yy, yy, yy, yy, yy, yy, yy]) (Y := [_, _, _, _, _, _, _]) rfl) ?_
   refine HA_take (i := 9) (listed' := #[true, true, true, true, true, true, true, true, true, true, false]) (bodyPost_pan _ _ _) rfl rfl rfl rfl (by kernel_rfl) rfl (V_pick_t rfl rfl) (fun _ hA => hA.keep (m := [nn, nn, yy, yy, yy, yy, yy, yy, yy]) (Y := [_, _, _, _, _, _, _]) rfl) ?_
   refine HA_take (i := 10) (listed' := #[true, true, true, true, true, true, true, true, true, true, true]) (bodyPost_pan _ _ _) rfl rfl rfl rfl (by kernel_rfl) rfl (V_assign rfl) (fun _ hA => hA.keep (m := [nn, nn, yy, yy, yy, yy, yy, yy, yy]) (Y := [_, _, _, _, _, _, _]) rfl) ?_
   refine HA_done (by kernel_rfl) ?_
   refine H_env (ρ' := [(6, _)]) ⟨rfl, trivial⟩ ?_
   refine H_world (fun _ hA => hA.keep (m := [nn, nn, nn, nn, nn, nn, nn, nn, nn]) (Y := []) rfl) ?_
   refine H_ret1 Try.results10 (.tmp rfl) (fun w hA => ⟨(), congrArg Ending.returned ?_, ?_, ?_⟩)
   ·(exact congrArg Value.bool (by first | rfl | assumption | simp_all))
   ·trivial
   ·exact hA.keep (m := []) (Y := []) rfl
  intro h107
  replace h107 := dF h107
  (exact absurd (by rw [hu]) h107)
 intro h87
 replace h87 := dF h87
 iterate 3 refine HO_no rfl rfl rfl ?_
 refine HO_pick_f rfl rfl rfl rfl ?_
 refine HO_move rfl rfl rfl ?_
 refine HO_loadA (i := 5) (us := []) (cs := [_, _]) (ts := []) rfl rfl rfl Try.isAgg56 Try.sizeOf56 rfl (.loc _ _ _) rfl rfl rfl rfl ?_
 refine HO_loadA (i := 1) (us := []) (cs := [_, _]) (ts := []) rfl rfl rfl Try.isAgg56 Try.sizeOf56 rfl (.loc _ _ _) rfl rfl rfl rfl ?_
 refine HO_dup (i := 6) rfl rfl ?_
 refine HO_dup (i := 8) rfl rfl ?_
 refine HO_dup (i := 4) rfl rfl ?_
 refine HO_dup (i := 6) rfl rfl ?_
 refine HO_call (first := []) (capt := []) (is := [0, 0, 0, 0]) (R := [_, _, _, _, _, _, _, _, _, _, _]) rfl rfl rfl rfl rfl Try.call33 rfl (msame_spec _ _ _ _ _ _ _ _ _ _ _ _) ?_
 intro y95 hy95
 clear y95 hy95
 refine HO_not rfl rfl rfl ?_
 refine HO_pick_f rfl rfl rfl rfl ?_
 refine HO_nil ?_
 refine H_env (ρ' := [(97, _), (11, _), (7, _), (2, _)]) ⟨rfl, rfl, rfl, rfl, trivial⟩ ?_
 refine H_world (fun _ hA => hA.keep (m := [nn, yy, yy, yy, nn, nn, nn, nn, yy, yy, yy]) (Y := [_, _, _, _, _, _]) rfl) ?_
 refine H_cond rfl ?_ ?_
 ·intro h97
  (try simp only [decide_eq_true_eq, decide_eq_false_iff_not, Bool.not_eq_true', Bool.not_eq_false', Bool.not_eq_true, Bool.not_eq_false, Bool.true_eq_false, Bool.false_eq_true, not_false_eq_true, not_true_eq_false] at h97)
  (rcases e3 with e3 | e3 <;> (rw [e3] at h97; simp at h97))
 intro h97
 (try simp only [decide_eq_true_eq, decide_eq_false_iff_not, Bool.not_eq_true', Bool.not_eq_false', Bool.not_eq_true, Bool.not_eq_false, Bool.true_eq_false, Bool.false_eq_true, not_false_eq_true, not_true_eq_false] at h97)
 refine H_skip ?_
 refine H_seq ?_
 refine H_region (l := [_, _, _, _]) rfl ?_
 refine HO_move rfl rfl rfl ?_
 refine HO_build (xo := [(0, _), (3, _)]) (vs := [_, _]) rfl rfl rfl rfl (bd36_0_3_it) ?_
 refine HO_alloc (cs := [_, _, _, _, _, _, _, _]) rfl rfl Try.zeroValue36 rfl ?_
 intro g13
 refine HO_store (i := 0) (j := 0) (us := []) (old := [_, _, _, _, _, _, _, _]) (ts := []) (cs := [_, _, _, _, _, _, _, _]) (R := [_, _, _, _, _, _]) (new := [_, _, _, _, _, _, _, _]) rfl rfl rfl Try.sizeOf36 rfl (by simp [Value.oneCell']) rfl rfl rfl rfl rfl rfl ?_
 refine HO_nil ?_
 refine H_env (ρ' := [(13, _), (11, _), (7, _)]) ⟨rfl, rfl, rfl, trivial⟩ ?_
 refine H_seq ?_
 refine H_drawB (m := [yy, yy, yy, yy, yy, yy, yy]) (Xs := [_, _, _, _, _, _, _]) (fuel := 11) (l := #[false, false, false, false, false, false, false, false, false, false, false]) mixed rfl rfl rfl ?_
 refine HA_take (i := 0) (listed' := #[true, false, false, false, false, false, false, false, false, false, false]) (bodyPost_pan _ _ _) rfl rfl rfl rfl (by kernel_rfl) rfl (V_loadA (i := 4) (us := []) (cs := [_, _]) (ts := []) rfl Try.isAgg56 Try.sizeOf56 rfl (.loc _ _ _) rfl rfl rfl rfl) (fun _ hA => hA) ?_
 refine HA_take (i := 1) (listed' := #[true, true, false, false, false, false, false, false, false, false, false]) (bodyPost_pan _ _ _) rfl rfl rfl rfl (by kernel_rfl) rfl (V_loadA (i := 0) (us := []) (cs := [_, _, _, _, _, _, _, _]) (ts := []) rfl Try.isAgg36 Try.sizeOf36 rfl (.loc _ _ _) rfl rfl rfl rfl) (fun _ hA => hA) ?_
 refine HA_take (i := 3) (listed' := #[true, true, false, true, false, false, false, false, false, false, false]) (bodyPost_pan _ _ _) rfl rfl rfl rfl (by kernel_rfl) rfl (V_loadA (i := 1) (us := []) (cs := [_, _]) (ts := []) rfl Try.isAgg56 Try.sizeOf56 rfl (.loc _ _ _) rfl rfl rfl rfl) (fun _ hA => hA) ?_
 refine HA_take (i := 4) (listed' := #[true, true, false, true, true, false, false, false, false, false, false]) (bodyPost_pan _ _ _) rfl rfl rfl rfl (by kernel_rfl) rfl (V_loadA (i := 0) (us := []) (cs := [_, _, _, _, _, _, _, _]) (ts := []) rfl Try.isAgg36 Try.sizeOf36 rfl (.loc _ _ _) rfl rfl rfl rfl) (fun _ hA => hA) ?_
 refine HA_loud1 (i := 2) (by kernel_rfl) rfl ?_
 refine HO_dup (i := 5) rfl rfl ?_
 refine HO_call (first := []) (capt := []) (is := [0]) (R := [_, _, _, _, _, _, _]) rfl rfl rfl rfl rfl Try.call31 rfl (query_spec _ _ _ _ _ _ _ _ _ _ _ _ _ _ ?_ ?_ ?_ ?_) ?_
 ·exact Mod.Inv.fold.ps
 ·exact Mod.Inv.fold.pl
 ·exact sy
 ·exact (Nat.zero_le _)
 intro y102 hy102
 refine HA_back (listed' := #[true, true, true, true, true, false, false, false, false, false, false]) rfl (fun _ hA => hA.keep (m := [nn, yy, yy, yy, yy, yy, yy, yy]) (Y := [_, _, _, _, _, _, _]) rfl) ?_
 refine HA_loud1 (i := 5) (by kernel_rfl) rfl ?_
 refine HO_dup (i := 3) rfl rfl ?_
 refine HO_call (first := []) (capt := []) (is := [0]) (R := [_, _, _, _, _, _, _, _]) rfl rfl rfl rfl rfl Try.call31 rfl (query_spec _ _ _ _ _ _ _ _ _ _ _ _ _ _ ?_ ?_ ?_ ?_) ?_
 ·exact Mod.Inv.fold.apply.apply.ps
 ·exact Mod.Inv.fold.apply.apply.pl
 ·exact sy
 ·exact (Nat.zero_le _)
 intro y105 hy105
 refine HA_back (listed' := #[true, true, true, true, true, true, false, false, false, false, false]) rfl (fun _ hA => hA.keep (m := [nn, nn, yy, yy, yy, yy, yy, yy, yy]) (Y := [_, _, _, _, _, _, _]) rfl) ?_
 refine HA_loud1 (i := 6) (by kernel_rfl) rfl ?_
 refine HO_dup (i := 1) rfl rfl ?_
 refine HO_dup (i := 1) rfl rfl ?_
 refine HO_call (first := []) (capt := []) (is := [0, 0]) (R := [_, _, _, _, _, _, _, _, _]) rfl rfl rfl rfl rfl Try.call19 rfl (rrsame9_spec _ _ _ _ _ _ _ _ _ _ _ _ _ _) ?_
 intro y106 hy106
 clear y106 hy106
 refine HA_back (listed' := #[true, true, true, true, true, true, true, false, false, false, false]) rfl (fun _ hA => hA.keep (m := [nn, nn, yy, yy, yy, yy, yy, yy, yy]) (Y := [_, _, _, _, _, _, _]) rfl) ?_
 refine HA_take (i := 7) (listed' := #[true, true, true, true, true, true, true, true, false, false, false]) (bodyPost_pan _ _ _) rfl rfl rfl rfl (by kernel_rfl) rfl (V_move rfl) (fun _ hA => hA.keep (m := [nn, nn, yy, yy, yy, yy, yy, yy, yy]) (Y := [_, _, _, _, _, _, _]) rfl) ?_
 refine HA_split (d := 107) rfl ?_ ?_
 ·intro h107
  replace h107 := dT h107
  refine HA_loud1 (i := 8) (by kernel_rfl) rfl ?_
  refine HO_call (first := []) (capt := []) (is := []) (R := [_, _, _, _, _, _, _, _, _]) rfl rfl rfl rfl rfl Try.call24 rfl lives20_spec ?_
  intro y108 hy108
  clear y108 hy108
  refine HA_back (listed' := #[true, true, true, true, true, true, true, true, true, false, false]) rfl (fun _ hA => hA.keep (m := [nn, nn, yy, yy, yy, yy, yy, yy, yy]) (Y := [_, _, _, _, _, _, _]) rfl) ?_
  refine HA_take (i := 9) (listed' := #[true, true, true, true, true, true, true, true, true, true, false]) (bodyPost_pan _ _ _) rfl rfl rfl rfl (by kernel_rfl) rfl (V_pick_t rfl rfl) (fun _ hA => hA.keep (m := [nn, nn, yy, yy, yy, yy, yy, yy, yy]) (Y := [_, _, _, _, _, _, _]) rfl) ?_
  refine HA_take (i := 10) (listed' := #[true, true, true, true, true, true, true, true, true, true, true]) (bodyPost_pan _ _ _) rfl rfl rfl rfl (by kernel_rfl) rfl (V_assign rfl) (fun _ hA => hA.keep (m := [nn, nn, yy, yy, yy, yy, yy, yy, yy]) (Y := [_, _, _, _, _, _, _]) rfl) ?_
  refine HA_done (by kernel_rfl) ?_
  refine H_env (ρ' := [(6, _)]) ⟨rfl, trivial⟩ ?_
  refine H_world (fun _ hA => hA.keep (m := [nn, nn, nn, nn, nn, nn, nn, nn, nn]) (Y := []) rfl) ?_
  refine H_ret1 Try.results10 (.tmp rfl) (fun w hA => ⟨(), congrArg Ending.returned ?_, ?_, ?_⟩)
  ·(exact congrArg Value.bool (by first | rfl | assumption | simp_all))
  ·trivial
  ·exact hA.keep (m := []) (Y := []) rfl
 intro h107
 replace h107 := dF h107
 (exact absurd (by rw [hu]) h107)
end Go.Wk
