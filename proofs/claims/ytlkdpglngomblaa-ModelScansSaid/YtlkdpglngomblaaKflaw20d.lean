/- Contracts of the program's functions, each proved by walking its code. -/
import Derived.Test.YtlkdpglngomblaaKflaw20b
import Derived.Test.YtlkdpglngomblaaMod6
import Derived.Test.YtlkdpglngomblaaMod6
set_option maxRecDepth 100000
set_option linter.unusedVariables false
set_option linter.unusedSimpArgs false
namespace Go.Wk.Flaw20d
open Go Go.RowKit Go.Proofs Go.Wk
theorem eq70_neq {x y : Operand} {a0 b0 : ByteArray} {a1 b1 : ByteArray} : BinR Try.prog .neq 70 x y (.agg #[.string a0, .string a1]) (.agg #[.string b0, .string b1]) (.bool (!(decide (a0 = b0) && (decide (a1 = b1) && true)))) :=
 bin_nes_agg (by kernel_rfl) Try.underlying70 (by kernel_rfl) (fun w => (eqF_str (by decide) Try.underlying9 Try.isAgg9 rfl rfl (eqF_str (by decide) Try.underlying9 Try.isAgg9 rfl rfl eqF_nil)))
end Go.Wk.Flaw20d
namespace Go.Wk
open Go Go.RowKit Go.Proofs Flaw20d 
set_option maxHeartbeats 0 in
theorem ModelScans_spec (es : List Ent) (a : Option Addr) (c : Nat) (ki cs sq : Int) (ke ol cv ti : ByteArray) (li : Int) (rc : -9223372036854775808 ≤ cs ∧ cs ≤ 9223372036854775807) (rq : -9223372036854775808 ≤ sq ∧ sq ≤ 9223372036854775807) (sk : ke.size ≤ BIG) (so : ol.size ≤ BIG) (sc : cv.size ≤ BIG) (st : ti.size ≤ BIG) : Spec Try.prog 7 #[.slice a (es.length) c, .agg #[.int .i64 (ki), .int .i64 (cs), .int .i64 (sq), .string (ke), .string (ol), .string (cv), .string (ti), .int .i64 (li)]] [.dat kEnt.sl (es) [.slice a (es.length) c]] (β := Unit) (fun y => .bool (true)) (fun y => True) (fun y => []) := by
 refine Spec.enter (vs := [_, _]) Try.func7 rfl Try.ntmps7 rfl (Nat.le_of_ble_eq_true rfl) (fun w0 ok0 => ?_)
 generalize hM0 : blks _ = M0
 have hMn := @noM _ _ hM0 (by simp [Atom.dat, Atom.elem])
 refine H_len_le (i := 0) rfl ?_
 intro hlen0
 refine H_seq ?_
 refine H_region (l := [_, _]) rfl ?_
 refine HO_box (cs := [_, _, _, _, _, _, _, _]) rfl rfl rfl rfl ?_
 intro g3
 refine HO_assign rfl rfl rfl ?_
 refine HO_nil ?_
 refine H_env (ρ' := [(3, _), (0, _)]) ⟨rfl, rfl, trivial⟩ ?_
 refine H_seq ?_
 refine H_seq ?_
 refine H_region (l := [_, _, _, _, _, _]) rfl ?_
 refine HO_move rfl rfl rfl ?_
 refine HO_dup (i := 1) rfl rfl ?_
 refine HO_call (first := []) (capt := []) (is := [0]) (R := [_, _]) rfl rfl rfl rfl rfl Try.call22 rfl (heavy20_spec _ _ _) ?_
 intro y11 hy11
 refine HO_move rfl rfl rfl ?_
 refine HO_split (d := 12) rfl ?_ ?_
 ·intro h12
  iterate 2 refine HO_no rfl rfl rfl ?_
  refine HO_pick_t rfl rfl rfl rfl ?_
  refine HO_nil ?_
  refine H_env (ρ' := [(15, _), (3, _), (0, _)]) ⟨rfl, rfl, rfl, trivial⟩ ?_
  refine H_cond rfl (fun _ => ?_) (fun h => nomatch h)
  refine H_seq ?_
  refine H_region (l := [_, _]) rfl ?_
  refine HO_call (first := []) (capt := []) (is := []) (R := [_, _]) rfl rfl rfl rfl rfl Try.call24 rfl lives20_spec ?_
  intro y16 hy16
  clear y16 hy16
  refine HO_assign rfl rfl rfl ?_
  refine HO_nil ?_
  refine H_env (ρ' := [(4, _)]) ⟨rfl, trivial⟩ ?_
  refine H_world (fun _ hA => hA.keep (m := [nn, nn]) (Y := []) rfl) ?_
  refine H_ret1 Try.results7 (.tmp rfl) (fun w hA => ⟨(), congrArg Ending.returned ?_, ?_, ?_⟩)
  ·(exact congrArg Value.bool (by first | rfl | assumption | simp_all))
  ·trivial
  ·exact hA.keep (m := []) (Y := []) rfl
 intro h12
 refine HO_loadA (i := 0) (us := []) (cs := [_, _, _, _, _, _, _, _]) (ts := []) rfl rfl rfl Try.isAgg36 Try.sizeOf36 rfl (.loc _ _ _) rfl rfl rfl rfl ?_
 refine HO_call (first := []) (capt := []) (is := []) (R := [_, _]) rfl rfl rfl rfl rfl Try.call23 rfl (great20_spec _ _ _ _ _ _ _ _ ?_ ?_ ?_ ?_) ?_
 ·exact sk
 ·exact so
 ·exact sc
 ·exact st
 intro y14 hy14
 clear y14 hy14
 refine HO_pick_f rfl rfl rfl rfl ?_
 refine HO_nil ?_
 refine H_env (ρ' := [(15, _), (3, _), (0, _)]) ⟨rfl, rfl, rfl, trivial⟩ ?_
 refine H_cond rfl ?_ ?_
 ·intro h15
  replace h15 := dT h15
  refine H_seq ?_
  refine H_region (l := [_, _]) rfl ?_
  refine HO_call (first := []) (capt := []) (is := []) (R := [_, _]) rfl rfl rfl rfl rfl Try.call24 rfl lives20_spec ?_
  intro y16 hy16
  clear y16 hy16
  refine HO_assign rfl rfl rfl ?_
  refine HO_nil ?_
  refine H_env (ρ' := [(4, _)]) ⟨rfl, trivial⟩ ?_
  refine H_world (fun _ hA => hA.keep (m := [nn, nn]) (Y := []) rfl) ?_
  refine H_ret1 Try.results7 (.tmp rfl) (fun w hA => ⟨(), congrArg Ending.returned ?_, ?_, ?_⟩)
  ·(exact congrArg Value.bool (by first | rfl | assumption | simp_all))
  ·trivial
  ·exact hA.keep (m := []) (Y := []) rfl
 intro h15
 replace h15 := dF h15
 refine H_skip ?_
 refine H_seq ?_
 refine H_region (l := [_, _, _, _]) rfl ?_
 refine HO_move rfl rfl rfl ?_
 refine HO_dup (i := 1) rfl rfl ?_
 refine HO_call (first := []) (capt := []) (is := [0]) (R := [_, _]) rfl rfl rfl rfl rfl Try.call25 rfl (fold_spec _ _ _) ?_
 intro y18 hy18
 refine HO_alloc (cs := [_, _]) rfl rfl Try.zeroValue56 rfl ?_
 intro g5
 refine HO_store (i := 0) (j := 0) (us := []) (old := [_, _]) (ts := []) (cs := [_, _]) (R := [_, _, _, _]) (new := [_, _]) rfl rfl rfl Try.sizeOf56 rfl (by simp [Value.oneCell']) rfl rfl rfl rfl rfl rfl ?_
 refine HO_nil ?_
 refine H_env (ρ' := [(5, _), (3, _), (0, _)]) ⟨rfl, rfl, rfl, trivial⟩ ?_
 refine H_seq ?_
 refine H_region (l := [_, _, _, _, _]) rfl ?_
 refine HO_loadA (i := 0) (us := []) (cs := [_, _]) (ts := []) rfl rfl rfl Try.isAgg56 Try.sizeOf56 rfl (.loc _ _ _) rfl rfl rfl rfl ?_
 refine HO_loadA (i := 3) (us := []) (cs := [_, _, _, _, _, _, _, _]) (ts := []) rfl rfl rfl Try.isAgg36 Try.sizeOf36 rfl (.loc _ _ _) rfl rfl rfl rfl ?_
 refine HO_dup (i := 1) rfl rfl ?_
 refine HO_call (first := []) (capt := []) (is := [0]) (R := [_, _, _, _, _]) rfl rfl rfl rfl rfl Try.call31 rfl (query_spec _ _ _ _ _ _ _ _ _ _ _ _ _ _ ?_ ?_ ?_ ?_) ?_
 ·exact Mod.Inv.fold.ps
 ·exact Mod.Inv.fold.pl
 ·exact sk
 ·exact sc
 intro y21 hy21
 refine HO_alloc (cs := [_, _, _, _, _]) rfl rfl Try.zeroValue38 rfl ?_
 intro g6
 refine HO_store (i := 0) (j := 0) (us := []) (old := [_, _, _, _, _]) (ts := []) (cs := [_, _, _, _, _]) (R := [_, _, _, _, _, _]) (new := [_, _, _, _, _]) rfl rfl rfl Try.sizeOf38 rfl (by simp [Value.oneCell']) rfl rfl rfl rfl rfl rfl ?_
 refine HO_nil ?_
 refine H_env (ρ' := [(6, _), (5, _), (3, _), (0, _)]) ⟨rfl, rfl, rfl, rfl, trivial⟩ ?_
 refine H_seq ?_
 refine H_seq ?_
 refine H_region (l := [_, _, _, _, _, _, _, _]) rfl ?_
 refine HO_fieldAddr (r := 0) rfl rfl rfl Try.underlying38 rfl Try.sizeOf26 rfl ?_
 refine HO_load1 (i := 0) (j := 0) rfl rfl rfl Try.isAgg26 rfl (.loc _ _ _) rfl rfl ?_
 refine HO_bin rfl rfl rfl rfl bin_neq ?_
 refine HO_move rfl rfl rfl ?_
 refine HO_split (d := 25) rfl ?_ ?_
 ·intro h25
  replace h25 := dT h25
  iterate 3 refine HO_no rfl rfl rfl ?_
  refine HO_pick_t rfl rfl rfl rfl ?_
  refine HO_nil ?_
  refine H_env (ρ' := [(29, _), (6, _), (5, _), (3, _), (0, _)]) ⟨rfl, rfl, rfl, rfl, rfl, trivial⟩ ?_
  refine H_cond rfl (fun _ => ?_) (fun h => nomatch h)
  refine H_seq ?_
  refine H_region (l := [_, _, _, _, _, _, _, _, _, _, _, _]) rfl ?_
  refine HO_fieldAddr (r := 0) rfl rfl rfl Try.underlying38 rfl Try.sizeOf26 rfl ?_
  refine HO_load1 (i := 0) (j := 0) rfl rfl rfl Try.isAgg26 rfl (.loc _ _ _) rfl rfl ?_
  refine HO_bin rfl rfl rfl rfl bin_eql ?_
  refine HO_move rfl rfl rfl ?_
  refine HO_split (d := 33) rfl ?_ ?_
  ·intro h33
   replace h33 := dT h33
   iterate 3 refine HO_no rfl rfl rfl ?_
   refine HO_pick_t rfl rfl rfl rfl ?_
   refine HO_move rfl rfl rfl ?_
   refine HO_call (first := []) (capt := []) (is := []) (R := [_, _, _, _, _, _, _]) rfl rfl rfl rfl rfl Try.call24 rfl lives20_spec ?_
   intro y39 hy39
   clear y39 hy39
   refine HO_pick_t rfl rfl rfl rfl ?_
   refine HO_assign rfl rfl rfl ?_
   refine HO_nil ?_
   refine H_env (ρ' := [(4, _)]) ⟨rfl, trivial⟩ ?_
   refine H_world (fun _ hA => hA.keep (m := [nn, nn, nn, nn, nn, nn, nn]) (Y := []) rfl) ?_
   refine H_ret1 Try.results7 (.tmp rfl) (fun w hA => ⟨(), congrArg Ending.returned ?_, ?_, ?_⟩)
   ·(exact congrArg Value.bool (by first | rfl | assumption | simp_all))
   ·trivial
   ·exact hA.keep (m := []) (Y := []) rfl
  intro h33
  replace h33 := dF h33
  refine HO_fieldAddr (r := 0) rfl rfl rfl Try.underlying38 rfl Try.sizeOf26 rfl ?_
  refine HO_load1 (i := 0) (j := 0) rfl rfl rfl Try.isAgg26 rfl (.loc _ _ _) rfl rfl ?_
  refine HO_bin rfl rfl rfl rfl bin_eql ?_
  refine HO_pick_f rfl rfl rfl rfl ?_
  refine HO_move rfl rfl rfl ?_
  refine HO_split (d := 38) rfl ?_ ?_
  ·intro h38
   replace h38 := dT h38
   refine HO_call (first := []) (capt := []) (is := []) (R := [_, _, _, _, _, _, _]) rfl rfl rfl rfl rfl Try.call24 rfl lives20_spec ?_
   intro y39 hy39
   clear y39 hy39
   refine HO_pick_t rfl rfl rfl rfl ?_
   refine HO_assign rfl rfl rfl ?_
   refine HO_nil ?_
   refine H_env (ρ' := [(4, _)]) ⟨rfl, trivial⟩ ?_
   refine H_world (fun _ hA => hA.keep (m := [nn, nn, nn, nn, nn, nn, nn]) (Y := []) rfl) ?_
   refine H_ret1 Try.results7 (.tmp rfl) (fun w hA => ⟨(), congrArg Ending.returned ?_, ?_, ?_⟩)
   ·(exact congrArg Value.bool (by first | rfl | assumption | simp_all))
   ·trivial
   ·exact hA.keep (m := []) (Y := []) rfl
  intro h38
  replace h38 := dF h38
  (rcases Mod.query_err (ps := (Mod.fold es).1) (c := (⟨ki, cs, sq, ke, ol, cv, ti, li⟩ : Cmd)) with h | h <;> contradiction)
 intro h25
 replace h25 := dF h25
 refine HO_fieldAddr (r := 0) rfl rfl rfl Try.underlying36 rfl Try.sizeOf3 rfl ?_
 refine HO_load1 (i := 5) (j := 0) rfl rfl rfl Try.isAgg3 rfl (.loc _ _ _) rfl rfl ?_
 refine HO_bin rfl rfl rfl rfl bin_neq ?_
 refine HO_pick_f rfl rfl rfl rfl ?_
 refine HO_nil ?_
 refine H_env (ρ' := [(29, _), (6, _), (5, _), (3, _), (0, _)]) ⟨rfl, rfl, rfl, rfl, rfl, trivial⟩ ?_
 refine H_cond rfl ?_ ?_
 ·intro h29
  replace h29 := dT h29
  refine H_seq ?_
  refine H_region (l := [_, _, _, _, _, _, _, _, _, _, _, _]) rfl ?_
  refine HO_fieldAddr (r := 0) rfl rfl rfl Try.underlying38 rfl Try.sizeOf26 rfl ?_
  refine HO_load1 (i := 0) (j := 0) rfl rfl rfl Try.isAgg26 rfl (.loc _ _ _) rfl rfl ?_
  refine HO_bin rfl rfl rfl rfl bin_eql ?_
  refine HO_move rfl rfl rfl ?_
  refine HO_split (d := 33) rfl ?_ ?_
  ·intro h33
   replace h33 := dT h33
   iterate 3 refine HO_no rfl rfl rfl ?_
   refine HO_pick_t rfl rfl rfl rfl ?_
   refine HO_move rfl rfl rfl ?_
   refine HO_call (first := []) (capt := []) (is := []) (R := [_, _, _, _, _, _, _]) rfl rfl rfl rfl rfl Try.call24 rfl lives20_spec ?_
   intro y39 hy39
   clear y39 hy39
   refine HO_pick_t rfl rfl rfl rfl ?_
   refine HO_assign rfl rfl rfl ?_
   refine HO_nil ?_
   refine H_env (ρ' := [(4, _)]) ⟨rfl, trivial⟩ ?_
   refine H_world (fun _ hA => hA.keep (m := [nn, nn, nn, nn, nn, nn, nn]) (Y := []) rfl) ?_
   refine H_ret1 Try.results7 (.tmp rfl) (fun w hA => ⟨(), congrArg Ending.returned ?_, ?_, ?_⟩)
   ·(exact congrArg Value.bool (by first | rfl | assumption | simp_all))
   ·trivial
   ·exact hA.keep (m := []) (Y := []) rfl
  intro h33
  replace h33 := dF h33
  refine HO_fieldAddr (r := 0) rfl rfl rfl Try.underlying38 rfl Try.sizeOf26 rfl ?_
  refine HO_load1 (i := 0) (j := 0) rfl rfl rfl Try.isAgg26 rfl (.loc _ _ _) rfl rfl ?_
  refine HO_bin rfl rfl rfl rfl bin_eql ?_
  refine HO_pick_f rfl rfl rfl rfl ?_
  refine HO_move rfl rfl rfl ?_
  refine HO_split (d := 38) rfl ?_ ?_
  ·intro h38
   replace h38 := dT h38
   refine HO_call (first := []) (capt := []) (is := []) (R := [_, _, _, _, _, _, _]) rfl rfl rfl rfl rfl Try.call24 rfl lives20_spec ?_
   intro y39 hy39
   clear y39 hy39
   refine HO_pick_t rfl rfl rfl rfl ?_
   refine HO_assign rfl rfl rfl ?_
   refine HO_nil ?_
   refine H_env (ρ' := [(4, _)]) ⟨rfl, trivial⟩ ?_
   refine H_world (fun _ hA => hA.keep (m := [nn, nn, nn, nn, nn, nn, nn]) (Y := []) rfl) ?_
   refine H_ret1 Try.results7 (.tmp rfl) (fun w hA => ⟨(), congrArg Ending.returned ?_, ?_, ?_⟩)
   ·(exact congrArg Value.bool (by first | rfl | assumption | simp_all))
   ·trivial
   ·exact hA.keep (m := []) (Y := []) rfl
  intro h38
  replace h38 := dF h38
  (rcases Mod.query_err (ps := (Mod.fold es).1) (c := (⟨ki, cs, sq, ke, ol, cv, ti, li⟩ : Cmd)) with h | h <;> contradiction)
 intro h29
 replace h29 := dF h29
 refine H_skip ?_
 refine H_seq ?_
 have hq := Mod.query_scan (ps := (Mod.fold es).1) (c := (⟨ki, cs, sq, ke, ol, cv, ti, li⟩ : Cmd)) h25 h29
 have hpl := (Mod.Inv.fold (l := es)).pl
 have hql : 1 ≤ li ∧ li ≤ 64 := hq.2
 refine H_region (l := [_]) rfl ?_
 refine HO_assign rfl rfl rfl ?_
 refine HO_nil ?_
 refine H_env (ρ' := [(7, _), (6, _), (5, _), (3, _), (0, _)]) ⟨rfl, rfl, rfl, rfl, rfl, trivial⟩ ?_
 refine H_seq ?_
 refine H_seq ?_
 refine H_region (l := [_, _, _, _]) rfl ?_
 refine HO_fieldAddr (r := 0) rfl rfl rfl Try.underlying56 rfl Try.sizeOf31 rfl ?_
 refine HO_load1 (i := 2) (j := 0) rfl rfl rfl Try.isAgg31 rfl (.loc _ _ _) rfl rfl ?_
 refine HO_bi rfl rfl rfl (bi_len_sl Try.underlying31) ?_
 refine HO_move rfl rfl rfl ?_
 refine HO_nil ?_
 refine H_env (ρ' := [(44, _), (43, _), (42, _), (7, _), (6, _), (5, _), (3, _), (0, _)]) ⟨rfl, rfl, rfl, rfl, rfl, rfl, rfl, rfl, trivial⟩ ?_
 refine H_block ?_
 refine H_loop (σ := Nat × Nat) (fun s => s.1 ≤ (Mod.fold es).1.length ∧ s.2 = (((Mod.fold es).1.take s.1).filter (Mod.inScan ke ti)).length) (fun s => [(0, .slice a (es.length) c), (3, .pointer (some ⟨g3, 0, none⟩)), (5, .pointer (some ⟨g5, 0, none⟩)), (6, .pointer (some ⟨g6, 0, none⟩)), (7, .int .i64 ((s.2 : Int))), (42, .slice y18.1.1 (((Mod.fold es).1).length) y18.1.2), (43, .int .i64 (((Mod.fold es).1.length : Int))), (44, .int .i64 ((s.1 : Int)))]) (fun s => Asn w0 ok0 M0 [.dat kEnt.sl (es) [.slice a (es.length) c], .loc g3 [.int .i64 (ki), .int .i64 (cs), .int .i64 (sq), .string (ke), .string (ol), .string (cv), .string (ti), .int .i64 (li)] 36, .loc g5 [.slice y18.1.1 (((Mod.fold es).1).length) y18.1.2, .slice y18.2.1 (((Mod.fold es).2).length) y18.2.2] 56, .dat kPair.sl ((Mod.fold es).1) [.slice y18.1.1 (((Mod.fold es).1).length) y18.1.2], .loc g6 [.int .i64 ((Mod.query (Mod.fold es).1 (⟨ki, cs, sq, ke, ol, cv, ti, li⟩ : Cmd)).err), .bool ((Mod.query (Mod.fold es).1 (⟨ki, cs, sq, ke, ol, cv, ti, li⟩ : Cmd)).found), .string ((Mod.query (Mod.fold es).1 (⟨ki, cs, sq, ke, ol, cv, ti, li⟩ : Cmd)).val), .int .i64 ((Mod.query (Mod.fold es).1 (⟨ki, cs, sq, ke, ol, cv, ti, li⟩ : Cmd)).sess), .slice y21.1 (((Mod.query (Mod.fold es).1 (⟨ki, cs, sq, ke, ol, cv, ti, li⟩ : Cmd)).pairs).length) y21.2] 38, .dat kPair.sl ((Mod.query (Mod.fold es).1 (⟨ki, cs, sq, ke, ol, cv, ti, li⟩ : Cmd)).pairs) [.slice y21.1 (((Mod.query (Mod.fold es).1 (⟨ki, cs, sq, ke, ol, cv, ti, li⟩ : Cmd)).pairs).length) y21.2]]) (fun s => (Mod.fold es).1.length - s.1) ⟨0, 0⟩ ?_ ?_ ?_ ?_
 ·exact ⟨Nat.zero_le _, by simp⟩
 ·exact ⟨rfl, rfl, rfl, rfl, rfl, rfl, rfl, rfl, trivial⟩
 ·intro w hA
  exact hA.only (is := [1, 1, 0, 1, 0, 1]) (Z := [_]) rfl
 ·rintro ⟨i, n⟩ hI
  (try dsimp only at hI ⊢)
  have hnl : n ≤ i := by rw [hI.2]; exact Nat.le_trans (List.length_filter_le _ _) (by rw [List.length_take]; omega)
  refine H_seq ?_
  refine H_region (l := [_]) rfl ?_
  refine HO_bin rfl rfl rfl rfl bin_lss ?_
  refine HO_nil ?_
  refine H_seq ?_
  refine H_cond rfl ?_ ?_
  ·intro h45
   replace h45 := dT h45
   refine H_skip ?_
   refine H_seq ?_
   refine H_block ?_
   refine H_seq ?_
   refine H_region (l := [_, _, _, _]) rfl ?_
   refine HO_indexAddr open_Pair (i := 3) rfl rfl rfl rfl rfl Try.underlying31 Try.sizeOf70 rfl ?_ ?_
   ·omega
   intro b46 o46 z46 y46 hz46 hI46
   clear y46
   (try simp only [BIG] at hI46)
   refine HO_loadA (i := 0) (us := []) (cs := [_, _]) (ts := []) rfl rfl rfl Try.isAgg70 Try.sizeOf70 rfl (.elem _ _ _) rfl rfl rfl rfl ?_
   refine HO_alloc (cs := [_, _]) rfl rfl Try.zeroValue70 rfl ?_
   intro g9
   refine HO_store (i := 0) (j := 0) (us := []) (old := [_, _]) (ts := []) (cs := [_, _]) (R := [_, _, _, _, _, _, _]) (new := [_, _]) rfl rfl rfl Try.sizeOf70 rfl (by simp [Value.oneCell']) rfl rfl rfl rfl rfl rfl ?_
   refine HO_nil ?_
   refine H_env (ρ' := [(9, _), (0, _), (3, _), (5, _), (6, _), (7, _), (42, _), (43, _), (44, _)]) ⟨rfl, rfl, rfl, rfl, rfl, rfl, rfl, rfl, rfl, trivial⟩ ?_
   refine H_world (fun _ hA => hA.keep (m := [yy, nn, yy, yy, yy, yy, yy, yy]) (Y := [_, _, _, _, _, _, _]) rfl) ?_
   refine H_seq ?_
   refine H_region (l := [_, _, _, _, _, _, _, _, _, _, _, _, _, _, _, _, _]) rfl ?_
   refine HO_fieldAddr (r := 0) rfl rfl rfl Try.underlying70 rfl Try.sizeOf9 rfl ?_
   refine HO_load1 (i := 0) (j := 0) rfl rfl rfl Try.isAgg9 rfl (.loc _ _ _) rfl rfl ?_
   refine HO_fieldAddr (r := 3) rfl rfl rfl Try.underlying36 rfl Try.sizeOf9 rfl ?_
   refine HO_load1 (i := 2) (j := 3) rfl rfl rfl Try.isAgg9 rfl (.loc _ _ _) rfl rfl ?_
   refine HO_bin rfl rfl rfl rfl bin_ges ?_
   refine HO_move rfl rfl rfl ?_
   refine HO_split (d := 53) rfl ?_ ?_
   ·intro h53
    (try simp only [decide_eq_true_eq, decide_eq_false_iff_not, Bool.not_eq_true', Bool.not_eq_false', Bool.not_eq_true, Bool.not_eq_false, Bool.true_eq_false, Bool.false_eq_true, not_false_eq_true, not_true_eq_false] at h53)
    refine HO_fieldAddr (r := 6) rfl rfl rfl Try.underlying36 rfl Try.sizeOf9 rfl ?_
    refine HO_load1 (i := 2) (j := 6) rfl rfl rfl Try.isAgg9 rfl (.loc _ _ _) rfl rfl ?_
    refine HO_bin rfl rfl rfl rfl bin_eqs ?_
    refine HO_move rfl rfl rfl ?_
    refine HO_split (d := 57) rfl ?_ ?_
    ·intro h57
     replace h57 := dT h57
     iterate 5 refine HO_no rfl rfl rfl ?_
     iterate 2 refine HO_pick_t rfl rfl rfl rfl ?_
     refine HO_nil ?_
     refine H_env (ρ' := [(64, _), (9, _), (0, _), (3, _), (5, _), (6, _), (7, _), (42, _), (43, _), (44, _)]) ⟨rfl, rfl, rfl, rfl, rfl, rfl, rfl, rfl, rfl, rfl, trivial⟩ ?_
     refine H_cond rfl (fun _ => ?_) (fun h => nomatch h)
     refine H_seq ?_
     refine H_seq ?_
     have hin : (Mod.inScan ke ti) z46 = true := by simp only [Mod.inScan, soStr, Cmd.empty]; first | (simp [*]; done) | (simp_all; done)
     refine H_drawB (m := [yy, yy, yy, yy, yy, yy, yy]) (Xs := [_, _, _, _, _, _, _]) (fuel := 20) (l := #[false, false, false, false, false, false, false, false, false, false, false, false, false, false, false, false, false, false, false, false]) mixed rfl rfl rfl ?_
     refine HA_take (i := 0) (listed' := #[true, false, false, false, false, false, false, false, false, false, false, false, false, false, false, false, false, false, false, false]) (bodyPost_pan _ _ _) rfl rfl rfl rfl (by kernel_rfl) rfl (V_move rfl) (fun _ hA => hA) ?_
     refine HA_take (i := 1) (listed' := #[true, true, false, false, false, false, false, false, false, false, false, false, false, false, false, false, false, false, false, false]) (bodyPost_pan _ _ _) rfl rfl rfl rfl (by kernel_rfl) rfl (V_fieldAddr (r := 7) rfl Try.underlying36 rfl Try.sizeOf3 rfl) (fun _ hA => hA) ?_
     refine HA_take (i := 2) (listed' := #[true, true, true, false, false, false, false, false, false, false, false, false, false, false, false, false, false, false, false, false]) (bodyPost_pan _ _ _) rfl rfl rfl rfl (by kernel_rfl) rfl (V_load1 (i := 2) (j := 7) rfl Try.isAgg3 rfl (.loc _ _ _) rfl rfl) (fun _ hA => hA) ?_
     refine HA_take (i := 3) (listed' := #[true, true, true, true, false, false, false, false, false, false, false, false, false, false, false, false, false, false, false, false]) (bodyPost_pan _ _ _) rfl rfl rfl rfl (by kernel_rfl) rfl (V_bin rfl rfl bin_lss) (fun _ hA => hA) ?_
     refine HA_take (i := 4) (listed' := #[true, true, true, true, true, false, false, false, false, false, false, false, false, false, false, false, false, false, false, false]) (bodyPost_pan _ _ _) rfl rfl rfl rfl (by kernel_rfl) rfl (V_move rfl) (fun _ hA => hA) ?_
     refine HA_split (d := 69) rfl ?_ ?_
     ·intro h69
      replace h69 := dT h69
      have hsa : (Mod.query (Mod.fold es).1 (⟨ki, cs, sq, ke, ol, cv, ti, li⟩ : Cmd)).pairs[n]? = some z46 := by rw [hq.1, hI.2]; exact Mod.scan_at (ke := ke) (ti := ti) (li := li) Mod.Inv.fold.ps hz46 hin (by rw [← hI.2]; exact h69)
      refine HA_take (i := 5) (listed' := #[true, true, true, true, true, true, false, false, false, false, false, false, false, false, false, false, false, false, false, false]) (bodyPost_pan _ _ _) rfl rfl rfl rfl (by kernel_rfl) rfl (V_move rfl) (fun _ hA => hA) ?_
      refine HA_take (i := 6) (listed' := #[true, true, true, true, true, true, true, false, false, false, false, false, false, false, false, false, false, false, false, false]) (bodyPost_pan _ _ _) rfl rfl rfl rfl (by kernel_rfl) rfl (V_fieldAddr (r := 4) rfl Try.underlying38 rfl Try.sizeOf31 rfl) (fun _ hA => hA) ?_
      refine HA_take (i := 7) (listed' := #[true, true, true, true, true, true, true, true, false, false, false, false, false, false, false, false, false, false, false, false]) (bodyPost_pan _ _ _) rfl rfl rfl rfl (by kernel_rfl) rfl (V_load1 (i := 5) (j := 4) rfl Try.isAgg31 rfl (.loc _ _ _) rfl rfl) (fun _ hA => hA) ?_
      refine HA_take (i := 8) (listed' := #[true, true, true, true, true, true, true, true, true, false, false, false, false, false, false, false, false, false, false, false]) (bodyPost_pan _ _ _) rfl rfl rfl rfl (by kernel_rfl) rfl (V_bi rfl (bi_len_sl Try.underlying31)) (fun _ hA => hA) ?_
      refine HA_take (i := 9) (listed' := #[true, true, true, true, true, true, true, true, true, true, false, false, false, false, false, false, false, false, false, false]) (bodyPost_pan _ _ _) rfl rfl rfl rfl (by kernel_rfl) rfl (V_bin rfl rfl bin_geq) (fun _ hA => hA) ?_
      refine HA_take (i := 10) (listed' := #[true, true, true, true, true, true, true, true, true, true, true, false, false, false, false, false, false, false, false, false]) (bodyPost_pan _ _ _) rfl rfl rfl rfl (by kernel_rfl) rfl (V_move rfl) (fun _ hA => hA) ?_
      refine HA_split (d := 75) rfl ?_ ?_
      ·intro h75
       replace h75 := dT h75
       (have := (List.getElem?_eq_some_iff.1 hsa).1; omega)
      intro h75
      replace h75 := dF h75
      refine HA_take (i := 11) (listed' := #[true, true, true, true, true, true, true, true, true, true, true, true, false, false, false, false, false, false, false, false]) (bodyPost_pan _ _ _) rfl rfl rfl rfl (by kernel_rfl) rfl (V_fieldAddr (r := 4) rfl Try.underlying38 rfl Try.sizeOf31 rfl) (fun _ hA => hA) ?_
      refine HA_take (i := 12) (listed' := #[true, true, true, true, true, true, true, true, true, true, true, true, true, false, false, false, false, false, false, false]) (bodyPost_pan _ _ _) rfl rfl rfl rfl (by kernel_rfl) rfl (V_load1 (i := 5) (j := 4) rfl Try.isAgg31 rfl (.loc _ _ _) rfl rfl) (fun _ hA => hA) ?_
      refine HA_take (i := 13) (listed' := #[true, true, true, true, true, true, true, true, true, true, true, true, true, true, false, false, false, false, false, false]) (bodyPost_pan _ _ _) rfl rfl rfl rfl (by kernel_rfl) rfl (V_move rfl) (fun _ hA => hA) ?_
      refine HA_take (i := 16) (listed' := #[true, true, true, true, true, true, true, true, true, true, true, true, true, true, false, false, true, false, false, false]) (bodyPost_pan _ _ _) rfl rfl rfl rfl (by kernel_rfl) rfl (V_loadA (i := 0) (us := []) (cs := [_, _]) (ts := []) rfl Try.isAgg70 Try.sizeOf70 rfl (.loc _ _ _) rfl rfl rfl rfl) (fun _ hA => hA) ?_
      refine HA_loud1 (i := 14) (by kernel_rfl) rfl ?_
      refine HO_indexAddr open_Pair (i := 6) rfl rfl rfl rfl rfl Try.underlying31 Try.sizeOf70 rfl ?_ ?_
      ·(have := (List.getElem?_eq_some_iff.1 hsa).1; omega)
      intro b79 o79 z79 y79 hz79 hI79
      clear y79
      (try simp only [BIG] at hI79)
      refine HA_back (listed' := #[true, true, true, true, true, true, true, true, true, true, true, true, true, true, true, false, true, false, false, false]) rfl (fun _ hA => hA.keep (m := [nn, yy, yy, yy, yy, yy, yy, yy]) (Y := [_, _, _, _, _, _, _]) rfl) ?_
      refine HA_loud1 (i := 15) (by kernel_rfl) rfl ?_
      refine HO_loadA (i := 0) (us := []) (cs := [_, _]) (ts := []) rfl rfl rfl Try.isAgg70 Try.sizeOf70 rfl (.elem _ _ _) rfl rfl rfl rfl ?_
      refine HA_back (listed' := #[true, true, true, true, true, true, true, true, true, true, true, true, true, true, true, true, true, false, false, false]) rfl (fun _ hA => hA.keep (m := [nn, yy, yy, yy, yy, yy, yy, yy]) (Y := [_, _, _, _, _, _, _]) rfl) ?_
      refine HA_take (i := 17) (listed' := #[true, true, true, true, true, true, true, true, true, true, true, true, true, true, true, true, true, true, false, false]) (bodyPost_pan _ _ _) rfl rfl rfl rfl (by kernel_rfl) rfl (V_bin rfl rfl eq70_neq) (fun _ hA => hA.keep (m := [nn, yy, yy, yy, yy, yy, yy, yy]) (Y := [_, _, _, _, _, _, _]) rfl) ?_
      refine HA_take (i := 18) (listed' := #[true, true, true, true, true, true, true, true, true, true, true, true, true, true, true, true, true, true, true, false]) (bodyPost_pan _ _ _) rfl rfl rfl rfl (by kernel_rfl) rfl (V_pick_f rfl rfl) (fun _ hA => hA.keep (m := [nn, yy, yy, yy, yy, yy, yy, yy]) (Y := [_, _, _, _, _, _, _]) rfl) ?_
      refine HA_take (i := 19) (listed' := #[true, true, true, true, true, true, true, true, true, true, true, true, true, true, true, true, true, true, true, true]) (bodyPost_pan _ _ _) rfl rfl rfl rfl (by kernel_rfl) rfl (V_pick_t rfl rfl) (fun _ hA => hA.keep (m := [nn, yy, yy, yy, yy, yy, yy, yy]) (Y := [_, _, _, _, _, _, _]) rfl) ?_
      refine HA_done (by kernel_rfl) ?_
      refine H_env (ρ' := [(84, _), (0, _), (3, _), (5, _), (6, _), (7, _), (42, _), (43, _), (44, _)]) ⟨rfl, rfl, rfl, rfl, rfl, rfl, rfl, rfl, rfl, trivial⟩ ?_
      refine H_world (fun _ hA => hA.keep (m := [nn, nn, yy, yy, yy, yy, yy, yy]) (Y := [_, _, _, _, _, _]) rfl) ?_
      refine H_cond rfl ?_ ?_
      ·intro h84
       (try simp only [decide_eq_true_eq, decide_eq_false_iff_not, Bool.not_eq_true', Bool.not_eq_false', Bool.not_eq_true, Bool.not_eq_false, Bool.true_eq_false, Bool.false_eq_true, not_false_eq_true, not_true_eq_false] at h84)
       (rw [hsa] at hz79; cases hz79; simp at h84)
      intro h84
      (try simp only [decide_eq_true_eq, decide_eq_false_iff_not, Bool.not_eq_true', Bool.not_eq_false', Bool.not_eq_true, Bool.not_eq_false, Bool.true_eq_false, Bool.false_eq_true, not_false_eq_true, not_true_eq_false] at h84)
      refine H_skip ?_
      refine H_region (l := [_, _, _]) rfl ?_
      refine HO_move rfl rfl rfl ?_
      refine HO_bin rfl rfl rfl rfl (bin_add ?_ ?_) ?_
      ·omega
      ·omega
      refine HO_assign rfl rfl rfl ?_
      refine HO_nil ?_
      refine H_env (ρ' := [(7, _), (0, _), (3, _), (5, _), (6, _), (42, _), (43, _), (44, _)]) ⟨rfl, rfl, rfl, rfl, rfl, rfl, rfl, rfl, trivial⟩ ?_
      refine H_blk ?_
      have hcn := Mod.count_next (ke := ke) (ti := ti) hz46
      refine H_region (l := [_, _]) rfl ?_
      refine HO_bin rfl rfl rfl rfl (bin_add ?_ ?_) ?_
      ·omega
      ·omega
      refine HO_move rfl rfl rfl ?_
      refine HO_nil ?_
      refine H_env (ρ' := [(44, _), (7, _), (0, _), (3, _), (5, _), (6, _), (42, _), (43, _)]) ⟨rfl, rfl, rfl, rfl, rfl, rfl, rfl, rfl, trivial⟩ ?_
      refine H_inv (fun a w hf hA => ⟨⟨i + 1, n + 1⟩, ?_, ?_, hf.sub ?_, ?_⟩)
      ·exact ⟨by dsimp only; omega, by dsimp only; rw [hcn, ← hI.2, if_pos hin]⟩
      ·(try dsimp only); omega
      ·exact ⟨rfl, rfl, rfl, rfl, rfl, rfl, rfl, rfl, trivial⟩
      ·exact hA.only (is := [0, 1, 2, 3, 4, 5]) (Z := []) rfl
     intro h69
     replace h69 := dF h69
     refine HA_no (i := 5) (listed' := #[true, true, true, true, true, true, false, false, false, false, false, false, false, false, false, false, false, false, false, false]) (bodyPost_pan _ _ _) rfl rfl rfl rfl (by kernel_rfl) rfl (fun _ hA => hA) ?_
     refine HA_no (i := 6) (listed' := #[true, true, true, true, true, true, true, false, false, false, false, false, false, false, false, false, false, false, false, false]) (bodyPost_pan _ _ _) rfl rfl rfl rfl (by kernel_rfl) rfl (fun _ hA => hA) ?_
     refine HA_no (i := 7) (listed' := #[true, true, true, true, true, true, true, true, false, false, false, false, false, false, false, false, false, false, false, false]) (bodyPost_pan _ _ _) rfl rfl rfl rfl (by kernel_rfl) rfl (fun _ hA => hA) ?_
     refine HA_no (i := 8) (listed' := #[true, true, true, true, true, true, true, true, true, false, false, false, false, false, false, false, false, false, false, false]) (bodyPost_pan _ _ _) rfl rfl rfl rfl (by kernel_rfl) rfl (fun _ hA => hA) ?_
     refine HA_no (i := 9) (listed' := #[true, true, true, true, true, true, true, true, true, true, false, false, false, false, false, false, false, false, false, false]) (bodyPost_pan _ _ _) rfl rfl rfl rfl (by kernel_rfl) rfl (fun _ hA => hA) ?_
     refine HA_no (i := 10) (listed' := #[true, true, true, true, true, true, true, true, true, true, true, false, false, false, false, false, false, false, false, false]) (bodyPost_pan _ _ _) rfl rfl rfl rfl (by kernel_rfl) rfl (fun _ hA => hA) ?_
     refine HA_no (i := 11) (listed' := #[true, true, true, true, true, true, true, true, true, true, true, true, false, false, false, false, false, false, false, false]) (bodyPost_pan _ _ _) rfl rfl rfl rfl (by kernel_rfl) rfl (fun _ hA => hA) ?_
     refine HA_no (i := 12) (listed' := #[true, true, true, true, true, true, true, true, true, true, true, true, true, false, false, false, false, false, false, false]) (bodyPost_pan _ _ _) rfl rfl rfl rfl (by kernel_rfl) rfl (fun _ hA => hA) ?_
     refine HA_no (i := 13) (listed' := #[true, true, true, true, true, true, true, true, true, true, true, true, true, true, false, false, false, false, false, false]) (bodyPost_pan _ _ _) rfl rfl rfl rfl (by kernel_rfl) rfl (fun _ hA => hA) ?_
     refine HA_no (i := 14) (listed' := #[true, true, true, true, true, true, true, true, true, true, true, true, true, true, true, false, false, false, false, false]) (bodyPost_pan _ _ _) rfl rfl rfl rfl (by kernel_rfl) rfl (fun _ hA => hA) ?_
     refine HA_no (i := 15) (listed' := #[true, true, true, true, true, true, true, true, true, true, true, true, true, true, true, true, false, false, false, false]) (bodyPost_pan _ _ _) rfl rfl rfl rfl (by kernel_rfl) rfl (fun _ hA => hA) ?_
     refine HA_no (i := 16) (listed' := #[true, true, true, true, true, true, true, true, true, true, true, true, true, true, true, true, true, false, false, false]) (bodyPost_pan _ _ _) rfl rfl rfl rfl (by kernel_rfl) rfl (fun _ hA => hA) ?_
     refine HA_no (i := 17) (listed' := #[true, true, true, true, true, true, true, true, true, true, true, true, true, true, true, true, true, true, false, false]) (bodyPost_pan _ _ _) rfl rfl rfl rfl (by kernel_rfl) rfl (fun _ hA => hA) ?_
     refine HA_no (i := 18) (listed' := #[true, true, true, true, true, true, true, true, true, true, true, true, true, true, true, true, true, true, true, false]) (bodyPost_pan _ _ _) rfl rfl rfl rfl (by kernel_rfl) rfl (fun _ hA => hA) ?_
     refine HA_take (i := 19) (listed' := #[true, true, true, true, true, true, true, true, true, true, true, true, true, true, true, true, true, true, true, true]) (bodyPost_pan _ _ _) rfl rfl rfl rfl (by kernel_rfl) rfl (V_pick_f rfl rfl) (fun _ hA => hA) ?_
     refine HA_done (by kernel_rfl) ?_
     refine H_env (ρ' := [(84, _), (0, _), (3, _), (5, _), (6, _), (7, _), (42, _), (43, _), (44, _)]) ⟨rfl, rfl, rfl, rfl, rfl, rfl, rfl, rfl, rfl, trivial⟩ ?_
     refine H_world (fun _ hA => hA.keep (m := [nn, yy, yy, yy, yy, yy, yy]) (Y := [_, _, _, _, _, _]) rfl) ?_
     refine H_cond rfl (fun h => nomatch h) (fun _ => ?_)
     refine H_skip ?_
     refine H_region (l := [_, _, _]) rfl ?_
     refine HO_move rfl rfl rfl ?_
     refine HO_bin rfl rfl rfl rfl (bin_add ?_ ?_) ?_
     ·omega
     ·omega
     refine HO_assign rfl rfl rfl ?_
     refine HO_nil ?_
     refine H_env (ρ' := [(7, _), (0, _), (3, _), (5, _), (6, _), (42, _), (43, _), (44, _)]) ⟨rfl, rfl, rfl, rfl, rfl, rfl, rfl, rfl, trivial⟩ ?_
     refine H_blk ?_
     have hcn := Mod.count_next (ke := ke) (ti := ti) hz46
     refine H_region (l := [_, _]) rfl ?_
     refine HO_bin rfl rfl rfl rfl (bin_add ?_ ?_) ?_
     ·omega
     ·omega
     refine HO_move rfl rfl rfl ?_
     refine HO_nil ?_
     refine H_env (ρ' := [(44, _), (7, _), (0, _), (3, _), (5, _), (6, _), (42, _), (43, _)]) ⟨rfl, rfl, rfl, rfl, rfl, rfl, rfl, rfl, trivial⟩ ?_
     refine H_inv (fun a w hf hA => ⟨⟨i + 1, n + 1⟩, ?_, ?_, hf.sub ?_, ?_⟩)
     ·exact ⟨by dsimp only; omega, by dsimp only; rw [hcn, ← hI.2, if_pos hin]⟩
     ·(try dsimp only); omega
     ·exact ⟨rfl, rfl, rfl, rfl, rfl, rfl, rfl, rfl, trivial⟩
     ·exact hA.only (is := [0, 1, 2, 3, 4, 5]) (Z := []) rfl
    intro h57
    replace h57 := dF h57
    refine HO_fieldAddr (r := 0) rfl rfl rfl Try.underlying70 rfl Try.sizeOf9 rfl ?_
    refine HO_load1 (i := 0) (j := 0) rfl rfl rfl Try.isAgg9 rfl (.loc _ _ _) rfl rfl ?_
    refine HO_fieldAddr (r := 6) rfl rfl rfl Try.underlying36 rfl Try.sizeOf9 rfl ?_
    refine HO_load1 (i := 2) (j := 6) rfl rfl rfl Try.isAgg9 rfl (.loc _ _ _) rfl rfl ?_
    refine HO_bin rfl rfl rfl rfl bin_lts ?_
    refine HO_pick_f rfl rfl rfl rfl ?_
    refine HO_pick_t rfl rfl rfl rfl ?_
    refine HO_nil ?_
    refine H_env (ρ' := [(64, _), (9, _), (0, _), (3, _), (5, _), (6, _), (7, _), (42, _), (43, _), (44, _)]) ⟨rfl, rfl, rfl, rfl, rfl, rfl, rfl, rfl, rfl, rfl, trivial⟩ ?_
    refine H_cond rfl ?_ ?_
    ·intro h64
     refine H_seq ?_
     refine H_seq ?_
     have hin : (Mod.inScan ke ti) z46 = true := by simp only [Mod.inScan, soStr, Cmd.empty]; first | (simp [*]; done) | (simp_all; done)
     refine H_drawB (m := [yy, yy, yy, yy, yy, yy, yy]) (Xs := [_, _, _, _, _, _, _]) (fuel := 20) (l := #[false, false, false, false, false, false, false, false, false, false, false, false, false, false, false, false, false, false, false, false]) mixed rfl rfl rfl ?_
     refine HA_take (i := 0) (listed' := #[true, false, false, false, false, false, false, false, false, false, false, false, false, false, false, false, false, false, false, false]) (bodyPost_pan _ _ _) rfl rfl rfl rfl (by kernel_rfl) rfl (V_move rfl) (fun _ hA => hA) ?_
     refine HA_take (i := 1) (listed' := #[true, true, false, false, false, false, false, false, false, false, false, false, false, false, false, false, false, false, false, false]) (bodyPost_pan _ _ _) rfl rfl rfl rfl (by kernel_rfl) rfl (V_fieldAddr (r := 7) rfl Try.underlying36 rfl Try.sizeOf3 rfl) (fun _ hA => hA) ?_
     refine HA_take (i := 2) (listed' := #[true, true, true, false, false, false, false, false, false, false, false, false, false, false, false, false, false, false, false, false]) (bodyPost_pan _ _ _) rfl rfl rfl rfl (by kernel_rfl) rfl (V_load1 (i := 2) (j := 7) rfl Try.isAgg3 rfl (.loc _ _ _) rfl rfl) (fun _ hA => hA) ?_
     refine HA_take (i := 3) (listed' := #[true, true, true, true, false, false, false, false, false, false, false, false, false, false, false, false, false, false, false, false]) (bodyPost_pan _ _ _) rfl rfl rfl rfl (by kernel_rfl) rfl (V_bin rfl rfl bin_lss) (fun _ hA => hA) ?_
     refine HA_take (i := 4) (listed' := #[true, true, true, true, true, false, false, false, false, false, false, false, false, false, false, false, false, false, false, false]) (bodyPost_pan _ _ _) rfl rfl rfl rfl (by kernel_rfl) rfl (V_move rfl) (fun _ hA => hA) ?_
     refine HA_split (d := 69) rfl ?_ ?_
     ·intro h69
      replace h69 := dT h69
      have hsa : (Mod.query (Mod.fold es).1 (⟨ki, cs, sq, ke, ol, cv, ti, li⟩ : Cmd)).pairs[n]? = some z46 := by rw [hq.1, hI.2]; exact Mod.scan_at (ke := ke) (ti := ti) (li := li) Mod.Inv.fold.ps hz46 hin (by rw [← hI.2]; exact h69)
      refine HA_take (i := 5) (listed' := #[true, true, true, true, true, true, false, false, false, false, false, false, false, false, false, false, false, false, false, false]) (bodyPost_pan _ _ _) rfl rfl rfl rfl (by kernel_rfl) rfl (V_move rfl) (fun _ hA => hA) ?_
      refine HA_take (i := 6) (listed' := #[true, true, true, true, true, true, true, false, false, false, false, false, false, false, false, false, false, false, false, false]) (bodyPost_pan _ _ _) rfl rfl rfl rfl (by kernel_rfl) rfl (V_fieldAddr (r := 4) rfl Try.underlying38 rfl Try.sizeOf31 rfl) (fun _ hA => hA) ?_
      refine HA_take (i := 7) (listed' := #[true, true, true, true, true, true, true, true, false, false, false, false, false, false, false, false, false, false, false, false]) (bodyPost_pan _ _ _) rfl rfl rfl rfl (by kernel_rfl) rfl (V_load1 (i := 5) (j := 4) rfl Try.isAgg31 rfl (.loc _ _ _) rfl rfl) (fun _ hA => hA) ?_
      refine HA_take (i := 8) (listed' := #[true, true, true, true, true, true, true, true, true, false, false, false, false, false, false, false, false, false, false, false]) (bodyPost_pan _ _ _) rfl rfl rfl rfl (by kernel_rfl) rfl (V_bi rfl (bi_len_sl Try.underlying31)) (fun _ hA => hA) ?_
      refine HA_take (i := 9) (listed' := #[true, true, true, true, true, true, true, true, true, true, false, false, false, false, false, false, false, false, false, false]) (bodyPost_pan _ _ _) rfl rfl rfl rfl (by kernel_rfl) rfl (V_bin rfl rfl bin_geq) (fun _ hA => hA) ?_
      refine HA_take (i := 10) (listed' := #[true, true, true, true, true, true, true, true, true, true, true, false, false, false, false, false, false, false, false, false]) (bodyPost_pan _ _ _) rfl rfl rfl rfl (by kernel_rfl) rfl (V_move rfl) (fun _ hA => hA) ?_
      refine HA_split (d := 75) rfl ?_ ?_
      ·intro h75
       replace h75 := dT h75
       (have := (List.getElem?_eq_some_iff.1 hsa).1; omega)
      intro h75
      replace h75 := dF h75
      refine HA_take (i := 11) (listed' := #[true, true, true, true, true, true, true, true, true, true, true, true, false, false, false, false, false, false, false, false]) (bodyPost_pan _ _ _) rfl rfl rfl rfl (by kernel_rfl) rfl (V_fieldAddr (r := 4) rfl Try.underlying38 rfl Try.sizeOf31 rfl) (fun _ hA => hA) ?_
      refine HA_take (i := 12) (listed' := #[true, true, true, true, true, true, true, true, true, true, true, true, true, false, false, false, false, false, false, false]) (bodyPost_pan _ _ _) rfl rfl rfl rfl (by kernel_rfl) rfl (V_load1 (i := 5) (j := 4) rfl Try.isAgg31 rfl (.loc _ _ _) rfl rfl) (fun _ hA => hA) ?_
      refine HA_take (i := 13) (listed' := #[true, true, true, true, true, true, true, true, true, true, true, true, true, true, false, false, false, false, false, false]) (bodyPost_pan _ _ _) rfl rfl rfl rfl (by kernel_rfl) rfl (V_move rfl) (fun _ hA => hA) ?_
      refine HA_take (i := 16) (listed' := #[true, true, true, true, true, true, true, true, true, true, true, true, true, true, false, false, true, false, false, false]) (bodyPost_pan _ _ _) rfl rfl rfl rfl (by kernel_rfl) rfl (V_loadA (i := 0) (us := []) (cs := [_, _]) (ts := []) rfl Try.isAgg70 Try.sizeOf70 rfl (.loc _ _ _) rfl rfl rfl rfl) (fun _ hA => hA) ?_
      refine HA_loud1 (i := 14) (by kernel_rfl) rfl ?_
      refine HO_indexAddr open_Pair (i := 6) rfl rfl rfl rfl rfl Try.underlying31 Try.sizeOf70 rfl ?_ ?_
      ·(have := (List.getElem?_eq_some_iff.1 hsa).1; omega)
      intro b79 o79 z79 y79 hz79 hI79
      clear y79
      (try simp only [BIG] at hI79)
      refine HA_back (listed' := #[true, true, true, true, true, true, true, true, true, true, true, true, true, true, true, false, true, false, false, false]) rfl (fun _ hA => hA.keep (m := [nn, yy, yy, yy, yy, yy, yy, yy]) (Y := [_, _, _, _, _, _, _]) rfl) ?_
      refine HA_loud1 (i := 15) (by kernel_rfl) rfl ?_
      refine HO_loadA (i := 0) (us := []) (cs := [_, _]) (ts := []) rfl rfl rfl Try.isAgg70 Try.sizeOf70 rfl (.elem _ _ _) rfl rfl rfl rfl ?_
      refine HA_back (listed' := #[true, true, true, true, true, true, true, true, true, true, true, true, true, true, true, true, true, false, false, false]) rfl (fun _ hA => hA.keep (m := [nn, yy, yy, yy, yy, yy, yy, yy]) (Y := [_, _, _, _, _, _, _]) rfl) ?_
      refine HA_take (i := 17) (listed' := #[true, true, true, true, true, true, true, true, true, true, true, true, true, true, true, true, true, true, false, false]) (bodyPost_pan _ _ _) rfl rfl rfl rfl (by kernel_rfl) rfl (V_bin rfl rfl eq70_neq) (fun _ hA => hA.keep (m := [nn, yy, yy, yy, yy, yy, yy, yy]) (Y := [_, _, _, _, _, _, _]) rfl) ?_
      refine HA_take (i := 18) (listed' := #[true, true, true, true, true, true, true, true, true, true, true, true, true, true, true, true, true, true, true, false]) (bodyPost_pan _ _ _) rfl rfl rfl rfl (by kernel_rfl) rfl (V_pick_f rfl rfl) (fun _ hA => hA.keep (m := [nn, yy, yy, yy, yy, yy, yy, yy]) (Y := [_, _, _, _, _, _, _]) rfl) ?_
      refine HA_take (i := 19) (listed' := #[true, true, true, true, true, true, true, true, true, true, true, true, true, true, true, true, true, true, true, true]) (bodyPost_pan _ _ _) rfl rfl rfl rfl (by kernel_rfl) rfl (V_pick_t rfl rfl) (fun _ hA => hA.keep (m := [nn, yy, yy, yy, yy, yy, yy, yy]) (Y := [_, _, _, _, _, _, _]) rfl) ?_
      refine HA_done (by kernel_rfl) ?_
      refine H_env (ρ' := [(84, _), (0, _), (3, _), (5, _), (6, _), (7, _), (42, _), (43, _), (44, _)]) ⟨rfl, rfl, rfl, rfl, rfl, rfl, rfl, rfl, rfl, trivial⟩ ?_
      refine H_world (fun _ hA => hA.keep (m := [nn, nn, yy, yy, yy, yy, yy, yy]) (Y := [_, _, _, _, _, _]) rfl) ?_
      refine H_cond rfl ?_ ?_
      ·intro h84
       (try simp only [decide_eq_true_eq, decide_eq_false_iff_not, Bool.not_eq_true', Bool.not_eq_false', Bool.not_eq_true, Bool.not_eq_false, Bool.true_eq_false, Bool.false_eq_true, not_false_eq_true, not_true_eq_false] at h84)
       (rw [hsa] at hz79; cases hz79; simp at h84)
      intro h84
      (try simp only [decide_eq_true_eq, decide_eq_false_iff_not, Bool.not_eq_true', Bool.not_eq_false', Bool.not_eq_true, Bool.not_eq_false, Bool.true_eq_false, Bool.false_eq_true, not_false_eq_true, not_true_eq_false] at h84)
      refine H_skip ?_
      refine H_region (l := [_, _, _]) rfl ?_
      refine HO_move rfl rfl rfl ?_
      refine HO_bin rfl rfl rfl rfl (bin_add ?_ ?_) ?_
      ·omega
      ·omega
      refine HO_assign rfl rfl rfl ?_
      refine HO_nil ?_
      refine H_env (ρ' := [(7, _), (0, _), (3, _), (5, _), (6, _), (42, _), (43, _), (44, _)]) ⟨rfl, rfl, rfl, rfl, rfl, rfl, rfl, rfl, trivial⟩ ?_
      refine H_blk ?_
      have hcn := Mod.count_next (ke := ke) (ti := ti) hz46
      refine H_region (l := [_, _]) rfl ?_
      refine HO_bin rfl rfl rfl rfl (bin_add ?_ ?_) ?_
      ·omega
      ·omega
      refine HO_move rfl rfl rfl ?_
      refine HO_nil ?_
      refine H_env (ρ' := [(44, _), (7, _), (0, _), (3, _), (5, _), (6, _), (42, _), (43, _)]) ⟨rfl, rfl, rfl, rfl, rfl, rfl, rfl, rfl, trivial⟩ ?_
      refine H_inv (fun a w hf hA => ⟨⟨i + 1, n + 1⟩, ?_, ?_, hf.sub ?_, ?_⟩)
      ·exact ⟨by dsimp only; omega, by dsimp only; rw [hcn, ← hI.2, if_pos hin]⟩
      ·(try dsimp only); omega
      ·exact ⟨rfl, rfl, rfl, rfl, rfl, rfl, rfl, rfl, trivial⟩
      ·exact hA.only (is := [0, 1, 2, 3, 4, 5]) (Z := []) rfl
     intro h69
     replace h69 := dF h69
     refine HA_no (i := 5) (listed' := #[true, true, true, true, true, true, false, false, false, false, false, false, false, false, false, false, false, false, false, false]) (bodyPost_pan _ _ _) rfl rfl rfl rfl (by kernel_rfl) rfl (fun _ hA => hA) ?_
     refine HA_no (i := 6) (listed' := #[true, true, true, true, true, true, true, false, false, false, false, false, false, false, false, false, false, false, false, false]) (bodyPost_pan _ _ _) rfl rfl rfl rfl (by kernel_rfl) rfl (fun _ hA => hA) ?_
     refine HA_no (i := 7) (listed' := #[true, true, true, true, true, true, true, true, false, false, false, false, false, false, false, false, false, false, false, false]) (bodyPost_pan _ _ _) rfl rfl rfl rfl (by kernel_rfl) rfl (fun _ hA => hA) ?_
     refine HA_no (i := 8) (listed' := #[true, true, true, true, true, true, true, true, true, false, false, false, false, false, false, false, false, false, false, false]) (bodyPost_pan _ _ _) rfl rfl rfl rfl (by kernel_rfl) rfl (fun _ hA => hA) ?_
     refine HA_no (i := 9) (listed' := #[true, true, true, true, true, true, true, true, true, true, false, false, false, false, false, false, false, false, false, false]) (bodyPost_pan _ _ _) rfl rfl rfl rfl (by kernel_rfl) rfl (fun _ hA => hA) ?_
     refine HA_no (i := 10) (listed' := #[true, true, true, true, true, true, true, true, true, true, true, false, false, false, false, false, false, false, false, false]) (bodyPost_pan _ _ _) rfl rfl rfl rfl (by kernel_rfl) rfl (fun _ hA => hA) ?_
     refine HA_no (i := 11) (listed' := #[true, true, true, true, true, true, true, true, true, true, true, true, false, false, false, false, false, false, false, false]) (bodyPost_pan _ _ _) rfl rfl rfl rfl (by kernel_rfl) rfl (fun _ hA => hA) ?_
     refine HA_no (i := 12) (listed' := #[true, true, true, true, true, true, true, true, true, true, true, true, true, false, false, false, false, false, false, false]) (bodyPost_pan _ _ _) rfl rfl rfl rfl (by kernel_rfl) rfl (fun _ hA => hA) ?_
     refine HA_no (i := 13) (listed' := #[true, true, true, true, true, true, true, true, true, true, true, true, true, true, false, false, false, false, false, false]) (bodyPost_pan _ _ _) rfl rfl rfl rfl (by kernel_rfl) rfl (fun _ hA => hA) ?_
     refine HA_no (i := 14) (listed' := #[true, true, true, true, true, true, true, true, true, true, true, true, true, true, true, false, false, false, false, false]) (bodyPost_pan _ _ _) rfl rfl rfl rfl (by kernel_rfl) rfl (fun _ hA => hA) ?_
     refine HA_no (i := 15) (listed' := #[true, true, true, true, true, true, true, true, true, true, true, true, true, true, true, true, false, false, false, false]) (bodyPost_pan _ _ _) rfl rfl rfl rfl (by kernel_rfl) rfl (fun _ hA => hA) ?_
     refine HA_no (i := 16) (listed' := #[true, true, true, true, true, true, true, true, true, true, true, true, true, true, true, true, true, false, false, false]) (bodyPost_pan _ _ _) rfl rfl rfl rfl (by kernel_rfl) rfl (fun _ hA => hA) ?_
     refine HA_no (i := 17) (listed' := #[true, true, true, true, true, true, true, true, true, true, true, true, true, true, true, true, true, true, false, false]) (bodyPost_pan _ _ _) rfl rfl rfl rfl (by kernel_rfl) rfl (fun _ hA => hA) ?_
     refine HA_no (i := 18) (listed' := #[true, true, true, true, true, true, true, true, true, true, true, true, true, true, true, true, true, true, true, false]) (bodyPost_pan _ _ _) rfl rfl rfl rfl (by kernel_rfl) rfl (fun _ hA => hA) ?_
     refine HA_take (i := 19) (listed' := #[true, true, true, true, true, true, true, true, true, true, true, true, true, true, true, true, true, true, true, true]) (bodyPost_pan _ _ _) rfl rfl rfl rfl (by kernel_rfl) rfl (V_pick_f rfl rfl) (fun _ hA => hA) ?_
     refine HA_done (by kernel_rfl) ?_
     refine H_env (ρ' := [(84, _), (0, _), (3, _), (5, _), (6, _), (7, _), (42, _), (43, _), (44, _)]) ⟨rfl, rfl, rfl, rfl, rfl, rfl, rfl, rfl, rfl, trivial⟩ ?_
     refine H_world (fun _ hA => hA.keep (m := [nn, yy, yy, yy, yy, yy, yy]) (Y := [_, _, _, _, _, _]) rfl) ?_
     refine H_cond rfl (fun h => nomatch h) (fun _ => ?_)
     refine H_skip ?_
     refine H_region (l := [_, _, _]) rfl ?_
     refine HO_move rfl rfl rfl ?_
     refine HO_bin rfl rfl rfl rfl (bin_add ?_ ?_) ?_
     ·omega
     ·omega
     refine HO_assign rfl rfl rfl ?_
     refine HO_nil ?_
     refine H_env (ρ' := [(7, _), (0, _), (3, _), (5, _), (6, _), (42, _), (43, _), (44, _)]) ⟨rfl, rfl, rfl, rfl, rfl, rfl, rfl, rfl, trivial⟩ ?_
     refine H_blk ?_
     have hcn := Mod.count_next (ke := ke) (ti := ti) hz46
     refine H_region (l := [_, _]) rfl ?_
     refine HO_bin rfl rfl rfl rfl (bin_add ?_ ?_) ?_
     ·omega
     ·omega
     refine HO_move rfl rfl rfl ?_
     refine HO_nil ?_
     refine H_env (ρ' := [(44, _), (7, _), (0, _), (3, _), (5, _), (6, _), (42, _), (43, _)]) ⟨rfl, rfl, rfl, rfl, rfl, rfl, rfl, rfl, trivial⟩ ?_
     refine H_inv (fun a w hf hA => ⟨⟨i + 1, n + 1⟩, ?_, ?_, hf.sub ?_, ?_⟩)
     ·exact ⟨by dsimp only; omega, by dsimp only; rw [hcn, ← hI.2, if_pos hin]⟩
     ·(try dsimp only); omega
     ·exact ⟨rfl, rfl, rfl, rfl, rfl, rfl, rfl, rfl, trivial⟩
     ·exact hA.only (is := [0, 1, 2, 3, 4, 5]) (Z := []) rfl
    intro h64
    refine H_skip ?_
    refine H_blk ?_
    have hcn := Mod.count_next (ke := ke) (ti := ti) hz46
    have hin : ¬ ((Mod.inScan ke ti) z46 = true) := by simp only [Mod.inScan, soStr, Cmd.empty]; first | (simp [*]; done) | (simp_all; done)
    refine H_region (l := [_, _]) rfl ?_
    refine HO_bin rfl rfl rfl rfl (bin_add ?_ ?_) ?_
    ·omega
    ·omega
    refine HO_move rfl rfl rfl ?_
    refine HO_nil ?_
    refine H_env (ρ' := [(44, _), (0, _), (3, _), (5, _), (6, _), (7, _), (42, _), (43, _)]) ⟨rfl, rfl, rfl, rfl, rfl, rfl, rfl, rfl, trivial⟩ ?_
    refine H_world (fun _ hA => hA.keep (m := [nn, yy, yy, yy, yy, yy, yy]) (Y := [_, _, _, _, _, _]) rfl) ?_
    refine H_inv (fun a w hf hA => ⟨⟨i + 1, n⟩, ?_, ?_, hf.sub ?_, ?_⟩)
    ·exact ⟨by dsimp only; omega, by dsimp only; rw [hcn, ← hI.2, if_neg hin, Nat.add_zero]⟩
    ·(try dsimp only); omega
    ·exact ⟨rfl, rfl, rfl, rfl, rfl, rfl, rfl, rfl, trivial⟩
    ·exact hA.only (is := [0, 1, 2, 3, 4, 5]) (Z := []) rfl
   intro h53
   (try simp only [decide_eq_true_eq, decide_eq_false_iff_not, Bool.not_eq_true', Bool.not_eq_false', Bool.not_eq_true, Bool.not_eq_false, Bool.true_eq_false, Bool.false_eq_true, not_false_eq_true, not_true_eq_false] at h53)
   iterate 10 refine HO_no rfl rfl rfl ?_
   refine HO_pick_f rfl rfl rfl rfl ?_
   refine HO_nil ?_
   refine H_env (ρ' := [(64, _), (9, _), (0, _), (3, _), (5, _), (6, _), (7, _), (42, _), (43, _), (44, _)]) ⟨rfl, rfl, rfl, rfl, rfl, rfl, rfl, rfl, rfl, rfl, trivial⟩ ?_
   refine H_cond rfl (fun h => nomatch h) (fun _ => ?_)
   refine H_skip ?_
   refine H_blk ?_
   have hcn := Mod.count_next (ke := ke) (ti := ti) hz46
   have hin : ¬ ((Mod.inScan ke ti) z46 = true) := by simp only [Mod.inScan, soStr, Cmd.empty]; first | (simp [*]; done) | (simp_all; done)
   refine H_region (l := [_, _]) rfl ?_
   refine HO_bin rfl rfl rfl rfl (bin_add ?_ ?_) ?_
   ·omega
   ·omega
   refine HO_move rfl rfl rfl ?_
   refine HO_nil ?_
   refine H_env (ρ' := [(44, _), (0, _), (3, _), (5, _), (6, _), (7, _), (42, _), (43, _)]) ⟨rfl, rfl, rfl, rfl, rfl, rfl, rfl, rfl, trivial⟩ ?_
   refine H_world (fun _ hA => hA.keep (m := [nn, yy, yy, yy, yy, yy, yy]) (Y := [_, _, _, _, _, _]) rfl) ?_
   refine H_inv (fun a w hf hA => ⟨⟨i + 1, n⟩, ?_, ?_, hf.sub ?_, ?_⟩)
   ·exact ⟨by dsimp only; omega, by dsimp only; rw [hcn, ← hI.2, if_neg hin, Nat.add_zero]⟩
   ·(try dsimp only); omega
   ·exact ⟨rfl, rfl, rfl, rfl, rfl, rfl, rfl, rfl, trivial⟩
   ·exact hA.only (is := [0, 1, 2, 3, 4, 5]) (Z := []) rfl
  intro h45
  replace h45 := dF h45
  refine H_exit rfl ?_
  refine H_seq ?_
  refine H_seq ?_
  obtain rfl : i = (Mod.fold es).1.length := by omega
  have hn := hI.2
  rw [List.take_length] at hn
  have hcount := Mod.scan_count (ke := ke) (ti := ti) (li := li) (Mod.Inv.fold (l := es)).ps
  rw [← hn] at hcount
  refine H_region (l := [_, _, _, _]) rfl ?_
  refine HO_move rfl rfl rfl ?_
  refine HO_fieldAddr (r := 7) rfl rfl rfl Try.underlying36 rfl Try.sizeOf3 rfl ?_
  refine HO_load1 (i := 1) (j := 7) rfl rfl rfl Try.isAgg3 rfl (.loc _ _ _) rfl rfl ?_
  refine HO_bin rfl rfl rfl rfl bin_gtr ?_
  refine HO_nil ?_
  refine H_env (ρ' := [(91, _), (0, _), (3, _), (5, _), (6, _), (7, _)]) ⟨rfl, rfl, rfl, rfl, rfl, rfl, trivial⟩ ?_
  refine H_cond rfl ?_ ?_
  ·intro h91
   replace h91 := dT h91
   refine H_region (l := [_, _, _]) rfl ?_
   refine HO_fieldAddr (r := 7) rfl rfl rfl Try.underlying36 rfl Try.sizeOf3 rfl ?_
   refine HO_load1 (i := 1) (j := 7) rfl rfl rfl Try.isAgg3 rfl (.loc _ _ _) rfl rfl ?_
   refine HO_assign rfl rfl rfl ?_
   refine HO_nil ?_
   refine H_env (ρ' := [(7, _), (0, _), (5, _), (6, _)]) ⟨rfl, rfl, rfl, rfl, trivial⟩ ?_
   refine H_world (fun _ hA => hA.keep (m := [yy, nn, yy, yy, yy, yy]) (Y := [_, _, _, _, _]) rfl) ?_
   refine H_seq ?_
   refine H_drawB (m := [yy, yy, yy, yy, yy]) (Xs := [_, _, _, _, _]) (fuel := 17) (l := #[false, false, false, false, false, false, false, false, false, false, false, false, false, false, false, false, false]) mixed rfl rfl rfl ?_
   refine HA_take (i := 0) (listed' := #[true, false, false, false, false, false, false, false, false, false, false, false, false, false, false, false, false]) (bodyPost_pan _ _ _) rfl rfl rfl rfl (by kernel_rfl) rfl (V_fieldAddr (r := 4) rfl Try.underlying38 rfl Try.sizeOf31 rfl) (fun _ hA => hA) ?_
   refine HA_take (i := 1) (listed' := #[true, true, false, false, false, false, false, false, false, false, false, false, false, false, false, false, false]) (bodyPost_pan _ _ _) rfl rfl rfl rfl (by kernel_rfl) rfl (V_load1 (i := 3) (j := 4) rfl Try.isAgg31 rfl (.loc _ _ _) rfl rfl) (fun _ hA => hA) ?_
   refine HA_take (i := 2) (listed' := #[true, true, true, false, false, false, false, false, false, false, false, false, false, false, false, false, false]) (bodyPost_pan _ _ _) rfl rfl rfl rfl (by kernel_rfl) rfl (V_bi rfl (bi_len_sl Try.underlying31)) (fun _ hA => hA) ?_
   refine HA_take (i := 3) (listed' := #[true, true, true, true, false, false, false, false, false, false, false, false, false, false, false, false, false]) (bodyPost_pan _ _ _) rfl rfl rfl rfl (by kernel_rfl) rfl (V_move rfl) (fun _ hA => hA) ?_
   refine HA_take (i := 4) (listed' := #[true, true, true, true, true, false, false, false, false, false, false, false, false, false, false, false, false]) (bodyPost_pan _ _ _) rfl rfl rfl rfl (by kernel_rfl) rfl (V_bin rfl rfl bin_eql) (fun _ hA => hA) ?_
   refine HA_take (i := 5) (listed' := #[true, true, true, true, true, true, false, false, false, false, false, false, false, false, false, false, false]) (bodyPost_pan _ _ _) rfl rfl rfl rfl (by kernel_rfl) rfl (V_move rfl) (fun _ hA => hA) ?_
   refine HA_split (d := 99) rfl ?_ ?_
   ·intro h99
    replace h99 := dT h99
    refine HA_take (i := 6) (listed' := #[true, true, true, true, true, true, true, false, false, false, false, false, false, false, false, false, false]) (bodyPost_pan _ _ _) rfl rfl rfl rfl (by kernel_rfl) rfl (V_fieldAddr (r := 0) rfl Try.underlying56 rfl Try.sizeOf31 rfl) (fun _ hA => hA) ?_
    refine HA_take (i := 7) (listed' := #[true, true, true, true, true, true, true, true, false, false, false, false, false, false, false, false, false]) (bodyPost_pan _ _ _) rfl rfl rfl rfl (by kernel_rfl) rfl (V_load1 (i := 1) (j := 0) rfl Try.isAgg31 rfl (.loc _ _ _) rfl rfl) (fun _ hA => hA) ?_
    refine HA_take (i := 8) (listed' := #[true, true, true, true, true, true, true, true, true, false, false, false, false, false, false, false, false]) (bodyPost_pan _ _ _) rfl rfl rfl rfl (by kernel_rfl) rfl (V_move rfl) (fun _ hA => hA) ?_
    refine HA_loud1 (i := 9) (by kernel_rfl) rfl ?_
    refine HO_dup (i := 0) rfl rfl ?_
    refine HO_call (first := []) (capt := []) (is := [0]) (R := [_, _, _, _, _]) rfl rfl rfl rfl rfl Try.call25 rfl (fold_spec _ _ _) ?_
    intro y103 hy103
    refine HA_back (listed' := #[true, true, true, true, true, true, true, true, true, true, false, false, false, false, false, false, false]) rfl (fun _ hA => hA.keep (m := [nn, nn, yy, yy, yy, yy, yy]) (Y := [_, _, _, _, _]) rfl) ?_
    refine HA_take (i := 10) (listed' := #[true, true, true, true, true, true, true, true, true, true, true, false, false, false, false, false, false]) (bodyPost_pan _ _ _) rfl rfl rfl rfl (by kernel_rfl) rfl (V_field (xs := [_, _]) rfl Try.underlying56 rfl Try.isAgg31 rfl) (fun _ hA => hA.keep (m := [nn, nn, yy, yy, yy, yy, yy]) (Y := [_, _, _, _, _]) rfl) ?_
    refine HA_loud1 (i := 11) (by kernel_rfl) rfl ?_
    refine HO_dup (i := 4) rfl rfl ?_
    refine HO_dup (i := 1) rfl rfl ?_
    refine HO_call (first := []) (capt := []) (is := [0, 0]) (R := [_, _, _, _, _, _, _]) rfl rfl rfl rfl rfl Try.call32 rfl (reqpairs_spec _ _ _ _ _ _) ?_
    intro y105 hy105
    clear y105 hy105
    refine HA_back (listed' := #[true, true, true, true, true, true, true, true, true, true, true, true, false, false, false, false, false]) rfl (fun _ hA => hA.keep (m := [nn, nn, yy, yy, yy, yy, yy]) (Y := [_, _, _, _, _]) rfl) ?_
    refine HA_take (i := 12) (listed' := #[true, true, true, true, true, true, true, true, true, true, true, true, true, false, false, false, false]) (bodyPost_pan _ _ _) rfl rfl rfl rfl (by kernel_rfl) rfl (V_pick_t rfl rfl) (fun _ hA => hA.keep (m := [nn, nn, yy, yy, yy, yy, yy]) (Y := [_, _, _, _, _]) rfl) ?_
    refine HA_take (i := 13) (listed' := #[true, true, true, true, true, true, true, true, true, true, true, true, true, true, false, false, false]) (bodyPost_pan _ _ _) rfl rfl rfl rfl (by kernel_rfl) rfl (V_move rfl) (fun _ hA => hA.keep (m := [nn, nn, yy, yy, yy, yy, yy]) (Y := [_, _, _, _, _]) rfl) ?_
    refine HA_split (d := 107) rfl ?_ ?_
    ·intro h107
     replace h107 := dT h107
     refine HA_loud1 (i := 14) (by kernel_rfl) rfl ?_
     refine HO_call (first := []) (capt := []) (is := []) (R := [_, _, _, _, _, _, _]) rfl rfl rfl rfl rfl Try.call24 rfl lives20_spec ?_
     intro y108 hy108
     clear y108 hy108
     refine HA_back (listed' := #[true, true, true, true, true, true, true, true, true, true, true, true, true, true, true, false, false]) rfl (fun _ hA => hA.keep (m := [nn, nn, yy, yy, yy, yy, yy]) (Y := [_, _, _, _, _]) rfl) ?_
     refine HA_take (i := 15) (listed' := #[true, true, true, true, true, true, true, true, true, true, true, true, true, true, true, true, false]) (bodyPost_pan _ _ _) rfl rfl rfl rfl (by kernel_rfl) rfl (V_pick_t rfl rfl) (fun _ hA => hA.keep (m := [nn, nn, yy, yy, yy, yy, yy]) (Y := [_, _, _, _, _]) rfl) ?_
     refine HA_take (i := 16) (listed' := #[true, true, true, true, true, true, true, true, true, true, true, true, true, true, true, true, true]) (bodyPost_pan _ _ _) rfl rfl rfl rfl (by kernel_rfl) rfl (V_assign rfl) (fun _ hA => hA.keep (m := [nn, nn, yy, yy, yy, yy, yy]) (Y := [_, _, _, _, _]) rfl) ?_
     refine HA_done (by kernel_rfl) ?_
     refine H_env (ρ' := [(4, _)]) ⟨rfl, trivial⟩ ?_
     refine H_world (fun _ hA => hA.keep (m := [nn, nn, nn, nn, nn, nn, nn]) (Y := []) rfl) ?_
     refine H_ret1 Try.results7 (.tmp rfl) (fun w hA => ⟨(), congrArg Ending.returned ?_, ?_, ?_⟩)
     ·(exact congrArg Value.bool (by first | rfl | assumption | simp_all))
     ·trivial
     ·exact hA.keep (m := []) (Y := []) rfl
    intro h107
    replace h107 := dF h107
    (simp at h107)
   intro h99
   replace h99 := dF h99
   (exfalso; rw [hq.1] at h99; dsimp only at h99; omega)
  intro h91
  replace h91 := dF h91
  refine H_skip ?_
  refine H_seq ?_
  refine H_drawB (m := [yy, yy, yy, yy, yy, yy]) (Xs := [_, _, _, _, _, _]) (fuel := 17) (l := #[false, false, false, false, false, false, false, false, false, false, false, false, false, false, false, false, false]) mixed rfl rfl rfl ?_
  refine HA_take (i := 0) (listed' := #[true, false, false, false, false, false, false, false, false, false, false, false, false, false, false, false, false]) (bodyPost_pan _ _ _) rfl rfl rfl rfl (by kernel_rfl) rfl (V_fieldAddr (r := 4) rfl Try.underlying38 rfl Try.sizeOf31 rfl) (fun _ hA => hA) ?_
  refine HA_take (i := 1) (listed' := #[true, true, false, false, false, false, false, false, false, false, false, false, false, false, false, false, false]) (bodyPost_pan _ _ _) rfl rfl rfl rfl (by kernel_rfl) rfl (V_load1 (i := 4) (j := 4) rfl Try.isAgg31 rfl (.loc _ _ _) rfl rfl) (fun _ hA => hA) ?_
  refine HA_take (i := 2) (listed' := #[true, true, true, false, false, false, false, false, false, false, false, false, false, false, false, false, false]) (bodyPost_pan _ _ _) rfl rfl rfl rfl (by kernel_rfl) rfl (V_bi rfl (bi_len_sl Try.underlying31)) (fun _ hA => hA) ?_
  refine HA_take (i := 3) (listed' := #[true, true, true, true, false, false, false, false, false, false, false, false, false, false, false, false, false]) (bodyPost_pan _ _ _) rfl rfl rfl rfl (by kernel_rfl) rfl (V_move rfl) (fun _ hA => hA) ?_
  refine HA_take (i := 4) (listed' := #[true, true, true, true, true, false, false, false, false, false, false, false, false, false, false, false, false]) (bodyPost_pan _ _ _) rfl rfl rfl rfl (by kernel_rfl) rfl (V_bin rfl rfl bin_eql) (fun _ hA => hA) ?_
  refine HA_take (i := 5) (listed' := #[true, true, true, true, true, true, false, false, false, false, false, false, false, false, false, false, false]) (bodyPost_pan _ _ _) rfl rfl rfl rfl (by kernel_rfl) rfl (V_move rfl) (fun _ hA => hA) ?_
  refine HA_split (d := 99) rfl ?_ ?_
  ·intro h99
   replace h99 := dT h99
   refine HA_take (i := 6) (listed' := #[true, true, true, true, true, true, true, false, false, false, false, false, false, false, false, false, false]) (bodyPost_pan _ _ _) rfl rfl rfl rfl (by kernel_rfl) rfl (V_fieldAddr (r := 0) rfl Try.underlying56 rfl Try.sizeOf31 rfl) (fun _ hA => hA) ?_
   refine HA_take (i := 7) (listed' := #[true, true, true, true, true, true, true, true, false, false, false, false, false, false, false, false, false]) (bodyPost_pan _ _ _) rfl rfl rfl rfl (by kernel_rfl) rfl (V_load1 (i := 2) (j := 0) rfl Try.isAgg31 rfl (.loc _ _ _) rfl rfl) (fun _ hA => hA) ?_
   refine HA_take (i := 8) (listed' := #[true, true, true, true, true, true, true, true, true, false, false, false, false, false, false, false, false]) (bodyPost_pan _ _ _) rfl rfl rfl rfl (by kernel_rfl) rfl (V_move rfl) (fun _ hA => hA) ?_
   refine HA_loud1 (i := 9) (by kernel_rfl) rfl ?_
   refine HO_dup (i := 0) rfl rfl ?_
   refine HO_call (first := []) (capt := []) (is := [0]) (R := [_, _, _, _, _, _]) rfl rfl rfl rfl rfl Try.call25 rfl (fold_spec _ _ _) ?_
   intro y103 hy103
   refine HA_back (listed' := #[true, true, true, true, true, true, true, true, true, true, false, false, false, false, false, false, false]) rfl (fun _ hA => hA.keep (m := [nn, nn, yy, yy, yy, yy, yy, yy]) (Y := [_, _, _, _, _, _]) rfl) ?_
   refine HA_take (i := 10) (listed' := #[true, true, true, true, true, true, true, true, true, true, true, false, false, false, false, false, false]) (bodyPost_pan _ _ _) rfl rfl rfl rfl (by kernel_rfl) rfl (V_field (xs := [_, _]) rfl Try.underlying56 rfl Try.isAgg31 rfl) (fun _ hA => hA.keep (m := [nn, nn, yy, yy, yy, yy, yy, yy]) (Y := [_, _, _, _, _, _]) rfl) ?_
   refine HA_loud1 (i := 11) (by kernel_rfl) rfl ?_
   refine HO_dup (i := 5) rfl rfl ?_
   refine HO_dup (i := 1) rfl rfl ?_
   refine HO_call (first := []) (capt := []) (is := [0, 0]) (R := [_, _, _, _, _, _, _, _]) rfl rfl rfl rfl rfl Try.call32 rfl (reqpairs_spec _ _ _ _ _ _) ?_
   intro y105 hy105
   clear y105 hy105
   refine HA_back (listed' := #[true, true, true, true, true, true, true, true, true, true, true, true, false, false, false, false, false]) rfl (fun _ hA => hA.keep (m := [nn, nn, yy, yy, yy, yy, yy, yy]) (Y := [_, _, _, _, _, _]) rfl) ?_
   refine HA_take (i := 12) (listed' := #[true, true, true, true, true, true, true, true, true, true, true, true, true, false, false, false, false]) (bodyPost_pan _ _ _) rfl rfl rfl rfl (by kernel_rfl) rfl (V_pick_t rfl rfl) (fun _ hA => hA.keep (m := [nn, nn, yy, yy, yy, yy, yy, yy]) (Y := [_, _, _, _, _, _]) rfl) ?_
   refine HA_take (i := 13) (listed' := #[true, true, true, true, true, true, true, true, true, true, true, true, true, true, false, false, false]) (bodyPost_pan _ _ _) rfl rfl rfl rfl (by kernel_rfl) rfl (V_move rfl) (fun _ hA => hA.keep (m := [nn, nn, yy, yy, yy, yy, yy, yy]) (Y := [_, _, _, _, _, _]) rfl) ?_
   refine HA_split (d := 107) rfl ?_ ?_
   ·intro h107
    replace h107 := dT h107
    refine HA_loud1 (i := 14) (by kernel_rfl) rfl ?_
    refine HO_call (first := []) (capt := []) (is := []) (R := [_, _, _, _, _, _, _, _]) rfl rfl rfl rfl rfl Try.call24 rfl lives20_spec ?_
    intro y108 hy108
    clear y108 hy108
    refine HA_back (listed' := #[true, true, true, true, true, true, true, true, true, true, true, true, true, true, true, false, false]) rfl (fun _ hA => hA.keep (m := [nn, nn, yy, yy, yy, yy, yy, yy]) (Y := [_, _, _, _, _, _]) rfl) ?_
    refine HA_take (i := 15) (listed' := #[true, true, true, true, true, true, true, true, true, true, true, true, true, true, true, true, false]) (bodyPost_pan _ _ _) rfl rfl rfl rfl (by kernel_rfl) rfl (V_pick_t rfl rfl) (fun _ hA => hA.keep (m := [nn, nn, yy, yy, yy, yy, yy, yy]) (Y := [_, _, _, _, _, _]) rfl) ?_
    refine HA_take (i := 16) (listed' := #[true, true, true, true, true, true, true, true, true, true, true, true, true, true, true, true, true]) (bodyPost_pan _ _ _) rfl rfl rfl rfl (by kernel_rfl) rfl (V_assign rfl) (fun _ hA => hA.keep (m := [nn, nn, yy, yy, yy, yy, yy, yy]) (Y := [_, _, _, _, _, _]) rfl) ?_
    refine HA_done (by kernel_rfl) ?_
    refine H_env (ρ' := [(4, _)]) ⟨rfl, trivial⟩ ?_
    refine H_world (fun _ hA => hA.keep (m := [nn, nn, nn, nn, nn, nn, nn, nn]) (Y := []) rfl) ?_
    refine H_ret1 Try.results7 (.tmp rfl) (fun w hA => ⟨(), congrArg Ending.returned ?_, ?_, ?_⟩)
    ·(exact congrArg Value.bool (by first | rfl | assumption | simp_all))
    ·trivial
    ·exact hA.keep (m := []) (Y := []) rfl
   intro h107
   replace h107 := dF h107
   (simp at h107)
  intro h99
  replace h99 := dF h99
  (exfalso; rw [hq.1] at h99; dsimp only at h99; omega)
end Go.Wk
