/- Contracts of the program's functions, each proved by walking its code. -/
import Derived.Test.YtondhngfjngngaaGreatKezref01
import Derived.Test.YtondhngfjngngaaGreatCod5
import Derived.Test.YtondhngfjngngaaGreatWk14
set_option maxRecDepth 100000
set_option linter.unusedVariables false
set_option linter.unusedSimpArgs false
namespace Go.Wk.Frdr
open Go Go.RowKit Go.Proofs Go.Wk

end Go.Wk.Frdr
namespace Go.Wk
open Go Go.RowKit Go.Proofs Frdr 
theorem read_uint64_spec (T : TypeId) (g : Nat) (b : List UInt8) (w : Bool) (a : Option Addr) (c : Nat)  : Spec Tryz.prog 88 #[.pointer (some ⟨g, 0, none⟩), .func (.func 89) #[] #[]] [.loc g [.slice a (b.length) c, .bool (w)] T, .dat kByte.sl (b) [.slice a (b.length) c]] (β := Option Addr × Nat) (fun y => .int .u64 (((Cod.rd 0 (Cod.dec b) b w).1 : Int))) (fun y => True) (fun y => [.loc g [.slice y.1 (((Cod.rd 0 (Cod.dec b) b w).2.1).length) y.2, .bool ((Cod.rd 0 (Cod.dec b) b w).2.2)] T, .dat kByte.sl ((Cod.rd 0 (Cod.dec b) b w).2.1) [.slice y.1 (((Cod.rd 0 (Cod.dec b) b w).2.1).length) y.2]]) := by
 have hlen := Cod.dec_len b
 refine Spec.enter (vs := [_, _]) Tryz.func88 rfl Tryz.ntmps88 rfl (Nat.le_of_ble_eq_true rfl) (fun w0 ok0 => ?_)
 generalize hM0 : blks _ = M0
 refine H_seq ?_
 refine H_region (l := [_]) rfl ?_
 refine HO_assign rfl rfl rfl ?_
 refine HO_nil ?_
 refine H_env (ρ' := [(0, _), (1, _)]) ⟨rfl, rfl, trivial⟩ ?_
 refine H_seq ?_
 refine H_region (l := [_]) rfl ?_
 refine HO_assign rfl rfl rfl ?_
 refine HO_nil ?_
 refine H_seq ?_
 refine H_seq ?_
 refine H_region (l := [_, _]) rfl ?_
 refine HO_move rfl rfl rfl ?_
 refine HO_bin (r := .bool false) rfl rfl rfl rfl (bin_ptr_eq_pn Tryz.runUnderlying84) ?_
 refine HO_nil ?_
 refine H_env (ρ' := [(9, _), (5, _), (0, _), (1, _)]) ⟨rfl, rfl, rfl, rfl, trivial⟩ ?_
 refine H_cond rfl (fun h => nomatch h) (fun _ => ?_)
 refine H_skip ?_
 refine H_seq ?_
 refine H_region (l := [_, _, _, _, _, _, _, _, _, _, _]) rfl ?_
 iterate 2 refine HO_move rfl rfl rfl ?_
 refine HO_nilCheck rfl rfl rfl ?_
 refine HO_fieldAddr (r := 0) rfl rfl rfl Tryz.underlying56 rfl Tryz.sizeOf26 rfl ?_
 refine HO_load1 (i := 0) (j := 0) rfl rfl rfl Tryz.isAgg26 rfl (.loc _ _ _) rfl rfl ?_
 refine HO_dup (i := 1) rfl rfl ?_
 refine HO_call (first := []) (capt := []) (is := [0]) (R := [_, _]) rfl rfl rfl rfl rfl Tryz.call89 rfl (Get_spec _ _ _) ?_
 intro y17 hy17
 clear y17 hy17
 refine HO_move rfl rfl rfl ?_
 refine HO_extract (vs := [_, _]) rfl rfl rfl rfl ?_
 refine HO_extract (vs := [_, _]) rfl rfl rfl rfl ?_
 iterate 2 refine HO_assign rfl rfl rfl ?_
 refine HO_nil ?_
 refine H_env (ρ' := [(7, _), (6, _), (5, _), (0, _)]) ⟨rfl, rfl, rfl, rfl, trivial⟩ ?_
 refine H_seq ?_
 refine H_seq ?_
 refine H_region (l := [_, _, _, _, _, _, _, _, _, _, _, _]) rfl ?_
 iterate 2 refine HO_move rfl rfl rfl ?_
 refine HO_nilCheck rfl rfl rfl ?_
 refine HO_fieldAddr (r := 1) rfl rfl rfl Tryz.underlying56 rfl Tryz.sizeOf4 rfl ?_
 refine HO_load1 (i := 0) (j := 1) rfl rfl rfl Tryz.isAgg4 rfl (.loc _ _ _) rfl rfl ?_
 refine HO_move rfl rfl rfl ?_
 refine HO_split (d := 25) rfl ?_ ?_
 ·intro h25
  iterate 2 refine HO_no rfl rfl rfl ?_
  refine HO_pick_t rfl rfl rfl rfl ?_
  refine HO_nilCheck rfl rfl rfl ?_
  refine HO_fieldAddr (r := 1) rfl rfl rfl Tryz.underlying56 rfl Tryz.sizeOf4 rfl ?_
  refine HO_store (i := 0) (j := 0) (us := [_]) (old := [_]) (ts := []) (cs := [_]) (R := [_]) (new := [_, _]) rfl rfl rfl Tryz.sizeOf4 rfl (by simp [Value.oneCell']) rfl rfl rfl rfl rfl rfl ?_
  refine HO_nil ?_
  refine H_env (ρ' := [(7, _), (6, _), (5, _), (0, _)]) ⟨rfl, rfl, rfl, rfl, trivial⟩ ?_
  refine H_seq ?_
  refine H_region (l := [_, _, _, _]) rfl ?_
  refine HO_move rfl rfl rfl ?_
  refine HO_nilCheck rfl rfl rfl ?_
  refine HO_fieldAddr (r := 1) rfl rfl rfl Tryz.underlying56 rfl Tryz.sizeOf4 rfl ?_
  refine HO_load1 (i := 0) (j := 1) rfl rfl rfl Tryz.isAgg4 rfl (.loc _ _ _) rfl rfl ?_
  refine HO_nil ?_
  refine H_env (ρ' := [(34, _), (7, _), (6, _), (5, _), (0, _)]) ⟨rfl, rfl, rfl, rfl, rfl, trivial⟩ ?_
  refine H_cond rfl (fun _ => ?_) (fun h => nomatch h)
  refine H_seq ?_
  refine H_region (l := [_, _, _, _]) rfl ?_
  refine HO_move rfl rfl rfl ?_
  refine HO_nilCheck rfl rfl rfl ?_
  refine HO_fieldAddr (r := 0) rfl rfl rfl Tryz.underlying56 rfl Tryz.sizeOf26 rfl ?_
  refine HO_store (i := 0) (j := 0) (us := []) (old := [_]) (ts := [_]) (cs := [_]) (R := [_]) (new := [_, _]) rfl rfl rfl Tryz.sizeOf26 rfl (by simp [Value.oneCell']) rfl rfl rfl rfl rfl rfl ?_
  refine HO_nil ?_
  refine H_env (ρ' := [(5, _)]) ⟨rfl, trivial⟩ ?_
  refine H_world (fun _ hA => hA.keep (m := [yy, nn]) (Y := [_]) rfl) ?_
  refine H_seq ?_
  refine H_region (l := [_, _]) rfl ?_
  refine HO_move rfl rfl rfl ?_
  refine HO_assign rfl rfl rfl ?_
  refine HO_nil ?_
  refine H_env (ρ' := [(4, _)]) ⟨rfl, trivial⟩ ?_
  have hrd : (Cod.rd 0 (Cod.dec b) b w) = (0, [], true) := Cod.rd_bad (.inl h25)
  refine H_nilDat kByte ?_
  refine H_ret1 Tryz.results88 (.tmp rfl) (fun w hA => ⟨(none, 0), congrArg Ending.returned ?_, ?_, ?_⟩)
  ·(rw [hrd] <;> rfl)
  ·trivial
  ·(rw [hrd]; exact hA.only (is := [0, 0]) (Z := []) rfl)
 intro h25
 refine HO_move rfl rfl rfl ?_
 refine HO_bin rfl rfl rfl rfl bin_eql ?_
 refine HO_pick_f rfl rfl rfl rfl ?_
 refine HO_nilCheck rfl rfl rfl ?_
 refine HO_fieldAddr (r := 1) rfl rfl rfl Tryz.underlying56 rfl Tryz.sizeOf4 rfl ?_
 refine HO_store (i := 0) (j := 0) (us := [_]) (old := [_]) (ts := []) (cs := [_]) (R := [_]) (new := [_, _]) rfl rfl rfl Tryz.sizeOf4 rfl (by simp [Value.oneCell']) rfl rfl rfl rfl rfl rfl ?_
 refine HO_nil ?_
 refine H_env (ρ' := [(7, _), (6, _), (5, _), (0, _)]) ⟨rfl, rfl, rfl, rfl, trivial⟩ ?_
 refine H_seq ?_
 refine H_region (l := [_, _, _, _]) rfl ?_
 refine HO_move rfl rfl rfl ?_
 refine HO_nilCheck rfl rfl rfl ?_
 refine HO_fieldAddr (r := 1) rfl rfl rfl Tryz.underlying56 rfl Tryz.sizeOf4 rfl ?_
 refine HO_load1 (i := 0) (j := 1) rfl rfl rfl Tryz.isAgg4 rfl (.loc _ _ _) rfl rfl ?_
 refine HO_nil ?_
 refine H_env (ρ' := [(34, _), (7, _), (6, _), (5, _), (0, _)]) ⟨rfl, rfl, rfl, rfl, rfl, trivial⟩ ?_
 refine H_cond rfl ?_ ?_
 ·intro h34
  replace h34 := dT h34
  rw [decide_eq_true h34]
  refine H_seq ?_
  refine H_region (l := [_, _, _, _]) rfl ?_
  refine HO_move rfl rfl rfl ?_
  refine HO_nilCheck rfl rfl rfl ?_
  refine HO_fieldAddr (r := 0) rfl rfl rfl Tryz.underlying56 rfl Tryz.sizeOf26 rfl ?_
  refine HO_store (i := 0) (j := 0) (us := []) (old := [_]) (ts := [_]) (cs := [_]) (R := [_]) (new := [_, _]) rfl rfl rfl Tryz.sizeOf26 rfl (by simp [Value.oneCell']) rfl rfl rfl rfl rfl rfl ?_
  refine HO_nil ?_
  refine H_env (ρ' := [(5, _)]) ⟨rfl, trivial⟩ ?_
  refine H_world (fun _ hA => hA.keep (m := [yy, nn]) (Y := [_]) rfl) ?_
  refine H_seq ?_
  refine H_region (l := [_, _]) rfl ?_
  refine HO_move rfl rfl rfl ?_
  refine HO_assign rfl rfl rfl ?_
  refine HO_nil ?_
  refine H_env (ρ' := [(4, _)]) ⟨rfl, trivial⟩ ?_
  have hrd : (Cod.rd 0 (Cod.dec b) b w) = (0, [], true) := Cod.rd_bad (.inr (by omega))
  refine H_nilDat kByte ?_
  refine H_ret1 Tryz.results88 (.tmp rfl) (fun w hA => ⟨(none, 0), congrArg Ending.returned ?_, ?_, ?_⟩)
  ·(rw [hrd] <;> rfl)
  ·trivial
  ·(rw [hrd]; exact hA.only (is := [0, 0]) (Z := []) rfl)
 intro h34
 replace h34 := dF h34
 rw [decide_eq_false h34]
 refine H_skip ?_
 refine H_seq ?_
 refine H_region (l := [_, _, _, _, _, _, _, _, _, _]) rfl ?_
 iterate 2 refine HO_move rfl rfl rfl ?_
 refine HO_nilCheck rfl rfl rfl ?_
 refine HO_fieldAddr (r := 0) rfl rfl rfl Tryz.underlying56 rfl Tryz.sizeOf26 rfl ?_
 refine HO_load1 (i := 0) (j := 0) rfl rfl rfl Tryz.isAgg26 rfl (.loc _ _ _) rfl rfl ?_
 refine HO_move rfl rfl rfl ?_
 refine HO_slice_l (i := 1) (l := (Cod.dec b).2) rfl rfl rfl rfl ?_ Tryz.underlying26 Tryz.sizeOf5 rfl ?_ ?_
 ·omega
 ·omega
 intro a45 c45
 refine HO_nilCheck rfl rfl rfl ?_
 refine HO_fieldAddr (r := 0) rfl rfl rfl Tryz.underlying56 rfl Tryz.sizeOf26 rfl ?_
 refine HO_store (i := 1) (j := 0) (us := []) (old := [_]) (ts := [_]) (cs := [_]) (R := [_, _]) (new := [_, _]) rfl rfl rfl Tryz.sizeOf26 rfl (by simp [Value.oneCell']) rfl rfl rfl rfl rfl rfl ?_
 refine HO_nil ?_
 refine H_env (ρ' := [(6, _)]) ⟨rfl, trivial⟩ ?_
 refine H_world (fun _ hA => hA.keep (m := [yy, yy, nn]) (Y := [_, _]) rfl) ?_
 refine H_seq ?_
 refine H_region (l := [_, _]) rfl ?_
 refine HO_move rfl rfl rfl ?_
 refine HO_assign rfl rfl rfl ?_
 refine HO_nil ?_
 refine H_env (ρ' := [(4, _)]) ⟨rfl, trivial⟩ ?_
 have hrd : (Cod.rd 0 (Cod.dec b) b w) = ((Cod.dec b).1, b.drop (Cod.dec b).2, false) := Cod.rd_good h25 (by omega)
 refine H_ret1 Tryz.results88 (.tmp rfl) (fun w hA => ⟨(a45, c45), congrArg Ending.returned ?_, ?_, ?_⟩)
 ·(rw [hrd] <;> rfl)
 ·trivial
 ·(rw [hrd]; exact hA.keep (m := [yy, yy]) (Y := [_, _]) rfl)
theorem read_string_spec (T : TypeId) (g : Nat) (b : List UInt8) (w : Bool) (a : Option Addr) (c : Nat) (hb : b.length ≤ 1099511627776) : Spec Tryz.prog 90 #[.pointer (some ⟨g, 0, none⟩), .func (.func 91) #[] #[]] [.loc g [.slice a (b.length) c, .bool (w)] T, .dat kByte.sl (b) [.slice a (b.length) c]] (β := Option Addr × Nat) (fun y => .string (⟨(Cod.rd [] (Cod.decT b) b w).1.toArray⟩)) (fun y => True) (fun y => [.loc g [.slice y.1 (((Cod.rd [] (Cod.decT b) b w).2.1).length) y.2, .bool ((Cod.rd [] (Cod.decT b) b w).2.2)] T, .dat kByte.sl ((Cod.rd [] (Cod.decT b) b w).2.1) [.slice y.1 (((Cod.rd [] (Cod.decT b) b w).2.1).length) y.2]]) := by
 have hlen := Cod.decT_len b
 refine Spec.enter (vs := [_, _]) Tryz.func90 rfl Tryz.ntmps90 rfl (Nat.le_of_ble_eq_true rfl) (fun w0 ok0 => ?_)
 generalize hM0 : blks _ = M0
 refine H_seq ?_
 refine H_region (l := [_]) rfl ?_
 refine HO_assign rfl rfl rfl ?_
 refine HO_nil ?_
 refine H_env (ρ' := [(0, _), (1, _)]) ⟨rfl, rfl, trivial⟩ ?_
 refine H_seq ?_
 refine H_region (l := [_]) rfl ?_
 refine HO_assign rfl rfl rfl ?_
 refine HO_nil ?_
 refine H_seq ?_
 refine H_seq ?_
 refine H_region (l := [_, _]) rfl ?_
 refine HO_move rfl rfl rfl ?_
 refine HO_bin (r := .bool false) rfl rfl rfl rfl (bin_ptr_eq_pn Tryz.runUnderlying84) ?_
 refine HO_nil ?_
 refine H_env (ρ' := [(9, _), (5, _), (0, _), (1, _)]) ⟨rfl, rfl, rfl, rfl, trivial⟩ ?_
 refine H_cond rfl (fun h => nomatch h) (fun _ => ?_)
 refine H_skip ?_
 refine H_seq ?_
 refine H_region (l := [_, _, _, _, _, _, _, _, _, _, _]) rfl ?_
 iterate 2 refine HO_move rfl rfl rfl ?_
 refine HO_nilCheck rfl rfl rfl ?_
 refine HO_fieldAddr (r := 0) rfl rfl rfl Tryz.underlying56 rfl Tryz.sizeOf26 rfl ?_
 refine HO_load1 (i := 0) (j := 0) rfl rfl rfl Tryz.isAgg26 rfl (.loc _ _ _) rfl rfl ?_
 refine HO_dup (i := 1) rfl rfl ?_
 refine HO_call (first := []) (capt := []) (is := [0]) (R := [_, _]) rfl rfl rfl rfl rfl Tryz.call91 rfl (GetText_spec _ _ _ ?_) ?_
 ·(first | omega | assumption | decide)
 intro y17 hy17
 clear y17 hy17
 refine HO_move rfl rfl rfl ?_
 refine HO_extract (vs := [_, _]) rfl rfl rfl rfl ?_
 refine HO_extract (vs := [_, _]) rfl rfl rfl rfl ?_
 iterate 2 refine HO_assign rfl rfl rfl ?_
 refine HO_nil ?_
 refine H_env (ρ' := [(7, _), (6, _), (5, _), (0, _)]) ⟨rfl, rfl, rfl, rfl, trivial⟩ ?_
 refine H_seq ?_
 refine H_seq ?_
 refine H_region (l := [_, _, _, _, _, _, _, _, _, _, _, _]) rfl ?_
 iterate 2 refine HO_move rfl rfl rfl ?_
 refine HO_nilCheck rfl rfl rfl ?_
 refine HO_fieldAddr (r := 1) rfl rfl rfl Tryz.underlying56 rfl Tryz.sizeOf4 rfl ?_
 refine HO_load1 (i := 0) (j := 1) rfl rfl rfl Tryz.isAgg4 rfl (.loc _ _ _) rfl rfl ?_
 refine HO_move rfl rfl rfl ?_
 refine HO_split (d := 25) rfl ?_ ?_
 ·intro h25
  iterate 2 refine HO_no rfl rfl rfl ?_
  refine HO_pick_t rfl rfl rfl rfl ?_
  refine HO_nilCheck rfl rfl rfl ?_
  refine HO_fieldAddr (r := 1) rfl rfl rfl Tryz.underlying56 rfl Tryz.sizeOf4 rfl ?_
  refine HO_store (i := 0) (j := 0) (us := [_]) (old := [_]) (ts := []) (cs := [_]) (R := [_]) (new := [_, _]) rfl rfl rfl Tryz.sizeOf4 rfl (by simp [Value.oneCell']) rfl rfl rfl rfl rfl rfl ?_
  refine HO_nil ?_
  refine H_env (ρ' := [(7, _), (6, _), (5, _), (0, _)]) ⟨rfl, rfl, rfl, rfl, trivial⟩ ?_
  refine H_seq ?_
  refine H_region (l := [_, _, _, _]) rfl ?_
  refine HO_move rfl rfl rfl ?_
  refine HO_nilCheck rfl rfl rfl ?_
  refine HO_fieldAddr (r := 1) rfl rfl rfl Tryz.underlying56 rfl Tryz.sizeOf4 rfl ?_
  refine HO_load1 (i := 0) (j := 1) rfl rfl rfl Tryz.isAgg4 rfl (.loc _ _ _) rfl rfl ?_
  refine HO_nil ?_
  refine H_env (ρ' := [(34, _), (7, _), (6, _), (5, _), (0, _)]) ⟨rfl, rfl, rfl, rfl, rfl, trivial⟩ ?_
  refine H_cond rfl (fun _ => ?_) (fun h => nomatch h)
  refine H_seq ?_
  refine H_region (l := [_, _, _, _]) rfl ?_
  refine HO_move rfl rfl rfl ?_
  refine HO_nilCheck rfl rfl rfl ?_
  refine HO_fieldAddr (r := 0) rfl rfl rfl Tryz.underlying56 rfl Tryz.sizeOf26 rfl ?_
  refine HO_store (i := 0) (j := 0) (us := []) (old := [_]) (ts := [_]) (cs := [_]) (R := [_]) (new := [_, _]) rfl rfl rfl Tryz.sizeOf26 rfl (by simp [Value.oneCell']) rfl rfl rfl rfl rfl rfl ?_
  refine HO_nil ?_
  refine H_env (ρ' := [(5, _)]) ⟨rfl, trivial⟩ ?_
  refine H_world (fun _ hA => hA.keep (m := [yy, nn]) (Y := [_]) rfl) ?_
  refine H_seq ?_
  refine H_region (l := [_, _]) rfl ?_
  refine HO_move rfl rfl rfl ?_
  refine HO_assign rfl rfl rfl ?_
  refine HO_nil ?_
  refine H_env (ρ' := [(4, _)]) ⟨rfl, trivial⟩ ?_
  have hrd : (Cod.rd [] (Cod.decT b) b w) = ([], [], true) := Cod.rd_bad (.inl h25)
  refine H_nilDat kByte ?_
  refine H_ret1 Tryz.results90 (.tmp rfl) (fun w hA => ⟨(none, 0), congrArg Ending.returned ?_, ?_, ?_⟩)
  ·(rw [hrd] <;> rfl)
  ·trivial
  ·(rw [hrd]; exact hA.only (is := [0, 0]) (Z := []) rfl)
 intro h25
 refine HO_move rfl rfl rfl ?_
 refine HO_bin rfl rfl rfl rfl bin_eql ?_
 refine HO_pick_f rfl rfl rfl rfl ?_
 refine HO_nilCheck rfl rfl rfl ?_
 refine HO_fieldAddr (r := 1) rfl rfl rfl Tryz.underlying56 rfl Tryz.sizeOf4 rfl ?_
 refine HO_store (i := 0) (j := 0) (us := [_]) (old := [_]) (ts := []) (cs := [_]) (R := [_]) (new := [_, _]) rfl rfl rfl Tryz.sizeOf4 rfl (by simp [Value.oneCell']) rfl rfl rfl rfl rfl rfl ?_
 refine HO_nil ?_
 refine H_env (ρ' := [(7, _), (6, _), (5, _), (0, _)]) ⟨rfl, rfl, rfl, rfl, trivial⟩ ?_
 refine H_seq ?_
 refine H_region (l := [_, _, _, _]) rfl ?_
 refine HO_move rfl rfl rfl ?_
 refine HO_nilCheck rfl rfl rfl ?_
 refine HO_fieldAddr (r := 1) rfl rfl rfl Tryz.underlying56 rfl Tryz.sizeOf4 rfl ?_
 refine HO_load1 (i := 0) (j := 1) rfl rfl rfl Tryz.isAgg4 rfl (.loc _ _ _) rfl rfl ?_
 refine HO_nil ?_
 refine H_env (ρ' := [(34, _), (7, _), (6, _), (5, _), (0, _)]) ⟨rfl, rfl, rfl, rfl, rfl, trivial⟩ ?_
 refine H_cond rfl ?_ ?_
 ·intro h34
  replace h34 := dT h34
  rw [decide_eq_true h34]
  refine H_seq ?_
  refine H_region (l := [_, _, _, _]) rfl ?_
  refine HO_move rfl rfl rfl ?_
  refine HO_nilCheck rfl rfl rfl ?_
  refine HO_fieldAddr (r := 0) rfl rfl rfl Tryz.underlying56 rfl Tryz.sizeOf26 rfl ?_
  refine HO_store (i := 0) (j := 0) (us := []) (old := [_]) (ts := [_]) (cs := [_]) (R := [_]) (new := [_, _]) rfl rfl rfl Tryz.sizeOf26 rfl (by simp [Value.oneCell']) rfl rfl rfl rfl rfl rfl ?_
  refine HO_nil ?_
  refine H_env (ρ' := [(5, _)]) ⟨rfl, trivial⟩ ?_
  refine H_world (fun _ hA => hA.keep (m := [yy, nn]) (Y := [_]) rfl) ?_
  refine H_seq ?_
  refine H_region (l := [_, _]) rfl ?_
  refine HO_move rfl rfl rfl ?_
  refine HO_assign rfl rfl rfl ?_
  refine HO_nil ?_
  refine H_env (ρ' := [(4, _)]) ⟨rfl, trivial⟩ ?_
  have hrd : (Cod.rd [] (Cod.decT b) b w) = ([], [], true) := Cod.rd_bad (.inr (by omega))
  refine H_nilDat kByte ?_
  refine H_ret1 Tryz.results90 (.tmp rfl) (fun w hA => ⟨(none, 0), congrArg Ending.returned ?_, ?_, ?_⟩)
  ·(rw [hrd] <;> rfl)
  ·trivial
  ·(rw [hrd]; exact hA.only (is := [0, 0]) (Z := []) rfl)
 intro h34
 replace h34 := dF h34
 rw [decide_eq_false h34]
 refine H_skip ?_
 refine H_seq ?_
 refine H_region (l := [_, _, _, _, _, _, _, _, _, _]) rfl ?_
 iterate 2 refine HO_move rfl rfl rfl ?_
 refine HO_nilCheck rfl rfl rfl ?_
 refine HO_fieldAddr (r := 0) rfl rfl rfl Tryz.underlying56 rfl Tryz.sizeOf26 rfl ?_
 refine HO_load1 (i := 0) (j := 0) rfl rfl rfl Tryz.isAgg26 rfl (.loc _ _ _) rfl rfl ?_
 refine HO_move rfl rfl rfl ?_
 refine HO_slice_l (i := 1) (l := (Cod.decT b).2) rfl rfl rfl rfl ?_ Tryz.underlying26 Tryz.sizeOf5 rfl ?_ ?_
 ·omega
 ·omega
 intro a45 c45
 refine HO_nilCheck rfl rfl rfl ?_
 refine HO_fieldAddr (r := 0) rfl rfl rfl Tryz.underlying56 rfl Tryz.sizeOf26 rfl ?_
 refine HO_store (i := 1) (j := 0) (us := []) (old := [_]) (ts := [_]) (cs := [_]) (R := [_, _]) (new := [_, _]) rfl rfl rfl Tryz.sizeOf26 rfl (by simp [Value.oneCell']) rfl rfl rfl rfl rfl rfl ?_
 refine HO_nil ?_
 refine H_env (ρ' := [(6, _)]) ⟨rfl, trivial⟩ ?_
 refine H_world (fun _ hA => hA.keep (m := [yy, yy, nn]) (Y := [_, _]) rfl) ?_
 refine H_seq ?_
 refine H_region (l := [_, _]) rfl ?_
 refine HO_move rfl rfl rfl ?_
 refine HO_assign rfl rfl rfl ?_
 refine HO_nil ?_
 refine H_env (ρ' := [(4, _)]) ⟨rfl, trivial⟩ ?_
 have hrd : (Cod.rd [] (Cod.decT b) b w) = ((Cod.decT b).1, b.drop (Cod.decT b).2, false) := Cod.rd_good h25 (by omega)
 refine H_ret1 Tryz.results90 (.tmp rfl) (fun w hA => ⟨(a45, c45), congrArg Ending.returned ?_, ?_, ?_⟩)
 ·(rw [hrd] <;> rfl)
 ·trivial
 ·(rw [hrd]; exact hA.keep (m := [yy, yy]) (Y := [_, _]) rfl)
theorem read_bool_spec (T : TypeId) (g : Nat) (b : List UInt8) (w : Bool) (a : Option Addr) (c : Nat)  : Spec Tryz.prog 55 #[.pointer (some ⟨g, 0, none⟩), .func (.func 56) #[] #[]] [.loc g [.slice a (b.length) c, .bool (w)] T, .dat kByte.sl (b) [.slice a (b.length) c]] (β := Option Addr × Nat) (fun y => .bool ((Cod.rd false (Cod.decB b) b w).1)) (fun y => True) (fun y => [.loc g [.slice y.1 (((Cod.rd false (Cod.decB b) b w).2.1).length) y.2, .bool ((Cod.rd false (Cod.decB b) b w).2.2)] T, .dat kByte.sl ((Cod.rd false (Cod.decB b) b w).2.1) [.slice y.1 (((Cod.rd false (Cod.decB b) b w).2.1).length) y.2]]) := by
 have hlen := Cod.decB_len b
 refine Spec.enter (vs := [_, _]) Tryz.func55 rfl Tryz.ntmps55 rfl (Nat.le_of_ble_eq_true rfl) (fun w0 ok0 => ?_)
 generalize hM0 : blks _ = M0
 refine H_seq ?_
 refine H_region (l := [_]) rfl ?_
 refine HO_assign rfl rfl rfl ?_
 refine HO_nil ?_
 refine H_env (ρ' := [(0, _), (1, _)]) ⟨rfl, rfl, trivial⟩ ?_
 refine H_seq ?_
 refine H_region (l := [_]) rfl ?_
 refine HO_assign rfl rfl rfl ?_
 refine HO_nil ?_
 refine H_seq ?_
 refine H_seq ?_
 refine H_region (l := [_, _]) rfl ?_
 refine HO_move rfl rfl rfl ?_
 refine HO_bin (r := .bool false) rfl rfl rfl rfl (bin_ptr_eq_pn Tryz.runUnderlying84) ?_
 refine HO_nil ?_
 refine H_env (ρ' := [(9, _), (5, _), (0, _), (1, _)]) ⟨rfl, rfl, rfl, rfl, trivial⟩ ?_
 refine H_cond rfl (fun h => nomatch h) (fun _ => ?_)
 refine H_skip ?_
 refine H_seq ?_
 refine H_region (l := [_, _, _, _, _, _, _, _, _, _, _]) rfl ?_
 iterate 2 refine HO_move rfl rfl rfl ?_
 refine HO_nilCheck rfl rfl rfl ?_
 refine HO_fieldAddr (r := 0) rfl rfl rfl Tryz.underlying56 rfl Tryz.sizeOf26 rfl ?_
 refine HO_load1 (i := 0) (j := 0) rfl rfl rfl Tryz.isAgg26 rfl (.loc _ _ _) rfl rfl ?_
 refine HO_dup (i := 1) rfl rfl ?_
 refine HO_call (first := []) (capt := []) (is := [0]) (R := [_, _]) rfl rfl rfl rfl rfl Tryz.call56 rfl (GetBool_spec _ _ _) ?_
 intro y17 hy17
 clear y17 hy17
 refine HO_move rfl rfl rfl ?_
 refine HO_extract (vs := [_, _]) rfl rfl rfl rfl ?_
 refine HO_extract (vs := [_, _]) rfl rfl rfl rfl ?_
 iterate 2 refine HO_assign rfl rfl rfl ?_
 refine HO_nil ?_
 refine H_env (ρ' := [(7, _), (6, _), (5, _), (0, _)]) ⟨rfl, rfl, rfl, rfl, trivial⟩ ?_
 refine H_seq ?_
 refine H_seq ?_
 refine H_region (l := [_, _, _, _, _, _, _, _, _, _, _, _]) rfl ?_
 iterate 2 refine HO_move rfl rfl rfl ?_
 refine HO_nilCheck rfl rfl rfl ?_
 refine HO_fieldAddr (r := 1) rfl rfl rfl Tryz.underlying56 rfl Tryz.sizeOf4 rfl ?_
 refine HO_load1 (i := 0) (j := 1) rfl rfl rfl Tryz.isAgg4 rfl (.loc _ _ _) rfl rfl ?_
 refine HO_move rfl rfl rfl ?_
 refine HO_split (d := 25) rfl ?_ ?_
 ·intro h25
  iterate 2 refine HO_no rfl rfl rfl ?_
  refine HO_pick_t rfl rfl rfl rfl ?_
  refine HO_nilCheck rfl rfl rfl ?_
  refine HO_fieldAddr (r := 1) rfl rfl rfl Tryz.underlying56 rfl Tryz.sizeOf4 rfl ?_
  refine HO_store (i := 0) (j := 0) (us := [_]) (old := [_]) (ts := []) (cs := [_]) (R := [_]) (new := [_, _]) rfl rfl rfl Tryz.sizeOf4 rfl (by simp [Value.oneCell']) rfl rfl rfl rfl rfl rfl ?_
  refine HO_nil ?_
  refine H_env (ρ' := [(7, _), (6, _), (5, _), (0, _)]) ⟨rfl, rfl, rfl, rfl, trivial⟩ ?_
  refine H_seq ?_
  refine H_region (l := [_, _, _, _]) rfl ?_
  refine HO_move rfl rfl rfl ?_
  refine HO_nilCheck rfl rfl rfl ?_
  refine HO_fieldAddr (r := 1) rfl rfl rfl Tryz.underlying56 rfl Tryz.sizeOf4 rfl ?_
  refine HO_load1 (i := 0) (j := 1) rfl rfl rfl Tryz.isAgg4 rfl (.loc _ _ _) rfl rfl ?_
  refine HO_nil ?_
  refine H_env (ρ' := [(34, _), (7, _), (6, _), (5, _), (0, _)]) ⟨rfl, rfl, rfl, rfl, rfl, trivial⟩ ?_
  refine H_cond rfl (fun _ => ?_) (fun h => nomatch h)
  refine H_seq ?_
  refine H_region (l := [_, _, _, _]) rfl ?_
  refine HO_move rfl rfl rfl ?_
  refine HO_nilCheck rfl rfl rfl ?_
  refine HO_fieldAddr (r := 0) rfl rfl rfl Tryz.underlying56 rfl Tryz.sizeOf26 rfl ?_
  refine HO_store (i := 0) (j := 0) (us := []) (old := [_]) (ts := [_]) (cs := [_]) (R := [_]) (new := [_, _]) rfl rfl rfl Tryz.sizeOf26 rfl (by simp [Value.oneCell']) rfl rfl rfl rfl rfl rfl ?_
  refine HO_nil ?_
  refine H_env (ρ' := [(5, _)]) ⟨rfl, trivial⟩ ?_
  refine H_world (fun _ hA => hA.keep (m := [yy, nn]) (Y := [_]) rfl) ?_
  refine H_seq ?_
  refine H_region (l := [_, _]) rfl ?_
  refine HO_move rfl rfl rfl ?_
  refine HO_assign rfl rfl rfl ?_
  refine HO_nil ?_
  refine H_env (ρ' := [(4, _)]) ⟨rfl, trivial⟩ ?_
  have hrd : (Cod.rd false (Cod.decB b) b w) = (false, [], true) := Cod.rd_bad (.inl h25)
  refine H_nilDat kByte ?_
  refine H_ret1 Tryz.results55 (.tmp rfl) (fun w hA => ⟨(none, 0), congrArg Ending.returned ?_, ?_, ?_⟩)
  ·(rw [hrd] <;> rfl)
  ·trivial
  ·(rw [hrd]; exact hA.only (is := [0, 0]) (Z := []) rfl)
 intro h25
 refine HO_move rfl rfl rfl ?_
 refine HO_bin rfl rfl rfl rfl bin_eql ?_
 refine HO_pick_f rfl rfl rfl rfl ?_
 refine HO_nilCheck rfl rfl rfl ?_
 refine HO_fieldAddr (r := 1) rfl rfl rfl Tryz.underlying56 rfl Tryz.sizeOf4 rfl ?_
 refine HO_store (i := 0) (j := 0) (us := [_]) (old := [_]) (ts := []) (cs := [_]) (R := [_]) (new := [_, _]) rfl rfl rfl Tryz.sizeOf4 rfl (by simp [Value.oneCell']) rfl rfl rfl rfl rfl rfl ?_
 refine HO_nil ?_
 refine H_env (ρ' := [(7, _), (6, _), (5, _), (0, _)]) ⟨rfl, rfl, rfl, rfl, trivial⟩ ?_
 refine H_seq ?_
 refine H_region (l := [_, _, _, _]) rfl ?_
 refine HO_move rfl rfl rfl ?_
 refine HO_nilCheck rfl rfl rfl ?_
 refine HO_fieldAddr (r := 1) rfl rfl rfl Tryz.underlying56 rfl Tryz.sizeOf4 rfl ?_
 refine HO_load1 (i := 0) (j := 1) rfl rfl rfl Tryz.isAgg4 rfl (.loc _ _ _) rfl rfl ?_
 refine HO_nil ?_
 refine H_env (ρ' := [(34, _), (7, _), (6, _), (5, _), (0, _)]) ⟨rfl, rfl, rfl, rfl, rfl, trivial⟩ ?_
 refine H_cond rfl ?_ ?_
 ·intro h34
  replace h34 := dT h34
  rw [decide_eq_true h34]
  refine H_seq ?_
  refine H_region (l := [_, _, _, _]) rfl ?_
  refine HO_move rfl rfl rfl ?_
  refine HO_nilCheck rfl rfl rfl ?_
  refine HO_fieldAddr (r := 0) rfl rfl rfl Tryz.underlying56 rfl Tryz.sizeOf26 rfl ?_
  refine HO_store (i := 0) (j := 0) (us := []) (old := [_]) (ts := [_]) (cs := [_]) (R := [_]) (new := [_, _]) rfl rfl rfl Tryz.sizeOf26 rfl (by simp [Value.oneCell']) rfl rfl rfl rfl rfl rfl ?_
  refine HO_nil ?_
  refine H_env (ρ' := [(5, _)]) ⟨rfl, trivial⟩ ?_
  refine H_world (fun _ hA => hA.keep (m := [yy, nn]) (Y := [_]) rfl) ?_
  refine H_seq ?_
  refine H_region (l := [_, _]) rfl ?_
  refine HO_move rfl rfl rfl ?_
  refine HO_assign rfl rfl rfl ?_
  refine HO_nil ?_
  refine H_env (ρ' := [(4, _)]) ⟨rfl, trivial⟩ ?_
  have hrd : (Cod.rd false (Cod.decB b) b w) = (false, [], true) := Cod.rd_bad (.inr (by omega))
  refine H_nilDat kByte ?_
  refine H_ret1 Tryz.results55 (.tmp rfl) (fun w hA => ⟨(none, 0), congrArg Ending.returned ?_, ?_, ?_⟩)
  ·(rw [hrd] <;> rfl)
  ·trivial
  ·(rw [hrd]; exact hA.only (is := [0, 0]) (Z := []) rfl)
 intro h34
 replace h34 := dF h34
 rw [decide_eq_false h34]
 refine H_skip ?_
 refine H_seq ?_
 refine H_region (l := [_, _, _, _, _, _, _, _, _, _]) rfl ?_
 iterate 2 refine HO_move rfl rfl rfl ?_
 refine HO_nilCheck rfl rfl rfl ?_
 refine HO_fieldAddr (r := 0) rfl rfl rfl Tryz.underlying56 rfl Tryz.sizeOf26 rfl ?_
 refine HO_load1 (i := 0) (j := 0) rfl rfl rfl Tryz.isAgg26 rfl (.loc _ _ _) rfl rfl ?_
 refine HO_move rfl rfl rfl ?_
 refine HO_slice_l (i := 1) (l := (Cod.decB b).2) rfl rfl rfl rfl ?_ Tryz.underlying26 Tryz.sizeOf5 rfl ?_ ?_
 ·omega
 ·omega
 intro a45 c45
 refine HO_nilCheck rfl rfl rfl ?_
 refine HO_fieldAddr (r := 0) rfl rfl rfl Tryz.underlying56 rfl Tryz.sizeOf26 rfl ?_
 refine HO_store (i := 1) (j := 0) (us := []) (old := [_]) (ts := [_]) (cs := [_]) (R := [_, _]) (new := [_, _]) rfl rfl rfl Tryz.sizeOf26 rfl (by simp [Value.oneCell']) rfl rfl rfl rfl rfl rfl ?_
 refine HO_nil ?_
 refine H_env (ρ' := [(6, _)]) ⟨rfl, trivial⟩ ?_
 refine H_world (fun _ hA => hA.keep (m := [yy, yy, nn]) (Y := [_, _]) rfl) ?_
 refine H_seq ?_
 refine H_region (l := [_, _]) rfl ?_
 refine HO_move rfl rfl rfl ?_
 refine HO_assign rfl rfl rfl ?_
 refine HO_nil ?_
 refine H_env (ρ' := [(4, _)]) ⟨rfl, trivial⟩ ?_
 have hrd : (Cod.rd false (Cod.decB b) b w) = ((Cod.decB b).1, b.drop (Cod.decB b).2, false) := Cod.rd_good h25 (by omega)
 refine H_ret1 Tryz.results55 (.tmp rfl) (fun w hA => ⟨(a45, c45), congrArg Ending.returned ?_, ?_, ?_⟩)
 ·(rw [hrd] <;> rfl)
 ·trivial
 ·(rw [hrd]; exact hA.keep (m := [yy, yy]) (Y := [_, _]) rfl)
theorem cNum_spec (T : TypeId) (g : Nat) (b : List UInt8) (w : Bool) (a : Option Addr) (c : Nat)  : Spec Tryz.prog 54 #[.pointer (some ⟨g, 0, none⟩)] [.loc g [.slice a (b.length) c, .bool (w)] T, .dat kByte.sl (b) [.slice a (b.length) c]] (β := Option Addr × Nat) (fun y => .int .u64 (((Cod.rd 0 (Cod.dec b) b w).1 : Int))) (fun y => True) (fun y => [.loc g [.slice y.1 (((Cod.rd 0 (Cod.dec b) b w).2.1).length) y.2, .bool ((Cod.rd 0 (Cod.dec b) b w).2.2)] T, .dat kByte.sl ((Cod.rd 0 (Cod.dec b) b w).2.1) [.slice y.1 (((Cod.rd 0 (Cod.dec b) b w).2.1).length) y.2]]) := by
 refine Spec.enter (vs := [_]) Tryz.func54 rfl Tryz.ntmps54 rfl (Nat.le_of_ble_eq_true rfl) (fun w0 ok0 => ?_)
 generalize hM0 : blks _ = M0
 refine H_seq ?_
 refine H_region (l := [_]) rfl ?_
 refine HO_assign rfl rfl rfl ?_
 refine HO_nil ?_
 refine H_env (ρ' := [(0, _)]) ⟨rfl, trivial⟩ ?_
 refine H_seq ?_
 refine H_region (l := [_, _, _]) rfl ?_
 refine HO_move rfl rfl rfl ?_
 refine HO_dup (i := 1) rfl rfl ?_
 refine HO_call (first := []) (capt := []) (is := [0, 0]) (R := [_]) rfl rfl rfl rfl rfl Tryz.call88 rfl (read_uint64_spec _ _ _ _ _ _) ?_
 intro y4 hy4
 refine HO_assign rfl rfl rfl ?_
 refine HO_nil ?_
 refine H_env (ρ' := [(2, _)]) ⟨rfl, trivial⟩ ?_
 refine H_world (fun _ hA => hA.keep (m := [yy, yy, nn]) (Y := [_, _]) rfl) ?_
 refine H_ret1 Tryz.results54 (.tmp rfl) (fun w hA => ⟨y4, congrArg Ending.returned ?_, ?_, ?_⟩)
 ·rfl
 ·trivial
 ·exact hA.keep (m := [yy, yy]) (Y := [_, _]) rfl
theorem cText_spec (T : TypeId) (g : Nat) (b : List UInt8) (w : Bool) (a : Option Addr) (c : Nat) (hb : b.length ≤ 1099511627776) : Spec Tryz.prog 59 #[.pointer (some ⟨g, 0, none⟩)] [.loc g [.slice a (b.length) c, .bool (w)] T, .dat kByte.sl (b) [.slice a (b.length) c]] (β := Option Addr × Nat) (fun y => .string (⟨(Cod.rd [] (Cod.decT b) b w).1.toArray⟩)) (fun y => True) (fun y => [.loc g [.slice y.1 (((Cod.rd [] (Cod.decT b) b w).2.1).length) y.2, .bool ((Cod.rd [] (Cod.decT b) b w).2.2)] T, .dat kByte.sl ((Cod.rd [] (Cod.decT b) b w).2.1) [.slice y.1 (((Cod.rd [] (Cod.decT b) b w).2.1).length) y.2]]) := by
 refine Spec.enter (vs := [_]) Tryz.func59 rfl Tryz.ntmps59 rfl (Nat.le_of_ble_eq_true rfl) (fun w0 ok0 => ?_)
 generalize hM0 : blks _ = M0
 refine H_seq ?_
 refine H_region (l := [_]) rfl ?_
 refine HO_assign rfl rfl rfl ?_
 refine HO_nil ?_
 refine H_env (ρ' := [(0, _)]) ⟨rfl, trivial⟩ ?_
 refine H_seq ?_
 refine H_region (l := [_, _, _]) rfl ?_
 refine HO_move rfl rfl rfl ?_
 refine HO_dup (i := 1) rfl rfl ?_
 refine HO_call (first := []) (capt := []) (is := [0, 0]) (R := [_]) rfl rfl rfl rfl rfl Tryz.call90 rfl (read_string_spec _ _ _ _ _ _ ?_) ?_
 ·(first | omega | assumption | decide)
 intro y4 hy4
 refine HO_assign rfl rfl rfl ?_
 refine HO_nil ?_
 refine H_env (ρ' := [(2, _)]) ⟨rfl, trivial⟩ ?_
 refine H_world (fun _ hA => hA.keep (m := [yy, yy, nn]) (Y := [_, _]) rfl) ?_
 refine H_ret1 Tryz.results59 (.tmp rfl) (fun w hA => ⟨y4, congrArg Ending.returned ?_, ?_, ?_⟩)
 ·rfl
 ·trivial
 ·exact hA.keep (m := [yy, yy]) (Y := [_, _]) rfl
theorem cBool_spec (T : TypeId) (g : Nat) (b : List UInt8) (w : Bool) (a : Option Addr) (c : Nat)  : Spec Tryz.prog 20 #[.pointer (some ⟨g, 0, none⟩)] [.loc g [.slice a (b.length) c, .bool (w)] T, .dat kByte.sl (b) [.slice a (b.length) c]] (β := Option Addr × Nat) (fun y => .bool ((Cod.rd false (Cod.decB b) b w).1)) (fun y => True) (fun y => [.loc g [.slice y.1 (((Cod.rd false (Cod.decB b) b w).2.1).length) y.2, .bool ((Cod.rd false (Cod.decB b) b w).2.2)] T, .dat kByte.sl ((Cod.rd false (Cod.decB b) b w).2.1) [.slice y.1 (((Cod.rd false (Cod.decB b) b w).2.1).length) y.2]]) := by
 refine Spec.enter (vs := [_]) Tryz.func20 rfl Tryz.ntmps20 rfl (Nat.le_of_ble_eq_true rfl) (fun w0 ok0 => ?_)
 generalize hM0 : blks _ = M0
 refine H_seq ?_
 refine H_region (l := [_]) rfl ?_
 refine HO_assign rfl rfl rfl ?_
 refine HO_nil ?_
 refine H_env (ρ' := [(0, _)]) ⟨rfl, trivial⟩ ?_
 refine H_seq ?_
 refine H_region (l := [_, _, _]) rfl ?_
 refine HO_move rfl rfl rfl ?_
 refine HO_dup (i := 1) rfl rfl ?_
 refine HO_call (first := []) (capt := []) (is := [0, 0]) (R := [_]) rfl rfl rfl rfl rfl Tryz.call55 rfl (read_bool_spec _ _ _ _ _ _) ?_
 intro y4 hy4
 refine HO_assign rfl rfl rfl ?_
 refine HO_nil ?_
 refine H_env (ρ' := [(2, _)]) ⟨rfl, trivial⟩ ?_
 refine H_world (fun _ hA => hA.keep (m := [yy, yy, nn]) (Y := [_, _]) rfl) ?_
 refine H_ret1 Tryz.results20 (.tmp rfl) (fun w hA => ⟨y4, congrArg Ending.returned ?_, ?_, ?_⟩)
 ·rfl
 ·trivial
 ·exact hA.keep (m := [yy, yy]) (Y := [_, _]) rfl
theorem cInt_spec (T : TypeId) (g : Nat) (b : List UInt8) (w : Bool) (a : Option Addr) (c : Nat)  : Spec Tryz.prog 19 #[.pointer (some ⟨g, 0, none⟩)] [.loc g [.slice a (b.length) c, .bool (w)] T, .dat kByte.sl (b) [.slice a (b.length) c]] (β := Option Addr × Nat) (fun y => .int .i64 ((Cod.zag (Cod.rd 0 (Cod.dec b) b w).1))) (fun y => True) (fun y => [.loc g [.slice y.1 (((Cod.rd 0 (Cod.dec b) b w).2.1).length) y.2, .bool ((Cod.rd 0 (Cod.dec b) b w).2.2)] T, .dat kByte.sl ((Cod.rd 0 (Cod.dec b) b w).2.1) [.slice y.1 (((Cod.rd 0 (Cod.dec b) b w).2.1).length) y.2]]) := by
 refine Spec.enter (vs := [_]) Tryz.func19 rfl Tryz.ntmps19 rfl (Nat.le_of_ble_eq_true rfl) (fun w0 ok0 => ?_)
 generalize hM0 : blks _ = M0
 refine H_seq ?_
 refine H_region (l := [_]) rfl ?_
 refine HO_assign rfl rfl rfl ?_
 refine HO_nil ?_
 refine H_env (ρ' := [(0, _)]) ⟨rfl, trivial⟩ ?_
 refine H_seq ?_
 refine H_region (l := [_, _, _, _]) rfl ?_
 refine HO_move rfl rfl rfl ?_
 refine HO_dup (i := 1) rfl rfl ?_
 refine HO_call (first := []) (capt := []) (is := [0, 0]) (R := [_]) rfl rfl rfl rfl rfl Tryz.call54 rfl (cNum_spec _ _ _ _ _ _) ?_
 intro y4 hy4
 refine HO_call (first := []) (capt := []) (is := []) (R := [_, _, _]) rfl rfl rfl rfl rfl Tryz.call53 rfl (zag_spec _ ?_) ?_
 ·(exact Cod.rd_lt b w)
 intro y5 hy5
 clear y5 hy5
 refine HO_assign rfl rfl rfl ?_
 refine HO_nil ?_
 refine H_env (ρ' := [(2, _)]) ⟨rfl, trivial⟩ ?_
 refine H_world (fun _ hA => hA.keep (m := [yy, yy, nn]) (Y := [_, _]) rfl) ?_
 refine H_ret1 Tryz.results19 (.tmp rfl) (fun w hA => ⟨y4, congrArg Ending.returned ?_, ?_, ?_⟩)
 ·rfl
 ·trivial
 ·exact hA.keep (m := [yy, yy]) (Y := [_, _]) rfl
theorem cCount_spec (T : TypeId) (g : Nat) (b : List UInt8) (w : Bool) (a : Option Addr) (c : Nat) (k : Int) (hk : -9223372036854775808 ≤ k ∧ k ≤ 9223372036854775807) : Spec Tryz.prog 57 #[.pointer (some ⟨g, 0, none⟩), .int .i64 (k)] [.loc g [.slice a (b.length) c, .bool (w)] T, .dat kByte.sl (b) [.slice a (b.length) c]] (β := Option Addr × Nat) (fun y => .int .i64 (((Cod.cnt k b w).1 : Int))) (fun y => True) (fun y => [.loc g [.slice y.1 (((Cod.cnt k b w).2.1).length) y.2, .bool ((Cod.cnt k b w).2.2)] T, .dat kByte.sl ((Cod.cnt k b w).2.1) [.slice y.1 (((Cod.cnt k b w).2.1).length) y.2]]) := by
 have hlt := Cod.rd_lt b w
 refine Spec.enter (vs := [_, _]) Tryz.func57 rfl Tryz.ntmps57 rfl (Nat.le_of_ble_eq_true rfl) (fun w0 ok0 => ?_)
 generalize hM0 : blks _ = M0
 refine H_seq ?_
 refine H_region (l := [_]) rfl ?_
 refine HO_assign rfl rfl rfl ?_
 refine HO_nil ?_
 refine H_env (ρ' := [(0, _), (1, _)]) ⟨rfl, rfl, trivial⟩ ?_
 refine H_seq ?_
 refine H_region (l := [_, _, _]) rfl ?_
 refine HO_move rfl rfl rfl ?_
 refine HO_makeFunc (vs := [_]) (us := []) rfl rfl rfl rfl ?_
 refine HO_assign rfl rfl rfl ?_
 refine HO_nil ?_
 refine H_env (ρ' := [(5, _), (0, _), (1, _)]) ⟨rfl, rfl, rfl, trivial⟩ ?_
 refine H_seq ?_
 refine H_region (l := [_, _, _]) rfl ?_
 refine HO_move rfl rfl rfl ?_
 refine HO_dup (i := 1) rfl rfl ?_
 refine HO_call (first := [_]) (capt := []) (is := [0, 0]) (R := [_]) rfl rfl rfl rfl rfl Tryz.call54 rfl (cNum_spec _ _ _ _ _ _) ?_
 intro y10 hy10
 refine HO_assign rfl rfl rfl ?_
 refine HO_nil ?_
 refine H_env (ρ' := [(6, _), (0, _), (1, _)]) ⟨rfl, rfl, rfl, trivial⟩ ?_
 refine H_world (fun _ hA => hA.keep (m := [yy, yy, nn]) (Y := [_, _]) rfl) ?_
 refine H_seq ?_
 refine H_seq ?_
 refine H_region (l := [_, _, _, _, _, _, _, _, _, _, _, _]) rfl ?_
 refine HO_move rfl rfl rfl ?_
 refine HO_bin (r := .bool false) rfl rfl rfl rfl (bin_ptr_eq_pn Tryz.runUnderlying84) ?_
 iterate 2 refine HO_move rfl rfl rfl ?_
 refine HO_bin rfl rfl rfl rfl bin_lss ?_
 refine HO_pick_f rfl rfl rfl rfl ?_
 refine HO_move rfl rfl rfl ?_
 refine HO_split (d := 17) rfl ?_ ?_
 ·intro h17
  replace h17 := dT h17
  iterate 4 refine HO_no rfl rfl rfl ?_
  refine HO_pick_t rfl rfl rfl rfl ?_
  refine HO_nil ?_
  refine H_env (ρ' := [(22, _), (6, _), (0, _)]) ⟨rfl, rfl, rfl, trivial⟩ ?_
  refine H_cond rfl (fun _ => ?_) (fun h => nomatch h)
  refine H_seq ?_
  refine H_seq ?_
  refine H_region (l := [_, _]) rfl ?_
  refine HO_move rfl rfl rfl ?_
  refine HO_bin (r := .bool true) rfl rfl rfl rfl (bin_ptr_ne_pn Tryz.runUnderlying84) ?_
  refine HO_nil ?_
  refine H_env (ρ' := [(24, _), (0, _)]) ⟨rfl, rfl, trivial⟩ ?_
  refine H_cond rfl (fun _ => ?_) (fun h => nomatch h)
  refine H_region (l := [_, _, _, _, _, _, _, _]) rfl ?_
  iterate 2 refine HO_move rfl rfl rfl ?_
  refine HO_nilCheck rfl rfl rfl ?_
  refine HO_fieldAddr (r := 0) rfl rfl rfl Tryz.underlying56 rfl Tryz.sizeOf26 rfl ?_
  refine HO_store (i := 0) (j := 0) (us := []) (old := [_]) (ts := [_]) (cs := [_]) (R := [_]) (new := [_, _]) rfl rfl rfl Tryz.sizeOf26 rfl (by simp [Value.oneCell']) rfl rfl rfl rfl rfl rfl ?_
  refine HO_nilCheck rfl rfl rfl ?_
  refine HO_fieldAddr (r := 1) rfl rfl rfl Tryz.underlying56 rfl Tryz.sizeOf4 rfl ?_
  refine HO_store (i := 0) (j := 0) (us := [_]) (old := [_]) (ts := []) (cs := [_]) (R := [_]) (new := [_, _]) rfl rfl rfl Tryz.sizeOf4 rfl (by simp [Value.oneCell']) rfl rfl rfl rfl rfl rfl ?_
  refine HO_nil ?_
  refine H_env (ρ' := []) trivial ?_
  refine H_world (fun _ hA => hA.keep (m := [yy, nn]) (Y := [_]) rfl) ?_
  refine H_seq ?_
  refine H_region (l := [_]) rfl ?_
  refine HO_assign rfl rfl rfl ?_
  refine HO_nil ?_
  have hrd : (Cod.cnt k b w) = (0, [], true) := Cod.cnt_bad (.inl (by omega))
  refine H_nilDat kByte ?_
  refine H_ret1 Tryz.results57 (.tmp rfl) (fun w hA => ⟨(none, 0), congrArg Ending.returned ?_, ?_, ?_⟩)
  ·(rw [hrd] <;> rfl)
  ·trivial
  ·(rw [hrd]; exact hA.only (is := [0, 0]) (Z := []) rfl)
 intro h17
 replace h17 := dF h17
 iterate 2 refine HO_move rfl rfl rfl ?_
 refine HO_conv rfl rfl rfl (cv_int Tryz.underlying3 Tryz.underlying78 (wrap_u_i rfl _)) ?_
 refine HO_set (v' := .int .u64 (((k.toNat : Nat) : Int))) 20 rfl (by exact congrArg (Value.int .u64) (by simp only [IntKind.bits]; omega)) ?_
 refine HO_bin rfl rfl rfl rfl bin_gtr ?_
 refine HO_pick_f rfl rfl rfl rfl ?_
 refine HO_nil ?_
 refine H_env (ρ' := [(22, _), (6, _), (0, _)]) ⟨rfl, rfl, rfl, trivial⟩ ?_
 refine H_cond rfl ?_ ?_
 ·intro h22
  replace h22 := dT h22
  refine H_seq ?_
  refine H_seq ?_
  refine H_region (l := [_, _]) rfl ?_
  refine HO_move rfl rfl rfl ?_
  refine HO_bin (r := .bool true) rfl rfl rfl rfl (bin_ptr_ne_pn Tryz.runUnderlying84) ?_
  refine HO_nil ?_
  refine H_env (ρ' := [(24, _), (0, _)]) ⟨rfl, rfl, trivial⟩ ?_
  refine H_cond rfl (fun _ => ?_) (fun h => nomatch h)
  refine H_region (l := [_, _, _, _, _, _, _, _]) rfl ?_
  iterate 2 refine HO_move rfl rfl rfl ?_
  refine HO_nilCheck rfl rfl rfl ?_
  refine HO_fieldAddr (r := 0) rfl rfl rfl Tryz.underlying56 rfl Tryz.sizeOf26 rfl ?_
  refine HO_store (i := 0) (j := 0) (us := []) (old := [_]) (ts := [_]) (cs := [_]) (R := [_]) (new := [_, _]) rfl rfl rfl Tryz.sizeOf26 rfl (by simp [Value.oneCell']) rfl rfl rfl rfl rfl rfl ?_
  refine HO_nilCheck rfl rfl rfl ?_
  refine HO_fieldAddr (r := 1) rfl rfl rfl Tryz.underlying56 rfl Tryz.sizeOf4 rfl ?_
  refine HO_store (i := 0) (j := 0) (us := [_]) (old := [_]) (ts := []) (cs := [_]) (R := [_]) (new := [_, _]) rfl rfl rfl Tryz.sizeOf4 rfl (by simp [Value.oneCell']) rfl rfl rfl rfl rfl rfl ?_
  refine HO_nil ?_
  refine H_env (ρ' := []) trivial ?_
  refine H_world (fun _ hA => hA.keep (m := [yy, nn]) (Y := [_]) rfl) ?_
  refine H_seq ?_
  refine H_region (l := [_]) rfl ?_
  refine HO_assign rfl rfl rfl ?_
  refine HO_nil ?_
  have hrd : (Cod.cnt k b w) = (0, [], true) := Cod.cnt_bad (.inr (by omega))
  refine H_nilDat kByte ?_
  refine H_ret1 Tryz.results57 (.tmp rfl) (fun w hA => ⟨(none, 0), congrArg Ending.returned ?_, ?_, ?_⟩)
  ·(rw [hrd] <;> rfl)
  ·trivial
  ·(rw [hrd]; exact hA.only (is := [0, 0]) (Z := []) rfl)
 intro h22
 replace h22 := dF h22
 refine H_skip ?_
 refine H_seq ?_
 refine H_region (l := [_, _, _]) rfl ?_
 refine HO_move rfl rfl rfl ?_
 refine HO_conv rfl rfl rfl (cv_int Tryz.underlying78 Tryz.underlying3 (wrap_i64_nat ?_)) ?_
 ·omega
 refine HO_assign rfl rfl rfl ?_
 refine HO_nil ?_
 refine H_env (ρ' := [(4, _)]) ⟨rfl, trivial⟩ ?_
 have hrd : (Cod.cnt k b w) = ((Cod.rd 0 (Cod.dec b) b w).1, (Cod.rd 0 (Cod.dec b) b w).2.1, (Cod.rd 0 (Cod.dec b) b w).2.2) := Cod.cnt_good (by omega) (by omega)
 refine H_ret1 Tryz.results57 (.tmp rfl) (fun w hA => ⟨y10, congrArg Ending.returned ?_, ?_, ?_⟩)
 ·(rw [hrd])
 ·trivial
 ·(rw [hrd]; exact hA.keep (m := [yy, yy]) (Y := [_, _]) rfl)
theorem cEnd_spec (T : TypeId) (g : Nat) (b : List UInt8) (w : Bool) (a : Option Addr) (c : Nat)  : Spec Tryz.prog 62 #[.pointer (some ⟨g, 0, none⟩)] [.loc g [.slice a (b.length) c, .bool (w)] T, .dat kByte.sl (b) [.slice a (b.length) c]] (β := Unit) (fun y => .bool ((Cod.rend b w))) (fun y => True) (fun y => [.loc g [.slice a (b.length) c, .bool (w)] T]) := by
 refine Spec.enter (vs := [_]) Tryz.func62 rfl Tryz.ntmps62 rfl (Nat.le_of_ble_eq_true rfl) (fun w0 ok0 => ?_)
 generalize hM0 : blks _ = M0
 refine H_seq ?_
 refine H_region (l := [_]) rfl ?_
 refine HO_assign rfl rfl rfl ?_
 refine HO_nil ?_
 refine H_env (ρ' := [(0, _)]) ⟨rfl, trivial⟩ ?_
 refine H_seq ?_
 refine H_region (l := [_, _, _, _, _, _, _, _, _, _, _, _, _, _, _, _, _, _]) rfl ?_
 refine HO_move rfl rfl rfl ?_
 refine HO_bin (r := .bool true) rfl rfl rfl rfl (bin_ptr_ne_pn Tryz.runUnderlying84) ?_
 iterate 2 refine HO_move rfl rfl rfl ?_
 refine HO_nilCheck rfl rfl rfl ?_
 refine HO_fieldAddr (r := 1) rfl rfl rfl Tryz.underlying56 rfl Tryz.sizeOf4 rfl ?_
 refine HO_load1 (i := 0) (j := 1) rfl rfl rfl Tryz.isAgg4 rfl (.loc _ _ _) rfl rfl ?_
 refine HO_not rfl rfl rfl ?_
 refine HO_pick_t rfl rfl rfl rfl ?_
 refine HO_move rfl rfl rfl ?_
 refine HO_split (d := 12) rfl ?_ ?_
 ·intro h12
  replace h12 := nT h12
  refine HO_move rfl rfl rfl ?_
  refine HO_nilCheck rfl rfl rfl ?_
  refine HO_fieldAddr (r := 0) rfl rfl rfl Tryz.underlying56 rfl Tryz.sizeOf26 rfl ?_
  refine HO_load1 (i := 0) (j := 0) rfl rfl rfl Tryz.isAgg26 rfl (.loc _ _ _) rfl rfl ?_
  refine HO_bi rfl rfl rfl (bi_len_sl Tryz.underlying26) ?_
  refine HO_bin rfl rfl rfl rfl bin_eql ?_
  refine HO_pick_t rfl rfl rfl rfl ?_
  refine HO_assign rfl rfl rfl ?_
  refine HO_nil ?_
  refine H_env (ρ' := [(2, _)]) ⟨rfl, trivial⟩ ?_
  refine H_ret1 Tryz.results62 (.tmp rfl) (fun w hA => ⟨(), congrArg Ending.returned ?_, ?_, ?_⟩)
  ·(first | exact congrArg Value.bool (Cod.rend_t h12) | exact congrArg Value.bool (Cod.rend_f h12) | exact congrArg Value.bool (Cod.rend_t h8) | exact congrArg Value.bool (Cod.rend_f h8))
  ·trivial
  ·exact hA.keep (m := [yy, nn]) (Y := [_]) rfl
 intro h12
 replace h12 := nF h12
 iterate 6 refine HO_no rfl rfl rfl ?_
 refine HO_pick_f rfl rfl rfl rfl ?_
 refine HO_assign rfl rfl rfl ?_
 refine HO_nil ?_
 refine H_env (ρ' := [(2, _)]) ⟨rfl, trivial⟩ ?_
 refine H_ret1 Tryz.results62 (.tmp rfl) (fun w hA => ⟨(), congrArg Ending.returned ?_, ?_, ?_⟩)
 ·(first | exact congrArg Value.bool (Cod.rend_t h12) | exact congrArg Value.bool (Cod.rend_f h12) | exact congrArg Value.bool (Cod.rend_t h8) | exact congrArg Value.bool (Cod.rend_f h8))
 ·trivial
 ·exact hA.keep (m := [yy, nn]) (Y := [_]) rfl
theorem rEnd_spec (T : TypeId) (g : Nat) (b : List UInt8) (w : Bool) (a : Option Addr) (c : Nat)  : Spec Tryz.prog 30 #[.pointer (some ⟨g, 0, none⟩)] [.loc g [.slice a (b.length) c, .bool (w)] T, .dat kByte.sl (b) [.slice a (b.length) c]] (β := Unit) (fun y => .bool ((Cod.rend b w))) (fun y => True) (fun y => [.loc g [.slice a (b.length) c, .bool (w)] T]) := by
 refine Spec.enter (vs := [_]) Tryz.func30 rfl Tryz.ntmps30 rfl (Nat.le_of_ble_eq_true rfl) (fun w0 ok0 => ?_)
 generalize hM0 : blks _ = M0
 refine H_seq ?_
 refine H_region (l := [_]) rfl ?_
 refine HO_assign rfl rfl rfl ?_
 refine HO_nil ?_
 refine H_env (ρ' := [(0, _)]) ⟨rfl, trivial⟩ ?_
 refine H_seq ?_
 refine H_region (l := [_, _, _, _, _, _, _, _, _, _, _, _, _, _]) rfl ?_
 refine HO_move rfl rfl rfl ?_
 refine HO_nilCheck rfl rfl rfl ?_
 refine HO_fieldAddr (r := 1) rfl rfl rfl Tryz.underlying64 rfl Tryz.sizeOf4 rfl ?_
 refine HO_load1 (i := 0) (j := 1) rfl rfl rfl Tryz.isAgg4 rfl (.loc _ _ _) rfl rfl ?_
 refine HO_not rfl rfl rfl ?_
 refine HO_move rfl rfl rfl ?_
 refine HO_split (d := 8) rfl ?_ ?_
 ·intro h8
  replace h8 := nT h8
  refine HO_move rfl rfl rfl ?_
  refine HO_nilCheck rfl rfl rfl ?_
  refine HO_fieldAddr (r := 0) rfl rfl rfl Tryz.underlying64 rfl Tryz.sizeOf26 rfl ?_
  refine HO_load1 (i := 0) (j := 0) rfl rfl rfl Tryz.isAgg26 rfl (.loc _ _ _) rfl rfl ?_
  refine HO_bi rfl rfl rfl (bi_len_sl Tryz.underlying26) ?_
  refine HO_bin rfl rfl rfl rfl bin_eql ?_
  refine HO_pick_t rfl rfl rfl rfl ?_
  refine HO_assign rfl rfl rfl ?_
  refine HO_nil ?_
  refine H_env (ρ' := [(2, _)]) ⟨rfl, trivial⟩ ?_
  refine H_ret1 Tryz.results30 (.tmp rfl) (fun w hA => ⟨(), congrArg Ending.returned ?_, ?_, ?_⟩)
  ·(first | exact congrArg Value.bool (Cod.rend_t h12) | exact congrArg Value.bool (Cod.rend_f h12) | exact congrArg Value.bool (Cod.rend_t h8) | exact congrArg Value.bool (Cod.rend_f h8))
  ·trivial
  ·exact hA.keep (m := [yy, nn]) (Y := [_]) rfl
 intro h8
 replace h8 := nF h8
 iterate 6 refine HO_no rfl rfl rfl ?_
 refine HO_pick_f rfl rfl rfl rfl ?_
 refine HO_assign rfl rfl rfl ?_
 refine HO_nil ?_
 refine H_env (ρ' := [(2, _)]) ⟨rfl, trivial⟩ ?_
 refine H_ret1 Tryz.results30 (.tmp rfl) (fun w hA => ⟨(), congrArg Ending.returned ?_, ?_, ?_⟩)
 ·(first | exact congrArg Value.bool (Cod.rend_t h12) | exact congrArg Value.bool (Cod.rend_f h12) | exact congrArg Value.bool (Cod.rend_t h8) | exact congrArg Value.bool (Cod.rend_f h8))
 ·trivial
 ·exact hA.keep (m := [yy, nn]) (Y := [_]) rfl
theorem rpass_spec (T : TypeId) (g : Nat) (b : List UInt8) (w : Bool) (a : Option Addr) (c : Nat) (n : Nat) (hn : n ≤ b.length) : Spec Tryz.prog 66 #[.pointer (some ⟨g, 0, none⟩), .int .i64 ((n : Int))] [.loc g [.slice a (b.length) c, .bool (w)] T, .dat kByte.sl (b) [.slice a (b.length) c]] (β := Option Addr × Nat) (fun y => .bool ((Cod.ps n b w).1)) (fun y => True) (fun y => [.loc g [.slice y.1 (((Cod.ps n b w).2.1).length) y.2, .bool ((Cod.ps n b w).2.2)] T, .dat kByte.sl ((Cod.ps n b w).2.1) [.slice y.1 (((Cod.ps n b w).2.1).length) y.2]]) := by
 refine Spec.enter (vs := [_, _]) Tryz.func66 rfl Tryz.ntmps66 rfl (Nat.le_of_ble_eq_true rfl) (fun w0 ok0 => ?_)
 generalize hM0 : blks _ = M0
 refine H_seq ?_
 refine H_region (l := [_]) rfl ?_
 refine HO_assign rfl rfl rfl ?_
 refine HO_nil ?_
 refine H_env (ρ' := [(0, _), (1, _)]) ⟨rfl, rfl, trivial⟩ ?_
 refine H_seq ?_
 refine H_seq ?_
 refine H_region (l := [_, _, _, _, _, _, _, _]) rfl ?_
 refine HO_move rfl rfl rfl ?_
 refine HO_nilCheck rfl rfl rfl ?_
 refine HO_fieldAddr (r := 1) rfl rfl rfl Tryz.underlying64 rfl Tryz.sizeOf4 rfl ?_
 refine HO_load1 (i := 0) (j := 1) rfl rfl rfl Tryz.isAgg4 rfl (.loc _ _ _) rfl rfl ?_
 refine HO_move rfl rfl rfl ?_
 refine HO_split (d := 9) rfl ?_ ?_
 ·intro h9
  subst h9
  iterate 2 refine HO_no rfl rfl rfl ?_
  refine HO_pick_t rfl rfl rfl rfl ?_
  refine HO_nil ?_
  refine H_env (ρ' := [(12, _), (0, _), (1, _)]) ⟨rfl, rfl, rfl, trivial⟩ ?_
  refine H_cond rfl (fun _ => ?_) (fun h => nomatch h)
  refine H_seq ?_
  refine H_region (l := [_, _, _, _]) rfl ?_
  refine HO_move rfl rfl rfl ?_
  refine HO_nilCheck rfl rfl rfl ?_
  refine HO_fieldAddr (r := 1) rfl rfl rfl Tryz.underlying64 rfl Tryz.sizeOf4 rfl ?_
  refine HO_store (i := 0) (j := 0) (us := [_]) (old := [_]) (ts := []) (cs := [_]) (R := [_]) (new := [_, _]) rfl rfl rfl Tryz.sizeOf4 rfl (by simp [Value.oneCell']) rfl rfl rfl rfl rfl rfl ?_
  refine HO_nil ?_
  refine H_env (ρ' := [(0, _)]) ⟨rfl, trivial⟩ ?_
  refine H_seq ?_
  refine H_region (l := [_, _, _, _]) rfl ?_
  refine HO_move rfl rfl rfl ?_
  refine HO_nilCheck rfl rfl rfl ?_
  refine HO_fieldAddr (r := 0) rfl rfl rfl Tryz.underlying64 rfl Tryz.sizeOf26 rfl ?_
  refine HO_store (i := 0) (j := 0) (us := []) (old := [_]) (ts := [_]) (cs := [_]) (R := [_]) (new := [_, _]) rfl rfl rfl Tryz.sizeOf26 rfl (by simp [Value.oneCell']) rfl rfl rfl rfl rfl rfl ?_
  refine HO_nil ?_
  refine H_env (ρ' := []) trivial ?_
  refine H_world (fun _ hA => hA.keep (m := [yy, nn]) (Y := [_]) rfl) ?_
  refine H_seq ?_
  refine H_region (l := [_]) rfl ?_
  refine HO_assign rfl rfl rfl ?_
  refine HO_nil ?_
  have hrd : Cod.ps n b true = (false, [], true) := Cod.ps_bad (.inl rfl)
  refine H_nilDat kByte ?_
  refine H_ret1 Tryz.results66 (.tmp rfl) (fun w hA => ⟨(none, 0), congrArg Ending.returned ?_, ?_, ?_⟩)
  ·(rw [hrd] <;> rfl)
  ·trivial
  ·(rw [hrd]; exact hA.only (is := [0, 0]) (Z := []) rfl)
 intro h9
 subst h9
 refine HO_move rfl rfl rfl ?_
 refine HO_bin rfl rfl rfl rfl bin_eql ?_
 refine HO_pick_f rfl rfl rfl rfl ?_
 refine HO_nil ?_
 refine H_env (ρ' := [(12, _), (0, _), (1, _)]) ⟨rfl, rfl, rfl, trivial⟩ ?_
 refine H_cond rfl ?_ ?_
 ·intro h12
  replace h12 := dT h12
  refine H_seq ?_
  refine H_region (l := [_, _, _, _]) rfl ?_
  refine HO_move rfl rfl rfl ?_
  refine HO_nilCheck rfl rfl rfl ?_
  refine HO_fieldAddr (r := 1) rfl rfl rfl Tryz.underlying64 rfl Tryz.sizeOf4 rfl ?_
  refine HO_store (i := 0) (j := 0) (us := [_]) (old := [_]) (ts := []) (cs := [_]) (R := [_]) (new := [_, _]) rfl rfl rfl Tryz.sizeOf4 rfl (by simp [Value.oneCell']) rfl rfl rfl rfl rfl rfl ?_
  refine HO_nil ?_
  refine H_env (ρ' := [(0, _)]) ⟨rfl, trivial⟩ ?_
  refine H_seq ?_
  refine H_region (l := [_, _, _, _]) rfl ?_
  refine HO_move rfl rfl rfl ?_
  refine HO_nilCheck rfl rfl rfl ?_
  refine HO_fieldAddr (r := 0) rfl rfl rfl Tryz.underlying64 rfl Tryz.sizeOf26 rfl ?_
  refine HO_store (i := 0) (j := 0) (us := []) (old := [_]) (ts := [_]) (cs := [_]) (R := [_]) (new := [_, _]) rfl rfl rfl Tryz.sizeOf26 rfl (by simp [Value.oneCell']) rfl rfl rfl rfl rfl rfl ?_
  refine HO_nil ?_
  refine H_env (ρ' := []) trivial ?_
  refine H_world (fun _ hA => hA.keep (m := [yy, nn]) (Y := [_]) rfl) ?_
  refine H_seq ?_
  refine H_region (l := [_]) rfl ?_
  refine HO_assign rfl rfl rfl ?_
  refine HO_nil ?_
  have hrd : Cod.ps n b false = (false, [], true) := Cod.ps_bad (.inr (by omega))
  refine H_nilDat kByte ?_
  refine H_ret1 Tryz.results66 (.tmp rfl) (fun w hA => ⟨(none, 0), congrArg Ending.returned ?_, ?_, ?_⟩)
  ·(rw [hrd] <;> rfl)
  ·trivial
  ·(rw [hrd]; exact hA.only (is := [0, 0]) (Z := []) rfl)
 intro h12
 replace h12 := dF h12
 refine H_skip ?_
 refine H_seq ?_
 refine H_region (l := [_, _, _, _, _, _, _, _, _, _]) rfl ?_
 iterate 2 refine HO_move rfl rfl rfl ?_
 refine HO_nilCheck rfl rfl rfl ?_
 refine HO_fieldAddr (r := 0) rfl rfl rfl Tryz.underlying64 rfl Tryz.sizeOf26 rfl ?_
 refine HO_load1 (i := 0) (j := 0) rfl rfl rfl Tryz.isAgg26 rfl (.loc _ _ _) rfl rfl ?_
 refine HO_move rfl rfl rfl ?_
 refine HO_slice_l (i := 1) (l := n) rfl rfl rfl rfl ?_ Tryz.underlying26 Tryz.sizeOf5 rfl ?_ ?_
 ·omega
 ·omega
 intro a25 c25
 refine HO_nilCheck rfl rfl rfl ?_
 refine HO_fieldAddr (r := 0) rfl rfl rfl Tryz.underlying64 rfl Tryz.sizeOf26 rfl ?_
 refine HO_store (i := 1) (j := 0) (us := []) (old := [_]) (ts := [_]) (cs := [_]) (R := [_, _]) (new := [_, _]) rfl rfl rfl Tryz.sizeOf26 rfl (by simp [Value.oneCell']) rfl rfl rfl rfl rfl rfl ?_
 refine HO_nil ?_
 refine H_env (ρ' := []) trivial ?_
 refine H_world (fun _ hA => hA.keep (m := [yy, yy, nn]) (Y := [_, _]) rfl) ?_
 refine H_seq ?_
 refine H_region (l := [_]) rfl ?_
 refine HO_assign rfl rfl rfl ?_
 refine HO_nil ?_
 have hrd : Cod.ps n b false = (true, b.drop n, false) := Cod.ps_good rfl (by omega)
 refine H_ret1 Tryz.results66 (.tmp rfl) (fun w hA => ⟨(a25, c25), congrArg Ending.returned ?_, ?_, ?_⟩)
 ·(rw [hrd] <;> rfl)
 ·trivial
 ·(rw [hrd]; exact hA.keep (m := [yy, yy]) (Y := [_, _]) rfl)
theorem rNum_spec (T : TypeId) (g : Nat) (b : List UInt8) (w : Bool) (a : Option Addr) (c : Nat)  : Spec Tryz.prog 64 #[.pointer (some ⟨g, 0, none⟩)] [.loc g [.slice a (b.length) c, .bool (w)] T, .dat kByte.sl (b) [.slice a (b.length) c]] (β := Option Addr × Nat) (fun y => .int .u64 (((Cod.rd 0 (Cod.dec b) b w).1 : Int))) (fun y => True) (fun y => [.loc g [.slice y.1 (((Cod.rd 0 (Cod.dec b) b w).2.1).length) y.2, .bool ((Cod.rd 0 (Cod.dec b) b w).2.2)] T, .dat kByte.sl ((Cod.rd 0 (Cod.dec b) b w).2.1) [.slice y.1 (((Cod.rd 0 (Cod.dec b) b w).2.1).length) y.2]]) := by
 have hlen := Cod.dec_len b
 refine Spec.enter (vs := [_]) Tryz.func64 rfl Tryz.ntmps64 rfl (Nat.le_of_ble_eq_true rfl) (fun w0 ok0 => ?_)
 generalize hM0 : blks _ = M0
 refine H_seq ?_
 refine H_region (l := [_]) rfl ?_
 refine HO_assign rfl rfl rfl ?_
 refine HO_nil ?_
 refine H_env (ρ' := [(0, _)]) ⟨rfl, trivial⟩ ?_
 refine H_seq ?_
 refine H_region (l := [_, _, _, _, _, _, _, _, _, _]) rfl ?_
 refine HO_move rfl rfl rfl ?_
 refine HO_nilCheck rfl rfl rfl ?_
 refine HO_fieldAddr (r := 0) rfl rfl rfl Tryz.underlying64 rfl Tryz.sizeOf26 rfl ?_
 refine HO_load1 (i := 0) (j := 0) rfl rfl rfl Tryz.isAgg26 rfl (.loc _ _ _) rfl rfl ?_
 refine HO_dup (i := 1) rfl rfl ?_
 refine HO_call (first := []) (capt := []) (is := [0]) (R := [_, _]) rfl rfl rfl rfl rfl Tryz.call93 rfl (rGet_spec _ _ _) ?_
 intro y10 hy10
 clear y10 hy10
 refine HO_move rfl rfl rfl ?_
 refine HO_extract (vs := [_, _]) rfl rfl rfl rfl ?_
 refine HO_extract (vs := [_, _]) rfl rfl rfl rfl ?_
 iterate 2 refine HO_assign rfl rfl rfl ?_
 refine HO_nil ?_
 refine H_env (ρ' := [(4, _), (3, _), (0, _)]) ⟨rfl, rfl, rfl, trivial⟩ ?_
 refine H_seq ?_
 refine H_seq ?_
 refine H_region (l := [_, _, _, _]) rfl ?_
 iterate 2 refine HO_move rfl rfl rfl ?_
 refine HO_dup (i := 1) rfl rfl ?_
 refine HO_call (first := []) (capt := []) (is := [0, 0]) (R := [_]) rfl rfl rfl rfl rfl Tryz.call66 rfl (rpass_spec _ _ _ _ _ _ _ ?_) ?_
 ·exact hlen
 intro y15 hy15
 refine HO_not rfl rfl rfl ?_
 refine HO_nil ?_
 refine H_env (ρ' := [(16, _), (3, _)]) ⟨rfl, rfl, trivial⟩ ?_
 refine H_world (fun _ hA => hA.keep (m := [yy, yy, nn]) (Y := [_, _]) rfl) ?_
 refine H_cond rfl ?_ ?_
 ·intro h16
  replace h16 := nT h16
  refine H_seq ?_
  refine H_region (l := [_]) rfl ?_
  refine HO_assign rfl rfl rfl ?_
  refine HO_nil ?_
  refine H_env (ρ' := [(2, _)]) ⟨rfl, trivial⟩ ?_
  have hrd : (Cod.rd 0 (Cod.dec b) b w) = (0, (Cod.ps (Cod.dec b).2 b w).2.1, (Cod.ps (Cod.dec b).2 b w).2.2) := by rw [Cod.rd_ps, h16]; rfl
  refine H_ret1 Tryz.results64 (.tmp rfl) (fun w hA => ⟨y15, congrArg Ending.returned ?_, ?_, ?_⟩)
  ·(rw [hrd] <;> rfl)
  ·trivial
  ·(rw [hrd]; exact hA.keep (m := [yy, yy]) (Y := [_, _]) rfl)
 intro h16
 replace h16 := nF h16
 refine H_skip ?_
 refine H_seq ?_
 refine H_region (l := [_, _]) rfl ?_
 refine HO_move rfl rfl rfl ?_
 refine HO_assign rfl rfl rfl ?_
 refine HO_nil ?_
 refine H_env (ρ' := [(2, _)]) ⟨rfl, trivial⟩ ?_
 have hrd : (Cod.rd 0 (Cod.dec b) b w) = ((Cod.dec b).1, (Cod.ps (Cod.dec b).2 b w).2.1, (Cod.ps (Cod.dec b).2 b w).2.2) := by rw [Cod.rd_ps, h16]; rfl
 refine H_ret1 Tryz.results64 (.tmp rfl) (fun w hA => ⟨y15, congrArg Ending.returned ?_, ?_, ?_⟩)
 ·(rw [hrd] <;> rfl)
 ·trivial
 ·(rw [hrd]; exact hA.keep (m := [yy, yy]) (Y := [_, _]) rfl)
theorem rText_spec (T : TypeId) (g : Nat) (b : List UInt8) (w : Bool) (a : Option Addr) (c : Nat) (hb : b.length ≤ 1099511627776) : Spec Tryz.prog 68 #[.pointer (some ⟨g, 0, none⟩)] [.loc g [.slice a (b.length) c, .bool (w)] T, .dat kByte.sl (b) [.slice a (b.length) c]] (β := Option Addr × Nat) (fun y => .string (⟨(Cod.rd [] (Cod.decT b) b w).1.toArray⟩)) (fun y => True) (fun y => [.loc g [.slice y.1 (((Cod.rd [] (Cod.decT b) b w).2.1).length) y.2, .bool ((Cod.rd [] (Cod.decT b) b w).2.2)] T, .dat kByte.sl ((Cod.rd [] (Cod.decT b) b w).2.1) [.slice y.1 (((Cod.rd [] (Cod.decT b) b w).2.1).length) y.2]]) := by
 have hlen := Cod.decT_len b
 refine Spec.enter (vs := [_]) Tryz.func68 rfl Tryz.ntmps68 rfl (Nat.le_of_ble_eq_true rfl) (fun w0 ok0 => ?_)
 generalize hM0 : blks _ = M0
 refine H_seq ?_
 refine H_region (l := [_]) rfl ?_
 refine HO_assign rfl rfl rfl ?_
 refine HO_nil ?_
 refine H_env (ρ' := [(0, _)]) ⟨rfl, trivial⟩ ?_
 refine H_seq ?_
 refine H_region (l := [_, _, _, _, _, _, _, _, _, _]) rfl ?_
 refine HO_move rfl rfl rfl ?_
 refine HO_nilCheck rfl rfl rfl ?_
 refine HO_fieldAddr (r := 0) rfl rfl rfl Tryz.underlying64 rfl Tryz.sizeOf26 rfl ?_
 refine HO_load1 (i := 0) (j := 0) rfl rfl rfl Tryz.isAgg26 rfl (.loc _ _ _) rfl rfl ?_
 refine HO_dup (i := 1) rfl rfl ?_
 refine HO_call (first := []) (capt := []) (is := [0]) (R := [_, _]) rfl rfl rfl rfl rfl Tryz.call94 rfl (rGetText_spec _ _ _ ?_) ?_
 ·(first | omega | assumption | decide)
 intro y10 hy10
 clear y10 hy10
 refine HO_move rfl rfl rfl ?_
 refine HO_extract (vs := [_, _]) rfl rfl rfl rfl ?_
 refine HO_extract (vs := [_, _]) rfl rfl rfl rfl ?_
 iterate 2 refine HO_assign rfl rfl rfl ?_
 refine HO_nil ?_
 refine H_env (ρ' := [(4, _), (3, _), (0, _)]) ⟨rfl, rfl, rfl, trivial⟩ ?_
 refine H_seq ?_
 refine H_seq ?_
 refine H_region (l := [_, _, _, _]) rfl ?_
 iterate 2 refine HO_move rfl rfl rfl ?_
 refine HO_dup (i := 1) rfl rfl ?_
 refine HO_call (first := []) (capt := []) (is := [0, 0]) (R := [_]) rfl rfl rfl rfl rfl Tryz.call66 rfl (rpass_spec _ _ _ _ _ _ _ ?_) ?_
 ·exact hlen
 intro y15 hy15
 refine HO_not rfl rfl rfl ?_
 refine HO_nil ?_
 refine H_env (ρ' := [(16, _), (3, _)]) ⟨rfl, rfl, trivial⟩ ?_
 refine H_world (fun _ hA => hA.keep (m := [yy, yy, nn]) (Y := [_, _]) rfl) ?_
 refine H_cond rfl ?_ ?_
 ·intro h16
  replace h16 := nT h16
  refine H_seq ?_
  refine H_region (l := [_]) rfl ?_
  refine HO_assign rfl rfl rfl ?_
  refine HO_nil ?_
  refine H_env (ρ' := [(2, _)]) ⟨rfl, trivial⟩ ?_
  have hrd : (Cod.rd [] (Cod.decT b) b w) = ([], (Cod.ps (Cod.decT b).2 b w).2.1, (Cod.ps (Cod.decT b).2 b w).2.2) := by rw [Cod.rd_ps, h16]; rfl
  refine H_ret1 Tryz.results68 (.tmp rfl) (fun w hA => ⟨y15, congrArg Ending.returned ?_, ?_, ?_⟩)
  ·(rw [hrd] <;> rfl)
  ·trivial
  ·(rw [hrd]; exact hA.keep (m := [yy, yy]) (Y := [_, _]) rfl)
 intro h16
 replace h16 := nF h16
 refine H_skip ?_
 refine H_seq ?_
 refine H_region (l := [_, _]) rfl ?_
 refine HO_move rfl rfl rfl ?_
 refine HO_assign rfl rfl rfl ?_
 refine HO_nil ?_
 refine H_env (ρ' := [(2, _)]) ⟨rfl, trivial⟩ ?_
 have hrd : (Cod.rd [] (Cod.decT b) b w) = ((Cod.decT b).1, (Cod.ps (Cod.decT b).2 b w).2.1, (Cod.ps (Cod.decT b).2 b w).2.2) := by rw [Cod.rd_ps, h16]; rfl
 refine H_ret1 Tryz.results68 (.tmp rfl) (fun w hA => ⟨y15, congrArg Ending.returned ?_, ?_, ?_⟩)
 ·(rw [hrd] <;> rfl)
 ·trivial
 ·(rw [hrd]; exact hA.keep (m := [yy, yy]) (Y := [_, _]) rfl)
theorem rBool_spec (T : TypeId) (g : Nat) (b : List UInt8) (w : Bool) (a : Option Addr) (c : Nat)  : Spec Tryz.prog 26 #[.pointer (some ⟨g, 0, none⟩)] [.loc g [.slice a (b.length) c, .bool (w)] T, .dat kByte.sl (b) [.slice a (b.length) c]] (β := Option Addr × Nat) (fun y => .bool ((Cod.rd false (Cod.decB b) b w).1)) (fun y => True) (fun y => [.loc g [.slice y.1 (((Cod.rd false (Cod.decB b) b w).2.1).length) y.2, .bool ((Cod.rd false (Cod.decB b) b w).2.2)] T, .dat kByte.sl ((Cod.rd false (Cod.decB b) b w).2.1) [.slice y.1 (((Cod.rd false (Cod.decB b) b w).2.1).length) y.2]]) := by
 have hlen := Cod.decB_len b
 refine Spec.enter (vs := [_]) Tryz.func26 rfl Tryz.ntmps26 rfl (Nat.le_of_ble_eq_true rfl) (fun w0 ok0 => ?_)
 generalize hM0 : blks _ = M0
 refine H_seq ?_
 refine H_region (l := [_]) rfl ?_
 refine HO_assign rfl rfl rfl ?_
 refine HO_nil ?_
 refine H_env (ρ' := [(0, _)]) ⟨rfl, trivial⟩ ?_
 refine H_seq ?_
 refine H_region (l := [_, _, _, _, _, _, _, _, _, _]) rfl ?_
 refine HO_move rfl rfl rfl ?_
 refine HO_nilCheck rfl rfl rfl ?_
 refine HO_fieldAddr (r := 0) rfl rfl rfl Tryz.underlying64 rfl Tryz.sizeOf26 rfl ?_
 refine HO_load1 (i := 0) (j := 0) rfl rfl rfl Tryz.isAgg26 rfl (.loc _ _ _) rfl rfl ?_
 refine HO_dup (i := 1) rfl rfl ?_
 refine HO_call (first := []) (capt := []) (is := [0]) (R := [_, _]) rfl rfl rfl rfl rfl Tryz.call65 rfl (rGetBool_spec _ _ _) ?_
 intro y10 hy10
 clear y10 hy10
 refine HO_move rfl rfl rfl ?_
 refine HO_extract (vs := [_, _]) rfl rfl rfl rfl ?_
 refine HO_extract (vs := [_, _]) rfl rfl rfl rfl ?_
 iterate 2 refine HO_assign rfl rfl rfl ?_
 refine HO_nil ?_
 refine H_env (ρ' := [(4, _), (3, _), (0, _)]) ⟨rfl, rfl, rfl, trivial⟩ ?_
 refine H_seq ?_
 refine H_region (l := [_, _, _, _, _, _, _]) rfl ?_
 iterate 2 refine HO_move rfl rfl rfl ?_
 refine HO_dup (i := 1) rfl rfl ?_
 refine HO_call (first := []) (capt := []) (is := [0, 0]) (R := [_]) rfl rfl rfl rfl rfl Tryz.call66 rfl (rpass_spec _ _ _ _ _ _ _ ?_) ?_
 ·exact hlen
 intro y15 hy15
 refine HO_move rfl rfl rfl ?_
 refine HO_split (d := 16) rfl ?_ ?_
 ·intro h16
  refine HO_move rfl rfl rfl ?_
  refine HO_pick_t rfl rfl rfl rfl ?_
  refine HO_assign rfl rfl rfl ?_
  refine HO_nil ?_
  refine H_env (ρ' := [(2, _)]) ⟨rfl, trivial⟩ ?_
  refine H_world (fun _ hA => hA.keep (m := [yy, yy, nn]) (Y := [_, _]) rfl) ?_
  have hrd : (Cod.rd false (Cod.decB b) b w) = ((Cod.decB b).1, (Cod.ps (Cod.decB b).2 b w).2.1, (Cod.ps (Cod.decB b).2 b w).2.2) := by rw [Cod.rd_ps, h16]; rfl
  refine H_ret1 Tryz.results26 (.tmp rfl) (fun w hA => ⟨y15, congrArg Ending.returned ?_, ?_, ?_⟩)
  ·(rw [hrd] <;> rfl)
  ·trivial
  ·(rw [hrd]; exact hA.keep (m := [yy, yy]) (Y := [_, _]) rfl)
 intro h16
 refine HO_no rfl rfl rfl ?_
 refine HO_pick_f rfl rfl rfl rfl ?_
 refine HO_assign rfl rfl rfl ?_
 refine HO_nil ?_
 refine H_env (ρ' := [(2, _)]) ⟨rfl, trivial⟩ ?_
 refine H_world (fun _ hA => hA.keep (m := [yy, yy, nn]) (Y := [_, _]) rfl) ?_
 have hrd : (Cod.rd false (Cod.decB b) b w) = (false, (Cod.ps (Cod.decB b).2 b w).2.1, (Cod.ps (Cod.decB b).2 b w).2.2) := by rw [Cod.rd_ps, h16]; rfl
 refine H_ret1 Tryz.results26 (.tmp rfl) (fun w hA => ⟨y15, congrArg Ending.returned ?_, ?_, ?_⟩)
 ·(rw [hrd] <;> rfl)
 ·trivial
 ·(rw [hrd]; exact hA.keep (m := [yy, yy]) (Y := [_, _]) rfl)
theorem rInt_spec (T : TypeId) (g : Nat) (b : List UInt8) (w : Bool) (a : Option Addr) (c : Nat)  : Spec Tryz.prog 25 #[.pointer (some ⟨g, 0, none⟩)] [.loc g [.slice a (b.length) c, .bool (w)] T, .dat kByte.sl (b) [.slice a (b.length) c]] (β := Option Addr × Nat) (fun y => .int .i64 ((Cod.zag (Cod.rd 0 (Cod.dec b) b w).1))) (fun y => True) (fun y => [.loc g [.slice y.1 (((Cod.rd 0 (Cod.dec b) b w).2.1).length) y.2, .bool ((Cod.rd 0 (Cod.dec b) b w).2.2)] T, .dat kByte.sl ((Cod.rd 0 (Cod.dec b) b w).2.1) [.slice y.1 (((Cod.rd 0 (Cod.dec b) b w).2.1).length) y.2]]) := by
 refine Spec.enter (vs := [_]) Tryz.func25 rfl Tryz.ntmps25 rfl (Nat.le_of_ble_eq_true rfl) (fun w0 ok0 => ?_)
 generalize hM0 : blks _ = M0
 refine H_seq ?_
 refine H_region (l := [_]) rfl ?_
 refine HO_assign rfl rfl rfl ?_
 refine HO_nil ?_
 refine H_env (ρ' := [(0, _)]) ⟨rfl, trivial⟩ ?_
 refine H_seq ?_
 refine H_region (l := [_, _, _, _]) rfl ?_
 refine HO_move rfl rfl rfl ?_
 refine HO_dup (i := 1) rfl rfl ?_
 refine HO_call (first := []) (capt := []) (is := [0, 0]) (R := [_]) rfl rfl rfl rfl rfl Tryz.call64 rfl (rNum_spec _ _ _ _ _ _) ?_
 intro y4 hy4
 refine HO_call (first := []) (capt := []) (is := []) (R := [_, _, _]) rfl rfl rfl rfl rfl Tryz.call63 rfl (rzag_spec _ ?_) ?_
 ·(exact Cod.rd_lt b w)
 intro y5 hy5
 clear y5 hy5
 refine HO_assign rfl rfl rfl ?_
 refine HO_nil ?_
 refine H_env (ρ' := [(2, _)]) ⟨rfl, trivial⟩ ?_
 refine H_world (fun _ hA => hA.keep (m := [yy, yy, nn]) (Y := [_, _]) rfl) ?_
 refine H_ret1 Tryz.results25 (.tmp rfl) (fun w hA => ⟨y4, congrArg Ending.returned ?_, ?_, ?_⟩)
 ·rfl
 ·trivial
 ·exact hA.keep (m := [yy, yy]) (Y := [_, _]) rfl
theorem rCount_spec (T : TypeId) (g : Nat) (b : List UInt8) (w : Bool) (a : Option Addr) (c : Nat) (k : Int) (hk : -9223372036854775808 ≤ k ∧ k ≤ 9223372036854775807) : Spec Tryz.prog 27 #[.pointer (some ⟨g, 0, none⟩), .int .i64 (k)] [.loc g [.slice a (b.length) c, .bool (w)] T, .dat kByte.sl (b) [.slice a (b.length) c]] (β := Option Addr × Nat) (fun y => .int .i64 (((Cod.cnt k b w).1 : Int))) (fun y => True) (fun y => [.loc g [.slice y.1 (((Cod.cnt k b w).2.1).length) y.2, .bool ((Cod.cnt k b w).2.2)] T, .dat kByte.sl ((Cod.cnt k b w).2.1) [.slice y.1 (((Cod.cnt k b w).2.1).length) y.2]]) := by
 have hlt := Cod.rd_lt b w
 refine Spec.enter (vs := [_, _]) Tryz.func27 rfl Tryz.ntmps27 rfl (Nat.le_of_ble_eq_true rfl) (fun w0 ok0 => ?_)
 generalize hM0 : blks _ = M0
 refine H_seq ?_
 refine H_region (l := [_]) rfl ?_
 refine HO_assign rfl rfl rfl ?_
 refine HO_nil ?_
 refine H_env (ρ' := [(0, _), (1, _)]) ⟨rfl, rfl, trivial⟩ ?_
 refine H_seq ?_
 refine H_region (l := [_, _, _]) rfl ?_
 refine HO_move rfl rfl rfl ?_
 refine HO_dup (i := 1) rfl rfl ?_
 refine HO_call (first := []) (capt := []) (is := [0, 0]) (R := [_]) rfl rfl rfl rfl rfl Tryz.call64 rfl (rNum_spec _ _ _ _ _ _) ?_
 intro y7 hy7
 refine HO_assign rfl rfl rfl ?_
 refine HO_nil ?_
 refine H_env (ρ' := [(5, _), (0, _), (1, _)]) ⟨rfl, rfl, rfl, trivial⟩ ?_
 refine H_world (fun _ hA => hA.keep (m := [yy, yy, nn]) (Y := [_, _]) rfl) ?_
 refine H_seq ?_
 refine H_seq ?_
 refine H_region (l := [_, _, _, _, _, _, _, _]) rfl ?_
 refine HO_move rfl rfl rfl ?_
 refine HO_bin rfl rfl rfl rfl bin_lss ?_
 refine HO_move rfl rfl rfl ?_
 refine HO_split (d := 10) rfl ?_ ?_
 ·intro h10
  replace h10 := dT h10
  iterate 4 refine HO_no rfl rfl rfl ?_
  refine HO_pick_t rfl rfl rfl rfl ?_
  refine HO_nil ?_
  refine H_env (ρ' := [(15, _), (5, _), (0, _)]) ⟨rfl, rfl, rfl, trivial⟩ ?_
  refine H_cond rfl (fun _ => ?_) (fun h => nomatch h)
  refine H_seq ?_
  refine H_region (l := [_, _]) rfl ?_
  refine HO_move rfl rfl rfl ?_
  refine HO_dup (i := 1) rfl rfl ?_
  refine HO_call (first := []) (capt := []) (is := [0, 0]) (R := [_]) rfl rfl rfl rfl rfl Tryz.call66 rfl (rpass_spec _ _ _ _ _ _ _ ?_) ?_
  ·(exact Nat.zero_le _)
  intro y17 hy17
  refine HO_nil ?_
  refine H_env (ρ' := []) trivial ?_
  refine H_world (fun _ hA => hA.keep (m := [yy, yy, nn]) (Y := [_, _]) rfl) ?_
  refine H_seq ?_
  refine H_region (l := [_]) rfl ?_
  refine HO_assign rfl rfl rfl ?_
  refine HO_nil ?_
  have hrd : (Cod.cnt k b w) = (0, [], true) := Cod.cnt_bad (.inl (by omega))
  have hz := Cod.ps_bad (n := 0) (b := (Cod.rd 0 (Cod.dec b) b w).2.1) (w := (Cod.rd 0 (Cod.dec b) b w).2.2) (.inr rfl)
  refine H_ret1 Tryz.results27 (.tmp rfl) (fun w hA => ⟨(y17), congrArg Ending.returned ?_, ?_, ?_⟩)
  ·(rw [hrd] <;> rfl)
  ·trivial
  ·(rw [hrd]; rw [hz] at hA; exact hA.keep (m := [yy, yy]) (Y := [_, _]) rfl)
 intro h10
 replace h10 := dF h10
 iterate 2 refine HO_move rfl rfl rfl ?_
 refine HO_conv rfl rfl rfl (cv_int Tryz.underlying3 Tryz.underlying78 (wrap_u_i rfl _)) ?_
 refine HO_set (v' := .int .u64 (((k.toNat : Nat) : Int))) 13 rfl (by exact congrArg (Value.int .u64) (by simp only [IntKind.bits]; omega)) ?_
 refine HO_bin rfl rfl rfl rfl bin_gtr ?_
 refine HO_pick_f rfl rfl rfl rfl ?_
 refine HO_nil ?_
 refine H_env (ρ' := [(15, _), (5, _), (0, _)]) ⟨rfl, rfl, rfl, trivial⟩ ?_
 refine H_cond rfl ?_ ?_
 ·intro h15
  replace h15 := dT h15
  refine H_seq ?_
  refine H_region (l := [_, _]) rfl ?_
  refine HO_move rfl rfl rfl ?_
  refine HO_dup (i := 1) rfl rfl ?_
  refine HO_call (first := []) (capt := []) (is := [0, 0]) (R := [_]) rfl rfl rfl rfl rfl Tryz.call66 rfl (rpass_spec _ _ _ _ _ _ _ ?_) ?_
  ·(exact Nat.zero_le _)
  intro y17 hy17
  refine HO_nil ?_
  refine H_env (ρ' := []) trivial ?_
  refine H_world (fun _ hA => hA.keep (m := [yy, yy, nn]) (Y := [_, _]) rfl) ?_
  refine H_seq ?_
  refine H_region (l := [_]) rfl ?_
  refine HO_assign rfl rfl rfl ?_
  refine HO_nil ?_
  have hrd : (Cod.cnt k b w) = (0, [], true) := Cod.cnt_bad (.inr (by omega))
  have hz := Cod.ps_bad (n := 0) (b := (Cod.rd 0 (Cod.dec b) b w).2.1) (w := (Cod.rd 0 (Cod.dec b) b w).2.2) (.inr rfl)
  refine H_ret1 Tryz.results27 (.tmp rfl) (fun w hA => ⟨(y17), congrArg Ending.returned ?_, ?_, ?_⟩)
  ·(rw [hrd] <;> rfl)
  ·trivial
  ·(rw [hrd]; rw [hz] at hA; exact hA.keep (m := [yy, yy]) (Y := [_, _]) rfl)
 intro h15
 replace h15 := dF h15
 refine H_skip ?_
 refine H_seq ?_
 refine H_region (l := [_, _, _]) rfl ?_
 refine HO_move rfl rfl rfl ?_
 refine HO_conv rfl rfl rfl (cv_int Tryz.underlying78 Tryz.underlying3 (wrap_i64_nat ?_)) ?_
 ·omega
 refine HO_assign rfl rfl rfl ?_
 refine HO_nil ?_
 refine H_env (ρ' := [(4, _)]) ⟨rfl, trivial⟩ ?_
 have hrd : (Cod.cnt k b w) = ((Cod.rd 0 (Cod.dec b) b w).1, (Cod.rd 0 (Cod.dec b) b w).2.1, (Cod.rd 0 (Cod.dec b) b w).2.2) := Cod.cnt_good (by omega) (by omega)
 refine H_ret1 Tryz.results27 (.tmp rfl) (fun w hA => ⟨y7, congrArg Ending.returned ?_, ?_, ?_⟩)
 ·(rw [hrd])
 ·trivial
 ·(rw [hrd]; exact hA.keep (m := [yy, yy]) (Y := [_, _]) rfl)
end Go.Wk
