/- Contracts of the program's functions, each proved by walking its code. -/
import Derived.Test.YtondhngfjngngaaGreatKezcodec2
set_option maxRecDepth 100000
set_option linter.unusedVariables false
set_option linter.unusedSimpArgs false
namespace Go.Wk.Fcodec3
open Go Go.RowKit Go.Proofs Go.Wk

end Go.Wk.Fcodec3
namespace Go.Wk
open Go Go.RowKit Go.Proofs Fcodec3 
theorem GetText_spec (b : List UInt8) (a : Option Addr) (c : Nat) (hb : b.length ≤ 1099511627776) : Spec Tryz.prog 91 #[.slice a (b.length) c] [.dat kByte.sl (b) [.slice a (b.length) c]] (β := Unit) (fun y => .tuple #[.string (⟨(Cod.decT b).1.toArray⟩), .int .i64 (((Cod.decT b).2 : Int))]) (fun y => True) (fun y => []) := by
 have hlt := Cod.dec_lt b
 have hle := Cod.dec_len b
 have hu := Cod.decT.eq_1 b
 refine Spec.enter (vs := [_]) Tryz.func91 rfl Tryz.ntmps91 rfl (Nat.le_of_ble_eq_true rfl) (fun w0 ok0 => ?_)
 generalize hM0 : blks _ = M0
 have hMn := @noM _ _ hM0 (by simp [Atom.dat, Atom.elem])
 refine H_seq ?_
 refine H_region (l := [_, _]) rfl ?_
 iterate 2 refine HO_assign rfl rfl rfl ?_
 refine HO_nil ?_
 refine H_env (ρ' := [(0, _)]) ⟨rfl, trivial⟩ ?_
 refine H_seq ?_
 refine H_region (l := [_, _, _, _, _, _, _]) rfl ?_
 refine HO_move rfl rfl rfl ?_
 refine HO_dup (i := 0) rfl rfl ?_
 refine HO_call (first := []) (capt := []) (is := [0]) (R := [_]) rfl rfl rfl rfl rfl Tryz.call89 rfl (Get_spec _ _ _) ?_
 intro y9 hy9
 clear y9 hy9
 refine HO_move rfl rfl rfl ?_
 refine HO_extract (vs := [_, _]) rfl rfl rfl rfl ?_
 refine HO_extract (vs := [_, _]) rfl rfl rfl rfl ?_
 iterate 2 refine HO_assign rfl rfl rfl ?_
 refine HO_nil ?_
 refine H_env (ρ' := [(5, _), (4, _), (0, _)]) ⟨rfl, rfl, rfl, trivial⟩ ?_
 refine H_seq ?_
 refine H_seq ?_
 refine H_region (l := [_, _, _, _, _, _, _, _, _, _, _]) rfl ?_
 refine HO_move rfl rfl rfl ?_
 refine HO_bin rfl rfl rfl rfl bin_eql ?_
 refine HO_move rfl rfl rfl ?_
 refine HO_split (d := 14) rfl ?_ ?_
 ·intro h14
  replace h14 := dT h14
  iterate 7 refine HO_no rfl rfl rfl ?_
  refine HO_pick_t rfl rfl rfl rfl ?_
  refine HO_nil ?_
  refine H_env (ρ' := [(22, _), (5, _), (4, _), (0, _)]) ⟨rfl, rfl, rfl, rfl, trivial⟩ ?_
  refine H_cond rfl (fun _ => ?_) (fun h => nomatch h)
  refine H_seq ?_
  refine H_region (l := [_, _]) rfl ?_
  iterate 2 refine HO_assign rfl rfl rfl ?_
  refine HO_nil ?_
  refine H_env (ρ' := [(3, _), (2, _)]) ⟨rfl, rfl, trivial⟩ ?_
  refine H_world (fun _ hA => hA.keep (m := [nn]) (Y := []) rfl) ?_
  refine H_ret2 Tryz.results91 (.tmp rfl) (.tmp rfl) (fun w hA => ⟨(), congrArg Ending.returned ?_, ?_, ?_⟩)
  ·(rw [hu, if_pos (by omega)]; rfl)
  ·trivial
  ·exact hA.keep (m := []) (Y := []) rfl
 intro h14
 replace h14 := dF h14
 iterate 2 refine HO_move rfl rfl rfl ?_
 refine HO_bi rfl rfl rfl (bi_len_sl Tryz.underlying26) ?_
 refine HO_move rfl rfl rfl ?_
 refine HO_bin rfl rfl rfl rfl (bin_sub ?_ ?_) ?_
 ·omega
 ·omega
 refine HO_conv rfl rfl rfl (cv_int Tryz.underlying3 Tryz.underlying78 (wrap_u_i rfl _)) ?_
 refine HO_set (v' := .int .u64 (((b.length - (Cod.dec b).2 : Nat) : Int))) 20 rfl (by exact congrArg (Value.int .u64) (by simp only [IntKind.bits]; omega)) ?_
 refine HO_bin rfl rfl rfl rfl bin_gtr ?_
 refine HO_pick_f rfl rfl rfl rfl ?_
 refine HO_nil ?_
 refine H_env (ρ' := [(22, _), (5, _), (4, _), (0, _)]) ⟨rfl, rfl, rfl, rfl, trivial⟩ ?_
 refine H_cond rfl ?_ ?_
 ·intro h22
  replace h22 := dT h22
  skip
  refine H_seq ?_
  refine H_region (l := [_, _]) rfl ?_
  iterate 2 refine HO_assign rfl rfl rfl ?_
  refine HO_nil ?_
  refine H_env (ρ' := [(3, _), (2, _)]) ⟨rfl, rfl, trivial⟩ ?_
  refine H_world (fun _ hA => hA.keep (m := [nn]) (Y := []) rfl) ?_
  refine H_ret2 Tryz.results91 (.tmp rfl) (.tmp rfl) (fun w hA => ⟨(), congrArg Ending.returned ?_, ?_, ?_⟩)
  ·(rw [hu, if_pos (by omega)]; rfl)
  ·trivial
  ·exact hA.keep (m := []) (Y := []) rfl
 intro h22
 replace h22 := dF h22
 refine H_skip ?_
 refine H_seq ?_
 refine H_region (l := [_, _, _, _, _]) rfl ?_
 iterate 2 refine HO_move rfl rfl rfl ?_
 refine HO_conv rfl rfl rfl (cv_int Tryz.underlying78 Tryz.underlying3 (wrap_i64_nat ?_)) ?_
 ·omega
 refine HO_bin rfl rfl rfl rfl (bin_add ?_ ?_) ?_
 ·omega
 ·omega
 refine HO_assign rfl rfl rfl ?_
 refine HO_nil ?_
 refine H_env (ρ' := [(6, _), (5, _), (0, _)]) ⟨rfl, rfl, rfl, trivial⟩ ?_
 refine H_seq ?_
 refine H_region (l := [_, _, _, _, _, _, _, _]) rfl ?_
 iterate 3 refine HO_move rfl rfl rfl ?_
 refine HO_slice_lh (i := 0) (l := (Cod.dec b).2) (h' := (Cod.dec b).2 + (Cod.dec b).1) rfl rfl rfl rfl rfl ?_ ?_ Tryz.underlying26 Tryz.sizeOf5 rfl ?_ ?_ ?_
 ·omega
 ·omega
 ·omega
 ·omega
 intro a30 c30
 refine HO_bytesStr (i := 0) rfl rfl rfl Tryz.underlying26 Tryz.underlying9 Tryz.underlying5 rfl ?_
 refine HO_move rfl rfl rfl ?_
 iterate 2 refine HO_assign rfl rfl rfl ?_
 refine HO_nil ?_
 refine H_env (ρ' := [(3, _), (2, _)]) ⟨rfl, rfl, trivial⟩ ?_
 refine H_world (fun _ hA => hA.keep (m := [nn, nn]) (Y := []) rfl) ?_
 refine H_ret2 Tryz.results91 (.tmp rfl) (.tmp rfl) (fun w hA => ⟨(), congrArg Ending.returned ?_, ?_, ?_⟩)
 ·(rw [hu, if_neg (by omega)]; rfl)
 ·trivial
 ·exact hA.keep (m := []) (Y := []) rfl
theorem GetBool_spec (b : List UInt8) (a : Option Addr) (c : Nat)  : Spec Tryz.prog 56 #[.slice a (b.length) c] [.dat kByte.sl (b) [.slice a (b.length) c]] (β := Unit) (fun y => .tuple #[.bool ((Cod.decB b).1), .int .i64 (((Cod.decB b).2 : Int))]) (fun y => True) (fun y => []) := by
 refine Spec.enter (vs := [_]) Tryz.func56 rfl Tryz.ntmps56 rfl (Nat.le_of_ble_eq_true rfl) (fun w0 ok0 => ?_)
 generalize hM0 : blks _ = M0
 have hMn := @noM _ _ hM0 (by simp [Atom.dat, Atom.elem])
 refine H_seq ?_
 refine H_region (l := [_, _]) rfl ?_
 iterate 2 refine HO_assign rfl rfl rfl ?_
 refine HO_nil ?_
 refine H_env (ρ' := [(0, _)]) ⟨rfl, trivial⟩ ?_
 refine H_seq ?_
 refine H_seq ?_
 refine H_region (l := [_, _, _, _, _, _, _, _, _, _, _, _, _, _, _]) rfl ?_
 refine HO_move rfl rfl rfl ?_
 refine HO_bi rfl rfl rfl (bi_len_sl Tryz.underlying26) ?_
 refine HO_bin rfl rfl rfl rfl bin_eql ?_
 refine HO_move rfl rfl rfl ?_
 refine HO_split (d := 7) rfl ?_ ?_
 ·intro h7
  replace h7 := dT h7
  iterate 10 refine HO_no rfl rfl rfl ?_
  refine HO_pick_t rfl rfl rfl rfl ?_
  refine HO_nil ?_
  refine H_env (ρ' := [(18, _), (0, _)]) ⟨rfl, rfl, trivial⟩ ?_
  refine H_cond rfl (fun _ => ?_) (fun h => nomatch h)
  refine H_seq ?_
  refine H_region (l := [_, _]) rfl ?_
  iterate 2 refine HO_assign rfl rfl rfl ?_
  refine HO_nil ?_
  refine H_env (ρ' := [(3, _), (2, _)]) ⟨rfl, rfl, trivial⟩ ?_
  refine H_world (fun _ hA => hA.keep (m := [nn]) (Y := []) rfl) ?_
  obtain rfl : b = [] := List.eq_nil_of_length_eq_zero (by omega)
  refine H_ret2 Tryz.results56 (.tmp rfl) (.tmp rfl) (fun w hA => ⟨(), congrArg Ending.returned ?_, ?_, ?_⟩)
  ·rfl
  ·trivial
  ·exact hA.keep (m := []) (Y := []) rfl
 intro h7
 replace h7 := dF h7
 refine HO_move rfl rfl rfl ?_
 refine HO_indexAddr open_byte (i := 0) (j := 0) rfl rfl rfl rfl rfl Tryz.underlying26 Tryz.sizeOf5 rfl ?_ ?_
 ·omega
 intro b9 o9 z9 y9 hz9 hI9
 clear y9 hI9
 refine HO_load1 (i := 0) (j := 0) rfl rfl rfl Tryz.isAgg5 rfl (.elem _ _ _) rfl rfl ?_
 refine HO_bin rfl rfl rfl rfl bin_neq ?_
 refine HO_move rfl rfl rfl ?_
 refine HO_split (d := 12) rfl ?_ ?_
 ·intro h12
  replace h12 := dT h12
  refine HO_move rfl rfl rfl ?_
  refine HO_indexAddr open_byte (i := 1) (j := 0) rfl rfl rfl rfl rfl Tryz.underlying26 Tryz.sizeOf5 rfl ?_ ?_
  ·omega
  intro b14 o14 z14 y14 hz14 hI14
  clear y14 hI14
  refine HO_load1 (i := 0) (j := 0) rfl rfl rfl Tryz.isAgg5 rfl (.elem _ _ _) rfl rfl ?_
  refine HO_bin rfl rfl rfl rfl bin_neq ?_
  refine HO_pick_t rfl rfl rfl rfl ?_
  refine HO_pick_f rfl rfl rfl rfl ?_
  refine HO_nil ?_
  refine H_env (ρ' := [(18, _), (0, _)]) ⟨rfl, rfl, trivial⟩ ?_
  refine H_world (fun _ hA => hA.keep (m := [nn, nn, yy]) (Y := [_]) rfl) ?_
  refine H_cond rfl ?_ ?_
  ·intro h18
   replace h18 := dT h18
   refine H_seq ?_
   refine H_region (l := [_, _]) rfl ?_
   iterate 2 refine HO_assign rfl rfl rfl ?_
   refine HO_nil ?_
   refine H_env (ρ' := [(3, _), (2, _)]) ⟨rfl, rfl, trivial⟩ ?_
   refine H_world (fun _ hA => hA.keep (m := [nn]) (Y := []) rfl) ?_
   refine H_ret2 Tryz.results56 (.tmp rfl) (.tmp rfl) (fun w hA => ⟨(), congrArg Ending.returned ?_, ?_, ?_⟩)
   ·(first | (rw [Cod.getb_no hz9 hz14 h12 h18]; rfl) | (rw [Cod.getb_yes hz9 hz20 (.inl (by omega))]; rfl) | (rw [Cod.getb_yes hz14 hz20 (.inr (by omega))]; rfl))
   ·trivial
   ·exact hA.keep (m := []) (Y := []) rfl
  intro h18
  replace h18 := dF h18
  refine H_skip ?_
  refine H_seq ?_
  refine H_region (l := [_, _, _, _, _, _]) rfl ?_
  refine HO_move rfl rfl rfl ?_
  refine HO_indexAddr open_byte (i := 0) (j := 0) rfl rfl rfl rfl rfl Tryz.underlying26 Tryz.sizeOf5 rfl ?_ ?_
  ·omega
  intro b20 o20 z20 y20 hz20 hI20
  clear y20 hI20
  refine HO_load1 (i := 0) (j := 0) rfl rfl rfl Tryz.isAgg5 rfl (.elem _ _ _) rfl rfl ?_
  refine HO_bin rfl rfl rfl rfl bin_eql ?_
  iterate 2 refine HO_assign rfl rfl rfl ?_
  refine HO_nil ?_
  refine H_env (ρ' := [(3, _), (2, _)]) ⟨rfl, rfl, trivial⟩ ?_
  refine H_world (fun _ hA => hA.keep (m := [nn, nn]) (Y := []) rfl) ?_
  refine H_ret2 Tryz.results56 (.tmp rfl) (.tmp rfl) (fun w hA => ⟨(), congrArg Ending.returned ?_, ?_, ?_⟩)
  ·(first | (rw [Cod.getb_no hz9 hz14 h12 h18]; rfl) | (rw [Cod.getb_yes hz9 hz20 (.inl (by omega))]; rfl) | (rw [Cod.getb_yes hz14 hz20 (.inr (by omega))]; rfl))
  ·trivial
  ·exact hA.keep (m := []) (Y := []) rfl
 intro h12
 replace h12 := dF h12
 iterate 4 refine HO_no rfl rfl rfl ?_
 iterate 2 refine HO_pick_f rfl rfl rfl rfl ?_
 refine HO_nil ?_
 refine H_env (ρ' := [(18, _), (0, _)]) ⟨rfl, rfl, trivial⟩ ?_
 refine H_world (fun _ hA => hA.keep (m := [nn, yy]) (Y := [_]) rfl) ?_
 refine H_cond rfl (fun h => nomatch h) (fun _ => ?_)
 refine H_skip ?_
 refine H_seq ?_
 refine H_region (l := [_, _, _, _, _, _]) rfl ?_
 refine HO_move rfl rfl rfl ?_
 refine HO_indexAddr open_byte (i := 0) (j := 0) rfl rfl rfl rfl rfl Tryz.underlying26 Tryz.sizeOf5 rfl ?_ ?_
 ·omega
 intro b20 o20 z20 y20 hz20 hI20
 clear y20 hI20
 refine HO_load1 (i := 0) (j := 0) rfl rfl rfl Tryz.isAgg5 rfl (.elem _ _ _) rfl rfl ?_
 refine HO_bin rfl rfl rfl rfl bin_eql ?_
 iterate 2 refine HO_assign rfl rfl rfl ?_
 refine HO_nil ?_
 refine H_env (ρ' := [(3, _), (2, _)]) ⟨rfl, rfl, trivial⟩ ?_
 refine H_world (fun _ hA => hA.keep (m := [nn, nn]) (Y := []) rfl) ?_
 refine H_ret2 Tryz.results56 (.tmp rfl) (.tmp rfl) (fun w hA => ⟨(), congrArg Ending.returned ?_, ?_, ?_⟩)
 ·(first | (rw [Cod.getb_no hz9 hz14 h12 h18]; rfl) | (rw [Cod.getb_yes hz9 hz20 (.inl (by omega))]; rfl) | (rw [Cod.getb_yes hz14 hz20 (.inr (by omega))]; rfl))
 ·trivial
 ·exact hA.keep (m := []) (Y := []) rfl
end Go.Wk
