/- Contracts of the program's functions, each proved by walking its code. -/
import Derived.Test.YtdaphlemhmgncaaGreatBaseg
set_option maxRecDepth 100000
set_option linter.unusedVariables false
set_option linter.unusedSimpArgs false
namespace Go.Wk.Fcodec1
open Go Go.RowKit Go.Proofs Go.Wk

end Go.Wk.Fcodec1
namespace Go.Wk
open Go Go.RowKit Go.Proofs Fcodec1 
theorem rotl1_spec (u : Nat) (hu : u < 18446744073709551616) : Spec Tryz.prog 123 #[.int .u64 (u),.int .i64 (1)] [] (β:=Unit) (fun y => .int .u64 (((u * 2 % 18446744073709551616 ||| u / 9223372036854775808 : Nat) : Int))) (fun y => True) (fun y => []):=by
 refine Spec.enter (vs:=[_,_]) Tryz.func123 rfl Tryz.ntmps123 rfl (Nat.le_of_ble_eq_true rfl) (fun w0 ok0 => ?_)
 generalize hM0 : blks _ = M0
 have hMn:=@noM _ _ hM0 (by simp [Atom.dat,Atom.elem])
 refine SQ (RG rfl (AS rfl (NI [0,1] [_,_] rfl (SQ (RG rfl (MV rfl (CV rfl (cv_int (r:=1) Tryz.underlying3 Tryz.underlying59 (by decide)) (BN (r:=.int .u64 (1)) rfl (bin_lit (by decide) (fun _ => rfl)) (AS rfl (NI [5,0] [_,_] rfl (SQ ?_)))))))))))
 refine RG rfl (MV rfl (MV rfl (BN rfl (bin_shl (s:=1) rfl) (MV rfl (MV rfl (BN (r:=.int .u64 (63)) rfl (bin_lit (by decide) (fun _ => rfl)) (BN rfl (bin_shr (s:=63) ?_) ?_)))))))
 ·(simp only [IntKind.bits];omega)
 refine BN rfl (bin_or rfl ?_ ?_) ?_
 ·(exact Nat.mod_lt _ (by decide))
 ·(simp only [IntKind.bits];omega)
 refine AS rfl (NI [4] [_] rfl (R1 Tryz.results123 () rfl (fun w hA => ⟨?_,?_,?_⟩)))
 ·rfl
 ·trivial
 ·exact hA.keep (m:=[]) (Y:=[]) rfl
theorem rotr1_spec (u : Nat) (hu : u < 18446744073709551616) : Spec Tryz.prog 123 #[.int .u64 (u),.int .i64 (-1)] [] (β:=Unit) (fun y => .int .u64 (((u * 9223372036854775808 % 18446744073709551616 ||| u / 2 : Nat) : Int))) (fun y => True) (fun y => []):=by
 refine Spec.enter (vs:=[_,_]) Tryz.func123 rfl Tryz.ntmps123 rfl (Nat.le_of_ble_eq_true rfl) (fun w0 ok0 => ?_)
 generalize hM0 : blks _ = M0
 have hMn:=@noM _ _ hM0 (by simp [Atom.dat,Atom.elem])
 refine SQ (RG rfl (AS rfl (NI [0,1] [_,_] rfl (SQ (RG rfl (MV rfl (CV rfl (cv_int (r:=18446744073709551615) Tryz.underlying3 Tryz.underlying59 (by decide)) (BN (r:=.int .u64 (63)) rfl (bin_lit (by decide) (fun _ => rfl)) (AS rfl (NI [5,0] [_,_] rfl (SQ ?_)))))))))))
 refine RG rfl (MV rfl (MV rfl (BN rfl (bin_shl (s:=63) rfl) (MV rfl (MV rfl (BN (r:=.int .u64 (1)) rfl (bin_lit (by decide) (fun _ => rfl)) (BN rfl (bin_shr (s:=1) ?_) ?_)))))))
 ·(simp only [IntKind.bits];omega)
 refine BN rfl (bin_or rfl ?_ ?_) ?_
 ·(exact Nat.mod_lt _ (by decide))
 ·(simp only [IntKind.bits];omega)
 refine AS rfl (NI [4] [_] rfl (R1 Tryz.results123 () rfl (fun w hA => ⟨?_,?_,?_⟩)))
 ·rfl
 ·trivial
 ·exact hA.keep (m:=[]) (Y:=[]) rfl
theorem zig_spec (n : Int)  : Spec Tryz.prog 87 #[.int .i64 (n)] [] (β:=Unit) (fun y => .int .u64 ((Cod.zig n : Int))) (fun y => True) (fun y => []):=by
 refine Spec.enter (vs:=[_]) Tryz.func87 rfl Tryz.ntmps87 rfl (Nat.le_of_ble_eq_true rfl) (fun w0 ok0 => ?_)
 generalize hM0 : blks _ = M0
 have hMn:=@noM _ _ hM0 (by simp [Atom.dat,Atom.elem])
 refine SQ (RG rfl (AS rfl (NI [0] [_] rfl (SQ (RG rfl (MV rfl (CV rfl (cv_int Tryz.underlying3 Tryz.underlying97 (wrap_u_i rfl _)) (CB [] [] rfl Tryz.call123 (rotl1_spec _ ?_) ?_))))))))
 ·(simp only [IntKind.bits];omega)
 intro y5 hy5
 clear y5 hy5
 refine AS rfl (NI [2] [_] rfl (R1 Tryz.results87 () rfl (fun w hA => ⟨?_,?_,?_⟩)))
 ·rfl
 ·trivial
 ·exact hA.keep (m:=[]) (Y:=[]) rfl
theorem zag_spec (u : Nat) (hu : u < 18446744073709551616) : Spec Tryz.prog 97 #[.int .u64 (u)] [] (β:=Unit) (fun y => .int .i64 (Cod.zag u)) (fun y => True) (fun y => []):=by
 refine Spec.enter (vs:=[_]) Tryz.func97 rfl Tryz.ntmps97 rfl (Nat.le_of_ble_eq_true rfl) (fun w0 ok0 => ?_)
 generalize hM0 : blks _ = M0
 have hMn:=@noM _ _ hM0 (by simp [Atom.dat,Atom.elem])
 refine SQ (RG rfl (AS rfl (NI [0] [_] rfl (SQ (RG rfl (MV rfl (CB [] [] rfl Tryz.call123 (rotr1_spec _ ?_) ?_)))))))
 ·(first | omega | assumption | decide)
 intro y4 hy4
 clear y4 hy4
 refine CV rfl (cv_int Tryz.underlying97 Tryz.underlying3 (wrap_toI (Cod.zagU_lt hu))) (AS rfl (NI [2] [_] rfl (R1 Tryz.results97 () rfl (fun w hA => ⟨?_,?_,?_⟩))))
 ·rfl
 ·trivial
 ·exact hA.keep (m:=[]) (Y:=[]) rfl
theorem len8_spec (u : Nat) (hu : u < 256) : Spec Tryz.prog 149 #[.int .u8 ((u : Int))] [] (β:=Unit) (fun y => .int .i64 ((Cod.bitLen u : Int))) (fun y => True) (fun y => []):=by
 refine Spec.enter (vs:=[_]) Tryz.func149 rfl Tryz.ntmps149 rfl (Nat.le_of_ble_eq_true rfl) (fun w0 ok0 => ?_)
 generalize hM0 : blks _ = M0
 have hMn:=@noM _ _ hM0 (by simp [Atom.dat,Atom.elem])
 refine SQ (RG rfl (AS rfl (NI [0] [_] rfl (SQ (RG rfl (MV rfl (HO_indexS (b:=UInt8.ofNat (Cod.bitLen u)) rfl rfl rfl rfl Tryz.underlying9 rfl ?_ ?_)))))))
 ·(exact Cod.tab8_at (by kernel_rfl) hu)
 refine CV rfl (cv_int Tryz.underlying5 Tryz.underlying3 (wrap_i64 (by omega) (by have:=(UInt8.ofNat (Cod.bitLen u)).toNat_lt;omega))) (AS rfl (NI [2] [_] rfl (R1 Tryz.results149 () rfl (fun w hA => ⟨?_,?_,?_⟩))))
 ·(exact congrArg (Value.int .i64) (by have:=@Cod.bitLen_le u 8 (by omega);simp;omega))
 ·trivial
 ·exact hA.keep (m:=[]) (Y:=[]) rfl
theorem lz8_spec (u : Nat) (hu : u < 256) : Spec Tryz.prog 147 #[.int .u8 ((u : Int))] [] (β:=Unit) (fun y => .int .i64 (((8 - Cod.bitLen u : Nat) : Int))) (fun y => True) (fun y => []):=by
 refine Spec.enter (vs:=[_]) Tryz.func147 rfl Tryz.ntmps147 rfl (Nat.le_of_ble_eq_true rfl) (fun w0 ok0 => ?_)
 generalize hM0 : blks _ = M0
 have hMn:=@noM _ _ hM0 (by simp [Atom.dat,Atom.elem])
 refine SQ (RG rfl (AS rfl (NI [0] [_] rfl (SQ (RG rfl (MV rfl (CB [] [] rfl Tryz.call149 (len8_spec _ ?_) ?_)))))))
 ·(first | omega | assumption | decide)
 intro y4 hy4
 clear y4 hy4
 refine BN rfl (bin_sub ?_ ?_) ?_
 ·(have:=@Cod.bitLen_le u 8 (by omega);omega)
 ·(have:=@Cod.bitLen_le u 8 (by omega);omega)
 refine AS rfl (NI [2] [_] rfl (R1 Tryz.results147 () rfl (fun w hA => ⟨?_,?_,?_⟩)))
 ·(exact congrArg (Value.int .i64) (by have:=@Cod.bitLen_le u 8 (by omega);omega))
 ·trivial
 ·exact hA.keep (m:=[]) (Y:=[]) rfl
theorem ones_spec (k : Nat) (hk : k≤8) : Spec Tryz.prog 146 #[.int .i64 ((k : Int))] [] (β:=Unit) (fun y => .int .u8 ((Cod.onesB k : Int))) (fun y => True) (fun y => []):=by
 refine Spec.enter (vs:=[_]) Tryz.func146 rfl Tryz.ntmps146 rfl (Nat.le_of_ble_eq_true rfl) (fun w0 ok0 => ?_)
 generalize hM0 : blks _ = M0
 have hMn:=@noM _ _ hM0 (by simp [Atom.dat,Atom.elem])
 refine SQ (RG rfl (AS rfl (NI [0] [_] rfl (SQ (RG rfl (MV rfl (BN rfl (bin_shr' ?_ ?_) ?_)))))))
 ·(simp only [IntKind.bits];omega)
 ·omega
 refine CV rfl (cv_int Tryz.underlying164 Tryz.underlying5 (wrap_u rfl _)) (AS rfl (NI [2] [_] rfl (R1 Tryz.results146 () rfl (fun w hA => ⟨?_,?_,?_⟩))))
 ·rfl
 ·trivial
 ·exact hA.keep (m:=[]) (Y:=[]) rfl
theorem len64_spec (u : Nat) (hu : u < 18446744073709551616) : Spec Tryz.prog 148 #[.int .u64 (u)] [] (β:=Unit) (fun y => .int .i64 ((Cod.bitLen u : Int))) (fun y => True) (fun y => []):=by
 refine Spec.enter (vs:=[_]) Tryz.func148 rfl Tryz.ntmps148 rfl (Nat.le_of_ble_eq_true rfl) (fun w0 ok0 => ?_)
 generalize hM0 : blks _ = M0
 have hMn:=@noM _ _ hM0 (by simp [Atom.dat,Atom.elem])
 refine SQ (RG rfl (AS rfl (HO_nil (SQ (SQ (RG rfl (MV rfl (BN rfl bin_geq (NI [4,2,0] [_,_,_] rfl (H_cond rfl ?_ ?_))))))))))
 ·intro h4
  replace h4:=dT h4
  refine SQ (RG rfl (MV rfl (BN rfl (bin_shr (s:=32) ?_) ?_)))
  ·(simp only [IntKind.bits];omega)
  refine AS rfl (NI [0] [_] rfl (RG rfl (AS rfl (HO_nil (SQ (SQ (RG rfl (MV rfl (BN rfl bin_geq (NI [8,2,0] [_,_,_] rfl (H_cond rfl ?_ ?_)))))))))))
  ·intro h8
   replace h8:=dT h8
   refine SQ (RG rfl (MV rfl (BN rfl (bin_shr (s:=16) ?_) ?_)))
   ·(simp only [IntKind.bits];omega)
   refine AS rfl (NI [0,2] [_,_] rfl (RG rfl (MV rfl (BN (r:=.int .i64 (48)) rfl (bin_lit (by decide) (fun _ => rfl)) (AS rfl (NI [2,0] [_,_] rfl (SQ (SQ (RG rfl (MV rfl (BN rfl bin_geq ?_)))))))))))
   refine NI [14,2,0] [_,_,_] rfl (H_cond rfl ?_ ?_)
   ·intro h14
    replace h14:=dT h14
    refine SQ (RG rfl (MV rfl (BN rfl (bin_shr (s:=8) ?_) ?_)))
    ·(simp only [IntKind.bits];omega)
    refine AS rfl (NI [0,2] [_,_] rfl (RG rfl (MV rfl (BN (r:=.int .i64 (56)) rfl (bin_lit (by decide) (fun _ => rfl)) (AS rfl (NI [2,0] [_,_] rfl (SQ (RG rfl (MV rfl (MV rfl (CV rfl (cv_int Tryz.underlying97 Tryz.underlying5 (wrap_u rfl _)) ?_)))))))))))
    refine HO_indexS rfl rfl rfl rfl Tryz.underlying9 rfl (Cod.tab8_at (by kernel_rfl) (Nat.mod_lt _ (by decide))) (CV rfl (cv_int Tryz.underlying5 Tryz.underlying3 (wrap_i64 (by omega) (Cod.byte_le _))) (BN rfl (bin_add ?_ ?_) ?_))
    ·(have:=Cod.byte_le' (UInt8.ofNat 0);omega)
    ·(refine Cod.add_byte_le _ (by omega) _)
    refine AS rfl (NI [2] [_] rfl (R1 Tryz.results148 () rfl (fun w hA => ⟨?_,?_,?_⟩)))
    ·(first | (exact congrArg (Value.int .i64) (Cod.len_close 0 (by omega) (by omega) (by omega))) | (exact congrArg (Value.int .i64) (Cod.len_close 8 (by omega) (by omega) (by omega))) | (exact congrArg (Value.int .i64) (Cod.len_close 16 (by omega) (by omega) (by omega))) | (exact congrArg (Value.int .i64) (Cod.len_close 24 (by omega) (by omega) (by omega))) | (exact congrArg (Value.int .i64) (Cod.len_close 32 (by omega) (by omega) (by omega))) | (exact congrArg (Value.int .i64) (Cod.len_close 40 (by omega) (by omega) (by omega))) | (exact congrArg (Value.int .i64) (Cod.len_close 48 (by omega) (by omega) (by omega))) | (exact congrArg (Value.int .i64) (Cod.len_close 56 (by omega) (by omega) (by omega))))
    ·trivial
    ·exact hA.keep (m:=[]) (Y:=[]) rfl
   intro h14
   replace h14:=dF h14
   refine SK (SQ (RG rfl (MV rfl (MV rfl (CV rfl (cv_int Tryz.underlying97 Tryz.underlying5 (wrap_u rfl _)) (HO_indexS rfl rfl rfl rfl Tryz.underlying9 rfl (Cod.tab8_at (by kernel_rfl) (Nat.mod_lt _ (by decide))) (CV rfl (cv_int Tryz.underlying5 Tryz.underlying3 (wrap_i64 (by omega) (Cod.byte_le _))) (BN rfl (bin_add ?_ ?_) ?_))))))))
   ·(have:=Cod.byte_le' (UInt8.ofNat 0);omega)
   ·(refine Cod.add_byte_le _ (by omega) _)
   refine AS rfl (NI [2] [_] rfl (R1 Tryz.results148 () rfl (fun w hA => ⟨?_,?_,?_⟩)))
   ·(first | (exact congrArg (Value.int .i64) (Cod.len_close 0 (by omega) (by omega) (by omega))) | (exact congrArg (Value.int .i64) (Cod.len_close 8 (by omega) (by omega) (by omega))) | (exact congrArg (Value.int .i64) (Cod.len_close 16 (by omega) (by omega) (by omega))) | (exact congrArg (Value.int .i64) (Cod.len_close 24 (by omega) (by omega) (by omega))) | (exact congrArg (Value.int .i64) (Cod.len_close 32 (by omega) (by omega) (by omega))) | (exact congrArg (Value.int .i64) (Cod.len_close 40 (by omega) (by omega) (by omega))) | (exact congrArg (Value.int .i64) (Cod.len_close 48 (by omega) (by omega) (by omega))) | (exact congrArg (Value.int .i64) (Cod.len_close 56 (by omega) (by omega) (by omega))))
   ·trivial
   ·exact hA.keep (m:=[]) (Y:=[]) rfl
  intro h8
  replace h8:=dF h8
  refine SK (SQ (SQ (RG rfl (MV rfl (BN rfl bin_geq (NI [14,2,0] [_,_,_] rfl (H_cond rfl ?_ ?_)))))))
  ·intro h14
   replace h14:=dT h14
   refine SQ (RG rfl (MV rfl (BN rfl (bin_shr (s:=8) ?_) ?_)))
   ·(simp only [IntKind.bits];omega)
   refine AS rfl (NI [0,2] [_,_] rfl (RG rfl (MV rfl (BN (r:=.int .i64 (40)) rfl (bin_lit (by decide) (fun _ => rfl)) (AS rfl (NI [2,0] [_,_] rfl (SQ (RG rfl (MV rfl (MV rfl (CV rfl (cv_int Tryz.underlying97 Tryz.underlying5 (wrap_u rfl _)) ?_)))))))))))
   refine HO_indexS rfl rfl rfl rfl Tryz.underlying9 rfl (Cod.tab8_at (by kernel_rfl) (Nat.mod_lt _ (by decide))) (CV rfl (cv_int Tryz.underlying5 Tryz.underlying3 (wrap_i64 (by omega) (Cod.byte_le _))) (BN rfl (bin_add ?_ ?_) ?_))
   ·(have:=Cod.byte_le' (UInt8.ofNat 0);omega)
   ·(refine Cod.add_byte_le _ (by omega) _)
   refine AS rfl (NI [2] [_] rfl (R1 Tryz.results148 () rfl (fun w hA => ⟨?_,?_,?_⟩)))
   ·(first | (exact congrArg (Value.int .i64) (Cod.len_close 0 (by omega) (by omega) (by omega))) | (exact congrArg (Value.int .i64) (Cod.len_close 8 (by omega) (by omega) (by omega))) | (exact congrArg (Value.int .i64) (Cod.len_close 16 (by omega) (by omega) (by omega))) | (exact congrArg (Value.int .i64) (Cod.len_close 24 (by omega) (by omega) (by omega))) | (exact congrArg (Value.int .i64) (Cod.len_close 32 (by omega) (by omega) (by omega))) | (exact congrArg (Value.int .i64) (Cod.len_close 40 (by omega) (by omega) (by omega))) | (exact congrArg (Value.int .i64) (Cod.len_close 48 (by omega) (by omega) (by omega))) | (exact congrArg (Value.int .i64) (Cod.len_close 56 (by omega) (by omega) (by omega))))
   ·trivial
   ·exact hA.keep (m:=[]) (Y:=[]) rfl
  intro h14
  replace h14:=dF h14
  refine SK (SQ (RG rfl (MV rfl (MV rfl (CV rfl (cv_int Tryz.underlying97 Tryz.underlying5 (wrap_u rfl _)) (HO_indexS rfl rfl rfl rfl Tryz.underlying9 rfl (Cod.tab8_at (by kernel_rfl) (Nat.mod_lt _ (by decide))) (CV rfl (cv_int Tryz.underlying5 Tryz.underlying3 (wrap_i64 (by omega) (Cod.byte_le _))) (BN rfl (bin_add ?_ ?_) ?_))))))))
  ·(have:=Cod.byte_le' (UInt8.ofNat 0);omega)
  ·(refine Cod.add_byte_le _ (by omega) _)
  refine AS rfl (NI [2] [_] rfl (R1 Tryz.results148 () rfl (fun w hA => ⟨?_,?_,?_⟩)))
  ·(first | (exact congrArg (Value.int .i64) (Cod.len_close 0 (by omega) (by omega) (by omega))) | (exact congrArg (Value.int .i64) (Cod.len_close 8 (by omega) (by omega) (by omega))) | (exact congrArg (Value.int .i64) (Cod.len_close 16 (by omega) (by omega) (by omega))) | (exact congrArg (Value.int .i64) (Cod.len_close 24 (by omega) (by omega) (by omega))) | (exact congrArg (Value.int .i64) (Cod.len_close 32 (by omega) (by omega) (by omega))) | (exact congrArg (Value.int .i64) (Cod.len_close 40 (by omega) (by omega) (by omega))) | (exact congrArg (Value.int .i64) (Cod.len_close 48 (by omega) (by omega) (by omega))) | (exact congrArg (Value.int .i64) (Cod.len_close 56 (by omega) (by omega) (by omega))))
  ·trivial
  ·exact hA.keep (m:=[]) (Y:=[]) rfl
 intro h4
 replace h4:=dF h4
 refine SK (SQ (SQ (RG rfl (MV rfl (BN rfl bin_geq (NI [8,2,0] [_,_,_] rfl (H_cond rfl ?_ ?_)))))))
 ·intro h8
  replace h8:=dT h8
  refine SQ (RG rfl (MV rfl (BN rfl (bin_shr (s:=16) ?_) ?_)))
  ·(simp only [IntKind.bits];omega)
  refine AS rfl (NI [0,2] [_,_] rfl (RG rfl (MV rfl (BN (r:=.int .i64 (16)) rfl (bin_lit (by decide) (fun _ => rfl)) (AS rfl (NI [2,0] [_,_] rfl (SQ (SQ (RG rfl (MV rfl (BN rfl bin_geq ?_)))))))))))
  refine NI [14,2,0] [_,_,_] rfl (H_cond rfl ?_ ?_)
  ·intro h14
   replace h14:=dT h14
   refine SQ (RG rfl (MV rfl (BN rfl (bin_shr (s:=8) ?_) ?_)))
   ·(simp only [IntKind.bits];omega)
   refine AS rfl (NI [0,2] [_,_] rfl (RG rfl (MV rfl (BN (r:=.int .i64 (24)) rfl (bin_lit (by decide) (fun _ => rfl)) (AS rfl (NI [2,0] [_,_] rfl (SQ (RG rfl (MV rfl (MV rfl (CV rfl (cv_int Tryz.underlying97 Tryz.underlying5 (wrap_u rfl _)) ?_)))))))))))
   refine HO_indexS rfl rfl rfl rfl Tryz.underlying9 rfl (Cod.tab8_at (by kernel_rfl) (Nat.mod_lt _ (by decide))) (CV rfl (cv_int Tryz.underlying5 Tryz.underlying3 (wrap_i64 (by omega) (Cod.byte_le _))) (BN rfl (bin_add ?_ ?_) ?_))
   ·(have:=Cod.byte_le' (UInt8.ofNat 0);omega)
   ·(refine Cod.add_byte_le _ (by omega) _)
   refine AS rfl (NI [2] [_] rfl (R1 Tryz.results148 () rfl (fun w hA => ⟨?_,?_,?_⟩)))
   ·(first | (exact congrArg (Value.int .i64) (Cod.len_close 0 (by omega) (by omega) (by omega))) | (exact congrArg (Value.int .i64) (Cod.len_close 8 (by omega) (by omega) (by omega))) | (exact congrArg (Value.int .i64) (Cod.len_close 16 (by omega) (by omega) (by omega))) | (exact congrArg (Value.int .i64) (Cod.len_close 24 (by omega) (by omega) (by omega))) | (exact congrArg (Value.int .i64) (Cod.len_close 32 (by omega) (by omega) (by omega))) | (exact congrArg (Value.int .i64) (Cod.len_close 40 (by omega) (by omega) (by omega))) | (exact congrArg (Value.int .i64) (Cod.len_close 48 (by omega) (by omega) (by omega))) | (exact congrArg (Value.int .i64) (Cod.len_close 56 (by omega) (by omega) (by omega))))
   ·trivial
   ·exact hA.keep (m:=[]) (Y:=[]) rfl
  intro h14
  replace h14:=dF h14
  refine SK (SQ (RG rfl (MV rfl (MV rfl (CV rfl (cv_int Tryz.underlying97 Tryz.underlying5 (wrap_u rfl _)) (HO_indexS rfl rfl rfl rfl Tryz.underlying9 rfl (Cod.tab8_at (by kernel_rfl) (Nat.mod_lt _ (by decide))) (CV rfl (cv_int Tryz.underlying5 Tryz.underlying3 (wrap_i64 (by omega) (Cod.byte_le _))) (BN rfl (bin_add ?_ ?_) ?_))))))))
  ·(have:=Cod.byte_le' (UInt8.ofNat 0);omega)
  ·(refine Cod.add_byte_le _ (by omega) _)
  refine AS rfl (NI [2] [_] rfl (R1 Tryz.results148 () rfl (fun w hA => ⟨?_,?_,?_⟩)))
  ·(first | (exact congrArg (Value.int .i64) (Cod.len_close 0 (by omega) (by omega) (by omega))) | (exact congrArg (Value.int .i64) (Cod.len_close 8 (by omega) (by omega) (by omega))) | (exact congrArg (Value.int .i64) (Cod.len_close 16 (by omega) (by omega) (by omega))) | (exact congrArg (Value.int .i64) (Cod.len_close 24 (by omega) (by omega) (by omega))) | (exact congrArg (Value.int .i64) (Cod.len_close 32 (by omega) (by omega) (by omega))) | (exact congrArg (Value.int .i64) (Cod.len_close 40 (by omega) (by omega) (by omega))) | (exact congrArg (Value.int .i64) (Cod.len_close 48 (by omega) (by omega) (by omega))) | (exact congrArg (Value.int .i64) (Cod.len_close 56 (by omega) (by omega) (by omega))))
  ·trivial
  ·exact hA.keep (m:=[]) (Y:=[]) rfl
 intro h8
 replace h8:=dF h8
 refine SK (SQ (SQ (RG rfl (MV rfl (BN rfl bin_geq (NI [14,2,0] [_,_,_] rfl (H_cond rfl ?_ ?_)))))))
 ·intro h14
  replace h14:=dT h14
  refine SQ (RG rfl (MV rfl (BN rfl (bin_shr (s:=8) ?_) ?_)))
  ·(simp only [IntKind.bits];omega)
  refine AS rfl (NI [0,2] [_,_] rfl (RG rfl (MV rfl (BN (r:=.int .i64 (8)) rfl (bin_lit (by decide) (fun _ => rfl)) (AS rfl (NI [2,0] [_,_] rfl (SQ (RG rfl (MV rfl (MV rfl (CV rfl (cv_int Tryz.underlying97 Tryz.underlying5 (wrap_u rfl _)) ?_)))))))))))
  refine HO_indexS rfl rfl rfl rfl Tryz.underlying9 rfl (Cod.tab8_at (by kernel_rfl) (Nat.mod_lt _ (by decide))) (CV rfl (cv_int Tryz.underlying5 Tryz.underlying3 (wrap_i64 (by omega) (Cod.byte_le _))) (BN rfl (bin_add ?_ ?_) ?_))
  ·(have:=Cod.byte_le' (UInt8.ofNat 0);omega)
  ·(refine Cod.add_byte_le _ (by omega) _)
  refine AS rfl (NI [2] [_] rfl (R1 Tryz.results148 () rfl (fun w hA => ⟨?_,?_,?_⟩)))
  ·(first | (exact congrArg (Value.int .i64) (Cod.len_close 0 (by omega) (by omega) (by omega))) | (exact congrArg (Value.int .i64) (Cod.len_close 8 (by omega) (by omega) (by omega))) | (exact congrArg (Value.int .i64) (Cod.len_close 16 (by omega) (by omega) (by omega))) | (exact congrArg (Value.int .i64) (Cod.len_close 24 (by omega) (by omega) (by omega))) | (exact congrArg (Value.int .i64) (Cod.len_close 32 (by omega) (by omega) (by omega))) | (exact congrArg (Value.int .i64) (Cod.len_close 40 (by omega) (by omega) (by omega))) | (exact congrArg (Value.int .i64) (Cod.len_close 48 (by omega) (by omega) (by omega))) | (exact congrArg (Value.int .i64) (Cod.len_close 56 (by omega) (by omega) (by omega))))
  ·trivial
  ·exact hA.keep (m:=[]) (Y:=[]) rfl
 intro h14
 replace h14:=dF h14
 refine SK (SQ (RG rfl (MV rfl (MV rfl (CV rfl (cv_int Tryz.underlying97 Tryz.underlying5 (wrap_u rfl _)) (HO_indexS rfl rfl rfl rfl Tryz.underlying9 rfl (Cod.tab8_at (by kernel_rfl) (Nat.mod_lt _ (by decide))) (CV rfl (cv_int Tryz.underlying5 Tryz.underlying3 (wrap_i64 (by omega) (Cod.byte_le _))) (BN rfl (bin_add ?_ ?_) ?_))))))))
 ·(have:=Cod.byte_le' (UInt8.ofNat 0);omega)
 ·(refine Cod.add_byte_le _ (by omega) _)
 refine AS rfl (NI [2] [_] rfl (R1 Tryz.results148 () rfl (fun w hA => ⟨?_,?_,?_⟩)))
 ·(first | (exact congrArg (Value.int .i64) (Cod.len_close 0 (by omega) (by omega) (by omega))) | (exact congrArg (Value.int .i64) (Cod.len_close 8 (by omega) (by omega) (by omega))) | (exact congrArg (Value.int .i64) (Cod.len_close 16 (by omega) (by omega) (by omega))) | (exact congrArg (Value.int .i64) (Cod.len_close 24 (by omega) (by omega) (by omega))) | (exact congrArg (Value.int .i64) (Cod.len_close 32 (by omega) (by omega) (by omega))) | (exact congrArg (Value.int .i64) (Cod.len_close 40 (by omega) (by omega) (by omega))) | (exact congrArg (Value.int .i64) (Cod.len_close 48 (by omega) (by omega) (by omega))) | (exact congrArg (Value.int .i64) (Cod.len_close 56 (by omega) (by omega) (by omega))))
 ·trivial
 ·exact hA.keep (m:=[]) (Y:=[]) rfl
theorem behind_spec (u : Nat) (hu : u < 18446744073709551616) : Spec Tryz.prog 145 #[.int .u64 (u)] [] (β:=Unit) (fun y => .int .i64 ((Cod.beh u : Int))) (fun y => True) (fun y => []):=by
 refine Spec.enter (vs:=[_]) Tryz.func145 rfl Tryz.ntmps145 rfl (Nat.le_of_ble_eq_true rfl) (fun w0 ok0 => ?_)
 generalize hM0 : blks _ = M0
 have hMn:=@noM _ _ hM0 (by simp [Atom.dat,Atom.elem])
 refine SQ (RG rfl (AS rfl (NI [0] [_] rfl (SQ (RG rfl (MV rfl (CB [] [] rfl Tryz.call148 (len64_spec _ ?_) ?_)))))))
 ·(first | omega | assumption | decide)
 intro y4 hy4
 clear y4 hy4
 refine BN rfl (bin_sub ?_ ?_) ?_
 ·omega
 ·(have:=@Cod.bitLen_le u 64 (by omega);omega)
 refine BI rfl bi_max2 (BN rfl (bin_quo ?_ ?_ ?_) ?_)
 ·omega
 ·omega
 ·(have:=@Cod.bitLen_le u 64 (by omega);omega)
 refine BI rfl bi_min2 (AS rfl (NI [2] [_] rfl (R1 Tryz.results145 () rfl (fun w hA => ⟨?_,?_,?_⟩))))
 ·(exact congrArg (Value.int .i64) (by have:=Cod.beh_bitLen (u:=u) (by omega);omega))
 ·trivial
 ·exact hA.keep (m:=[]) (Y:=[]) rfl
end Go.Wk
