/- Contracts of the program's functions, each proved by walking its code. -/
import Derived.Test.YtdaphlemhmgncaaGreatKgcodec3
set_option maxRecDepth 100000
set_option linter.unusedVariables false
set_option linter.unusedSimpArgs false
namespace Go.Wk.Fref01
open Go Go.RowKit Go.Proofs Go.Wk
theorem elt5 : Elt Tryz.prog 5 (.int .u8 (0)) 1 1:=Elt.of (by kernel_rfl) (by rfl) (by decide) (by decide)
end Go.Wk.Fref01
namespace Go.Wk
open Go Go.RowKit Go.Proofs Fref01 
theorem rzig_spec (n : Int)  : Spec Tryz.prog 91 #[.int .i64 (n)] [] (β:=Unit) (fun y => .int .u64 ((Cod.zig n : Int))) (fun y => True) (fun y => []):=by
 refine Spec.enter (vs:=[_]) Tryz.func91 rfl Tryz.ntmps91 rfl (Nat.le_of_ble_eq_true rfl) (fun w0 ok0 => ?_)
 generalize hM0 : blks _ = M0
 have hMn:=@noM _ _ hM0 (by simp [Atom.dat,Atom.elem])
 refine SQ (RG rfl (AS rfl (NI [0] [_] rfl (SQ (RG rfl (MV rfl (CV rfl (cv_int Tryz.underlying3 Tryz.underlying97 (wrap_u_i rfl _)) (AS rfl (NI [3] [_] rfl (SQ (RG rfl ?_)))))))))))
 refine MV rfl (BN rfl (bin_shl (s:=1) rfl) (MV rfl (BN rfl (bin_shr (s:=63) ?_) ?_)))
 ·(simp only [IntKind.bits];omega)
 refine BN rfl (bin_or rfl ?_ ?_) ?_
 ·(exact Nat.mod_lt _ (by decide))
 ·(simp only [IntKind.bits];omega)
 refine AS rfl (NI [2] [_] rfl (R1 Tryz.results91 () rfl (fun w hA => ⟨?_,?_,?_⟩)))
 ·rfl
 ·trivial
 ·exact hA.keep (m:=[]) (Y:=[]) rfl
theorem rzag_spec (u : Nat) (hu : u < 18446744073709551616) : Spec Tryz.prog 107 #[.int .u64 (u)] [] (β:=Unit) (fun y => .int .i64 (Cod.zag u)) (fun y => True) (fun y => []):=by
 refine Spec.enter (vs:=[_]) Tryz.func107 rfl Tryz.ntmps107 rfl (Nat.le_of_ble_eq_true rfl) (fun w0 ok0 => ?_)
 generalize hM0 : blks _ = M0
 have hMn:=@noM _ _ hM0 (by simp [Atom.dat,Atom.elem])
 refine SQ (RG rfl (AS rfl (NI [0] [_] rfl (SQ (RG rfl (MV rfl (BN rfl (bin_shr (s:=1) ?_) ?_)))))))
 ·(simp only [IntKind.bits];omega)
 refine MV rfl (BN rfl (bin_shl (s:=63) rfl) (BN rfl (bin_or rfl ?_ ?_) ?_))
 ·(simp only [IntKind.bits];omega)
 ·(exact Nat.mod_lt _ (by decide))
 refine HO_set (v':=.int .u64 ((Cod.zagU u : Int))) 7 rfl (by exact congrArg (fun m : Nat => Value.int .u64 (m : Int)) (Nat.or_comm _ _)) (CV rfl (cv_int Tryz.underlying97 Tryz.underlying3 (wrap_toI (Cod.zagU_lt hu))) (AS rfl (NI [2] [_] rfl (R1 Tryz.results107 () rfl (fun w hA => ⟨?_,?_,?_⟩)))))
 ·rfl
 ·trivial
 ·exact hA.keep (m:=[]) (Y:=[]) rfl
theorem rmore_spec (u : Nat) (hu : u < 18446744073709551616) : Spec Tryz.prog 92 #[.int .u64 (u)] [] (β:=Unit) (fun y => .int .i64 ((Cod.beh u : Int))) (fun y => True) (fun y => []):=by
 refine Spec.enter (vs:=[_]) Tryz.func92 rfl Tryz.ntmps92 rfl (Nat.le_of_ble_eq_true rfl) (fun w0 ok0 => ?_)
 generalize hM0 : blks _ = M0
 have hMn:=@noM _ _ hM0 (by simp [Atom.dat,Atom.elem])
 refine SQ (RG rfl (AS rfl (NI [0] [_] rfl (SQ (SQ (RG rfl (AS rfl (HO_nil (BO (H_loop (σ:=Nat) (fun s => s≤8∧s≤Cod.beh u) (fun s => [(0,.int .u64 (u)),(3,.int .i64 ((s : Int)))]) (fun s => Asn w0 ok0 M0 []) (fun s => 8 - s) 0 ?_ ?_ ?_ ?_))))))))))
 ·exact ⟨Nat.zero_le _,Nat.zero_le _⟩
 ·exact ⟨rfl,rfl,trivial⟩
 ·intro w hA
  exact hA.only (is:=[]) (Z:=[]) rfl
 ·intro k hI
  (try dsimp only at hI ⊢)
  refine SQ (SQ (RG rfl (MV rfl (BN rfl bin_lss (NI [5,0,3] [_,_,_] rfl (H_cond rfl ?_ ?_))))))
  ·intro h5
   replace h5:=dT h5
   refine SK (SQ (BO (SQ (RG rfl (MV rfl (MV rfl (BN rfl (bin_add ?_ ?_) ?_)))))))
   ·omega
   ·omega
   refine BN rfl (bin_mul ?_ ?_) ?_
   ·omega
   ·omega
   refine CV rfl (cv_int Tryz.underlying3 Tryz.underlying59 (wrap_u_i rfl _)) (HO_set (v':=.int .u64 (((7 * (k + 1) : Nat) : Int))) 12 rfl (by exact congrArg (Value.int .u64) (by simp only [IntKind.bits];omega)) (BN rfl (bin_shl' rfl ?_) ?_))
   ·omega
   refine BN rfl bin_lss (NI [14,0,3] [_,_,_] rfl (H_cond rfl ?_ ?_))
   ·intro h14
    replace h14:=dT h14
    have hb:=(Cod.beh_le_iff hu (k:=k) (by omega)).2 (Int.ofNat_lt.1 h14)
    refine SQ (RG rfl (MV rfl (AS rfl (NI [2] [_] rfl (R1 Tryz.results92 () rfl (fun w hA => ⟨?_,?_,?_⟩))))))
    ·(exact congrArg (Value.int .i64) (by have:=Cod.beh_le u;omega))
    ·trivial
    ·exact hA.keep (m:=[]) (Y:=[]) rfl
   intro h14
   replace h14:=dF h14
   have hb : k < Cod.beh u:=by refine Nat.lt_of_not_le fun h => h14 ?_;have:=(Cod.beh_le_iff hu (k:=k) (by omega)).1 h;exact Int.ofNat_lt.2 this
   refine SK (BD (RG rfl (MV rfl (BN rfl (bin_add ?_ ?_) ?_))))
   ·omega
   ·omega
   refine AS rfl (NI [3,0] [_,_] rfl (H_inv (fun a w hf hA => ⟨k + 1,?_,?_,hf.sub ?_,?_⟩)))
   ·exact ⟨by omega,by omega⟩
   ·(try dsimp only);omega
   ·exact ⟨rfl,rfl,trivial⟩
   ·exact hA.only (is:=[]) (Z:=[]) rfl
  intro h5
  replace h5:=dF h5
  refine H_exit rfl (SQ (RG rfl (AS rfl (NI [2] [_] rfl (R1 Tryz.results92 () rfl (fun w hA => ⟨?_,?_,?_⟩))))))
  ·(exact congrArg (Value.int .i64) (by have:=Cod.beh_le u;omega))
  ·trivial
  ·exact hA.keep (m:=[]) (Y:=[]) rfl
theorem rsame_spec (b b2 : List UInt8) (a : Option Addr) (c : Nat) (a2 : Option Addr) (c2 : Nat)  : Spec Tryz.prog 65 #[.slice a (b.length) c,.slice a2 (b2.length) c2] [.dat kByte.sl (b) [.slice a (b.length) c],.dat kByte.sl (b2) [.slice a2 (b2.length) c2]] (β:=Unit) (fun y => .bool (decide (b = b2))) (fun y => True) (fun y => []):=by
 refine Spec.enter (vs:=[_,_]) Tryz.func65 rfl Tryz.ntmps65 rfl (Nat.le_of_ble_eq_true rfl) (fun w0 ok0 => ?_)
 generalize hM0 : blks _ = M0
 have hMn:=@noM _ _ hM0 (by simp [Atom.dat,Atom.elem])
 refine SQ (RG rfl (AS rfl (NI [0,1] [_,_] rfl (SQ (RG rfl (MV rfl (HO_bytesStr (i:=0) rfl rfl rfl Tryz.underlying32 Tryz.underlying9 Tryz.underlying5 rfl (MV rfl (HO_bytesStr (i:=1) rfl rfl rfl Tryz.underlying32 Tryz.underlying9 Tryz.underlying5 rfl (BN rfl bin_eqs (AS rfl (HO_nil ?_))))))))))))
 refine EV [4] [_] rfl (WD 0 [] rfl (R1 Tryz.results65 () rfl (fun w hA => ⟨?_,?_,?_⟩)))
 ·(exact congrArg Value.bool (Cod.dec_same b b2))
 ·trivial
 ·exact hA.keep (m:=[]) (Y:=[]) rfl
theorem rlow_spec (u n : Nat) (hu : u < 18446744073709551616) (hn : n≤8) : Spec Tryz.prog 56 #[.int .u64 (u),.int .i64 ((n : Int))] [] (β:=Option Addr × Nat) (fun y => .slice y.1 ((Cod.le u n).length) y.2) (fun y => True) (fun y => [.own 5 kByte y.1 y.2 (Cod.le u n)]):=by
 refine Spec.enter (vs:=[_,_]) Tryz.func56 rfl Tryz.ntmps56 rfl (Nat.le_of_ble_eq_true rfl) (fun w0 ok0 => ?_)
 generalize hM0 : blks _ = M0
 have hMn:=@noM _ _ hM0 (by simp [Atom.dat,Atom.elem])
 refine SQ (RG rfl (AS rfl (NI [0,1] [_,_] rfl (SQ (RG rfl (AS rfl (HO_nil (SQ (SQ (RG rfl (AS rfl (HO_nil ?_))))))))))))
 refine BO (H_own0 kByte 5 none (H_loop (σ:=Nat × Option Addr × Nat) (fun s => s.1≤n) (fun s => [(0,.int .u64 (u)),(1,.int .i64 ((n : Int))),(5,.slice s.2.1 ((Cod.le u s.1).length) s.2.2),(6,.int .i64 ((s.1 : Int)))]) (fun s => Asn w0 ok0 M0 [.own 5 kByte s.2.1 s.2.2 (Cod.le u s.1)]) (fun s => n - s.1) ⟨0,none,0⟩ ?_ ?_ ?_ ?_))
 ·exact Nat.zero_le _
 ·exact ⟨rfl,rfl,rfl,rfl,trivial⟩
 ·intro w hA
  exact hA.only (is:=[0]) (Z:=[]) rfl
 ·rintro ⟨i,a,c⟩ hI
  (try dsimp only at hI ⊢)
  refine SQ (SQ (RG rfl (MV rfl (MV rfl (BN rfl bin_lss (NI [9,0,1,5,6] [_,_,_,_,_] rfl (H_cond rfl ?_ ?_)))))))
  ·intro h9
   replace h9:=dT h9
   refine SK (SQ (BO (RG rfl (MV rfl (MV rfl (MV rfl (BN rfl (bin_mul ?_ ?_) ?_)))))))
   ·omega
   ·omega
   refine CV rfl (cv_int Tryz.underlying3 Tryz.underlying59 (wrap_u_i rfl _)) (HO_set (v':=.int .u64 (((8 * i : Nat) : Int))) 16 rfl (by exact congrArg (Value.int .u64) (by simp only [IntKind.bits];omega)) (BN rfl (bin_shr' ?_ ?_) ?_))
   ·(simp only [IntKind.bits];omega)
   ·omega
   refine CV rfl (cv_int Tryz.underlying97 Tryz.underlying5 (wrap_u rfl _)) (HO_set (v':=.int .u8 (((UInt8.ofNat (u / 2 ^ (8 * i))).toNat : Int))) 18 rfl (by exact byte_eq (by first | rfl | (congr 2;omega))) (HO_buildSlice (kd:=kByte) (xo:=[_]) (vs:=[_]) (cs:=[_]) (xs:=[UInt8.ofNat (u / 2 ^ (8 * i))]) rfl rfl rfl rfl Tryz.underlying32 elt5 rfl rfl rfl (by decide) (by decide) (by simp [Value.cells]) rfl (fun _ _ _ => ⟨_,_,rfl,⟨rfl,trivial⟩,rfl⟩) ?_))
   intro g19
   refine HO_append (i:=1) (R:=[_]) rfl rfl rfl rfl rfl Tryz.underlying32 elt5 rfl rfl (SrcOk.own (j:=0) Tryz.underlying32 rfl rfl) ?_ ?_
   ·(simp only [Cod.le_length,List.length_cons,List.length_nil];omega)
   intro a20 c20
   refine AS rfl (NI [5,0,1,6] [_,_,_,_] rfl (WD 1 [_] rfl (BD (RG rfl (MV rfl (BN rfl (bin_add ?_ ?_) ?_))))))
   ·omega
   ·omega
   refine AS rfl (NI [6,5,0,1] [_,_,_,_] rfl (H_inv (fun a w hf hA => ⟨⟨i + 1,a20,c20⟩,?_,?_,hf.sub ?_,?_⟩)))
   ·(dsimp only;omega)
   ·(try dsimp only);omega
   ·exact ⟨rfl,rfl,by rw [Cod.le_snoc];rfl,rfl,trivial⟩
   ·rw [Cod.le_snoc];exact hA.only (is:=[0]) (Z:=[]) rfl
  intro h9
  replace h9:=dF h9
  refine H_exit rfl (SQ (RG rfl (MV rfl (AS rfl (NI [4] [_] rfl ?_)))))
  obtain rfl : i = n:=by omega
  refine R1 Tryz.results56 (a,c) rfl (fun w hA => ⟨?_,?_,?_⟩)
  ·rfl
  ·trivial
  ·exact hA.keep (m:=[yy]) (Y:=[_]) rfl
theorem rof_spec (b : List UInt8) (a : Option Addr) (c : Nat) (hb : b.length≤8) : Spec Tryz.prog 75 #[.slice a (b.length) c] [.dat kByte.sl (b) [.slice a (b.length) c]] (β:=Unit) (fun y => .int .u64 ((Cod.wh b : Int))) (fun y => True) (fun y => []):=by
 refine Spec.enter (vs:=[_]) Tryz.func75 rfl Tryz.ntmps75 rfl (Nat.le_of_ble_eq_true rfl) (fun w0 ok0 => ?_)
 generalize hM0 : blks _ = M0
 have hMn:=@noM _ _ hM0 (by simp [Atom.dat,Atom.elem])
 refine SQ (RG rfl (AS rfl (NI [0] [_] rfl (SQ (RG rfl (AS rfl (HO_nil (SQ (SQ (RG rfl (MV rfl (BI rfl (bi_len_sl Tryz.underlying32) ?_))))))))))))
 refine MV rfl (NI [8,7,6,3] [_,_,_,_] rfl (BO (H_loop (σ:=Nat) (fun s => s≤b.length) (fun s => [(6,.slice a (b.length) c),(3,.int .u64 ((Cod.wh (List.take s b) : Int))),(7,.int .i64 ((b.length : Int))),(8,.int .i64 ((s : Int)))]) (fun s => Asn w0 ok0 M0 [.dat kByte.sl (b) [.slice a (b.length) c]]) (fun s => b.length - s) 0 ?_ ?_ ?_ ?_)))
 ·exact Nat.zero_le _
 ·exact ⟨rfl,rfl,rfl,rfl,trivial⟩
 ·intro w hA
  exact hA.only (is:=[0]) (Z:=[]) rfl
 ·intro i hI
  (try dsimp only at hI ⊢)
  refine SQ (RG rfl (BN rfl bin_lss (HO_nil (SQ (H_cond rfl ?_ ?_)))))
  ·intro h9
   replace h9:=dT h9
   refine SK (SQ (BO (SQ (RG rfl (MV rfl (HO_indexAddr open_byte (i:=0) rfl rfl rfl rfl rfl Tryz.underlying32 Tryz.sizeOf5 rfl ?_ ?_))))))
   ·omega
   intro b11 o11 z11 y11 hz11 hI11
   clear y11 hI11
   refine LE 0 0 rfl Tryz.isAgg5 (AS rfl (AS rfl (NI [5,4,6,3,7,8] [_,_,_,_,_,_] rfl (WD 2 [_] rfl (RG rfl (MV rfl (MV rfl (CV rfl (cv_int Tryz.underlying5 Tryz.underlying97 (wrap_u_lt rfl ?_)) ?_))))))))
   ·(have:=z11.toNat_lt;simp only [IntKind.bits];omega)
   refine MV rfl (BN rfl (bin_mul ?_ ?_) ?_)
   ·omega
   ·omega
   refine CV rfl (cv_int Tryz.underlying3 Tryz.underlying59 (wrap_u_i rfl _)) (HO_set (v':=.int .u64 (((8 * i : Nat) : Int))) 18 rfl (by exact congrArg (Value.int .u64) (by simp only [IntKind.bits];omega)) (BN rfl (bin_shl' rfl ?_) ?_))
   ·omega
   refine BN rfl (bin_or rfl ?_ ?_) ?_
   ·(have:=Cod.wh_lt (List.take i b);have h2 : (List.take i b).length≤8:=(by simp;omega);exact Nat.lt_of_lt_of_le this (Nat.pow_le_pow_right (by decide) (by simp only [IntKind.bits];omega)))
   ·(exact Nat.mod_lt _ (Nat.two_pow_pos _))
   refine HO_set (v':=.int .u64 ((Cod.wh (List.take (i + 1) b) : Int))) 20 rfl (by exact congrArg (fun m : Nat => Value.int .u64 (m : Int)) (by have h8 : (((8 * i : Nat) : Int)).toNat = 8 * i:=(by omega);rw [h8];exact Cod.wh_take hz11 (by simp only [IntKind.bits];omega))) (AS rfl (NI [3,6,7,8] [_,_,_,_] rfl (BD (RG rfl (BN rfl (bin_add ?_ ?_) ?_)))))
   ·omega
   ·omega
   refine MV rfl (NI [8,3,6,7] [_,_,_,_] rfl (H_inv (fun a w hf hA => ⟨i + 1,?_,?_,hf.sub ?_,?_⟩)))
   ·omega
   ·(try dsimp only);omega
   ·exact ⟨rfl,rfl,rfl,rfl,trivial⟩
   ·exact hA.only (is:=[0]) (Z:=[]) rfl
  intro h9
  replace h9:=dF h9
  refine H_exit rfl (SQ (RG rfl (MV rfl (AS rfl (NI [2] [_] rfl (WD 0 [] rfl ?_))))))
  obtain rfl : i = b.length:=by omega
  rw [List.take_length]
  refine R1 Tryz.results75 () rfl (fun w hA => ⟨?_,?_,?_⟩)
  ·rfl
  ·trivial
  ·exact hA.keep (m:=[]) (Y:=[]) rfl
theorem rPut_spec (b : List UInt8) (u : Nat) (a : Option Addr) (c : Nat) (hu : u < 18446744073709551616) (hb : b.length≤1099511627776) : Spec Tryz.prog 60 #[.slice a (b.length) c,.int .u64 (u)] [.dat kByte.sl (b) [.slice a (b.length) c]] (β:=Option Addr × Nat) (fun y => .slice y.1 ((b ++ Cod.enc u).length) y.2) (fun y => True) (fun y => [.own 5 kByte y.1 y.2 (b ++ Cod.enc u)]):=by
 have hk8:=Cod.beh_le u
 refine Spec.enter (vs:=[_,_]) Tryz.func60 rfl Tryz.ntmps60 rfl (Nat.le_of_ble_eq_true rfl) (fun w0 ok0 => ?_)
 generalize hM0 : blks _ = M0
 have hMn:=@noM _ _ hM0 (by simp [Atom.dat,Atom.elem])
 refine SQ (RG rfl (AS rfl (NI [0,1] [_,_] rfl (SQ (RG rfl (HO_buildSlice0 (kd:=kByte) rfl rfl Tryz.underlying32 elt5 ?_))))))
 intro g10
 refine MV rfl (HO_append (i:=0) (R:=[_]) rfl rfl rfl rfl rfl Tryz.underlying32 elt5 rfl rfl (SrcOk.dat (j:=0) Tryz.underlying32 rfl) ?_ ?_)
 ·(simp only [List.length_nil];omega)
 intro a12 c12
 refine AS rfl (NI [5,1] [_,_] rfl (WD 1 [_] rfl (SQ (RG rfl (MV rfl (CB [] [_] rfl Tryz.call92 (rmore_spec _ ?_) ?_))))))
 ·(first | omega | assumption | decide)
 intro y14 hy14
 clear y14 hy14
 refine AS rfl (NI [6,5,1] [_,_,_] rfl (SQ (RG rfl (AS rfl (HO_nil (SQ (SQ (RG rfl (AS rfl (HO_nil (BO (H_loop (σ:=Nat) (fun s => s≤Cod.beh u) (fun s => [(1,.int .u64 (u)),(5,.slice a12 (b.length) c12),(6,.int .i64 ((Cod.beh u : Int))),(7,.int .u8 ((Cod.onesB s : Int))),(8,.int .i64 ((s : Int)))]) (fun s => Asn w0 ok0 M0 [.own 5 kByte a12 c12 (b)]) (fun s => Cod.beh u - s) 0 ?_ ?_ ?_ ?_))))))))))))
 ·exact Nat.zero_le _
 ·exact ⟨rfl,rfl,rfl,rfl,rfl,trivial⟩
 ·intro w hA
  exact hA.only (is:=[0]) (Z:=[]) rfl
 ·intro i hI
  (try dsimp only at hI ⊢)
  refine SQ (SQ (RG rfl (MV rfl (MV rfl (BN rfl bin_lss (NI [17,1,5,6,7,8] [_,_,_,_,_,_] rfl (H_cond rfl ?_ ?_)))))))
  ·intro h17
   replace h17:=dT h17
   refine SK (SQ (BO (RG rfl (MV rfl (MV rfl (CV rfl (cv_int Tryz.underlying3 Tryz.underlying59 (wrap_u_i rfl _)) (HO_set (v':=.int .u64 (((i : Nat) : Int))) 22 rfl (by exact congrArg (Value.int .u64) (by simp only [IntKind.bits];omega)) (BN rfl (bin_shr' ?_ ?_) ?_))))))))
   ·decide
   ·omega
   refine BN rfl (bin_or rfl ?_ ?_) ?_
   ·(simp only [IntKind.bits];have:=Cod.onesB_lt i;omega)
   ·(simp only [IntKind.bits];exact Nat.lt_of_le_of_lt (Nat.div_le_self _ _) (by decide))
   refine HO_set (v':=.int .u8 ((Cod.onesB (i + 1) : Int))) 24 rfl (by exact congrArg (fun m : Nat => Value.int .u8 (m : Int)) (by have h8 : ((i : Int)).toNat = i:=(by omega);rw [h8];exact Cod.ones_next (by omega))) (AS rfl (NI [7,1,5,6,8] [_,_,_,_,_] rfl (BD (RG rfl (MV rfl (BN rfl (bin_add ?_ ?_) ?_))))))
   ·omega
   ·omega
   refine AS rfl (NI [8,7,1,5,6] [_,_,_,_,_] rfl (H_inv (fun a w hf hA => ⟨i + 1,?_,?_,hf.sub ?_,?_⟩)))
   ·omega
   ·(try dsimp only);omega
   ·exact ⟨rfl,rfl,rfl,rfl,rfl,trivial⟩
   ·exact hA.only (is:=[0]) (Z:=[]) rfl
  intro h17
  replace h17:=dF h17
  refine H_exit rfl (SQ (SQ ?_))
  obtain rfl : i = Cod.beh u:=by omega
  refine RG rfl (MV rfl (BN rfl bin_lss (NI [26,1,5,6,7] [_,_,_,_,_] rfl (H_cond rfl ?_ ?_))))
  ·intro h26
   replace h26:=dT h26
   refine RG rfl (MV rfl (MV rfl (MV rfl (BN rfl (bin_mul ?_ ?_) ?_))))
   ·omega
   ·omega
   refine CV rfl (cv_int Tryz.underlying3 Tryz.underlying59 (wrap_u_i rfl _)) (HO_set (v':=.int .u64 (((8 * Cod.beh u : Nat) : Int))) 31 rfl (by exact congrArg (Value.int .u64) (by simp only [IntKind.bits];omega)) (BN rfl (bin_shr' ?_ ?_) ?_))
   ·(simp only [IntKind.bits];omega)
   ·omega
   refine CV rfl (cv_int Tryz.underlying97 Tryz.underlying5 (wrap_u rfl _)) (BN rfl (bin_or rfl ?_ ?_) ?_)
   ·(simp only [IntKind.bits];have:=Cod.onesB_lt (Cod.beh u);omega)
   ·(exact Nat.mod_lt _ (by decide))
   refine AS rfl (NI [7,1,5,6] [_,_,_,_] rfl (SQ (H_set (v':=.int .u8 ((UInt8.ofNat (Cod.headB u)).toNat : Int)) 7 rfl (by (first | exact head_set1 (by omega) (by omega) | exact head_set2 (by omega))) (RG rfl (MV rfl (MV rfl (HO_buildSlice (kd:=kByte) (xo:=[_]) (vs:=[_]) (cs:=[_]) (xs:=[_]) rfl rfl rfl rfl Tryz.underlying32 elt5 rfl rfl rfl (by decide) (by decide) (by simp [Value.cells]) rfl (fun _ _ _ => ⟨_,_,rfl,⟨rfl,trivial⟩,rfl⟩) ?_)))))))
   intro g37
   refine HO_append (i:=1) (R:=[_]) rfl rfl rfl rfl rfl Tryz.underlying32 elt5 rfl rfl (SrcOk.own (j:=0) Tryz.underlying32 rfl rfl) ?_ ?_
   ·(simp only [List.length_append,List.length_cons,List.length_nil];omega)
   intro a38 c38
   refine AS rfl (NI [5,1,6] [_,_,_] rfl (WD 1 [_] rfl (SQ (SQ (RG rfl (MV rfl (BN rfl (bin_sub ?_ ?_) ?_)))))))
   ·omega
   ·omega
   refine AS rfl (NI [9,5,1] [_,_,_] rfl (BO (H_loop (σ:=Nat × List UInt8 × Option Addr × Nat) (fun s => s.2.1 ++ Cod.tailB u s.1 = b ++ Cod.enc u∧s.1≤8) (fun s => [(5,.slice s.2.2.1 (s.2.1.length) s.2.2.2),(1,.int .u64 (u)),(9,.int .i64 ((s.1 : Int) - 1))]) (fun s => Asn w0 ok0 M0 [.own 5 kByte s.2.2.1 s.2.2.2 (s.2.1)]) (fun s => s.1) ⟨Cod.beh u,b ++ [UInt8.ofNat (Cod.headB u)],a38,c38⟩ ?_ ?_ ?_ ?_)))
   ·exact ⟨by simp [Cod.enc],Cod.beh_le u⟩
   ·exact ⟨rfl,rfl,rfl,trivial⟩
   ·intro w hA
    exact hA.only (is:=[0]) (Z:=[]) rfl
   ·rintro ⟨j,l,a,c⟩ hI
    (try dsimp only at hI ⊢)
    refine SQ (SQ (RG rfl (MV rfl (BN rfl bin_geq (NI [42,5,1,9] [_,_,_,_] rfl (H_cond rfl ?_ ?_))))))
    ·intro h42
     replace h42:=dT h42
     refine SK (SQ (BO (RG rfl (MV rfl (MV rfl (MV rfl (BN rfl (bin_mul ?_ ?_) ?_)))))))
     ·omega
     ·omega
     refine CV rfl (cv_int Tryz.underlying3 Tryz.underlying59 (wrap_u_i rfl _)) (HO_set (v':=.int .u64 (((8 * (j - 1) : Nat) : Int))) 49 rfl (by exact congrArg (Value.int .u64) (by simp only [IntKind.bits];omega)) (BN rfl (bin_shr' ?_ ?_) ?_))
     ·(simp only [IntKind.bits];omega)
     ·omega
     refine CV rfl (cv_int Tryz.underlying97 Tryz.underlying5 (wrap_u rfl _)) (HO_set (v':=.int .u8 (((UInt8.ofNat (u / 2 ^ (8 * (j - 1)))).toNat : Int))) 51 rfl (by (exact byte_eq (by first | rfl | (congr 2;omega)))) (HO_buildSlice (kd:=kByte) (xo:=[_]) (vs:=[_]) (cs:=[_]) (xs:=[_]) rfl rfl rfl rfl Tryz.underlying32 elt5 rfl rfl rfl (by decide) (by decide) (by simp [Value.cells]) rfl (fun _ _ _ => ⟨_,_,rfl,⟨rfl,trivial⟩,rfl⟩) ?_))
     intro g52
     refine HO_append (i:=1) (R:=[_]) rfl rfl rfl rfl rfl Tryz.underlying32 elt5 rfl rfl (SrcOk.own (j:=0) Tryz.underlying32 rfl rfl) ?_ ?_
     ·(simp only [List.length_cons,List.length_nil];have:=congrArg List.length hI.1;simp only [List.length_append,Cod.tailB_length,Cod.enc_length] at this;omega)
     intro a53 c53
     refine AS rfl (NI [5,1,9] [_,_,_] rfl (WD 1 [_] rfl (BD (RG rfl (MV rfl (BN rfl (bin_sub ?_ ?_) ?_))))))
     ·omega
     ·omega
     refine AS rfl (NI [9,5,1] [_,_,_] rfl (H_inv (fun a w hf hA => ⟨⟨j - 1,l ++ [UInt8.ofNat (u / 2 ^ (8 * (j - 1)))],a53,c53⟩,?_,?_,hf.sub ?_,?_⟩)))
     ·exact ⟨by obtain ⟨j',rfl⟩ : ∃ m,j = m + 1:=⟨j - 1,by omega⟩;simpa [Cod.tailB] using hI.1,by omega⟩
     ·(try dsimp only);omega
     ·exact ⟨rfl,rfl,congrArg (fun z => some (Value.int .i64 z)) (by omega),trivial⟩
     ·exact hA.only (is:=[0]) (Z:=[]) rfl
    intro h42
    replace h42:=dF h42
    refine H_exit rfl (SQ (RG rfl (MV rfl (AS rfl (NI [4] [_] rfl ?_)))))
    obtain rfl : j = 0:=by omega
    have hI1:=hI.1
    simp only [Cod.tailB,List.append_nil] at hI1
    subst hI1
    refine R1 Tryz.results60 (a,c) rfl (fun w hA => ⟨?_,?_,?_⟩)
    ·rfl
    ·trivial
    ·exact hA.keep (m:=[yy]) (Y:=[_]) rfl
  intro h26
  replace h26:=dF h26
  refine SK (SQ (H_set (v':=.int .u8 ((UInt8.ofNat (Cod.headB u)).toNat : Int)) 7 rfl (by (first | exact head_set1 (by omega) (by omega) | exact head_set2 (by omega))) (RG rfl (MV rfl (MV rfl (HO_buildSlice (kd:=kByte) (xo:=[_]) (vs:=[_]) (cs:=[_]) (xs:=[_]) rfl rfl rfl rfl Tryz.underlying32 elt5 rfl rfl rfl (by decide) (by decide) (by simp [Value.cells]) rfl (fun _ _ _ => ⟨_,_,rfl,⟨rfl,trivial⟩,rfl⟩) ?_))))))
  intro g37
  refine HO_append (i:=1) (R:=[_]) rfl rfl rfl rfl rfl Tryz.underlying32 elt5 rfl rfl (SrcOk.own (j:=0) Tryz.underlying32 rfl rfl) ?_ ?_
  ·(simp only [List.length_append,List.length_cons,List.length_nil];omega)
  intro a38 c38
  refine AS rfl (NI [5,1,6] [_,_,_] rfl (WD 1 [_] rfl (SQ (SQ (RG rfl (MV rfl (BN rfl (bin_sub ?_ ?_) ?_)))))))
  ·omega
  ·omega
  refine AS rfl (NI [9,5,1] [_,_,_] rfl (BO (H_loop (σ:=Nat × List UInt8 × Option Addr × Nat) (fun s => s.2.1 ++ Cod.tailB u s.1 = b ++ Cod.enc u∧s.1≤8) (fun s => [(5,.slice s.2.2.1 (s.2.1.length) s.2.2.2),(1,.int .u64 (u)),(9,.int .i64 ((s.1 : Int) - 1))]) (fun s => Asn w0 ok0 M0 [.own 5 kByte s.2.2.1 s.2.2.2 (s.2.1)]) (fun s => s.1) ⟨Cod.beh u,b ++ [UInt8.ofNat (Cod.headB u)],a38,c38⟩ ?_ ?_ ?_ ?_)))
  ·exact ⟨by simp [Cod.enc],Cod.beh_le u⟩
  ·exact ⟨rfl,rfl,rfl,trivial⟩
  ·intro w hA
   exact hA.only (is:=[0]) (Z:=[]) rfl
  ·rintro ⟨j,l,a,c⟩ hI
   (try dsimp only at hI ⊢)
   refine SQ (SQ (RG rfl (MV rfl (BN rfl bin_geq (NI [42,5,1,9] [_,_,_,_] rfl (H_cond rfl ?_ ?_))))))
   ·intro h42
    replace h42:=dT h42
    refine SK (SQ (BO (RG rfl (MV rfl (MV rfl (MV rfl (BN rfl (bin_mul ?_ ?_) ?_)))))))
    ·omega
    ·omega
    refine CV rfl (cv_int Tryz.underlying3 Tryz.underlying59 (wrap_u_i rfl _)) (HO_set (v':=.int .u64 (((8 * (j - 1) : Nat) : Int))) 49 rfl (by exact congrArg (Value.int .u64) (by simp only [IntKind.bits];omega)) (BN rfl (bin_shr' ?_ ?_) ?_))
    ·(simp only [IntKind.bits];omega)
    ·omega
    refine CV rfl (cv_int Tryz.underlying97 Tryz.underlying5 (wrap_u rfl _)) (HO_set (v':=.int .u8 (((UInt8.ofNat (u / 2 ^ (8 * (j - 1)))).toNat : Int))) 51 rfl (by (exact byte_eq (by first | rfl | (congr 2;omega)))) (HO_buildSlice (kd:=kByte) (xo:=[_]) (vs:=[_]) (cs:=[_]) (xs:=[_]) rfl rfl rfl rfl Tryz.underlying32 elt5 rfl rfl rfl (by decide) (by decide) (by simp [Value.cells]) rfl (fun _ _ _ => ⟨_,_,rfl,⟨rfl,trivial⟩,rfl⟩) ?_))
    intro g52
    refine HO_append (i:=1) (R:=[_]) rfl rfl rfl rfl rfl Tryz.underlying32 elt5 rfl rfl (SrcOk.own (j:=0) Tryz.underlying32 rfl rfl) ?_ ?_
    ·(simp only [List.length_cons,List.length_nil];have:=congrArg List.length hI.1;simp only [List.length_append,Cod.tailB_length,Cod.enc_length] at this;omega)
    intro a53 c53
    refine AS rfl (NI [5,1,9] [_,_,_] rfl (WD 1 [_] rfl (BD (RG rfl (MV rfl (BN rfl (bin_sub ?_ ?_) ?_))))))
    ·omega
    ·omega
    refine AS rfl (NI [9,5,1] [_,_,_] rfl (H_inv (fun a w hf hA => ⟨⟨j - 1,l ++ [UInt8.ofNat (u / 2 ^ (8 * (j - 1)))],a53,c53⟩,?_,?_,hf.sub ?_,?_⟩)))
    ·exact ⟨by obtain ⟨j',rfl⟩ : ∃ m,j = m + 1:=⟨j - 1,by omega⟩;simpa [Cod.tailB] using hI.1,by omega⟩
    ·(try dsimp only);omega
    ·exact ⟨rfl,rfl,congrArg (fun z => some (Value.int .i64 z)) (by omega),trivial⟩
    ·exact hA.only (is:=[0]) (Z:=[]) rfl
   intro h42
   replace h42:=dF h42
   refine H_exit rfl (SQ (RG rfl (MV rfl (AS rfl (NI [4] [_] rfl ?_)))))
   obtain rfl : j = 0:=by omega
   have hI1:=hI.1
   simp only [Cod.tailB,List.append_nil] at hI1
   subst hI1
   refine R1 Tryz.results60 (a,c) rfl (fun w hA => ⟨?_,?_,?_⟩)
   ·rfl
   ·trivial
   ·exact hA.keep (m:=[yy]) (Y:=[_]) rfl
theorem rPutText_spec (b : List UInt8) (s : ByteArray) (a : Option Addr) (c : Nat) (hs : s.size≤1099511627776) (hb : b.length≤1099511627776) : Spec Tryz.prog 93 #[.slice a (b.length) c,.string (s)] [.dat kByte.sl (b) [.slice a (b.length) c]] (β:=Option Addr × Nat) (fun y => .slice y.1 ((b ++ (Cod.enc s.size ++ s.data.toList)).length) y.2) (fun y => True) (fun y => [.own 5 kByte y.1 y.2 (b ++ (Cod.enc s.size ++ s.data.toList))]):=by
 refine Spec.enter (vs:=[_,_]) Tryz.func93 rfl Tryz.ntmps93 rfl (Nat.le_of_ble_eq_true rfl) (fun w0 ok0 => ?_)
 generalize hM0 : blks _ = M0
 have hMn:=@noM _ _ hM0 (by simp [Atom.dat,Atom.elem])
 refine SQ (RG rfl (AS rfl (NI [0,1] [_,_] rfl (SQ (RG rfl (MV rfl (MV rfl (BI rfl (bi_len_str Tryz.underlying9) (CV rfl (cv_int Tryz.underlying3 Tryz.underlying97 (wrap_u_i rfl _)) (HO_set (v':=.int .u64 ((s.size : Int))) 8 rfl (by exact congrArg (Value.int .u64) (by simp only [IntKind.bits];omega)) (DU 0 rfl (CB [0] [_] rfl Tryz.call60 (rPut_spec _ _ _ _ ?_ ?_) ?_))))))))))))
 ·omega
 ·assumption
 intro y9 hy9
 refine MV rfl (HO_append (i:=0) (R:=[_]) rfl rfl rfl rfl rfl Tryz.underlying32 elt5 rfl rfl (SrcOk.str Tryz.underlying9) ?_ ?_)
 ·(have:=Cod.enc_length s.size;have:=Cod.beh_le s.size;have hss : s.data.toList.length = s.size:=Array.length_toList;simp only [List.length_append];omega)
 intro a11 c11
 refine AS rfl (NI [4] [_] rfl (WD 1 [_] rfl (R1 Tryz.results93 (a11,c11) rfl (fun w hA => ⟨?_,?_,?_⟩))))
 ·simp [List.append_assoc]
 ·trivial
 ·exact (hA.keep (m:=[yy]) (Y:=[_]) rfl).cast (by simp [List.append_assoc])
theorem rPutBool_spec (b : List UInt8) (t : Bool) (a : Option Addr) (c : Nat) (hb : b.length≤1099511627776) : Spec Tryz.prog 59 #[.slice a (b.length) c,.bool (t)] [.dat kByte.sl (b) [.slice a (b.length) c]] (β:=Option Addr × Nat) (fun y => .slice y.1 ((b ++ [if t then 84 else 70] : List UInt8).length) y.2) (fun y => True) (fun y => [.own 5 kByte y.1 y.2 (b ++ [if t then 84 else 70])]):=by
 refine Spec.enter (vs:=[_,_]) Tryz.func59 rfl Tryz.ntmps59 rfl (Nat.le_of_ble_eq_true rfl) (fun w0 ok0 => ?_)
 generalize hM0 : blks _ = M0
 have hMn:=@noM _ _ hM0 (by simp [Atom.dat,Atom.elem])
 refine SQ (RG rfl (AS rfl (NI [0,1] [_,_] rfl (SQ (SQ (RG rfl (MV rfl (NI [5,0] [_,_] rfl (H_cond rfl ?_ ?_)))))))))
 ·intro h5
  subst h5
  refine SQ (RG rfl (HO_buildSlice0 (kd:=kByte) rfl rfl Tryz.underlying32 elt5 ?_))
  intro g6
  refine MV rfl (HO_append (i:=0) (R:=[_]) rfl rfl rfl rfl rfl Tryz.underlying32 elt5 rfl rfl (SrcOk.dat (j:=0) Tryz.underlying32 rfl) ?_ ?_)
  ·(simp only [List.length_nil,List.nil_append,List.length_cons];omega)
  intro a8 c8
  refine HO_buildSlice (kd:=kByte) (xo:=[_]) (vs:=[_]) (cs:=[_]) (xs:=[(84 : UInt8)]) rfl rfl rfl rfl Tryz.underlying32 elt5 rfl rfl rfl (by decide) (by decide) (by simp [Value.cells]) rfl (fun _ _ _ => ⟨_,_,rfl,⟨rfl,trivial⟩,rfl⟩) ?_
  intro g9
  refine HO_append (i:=1) (R:=[_,_]) rfl rfl rfl rfl rfl Tryz.underlying32 elt5 rfl rfl (SrcOk.own (j:=0) Tryz.underlying32 rfl rfl) ?_ ?_
  ·(simp only [List.length_nil,List.nil_append,List.length_cons];omega)
  intro a10 c10
  refine AS rfl (NI [4] [_] rfl (WD 1 [_] rfl (R1 Tryz.results59 (a10,c10) rfl (fun w hA => ⟨?_,?_,?_⟩))))
  ·rfl
  ·trivial
  ·exact hA.keep (m:=[yy]) (Y:=[_]) rfl
 intro h5
 subst h5
 refine SK (SQ (RG rfl (HO_buildSlice0 (kd:=kByte) rfl rfl Tryz.underlying32 elt5 ?_)))
 intro g11
 refine MV rfl (HO_append (i:=0) (R:=[_]) rfl rfl rfl rfl rfl Tryz.underlying32 elt5 rfl rfl (SrcOk.dat (j:=0) Tryz.underlying32 rfl) ?_ ?_)
 ·(simp only [List.length_nil,List.nil_append,List.length_cons];omega)
 intro a13 c13
 refine HO_buildSlice (kd:=kByte) (xo:=[_]) (vs:=[_]) (cs:=[_]) (xs:=[(70 : UInt8)]) rfl rfl rfl rfl Tryz.underlying32 elt5 rfl rfl rfl (by decide) (by decide) (by simp [Value.cells]) rfl (fun _ _ _ => ⟨_,_,rfl,⟨rfl,trivial⟩,rfl⟩) ?_
 intro g14
 refine HO_append (i:=1) (R:=[_,_]) rfl rfl rfl rfl rfl Tryz.underlying32 elt5 rfl rfl (SrcOk.own (j:=0) Tryz.underlying32 rfl rfl) ?_ ?_
 ·(simp only [List.length_nil,List.nil_append,List.length_cons];omega)
 intro a15 c15
 refine AS rfl (NI [4] [_] rfl (WD 1 [_] rfl (R1 Tryz.results59 (a15,c15) rfl (fun w hA => ⟨?_,?_,?_⟩))))
 ·rfl
 ·trivial
 ·exact hA.keep (m:=[yy]) (Y:=[_]) rfl
theorem rGet_spec (b : List UInt8) (a : Option Addr) (c : Nat)  : Spec Tryz.prog 133 #[.slice a (b.length) c] [.dat kByte.sl (b) [.slice a (b.length) c]] (β:=Unit) (fun y => .tuple #[.int .u64 (((Cod.dec b).1 : Int)),.int .i64 (((Cod.dec b).2 : Int))]) (fun y => True) (fun y => []):=by
 refine Spec.enter (vs:=[_]) Tryz.func133 rfl Tryz.ntmps133 rfl (Nat.le_of_ble_eq_true rfl) (fun w0 ok0 => ?_)
 generalize hM0 : blks _ = M0
 have hMn:=@noM _ _ hM0 (by simp [Atom.dat,Atom.elem])
 refine SQ (RG rfl (AS rfl (AS rfl (NI [0] [_] rfl (SQ (SQ (RG rfl (MV rfl (BI rfl (bi_len_sl Tryz.underlying32) (BN rfl bin_eql (NI [9,0] [_,_] rfl ?_)))))))))))
 refine H_cond rfl ?_ ?_
 ·intro h9
  replace h9:=dT h9
  obtain rfl : b = []:=List.eq_nil_of_length_eq_zero (by omega)
  refine SQ (RG rfl (AS rfl (AS rfl (NI [3,2] [_,_] rfl (WD 0 [] rfl (R2 Tryz.results133 () rfl (fun w hA => ⟨?_,?_,?_⟩)))))))
  ·rfl
  ·trivial
  ·exact hA.keep (m:=[]) (Y:=[]) rfl
 intro h9
 replace h9:=dF h9
 refine SK (SQ ?_)
 obtain ⟨z0,hz0⟩ : ∃ z,b[0]? = some z:=⟨_,List.getElem?_eq_getElem (by omega)⟩
 have hlead:=Cod.lead_le z0.toNat
 have hzlt:=z0.toNat_lt
 have hdec:=Cod.dec_at' hz0
 refine RG rfl (AS rfl (NI [4,0] [_,_] rfl (SQ (BO (H_loop (σ:=Nat) (fun s => s≤Cod.lead z0.toNat∧s≤8) (fun s => [(0,.slice a (b.length) c),(4,.int .i64 ((s : Int)))]) (fun s => Asn w0 ok0 M0 [.dat kByte.sl (b) [.slice a (b.length) c]]) (fun s => 8 - s) 0 ?_ ?_ ?_ ?_)))))
 ·exact ⟨Nat.zero_le _,Nat.zero_le _⟩
 ·exact ⟨rfl,rfl,trivial⟩
 ·intro w hA
  exact hA.only (is:=[0]) (Z:=[]) rfl
 ·intro k hI
  (try dsimp only at hI ⊢)
  refine SQ (SQ (RG rfl (MV rfl (BN rfl bin_lss (MV rfl (HO_split (d:=12) rfl ?_ ?_))))))
  ·intro h12
   replace h12:=dT h12
   refine MV rfl (HO_indexAddr open_byte (i:=0) (j:=0) rfl rfl rfl rfl rfl Tryz.underlying32 Tryz.sizeOf5 rfl ?_ ?_)
   ·omega
   intro b14 o14 z14 y14 hz14 hI14
   clear y14 hI14
   obtain rfl : z0 = z14:=Option.some.inj (hz0.symm.trans hz14)
   refine LE 0 0 rfl Tryz.isAgg5 (MV rfl (BN rfl (bin_sub ?_ ?_) ?_))
   ·omega
   ·omega
   refine CV rfl (cv_int Tryz.underlying3 Tryz.underlying59 (wrap_u_i rfl _)) (HO_set (v':=.int .u64 (((7 - k : Nat) : Int))) 18 rfl (by exact congrArg (Value.int .u64) (by simp only [IntKind.bits];omega)) (BN rfl (bin_shr' ?_ ?_) ?_))
   ·(have:=z0.toNat_lt;simp only [IntKind.bits];omega)
   ·omega
   refine BN rfl (bin_and rfl ?_ ?_) ?_
   ·(exact Nat.lt_of_le_of_lt (Nat.div_le_self _ _) z0.toNat_lt)
   ·decide
   refine BN rfl bin_eql (PT rfl (NI [22,0,4] [_,_,_] rfl (WD 2 [_] rfl (H_cond rfl ?_ ?_))))
   ·intro h22
    replace h22:=dT h22
    refine SK (BO ?_)
    have hk1:=Cod.lead_go hzlt hI.1 (by omega) h22
    refine RG rfl (MV rfl (BN rfl (bin_add ?_ ?_) ?_))
    ·omega
    ·omega
    refine AS rfl (NI [4,0] [_,_] rfl (BD (H_inv (fun a w hf hA => ⟨k + 1,?_,?_,hf.sub ?_,?_⟩))))
    ·exact ⟨hk1,by omega⟩
    ·(try dsimp only);omega
    ·exact ⟨rfl,rfl,trivial⟩
    ·exact hA.only (is:=[0]) (Z:=[]) rfl
   intro h22
   replace h22:=dF h22
   refine H_exit rfl (SQ (SQ ?_))
   obtain rfl : k = Cod.lead z0.toNat:=by first | omega | exact Cod.lead_end hzlt hI.1 hI.2 (by omega) h22
   refine RG rfl (MV rfl (BI rfl (bi_len_sl Tryz.underlying32) (MV rfl (BN rfl (bin_add ?_ ?_) ?_))))
   ·omega
   ·omega
   refine BN rfl bin_lss (NI [29,0,4] [_,_,_] rfl (H_cond rfl ?_ ?_))
   ·intro h29
    replace h29:=dT h29
    rw [if_pos (by omega)] at hdec
    refine SQ (RG rfl (AS rfl (AS rfl (NI [3,2] [_,_] rfl (WD 0 [] rfl (R2 Tryz.results133 () rfl (fun w hA => ⟨?_,?_,?_⟩)))))))
    ·(rw [hdec];rfl)
    ·trivial
    ·exact hA.keep (m:=[]) (Y:=[]) rfl
   intro h29
   replace h29:=dF h29
   rw [if_neg (by omega)] at hdec
   refine SK (SQ (RG rfl (AS rfl (NI [5,0,4] [_,_,_] rfl (SQ (SQ (RG rfl (MV rfl (BN rfl bin_lss (NI [31,5,0,4] [_,_,_,_] rfl (H_cond rfl ?_ ?_)))))))))))
   ·intro h31
    replace h31:=dT h31
    refine RG rfl (MV rfl (HO_indexAddr open_byte (i:=0) (j:=0) rfl rfl rfl rfl rfl Tryz.underlying32 Tryz.sizeOf5 rfl ?_ ?_))
    ·omega
    intro b33 o33 z33 y33 hz33 hI33
    clear y33 hI33
    refine LE 0 0 rfl Tryz.isAgg5 (MV rfl (CV rfl (cv_int Tryz.underlying3 Tryz.underlying59 (wrap_u_i rfl _)) (HO_set (v':=.int .u64 (((Cod.lead z0.toNat : Nat) : Int))) 36 rfl (by exact congrArg (Value.int .u64) (by simp only [IntKind.bits];omega)) (BN rfl (bin_shr' ?_ ?_) ?_))))
    ·decide
    ·omega
    refine BN rfl (bin_and rfl ?_ ?_) ?_
    ·(exact z33.toNat_lt)
    ·(exact Nat.lt_of_le_of_lt (Nat.div_le_self _ _) (by decide))
    refine CV rfl (cv_int Tryz.underlying5 Tryz.underlying97 (wrap_u_lt rfl ?_)) ?_
    ·(exact Nat.lt_of_le_of_lt Nat.and_le_left (Nat.lt_of_lt_of_le z33.toNat_lt (by decide)))
    refine AS rfl (NI [5,0,4] [_,_,_] rfl (WD 2 [_] rfl (SQ (SQ (H_set (v':=.int .u64 ((z0.toNat &&& (255 - Cod.onesB (Cod.lead z0.toNat))) : Int)) 5 rfl ?_ ?_)))))
    ·first | exact congrArg (Value.int .u64) (Cod.mask_eq hz0 hz33 (by omega)) | exact congrArg (Value.int .u64) (Cod.mask_zero hzlt (by omega))
    refine RG rfl (AS rfl (HO_nil (BO (H_loop (σ:=Nat) (fun s => s≤Cod.lead z0.toNat) (fun s => [(0,.slice a (b.length) c),(4,.int .i64 ((Cod.lead z0.toNat : Int))),(5,.int .u64 ((Cod.foldB (z0.toNat &&& (255 - Cod.onesB (Cod.lead z0.toNat))) (List.take s (List.drop 1 b)) : Int))),(6,.int .i64 ((s : Int) + 1))]) (fun s => Asn w0 ok0 M0 [.dat kByte.sl (b) [.slice a (b.length) c]]) (fun s => Cod.lead z0.toNat - s) 0 ?_ ?_ ?_ ?_))))
    ·exact Nat.zero_le _
    ·exact ⟨rfl,rfl,rfl,rfl,trivial⟩
    ·intro w hA
     exact hA.only (is:=[0]) (Z:=[]) rfl
    ·intro m hI
     (try dsimp only at hI ⊢)
     refine SQ (SQ (RG rfl (MV rfl (MV rfl (BN rfl bin_leq (NI [42,0,4,5,6] [_,_,_,_,_] rfl (H_cond rfl ?_ ?_)))))))
     ·intro h42
      replace h42:=dT h42
      refine SK (SQ (BO (RG rfl (MV rfl (BN rfl (bin_shl (s:=8) rfl) (MV rfl (MV rfl (HO_indexAddr open_byte (i:=0) (j:=m + 1) rfl rfl rfl rfl ?_ Tryz.underlying32 Tryz.sizeOf5 rfl ?_ ?_))))))))
      ·omega
      ·omega
      intro b49 o49 z49 y49 hz49 hI49
      clear y49 hI49
      refine LE 0 0 rfl Tryz.isAgg5 (CV rfl (cv_int Tryz.underlying5 Tryz.underlying97 (wrap_u_lt rfl ?_)) ?_)
      ·(have:=z49.toNat_lt;simp only [IntKind.bits];omega)
      refine BN rfl (bin_or rfl ?_ ?_) ?_
      ·(exact Nat.mod_lt _ (by decide))
      ·(have:=z49.toNat_lt;simp only [IntKind.bits];omega)
      refine AS rfl (NI [5,0,4,6] [_,_,_,_] rfl (WD 2 [_] rfl (BD (RG rfl (MV rfl (BN rfl (bin_add ?_ ?_) ?_))))))
      ·omega
      ·omega
      refine AS rfl (NI [6,5,0,4] [_,_,_,_] rfl (H_inv (fun a w hf hA => ⟨m + 1,?_,?_,hf.sub ?_,?_⟩)))
      ·omega
      ·(try dsimp only);omega
      ·exact ⟨rfl,rfl,congrArg (fun m : Nat => some (Value.int .u64 (m : Int))) (Cod.foldB_take (by rw [List.getElem?_drop,Nat.add_comm];exact hz49)),congrArg (fun z => some (Value.int .i64 z)) (by omega),trivial⟩
      ·exact hA.only (is:=[0]) (Z:=[]) rfl
     intro h42
     replace h42:=dF h42
     refine H_exit rfl (SQ (SQ ?_))
     obtain rfl : m = Cod.lead z0.toNat:=by omega
     refine RG rfl (MV rfl (CB [] [_] rfl Tryz.call92 (rmore_spec _ ?_) ?_))
     ·(exact Cod.foldB_lt (Nat.lt_of_le_of_lt Nat.and_le_left (Nat.lt_of_lt_of_le z0.toNat_lt (by decide))) _)
     intro y54 hy54
     clear y54 hy54
     refine MV rfl (BN rfl bin_neq (NI [56,4,5] [_,_,_] rfl (WD 0 [] rfl (H_cond rfl ?_ ?_))))
     ·intro h56
      replace h56:=dT h56
      rw [if_neg (by omega)] at hdec
      refine SQ (RG rfl (AS rfl (AS rfl (NI [3,2] [_,_] rfl (R2 Tryz.results133 () rfl (fun w hA => ⟨?_,?_,?_⟩))))))
      ·(rw [hdec];rfl)
      ·trivial
      ·exact hA.keep (m:=[]) (Y:=[]) rfl
     intro h56
     replace h56:=dF h56
     rw [if_pos (by omega)] at hdec
     refine SK (SQ (RG rfl (MV rfl (MV rfl (BN rfl (bin_add ?_ ?_) ?_)))))
     ·omega
     ·omega
     refine AS rfl (AS rfl (NI [3,2] [_,_] rfl (R2 Tryz.results133 () rfl (fun w hA => ⟨?_,?_,?_⟩))))
     ·(rw [hdec];rfl)
     ·trivial
     ·exact hA.keep (m:=[]) (Y:=[]) rfl
   intro h31
   replace h31:=dF h31
   refine SK (SQ (SQ (H_set (v':=.int .u64 ((z0.toNat &&& (255 - Cod.onesB (Cod.lead z0.toNat))) : Int)) 5 rfl ?_ ?_)))
   ·first | exact congrArg (Value.int .u64) (Cod.mask_eq hz0 hz33 (by omega)) | exact congrArg (Value.int .u64) (Cod.mask_zero hzlt (by omega))
   refine RG rfl (AS rfl (NI [6,5,0,4] [_,_,_,_] rfl (BO (H_loop (σ:=Nat) (fun s => s≤Cod.lead z0.toNat) (fun s => [(0,.slice a (b.length) c),(4,.int .i64 ((Cod.lead z0.toNat : Int))),(5,.int .u64 ((Cod.foldB (z0.toNat &&& (255 - Cod.onesB (Cod.lead z0.toNat))) (List.take s (List.drop 1 b)) : Int))),(6,.int .i64 ((s : Int) + 1))]) (fun s => Asn w0 ok0 M0 [.dat kByte.sl (b) [.slice a (b.length) c]]) (fun s => Cod.lead z0.toNat - s) 0 ?_ ?_ ?_ ?_))))
   ·exact Nat.zero_le _
   ·exact ⟨rfl,rfl,rfl,rfl,trivial⟩
   ·intro w hA
    exact hA.only (is:=[0]) (Z:=[]) rfl
   ·intro m hI
    (try dsimp only at hI ⊢)
    refine SQ (SQ (RG rfl (MV rfl (MV rfl (BN rfl bin_leq (NI [42,0,4,5,6] [_,_,_,_,_] rfl (H_cond rfl ?_ ?_)))))))
    ·intro h42
     replace h42:=dT h42
     refine SK (SQ (BO (RG rfl (MV rfl (BN rfl (bin_shl (s:=8) rfl) (MV rfl (MV rfl (HO_indexAddr open_byte (i:=0) (j:=m + 1) rfl rfl rfl rfl ?_ Tryz.underlying32 Tryz.sizeOf5 rfl ?_ ?_))))))))
     ·omega
     ·omega
     intro b49 o49 z49 y49 hz49 hI49
     clear y49 hI49
     refine LE 0 0 rfl Tryz.isAgg5 (CV rfl (cv_int Tryz.underlying5 Tryz.underlying97 (wrap_u_lt rfl ?_)) ?_)
     ·(have:=z49.toNat_lt;simp only [IntKind.bits];omega)
     refine BN rfl (bin_or rfl ?_ ?_) ?_
     ·(exact Nat.mod_lt _ (by decide))
     ·(have:=z49.toNat_lt;simp only [IntKind.bits];omega)
     refine AS rfl (NI [5,0,4,6] [_,_,_,_] rfl (WD 2 [_] rfl (BD (RG rfl (MV rfl (BN rfl (bin_add ?_ ?_) ?_))))))
     ·omega
     ·omega
     refine AS rfl (NI [6,5,0,4] [_,_,_,_] rfl (H_inv (fun a w hf hA => ⟨m + 1,?_,?_,hf.sub ?_,?_⟩)))
     ·omega
     ·(try dsimp only);omega
     ·exact ⟨rfl,rfl,congrArg (fun m : Nat => some (Value.int .u64 (m : Int))) (Cod.foldB_take (by rw [List.getElem?_drop,Nat.add_comm];exact hz49)),congrArg (fun z => some (Value.int .i64 z)) (by omega),trivial⟩
     ·exact hA.only (is:=[0]) (Z:=[]) rfl
    intro h42
    replace h42:=dF h42
    refine H_exit rfl (SQ (SQ ?_))
    obtain rfl : m = Cod.lead z0.toNat:=by omega
    refine RG rfl (MV rfl (CB [] [_] rfl Tryz.call92 (rmore_spec _ ?_) ?_))
    ·(exact Cod.foldB_lt (Nat.lt_of_le_of_lt Nat.and_le_left (Nat.lt_of_lt_of_le z0.toNat_lt (by decide))) _)
    intro y54 hy54
    clear y54 hy54
    refine MV rfl (BN rfl bin_neq (NI [56,4,5] [_,_,_] rfl (WD 0 [] rfl (H_cond rfl ?_ ?_))))
    ·intro h56
     replace h56:=dT h56
     rw [if_neg (by omega)] at hdec
     refine SQ (RG rfl (AS rfl (AS rfl (NI [3,2] [_,_] rfl (R2 Tryz.results133 () rfl (fun w hA => ⟨?_,?_,?_⟩))))))
     ·(rw [hdec];rfl)
     ·trivial
     ·exact hA.keep (m:=[]) (Y:=[]) rfl
    intro h56
    replace h56:=dF h56
    rw [if_pos (by omega)] at hdec
    refine SK (SQ (RG rfl (MV rfl (MV rfl (BN rfl (bin_add ?_ ?_) ?_)))))
    ·omega
    ·omega
    refine AS rfl (AS rfl (NI [3,2] [_,_] rfl (R2 Tryz.results133 () rfl (fun w hA => ⟨?_,?_,?_⟩))))
    ·(rw [hdec];rfl)
    ·trivial
    ·exact hA.keep (m:=[]) (Y:=[]) rfl
  intro h12
  replace h12:=dF h12
  iterate 9 refine HO_no rfl rfl rfl ?_
  refine PF rfl (NI [22,0,4] [_,_,_] rfl (CF rfl (H_exit rfl (SQ (SQ ?_)))))
  obtain rfl : k = Cod.lead z0.toNat:=by first | omega | exact Cod.lead_end hzlt hI.1 hI.2 (by omega) h22
  refine RG rfl (MV rfl (BI rfl (bi_len_sl Tryz.underlying32) (MV rfl (BN rfl (bin_add ?_ ?_) ?_))))
  ·omega
  ·omega
  refine BN rfl bin_lss (NI [29,0,4] [_,_,_] rfl (H_cond rfl ?_ ?_))
  ·intro h29
   replace h29:=dT h29
   rw [if_pos (by omega)] at hdec
   refine SQ (RG rfl (AS rfl (AS rfl (NI [3,2] [_,_] rfl (WD 0 [] rfl (R2 Tryz.results133 () rfl (fun w hA => ⟨?_,?_,?_⟩)))))))
   ·(rw [hdec];rfl)
   ·trivial
   ·exact hA.keep (m:=[]) (Y:=[]) rfl
  intro h29
  replace h29:=dF h29
  rw [if_neg (by omega)] at hdec
  refine SK (SQ (RG rfl (AS rfl (NI [5,0,4] [_,_,_] rfl (SQ (SQ (RG rfl (MV rfl (BN rfl bin_lss (NI [31,5,0,4] [_,_,_,_] rfl (H_cond rfl ?_ ?_)))))))))))
  ·intro h31
   replace h31:=dT h31
   refine RG rfl (MV rfl (HO_indexAddr open_byte (i:=0) (j:=0) rfl rfl rfl rfl rfl Tryz.underlying32 Tryz.sizeOf5 rfl ?_ ?_))
   ·omega
   intro b33 o33 z33 y33 hz33 hI33
   clear y33 hI33
   refine LE 0 0 rfl Tryz.isAgg5 (MV rfl (CV rfl (cv_int Tryz.underlying3 Tryz.underlying59 (wrap_u_i rfl _)) (HO_set (v':=.int .u64 (((Cod.lead z0.toNat : Nat) : Int))) 36 rfl (by exact congrArg (Value.int .u64) (by simp only [IntKind.bits];omega)) (BN rfl (bin_shr' ?_ ?_) ?_))))
   ·decide
   ·omega
   refine BN rfl (bin_and rfl ?_ ?_) ?_
   ·(exact z33.toNat_lt)
   ·(exact Nat.lt_of_le_of_lt (Nat.div_le_self _ _) (by decide))
   refine CV rfl (cv_int Tryz.underlying5 Tryz.underlying97 (wrap_u_lt rfl ?_)) ?_
   ·(exact Nat.lt_of_le_of_lt Nat.and_le_left (Nat.lt_of_lt_of_le z33.toNat_lt (by decide)))
   refine AS rfl (NI [5,0,4] [_,_,_] rfl (WD 2 [_] rfl (SQ (SQ (H_set (v':=.int .u64 ((z0.toNat &&& (255 - Cod.onesB (Cod.lead z0.toNat))) : Int)) 5 rfl ?_ ?_)))))
   ·first | exact congrArg (Value.int .u64) (Cod.mask_eq hz0 hz33 (by omega)) | exact congrArg (Value.int .u64) (Cod.mask_zero hzlt (by omega))
   refine RG rfl (AS rfl (HO_nil (BO (H_loop (σ:=Nat) (fun s => s≤Cod.lead z0.toNat) (fun s => [(0,.slice a (b.length) c),(4,.int .i64 ((Cod.lead z0.toNat : Int))),(5,.int .u64 ((Cod.foldB (z0.toNat &&& (255 - Cod.onesB (Cod.lead z0.toNat))) (List.take s (List.drop 1 b)) : Int))),(6,.int .i64 ((s : Int) + 1))]) (fun s => Asn w0 ok0 M0 [.dat kByte.sl (b) [.slice a (b.length) c]]) (fun s => Cod.lead z0.toNat - s) 0 ?_ ?_ ?_ ?_))))
   ·exact Nat.zero_le _
   ·exact ⟨rfl,rfl,rfl,rfl,trivial⟩
   ·intro w hA
    exact hA.only (is:=[0]) (Z:=[]) rfl
   ·intro m hI
    (try dsimp only at hI ⊢)
    refine SQ (SQ (RG rfl (MV rfl (MV rfl (BN rfl bin_leq (NI [42,0,4,5,6] [_,_,_,_,_] rfl (H_cond rfl ?_ ?_)))))))
    ·intro h42
     replace h42:=dT h42
     refine SK (SQ (BO (RG rfl (MV rfl (BN rfl (bin_shl (s:=8) rfl) (MV rfl (MV rfl (HO_indexAddr open_byte (i:=0) (j:=m + 1) rfl rfl rfl rfl ?_ Tryz.underlying32 Tryz.sizeOf5 rfl ?_ ?_))))))))
     ·omega
     ·omega
     intro b49 o49 z49 y49 hz49 hI49
     clear y49 hI49
     refine LE 0 0 rfl Tryz.isAgg5 (CV rfl (cv_int Tryz.underlying5 Tryz.underlying97 (wrap_u_lt rfl ?_)) ?_)
     ·(have:=z49.toNat_lt;simp only [IntKind.bits];omega)
     refine BN rfl (bin_or rfl ?_ ?_) ?_
     ·(exact Nat.mod_lt _ (by decide))
     ·(have:=z49.toNat_lt;simp only [IntKind.bits];omega)
     refine AS rfl (NI [5,0,4,6] [_,_,_,_] rfl (WD 2 [_] rfl (BD (RG rfl (MV rfl (BN rfl (bin_add ?_ ?_) ?_))))))
     ·omega
     ·omega
     refine AS rfl (NI [6,5,0,4] [_,_,_,_] rfl (H_inv (fun a w hf hA => ⟨m + 1,?_,?_,hf.sub ?_,?_⟩)))
     ·omega
     ·(try dsimp only);omega
     ·exact ⟨rfl,rfl,congrArg (fun m : Nat => some (Value.int .u64 (m : Int))) (Cod.foldB_take (by rw [List.getElem?_drop,Nat.add_comm];exact hz49)),congrArg (fun z => some (Value.int .i64 z)) (by omega),trivial⟩
     ·exact hA.only (is:=[0]) (Z:=[]) rfl
    intro h42
    replace h42:=dF h42
    refine H_exit rfl (SQ (SQ ?_))
    obtain rfl : m = Cod.lead z0.toNat:=by omega
    refine RG rfl (MV rfl (CB [] [_] rfl Tryz.call92 (rmore_spec _ ?_) ?_))
    ·(exact Cod.foldB_lt (Nat.lt_of_le_of_lt Nat.and_le_left (Nat.lt_of_lt_of_le z0.toNat_lt (by decide))) _)
    intro y54 hy54
    clear y54 hy54
    refine MV rfl (BN rfl bin_neq (NI [56,4,5] [_,_,_] rfl (WD 0 [] rfl (H_cond rfl ?_ ?_))))
    ·intro h56
     replace h56:=dT h56
     rw [if_neg (by omega)] at hdec
     refine SQ (RG rfl (AS rfl (AS rfl (NI [3,2] [_,_] rfl (R2 Tryz.results133 () rfl (fun w hA => ⟨?_,?_,?_⟩))))))
     ·(rw [hdec];rfl)
     ·trivial
     ·exact hA.keep (m:=[]) (Y:=[]) rfl
    intro h56
    replace h56:=dF h56
    rw [if_pos (by omega)] at hdec
    refine SK (SQ (RG rfl (MV rfl (MV rfl (BN rfl (bin_add ?_ ?_) ?_)))))
    ·omega
    ·omega
    refine AS rfl (AS rfl (NI [3,2] [_,_] rfl (R2 Tryz.results133 () rfl (fun w hA => ⟨?_,?_,?_⟩))))
    ·(rw [hdec];rfl)
    ·trivial
    ·exact hA.keep (m:=[]) (Y:=[]) rfl
  intro h31
  replace h31:=dF h31
  refine SK (SQ (SQ (H_set (v':=.int .u64 ((z0.toNat &&& (255 - Cod.onesB (Cod.lead z0.toNat))) : Int)) 5 rfl ?_ ?_)))
  ·first | exact congrArg (Value.int .u64) (Cod.mask_eq hz0 hz33 (by omega)) | exact congrArg (Value.int .u64) (Cod.mask_zero hzlt (by omega))
  refine RG rfl (AS rfl (NI [6,5,0,4] [_,_,_,_] rfl (BO (H_loop (σ:=Nat) (fun s => s≤Cod.lead z0.toNat) (fun s => [(0,.slice a (b.length) c),(4,.int .i64 ((Cod.lead z0.toNat : Int))),(5,.int .u64 ((Cod.foldB (z0.toNat &&& (255 - Cod.onesB (Cod.lead z0.toNat))) (List.take s (List.drop 1 b)) : Int))),(6,.int .i64 ((s : Int) + 1))]) (fun s => Asn w0 ok0 M0 [.dat kByte.sl (b) [.slice a (b.length) c]]) (fun s => Cod.lead z0.toNat - s) 0 ?_ ?_ ?_ ?_))))
  ·exact Nat.zero_le _
  ·exact ⟨rfl,rfl,rfl,rfl,trivial⟩
  ·intro w hA
   exact hA.only (is:=[0]) (Z:=[]) rfl
  ·intro m hI
   (try dsimp only at hI ⊢)
   refine SQ (SQ (RG rfl (MV rfl (MV rfl (BN rfl bin_leq (NI [42,0,4,5,6] [_,_,_,_,_] rfl (H_cond rfl ?_ ?_)))))))
   ·intro h42
    replace h42:=dT h42
    refine SK (SQ (BO (RG rfl (MV rfl (BN rfl (bin_shl (s:=8) rfl) (MV rfl (MV rfl (HO_indexAddr open_byte (i:=0) (j:=m + 1) rfl rfl rfl rfl ?_ Tryz.underlying32 Tryz.sizeOf5 rfl ?_ ?_))))))))
    ·omega
    ·omega
    intro b49 o49 z49 y49 hz49 hI49
    clear y49 hI49
    refine LE 0 0 rfl Tryz.isAgg5 (CV rfl (cv_int Tryz.underlying5 Tryz.underlying97 (wrap_u_lt rfl ?_)) ?_)
    ·(have:=z49.toNat_lt;simp only [IntKind.bits];omega)
    refine BN rfl (bin_or rfl ?_ ?_) ?_
    ·(exact Nat.mod_lt _ (by decide))
    ·(have:=z49.toNat_lt;simp only [IntKind.bits];omega)
    refine AS rfl (NI [5,0,4,6] [_,_,_,_] rfl (WD 2 [_] rfl (BD (RG rfl (MV rfl (BN rfl (bin_add ?_ ?_) ?_))))))
    ·omega
    ·omega
    refine AS rfl (NI [6,5,0,4] [_,_,_,_] rfl (H_inv (fun a w hf hA => ⟨m + 1,?_,?_,hf.sub ?_,?_⟩)))
    ·omega
    ·(try dsimp only);omega
    ·exact ⟨rfl,rfl,congrArg (fun m : Nat => some (Value.int .u64 (m : Int))) (Cod.foldB_take (by rw [List.getElem?_drop,Nat.add_comm];exact hz49)),congrArg (fun z => some (Value.int .i64 z)) (by omega),trivial⟩
    ·exact hA.only (is:=[0]) (Z:=[]) rfl
   intro h42
   replace h42:=dF h42
   refine H_exit rfl (SQ (SQ ?_))
   obtain rfl : m = Cod.lead z0.toNat:=by omega
   refine RG rfl (MV rfl (CB [] [_] rfl Tryz.call92 (rmore_spec _ ?_) ?_))
   ·(exact Cod.foldB_lt (Nat.lt_of_le_of_lt Nat.and_le_left (Nat.lt_of_lt_of_le z0.toNat_lt (by decide))) _)
   intro y54 hy54
   clear y54 hy54
   refine MV rfl (BN rfl bin_neq (NI [56,4,5] [_,_,_] rfl (WD 0 [] rfl (H_cond rfl ?_ ?_))))
   ·intro h56
    replace h56:=dT h56
    rw [if_neg (by omega)] at hdec
    refine SQ (RG rfl (AS rfl (AS rfl (NI [3,2] [_,_] rfl (R2 Tryz.results133 () rfl (fun w hA => ⟨?_,?_,?_⟩))))))
    ·(rw [hdec];rfl)
    ·trivial
    ·exact hA.keep (m:=[]) (Y:=[]) rfl
   intro h56
   replace h56:=dF h56
   rw [if_pos (by omega)] at hdec
   refine SK (SQ (RG rfl (MV rfl (MV rfl (BN rfl (bin_add ?_ ?_) ?_)))))
   ·omega
   ·omega
   refine AS rfl (AS rfl (NI [3,2] [_,_] rfl (R2 Tryz.results133 () rfl (fun w hA => ⟨?_,?_,?_⟩))))
   ·(rw [hdec];rfl)
   ·trivial
   ·exact hA.keep (m:=[]) (Y:=[]) rfl
theorem rGetText_spec (b : List UInt8) (a : Option Addr) (c : Nat) (hb : b.length≤1099511627776) : Spec Tryz.prog 134 #[.slice a (b.length) c] [.dat kByte.sl (b) [.slice a (b.length) c]] (β:=Unit) (fun y => .tuple #[.string (⟨(Cod.decT b).1.toArray⟩),.int .i64 (((Cod.decT b).2 : Int))]) (fun y => True) (fun y => []):=by
 have hlt:=Cod.dec_lt b
 have hle:=Cod.dec_len b
 have hu:=Cod.decT.eq_1 b
 refine Spec.enter (vs:=[_]) Tryz.func134 rfl Tryz.ntmps134 rfl (Nat.le_of_ble_eq_true rfl) (fun w0 ok0 => ?_)
 generalize hM0 : blks _ = M0
 have hMn:=@noM _ _ hM0 (by simp [Atom.dat,Atom.elem])
 refine SQ (RG rfl (AS rfl (AS rfl (NI [0] [_] rfl (SQ (RG rfl (MV rfl (DU 0 rfl (CB [0] [_] rfl Tryz.call133 (rGet_spec _ _ _) ?_)))))))))
 intro y8 hy8
 clear y8 hy8
 refine MV rfl (EX [_,_] rfl (EX [_,_] rfl (AS rfl (AS rfl (NI [5,4,0] [_,_,_] rfl (SQ (SQ (RG rfl (MV rfl (BN rfl bin_eql (MV rfl (HO_split (d:=13) rfl ?_ ?_))))))))))))
 ·intro h13
  replace h13:=dT h13
  iterate 7 refine HO_no rfl rfl rfl ?_
  refine PT rfl (NI [21,5,4,0] [_,_,_,_] rfl (CT rfl (SQ (RG rfl (AS rfl (AS rfl (NI [3,2] [_,_] rfl (WD 0 [] rfl (R2 Tryz.results134 () rfl (fun w hA => ⟨?_,?_,?_⟩))))))))))
  ·(rw [hu,if_pos (by omega)];rfl)
  ·trivial
  ·exact hA.keep (m:=[]) (Y:=[]) rfl
 intro h13
 replace h13:=dF h13
 refine MV rfl (MV rfl (BI rfl (bi_len_sl Tryz.underlying32) (MV rfl (BN rfl (bin_sub ?_ ?_) ?_))))
 ·omega
 ·omega
 refine CV rfl (cv_int Tryz.underlying3 Tryz.underlying97 (wrap_u_i rfl _)) (HO_set (v':=.int .u64 (((b.length - (Cod.dec b).2 : Nat) : Int))) 19 rfl (by exact congrArg (Value.int .u64) (by simp only [IntKind.bits];omega)) (BN rfl bin_gtr (PF rfl (NI [21,5,4,0] [_,_,_,_] rfl (H_cond rfl ?_ ?_)))))
 ·intro h21
  replace h21:=dT h21
  refine SQ (RG rfl (AS rfl (AS rfl (NI [3,2] [_,_] rfl (WD 0 [] rfl (R2 Tryz.results134 () rfl (fun w hA => ⟨?_,?_,?_⟩)))))))
  ·(rw [hu,if_pos (by omega)];rfl)
  ·trivial
  ·exact hA.keep (m:=[]) (Y:=[]) rfl
 intro h21
 replace h21:=dF h21
 refine SK (SQ (RG rfl (MV rfl (MV rfl (MV rfl (MV rfl (CV rfl (cv_int Tryz.underlying97 Tryz.underlying3 (wrap_i64_nat ?_)) ?_)))))))
 ·omega
 refine BN rfl (bin_add ?_ ?_) ?_
 ·omega
 ·omega
 refine HO_slice_lh (i:=0) (l:=(Cod.dec b).2) (h':=(Cod.dec b).2 + (Cod.dec b).1) rfl rfl rfl rfl rfl ?_ ?_ Tryz.underlying32 Tryz.sizeOf5 rfl ?_ ?_ ?_
 ·omega
 ·omega
 ·omega
 ·omega
 intro a28 c28
 refine HO_bytesStr (i:=0) rfl rfl rfl Tryz.underlying32 Tryz.underlying9 Tryz.underlying5 rfl (MV rfl (MV rfl (CV rfl (cv_int Tryz.underlying97 Tryz.underlying3 (wrap_i64_nat ?_)) ?_)))
 ·omega
 refine BN rfl (bin_add ?_ ?_) ?_
 ·omega
 ·omega
 refine AS rfl (AS rfl (NI [3,2] [_,_] rfl (WD 0 [] rfl (R2 Tryz.results134 () rfl (fun w hA => ⟨?_,?_,?_⟩)))))
 ·(rw [hu,if_neg (by omega)];rfl)
 ·trivial
 ·exact hA.keep (m:=[]) (Y:=[]) rfl
theorem rGetBool_spec (b : List UInt8) (a : Option Addr) (c : Nat)  : Spec Tryz.prog 109 #[.slice a (b.length) c] [.dat kByte.sl (b) [.slice a (b.length) c]] (β:=Unit) (fun y => .tuple #[.bool ((Cod.decB b).1),.int .i64 (((Cod.decB b).2 : Int))]) (fun y => True) (fun y => []):=by
 refine Spec.enter (vs:=[_]) Tryz.func109 rfl Tryz.ntmps109 rfl (Nat.le_of_ble_eq_true rfl) (fun w0 ok0 => ?_)
 generalize hM0 : blks _ = M0
 have hMn:=@noM _ _ hM0 (by simp [Atom.dat,Atom.elem])
 refine SQ (RG rfl (AS rfl (AS rfl (NI [0] [_] rfl (SQ (SQ (RG rfl (MV rfl (BI rfl (bi_len_sl Tryz.underlying32) (BN rfl bin_eql (MV rfl (HO_split (d:=7) rfl ?_ ?_))))))))))))
 ·intro h7
  replace h7:=dT h7
  iterate 10 refine HO_no rfl rfl rfl ?_
  refine PT rfl (NI [18,0] [_,_] rfl (CT rfl (SQ (RG rfl (AS rfl (AS rfl (NI [3,2] [_,_] rfl (WD 0 [] rfl ?_))))))))
  obtain rfl : b = []:=List.eq_nil_of_length_eq_zero (by omega)
  refine R2 Tryz.results109 () rfl (fun w hA => ⟨?_,?_,?_⟩)
  ·rfl
  ·trivial
  ·exact hA.keep (m:=[]) (Y:=[]) rfl
 intro h7
 replace h7:=dF h7
 refine MV rfl (HO_indexAddr open_byte (i:=0) (j:=0) rfl rfl rfl rfl rfl Tryz.underlying32 Tryz.sizeOf5 rfl ?_ ?_)
 ·omega
 intro b9 o9 z9 y9 hz9 hI9
 clear y9 hI9
 refine LE 0 0 rfl Tryz.isAgg5 (BN rfl bin_neq (MV rfl (HO_split (d:=12) rfl ?_ ?_)))
 ·intro h12
  replace h12:=dT h12
  refine MV rfl (HO_indexAddr open_byte (i:=1) (j:=0) rfl rfl rfl rfl rfl Tryz.underlying32 Tryz.sizeOf5 rfl ?_ ?_)
  ·omega
  intro b14 o14 z14 y14 hz14 hI14
  clear y14 hI14
  refine LE 0 0 rfl Tryz.isAgg5 (BN rfl bin_neq (PT rfl (PF rfl (NI [18,0] [_,_] rfl (WD 4 [_] rfl (H_cond rfl ?_ ?_))))))
  ·intro h18
   replace h18:=dT h18
   refine SQ (RG rfl (AS rfl (AS rfl (NI [3,2] [_,_] rfl (WD 0 [] rfl (R2 Tryz.results109 () rfl (fun w hA => ⟨?_,?_,?_⟩)))))))
   ·(first | (rw [Cod.getb_no hz9 hz14 h12 h18];rfl) | (rw [Cod.getb_yes hz9 hz20 (.inl (by omega))];rfl) | (rw [Cod.getb_yes hz14 hz20 (.inr (by omega))];rfl))
   ·trivial
   ·exact hA.keep (m:=[]) (Y:=[]) rfl
  intro h18
  replace h18:=dF h18
  refine SK (SQ (RG rfl (MV rfl (HO_indexAddr open_byte (i:=0) (j:=0) rfl rfl rfl rfl rfl Tryz.underlying32 Tryz.sizeOf5 rfl ?_ ?_))))
  ·omega
  intro b20 o20 z20 y20 hz20 hI20
  clear y20 hI20
  refine LE 0 0 rfl Tryz.isAgg5 (BN rfl bin_eql (AS rfl (AS rfl (NI [3,2] [_,_] rfl (WD 0 [] rfl (R2 Tryz.results109 () rfl (fun w hA => ⟨?_,?_,?_⟩)))))))
  ·(first | (rw [Cod.getb_no hz9 hz14 h12 h18];rfl) | (rw [Cod.getb_yes hz9 hz20 (.inl (by omega))];rfl) | (rw [Cod.getb_yes hz14 hz20 (.inr (by omega))];rfl))
  ·trivial
  ·exact hA.keep (m:=[]) (Y:=[]) rfl
 intro h12
 replace h12:=dF h12
 refine NO rfl (NO rfl (NO rfl (NO rfl (PF rfl (PF rfl (NI [18,0] [_,_] rfl (WD 2 [_] rfl (CF rfl (SK (SQ (RG rfl (MV rfl ?_))))))))))))
 refine HO_indexAddr open_byte (i:=0) (j:=0) rfl rfl rfl rfl rfl Tryz.underlying32 Tryz.sizeOf5 rfl ?_ ?_
 ·omega
 intro b20 o20 z20 y20 hz20 hI20
 clear y20 hI20
 refine LE 0 0 rfl Tryz.isAgg5 (BN rfl bin_eql (AS rfl (AS rfl (NI [3,2] [_,_] rfl (WD 0 [] rfl (R2 Tryz.results109 () rfl (fun w hA => ⟨?_,?_,?_⟩)))))))
 ·(first | (rw [Cod.getb_no hz9 hz14 h12 h18];rfl) | (rw [Cod.getb_yes hz9 hz20 (.inl (by omega))];rfl) | (rw [Cod.getb_yes hz14 hz20 (.inr (by omega))];rfl))
 ·trivial
 ·exact hA.keep (m:=[]) (Y:=[]) rfl
end Go.Wk
