/- Contracts of the program's functions, each proved by walking its code. -/
import Derived.Test.YtdaphlemhmgncaaGreatKgref01
set_option maxRecDepth 100000
set_option linter.unusedVariables false
set_option linter.unusedSimpArgs false
namespace Go.Wk.Fref01b
open Go Go.RowKit Go.Proofs Go.Wk
theorem elt5 : Elt Tryz.prog 5 (.int .u8 (0)) 1 1:=Elt.of (by kernel_rfl) (by rfl) (by decide) (by decide)
end Go.Wk.Fref01b
namespace Go.Wk
open Go Go.RowKit Go.Proofs Fref01b 
theorem rSum_spec (b : List UInt8) (a : Option Addr) (c : Nat)  : Spec Tryz.prog 57 #[.slice a (b.length) c] [.dat kByte.sl (b) [.slice a (b.length) c]] (β:=Unit) (fun y => .int .u32 ((Cod.crc b : Int))) (fun y => True) (fun y => []):=by
 refine Spec.enter (vs:=[_]) Tryz.func57 rfl Tryz.ntmps57 rfl (Nat.le_of_ble_eq_true rfl) (fun w0 ok0 => ?_)
 generalize hM0 : blks _ = M0
 have hMn:=@noM _ _ hM0 (by simp [Atom.dat,Atom.elem])
 refine SQ (RG rfl (AS rfl (NI [0] [_] rfl (SQ (RG rfl (AS rfl (HO_nil (SQ (SQ (H_len_le (i:=0) rfl (fun hlen => ?_)))))))))))
 refine RG rfl (MV rfl (BI rfl (bi_len_sl Tryz.underlying32) (MV rfl (NI [10,9,8,3] [_,_,_,_] rfl (BO (H_loop (σ:=Nat) (fun s => s≤b.length) (fun s => [(8,.slice a (b.length) c),(3,.int .u32 ((Cod.crcS 4294967295 (List.take s b) : Int))),(9,.int .i64 ((b.length : Int))),(10,.int .i64 ((s : Int)))]) (fun s => Asn w0 ok0 M0 [.dat kByte.sl (b) [.slice a (b.length) c]]) (fun s => b.length - s) 0 ?_ ?_ ?_ ?_))))))
 ·exact Nat.zero_le _
 ·exact ⟨rfl,rfl,rfl,rfl,trivial⟩
 ·intro w hA
  exact hA.only (is:=[0]) (Z:=[]) rfl
 ·intro i hI
  (try dsimp only at hI ⊢)
  refine SQ (RG rfl (BN rfl bin_lss (HO_nil (SQ (H_cond rfl ?_ ?_)))))
  ·intro h11
   replace h11:=dT h11
   refine SK (SQ (BO (SQ (RG rfl (HO_indexAddr open_byte (i:=0) rfl rfl rfl rfl rfl Tryz.underlying32 Tryz.sizeOf5 rfl ?_ ?_)))))
   ·omega
   intro b12 o12 z12 y12 hz12 hI12
   clear y12 hI12
   refine LE 0 0 rfl Tryz.isAgg5 (AS rfl (NI [5,8,3,9,10] [_,_,_,_,_] rfl (WD 2 [_] rfl (SQ (RG rfl (AS rfl (HO_nil (BO (H_loop (σ:=Nat × Nat) (fun s => s.2 ^^^ (z12.toNat / 2 ^ s.1) = Cod.iter Cod.step1 s.1 (Cod.crcS 4294967295 (List.take i b) ^^^ z12.toNat)∧s.2 < 4294967296∧s.1≤8) (fun s => [(8,.slice a (b.length) c),(3,.int .u32 ((s.2 : Int))),(5,.int .u8 ((z12.toNat : Int))),(6,.int .i64 ((s.1 : Int))),(9,.int .i64 ((b.length : Int))),(10,.int .i64 ((i : Int)))]) (fun s => Asn w0 ok0 M0 [.dat kByte.sl (b) [.slice a (b.length) c]]) (fun s => 8 - s.1) ⟨0,Cod.crcS 4294967295 (List.take i b)⟩ ?_ ?_ ?_ ?_)))))))))
   ·exact ⟨by simp [Cod.iter],Cod.crcS_lt (by decide) _,Nat.zero_le _⟩
   ·exact ⟨rfl,rfl,rfl,rfl,rfl,rfl,trivial⟩
   ·intro w hA
    exact hA.only (is:=[0]) (Z:=[]) rfl
   ·rintro ⟨j,q⟩ hI
    (try dsimp only at hI ⊢)
    refine SQ (SQ (RG rfl (MV rfl (BN rfl bin_lss (NI [15,8,3,5,6,9,10] [_,_,_,_,_,_,_] rfl (H_cond rfl ?_ ?_))))))
    ·intro h15
     replace h15:=dT h15
     refine SK (SQ (BO (SQ (RG rfl (MV rfl (MV rfl (MV rfl (CV rfl (cv_int Tryz.underlying3 Tryz.underlying59 (wrap_u_i rfl _)) (HO_set (v':=.int .u64 (((j : Nat) : Int))) 21 rfl (by exact congrArg (Value.int .u64) (by simp only [IntKind.bits];omega)) (BN rfl (bin_shr' ?_ ?_) ?_))))))))))
     ·(have:=z12.toNat_lt;simp only [IntKind.bits];omega)
     ·omega
     refine CV rfl (cv_int Tryz.underlying5 Tryz.underlying89 (wrap_u_lt rfl ?_)) ?_
     ·(simp only [Int.toNat_natCast];have:=Nat.div_le_self z12.toNat (2 ^ j);have:=z12.toNat_lt;simp only [IntKind.bits];omega)
     refine BN rfl (bin_xor rfl ?_ ?_) ?_
     ·(simp only [IntKind.bits];omega)
     ·(simp only [Int.toNat_natCast];have:=Nat.div_le_self z12.toNat (2 ^ j);have:=z12.toNat_lt;simp only [IntKind.bits];omega)
     refine BN rfl (bin_and rfl ?_ ?_) ?_
     ·(exact Nat.xor_lt_two_pow (n:=32) (by omega) (by simp only [Int.toNat_natCast];have:=Nat.div_le_self z12.toNat (2 ^ j);have:=z12.toNat_lt;omega))
     ·decide
     refine AS rfl (NI [7,8,3,5,6,9,10] [_,_,_,_,_,_,_] rfl (SQ (RG rfl (MV rfl (BN rfl (bin_shr (s:=1) ?_) ?_)))))
     ·(simp only [IntKind.bits];omega)
     refine AS rfl (NI [3,7,8,5,6,9,10] [_,_,_,_,_,_,_] rfl (SQ (RG rfl (MV rfl (BN rfl bin_eql (NI [29,3,8,5,6,9,10] [_,_,_,_,_,_,_] rfl (H_cond rfl ?_ ?_)))))))
     ·intro h29
      replace h29:=dT h29
      refine RG rfl (MV rfl (BN rfl (bin_xor rfl ?_ ?_) ?_))
      ·(simp only [IntKind.bits];omega)
      ·decide
      refine AS rfl (NI [3,8,5,6,9,10] [_,_,_,_,_,_] rfl (BD (RG rfl (MV rfl (BN rfl (bin_add ?_ ?_) ?_)))))
      ·omega
      ·omega
      refine AS rfl (NI [6,3,8,5,9,10] [_,_,_,_,_,_] rfl (H_inv (fun a w hf hA => ⟨⟨j + 1,Cod.step1r q (z12.toNat / 2 ^ j)⟩,?_,?_,hf.sub ?_,?_⟩)))
      ·exact ⟨(Cod.ref_next hI.1),Cod.step1r_lt hI.2.1,by omega⟩
      ·(try dsimp only);omega
      ·exact ⟨rfl,congrArg (fun m : Nat => some (Value.int .u32 (m : Int))) (by first | exact Cod.step1r_yes h29 | exact Cod.step1r_no h29),rfl,rfl,rfl,rfl,trivial⟩
      ·exact hA.only (is:=[0]) (Z:=[]) rfl
     intro h29
     replace h29:=dF h29
     refine SK (BD (RG rfl (MV rfl (BN rfl (bin_add ?_ ?_) ?_))))
     ·omega
     ·omega
     refine AS rfl (NI [6,3,8,5,9,10] [_,_,_,_,_,_] rfl (H_inv (fun a w hf hA => ⟨⟨j + 1,Cod.step1r q (z12.toNat / 2 ^ j)⟩,?_,?_,hf.sub ?_,?_⟩)))
     ·exact ⟨(Cod.ref_next hI.1),Cod.step1r_lt hI.2.1,by omega⟩
     ·(try dsimp only);omega
     ·exact ⟨rfl,congrArg (fun m : Nat => some (Value.int .u32 (m : Int))) (by first | exact Cod.step1r_yes h29 | exact Cod.step1r_no h29),rfl,rfl,rfl,rfl,trivial⟩
     ·exact hA.only (is:=[0]) (Z:=[]) rfl
    intro h15
    replace h15:=dF h15
    refine H_exit rfl (BD ?_)
    have hj : j = 8:=by omega
    subst hj
    refine RG rfl (BN rfl (bin_add ?_ ?_) ?_)
    ·omega
    ·omega
    refine MV rfl (NI [10,8,3,9] [_,_,_,_] rfl (H_inv (fun a w hf hA => ⟨i + 1,?_,?_,hf.sub ?_,?_⟩)))
    ·omega
    ·(try dsimp only);omega
    ·exact ⟨rfl,congrArg (fun m : Nat => some (Value.int .u32 (m : Int))) ((Cod.ref_close z12.toNat_lt hI.1).trans (Cod.crcS_take hz12)),rfl,rfl,trivial⟩
    ·exact hA.only (is:=[0]) (Z:=[]) rfl
  intro h11
  replace h11:=dF h11
  refine H_exit rfl (SQ ?_)
  have hi : i = b.length:=by omega
  subst hi
  rw [List.take_length]
  refine RG rfl (MV rfl (BN rfl (bin_xor rfl ?_ ?_) ?_))
  ·(have:=Cod.crcS_lt (c:=4294967295) (by decide) b;simpa [IntKind.bits] using this)
  ·decide
  refine HO_set (v':=.int .u32 ((Cod.crc b : Int))) 34 rfl (by exact congrArg (fun m : Nat => Value.int .u32 (m : Int)) (Cod.compl_xor (n:=32) (Cod.crcS_lt (c:=4294967295) (by decide) b))) (AS rfl (NI [2] [_] rfl (WD 0 [] rfl (R1 Tryz.results57 () rfl (fun w hA => ⟨?_,?_,?_⟩)))))
  ·rfl
  ·trivial
  ·exact hA.keep (m:=[]) (Y:=[]) rfl
theorem rFrame_spec (b : List UInt8) (a : Option Addr) (c : Nat) (hb : b.length≤1099511627776) : Spec Tryz.prog 32 #[.slice a (b.length) c] [.dat kByte.sl (b) [.slice a (b.length) c]] (β:=Option Addr × Nat) (fun y => .slice y.1 ((Cod.frame b).length) y.2) (fun y => True) (fun y => [.own 5 kByte y.1 y.2 (Cod.frame b)]):=by
 refine Spec.enter (vs:=[_]) Tryz.func32 rfl Tryz.ntmps32 rfl (Nat.le_of_ble_eq_true rfl) (fun w0 ok0 => ?_)
 generalize hM0 : blks _ = M0
 have hMn:=@noM _ _ hM0 (by simp [Atom.dat,Atom.elem])
 refine SQ (RG rfl (AS rfl (NI [0] [_] rfl (SQ (SQ (RG rfl (MV rfl (BI rfl (bi_len_sl Tryz.underlying32) (BN rfl bin_gtr (NI [6,0] [_,_] rfl (H_cond rfl ?_ ?_)))))))))))
 ·intro h6
  replace h6:=dT h6
  have hfr : Cod.frame b = []:=if_pos (by omega)
  refine SQ (RG rfl (AS rfl (NI [2] [_] rfl (WD 0 [] rfl (H_own0 kByte 5 none (R1 Tryz.results32 (none,0) rfl (fun w hA => ⟨?_,?_,?_⟩)))))))
  ·(rw [hfr];rfl)
  ·trivial
  ·(rw [hfr];exact hA.keep (m:=[yy]) (Y:=[_]) rfl)
 intro h6
 replace h6:=dF h6
 have hfr : Cod.frame b = ((197 :: Cod.le b.length 3) ++ b) ++ Cod.le (Cod.crc ((197 :: Cod.le b.length 3) ++ b)) 4:=if_neg (by omega)
 refine SK (SQ (RG rfl (HO_buildSlice (kd:=kByte) (xo:=[_]) (vs:=[_]) (cs:=[_]) (xs:=[(197 : UInt8)]) rfl rfl rfl rfl Tryz.underlying32 elt5 rfl rfl rfl (by decide) (by decide) (by simp [Value.cells]) rfl (fun _ _ _ => ⟨_,_,rfl,⟨rfl,trivial⟩,rfl⟩) ?_)))
 intro g7
 refine MV rfl (BI rfl (bi_len_sl Tryz.underlying32) (CV rfl (cv_int Tryz.underlying3 Tryz.underlying97 (wrap_u_i rfl _)) (HO_set (v':=.int .u64 (((b.length : Nat) : Int))) 10 rfl (by exact congrArg (Value.int .u64) (by simp only [IntKind.bits];omega)) (CB [] [_,_] rfl Tryz.call56 (rlow_spec _ _ ?_ ?_) ?_))))
 ·omega
 ·decide
 intro y11 hy11
 refine HO_append (i:=1) (R:=[_,_]) rfl rfl rfl rfl rfl Tryz.underlying32 elt5 rfl rfl (SrcOk.own (j:=0) Tryz.underlying32 rfl rfl) ?_ ?_
 ·(simp only [List.length_append,List.length_cons,List.length_nil,Cod.le_length];omega)
 intro a12 c12
 refine AS rfl (NI [3,0] [_,_] rfl (WD 5 [_,_] rfl (SQ (RG rfl (MV rfl (MV rfl (HO_append (i:=0) (R:=[_]) rfl rfl rfl rfl rfl Tryz.underlying32 elt5 rfl rfl (SrcOk.dat (j:=0) Tryz.underlying32 rfl) ?_ ?_)))))))
 ·(simp only [List.length_append,List.length_cons,List.length_nil,Cod.le_length];omega)
 intro a15 c15
 refine AS rfl (NI [3] [_] rfl (WD 1 [_] rfl (SQ (RG rfl (MV rfl (MV rfl (CB [0] [] rfl Tryz.call57 (Spec.lend (pre1:=[]) (pre2:=[]) (rSum_spec _ _ _) rfl (fun _ _ ha => nomatch ha)) ?_)))))))
 intro y18 hy18
 clear y18 hy18
 refine CV rfl (cv_int Tryz.underlying89 Tryz.underlying97 (wrap_u_lt rfl ?_)) ?_
 ·(exact Nat.lt_trans (Cod.crc_lt _) (by decide))
 refine CB [] [_] rfl Tryz.call56 (rlow_spec _ _ ?_ ?_) ?_
 ·(exact Nat.lt_trans (Cod.crc_lt _) (by decide))
 ·decide
 intro y20 hy20
 refine HO_append (i:=1) (R:=[_]) rfl rfl rfl rfl rfl Tryz.underlying32 elt5 rfl rfl (SrcOk.own (j:=0) Tryz.underlying32 rfl rfl) ?_ ?_
 ·(simp only [List.length_append,List.length_cons,List.length_nil,Cod.le_length];omega)
 intro a21 c21
 refine AS rfl (NI [2] [_] rfl (WD 1 [_] rfl (R1 Tryz.results32 (a21,c21) rfl (fun w hA => ⟨?_,?_,?_⟩))))
 ·(rw [hfr];rfl)
 ·trivial
 ·(rw [hfr];exact hA.keep (m:=[yy]) (Y:=[_]) rfl)
theorem rUnframe_spec (b : List UInt8) (a : Option Addr) (c : Nat) (hb : b.length≤1099511627776) : Spec Tryz.prog 39 #[.slice a (b.length) c] [.dat kByte.sl (b) [.slice a (b.length) c]] (β:=Option Addr × Nat) (fun y => .tuple #[.slice y.1 ((Cod.unframe b).1.length) y.2,.int .i64 (((Cod.unframe b).2.1 : Int)),.int .i64 (((Cod.unframe b).2.2 : Int))]) (fun y => True) (fun y => [.own 5 kByte y.1 y.2 ((Cod.unframe b).1)]):=by
 have hu:=Cod.unframe.eq_1 b
 refine Spec.enter (vs:=[_]) Tryz.func39 rfl Tryz.ntmps39 rfl (Nat.le_of_ble_eq_true rfl) (fun w0 ok0 => ?_)
 generalize hM0 : blks _ = M0
 have hMn:=@noM _ _ hM0 (by simp [Atom.dat,Atom.elem])
 refine SQ (RG rfl (AS rfl (AS rfl (AS rfl (NI [0] [_] rfl (SQ (SQ (RG rfl (MV rfl (BI rfl (bi_len_sl Tryz.underlying32) (BN rfl bin_eql (HO_nil ?_))))))))))))
 refine EV [8,0] [_,_] rfl (H_cond rfl ?_ ?_)
 ·intro h8
  replace h8:=dT h8
  rw [if_pos (by omega)] at hu
  refine SQ (RG rfl (AS rfl (AS rfl (AS rfl (NI [4,3,2] [_,_,_] rfl (WD 0 [] rfl (H_own0 kByte 5 none (H_ret3 Tryz.results39 (.tmp rfl) (.tmp rfl) (.tmp rfl) (fun w hA => ⟨(none,0),congrArg Ending.returned ?_,?_,?_⟩)))))))))
  ·(rw [hu];rfl)
  ·trivial
  ·(rw [hu];exact hA.keep (m:=[yy]) (Y:=[_]) rfl)
 intro h8
 replace h8:=dF h8
 rw [if_neg (by omega)] at hu
 refine SK (SQ (SQ (RG rfl (MV rfl (HO_indexAddr open_byte (i:=0) (j:=0) rfl rfl rfl rfl rfl Tryz.underlying32 Tryz.sizeOf5 rfl ?_ ?_)))))
 ·omega
 intro b10 o10 z10 y10 hz10 hI10
 clear y10 hI10
 refine LE 0 0 rfl Tryz.isAgg5 (BN rfl bin_neq (NI [12,0] [_,_] rfl (WD 2 [_] rfl (H_cond rfl ?_ ?_))))
 ·intro h12
  replace h12:=dT h12
  rw [if_pos (by rw [Cod.head_at hz10];intro h;apply h12;rw [Option.some.inj h];rfl)] at hu
  refine SQ (RG rfl (AS rfl (AS rfl (AS rfl (NI [4,3,2] [_,_,_] rfl (WD 0 [] rfl (H_own0 kByte 5 none (H_ret3 Tryz.results39 (.tmp rfl) (.tmp rfl) (.tmp rfl) (fun w hA => ⟨(none,0),congrArg Ending.returned ?_,?_,?_⟩)))))))))
  ·(rw [hu];rfl)
  ·trivial
  ·(rw [hu];exact hA.keep (m:=[yy]) (Y:=[_]) rfl)
 intro h12
 replace h12:=dF h12
 rw [if_neg (by rw [Cod.head_at hz10];intro h;exact h (congrArg some (Cod.byte_of (by omega))))] at hu
 refine SK (SQ (SQ (RG rfl (MV rfl (BI rfl (bi_len_sl Tryz.underlying32) (BN rfl bin_lss (NI [15,0] [_,_] rfl (H_cond rfl ?_ ?_))))))))
 ·intro h15
  replace h15:=dT h15
  rw [if_pos (by omega)] at hu
  refine SQ (RG rfl (AS rfl (AS rfl (AS rfl (NI [4,3,2] [_,_,_] rfl (WD 0 [] rfl (H_own0 kByte 5 none (H_ret3 Tryz.results39 (.tmp rfl) (.tmp rfl) (.tmp rfl) (fun w hA => ⟨(none,0),congrArg Ending.returned ?_,?_,?_⟩)))))))))
  ·(rw [hu];rfl)
  ·trivial
  ·(rw [hu];exact hA.keep (m:=[yy]) (Y:=[_]) rfl)
 intro h15
 replace h15:=dF h15
 rw [if_neg (by omega)] at hu
 refine SK (SQ (RG rfl (MV rfl (HO_slice_lh (i:=0) (l:=1) (h':=4) rfl rfl rfl rfl rfl rfl rfl Tryz.underlying32 Tryz.sizeOf5 rfl ?_ ?_ ?_))))
 ·omega
 ·omega
 intro a17 c17
 refine DU 0 rfl (CB [0] [_,_] rfl Tryz.call75 (rof_spec _ _ _ ?_) ?_)
 ·(simp only [List.length_drop,List.length_take];omega)
 intro y18 hy18
 clear y18 hy18
 refine CV rfl (cv_int Tryz.underlying97 Tryz.underlying3 (wrap_i64_nat ?_)) ?_
 ·(have:=Cod.wh_lt (List.drop 1 (List.take 4 b));have h2 : (List.drop 1 (List.take 4 b)).length = 3:=(by simp;omega);rw [h2] at this;omega)
 refine AS rfl (NI [5,0] [_,_] rfl (WD 2 [_] rfl (SQ (BO (SQ ?_)))))
 have hw24:=Cod.wh_lt (List.drop 1 (List.take 4 b))
 have hl3 : (List.drop 1 (List.take 4 b)).length = 3:=by simp;omega
 rw [hl3] at hw24
 refine RG rfl (MV rfl (BN rfl bin_gtr (AS rfl (NI [20,5,0] [_,_,_] rfl (H_cond rfl ?_ ?_)))))
 ·intro h20
  replace h20:=dT h20
  rw [if_pos (by omega)] at hu
  refine SQ (RG rfl (AS rfl (AS rfl (AS rfl (NI [4,3,2] [_,_,_] rfl (WD 0 [] rfl (H_own0 kByte 5 none (H_ret3 Tryz.results39 (.tmp rfl) (.tmp rfl) (.tmp rfl) (fun w hA => ⟨(none,0),congrArg Ending.returned ?_,?_,?_⟩)))))))))
  ·(rw [hu];rfl)
  ·trivial
  ·(rw [hu];exact hA.keep (m:=[yy]) (Y:=[_]) rfl)
 intro h20
 replace h20:=dF h20
 rw [if_neg (by omega)] at hu
 refine SQ (RG rfl (MV rfl (BI rfl (bi_len_sl Tryz.underlying32) (BN rfl (bin_sub ?_ ?_) ?_))))
 ·omega
 ·omega
 refine MV rfl (BN rfl bin_lss (AS rfl (NI [23,5,0] [_,_,_] rfl (H_cond rfl ?_ ?_))))
 ·intro h23
  replace h23:=dT h23
  rw [if_pos (by omega)] at hu
  refine SQ (RG rfl (AS rfl (AS rfl (AS rfl (NI [4,3,2] [_,_,_] rfl (WD 0 [] rfl (H_own0 kByte 5 none (H_ret3 Tryz.results39 (.tmp rfl) (.tmp rfl) (.tmp rfl) (fun w hA => ⟨(none,0),congrArg Ending.returned ?_,?_,?_⟩)))))))))
  ·(rw [hu];rfl)
  ·trivial
  ·(rw [hu];exact hA.keep (m:=[yy]) (Y:=[_]) rfl)
 intro h23
 replace h23:=dF h23
 rw [if_neg (by omega)] at hu
 refine SQ (H_drawB (m:=[yy]) (Xs:=[_]) (fuel:=15) (l:=#[false,false,false,false,false,false,false,false,false,false,false,false,false,false,false]) mixed rfl rfl rfl (TA 0 rfl (by kernel_rfl) (V_move rfl) (TA 1 rfl (by kernel_rfl) (V_move rfl) (TA 2 rfl (by kernel_rfl) (V_bin rfl rfl (bin_add ?_ ?_)) ?_))))
 ·omega
 ·omega
 refine TA 6 rfl (by kernel_rfl) (V_move rfl) (TA 7 rfl (by kernel_rfl) (V_move rfl) (TA 8 rfl (by kernel_rfl) (V_bin rfl rfl (bin_add ?_ ?_)) ?_))
 ·omega
 ·omega
 refine TA 9 rfl (by kernel_rfl) (V_move rfl) (TA 10 rfl (by kernel_rfl) (V_bin rfl rfl (bin_add ?_ ?_)) ?_)
 ·omega
 ·omega
 refine HA_loud2 (i:=3) (j:=11) (by kernel_rfl) rfl rfl ?_ ?_
 ·refine HO_slice_h (i:=0) (h':=Cod.wh (List.drop 1 (List.take 4 b)) + 4) rfl rfl rfl rfl ?_ Tryz.underlying32 Tryz.sizeOf5 rfl ?_ ?_
  ·omega
  ·omega
  intro a33 c33
  refine BK 2 [_] rfl (HA_loud2 (i:=4) (j:=11) (by kernel_rfl) rfl rfl ?_ ?_)
  ·refine HO_dup (i:=0) rfl rfl ?_
   refine CB [0] [_,_] rfl Tryz.call57 (rSum_spec _ _ _) ?_
   intro y34 hy34
   clear y34 hy34
   refine BK 2 [_] rfl (TK 5 2 [_] rfl (by kernel_rfl) (V_conv rfl (cv_int Tryz.underlying89 Tryz.underlying97 (wrap_u_lt rfl ?_))) ?_)
   ·(have:=Cod.crc_lt (List.take (Cod.wh (List.drop 1 (List.take 4 b)) + 4) b);simp only [IntKind.bits];omega)
   refine LO 11 (by kernel_rfl) rfl (HO_slice_lh (i:=1) (l:=Cod.wh (List.drop 1 (List.take 4 b)) + 4) (h':=Cod.wh (List.drop 1 (List.take 4 b)) + 4 + 4) rfl rfl rfl rfl rfl ?_ ?_ Tryz.underlying32 Tryz.sizeOf5 rfl ?_ ?_ ?_)
   ·omega
   ·omega
   ·omega
   ·omega
   intro a41 c41
   refine BK 4 [_] rfl (LO 12 (by kernel_rfl) rfl (DU 0 rfl (CB [0] [_,_,_] rfl Tryz.call75 (rof_spec _ _ _ ?_) ?_)))
   ·(simp only [List.length_drop,List.length_take];omega)
   intro y42 hy42
   clear y42 hy42
   refine BK 4 [_] rfl (TK 13 4 [_] rfl (by kernel_rfl) (V_bin rfl rfl bin_neq) (TK 14 4 [_] rfl (by kernel_rfl) (V_assign rfl) (HA_done (by kernel_rfl) (EV [29,5,0] [_,_,_] rfl (WD 4 [_] rfl (H_cond rfl ?_ ?_))))))
   ·intro h29
    replace h29:=dT h29
    rw [if_pos (by omega)] at hu
    refine SQ (RG rfl (AS rfl (AS rfl (AS rfl (NI [4,3,2] [_,_,_] rfl (WD 0 [] rfl (H_own0 kByte 5 none (H_ret3 Tryz.results39 (.tmp rfl) (.tmp rfl) (.tmp rfl) (fun w hA => ⟨(none,0),congrArg Ending.returned ?_,?_,?_⟩)))))))))
    ·(rw [hu];rfl)
    ·trivial
    ·(rw [hu];exact hA.keep (m:=[yy]) (Y:=[_]) rfl)
   intro h29
   replace h29:=dF h29
   rw [if_neg (by omega)] at hu
   refine SK (BD (SQ (RG rfl (HO_buildSlice0 (kd:=kByte) rfl rfl Tryz.underlying32 elt5 ?_))))
   intro g44
   refine MV rfl (MV rfl (BN rfl (bin_add ?_ ?_) ?_))
   ·omega
   ·omega
   refine HO_slice_lh (i:=1) (l:=4) (h':=Cod.wh (List.drop 1 (List.take 4 b)) + 4) rfl rfl rfl rfl rfl rfl ?_ Tryz.underlying32 Tryz.sizeOf5 rfl ?_ ?_ ?_
   ·omega
   ·omega
   ·omega
   intro a48 c48
   refine HO_append (i:=1) (R:=[_,_]) rfl rfl rfl rfl rfl Tryz.underlying32 elt5 rfl rfl (SrcOk.dat (j:=0) Tryz.underlying32 rfl) ?_ ?_
   ·(simp only [List.length_nil,List.length_drop,List.length_take];omega)
   intro a49 c49
   refine MV rfl (BN rfl (bin_add ?_ ?_) ?_)
   ·omega
   ·omega
   refine AS rfl (AS rfl (AS rfl (NI [4,3,2] [_,_,_] rfl (WD 1 [_] rfl (H_ret3 Tryz.results39 (.tmp rfl) (.tmp rfl) (.tmp rfl) (fun w hA => ⟨(a49,c49),congrArg Ending.returned ?_,?_,?_⟩))))))
   ·(rw [hu];rfl)
   ·trivial
   ·(rw [hu];exact hA.keep (m:=[yy]) (Y:=[_]) rfl)
  ·refine HO_slice_lh (i:=1) (l:=Cod.wh (List.drop 1 (List.take 4 b)) + 4) (h':=Cod.wh (List.drop 1 (List.take 4 b)) + 4 + 4) rfl rfl rfl rfl rfl ?_ ?_ Tryz.underlying32 Tryz.sizeOf5 rfl ?_ ?_ ?_
   ·omega
   ·omega
   ·omega
   ·omega
   intro a41 c41
   refine BK 4 [_] rfl (LO 4 (by kernel_rfl) rfl (DU 1 rfl (CB [0] [_,_,_] rfl Tryz.call57 (rSum_spec _ _ _) ?_)))
   intro y34 hy34
   clear y34 hy34
   refine BK 4 [_] rfl (TK 5 4 [_] rfl (by kernel_rfl) (V_conv rfl (cv_int Tryz.underlying89 Tryz.underlying97 (wrap_u_lt rfl ?_))) ?_)
   ·(have:=Cod.crc_lt (List.take (Cod.wh (List.drop 1 (List.take 4 b)) + 4) b);simp only [IntKind.bits];omega)
   refine LO 12 (by kernel_rfl) rfl (DU 0 rfl (CB [0] [_,_,_] rfl Tryz.call75 (rof_spec _ _ _ ?_) ?_))
   ·(simp only [List.length_drop,List.length_take];omega)
   intro y42 hy42
   clear y42 hy42
   refine BK 4 [_] rfl (TK 13 4 [_] rfl (by kernel_rfl) (V_bin rfl rfl bin_neq) (TK 14 4 [_] rfl (by kernel_rfl) (V_assign rfl) (HA_done (by kernel_rfl) (EV [29,5,0] [_,_,_] rfl (WD 4 [_] rfl (H_cond rfl ?_ ?_))))))
   ·intro h29
    replace h29:=dT h29
    rw [if_pos (by omega)] at hu
    refine SQ (RG rfl (AS rfl (AS rfl (AS rfl (NI [4,3,2] [_,_,_] rfl (WD 0 [] rfl (H_own0 kByte 5 none (H_ret3 Tryz.results39 (.tmp rfl) (.tmp rfl) (.tmp rfl) (fun w hA => ⟨(none,0),congrArg Ending.returned ?_,?_,?_⟩)))))))))
    ·(rw [hu];rfl)
    ·trivial
    ·(rw [hu];exact hA.keep (m:=[yy]) (Y:=[_]) rfl)
   intro h29
   replace h29:=dF h29
   rw [if_neg (by omega)] at hu
   refine SK (BD (SQ (RG rfl (HO_buildSlice0 (kd:=kByte) rfl rfl Tryz.underlying32 elt5 ?_))))
   intro g44
   refine MV rfl (MV rfl (BN rfl (bin_add ?_ ?_) ?_))
   ·omega
   ·omega
   refine HO_slice_lh (i:=1) (l:=4) (h':=Cod.wh (List.drop 1 (List.take 4 b)) + 4) rfl rfl rfl rfl rfl rfl ?_ Tryz.underlying32 Tryz.sizeOf5 rfl ?_ ?_ ?_
   ·omega
   ·omega
   ·omega
   intro a48 c48
   refine HO_append (i:=1) (R:=[_,_]) rfl rfl rfl rfl rfl Tryz.underlying32 elt5 rfl rfl (SrcOk.dat (j:=0) Tryz.underlying32 rfl) ?_ ?_
   ·(simp only [List.length_nil,List.length_drop,List.length_take];omega)
   intro a49 c49
   refine MV rfl (BN rfl (bin_add ?_ ?_) ?_)
   ·omega
   ·omega
   refine AS rfl (AS rfl (AS rfl (NI [4,3,2] [_,_,_] rfl (WD 1 [_] rfl (H_ret3 Tryz.results39 (.tmp rfl) (.tmp rfl) (.tmp rfl) (fun w hA => ⟨(a49,c49),congrArg Ending.returned ?_,?_,?_⟩))))))
   ·(rw [hu];rfl)
   ·trivial
   ·(rw [hu];exact hA.keep (m:=[yy]) (Y:=[_]) rfl)
 ·refine HO_slice_lh (i:=0) (l:=Cod.wh (List.drop 1 (List.take 4 b)) + 4) (h':=Cod.wh (List.drop 1 (List.take 4 b)) + 4 + 4) rfl rfl rfl rfl rfl ?_ ?_ Tryz.underlying32 Tryz.sizeOf5 rfl ?_ ?_ ?_
  ·omega
  ·omega
  ·omega
  ·omega
  intro a41 c41
  refine BK 2 [_] rfl (LO 3 (by kernel_rfl) rfl (HO_slice_h (i:=1) (h':=Cod.wh (List.drop 1 (List.take 4 b)) + 4) rfl rfl rfl rfl ?_ Tryz.underlying32 Tryz.sizeOf5 rfl ?_ ?_))
  ·omega
  ·omega
  intro a33 c33
  refine BK 4 [_] rfl (LO 4 (by kernel_rfl) rfl (DU 0 rfl (CB [0] [_,_,_] rfl Tryz.call57 (rSum_spec _ _ _) ?_)))
  intro y34 hy34
  clear y34 hy34
  refine BK 4 [_] rfl (TK 5 4 [_] rfl (by kernel_rfl) (V_conv rfl (cv_int Tryz.underlying89 Tryz.underlying97 (wrap_u_lt rfl ?_))) ?_)
  ·(have:=Cod.crc_lt (List.take (Cod.wh (List.drop 1 (List.take 4 b)) + 4) b);simp only [IntKind.bits];omega)
  refine LO 12 (by kernel_rfl) rfl (DU 1 rfl (CB [0] [_,_,_] rfl Tryz.call75 (rof_spec _ _ _ ?_) ?_))
  ·(simp only [List.length_drop,List.length_take];omega)
  intro y42 hy42
  clear y42 hy42
  refine BK 4 [_] rfl (TK 13 4 [_] rfl (by kernel_rfl) (V_bin rfl rfl bin_neq) (TK 14 4 [_] rfl (by kernel_rfl) (V_assign rfl) (HA_done (by kernel_rfl) (EV [29,5,0] [_,_,_] rfl (WD 4 [_] rfl (H_cond rfl ?_ ?_))))))
  ·intro h29
   replace h29:=dT h29
   rw [if_pos (by omega)] at hu
   refine SQ (RG rfl (AS rfl (AS rfl (AS rfl (NI [4,3,2] [_,_,_] rfl (WD 0 [] rfl (H_own0 kByte 5 none (H_ret3 Tryz.results39 (.tmp rfl) (.tmp rfl) (.tmp rfl) (fun w hA => ⟨(none,0),congrArg Ending.returned ?_,?_,?_⟩)))))))))
   ·(rw [hu];rfl)
   ·trivial
   ·(rw [hu];exact hA.keep (m:=[yy]) (Y:=[_]) rfl)
  intro h29
  replace h29:=dF h29
  rw [if_neg (by omega)] at hu
  refine SK (BD (SQ (RG rfl (HO_buildSlice0 (kd:=kByte) rfl rfl Tryz.underlying32 elt5 ?_))))
  intro g44
  refine MV rfl (MV rfl (BN rfl (bin_add ?_ ?_) ?_))
  ·omega
  ·omega
  refine HO_slice_lh (i:=1) (l:=4) (h':=Cod.wh (List.drop 1 (List.take 4 b)) + 4) rfl rfl rfl rfl rfl rfl ?_ Tryz.underlying32 Tryz.sizeOf5 rfl ?_ ?_ ?_
  ·omega
  ·omega
  ·omega
  intro a48 c48
  refine HO_append (i:=1) (R:=[_,_]) rfl rfl rfl rfl rfl Tryz.underlying32 elt5 rfl rfl (SrcOk.dat (j:=0) Tryz.underlying32 rfl) ?_ ?_
  ·(simp only [List.length_nil,List.length_drop,List.length_take];omega)
  intro a49 c49
  refine MV rfl (BN rfl (bin_add ?_ ?_) ?_)
  ·omega
  ·omega
  refine AS rfl (AS rfl (AS rfl (NI [4,3,2] [_,_,_] rfl (WD 1 [_] rfl (H_ret3 Tryz.results39 (.tmp rfl) (.tmp rfl) (.tmp rfl) (fun w hA => ⟨(a49,c49),congrArg Ending.returned ?_,?_,?_⟩))))))
  ·(rw [hu];rfl)
  ·trivial
  ·(rw [hu];exact hA.keep (m:=[yy]) (Y:=[_]) rfl)
end Go.Wk
