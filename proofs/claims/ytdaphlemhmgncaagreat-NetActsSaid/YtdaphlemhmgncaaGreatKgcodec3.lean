/- Contracts of the program's functions, each proved by walking its code. -/
import Derived.Test.YtdaphlemhmgncaaGreatKgcodec2
set_option maxRecDepth 100000
set_option linter.unusedVariables false
set_option linter.unusedSimpArgs false
namespace Go.Wk.Fcodec3
open Go Go.RowKit Go.Proofs Go.Wk
theorem elt5 : Elt Tryz.prog 5 (.int .u8 (0)) 1 1:=Elt.of (by kernel_rfl) (by rfl) (by decide) (by decide)
end Go.Wk.Fcodec3
namespace Go.Wk
open Go Go.RowKit Go.Proofs Fcodec3 
theorem little_spec (b : List UInt8) (u n : Nat) (a : Option Addr) (c : Nat) (hu : u < 4294967296) (hn : n≤100) (hb : b.length≤1099511627776) : Spec Tryz.prog 49 #[.slice a (b.length) c,.int .u32 (u),.int .i64 ((n : Int))] [.own 5 kByte a c (b)] (β:=Option Addr × Nat) (fun y => .slice y.1 ((b ++ Cod.le u n).length) y.2) (fun y => True) (fun y => [.own 5 kByte y.1 y.2 (b ++ Cod.le u n)]):=by
 refine Spec.enter (vs:=[_,_,_]) Tryz.func49 rfl Tryz.ntmps49 rfl (Nat.le_of_ble_eq_true rfl) (fun w0 ok0 => ?_)
 generalize hM0 : blks _ = M0
 refine SQ (RG rfl (AS rfl (NI [0,1,2] [_,_,_] rfl (SQ (SQ (RG rfl (MV rfl (MV rfl (NI [8,7,0,1] [_,_,_,_] rfl (BO (H_loop (σ:=Nat × Nat × List UInt8 × Option Addr × Nat) (fun s => s.2.2.1 ++ Cod.le s.2.1 (n - s.1) = b ++ Cod.le u n∧s.1≤n∧s.2.1 < 4294967296) (fun s => [(0,.slice s.2.2.2.1 (s.2.2.1.length) s.2.2.2.2),(1,.int .u32 ((s.2.1 : Int))),(7,.int .i64 ((n : Int))),(8,.int .i64 ((s.1 : Int)))]) (fun s => Asn w0 ok0 M0 [.own 5 kByte s.2.2.2.1 s.2.2.2.2 (s.2.2.1)]) (fun s => n - s.1) ⟨0,u,b,a,c⟩ ?_ ?_ ?_ ?_)))))))))))
 ·exact ⟨rfl,Nat.zero_le _,hu⟩
 ·exact ⟨rfl,rfl,rfl,rfl,trivial⟩
 ·intro w hA
  exact hA.only (is:=[0]) (Z:=[]) rfl
 ·rintro ⟨i,v,l,a,c⟩ hI
  (try dsimp only at hI ⊢)
  refine SQ (RG rfl (BN rfl bin_lss (HO_nil (SQ (H_cond rfl ?_ ?_)))))
  ·intro h9
   replace h9:=dT h9
   refine SK (SQ (BO (RG rfl (MV rfl (MV rfl (CV rfl (cv_int Tryz.underlying89 Tryz.underlying5 (wrap_u rfl _)) (HO_set (v':=.int .u8 (((UInt8.ofNat v).toNat : Int))) 12 rfl (by exact byte_eq rfl) (HO_buildSlice (kd:=kByte) (xo:=[_]) (vs:=[_]) (cs:=[_]) (xs:=[_]) rfl rfl rfl rfl Tryz.underlying32 elt5 rfl rfl rfl (by decide) (by decide) (by simp [Value.cells]) rfl (fun _ _ _ => ⟨_,_,rfl,⟨rfl,trivial⟩,rfl⟩) ?_))))))))
   intro g13
   refine HO_append (i:=1) (R:=[_]) rfl rfl rfl rfl rfl Tryz.underlying32 elt5 rfl rfl (SrcOk.own (j:=0) Tryz.underlying32 rfl rfl) ?_ ?_
   ·(simp only [List.length_cons,List.length_nil];have:=congrArg List.length hI.1;simp only [List.length_append,Cod.le_length] at this;omega)
   intro a14 c14
   refine MV rfl (BN rfl (bin_shr (s:=8) ?_) ?_)
   ·(simp only [IntKind.bits];omega)
   refine AS rfl (AS rfl (NI [1,0,7,8] [_,_,_,_] rfl (WD 1 [_] rfl (BD (RG rfl (BN rfl (bin_add ?_ ?_) ?_))))))
   ·omega
   ·omega
   refine MV rfl (NI [8,1,0,7] [_,_,_,_] rfl (H_inv (fun a w hf hA => ⟨⟨i + 1,v / 2 ^ 8,l ++ [UInt8.ofNat v],a14,c14⟩,?_,?_,hf.sub ?_,?_⟩)))
   ·exact ⟨by rw [← hI.1];obtain ⟨q,hq⟩ : ∃ q,n - i = q + 1:=⟨n - i - 1,by omega⟩;rw [hq,show n - (i + 1) = q by omega];simp [Cod.le],by omega,by have h3:=hI.2.2;show v / 2 ^ 8 < _;omega⟩
   ·(try dsimp only);omega
   ·exact ⟨rfl,rfl,rfl,rfl,trivial⟩
   ·exact hA.only (is:=[0]) (Z:=[]) rfl
  intro h9
  replace h9:=dF h9
  refine H_exit rfl (SQ (RG rfl (MV rfl (AS rfl (NI [6] [_] rfl ?_)))))
  obtain rfl : i = n:=by omega
  have hI1:=hI.1
  simp only [Nat.sub_self,Cod.le,List.append_nil] at hI1
  subst hI1
  refine R1 Tryz.results49 (a,c) rfl (fun w hA => ⟨?_,?_,?_⟩)
  ·rfl
  ·trivial
  ·exact hA.keep (m:=[yy]) (Y:=[_]) rfl
theorem whole_spec (b : List UInt8) (a : Option Addr) (c : Nat) (hb : b.length≤4) : Spec Tryz.prog 67 #[.slice a (b.length) c] [.dat kByte.sl (b) [.slice a (b.length) c]] (β:=Unit) (fun y => .int .u32 ((Cod.wh b : Int))) (fun y => True) (fun y => []):=by
 refine Spec.enter (vs:=[_]) Tryz.func67 rfl Tryz.ntmps67 rfl (Nat.le_of_ble_eq_true rfl) (fun w0 ok0 => ?_)
 generalize hM0 : blks _ = M0
 have hMn:=@noM _ _ hM0 (by simp [Atom.dat,Atom.elem])
 refine SQ (RG rfl (AS rfl (NI [0] [_] rfl (SQ (RG rfl (AS rfl (HO_nil (SQ (SQ (RG rfl (MV rfl (BI rfl (bi_len_sl Tryz.underlying32) ?_))))))))))))
 refine MV rfl (NI [7,6,3,0] [_,_,_,_] rfl (BO (H_loop (σ:=Nat) (fun s => s≤b.length) (fun s => [(0,.slice a (b.length) c),(3,.int .u32 ((Cod.wh (List.take s b) : Int))),(6,.int .i64 ((b.length : Int))),(7,.int .i64 ((s : Int)))]) (fun s => Asn w0 ok0 M0 [.dat kByte.sl (b) [.slice a (b.length) c]]) (fun s => b.length - s) 0 ?_ ?_ ?_ ?_)))
 ·exact Nat.zero_le _
 ·exact ⟨rfl,rfl,rfl,rfl,trivial⟩
 ·intro w hA
  exact hA.only (is:=[0]) (Z:=[]) rfl
 ·intro i hI
  (try dsimp only at hI ⊢)
  refine SQ (RG rfl (BN rfl bin_lss (HO_nil (SQ (H_cond rfl ?_ ?_)))))
  ·intro h8
   replace h8:=dT h8
   refine SK (SQ (BO (SQ (RG rfl (MV rfl (AS rfl (NI [4,0,3,6,7] [_,_,_,_,_] rfl (RG rfl (MV rfl (MV rfl (MV rfl (HO_indexAddr open_byte (i:=0) rfl rfl rfl rfl rfl Tryz.underlying32 Tryz.sizeOf5 rfl ?_ ?_))))))))))))
   ·omega
   intro b13 o13 z13 y13 hz13 hI13
   clear y13 hI13
   refine LE 0 0 rfl Tryz.isAgg5 (CV rfl (cv_int Tryz.underlying5 Tryz.underlying89 (wrap_u_lt rfl ?_)) ?_)
   ·(have:=z13.toNat_lt;simp only [IntKind.bits];omega)
   refine MV rfl (BN rfl (bin_mul ?_ ?_) ?_)
   ·omega
   ·omega
   refine BN rfl (bin_shl' rfl ?_) ?_
   ·omega
   refine BN rfl (bin_or rfl ?_ ?_) ?_
   ·(have:=Cod.wh_lt (List.take i b);have h2 : (List.take i b).length≤4:=(by simp;omega);exact Nat.lt_of_lt_of_le this (Nat.pow_le_pow_right (by decide) (by simp only [IntKind.bits];omega)))
   ·(exact Nat.mod_lt _ (Nat.two_pow_pos _))
   refine HO_set (v':=.int .u32 ((Cod.wh (List.take (i + 1) b) : Int))) 19 rfl (by exact congrArg (fun m : Nat => Value.int .u32 (m : Int)) (by have h8 : (8 * (i : Int)).toNat = 8 * i:=(by omega);rw [h8];exact Cod.wh_take hz13 (by simp only [IntKind.bits];omega))) (AS rfl (NI [3,0,6,7] [_,_,_,_] rfl (WD 2 [_] rfl (BD (RG rfl (BN rfl (bin_add ?_ ?_) ?_))))))
   ·omega
   ·omega
   refine MV rfl (NI [7,3,0,6] [_,_,_,_] rfl (H_inv (fun a w hf hA => ⟨i + 1,?_,?_,hf.sub ?_,?_⟩)))
   ·omega
   ·(try dsimp only);omega
   ·exact ⟨rfl,rfl,rfl,rfl,trivial⟩
   ·exact hA.only (is:=[0]) (Z:=[]) rfl
  intro h8
  replace h8:=dF h8
  refine H_exit rfl (SQ (RG rfl (MV rfl (AS rfl (NI [2] [_] rfl (WD 0 [] rfl ?_))))))
  obtain rfl : i = b.length:=by omega
  rw [List.take_length]
  refine R1 Tryz.results67 () rfl (fun w hA => ⟨?_,?_,?_⟩)
  ·rfl
  ·trivial
  ·exact hA.keep (m:=[]) (Y:=[]) rfl
theorem Sum_spec (b : List UInt8) (a : Option Addr) (c : Nat)  : Spec Tryz.prog 50 #[.slice a (b.length) c] [.dat kByte.sl (b) [.slice a (b.length) c]] (β:=Unit) (fun y => .int .u32 ((Cod.crc b : Int))) (fun y => True) (fun y => []):=by
 refine Spec.enter (vs:=[_]) Tryz.func50 rfl Tryz.ntmps50 rfl (Nat.le_of_ble_eq_true rfl) (fun w0 ok0 => ?_)
 generalize hM0 : blks _ = M0
 have hMn:=@noM _ _ hM0 (by simp [Atom.dat,Atom.elem])
 refine SQ (RG rfl (AS rfl (NI [0] [_] rfl (SQ (RG rfl (AS rfl (HO_nil (SQ (SQ (H_len_le (i:=0) rfl (fun hlen => ?_)))))))))))
 refine RG rfl (MV rfl (BI rfl (bi_len_sl Tryz.underlying32) (MV rfl (NI [8,7,6,3] [_,_,_,_] rfl (BO (H_loop (σ:=Nat) (fun s => s≤b.length) (fun s => [(6,.slice a (b.length) c),(3,.int .u32 ((Cod.crcS 4294967295 (List.take s b) : Int))),(7,.int .i64 ((b.length : Int))),(8,.int .i64 ((s : Int)))]) (fun s => Asn w0 ok0 M0 [.dat kByte.sl (b) [.slice a (b.length) c]]) (fun s => b.length - s) 0 ?_ ?_ ?_ ?_))))))
 ·exact Nat.zero_le _
 ·exact ⟨rfl,rfl,rfl,rfl,trivial⟩
 ·intro w hA
  exact hA.only (is:=[0]) (Z:=[]) rfl
 ·intro i hI
  (try dsimp only at hI ⊢)
  refine SQ (RG rfl (BN rfl bin_lss (HO_nil (SQ (H_cond rfl ?_ ?_)))))
  ·intro h9
   replace h9:=dT h9
   refine SK (SQ (BO (SQ (RG rfl (HO_indexAddr open_byte (i:=0) rfl rfl rfl rfl rfl Tryz.underlying32 Tryz.sizeOf5 rfl ?_ ?_)))))
   ·omega
   intro b10 o10 z10 y10 hz10 hI10
   clear y10 hI10
   refine LE 0 0 rfl Tryz.isAgg5 (AS rfl (NI [5,6,3,7,8] [_,_,_,_,_] rfl (WD 2 [_] rfl (SQ (RG rfl (MV rfl (MV rfl (CV rfl (cv_int Tryz.underlying5 Tryz.underlying89 (wrap_u_lt rfl ?_)) ?_))))))))
   ·(have:=z10.toNat_lt;simp only [IntKind.bits];omega)
   refine BN rfl (bin_xor rfl ?_ ?_) ?_
   ·(have:=Cod.crcS_lt (c:=4294967295) (by decide) (List.take i b);simpa [IntKind.bits] using this)
   ·(have:=z10.toNat_lt;simp only [IntKind.bits];omega)
   refine AS rfl (NI [3,6,7,8] [_,_,_,_] rfl (SQ (RG rfl (MV rfl (HO_nil (BO (H_loop (σ:=Nat) (fun s => s≤8) (fun s => [(6,.slice a (b.length) c),(3,.int .u32 ((Cod.iter Cod.step1 s (Cod.crcS 4294967295 (List.take i b) ^^^ z10.toNat) : Int))),(7,.int .i64 ((b.length : Int))),(8,.int .i64 ((i : Int))),(16,.int .i64 ((s : Int)))]) (fun s => Asn w0 ok0 M0 [.dat kByte.sl (b) [.slice a (b.length) c]]) (fun s => 8 - s) 0 ?_ ?_ ?_ ?_)))))))
   ·exact Nat.zero_le _
   ·exact ⟨rfl,rfl,rfl,rfl,rfl,trivial⟩
   ·intro w hA
    exact hA.only (is:=[0]) (Z:=[]) rfl
   ·intro j hI
    (try dsimp only at hI ⊢)
    refine SQ (RG rfl (BN rfl bin_lss (HO_nil (SQ (H_cond rfl ?_ ?_)))))
    ·intro h17
     replace h17:=dT h17
     refine SK (SQ (BO (RG rfl (MV rfl (BN rfl (bin_shr (s:=1) ?_) ?_)))))
     ·(have:=Cod.iter_lt (c:=Cod.crcS 4294967295 (List.take i b) ^^^ z10.toNat) (Cod.xor_byte_lt (Cod.crcS_lt (by decide) _) _) j;simpa [IntKind.bits] using this)
     refine MV rfl (BN rfl (bin_and rfl ?_ ?_) ?_)
     ·(have:=Cod.iter_lt (c:=Cod.crcS 4294967295 (List.take i b) ^^^ z10.toNat) (Cod.xor_byte_lt (Cod.crcS_lt (by decide) _) _) j;simpa [IntKind.bits] using this)
     ·decide
     refine HO_negu rfl rfl rfl rfl ?_ ?_
     ·(exact Nat.lt_of_le_of_lt Nat.and_le_right (by decide))
     refine BN rfl (bin_and rfl ?_ ?_) ?_
     ·(show 2197175160 < 2 ^ 32;decide)
     ·(exact Nat.mod_lt _ (Nat.two_pow_pos _))
     refine BN rfl (bin_xor rfl ?_ ?_) ?_
     ·(have:=Cod.iter_lt (c:=Cod.crcS 4294967295 (List.take i b) ^^^ z10.toNat) (Cod.xor_byte_lt (Cod.crcS_lt (by decide) _) _) j;simp only [IntKind.bits];omega)
     ·(exact Nat.lt_of_le_of_lt Nat.and_le_left (by decide))
     refine HO_set (v':=.int .u32 ((Cod.iter Cod.step1 (j + 1) (Cod.crcS 4294967295 (List.take i b) ^^^ z10.toNat) : Int))) 24 rfl (by rfl) (AS rfl (NI [3,6,7,8,16] [_,_,_,_,_] rfl (BD (RG rfl (BN rfl (bin_add ?_ ?_) ?_)))))
     ·omega
     ·omega
     refine MV rfl (NI [16,3,6,7,8] [_,_,_,_,_] rfl (H_inv (fun a w hf hA => ⟨j + 1,?_,?_,hf.sub ?_,?_⟩)))
     ·omega
     ·(try dsimp only);omega
     ·exact ⟨rfl,rfl,rfl,rfl,rfl,trivial⟩
     ·exact hA.only (is:=[0]) (Z:=[]) rfl
    intro h17
    replace h17:=dF h17
    refine H_exit rfl (BD ?_)
    have hj : j = 8:=by omega
    subst hj
    refine RG rfl (BN rfl (bin_add ?_ ?_) ?_)
    ·omega
    ·omega
    refine MV rfl (NI [8,6,3,7] [_,_,_,_] rfl (H_inv (fun a w hf hA => ⟨i + 1,?_,?_,hf.sub ?_,?_⟩)))
    ·omega
    ·(try dsimp only);omega
    ·exact ⟨rfl,congrArg (fun m : Nat => some (Value.int .u32 (m : Int))) (Cod.crcS_take hz10),rfl,rfl,trivial⟩
    ·exact hA.only (is:=[0]) (Z:=[]) rfl
  intro h9
  replace h9:=dF h9
  refine H_exit rfl (SQ ?_)
  have hi : i = b.length:=by omega
  subst hi
  rw [List.take_length]
  refine RG rfl (MV rfl (HO_compl rfl rfl rfl rfl ?_ ?_))
  ·(have:=Cod.crcS_lt (c:=4294967295) (by decide) b;simpa [IntKind.bits] using this)
  refine AS rfl (NI [2] [_] rfl (WD 0 [] rfl (R1 Tryz.results50 () rfl (fun w hA => ⟨?_,?_,?_⟩))))
  ·rfl
  ·trivial
  ·exact hA.keep (m:=[]) (Y:=[]) rfl
theorem Frame_spec (b : List UInt8) (a : Option Addr) (c : Nat) (hb : b.length≤1099511627776) : Spec Tryz.prog 30 #[.slice a (b.length) c] [.dat kByte.sl (b) [.slice a (b.length) c]] (β:=Option Addr × Nat) (fun y => .slice y.1 ((Cod.frame b).length) y.2) (fun y => True) (fun y => [.own 5 kByte y.1 y.2 (Cod.frame b)]):=by
 refine Spec.enter (vs:=[_]) Tryz.func30 rfl Tryz.ntmps30 rfl (Nat.le_of_ble_eq_true rfl) (fun w0 ok0 => ?_)
 generalize hM0 : blks _ = M0
 have hMn:=@noM _ _ hM0 (by simp [Atom.dat,Atom.elem])
 refine SQ (RG rfl (AS rfl (NI [0] [_] rfl (SQ (SQ (RG rfl (MV rfl (BI rfl (bi_len_sl Tryz.underlying32) (BN rfl bin_gtr (NI [6,0] [_,_] rfl (H_cond rfl ?_ ?_)))))))))))
 ·intro h6
  replace h6:=dT h6
  have hfr : Cod.frame b = []:=if_pos (by omega)
  refine SQ (RG rfl (AS rfl (NI [2] [_] rfl (WD 0 [] rfl (H_own0 kByte 5 none (R1 Tryz.results30 (none,0) rfl (fun w hA => ⟨?_,?_,?_⟩)))))))
  ·(rw [hfr];rfl)
  ·trivial
  ·(rw [hfr];exact hA.keep (m:=[yy]) (Y:=[_]) rfl)
 intro h6
 replace h6:=dF h6
 have hfr : Cod.frame b = (197 :: (Cod.le b.length 3 ++ b)) ++ Cod.le (Cod.crc (197 :: (Cod.le b.length 3 ++ b))) 4:=if_neg (by omega)
 refine SK (SQ (RG rfl (HO_buildSlice (kd:=kByte) (xo:=[_]) (vs:=[_]) (cs:=[_]) (xs:=[(197 : UInt8)]) rfl rfl rfl rfl Tryz.underlying32 elt5 rfl rfl rfl (by decide) (by decide) (by simp [Value.cells]) rfl (fun _ _ _ => ⟨_,_,rfl,⟨rfl,trivial⟩,rfl⟩) ?_)))
 intro g7
 refine MV rfl (BI rfl (bi_len_sl Tryz.underlying32) (CV rfl (cv_int Tryz.underlying3 Tryz.underlying89 (wrap_u_i rfl _)) (HO_set (v':=.int .u32 ((b.length : Int))) 10 rfl (by exact congrArg (Value.int .u32) (by simp only [IntKind.bits];omega)) (CB [0] [_] rfl Tryz.call49 (little_spec _ _ _ _ _ ?_ ?_ ?_) ?_))))
 ·omega
 ·decide
 ·(simp only [List.length_append,List.length_cons,List.length_nil,Cod.le_length];omega)
 intro y11 hy11
 refine AS rfl (NI [3,0] [_,_] rfl (SQ (RG rfl (MV rfl (MV rfl (HO_append (i:=0) (R:=[_]) rfl rfl rfl rfl rfl Tryz.underlying32 elt5 rfl rfl (SrcOk.dat (j:=0) Tryz.underlying32 rfl) ?_ ?_))))))
 ·(simp only [List.length_append,List.length_cons,List.length_nil,Cod.le_length];omega)
 intro a14 c14
 refine AS rfl (NI [3] [_] rfl (WD 1 [_] rfl (SQ (RG rfl (MV rfl (MV rfl (CB [0] [] rfl Tryz.call50 (Spec.lend (pre1:=[]) (pre2:=[]) (Sum_spec _ _ _) rfl (fun _ _ ha => nomatch ha)) ?_)))))))
 intro y17 hy17
 clear y17 hy17
 refine CB [0] [] rfl Tryz.call49 (little_spec _ _ _ _ _ ?_ ?_ ?_) ?_
 ·(exact Cod.crc_lt _)
 ·decide
 ·(simp only [List.length_append,List.length_cons,List.length_nil,Cod.le_length];omega)
 intro y18 hy18
 refine AS rfl (NI [2] [_] rfl (R1 Tryz.results30 y18 rfl (fun w hA => ⟨?_,?_,?_⟩)))
 ·(rw [hfr];rfl)
 ·trivial
 ·(rw [hfr];exact hA.keep (m:=[yy]) (Y:=[_]) rfl)
theorem Unframe_spec (b : List UInt8) (a : Option Addr) (c : Nat) (hb : b.length≤1099511627776) : Spec Tryz.prog 37 #[.slice a (b.length) c] [.dat kByte.sl (b) [.slice a (b.length) c]] (β:=Option Addr × Nat) (fun y => .tuple #[.slice y.1 ((Cod.unframe b).1.length) y.2,.int .i64 (((Cod.unframe b).2.1 : Int)),.int .i64 (((Cod.unframe b).2.2 : Int))]) (fun y => True) (fun y => [.own 5 kByte y.1 y.2 ((Cod.unframe b).1)]):=by
 have hu:=Cod.unframe.eq_1 b
 refine Spec.enter (vs:=[_]) Tryz.func37 rfl Tryz.ntmps37 rfl (Nat.le_of_ble_eq_true rfl) (fun w0 ok0 => ?_)
 generalize hM0 : blks _ = M0
 have hMn:=@noM _ _ hM0 (by simp [Atom.dat,Atom.elem])
 refine SQ (RG rfl (AS rfl (AS rfl (AS rfl (NI [0] [_] rfl (SQ (BO (SQ (RG rfl (MV rfl (BI rfl (bi_len_sl Tryz.underlying32) (BN rfl bin_eql ?_))))))))))))
 refine AS rfl (NI [7,0] [_,_] rfl (H_cond rfl ?_ ?_))
 ·intro h7
  replace h7:=dT h7
  rw [if_pos (by omega)] at hu
  refine SQ (RG rfl (AS rfl (AS rfl (AS rfl (NI [4,3,2] [_,_,_] rfl (WD 0 [] rfl (H_own0 kByte 5 none (H_ret3 Tryz.results37 (.tmp rfl) (.tmp rfl) (.tmp rfl) (fun w hA => ⟨(none,0),congrArg Ending.returned ?_,?_,?_⟩)))))))))
  ·(rw [hu];rfl)
  ·trivial
  ·(rw [hu];exact hA.keep (m:=[yy]) (Y:=[_]) rfl)
 intro h7
 replace h7:=dF h7
 rw [if_neg (by omega)] at hu
 refine SQ (RG rfl (MV rfl (HO_indexAddr open_byte (i:=0) (j:=0) rfl rfl rfl rfl rfl Tryz.underlying32 Tryz.sizeOf5 rfl ?_ ?_)))
 ·omega
 intro b13 o13 z13 y13 hz13 hI13
 clear y13 hI13
 refine LE 0 0 rfl Tryz.isAgg5 (BN rfl bin_neq (AS rfl (NI [11,0] [_,_] rfl (WD 2 [_] rfl (H_cond rfl ?_ ?_)))))
 ·intro h11
  replace h11:=dT h11
  rw [if_pos (by rw [Cod.head_at hz13];intro h;apply h11;rw [Option.some.inj h];rfl)] at hu
  refine SQ (RG rfl (AS rfl (AS rfl (AS rfl (NI [4,3,2] [_,_,_] rfl (WD 0 [] rfl (H_own0 kByte 5 none (H_ret3 Tryz.results37 (.tmp rfl) (.tmp rfl) (.tmp rfl) (fun w hA => ⟨(none,0),congrArg Ending.returned ?_,?_,?_⟩)))))))))
  ·(rw [hu];rfl)
  ·trivial
  ·(rw [hu];exact hA.keep (m:=[yy]) (Y:=[_]) rfl)
 intro h11
 replace h11:=dF h11
 rw [if_neg (by rw [Cod.head_at hz13];intro h;exact h (congrArg some (Cod.byte_of (by omega))))] at hu
 refine SQ (RG rfl (MV rfl (BI rfl (bi_len_sl Tryz.underlying32) (BN rfl bin_lss (AS rfl (NI [16,0] [_,_] rfl (H_cond rfl ?_ ?_)))))))
 ·intro h16
  replace h16:=dT h16
  rw [if_pos (by omega)] at hu
  refine SQ (RG rfl (AS rfl (AS rfl (AS rfl (NI [4,3,2] [_,_,_] rfl (WD 0 [] rfl (H_own0 kByte 5 none (H_ret3 Tryz.results37 (.tmp rfl) (.tmp rfl) (.tmp rfl) (fun w hA => ⟨(none,0),congrArg Ending.returned ?_,?_,?_⟩)))))))))
  ·(rw [hu];rfl)
  ·trivial
  ·(rw [hu];exact hA.keep (m:=[yy]) (Y:=[_]) rfl)
 intro h16
 replace h16:=dF h16
 rw [if_neg (by omega)] at hu
 refine SK (BD (SQ (RG rfl (MV rfl (HO_slice_lh (i:=0) (l:=1) (h':=4) rfl rfl rfl rfl rfl rfl rfl Tryz.underlying32 Tryz.sizeOf5 rfl ?_ ?_ ?_)))))
 ·omega
 ·omega
 intro a21 c21
 refine DU 0 rfl (CB [0] [_,_] rfl Tryz.call67 (whole_spec _ _ _ ?_) ?_)
 ·(simp only [List.length_drop,List.length_take];omega)
 intro y22 hy22
 clear y22 hy22
 refine CV rfl (cv_int Tryz.underlying89 Tryz.underlying3 (wrap_i64_nat ?_)) ?_
 ·(have:=Cod.wh_lt (List.drop 1 (List.take 4 b));have h2 : (List.drop 1 (List.take 4 b)).length = 3:=(by simp;omega);rw [h2] at this;omega)
 refine AS rfl (NI [5,0] [_,_] rfl (WD 2 [_] rfl (SQ (SQ ?_))))
 have hw24:=Cod.wh_lt (List.drop 1 (List.take 4 b))
 have hl3 : (List.drop 1 (List.take 4 b)).length = 3:=by simp;omega
 rw [hl3] at hw24
 refine RG rfl (MV rfl (BN rfl (bin_add ?_ ?_) ?_))
 ·omega
 ·omega
 refine AS rfl (NI [6,5,0] [_,_,_] rfl (BO (SQ (RG rfl (MV rfl (BN rfl bin_gtr (AS rfl (NI [26,6,5,0] [_,_,_,_] rfl (H_cond rfl ?_ ?_)))))))))
 ·intro h26
  replace h26:=dT h26
  rw [if_pos (by omega)] at hu
  refine SQ (RG rfl (AS rfl (AS rfl (AS rfl (NI [4,3,2] [_,_,_] rfl (WD 0 [] rfl (H_own0 kByte 5 none (H_ret3 Tryz.results37 (.tmp rfl) (.tmp rfl) (.tmp rfl) (fun w hA => ⟨(none,0),congrArg Ending.returned ?_,?_,?_⟩)))))))))
  ·(rw [hu];rfl)
  ·trivial
  ·(rw [hu];exact hA.keep (m:=[yy]) (Y:=[_]) rfl)
 intro h26
 replace h26:=dF h26
 rw [if_neg (by omega)] at hu
 refine SQ (RG rfl (MV rfl (BI rfl (bi_len_sl Tryz.underlying32) (MV rfl (BN rfl (bin_add ?_ ?_) ?_)))))
 ·omega
 ·omega
 refine BN rfl bin_lss (AS rfl (NI [29,6,5,0] [_,_,_,_] rfl (H_cond rfl ?_ ?_)))
 ·intro h29
  replace h29:=dT h29
  rw [if_pos (by omega)] at hu
  refine SQ (RG rfl (AS rfl (AS rfl (AS rfl (NI [4,3,2] [_,_,_] rfl (WD 0 [] rfl (H_own0 kByte 5 none (H_ret3 Tryz.results37 (.tmp rfl) (.tmp rfl) (.tmp rfl) (fun w hA => ⟨(none,0),congrArg Ending.returned ?_,?_,?_⟩)))))))))
  ·(rw [hu];rfl)
  ·trivial
  ·(rw [hu];exact hA.keep (m:=[yy]) (Y:=[_]) rfl)
 intro h29
 replace h29:=dF h29
 rw [if_neg (by omega)] at hu
 refine SQ (H_drawB (m:=[yy]) (Xs:=[_]) (fuel:=12) (l:=#[false,false,false,false,false,false,false,false,false,false,false,false]) mixed rfl rfl rfl (TA 0 rfl (by kernel_rfl) (V_move rfl) (TA 1 rfl (by kernel_rfl) (V_move rfl) (TA 4 rfl (by kernel_rfl) (V_move rfl) (TA 5 rfl (by kernel_rfl) (V_move rfl) (TA 6 rfl (by kernel_rfl) (V_move rfl) (TA 7 rfl (by kernel_rfl) (V_bin rfl rfl (bin_add ?_ ?_)) ?_)))))))
 ·omega
 ·omega
 refine HA_loud2 (i:=2) (j:=8) (by kernel_rfl) rfl rfl ?_ ?_
 ·refine HO_slice_h (i:=0) (h':=Cod.wh (List.drop 1 (List.take 4 b)) + 4) rfl rfl rfl rfl ?_ Tryz.underlying32 Tryz.sizeOf5 rfl ?_ ?_
  ·omega
  ·omega
  intro a38 c38
  refine BK 2 [_] rfl (HA_loud2 (i:=3) (j:=8) (by kernel_rfl) rfl rfl ?_ ?_)
  ·refine HO_dup (i:=0) rfl rfl ?_
   refine CB [0] [_,_] rfl Tryz.call50 (Sum_spec _ _ _) ?_
   intro y39 hy39
   clear y39 hy39
   refine BK 2 [_] rfl (LO 8 (by kernel_rfl) rfl (HO_slice_lh (i:=1) (l:=Cod.wh (List.drop 1 (List.take 4 b)) + 4) (h':=Cod.wh (List.drop 1 (List.take 4 b)) + 4 + 4) rfl rfl rfl rfl rfl ?_ ?_ Tryz.underlying32 Tryz.sizeOf5 rfl ?_ ?_ ?_))
   ·omega
   ·omega
   ·omega
   ·omega
   intro a44 c44
   refine BK 4 [_] rfl (LO 9 (by kernel_rfl) rfl (DU 0 rfl (CB [0] [_,_,_] rfl Tryz.call67 (whole_spec _ _ _ ?_) ?_)))
   ·(simp only [List.length_drop,List.length_take];omega)
   intro y45 hy45
   clear y45 hy45
   refine BK 4 [_] rfl (TK 10 4 [_] rfl (by kernel_rfl) (V_bin rfl rfl bin_neq) (TK 11 4 [_] rfl (by kernel_rfl) (V_assign rfl) (HA_done (by kernel_rfl) (EV [35,5,0] [_,_,_] rfl (WD 4 [_] rfl (H_cond rfl ?_ ?_))))))
   ·intro h35
    replace h35:=dT h35
    rw [if_pos (by omega)] at hu
    refine SQ (RG rfl (AS rfl (AS rfl (AS rfl (NI [4,3,2] [_,_,_] rfl (WD 0 [] rfl (H_own0 kByte 5 none (H_ret3 Tryz.results37 (.tmp rfl) (.tmp rfl) (.tmp rfl) (fun w hA => ⟨(none,0),congrArg Ending.returned ?_,?_,?_⟩)))))))))
    ·(rw [hu];rfl)
    ·trivial
    ·(rw [hu];exact hA.keep (m:=[yy]) (Y:=[_]) rfl)
   intro h35
   replace h35:=dF h35
   rw [if_neg (by omega)] at hu
   refine SK (BD (SQ (RG rfl (MV rfl (MV rfl (BN rfl (bin_add ?_ ?_) ?_))))))
   ·omega
   ·omega
   refine HO_slice_lh (i:=0) (l:=4) (h':=Cod.wh (List.drop 1 (List.take 4 b)) + 4) rfl rfl rfl rfl rfl rfl ?_ Tryz.underlying32 Tryz.sizeOf5 rfl ?_ ?_ ?_
   ·omega
   ·omega
   ·omega
   intro a50 c50
   refine HO_own0 kByte 5 none (HO_append (i:=0) (R:=[_,_]) rfl rfl rfl rfl rfl Tryz.underlying32 elt5 rfl rfl (SrcOk.dat (j:=0) Tryz.underlying32 rfl) ?_ ?_)
   ·(simp only [List.length_nil,List.length_drop,List.length_take];omega)
   intro a51 c51
   refine MV rfl (BN rfl (bin_add ?_ ?_) ?_)
   ·omega
   ·omega
   refine AS rfl (AS rfl (AS rfl (NI [4,3,2] [_,_,_] rfl (WD 1 [_] rfl (H_ret3 Tryz.results37 (.tmp rfl) (.tmp rfl) (.tmp rfl) (fun w hA => ⟨(a51,c51),congrArg Ending.returned ?_,?_,?_⟩))))))
   ·(rw [hu];rfl)
   ·trivial
   ·(rw [hu];exact hA.keep (m:=[yy]) (Y:=[_]) rfl)
  ·refine HO_slice_lh (i:=1) (l:=Cod.wh (List.drop 1 (List.take 4 b)) + 4) (h':=Cod.wh (List.drop 1 (List.take 4 b)) + 4 + 4) rfl rfl rfl rfl rfl ?_ ?_ Tryz.underlying32 Tryz.sizeOf5 rfl ?_ ?_ ?_
   ·omega
   ·omega
   ·omega
   ·omega
   intro a44 c44
   refine BK 4 [_] rfl (LO 3 (by kernel_rfl) rfl (DU 1 rfl (CB [0] [_,_,_] rfl Tryz.call50 (Sum_spec _ _ _) ?_)))
   intro y39 hy39
   clear y39 hy39
   refine BK 4 [_] rfl (LO 9 (by kernel_rfl) rfl (DU 0 rfl (CB [0] [_,_,_] rfl Tryz.call67 (whole_spec _ _ _ ?_) ?_)))
   ·(simp only [List.length_drop,List.length_take];omega)
   intro y45 hy45
   clear y45 hy45
   refine BK 4 [_] rfl (TK 10 4 [_] rfl (by kernel_rfl) (V_bin rfl rfl bin_neq) (TK 11 4 [_] rfl (by kernel_rfl) (V_assign rfl) (HA_done (by kernel_rfl) (EV [35,5,0] [_,_,_] rfl (WD 4 [_] rfl (H_cond rfl ?_ ?_))))))
   ·intro h35
    replace h35:=dT h35
    rw [if_pos (by omega)] at hu
    refine SQ (RG rfl (AS rfl (AS rfl (AS rfl (NI [4,3,2] [_,_,_] rfl (WD 0 [] rfl (H_own0 kByte 5 none (H_ret3 Tryz.results37 (.tmp rfl) (.tmp rfl) (.tmp rfl) (fun w hA => ⟨(none,0),congrArg Ending.returned ?_,?_,?_⟩)))))))))
    ·(rw [hu];rfl)
    ·trivial
    ·(rw [hu];exact hA.keep (m:=[yy]) (Y:=[_]) rfl)
   intro h35
   replace h35:=dF h35
   rw [if_neg (by omega)] at hu
   refine SK (BD (SQ (RG rfl (MV rfl (MV rfl (BN rfl (bin_add ?_ ?_) ?_))))))
   ·omega
   ·omega
   refine HO_slice_lh (i:=0) (l:=4) (h':=Cod.wh (List.drop 1 (List.take 4 b)) + 4) rfl rfl rfl rfl rfl rfl ?_ Tryz.underlying32 Tryz.sizeOf5 rfl ?_ ?_ ?_
   ·omega
   ·omega
   ·omega
   intro a50 c50
   refine HO_own0 kByte 5 none (HO_append (i:=0) (R:=[_,_]) rfl rfl rfl rfl rfl Tryz.underlying32 elt5 rfl rfl (SrcOk.dat (j:=0) Tryz.underlying32 rfl) ?_ ?_)
   ·(simp only [List.length_nil,List.length_drop,List.length_take];omega)
   intro a51 c51
   refine MV rfl (BN rfl (bin_add ?_ ?_) ?_)
   ·omega
   ·omega
   refine AS rfl (AS rfl (AS rfl (NI [4,3,2] [_,_,_] rfl (WD 1 [_] rfl (H_ret3 Tryz.results37 (.tmp rfl) (.tmp rfl) (.tmp rfl) (fun w hA => ⟨(a51,c51),congrArg Ending.returned ?_,?_,?_⟩))))))
   ·(rw [hu];rfl)
   ·trivial
   ·(rw [hu];exact hA.keep (m:=[yy]) (Y:=[_]) rfl)
 ·refine HO_slice_lh (i:=0) (l:=Cod.wh (List.drop 1 (List.take 4 b)) + 4) (h':=Cod.wh (List.drop 1 (List.take 4 b)) + 4 + 4) rfl rfl rfl rfl rfl ?_ ?_ Tryz.underlying32 Tryz.sizeOf5 rfl ?_ ?_ ?_
  ·omega
  ·omega
  ·omega
  ·omega
  intro a44 c44
  refine BK 2 [_] rfl (LO 2 (by kernel_rfl) rfl (HO_slice_h (i:=1) (h':=Cod.wh (List.drop 1 (List.take 4 b)) + 4) rfl rfl rfl rfl ?_ Tryz.underlying32 Tryz.sizeOf5 rfl ?_ ?_))
  ·omega
  ·omega
  intro a38 c38
  refine BK 4 [_] rfl (LO 3 (by kernel_rfl) rfl (DU 0 rfl (CB [0] [_,_,_] rfl Tryz.call50 (Sum_spec _ _ _) ?_)))
  intro y39 hy39
  clear y39 hy39
  refine BK 4 [_] rfl (LO 9 (by kernel_rfl) rfl (DU 1 rfl (CB [0] [_,_,_] rfl Tryz.call67 (whole_spec _ _ _ ?_) ?_)))
  ·(simp only [List.length_drop,List.length_take];omega)
  intro y45 hy45
  clear y45 hy45
  refine BK 4 [_] rfl (TK 10 4 [_] rfl (by kernel_rfl) (V_bin rfl rfl bin_neq) (TK 11 4 [_] rfl (by kernel_rfl) (V_assign rfl) (HA_done (by kernel_rfl) (EV [35,5,0] [_,_,_] rfl (WD 4 [_] rfl (H_cond rfl ?_ ?_))))))
  ·intro h35
   replace h35:=dT h35
   rw [if_pos (by omega)] at hu
   refine SQ (RG rfl (AS rfl (AS rfl (AS rfl (NI [4,3,2] [_,_,_] rfl (WD 0 [] rfl (H_own0 kByte 5 none (H_ret3 Tryz.results37 (.tmp rfl) (.tmp rfl) (.tmp rfl) (fun w hA => ⟨(none,0),congrArg Ending.returned ?_,?_,?_⟩)))))))))
   ·(rw [hu];rfl)
   ·trivial
   ·(rw [hu];exact hA.keep (m:=[yy]) (Y:=[_]) rfl)
  intro h35
  replace h35:=dF h35
  rw [if_neg (by omega)] at hu
  refine SK (BD (SQ (RG rfl (MV rfl (MV rfl (BN rfl (bin_add ?_ ?_) ?_))))))
  ·omega
  ·omega
  refine HO_slice_lh (i:=0) (l:=4) (h':=Cod.wh (List.drop 1 (List.take 4 b)) + 4) rfl rfl rfl rfl rfl rfl ?_ Tryz.underlying32 Tryz.sizeOf5 rfl ?_ ?_ ?_
  ·omega
  ·omega
  ·omega
  intro a50 c50
  refine HO_own0 kByte 5 none (HO_append (i:=0) (R:=[_,_]) rfl rfl rfl rfl rfl Tryz.underlying32 elt5 rfl rfl (SrcOk.dat (j:=0) Tryz.underlying32 rfl) ?_ ?_)
  ·(simp only [List.length_nil,List.length_drop,List.length_take];omega)
  intro a51 c51
  refine MV rfl (BN rfl (bin_add ?_ ?_) ?_)
  ·omega
  ·omega
  refine AS rfl (AS rfl (AS rfl (NI [4,3,2] [_,_,_] rfl (WD 1 [_] rfl (H_ret3 Tryz.results37 (.tmp rfl) (.tmp rfl) (.tmp rfl) (fun w hA => ⟨(a51,c51),congrArg Ending.returned ?_,?_,?_⟩))))))
  ·(rw [hu];rfl)
  ·trivial
  ·(rw [hu];exact hA.keep (m:=[yy]) (Y:=[_]) rfl)
theorem GetText_spec (b : List UInt8) (a : Option Addr) (c : Nat) (hb : b.length≤1099511627776) : Spec Tryz.prog 131 #[.slice a (b.length) c] [.dat kByte.sl (b) [.slice a (b.length) c]] (β:=Unit) (fun y => .tuple #[.string (⟨(Cod.decT b).1.toArray⟩),.int .i64 (((Cod.decT b).2 : Int))]) (fun y => True) (fun y => []):=by
 have hlt:=Cod.dec_lt b
 have hle:=Cod.dec_len b
 have hu:=Cod.decT.eq_1 b
 refine Spec.enter (vs:=[_]) Tryz.func131 rfl Tryz.ntmps131 rfl (Nat.le_of_ble_eq_true rfl) (fun w0 ok0 => ?_)
 generalize hM0 : blks _ = M0
 have hMn:=@noM _ _ hM0 (by simp [Atom.dat,Atom.elem])
 refine SQ (RG rfl (AS rfl (AS rfl (NI [0] [_] rfl (SQ (RG rfl (MV rfl (DU 0 rfl (CB [0] [_] rfl Tryz.call129 (Get_spec _ _ _) ?_)))))))))
 intro y9 hy9
 clear y9 hy9
 refine MV rfl (EX [_,_] rfl (EX [_,_] rfl (AS rfl (AS rfl (NI [5,4,0] [_,_,_] rfl (SQ (SQ (RG rfl (MV rfl (BN rfl bin_eql (MV rfl (HO_split (d:=14) rfl ?_ ?_))))))))))))
 ·intro h14
  replace h14:=dT h14
  iterate 7 refine HO_no rfl rfl rfl ?_
  refine PT rfl (NI [22,5,4,0] [_,_,_,_] rfl (CT rfl (SQ (RG rfl (AS rfl (AS rfl (NI [3,2] [_,_] rfl (WD 0 [] rfl (R2 Tryz.results131 () rfl (fun w hA => ⟨?_,?_,?_⟩))))))))))
  ·(rw [hu,if_pos (by omega)];rfl)
  ·trivial
  ·exact hA.keep (m:=[]) (Y:=[]) rfl
 intro h14
 replace h14:=dF h14
 refine MV rfl (MV rfl (BI rfl (bi_len_sl Tryz.underlying32) (MV rfl (BN rfl (bin_sub ?_ ?_) ?_))))
 ·omega
 ·omega
 refine CV rfl (cv_int Tryz.underlying3 Tryz.underlying97 (wrap_u_i rfl _)) (HO_set (v':=.int .u64 (((b.length - (Cod.dec b).2 : Nat) : Int))) 20 rfl (by exact congrArg (Value.int .u64) (by simp only [IntKind.bits];omega)) (BN rfl bin_gtr (PF rfl (NI [22,5,4,0] [_,_,_,_] rfl (H_cond rfl ?_ ?_)))))
 ·intro h22
  replace h22:=dT h22
  skip
  refine SQ (RG rfl (AS rfl (AS rfl (NI [3,2] [_,_] rfl (WD 0 [] rfl (R2 Tryz.results131 () rfl (fun w hA => ⟨?_,?_,?_⟩)))))))
  ·(rw [hu,if_pos (by omega)];rfl)
  ·trivial
  ·exact hA.keep (m:=[]) (Y:=[]) rfl
 intro h22
 replace h22:=dF h22
 refine SK (SQ (RG rfl (MV rfl (MV rfl (CV rfl (cv_int Tryz.underlying97 Tryz.underlying3 (wrap_i64_nat ?_)) ?_)))))
 ·omega
 refine BN rfl (bin_add ?_ ?_) ?_
 ·omega
 ·omega
 refine AS rfl (NI [6,5,0] [_,_,_] rfl (SQ (RG rfl (MV rfl (MV rfl (MV rfl (HO_slice_lh (i:=0) (l:=(Cod.dec b).2) (h':=(Cod.dec b).2 + (Cod.dec b).1) rfl rfl rfl rfl rfl ?_ ?_ Tryz.underlying32 Tryz.sizeOf5 rfl ?_ ?_ ?_)))))))
 ·omega
 ·omega
 ·omega
 ·omega
 intro a30 c30
 refine HO_bytesStr (i:=0) rfl rfl rfl Tryz.underlying32 Tryz.underlying9 Tryz.underlying5 rfl (MV rfl (AS rfl (AS rfl (NI [3,2] [_,_] rfl (WD 0 [] rfl (R2 Tryz.results131 () rfl (fun w hA => ⟨?_,?_,?_⟩)))))))
 ·(rw [hu,if_neg (by omega)];rfl)
 ·trivial
 ·exact hA.keep (m:=[]) (Y:=[]) rfl
theorem GetBool_spec (b : List UInt8) (a : Option Addr) (c : Nat)  : Spec Tryz.prog 100 #[.slice a (b.length) c] [.dat kByte.sl (b) [.slice a (b.length) c]] (β:=Unit) (fun y => .tuple #[.bool ((Cod.decB b).1),.int .i64 (((Cod.decB b).2 : Int))]) (fun y => True) (fun y => []):=by
 refine Spec.enter (vs:=[_]) Tryz.func100 rfl Tryz.ntmps100 rfl (Nat.le_of_ble_eq_true rfl) (fun w0 ok0 => ?_)
 generalize hM0 : blks _ = M0
 have hMn:=@noM _ _ hM0 (by simp [Atom.dat,Atom.elem])
 refine SQ (RG rfl (AS rfl (AS rfl (NI [0] [_] rfl (SQ (SQ (RG rfl (MV rfl (BI rfl (bi_len_sl Tryz.underlying32) (BN rfl bin_eql (MV rfl (HO_split (d:=7) rfl ?_ ?_))))))))))))
 ·intro h7
  replace h7:=dT h7
  iterate 10 refine HO_no rfl rfl rfl ?_
  refine PT rfl (NI [18,0] [_,_] rfl (CT rfl (SQ (RG rfl (AS rfl (AS rfl (NI [3,2] [_,_] rfl (WD 0 [] rfl ?_))))))))
  obtain rfl : b = []:=List.eq_nil_of_length_eq_zero (by omega)
  refine R2 Tryz.results100 () rfl (fun w hA => ⟨?_,?_,?_⟩)
  ·rfl
  ·trivial
  ·exact hA.keep (m:=[]) (Y:=[]) rfl
 intro h7
 replace h7:=dF h7
 refine MV rfl (HO_indexAddr open_byte (i:=0) (j:=0) rfl rfl rfl rfl rfl Tryz.underlying32 Tryz.sizeOf5 rfl ?_ ?_)
 ·omega
 intro b9 o9 z9 y9 hz9 hI9
 clear y9 hI9
 refine LE 0 0 rfl Tryz.isAgg5 (BN rfl bin_neq (MV rfl (HO_split (d:=12) rfl ?_ ?_)))
 ·intro h12
  replace h12:=dT h12
  refine MV rfl (HO_indexAddr open_byte (i:=1) (j:=0) rfl rfl rfl rfl rfl Tryz.underlying32 Tryz.sizeOf5 rfl ?_ ?_)
  ·omega
  intro b14 o14 z14 y14 hz14 hI14
  clear y14 hI14
  refine LE 0 0 rfl Tryz.isAgg5 (BN rfl bin_neq (PT rfl (PF rfl (NI [18,0] [_,_] rfl (WD 4 [_] rfl (H_cond rfl ?_ ?_))))))
  ·intro h18
   replace h18:=dT h18
   refine SQ (RG rfl (AS rfl (AS rfl (NI [3,2] [_,_] rfl (WD 0 [] rfl (R2 Tryz.results100 () rfl (fun w hA => ⟨?_,?_,?_⟩)))))))
   ·(first | (rw [Cod.getb_no hz9 hz14 h12 h18];rfl) | (rw [Cod.getb_yes hz9 hz20 (.inl (by omega))];rfl) | (rw [Cod.getb_yes hz14 hz20 (.inr (by omega))];rfl))
   ·trivial
   ·exact hA.keep (m:=[]) (Y:=[]) rfl
  intro h18
  replace h18:=dF h18
  refine SK (SQ (RG rfl (MV rfl (HO_indexAddr open_byte (i:=0) (j:=0) rfl rfl rfl rfl rfl Tryz.underlying32 Tryz.sizeOf5 rfl ?_ ?_))))
  ·omega
  intro b20 o20 z20 y20 hz20 hI20
  clear y20 hI20
  refine LE 0 0 rfl Tryz.isAgg5 (BN rfl bin_eql (AS rfl (AS rfl (NI [3,2] [_,_] rfl (WD 0 [] rfl (R2 Tryz.results100 () rfl (fun w hA => ⟨?_,?_,?_⟩)))))))
  ·(first | (rw [Cod.getb_no hz9 hz14 h12 h18];rfl) | (rw [Cod.getb_yes hz9 hz20 (.inl (by omega))];rfl) | (rw [Cod.getb_yes hz14 hz20 (.inr (by omega))];rfl))
  ·trivial
  ·exact hA.keep (m:=[]) (Y:=[]) rfl
 intro h12
 replace h12:=dF h12
 refine NO rfl (NO rfl (NO rfl (NO rfl (PF rfl (PF rfl (NI [18,0] [_,_] rfl (WD 2 [_] rfl (CF rfl (SK (SQ (RG rfl (MV rfl ?_))))))))))))
 refine HO_indexAddr open_byte (i:=0) (j:=0) rfl rfl rfl rfl rfl Tryz.underlying32 Tryz.sizeOf5 rfl ?_ ?_
 ·omega
 intro b20 o20 z20 y20 hz20 hI20
 clear y20 hI20
 refine LE 0 0 rfl Tryz.isAgg5 (BN rfl bin_eql (AS rfl (AS rfl (NI [3,2] [_,_] rfl (WD 0 [] rfl (R2 Tryz.results100 () rfl (fun w hA => ⟨?_,?_,?_⟩)))))))
 ·(first | (rw [Cod.getb_no hz9 hz14 h12 h18];rfl) | (rw [Cod.getb_yes hz9 hz20 (.inl (by omega))];rfl) | (rw [Cod.getb_yes hz14 hz20 (.inr (by omega))];rfl))
 ·trivial
 ·exact hA.keep (m:=[]) (Y:=[]) rfl
end Go.Wk
