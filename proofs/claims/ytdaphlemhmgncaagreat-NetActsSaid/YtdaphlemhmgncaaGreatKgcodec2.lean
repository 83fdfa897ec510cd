/- Contracts of the program's functions, each proved by walking its code. -/
import Derived.Test.YtdaphlemhmgncaaGreatKgcodec1
set_option maxRecDepth 100000
set_option linter.unusedVariables false
set_option linter.unusedSimpArgs false
namespace Go.Wk.Fcodec2
open Go Go.RowKit Go.Proofs Go.Wk
theorem elt5 : Elt Tryz.prog 5 (.int .u8 (0)) 1 1:=Elt.of (by kernel_rfl) (by rfl) (by decide) (by decide)
end Go.Wk.Fcodec2
namespace Go.Wk
open Go Go.RowKit Go.Proofs Fcodec2 
theorem put_spec (b : List UInt8) (u : Nat) (a : Option Addr) (c : Nat) (hu : u < 18446744073709551616) (hb : b.length≤1099511627776) : Spec Tryz.prog 122 #[.slice a (b.length) c,.int .u64 (u)] [.own 5 kByte a c (b)] (β:=Option Addr × Nat) (fun y => .slice y.1 ((b ++ Cod.enc u).length) y.2) (fun y => True) (fun y => [.own 5 kByte y.1 y.2 (b ++ Cod.enc u)]):=by
 have hk8:=Cod.beh_le u
 refine Spec.enter (vs:=[_,_]) Tryz.func122 rfl Tryz.ntmps122 rfl (Nat.le_of_ble_eq_true rfl) (fun w0 ok0 => ?_)
 generalize hM0 : blks _ = M0
 refine SQ (RG rfl (AS rfl (NI [0,1] [_,_] rfl (SQ (RG rfl (MV rfl (CB [] [_] rfl Tryz.call145 (behind_spec _ ?_) ?_)))))))
 ·(first | omega | assumption | decide)
 intro y8 hy8
 clear y8 hy8
 refine AS rfl (NI [5,0,1] [_,_,_] rfl (SQ (RG rfl (MV rfl (CB [] [_] rfl Tryz.call146 (ones_spec _ ?_) ?_)))))
 ·(first | omega | assumption | decide)
 intro y10 hy10
 clear y10 hy10
 refine AS rfl (NI [6,5,0,1] [_,_,_,_] rfl (SQ (SQ (RG rfl (MV rfl (BN rfl bin_lss (NI [12,6,5,0,1] [_,_,_,_,_] rfl (H_cond rfl ?_ ?_))))))))
 ·intro h12
  replace h12:=dT h12
  refine RG rfl (MV rfl (MV rfl (MV rfl (BN rfl (bin_mul ?_ ?_) ?_))))
  ·omega
  ·omega
  refine BN rfl (bin_shr' ?_ ?_) ?_
  ·(simp only [IntKind.bits];omega)
  ·omega
  refine CV rfl (cv_int Tryz.underlying97 Tryz.underlying5 (wrap_u rfl _)) (BN rfl (bin_or rfl ?_ ?_) ?_)
  ·(simp only [IntKind.bits];have:=Cod.onesB_lt (Cod.beh u);omega)
  ·(exact Nat.mod_lt _ (by decide))
  refine AS rfl (NI [6,5,0,1] [_,_,_,_] rfl (SQ (H_set (v':=.int .u8 ((UInt8.ofNat (Cod.headB u)).toNat : Int)) 6 rfl (by (first | exact head_set1 (by omega) (by omega) | exact head_set2 (by omega))) (RG rfl (MV rfl (MV rfl (HO_buildSlice (kd:=kByte) (xo:=[_]) (vs:=[_]) (cs:=[_]) (xs:=[_]) rfl rfl rfl rfl Tryz.underlying32 elt5 rfl rfl rfl (by decide) (by decide) (by simp [Value.cells]) rfl (fun _ _ _ => ⟨_,_,rfl,⟨rfl,trivial⟩,rfl⟩) ?_)))))))
  intro g22
  refine HO_append (i:=1) (R:=[_]) rfl rfl rfl rfl rfl Tryz.underlying32 elt5 rfl rfl (SrcOk.own (j:=0) Tryz.underlying32 rfl rfl) ?_ ?_
  ·(simp only [List.length_cons,List.length_nil];omega)
  intro a23 c23
  refine AS rfl (NI [0,5,1] [_,_,_] rfl (WD 1 [_] rfl (SQ (SQ (RG rfl (MV rfl (BN rfl (bin_sub ?_ ?_) ?_)))))))
  ·(first | omega | assumption | decide)
  ·(first | omega | assumption | decide)
  refine AS rfl (NI [5,0,1] [_,_,_] rfl (BO (H_loop (σ:=Nat × List UInt8 × Option Addr × Nat) (fun s => s.2.1 ++ Cod.tailB u s.1 = b ++ Cod.enc u∧s.1≤8) (fun s => [(0,.slice s.2.2.1 (s.2.1.length) s.2.2.2),(1,.int .u64 (u)),(5,.int .i64 ((s.1 : Int) - 1))]) (fun s => Asn w0 ok0 M0 [.own 5 kByte s.2.2.1 s.2.2.2 (s.2.1)]) (fun s => s.1) ⟨Cod.beh u,b ++ [UInt8.ofNat (Cod.headB u)],a23,c23⟩ ?_ ?_ ?_ ?_)))
  ·exact ⟨by simp [Cod.enc],Cod.beh_le u⟩
  ·exact ⟨rfl,rfl,rfl,trivial⟩
  ·intro w hA
   exact hA.only (is:=[0]) (Z:=[]) rfl
  ·rintro ⟨j,l,a,c⟩ hI
   (try dsimp only at hI ⊢)
   refine SQ (SQ (RG rfl (MV rfl (BN rfl bin_geq (NI [27,0,1,5] [_,_,_,_] rfl (H_cond rfl ?_ ?_))))))
   ·intro h27
    replace h27:=dT h27
    refine SK (SQ (BO (RG rfl (MV rfl (MV rfl (MV rfl (BN rfl (bin_mul ?_ ?_) ?_)))))))
    ·omega
    ·omega
    refine BN rfl (bin_shr' ?_ ?_) ?_
    ·(simp only [IntKind.bits];omega)
    ·omega
    refine CV rfl (cv_int Tryz.underlying97 Tryz.underlying5 (wrap_u rfl _)) (HO_set (v':=.int .u8 (((UInt8.ofNat (u / 2 ^ (8 * (j - 1)))).toNat : Int))) 35 rfl (by (exact byte_eq (by congr 2;omega))) (HO_buildSlice (kd:=kByte) (xo:=[_]) (vs:=[_]) (cs:=[_]) (xs:=[_]) rfl rfl rfl rfl Tryz.underlying32 elt5 rfl rfl rfl (by decide) (by decide) (by simp [Value.cells]) rfl (fun _ _ _ => ⟨_,_,rfl,⟨rfl,trivial⟩,rfl⟩) ?_))
    intro g36
    refine HO_append (i:=1) (R:=[_]) rfl rfl rfl rfl rfl Tryz.underlying32 elt5 rfl rfl (SrcOk.own (j:=0) Tryz.underlying32 rfl rfl) ?_ ?_
    ·(simp only [List.length_cons,List.length_nil];have:=congrArg List.length hI.1;simp only [List.length_append,Cod.tailB_length,Cod.enc_length] at this;omega)
    intro a37 c37
    refine AS rfl (NI [0,1,5] [_,_,_] rfl (WD 1 [_] rfl (BD (RG rfl (MV rfl (BN rfl (bin_sub ?_ ?_) ?_))))))
    ·(first | omega | assumption | decide)
    ·(first | omega | assumption | decide)
    refine AS rfl (NI [5,0,1] [_,_,_] rfl (H_inv (fun a w hf hA => ⟨⟨j - 1,l ++ [UInt8.ofNat (u / 2 ^ (8 * (j - 1)))],a37,c37⟩,?_,?_,hf.sub ?_,?_⟩)))
    ·exact ⟨by obtain ⟨j',rfl⟩ : ∃ m,j = m + 1:=⟨j - 1,by omega⟩;simpa [Cod.tailB] using hI.1,by omega⟩
    ·(try dsimp only);omega
    ·exact ⟨rfl,rfl,congrArg (fun z => some (Value.int .i64 z)) (by omega),trivial⟩
    ·exact hA.only (is:=[0]) (Z:=[]) rfl
   intro h27
   replace h27:=dF h27
   refine H_exit rfl (SQ (RG rfl (MV rfl (AS rfl (NI [4] [_] rfl ?_)))))
   obtain rfl : j = 0:=by omega
   have hI1:=hI.1
   simp only [Cod.tailB,List.append_nil] at hI1
   subst hI1
   refine R1 Tryz.results122 (a,c) rfl (fun w hA => ⟨?_,?_,?_⟩)
   ·rfl
   ·trivial
   ·exact hA.keep (m:=[yy]) (Y:=[_]) rfl
 intro h12
 replace h12:=dF h12
 refine SK (SQ (H_set (v':=.int .u8 ((UInt8.ofNat (Cod.headB u)).toNat : Int)) 6 rfl (by (first | exact head_set1 (by omega) (by omega) | exact head_set2 (by omega))) (RG rfl (MV rfl (MV rfl (HO_buildSlice (kd:=kByte) (xo:=[_]) (vs:=[_]) (cs:=[_]) (xs:=[_]) rfl rfl rfl rfl Tryz.underlying32 elt5 rfl rfl rfl (by decide) (by decide) (by simp [Value.cells]) rfl (fun _ _ _ => ⟨_,_,rfl,⟨rfl,trivial⟩,rfl⟩) ?_))))))
 intro g22
 refine HO_append (i:=1) (R:=[_]) rfl rfl rfl rfl rfl Tryz.underlying32 elt5 rfl rfl (SrcOk.own (j:=0) Tryz.underlying32 rfl rfl) ?_ ?_
 ·(simp only [List.length_cons,List.length_nil];omega)
 intro a23 c23
 refine AS rfl (NI [0,5,1] [_,_,_] rfl (WD 1 [_] rfl (SQ (SQ (RG rfl (MV rfl (BN rfl (bin_sub ?_ ?_) ?_)))))))
 ·(first | omega | assumption | decide)
 ·(first | omega | assumption | decide)
 refine AS rfl (NI [5,0,1] [_,_,_] rfl (BO (H_loop (σ:=Nat × List UInt8 × Option Addr × Nat) (fun s => s.2.1 ++ Cod.tailB u s.1 = b ++ Cod.enc u∧s.1≤8) (fun s => [(0,.slice s.2.2.1 (s.2.1.length) s.2.2.2),(1,.int .u64 (u)),(5,.int .i64 ((s.1 : Int) - 1))]) (fun s => Asn w0 ok0 M0 [.own 5 kByte s.2.2.1 s.2.2.2 (s.2.1)]) (fun s => s.1) ⟨Cod.beh u,b ++ [UInt8.ofNat (Cod.headB u)],a23,c23⟩ ?_ ?_ ?_ ?_)))
 ·exact ⟨by simp [Cod.enc],Cod.beh_le u⟩
 ·exact ⟨rfl,rfl,rfl,trivial⟩
 ·intro w hA
  exact hA.only (is:=[0]) (Z:=[]) rfl
 ·rintro ⟨j,l,a,c⟩ hI
  (try dsimp only at hI ⊢)
  refine SQ (SQ (RG rfl (MV rfl (BN rfl bin_geq (NI [27,0,1,5] [_,_,_,_] rfl (H_cond rfl ?_ ?_))))))
  ·intro h27
   replace h27:=dT h27
   refine SK (SQ (BO (RG rfl (MV rfl (MV rfl (MV rfl (BN rfl (bin_mul ?_ ?_) ?_)))))))
   ·omega
   ·omega
   refine BN rfl (bin_shr' ?_ ?_) ?_
   ·(simp only [IntKind.bits];omega)
   ·omega
   refine CV rfl (cv_int Tryz.underlying97 Tryz.underlying5 (wrap_u rfl _)) (HO_set (v':=.int .u8 (((UInt8.ofNat (u / 2 ^ (8 * (j - 1)))).toNat : Int))) 35 rfl (by (exact byte_eq (by congr 2;omega))) (HO_buildSlice (kd:=kByte) (xo:=[_]) (vs:=[_]) (cs:=[_]) (xs:=[_]) rfl rfl rfl rfl Tryz.underlying32 elt5 rfl rfl rfl (by decide) (by decide) (by simp [Value.cells]) rfl (fun _ _ _ => ⟨_,_,rfl,⟨rfl,trivial⟩,rfl⟩) ?_))
   intro g36
   refine HO_append (i:=1) (R:=[_]) rfl rfl rfl rfl rfl Tryz.underlying32 elt5 rfl rfl (SrcOk.own (j:=0) Tryz.underlying32 rfl rfl) ?_ ?_
   ·(simp only [List.length_cons,List.length_nil];have:=congrArg List.length hI.1;simp only [List.length_append,Cod.tailB_length,Cod.enc_length] at this;omega)
   intro a37 c37
   refine AS rfl (NI [0,1,5] [_,_,_] rfl (WD 1 [_] rfl (BD (RG rfl (MV rfl (BN rfl (bin_sub ?_ ?_) ?_))))))
   ·(first | omega | assumption | decide)
   ·(first | omega | assumption | decide)
   refine AS rfl (NI [5,0,1] [_,_,_] rfl (H_inv (fun a w hf hA => ⟨⟨j - 1,l ++ [UInt8.ofNat (u / 2 ^ (8 * (j - 1)))],a37,c37⟩,?_,?_,hf.sub ?_,?_⟩)))
   ·exact ⟨by obtain ⟨j',rfl⟩ : ∃ m,j = m + 1:=⟨j - 1,by omega⟩;simpa [Cod.tailB] using hI.1,by omega⟩
   ·(try dsimp only);omega
   ·exact ⟨rfl,rfl,congrArg (fun z => some (Value.int .i64 z)) (by omega),trivial⟩
   ·exact hA.only (is:=[0]) (Z:=[]) rfl
  intro h27
  replace h27:=dF h27
  refine H_exit rfl (SQ (RG rfl (MV rfl (AS rfl (NI [4] [_] rfl ?_)))))
  obtain rfl : j = 0:=by omega
  have hI1:=hI.1
  simp only [Cod.tailB,List.append_nil] at hI1
  subst hI1
  refine R1 Tryz.results122 (a,c) rfl (fun w hA => ⟨?_,?_,?_⟩)
  ·rfl
  ·trivial
  ·exact hA.keep (m:=[yy]) (Y:=[_]) rfl
theorem Put_spec (b : List UInt8) (u : Nat) (a : Option Addr) (c : Nat) (hu : u < 18446744073709551616) (hb : b.length≤1099511627776) : Spec Tryz.prog 86 #[.slice a (b.length) c,.int .u64 (u)] [.dat kByte.sl (b) [.slice a (b.length) c]] (β:=Option Addr × Nat) (fun y => .slice y.1 ((b ++ Cod.enc u).length) y.2) (fun y => True) (fun y => [.own 5 kByte y.1 y.2 (b ++ Cod.enc u)]):=by
 refine Spec.enter (vs:=[_,_]) Tryz.func86 rfl Tryz.ntmps86 rfl (Nat.le_of_ble_eq_true rfl) (fun w0 ok0 => ?_)
 generalize hM0 : blks _ = M0
 have hMn:=@noM _ _ hM0 (by simp [Atom.dat,Atom.elem])
 refine SQ (RG rfl (AS rfl (NI [0,1] [_,_] rfl (SQ (RG rfl (MV rfl (HO_own0 kByte 5 none (HO_append (i:=0) (R:=[_]) rfl rfl rfl rfl rfl Tryz.underlying32 elt5 rfl rfl (SrcOk.dat (j:=0) Tryz.underlying32 rfl) ?_ ?_))))))))
 ·(simp only [List.length_nil];omega)
 intro a6 c6
 refine MV rfl (CB [0] [_] rfl Tryz.call122 (put_spec _ _ _ _ ?_ ?_) ?_)
 ·assumption
 ·(simpa using hb)
 intro y8 hy8
 refine AS rfl (NI [4] [_] rfl (WD 1 [_] rfl (R1 Tryz.results86 y8 rfl (fun w hA => ⟨?_,?_,?_⟩))))
 ·rfl
 ·trivial
 ·exact hA.keep (m:=[yy]) (Y:=[_]) rfl
theorem text_spec (b : List UInt8) (s : ByteArray) (a : Option Addr) (c : Nat) (hs : s.size≤1099511627776) (hb : b.length≤1099511627776) : Spec Tryz.prog 124 #[.slice a (b.length) c,.string (s)] [.own 5 kByte a c (b)] (β:=Option Addr × Nat) (fun y => .slice y.1 ((b ++ (Cod.enc s.size ++ s.data.toList)).length) y.2) (fun y => True) (fun y => [.own 5 kByte y.1 y.2 (b ++ (Cod.enc s.size ++ s.data.toList))]):=by
 refine Spec.enter (vs:=[_,_]) Tryz.func124 rfl Tryz.ntmps124 rfl (Nat.le_of_ble_eq_true rfl) (fun w0 ok0 => ?_)
 generalize hM0 : blks _ = M0
 refine SQ (RG rfl (AS rfl (NI [0,1] [_,_] rfl (SQ (RG rfl (MV rfl (MV rfl (BI rfl (bi_len_str Tryz.underlying9) (CV rfl (cv_int Tryz.underlying3 Tryz.underlying97 (wrap_u_i rfl _)) (HO_set (v':=.int .u64 ((s.size : Int))) 8 rfl (by exact congrArg (Value.int .u64) (by simp only [IntKind.bits];omega)) (CB [0] [] rfl Tryz.call122 (put_spec _ _ _ _ ?_ ?_) ?_)))))))))))
 ·omega
 ·assumption
 intro y9 hy9
 refine MV rfl (HO_append (i:=0) (R:=[]) rfl rfl rfl rfl rfl Tryz.underlying32 elt5 rfl rfl (SrcOk.str Tryz.underlying9) ?_ ?_)
 ·(have:=Cod.enc_length s.size;have:=Cod.beh_le s.size;have hss : s.data.toList.length = s.size:=Array.length_toList;simp only [List.length_append];omega)
 intro a11 c11
 refine AS rfl (NI [4] [_] rfl (R1 Tryz.results124 (a11,c11) rfl (fun w hA => ⟨?_,?_,?_⟩)))
 ·simp [List.append_assoc]
 ·trivial
 ·exact (hA.keep (m:=[yy]) (Y:=[_]) rfl).cast (by simp [List.append_assoc])
theorem PutText_spec (b : List UInt8) (s : ByteArray) (a : Option Addr) (c : Nat) (hs : s.size≤1099511627776) (hb : b.length≤1099511627776) : Spec Tryz.prog 88 #[.slice a (b.length) c,.string (s)] [.dat kByte.sl (b) [.slice a (b.length) c]] (β:=Option Addr × Nat) (fun y => .slice y.1 ((b ++ (Cod.enc s.size ++ s.data.toList)).length) y.2) (fun y => True) (fun y => [.own 5 kByte y.1 y.2 (b ++ (Cod.enc s.size ++ s.data.toList))]):=by
 refine Spec.enter (vs:=[_,_]) Tryz.func88 rfl Tryz.ntmps88 rfl (Nat.le_of_ble_eq_true rfl) (fun w0 ok0 => ?_)
 generalize hM0 : blks _ = M0
 have hMn:=@noM _ _ hM0 (by simp [Atom.dat,Atom.elem])
 refine SQ (RG rfl (AS rfl (NI [0,1] [_,_] rfl (SQ (RG rfl (MV rfl (HO_own0 kByte 5 none (HO_append (i:=0) (R:=[_]) rfl rfl rfl rfl rfl Tryz.underlying32 elt5 rfl rfl (SrcOk.dat (j:=0) Tryz.underlying32 rfl) ?_ ?_))))))))
 ·(simp only [List.length_nil];omega)
 intro a6 c6
 refine MV rfl (CB [0] [_] rfl Tryz.call124 (text_spec _ _ _ _ ?_ ?_) ?_)
 ·assumption
 ·(simpa using hb)
 intro y8 hy8
 refine AS rfl (NI [4] [_] rfl (WD 1 [_] rfl (R1 Tryz.results88 y8 rfl (fun w hA => ⟨?_,?_,?_⟩))))
 ·rfl
 ·trivial
 ·exact hA.keep (m:=[yy]) (Y:=[_]) rfl
theorem PutBool_spec (b : List UInt8) (t : Bool) (a : Option Addr) (c : Nat) (hb : b.length≤1099511627776) : Spec Tryz.prog 52 #[.slice a (b.length) c,.bool (t)] [.dat kByte.sl (b) [.slice a (b.length) c]] (β:=Option Addr × Nat) (fun y => .slice y.1 ((b ++ [if t then 84 else 70] : List UInt8).length) y.2) (fun y => True) (fun y => [.own 5 kByte y.1 y.2 (b ++ [if t then 84 else 70])]):=by
 refine Spec.enter (vs:=[_,_]) Tryz.func52 rfl Tryz.ntmps52 rfl (Nat.le_of_ble_eq_true rfl) (fun w0 ok0 => ?_)
 generalize hM0 : blks _ = M0
 have hMn:=@noM _ _ hM0 (by simp [Atom.dat,Atom.elem])
 refine SQ (RG rfl (AS rfl (NI [0,1] [_,_] rfl (SQ (RG rfl (AS rfl (HO_nil (SQ (SQ (RG rfl (MV rfl (HO_nil ?_))))))))))))
 refine EV [6,5,0] [_,_,_] rfl (H_cond rfl ?_ ?_)
 ·intro h6
  refine RG rfl (AS rfl (NI [5,0] [_,_] rfl (SQ (H_set (v':=.int .u8 (((if t then 84 else 70 : UInt8)).toNat : Int)) 5 rfl (by simp [h6]) (RG rfl (MV rfl (HO_own0 kByte 5 none (HO_append (i:=0) (R:=[_]) rfl rfl rfl rfl rfl Tryz.underlying32 elt5 rfl rfl (SrcOk.dat (j:=0) Tryz.underlying32 rfl) ?_ ?_))))))))
  ·(simp only [List.length_nil];omega)
  intro a8 c8
  refine MV rfl (HO_buildSlice (kd:=kByte) (xo:=[_]) (vs:=[_]) (cs:=[_]) (xs:=[(if t then 84 else 70 : UInt8)]) rfl rfl rfl rfl Tryz.underlying32 elt5 rfl rfl rfl (by decide) (by decide) (by simp [Value.cells]) rfl (fun _ _ _ => ⟨_,_,rfl,⟨rfl,trivial⟩,rfl⟩) ?_)
  intro g10
  refine HO_append (i:=1) (R:=[_,_]) rfl rfl rfl rfl rfl Tryz.underlying32 elt5 rfl rfl (SrcOk.own (j:=0) Tryz.underlying32 rfl rfl) ?_ ?_
  ·(simp only [List.length_append,List.length_cons,List.length_nil];omega)
  intro a11 c11
  refine AS rfl (NI [4] [_] rfl (WD 1 [_] rfl (R1 Tryz.results52 (a11,c11) rfl (fun w hA => ⟨?_,?_,?_⟩))))
  ·rfl
  ·trivial
  ·exact hA.keep (m:=[yy]) (Y:=[_]) rfl
 intro h6
 refine SK (SQ (H_set (v':=.int .u8 (((if t then 84 else 70 : UInt8)).toNat : Int)) 5 rfl (by simp [h6]) (RG rfl (MV rfl (HO_own0 kByte 5 none (HO_append (i:=0) (R:=[_]) rfl rfl rfl rfl rfl Tryz.underlying32 elt5 rfl rfl (SrcOk.dat (j:=0) Tryz.underlying32 rfl) ?_ ?_))))))
 ·(simp only [List.length_nil];omega)
 intro a8 c8
 refine MV rfl (HO_buildSlice (kd:=kByte) (xo:=[_]) (vs:=[_]) (cs:=[_]) (xs:=[(if t then 84 else 70 : UInt8)]) rfl rfl rfl rfl Tryz.underlying32 elt5 rfl rfl rfl (by decide) (by decide) (by simp [Value.cells]) rfl (fun _ _ _ => ⟨_,_,rfl,⟨rfl,trivial⟩,rfl⟩) ?_)
 intro g10
 refine HO_append (i:=1) (R:=[_,_]) rfl rfl rfl rfl rfl Tryz.underlying32 elt5 rfl rfl (SrcOk.own (j:=0) Tryz.underlying32 rfl rfl) ?_ ?_
 ·(simp only [List.length_append,List.length_cons,List.length_nil];omega)
 intro a11 c11
 refine AS rfl (NI [4] [_] rfl (WD 1 [_] rfl (R1 Tryz.results52 (a11,c11) rfl (fun w hA => ⟨?_,?_,?_⟩))))
 ·rfl
 ·trivial
 ·exact hA.keep (m:=[yy]) (Y:=[_]) rfl
theorem Get_spec (b : List UInt8) (a : Option Addr) (c : Nat)  : Spec Tryz.prog 129 #[.slice a (b.length) c] [.dat kByte.sl (b) [.slice a (b.length) c]] (β:=Unit) (fun y => .tuple #[.int .u64 (((Cod.dec b).1 : Int)),.int .i64 (((Cod.dec b).2 : Int))]) (fun y => True) (fun y => []):=by
 refine Spec.enter (vs:=[_]) Tryz.func129 rfl Tryz.ntmps129 rfl (Nat.le_of_ble_eq_true rfl) (fun w0 ok0 => ?_)
 generalize hM0 : blks _ = M0
 have hMn:=@noM _ _ hM0 (by simp [Atom.dat,Atom.elem])
 refine SQ (RG rfl (AS rfl (AS rfl (NI [0] [_] rfl (SQ (SQ (RG rfl (MV rfl (BI rfl (bi_len_sl Tryz.underlying32) (BN rfl bin_eql (NI [10,0] [_,_] rfl ?_)))))))))))
 refine H_cond rfl ?_ ?_
 ·intro h10
  replace h10:=dT h10
  obtain rfl : b = []:=List.eq_nil_of_length_eq_zero (by omega)
  refine SQ (RG rfl (AS rfl (AS rfl (NI [3,2] [_,_] rfl (WD 0 [] rfl (R2 Tryz.results129 () rfl (fun w hA => ⟨?_,?_,?_⟩)))))))
  ·rfl
  ·trivial
  ·exact hA.keep (m:=[]) (Y:=[]) rfl
 intro h10
 replace h10:=dF h10
 refine SK (SQ (RG rfl (MV rfl (HO_indexAddr open_byte (i:=0) (j:=0) rfl rfl rfl rfl rfl Tryz.underlying32 Tryz.sizeOf5 rfl ?_ ?_))))
 ·omega
 intro b12 o12 z12 y12 hz12 hI12
 clear y12 hI12
 refine LE 0 0 rfl Tryz.isAgg5 (HO_compl rfl rfl rfl rfl ?_ ?_)
 ·(have:=z12.toNat_lt;simp only [IntKind.bits];omega)
 refine CB [] [_,_] rfl Tryz.call147 (lz8_spec _ ?_) ?_
 ·(have:=z12.toNat_lt;simp only [IntKind.bits];omega)
 intro y15 hy15
 clear y15 hy15
 refine AS rfl (HO_set (v':=.int .i64 ((Cod.lead z12.toNat : Int))) 4 rfl (by rfl) (NI [4,0] [_,_] rfl (WD 2 [_] rfl (SQ (SQ ?_)))))
 have hlead:=Cod.lead_le z12.toNat
 have hdec:=Cod.dec_at hz12
 refine RG rfl (MV rfl (MV rfl (BI rfl (bi_len_sl Tryz.underlying32) (BN rfl bin_geq (NI [19,4,0] [_,_,_] rfl (H_cond rfl ?_ ?_))))))
 ·intro h19
  replace h19:=dT h19
  rw [if_pos (by omega)] at hdec
  refine SQ (RG rfl (AS rfl (AS rfl (NI [3,2] [_,_] rfl (WD 0 [] rfl (R2 Tryz.results129 () rfl (fun w hA => ⟨?_,?_,?_⟩)))))))
  ·(rw [hdec];rfl)
  ·trivial
  ·exact hA.keep (m:=[]) (Y:=[]) rfl
 intro h19
 replace h19:=dF h19
 rw [if_neg (by omega)] at hdec
 refine SK (SQ (H_drawB (m:=[yy]) (Xs:=[_]) (fuel:=8) (l:=#[false,false,false,false,false,false,false,false]) mixed rfl rfl rfl (TA 0 rfl (by kernel_rfl) (V_move rfl) (TA 3 rfl (by kernel_rfl) (V_move rfl) (HA_loud2 (i:=1) (j:=4) (by kernel_rfl) rfl rfl ?_ ?_)))))
 ·refine HO_indexAddr open_byte (i:=0) (j:=0) rfl rfl rfl rfl rfl Tryz.underlying32 Tryz.sizeOf5 rfl ?_ ?_
  ·omega
  intro b21 o21 z21 y21 hz21 hI21
  clear y21 hI21
  refine BK 2 [_] rfl (HA_loud2 (i:=2) (j:=4) (by kernel_rfl) rfl rfl ?_ ?_)
  ·refine HO_load1 (i:=0) (j:=0) rfl rfl rfl Tryz.isAgg5 rfl (.elem _ _ _) rfl rfl ?_
   refine BK 2 [_] rfl (LO 4 (by kernel_rfl) rfl (CB [] [_,_] rfl Tryz.call146 (ones_spec _ ?_) ?_))
   ·(exact Cod.lead_le _)
   intro y24 hy24
   clear y24 hy24
   refine BK 2 [_] rfl (TK 5 2 [_] rfl (by kernel_rfl) (V_bin rfl rfl (bin_andNot rfl ?_ ?_)) ?_)
   ·(exact z21.toNat_lt)
   ·(exact Cod.onesB_lt _)
   refine TK 6 2 [_] rfl (by kernel_rfl) (V_conv rfl (cv_int Tryz.underlying5 Tryz.underlying97 (wrap_u_lt rfl ?_))) ?_
   ·(have:=z21.toNat_lt;have:=@Nat.and_le_left z21.toNat (2 ^ IntKind.u8.bits - 1 - Cod.onesB (Cod.lead z12.toNat));simp only [IntKind.bits] at *;omega)
   refine TK 7 2 [_] rfl (by kernel_rfl) (V_assign rfl) (HA_set (v':=.int .u64 (((z12.toNat &&& (255 - Cod.onesB (Cod.lead z12.toNat))) : Int))) 5 rfl (by (obtain rfl : z12 = z21:=Option.some.inj (hz12.symm.trans hz21));rfl) (HA_done (by kernel_rfl) (EV [5,4,0] [_,_,_] rfl (WD 2 [_] rfl (SQ (SQ ?_))))))
   obtain rfl : z12 = z21:=Option.some.inj (hz12.symm.trans hz21)
   refine RG rfl (MV rfl (MV rfl (BN rfl (bin_add ?_ ?_) ?_)))
   ·omega
   ·omega
   refine HO_slice_lh (i:=0) (l:=1) (h':=Cod.lead z12.toNat + 1) rfl rfl rfl rfl rfl rfl ?_ Tryz.underlying32 Tryz.sizeOf5 rfl ?_ ?_ ?_
   ·omega
   ·omega
   ·omega
   intro a30 c30
   refine BI rfl (bi_len_sl Tryz.underlying32) (MV rfl (NI [32,31,30,5,4] [_,_,_,_,_] rfl (WD 1 [_] rfl (BO (H_loop (σ:=Nat) (fun s => s≤(List.drop 1 (List.take (Cod.lead z12.toNat + 1) b)).length) (fun s => [(30,.slice a30 ((List.drop 1 (List.take (Cod.lead z12.toNat + 1) b)).length) c30),(31,.int .i64 (((List.drop 1 (List.take (Cod.lead z12.toNat + 1) b)).length : Int))),(32,.int .i64 ((s : Int))),(5,.int .u64 ((Cod.foldB (z12.toNat &&& (255 - Cod.onesB (Cod.lead z12.toNat))) (List.take s (List.drop 1 (List.take (Cod.lead z12.toNat + 1) b))) : Int))),(4,.int .i64 ((Cod.lead z12.toNat : Int)))]) (fun s => Asn w0 ok0 M0 [.dat kByte.sl ((List.drop 1 (List.take (Cod.lead z12.toNat + 1) b))) [.slice a30 ((List.drop 1 (List.take (Cod.lead z12.toNat + 1) b)).length) c30]]) (fun s => (List.drop 1 (List.take (Cod.lead z12.toNat + 1) b)).length - s) 0 ?_ ?_ ?_ ?_)))))
   ·exact Nat.zero_le _
   ·exact ⟨rfl,rfl,rfl,rfl,rfl,trivial⟩
   ·intro w hA
    exact hA.only (is:=[0]) (Z:=[]) rfl
   ·intro i hI
    (try dsimp only at hI ⊢)
    refine SQ (RG rfl (BN rfl bin_lss (HO_nil (SQ (H_cond rfl ?_ ?_)))))
    ·intro h33
     replace h33:=dT h33
     refine SK (SQ (BO (SQ (RG rfl (HO_indexAddr open_byte (i:=0) rfl rfl rfl rfl rfl Tryz.underlying32 Tryz.sizeOf5 rfl ?_ ?_)))))
     ·omega
     intro b34 o34 z34 y34 hz34 hI34
     clear y34 hI34
     refine LE 0 0 rfl Tryz.isAgg5 (AS rfl (NI [7,30,31,32,5,4] [_,_,_,_,_,_] rfl (WD 2 [_] rfl (RG rfl (MV rfl (BN rfl (bin_shl (s:=8) rfl) (MV rfl (CV rfl (cv_int Tryz.underlying5 Tryz.underlying97 (wrap_u_lt rfl ?_)) ?_))))))))
     ·(have:=z34.toNat_lt;simp only [IntKind.bits];omega)
     refine BN rfl (bin_or rfl ?_ ?_) ?_
     ·(exact Nat.mod_lt _ (by decide))
     ·(have:=z34.toNat_lt;simp only [IntKind.bits];omega)
     refine AS rfl (NI [5,30,31,32,4] [_,_,_,_,_] rfl (BD (RG rfl (BN rfl (bin_add ?_ ?_) ?_))))
     ·omega
     ·(have:=Cod.lead_le z12.toNat;simp only [List.length_drop,List.length_take] at *;omega)
     refine MV rfl (NI [32,5,30,31,4] [_,_,_,_,_] rfl (H_inv (fun a w hf hA => ⟨i + 1,?_,?_,hf.sub ?_,?_⟩)))
     ·omega
     ·(try dsimp only);omega
     ·exact ⟨rfl,rfl,rfl,congrArg (fun m : Nat => some (Value.int .u64 (m : Int))) (Cod.foldB_take hz34),rfl,trivial⟩
     ·exact hA.only (is:=[0]) (Z:=[]) rfl
    intro h33
    replace h33:=dF h33
    refine H_exit rfl (SQ (SQ ?_))
    have hi : i = (List.drop 1 (List.take (Cod.lead z12.toNat + 1) b)).length:=by omega
    subst hi
    rw [List.take_length]
    refine RG rfl (MV rfl (CB [] [_] rfl Tryz.call145 (behind_spec _ ?_) ?_))
    ·(exact Cod.foldB_lt (Nat.lt_of_le_of_lt Nat.and_le_left (Nat.lt_of_lt_of_le z12.toNat_lt (by decide))) _)
    intro y43 hy43
    clear y43 hy43
    refine MV rfl (BN rfl bin_neq (NI [45,5,4] [_,_,_] rfl (WD 0 [] rfl (H_cond rfl ?_ ?_))))
    ·intro h45
     replace h45:=dT h45
     rw [if_neg (by omega)] at hdec
     refine SQ (RG rfl (AS rfl (AS rfl (NI [3,2] [_,_] rfl (R2 Tryz.results129 () rfl (fun w hA => ⟨?_,?_,?_⟩))))))
     ·(rw [hdec];rfl)
     ·trivial
     ·exact hA.keep (m:=[]) (Y:=[]) rfl
    intro h45
    replace h45:=dF h45
    rw [if_pos (by omega)] at hdec
    refine SK (SQ (RG rfl (MV rfl (MV rfl (BN rfl (bin_add ?_ ?_) ?_)))))
    ·omega
    ·omega
    refine AS rfl (AS rfl (NI [3,2] [_,_] rfl (R2 Tryz.results129 () rfl (fun w hA => ⟨?_,?_,?_⟩))))
    ·(rw [hdec];rfl)
    ·trivial
    ·exact hA.keep (m:=[]) (Y:=[]) rfl
  ·refine HO_call (first:=[]) (capt:=[]) (is:=[]) (R:=[_,_]) rfl rfl rfl rfl rfl Tryz.call146 rfl (ones_spec _ ?_) ?_
   ·(exact Cod.lead_le _)
   intro y24 hy24
   clear y24 hy24
   refine BK 2 [_] rfl (LO 2 (by kernel_rfl) rfl (LE 0 0 rfl Tryz.isAgg5 (BK 2 [_] rfl (TK 5 2 [_] rfl (by kernel_rfl) (V_bin rfl rfl (bin_andNot rfl ?_ ?_)) ?_))))
   ·(exact z21.toNat_lt)
   ·(exact Cod.onesB_lt _)
   refine TK 6 2 [_] rfl (by kernel_rfl) (V_conv rfl (cv_int Tryz.underlying5 Tryz.underlying97 (wrap_u_lt rfl ?_))) ?_
   ·(have:=z21.toNat_lt;have:=@Nat.and_le_left z21.toNat (2 ^ IntKind.u8.bits - 1 - Cod.onesB (Cod.lead z12.toNat));simp only [IntKind.bits] at *;omega)
   refine TK 7 2 [_] rfl (by kernel_rfl) (V_assign rfl) (HA_set (v':=.int .u64 (((z12.toNat &&& (255 - Cod.onesB (Cod.lead z12.toNat))) : Int))) 5 rfl (by (obtain rfl : z12 = z21:=Option.some.inj (hz12.symm.trans hz21));rfl) (HA_done (by kernel_rfl) (EV [5,4,0] [_,_,_] rfl (WD 2 [_] rfl (SQ (SQ ?_))))))
   obtain rfl : z12 = z21:=Option.some.inj (hz12.symm.trans hz21)
   refine RG rfl (MV rfl (MV rfl (BN rfl (bin_add ?_ ?_) ?_)))
   ·omega
   ·omega
   refine HO_slice_lh (i:=0) (l:=1) (h':=Cod.lead z12.toNat + 1) rfl rfl rfl rfl rfl rfl ?_ Tryz.underlying32 Tryz.sizeOf5 rfl ?_ ?_ ?_
   ·omega
   ·omega
   ·omega
   intro a30 c30
   refine BI rfl (bi_len_sl Tryz.underlying32) (MV rfl (NI [32,31,30,5,4] [_,_,_,_,_] rfl (WD 1 [_] rfl (BO (H_loop (σ:=Nat) (fun s => s≤(List.drop 1 (List.take (Cod.lead z12.toNat + 1) b)).length) (fun s => [(30,.slice a30 ((List.drop 1 (List.take (Cod.lead z12.toNat + 1) b)).length) c30),(31,.int .i64 (((List.drop 1 (List.take (Cod.lead z12.toNat + 1) b)).length : Int))),(32,.int .i64 ((s : Int))),(5,.int .u64 ((Cod.foldB (z12.toNat &&& (255 - Cod.onesB (Cod.lead z12.toNat))) (List.take s (List.drop 1 (List.take (Cod.lead z12.toNat + 1) b))) : Int))),(4,.int .i64 ((Cod.lead z12.toNat : Int)))]) (fun s => Asn w0 ok0 M0 [.dat kByte.sl ((List.drop 1 (List.take (Cod.lead z12.toNat + 1) b))) [.slice a30 ((List.drop 1 (List.take (Cod.lead z12.toNat + 1) b)).length) c30]]) (fun s => (List.drop 1 (List.take (Cod.lead z12.toNat + 1) b)).length - s) 0 ?_ ?_ ?_ ?_)))))
   ·exact Nat.zero_le _
   ·exact ⟨rfl,rfl,rfl,rfl,rfl,trivial⟩
   ·intro w hA
    exact hA.only (is:=[0]) (Z:=[]) rfl
   ·intro i hI
    (try dsimp only at hI ⊢)
    refine SQ (RG rfl (BN rfl bin_lss (HO_nil (SQ (H_cond rfl ?_ ?_)))))
    ·intro h33
     replace h33:=dT h33
     refine SK (SQ (BO (SQ (RG rfl (HO_indexAddr open_byte (i:=0) rfl rfl rfl rfl rfl Tryz.underlying32 Tryz.sizeOf5 rfl ?_ ?_)))))
     ·omega
     intro b34 o34 z34 y34 hz34 hI34
     clear y34 hI34
     refine LE 0 0 rfl Tryz.isAgg5 (AS rfl (NI [7,30,31,32,5,4] [_,_,_,_,_,_] rfl (WD 2 [_] rfl (RG rfl (MV rfl (BN rfl (bin_shl (s:=8) rfl) (MV rfl (CV rfl (cv_int Tryz.underlying5 Tryz.underlying97 (wrap_u_lt rfl ?_)) ?_))))))))
     ·(have:=z34.toNat_lt;simp only [IntKind.bits];omega)
     refine BN rfl (bin_or rfl ?_ ?_) ?_
     ·(exact Nat.mod_lt _ (by decide))
     ·(have:=z34.toNat_lt;simp only [IntKind.bits];omega)
     refine AS rfl (NI [5,30,31,32,4] [_,_,_,_,_] rfl (BD (RG rfl (BN rfl (bin_add ?_ ?_) ?_))))
     ·omega
     ·(have:=Cod.lead_le z12.toNat;simp only [List.length_drop,List.length_take] at *;omega)
     refine MV rfl (NI [32,5,30,31,4] [_,_,_,_,_] rfl (H_inv (fun a w hf hA => ⟨i + 1,?_,?_,hf.sub ?_,?_⟩)))
     ·omega
     ·(try dsimp only);omega
     ·exact ⟨rfl,rfl,rfl,congrArg (fun m : Nat => some (Value.int .u64 (m : Int))) (Cod.foldB_take hz34),rfl,trivial⟩
     ·exact hA.only (is:=[0]) (Z:=[]) rfl
    intro h33
    replace h33:=dF h33
    refine H_exit rfl (SQ (SQ ?_))
    have hi : i = (List.drop 1 (List.take (Cod.lead z12.toNat + 1) b)).length:=by omega
    subst hi
    rw [List.take_length]
    refine RG rfl (MV rfl (CB [] [_] rfl Tryz.call145 (behind_spec _ ?_) ?_))
    ·(exact Cod.foldB_lt (Nat.lt_of_le_of_lt Nat.and_le_left (Nat.lt_of_lt_of_le z12.toNat_lt (by decide))) _)
    intro y43 hy43
    clear y43 hy43
    refine MV rfl (BN rfl bin_neq (NI [45,5,4] [_,_,_] rfl (WD 0 [] rfl (H_cond rfl ?_ ?_))))
    ·intro h45
     replace h45:=dT h45
     rw [if_neg (by omega)] at hdec
     refine SQ (RG rfl (AS rfl (AS rfl (NI [3,2] [_,_] rfl (R2 Tryz.results129 () rfl (fun w hA => ⟨?_,?_,?_⟩))))))
     ·(rw [hdec];rfl)
     ·trivial
     ·exact hA.keep (m:=[]) (Y:=[]) rfl
    intro h45
    replace h45:=dF h45
    rw [if_pos (by omega)] at hdec
    refine SK (SQ (RG rfl (MV rfl (MV rfl (BN rfl (bin_add ?_ ?_) ?_)))))
    ·omega
    ·omega
    refine AS rfl (AS rfl (NI [3,2] [_,_] rfl (R2 Tryz.results129 () rfl (fun w hA => ⟨?_,?_,?_⟩))))
    ·(rw [hdec];rfl)
    ·trivial
    ·exact hA.keep (m:=[]) (Y:=[]) rfl
 ·refine HO_call (first:=[]) (capt:=[]) (is:=[]) (R:=[_]) rfl rfl rfl rfl rfl Tryz.call146 rfl (ones_spec _ ?_) ?_
  ·(exact Cod.lead_le _)
  intro y24 hy24
  clear y24 hy24
  refine BL rfl (LO 1 (by kernel_rfl) rfl (HO_indexAddr open_byte (i:=0) (j:=0) rfl rfl rfl rfl rfl Tryz.underlying32 Tryz.sizeOf5 rfl ?_ ?_))
  ·omega
  intro b21 o21 z21 y21 hz21 hI21
  clear y21 hI21
  refine BK 2 [_] rfl (LO 2 (by kernel_rfl) rfl (LE 0 0 rfl Tryz.isAgg5 (BK 2 [_] rfl (TK 5 2 [_] rfl (by kernel_rfl) (V_bin rfl rfl (bin_andNot rfl ?_ ?_)) ?_))))
  ·(exact z21.toNat_lt)
  ·(exact Cod.onesB_lt _)
  refine TK 6 2 [_] rfl (by kernel_rfl) (V_conv rfl (cv_int Tryz.underlying5 Tryz.underlying97 (wrap_u_lt rfl ?_))) ?_
  ·(have:=z21.toNat_lt;have:=@Nat.and_le_left z21.toNat (2 ^ IntKind.u8.bits - 1 - Cod.onesB (Cod.lead z12.toNat));simp only [IntKind.bits] at *;omega)
  refine TK 7 2 [_] rfl (by kernel_rfl) (V_assign rfl) (HA_set (v':=.int .u64 (((z12.toNat &&& (255 - Cod.onesB (Cod.lead z12.toNat))) : Int))) 5 rfl (by (obtain rfl : z12 = z21:=Option.some.inj (hz12.symm.trans hz21));rfl) (HA_done (by kernel_rfl) (EV [5,4,0] [_,_,_] rfl (WD 2 [_] rfl (SQ (SQ ?_))))))
  obtain rfl : z12 = z21:=Option.some.inj (hz12.symm.trans hz21)
  refine RG rfl (MV rfl (MV rfl (BN rfl (bin_add ?_ ?_) ?_)))
  ·omega
  ·omega
  refine HO_slice_lh (i:=0) (l:=1) (h':=Cod.lead z12.toNat + 1) rfl rfl rfl rfl rfl rfl ?_ Tryz.underlying32 Tryz.sizeOf5 rfl ?_ ?_ ?_
  ·omega
  ·omega
  ·omega
  intro a30 c30
  refine BI rfl (bi_len_sl Tryz.underlying32) (MV rfl (NI [32,31,30,5,4] [_,_,_,_,_] rfl (WD 1 [_] rfl (BO (H_loop (σ:=Nat) (fun s => s≤(List.drop 1 (List.take (Cod.lead z12.toNat + 1) b)).length) (fun s => [(30,.slice a30 ((List.drop 1 (List.take (Cod.lead z12.toNat + 1) b)).length) c30),(31,.int .i64 (((List.drop 1 (List.take (Cod.lead z12.toNat + 1) b)).length : Int))),(32,.int .i64 ((s : Int))),(5,.int .u64 ((Cod.foldB (z12.toNat &&& (255 - Cod.onesB (Cod.lead z12.toNat))) (List.take s (List.drop 1 (List.take (Cod.lead z12.toNat + 1) b))) : Int))),(4,.int .i64 ((Cod.lead z12.toNat : Int)))]) (fun s => Asn w0 ok0 M0 [.dat kByte.sl ((List.drop 1 (List.take (Cod.lead z12.toNat + 1) b))) [.slice a30 ((List.drop 1 (List.take (Cod.lead z12.toNat + 1) b)).length) c30]]) (fun s => (List.drop 1 (List.take (Cod.lead z12.toNat + 1) b)).length - s) 0 ?_ ?_ ?_ ?_)))))
  ·exact Nat.zero_le _
  ·exact ⟨rfl,rfl,rfl,rfl,rfl,trivial⟩
  ·intro w hA
   exact hA.only (is:=[0]) (Z:=[]) rfl
  ·intro i hI
   (try dsimp only at hI ⊢)
   refine SQ (RG rfl (BN rfl bin_lss (HO_nil (SQ (H_cond rfl ?_ ?_)))))
   ·intro h33
    replace h33:=dT h33
    refine SK (SQ (BO (SQ (RG rfl (HO_indexAddr open_byte (i:=0) rfl rfl rfl rfl rfl Tryz.underlying32 Tryz.sizeOf5 rfl ?_ ?_)))))
    ·omega
    intro b34 o34 z34 y34 hz34 hI34
    clear y34 hI34
    refine LE 0 0 rfl Tryz.isAgg5 (AS rfl (NI [7,30,31,32,5,4] [_,_,_,_,_,_] rfl (WD 2 [_] rfl (RG rfl (MV rfl (BN rfl (bin_shl (s:=8) rfl) (MV rfl (CV rfl (cv_int Tryz.underlying5 Tryz.underlying97 (wrap_u_lt rfl ?_)) ?_))))))))
    ·(have:=z34.toNat_lt;simp only [IntKind.bits];omega)
    refine BN rfl (bin_or rfl ?_ ?_) ?_
    ·(exact Nat.mod_lt _ (by decide))
    ·(have:=z34.toNat_lt;simp only [IntKind.bits];omega)
    refine AS rfl (NI [5,30,31,32,4] [_,_,_,_,_] rfl (BD (RG rfl (BN rfl (bin_add ?_ ?_) ?_))))
    ·omega
    ·(have:=Cod.lead_le z12.toNat;simp only [List.length_drop,List.length_take] at *;omega)
    refine MV rfl (NI [32,5,30,31,4] [_,_,_,_,_] rfl (H_inv (fun a w hf hA => ⟨i + 1,?_,?_,hf.sub ?_,?_⟩)))
    ·omega
    ·(try dsimp only);omega
    ·exact ⟨rfl,rfl,rfl,congrArg (fun m : Nat => some (Value.int .u64 (m : Int))) (Cod.foldB_take hz34),rfl,trivial⟩
    ·exact hA.only (is:=[0]) (Z:=[]) rfl
   intro h33
   replace h33:=dF h33
   refine H_exit rfl (SQ (SQ ?_))
   have hi : i = (List.drop 1 (List.take (Cod.lead z12.toNat + 1) b)).length:=by omega
   subst hi
   rw [List.take_length]
   refine RG rfl (MV rfl (CB [] [_] rfl Tryz.call145 (behind_spec _ ?_) ?_))
   ·(exact Cod.foldB_lt (Nat.lt_of_le_of_lt Nat.and_le_left (Nat.lt_of_lt_of_le z12.toNat_lt (by decide))) _)
   intro y43 hy43
   clear y43 hy43
   refine MV rfl (BN rfl bin_neq (NI [45,5,4] [_,_,_] rfl (WD 0 [] rfl (H_cond rfl ?_ ?_))))
   ·intro h45
    replace h45:=dT h45
    rw [if_neg (by omega)] at hdec
    refine SQ (RG rfl (AS rfl (AS rfl (NI [3,2] [_,_] rfl (R2 Tryz.results129 () rfl (fun w hA => ⟨?_,?_,?_⟩))))))
    ·(rw [hdec];rfl)
    ·trivial
    ·exact hA.keep (m:=[]) (Y:=[]) rfl
   intro h45
   replace h45:=dF h45
   rw [if_pos (by omega)] at hdec
   refine SK (SQ (RG rfl (MV rfl (MV rfl (BN rfl (bin_add ?_ ?_) ?_)))))
   ·omega
   ·omega
   refine AS rfl (AS rfl (NI [3,2] [_,_] rfl (R2 Tryz.results129 () rfl (fun w hA => ⟨?_,?_,?_⟩))))
   ·(rw [hdec];rfl)
   ·trivial
   ·exact hA.keep (m:=[]) (Y:=[]) rfl
end Go.Wk
