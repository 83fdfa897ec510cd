/- Contracts of the program's functions, each proved by walking its code. -/
import Derived.Test.YtdaphlemhmgncaaGreatKgcodec1
set_option maxRecDepth 100000
set_option linter.unusedVariables false
set_option linter.unusedSimpArgs false
namespace Go.Wk.Fcodec2
open Go Go.RowKit Go.Proofs Go.Wk
theorem elt5 : Elt Tryz.prog 5 (.int .u8 (0)) 1 1:=Elt.of (by kernel_rfl) (by rfl) (by decide) (by decide)
end Go.Wk.Fcodec2
namespace Go.Wk
open Go Go.RowKit Go.Proofs Fcodec2 
theorem put_spec (b : List UInt8) (u : Nat) (a : Option Addr) (c : Nat) (hu : u < 18446744073709551616) (hb : b.length≤1099511627776) : Spec Tryz.prog 122 #[.slice a (b.length) c,.int .u64 (u)] [.own 5 kByte a c (b)] (β:=Option Addr × Nat) (fun y => .slice y.1 ((b ++ Cod.enc u).length) y.2) (fun y => True) (fun y => [.own 5 kByte y.1 y.2 (b ++ Cod.enc u)]):=by
 have hk8:=Cod.beh_le u
 refine Spec.enter (vs:=[_,_]) Tryz.func122 rfl Tryz.ntmps122 rfl (Nat.le_of_ble_eq_true rfl) (fun w0 ok0 => ?_)
 generalize hM0 : blks _ = M0
 refine H_seq ?_
 refine H_region (l:=[_]) rfl ?_
 refine HO_assign rfl rfl rfl ?_
 refine HO_nil ?_
 refine H_env (ρ':=[(0,_),(1,_)]) ⟨rfl,rfl,trivial⟩ ?_
 refine H_seq ?_
 refine H_region (l:=[_,_,_]) rfl ?_
 refine HO_move rfl rfl rfl ?_
 refine HO_call (first:=[]) (capt:=[]) (is:=[]) (R:=[_]) rfl rfl rfl rfl rfl Tryz.call145 rfl (behind_spec _ ?_) ?_
 ·(first | omega | assumption | decide)
 intro y8 hy8
 clear y8 hy8
 refine HO_assign rfl rfl rfl ?_
 refine HO_nil ?_
 refine H_env (ρ':=[(5,_),(0,_),(1,_)]) ⟨rfl,rfl,rfl,trivial⟩ ?_
 refine H_seq ?_
 refine H_region (l:=[_,_,_]) rfl ?_
 refine HO_move rfl rfl rfl ?_
 refine HO_call (first:=[]) (capt:=[]) (is:=[]) (R:=[_]) rfl rfl rfl rfl rfl Tryz.call146 rfl (ones_spec _ ?_) ?_
 ·(first | omega | assumption | decide)
 intro y10 hy10
 clear y10 hy10
 refine HO_assign rfl rfl rfl ?_
 refine HO_nil ?_
 refine H_env (ρ':=[(6,_),(5,_),(0,_),(1,_)]) ⟨rfl,rfl,rfl,rfl,trivial⟩ ?_
 refine H_seq ?_
 refine H_seq ?_
 refine H_region (l:=[_,_]) rfl ?_
 refine HO_move rfl rfl rfl ?_
 refine HO_bin rfl rfl rfl rfl bin_lss ?_
 refine HO_nil ?_
 refine H_env (ρ':=[(12,_),(6,_),(5,_),(0,_),(1,_)]) ⟨rfl,rfl,rfl,rfl,rfl,trivial⟩ ?_
 refine H_cond rfl ?_ ?_
 ·intro h12
  replace h12:=dT h12
  refine H_region (l:=[_,_,_,_,_,_,_,_]) rfl ?_
  iterate 3 refine HO_move rfl rfl rfl ?_
  refine HO_bin rfl rfl rfl rfl (bin_mul ?_ ?_) ?_
  ·omega
  ·omega
  refine HO_bin rfl rfl rfl rfl (bin_shr' ?_ ?_) ?_
  ·(simp only [IntKind.bits];omega)
  ·omega
  refine HO_conv rfl rfl rfl (cv_int Tryz.underlying97 Tryz.underlying5 (wrap_u rfl _)) ?_
  refine HO_bin rfl rfl rfl rfl (bin_or rfl ?_ ?_) ?_
  ·(simp only [IntKind.bits];have:=Cod.onesB_lt (Cod.beh u);omega)
  ·(exact Nat.mod_lt _ (by decide))
  refine HO_assign rfl rfl rfl ?_
  refine HO_nil ?_
  refine H_env (ρ':=[(6,_),(5,_),(0,_),(1,_)]) ⟨rfl,rfl,rfl,rfl,trivial⟩ ?_
  refine H_seq ?_
  refine H_set (v':=.int .u8 ((UInt8.ofNat (Cod.headB u)).toNat : Int)) 6 rfl (by (first | exact head_set1 (by omega) (by omega) | exact head_set2 (by omega))) ?_
  refine H_region (l:=[_,_,_,_,_]) rfl ?_
  iterate 2 refine HO_move rfl rfl rfl ?_
  refine HO_buildSlice (kd:=kByte) (xo:=[_]) (vs:=[_]) (cs:=[_]) (xs:=[_]) rfl rfl rfl rfl Tryz.underlying32 elt5 rfl rfl rfl (by decide) (by decide) (by simp [Value.cells]) rfl (fun _ _ _ => ⟨_,_,rfl,⟨rfl,trivial⟩,rfl⟩) ?_
  intro g22
  refine HO_append (i:=1) (R:=[_]) rfl rfl rfl rfl rfl Tryz.underlying32 elt5 rfl rfl (SrcOk.own (j:=0) Tryz.underlying32 rfl rfl) ?_ ?_
  ·(simp only [List.length_cons,List.length_nil];omega)
  intro a23 c23
  refine HO_assign rfl rfl rfl ?_
  refine HO_nil ?_
  refine H_env (ρ':=[(0,_),(5,_),(1,_)]) ⟨rfl,rfl,rfl,trivial⟩ ?_
  refine H_world (kp [yy,nn] [_] rfl) ?_
  refine H_seq ?_
  refine H_seq ?_
  refine H_region (l:=[_,_,_]) rfl ?_
  refine HO_move rfl rfl rfl ?_
  refine HO_bin rfl rfl rfl rfl (bin_sub ?_ ?_) ?_
  ·(first | omega | assumption | decide)
  ·(first | omega | assumption | decide)
  refine HO_assign rfl rfl rfl ?_
  refine HO_nil ?_
  refine H_env (ρ':=[(5,_),(0,_),(1,_)]) ⟨rfl,rfl,rfl,trivial⟩ ?_
  refine H_block ?_
  refine H_loop (σ:=Nat × List UInt8 × Option Addr × Nat) (fun s => s.2.1 ++ Cod.tailB u s.1 = b ++ Cod.enc u∧s.1≤8) (fun s => [(0,.slice s.2.2.1 (s.2.1.length) s.2.2.2),(1,.int .u64 (u)),(5,.int .i64 ((s.1 : Int) - 1))]) (fun s => Asn w0 ok0 M0 [.own 5 kByte s.2.2.1 s.2.2.2 (s.2.1)]) (fun s => s.1) ⟨Cod.beh u,b ++ [UInt8.ofNat (Cod.headB u)],a23,c23⟩ ?_ ?_ ?_ ?_
  ·exact ⟨by simp [Cod.enc],Cod.beh_le u⟩
  ·exact ⟨rfl,rfl,rfl,trivial⟩
  ·intro w hA
   exact hA.only (is:=[0]) (Z:=[]) rfl
  ·rintro ⟨j,l,a,c⟩ hI
   (try dsimp only at hI ⊢)
   refine H_seq ?_
   refine H_seq ?_
   refine H_region (l:=[_,_]) rfl ?_
   refine HO_move rfl rfl rfl ?_
   refine HO_bin rfl rfl rfl rfl bin_geq ?_
   refine HO_nil ?_
   refine H_env (ρ':=[(27,_),(0,_),(1,_),(5,_)]) ⟨rfl,rfl,rfl,rfl,trivial⟩ ?_
   refine H_cond rfl ?_ ?_
   ·intro h27
    replace h27:=dT h27
    refine H_skip ?_
    refine H_seq ?_
    refine H_block ?_
    refine H_region (l:=[_,_,_,_,_,_,_,_,_]) rfl ?_
    iterate 3 refine HO_move rfl rfl rfl ?_
    refine HO_bin rfl rfl rfl rfl (bin_mul ?_ ?_) ?_
    ·omega
    ·omega
    refine HO_bin rfl rfl rfl rfl (bin_shr' ?_ ?_) ?_
    ·(simp only [IntKind.bits];omega)
    ·omega
    refine HO_conv rfl rfl rfl (cv_int Tryz.underlying97 Tryz.underlying5 (wrap_u rfl _)) ?_
    refine HO_set (v':=.int .u8 (((UInt8.ofNat (u / 2 ^ (8 * (j - 1)))).toNat : Int))) 35 rfl (by (exact byte_eq (by congr 2;omega))) ?_
    refine HO_buildSlice (kd:=kByte) (xo:=[_]) (vs:=[_]) (cs:=[_]) (xs:=[_]) rfl rfl rfl rfl Tryz.underlying32 elt5 rfl rfl rfl (by decide) (by decide) (by simp [Value.cells]) rfl (fun _ _ _ => ⟨_,_,rfl,⟨rfl,trivial⟩,rfl⟩) ?_
    intro g36
    refine HO_append (i:=1) (R:=[_]) rfl rfl rfl rfl rfl Tryz.underlying32 elt5 rfl rfl (SrcOk.own (j:=0) Tryz.underlying32 rfl rfl) ?_ ?_
    ·(simp only [List.length_cons,List.length_nil];have:=congrArg List.length hI.1;simp only [List.length_append,Cod.tailB_length,Cod.enc_length] at this;omega)
    intro a37 c37
    refine HO_assign rfl rfl rfl ?_
    refine HO_nil ?_
    refine H_env (ρ':=[(0,_),(1,_),(5,_)]) ⟨rfl,rfl,rfl,trivial⟩ ?_
    refine H_world (kp [yy,nn] [_] rfl) ?_
    refine H_blk ?_
    refine H_region (l:=[_,_,_]) rfl ?_
    refine HO_move rfl rfl rfl ?_
    refine HO_bin rfl rfl rfl rfl (bin_sub ?_ ?_) ?_
    ·(first | omega | assumption | decide)
    ·(first | omega | assumption | decide)
    refine HO_assign rfl rfl rfl ?_
    refine HO_nil ?_
    refine H_env (ρ':=[(5,_),(0,_),(1,_)]) ⟨rfl,rfl,rfl,trivial⟩ ?_
    refine H_inv (fun a w hf hA => ⟨⟨j - 1,l ++ [UInt8.ofNat (u / 2 ^ (8 * (j - 1)))],a37,c37⟩,?_,?_,hf.sub ?_,?_⟩)
    ·exact ⟨by obtain ⟨j',rfl⟩ : ∃ m,j = m + 1:=⟨j - 1,by omega⟩;simpa [Cod.tailB] using hI.1,by omega⟩
    ·(try dsimp only);omega
    ·exact ⟨rfl,rfl,congrArg (fun z => some (Value.int .i64 z)) (by omega),trivial⟩
    ·exact hA.only (is:=[0]) (Z:=[]) rfl
   intro h27
   replace h27:=dF h27
   refine H_exit rfl ?_
   refine H_seq ?_
   refine H_region (l:=[_,_]) rfl ?_
   refine HO_move rfl rfl rfl ?_
   refine HO_assign rfl rfl rfl ?_
   refine HO_nil ?_
   refine H_env (ρ':=[(4,_)]) ⟨rfl,trivial⟩ ?_
   obtain rfl : j = 0:=by omega
   have hI1:=hI.1
   simp only [Cod.tailB,List.append_nil] at hI1
   subst hI1
   refine H_ret1 Tryz.results122 (.tmp rfl) (fun w hA => ⟨(a,c),congrArg Ending.returned ?_,?_,?_⟩)
   ·rfl
   ·trivial
   ·exact hA.keep (m:=[yy]) (Y:=[_]) rfl
 intro h12
 replace h12:=dF h12
 refine H_skip ?_
 refine H_seq ?_
 refine H_set (v':=.int .u8 ((UInt8.ofNat (Cod.headB u)).toNat : Int)) 6 rfl (by (first | exact head_set1 (by omega) (by omega) | exact head_set2 (by omega))) ?_
 refine H_region (l:=[_,_,_,_,_]) rfl ?_
 iterate 2 refine HO_move rfl rfl rfl ?_
 refine HO_buildSlice (kd:=kByte) (xo:=[_]) (vs:=[_]) (cs:=[_]) (xs:=[_]) rfl rfl rfl rfl Tryz.underlying32 elt5 rfl rfl rfl (by decide) (by decide) (by simp [Value.cells]) rfl (fun _ _ _ => ⟨_,_,rfl,⟨rfl,trivial⟩,rfl⟩) ?_
 intro g22
 refine HO_append (i:=1) (R:=[_]) rfl rfl rfl rfl rfl Tryz.underlying32 elt5 rfl rfl (SrcOk.own (j:=0) Tryz.underlying32 rfl rfl) ?_ ?_
 ·(simp only [List.length_cons,List.length_nil];omega)
 intro a23 c23
 refine HO_assign rfl rfl rfl ?_
 refine HO_nil ?_
 refine H_env (ρ':=[(0,_),(5,_),(1,_)]) ⟨rfl,rfl,rfl,trivial⟩ ?_
 refine H_world (kp [yy,nn] [_] rfl) ?_
 refine H_seq ?_
 refine H_seq ?_
 refine H_region (l:=[_,_,_]) rfl ?_
 refine HO_move rfl rfl rfl ?_
 refine HO_bin rfl rfl rfl rfl (bin_sub ?_ ?_) ?_
 ·(first | omega | assumption | decide)
 ·(first | omega | assumption | decide)
 refine HO_assign rfl rfl rfl ?_
 refine HO_nil ?_
 refine H_env (ρ':=[(5,_),(0,_),(1,_)]) ⟨rfl,rfl,rfl,trivial⟩ ?_
 refine H_block ?_
 refine H_loop (σ:=Nat × List UInt8 × Option Addr × Nat) (fun s => s.2.1 ++ Cod.tailB u s.1 = b ++ Cod.enc u∧s.1≤8) (fun s => [(0,.slice s.2.2.1 (s.2.1.length) s.2.2.2),(1,.int .u64 (u)),(5,.int .i64 ((s.1 : Int) - 1))]) (fun s => Asn w0 ok0 M0 [.own 5 kByte s.2.2.1 s.2.2.2 (s.2.1)]) (fun s => s.1) ⟨Cod.beh u,b ++ [UInt8.ofNat (Cod.headB u)],a23,c23⟩ ?_ ?_ ?_ ?_
 ·exact ⟨by simp [Cod.enc],Cod.beh_le u⟩
 ·exact ⟨rfl,rfl,rfl,trivial⟩
 ·intro w hA
  exact hA.only (is:=[0]) (Z:=[]) rfl
 ·rintro ⟨j,l,a,c⟩ hI
  (try dsimp only at hI ⊢)
  refine H_seq ?_
  refine H_seq ?_
  refine H_region (l:=[_,_]) rfl ?_
  refine HO_move rfl rfl rfl ?_
  refine HO_bin rfl rfl rfl rfl bin_geq ?_
  refine HO_nil ?_
  refine H_env (ρ':=[(27,_),(0,_),(1,_),(5,_)]) ⟨rfl,rfl,rfl,rfl,trivial⟩ ?_
  refine H_cond rfl ?_ ?_
  ·intro h27
   replace h27:=dT h27
   refine H_skip ?_
   refine H_seq ?_
   refine H_block ?_
   refine H_region (l:=[_,_,_,_,_,_,_,_,_]) rfl ?_
   iterate 3 refine HO_move rfl rfl rfl ?_
   refine HO_bin rfl rfl rfl rfl (bin_mul ?_ ?_) ?_
   ·omega
   ·omega
   refine HO_bin rfl rfl rfl rfl (bin_shr' ?_ ?_) ?_
   ·(simp only [IntKind.bits];omega)
   ·omega
   refine HO_conv rfl rfl rfl (cv_int Tryz.underlying97 Tryz.underlying5 (wrap_u rfl _)) ?_
   refine HO_set (v':=.int .u8 (((UInt8.ofNat (u / 2 ^ (8 * (j - 1)))).toNat : Int))) 35 rfl (by (exact byte_eq (by congr 2;omega))) ?_
   refine HO_buildSlice (kd:=kByte) (xo:=[_]) (vs:=[_]) (cs:=[_]) (xs:=[_]) rfl rfl rfl rfl Tryz.underlying32 elt5 rfl rfl rfl (by decide) (by decide) (by simp [Value.cells]) rfl (fun _ _ _ => ⟨_,_,rfl,⟨rfl,trivial⟩,rfl⟩) ?_
   intro g36
   refine HO_append (i:=1) (R:=[_]) rfl rfl rfl rfl rfl Tryz.underlying32 elt5 rfl rfl (SrcOk.own (j:=0) Tryz.underlying32 rfl rfl) ?_ ?_
   ·(simp only [List.length_cons,List.length_nil];have:=congrArg List.length hI.1;simp only [List.length_append,Cod.tailB_length,Cod.enc_length] at this;omega)
   intro a37 c37
   refine HO_assign rfl rfl rfl ?_
   refine HO_nil ?_
   refine H_env (ρ':=[(0,_),(1,_),(5,_)]) ⟨rfl,rfl,rfl,trivial⟩ ?_
   refine H_world (kp [yy,nn] [_] rfl) ?_
   refine H_blk ?_
   refine H_region (l:=[_,_,_]) rfl ?_
   refine HO_move rfl rfl rfl ?_
   refine HO_bin rfl rfl rfl rfl (bin_sub ?_ ?_) ?_
   ·(first | omega | assumption | decide)
   ·(first | omega | assumption | decide)
   refine HO_assign rfl rfl rfl ?_
   refine HO_nil ?_
   refine H_env (ρ':=[(5,_),(0,_),(1,_)]) ⟨rfl,rfl,rfl,trivial⟩ ?_
   refine H_inv (fun a w hf hA => ⟨⟨j - 1,l ++ [UInt8.ofNat (u / 2 ^ (8 * (j - 1)))],a37,c37⟩,?_,?_,hf.sub ?_,?_⟩)
   ·exact ⟨by obtain ⟨j',rfl⟩ : ∃ m,j = m + 1:=⟨j - 1,by omega⟩;simpa [Cod.tailB] using hI.1,by omega⟩
   ·(try dsimp only);omega
   ·exact ⟨rfl,rfl,congrArg (fun z => some (Value.int .i64 z)) (by omega),trivial⟩
   ·exact hA.only (is:=[0]) (Z:=[]) rfl
  intro h27
  replace h27:=dF h27
  refine H_exit rfl ?_
  refine H_seq ?_
  refine H_region (l:=[_,_]) rfl ?_
  refine HO_move rfl rfl rfl ?_
  refine HO_assign rfl rfl rfl ?_
  refine HO_nil ?_
  refine H_env (ρ':=[(4,_)]) ⟨rfl,trivial⟩ ?_
  obtain rfl : j = 0:=by omega
  have hI1:=hI.1
  simp only [Cod.tailB,List.append_nil] at hI1
  subst hI1
  refine H_ret1 Tryz.results122 (.tmp rfl) (fun w hA => ⟨(a,c),congrArg Ending.returned ?_,?_,?_⟩)
  ·rfl
  ·trivial
  ·exact hA.keep (m:=[yy]) (Y:=[_]) rfl
theorem Put_spec (b : List UInt8) (u : Nat) (a : Option Addr) (c : Nat) (hu : u < 18446744073709551616) (hb : b.length≤1099511627776) : Spec Tryz.prog 86 #[.slice a (b.length) c,.int .u64 (u)] [.dat kByte.sl (b) [.slice a (b.length) c]] (β:=Option Addr × Nat) (fun y => .slice y.1 ((b ++ Cod.enc u).length) y.2) (fun y => True) (fun y => [.own 5 kByte y.1 y.2 (b ++ Cod.enc u)]):=by
 refine Spec.enter (vs:=[_,_]) Tryz.func86 rfl Tryz.ntmps86 rfl (Nat.le_of_ble_eq_true rfl) (fun w0 ok0 => ?_)
 generalize hM0 : blks _ = M0
 have hMn:=@noM _ _ hM0 (by simp [Atom.dat,Atom.elem])
 refine H_seq ?_
 refine H_region (l:=[_]) rfl ?_
 refine HO_assign rfl rfl rfl ?_
 refine HO_nil ?_
 refine H_env (ρ':=[(0,_),(1,_)]) ⟨rfl,rfl,trivial⟩ ?_
 refine H_seq ?_
 refine H_region (l:=[_,_,_,_,_]) rfl ?_
 refine HO_move rfl rfl rfl ?_
 refine HO_own0 kByte 5 none ?_
 refine HO_append (i:=0) (R:=[_]) rfl rfl rfl rfl rfl Tryz.underlying32 elt5 rfl rfl (SrcOk.dat (j:=0) Tryz.underlying32 rfl) ?_ ?_
 ·(simp only [List.length_nil];omega)
 intro a6 c6
 refine HO_move rfl rfl rfl ?_
 refine HO_call (first:=[]) (capt:=[]) (is:=[0]) (R:=[_]) rfl rfl rfl rfl rfl Tryz.call122 rfl (put_spec _ _ _ _ ?_ ?_) ?_
 ·assumption
 ·(simpa using hb)
 intro y8 hy8
 refine HO_assign rfl rfl rfl ?_
 refine HO_nil ?_
 refine H_env (ρ':=[(4,_)]) ⟨rfl,trivial⟩ ?_
 refine H_world (kp [yy,nn] [_] rfl) ?_
 refine H_ret1 Tryz.results86 (.tmp rfl) (fun w hA => ⟨y8,congrArg Ending.returned ?_,?_,?_⟩)
 ·rfl
 ·trivial
 ·exact hA.keep (m:=[yy]) (Y:=[_]) rfl
theorem text_spec (b : List UInt8) (s : ByteArray) (a : Option Addr) (c : Nat) (hs : s.size≤1099511627776) (hb : b.length≤1099511627776) : Spec Tryz.prog 124 #[.slice a (b.length) c,.string (s)] [.own 5 kByte a c (b)] (β:=Option Addr × Nat) (fun y => .slice y.1 ((b ++ (Cod.enc s.size ++ s.data.toList)).length) y.2) (fun y => True) (fun y => [.own 5 kByte y.1 y.2 (b ++ (Cod.enc s.size ++ s.data.toList))]):=by
 refine Spec.enter (vs:=[_,_]) Tryz.func124 rfl Tryz.ntmps124 rfl (Nat.le_of_ble_eq_true rfl) (fun w0 ok0 => ?_)
 generalize hM0 : blks _ = M0
 refine H_seq ?_
 refine H_region (l:=[_]) rfl ?_
 refine HO_assign rfl rfl rfl ?_
 refine HO_nil ?_
 refine H_env (ρ':=[(0,_),(1,_)]) ⟨rfl,rfl,trivial⟩ ?_
 refine H_seq ?_
 refine H_region (l:=[_,_,_,_,_,_,_,_]) rfl ?_
 iterate 2 refine HO_move rfl rfl rfl ?_
 refine HO_bi rfl rfl rfl (bi_len_str Tryz.underlying9) ?_
 refine HO_conv rfl rfl rfl (cv_int Tryz.underlying3 Tryz.underlying97 (wrap_u_i rfl _)) ?_
 refine HO_set (v':=.int .u64 ((s.size : Int))) 8 rfl (by exact congrArg (Value.int .u64) (by simp only [IntKind.bits];omega)) ?_
 refine HO_call (first:=[]) (capt:=[]) (is:=[0]) (R:=[]) rfl rfl rfl rfl rfl Tryz.call122 rfl (put_spec _ _ _ _ ?_ ?_) ?_
 ·omega
 ·assumption
 intro y9 hy9
 refine HO_move rfl rfl rfl ?_
 refine HO_append (i:=0) (R:=[]) rfl rfl rfl rfl rfl Tryz.underlying32 elt5 rfl rfl (SrcOk.str Tryz.underlying9) ?_ ?_
 ·(have:=Cod.enc_length s.size;have:=Cod.beh_le s.size;have hss : s.data.toList.length = s.size:=Array.length_toList;simp only [List.length_append];omega)
 intro a11 c11
 refine HO_assign rfl rfl rfl ?_
 refine HO_nil ?_
 refine H_env (ρ':=[(4,_)]) ⟨rfl,trivial⟩ ?_
 refine H_ret1 Tryz.results124 (.tmp rfl) (fun w hA => ⟨(a11,c11),congrArg Ending.returned ?_,?_,?_⟩)
 ·simp [List.append_assoc]
 ·trivial
 ·exact (hA.keep (m:=[yy]) (Y:=[_]) rfl).cast (by simp [List.append_assoc])
theorem PutText_spec (b : List UInt8) (s : ByteArray) (a : Option Addr) (c : Nat) (hs : s.size≤1099511627776) (hb : b.length≤1099511627776) : Spec Tryz.prog 88 #[.slice a (b.length) c,.string (s)] [.dat kByte.sl (b) [.slice a (b.length) c]] (β:=Option Addr × Nat) (fun y => .slice y.1 ((b ++ (Cod.enc s.size ++ s.data.toList)).length) y.2) (fun y => True) (fun y => [.own 5 kByte y.1 y.2 (b ++ (Cod.enc s.size ++ s.data.toList))]):=by
 refine Spec.enter (vs:=[_,_]) Tryz.func88 rfl Tryz.ntmps88 rfl (Nat.le_of_ble_eq_true rfl) (fun w0 ok0 => ?_)
 generalize hM0 : blks _ = M0
 have hMn:=@noM _ _ hM0 (by simp [Atom.dat,Atom.elem])
 refine H_seq ?_
 refine H_region (l:=[_]) rfl ?_
 refine HO_assign rfl rfl rfl ?_
 refine HO_nil ?_
 refine H_env (ρ':=[(0,_),(1,_)]) ⟨rfl,rfl,trivial⟩ ?_
 refine H_seq ?_
 refine H_region (l:=[_,_,_,_,_]) rfl ?_
 refine HO_move rfl rfl rfl ?_
 refine HO_own0 kByte 5 none ?_
 refine HO_append (i:=0) (R:=[_]) rfl rfl rfl rfl rfl Tryz.underlying32 elt5 rfl rfl (SrcOk.dat (j:=0) Tryz.underlying32 rfl) ?_ ?_
 ·(simp only [List.length_nil];omega)
 intro a6 c6
 refine HO_move rfl rfl rfl ?_
 refine HO_call (first:=[]) (capt:=[]) (is:=[0]) (R:=[_]) rfl rfl rfl rfl rfl Tryz.call124 rfl (text_spec _ _ _ _ ?_ ?_) ?_
 ·assumption
 ·(simpa using hb)
 intro y8 hy8
 refine HO_assign rfl rfl rfl ?_
 refine HO_nil ?_
 refine H_env (ρ':=[(4,_)]) ⟨rfl,trivial⟩ ?_
 refine H_world (kp [yy,nn] [_] rfl) ?_
 refine H_ret1 Tryz.results88 (.tmp rfl) (fun w hA => ⟨y8,congrArg Ending.returned ?_,?_,?_⟩)
 ·rfl
 ·trivial
 ·exact hA.keep (m:=[yy]) (Y:=[_]) rfl
theorem PutBool_spec (b : List UInt8) (t : Bool) (a : Option Addr) (c : Nat) (hb : b.length≤1099511627776) : Spec Tryz.prog 52 #[.slice a (b.length) c,.bool (t)] [.dat kByte.sl (b) [.slice a (b.length) c]] (β:=Option Addr × Nat) (fun y => .slice y.1 ((b ++ [if t then 84 else 70] : List UInt8).length) y.2) (fun y => True) (fun y => [.own 5 kByte y.1 y.2 (b ++ [if t then 84 else 70])]):=by
 refine Spec.enter (vs:=[_,_]) Tryz.func52 rfl Tryz.ntmps52 rfl (Nat.le_of_ble_eq_true rfl) (fun w0 ok0 => ?_)
 generalize hM0 : blks _ = M0
 have hMn:=@noM _ _ hM0 (by simp [Atom.dat,Atom.elem])
 refine H_seq ?_
 refine H_region (l:=[_]) rfl ?_
 refine HO_assign rfl rfl rfl ?_
 refine HO_nil ?_
 refine H_env (ρ':=[(0,_),(1,_)]) ⟨rfl,rfl,trivial⟩ ?_
 refine H_seq ?_
 refine H_region (l:=[_]) rfl ?_
 refine HO_assign rfl rfl rfl ?_
 refine HO_nil ?_
 refine H_seq ?_
 refine H_seq ?_
 refine H_region (l:=[_]) rfl ?_
 refine HO_move rfl rfl rfl ?_
 refine HO_nil ?_
 refine H_env (ρ':=[(6,_),(5,_),(0,_)]) ⟨rfl,rfl,rfl,trivial⟩ ?_
 refine H_cond rfl ?_ ?_
 ·intro h6
  refine H_region (l:=[_]) rfl ?_
  refine HO_assign rfl rfl rfl ?_
  refine HO_nil ?_
  refine H_env (ρ':=[(5,_),(0,_)]) ⟨rfl,rfl,trivial⟩ ?_
  refine H_seq ?_
  refine H_set (v':=.int .u8 (((if t then 84 else 70 : UInt8)).toNat : Int)) 5 rfl (by simp [h6]) ?_
  refine H_region (l:=[_,_,_,_,_,_]) rfl ?_
  refine HO_move rfl rfl rfl ?_
  refine HO_own0 kByte 5 none ?_
  refine HO_append (i:=0) (R:=[_]) rfl rfl rfl rfl rfl Tryz.underlying32 elt5 rfl rfl (SrcOk.dat (j:=0) Tryz.underlying32 rfl) ?_ ?_
  ·(simp only [List.length_nil];omega)
  intro a8 c8
  refine HO_move rfl rfl rfl ?_
  refine HO_buildSlice (kd:=kByte) (xo:=[_]) (vs:=[_]) (cs:=[_]) (xs:=[(if t then 84 else 70 : UInt8)]) rfl rfl rfl rfl Tryz.underlying32 elt5 rfl rfl rfl (by decide) (by decide) (by simp [Value.cells]) rfl (fun _ _ _ => ⟨_,_,rfl,⟨rfl,trivial⟩,rfl⟩) ?_
  intro g10
  refine HO_append (i:=1) (R:=[_,_]) rfl rfl rfl rfl rfl Tryz.underlying32 elt5 rfl rfl (SrcOk.own (j:=0) Tryz.underlying32 rfl rfl) ?_ ?_
  ·(simp only [List.length_append,List.length_cons,List.length_nil];omega)
  intro a11 c11
  refine HO_assign rfl rfl rfl ?_
  refine HO_nil ?_
  refine H_env (ρ':=[(4,_)]) ⟨rfl,trivial⟩ ?_
  refine H_world (kp [yy,nn,nn] [_] rfl) ?_
  refine H_ret1 Tryz.results52 (.tmp rfl) (fun w hA => ⟨(a11,c11),congrArg Ending.returned ?_,?_,?_⟩)
  ·rfl
  ·trivial
  ·exact hA.keep (m:=[yy]) (Y:=[_]) rfl
 intro h6
 refine H_skip ?_
 refine H_seq ?_
 refine H_set (v':=.int .u8 (((if t then 84 else 70 : UInt8)).toNat : Int)) 5 rfl (by simp [h6]) ?_
 refine H_region (l:=[_,_,_,_,_,_]) rfl ?_
 refine HO_move rfl rfl rfl ?_
 refine HO_own0 kByte 5 none ?_
 refine HO_append (i:=0) (R:=[_]) rfl rfl rfl rfl rfl Tryz.underlying32 elt5 rfl rfl (SrcOk.dat (j:=0) Tryz.underlying32 rfl) ?_ ?_
 ·(simp only [List.length_nil];omega)
 intro a8 c8
 refine HO_move rfl rfl rfl ?_
 refine HO_buildSlice (kd:=kByte) (xo:=[_]) (vs:=[_]) (cs:=[_]) (xs:=[(if t then 84 else 70 : UInt8)]) rfl rfl rfl rfl Tryz.underlying32 elt5 rfl rfl rfl (by decide) (by decide) (by simp [Value.cells]) rfl (fun _ _ _ => ⟨_,_,rfl,⟨rfl,trivial⟩,rfl⟩) ?_
 intro g10
 refine HO_append (i:=1) (R:=[_,_]) rfl rfl rfl rfl rfl Tryz.underlying32 elt5 rfl rfl (SrcOk.own (j:=0) Tryz.underlying32 rfl rfl) ?_ ?_
 ·(simp only [List.length_append,List.length_cons,List.length_nil];omega)
 intro a11 c11
 refine HO_assign rfl rfl rfl ?_
 refine HO_nil ?_
 refine H_env (ρ':=[(4,_)]) ⟨rfl,trivial⟩ ?_
 refine H_world (kp [yy,nn,nn] [_] rfl) ?_
 refine H_ret1 Tryz.results52 (.tmp rfl) (fun w hA => ⟨(a11,c11),congrArg Ending.returned ?_,?_,?_⟩)
 ·rfl
 ·trivial
 ·exact hA.keep (m:=[yy]) (Y:=[_]) rfl
theorem Get_spec (b : List UInt8) (a : Option Addr) (c : Nat)  : Spec Tryz.prog 129 #[.slice a (b.length) c] [.dat kByte.sl (b) [.slice a (b.length) c]] (β:=Unit) (fun y => .tuple #[.int .u64 (((Cod.dec b).1 : Int)),.int .i64 (((Cod.dec b).2 : Int))]) (fun y => True) (fun y => []):=by
 refine Spec.enter (vs:=[_]) Tryz.func129 rfl Tryz.ntmps129 rfl (Nat.le_of_ble_eq_true rfl) (fun w0 ok0 => ?_)
 generalize hM0 : blks _ = M0
 have hMn:=@noM _ _ hM0 (by simp [Atom.dat,Atom.elem])
 refine H_seq ?_
 refine H_region (l:=[_,_]) rfl ?_
 iterate 2 refine HO_assign rfl rfl rfl ?_
 refine HO_nil ?_
 refine H_env (ρ':=[(0,_)]) ⟨rfl,trivial⟩ ?_
 refine H_seq ?_
 refine H_seq ?_
 refine H_region (l:=[_,_,_]) rfl ?_
 refine HO_move rfl rfl rfl ?_
 refine HO_bi rfl rfl rfl (bi_len_sl Tryz.underlying32) ?_
 refine HO_bin rfl rfl rfl rfl bin_eql ?_
 refine HO_nil ?_
 refine H_env (ρ':=[(10,_),(0,_)]) ⟨rfl,rfl,trivial⟩ ?_
 refine H_cond rfl ?_ ?_
 ·intro h10
  replace h10:=dT h10
  obtain rfl : b = []:=List.eq_nil_of_length_eq_zero (by omega)
  refine H_seq ?_
  refine H_region (l:=[_,_]) rfl ?_
  iterate 2 refine HO_assign rfl rfl rfl ?_
  refine HO_nil ?_
  refine H_env (ρ':=[(3,_),(2,_)]) ⟨rfl,rfl,trivial⟩ ?_
  refine H_world (kp [nn] [] rfl) ?_
  refine H_ret2 Tryz.results129 (.tmp rfl) (.tmp rfl) (fun w hA => ⟨(),congrArg Ending.returned ?_,?_,?_⟩)
  ·rfl
  ·trivial
  ·exact hA.keep (m:=[]) (Y:=[]) rfl
 intro h10
 replace h10:=dF h10
 refine H_skip ?_
 refine H_seq ?_
 refine H_region (l:=[_,_,_,_,_,_]) rfl ?_
 refine HO_move rfl rfl rfl ?_
 refine HO_indexAddr open_byte (i:=0) (j:=0) rfl rfl rfl rfl rfl Tryz.underlying32 Tryz.sizeOf5 rfl ?_ ?_
 ·omega
 intro b12 o12 z12 y12 hz12 hI12
 clear y12 hI12
 refine HO_load1 (i:=0) (j:=0) rfl rfl rfl Tryz.isAgg5 rfl (.elem _ _ _) rfl rfl ?_
 refine HO_compl rfl rfl rfl rfl ?_ ?_
 ·(have:=z12.toNat_lt;simp only [IntKind.bits];omega)
 refine HO_call (first:=[]) (capt:=[]) (is:=[]) (R:=[_,_]) rfl rfl rfl rfl rfl Tryz.call147 rfl (lz8_spec _ ?_) ?_
 ·(have:=z12.toNat_lt;simp only [IntKind.bits];omega)
 intro y15 hy15
 clear y15 hy15
 refine HO_assign rfl rfl rfl ?_
 refine HO_set (v':=.int .i64 ((Cod.lead z12.toNat : Int))) 4 rfl (by rfl) ?_
 refine HO_nil ?_
 refine H_env (ρ':=[(4,_),(0,_)]) ⟨rfl,rfl,trivial⟩ ?_
 refine H_world (kp [nn,yy] [_] rfl) ?_
 refine H_seq ?_
 refine H_seq ?_
 have hlead:=Cod.lead_le z12.toNat
 have hdec:=Cod.dec_at hz12
 refine H_region (l:=[_,_,_,_]) rfl ?_
 iterate 2 refine HO_move rfl rfl rfl ?_
 refine HO_bi rfl rfl rfl (bi_len_sl Tryz.underlying32) ?_
 refine HO_bin rfl rfl rfl rfl bin_geq ?_
 refine HO_nil ?_
 refine H_env (ρ':=[(19,_),(4,_),(0,_)]) ⟨rfl,rfl,rfl,trivial⟩ ?_
 refine H_cond rfl ?_ ?_
 ·intro h19
  replace h19:=dT h19
  rw [if_pos (by omega)] at hdec
  refine H_seq ?_
  refine H_region (l:=[_,_]) rfl ?_
  iterate 2 refine HO_assign rfl rfl rfl ?_
  refine HO_nil ?_
  refine H_env (ρ':=[(3,_),(2,_)]) ⟨rfl,rfl,trivial⟩ ?_
  refine H_world (kp [nn] [] rfl) ?_
  refine H_ret2 Tryz.results129 (.tmp rfl) (.tmp rfl) (fun w hA => ⟨(),congrArg Ending.returned ?_,?_,?_⟩)
  ·(rw [hdec];rfl)
  ·trivial
  ·exact hA.keep (m:=[]) (Y:=[]) rfl
 intro h19
 replace h19:=dF h19
 rw [if_neg (by omega)] at hdec
 refine H_skip ?_
 refine H_seq ?_
 refine H_drawB (m:=[yy]) (Xs:=[_]) (fuel:=8) (l:=#[false,false,false,false,false,false,false,false]) mixed rfl rfl rfl ?_
 refine HA_take (i:=0) bp rfl rfl rfl rfl (by kernel_rfl) rfl (V_move rfl) (fun _ hA => hA) ?_
 refine HA_take (i:=3) bp rfl rfl rfl rfl (by kernel_rfl) rfl (V_move rfl) (fun _ hA => hA) ?_
 refine HA_loud2 (i:=1) (j:=4) (by kernel_rfl) rfl rfl ?_ ?_
 ·refine HO_indexAddr open_byte (i:=0) (j:=0) rfl rfl rfl rfl rfl Tryz.underlying32 Tryz.sizeOf5 rfl ?_ ?_
  ·omega
  intro b21 o21 z21 y21 hz21 hI21
  clear y21 hI21
  refine HA_back rfl (kp [nn,yy] [_] rfl) ?_
  refine HA_loud2 (i:=2) (j:=4) (by kernel_rfl) rfl rfl ?_ ?_
  ·refine HO_load1 (i:=0) (j:=0) rfl rfl rfl Tryz.isAgg5 rfl (.elem _ _ _) rfl rfl ?_
   refine HA_back rfl (kp [nn,yy] [_] rfl) ?_
   refine HA_loud1 (i:=4) (by kernel_rfl) rfl ?_
   refine HO_call (first:=[]) (capt:=[]) (is:=[]) (R:=[_,_]) rfl rfl rfl rfl rfl Tryz.call146 rfl (ones_spec _ ?_) ?_
   ·(exact Cod.lead_le _)
   intro y24 hy24
   clear y24 hy24
   refine HA_back rfl (kp [nn,yy] [_] rfl) ?_
   refine HA_take (i:=5) bp rfl rfl rfl rfl (by kernel_rfl) rfl (V_bin rfl rfl (bin_andNot rfl ?_ ?_)) (kp [nn,yy] [_] rfl) ?_
   ·(exact z21.toNat_lt)
   ·(exact Cod.onesB_lt _)
   refine HA_take (i:=6) bp rfl rfl rfl rfl (by kernel_rfl) rfl (V_conv rfl (cv_int Tryz.underlying5 Tryz.underlying97 (wrap_u_lt rfl ?_))) (kp [nn,yy] [_] rfl) ?_
   ·(have:=z21.toNat_lt;have:=@Nat.and_le_left z21.toNat (2 ^ IntKind.u8.bits - 1 - Cod.onesB (Cod.lead z12.toNat));simp only [IntKind.bits] at *;omega)
   refine HA_take (i:=7) bp rfl rfl rfl rfl (by kernel_rfl) rfl (V_assign rfl) (kp [nn,yy] [_] rfl) ?_
   refine HA_set (v':=.int .u64 (((z12.toNat &&& (255 - Cod.onesB (Cod.lead z12.toNat))) : Int))) 5 rfl (by (obtain rfl : z12 = z21:=Option.some.inj (hz12.symm.trans hz21));rfl) ?_
   refine HA_done (by kernel_rfl) ?_
   refine H_env (ρ':=[(5,_),(4,_),(0,_)]) ⟨rfl,rfl,rfl,trivial⟩ ?_
   refine H_world (kp [nn,yy] [_] rfl) ?_
   refine H_seq ?_
   refine H_seq ?_
   obtain rfl : z12 = z21:=Option.some.inj (hz12.symm.trans hz21)
   refine H_region (l:=[_,_,_,_,_,_]) rfl ?_
   iterate 2 refine HO_move rfl rfl rfl ?_
   refine HO_bin rfl rfl rfl rfl (bin_add ?_ ?_) ?_
   ·omega
   ·omega
   refine HO_slice_lh (i:=0) (l:=1) (h':=Cod.lead z12.toNat + 1) rfl rfl rfl rfl rfl rfl ?_ Tryz.underlying32 Tryz.sizeOf5 rfl ?_ ?_ ?_
   ·omega
   ·omega
   ·omega
   intro a30 c30
   refine HO_bi rfl rfl rfl (bi_len_sl Tryz.underlying32) ?_
   refine HO_move rfl rfl rfl ?_
   refine HO_nil ?_
   refine H_env (ρ':=[(32,_),(31,_),(30,_),(5,_),(4,_)]) ⟨rfl,rfl,rfl,rfl,rfl,trivial⟩ ?_
   refine H_world (kp [yy,nn] [_] rfl) ?_
   refine H_block ?_
   refine H_loop (σ:=Nat) (fun s => s≤(List.drop 1 (List.take (Cod.lead z12.toNat + 1) b)).length) (fun s => [(30,.slice a30 ((List.drop 1 (List.take (Cod.lead z12.toNat + 1) b)).length) c30),(31,.int .i64 (((List.drop 1 (List.take (Cod.lead z12.toNat + 1) b)).length : Int))),(32,.int .i64 ((s : Int))),(5,.int .u64 ((Cod.foldB (z12.toNat &&& (255 - Cod.onesB (Cod.lead z12.toNat))) (List.take s (List.drop 1 (List.take (Cod.lead z12.toNat + 1) b))) : Int))),(4,.int .i64 ((Cod.lead z12.toNat : Int)))]) (fun s => Asn w0 ok0 M0 [.dat kByte.sl ((List.drop 1 (List.take (Cod.lead z12.toNat + 1) b))) [.slice a30 ((List.drop 1 (List.take (Cod.lead z12.toNat + 1) b)).length) c30]]) (fun s => (List.drop 1 (List.take (Cod.lead z12.toNat + 1) b)).length - s) 0 ?_ ?_ ?_ ?_
   ·exact Nat.zero_le _
   ·exact ⟨rfl,rfl,rfl,rfl,rfl,trivial⟩
   ·intro w hA
    exact hA.only (is:=[0]) (Z:=[]) rfl
   ·intro i hI
    (try dsimp only at hI ⊢)
    refine H_seq ?_
    refine H_region (l:=[_]) rfl ?_
    refine HO_bin rfl rfl rfl rfl bin_lss ?_
    refine HO_nil ?_
    refine H_seq ?_
    refine H_cond rfl ?_ ?_
    ·intro h33
     replace h33:=dT h33
     refine H_skip ?_
     refine H_seq ?_
     refine H_block ?_
     refine H_seq ?_
     refine H_region (l:=[_,_,_]) rfl ?_
     refine HO_indexAddr open_byte (i:=0) rfl rfl rfl rfl rfl Tryz.underlying32 Tryz.sizeOf5 rfl ?_ ?_
     ·omega
     intro b34 o34 z34 y34 hz34 hI34
     clear y34 hI34
     refine HO_load1 (i:=0) (j:=0) rfl rfl rfl Tryz.isAgg5 rfl (.elem _ _ _) rfl rfl ?_
     refine HO_assign rfl rfl rfl ?_
     refine HO_nil ?_
     refine H_env (ρ':=[(7,_),(30,_),(31,_),(32,_),(5,_),(4,_)]) ⟨rfl,rfl,rfl,rfl,rfl,rfl,trivial⟩ ?_
     refine H_world (kp [nn,yy] [_] rfl) ?_
     refine H_region (l:=[_,_,_,_,_,_]) rfl ?_
     refine HO_move rfl rfl rfl ?_
     refine HO_bin rfl rfl rfl rfl (bin_shl (s:=8) rfl) ?_
     refine HO_move rfl rfl rfl ?_
     refine HO_conv rfl rfl rfl (cv_int Tryz.underlying5 Tryz.underlying97 (wrap_u_lt rfl ?_)) ?_
     ·(have:=z34.toNat_lt;simp only [IntKind.bits];omega)
     refine HO_bin rfl rfl rfl rfl (bin_or rfl ?_ ?_) ?_
     ·(exact Nat.mod_lt _ (by decide))
     ·(have:=z34.toNat_lt;simp only [IntKind.bits];omega)
     refine HO_assign rfl rfl rfl ?_
     refine HO_nil ?_
     refine H_env (ρ':=[(5,_),(30,_),(31,_),(32,_),(4,_)]) ⟨rfl,rfl,rfl,rfl,rfl,trivial⟩ ?_
     refine H_blk ?_
     refine H_region (l:=[_,_]) rfl ?_
     refine HO_bin rfl rfl rfl rfl (bin_add ?_ ?_) ?_
     ·omega
     ·(have:=Cod.lead_le z12.toNat;simp only [List.length_drop,List.length_take] at *;omega)
     refine HO_move rfl rfl rfl ?_
     refine HO_nil ?_
     refine H_env (ρ':=[(32,_),(5,_),(30,_),(31,_),(4,_)]) ⟨rfl,rfl,rfl,rfl,rfl,trivial⟩ ?_
     refine H_inv (fun a w hf hA => ⟨i + 1,?_,?_,hf.sub ?_,?_⟩)
     ·omega
     ·(try dsimp only);omega
     ·exact ⟨rfl,rfl,rfl,congrArg (fun m : Nat => some (Value.int .u64 (m : Int))) (Cod.foldB_take hz34),rfl,trivial⟩
     ·exact hA.only (is:=[0]) (Z:=[]) rfl
    intro h33
    replace h33:=dF h33
    refine H_exit rfl ?_
    refine H_seq ?_
    refine H_seq ?_
    have hi : i = (List.drop 1 (List.take (Cod.lead z12.toNat + 1) b)).length:=by omega
    subst hi
    rw [List.take_length]
    refine H_region (l:=[_,_,_,_]) rfl ?_
    refine HO_move rfl rfl rfl ?_
    refine HO_call (first:=[]) (capt:=[]) (is:=[]) (R:=[_]) rfl rfl rfl rfl rfl Tryz.call145 rfl (behind_spec _ ?_) ?_
    ·(exact Cod.foldB_lt (Nat.lt_of_le_of_lt Nat.and_le_left (Nat.lt_of_lt_of_le z12.toNat_lt (by decide))) _)
    intro y43 hy43
    clear y43 hy43
    refine HO_move rfl rfl rfl ?_
    refine HO_bin rfl rfl rfl rfl bin_neq ?_
    refine HO_nil ?_
    refine H_env (ρ':=[(45,_),(5,_),(4,_)]) ⟨rfl,rfl,rfl,trivial⟩ ?_
    refine H_world (kp [nn] [] rfl) ?_
    refine H_cond rfl ?_ ?_
    ·intro h45
     replace h45:=dT h45
     rw [if_neg (by omega)] at hdec
     refine H_seq ?_
     refine H_region (l:=[_,_]) rfl ?_
     iterate 2 refine HO_assign rfl rfl rfl ?_
     refine HO_nil ?_
     refine H_env (ρ':=[(3,_),(2,_)]) ⟨rfl,rfl,trivial⟩ ?_
     refine H_ret2 Tryz.results129 (.tmp rfl) (.tmp rfl) (fun w hA => ⟨(),congrArg Ending.returned ?_,?_,?_⟩)
     ·(rw [hdec];rfl)
     ·trivial
     ·exact hA.keep (m:=[]) (Y:=[]) rfl
    intro h45
    replace h45:=dF h45
    rw [if_pos (by omega)] at hdec
    refine H_skip ?_
    refine H_seq ?_
    refine H_region (l:=[_,_,_,_,_]) rfl ?_
    iterate 2 refine HO_move rfl rfl rfl ?_
    refine HO_bin rfl rfl rfl rfl (bin_add ?_ ?_) ?_
    ·omega
    ·omega
    iterate 2 refine HO_assign rfl rfl rfl ?_
    refine HO_nil ?_
    refine H_env (ρ':=[(3,_),(2,_)]) ⟨rfl,rfl,trivial⟩ ?_
    refine H_ret2 Tryz.results129 (.tmp rfl) (.tmp rfl) (fun w hA => ⟨(),congrArg Ending.returned ?_,?_,?_⟩)
    ·(rw [hdec];rfl)
    ·trivial
    ·exact hA.keep (m:=[]) (Y:=[]) rfl
  ·refine HO_call (first:=[]) (capt:=[]) (is:=[]) (R:=[_,_]) rfl rfl rfl rfl rfl Tryz.call146 rfl (ones_spec _ ?_) ?_
   ·(exact Cod.lead_le _)
   intro y24 hy24
   clear y24 hy24
   refine HA_back rfl (kp [nn,yy] [_] rfl) ?_
   refine HA_loud1 (i:=2) (by kernel_rfl) rfl ?_
   refine HO_load1 (i:=0) (j:=0) rfl rfl rfl Tryz.isAgg5 rfl (.elem _ _ _) rfl rfl ?_
   refine HA_back rfl (kp [nn,yy] [_] rfl) ?_
   refine HA_take (i:=5) bp rfl rfl rfl rfl (by kernel_rfl) rfl (V_bin rfl rfl (bin_andNot rfl ?_ ?_)) (kp [nn,yy] [_] rfl) ?_
   ·(exact z21.toNat_lt)
   ·(exact Cod.onesB_lt _)
   refine HA_take (i:=6) bp rfl rfl rfl rfl (by kernel_rfl) rfl (V_conv rfl (cv_int Tryz.underlying5 Tryz.underlying97 (wrap_u_lt rfl ?_))) (kp [nn,yy] [_] rfl) ?_
   ·(have:=z21.toNat_lt;have:=@Nat.and_le_left z21.toNat (2 ^ IntKind.u8.bits - 1 - Cod.onesB (Cod.lead z12.toNat));simp only [IntKind.bits] at *;omega)
   refine HA_take (i:=7) bp rfl rfl rfl rfl (by kernel_rfl) rfl (V_assign rfl) (kp [nn,yy] [_] rfl) ?_
   refine HA_set (v':=.int .u64 (((z12.toNat &&& (255 - Cod.onesB (Cod.lead z12.toNat))) : Int))) 5 rfl (by (obtain rfl : z12 = z21:=Option.some.inj (hz12.symm.trans hz21));rfl) ?_
   refine HA_done (by kernel_rfl) ?_
   refine H_env (ρ':=[(5,_),(4,_),(0,_)]) ⟨rfl,rfl,rfl,trivial⟩ ?_
   refine H_world (kp [nn,yy] [_] rfl) ?_
   refine H_seq ?_
   refine H_seq ?_
   obtain rfl : z12 = z21:=Option.some.inj (hz12.symm.trans hz21)
   refine H_region (l:=[_,_,_,_,_,_]) rfl ?_
   iterate 2 refine HO_move rfl rfl rfl ?_
   refine HO_bin rfl rfl rfl rfl (bin_add ?_ ?_) ?_
   ·omega
   ·omega
   refine HO_slice_lh (i:=0) (l:=1) (h':=Cod.lead z12.toNat + 1) rfl rfl rfl rfl rfl rfl ?_ Tryz.underlying32 Tryz.sizeOf5 rfl ?_ ?_ ?_
   ·omega
   ·omega
   ·omega
   intro a30 c30
   refine HO_bi rfl rfl rfl (bi_len_sl Tryz.underlying32) ?_
   refine HO_move rfl rfl rfl ?_
   refine HO_nil ?_
   refine H_env (ρ':=[(32,_),(31,_),(30,_),(5,_),(4,_)]) ⟨rfl,rfl,rfl,rfl,rfl,trivial⟩ ?_
   refine H_world (kp [yy,nn] [_] rfl) ?_
   refine H_block ?_
   refine H_loop (σ:=Nat) (fun s => s≤(List.drop 1 (List.take (Cod.lead z12.toNat + 1) b)).length) (fun s => [(30,.slice a30 ((List.drop 1 (List.take (Cod.lead z12.toNat + 1) b)).length) c30),(31,.int .i64 (((List.drop 1 (List.take (Cod.lead z12.toNat + 1) b)).length : Int))),(32,.int .i64 ((s : Int))),(5,.int .u64 ((Cod.foldB (z12.toNat &&& (255 - Cod.onesB (Cod.lead z12.toNat))) (List.take s (List.drop 1 (List.take (Cod.lead z12.toNat + 1) b))) : Int))),(4,.int .i64 ((Cod.lead z12.toNat : Int)))]) (fun s => Asn w0 ok0 M0 [.dat kByte.sl ((List.drop 1 (List.take (Cod.lead z12.toNat + 1) b))) [.slice a30 ((List.drop 1 (List.take (Cod.lead z12.toNat + 1) b)).length) c30]]) (fun s => (List.drop 1 (List.take (Cod.lead z12.toNat + 1) b)).length - s) 0 ?_ ?_ ?_ ?_
   ·exact Nat.zero_le _
   ·exact ⟨rfl,rfl,rfl,rfl,rfl,trivial⟩
   ·intro w hA
    exact hA.only (is:=[0]) (Z:=[]) rfl
   ·intro i hI
    (try dsimp only at hI ⊢)
    refine H_seq ?_
    refine H_region (l:=[_]) rfl ?_
    refine HO_bin rfl rfl rfl rfl bin_lss ?_
    refine HO_nil ?_
    refine H_seq ?_
    refine H_cond rfl ?_ ?_
    ·intro h33
     replace h33:=dT h33
     refine H_skip ?_
     refine H_seq ?_
     refine H_block ?_
     refine H_seq ?_
     refine H_region (l:=[_,_,_]) rfl ?_
     refine HO_indexAddr open_byte (i:=0) rfl rfl rfl rfl rfl Tryz.underlying32 Tryz.sizeOf5 rfl ?_ ?_
     ·omega
     intro b34 o34 z34 y34 hz34 hI34
     clear y34 hI34
     refine HO_load1 (i:=0) (j:=0) rfl rfl rfl Tryz.isAgg5 rfl (.elem _ _ _) rfl rfl ?_
     refine HO_assign rfl rfl rfl ?_
     refine HO_nil ?_
     refine H_env (ρ':=[(7,_),(30,_),(31,_),(32,_),(5,_),(4,_)]) ⟨rfl,rfl,rfl,rfl,rfl,rfl,trivial⟩ ?_
     refine H_world (kp [nn,yy] [_] rfl) ?_
     refine H_region (l:=[_,_,_,_,_,_]) rfl ?_
     refine HO_move rfl rfl rfl ?_
     refine HO_bin rfl rfl rfl rfl (bin_shl (s:=8) rfl) ?_
     refine HO_move rfl rfl rfl ?_
     refine HO_conv rfl rfl rfl (cv_int Tryz.underlying5 Tryz.underlying97 (wrap_u_lt rfl ?_)) ?_
     ·(have:=z34.toNat_lt;simp only [IntKind.bits];omega)
     refine HO_bin rfl rfl rfl rfl (bin_or rfl ?_ ?_) ?_
     ·(exact Nat.mod_lt _ (by decide))
     ·(have:=z34.toNat_lt;simp only [IntKind.bits];omega)
     refine HO_assign rfl rfl rfl ?_
     refine HO_nil ?_
     refine H_env (ρ':=[(5,_),(30,_),(31,_),(32,_),(4,_)]) ⟨rfl,rfl,rfl,rfl,rfl,trivial⟩ ?_
     refine H_blk ?_
     refine H_region (l:=[_,_]) rfl ?_
     refine HO_bin rfl rfl rfl rfl (bin_add ?_ ?_) ?_
     ·omega
     ·(have:=Cod.lead_le z12.toNat;simp only [List.length_drop,List.length_take] at *;omega)
     refine HO_move rfl rfl rfl ?_
     refine HO_nil ?_
     refine H_env (ρ':=[(32,_),(5,_),(30,_),(31,_),(4,_)]) ⟨rfl,rfl,rfl,rfl,rfl,trivial⟩ ?_
     refine H_inv (fun a w hf hA => ⟨i + 1,?_,?_,hf.sub ?_,?_⟩)
     ·omega
     ·(try dsimp only);omega
     ·exact ⟨rfl,rfl,rfl,congrArg (fun m : Nat => some (Value.int .u64 (m : Int))) (Cod.foldB_take hz34),rfl,trivial⟩
     ·exact hA.only (is:=[0]) (Z:=[]) rfl
    intro h33
    replace h33:=dF h33
    refine H_exit rfl ?_
    refine H_seq ?_
    refine H_seq ?_
    have hi : i = (List.drop 1 (List.take (Cod.lead z12.toNat + 1) b)).length:=by omega
    subst hi
    rw [List.take_length]
    refine H_region (l:=[_,_,_,_]) rfl ?_
    refine HO_move rfl rfl rfl ?_
    refine HO_call (first:=[]) (capt:=[]) (is:=[]) (R:=[_]) rfl rfl rfl rfl rfl Tryz.call145 rfl (behind_spec _ ?_) ?_
    ·(exact Cod.foldB_lt (Nat.lt_of_le_of_lt Nat.and_le_left (Nat.lt_of_lt_of_le z12.toNat_lt (by decide))) _)
    intro y43 hy43
    clear y43 hy43
    refine HO_move rfl rfl rfl ?_
    refine HO_bin rfl rfl rfl rfl bin_neq ?_
    refine HO_nil ?_
    refine H_env (ρ':=[(45,_),(5,_),(4,_)]) ⟨rfl,rfl,rfl,trivial⟩ ?_
    refine H_world (kp [nn] [] rfl) ?_
    refine H_cond rfl ?_ ?_
    ·intro h45
     replace h45:=dT h45
     rw [if_neg (by omega)] at hdec
     refine H_seq ?_
     refine H_region (l:=[_,_]) rfl ?_
     iterate 2 refine HO_assign rfl rfl rfl ?_
     refine HO_nil ?_
     refine H_env (ρ':=[(3,_),(2,_)]) ⟨rfl,rfl,trivial⟩ ?_
     refine H_ret2 Tryz.results129 (.tmp rfl) (.tmp rfl) (fun w hA => ⟨(),congrArg Ending.returned ?_,?_,?_⟩)
     ·(rw [hdec];rfl)
     ·trivial
     ·exact hA.keep (m:=[]) (Y:=[]) rfl
    intro h45
    replace h45:=dF h45
    rw [if_pos (by omega)] at hdec
    refine H_skip ?_
    refine H_seq ?_
    refine H_region (l:=[_,_,_,_,_]) rfl ?_
    iterate 2 refine HO_move rfl rfl rfl ?_
    refine HO_bin rfl rfl rfl rfl (bin_add ?_ ?_) ?_
    ·omega
    ·omega
    iterate 2 refine HO_assign rfl rfl rfl ?_
    refine HO_nil ?_
    refine H_env (ρ':=[(3,_),(2,_)]) ⟨rfl,rfl,trivial⟩ ?_
    refine H_ret2 Tryz.results129 (.tmp rfl) (.tmp rfl) (fun w hA => ⟨(),congrArg Ending.returned ?_,?_,?_⟩)
    ·(rw [hdec];rfl)
    ·trivial
    ·exact hA.keep (m:=[]) (Y:=[]) rfl
 ·refine HO_call (first:=[]) (capt:=[]) (is:=[]) (R:=[_]) rfl rfl rfl rfl rfl Tryz.call146 rfl (ones_spec _ ?_) ?_
  ·(exact Cod.lead_le _)
  intro y24 hy24
  clear y24 hy24
  refine HA_back rfl (fun _ hA => hA) ?_
  refine HA_loud1 (i:=1) (by kernel_rfl) rfl ?_
  refine HO_indexAddr open_byte (i:=0) (j:=0) rfl rfl rfl rfl rfl Tryz.underlying32 Tryz.sizeOf5 rfl ?_ ?_
  ·omega
  intro b21 o21 z21 y21 hz21 hI21
  clear y21 hI21
  refine HA_back rfl (kp [nn,yy] [_] rfl) ?_
  refine HA_loud1 (i:=2) (by kernel_rfl) rfl ?_
  refine HO_load1 (i:=0) (j:=0) rfl rfl rfl Tryz.isAgg5 rfl (.elem _ _ _) rfl rfl ?_
  refine HA_back rfl (kp [nn,yy] [_] rfl) ?_
  refine HA_take (i:=5) bp rfl rfl rfl rfl (by kernel_rfl) rfl (V_bin rfl rfl (bin_andNot rfl ?_ ?_)) (kp [nn,yy] [_] rfl) ?_
  ·(exact z21.toNat_lt)
  ·(exact Cod.onesB_lt _)
  refine HA_take (i:=6) bp rfl rfl rfl rfl (by kernel_rfl) rfl (V_conv rfl (cv_int Tryz.underlying5 Tryz.underlying97 (wrap_u_lt rfl ?_))) (kp [nn,yy] [_] rfl) ?_
  ·(have:=z21.toNat_lt;have:=@Nat.and_le_left z21.toNat (2 ^ IntKind.u8.bits - 1 - Cod.onesB (Cod.lead z12.toNat));simp only [IntKind.bits] at *;omega)
  refine HA_take (i:=7) bp rfl rfl rfl rfl (by kernel_rfl) rfl (V_assign rfl) (kp [nn,yy] [_] rfl) ?_
  refine HA_set (v':=.int .u64 (((z12.toNat &&& (255 - Cod.onesB (Cod.lead z12.toNat))) : Int))) 5 rfl (by (obtain rfl : z12 = z21:=Option.some.inj (hz12.symm.trans hz21));rfl) ?_
  refine HA_done (by kernel_rfl) ?_
  refine H_env (ρ':=[(5,_),(4,_),(0,_)]) ⟨rfl,rfl,rfl,trivial⟩ ?_
  refine H_world (kp [nn,yy] [_] rfl) ?_
  refine H_seq ?_
  refine H_seq ?_
  obtain rfl : z12 = z21:=Option.some.inj (hz12.symm.trans hz21)
  refine H_region (l:=[_,_,_,_,_,_]) rfl ?_
  iterate 2 refine HO_move rfl rfl rfl ?_
  refine HO_bin rfl rfl rfl rfl (bin_add ?_ ?_) ?_
  ·omega
  ·omega
  refine HO_slice_lh (i:=0) (l:=1) (h':=Cod.lead z12.toNat + 1) rfl rfl rfl rfl rfl rfl ?_ Tryz.underlying32 Tryz.sizeOf5 rfl ?_ ?_ ?_
  ·omega
  ·omega
  ·omega
  intro a30 c30
  refine HO_bi rfl rfl rfl (bi_len_sl Tryz.underlying32) ?_
  refine HO_move rfl rfl rfl ?_
  refine HO_nil ?_
  refine H_env (ρ':=[(32,_),(31,_),(30,_),(5,_),(4,_)]) ⟨rfl,rfl,rfl,rfl,rfl,trivial⟩ ?_
  refine H_world (kp [yy,nn] [_] rfl) ?_
  refine H_block ?_
  refine H_loop (σ:=Nat) (fun s => s≤(List.drop 1 (List.take (Cod.lead z12.toNat + 1) b)).length) (fun s => [(30,.slice a30 ((List.drop 1 (List.take (Cod.lead z12.toNat + 1) b)).length) c30),(31,.int .i64 (((List.drop 1 (List.take (Cod.lead z12.toNat + 1) b)).length : Int))),(32,.int .i64 ((s : Int))),(5,.int .u64 ((Cod.foldB (z12.toNat &&& (255 - Cod.onesB (Cod.lead z12.toNat))) (List.take s (List.drop 1 (List.take (Cod.lead z12.toNat + 1) b))) : Int))),(4,.int .i64 ((Cod.lead z12.toNat : Int)))]) (fun s => Asn w0 ok0 M0 [.dat kByte.sl ((List.drop 1 (List.take (Cod.lead z12.toNat + 1) b))) [.slice a30 ((List.drop 1 (List.take (Cod.lead z12.toNat + 1) b)).length) c30]]) (fun s => (List.drop 1 (List.take (Cod.lead z12.toNat + 1) b)).length - s) 0 ?_ ?_ ?_ ?_
  ·exact Nat.zero_le _
  ·exact ⟨rfl,rfl,rfl,rfl,rfl,trivial⟩
  ·intro w hA
   exact hA.only (is:=[0]) (Z:=[]) rfl
  ·intro i hI
   (try dsimp only at hI ⊢)
   refine H_seq ?_
   refine H_region (l:=[_]) rfl ?_
   refine HO_bin rfl rfl rfl rfl bin_lss ?_
   refine HO_nil ?_
   refine H_seq ?_
   refine H_cond rfl ?_ ?_
   ·intro h33
    replace h33:=dT h33
    refine H_skip ?_
    refine H_seq ?_
    refine H_block ?_
    refine H_seq ?_
    refine H_region (l:=[_,_,_]) rfl ?_
    refine HO_indexAddr open_byte (i:=0) rfl rfl rfl rfl rfl Tryz.underlying32 Tryz.sizeOf5 rfl ?_ ?_
    ·omega
    intro b34 o34 z34 y34 hz34 hI34
    clear y34 hI34
    refine HO_load1 (i:=0) (j:=0) rfl rfl rfl Tryz.isAgg5 rfl (.elem _ _ _) rfl rfl ?_
    refine HO_assign rfl rfl rfl ?_
    refine HO_nil ?_
    refine H_env (ρ':=[(7,_),(30,_),(31,_),(32,_),(5,_),(4,_)]) ⟨rfl,rfl,rfl,rfl,rfl,rfl,trivial⟩ ?_
    refine H_world (kp [nn,yy] [_] rfl) ?_
    refine H_region (l:=[_,_,_,_,_,_]) rfl ?_
    refine HO_move rfl rfl rfl ?_
    refine HO_bin rfl rfl rfl rfl (bin_shl (s:=8) rfl) ?_
    refine HO_move rfl rfl rfl ?_
    refine HO_conv rfl rfl rfl (cv_int Tryz.underlying5 Tryz.underlying97 (wrap_u_lt rfl ?_)) ?_
    ·(have:=z34.toNat_lt;simp only [IntKind.bits];omega)
    refine HO_bin rfl rfl rfl rfl (bin_or rfl ?_ ?_) ?_
    ·(exact Nat.mod_lt _ (by decide))
    ·(have:=z34.toNat_lt;simp only [IntKind.bits];omega)
    refine HO_assign rfl rfl rfl ?_
    refine HO_nil ?_
    refine H_env (ρ':=[(5,_),(30,_),(31,_),(32,_),(4,_)]) ⟨rfl,rfl,rfl,rfl,rfl,trivial⟩ ?_
    refine H_blk ?_
    refine H_region (l:=[_,_]) rfl ?_
    refine HO_bin rfl rfl rfl rfl (bin_add ?_ ?_) ?_
    ·omega
    ·(have:=Cod.lead_le z12.toNat;simp only [List.length_drop,List.length_take] at *;omega)
    refine HO_move rfl rfl rfl ?_
    refine HO_nil ?_
    refine H_env (ρ':=[(32,_),(5,_),(30,_),(31,_),(4,_)]) ⟨rfl,rfl,rfl,rfl,rfl,trivial⟩ ?_
    refine H_inv (fun a w hf hA => ⟨i + 1,?_,?_,hf.sub ?_,?_⟩)
    ·omega
    ·(try dsimp only);omega
    ·exact ⟨rfl,rfl,rfl,congrArg (fun m : Nat => some (Value.int .u64 (m : Int))) (Cod.foldB_take hz34),rfl,trivial⟩
    ·exact hA.only (is:=[0]) (Z:=[]) rfl
   intro h33
   replace h33:=dF h33
   refine H_exit rfl ?_
   refine H_seq ?_
   refine H_seq ?_
   have hi : i = (List.drop 1 (List.take (Cod.lead z12.toNat + 1) b)).length:=by omega
   subst hi
   rw [List.take_length]
   refine H_region (l:=[_,_,_,_]) rfl ?_
   refine HO_move rfl rfl rfl ?_
   refine HO_call (first:=[]) (capt:=[]) (is:=[]) (R:=[_]) rfl rfl rfl rfl rfl Tryz.call145 rfl (behind_spec _ ?_) ?_
   ·(exact Cod.foldB_lt (Nat.lt_of_le_of_lt Nat.and_le_left (Nat.lt_of_lt_of_le z12.toNat_lt (by decide))) _)
   intro y43 hy43
   clear y43 hy43
   refine HO_move rfl rfl rfl ?_
   refine HO_bin rfl rfl rfl rfl bin_neq ?_
   refine HO_nil ?_
   refine H_env (ρ':=[(45,_),(5,_),(4,_)]) ⟨rfl,rfl,rfl,trivial⟩ ?_
   refine H_world (kp [nn] [] rfl) ?_
   refine H_cond rfl ?_ ?_
   ·intro h45
    replace h45:=dT h45
    rw [if_neg (by omega)] at hdec
    refine H_seq ?_
    refine H_region (l:=[_,_]) rfl ?_
    iterate 2 refine HO_assign rfl rfl rfl ?_
    refine HO_nil ?_
    refine H_env (ρ':=[(3,_),(2,_)]) ⟨rfl,rfl,trivial⟩ ?_
    refine H_ret2 Tryz.results129 (.tmp rfl) (.tmp rfl) (fun w hA => ⟨(),congrArg Ending.returned ?_,?_,?_⟩)
    ·(rw [hdec];rfl)
    ·trivial
    ·exact hA.keep (m:=[]) (Y:=[]) rfl
   intro h45
   replace h45:=dF h45
   rw [if_pos (by omega)] at hdec
   refine H_skip ?_
   refine H_seq ?_
   refine H_region (l:=[_,_,_,_,_]) rfl ?_
   iterate 2 refine HO_move rfl rfl rfl ?_
   refine HO_bin rfl rfl rfl rfl (bin_add ?_ ?_) ?_
   ·omega
   ·omega
   iterate 2 refine HO_assign rfl rfl rfl ?_
   refine HO_nil ?_
   refine H_env (ρ':=[(3,_),(2,_)]) ⟨rfl,rfl,trivial⟩ ?_
   refine H_ret2 Tryz.results129 (.tmp rfl) (.tmp rfl) (fun w hA => ⟨(),congrArg Ending.returned ?_,?_,?_⟩)
   ·(rw [hdec];rfl)
   ·trivial
   ·exact hA.keep (m:=[]) (Y:=[]) rfl
end Go.Wk
