/- Contracts of the program's functions, each proved by walking its code. -/
import Derived.Test.YtdaphlemhmgncaaGreatKgcodec2
set_option maxRecDepth 100000
set_option linter.unusedVariables false
set_option linter.unusedSimpArgs false
namespace Go.Wk.Fcodec3
open Go Go.RowKit Go.Proofs Go.Wk
theorem elt5 : Elt Tryz.prog 5 (.int .u8 (0)) 1 1:=Elt.of (by kernel_rfl) (by rfl) (by decide) (by decide)
end Go.Wk.Fcodec3
namespace Go.Wk
open Go Go.RowKit Go.Proofs Fcodec3 
theorem little_spec (b : List UInt8) (u n : Nat) (a : Option Addr) (c : Nat) (hu : u < 4294967296) (hn : n≤100) (hb : b.length≤1099511627776) : Spec Tryz.prog 49 #[.slice a (b.length) c,.int .u32 (u),.int .i64 ((n : Int))] [.own 5 kByte a c (b)] (β:=Option Addr × Nat) (fun y => .slice y.1 ((b ++ Cod.le u n).length) y.2) (fun y => True) (fun y => [.own 5 kByte y.1 y.2 (b ++ Cod.le u n)]):=by
 refine Spec.enter (vs:=[_,_,_]) Tryz.func49 rfl Tryz.ntmps49 rfl (Nat.le_of_ble_eq_true rfl) (fun w0 ok0 => ?_)
 generalize hM0 : blks _ = M0
 refine H_seq ?_
 refine H_region (l:=[_]) rfl ?_
 refine HO_assign rfl rfl rfl ?_
 refine HO_nil ?_
 refine H_env (ρ':=[(0,_),(1,_),(2,_)]) ⟨rfl,rfl,rfl,trivial⟩ ?_
 refine H_seq ?_
 refine H_seq ?_
 refine H_region (l:=[_,_]) rfl ?_
 iterate 2 refine HO_move rfl rfl rfl ?_
 refine HO_nil ?_
 refine H_env (ρ':=[(8,_),(7,_),(0,_),(1,_)]) ⟨rfl,rfl,rfl,rfl,trivial⟩ ?_
 refine H_block ?_
 refine H_loop (σ:=Nat × Nat × List UInt8 × Option Addr × Nat) (fun s => s.2.2.1 ++ Cod.le s.2.1 (n - s.1) = b ++ Cod.le u n∧s.1≤n∧s.2.1 < 4294967296) (fun s => [(0,.slice s.2.2.2.1 (s.2.2.1.length) s.2.2.2.2),(1,.int .u32 ((s.2.1 : Int))),(7,.int .i64 ((n : Int))),(8,.int .i64 ((s.1 : Int)))]) (fun s => Asn w0 ok0 M0 [.own 5 kByte s.2.2.2.1 s.2.2.2.2 (s.2.2.1)]) (fun s => n - s.1) ⟨0,u,b,a,c⟩ ?_ ?_ ?_ ?_
 ·exact ⟨rfl,Nat.zero_le _,hu⟩
 ·exact ⟨rfl,rfl,rfl,rfl,trivial⟩
 ·intro w hA
  exact hA.only (is:=[0]) (Z:=[]) rfl
 ·rintro ⟨i,v,l,a,c⟩ hI
  (try dsimp only at hI ⊢)
  refine H_seq ?_
  refine H_region (l:=[_]) rfl ?_
  refine HO_bin rfl rfl rfl rfl bin_lss ?_
  refine HO_nil ?_
  refine H_seq ?_
  refine H_cond rfl ?_ ?_
  ·intro h9
   replace h9:=dT h9
   refine H_skip ?_
   refine H_seq ?_
   refine H_block ?_
   refine H_region (l:=[_,_,_,_,_,_,_,_,_]) rfl ?_
   iterate 2 refine HO_move rfl rfl rfl ?_
   refine HO_conv rfl rfl rfl (cv_int Tryz.underlying89 Tryz.underlying5 (wrap_u rfl _)) ?_
   refine HO_set (v':=.int .u8 (((UInt8.ofNat v).toNat : Int))) 12 rfl (by exact byte_eq rfl) ?_
   refine HO_buildSlice (kd:=kByte) (xo:=[_]) (vs:=[_]) (cs:=[_]) (xs:=[_]) rfl rfl rfl rfl Tryz.underlying32 elt5 rfl rfl rfl (by decide) (by decide) (by simp [Value.cells]) rfl (fun _ _ _ => ⟨_,_,rfl,⟨rfl,trivial⟩,rfl⟩) ?_
   intro g13
   refine HO_append (i:=1) (R:=[_]) rfl rfl rfl rfl rfl Tryz.underlying32 elt5 rfl rfl (SrcOk.own (j:=0) Tryz.underlying32 rfl rfl) ?_ ?_
   ·(simp only [List.length_cons,List.length_nil];have:=congrArg List.length hI.1;simp only [List.length_append,Cod.le_length] at this;omega)
   intro a14 c14
   refine HO_move rfl rfl rfl ?_
   refine HO_bin rfl rfl rfl rfl (bin_shr (s:=8) ?_) ?_
   ·(simp only [IntKind.bits];omega)
   iterate 2 refine HO_assign rfl rfl rfl ?_
   refine HO_nil ?_
   refine H_env (ρ':=[(1,_),(0,_),(7,_),(8,_)]) ⟨rfl,rfl,rfl,rfl,trivial⟩ ?_
   refine H_world (kp [yy,nn] [_] rfl) ?_
   refine H_blk ?_
   refine H_region (l:=[_,_]) rfl ?_
   refine HO_bin rfl rfl rfl rfl (bin_add ?_ ?_) ?_
   ·omega
   ·omega
   refine HO_move rfl rfl rfl ?_
   refine HO_nil ?_
   refine H_env (ρ':=[(8,_),(1,_),(0,_),(7,_)]) ⟨rfl,rfl,rfl,rfl,trivial⟩ ?_
   refine H_inv (fun a w hf hA => ⟨⟨i + 1,v / 2 ^ 8,l ++ [UInt8.ofNat v],a14,c14⟩,?_,?_,hf.sub ?_,?_⟩)
   ·exact ⟨by rw [← hI.1];obtain ⟨q,hq⟩ : ∃ q,n - i = q + 1:=⟨n - i - 1,by omega⟩;rw [hq,show n - (i + 1) = q by omega];simp [Cod.le],by omega,by have h3:=hI.2.2;show v / 2 ^ 8 < _;omega⟩
   ·(try dsimp only);omega
   ·exact ⟨rfl,rfl,rfl,rfl,trivial⟩
   ·exact hA.only (is:=[0]) (Z:=[]) rfl
  intro h9
  replace h9:=dF h9
  refine H_exit rfl ?_
  refine H_seq ?_
  refine H_region (l:=[_,_]) rfl ?_
  refine HO_move rfl rfl rfl ?_
  refine HO_assign rfl rfl rfl ?_
  refine HO_nil ?_
  refine H_env (ρ':=[(6,_)]) ⟨rfl,trivial⟩ ?_
  obtain rfl : i = n:=by omega
  have hI1:=hI.1
  simp only [Nat.sub_self,Cod.le,List.append_nil] at hI1
  subst hI1
  refine H_ret1 Tryz.results49 (.tmp rfl) (fun w hA => ⟨(a,c),congrArg Ending.returned ?_,?_,?_⟩)
  ·rfl
  ·trivial
  ·exact hA.keep (m:=[yy]) (Y:=[_]) rfl
theorem whole_spec (b : List UInt8) (a : Option Addr) (c : Nat) (hb : b.length≤4) : Spec Tryz.prog 67 #[.slice a (b.length) c] [.dat kByte.sl (b) [.slice a (b.length) c]] (β:=Unit) (fun y => .int .u32 ((Cod.wh b : Int))) (fun y => True) (fun y => []):=by
 refine Spec.enter (vs:=[_]) Tryz.func67 rfl Tryz.ntmps67 rfl (Nat.le_of_ble_eq_true rfl) (fun w0 ok0 => ?_)
 generalize hM0 : blks _ = M0
 have hMn:=@noM _ _ hM0 (by simp [Atom.dat,Atom.elem])
 refine H_seq ?_
 refine H_region (l:=[_]) rfl ?_
 refine HO_assign rfl rfl rfl ?_
 refine HO_nil ?_
 refine H_env (ρ':=[(0,_)]) ⟨rfl,trivial⟩ ?_
 refine H_seq ?_
 refine H_region (l:=[_]) rfl ?_
 refine HO_assign rfl rfl rfl ?_
 refine HO_nil ?_
 refine H_seq ?_
 refine H_seq ?_
 refine H_region (l:=[_,_,_]) rfl ?_
 refine HO_move rfl rfl rfl ?_
 refine HO_bi rfl rfl rfl (bi_len_sl Tryz.underlying32) ?_
 refine HO_move rfl rfl rfl ?_
 refine HO_nil ?_
 refine H_env (ρ':=[(7,_),(6,_),(3,_),(0,_)]) ⟨rfl,rfl,rfl,rfl,trivial⟩ ?_
 refine H_block ?_
 refine H_loop (σ:=Nat) (fun s => s≤b.length) (fun s => [(0,.slice a (b.length) c),(3,.int .u32 ((Cod.wh (List.take s b) : Int))),(6,.int .i64 ((b.length : Int))),(7,.int .i64 ((s : Int)))]) (fun s => Asn w0 ok0 M0 [.dat kByte.sl (b) [.slice a (b.length) c]]) (fun s => b.length - s) 0 ?_ ?_ ?_ ?_
 ·exact Nat.zero_le _
 ·exact ⟨rfl,rfl,rfl,rfl,trivial⟩
 ·intro w hA
  exact hA.only (is:=[0]) (Z:=[]) rfl
 ·intro i hI
  (try dsimp only at hI ⊢)
  refine H_seq ?_
  refine H_region (l:=[_]) rfl ?_
  refine HO_bin rfl rfl rfl rfl bin_lss ?_
  refine HO_nil ?_
  refine H_seq ?_
  refine H_cond rfl ?_ ?_
  ·intro h8
   replace h8:=dT h8
   refine H_skip ?_
   refine H_seq ?_
   refine H_block ?_
   refine H_seq ?_
   refine H_region (l:=[_,_]) rfl ?_
   refine HO_move rfl rfl rfl ?_
   refine HO_assign rfl rfl rfl ?_
   refine HO_nil ?_
   refine H_env (ρ':=[(4,_),(0,_),(3,_),(6,_),(7,_)]) ⟨rfl,rfl,rfl,rfl,rfl,trivial⟩ ?_
   refine H_region (l:=[_,_,_,_,_,_,_,_,_,_,_]) rfl ?_
   iterate 3 refine HO_move rfl rfl rfl ?_
   refine HO_indexAddr open_byte (i:=0) rfl rfl rfl rfl rfl Tryz.underlying32 Tryz.sizeOf5 rfl ?_ ?_
   ·omega
   intro b13 o13 z13 y13 hz13 hI13
   clear y13 hI13
   refine HO_load1 (i:=0) (j:=0) rfl rfl rfl Tryz.isAgg5 rfl (.elem _ _ _) rfl rfl ?_
   refine HO_conv rfl rfl rfl (cv_int Tryz.underlying5 Tryz.underlying89 (wrap_u_lt rfl ?_)) ?_
   ·(have:=z13.toNat_lt;simp only [IntKind.bits];omega)
   refine HO_move rfl rfl rfl ?_
   refine HO_bin rfl rfl rfl rfl (bin_mul ?_ ?_) ?_
   ·omega
   ·omega
   refine HO_bin rfl rfl rfl rfl (bin_shl' rfl ?_) ?_
   ·omega
   refine HO_bin rfl rfl rfl rfl (bin_or rfl ?_ ?_) ?_
   ·(have:=Cod.wh_lt (List.take i b);have h2 : (List.take i b).length≤4:=(by simp;omega);exact Nat.lt_of_lt_of_le this (Nat.pow_le_pow_right (by decide) (by simp only [IntKind.bits];omega)))
   ·(exact Nat.mod_lt _ (Nat.two_pow_pos _))
   refine HO_set (v':=.int .u32 ((Cod.wh (List.take (i + 1) b) : Int))) 19 rfl (by exact congrArg (fun m : Nat => Value.int .u32 (m : Int)) (by have h8 : (8 * (i : Int)).toNat = 8 * i:=(by omega);rw [h8];exact Cod.wh_take hz13 (by simp only [IntKind.bits];omega))) ?_
   refine HO_assign rfl rfl rfl ?_
   refine HO_nil ?_
   refine H_env (ρ':=[(3,_),(0,_),(6,_),(7,_)]) ⟨rfl,rfl,rfl,rfl,trivial⟩ ?_
   refine H_world (kp [nn,yy] [_] rfl) ?_
   refine H_blk ?_
   refine H_region (l:=[_,_]) rfl ?_
   refine HO_bin rfl rfl rfl rfl (bin_add ?_ ?_) ?_
   ·omega
   ·omega
   refine HO_move rfl rfl rfl ?_
   refine HO_nil ?_
   refine H_env (ρ':=[(7,_),(3,_),(0,_),(6,_)]) ⟨rfl,rfl,rfl,rfl,trivial⟩ ?_
   refine H_inv (fun a w hf hA => ⟨i + 1,?_,?_,hf.sub ?_,?_⟩)
   ·omega
   ·(try dsimp only);omega
   ·exact ⟨rfl,rfl,rfl,rfl,trivial⟩
   ·exact hA.only (is:=[0]) (Z:=[]) rfl
  intro h8
  replace h8:=dF h8
  refine H_exit rfl ?_
  refine H_seq ?_
  refine H_region (l:=[_,_]) rfl ?_
  refine HO_move rfl rfl rfl ?_
  refine HO_assign rfl rfl rfl ?_
  refine HO_nil ?_
  refine H_env (ρ':=[(2,_)]) ⟨rfl,trivial⟩ ?_
  refine H_world (kp [nn] [] rfl) ?_
  obtain rfl : i = b.length:=by omega
  rw [List.take_length]
  refine H_ret1 Tryz.results67 (.tmp rfl) (fun w hA => ⟨(),congrArg Ending.returned ?_,?_,?_⟩)
  ·rfl
  ·trivial
  ·exact hA.keep (m:=[]) (Y:=[]) rfl
theorem Sum_spec (b : List UInt8) (a : Option Addr) (c : Nat)  : Spec Tryz.prog 50 #[.slice a (b.length) c] [.dat kByte.sl (b) [.slice a (b.length) c]] (β:=Unit) (fun y => .int .u32 ((Cod.crc b : Int))) (fun y => True) (fun y => []):=by
 refine Spec.enter (vs:=[_]) Tryz.func50 rfl Tryz.ntmps50 rfl (Nat.le_of_ble_eq_true rfl) (fun w0 ok0 => ?_)
 generalize hM0 : blks _ = M0
 have hMn:=@noM _ _ hM0 (by simp [Atom.dat,Atom.elem])
 refine H_seq ?_
 refine H_region (l:=[_]) rfl ?_
 refine HO_assign rfl rfl rfl ?_
 refine HO_nil ?_
 refine H_env (ρ':=[(0,_)]) ⟨rfl,trivial⟩ ?_
 refine H_seq ?_
 refine H_region (l:=[_]) rfl ?_
 refine HO_assign rfl rfl rfl ?_
 refine HO_nil ?_
 refine H_seq ?_
 refine H_seq ?_
 refine H_len_le (i:=0) rfl (fun hlen => ?_)
 refine H_region (l:=[_,_,_]) rfl ?_
 refine HO_move rfl rfl rfl ?_
 refine HO_bi rfl rfl rfl (bi_len_sl Tryz.underlying32) ?_
 refine HO_move rfl rfl rfl ?_
 refine HO_nil ?_
 refine H_env (ρ':=[(8,_),(7,_),(6,_),(3,_)]) ⟨rfl,rfl,rfl,rfl,trivial⟩ ?_
 refine H_block ?_
 refine H_loop (σ:=Nat) (fun s => s≤b.length) (fun s => [(6,.slice a (b.length) c),(3,.int .u32 ((Cod.crcS 4294967295 (List.take s b) : Int))),(7,.int .i64 ((b.length : Int))),(8,.int .i64 ((s : Int)))]) (fun s => Asn w0 ok0 M0 [.dat kByte.sl (b) [.slice a (b.length) c]]) (fun s => b.length - s) 0 ?_ ?_ ?_ ?_
 ·exact Nat.zero_le _
 ·exact ⟨rfl,rfl,rfl,rfl,trivial⟩
 ·intro w hA
  exact hA.only (is:=[0]) (Z:=[]) rfl
 ·intro i hI
  (try dsimp only at hI ⊢)
  refine H_seq ?_
  refine H_region (l:=[_]) rfl ?_
  refine HO_bin rfl rfl rfl rfl bin_lss ?_
  refine HO_nil ?_
  refine H_seq ?_
  refine H_cond rfl ?_ ?_
  ·intro h9
   replace h9:=dT h9
   refine H_skip ?_
   refine H_seq ?_
   refine H_block ?_
   refine H_seq ?_
   refine H_region (l:=[_,_,_]) rfl ?_
   refine HO_indexAddr open_byte (i:=0) rfl rfl rfl rfl rfl Tryz.underlying32 Tryz.sizeOf5 rfl ?_ ?_
   ·omega
   intro b10 o10 z10 y10 hz10 hI10
   clear y10 hI10
   refine HO_load1 (i:=0) (j:=0) rfl rfl rfl Tryz.isAgg5 rfl (.elem _ _ _) rfl rfl ?_
   refine HO_assign rfl rfl rfl ?_
   refine HO_nil ?_
   refine H_env (ρ':=[(5,_),(6,_),(3,_),(7,_),(8,_)]) ⟨rfl,rfl,rfl,rfl,rfl,trivial⟩ ?_
   refine H_world (kp [nn,yy] [_] rfl) ?_
   refine H_seq ?_
   refine H_region (l:=[_,_,_,_,_]) rfl ?_
   iterate 2 refine HO_move rfl rfl rfl ?_
   refine HO_conv rfl rfl rfl (cv_int Tryz.underlying5 Tryz.underlying89 (wrap_u_lt rfl ?_)) ?_
   ·(have:=z10.toNat_lt;simp only [IntKind.bits];omega)
   refine HO_bin rfl rfl rfl rfl (bin_xor rfl ?_ ?_) ?_
   ·(have:=Cod.crcS_lt (c:=4294967295) (by decide) (List.take i b);simpa [IntKind.bits] using this)
   ·(have:=z10.toNat_lt;simp only [IntKind.bits];omega)
   refine HO_assign rfl rfl rfl ?_
   refine HO_nil ?_
   refine H_env (ρ':=[(3,_),(6,_),(7,_),(8,_)]) ⟨rfl,rfl,rfl,rfl,trivial⟩ ?_
   refine H_seq ?_
   refine H_region (l:=[_]) rfl ?_
   refine HO_move rfl rfl rfl ?_
   refine HO_nil ?_
   refine H_block ?_
   refine H_loop (σ:=Nat) (fun s => s≤8) (fun s => [(6,.slice a (b.length) c),(3,.int .u32 ((Cod.iter Cod.step1 s (Cod.crcS 4294967295 (List.take i b) ^^^ z10.toNat) : Int))),(7,.int .i64 ((b.length : Int))),(8,.int .i64 ((i : Int))),(16,.int .i64 ((s : Int)))]) (fun s => Asn w0 ok0 M0 [.dat kByte.sl (b) [.slice a (b.length) c]]) (fun s => 8 - s) 0 ?_ ?_ ?_ ?_
   ·exact Nat.zero_le _
   ·exact ⟨rfl,rfl,rfl,rfl,rfl,trivial⟩
   ·intro w hA
    exact hA.only (is:=[0]) (Z:=[]) rfl
   ·intro j hI
    (try dsimp only at hI ⊢)
    refine H_seq ?_
    refine H_region (l:=[_]) rfl ?_
    refine HO_bin rfl rfl rfl rfl bin_lss ?_
    refine HO_nil ?_
    refine H_seq ?_
    refine H_cond rfl ?_ ?_
    ·intro h17
     replace h17:=dT h17
     refine H_skip ?_
     refine H_seq ?_
     refine H_block ?_
     refine H_region (l:=[_,_,_,_,_,_,_,_]) rfl ?_
     refine HO_move rfl rfl rfl ?_
     refine HO_bin rfl rfl rfl rfl (bin_shr (s:=1) ?_) ?_
     ·(have:=Cod.iter_lt (c:=Cod.crcS 4294967295 (List.take i b) ^^^ z10.toNat) (Cod.xor_byte_lt (Cod.crcS_lt (by decide) _) _) j;simpa [IntKind.bits] using this)
     refine HO_move rfl rfl rfl ?_
     refine HO_bin rfl rfl rfl rfl (bin_and rfl ?_ ?_) ?_
     ·(have:=Cod.iter_lt (c:=Cod.crcS 4294967295 (List.take i b) ^^^ z10.toNat) (Cod.xor_byte_lt (Cod.crcS_lt (by decide) _) _) j;simpa [IntKind.bits] using this)
     ·decide
     refine HO_negu rfl rfl rfl rfl ?_ ?_
     ·(exact Nat.lt_of_le_of_lt Nat.and_le_right (by decide))
     refine HO_bin rfl rfl rfl rfl (bin_and rfl ?_ ?_) ?_
     ·(show 2197175160 < 2 ^ 32;decide)
     ·(exact Nat.mod_lt _ (Nat.two_pow_pos _))
     refine HO_bin rfl rfl rfl rfl (bin_xor rfl ?_ ?_) ?_
     ·(have:=Cod.iter_lt (c:=Cod.crcS 4294967295 (List.take i b) ^^^ z10.toNat) (Cod.xor_byte_lt (Cod.crcS_lt (by decide) _) _) j;simp only [IntKind.bits];omega)
     ·(exact Nat.lt_of_le_of_lt Nat.and_le_left (by decide))
     refine HO_set (v':=.int .u32 ((Cod.iter Cod.step1 (j + 1) (Cod.crcS 4294967295 (List.take i b) ^^^ z10.toNat) : Int))) 24 rfl (by rfl) ?_
     refine HO_assign rfl rfl rfl ?_
     refine HO_nil ?_
     refine H_env (ρ':=[(3,_),(6,_),(7,_),(8,_),(16,_)]) ⟨rfl,rfl,rfl,rfl,rfl,trivial⟩ ?_
     refine H_blk ?_
     refine H_region (l:=[_,_]) rfl ?_
     refine HO_bin rfl rfl rfl rfl (bin_add ?_ ?_) ?_
     ·omega
     ·omega
     refine HO_move rfl rfl rfl ?_
     refine HO_nil ?_
     refine H_env (ρ':=[(16,_),(3,_),(6,_),(7,_),(8,_)]) ⟨rfl,rfl,rfl,rfl,rfl,trivial⟩ ?_
     refine H_inv (fun a w hf hA => ⟨j + 1,?_,?_,hf.sub ?_,?_⟩)
     ·omega
     ·(try dsimp only);omega
     ·exact ⟨rfl,rfl,rfl,rfl,rfl,trivial⟩
     ·exact hA.only (is:=[0]) (Z:=[]) rfl
    intro h17
    replace h17:=dF h17
    refine H_exit rfl ?_
    refine H_blk ?_
    have hj : j = 8:=by omega
    subst hj
    refine H_region (l:=[_,_]) rfl ?_
    refine HO_bin rfl rfl rfl rfl (bin_add ?_ ?_) ?_
    ·omega
    ·omega
    refine HO_move rfl rfl rfl ?_
    refine HO_nil ?_
    refine H_env (ρ':=[(8,_),(6,_),(3,_),(7,_)]) ⟨rfl,rfl,rfl,rfl,trivial⟩ ?_
    refine H_inv (fun a w hf hA => ⟨i + 1,?_,?_,hf.sub ?_,?_⟩)
    ·omega
    ·(try dsimp only);omega
    ·exact ⟨rfl,congrArg (fun m : Nat => some (Value.int .u32 (m : Int))) (Cod.crcS_take hz10),rfl,rfl,trivial⟩
    ·exact hA.only (is:=[0]) (Z:=[]) rfl
  intro h9
  replace h9:=dF h9
  refine H_exit rfl ?_
  refine H_seq ?_
  have hi : i = b.length:=by omega
  subst hi
  rw [List.take_length]
  refine H_region (l:=[_,_,_]) rfl ?_
  refine HO_move rfl rfl rfl ?_
  refine HO_compl rfl rfl rfl rfl ?_ ?_
  ·(have:=Cod.crcS_lt (c:=4294967295) (by decide) b;simpa [IntKind.bits] using this)
  refine HO_assign rfl rfl rfl ?_
  refine HO_nil ?_
  refine H_env (ρ':=[(2,_)]) ⟨rfl,trivial⟩ ?_
  refine H_world (kp [nn] [] rfl) ?_
  refine H_ret1 Tryz.results50 (.tmp rfl) (fun w hA => ⟨(),congrArg Ending.returned ?_,?_,?_⟩)
  ·rfl
  ·trivial
  ·exact hA.keep (m:=[]) (Y:=[]) rfl
theorem Frame_spec (b : List UInt8) (a : Option Addr) (c : Nat) (hb : b.length≤1099511627776) : Spec Tryz.prog 30 #[.slice a (b.length) c] [.dat kByte.sl (b) [.slice a (b.length) c]] (β:=Option Addr × Nat) (fun y => .slice y.1 ((Cod.frame b).length) y.2) (fun y => True) (fun y => [.own 5 kByte y.1 y.2 (Cod.frame b)]):=by
 refine Spec.enter (vs:=[_]) Tryz.func30 rfl Tryz.ntmps30 rfl (Nat.le_of_ble_eq_true rfl) (fun w0 ok0 => ?_)
 generalize hM0 : blks _ = M0
 have hMn:=@noM _ _ hM0 (by simp [Atom.dat,Atom.elem])
 refine H_seq ?_
 refine H_region (l:=[_]) rfl ?_
 refine HO_assign rfl rfl rfl ?_
 refine HO_nil ?_
 refine H_env (ρ':=[(0,_)]) ⟨rfl,trivial⟩ ?_
 refine H_seq ?_
 refine H_seq ?_
 refine H_region (l:=[_,_,_]) rfl ?_
 refine HO_move rfl rfl rfl ?_
 refine HO_bi rfl rfl rfl (bi_len_sl Tryz.underlying32) ?_
 refine HO_bin rfl rfl rfl rfl bin_gtr ?_
 refine HO_nil ?_
 refine H_env (ρ':=[(6,_),(0,_)]) ⟨rfl,rfl,trivial⟩ ?_
 refine H_cond rfl ?_ ?_
 ·intro h6
  replace h6:=dT h6
  have hfr : Cod.frame b = []:=if_pos (by omega)
  refine H_seq ?_
  refine H_region (l:=[_]) rfl ?_
  refine HO_assign rfl rfl rfl ?_
  refine HO_nil ?_
  refine H_env (ρ':=[(2,_)]) ⟨rfl,trivial⟩ ?_
  refine H_world (kp [nn] [] rfl) ?_
  refine H_own0 kByte 5 none ?_
  refine H_ret1 Tryz.results30 (.tmp rfl) (fun w hA => ⟨(none,0),congrArg Ending.returned ?_,?_,?_⟩)
  ·(rw [hfr];rfl)
  ·trivial
  ·(rw [hfr];exact hA.keep (m:=[yy]) (Y:=[_]) rfl)
 intro h6
 replace h6:=dF h6
 have hfr : Cod.frame b = (197 :: (Cod.le b.length 3 ++ b)) ++ Cod.le (Cod.crc (197 :: (Cod.le b.length 3 ++ b))) 4:=if_neg (by omega)
 refine H_skip ?_
 refine H_seq ?_
 refine H_region (l:=[_,_,_,_,_,_]) rfl ?_
 refine HO_buildSlice (kd:=kByte) (xo:=[_]) (vs:=[_]) (cs:=[_]) (xs:=[(197 : UInt8)]) rfl rfl rfl rfl Tryz.underlying32 elt5 rfl rfl rfl (by decide) (by decide) (by simp [Value.cells]) rfl (fun _ _ _ => ⟨_,_,rfl,⟨rfl,trivial⟩,rfl⟩) ?_
 intro g7
 refine HO_move rfl rfl rfl ?_
 refine HO_bi rfl rfl rfl (bi_len_sl Tryz.underlying32) ?_
 refine HO_conv rfl rfl rfl (cv_int Tryz.underlying3 Tryz.underlying89 (wrap_u_i rfl _)) ?_
 refine HO_set (v':=.int .u32 ((b.length : Int))) 10 rfl (by exact congrArg (Value.int .u32) (by simp only [IntKind.bits];omega)) ?_
 refine HO_call (first:=[]) (capt:=[]) (is:=[0]) (R:=[_]) rfl rfl rfl rfl rfl Tryz.call49 rfl (little_spec _ _ _ _ _ ?_ ?_ ?_) ?_
 ·omega
 ·decide
 ·(simp only [List.length_append,List.length_cons,List.length_nil,Cod.le_length];omega)
 intro y11 hy11
 refine HO_assign rfl rfl rfl ?_
 refine HO_nil ?_
 refine H_env (ρ':=[(3,_),(0,_)]) ⟨rfl,rfl,trivial⟩ ?_
 refine H_seq ?_
 refine H_region (l:=[_,_,_,_]) rfl ?_
 iterate 2 refine HO_move rfl rfl rfl ?_
 refine HO_append (i:=0) (R:=[_]) rfl rfl rfl rfl rfl Tryz.underlying32 elt5 rfl rfl (SrcOk.dat (j:=0) Tryz.underlying32 rfl) ?_ ?_
 ·(simp only [List.length_append,List.length_cons,List.length_nil,Cod.le_length];omega)
 intro a14 c14
 refine HO_assign rfl rfl rfl ?_
 refine HO_nil ?_
 refine H_env (ρ':=[(3,_)]) ⟨rfl,trivial⟩ ?_
 refine H_world (kp [yy,nn] [_] rfl) ?_
 refine H_seq ?_
 refine H_region (l:=[_,_,_,_,_]) rfl ?_
 iterate 2 refine HO_move rfl rfl rfl ?_
 refine HO_call (first:=[]) (capt:=[]) (is:=[0]) (R:=[]) rfl rfl rfl rfl rfl Tryz.call50 rfl (Spec.lend (pre1:=[]) (pre2:=[]) (Sum_spec _ _ _) rfl (fun _ _ ha => nomatch ha)) ?_
 intro y17 hy17
 clear y17 hy17
 refine HO_call (first:=[]) (capt:=[]) (is:=[0]) (R:=[]) rfl rfl rfl rfl rfl Tryz.call49 rfl (little_spec _ _ _ _ _ ?_ ?_ ?_) ?_
 ·(exact Cod.crc_lt _)
 ·decide
 ·(simp only [List.length_append,List.length_cons,List.length_nil,Cod.le_length];omega)
 intro y18 hy18
 refine HO_assign rfl rfl rfl ?_
 refine HO_nil ?_
 refine H_env (ρ':=[(2,_)]) ⟨rfl,trivial⟩ ?_
 refine H_ret1 Tryz.results30 (.tmp rfl) (fun w hA => ⟨y18,congrArg Ending.returned ?_,?_,?_⟩)
 ·(rw [hfr];rfl)
 ·trivial
 ·(rw [hfr];exact hA.keep (m:=[yy]) (Y:=[_]) rfl)
theorem Unframe_spec (b : List UInt8) (a : Option Addr) (c : Nat) (hb : b.length≤1099511627776) : Spec Tryz.prog 37 #[.slice a (b.length) c] [.dat kByte.sl (b) [.slice a (b.length) c]] (β:=Option Addr × Nat) (fun y => .tuple #[.slice y.1 ((Cod.unframe b).1.length) y.2,.int .i64 (((Cod.unframe b).2.1 : Int)),.int .i64 (((Cod.unframe b).2.2 : Int))]) (fun y => True) (fun y => [.own 5 kByte y.1 y.2 ((Cod.unframe b).1)]):=by
 have hu:=Cod.unframe.eq_1 b
 refine Spec.enter (vs:=[_]) Tryz.func37 rfl Tryz.ntmps37 rfl (Nat.le_of_ble_eq_true rfl) (fun w0 ok0 => ?_)
 generalize hM0 : blks _ = M0
 have hMn:=@noM _ _ hM0 (by simp [Atom.dat,Atom.elem])
 refine H_seq ?_
 refine H_region (l:=[_,_,_]) rfl ?_
 iterate 3 refine HO_assign rfl rfl rfl ?_
 refine HO_nil ?_
 refine H_env (ρ':=[(0,_)]) ⟨rfl,trivial⟩ ?_
 refine H_seq ?_
 refine H_block ?_
 refine H_seq ?_
 refine H_region (l:=[_,_,_,_]) rfl ?_
 refine HO_move rfl rfl rfl ?_
 refine HO_bi rfl rfl rfl (bi_len_sl Tryz.underlying32) ?_
 refine HO_bin rfl rfl rfl rfl bin_eql ?_
 refine HO_assign rfl rfl rfl ?_
 refine HO_nil ?_
 refine H_env (ρ':=[(7,_),(0,_)]) ⟨rfl,rfl,trivial⟩ ?_
 refine H_cond rfl ?_ ?_
 ·intro h7
  replace h7:=dT h7
  rw [if_pos (by omega)] at hu
  refine H_seq ?_
  refine H_region (l:=[_,_,_]) rfl ?_
  iterate 3 refine HO_assign rfl rfl rfl ?_
  refine HO_nil ?_
  refine H_env (ρ':=[(4,_),(3,_),(2,_)]) ⟨rfl,rfl,rfl,trivial⟩ ?_
  refine H_world (kp [nn] [] rfl) ?_
  refine H_own0 kByte 5 none ?_
  refine H_ret3 Tryz.results37 (.tmp rfl) (.tmp rfl) (.tmp rfl) (fun w hA => ⟨(none,0),congrArg Ending.returned ?_,?_,?_⟩)
  ·(rw [hu];rfl)
  ·trivial
  ·(rw [hu];exact hA.keep (m:=[yy]) (Y:=[_]) rfl)
 intro h7
 replace h7:=dF h7
 rw [if_neg (by omega)] at hu
 refine H_seq ?_
 refine H_region (l:=[_,_,_,_,_]) rfl ?_
 refine HO_move rfl rfl rfl ?_
 refine HO_indexAddr open_byte (i:=0) (j:=0) rfl rfl rfl rfl rfl Tryz.underlying32 Tryz.sizeOf5 rfl ?_ ?_
 ·omega
 intro b13 o13 z13 y13 hz13 hI13
 clear y13 hI13
 refine HO_load1 (i:=0) (j:=0) rfl rfl rfl Tryz.isAgg5 rfl (.elem _ _ _) rfl rfl ?_
 refine HO_bin rfl rfl rfl rfl bin_neq ?_
 refine HO_assign rfl rfl rfl ?_
 refine HO_nil ?_
 refine H_env (ρ':=[(11,_),(0,_)]) ⟨rfl,rfl,trivial⟩ ?_
 refine H_world (kp [nn,yy] [_] rfl) ?_
 refine H_cond rfl ?_ ?_
 ·intro h11
  replace h11:=dT h11
  rw [if_pos (by rw [Cod.head_at hz13];intro h;apply h11;rw [Option.some.inj h];rfl)] at hu
  refine H_seq ?_
  refine H_region (l:=[_,_,_]) rfl ?_
  iterate 3 refine HO_assign rfl rfl rfl ?_
  refine HO_nil ?_
  refine H_env (ρ':=[(4,_),(3,_),(2,_)]) ⟨rfl,rfl,rfl,trivial⟩ ?_
  refine H_world (kp [nn] [] rfl) ?_
  refine H_own0 kByte 5 none ?_
  refine H_ret3 Tryz.results37 (.tmp rfl) (.tmp rfl) (.tmp rfl) (fun w hA => ⟨(none,0),congrArg Ending.returned ?_,?_,?_⟩)
  ·(rw [hu];rfl)
  ·trivial
  ·(rw [hu];exact hA.keep (m:=[yy]) (Y:=[_]) rfl)
 intro h11
 replace h11:=dF h11
 rw [if_neg (by rw [Cod.head_at hz13];intro h;exact h (congrArg some (Cod.byte_of (by omega))))] at hu
 refine H_seq ?_
 refine H_region (l:=[_,_,_,_]) rfl ?_
 refine HO_move rfl rfl rfl ?_
 refine HO_bi rfl rfl rfl (bi_len_sl Tryz.underlying32) ?_
 refine HO_bin rfl rfl rfl rfl bin_lss ?_
 refine HO_assign rfl rfl rfl ?_
 refine HO_nil ?_
 refine H_env (ρ':=[(16,_),(0,_)]) ⟨rfl,rfl,trivial⟩ ?_
 refine H_cond rfl ?_ ?_
 ·intro h16
  replace h16:=dT h16
  rw [if_pos (by omega)] at hu
  refine H_seq ?_
  refine H_region (l:=[_,_,_]) rfl ?_
  iterate 3 refine HO_assign rfl rfl rfl ?_
  refine HO_nil ?_
  refine H_env (ρ':=[(4,_),(3,_),(2,_)]) ⟨rfl,rfl,rfl,trivial⟩ ?_
  refine H_world (kp [nn] [] rfl) ?_
  refine H_own0 kByte 5 none ?_
  refine H_ret3 Tryz.results37 (.tmp rfl) (.tmp rfl) (.tmp rfl) (fun w hA => ⟨(none,0),congrArg Ending.returned ?_,?_,?_⟩)
  ·(rw [hu];rfl)
  ·trivial
  ·(rw [hu];exact hA.keep (m:=[yy]) (Y:=[_]) rfl)
 intro h16
 replace h16:=dF h16
 rw [if_neg (by omega)] at hu
 refine H_skip ?_
 refine H_blk ?_
 refine H_seq ?_
 refine H_region (l:=[_,_,_,_,_]) rfl ?_
 refine HO_move rfl rfl rfl ?_
 refine HO_slice_lh (i:=0) (l:=1) (h':=4) rfl rfl rfl rfl rfl rfl rfl Tryz.underlying32 Tryz.sizeOf5 rfl ?_ ?_ ?_
 ·omega
 ·omega
 intro a21 c21
 refine HO_dup (i:=0) rfl rfl ?_
 refine HO_call (first:=[]) (capt:=[]) (is:=[0]) (R:=[_,_]) rfl rfl rfl rfl rfl Tryz.call67 rfl (whole_spec _ _ _ ?_) ?_
 ·(simp only [List.length_drop,List.length_take];omega)
 intro y22 hy22
 clear y22 hy22
 refine HO_conv rfl rfl rfl (cv_int Tryz.underlying89 Tryz.underlying3 (wrap_i64_nat ?_)) ?_
 ·(have:=Cod.wh_lt (List.drop 1 (List.take 4 b));have h2 : (List.drop 1 (List.take 4 b)).length = 3:=(by simp;omega);rw [h2] at this;omega)
 refine HO_assign rfl rfl rfl ?_
 refine HO_nil ?_
 refine H_env (ρ':=[(5,_),(0,_)]) ⟨rfl,rfl,trivial⟩ ?_
 refine H_world (kp [nn,yy] [_] rfl) ?_
 refine H_seq ?_
 refine H_seq ?_
 have hw24:=Cod.wh_lt (List.drop 1 (List.take 4 b))
 have hl3 : (List.drop 1 (List.take 4 b)).length = 3:=by simp;omega
 rw [hl3] at hw24
 refine H_region (l:=[_,_,_]) rfl ?_
 refine HO_move rfl rfl rfl ?_
 refine HO_bin rfl rfl rfl rfl (bin_add ?_ ?_) ?_
 ·omega
 ·omega
 refine HO_assign rfl rfl rfl ?_
 refine HO_nil ?_
 refine H_env (ρ':=[(6,_),(5,_),(0,_)]) ⟨rfl,rfl,rfl,trivial⟩ ?_
 refine H_block ?_
 refine H_seq ?_
 refine H_region (l:=[_,_,_]) rfl ?_
 refine HO_move rfl rfl rfl ?_
 refine HO_bin rfl rfl rfl rfl bin_gtr ?_
 refine HO_assign rfl rfl rfl ?_
 refine HO_nil ?_
 refine H_env (ρ':=[(26,_),(6,_),(5,_),(0,_)]) ⟨rfl,rfl,rfl,rfl,trivial⟩ ?_
 refine H_cond rfl ?_ ?_
 ·intro h26
  replace h26:=dT h26
  rw [if_pos (by omega)] at hu
  refine H_seq ?_
  refine H_region (l:=[_,_,_]) rfl ?_
  iterate 3 refine HO_assign rfl rfl rfl ?_
  refine HO_nil ?_
  refine H_env (ρ':=[(4,_),(3,_),(2,_)]) ⟨rfl,rfl,rfl,trivial⟩ ?_
  refine H_world (kp [nn] [] rfl) ?_
  refine H_own0 kByte 5 none ?_
  refine H_ret3 Tryz.results37 (.tmp rfl) (.tmp rfl) (.tmp rfl) (fun w hA => ⟨(none,0),congrArg Ending.returned ?_,?_,?_⟩)
  ·(rw [hu];rfl)
  ·trivial
  ·(rw [hu];exact hA.keep (m:=[yy]) (Y:=[_]) rfl)
 intro h26
 replace h26:=dF h26
 rw [if_neg (by omega)] at hu
 refine H_seq ?_
 refine H_region (l:=[_,_,_,_,_,_]) rfl ?_
 refine HO_move rfl rfl rfl ?_
 refine HO_bi rfl rfl rfl (bi_len_sl Tryz.underlying32) ?_
 refine HO_move rfl rfl rfl ?_
 refine HO_bin rfl rfl rfl rfl (bin_add ?_ ?_) ?_
 ·omega
 ·omega
 refine HO_bin rfl rfl rfl rfl bin_lss ?_
 refine HO_assign rfl rfl rfl ?_
 refine HO_nil ?_
 refine H_env (ρ':=[(29,_),(6,_),(5,_),(0,_)]) ⟨rfl,rfl,rfl,rfl,trivial⟩ ?_
 refine H_cond rfl ?_ ?_
 ·intro h29
  replace h29:=dT h29
  rw [if_pos (by omega)] at hu
  refine H_seq ?_
  refine H_region (l:=[_,_,_]) rfl ?_
  iterate 3 refine HO_assign rfl rfl rfl ?_
  refine HO_nil ?_
  refine H_env (ρ':=[(4,_),(3,_),(2,_)]) ⟨rfl,rfl,rfl,trivial⟩ ?_
  refine H_world (kp [nn] [] rfl) ?_
  refine H_own0 kByte 5 none ?_
  refine H_ret3 Tryz.results37 (.tmp rfl) (.tmp rfl) (.tmp rfl) (fun w hA => ⟨(none,0),congrArg Ending.returned ?_,?_,?_⟩)
  ·(rw [hu];rfl)
  ·trivial
  ·(rw [hu];exact hA.keep (m:=[yy]) (Y:=[_]) rfl)
 intro h29
 replace h29:=dF h29
 rw [if_neg (by omega)] at hu
 refine H_seq ?_
 refine H_drawB (m:=[yy]) (Xs:=[_]) (fuel:=12) (l:=#[false,false,false,false,false,false,false,false,false,false,false,false]) mixed rfl rfl rfl ?_
 refine HA_take (i:=0) bp rfl rfl rfl rfl (by kernel_rfl) rfl (V_move rfl) (fun _ hA => hA) ?_
 refine HA_take (i:=1) bp rfl rfl rfl rfl (by kernel_rfl) rfl (V_move rfl) (fun _ hA => hA) ?_
 refine HA_take (i:=4) bp rfl rfl rfl rfl (by kernel_rfl) rfl (V_move rfl) (fun _ hA => hA) ?_
 refine HA_take (i:=5) bp rfl rfl rfl rfl (by kernel_rfl) rfl (V_move rfl) (fun _ hA => hA) ?_
 refine HA_take (i:=6) bp rfl rfl rfl rfl (by kernel_rfl) rfl (V_move rfl) (fun _ hA => hA) ?_
 refine HA_take (i:=7) bp rfl rfl rfl rfl (by kernel_rfl) rfl (V_bin rfl rfl (bin_add ?_ ?_)) (fun _ hA => hA) ?_
 ·omega
 ·omega
 refine HA_loud2 (i:=2) (j:=8) (by kernel_rfl) rfl rfl ?_ ?_
 ·refine HO_slice_h (i:=0) (h':=Cod.wh (List.drop 1 (List.take 4 b)) + 4) rfl rfl rfl rfl ?_ Tryz.underlying32 Tryz.sizeOf5 rfl ?_ ?_
  ·omega
  ·omega
  intro a38 c38
  refine HA_back rfl (kp [nn,yy] [_] rfl) ?_
  refine HA_loud2 (i:=3) (j:=8) (by kernel_rfl) rfl rfl ?_ ?_
  ·refine HO_dup (i:=0) rfl rfl ?_
   refine HO_call (first:=[]) (capt:=[]) (is:=[0]) (R:=[_,_]) rfl rfl rfl rfl rfl Tryz.call50 rfl (Sum_spec _ _ _) ?_
   intro y39 hy39
   clear y39 hy39
   refine HA_back rfl (kp [nn,yy] [_] rfl) ?_
   refine HA_loud1 (i:=8) (by kernel_rfl) rfl ?_
   refine HO_slice_lh (i:=1) (l:=Cod.wh (List.drop 1 (List.take 4 b)) + 4) (h':=Cod.wh (List.drop 1 (List.take 4 b)) + 4 + 4) rfl rfl rfl rfl rfl ?_ ?_ Tryz.underlying32 Tryz.sizeOf5 rfl ?_ ?_ ?_
   ·omega
   ·omega
   ·omega
   ·omega
   intro a44 c44
   refine HA_back rfl (kp [nn,nn,yy] [_] rfl) ?_
   refine HA_loud1 (i:=9) (by kernel_rfl) rfl ?_
   refine HO_dup (i:=0) rfl rfl ?_
   refine HO_call (first:=[]) (capt:=[]) (is:=[0]) (R:=[_,_,_]) rfl rfl rfl rfl rfl Tryz.call67 rfl (whole_spec _ _ _ ?_) ?_
   ·(simp only [List.length_drop,List.length_take];omega)
   intro y45 hy45
   clear y45 hy45
   refine HA_back rfl (kp [nn,nn,yy] [_] rfl) ?_
   refine HA_take (i:=10) bp rfl rfl rfl rfl (by kernel_rfl) rfl (V_bin rfl rfl bin_neq) (kp [nn,nn,yy] [_] rfl) ?_
   refine HA_take (i:=11) bp rfl rfl rfl rfl (by kernel_rfl) rfl (V_assign rfl) (kp [nn,nn,yy] [_] rfl) ?_
   refine HA_done (by kernel_rfl) ?_
   refine H_env (ρ':=[(35,_),(5,_),(0,_)]) ⟨rfl,rfl,rfl,trivial⟩ ?_
   refine H_world (kp [nn,nn,yy] [_] rfl) ?_
   refine H_cond rfl ?_ ?_
   ·intro h35
    replace h35:=dT h35
    rw [if_pos (by omega)] at hu
    refine H_seq ?_
    refine H_region (l:=[_,_,_]) rfl ?_
    iterate 3 refine HO_assign rfl rfl rfl ?_
    refine HO_nil ?_
    refine H_env (ρ':=[(4,_),(3,_),(2,_)]) ⟨rfl,rfl,rfl,trivial⟩ ?_
    refine H_world (kp [nn] [] rfl) ?_
    refine H_own0 kByte 5 none ?_
    refine H_ret3 Tryz.results37 (.tmp rfl) (.tmp rfl) (.tmp rfl) (fun w hA => ⟨(none,0),congrArg Ending.returned ?_,?_,?_⟩)
    ·(rw [hu];rfl)
    ·trivial
    ·(rw [hu];exact hA.keep (m:=[yy]) (Y:=[_]) rfl)
   intro h35
   replace h35:=dF h35
   rw [if_neg (by omega)] at hu
   refine H_skip ?_
   refine H_blk ?_
   refine H_seq ?_
   refine H_region (l:=[_,_,_,_,_,_,_,_,_,_]) rfl ?_
   iterate 2 refine HO_move rfl rfl rfl ?_
   refine HO_bin rfl rfl rfl rfl (bin_add ?_ ?_) ?_
   ·omega
   ·omega
   refine HO_slice_lh (i:=0) (l:=4) (h':=Cod.wh (List.drop 1 (List.take 4 b)) + 4) rfl rfl rfl rfl rfl rfl ?_ Tryz.underlying32 Tryz.sizeOf5 rfl ?_ ?_ ?_
   ·omega
   ·omega
   ·omega
   intro a50 c50
   refine HO_own0 kByte 5 none ?_
   refine HO_append (i:=0) (R:=[_,_]) rfl rfl rfl rfl rfl Tryz.underlying32 elt5 rfl rfl (SrcOk.dat (j:=0) Tryz.underlying32 rfl) ?_ ?_
   ·(simp only [List.length_nil,List.length_drop,List.length_take];omega)
   intro a51 c51
   refine HO_move rfl rfl rfl ?_
   refine HO_bin rfl rfl rfl rfl (bin_add ?_ ?_) ?_
   ·omega
   ·omega
   iterate 3 refine HO_assign rfl rfl rfl ?_
   refine HO_nil ?_
   refine H_env (ρ':=[(4,_),(3,_),(2,_)]) ⟨rfl,rfl,rfl,trivial⟩ ?_
   refine H_world (kp [yy,nn,nn] [_] rfl) ?_
   refine H_ret3 Tryz.results37 (.tmp rfl) (.tmp rfl) (.tmp rfl) (fun w hA => ⟨(a51,c51),congrArg Ending.returned ?_,?_,?_⟩)
   ·(rw [hu];rfl)
   ·trivial
   ·(rw [hu];exact hA.keep (m:=[yy]) (Y:=[_]) rfl)
  ·refine HO_slice_lh (i:=1) (l:=Cod.wh (List.drop 1 (List.take 4 b)) + 4) (h':=Cod.wh (List.drop 1 (List.take 4 b)) + 4 + 4) rfl rfl rfl rfl rfl ?_ ?_ Tryz.underlying32 Tryz.sizeOf5 rfl ?_ ?_ ?_
   ·omega
   ·omega
   ·omega
   ·omega
   intro a44 c44
   refine HA_back rfl (kp [nn,nn,yy] [_] rfl) ?_
   refine HA_loud1 (i:=3) (by kernel_rfl) rfl ?_
   refine HO_dup (i:=1) rfl rfl ?_
   refine HO_call (first:=[]) (capt:=[]) (is:=[0]) (R:=[_,_,_]) rfl rfl rfl rfl rfl Tryz.call50 rfl (Sum_spec _ _ _) ?_
   intro y39 hy39
   clear y39 hy39
   refine HA_back rfl (kp [nn,nn,yy] [_] rfl) ?_
   refine HA_loud1 (i:=9) (by kernel_rfl) rfl ?_
   refine HO_dup (i:=0) rfl rfl ?_
   refine HO_call (first:=[]) (capt:=[]) (is:=[0]) (R:=[_,_,_]) rfl rfl rfl rfl rfl Tryz.call67 rfl (whole_spec _ _ _ ?_) ?_
   ·(simp only [List.length_drop,List.length_take];omega)
   intro y45 hy45
   clear y45 hy45
   refine HA_back rfl (kp [nn,nn,yy] [_] rfl) ?_
   refine HA_take (i:=10) bp rfl rfl rfl rfl (by kernel_rfl) rfl (V_bin rfl rfl bin_neq) (kp [nn,nn,yy] [_] rfl) ?_
   refine HA_take (i:=11) bp rfl rfl rfl rfl (by kernel_rfl) rfl (V_assign rfl) (kp [nn,nn,yy] [_] rfl) ?_
   refine HA_done (by kernel_rfl) ?_
   refine H_env (ρ':=[(35,_),(5,_),(0,_)]) ⟨rfl,rfl,rfl,trivial⟩ ?_
   refine H_world (kp [nn,nn,yy] [_] rfl) ?_
   refine H_cond rfl ?_ ?_
   ·intro h35
    replace h35:=dT h35
    rw [if_pos (by omega)] at hu
    refine H_seq ?_
    refine H_region (l:=[_,_,_]) rfl ?_
    iterate 3 refine HO_assign rfl rfl rfl ?_
    refine HO_nil ?_
    refine H_env (ρ':=[(4,_),(3,_),(2,_)]) ⟨rfl,rfl,rfl,trivial⟩ ?_
    refine H_world (kp [nn] [] rfl) ?_
    refine H_own0 kByte 5 none ?_
    refine H_ret3 Tryz.results37 (.tmp rfl) (.tmp rfl) (.tmp rfl) (fun w hA => ⟨(none,0),congrArg Ending.returned ?_,?_,?_⟩)
    ·(rw [hu];rfl)
    ·trivial
    ·(rw [hu];exact hA.keep (m:=[yy]) (Y:=[_]) rfl)
   intro h35
   replace h35:=dF h35
   rw [if_neg (by omega)] at hu
   refine H_skip ?_
   refine H_blk ?_
   refine H_seq ?_
   refine H_region (l:=[_,_,_,_,_,_,_,_,_,_]) rfl ?_
   iterate 2 refine HO_move rfl rfl rfl ?_
   refine HO_bin rfl rfl rfl rfl (bin_add ?_ ?_) ?_
   ·omega
   ·omega
   refine HO_slice_lh (i:=0) (l:=4) (h':=Cod.wh (List.drop 1 (List.take 4 b)) + 4) rfl rfl rfl rfl rfl rfl ?_ Tryz.underlying32 Tryz.sizeOf5 rfl ?_ ?_ ?_
   ·omega
   ·omega
   ·omega
   intro a50 c50
   refine HO_own0 kByte 5 none ?_
   refine HO_append (i:=0) (R:=[_,_]) rfl rfl rfl rfl rfl Tryz.underlying32 elt5 rfl rfl (SrcOk.dat (j:=0) Tryz.underlying32 rfl) ?_ ?_
   ·(simp only [List.length_nil,List.length_drop,List.length_take];omega)
   intro a51 c51
   refine HO_move rfl rfl rfl ?_
   refine HO_bin rfl rfl rfl rfl (bin_add ?_ ?_) ?_
   ·omega
   ·omega
   iterate 3 refine HO_assign rfl rfl rfl ?_
   refine HO_nil ?_
   refine H_env (ρ':=[(4,_),(3,_),(2,_)]) ⟨rfl,rfl,rfl,trivial⟩ ?_
   refine H_world (kp [yy,nn,nn] [_] rfl) ?_
   refine H_ret3 Tryz.results37 (.tmp rfl) (.tmp rfl) (.tmp rfl) (fun w hA => ⟨(a51,c51),congrArg Ending.returned ?_,?_,?_⟩)
   ·(rw [hu];rfl)
   ·trivial
   ·(rw [hu];exact hA.keep (m:=[yy]) (Y:=[_]) rfl)
 ·refine HO_slice_lh (i:=0) (l:=Cod.wh (List.drop 1 (List.take 4 b)) + 4) (h':=Cod.wh (List.drop 1 (List.take 4 b)) + 4 + 4) rfl rfl rfl rfl rfl ?_ ?_ Tryz.underlying32 Tryz.sizeOf5 rfl ?_ ?_ ?_
  ·omega
  ·omega
  ·omega
  ·omega
  intro a44 c44
  refine HA_back rfl (kp [nn,yy] [_] rfl) ?_
  refine HA_loud1 (i:=2) (by kernel_rfl) rfl ?_
  refine HO_slice_h (i:=1) (h':=Cod.wh (List.drop 1 (List.take 4 b)) + 4) rfl rfl rfl rfl ?_ Tryz.underlying32 Tryz.sizeOf5 rfl ?_ ?_
  ·omega
  ·omega
  intro a38 c38
  refine HA_back rfl (kp [nn,nn,yy] [_] rfl) ?_
  refine HA_loud1 (i:=3) (by kernel_rfl) rfl ?_
  refine HO_dup (i:=0) rfl rfl ?_
  refine HO_call (first:=[]) (capt:=[]) (is:=[0]) (R:=[_,_,_]) rfl rfl rfl rfl rfl Tryz.call50 rfl (Sum_spec _ _ _) ?_
  intro y39 hy39
  clear y39 hy39
  refine HA_back rfl (kp [nn,nn,yy] [_] rfl) ?_
  refine HA_loud1 (i:=9) (by kernel_rfl) rfl ?_
  refine HO_dup (i:=1) rfl rfl ?_
  refine HO_call (first:=[]) (capt:=[]) (is:=[0]) (R:=[_,_,_]) rfl rfl rfl rfl rfl Tryz.call67 rfl (whole_spec _ _ _ ?_) ?_
  ·(simp only [List.length_drop,List.length_take];omega)
  intro y45 hy45
  clear y45 hy45
  refine HA_back rfl (kp [nn,nn,yy] [_] rfl) ?_
  refine HA_take (i:=10) bp rfl rfl rfl rfl (by kernel_rfl) rfl (V_bin rfl rfl bin_neq) (kp [nn,nn,yy] [_] rfl) ?_
  refine HA_take (i:=11) bp rfl rfl rfl rfl (by kernel_rfl) rfl (V_assign rfl) (kp [nn,nn,yy] [_] rfl) ?_
  refine HA_done (by kernel_rfl) ?_
  refine H_env (ρ':=[(35,_),(5,_),(0,_)]) ⟨rfl,rfl,rfl,trivial⟩ ?_
  refine H_world (kp [nn,nn,yy] [_] rfl) ?_
  refine H_cond rfl ?_ ?_
  ·intro h35
   replace h35:=dT h35
   rw [if_pos (by omega)] at hu
   refine H_seq ?_
   refine H_region (l:=[_,_,_]) rfl ?_
   iterate 3 refine HO_assign rfl rfl rfl ?_
   refine HO_nil ?_
   refine H_env (ρ':=[(4,_),(3,_),(2,_)]) ⟨rfl,rfl,rfl,trivial⟩ ?_
   refine H_world (kp [nn] [] rfl) ?_
   refine H_own0 kByte 5 none ?_
   refine H_ret3 Tryz.results37 (.tmp rfl) (.tmp rfl) (.tmp rfl) (fun w hA => ⟨(none,0),congrArg Ending.returned ?_,?_,?_⟩)
   ·(rw [hu];rfl)
   ·trivial
   ·(rw [hu];exact hA.keep (m:=[yy]) (Y:=[_]) rfl)
  intro h35
  replace h35:=dF h35
  rw [if_neg (by omega)] at hu
  refine H_skip ?_
  refine H_blk ?_
  refine H_seq ?_
  refine H_region (l:=[_,_,_,_,_,_,_,_,_,_]) rfl ?_
  iterate 2 refine HO_move rfl rfl rfl ?_
  refine HO_bin rfl rfl rfl rfl (bin_add ?_ ?_) ?_
  ·omega
  ·omega
  refine HO_slice_lh (i:=0) (l:=4) (h':=Cod.wh (List.drop 1 (List.take 4 b)) + 4) rfl rfl rfl rfl rfl rfl ?_ Tryz.underlying32 Tryz.sizeOf5 rfl ?_ ?_ ?_
  ·omega
  ·omega
  ·omega
  intro a50 c50
  refine HO_own0 kByte 5 none ?_
  refine HO_append (i:=0) (R:=[_,_]) rfl rfl rfl rfl rfl Tryz.underlying32 elt5 rfl rfl (SrcOk.dat (j:=0) Tryz.underlying32 rfl) ?_ ?_
  ·(simp only [List.length_nil,List.length_drop,List.length_take];omega)
  intro a51 c51
  refine HO_move rfl rfl rfl ?_
  refine HO_bin rfl rfl rfl rfl (bin_add ?_ ?_) ?_
  ·omega
  ·omega
  iterate 3 refine HO_assign rfl rfl rfl ?_
  refine HO_nil ?_
  refine H_env (ρ':=[(4,_),(3,_),(2,_)]) ⟨rfl,rfl,rfl,trivial⟩ ?_
  refine H_world (kp [yy,nn,nn] [_] rfl) ?_
  refine H_ret3 Tryz.results37 (.tmp rfl) (.tmp rfl) (.tmp rfl) (fun w hA => ⟨(a51,c51),congrArg Ending.returned ?_,?_,?_⟩)
  ·(rw [hu];rfl)
  ·trivial
  ·(rw [hu];exact hA.keep (m:=[yy]) (Y:=[_]) rfl)
theorem GetText_spec (b : List UInt8) (a : Option Addr) (c : Nat) (hb : b.length≤1099511627776) : Spec Tryz.prog 131 #[.slice a (b.length) c] [.dat kByte.sl (b) [.slice a (b.length) c]] (β:=Unit) (fun y => .tuple #[.string (⟨(Cod.decT b).1.toArray⟩),.int .i64 (((Cod.decT b).2 : Int))]) (fun y => True) (fun y => []):=by
 have hlt:=Cod.dec_lt b
 have hle:=Cod.dec_len b
 have hu:=Cod.decT.eq_1 b
 refine Spec.enter (vs:=[_]) Tryz.func131 rfl Tryz.ntmps131 rfl (Nat.le_of_ble_eq_true rfl) (fun w0 ok0 => ?_)
 generalize hM0 : blks _ = M0
 have hMn:=@noM _ _ hM0 (by simp [Atom.dat,Atom.elem])
 refine H_seq ?_
 refine H_region (l:=[_,_]) rfl ?_
 iterate 2 refine HO_assign rfl rfl rfl ?_
 refine HO_nil ?_
 refine H_env (ρ':=[(0,_)]) ⟨rfl,trivial⟩ ?_
 refine H_seq ?_
 refine H_region (l:=[_,_,_,_,_,_,_]) rfl ?_
 refine HO_move rfl rfl rfl ?_
 refine HO_dup (i:=0) rfl rfl ?_
 refine HO_call (first:=[]) (capt:=[]) (is:=[0]) (R:=[_]) rfl rfl rfl rfl rfl Tryz.call129 rfl (Get_spec _ _ _) ?_
 intro y9 hy9
 clear y9 hy9
 refine HO_move rfl rfl rfl ?_
 refine HO_extract (vs:=[_,_]) rfl rfl rfl rfl ?_
 refine HO_extract (vs:=[_,_]) rfl rfl rfl rfl ?_
 iterate 2 refine HO_assign rfl rfl rfl ?_
 refine HO_nil ?_
 refine H_env (ρ':=[(5,_),(4,_),(0,_)]) ⟨rfl,rfl,rfl,trivial⟩ ?_
 refine H_seq ?_
 refine H_seq ?_
 refine H_region (l:=[_,_,_,_,_,_,_,_,_,_,_]) rfl ?_
 refine HO_move rfl rfl rfl ?_
 refine HO_bin rfl rfl rfl rfl bin_eql ?_
 refine HO_move rfl rfl rfl ?_
 refine HO_split (d:=14) rfl ?_ ?_
 ·intro h14
  replace h14:=dT h14
  iterate 7 refine HO_no rfl rfl rfl ?_
  refine HO_pick_t rfl rfl rfl rfl ?_
  refine HO_nil ?_
  refine H_env (ρ':=[(22,_),(5,_),(4,_),(0,_)]) ⟨rfl,rfl,rfl,rfl,trivial⟩ ?_
  refine H_cond rfl (fun _ => ?_) (fun h => nomatch h)
  refine H_seq ?_
  refine H_region (l:=[_,_]) rfl ?_
  iterate 2 refine HO_assign rfl rfl rfl ?_
  refine HO_nil ?_
  refine H_env (ρ':=[(3,_),(2,_)]) ⟨rfl,rfl,trivial⟩ ?_
  refine H_world (kp [nn] [] rfl) ?_
  refine H_ret2 Tryz.results131 (.tmp rfl) (.tmp rfl) (fun w hA => ⟨(),congrArg Ending.returned ?_,?_,?_⟩)
  ·(rw [hu,if_pos (by omega)];rfl)
  ·trivial
  ·exact hA.keep (m:=[]) (Y:=[]) rfl
 intro h14
 replace h14:=dF h14
 iterate 2 refine HO_move rfl rfl rfl ?_
 refine HO_bi rfl rfl rfl (bi_len_sl Tryz.underlying32) ?_
 refine HO_move rfl rfl rfl ?_
 refine HO_bin rfl rfl rfl rfl (bin_sub ?_ ?_) ?_
 ·omega
 ·omega
 refine HO_conv rfl rfl rfl (cv_int Tryz.underlying3 Tryz.underlying97 (wrap_u_i rfl _)) ?_
 refine HO_set (v':=.int .u64 (((b.length - (Cod.dec b).2 : Nat) : Int))) 20 rfl (by exact congrArg (Value.int .u64) (by simp only [IntKind.bits];omega)) ?_
 refine HO_bin rfl rfl rfl rfl bin_gtr ?_
 refine HO_pick_f rfl rfl rfl rfl ?_
 refine HO_nil ?_
 refine H_env (ρ':=[(22,_),(5,_),(4,_),(0,_)]) ⟨rfl,rfl,rfl,rfl,trivial⟩ ?_
 refine H_cond rfl ?_ ?_
 ·intro h22
  replace h22:=dT h22
  skip
  refine H_seq ?_
  refine H_region (l:=[_,_]) rfl ?_
  iterate 2 refine HO_assign rfl rfl rfl ?_
  refine HO_nil ?_
  refine H_env (ρ':=[(3,_),(2,_)]) ⟨rfl,rfl,trivial⟩ ?_
  refine H_world (kp [nn] [] rfl) ?_
  refine H_ret2 Tryz.results131 (.tmp rfl) (.tmp rfl) (fun w hA => ⟨(),congrArg Ending.returned ?_,?_,?_⟩)
  ·(rw [hu,if_pos (by omega)];rfl)
  ·trivial
  ·exact hA.keep (m:=[]) (Y:=[]) rfl
 intro h22
 replace h22:=dF h22
 refine H_skip ?_
 refine H_seq ?_
 refine H_region (l:=[_,_,_,_,_]) rfl ?_
 iterate 2 refine HO_move rfl rfl rfl ?_
 refine HO_conv rfl rfl rfl (cv_int Tryz.underlying97 Tryz.underlying3 (wrap_i64_nat ?_)) ?_
 ·omega
 refine HO_bin rfl rfl rfl rfl (bin_add ?_ ?_) ?_
 ·omega
 ·omega
 refine HO_assign rfl rfl rfl ?_
 refine HO_nil ?_
 refine H_env (ρ':=[(6,_),(5,_),(0,_)]) ⟨rfl,rfl,rfl,trivial⟩ ?_
 refine H_seq ?_
 refine H_region (l:=[_,_,_,_,_,_,_,_]) rfl ?_
 iterate 3 refine HO_move rfl rfl rfl ?_
 refine HO_slice_lh (i:=0) (l:=(Cod.dec b).2) (h':=(Cod.dec b).2 + (Cod.dec b).1) rfl rfl rfl rfl rfl ?_ ?_ Tryz.underlying32 Tryz.sizeOf5 rfl ?_ ?_ ?_
 ·omega
 ·omega
 ·omega
 ·omega
 intro a30 c30
 refine HO_bytesStr (i:=0) rfl rfl rfl Tryz.underlying32 Tryz.underlying9 Tryz.underlying5 rfl ?_
 refine HO_move rfl rfl rfl ?_
 iterate 2 refine HO_assign rfl rfl rfl ?_
 refine HO_nil ?_
 refine H_env (ρ':=[(3,_),(2,_)]) ⟨rfl,rfl,trivial⟩ ?_
 refine H_world (kp [nn,nn] [] rfl) ?_
 refine H_ret2 Tryz.results131 (.tmp rfl) (.tmp rfl) (fun w hA => ⟨(),congrArg Ending.returned ?_,?_,?_⟩)
 ·(rw [hu,if_neg (by omega)];rfl)
 ·trivial
 ·exact hA.keep (m:=[]) (Y:=[]) rfl
theorem GetBool_spec (b : List UInt8) (a : Option Addr) (c : Nat)  : Spec Tryz.prog 100 #[.slice a (b.length) c] [.dat kByte.sl (b) [.slice a (b.length) c]] (β:=Unit) (fun y => .tuple #[.bool ((Cod.decB b).1),.int .i64 (((Cod.decB b).2 : Int))]) (fun y => True) (fun y => []):=by
 refine Spec.enter (vs:=[_]) Tryz.func100 rfl Tryz.ntmps100 rfl (Nat.le_of_ble_eq_true rfl) (fun w0 ok0 => ?_)
 generalize hM0 : blks _ = M0
 have hMn:=@noM _ _ hM0 (by simp [Atom.dat,Atom.elem])
 refine H_seq ?_
 refine H_region (l:=[_,_]) rfl ?_
 iterate 2 refine HO_assign rfl rfl rfl ?_
 refine HO_nil ?_
 refine H_env (ρ':=[(0,_)]) ⟨rfl,trivial⟩ ?_
 refine H_seq ?_
 refine H_seq ?_
 refine H_region (l:=[_,_,_,_,_,_,_,_,_,_,_,_,_,_,_]) rfl ?_
 refine HO_move rfl rfl rfl ?_
 refine HO_bi rfl rfl rfl (bi_len_sl Tryz.underlying32) ?_
 refine HO_bin rfl rfl rfl rfl bin_eql ?_
 refine HO_move rfl rfl rfl ?_
 refine HO_split (d:=7) rfl ?_ ?_
 ·intro h7
  replace h7:=dT h7
  iterate 10 refine HO_no rfl rfl rfl ?_
  refine HO_pick_t rfl rfl rfl rfl ?_
  refine HO_nil ?_
  refine H_env (ρ':=[(18,_),(0,_)]) ⟨rfl,rfl,trivial⟩ ?_
  refine H_cond rfl (fun _ => ?_) (fun h => nomatch h)
  refine H_seq ?_
  refine H_region (l:=[_,_]) rfl ?_
  iterate 2 refine HO_assign rfl rfl rfl ?_
  refine HO_nil ?_
  refine H_env (ρ':=[(3,_),(2,_)]) ⟨rfl,rfl,trivial⟩ ?_
  refine H_world (kp [nn] [] rfl) ?_
  obtain rfl : b = []:=List.eq_nil_of_length_eq_zero (by omega)
  refine H_ret2 Tryz.results100 (.tmp rfl) (.tmp rfl) (fun w hA => ⟨(),congrArg Ending.returned ?_,?_,?_⟩)
  ·rfl
  ·trivial
  ·exact hA.keep (m:=[]) (Y:=[]) rfl
 intro h7
 replace h7:=dF h7
 refine HO_move rfl rfl rfl ?_
 refine HO_indexAddr open_byte (i:=0) (j:=0) rfl rfl rfl rfl rfl Tryz.underlying32 Tryz.sizeOf5 rfl ?_ ?_
 ·omega
 intro b9 o9 z9 y9 hz9 hI9
 clear y9 hI9
 refine HO_load1 (i:=0) (j:=0) rfl rfl rfl Tryz.isAgg5 rfl (.elem _ _ _) rfl rfl ?_
 refine HO_bin rfl rfl rfl rfl bin_neq ?_
 refine HO_move rfl rfl rfl ?_
 refine HO_split (d:=12) rfl ?_ ?_
 ·intro h12
  replace h12:=dT h12
  refine HO_move rfl rfl rfl ?_
  refine HO_indexAddr open_byte (i:=1) (j:=0) rfl rfl rfl rfl rfl Tryz.underlying32 Tryz.sizeOf5 rfl ?_ ?_
  ·omega
  intro b14 o14 z14 y14 hz14 hI14
  clear y14 hI14
  refine HO_load1 (i:=0) (j:=0) rfl rfl rfl Tryz.isAgg5 rfl (.elem _ _ _) rfl rfl ?_
  refine HO_bin rfl rfl rfl rfl bin_neq ?_
  refine HO_pick_t rfl rfl rfl rfl ?_
  refine HO_pick_f rfl rfl rfl rfl ?_
  refine HO_nil ?_
  refine H_env (ρ':=[(18,_),(0,_)]) ⟨rfl,rfl,trivial⟩ ?_
  refine H_world (kp [nn,nn,yy] [_] rfl) ?_
  refine H_cond rfl ?_ ?_
  ·intro h18
   replace h18:=dT h18
   refine H_seq ?_
   refine H_region (l:=[_,_]) rfl ?_
   iterate 2 refine HO_assign rfl rfl rfl ?_
   refine HO_nil ?_
   refine H_env (ρ':=[(3,_),(2,_)]) ⟨rfl,rfl,trivial⟩ ?_
   refine H_world (kp [nn] [] rfl) ?_
   refine H_ret2 Tryz.results100 (.tmp rfl) (.tmp rfl) (fun w hA => ⟨(),congrArg Ending.returned ?_,?_,?_⟩)
   ·(first | (rw [Cod.getb_no hz9 hz14 h12 h18];rfl) | (rw [Cod.getb_yes hz9 hz20 (.inl (by omega))];rfl) | (rw [Cod.getb_yes hz14 hz20 (.inr (by omega))];rfl))
   ·trivial
   ·exact hA.keep (m:=[]) (Y:=[]) rfl
  intro h18
  replace h18:=dF h18
  refine H_skip ?_
  refine H_seq ?_
  refine H_region (l:=[_,_,_,_,_,_]) rfl ?_
  refine HO_move rfl rfl rfl ?_
  refine HO_indexAddr open_byte (i:=0) (j:=0) rfl rfl rfl rfl rfl Tryz.underlying32 Tryz.sizeOf5 rfl ?_ ?_
  ·omega
  intro b20 o20 z20 y20 hz20 hI20
  clear y20 hI20
  refine HO_load1 (i:=0) (j:=0) rfl rfl rfl Tryz.isAgg5 rfl (.elem _ _ _) rfl rfl ?_
  refine HO_bin rfl rfl rfl rfl bin_eql ?_
  iterate 2 refine HO_assign rfl rfl rfl ?_
  refine HO_nil ?_
  refine H_env (ρ':=[(3,_),(2,_)]) ⟨rfl,rfl,trivial⟩ ?_
  refine H_world (kp [nn,nn] [] rfl) ?_
  refine H_ret2 Tryz.results100 (.tmp rfl) (.tmp rfl) (fun w hA => ⟨(),congrArg Ending.returned ?_,?_,?_⟩)
  ·(first | (rw [Cod.getb_no hz9 hz14 h12 h18];rfl) | (rw [Cod.getb_yes hz9 hz20 (.inl (by omega))];rfl) | (rw [Cod.getb_yes hz14 hz20 (.inr (by omega))];rfl))
  ·trivial
  ·exact hA.keep (m:=[]) (Y:=[]) rfl
 intro h12
 replace h12:=dF h12
 iterate 4 refine HO_no rfl rfl rfl ?_
 iterate 2 refine HO_pick_f rfl rfl rfl rfl ?_
 refine HO_nil ?_
 refine H_env (ρ':=[(18,_),(0,_)]) ⟨rfl,rfl,trivial⟩ ?_
 refine H_world (kp [nn,yy] [_] rfl) ?_
 refine H_cond rfl (fun h => nomatch h) (fun _ => ?_)
 refine H_skip ?_
 refine H_seq ?_
 refine H_region (l:=[_,_,_,_,_,_]) rfl ?_
 refine HO_move rfl rfl rfl ?_
 refine HO_indexAddr open_byte (i:=0) (j:=0) rfl rfl rfl rfl rfl Tryz.underlying32 Tryz.sizeOf5 rfl ?_ ?_
 ·omega
 intro b20 o20 z20 y20 hz20 hI20
 clear y20 hI20
 refine HO_load1 (i:=0) (j:=0) rfl rfl rfl Tryz.isAgg5 rfl (.elem _ _ _) rfl rfl ?_
 refine HO_bin rfl rfl rfl rfl bin_eql ?_
 iterate 2 refine HO_assign rfl rfl rfl ?_
 refine HO_nil ?_
 refine H_env (ρ':=[(3,_),(2,_)]) ⟨rfl,rfl,trivial⟩ ?_
 refine H_world (kp [nn,nn] [] rfl) ?_
 refine H_ret2 Tryz.results100 (.tmp rfl) (.tmp rfl) (fun w hA => ⟨(),congrArg Ending.returned ?_,?_,?_⟩)
 ·(first | (rw [Cod.getb_no hz9 hz14 h12 h18];rfl) | (rw [Cod.getb_yes hz9 hz20 (.inl (by omega))];rfl) | (rw [Cod.getb_yes hz14 hz20 (.inr (by omega))];rfl))
 ·trivial
 ·exact hA.keep (m:=[]) (Y:=[]) rfl
end Go.Wk
