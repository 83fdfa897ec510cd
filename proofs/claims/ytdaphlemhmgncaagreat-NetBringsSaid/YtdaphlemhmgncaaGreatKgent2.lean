/- Contracts of the program's functions, each proved by walking its code. -/
import Derived.Test.YtdaphlemhmgncaaGreatKgent1
import Derived.Test.YtdaphlemhmgncaaGreatEnt
import Derived.Test.YtdaphlemhmgncaaGreatKgcmd2
set_option maxRecDepth 100000
set_option linter.unusedVariables false
set_option linter.unusedSimpArgs false
namespace Go.Wk.Fent2
open Go Go.RowKit Go.Proofs Go.Wk
theorem elt3 : Elt Tryz.prog 3 (.int .i64 (0)) 1 8:=Elt.of (by kernel_rfl) (by rfl) (by decide) (by decide)
end Go.Wk.Fent2
namespace Go.Wk
open Go Go.RowKit Go.Proofs Fent2 
theorem nums_spec (b : List UInt8) (a0 : Option Addr) (c0 : Nat) (l : List Int) (a : Option Addr) (c : Nat) (hb : b.length≤100000000000) (hl : l.length≤1000000) : Spec Tryz.prog 51 #[.slice a0 (b.length) c0,.slice a (l.length) c] [.dat kByte.sl (b) [.slice a0 (b.length) c0],.dat kInt.sl (l) [.slice a (l.length) c]] (β:=Option Addr × Nat) (fun y => .slice y.1 ((b ++ Ent.numsB l).length) y.2) (fun y => True) (fun y => [.dat kByte.sl (b ++ Ent.numsB l) [.slice y.1 ((b ++ Ent.numsB l).length) y.2]]):=by
 refine Spec.enter (vs:=[_,_]) Tryz.func51 rfl Tryz.ntmps51 rfl (Nat.le_of_ble_eq_true rfl) (fun w0 ok0 => ?_)
 generalize hM0 : blks _ = M0
 have hMn:=@noM _ _ hM0 (by simp [Atom.dat,Atom.elem])
 refine H_len_le (i:=1) rfl ?_
 intro hlen1
 refine H_seq ?_
 refine H_region (l:=[_]) rfl ?_
 refine HO_assign rfl rfl rfl ?_
 refine HO_nil ?_
 refine H_env (ρ':=[(0,_),(1,_)]) ⟨rfl,rfl,trivial⟩ ?_
 refine H_seq ?_
 refine H_seq ?_
 refine H_region (l:=[_,_,_]) rfl ?_
 refine HO_move rfl rfl rfl ?_
 refine HO_bi rfl rfl rfl (bi_len_sl Tryz.underlying29) ?_
 refine HO_move rfl rfl rfl ?_
 refine HO_nil ?_
 refine H_env (ρ':=[(9,_),(8,_),(7,_),(0,_)]) ⟨rfl,rfl,rfl,rfl,trivial⟩ ?_
 refine H_block ?_
 refine H_loop (σ:=Nat × List UInt8 × Option Addr × Nat) (fun s => s.2.1 = b ++ Ent.numsB (l.take s.1)∧s.1≤l.length) (fun s => [(0,.slice s.2.2.1 (s.2.1.length) s.2.2.2),(7,.slice a (l.length) c),(8,.int .i64 ((l.length : Int))),(9,.int .i64 ((s.1 : Int)))]) (fun s => Asn w0 ok0 M0 [.dat kByte.sl (s.2.1) [.slice s.2.2.1 (s.2.1.length) s.2.2.2],.dat kInt.sl (l) [.slice a (l.length) c]]) (fun s => l.length - s.1) ⟨0,b,a0,c0⟩ ?_ ?_ ?_ ?_
 ·exact ⟨by simp [Ent.numsB],Nat.zero_le _⟩
 ·exact ⟨rfl,rfl,rfl,rfl,trivial⟩
 ·intro w hA
  exact hA.only (is:=[0,1]) (Z:=[]) rfl
 ·rintro ⟨i,r,p,q⟩ hI
  (try dsimp only at hI ⊢)
  refine H_seq ?_
  refine H_region (l:=[_]) rfl ?_
  refine HO_bin rfl rfl rfl rfl bin_lss ?_
  refine HO_nil ?_
  refine H_seq ?_
  refine H_cond rfl ?_ ?_
  ·intro h10
   replace h10:=dT h10
   refine H_skip ?_
   refine H_seq ?_
   refine H_block ?_
   refine H_seq ?_
   refine H_region (l:=[_,_,_]) rfl ?_
   refine HO_indexAddr open_int (i:=1) rfl rfl rfl rfl rfl Tryz.underlying29 Tryz.sizeOf3 rfl ?_ ?_
   ·omega
   intro b11 o11 z11 y11 hz11 hI11
   clear y11
   refine HO_load1 (i:=0) (j:=0) rfl rfl rfl Tryz.isAgg3 rfl (.elem _ _ _) rfl rfl ?_
   refine HO_assign rfl rfl rfl ?_
   refine HO_nil ?_
   refine H_env (ρ':=[(6,_),(0,_),(7,_),(8,_),(9,_)]) ⟨rfl,rfl,rfl,rfl,rfl,trivial⟩ ?_
   refine H_world (kp [nn,yy,yy] [_,_] rfl) ?_
   have hsl : r.length≤200000000000:=by rw [hI.1,List.length_append];have:=Ent.nums_take_len l i hI.2;omega
   refine H_region (l:=[_,_,_,_,_]) rfl ?_
   iterate 2 refine HO_move rfl rfl rfl ?_
   refine HO_call (first:=[]) (capt:=[]) (is:=[]) (R:=[_,_]) rfl rfl rfl rfl rfl Tryz.call87 rfl (zig_spec _) ?_
   intro y15 hy15
   clear y15 hy15
   refine HO_dup (i:=0) rfl rfl ?_
   refine HO_call (first:=[]) (capt:=[]) (is:=[0]) (R:=[_,_]) rfl rfl rfl rfl rfl Tryz.call86 rfl (Put_spec _ _ _ _ ?_ ?_) ?_
   ·(exact Cod.zig_lt _)
   ·omega
   intro y16 hy16
   refine HO_assign rfl rfl rfl ?_
   refine HO_nil ?_
   refine H_env (ρ':=[(0,_),(7,_),(8,_),(9,_)]) ⟨rfl,rfl,rfl,rfl,trivial⟩ ?_
   refine H_world (kp [yy,nn,yy] [_,_] rfl) ?_
   refine H_blk ?_
   refine H_region (l:=[_,_]) rfl ?_
   refine HO_bin rfl rfl rfl rfl (bin_add ?_ ?_) ?_
   ·omega
   ·omega
   refine HO_move rfl rfl rfl ?_
   refine HO_nil ?_
   refine H_env (ρ':=[(9,_),(0,_),(7,_),(8,_)]) ⟨rfl,rfl,rfl,rfl,trivial⟩ ?_
   refine H_freeze (i:=0) (R:=[_]) rfl hMn ?_
   refine H_inv (fun a w hf hA => ⟨⟨i + 1,r ++ Cod.enc (Cod.zig z11),y16.1,y16.2⟩,?_,?_,hf.sub ?_,?_⟩)
   ·exact ⟨by rw [hI.1,Ent.nums_next hz11];simp,by omega⟩
   ·(try dsimp only);omega
   ·exact ⟨rfl,rfl,rfl,rfl,trivial⟩
   ·exact hA.only (is:=[0,1]) (Z:=[]) rfl
  intro h10
  replace h10:=dF h10
  refine H_exit rfl ?_
  refine H_seq ?_
  obtain rfl : i = l.length:=by omega
  have hfin : r = b ++ Ent.numsB l:=by rw [hI.1,List.take_length]
  subst hfin
  refine H_region (l:=[_,_]) rfl ?_
  refine HO_move rfl rfl rfl ?_
  refine HO_assign rfl rfl rfl ?_
  refine HO_nil ?_
  refine H_env (ρ':=[(4,_)]) ⟨rfl,trivial⟩ ?_
  refine H_world (kp [yy,nn] [_] rfl) ?_
  refine H_ret1 Tryz.results51 (.tmp rfl) (fun w hA => ⟨(p,q),congrArg Ending.returned ?_,?_,?_⟩)
  ·rfl
  ·trivial
  ·exact hA.keep (m:=[yy]) (Y:=[_]) rfl
theorem putint_spec (b : List UInt8) (a0 : Option Addr) (c0 : Nat) (n : Int) (hb : b.length≤100000000000) (hn : -9223372036854775808≤n∧n≤9223372036854775807) : Spec Tryz.prog 126 #[.slice a0 (b.length) c0,.int .i64 (n)] [.dat kByte.sl (b) [.slice a0 (b.length) c0]] (β:=Option Addr × Nat) (fun y => .slice y.1 ((b ++ Ent.numsB [n]).length) y.2) (fun y => True) (fun y => [.dat kByte.sl (b ++ Ent.numsB [n]) [.slice y.1 ((b ++ Ent.numsB [n]).length) y.2]]):=by
 refine Spec.enter (vs:=[_,_]) Tryz.func126 rfl Tryz.ntmps126 rfl (Nat.le_of_ble_eq_true rfl) (fun w0 ok0 => ?_)
 generalize hM0 : blks _ = M0
 have hMn:=@noM _ _ hM0 (by simp [Atom.dat,Atom.elem])
 refine H_seq ?_
 refine H_region (l:=[_]) rfl ?_
 refine HO_assign rfl rfl rfl ?_
 refine HO_nil ?_
 refine H_env (ρ':=[(0,_),(1,_)]) ⟨rfl,rfl,trivial⟩ ?_
 refine H_seq ?_
 refine H_region (l:=[_,_,_,_,_]) rfl ?_
 iterate 2 refine HO_move rfl rfl rfl ?_
 refine HO_buildSlice (kd:=kInt) (xo:=[_]) (vs:=[_]) (cs:=[_]) (xs:=[n]) rfl rfl rfl rfl Tryz.underlying29 elt3 rfl rfl rfl (by decide) (by decide) (by simp [Value.cells]) rfl (by intro ok w _;exact ⟨_,_,rfl,⟨rfl,by first | omega | (constructor <;> omega)⟩,rfl⟩) ?_
 intro g7
 refine HO_freeze (i:=0) (R:=[_]) rfl hMn ?_
 refine HO_dup (i:=1) rfl rfl ?_
 refine HO_dup (i:=1) rfl rfl ?_
 refine HO_call (first:=[]) (capt:=[]) (is:=[0,0]) (R:=[_,_]) rfl rfl rfl rfl rfl Tryz.call51 rfl (nums_spec _ _ _ _ _ _ ?_ ?_) ?_
 ·exact hb
 ·(simp)
 intro y8 hy8
 refine HO_assign rfl rfl rfl ?_
 refine HO_nil ?_
 refine H_env (ρ':=[(4,_)]) ⟨rfl,trivial⟩ ?_
 refine H_world (kp [yy,nn,nn] [_] rfl) ?_
 refine H_ret1 Tryz.results126 (.tmp rfl) (fun w hA => ⟨y8,congrArg Ending.returned ?_,?_,?_⟩)
 ·rfl
 ·trivial
 ·exact hA.keep (m:=[yy]) (Y:=[_]) rfl
theorem listint_spec (b : List UInt8) (a0 : Option Addr) (c0 : Nat) (l : List Int) (a : Option Addr) (c : Nat) (hb : b.length≤10000000000) (hl : l.length≤1000000) : Spec Tryz.prog 125 #[.slice a0 (b.length) c0,.slice a (l.length) c,.func (.func 126) #[] #[]] [.dat kByte.sl (b) [.slice a0 (b.length) c0],.dat kInt.sl (l) [.slice a (l.length) c]] (β:=Option Addr × Nat) (fun y => .slice y.1 ((b ++ Ent.listB l).length) y.2) (fun y => True) (fun y => [.dat kByte.sl (b ++ Ent.listB l) [.slice y.1 ((b ++ Ent.listB l).length) y.2]]):=by
 have hle:=Cod.enc_le9 l.length
 refine Spec.enter (vs:=[_,_,_]) Tryz.func125 rfl Tryz.ntmps125 rfl (Nat.le_of_ble_eq_true rfl) (fun w0 ok0 => ?_)
 generalize hM0 : blks _ = M0
 have hMn:=@noM _ _ hM0 (by simp [Atom.dat,Atom.elem])
 refine H_len_le (i:=1) rfl ?_
 intro hlen1
 refine H_seq ?_
 refine H_region (l:=[_]) rfl ?_
 refine HO_assign rfl rfl rfl ?_
 refine HO_nil ?_
 refine H_env (ρ':=[(0,_),(1,_),(2,_)]) ⟨rfl,rfl,rfl,trivial⟩ ?_
 refine H_seq ?_
 refine H_region (l:=[_,_,_,_,_,_]) rfl ?_
 iterate 2 refine HO_move rfl rfl rfl ?_
 refine HO_bi rfl rfl rfl (bi_len_sl Tryz.underlying29) ?_
 refine HO_conv rfl rfl rfl (cv_int Tryz.underlying3 Tryz.underlying97 (wrap_u_i rfl _)) ?_
 refine HO_set (v':=.int .u64 ((l.length : Int))) 12 rfl (by exact congrArg (Value.int .u64) (by simp only [IntKind.bits];omega)) ?_
 refine HO_dup (i:=0) rfl rfl ?_
 refine HO_call (first:=[]) (capt:=[]) (is:=[0]) (R:=[_,_]) rfl rfl rfl rfl rfl Tryz.call86 rfl (Put_spec _ _ _ _ ?_ ?_) ?_
 ·omega
 ·omega
 intro y13 hy13
 refine HO_assign rfl rfl rfl ?_
 refine HO_nil ?_
 refine H_env (ρ':=[(0,_),(1,_),(2,_)]) ⟨rfl,rfl,rfl,trivial⟩ ?_
 refine H_world (kp [yy,nn,yy] [_,_] rfl) ?_
 refine H_seq ?_
 refine H_seq ?_
 refine H_region (l:=[_,_,_]) rfl ?_
 refine HO_move rfl rfl rfl ?_
 refine HO_bi rfl rfl rfl (bi_len_sl Tryz.underlying29) ?_
 refine HO_move rfl rfl rfl ?_
 refine HO_nil ?_
 refine H_env (ρ':=[(16,_),(15,_),(14,_),(0,_),(2,_)]) ⟨rfl,rfl,rfl,rfl,rfl,trivial⟩ ?_
 refine H_block ?_
 refine H_freeze (i:=0) (R:=[_]) rfl hMn ?_
 refine H_loop (σ:=Nat × List UInt8 × Option Addr × Nat) (fun s => s.2.1 = b ++ Cod.enc l.length ++ Ent.numsB (l.take s.1)∧s.1≤l.length) (fun s => [(0,.slice s.2.2.1 (s.2.1.length) s.2.2.2),(2,.func (.func 126) #[] #[]),(14,.slice a (l.length) c),(15,.int .i64 ((l.length : Int))),(16,.int .i64 ((s.1 : Int)))]) (fun s => Asn w0 ok0 M0 [.dat kByte.sl (s.2.1) [.slice s.2.2.1 (s.2.1.length) s.2.2.2],.dat kInt.sl (l) [.slice a (l.length) c]]) (fun s => l.length - s.1) ⟨0,b ++ Cod.enc l.length,y13.1,y13.2⟩ ?_ ?_ ?_ ?_
 ·exact ⟨by simp [Ent.numsB],Nat.zero_le _⟩
 ·exact ⟨rfl,rfl,rfl,rfl,rfl,trivial⟩
 ·intro w hA
  exact hA.only (is:=[0,1]) (Z:=[]) rfl
 ·rintro ⟨i,r,p,q⟩ hI
  (try dsimp only at hI ⊢)
  refine H_seq ?_
  refine H_region (l:=[_]) rfl ?_
  refine HO_bin rfl rfl rfl rfl bin_lss ?_
  refine HO_nil ?_
  refine H_seq ?_
  refine H_cond rfl ?_ ?_
  ·intro h17
   replace h17:=dT h17
   refine H_skip ?_
   refine H_seq ?_
   refine H_block ?_
   refine H_seq ?_
   refine H_region (l:=[_,_,_]) rfl ?_
   refine HO_indexAddr open_int (i:=1) rfl rfl rfl rfl rfl Tryz.underlying29 Tryz.sizeOf3 rfl ?_ ?_
   ·omega
   intro b18 o18 z18 y18 hz18 hI18
   clear y18
   refine HO_load1 (i:=0) (j:=0) rfl rfl rfl Tryz.isAgg3 rfl (.elem _ _ _) rfl rfl ?_
   refine HO_assign rfl rfl rfl ?_
   refine HO_nil ?_
   refine H_env (ρ':=[(8,_),(0,_),(2,_),(14,_),(15,_),(16,_)]) ⟨rfl,rfl,rfl,rfl,rfl,rfl,trivial⟩ ?_
   refine H_world (kp [nn,yy,yy] [_,_] rfl) ?_
   have hsl : r.length≤100000000000:=by rw [hI.1,List.length_append,List.length_append];have:=Ent.nums_take_len l i hI.2;omega
   refine H_region (l:=[_,_,_,_,_]) rfl ?_
   iterate 3 refine HO_move rfl rfl rfl ?_
   refine HO_dup (i:=0) rfl rfl ?_
   refine HO_call (first:=[]) (capt:=[]) (is:=[0]) (R:=[_,_]) rfl rfl rfl rfl rfl Tryz.call126 rfl (putint_spec _ _ _ _ ?_ ?_) ?_
   ·exact hsl
   ·assumption
   intro y23 hy23
   refine HO_assign rfl rfl rfl ?_
   refine HO_nil ?_
   refine H_env (ρ':=[(0,_),(2,_),(14,_),(15,_),(16,_)]) ⟨rfl,rfl,rfl,rfl,rfl,trivial⟩ ?_
   refine H_world (kp [yy,nn,yy] [_,_] rfl) ?_
   refine H_blk ?_
   refine H_region (l:=[_,_]) rfl ?_
   refine HO_bin rfl rfl rfl rfl (bin_add ?_ ?_) ?_
   ·omega
   ·omega
   refine HO_move rfl rfl rfl ?_
   refine HO_nil ?_
   refine H_env (ρ':=[(16,_),(0,_),(2,_),(14,_),(15,_)]) ⟨rfl,rfl,rfl,rfl,rfl,trivial⟩ ?_
   refine H_inv (fun a w hf hA => ⟨⟨i + 1,r ++ Ent.numsB [z18],y23.1,y23.2⟩,?_,?_,hf.sub ?_,?_⟩)
   ·exact ⟨by rw [hI.1,Ent.nums_next hz18];simp [Ent.numsB],by omega⟩
   ·(try dsimp only);omega
   ·exact ⟨rfl,rfl,rfl,rfl,rfl,trivial⟩
   ·exact hA.only (is:=[0,1]) (Z:=[]) rfl
  intro h17
  replace h17:=dF h17
  refine H_exit rfl ?_
  refine H_seq ?_
  obtain rfl : i = l.length:=by omega
  have hfin : r = b ++ Ent.listB l:=by rw [hI.1,List.take_length];simp [Ent.listB]
  subst hfin
  refine H_region (l:=[_,_]) rfl ?_
  refine HO_move rfl rfl rfl ?_
  refine HO_assign rfl rfl rfl ?_
  refine HO_nil ?_
  refine H_env (ρ':=[(6,_)]) ⟨rfl,trivial⟩ ?_
  refine H_world (kp [yy,nn] [_] rfl) ?_
  refine H_ret1 Tryz.results125 (.tmp rfl) (fun w hA => ⟨(p,q),congrArg Ending.returned ?_,?_,?_⟩)
  ·rfl
  ·trivial
  ·exact hA.keep (m:=[yy]) (Y:=[_]) rfl
theorem putconf_spec (b : List UInt8) (a0 : Option Addr) (c0 : Nat) (vo le : List Int) (a1 : Option Addr) (c1 : Nat) (a2 : Option Addr) (c2 : Nat) (hb : b.length≤1000000000) (hv : vo.length≤100000) (hl : le.length≤100000) : Spec Tryz.prog 90 #[.slice a0 (b.length) c0,.agg #[.slice a1 (vo.length) c1,.slice a2 (le.length) c2]] [.dat kByte.sl (b) [.slice a0 (b.length) c0],.dat kInt.sl (vo) [.slice a1 (vo.length) c1],.dat kInt.sl (le) [.slice a2 (le.length) c2]] (β:=Option Addr × Nat) (fun y => .slice y.1 ((b ++ Ent.confB ⟨vo,le⟩).length) y.2) (fun y => True) (fun y => [.dat kByte.sl (b ++ Ent.confB ⟨vo,le⟩) [.slice y.1 ((b ++ Ent.confB ⟨vo,le⟩).length) y.2]]):=by
 refine Spec.enter (vs:=[_,_]) Tryz.func90 rfl Tryz.ntmps90 rfl (Nat.le_of_ble_eq_true rfl) (fun w0 ok0 => ?_)
 generalize hM0 : blks _ = M0
 have hMn:=@noM _ _ hM0 (by simp [Atom.dat,Atom.elem])
 refine H_len_le (i:=1) rfl ?_
 intro hlen1
 refine H_len_le (i:=2) rfl ?_
 intro hlen2
 refine H_seq ?_
 refine H_region (l:=[_,_]) rfl ?_
 refine HO_box (cs:=[_,_]) rfl rfl rfl rfl ?_
 intro g3
 refine HO_assign rfl rfl rfl ?_
 refine HO_nil ?_
 refine H_env (ρ':=[(3,_),(0,_)]) ⟨rfl,rfl,trivial⟩ ?_
 refine H_seq ?_
 refine H_drawB (m:=[yy,yy,yy,yy]) (Xs:=[_,_,_,_]) (fuel:=8) (l:=#[false,false,false,false,false,false,false,false]) mixed rfl rfl rfl ?_
 refine HA_take (i:=0) bp rfl rfl rfl rfl (by kernel_rfl) rfl (V_move rfl) (fun _ hA => hA) ?_
 refine HA_take (i:=1) bp rfl rfl rfl rfl (by kernel_rfl) rfl (V_fieldAddr (r:=0) rfl Tryz.underlying31 rfl Tryz.sizeOf29 rfl) (fun _ hA => hA) ?_
 refine HA_take (i:=2) bp rfl rfl rfl rfl (by kernel_rfl) rfl (V_load1 (i:=0) (j:=0) rfl Tryz.isAgg29 rfl (.loc _ _ _) rfl rfl) (fun _ hA => hA) ?_
 refine HA_take (i:=4) bp rfl rfl rfl rfl (by kernel_rfl) rfl (V_fieldAddr (r:=1) rfl Tryz.underlying31 rfl Tryz.sizeOf29 rfl) (fun _ hA => hA) ?_
 refine HA_take (i:=5) bp rfl rfl rfl rfl (by kernel_rfl) rfl (V_load1 (i:=0) (j:=1) rfl Tryz.isAgg29 rfl (.loc _ _ _) rfl rfl) (fun _ hA => hA) ?_
 refine HA_loud1 (i:=3) (by kernel_rfl) rfl ?_
 refine HO_dup (i:=1) rfl rfl ?_
 refine HO_dup (i:=3) rfl rfl ?_
 refine HO_call (first:=[]) (capt:=[]) (is:=[0,0]) (R:=[_,_,_,_]) rfl rfl rfl rfl rfl Tryz.call125 rfl (listint_spec _ _ _ _ _ _ ?_ ?_) ?_
 ·omega
 ·omega
 intro y8 hy8
 refine HA_back rfl (kp [nn,yy,yy,yy,yy] [_,_,_,_] rfl) ?_
 refine HA_loud1 (i:=6) (by kernel_rfl) rfl ?_
 refine HO_dup (i:=0) rfl rfl ?_
 refine HO_dup (i:=5) rfl rfl ?_
 refine HO_call (first:=[]) (capt:=[]) (is:=[0,0]) (R:=[_,_,_,_,_]) rfl rfl rfl rfl rfl Tryz.call125 rfl (listint_spec _ _ _ _ _ _ ?_ ?_) ?_
 ·(rw [List.length_append];have:=Ent.list_len vo;omega)
 ·omega
 intro y11 hy11
 refine HA_back rfl (kp [nn,nn,yy,yy,yy,yy] [_,_,_,_] rfl) ?_
 refine HA_take (i:=7) bp rfl rfl rfl rfl (by kernel_rfl) rfl (V_assign rfl) (kp [nn,nn,yy,yy,yy,yy] [_,_,_,_] rfl) ?_
 refine HA_done (by kernel_rfl) ?_
 refine H_env (ρ':=[(4,_)]) ⟨rfl,trivial⟩ ?_
 refine H_world (kp [yy,nn,nn,nn,nn,nn] [_] rfl) ?_
 refine H_ret1 Tryz.results90 (.tmp rfl) (fun w hA => ⟨y11,congrArg Ending.returned ?_,?_,?_⟩)
 ·(simp [Ent.confB])
 ·trivial
 ·exact (hA.keep (m:=[yy]) (Y:=[_]) rfl).cast (by simp [Ent.confB])
theorem putent_spec (b : List UInt8) (a0 : Option Addr) (c0 : Nat) (ix te ki : Int) (ck cs sq : Int) (ke ol cv ti : ByteArray) (li : Int) (vo le : List Int) (a1 : Option Addr) (c1 : Nat) (a2 : Option Addr) (c2 : Nat) (hb : b.length≤100000000) (hc : ke.size + ol.size + cv.size + ti.size≤100000) (hv : vo.length≤100000) (hl : le.length≤100000) (hr : (-9223372036854775808≤ix∧ix≤9223372036854775807)∧(-9223372036854775808≤te∧te≤9223372036854775807)∧(-9223372036854775808≤ki∧ki≤9223372036854775807)) : Spec Tryz.prog 54 #[.slice a0 (b.length) c0,.agg #[.int .i64 (ix),.int .i64 (te),.int .i64 (ki),.int .i64 (ck),.int .i64 (cs),.int .i64 (sq),.string (ke),.string (ol),.string (cv),.string (ti),.int .i64 (li),.slice a1 (vo.length) c1,.slice a2 (le.length) c2]] [.dat kByte.sl (b) [.slice a0 (b.length) c0],.dat kInt.sl (vo) [.slice a1 (vo.length) c1],.dat kInt.sl (le) [.slice a2 (le.length) c2]] (β:=Option Addr × Nat) (fun y => .slice y.1 ((b ++ Ent.entB ⟨ix,te,ki,⟨ck,cs,sq,ke,ol,cv,ti,li⟩,⟨vo,le⟩⟩).length) y.2) (fun y => True) (fun y => [.dat kByte.sl (b ++ Ent.entB ⟨ix,te,ki,⟨ck,cs,sq,ke,ol,cv,ti,li⟩,⟨vo,le⟩⟩) [.slice y.1 ((b ++ Ent.entB ⟨ix,te,ki,⟨ck,cs,sq,ke,ol,cv,ti,li⟩,⟨vo,le⟩⟩).length) y.2]]):=by
 have hn3:=Ent.nums_len [ix,te,ki]
 simp only [List.length_cons,List.length_nil] at hn3
 refine Spec.enter (vs:=[_,_]) Tryz.func54 rfl Tryz.ntmps54 rfl (Nat.le_of_ble_eq_true rfl) (fun w0 ok0 => ?_)
 generalize hM0 : blks _ = M0
 have hMn:=@noM _ _ hM0 (by simp [Atom.dat,Atom.elem])
 refine H_len_le (i:=1) rfl ?_
 intro hlen1
 refine H_len_le (i:=2) rfl ?_
 intro hlen2
 refine H_seq ?_
 refine H_region (l:=[_,_]) rfl ?_
 refine HO_box (cs:=[_,_,_,_,_,_,_,_,_,_,_,_,_]) rfl rfl rfl rfl ?_
 intro g3
 refine HO_assign rfl rfl rfl ?_
 refine HO_nil ?_
 refine H_env (ρ':=[(3,_),(0,_)]) ⟨rfl,rfl,trivial⟩ ?_
 refine H_seq ?_
 refine H_region (l:=[_,_,_,_,_,_,_,_,_,_]) rfl ?_
 refine HO_move rfl rfl rfl ?_
 refine HO_fieldAddr (r:=0) rfl rfl rfl Tryz.underlying70 rfl Tryz.sizeOf3 rfl ?_
 refine HO_load1 (i:=0) (j:=0) rfl rfl rfl Tryz.isAgg3 rfl (.loc _ _ _) rfl rfl ?_
 refine HO_fieldAddr (r:=1) rfl rfl rfl Tryz.underlying70 rfl Tryz.sizeOf3 rfl ?_
 refine HO_load1 (i:=0) (j:=1) rfl rfl rfl Tryz.isAgg3 rfl (.loc _ _ _) rfl rfl ?_
 refine HO_fieldAddr (r:=2) rfl rfl rfl Tryz.underlying70 rfl Tryz.sizeOf3 rfl ?_
 refine HO_load1 (i:=0) (j:=2) rfl rfl rfl Tryz.isAgg3 rfl (.loc _ _ _) rfl rfl ?_
 refine HO_buildSlice (kd:=kInt) (xo:=[_,_,_]) (vs:=[_,_,_]) (cs:=[_,_,_]) (xs:=[ix,te,ki]) rfl rfl rfl rfl Tryz.underlying29 elt3 rfl rfl rfl (by decide) (by decide) (by simp [Value.cells]) rfl (by intro ok w _;exact ⟨_,_,rfl,⟨rfl,by first | omega | (constructor <;> omega)⟩,⟨_,_,rfl,⟨rfl,by first | omega | (constructor <;> omega)⟩,⟨_,_,rfl,⟨rfl,by first | omega | (constructor <;> omega)⟩,rfl⟩⟩⟩) ?_
 intro g12
 refine HO_freeze (i:=0) (R:=[_,_,_,_]) rfl hMn ?_
 refine HO_dup (i:=2) rfl rfl ?_
 refine HO_dup (i:=1) rfl rfl ?_
 refine HO_call (first:=[]) (capt:=[]) (is:=[0,0]) (R:=[_,_,_,_,_]) rfl rfl rfl rfl rfl Tryz.call51 rfl (nums_spec _ _ _ _ _ _ ?_ ?_) ?_
 ·omega
 ·(simp)
 intro y13 hy13
 refine HO_assign rfl rfl rfl ?_
 refine HO_nil ?_
 refine H_env (ρ':=[(0,_),(3,_)]) ⟨rfl,rfl,trivial⟩ ?_
 refine H_world (kp [yy,nn,yy,nn,yy,yy] [_,_,_,_] rfl) ?_
 refine H_seq ?_
 refine H_seq ?_
 refine H_region (l:=[_,_]) rfl ?_
 refine HO_fieldAddr (r:=2) rfl rfl rfl Tryz.underlying70 rfl Tryz.sizeOf3 rfl ?_
 refine HO_load1 (i:=1) (j:=2) rfl rfl rfl Tryz.isAgg3 rfl (.loc _ _ _) rfl rfl ?_
 refine HO_nil ?_
 refine H_env (ρ':=[(15,_),(0,_),(3,_)]) ⟨rfl,rfl,rfl,trivial⟩ ?_
 refine H_block ?_
 refine H_seq ?_
 refine H_region (l:=[_,_]) rfl ?_
 refine HO_bin rfl rfl rfl rfl bin_eql ?_
 refine HO_assign rfl rfl rfl ?_
 refine HO_nil ?_
 refine H_env (ρ':=[(16,_),(15,_),(0,_),(3,_)]) ⟨rfl,rfl,rfl,rfl,trivial⟩ ?_
 refine H_cond rfl ?_ ?_
 ·intro h16
  replace h16:=dT h16
  refine H_seq ?_
  refine H_region (l:=[_,_,_,_,_,_,_]) rfl ?_
  refine HO_move rfl rfl rfl ?_
  refine HO_fieldAddr (r:=3) rfl rfl rfl Tryz.underlying70 rfl Tryz.sizeOf68 rfl ?_
  refine HO_loadA (i:=1) (us:=[_,_,_]) (cs:=[_,_,_,_,_,_,_,_]) (ts:=[_,_]) rfl rfl rfl Tryz.isAgg68 Tryz.sizeOf68 rfl (.loc _ _ _) rfl rfl rfl rfl ?_
  refine HO_call (first:=[]) (capt:=[]) (is:=[]) (R:=[_,_,_,_]) rfl rfl rfl rfl rfl Tryz.call89 rfl (bytes_spec _ _ _ _ _ _ _ _ ?_) ?_
  ·omega
  intro y21 hy21
  have hcl:=Cmd.bytes_le (c:=⟨ck,cs,sq,ke,ol,cv,ti,li⟩)
  refine HO_bytesStrOwn (i:=0) rfl rfl rfl Tryz.underlying32 Tryz.underlying9 Tryz.underlying5 rfl rfl ?_
  refine HO_dup (i:=1) rfl rfl ?_
  refine HO_call (first:=[]) (capt:=[]) (is:=[0]) (R:=[_,_,_,_,_]) rfl rfl rfl rfl rfl Tryz.call88 rfl (PutText_spec _ _ _ _ ?_ ?_) ?_
  ·(have:=Cmd.bytes_le (c:=⟨ck,cs,sq,ke,ol,cv,ti,li⟩);rw [Cod.size_mk];dsimp only at this;omega)
  ·(simp only [List.length_append];omega)
  intro y23 hy23
  refine HO_assign rfl rfl rfl ?_
  refine HO_nil ?_
  refine H_env (ρ':=[(4,_)]) ⟨rfl,trivial⟩ ?_
  refine H_world (kp [yy,nn,nn,nn,nn,nn] [_] rfl) ?_
  refine H_freeze (i:=0) (R:=[]) rfl hMn ?_
  refine H_ret1 Tryz.results54 (.tmp rfl) (fun w hA => ⟨y23,congrArg Ending.returned ?_,?_,?_⟩)
  ·(simp [Ent.entB,Cod.size_mk, *])
  ·trivial
  ·exact (hA.keep (m:=[yy]) (Y:=[_]) rfl).cast (by simp [Ent.entB,Cod.size_mk, *])
 intro h16
 replace h16:=dF h16
 refine H_seq ?_
 refine H_region (l:=[_,_]) rfl ?_
 refine HO_bin rfl rfl rfl rfl bin_eql ?_
 refine HO_assign rfl rfl rfl ?_
 refine HO_nil ?_
 refine H_env (ρ':=[(24,_),(0,_),(3,_)]) ⟨rfl,rfl,rfl,trivial⟩ ?_
 refine H_cond rfl ?_ ?_
 ·intro h24
  replace h24:=dT h24
  refine H_seq ?_
  refine H_region (l:=[_,_,_,_,_]) rfl ?_
  refine HO_move rfl rfl rfl ?_
  refine HO_fieldAddr (r:=11) rfl rfl rfl Tryz.underlying70 rfl Tryz.sizeOf31 rfl ?_
  refine HO_loadA (i:=1) (us:=[_,_,_,_,_,_,_,_,_,_,_]) (cs:=[_,_]) (ts:=[]) rfl rfl rfl Tryz.isAgg31 Tryz.sizeOf31 rfl (.loc _ _ _) rfl rfl rfl rfl ?_
  refine HO_dup (i:=0) rfl rfl ?_
  refine HO_dup (i:=3) rfl rfl ?_
  refine HO_dup (i:=5) rfl rfl ?_
  refine HO_call (first:=[]) (capt:=[]) (is:=[0,0,0]) (R:=[_,_,_,_]) rfl rfl rfl rfl rfl Tryz.call90 rfl (putconf_spec _ _ _ _ _ _ _ _ _ ?_ ?_ ?_) ?_
  ·(simp only [List.length_append];omega)
  ·omega
  ·omega
  intro y29 hy29
  refine HO_assign rfl rfl rfl ?_
  refine HO_nil ?_
  refine H_env (ρ':=[(4,_)]) ⟨rfl,trivial⟩ ?_
  refine H_world (kp [yy,nn,nn,nn,nn] [_] rfl) ?_
  refine H_ret1 Tryz.results54 (.tmp rfl) (fun w hA => ⟨y29,congrArg Ending.returned ?_,?_,?_⟩)
  ·(simp [Ent.entB,Cod.size_mk, *])
  ·trivial
  ·exact (hA.keep (m:=[yy]) (Y:=[_]) rfl).cast (by simp [Ent.entB,Cod.size_mk, *])
 intro h24
 replace h24:=dF h24
 refine H_skip ?_
 refine H_blk ?_
 refine H_seq ?_
 refine H_region (l:=[_,_]) rfl ?_
 refine HO_move rfl rfl rfl ?_
 refine HO_assign rfl rfl rfl ?_
 refine HO_nil ?_
 refine H_env (ρ':=[(4,_)]) ⟨rfl,trivial⟩ ?_
 refine H_world (kp [yy,nn,nn,nn] [_] rfl) ?_
 refine H_ret1 Tryz.results54 (.tmp rfl) (fun w hA => ⟨y13,congrArg Ending.returned ?_,?_,?_⟩)
 ·(simp [Ent.entB,Cod.size_mk, *])
 ·trivial
 ·exact (hA.keep (m:=[yy]) (Y:=[_]) rfl).cast (by simp [Ent.entB,Cod.size_mk, *])
theorem putsnap_spec (b : List UInt8) (a0 : Option Addr) (c0 : Nat) (ix te : Int) (vo le : List Int) (a1 : Option Addr) (c1 : Nat) (a2 : Option Addr) (c2 : Nat) (da : List UInt8) (a3 : Option Addr) (c3 : Nat) (hb : b.length≤100000000) (hd : da.length≤100000) (hv : vo.length≤100000) (hl : le.length≤100000) (hr : (-9223372036854775808≤ix∧ix≤9223372036854775807)∧(-9223372036854775808≤te∧te≤9223372036854775807)) : Spec Tryz.prog 55 #[.slice a0 (b.length) c0,.agg #[.int .i64 (ix),.int .i64 (te),.slice a1 (vo.length) c1,.slice a2 (le.length) c2,.slice a3 (da.length) c3]] [.dat kByte.sl (b) [.slice a0 (b.length) c0],.dat kInt.sl (vo) [.slice a1 (vo.length) c1],.dat kInt.sl (le) [.slice a2 (le.length) c2],.dat kByte.sl (da) [.slice a3 (da.length) c3]] (β:=Option Addr × Nat) (fun y => .slice y.1 ((b ++ Ent.snapB ⟨ix,te,⟨vo,le⟩,da⟩).length) y.2) (fun y => True) (fun y => [.dat kByte.sl (b ++ Ent.snapB ⟨ix,te,⟨vo,le⟩,da⟩) [.slice y.1 ((b ++ Ent.snapB ⟨ix,te,⟨vo,le⟩,da⟩).length) y.2]]):=by
 have hn3:=Ent.nums_len [ix,te]
 simp only [List.length_cons,List.length_nil] at hn3
 have hcl:=Ent.conf_len ⟨vo,le⟩
 dsimp only at hcl
 refine Spec.enter (vs:=[_,_]) Tryz.func55 rfl Tryz.ntmps55 rfl (Nat.le_of_ble_eq_true rfl) (fun w0 ok0 => ?_)
 generalize hM0 : blks _ = M0
 have hMn:=@noM _ _ hM0 (by simp [Atom.dat,Atom.elem])
 refine H_len_le (i:=1) rfl ?_
 intro hlen1
 refine H_len_le (i:=2) rfl ?_
 intro hlen2
 refine H_seq ?_
 refine H_region (l:=[_,_]) rfl ?_
 refine HO_box (cs:=[_,_,_,_,_]) rfl rfl rfl rfl ?_
 intro g3
 refine HO_assign rfl rfl rfl ?_
 refine HO_nil ?_
 refine H_env (ρ':=[(3,_),(0,_)]) ⟨rfl,rfl,trivial⟩ ?_
 refine H_seq ?_
 refine H_drawB (m:=[yy,yy,yy,yy,yy]) (Xs:=[_,_,_,_,_]) (fuel:=15) (l:=#[false,false,false,false,false,false,false,false,false,false,false,false,false,false,false]) mixed rfl rfl rfl ?_
 refine HA_take (i:=0) bp rfl rfl rfl rfl (by kernel_rfl) rfl (V_move rfl) (fun _ hA => hA) ?_
 refine HA_take (i:=1) bp rfl rfl rfl rfl (by kernel_rfl) rfl (V_fieldAddr (r:=0) rfl Tryz.underlying34 rfl Tryz.sizeOf3 rfl) (fun _ hA => hA) ?_
 refine HA_take (i:=2) bp rfl rfl rfl rfl (by kernel_rfl) rfl (V_load1 (i:=0) (j:=0) rfl Tryz.isAgg3 rfl (.loc _ _ _) rfl rfl) (fun _ hA => hA) ?_
 refine HA_take (i:=3) bp rfl rfl rfl rfl (by kernel_rfl) rfl (V_fieldAddr (r:=1) rfl Tryz.underlying34 rfl Tryz.sizeOf3 rfl) (fun _ hA => hA) ?_
 refine HA_take (i:=4) bp rfl rfl rfl rfl (by kernel_rfl) rfl (V_load1 (i:=0) (j:=1) rfl Tryz.isAgg3 rfl (.loc _ _ _) rfl rfl) (fun _ hA => hA) ?_
 refine HA_take (i:=7) bp rfl rfl rfl rfl (by kernel_rfl) rfl (V_fieldAddr (r:=2) rfl Tryz.underlying34 rfl Tryz.sizeOf31 rfl) (fun _ hA => hA) ?_
 refine HA_take (i:=8) bp rfl rfl rfl rfl (by kernel_rfl) rfl (V_loadA (i:=0) (us:=[_,_]) (cs:=[_,_]) (ts:=[_]) rfl Tryz.isAgg31 Tryz.sizeOf31 rfl (.loc _ _ _) rfl rfl rfl rfl) (fun _ hA => hA) ?_
 refine HA_take (i:=10) bp rfl rfl rfl rfl (by kernel_rfl) rfl (V_fieldAddr (r:=4) rfl Tryz.underlying34 rfl Tryz.sizeOf32 rfl) (fun _ hA => hA) ?_
 refine HA_take (i:=11) bp rfl rfl rfl rfl (by kernel_rfl) rfl (V_load1 (i:=0) (j:=4) rfl Tryz.isAgg32 rfl (.loc _ _ _) rfl rfl) (fun _ hA => hA) ?_
 refine HA_take (i:=12) bp rfl rfl rfl rfl (by kernel_rfl) rfl (V_bytesStr (i:=4) rfl Tryz.underlying32 Tryz.underlying9 Tryz.underlying5 rfl) (fun _ hA => hA) ?_
 refine HA_loud1 (i:=5) (by kernel_rfl) rfl ?_
 refine HO_buildSlice (kd:=kInt) (xo:=[_,_]) (vs:=[_,_]) (cs:=[_,_]) (xs:=[ix,te]) rfl rfl rfl rfl Tryz.underlying29 elt3 rfl rfl rfl (by decide) (by decide) (by simp [Value.cells]) rfl (by intro ok w _;exact ⟨_,_,rfl,⟨rfl,by first | omega | (constructor <;> omega)⟩,⟨_,_,rfl,⟨rfl,by first | omega | (constructor <;> omega)⟩,rfl⟩⟩) ?_
 intro g10
 refine HA_back rfl (kp [nn,yy,yy,yy,yy,yy] [_,_,_,_,_] rfl) ?_
 refine HA_loud1 (i:=6) (by kernel_rfl) rfl ?_
 refine HO_freeze (i:=0) (R:=[_,_,_,_,_]) rfl hMn ?_
 refine HO_dup (i:=2) rfl rfl ?_
 refine HO_dup (i:=1) rfl rfl ?_
 refine HO_call (first:=[]) (capt:=[]) (is:=[0,0]) (R:=[_,_,_,_,_,_]) rfl rfl rfl rfl rfl Tryz.call51 rfl (nums_spec _ _ _ _ _ _ ?_ ?_) ?_
 ·omega
 ·(simp)
 intro y11 hy11
 refine HA_back rfl (kp [nn,nn,yy,yy,yy,yy,yy] [_,_,_,_,_] rfl) ?_
 refine HA_loud1 (i:=9) (by kernel_rfl) rfl ?_
 refine HO_dup (i:=0) rfl rfl ?_
 refine HO_dup (i:=5) rfl rfl ?_
 refine HO_dup (i:=7) rfl rfl ?_
 refine HO_call (first:=[]) (capt:=[]) (is:=[0,0,0]) (R:=[_,_,_,_,_,_,_]) rfl rfl rfl rfl rfl Tryz.call90 rfl (putconf_spec _ _ _ _ _ _ _ _ _ ?_ ?_ ?_) ?_
 ·(simp only [List.length_append];omega)
 ·omega
 ·omega
 intro y14 hy14
 refine HA_back rfl (kp [nn,nn,nn,yy,yy,yy,yy,yy] [_,_,_,_,_] rfl) ?_
 refine HA_loud1 (i:=13) (by kernel_rfl) rfl ?_
 refine HO_dup (i:=0) rfl rfl ?_
 refine HO_call (first:=[]) (capt:=[]) (is:=[0]) (R:=[_,_,_,_,_,_,_,_]) rfl rfl rfl rfl rfl Tryz.call88 rfl (PutText_spec _ _ _ _ ?_ ?_) ?_
 ·(rw [Cod.size_mk];omega)
 ·(simp only [List.length_append];omega)
 intro y18 hy18
 refine HA_back rfl (kp [nn,nn,nn,nn,yy,yy,yy,yy,yy] [_,_,_,_,_] rfl) ?_
 refine HA_take (i:=14) bp rfl rfl rfl rfl (by kernel_rfl) rfl (V_assign rfl) (kp [nn,nn,nn,nn,yy,yy,yy,yy,yy] [_,_,_,_,_] rfl) ?_
 refine HA_done (by kernel_rfl) ?_
 refine H_env (ρ':=[(4,_)]) ⟨rfl,trivial⟩ ?_
 refine H_world (kp [yy,nn,nn,nn,nn,nn,nn,nn,nn] [_] rfl) ?_
 refine H_freeze (i:=0) (R:=[]) rfl hMn ?_
 refine H_ret1 Tryz.results55 (.tmp rfl) (fun w hA => ⟨y18,congrArg Ending.returned ?_,?_,?_⟩)
 ·(simp [Ent.snapB,Cod.size_mk])
 ·trivial
 ·exact (hA.keep (m:=[yy]) (Y:=[_]) rfl).cast (by simp [Ent.snapB,Cod.size_mk])
theorem goodsnap_spec (ix te : Int) (vo le : List Int) (a1 : Option Addr) (c1 : Nat) (a2 : Option Addr) (c2 : Nat) (da : List UInt8) (a3 : Option Addr) (c3 : Nat)  : Spec Tryz.prog 47 #[.agg #[.int .i64 (ix),.int .i64 (te),.slice a1 (vo.length) c1,.slice a2 (le.length) c2,.slice a3 (da.length) c3]] [.dat kInt.sl (vo) [.slice a1 (vo.length) c1],.dat kInt.sl (le) [.slice a2 (le.length) c2],.dat kByte.sl (da) [.slice a3 (da.length) c3]] (β:=Unit) (fun y => .bool (Ent.goodSnap ⟨ix,te,⟨vo,le⟩,da⟩)) (fun y => True) (fun y => []):=by
 refine Spec.enter (vs:=[_]) Tryz.func47 rfl Tryz.ntmps47 rfl (Nat.le_of_ble_eq_true rfl) (fun w0 ok0 => ?_)
 generalize hM0 : blks _ = M0
 have hMn:=@noM _ _ hM0 (by simp [Atom.dat,Atom.elem])
 refine H_len_le (i:=0) rfl ?_
 intro hlen0
 refine H_len_le (i:=1) rfl ?_
 intro hlen1
 refine H_seq ?_
 refine H_region (l:=[_,_]) rfl ?_
 refine HO_box (cs:=[_,_,_,_,_]) rfl rfl rfl rfl ?_
 intro g1
 refine HO_assign rfl rfl rfl ?_
 refine HO_nil ?_
 refine H_env (ρ':=[(1,_)]) ⟨rfl,trivial⟩ ?_
 refine H_seq ?_
 refine H_region (l:=[_,_,_,_,_,_,_,_,_,_,_,_,_,_,_,_,_,_,_,_]) rfl ?_
 refine HO_fieldAddr (r:=0) rfl rfl rfl Tryz.underlying34 rfl Tryz.sizeOf3 rfl ?_
 refine HO_load1 (i:=0) (j:=0) rfl rfl rfl Tryz.isAgg3 rfl (.loc _ _ _) rfl rfl ?_
 refine HO_bin rfl rfl rfl rfl bin_gtr ?_
 refine HO_move rfl rfl rfl ?_
 refine HO_split (d:=6) rfl ?_ ?_
 ·intro h6
  replace h6:=dT h6
  refine HO_fieldAddr (r:=1) rfl rfl rfl Tryz.underlying34 rfl Tryz.sizeOf3 rfl ?_
  refine HO_load1 (i:=0) (j:=1) rfl rfl rfl Tryz.isAgg3 rfl (.loc _ _ _) rfl rfl ?_
  refine HO_bin rfl rfl rfl rfl bin_gtr ?_
  refine HO_pick_t rfl rfl rfl rfl ?_
  refine HO_move rfl rfl rfl ?_
  refine HO_split (d:=11) rfl ?_ ?_
  ·intro h11
   replace h11:=dT h11
   refine HO_fieldAddr (r:=2) rfl rfl rfl Tryz.underlying34 rfl Tryz.sizeOf31 rfl ?_
   refine HO_loadA (i:=0) (us:=[_,_]) (cs:=[_,_]) (ts:=[_]) rfl rfl rfl Tryz.isAgg31 Tryz.sizeOf31 rfl (.loc _ _ _) rfl rfl rfl rfl ?_
   refine HO_dup (i:=1) rfl rfl ?_
   refine HO_dup (i:=3) rfl rfl ?_
   refine HO_call (first:=[]) (capt:=[]) (is:=[0,0]) (R:=[_,_,_,_]) rfl rfl rfl rfl rfl Tryz.call85 rfl (goodconf_spec _ _ _ _ _ _) ?_
   intro y14 hy14
   clear y14 hy14
   refine HO_pick_t rfl rfl rfl rfl ?_
   refine HO_move rfl rfl rfl ?_
   refine HO_split (d:=16) rfl ?_ ?_
   ·intro h16
    refine HO_fieldAddr (r:=4) rfl rfl rfl Tryz.underlying34 rfl Tryz.sizeOf32 rfl ?_
    refine HO_load1 (i:=0) (j:=4) rfl rfl rfl Tryz.isAgg32 rfl (.loc _ _ _) rfl rfl ?_
    refine HO_bi rfl rfl rfl (bi_len_sl Tryz.underlying32) ?_
    refine HO_bin rfl rfl rfl rfl bin_leq ?_
    refine HO_pick_t rfl rfl rfl rfl ?_
    refine HO_assign rfl rfl rfl ?_
    refine HO_nil ?_
    refine H_env (ρ':=[(2,_)]) ⟨rfl,trivial⟩ ?_
    refine H_world (kp [nn,nn,nn,nn] [] rfl) ?_
    refine H_ret1 Tryz.results47 (.tmp rfl) (fun w hA => ⟨(),congrArg Ending.returned ?_,?_,?_⟩)
    ·(exact congrArg Value.bool (by first | (simp [Ent.goodSnap,Ent.one_le, *];done) | (simp_all [Ent.goodSnap,Ent.one_le];done) | (simp_all [Ent.goodSnap,Ent.one_le];omega)))
    ·trivial
    ·exact hA.keep (m:=[]) (Y:=[]) rfl
   intro h16
   iterate 4 refine HO_no rfl rfl rfl ?_
   refine HO_pick_f rfl rfl rfl rfl ?_
   refine HO_assign rfl rfl rfl ?_
   refine HO_nil ?_
   refine H_env (ρ':=[(2,_)]) ⟨rfl,trivial⟩ ?_
   refine H_world (kp [nn,nn,nn,nn] [] rfl) ?_
   refine H_ret1 Tryz.results47 (.tmp rfl) (fun w hA => ⟨(),congrArg Ending.returned ?_,?_,?_⟩)
   ·(exact congrArg Value.bool (by first | (simp [Ent.goodSnap,Ent.one_le, *];done) | (simp_all [Ent.goodSnap,Ent.one_le];done) | (simp_all [Ent.goodSnap,Ent.one_le];omega)))
   ·trivial
   ·exact hA.keep (m:=[]) (Y:=[]) rfl
  intro h11
  replace h11:=dF h11
  iterate 3 refine HO_no rfl rfl rfl ?_
  refine HO_pick_f rfl rfl rfl rfl ?_
  refine HO_move rfl rfl rfl ?_
  iterate 4 refine HO_no rfl rfl rfl ?_
  refine HO_pick_f rfl rfl rfl rfl ?_
  refine HO_assign rfl rfl rfl ?_
  refine HO_nil ?_
  refine H_env (ρ':=[(2,_)]) ⟨rfl,trivial⟩ ?_
  refine H_world (kp [nn,nn,nn,nn] [] rfl) ?_
  refine H_ret1 Tryz.results47 (.tmp rfl) (fun w hA => ⟨(),congrArg Ending.returned ?_,?_,?_⟩)
  ·(exact congrArg Value.bool (by first | (simp [Ent.goodSnap,Ent.one_le, *];done) | (simp_all [Ent.goodSnap,Ent.one_le];done) | (simp_all [Ent.goodSnap,Ent.one_le];omega)))
  ·trivial
  ·exact hA.keep (m:=[]) (Y:=[]) rfl
 intro h6
 replace h6:=dF h6
 iterate 3 refine HO_no rfl rfl rfl ?_
 refine HO_pick_f rfl rfl rfl rfl ?_
 refine HO_move rfl rfl rfl ?_
 iterate 3 refine HO_no rfl rfl rfl ?_
 refine HO_pick_f rfl rfl rfl rfl ?_
 refine HO_move rfl rfl rfl ?_
 iterate 4 refine HO_no rfl rfl rfl ?_
 refine HO_pick_f rfl rfl rfl rfl ?_
 refine HO_assign rfl rfl rfl ?_
 refine HO_nil ?_
 refine H_env (ρ':=[(2,_)]) ⟨rfl,trivial⟩ ?_
 refine H_world (kp [nn,nn,nn,nn] [] rfl) ?_
 refine H_ret1 Tryz.results47 (.tmp rfl) (fun w hA => ⟨(),congrArg Ending.returned ?_,?_,?_⟩)
 ·(exact congrArg Value.bool (by first | (simp [Ent.goodSnap,Ent.one_le, *];done) | (simp_all [Ent.goodSnap,Ent.one_le];done) | (simp_all [Ent.goodSnap,Ent.one_le];omega)))
 ·trivial
 ·exact hA.keep (m:=[]) (Y:=[]) rfl
theorem rgoodsnap_spec (ix te : Int) (vo le : List Int) (a1 : Option Addr) (c1 : Nat) (a2 : Option Addr) (c2 : Nat) (da : List UInt8) (a3 : Option Addr) (c3 : Nat)  : Spec Tryz.prog 44 #[.agg #[.int .i64 (ix),.int .i64 (te),.slice a1 (vo.length) c1,.slice a2 (le.length) c2,.slice a3 (da.length) c3]] [.dat kInt.sl (vo) [.slice a1 (vo.length) c1],.dat kInt.sl (le) [.slice a2 (le.length) c2],.dat kByte.sl (da) [.slice a3 (da.length) c3]] (β:=Unit) (fun y => .bool (Ent.goodSnap ⟨ix,te,⟨vo,le⟩,da⟩)) (fun y => True) (fun y => []):=by
 refine Spec.enter (vs:=[_]) Tryz.func44 rfl Tryz.ntmps44 rfl (Nat.le_of_ble_eq_true rfl) (fun w0 ok0 => ?_)
 generalize hM0 : blks _ = M0
 have hMn:=@noM _ _ hM0 (by simp [Atom.dat,Atom.elem])
 refine H_len_le (i:=0) rfl ?_
 intro hlen0
 refine H_len_le (i:=1) rfl ?_
 intro hlen1
 refine H_seq ?_
 refine H_region (l:=[_,_]) rfl ?_
 refine HO_box (cs:=[_,_,_,_,_]) rfl rfl rfl rfl ?_
 intro g1
 refine HO_assign rfl rfl rfl ?_
 refine HO_nil ?_
 refine H_env (ρ':=[(1,_)]) ⟨rfl,trivial⟩ ?_
 refine H_seq ?_
 refine H_region (l:=[_,_,_,_,_,_,_,_,_,_,_,_,_,_,_,_,_,_,_,_]) rfl ?_
 refine HO_fieldAddr (r:=0) rfl rfl rfl Tryz.underlying34 rfl Tryz.sizeOf3 rfl ?_
 refine HO_load1 (i:=0) (j:=0) rfl rfl rfl Tryz.isAgg3 rfl (.loc _ _ _) rfl rfl ?_
 refine HO_bin rfl rfl rfl rfl bin_geq ?_
 refine HO_move rfl rfl rfl ?_
 refine HO_split (d:=6) rfl ?_ ?_
 ·intro h6
  replace h6:=dT h6
  refine HO_fieldAddr (r:=1) rfl rfl rfl Tryz.underlying34 rfl Tryz.sizeOf3 rfl ?_
  refine HO_load1 (i:=0) (j:=1) rfl rfl rfl Tryz.isAgg3 rfl (.loc _ _ _) rfl rfl ?_
  refine HO_bin rfl rfl rfl rfl bin_geq ?_
  refine HO_pick_t rfl rfl rfl rfl ?_
  refine HO_move rfl rfl rfl ?_
  refine HO_split (d:=11) rfl ?_ ?_
  ·intro h11
   replace h11:=dT h11
   refine HO_fieldAddr (r:=2) rfl rfl rfl Tryz.underlying34 rfl Tryz.sizeOf31 rfl ?_
   refine HO_loadA (i:=0) (us:=[_,_]) (cs:=[_,_]) (ts:=[_]) rfl rfl rfl Tryz.isAgg31 Tryz.sizeOf31 rfl (.loc _ _ _) rfl rfl rfl rfl ?_
   refine HO_dup (i:=1) rfl rfl ?_
   refine HO_dup (i:=3) rfl rfl ?_
   refine HO_call (first:=[]) (capt:=[]) (is:=[0,0]) (R:=[_,_,_,_]) rfl rfl rfl rfl rfl Tryz.call83 rfl (rgoodconf_spec _ _ _ _ _ _) ?_
   intro y14 hy14
   clear y14 hy14
   refine HO_pick_t rfl rfl rfl rfl ?_
   refine HO_move rfl rfl rfl ?_
   refine HO_split (d:=16) rfl ?_ ?_
   ·intro h16
    refine HO_fieldAddr (r:=4) rfl rfl rfl Tryz.underlying34 rfl Tryz.sizeOf32 rfl ?_
    refine HO_load1 (i:=0) (j:=4) rfl rfl rfl Tryz.isAgg32 rfl (.loc _ _ _) rfl rfl ?_
    refine HO_bi rfl rfl rfl (bi_len_sl Tryz.underlying32) ?_
    refine HO_bin rfl rfl rfl rfl bin_leq ?_
    refine HO_pick_t rfl rfl rfl rfl ?_
    refine HO_assign rfl rfl rfl ?_
    refine HO_nil ?_
    refine H_env (ρ':=[(2,_)]) ⟨rfl,trivial⟩ ?_
    refine H_world (kp [nn,nn,nn,nn] [] rfl) ?_
    refine H_ret1 Tryz.results44 (.tmp rfl) (fun w hA => ⟨(),congrArg Ending.returned ?_,?_,?_⟩)
    ·(exact congrArg Value.bool (by first | (simp [Ent.goodSnap,Ent.one_le, *];done) | (simp_all [Ent.goodSnap,Ent.one_le];done) | (simp_all [Ent.goodSnap,Ent.one_le];omega)))
    ·trivial
    ·exact hA.keep (m:=[]) (Y:=[]) rfl
   intro h16
   iterate 4 refine HO_no rfl rfl rfl ?_
   refine HO_pick_f rfl rfl rfl rfl ?_
   refine HO_assign rfl rfl rfl ?_
   refine HO_nil ?_
   refine H_env (ρ':=[(2,_)]) ⟨rfl,trivial⟩ ?_
   refine H_world (kp [nn,nn,nn,nn] [] rfl) ?_
   refine H_ret1 Tryz.results44 (.tmp rfl) (fun w hA => ⟨(),congrArg Ending.returned ?_,?_,?_⟩)
   ·(exact congrArg Value.bool (by first | (simp [Ent.goodSnap,Ent.one_le, *];done) | (simp_all [Ent.goodSnap,Ent.one_le];done) | (simp_all [Ent.goodSnap,Ent.one_le];omega)))
   ·trivial
   ·exact hA.keep (m:=[]) (Y:=[]) rfl
  intro h11
  replace h11:=dF h11
  iterate 3 refine HO_no rfl rfl rfl ?_
  refine HO_pick_f rfl rfl rfl rfl ?_
  refine HO_move rfl rfl rfl ?_
  iterate 4 refine HO_no rfl rfl rfl ?_
  refine HO_pick_f rfl rfl rfl rfl ?_
  refine HO_assign rfl rfl rfl ?_
  refine HO_nil ?_
  refine H_env (ρ':=[(2,_)]) ⟨rfl,trivial⟩ ?_
  refine H_world (kp [nn,nn,nn,nn] [] rfl) ?_
  refine H_ret1 Tryz.results44 (.tmp rfl) (fun w hA => ⟨(),congrArg Ending.returned ?_,?_,?_⟩)
  ·(exact congrArg Value.bool (by first | (simp [Ent.goodSnap,Ent.one_le, *];done) | (simp_all [Ent.goodSnap,Ent.one_le];done) | (simp_all [Ent.goodSnap,Ent.one_le];omega)))
  ·trivial
  ·exact hA.keep (m:=[]) (Y:=[]) rfl
 intro h6
 replace h6:=dF h6
 iterate 3 refine HO_no rfl rfl rfl ?_
 refine HO_pick_f rfl rfl rfl rfl ?_
 refine HO_move rfl rfl rfl ?_
 iterate 3 refine HO_no rfl rfl rfl ?_
 refine HO_pick_f rfl rfl rfl rfl ?_
 refine HO_move rfl rfl rfl ?_
 iterate 4 refine HO_no rfl rfl rfl ?_
 refine HO_pick_f rfl rfl rfl rfl ?_
 refine HO_assign rfl rfl rfl ?_
 refine HO_nil ?_
 refine H_env (ρ':=[(2,_)]) ⟨rfl,trivial⟩ ?_
 refine H_world (kp [nn,nn,nn,nn] [] rfl) ?_
 refine H_ret1 Tryz.results44 (.tmp rfl) (fun w hA => ⟨(),congrArg Ending.returned ?_,?_,?_⟩)
 ·(exact congrArg Value.bool (by first | (simp [Ent.goodSnap,Ent.one_le, *];done) | (simp_all [Ent.goodSnap,Ent.one_le];done) | (simp_all [Ent.goodSnap,Ent.one_le];omega)))
 ·trivial
 ·exact hA.keep (m:=[]) (Y:=[]) rfl
end Go.Wk
