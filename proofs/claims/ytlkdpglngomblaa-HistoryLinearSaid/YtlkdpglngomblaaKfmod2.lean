/- Contracts of the program's functions, each proved by walking its code. -/
import Derived.Test.YtlkdpglngomblaaKfmod1
import Derived.Test.YtlkdpglngomblaaMod3
set_option maxRecDepth 100000
set_option linter.unusedVariables false
set_option linter.unusedSimpArgs false
namespace Go.Wk.Fmod2
open Go Go.RowKit Go.Proofs Go.Wk
theorem elt67 : Elt Try.prog 67 (.agg #[.int .i64 (0),.int .i64 (0),.int .i64 (0),.bool (false),.string (⟨#[]⟩),.int .i64 (0),.slice none 0 0]) 7 80:=Elt.of (by kernel_rfl) (by rfl) (by decide) (by decide)
theorem elt70 : Elt Try.prog 70 (.agg #[.string (⟨#[]⟩),.string (⟨#[]⟩)]) 2 32:=Elt.of (by kernel_rfl) (by rfl) (by decide) (by decide)
end Go.Wk.Fmod2
namespace Go.Wk
open Go Go.RowKit Go.Proofs Fmod2 
theorem cloneP_spec (xs : List Pair) (a : Option Addr) (c : Nat) (hl : xs.length≤10000) : Spec Try.prog 107 #[.slice a (xs.length) c] [.dat kPair.sl (xs) [.slice a (xs.length) c]] (β:=Option Addr × Nat) (fun y => .slice y.1 (xs.length) y.2) (fun y => True) (fun y => [.own 70 kPair y.1 y.2 (xs)]):=by
 refine Spec.enter (vs:=[_]) Try.func107 rfl Try.ntmps107 rfl (Nat.le_of_ble_eq_true rfl) (fun w0 ok0 => ?_)
 generalize hM0 : blks _ = M0
 have hMn:=@noM _ _ hM0 (by simp [Atom.dat,Atom.elem])
 refine H_len_le (i:=0) rfl ?_
 intro hlen0
 refine H_seq ?_
 refine H_region (l:=[_]) rfl ?_
 refine HO_assign rfl rfl rfl ?_
 refine HO_nil ?_
 refine H_env (ρ':=[(0,_)]) ⟨rfl,trivial⟩ ?_
 refine H_seq ?_
 refine H_seq ?_
 refine H_region (l:=[_,_]) rfl ?_
 refine HO_move rfl rfl rfl ?_
 refine HO_bin rfl rfl rfl rfl (bin_sl_eq_nil Try.runUnderlying31) ?_
 refine HO_nil ?_
 refine H_env (ρ':=[(4,_),(0,_)]) ⟨rfl,rfl,trivial⟩ ?_
 refine H_cond rfl ?_ ?_
 ·intro h4
  refine H_seq ?_
  refine H_datNone (i:=0) rfl h4 (fun hx => ?_)
  subst hx
  refine H_region (l:=[_]) rfl ?_
  refine HO_assign rfl rfl rfl ?_
  refine HO_nil ?_
  refine H_env (ρ':=[(2,_)]) ⟨rfl,trivial⟩ ?_
  refine H_world (kp [nn] [] rfl) ?_
  refine H_own0 kPair 70 none ?_
  refine H_ret1 Try.results107 (.tmp rfl) (fun w hA => ⟨(none,0),congrArg Ending.returned ?_,?_,?_⟩)
  ·rfl
  ·trivial
  ·exact hA.keep (m:=[yy]) (Y:=[_]) rfl
 intro h4
 refine H_skip ?_
 refine H_seq ?_
 refine H_region (l:=[_,_,_,_]) rfl ?_
 refine HO_buildSlice0 (kd:=kPair) rfl rfl Try.underlying31 elt70 ?_
 intro g5
 refine HO_move rfl rfl rfl ?_
 refine HO_append (i:=0) (R:=[_]) rfl rfl rfl rfl rfl Try.underlying31 elt70 rfl rfl (SrcOk.dat (j:=0) Try.underlying31 rfl) ?_ ?_
 ·(simp only [List.length_nil];omega)
 intro a7 c7
 refine HO_assign rfl rfl rfl ?_
 refine HO_nil ?_
 refine H_env (ρ':=[(2,_)]) ⟨rfl,trivial⟩ ?_
 refine H_world (kp [yy,nn] [_] rfl) ?_
 refine H_ret1 Try.results107 (.tmp rfl) (fun w hA => ⟨(a7,c7),congrArg Ending.returned ?_,?_,?_⟩)
 ·rfl
 ·trivial
 ·exact hA.keep (m:=[yy]) (Y:=[_]) rfl
theorem bsfP_spec (xs : List Pair) (a : Option Addr) (c : Nat) (k : ByteArray) (g : Nat) (hs : soStr.Srt Pair.key xs) (hl : xs.length≤10000) : Spec Try.prog 104 #[.slice a (xs.length) c,.string (k),.func (.func 105) #[] #[.pointer (some ⟨g,0,none⟩)]] [.dat kPair.sl (xs) [.slice a (xs.length) c],.loc g [.func (.func 88) #[] #[]] 136] (β:=Unit) (fun y => .tuple #[.int .i64 ((soStr.rank Pair.key k xs : Int)),.bool (soStr.found Pair.key k xs)]) (fun y => True) (fun y => [.loc g [.func (.func 88) #[] #[]] 136]):=by
 refine Spec.enter (vs:=[_,_,_]) Try.func104 rfl Try.ntmps104 rfl (Nat.le_of_ble_eq_true rfl) (fun w0 ok0 => ?_)
 generalize hM0 : blks _ = M0
 refine H_len_le (i:=0) rfl ?_
 intro hlen0
 refine H_seq ?_
 refine H_region (l:=[_,_]) rfl ?_
 iterate 2 refine HO_assign rfl rfl rfl ?_
 refine HO_nil ?_
 refine H_env (ρ':=[(0,_),(1,_),(2,_)]) ⟨rfl,rfl,rfl,trivial⟩ ?_
 refine H_seq ?_
 refine H_region (l:=[_,_,_]) rfl ?_
 refine HO_move rfl rfl rfl ?_
 refine HO_bi rfl rfl rfl (bi_len_sl Try.underlying31) ?_
 refine HO_assign rfl rfl rfl ?_
 refine HO_nil ?_
 refine H_env (ρ':=[(8,_),(0,_),(1,_),(2,_)]) ⟨rfl,rfl,rfl,rfl,trivial⟩ ?_
 refine H_seq ?_
 refine H_region (l:=[_,_,_]) rfl ?_
 refine HO_move rfl rfl rfl ?_
 iterate 2 refine HO_assign rfl rfl rfl ?_
 refine HO_nil ?_
 refine H_env (ρ':=[(10,_),(9,_),(8,_),(0,_),(1,_),(2,_)]) ⟨rfl,rfl,rfl,rfl,rfl,rfl,trivial⟩ ?_
 refine H_seq ?_
 refine H_block ?_
 refine H_loop (σ:=Nat × Nat) (fun s => s.1≤s.2∧s.2≤xs.length∧(∀ q x,q < s.1→xs[q]? = some x→soStr.lt (Pair.key x) k = true)∧(∀ q x,s.2≤q→xs[q]? = some x→soStr.lt (Pair.key x) k = false)) (fun s => [(0,.slice a (xs.length) c),(1,.string (k)),(2,.func (.func 105) #[] #[.pointer (some ⟨g,0,none⟩)]),(8,.int .i64 ((xs.length : Int))),(9,.int .i64 ((s.1 : Int))),(10,.int .i64 ((s.2 : Int)))]) (fun s => Asn w0 ok0 M0 [.dat kPair.sl (xs) [.slice a (xs.length) c],.loc g [.func (.func 88) #[] #[]] 136]) (fun s => s.2 - s.1) ⟨0,xs.length⟩ ?_ ?_ ?_ ?_
 ·exact ⟨Nat.zero_le _,Nat.le_refl _,fun q x hq _ => absurd hq (Nat.not_lt_zero _),fun q x hq hx => absurd (List.getElem?_eq_some_iff.1 hx).1 (Nat.not_lt.2 hq)⟩
 ·exact ⟨rfl,rfl,rfl,rfl,rfl,rfl,trivial⟩
 ·intro w hA
  exact hA.only (is:=[0,1]) (Z:=[]) rfl
 ·rintro ⟨i,j⟩ hI
  (try dsimp only at hI ⊢)
  refine H_seq ?_
  refine H_seq ?_
  refine H_region (l:=[_,_,_]) rfl ?_
  iterate 2 refine HO_move rfl rfl rfl ?_
  refine HO_bin rfl rfl rfl rfl bin_lss ?_
  refine HO_nil ?_
  refine H_env (ρ':=[(17,_),(0,_),(1,_),(2,_),(8,_),(9,_),(10,_)]) ⟨rfl,rfl,rfl,rfl,rfl,rfl,rfl,trivial⟩ ?_
  refine H_cond rfl ?_ ?_
  ·intro h17
   replace h17:=dT h17
   refine H_skip ?_
   refine H_block ?_
   refine H_seq ?_
   refine H_region (l:=[_,_,_,_,_,_,_]) rfl ?_
   iterate 2 refine HO_move rfl rfl rfl ?_
   refine HO_bin rfl rfl rfl rfl (bin_add ?_ ?_) ?_
   ·omega
   ·omega
   refine HO_conv rfl rfl rfl (cv_int Try.underlying3 Try.underlying75 (wrap_u_i rfl _)) ?_
   refine HO_set (v':=.int .u64 (((i + j : Nat) : Int))) 21 rfl (by exact congrArg (Value.int .u64) (by simp only [IntKind.bits];omega)) ?_
   refine HO_bin rfl rfl rfl rfl (bin_shr (s:=1) ?_) ?_
   ·(simp only [IntKind.bits];omega)
   refine HO_conv rfl rfl rfl (cv_int Try.underlying75 Try.underlying3 (wrap_i64_nat ?_)) ?_
   ·omega
   refine HO_assign rfl rfl rfl ?_
   refine HO_nil ?_
   refine H_env (ρ':=[(11,_),(0,_),(1,_),(2,_),(8,_),(9,_),(10,_)]) ⟨rfl,rfl,rfl,rfl,rfl,rfl,rfl,trivial⟩ ?_
   refine H_seq ?_
   refine H_region (l:=[_,_,_,_,_,_,_,_]) rfl ?_
   iterate 3 refine HO_move rfl rfl rfl ?_
   refine HO_indexAddr open_Pair (i:=0) rfl rfl rfl rfl rfl Try.underlying31 Try.sizeOf70 rfl ?_ ?_
   ·omega
   intro b27 o27 z27 y27 hz27 hI27
   clear y27
   (try simp only [BIG] at hI27)
   refine HO_loadA (i:=0) (us:=[]) (cs:=[_,_]) (ts:=[]) rfl rfl rfl Try.isAgg70 Try.sizeOf70 rfl (.elem _ _ _) rfl rfl rfl rfl ?_
   refine HO_move rfl rfl rfl ?_
   refine HO_call (first:=[]) (capt:=[_]) (is:=[2]) (R:=[_,_]) rfl rfl rfl rfl rfl Try.call105 rfl (findP1_spec _ _ _ _) ?_
   intro y30 hy30
   clear y30 hy30
   refine HO_bin rfl rfl rfl rfl bin_lss ?_
   refine HO_nil ?_
   refine H_env (ρ':=[(31,_),(11,_),(0,_),(1,_),(2,_),(8,_),(9,_),(10,_)]) ⟨rfl,rfl,rfl,rfl,rfl,rfl,rfl,rfl,trivial⟩ ?_
   refine H_world (kp [yy,nn,yy] [_,_] rfl) ?_
   refine H_cond rfl ?_ ?_
   ·intro h31
    replace h31:=dT h31
    refine H_region (l:=[_,_,_]) rfl ?_
    refine HO_move rfl rfl rfl ?_
    refine HO_bin rfl rfl rfl rfl (bin_add ?_ ?_) ?_
    ·omega
    ·omega
    refine HO_assign rfl rfl rfl ?_
    refine HO_nil ?_
    refine H_env (ρ':=[(9,_),(0,_),(1,_),(2,_),(8,_),(10,_)]) ⟨rfl,rfl,rfl,rfl,rfl,rfl,trivial⟩ ?_
    refine H_blk ?_
    refine H_inv (fun a w hf hA => ⟨⟨(i + j) / 2 ^ 1 + 1,j⟩,?_,?_,hf.sub ?_,?_⟩)
    ·exact ⟨by dsimp only;omega,hI.2.1,soStr.bs_lo Pair.key hs hz27 (cmpS_neg.1 h31),hI.2.2.2⟩
    ·(try dsimp only);omega
    ·exact ⟨rfl,rfl,rfl,rfl,rfl,rfl,trivial⟩
    ·exact hA.only (is:=[0,0]) (Z:=[]) rfl
   intro h31
   replace h31:=dF h31
   refine H_region (l:=[_,_]) rfl ?_
   refine HO_move rfl rfl rfl ?_
   refine HO_assign rfl rfl rfl ?_
   refine HO_nil ?_
   refine H_env (ρ':=[(10,_),(0,_),(1,_),(2,_),(8,_),(9,_)]) ⟨rfl,rfl,rfl,rfl,rfl,rfl,trivial⟩ ?_
   refine H_blk ?_
   refine H_inv (fun a w hf hA => ⟨⟨i,(i + j) / 2 ^ 1⟩,?_,?_,hf.sub ?_,?_⟩)
   ·exact ⟨by dsimp only;omega,by dsimp only;omega,hI.2.2.1,soStr.bs_hi Pair.key hs hz27 (Bool.eq_false_iff.2 (fun e => h31 (cmpS_neg.2 e)))⟩
   ·(try dsimp only);omega
   ·exact ⟨rfl,rfl,rfl,rfl,rfl,rfl,trivial⟩
   ·exact hA.only (is:=[0,0]) (Z:=[]) rfl
  intro h17
  replace h17:=dF h17
  refine H_exit rfl ?_
  refine H_seq ?_
  obtain rfl : i = j:=by omega
  obtain rfl:=soStr.rank_is Pair.key (by omega) hs hI.2.2.1 hI.2.2.2
  refine H_region (l:=[_,_,_,_,_,_,_,_,_,_,_,_,_,_,_,_]) rfl ?_
  iterate 3 refine HO_move rfl rfl rfl ?_
  refine HO_bin rfl rfl rfl rfl bin_lss ?_
  refine HO_move rfl rfl rfl ?_
  refine HO_split (d:=39) rfl ?_ ?_
  ·intro h39
   replace h39:=dT h39
   iterate 3 refine HO_move rfl rfl rfl ?_
   refine HO_indexAddr open_Pair (i:=0) rfl rfl rfl rfl rfl Try.underlying31 Try.sizeOf70 rfl ?_ ?_
   ·omega
   intro b43 o43 z43 y43 hz43 hI43
   clear y43
   (try simp only [BIG] at hI43)
   refine HO_loadA (i:=0) (us:=[]) (cs:=[_,_]) (ts:=[]) rfl rfl rfl Try.isAgg70 Try.sizeOf70 rfl (.elem _ _ _) rfl rfl rfl rfl ?_
   refine HO_move rfl rfl rfl ?_
   refine HO_call (first:=[]) (capt:=[_]) (is:=[2]) (R:=[_,_]) rfl rfl rfl rfl rfl Try.call105 rfl (findP1_spec _ _ _ _) ?_
   intro y46 hy46
   clear y46 hy46
   refine HO_bin rfl rfl rfl rfl bin_eql ?_
   refine HO_pick_t rfl rfl rfl rfl ?_
   iterate 2 refine HO_assign rfl rfl rfl ?_
   refine HO_nil ?_
   refine H_env (ρ':=[(7,_),(6,_)]) ⟨rfl,rfl,trivial⟩ ?_
   refine H_world (kp [yy,nn,nn] [_] rfl) ?_
   refine H_ret2 Try.results104 (.tmp rfl) (.tmp rfl) (fun w hA => ⟨(),congrArg Ending.returned ?_,?_,?_⟩)
   ·exact congrArg (fun b => Value.tuple #[.int .i64 _,.bool b]) ((decide_eq_decide.2 cmpS_zero).trans (soStr.found_at Pair.key hz43).symm)
   ·trivial
   ·exact hA.keep (m:=[yy]) (Y:=[_]) rfl
  intro h39
  replace h39:=dF h39
  iterate 8 refine HO_no rfl rfl rfl ?_
  refine HO_pick_f rfl rfl rfl rfl ?_
  iterate 2 refine HO_assign rfl rfl rfl ?_
  refine HO_nil ?_
  refine H_env (ρ':=[(7,_),(6,_)]) ⟨rfl,rfl,trivial⟩ ?_
  refine H_world (kp [nn,yy] [_] rfl) ?_
  refine H_ret2 Try.results104 (.tmp rfl) (.tmp rfl) (fun w hA => ⟨(),congrArg Ending.returned ?_,?_,?_⟩)
  ·exact congrArg (fun b => Value.tuple #[.int .i64 _,.bool b]) (soStr.found_end Pair.key (by omega)).symm
  ·trivial
  ·exact hA.keep (m:=[yy]) (Y:=[_]) rfl
theorem findP_spec (xs : List Pair) (a : Option Addr) (c : Nat) (k : ByteArray) (hs : soStr.Srt Pair.key xs) (hl : xs.length≤10000) : Spec Try.prog 87 #[.slice a (xs.length) c,.string (k),.func (.func 88) #[] #[]] [.dat kPair.sl (xs) [.slice a (xs.length) c]] (β:=Unit) (fun y => .tuple #[.int .i64 ((soStr.rank Pair.key k xs : Int)),.bool (soStr.found Pair.key k xs)]) (fun y => True) (fun y => []):=by
 refine Spec.enter (vs:=[_,_,_]) Try.func87 rfl Try.ntmps87 rfl (Nat.le_of_ble_eq_true rfl) (fun w0 ok0 => ?_)
 generalize hM0 : blks _ = M0
 have hMn:=@noM _ _ hM0 (by simp [Atom.dat,Atom.elem])
 refine H_len_le (i:=0) rfl ?_
 intro hlen0
 refine H_seq ?_
 refine H_region (l:=[_,_,_]) rfl ?_
 refine HO_box (cs:=[_]) rfl rfl rfl rfl ?_
 intro g5
 iterate 2 refine HO_assign rfl rfl rfl ?_
 refine HO_nil ?_
 refine H_env (ρ':=[(5,_),(0,_),(1,_)]) ⟨rfl,rfl,rfl,trivial⟩ ?_
 refine H_seq ?_
 refine H_region (l:=[_,_,_,_,_,_,_,_]) rfl ?_
 iterate 2 refine HO_move rfl rfl rfl ?_
 refine HO_makeFunc (vs:=[]) (us:=[_]) rfl rfl rfl rfl ?_
 refine HO_dup (i:=1) rfl rfl ?_
 refine HO_call (first:=[]) (capt:=[]) (is:=[0,1]) (R:=[_]) rfl rfl rfl rfl rfl Try.call104 rfl (bsfP_spec _ _ _ _ _ ?_ ?_) ?_
 ·exact hs
 ·exact hl
 intro y11 hy11
 clear y11 hy11
 refine HO_extract (vs:=[_,_]) rfl rfl rfl rfl ?_
 refine HO_extract (vs:=[_,_]) rfl rfl rfl rfl ?_
 iterate 2 refine HO_assign rfl rfl rfl ?_
 refine HO_nil ?_
 refine H_env (ρ':=[(7,_),(6,_)]) ⟨rfl,rfl,trivial⟩ ?_
 refine H_world (kp [nn,nn] [] rfl) ?_
 refine H_ret2 Try.results87 (.tmp rfl) (.tmp rfl) (fun w hA => ⟨(),congrArg Ending.returned ?_,?_,?_⟩)
 ·rfl
 ·trivial
 ·exact hA.keep (m:=[]) (Y:=[]) rfl
set_option maxHeartbeats 0 in
theorem insertP_spec (xs : List Pair) (a : Option Addr) (c : Nat) (i gv : Nat) (x : Pair) (hi : i≤xs.length) (hl : xs.length≤10000) : Spec Try.prog 108 #[.slice a (xs.length) c,.int .i64 ((i : Int)),.slice (some ⟨gv,0,none⟩) (1) 1] [.own 70 kPair a c (xs),.own 70 kPair (some ⟨gv,0,none⟩) 1 ([x])] (β:=Option Addr × Nat) (fun y => .slice y.1 ((xs.take i ++ x :: xs.drop i).length) y.2) (fun y => True) (fun y => [.own 70 kPair y.1 y.2 (xs.take i ++ x :: xs.drop i)]):=by
 refine Spec.enter (vs:=[_,_,_]) Try.func108 rfl Try.ntmps108 rfl (Nat.le_of_ble_eq_true rfl) (fun w0 ok0 => ?_)
 generalize hM0 : blks _ = M0
 refine H_seq ?_
 refine H_region (l:=[_]) rfl ?_
 refine HO_assign rfl rfl rfl ?_
 refine HO_nil ?_
 refine H_env (ρ':=[(0,_),(1,_),(2,_)]) ⟨rfl,rfl,rfl,trivial⟩ ?_
 refine H_seq ?_
 refine H_ownLen (i:=0) rfl (fun hlc hmc => ?_)
 refine H_region (l:=[_,_,_]) rfl ?_
 iterate 2 refine HO_move rfl rfl rfl ?_
 refine HO_of_val rfl rfl rfl (V_sliceA_l rfl rfl rfl Try.underlying31 Try.sizeOf70 ?_) ?_
 ·omega
 refine HO_nil ?_
 refine H_env (ρ':=[(0,_),(1,_),(2,_)]) ⟨rfl,rfl,rfl,trivial⟩ ?_
 refine H_seq ?_
 refine H_region (l:=[_,_,_]) rfl ?_
 refine HO_move rfl rfl rfl ?_
 refine HO_bi rfl rfl rfl (bi_len_sl Try.underlying31) ?_
 refine HO_assign rfl rfl rfl ?_
 refine HO_nil ?_
 refine H_env (ρ':=[(7,_),(0,_),(1,_),(2,_)]) ⟨rfl,rfl,rfl,rfl,trivial⟩ ?_
 refine H_seq ?_
 refine H_seq ?_
 refine H_region (l:=[_,_]) rfl ?_
 refine HO_move rfl rfl rfl ?_
 refine HO_bin rfl rfl rfl rfl bin_eql ?_
 refine HO_nil ?_
 refine H_env (ρ':=[(16,_),(7,_),(0,_),(1,_),(2,_)]) ⟨rfl,rfl,rfl,rfl,rfl,trivial⟩ ?_
 refine H_cond rfl ?_ ?_
 ·intro h16
  replace h16:=dT h16
  (exfalso;omega)
 intro h16
 replace h16:=dF h16
 refine H_skip ?_
 refine H_seq ?_
 refine H_region (l:=[_,_,_]) rfl ?_
 refine HO_move rfl rfl rfl ?_
 refine HO_bi rfl rfl rfl (bi_len_sl Try.underlying31) ?_
 refine HO_assign rfl rfl rfl ?_
 refine HO_nil ?_
 refine H_env (ρ':=[(8,_),(7,_),(0,_),(1,_),(2,_)]) ⟨rfl,rfl,rfl,rfl,rfl,trivial⟩ ?_
 refine H_seq ?_
 refine H_seq ?_
 refine H_region (l:=[_,_,_]) rfl ?_
 iterate 2 refine HO_move rfl rfl rfl ?_
 refine HO_bin rfl rfl rfl rfl bin_eql ?_
 refine HO_nil ?_
 refine H_env (ρ':=[(22,_),(8,_),(7,_),(0,_),(1,_),(2,_)]) ⟨rfl,rfl,rfl,rfl,rfl,rfl,trivial⟩ ?_
 refine H_cond rfl ?_ ?_
 ·intro h22
  replace h22:=dT h22
  obtain rfl : i = xs.length:=by omega
  refine H_seq ?_
  refine H_region (l:=[_,_,_,_]) rfl ?_
  iterate 2 refine HO_move rfl rfl rfl ?_
  refine HO_append (i:=0) (R:=[_]) rfl rfl rfl rfl rfl Try.underlying31 elt70 rfl rfl (SrcOk.own (j:=0) Try.underlying31 rfl rfl) ?_ ?_
  ·(simp only [List.length_cons,List.length_nil];omega)
  intro a25 c25
  refine HO_assign rfl rfl rfl ?_
  refine HO_nil ?_
  refine H_env (ρ':=[(6,_)]) ⟨rfl,trivial⟩ ?_
  refine H_ret1 Try.results108 (.tmp rfl) (fun w hA => ⟨(a25,c25),congrArg Ending.returned ?_,?_,?_⟩)
  ·(simp)
  ·trivial
  ·(exact (hA.keep (m:=[yy,nn]) (Y:=[_]) rfl).cast (by simp))
 intro h22
 replace h22:=dF h22
 refine H_skip ?_
 refine H_seq ?_
 refine H_seq ?_
 refine H_region (l:=[_,_,_,_,_,_]) rfl ?_
 iterate 2 refine HO_move rfl rfl rfl ?_
 refine HO_bin rfl rfl rfl rfl (bin_add ?_ ?_) ?_
 ·omega
 ·omega
 refine HO_move rfl rfl rfl ?_
 refine HO_bi rfl rfl rfl (bi_cap_sl Try.underlying31) ?_
 refine HO_bin rfl rfl rfl rfl bin_gtr ?_
 refine HO_nil ?_
 refine H_env (ρ':=[(31,_),(8,_),(7,_),(0,_),(1,_),(2,_)]) ⟨rfl,rfl,rfl,rfl,rfl,rfl,trivial⟩ ?_
 refine H_cond rfl ?_ ?_
 ·intro h31
  replace h31:=dT h31
  refine H_seq ?_
  refine H_openRow (i:=0) (R:=[_]) rfl (by omega) (fun g0 vals0 spare0 ha0 hl0 hs0 hc0 hm0 ho0 => ?_)
  cases ha0
  replace hl0 : vals0.length = _ * 2:=hl0
  replace hs0 : spare0.length = _ * 2:=hs0
  (try simp only [List.length_cons,List.length_nil] at hl0 hs0 hc0)
  (try simp only [maxLen] at hm0)
  refine H_openRow (i:=2) (R:=[_,_]) rfl (by decide) (fun g2 vals2 spare2 ha2 hl2 hs2 hc2 hm2 ho2 => ?_)
  cases ha2
  replace hl2 : vals2.length = _ * 2:=hl2
  replace hs2 : spare2.length = _ * 2:=hs2
  (try simp only [List.length_cons,List.length_nil] at hl2 hs2 hc2)
  (try simp only [maxLen] at hm2)
  refine H_region (l:=[_,_,_,_,_,_,_,_,_,_]) rfl ?_
  iterate 2 refine HO_move rfl rfl rfl ?_
  refine HO_of_val rfl rfl rfl (V_sliceR_h rfl rfl rfl Try.underlying31 Try.sizeOf70 ?_) ?_
  ·omega
  iterate 2 refine HO_move rfl rfl rfl ?_
  refine HO_bin rfl rfl rfl rfl (bin_add ?_ ?_) ?_
  ·omega
  ·omega
  refine HO_move rfl rfl rfl ?_
  refine HO_bin rfl rfl rfl rfl (bin_sub ?_ ?_) ?_
  ·omega
  ·omega
  refine HO_set (v':=.int .i64 (((xs.length + 1 - i : Nat) : Int))) 39 rfl (by exact congrArg (Value.int .i64) (by omega)) ?_
  refine HO_growR (i:=2) (vals0.take (i * 2)) (vals0.drop (i * 2) ++ spare0) rfl rfl rfl rfl Try.underlying31 Try.underlying3 elt70 rfl ?_ ?_ ?_ ?_ ?_ ?_
  ·(rw [← List.append_assoc,List.take_append_drop])
  ·(rw [List.length_take];omega)
  ·omega
  ·omega
  ·omega
  intro g40 c40 zs40 sp40 hc40 hm40 hz40 hs40
  simp only [maxLen] at hm40
  refine HO_assign rfl rfl rfl ?_
  refine HO_nil ?_
  refine H_env (ρ':=[(9,_),(7,_),(0,_),(1,_),(2,_)]) ⟨rfl,rfl,rfl,rfl,rfl,trivial⟩ ?_
  refine H_seq ?_
  refine H_region (l:=[_,_,_,_,_]) rfl ?_
  iterate 2 refine HO_move rfl rfl rfl ?_
  refine HO_of_val rfl rfl rfl (V_sliceR_l rfl rfl rfl Try.underlying31 Try.sizeOf70 ?_) ?_
  ·omega
  refine HO_move rfl rfl rfl ?_
  refine HO_copyR (i:=0) (j:=1) (mm:=1) (R:=[_,_,_,_]) (vals0.take (i * 2)) (zs40.take 2) (zs40.drop 2 ++ sp40) ([]) (vals2) (spare2) rfl rfl rfl rfl Try.underlying31 Try.sizeOf70 rfl rfl ?_ ?_ ?_ ?_ ?_ ?_ ?_ ?_ ?_
  ·omega
  ·omega
  ·rfl
  ·exact (fun _ => rfl)
  ·(rw [← List.append_assoc (zs40.take 2),List.take_append_drop])
  ·(rw [List.length_take];omega)
  ·(intro _;rw [List.length_take];split <;> omega)
  ·exact ho2
  refine HO_nil ?_
  refine H_env (ρ':=[(9,_),(7,_),(0,_),(1,_)]) ⟨rfl,rfl,rfl,rfl,trivial⟩ ?_
  refine H_world (kp [yy,nn,yy,yy,yy] [_,_,_,_] rfl) ?_
  refine H_seq ?_
  refine H_drawB (m:=[nn,yy,yy,yy]) (Xs:=[_,_,_]) (fuel:=9) (l:=#[false,false,false,false,false,false,false,false,false]) mixed rfl rfl rfl ?_
  refine HA_take (i:=0) bp rfl rfl rfl rfl (by kernel_rfl) rfl (V_move rfl) (kp [nn,yy,yy,yy] [_,_,_] rfl) ?_
  refine HA_take (i:=1) bp rfl rfl rfl rfl (by kernel_rfl) rfl (V_move rfl) (kp [nn,yy,yy,yy] [_,_,_] rfl) ?_
  refine HA_take (i:=2) bp rfl rfl rfl rfl (by kernel_rfl) rfl (V_move rfl) (kp [nn,yy,yy,yy] [_,_,_] rfl) ?_
  refine HA_take (i:=3) bp rfl rfl rfl rfl (by kernel_rfl) rfl (V_bin rfl rfl (bin_add ?_ ?_)) (kp [nn,yy,yy,yy] [_,_,_] rfl) ?_
  ·omega
  ·omega
  refine HA_take (i:=4) bp rfl rfl rfl rfl (by kernel_rfl) rfl (V_sliceR_l (l:=i + 1) rfl rfl ?_ Try.underlying31 Try.sizeOf70 ?_) (kp [nn,yy,yy,yy] [_,_,_] rfl) ?_
  ·omega
  ·omega
  refine HA_take (i:=5) bp rfl rfl rfl rfl (by kernel_rfl) rfl (V_move rfl) (kp [nn,yy,yy,yy] [_,_,_] rfl) ?_
  refine HA_take (i:=6) bp rfl rfl rfl rfl (by kernel_rfl) rfl (V_move rfl) (kp [nn,yy,yy,yy] [_,_,_] rfl) ?_
  refine HA_take (i:=7) bp rfl rfl rfl rfl (by kernel_rfl) rfl (V_sliceR_l rfl rfl rfl Try.underlying31 Try.sizeOf70 ?_) (kp [nn,yy,yy,yy] [_,_,_] rfl) ?_
  ·omega
  refine HA_loud1 (i:=8) (by kernel_rfl) rfl ?_
  refine HO_copyR (i:=0) (j:=2) (mm:=xs.length - i) (R:=[_,_,_]) (vals0.take (i * 2) ++ vals2) (zs40.drop 2) (sp40) (vals0.take (i * 2)) (vals0.drop (i * 2)) (spare0) rfl rfl rfl rfl Try.underlying31 Try.sizeOf70 rfl rfl ?_ ?_ ?_ ?_ ?_ ?_ ?_ ?_ ?_
  ·omega
  ·(rw [List.length_drop];omega)
  ·(rw [← List.append_assoc,List.take_append_drop])
  ·(intro _;rw [List.length_take];split <;> omega)
  ·(simp only [List.append_assoc])
  ·(rw [List.length_drop,List.length_drop];omega)
  ·(intro _;rw [List.length_append,List.length_take];split <;> omega)
  ·exact (fun u hu => ho0 u (List.mem_of_mem_drop hu))
  refine HA_back rfl (kp [nn,yy,yy,yy] [_,_,_] rfl) ?_
  refine HA_done (by kernel_rfl) ?_
  refine H_env (ρ':=[(9,_)]) ⟨rfl,trivial⟩ ?_
  refine H_world (kp [yy,yy,nn,yy] [_,_,_] rfl) ?_
  refine H_seq ?_
  refine H_closeRow (i:=0) (R:=[_,_]) (kd:=kPair) (cp:=c40) (xs.take i ++ x :: xs.drop i) (vals0.take (i * 2) ++ (vals2 ++ vals0.drop (i * 2))) (sp40) rfl ?_ ?_ ?_ ?_ ?_ ?_ ?_
  ·(simp only [List.append_assoc])
  ·omega
  ·(show _ = c40 * 2;simp only [List.length_append,List.length_take,List.length_drop];omega)
  ·(simp only [List.length_append,List.length_cons,List.length_take,List.length_drop];omega)
  ·(simp only [maxLen];omega)
  ·exact (fun ok w hA => rowRep.ins (hA _ (List.mem_of_getElem? (i:=1) rfl)) (hA _ (List.mem_of_getElem? (i:=0) rfl)) (by omega))
  refine H_region (l:=[_,_]) rfl ?_
  refine HO_move rfl rfl rfl ?_
  refine HO_assign rfl rfl rfl ?_
  refine HO_nil ?_
  refine H_env (ρ':=[(6,_)]) ⟨rfl,trivial⟩ ?_
  refine H_ret1 Try.results108 (.tmp rfl) (fun w hA => ⟨(some ⟨g40,0,none⟩,c40),congrArg Ending.returned ?_,?_,?_⟩)
  ·(have hq : i + (xs.length + 1 - i) = (xs.take i ++ x :: xs.drop i).length:=by simp only [List.length_append,List.length_cons,List.length_take,List.length_drop];omega);rw [hq]
  ·trivial
  ·exact hA.keep (m:=[yy,nn,nn]) (Y:=[_]) rfl
 intro h31
 replace h31:=dF h31
 refine H_skip ?_
 refine H_seq ?_
 refine H_openRow (i:=0) (R:=[_]) rfl (by omega) (fun g0 vals0 spare0 ha0 hl0 hs0 hc0 hm0 ho0 => ?_)
 cases ha0
 replace hl0 : vals0.length = _ * 2:=hl0
 replace hs0 : spare0.length = _ * 2:=hs0
 (try simp only [List.length_cons,List.length_nil] at hl0 hs0 hc0)
 (try simp only [maxLen] at hm0)
 refine H_openRow (i:=2) (R:=[_,_]) rfl (by decide) (fun g2 vals2 spare2 ha2 hl2 hs2 hc2 hm2 ho2 => ?_)
 cases ha2
 replace hl2 : vals2.length = _ * 2:=hl2
 replace hs2 : spare2.length = _ * 2:=hs2
 (try simp only [List.length_cons,List.length_nil] at hl2 hs2 hc2)
 (try simp only [maxLen] at hm2)
 refine H_region (l:=[_,_,_,_,_,_]) rfl ?_
 iterate 3 refine HO_move rfl rfl rfl ?_
 refine HO_bin rfl rfl rfl rfl (bin_add ?_ ?_) ?_
 ·omega
 ·omega
 refine HO_of_val rfl rfl rfl (V_sliceR_h (h':=xs.length + 1) rfl rfl ?_ Try.underlying31 Try.sizeOf70 ?_) ?_
 ·omega
 ·omega
 refine HO_assign rfl rfl rfl ?_
 refine HO_nil ?_
 refine H_env (ρ':=[(0,_),(8,_),(7,_),(1,_),(2,_)]) ⟨rfl,rfl,rfl,rfl,rfl,trivial⟩ ?_
 refine H_seq ?_
 refine H_seq ?_
 refine H_region (l:=[_,_,_,_,_,_,_,_]) rfl ?_
 iterate 4 refine HO_move rfl rfl rfl ?_
 refine HO_bin rfl rfl rfl rfl (bin_add ?_ ?_) ?_
 ·omega
 ·omega
 refine HO_of_val rfl rfl rfl (V_sliceR_l (l:=i + 1) rfl rfl ?_ Try.underlying31 Try.sizeOf70 ?_) ?_
 ·omega
 ·omega
 refine HO_overlaps (i:=0) (j:=2) (tS:=31) (tR:=4) rfl rfl rfl rfl Try.func114 (by kernel_rfl) (by kernel_rfl) (by kernel_rfl) (by kernel_rfl) Try.underlying31 Try.sizeOf70 rfl rfl (by decide) ?_ ?_
 ·(rw [List.length_append];omega)
 refine HO_not rfl rfl rfl ?_
 refine HO_nil ?_
 refine H_env (ρ':=[(68,_),(0,_),(8,_),(7,_),(1,_),(2,_)]) ⟨rfl,rfl,rfl,rfl,rfl,rfl,trivial⟩ ?_
 refine H_cond rfl (fun _ => ?_) (fun h => nomatch h)
 refine H_seq ?_
 obtain ⟨F,O,S,hFOS,hF,hO⟩:=splitL (vals0.drop (i * 2) ++ spare0) 2 (vals0.drop (i * 2)).length (by rw [List.length_append,List.length_drop];omega)
 refine H_drawB (m:=[yy,yy,nn,yy]) (Xs:=[_,_,_]) (fuel:=9) (l:=#[false,false,false,false,false,false,false,false,false]) mixed rfl rfl rfl ?_
 refine HA_take (i:=0) bp rfl rfl rfl rfl (by kernel_rfl) rfl (V_move rfl) (kp [yy,yy,nn,yy] [_,_,_] rfl) ?_
 refine HA_take (i:=1) bp rfl rfl rfl rfl (by kernel_rfl) rfl (V_move rfl) (kp [yy,yy,nn,yy] [_,_,_] rfl) ?_
 refine HA_take (i:=2) bp rfl rfl rfl rfl (by kernel_rfl) rfl (V_move rfl) (kp [yy,yy,nn,yy] [_,_,_] rfl) ?_
 refine HA_take (i:=3) bp rfl rfl rfl rfl (by kernel_rfl) rfl (V_bin rfl rfl (bin_add ?_ ?_)) (kp [yy,yy,nn,yy] [_,_,_] rfl) ?_
 ·omega
 ·omega
 refine HA_take (i:=4) bp rfl rfl rfl rfl (by kernel_rfl) rfl (V_sliceR_l (l:=i + 1) rfl rfl ?_ Try.underlying31 Try.sizeOf70 ?_) (kp [yy,yy,nn,yy] [_,_,_] rfl) ?_
 ·omega
 ·omega
 refine HA_take (i:=5) bp rfl rfl rfl rfl (by kernel_rfl) rfl (V_move rfl) (kp [yy,yy,nn,yy] [_,_,_] rfl) ?_
 refine HA_take (i:=6) bp rfl rfl rfl rfl (by kernel_rfl) rfl (V_move rfl) (kp [yy,yy,nn,yy] [_,_,_] rfl) ?_
 refine HA_take (i:=7) bp rfl rfl rfl rfl (by kernel_rfl) rfl (V_sliceR_l rfl rfl rfl Try.underlying31 Try.sizeOf70 ?_) (kp [yy,yy,nn,yy] [_,_,_] rfl) ?_
 ·omega
 refine HA_loud1 (i:=8) (by kernel_rfl) rfl ?_
 refine HO_copyR (i:=2) (j:=2) (mm:=xs.length - i) (R:=[_,_,_]) (vals0.take (i * 2) ++ F) (O) (S) (vals0.take (i * 2)) (vals0.drop (i * 2)) (spare0) rfl rfl rfl rfl Try.underlying31 Try.sizeOf70 rfl rfl ?_ ?_ ?_ ?_ ?_ ?_ ?_ ?_ ?_
 ·omega
 ·(rw [List.length_drop];omega)
 ·(rw [← List.append_assoc,List.take_append_drop])
 ·(intro _;rw [List.length_take];split <;> omega)
 ·(rw [List.append_assoc,← hFOS,← List.append_assoc,List.take_append_drop])
 ·(exact hO)
 ·(intro _;rw [List.length_append,List.length_take];split <;> omega)
 ·exact (fun u hu => ho0 u (List.mem_of_mem_drop hu))
 refine HA_back rfl (kp [nn,yy,yy,yy] [_,_,_] rfl) ?_
 refine HA_done (by kernel_rfl) ?_
 refine H_env (ρ':=[(0,_),(1,_),(2,_)]) ⟨rfl,rfl,rfl,trivial⟩ ?_
 refine H_seq ?_
 refine H_region (l:=[_,_,_,_,_]) rfl ?_
 iterate 2 refine HO_move rfl rfl rfl ?_
 refine HO_of_val rfl rfl rfl (V_sliceR_l rfl rfl rfl Try.underlying31 Try.sizeOf70 ?_) ?_
 ·omega
 refine HO_move rfl rfl rfl ?_
 refine HO_copyR (i:=0) (j:=1) (mm:=1) (R:=[_,_,_]) (vals0.take (i * 2)) (F) (vals0.drop (i * 2) ++ S) ([]) (vals2) (spare2) rfl rfl rfl rfl Try.underlying31 Try.sizeOf70 rfl rfl ?_ ?_ ?_ ?_ ?_ ?_ ?_ ?_ ?_
 ·omega
 ·omega
 ·rfl
 ·exact (fun _ => rfl)
 ·(simp only [List.append_assoc])
 ·omega
 ·(intro _;rw [List.length_take];split <;> omega)
 ·exact ho2
 refine HO_nil ?_
 refine H_env (ρ':=[(0,_)]) ⟨rfl,trivial⟩ ?_
 refine H_world (kp [yy,nn,yy,yy] [_,_,_] rfl) ?_
 refine H_seq ?_
 refine H_closeRow (i:=0) (R:=[_,_]) (kd:=kPair) (cp:=c) (xs.take i ++ x :: xs.drop i) (vals0.take (i * 2) ++ (vals2 ++ vals0.drop (i * 2))) (S) rfl ?_ ?_ ?_ ?_ ?_ ?_ ?_
 ·(simp only [List.append_assoc])
 ·omega
 ·(show _ = c * 2;have hq:=congrArg List.length hFOS;simp only [List.length_append,List.length_take,List.length_drop] at hq hO ⊢;omega)
 ·(simp only [List.length_append,List.length_cons,List.length_take,List.length_drop];omega)
 ·(simp only [maxLen];omega)
 ·exact (fun ok w hA => rowRep.ins (hA _ (List.mem_of_getElem? (i:=1) rfl)) (hA _ (List.mem_of_getElem? (i:=0) rfl)) (by omega))
 refine H_region (l:=[_,_]) rfl ?_
 refine HO_move rfl rfl rfl ?_
 refine HO_assign rfl rfl rfl ?_
 refine HO_nil ?_
 refine H_env (ρ':=[(6,_)]) ⟨rfl,trivial⟩ ?_
 refine H_ret1 Try.results108 (.tmp rfl) (fun w hA => ⟨(some ⟨g0,0,none⟩,c),congrArg Ending.returned ?_,?_,?_⟩)
 ·(have hq : xs.length + 1 = (xs.take i ++ x :: xs.drop i).length:=by simp only [List.length_append,List.length_cons,List.length_take,List.length_drop];omega);rw [hq]
 ·trivial
 ·exact hA.keep (m:=[yy,nn,nn]) (Y:=[_]) rfl
theorem deleteP_spec (xs : List Pair) (a : Option Addr) (c : Nat) (i : Nat) (hi : i < xs.length) (hl : xs.length≤10000) : Spec Try.prog 109 #[.slice a (xs.length) c,.int .i64 ((i : Int)),.int .i64 ((i : Int) + 1)] [.own 70 kPair a c (xs)] (β:=Option Addr × Nat) (fun y => .slice y.1 ((xs.take i ++ xs.drop (i + 1)).length) y.2) (fun y => True) (fun y => [.own 70 kPair y.1 y.2 (xs.take i ++ xs.drop (i + 1))]):=by
 refine Spec.enter (vs:=[_,_,_]) Try.func109 rfl Try.ntmps109 rfl (Nat.le_of_ble_eq_true rfl) (fun w0 ok0 => ?_)
 generalize hM0 : blks _ = M0
 refine H_seq ?_
 refine H_region (l:=[_]) rfl ?_
 refine HO_assign rfl rfl rfl ?_
 refine HO_nil ?_
 refine H_env (ρ':=[(0,_),(1,_),(2,_)]) ⟨rfl,rfl,rfl,trivial⟩ ?_
 refine H_seq ?_
 refine H_ownLen (i:=0) rfl (fun hlc hmc => ?_)
 refine H_region (l:=[_,_,_,_,_,_]) rfl ?_
 iterate 4 refine HO_move rfl rfl rfl ?_
 refine HO_bi rfl rfl rfl (bi_len_sl Try.underlying31) ?_
 refine HO_of_val rfl rfl rfl (V_sliceA_lhm (h':=i + 1) rfl rfl rfl rfl ?_ rfl rfl Try.underlying31 Try.sizeOf70 ?_ ?_ ?_) ?_
 ·omega
 ·omega
 ·omega
 ·omega
 refine HO_nil ?_
 refine H_env (ρ':=[(0,_),(1,_),(2,_)]) ⟨rfl,rfl,rfl,trivial⟩ ?_
 refine H_seq ?_
 refine H_seq ?_
 refine H_region (l:=[_,_,_]) rfl ?_
 iterate 2 refine HO_move rfl rfl rfl ?_
 refine HO_bin rfl rfl rfl rfl bin_eql ?_
 refine HO_nil ?_
 refine H_env (ρ':=[(16,_),(0,_),(1,_),(2,_)]) ⟨rfl,rfl,rfl,rfl,trivial⟩ ?_
 refine H_cond rfl ?_ ?_
 ·intro h16
  replace h16:=dT h16
  (exfalso;omega)
 intro h16
 replace h16:=dF h16
 refine H_skip ?_
 refine H_seq ?_
 refine H_region (l:=[_,_,_]) rfl ?_
 refine HO_move rfl rfl rfl ?_
 refine HO_bi rfl rfl rfl (bi_len_sl Try.underlying31) ?_
 refine HO_assign rfl rfl rfl ?_
 refine HO_nil ?_
 refine H_env (ρ':=[(7,_),(0,_),(1,_),(2,_)]) ⟨rfl,rfl,rfl,rfl,trivial⟩ ?_
 refine H_seq ?_
 refine H_openRow (i:=0) (R:=[]) rfl (by omega) (fun g0 vals0 spare0 ha0 hl0 hs0 hc0 hm0 ho0 => ?_)
 cases ha0
 replace hl0 : vals0.length = _ * 2:=hl0
 replace hs0 : spare0.length = _ * 2:=hs0
 (try simp only [List.length_cons,List.length_nil] at hl0 hs0 hc0)
 (try simp only [maxLen] at hm0)
 refine H_drawB (m:=[nn,yy]) (Xs:=[_]) (fuel:=8) (l:=#[false,false,false,false,false,false,false,false]) mixed rfl rfl rfl ?_
 refine HA_take (i:=0) bp rfl rfl rfl rfl (by kernel_rfl) rfl (V_move rfl) (kp [nn,yy] [_] rfl) ?_
 refine HA_take (i:=1) bp rfl rfl rfl rfl (by kernel_rfl) rfl (V_move rfl) (kp [nn,yy] [_] rfl) ?_
 refine HA_take (i:=2) bp rfl rfl rfl rfl (by kernel_rfl) rfl (V_sliceR_h rfl rfl rfl Try.underlying31 Try.sizeOf70 ?_) (kp [nn,yy] [_] rfl) ?_
 ·omega
 refine HA_take (i:=3) bp rfl rfl rfl rfl (by kernel_rfl) rfl (V_move rfl) (kp [nn,yy] [_] rfl) ?_
 refine HA_take (i:=4) bp rfl rfl rfl rfl (by kernel_rfl) rfl (V_move rfl) (kp [nn,yy] [_] rfl) ?_
 refine HA_take (i:=5) bp rfl rfl rfl rfl (by kernel_rfl) rfl (V_sliceR_l (l:=i + 1) rfl rfl ?_ Try.underlying31 Try.sizeOf70 ?_) (kp [nn,yy] [_] rfl) ?_
 ·omega
 ·omega
 refine HA_loud1 (i:=6) (by kernel_rfl) rfl ?_
 refine HO_appendR (i:=0) (j:=0) (R:=[_]) (vals0.take (i * 2)) ((vals0.drop (i * 2)).take (vals0.drop ((i + 1) * 2)).length) ((vals0.drop (i * 2)).drop (vals0.drop ((i + 1) * 2)).length ++ spare0) (vals0.take ((i + 1) * 2)) (vals0.drop ((i + 1) * 2)) (spare0) rfl rfl rfl rfl Try.underlying31 Try.underlying31 Try.sizeOf70 rfl rfl ?_ ?_ ?_ ?_ ?_ ?_ ?_ ?_ ?_
 ·omega
 ·(rw [List.length_drop];omega)
 ·(rw [← List.append_assoc,List.take_append_drop])
 ·(intro hne;have:=List.length_pos_iff.2 hne;rw [List.length_drop] at this;rw [List.length_take];split <;> omega)
 ·(rw [← List.append_assoc (List.take _ (vals0.drop (i * 2))),List.take_append_drop,← List.append_assoc,List.take_append_drop])
 ·(simp only [List.length_take,List.length_drop];omega)
 ·(intro _;rw [List.length_take];omega)
 ·exact (fun u hu => ho0 u (List.mem_of_mem_drop hu))
 refine HA_back rfl (kp [nn,yy] [_] rfl) ?_
 refine HA_take (i:=7) bp rfl rfl rfl rfl (by kernel_rfl) rfl (V_assign rfl) (kp [nn,yy] [_] rfl) ?_
 refine HA_done (by kernel_rfl) ?_
 refine H_env (ρ':=[(0,_),(7,_)]) ⟨rfl,rfl,trivial⟩ ?_
 refine H_seq ?_
 refine H_region (l:=[_,_,_,_,_,_]) rfl ?_
 iterate 2 refine HO_move rfl rfl rfl ?_
 refine HO_bi rfl rfl rfl (bi_len_sl Try.underlying31) ?_
 refine HO_move rfl rfl rfl ?_
 refine HO_of_val rfl rfl rfl (V_sliceR_lh rfl rfl rfl rfl rfl Try.underlying31 Try.sizeOf70 ?_ ?_) ?_
 ·omega
 ·omega
 refine HO_clearR (i:=0) (sz:=2) (R:=[_]) (vals0.take (i * 2) ++ vals0.drop ((i + 1) * 2)) ((vals0.drop (i * 2)).drop (vals0.drop ((i + 1) * 2)).length) (spare0) rfl rfl Try.underlying31 Try.zeroValue70 rfl (by decide) rfl ?_ ?_ ?_ ?_ ?_
 ·omega
 ·(simp only [List.append_assoc])
 ·(simp only [List.length_drop];omega)
 ·(simp only [List.length_append,List.length_take,List.length_drop];split <;> omega)
 intro nz6_5 hnz6_5
 refine HO_nil ?_
 refine H_env (ρ':=[(0,_)]) ⟨rfl,trivial⟩ ?_
 refine H_seq ?_
 refine H_closeRow (i:=0) (R:=[_]) (kd:=kPair) (cp:=c) (xs.take i ++ xs.drop (i + 1)) (vals0.take (i * 2) ++ vals0.drop ((i + 1) * 2)) (nz6_5 ++ spare0) rfl ?_ ?_ ?_ ?_ ?_ ?_ ?_
 ·(simp only [List.append_assoc])
 ·omega
 ·(show _ = c * 2;simp only [List.length_append,List.length_take,List.length_drop];omega)
 ·(simp only [List.length_append,List.length_take,List.length_drop];omega)
 ·(simp only [maxLen];omega)
 ·exact (fun ok w hA => rowRep.del (hA _ (List.mem_of_getElem? (i:=0) rfl)) (by omega))
 refine H_region (l:=[_,_]) rfl ?_
 refine HO_move rfl rfl rfl ?_
 refine HO_assign rfl rfl rfl ?_
 refine HO_nil ?_
 refine H_env (ρ':=[(6,_)]) ⟨rfl,trivial⟩ ?_
 refine H_ret1 Try.results109 (.tmp rfl) (fun w hA => ⟨(some ⟨g0,0,none⟩,c),congrArg Ending.returned ?_,?_,?_⟩)
 ·(have hq : i + (xs.length - (i + 1)) = (xs.take i ++ xs.drop (i + 1)).length:=by simp only [List.length_append,List.length_take,List.length_drop];omega);rw [hq]
 ·trivial
 ·exact hA.keep (m:=[yy,nn]) (Y:=[_]) rfl
theorem withP_spec (xs : List Pair) (a : Option Addr) (c : Nat) (ke va : ByteArray) (hs : soStr.Srt Pair.key xs) (hl : xs.length≤10000) (sk : ke.size≤BIG) (sv : va.size≤BIG) : Spec Try.prog 90 #[.slice a (xs.length) c,.agg #[.string (ke),.string (va)],.func (.func 88) #[] #[]] [.dat kPair.sl (xs) [.slice a (xs.length) c]] (β:=Option Addr × Nat) (fun y => .slice y.1 ((soStr.put Pair.key (⟨ke,va⟩ : Pair) xs).length) y.2) (fun y => True) (fun y => [.dat kPair.sl ((soStr.put Pair.key (⟨ke,va⟩ : Pair) xs)) [.slice y.1 ((soStr.put Pair.key (⟨ke,va⟩ : Pair) xs).length) y.2]]):=by
 refine Spec.enter (vs:=[_,_,_]) Try.func90 rfl Try.ntmps90 rfl (Nat.le_of_ble_eq_true rfl) (fun w0 ok0 => ?_)
 generalize hM0 : blks _ = M0
 have hMn:=@noM _ _ hM0 (by simp [Atom.dat,Atom.elem])
 refine H_len_le (i:=0) rfl ?_
 intro hlen0
 refine H_seq ?_
 refine H_region (l:=[_,_]) rfl ?_
 refine HO_box (cs:=[_,_]) rfl rfl rfl rfl ?_
 intro g4
 refine HO_assign rfl rfl rfl ?_
 refine HO_nil ?_
 refine H_env (ρ':=[(4,_),(0,_),(2,_)]) ⟨rfl,rfl,rfl,trivial⟩ ?_
 refine H_seq ?_
 refine H_region (l:=[_,_,_]) rfl ?_
 refine HO_move rfl rfl rfl ?_
 refine HO_dup (i:=1) rfl rfl ?_
 refine HO_call (first:=[]) (capt:=[]) (is:=[0]) (R:=[_,_]) rfl rfl rfl rfl rfl Try.call107 rfl (cloneP_spec _ _ _ ?_) ?_
 ·exact hl
 intro y10 hy10
 refine HO_assign rfl rfl rfl ?_
 refine HO_nil ?_
 refine H_env (ρ':=[(0,_),(4,_),(2,_)]) ⟨rfl,rfl,rfl,trivial⟩ ?_
 refine H_world (kp [yy,yy,nn] [_,_] rfl) ?_
 refine H_seq ?_
 refine H_region (l:=[_,_,_,_,_,_,_,_,_,_,_]) rfl ?_
 iterate 2 refine HO_move rfl rfl rfl ?_
 refine HO_loadA (i:=1) (us:=[]) (cs:=[_,_]) (ts:=[]) rfl rfl rfl Try.isAgg70 Try.sizeOf70 rfl (.loc _ _ _) rfl rfl rfl rfl ?_
 refine HO_call (first:=[]) (capt:=[]) (is:=[]) (R:=[_,_]) rfl rfl rfl rfl rfl Try.call88 rfl (keyOf_spec _ _) ?_
 intro y15 hy15
 clear y15 hy15
 refine HO_move rfl rfl rfl ?_
 refine HO_call (first:=[]) (capt:=[]) (is:=[0]) (R:=[_]) rfl rfl rfl rfl rfl Try.call87 rfl (Spec.lend (pre1:=[]) (pre2:=[]) (findP_spec _ _ _ _ ?_ ?_) rfl (fun _ _ ha => nomatch ha)) ?_
 ·exact hs
 ·exact hl
 intro y17 hy17
 clear y17 hy17
 refine HO_move rfl rfl rfl ?_
 refine HO_extract (vs:=[_,_]) rfl rfl rfl rfl ?_
 refine HO_extract (vs:=[_,_]) rfl rfl rfl rfl ?_
 iterate 2 refine HO_assign rfl rfl rfl ?_
 refine HO_nil ?_
 refine H_env (ρ':=[(8,_),(7,_),(0,_),(4,_)]) ⟨rfl,rfl,rfl,rfl,trivial⟩ ?_
 refine H_seq ?_
 refine H_seq ?_
 refine H_region (l:=[_]) rfl ?_
 refine HO_move rfl rfl rfl ?_
 refine HO_nil ?_
 refine H_env (ρ':=[(20,_),(7,_),(0,_),(4,_)]) ⟨rfl,rfl,rfl,rfl,trivial⟩ ?_
 refine H_cond rfl ?_ ?_
 ·intro h20
  replace h20 : soStr.found Pair.key (Pair.key (⟨ke,va⟩ : Pair)) xs = true:=h20
  refine H_seq ?_
  refine H_region (l:=[_,_,_,_,_]) rfl ?_
  iterate 2 refine HO_move rfl rfl rfl ?_
  refine HO_loadA (i:=1) (us:=[]) (cs:=[_,_]) (ts:=[]) rfl rfl rfl Try.isAgg70 Try.sizeOf70 rfl (.loc _ _ _) rfl rfl rfl rfl ?_
  refine HO_indexOwn (i:=0) rfl rfl rfl rfl rfl Try.underlying31 Try.sizeOf70 rfl (by first | rfl | (simp;done) | (simp;omega)) ?_ rfl ?_
  ·exact soStr.found_rank Pair.key h20
  intro g24 z24 hg24 hz24
  refine HO_storeOwn (i:=0) (cs:=[_,_]) (R:=[_]) (z':=(⟨ke,va⟩ : Pair)) rfl rfl rfl Try.sizeOf70 rfl (by simp [Value.oneCell']) rfl hg24 rfl rfl ?_ (fun ok w hA => ⟨⟨sk,sv⟩,(),rfl,(fun a ha => nomatch ha)⟩) ?_
  ·exact soStr.found_rank Pair.key h20
  refine HO_nil ?_
  refine H_env (ρ':=[(0,_)]) ⟨rfl,trivial⟩ ?_
  refine H_world (kp [yy,nn] [_] rfl) ?_
  refine H_seq ?_
  refine H_region (l:=[_,_]) rfl ?_
  refine HO_move rfl rfl rfl ?_
  refine HO_assign rfl rfl rfl ?_
  refine HO_nil ?_
  refine H_env (ρ':=[(6,_)]) ⟨rfl,trivial⟩ ?_
  refine H_freeze (i:=0) (R:=[]) rfl hMn ?_
  refine H_ret1 Try.results90 (.tmp rfl) (fun w hA => ⟨(y10.1,y10.2),congrArg Ending.returned ?_,?_,?_⟩)
  ·(rw [soStr.put_len_yes Pair.key h20])
  ·trivial
  ·(rw [soStr.put_yes Pair.key h20];exact hA.keep (m:=[yy]) (Y:=[_]) rfl)
 intro h20
 replace h20 : soStr.found Pair.key (Pair.key (⟨ke,va⟩ : Pair)) xs = false:=h20
 refine H_skip ?_
 refine H_seq ?_
 refine H_region (l:=[_,_,_,_,_,_]) rfl ?_
 iterate 2 refine HO_move rfl rfl rfl ?_
 refine HO_loadA (i:=1) (us:=[]) (cs:=[_,_]) (ts:=[]) rfl rfl rfl Try.isAgg70 Try.sizeOf70 rfl (.loc _ _ _) rfl rfl rfl rfl ?_
 refine HO_buildSlice (kd:=kPair) (xo:=[_]) (vs:=[_]) (cs:=[_,_]) (xs:=[(⟨ke,va⟩ : Pair)]) rfl rfl rfl rfl Try.underlying31 elt70 rfl rfl rfl (by decide) (by decide) (by simp [Value.cells]) rfl (fun ok w hA => ⟨_,_,rfl,⟨⟨sk,sv⟩,(),rfl,(fun a ha => nomatch ha)⟩,rfl⟩) ?_
 intro g29
 refine HO_call (first:=[]) (capt:=[]) (is:=[0,0]) (R:=[_]) rfl rfl rfl rfl rfl Try.call108 rfl (insertP_spec _ _ _ _ _ _ ?_ ?_) ?_
 ·exact soStr.rank_le Pair.key _ _
 ·exact hl
 intro y30 hy30
 refine HO_assign rfl rfl rfl ?_
 refine HO_nil ?_
 refine H_env (ρ':=[(6,_)]) ⟨rfl,trivial⟩ ?_
 refine H_world (kp [yy,nn] [_] rfl) ?_
 refine H_freeze (i:=0) (R:=[]) rfl hMn ?_
 refine H_ret1 Try.results90 (.tmp rfl) (fun w hA => ⟨(y30.1,y30.2),congrArg Ending.returned ?_,?_,?_⟩)
 ·(rw [soStr.put_no Pair.key h20])
 ·trivial
 ·(rw [soStr.put_no Pair.key h20];exact hA.keep (m:=[yy]) (Y:=[_]) rfl)
theorem withoutP_spec (xs : List Pair) (a : Option Addr) (c : Nat) (k : ByteArray) (hs : soStr.Srt Pair.key xs) (hl : xs.length≤10000) : Spec Try.prog 91 #[.slice a (xs.length) c,.string (k),.func (.func 88) #[] #[]] [.dat kPair.sl (xs) [.slice a (xs.length) c]] (β:=Option Addr × Nat) (fun y => .slice y.1 ((soStr.cut Pair.key k xs).length) y.2) (fun y => True) (fun y => [.dat kPair.sl ((soStr.cut Pair.key k xs)) [.slice y.1 ((soStr.cut Pair.key k xs).length) y.2]]):=by
 refine Spec.enter (vs:=[_,_,_]) Try.func91 rfl Try.ntmps91 rfl (Nat.le_of_ble_eq_true rfl) (fun w0 ok0 => ?_)
 generalize hM0 : blks _ = M0
 have hMn:=@noM _ _ hM0 (by simp [Atom.dat,Atom.elem])
 refine H_len_le (i:=0) rfl ?_
 intro hlen0
 refine H_seq ?_
 refine H_region (l:=[_]) rfl ?_
 refine HO_assign rfl rfl rfl ?_
 refine HO_nil ?_
 refine H_env (ρ':=[(0,_),(1,_),(2,_)]) ⟨rfl,rfl,rfl,trivial⟩ ?_
 refine H_seq ?_
 refine H_region (l:=[_,_,_]) rfl ?_
 refine HO_move rfl rfl rfl ?_
 refine HO_dup (i:=0) rfl rfl ?_
 refine HO_call (first:=[]) (capt:=[]) (is:=[0]) (R:=[_]) rfl rfl rfl rfl rfl Try.call107 rfl (cloneP_spec _ _ _ ?_) ?_
 ·exact hl
 intro y10 hy10
 refine HO_assign rfl rfl rfl ?_
 refine HO_nil ?_
 refine H_env (ρ':=[(0,_),(1,_),(2,_)]) ⟨rfl,rfl,rfl,trivial⟩ ?_
 refine H_world (kp [yy,nn] [_] rfl) ?_
 refine H_seq ?_
 refine H_seq ?_
 refine H_region (l:=[_,_,_,_,_,_,_,_,_]) rfl ?_
 iterate 3 refine HO_move rfl rfl rfl ?_
 refine HO_call (first:=[]) (capt:=[]) (is:=[0]) (R:=[]) rfl rfl rfl rfl rfl Try.call87 rfl (Spec.lend (pre1:=[]) (pre2:=[]) (findP_spec _ _ _ _ ?_ ?_) rfl (fun _ _ ha => nomatch ha)) ?_
 ·exact hs
 ·exact hl
 intro y15 hy15
 clear y15 hy15
 refine HO_move rfl rfl rfl ?_
 refine HO_extract (vs:=[_,_]) rfl rfl rfl rfl ?_
 refine HO_extract (vs:=[_,_]) rfl rfl rfl rfl ?_
 iterate 2 refine HO_assign rfl rfl rfl ?_
 refine HO_nil ?_
 refine H_env (ρ':=[(8,_),(7,_),(0,_)]) ⟨rfl,rfl,rfl,trivial⟩ ?_
 refine H_seq ?_
 refine H_region (l:=[_]) rfl ?_
 refine HO_move rfl rfl rfl ?_
 refine HO_nil ?_
 refine H_env (ρ':=[(18,_),(7,_),(0,_)]) ⟨rfl,rfl,rfl,trivial⟩ ?_
 refine H_cond rfl ?_ ?_
 ·intro h18
  refine H_region (l:=[_,_,_,_,_,_]) rfl ?_
  iterate 3 refine HO_move rfl rfl rfl ?_
  refine HO_bin rfl rfl rfl rfl (bin_add ?_ ?_) ?_
  ·(have:=soStr.rank_le Pair.key k xs;omega)
  ·(have:=soStr.rank_le Pair.key k xs;omega)
  refine HO_call (first:=[]) (capt:=[]) (is:=[0]) (R:=[]) rfl rfl rfl rfl rfl Try.call109 rfl (deleteP_spec _ _ _ _ ?_ ?_) ?_
  ·exact soStr.found_rank Pair.key h18
  ·exact hl
  intro y23 hy23
  refine HO_assign rfl rfl rfl ?_
  refine HO_nil ?_
  refine H_env (ρ':=[(0,_)]) ⟨rfl,trivial⟩ ?_
  refine H_seq ?_
  refine H_region (l:=[_,_]) rfl ?_
  refine HO_move rfl rfl rfl ?_
  refine HO_assign rfl rfl rfl ?_
  refine HO_nil ?_
  refine H_env (ρ':=[(6,_)]) ⟨rfl,trivial⟩ ?_
  refine H_freeze (i:=0) (R:=[]) rfl hMn ?_
  refine H_ret1 Try.results91 (.tmp rfl) (fun w hA => ⟨(y23.1,y23.2),congrArg Ending.returned ?_,?_,?_⟩)
  ·(rw [soStr.cut_yes Pair.key h18])
  ·trivial
  ·(rw [soStr.cut_yes Pair.key h18];exact hA.keep (m:=[yy]) (Y:=[_]) rfl)
 intro h18
 refine H_skip ?_
 refine H_seq ?_
 refine H_region (l:=[_,_]) rfl ?_
 refine HO_move rfl rfl rfl ?_
 refine HO_assign rfl rfl rfl ?_
 refine HO_nil ?_
 refine H_env (ρ':=[(6,_)]) ⟨rfl,trivial⟩ ?_
 refine H_freeze (i:=0) (R:=[]) rfl hMn ?_
 refine H_ret1 Try.results91 (.tmp rfl) (fun w hA => ⟨(y10.1,y10.2),congrArg Ending.returned ?_,?_,?_⟩)
 ·(rw [soStr.cut_no Pair.key h18])
 ·trivial
 ·(rw [soStr.cut_no Pair.key h18];exact hA.keep (m:=[yy]) (Y:=[_]) rfl)
theorem cloneS_spec (xs : List Sess) (a : Option Addr) (c : Nat) (hl : xs.length≤10000) : Spec Try.prog 85 #[.slice a (xs.length) c] [.dat kSess.sl (xs) [.slice a (xs.length) c]] (β:=Option Addr × Nat) (fun y => .slice y.1 (xs.length) y.2) (fun y => True) (fun y => [.own 67 kSess y.1 y.2 (xs)]):=by
 refine Spec.enter (vs:=[_]) Try.func85 rfl Try.ntmps85 rfl (Nat.le_of_ble_eq_true rfl) (fun w0 ok0 => ?_)
 generalize hM0 : blks _ = M0
 have hMn:=@noM _ _ hM0 (by simp [Atom.dat,Atom.elem])
 refine H_len_le (i:=0) rfl ?_
 intro hlen0
 refine H_seq ?_
 refine H_region (l:=[_]) rfl ?_
 refine HO_assign rfl rfl rfl ?_
 refine HO_nil ?_
 refine H_env (ρ':=[(0,_)]) ⟨rfl,trivial⟩ ?_
 refine H_seq ?_
 refine H_seq ?_
 refine H_region (l:=[_,_]) rfl ?_
 refine HO_move rfl rfl rfl ?_
 refine HO_bin rfl rfl rfl rfl (bin_sl_eq_nil Try.runUnderlying54) ?_
 refine HO_nil ?_
 refine H_env (ρ':=[(4,_),(0,_)]) ⟨rfl,rfl,trivial⟩ ?_
 refine H_cond rfl ?_ ?_
 ·intro h4
  refine H_seq ?_
  refine H_datNone (i:=0) rfl h4 (fun hx => ?_)
  subst hx
  refine H_region (l:=[_]) rfl ?_
  refine HO_assign rfl rfl rfl ?_
  refine HO_nil ?_
  refine H_env (ρ':=[(2,_)]) ⟨rfl,trivial⟩ ?_
  refine H_world (kp [nn] [] rfl) ?_
  refine H_own0 kSess 67 none ?_
  refine H_ret1 Try.results85 (.tmp rfl) (fun w hA => ⟨(none,0),congrArg Ending.returned ?_,?_,?_⟩)
  ·rfl
  ·trivial
  ·exact hA.keep (m:=[yy]) (Y:=[_]) rfl
 intro h4
 refine H_skip ?_
 refine H_seq ?_
 refine H_region (l:=[_,_,_,_]) rfl ?_
 refine HO_buildSlice0 (kd:=kSess) rfl rfl Try.underlying54 elt67 ?_
 intro g5
 refine HO_move rfl rfl rfl ?_
 refine HO_append (i:=0) (R:=[_]) rfl rfl rfl rfl rfl Try.underlying54 elt67 rfl rfl (SrcOk.dat (j:=0) Try.underlying54 rfl) ?_ ?_
 ·(simp only [List.length_nil];omega)
 intro a7 c7
 refine HO_assign rfl rfl rfl ?_
 refine HO_nil ?_
 refine H_env (ρ':=[(2,_)]) ⟨rfl,trivial⟩ ?_
 refine H_world (kp [yy,nn] [_] rfl) ?_
 refine H_ret1 Try.results85 (.tmp rfl) (fun w hA => ⟨(a7,c7),congrArg Ending.returned ?_,?_,?_⟩)
 ·rfl
 ·trivial
 ·exact hA.keep (m:=[yy]) (Y:=[_]) rfl
theorem bsfS_spec (xs : List Sess) (a : Option Addr) (c : Nat) (k : Int) (g : Nat) (hs : soInt.Srt Sess.id xs) (hl : xs.length≤10000) : Spec Try.prog 83 #[.slice a (xs.length) c,.int .i64 (k),.func (.func 84) #[] #[.pointer (some ⟨g,0,none⟩)]] [.dat kSess.sl (xs) [.slice a (xs.length) c],.loc g [.func (.func 60) #[] #[]] 111] (β:=Unit) (fun y => .tuple #[.int .i64 ((soInt.rank Sess.id k xs : Int)),.bool (soInt.found Sess.id k xs)]) (fun y => True) (fun y => [.loc g [.func (.func 60) #[] #[]] 111]):=by
 refine Spec.enter (vs:=[_,_,_]) Try.func83 rfl Try.ntmps83 rfl (Nat.le_of_ble_eq_true rfl) (fun w0 ok0 => ?_)
 generalize hM0 : blks _ = M0
 refine H_len_le (i:=0) rfl ?_
 intro hlen0
 refine H_seq ?_
 refine H_region (l:=[_,_]) rfl ?_
 iterate 2 refine HO_assign rfl rfl rfl ?_
 refine HO_nil ?_
 refine H_env (ρ':=[(0,_),(1,_),(2,_)]) ⟨rfl,rfl,rfl,trivial⟩ ?_
 refine H_seq ?_
 refine H_region (l:=[_,_,_]) rfl ?_
 refine HO_move rfl rfl rfl ?_
 refine HO_bi rfl rfl rfl (bi_len_sl Try.underlying54) ?_
 refine HO_assign rfl rfl rfl ?_
 refine HO_nil ?_
 refine H_env (ρ':=[(8,_),(0,_),(1,_),(2,_)]) ⟨rfl,rfl,rfl,rfl,trivial⟩ ?_
 refine H_seq ?_
 refine H_region (l:=[_,_,_]) rfl ?_
 refine HO_move rfl rfl rfl ?_
 iterate 2 refine HO_assign rfl rfl rfl ?_
 refine HO_nil ?_
 refine H_env (ρ':=[(10,_),(9,_),(8,_),(0,_),(1,_),(2,_)]) ⟨rfl,rfl,rfl,rfl,rfl,rfl,trivial⟩ ?_
 refine H_seq ?_
 refine H_block ?_
 refine H_loop (σ:=Nat × Nat) (fun s => s.1≤s.2∧s.2≤xs.length∧(∀ q x,q < s.1→xs[q]? = some x→soInt.lt (Sess.id x) k = true)∧(∀ q x,s.2≤q→xs[q]? = some x→soInt.lt (Sess.id x) k = false)) (fun s => [(0,.slice a (xs.length) c),(1,.int .i64 (k)),(2,.func (.func 84) #[] #[.pointer (some ⟨g,0,none⟩)]),(8,.int .i64 ((xs.length : Int))),(9,.int .i64 ((s.1 : Int))),(10,.int .i64 ((s.2 : Int)))]) (fun s => Asn w0 ok0 M0 [.dat kSess.sl (xs) [.slice a (xs.length) c],.loc g [.func (.func 60) #[] #[]] 111]) (fun s => s.2 - s.1) ⟨0,xs.length⟩ ?_ ?_ ?_ ?_
 ·exact ⟨Nat.zero_le _,Nat.le_refl _,fun q x hq _ => absurd hq (Nat.not_lt_zero _),fun q x hq hx => absurd (List.getElem?_eq_some_iff.1 hx).1 (Nat.not_lt.2 hq)⟩
 ·exact ⟨rfl,rfl,rfl,rfl,rfl,rfl,trivial⟩
 ·intro w hA
  exact hA.only (is:=[0,1]) (Z:=[]) rfl
 ·rintro ⟨i,j⟩ hI
  (try dsimp only at hI ⊢)
  refine H_seq ?_
  refine H_seq ?_
  refine H_region (l:=[_,_,_]) rfl ?_
  iterate 2 refine HO_move rfl rfl rfl ?_
  refine HO_bin rfl rfl rfl rfl bin_lss ?_
  refine HO_nil ?_
  refine H_env (ρ':=[(17,_),(0,_),(1,_),(2,_),(8,_),(9,_),(10,_)]) ⟨rfl,rfl,rfl,rfl,rfl,rfl,rfl,trivial⟩ ?_
  refine H_cond rfl ?_ ?_
  ·intro h17
   replace h17:=dT h17
   refine H_skip ?_
   refine H_block ?_
   refine H_seq ?_
   refine H_region (l:=[_,_,_,_,_,_,_]) rfl ?_
   iterate 2 refine HO_move rfl rfl rfl ?_
   refine HO_bin rfl rfl rfl rfl (bin_add ?_ ?_) ?_
   ·omega
   ·omega
   refine HO_conv rfl rfl rfl (cv_int Try.underlying3 Try.underlying75 (wrap_u_i rfl _)) ?_
   refine HO_set (v':=.int .u64 (((i + j : Nat) : Int))) 21 rfl (by exact congrArg (Value.int .u64) (by simp only [IntKind.bits];omega)) ?_
   refine HO_bin rfl rfl rfl rfl (bin_shr (s:=1) ?_) ?_
   ·(simp only [IntKind.bits];omega)
   refine HO_conv rfl rfl rfl (cv_int Try.underlying75 Try.underlying3 (wrap_i64_nat ?_)) ?_
   ·omega
   refine HO_assign rfl rfl rfl ?_
   refine HO_nil ?_
   refine H_env (ρ':=[(11,_),(0,_),(1,_),(2,_),(8,_),(9,_),(10,_)]) ⟨rfl,rfl,rfl,rfl,rfl,rfl,rfl,trivial⟩ ?_
   refine H_seq ?_
   refine H_region (l:=[_,_,_,_,_,_,_,_]) rfl ?_
   iterate 3 refine HO_move rfl rfl rfl ?_
   refine HO_indexAddr open_Sess (i:=0) rfl rfl rfl rfl rfl Try.underlying54 Try.sizeOf67 rfl ?_ ?_
   ·omega
   intro b27 o27 z27 y27 hz27 hI27
   (try simp only [BIG] at hI27)
   refine HO_loadA (i:=0) (us:=[]) (cs:=[_,_,_,_,_,_,_]) (ts:=[]) rfl rfl rfl Try.isAgg67 Try.sizeOf67 rfl (.elem _ _ _) rfl rfl rfl rfl ?_
   refine HO_move rfl rfl rfl ?_
   refine HO_call (first:=[]) (capt:=[_]) (is:=[3]) (R:=[_,_,_]) rfl rfl rfl rfl rfl Try.call84 rfl (findS1_spec _ _ _ _ _ _ _ _ _ _ _) ?_
   intro y30 hy30
   clear y30 hy30
   refine HO_bin rfl rfl rfl rfl bin_lss ?_
   refine HO_nil ?_
   refine H_env (ρ':=[(31,_),(11,_),(0,_),(1,_),(2,_),(8,_),(9,_),(10,_)]) ⟨rfl,rfl,rfl,rfl,rfl,rfl,rfl,rfl,trivial⟩ ?_
   refine H_world (kp [yy,nn,nn,yy] [_,_] rfl) ?_
   refine H_cond rfl ?_ ?_
   ·intro h31
    replace h31:=dT h31
    refine H_region (l:=[_,_,_]) rfl ?_
    refine HO_move rfl rfl rfl ?_
    refine HO_bin rfl rfl rfl rfl (bin_add ?_ ?_) ?_
    ·omega
    ·omega
    refine HO_assign rfl rfl rfl ?_
    refine HO_nil ?_
    refine H_env (ρ':=[(9,_),(0,_),(1,_),(2,_),(8,_),(10,_)]) ⟨rfl,rfl,rfl,rfl,rfl,rfl,trivial⟩ ?_
    refine H_blk ?_
    refine H_inv (fun a w hf hA => ⟨⟨(i + j) / 2 ^ 1 + 1,j⟩,?_,?_,hf.sub ?_,?_⟩)
    ·exact ⟨by dsimp only;omega,hI.2.1,soInt.bs_lo Sess.id hs hz27 (cmpI_neg.1 h31),hI.2.2.2⟩
    ·(try dsimp only);omega
    ·exact ⟨rfl,rfl,rfl,rfl,rfl,rfl,trivial⟩
    ·exact hA.only (is:=[0,0]) (Z:=[]) rfl
   intro h31
   replace h31:=dF h31
   refine H_region (l:=[_,_]) rfl ?_
   refine HO_move rfl rfl rfl ?_
   refine HO_assign rfl rfl rfl ?_
   refine HO_nil ?_
   refine H_env (ρ':=[(10,_),(0,_),(1,_),(2,_),(8,_),(9,_)]) ⟨rfl,rfl,rfl,rfl,rfl,rfl,trivial⟩ ?_
   refine H_blk ?_
   refine H_inv (fun a w hf hA => ⟨⟨i,(i + j) / 2 ^ 1⟩,?_,?_,hf.sub ?_,?_⟩)
   ·exact ⟨by dsimp only;omega,by dsimp only;omega,hI.2.2.1,soInt.bs_hi Sess.id hs hz27 (Bool.eq_false_iff.2 (fun e => h31 (cmpI_neg.2 e)))⟩
   ·(try dsimp only);omega
   ·exact ⟨rfl,rfl,rfl,rfl,rfl,rfl,trivial⟩
   ·exact hA.only (is:=[0,0]) (Z:=[]) rfl
  intro h17
  replace h17:=dF h17
  refine H_exit rfl ?_
  refine H_seq ?_
  obtain rfl : i = j:=by omega
  obtain rfl:=soInt.rank_is Sess.id (by omega) hs hI.2.2.1 hI.2.2.2
  refine H_region (l:=[_,_,_,_,_,_,_,_,_,_,_,_,_,_,_,_]) rfl ?_
  iterate 3 refine HO_move rfl rfl rfl ?_
  refine HO_bin rfl rfl rfl rfl bin_lss ?_
  refine HO_move rfl rfl rfl ?_
  refine HO_split (d:=39) rfl ?_ ?_
  ·intro h39
   replace h39:=dT h39
   iterate 3 refine HO_move rfl rfl rfl ?_
   refine HO_indexAddr open_Sess (i:=0) rfl rfl rfl rfl rfl Try.underlying54 Try.sizeOf67 rfl ?_ ?_
   ·omega
   intro b43 o43 z43 y43 hz43 hI43
   (try simp only [BIG] at hI43)
   refine HO_loadA (i:=0) (us:=[]) (cs:=[_,_,_,_,_,_,_]) (ts:=[]) rfl rfl rfl Try.isAgg67 Try.sizeOf67 rfl (.elem _ _ _) rfl rfl rfl rfl ?_
   refine HO_move rfl rfl rfl ?_
   refine HO_call (first:=[]) (capt:=[_]) (is:=[3]) (R:=[_,_,_]) rfl rfl rfl rfl rfl Try.call84 rfl (findS1_spec _ _ _ _ _ _ _ _ _ _ _) ?_
   intro y46 hy46
   clear y46 hy46
   refine HO_bin rfl rfl rfl rfl bin_eql ?_
   refine HO_pick_t rfl rfl rfl rfl ?_
   iterate 2 refine HO_assign rfl rfl rfl ?_
   refine HO_nil ?_
   refine H_env (ρ':=[(7,_),(6,_)]) ⟨rfl,rfl,trivial⟩ ?_
   refine H_world (kp [yy,nn,nn,nn] [_] rfl) ?_
   refine H_ret2 Try.results83 (.tmp rfl) (.tmp rfl) (fun w hA => ⟨(),congrArg Ending.returned ?_,?_,?_⟩)
   ·exact congrArg (fun b => Value.tuple #[.int .i64 _,.bool b]) ((decide_eq_decide.2 cmpI_zero).trans (soInt.found_at Sess.id hz43).symm)
   ·trivial
   ·exact hA.keep (m:=[yy]) (Y:=[_]) rfl
  intro h39
  replace h39:=dF h39
  iterate 8 refine HO_no rfl rfl rfl ?_
  refine HO_pick_f rfl rfl rfl rfl ?_
  iterate 2 refine HO_assign rfl rfl rfl ?_
  refine HO_nil ?_
  refine H_env (ρ':=[(7,_),(6,_)]) ⟨rfl,rfl,trivial⟩ ?_
  refine H_world (kp [nn,yy] [_] rfl) ?_
  refine H_ret2 Try.results83 (.tmp rfl) (.tmp rfl) (fun w hA => ⟨(),congrArg Ending.returned ?_,?_,?_⟩)
  ·exact congrArg (fun b => Value.tuple #[.int .i64 _,.bool b]) (soInt.found_end Sess.id (by omega)).symm
  ·trivial
  ·exact hA.keep (m:=[yy]) (Y:=[_]) rfl
theorem findS_spec (xs : List Sess) (a : Option Addr) (c : Nat) (k : Int) (hs : soInt.Srt Sess.id xs) (hl : xs.length≤10000) : Spec Try.prog 59 #[.slice a (xs.length) c,.int .i64 (k),.func (.func 60) #[] #[]] [.dat kSess.sl (xs) [.slice a (xs.length) c]] (β:=Unit) (fun y => .tuple #[.int .i64 ((soInt.rank Sess.id k xs : Int)),.bool (soInt.found Sess.id k xs)]) (fun y => True) (fun y => []):=by
 refine Spec.enter (vs:=[_,_,_]) Try.func59 rfl Try.ntmps59 rfl (Nat.le_of_ble_eq_true rfl) (fun w0 ok0 => ?_)
 generalize hM0 : blks _ = M0
 have hMn:=@noM _ _ hM0 (by simp [Atom.dat,Atom.elem])
 refine H_len_le (i:=0) rfl ?_
 intro hlen0
 refine H_seq ?_
 refine H_region (l:=[_,_,_]) rfl ?_
 refine HO_box (cs:=[_]) rfl rfl rfl rfl ?_
 intro g5
 iterate 2 refine HO_assign rfl rfl rfl ?_
 refine HO_nil ?_
 refine H_env (ρ':=[(5,_),(0,_),(1,_)]) ⟨rfl,rfl,rfl,trivial⟩ ?_
 refine H_seq ?_
 refine H_region (l:=[_,_,_,_,_,_,_,_]) rfl ?_
 iterate 2 refine HO_move rfl rfl rfl ?_
 refine HO_makeFunc (vs:=[]) (us:=[_]) rfl rfl rfl rfl ?_
 refine HO_dup (i:=1) rfl rfl ?_
 refine HO_call (first:=[]) (capt:=[]) (is:=[0,1]) (R:=[_]) rfl rfl rfl rfl rfl Try.call83 rfl (bsfS_spec _ _ _ _ _ ?_ ?_) ?_
 ·exact hs
 ·exact hl
 intro y11 hy11
 clear y11 hy11
 refine HO_extract (vs:=[_,_]) rfl rfl rfl rfl ?_
 refine HO_extract (vs:=[_,_]) rfl rfl rfl rfl ?_
 iterate 2 refine HO_assign rfl rfl rfl ?_
 refine HO_nil ?_
 refine H_env (ρ':=[(7,_),(6,_)]) ⟨rfl,rfl,trivial⟩ ?_
 refine H_world (kp [nn,nn] [] rfl) ?_
 refine H_ret2 Try.results59 (.tmp rfl) (.tmp rfl) (fun w hA => ⟨(),congrArg Ending.returned ?_,?_,?_⟩)
 ·rfl
 ·trivial
 ·exact hA.keep (m:=[]) (Y:=[]) rfl
set_option maxHeartbeats 0 in
theorem insertS_spec (xs : List Sess) (a : Option Addr) (c : Nat) (i gv : Nat) (x : Sess) (hi : i≤xs.length) (hl : xs.length≤10000) : Spec Try.prog 93 #[.slice a (xs.length) c,.int .i64 ((i : Int)),.slice (some ⟨gv,0,none⟩) (1) 1] [.own 67 kSess a c (xs),.own 67 kSess (some ⟨gv,0,none⟩) 1 ([x])] (β:=Option Addr × Nat) (fun y => .slice y.1 ((xs.take i ++ x :: xs.drop i).length) y.2) (fun y => True) (fun y => [.own 67 kSess y.1 y.2 (xs.take i ++ x :: xs.drop i)]):=by
 refine Spec.enter (vs:=[_,_,_]) Try.func93 rfl Try.ntmps93 rfl (Nat.le_of_ble_eq_true rfl) (fun w0 ok0 => ?_)
 generalize hM0 : blks _ = M0
 refine H_seq ?_
 refine H_region (l:=[_]) rfl ?_
 refine HO_assign rfl rfl rfl ?_
 refine HO_nil ?_
 refine H_env (ρ':=[(0,_),(1,_),(2,_)]) ⟨rfl,rfl,rfl,trivial⟩ ?_
 refine H_seq ?_
 refine H_ownLen (i:=0) rfl (fun hlc hmc => ?_)
 refine H_region (l:=[_,_,_]) rfl ?_
 iterate 2 refine HO_move rfl rfl rfl ?_
 refine HO_of_val rfl rfl rfl (V_sliceA_l rfl rfl rfl Try.underlying54 Try.sizeOf67 ?_) ?_
 ·omega
 refine HO_nil ?_
 refine H_env (ρ':=[(0,_),(1,_),(2,_)]) ⟨rfl,rfl,rfl,trivial⟩ ?_
 refine H_seq ?_
 refine H_region (l:=[_,_,_]) rfl ?_
 refine HO_move rfl rfl rfl ?_
 refine HO_bi rfl rfl rfl (bi_len_sl Try.underlying54) ?_
 refine HO_assign rfl rfl rfl ?_
 refine HO_nil ?_
 refine H_env (ρ':=[(7,_),(0,_),(1,_),(2,_)]) ⟨rfl,rfl,rfl,rfl,trivial⟩ ?_
 refine H_seq ?_
 refine H_seq ?_
 refine H_region (l:=[_,_]) rfl ?_
 refine HO_move rfl rfl rfl ?_
 refine HO_bin rfl rfl rfl rfl bin_eql ?_
 refine HO_nil ?_
 refine H_env (ρ':=[(16,_),(7,_),(0,_),(1,_),(2,_)]) ⟨rfl,rfl,rfl,rfl,rfl,trivial⟩ ?_
 refine H_cond rfl ?_ ?_
 ·intro h16
  replace h16:=dT h16
  (exfalso;omega)
 intro h16
 replace h16:=dF h16
 refine H_skip ?_
 refine H_seq ?_
 refine H_region (l:=[_,_,_]) rfl ?_
 refine HO_move rfl rfl rfl ?_
 refine HO_bi rfl rfl rfl (bi_len_sl Try.underlying54) ?_
 refine HO_assign rfl rfl rfl ?_
 refine HO_nil ?_
 refine H_env (ρ':=[(8,_),(7,_),(0,_),(1,_),(2,_)]) ⟨rfl,rfl,rfl,rfl,rfl,trivial⟩ ?_
 refine H_seq ?_
 refine H_seq ?_
 refine H_region (l:=[_,_,_]) rfl ?_
 iterate 2 refine HO_move rfl rfl rfl ?_
 refine HO_bin rfl rfl rfl rfl bin_eql ?_
 refine HO_nil ?_
 refine H_env (ρ':=[(22,_),(8,_),(7,_),(0,_),(1,_),(2,_)]) ⟨rfl,rfl,rfl,rfl,rfl,rfl,trivial⟩ ?_
 refine H_cond rfl ?_ ?_
 ·intro h22
  replace h22:=dT h22
  obtain rfl : i = xs.length:=by omega
  refine H_seq ?_
  refine H_region (l:=[_,_,_,_]) rfl ?_
  iterate 2 refine HO_move rfl rfl rfl ?_
  refine HO_append (i:=0) (R:=[_]) rfl rfl rfl rfl rfl Try.underlying54 elt67 rfl rfl (SrcOk.own (j:=0) Try.underlying54 rfl rfl) ?_ ?_
  ·(simp only [List.length_cons,List.length_nil];omega)
  intro a25 c25
  refine HO_assign rfl rfl rfl ?_
  refine HO_nil ?_
  refine H_env (ρ':=[(6,_)]) ⟨rfl,trivial⟩ ?_
  refine H_ret1 Try.results93 (.tmp rfl) (fun w hA => ⟨(a25,c25),congrArg Ending.returned ?_,?_,?_⟩)
  ·(simp)
  ·trivial
  ·(exact (hA.keep (m:=[yy,nn]) (Y:=[_]) rfl).cast (by simp))
 intro h22
 replace h22:=dF h22
 refine H_skip ?_
 refine H_seq ?_
 refine H_seq ?_
 refine H_region (l:=[_,_,_,_,_,_]) rfl ?_
 iterate 2 refine HO_move rfl rfl rfl ?_
 refine HO_bin rfl rfl rfl rfl (bin_add ?_ ?_) ?_
 ·omega
 ·omega
 refine HO_move rfl rfl rfl ?_
 refine HO_bi rfl rfl rfl (bi_cap_sl Try.underlying54) ?_
 refine HO_bin rfl rfl rfl rfl bin_gtr ?_
 refine HO_nil ?_
 refine H_env (ρ':=[(31,_),(8,_),(7,_),(0,_),(1,_),(2,_)]) ⟨rfl,rfl,rfl,rfl,rfl,rfl,trivial⟩ ?_
 refine H_cond rfl ?_ ?_
 ·intro h31
  replace h31:=dT h31
  refine H_seq ?_
  refine H_openRow (i:=0) (R:=[_]) rfl (by omega) (fun g0 vals0 spare0 ha0 hl0 hs0 hc0 hm0 ho0 => ?_)
  cases ha0
  replace hl0 : vals0.length = _ * 7:=hl0
  replace hs0 : spare0.length = _ * 7:=hs0
  (try simp only [List.length_cons,List.length_nil] at hl0 hs0 hc0)
  (try simp only [maxLen] at hm0)
  refine H_openRow (i:=2) (R:=[_,_]) rfl (by decide) (fun g2 vals2 spare2 ha2 hl2 hs2 hc2 hm2 ho2 => ?_)
  cases ha2
  replace hl2 : vals2.length = _ * 7:=hl2
  replace hs2 : spare2.length = _ * 7:=hs2
  (try simp only [List.length_cons,List.length_nil] at hl2 hs2 hc2)
  (try simp only [maxLen] at hm2)
  refine H_region (l:=[_,_,_,_,_,_,_,_,_,_]) rfl ?_
  iterate 2 refine HO_move rfl rfl rfl ?_
  refine HO_of_val rfl rfl rfl (V_sliceR_h rfl rfl rfl Try.underlying54 Try.sizeOf67 ?_) ?_
  ·omega
  iterate 2 refine HO_move rfl rfl rfl ?_
  refine HO_bin rfl rfl rfl rfl (bin_add ?_ ?_) ?_
  ·omega
  ·omega
  refine HO_move rfl rfl rfl ?_
  refine HO_bin rfl rfl rfl rfl (bin_sub ?_ ?_) ?_
  ·omega
  ·omega
  refine HO_set (v':=.int .i64 (((xs.length + 1 - i : Nat) : Int))) 39 rfl (by exact congrArg (Value.int .i64) (by omega)) ?_
  refine HO_growR (i:=2) (vals0.take (i * 7)) (vals0.drop (i * 7) ++ spare0) rfl rfl rfl rfl Try.underlying54 Try.underlying3 elt67 rfl ?_ ?_ ?_ ?_ ?_ ?_
  ·(rw [← List.append_assoc,List.take_append_drop])
  ·(rw [List.length_take];omega)
  ·omega
  ·omega
  ·omega
  intro g40 c40 zs40 sp40 hc40 hm40 hz40 hs40
  simp only [maxLen] at hm40
  refine HO_assign rfl rfl rfl ?_
  refine HO_nil ?_
  refine H_env (ρ':=[(9,_),(7,_),(0,_),(1,_),(2,_)]) ⟨rfl,rfl,rfl,rfl,rfl,trivial⟩ ?_
  refine H_seq ?_
  refine H_region (l:=[_,_,_,_,_]) rfl ?_
  iterate 2 refine HO_move rfl rfl rfl ?_
  refine HO_of_val rfl rfl rfl (V_sliceR_l rfl rfl rfl Try.underlying54 Try.sizeOf67 ?_) ?_
  ·omega
  refine HO_move rfl rfl rfl ?_
  refine HO_copyR (i:=0) (j:=1) (mm:=1) (R:=[_,_,_,_]) (vals0.take (i * 7)) (zs40.take 7) (zs40.drop 7 ++ sp40) ([]) (vals2) (spare2) rfl rfl rfl rfl Try.underlying54 Try.sizeOf67 rfl rfl ?_ ?_ ?_ ?_ ?_ ?_ ?_ ?_ ?_
  ·omega
  ·omega
  ·rfl
  ·exact (fun _ => rfl)
  ·(rw [← List.append_assoc (zs40.take 7),List.take_append_drop])
  ·(rw [List.length_take];omega)
  ·(intro _;rw [List.length_take];split <;> omega)
  ·exact ho2
  refine HO_nil ?_
  refine H_env (ρ':=[(9,_),(7,_),(0,_),(1,_)]) ⟨rfl,rfl,rfl,rfl,trivial⟩ ?_
  refine H_world (kp [yy,nn,yy,yy,yy] [_,_,_,_] rfl) ?_
  refine H_seq ?_
  refine H_drawB (m:=[nn,yy,yy,yy]) (Xs:=[_,_,_]) (fuel:=9) (l:=#[false,false,false,false,false,false,false,false,false]) mixed rfl rfl rfl ?_
  refine HA_take (i:=0) bp rfl rfl rfl rfl (by kernel_rfl) rfl (V_move rfl) (kp [nn,yy,yy,yy] [_,_,_] rfl) ?_
  refine HA_take (i:=1) bp rfl rfl rfl rfl (by kernel_rfl) rfl (V_move rfl) (kp [nn,yy,yy,yy] [_,_,_] rfl) ?_
  refine HA_take (i:=2) bp rfl rfl rfl rfl (by kernel_rfl) rfl (V_move rfl) (kp [nn,yy,yy,yy] [_,_,_] rfl) ?_
  refine HA_take (i:=3) bp rfl rfl rfl rfl (by kernel_rfl) rfl (V_bin rfl rfl (bin_add ?_ ?_)) (kp [nn,yy,yy,yy] [_,_,_] rfl) ?_
  ·omega
  ·omega
  refine HA_take (i:=4) bp rfl rfl rfl rfl (by kernel_rfl) rfl (V_sliceR_l (l:=i + 1) rfl rfl ?_ Try.underlying54 Try.sizeOf67 ?_) (kp [nn,yy,yy,yy] [_,_,_] rfl) ?_
  ·omega
  ·omega
  refine HA_take (i:=5) bp rfl rfl rfl rfl (by kernel_rfl) rfl (V_move rfl) (kp [nn,yy,yy,yy] [_,_,_] rfl) ?_
  refine HA_take (i:=6) bp rfl rfl rfl rfl (by kernel_rfl) rfl (V_move rfl) (kp [nn,yy,yy,yy] [_,_,_] rfl) ?_
  refine HA_take (i:=7) bp rfl rfl rfl rfl (by kernel_rfl) rfl (V_sliceR_l rfl rfl rfl Try.underlying54 Try.sizeOf67 ?_) (kp [nn,yy,yy,yy] [_,_,_] rfl) ?_
  ·omega
  refine HA_loud1 (i:=8) (by kernel_rfl) rfl ?_
  refine HO_copyR (i:=0) (j:=2) (mm:=xs.length - i) (R:=[_,_,_]) (vals0.take (i * 7) ++ vals2) (zs40.drop 7) (sp40) (vals0.take (i * 7)) (vals0.drop (i * 7)) (spare0) rfl rfl rfl rfl Try.underlying54 Try.sizeOf67 rfl rfl ?_ ?_ ?_ ?_ ?_ ?_ ?_ ?_ ?_
  ·omega
  ·(rw [List.length_drop];omega)
  ·(rw [← List.append_assoc,List.take_append_drop])
  ·(intro _;rw [List.length_take];split <;> omega)
  ·(simp only [List.append_assoc])
  ·(rw [List.length_drop,List.length_drop];omega)
  ·(intro _;rw [List.length_append,List.length_take];split <;> omega)
  ·exact (fun u hu => ho0 u (List.mem_of_mem_drop hu))
  refine HA_back rfl (kp [nn,yy,yy,yy] [_,_,_] rfl) ?_
  refine HA_done (by kernel_rfl) ?_
  refine H_env (ρ':=[(9,_)]) ⟨rfl,trivial⟩ ?_
  refine H_world (kp [yy,yy,nn,yy] [_,_,_] rfl) ?_
  refine H_seq ?_
  refine H_closeRow (i:=0) (R:=[_,_]) (kd:=kSess) (cp:=c40) (xs.take i ++ x :: xs.drop i) (vals0.take (i * 7) ++ (vals2 ++ vals0.drop (i * 7))) (sp40) rfl ?_ ?_ ?_ ?_ ?_ ?_ ?_
  ·(simp only [List.append_assoc])
  ·omega
  ·(show _ = c40 * 7;simp only [List.length_append,List.length_take,List.length_drop];omega)
  ·(simp only [List.length_append,List.length_cons,List.length_take,List.length_drop];omega)
  ·(simp only [maxLen];omega)
  ·exact (fun ok w hA => rowRep.ins (hA _ (List.mem_of_getElem? (i:=1) rfl)) (hA _ (List.mem_of_getElem? (i:=0) rfl)) (by omega))
  refine H_region (l:=[_,_]) rfl ?_
  refine HO_move rfl rfl rfl ?_
  refine HO_assign rfl rfl rfl ?_
  refine HO_nil ?_
  refine H_env (ρ':=[(6,_)]) ⟨rfl,trivial⟩ ?_
  refine H_ret1 Try.results93 (.tmp rfl) (fun w hA => ⟨(some ⟨g40,0,none⟩,c40),congrArg Ending.returned ?_,?_,?_⟩)
  ·(have hq : i + (xs.length + 1 - i) = (xs.take i ++ x :: xs.drop i).length:=by simp only [List.length_append,List.length_cons,List.length_take,List.length_drop];omega);rw [hq]
  ·trivial
  ·exact hA.keep (m:=[yy,nn,nn]) (Y:=[_]) rfl
 intro h31
 replace h31:=dF h31
 refine H_skip ?_
 refine H_seq ?_
 refine H_openRow (i:=0) (R:=[_]) rfl (by omega) (fun g0 vals0 spare0 ha0 hl0 hs0 hc0 hm0 ho0 => ?_)
 cases ha0
 replace hl0 : vals0.length = _ * 7:=hl0
 replace hs0 : spare0.length = _ * 7:=hs0
 (try simp only [List.length_cons,List.length_nil] at hl0 hs0 hc0)
 (try simp only [maxLen] at hm0)
 refine H_openRow (i:=2) (R:=[_,_]) rfl (by decide) (fun g2 vals2 spare2 ha2 hl2 hs2 hc2 hm2 ho2 => ?_)
 cases ha2
 replace hl2 : vals2.length = _ * 7:=hl2
 replace hs2 : spare2.length = _ * 7:=hs2
 (try simp only [List.length_cons,List.length_nil] at hl2 hs2 hc2)
 (try simp only [maxLen] at hm2)
 refine H_region (l:=[_,_,_,_,_,_]) rfl ?_
 iterate 3 refine HO_move rfl rfl rfl ?_
 refine HO_bin rfl rfl rfl rfl (bin_add ?_ ?_) ?_
 ·omega
 ·omega
 refine HO_of_val rfl rfl rfl (V_sliceR_h (h':=xs.length + 1) rfl rfl ?_ Try.underlying54 Try.sizeOf67 ?_) ?_
 ·omega
 ·omega
 refine HO_assign rfl rfl rfl ?_
 refine HO_nil ?_
 refine H_env (ρ':=[(0,_),(8,_),(7,_),(1,_),(2,_)]) ⟨rfl,rfl,rfl,rfl,rfl,trivial⟩ ?_
 refine H_seq ?_
 refine H_seq ?_
 refine H_region (l:=[_,_,_,_,_,_,_,_]) rfl ?_
 iterate 4 refine HO_move rfl rfl rfl ?_
 refine HO_bin rfl rfl rfl rfl (bin_add ?_ ?_) ?_
 ·omega
 ·omega
 refine HO_of_val rfl rfl rfl (V_sliceR_l (l:=i + 1) rfl rfl ?_ Try.underlying54 Try.sizeOf67 ?_) ?_
 ·omega
 ·omega
 refine HO_overlaps (i:=0) (j:=2) (tS:=54) (tR:=4) rfl rfl rfl rfl Try.func110 (by kernel_rfl) (by kernel_rfl) (by kernel_rfl) (by kernel_rfl) Try.underlying54 Try.sizeOf67 rfl rfl (by decide) ?_ ?_
 ·(rw [List.length_append];omega)
 refine HO_not rfl rfl rfl ?_
 refine HO_nil ?_
 refine H_env (ρ':=[(68,_),(0,_),(8,_),(7,_),(1,_),(2,_)]) ⟨rfl,rfl,rfl,rfl,rfl,rfl,trivial⟩ ?_
 refine H_cond rfl (fun _ => ?_) (fun h => nomatch h)
 refine H_seq ?_
 obtain ⟨F,O,S,hFOS,hF,hO⟩:=splitL (vals0.drop (i * 7) ++ spare0) 7 (vals0.drop (i * 7)).length (by rw [List.length_append,List.length_drop];omega)
 refine H_drawB (m:=[yy,yy,nn,yy]) (Xs:=[_,_,_]) (fuel:=9) (l:=#[false,false,false,false,false,false,false,false,false]) mixed rfl rfl rfl ?_
 refine HA_take (i:=0) bp rfl rfl rfl rfl (by kernel_rfl) rfl (V_move rfl) (kp [yy,yy,nn,yy] [_,_,_] rfl) ?_
 refine HA_take (i:=1) bp rfl rfl rfl rfl (by kernel_rfl) rfl (V_move rfl) (kp [yy,yy,nn,yy] [_,_,_] rfl) ?_
 refine HA_take (i:=2) bp rfl rfl rfl rfl (by kernel_rfl) rfl (V_move rfl) (kp [yy,yy,nn,yy] [_,_,_] rfl) ?_
 refine HA_take (i:=3) bp rfl rfl rfl rfl (by kernel_rfl) rfl (V_bin rfl rfl (bin_add ?_ ?_)) (kp [yy,yy,nn,yy] [_,_,_] rfl) ?_
 ·omega
 ·omega
 refine HA_take (i:=4) bp rfl rfl rfl rfl (by kernel_rfl) rfl (V_sliceR_l (l:=i + 1) rfl rfl ?_ Try.underlying54 Try.sizeOf67 ?_) (kp [yy,yy,nn,yy] [_,_,_] rfl) ?_
 ·omega
 ·omega
 refine HA_take (i:=5) bp rfl rfl rfl rfl (by kernel_rfl) rfl (V_move rfl) (kp [yy,yy,nn,yy] [_,_,_] rfl) ?_
 refine HA_take (i:=6) bp rfl rfl rfl rfl (by kernel_rfl) rfl (V_move rfl) (kp [yy,yy,nn,yy] [_,_,_] rfl) ?_
 refine HA_take (i:=7) bp rfl rfl rfl rfl (by kernel_rfl) rfl (V_sliceR_l rfl rfl rfl Try.underlying54 Try.sizeOf67 ?_) (kp [yy,yy,nn,yy] [_,_,_] rfl) ?_
 ·omega
 refine HA_loud1 (i:=8) (by kernel_rfl) rfl ?_
 refine HO_copyR (i:=2) (j:=2) (mm:=xs.length - i) (R:=[_,_,_]) (vals0.take (i * 7) ++ F) (O) (S) (vals0.take (i * 7)) (vals0.drop (i * 7)) (spare0) rfl rfl rfl rfl Try.underlying54 Try.sizeOf67 rfl rfl ?_ ?_ ?_ ?_ ?_ ?_ ?_ ?_ ?_
 ·omega
 ·(rw [List.length_drop];omega)
 ·(rw [← List.append_assoc,List.take_append_drop])
 ·(intro _;rw [List.length_take];split <;> omega)
 ·(rw [List.append_assoc,← hFOS,← List.append_assoc,List.take_append_drop])
 ·(exact hO)
 ·(intro _;rw [List.length_append,List.length_take];split <;> omega)
 ·exact (fun u hu => ho0 u (List.mem_of_mem_drop hu))
 refine HA_back rfl (kp [nn,yy,yy,yy] [_,_,_] rfl) ?_
 refine HA_done (by kernel_rfl) ?_
 refine H_env (ρ':=[(0,_),(1,_),(2,_)]) ⟨rfl,rfl,rfl,trivial⟩ ?_
 refine H_seq ?_
 refine H_region (l:=[_,_,_,_,_]) rfl ?_
 iterate 2 refine HO_move rfl rfl rfl ?_
 refine HO_of_val rfl rfl rfl (V_sliceR_l rfl rfl rfl Try.underlying54 Try.sizeOf67 ?_) ?_
 ·omega
 refine HO_move rfl rfl rfl ?_
 refine HO_copyR (i:=0) (j:=1) (mm:=1) (R:=[_,_,_]) (vals0.take (i * 7)) (F) (vals0.drop (i * 7) ++ S) ([]) (vals2) (spare2) rfl rfl rfl rfl Try.underlying54 Try.sizeOf67 rfl rfl ?_ ?_ ?_ ?_ ?_ ?_ ?_ ?_ ?_
 ·omega
 ·omega
 ·rfl
 ·exact (fun _ => rfl)
 ·(simp only [List.append_assoc])
 ·omega
 ·(intro _;rw [List.length_take];split <;> omega)
 ·exact ho2
 refine HO_nil ?_
 refine H_env (ρ':=[(0,_)]) ⟨rfl,trivial⟩ ?_
 refine H_world (kp [yy,nn,yy,yy] [_,_,_] rfl) ?_
 refine H_seq ?_
 refine H_closeRow (i:=0) (R:=[_,_]) (kd:=kSess) (cp:=c) (xs.take i ++ x :: xs.drop i) (vals0.take (i * 7) ++ (vals2 ++ vals0.drop (i * 7))) (S) rfl ?_ ?_ ?_ ?_ ?_ ?_ ?_
 ·(simp only [List.append_assoc])
 ·omega
 ·(show _ = c * 7;have hq:=congrArg List.length hFOS;simp only [List.length_append,List.length_take,List.length_drop] at hq hO ⊢;omega)
 ·(simp only [List.length_append,List.length_cons,List.length_take,List.length_drop];omega)
 ·(simp only [maxLen];omega)
 ·exact (fun ok w hA => rowRep.ins (hA _ (List.mem_of_getElem? (i:=1) rfl)) (hA _ (List.mem_of_getElem? (i:=0) rfl)) (by omega))
 refine H_region (l:=[_,_]) rfl ?_
 refine HO_move rfl rfl rfl ?_
 refine HO_assign rfl rfl rfl ?_
 refine HO_nil ?_
 refine H_env (ρ':=[(6,_)]) ⟨rfl,trivial⟩ ?_
 refine H_ret1 Try.results93 (.tmp rfl) (fun w hA => ⟨(some ⟨g0,0,none⟩,c),congrArg Ending.returned ?_,?_,?_⟩)
 ·(have hq : xs.length + 1 = (xs.take i ++ x :: xs.drop i).length:=by simp only [List.length_append,List.length_cons,List.length_take,List.length_drop];omega);rw [hq]
 ·trivial
 ·exact hA.keep (m:=[yy,nn,nn]) (Y:=[_]) rfl
theorem deleteS_spec (xs : List Sess) (a : Option Addr) (c : Nat) (i : Nat) (hi : i < xs.length) (hl : xs.length≤10000) : Spec Try.prog 86 #[.slice a (xs.length) c,.int .i64 ((i : Int)),.int .i64 ((i : Int) + 1)] [.own 67 kSess a c (xs)] (β:=Option Addr × Nat) (fun y => .slice y.1 ((xs.take i ++ xs.drop (i + 1)).length) y.2) (fun y => True) (fun y => [.own 67 kSess y.1 y.2 (xs.take i ++ xs.drop (i + 1))]):=by
 refine Spec.enter (vs:=[_,_,_]) Try.func86 rfl Try.ntmps86 rfl (Nat.le_of_ble_eq_true rfl) (fun w0 ok0 => ?_)
 generalize hM0 : blks _ = M0
 refine H_seq ?_
 refine H_region (l:=[_]) rfl ?_
 refine HO_assign rfl rfl rfl ?_
 refine HO_nil ?_
 refine H_env (ρ':=[(0,_),(1,_),(2,_)]) ⟨rfl,rfl,rfl,trivial⟩ ?_
 refine H_seq ?_
 refine H_ownLen (i:=0) rfl (fun hlc hmc => ?_)
 refine H_region (l:=[_,_,_,_,_,_]) rfl ?_
 iterate 4 refine HO_move rfl rfl rfl ?_
 refine HO_bi rfl rfl rfl (bi_len_sl Try.underlying54) ?_
 refine HO_of_val rfl rfl rfl (V_sliceA_lhm (h':=i + 1) rfl rfl rfl rfl ?_ rfl rfl Try.underlying54 Try.sizeOf67 ?_ ?_ ?_) ?_
 ·omega
 ·omega
 ·omega
 ·omega
 refine HO_nil ?_
 refine H_env (ρ':=[(0,_),(1,_),(2,_)]) ⟨rfl,rfl,rfl,trivial⟩ ?_
 refine H_seq ?_
 refine H_seq ?_
 refine H_region (l:=[_,_,_]) rfl ?_
 iterate 2 refine HO_move rfl rfl rfl ?_
 refine HO_bin rfl rfl rfl rfl bin_eql ?_
 refine HO_nil ?_
 refine H_env (ρ':=[(16,_),(0,_),(1,_),(2,_)]) ⟨rfl,rfl,rfl,rfl,trivial⟩ ?_
 refine H_cond rfl ?_ ?_
 ·intro h16
  replace h16:=dT h16
  (exfalso;omega)
 intro h16
 replace h16:=dF h16
 refine H_skip ?_
 refine H_seq ?_
 refine H_region (l:=[_,_,_]) rfl ?_
 refine HO_move rfl rfl rfl ?_
 refine HO_bi rfl rfl rfl (bi_len_sl Try.underlying54) ?_
 refine HO_assign rfl rfl rfl ?_
 refine HO_nil ?_
 refine H_env (ρ':=[(7,_),(0,_),(1,_),(2,_)]) ⟨rfl,rfl,rfl,rfl,trivial⟩ ?_
 refine H_seq ?_
 refine H_openRow (i:=0) (R:=[]) rfl (by omega) (fun g0 vals0 spare0 ha0 hl0 hs0 hc0 hm0 ho0 => ?_)
 cases ha0
 replace hl0 : vals0.length = _ * 7:=hl0
 replace hs0 : spare0.length = _ * 7:=hs0
 (try simp only [List.length_cons,List.length_nil] at hl0 hs0 hc0)
 (try simp only [maxLen] at hm0)
 refine H_drawB (m:=[nn,yy]) (Xs:=[_]) (fuel:=8) (l:=#[false,false,false,false,false,false,false,false]) mixed rfl rfl rfl ?_
 refine HA_take (i:=0) bp rfl rfl rfl rfl (by kernel_rfl) rfl (V_move rfl) (kp [nn,yy] [_] rfl) ?_
 refine HA_take (i:=1) bp rfl rfl rfl rfl (by kernel_rfl) rfl (V_move rfl) (kp [nn,yy] [_] rfl) ?_
 refine HA_take (i:=2) bp rfl rfl rfl rfl (by kernel_rfl) rfl (V_sliceR_h rfl rfl rfl Try.underlying54 Try.sizeOf67 ?_) (kp [nn,yy] [_] rfl) ?_
 ·omega
 refine HA_take (i:=3) bp rfl rfl rfl rfl (by kernel_rfl) rfl (V_move rfl) (kp [nn,yy] [_] rfl) ?_
 refine HA_take (i:=4) bp rfl rfl rfl rfl (by kernel_rfl) rfl (V_move rfl) (kp [nn,yy] [_] rfl) ?_
 refine HA_take (i:=5) bp rfl rfl rfl rfl (by kernel_rfl) rfl (V_sliceR_l (l:=i + 1) rfl rfl ?_ Try.underlying54 Try.sizeOf67 ?_) (kp [nn,yy] [_] rfl) ?_
 ·omega
 ·omega
 refine HA_loud1 (i:=6) (by kernel_rfl) rfl ?_
 refine HO_appendR (i:=0) (j:=0) (R:=[_]) (vals0.take (i * 7)) ((vals0.drop (i * 7)).take (vals0.drop ((i + 1) * 7)).length) ((vals0.drop (i * 7)).drop (vals0.drop ((i + 1) * 7)).length ++ spare0) (vals0.take ((i + 1) * 7)) (vals0.drop ((i + 1) * 7)) (spare0) rfl rfl rfl rfl Try.underlying54 Try.underlying54 Try.sizeOf67 rfl rfl ?_ ?_ ?_ ?_ ?_ ?_ ?_ ?_ ?_
 ·omega
 ·(rw [List.length_drop];omega)
 ·(rw [← List.append_assoc,List.take_append_drop])
 ·(intro hne;have:=List.length_pos_iff.2 hne;rw [List.length_drop] at this;rw [List.length_take];split <;> omega)
 ·(rw [← List.append_assoc (List.take _ (vals0.drop (i * 7))),List.take_append_drop,← List.append_assoc,List.take_append_drop])
 ·(simp only [List.length_take,List.length_drop];omega)
 ·(intro _;rw [List.length_take];omega)
 ·exact (fun u hu => ho0 u (List.mem_of_mem_drop hu))
 refine HA_back rfl (kp [nn,yy] [_] rfl) ?_
 refine HA_take (i:=7) bp rfl rfl rfl rfl (by kernel_rfl) rfl (V_assign rfl) (kp [nn,yy] [_] rfl) ?_
 refine HA_done (by kernel_rfl) ?_
 refine H_env (ρ':=[(0,_),(7,_)]) ⟨rfl,rfl,trivial⟩ ?_
 refine H_seq ?_
 refine H_region (l:=[_,_,_,_,_,_]) rfl ?_
 iterate 2 refine HO_move rfl rfl rfl ?_
 refine HO_bi rfl rfl rfl (bi_len_sl Try.underlying54) ?_
 refine HO_move rfl rfl rfl ?_
 refine HO_of_val rfl rfl rfl (V_sliceR_lh rfl rfl rfl rfl rfl Try.underlying54 Try.sizeOf67 ?_ ?_) ?_
 ·omega
 ·omega
 refine HO_clearR (i:=0) (sz:=7) (R:=[_]) (vals0.take (i * 7) ++ vals0.drop ((i + 1) * 7)) ((vals0.drop (i * 7)).drop (vals0.drop ((i + 1) * 7)).length) (spare0) rfl rfl Try.underlying54 Try.zeroValue67 rfl (by decide) rfl ?_ ?_ ?_ ?_ ?_
 ·omega
 ·(simp only [List.append_assoc])
 ·(simp only [List.length_drop];omega)
 ·(simp only [List.length_append,List.length_take,List.length_drop];split <;> omega)
 intro nz6_5 hnz6_5
 refine HO_nil ?_
 refine H_env (ρ':=[(0,_)]) ⟨rfl,trivial⟩ ?_
 refine H_seq ?_
 refine H_closeRow (i:=0) (R:=[_]) (kd:=kSess) (cp:=c) (xs.take i ++ xs.drop (i + 1)) (vals0.take (i * 7) ++ vals0.drop ((i + 1) * 7)) (nz6_5 ++ spare0) rfl ?_ ?_ ?_ ?_ ?_ ?_ ?_
 ·(simp only [List.append_assoc])
 ·omega
 ·(show _ = c * 7;simp only [List.length_append,List.length_take,List.length_drop];omega)
 ·(simp only [List.length_append,List.length_take,List.length_drop];omega)
 ·(simp only [maxLen];omega)
 ·exact (fun ok w hA => rowRep.del (hA _ (List.mem_of_getElem? (i:=0) rfl)) (by omega))
 refine H_region (l:=[_,_]) rfl ?_
 refine HO_move rfl rfl rfl ?_
 refine HO_assign rfl rfl rfl ?_
 refine HO_nil ?_
 refine H_env (ρ':=[(6,_)]) ⟨rfl,trivial⟩ ?_
 refine H_ret1 Try.results86 (.tmp rfl) (fun w hA => ⟨(some ⟨g0,0,none⟩,c),congrArg Ending.returned ?_,?_,?_⟩)
 ·(have hq : i + (xs.length - (i + 1)) = (xs.take i ++ xs.drop (i + 1)).length:=by simp only [List.length_append,List.length_take,List.length_drop];omega);rw [hq]
 ·trivial
 ·exact hA.keep (m:=[yy,nn]) (Y:=[_]) rfl
theorem withS_spec (xs : List Sess) (a : Option Addr) (c : Nat) (si sq er : Int) (fo : Bool) (va : ByteArray) (se : Int) (ps : List Pair) (ap : Option Addr) (cp : Nat) (hs : soInt.Srt Sess.id xs) (hl : xs.length≤10000) (ri : -9223372036854775808≤si∧si≤9223372036854775807) (rq : -9223372036854775808≤sq∧sq≤9223372036854775807) (re : -9223372036854775808≤er∧er≤9223372036854775807) (sv : va.size≤BIG) (rs : -9223372036854775808≤se∧se≤9223372036854775807) (sp : ps.length≤BIG) : Spec Try.prog 63 #[.slice a (xs.length) c,.agg #[.int .i64 (si),.int .i64 (sq),.int .i64 (er),.bool (fo),.string (va),.int .i64 (se),.slice ap (ps.length) cp],.func (.func 60) #[] #[]] [.dat kSess.sl (xs) [.slice a (xs.length) c],.dat kPair.sl (ps) [.slice ap (ps.length) cp]] (β:=Option Addr × Nat) (fun y => .slice y.1 ((soInt.put Sess.id (⟨si,sq,⟨er,fo,va,se,ps⟩⟩ : Sess) xs).length) y.2) (fun y => True) (fun y => [.dat kSess.sl ((soInt.put Sess.id (⟨si,sq,⟨er,fo,va,se,ps⟩⟩ : Sess) xs)) [.slice y.1 ((soInt.put Sess.id (⟨si,sq,⟨er,fo,va,se,ps⟩⟩ : Sess) xs).length) y.2]]):=by
 refine Spec.enter (vs:=[_,_,_]) Try.func63 rfl Try.ntmps63 rfl (Nat.le_of_ble_eq_true rfl) (fun w0 ok0 => ?_)
 generalize hM0 : blks _ = M0
 have hMn:=@noM _ _ hM0 (by simp [Atom.dat,Atom.elem])
 refine H_len_le (i:=0) rfl ?_
 intro hlen0
 refine H_len_le (i:=1) rfl ?_
 intro hlen1
 refine H_seq ?_
 refine H_region (l:=[_,_]) rfl ?_
 refine HO_box (cs:=[_,_,_,_,_,_,_]) rfl rfl rfl rfl ?_
 intro g4
 refine HO_assign rfl rfl rfl ?_
 refine HO_nil ?_
 refine H_env (ρ':=[(4,_),(0,_),(2,_)]) ⟨rfl,rfl,rfl,trivial⟩ ?_
 refine H_seq ?_
 refine H_region (l:=[_,_,_]) rfl ?_
 refine HO_move rfl rfl rfl ?_
 refine HO_dup (i:=1) rfl rfl ?_
 refine HO_call (first:=[]) (capt:=[]) (is:=[0]) (R:=[_,_,_]) rfl rfl rfl rfl rfl Try.call85 rfl (cloneS_spec _ _ _ ?_) ?_
 ·exact hl
 intro y10 hy10
 refine HO_assign rfl rfl rfl ?_
 refine HO_nil ?_
 refine H_env (ρ':=[(0,_),(4,_),(2,_)]) ⟨rfl,rfl,rfl,trivial⟩ ?_
 refine H_world (kp [yy,yy,nn,yy] [_,_,_] rfl) ?_
 refine H_seq ?_
 refine H_region (l:=[_,_,_,_,_,_,_,_,_,_,_]) rfl ?_
 iterate 2 refine HO_move rfl rfl rfl ?_
 refine HO_loadA (i:=1) (us:=[]) (cs:=[_,_,_,_,_,_,_]) (ts:=[]) rfl rfl rfl Try.isAgg67 Try.sizeOf67 rfl (.loc _ _ _) rfl rfl rfl rfl ?_
 refine HO_call (first:=[]) (capt:=[]) (is:=[]) (R:=[_,_,_]) rfl rfl rfl rfl rfl Try.call60 rfl (idOf_spec _ _ _ _ _ _ _ _ _) ?_
 intro y15 hy15
 clear y15 hy15
 refine HO_move rfl rfl rfl ?_
 refine HO_call (first:=[]) (capt:=[]) (is:=[0]) (R:=[_,_]) rfl rfl rfl rfl rfl Try.call59 rfl (Spec.lend (pre1:=[]) (pre2:=[]) (findS_spec _ _ _ _ ?_ ?_) rfl (fun _ _ ha => nomatch ha)) ?_
 ·exact hs
 ·exact hl
 intro y17 hy17
 clear y17 hy17
 refine HO_move rfl rfl rfl ?_
 refine HO_extract (vs:=[_,_]) rfl rfl rfl rfl ?_
 refine HO_extract (vs:=[_,_]) rfl rfl rfl rfl ?_
 iterate 2 refine HO_assign rfl rfl rfl ?_
 refine HO_nil ?_
 refine H_env (ρ':=[(8,_),(7,_),(0,_),(4,_)]) ⟨rfl,rfl,rfl,rfl,trivial⟩ ?_
 refine H_seq ?_
 refine H_seq ?_
 refine H_region (l:=[_]) rfl ?_
 refine HO_move rfl rfl rfl ?_
 refine HO_nil ?_
 refine H_env (ρ':=[(20,_),(7,_),(0,_),(4,_)]) ⟨rfl,rfl,rfl,rfl,trivial⟩ ?_
 refine H_cond rfl ?_ ?_
 ·intro h20
  replace h20 : soInt.found Sess.id (Sess.id (⟨si,sq,⟨er,fo,va,se,ps⟩⟩ : Sess)) xs = true:=h20
  refine H_seq ?_
  refine H_region (l:=[_,_,_,_,_]) rfl ?_
  iterate 2 refine HO_move rfl rfl rfl ?_
  refine HO_loadA (i:=1) (us:=[]) (cs:=[_,_,_,_,_,_,_]) (ts:=[]) rfl rfl rfl Try.isAgg67 Try.sizeOf67 rfl (.loc _ _ _) rfl rfl rfl rfl ?_
  refine HO_indexOwn (i:=0) rfl rfl rfl rfl rfl Try.underlying54 Try.sizeOf67 rfl (by first | rfl | (simp;done) | (simp;omega)) ?_ rfl ?_
  ·exact soInt.found_rank Sess.id h20
  intro g24 z24 hg24 hz24
  refine HO_storeOwn (i:=0) (cs:=[_,_,_,_,_,_,_]) (R:=[_,_]) (z':=(⟨si,sq,⟨er,fo,va,se,ps⟩⟩ : Sess)) rfl rfl rfl Try.sizeOf67 rfl (by simp [Value.oneCell']) rfl hg24 rfl rfl ?_ (fun ok w hA => ⟨⟨ri,rq,re,sv,rs,sp⟩,⟨_,_⟩,rfl,(List.forall_mem_cons.2 ⟨hA _ (List.mem_of_getElem? (i:=1) rfl),(by simp)⟩)⟩) ?_
  ·exact soInt.found_rank Sess.id h20
  refine HO_nil ?_
  refine H_env (ρ':=[(0,_)]) ⟨rfl,trivial⟩ ?_
  refine H_world (kp [yy,nn,nn] [_] rfl) ?_
  refine H_seq ?_
  refine H_region (l:=[_,_]) rfl ?_
  refine HO_move rfl rfl rfl ?_
  refine HO_assign rfl rfl rfl ?_
  refine HO_nil ?_
  refine H_env (ρ':=[(6,_)]) ⟨rfl,trivial⟩ ?_
  refine H_freeze (i:=0) (R:=[]) rfl hMn ?_
  refine H_ret1 Try.results63 (.tmp rfl) (fun w hA => ⟨(y10.1,y10.2),congrArg Ending.returned ?_,?_,?_⟩)
  ·(rw [soInt.put_len_yes Sess.id h20])
  ·trivial
  ·(rw [soInt.put_yes Sess.id h20];exact hA.keep (m:=[yy]) (Y:=[_]) rfl)
 intro h20
 replace h20 : soInt.found Sess.id (Sess.id (⟨si,sq,⟨er,fo,va,se,ps⟩⟩ : Sess)) xs = false:=h20
 refine H_skip ?_
 refine H_seq ?_
 refine H_region (l:=[_,_,_,_,_,_]) rfl ?_
 iterate 2 refine HO_move rfl rfl rfl ?_
 refine HO_loadA (i:=1) (us:=[]) (cs:=[_,_,_,_,_,_,_]) (ts:=[]) rfl rfl rfl Try.isAgg67 Try.sizeOf67 rfl (.loc _ _ _) rfl rfl rfl rfl ?_
 refine HO_buildSlice (kd:=kSess) (xo:=[_]) (vs:=[_]) (cs:=[_,_,_,_,_,_,_]) (xs:=[(⟨si,sq,⟨er,fo,va,se,ps⟩⟩ : Sess)]) rfl rfl rfl rfl Try.underlying54 elt67 rfl rfl rfl (by decide) (by decide) (by simp [Value.cells]) rfl (fun ok w hA => ⟨_,_,rfl,⟨⟨ri,rq,re,sv,rs,sp⟩,⟨_,_⟩,rfl,(List.forall_mem_cons.2 ⟨hA _ (List.mem_of_getElem? (i:=2) rfl),(by simp)⟩)⟩,rfl⟩) ?_
 intro g29
 refine HO_call (first:=[]) (capt:=[]) (is:=[0,0]) (R:=[_,_]) rfl rfl rfl rfl rfl Try.call93 rfl (insertS_spec _ _ _ _ _ _ ?_ ?_) ?_
 ·exact soInt.rank_le Sess.id _ _
 ·exact hl
 intro y30 hy30
 refine HO_assign rfl rfl rfl ?_
 refine HO_nil ?_
 refine H_env (ρ':=[(6,_)]) ⟨rfl,trivial⟩ ?_
 refine H_world (kp [yy,nn,nn] [_] rfl) ?_
 refine H_freeze (i:=0) (R:=[]) rfl hMn ?_
 refine H_ret1 Try.results63 (.tmp rfl) (fun w hA => ⟨(y30.1,y30.2),congrArg Ending.returned ?_,?_,?_⟩)
 ·(rw [soInt.put_no Sess.id h20])
 ·trivial
 ·(rw [soInt.put_no Sess.id h20];exact hA.keep (m:=[yy]) (Y:=[_]) rfl)
theorem withoutS_spec (xs : List Sess) (a : Option Addr) (c : Nat) (k : Int) (hs : soInt.Srt Sess.id xs) (hl : xs.length≤10000) : Spec Try.prog 61 #[.slice a (xs.length) c,.int .i64 (k),.func (.func 60) #[] #[]] [.dat kSess.sl (xs) [.slice a (xs.length) c]] (β:=Option Addr × Nat) (fun y => .slice y.1 ((soInt.cut Sess.id k xs).length) y.2) (fun y => True) (fun y => [.dat kSess.sl ((soInt.cut Sess.id k xs)) [.slice y.1 ((soInt.cut Sess.id k xs).length) y.2]]):=by
 refine Spec.enter (vs:=[_,_,_]) Try.func61 rfl Try.ntmps61 rfl (Nat.le_of_ble_eq_true rfl) (fun w0 ok0 => ?_)
 generalize hM0 : blks _ = M0
 have hMn:=@noM _ _ hM0 (by simp [Atom.dat,Atom.elem])
 refine H_len_le (i:=0) rfl ?_
 intro hlen0
 refine H_seq ?_
 refine H_region (l:=[_]) rfl ?_
 refine HO_assign rfl rfl rfl ?_
 refine HO_nil ?_
 refine H_env (ρ':=[(0,_),(1,_),(2,_)]) ⟨rfl,rfl,rfl,trivial⟩ ?_
 refine H_seq ?_
 refine H_region (l:=[_,_,_]) rfl ?_
 refine HO_move rfl rfl rfl ?_
 refine HO_dup (i:=0) rfl rfl ?_
 refine HO_call (first:=[]) (capt:=[]) (is:=[0]) (R:=[_]) rfl rfl rfl rfl rfl Try.call85 rfl (cloneS_spec _ _ _ ?_) ?_
 ·exact hl
 intro y10 hy10
 refine HO_assign rfl rfl rfl ?_
 refine HO_nil ?_
 refine H_env (ρ':=[(0,_),(1,_),(2,_)]) ⟨rfl,rfl,rfl,trivial⟩ ?_
 refine H_world (kp [yy,nn] [_] rfl) ?_
 refine H_seq ?_
 refine H_seq ?_
 refine H_region (l:=[_,_,_,_,_,_,_,_,_]) rfl ?_
 iterate 3 refine HO_move rfl rfl rfl ?_
 refine HO_call (first:=[]) (capt:=[]) (is:=[0]) (R:=[]) rfl rfl rfl rfl rfl Try.call59 rfl (Spec.lend (pre1:=[]) (pre2:=[]) (findS_spec _ _ _ _ ?_ ?_) rfl (fun _ _ ha => nomatch ha)) ?_
 ·exact hs
 ·exact hl
 intro y15 hy15
 clear y15 hy15
 refine HO_move rfl rfl rfl ?_
 refine HO_extract (vs:=[_,_]) rfl rfl rfl rfl ?_
 refine HO_extract (vs:=[_,_]) rfl rfl rfl rfl ?_
 iterate 2 refine HO_assign rfl rfl rfl ?_
 refine HO_nil ?_
 refine H_env (ρ':=[(8,_),(7,_),(0,_)]) ⟨rfl,rfl,rfl,trivial⟩ ?_
 refine H_seq ?_
 refine H_region (l:=[_]) rfl ?_
 refine HO_move rfl rfl rfl ?_
 refine HO_nil ?_
 refine H_env (ρ':=[(18,_),(7,_),(0,_)]) ⟨rfl,rfl,rfl,trivial⟩ ?_
 refine H_cond rfl ?_ ?_
 ·intro h18
  refine H_region (l:=[_,_,_,_,_,_]) rfl ?_
  iterate 3 refine HO_move rfl rfl rfl ?_
  refine HO_bin rfl rfl rfl rfl (bin_add ?_ ?_) ?_
  ·(have:=soInt.rank_le Sess.id k xs;omega)
  ·(have:=soInt.rank_le Sess.id k xs;omega)
  refine HO_call (first:=[]) (capt:=[]) (is:=[0]) (R:=[]) rfl rfl rfl rfl rfl Try.call86 rfl (deleteS_spec _ _ _ _ ?_ ?_) ?_
  ·exact soInt.found_rank Sess.id h18
  ·exact hl
  intro y23 hy23
  refine HO_assign rfl rfl rfl ?_
  refine HO_nil ?_
  refine H_env (ρ':=[(0,_)]) ⟨rfl,trivial⟩ ?_
  refine H_seq ?_
  refine H_region (l:=[_,_]) rfl ?_
  refine HO_move rfl rfl rfl ?_
  refine HO_assign rfl rfl rfl ?_
  refine HO_nil ?_
  refine H_env (ρ':=[(6,_)]) ⟨rfl,trivial⟩ ?_
  refine H_freeze (i:=0) (R:=[]) rfl hMn ?_
  refine H_ret1 Try.results61 (.tmp rfl) (fun w hA => ⟨(y23.1,y23.2),congrArg Ending.returned ?_,?_,?_⟩)
  ·(rw [soInt.cut_yes Sess.id h18])
  ·trivial
  ·(rw [soInt.cut_yes Sess.id h18];exact hA.keep (m:=[yy]) (Y:=[_]) rfl)
 intro h18
 refine H_skip ?_
 refine H_seq ?_
 refine H_region (l:=[_,_]) rfl ?_
 refine HO_move rfl rfl rfl ?_
 refine HO_assign rfl rfl rfl ?_
 refine HO_nil ?_
 refine H_env (ρ':=[(6,_)]) ⟨rfl,trivial⟩ ?_
 refine H_freeze (i:=0) (R:=[]) rfl hMn ?_
 refine H_ret1 Try.results61 (.tmp rfl) (fun w hA => ⟨(y10.1,y10.2),congrArg Ending.returned ?_,?_,?_⟩)
 ·(rw [soInt.cut_no Sess.id h18])
 ·trivial
 ·(rw [soInt.cut_no Sess.id h18];exact hA.keep (m:=[yy]) (Y:=[_]) rfl)
end Go.Wk
