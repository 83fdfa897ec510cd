/- Contracts of the program's functions, each proved by walking its code. -/
import Derived.Test.YtlkdpglngomblaaKfsort1
import Derived.Test.YtlkdpglngomblaaOrd
set_option maxRecDepth 100000
set_option linter.unusedVariables false
set_option linter.unusedSimpArgs false
namespace Go.Wk.Fsort2
open Go Go.RowKit Go.Proofs Go.Wk

end Go.Wk.Fsort2
namespace Go.Wk
open Go Go.RowKit Go.Proofs Fsort2 
set_option maxHeartbeats 0 in
theorem symm_spec (ops : List Op) (a9 : Option Addr) (c9 : Nat) (gc : Nat) (ar : Option Addr) (n c : Nat) (xs : List Int) (p m r : Nat) (hl : ops.length≤10000) (hln : n≤10000) (hn : xs.length = n) (hix : Hist.Idx ops xs) (hp : p < m) (hm : m < r) (hr : r≤n) (hg : Srt.Mg (Hist.so ops) xs p m r) : Spec Try.prog 96 #[.slice ar (n) c,.int .i64 ((p : Int)),.int .i64 ((m : Int)),.int .i64 ((r : Int)),.func (.func 45) #[] #[.pointer (some ⟨gc,0,none⟩)]] [.own 3 kInt ar c (xs),.loc gc [.slice a9 (ops.length) c9] 23,.dat kOp.sl (ops) [.slice a9 (ops.length) c9]] (β:=List Int) (fun y => .tuple #[]) (fun y => Srt.Sg p r xs y∧Srt.So (Hist.so ops) y p r) (fun y => [.own 3 kInt ar c (y),.loc gc [.slice a9 (ops.length) c9] 23]):=by
 obtain ⟨K,hK⟩ : ∃ K,r - p = K:=⟨_,rfl⟩
 induction K using Nat.strongRecOn generalizing xs p m r
 rename_i K ih
 have ih2:=fun (xs : List Int) (p m r : Nat) (hn : xs.length = n) (hix : Hist.Idx ops xs) (hp : p < m) (hm : m < r) (hr : r≤n) (hg : Srt.Mg (Hist.so ops) xs p m r) (hlt : r - p < K) => ih (r - p) hlt xs p m r hn hix hp hm hr hg rfl
 clear ih
 obtain ⟨v0,hv0⟩:=Srt.at_lt (xs:=xs) (k:=p) (by omega)
 obtain ⟨v1,hv1⟩:=Srt.at_lt (xs:=xs) (k:=m) (by omega)
 refine Spec.enter (vs:=[_,_,_,_,_]) Try.func96 rfl Try.ntmps96 rfl (Nat.le_of_ble_eq_true rfl) (fun w0 ok0 => ?_)
 generalize hM0 : blks _ = M0
 refine H_len_le (i:=2) rfl ?_
 intro hlen2
 refine H_seq ?_
 refine H_seq ?_
 refine H_region (l:=[_,_,_,_]) rfl ?_
 iterate 2 refine HO_move rfl rfl rfl ?_
 refine HO_bin rfl rfl rfl rfl (bin_sub ?_ ?_) ?_
 ·omega
 ·omega
 refine HO_set (v':=.int .i64 (((m - p : Nat) : Int))) 27 rfl (by exact congrArg (Value.int .i64) (by omega)) ?_
 refine HO_bin rfl rfl rfl rfl bin_eql ?_
 refine HO_nil ?_
 refine H_env (ρ':=[(28,_),(0,_),(1,_),(2,_),(3,_),(4,_)]) ⟨rfl,rfl,rfl,rfl,rfl,rfl,trivial⟩ ?_
 refine H_cond rfl ?_ ?_
 ·intro h28
  replace h28:=dT h28
  have hm1 : m = p + 1:=by omega
  refine H_seq ?_
  refine H_region (l:=[_,_]) rfl ?_
  refine HO_move rfl rfl rfl ?_
  refine HO_assign rfl rfl rfl ?_
  refine HO_nil ?_
  refine H_env (ρ':=[(10,_),(0,_),(1,_),(3,_),(4,_)]) ⟨rfl,rfl,rfl,rfl,rfl,trivial⟩ ?_
  refine H_seq ?_
  refine H_region (l:=[_,_]) rfl ?_
  refine HO_move rfl rfl rfl ?_
  refine HO_assign rfl rfl rfl ?_
  refine HO_nil ?_
  refine H_env (ρ':=[(11,_),(10,_),(0,_),(1,_),(4,_)]) ⟨rfl,rfl,rfl,rfl,rfl,trivial⟩ ?_
  refine H_seq ?_
  refine H_block ?_
  refine H_loop (σ:=Nat × Nat) (fun s => m≤s.1∧s.1≤s.2∧s.2≤r∧(∀ (q : Nat) (x : Int),m≤q→q < s.1→xs[q]? = some x→(Hist.so ops).lt x v0 = true)∧(∀ (q : Nat) (x : Int),s.2≤q→q < r→xs[q]? = some x→(Hist.so ops).lt x v0 = false)) (fun s => [(0,.slice ar (n) c),(1,.int .i64 ((p : Int))),(4,.func (.func 45) #[] #[.pointer (some ⟨gc,0,none⟩)]),(10,.int .i64 ((s.1 : Int))),(11,.int .i64 ((s.2 : Int)))]) (fun s => Asn w0 ok0 M0 [.own 3 kInt ar c (xs),.loc gc [.slice a9 (ops.length) c9] 23,.dat kOp.sl (ops) [.slice a9 (ops.length) c9]]) (fun s => s.2 - s.1) ⟨m,r⟩ ?_ ?_ ?_ ?_
  ·exact ⟨Nat.le_refl _,by dsimp only;omega,Nat.le_refl _,fun q x h1 h2 => absurd h1 (by omega),fun q x h1 h2 => absurd h1 (by omega)⟩
  ·exact ⟨rfl,rfl,rfl,rfl,rfl,trivial⟩
  ·intro w hA
   exact hA.only (is:=[0,1,2]) (Z:=[]) rfl
  ·rintro ⟨i,j⟩ hI
   (try dsimp only at hI ⊢)
   refine H_seq ?_
   refine H_seq ?_
   refine H_region (l:=[_,_,_]) rfl ?_
   iterate 2 refine HO_move rfl rfl rfl ?_
   refine HO_bin rfl rfl rfl rfl bin_lss ?_
   refine HO_nil ?_
   refine H_env (ρ':=[(33,_),(0,_),(1,_),(4,_),(10,_),(11,_)]) ⟨rfl,rfl,rfl,rfl,rfl,rfl,trivial⟩ ?_
   refine H_cond rfl ?_ ?_
   ·intro h33
    replace h33:=dT h33
    refine H_skip ?_
    refine H_block ?_
    refine H_seq ?_
    refine H_region (l:=[_,_,_,_,_,_,_]) rfl ?_
    iterate 2 refine HO_move rfl rfl rfl ?_
    refine HO_bin rfl rfl rfl rfl (bin_add ?_ ?_) ?_
    ·omega
    ·omega
    refine HO_conv rfl rfl rfl (cv_int Try.underlying3 Try.underlying75 (wrap_u_i rfl _)) ?_
    refine HO_set (v':=.int .u64 (((i + j : Nat) : Int))) 37 rfl (by exact congrArg (Value.int .u64) (by simp only [IntKind.bits];omega)) ?_
    refine HO_bin rfl rfl rfl rfl (bin_shr (s:=1) ?_) ?_
    ·(simp only [IntKind.bits];omega)
    refine HO_conv rfl rfl rfl (cv_int Try.underlying75 Try.underlying3 (wrap_i64_nat ?_)) ?_
    ·omega
    refine HO_assign rfl rfl rfl ?_
    refine HO_nil ?_
    refine H_env (ρ':=[(12,_),(0,_),(1,_),(4,_),(10,_),(11,_)]) ⟨rfl,rfl,rfl,rfl,rfl,rfl,trivial⟩ ?_
    refine H_seq ?_
    obtain ⟨u,hu⟩:=Srt.at_lt (xs:=xs) (k:=(i + j) / 2 ^ 1) (by omega)
    refine H_ownAddr (i:=0) rfl (by omega) (fun g0 hg0 => ?_)
    rw [hg0]
    refine H_drawB (m:=[yy,nn,yy]) (Xs:=[_,_]) (fuel:=11) (l:=#[false,false,false,false,false,false,false,false,false,false,false]) mixed rfl rfl rfl ?_
    refine HA_take (i:=0) bp rfl rfl rfl rfl (by kernel_rfl) rfl (V_move rfl) (kp [yy,nn,yy] [_,_] rfl) ?_
    refine HA_take (i:=1) bp rfl rfl rfl rfl (by kernel_rfl) rfl (V_move rfl) (kp [yy,nn,yy] [_,_] rfl) ?_
    refine HA_take (i:=2) bp rfl rfl rfl rfl (by kernel_rfl) rfl (V_move rfl) (kp [yy,nn,yy] [_,_] rfl) ?_
    refine HA_take (i:=3) bp rfl rfl rfl rfl (by kernel_rfl) rfl (V_indexC (j:=(i + j) / 2 ^ 1) rfl rfl ?_ Try.underlying29 Try.sizeOf3 ?_ ((congrArg (0 + ·) (Nat.mul_one _)).trans (Nat.zero_add _))) (kp [yy,nn,yy] [_,_] rfl) ?_
    ·omega
    ·omega
    refine HA_take (i:=4) bp rfl rfl rfl rfl (by kernel_rfl) rfl (V_loadOwn (i:=0) (v:=.int .i64 ((u))) rfl Try.isAgg3 rfl rfl (Nat.mul_one _) hu (fun _ _ _ h => h.1)) (kp [yy,nn,yy] [_,_] rfl) ?_
    refine HA_take (i:=5) bp rfl rfl rfl rfl (by kernel_rfl) rfl (V_move rfl) (kp [yy,nn,yy] [_,_] rfl) ?_
    refine HA_take (i:=6) bp rfl rfl rfl rfl (by kernel_rfl) rfl (V_move rfl) (kp [yy,nn,yy] [_,_] rfl) ?_
    refine HA_take (i:=7) bp rfl rfl rfl rfl (by kernel_rfl) rfl (V_indexC rfl rfl rfl Try.underlying29 Try.sizeOf3 ?_ ((congrArg (0 + ·) (Nat.mul_one _)).trans (Nat.zero_add _))) (kp [yy,nn,yy] [_,_] rfl) ?_
    ·omega
    refine HA_take (i:=8) bp rfl rfl rfl rfl (by kernel_rfl) rfl (V_loadOwn (i:=0) (v:=.int .i64 ((v0))) rfl Try.isAgg3 rfl rfl (Nat.mul_one _) hv0 (fun _ _ _ h => h.1)) (kp [yy,nn,yy] [_,_] rfl) ?_
    refine HA_loud1 (i:=9) (by kernel_rfl) rfl ?_
    refine HO_dup (i:=2) rfl rfl ?_
    refine HO_call (first:=[]) (capt:=[_]) (is:=[1,0]) (R:=[_,_]) rfl rfl rfl rfl rfl Try.call45 rfl (ord1_spec _ _ _ _ _ _ ?_ ?_ ?_) ?_
    ·exact hl
    ·exact hix.at_ hu
    ·exact hix.at_ hv0
    intro y49 hy49
    clear y49 hy49
    refine HA_back rfl (kp [nn,yy,yy] [_,_] rfl) ?_
    refine HA_take (i:=10) bp rfl rfl rfl rfl (by kernel_rfl) rfl (V_bin rfl rfl bin_lss) (kp [nn,yy,yy] [_,_] rfl) ?_
    refine HA_done (by kernel_rfl) ?_
    refine H_env (ρ':=[(50,_),(12,_),(0,_),(1,_),(4,_),(10,_),(11,_)]) ⟨rfl,rfl,rfl,rfl,rfl,rfl,rfl,trivial⟩ ?_
    refine H_cond rfl ?_ ?_
    ·intro h50
     replace h50:=dT h50
     refine H_region (l:=[_,_,_]) rfl ?_
     refine HO_move rfl rfl rfl ?_
     refine HO_bin rfl rfl rfl rfl (bin_add ?_ ?_) ?_
     ·omega
     ·omega
     refine HO_assign rfl rfl rfl ?_
     refine HO_nil ?_
     refine H_env (ρ':=[(10,_),(0,_),(1,_),(4,_),(11,_)]) ⟨rfl,rfl,rfl,rfl,rfl,trivial⟩ ?_
     refine H_blk ?_
     refine H_inv (fun a w hf hA => ⟨⟨(i + j) / 2 ^ 1 + 1,j⟩,?_,?_,hf.sub ?_,?_⟩)
     ·exact ⟨by dsimp only;omega,by dsimp only;omega,hI.2.2.1,Srt.bs1_lo hg.right hu (by omega) (Hist.late_neg (hg.cr p ((i + j) / 2 ^ 1) v0 u (Nat.le_refl _) hp (by omega) (by omega) hv0 hu) h50),hI.2.2.2.2⟩
     ·(try dsimp only);omega
     ·exact ⟨rfl,rfl,rfl,rfl,rfl,trivial⟩
     ·exact hA.only (is:=[0,0,2]) (Z:=[]) rfl
    intro h50
    replace h50:=dF h50
    refine H_region (l:=[_,_]) rfl ?_
    refine HO_move rfl rfl rfl ?_
    refine HO_assign rfl rfl rfl ?_
    refine HO_nil ?_
    refine H_env (ρ':=[(11,_),(0,_),(1,_),(4,_),(10,_)]) ⟨rfl,rfl,rfl,rfl,rfl,trivial⟩ ?_
    refine H_blk ?_
    refine H_inv (fun a w hf hA => ⟨⟨i,(i + j) / 2 ^ 1⟩,?_,?_,hf.sub ?_,?_⟩)
    ·exact ⟨hI.1,by dsimp only;omega,by dsimp only;omega,hI.2.2.2.1,Srt.bs1_hi hg.right hu (by omega) (Hist.late_pos (hg.cr p ((i + j) / 2 ^ 1) v0 u (Nat.le_refl _) hp (by omega) (by omega) hv0 hu) h50)⟩
    ·(try dsimp only);omega
    ·exact ⟨rfl,rfl,rfl,rfl,rfl,trivial⟩
    ·exact hA.only (is:=[0,0,2]) (Z:=[]) rfl
   intro h33
   replace h33:=dF h33
   refine H_exit rfl ?_
   refine H_seq ?_
   refine H_seq ?_
   have hS:=hI
   obtain rfl : i = j:=by omega
   refine H_region (l:=[_,_]) rfl ?_
   refine HO_move rfl rfl rfl ?_
   refine HO_assign rfl rfl rfl ?_
   refine HO_nil ?_
   refine H_env (ρ':=[(13,_),(0,_),(10,_)]) ⟨rfl,rfl,rfl,trivial⟩ ?_
   refine H_block ?_
   refine H_loop (σ:=List Int × Nat) (fun s => p≤s.2∧s.2 + 1≤i∧Srt.Ro xs s.1 p (p + 1) (s.2 + 1)) (fun s => [(0,.slice ar (n) c),(10,.int .i64 ((i : Int))),(13,.int .i64 ((s.2 : Int)))]) (fun s => Asn w0 ok0 M0 [.own 3 kInt ar c (s.1),.loc gc [.slice a9 (ops.length) c9] 23,.dat kOp.sl (ops) [.slice a9 (ops.length) c9]]) (fun s => i - s.2) ⟨xs,p⟩ ?_ ?_ ?_ ?_
   ·exact ⟨Nat.le_refl _,by dsimp only;omega,.right⟩
   ·exact ⟨rfl,rfl,rfl,trivial⟩
   ·intro w hA
    exact hA.only (is:=[0,1,2]) (Z:=[]) rfl
   ·rintro ⟨zs,k⟩ hI
    (try dsimp only at hI ⊢)
    refine H_seq ?_
    refine H_seq ?_
    refine H_region (l:=[_,_,_,_]) rfl ?_
    iterate 2 refine HO_move rfl rfl rfl ?_
    refine HO_bin rfl rfl rfl rfl (bin_sub ?_ ?_) ?_
    ·omega
    ·omega
    refine HO_set (v':=.int .i64 (((i - 1 : Nat) : Int))) 57 rfl (by exact congrArg (Value.int .i64) (by omega)) ?_
    refine HO_bin rfl rfl rfl rfl bin_lss ?_
    refine HO_nil ?_
    refine H_env (ρ':=[(58,_),(0,_),(10,_),(13,_)]) ⟨rfl,rfl,rfl,rfl,trivial⟩ ?_
    refine H_cond rfl ?_ ?_
    ·intro h58
     replace h58:=dT h58
     refine H_skip ?_
     refine H_seq ?_
     refine H_block ?_
     have hlz:=hI.2.2.1
     obtain ⟨x,hx⟩:=Srt.at_lt (xs:=zs) (k:=k) (by omega)
     obtain ⟨y,hy⟩:=Srt.at_lt (xs:=zs) (k:=k + 1) (by omega)
     refine H_ownAll (i:=0) (J:=fun z => -9223372036854775808≤z∧z≤9223372036854775807) rfl (fun _ _ _ _ h => h.2) (fun hall => ?_)
     refine H_ownAddr (i:=0) rfl (by omega) (fun g0 hg0 => ?_)
     rw [hg0]
     refine H_drawB (m:=[nn,yy,yy]) (Xs:=[_,_]) (fuel:=18) (l:=#[false,false,false,false,false,false,false,false,false,false,false,false,false,false,false,false,false,false]) mixed rfl rfl rfl ?_
     refine HA_take (i:=0) bp rfl rfl rfl rfl (by kernel_rfl) rfl (V_move rfl) (kp [nn,yy,yy] [_,_] rfl) ?_
     refine HA_take (i:=1) bp rfl rfl rfl rfl (by kernel_rfl) rfl (V_move rfl) (kp [nn,yy,yy] [_,_] rfl) ?_
     refine HA_take (i:=2) bp rfl rfl rfl rfl (by kernel_rfl) rfl (V_move rfl) (kp [nn,yy,yy] [_,_] rfl) ?_
     refine HA_take (i:=3) bp rfl rfl rfl rfl (by kernel_rfl) rfl (V_move rfl) (kp [nn,yy,yy] [_,_] rfl) ?_
     refine HA_take (i:=4) bp rfl rfl rfl rfl (by kernel_rfl) rfl (V_bin rfl rfl (bin_add ?_ ?_)) (kp [nn,yy,yy] [_,_] rfl) ?_
     ·omega
     ·omega
     refine HA_take (i:=5) bp rfl rfl rfl rfl (by kernel_rfl) rfl (V_move rfl) (kp [nn,yy,yy] [_,_] rfl) ?_
     refine HA_take (i:=6) bp rfl rfl rfl rfl (by kernel_rfl) rfl (V_move rfl) (kp [nn,yy,yy] [_,_] rfl) ?_
     refine HA_take (i:=7) bp rfl rfl rfl rfl (by kernel_rfl) rfl (V_bin rfl rfl (bin_add ?_ ?_)) (kp [nn,yy,yy] [_,_] rfl) ?_
     ·omega
     ·omega
     refine HA_take (i:=8) bp rfl rfl rfl rfl (by kernel_rfl) rfl (V_indexC (j:=k + 1) rfl rfl ?_ Try.underlying29 Try.sizeOf3 ?_ ((congrArg (0 + ·) (Nat.mul_one _)).trans (Nat.zero_add _))) (kp [nn,yy,yy] [_,_] rfl) ?_
     ·omega
     ·omega
     refine HA_take (i:=10) bp rfl rfl rfl rfl (by kernel_rfl) rfl (V_move rfl) (kp [nn,yy,yy] [_,_] rfl) ?_
     refine HA_take (i:=11) bp rfl rfl rfl rfl (by kernel_rfl) rfl (V_move rfl) (kp [nn,yy,yy] [_,_] rfl) ?_
     refine HA_take (i:=12) bp rfl rfl rfl rfl (by kernel_rfl) rfl (V_indexC (j:=k) rfl rfl ?_ Try.underlying29 Try.sizeOf3 ?_ ((congrArg (0 + ·) (Nat.mul_one _)).trans (Nat.zero_add _))) (kp [nn,yy,yy] [_,_] rfl) ?_
     ·omega
     ·omega
     refine HA_loud2 (i:=9) (j:=13) (by kernel_rfl) rfl rfl ?_ ?_
     ·refine HO_loadOwn (i:=0) (v:=.int .i64 ((y))) rfl rfl rfl Try.isAgg3 rfl rfl (Nat.mul_one _) hy (fun _ _ _ h => h.1) ?_
      refine HA_back rfl (kp [nn,yy,yy] [_,_] rfl) ?_
      refine HA_loud1 (i:=13) (by kernel_rfl) rfl ?_
      refine HO_loadOwn (i:=0) (v:=.int .i64 ((x))) rfl rfl rfl Try.isAgg3 rfl rfl (Nat.mul_one _) hx (fun _ _ _ h => h.1) ?_
      refine HA_back rfl (kp [nn,yy,yy] [_,_] rfl) ?_
      refine HA_take (i:=14) bp rfl rfl rfl rfl (by kernel_rfl) rfl (V_indexC (j:=k) rfl rfl ?_ Try.underlying29 Try.sizeOf3 ?_ ((congrArg (0 + ·) (Nat.mul_one _)).trans (Nat.zero_add _))) (kp [nn,yy,yy] [_,_] rfl) ?_
      ·omega
      ·omega
      refine HA_loud1 (i:=15) (by kernel_rfl) rfl ?_
      refine HO_storeOwn (i:=0) (cs:=[_]) (R:=[_,_]) (z':=y) rfl rfl rfl Try.sizeOf3 rfl (by simp [Value.oneCell']) rfl rfl rfl (Nat.mul_one _) ?_ (fun _ _ _ => ⟨rfl,hall _ (List.mem_of_getElem? hy)⟩) ?_
      ·omega
      refine HA_back rfl (kp [nn,yy,yy] [_,_] rfl) ?_
      refine HA_take (i:=16) bp rfl rfl rfl rfl (by kernel_rfl) rfl (V_indexC (j:=k + 1) rfl rfl ?_ Try.underlying29 Try.sizeOf3 ?_ ((congrArg (0 + ·) (Nat.mul_one _)).trans (Nat.zero_add _))) (kp [nn,yy,yy] [_,_] rfl) ?_
      ·omega
      ·omega
      refine HA_loud1 (i:=17) (by kernel_rfl) rfl ?_
      refine HO_storeOwn (i:=0) (cs:=[_]) (R:=[_,_]) (z':=x) rfl rfl rfl Try.sizeOf3 rfl (by simp [Value.oneCell']) rfl rfl rfl (Nat.mul_one _) ?_ (fun _ _ _ => ⟨rfl,hall _ (List.mem_of_getElem? hx)⟩) ?_
      ·(simp only [List.length_set];omega)
      refine HA_back rfl (kp [nn,yy,yy] [_,_] rfl) ?_
      refine HA_done (by kernel_rfl) ?_
      refine H_env (ρ':=[(0,_),(10,_),(13,_)]) ⟨rfl,rfl,rfl,trivial⟩ ?_
      refine H_blk ?_
      refine H_region (l:=[_,_,_]) rfl ?_
      refine HO_move rfl rfl rfl ?_
      refine HO_bin rfl rfl rfl rfl (bin_add ?_ ?_) ?_
      ·omega
      ·omega
      refine HO_assign rfl rfl rfl ?_
      refine HO_nil ?_
      refine H_env (ρ':=[(13,_),(0,_),(10,_)]) ⟨rfl,rfl,rfl,trivial⟩ ?_
      refine H_inv (fun a w hf hA => ⟨⟨(zs.set k y).set (k + 1) x,k + 1⟩,?_,?_,hf.sub ?_,?_⟩)
      ·exact ⟨by dsimp only;omega,by dsimp only;omega,hI.2.2.sink hI.1 (Srt.Sw.one (by omega) hx hy)⟩
      ·(try dsimp only);omega
      ·exact ⟨rfl,rfl,rfl,trivial⟩
      ·exact hA.only (is:=[0,1,2]) (Z:=[]) rfl
     ·refine HO_loadOwn (i:=0) (v:=.int .i64 ((x))) rfl rfl rfl Try.isAgg3 rfl rfl (Nat.mul_one _) hx (fun _ _ _ h => h.1) ?_
      refine HA_back rfl (kp [nn,yy,yy] [_,_] rfl) ?_
      refine HA_loud1 (i:=9) (by kernel_rfl) rfl ?_
      refine HO_loadOwn (i:=0) (v:=.int .i64 ((y))) rfl rfl rfl Try.isAgg3 rfl rfl (Nat.mul_one _) hy (fun _ _ _ h => h.1) ?_
      refine HA_back rfl (kp [nn,yy,yy] [_,_] rfl) ?_
      refine HA_take (i:=14) bp rfl rfl rfl rfl (by kernel_rfl) rfl (V_indexC (j:=k) rfl rfl ?_ Try.underlying29 Try.sizeOf3 ?_ ((congrArg (0 + ·) (Nat.mul_one _)).trans (Nat.zero_add _))) (kp [nn,yy,yy] [_,_] rfl) ?_
      ·omega
      ·omega
      refine HA_loud1 (i:=15) (by kernel_rfl) rfl ?_
      refine HO_storeOwn (i:=0) (cs:=[_]) (R:=[_,_]) (z':=y) rfl rfl rfl Try.sizeOf3 rfl (by simp [Value.oneCell']) rfl rfl rfl (Nat.mul_one _) ?_ (fun _ _ _ => ⟨rfl,hall _ (List.mem_of_getElem? hy)⟩) ?_
      ·omega
      refine HA_back rfl (kp [nn,yy,yy] [_,_] rfl) ?_
      refine HA_take (i:=16) bp rfl rfl rfl rfl (by kernel_rfl) rfl (V_indexC (j:=k + 1) rfl rfl ?_ Try.underlying29 Try.sizeOf3 ?_ ((congrArg (0 + ·) (Nat.mul_one _)).trans (Nat.zero_add _))) (kp [nn,yy,yy] [_,_] rfl) ?_
      ·omega
      ·omega
      refine HA_loud1 (i:=17) (by kernel_rfl) rfl ?_
      refine HO_storeOwn (i:=0) (cs:=[_]) (R:=[_,_]) (z':=x) rfl rfl rfl Try.sizeOf3 rfl (by simp [Value.oneCell']) rfl rfl rfl (Nat.mul_one _) ?_ (fun _ _ _ => ⟨rfl,hall _ (List.mem_of_getElem? hx)⟩) ?_
      ·(simp only [List.length_set];omega)
      refine HA_back rfl (kp [nn,yy,yy] [_,_] rfl) ?_
      refine HA_done (by kernel_rfl) ?_
      refine H_env (ρ':=[(0,_),(10,_),(13,_)]) ⟨rfl,rfl,rfl,trivial⟩ ?_
      refine H_blk ?_
      refine H_region (l:=[_,_,_]) rfl ?_
      refine HO_move rfl rfl rfl ?_
      refine HO_bin rfl rfl rfl rfl (bin_add ?_ ?_) ?_
      ·omega
      ·omega
      refine HO_assign rfl rfl rfl ?_
      refine HO_nil ?_
      refine H_env (ρ':=[(13,_),(0,_),(10,_)]) ⟨rfl,rfl,rfl,trivial⟩ ?_
      refine H_inv (fun a w hf hA => ⟨⟨(zs.set k y).set (k + 1) x,k + 1⟩,?_,?_,hf.sub ?_,?_⟩)
      ·exact ⟨by dsimp only;omega,by dsimp only;omega,hI.2.2.sink hI.1 (Srt.Sw.one (by omega) hx hy)⟩
      ·(try dsimp only);omega
      ·exact ⟨rfl,rfl,rfl,trivial⟩
      ·exact hA.only (is:=[0,1,2]) (Z:=[]) rfl
    intro h58
    replace h58:=dF h58
    refine H_exit rfl ?_
    refine H_ret0 Try.results96  (fun w hA => ⟨zs,congrArg Ending.returned ?_,?_,?_⟩)
    ·rfl
    ·(have hki : k + 1 = i:=by omega);exact ⟨(hI.2.2.sg (by omega) (by omega)).mono (Nat.le_refl _) (by omega),(show Srt.Mg (Hist.so ops) xs p (p + 1) r by rw [← hm1];exact hg).one_left hv0 (by omega) (by omega) (fun q u h1 h2 => hS.2.2.2.1 q u (by omega) h2) (fun q u h1 h2 => hS.2.2.2.2 q u (by omega) h2) (hki ▸ hI.2.2)⟩
    ·exact hA.keep (m:=[yy,yy,nn]) (Y:=[_,_]) rfl
 intro h28
 replace h28:=dF h28
 have hm2 : ¬ m - p = 1:=by omega
 refine H_skip ?_
 refine H_seq ?_
 refine H_seq ?_
 refine H_region (l:=[_,_,_,_]) rfl ?_
 iterate 2 refine HO_move rfl rfl rfl ?_
 refine HO_bin rfl rfl rfl rfl (bin_sub ?_ ?_) ?_
 ·omega
 ·omega
 refine HO_set (v':=.int .i64 (((r - m : Nat) : Int))) 79 rfl (by exact congrArg (Value.int .i64) (by omega)) ?_
 refine HO_bin rfl rfl rfl rfl bin_eql ?_
 refine HO_nil ?_
 refine H_env (ρ':=[(80,_),(0,_),(1,_),(2,_),(3,_),(4,_)]) ⟨rfl,rfl,rfl,rfl,rfl,rfl,trivial⟩ ?_
 refine H_cond rfl ?_ ?_
 ·intro h80
  replace h80:=dT h80
  have hm1 : r = m + 1:=by omega
  refine H_seq ?_
  refine H_region (l:=[_,_]) rfl ?_
  refine HO_move rfl rfl rfl ?_
  refine HO_assign rfl rfl rfl ?_
  refine HO_nil ?_
  refine H_env (ρ':=[(14,_),(0,_),(2,_),(4,_)]) ⟨rfl,rfl,rfl,rfl,trivial⟩ ?_
  refine H_seq ?_
  refine H_region (l:=[_,_]) rfl ?_
  refine HO_move rfl rfl rfl ?_
  refine HO_assign rfl rfl rfl ?_
  refine HO_nil ?_
  refine H_env (ρ':=[(15,_),(14,_),(0,_),(2,_),(4,_)]) ⟨rfl,rfl,rfl,rfl,rfl,trivial⟩ ?_
  refine H_seq ?_
  refine H_block ?_
  refine H_loop (σ:=Nat × Nat) (fun s => p≤s.1∧s.1≤s.2∧s.2≤m∧(∀ (q : Nat) (x : Int),p≤q→q < s.1→xs[q]? = some x→(Hist.so ops).lt v1 x = false)∧(∀ (q : Nat) (x : Int),s.2≤q→q < m→xs[q]? = some x→(Hist.so ops).lt v1 x = true)) (fun s => [(0,.slice ar (n) c),(2,.int .i64 ((m : Int))),(4,.func (.func 45) #[] #[.pointer (some ⟨gc,0,none⟩)]),(14,.int .i64 ((s.1 : Int))),(15,.int .i64 ((s.2 : Int)))]) (fun s => Asn w0 ok0 M0 [.own 3 kInt ar c (xs),.loc gc [.slice a9 (ops.length) c9] 23,.dat kOp.sl (ops) [.slice a9 (ops.length) c9]]) (fun s => s.2 - s.1) ⟨p,m⟩ ?_ ?_ ?_ ?_
  ·exact ⟨Nat.le_refl _,by dsimp only;omega,Nat.le_refl _,fun q x h1 h2 => absurd h1 (by omega),fun q x h1 h2 => absurd h1 (by omega)⟩
  ·exact ⟨rfl,rfl,rfl,rfl,rfl,trivial⟩
  ·intro w hA
   exact hA.only (is:=[0,1,2]) (Z:=[]) rfl
  ·rintro ⟨i,j⟩ hI
   (try dsimp only at hI ⊢)
   refine H_seq ?_
   refine H_seq ?_
   refine H_region (l:=[_,_,_]) rfl ?_
   iterate 2 refine HO_move rfl rfl rfl ?_
   refine HO_bin rfl rfl rfl rfl bin_lss ?_
   refine HO_nil ?_
   refine H_env (ρ':=[(85,_),(0,_),(2,_),(4,_),(14,_),(15,_)]) ⟨rfl,rfl,rfl,rfl,rfl,rfl,trivial⟩ ?_
   refine H_cond rfl ?_ ?_
   ·intro h85
    replace h85:=dT h85
    refine H_skip ?_
    refine H_block ?_
    refine H_seq ?_
    refine H_region (l:=[_,_,_,_,_,_,_]) rfl ?_
    iterate 2 refine HO_move rfl rfl rfl ?_
    refine HO_bin rfl rfl rfl rfl (bin_add ?_ ?_) ?_
    ·omega
    ·omega
    refine HO_conv rfl rfl rfl (cv_int Try.underlying3 Try.underlying75 (wrap_u_i rfl _)) ?_
    refine HO_set (v':=.int .u64 (((i + j : Nat) : Int))) 89 rfl (by exact congrArg (Value.int .u64) (by simp only [IntKind.bits];omega)) ?_
    refine HO_bin rfl rfl rfl rfl (bin_shr (s:=1) ?_) ?_
    ·(simp only [IntKind.bits];omega)
    refine HO_conv rfl rfl rfl (cv_int Try.underlying75 Try.underlying3 (wrap_i64_nat ?_)) ?_
    ·omega
    refine HO_assign rfl rfl rfl ?_
    refine HO_nil ?_
    refine H_env (ρ':=[(16,_),(0,_),(2,_),(4,_),(14,_),(15,_)]) ⟨rfl,rfl,rfl,rfl,rfl,rfl,trivial⟩ ?_
    refine H_seq ?_
    obtain ⟨u,hu⟩:=Srt.at_lt (xs:=xs) (k:=(i + j) / 2 ^ 1) (by omega)
    refine H_ownAddr (i:=0) rfl (by omega) (fun g0 hg0 => ?_)
    rw [hg0]
    refine H_drawB (m:=[yy,nn,yy]) (Xs:=[_,_]) (fuel:=12) (l:=#[false,false,false,false,false,false,false,false,false,false,false,false]) mixed rfl rfl rfl ?_
    refine HA_take (i:=0) bp rfl rfl rfl rfl (by kernel_rfl) rfl (V_move rfl) (kp [yy,nn,yy] [_,_] rfl) ?_
    refine HA_take (i:=1) bp rfl rfl rfl rfl (by kernel_rfl) rfl (V_move rfl) (kp [yy,nn,yy] [_,_] rfl) ?_
    refine HA_take (i:=2) bp rfl rfl rfl rfl (by kernel_rfl) rfl (V_move rfl) (kp [yy,nn,yy] [_,_] rfl) ?_
    refine HA_take (i:=3) bp rfl rfl rfl rfl (by kernel_rfl) rfl (V_indexC rfl rfl rfl Try.underlying29 Try.sizeOf3 ?_ ((congrArg (0 + ·) (Nat.mul_one _)).trans (Nat.zero_add _))) (kp [yy,nn,yy] [_,_] rfl) ?_
    ·omega
    refine HA_take (i:=4) bp rfl rfl rfl rfl (by kernel_rfl) rfl (V_loadOwn (i:=0) (v:=.int .i64 ((v1))) rfl Try.isAgg3 rfl rfl (Nat.mul_one _) hv1 (fun _ _ _ h => h.1)) (kp [yy,nn,yy] [_,_] rfl) ?_
    refine HA_take (i:=5) bp rfl rfl rfl rfl (by kernel_rfl) rfl (V_move rfl) (kp [yy,nn,yy] [_,_] rfl) ?_
    refine HA_take (i:=6) bp rfl rfl rfl rfl (by kernel_rfl) rfl (V_move rfl) (kp [yy,nn,yy] [_,_] rfl) ?_
    refine HA_take (i:=7) bp rfl rfl rfl rfl (by kernel_rfl) rfl (V_indexC (j:=(i + j) / 2 ^ 1) rfl rfl ?_ Try.underlying29 Try.sizeOf3 ?_ ((congrArg (0 + ·) (Nat.mul_one _)).trans (Nat.zero_add _))) (kp [yy,nn,yy] [_,_] rfl) ?_
    ·omega
    ·omega
    refine HA_take (i:=8) bp rfl rfl rfl rfl (by kernel_rfl) rfl (V_loadOwn (i:=0) (v:=.int .i64 ((u))) rfl Try.isAgg3 rfl rfl (Nat.mul_one _) hu (fun _ _ _ h => h.1)) (kp [yy,nn,yy] [_,_] rfl) ?_
    refine HA_loud1 (i:=9) (by kernel_rfl) rfl ?_
    refine HO_dup (i:=2) rfl rfl ?_
    refine HO_call (first:=[]) (capt:=[_]) (is:=[1,0]) (R:=[_,_]) rfl rfl rfl rfl rfl Try.call45 rfl (ord1_spec _ _ _ _ _ _ ?_ ?_ ?_) ?_
    ·exact hl
    ·exact hix.at_ hv1
    ·exact hix.at_ hu
    intro y101 hy101
    clear y101 hy101
    refine HA_back rfl (kp [nn,yy,yy] [_,_] rfl) ?_
    refine HA_take (i:=10) bp rfl rfl rfl rfl (by kernel_rfl) rfl (V_bin rfl rfl bin_lss) (kp [nn,yy,yy] [_,_] rfl) ?_
    refine HA_take (i:=11) bp rfl rfl rfl rfl (by kernel_rfl) rfl (V_not rfl) (kp [nn,yy,yy] [_,_] rfl) ?_
    refine HA_done (by kernel_rfl) ?_
    refine H_env (ρ':=[(103,_),(16,_),(0,_),(2,_),(4,_),(14,_),(15,_)]) ⟨rfl,rfl,rfl,rfl,rfl,rfl,rfl,trivial⟩ ?_
    refine H_cond rfl ?_ ?_
    ·intro h103
     replace h103:=dF (nT h103)
     refine H_region (l:=[_,_,_]) rfl ?_
     refine HO_move rfl rfl rfl ?_
     refine HO_bin rfl rfl rfl rfl (bin_add ?_ ?_) ?_
     ·omega
     ·omega
     refine HO_assign rfl rfl rfl ?_
     refine HO_nil ?_
     refine H_env (ρ':=[(14,_),(0,_),(2,_),(4,_),(15,_)]) ⟨rfl,rfl,rfl,rfl,rfl,trivial⟩ ?_
     refine H_blk ?_
     refine H_inv (fun a w hf hA => ⟨⟨(i + j) / 2 ^ 1 + 1,j⟩,?_,?_,hf.sub ?_,?_⟩)
     ·exact ⟨by dsimp only;omega,by dsimp only;omega,hI.2.2.1,Srt.bs2_lo hg.left hu (by omega) (Hist.late_pos (hg.cr ((i + j) / 2 ^ 1) m u v1 (by omega) (by omega) (Nat.le_refl _) (by omega) hu hv1) h103),hI.2.2.2.2⟩
     ·(try dsimp only);omega
     ·exact ⟨rfl,rfl,rfl,rfl,rfl,trivial⟩
     ·exact hA.only (is:=[0,0,2]) (Z:=[]) rfl
    intro h103
    replace h103:=dT (nF h103)
    refine H_region (l:=[_,_]) rfl ?_
    refine HO_move rfl rfl rfl ?_
    refine HO_assign rfl rfl rfl ?_
    refine HO_nil ?_
    refine H_env (ρ':=[(15,_),(0,_),(2,_),(4,_),(14,_)]) ⟨rfl,rfl,rfl,rfl,rfl,trivial⟩ ?_
    refine H_blk ?_
    refine H_inv (fun a w hf hA => ⟨⟨i,(i + j) / 2 ^ 1⟩,?_,?_,hf.sub ?_,?_⟩)
    ·exact ⟨hI.1,by dsimp only;omega,by dsimp only;omega,hI.2.2.2.1,Srt.bs2_hi hg.left hu (by omega) (Hist.late_neg (hg.cr ((i + j) / 2 ^ 1) m u v1 (by omega) (by omega) (Nat.le_refl _) (by omega) hu hv1) (by omega))⟩
    ·(try dsimp only);omega
    ·exact ⟨rfl,rfl,rfl,rfl,rfl,trivial⟩
    ·exact hA.only (is:=[0,0,2]) (Z:=[]) rfl
   intro h85
   replace h85:=dF h85
   refine H_exit rfl ?_
   refine H_seq ?_
   refine H_seq ?_
   have hS:=hI
   obtain rfl : i = j:=by omega
   refine H_region (l:=[_,_]) rfl ?_
   refine HO_move rfl rfl rfl ?_
   refine HO_assign rfl rfl rfl ?_
   refine HO_nil ?_
   refine H_env (ρ':=[(17,_),(0,_),(14,_)]) ⟨rfl,rfl,rfl,trivial⟩ ?_
   refine H_block ?_
   refine H_loop (σ:=List Int × Nat) (fun s => i≤s.2∧s.2≤m∧Srt.Ro xs s.1 s.2 m (m + 1)) (fun s => [(0,.slice ar (n) c),(14,.int .i64 ((i : Int))),(17,.int .i64 ((s.2 : Int)))]) (fun s => Asn w0 ok0 M0 [.own 3 kInt ar c (s.1),.loc gc [.slice a9 (ops.length) c9] 23,.dat kOp.sl (ops) [.slice a9 (ops.length) c9]]) (fun s => s.2) ⟨xs,m⟩ ?_ ?_ ?_ ?_
   ·exact ⟨by dsimp only;omega,Nat.le_refl _,.left⟩
   ·exact ⟨rfl,rfl,rfl,trivial⟩
   ·intro w hA
    exact hA.only (is:=[0,1,2]) (Z:=[]) rfl
   ·rintro ⟨zs,k⟩ hI
    (try dsimp only at hI ⊢)
    refine H_seq ?_
    refine H_seq ?_
    refine H_region (l:=[_,_,_]) rfl ?_
    iterate 2 refine HO_move rfl rfl rfl ?_
    refine HO_bin rfl rfl rfl rfl bin_gtr ?_
    refine HO_nil ?_
    refine H_env (ρ':=[(110,_),(0,_),(14,_),(17,_)]) ⟨rfl,rfl,rfl,rfl,trivial⟩ ?_
    refine H_cond rfl ?_ ?_
    ·intro h110
     replace h110:=dT h110
     obtain ⟨l,rfl⟩ : ∃ l,k = l + 1:=⟨k - 1,by omega⟩
     refine H_skip ?_
     refine H_seq ?_
     refine H_block ?_
     have hlz:=hI.2.2.1
     obtain ⟨x,hx⟩:=Srt.at_lt (xs:=zs) (k:=l + 1) (by omega)
     obtain ⟨y,hy⟩:=Srt.at_lt (xs:=zs) (k:=l) (by omega)
     refine H_ownAll (i:=0) (J:=fun z => -9223372036854775808≤z∧z≤9223372036854775807) rfl (fun _ _ _ _ h => h.2) (fun hall => ?_)
     refine H_ownAddr (i:=0) rfl (by omega) (fun g0 hg0 => ?_)
     rw [hg0]
     refine H_drawB (m:=[nn,yy,yy]) (Xs:=[_,_]) (fuel:=18) (l:=#[false,false,false,false,false,false,false,false,false,false,false,false,false,false,false,false,false,false]) mixed rfl rfl rfl ?_
     refine HA_take (i:=0) bp rfl rfl rfl rfl (by kernel_rfl) rfl (V_move rfl) (kp [nn,yy,yy] [_,_] rfl) ?_
     refine HA_take (i:=1) bp rfl rfl rfl rfl (by kernel_rfl) rfl (V_move rfl) (kp [nn,yy,yy] [_,_] rfl) ?_
     refine HA_take (i:=2) bp rfl rfl rfl rfl (by kernel_rfl) rfl (V_move rfl) (kp [nn,yy,yy] [_,_] rfl) ?_
     refine HA_take (i:=3) bp rfl rfl rfl rfl (by kernel_rfl) rfl (V_move rfl) (kp [nn,yy,yy] [_,_] rfl) ?_
     refine HA_take (i:=4) bp rfl rfl rfl rfl (by kernel_rfl) rfl (V_bin rfl rfl (bin_sub ?_ ?_)) (kp [nn,yy,yy] [_,_] rfl) ?_
     ·omega
     ·omega
     refine HA_take (i:=5) bp rfl rfl rfl rfl (by kernel_rfl) rfl (V_move rfl) (kp [nn,yy,yy] [_,_] rfl) ?_
     refine HA_take (i:=6) bp rfl rfl rfl rfl (by kernel_rfl) rfl (V_move rfl) (kp [nn,yy,yy] [_,_] rfl) ?_
     refine HA_take (i:=7) bp rfl rfl rfl rfl (by kernel_rfl) rfl (V_bin rfl rfl (bin_sub ?_ ?_)) (kp [nn,yy,yy] [_,_] rfl) ?_
     ·omega
     ·omega
     refine HA_take (i:=8) bp rfl rfl rfl rfl (by kernel_rfl) rfl (V_indexC (j:=l) rfl rfl ?_ Try.underlying29 Try.sizeOf3 ?_ ((congrArg (0 + ·) (Nat.mul_one _)).trans (Nat.zero_add _))) (kp [nn,yy,yy] [_,_] rfl) ?_
     ·omega
     ·omega
     refine HA_take (i:=10) bp rfl rfl rfl rfl (by kernel_rfl) rfl (V_move rfl) (kp [nn,yy,yy] [_,_] rfl) ?_
     refine HA_take (i:=11) bp rfl rfl rfl rfl (by kernel_rfl) rfl (V_move rfl) (kp [nn,yy,yy] [_,_] rfl) ?_
     refine HA_take (i:=12) bp rfl rfl rfl rfl (by kernel_rfl) rfl (V_indexC (j:=l + 1) rfl rfl ?_ Try.underlying29 Try.sizeOf3 ?_ ((congrArg (0 + ·) (Nat.mul_one _)).trans (Nat.zero_add _))) (kp [nn,yy,yy] [_,_] rfl) ?_
     ·omega
     ·omega
     refine HA_loud2 (i:=9) (j:=13) (by kernel_rfl) rfl rfl ?_ ?_
     ·refine HO_loadOwn (i:=0) (v:=.int .i64 ((y))) rfl rfl rfl Try.isAgg3 rfl rfl (Nat.mul_one _) hy (fun _ _ _ h => h.1) ?_
      refine HA_back rfl (kp [nn,yy,yy] [_,_] rfl) ?_
      refine HA_loud1 (i:=13) (by kernel_rfl) rfl ?_
      refine HO_loadOwn (i:=0) (v:=.int .i64 ((x))) rfl rfl rfl Try.isAgg3 rfl rfl (Nat.mul_one _) hx (fun _ _ _ h => h.1) ?_
      refine HA_back rfl (kp [nn,yy,yy] [_,_] rfl) ?_
      refine HA_take (i:=14) bp rfl rfl rfl rfl (by kernel_rfl) rfl (V_indexC (j:=l + 1) rfl rfl ?_ Try.underlying29 Try.sizeOf3 ?_ ((congrArg (0 + ·) (Nat.mul_one _)).trans (Nat.zero_add _))) (kp [nn,yy,yy] [_,_] rfl) ?_
      ·omega
      ·omega
      refine HA_loud1 (i:=15) (by kernel_rfl) rfl ?_
      refine HO_storeOwn (i:=0) (cs:=[_]) (R:=[_,_]) (z':=y) rfl rfl rfl Try.sizeOf3 rfl (by simp [Value.oneCell']) rfl rfl rfl (Nat.mul_one _) ?_ (fun _ _ _ => ⟨rfl,hall _ (List.mem_of_getElem? hy)⟩) ?_
      ·omega
      refine HA_back rfl (kp [nn,yy,yy] [_,_] rfl) ?_
      refine HA_take (i:=16) bp rfl rfl rfl rfl (by kernel_rfl) rfl (V_indexC (j:=l) rfl rfl ?_ Try.underlying29 Try.sizeOf3 ?_ ((congrArg (0 + ·) (Nat.mul_one _)).trans (Nat.zero_add _))) (kp [nn,yy,yy] [_,_] rfl) ?_
      ·omega
      ·omega
      refine HA_loud1 (i:=17) (by kernel_rfl) rfl ?_
      refine HO_storeOwn (i:=0) (cs:=[_]) (R:=[_,_]) (z':=x) rfl rfl rfl Try.sizeOf3 rfl (by simp [Value.oneCell']) rfl rfl rfl (Nat.mul_one _) ?_ (fun _ _ _ => ⟨rfl,hall _ (List.mem_of_getElem? hx)⟩) ?_
      ·(simp only [List.length_set];omega)
      refine HA_back rfl (kp [nn,yy,yy] [_,_] rfl) ?_
      refine HA_done (by kernel_rfl) ?_
      refine H_env (ρ':=[(0,_),(14,_),(17,_)]) ⟨rfl,rfl,rfl,trivial⟩ ?_
      refine H_blk ?_
      refine H_region (l:=[_,_,_]) rfl ?_
      refine HO_move rfl rfl rfl ?_
      refine HO_bin rfl rfl rfl rfl (bin_sub ?_ ?_) ?_
      ·omega
      ·omega
      refine HO_set (v':=.int .i64 ((l : Int))) 112 rfl (by exact congrArg (Value.int .i64) (by omega)) ?_
      refine HO_assign rfl rfl rfl ?_
      refine HO_nil ?_
      refine H_env (ρ':=[(17,_),(0,_),(14,_)]) ⟨rfl,rfl,rfl,trivial⟩ ?_
      refine H_inv (fun a w hf hA => ⟨⟨(zs.set (l + 1) y).set l x,l⟩,?_,?_,hf.sub ?_,?_⟩)
      ·exact ⟨by dsimp only;omega,by dsimp only;omega,hI.2.2.rise hI.2.1 (Srt.Sw.one (by omega) hx hy)⟩
      ·(try dsimp only);omega
      ·exact ⟨rfl,rfl,rfl,trivial⟩
      ·exact hA.only (is:=[0,1,2]) (Z:=[]) rfl
     ·refine HO_loadOwn (i:=0) (v:=.int .i64 ((x))) rfl rfl rfl Try.isAgg3 rfl rfl (Nat.mul_one _) hx (fun _ _ _ h => h.1) ?_
      refine HA_back rfl (kp [nn,yy,yy] [_,_] rfl) ?_
      refine HA_loud1 (i:=9) (by kernel_rfl) rfl ?_
      refine HO_loadOwn (i:=0) (v:=.int .i64 ((y))) rfl rfl rfl Try.isAgg3 rfl rfl (Nat.mul_one _) hy (fun _ _ _ h => h.1) ?_
      refine HA_back rfl (kp [nn,yy,yy] [_,_] rfl) ?_
      refine HA_take (i:=14) bp rfl rfl rfl rfl (by kernel_rfl) rfl (V_indexC (j:=l + 1) rfl rfl ?_ Try.underlying29 Try.sizeOf3 ?_ ((congrArg (0 + ·) (Nat.mul_one _)).trans (Nat.zero_add _))) (kp [nn,yy,yy] [_,_] rfl) ?_
      ·omega
      ·omega
      refine HA_loud1 (i:=15) (by kernel_rfl) rfl ?_
      refine HO_storeOwn (i:=0) (cs:=[_]) (R:=[_,_]) (z':=y) rfl rfl rfl Try.sizeOf3 rfl (by simp [Value.oneCell']) rfl rfl rfl (Nat.mul_one _) ?_ (fun _ _ _ => ⟨rfl,hall _ (List.mem_of_getElem? hy)⟩) ?_
      ·omega
      refine HA_back rfl (kp [nn,yy,yy] [_,_] rfl) ?_
      refine HA_take (i:=16) bp rfl rfl rfl rfl (by kernel_rfl) rfl (V_indexC (j:=l) rfl rfl ?_ Try.underlying29 Try.sizeOf3 ?_ ((congrArg (0 + ·) (Nat.mul_one _)).trans (Nat.zero_add _))) (kp [nn,yy,yy] [_,_] rfl) ?_
      ·omega
      ·omega
      refine HA_loud1 (i:=17) (by kernel_rfl) rfl ?_
      refine HO_storeOwn (i:=0) (cs:=[_]) (R:=[_,_]) (z':=x) rfl rfl rfl Try.sizeOf3 rfl (by simp [Value.oneCell']) rfl rfl rfl (Nat.mul_one _) ?_ (fun _ _ _ => ⟨rfl,hall _ (List.mem_of_getElem? hx)⟩) ?_
      ·(simp only [List.length_set];omega)
      refine HA_back rfl (kp [nn,yy,yy] [_,_] rfl) ?_
      refine HA_done (by kernel_rfl) ?_
      refine H_env (ρ':=[(0,_),(14,_),(17,_)]) ⟨rfl,rfl,rfl,trivial⟩ ?_
      refine H_blk ?_
      refine H_region (l:=[_,_,_]) rfl ?_
      refine HO_move rfl rfl rfl ?_
      refine HO_bin rfl rfl rfl rfl (bin_sub ?_ ?_) ?_
      ·omega
      ·omega
      refine HO_set (v':=.int .i64 ((l : Int))) 112 rfl (by exact congrArg (Value.int .i64) (by omega)) ?_
      refine HO_assign rfl rfl rfl ?_
      refine HO_nil ?_
      refine H_env (ρ':=[(17,_),(0,_),(14,_)]) ⟨rfl,rfl,rfl,trivial⟩ ?_
      refine H_inv (fun a w hf hA => ⟨⟨(zs.set (l + 1) y).set l x,l⟩,?_,?_,hf.sub ?_,?_⟩)
      ·exact ⟨by dsimp only;omega,by dsimp only;omega,hI.2.2.rise hI.2.1 (Srt.Sw.one (by omega) hx hy)⟩
      ·(try dsimp only);omega
      ·exact ⟨rfl,rfl,rfl,trivial⟩
      ·exact hA.only (is:=[0,1,2]) (Z:=[]) rfl
    intro h110
    replace h110:=dF h110
    refine H_exit rfl ?_
    refine H_ret0 Try.results96  (fun w hA => ⟨zs,congrArg Ending.returned ?_,?_,?_⟩)
    ·rfl
    ·(have hki : k = i:=by omega);exact ⟨(hI.2.2.sg (by omega) (by omega)).mono (by omega) (by omega),by rw [hm1];exact (show Srt.Mg (Hist.so ops) xs p m (m + 1) by rw [← hm1];exact hg).one_right hv1 hS.1 hS.2.2.1 (fun q u h1 h2 => hS.2.2.2.1 q u (by omega) h2) (fun q u h1 h2 => hS.2.2.2.2 q u (by omega) h2) (hki ▸ hI.2.2)⟩
    ·exact hA.keep (m:=[yy,yy,nn]) (Y:=[_,_]) rfl
 intro h80
 replace h80:=dF h80
 have hm3 : ¬ r - m = 1:=by omega
 refine H_skip ?_
 refine H_seq ?_
 obtain ⟨mid,hmid⟩ : ∃ mid,(p + r) / 2 = mid:=⟨_,rfl⟩
 refine H_region (l:=[_,_,_,_,_,_,_]) rfl ?_
 iterate 2 refine HO_move rfl rfl rfl ?_
 refine HO_bin rfl rfl rfl rfl (bin_add ?_ ?_) ?_
 ·omega
 ·omega
 refine HO_conv rfl rfl rfl (cv_int Try.underlying3 Try.underlying75 (wrap_u_i rfl _)) ?_
 refine HO_set (v':=.int .u64 (((p + r : Nat) : Int))) 132 rfl (by exact congrArg (Value.int .u64) (by simp only [IntKind.bits];omega)) ?_
 refine HO_bin rfl rfl rfl rfl (bin_shr (s:=1) ?_) ?_
 ·(simp only [IntKind.bits];omega)
 refine HO_conv rfl rfl rfl (cv_int Try.underlying75 Try.underlying3 (wrap_i64_nat ?_)) ?_
 ·omega
 refine HO_set (v':=.int .i64 ((mid : Int))) 134 rfl (by exact congrArg (Value.int .i64) (by omega)) ?_
 refine HO_assign rfl rfl rfl ?_
 refine HO_nil ?_
 refine H_env (ρ':=[(18,_),(0,_),(1,_),(2,_),(3,_),(4,_)]) ⟨rfl,rfl,rfl,rfl,rfl,rfl,trivial⟩ ?_
 refine H_seq ?_
 refine H_region (l:=[_,_,_,_]) rfl ?_
 iterate 2 refine HO_move rfl rfl rfl ?_
 refine HO_bin rfl rfl rfl rfl (bin_add ?_ ?_) ?_
 ·omega
 ·omega
 refine HO_set (v':=.int .i64 (((mid + m : Nat) : Int))) 137 rfl (by exact congrArg (Value.int .i64) (by omega)) ?_
 refine HO_assign rfl rfl rfl ?_
 refine HO_nil ?_
 refine H_env (ρ':=[(19,_),(18,_),(0,_),(1,_),(2,_),(3,_),(4,_)]) ⟨rfl,rfl,rfl,rfl,rfl,rfl,rfl,trivial⟩ ?_
 refine H_seq ?_
 refine H_region (l:=[_,_]) rfl ?_
 iterate 2 refine HO_assign rfl rfl rfl ?_
 refine HO_nil ?_
 refine H_env (ρ':=[(19,_),(18,_),(0,_),(1,_),(2,_),(3,_),(4,_)]) ⟨rfl,rfl,rfl,rfl,rfl,rfl,rfl,trivial⟩ ?_
 refine H_seq ?_
 refine H_seq ?_
 refine H_region (l:=[_,_,_]) rfl ?_
 iterate 2 refine HO_move rfl rfl rfl ?_
 refine HO_bin rfl rfl rfl rfl bin_gtr ?_
 refine HO_nil ?_
 refine H_env (ρ':=[(140,_),(19,_),(18,_),(0,_),(1,_),(2,_),(3,_),(4,_)]) ⟨rfl,rfl,rfl,rfl,rfl,rfl,rfl,rfl,trivial⟩ ?_
 refine H_meetE (σ:=Nat × Nat) _ (fun s => (mid < m∧s.1 + r = mid + m∧s.2 = mid) ∨ (m≤mid∧s.1 = p∧s.2 = m)) (fun s => [(0,.slice ar (n) c),(1,.int .i64 ((p : Int))),(2,.int .i64 ((m : Int))),(3,.int .i64 ((r : Int))),(4,.func (.func 45) #[] #[.pointer (some ⟨gc,0,none⟩)]),(18,.int .i64 ((mid : Int))),(19,.int .i64 (((mid + m : Nat) : Int))),(20,.int .i64 ((s.1 : Int))),(21,.int .i64 ((s.2 : Int)))]) (fun s => Asn w0 ok0 M0 [.own 3 kInt ar c (xs),.loc gc [.slice a9 (ops.length) c9] 23,.dat kOp.sl (ops) [.slice a9 (ops.length) c9]]) ?_ ?_
 ·skip
  refine H_cond rfl ?_ ?_
  ·intro h140
   replace h140:=dT h140
   refine H_seq ?_
   refine H_region (l:=[_,_,_,_]) rfl ?_
   iterate 2 refine HO_move rfl rfl rfl ?_
   refine HO_bin rfl rfl rfl rfl (bin_sub ?_ ?_) ?_
   ·omega
   ·omega
   refine HO_set (v':=.int .i64 (((mid + m - r : Nat) : Int))) 143 rfl (by exact congrArg (Value.int .i64) (by omega)) ?_
   refine HO_assign rfl rfl rfl ?_
   refine HO_nil ?_
   refine H_env (ρ':=[(20,_),(19,_),(18,_),(0,_),(1,_),(2,_),(3,_),(4,_)]) ⟨rfl,rfl,rfl,rfl,rfl,rfl,rfl,rfl,trivial⟩ ?_
   refine H_region (l:=[_,_]) rfl ?_
   refine HO_move rfl rfl rfl ?_
   refine HO_assign rfl rfl rfl ?_
   refine HO_nil ?_
   refine H_env (ρ':=[(21,_),(20,_),(19,_),(18,_),(0,_),(1,_),(2,_),(3,_),(4,_)]) ⟨rfl,rfl,rfl,rfl,rfl,rfl,rfl,rfl,rfl,trivial⟩ ?_
   refine H_inv (fun a w hf hA => ⟨⟨mid + m - r,mid⟩,?_,hf.sub ?_,?_⟩)
   ·(dsimp only;omega)
   ·exact ⟨rfl,rfl,rfl,rfl,rfl,rfl,rfl,rfl,rfl,trivial⟩
   ·exact hA.only (is:=[0,1,2]) (Z:=[]) rfl
  intro h140
  replace h140:=dF h140
  refine H_seq ?_
  refine H_region (l:=[_,_]) rfl ?_
  refine HO_move rfl rfl rfl ?_
  refine HO_assign rfl rfl rfl ?_
  refine HO_nil ?_
  refine H_env (ρ':=[(20,_),(19,_),(18,_),(0,_),(1,_),(2,_),(3,_),(4,_)]) ⟨rfl,rfl,rfl,rfl,rfl,rfl,rfl,rfl,trivial⟩ ?_
  refine H_region (l:=[_,_]) rfl ?_
  refine HO_move rfl rfl rfl ?_
  refine HO_assign rfl rfl rfl ?_
  refine HO_nil ?_
  refine H_env (ρ':=[(21,_),(20,_),(19,_),(18,_),(0,_),(1,_),(2,_),(3,_),(4,_)]) ⟨rfl,rfl,rfl,rfl,rfl,rfl,rfl,rfl,rfl,trivial⟩ ?_
  refine H_inv (fun a w hf hA => ⟨⟨p,m⟩,?_,hf.sub ?_,?_⟩)
  ·(dsimp only;omega)
  ·exact ⟨rfl,rfl,rfl,rfl,rfl,rfl,rfl,rfl,rfl,trivial⟩
  ·exact hA.only (is:=[0,1,2]) (Z:=[]) rfl
 rintro ⟨s0,r0⟩ hJ
 (try dsimp only at hJ ⊢)
 have M : Srt.Ms (Hist.so ops) xs p m r mid s0 r0:=⟨hg,by omega,hp,hm,by omega,by omega,hJ⟩
 have hM:=M.s0r0
 clear hJ
 refine H_seq ?_
 refine H_region (l:=[_,_,_]) rfl ?_
 refine HO_move rfl rfl rfl ?_
 refine HO_bin rfl rfl rfl rfl (bin_sub ?_ ?_) ?_
 ·omega
 ·omega
 refine HO_set (v':=.int .i64 (((mid + m - 1 : Nat) : Int))) 148 rfl (by exact congrArg (Value.int .i64) (by omega)) ?_
 refine HO_assign rfl rfl rfl ?_
 refine HO_nil ?_
 refine H_env (ρ':=[(22,_),(0,_),(1,_),(2,_),(3,_),(4,_),(18,_),(19,_),(20,_),(21,_)]) ⟨rfl,rfl,rfl,rfl,rfl,rfl,rfl,rfl,rfl,rfl,trivial⟩ ?_
 refine H_seq ?_
 refine H_block ?_
 refine H_loop (σ:=Nat × Nat) (fun s => Srt.Se (Hist.so ops) xs (mid + m) s0 r0 s.1 s.2) (fun s => [(0,.slice ar (n) c),(1,.int .i64 ((p : Int))),(2,.int .i64 ((m : Int))),(3,.int .i64 ((r : Int))),(4,.func (.func 45) #[] #[.pointer (some ⟨gc,0,none⟩)]),(18,.int .i64 ((mid : Int))),(19,.int .i64 (((mid + m : Nat) : Int))),(20,.int .i64 ((s.1 : Int))),(21,.int .i64 ((s.2 : Int))),(22,.int .i64 (((mid + m - 1 : Nat) : Int)))]) (fun s => Asn w0 ok0 M0 [.own 3 kInt ar c (xs),.loc gc [.slice a9 (ops.length) c9] 23,.dat kOp.sl (ops) [.slice a9 (ops.length) c9]]) (fun s => s.2 - s.1) ⟨s0,r0⟩ ?_ ?_ ?_ ?_
 ·exact .start hM.2.1
 ·exact ⟨rfl,rfl,rfl,rfl,rfl,rfl,rfl,rfl,rfl,rfl,trivial⟩
 ·intro w hA
  exact hA.only (is:=[0,1,2]) (Z:=[]) rfl
 ·rintro ⟨sa,ta⟩ hI
  (try dsimp only at hI ⊢)
  refine H_seq ?_
  refine H_seq ?_
  refine H_region (l:=[_,_,_]) rfl ?_
  iterate 2 refine HO_move rfl rfl rfl ?_
  refine HO_bin rfl rfl rfl rfl bin_lss ?_
  refine HO_nil ?_
  refine H_env (ρ':=[(151,_),(0,_),(1,_),(2,_),(3,_),(4,_),(18,_),(19,_),(20,_),(21,_),(22,_)]) ⟨rfl,rfl,rfl,rfl,rfl,rfl,rfl,rfl,rfl,rfl,rfl,trivial⟩ ?_
  refine H_cond rfl ?_ ?_
  ·intro h151
   replace h151:=dT h151
   refine H_skip ?_
   refine H_block ?_
   refine H_seq ?_
   have ha1:=hI.a1
   have ha3:=hI.a3
   have hpl:=M.place (k:=(sa + ta) / 2 ^ 1) (by omega) (by omega)
   refine H_region (l:=[_,_,_,_,_,_,_]) rfl ?_
   iterate 2 refine HO_move rfl rfl rfl ?_
   refine HO_bin rfl rfl rfl rfl (bin_add ?_ ?_) ?_
   ·omega
   ·omega
   refine HO_conv rfl rfl rfl (cv_int Try.underlying3 Try.underlying75 (wrap_u_i rfl _)) ?_
   refine HO_set (v':=.int .u64 (((sa + ta : Nat) : Int))) 155 rfl (by exact congrArg (Value.int .u64) (by simp only [IntKind.bits];omega)) ?_
   refine HO_bin rfl rfl rfl rfl (bin_shr (s:=1) ?_) ?_
   ·(simp only [IntKind.bits];omega)
   refine HO_conv rfl rfl rfl (cv_int Try.underlying75 Try.underlying3 (wrap_i64_nat ?_)) ?_
   ·omega
   refine HO_assign rfl rfl rfl ?_
   refine HO_nil ?_
   refine H_env (ρ':=[(23,_),(0,_),(1,_),(2,_),(3,_),(4,_),(18,_),(19,_),(20,_),(21,_),(22,_)]) ⟨rfl,rfl,rfl,rfl,rfl,rfl,rfl,rfl,rfl,rfl,rfl,trivial⟩ ?_
   refine H_seq ?_
   obtain ⟨u,hu⟩:=Srt.at_lt (xs:=xs) (k:=mid + m - 1 - (sa + ta) / 2 ^ 1) (by omega)
   obtain ⟨x,hx⟩:=Srt.at_lt (xs:=xs) (k:=(sa + ta) / 2 ^ 1) (by omega)
   have hux:=M.cr ((sa + ta) / 2 ^ 1) (mid + m - 1 - (sa + ta) / 2 ^ 1) x u hpl.1 hpl.2.1 hpl.2.2.1 hpl.2.2.2.1 hx hu
   refine H_ownAddr (i:=0) rfl (by omega) (fun g0 hg0 => ?_)
   rw [hg0]
   refine H_drawB (m:=[yy,nn,yy]) (Xs:=[_,_]) (fuel:=14) (l:=#[false,false,false,false,false,false,false,false,false,false,false,false,false,false]) mixed rfl rfl rfl ?_
   refine HA_take (i:=0) bp rfl rfl rfl rfl (by kernel_rfl) rfl (V_move rfl) (kp [yy,nn,yy] [_,_] rfl) ?_
   refine HA_take (i:=1) bp rfl rfl rfl rfl (by kernel_rfl) rfl (V_move rfl) (kp [yy,nn,yy] [_,_] rfl) ?_
   refine HA_take (i:=2) bp rfl rfl rfl rfl (by kernel_rfl) rfl (V_move rfl) (kp [yy,nn,yy] [_,_] rfl) ?_
   refine HA_take (i:=3) bp rfl rfl rfl rfl (by kernel_rfl) rfl (V_move rfl) (kp [yy,nn,yy] [_,_] rfl) ?_
   refine HA_take (i:=4) bp rfl rfl rfl rfl (by kernel_rfl) rfl (V_bin rfl rfl (bin_sub ?_ ?_)) (kp [yy,nn,yy] [_,_] rfl) ?_
   ·omega
   ·omega
   refine HA_set (v':=.int .i64 (((mid + m - 1 - (sa + ta) / 2 ^ 1 : Nat) : Int))) 162 rfl (by exact congrArg (Value.int .i64) (by omega)) ?_
   refine HA_take (i:=5) bp rfl rfl rfl rfl (by kernel_rfl) rfl (V_indexC (j:=mid + m - 1 - (sa + ta) / 2 ^ 1) rfl rfl ?_ Try.underlying29 Try.sizeOf3 ?_ ((congrArg (0 + ·) (Nat.mul_one _)).trans (Nat.zero_add _))) (kp [yy,nn,yy] [_,_] rfl) ?_
   ·omega
   ·omega
   refine HA_take (i:=6) bp rfl rfl rfl rfl (by kernel_rfl) rfl (V_loadOwn (i:=0) (v:=.int .i64 ((u))) rfl Try.isAgg3 rfl rfl (Nat.mul_one _) hu (fun _ _ _ h => h.1)) (kp [yy,nn,yy] [_,_] rfl) ?_
   refine HA_take (i:=7) bp rfl rfl rfl rfl (by kernel_rfl) rfl (V_move rfl) (kp [yy,nn,yy] [_,_] rfl) ?_
   refine HA_take (i:=8) bp rfl rfl rfl rfl (by kernel_rfl) rfl (V_move rfl) (kp [yy,nn,yy] [_,_] rfl) ?_
   refine HA_take (i:=9) bp rfl rfl rfl rfl (by kernel_rfl) rfl (V_indexC (j:=(sa + ta) / 2 ^ 1) rfl rfl ?_ Try.underlying29 Try.sizeOf3 ?_ ((congrArg (0 + ·) (Nat.mul_one _)).trans (Nat.zero_add _))) (kp [yy,nn,yy] [_,_] rfl) ?_
   ·omega
   ·omega
   refine HA_take (i:=10) bp rfl rfl rfl rfl (by kernel_rfl) rfl (V_loadOwn (i:=0) (v:=.int .i64 ((x))) rfl Try.isAgg3 rfl rfl (Nat.mul_one _) hx (fun _ _ _ h => h.1)) (kp [yy,nn,yy] [_,_] rfl) ?_
   refine HA_loud1 (i:=11) (by kernel_rfl) rfl ?_
   refine HO_dup (i:=2) rfl rfl ?_
   refine HO_call (first:=[]) (capt:=[_]) (is:=[1,0]) (R:=[_,_]) rfl rfl rfl rfl rfl Try.call45 rfl (ord1_spec _ _ _ _ _ _ ?_ ?_ ?_) ?_
   ·exact hl
   ·exact hix.at_ hu
   ·exact hix.at_ hx
   intro y169 hy169
   clear y169 hy169
   refine HA_back rfl (kp [nn,yy,yy] [_,_] rfl) ?_
   refine HA_take (i:=12) bp rfl rfl rfl rfl (by kernel_rfl) rfl (V_bin rfl rfl bin_lss) (kp [nn,yy,yy] [_,_] rfl) ?_
   refine HA_take (i:=13) bp rfl rfl rfl rfl (by kernel_rfl) rfl (V_not rfl) (kp [nn,yy,yy] [_,_] rfl) ?_
   refine HA_done (by kernel_rfl) ?_
   refine H_env (ρ':=[(171,_),(23,_),(0,_),(1,_),(2,_),(3,_),(4,_),(18,_),(19,_),(20,_),(21,_),(22,_)]) ⟨rfl,rfl,rfl,rfl,rfl,rfl,rfl,rfl,rfl,rfl,rfl,rfl,trivial⟩ ?_
   refine H_cond rfl ?_ ?_
   ·intro h171
    replace h171:=dF (nT h171)
    refine H_region (l:=[_,_,_]) rfl ?_
    refine HO_move rfl rfl rfl ?_
    refine HO_bin rfl rfl rfl rfl (bin_add ?_ ?_) ?_
    ·omega
    ·omega
    refine HO_assign rfl rfl rfl ?_
    refine HO_nil ?_
    refine H_env (ρ':=[(20,_),(0,_),(1,_),(2,_),(3,_),(4,_),(18,_),(19,_),(21,_),(22,_)]) ⟨rfl,rfl,rfl,rfl,rfl,rfl,rfl,rfl,rfl,rfl,trivial⟩ ?_
    refine H_blk ?_
    refine H_inv (fun a w hf hA => ⟨⟨(sa + ta) / 2 ^ 1 + 1,ta⟩,?_,?_,hf.sub ?_,?_⟩)
    ·exact M.go_lo hI (by omega) (by omega) hu hx (Hist.late_pos hux h171)
    ·(try dsimp only);omega
    ·exact ⟨rfl,rfl,rfl,rfl,rfl,rfl,rfl,rfl,rfl,rfl,trivial⟩
    ·exact hA.only (is:=[0,0,2]) (Z:=[]) rfl
   intro h171
   replace h171:=dT (nF h171)
   refine H_region (l:=[_,_]) rfl ?_
   refine HO_move rfl rfl rfl ?_
   refine HO_assign rfl rfl rfl ?_
   refine HO_nil ?_
   refine H_env (ρ':=[(21,_),(0,_),(1,_),(2,_),(3,_),(4,_),(18,_),(19,_),(20,_),(22,_)]) ⟨rfl,rfl,rfl,rfl,rfl,rfl,rfl,rfl,rfl,rfl,trivial⟩ ?_
   refine H_blk ?_
   refine H_inv (fun a w hf hA => ⟨⟨sa,(sa + ta) / 2 ^ 1⟩,?_,?_,hf.sub ?_,?_⟩)
   ·exact M.go_hi hI (by omega) (by omega) hu hx (Hist.late_neg hux (by omega))
   ·(try dsimp only);omega
   ·exact ⟨rfl,rfl,rfl,rfl,rfl,rfl,rfl,rfl,rfl,rfl,trivial⟩
   ·exact hA.only (is:=[0,0,2]) (Z:=[]) rfl
  intro h151
  replace h151:=dF h151
  refine H_exit rfl ?_
  refine H_seq ?_
  obtain rfl : sa = ta:=by have:=hI.a2;omega
  have hse:=hI
  have hbd:=M.bounds hse
  refine H_region (l:=[_,_,_,_]) rfl ?_
  iterate 2 refine HO_move rfl rfl rfl ?_
  refine HO_bin rfl rfl rfl rfl (bin_sub ?_ ?_) ?_
  ·omega
  ·omega
  refine HO_set (v':=.int .i64 (((mid + m - sa : Nat) : Int))) 177 rfl (by exact congrArg (Value.int .i64) (by omega)) ?_
  refine HO_assign rfl rfl rfl ?_
  refine HO_nil ?_
  refine H_env (ρ':=[(24,_),(0,_),(1,_),(2,_),(3,_),(4,_),(18,_),(20,_)]) ⟨rfl,rfl,rfl,rfl,rfl,rfl,rfl,rfl,trivial⟩ ?_
  refine H_seq ?_
  refine H_seq ?_
  refine H_meetE (σ:=Bool) _ (fun s => s = true ↔ sa < m∧m < (mid + m - sa)) (fun s => [(0,.slice ar (n) c),(1,.int .i64 ((p : Int))),(2,.int .i64 ((m : Int))),(3,.int .i64 ((r : Int))),(4,.func (.func 45) #[] #[.pointer (some ⟨gc,0,none⟩)]),(18,.int .i64 ((mid : Int))),(20,.int .i64 ((sa : Int))),(24,.int .i64 (((mid + m - sa : Nat) : Int))),(185,.bool (s))]) (fun s => Asn w0 ok0 M0 [.own 3 kInt ar c (xs),.loc gc [.slice a9 (ops.length) c9] 23,.dat kOp.sl (ops) [.slice a9 (ops.length) c9]]) ?_ ?_
  ·skip
   refine H_region (l:=[_,_,_,_,_,_,_,_]) rfl ?_
   iterate 2 refine HO_move rfl rfl rfl ?_
   refine HO_bin rfl rfl rfl rfl bin_lss ?_
   refine HO_move rfl rfl rfl ?_
   refine HO_split (d:=181) rfl ?_ ?_
   ·intro h181
    replace h181:=dT h181
    iterate 2 refine HO_move rfl rfl rfl ?_
    refine HO_bin rfl rfl rfl rfl bin_lss ?_
    refine HO_pick_t rfl rfl rfl rfl ?_
    refine HO_nil ?_
    refine H_env (ρ':=[(185,_),(24,_),(0,_),(1,_),(2,_),(3,_),(4,_),(18,_),(20,_)]) ⟨rfl,rfl,rfl,rfl,rfl,rfl,rfl,rfl,rfl,trivial⟩ ?_
    refine H_inv (fun a w hf hA => ⟨decide ((m : Int) < ((mid + m - sa : Nat) : Int)),?_,hf.sub ?_,?_⟩)
    ·(first | (simp only [decide_eq_true_eq];omega) | (simp only [Bool.false_eq_true,false_iff];omega))
    ·exact ⟨rfl,rfl,rfl,rfl,rfl,rfl,rfl,rfl,rfl,trivial⟩
    ·exact hA.only (is:=[0,1,2]) (Z:=[]) rfl
   intro h181
   replace h181:=dF h181
   iterate 3 refine HO_no rfl rfl rfl ?_
   refine HO_pick_f rfl rfl rfl rfl ?_
   refine HO_nil ?_
   refine H_env (ρ':=[(185,_),(24,_),(0,_),(1,_),(2,_),(3,_),(4,_),(18,_),(20,_)]) ⟨rfl,rfl,rfl,rfl,rfl,rfl,rfl,rfl,rfl,trivial⟩ ?_
   refine H_inv (fun a w hf hA => ⟨false,?_,hf.sub ?_,?_⟩)
   ·(first | (simp only [decide_eq_true_eq];omega) | (simp only [Bool.false_eq_true,false_iff];omega))
   ·exact ⟨rfl,rfl,rfl,rfl,rfl,rfl,rfl,rfl,rfl,trivial⟩
   ·exact hA.only (is:=[0,1,2]) (Z:=[]) rfl
  intro bb hJ
  (try dsimp only at hJ ⊢)
  have hb185:=hJ
  clear hJ
  refine H_meetE (σ:=List Int) _ (fun s => Srt.Ro xs s sa m (mid + m - sa)) (fun s => [(0,.slice ar (n) c),(1,.int .i64 ((p : Int))),(3,.int .i64 ((r : Int))),(4,.func (.func 45) #[] #[.pointer (some ⟨gc,0,none⟩)]),(18,.int .i64 ((mid : Int))),(20,.int .i64 ((sa : Int))),(24,.int .i64 (((mid + m - sa : Nat) : Int)))]) (fun s => Asn w0 ok0 M0 [.own 3 kInt ar c (s),.loc gc [.slice a9 (ops.length) c9] 23,.dat kOp.sl (ops) [.slice a9 (ops.length) c9]]) ?_ ?_
  ·skip
   refine H_cond rfl ?_ ?_
   ·intro h185
    have hb:=hb185.1 h185
    refine H_region (l:=[_,_,_,_,_,_]) rfl ?_
    iterate 5 refine HO_move rfl rfl rfl ?_
    refine HO_call (first:=[]) (capt:=[]) (is:=[0]) (R:=[_,_]) rfl rfl rfl rfl rfl Try.call112 rfl (rotc_spec _ _ _ _ _ _ _ _ ?_ ?_ ?_ ?_ ?_) ?_
    ·exact hn
    ·exact hln
    ·exact hb.1
    ·exact hb.2
    ·omega
    intro y191 hy191
    refine HO_nil ?_
    refine H_env (ρ':=[(0,_),(1,_),(3,_),(4,_),(18,_),(20,_),(24,_)]) ⟨rfl,rfl,rfl,rfl,rfl,rfl,rfl,trivial⟩ ?_
    refine H_inv (fun a w hf hA => ⟨y191,?_,hf.sub ?_,?_⟩)
    ·(first | exact hy191 | exact .none hb (by omega) (by omega))
    ·exact ⟨rfl,rfl,rfl,rfl,rfl,rfl,rfl,trivial⟩
    ·exact hA.only (is:=[0,1,2]) (Z:=[]) rfl
   intro h185
   have hb : ¬ (sa < m∧m < (mid + m - sa)):=fun h => absurd (hb185.2 h) (by simp [h185])
   refine H_skip ?_
   refine H_inv (fun a w hf hA => ⟨xs,?_,hf.sub ?_,?_⟩)
   ·(first | exact hy191 | exact .none hb (by omega) (by omega))
   ·exact ⟨rfl,rfl,rfl,rfl,rfl,rfl,rfl,trivial⟩
   ·exact hA.only (is:=[0,1,2]) (Z:=[]) rfl
  intro zs hJ
  (try dsimp only at hJ ⊢)
  have hRo:=hJ
  clear hJ
  have hH:=(M.halves hse (by omega) hRo).1
  have hsz:=hRo.sg (by omega) (by omega)
  have hzl:=hRo.1
  refine H_seq ?_
  refine H_seq ?_
  refine H_meetE (σ:=Bool) _ (fun s => s = true ↔ p < sa∧sa < mid) (fun s => [(0,.slice ar (n) c),(1,.int .i64 ((p : Int))),(3,.int .i64 ((r : Int))),(4,.func (.func 45) #[] #[.pointer (some ⟨gc,0,none⟩)]),(18,.int .i64 ((mid : Int))),(20,.int .i64 ((sa : Int))),(24,.int .i64 (((mid + m - sa : Nat) : Int))),(199,.bool (s))]) (fun s => Asn w0 ok0 M0 [.own 3 kInt ar c (zs),.loc gc [.slice a9 (ops.length) c9] 23,.dat kOp.sl (ops) [.slice a9 (ops.length) c9]]) ?_ ?_
  ·skip
   refine H_region (l:=[_,_,_,_,_,_,_,_]) rfl ?_
   iterate 2 refine HO_move rfl rfl rfl ?_
   refine HO_bin rfl rfl rfl rfl bin_lss ?_
   refine HO_move rfl rfl rfl ?_
   refine HO_split (d:=195) rfl ?_ ?_
   ·intro h195
    replace h195:=dT h195
    iterate 2 refine HO_move rfl rfl rfl ?_
    refine HO_bin rfl rfl rfl rfl bin_lss ?_
    refine HO_pick_t rfl rfl rfl rfl ?_
    refine HO_nil ?_
    refine H_env (ρ':=[(199,_),(0,_),(1,_),(3,_),(4,_),(18,_),(20,_),(24,_)]) ⟨rfl,rfl,rfl,rfl,rfl,rfl,rfl,rfl,trivial⟩ ?_
    refine H_inv (fun a w hf hA => ⟨decide ((sa : Int) < (mid : Int)),?_,hf.sub ?_,?_⟩)
    ·(first | (simp only [decide_eq_true_eq];omega) | (simp only [Bool.false_eq_true,false_iff];omega))
    ·exact ⟨rfl,rfl,rfl,rfl,rfl,rfl,rfl,rfl,trivial⟩
    ·exact hA.only (is:=[0,1,2]) (Z:=[]) rfl
   intro h195
   replace h195:=dF h195
   iterate 3 refine HO_no rfl rfl rfl ?_
   refine HO_pick_f rfl rfl rfl rfl ?_
   refine HO_nil ?_
   refine H_env (ρ':=[(199,_),(0,_),(1,_),(3,_),(4,_),(18,_),(20,_),(24,_)]) ⟨rfl,rfl,rfl,rfl,rfl,rfl,rfl,rfl,trivial⟩ ?_
   refine H_inv (fun a w hf hA => ⟨false,?_,hf.sub ?_,?_⟩)
   ·(first | (simp only [decide_eq_true_eq];omega) | (simp only [Bool.false_eq_true,false_iff];omega))
   ·exact ⟨rfl,rfl,rfl,rfl,rfl,rfl,rfl,rfl,trivial⟩
   ·exact hA.only (is:=[0,1,2]) (Z:=[]) rfl
  intro bb hJ
  (try dsimp only at hJ ⊢)
  have hb199:=hJ
  clear hJ
  refine H_meetE (σ:=List Int) _ (fun s => Srt.Sg p mid zs s∧Srt.So (Hist.so ops) s p mid) (fun s => [(0,.slice ar (n) c),(3,.int .i64 ((r : Int))),(4,.func (.func 45) #[] #[.pointer (some ⟨gc,0,none⟩)]),(18,.int .i64 ((mid : Int))),(20,.int .i64 ((sa : Int))),(24,.int .i64 (((mid + m - sa : Nat) : Int)))]) (fun s => Asn w0 ok0 M0 [.own 3 kInt ar c (s),.loc gc [.slice a9 (ops.length) c9] 23,.dat kOp.sl (ops) [.slice a9 (ops.length) c9]]) ?_ ?_
  ·skip
   refine H_cond rfl ?_ ?_
   ·intro h199
    have hb:=hb199.1 h199
    refine H_region (l:=[_,_,_,_,_,_]) rfl ?_
    iterate 5 refine HO_move rfl rfl rfl ?_
    refine HO_dup (i:=2) rfl rfl ?_
    refine HO_call (first:=[]) (capt:=[]) (is:=[0,1,0]) (R:=[_]) rfl rfl rfl rfl rfl Try.call96 rfl (ih2 _ _ _ _ ?_ ?_ ?_ ?_ ?_ ?_ ?_) ?_
    ·omega
    ·exact hix.sg hsz
    ·exact hb.1
    ·exact hb.2
    ·omega
    ·exact hH.l
    ·omega
    intro y205 hy205
    refine HO_nil ?_
    refine H_env (ρ':=[(0,_),(3,_),(4,_),(18,_),(20,_),(24,_)]) ⟨rfl,rfl,rfl,rfl,rfl,rfl,trivial⟩ ?_
    refine H_inv (fun a w hf hA => ⟨y205,?_,hf.sub ?_,?_⟩)
    ·(first | exact hy205 | exact ⟨.refl,(Decidable.em (p < sa)).elim (fun h => hH.l.none_right (by omega)) (fun h => hH.l.none_left (by omega))⟩)
    ·exact ⟨rfl,rfl,rfl,rfl,rfl,rfl,trivial⟩
    ·exact hA.only (is:=[0,1,2]) (Z:=[]) rfl
   intro h199
   have hb : ¬ (p < sa∧sa < mid):=fun h => absurd (hb199.2 h) (by simp [h199])
   refine H_skip ?_
   refine H_inv (fun a w hf hA => ⟨zs,?_,hf.sub ?_,?_⟩)
   ·(first | exact hy205 | exact ⟨.refl,(Decidable.em (p < sa)).elim (fun h => hH.l.none_right (by omega)) (fun h => hH.l.none_left (by omega))⟩)
   ·exact ⟨rfl,rfl,rfl,rfl,rfl,rfl,trivial⟩
   ·exact hA.only (is:=[0,1,2]) (Z:=[]) rfl
  intro t1 hJ
  (try dsimp only at hJ ⊢)
  have hT:=hJ
  clear hJ
  have htl:=hT.1.1
  have hM2:=hH.two hT.1 (by omega)
  refine H_seq ?_
  refine H_meetE (σ:=Bool) _ (fun s => s = true ↔ mid < (mid + m - sa)∧(mid + m - sa) < r) (fun s => [(0,.slice ar (n) c),(3,.int .i64 ((r : Int))),(4,.func (.func 45) #[] #[.pointer (some ⟨gc,0,none⟩)]),(18,.int .i64 ((mid : Int))),(20,.int .i64 ((sa : Int))),(24,.int .i64 (((mid + m - sa : Nat) : Int))),(213,.bool (s))]) (fun s => Asn w0 ok0 M0 [.own 3 kInt ar c (t1),.loc gc [.slice a9 (ops.length) c9] 23,.dat kOp.sl (ops) [.slice a9 (ops.length) c9]]) ?_ ?_
  ·skip
   refine H_region (l:=[_,_,_,_,_,_,_,_]) rfl ?_
   iterate 2 refine HO_move rfl rfl rfl ?_
   refine HO_bin rfl rfl rfl rfl bin_lss ?_
   refine HO_move rfl rfl rfl ?_
   refine HO_split (d:=209) rfl ?_ ?_
   ·intro h209
    replace h209:=dT h209
    iterate 2 refine HO_move rfl rfl rfl ?_
    refine HO_bin rfl rfl rfl rfl bin_lss ?_
    refine HO_pick_t rfl rfl rfl rfl ?_
    refine HO_nil ?_
    refine H_env (ρ':=[(213,_),(0,_),(3,_),(4,_),(18,_),(20,_),(24,_)]) ⟨rfl,rfl,rfl,rfl,rfl,rfl,rfl,trivial⟩ ?_
    refine H_inv (fun a w hf hA => ⟨decide ((((mid + m - sa : Nat) : Int)) < (r : Int)),?_,hf.sub ?_,?_⟩)
    ·(first | (simp only [decide_eq_true_eq];omega) | (simp only [Bool.false_eq_true,false_iff];omega))
    ·exact ⟨rfl,rfl,rfl,rfl,rfl,rfl,rfl,trivial⟩
    ·exact hA.only (is:=[0,1,2]) (Z:=[]) rfl
   intro h209
   replace h209:=dF h209
   iterate 3 refine HO_no rfl rfl rfl ?_
   refine HO_pick_f rfl rfl rfl rfl ?_
   refine HO_nil ?_
   refine H_env (ρ':=[(213,_),(0,_),(3,_),(4,_),(18,_),(20,_),(24,_)]) ⟨rfl,rfl,rfl,rfl,rfl,rfl,rfl,trivial⟩ ?_
   refine H_inv (fun a w hf hA => ⟨false,?_,hf.sub ?_,?_⟩)
   ·(first | (simp only [decide_eq_true_eq];omega) | (simp only [Bool.false_eq_true,false_iff];omega))
   ·exact ⟨rfl,rfl,rfl,rfl,rfl,rfl,rfl,trivial⟩
   ·exact hA.only (is:=[0,1,2]) (Z:=[]) rfl
  intro bb hJ
  (try dsimp only at hJ ⊢)
  have hb213:=hJ
  clear hJ
  refine H_cond rfl ?_ ?_
  ·intro h213
   have hb:=hb213.1 h213
   refine H_region (l:=[_,_,_,_,_,_]) rfl ?_
   iterate 5 refine HO_move rfl rfl rfl ?_
   refine HO_dup (i:=2) rfl rfl ?_
   refine HO_call (first:=[]) (capt:=[]) (is:=[0,1,0]) (R:=[_]) rfl rfl rfl rfl rfl Try.call96 rfl (ih2 _ _ _ _ ?_ ?_ ?_ ?_ ?_ ?_ ?_) ?_
   ·omega
   ·exact (hix.sg hsz).sg hT.1
   ·exact hb.1
   ·exact hb.2
   ·exact hr
   ·exact hM2
   ·omega
   intro y219 hy219
   refine HO_nil ?_
   refine H_env (ρ':=[]) trivial ?_
   refine H_end0 Try.results96 (fun w hA => ⟨y219,congrArg Ending.returned ?_,?_,?_⟩)
   ·rfl
   ·exact ⟨((hsz.mono (p:=p) (q:=r) (by omega) (by omega)).trans (hT.1.mono (Nat.le_refl _) (by omega))).trans (hy219.1.mono (by omega) (Nat.le_refl _)),hH.done ⟨by omega,by omega⟩ hT.1 hT.2 hy219.1 hy219.2⟩
   ·exact hA.keep (m:=[yy,yy,nn]) (Y:=[_,_]) rfl
  intro h213
  have hb : ¬ (mid < (mid + m - sa)∧(mid + m - sa) < r):=fun h => absurd (hb213.2 h) (by simp [h213])
  refine H_skip ?_
  refine H_end0 Try.results96 (fun w hA => ⟨t1,congrArg Ending.returned ?_,?_,?_⟩)
  ·rfl
  ·exact ⟨(hsz.mono (p:=p) (q:=r) (by omega) (by omega)).trans (hT.1.mono (Nat.le_refl _) (by omega)),hH.done ⟨by omega,by omega⟩ hT.1 hT.2 .refl ((Decidable.em (mid < (mid + m - sa))).elim (fun h => hM2.none_right (by omega)) (fun h => hM2.none_left (by omega)))⟩
  ·exact hA.keep (m:=[yy,yy,nn]) (Y:=[_,_]) rfl
set_option maxHeartbeats 0 in
theorem stable_spec (ops : List Op) (a9 : Option Addr) (c9 : Nat) (gc : Nat) (xs : List Int) (ar : Option Addr) (n c : Nat) (hl : ops.length≤10000) (hn : xs.length = n) (hln : n≤10000) (hix : Hist.Idx ops xs) (hri : Srt.Ri xs 0 0 n) : Spec Try.prog 75 #[.slice ar (n) c,.int .i64 ((n : Int)),.func (.func 45) #[] #[.pointer (some ⟨gc,0,none⟩)]] [.own 3 kInt ar c (xs),.loc gc [.slice a9 (ops.length) c9] 23,.dat kOp.sl (ops) [.slice a9 (ops.length) c9]] (β:=List Int) (fun y => .tuple #[]) (fun y => Srt.Sg 0 n xs y∧Srt.So (Hist.so ops) y 0 n) (fun y => [.own 3 kInt ar c (y),.loc gc [.slice a9 (ops.length) c9] 23]):=by
 refine Spec.enter (vs:=[_,_,_]) Try.func75 rfl Try.ntmps75 rfl (Nat.le_of_ble_eq_true rfl) (fun w0 ok0 => ?_)
 generalize hM0 : blks _ = M0
 refine H_len_le (i:=2) rfl ?_
 intro hlen2
 refine H_seq ?_
 refine H_region (l:=[_]) rfl ?_
 refine HO_assign rfl rfl rfl ?_
 refine HO_nil ?_
 refine H_seq ?_
 refine H_region (l:=[_,_,_]) rfl ?_
 refine HO_move rfl rfl rfl ?_
 iterate 2 refine HO_assign rfl rfl rfl ?_
 refine HO_nil ?_
 refine H_env (ρ':=[(8,_),(7,_),(6,_),(0,_),(1,_),(2,_)]) ⟨rfl,rfl,rfl,rfl,rfl,rfl,trivial⟩ ?_
 refine H_seq ?_
 refine H_block ?_
 refine H_loop (σ:=List Int × Nat) (fun s => 20 ∣ s.2∧s.2≤n∧Srt.St (Hist.so ops) s.1 1 20 s.2 n∧Srt.Sg 0 n xs s.1) (fun s => [(0,.slice ar (n) c),(1,.int .i64 ((n : Int))),(2,.func (.func 45) #[] #[.pointer (some ⟨gc,0,none⟩)]),(6,.int .i64 (20)),(7,.int .i64 ((s.2 : Int))),(8,.int .i64 (((s.2 + 20 : Nat) : Int)))]) (fun s => Asn w0 ok0 M0 [.own 3 kInt ar c (s.1),.loc gc [.slice a9 (ops.length) c9] 23,.dat kOp.sl (ops) [.slice a9 (ops.length) c9]]) (fun s => n - s.2) ⟨xs,0⟩ ?_ ?_ ?_ ?_
 ·exact ⟨⟨0,rfl⟩,Nat.zero_le _,.rising hri 20,.refl⟩
 ·exact ⟨rfl,rfl,rfl,rfl,rfl,rfl,trivial⟩
 ·intro w hA
  exact hA.only (is:=[0,1,2]) (Z:=[]) rfl
 ·rintro ⟨ys,ka⟩ hI
  (try dsimp only at hI ⊢)
  refine H_seq ?_
  refine H_seq ?_
  refine H_region (l:=[_,_,_]) rfl ?_
  iterate 2 refine HO_move rfl rfl rfl ?_
  refine HO_bin rfl rfl rfl rfl bin_leq ?_
  refine HO_nil ?_
  refine H_env (ρ':=[(13,_),(0,_),(1,_),(2,_),(6,_),(7,_),(8,_)]) ⟨rfl,rfl,rfl,rfl,rfl,rfl,rfl,trivial⟩ ?_
  refine H_cond rfl ?_ ?_
  ·intro h13
   replace h13:=dT h13
   refine H_skip ?_
   refine H_block ?_
   refine H_seq ?_
   refine H_region (l:=[_,_,_,_,_]) rfl ?_
   iterate 4 refine HO_move rfl rfl rfl ?_
   refine HO_dup (i:=2) rfl rfl ?_
   refine HO_call (first:=[]) (capt:=[]) (is:=[0,1,0]) (R:=[_]) rfl rfl rfl rfl rfl Try.call95 rfl (insc_spec _ _ _ _ _ _ _ _ _ _ ?_ ?_ ?_ ?_ ?_ ?_ ?_) ?_
   ·exact hl
   ·(have:=hI.2.2.2.1;omega)
   ·exact hln
   ·exact hix.sg hI.2.2.2
   ·omega
   ·omega
   ·exact (fun i j u v h1 h2 h3 h4 => hI.2.2.1.rise i j u v h1 h2 h3 (by omega))
   intro y18 hy18
   refine HO_nil ?_
   refine H_env (ρ':=[(0,_),(1,_),(2,_),(6,_),(8,_)]) ⟨rfl,rfl,rfl,rfl,rfl,trivial⟩ ?_
   refine H_seq ?_
   refine H_region (l:=[_,_]) rfl ?_
   refine HO_move rfl rfl rfl ?_
   refine HO_assign rfl rfl rfl ?_
   refine HO_nil ?_
   refine H_env (ρ':=[(7,_),(0,_),(1,_),(2,_),(6,_),(8,_)]) ⟨rfl,rfl,rfl,rfl,rfl,rfl,trivial⟩ ?_
   refine H_region (l:=[_,_,_,_]) rfl ?_
   iterate 2 refine HO_move rfl rfl rfl ?_
   refine HO_bin rfl rfl rfl rfl (bin_add ?_ ?_) ?_
   ·omega
   ·omega
   refine HO_set (v':=.int .i64 (((ka + 20 + 20 : Nat) : Int))) 22 rfl (by exact congrArg (Value.int .i64) (by omega)) ?_
   refine HO_assign rfl rfl rfl ?_
   refine HO_nil ?_
   refine H_env (ρ':=[(8,_),(7,_),(0,_),(1,_),(2,_),(6,_)]) ⟨rfl,rfl,rfl,rfl,rfl,rfl,trivial⟩ ?_
   refine H_blk ?_
   refine H_inv (fun a w hf hA => ⟨⟨y18,ka + 20⟩,?_,?_,hf.sub ?_,?_⟩)
   ·exact ⟨Nat.dvd_add hI.1 (Nat.dvd_refl _),(by dsimp only;omega),hI.2.2.1.step (Nat.one_dvd _) hI.1 (.inl rfl) (by omega) (Nat.le_refl _) (by omega) hy18.1 hy18.2,hI.2.2.2.trans (hy18.1.mono (Nat.zero_le _) (by omega))⟩
   ·(try dsimp only);omega
   ·exact ⟨rfl,rfl,rfl,rfl,rfl,rfl,trivial⟩
   ·exact hA.only (is:=[0,1,2]) (Z:=[]) rfl
  intro h13
  replace h13:=dF h13
  refine H_exit rfl ?_
  refine H_seq ?_
  refine H_region (l:=[_,_,_,_,_]) rfl ?_
  iterate 4 refine HO_move rfl rfl rfl ?_
  refine HO_dup (i:=2) rfl rfl ?_
  refine HO_call (first:=[]) (capt:=[]) (is:=[0,1,0]) (R:=[_]) rfl rfl rfl rfl rfl Try.call95 rfl (insc_spec _ _ _ _ _ _ _ _ _ _ ?_ ?_ ?_ ?_ ?_ ?_ ?_) ?_
  ·exact hl
  ·(have:=hI.2.2.2.1;omega)
  ·exact hln
  ·exact hix.sg hI.2.2.2
  ·omega
  ·omega
  ·exact (fun i j u v h1 h2 h3 h4 => hI.2.2.1.rise i j u v h1 h2 h3 (by omega))
  intro y27 hy27
  refine HO_nil ?_
  refine H_env (ρ':=[(0,_),(1,_),(2,_),(6,_)]) ⟨rfl,rfl,rfl,rfl,trivial⟩ ?_
  refine H_block ?_
  refine H_loop (σ:=List Int × Nat) (fun s => 1≤s.2∧s.2≤40000∧Srt.St (Hist.so ops) s.1 s.2 (2 * s.2) 0 n∧Srt.Sg 0 n xs s.1) (fun s => [(0,.slice ar (n) c),(1,.int .i64 ((n : Int))),(2,.func (.func 45) #[] #[.pointer (some ⟨gc,0,none⟩)]),(6,.int .i64 ((s.2 : Int)))]) (fun s => Asn w0 ok0 M0 [.own 3 kInt ar c (s.1),.loc gc [.slice a9 (ops.length) c9] 23,.dat kOp.sl (ops) [.slice a9 (ops.length) c9]]) (fun s => n - s.2) ⟨y27,20⟩ ?_ ?_ ?_ ?_
  ·exact ⟨(by dsimp only;decide),(by dsimp only;decide),(hI.2.2.1.step (Nat.one_dvd _) hI.1 (.inr rfl) (Nat.le_refl _) (by omega) hI.2.1 hy27.1 hy27.2).up 40,hI.2.2.2.trans (hy27.1.mono (Nat.zero_le _) (Nat.le_refl _))⟩
  ·exact ⟨rfl,rfl,rfl,rfl,trivial⟩
  ·intro w hA
   exact hA.only (is:=[0,1,2]) (Z:=[]) rfl
  ·rintro ⟨zs,bs⟩ hI
   (try dsimp only at hI ⊢)
   refine H_seq ?_
   refine H_seq ?_
   refine H_region (l:=[_,_,_]) rfl ?_
   iterate 2 refine HO_move rfl rfl rfl ?_
   refine HO_bin rfl rfl rfl rfl bin_lss ?_
   refine HO_nil ?_
   refine H_env (ρ':=[(30,_),(0,_),(1,_),(2,_),(6,_)]) ⟨rfl,rfl,rfl,rfl,rfl,trivial⟩ ?_
   refine H_cond rfl ?_ ?_
   ·intro h30
    replace h30:=dT h30
    refine H_skip ?_
    refine H_block ?_
    refine H_seq ?_
    have hO:=hI
    refine H_region (l:=[_,_,_,_]) rfl ?_
    refine HO_move rfl rfl rfl ?_
    refine HO_bin rfl rfl rfl rfl (bin_mul ?_ ?_) ?_
    ·omega
    ·omega
    refine HO_set (v':=.int .i64 (((2 * bs : Nat) : Int))) 32 rfl (by exact congrArg (Value.int .i64) (by omega)) ?_
    iterate 2 refine HO_assign rfl rfl rfl ?_
    refine HO_nil ?_
    refine H_env (ρ':=[(8,_),(7,_),(0,_),(1,_),(2,_),(6,_)]) ⟨rfl,rfl,rfl,rfl,rfl,rfl,trivial⟩ ?_
    refine H_seq ?_
    refine H_block ?_
    refine H_loop (σ:=List Int × Nat) (fun s => (2 * bs) ∣ s.2∧s.2≤n∧Srt.St (Hist.so ops) s.1 bs (2 * bs) s.2 n∧Srt.Sg 0 n xs s.1) (fun s => [(0,.slice ar (n) c),(1,.int .i64 ((n : Int))),(2,.func (.func 45) #[] #[.pointer (some ⟨gc,0,none⟩)]),(6,.int .i64 ((bs : Int))),(7,.int .i64 ((s.2 : Int))),(8,.int .i64 (((s.2 + 2 * bs : Nat) : Int)))]) (fun s => Asn w0 ok0 M0 [.own 3 kInt ar c (s.1),.loc gc [.slice a9 (ops.length) c9] 23,.dat kOp.sl (ops) [.slice a9 (ops.length) c9]]) (fun s => n - s.2) ⟨zs,0⟩ ?_ ?_ ?_ ?_
    ·exact ⟨⟨0,rfl⟩,Nat.zero_le _,hO.2.2.1,hO.2.2.2⟩
    ·exact ⟨rfl,rfl,rfl,rfl,rfl,congrArg (fun z => some (Value.int .i64 z)) (by dsimp only;omega),trivial⟩
    ·intro w hA
     exact hA.only (is:=[0,1,2]) (Z:=[]) rfl
    ·rintro ⟨ws,ka⟩ hI
     (try dsimp only at hI ⊢)
     refine H_seq ?_
     refine H_seq ?_
     refine H_region (l:=[_,_,_]) rfl ?_
     iterate 2 refine HO_move rfl rfl rfl ?_
     refine HO_bin rfl rfl rfl rfl bin_leq ?_
     refine HO_nil ?_
     refine H_env (ρ':=[(35,_),(0,_),(1,_),(2,_),(6,_),(7,_),(8,_)]) ⟨rfl,rfl,rfl,rfl,rfl,rfl,rfl,trivial⟩ ?_
     refine H_cond rfl ?_ ?_
     ·intro h35
      replace h35:=dT h35
      refine H_skip ?_
      refine H_block ?_
      refine H_seq ?_
      refine H_region (l:=[_,_,_,_,_,_,_,_]) rfl ?_
      iterate 4 refine HO_move rfl rfl rfl ?_
      refine HO_bin rfl rfl rfl rfl (bin_add ?_ ?_) ?_
      ·omega
      ·omega
      refine HO_set (v':=.int .i64 (((ka + bs : Nat) : Int))) 40 rfl (by exact congrArg (Value.int .i64) (by omega)) ?_
      iterate 2 refine HO_move rfl rfl rfl ?_
      refine HO_dup (i:=2) rfl rfl ?_
      refine HO_call (first:=[]) (capt:=[]) (is:=[0,1,0]) (R:=[_]) rfl rfl rfl rfl rfl Try.call96 rfl (symm_spec _ _ _ _ _ _ _ _ _ _ _ ?_ ?_ ?_ ?_ ?_ ?_ ?_ ?_) ?_
      ·exact hl
      ·exact hln
      ·(have:=hI.2.2.2.1;omega)
      ·exact hix.sg hI.2.2.2
      ·omega
      ·omega
      ·omega
      ·exact hI.2.2.1.pair ⟨2,by omega⟩ hI.1 rfl (by omega) (by omega) (by omega)
      intro y43 hy43
      refine HO_nil ?_
      refine H_env (ρ':=[(0,_),(1,_),(2,_),(6,_),(8,_)]) ⟨rfl,rfl,rfl,rfl,rfl,trivial⟩ ?_
      refine H_seq ?_
      refine H_region (l:=[_,_]) rfl ?_
      refine HO_move rfl rfl rfl ?_
      refine HO_assign rfl rfl rfl ?_
      refine HO_nil ?_
      refine H_env (ρ':=[(7,_),(0,_),(1,_),(2,_),(6,_),(8,_)]) ⟨rfl,rfl,rfl,rfl,rfl,rfl,trivial⟩ ?_
      refine H_region (l:=[_,_,_,_,_]) rfl ?_
      iterate 2 refine HO_move rfl rfl rfl ?_
      refine HO_bin rfl rfl rfl rfl (bin_mul ?_ ?_) ?_
      ·omega
      ·omega
      refine HO_set (v':=.int .i64 (((2 * bs : Nat) : Int))) 47 rfl (by exact congrArg (Value.int .i64) (by omega)) ?_
      refine HO_bin rfl rfl rfl rfl (bin_add ?_ ?_) ?_
      ·omega
      ·omega
      refine HO_set (v':=.int .i64 (((ka + 2 * bs + 2 * bs : Nat) : Int))) 48 rfl (by exact congrArg (Value.int .i64) (by omega)) ?_
      refine HO_assign rfl rfl rfl ?_
      refine HO_nil ?_
      refine H_env (ρ':=[(8,_),(7,_),(0,_),(1,_),(2,_),(6,_)]) ⟨rfl,rfl,rfl,rfl,rfl,rfl,trivial⟩ ?_
      refine H_blk ?_
      refine H_inv (fun a w hf hA => ⟨⟨y43,ka + 2 * bs⟩,?_,?_,hf.sub ?_,?_⟩)
      ·exact ⟨Nat.dvd_add hI.1 (Nat.dvd_refl _),(by dsimp only;omega),hI.2.2.1.step ⟨2,by omega⟩ hI.1 (.inl rfl) (by omega) (Nat.le_refl _) (by omega) hy43.1 hy43.2,hI.2.2.2.trans (hy43.1.mono (Nat.zero_le _) (by omega))⟩
      ·(try dsimp only);omega
      ·exact ⟨rfl,rfl,rfl,rfl,rfl,rfl,trivial⟩
      ·exact hA.only (is:=[0,1,2]) (Z:=[]) rfl
     intro h35
     replace h35:=dF h35
     refine H_exit rfl ?_
     refine H_seq ?_
     refine H_seq ?_
     refine H_region (l:=[_,_,_,_]) rfl ?_
     iterate 2 refine HO_move rfl rfl rfl ?_
     refine HO_bin rfl rfl rfl rfl (bin_add ?_ ?_) ?_
     ·omega
     ·omega
     refine HO_set (v':=.int .i64 (((ka + bs : Nat) : Int))) 51 rfl (by exact congrArg (Value.int .i64) (by omega)) ?_
     refine HO_assign rfl rfl rfl ?_
     refine HO_nil ?_
     refine H_env (ρ':=[(9,_),(0,_),(1,_),(2,_),(6,_),(7,_)]) ⟨rfl,rfl,rfl,rfl,rfl,rfl,trivial⟩ ?_
     refine H_seq ?_
     refine H_region (l:=[_,_,_]) rfl ?_
     iterate 2 refine HO_move rfl rfl rfl ?_
     refine HO_bin rfl rfl rfl rfl bin_lss ?_
     refine HO_nil ?_
     refine H_env (ρ':=[(54,_),(9,_),(0,_),(1,_),(2,_),(6,_),(7,_)]) ⟨rfl,rfl,rfl,rfl,rfl,rfl,rfl,trivial⟩ ?_
     refine H_cond rfl ?_ ?_
     ·intro h54
      replace h54:=dT h54
      refine H_region (l:=[_,_,_,_,_,_]) rfl ?_
      iterate 5 refine HO_move rfl rfl rfl ?_
      refine HO_dup (i:=2) rfl rfl ?_
      refine HO_call (first:=[]) (capt:=[]) (is:=[0,1,0]) (R:=[_]) rfl rfl rfl rfl rfl Try.call96 rfl (symm_spec _ _ _ _ _ _ _ _ _ _ _ ?_ ?_ ?_ ?_ ?_ ?_ ?_ ?_) ?_
      ·exact hl
      ·exact hln
      ·(have:=hI.2.2.2.1;omega)
      ·exact hix.sg hI.2.2.2
      ·omega
      ·omega
      ·omega
      ·exact hI.2.2.1.pair ⟨2,by omega⟩ hI.1 rfl (by omega) (by omega) (by omega)
      intro y60 hy60
      refine HO_nil ?_
      refine H_env (ρ':=[(0,_),(1,_),(2,_),(6,_)]) ⟨rfl,rfl,rfl,rfl,trivial⟩ ?_
      refine H_region (l:=[_,_,_]) rfl ?_
      refine HO_move rfl rfl rfl ?_
      refine HO_bin rfl rfl rfl rfl (bin_mul ?_ ?_) ?_
      ·omega
      ·omega
      refine HO_set (v':=.int .i64 (((2 * bs : Nat) : Int))) 62 rfl (by exact congrArg (Value.int .i64) (by omega)) ?_
      refine HO_assign rfl rfl rfl ?_
      refine HO_nil ?_
      refine H_env (ρ':=[(6,_),(0,_),(1,_),(2,_)]) ⟨rfl,rfl,rfl,rfl,trivial⟩ ?_
      refine H_blk ?_
      refine H_inv (fun a w hf hA => ⟨⟨y60,2 * bs⟩,?_,?_,hf.sub ?_,?_⟩)
      ·exact ⟨(by dsimp only;omega),(by dsimp only;omega),(hI.2.2.1.step ⟨2,by omega⟩ hI.1 (.inr rfl) (Nat.le_refl _) (by omega) hI.2.1 hy60.1 hy60.2).up _,hI.2.2.2.trans (hy60.1.mono (Nat.zero_le _) (Nat.le_refl _))⟩
      ·(try dsimp only);omega
      ·exact ⟨rfl,rfl,rfl,rfl,trivial⟩
      ·exact hA.only (is:=[0,1,2]) (Z:=[]) rfl
     intro h54
     replace h54:=dF h54
     refine H_skip ?_
     refine H_region (l:=[_,_,_]) rfl ?_
     refine HO_move rfl rfl rfl ?_
     refine HO_bin rfl rfl rfl rfl (bin_mul ?_ ?_) ?_
     ·omega
     ·omega
     refine HO_set (v':=.int .i64 (((2 * bs : Nat) : Int))) 62 rfl (by exact congrArg (Value.int .i64) (by omega)) ?_
     refine HO_assign rfl rfl rfl ?_
     refine HO_nil ?_
     refine H_env (ρ':=[(6,_),(0,_),(1,_),(2,_)]) ⟨rfl,rfl,rfl,rfl,trivial⟩ ?_
     refine H_blk ?_
     refine H_inv (fun a w hf hA => ⟨⟨ws,2 * bs⟩,?_,?_,hf.sub ?_,?_⟩)
     ·exact ⟨(by dsimp only;omega),(by dsimp only;omega),(hI.2.2.1.step ⟨2,by omega⟩ hI.1 (.inr rfl) (Nat.le_refl _) (by omega) hI.2.1 .refl (hI.2.2.1.block (Nat.dvd_trans ⟨2,by omega⟩ hI.1) (Nat.le_refl _) (by omega) (Nat.le_refl _))).up _,hI.2.2.2⟩
     ·(try dsimp only);omega
     ·exact ⟨rfl,rfl,rfl,rfl,trivial⟩
     ·exact hA.only (is:=[0,1,2]) (Z:=[]) rfl
   intro h30
   replace h30:=dF h30
   refine H_exit rfl ?_
   refine H_end0 Try.results75 (fun w hA => ⟨zs,congrArg Ending.returned ?_,?_,?_⟩)
   ·rfl
   ·exact ⟨hI.2.2.2,hI.2.2.1.whole (by omega)⟩
   ·exact hA.keep (m:=[yy,yy,nn]) (Y:=[_,_]) rfl
theorem sorts_spec (ops : List Op) (a9 : Option Addr) (c9 : Nat) (gc : Nat) (xs : List Int) (ar : Option Addr) (n c : Nat) (hl : ops.length≤10000) (hn : xs.length = n) (hln : n≤10000) (hix : Hist.Idx ops xs) (hri : Srt.Ri xs 0 0 n) : Spec Try.prog 44 #[.slice ar (n) c,.func (.func 45) #[] #[.pointer (some ⟨gc,0,none⟩)]] [.own 3 kInt ar c (xs),.loc gc [.slice a9 (ops.length) c9] 23,.dat kOp.sl (ops) [.slice a9 (ops.length) c9]] (β:=List Int) (fun y => .tuple #[]) (fun y => Srt.Sg 0 n xs y∧Srt.So (Hist.so ops) y 0 n) (fun y => [.own 3 kInt ar c (y),.loc gc [.slice a9 (ops.length) c9] 23]):=by
 refine Spec.enter (vs:=[_,_]) Try.func44 rfl Try.ntmps44 rfl (Nat.le_of_ble_eq_true rfl) (fun w0 ok0 => ?_)
 generalize hM0 : blks _ = M0
 refine H_len_le (i:=2) rfl ?_
 intro hlen2
 refine H_region (l:=[_,_,_,_,_]) rfl ?_
 iterate 2 refine HO_move rfl rfl rfl ?_
 refine HO_bi rfl rfl rfl (bi_len_sl Try.underlying29) ?_
 refine HO_move rfl rfl rfl ?_
 refine HO_dup (i:=2) rfl rfl ?_
 refine HO_call (first:=[]) (capt:=[]) (is:=[0,1,0]) (R:=[_]) rfl rfl rfl rfl rfl Try.call75 rfl (stable_spec _ _ _ _ _ _ _ _ ?_ ?_ ?_ ?_ ?_) ?_
 ·exact hl
 ·exact hn
 ·exact hln
 ·exact hix
 ·exact hri
 intro y8 hy8
 refine HO_nil ?_
 refine H_env (ρ':=[]) trivial ?_
 refine H_end0 Try.results44 (fun w hA => ⟨y8,congrArg Ending.returned ?_,?_,?_⟩)
 ·rfl
 ·exact hy8
 ·exact hA.keep (m:=[yy,yy,nn]) (Y:=[_,_]) rfl
end Go.Wk
