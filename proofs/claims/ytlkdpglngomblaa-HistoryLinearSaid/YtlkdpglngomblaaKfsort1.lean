/- Contracts of the program's functions, each proved by walking its code. -/
import Derived.Test.YtlkdpglngomblaaKfhist2
import Derived.Test.YtlkdpglngomblaaOrd
set_option maxRecDepth 100000
set_option linter.unusedVariables false
set_option linter.unusedSimpArgs false
namespace Go.Wk.Fsort1
open Go Go.RowKit Go.Proofs Go.Wk
theorem elt3 : Elt Try.prog 3 (.int .i64 (0)) 1 8:=Elt.of (by kernel_rfl) (by rfl) (by decide) (by decide)
end Go.Wk.Fsort1
namespace Go.Wk
open Go Go.RowKit Go.Proofs Fsort1 
theorem rank_spec (b : Bool)  : Spec Try.prog 48 #[.bool (b)] [] (β:=Unit) (fun y => .int .i64 (Hist.rk b)) (fun y => True) (fun y => []):=by
 refine Spec.enter (vs:=[_]) Try.func48 rfl Try.ntmps48 rfl (Nat.le_of_ble_eq_true rfl) (fun w0 ok0 => ?_)
 generalize hM0 : blks _ = M0
 have hMn:=@noM _ _ hM0 (by simp [Atom.dat,Atom.elem])
 refine H_seq ?_
 refine H_region (l:=[_]) rfl ?_
 refine HO_assign rfl rfl rfl ?_
 refine HO_nil ?_
 refine H_env (ρ':=[(0,_)]) ⟨rfl,trivial⟩ ?_
 refine H_seq ?_
 refine H_seq ?_
 refine H_region (l:=[_]) rfl ?_
 refine HO_move rfl rfl rfl ?_
 refine HO_nil ?_
 refine H_env (ρ':=[(3,_)]) ⟨rfl,trivial⟩ ?_
 refine H_cond rfl ?_ ?_
 ·intro h3
  refine H_seq ?_
  refine H_region (l:=[_]) rfl ?_
  refine HO_assign rfl rfl rfl ?_
  refine HO_nil ?_
  refine H_env (ρ':=[(2,_)]) ⟨rfl,trivial⟩ ?_
  refine H_ret1 Try.results48 (.tmp rfl) (fun w hA => ⟨(),congrArg Ending.returned ?_,?_,?_⟩)
  ·(exact congrArg (Value.int .i64) (by simp [Hist.rk, *]))
  ·trivial
  ·exact hA.keep (m:=[]) (Y:=[]) rfl
 intro h3
 refine H_skip ?_
 refine H_seq ?_
 refine H_region (l:=[_]) rfl ?_
 refine HO_assign rfl rfl rfl ?_
 refine HO_nil ?_
 refine H_env (ρ':=[(2,_)]) ⟨rfl,trivial⟩ ?_
 refine H_ret1 Try.results48 (.tmp rfl) (fun w hA => ⟨(),congrArg Ending.returned ?_,?_,?_⟩)
 ·(exact congrArg (Value.int .i64) (by simp [Hist.rk, *]))
 ·trivial
 ·exact hA.keep (m:=[]) (Y:=[]) rfl
theorem first_spec (l : List Int) (a : Option Addr) (c : Nat)  : Spec Try.prog 46 #[.slice a (l.length) c] [.dat kInt.sl (l) [.slice a (l.length) c]] (β:=Unit) (fun y => .int .i64 (Hist.ofirst l)) (fun y => True) (fun y => []):=by
 refine Spec.enter (vs:=[_]) Try.func46 rfl Try.ntmps46 rfl (Nat.le_of_ble_eq_true rfl) (fun w0 ok0 => ?_)
 generalize hM0 : blks _ = M0
 have hMn:=@noM _ _ hM0 (by simp [Atom.dat,Atom.elem])
 refine H_len_le (i:=0) rfl ?_
 intro hlen0
 refine H_seq ?_
 refine H_region (l:=[_]) rfl ?_
 refine HO_assign rfl rfl rfl ?_
 refine HO_nil ?_
 refine H_env (ρ':=[(0,_)]) ⟨rfl,trivial⟩ ?_
 refine H_seq ?_
 refine H_seq ?_
 refine H_region (l:=[_,_,_]) rfl ?_
 refine HO_move rfl rfl rfl ?_
 refine HO_bi rfl rfl rfl (bi_len_sl Try.underlying29) ?_
 refine HO_move rfl rfl rfl ?_
 refine HO_nil ?_
 refine H_env (ρ':=[(7,_),(6,_),(5,_)]) ⟨rfl,rfl,rfl,trivial⟩ ?_
 refine H_block ?_
 refine H_loop (σ:=Nat) (fun s => s≤l.length∧Hist.ofirst (l.drop s) = Hist.ofirst l) (fun s => [(5,.slice a (l.length) c),(6,.int .i64 ((l.length : Int))),(7,.int .i64 ((s : Int)))]) (fun s => Asn w0 ok0 M0 [.dat kInt.sl (l) [.slice a (l.length) c]]) (fun s => l.length - s) 0 ?_ ?_ ?_ ?_
 ·exact ⟨Nat.zero_le _,rfl⟩
 ·exact ⟨rfl,rfl,rfl,trivial⟩
 ·intro w hA
  exact hA.only (is:=[0]) (Z:=[]) rfl
 ·intro i hI
  (try dsimp only at hI ⊢)
  refine H_seq ?_
  refine H_region (l:=[_]) rfl ?_
  refine HO_bin rfl rfl rfl rfl bin_lss ?_
  refine HO_nil ?_
  refine H_seq ?_
  refine H_cond rfl ?_ ?_
  ·intro h8
   replace h8:=dT h8
   refine H_skip ?_
   refine H_seq ?_
   refine H_block ?_
   refine H_seq ?_
   refine H_region (l:=[_,_,_]) rfl ?_
   refine HO_indexAddr open_int (i:=0) rfl rfl rfl rfl rfl Try.underlying29 Try.sizeOf3 rfl ?_ ?_
   ·omega
   intro b9 o9 z9 y9 hz9 hI9
   clear y9
   refine HO_load1 (i:=0) (j:=0) rfl rfl rfl Try.isAgg3 rfl (.elem _ _ _) rfl rfl ?_
   refine HO_assign rfl rfl rfl ?_
   refine HO_nil ?_
   refine H_env (ρ':=[(4,_),(5,_),(6,_),(7,_)]) ⟨rfl,rfl,rfl,rfl,trivial⟩ ?_
   refine H_world (kp [nn,yy] [_] rfl) ?_
   refine H_seq ?_
   refine H_region (l:=[_,_]) rfl ?_
   refine HO_move rfl rfl rfl ?_
   refine HO_bin rfl rfl rfl rfl bin_neq ?_
   refine HO_nil ?_
   refine H_env (ρ':=[(12,_),(4,_),(5,_),(6,_),(7,_)]) ⟨rfl,rfl,rfl,rfl,rfl,trivial⟩ ?_
   refine H_cond rfl ?_ ?_
   ·intro h12
    replace h12:=dT h12
    refine H_seq ?_
    refine H_region (l:=[_,_]) rfl ?_
    refine HO_move rfl rfl rfl ?_
    refine HO_assign rfl rfl rfl ?_
    refine HO_nil ?_
    refine H_env (ρ':=[(2,_)]) ⟨rfl,trivial⟩ ?_
    refine H_world (kp [nn] [] rfl) ?_
    refine H_ret1 Try.results46 (.tmp rfl) (fun w hA => ⟨(),congrArg Ending.returned ?_,?_,?_⟩)
    ·(exact congrArg (Value.int .i64) ((Hist.ofirst_at hz9 h12).symm.trans hI.2))
    ·trivial
    ·exact hA.keep (m:=[]) (Y:=[]) rfl
   intro h12
   replace h12:=dF h12
   refine H_skip ?_
   refine H_blk ?_
   refine H_region (l:=[_,_]) rfl ?_
   refine HO_bin rfl rfl rfl rfl (bin_add ?_ ?_) ?_
   ·omega
   ·omega
   refine HO_move rfl rfl rfl ?_
   refine HO_nil ?_
   refine H_env (ρ':=[(7,_),(5,_),(6,_)]) ⟨rfl,rfl,rfl,trivial⟩ ?_
   refine H_inv (fun a w hf hA => ⟨i + 1,?_,?_,hf.sub ?_,?_⟩)
   ·exact ⟨by omega,(Hist.ofirst_next hz9 (by omega)).symm.trans hI.2⟩
   ·(try dsimp only);omega
   ·exact ⟨rfl,rfl,rfl,trivial⟩
   ·exact hA.only (is:=[0]) (Z:=[]) rfl
  intro h8
  replace h8:=dF h8
  refine H_exit rfl ?_
  refine H_seq ?_
  refine H_region (l:=[_]) rfl ?_
  refine HO_assign rfl rfl rfl ?_
  refine HO_nil ?_
  refine H_env (ρ':=[(2,_)]) ⟨rfl,trivial⟩ ?_
  refine H_world (kp [nn] [] rfl) ?_
  refine H_ret1 Try.results46 (.tmp rfl) (fun w hA => ⟨(),congrArg Ending.returned ?_,?_,?_⟩)
  ·(exact congrArg (Value.int .i64) (by rw [← hI.2,List.drop_eq_nil_of_le (by omega)];rfl))
  ·trivial
  ·exact hA.keep (m:=[]) (Y:=[]) rfl
theorem ord1_spec (ops : List Op) (a9 : Option Addr) (c9 : Nat) (gc : Nat) (u w : Int) (hl : ops.length≤10000) (hu : 0≤u∧u < ops.length) (hw : 0≤w∧w < ops.length) : Spec Try.prog 45 #[.int .i64 (u),.int .i64 (w),.pointer (some ⟨gc,0,none⟩)] [.loc gc [.slice a9 (ops.length) c9] 23,.dat kOp.sl (ops) [.slice a9 (ops.length) c9]] (β:=Unit) (fun y => .int .i64 (Hist.cmpP (Hist.opAt ops u) (Hist.opAt ops w))) (fun y => True) (fun y => [.loc gc [.slice a9 (ops.length) c9] 23]):=by
 refine Spec.enter (vs:=[_,_,_]) Try.func45 rfl Try.ntmps45 rfl (Nat.le_of_ble_eq_true rfl) (fun w0 ok0 => ?_)
 generalize hM0 : blks _ = M0
 refine H_len_le (i:=1) rfl ?_
 intro hlen1
 refine H_seq ?_
 refine H_region (l:=[_]) rfl ?_
 refine HO_assign rfl rfl rfl ?_
 refine HO_nil ?_
 refine H_env (ρ':=[(0,_),(1,_),(2,_)]) ⟨rfl,rfl,rfl,trivial⟩ ?_
 refine H_seq ?_
 refine H_elem open_Op (i:=1) (u.toNat) rfl (by omega) ?_
 intro be oe ze ye hae hze hIe
 cases hae
 (try simp only [BIG] at hIe)
 refine H_elem open_Op (i:=3) (w.toNat) rfl (by omega) ?_
 intro bf of zf yf haf hzf hIf
 cases haf
 (try simp only [BIG] at hIf)
 refine H_drawB (m:=[yy,yy,yy,yy,yy,yy]) (Xs:=[_,_,_,_,_,_]) (fuel:=12) (l:=#[false,false,false,false,false,false,false,false,false,false,false,false]) mixed rfl rfl rfl ?_
 refine HA_take (i:=0) bp rfl rfl rfl rfl (by kernel_rfl) rfl (V_load1 (i:=4) (j:=0) rfl Try.isAgg23 rfl (.loc _ _ _) rfl rfl) (fun _ hA => hA) ?_
 refine HA_take (i:=1) bp rfl rfl rfl rfl (by kernel_rfl) rfl (V_move rfl) (fun _ hA => hA) ?_
 refine HA_take (i:=2) bp rfl rfl rfl rfl (by kernel_rfl) rfl (V_indexC (j:=u.toNat) rfl rfl ?_ Try.underlying23 Try.sizeOf40 ?_ rfl) (fun _ hA => hA) ?_
 ·omega
 ·omega
 refine HA_take (i:=3) bp rfl rfl rfl rfl (by kernel_rfl) rfl (V_loadA (i:=2) (us:=[]) (cs:=[_,_,_,_,_,_,_,_,_,_,_,_,_,_,_,_,_]) (ts:=[]) rfl Try.isAgg40 Try.sizeOf40 rfl (.elem _ _ _) rfl rfl rfl rfl) (fun _ hA => hA) ?_
 refine HA_take (i:=4) bp rfl rfl rfl rfl (by kernel_rfl) rfl (V_load1 (i:=4) (j:=0) rfl Try.isAgg23 rfl (.loc _ _ _) rfl rfl) (fun _ hA => hA) ?_
 refine HA_take (i:=5) bp rfl rfl rfl rfl (by kernel_rfl) rfl (V_move rfl) (fun _ hA => hA) ?_
 refine HA_take (i:=6) bp rfl rfl rfl rfl (by kernel_rfl) rfl (V_indexC (j:=w.toNat) rfl rfl ?_ Try.underlying23 Try.sizeOf40 ?_ rfl) (fun _ hA => hA) ?_
 ·omega
 ·omega
 refine HA_take (i:=7) bp rfl rfl rfl rfl (by kernel_rfl) rfl (V_loadA (i:=0) (us:=[]) (cs:=[_,_,_,_,_,_,_,_,_,_,_,_,_,_,_,_,_]) (ts:=[]) rfl Try.isAgg40 Try.sizeOf40 rfl (.elem _ _ _) rfl rfl rfl rfl) (fun _ hA => hA) ?_
 refine HA_loud2 (i:=8) (j:=9) (by kernel_rfl) rfl rfl ?_ ?_
 ·refine HO_alloc (cs:=[_,_,_,_,_,_,_,_,_,_,_,_,_,_,_,_,_]) rfl rfl Try.zeroValue40 rfl ?_
  intro g6
  refine HA_back rfl (kp [nn,yy,yy,yy,yy,yy,yy] [_,_,_,_,_,_] rfl) ?_
  refine HA_loud1 (i:=9) (by kernel_rfl) rfl ?_
  refine HO_alloc (cs:=[_,_,_,_,_,_,_,_,_,_,_,_,_,_,_,_,_]) rfl rfl Try.zeroValue40 rfl ?_
  intro g7
  refine HA_back rfl (kp [nn,nn,yy,yy,yy,yy,yy,yy] [_,_,_,_,_,_] rfl) ?_
  refine HA_loud1 (i:=10) (by kernel_rfl) rfl ?_
  refine HO_store (i:=1) (j:=0) (us:=[]) (old:=[_,_,_,_,_,_,_,_,_,_,_,_,_,_,_,_,_]) (ts:=[]) (cs:=[_,_,_,_,_,_,_,_,_,_,_,_,_,_,_,_,_]) (R:=[_,_,_,_,_,_,_]) (new:=[_,_,_,_,_,_,_,_,_,_,_,_,_,_,_,_,_]) rfl rfl rfl Try.sizeOf40 rfl (by simp [Value.oneCell']) rfl rfl rfl rfl rfl rfl ?_
  refine HA_back rfl (kp [nn,nn,yy,yy,yy,yy,yy,yy] [_,_,_,_,_,_] rfl) ?_
  refine HA_loud1 (i:=11) (by kernel_rfl) rfl ?_
  refine HO_store (i:=1) (j:=0) (us:=[]) (old:=[_,_,_,_,_,_,_,_,_,_,_,_,_,_,_,_,_]) (ts:=[]) (cs:=[_,_,_,_,_,_,_,_,_,_,_,_,_,_,_,_,_]) (R:=[_,_,_,_,_,_,_]) (new:=[_,_,_,_,_,_,_,_,_,_,_,_,_,_,_,_,_]) rfl rfl rfl Try.sizeOf40 rfl (by simp [Value.oneCell']) rfl rfl rfl rfl rfl rfl ?_
  refine HA_back rfl (kp [nn,nn,yy,yy,yy,yy,yy,yy] [_,_,_,_,_,_] rfl) ?_
  refine HA_done (by kernel_rfl) ?_
  refine H_env (ρ':=[(7,_),(6,_)]) ⟨rfl,rfl,trivial⟩ ?_
  refine H_world (kp [yy,yy,nn,yy,nn,yy,yy,yy] [_,_,_,_,_,_] rfl) ?_
  refine H_seq ?_
  have r1:=Hist.rk01 ze.read
  have r2:=Hist.rk01 zf.read
  have q1:=Hist.cmpI_rng ze.at_ zf.at_
  have q2:=Hist.cmpI_rng ze.start zf.start
  refine H_drawB (m:=[yy,yy,yy,yy,yy,yy]) (Xs:=[_,_,_,_,_,_]) (fuel:=20) (l:=#[false,false,false,false,false,false,false,false,false,false,false,false,false,false,false,false,false,false,false,false]) mixed rfl rfl rfl ?_
  refine HA_take (i:=0) bp rfl rfl rfl rfl (by kernel_rfl) rfl (V_fieldAddr (r:=15) rfl Try.underlying40 rfl Try.sizeOf3 rfl) (fun _ hA => hA) ?_
  refine HA_take (i:=1) bp rfl rfl rfl rfl (by kernel_rfl) rfl (V_load1 (i:=1) (j:=15) rfl Try.isAgg3 rfl (.loc _ _ _) rfl rfl) (fun _ hA => hA) ?_
  refine HA_take (i:=2) bp rfl rfl rfl rfl (by kernel_rfl) rfl (V_fieldAddr (r:=15) rfl Try.underlying40 rfl Try.sizeOf3 rfl) (fun _ hA => hA) ?_
  refine HA_take (i:=3) bp rfl rfl rfl rfl (by kernel_rfl) rfl (V_load1 (i:=0) (j:=15) rfl Try.isAgg3 rfl (.loc _ _ _) rfl rfl) (fun _ hA => hA) ?_
  refine HA_take (i:=5) bp rfl rfl rfl rfl (by kernel_rfl) rfl (V_fieldAddr (r:=16) rfl Try.underlying40 rfl Try.sizeOf4 rfl) (fun _ hA => hA) ?_
  refine HA_take (i:=6) bp rfl rfl rfl rfl (by kernel_rfl) rfl (V_load1 (i:=1) (j:=16) rfl Try.isAgg4 rfl (.loc _ _ _) rfl rfl) (fun _ hA => hA) ?_
  refine HA_take (i:=8) bp rfl rfl rfl rfl (by kernel_rfl) rfl (V_fieldAddr (r:=16) rfl Try.underlying40 rfl Try.sizeOf4 rfl) (fun _ hA => hA) ?_
  refine HA_take (i:=9) bp rfl rfl rfl rfl (by kernel_rfl) rfl (V_load1 (i:=0) (j:=16) rfl Try.isAgg4 rfl (.loc _ _ _) rfl rfl) (fun _ hA => hA) ?_
  refine HA_take (i:=12) bp rfl rfl rfl rfl (by kernel_rfl) rfl (V_fieldAddr (r:=13) rfl Try.underlying40 rfl Try.sizeOf3 rfl) (fun _ hA => hA) ?_
  refine HA_take (i:=13) bp rfl rfl rfl rfl (by kernel_rfl) rfl (V_load1 (i:=1) (j:=13) rfl Try.isAgg3 rfl (.loc _ _ _) rfl rfl) (fun _ hA => hA) ?_
  refine HA_take (i:=14) bp rfl rfl rfl rfl (by kernel_rfl) rfl (V_fieldAddr (r:=13) rfl Try.underlying40 rfl Try.sizeOf3 rfl) (fun _ hA => hA) ?_
  refine HA_take (i:=15) bp rfl rfl rfl rfl (by kernel_rfl) rfl (V_load1 (i:=0) (j:=13) rfl Try.isAgg3 rfl (.loc _ _ _) rfl rfl) (fun _ hA => hA) ?_
  refine HA_loud1 (i:=4) (by kernel_rfl) rfl ?_
  refine HO_call (first:=[]) (capt:=[]) (is:=[]) (R:=[_,_,_,_,_,_]) rfl rfl rfl rfl rfl Try.call47 rfl (cmpI_spec _ _) ?_
  intro y20 hy20
  clear y20 hy20
  refine HA_back rfl (fun _ hA => hA) ?_
  refine HA_loud1 (i:=7) (by kernel_rfl) rfl ?_
  refine HO_call (first:=[]) (capt:=[]) (is:=[]) (R:=[_,_,_,_,_,_]) rfl rfl rfl rfl rfl Try.call48 rfl (rank_spec _) ?_
  intro y23 hy23
  clear y23 hy23
  refine HA_back rfl (fun _ hA => hA) ?_
  refine HA_loud1 (i:=10) (by kernel_rfl) rfl ?_
  refine HO_call (first:=[]) (capt:=[]) (is:=[]) (R:=[_,_,_,_,_,_]) rfl rfl rfl rfl rfl Try.call48 rfl (rank_spec _) ?_
  intro y26 hy26
  clear y26 hy26
  refine HA_back rfl (fun _ hA => hA) ?_
  refine HA_take (i:=11) bp rfl rfl rfl rfl (by kernel_rfl) rfl (V_bin rfl rfl (bin_sub ?_ ?_)) (fun _ hA => hA) ?_
  ·omega
  ·omega
  refine HA_loud1 (i:=16) (by kernel_rfl) rfl ?_
  refine HO_call (first:=[]) (capt:=[]) (is:=[]) (R:=[_,_,_,_,_,_]) rfl rfl rfl rfl rfl Try.call47 rfl (cmpI_spec _ _) ?_
  intro y32 hy32
  clear y32 hy32
  refine HA_back rfl (fun _ hA => hA) ?_
  refine HA_loud1 (i:=17) (by kernel_rfl) rfl ?_
  refine HO_buildSlice (kd:=kInt) (xo:=[_,_,_]) (vs:=[_,_,_]) (cs:=[_,_,_]) (xs:=[_,_,_]) rfl rfl rfl rfl Try.underlying29 elt3 rfl rfl rfl (by decide) (by decide) (by simp [Value.cells]) rfl (by intro ok w _;exact ⟨_,_,rfl,⟨rfl,by first | omega | (constructor <;> omega)⟩,⟨_,_,rfl,⟨rfl,by first | omega | (constructor <;> omega)⟩,⟨_,_,rfl,⟨rfl,by first | omega | (constructor <;> omega)⟩,rfl⟩⟩⟩) ?_
  intro g33
  refine HA_back rfl (kp [nn,yy,yy,yy,yy,yy,yy] [_,_,_,_,_,_] rfl) ?_
  refine HA_loud1 (i:=18) (by kernel_rfl) rfl ?_
  refine HO_call (first:=[]) (capt:=[]) (is:=[0]) (R:=[_,_,_,_,_,_]) rfl rfl rfl rfl rfl Try.call46 rfl (Spec.lend (pre1:=[]) (pre2:=[]) (first_spec _ _ _) rfl (fun _ _ ha => nomatch ha)) ?_
  intro y34 hy34
  clear y34 hy34
  refine HA_back rfl (kp [nn,yy,yy,yy,yy,yy,yy] [_,_,_,_,_,_] rfl) ?_
  refine HA_take (i:=19) bp rfl rfl rfl rfl (by kernel_rfl) rfl (V_assign rfl) (kp [nn,yy,yy,yy,yy,yy,yy] [_,_,_,_,_,_] rfl) ?_
  refine HA_done (by kernel_rfl) ?_
  refine H_env (ρ':=[(5,_)]) ⟨rfl,trivial⟩ ?_
  refine H_world (kp [nn,nn,nn,nn,nn,yy,yy] [_,_] rfl) ?_
  refine H_ret1 Try.results45 (.tmp rfl) (fun w hA => ⟨(),congrArg Ending.returned ?_,?_,?_⟩)
  ·(exact congrArg (Value.int .i64) (by rw [Hist.opAt_of hze,Hist.opAt_of hzf];rfl))
  ·trivial
  ·exact hA.keep (m:=[yy,nn]) (Y:=[_]) rfl
 ·refine HO_alloc (cs:=[_,_,_,_,_,_,_,_,_,_,_,_,_,_,_,_,_]) rfl rfl Try.zeroValue40 rfl ?_
  intro g7
  refine HA_back rfl (kp [nn,yy,yy,yy,yy,yy,yy] [_,_,_,_,_,_] rfl) ?_
  refine HA_loud1 (i:=8) (by kernel_rfl) rfl ?_
  refine HO_alloc (cs:=[_,_,_,_,_,_,_,_,_,_,_,_,_,_,_,_,_]) rfl rfl Try.zeroValue40 rfl ?_
  intro g6
  refine HA_back rfl (kp [nn,nn,yy,yy,yy,yy,yy,yy] [_,_,_,_,_,_] rfl) ?_
  refine HA_loud1 (i:=10) (by kernel_rfl) rfl ?_
  refine HO_store (i:=0) (j:=0) (us:=[]) (old:=[_,_,_,_,_,_,_,_,_,_,_,_,_,_,_,_,_]) (ts:=[]) (cs:=[_,_,_,_,_,_,_,_,_,_,_,_,_,_,_,_,_]) (R:=[_,_,_,_,_,_,_]) (new:=[_,_,_,_,_,_,_,_,_,_,_,_,_,_,_,_,_]) rfl rfl rfl Try.sizeOf40 rfl (by simp [Value.oneCell']) rfl rfl rfl rfl rfl rfl ?_
  refine HA_back rfl (kp [nn,nn,yy,yy,yy,yy,yy,yy] [_,_,_,_,_,_] rfl) ?_
  refine HA_loud1 (i:=11) (by kernel_rfl) rfl ?_
  refine HO_store (i:=1) (j:=0) (us:=[]) (old:=[_,_,_,_,_,_,_,_,_,_,_,_,_,_,_,_,_]) (ts:=[]) (cs:=[_,_,_,_,_,_,_,_,_,_,_,_,_,_,_,_,_]) (R:=[_,_,_,_,_,_,_]) (new:=[_,_,_,_,_,_,_,_,_,_,_,_,_,_,_,_,_]) rfl rfl rfl Try.sizeOf40 rfl (by simp [Value.oneCell']) rfl rfl rfl rfl rfl rfl ?_
  refine HA_back rfl (kp [nn,nn,yy,yy,yy,yy,yy,yy] [_,_,_,_,_,_] rfl) ?_
  refine HA_done (by kernel_rfl) ?_
  refine H_env (ρ':=[(6,_),(7,_)]) ⟨rfl,rfl,trivial⟩ ?_
  refine H_world (kp [yy,yy,nn,yy,nn,yy,yy,yy] [_,_,_,_,_,_] rfl) ?_
  refine H_seq ?_
  have r1:=Hist.rk01 ze.read
  have r2:=Hist.rk01 zf.read
  have q1:=Hist.cmpI_rng ze.at_ zf.at_
  have q2:=Hist.cmpI_rng ze.start zf.start
  refine H_drawB (m:=[yy,yy,yy,yy,yy,yy]) (Xs:=[_,_,_,_,_,_]) (fuel:=20) (l:=#[false,false,false,false,false,false,false,false,false,false,false,false,false,false,false,false,false,false,false,false]) mixed rfl rfl rfl ?_
  refine HA_take (i:=0) bp rfl rfl rfl rfl (by kernel_rfl) rfl (V_fieldAddr (r:=15) rfl Try.underlying40 rfl Try.sizeOf3 rfl) (fun _ hA => hA) ?_
  refine HA_take (i:=1) bp rfl rfl rfl rfl (by kernel_rfl) rfl (V_load1 (i:=1) (j:=15) rfl Try.isAgg3 rfl (.loc _ _ _) rfl rfl) (fun _ hA => hA) ?_
  refine HA_take (i:=2) bp rfl rfl rfl rfl (by kernel_rfl) rfl (V_fieldAddr (r:=15) rfl Try.underlying40 rfl Try.sizeOf3 rfl) (fun _ hA => hA) ?_
  refine HA_take (i:=3) bp rfl rfl rfl rfl (by kernel_rfl) rfl (V_load1 (i:=0) (j:=15) rfl Try.isAgg3 rfl (.loc _ _ _) rfl rfl) (fun _ hA => hA) ?_
  refine HA_take (i:=5) bp rfl rfl rfl rfl (by kernel_rfl) rfl (V_fieldAddr (r:=16) rfl Try.underlying40 rfl Try.sizeOf4 rfl) (fun _ hA => hA) ?_
  refine HA_take (i:=6) bp rfl rfl rfl rfl (by kernel_rfl) rfl (V_load1 (i:=1) (j:=16) rfl Try.isAgg4 rfl (.loc _ _ _) rfl rfl) (fun _ hA => hA) ?_
  refine HA_take (i:=8) bp rfl rfl rfl rfl (by kernel_rfl) rfl (V_fieldAddr (r:=16) rfl Try.underlying40 rfl Try.sizeOf4 rfl) (fun _ hA => hA) ?_
  refine HA_take (i:=9) bp rfl rfl rfl rfl (by kernel_rfl) rfl (V_load1 (i:=0) (j:=16) rfl Try.isAgg4 rfl (.loc _ _ _) rfl rfl) (fun _ hA => hA) ?_
  refine HA_take (i:=12) bp rfl rfl rfl rfl (by kernel_rfl) rfl (V_fieldAddr (r:=13) rfl Try.underlying40 rfl Try.sizeOf3 rfl) (fun _ hA => hA) ?_
  refine HA_take (i:=13) bp rfl rfl rfl rfl (by kernel_rfl) rfl (V_load1 (i:=1) (j:=13) rfl Try.isAgg3 rfl (.loc _ _ _) rfl rfl) (fun _ hA => hA) ?_
  refine HA_take (i:=14) bp rfl rfl rfl rfl (by kernel_rfl) rfl (V_fieldAddr (r:=13) rfl Try.underlying40 rfl Try.sizeOf3 rfl) (fun _ hA => hA) ?_
  refine HA_take (i:=15) bp rfl rfl rfl rfl (by kernel_rfl) rfl (V_load1 (i:=0) (j:=13) rfl Try.isAgg3 rfl (.loc _ _ _) rfl rfl) (fun _ hA => hA) ?_
  refine HA_loud1 (i:=4) (by kernel_rfl) rfl ?_
  refine HO_call (first:=[]) (capt:=[]) (is:=[]) (R:=[_,_,_,_,_,_]) rfl rfl rfl rfl rfl Try.call47 rfl (cmpI_spec _ _) ?_
  intro y20 hy20
  clear y20 hy20
  refine HA_back rfl (fun _ hA => hA) ?_
  refine HA_loud1 (i:=7) (by kernel_rfl) rfl ?_
  refine HO_call (first:=[]) (capt:=[]) (is:=[]) (R:=[_,_,_,_,_,_]) rfl rfl rfl rfl rfl Try.call48 rfl (rank_spec _) ?_
  intro y23 hy23
  clear y23 hy23
  refine HA_back rfl (fun _ hA => hA) ?_
  refine HA_loud1 (i:=10) (by kernel_rfl) rfl ?_
  refine HO_call (first:=[]) (capt:=[]) (is:=[]) (R:=[_,_,_,_,_,_]) rfl rfl rfl rfl rfl Try.call48 rfl (rank_spec _) ?_
  intro y26 hy26
  clear y26 hy26
  refine HA_back rfl (fun _ hA => hA) ?_
  refine HA_take (i:=11) bp rfl rfl rfl rfl (by kernel_rfl) rfl (V_bin rfl rfl (bin_sub ?_ ?_)) (fun _ hA => hA) ?_
  ·omega
  ·omega
  refine HA_loud1 (i:=16) (by kernel_rfl) rfl ?_
  refine HO_call (first:=[]) (capt:=[]) (is:=[]) (R:=[_,_,_,_,_,_]) rfl rfl rfl rfl rfl Try.call47 rfl (cmpI_spec _ _) ?_
  intro y32 hy32
  clear y32 hy32
  refine HA_back rfl (fun _ hA => hA) ?_
  refine HA_loud1 (i:=17) (by kernel_rfl) rfl ?_
  refine HO_buildSlice (kd:=kInt) (xo:=[_,_,_]) (vs:=[_,_,_]) (cs:=[_,_,_]) (xs:=[_,_,_]) rfl rfl rfl rfl Try.underlying29 elt3 rfl rfl rfl (by decide) (by decide) (by simp [Value.cells]) rfl (by intro ok w _;exact ⟨_,_,rfl,⟨rfl,by first | omega | (constructor <;> omega)⟩,⟨_,_,rfl,⟨rfl,by first | omega | (constructor <;> omega)⟩,⟨_,_,rfl,⟨rfl,by first | omega | (constructor <;> omega)⟩,rfl⟩⟩⟩) ?_
  intro g33
  refine HA_back rfl (kp [nn,yy,yy,yy,yy,yy,yy] [_,_,_,_,_,_] rfl) ?_
  refine HA_loud1 (i:=18) (by kernel_rfl) rfl ?_
  refine HO_call (first:=[]) (capt:=[]) (is:=[0]) (R:=[_,_,_,_,_,_]) rfl rfl rfl rfl rfl Try.call46 rfl (Spec.lend (pre1:=[]) (pre2:=[]) (first_spec _ _ _) rfl (fun _ _ ha => nomatch ha)) ?_
  intro y34 hy34
  clear y34 hy34
  refine HA_back rfl (kp [nn,yy,yy,yy,yy,yy,yy] [_,_,_,_,_,_] rfl) ?_
  refine HA_take (i:=19) bp rfl rfl rfl rfl (by kernel_rfl) rfl (V_assign rfl) (kp [nn,yy,yy,yy,yy,yy,yy] [_,_,_,_,_,_] rfl) ?_
  refine HA_done (by kernel_rfl) ?_
  refine H_env (ρ':=[(5,_)]) ⟨rfl,trivial⟩ ?_
  refine H_world (kp [nn,nn,nn,nn,nn,yy,yy] [_,_] rfl) ?_
  refine H_ret1 Try.results45 (.tmp rfl) (fun w hA => ⟨(),congrArg Ending.returned ?_,?_,?_⟩)
  ·(exact congrArg (Value.int .i64) (by rw [Hist.opAt_of hze,Hist.opAt_of hzf];rfl))
  ·trivial
  ·exact hA.keep (m:=[yy,nn]) (Y:=[_]) rfl
theorem swapr_spec (xs : List Int) (ar : Option Addr) (n c : Nat) (p q r : Nat) (fv : Value) (hn : xs.length = n) (hl : n≤10000) (hd : p + r≤q ∨ q + r≤p) (ha : p + r≤n) (hb : q + r≤n) : Spec Try.prog 117 #[.slice ar (n) c,.int .i64 ((p : Int)),.int .i64 ((q : Int)),.int .i64 ((r : Int)),fv] [.own 3 kInt ar c (xs)] (β:=List Int) (fun y => .tuple #[]) (fun y => Srt.Sw xs y p q r) (fun y => [.own 3 kInt ar c (y)]):=by
 refine Spec.enter (vs:=[_,_,_,_,_]) Try.func117 rfl Try.ntmps117 rfl (Nat.le_of_ble_eq_true rfl) (fun w0 ok0 => ?_)
 generalize hM0 : blks _ = M0
 refine H_seq ?_
 refine H_region (l:=[_]) rfl ?_
 refine HO_assign rfl rfl rfl ?_
 refine HO_nil ?_
 refine H_env (ρ':=[(10,_),(0,_),(1,_),(2,_),(3,_)]) ⟨rfl,rfl,rfl,rfl,rfl,trivial⟩ ?_
 refine H_block ?_
 refine H_loop (σ:=List Int × Nat) (fun s => Srt.Sw xs s.1 p q s.2∧s.2≤r) (fun s => [(0,.slice ar (n) c),(1,.int .i64 ((p : Int))),(2,.int .i64 ((q : Int))),(3,.int .i64 ((r : Int))),(10,.int .i64 ((s.2 : Int)))]) (fun s => Asn w0 ok0 M0 [.own 3 kInt ar c (s.1)]) (fun s => r - s.2) ⟨xs,0⟩ ?_ ?_ ?_ ?_
 ·exact ⟨Srt.Sw.zero,Nat.zero_le _⟩
 ·exact ⟨rfl,rfl,rfl,rfl,rfl,trivial⟩
 ·intro w hA
  exact hA.only (is:=[0]) (Z:=[]) rfl
 ·rintro ⟨zs,i⟩ hI
  (try dsimp only at hI ⊢)
  refine H_seq ?_
  refine H_seq ?_
  refine H_region (l:=[_,_,_]) rfl ?_
  iterate 2 refine HO_move rfl rfl rfl ?_
  refine HO_bin rfl rfl rfl rfl bin_lss ?_
  refine HO_nil ?_
  refine H_env (ρ':=[(13,_),(0,_),(1,_),(2,_),(3,_),(10,_)]) ⟨rfl,rfl,rfl,rfl,rfl,rfl,trivial⟩ ?_
  refine H_cond rfl ?_ ?_
  ·intro h13
   replace h13:=dT h13
   refine H_skip ?_
   refine H_seq ?_
   refine H_block ?_
   have hlen:=hI.1.1
   obtain ⟨u,hu⟩:=Srt.at_lt (xs:=zs) (k:=p + i) (by omega)
   obtain ⟨v,hv⟩:=Srt.at_lt (xs:=zs) (k:=q + i) (by omega)
   refine H_ownAll (i:=0) (J:=fun z => -9223372036854775808≤z∧z≤9223372036854775807) rfl (fun _ _ _ _ h => h.2) (fun hall => ?_)
   refine H_ownAddr (i:=0) rfl (by omega) (fun g0 hg0 => ?_)
   rw [hg0]
   refine H_drawB (m:=[nn]) (Xs:=[]) (fuel:=24) (l:=#[false,false,false,false,false,false,false,false,false,false,false,false,false,false,false,false,false,false,false,false,false,false,false,false]) mixed rfl rfl rfl ?_
   refine HA_take (i:=0) bp rfl rfl rfl rfl (by kernel_rfl) rfl (V_move rfl) (kp [nn] [] rfl) ?_
   refine HA_take (i:=1) bp rfl rfl rfl rfl (by kernel_rfl) rfl (V_move rfl) (kp [nn] [] rfl) ?_
   refine HA_take (i:=2) bp rfl rfl rfl rfl (by kernel_rfl) rfl (V_move rfl) (kp [nn] [] rfl) ?_
   refine HA_take (i:=3) bp rfl rfl rfl rfl (by kernel_rfl) rfl (V_bin rfl rfl (bin_add ?_ ?_)) (kp [nn] [] rfl) ?_
   ·omega
   ·omega
   refine HA_take (i:=4) bp rfl rfl rfl rfl (by kernel_rfl) rfl (V_move rfl) (kp [nn] [] rfl) ?_
   refine HA_take (i:=5) bp rfl rfl rfl rfl (by kernel_rfl) rfl (V_move rfl) (kp [nn] [] rfl) ?_
   refine HA_take (i:=6) bp rfl rfl rfl rfl (by kernel_rfl) rfl (V_move rfl) (kp [nn] [] rfl) ?_
   refine HA_take (i:=7) bp rfl rfl rfl rfl (by kernel_rfl) rfl (V_bin rfl rfl (bin_add ?_ ?_)) (kp [nn] [] rfl) ?_
   ·omega
   ·omega
   refine HA_take (i:=8) bp rfl rfl rfl rfl (by kernel_rfl) rfl (V_move rfl) (kp [nn] [] rfl) ?_
   refine HA_take (i:=9) bp rfl rfl rfl rfl (by kernel_rfl) rfl (V_move rfl) (kp [nn] [] rfl) ?_
   refine HA_take (i:=10) bp rfl rfl rfl rfl (by kernel_rfl) rfl (V_move rfl) (kp [nn] [] rfl) ?_
   refine HA_take (i:=11) bp rfl rfl rfl rfl (by kernel_rfl) rfl (V_bin rfl rfl (bin_add ?_ ?_)) (kp [nn] [] rfl) ?_
   ·omega
   ·omega
   refine HA_take (i:=12) bp rfl rfl rfl rfl (by kernel_rfl) rfl (V_indexC (j:=q + i) rfl rfl ?_ Try.underlying29 Try.sizeOf3 ?_ ((congrArg (0 + ·) (Nat.mul_one _)).trans (Nat.zero_add _))) (kp [nn] [] rfl) ?_
   ·omega
   ·omega
   refine HA_take (i:=14) bp rfl rfl rfl rfl (by kernel_rfl) rfl (V_move rfl) (kp [nn] [] rfl) ?_
   refine HA_take (i:=15) bp rfl rfl rfl rfl (by kernel_rfl) rfl (V_move rfl) (kp [nn] [] rfl) ?_
   refine HA_take (i:=16) bp rfl rfl rfl rfl (by kernel_rfl) rfl (V_move rfl) (kp [nn] [] rfl) ?_
   refine HA_take (i:=17) bp rfl rfl rfl rfl (by kernel_rfl) rfl (V_bin rfl rfl (bin_add ?_ ?_)) (kp [nn] [] rfl) ?_
   ·omega
   ·omega
   refine HA_take (i:=18) bp rfl rfl rfl rfl (by kernel_rfl) rfl (V_indexC (j:=p + i) rfl rfl ?_ Try.underlying29 Try.sizeOf3 ?_ ((congrArg (0 + ·) (Nat.mul_one _)).trans (Nat.zero_add _))) (kp [nn] [] rfl) ?_
   ·omega
   ·omega
   refine HA_loud2 (i:=13) (j:=19) (by kernel_rfl) rfl rfl ?_ ?_
   ·refine HO_loadOwn (i:=0) (v:=.int .i64 ((v))) rfl rfl rfl Try.isAgg3 rfl rfl (Nat.mul_one _) hv (fun _ _ _ h => h.1) ?_
    refine HA_back rfl (kp [nn] [] rfl) ?_
    refine HA_loud1 (i:=19) (by kernel_rfl) rfl ?_
    refine HO_loadOwn (i:=0) (v:=.int .i64 ((u))) rfl rfl rfl Try.isAgg3 rfl rfl (Nat.mul_one _) hu (fun _ _ _ h => h.1) ?_
    refine HA_back rfl (kp [nn] [] rfl) ?_
    refine HA_take (i:=20) bp rfl rfl rfl rfl (by kernel_rfl) rfl (V_indexC (j:=p + i) rfl rfl ?_ Try.underlying29 Try.sizeOf3 ?_ ((congrArg (0 + ·) (Nat.mul_one _)).trans (Nat.zero_add _))) (kp [nn] [] rfl) ?_
    ·omega
    ·omega
    refine HA_loud1 (i:=21) (by kernel_rfl) rfl ?_
    refine HO_storeOwn (i:=0) (cs:=[_]) (R:=[]) (z':=v) rfl rfl rfl Try.sizeOf3 rfl (by simp [Value.oneCell']) rfl rfl rfl (Nat.mul_one _) ?_ (fun _ _ _ => ⟨rfl,hall _ (List.mem_of_getElem? hv)⟩) ?_
    ·omega
    refine HA_back rfl (kp [nn] [] rfl) ?_
    refine HA_take (i:=22) bp rfl rfl rfl rfl (by kernel_rfl) rfl (V_indexC (j:=q + i) rfl rfl ?_ Try.underlying29 Try.sizeOf3 ?_ ((congrArg (0 + ·) (Nat.mul_one _)).trans (Nat.zero_add _))) (kp [nn] [] rfl) ?_
    ·omega
    ·omega
    refine HA_loud1 (i:=23) (by kernel_rfl) rfl ?_
    refine HO_storeOwn (i:=0) (cs:=[_]) (R:=[]) (z':=u) rfl rfl rfl Try.sizeOf3 rfl (by simp [Value.oneCell']) rfl rfl rfl (Nat.mul_one _) ?_ (fun _ _ _ => ⟨rfl,hall _ (List.mem_of_getElem? hu)⟩) ?_
    ·(simp only [List.length_set];omega)
    refine HA_back rfl (kp [nn] [] rfl) ?_
    refine HA_done (by kernel_rfl) ?_
    refine H_env (ρ':=[(0,_),(1,_),(2,_),(3,_),(10,_)]) ⟨rfl,rfl,rfl,rfl,rfl,trivial⟩ ?_
    refine H_blk ?_
    refine H_region (l:=[_,_,_]) rfl ?_
    refine HO_move rfl rfl rfl ?_
    refine HO_bin rfl rfl rfl rfl (bin_add ?_ ?_) ?_
    ·omega
    ·omega
    refine HO_assign rfl rfl rfl ?_
    refine HO_nil ?_
    refine H_env (ρ':=[(10,_),(0,_),(1,_),(2,_),(3,_)]) ⟨rfl,rfl,rfl,rfl,rfl,trivial⟩ ?_
    refine H_inv (fun a w hf hA => ⟨⟨(zs.set (p + i) v).set (q + i) u,i + 1⟩,?_,?_,hf.sub ?_,?_⟩)
    ·exact ⟨Srt.Sw.next hI.1 hd (by omega) hu hv,(by show i + 1≤r;omega)⟩
    ·(try dsimp only);omega
    ·exact ⟨rfl,rfl,rfl,rfl,rfl,trivial⟩
    ·exact hA.only (is:=[0]) (Z:=[]) rfl
   ·refine HO_loadOwn (i:=0) (v:=.int .i64 ((u))) rfl rfl rfl Try.isAgg3 rfl rfl (Nat.mul_one _) hu (fun _ _ _ h => h.1) ?_
    refine HA_back rfl (kp [nn] [] rfl) ?_
    refine HA_loud1 (i:=13) (by kernel_rfl) rfl ?_
    refine HO_loadOwn (i:=0) (v:=.int .i64 ((v))) rfl rfl rfl Try.isAgg3 rfl rfl (Nat.mul_one _) hv (fun _ _ _ h => h.1) ?_
    refine HA_back rfl (kp [nn] [] rfl) ?_
    refine HA_take (i:=20) bp rfl rfl rfl rfl (by kernel_rfl) rfl (V_indexC (j:=p + i) rfl rfl ?_ Try.underlying29 Try.sizeOf3 ?_ ((congrArg (0 + ·) (Nat.mul_one _)).trans (Nat.zero_add _))) (kp [nn] [] rfl) ?_
    ·omega
    ·omega
    refine HA_loud1 (i:=21) (by kernel_rfl) rfl ?_
    refine HO_storeOwn (i:=0) (cs:=[_]) (R:=[]) (z':=v) rfl rfl rfl Try.sizeOf3 rfl (by simp [Value.oneCell']) rfl rfl rfl (Nat.mul_one _) ?_ (fun _ _ _ => ⟨rfl,hall _ (List.mem_of_getElem? hv)⟩) ?_
    ·omega
    refine HA_back rfl (kp [nn] [] rfl) ?_
    refine HA_take (i:=22) bp rfl rfl rfl rfl (by kernel_rfl) rfl (V_indexC (j:=q + i) rfl rfl ?_ Try.underlying29 Try.sizeOf3 ?_ ((congrArg (0 + ·) (Nat.mul_one _)).trans (Nat.zero_add _))) (kp [nn] [] rfl) ?_
    ·omega
    ·omega
    refine HA_loud1 (i:=23) (by kernel_rfl) rfl ?_
    refine HO_storeOwn (i:=0) (cs:=[_]) (R:=[]) (z':=u) rfl rfl rfl Try.sizeOf3 rfl (by simp [Value.oneCell']) rfl rfl rfl (Nat.mul_one _) ?_ (fun _ _ _ => ⟨rfl,hall _ (List.mem_of_getElem? hu)⟩) ?_
    ·(simp only [List.length_set];omega)
    refine HA_back rfl (kp [nn] [] rfl) ?_
    refine HA_done (by kernel_rfl) ?_
    refine H_env (ρ':=[(0,_),(1,_),(2,_),(3,_),(10,_)]) ⟨rfl,rfl,rfl,rfl,rfl,trivial⟩ ?_
    refine H_blk ?_
    refine H_region (l:=[_,_,_]) rfl ?_
    refine HO_move rfl rfl rfl ?_
    refine HO_bin rfl rfl rfl rfl (bin_add ?_ ?_) ?_
    ·omega
    ·omega
    refine HO_assign rfl rfl rfl ?_
    refine HO_nil ?_
    refine H_env (ρ':=[(10,_),(0,_),(1,_),(2,_),(3,_)]) ⟨rfl,rfl,rfl,rfl,rfl,trivial⟩ ?_
    refine H_inv (fun a w hf hA => ⟨⟨(zs.set (p + i) v).set (q + i) u,i + 1⟩,?_,?_,hf.sub ?_,?_⟩)
    ·exact ⟨Srt.Sw.next hI.1 hd (by omega) hu hv,(by show i + 1≤r;omega)⟩
    ·(try dsimp only);omega
    ·exact ⟨rfl,rfl,rfl,rfl,rfl,trivial⟩
    ·exact hA.only (is:=[0]) (Z:=[]) rfl
  intro h13
  replace h13:=dF h13
  refine H_exit rfl ?_
  refine H_end0 Try.results117 (fun w hA => ⟨zs,congrArg Ending.returned ?_,?_,?_⟩)
  ·rfl
  ·(obtain rfl : i = r:=by omega);exact hI.1
  ·exact hA.keep (m:=[yy]) (Y:=[_]) rfl
theorem rotc_spec (xs : List Int) (ar : Option Addr) (n c : Nat) (p m r : Nat) (fv : Value) (hn : xs.length = n) (hl : n≤10000) (hp : p < m) (hm : m < r) (hr : r≤n) : Spec Try.prog 112 #[.slice ar (n) c,.int .i64 ((p : Int)),.int .i64 ((m : Int)),.int .i64 ((r : Int)),fv] [.own 3 kInt ar c (xs)] (β:=List Int) (fun y => .tuple #[]) (fun y => Srt.Ro xs y p m r) (fun y => [.own 3 kInt ar c (y)]):=by
 refine Spec.enter (vs:=[_,_,_,_,_]) Try.func112 rfl Try.ntmps112 rfl (Nat.le_of_ble_eq_true rfl) (fun w0 ok0 => ?_)
 generalize hM0 : blks _ = M0
 refine H_seq ?_
 refine H_region (l:=[_,_,_,_]) rfl ?_
 iterate 2 refine HO_move rfl rfl rfl ?_
 refine HO_bin rfl rfl rfl rfl (bin_sub ?_ ?_) ?_
 ·omega
 ·omega
 refine HO_set (v':=.int .i64 (((m - p : Nat) : Int))) 14 rfl (by exact congrArg (Value.int .i64) (by omega)) ?_
 refine HO_assign rfl rfl rfl ?_
 refine HO_nil ?_
 refine H_env (ρ':=[(10,_),(0,_),(2,_),(3,_),(4,_)]) ⟨rfl,rfl,rfl,rfl,rfl,trivial⟩ ?_
 refine H_seq ?_
 refine H_region (l:=[_,_,_,_]) rfl ?_
 iterate 2 refine HO_move rfl rfl rfl ?_
 refine HO_bin rfl rfl rfl rfl (bin_sub ?_ ?_) ?_
 ·omega
 ·omega
 refine HO_set (v':=.int .i64 (((r - m : Nat) : Int))) 17 rfl (by exact congrArg (Value.int .i64) (by omega)) ?_
 refine HO_assign rfl rfl rfl ?_
 refine HO_nil ?_
 refine H_env (ρ':=[(11,_),(10,_),(0,_),(2,_),(4,_)]) ⟨rfl,rfl,rfl,rfl,rfl,trivial⟩ ?_
 refine H_seq ?_
 refine H_block ?_
 refine H_loop (σ:=List Int × Nat × Nat) (fun s => s.1.length = xs.length∧1≤s.2.1∧1≤s.2.2∧s.2.1≤m - p∧s.2.2≤r - m∧(∀ k : Nat,Srt.rp s.1 (m - s.2.1) m (m + s.2.2) k = Srt.rp xs p m r k)) (fun s => [(0,.slice ar (n) c),(2,.int .i64 ((m : Int))),(4,fv),(10,.int .i64 ((s.2.1 : Int))),(11,.int .i64 ((s.2.2 : Int)))]) (fun s => Asn w0 ok0 M0 [.own 3 kInt ar c (s.1)]) (fun s => s.2.1 + s.2.2) ⟨xs,m - p,r - m⟩ ?_ ?_ ?_ ?_
 ·exact ⟨rfl,by dsimp only;omega,by dsimp only;omega,Nat.le_refl _,Nat.le_refl _,fun k => by dsimp only;rw [show m - (m - p) = p by omega,show m + (r - m) = r by omega]⟩
 ·exact ⟨rfl,rfl,rfl,rfl,rfl,trivial⟩
 ·intro w hA
  exact hA.only (is:=[0]) (Z:=[]) rfl
 ·rintro ⟨zs,i,j⟩ hI
  (try dsimp only at hI ⊢)
  refine H_seq ?_
  refine H_seq ?_
  refine H_region (l:=[_,_,_]) rfl ?_
  iterate 2 refine HO_move rfl rfl rfl ?_
  refine HO_bin rfl rfl rfl rfl bin_neq ?_
  refine HO_nil ?_
  refine H_env (ρ':=[(20,_),(0,_),(2,_),(4,_),(10,_),(11,_)]) ⟨rfl,rfl,rfl,rfl,rfl,rfl,trivial⟩ ?_
  refine H_cond rfl ?_ ?_
  ·intro h20
   replace h20:=dT h20
   refine H_skip ?_
   refine H_block ?_
   refine H_seq ?_
   refine H_region (l:=[_,_,_]) rfl ?_
   iterate 2 refine HO_move rfl rfl rfl ?_
   refine HO_bin rfl rfl rfl rfl bin_gtr ?_
   refine HO_nil ?_
   refine H_env (ρ':=[(23,_),(0,_),(2,_),(4,_),(10,_),(11,_)]) ⟨rfl,rfl,rfl,rfl,rfl,rfl,trivial⟩ ?_
   refine H_cond rfl ?_ ?_
   ·intro h23
    replace h23:=dT h23
    refine H_seq ?_
    refine H_region (l:=[_,_,_,_,_,_,_,_]) rfl ?_
    iterate 3 refine HO_move rfl rfl rfl ?_
    refine HO_bin rfl rfl rfl rfl (bin_sub ?_ ?_) ?_
    ·omega
    ·omega
    refine HO_set (v':=.int .i64 (((m - i : Nat) : Int))) 27 rfl (by exact congrArg (Value.int .i64) (by omega)) ?_
    iterate 3 refine HO_move rfl rfl rfl ?_
    refine HO_call (first:=[]) (capt:=[]) (is:=[0]) (R:=[]) rfl rfl rfl rfl rfl Try.call117 rfl (swapr_spec _ _ _ _ _ _ _ _ ?_ ?_ ?_ ?_ ?_) ?_
    ·omega
    ·omega
    ·omega
    ·omega
    ·omega
    intro y31 hy31
    refine HO_nil ?_
    refine H_env (ρ':=[(0,_),(2,_),(4,_),(10,_),(11,_)]) ⟨rfl,rfl,rfl,rfl,rfl,trivial⟩ ?_
    refine H_region (l:=[_,_,_,_]) rfl ?_
    iterate 2 refine HO_move rfl rfl rfl ?_
    refine HO_bin rfl rfl rfl rfl (bin_sub ?_ ?_) ?_
    ·omega
    ·omega
    refine HO_set (v':=.int .i64 (((i - j : Nat) : Int))) 34 rfl (by exact congrArg (Value.int .i64) (by omega)) ?_
    refine HO_assign rfl rfl rfl ?_
    refine HO_nil ?_
    refine H_env (ρ':=[(10,_),(0,_),(2,_),(4,_),(11,_)]) ⟨rfl,rfl,rfl,rfl,rfl,trivial⟩ ?_
    refine H_blk ?_
    refine H_inv (fun a w hf hA => ⟨⟨y31,i - j,j⟩,?_,?_,hf.sub ?_,?_⟩)
    ·exact ⟨hy31.1.trans hI.1,by dsimp only;omega,hI.2.2.1,by dsimp only;omega,hI.2.2.2.2.1,fun k => (Srt.ro_gt hy31 (by omega) (by omega) k).trans (hI.2.2.2.2.2 k)⟩
    ·(try dsimp only);omega
    ·exact ⟨rfl,rfl,rfl,rfl,rfl,trivial⟩
    ·exact hA.only (is:=[0]) (Z:=[]) rfl
   intro h23
   replace h23:=dF h23
   refine H_seq ?_
   refine H_region (l:=[_,_,_,_,_,_,_,_,_,_,_,_]) rfl ?_
   iterate 3 refine HO_move rfl rfl rfl ?_
   refine HO_bin rfl rfl rfl rfl (bin_sub ?_ ?_) ?_
   ·omega
   ·omega
   refine HO_set (v':=.int .i64 (((m - i : Nat) : Int))) 38 rfl (by exact congrArg (Value.int .i64) (by omega)) ?_
   iterate 2 refine HO_move rfl rfl rfl ?_
   refine HO_bin rfl rfl rfl rfl (bin_add ?_ ?_) ?_
   ·omega
   ·omega
   refine HO_move rfl rfl rfl ?_
   refine HO_bin rfl rfl rfl rfl (bin_sub ?_ ?_) ?_
   ·omega
   ·omega
   refine HO_set (v':=.int .i64 (((m + j - i : Nat) : Int))) 43 rfl (by exact congrArg (Value.int .i64) (by omega)) ?_
   iterate 2 refine HO_move rfl rfl rfl ?_
   refine HO_call (first:=[]) (capt:=[]) (is:=[0]) (R:=[]) rfl rfl rfl rfl rfl Try.call117 rfl (swapr_spec _ _ _ _ _ _ _ _ ?_ ?_ ?_ ?_ ?_) ?_
   ·omega
   ·omega
   ·omega
   ·omega
   ·omega
   intro y46 hy46
   refine HO_nil ?_
   refine H_env (ρ':=[(0,_),(2,_),(4,_),(10,_),(11,_)]) ⟨rfl,rfl,rfl,rfl,rfl,trivial⟩ ?_
   refine H_region (l:=[_,_,_,_]) rfl ?_
   iterate 2 refine HO_move rfl rfl rfl ?_
   refine HO_bin rfl rfl rfl rfl (bin_sub ?_ ?_) ?_
   ·omega
   ·omega
   refine HO_set (v':=.int .i64 (((j - i : Nat) : Int))) 49 rfl (by exact congrArg (Value.int .i64) (by omega)) ?_
   refine HO_assign rfl rfl rfl ?_
   refine HO_nil ?_
   refine H_env (ρ':=[(11,_),(0,_),(2,_),(4,_),(10,_)]) ⟨rfl,rfl,rfl,rfl,rfl,trivial⟩ ?_
   refine H_blk ?_
   refine H_inv (fun a w hf hA => ⟨⟨y46,i,j - i⟩,?_,?_,hf.sub ?_,?_⟩)
   ·exact ⟨hy46.1.trans hI.1,hI.2.1,by dsimp only;omega,hI.2.2.2.1,by dsimp only;omega,fun k => (Srt.ro_lt hy46 (by omega) (by omega) k).trans (hI.2.2.2.2.2 k)⟩
   ·(try dsimp only);omega
   ·exact ⟨rfl,rfl,rfl,rfl,rfl,trivial⟩
   ·exact hA.only (is:=[0]) (Z:=[]) rfl
  intro h20
  replace h20:=dF h20
  refine H_exit rfl ?_
  obtain rfl : i = j:=by omega
  refine H_region (l:=[_,_,_,_,_,_,_,_]) rfl ?_
  iterate 3 refine HO_move rfl rfl rfl ?_
  refine HO_bin rfl rfl rfl rfl (bin_sub ?_ ?_) ?_
  ·omega
  ·omega
  refine HO_set (v':=.int .i64 (((m - i : Nat) : Int))) 53 rfl (by exact congrArg (Value.int .i64) (by omega)) ?_
  iterate 3 refine HO_move rfl rfl rfl ?_
  refine HO_call (first:=[]) (capt:=[]) (is:=[0]) (R:=[]) rfl rfl rfl rfl rfl Try.call117 rfl (swapr_spec _ _ _ _ _ _ _ _ ?_ ?_ ?_ ?_ ?_) ?_
  ·omega
  ·omega
  ·omega
  ·omega
  ·omega
  intro y57 hy57
  refine HO_nil ?_
  refine H_env (ρ':=[]) trivial ?_
  refine H_end0 Try.results112 (fun w hA => ⟨y57,congrArg Ending.returned ?_,?_,?_⟩)
  ·rfl
  ·exact ⟨hy57.1.trans hI.1,fun k => (Srt.ro_eq hy57 (by omega) k).trans (hI.2.2.2.2.2 k)⟩
  ·exact hA.keep (m:=[yy]) (Y:=[_]) rfl
set_option maxHeartbeats 0 in
theorem insc_spec (ops : List Op) (a9 : Option Addr) (c9 : Nat) (gc : Nat) (xs : List Int) (ar : Option Addr) (n c : Nat) (p r : Nat) (hl : ops.length≤10000) (hn : xs.length = n) (hln : n≤10000) (hix : Hist.Idx ops xs) (hp : p≤r) (hr : r≤n) (hri : Srt.Ri xs p p r) : Spec Try.prog 95 #[.slice ar (n) c,.int .i64 ((p : Int)),.int .i64 ((r : Int)),.func (.func 45) #[] #[.pointer (some ⟨gc,0,none⟩)]] [.own 3 kInt ar c (xs),.loc gc [.slice a9 (ops.length) c9] 23,.dat kOp.sl (ops) [.slice a9 (ops.length) c9]] (β:=List Int) (fun y => .tuple #[]) (fun y => Srt.Sg p r xs y∧Srt.So (Hist.so ops) y p r) (fun y => [.own 3 kInt ar c (y),.loc gc [.slice a9 (ops.length) c9] 23]):=by
 refine Spec.enter (vs:=[_,_,_,_]) Try.func95 rfl Try.ntmps95 rfl (Nat.le_of_ble_eq_true rfl) (fun w0 ok0 => ?_)
 generalize hM0 : blks _ = M0
 refine H_len_le (i:=2) rfl ?_
 intro hlen2
 refine H_seq ?_
 refine H_region (l:=[_,_,_]) rfl ?_
 refine HO_move rfl rfl rfl ?_
 refine HO_bin rfl rfl rfl rfl (bin_add ?_ ?_) ?_
 ·omega
 ·omega
 refine HO_assign rfl rfl rfl ?_
 refine HO_nil ?_
 refine H_env (ρ':=[(8,_),(0,_),(1,_),(2,_),(3,_)]) ⟨rfl,rfl,rfl,rfl,rfl,trivial⟩ ?_
 refine H_block ?_
 refine H_loop (σ:=List Int × Nat) (fun s => p + 1≤s.2∧Srt.Sg p r xs s.1∧Srt.So (Hist.so ops) s.1 p s.2∧Srt.Ri s.1 p s.2 r) (fun s => [(0,.slice ar (n) c),(1,.int .i64 ((p : Int))),(2,.int .i64 ((r : Int))),(3,.func (.func 45) #[] #[.pointer (some ⟨gc,0,none⟩)]),(8,.int .i64 ((s.2 : Int)))]) (fun s => Asn w0 ok0 M0 [.own 3 kInt ar c (s.1),.loc gc [.slice a9 (ops.length) c9] 23,.dat kOp.sl (ops) [.slice a9 (ops.length) c9]]) (fun s => r - s.2) ⟨xs,p + 1⟩ ?_ ?_ ?_ ?_
 ·exact ⟨Nat.le_refl _,.refl,.small (Nat.le_refl _),fun i j u v h1 h2 h3 => hri i j u v h1 h2 (by omega)⟩
 ·exact ⟨rfl,rfl,rfl,rfl,rfl,trivial⟩
 ·intro w hA
  exact hA.only (is:=[0,1,2]) (Z:=[]) rfl
 ·rintro ⟨ys,i⟩ hI
  (try dsimp only at hI ⊢)
  refine H_seq ?_
  refine H_seq ?_
  refine H_region (l:=[_,_,_]) rfl ?_
  iterate 2 refine HO_move rfl rfl rfl ?_
  refine HO_bin rfl rfl rfl rfl bin_lss ?_
  refine HO_nil ?_
  refine H_env (ρ':=[(14,_),(0,_),(1,_),(2,_),(3,_),(8,_)]) ⟨rfl,rfl,rfl,rfl,rfl,rfl,trivial⟩ ?_
  refine H_cond rfl ?_ ?_
  ·intro h14
   replace h14:=dT h14
   refine H_skip ?_
   refine H_seq ?_
   refine H_block ?_
   refine H_seq ?_
   have hO:=hI
   have hly:=hI.2.1.1
   obtain ⟨v,hv⟩:=Srt.at_lt (xs:=ys) (k:=i) (by omega)
   refine H_region (l:=[_,_]) rfl ?_
   refine HO_move rfl rfl rfl ?_
   refine HO_assign rfl rfl rfl ?_
   refine HO_nil ?_
   refine H_env (ρ':=[(9,_),(0,_),(1,_),(2,_),(3,_),(8,_)]) ⟨rfl,rfl,rfl,rfl,rfl,rfl,trivial⟩ ?_
   refine H_block ?_
   refine H_loop (σ:=List Int × Nat) (fun s => Srt.In (Hist.so ops) ys s.1 p i s.2 v) (fun s => [(0,.slice ar (n) c),(1,.int .i64 ((p : Int))),(2,.int .i64 ((r : Int))),(3,.func (.func 45) #[] #[.pointer (some ⟨gc,0,none⟩)]),(8,.int .i64 ((i : Int))),(9,.int .i64 ((s.2 : Int)))]) (fun s => Asn w0 ok0 M0 [.own 3 kInt ar c (s.1),.loc gc [.slice a9 (ops.length) c9] 23,.dat kOp.sl (ops) [.slice a9 (ops.length) c9]]) (fun s => s.2) ⟨ys,i⟩ ?_ ?_ ?_ ?_
   ·exact .start hO.2.2.1 hO.2.2.2 (by omega) (by omega) hv
   ·exact ⟨rfl,rfl,rfl,rfl,rfl,rfl,trivial⟩
   ·intro w hA
    exact hA.only (is:=[0,1,2]) (Z:=[]) rfl
   ·rintro ⟨zs,j⟩ hI
    (try dsimp only at hI ⊢)
    refine H_seq ?_
    refine H_seq ?_
    have hlz:=hI.sg.1
    have hja:=hI.aj
    have hji:=hI.ji
    have hixz:=(hix.sg hO.2.1).sg hI.sg
    refine H_ownAddr (i:=0) rfl (by omega) (fun g0 hg0 => ?_)
    rw [hg0]
    refine H_drawB (m:=[yy,nn,yy]) (Xs:=[_,_]) (fuel:=17) (l:=#[false,false,false,false,false,false,false,false,false,false,false,false,false,false,false,false,false]) mixed rfl rfl rfl ?_
    refine HA_take (i:=0) bp rfl rfl rfl rfl (by kernel_rfl) rfl (V_move rfl) (kp [yy,nn,yy] [_,_] rfl) ?_
    refine HA_take (i:=1) bp rfl rfl rfl rfl (by kernel_rfl) rfl (V_move rfl) (kp [yy,nn,yy] [_,_] rfl) ?_
    refine HA_take (i:=2) bp rfl rfl rfl rfl (by kernel_rfl) rfl (V_bin rfl rfl bin_gtr) (kp [yy,nn,yy] [_,_] rfl) ?_
    refine HA_take (i:=3) bp rfl rfl rfl rfl (by kernel_rfl) rfl (V_move rfl) (kp [yy,nn,yy] [_,_] rfl) ?_
    refine HA_split (d:=21) rfl ?_ ?_
    ·intro h21
     replace h21:=dT h21
     obtain ⟨l,rfl⟩ : ∃ l,j = l + 1:=⟨j - 1,by omega⟩
     obtain ⟨u,hu⟩:=Srt.at_lt (xs:=zs) (k:=l) (by omega)
     refine HA_take (i:=4) bp rfl rfl rfl rfl (by kernel_rfl) rfl (V_move rfl) (kp [yy,nn,yy] [_,_] rfl) ?_
     refine HA_take (i:=5) bp rfl rfl rfl rfl (by kernel_rfl) rfl (V_move rfl) (kp [yy,nn,yy] [_,_] rfl) ?_
     refine HA_take (i:=6) bp rfl rfl rfl rfl (by kernel_rfl) rfl (V_move rfl) (kp [yy,nn,yy] [_,_] rfl) ?_
     refine HA_take (i:=7) bp rfl rfl rfl rfl (by kernel_rfl) rfl (V_indexC (j:=l + 1) rfl rfl ?_ Try.underlying29 Try.sizeOf3 ?_ ((congrArg (0 + ·) (Nat.mul_one _)).trans (Nat.zero_add _))) (kp [yy,nn,yy] [_,_] rfl) ?_
     ·omega
     ·omega
     refine HA_take (i:=8) bp rfl rfl rfl rfl (by kernel_rfl) rfl (V_loadOwn (i:=0) (v:=.int .i64 ((v))) rfl Try.isAgg3 rfl rfl (Nat.mul_one _) hI.at_ (fun _ _ _ h => h.1)) (kp [yy,nn,yy] [_,_] rfl) ?_
     refine HA_take (i:=9) bp rfl rfl rfl rfl (by kernel_rfl) rfl (V_move rfl) (kp [yy,nn,yy] [_,_] rfl) ?_
     refine HA_take (i:=10) bp rfl rfl rfl rfl (by kernel_rfl) rfl (V_move rfl) (kp [yy,nn,yy] [_,_] rfl) ?_
     refine HA_take (i:=11) bp rfl rfl rfl rfl (by kernel_rfl) rfl (V_bin rfl rfl (bin_sub ?_ ?_)) (kp [yy,nn,yy] [_,_] rfl) ?_
     ·omega
     ·omega
     refine HA_take (i:=12) bp rfl rfl rfl rfl (by kernel_rfl) rfl (V_indexC (j:=l) rfl rfl ?_ Try.underlying29 Try.sizeOf3 ?_ ((congrArg (0 + ·) (Nat.mul_one _)).trans (Nat.zero_add _))) (kp [yy,nn,yy] [_,_] rfl) ?_
     ·omega
     ·omega
     refine HA_take (i:=13) bp rfl rfl rfl rfl (by kernel_rfl) rfl (V_loadOwn (i:=0) (v:=.int .i64 ((u))) rfl Try.isAgg3 rfl rfl (Nat.mul_one _) hu (fun _ _ _ h => h.1)) (kp [yy,nn,yy] [_,_] rfl) ?_
     refine HA_loud1 (i:=14) (by kernel_rfl) rfl ?_
     refine HO_dup (i:=2) rfl rfl ?_
     refine HO_call (first:=[]) (capt:=[_]) (is:=[1,0]) (R:=[_,_]) rfl rfl rfl rfl rfl Try.call45 rfl (ord1_spec _ _ _ _ _ _ ?_ ?_ ?_) ?_
     ·exact hl
     ·exact hixz.at_ hI.at_
     ·exact hixz.at_ hu
     intro y32 hy32
     clear y32 hy32
     refine HA_back rfl (kp [nn,yy,yy] [_,_] rfl) ?_
     refine HA_take (i:=15) bp rfl rfl rfl rfl (by kernel_rfl) rfl (V_bin rfl rfl bin_lss) (kp [nn,yy,yy] [_,_] rfl) ?_
     refine HA_take (i:=16) bp rfl rfl rfl rfl (by kernel_rfl) rfl (V_pick_t rfl rfl) (kp [nn,yy,yy] [_,_] rfl) ?_
     refine HA_done (by kernel_rfl) ?_
     refine H_env (ρ':=[(34,_),(0,_),(1,_),(2,_),(3,_),(8,_),(9,_)]) ⟨rfl,rfl,rfl,rfl,rfl,rfl,rfl,trivial⟩ ?_
     refine H_cond rfl ?_ ?_
     ·intro h34
      replace h34:=dT h34
      refine H_skip ?_
      refine H_seq ?_
      refine H_block ?_
      refine H_ownAll (i:=1) (J:=fun z => -9223372036854775808≤z∧z≤9223372036854775807) rfl (fun _ _ _ _ h => h.2) (fun hall => ?_)
      refine H_drawB (m:=[yy,nn,yy]) (Xs:=[_,_]) (fuel:=18) (l:=#[false,false,false,false,false,false,false,false,false,false,false,false,false,false,false,false,false,false]) mixed rfl rfl rfl ?_
      refine HA_take (i:=0) bp rfl rfl rfl rfl (by kernel_rfl) rfl (V_move rfl) (kp [yy,nn,yy] [_,_] rfl) ?_
      refine HA_take (i:=1) bp rfl rfl rfl rfl (by kernel_rfl) rfl (V_move rfl) (kp [yy,nn,yy] [_,_] rfl) ?_
      refine HA_take (i:=2) bp rfl rfl rfl rfl (by kernel_rfl) rfl (V_move rfl) (kp [yy,nn,yy] [_,_] rfl) ?_
      refine HA_take (i:=3) bp rfl rfl rfl rfl (by kernel_rfl) rfl (V_move rfl) (kp [yy,nn,yy] [_,_] rfl) ?_
      refine HA_take (i:=4) bp rfl rfl rfl rfl (by kernel_rfl) rfl (V_bin rfl rfl (bin_sub ?_ ?_)) (kp [yy,nn,yy] [_,_] rfl) ?_
      ·omega
      ·omega
      refine HA_take (i:=5) bp rfl rfl rfl rfl (by kernel_rfl) rfl (V_move rfl) (kp [yy,nn,yy] [_,_] rfl) ?_
      refine HA_take (i:=6) bp rfl rfl rfl rfl (by kernel_rfl) rfl (V_move rfl) (kp [yy,nn,yy] [_,_] rfl) ?_
      refine HA_take (i:=7) bp rfl rfl rfl rfl (by kernel_rfl) rfl (V_bin rfl rfl (bin_sub ?_ ?_)) (kp [yy,nn,yy] [_,_] rfl) ?_
      ·omega
      ·omega
      refine HA_take (i:=8) bp rfl rfl rfl rfl (by kernel_rfl) rfl (V_indexC (j:=l) rfl rfl ?_ Try.underlying29 Try.sizeOf3 ?_ ((congrArg (0 + ·) (Nat.mul_one _)).trans (Nat.zero_add _))) (kp [yy,nn,yy] [_,_] rfl) ?_
      ·omega
      ·omega
      refine HA_take (i:=10) bp rfl rfl rfl rfl (by kernel_rfl) rfl (V_move rfl) (kp [yy,nn,yy] [_,_] rfl) ?_
      refine HA_take (i:=11) bp rfl rfl rfl rfl (by kernel_rfl) rfl (V_move rfl) (kp [yy,nn,yy] [_,_] rfl) ?_
      refine HA_take (i:=12) bp rfl rfl rfl rfl (by kernel_rfl) rfl (V_indexC (j:=l + 1) rfl rfl ?_ Try.underlying29 Try.sizeOf3 ?_ ((congrArg (0 + ·) (Nat.mul_one _)).trans (Nat.zero_add _))) (kp [yy,nn,yy] [_,_] rfl) ?_
      ·omega
      ·omega
      refine HA_loud2 (i:=9) (j:=13) (by kernel_rfl) rfl rfl ?_ ?_
      ·refine HO_loadOwn (i:=1) (v:=.int .i64 ((u))) rfl rfl rfl Try.isAgg3 rfl rfl (Nat.mul_one _) hu (fun _ _ _ h => h.1) ?_
       refine HA_back rfl (kp [yy,nn,yy] [_,_] rfl) ?_
       refine HA_loud1 (i:=13) (by kernel_rfl) rfl ?_
       refine HO_loadOwn (i:=1) (v:=.int .i64 ((v))) rfl rfl rfl Try.isAgg3 rfl rfl (Nat.mul_one _) hI.at_ (fun _ _ _ h => h.1) ?_
       refine HA_back rfl (kp [yy,nn,yy] [_,_] rfl) ?_
       refine HA_take (i:=14) bp rfl rfl rfl rfl (by kernel_rfl) rfl (V_indexC (j:=l + 1) rfl rfl ?_ Try.underlying29 Try.sizeOf3 ?_ ((congrArg (0 + ·) (Nat.mul_one _)).trans (Nat.zero_add _))) (kp [yy,nn,yy] [_,_] rfl) ?_
       ·omega
       ·omega
       refine HA_loud1 (i:=15) (by kernel_rfl) rfl ?_
       refine HO_storeOwn (i:=1) (cs:=[_]) (R:=[_,_]) (z':=u) rfl rfl rfl Try.sizeOf3 rfl (by simp [Value.oneCell']) rfl rfl rfl (Nat.mul_one _) ?_ (fun _ _ _ => ⟨rfl,hall _ (List.mem_of_getElem? hu)⟩) ?_
       ·omega
       refine HA_back rfl (kp [nn,yy,yy] [_,_] rfl) ?_
       refine HA_take (i:=16) bp rfl rfl rfl rfl (by kernel_rfl) rfl (V_indexC (j:=l) rfl rfl ?_ Try.underlying29 Try.sizeOf3 ?_ ((congrArg (0 + ·) (Nat.mul_one _)).trans (Nat.zero_add _))) (kp [nn,yy,yy] [_,_] rfl) ?_
       ·omega
       ·omega
       refine HA_loud1 (i:=17) (by kernel_rfl) rfl ?_
       refine HO_storeOwn (i:=0) (cs:=[_]) (R:=[_,_]) (z':=v) rfl rfl rfl Try.sizeOf3 rfl (by simp [Value.oneCell']) rfl rfl rfl (Nat.mul_one _) ?_ (fun _ _ _ => ⟨rfl,hall _ (List.mem_of_getElem? hI.at_)⟩) ?_
       ·(simp only [List.length_set];omega)
       refine HA_back rfl (kp [nn,yy,yy] [_,_] rfl) ?_
       refine HA_done (by kernel_rfl) ?_
       refine H_env (ρ':=[(0,_),(1,_),(2,_),(3,_),(8,_),(9,_)]) ⟨rfl,rfl,rfl,rfl,rfl,rfl,trivial⟩ ?_
       refine H_blk ?_
       refine H_region (l:=[_,_,_]) rfl ?_
       refine HO_move rfl rfl rfl ?_
       refine HO_bin rfl rfl rfl rfl (bin_sub ?_ ?_) ?_
       ·omega
       ·omega
       refine HO_set (v':=.int .i64 ((l : Int))) 36 rfl (by exact congrArg (Value.int .i64) (by omega)) ?_
       refine HO_assign rfl rfl rfl ?_
       refine HO_nil ?_
       refine H_env (ρ':=[(9,_),(0,_),(1,_),(2,_),(3,_),(8,_)]) ⟨rfl,rfl,rfl,rfl,rfl,rfl,trivial⟩ ?_
       refine H_inv (fun a w hf hA => ⟨⟨(zs.set (l + 1) u).set l v,l⟩,?_,?_,hf.sub ?_,?_⟩)
       ·exact hI.next (by omega) hu (Hist.late_neg (hI.less l u (by omega) (by omega) (by omega) hu) h34)
       ·(try dsimp only);omega
       ·exact ⟨rfl,rfl,rfl,rfl,rfl,rfl,trivial⟩
       ·exact hA.only (is:=[0,1,2]) (Z:=[]) rfl
      ·refine HO_loadOwn (i:=1) (v:=.int .i64 ((v))) rfl rfl rfl Try.isAgg3 rfl rfl (Nat.mul_one _) hI.at_ (fun _ _ _ h => h.1) ?_
       refine HA_back rfl (kp [yy,nn,yy] [_,_] rfl) ?_
       refine HA_loud1 (i:=9) (by kernel_rfl) rfl ?_
       refine HO_loadOwn (i:=1) (v:=.int .i64 ((u))) rfl rfl rfl Try.isAgg3 rfl rfl (Nat.mul_one _) hu (fun _ _ _ h => h.1) ?_
       refine HA_back rfl (kp [yy,nn,yy] [_,_] rfl) ?_
       refine HA_take (i:=14) bp rfl rfl rfl rfl (by kernel_rfl) rfl (V_indexC (j:=l + 1) rfl rfl ?_ Try.underlying29 Try.sizeOf3 ?_ ((congrArg (0 + ·) (Nat.mul_one _)).trans (Nat.zero_add _))) (kp [yy,nn,yy] [_,_] rfl) ?_
       ·omega
       ·omega
       refine HA_loud1 (i:=15) (by kernel_rfl) rfl ?_
       refine HO_storeOwn (i:=1) (cs:=[_]) (R:=[_,_]) (z':=u) rfl rfl rfl Try.sizeOf3 rfl (by simp [Value.oneCell']) rfl rfl rfl (Nat.mul_one _) ?_ (fun _ _ _ => ⟨rfl,hall _ (List.mem_of_getElem? hu)⟩) ?_
       ·omega
       refine HA_back rfl (kp [nn,yy,yy] [_,_] rfl) ?_
       refine HA_take (i:=16) bp rfl rfl rfl rfl (by kernel_rfl) rfl (V_indexC (j:=l) rfl rfl ?_ Try.underlying29 Try.sizeOf3 ?_ ((congrArg (0 + ·) (Nat.mul_one _)).trans (Nat.zero_add _))) (kp [nn,yy,yy] [_,_] rfl) ?_
       ·omega
       ·omega
       refine HA_loud1 (i:=17) (by kernel_rfl) rfl ?_
       refine HO_storeOwn (i:=0) (cs:=[_]) (R:=[_,_]) (z':=v) rfl rfl rfl Try.sizeOf3 rfl (by simp [Value.oneCell']) rfl rfl rfl (Nat.mul_one _) ?_ (fun _ _ _ => ⟨rfl,hall _ (List.mem_of_getElem? hI.at_)⟩) ?_
       ·(simp only [List.length_set];omega)
       refine HA_back rfl (kp [nn,yy,yy] [_,_] rfl) ?_
       refine HA_done (by kernel_rfl) ?_
       refine H_env (ρ':=[(0,_),(1,_),(2,_),(3,_),(8,_),(9,_)]) ⟨rfl,rfl,rfl,rfl,rfl,rfl,trivial⟩ ?_
       refine H_blk ?_
       refine H_region (l:=[_,_,_]) rfl ?_
       refine HO_move rfl rfl rfl ?_
       refine HO_bin rfl rfl rfl rfl (bin_sub ?_ ?_) ?_
       ·omega
       ·omega
       refine HO_set (v':=.int .i64 ((l : Int))) 36 rfl (by exact congrArg (Value.int .i64) (by omega)) ?_
       refine HO_assign rfl rfl rfl ?_
       refine HO_nil ?_
       refine H_env (ρ':=[(9,_),(0,_),(1,_),(2,_),(3,_),(8,_)]) ⟨rfl,rfl,rfl,rfl,rfl,rfl,trivial⟩ ?_
       refine H_inv (fun a w hf hA => ⟨⟨(zs.set (l + 1) u).set l v,l⟩,?_,?_,hf.sub ?_,?_⟩)
       ·exact hI.next (by omega) hu (Hist.late_neg (hI.less l u (by omega) (by omega) (by omega) hu) h34)
       ·(try dsimp only);omega
       ·exact ⟨rfl,rfl,rfl,rfl,rfl,rfl,trivial⟩
       ·exact hA.only (is:=[0,1,2]) (Z:=[]) rfl
     intro h34
     replace h34:=dF h34
     refine H_exit rfl ?_
     refine H_blk ?_
     refine H_region (l:=[_,_,_]) rfl ?_
     refine HO_move rfl rfl rfl ?_
     refine HO_bin rfl rfl rfl rfl (bin_add ?_ ?_) ?_
     ·omega
     ·omega
     refine HO_assign rfl rfl rfl ?_
     refine HO_nil ?_
     refine H_env (ρ':=[(8,_),(0,_),(1,_),(2,_),(3,_)]) ⟨rfl,rfl,rfl,rfl,rfl,trivial⟩ ?_
     refine H_inv (fun a w hf hA => ⟨⟨zs,i + 1⟩,?_,?_,hf.sub ?_,?_⟩)
     ·exact ⟨by dsimp only;omega,hO.2.1.trans (hI.sg.mono (Nat.le_refl _) (by omega)),by first | exact hI.stop (.inl (by omega)) | exact hI.stop (.inr ⟨l,u,rfl,hu,Srt.lt_of_not (Hist.late_pos (hI.less l u (by omega) (by omega) (by omega) hu) h34) (hI.less l u (by omega) (by omega) (by omega) hu)⟩),hO.2.2.2.next hI.sg⟩
     ·(try dsimp only);omega
     ·exact ⟨rfl,rfl,rfl,rfl,rfl,trivial⟩
     ·exact hA.only (is:=[0,0,2]) (Z:=[]) rfl
    intro h21
    replace h21:=dF h21
    refine HA_no (i:=4) bp rfl rfl rfl rfl (by kernel_rfl) rfl (kp [yy,nn,yy] [_,_] rfl) ?_
    refine HA_no (i:=5) bp rfl rfl rfl rfl (by kernel_rfl) rfl (kp [yy,nn,yy] [_,_] rfl) ?_
    refine HA_no (i:=6) bp rfl rfl rfl rfl (by kernel_rfl) rfl (kp [yy,nn,yy] [_,_] rfl) ?_
    refine HA_no (i:=7) bp rfl rfl rfl rfl (by kernel_rfl) rfl (kp [yy,nn,yy] [_,_] rfl) ?_
    refine HA_no (i:=8) bp rfl rfl rfl rfl (by kernel_rfl) rfl (kp [yy,nn,yy] [_,_] rfl) ?_
    refine HA_no (i:=9) bp rfl rfl rfl rfl (by kernel_rfl) rfl (kp [yy,nn,yy] [_,_] rfl) ?_
    refine HA_no (i:=10) bp rfl rfl rfl rfl (by kernel_rfl) rfl (kp [yy,nn,yy] [_,_] rfl) ?_
    refine HA_no (i:=11) bp rfl rfl rfl rfl (by kernel_rfl) rfl (kp [yy,nn,yy] [_,_] rfl) ?_
    refine HA_no (i:=12) bp rfl rfl rfl rfl (by kernel_rfl) rfl (kp [yy,nn,yy] [_,_] rfl) ?_
    refine HA_no (i:=13) bp rfl rfl rfl rfl (by kernel_rfl) rfl (kp [yy,nn,yy] [_,_] rfl) ?_
    refine HA_no (i:=14) bp rfl rfl rfl rfl (by kernel_rfl) rfl (kp [yy,nn,yy] [_,_] rfl) ?_
    refine HA_no (i:=15) bp rfl rfl rfl rfl (by kernel_rfl) rfl (kp [yy,nn,yy] [_,_] rfl) ?_
    refine HA_take (i:=16) bp rfl rfl rfl rfl (by kernel_rfl) rfl (V_pick_f rfl rfl) (kp [yy,nn,yy] [_,_] rfl) ?_
    refine HA_done (by kernel_rfl) ?_
    refine H_env (ρ':=[(34,_),(0,_),(1,_),(2,_),(3,_),(8,_),(9,_)]) ⟨rfl,rfl,rfl,rfl,rfl,rfl,rfl,trivial⟩ ?_
    refine H_cond rfl (fun h => nomatch h) (fun _ => ?_)
    refine H_exit rfl ?_
    refine H_blk ?_
    refine H_region (l:=[_,_,_]) rfl ?_
    refine HO_move rfl rfl rfl ?_
    refine HO_bin rfl rfl rfl rfl (bin_add ?_ ?_) ?_
    ·omega
    ·omega
    refine HO_assign rfl rfl rfl ?_
    refine HO_nil ?_
    refine H_env (ρ':=[(8,_),(0,_),(1,_),(2,_),(3,_)]) ⟨rfl,rfl,rfl,rfl,rfl,trivial⟩ ?_
    refine H_inv (fun a w hf hA => ⟨⟨zs,i + 1⟩,?_,?_,hf.sub ?_,?_⟩)
    ·exact ⟨by dsimp only;omega,hO.2.1.trans (hI.sg.mono (Nat.le_refl _) (by omega)),by first | exact hI.stop (.inl (by omega)) | exact hI.stop (.inr ⟨l,u,rfl,hu,Srt.lt_of_not (Hist.late_pos (hI.less l u (by omega) (by omega) (by omega) hu) h34) (hI.less l u (by omega) (by omega) (by omega) hu)⟩),hO.2.2.2.next hI.sg⟩
    ·(try dsimp only);omega
    ·exact ⟨rfl,rfl,rfl,rfl,rfl,trivial⟩
    ·exact hA.only (is:=[0,1,2]) (Z:=[]) rfl
  intro h14
  replace h14:=dF h14
  refine H_exit rfl ?_
  refine H_end0 Try.results95 (fun w hA => ⟨ys,congrArg Ending.returned ?_,?_,?_⟩)
  ·rfl
  ·exact ⟨hI.2.1,hI.2.2.1.le (Nat.le_refl _) (by omega)⟩
  ·exact hA.keep (m:=[yy,yy,nn]) (Y:=[_,_]) rfl
end Go.Wk
