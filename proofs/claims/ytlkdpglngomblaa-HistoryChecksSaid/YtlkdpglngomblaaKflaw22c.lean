/- Contracts of the program's functions, each proved by walking its code. -/
import Derived.Test.YtlkdpglngomblaaKflaw22
import Derived.Test.YtlkdpglngomblaaKfhist4
import Derived.Test.YtlkdpglngomblaaOrd3
set_option maxRecDepth 100000
set_option linter.unusedVariables false
set_option linter.unusedSimpArgs false
namespace Go.Wk.Flaw22c
open Go Go.RowKit Go.Proofs Go.Wk

end Go.Wk.Flaw22c
namespace Go.Wk
open Go Go.RowKit Go.Proofs Flaw22c 
set_option maxHeartbeats 0 in
theorem HistoryChecks_spec (log : List Ent) (a8 : Option Addr) (c8 : Nat) (ops : List Op) (a9 : Option Addr) (c9 : Nat)  : Spec Try.prog 13 #[.slice a8 (log.length) c8,.slice a9 (ops.length) c9] [.dat kEnt.sl (log) [.slice a8 (log.length) c8],.dat kOp.sl (ops) [.slice a9 (ops.length) c9]] (β:=Unit) (fun y => .bool (true)) (fun y => True) (fun y => []):=by
 refine Spec.enter (vs:=[_,_]) Try.func13 rfl Try.ntmps13 rfl (Nat.le_of_ble_eq_true rfl) (fun w0 ok0 => ?_)
 generalize hM0 : blks _ = M0
 have hMn:=@noM _ _ hM0 (by simp [Atom.dat,Atom.elem])
 refine H_len_le (i:=0) rfl ?_
 intro hlen0
 refine H_len_le (i:=1) rfl ?_
 intro hlen1
 refine H_seq ?_
 refine H_region (l:=[_]) rfl ?_
 refine HO_assign rfl rfl rfl ?_
 refine HO_nil ?_
 refine H_env (ρ':=[(0,_),(1,_)]) ⟨rfl,rfl,trivial⟩ ?_
 refine H_seq ?_
 refine H_seq ?_
 refine H_region (l:=[_,_,_]) rfl ?_
 iterate 2 refine HO_move rfl rfl rfl ?_
 refine HO_dup (i:=0) rfl rfl ?_
 refine HO_dup (i:=2) rfl rfl ?_
 refine HO_call (first:=[]) (capt:=[]) (is:=[0,0]) (R:=[_,_]) rfl rfl rfl rfl rfl Try.call14 rfl (heavy22_spec _ _ _ _ _ _) ?_
 intro y13 hy13
 refine HO_nil ?_
 refine H_env (ρ':=[(13,_),(0,_),(1,_)]) ⟨rfl,rfl,rfl,trivial⟩ ?_
 refine H_cond rfl ?_ ?_
 ·intro h13
  refine H_seq ?_
  refine H_region (l:=[_,_]) rfl ?_
  refine HO_call (first:=[]) (capt:=[]) (is:=[]) (R:=[_,_]) rfl rfl rfl rfl rfl Try.call15 rfl lives22_spec ?_
  intro y14 hy14
  clear y14 hy14
  refine HO_assign rfl rfl rfl ?_
  refine HO_nil ?_
  refine H_env (ρ':=[(4,_)]) ⟨rfl,trivial⟩ ?_
  refine H_world (kp [nn,nn] [] rfl) ?_
  refine H_ret1 Try.results13 (.tmp rfl) (fun w hA => ⟨(),congrArg Ending.returned ?_,?_,?_⟩)
  ·(exact congrArg Value.bool (by first | rfl | assumption | simp_all))
  ·trivial
  ·exact hA.keep (m:=[]) (Y:=[]) rfl
 intro h13
 refine H_skip ?_
 refine H_seq ?_
 have hln:=hy13 h13
 refine H_region (l:=[_,_,_]) rfl ?_
 refine HO_move rfl rfl rfl ?_
 refine HO_dup (i:=1) rfl rfl ?_
 refine HO_call (first:=[]) (capt:=[]) (is:=[0]) (R:=[_,_]) rfl rfl rfl rfl rfl Try.call35 rfl (plain22_spec _ _ _ ?_) ?_
 ·omega
 intro y16 hy16
 refine HO_assign rfl rfl rfl ?_
 refine HO_nil ?_
 refine H_env (ρ':=[(5,_),(0,_),(1,_)]) ⟨rfl,rfl,rfl,trivial⟩ ?_
 refine H_seq ?_
 refine H_region (l:=[_,_,_,_,_,_,_,_]) rfl ?_
 iterate 2 refine HO_move rfl rfl rfl ?_
 refine HO_dup (i:=1) rfl rfl ?_
 refine HO_dup (i:=3) rfl rfl ?_
 refine HO_call (first:=[]) (capt:=[]) (is:=[0,0]) (R:=[_,_,_]) rfl rfl rfl rfl rfl Try.call16 rfl (check_spec _ _ _ _ _ _ ?_) ?_
 ·omega
 intro y20 hy20
 clear y20 hy20
 refine HO_move rfl rfl rfl ?_
 refine HO_extract (vs:=[_,_]) rfl rfl rfl rfl ?_
 refine HO_extract (vs:=[_,_]) rfl rfl rfl rfl ?_
 iterate 2 refine HO_assign rfl rfl rfl ?_
 refine HO_nil ?_
 refine H_env (ρ':=[(7,_),(6,_),(5,_),(0,_),(1,_)]) ⟨rfl,rfl,rfl,rfl,rfl,trivial⟩ ?_
 refine H_seq ?_
 refine H_region (l:=[_,_,_,_,_,_,_,_]) rfl ?_
 iterate 2 refine HO_move rfl rfl rfl ?_
 refine HO_dup (i:=1) rfl rfl ?_
 refine HO_dup (i:=1) rfl rfl ?_
 refine HO_call (first:=[]) (capt:=[]) (is:=[0,0]) (R:=[_,_,_]) rfl rfl rfl rfl rfl Try.call36 rfl (rcheck_spec _ _ _ _ _ _ ?_) ?_
 ·omega
 intro y26 hy26
 clear y26 hy26
 refine HO_move rfl rfl rfl ?_
 refine HO_extract (vs:=[_,_]) rfl rfl rfl rfl ?_
 refine HO_extract (vs:=[_,_]) rfl rfl rfl rfl ?_
 iterate 2 refine HO_assign rfl rfl rfl ?_
 refine HO_nil ?_
 refine H_env (ρ':=[(9,_),(8,_),(7,_),(6,_),(5,_),(1,_)]) ⟨rfl,rfl,rfl,rfl,rfl,rfl,trivial⟩ ?_
 refine H_world (kp [yy,nn,yy] [_,_] rfl) ?_
 refine H_seq ?_
 refine H_seq ?_
 refine H_region (l:=[_,_,_]) rfl ?_
 refine HO_move rfl rfl rfl ?_
 refine HO_bi rfl rfl rfl (bi_len_sl Try.underlying23) ?_
 refine HO_move rfl rfl rfl ?_
 refine HO_nil ?_
 refine H_env (ρ':=[(31,_),(30,_),(9,_),(8,_),(7,_),(6,_),(5,_),(1,_)]) ⟨rfl,rfl,rfl,rfl,rfl,rfl,rfl,rfl,trivial⟩ ?_
 refine H_block ?_
 refine H_loop (σ:=Nat) (fun s => s≤ops.length) (fun s => [(1,.slice a9 (ops.length) c9),(5,.slice y16.1 (ops.length) y16.2),(6,.int .i64 ((Hist.check log ops).1)),(7,.int .i64 ((Hist.check log ops).2)),(8,.int .i64 ((Hist.check log ops).1)),(9,.int .i64 ((Hist.check log ops).2)),(30,.int .i64 ((ops.length : Int))),(31,.int .i64 ((s : Int)))]) (fun s => Asn w0 ok0 M0 [.dat kOp.sl (ops) [.slice a9 (ops.length) c9],.dat kOp.sl (ops) [.slice y16.1 (ops.length) y16.2]]) (fun s => ops.length - s) 0 ?_ ?_ ?_ ?_
 ·exact Nat.zero_le _
 ·exact ⟨rfl,rfl,rfl,rfl,rfl,rfl,rfl,rfl,trivial⟩
 ·intro w hA
  exact hA.only (is:=[0,0]) (Z:=[]) rfl
 ·intro i hI
  (try dsimp only at hI ⊢)
  refine H_seq ?_
  refine H_region (l:=[_]) rfl ?_
  refine HO_bin rfl rfl rfl rfl bin_lss ?_
  refine HO_nil ?_
  refine H_seq ?_
  refine H_cond rfl ?_ ?_
  ·intro h32
   replace h32:=dT h32
   refine H_skip ?_
   refine H_seq ?_
   refine H_block ?_
   refine H_seq ?_
   refine H_region (l:=[_,_]) rfl ?_
   refine HO_move rfl rfl rfl ?_
   refine HO_assign rfl rfl rfl ?_
   refine HO_nil ?_
   refine H_env (ρ':=[(10,_),(1,_),(5,_),(6,_),(7,_),(8,_),(9,_),(30,_),(31,_)]) ⟨rfl,rfl,rfl,rfl,rfl,rfl,rfl,rfl,rfl,trivial⟩ ?_
   refine H_seq ?_
   refine H_elem open_Op (i:=0) (0) rfl (by omega) ?_
   intro be oe ze ye hae hze hIe
   cases hae
   (try simp only [BIG] at hIe)
   refine H_elem open_Op (i:=2) (i) rfl (by omega) ?_
   intro bf of zf yf haf hzf hIf
   cases haf
   (try simp only [BIG] at hIf)
   refine H_elem open_Op (i:=5) (0) rfl (by omega) ?_
   intro bg og zg yg hag hzg hIg
   rw [hag]
   (try simp only [BIG] at hIg)
   refine H_elem open_Op (i:=7) (i) rfl (by omega) ?_
   intro bh oh zh yh hah hzh hIh
   cases hah
   (try simp only [BIG] at hIh)
   refine H_drawB (m:=[yy,yy,yy,yy,yy,yy,yy,yy,yy,yy]) (Xs:=[_,_,_,_,_,_,_,_,_,_]) (fuel:=17) (l:=#[false,false,false,false,false,false,false,false,false,false,false,false,false,false,false,false,false]) mixed rfl rfl rfl ?_
   refine HA_take (i:=0) bp rfl rfl rfl rfl (by kernel_rfl) rfl (V_move rfl) (fun _ hA => hA) ?_
   refine HA_take (i:=1) bp rfl rfl rfl rfl (by kernel_rfl) rfl (V_indexC (j:=0) rfl rfl rfl Try.underlying23 Try.sizeOf40 ?_ rfl) (fun _ hA => hA) ?_
   ·omega
   refine HA_take (i:=2) bp rfl rfl rfl rfl (by kernel_rfl) rfl (V_loadA (i:=6) (us:=[]) (cs:=[_,_,_,_,_,_,_,_,_,_,_,_,_,_,_,_,_]) (ts:=[]) rfl Try.isAgg40 Try.sizeOf40 rfl (.elem _ _ _) rfl rfl rfl rfl) (fun _ hA => hA) ?_
   refine HA_take (i:=3) bp rfl rfl rfl rfl (by kernel_rfl) rfl (V_move rfl) (fun _ hA => hA) ?_
   refine HA_take (i:=4) bp rfl rfl rfl rfl (by kernel_rfl) rfl (V_move rfl) (fun _ hA => hA) ?_
   refine HA_take (i:=5) bp rfl rfl rfl rfl (by kernel_rfl) rfl (V_indexC rfl rfl rfl Try.underlying23 Try.sizeOf40 ?_ rfl) (fun _ hA => hA) ?_
   ·omega
   refine HA_take (i:=6) bp rfl rfl rfl rfl (by kernel_rfl) rfl (V_loadA (i:=4) (us:=[]) (cs:=[_,_,_,_,_,_,_,_,_,_,_,_,_,_,_,_,_]) (ts:=[]) rfl Try.isAgg40 Try.sizeOf40 rfl (.elem _ _ _) rfl rfl rfl rfl) (fun _ hA => hA) ?_
   refine HA_take (i:=8) bp rfl rfl rfl rfl (by kernel_rfl) rfl (V_move rfl) (fun _ hA => hA) ?_
   refine HA_take (i:=9) bp rfl rfl rfl rfl (by kernel_rfl) rfl (V_indexC (j:=0) rfl rfl rfl Try.underlying80 Try.sizeOf85 ?_ rfl) (fun _ hA => hA) ?_
   ·omega
   refine HA_take (i:=10) bp rfl rfl rfl rfl (by kernel_rfl) rfl (V_loadA (i:=2) (us:=[]) (cs:=[_,_,_,_,_,_,_,_,_,_,_,_,_,_,_,_,_]) (ts:=[]) rfl Try.isAgg85 Try.sizeOf85 rfl (.elem _ _ _) rfl rfl rfl rfl) (fun _ hA => hA) ?_
   refine HA_take (i:=11) bp rfl rfl rfl rfl (by kernel_rfl) rfl (V_move rfl) (fun _ hA => hA) ?_
   refine HA_take (i:=12) bp rfl rfl rfl rfl (by kernel_rfl) rfl (V_move rfl) (fun _ hA => hA) ?_
   refine HA_take (i:=13) bp rfl rfl rfl rfl (by kernel_rfl) rfl (V_indexC rfl rfl rfl Try.underlying80 Try.sizeOf85 ?_ rfl) (fun _ hA => hA) ?_
   ·omega
   refine HA_take (i:=14) bp rfl rfl rfl rfl (by kernel_rfl) rfl (V_loadA (i:=0) (us:=[]) (cs:=[_,_,_,_,_,_,_,_,_,_,_,_,_,_,_,_,_]) (ts:=[]) rfl Try.isAgg85 Try.sizeOf85 rfl (.elem _ _ _) rfl rfl rfl rfl) (fun _ hA => hA) ?_
   refine HA_loud1 (i:=7) (by kernel_rfl) rfl ?_
   refine HO_call (first:=[]) (capt:=[]) (is:=[]) (R:=[_,_,_,_,_,_,_,_,_,_]) rfl rfl rfl rfl rfl Try.call21 rfl (hbefore_spec _ _ _ _ _ _ _ _ _ _ _ _ _ _ _ _ _ _ _ _ _ _ _ _ _ _ _ _ _ _ _ _ _ _ _ _ _ _) ?_
   intro y41 hy41
   clear y41 hy41
   refine HA_back rfl (fun _ hA => hA) ?_
   refine HA_loud1 (i:=15) (by kernel_rfl) rfl ?_
   refine HO_call (first:=[]) (capt:=[]) (is:=[]) (R:=[_,_,_,_,_,_,_,_,_,_]) rfl rfl rfl rfl rfl Try.call37 rfl (rbefore_spec _ _ _ _ _ _ _ _ _ _ _ _ _ _ _ _ _ _ _ _ _ _ _ _ _ _ _ _ _ _ _ _ _ _ _ _ _ _) ?_
   intro y49 hy49
   clear y49 hy49
   refine HA_back rfl (fun _ hA => hA) ?_
   refine HA_take (i:=16) bp rfl rfl rfl rfl (by kernel_rfl) rfl (V_bin rfl rfl (bin_neb Try.runUnderlying4)) (fun _ hA => hA) ?_
   refine HA_done (by kernel_rfl) ?_
   refine H_env (ρ':=[(50,_),(1,_),(5,_),(6,_),(7,_),(8,_),(9,_),(30,_),(31,_)]) ⟨rfl,rfl,rfl,rfl,rfl,rfl,rfl,rfl,rfl,trivial⟩ ?_
   refine H_world (kp [nn,nn,nn,nn,nn,nn,nn,nn,yy,yy] [_,_] rfl) ?_
   refine H_cond rfl ?_ ?_
   ·intro h50
    (try simp only [decide_eq_true_eq,decide_eq_false_iff_not,Bool.not_eq_true',Bool.not_eq_false',Bool.not_eq_true,Bool.not_eq_false,Bool.true_eq_false,Bool.false_eq_true,not_false_eq_true,not_true_eq_false] at h50)
    (rw [hze] at hzg;cases hzg;rw [hzf] at hzh;cases hzh;exact absurd h50 (by simp))
   intro h50
   (try simp only [decide_eq_true_eq,decide_eq_false_iff_not,Bool.not_eq_true',Bool.not_eq_false',Bool.not_eq_true,Bool.not_eq_false,Bool.true_eq_false,Bool.false_eq_true,not_false_eq_true,not_true_eq_false] at h50)
   refine H_skip ?_
   refine H_blk ?_
   refine H_region (l:=[_,_]) rfl ?_
   refine HO_bin rfl rfl rfl rfl (bin_add ?_ ?_) ?_
   ·omega
   ·omega
   refine HO_move rfl rfl rfl ?_
   refine HO_nil ?_
   refine H_env (ρ':=[(31,_),(1,_),(5,_),(6,_),(7,_),(8,_),(9,_),(30,_)]) ⟨rfl,rfl,rfl,rfl,rfl,rfl,rfl,rfl,trivial⟩ ?_
   refine H_inv (fun a w hf hA => ⟨i + 1,?_,?_,hf.sub ?_,?_⟩)
   ·omega
   ·(try dsimp only);omega
   ·exact ⟨rfl,rfl,rfl,rfl,rfl,rfl,rfl,rfl,trivial⟩
   ·exact hA.only (is:=[0,1]) (Z:=[]) rfl
  intro h32
  replace h32:=dF h32
  refine H_exit rfl ?_
  refine H_seq ?_
  refine H_region (l:=[_,_,_,_,_,_,_,_,_,_,_,_,_,_,_,_,_,_,_]) rfl ?_
  iterate 2 refine HO_move rfl rfl rfl ?_
  refine HO_bin rfl rfl rfl rfl bin_eql ?_
  refine HO_move rfl rfl rfl ?_
  refine HO_split (d:=55) rfl ?_ ?_
  ·intro h55
   replace h55:=dT h55
   iterate 2 refine HO_move rfl rfl rfl ?_
   refine HO_bin rfl rfl rfl rfl bin_eql ?_
   refine HO_pick_t rfl rfl rfl rfl ?_
   refine HO_move rfl rfl rfl ?_
   refine HO_split (d:=60) rfl ?_ ?_
   ·intro h60
    replace h60:=dT h60
    refine HO_move rfl rfl rfl ?_
    refine HO_dup (i:=0) rfl rfl ?_
    refine HO_call (first:=[]) (capt:=[]) (is:=[0]) (R:=[_,_]) rfl rfl rfl rfl rfl Try.call17 rfl (order_spec _ _ _ ?_) ?_
    ·omega
    intro y62 hy62
    refine HO_move rfl rfl rfl ?_
    refine HO_dup (i:=2) rfl rfl ?_
    refine HO_call (first:=[]) (capt:=[]) (is:=[0]) (R:=[_,_,_]) rfl rfl rfl rfl rfl Try.call39 rfl (rorder_spec _ _ _ ?_) ?_
    ·omega
    intro y64 hy64
    refine HO_call (first:=[]) (capt:=[]) (is:=[0,0]) (R:=[_,_]) rfl rfl rfl rfl rfl Try.call38 rfl (Spec.lend (pre1:=[_]) (pre2:=[]) (Spec.lend (pre1:=[]) (pre2:=[_]) (hints_spec _ _ _ _ _ _) rfl (fun _ _ ha => nomatch ha)) rfl (by intro y at' ha;obtain rfl:=List.mem_singleton.1 ha;first | exact Atom.Flat.own kByte_plain _ _ _ _ | exact Atom.Flat.own kInt_plain _ _ _ _ | exact Atom.Flat.own kStr_plain _ _ _ _ | exact Atom.Flat.loc _ _ _)) ?_
    intro y65 hy65
    clear y65 hy65
    refine HO_pick_t rfl rfl rfl rfl ?_
    refine HO_move rfl rfl rfl ?_
    refine HO_split (d:=67) rfl ?_ ?_
    ·intro h67
     replace h67:=dT h67
     refine HO_call (first:=[]) (capt:=[]) (is:=[]) (R:=[_,_,_,_]) rfl rfl rfl rfl rfl Try.call15 rfl lives22_spec ?_
     intro y68 hy68
     clear y68 hy68
     refine HO_pick_t rfl rfl rfl rfl ?_
     refine HO_assign rfl rfl rfl ?_
     refine HO_nil ?_
     refine H_env (ρ':=[(4,_)]) ⟨rfl,trivial⟩ ?_
     refine H_world (kp [nn,nn,nn,nn] [] rfl) ?_
     refine H_ret1 Try.results13 (.tmp rfl) (fun w hA => ⟨(),congrArg Ending.returned ?_,?_,?_⟩)
     ·(exact congrArg Value.bool (by first | rfl | assumption | simp_all))
     ·trivial
     ·exact hA.keep (m:=[]) (Y:=[]) rfl
    intro h67
    replace h67:=dF h67
    (exact absurd (hy62.same hy64) h67)
   intro h60
   replace h60:=dF h60
   (exact absurd rfl h60)
  intro h55
  replace h55:=dF h55
  (exact absurd rfl h55)
end Go.Wk
