/- Contracts of the program's functions, each proved by walking its code. -/
import Derived.Test.YtlkdpglngomblaaKfcmd2
import Derived.Test.YtlkdpglngomblaaRep
import Derived.Test.YtlkdpglngomblaaKinds
import Derived.Test.YtlkdpglngomblaaBasef
set_option maxRecDepth 100000
set_option linter.unusedVariables false
set_option linter.unusedSimpArgs false
namespace Go.Wk.Frep
open Go Go.RowKit Go.Proofs Go.Wk
theorem eq70_neq {x y : Operand} {a0 b0 : ByteArray} {a1 b1 : ByteArray} : BinR Try.prog .neq 70 x y (.agg #[.string a0,.string a1]) (.agg #[.string b0,.string b1]) (.bool (!(decide (a0 = b0) && (decide (a1 = b1) && true)))) :=
 bin_nes_agg (by kernel_rfl) Try.underlying70 (by kernel_rfl) (fun w => (eqF_str (by decide) Try.underlying9 Try.isAgg9 rfl rfl (eqF_str (by decide) Try.underlying9 Try.isAgg9 rfl rfl eqF_nil)))
end Go.Wk.Frep
namespace Go.Wk
open Go Go.RowKit Go.Proofs Frep 
theorem eqpairs_spec (ps ps2 : List Pair) (a : Option Addr) (c : Nat) (a2 : Option Addr) (c2 : Nat)  : Spec Try.prog 66 #[.slice a (ps.length) c,.slice a2 (ps2.length) c2] [.dat kPair.sl (ps) [.slice a (ps.length) c],.dat kPair.sl (ps2) [.slice a2 (ps2.length) c2]] (β:=Unit) (fun y => .bool (decide (ps = ps2))) (fun y => True) (fun y => []):=by
 refine Spec.enter (vs:=[_,_]) Try.func66 rfl Try.ntmps66 rfl (Nat.le_of_ble_eq_true rfl) (fun w0 ok0 => ?_)
 generalize hM0 : blks _ = M0
 have hMn:=@noM _ _ hM0 (by simp [Atom.dat,Atom.elem])
 refine H_len_le (i:=0) rfl ?_
 intro hlen0
 refine H_len_le (i:=1) rfl ?_
 intro hlen1
 refine H_seq ?_
 refine H_region (l:=[_]) rfl ?_
 refine HO_assign rfl rfl rfl ?_
 refine HO_nil ?_
 refine H_env (ρ':=[(0,_),(1,_)]) ⟨rfl,rfl,trivial⟩ ?_
 refine H_seq ?_
 refine H_seq ?_
 refine H_region (l:=[_,_,_,_,_]) rfl ?_
 refine HO_move rfl rfl rfl ?_
 refine HO_bi rfl rfl rfl (bi_len_sl Try.underlying31) ?_
 refine HO_move rfl rfl rfl ?_
 refine HO_bi rfl rfl rfl (bi_len_sl Try.underlying31) ?_
 refine HO_bin rfl rfl rfl rfl bin_neq ?_
 refine HO_nil ?_
 refine H_env (ρ':=[(10,_),(0,_),(1,_)]) ⟨rfl,rfl,rfl,trivial⟩ ?_
 refine H_cond rfl ?_ ?_
 ·intro h10
  replace h10:=dT h10
  refine H_seq ?_
  refine H_region (l:=[_]) rfl ?_
  refine HO_assign rfl rfl rfl ?_
  refine HO_nil ?_
  refine H_env (ρ':=[(4,_)]) ⟨rfl,trivial⟩ ?_
  refine H_world (kp [nn,nn] [] rfl) ?_
  refine H_ret1 Try.results66 (.tmp rfl) (fun w hA => ⟨(),congrArg Ending.returned ?_,?_,?_⟩)
  ·(first | exact congrArg Value.bool (Ent.same_no hz18 hz22 h24).symm | exact congrArg Value.bool (Ent.same_yes hl hI).symm | exact congrArg Value.bool (Ent.same_len h10).symm)
  ·trivial
  ·exact hA.keep (m:=[]) (Y:=[]) rfl
 intro h10
 replace h10:=dF h10
 have hl : ps.length = ps2.length:=by omega
 refine H_skip ?_
 refine H_seq ?_
 refine H_seq ?_
 refine H_region (l:=[_,_,_]) rfl ?_
 refine HO_move rfl rfl rfl ?_
 refine HO_bi rfl rfl rfl (bi_len_sl Try.underlying31) ?_
 refine HO_move rfl rfl rfl ?_
 refine HO_nil ?_
 refine H_env (ρ':=[(13,_),(12,_),(0,_),(1,_)]) ⟨rfl,rfl,rfl,rfl,trivial⟩ ?_
 refine H_block ?_
 refine H_loop (σ:=Nat) (fun s => s≤ps.length∧ps.take s = ps2.take s) (fun s => [(0,.slice a (ps.length) c),(1,.slice a2 (ps2.length) c2),(12,.int .i64 ((ps.length : Int))),(13,.int .i64 ((s : Int)))]) (fun s => Asn w0 ok0 M0 [.dat kPair.sl (ps) [.slice a (ps.length) c],.dat kPair.sl (ps2) [.slice a2 (ps2.length) c2]]) (fun s => ps.length - s) 0 ?_ ?_ ?_ ?_
 ·exact ⟨Nat.zero_le _,by simp⟩
 ·exact ⟨rfl,rfl,rfl,rfl,trivial⟩
 ·intro w hA
  exact hA.only (is:=[0,1]) (Z:=[]) rfl
 ·intro i hI
  (try dsimp only at hI ⊢)
  refine H_seq ?_
  refine H_region (l:=[_]) rfl ?_
  refine HO_bin rfl rfl rfl rfl bin_lss ?_
  refine HO_nil ?_
  refine H_seq ?_
  refine H_cond rfl ?_ ?_
  ·intro h14
   replace h14:=dT h14
   refine H_skip ?_
   refine H_seq ?_
   refine H_block ?_
   refine H_seq ?_
   refine H_region (l:=[_,_]) rfl ?_
   refine HO_move rfl rfl rfl ?_
   refine HO_assign rfl rfl rfl ?_
   refine HO_nil ?_
   refine H_env (ρ':=[(5,_),(0,_),(1,_),(12,_),(13,_)]) ⟨rfl,rfl,rfl,rfl,rfl,trivial⟩ ?_
   refine H_seq ?_
   refine H_drawB (m:=[yy,yy]) (Xs:=[_,_]) (fuel:=9) (l:=#[false,false,false,false,false,false,false,false,false]) mixed rfl rfl rfl ?_
   refine HA_take (i:=0) bp rfl rfl rfl rfl (by kernel_rfl) rfl (V_move rfl) (fun _ hA => hA) ?_
   refine HA_take (i:=1) bp rfl rfl rfl rfl (by kernel_rfl) rfl (V_move rfl) (fun _ hA => hA) ?_
   refine HA_take (i:=4) bp rfl rfl rfl rfl (by kernel_rfl) rfl (V_move rfl) (fun _ hA => hA) ?_
   refine HA_take (i:=5) bp rfl rfl rfl rfl (by kernel_rfl) rfl (V_move rfl) (fun _ hA => hA) ?_
   refine HA_loud2 (i:=2) (j:=6) (by kernel_rfl) rfl rfl ?_ ?_
   ·refine HO_indexAddr open_Pair (i:=0) rfl rfl rfl rfl rfl Try.underlying31 Try.sizeOf70 rfl ?_ ?_
    ·omega
    intro b18 o18 z18 y18 hz18 hI18
    clear y18
    (try simp only [BIG] at hI18)
    refine HA_back rfl (kp [nn,yy,yy] [_,_] rfl) ?_
    refine HA_loud2 (i:=3) (j:=6) (by kernel_rfl) rfl rfl ?_ ?_
    ·refine HO_loadA (i:=0) (us:=[]) (cs:=[_,_]) (ts:=[]) rfl rfl rfl Try.isAgg70 Try.sizeOf70 rfl (.elem _ _ _) rfl rfl rfl rfl ?_
     refine HA_back rfl (kp [nn,yy,yy] [_,_] rfl) ?_
     refine HA_loud1 (i:=6) (by kernel_rfl) rfl ?_
     refine HO_indexAddr open_Pair (i:=2) rfl rfl rfl rfl rfl Try.underlying31 Try.sizeOf70 rfl ?_ ?_
     ·omega
     intro b22 o22 z22 y22 hz22 hI22
     clear y22
     (try simp only [BIG] at hI22)
     refine HA_back rfl (kp [nn,nn,yy,yy] [_,_] rfl) ?_
     refine HA_loud1 (i:=7) (by kernel_rfl) rfl ?_
     refine HO_loadA (i:=0) (us:=[]) (cs:=[_,_]) (ts:=[]) rfl rfl rfl Try.isAgg70 Try.sizeOf70 rfl (.elem _ _ _) rfl rfl rfl rfl ?_
     refine HA_back rfl (kp [nn,nn,yy,yy] [_,_] rfl) ?_
     refine HA_take (i:=8) bp rfl rfl rfl rfl (by kernel_rfl) rfl (V_bin rfl rfl eq70_neq) (kp [nn,nn,yy,yy] [_,_] rfl) ?_
     refine HA_done (by kernel_rfl) ?_
     refine H_env (ρ':=[(24,_),(0,_),(1,_),(12,_),(13,_)]) ⟨rfl,rfl,rfl,rfl,rfl,trivial⟩ ?_
     refine H_world (kp [nn,nn,yy,yy] [_,_] rfl) ?_
     refine H_cond rfl ?_ ?_
     ·intro h24
      (try simp only [decide_eq_true_eq,decide_eq_false_iff_not,Bool.not_eq_true',Bool.not_eq_false',Bool.not_eq_true,Bool.not_eq_false,Bool.true_eq_false,Bool.false_eq_true,not_false_eq_true,not_true_eq_false] at h24)
      replace h24:=Pair.ne_of h24
      refine H_seq ?_
      refine H_region (l:=[_]) rfl ?_
      refine HO_assign rfl rfl rfl ?_
      refine HO_nil ?_
      refine H_env (ρ':=[(4,_)]) ⟨rfl,trivial⟩ ?_
      refine H_world (kp [nn,nn] [] rfl) ?_
      refine H_ret1 Try.results66 (.tmp rfl) (fun w hA => ⟨(),congrArg Ending.returned ?_,?_,?_⟩)
      ·(first | exact congrArg Value.bool (Ent.same_no hz18 hz22 h24).symm | exact congrArg Value.bool (Ent.same_yes hl hI).symm | exact congrArg Value.bool (Ent.same_len h10).symm)
      ·trivial
      ·exact hA.keep (m:=[]) (Y:=[]) rfl
     intro h24
     (try simp only [decide_eq_true_eq,decide_eq_false_iff_not,Bool.not_eq_true',Bool.not_eq_false',Bool.not_eq_true,Bool.not_eq_false,Bool.true_eq_false,Bool.false_eq_true,not_false_eq_true,not_true_eq_false] at h24)
     replace h24:=Pair.eq_of h24
     refine H_skip ?_
     refine H_blk ?_
     refine H_region (l:=[_,_]) rfl ?_
     refine HO_bin rfl rfl rfl rfl (bin_add ?_ ?_) ?_
     ·(first | omega | assumption | decide)
     ·(first | omega | assumption | decide)
     refine HO_move rfl rfl rfl ?_
     refine HO_nil ?_
     refine H_env (ρ':=[(13,_),(0,_),(1,_),(12,_)]) ⟨rfl,rfl,rfl,rfl,trivial⟩ ?_
     refine H_inv (fun a w hf hA => ⟨i + 1,?_,?_,hf.sub ?_,?_⟩)
     ·exact ⟨by omega,Ent.same_next hz18 hz22 hI.2 h24⟩
     ·(try dsimp only);omega
     ·exact ⟨rfl,rfl,rfl,rfl,trivial⟩
     ·exact hA.only (is:=[0,1]) (Z:=[]) rfl
    ·refine HO_indexAddr open_Pair (i:=2) rfl rfl rfl rfl rfl Try.underlying31 Try.sizeOf70 rfl ?_ ?_
     ·omega
     intro b22 o22 z22 y22 hz22 hI22
     clear y22
     (try simp only [BIG] at hI22)
     refine HA_back rfl (kp [nn,nn,yy,yy] [_,_] rfl) ?_
     refine HA_loud2 (i:=3) (j:=7) (by kernel_rfl) rfl rfl ?_ ?_
     ·refine HO_loadA (i:=1) (us:=[]) (cs:=[_,_]) (ts:=[]) rfl rfl rfl Try.isAgg70 Try.sizeOf70 rfl (.elem _ _ _) rfl rfl rfl rfl ?_
      refine HA_back rfl (kp [nn,nn,yy,yy] [_,_] rfl) ?_
      refine HA_loud1 (i:=7) (by kernel_rfl) rfl ?_
      refine HO_loadA (i:=0) (us:=[]) (cs:=[_,_]) (ts:=[]) rfl rfl rfl Try.isAgg70 Try.sizeOf70 rfl (.elem _ _ _) rfl rfl rfl rfl ?_
      refine HA_back rfl (kp [nn,nn,yy,yy] [_,_] rfl) ?_
      refine HA_take (i:=8) bp rfl rfl rfl rfl (by kernel_rfl) rfl (V_bin rfl rfl eq70_neq) (kp [nn,nn,yy,yy] [_,_] rfl) ?_
      refine HA_done (by kernel_rfl) ?_
      refine H_env (ρ':=[(24,_),(0,_),(1,_),(12,_),(13,_)]) ⟨rfl,rfl,rfl,rfl,rfl,trivial⟩ ?_
      refine H_world (kp [nn,nn,yy,yy] [_,_] rfl) ?_
      refine H_cond rfl ?_ ?_
      ·intro h24
       (try simp only [decide_eq_true_eq,decide_eq_false_iff_not,Bool.not_eq_true',Bool.not_eq_false',Bool.not_eq_true,Bool.not_eq_false,Bool.true_eq_false,Bool.false_eq_true,not_false_eq_true,not_true_eq_false] at h24)
       replace h24:=Pair.ne_of h24
       refine H_seq ?_
       refine H_region (l:=[_]) rfl ?_
       refine HO_assign rfl rfl rfl ?_
       refine HO_nil ?_
       refine H_env (ρ':=[(4,_)]) ⟨rfl,trivial⟩ ?_
       refine H_world (kp [nn,nn] [] rfl) ?_
       refine H_ret1 Try.results66 (.tmp rfl) (fun w hA => ⟨(),congrArg Ending.returned ?_,?_,?_⟩)
       ·(first | exact congrArg Value.bool (Ent.same_no hz18 hz22 h24).symm | exact congrArg Value.bool (Ent.same_yes hl hI).symm | exact congrArg Value.bool (Ent.same_len h10).symm)
       ·trivial
       ·exact hA.keep (m:=[]) (Y:=[]) rfl
      intro h24
      (try simp only [decide_eq_true_eq,decide_eq_false_iff_not,Bool.not_eq_true',Bool.not_eq_false',Bool.not_eq_true,Bool.not_eq_false,Bool.true_eq_false,Bool.false_eq_true,not_false_eq_true,not_true_eq_false] at h24)
      replace h24:=Pair.eq_of h24
      refine H_skip ?_
      refine H_blk ?_
      refine H_region (l:=[_,_]) rfl ?_
      refine HO_bin rfl rfl rfl rfl (bin_add ?_ ?_) ?_
      ·(first | omega | assumption | decide)
      ·(first | omega | assumption | decide)
      refine HO_move rfl rfl rfl ?_
      refine HO_nil ?_
      refine H_env (ρ':=[(13,_),(0,_),(1,_),(12,_)]) ⟨rfl,rfl,rfl,rfl,trivial⟩ ?_
      refine H_inv (fun a w hf hA => ⟨i + 1,?_,?_,hf.sub ?_,?_⟩)
      ·exact ⟨by omega,Ent.same_next hz18 hz22 hI.2 h24⟩
      ·(try dsimp only);omega
      ·exact ⟨rfl,rfl,rfl,rfl,trivial⟩
      ·exact hA.only (is:=[0,1]) (Z:=[]) rfl
     ·refine HO_loadA (i:=0) (us:=[]) (cs:=[_,_]) (ts:=[]) rfl rfl rfl Try.isAgg70 Try.sizeOf70 rfl (.elem _ _ _) rfl rfl rfl rfl ?_
      refine HA_back rfl (kp [nn,nn,yy,yy] [_,_] rfl) ?_
      refine HA_loud1 (i:=3) (by kernel_rfl) rfl ?_
      refine HO_loadA (i:=1) (us:=[]) (cs:=[_,_]) (ts:=[]) rfl rfl rfl Try.isAgg70 Try.sizeOf70 rfl (.elem _ _ _) rfl rfl rfl rfl ?_
      refine HA_back rfl (kp [nn,nn,yy,yy] [_,_] rfl) ?_
      refine HA_take (i:=8) bp rfl rfl rfl rfl (by kernel_rfl) rfl (V_bin rfl rfl eq70_neq) (kp [nn,nn,yy,yy] [_,_] rfl) ?_
      refine HA_done (by kernel_rfl) ?_
      refine H_env (ρ':=[(24,_),(0,_),(1,_),(12,_),(13,_)]) ⟨rfl,rfl,rfl,rfl,rfl,trivial⟩ ?_
      refine H_world (kp [nn,nn,yy,yy] [_,_] rfl) ?_
      refine H_cond rfl ?_ ?_
      ·intro h24
       (try simp only [decide_eq_true_eq,decide_eq_false_iff_not,Bool.not_eq_true',Bool.not_eq_false',Bool.not_eq_true,Bool.not_eq_false,Bool.true_eq_false,Bool.false_eq_true,not_false_eq_true,not_true_eq_false] at h24)
       replace h24:=Pair.ne_of h24
       refine H_seq ?_
       refine H_region (l:=[_]) rfl ?_
       refine HO_assign rfl rfl rfl ?_
       refine HO_nil ?_
       refine H_env (ρ':=[(4,_)]) ⟨rfl,trivial⟩ ?_
       refine H_world (kp [nn,nn] [] rfl) ?_
       refine H_ret1 Try.results66 (.tmp rfl) (fun w hA => ⟨(),congrArg Ending.returned ?_,?_,?_⟩)
       ·(first | exact congrArg Value.bool (Ent.same_no hz18 hz22 h24).symm | exact congrArg Value.bool (Ent.same_yes hl hI).symm | exact congrArg Value.bool (Ent.same_len h10).symm)
       ·trivial
       ·exact hA.keep (m:=[]) (Y:=[]) rfl
      intro h24
      (try simp only [decide_eq_true_eq,decide_eq_false_iff_not,Bool.not_eq_true',Bool.not_eq_false',Bool.not_eq_true,Bool.not_eq_false,Bool.true_eq_false,Bool.false_eq_true,not_false_eq_true,not_true_eq_false] at h24)
      replace h24:=Pair.eq_of h24
      refine H_skip ?_
      refine H_blk ?_
      refine H_region (l:=[_,_]) rfl ?_
      refine HO_bin rfl rfl rfl rfl (bin_add ?_ ?_) ?_
      ·(first | omega | assumption | decide)
      ·(first | omega | assumption | decide)
      refine HO_move rfl rfl rfl ?_
      refine HO_nil ?_
      refine H_env (ρ':=[(13,_),(0,_),(1,_),(12,_)]) ⟨rfl,rfl,rfl,rfl,trivial⟩ ?_
      refine H_inv (fun a w hf hA => ⟨i + 1,?_,?_,hf.sub ?_,?_⟩)
      ·exact ⟨by omega,Ent.same_next hz18 hz22 hI.2 h24⟩
      ·(try dsimp only);omega
      ·exact ⟨rfl,rfl,rfl,rfl,trivial⟩
      ·exact hA.only (is:=[0,1]) (Z:=[]) rfl
   ·refine HO_indexAddr open_Pair (i:=1) rfl rfl rfl rfl rfl Try.underlying31 Try.sizeOf70 rfl ?_ ?_
    ·omega
    intro b22 o22 z22 y22 hz22 hI22
    clear y22
    (try simp only [BIG] at hI22)
    refine HA_back rfl (kp [nn,yy,yy] [_,_] rfl) ?_
    refine HA_loud2 (i:=2) (j:=7) (by kernel_rfl) rfl rfl ?_ ?_
    ·refine HO_indexAddr open_Pair (i:=1) rfl rfl rfl rfl rfl Try.underlying31 Try.sizeOf70 rfl ?_ ?_
     ·omega
     intro b18 o18 z18 y18 hz18 hI18
     clear y18
     (try simp only [BIG] at hI18)
     refine HA_back rfl (kp [nn,nn,yy,yy] [_,_] rfl) ?_
     refine HA_loud2 (i:=3) (j:=7) (by kernel_rfl) rfl rfl ?_ ?_
     ·refine HO_loadA (i:=0) (us:=[]) (cs:=[_,_]) (ts:=[]) rfl rfl rfl Try.isAgg70 Try.sizeOf70 rfl (.elem _ _ _) rfl rfl rfl rfl ?_
      refine HA_back rfl (kp [nn,nn,yy,yy] [_,_] rfl) ?_
      refine HA_loud1 (i:=7) (by kernel_rfl) rfl ?_
      refine HO_loadA (i:=1) (us:=[]) (cs:=[_,_]) (ts:=[]) rfl rfl rfl Try.isAgg70 Try.sizeOf70 rfl (.elem _ _ _) rfl rfl rfl rfl ?_
      refine HA_back rfl (kp [nn,nn,yy,yy] [_,_] rfl) ?_
      refine HA_take (i:=8) bp rfl rfl rfl rfl (by kernel_rfl) rfl (V_bin rfl rfl eq70_neq) (kp [nn,nn,yy,yy] [_,_] rfl) ?_
      refine HA_done (by kernel_rfl) ?_
      refine H_env (ρ':=[(24,_),(0,_),(1,_),(12,_),(13,_)]) ⟨rfl,rfl,rfl,rfl,rfl,trivial⟩ ?_
      refine H_world (kp [nn,nn,yy,yy] [_,_] rfl) ?_
      refine H_cond rfl ?_ ?_
      ·intro h24
       (try simp only [decide_eq_true_eq,decide_eq_false_iff_not,Bool.not_eq_true',Bool.not_eq_false',Bool.not_eq_true,Bool.not_eq_false,Bool.true_eq_false,Bool.false_eq_true,not_false_eq_true,not_true_eq_false] at h24)
       replace h24:=Pair.ne_of h24
       refine H_seq ?_
       refine H_region (l:=[_]) rfl ?_
       refine HO_assign rfl rfl rfl ?_
       refine HO_nil ?_
       refine H_env (ρ':=[(4,_)]) ⟨rfl,trivial⟩ ?_
       refine H_world (kp [nn,nn] [] rfl) ?_
       refine H_ret1 Try.results66 (.tmp rfl) (fun w hA => ⟨(),congrArg Ending.returned ?_,?_,?_⟩)
       ·(first | exact congrArg Value.bool (Ent.same_no hz18 hz22 h24).symm | exact congrArg Value.bool (Ent.same_yes hl hI).symm | exact congrArg Value.bool (Ent.same_len h10).symm)
       ·trivial
       ·exact hA.keep (m:=[]) (Y:=[]) rfl
      intro h24
      (try simp only [decide_eq_true_eq,decide_eq_false_iff_not,Bool.not_eq_true',Bool.not_eq_false',Bool.not_eq_true,Bool.not_eq_false,Bool.true_eq_false,Bool.false_eq_true,not_false_eq_true,not_true_eq_false] at h24)
      replace h24:=Pair.eq_of h24
      refine H_skip ?_
      refine H_blk ?_
      refine H_region (l:=[_,_]) rfl ?_
      refine HO_bin rfl rfl rfl rfl (bin_add ?_ ?_) ?_
      ·(first | omega | assumption | decide)
      ·(first | omega | assumption | decide)
      refine HO_move rfl rfl rfl ?_
      refine HO_nil ?_
      refine H_env (ρ':=[(13,_),(0,_),(1,_),(12,_)]) ⟨rfl,rfl,rfl,rfl,trivial⟩ ?_
      refine H_inv (fun a w hf hA => ⟨i + 1,?_,?_,hf.sub ?_,?_⟩)
      ·exact ⟨by omega,Ent.same_next hz18 hz22 hI.2 h24⟩
      ·(try dsimp only);omega
      ·exact ⟨rfl,rfl,rfl,rfl,trivial⟩
      ·exact hA.only (is:=[0,1]) (Z:=[]) rfl
     ·refine HO_loadA (i:=1) (us:=[]) (cs:=[_,_]) (ts:=[]) rfl rfl rfl Try.isAgg70 Try.sizeOf70 rfl (.elem _ _ _) rfl rfl rfl rfl ?_
      refine HA_back rfl (kp [nn,nn,yy,yy] [_,_] rfl) ?_
      refine HA_loud1 (i:=3) (by kernel_rfl) rfl ?_
      refine HO_loadA (i:=0) (us:=[]) (cs:=[_,_]) (ts:=[]) rfl rfl rfl Try.isAgg70 Try.sizeOf70 rfl (.elem _ _ _) rfl rfl rfl rfl ?_
      refine HA_back rfl (kp [nn,nn,yy,yy] [_,_] rfl) ?_
      refine HA_take (i:=8) bp rfl rfl rfl rfl (by kernel_rfl) rfl (V_bin rfl rfl eq70_neq) (kp [nn,nn,yy,yy] [_,_] rfl) ?_
      refine HA_done (by kernel_rfl) ?_
      refine H_env (ρ':=[(24,_),(0,_),(1,_),(12,_),(13,_)]) ⟨rfl,rfl,rfl,rfl,rfl,trivial⟩ ?_
      refine H_world (kp [nn,nn,yy,yy] [_,_] rfl) ?_
      refine H_cond rfl ?_ ?_
      ·intro h24
       (try simp only [decide_eq_true_eq,decide_eq_false_iff_not,Bool.not_eq_true',Bool.not_eq_false',Bool.not_eq_true,Bool.not_eq_false,Bool.true_eq_false,Bool.false_eq_true,not_false_eq_true,not_true_eq_false] at h24)
       replace h24:=Pair.ne_of h24
       refine H_seq ?_
       refine H_region (l:=[_]) rfl ?_
       refine HO_assign rfl rfl rfl ?_
       refine HO_nil ?_
       refine H_env (ρ':=[(4,_)]) ⟨rfl,trivial⟩ ?_
       refine H_world (kp [nn,nn] [] rfl) ?_
       refine H_ret1 Try.results66 (.tmp rfl) (fun w hA => ⟨(),congrArg Ending.returned ?_,?_,?_⟩)
       ·(first | exact congrArg Value.bool (Ent.same_no hz18 hz22 h24).symm | exact congrArg Value.bool (Ent.same_yes hl hI).symm | exact congrArg Value.bool (Ent.same_len h10).symm)
       ·trivial
       ·exact hA.keep (m:=[]) (Y:=[]) rfl
      intro h24
      (try simp only [decide_eq_true_eq,decide_eq_false_iff_not,Bool.not_eq_true',Bool.not_eq_false',Bool.not_eq_true,Bool.not_eq_false,Bool.true_eq_false,Bool.false_eq_true,not_false_eq_true,not_true_eq_false] at h24)
      replace h24:=Pair.eq_of h24
      refine H_skip ?_
      refine H_blk ?_
      refine H_region (l:=[_,_]) rfl ?_
      refine HO_bin rfl rfl rfl rfl (bin_add ?_ ?_) ?_
      ·(first | omega | assumption | decide)
      ·(first | omega | assumption | decide)
      refine HO_move rfl rfl rfl ?_
      refine HO_nil ?_
      refine H_env (ρ':=[(13,_),(0,_),(1,_),(12,_)]) ⟨rfl,rfl,rfl,rfl,trivial⟩ ?_
      refine H_inv (fun a w hf hA => ⟨i + 1,?_,?_,hf.sub ?_,?_⟩)
      ·exact ⟨by omega,Ent.same_next hz18 hz22 hI.2 h24⟩
      ·(try dsimp only);omega
      ·exact ⟨rfl,rfl,rfl,rfl,trivial⟩
      ·exact hA.only (is:=[0,1]) (Z:=[]) rfl
    ·refine HO_loadA (i:=0) (us:=[]) (cs:=[_,_]) (ts:=[]) rfl rfl rfl Try.isAgg70 Try.sizeOf70 rfl (.elem _ _ _) rfl rfl rfl rfl ?_
     refine HA_back rfl (kp [nn,yy,yy] [_,_] rfl) ?_
     refine HA_loud1 (i:=2) (by kernel_rfl) rfl ?_
     refine HO_indexAddr open_Pair (i:=1) rfl rfl rfl rfl rfl Try.underlying31 Try.sizeOf70 rfl ?_ ?_
     ·omega
     intro b18 o18 z18 y18 hz18 hI18
     clear y18
     (try simp only [BIG] at hI18)
     refine HA_back rfl (kp [nn,nn,yy,yy] [_,_] rfl) ?_
     refine HA_loud1 (i:=3) (by kernel_rfl) rfl ?_
     refine HO_loadA (i:=0) (us:=[]) (cs:=[_,_]) (ts:=[]) rfl rfl rfl Try.isAgg70 Try.sizeOf70 rfl (.elem _ _ _) rfl rfl rfl rfl ?_
     refine HA_back rfl (kp [nn,nn,yy,yy] [_,_] rfl) ?_
     refine HA_take (i:=8) bp rfl rfl rfl rfl (by kernel_rfl) rfl (V_bin rfl rfl eq70_neq) (kp [nn,nn,yy,yy] [_,_] rfl) ?_
     refine HA_done (by kernel_rfl) ?_
     refine H_env (ρ':=[(24,_),(0,_),(1,_),(12,_),(13,_)]) ⟨rfl,rfl,rfl,rfl,rfl,trivial⟩ ?_
     refine H_world (kp [nn,nn,yy,yy] [_,_] rfl) ?_
     refine H_cond rfl ?_ ?_
     ·intro h24
      (try simp only [decide_eq_true_eq,decide_eq_false_iff_not,Bool.not_eq_true',Bool.not_eq_false',Bool.not_eq_true,Bool.not_eq_false,Bool.true_eq_false,Bool.false_eq_true,not_false_eq_true,not_true_eq_false] at h24)
      replace h24:=Pair.ne_of h24
      refine H_seq ?_
      refine H_region (l:=[_]) rfl ?_
      refine HO_assign rfl rfl rfl ?_
      refine HO_nil ?_
      refine H_env (ρ':=[(4,_)]) ⟨rfl,trivial⟩ ?_
      refine H_world (kp [nn,nn] [] rfl) ?_
      refine H_ret1 Try.results66 (.tmp rfl) (fun w hA => ⟨(),congrArg Ending.returned ?_,?_,?_⟩)
      ·(first | exact congrArg Value.bool (Ent.same_no hz18 hz22 h24).symm | exact congrArg Value.bool (Ent.same_yes hl hI).symm | exact congrArg Value.bool (Ent.same_len h10).symm)
      ·trivial
      ·exact hA.keep (m:=[]) (Y:=[]) rfl
     intro h24
     (try simp only [decide_eq_true_eq,decide_eq_false_iff_not,Bool.not_eq_true',Bool.not_eq_false',Bool.not_eq_true,Bool.not_eq_false,Bool.true_eq_false,Bool.false_eq_true,not_false_eq_true,not_true_eq_false] at h24)
     replace h24:=Pair.eq_of h24
     refine H_skip ?_
     refine H_blk ?_
     refine H_region (l:=[_,_]) rfl ?_
     refine HO_bin rfl rfl rfl rfl (bin_add ?_ ?_) ?_
     ·(first | omega | assumption | decide)
     ·(first | omega | assumption | decide)
     refine HO_move rfl rfl rfl ?_
     refine HO_nil ?_
     refine H_env (ρ':=[(13,_),(0,_),(1,_),(12,_)]) ⟨rfl,rfl,rfl,rfl,trivial⟩ ?_
     refine H_inv (fun a w hf hA => ⟨i + 1,?_,?_,hf.sub ?_,?_⟩)
     ·exact ⟨by omega,Ent.same_next hz18 hz22 hI.2 h24⟩
     ·(try dsimp only);omega
     ·exact ⟨rfl,rfl,rfl,rfl,trivial⟩
     ·exact hA.only (is:=[0,1]) (Z:=[]) rfl
  intro h14
  replace h14:=dF h14
  refine H_exit rfl ?_
  refine H_seq ?_
  obtain rfl : i = ps.length:=by omega
  refine H_region (l:=[_]) rfl ?_
  refine HO_assign rfl rfl rfl ?_
  refine HO_nil ?_
  refine H_env (ρ':=[(4,_)]) ⟨rfl,trivial⟩ ?_
  refine H_world (kp [nn,nn] [] rfl) ?_
  refine H_ret1 Try.results66 (.tmp rfl) (fun w hA => ⟨(),congrArg Ending.returned ?_,?_,?_⟩)
  ·(first | exact congrArg Value.bool (Ent.same_no hz18 hz22 h24).symm | exact congrArg Value.bool (Ent.same_yes hl hI).symm | exact congrArg Value.bool (Ent.same_len h10).symm)
  ·trivial
  ·exact hA.keep (m:=[]) (Y:=[]) rfl
theorem reqpairs_spec (ps ps2 : List Pair) (a : Option Addr) (c : Nat) (a2 : Option Addr) (c2 : Nat)  : Spec Try.prog 32 #[.slice a (ps.length) c,.slice a2 (ps2.length) c2] [.dat kPair.sl (ps) [.slice a (ps.length) c],.dat kPair.sl (ps2) [.slice a2 (ps2.length) c2]] (β:=Unit) (fun y => .bool (decide (ps = ps2))) (fun y => True) (fun y => []):=by
 refine Spec.enter (vs:=[_,_]) Try.func32 rfl Try.ntmps32 rfl (Nat.le_of_ble_eq_true rfl) (fun w0 ok0 => ?_)
 generalize hM0 : blks _ = M0
 have hMn:=@noM _ _ hM0 (by simp [Atom.dat,Atom.elem])
 refine H_len_le (i:=0) rfl ?_
 intro hlen0
 refine H_len_le (i:=1) rfl ?_
 intro hlen1
 refine H_seq ?_
 refine H_region (l:=[_]) rfl ?_
 refine HO_assign rfl rfl rfl ?_
 refine HO_nil ?_
 refine H_env (ρ':=[(0,_),(1,_)]) ⟨rfl,rfl,trivial⟩ ?_
 refine H_seq ?_
 refine H_seq ?_
 refine H_region (l:=[_,_,_,_,_]) rfl ?_
 refine HO_move rfl rfl rfl ?_
 refine HO_bi rfl rfl rfl (bi_len_sl Try.underlying31) ?_
 refine HO_move rfl rfl rfl ?_
 refine HO_bi rfl rfl rfl (bi_len_sl Try.underlying31) ?_
 refine HO_bin rfl rfl rfl rfl bin_neq ?_
 refine HO_nil ?_
 refine H_env (ρ':=[(10,_),(0,_),(1,_)]) ⟨rfl,rfl,rfl,trivial⟩ ?_
 refine H_cond rfl ?_ ?_
 ·intro h10
  replace h10:=dT h10
  refine H_seq ?_
  refine H_region (l:=[_]) rfl ?_
  refine HO_assign rfl rfl rfl ?_
  refine HO_nil ?_
  refine H_env (ρ':=[(4,_)]) ⟨rfl,trivial⟩ ?_
  refine H_world (kp [nn,nn] [] rfl) ?_
  refine H_ret1 Try.results32 (.tmp rfl) (fun w hA => ⟨(),congrArg Ending.returned ?_,?_,?_⟩)
  ·(first | exact congrArg Value.bool (Ent.same_no hz18 hz22 h24).symm | exact congrArg Value.bool (Ent.same_yes hl hI).symm | exact congrArg Value.bool (Ent.same_len h10).symm)
  ·trivial
  ·exact hA.keep (m:=[]) (Y:=[]) rfl
 intro h10
 replace h10:=dF h10
 have hl : ps.length = ps2.length:=by omega
 refine H_skip ?_
 refine H_seq ?_
 refine H_seq ?_
 refine H_region (l:=[_,_,_]) rfl ?_
 refine HO_move rfl rfl rfl ?_
 refine HO_bi rfl rfl rfl (bi_len_sl Try.underlying31) ?_
 refine HO_move rfl rfl rfl ?_
 refine HO_nil ?_
 refine H_env (ρ':=[(13,_),(12,_),(0,_),(1,_)]) ⟨rfl,rfl,rfl,rfl,trivial⟩ ?_
 refine H_block ?_
 refine H_loop (σ:=Nat) (fun s => s≤ps.length∧ps.take s = ps2.take s) (fun s => [(0,.slice a (ps.length) c),(1,.slice a2 (ps2.length) c2),(12,.int .i64 ((ps.length : Int))),(13,.int .i64 ((s : Int)))]) (fun s => Asn w0 ok0 M0 [.dat kPair.sl (ps) [.slice a (ps.length) c],.dat kPair.sl (ps2) [.slice a2 (ps2.length) c2]]) (fun s => ps.length - s) 0 ?_ ?_ ?_ ?_
 ·exact ⟨Nat.zero_le _,by simp⟩
 ·exact ⟨rfl,rfl,rfl,rfl,trivial⟩
 ·intro w hA
  exact hA.only (is:=[0,1]) (Z:=[]) rfl
 ·intro i hI
  (try dsimp only at hI ⊢)
  refine H_seq ?_
  refine H_region (l:=[_]) rfl ?_
  refine HO_bin rfl rfl rfl rfl bin_lss ?_
  refine HO_nil ?_
  refine H_seq ?_
  refine H_cond rfl ?_ ?_
  ·intro h14
   replace h14:=dT h14
   refine H_skip ?_
   refine H_seq ?_
   refine H_block ?_
   refine H_seq ?_
   refine H_region (l:=[_,_]) rfl ?_
   refine HO_move rfl rfl rfl ?_
   refine HO_assign rfl rfl rfl ?_
   refine HO_nil ?_
   refine H_env (ρ':=[(5,_),(0,_),(1,_),(12,_),(13,_)]) ⟨rfl,rfl,rfl,rfl,rfl,trivial⟩ ?_
   refine H_seq ?_
   refine H_drawB (m:=[yy,yy]) (Xs:=[_,_]) (fuel:=9) (l:=#[false,false,false,false,false,false,false,false,false]) mixed rfl rfl rfl ?_
   refine HA_take (i:=0) bp rfl rfl rfl rfl (by kernel_rfl) rfl (V_move rfl) (fun _ hA => hA) ?_
   refine HA_take (i:=1) bp rfl rfl rfl rfl (by kernel_rfl) rfl (V_move rfl) (fun _ hA => hA) ?_
   refine HA_take (i:=4) bp rfl rfl rfl rfl (by kernel_rfl) rfl (V_move rfl) (fun _ hA => hA) ?_
   refine HA_take (i:=5) bp rfl rfl rfl rfl (by kernel_rfl) rfl (V_move rfl) (fun _ hA => hA) ?_
   refine HA_loud2 (i:=2) (j:=6) (by kernel_rfl) rfl rfl ?_ ?_
   ·refine HO_indexAddr open_Pair (i:=0) rfl rfl rfl rfl rfl Try.underlying31 Try.sizeOf70 rfl ?_ ?_
    ·omega
    intro b18 o18 z18 y18 hz18 hI18
    clear y18
    (try simp only [BIG] at hI18)
    refine HA_back rfl (kp [nn,yy,yy] [_,_] rfl) ?_
    refine HA_loud2 (i:=3) (j:=6) (by kernel_rfl) rfl rfl ?_ ?_
    ·refine HO_loadA (i:=0) (us:=[]) (cs:=[_,_]) (ts:=[]) rfl rfl rfl Try.isAgg70 Try.sizeOf70 rfl (.elem _ _ _) rfl rfl rfl rfl ?_
     refine HA_back rfl (kp [nn,yy,yy] [_,_] rfl) ?_
     refine HA_loud1 (i:=6) (by kernel_rfl) rfl ?_
     refine HO_indexAddr open_Pair (i:=2) rfl rfl rfl rfl rfl Try.underlying31 Try.sizeOf70 rfl ?_ ?_
     ·omega
     intro b22 o22 z22 y22 hz22 hI22
     clear y22
     (try simp only [BIG] at hI22)
     refine HA_back rfl (kp [nn,nn,yy,yy] [_,_] rfl) ?_
     refine HA_loud1 (i:=7) (by kernel_rfl) rfl ?_
     refine HO_loadA (i:=0) (us:=[]) (cs:=[_,_]) (ts:=[]) rfl rfl rfl Try.isAgg70 Try.sizeOf70 rfl (.elem _ _ _) rfl rfl rfl rfl ?_
     refine HA_back rfl (kp [nn,nn,yy,yy] [_,_] rfl) ?_
     refine HA_take (i:=8) bp rfl rfl rfl rfl (by kernel_rfl) rfl (V_bin rfl rfl eq70_neq) (kp [nn,nn,yy,yy] [_,_] rfl) ?_
     refine HA_done (by kernel_rfl) ?_
     refine H_env (ρ':=[(24,_),(0,_),(1,_),(12,_),(13,_)]) ⟨rfl,rfl,rfl,rfl,rfl,trivial⟩ ?_
     refine H_world (kp [nn,nn,yy,yy] [_,_] rfl) ?_
     refine H_cond rfl ?_ ?_
     ·intro h24
      (try simp only [decide_eq_true_eq,decide_eq_false_iff_not,Bool.not_eq_true',Bool.not_eq_false',Bool.not_eq_true,Bool.not_eq_false,Bool.true_eq_false,Bool.false_eq_true,not_false_eq_true,not_true_eq_false] at h24)
      replace h24:=Pair.ne_of h24
      refine H_seq ?_
      refine H_region (l:=[_]) rfl ?_
      refine HO_assign rfl rfl rfl ?_
      refine HO_nil ?_
      refine H_env (ρ':=[(4,_)]) ⟨rfl,trivial⟩ ?_
      refine H_world (kp [nn,nn] [] rfl) ?_
      refine H_ret1 Try.results32 (.tmp rfl) (fun w hA => ⟨(),congrArg Ending.returned ?_,?_,?_⟩)
      ·(first | exact congrArg Value.bool (Ent.same_no hz18 hz22 h24).symm | exact congrArg Value.bool (Ent.same_yes hl hI).symm | exact congrArg Value.bool (Ent.same_len h10).symm)
      ·trivial
      ·exact hA.keep (m:=[]) (Y:=[]) rfl
     intro h24
     (try simp only [decide_eq_true_eq,decide_eq_false_iff_not,Bool.not_eq_true',Bool.not_eq_false',Bool.not_eq_true,Bool.not_eq_false,Bool.true_eq_false,Bool.false_eq_true,not_false_eq_true,not_true_eq_false] at h24)
     replace h24:=Pair.eq_of h24
     refine H_skip ?_
     refine H_blk ?_
     refine H_region (l:=[_,_]) rfl ?_
     refine HO_bin rfl rfl rfl rfl (bin_add ?_ ?_) ?_
     ·(first | omega | assumption | decide)
     ·(first | omega | assumption | decide)
     refine HO_move rfl rfl rfl ?_
     refine HO_nil ?_
     refine H_env (ρ':=[(13,_),(0,_),(1,_),(12,_)]) ⟨rfl,rfl,rfl,rfl,trivial⟩ ?_
     refine H_inv (fun a w hf hA => ⟨i + 1,?_,?_,hf.sub ?_,?_⟩)
     ·exact ⟨by omega,Ent.same_next hz18 hz22 hI.2 h24⟩
     ·(try dsimp only);omega
     ·exact ⟨rfl,rfl,rfl,rfl,trivial⟩
     ·exact hA.only (is:=[0,1]) (Z:=[]) rfl
    ·refine HO_indexAddr open_Pair (i:=2) rfl rfl rfl rfl rfl Try.underlying31 Try.sizeOf70 rfl ?_ ?_
     ·omega
     intro b22 o22 z22 y22 hz22 hI22
     clear y22
     (try simp only [BIG] at hI22)
     refine HA_back rfl (kp [nn,nn,yy,yy] [_,_] rfl) ?_
     refine HA_loud2 (i:=3) (j:=7) (by kernel_rfl) rfl rfl ?_ ?_
     ·refine HO_loadA (i:=1) (us:=[]) (cs:=[_,_]) (ts:=[]) rfl rfl rfl Try.isAgg70 Try.sizeOf70 rfl (.elem _ _ _) rfl rfl rfl rfl ?_
      refine HA_back rfl (kp [nn,nn,yy,yy] [_,_] rfl) ?_
      refine HA_loud1 (i:=7) (by kernel_rfl) rfl ?_
      refine HO_loadA (i:=0) (us:=[]) (cs:=[_,_]) (ts:=[]) rfl rfl rfl Try.isAgg70 Try.sizeOf70 rfl (.elem _ _ _) rfl rfl rfl rfl ?_
      refine HA_back rfl (kp [nn,nn,yy,yy] [_,_] rfl) ?_
      refine HA_take (i:=8) bp rfl rfl rfl rfl (by kernel_rfl) rfl (V_bin rfl rfl eq70_neq) (kp [nn,nn,yy,yy] [_,_] rfl) ?_
      refine HA_done (by kernel_rfl) ?_
      refine H_env (ρ':=[(24,_),(0,_),(1,_),(12,_),(13,_)]) ⟨rfl,rfl,rfl,rfl,rfl,trivial⟩ ?_
      refine H_world (kp [nn,nn,yy,yy] [_,_] rfl) ?_
      refine H_cond rfl ?_ ?_
      ·intro h24
       (try simp only [decide_eq_true_eq,decide_eq_false_iff_not,Bool.not_eq_true',Bool.not_eq_false',Bool.not_eq_true,Bool.not_eq_false,Bool.true_eq_false,Bool.false_eq_true,not_false_eq_true,not_true_eq_false] at h24)
       replace h24:=Pair.ne_of h24
       refine H_seq ?_
       refine H_region (l:=[_]) rfl ?_
       refine HO_assign rfl rfl rfl ?_
       refine HO_nil ?_
       refine H_env (ρ':=[(4,_)]) ⟨rfl,trivial⟩ ?_
       refine H_world (kp [nn,nn] [] rfl) ?_
       refine H_ret1 Try.results32 (.tmp rfl) (fun w hA => ⟨(),congrArg Ending.returned ?_,?_,?_⟩)
       ·(first | exact congrArg Value.bool (Ent.same_no hz18 hz22 h24).symm | exact congrArg Value.bool (Ent.same_yes hl hI).symm | exact congrArg Value.bool (Ent.same_len h10).symm)
       ·trivial
       ·exact hA.keep (m:=[]) (Y:=[]) rfl
      intro h24
      (try simp only [decide_eq_true_eq,decide_eq_false_iff_not,Bool.not_eq_true',Bool.not_eq_false',Bool.not_eq_true,Bool.not_eq_false,Bool.true_eq_false,Bool.false_eq_true,not_false_eq_true,not_true_eq_false] at h24)
      replace h24:=Pair.eq_of h24
      refine H_skip ?_
      refine H_blk ?_
      refine H_region (l:=[_,_]) rfl ?_
      refine HO_bin rfl rfl rfl rfl (bin_add ?_ ?_) ?_
      ·(first | omega | assumption | decide)
      ·(first | omega | assumption | decide)
      refine HO_move rfl rfl rfl ?_
      refine HO_nil ?_
      refine H_env (ρ':=[(13,_),(0,_),(1,_),(12,_)]) ⟨rfl,rfl,rfl,rfl,trivial⟩ ?_
      refine H_inv (fun a w hf hA => ⟨i + 1,?_,?_,hf.sub ?_,?_⟩)
      ·exact ⟨by omega,Ent.same_next hz18 hz22 hI.2 h24⟩
      ·(try dsimp only);omega
      ·exact ⟨rfl,rfl,rfl,rfl,trivial⟩
      ·exact hA.only (is:=[0,1]) (Z:=[]) rfl
     ·refine HO_loadA (i:=0) (us:=[]) (cs:=[_,_]) (ts:=[]) rfl rfl rfl Try.isAgg70 Try.sizeOf70 rfl (.elem _ _ _) rfl rfl rfl rfl ?_
      refine HA_back rfl (kp [nn,nn,yy,yy] [_,_] rfl) ?_
      refine HA_loud1 (i:=3) (by kernel_rfl) rfl ?_
      refine HO_loadA (i:=1) (us:=[]) (cs:=[_,_]) (ts:=[]) rfl rfl rfl Try.isAgg70 Try.sizeOf70 rfl (.elem _ _ _) rfl rfl rfl rfl ?_
      refine HA_back rfl (kp [nn,nn,yy,yy] [_,_] rfl) ?_
      refine HA_take (i:=8) bp rfl rfl rfl rfl (by kernel_rfl) rfl (V_bin rfl rfl eq70_neq) (kp [nn,nn,yy,yy] [_,_] rfl) ?_
      refine HA_done (by kernel_rfl) ?_
      refine H_env (ρ':=[(24,_),(0,_),(1,_),(12,_),(13,_)]) ⟨rfl,rfl,rfl,rfl,rfl,trivial⟩ ?_
      refine H_world (kp [nn,nn,yy,yy] [_,_] rfl) ?_
      refine H_cond rfl ?_ ?_
      ·intro h24
       (try simp only [decide_eq_true_eq,decide_eq_false_iff_not,Bool.not_eq_true',Bool.not_eq_false',Bool.not_eq_true,Bool.not_eq_false,Bool.true_eq_false,Bool.false_eq_true,not_false_eq_true,not_true_eq_false] at h24)
       replace h24:=Pair.ne_of h24
       refine H_seq ?_
       refine H_region (l:=[_]) rfl ?_
       refine HO_assign rfl rfl rfl ?_
       refine HO_nil ?_
       refine H_env (ρ':=[(4,_)]) ⟨rfl,trivial⟩ ?_
       refine H_world (kp [nn,nn] [] rfl) ?_
       refine H_ret1 Try.results32 (.tmp rfl) (fun w hA => ⟨(),congrArg Ending.returned ?_,?_,?_⟩)
       ·(first | exact congrArg Value.bool (Ent.same_no hz18 hz22 h24).symm | exact congrArg Value.bool (Ent.same_yes hl hI).symm | exact congrArg Value.bool (Ent.same_len h10).symm)
       ·trivial
       ·exact hA.keep (m:=[]) (Y:=[]) rfl
      intro h24
      (try simp only [decide_eq_true_eq,decide_eq_false_iff_not,Bool.not_eq_true',Bool.not_eq_false',Bool.not_eq_true,Bool.not_eq_false,Bool.true_eq_false,Bool.false_eq_true,not_false_eq_true,not_true_eq_false] at h24)
      replace h24:=Pair.eq_of h24
      refine H_skip ?_
      refine H_blk ?_
      refine H_region (l:=[_,_]) rfl ?_
      refine HO_bin rfl rfl rfl rfl (bin_add ?_ ?_) ?_
      ·(first | omega | assumption | decide)
      ·(first | omega | assumption | decide)
      refine HO_move rfl rfl rfl ?_
      refine HO_nil ?_
      refine H_env (ρ':=[(13,_),(0,_),(1,_),(12,_)]) ⟨rfl,rfl,rfl,rfl,trivial⟩ ?_
      refine H_inv (fun a w hf hA => ⟨i + 1,?_,?_,hf.sub ?_,?_⟩)
      ·exact ⟨by omega,Ent.same_next hz18 hz22 hI.2 h24⟩
      ·(try dsimp only);omega
      ·exact ⟨rfl,rfl,rfl,rfl,trivial⟩
      ·exact hA.only (is:=[0,1]) (Z:=[]) rfl
   ·refine HO_indexAddr open_Pair (i:=1) rfl rfl rfl rfl rfl Try.underlying31 Try.sizeOf70 rfl ?_ ?_
    ·omega
    intro b22 o22 z22 y22 hz22 hI22
    clear y22
    (try simp only [BIG] at hI22)
    refine HA_back rfl (kp [nn,yy,yy] [_,_] rfl) ?_
    refine HA_loud2 (i:=2) (j:=7) (by kernel_rfl) rfl rfl ?_ ?_
    ·refine HO_indexAddr open_Pair (i:=1) rfl rfl rfl rfl rfl Try.underlying31 Try.sizeOf70 rfl ?_ ?_
     ·omega
     intro b18 o18 z18 y18 hz18 hI18
     clear y18
     (try simp only [BIG] at hI18)
     refine HA_back rfl (kp [nn,nn,yy,yy] [_,_] rfl) ?_
     refine HA_loud2 (i:=3) (j:=7) (by kernel_rfl) rfl rfl ?_ ?_
     ·refine HO_loadA (i:=0) (us:=[]) (cs:=[_,_]) (ts:=[]) rfl rfl rfl Try.isAgg70 Try.sizeOf70 rfl (.elem _ _ _) rfl rfl rfl rfl ?_
      refine HA_back rfl (kp [nn,nn,yy,yy] [_,_] rfl) ?_
      refine HA_loud1 (i:=7) (by kernel_rfl) rfl ?_
      refine HO_loadA (i:=1) (us:=[]) (cs:=[_,_]) (ts:=[]) rfl rfl rfl Try.isAgg70 Try.sizeOf70 rfl (.elem _ _ _) rfl rfl rfl rfl ?_
      refine HA_back rfl (kp [nn,nn,yy,yy] [_,_] rfl) ?_
      refine HA_take (i:=8) bp rfl rfl rfl rfl (by kernel_rfl) rfl (V_bin rfl rfl eq70_neq) (kp [nn,nn,yy,yy] [_,_] rfl) ?_
      refine HA_done (by kernel_rfl) ?_
      refine H_env (ρ':=[(24,_),(0,_),(1,_),(12,_),(13,_)]) ⟨rfl,rfl,rfl,rfl,rfl,trivial⟩ ?_
      refine H_world (kp [nn,nn,yy,yy] [_,_] rfl) ?_
      refine H_cond rfl ?_ ?_
      ·intro h24
       (try simp only [decide_eq_true_eq,decide_eq_false_iff_not,Bool.not_eq_true',Bool.not_eq_false',Bool.not_eq_true,Bool.not_eq_false,Bool.true_eq_false,Bool.false_eq_true,not_false_eq_true,not_true_eq_false] at h24)
       replace h24:=Pair.ne_of h24
       refine H_seq ?_
       refine H_region (l:=[_]) rfl ?_
       refine HO_assign rfl rfl rfl ?_
       refine HO_nil ?_
       refine H_env (ρ':=[(4,_)]) ⟨rfl,trivial⟩ ?_
       refine H_world (kp [nn,nn] [] rfl) ?_
       refine H_ret1 Try.results32 (.tmp rfl) (fun w hA => ⟨(),congrArg Ending.returned ?_,?_,?_⟩)
       ·(first | exact congrArg Value.bool (Ent.same_no hz18 hz22 h24).symm | exact congrArg Value.bool (Ent.same_yes hl hI).symm | exact congrArg Value.bool (Ent.same_len h10).symm)
       ·trivial
       ·exact hA.keep (m:=[]) (Y:=[]) rfl
      intro h24
      (try simp only [decide_eq_true_eq,decide_eq_false_iff_not,Bool.not_eq_true',Bool.not_eq_false',Bool.not_eq_true,Bool.not_eq_false,Bool.true_eq_false,Bool.false_eq_true,not_false_eq_true,not_true_eq_false] at h24)
      replace h24:=Pair.eq_of h24
      refine H_skip ?_
      refine H_blk ?_
      refine H_region (l:=[_,_]) rfl ?_
      refine HO_bin rfl rfl rfl rfl (bin_add ?_ ?_) ?_
      ·(first | omega | assumption | decide)
      ·(first | omega | assumption | decide)
      refine HO_move rfl rfl rfl ?_
      refine HO_nil ?_
      refine H_env (ρ':=[(13,_),(0,_),(1,_),(12,_)]) ⟨rfl,rfl,rfl,rfl,trivial⟩ ?_
      refine H_inv (fun a w hf hA => ⟨i + 1,?_,?_,hf.sub ?_,?_⟩)
      ·exact ⟨by omega,Ent.same_next hz18 hz22 hI.2 h24⟩
      ·(try dsimp only);omega
      ·exact ⟨rfl,rfl,rfl,rfl,trivial⟩
      ·exact hA.only (is:=[0,1]) (Z:=[]) rfl
     ·refine HO_loadA (i:=1) (us:=[]) (cs:=[_,_]) (ts:=[]) rfl rfl rfl Try.isAgg70 Try.sizeOf70 rfl (.elem _ _ _) rfl rfl rfl rfl ?_
      refine HA_back rfl (kp [nn,nn,yy,yy] [_,_] rfl) ?_
      refine HA_loud1 (i:=3) (by kernel_rfl) rfl ?_
      refine HO_loadA (i:=0) (us:=[]) (cs:=[_,_]) (ts:=[]) rfl rfl rfl Try.isAgg70 Try.sizeOf70 rfl (.elem _ _ _) rfl rfl rfl rfl ?_
      refine HA_back rfl (kp [nn,nn,yy,yy] [_,_] rfl) ?_
      refine HA_take (i:=8) bp rfl rfl rfl rfl (by kernel_rfl) rfl (V_bin rfl rfl eq70_neq) (kp [nn,nn,yy,yy] [_,_] rfl) ?_
      refine HA_done (by kernel_rfl) ?_
      refine H_env (ρ':=[(24,_),(0,_),(1,_),(12,_),(13,_)]) ⟨rfl,rfl,rfl,rfl,rfl,trivial⟩ ?_
      refine H_world (kp [nn,nn,yy,yy] [_,_] rfl) ?_
      refine H_cond rfl ?_ ?_
      ·intro h24
       (try simp only [decide_eq_true_eq,decide_eq_false_iff_not,Bool.not_eq_true',Bool.not_eq_false',Bool.not_eq_true,Bool.not_eq_false,Bool.true_eq_false,Bool.false_eq_true,not_false_eq_true,not_true_eq_false] at h24)
       replace h24:=Pair.ne_of h24
       refine H_seq ?_
       refine H_region (l:=[_]) rfl ?_
       refine HO_assign rfl rfl rfl ?_
       refine HO_nil ?_
       refine H_env (ρ':=[(4,_)]) ⟨rfl,trivial⟩ ?_
       refine H_world (kp [nn,nn] [] rfl) ?_
       refine H_ret1 Try.results32 (.tmp rfl) (fun w hA => ⟨(),congrArg Ending.returned ?_,?_,?_⟩)
       ·(first | exact congrArg Value.bool (Ent.same_no hz18 hz22 h24).symm | exact congrArg Value.bool (Ent.same_yes hl hI).symm | exact congrArg Value.bool (Ent.same_len h10).symm)
       ·trivial
       ·exact hA.keep (m:=[]) (Y:=[]) rfl
      intro h24
      (try simp only [decide_eq_true_eq,decide_eq_false_iff_not,Bool.not_eq_true',Bool.not_eq_false',Bool.not_eq_true,Bool.not_eq_false,Bool.true_eq_false,Bool.false_eq_true,not_false_eq_true,not_true_eq_false] at h24)
      replace h24:=Pair.eq_of h24
      refine H_skip ?_
      refine H_blk ?_
      refine H_region (l:=[_,_]) rfl ?_
      refine HO_bin rfl rfl rfl rfl (bin_add ?_ ?_) ?_
      ·(first | omega | assumption | decide)
      ·(first | omega | assumption | decide)
      refine HO_move rfl rfl rfl ?_
      refine HO_nil ?_
      refine H_env (ρ':=[(13,_),(0,_),(1,_),(12,_)]) ⟨rfl,rfl,rfl,rfl,trivial⟩ ?_
      refine H_inv (fun a w hf hA => ⟨i + 1,?_,?_,hf.sub ?_,?_⟩)
      ·exact ⟨by omega,Ent.same_next hz18 hz22 hI.2 h24⟩
      ·(try dsimp only);omega
      ·exact ⟨rfl,rfl,rfl,rfl,trivial⟩
      ·exact hA.only (is:=[0,1]) (Z:=[]) rfl
    ·refine HO_loadA (i:=0) (us:=[]) (cs:=[_,_]) (ts:=[]) rfl rfl rfl Try.isAgg70 Try.sizeOf70 rfl (.elem _ _ _) rfl rfl rfl rfl ?_
     refine HA_back rfl (kp [nn,yy,yy] [_,_] rfl) ?_
     refine HA_loud1 (i:=2) (by kernel_rfl) rfl ?_
     refine HO_indexAddr open_Pair (i:=1) rfl rfl rfl rfl rfl Try.underlying31 Try.sizeOf70 rfl ?_ ?_
     ·omega
     intro b18 o18 z18 y18 hz18 hI18
     clear y18
     (try simp only [BIG] at hI18)
     refine HA_back rfl (kp [nn,nn,yy,yy] [_,_] rfl) ?_
     refine HA_loud1 (i:=3) (by kernel_rfl) rfl ?_
     refine HO_loadA (i:=0) (us:=[]) (cs:=[_,_]) (ts:=[]) rfl rfl rfl Try.isAgg70 Try.sizeOf70 rfl (.elem _ _ _) rfl rfl rfl rfl ?_
     refine HA_back rfl (kp [nn,nn,yy,yy] [_,_] rfl) ?_
     refine HA_take (i:=8) bp rfl rfl rfl rfl (by kernel_rfl) rfl (V_bin rfl rfl eq70_neq) (kp [nn,nn,yy,yy] [_,_] rfl) ?_
     refine HA_done (by kernel_rfl) ?_
     refine H_env (ρ':=[(24,_),(0,_),(1,_),(12,_),(13,_)]) ⟨rfl,rfl,rfl,rfl,rfl,trivial⟩ ?_
     refine H_world (kp [nn,nn,yy,yy] [_,_] rfl) ?_
     refine H_cond rfl ?_ ?_
     ·intro h24
      (try simp only [decide_eq_true_eq,decide_eq_false_iff_not,Bool.not_eq_true',Bool.not_eq_false',Bool.not_eq_true,Bool.not_eq_false,Bool.true_eq_false,Bool.false_eq_true,not_false_eq_true,not_true_eq_false] at h24)
      replace h24:=Pair.ne_of h24
      refine H_seq ?_
      refine H_region (l:=[_]) rfl ?_
      refine HO_assign rfl rfl rfl ?_
      refine HO_nil ?_
      refine H_env (ρ':=[(4,_)]) ⟨rfl,trivial⟩ ?_
      refine H_world (kp [nn,nn] [] rfl) ?_
      refine H_ret1 Try.results32 (.tmp rfl) (fun w hA => ⟨(),congrArg Ending.returned ?_,?_,?_⟩)
      ·(first | exact congrArg Value.bool (Ent.same_no hz18 hz22 h24).symm | exact congrArg Value.bool (Ent.same_yes hl hI).symm | exact congrArg Value.bool (Ent.same_len h10).symm)
      ·trivial
      ·exact hA.keep (m:=[]) (Y:=[]) rfl
     intro h24
     (try simp only [decide_eq_true_eq,decide_eq_false_iff_not,Bool.not_eq_true',Bool.not_eq_false',Bool.not_eq_true,Bool.not_eq_false,Bool.true_eq_false,Bool.false_eq_true,not_false_eq_true,not_true_eq_false] at h24)
     replace h24:=Pair.eq_of h24
     refine H_skip ?_
     refine H_blk ?_
     refine H_region (l:=[_,_]) rfl ?_
     refine HO_bin rfl rfl rfl rfl (bin_add ?_ ?_) ?_
     ·(first | omega | assumption | decide)
     ·(first | omega | assumption | decide)
     refine HO_move rfl rfl rfl ?_
     refine HO_nil ?_
     refine H_env (ρ':=[(13,_),(0,_),(1,_),(12,_)]) ⟨rfl,rfl,rfl,rfl,trivial⟩ ?_
     refine H_inv (fun a w hf hA => ⟨i + 1,?_,?_,hf.sub ?_,?_⟩)
     ·exact ⟨by omega,Ent.same_next hz18 hz22 hI.2 h24⟩
     ·(try dsimp only);omega
     ·exact ⟨rfl,rfl,rfl,rfl,trivial⟩
     ·exact hA.only (is:=[0,1]) (Z:=[]) rfl
  intro h14
  replace h14:=dF h14
  refine H_exit rfl ?_
  refine H_seq ?_
  obtain rfl : i = ps.length:=by omega
  refine H_region (l:=[_]) rfl ?_
  refine HO_assign rfl rfl rfl ?_
  refine HO_nil ?_
  refine H_env (ρ':=[(4,_)]) ⟨rfl,trivial⟩ ?_
  refine H_world (kp [nn,nn] [] rfl) ?_
  refine H_ret1 Try.results32 (.tmp rfl) (fun w hA => ⟨(),congrArg Ending.returned ?_,?_,?_⟩)
  ·(first | exact congrArg Value.bool (Ent.same_no hz18 hz22 h24).symm | exact congrArg Value.bool (Ent.same_yes hl hI).symm | exact congrArg Value.bool (Ent.same_len h10).symm)
  ·trivial
  ·exact hA.keep (m:=[]) (Y:=[]) rfl
theorem rsame9_spec (er : Int) (fo : Bool) (va : ByteArray) (se : Int) (ps : List Pair) (a : Option Addr) (c : Nat) (er2 : Int) (fo2 : Bool) (va2 : ByteArray) (se2 : Int) (ps2 : List Pair) (a2 : Option Addr) (c2 : Nat)  : Spec Try.prog 41 #[.agg #[.int .i64 (er),.bool (fo),.string (va),.int .i64 (se),.slice a (ps.length) c],.agg #[.int .i64 (er2),.bool (fo2),.string (va2),.int .i64 (se2),.slice a2 (ps2.length) c2]] [.dat kPair.sl (ps) [.slice a (ps.length) c],.dat kPair.sl (ps2) [.slice a2 (ps2.length) c2]] (β:=Unit) (fun y => .bool (decide ((⟨er,fo,va,se,ps⟩ : Reply) = ⟨er2,fo2,va2,se2,ps2⟩))) (fun y => True) (fun y => []):=by
 refine Spec.enter (vs:=[_,_]) Try.func41 rfl Try.ntmps41 rfl (Nat.le_of_ble_eq_true rfl) (fun w0 ok0 => ?_)
 generalize hM0 : blks _ = M0
 have hMn:=@noM _ _ hM0 (by simp [Atom.dat,Atom.elem])
 refine H_len_le (i:=0) rfl ?_
 intro hlen0
 refine H_len_le (i:=1) rfl ?_
 intro hlen1
 refine H_seq ?_
 refine H_region (l:=[_,_,_]) rfl ?_
 refine HO_box (cs:=[_,_,_,_,_]) rfl rfl rfl rfl ?_
 intro g2
 refine HO_box (cs:=[_,_,_,_,_]) rfl rfl rfl rfl ?_
 intro g3
 refine HO_assign rfl rfl rfl ?_
 refine HO_nil ?_
 refine H_env (ρ':=[(3,_),(2,_)]) ⟨rfl,rfl,trivial⟩ ?_
 refine H_seq ?_
 refine H_region (l:=[_,_,_,_,_,_,_,_,_,_,_,_,_,_,_,_,_,_,_,_,_,_,_,_,_,_,_,_,_,_,_,_,_,_]) rfl ?_
 refine HO_fieldAddr (r:=0) rfl rfl rfl Try.underlying38 rfl Try.sizeOf26 rfl ?_
 refine HO_load1 (i:=1) (j:=0) rfl rfl rfl Try.isAgg26 rfl (.loc _ _ _) rfl rfl ?_
 refine HO_fieldAddr (r:=0) rfl rfl rfl Try.underlying38 rfl Try.sizeOf26 rfl ?_
 refine HO_load1 (i:=0) (j:=0) rfl rfl rfl Try.isAgg26 rfl (.loc _ _ _) rfl rfl ?_
 refine HO_bin rfl rfl rfl rfl bin_eql ?_
 refine HO_move rfl rfl rfl ?_
 refine HO_split (d:=10) rfl ?_ ?_
 ·intro h10
  replace h10:=dT h10
  refine HO_fieldAddr (r:=1) rfl rfl rfl Try.underlying38 rfl Try.sizeOf4 rfl ?_
  refine HO_load1 (i:=1) (j:=1) rfl rfl rfl Try.isAgg4 rfl (.loc _ _ _) rfl rfl ?_
  refine HO_fieldAddr (r:=1) rfl rfl rfl Try.underlying38 rfl Try.sizeOf4 rfl ?_
  refine HO_load1 (i:=0) (j:=1) rfl rfl rfl Try.isAgg4 rfl (.loc _ _ _) rfl rfl ?_
  refine HO_bin rfl rfl rfl rfl (bin_eqb Try.runUnderlying4) ?_
  refine HO_pick_t rfl rfl rfl rfl ?_
  refine HO_move rfl rfl rfl ?_
  refine HO_split (d:=17) rfl ?_ ?_
  ·intro h17
   (try simp only [decide_eq_true_eq,decide_eq_false_iff_not,Bool.not_eq_true',Bool.not_eq_false',Bool.not_eq_true,Bool.not_eq_false,Bool.true_eq_false,Bool.false_eq_true,not_false_eq_true,not_true_eq_false] at h17)
   refine HO_fieldAddr (r:=2) rfl rfl rfl Try.underlying38 rfl Try.sizeOf9 rfl ?_
   refine HO_load1 (i:=1) (j:=2) rfl rfl rfl Try.isAgg9 rfl (.loc _ _ _) rfl rfl ?_
   refine HO_fieldAddr (r:=2) rfl rfl rfl Try.underlying38 rfl Try.sizeOf9 rfl ?_
   refine HO_load1 (i:=0) (j:=2) rfl rfl rfl Try.isAgg9 rfl (.loc _ _ _) rfl rfl ?_
   refine HO_bin rfl rfl rfl rfl bin_eqs ?_
   refine HO_pick_t rfl rfl rfl rfl ?_
   refine HO_move rfl rfl rfl ?_
   refine HO_split (d:=24) rfl ?_ ?_
   ·intro h24
    replace h24:=dT h24
    refine HO_fieldAddr (r:=3) rfl rfl rfl Try.underlying38 rfl Try.sizeOf3 rfl ?_
    refine HO_load1 (i:=1) (j:=3) rfl rfl rfl Try.isAgg3 rfl (.loc _ _ _) rfl rfl ?_
    refine HO_fieldAddr (r:=3) rfl rfl rfl Try.underlying38 rfl Try.sizeOf3 rfl ?_
    refine HO_load1 (i:=0) (j:=3) rfl rfl rfl Try.isAgg3 rfl (.loc _ _ _) rfl rfl ?_
    refine HO_bin rfl rfl rfl rfl bin_eql ?_
    refine HO_pick_t rfl rfl rfl rfl ?_
    refine HO_move rfl rfl rfl ?_
    refine HO_split (d:=31) rfl ?_ ?_
    ·intro h31
     replace h31:=dT h31
     refine HO_fieldAddr (r:=4) rfl rfl rfl Try.underlying38 rfl Try.sizeOf31 rfl ?_
     refine HO_load1 (i:=1) (j:=4) rfl rfl rfl Try.isAgg31 rfl (.loc _ _ _) rfl rfl ?_
     refine HO_fieldAddr (r:=4) rfl rfl rfl Try.underlying38 rfl Try.sizeOf31 rfl ?_
     refine HO_load1 (i:=0) (j:=4) rfl rfl rfl Try.isAgg31 rfl (.loc _ _ _) rfl rfl ?_
     refine HO_dup (i:=2) rfl rfl ?_
     refine HO_dup (i:=4) rfl rfl ?_
     refine HO_call (first:=[]) (capt:=[]) (is:=[0,0]) (R:=[_,_,_,_]) rfl rfl rfl rfl rfl Try.call66 rfl (eqpairs_spec _ _ _ _ _ _) ?_
     intro y36 hy36
     clear y36 hy36
     refine HO_pick_t rfl rfl rfl rfl ?_
     refine HO_assign rfl rfl rfl ?_
     refine HO_nil ?_
     refine H_env (ρ':=[(4,_)]) ⟨rfl,trivial⟩ ?_
     refine H_world (kp [nn,nn,nn,nn] [] rfl) ?_
     refine H_ret1 Try.results41 (.tmp rfl) (fun w hA => ⟨(),congrArg Ending.returned ?_,?_,?_⟩)
     ·(exact congrArg Value.bool (by first | (simp [*];done) | (simp_all;done) | (simp_all;intros;simp_all)))
     ·trivial
     ·exact hA.keep (m:=[]) (Y:=[]) rfl
    intro h31
    replace h31:=dF h31
    iterate 5 refine HO_no rfl rfl rfl ?_
    refine HO_pick_f rfl rfl rfl rfl ?_
    refine HO_assign rfl rfl rfl ?_
    refine HO_nil ?_
    refine H_env (ρ':=[(4,_)]) ⟨rfl,trivial⟩ ?_
    refine H_world (kp [nn,nn,nn,nn] [] rfl) ?_
    refine H_ret1 Try.results41 (.tmp rfl) (fun w hA => ⟨(),congrArg Ending.returned ?_,?_,?_⟩)
    ·(exact congrArg Value.bool (by first | (simp [*];done) | (simp_all;done) | (simp_all;intros;simp_all)))
    ·trivial
    ·exact hA.keep (m:=[]) (Y:=[]) rfl
   intro h24
   replace h24:=dF h24
   iterate 5 refine HO_no rfl rfl rfl ?_
   refine HO_pick_f rfl rfl rfl rfl ?_
   refine HO_move rfl rfl rfl ?_
   iterate 5 refine HO_no rfl rfl rfl ?_
   refine HO_pick_f rfl rfl rfl rfl ?_
   refine HO_assign rfl rfl rfl ?_
   refine HO_nil ?_
   refine H_env (ρ':=[(4,_)]) ⟨rfl,trivial⟩ ?_
   refine H_world (kp [nn,nn,nn,nn] [] rfl) ?_
   refine H_ret1 Try.results41 (.tmp rfl) (fun w hA => ⟨(),congrArg Ending.returned ?_,?_,?_⟩)
   ·(exact congrArg Value.bool (by first | (simp [*];done) | (simp_all;done) | (simp_all;intros;simp_all)))
   ·trivial
   ·exact hA.keep (m:=[]) (Y:=[]) rfl
  intro h17
  (try simp only [decide_eq_true_eq,decide_eq_false_iff_not,Bool.not_eq_true',Bool.not_eq_false',Bool.not_eq_true,Bool.not_eq_false,Bool.true_eq_false,Bool.false_eq_true,not_false_eq_true,not_true_eq_false] at h17)
  iterate 5 refine HO_no rfl rfl rfl ?_
  refine HO_pick_f rfl rfl rfl rfl ?_
  refine HO_move rfl rfl rfl ?_
  iterate 5 refine HO_no rfl rfl rfl ?_
  refine HO_pick_f rfl rfl rfl rfl ?_
  refine HO_move rfl rfl rfl ?_
  iterate 5 refine HO_no rfl rfl rfl ?_
  refine HO_pick_f rfl rfl rfl rfl ?_
  refine HO_assign rfl rfl rfl ?_
  refine HO_nil ?_
  refine H_env (ρ':=[(4,_)]) ⟨rfl,trivial⟩ ?_
  refine H_world (kp [nn,nn,nn,nn] [] rfl) ?_
  refine H_ret1 Try.results41 (.tmp rfl) (fun w hA => ⟨(),congrArg Ending.returned ?_,?_,?_⟩)
  ·(exact congrArg Value.bool (by first | (simp [*];done) | (simp_all;done) | (simp_all;intros;simp_all)))
  ·trivial
  ·exact hA.keep (m:=[]) (Y:=[]) rfl
 intro h10
 replace h10:=dF h10
 iterate 5 refine HO_no rfl rfl rfl ?_
 refine HO_pick_f rfl rfl rfl rfl ?_
 refine HO_move rfl rfl rfl ?_
 iterate 5 refine HO_no rfl rfl rfl ?_
 refine HO_pick_f rfl rfl rfl rfl ?_
 refine HO_move rfl rfl rfl ?_
 iterate 5 refine HO_no rfl rfl rfl ?_
 refine HO_pick_f rfl rfl rfl rfl ?_
 refine HO_move rfl rfl rfl ?_
 iterate 5 refine HO_no rfl rfl rfl ?_
 refine HO_pick_f rfl rfl rfl rfl ?_
 refine HO_assign rfl rfl rfl ?_
 refine HO_nil ?_
 refine H_env (ρ':=[(4,_)]) ⟨rfl,trivial⟩ ?_
 refine H_world (kp [nn,nn,nn,nn] [] rfl) ?_
 refine H_ret1 Try.results41 (.tmp rfl) (fun w hA => ⟨(),congrArg Ending.returned ?_,?_,?_⟩)
 ·(exact congrArg Value.bool (by first | (simp [*];done) | (simp_all;done) | (simp_all;intros;simp_all)))
 ·trivial
 ·exact hA.keep (m:=[]) (Y:=[]) rfl
theorem rrsame9_spec (er : Int) (fo : Bool) (va : ByteArray) (se : Int) (ps : List Pair) (a : Option Addr) (c : Nat) (er2 : Int) (fo2 : Bool) (va2 : ByteArray) (se2 : Int) (ps2 : List Pair) (a2 : Option Addr) (c2 : Nat)  : Spec Try.prog 19 #[.agg #[.int .i64 (er),.bool (fo),.string (va),.int .i64 (se),.slice a (ps.length) c],.agg #[.int .i64 (er2),.bool (fo2),.string (va2),.int .i64 (se2),.slice a2 (ps2.length) c2]] [.dat kPair.sl (ps) [.slice a (ps.length) c],.dat kPair.sl (ps2) [.slice a2 (ps2.length) c2]] (β:=Unit) (fun y => .bool (decide ((⟨er,fo,va,se,ps⟩ : Reply) = ⟨er2,fo2,va2,se2,ps2⟩))) (fun y => True) (fun y => []):=by
 refine Spec.enter (vs:=[_,_]) Try.func19 rfl Try.ntmps19 rfl (Nat.le_of_ble_eq_true rfl) (fun w0 ok0 => ?_)
 generalize hM0 : blks _ = M0
 have hMn:=@noM _ _ hM0 (by simp [Atom.dat,Atom.elem])
 refine H_len_le (i:=0) rfl ?_
 intro hlen0
 refine H_len_le (i:=1) rfl ?_
 intro hlen1
 refine H_seq ?_
 refine H_region (l:=[_,_,_]) rfl ?_
 refine HO_box (cs:=[_,_,_,_,_]) rfl rfl rfl rfl ?_
 intro g2
 refine HO_box (cs:=[_,_,_,_,_]) rfl rfl rfl rfl ?_
 intro g3
 refine HO_assign rfl rfl rfl ?_
 refine HO_nil ?_
 refine H_env (ρ':=[(3,_),(2,_)]) ⟨rfl,rfl,trivial⟩ ?_
 refine H_seq ?_
 refine H_region (l:=[_,_,_,_,_,_,_,_,_,_,_,_,_,_,_,_,_,_,_,_,_,_,_,_,_,_,_,_,_,_,_,_,_,_]) rfl ?_
 refine HO_fieldAddr (r:=0) rfl rfl rfl Try.underlying38 rfl Try.sizeOf26 rfl ?_
 refine HO_load1 (i:=1) (j:=0) rfl rfl rfl Try.isAgg26 rfl (.loc _ _ _) rfl rfl ?_
 refine HO_fieldAddr (r:=0) rfl rfl rfl Try.underlying38 rfl Try.sizeOf26 rfl ?_
 refine HO_load1 (i:=0) (j:=0) rfl rfl rfl Try.isAgg26 rfl (.loc _ _ _) rfl rfl ?_
 refine HO_bin rfl rfl rfl rfl bin_eql ?_
 refine HO_move rfl rfl rfl ?_
 refine HO_split (d:=10) rfl ?_ ?_
 ·intro h10
  replace h10:=dT h10
  refine HO_fieldAddr (r:=1) rfl rfl rfl Try.underlying38 rfl Try.sizeOf4 rfl ?_
  refine HO_load1 (i:=1) (j:=1) rfl rfl rfl Try.isAgg4 rfl (.loc _ _ _) rfl rfl ?_
  refine HO_fieldAddr (r:=1) rfl rfl rfl Try.underlying38 rfl Try.sizeOf4 rfl ?_
  refine HO_load1 (i:=0) (j:=1) rfl rfl rfl Try.isAgg4 rfl (.loc _ _ _) rfl rfl ?_
  refine HO_bin rfl rfl rfl rfl (bin_eqb Try.runUnderlying4) ?_
  refine HO_pick_t rfl rfl rfl rfl ?_
  refine HO_move rfl rfl rfl ?_
  refine HO_split (d:=17) rfl ?_ ?_
  ·intro h17
   (try simp only [decide_eq_true_eq,decide_eq_false_iff_not,Bool.not_eq_true',Bool.not_eq_false',Bool.not_eq_true,Bool.not_eq_false,Bool.true_eq_false,Bool.false_eq_true,not_false_eq_true,not_true_eq_false] at h17)
   refine HO_fieldAddr (r:=2) rfl rfl rfl Try.underlying38 rfl Try.sizeOf9 rfl ?_
   refine HO_load1 (i:=1) (j:=2) rfl rfl rfl Try.isAgg9 rfl (.loc _ _ _) rfl rfl ?_
   refine HO_fieldAddr (r:=2) rfl rfl rfl Try.underlying38 rfl Try.sizeOf9 rfl ?_
   refine HO_load1 (i:=0) (j:=2) rfl rfl rfl Try.isAgg9 rfl (.loc _ _ _) rfl rfl ?_
   refine HO_bin rfl rfl rfl rfl bin_eqs ?_
   refine HO_pick_t rfl rfl rfl rfl ?_
   refine HO_move rfl rfl rfl ?_
   refine HO_split (d:=24) rfl ?_ ?_
   ·intro h24
    replace h24:=dT h24
    refine HO_fieldAddr (r:=3) rfl rfl rfl Try.underlying38 rfl Try.sizeOf3 rfl ?_
    refine HO_load1 (i:=1) (j:=3) rfl rfl rfl Try.isAgg3 rfl (.loc _ _ _) rfl rfl ?_
    refine HO_fieldAddr (r:=3) rfl rfl rfl Try.underlying38 rfl Try.sizeOf3 rfl ?_
    refine HO_load1 (i:=0) (j:=3) rfl rfl rfl Try.isAgg3 rfl (.loc _ _ _) rfl rfl ?_
    refine HO_bin rfl rfl rfl rfl bin_eql ?_
    refine HO_pick_t rfl rfl rfl rfl ?_
    refine HO_move rfl rfl rfl ?_
    refine HO_split (d:=31) rfl ?_ ?_
    ·intro h31
     replace h31:=dT h31
     refine HO_fieldAddr (r:=4) rfl rfl rfl Try.underlying38 rfl Try.sizeOf31 rfl ?_
     refine HO_load1 (i:=1) (j:=4) rfl rfl rfl Try.isAgg31 rfl (.loc _ _ _) rfl rfl ?_
     refine HO_fieldAddr (r:=4) rfl rfl rfl Try.underlying38 rfl Try.sizeOf31 rfl ?_
     refine HO_load1 (i:=0) (j:=4) rfl rfl rfl Try.isAgg31 rfl (.loc _ _ _) rfl rfl ?_
     refine HO_dup (i:=2) rfl rfl ?_
     refine HO_dup (i:=4) rfl rfl ?_
     refine HO_call (first:=[]) (capt:=[]) (is:=[0,0]) (R:=[_,_,_,_]) rfl rfl rfl rfl rfl Try.call32 rfl (reqpairs_spec _ _ _ _ _ _) ?_
     intro y36 hy36
     clear y36 hy36
     refine HO_pick_t rfl rfl rfl rfl ?_
     refine HO_assign rfl rfl rfl ?_
     refine HO_nil ?_
     refine H_env (ρ':=[(4,_)]) ⟨rfl,trivial⟩ ?_
     refine H_world (kp [nn,nn,nn,nn] [] rfl) ?_
     refine H_ret1 Try.results19 (.tmp rfl) (fun w hA => ⟨(),congrArg Ending.returned ?_,?_,?_⟩)
     ·(exact congrArg Value.bool (by first | (simp [*];done) | (simp_all;done) | (simp_all;intros;simp_all)))
     ·trivial
     ·exact hA.keep (m:=[]) (Y:=[]) rfl
    intro h31
    replace h31:=dF h31
    iterate 5 refine HO_no rfl rfl rfl ?_
    refine HO_pick_f rfl rfl rfl rfl ?_
    refine HO_assign rfl rfl rfl ?_
    refine HO_nil ?_
    refine H_env (ρ':=[(4,_)]) ⟨rfl,trivial⟩ ?_
    refine H_world (kp [nn,nn,nn,nn] [] rfl) ?_
    refine H_ret1 Try.results19 (.tmp rfl) (fun w hA => ⟨(),congrArg Ending.returned ?_,?_,?_⟩)
    ·(exact congrArg Value.bool (by first | (simp [*];done) | (simp_all;done) | (simp_all;intros;simp_all)))
    ·trivial
    ·exact hA.keep (m:=[]) (Y:=[]) rfl
   intro h24
   replace h24:=dF h24
   iterate 5 refine HO_no rfl rfl rfl ?_
   refine HO_pick_f rfl rfl rfl rfl ?_
   refine HO_move rfl rfl rfl ?_
   iterate 5 refine HO_no rfl rfl rfl ?_
   refine HO_pick_f rfl rfl rfl rfl ?_
   refine HO_assign rfl rfl rfl ?_
   refine HO_nil ?_
   refine H_env (ρ':=[(4,_)]) ⟨rfl,trivial⟩ ?_
   refine H_world (kp [nn,nn,nn,nn] [] rfl) ?_
   refine H_ret1 Try.results19 (.tmp rfl) (fun w hA => ⟨(),congrArg Ending.returned ?_,?_,?_⟩)
   ·(exact congrArg Value.bool (by first | (simp [*];done) | (simp_all;done) | (simp_all;intros;simp_all)))
   ·trivial
   ·exact hA.keep (m:=[]) (Y:=[]) rfl
  intro h17
  (try simp only [decide_eq_true_eq,decide_eq_false_iff_not,Bool.not_eq_true',Bool.not_eq_false',Bool.not_eq_true,Bool.not_eq_false,Bool.true_eq_false,Bool.false_eq_true,not_false_eq_true,not_true_eq_false] at h17)
  iterate 5 refine HO_no rfl rfl rfl ?_
  refine HO_pick_f rfl rfl rfl rfl ?_
  refine HO_move rfl rfl rfl ?_
  iterate 5 refine HO_no rfl rfl rfl ?_
  refine HO_pick_f rfl rfl rfl rfl ?_
  refine HO_move rfl rfl rfl ?_
  iterate 5 refine HO_no rfl rfl rfl ?_
  refine HO_pick_f rfl rfl rfl rfl ?_
  refine HO_assign rfl rfl rfl ?_
  refine HO_nil ?_
  refine H_env (ρ':=[(4,_)]) ⟨rfl,trivial⟩ ?_
  refine H_world (kp [nn,nn,nn,nn] [] rfl) ?_
  refine H_ret1 Try.results19 (.tmp rfl) (fun w hA => ⟨(),congrArg Ending.returned ?_,?_,?_⟩)
  ·(exact congrArg Value.bool (by first | (simp [*];done) | (simp_all;done) | (simp_all;intros;simp_all)))
  ·trivial
  ·exact hA.keep (m:=[]) (Y:=[]) rfl
 intro h10
 replace h10:=dF h10
 iterate 5 refine HO_no rfl rfl rfl ?_
 refine HO_pick_f rfl rfl rfl rfl ?_
 refine HO_move rfl rfl rfl ?_
 iterate 5 refine HO_no rfl rfl rfl ?_
 refine HO_pick_f rfl rfl rfl rfl ?_
 refine HO_move rfl rfl rfl ?_
 iterate 5 refine HO_no rfl rfl rfl ?_
 refine HO_pick_f rfl rfl rfl rfl ?_
 refine HO_move rfl rfl rfl ?_
 iterate 5 refine HO_no rfl rfl rfl ?_
 refine HO_pick_f rfl rfl rfl rfl ?_
 refine HO_assign rfl rfl rfl ?_
 refine HO_nil ?_
 refine H_env (ρ':=[(4,_)]) ⟨rfl,trivial⟩ ?_
 refine H_world (kp [nn,nn,nn,nn] [] rfl) ?_
 refine H_ret1 Try.results19 (.tmp rfl) (fun w hA => ⟨(),congrArg Ending.returned ?_,?_,?_⟩)
 ·(exact congrArg Value.bool (by first | (simp [*];done) | (simp_all;done) | (simp_all;intros;simp_all)))
 ·trivial
 ·exact hA.keep (m:=[]) (Y:=[]) rfl
end Go.Wk
