/- Contracts of the program's functions, each proved by walking its code. -/
import Derived.Test.YtdaphlemhmgncaaGreatKglaw24
import Derived.Test.YtdaphlemhmgncaaGreatNet2
set_option maxRecDepth 100000
set_option linter.unusedVariables false
set_option linter.unusedSimpArgs false
namespace Go.Wk.Flaw24b
open Go Go.RowKit Go.Proofs Go.Wk

end Go.Wk.Flaw24b
namespace Go.Wk
open Go Go.RowKit Go.Proofs Flaw24b 
set_option maxHeartbeats 0 in
theorem NetDoubles_spec (mk mf mt me mi ml mc mr : Int) (rj : Bool) (hi : Int) (es : List Ent) (a9 : Option Addr) (c9 : Nat) (ix te : Int) (vo le : List Int) (a1 : Option Addr) (c1 : Nat) (a2 : Option Addr) (c2 : Nat) (da : List UInt8) (a3 : Option Addr) (c3 : Nat) (bit : Nat) (nd : da.length≤BIG) (n1 : vo.length≤BIG) (n2 : le.length≤BIG) (hm : (-9223372036854775808≤mk∧mk≤9223372036854775807)∧(-9223372036854775808≤mf∧mf≤9223372036854775807)∧(-9223372036854775808≤mt∧mt≤9223372036854775807)∧(-9223372036854775808≤me∧me≤9223372036854775807)∧(-9223372036854775808≤mi∧mi≤9223372036854775807)∧(-9223372036854775808≤ml∧ml≤9223372036854775807)∧(-9223372036854775808≤mc∧mc≤9223372036854775807)∧(-9223372036854775808≤mr∧mr≤9223372036854775807)) (hhi : (-9223372036854775808≤hi∧hi≤9223372036854775807)) (hrs : (-9223372036854775808≤ix∧ix≤9223372036854775807)∧(-9223372036854775808≤te∧te≤9223372036854775807)) (hsn : Ent.sanes es) (rv : ∀ x ∈ vo,Ent.rng x) (rl : ∀ x ∈ le,Ent.rng x) (hbit : bit < 18446744073709551616) : Spec Tryz.prog 5 #[.agg #[.int .i64 (mk),.int .i64 (mf),.int .i64 (mt),.int .i64 (me),.int .i64 (mi),.int .i64 (ml),.int .i64 (mc),.int .i64 (mr),.bool (rj),.int .i64 (hi),.slice a9 (es.length) c9,.int .i64 (ix),.int .i64 (te),.slice a1 (vo.length) c1,.slice a2 (le.length) c2,.slice a3 (da.length) c3],.int .u64 ((bit : Int))] [.dat kEnt.sl (es) [.slice a9 (es.length) c9],.dat kInt.sl (vo) [.slice a1 (vo.length) c1],.dat kInt.sl (le) [.slice a2 (le.length) c2],.dat kByte.sl (da) [.slice a3 (da.length) c3]] (β:=Unit) (fun y => .bool (true)) (fun y => True) (fun y => []):=by
 (try simp only [BIG] at nd n1 n2)
 refine Spec.enter (vs:=[_,_]) Tryz.func5 rfl Tryz.ntmps5 rfl (Nat.le_of_ble_eq_true rfl) (fun w0 ok0 => ?_)
 generalize hM0 : blks _ = M0
 have hMn:=@noM _ _ hM0 (by simp [Atom.dat,Atom.elem])
 refine H_len_le (i:=0) rfl ?_
 intro hlen0
 refine H_len_le (i:=1) rfl ?_
 intro hlen1
 refine H_len_le (i:=2) rfl ?_
 intro hlen2
 refine H_seq ?_
 refine H_region (l:=[_,_]) rfl ?_
 refine HO_box (cs:=[_,_,_,_,_,_,_,_,_,_,_,_,_,_,_,_]) rfl rfl rfl rfl ?_
 intro g2
 refine HO_assign rfl rfl rfl ?_
 refine HO_nil ?_
 refine H_env (ρ':=[(2,_),(1,_)]) ⟨rfl,rfl,trivial⟩ ?_
 refine H_seq ?_
 refine H_region (l:=[_,_]) rfl ?_
 refine HO_call (first:=[]) (capt:=[]) (is:=[]) (R:=[_,_,_,_,_]) rfl rfl rfl rfl rfl Tryz.call6 rfl (new_ok _ ?_) ?_
 ·decide
 intro y12 hy12
 refine HO_assign rfl rfl rfl ?_
 refine HO_nil ?_
 refine H_env (ρ':=[(5,_),(2,_),(1,_)]) ⟨rfl,rfl,rfl,trivial⟩ ?_
 refine H_seq ?_
 refine H_seq ?_
 refine H_region (l:=[_,_,_,_,_,_,_]) rfl ?_
 refine HO_move rfl rfl rfl ?_
 refine HO_bin (r:=.bool false) rfl rfl rfl rfl (bin_ptr_eq_pn Tryz.runUnderlying23) ?_
 refine HO_move rfl rfl rfl ?_
 refine HO_loadA (i:=1) (us:=[]) (cs:=[_,_,_,_,_,_,_,_,_,_,_,_,_,_,_,_]) (ts:=[]) rfl rfl rfl Tryz.isAgg36 Tryz.sizeOf36 rfl (.loc _ _ _) rfl rfl rfl rfl ?_
 refine HO_dup (i:=2) rfl rfl ?_
 refine HO_dup (i:=4) rfl rfl ?_
 refine HO_dup (i:=6) rfl rfl ?_
 refine HO_dup (i:=8) rfl rfl ?_
 refine HO_call (first:=[]) (capt:=[]) (is:=[0,0,0,0]) (R:=[_,_,_,_,_,_]) rfl rfl rfl rfl rfl Tryz.call9 rfl (few24_spec _ _ _ _ _ _ _ _ _ _ _ _ _ _ _ _ _ _ _ _ _ _ _ _ ?_ ?_ ?_) ?_
 ·(dsimp only [BIG];omega)
 ·(dsimp only [BIG];omega)
 ·(dsimp only [BIG];omega)
 intro y17 hy17
 clear y17 hy17
 refine HO_not rfl rfl rfl ?_
 refine HO_pick_f rfl rfl rfl rfl ?_
 refine HO_nil ?_
 refine H_env (ρ':=[(19,_),(5,_),(2,_),(1,_)]) ⟨rfl,rfl,rfl,rfl,trivial⟩ ?_
 refine H_cond rfl ?_ ?_
 ·intro h19
  replace h19:=nT h19
  refine H_seq ?_
  refine H_region (l:=[_,_,_,_,_,_]) rfl ?_
  refine HO_move rfl rfl rfl ?_
  refine HO_bin (r:=.bool true) rfl rfl rfl rfl (bin_ptr_ne_pn Tryz.runUnderlying23) ?_
  refine HO_move rfl rfl rfl ?_
  refine HO_call (first:=[]) (capt:=[]) (is:=[]) (R:=[_,_,_,_,_,_]) rfl rfl rfl rfl rfl Tryz.call8 rfl lives24_spec ?_
  intro y23 hy23
  clear y23 hy23
  refine HO_pick_t rfl rfl rfl rfl ?_
  refine HO_assign rfl rfl rfl ?_
  refine HO_nil ?_
  refine H_env (ρ':=[(4,_)]) ⟨rfl,trivial⟩ ?_
  refine H_world (kp [nn,nn,nn,nn,nn,nn] [] rfl) ?_
  refine H_ret1 Tryz.results5 (.tmp rfl) (fun w hA => ⟨(),congrArg Ending.returned ?_,?_,?_⟩)
  ·(exact congrArg Value.bool (by first | rfl | assumption | simp_all))
  ·trivial
  ·exact hA.keep (m:=[]) (Y:=[]) rfl
 intro h19
 replace h19:=nF h19
 refine H_skip ?_
 refine H_seq ?_
 refine H_seq ?_
 have hfw:=Net.few_more h19
 have hfp:=Ent.few_parts hfw
 dsimp only at hfp
 have hsm : Ent.saneM ⟨mk,mf,mt,me,mi,ml,mc,mr,rj,hi,es,⟨ix,te,⟨vo,le⟩,da⟩⟩:=⟨⟨hm.1,hm.2.1,hm.2.2.1,hm.2.2.2.1,hm.2.2.2.2.1,hm.2.2.2.2.2.1,hm.2.2.2.2.2.2.1,hm.2.2.2.2.2.2.2,hhi⟩,Ent.wholes_of hsn hfp.1,hrs.1,hrs.2,by dsimp only;omega,by dsimp only;omega,rv,rl,by dsimp only;omega⟩
 refine H_own0 kHd 32 none ?_
 refine H_region (l:=[_,_,_,_]) rfl ?_
 refine HO_move rfl rfl rfl ?_
 refine HO_loadA (i:=2) (us:=[]) (cs:=[_,_,_,_,_,_,_,_,_,_,_,_,_,_,_,_]) (ts:=[]) rfl rfl rfl Tryz.isAgg36 Tryz.sizeOf36 rfl (.loc _ _ _) rfl rfl rfl rfl ?_
 refine HO_dup (i:=3) rfl rfl ?_
 refine HO_dup (i:=5) rfl rfl ?_
 refine HO_dup (i:=7) rfl rfl ?_
 refine HO_dup (i:=9) rfl rfl ?_
 refine HO_call (first:=[]) (capt:=[]) (is:=[0,0,0,0,0,0]) (R:=[_,_,_,_,_]) rfl rfl rfl rfl rfl Tryz.call10 rfl (send_spec y12 none 0 [] 3 mk mf mt me mi ml mc mr rj hi es a9 c9 ix te vo le a1 c1 a2 c2 da a3 c3 ?_ ?_ ?_ ?_ ?_ ?_ ?_ ?_ ?_ ?_) ?_
 ·decide
 ·decide
 ·(dsimp only [BIG];omega)
 ·(dsimp only [BIG];omega)
 ·(dsimp only [BIG];omega)
 ·exact hm
 ·exact hhi
 ·exact hrs
 ·exact hsn
 ·exact hfw
 intro y27 hy27
 refine HO_bin rfl rfl rfl rfl bin_neq ?_
 refine HO_nil ?_
 refine H_env (ρ':=[(28,_),(5,_),(2,_),(1,_)]) ⟨rfl,rfl,rfl,rfl,trivial⟩ ?_
 refine H_cond rfl ?_ ?_
 ·intro h28
  replace h28:=dT h28
  have hng : Ent.goodMsg ⟨mk,mf,mt,me,mi,ml,mc,mr,rj,hi,es,⟨ix,te,⟨vo,le⟩,da⟩⟩ = false:=by cases hgg : Ent.goodMsg ⟨mk,mf,mt,me,mi,ml,mc,mr,rj,hi,es,⟨ix,te,⟨vo,le⟩,da⟩⟩ with | false => rfl | true => exact absurd ((Net.sendE_yes (by decide)).2 hgg) h28
  have hno : ¬ Net.sendP 3 ([] : List Hd).length ⟨mk,mf,mt,me,mi,ml,mc,mr,rj,hi,es,⟨ix,te,⟨vo,le⟩,da⟩⟩:=fun h => absurd (hng.symm.trans h.1) (by decide)
  rw [Net.sendH_no hno,Net.sendB_no hno]
  refine H_seq ?_
  refine H_region (l:=[_,_,_,_,_,_,_,_,_,_,_,_]) rfl ?_
  refine HO_loadA (i:=3) (us:=[]) (cs:=[_,_,_,_,_,_,_,_,_,_,_,_,_,_,_,_]) (ts:=[]) rfl rfl rfl Tryz.isAgg36 Tryz.sizeOf36 rfl (.loc _ _ _) rfl rfl rfl rfl ?_
  refine HO_dup (i:=4) rfl rfl ?_
  refine HO_dup (i:=6) rfl rfl ?_
  refine HO_dup (i:=8) rfl rfl ?_
  refine HO_dup (i:=10) rfl rfl ?_
  refine HO_call (first:=[]) (capt:=[]) (is:=[0,0,0,0]) (R:=[_,_,_,_,_,_,_,_]) rfl rfl rfl rfl rfl Tryz.call24 rfl (rgoodmsg_spec _ _ _ _ _ _ _ _ _ _ _ _ _ _ _ _ _ _ _ _ _ _ _ _ ?_ ?_ ?_ ?_) ?_
  ·(dsimp only [BIG];omega)
  ·(dsimp only [BIG];omega)
  ·(dsimp only [BIG];omega)
  ·exact hm.2.2.2.2.1.2
  intro y30 hy30
  clear y30 hy30
  refine HO_set (v':=.bool (false)) 30 rfl (by exact congrArg Value.bool hng) ?_
  refine HO_not rfl rfl rfl ?_
  iterate 2 refine HO_move rfl rfl rfl ?_
  refine HO_call (first:=[]) (capt:=[]) (is:=[0]) (R:=[_,_,_,_,_,_,_]) rfl rfl rfl rfl rfl Tryz.call23 rfl (len_spec _ _ _ _ _ ?_) ?_
  ·decide
  intro y34 hy34
  clear y34 hy34
  refine HO_bin rfl rfl rfl rfl bin_eql ?_
  refine HO_set (v':=.bool (true)) 35 rfl (by exact congrArg Value.bool (decide_eq_true rfl)) ?_
  refine HO_pick_t rfl rfl rfl rfl ?_
  refine HO_move rfl rfl rfl ?_
  refine HO_call (first:=[]) (capt:=[]) (is:=[]) (R:=[_,_,_,_,_,_,_,_]) rfl rfl rfl rfl rfl Tryz.call8 rfl lives24_spec ?_
  intro y38 hy38
  clear y38 hy38
  refine HO_pick_t rfl rfl rfl rfl ?_
  refine HO_assign rfl rfl rfl ?_
  refine HO_nil ?_
  refine H_env (ρ':=[(4,_)]) ⟨rfl,trivial⟩ ?_
  refine H_world (kp [nn,nn,yy,nn,nn,nn,nn,nn] [_] rfl) ?_
  refine H_ret1 Tryz.results5 (.tmp rfl) (fun w hA => ⟨(),congrArg Ending.returned ?_,?_,?_⟩)
  ·(exact congrArg Value.bool (by first | rfl | assumption | simp_all))
  ·trivial
  ·exact hA.keep (m:=[nn]) (Y:=[]) rfl
 intro h28
 replace h28:=dF h28
 have hg : Ent.goodMsg ⟨mk,mf,mt,me,mi,ml,mc,mr,rj,hi,es,⟨ix,te,⟨vo,le⟩,da⟩⟩ = true:=(Net.sendE_yes (by decide)).1 (Decidable.not_not.1 h28)
 have hs1 : Net.sendP 3 ([] : List Hd).length ⟨mk,mf,mt,me,mi,ml,mc,mr,rj,hi,es,⟨ix,te,⟨vo,le⟩,da⟩⟩:=⟨hg,by decide⟩
 rw [Net.sendH_yes hs1,Net.sendB_yes hs1]
 obtain ⟨F,hF⟩ : ∃ F,Cod.frame (Ent.msgB ⟨mk,mf,mt,me,mi,ml,mc,mr,rj,hi,es,⟨ix,te,⟨vo,le⟩,da⟩⟩) = F:=⟨_,rfl⟩
 have hk : ∀ (i : Int) (n : Nat),Net.ix i n < n→Net.look i n F = (⟨mk,mf,mt,me,mi,ml,mc,mr,rj,hi,es,⟨ix,te,⟨vo,le⟩,da⟩⟩,0):=fun i n h => by rw [← hF];exact Net.look_sent hsm hg hfw h
 have hq : bit / 8 % 14 < 14∧bit % 8 < 8:=by omega
 have hb : Net.look 0 1 (Net.spl F ((4 + bit / 8 % 14 : Nat) : Int) ((bit % 8 : Nat) : Int)) = (Ent.zeroM,8):=by rw [← hF];exact Net.look_spoilt hfw hq.1 hq.2 (by decide)
 have ho : Net.splE 0 3 F ((4 + bit / 8 % 14 : Nat) : Int) ((bit % 8 : Nat) : Int) = 0:=by rw [← hF];exact Net.spoil_ok hfw hq.1 hq.2 (by decide)
 have hfl:=Net.sent_len (m:=⟨mk,mf,mt,me,mi,ml,mc,mr,rj,hi,es,⟨ix,te,⟨vo,le⟩,da⟩⟩) hfw
 rw [hF] at hfl ⊢
 refine H_skip ?_
 refine H_seq ?_
 refine H_seq ?_
 refine H_region (l:=[_,_,_,_,_,_,_,_,_,_,_,_,_,_,_,_,_,_,_,_,_,_,_,_,_,_,_,_,_,_,_]) rfl ?_
 refine HO_move rfl rfl rfl ?_
 refine HO_call (first:=[]) (capt:=[]) (is:=[0,1,2]) (R:=[_,_,_,_,_]) rfl rfl rfl rfl rfl Tryz.call19 rfl (double_spec _ _ _ _ _ _ _ _ _ ?_ ?_ ?_ ?_) ?_
 ·decide
 ·(simp)
 ·(exact fun _ => rfl)
 ·exact hfl.1
 intro y41 hy41
 rw [Net.dblH_yes,Net.dblB_yes]
 rotate_left
 ·exact (show Net.dblP 3 1 0 by decide)
 ·exact (show Net.dblP 3 1 0 by decide)
 refine HO_bin rfl rfl rfl rfl bin_neq ?_
 refine HO_set (v':=.bool (false)) 42 rfl (by exact congrArg Value.bool (show decide (Net.dblE 3 1 0 ≠ 0) = false by decide +kernel)) ?_
 iterate 2 refine HO_move rfl rfl rfl ?_
 refine HO_call (first:=[]) (capt:=[]) (is:=[0,1,3]) (R:=[_,_,_,_,_,_]) rfl rfl rfl rfl rfl Tryz.call19 rfl (double_spec _ _ _ _ _ _ _ _ _ ?_ ?_ ?_ ?_) ?_
 ·decide
 ·(simp)
 ·(exact fun _ => rfl)
 ·exact hfl.1
 intro y45 hy45
 rw [Net.dblH_yes,Net.dblB_yes]
 rotate_left
 ·exact (show Net.dblP 3 2 1 by decide)
 ·exact (show Net.dblP 3 2 1 by decide)
 refine HO_bin rfl rfl rfl rfl bin_neq ?_
 refine HO_set (v':=.bool (false)) 46 rfl (by exact congrArg Value.bool (show decide (Net.dblE 3 2 1 ≠ 0) = false by decide +kernel)) ?_
 refine HO_pick_f rfl rfl rfl rfl ?_
 iterate 2 refine HO_move rfl rfl rfl ?_
 refine HO_call (first:=[]) (capt:=[]) (is:=[0,1,4]) (R:=[_,_,_,_,_,_,_]) rfl rfl rfl rfl rfl Tryz.call19 rfl (double_spec _ _ _ _ _ _ _ _ _ ?_ ?_ ?_ ?_) ?_
 ·decide
 ·(simp)
 ·(exact fun _ => rfl)
 ·exact hfl.1
 intro y50 hy50
 rw [Net.dblH_no (show ¬ Net.dblP 3 3 0 by decide)]
 refine HO_bin rfl rfl rfl rfl bin_neq ?_
 refine HO_set (v':=.bool (false)) 51 rfl (by exact congrArg Value.bool (show decide (Net.dblE 3 3 0 ≠ 7) = false by decide +kernel)) ?_
 refine HO_pick_f rfl rfl rfl rfl ?_
 iterate 2 refine HO_move rfl rfl rfl ?_
 refine HO_call (first:=[]) (capt:=[]) (is:=[0]) (R:=[_,_,_,_,_,_,_,_,_,_]) rfl rfl rfl rfl rfl Tryz.call23 rfl (len_spec _ _ _ _ _ ?_) ?_
 ·decide
 intro y55 hy55
 clear y55 hy55
 refine HO_bin rfl rfl rfl rfl bin_neq ?_
 refine HO_set (v':=.bool (false)) 56 rfl (by exact congrArg Value.bool (show decide (((3 : Nat) : Int) ≠ 3) = false by decide +kernel)) ?_
 refine HO_pick_f rfl rfl rfl rfl ?_
 iterate 3 refine HO_move rfl rfl rfl ?_
 refine HO_bin rfl rfl rfl rfl (bin_quou (b:=8) rfl ?_ ?_) ?_
 ·(simp only [IntKind.bits];omega)
 ·decide
 refine HO_bin rfl rfl rfl rfl (bin_remu (b:=14) ?_) ?_
 ·decide
 refine HO_conv rfl rfl rfl (cv_int Tryz.underlying59 Tryz.underlying3 (wrap_i64_nat ?_)) ?_
 ·omega
 refine HO_bin rfl rfl rfl rfl (bin_add ?_ ?_) ?_
 ·omega
 ·omega
 refine HO_set (v':=.int .i64 (((4 + bit / 8 % 14 : Nat) : Int))) 64 rfl (by exact congrArg (Value.int .i64) (by omega)) ?_
 refine HO_move rfl rfl rfl ?_
 refine HO_bin rfl rfl rfl rfl (bin_remu (b:=8) ?_) ?_
 ·decide
 refine HO_conv rfl rfl rfl (cv_int Tryz.underlying59 Tryz.underlying3 (wrap_i64_nat ?_)) ?_
 ·omega
 refine HO_call (first:=[]) (capt:=[]) (is:=[0,1,2]) (R:=[_,_,_,_,_,_,_,_]) rfl rfl rfl rfl rfl Tryz.call21 rfl (spoil_spec _ _ _ _ _ _ _ _ _ _ _ ?_ ?_ ?_ ?_ ?_) ?_
 ·decide
 ·(simp)
 ·(exact fun _ => rfl)
 ·exact hfl.1
 ·(exact fun h => absurd (show Net.ix 0 3 < 3 by decide) h)
 intro y68 hy68
 clear y68 hy68
 refine HO_bin rfl rfl rfl rfl bin_neq ?_
 refine HO_set (v':=.bool (false)) 69 rfl (by exact congrArg Value.bool (show decide (Net.splE 0 3 F ((4 + bit / 8 % 14 : Nat) : Int) ((bit % 8 : Nat) : Int) ≠ 0) = false by rw [ho];rfl)) ?_
 refine HO_pick_f rfl rfl rfl rfl ?_
 refine HO_nil ?_
 refine H_env (ρ':=[(70,_),(5,_),(2,_)]) ⟨rfl,rfl,rfl,trivial⟩ ?_
 refine H_cond rfl (fun h => nomatch h) (fun _ => ?_)
 refine H_skip ?_
 refine H_seq ?_
 refine H_region (l:=[_,_,_,_,_,_,_,_]) rfl ?_
 refine HO_move rfl rfl rfl ?_
 refine HO_call (first:=[]) (capt:=[]) (is:=[0,1,4]) (R:=[_,_,_,_,_,_,_,_]) rfl rfl rfl rfl rfl Tryz.call12 rfl (take_spec _ _ _ _ _ _ _ _ _ ?_ ?_ ?_ ?_) ?_
 ·decide
 ·(simp)
 ·(exact fun _ => rfl)
 ·exact hfl.1
 intro y73 hy73
 refine HO_move rfl rfl rfl ?_
 refine HO_extract (vs:=[_,_]) rfl rfl rfl rfl ?_
 refine HO_extract (vs:=[_,_]) rfl rfl rfl rfl ?_
 refine HO_alloc (cs:=[_,_,_,_,_,_,_,_,_,_,_,_,_,_,_,_]) rfl rfl Tryz.zeroValue36 rfl ?_
 intro g6
 refine HO_store (i:=0) (j:=0) (us:=[]) (old:=[_,_,_,_,_,_,_,_,_,_,_,_,_,_,_,_]) (ts:=[]) (cs:=[_,_,_,_,_,_,_,_,_,_,_,_,_,_,_,_]) (R:=[_,_,_,_,_,_,_,_,_,_,_,_,_,_,_]) (new:=[_,_,_,_,_,_,_,_,_,_,_,_,_,_,_,_]) rfl rfl rfl Tryz.sizeOf36 rfl (by simp [Value.oneCell']) rfl rfl rfl rfl rfl rfl ?_
 refine HO_assign rfl rfl rfl ?_
 refine HO_nil ?_
 refine H_env (ρ':=[(7,_),(6,_),(5,_),(2,_)]) ⟨rfl,rfl,rfl,rfl,trivial⟩ ?_
 refine H_seq ?_
 refine H_region (l:=[_,_,_,_,_,_,_,_]) rfl ?_
 refine HO_move rfl rfl rfl ?_
 refine HO_call (first:=[]) (capt:=[]) (is:=[1,2,10]) (R:=[_,_,_,_,_,_,_,_,_,_,_,_,_]) rfl rfl rfl rfl rfl Tryz.call12 rfl (take_spec _ _ _ _ _ _ _ _ _ ?_ ?_ ?_ ?_) ?_
 ·decide
 ·(show 2≤1000;decide)
 ·(exact fun _ => rfl)
 ·exact hfl.1
 intro y78 hy78
 refine HO_move rfl rfl rfl ?_
 refine HO_extract (vs:=[_,_]) rfl rfl rfl rfl ?_
 refine HO_extract (vs:=[_,_]) rfl rfl rfl rfl ?_
 refine HO_alloc (cs:=[_,_,_,_,_,_,_,_,_,_,_,_,_,_,_,_]) rfl rfl Tryz.zeroValue36 rfl ?_
 intro g8
 refine HO_store (i:=0) (j:=0) (us:=[]) (old:=[_,_,_,_,_,_,_,_,_,_,_,_,_,_,_,_]) (ts:=[]) (cs:=[_,_,_,_,_,_,_,_,_,_,_,_,_,_,_,_]) (R:=[_,_,_,_,_,_,_,_,_,_,_,_,_,_,_,_,_,_,_,_]) (new:=[_,_,_,_,_,_,_,_,_,_,_,_,_,_,_,_]) rfl rfl rfl Tryz.sizeOf36 rfl (by simp [Value.oneCell']) rfl rfl rfl rfl rfl rfl ?_
 refine HO_assign rfl rfl rfl ?_
 refine HO_nil ?_
 refine H_env (ρ':=[(9,_),(8,_),(7,_),(6,_),(5,_),(2,_)]) ⟨rfl,rfl,rfl,rfl,rfl,rfl,trivial⟩ ?_
 refine H_seq ?_
 refine H_region (l:=[_,_,_,_,_,_,_,_]) rfl ?_
 refine HO_move rfl rfl rfl ?_
 refine HO_call (first:=[]) (capt:=[]) (is:=[1,2,14]) (R:=[_,_,_,_,_,_,_,_,_,_,_,_,_,_,_,_,_,_]) rfl rfl rfl rfl rfl Tryz.call12 rfl (take_spec _ _ _ _ _ _ _ _ _ ?_ ?_ ?_ ?_) ?_
 ·decide
 ·(show 1≤1000;decide)
 ·(exact fun _ => by rw [Net.spl_len];rfl)
 ·(rw [Net.spl_len];exact hfl.1)
 intro y83 hy83
 refine HO_move rfl rfl rfl ?_
 refine HO_extract (vs:=[_,_]) rfl rfl rfl rfl ?_
 refine HO_extract (vs:=[_,_]) rfl rfl rfl rfl ?_
 refine HO_alloc (cs:=[_,_,_,_,_,_,_,_,_,_,_,_,_,_,_,_]) rfl rfl Tryz.zeroValue36 rfl ?_
 intro g10
 refine HO_store (i:=0) (j:=0) (us:=[]) (old:=[_,_,_,_,_,_,_,_,_,_,_,_,_,_,_,_]) (ts:=[]) (cs:=[_,_,_,_,_,_,_,_,_,_,_,_,_,_,_,_]) (R:=[_,_,_,_,_,_,_,_,_,_,_,_,_,_,_,_,_,_,_,_,_,_,_,_,_]) (new:=[_,_,_,_,_,_,_,_,_,_,_,_,_,_,_,_]) rfl rfl rfl Tryz.sizeOf36 rfl (by simp [Value.oneCell']) rfl rfl rfl rfl rfl rfl ?_
 refine HO_assign rfl rfl rfl ?_
 refine HO_nil ?_
 refine H_env (ρ':=[(11,_),(9,_),(8,_),(7,_),(6,_),(5,_),(2,_)]) ⟨rfl,rfl,rfl,rfl,rfl,rfl,rfl,trivial⟩ ?_
 refine H_world (kp [nn,yy,yy,yy,nn,nn,nn,nn,yy,yy,yy,yy,yy,yy,yy,yy,yy,yy,yy,yy,yy,yy,yy,yy,yy,yy] [_,_,_,_,_,_,_,_,_,_,_,_,_,_,_,_,_,_,_,_,_] rfl) ?_
 refine H_seq ?_
 refine H_region (l:=[_,_,_,_,_,_,_,_,_,_,_,_,_,_,_,_,_,_,_,_,_,_,_,_,_,_,_,_,_]) rfl ?_
 refine HO_move rfl rfl rfl ?_
 refine HO_bin rfl rfl rfl rfl bin_eql ?_
 refine HO_set (v':=.bool (true)) 87 rfl (by exact congrArg Value.bool (show decide ((Net.look 1 3 F).2 = 0) = true by rw [hk 1 3 (by decide)];rfl)) ?_
 iterate 2 refine HO_move rfl rfl rfl ?_
 refine HO_bin rfl rfl rfl rfl bin_eql ?_
 refine HO_set (v':=.bool (true)) 90 rfl (by exact congrArg Value.bool (show decide ((Net.look 1 2 F).2 = 0) = true by rw [hk 1 2 (by decide)];rfl)) ?_
 refine HO_pick_t rfl rfl rfl rfl ?_
 iterate 2 refine HO_move rfl rfl rfl ?_
 refine HO_bin rfl rfl rfl rfl bin_eql ?_
 refine HO_set (v':=.bool (true)) 94 rfl (by exact congrArg Value.bool (show decide ((Net.look 0 1 (Net.spl F ((4 + bit / 8 % 14 : Nat) : Int) ((bit % 8 : Nat) : Int))).2 = 8) = true by rw [hb];rfl)) ?_
 refine HO_pick_t rfl rfl rfl rfl ?_
 refine HO_move rfl rfl rfl ?_
 refine HO_loadA (i:=9) (us:=[]) (cs:=[_,_,_,_,_,_,_,_,_,_,_,_,_,_,_,_]) (ts:=[]) rfl rfl rfl Tryz.isAgg36 Tryz.sizeOf36 rfl (.loc _ _ _) rfl rfl rfl rfl ?_
 refine HO_loadA (i:=16) (us:=[]) (cs:=[_,_,_,_,_,_,_,_,_,_,_,_,_,_,_,_]) (ts:=[]) rfl rfl rfl Tryz.isAgg36 Tryz.sizeOf36 rfl (.loc _ _ _) rfl rfl rfl rfl ?_
 refine HO_dup (i:=11) rfl rfl ?_
 refine HO_dup (i:=13) rfl rfl ?_
 refine HO_dup (i:=15) rfl rfl ?_
 refine HO_dup (i:=17) rfl rfl ?_
 refine HO_dup (i:=21) rfl rfl ?_
 refine HO_dup (i:=23) rfl rfl ?_
 refine HO_dup (i:=25) rfl rfl ?_
 refine HO_dup (i:=27) rfl rfl ?_
 refine HO_call (first:=[]) (capt:=[]) (is:=[0,0,0,0,0,0,0,0]) (R:=[_,_,_,_,_,_,_,_,_,_,_,_,_,_,_,_,_,_,_,_,_]) rfl rfl rfl rfl rfl Tryz.call14 rfl (samemsg_spec _ _ _ _ _ _ _ _ _ _ _ _ _ _ _ _ _ _ _ _ _ _ _ _ _ _ _ _ _ _ _ _ _ _ _ _ _ _ _ _ _ _ _ _ _ _ _ _) ?_
 intro y99 hy99
 clear y99 hy99
 refine HO_set (v':=.bool (true)) 99 rfl (by exact congrArg Value.bool (show decide ((Net.look 1 3 F).1 = ⟨mk,mf,mt,me,mi,ml,mc,mr,rj,hi,es,⟨ix,te,⟨vo,le⟩,da⟩⟩) = true by rw [hk 1 3 (by decide)];exact decide_eq_true rfl)) ?_
 refine HO_pick_t rfl rfl rfl rfl ?_
 refine HO_move rfl rfl rfl ?_
 refine HO_loadA (i:=3) (us:=[]) (cs:=[_,_,_,_,_,_,_,_,_,_,_,_,_,_,_,_]) (ts:=[]) rfl rfl rfl Tryz.isAgg36 Tryz.sizeOf36 rfl (.loc _ _ _) rfl rfl rfl rfl ?_
 refine HO_loadA (i:=16) (us:=[]) (cs:=[_,_,_,_,_,_,_,_,_,_,_,_,_,_,_,_]) (ts:=[]) rfl rfl rfl Tryz.isAgg36 Tryz.sizeOf36 rfl (.loc _ _ _) rfl rfl rfl rfl ?_
 refine HO_dup (i:=5) rfl rfl ?_
 refine HO_dup (i:=7) rfl rfl ?_
 refine HO_dup (i:=9) rfl rfl ?_
 refine HO_dup (i:=11) rfl rfl ?_
 refine HO_dup (i:=21) rfl rfl ?_
 refine HO_dup (i:=23) rfl rfl ?_
 refine HO_dup (i:=25) rfl rfl ?_
 refine HO_dup (i:=27) rfl rfl ?_
 refine HO_call (first:=[]) (capt:=[]) (is:=[0,0,0,0,0,0,0,0]) (R:=[_,_,_,_,_,_,_,_,_,_,_,_,_,_,_,_,_,_,_,_,_]) rfl rfl rfl rfl rfl Tryz.call14 rfl (samemsg_spec _ _ _ _ _ _ _ _ _ _ _ _ _ _ _ _ _ _ _ _ _ _ _ _ _ _ _ _ _ _ _ _ _ _ _ _ _ _ _ _ _ _ _ _ _ _ _ _) ?_
 intro y104 hy104
 clear y104 hy104
 refine HO_set (v':=.bool (true)) 104 rfl (by exact congrArg Value.bool (show decide ((Net.look 1 2 F).1 = ⟨mk,mf,mt,me,mi,ml,mc,mr,rj,hi,es,⟨ix,te,⟨vo,le⟩,da⟩⟩) = true by rw [hk 1 2 (by decide)];exact decide_eq_true rfl)) ?_
 refine HO_pick_t rfl rfl rfl rfl ?_
 iterate 2 refine HO_move rfl rfl rfl ?_
 refine HO_call (first:=[]) (capt:=[]) (is:=[0]) (R:=[_,_,_,_,_,_,_,_,_,_,_,_,_,_,_,_,_,_,_,_]) rfl rfl rfl rfl rfl Tryz.call23 rfl (len_spec _ _ _ _ _ ?_) ?_
 ·decide
 intro y108 hy108
 clear y108 hy108
 refine HO_bin rfl rfl rfl rfl bin_eql ?_
 refine HO_set (v':=.bool (true)) 109 rfl (by exact congrArg Value.bool (show decide (((0 : Nat) : Int) = 0) = true by decide +kernel)) ?_
 refine HO_pick_t rfl rfl rfl rfl ?_
 refine HO_move rfl rfl rfl ?_
 refine HO_call (first:=[]) (capt:=[]) (is:=[]) (R:=[_,_,_,_,_,_,_,_,_,_,_,_,_,_,_,_,_,_,_,_,_]) rfl rfl rfl rfl rfl Tryz.call8 rfl lives24_spec ?_
 intro y112 hy112
 clear y112 hy112
 refine HO_pick_t rfl rfl rfl rfl ?_
 refine HO_assign rfl rfl rfl ?_
 refine HO_nil ?_
 refine H_env (ρ':=[(4,_)]) ⟨rfl,trivial⟩ ?_
 refine H_world (kp [nn,nn,yy,nn,yy,nn,nn,nn,nn,nn,yy,nn,nn,nn,nn,yy,nn,nn,nn,nn,nn] [_,_,_,_] rfl) ?_
 refine H_ret1 Tryz.results5 (.tmp rfl) (fun w hA => ⟨(),congrArg Ending.returned ?_,?_,?_⟩)
 ·(exact congrArg Value.bool (by first | rfl | assumption | simp_all))
 ·trivial
 ·exact hA.keep (m:=[nn,nn,nn,nn]) (Y:=[]) rfl
end Go.Wk
