/- Contracts of the program's functions, each proved by walking its code. -/
import Derived.Test.YtdaphlemhmgncaaGreatKgnet2
set_option maxRecDepth 100000
set_option linter.unusedVariables false
set_option linter.unusedSimpArgs false
namespace Go.Wk.Fnet3
open Go Go.RowKit Go.Proofs Go.Wk
theorem bd36__  : ∀ w,(Instr.build 36 (List.toArray (List.zip [] []))).run Tryz.prog w = .ok (.agg #[.int .i64 (0),.int .i64 (0),.int .i64 (0),.int .i64 (0),.int .i64 (0),.int .i64 (0),.int .i64 (0),.int .i64 (0),.bool (false),.int .i64 (0),.slice none 0 0,.int .i64 (0),.int .i64 (0),.slice none 0 0,.slice none 0 0,.slice none 0 0]) w:=fun _ => by kernel_rfl
end Go.Wk.Fnet3
namespace Go.Wk
open Go Go.RowKit Go.Proofs Fnet3 
theorem look_spec (g : Nat) (ha : Option Addr) (hc : Nat) (hs : List Hd) (mo : Int) (xs : List UInt8) (a : Option Addr) (c : Nat) (i : Int) (h0 : 0 < mo) (hr : (Net.ix i hs.length) < hs.length→hs[(Net.ix i hs.length)]? = some ⟨a,xs.length,c⟩) (hx : xs.length≤100000) : Spec Tryz.prog 15 #[.pointer (some ⟨g,0,none⟩),.int .i64 (i)] [.loc g [.slice ha (hs.length) hc,.int .i64 (mo)] 65,.own 32 kHd ha hc (hs),.own 5 kByte a c (xs)] (β:=(Option Addr × Nat) × (Option Addr × Nat) × (Option Addr × Nat) × (Option Addr × Nat)) (fun y => .tuple #[.agg #[.int .i64 ((Net.look i hs.length xs).1.kind),.int .i64 ((Net.look i hs.length xs).1.frm),.int .i64 ((Net.look i hs.length xs).1.to),.int .i64 ((Net.look i hs.length xs).1.term),.int .i64 ((Net.look i hs.length xs).1.idx),.int .i64 ((Net.look i hs.length xs).1.lterm),.int .i64 ((Net.look i hs.length xs).1.commit),.int .i64 ((Net.look i hs.length xs).1.round),.bool ((Net.look i hs.length xs).1.rej),.int .i64 ((Net.look i hs.length xs).1.hint),.slice y.1.1 (((Net.look i hs.length xs).1.ents).length) y.1.2,.int .i64 ((Net.look i hs.length xs).1.snap.idx),.int .i64 ((Net.look i hs.length xs).1.snap.term),.slice y.2.1.1 (((Net.look i hs.length xs).1.snap.conf.vot).length) y.2.1.2,.slice y.2.2.1.1 (((Net.look i hs.length xs).1.snap.conf.lea).length) y.2.2.1.2,.slice y.2.2.2.1 (((Net.look i hs.length xs).1.snap.data).length) y.2.2.2.2],.int .i64 ((Net.look i hs.length xs).2)]) (fun y => True) (fun y => [.loc g [.slice ha (hs.length) hc,.int .i64 (mo)] 65,.own 32 kHd ha hc (hs),.own 5 kByte a c (xs),.dat kEnt.sl ((Net.look i hs.length xs).1.ents) [.slice y.1.1 (((Net.look i hs.length xs).1.ents).length) y.1.2],.dat kInt.sl ((Net.look i hs.length xs).1.snap.conf.vot) [.slice y.2.1.1 (((Net.look i hs.length xs).1.snap.conf.vot).length) y.2.1.2],.dat kInt.sl ((Net.look i hs.length xs).1.snap.conf.lea) [.slice y.2.2.1.1 (((Net.look i hs.length xs).1.snap.conf.lea).length) y.2.2.1.2],.dat kByte.sl ((Net.look i hs.length xs).1.snap.data) [.slice y.2.2.2.1 (((Net.look i hs.length xs).1.snap.data).length) y.2.2.2.2]]):=by
 refine Spec.enter (vs:=[_,_]) Tryz.func15 rfl Tryz.ntmps15 rfl (Nat.le_of_ble_eq_true rfl) (fun w0 ok0 => ?_)
 generalize hM0 : blks _ = M0
 refine H_seq ?_
 refine H_region (l:=[_,_]) rfl ?_
 refine HO_alloc (cs:=[_,_,_,_,_,_,_,_,_,_,_,_,_,_,_,_]) rfl rfl Tryz.zeroValue36 rfl ?_
 intro g4
 refine HO_assign rfl rfl rfl ?_
 refine HO_nil ?_
 refine H_env (ρ':=[(4,_),(0,_),(1,_)]) ⟨rfl,rfl,rfl,trivial⟩ ?_
 refine H_seq ?_
 refine H_seq ?_
 refine H_region (l:=[_,_,_,_]) rfl ?_
 iterate 2 refine HO_move rfl rfl rfl ?_
 refine HO_call (first:=[]) (capt:=[]) (is:=[1]) (R:=[_,_,_]) rfl rfl rfl rfl rfl Tryz.call36 rfl (may_spec _ _ _ _ _ _ ?_) ?_
 ·(first | omega | assumption | decide)
 intro y12 hy12
 clear y12 hy12
 refine HO_assign rfl rfl rfl ?_
 refine HO_nil ?_
 refine H_env (ρ':=[(6,_),(4,_),(0,_),(1,_)]) ⟨rfl,rfl,rfl,rfl,trivial⟩ ?_
 refine H_seq ?_
 refine H_region (l:=[_,_]) rfl ?_
 refine HO_move rfl rfl rfl ?_
 refine HO_bin rfl rfl rfl rfl bin_neq ?_
 refine HO_nil ?_
 refine H_env (ρ':=[(14,_),(6,_),(4,_),(0,_),(1,_)]) ⟨rfl,rfl,rfl,rfl,rfl,trivial⟩ ?_
 refine H_cond rfl ?_ ?_
 ·intro h14
  replace h14:=dT h14
  have hno : ¬ (Net.ix i hs.length) < hs.length:=fun h => h14 (Net.mayE_yes.2 h)
  refine H_seq ?_
  refine H_region (l:=[_,_,_,_]) rfl ?_
  refine HO_build (xo:=[]) (vs:=[]) rfl rfl rfl rfl (bd36__) ?_
  refine HO_move rfl rfl rfl ?_
  refine HO_store (i:=1) (j:=0) (us:=[]) (old:=[_,_,_,_,_,_,_,_,_,_,_,_,_,_,_,_]) (ts:=[]) (cs:=[_,_,_,_,_,_,_,_,_,_,_,_,_,_,_,_]) (R:=[_,_,_]) (new:=[_,_,_,_,_,_,_,_,_,_,_,_,_,_,_,_]) rfl rfl rfl Tryz.sizeOf36 rfl (by simp [Value.oneCell']) rfl rfl rfl rfl rfl rfl ?_
  refine HO_assign rfl rfl rfl ?_
  refine HO_nil ?_
  refine H_env (ρ':=[(5,_),(4,_)]) ⟨rfl,rfl,trivial⟩ ?_
  refine H_nilDat kEnt ?_
  refine H_nilDat kInt ?_
  refine H_nilDat kInt ?_
  refine H_nilDat kByte ?_
  refine H_ret2 Tryz.results15 (.cell rfl (fun w hA => run_loadVarA (cs:=[_,_,_,_,_,_,_,_,_,_,_,_,_,_,_,_]) (Tryz.isAgg36 w) (Tryz.sizeOf36 w) (Tells.cells (.loc _ _ _) (hA.get (i:=4) rfl)))) (.tmp rfl) (fun w hA => ⟨((none,0),(none,0),(none,0),(none,0)),congrArg Ending.returned ?_,?_,?_⟩)
  ·(rw [Net.look_no hno,Net.mayE_no hno];try exact rfl)
  ·trivial
  ·(rw [Net.look_no hno];exact hA.only (is:=[1,2,3,0,0,0,0]) (Z:=[_]) rfl)
 intro h14
 replace h14:=dF h14
 have hin:=Net.mayE_yes.1 (Decidable.not_not.1 h14)
 have hul:=Net.unf_len xs
 refine H_skip ?_
 refine H_seq ?_
 refine H_region (l:=[_,_,_,_,_,_,_,_,_,_,_,_,_,_,_,_]) rfl ?_
 refine HO_move rfl rfl rfl ?_
 refine HO_nilCheck rfl rfl rfl ?_
 refine HO_fieldAddr (r:=0) rfl rfl rfl Tryz.underlying65 rfl Tryz.sizeOf63 rfl ?_
 refine HO_fieldAddr (r:=0) rfl rfl rfl Tryz.underlying63 rfl Tryz.sizeOf53 rfl ?_
 refine HO_load1 (i:=0) (j:=0) rfl rfl rfl Tryz.isAgg53 rfl (.loc _ _ _) rfl rfl ?_
 refine HO_move rfl rfl rfl ?_
 refine HO_indexOwn (i:=2) (j:=(Net.ix i hs.length)) rfl rfl rfl rfl ?_ Tryz.underlying53 Tryz.sizeOf32 rfl (by first | rfl | (simp;done) | (simp;omega)) ?_ (Nat.mul_one _) ?_
 ·exact Net.ix_eq hin
 ·exact hin
 intro g24 z24 hg24 hz24
 have he24 : z24 = ⟨a,xs.length,c⟩:=Option.some.inj (hz24.symm.trans (hr hin))
 refine HO_loadOwn (i:=2) (v:=.slice z24.a (z24.n) z24.c) rfl rfl rfl Tryz.isAgg32 rfl hg24 (Nat.mul_one _) hz24 (fun _ _ _ h => h.1) ?_
 refine HO_set (v':=.slice a (xs.length) c) 25 rfl (by rw [he24]) ?_
 refine HO_call (first:=[]) (capt:=[]) (is:=[3]) (R:=[_,_,_]) rfl rfl rfl rfl rfl Tryz.call37 rfl (Spec.lend (pre1:=[]) (pre2:=[]) (Unframe_spec _ _ _ ?_) rfl (by intro y at' ha;obtain rfl:=List.mem_singleton.1 ha;first | exact Atom.Flat.own kByte_plain _ _ _ _ | exact Atom.Flat.own kInt_plain _ _ _ _ | exact Atom.Flat.own kStr_plain _ _ _ _ | exact Atom.Flat.loc _ _ _)) ?_
 ·(first | omega | assumption | decide)
 intro y26 hy26
 refine HO_move rfl rfl rfl ?_
 refine HO_extract (vs:=[_,_,_]) rfl rfl rfl rfl ?_
 refine HO_extract (vs:=[_,_,_]) rfl rfl rfl rfl ?_
 refine HO_extract (vs:=[_,_,_]) rfl rfl rfl rfl ?_
 iterate 3 refine HO_assign rfl rfl rfl ?_
 refine HO_nil ?_
 refine H_env (ρ':=[(9,_),(8,_),(7,_),(4,_),(0,_),(1,_)]) ⟨rfl,rfl,rfl,rfl,rfl,rfl,trivial⟩ ?_
 refine H_seq ?_
 refine H_seq ?_
 refine H_region (l:=[_,_,_,_,_,_,_,_,_,_,_,_,_,_,_]) rfl ?_
 refine HO_move rfl rfl rfl ?_
 refine HO_bin rfl rfl rfl rfl bin_neq ?_
 refine HO_move rfl rfl rfl ?_
 refine HO_split (d:=32) rfl ?_ ?_
 ·intro h32
  replace h32:=dT h32
  iterate 11 refine HO_no rfl rfl rfl ?_
  refine HO_pick_t rfl rfl rfl rfl ?_
  refine HO_nil ?_
  refine H_env (ρ':=[(44,_),(7,_),(4,_)]) ⟨rfl,rfl,rfl,trivial⟩ ?_
  refine H_cond rfl (fun _ => ?_) (fun h => nomatch h)
  refine H_seq ?_
  refine H_region (l:=[_,_,_]) rfl ?_
  refine HO_build (xo:=[]) (vs:=[]) rfl rfl rfl rfl (bd36__) ?_
  refine HO_store (i:=3) (j:=0) (us:=[]) (old:=[_,_,_,_,_,_,_,_,_,_,_,_,_,_,_,_]) (ts:=[]) (cs:=[_,_,_,_,_,_,_,_,_,_,_,_,_,_,_,_]) (R:=[_,_,_,_]) (new:=[_,_,_,_,_,_,_,_,_,_,_,_,_,_,_,_]) rfl rfl rfl Tryz.sizeOf36 rfl (by simp [Value.oneCell']) rfl rfl rfl rfl rfl rfl ?_
  refine HO_assign rfl rfl rfl ?_
  refine HO_nil ?_
  refine H_env (ρ':=[(5,_),(4,_)]) ⟨rfl,rfl,trivial⟩ ?_
  refine H_world (kp [yy,yy,nn,yy,yy] [_,_,_,_] rfl) ?_
  refine H_nilDat kEnt ?_
  refine H_nilDat kInt ?_
  refine H_nilDat kInt ?_
  refine H_nilDat kByte ?_
  refine H_ret2 Tryz.results15 (.cell rfl (fun w hA => run_loadVarA (cs:=[_,_,_,_,_,_,_,_,_,_,_,_,_,_,_,_]) (Tryz.isAgg36 w) (Tryz.sizeOf36 w) (Tells.cells (.loc _ _ _) (hA.get (i:=4) rfl)))) (.tmp rfl) (fun w hA => ⟨((none,0),(none,0),(none,0),(none,0)),congrArg Ending.returned ?_,?_,?_⟩)
  ·(rw [Net.look_bad hin (fun h => h32 (by rw [h.1];rfl))];try exact rfl)
  ·trivial
  ·(rw [Net.look_bad hin (fun h => h32 (by rw [h.1];rfl))];exact hA.only (is:=[1,2,1,0,0,0,0]) (Z:=[_]) rfl)
 intro h32
 replace h32:=dF h32
 iterate 2 refine HO_move rfl rfl rfl ?_
 refine HO_nilCheck rfl rfl rfl ?_
 refine HO_fieldAddr (r:=0) rfl rfl rfl Tryz.underlying65 rfl Tryz.sizeOf63 rfl ?_
 refine HO_fieldAddr (r:=0) rfl rfl rfl Tryz.underlying63 rfl Tryz.sizeOf53 rfl ?_
 refine HO_load1 (i:=2) (j:=0) rfl rfl rfl Tryz.isAgg53 rfl (.loc _ _ _) rfl rfl ?_
 refine HO_move rfl rfl rfl ?_
 refine HO_indexOwn (i:=4) (j:=(Net.ix i hs.length)) rfl rfl rfl rfl ?_ Tryz.underlying53 Tryz.sizeOf32 rfl (by first | rfl | (simp;done) | (simp;omega)) ?_ (Nat.mul_one _) ?_
 ·exact Net.ix_eq hin
 ·exact hin
 intro g40 z40 hg40 hz40
 have he40 : z40 = ⟨a,xs.length,c⟩:=Option.some.inj (hz40.symm.trans (hr hin))
 refine HO_loadOwn (i:=4) (v:=.slice z40.a (z40.n) z40.c) rfl rfl rfl Tryz.isAgg32 rfl hg40 (Nat.mul_one _) hz40 (fun _ _ _ h => h.1) ?_
 refine HO_set (v':=.slice a (xs.length) c) 41 rfl (by rw [he40]) ?_
 refine HO_bi rfl rfl rfl (bi_len_sl Tryz.underlying32) ?_
 refine HO_bin rfl rfl rfl rfl bin_neq ?_
 refine HO_pick_f rfl rfl rfl rfl ?_
 refine HO_nil ?_
 refine H_env (ρ':=[(44,_),(7,_),(4,_)]) ⟨rfl,rfl,rfl,trivial⟩ ?_
 refine H_cond rfl ?_ ?_
 ·intro h44
  replace h44:=dT h44
  refine H_seq ?_
  refine H_region (l:=[_,_,_]) rfl ?_
  refine HO_build (xo:=[]) (vs:=[]) rfl rfl rfl rfl (bd36__) ?_
  refine HO_store (i:=3) (j:=0) (us:=[]) (old:=[_,_,_,_,_,_,_,_,_,_,_,_,_,_,_,_]) (ts:=[]) (cs:=[_,_,_,_,_,_,_,_,_,_,_,_,_,_,_,_]) (R:=[_,_,_,_]) (new:=[_,_,_,_,_,_,_,_,_,_,_,_,_,_,_,_]) rfl rfl rfl Tryz.sizeOf36 rfl (by simp [Value.oneCell']) rfl rfl rfl rfl rfl rfl ?_
  refine HO_assign rfl rfl rfl ?_
  refine HO_nil ?_
  refine H_env (ρ':=[(5,_),(4,_)]) ⟨rfl,rfl,trivial⟩ ?_
  refine H_world (kp [yy,yy,nn,yy,yy] [_,_,_,_] rfl) ?_
  refine H_nilDat kEnt ?_
  refine H_nilDat kInt ?_
  refine H_nilDat kInt ?_
  refine H_nilDat kByte ?_
  refine H_ret2 Tryz.results15 (.cell rfl (fun w hA => run_loadVarA (cs:=[_,_,_,_,_,_,_,_,_,_,_,_,_,_,_,_]) (Tryz.isAgg36 w) (Tryz.sizeOf36 w) (Tells.cells (.loc _ _ _) (hA.get (i:=4) rfl)))) (.tmp rfl) (fun w hA => ⟨((none,0),(none,0),(none,0),(none,0)),congrArg Ending.returned ?_,?_,?_⟩)
  ·(rw [Net.look_bad hin (fun h => h44 (by rw [h.2]))];try exact rfl)
  ·trivial
  ·(rw [Net.look_bad hin (fun h => h44 (by rw [h.2]))];exact hA.only (is:=[1,2,1,0,0,0,0]) (Z:=[_]) rfl)
 intro h44
 replace h44:=dF h44
 refine H_skip ?_
 refine H_seq ?_
 refine H_region (l:=[_,_,_,_,_,_]) rfl ?_
 refine HO_move rfl rfl rfl ?_
 refine HO_freeze (i:=1) (R:=[_,_,_,_]) rfl (keepM hM0 ⟨(fun _ h => ⟨_,List.mem_of_getElem? (i:=1) rfl,h⟩),(fun _ h => ⟨_,List.mem_of_getElem? (i:=3) rfl,h⟩),(fun _ h => ⟨_,List.mem_of_getElem? (i:=0) rfl,h⟩),trivial⟩) ?_
 refine HO_dup (i:=0) rfl rfl ?_
 refine HO_call (first:=[]) (capt:=[]) (is:=[0]) (R:=[_,_,_,_,_]) rfl rfl rfl rfl rfl Tryz.call38 rfl (readmsg_spec _ _ _ ?_) ?_
 ·(first | omega | assumption | decide)
 intro y47 hy47
 refine HO_extract (vs:=[_,_]) rfl rfl rfl rfl ?_
 refine HO_extract (vs:=[_,_]) rfl rfl rfl rfl ?_
 refine HO_store (i:=7) (j:=0) (us:=[]) (old:=[_,_,_,_,_,_,_,_,_,_,_,_,_,_,_,_]) (ts:=[]) (cs:=[_,_,_,_,_,_,_,_,_,_,_,_,_,_,_,_]) (R:=[_,_,_,_,_,_,_,_]) (new:=[_,_,_,_,_,_,_,_,_,_,_,_,_,_,_,_]) rfl rfl rfl Tryz.sizeOf36 rfl (by simp [Value.oneCell']) rfl rfl rfl rfl rfl rfl ?_
 refine HO_assign rfl rfl rfl ?_
 refine HO_nil ?_
 refine H_env (ρ':=[(5,_),(4,_)]) ⟨rfl,rfl,trivial⟩ ?_
 refine H_world (kp [yy,yy,yy,yy,yy,nn,yy,yy,yy] [_,_,_,_,_,_,_,_] rfl) ?_
 refine H_ret2 Tryz.results15 (.cell rfl (fun w hA => run_loadVarA (cs:=[_,_,_,_,_,_,_,_,_,_,_,_,_,_,_,_]) (Tryz.isAgg36 w) (Tryz.sizeOf36 w) (Tells.cells (.loc _ _ _) (hA.get (i:=0) rfl)))) (.tmp rfl) (fun w hA => ⟨y47,congrArg Ending.returned ?_,?_,?_⟩)
 ·(rw [Net.look_ok hin ⟨by omega,by omega⟩];try exact rfl)
 ·trivial
 ·(rw [Net.look_ok hin ⟨by omega,by omega⟩];exact hA.only (is:=[1,2,1,1,2,3,4]) (Z:=[_]) rfl)
theorem drop_spec (g : Nat) (ha : Option Addr) (hc : Nat) (hs : List Hd) (mo : Int) (i : Int) (h0 : 0 < mo) (hhs : hs.length≤1000) : Spec Tryz.prog 17 #[.pointer (some ⟨g,0,none⟩),.int .i64 (i)] [.loc g [.slice ha (hs.length) hc,.int .i64 (mo)] 65,.own 32 kHd ha hc (hs)] (β:=Option Addr × Nat) (fun y => .int .i64 (Net.mayE i hs.length)) (fun y => True) (fun y => [.loc g [.slice y.1 (((hs.eraseIdx (Net.ix i hs.length))).length) y.2,.int .i64 (mo)] 65,.own 32 kHd y.1 y.2 ((hs.eraseIdx (Net.ix i hs.length)))]):=by
 refine Spec.enter (vs:=[_,_]) Tryz.func17 rfl Tryz.ntmps17 rfl (Nat.le_of_ble_eq_true rfl) (fun w0 ok0 => ?_)
 generalize hM0 : blks _ = M0
 refine H_seq ?_
 refine H_region (l:=[_]) rfl ?_
 refine HO_assign rfl rfl rfl ?_
 refine HO_nil ?_
 refine H_env (ρ':=[(0,_),(1,_)]) ⟨rfl,rfl,trivial⟩ ?_
 refine H_seq ?_
 refine H_region (l:=[_,_,_,_]) rfl ?_
 iterate 2 refine HO_move rfl rfl rfl ?_
 refine HO_call (first:=[]) (capt:=[]) (is:=[0]) (R:=[_]) rfl rfl rfl rfl rfl Tryz.call36 rfl (may_spec _ _ _ _ _ _ ?_) ?_
 ·(first | omega | assumption | decide)
 intro y8 hy8
 clear y8 hy8
 refine HO_assign rfl rfl rfl ?_
 refine HO_nil ?_
 refine H_env (ρ':=[(5,_),(0,_),(1,_)]) ⟨rfl,rfl,rfl,trivial⟩ ?_
 refine H_seq ?_
 refine H_seq ?_
 refine H_region (l:=[_,_]) rfl ?_
 refine HO_move rfl rfl rfl ?_
 refine HO_bin rfl rfl rfl rfl bin_eql ?_
 refine HO_nil ?_
 refine H_env (ρ':=[(10,_),(5,_),(0,_),(1,_)]) ⟨rfl,rfl,rfl,rfl,trivial⟩ ?_
 refine H_cond rfl ?_ ?_
 ·intro h10
  replace h10:=dT h10
  have hin:=Net.mayE_yes.1 h10
  obtain ⟨k,rfl⟩ : ∃ q : Nat,i = q:=⟨_,Net.ix_eq hin⟩
  have hk:=hin
  rw [Net.ix_nat] at hk
  refine H_region (l:=[_,_,_,_,_,_,_,_,_,_,_,_,_,_]) rfl ?_
  iterate 2 refine HO_move rfl rfl rfl ?_
  refine HO_nilCheck rfl rfl rfl ?_
  refine HO_fieldAddr (r:=0) rfl rfl rfl Tryz.underlying65 rfl Tryz.sizeOf63 rfl ?_
  refine HO_fieldAddr (r:=0) rfl rfl rfl Tryz.underlying63 rfl Tryz.sizeOf53 rfl ?_
  refine HO_load1 (i:=0) (j:=0) rfl rfl rfl Tryz.isAgg53 rfl (.loc _ _ _) rfl rfl ?_
  iterate 2 refine HO_move rfl rfl rfl ?_
  refine HO_bin rfl rfl rfl rfl (bin_add ?_ ?_) ?_
  ·omega
  ·omega
  refine HO_call (first:=[]) (capt:=[]) (is:=[1]) (R:=[_]) rfl rfl rfl rfl rfl Tryz.call41 rfl (deletehd_spec _ _ _ _ ?_ ?_) ?_
  ·exact hk
  ·omega
  intro y20 hy20
  refine HO_nilCheck rfl rfl rfl ?_
  refine HO_fieldAddr (r:=0) rfl rfl rfl Tryz.underlying65 rfl Tryz.sizeOf63 rfl ?_
  refine HO_fieldAddr (r:=0) rfl rfl rfl Tryz.underlying63 rfl Tryz.sizeOf53 rfl ?_
  refine HO_store (i:=1) (j:=0) (us:=[]) (old:=[_]) (ts:=[_]) (cs:=[_]) (R:=[_]) (new:=[_,_]) rfl rfl rfl Tryz.sizeOf53 rfl (by simp [Value.oneCell']) rfl rfl rfl rfl rfl rfl ?_
  refine HO_nil ?_
  refine H_env (ρ':=[(5,_)]) ⟨rfl,trivial⟩ ?_
  refine H_seq ?_
  refine H_region (l:=[_,_]) rfl ?_
  refine HO_move rfl rfl rfl ?_
  refine HO_assign rfl rfl rfl ?_
  refine HO_nil ?_
  refine H_env (ρ':=[(4,_)]) ⟨rfl,trivial⟩ ?_
  refine H_ret1 Tryz.results17 (.tmp rfl) (fun w hA => ⟨y20,congrArg Ending.returned ?_,?_,?_⟩)
  ·rfl
  ·trivial
  ·(rw [Net.ix_nat,eraseIdx_take_drop];exact hA.keep (m:=[yy,yy]) (Y:=[_,_]) rfl)
 intro h10
 replace h10:=dF h10
 have hno : ¬ (Net.ix i hs.length) < hs.length:=fun h => h10 (Net.mayE_yes.2 h)
 refine H_skip ?_
 refine H_seq ?_
 refine H_region (l:=[_,_]) rfl ?_
 refine HO_move rfl rfl rfl ?_
 refine HO_assign rfl rfl rfl ?_
 refine HO_nil ?_
 refine H_env (ρ':=[(4,_)]) ⟨rfl,trivial⟩ ?_
 refine H_ret1 Tryz.results17 (.tmp rfl) (fun w hA => ⟨(ha,hc),congrArg Ending.returned ?_,?_,?_⟩)
 ·rfl
 ·trivial
 ·(rw [List.eraseIdx_of_length_le (Net.ix_ge hno)];exact hA.keep (m:=[yy,yy]) (Y:=[_,_]) rfl)
theorem take_spec (g : Nat) (ha : Option Addr) (hc : Nat) (hs : List Hd) (mo : Int) (xs : List UInt8) (a : Option Addr) (c : Nat) (i : Int) (h0 : 0 < mo) (hhs : hs.length≤1000) (hr : (Net.ix i hs.length) < hs.length→hs[(Net.ix i hs.length)]? = some ⟨a,xs.length,c⟩) (hx : xs.length≤100000) : Spec Tryz.prog 12 #[.pointer (some ⟨g,0,none⟩),.int .i64 (i)] [.loc g [.slice ha (hs.length) hc,.int .i64 (mo)] 65,.own 32 kHd ha hc (hs),.own 5 kByte a c (xs)] (β:=(Option Addr × Nat) × (Option Addr × Nat) × (Option Addr × Nat) × (Option Addr × Nat) × (Option Addr × Nat)) (fun y => .tuple #[.agg #[.int .i64 ((Net.look i hs.length xs).1.kind),.int .i64 ((Net.look i hs.length xs).1.frm),.int .i64 ((Net.look i hs.length xs).1.to),.int .i64 ((Net.look i hs.length xs).1.term),.int .i64 ((Net.look i hs.length xs).1.idx),.int .i64 ((Net.look i hs.length xs).1.lterm),.int .i64 ((Net.look i hs.length xs).1.commit),.int .i64 ((Net.look i hs.length xs).1.round),.bool ((Net.look i hs.length xs).1.rej),.int .i64 ((Net.look i hs.length xs).1.hint),.slice y.2.1.1 (((Net.look i hs.length xs).1.ents).length) y.2.1.2,.int .i64 ((Net.look i hs.length xs).1.snap.idx),.int .i64 ((Net.look i hs.length xs).1.snap.term),.slice y.2.2.1.1 (((Net.look i hs.length xs).1.snap.conf.vot).length) y.2.2.1.2,.slice y.2.2.2.1.1 (((Net.look i hs.length xs).1.snap.conf.lea).length) y.2.2.2.1.2,.slice y.2.2.2.2.1 (((Net.look i hs.length xs).1.snap.data).length) y.2.2.2.2.2],.int .i64 ((Net.look i hs.length xs).2)]) (fun y => True) (fun y => [.loc g [.slice y.1.1 (((hs.eraseIdx (Net.ix i hs.length))).length) y.1.2,.int .i64 (mo)] 65,.own 32 kHd y.1.1 y.1.2 ((hs.eraseIdx (Net.ix i hs.length))),.own 5 kByte a c (xs),.dat kEnt.sl ((Net.look i hs.length xs).1.ents) [.slice y.2.1.1 (((Net.look i hs.length xs).1.ents).length) y.2.1.2],.dat kInt.sl ((Net.look i hs.length xs).1.snap.conf.vot) [.slice y.2.2.1.1 (((Net.look i hs.length xs).1.snap.conf.vot).length) y.2.2.1.2],.dat kInt.sl ((Net.look i hs.length xs).1.snap.conf.lea) [.slice y.2.2.2.1.1 (((Net.look i hs.length xs).1.snap.conf.lea).length) y.2.2.2.1.2],.dat kByte.sl ((Net.look i hs.length xs).1.snap.data) [.slice y.2.2.2.2.1 (((Net.look i hs.length xs).1.snap.data).length) y.2.2.2.2.2]]):=by
 refine Spec.enter (vs:=[_,_]) Tryz.func12 rfl Tryz.ntmps12 rfl (Nat.le_of_ble_eq_true rfl) (fun w0 ok0 => ?_)
 generalize hM0 : blks _ = M0
 refine H_seq ?_
 refine H_region (l:=[_,_]) rfl ?_
 refine HO_alloc (cs:=[_,_,_,_,_,_,_,_,_,_,_,_,_,_,_,_]) rfl rfl Tryz.zeroValue36 rfl ?_
 intro g4
 refine HO_assign rfl rfl rfl ?_
 refine HO_nil ?_
 refine H_env (ρ':=[(4,_),(0,_),(1,_)]) ⟨rfl,rfl,rfl,trivial⟩ ?_
 refine H_seq ?_
 refine H_region (l:=[_,_,_,_,_,_,_,_,_]) rfl ?_
 iterate 2 refine HO_move rfl rfl rfl ?_
 refine HO_call (first:=[]) (capt:=[]) (is:=[1,2,3]) (R:=[_]) rfl rfl rfl rfl rfl Tryz.call15 rfl (look_spec _ _ _ _ _ _ _ _ _ ?_ ?_ ?_) ?_
 ·(first | omega | assumption | decide)
 ·(first | omega | assumption | decide)
 ·(first | omega | assumption | decide)
 intro y11 hy11
 refine HO_move rfl rfl rfl ?_
 refine HO_extract (vs:=[_,_]) rfl rfl rfl rfl ?_
 refine HO_extract (vs:=[_,_]) rfl rfl rfl rfl ?_
 refine HO_alloc (cs:=[_,_,_,_,_,_,_,_,_,_,_,_,_,_,_,_]) rfl rfl Tryz.zeroValue36 rfl ?_
 intro g6
 refine HO_store (i:=0) (j:=0) (us:=[]) (old:=[_,_,_,_,_,_,_,_,_,_,_,_,_,_,_,_]) (ts:=[]) (cs:=[_,_,_,_,_,_,_,_,_,_,_,_,_,_,_,_]) (R:=[_,_,_,_,_,_,_,_]) (new:=[_,_,_,_,_,_,_,_,_,_,_,_,_,_,_,_]) rfl rfl rfl Tryz.sizeOf36 rfl (by simp [Value.oneCell']) rfl rfl rfl rfl rfl rfl ?_
 refine HO_assign rfl rfl rfl ?_
 refine HO_nil ?_
 refine H_env (ρ':=[(7,_),(6,_),(4,_),(0,_),(1,_)]) ⟨rfl,rfl,rfl,rfl,rfl,trivial⟩ ?_
 refine H_seq ?_
 refine H_region (l:=[_,_,_]) rfl ?_
 iterate 2 refine HO_move rfl rfl rfl ?_
 refine HO_call (first:=[]) (capt:=[]) (is:=[1,2]) (R:=[_,_,_,_,_,_,_]) rfl rfl rfl rfl rfl Tryz.call17 rfl (drop_spec _ _ _ _ _ _ ?_ ?_) ?_
 ·(first | omega | assumption | decide)
 ·(first | omega | assumption | decide)
 intro y16 hy16
 refine HO_nil ?_
 refine H_env (ρ':=[(7,_),(6,_),(4,_)]) ⟨rfl,rfl,rfl,trivial⟩ ?_
 refine H_seq ?_
 refine H_region (l:=[_,_,_,_]) rfl ?_
 refine HO_loadA (i:=2) (us:=[]) (cs:=[_,_,_,_,_,_,_,_,_,_,_,_,_,_,_,_]) (ts:=[]) rfl rfl rfl Tryz.isAgg36 Tryz.sizeOf36 rfl (.loc _ _ _) rfl rfl rfl rfl ?_
 refine HO_move rfl rfl rfl ?_
 refine HO_store (i:=8) (j:=0) (us:=[]) (old:=[_,_,_,_,_,_,_,_,_,_,_,_,_,_,_,_]) (ts:=[]) (cs:=[_,_,_,_,_,_,_,_,_,_,_,_,_,_,_,_]) (R:=[_,_,_,_,_,_,_,_]) (new:=[_,_,_,_,_,_,_,_,_,_,_,_,_,_,_,_]) rfl rfl rfl Tryz.sizeOf36 rfl (by simp [Value.oneCell']) rfl rfl rfl rfl rfl rfl ?_
 refine HO_assign rfl rfl rfl ?_
 refine HO_nil ?_
 refine H_env (ρ':=[(5,_),(4,_)]) ⟨rfl,rfl,trivial⟩ ?_
 refine H_world (kp [yy,yy,yy,nn,yy,yy,yy,yy,yy] [_,_,_,_,_,_,_,_] rfl) ?_
 refine H_ret2 Tryz.results12 (.cell rfl (fun w hA => run_loadVarA (cs:=[_,_,_,_,_,_,_,_,_,_,_,_,_,_,_,_]) (Tryz.isAgg36 w) (Tryz.sizeOf36 w) (Tells.cells (.loc _ _ _) (hA.get (i:=0) rfl)))) (.tmp rfl) (fun w hA => ⟨(y16,y11),congrArg Ending.returned ?_,?_,?_⟩)
 ·rfl
 ·trivial
 ·exact hA.keep (m:=[nn,yy,yy,yy,yy,yy,yy,yy]) (Y:=[_,_,_,_,_,_,_]) rfl
theorem double_spec (g : Nat) (ha : Option Addr) (hc : Nat) (hs : List Hd) (mo : Int) (xs : List UInt8) (a : Option Addr) (c : Nat) (i : Int) (h0 : 0 < mo) (hhs : hs.length≤1000) (hr : (Net.ix i hs.length) < hs.length→hs[(Net.ix i hs.length)]? = some ⟨a,xs.length,c⟩) (hx : xs.length≤100000) : Spec Tryz.prog 19 #[.pointer (some ⟨g,0,none⟩),.int .i64 (i)] [.loc g [.slice ha (hs.length) hc,.int .i64 (mo)] 65,.own 32 kHd ha hc (hs),.own 5 kByte a c (xs)] (β:=(Option Addr × Nat) × (Option Addr × Nat)) (fun y => .int .i64 (Net.dblE mo hs.length i)) (fun y => True) (fun y => [.loc g [.slice y.1.1 (((Net.dblH mo hs i xs y.2.1 y.2.2)).length) y.1.2,.int .i64 (mo)] 65,.own 32 kHd y.1.1 y.1.2 ((Net.dblH mo hs i xs y.2.1 y.2.2)),.own 5 kByte a c (xs),.own 5 kByte y.2.1 y.2.2 ((Net.dblB mo hs.length i xs))]):=by
 refine Spec.enter (vs:=[_,_]) Tryz.func19 rfl Tryz.ntmps19 rfl (Nat.le_of_ble_eq_true rfl) (fun w0 ok0 => ?_)
 generalize hM0 : blks _ = M0
 refine H_seq ?_
 refine H_region (l:=[_]) rfl ?_
 refine HO_assign rfl rfl rfl ?_
 refine HO_nil ?_
 refine H_env (ρ':=[(0,_),(1,_)]) ⟨rfl,rfl,trivial⟩ ?_
 refine H_seq ?_
 refine H_seq ?_
 refine H_region (l:=[_,_,_,_]) rfl ?_
 iterate 2 refine HO_move rfl rfl rfl ?_
 refine HO_call (first:=[]) (capt:=[]) (is:=[0]) (R:=[_,_]) rfl rfl rfl rfl rfl Tryz.call36 rfl (may_spec _ _ _ _ _ _ ?_) ?_
 ·(first | omega | assumption | decide)
 intro y8 hy8
 clear y8 hy8
 refine HO_assign rfl rfl rfl ?_
 refine HO_nil ?_
 refine H_env (ρ':=[(5,_),(0,_),(1,_)]) ⟨rfl,rfl,rfl,trivial⟩ ?_
 refine H_seq ?_
 refine H_region (l:=[_,_]) rfl ?_
 refine HO_move rfl rfl rfl ?_
 refine HO_bin rfl rfl rfl rfl bin_neq ?_
 refine HO_nil ?_
 refine H_env (ρ':=[(10,_),(5,_),(0,_),(1,_)]) ⟨rfl,rfl,rfl,rfl,trivial⟩ ?_
 refine H_cond rfl ?_ ?_
 ·intro h10
  replace h10:=dT h10
  have hno : ¬ (Net.ix i hs.length) < hs.length:=fun h => h10 (Net.mayE_yes.2 h)
  have hnd : ¬ Net.dblP mo hs.length i:=fun h => hno h.1
  refine H_seq ?_
  refine H_region (l:=[_,_]) rfl ?_
  refine HO_move rfl rfl rfl ?_
  refine HO_assign rfl rfl rfl ?_
  refine HO_nil ?_
  refine H_env (ρ':=[(4,_)]) ⟨rfl,trivial⟩ ?_
  refine H_own0 kByte 5 none ?_
  refine H_ret1 Tryz.results19 (.tmp rfl) (fun w hA => ⟨((ha,hc),(none,0)),congrArg Ending.returned ?_,?_,?_⟩)
  ·(rw [Net.mayE_no hno];exact congrArg (Value.int .i64) (by unfold Net.dblE;rw [if_neg hno]))
  ·trivial
  ·(rw [Net.dblH_no hnd,Net.dblB_no hnd];exact hA.only (is:=[0,1,2,0]) (Z:=[]) rfl)
 intro h10
 replace h10:=dF h10
 have hin:=Net.mayE_yes.1 (Decidable.not_not.1 h10)
 refine H_skip ?_
 refine H_seq ?_
 refine H_seq ?_
 refine H_region (l:=[_,_,_,_]) rfl ?_
 refine HO_move rfl rfl rfl ?_
 refine HO_nilCheck rfl rfl rfl ?_
 refine HO_fieldAddr (r:=0) rfl rfl rfl Tryz.underlying65 rfl Tryz.sizeOf63 rfl ?_
 refine HO_call (first:=[]) (capt:=[]) (is:=[0]) (R:=[_,_]) rfl rfl rfl rfl rfl Tryz.call28 rfl (full_spec _ _ _ _ _) ?_
 intro y15 hy15
 clear y15 hy15
 refine HO_nil ?_
 refine H_env (ρ':=[(15,_),(0,_),(1,_)]) ⟨rfl,rfl,rfl,trivial⟩ ?_
 refine H_cond rfl ?_ ?_
 ·intro h15
  replace h15:=dT h15
  have hnd : ¬ Net.dblP mo hs.length i:=fun h => absurd h.2 (by omega)
  refine H_seq ?_
  refine H_region (l:=[_]) rfl ?_
  refine HO_assign rfl rfl rfl ?_
  refine HO_nil ?_
  refine H_env (ρ':=[(4,_)]) ⟨rfl,trivial⟩ ?_
  refine H_own0 kByte 5 none ?_
  refine H_ret1 Tryz.results19 (.tmp rfl) (fun w hA => ⟨((ha,hc),(none,0)),congrArg Ending.returned ?_,?_,?_⟩)
  ·(exact congrArg (Value.int .i64) (by unfold Net.dblE;rw [if_pos hin,if_neg (by omega)]))
  ·trivial
  ·(rw [Net.dblH_no hnd,Net.dblB_no hnd];exact hA.only (is:=[0,1,2,0]) (Z:=[]) rfl)
 intro h15
 replace h15:=dF h15
 have hyd : Net.dblP mo hs.length i:=⟨hin,by omega⟩
 refine H_skip ?_
 refine H_seq ?_
 refine H_drawB (m:=[nn,nn,yy]) (Xs:=[_]) (fuel:=13) (l:=#[false,false,false,false,false,false,false,false,false,false,false,false,false]) mixed rfl rfl rfl ?_
 refine HA_take (i:=0) bp rfl rfl rfl rfl (by kernel_rfl) rfl (V_move rfl) (kp [nn,nn,yy] [_] rfl) ?_
 refine HA_take (i:=1) bp rfl rfl rfl rfl (by kernel_rfl) rfl (V_nilCheck rfl) (kp [nn,nn,yy] [_] rfl) ?_
 refine HA_take (i:=2) bp rfl rfl rfl rfl (by kernel_rfl) rfl (V_fieldAddr (r:=0) rfl Tryz.underlying65 rfl Tryz.sizeOf63 rfl) (kp [nn,nn,yy] [_] rfl) ?_
 refine HA_take (i:=3) bp rfl rfl rfl rfl (by kernel_rfl) rfl (V_move rfl) (kp [nn,nn,yy] [_] rfl) ?_
 refine HA_take (i:=4) bp rfl rfl rfl rfl (by kernel_rfl) rfl (V_nilCheck rfl) (kp [nn,nn,yy] [_] rfl) ?_
 refine HA_take (i:=5) bp rfl rfl rfl rfl (by kernel_rfl) rfl (V_fieldAddr (r:=0) rfl Tryz.underlying65 rfl Tryz.sizeOf63 rfl) (kp [nn,nn,yy] [_] rfl) ?_
 refine HA_take (i:=6) bp rfl rfl rfl rfl (by kernel_rfl) rfl (V_fieldAddr (r:=0) rfl Tryz.underlying63 rfl Tryz.sizeOf53 rfl) (kp [nn,nn,yy] [_] rfl) ?_
 refine HA_take (i:=8) bp rfl rfl rfl rfl (by kernel_rfl) rfl (V_move rfl) (kp [nn,nn,yy] [_] rfl) ?_
 refine HA_loud1 (i:=7) (by kernel_rfl) rfl ?_
 refine HO_load1 (i:=0) (j:=0) rfl rfl rfl Tryz.isAgg53 rfl (.loc _ _ _) rfl rfl ?_
 refine HA_back rfl (kp [nn,nn,yy] [_] rfl) ?_
 refine HA_loud1 (i:=9) (by kernel_rfl) rfl ?_
 refine HO_indexOwn (i:=1) (j:=(Net.ix i hs.length)) rfl rfl rfl rfl ?_ Tryz.underlying53 Tryz.sizeOf32 rfl (by first | rfl | (simp;done) | (simp;omega)) ?_ (Nat.mul_one _) ?_
 ·exact Net.ix_eq hin
 ·exact hin
 intro g25 z25 hg25 hz25
 refine HA_back rfl (kp [nn,nn,yy] [_] rfl) ?_
 refine HA_loud1 (i:=10) (by kernel_rfl) rfl ?_
 have he25 : z25 = ⟨a,xs.length,c⟩:=Option.some.inj (hz25.symm.trans (hr hin))
 refine HO_loadOwn (i:=1) (v:=.slice z25.a (z25.n) z25.c) rfl rfl rfl Tryz.isAgg32 rfl hg25 (Nat.mul_one _) hz25 (fun _ _ _ h => h.1) ?_
 refine HO_set (v':=.slice a (xs.length) c) 26 rfl (by rw [he25]) ?_
 refine HA_back rfl (kp [nn,nn,yy] [_] rfl) ?_
 refine HA_loud1 (i:=11) (by kernel_rfl) rfl ?_
 refine HO_call (first:=[]) (capt:=[]) (is:=[2]) (R:=[_,_]) rfl rfl rfl rfl rfl Tryz.call42 rfl (Spec.lend (pre1:=[]) (pre2:=[]) (clonebytes_spec _ _ _ ?_) rfl (by intro y at' ha;obtain rfl:=List.mem_singleton.1 ha;first | exact Atom.Flat.own kByte_plain _ _ _ _ | exact Atom.Flat.own kInt_plain _ _ _ _ | exact Atom.Flat.own kStr_plain _ _ _ _ | exact Atom.Flat.loc _ _ _)) ?_
 ·omega
 intro y27 hy27
 refine HA_back rfl (kp [yy,nn,nn,nn] [_] rfl) ?_
 refine HA_loud1 (i:=12) (by kernel_rfl) rfl ?_
 refine HO_call (first:=[]) (capt:=[]) (is:=[2,3]) (R:=[_,_]) rfl rfl rfl rfl rfl Tryz.call29 rfl (add_spec _ _ _ _ _ _ _ _ ?_) ?_
 ·(first | omega | assumption | decide)
 intro y28 hy28
 refine HA_back rfl (kp [nn,nn,yy,nn] [_] rfl) ?_
 refine HA_done (by kernel_rfl) ?_
 refine H_env (ρ':=[]) trivial ?_
 refine H_seq ?_
 refine H_region (l:=[_]) rfl ?_
 refine HO_assign rfl rfl rfl ?_
 refine HO_nil ?_
 refine H_ret1 Tryz.results19 (.tmp rfl) (fun w hA => ⟨(y28,y27),congrArg Ending.returned ?_,?_,?_⟩)
 ·(exact congrArg (Value.int .i64) (by unfold Net.dblE;rw [if_pos hin,if_pos hyd.2]))
 ·trivial
 ·(rw [Net.dblH_yes hyd,Net.dblB_yes hyd];exact hA.keep (m:=[yy,yy,yy,yy]) (Y:=[_,_,_,_]) rfl)
theorem spoil_spec (g : Nat) (ha : Option Addr) (hc : Nat) (hs : List Hd) (mo : Int) (xs : List UInt8) (a : Option Addr) (c : Nat) (i at_ bi : Int) (h0 : 0 < mo) (hhs : hs.length≤1000) (hr : (Net.ix i hs.length) < hs.length→hs[(Net.ix i hs.length)]? = some ⟨a,xs.length,c⟩) (hx : xs.length≤100000) (hno0 : ¬ (Net.ix i hs.length) < hs.length→xs = []) : Spec Tryz.prog 21 #[.pointer (some ⟨g,0,none⟩),.int .i64 (i),.int .i64 (at_),.int .i64 (bi)] [.loc g [.slice ha (hs.length) hc,.int .i64 (mo)] 65,.own 32 kHd ha hc (hs),.own 5 kByte a c (xs)] (β:=Unit) (fun y => .int .i64 (Net.splE i hs.length xs at_ bi)) (fun y => True) (fun y => [.loc g [.slice ha (hs.length) hc,.int .i64 (mo)] 65,.own 32 kHd ha hc (hs),.own 5 kByte a c ((Net.spl xs at_ bi))]):=by
 refine Spec.enter (vs:=[_,_,_,_]) Tryz.func21 rfl Tryz.ntmps21 rfl (Nat.le_of_ble_eq_true rfl) (fun w0 ok0 => ?_)
 generalize hM0 : blks _ = M0
 refine H_seq ?_
 refine H_region (l:=[_]) rfl ?_
 refine HO_assign rfl rfl rfl ?_
 refine HO_nil ?_
 refine H_env (ρ':=[(0,_),(1,_),(2,_),(3,_)]) ⟨rfl,rfl,rfl,rfl,trivial⟩ ?_
 refine H_seq ?_
 refine H_seq ?_
 refine H_region (l:=[_,_,_,_]) rfl ?_
 iterate 2 refine HO_move rfl rfl rfl ?_
 refine HO_call (first:=[]) (capt:=[]) (is:=[0]) (R:=[_,_]) rfl rfl rfl rfl rfl Tryz.call36 rfl (may_spec _ _ _ _ _ _ ?_) ?_
 ·(first | omega | assumption | decide)
 intro y12 hy12
 clear y12 hy12
 refine HO_assign rfl rfl rfl ?_
 refine HO_nil ?_
 refine H_env (ρ':=[(9,_),(0,_),(1,_),(2,_),(3,_)]) ⟨rfl,rfl,rfl,rfl,rfl,trivial⟩ ?_
 refine H_seq ?_
 refine H_region (l:=[_,_]) rfl ?_
 refine HO_move rfl rfl rfl ?_
 refine HO_bin rfl rfl rfl rfl bin_neq ?_
 refine HO_nil ?_
 refine H_env (ρ':=[(14,_),(9,_),(0,_),(1,_),(2,_),(3,_)]) ⟨rfl,rfl,rfl,rfl,rfl,rfl,trivial⟩ ?_
 refine H_cond rfl ?_ ?_
 ·intro h14
  replace h14:=dT h14
  have hno : ¬ (Net.ix i hs.length) < hs.length:=fun h => h14 (Net.mayE_yes.2 h)
  refine H_seq ?_
  refine H_region (l:=[_,_]) rfl ?_
  refine HO_move rfl rfl rfl ?_
  refine HO_assign rfl rfl rfl ?_
  refine HO_nil ?_
  refine H_env (ρ':=[(8,_)]) ⟨rfl,trivial⟩ ?_
  have hns : ¬ Net.splP xs at_ bi:=fun h => by have h1:=h.1;have h2:=h.2.1;rw [hno0 hno] at h2;simp at h2;omega
  refine H_ret1 Tryz.results21 (.tmp rfl) (fun w hA => ⟨(),congrArg Ending.returned ?_,?_,?_⟩)
  ·(rw [Net.mayE_no hno];exact congrArg (Value.int .i64) (by unfold Net.splE;rw [if_neg hno]))
  ·trivial
  ·(rw [Net.spl_no hns];exact hA.keep (m:=[yy,yy,yy]) (Y:=[_,_,_]) rfl)
 intro h14
 replace h14:=dF h14
 have hin:=Net.mayE_yes.1 (Decidable.not_not.1 h14)
 refine H_skip ?_
 refine H_seq ?_
 refine H_seq ?_
 refine H_region (l:=[_,_,_,_,_,_,_,_,_,_,_,_,_,_,_,_,_,_,_,_,_,_,_]) rfl ?_
 refine HO_move rfl rfl rfl ?_
 refine HO_bin rfl rfl rfl rfl bin_lss ?_
 refine HO_move rfl rfl rfl ?_
 refine HO_split (d:=18) rfl ?_ ?_
 ·intro h18
  replace h18:=dT h18
  iterate 11 refine HO_no rfl rfl rfl ?_
  refine HO_pick_t rfl rfl rfl rfl ?_
  refine HO_move rfl rfl rfl ?_
  iterate 2 refine HO_no rfl rfl rfl ?_
  refine HO_pick_t rfl rfl rfl rfl ?_
  refine HO_move rfl rfl rfl ?_
  iterate 2 refine HO_no rfl rfl rfl ?_
  refine HO_pick_t rfl rfl rfl rfl ?_
  refine HO_nil ?_
  refine H_env (ρ':=[(38,_),(0,_),(1,_),(2,_),(3,_)]) ⟨rfl,rfl,rfl,rfl,rfl,trivial⟩ ?_
  refine H_cond rfl (fun _ => ?_) (fun h => nomatch h)
  refine H_seq ?_
  refine H_region (l:=[_]) rfl ?_
  refine HO_assign rfl rfl rfl ?_
  refine HO_nil ?_
  refine H_env (ρ':=[(8,_)]) ⟨rfl,trivial⟩ ?_
  have hns : ¬ Net.splP xs at_ bi:=fun h => by have h1:=h.1;have h2:=h.2.1;have h3:=h.2.2.1;have h4:=h.2.2.2;omega
  refine H_ret1 Tryz.results21 (.tmp rfl) (fun w hA => ⟨(),congrArg Ending.returned ?_,?_,?_⟩)
  ·(exact congrArg (Value.int .i64) (by unfold Net.splE;rw [if_pos hin,if_neg hns]))
  ·trivial
  ·(rw [Net.spl_no hns];exact hA.keep (m:=[yy,yy,yy]) (Y:=[_,_,_]) rfl)
 intro h18
 replace h18:=dF h18
 iterate 2 refine HO_move rfl rfl rfl ?_
 refine HO_nilCheck rfl rfl rfl ?_
 refine HO_fieldAddr (r:=0) rfl rfl rfl Tryz.underlying65 rfl Tryz.sizeOf63 rfl ?_
 refine HO_fieldAddr (r:=0) rfl rfl rfl Tryz.underlying63 rfl Tryz.sizeOf53 rfl ?_
 refine HO_load1 (i:=0) (j:=0) rfl rfl rfl Tryz.isAgg53 rfl (.loc _ _ _) rfl rfl ?_
 refine HO_move rfl rfl rfl ?_
 refine HO_indexOwn (i:=1) (j:=(Net.ix i hs.length)) rfl rfl rfl rfl ?_ Tryz.underlying53 Tryz.sizeOf32 rfl (by first | rfl | (simp;done) | (simp;omega)) ?_ (Nat.mul_one _) ?_
 ·exact Net.ix_eq hin
 ·exact hin
 intro g26 z26 hg26 hz26
 have he26 : z26 = ⟨a,xs.length,c⟩:=Option.some.inj (hz26.symm.trans (hr hin))
 refine HO_loadOwn (i:=1) (v:=.slice z26.a (z26.n) z26.c) rfl rfl rfl Tryz.isAgg32 rfl hg26 (Nat.mul_one _) hz26 (fun _ _ _ h => h.1) ?_
 refine HO_set (v':=.slice a (xs.length) c) 27 rfl (by rw [he26]) ?_
 refine HO_bi rfl rfl rfl (bi_len_sl Tryz.underlying32) ?_
 refine HO_bin rfl rfl rfl rfl bin_geq ?_
 refine HO_pick_f rfl rfl rfl rfl ?_
 refine HO_move rfl rfl rfl ?_
 refine HO_split (d:=31) rfl ?_ ?_
 ·intro h31
  replace h31:=dT h31
  iterate 2 refine HO_no rfl rfl rfl ?_
  refine HO_pick_t rfl rfl rfl rfl ?_
  refine HO_move rfl rfl rfl ?_
  iterate 2 refine HO_no rfl rfl rfl ?_
  refine HO_pick_t rfl rfl rfl rfl ?_
  refine HO_nil ?_
  refine H_env (ρ':=[(38,_),(0,_),(1,_),(2,_),(3,_)]) ⟨rfl,rfl,rfl,rfl,rfl,trivial⟩ ?_
  refine H_cond rfl (fun _ => ?_) (fun h => nomatch h)
  refine H_seq ?_
  refine H_region (l:=[_]) rfl ?_
  refine HO_assign rfl rfl rfl ?_
  refine HO_nil ?_
  refine H_env (ρ':=[(8,_)]) ⟨rfl,trivial⟩ ?_
  have hns : ¬ Net.splP xs at_ bi:=fun h => by have h1:=h.1;have h2:=h.2.1;have h3:=h.2.2.1;have h4:=h.2.2.2;omega
  refine H_ret1 Tryz.results21 (.tmp rfl) (fun w hA => ⟨(),congrArg Ending.returned ?_,?_,?_⟩)
  ·(exact congrArg (Value.int .i64) (by unfold Net.splE;rw [if_pos hin,if_neg hns]))
  ·trivial
  ·(rw [Net.spl_no hns];exact hA.keep (m:=[yy,yy,yy]) (Y:=[_,_,_]) rfl)
 intro h31
 replace h31:=dF h31
 refine HO_move rfl rfl rfl ?_
 refine HO_bin rfl rfl rfl rfl bin_lss ?_
 refine HO_pick_f rfl rfl rfl rfl ?_
 refine HO_move rfl rfl rfl ?_
 refine HO_split (d:=35) rfl ?_ ?_
 ·intro h35
  replace h35:=dT h35
  iterate 2 refine HO_no rfl rfl rfl ?_
  refine HO_pick_t rfl rfl rfl rfl ?_
  refine HO_nil ?_
  refine H_env (ρ':=[(38,_),(0,_),(1,_),(2,_),(3,_)]) ⟨rfl,rfl,rfl,rfl,rfl,trivial⟩ ?_
  refine H_cond rfl (fun _ => ?_) (fun h => nomatch h)
  refine H_seq ?_
  refine H_region (l:=[_]) rfl ?_
  refine HO_assign rfl rfl rfl ?_
  refine HO_nil ?_
  refine H_env (ρ':=[(8,_)]) ⟨rfl,trivial⟩ ?_
  have hns : ¬ Net.splP xs at_ bi:=fun h => by have h1:=h.1;have h2:=h.2.1;have h3:=h.2.2.1;have h4:=h.2.2.2;omega
  refine H_ret1 Tryz.results21 (.tmp rfl) (fun w hA => ⟨(),congrArg Ending.returned ?_,?_,?_⟩)
  ·(exact congrArg (Value.int .i64) (by unfold Net.splE;rw [if_pos hin,if_neg hns]))
  ·trivial
  ·(rw [Net.spl_no hns];exact hA.keep (m:=[yy,yy,yy]) (Y:=[_,_,_]) rfl)
 intro h35
 replace h35:=dF h35
 refine HO_move rfl rfl rfl ?_
 refine HO_bin rfl rfl rfl rfl bin_gtr ?_
 refine HO_pick_f rfl rfl rfl rfl ?_
 refine HO_nil ?_
 refine H_env (ρ':=[(38,_),(0,_),(1,_),(2,_),(3,_)]) ⟨rfl,rfl,rfl,rfl,rfl,trivial⟩ ?_
 refine H_cond rfl ?_ ?_
 ·intro h38
  replace h38:=dT h38
  refine H_seq ?_
  refine H_region (l:=[_]) rfl ?_
  refine HO_assign rfl rfl rfl ?_
  refine HO_nil ?_
  refine H_env (ρ':=[(8,_)]) ⟨rfl,trivial⟩ ?_
  have hns : ¬ Net.splP xs at_ bi:=fun h => by have h1:=h.1;have h2:=h.2.1;have h3:=h.2.2.1;have h4:=h.2.2.2;omega
  refine H_ret1 Tryz.results21 (.tmp rfl) (fun w hA => ⟨(),congrArg Ending.returned ?_,?_,?_⟩)
  ·(exact congrArg (Value.int .i64) (by unfold Net.splE;rw [if_pos hin,if_neg hns]))
  ·trivial
  ·(rw [Net.spl_no hns];exact hA.keep (m:=[yy,yy,yy]) (Y:=[_,_,_]) rfl)
 intro h38
 replace h38:=dF h38
 refine H_skip ?_
 refine H_seq ?_
 obtain ⟨q,rfl⟩ : ∃ q : Nat,at_ = q:=⟨at_.toNat,by omega⟩
 obtain ⟨j,rfl⟩ : ∃ j : Nat,bi = j:=⟨bi.toNat,by omega⟩
 have hsp : Net.splP xs (q : Int) (j : Int):=⟨by omega,by omega,by omega,by omega⟩
 refine H_drawB (m:=[yy,yy,nn]) (Xs:=[_,_]) (fuel:=16) (l:=#[false,false,false,false,false,false,false,false,false,false,false,false,false,false,false,false]) mixed rfl rfl rfl ?_
 refine HA_take (i:=0) bp rfl rfl rfl rfl (by kernel_rfl) rfl (V_move rfl) (kp [yy,yy,nn] [_,_] rfl) ?_
 refine HA_take (i:=1) bp rfl rfl rfl rfl (by kernel_rfl) rfl (V_nilCheck rfl) (kp [yy,yy,nn] [_,_] rfl) ?_
 refine HA_take (i:=2) bp rfl rfl rfl rfl (by kernel_rfl) rfl (V_fieldAddr (r:=0) rfl Tryz.underlying65 rfl Tryz.sizeOf63 rfl) (kp [yy,yy,nn] [_,_] rfl) ?_
 refine HA_take (i:=3) bp rfl rfl rfl rfl (by kernel_rfl) rfl (V_fieldAddr (r:=0) rfl Tryz.underlying63 rfl Tryz.sizeOf53 rfl) (kp [yy,yy,nn] [_,_] rfl) ?_
 refine HA_take (i:=4) bp rfl rfl rfl rfl (by kernel_rfl) rfl (V_load1 (i:=0) (j:=0) rfl Tryz.isAgg53 rfl (.loc _ _ _) rfl rfl) (kp [yy,yy,nn] [_,_] rfl) ?_
 refine HA_take (i:=5) bp rfl rfl rfl rfl (by kernel_rfl) rfl (V_move rfl) (kp [yy,yy,nn] [_,_] rfl) ?_
 refine HA_take (i:=8) bp rfl rfl rfl rfl (by kernel_rfl) rfl (V_move rfl) (kp [yy,yy,nn] [_,_] rfl) ?_
 refine HA_take (i:=11) bp rfl rfl rfl rfl (by kernel_rfl) rfl (V_move rfl) (kp [yy,yy,nn] [_,_] rfl) ?_
 refine HA_take (i:=12) bp rfl rfl rfl rfl (by kernel_rfl) rfl (V_bin rfl rfl (bin_shl' rfl ?_)) (kp [yy,yy,nn] [_,_] rfl) ?_
 ·omega
 refine HA_loud1 (i:=6) (by kernel_rfl) rfl ?_
 refine HO_indexOwn (i:=1) (j:=(Net.ix i hs.length)) rfl rfl rfl rfl ?_ Tryz.underlying53 Tryz.sizeOf32 rfl (by first | rfl | (simp;done) | (simp;omega)) ?_ (Nat.mul_one _) ?_
 ·exact Net.ix_eq hin
 ·exact hin
 intro g45 z45 hg45 hz45
 refine HA_back rfl (kp [yy,yy,nn] [_,_] rfl) ?_
 have he45 : z45 = ⟨a,xs.length,c⟩:=Option.some.inj (hz45.symm.trans (hr hin))
 refine HA_take (i:=7) bp rfl rfl rfl rfl (by kernel_rfl) rfl (V_loadOwn (i:=1) (v:=.slice z45.a (z45.n) z45.c) rfl Tryz.isAgg32 rfl hg45 (Nat.mul_one _) hz45 (fun _ _ _ h => h.1)) (kp [yy,yy,nn] [_,_] rfl) ?_
 refine HA_set (v':=.slice a (xs.length) c) 46 rfl (by rw [he45]) ?_
 refine HA_loud1 (i:=9) (by kernel_rfl) rfl ?_
 refine HO_indexOwn (i:=2) (j:=q) rfl rfl rfl rfl ?_ Tryz.underlying32 Tryz.sizeOf5 rfl (by first | rfl | (simp;done) | (simp;omega)) ?_ (Nat.mul_one _) ?_
 ·omega
 ·omega
 intro g48 z48 hg48 hz48
 refine HA_back rfl (kp [yy,yy,nn] [_,_] rfl) ?_
 refine HA_loud1 (i:=10) (by kernel_rfl) rfl ?_
 refine HO_loadOwn (i:=2) (v:=.int .u8 (z48.toNat)) rfl rfl rfl Tryz.isAgg5 rfl hg48 (Nat.mul_one _) hz48 (fun _ _ _ h => h.1) ?_
 refine HA_back rfl (kp [yy,yy,nn] [_,_] rfl) ?_
 refine HA_take (i:=13) bp rfl rfl rfl rfl (by kernel_rfl) rfl (V_bin rfl rfl (bin_xor rfl ?_ ?_)) (kp [yy,yy,nn] [_,_] rfl) ?_
 ·(exact z48.toNat_lt)
 ·(exact Nat.mod_lt _ (by decide))
 refine HA_set (v':=.int .u8 (((UInt8.ofNat (z48.toNat ^^^ (1 * 2 ^ j % 2 ^ 8))).toNat : Int))) 52 rfl (by exact Cod.flip_cast (by omega)) ?_
 refine HA_loud1 (i:=14) (by kernel_rfl) rfl ?_
 refine HO_indexOwn (i:=2) (j:=q) rfl rfl rfl rfl ?_ Tryz.underlying32 Tryz.sizeOf5 rfl (by first | rfl | (simp;done) | (simp;omega)) ?_ (Nat.mul_one _) ?_
 ·omega
 ·omega
 intro g53 z53 hg53 hz53
 refine HA_back rfl (kp [yy,yy,nn] [_,_] rfl) ?_
 refine HA_loud1 (i:=15) (by kernel_rfl) rfl ?_
 refine HO_storeOwn (i:=2) (cs:=[_]) (R:=[_,_]) (z':=UInt8.ofNat (z48.toNat ^^^ (1 * 2 ^ j % 2 ^ 8))) rfl rfl rfl Tryz.sizeOf5 rfl (by simp [Value.oneCell']) rfl hg53 rfl (Nat.mul_one _) ?_ (fun _ _ _ => ⟨rfl,trivial⟩) ?_
 ·omega
 refine HA_back rfl (kp [nn,yy,yy] [_,_] rfl) ?_
 refine HA_done (by kernel_rfl) ?_
 refine H_env (ρ':=[]) trivial ?_
 refine H_seq ?_
 refine H_region (l:=[_]) rfl ?_
 refine HO_assign rfl rfl rfl ?_
 refine HO_nil ?_
 refine H_ret1 Tryz.results21 (.tmp rfl) (fun w hA => ⟨(),congrArg Ending.returned ?_,?_,?_⟩)
 ·(exact congrArg (Value.int .i64) (by unfold Net.splE;rw [if_pos hin,if_pos hsp]))
 ·trivial
 ·(rw [Net.spl_yes hsp hz48];exact hA.only (is:=[0,1,0]) (Z:=[]) rfl)
end Go.Wk
