/- Contracts of the program's functions, each proved by walking its code. -/
import Derived.Test.YtdaphlemhmgncaaKhnet3
set_option maxRecDepth 100000
set_option linter.unusedVariables false
set_option linter.unusedSimpArgs false
namespace Go.Wk.Flaw24
open Go Go.RowKit Go.Proofs Go.Wk
theorem bd30_0_1_2_3_iiii {x1 : Int} {x2 : Int} {x3 : Int} {x4 : Int} : ∀ w,(Instr.build 30 (List.toArray (List.zip [0,1,2,3] [.int .i64 x1,.int .i64 x2,.int .i64 x3,.int .i64 x4]))).run Try.prog w = .ok (.agg #[.int .i64 x1,.int .i64 x2,.int .i64 x3,.int .i64 x4,.int .i64 (0),.int .i64 (0),.int .i64 (0),.int .i64 (0),.bool (false),.int .i64 (0),.slice none 0 0,.int .i64 (0),.int .i64 (0),.slice none 0 0,.slice none 0 0,.slice none 0 0]) w:=fun _ => by kernel_rfl
end Go.Wk.Flaw24
namespace Go.Wk
open Go Go.RowKit Go.Proofs Flaw24 
theorem plain_spec  : Spec Try.prog 24 #[] [] (β:=Unit) (fun y => .agg #[.int .i64 (9),.int .i64 (1),.int .i64 (2),.int .i64 (1),.int .i64 (0),.int .i64 (0),.int .i64 (0),.int .i64 (0),.bool (false),.int .i64 (0),.slice none 0 0,.int .i64 (0),.int .i64 (0),.slice none 0 0,.slice none 0 0,.slice none 0 0]) (fun y => True) (fun y => []):=by
 refine Spec.enter (vs:=[]) Try.func24 rfl Try.ntmps24 rfl (Nat.le_of_ble_eq_true rfl) (fun w0 ok0 => ?_)
 generalize hM0 : blks _ = M0
 have hMn:=@noM _ _ hM0 (by simp [Atom.dat,Atom.elem])
 refine H_seq ?_
 refine H_region (l:=[_]) rfl ?_
 refine HO_alloc (cs:=[_,_,_,_,_,_,_,_,_,_,_,_,_,_,_,_]) rfl rfl Try.zeroValue30 rfl ?_
 intro g0
 refine HO_nil ?_
 refine H_seq ?_
 refine H_region (l:=[_,_]) rfl ?_
 refine HO_build (xo:=[(0,_),(1,_),(2,_),(3,_)]) (vs:=[_,_,_,_]) rfl rfl rfl rfl (bd30_0_1_2_3_iiii) ?_
 refine HO_store (i:=0) (j:=0) (us:=[]) (old:=[_,_,_,_,_,_,_,_,_,_,_,_,_,_,_,_]) (ts:=[]) (cs:=[_,_,_,_,_,_,_,_,_,_,_,_,_,_,_,_]) (R:=[]) (new:=[_,_,_,_,_,_,_,_,_,_,_,_,_,_,_,_]) rfl rfl rfl Try.sizeOf30 rfl (by simp [Value.oneCell']) rfl rfl rfl rfl rfl rfl ?_
 refine HO_nil ?_
 refine H_env (ρ':=[(0,_)]) ⟨rfl,trivial⟩ ?_
 refine H_ret1 Try.results24 (.cell rfl (fun w hA => run_loadVarA (cs:=[_,_,_,_,_,_,_,_,_,_,_,_,_,_,_,_]) (Try.isAgg30 w) (Try.sizeOf30 w) (Tells.cells (.loc _ _ _) (hA.get (i:=0) rfl)))) (fun w hA => ⟨(),congrArg Ending.returned ?_,?_,?_⟩)
 ·rfl
 ·trivial
 ·exact hA.keep (m:=[nn]) (Y:=[]) rfl
theorem lives24_spec  : Spec Try.prog 11 #[] [] (β:=Unit) (fun y => .bool (true)) (fun y => True) (fun y => []):=by
 refine Spec.enter (vs:=[]) Try.func11 rfl Try.ntmps11 rfl (Nat.le_of_ble_eq_true rfl) (fun w0 ok0 => ?_)
 generalize hM0 : blks _ = M0
 have hMn:=@noM _ _ hM0 (by simp [Atom.dat,Atom.elem])
 refine H_seq ?_
 refine H_region (l:=[_]) rfl ?_
 refine HO_assign rfl rfl rfl ?_
 refine HO_nil ?_
 refine H_env (ρ':=[]) trivial ?_
 refine H_seq ?_
 refine H_region (l:=[_,_]) rfl ?_
 refine HO_call (first:=[]) (capt:=[]) (is:=[]) (R:=[]) rfl rfl rfl rfl rfl Try.call23 rfl (new_ok _ ?_) ?_
 ·decide
 intro y4 hy4
 refine HO_assign rfl rfl rfl ?_
 refine HO_nil ?_
 refine H_env (ρ':=[(1,_)]) ⟨rfl,trivial⟩ ?_
 refine H_seq ?_
 refine H_seq ?_
 refine H_own0 kHd 26 none ?_
 refine H_region (l:=[_,_,_,_,_,_,_,_,_,_,_,_,_]) rfl ?_
 refine HO_move rfl rfl rfl ?_
 refine HO_bin (r:=.bool false) rfl rfl rfl rfl (bin_ptr_eq_pn Try.runUnderlying38) ?_
 iterate 2 refine HO_move rfl rfl rfl ?_
 refine HO_call (first:=[]) (capt:=[]) (is:=[]) (R:=[_,_]) rfl rfl rfl rfl rfl Try.call24 rfl plain_spec ?_
 intro y9 hy9
 clear y9 hy9
 refine HO_nilDat kEnt ?_
 refine HO_nilDat kInt ?_
 refine HO_nilDat kInt ?_
 refine HO_nilDat kByte ?_
 refine HO_dup (i:=3) rfl rfl ?_
 refine HO_dup (i:=3) rfl rfl ?_
 refine HO_dup (i:=3) rfl rfl ?_
 refine HO_dup (i:=3) rfl rfl ?_
 refine HO_call (first:=[]) (capt:=[]) (is:=[4,4,0,0,0,0]) (R:=[_,_,_,_]) rfl rfl rfl rfl rfl Try.call6 rfl (send_spec y4 none 0 [] 9 9 1 2 1 0 0 0 0 false 0 [] none 0 0 0 [] [] none 0 none 0 [] none 0 ?_ ?_ ?_ ?_ ?_ ?_ ?_ ?_ ?_ ?_) ?_
 ·decide
 ·(exact Nat.zero_le _)
 ·(exact Nat.zero_le _)
 ·(exact Nat.zero_le _)
 ·(exact Nat.zero_le _)
 ·decide
 ·decide
 ·decide
 ·(intro e he;cases he)
 ·decide +kernel
 intro y10 hy10
 have hs1 : Net.sendP 9 ([] : List Hd).length (⟨9,1,2,1,0,0,0,0,false,0,[],⟨0,0,⟨[],[]⟩,[]⟩⟩ : Msg):=by decide +kernel
 rw [Net.sendH_yes hs1,Net.sendB_yes hs1]
 obtain ⟨F,hF⟩ : ∃ F,Cod.frame (Ent.msgB (⟨9,1,2,1,0,0,0,0,false,0,[],⟨0,0,⟨[],[]⟩,[]⟩⟩ : Msg)) = F:=⟨_,rfl⟩
 have hFl : F.length≤100000:=by rw [← hF];decide +kernel
 have hlk : Net.look 0 2 F = ((⟨9,1,2,1,0,0,0,0,false,0,[],⟨0,0,⟨[],[]⟩,[]⟩⟩ : Msg),0):=by rw [← hF];decide +kernel
 rw [hF]
 refine HO_bin rfl rfl rfl rfl bin_neq ?_
 refine HO_set (v':=.bool (false)) 11 rfl (by exact congrArg Value.bool (show decide (Net.sendE 9 0 (⟨9,1,2,1,0,0,0,0,false,0,[],⟨0,0,⟨[],[]⟩,[]⟩⟩ : Msg) ≠ 0) = false by decide +kernel)) ?_
 refine HO_pick_f rfl rfl rfl rfl ?_
 iterate 2 refine HO_move rfl rfl rfl ?_
 refine HO_call (first:=[]) (capt:=[]) (is:=[0,1,2]) (R:=[_,_,_,_]) rfl rfl rfl rfl rfl Try.call8 rfl (double_spec _ _ _ _ _ _ _ _ _ ?_ ?_ ?_ ?_) ?_
 ·decide
 ·(simp)
 ·(exact fun _ => rfl)
 ·exact hFl
 intro y15 hy15
 rw [Net.dblH_yes (show Net.dblP 9 1 0 by decide +kernel)]
 refine HO_bin rfl rfl rfl rfl bin_neq ?_
 refine HO_set (v':=.bool (false)) 16 rfl (by exact congrArg Value.bool (show decide (Net.dblE 9 1 0 ≠ 0) = false by decide +kernel)) ?_
 refine HO_pick_f rfl rfl rfl rfl ?_
 refine HO_nil ?_
 refine H_env (ρ':=[(17,_),(1,_)]) ⟨rfl,rfl,trivial⟩ ?_
 refine H_world (kp [yy,yy,yy,yy,nn,nn,nn,nn] [_,_,_,_] rfl) ?_
 refine H_cond rfl (fun h => nomatch h) (fun _ => ?_)
 refine H_skip ?_
 refine H_seq ?_
 refine H_region (l:=[_,_,_,_,_,_,_,_]) rfl ?_
 refine HO_move rfl rfl rfl ?_
 refine HO_call (first:=[]) (capt:=[]) (is:=[0,1,2]) (R:=[_]) rfl rfl rfl rfl rfl Try.call5 rfl (take_spec _ _ _ _ _ _ _ _ _ ?_ ?_ ?_ ?_) ?_
 ·decide
 ·(simp)
 ·(exact fun _ => rfl)
 ·exact hFl
 intro y20 hy20
 refine HO_move rfl rfl rfl ?_
 refine HO_extract (vs:=[_,_]) rfl rfl rfl rfl ?_
 refine HO_extract (vs:=[_,_]) rfl rfl rfl rfl ?_
 refine HO_alloc (cs:=[_,_,_,_,_,_,_,_,_,_,_,_,_,_,_,_]) rfl rfl Try.zeroValue30 rfl ?_
 intro g2
 refine HO_store (i:=0) (j:=0) (us:=[]) (old:=[_,_,_,_,_,_,_,_,_,_,_,_,_,_,_,_]) (ts:=[]) (cs:=[_,_,_,_,_,_,_,_,_,_,_,_,_,_,_,_]) (R:=[_,_,_,_,_,_,_,_]) (new:=[_,_,_,_,_,_,_,_,_,_,_,_,_,_,_,_]) rfl rfl rfl Try.sizeOf30 rfl (by simp [Value.oneCell']) rfl rfl rfl rfl rfl rfl ?_
 refine HO_assign rfl rfl rfl ?_
 refine HO_nil ?_
 refine H_env (ρ':=[(3,_),(2,_),(1,_)]) ⟨rfl,rfl,rfl,trivial⟩ ?_
 refine H_seq ?_
 refine H_region (l:=[_,_,_,_,_,_,_,_,_,_,_,_,_,_,_,_,_,_]) rfl ?_
 refine HO_move rfl rfl rfl ?_
 refine HO_bin rfl rfl rfl rfl bin_eql ?_
 refine HO_set (v':=.bool (true)) 24 rfl (by exact congrArg Value.bool (show decide ((Net.look 0 2 F).2 = 0) = true by rw [hlk];rfl)) ?_
 refine HO_move rfl rfl rfl ?_
 refine HO_fieldAddr (r:=0) rfl rfl rfl Try.underlying30 rfl Try.sizeOf3 rfl ?_
 refine HO_load1 (i:=0) (j:=0) rfl rfl rfl Try.isAgg3 rfl (.loc _ _ _) rfl rfl ?_
 refine HO_bin rfl rfl rfl rfl bin_eql ?_
 refine HO_set (v':=.bool (true)) 28 rfl (by exact congrArg Value.bool (show decide ((Net.look 0 2 F).1.kind = 9) = true by rw [hlk];rfl)) ?_
 refine HO_pick_t rfl rfl rfl rfl ?_
 refine HO_move rfl rfl rfl ?_
 refine HO_fieldAddr (r:=2) rfl rfl rfl Try.underlying30 rfl Try.sizeOf3 rfl ?_
 refine HO_load1 (i:=0) (j:=2) rfl rfl rfl Try.isAgg3 rfl (.loc _ _ _) rfl rfl ?_
 refine HO_bin rfl rfl rfl rfl bin_eql ?_
 refine HO_set (v':=.bool (true)) 33 rfl (by exact congrArg Value.bool (show decide ((Net.look 0 2 F).1.to = 2) = true by rw [hlk];rfl)) ?_
 refine HO_pick_t rfl rfl rfl rfl ?_
 iterate 2 refine HO_move rfl rfl rfl ?_
 refine HO_call (first:=[]) (capt:=[]) (is:=[1]) (R:=[_,_,_,_,_,_,_,_]) rfl rfl rfl rfl rfl Try.call10 rfl (len_spec _ _ _ _ _ ?_) ?_
 ·(first | omega | assumption | decide)
 intro y37 hy37
 clear y37 hy37
 refine HO_bin rfl rfl rfl rfl bin_eql ?_
 refine HO_set (v':=.bool (true)) 38 rfl (by exact congrArg Value.bool (show decide (((1 : Nat) : Int) = 1) = true by decide +kernel)) ?_
 refine HO_pick_t rfl rfl rfl rfl ?_
 refine HO_assign rfl rfl rfl ?_
 refine HO_nil ?_
 refine H_env (ρ':=[(0,_)]) ⟨rfl,trivial⟩ ?_
 refine H_world (kp [nn,nn,nn,yy,nn,nn,nn,nn,yy] [_,_] rfl) ?_
 refine H_ret1 Try.results11 (.tmp rfl) (fun w hA => ⟨(),congrArg Ending.returned ?_,?_,?_⟩)
 ·rfl
 ·trivial
 ·exact hA.keep (m:=[nn,nn]) (Y:=[]) rfl
end Go.Wk
