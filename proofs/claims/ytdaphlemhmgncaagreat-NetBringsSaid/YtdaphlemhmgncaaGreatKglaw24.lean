/- Contracts of the program's functions, each proved by walking its code. -/
import Derived.Test.YtdaphlemhmgncaaGreatKgnet4
set_option maxRecDepth 100000
set_option linter.unusedVariables false
set_option linter.unusedSimpArgs false
namespace Go.Wk.Flaw24
open Go Go.RowKit Go.Proofs Go.Wk
theorem bd36_0_1_2_3_iiii {x1 : Int} {x2 : Int} {x3 : Int} {x4 : Int} : ∀ w,(Instr.build 36 (List.toArray (List.zip [0,1,2,3] [.int .i64 x1,.int .i64 x2,.int .i64 x3,.int .i64 x4]))).run Tryz.prog w = .ok (.agg #[.int .i64 x1,.int .i64 x2,.int .i64 x3,.int .i64 x4,.int .i64 (0),.int .i64 (0),.int .i64 (0),.int .i64 (0),.bool (false),.int .i64 (0),.slice none 0 0,.int .i64 (0),.int .i64 (0),.slice none 0 0,.slice none 0 0,.slice none 0 0]) w:=fun _ => by kernel_rfl
end Go.Wk.Flaw24
namespace Go.Wk
open Go Go.RowKit Go.Proofs Flaw24 
theorem few24_spec (mk mf mt me mi ml mc mr : Int) (rj : Bool) (hi : Int) (es : List Ent) (a9 : Option Addr) (c9 : Nat) (ix te : Int) (vo le : List Int) (a1 : Option Addr) (c1 : Nat) (a2 : Option Addr) (c2 : Nat) (da : List UInt8) (a3 : Option Addr) (c3 : Nat) (nd : da.length≤BIG) (n1 : vo.length≤BIG) (n2 : le.length≤BIG) : Spec Tryz.prog 9 #[.agg #[.int .i64 (mk),.int .i64 (mf),.int .i64 (mt),.int .i64 (me),.int .i64 (mi),.int .i64 (ml),.int .i64 (mc),.int .i64 (mr),.bool (rj),.int .i64 (hi),.slice a9 (es.length) c9,.int .i64 (ix),.int .i64 (te),.slice a1 (vo.length) c1,.slice a2 (le.length) c2,.slice a3 (da.length) c3]] [.dat kEnt.sl (es) [.slice a9 (es.length) c9],.dat kInt.sl (vo) [.slice a1 (vo.length) c1],.dat kInt.sl (le) [.slice a2 (le.length) c2],.dat kByte.sl (da) [.slice a3 (da.length) c3]] (β:=Unit) (fun y => .bool (Net.few es ⟨ix,te,⟨vo,le⟩,da⟩)) (fun y => True) (fun y => []):=by
 (try simp only [BIG] at nd n1 n2)
 refine Spec.enter (vs:=[_]) Tryz.func9 rfl Tryz.ntmps9 rfl (Nat.le_of_ble_eq_true rfl) (fun w0 ok0 => ?_)
 generalize hM0 : blks _ = M0
 have hMn:=@noM _ _ hM0 (by simp [Atom.dat,Atom.elem])
 refine H_len_le (i:=0) rfl ?_
 intro hlen0
 refine H_len_le (i:=1) rfl ?_
 intro hlen1
 refine H_len_le (i:=2) rfl ?_
 intro hlen2
 refine H_seq ?_
 refine H_region (l:=[_,_]) rfl ?_
 refine HO_box (cs:=[_,_,_,_,_,_,_,_,_,_,_,_,_,_,_,_]) rfl rfl rfl rfl ?_
 intro g1
 refine HO_assign rfl rfl rfl ?_
 refine HO_nil ?_
 refine H_env (ρ':=[(1,_)]) ⟨rfl,trivial⟩ ?_
 refine H_seq ?_
 refine H_region (l:=[_,_,_,_,_,_,_,_,_,_,_,_,_,_,_,_,_,_]) rfl ?_
 refine HO_fieldAddr (r:=11) rfl rfl rfl Tryz.underlying36 rfl Tryz.sizeOf34 rfl ?_
 refine HO_fieldAddr (r:=15) rfl rfl rfl Tryz.underlying34 rfl Tryz.sizeOf32 rfl ?_
 refine HO_load1 (i:=0) (j:=15) rfl rfl rfl Tryz.isAgg32 rfl (.loc _ _ _) rfl rfl ?_
 refine HO_bi rfl rfl rfl (bi_len_sl Tryz.underlying32) ?_
 refine HO_bin rfl rfl rfl rfl (bin_quo ?_ ?_ ?_) ?_
 ·omega
 ·omega
 ·omega
 refine HO_fieldAddr (r:=11) rfl rfl rfl Tryz.underlying36 rfl Tryz.sizeOf34 rfl ?_
 refine HO_fieldAddr (r:=13) rfl rfl rfl Tryz.underlying34 rfl Tryz.sizeOf31 rfl ?_
 refine HO_fieldAddr (r:=13) rfl rfl rfl Tryz.underlying31 rfl Tryz.sizeOf29 rfl ?_
 refine HO_load1 (i:=0) (j:=13) rfl rfl rfl Tryz.isAgg29 rfl (.loc _ _ _) rfl rfl ?_
 refine HO_bi rfl rfl rfl (bi_len_sl Tryz.underlying29) ?_
 refine HO_bin rfl rfl rfl rfl (bin_add ?_ ?_) ?_
 ·omega
 ·omega
 refine HO_fieldAddr (r:=11) rfl rfl rfl Tryz.underlying36 rfl Tryz.sizeOf34 rfl ?_
 refine HO_fieldAddr (r:=13) rfl rfl rfl Tryz.underlying34 rfl Tryz.sizeOf31 rfl ?_
 refine HO_fieldAddr (r:=14) rfl rfl rfl Tryz.underlying31 rfl Tryz.sizeOf29 rfl ?_
 refine HO_load1 (i:=0) (j:=14) rfl rfl rfl Tryz.isAgg29 rfl (.loc _ _ _) rfl rfl ?_
 refine HO_bi rfl rfl rfl (bi_len_sl Tryz.underlying29) ?_
 refine HO_bin rfl rfl rfl rfl (bin_add ?_ ?_) ?_
 ·omega
 ·omega
 refine HO_assign rfl rfl rfl ?_
 refine HO_nil ?_
 refine H_env (ρ':=[(3,_),(1,_)]) ⟨rfl,rfl,trivial⟩ ?_
 refine H_seq ?_
 refine H_seq ?_
 have hf0 : 0≤Ent.fewS ⟨ix,te,⟨vo,le⟩,da⟩∧Ent.fewS ⟨ix,te,⟨vo,le⟩,da⟩≤422212465053696:=by unfold Ent.fewS;dsimp only;omega
 refine H_region (l:=[_,_,_,_]) rfl ?_
 refine HO_fieldAddr (r:=10) rfl rfl rfl Tryz.underlying36 rfl Tryz.sizeOf28 rfl ?_
 refine HO_load1 (i:=0) (j:=10) rfl rfl rfl Tryz.isAgg28 rfl (.loc _ _ _) rfl rfl ?_
 refine HO_bi rfl rfl rfl (bi_len_sl Tryz.underlying28) ?_
 refine HO_move rfl rfl rfl ?_
 refine HO_nil ?_
 refine H_env (ρ':=[(27,_),(26,_),(25,_),(3,_)]) ⟨rfl,rfl,rfl,rfl,trivial⟩ ?_
 refine H_world (kp [nn,yy,nn,nn,nn] [_] rfl) ?_
 refine H_block ?_
 refine H_loop (σ:=Nat × Int) (fun s => s.1≤es.length∧s.2 = Ent.fewS ⟨ix,te,⟨vo,le⟩,da⟩ + Ent.wsum (es.take s.1)∧0≤s.2∧s.2≤422212465053696) (fun s => [(3,.int .i64 (s.2)),(25,.slice a9 (es.length) c9),(26,.int .i64 ((es.length : Int))),(27,.int .i64 ((s.1 : Int)))]) (fun s => Asn w0 ok0 M0 [.dat kEnt.sl (es) [.slice a9 (es.length) c9]]) (fun s => es.length - s.1) ⟨0,Ent.fewS ⟨ix,te,⟨vo,le⟩,da⟩⟩ ?_ ?_ ?_ ?_
 ·exact ⟨Nat.zero_le _,by simp [Ent.wsum],hf0⟩
 ·exact ⟨rfl,rfl,rfl,rfl,trivial⟩
 ·intro w hA
  exact hA.only (is:=[0]) (Z:=[]) rfl
 ·rintro ⟨i,n⟩ hI
  (try dsimp only at hI ⊢)
  refine H_seq ?_
  refine H_region (l:=[_]) rfl ?_
  refine HO_bin rfl rfl rfl rfl bin_lss ?_
  refine HO_nil ?_
  refine H_seq ?_
  refine H_cond rfl ?_ ?_
  ·intro h28
   replace h28:=dT h28
   refine H_skip ?_
   refine H_seq ?_
   refine H_block ?_
   refine H_seq ?_
   refine H_region (l:=[_,_,_,_]) rfl ?_
   refine HO_indexAddr open_Ent (i:=0) rfl rfl rfl rfl rfl Tryz.underlying28 Tryz.sizeOf70 rfl ?_ ?_
   ·omega
   intro b29 o29 z29 y29 hz29 hI29
   (try simp only [BIG] at hI29)
   refine HO_loadA (i:=0) (us:=[]) (cs:=[_,_,_,_,_,_,_,_,_,_,_,_,_]) (ts:=[]) rfl rfl rfl Tryz.isAgg70 Tryz.sizeOf70 rfl (.elem _ _ _) rfl rfl rfl rfl ?_
   refine HO_alloc (cs:=[_,_,_,_,_,_,_,_,_,_,_,_,_]) rfl rfl Tryz.zeroValue70 rfl ?_
   intro g5
   refine HO_store (i:=0) (j:=0) (us:=[]) (old:=[_,_,_,_,_,_,_,_,_,_,_,_,_]) (ts:=[]) (cs:=[_,_,_,_,_,_,_,_,_,_,_,_,_]) (R:=[_,_,_,_]) (new:=[_,_,_,_,_,_,_,_,_,_,_,_,_]) rfl rfl rfl Tryz.sizeOf70 rfl (by simp [Value.oneCell']) rfl rfl rfl rfl rfl rfl ?_
   refine HO_nil ?_
   refine H_env (ρ':=[(5,_),(3,_),(25,_),(26,_),(27,_)]) ⟨rfl,rfl,rfl,rfl,rfl,trivial⟩ ?_
   refine H_world (kp [yy,nn,yy,yy,yy] [_,_,_,_] rfl) ?_
   refine H_seq ?_
   refine H_region (l:=[_,_,_,_]) rfl ?_
   refine HO_fieldAddr (r:=3) rfl rfl rfl Tryz.underlying70 rfl Tryz.sizeOf68 rfl ?_
   refine HO_loadA (i:=0) (us:=[_,_,_]) (cs:=[_,_,_,_,_,_,_,_]) (ts:=[_,_]) rfl rfl rfl Tryz.isAgg68 Tryz.sizeOf68 rfl (.loc _ _ _) rfl rfl rfl rfl ?_
   refine HO_alloc (cs:=[_,_,_,_,_,_,_,_]) rfl rfl Tryz.zeroValue68 rfl ?_
   intro g6
   refine HO_store (i:=0) (j:=0) (us:=[]) (old:=[_,_,_,_,_,_,_,_]) (ts:=[]) (cs:=[_,_,_,_,_,_,_,_]) (R:=[_,_,_,_]) (new:=[_,_,_,_,_,_,_,_]) rfl rfl rfl Tryz.sizeOf68 rfl (by simp [Value.oneCell']) rfl rfl rfl rfl rfl rfl ?_
   refine HO_nil ?_
   refine H_env (ρ':=[(6,_),(5,_),(3,_),(25,_),(26,_),(27,_)]) ⟨rfl,rfl,rfl,rfl,rfl,rfl,trivial⟩ ?_
   refine H_seq ?_
   refine H_region (l:=[_,_,_,_,_,_,_,_,_,_,_,_,_,_,_,_,_,_,_,_,_,_,_,_,_,_,_,_,_,_]) rfl ?_
   refine HO_move rfl rfl rfl ?_
   refine HO_fieldAddr (r:=3) rfl rfl rfl Tryz.underlying68 rfl Tryz.sizeOf9 rfl ?_
   refine HO_load1 (i:=0) (j:=3) rfl rfl rfl Tryz.isAgg9 rfl (.loc _ _ _) rfl rfl ?_
   refine HO_bi rfl rfl rfl (bi_len_str Tryz.underlying9) ?_
   refine HO_fieldAddr (r:=4) rfl rfl rfl Tryz.underlying68 rfl Tryz.sizeOf9 rfl ?_
   refine HO_load1 (i:=0) (j:=4) rfl rfl rfl Tryz.isAgg9 rfl (.loc _ _ _) rfl rfl ?_
   refine HO_bi rfl rfl rfl (bi_len_str Tryz.underlying9) ?_
   refine HO_bin rfl rfl rfl rfl (bin_add ?_ ?_) ?_
   ·omega
   ·omega
   refine HO_fieldAddr (r:=5) rfl rfl rfl Tryz.underlying68 rfl Tryz.sizeOf9 rfl ?_
   refine HO_load1 (i:=0) (j:=5) rfl rfl rfl Tryz.isAgg9 rfl (.loc _ _ _) rfl rfl ?_
   refine HO_bi rfl rfl rfl (bi_len_str Tryz.underlying9) ?_
   refine HO_bin rfl rfl rfl rfl (bin_add ?_ ?_) ?_
   ·omega
   ·omega
   refine HO_fieldAddr (r:=6) rfl rfl rfl Tryz.underlying68 rfl Tryz.sizeOf9 rfl ?_
   refine HO_load1 (i:=0) (j:=6) rfl rfl rfl Tryz.isAgg9 rfl (.loc _ _ _) rfl rfl ?_
   refine HO_bi rfl rfl rfl (bi_len_str Tryz.underlying9) ?_
   refine HO_bin rfl rfl rfl rfl (bin_add ?_ ?_) ?_
   ·omega
   ·omega
   refine HO_bin rfl rfl rfl rfl (bin_quo ?_ ?_ ?_) ?_
   ·omega
   ·omega
   ·omega
   refine HO_bin rfl rfl rfl rfl (bin_add ?_ ?_) ?_
   ·omega
   ·omega
   refine HO_fieldAddr (r:=11) rfl rfl rfl Tryz.underlying70 rfl Tryz.sizeOf31 rfl ?_
   refine HO_fieldAddr (r:=11) rfl rfl rfl Tryz.underlying31 rfl Tryz.sizeOf29 rfl ?_
   refine HO_load1 (i:=1) (j:=11) rfl rfl rfl Tryz.isAgg29 rfl (.loc _ _ _) rfl rfl ?_
   refine HO_bi rfl rfl rfl (bi_len_sl Tryz.underlying29) ?_
   refine HO_bin rfl rfl rfl rfl (bin_add ?_ ?_) ?_
   ·omega
   ·omega
   refine HO_fieldAddr (r:=11) rfl rfl rfl Tryz.underlying70 rfl Tryz.sizeOf31 rfl ?_
   refine HO_fieldAddr (r:=12) rfl rfl rfl Tryz.underlying31 rfl Tryz.sizeOf29 rfl ?_
   refine HO_load1 (i:=1) (j:=12) rfl rfl rfl Tryz.isAgg29 rfl (.loc _ _ _) rfl rfl ?_
   refine HO_bi rfl rfl rfl (bi_len_sl Tryz.underlying29) ?_
   refine HO_bin rfl rfl rfl rfl (bin_add ?_ ?_) ?_
   ·omega
   ·omega
   refine HO_set (v':=.int .i64 (Ent.weight z29)) 60 rfl (by rfl) ?_
   have hwz : Ent.weight z29≤844424930107392∧1≤Ent.weight z29:=by refine ⟨?_,Ent.weight_pos _⟩;unfold Ent.weight;omega
   refine HO_bin rfl rfl rfl rfl (bin_add ?_ ?_) ?_
   ·omega
   ·omega
   refine HO_assign rfl rfl rfl ?_
   refine HO_nil ?_
   refine H_env (ρ':=[(3,_),(25,_),(26,_),(27,_)]) ⟨rfl,rfl,rfl,rfl,trivial⟩ ?_
   refine H_world (kp [nn,nn,nn,nn,yy] [_] rfl) ?_
   refine H_seq ?_
   refine H_region (l:=[_,_]) rfl ?_
   refine HO_move rfl rfl rfl ?_
   refine HO_bin rfl rfl rfl rfl bin_gtr ?_
   refine HO_nil ?_
   refine H_env (ρ':=[(63,_),(3,_),(25,_),(26,_),(27,_)]) ⟨rfl,rfl,rfl,rfl,rfl,trivial⟩ ?_
   refine H_cond rfl ?_ ?_
   ·intro h63
    replace h63:=dT h63
    refine H_seq ?_
    refine H_region (l:=[_]) rfl ?_
    refine HO_assign rfl rfl rfl ?_
    refine HO_nil ?_
    refine H_env (ρ':=[(2,_)]) ⟨rfl,trivial⟩ ?_
    refine H_world (kp [nn] [] rfl) ?_
    refine H_ret1 Tryz.results9 (.tmp rfl) (fun w hA => ⟨(),congrArg Ending.returned ?_,?_,?_⟩)
    ·(exact congrArg Value.bool (Net.few_no hz29 hI.2.1 h63))
    ·trivial
    ·exact hA.keep (m:=[]) (Y:=[]) rfl
   intro h63
   replace h63:=dF h63
   refine H_skip ?_
   refine H_blk ?_
   refine H_region (l:=[_,_]) rfl ?_
   refine HO_bin rfl rfl rfl rfl (bin_add ?_ ?_) ?_
   ·omega
   ·omega
   refine HO_move rfl rfl rfl ?_
   refine HO_nil ?_
   refine H_env (ρ':=[(27,_),(3,_),(25,_),(26,_)]) ⟨rfl,rfl,rfl,rfl,trivial⟩ ?_
   refine H_inv (fun a w hf hA => ⟨⟨i + 1,n + Ent.weight z29⟩,?_,?_,hf.sub ?_,?_⟩)
   ·exact ⟨by omega,by rw [hI.2.1,Ent.wsum_next hz29];omega,by dsimp only;omega,by dsimp only;omega⟩
   ·(try dsimp only);omega
   ·exact ⟨rfl,rfl,rfl,rfl,trivial⟩
   ·exact hA.only (is:=[0]) (Z:=[]) rfl
  intro h28
  replace h28:=dF h28
  refine H_exit rfl ?_
  refine H_seq ?_
  refine H_region (l:=[_,_,_]) rfl ?_
  refine HO_move rfl rfl rfl ?_
  refine HO_bin rfl rfl rfl rfl bin_leq ?_
  refine HO_assign rfl rfl rfl ?_
  refine HO_nil ?_
  refine H_env (ρ':=[(2,_)]) ⟨rfl,trivial⟩ ?_
  refine H_world (kp [nn] [] rfl) ?_
  obtain rfl : i = es.length:=by omega
  refine H_ret1 Tryz.results9 (.tmp rfl) (fun w hA => ⟨(),congrArg Ending.returned ?_,?_,?_⟩)
  ·(exact congrArg Value.bool (Net.few_ok hI.2.1))
  ·trivial
  ·exact hA.keep (m:=[]) (Y:=[]) rfl
theorem plain_spec  : Spec Tryz.prog 25 #[] [] (β:=Unit) (fun y => .agg #[.int .i64 (9),.int .i64 (1),.int .i64 (2),.int .i64 (1),.int .i64 (0),.int .i64 (0),.int .i64 (0),.int .i64 (0),.bool (false),.int .i64 (0),.slice none 0 0,.int .i64 (0),.int .i64 (0),.slice none 0 0,.slice none 0 0,.slice none 0 0]) (fun y => True) (fun y => []):=by
 refine Spec.enter (vs:=[]) Tryz.func25 rfl Tryz.ntmps25 rfl (Nat.le_of_ble_eq_true rfl) (fun w0 ok0 => ?_)
 generalize hM0 : blks _ = M0
 have hMn:=@noM _ _ hM0 (by simp [Atom.dat,Atom.elem])
 refine H_seq ?_
 refine H_region (l:=[_]) rfl ?_
 refine HO_alloc (cs:=[_,_,_,_,_,_,_,_,_,_,_,_,_,_,_,_]) rfl rfl Tryz.zeroValue36 rfl ?_
 intro g0
 refine HO_nil ?_
 refine H_seq ?_
 refine H_region (l:=[_,_]) rfl ?_
 refine HO_build (xo:=[(0,_),(1,_),(2,_),(3,_)]) (vs:=[_,_,_,_]) rfl rfl rfl rfl (bd36_0_1_2_3_iiii) ?_
 refine HO_store (i:=0) (j:=0) (us:=[]) (old:=[_,_,_,_,_,_,_,_,_,_,_,_,_,_,_,_]) (ts:=[]) (cs:=[_,_,_,_,_,_,_,_,_,_,_,_,_,_,_,_]) (R:=[]) (new:=[_,_,_,_,_,_,_,_,_,_,_,_,_,_,_,_]) rfl rfl rfl Tryz.sizeOf36 rfl (by simp [Value.oneCell']) rfl rfl rfl rfl rfl rfl ?_
 refine HO_nil ?_
 refine H_env (ρ':=[(0,_)]) ⟨rfl,trivial⟩ ?_
 refine H_ret1 Tryz.results25 (.cell rfl (fun w hA => run_loadVarA (cs:=[_,_,_,_,_,_,_,_,_,_,_,_,_,_,_,_]) (Tryz.isAgg36 w) (Tryz.sizeOf36 w) (Tells.cells (.loc _ _ _) (hA.get (i:=0) rfl)))) (fun w hA => ⟨(),congrArg Ending.returned ?_,?_,?_⟩)
 ·rfl
 ·trivial
 ·exact hA.keep (m:=[nn]) (Y:=[]) rfl
theorem lives24_spec  : Spec Tryz.prog 8 #[] [] (β:=Unit) (fun y => .bool (true)) (fun y => True) (fun y => []):=by
 refine Spec.enter (vs:=[]) Tryz.func8 rfl Tryz.ntmps8 rfl (Nat.le_of_ble_eq_true rfl) (fun w0 ok0 => ?_)
 generalize hM0 : blks _ = M0
 have hMn:=@noM _ _ hM0 (by simp [Atom.dat,Atom.elem])
 refine H_seq ?_
 refine H_region (l:=[_]) rfl ?_
 refine HO_assign rfl rfl rfl ?_
 refine HO_nil ?_
 refine H_env (ρ':=[]) trivial ?_
 refine H_seq ?_
 refine H_region (l:=[_,_]) rfl ?_
 refine HO_call (first:=[]) (capt:=[]) (is:=[]) (R:=[]) rfl rfl rfl rfl rfl Tryz.call6 rfl (new_ok _ ?_) ?_
 ·decide
 intro y4 hy4
 refine HO_assign rfl rfl rfl ?_
 refine HO_nil ?_
 refine H_env (ρ':=[(1,_)]) ⟨rfl,trivial⟩ ?_
 refine H_seq ?_
 refine H_seq ?_
 refine H_own0 kHd 32 none ?_
 refine H_region (l:=[_,_,_,_,_,_,_,_,_,_,_,_,_]) rfl ?_
 refine HO_move rfl rfl rfl ?_
 refine HO_bin (r:=.bool false) rfl rfl rfl rfl (bin_ptr_eq_pn Tryz.runUnderlying23) ?_
 iterate 2 refine HO_move rfl rfl rfl ?_
 refine HO_call (first:=[]) (capt:=[]) (is:=[]) (R:=[_,_]) rfl rfl rfl rfl rfl Tryz.call25 rfl plain_spec ?_
 intro y9 hy9
 clear y9 hy9
 refine HO_nilDat kEnt ?_
 refine HO_nilDat kInt ?_
 refine HO_nilDat kInt ?_
 refine HO_nilDat kByte ?_
 refine HO_dup (i:=3) rfl rfl ?_
 refine HO_dup (i:=3) rfl rfl ?_
 refine HO_dup (i:=3) rfl rfl ?_
 refine HO_dup (i:=3) rfl rfl ?_
 refine HO_call (first:=[]) (capt:=[]) (is:=[4,4,0,0,0,0]) (R:=[_,_,_,_]) rfl rfl rfl rfl rfl Tryz.call10 rfl (send_spec y4 none 0 [] 9 9 1 2 1 0 0 0 0 false 0 [] none 0 0 0 [] [] none 0 none 0 [] none 0 ?_ ?_ ?_ ?_ ?_ ?_ ?_ ?_ ?_ ?_) ?_
 ·decide
 ·(exact Nat.zero_le _)
 ·(exact Nat.zero_le _)
 ·(exact Nat.zero_le _)
 ·(exact Nat.zero_le _)
 ·decide
 ·decide
 ·decide
 ·(intro e he;cases he)
 ·decide +kernel
 intro y10 hy10
 have hs1 : Net.sendP 9 ([] : List Hd).length (⟨9,1,2,1,0,0,0,0,false,0,[],⟨0,0,⟨[],[]⟩,[]⟩⟩ : Msg):=by decide +kernel
 rw [Net.sendH_yes hs1,Net.sendB_yes hs1]
 obtain ⟨F,hF⟩ : ∃ F,Cod.frame (Ent.msgB (⟨9,1,2,1,0,0,0,0,false,0,[],⟨0,0,⟨[],[]⟩,[]⟩⟩ : Msg)) = F:=⟨_,rfl⟩
 have hFl : F.length≤100000:=by rw [← hF];decide +kernel
 have hlk : Net.look 0 2 F = ((⟨9,1,2,1,0,0,0,0,false,0,[],⟨0,0,⟨[],[]⟩,[]⟩⟩ : Msg),0):=by rw [← hF];decide +kernel
 rw [hF]
 refine HO_bin rfl rfl rfl rfl bin_neq ?_
 refine HO_set (v':=.bool (false)) 11 rfl (by exact congrArg Value.bool (show decide (Net.sendE 9 0 (⟨9,1,2,1,0,0,0,0,false,0,[],⟨0,0,⟨[],[]⟩,[]⟩⟩ : Msg) ≠ 0) = false by decide +kernel)) ?_
 refine HO_pick_f rfl rfl rfl rfl ?_
 iterate 2 refine HO_move rfl rfl rfl ?_
 refine HO_call (first:=[]) (capt:=[]) (is:=[0,1,2]) (R:=[_,_,_,_]) rfl rfl rfl rfl rfl Tryz.call19 rfl (double_spec _ _ _ _ _ _ _ _ _ ?_ ?_ ?_ ?_) ?_
 ·decide
 ·(simp)
 ·(exact fun _ => rfl)
 ·exact hFl
 intro y15 hy15
 rw [Net.dblH_yes (show Net.dblP 9 1 0 by decide +kernel)]
 refine HO_bin rfl rfl rfl rfl bin_neq ?_
 refine HO_set (v':=.bool (false)) 16 rfl (by exact congrArg Value.bool (show decide (Net.dblE 9 1 0 ≠ 0) = false by decide +kernel)) ?_
 refine HO_pick_f rfl rfl rfl rfl ?_
 refine HO_nil ?_
 refine H_env (ρ':=[(17,_),(1,_)]) ⟨rfl,rfl,trivial⟩ ?_
 refine H_world (kp [yy,yy,yy,yy,nn,nn,nn,nn] [_,_,_,_] rfl) ?_
 refine H_cond rfl (fun h => nomatch h) (fun _ => ?_)
 refine H_skip ?_
 refine H_seq ?_
 refine H_region (l:=[_,_,_,_,_,_,_,_]) rfl ?_
 refine HO_move rfl rfl rfl ?_
 refine HO_call (first:=[]) (capt:=[]) (is:=[0,1,2]) (R:=[_]) rfl rfl rfl rfl rfl Tryz.call12 rfl (take_spec _ _ _ _ _ _ _ _ _ ?_ ?_ ?_ ?_) ?_
 ·decide
 ·(simp)
 ·(exact fun _ => rfl)
 ·exact hFl
 intro y20 hy20
 refine HO_move rfl rfl rfl ?_
 refine HO_extract (vs:=[_,_]) rfl rfl rfl rfl ?_
 refine HO_extract (vs:=[_,_]) rfl rfl rfl rfl ?_
 refine HO_alloc (cs:=[_,_,_,_,_,_,_,_,_,_,_,_,_,_,_,_]) rfl rfl Tryz.zeroValue36 rfl ?_
 intro g2
 refine HO_store (i:=0) (j:=0) (us:=[]) (old:=[_,_,_,_,_,_,_,_,_,_,_,_,_,_,_,_]) (ts:=[]) (cs:=[_,_,_,_,_,_,_,_,_,_,_,_,_,_,_,_]) (R:=[_,_,_,_,_,_,_,_]) (new:=[_,_,_,_,_,_,_,_,_,_,_,_,_,_,_,_]) rfl rfl rfl Tryz.sizeOf36 rfl (by simp [Value.oneCell']) rfl rfl rfl rfl rfl rfl ?_
 refine HO_assign rfl rfl rfl ?_
 refine HO_nil ?_
 refine H_env (ρ':=[(3,_),(2,_),(1,_)]) ⟨rfl,rfl,rfl,trivial⟩ ?_
 refine H_seq ?_
 refine H_region (l:=[_,_,_,_,_,_,_,_,_,_,_,_,_,_,_,_,_,_]) rfl ?_
 refine HO_move rfl rfl rfl ?_
 refine HO_bin rfl rfl rfl rfl bin_eql ?_
 refine HO_set (v':=.bool (true)) 24 rfl (by exact congrArg Value.bool (show decide ((Net.look 0 2 F).2 = 0) = true by rw [hlk];rfl)) ?_
 refine HO_move rfl rfl rfl ?_
 refine HO_fieldAddr (r:=0) rfl rfl rfl Tryz.underlying36 rfl Tryz.sizeOf3 rfl ?_
 refine HO_load1 (i:=0) (j:=0) rfl rfl rfl Tryz.isAgg3 rfl (.loc _ _ _) rfl rfl ?_
 refine HO_bin rfl rfl rfl rfl bin_eql ?_
 refine HO_set (v':=.bool (true)) 28 rfl (by exact congrArg Value.bool (show decide ((Net.look 0 2 F).1.kind = 9) = true by rw [hlk];rfl)) ?_
 refine HO_pick_t rfl rfl rfl rfl ?_
 refine HO_move rfl rfl rfl ?_
 refine HO_fieldAddr (r:=2) rfl rfl rfl Tryz.underlying36 rfl Tryz.sizeOf3 rfl ?_
 refine HO_load1 (i:=0) (j:=2) rfl rfl rfl Tryz.isAgg3 rfl (.loc _ _ _) rfl rfl ?_
 refine HO_bin rfl rfl rfl rfl bin_eql ?_
 refine HO_set (v':=.bool (true)) 33 rfl (by exact congrArg Value.bool (show decide ((Net.look 0 2 F).1.to = 2) = true by rw [hlk];rfl)) ?_
 refine HO_pick_t rfl rfl rfl rfl ?_
 iterate 2 refine HO_move rfl rfl rfl ?_
 refine HO_call (first:=[]) (capt:=[]) (is:=[1]) (R:=[_,_,_,_,_,_,_,_]) rfl rfl rfl rfl rfl Tryz.call23 rfl (len_spec _ _ _ _ _ ?_) ?_
 ·(first | omega | assumption | decide)
 intro y37 hy37
 clear y37 hy37
 refine HO_bin rfl rfl rfl rfl bin_eql ?_
 refine HO_set (v':=.bool (true)) 38 rfl (by exact congrArg Value.bool (show decide (((1 : Nat) : Int) = 1) = true by decide +kernel)) ?_
 refine HO_pick_t rfl rfl rfl rfl ?_
 refine HO_assign rfl rfl rfl ?_
 refine HO_nil ?_
 refine H_env (ρ':=[(0,_)]) ⟨rfl,trivial⟩ ?_
 refine H_world (kp [nn,nn,nn,yy,nn,nn,nn,nn,yy] [_,_] rfl) ?_
 refine H_ret1 Tryz.results8 (.tmp rfl) (fun w hA => ⟨(),congrArg Ending.returned ?_,?_,?_⟩)
 ·rfl
 ·trivial
 ·exact hA.keep (m:=[nn,nn]) (Y:=[]) rfl
end Go.Wk
