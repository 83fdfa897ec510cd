/- Contracts of the program's functions, each proved by walking its code. -/
import Derived.Test.YtdaphlemhmgncaaGreatKgref01b
import Derived.Test.YtdaphlemhmgncaaGreatCmd
import Derived.Test.YtdaphlemhmgncaaGreatWk17
set_option maxRecDepth 100000
set_option linter.unusedVariables false
set_option linter.unusedSimpArgs false
namespace Go.Wk.Frdr
open Go Go.RowKit Go.Proofs Go.Wk

end Go.Wk.Frdr
namespace Go.Wk
open Go Go.RowKit Go.Proofs Frdr 
theorem read_uint64_spec (T : TypeId) (g : Nat) (b : List UInt8) (w : Bool) (a : Option Addr) (c : Nat)  : Spec Tryz.prog 128 #[.pointer (some ⟨g,0,none⟩),.func (.func 129) #[] #[]] [.loc g [.slice a (b.length) c,.bool (w)] T,.dat kByte.sl (b) [.slice a (b.length) c]] (β:=Option Addr × Nat) (fun y => .int .u64 (((Cod.rd 0 (Cod.dec b) b w).1 : Int))) (fun y => True) (fun y => [.loc g [.slice y.1 (((Cod.rd 0 (Cod.dec b) b w).2.1).length) y.2,.bool ((Cod.rd 0 (Cod.dec b) b w).2.2)] T,.dat kByte.sl ((Cod.rd 0 (Cod.dec b) b w).2.1) [.slice y.1 (((Cod.rd 0 (Cod.dec b) b w).2.1).length) y.2]]):=by
 have hlen:=Cod.dec_len b
 refine Spec.enter (vs:=[_,_]) Tryz.func128 rfl Tryz.ntmps128 rfl (Nat.le_of_ble_eq_true rfl) (fun w0 ok0 => ?_)
 generalize hM0 : blks _ = M0
 refine H_seq ?_
 refine H_region (l:=[_]) rfl ?_
 refine HO_assign rfl rfl rfl ?_
 refine HO_nil ?_
 refine H_env (ρ':=[(0,_),(1,_)]) ⟨rfl,rfl,trivial⟩ ?_
 refine H_seq ?_
 refine H_region (l:=[_]) rfl ?_
 refine HO_assign rfl rfl rfl ?_
 refine HO_nil ?_
 refine H_seq ?_
 refine H_seq ?_
 refine H_region (l:=[_,_]) rfl ?_
 refine HO_move rfl rfl rfl ?_
 refine HO_bin (r:=.bool false) rfl rfl rfl rfl (bin_ptr_eq_pn Tryz.runUnderlying127) ?_
 refine HO_nil ?_
 refine H_env (ρ':=[(9,_),(5,_),(0,_),(1,_)]) ⟨rfl,rfl,rfl,rfl,trivial⟩ ?_
 refine H_cond rfl (fun h => nomatch h) (fun _ => ?_)
 refine H_skip ?_
 refine H_seq ?_
 refine H_region (l:=[_,_,_,_,_,_,_,_,_,_,_]) rfl ?_
 iterate 2 refine HO_move rfl rfl rfl ?_
 refine HO_nilCheck rfl rfl rfl ?_
 refine HO_fieldAddr (r:=0) rfl rfl rfl Tryz.underlying108 rfl Tryz.sizeOf32 rfl ?_
 refine HO_load1 (i:=0) (j:=0) rfl rfl rfl Tryz.isAgg32 rfl (.loc _ _ _) rfl rfl ?_
 refine HO_dup (i:=1) rfl rfl ?_
 refine HO_call (first:=[]) (capt:=[]) (is:=[0]) (R:=[_,_]) rfl rfl rfl rfl rfl Tryz.call129 rfl (Get_spec _ _ _) ?_
 intro y17 hy17
 clear y17 hy17
 refine HO_move rfl rfl rfl ?_
 refine HO_extract (vs:=[_,_]) rfl rfl rfl rfl ?_
 refine HO_extract (vs:=[_,_]) rfl rfl rfl rfl ?_
 iterate 2 refine HO_assign rfl rfl rfl ?_
 refine HO_nil ?_
 refine H_env (ρ':=[(7,_),(6,_),(5,_),(0,_)]) ⟨rfl,rfl,rfl,rfl,trivial⟩ ?_
 refine H_seq ?_
 refine H_seq ?_
 refine H_region (l:=[_,_,_,_,_,_,_,_,_,_,_,_]) rfl ?_
 iterate 2 refine HO_move rfl rfl rfl ?_
 refine HO_nilCheck rfl rfl rfl ?_
 refine HO_fieldAddr (r:=1) rfl rfl rfl Tryz.underlying108 rfl Tryz.sizeOf4 rfl ?_
 refine HO_load1 (i:=0) (j:=1) rfl rfl rfl Tryz.isAgg4 rfl (.loc _ _ _) rfl rfl ?_
 refine HO_move rfl rfl rfl ?_
 refine HO_split (d:=25) rfl ?_ ?_
 ·intro h25
  iterate 2 refine HO_no rfl rfl rfl ?_
  refine HO_pick_t rfl rfl rfl rfl ?_
  refine HO_nilCheck rfl rfl rfl ?_
  refine HO_fieldAddr (r:=1) rfl rfl rfl Tryz.underlying108 rfl Tryz.sizeOf4 rfl ?_
  refine HO_store (i:=0) (j:=0) (us:=[_]) (old:=[_]) (ts:=[]) (cs:=[_]) (R:=[_]) (new:=[_,_]) rfl rfl rfl Tryz.sizeOf4 rfl (by simp [Value.oneCell']) rfl rfl rfl rfl rfl rfl ?_
  refine HO_nil ?_
  refine H_env (ρ':=[(7,_),(6,_),(5,_),(0,_)]) ⟨rfl,rfl,rfl,rfl,trivial⟩ ?_
  refine H_seq ?_
  refine H_region (l:=[_,_,_,_]) rfl ?_
  refine HO_move rfl rfl rfl ?_
  refine HO_nilCheck rfl rfl rfl ?_
  refine HO_fieldAddr (r:=1) rfl rfl rfl Tryz.underlying108 rfl Tryz.sizeOf4 rfl ?_
  refine HO_load1 (i:=0) (j:=1) rfl rfl rfl Tryz.isAgg4 rfl (.loc _ _ _) rfl rfl ?_
  refine HO_nil ?_
  refine H_env (ρ':=[(34,_),(7,_),(6,_),(5,_),(0,_)]) ⟨rfl,rfl,rfl,rfl,rfl,trivial⟩ ?_
  refine H_cond rfl (fun _ => ?_) (fun h => nomatch h)
  refine H_seq ?_
  refine H_region (l:=[_,_,_,_]) rfl ?_
  refine HO_move rfl rfl rfl ?_
  refine HO_nilCheck rfl rfl rfl ?_
  refine HO_fieldAddr (r:=0) rfl rfl rfl Tryz.underlying108 rfl Tryz.sizeOf32 rfl ?_
  refine HO_store (i:=0) (j:=0) (us:=[]) (old:=[_]) (ts:=[_]) (cs:=[_]) (R:=[_]) (new:=[_,_]) rfl rfl rfl Tryz.sizeOf32 rfl (by simp [Value.oneCell']) rfl rfl rfl rfl rfl rfl ?_
  refine HO_nil ?_
  refine H_env (ρ':=[(5,_)]) ⟨rfl,trivial⟩ ?_
  refine H_world (kp [yy,nn] [_] rfl) ?_
  refine H_seq ?_
  refine H_region (l:=[_,_]) rfl ?_
  refine HO_move rfl rfl rfl ?_
  refine HO_assign rfl rfl rfl ?_
  refine HO_nil ?_
  refine H_env (ρ':=[(4,_)]) ⟨rfl,trivial⟩ ?_
  have hrd : (Cod.rd 0 (Cod.dec b) b w) = (0,[],true):=Cod.rd_bad (.inl h25)
  refine H_nilDat kByte ?_
  refine H_ret1 Tryz.results128 (.tmp rfl) (fun w hA => ⟨(none,0),congrArg Ending.returned ?_,?_,?_⟩)
  ·(rw [hrd] <;> rfl)
  ·trivial
  ·(rw [hrd];exact hA.only (is:=[0,0]) (Z:=[]) rfl)
 intro h25
 refine HO_move rfl rfl rfl ?_
 refine HO_bin rfl rfl rfl rfl bin_eql ?_
 refine HO_pick_f rfl rfl rfl rfl ?_
 refine HO_nilCheck rfl rfl rfl ?_
 refine HO_fieldAddr (r:=1) rfl rfl rfl Tryz.underlying108 rfl Tryz.sizeOf4 rfl ?_
 refine HO_store (i:=0) (j:=0) (us:=[_]) (old:=[_]) (ts:=[]) (cs:=[_]) (R:=[_]) (new:=[_,_]) rfl rfl rfl Tryz.sizeOf4 rfl (by simp [Value.oneCell']) rfl rfl rfl rfl rfl rfl ?_
 refine HO_nil ?_
 refine H_env (ρ':=[(7,_),(6,_),(5,_),(0,_)]) ⟨rfl,rfl,rfl,rfl,trivial⟩ ?_
 refine H_seq ?_
 refine H_region (l:=[_,_,_,_]) rfl ?_
 refine HO_move rfl rfl rfl ?_
 refine HO_nilCheck rfl rfl rfl ?_
 refine HO_fieldAddr (r:=1) rfl rfl rfl Tryz.underlying108 rfl Tryz.sizeOf4 rfl ?_
 refine HO_load1 (i:=0) (j:=1) rfl rfl rfl Tryz.isAgg4 rfl (.loc _ _ _) rfl rfl ?_
 refine HO_nil ?_
 refine H_env (ρ':=[(34,_),(7,_),(6,_),(5,_),(0,_)]) ⟨rfl,rfl,rfl,rfl,rfl,trivial⟩ ?_
 refine H_cond rfl ?_ ?_
 ·intro h34
  replace h34:=dT h34
  rw [decide_eq_true h34]
  refine H_seq ?_
  refine H_region (l:=[_,_,_,_]) rfl ?_
  refine HO_move rfl rfl rfl ?_
  refine HO_nilCheck rfl rfl rfl ?_
  refine HO_fieldAddr (r:=0) rfl rfl rfl Tryz.underlying108 rfl Tryz.sizeOf32 rfl ?_
  refine HO_store (i:=0) (j:=0) (us:=[]) (old:=[_]) (ts:=[_]) (cs:=[_]) (R:=[_]) (new:=[_,_]) rfl rfl rfl Tryz.sizeOf32 rfl (by simp [Value.oneCell']) rfl rfl rfl rfl rfl rfl ?_
  refine HO_nil ?_
  refine H_env (ρ':=[(5,_)]) ⟨rfl,trivial⟩ ?_
  refine H_world (kp [yy,nn] [_] rfl) ?_
  refine H_seq ?_
  refine H_region (l:=[_,_]) rfl ?_
  refine HO_move rfl rfl rfl ?_
  refine HO_assign rfl rfl rfl ?_
  refine HO_nil ?_
  refine H_env (ρ':=[(4,_)]) ⟨rfl,trivial⟩ ?_
  have hrd : (Cod.rd 0 (Cod.dec b) b w) = (0,[],true):=Cod.rd_bad (.inr (by omega))
  refine H_nilDat kByte ?_
  refine H_ret1 Tryz.results128 (.tmp rfl) (fun w hA => ⟨(none,0),congrArg Ending.returned ?_,?_,?_⟩)
  ·(rw [hrd] <;> rfl)
  ·trivial
  ·(rw [hrd];exact hA.only (is:=[0,0]) (Z:=[]) rfl)
 intro h34
 replace h34:=dF h34
 rw [decide_eq_false h34]
 refine H_skip ?_
 refine H_seq ?_
 refine H_region (l:=[_,_,_,_,_,_,_,_,_,_]) rfl ?_
 iterate 2 refine HO_move rfl rfl rfl ?_
 refine HO_nilCheck rfl rfl rfl ?_
 refine HO_fieldAddr (r:=0) rfl rfl rfl Tryz.underlying108 rfl Tryz.sizeOf32 rfl ?_
 refine HO_load1 (i:=0) (j:=0) rfl rfl rfl Tryz.isAgg32 rfl (.loc _ _ _) rfl rfl ?_
 refine HO_move rfl rfl rfl ?_
 refine HO_slice_l (i:=1) (l:=(Cod.dec b).2) rfl rfl rfl rfl ?_ Tryz.underlying32 Tryz.sizeOf5 rfl ?_ ?_
 ·omega
 ·omega
 intro a45 c45
 refine HO_nilCheck rfl rfl rfl ?_
 refine HO_fieldAddr (r:=0) rfl rfl rfl Tryz.underlying108 rfl Tryz.sizeOf32 rfl ?_
 refine HO_store (i:=1) (j:=0) (us:=[]) (old:=[_]) (ts:=[_]) (cs:=[_]) (R:=[_,_]) (new:=[_,_]) rfl rfl rfl Tryz.sizeOf32 rfl (by simp [Value.oneCell']) rfl rfl rfl rfl rfl rfl ?_
 refine HO_nil ?_
 refine H_env (ρ':=[(6,_)]) ⟨rfl,trivial⟩ ?_
 refine H_world (kp [yy,yy,nn] [_,_] rfl) ?_
 refine H_seq ?_
 refine H_region (l:=[_,_]) rfl ?_
 refine HO_move rfl rfl rfl ?_
 refine HO_assign rfl rfl rfl ?_
 refine HO_nil ?_
 refine H_env (ρ':=[(4,_)]) ⟨rfl,trivial⟩ ?_
 have hrd : (Cod.rd 0 (Cod.dec b) b w) = ((Cod.dec b).1,b.drop (Cod.dec b).2,false):=Cod.rd_good h25 (by omega)
 refine H_ret1 Tryz.results128 (.tmp rfl) (fun w hA => ⟨(a45,c45),congrArg Ending.returned ?_,?_,?_⟩)
 ·(rw [hrd] <;> rfl)
 ·trivial
 ·(rw [hrd];exact hA.keep (m:=[yy,yy]) (Y:=[_,_]) rfl)
theorem read_string_spec (T : TypeId) (g : Nat) (b : List UInt8) (w : Bool) (a : Option Addr) (c : Nat) (hb : b.length≤1099511627776) : Spec Tryz.prog 130 #[.pointer (some ⟨g,0,none⟩),.func (.func 131) #[] #[]] [.loc g [.slice a (b.length) c,.bool (w)] T,.dat kByte.sl (b) [.slice a (b.length) c]] (β:=Option Addr × Nat) (fun y => .string (⟨(Cod.rd [] (Cod.decT b) b w).1.toArray⟩)) (fun y => True) (fun y => [.loc g [.slice y.1 (((Cod.rd [] (Cod.decT b) b w).2.1).length) y.2,.bool ((Cod.rd [] (Cod.decT b) b w).2.2)] T,.dat kByte.sl ((Cod.rd [] (Cod.decT b) b w).2.1) [.slice y.1 (((Cod.rd [] (Cod.decT b) b w).2.1).length) y.2]]):=by
 have hlen:=Cod.decT_len b
 refine Spec.enter (vs:=[_,_]) Tryz.func130 rfl Tryz.ntmps130 rfl (Nat.le_of_ble_eq_true rfl) (fun w0 ok0 => ?_)
 generalize hM0 : blks _ = M0
 refine H_seq ?_
 refine H_region (l:=[_]) rfl ?_
 refine HO_assign rfl rfl rfl ?_
 refine HO_nil ?_
 refine H_env (ρ':=[(0,_),(1,_)]) ⟨rfl,rfl,trivial⟩ ?_
 refine H_seq ?_
 refine H_region (l:=[_]) rfl ?_
 refine HO_assign rfl rfl rfl ?_
 refine HO_nil ?_
 refine H_seq ?_
 refine H_seq ?_
 refine H_region (l:=[_,_]) rfl ?_
 refine HO_move rfl rfl rfl ?_
 refine HO_bin (r:=.bool false) rfl rfl rfl rfl (bin_ptr_eq_pn Tryz.runUnderlying127) ?_
 refine HO_nil ?_
 refine H_env (ρ':=[(9,_),(5,_),(0,_),(1,_)]) ⟨rfl,rfl,rfl,rfl,trivial⟩ ?_
 refine H_cond rfl (fun h => nomatch h) (fun _ => ?_)
 refine H_skip ?_
 refine H_seq ?_
 refine H_region (l:=[_,_,_,_,_,_,_,_,_,_,_]) rfl ?_
 iterate 2 refine HO_move rfl rfl rfl ?_
 refine HO_nilCheck rfl rfl rfl ?_
 refine HO_fieldAddr (r:=0) rfl rfl rfl Tryz.underlying108 rfl Tryz.sizeOf32 rfl ?_
 refine HO_load1 (i:=0) (j:=0) rfl rfl rfl Tryz.isAgg32 rfl (.loc _ _ _) rfl rfl ?_
 refine HO_dup (i:=1) rfl rfl ?_
 refine HO_call (first:=[]) (capt:=[]) (is:=[0]) (R:=[_,_]) rfl rfl rfl rfl rfl Tryz.call131 rfl (GetText_spec _ _ _ ?_) ?_
 ·(first | omega | assumption | decide)
 intro y17 hy17
 clear y17 hy17
 refine HO_move rfl rfl rfl ?_
 refine HO_extract (vs:=[_,_]) rfl rfl rfl rfl ?_
 refine HO_extract (vs:=[_,_]) rfl rfl rfl rfl ?_
 iterate 2 refine HO_assign rfl rfl rfl ?_
 refine HO_nil ?_
 refine H_env (ρ':=[(7,_),(6,_),(5,_),(0,_)]) ⟨rfl,rfl,rfl,rfl,trivial⟩ ?_
 refine H_seq ?_
 refine H_seq ?_
 refine H_region (l:=[_,_,_,_,_,_,_,_,_,_,_,_]) rfl ?_
 iterate 2 refine HO_move rfl rfl rfl ?_
 refine HO_nilCheck rfl rfl rfl ?_
 refine HO_fieldAddr (r:=1) rfl rfl rfl Tryz.underlying108 rfl Tryz.sizeOf4 rfl ?_
 refine HO_load1 (i:=0) (j:=1) rfl rfl rfl Tryz.isAgg4 rfl (.loc _ _ _) rfl rfl ?_
 refine HO_move rfl rfl rfl ?_
 refine HO_split (d:=25) rfl ?_ ?_
 ·intro h25
  iterate 2 refine HO_no rfl rfl rfl ?_
  refine HO_pick_t rfl rfl rfl rfl ?_
  refine HO_nilCheck rfl rfl rfl ?_
  refine HO_fieldAddr (r:=1) rfl rfl rfl Tryz.underlying108 rfl Tryz.sizeOf4 rfl ?_
  refine HO_store (i:=0) (j:=0) (us:=[_]) (old:=[_]) (ts:=[]) (cs:=[_]) (R:=[_]) (new:=[_,_]) rfl rfl rfl Tryz.sizeOf4 rfl (by simp [Value.oneCell']) rfl rfl rfl rfl rfl rfl ?_
  refine HO_nil ?_
  refine H_env (ρ':=[(7,_),(6,_),(5,_),(0,_)]) ⟨rfl,rfl,rfl,rfl,trivial⟩ ?_
  refine H_seq ?_
  refine H_region (l:=[_,_,_,_]) rfl ?_
  refine HO_move rfl rfl rfl ?_
  refine HO_nilCheck rfl rfl rfl ?_
  refine HO_fieldAddr (r:=1) rfl rfl rfl Tryz.underlying108 rfl Tryz.sizeOf4 rfl ?_
  refine HO_load1 (i:=0) (j:=1) rfl rfl rfl Tryz.isAgg4 rfl (.loc _ _ _) rfl rfl ?_
  refine HO_nil ?_
  refine H_env (ρ':=[(34,_),(7,_),(6,_),(5,_),(0,_)]) ⟨rfl,rfl,rfl,rfl,rfl,trivial⟩ ?_
  refine H_cond rfl (fun _ => ?_) (fun h => nomatch h)
  refine H_seq ?_
  refine H_region (l:=[_,_,_,_]) rfl ?_
  refine HO_move rfl rfl rfl ?_
  refine HO_nilCheck rfl rfl rfl ?_
  refine HO_fieldAddr (r:=0) rfl rfl rfl Tryz.underlying108 rfl Tryz.sizeOf32 rfl ?_
  refine HO_store (i:=0) (j:=0) (us:=[]) (old:=[_]) (ts:=[_]) (cs:=[_]) (R:=[_]) (new:=[_,_]) rfl rfl rfl Tryz.sizeOf32 rfl (by simp [Value.oneCell']) rfl rfl rfl rfl rfl rfl ?_
  refine HO_nil ?_
  refine H_env (ρ':=[(5,_)]) ⟨rfl,trivial⟩ ?_
  refine H_world (kp [yy,nn] [_] rfl) ?_
  refine H_seq ?_
  refine H_region (l:=[_,_]) rfl ?_
  refine HO_move rfl rfl rfl ?_
  refine HO_assign rfl rfl rfl ?_
  refine HO_nil ?_
  refine H_env (ρ':=[(4,_)]) ⟨rfl,trivial⟩ ?_
  have hrd : (Cod.rd [] (Cod.decT b) b w) = ([],[],true):=Cod.rd_bad (.inl h25)
  refine H_nilDat kByte ?_
  refine H_ret1 Tryz.results130 (.tmp rfl) (fun w hA => ⟨(none,0),congrArg Ending.returned ?_,?_,?_⟩)
  ·(rw [hrd] <;> rfl)
  ·trivial
  ·(rw [hrd];exact hA.only (is:=[0,0]) (Z:=[]) rfl)
 intro h25
 refine HO_move rfl rfl rfl ?_
 refine HO_bin rfl rfl rfl rfl bin_eql ?_
 refine HO_pick_f rfl rfl rfl rfl ?_
 refine HO_nilCheck rfl rfl rfl ?_
 refine HO_fieldAddr (r:=1) rfl rfl rfl Tryz.underlying108 rfl Tryz.sizeOf4 rfl ?_
 refine HO_store (i:=0) (j:=0) (us:=[_]) (old:=[_]) (ts:=[]) (cs:=[_]) (R:=[_]) (new:=[_,_]) rfl rfl rfl Tryz.sizeOf4 rfl (by simp [Value.oneCell']) rfl rfl rfl rfl rfl rfl ?_
 refine HO_nil ?_
 refine H_env (ρ':=[(7,_),(6,_),(5,_),(0,_)]) ⟨rfl,rfl,rfl,rfl,trivial⟩ ?_
 refine H_seq ?_
 refine H_region (l:=[_,_,_,_]) rfl ?_
 refine HO_move rfl rfl rfl ?_
 refine HO_nilCheck rfl rfl rfl ?_
 refine HO_fieldAddr (r:=1) rfl rfl rfl Tryz.underlying108 rfl Tryz.sizeOf4 rfl ?_
 refine HO_load1 (i:=0) (j:=1) rfl rfl rfl Tryz.isAgg4 rfl (.loc _ _ _) rfl rfl ?_
 refine HO_nil ?_
 refine H_env (ρ':=[(34,_),(7,_),(6,_),(5,_),(0,_)]) ⟨rfl,rfl,rfl,rfl,rfl,trivial⟩ ?_
 refine H_cond rfl ?_ ?_
 ·intro h34
  replace h34:=dT h34
  rw [decide_eq_true h34]
  refine H_seq ?_
  refine H_region (l:=[_,_,_,_]) rfl ?_
  refine HO_move rfl rfl rfl ?_
  refine HO_nilCheck rfl rfl rfl ?_
  refine HO_fieldAddr (r:=0) rfl rfl rfl Tryz.underlying108 rfl Tryz.sizeOf32 rfl ?_
  refine HO_store (i:=0) (j:=0) (us:=[]) (old:=[_]) (ts:=[_]) (cs:=[_]) (R:=[_]) (new:=[_,_]) rfl rfl rfl Tryz.sizeOf32 rfl (by simp [Value.oneCell']) rfl rfl rfl rfl rfl rfl ?_
  refine HO_nil ?_
  refine H_env (ρ':=[(5,_)]) ⟨rfl,trivial⟩ ?_
  refine H_world (kp [yy,nn] [_] rfl) ?_
  refine H_seq ?_
  refine H_region (l:=[_,_]) rfl ?_
  refine HO_move rfl rfl rfl ?_
  refine HO_assign rfl rfl rfl ?_
  refine HO_nil ?_
  refine H_env (ρ':=[(4,_)]) ⟨rfl,trivial⟩ ?_
  have hrd : (Cod.rd [] (Cod.decT b) b w) = ([],[],true):=Cod.rd_bad (.inr (by omega))
  refine H_nilDat kByte ?_
  refine H_ret1 Tryz.results130 (.tmp rfl) (fun w hA => ⟨(none,0),congrArg Ending.returned ?_,?_,?_⟩)
  ·(rw [hrd] <;> rfl)
  ·trivial
  ·(rw [hrd];exact hA.only (is:=[0,0]) (Z:=[]) rfl)
 intro h34
 replace h34:=dF h34
 rw [decide_eq_false h34]
 refine H_skip ?_
 refine H_seq ?_
 refine H_region (l:=[_,_,_,_,_,_,_,_,_,_]) rfl ?_
 iterate 2 refine HO_move rfl rfl rfl ?_
 refine HO_nilCheck rfl rfl rfl ?_
 refine HO_fieldAddr (r:=0) rfl rfl rfl Tryz.underlying108 rfl Tryz.sizeOf32 rfl ?_
 refine HO_load1 (i:=0) (j:=0) rfl rfl rfl Tryz.isAgg32 rfl (.loc _ _ _) rfl rfl ?_
 refine HO_move rfl rfl rfl ?_
 refine HO_slice_l (i:=1) (l:=(Cod.decT b).2) rfl rfl rfl rfl ?_ Tryz.underlying32 Tryz.sizeOf5 rfl ?_ ?_
 ·omega
 ·omega
 intro a45 c45
 refine HO_nilCheck rfl rfl rfl ?_
 refine HO_fieldAddr (r:=0) rfl rfl rfl Tryz.underlying108 rfl Tryz.sizeOf32 rfl ?_
 refine HO_store (i:=1) (j:=0) (us:=[]) (old:=[_]) (ts:=[_]) (cs:=[_]) (R:=[_,_]) (new:=[_,_]) rfl rfl rfl Tryz.sizeOf32 rfl (by simp [Value.oneCell']) rfl rfl rfl rfl rfl rfl ?_
 refine HO_nil ?_
 refine H_env (ρ':=[(6,_)]) ⟨rfl,trivial⟩ ?_
 refine H_world (kp [yy,yy,nn] [_,_] rfl) ?_
 refine H_seq ?_
 refine H_region (l:=[_,_]) rfl ?_
 refine HO_move rfl rfl rfl ?_
 refine HO_assign rfl rfl rfl ?_
 refine HO_nil ?_
 refine H_env (ρ':=[(4,_)]) ⟨rfl,trivial⟩ ?_
 have hrd : (Cod.rd [] (Cod.decT b) b w) = ((Cod.decT b).1,b.drop (Cod.decT b).2,false):=Cod.rd_good h25 (by omega)
 refine H_ret1 Tryz.results130 (.tmp rfl) (fun w hA => ⟨(a45,c45),congrArg Ending.returned ?_,?_,?_⟩)
 ·(rw [hrd] <;> rfl)
 ·trivial
 ·(rw [hrd];exact hA.keep (m:=[yy,yy]) (Y:=[_,_]) rfl)
theorem read_bool_spec (T : TypeId) (g : Nat) (b : List UInt8) (w : Bool) (a : Option Addr) (c : Nat)  : Spec Tryz.prog 99 #[.pointer (some ⟨g,0,none⟩),.func (.func 100) #[] #[]] [.loc g [.slice a (b.length) c,.bool (w)] T,.dat kByte.sl (b) [.slice a (b.length) c]] (β:=Option Addr × Nat) (fun y => .bool ((Cod.rd false (Cod.decB b) b w).1)) (fun y => True) (fun y => [.loc g [.slice y.1 (((Cod.rd false (Cod.decB b) b w).2.1).length) y.2,.bool ((Cod.rd false (Cod.decB b) b w).2.2)] T,.dat kByte.sl ((Cod.rd false (Cod.decB b) b w).2.1) [.slice y.1 (((Cod.rd false (Cod.decB b) b w).2.1).length) y.2]]):=by
 have hlen:=Cod.decB_len b
 refine Spec.enter (vs:=[_,_]) Tryz.func99 rfl Tryz.ntmps99 rfl (Nat.le_of_ble_eq_true rfl) (fun w0 ok0 => ?_)
 generalize hM0 : blks _ = M0
 refine H_seq ?_
 refine H_region (l:=[_]) rfl ?_
 refine HO_assign rfl rfl rfl ?_
 refine HO_nil ?_
 refine H_env (ρ':=[(0,_),(1,_)]) ⟨rfl,rfl,trivial⟩ ?_
 refine H_seq ?_
 refine H_region (l:=[_]) rfl ?_
 refine HO_assign rfl rfl rfl ?_
 refine HO_nil ?_
 refine H_seq ?_
 refine H_seq ?_
 refine H_region (l:=[_,_]) rfl ?_
 refine HO_move rfl rfl rfl ?_
 refine HO_bin (r:=.bool false) rfl rfl rfl rfl (bin_ptr_eq_pn Tryz.runUnderlying127) ?_
 refine HO_nil ?_
 refine H_env (ρ':=[(9,_),(5,_),(0,_),(1,_)]) ⟨rfl,rfl,rfl,rfl,trivial⟩ ?_
 refine H_cond rfl (fun h => nomatch h) (fun _ => ?_)
 refine H_skip ?_
 refine H_seq ?_
 refine H_region (l:=[_,_,_,_,_,_,_,_,_,_,_]) rfl ?_
 iterate 2 refine HO_move rfl rfl rfl ?_
 refine HO_nilCheck rfl rfl rfl ?_
 refine HO_fieldAddr (r:=0) rfl rfl rfl Tryz.underlying108 rfl Tryz.sizeOf32 rfl ?_
 refine HO_load1 (i:=0) (j:=0) rfl rfl rfl Tryz.isAgg32 rfl (.loc _ _ _) rfl rfl ?_
 refine HO_dup (i:=1) rfl rfl ?_
 refine HO_call (first:=[]) (capt:=[]) (is:=[0]) (R:=[_,_]) rfl rfl rfl rfl rfl Tryz.call100 rfl (GetBool_spec _ _ _) ?_
 intro y17 hy17
 clear y17 hy17
 refine HO_move rfl rfl rfl ?_
 refine HO_extract (vs:=[_,_]) rfl rfl rfl rfl ?_
 refine HO_extract (vs:=[_,_]) rfl rfl rfl rfl ?_
 iterate 2 refine HO_assign rfl rfl rfl ?_
 refine HO_nil ?_
 refine H_env (ρ':=[(7,_),(6,_),(5,_),(0,_)]) ⟨rfl,rfl,rfl,rfl,trivial⟩ ?_
 refine H_seq ?_
 refine H_seq ?_
 refine H_region (l:=[_,_,_,_,_,_,_,_,_,_,_,_]) rfl ?_
 iterate 2 refine HO_move rfl rfl rfl ?_
 refine HO_nilCheck rfl rfl rfl ?_
 refine HO_fieldAddr (r:=1) rfl rfl rfl Tryz.underlying108 rfl Tryz.sizeOf4 rfl ?_
 refine HO_load1 (i:=0) (j:=1) rfl rfl rfl Tryz.isAgg4 rfl (.loc _ _ _) rfl rfl ?_
 refine HO_move rfl rfl rfl ?_
 refine HO_split (d:=25) rfl ?_ ?_
 ·intro h25
  iterate 2 refine HO_no rfl rfl rfl ?_
  refine HO_pick_t rfl rfl rfl rfl ?_
  refine HO_nilCheck rfl rfl rfl ?_
  refine HO_fieldAddr (r:=1) rfl rfl rfl Tryz.underlying108 rfl Tryz.sizeOf4 rfl ?_
  refine HO_store (i:=0) (j:=0) (us:=[_]) (old:=[_]) (ts:=[]) (cs:=[_]) (R:=[_]) (new:=[_,_]) rfl rfl rfl Tryz.sizeOf4 rfl (by simp [Value.oneCell']) rfl rfl rfl rfl rfl rfl ?_
  refine HO_nil ?_
  refine H_env (ρ':=[(7,_),(6,_),(5,_),(0,_)]) ⟨rfl,rfl,rfl,rfl,trivial⟩ ?_
  refine H_seq ?_
  refine H_region (l:=[_,_,_,_]) rfl ?_
  refine HO_move rfl rfl rfl ?_
  refine HO_nilCheck rfl rfl rfl ?_
  refine HO_fieldAddr (r:=1) rfl rfl rfl Tryz.underlying108 rfl Tryz.sizeOf4 rfl ?_
  refine HO_load1 (i:=0) (j:=1) rfl rfl rfl Tryz.isAgg4 rfl (.loc _ _ _) rfl rfl ?_
  refine HO_nil ?_
  refine H_env (ρ':=[(34,_),(7,_),(6,_),(5,_),(0,_)]) ⟨rfl,rfl,rfl,rfl,rfl,trivial⟩ ?_
  refine H_cond rfl (fun _ => ?_) (fun h => nomatch h)
  refine H_seq ?_
  refine H_region (l:=[_,_,_,_]) rfl ?_
  refine HO_move rfl rfl rfl ?_
  refine HO_nilCheck rfl rfl rfl ?_
  refine HO_fieldAddr (r:=0) rfl rfl rfl Tryz.underlying108 rfl Tryz.sizeOf32 rfl ?_
  refine HO_store (i:=0) (j:=0) (us:=[]) (old:=[_]) (ts:=[_]) (cs:=[_]) (R:=[_]) (new:=[_,_]) rfl rfl rfl Tryz.sizeOf32 rfl (by simp [Value.oneCell']) rfl rfl rfl rfl rfl rfl ?_
  refine HO_nil ?_
  refine H_env (ρ':=[(5,_)]) ⟨rfl,trivial⟩ ?_
  refine H_world (kp [yy,nn] [_] rfl) ?_
  refine H_seq ?_
  refine H_region (l:=[_,_]) rfl ?_
  refine HO_move rfl rfl rfl ?_
  refine HO_assign rfl rfl rfl ?_
  refine HO_nil ?_
  refine H_env (ρ':=[(4,_)]) ⟨rfl,trivial⟩ ?_
  have hrd : (Cod.rd false (Cod.decB b) b w) = (false,[],true):=Cod.rd_bad (.inl h25)
  refine H_nilDat kByte ?_
  refine H_ret1 Tryz.results99 (.tmp rfl) (fun w hA => ⟨(none,0),congrArg Ending.returned ?_,?_,?_⟩)
  ·(rw [hrd] <;> rfl)
  ·trivial
  ·(rw [hrd];exact hA.only (is:=[0,0]) (Z:=[]) rfl)
 intro h25
 refine HO_move rfl rfl rfl ?_
 refine HO_bin rfl rfl rfl rfl bin_eql ?_
 refine HO_pick_f rfl rfl rfl rfl ?_
 refine HO_nilCheck rfl rfl rfl ?_
 refine HO_fieldAddr (r:=1) rfl rfl rfl Tryz.underlying108 rfl Tryz.sizeOf4 rfl ?_
 refine HO_store (i:=0) (j:=0) (us:=[_]) (old:=[_]) (ts:=[]) (cs:=[_]) (R:=[_]) (new:=[_,_]) rfl rfl rfl Tryz.sizeOf4 rfl (by simp [Value.oneCell']) rfl rfl rfl rfl rfl rfl ?_
 refine HO_nil ?_
 refine H_env (ρ':=[(7,_),(6,_),(5,_),(0,_)]) ⟨rfl,rfl,rfl,rfl,trivial⟩ ?_
 refine H_seq ?_
 refine H_region (l:=[_,_,_,_]) rfl ?_
 refine HO_move rfl rfl rfl ?_
 refine HO_nilCheck rfl rfl rfl ?_
 refine HO_fieldAddr (r:=1) rfl rfl rfl Tryz.underlying108 rfl Tryz.sizeOf4 rfl ?_
 refine HO_load1 (i:=0) (j:=1) rfl rfl rfl Tryz.isAgg4 rfl (.loc _ _ _) rfl rfl ?_
 refine HO_nil ?_
 refine H_env (ρ':=[(34,_),(7,_),(6,_),(5,_),(0,_)]) ⟨rfl,rfl,rfl,rfl,rfl,trivial⟩ ?_
 refine H_cond rfl ?_ ?_
 ·intro h34
  replace h34:=dT h34
  rw [decide_eq_true h34]
  refine H_seq ?_
  refine H_region (l:=[_,_,_,_]) rfl ?_
  refine HO_move rfl rfl rfl ?_
  refine HO_nilCheck rfl rfl rfl ?_
  refine HO_fieldAddr (r:=0) rfl rfl rfl Tryz.underlying108 rfl Tryz.sizeOf32 rfl ?_
  refine HO_store (i:=0) (j:=0) (us:=[]) (old:=[_]) (ts:=[_]) (cs:=[_]) (R:=[_]) (new:=[_,_]) rfl rfl rfl Tryz.sizeOf32 rfl (by simp [Value.oneCell']) rfl rfl rfl rfl rfl rfl ?_
  refine HO_nil ?_
  refine H_env (ρ':=[(5,_)]) ⟨rfl,trivial⟩ ?_
  refine H_world (kp [yy,nn] [_] rfl) ?_
  refine H_seq ?_
  refine H_region (l:=[_,_]) rfl ?_
  refine HO_move rfl rfl rfl ?_
  refine HO_assign rfl rfl rfl ?_
  refine HO_nil ?_
  refine H_env (ρ':=[(4,_)]) ⟨rfl,trivial⟩ ?_
  have hrd : (Cod.rd false (Cod.decB b) b w) = (false,[],true):=Cod.rd_bad (.inr (by omega))
  refine H_nilDat kByte ?_
  refine H_ret1 Tryz.results99 (.tmp rfl) (fun w hA => ⟨(none,0),congrArg Ending.returned ?_,?_,?_⟩)
  ·(rw [hrd] <;> rfl)
  ·trivial
  ·(rw [hrd];exact hA.only (is:=[0,0]) (Z:=[]) rfl)
 intro h34
 replace h34:=dF h34
 rw [decide_eq_false h34]
 refine H_skip ?_
 refine H_seq ?_
 refine H_region (l:=[_,_,_,_,_,_,_,_,_,_]) rfl ?_
 iterate 2 refine HO_move rfl rfl rfl ?_
 refine HO_nilCheck rfl rfl rfl ?_
 refine HO_fieldAddr (r:=0) rfl rfl rfl Tryz.underlying108 rfl Tryz.sizeOf32 rfl ?_
 refine HO_load1 (i:=0) (j:=0) rfl rfl rfl Tryz.isAgg32 rfl (.loc _ _ _) rfl rfl ?_
 refine HO_move rfl rfl rfl ?_
 refine HO_slice_l (i:=1) (l:=(Cod.decB b).2) rfl rfl rfl rfl ?_ Tryz.underlying32 Tryz.sizeOf5 rfl ?_ ?_
 ·omega
 ·omega
 intro a45 c45
 refine HO_nilCheck rfl rfl rfl ?_
 refine HO_fieldAddr (r:=0) rfl rfl rfl Tryz.underlying108 rfl Tryz.sizeOf32 rfl ?_
 refine HO_store (i:=1) (j:=0) (us:=[]) (old:=[_]) (ts:=[_]) (cs:=[_]) (R:=[_,_]) (new:=[_,_]) rfl rfl rfl Tryz.sizeOf32 rfl (by simp [Value.oneCell']) rfl rfl rfl rfl rfl rfl ?_
 refine HO_nil ?_
 refine H_env (ρ':=[(6,_)]) ⟨rfl,trivial⟩ ?_
 refine H_world (kp [yy,yy,nn] [_,_] rfl) ?_
 refine H_seq ?_
 refine H_region (l:=[_,_]) rfl ?_
 refine HO_move rfl rfl rfl ?_
 refine HO_assign rfl rfl rfl ?_
 refine HO_nil ?_
 refine H_env (ρ':=[(4,_)]) ⟨rfl,trivial⟩ ?_
 have hrd : (Cod.rd false (Cod.decB b) b w) = ((Cod.decB b).1,b.drop (Cod.decB b).2,false):=Cod.rd_good h25 (by omega)
 refine H_ret1 Tryz.results99 (.tmp rfl) (fun w hA => ⟨(a45,c45),congrArg Ending.returned ?_,?_,?_⟩)
 ·(rw [hrd] <;> rfl)
 ·trivial
 ·(rw [hrd];exact hA.keep (m:=[yy,yy]) (Y:=[_,_]) rfl)
theorem cNum_spec (T : TypeId) (g : Nat) (b : List UInt8) (w : Bool) (a : Option Addr) (c : Nat)  : Spec Tryz.prog 98 #[.pointer (some ⟨g,0,none⟩)] [.loc g [.slice a (b.length) c,.bool (w)] T,.dat kByte.sl (b) [.slice a (b.length) c]] (β:=Option Addr × Nat) (fun y => .int .u64 (((Cod.rd 0 (Cod.dec b) b w).1 : Int))) (fun y => True) (fun y => [.loc g [.slice y.1 (((Cod.rd 0 (Cod.dec b) b w).2.1).length) y.2,.bool ((Cod.rd 0 (Cod.dec b) b w).2.2)] T,.dat kByte.sl ((Cod.rd 0 (Cod.dec b) b w).2.1) [.slice y.1 (((Cod.rd 0 (Cod.dec b) b w).2.1).length) y.2]]):=by
 refine Spec.enter (vs:=[_]) Tryz.func98 rfl Tryz.ntmps98 rfl (Nat.le_of_ble_eq_true rfl) (fun w0 ok0 => ?_)
 generalize hM0 : blks _ = M0
 refine H_seq ?_
 refine H_region (l:=[_]) rfl ?_
 refine HO_assign rfl rfl rfl ?_
 refine HO_nil ?_
 refine H_env (ρ':=[(0,_)]) ⟨rfl,trivial⟩ ?_
 refine H_seq ?_
 refine H_region (l:=[_,_,_]) rfl ?_
 refine HO_move rfl rfl rfl ?_
 refine HO_dup (i:=1) rfl rfl ?_
 refine HO_call (first:=[]) (capt:=[]) (is:=[0,0]) (R:=[_]) rfl rfl rfl rfl rfl Tryz.call128 rfl (read_uint64_spec _ _ _ _ _ _) ?_
 intro y4 hy4
 refine HO_assign rfl rfl rfl ?_
 refine HO_nil ?_
 refine H_env (ρ':=[(2,_)]) ⟨rfl,trivial⟩ ?_
 refine H_world (kp [yy,yy,nn] [_,_] rfl) ?_
 refine H_ret1 Tryz.results98 (.tmp rfl) (fun w hA => ⟨y4,congrArg Ending.returned ?_,?_,?_⟩)
 ·rfl
 ·trivial
 ·exact hA.keep (m:=[yy,yy]) (Y:=[_,_]) rfl
theorem cText_spec (T : TypeId) (g : Nat) (b : List UInt8) (w : Bool) (a : Option Addr) (c : Nat) (hb : b.length≤1099511627776) : Spec Tryz.prog 103 #[.pointer (some ⟨g,0,none⟩)] [.loc g [.slice a (b.length) c,.bool (w)] T,.dat kByte.sl (b) [.slice a (b.length) c]] (β:=Option Addr × Nat) (fun y => .string (⟨(Cod.rd [] (Cod.decT b) b w).1.toArray⟩)) (fun y => True) (fun y => [.loc g [.slice y.1 (((Cod.rd [] (Cod.decT b) b w).2.1).length) y.2,.bool ((Cod.rd [] (Cod.decT b) b w).2.2)] T,.dat kByte.sl ((Cod.rd [] (Cod.decT b) b w).2.1) [.slice y.1 (((Cod.rd [] (Cod.decT b) b w).2.1).length) y.2]]):=by
 refine Spec.enter (vs:=[_]) Tryz.func103 rfl Tryz.ntmps103 rfl (Nat.le_of_ble_eq_true rfl) (fun w0 ok0 => ?_)
 generalize hM0 : blks _ = M0
 refine H_seq ?_
 refine H_region (l:=[_]) rfl ?_
 refine HO_assign rfl rfl rfl ?_
 refine HO_nil ?_
 refine H_env (ρ':=[(0,_)]) ⟨rfl,trivial⟩ ?_
 refine H_seq ?_
 refine H_region (l:=[_,_,_]) rfl ?_
 refine HO_move rfl rfl rfl ?_
 refine HO_dup (i:=1) rfl rfl ?_
 refine HO_call (first:=[]) (capt:=[]) (is:=[0,0]) (R:=[_]) rfl rfl rfl rfl rfl Tryz.call130 rfl (read_string_spec _ _ _ _ _ _ ?_) ?_
 ·(first | omega | assumption | decide)
 intro y4 hy4
 refine HO_assign rfl rfl rfl ?_
 refine HO_nil ?_
 refine H_env (ρ':=[(2,_)]) ⟨rfl,trivial⟩ ?_
 refine H_world (kp [yy,yy,nn] [_,_] rfl) ?_
 refine H_ret1 Tryz.results103 (.tmp rfl) (fun w hA => ⟨y4,congrArg Ending.returned ?_,?_,?_⟩)
 ·rfl
 ·trivial
 ·exact hA.keep (m:=[yy,yy]) (Y:=[_,_]) rfl
theorem cBool_spec (T : TypeId) (g : Nat) (b : List UInt8) (w : Bool) (a : Option Addr) (c : Nat)  : Spec Tryz.prog 70 #[.pointer (some ⟨g,0,none⟩)] [.loc g [.slice a (b.length) c,.bool (w)] T,.dat kByte.sl (b) [.slice a (b.length) c]] (β:=Option Addr × Nat) (fun y => .bool ((Cod.rd false (Cod.decB b) b w).1)) (fun y => True) (fun y => [.loc g [.slice y.1 (((Cod.rd false (Cod.decB b) b w).2.1).length) y.2,.bool ((Cod.rd false (Cod.decB b) b w).2.2)] T,.dat kByte.sl ((Cod.rd false (Cod.decB b) b w).2.1) [.slice y.1 (((Cod.rd false (Cod.decB b) b w).2.1).length) y.2]]):=by
 refine Spec.enter (vs:=[_]) Tryz.func70 rfl Tryz.ntmps70 rfl (Nat.le_of_ble_eq_true rfl) (fun w0 ok0 => ?_)
 generalize hM0 : blks _ = M0
 refine H_seq ?_
 refine H_region (l:=[_]) rfl ?_
 refine HO_assign rfl rfl rfl ?_
 refine HO_nil ?_
 refine H_env (ρ':=[(0,_)]) ⟨rfl,trivial⟩ ?_
 refine H_seq ?_
 refine H_region (l:=[_,_,_]) rfl ?_
 refine HO_move rfl rfl rfl ?_
 refine HO_dup (i:=1) rfl rfl ?_
 refine HO_call (first:=[]) (capt:=[]) (is:=[0,0]) (R:=[_]) rfl rfl rfl rfl rfl Tryz.call99 rfl (read_bool_spec _ _ _ _ _ _) ?_
 intro y4 hy4
 refine HO_assign rfl rfl rfl ?_
 refine HO_nil ?_
 refine H_env (ρ':=[(2,_)]) ⟨rfl,trivial⟩ ?_
 refine H_world (kp [yy,yy,nn] [_,_] rfl) ?_
 refine H_ret1 Tryz.results70 (.tmp rfl) (fun w hA => ⟨y4,congrArg Ending.returned ?_,?_,?_⟩)
 ·rfl
 ·trivial
 ·exact hA.keep (m:=[yy,yy]) (Y:=[_,_]) rfl
theorem cInt_spec (T : TypeId) (g : Nat) (b : List UInt8) (w : Bool) (a : Option Addr) (c : Nat)  : Spec Tryz.prog 69 #[.pointer (some ⟨g,0,none⟩)] [.loc g [.slice a (b.length) c,.bool (w)] T,.dat kByte.sl (b) [.slice a (b.length) c]] (β:=Option Addr × Nat) (fun y => .int .i64 ((Cod.zag (Cod.rd 0 (Cod.dec b) b w).1))) (fun y => True) (fun y => [.loc g [.slice y.1 (((Cod.rd 0 (Cod.dec b) b w).2.1).length) y.2,.bool ((Cod.rd 0 (Cod.dec b) b w).2.2)] T,.dat kByte.sl ((Cod.rd 0 (Cod.dec b) b w).2.1) [.slice y.1 (((Cod.rd 0 (Cod.dec b) b w).2.1).length) y.2]]):=by
 refine Spec.enter (vs:=[_]) Tryz.func69 rfl Tryz.ntmps69 rfl (Nat.le_of_ble_eq_true rfl) (fun w0 ok0 => ?_)
 generalize hM0 : blks _ = M0
 refine H_seq ?_
 refine H_region (l:=[_]) rfl ?_
 refine HO_assign rfl rfl rfl ?_
 refine HO_nil ?_
 refine H_env (ρ':=[(0,_)]) ⟨rfl,trivial⟩ ?_
 refine H_seq ?_
 refine H_region (l:=[_,_,_,_]) rfl ?_
 refine HO_move rfl rfl rfl ?_
 refine HO_dup (i:=1) rfl rfl ?_
 refine HO_call (first:=[]) (capt:=[]) (is:=[0,0]) (R:=[_]) rfl rfl rfl rfl rfl Tryz.call98 rfl (cNum_spec _ _ _ _ _ _) ?_
 intro y4 hy4
 refine HO_call (first:=[]) (capt:=[]) (is:=[]) (R:=[_,_,_]) rfl rfl rfl rfl rfl Tryz.call97 rfl (zag_spec _ ?_) ?_
 ·(exact Cod.rd_lt b w)
 intro y5 hy5
 clear y5 hy5
 refine HO_assign rfl rfl rfl ?_
 refine HO_nil ?_
 refine H_env (ρ':=[(2,_)]) ⟨rfl,trivial⟩ ?_
 refine H_world (kp [yy,yy,nn] [_,_] rfl) ?_
 refine H_ret1 Tryz.results69 (.tmp rfl) (fun w hA => ⟨y4,congrArg Ending.returned ?_,?_,?_⟩)
 ·rfl
 ·trivial
 ·exact hA.keep (m:=[yy,yy]) (Y:=[_,_]) rfl
theorem cCount_spec (T : TypeId) (g : Nat) (b : List UInt8) (w : Bool) (a : Option Addr) (c : Nat) (k : Int) (hk : -9223372036854775808≤k∧k≤9223372036854775807) : Spec Tryz.prog 101 #[.pointer (some ⟨g,0,none⟩),.int .i64 (k)] [.loc g [.slice a (b.length) c,.bool (w)] T,.dat kByte.sl (b) [.slice a (b.length) c]] (β:=Option Addr × Nat) (fun y => .int .i64 (((Cod.cnt k b w).1 : Int))) (fun y => True) (fun y => [.loc g [.slice y.1 (((Cod.cnt k b w).2.1).length) y.2,.bool ((Cod.cnt k b w).2.2)] T,.dat kByte.sl ((Cod.cnt k b w).2.1) [.slice y.1 (((Cod.cnt k b w).2.1).length) y.2]]):=by
 have hlt:=Cod.rd_lt b w
 refine Spec.enter (vs:=[_,_]) Tryz.func101 rfl Tryz.ntmps101 rfl (Nat.le_of_ble_eq_true rfl) (fun w0 ok0 => ?_)
 generalize hM0 : blks _ = M0
 refine H_seq ?_
 refine H_region (l:=[_]) rfl ?_
 refine HO_assign rfl rfl rfl ?_
 refine HO_nil ?_
 refine H_env (ρ':=[(0,_),(1,_)]) ⟨rfl,rfl,trivial⟩ ?_
 refine H_seq ?_
 refine H_region (l:=[_,_,_]) rfl ?_
 refine HO_move rfl rfl rfl ?_
 refine HO_makeFunc (vs:=[_]) (us:=[]) rfl rfl rfl rfl ?_
 refine HO_assign rfl rfl rfl ?_
 refine HO_nil ?_
 refine H_env (ρ':=[(5,_),(0,_),(1,_)]) ⟨rfl,rfl,rfl,trivial⟩ ?_
 refine H_seq ?_
 refine H_region (l:=[_,_,_]) rfl ?_
 refine HO_move rfl rfl rfl ?_
 refine HO_dup (i:=1) rfl rfl ?_
 refine HO_call (first:=[_]) (capt:=[]) (is:=[0,0]) (R:=[_]) rfl rfl rfl rfl rfl Tryz.call98 rfl (cNum_spec _ _ _ _ _ _) ?_
 intro y10 hy10
 refine HO_assign rfl rfl rfl ?_
 refine HO_nil ?_
 refine H_env (ρ':=[(6,_),(0,_),(1,_)]) ⟨rfl,rfl,rfl,trivial⟩ ?_
 refine H_world (kp [yy,yy,nn] [_,_] rfl) ?_
 refine H_seq ?_
 refine H_seq ?_
 refine H_region (l:=[_,_,_,_,_,_,_,_,_,_,_,_]) rfl ?_
 refine HO_move rfl rfl rfl ?_
 refine HO_bin (r:=.bool false) rfl rfl rfl rfl (bin_ptr_eq_pn Tryz.runUnderlying127) ?_
 iterate 2 refine HO_move rfl rfl rfl ?_
 refine HO_bin rfl rfl rfl rfl bin_lss ?_
 refine HO_pick_f rfl rfl rfl rfl ?_
 refine HO_move rfl rfl rfl ?_
 refine HO_split (d:=17) rfl ?_ ?_
 ·intro h17
  replace h17:=dT h17
  iterate 4 refine HO_no rfl rfl rfl ?_
  refine HO_pick_t rfl rfl rfl rfl ?_
  refine HO_nil ?_
  refine H_env (ρ':=[(22,_),(6,_),(0,_)]) ⟨rfl,rfl,rfl,trivial⟩ ?_
  refine H_cond rfl (fun _ => ?_) (fun h => nomatch h)
  refine H_seq ?_
  refine H_seq ?_
  refine H_region (l:=[_,_]) rfl ?_
  refine HO_move rfl rfl rfl ?_
  refine HO_bin (r:=.bool true) rfl rfl rfl rfl (bin_ptr_ne_pn Tryz.runUnderlying127) ?_
  refine HO_nil ?_
  refine H_env (ρ':=[(24,_),(0,_)]) ⟨rfl,rfl,trivial⟩ ?_
  refine H_cond rfl (fun _ => ?_) (fun h => nomatch h)
  refine H_region (l:=[_,_,_,_,_,_,_,_]) rfl ?_
  iterate 2 refine HO_move rfl rfl rfl ?_
  refine HO_nilCheck rfl rfl rfl ?_
  refine HO_fieldAddr (r:=0) rfl rfl rfl Tryz.underlying108 rfl Tryz.sizeOf32 rfl ?_
  refine HO_store (i:=0) (j:=0) (us:=[]) (old:=[_]) (ts:=[_]) (cs:=[_]) (R:=[_]) (new:=[_,_]) rfl rfl rfl Tryz.sizeOf32 rfl (by simp [Value.oneCell']) rfl rfl rfl rfl rfl rfl ?_
  refine HO_nilCheck rfl rfl rfl ?_
  refine HO_fieldAddr (r:=1) rfl rfl rfl Tryz.underlying108 rfl Tryz.sizeOf4 rfl ?_
  refine HO_store (i:=0) (j:=0) (us:=[_]) (old:=[_]) (ts:=[]) (cs:=[_]) (R:=[_]) (new:=[_,_]) rfl rfl rfl Tryz.sizeOf4 rfl (by simp [Value.oneCell']) rfl rfl rfl rfl rfl rfl ?_
  refine HO_nil ?_
  refine H_env (ρ':=[]) trivial ?_
  refine H_world (kp [yy,nn] [_] rfl) ?_
  refine H_seq ?_
  refine H_region (l:=[_]) rfl ?_
  refine HO_assign rfl rfl rfl ?_
  refine HO_nil ?_
  have hrd : (Cod.cnt k b w) = (0,[],true):=Cod.cnt_bad (.inl (by omega))
  refine H_nilDat kByte ?_
  refine H_ret1 Tryz.results101 (.tmp rfl) (fun w hA => ⟨(none,0),congrArg Ending.returned ?_,?_,?_⟩)
  ·(rw [hrd] <;> rfl)
  ·trivial
  ·(rw [hrd];exact hA.only (is:=[0,0]) (Z:=[]) rfl)
 intro h17
 replace h17:=dF h17
 iterate 2 refine HO_move rfl rfl rfl ?_
 refine HO_conv rfl rfl rfl (cv_int Tryz.underlying3 Tryz.underlying97 (wrap_u_i rfl _)) ?_
 refine HO_set (v':=.int .u64 (((k.toNat : Nat) : Int))) 20 rfl (by exact congrArg (Value.int .u64) (by simp only [IntKind.bits];omega)) ?_
 refine HO_bin rfl rfl rfl rfl bin_gtr ?_
 refine HO_pick_f rfl rfl rfl rfl ?_
 refine HO_nil ?_
 refine H_env (ρ':=[(22,_),(6,_),(0,_)]) ⟨rfl,rfl,rfl,trivial⟩ ?_
 refine H_cond rfl ?_ ?_
 ·intro h22
  replace h22:=dT h22
  refine H_seq ?_
  refine H_seq ?_
  refine H_region (l:=[_,_]) rfl ?_
  refine HO_move rfl rfl rfl ?_
  refine HO_bin (r:=.bool true) rfl rfl rfl rfl (bin_ptr_ne_pn Tryz.runUnderlying127) ?_
  refine HO_nil ?_
  refine H_env (ρ':=[(24,_),(0,_)]) ⟨rfl,rfl,trivial⟩ ?_
  refine H_cond rfl (fun _ => ?_) (fun h => nomatch h)
  refine H_region (l:=[_,_,_,_,_,_,_,_]) rfl ?_
  iterate 2 refine HO_move rfl rfl rfl ?_
  refine HO_nilCheck rfl rfl rfl ?_
  refine HO_fieldAddr (r:=0) rfl rfl rfl Tryz.underlying108 rfl Tryz.sizeOf32 rfl ?_
  refine HO_store (i:=0) (j:=0) (us:=[]) (old:=[_]) (ts:=[_]) (cs:=[_]) (R:=[_]) (new:=[_,_]) rfl rfl rfl Tryz.sizeOf32 rfl (by simp [Value.oneCell']) rfl rfl rfl rfl rfl rfl ?_
  refine HO_nilCheck rfl rfl rfl ?_
  refine HO_fieldAddr (r:=1) rfl rfl rfl Tryz.underlying108 rfl Tryz.sizeOf4 rfl ?_
  refine HO_store (i:=0) (j:=0) (us:=[_]) (old:=[_]) (ts:=[]) (cs:=[_]) (R:=[_]) (new:=[_,_]) rfl rfl rfl Tryz.sizeOf4 rfl (by simp [Value.oneCell']) rfl rfl rfl rfl rfl rfl ?_
  refine HO_nil ?_
  refine H_env (ρ':=[]) trivial ?_
  refine H_world (kp [yy,nn] [_] rfl) ?_
  refine H_seq ?_
  refine H_region (l:=[_]) rfl ?_
  refine HO_assign rfl rfl rfl ?_
  refine HO_nil ?_
  have hrd : (Cod.cnt k b w) = (0,[],true):=Cod.cnt_bad (.inr (by omega))
  refine H_nilDat kByte ?_
  refine H_ret1 Tryz.results101 (.tmp rfl) (fun w hA => ⟨(none,0),congrArg Ending.returned ?_,?_,?_⟩)
  ·(rw [hrd] <;> rfl)
  ·trivial
  ·(rw [hrd];exact hA.only (is:=[0,0]) (Z:=[]) rfl)
 intro h22
 replace h22:=dF h22
 refine H_skip ?_
 refine H_seq ?_
 refine H_region (l:=[_,_,_]) rfl ?_
 refine HO_move rfl rfl rfl ?_
 refine HO_conv rfl rfl rfl (cv_int Tryz.underlying97 Tryz.underlying3 (wrap_i64_nat ?_)) ?_
 ·omega
 refine HO_assign rfl rfl rfl ?_
 refine HO_nil ?_
 refine H_env (ρ':=[(4,_)]) ⟨rfl,trivial⟩ ?_
 have hrd : (Cod.cnt k b w) = ((Cod.rd 0 (Cod.dec b) b w).1,(Cod.rd 0 (Cod.dec b) b w).2.1,(Cod.rd 0 (Cod.dec b) b w).2.2):=Cod.cnt_good (by omega) (by omega)
 refine H_ret1 Tryz.results101 (.tmp rfl) (fun w hA => ⟨y10,congrArg Ending.returned ?_,?_,?_⟩)
 ·(rw [hrd])
 ·trivial
 ·(rw [hrd];exact hA.keep (m:=[yy,yy]) (Y:=[_,_]) rfl)
theorem cEnd_spec (T : TypeId) (g : Nat) (b : List UInt8) (w : Bool) (a : Option Addr) (c : Nat)  : Spec Tryz.prog 106 #[.pointer (some ⟨g,0,none⟩)] [.loc g [.slice a (b.length) c,.bool (w)] T,.dat kByte.sl (b) [.slice a (b.length) c]] (β:=Unit) (fun y => .bool ((Cod.rend b w))) (fun y => True) (fun y => [.loc g [.slice a (b.length) c,.bool (w)] T]):=by
 refine Spec.enter (vs:=[_]) Tryz.func106 rfl Tryz.ntmps106 rfl (Nat.le_of_ble_eq_true rfl) (fun w0 ok0 => ?_)
 generalize hM0 : blks _ = M0
 refine H_seq ?_
 refine H_region (l:=[_]) rfl ?_
 refine HO_assign rfl rfl rfl ?_
 refine HO_nil ?_
 refine H_env (ρ':=[(0,_)]) ⟨rfl,trivial⟩ ?_
 refine H_seq ?_
 refine H_region (l:=[_,_,_,_,_,_,_,_,_,_,_,_,_,_,_,_,_,_]) rfl ?_
 refine HO_move rfl rfl rfl ?_
 refine HO_bin (r:=.bool true) rfl rfl rfl rfl (bin_ptr_ne_pn Tryz.runUnderlying127) ?_
 iterate 2 refine HO_move rfl rfl rfl ?_
 refine HO_nilCheck rfl rfl rfl ?_
 refine HO_fieldAddr (r:=1) rfl rfl rfl Tryz.underlying108 rfl Tryz.sizeOf4 rfl ?_
 refine HO_load1 (i:=0) (j:=1) rfl rfl rfl Tryz.isAgg4 rfl (.loc _ _ _) rfl rfl ?_
 refine HO_not rfl rfl rfl ?_
 refine HO_pick_t rfl rfl rfl rfl ?_
 refine HO_move rfl rfl rfl ?_
 refine HO_split (d:=12) rfl ?_ ?_
 ·intro h12
  replace h12:=nT h12
  refine HO_move rfl rfl rfl ?_
  refine HO_nilCheck rfl rfl rfl ?_
  refine HO_fieldAddr (r:=0) rfl rfl rfl Tryz.underlying108 rfl Tryz.sizeOf32 rfl ?_
  refine HO_load1 (i:=0) (j:=0) rfl rfl rfl Tryz.isAgg32 rfl (.loc _ _ _) rfl rfl ?_
  refine HO_bi rfl rfl rfl (bi_len_sl Tryz.underlying32) ?_
  refine HO_bin rfl rfl rfl rfl bin_eql ?_
  refine HO_pick_t rfl rfl rfl rfl ?_
  refine HO_assign rfl rfl rfl ?_
  refine HO_nil ?_
  refine H_env (ρ':=[(2,_)]) ⟨rfl,trivial⟩ ?_
  refine H_ret1 Tryz.results106 (.tmp rfl) (fun w hA => ⟨(),congrArg Ending.returned ?_,?_,?_⟩)
  ·(first | exact congrArg Value.bool (Cod.rend_t h12) | exact congrArg Value.bool (Cod.rend_f h12) | exact congrArg Value.bool (Cod.rend_t h8) | exact congrArg Value.bool (Cod.rend_f h8))
  ·trivial
  ·exact hA.keep (m:=[yy,nn]) (Y:=[_]) rfl
 intro h12
 replace h12:=nF h12
 iterate 6 refine HO_no rfl rfl rfl ?_
 refine HO_pick_f rfl rfl rfl rfl ?_
 refine HO_assign rfl rfl rfl ?_
 refine HO_nil ?_
 refine H_env (ρ':=[(2,_)]) ⟨rfl,trivial⟩ ?_
 refine H_ret1 Tryz.results106 (.tmp rfl) (fun w hA => ⟨(),congrArg Ending.returned ?_,?_,?_⟩)
 ·(first | exact congrArg Value.bool (Cod.rend_t h12) | exact congrArg Value.bool (Cod.rend_f h12) | exact congrArg Value.bool (Cod.rend_t h8) | exact congrArg Value.bool (Cod.rend_f h8))
 ·trivial
 ·exact hA.keep (m:=[yy,nn]) (Y:=[_]) rfl
end Go.Wk
