/- Contracts of the program's functions, each proved by walking its code. -/
import Derived.Test.YtlkdpglngomblaaKfmod4
import Derived.Test.YtlkdpglngomblaaMod5
set_option maxRecDepth 100000
set_option linter.unusedVariables false
set_option linter.unusedSimpArgs false
namespace Go.Wk.Fmod5
open Go Go.RowKit Go.Proofs Go.Wk
theorem elt106 : Elt Try.prog 106 (.agg #[.int .i64 (0),.int .i64 (0),.int .i64 (0),.bool (false),.string (⟨#[]⟩),.int .i64 (0),.slice none 0 0]) 7 80:=Elt.of (by kernel_rfl) (by rfl) (by decide) (by decide)
theorem bd34_0_1_ss {a1 : Option Addr} {n1 c1 : Nat} {a2 : Option Addr} {n2 c2 : Nat} : ∀ w,(Instr.build 34 (List.toArray (List.zip [0,1] [.slice a1 n1 c1,.slice a2 n2 c2]))).run Try.prog w = .ok (.agg #[.slice a1 n1 c1,.slice a2 n2 c2]) w:=fun _ => by kernel_rfl
theorem bd38__  : ∀ w,(Instr.build 38 (List.toArray (List.zip [] []))).run Try.prog w = .ok (.agg #[.int .i64 (0),.bool (false),.string (⟨#[]⟩),.int .i64 (0),.slice none 0 0]) w:=fun _ => by kernel_rfl
theorem bd38_0_i {x1 : Int} : ∀ w,(Instr.build 38 (List.toArray (List.zip [0] [.int .i64 x1]))).run Try.prog w = .ok (.agg #[.int .i64 x1,.bool (false),.string (⟨#[]⟩),.int .i64 (0),.slice none 0 0]) w:=fun _ => by kernel_rfl
theorem bd38_3_i {x1 : Int} : ∀ w,(Instr.build 38 (List.toArray (List.zip [3] [.int .i64 x1]))).run Try.prog w = .ok (.agg #[.int .i64 (0),.bool (false),.string (⟨#[]⟩),.int .i64 x1,.slice none 0 0]) w:=fun _ => by kernel_rfl
theorem bd98_0_s {a1 : Option Addr} {n1 c1 : Nat} : ∀ w,(Instr.build 98 (List.toArray (List.zip [0] [.slice a1 n1 c1]))).run Try.prog w = .ok (.agg #[.slice a1 n1 c1]) w:=fun _ => by kernel_rfl
end Go.Wk.Fmod5
namespace Go.Wk
open Go Go.RowKit Go.Proofs Fmod5 
theorem rask_spec (g : Nat) (xs : List Sess) (a : Option Addr) (c : Nat) (k sq : Int) (hs : soInt.Srt Sess.id xs) (h1 : 1≤sq) (hn : ∀ x,Mod.sget k xs = some x→sq ≠ x.seq) : Spec Try.prog 51 #[.pointer (some ⟨g,0,none⟩),.int .i64 (k),.int .i64 (sq)] [.loc g [.slice a (xs.length) c] 98,.dat kSess.sl (xs) [.slice a (xs.length) c]] (β:=Unit) (fun y => .tuple #[.agg #[.int .i64 (0),.bool (false),.string (⟨#[]⟩),.int .i64 (0),.slice none 0 0],.int .i64 (Mod.askE xs k sq)]) (fun y => True) (fun y => [.loc g [.slice a (xs.length) c] 98]):=by
 refine Spec.enter (vs:=[_,_,_]) Try.func51 rfl Try.ntmps51 rfl (Nat.le_of_ble_eq_true rfl) (fun w0 ok0 => ?_)
 generalize hM0 : blks _ = M0
 refine H_len_le (i:=1) rfl ?_
 intro hlen1
 refine H_seq ?_
 refine H_region (l:=[_,_]) rfl ?_
 refine HO_alloc (cs:=[_,_,_,_,_]) rfl rfl Try.zeroValue38 rfl ?_
 intro g6
 refine HO_assign rfl rfl rfl ?_
 refine HO_nil ?_
 refine H_env (ρ':=[(6,_),(0,_),(1,_),(2,_)]) ⟨rfl,rfl,rfl,rfl,trivial⟩ ?_
 refine H_seq ?_
 refine H_region (l:=[_,_,_,_]) rfl ?_
 iterate 2 refine HO_move rfl rfl rfl ?_
 refine HO_dup (i:=2) rfl rfl ?_
 refine HO_call (first:=[]) (capt:=[]) (is:=[1,0]) (R:=[_,_]) rfl rfl rfl rfl rfl Try.call77 rfl (rfind_spec _ _ _ _ _ ?_) ?_
 ·exact hs
 intro y11 hy11
 clear y11 hy11
 refine HO_assign rfl rfl rfl ?_
 refine HO_nil ?_
 refine H_env (ρ':=[(8,_),(6,_),(0,_),(2,_)]) ⟨rfl,rfl,rfl,rfl,trivial⟩ ?_
 refine H_seq ?_
 refine H_block ?_
 refine H_seq ?_
 refine H_region (l:=[_,_,_]) rfl ?_
 refine HO_move rfl rfl rfl ?_
 refine HO_bin rfl rfl rfl rfl bin_lss ?_
 refine HO_assign rfl rfl rfl ?_
 refine HO_nil ?_
 refine H_env (ρ':=[(12,_),(8,_),(6,_),(0,_),(2,_)]) ⟨rfl,rfl,rfl,rfl,rfl,trivial⟩ ?_
 refine H_cond rfl ?_ ?_
 ·intro h12
  replace h12:=dT h12
  have hf:=Mod.find_no h12
  refine H_seq ?_
  refine H_region (l:=[_,_,_]) rfl ?_
  refine HO_build (xo:=[]) (vs:=[]) rfl rfl rfl rfl (bd38__) ?_
  refine HO_store (i:=1) (j:=0) (us:=[]) (old:=[_,_,_,_,_]) (ts:=[]) (cs:=[_,_,_,_,_]) (R:=[_,_]) (new:=[_,_,_,_,_]) rfl rfl rfl Try.sizeOf38 rfl (by simp [Value.oneCell']) rfl rfl rfl rfl rfl rfl ?_
  refine HO_assign rfl rfl rfl ?_
  refine HO_nil ?_
  refine H_env (ρ':=[(7,_),(6,_)]) ⟨rfl,rfl,trivial⟩ ?_
  have hask:=Mod.ask_none (seq:=sq) (Mod.sget_no hf)
  refine H_ret2 Try.results51 (.cell rfl (fun w hA => run_loadVarA (cs:=[_,_,_,_,_]) (Try.isAgg38 w) (Try.sizeOf38 w) (Tells.cells (.loc _ _ _) (hA.get (i:=0) rfl)))) (.tmp rfl) (fun w hA => ⟨(),congrArg Ending.returned ?_,?_,?_⟩)
  ·(rw [show Mod.askE xs k sq = 14 from hask])
  ·trivial
  ·exact hA.keep (m:=[nn,yy,nn]) (Y:=[_]) rfl
 intro h12
 replace h12:=dF h12
 obtain ⟨hf,hr⟩:=Mod.find_yes h12
 refine H_set (v':=.int .i64 ((soInt.rank Sess.id k xs : Nat) : Int)) 8 rfl (congrArg (Value.int .i64) hr) ?_
 refine H_seq ?_
 refine H_region (l:=[_,_,_,_,_,_,_,_,_,_,_,_,_,_,_]) rfl ?_
 iterate 2 refine HO_move rfl rfl rfl ?_
 refine HO_nilCheck rfl rfl rfl ?_
 refine HO_fieldAddr (r:=0) rfl rfl rfl Try.underlying98 rfl Try.sizeOf32 rfl ?_
 refine HO_load1 (i:=0) (j:=0) rfl rfl rfl Try.isAgg32 rfl (.loc _ _ _) rfl rfl ?_
 refine HO_move rfl rfl rfl ?_
 refine HO_indexAddr open_Sess (i:=2) rfl rfl rfl rfl rfl Try.underlying32 Try.sizeOf106 rfl ?_ ?_
 ·(have:=soInt.found_rank Sess.id hf;omega)
 intro b23 o23 z23 y23 hz23 hI23
 (try simp only [BIG] at hI23)
 refine HO_fieldAddr rfl rfl rfl Try.underlying106 rfl Try.sizeOf3 rfl ?_
 refine HO_load1 (i:=0) (j:=1) rfl rfl rfl Try.isAgg3 rfl (.elem _ _ _) rfl rfl ?_
 refine HO_bin rfl rfl rfl rfl bin_lss ?_
 refine HO_move rfl rfl rfl ?_
 refine HO_split (d:=27) rfl ?_ ?_
 ·intro h27
  replace h27:=dT h27
  iterate 2 refine HO_no rfl rfl rfl ?_
  refine HO_pick_t rfl rfl rfl rfl ?_
  refine HO_assign rfl rfl rfl ?_
  refine HO_nil ?_
  refine H_env (ρ':=[(16,_),(8,_),(6,_),(0,_),(2,_)]) ⟨rfl,rfl,rfl,rfl,rfl,trivial⟩ ?_
  refine H_world (kp [nn,nn,yy,yy,yy] [_,_,_] rfl) ?_
  refine H_cond rfl (fun _ => ?_) (fun h => nomatch h)
  refine H_seq ?_
  refine H_region (l:=[_,_,_]) rfl ?_
  refine HO_build (xo:=[]) (vs:=[]) rfl rfl rfl rfl (bd38__) ?_
  refine HO_store (i:=1) (j:=0) (us:=[]) (old:=[_,_,_,_,_]) (ts:=[]) (cs:=[_,_,_,_,_]) (R:=[_,_]) (new:=[_,_,_,_,_]) rfl rfl rfl Try.sizeOf38 rfl (by simp [Value.oneCell']) rfl rfl rfl rfl rfl rfl ?_
  refine HO_assign rfl rfl rfl ?_
  refine HO_nil ?_
  refine H_env (ρ':=[(7,_),(6,_)]) ⟨rfl,rfl,trivial⟩ ?_
  have hask:=Mod.ask_old (seq:=sq) (Mod.sget_yes hf hz23) (by omega)
  refine H_ret2 Try.results51 (.cell rfl (fun w hA => run_loadVarA (cs:=[_,_,_,_,_]) (Try.isAgg38 w) (Try.sizeOf38 w) (Tells.cells (.loc _ _ _) (hA.get (i:=0) rfl)))) (.tmp rfl) (fun w hA => ⟨(),congrArg Ending.returned ?_,?_,?_⟩)
  ·(rw [show Mod.askE xs k sq = 15 from hask])
  ·trivial
  ·exact hA.keep (m:=[nn,yy,nn]) (Y:=[_]) rfl
 intro h27
 replace h27:=dF h27
 refine HO_move rfl rfl rfl ?_
 refine HO_bin rfl rfl rfl rfl bin_lss ?_
 refine HO_pick_f rfl rfl rfl rfl ?_
 refine HO_assign rfl rfl rfl ?_
 refine HO_nil ?_
 refine H_env (ρ':=[(16,_),(8,_),(6,_),(0,_),(2,_)]) ⟨rfl,rfl,rfl,rfl,rfl,trivial⟩ ?_
 refine H_world (kp [nn,nn,yy,yy,yy] [_,_,_] rfl) ?_
 refine H_cond rfl ?_ ?_
 ·intro h16
  replace h16:=dT h16
  refine H_seq ?_
  refine H_region (l:=[_,_,_]) rfl ?_
  refine HO_build (xo:=[]) (vs:=[]) rfl rfl rfl rfl (bd38__) ?_
  refine HO_store (i:=1) (j:=0) (us:=[]) (old:=[_,_,_,_,_]) (ts:=[]) (cs:=[_,_,_,_,_]) (R:=[_,_]) (new:=[_,_,_,_,_]) rfl rfl rfl Try.sizeOf38 rfl (by simp [Value.oneCell']) rfl rfl rfl rfl rfl rfl ?_
  refine HO_assign rfl rfl rfl ?_
  refine HO_nil ?_
  refine H_env (ρ':=[(7,_),(6,_)]) ⟨rfl,rfl,trivial⟩ ?_
  have hask:=Mod.ask_old (seq:=sq) (Mod.sget_yes hf hz23) (by omega)
  refine H_ret2 Try.results51 (.cell rfl (fun w hA => run_loadVarA (cs:=[_,_,_,_,_]) (Try.isAgg38 w) (Try.sizeOf38 w) (Tells.cells (.loc _ _ _) (hA.get (i:=0) rfl)))) (.tmp rfl) (fun w hA => ⟨(),congrArg Ending.returned ?_,?_,?_⟩)
  ·(rw [show Mod.askE xs k sq = 15 from hask])
  ·trivial
  ·exact hA.keep (m:=[nn,yy,nn]) (Y:=[_]) rfl
 intro h16
 replace h16:=dF h16
 refine H_seq ?_
 refine H_region (l:=[_,_,_,_,_,_,_,_,_,_,_]) rfl ?_
 iterate 2 refine HO_move rfl rfl rfl ?_
 refine HO_nilCheck rfl rfl rfl ?_
 refine HO_fieldAddr (r:=0) rfl rfl rfl Try.underlying98 rfl Try.sizeOf32 rfl ?_
 refine HO_load1 (i:=0) (j:=0) rfl rfl rfl Try.isAgg32 rfl (.loc _ _ _) rfl rfl ?_
 refine HO_move rfl rfl rfl ?_
 refine HO_indexAddr open_Sess (i:=2) rfl rfl rfl rfl rfl Try.underlying32 Try.sizeOf106 rfl ?_ ?_
 ·(have:=soInt.found_rank Sess.id hf;omega)
 intro b39 o39 z39 y39 hz39 hI39
 (try simp only [BIG] at hI39)
 obtain rfl : z23 = z39:=by rw [hz23] at hz39;exact Option.some.inj hz39
 refine HO_fieldAddr rfl rfl rfl Try.underlying106 rfl Try.sizeOf3 rfl ?_
 refine HO_load1 (i:=0) (j:=1) rfl rfl rfl Try.isAgg3 rfl (.elem _ _ _) rfl rfl ?_
 refine HO_bin rfl rfl rfl rfl bin_eql ?_
 refine HO_assign rfl rfl rfl ?_
 refine HO_nil ?_
 refine H_env (ρ':=[(32,_),(8,_),(6,_),(0,_)]) ⟨rfl,rfl,rfl,rfl,trivial⟩ ?_
 refine H_world (kp [nn,nn,yy,yy,yy] [_,_,_] rfl) ?_
 refine H_cond rfl ?_ ?_
 ·intro h32
  replace h32:=dT h32
  (exact absurd h32 (hn _ (Mod.sget_yes hf hz23)))
 intro h32
 replace h32:=dF h32
 refine H_skip ?_
 refine H_blk ?_
 refine H_seq ?_
 refine H_region (l:=[_,_,_]) rfl ?_
 refine HO_build (xo:=[]) (vs:=[]) rfl rfl rfl rfl (bd38__) ?_
 refine HO_store (i:=1) (j:=0) (us:=[]) (old:=[_,_,_,_,_]) (ts:=[]) (cs:=[_,_,_,_,_]) (R:=[_,_]) (new:=[_,_,_,_,_]) rfl rfl rfl Try.sizeOf38 rfl (by simp [Value.oneCell']) rfl rfl rfl rfl rfl rfl ?_
 refine HO_assign rfl rfl rfl ?_
 refine HO_nil ?_
 refine H_env (ρ':=[(7,_),(6,_)]) ⟨rfl,rfl,trivial⟩ ?_
 have hask:=Mod.ask_new (seq:=sq) (Mod.sget_yes hf hz23) (by omega) h32
 refine H_ret2 Try.results51 (.cell rfl (fun w hA => run_loadVarA (cs:=[_,_,_,_,_]) (Try.isAgg38 w) (Try.sizeOf38 w) (Tells.cells (.loc _ _ _) (hA.get (i:=0) rfl)))) (.tmp rfl) (fun w hA => ⟨(),congrArg Ending.returned ?_,?_,?_⟩)
 ·(rw [show Mod.askE xs k sq = 4 from hask])
 ·trivial
 ·exact hA.keep (m:=[nn,yy,nn]) (Y:=[_]) rfl
theorem rask0_spec (g : Nat) (xs : List Sess) (a : Option Addr) (c : Nat) (k sq : Int) (hs : soInt.Srt Sess.id xs) (h1 : 1≤sq) (hy : ∃ x,Mod.sget k xs = some x∧sq = x.seq) : Spec Try.prog 51 #[.pointer (some ⟨g,0,none⟩),.int .i64 (k),.int .i64 (sq)] [.loc g [.slice a (xs.length) c] 98,.dat kSess.sl (xs) [.slice a (xs.length) c]] (β:=Option Addr × Nat) (fun y => .tuple #[.agg #[.int .i64 ((Mod.sessR k xs).err),.bool ((Mod.sessR k xs).found),.string ((Mod.sessR k xs).val),.int .i64 ((Mod.sessR k xs).sess),.slice y.1 (((Mod.sessR k xs).pairs).length) y.2],.int .i64 (0)]) (fun y => True) (fun y => [.loc g [.slice a (xs.length) c] 98,.dat kPair.sl ((Mod.sessR k xs).pairs) [.slice y.1 (((Mod.sessR k xs).pairs).length) y.2]]):=by
 refine Spec.enter (vs:=[_,_,_]) Try.func51 rfl Try.ntmps51 rfl (Nat.le_of_ble_eq_true rfl) (fun w0 ok0 => ?_)
 generalize hM0 : blks _ = M0
 refine H_len_le (i:=1) rfl ?_
 intro hlen1
 refine H_seq ?_
 refine H_region (l:=[_,_]) rfl ?_
 refine HO_alloc (cs:=[_,_,_,_,_]) rfl rfl Try.zeroValue38 rfl ?_
 intro g6
 refine HO_assign rfl rfl rfl ?_
 refine HO_nil ?_
 refine H_env (ρ':=[(6,_),(0,_),(1,_),(2,_)]) ⟨rfl,rfl,rfl,rfl,trivial⟩ ?_
 refine H_seq ?_
 refine H_region (l:=[_,_,_,_]) rfl ?_
 iterate 2 refine HO_move rfl rfl rfl ?_
 refine HO_dup (i:=2) rfl rfl ?_
 refine HO_call (first:=[]) (capt:=[]) (is:=[1,0]) (R:=[_,_]) rfl rfl rfl rfl rfl Try.call77 rfl (rfind_spec _ _ _ _ _ ?_) ?_
 ·exact hs
 intro y11 hy11
 clear y11 hy11
 refine HO_assign rfl rfl rfl ?_
 refine HO_nil ?_
 refine H_env (ρ':=[(8,_),(6,_),(0,_),(2,_)]) ⟨rfl,rfl,rfl,rfl,trivial⟩ ?_
 refine H_seq ?_
 refine H_block ?_
 refine H_seq ?_
 refine H_region (l:=[_,_,_]) rfl ?_
 refine HO_move rfl rfl rfl ?_
 refine HO_bin rfl rfl rfl rfl bin_lss ?_
 refine HO_assign rfl rfl rfl ?_
 refine HO_nil ?_
 refine H_env (ρ':=[(12,_),(8,_),(6,_),(0,_),(2,_)]) ⟨rfl,rfl,rfl,rfl,rfl,trivial⟩ ?_
 refine H_cond rfl ?_ ?_
 ·intro h12
  replace h12:=dT h12
  (exact absurd h12 (by obtain ⟨x,hx,_⟩:=hy;unfold Mod.findI;rw [if_pos (Mod.sget_found hx).1];omega))
 intro h12
 replace h12:=dF h12
 obtain ⟨hf,hr⟩:=Mod.find_yes h12
 refine H_set (v':=.int .i64 ((soInt.rank Sess.id k xs : Nat) : Int)) 8 rfl (congrArg (Value.int .i64) hr) ?_
 refine H_seq ?_
 refine H_region (l:=[_,_,_,_,_,_,_,_,_,_,_,_,_,_,_]) rfl ?_
 iterate 2 refine HO_move rfl rfl rfl ?_
 refine HO_nilCheck rfl rfl rfl ?_
 refine HO_fieldAddr (r:=0) rfl rfl rfl Try.underlying98 rfl Try.sizeOf32 rfl ?_
 refine HO_load1 (i:=0) (j:=0) rfl rfl rfl Try.isAgg32 rfl (.loc _ _ _) rfl rfl ?_
 refine HO_move rfl rfl rfl ?_
 refine HO_indexAddr open_Sess (i:=2) rfl rfl rfl rfl rfl Try.underlying32 Try.sizeOf106 rfl ?_ ?_
 ·(have:=soInt.found_rank Sess.id hf;omega)
 intro b23 o23 z23 y23 hz23 hI23
 (try simp only [BIG] at hI23)
 have hx:=Mod.sget_yes hf hz23
 have hq : sq = z23.seq:=by obtain ⟨x,hx2,hy2⟩:=hy;rw [hx] at hx2;cases hx2;exact hy2
 refine HO_fieldAddr rfl rfl rfl Try.underlying106 rfl Try.sizeOf3 rfl ?_
 refine HO_load1 (i:=0) (j:=1) rfl rfl rfl Try.isAgg3 rfl (.elem _ _ _) rfl rfl ?_
 refine HO_bin rfl rfl rfl rfl bin_lss ?_
 refine HO_move rfl rfl rfl ?_
 refine HO_split (d:=27) rfl ?_ ?_
 ·intro h27
  replace h27:=dT h27
  (exfalso;omega)
 intro h27
 replace h27:=dF h27
 refine HO_move rfl rfl rfl ?_
 refine HO_bin rfl rfl rfl rfl bin_lss ?_
 refine HO_pick_f rfl rfl rfl rfl ?_
 refine HO_assign rfl rfl rfl ?_
 refine HO_nil ?_
 refine H_env (ρ':=[(16,_),(8,_),(6,_),(0,_),(2,_)]) ⟨rfl,rfl,rfl,rfl,rfl,trivial⟩ ?_
 refine H_world (kp [nn,nn,yy,yy,yy] [_,_,_] rfl) ?_
 refine H_cond rfl ?_ ?_
 ·intro h16
  replace h16:=dT h16
  (exfalso;omega)
 intro h16
 replace h16:=dF h16
 refine H_seq ?_
 refine H_region (l:=[_,_,_,_,_,_,_,_,_,_,_]) rfl ?_
 iterate 2 refine HO_move rfl rfl rfl ?_
 refine HO_nilCheck rfl rfl rfl ?_
 refine HO_fieldAddr (r:=0) rfl rfl rfl Try.underlying98 rfl Try.sizeOf32 rfl ?_
 refine HO_load1 (i:=0) (j:=0) rfl rfl rfl Try.isAgg32 rfl (.loc _ _ _) rfl rfl ?_
 refine HO_move rfl rfl rfl ?_
 refine HO_indexAddr open_Sess (i:=2) rfl rfl rfl rfl rfl Try.underlying32 Try.sizeOf106 rfl ?_ ?_
 ·(have:=soInt.found_rank Sess.id hf;omega)
 intro b39 o39 z39 y39 hz39 hI39
 (try simp only [BIG] at hI39)
 obtain rfl : z23 = z39:=by rw [hz23] at hz39;exact Option.some.inj hz39
 refine HO_fieldAddr rfl rfl rfl Try.underlying106 rfl Try.sizeOf3 rfl ?_
 refine HO_load1 (i:=0) (j:=1) rfl rfl rfl Try.isAgg3 rfl (.elem _ _ _) rfl rfl ?_
 refine HO_bin rfl rfl rfl rfl bin_eql ?_
 refine HO_assign rfl rfl rfl ?_
 refine HO_nil ?_
 refine H_env (ρ':=[(32,_),(8,_),(6,_),(0,_)]) ⟨rfl,rfl,rfl,rfl,trivial⟩ ?_
 refine H_world (kp [nn,nn,yy,yy,yy] [_,_,_] rfl) ?_
 refine H_cond rfl ?_ ?_
 ·intro h32
  replace h32:=dT h32
  refine H_seq ?_
  refine H_region (l:=[_,_,_,_,_,_,_,_,_,_]) rfl ?_
  refine HO_move rfl rfl rfl ?_
  refine HO_nilCheck rfl rfl rfl ?_
  refine HO_fieldAddr (r:=0) rfl rfl rfl Try.underlying98 rfl Try.sizeOf32 rfl ?_
  refine HO_load1 (i:=0) (j:=0) rfl rfl rfl Try.isAgg32 rfl (.loc _ _ _) rfl rfl ?_
  refine HO_move rfl rfl rfl ?_
  refine HO_indexAddr open_Sess (i:=2) rfl rfl rfl rfl rfl Try.underlying32 Try.sizeOf106 rfl ?_ ?_
  ·(have:=soInt.found_rank Sess.id hf;omega)
  intro b48 o48 z48 y48 hz48 hI48
  (try simp only [BIG] at hI48)
  refine HO_fieldAddr rfl rfl rfl Try.underlying106 rfl Try.sizeOf38 rfl ?_
  refine HO_loadA (i:=0) (us:=[_,_]) (cs:=[_,_,_,_,_]) (ts:=[]) rfl rfl rfl Try.isAgg38 Try.sizeOf38 rfl (.elem _ _ _) rfl rfl rfl rfl ?_
  refine HO_store (i:=3) (j:=0) (us:=[]) (old:=[_,_,_,_,_]) (ts:=[]) (cs:=[_,_,_,_,_]) (R:=[_,_,_,_]) (new:=[_,_,_,_,_]) rfl rfl rfl Try.sizeOf38 rfl (by simp [Value.oneCell']) rfl rfl rfl rfl rfl rfl ?_
  refine HO_assign rfl rfl rfl ?_
  refine HO_nil ?_
  refine H_env (ρ':=[(7,_),(6,_)]) ⟨rfl,rfl,trivial⟩ ?_
  refine H_world (kp [yy,nn,yy,yy,yy] [_,_,_,_] rfl) ?_
  have hx7:=Mod.sget_yes hf hz48
  have hsr : Mod.sessR k xs = z48.rep:=by unfold Mod.sessR;rw [hx7]
  refine H_ret2 Try.results51 (.cell rfl (fun w hA => run_loadVarA (cs:=[_,_,_,_,_]) (Try.isAgg38 w) (Try.sizeOf38 w) (Tells.cells (.loc _ _ _) (hA.get (i:=0) rfl)))) (.tmp rfl) (fun w hA => ⟨y48,congrArg Ending.returned ?_,?_,?_⟩)
  ·(rw [hsr])
  ·trivial
  ·(rw [hsr];exact hA.only (is:=[1,1]) (Z:=[_,_]) rfl)
 intro h32
 replace h32:=dF h32
 (exfalso;omega)
theorem rdone_spec (g : Nat) (xs : List Sess) (a : Option Addr) (c : Nat) (k sq er : Int) (fo : Bool) (va : ByteArray) (se : Int) (ps : List Pair) (ap : Option Addr) (cp : Nat) (hs : soInt.Srt Sess.id xs) (hx : ∃ x,Mod.sget k xs = some x∧x.seq < sq) (rk : -9223372036854775808≤k∧k≤9223372036854775807) (rq : -9223372036854775808≤sq∧sq≤9223372036854775807) (re : -9223372036854775808≤er∧er≤9223372036854775807) (sv : va.size≤BIG) (rs : -9223372036854775808≤se∧se≤9223372036854775807) (sp : ps.length≤BIG) : Spec Try.prog 53 #[.pointer (some ⟨g,0,none⟩),.int .i64 (k),.int .i64 (sq),.agg #[.int .i64 (er),.bool (fo),.string (va),.int .i64 (se),.slice ap (ps.length) cp]] [.loc g [.slice a (xs.length) c] 98,.own 106 kSess a c (xs),.dat kPair.sl (ps) [.slice ap (ps.length) cp]] (β:=Option Addr × Nat) (fun y => .int .i64 (0)) (fun y => True) (fun y => [.loc g [.slice y.1 (((Mod.sput ⟨k,sq,⟨er,fo,va,se,ps⟩⟩ xs)).length) y.2] 98,.own 106 kSess y.1 y.2 ((Mod.sput ⟨k,sq,⟨er,fo,va,se,ps⟩⟩ xs))]):=by
 obtain ⟨z,hz0,hlt⟩:=hx
 obtain ⟨hf,hz⟩:=Mod.sget_found hz0
 have hzk:=soInt.found_key Sess.id hf hz
 refine Spec.enter (vs:=[_,_,_,_]) Try.func53 rfl Try.ntmps53 rfl (Nat.le_of_ble_eq_true rfl) (fun w0 ok0 => ?_)
 generalize hM0 : blks _ = M0
 refine H_len_le (i:=2) rfl ?_
 intro hlen2
 refine H_seq ?_
 refine H_region (l:=[_,_]) rfl ?_
 refine HO_box (cs:=[_,_,_,_,_]) rfl rfl rfl rfl ?_
 intro g7
 refine HO_assign rfl rfl rfl ?_
 refine HO_nil ?_
 refine H_env (ρ':=[(7,_),(0,_),(1,_),(2,_)]) ⟨rfl,rfl,rfl,rfl,trivial⟩ ?_
 refine H_seq ?_
 refine H_region (l:=[_,_,_,_]) rfl ?_
 iterate 2 refine HO_move rfl rfl rfl ?_
 refine HO_call (first:=[]) (capt:=[]) (is:=[1,2]) (R:=[_,_]) rfl rfl rfl rfl rfl Try.call77 rfl (Spec.lend (pre1:=[_]) (pre2:=[]) (rfind_spec _ _ _ _ _ ?_) rfl (by intro y at' ha;obtain rfl:=List.mem_singleton.1 ha;first | exact Atom.Flat.own kByte_plain _ _ _ _ | exact Atom.Flat.own kInt_plain _ _ _ _ | exact Atom.Flat.own kStr_plain _ _ _ _ | exact Atom.Flat.loc _ _ _)) ?_
 ·exact hs
 intro y12 hy12
 clear y12 hy12
 refine HO_assign rfl rfl rfl ?_
 refine HO_nil ?_
 refine H_env (ρ':=[(9,_),(7,_),(0,_),(2,_)]) ⟨rfl,rfl,rfl,rfl,trivial⟩ ?_
 refine H_seq ?_
 refine H_block ?_
 refine H_seq ?_
 refine H_ownLen (i:=0) rfl (fun hlc hmc => ?_)
 refine H_region (l:=[_,_,_]) rfl ?_
 refine HO_move rfl rfl rfl ?_
 refine HO_bin rfl rfl rfl rfl bin_lss ?_
 refine HO_assign rfl rfl rfl ?_
 refine HO_nil ?_
 refine H_env (ρ':=[(13,_),(9,_),(7,_),(0,_),(2,_)]) ⟨rfl,rfl,rfl,rfl,rfl,trivial⟩ ?_
 refine H_cond rfl ?_ ?_
 ·intro h13
  replace h13:=dT h13
  (exact absurd h13 (by unfold Mod.findI;rw [if_pos hf];omega))
 intro h13
 replace h13:=dF h13
 obtain ⟨_,hr⟩:=Mod.find_yes h13
 refine H_set (v':=.int .i64 ((soInt.rank Sess.id k xs : Nat) : Int)) 9 rfl (congrArg (Value.int .i64) hr) ?_
 refine H_seq ?_
 refine H_openRow (i:=0) (R:=[_,_,_]) rfl (by (have:=soInt.found_rank Sess.id hf;omega)) (fun g0 vals0 spare0 ha0 hl0 hs0 hc0 hm0 ho0 => ?_)
 cases ha0
 replace hl0 : vals0.length = _ * 7:=hl0
 replace hs0 : spare0.length = _ * 7:=hs0
 (try simp only [List.length_cons,List.length_nil] at hl0 hs0 hc0)
 (try simp only [maxLen] at hm0)
 refine H_region (l:=[_,_,_,_,_,_,_,_,_,_,_]) rfl ?_
 refine HO_pure (fun w hA => sess_parts (hA.get (i:=1) rfl) hz hzk) (fun hpart => ?_)
 obtain ⟨us,yz,ts,hv0,hus⟩:=hpart
 subst hv0
 simp only [List.append_assoc]
 iterate 2 refine HO_move rfl rfl rfl ?_
 refine HO_nilCheck rfl rfl rfl ?_
 refine HO_fieldAddr (r:=0) rfl rfl rfl Try.underlying98 rfl Try.sizeOf32 rfl ?_
 refine HO_load1 (i:=2) (j:=0) rfl rfl rfl Try.isAgg32 rfl (.loc _ _ _) rfl rfl ?_
 refine HO_move rfl rfl rfl ?_
 refine HO_indexC rfl rfl rfl rfl rfl Try.underlying32 Try.sizeOf106 ?_ rfl ?_
 ·exact soInt.found_rank Sess.id hf
 refine HO_fieldAddr rfl rfl rfl Try.underlying106 rfl Try.sizeOf3 rfl ?_
 refine HO_load1 (i:=0) (j:=(soInt.rank Sess.id k xs * 7 + 1)) (v:=.int .i64 (z.seq)) rfl rfl rfl Try.isAgg3 rfl (.loc _ _ _) ?_ ?_ ?_
 ·(show 0 + _ * 7 + 1 = 0 + (_ * 7 + 1);omega)
 ·(rw [← hus,get_mid _ _ _ 1 (by simp)];rfl)
 refine HO_bin rfl rfl rfl rfl bin_leq ?_
 refine HO_assign rfl rfl rfl ?_
 refine HO_nil ?_
 refine H_env (ρ':=[(16,_),(9,_),(7,_),(0,_),(2,_)]) ⟨rfl,rfl,rfl,rfl,rfl,trivial⟩ ?_
 refine H_cond rfl ?_ ?_
 ·intro h16
  replace h16:=dT h16
  (exfalso;omega)
 intro h16
 replace h16:=dF h16
 refine H_skip ?_
 refine H_blk ?_
 refine H_seq ?_
 refine H_drawB (m:=[nn,yy,yy,yy,yy]) (Xs:=[_,_,_,_]) (fuel:=18) (l:=#[false,false,false,false,false,false,false,false,false,false,false,false,false,false,false,false,false,false]) mixed rfl rfl rfl ?_
 refine HA_take (i:=0) bp rfl rfl rfl rfl (by kernel_rfl) rfl (V_move rfl) (kp [nn,yy,yy,yy,yy] [_,_,_,_] rfl) ?_
 refine HA_take (i:=1) bp rfl rfl rfl rfl (by kernel_rfl) rfl (V_nilCheck rfl) (kp [nn,yy,yy,yy,yy] [_,_,_,_] rfl) ?_
 refine HA_take (i:=2) bp rfl rfl rfl rfl (by kernel_rfl) rfl (V_fieldAddr (r:=0) rfl Try.underlying98 rfl Try.sizeOf32 rfl) (kp [nn,yy,yy,yy,yy] [_,_,_,_] rfl) ?_
 refine HA_take (i:=3) bp rfl rfl rfl rfl (by kernel_rfl) rfl (V_load1 (i:=1) (j:=0) rfl Try.isAgg32 rfl (.loc _ _ _) rfl rfl) (kp [nn,yy,yy,yy,yy] [_,_,_,_] rfl) ?_
 refine HA_take (i:=4) bp rfl rfl rfl rfl (by kernel_rfl) rfl (V_move rfl) (kp [nn,yy,yy,yy,yy] [_,_,_,_] rfl) ?_
 refine HA_take (i:=5) bp rfl rfl rfl rfl (by kernel_rfl) rfl (V_move rfl) (kp [nn,yy,yy,yy,yy] [_,_,_,_] rfl) ?_
 refine HA_take (i:=6) bp rfl rfl rfl rfl (by kernel_rfl) rfl (V_nilCheck rfl) (kp [nn,yy,yy,yy,yy] [_,_,_,_] rfl) ?_
 refine HA_take (i:=7) bp rfl rfl rfl rfl (by kernel_rfl) rfl (V_fieldAddr (r:=0) rfl Try.underlying98 rfl Try.sizeOf32 rfl) (kp [nn,yy,yy,yy,yy] [_,_,_,_] rfl) ?_
 refine HA_take (i:=8) bp rfl rfl rfl rfl (by kernel_rfl) rfl (V_load1 (i:=1) (j:=0) rfl Try.isAgg32 rfl (.loc _ _ _) rfl rfl) (kp [nn,yy,yy,yy,yy] [_,_,_,_] rfl) ?_
 refine HA_take (i:=9) bp rfl rfl rfl rfl (by kernel_rfl) rfl (V_move rfl) (kp [nn,yy,yy,yy,yy] [_,_,_,_] rfl) ?_
 refine HA_take (i:=10) bp rfl rfl rfl rfl (by kernel_rfl) rfl (V_move rfl) (kp [nn,yy,yy,yy,yy] [_,_,_,_] rfl) ?_
 refine HA_take (i:=11) bp rfl rfl rfl rfl (by kernel_rfl) rfl (V_loadA (i:=2) (us:=[]) (cs:=[_,_,_,_,_]) (ts:=[]) rfl Try.isAgg38 Try.sizeOf38 rfl (.loc _ _ _) rfl rfl rfl rfl) (kp [nn,yy,yy,yy,yy] [_,_,_,_] rfl) ?_
 refine HA_take (i:=12) bp rfl rfl rfl rfl (by kernel_rfl) rfl (V_indexC rfl rfl rfl Try.underlying32 Try.sizeOf106 ?_ rfl) (kp [nn,yy,yy,yy,yy] [_,_,_,_] rfl) ?_
 ·exact soInt.found_rank Sess.id hf
 refine HA_take (i:=13) bp rfl rfl rfl rfl (by kernel_rfl) rfl (V_fieldAddr rfl Try.underlying106 rfl Try.sizeOf3 rfl) (kp [nn,yy,yy,yy,yy] [_,_,_,_] rfl) ?_
 refine HA_loud1 (i:=14) (by kernel_rfl) rfl ?_
 refine HO_store (i:=0) (j:=0) (us:=us ++ [.int .i64 k]) (old:=[.int .i64 z.seq]) (ts:=[.int .i64 z.rep.err,.bool z.rep.found,.string z.rep.val,.int .i64 z.rep.sess,.slice yz.1 z.rep.pairs.length yz.2] ++ (ts ++ spare0)) (cs:=[_]) (R:=[_,_,_,_]) rfl rfl rfl Try.sizeOf3 rfl (by simp [Value.oneCell']) rfl ?_ ?_ rfl ?_ rfl ?_
 ·(simp)
 ·rfl
 ·(show List.length _ = 0 + _ * 7 + 1;simp only [List.length_append,List.length_cons,List.length_nil,hus];omega)
 refine HA_back rfl (kp [nn,yy,yy,yy,yy] [_,_,_,_] rfl) ?_
 refine HA_take (i:=15) bp rfl rfl rfl rfl (by kernel_rfl) rfl (V_indexC rfl rfl rfl Try.underlying32 Try.sizeOf106 ?_ rfl) (kp [nn,yy,yy,yy,yy] [_,_,_,_] rfl) ?_
 ·exact soInt.found_rank Sess.id hf
 refine HA_take (i:=16) bp rfl rfl rfl rfl (by kernel_rfl) rfl (V_fieldAddr rfl Try.underlying106 rfl Try.sizeOf38 rfl) (kp [nn,yy,yy,yy,yy] [_,_,_,_] rfl) ?_
 refine HA_loud1 (i:=17) (by kernel_rfl) rfl ?_
 refine HO_store (i:=0) (j:=0) (us:=us ++ [.int .i64 k,.int .i64 sq]) (old:=[.int .i64 z.rep.err,.bool z.rep.found,.string z.rep.val,.int .i64 z.rep.sess,.slice yz.1 z.rep.pairs.length yz.2]) (ts:=ts ++ spare0) (cs:=[_,_,_,_,_]) (R:=[_,_,_,_]) rfl rfl rfl Try.sizeOf38 rfl (by simp [Value.oneCell']) rfl ?_ ?_ rfl ?_ rfl ?_
 ·(simp)
 ·rfl
 ·(show List.length _ = 0 + _ * 7 + 2;simp only [List.length_append,List.length_cons,List.length_nil,hus];omega)
 refine HA_back rfl (kp [nn,yy,yy,yy,yy] [_,_,_,_] rfl) ?_
 refine HA_done (by kernel_rfl) ?_
 refine H_env (ρ':=[]) trivial ?_
 refine H_world (kp [yy,yy,yy,nn,yy] [_,_,_,_] rfl) ?_
 refine H_seq ?_
 refine H_closeRow (i:=0) (R:=[_,_,_]) (kd:=kSess) (cp:=c) (xs.set (soInt.rank Sess.id k xs) ⟨k,sq,⟨er,fo,va,se,ps⟩⟩) (us ++ ([.int .i64 k,.int .i64 sq,.int .i64 er,.bool fo,.string va,.int .i64 se,.slice ap ps.length cp] ++ ts)) (spare0) rfl ?_ ?_ ?_ ?_ ?_ ?_ ?_
 ·(simp)
 ·(have:=soInt.found_rank Sess.id hf;omega)
 ·(show _ = c * 7;simp only [List.length_append,List.length_cons,List.length_nil] at hl0 ⊢;omega)
 ·(rw [List.length_set];omega)
 ·(simp only [maxLen];omega)
 ·exact (fun ok w hA => rowRep.upd (hA _ (List.mem_of_getElem? (i:=0) rfl)) hz rfl hus rfl ⟨⟨rk,rq,re,sv,rs,sp⟩,(ap,cp),rfl,List.forall_mem_cons.2 ⟨hA _ (List.mem_of_getElem? (i:=2) rfl),(by simp)⟩⟩)
 refine H_region (l:=[_]) rfl ?_
 refine HO_assign rfl rfl rfl ?_
 refine HO_nil ?_
 have hput : (Mod.sput ⟨k,sq,⟨er,fo,va,se,ps⟩⟩ xs) = xs.set (soInt.rank Sess.id k xs) ⟨k,sq,⟨er,fo,va,se,ps⟩⟩:=Mod.put_sess (x:=⟨k,sq,⟨er,fo,va,se,ps⟩⟩) hf
 refine H_ret1 Try.results53 (.tmp rfl) (fun w hA => ⟨(some ⟨g0,0,none⟩,c),congrArg Ending.returned ?_,?_,?_⟩)
 ·rfl
 ·trivial
 ·(rw [hput,List.length_set];exact hA.only (is:=[1,0]) (Z:=[_,_]) rfl)
set_option maxHeartbeats 0 in
theorem rapply_spec (ps : List Pair) (a1 : Option Addr) (c1 : Nat) (ss : List Sess) (a2 : Option Addr) (c2 : Nat) (ix : Int) (ki cs sq : Int) (ke ol cv ti : ByteArray) (li : Int) (hI : Mod.Inv ps ss) (rx : -9223372036854775808≤ix∧ix≤9223372036854775807) (rc : -9223372036854775808≤cs∧cs≤9223372036854775807) (rq : -9223372036854775808≤sq∧sq≤9223372036854775807) (sk : ke.size≤BIG) (sc : cv.size≤BIG) : Spec Try.prog 18 #[.agg #[.slice a1 (ps.length) c1,.slice a2 (ss.length) c2],.int .i64 (ix),.agg #[.int .i64 (ki),.int .i64 (cs),.int .i64 (sq),.string (ke),.string (ol),.string (cv),.string (ti),.int .i64 (li)]] [.dat kPair.sl (ps) [.slice a1 (ps.length) c1],.dat kSess.sl (ss) [.slice a2 (ss.length) c2]] (β:=(Option Addr × Nat) × (Option Addr × Nat) × (Option Addr × Nat)) (fun y => .tuple #[.agg #[.slice y.1.1 (((Mod.apply ps ss ix (⟨ki,cs,sq,ke,ol,cv,ti,li⟩ : Cmd)).1).length) y.1.2,.slice y.2.1.1 (((Mod.apply ps ss ix (⟨ki,cs,sq,ke,ol,cv,ti,li⟩ : Cmd)).2.1).length) y.2.1.2],.agg #[.int .i64 ((Mod.apply ps ss ix (⟨ki,cs,sq,ke,ol,cv,ti,li⟩ : Cmd)).2.2.err),.bool ((Mod.apply ps ss ix (⟨ki,cs,sq,ke,ol,cv,ti,li⟩ : Cmd)).2.2.found),.string ((Mod.apply ps ss ix (⟨ki,cs,sq,ke,ol,cv,ti,li⟩ : Cmd)).2.2.val),.int .i64 ((Mod.apply ps ss ix (⟨ki,cs,sq,ke,ol,cv,ti,li⟩ : Cmd)).2.2.sess),.slice y.2.2.1 (((Mod.apply ps ss ix (⟨ki,cs,sq,ke,ol,cv,ti,li⟩ : Cmd)).2.2.pairs).length) y.2.2.2]]) (fun y => True) (fun y => [.dat kPair.sl ((Mod.apply ps ss ix (⟨ki,cs,sq,ke,ol,cv,ti,li⟩ : Cmd)).1) [.slice y.1.1 (((Mod.apply ps ss ix (⟨ki,cs,sq,ke,ol,cv,ti,li⟩ : Cmd)).1).length) y.1.2],.dat kSess.sl ((Mod.apply ps ss ix (⟨ki,cs,sq,ke,ol,cv,ti,li⟩ : Cmd)).2.1) [.slice y.2.1.1 (((Mod.apply ps ss ix (⟨ki,cs,sq,ke,ol,cv,ti,li⟩ : Cmd)).2.1).length) y.2.1.2],.dat kPair.sl ((Mod.apply ps ss ix (⟨ki,cs,sq,ke,ol,cv,ti,li⟩ : Cmd)).2.2.pairs) [.slice y.2.2.1 (((Mod.apply ps ss ix (⟨ki,cs,sq,ke,ol,cv,ti,li⟩ : Cmd)).2.2.pairs).length) y.2.2.2]]):=by
 refine Spec.enter (vs:=[_,_,_]) Try.func18 rfl Try.ntmps18 rfl (Nat.le_of_ble_eq_true rfl) (fun w0 ok0 => ?_)
 generalize hM0 : blks _ = M0
 have hMn:=@noM _ _ hM0 (by simp [Atom.dat,Atom.elem])
 refine H_len_le (i:=0) rfl ?_
 intro hlen0
 refine H_len_le (i:=1) rfl ?_
 intro hlen1
 refine H_seq ?_
 refine H_region (l:=[_,_,_,_]) rfl ?_
 refine HO_box (cs:=[_,_]) rfl rfl rfl rfl ?_
 intro g3
 refine HO_box (cs:=[_,_,_,_,_,_,_,_]) rfl rfl rfl rfl ?_
 intro g5
 refine HO_alloc (cs:=[_,_]) rfl rfl Try.zeroValue34 rfl ?_
 intro g6
 refine HO_alloc (cs:=[_,_,_,_,_]) rfl rfl Try.zeroValue38 rfl ?_
 intro g7
 refine HO_nil ?_
 refine H_env (ρ':=[(7,_),(6,_),(5,_),(3,_),(1,_)]) ⟨rfl,rfl,rfl,rfl,rfl,trivial⟩ ?_
 refine H_seq ?_
 refine H_seq ?_
 refine H_region (l:=[_,_,_]) rfl ?_
 refine HO_loadA (i:=2) (us:=[]) (cs:=[_,_,_,_,_,_,_,_]) (ts:=[]) rfl rfl rfl Try.isAgg36 Try.sizeOf36 rfl (.loc _ _ _) rfl rfl rfl rfl ?_
 refine HO_call (first:=[]) (capt:=[]) (is:=[]) (R:=[_,_,_,_,_,_]) rfl rfl rfl rfl rfl Try.call34 rfl (rgood_spec _ _ _ _ _ _ _ _) ?_
 intro y16 hy16
 clear y16 hy16
 refine HO_not rfl rfl rfl ?_
 refine HO_nil ?_
 refine H_env (ρ':=[(17,_),(7,_),(6,_),(5,_),(3,_),(1,_)]) ⟨rfl,rfl,rfl,rfl,rfl,rfl,trivial⟩ ?_
 refine H_cond rfl ?_ ?_
 ·intro h17
  replace h17:=nT h17
  refine H_seq ?_
  refine H_region (l:=[_,_,_,_]) rfl ?_
  refine HO_loadA (i:=3) (us:=[]) (cs:=[_,_]) (ts:=[]) rfl rfl rfl Try.isAgg34 Try.sizeOf34 rfl (.loc _ _ _) rfl rfl rfl rfl ?_
  refine HO_build (xo:=[(0,_)]) (vs:=[_]) rfl rfl rfl rfl (bd38_0_i) ?_
  refine HO_store (i:=1) (j:=0) (us:=[]) (old:=[_,_]) (ts:=[]) (cs:=[_,_]) (R:=[_,_,_,_,_]) (new:=[_,_]) rfl rfl rfl Try.sizeOf34 rfl (by simp [Value.oneCell']) rfl rfl rfl rfl rfl rfl ?_
  refine HO_store (i:=1) (j:=0) (us:=[]) (old:=[_,_,_,_,_]) (ts:=[]) (cs:=[_,_,_,_,_]) (R:=[_,_,_,_,_]) (new:=[_,_,_,_,_]) rfl rfl rfl Try.sizeOf38 rfl (by simp [Value.oneCell']) rfl rfl rfl rfl rfl rfl ?_
  refine HO_nil ?_
  refine H_env (ρ':=[(7,_),(6,_)]) ⟨rfl,rfl,trivial⟩ ?_
  refine H_world (kp [yy,yy,nn,nn,yy,yy] [_,_,_,_] rfl) ?_
  refine H_nilDat kPair ?_
  have hap : (Mod.apply ps ss ix (⟨ki,cs,sq,ke,ol,cv,ti,li⟩ : Cmd)) = _:=Mod.ap_bad h17
  refine H_ret2 Try.results18 (.cell rfl (fun w hA => run_loadVarA (cs:=[_,_]) (Try.isAgg34 w) (Try.sizeOf34 w) (Tells.cells (.loc _ _ _) (hA.get (i:=2) rfl)))) (.cell rfl (fun w hA => run_loadVarA (cs:=[_,_,_,_,_]) (Try.isAgg38 w) (Try.sizeOf38 w) (Tells.cells (.loc _ _ _) (hA.get (i:=1) rfl)))) (fun w hA => ⟨((a1,c1),(a2,c2),(none,0)),congrArg Ending.returned ?_,?_,?_⟩)
  ·(first | (rw [hap];done) | (rw [hap];rfl))
  ·trivial
  ·(rw [hap];exact hA.only (is:=[2,3,0]) (Z:=[_,_]) rfl)
 intro h17
 replace h17:=nF h17
 refine H_skip ?_
 refine H_seq ?_
 refine H_region (l:=[_,_,_,_,_,_,_]) rfl ?_
 refine HO_buildSlice0 (kd:=kSess) rfl rfl Try.underlying32 elt106 ?_
 intro g20
 refine HO_fieldAddr (r:=1) rfl rfl rfl Try.underlying34 rfl Try.sizeOf32 rfl ?_
 refine HO_load1 (i:=4) (j:=1) rfl rfl rfl Try.isAgg32 rfl (.loc _ _ _) rfl rfl ?_
 refine HO_append (i:=0) (R:=[_,_,_,_,_,_]) rfl rfl rfl rfl rfl Try.underlying32 elt106 rfl rfl (SrcOk.dat (j:=5) Try.underlying32 rfl) ?_ ?_
 ·(have:=hI.sl;simp only [List.length_nil];omega)
 intro a23 c23
 refine HO_build (xo:=[(0,_)]) (vs:=[_]) rfl rfl rfl rfl (bd98_0_s) ?_
 refine HO_box (cs:=[_]) rfl rfl rfl rfl ?_
 intro g25
 refine HO_assign rfl rfl rfl ?_
 refine HO_nil ?_
 refine H_env (ρ':=[(8,_),(7,_),(6,_),(5,_),(3,_),(1,_)]) ⟨rfl,rfl,rfl,rfl,rfl,rfl,trivial⟩ ?_
 refine H_seq ?_
 refine H_seq ?_
 simp only [List.nil_append]
 refine H_region (l:=[_,_,_]) rfl ?_
 refine HO_fieldAddr (r:=0) rfl rfl rfl Try.underlying36 rfl Try.sizeOf3 rfl ?_
 refine HO_load1 (i:=4) (j:=0) rfl rfl rfl Try.isAgg3 rfl (.loc _ _ _) rfl rfl ?_
 refine HO_bin rfl rfl rfl rfl bin_eql ?_
 refine HO_nil ?_
 refine H_env (ρ':=[(28,_),(8,_),(7,_),(6,_),(5,_),(3,_),(1,_)]) ⟨rfl,rfl,rfl,rfl,rfl,rfl,rfl,trivial⟩ ?_
 refine H_cond rfl ?_ ?_
 ·intro h28
  replace h28:=dT h28
  refine H_seq ?_
  refine H_seq ?_
  refine H_region (l:=[_,_,_,_,_,_]) rfl ?_
  refine HO_move rfl rfl rfl ?_
  refine HO_nilCheck rfl rfl rfl ?_
  refine HO_fieldAddr (r:=0) rfl rfl rfl Try.underlying98 rfl Try.sizeOf32 rfl ?_
  refine HO_load1 (i:=0) (j:=0) rfl rfl rfl Try.isAgg32 rfl (.loc _ _ _) rfl rfl ?_
  refine HO_bi rfl rfl rfl (bi_len_sl Try.underlying32) ?_
  refine HO_bin rfl rfl rfl rfl bin_geq ?_
  refine HO_nil ?_
  refine H_env (ρ':=[(34,_),(8,_),(7,_),(6,_),(3,_),(1,_)]) ⟨rfl,rfl,rfl,rfl,rfl,rfl,trivial⟩ ?_
  refine H_world (kp [yy,yy,yy,yy,nn,yy,yy,yy] [_,_,_,_,_,_,_] rfl) ?_
  refine H_cond rfl ?_ ?_
  ·intro h34
   replace h34:=dT h34
   refine H_seq ?_
   refine H_region (l:=[_,_,_,_]) rfl ?_
   refine HO_loadA (i:=4) (us:=[]) (cs:=[_,_]) (ts:=[]) rfl rfl rfl Try.isAgg34 Try.sizeOf34 rfl (.loc _ _ _) rfl rfl rfl rfl ?_
   refine HO_build (xo:=[(0,_)]) (vs:=[_]) rfl rfl rfl rfl (bd38_0_i) ?_
   refine HO_store (i:=3) (j:=0) (us:=[]) (old:=[_,_]) (ts:=[]) (cs:=[_,_]) (R:=[_,_,_,_,_,_]) (new:=[_,_]) rfl rfl rfl Try.sizeOf34 rfl (by simp [Value.oneCell']) rfl rfl rfl rfl rfl rfl ?_
   refine HO_store (i:=3) (j:=0) (us:=[]) (old:=[_,_,_,_,_]) (ts:=[]) (cs:=[_,_,_,_,_]) (R:=[_,_,_,_,_,_]) (new:=[_,_,_,_,_]) rfl rfl rfl Try.sizeOf38 rfl (by simp [Value.oneCell']) rfl rfl rfl rfl rfl rfl ?_
   refine HO_nil ?_
   refine H_env (ρ':=[(7,_),(6,_)]) ⟨rfl,rfl,trivial⟩ ?_
   refine H_world (kp [yy,yy,nn,nn,nn,yy,yy] [_,_,_,_] rfl) ?_
   refine H_nilDat kPair ?_
   have hap : (Mod.apply ps ss ix (⟨ki,cs,sq,ke,ol,cv,ti,li⟩ : Cmd)) = _:=Mod.rap_full (c:=(⟨ki,cs,sq,ke,ol,cv,ti,li⟩ : Cmd)) h17 h28 (by omega)
   refine H_ret2 Try.results18 (.cell rfl (fun w hA => run_loadVarA (cs:=[_,_]) (Try.isAgg34 w) (Try.sizeOf34 w) (Tells.cells (.loc _ _ _) (hA.get (i:=2) rfl)))) (.cell rfl (fun w hA => run_loadVarA (cs:=[_,_,_,_,_]) (Try.isAgg38 w) (Try.sizeOf38 w) (Tells.cells (.loc _ _ _) (hA.get (i:=1) rfl)))) (fun w hA => ⟨((a1,c1),(a2,c2),(none,0)),congrArg Ending.returned ?_,?_,?_⟩)
   ·(first | (rw [hap];done) | (rw [hap];rfl))
   ·trivial
   ·(rw [hap];exact hA.only (is:=[2,3,0]) (Z:=[_,_]) rfl)
  intro h34
  replace h34:=dF h34
  refine H_skip ?_
  refine H_seq ?_
  refine H_seq ?_
  refine H_region (l:=[_,_,_,_]) rfl ?_
  iterate 2 refine HO_move rfl rfl rfl ?_
  refine HO_freeze (i:=1) (R:=[_,_,_,_,_,_]) rfl hMn ?_
  refine HO_dup (i:=0) rfl rfl ?_
  refine HO_call (first:=[]) (capt:=[]) (is:=[1,0]) (R:=[_,_,_,_,_,_]) rfl rfl rfl rfl rfl Try.call49 rfl (ropen_spec _ _ _ _ _ ?_ ?_ ?_ ?_) ?_
  ·exact hI.ss
  ·exact hI.sl
  ·omega
  ·exact rx
  intro y39 hy39
  refine HO_assign rfl rfl rfl ?_
  refine HO_nil ?_
  refine H_env (ρ':=[(9,_),(8,_),(7,_),(6,_),(3,_),(1,_)]) ⟨rfl,rfl,rfl,rfl,rfl,rfl,trivial⟩ ?_
  refine H_world (kp [yy,yy,nn,yy,yy,yy,yy,yy] [_,_,_,_,_,_,_] rfl) ?_
  refine H_seq ?_
  refine H_region (l:=[_,_]) rfl ?_
  refine HO_move rfl rfl rfl ?_
  refine HO_bin rfl rfl rfl rfl bin_neq ?_
  refine HO_nil ?_
  refine H_env (ρ':=[(41,_),(9,_),(8,_),(7,_),(6,_),(3,_),(1,_)]) ⟨rfl,rfl,rfl,rfl,rfl,rfl,rfl,trivial⟩ ?_
  refine H_cond rfl ?_ ?_
  ·intro h41
   replace h41:=dT h41
   refine H_seq ?_
   refine H_region (l:=[_,_,_,_,_]) rfl ?_
   refine HO_loadA (i:=4) (us:=[]) (cs:=[_,_]) (ts:=[]) rfl rfl rfl Try.isAgg34 Try.sizeOf34 rfl (.loc _ _ _) rfl rfl rfl rfl ?_
   refine HO_move rfl rfl rfl ?_
   refine HO_build (xo:=[(0,_)]) (vs:=[_]) rfl rfl rfl rfl (bd38_0_i) ?_
   refine HO_store (i:=3) (j:=0) (us:=[]) (old:=[_,_]) (ts:=[]) (cs:=[_,_]) (R:=[_,_,_,_,_,_]) (new:=[_,_]) rfl rfl rfl Try.sizeOf34 rfl (by simp [Value.oneCell']) rfl rfl rfl rfl rfl rfl ?_
   refine HO_store (i:=3) (j:=0) (us:=[]) (old:=[_,_,_,_,_]) (ts:=[]) (cs:=[_,_,_,_,_]) (R:=[_,_,_,_,_,_]) (new:=[_,_,_,_,_]) rfl rfl rfl Try.sizeOf38 rfl (by simp [Value.oneCell']) rfl rfl rfl rfl rfl rfl ?_
   refine HO_nil ?_
   refine H_env (ρ':=[(7,_),(6,_)]) ⟨rfl,rfl,trivial⟩ ?_
   refine H_world (kp [yy,yy,nn,nn,nn,yy,yy] [_,_,_,_] rfl) ?_
   refine H_nilDat kPair ?_
   have hap : (Mod.apply ps ss ix (⟨ki,cs,sq,ke,ol,cv,ti,li⟩ : Cmd)) = _:=Mod.rap_err (c:=(⟨ki,cs,sq,ke,ol,cv,ti,li⟩ : Cmd)) h17 h28 h41
   refine H_ret2 Try.results18 (.cell rfl (fun w hA => run_loadVarA (cs:=[_,_]) (Try.isAgg34 w) (Try.sizeOf34 w) (Tells.cells (.loc _ _ _) (hA.get (i:=2) rfl)))) (.cell rfl (fun w hA => run_loadVarA (cs:=[_,_,_,_,_]) (Try.isAgg38 w) (Try.sizeOf38 w) (Tells.cells (.loc _ _ _) (hA.get (i:=1) rfl)))) (fun w hA => ⟨((a1,c1),(a2,c2),(none,0)),congrArg Ending.returned ?_,?_,?_⟩)
   ·(first | (rw [hap];done) | (rw [hap];rfl))
   ·trivial
   ·(rw [hap];exact hA.only (is:=[2,3,0]) (Z:=[_,_]) rfl)
  intro h41
  replace h41:=dF h41
  refine H_skip ?_
  refine H_seq ?_
  refine H_drawB (m:=[yy,yy,nn,nn,yy,yy,yy]) (Xs:=[_,_,_,_,_]) (fuel:=11) (l:=#[false,false,false,false,false,false,false,false,false,false,false]) mixed rfl rfl rfl ?_
  refine HA_take (i:=0) bp rfl rfl rfl rfl (by kernel_rfl) rfl (V_fieldAddr (r:=0) rfl Try.underlying34 rfl Try.sizeOf31 rfl) (kp [yy,yy,nn,nn,yy,yy,yy] [_,_,_,_,_] rfl) ?_
  refine HA_take (i:=1) bp rfl rfl rfl rfl (by kernel_rfl) rfl (V_load1 (i:=2) (j:=0) rfl Try.isAgg31 rfl (.loc _ _ _) rfl rfl) (kp [yy,yy,nn,nn,yy,yy,yy] [_,_,_,_,_] rfl) ?_
  refine HA_take (i:=2) bp rfl rfl rfl rfl (by kernel_rfl) rfl (V_move rfl) (kp [yy,yy,nn,nn,yy,yy,yy] [_,_,_,_,_] rfl) ?_
  refine HA_take (i:=3) bp rfl rfl rfl rfl (by kernel_rfl) rfl (V_nilCheck rfl) (kp [yy,yy,nn,nn,yy,yy,yy] [_,_,_,_,_] rfl) ?_
  refine HA_take (i:=4) bp rfl rfl rfl rfl (by kernel_rfl) rfl (V_fieldAddr (r:=0) rfl Try.underlying98 rfl Try.sizeOf32 rfl) (kp [yy,yy,nn,nn,yy,yy,yy] [_,_,_,_,_] rfl) ?_
  refine HA_take (i:=5) bp rfl rfl rfl rfl (by kernel_rfl) rfl (V_load1 (i:=0) (j:=0) rfl Try.isAgg32 rfl (.loc _ _ _) rfl rfl) (kp [yy,yy,nn,nn,yy,yy,yy] [_,_,_,_,_] rfl) ?_
  refine HA_take (i:=6) bp rfl rfl rfl rfl (by kernel_rfl) rfl (V_build (xo:=[(0,_),(1,_)]) (vs:=[_,_]) rfl rfl (bd34_0_1_ss)) (kp [yy,yy,nn,nn,yy,yy,yy] [_,_,_,_,_] rfl) ?_
  refine HA_take (i:=7) bp rfl rfl rfl rfl (by kernel_rfl) rfl (V_move rfl) (kp [yy,yy,nn,nn,yy,yy,yy] [_,_,_,_,_] rfl) ?_
  refine HA_take (i:=8) bp rfl rfl rfl rfl (by kernel_rfl) rfl (V_build (xo:=[(3,_)]) (vs:=[_]) rfl rfl (bd38_3_i)) (kp [yy,yy,nn,nn,yy,yy,yy] [_,_,_,_,_] rfl) ?_
  refine HA_loud1 (i:=9) (by kernel_rfl) rfl ?_
  refine HO_store (i:=3) (j:=0) (us:=[]) (old:=[_,_]) (ts:=[]) (cs:=[_,_]) (R:=[_,_,_,_,_,_]) (new:=[_,_]) rfl rfl rfl Try.sizeOf34 rfl (by simp [Value.oneCell']) rfl rfl rfl rfl rfl rfl ?_
  refine HA_back rfl (kp [nn,yy,yy,nn,yy,yy,yy] [_,_,_,_,_] rfl) ?_
  refine HA_loud1 (i:=10) (by kernel_rfl) rfl ?_
  refine HO_store (i:=3) (j:=0) (us:=[]) (old:=[_,_,_,_,_]) (ts:=[]) (cs:=[_,_,_,_,_]) (R:=[_,_,_,_,_,_]) (new:=[_,_,_,_,_]) rfl rfl rfl Try.sizeOf38 rfl (by simp [Value.oneCell']) rfl rfl rfl rfl rfl rfl ?_
  refine HA_back rfl (kp [nn,nn,yy,yy,yy,yy,yy] [_,_,_,_,_] rfl) ?_
  refine HA_done (by kernel_rfl) ?_
  refine H_env (ρ':=[(7,_),(6,_)]) ⟨rfl,rfl,trivial⟩ ?_
  refine H_world (kp [yy,yy,nn,yy,nn,yy,nn] [_,_,_,_] rfl) ?_
  refine H_nilDat kPair ?_
  have hap : (Mod.apply ps ss ix (⟨ki,cs,sq,ke,ol,cv,ti,li⟩ : Cmd)) = _:=Mod.rap_ok (c:=(⟨ki,cs,sq,ke,ol,cv,ti,li⟩ : Cmd)) h17 h28 (Decidable.not_not.1 h41)
  refine H_ret2 Try.results18 (.cell rfl (fun w hA => run_loadVarA (cs:=[_,_]) (Try.isAgg34 w) (Try.sizeOf34 w) (Tells.cells (.loc _ _ _) (hA.get (i:=2) rfl)))) (.cell rfl (fun w hA => run_loadVarA (cs:=[_,_,_,_,_]) (Try.isAgg38 w) (Try.sizeOf38 w) (Tells.cells (.loc _ _ _) (hA.get (i:=1) rfl)))) (fun w hA => ⟨((a1,c1),y39,(none,0)),congrArg Ending.returned ?_,?_,?_⟩)
  ·(first | (rw [hap];done) | (rw [hap];rfl))
  ·trivial
  ·(rw [hap];exact hA.only (is:=[2,2,0]) (Z:=[_,_]) rfl)
 intro h28
 replace h28:=dF h28
 refine H_skip ?_
 refine H_seq ?_
 refine H_seq ?_
 refine H_region (l:=[_,_,_]) rfl ?_
 refine HO_fieldAddr (r:=0) rfl rfl rfl Try.underlying36 rfl Try.sizeOf3 rfl ?_
 refine HO_load1 (i:=4) (j:=0) rfl rfl rfl Try.isAgg3 rfl (.loc _ _ _) rfl rfl ?_
 refine HO_bin rfl rfl rfl rfl bin_eql ?_
 refine HO_nil ?_
 refine H_env (ρ':=[(56,_),(8,_),(7,_),(6,_),(5,_),(3,_)]) ⟨rfl,rfl,rfl,rfl,rfl,rfl,trivial⟩ ?_
 refine H_cond rfl ?_ ?_
 ·intro h56
  replace h56:=dT h56
  refine H_seq ?_
  refine H_seq ?_
  refine H_region (l:=[_,_,_,_,_]) rfl ?_
  refine HO_move rfl rfl rfl ?_
  refine HO_fieldAddr (r:=1) rfl rfl rfl Try.underlying36 rfl Try.sizeOf3 rfl ?_
  refine HO_load1 (i:=4) (j:=1) rfl rfl rfl Try.isAgg3 rfl (.loc _ _ _) rfl rfl ?_
  refine HO_freeze (i:=1) (R:=[_,_,_,_,_,_,_]) rfl hMn ?_
  refine HO_dup (i:=0) rfl rfl ?_
  refine HO_call (first:=[]) (capt:=[]) (is:=[1,0]) (R:=[_,_,_,_,_,_,_]) rfl rfl rfl rfl rfl Try.call50 rfl (rexpire_spec _ _ _ _ _ ?_ ?_) ?_
  ·exact hI.ss
  ·exact hI.sl
  intro y60 hy60
  refine HO_assign rfl rfl rfl ?_
  refine HO_nil ?_
  refine H_env (ρ':=[(10,_),(8,_),(7,_),(6,_),(3,_)]) ⟨rfl,rfl,rfl,rfl,rfl,trivial⟩ ?_
  refine H_world (kp [yy,yy,nn,yy,yy,nn,yy,yy,yy] [_,_,_,_,_,_,_] rfl) ?_
  refine H_seq ?_
  refine H_region (l:=[_,_]) rfl ?_
  refine HO_move rfl rfl rfl ?_
  refine HO_bin rfl rfl rfl rfl bin_neq ?_
  refine HO_nil ?_
  refine H_env (ρ':=[(62,_),(10,_),(8,_),(7,_),(6,_),(3,_)]) ⟨rfl,rfl,rfl,rfl,rfl,rfl,trivial⟩ ?_
  refine H_cond rfl ?_ ?_
  ·intro h62
   replace h62:=dT h62
   refine H_seq ?_
   have hf:=Mod.exp_no h62
   simp only [if_neg (show ¬ soInt.found Sess.id cs ss = true by rw [hf];decide)]
   refine H_region (l:=[_,_,_,_,_]) rfl ?_
   refine HO_loadA (i:=4) (us:=[]) (cs:=[_,_]) (ts:=[]) rfl rfl rfl Try.isAgg34 Try.sizeOf34 rfl (.loc _ _ _) rfl rfl rfl rfl ?_
   refine HO_move rfl rfl rfl ?_
   refine HO_build (xo:=[(0,_)]) (vs:=[_]) rfl rfl rfl rfl (bd38_0_i) ?_
   refine HO_store (i:=3) (j:=0) (us:=[]) (old:=[_,_]) (ts:=[]) (cs:=[_,_]) (R:=[_,_,_,_,_,_]) (new:=[_,_]) rfl rfl rfl Try.sizeOf34 rfl (by simp [Value.oneCell']) rfl rfl rfl rfl rfl rfl ?_
   refine HO_store (i:=3) (j:=0) (us:=[]) (old:=[_,_,_,_,_]) (ts:=[]) (cs:=[_,_,_,_,_]) (R:=[_,_,_,_,_,_]) (new:=[_,_,_,_,_]) rfl rfl rfl Try.sizeOf38 rfl (by simp [Value.oneCell']) rfl rfl rfl rfl rfl rfl ?_
   refine HO_nil ?_
   refine H_env (ρ':=[(7,_),(6,_)]) ⟨rfl,rfl,trivial⟩ ?_
   refine H_world (kp [yy,yy,nn,nn,nn,yy,yy] [_,_,_,_] rfl) ?_
   refine H_nilDat kPair ?_
   have hap : (Mod.apply ps ss ix (⟨ki,cs,sq,ke,ol,cv,ti,li⟩ : Cmd)) = _:=Mod.rap_none (c:=(⟨ki,cs,sq,ke,ol,cv,ti,li⟩ : Cmd)) h17 h56 hf
   refine H_ret2 Try.results18 (.cell rfl (fun w hA => run_loadVarA (cs:=[_,_]) (Try.isAgg34 w) (Try.sizeOf34 w) (Tells.cells (.loc _ _ _) (hA.get (i:=2) rfl)))) (.cell rfl (fun w hA => run_loadVarA (cs:=[_,_,_,_,_]) (Try.isAgg38 w) (Try.sizeOf38 w) (Tells.cells (.loc _ _ _) (hA.get (i:=1) rfl)))) (fun w hA => ⟨((a1,c1),(a2,c2),(none,0)),congrArg Ending.returned ?_,?_,?_⟩)
   ·(first | (rw [hap];done) | (rw [hap];rfl))
   ·trivial
   ·(rw [hap];exact hA.only (is:=[2,3,0]) (Z:=[_,_]) rfl)
  intro h62
  replace h62:=dF h62
  refine H_skip ?_
  refine H_seq ?_
  have hf:=Mod.exp_yes (Decidable.not_not.1 h62)
  simp only [if_pos hf]
  refine H_drawB (m:=[yy,yy,nn,nn,yy,yy,yy]) (Xs:=[_,_,_,_,_]) (fuel:=10) (l:=#[false,false,false,false,false,false,false,false,false,false]) mixed rfl rfl rfl ?_
  refine HA_take (i:=0) bp rfl rfl rfl rfl (by kernel_rfl) rfl (V_fieldAddr (r:=0) rfl Try.underlying34 rfl Try.sizeOf31 rfl) (kp [yy,yy,nn,nn,yy,yy,yy] [_,_,_,_,_] rfl) ?_
  refine HA_take (i:=1) bp rfl rfl rfl rfl (by kernel_rfl) rfl (V_load1 (i:=2) (j:=0) rfl Try.isAgg31 rfl (.loc _ _ _) rfl rfl) (kp [yy,yy,nn,nn,yy,yy,yy] [_,_,_,_,_] rfl) ?_
  refine HA_take (i:=2) bp rfl rfl rfl rfl (by kernel_rfl) rfl (V_move rfl) (kp [yy,yy,nn,nn,yy,yy,yy] [_,_,_,_,_] rfl) ?_
  refine HA_take (i:=3) bp rfl rfl rfl rfl (by kernel_rfl) rfl (V_nilCheck rfl) (kp [yy,yy,nn,nn,yy,yy,yy] [_,_,_,_,_] rfl) ?_
  refine HA_take (i:=4) bp rfl rfl rfl rfl (by kernel_rfl) rfl (V_fieldAddr (r:=0) rfl Try.underlying98 rfl Try.sizeOf32 rfl) (kp [yy,yy,nn,nn,yy,yy,yy] [_,_,_,_,_] rfl) ?_
  refine HA_take (i:=5) bp rfl rfl rfl rfl (by kernel_rfl) rfl (V_load1 (i:=0) (j:=0) rfl Try.isAgg32 rfl (.loc _ _ _) rfl rfl) (kp [yy,yy,nn,nn,yy,yy,yy] [_,_,_,_,_] rfl) ?_
  refine HA_take (i:=6) bp rfl rfl rfl rfl (by kernel_rfl) rfl (V_build (xo:=[(0,_),(1,_)]) (vs:=[_,_]) rfl rfl (bd34_0_1_ss)) (kp [yy,yy,nn,nn,yy,yy,yy] [_,_,_,_,_] rfl) ?_
  refine HA_take (i:=7) bp rfl rfl rfl rfl (by kernel_rfl) rfl (V_build (xo:=[]) (vs:=[]) rfl rfl (bd38__)) (kp [yy,yy,nn,nn,yy,yy,yy] [_,_,_,_,_] rfl) ?_
  refine HA_loud1 (i:=8) (by kernel_rfl) rfl ?_
  refine HO_store (i:=3) (j:=0) (us:=[]) (old:=[_,_]) (ts:=[]) (cs:=[_,_]) (R:=[_,_,_,_,_,_]) (new:=[_,_]) rfl rfl rfl Try.sizeOf34 rfl (by simp [Value.oneCell']) rfl rfl rfl rfl rfl rfl ?_
  refine HA_back rfl (kp [nn,yy,yy,nn,yy,yy,yy] [_,_,_,_,_] rfl) ?_
  refine HA_loud1 (i:=9) (by kernel_rfl) rfl ?_
  refine HO_store (i:=3) (j:=0) (us:=[]) (old:=[_,_,_,_,_]) (ts:=[]) (cs:=[_,_,_,_,_]) (R:=[_,_,_,_,_,_]) (new:=[_,_,_,_,_]) rfl rfl rfl Try.sizeOf38 rfl (by simp [Value.oneCell']) rfl rfl rfl rfl rfl rfl ?_
  refine HA_back rfl (kp [nn,nn,yy,yy,yy,yy,yy] [_,_,_,_,_] rfl) ?_
  refine HA_done (by kernel_rfl) ?_
  refine H_env (ρ':=[(7,_),(6,_)]) ⟨rfl,rfl,trivial⟩ ?_
  refine H_world (kp [yy,yy,nn,yy,nn,yy,nn] [_,_,_,_] rfl) ?_
  refine H_nilDat kPair ?_
  have hap : (Mod.apply ps ss ix (⟨ki,cs,sq,ke,ol,cv,ti,li⟩ : Cmd)) = _:=Mod.rap_end (c:=(⟨ki,cs,sq,ke,ol,cv,ti,li⟩ : Cmd)) h17 h56 hf
  refine H_ret2 Try.results18 (.cell rfl (fun w hA => run_loadVarA (cs:=[_,_]) (Try.isAgg34 w) (Try.sizeOf34 w) (Tells.cells (.loc _ _ _) (hA.get (i:=2) rfl)))) (.cell rfl (fun w hA => run_loadVarA (cs:=[_,_,_,_,_]) (Try.isAgg38 w) (Try.sizeOf38 w) (Tells.cells (.loc _ _ _) (hA.get (i:=1) rfl)))) (fun w hA => ⟨((a1,c1),y60,(none,0)),congrArg Ending.returned ?_,?_,?_⟩)
  ·(first | (rw [hap];done) | (rw [hap];rfl))
  ·trivial
  ·(rw [hap];exact hA.only (is:=[2,2,0]) (Z:=[_,_]) rfl)
 intro h56
 replace h56:=dF h56
 refine H_skip ?_
 refine H_seq ?_
 rcases (Mod.ask_cases ss cs sq) with hc | hc
 ·skip
  refine H_region (l:=[_,_,_,_,_,_,_,_,_,_,_,_]) rfl ?_
  refine HO_move rfl rfl rfl ?_
  refine HO_fieldAddr (r:=1) rfl rfl rfl Try.underlying36 rfl Try.sizeOf3 rfl ?_
  refine HO_load1 (i:=4) (j:=1) rfl rfl rfl Try.isAgg3 rfl (.loc _ _ _) rfl rfl ?_
  refine HO_fieldAddr (r:=2) rfl rfl rfl Try.underlying36 rfl Try.sizeOf3 rfl ?_
  refine HO_load1 (i:=4) (j:=2) rfl rfl rfl Try.isAgg3 rfl (.loc _ _ _) rfl rfl ?_
  refine HO_freeze (i:=1) (R:=[_,_,_,_,_,_,_]) rfl hMn ?_
  refine HO_dup (i:=0) rfl rfl ?_
  refine HO_call (first:=[]) (capt:=[]) (is:=[1,0]) (R:=[_,_,_,_,_,_,_]) rfl rfl rfl rfl rfl Try.call51 rfl (rask0_spec _ _ _ _ _ _ ?_ ?_ ?_) ?_
  ·exact hI.ss
  ·exact Mod.good_seq (c:=(⟨ki,cs,sq,ke,ol,cv,ti,li⟩ : Cmd)) h17 h28 h56
  ·exact hc
  intro y80 hy80
  refine HO_move rfl rfl rfl ?_
  refine HO_extract (vs:=[_,_]) rfl rfl rfl rfl ?_
  refine HO_extract (vs:=[_,_]) rfl rfl rfl rfl ?_
  refine HO_alloc (cs:=[_,_,_,_,_]) rfl rfl Try.zeroValue38 rfl ?_
  intro g11
  refine HO_store (i:=0) (j:=0) (us:=[]) (old:=[_,_,_,_,_]) (ts:=[]) (cs:=[_,_,_,_,_]) (R:=[_,_,_,_,_,_,_,_,_]) (new:=[_,_,_,_,_]) rfl rfl rfl Try.sizeOf38 rfl (by simp [Value.oneCell']) rfl rfl rfl rfl rfl rfl ?_
  refine HO_assign rfl rfl rfl ?_
  refine HO_nil ?_
  refine H_env (ρ':=[(12,_),(11,_),(8,_),(7,_),(6,_),(5,_),(3,_)]) ⟨rfl,rfl,rfl,rfl,rfl,rfl,rfl,trivial⟩ ?_
  refine H_seq ?_
  refine H_seq ?_
  refine H_region (l:=[_,_]) rfl ?_
  refine HO_move rfl rfl rfl ?_
  refine HO_bin rfl rfl rfl rfl bin_eql ?_
  refine HO_nil ?_
  refine H_env (ρ':=[(84,_),(12,_),(11,_),(8,_),(7,_),(6,_),(5,_),(3,_)]) ⟨rfl,rfl,rfl,rfl,rfl,rfl,rfl,rfl,trivial⟩ ?_
  refine H_cond rfl ?_ ?_
  ·intro h84
   replace h84:=dT h84
   refine H_seq ?_
   refine H_drawB (m:=[yy,yy,yy,yy,nn,nn,yy,yy,yy,yy]) (Xs:=[_,_,_,_,_,_,_,_]) (fuel:=4) (l:=#[false,false,false,false]) mixed rfl rfl rfl ?_
   refine HA_take (i:=0) bp rfl rfl rfl rfl (by kernel_rfl) rfl (V_loadA (i:=5) (us:=[]) (cs:=[_,_]) (ts:=[]) rfl Try.isAgg34 Try.sizeOf34 rfl (.loc _ _ _) rfl rfl rfl rfl) (kp [yy,yy,yy,yy,nn,nn,yy,yy,yy,yy] [_,_,_,_,_,_,_,_] rfl) ?_
   refine HA_take (i:=1) bp rfl rfl rfl rfl (by kernel_rfl) rfl (V_loadA (i:=0) (us:=[]) (cs:=[_,_,_,_,_]) (ts:=[]) rfl Try.isAgg38 Try.sizeOf38 rfl (.loc _ _ _) rfl rfl rfl rfl) (kp [yy,yy,yy,yy,nn,nn,yy,yy,yy,yy] [_,_,_,_,_,_,_,_] rfl) ?_
   refine HA_loud1 (i:=2) (by kernel_rfl) rfl ?_
   refine HO_store (i:=5) (j:=0) (us:=[]) (old:=[_,_]) (ts:=[]) (cs:=[_,_]) (R:=[_,_,_,_,_,_,_,_,_]) (new:=[_,_]) rfl rfl rfl Try.sizeOf34 rfl (by simp [Value.oneCell']) rfl rfl rfl rfl rfl rfl ?_
   refine HA_back rfl (kp [nn,yy,yy,yy,yy,nn,yy,yy,yy,yy] [_,_,_,_,_,_,_,_] rfl) ?_
   refine HA_loud1 (i:=3) (by kernel_rfl) rfl ?_
   refine HO_store (i:=5) (j:=0) (us:=[]) (old:=[_,_,_,_,_]) (ts:=[]) (cs:=[_,_,_,_,_]) (R:=[_,_,_,_,_,_,_,_,_]) (new:=[_,_,_,_,_]) rfl rfl rfl Try.sizeOf38 rfl (by simp [Value.oneCell']) rfl rfl rfl rfl rfl rfl ?_
   refine HA_back rfl (kp [nn,nn,yy,yy,yy,yy,yy,yy,yy,yy] [_,_,_,_,_,_,_,_] rfl) ?_
   refine HA_done (by kernel_rfl) ?_
   refine H_env (ρ':=[(7,_),(6,_)]) ⟨rfl,rfl,trivial⟩ ?_
   refine H_world (kp [yy,yy,nn,nn,yy,nn,nn,nn,yy,yy] [_,_,_,_,_] rfl) ?_
   have hap : (Mod.apply ps ss ix (⟨ki,cs,sq,ke,ol,cv,ti,li⟩ : Cmd)) = _:=Mod.rap_same (c:=(⟨ki,cs,sq,ke,ol,cv,ti,li⟩ : Cmd)) h17 h28 h56 hc
   refine H_ret2 Try.results18 (.cell rfl (fun w hA => run_loadVarA (cs:=[_,_]) (Try.isAgg34 w) (Try.sizeOf34 w) (Tells.cells (.loc _ _ _) (hA.get (i:=1) rfl)))) (.cell rfl (fun w hA => run_loadVarA (cs:=[_,_,_,_,_]) (Try.isAgg38 w) (Try.sizeOf38 w) (Tells.cells (.loc _ _ _) (hA.get (i:=0) rfl)))) (fun w hA => ⟨((a1,c1),(a2,c2),y80),congrArg Ending.returned ?_,?_,?_⟩)
   ·(first | (rw [hap];done) | (rw [hap];rfl))
   ·trivial
   ·(rw [hap];exact hA.only (is:=[2,3,2]) (Z:=[_,_]) rfl)
  intro h84
  replace h84:=dF h84
  (exact absurd rfl h84)
 ·skip
  refine H_region (l:=[_,_,_,_,_,_,_,_,_,_,_,_]) rfl ?_
  refine HO_move rfl rfl rfl ?_
  refine HO_fieldAddr (r:=1) rfl rfl rfl Try.underlying36 rfl Try.sizeOf3 rfl ?_
  refine HO_load1 (i:=4) (j:=1) rfl rfl rfl Try.isAgg3 rfl (.loc _ _ _) rfl rfl ?_
  refine HO_fieldAddr (r:=2) rfl rfl rfl Try.underlying36 rfl Try.sizeOf3 rfl ?_
  refine HO_load1 (i:=4) (j:=2) rfl rfl rfl Try.isAgg3 rfl (.loc _ _ _) rfl rfl ?_
  refine HO_call (first:=[]) (capt:=[]) (is:=[0,1]) (R:=[_,_,_,_,_,_]) rfl rfl rfl rfl rfl Try.call51 rfl (Spec.lend (pre1:=[_]) (pre2:=[]) (rask_spec _ _ _ _ _ _ ?_ ?_ ?_) rfl (by intro y at' ha;obtain rfl:=List.mem_singleton.1 ha;first | exact Atom.Flat.own kByte_plain _ _ _ _ | exact Atom.Flat.own kInt_plain _ _ _ _ | exact Atom.Flat.own kStr_plain _ _ _ _ | exact Atom.Flat.loc _ _ _)) ?_
  ·exact hI.ss
  ·exact Mod.good_seq (c:=(⟨ki,cs,sq,ke,ol,cv,ti,li⟩ : Cmd)) h17 h28 h56
  ·exact hc
  intro y80 hy80
  clear y80 hy80
  refine HO_move rfl rfl rfl ?_
  refine HO_extract (vs:=[_,_]) rfl rfl rfl rfl ?_
  refine HO_extract (vs:=[_,_]) rfl rfl rfl rfl ?_
  refine HO_alloc (cs:=[_,_,_,_,_]) rfl rfl Try.zeroValue38 rfl ?_
  intro g11
  refine HO_store (i:=0) (j:=0) (us:=[]) (old:=[_,_,_,_,_]) (ts:=[]) (cs:=[_,_,_,_,_]) (R:=[_,_,_,_,_,_,_,_]) (new:=[_,_,_,_,_]) rfl rfl rfl Try.sizeOf38 rfl (by simp [Value.oneCell']) rfl rfl rfl rfl rfl rfl ?_
  refine HO_assign rfl rfl rfl ?_
  refine HO_nil ?_
  refine H_env (ρ':=[(12,_),(11,_),(8,_),(7,_),(6,_),(5,_),(3,_)]) ⟨rfl,rfl,rfl,rfl,rfl,rfl,rfl,trivial⟩ ?_
  refine H_seq ?_
  refine H_seq ?_
  refine H_region (l:=[_,_]) rfl ?_
  refine HO_move rfl rfl rfl ?_
  refine HO_bin rfl rfl rfl rfl bin_eql ?_
  refine HO_nil ?_
  refine H_env (ρ':=[(84,_),(12,_),(11,_),(8,_),(7,_),(6,_),(5,_),(3,_)]) ⟨rfl,rfl,rfl,rfl,rfl,rfl,rfl,rfl,trivial⟩ ?_
  refine H_cond rfl ?_ ?_
  ·intro h84
   replace h84:=dT h84
   (exact absurd h84 (Mod.ask_zero hc))
  intro h84
  replace h84:=dF h84
  refine H_skip ?_
  refine H_seq ?_
  refine H_seq ?_
  refine H_region (l:=[_,_]) rfl ?_
  refine HO_move rfl rfl rfl ?_
  refine HO_bin rfl rfl rfl rfl bin_neq ?_
  refine HO_nil ?_
  refine H_env (ρ':=[(88,_),(12,_),(8,_),(7,_),(6,_),(5,_),(3,_)]) ⟨rfl,rfl,rfl,rfl,rfl,rfl,rfl,trivial⟩ ?_
  refine H_world (kp [nn,yy,yy,yy,yy,yy,yy,yy,yy] [_,_,_,_,_,_,_,_] rfl) ?_
  refine H_cond rfl ?_ ?_
  ·intro h88
   replace h88:=dT h88
   refine H_seq ?_
   refine H_region (l:=[_,_,_,_,_]) rfl ?_
   refine HO_loadA (i:=5) (us:=[]) (cs:=[_,_]) (ts:=[]) rfl rfl rfl Try.isAgg34 Try.sizeOf34 rfl (.loc _ _ _) rfl rfl rfl rfl ?_
   refine HO_move rfl rfl rfl ?_
   refine HO_build (xo:=[(0,_)]) (vs:=[_]) rfl rfl rfl rfl (bd38_0_i) ?_
   refine HO_store (i:=3) (j:=0) (us:=[]) (old:=[_,_]) (ts:=[]) (cs:=[_,_]) (R:=[_,_,_,_,_,_,_]) (new:=[_,_]) rfl rfl rfl Try.sizeOf34 rfl (by simp [Value.oneCell']) rfl rfl rfl rfl rfl rfl ?_
   refine HO_store (i:=3) (j:=0) (us:=[]) (old:=[_,_,_,_,_]) (ts:=[]) (cs:=[_,_,_,_,_]) (R:=[_,_,_,_,_,_,_]) (new:=[_,_,_,_,_]) rfl rfl rfl Try.sizeOf38 rfl (by simp [Value.oneCell']) rfl rfl rfl rfl rfl rfl ?_
   refine HO_nil ?_
   refine H_env (ρ':=[(7,_),(6,_)]) ⟨rfl,rfl,trivial⟩ ?_
   refine H_world (kp [yy,yy,nn,nn,nn,nn,yy,yy] [_,_,_,_] rfl) ?_
   refine H_nilDat kPair ?_
   have hap : (Mod.apply ps ss ix (⟨ki,cs,sq,ke,ol,cv,ti,li⟩ : Cmd)) = _:=Mod.ap_ask (c:=(⟨ki,cs,sq,ke,ol,cv,ti,li⟩ : Cmd)) h17 h28 h56 h88 hc
   refine H_ret2 Try.results18 (.cell rfl (fun w hA => run_loadVarA (cs:=[_,_]) (Try.isAgg34 w) (Try.sizeOf34 w) (Tells.cells (.loc _ _ _) (hA.get (i:=2) rfl)))) (.cell rfl (fun w hA => run_loadVarA (cs:=[_,_,_,_,_]) (Try.isAgg38 w) (Try.sizeOf38 w) (Tells.cells (.loc _ _ _) (hA.get (i:=1) rfl)))) (fun w hA => ⟨((a1,c1),(a2,c2),(none,0)),congrArg Ending.returned ?_,?_,?_⟩)
   ·(first | (rw [hap];done) | (rw [hap];rfl))
   ·trivial
   ·(rw [hap];exact hA.only (is:=[2,3,0]) (Z:=[_,_]) rfl)
  intro h88
  replace h88:=dF h88
  refine H_skip ?_
  refine H_seq ?_
  refine H_datAll (i:=6) (J:=fun p => p.key.size≤BIG∧p.val.size≤BIG) rfl (fun _ _ _ _ h => h.1) (fun hsz => ?_)
  have hok:=Mod.doesR_ok (c:=(⟨ki,cs,sq,ke,ol,cv,ti,li⟩ : Cmd)) hsz hI.pl
  refine H_region (l:=[_,_,_,_,_,_,_,_,_,_]) rfl ?_
  refine HO_fieldAddr (r:=0) rfl rfl rfl Try.underlying34 rfl Try.sizeOf31 rfl ?_
  refine HO_load1 (i:=5) (j:=0) rfl rfl rfl Try.isAgg31 rfl (.loc _ _ _) rfl rfl ?_
  refine HO_loadA (i:=4) (us:=[]) (cs:=[_,_,_,_,_,_,_,_]) (ts:=[]) rfl rfl rfl Try.isAgg36 Try.sizeOf36 rfl (.loc _ _ _) rfl rfl rfl rfl ?_
  refine HO_dup (i:=6) rfl rfl ?_
  refine HO_call (first:=[]) (capt:=[]) (is:=[0]) (R:=[_,_,_,_,_,_,_,_]) rfl rfl rfl rfl rfl Try.call52 rfl (rdoes_spec _ _ _ _ _ _ _ _ _ _ _ ?_ ?_ ?_ ?_ ?_) ?_
  ·exact hI.ps
  ·exact hI.pl
  ·exact sk
  ·exact sc
  ·exact fun h7 => Mod.good_lim (c:=(⟨ki,cs,sq,ke,ol,cv,ti,li⟩ : Cmd)) h17 h7
  intro y96 hy96
  refine HO_move rfl rfl rfl ?_
  refine HO_extract (vs:=[_,_]) rfl rfl rfl rfl ?_
  refine HO_extract (vs:=[_,_]) rfl rfl rfl rfl ?_
  refine HO_alloc (cs:=[_,_,_,_,_]) rfl rfl Try.zeroValue38 rfl ?_
  intro g14
  refine HO_assign rfl rfl rfl ?_
  refine HO_store (i:=0) (j:=0) (us:=[]) (old:=[_,_,_,_,_]) (ts:=[]) (cs:=[_,_,_,_,_]) (R:=[_,_,_,_,_,_,_,_,_,_]) (new:=[_,_,_,_,_]) rfl rfl rfl Try.sizeOf38 rfl (by simp [Value.oneCell']) rfl rfl rfl rfl rfl rfl ?_
  refine HO_nil ?_
  refine H_env (ρ':=[(13,_),(14,_),(8,_),(7,_),(6,_),(5,_)]) ⟨rfl,rfl,rfl,rfl,rfl,rfl,trivial⟩ ?_
  refine H_world (kp [yy,yy,yy,yy,yy,yy,yy,yy,nn,nn,nn] [_,_,_,_,_,_,_,_] rfl) ?_
  refine H_seq ?_
  refine H_region (l:=[_,_,_,_,_,_,_]) rfl ?_
  refine HO_move rfl rfl rfl ?_
  refine HO_fieldAddr (r:=1) rfl rfl rfl Try.underlying36 rfl Try.sizeOf3 rfl ?_
  refine HO_load1 (i:=7) (j:=1) rfl rfl rfl Try.isAgg3 rfl (.loc _ _ _) rfl rfl ?_
  refine HO_fieldAddr (r:=2) rfl rfl rfl Try.underlying36 rfl Try.sizeOf3 rfl ?_
  refine HO_load1 (i:=7) (j:=2) rfl rfl rfl Try.isAgg3 rfl (.loc _ _ _) rfl rfl ?_
  refine HO_loadA (i:=0) (us:=[]) (cs:=[_,_,_,_,_]) (ts:=[]) rfl rfl rfl Try.isAgg38 Try.sizeOf38 rfl (.loc _ _ _) rfl rfl rfl rfl ?_
  refine HO_dup (i:=2) rfl rfl ?_
  refine HO_call (first:=[]) (capt:=[]) (is:=[3,3,0]) (R:=[_,_,_,_,_,_]) rfl rfl rfl rfl rfl Try.call53 rfl (rdone_spec _ _ _ _ _ _ _ _ _ _ _ _ _ ?_ ?_ ?_ ?_ ?_ ?_ ?_ ?_) ?_
  ·exact hI.ss
  ·exact (Mod.ap_ask4 (ps:=ps) (ix:=ix) (c:=(⟨ki,cs,sq,ke,ol,cv,ti,li⟩ : Cmd)) h17 h28 h56 (Decidable.not_not.1 h88)).2
  ·exact rc
  ·exact rq
  ·exact hok.e
  ·exact hok.v
  ·exact hok.s
  ·exact hok.p
  intro y105 hy105
  refine HO_nil ?_
  refine H_env (ρ':=[(13,_),(14,_),(8,_),(7,_),(6,_)]) ⟨rfl,rfl,rfl,rfl,rfl,trivial⟩ ?_
  refine H_world (kp [yy,yy,yy,yy,yy,yy,yy,nn] [_,_,_,_,_,_,_] rfl) ?_
  refine H_seq ?_
  refine H_drawB (m:=[yy,yy,yy,yy,yy,nn,nn]) (Xs:=[_,_,_,_,_]) (fuel:=9) (l:=#[false,false,false,false,false,false,false,false,false]) mixed rfl rfl rfl ?_
  refine HA_take (i:=0) bp rfl rfl rfl rfl (by kernel_rfl) rfl (V_move rfl) (kp [yy,yy,yy,yy,yy,nn,nn] [_,_,_,_,_] rfl) ?_
  refine HA_take (i:=1) bp rfl rfl rfl rfl (by kernel_rfl) rfl (V_move rfl) (kp [yy,yy,yy,yy,yy,nn,nn] [_,_,_,_,_] rfl) ?_
  refine HA_take (i:=2) bp rfl rfl rfl rfl (by kernel_rfl) rfl (V_nilCheck rfl) (kp [yy,yy,yy,yy,yy,nn,nn] [_,_,_,_,_] rfl) ?_
  refine HA_take (i:=3) bp rfl rfl rfl rfl (by kernel_rfl) rfl (V_fieldAddr (r:=0) rfl Try.underlying98 rfl Try.sizeOf32 rfl) (kp [yy,yy,yy,yy,yy,nn,nn] [_,_,_,_,_] rfl) ?_
  refine HA_take (i:=4) bp rfl rfl rfl rfl (by kernel_rfl) rfl (V_load1 (i:=0) (j:=0) rfl Try.isAgg32 rfl (.loc _ _ _) rfl rfl) (kp [yy,yy,yy,yy,yy,nn,nn] [_,_,_,_,_] rfl) ?_
  refine HA_take (i:=5) bp rfl rfl rfl rfl (by kernel_rfl) rfl (V_build (xo:=[(0,_),(1,_)]) (vs:=[_,_]) rfl rfl (bd34_0_1_ss)) (kp [yy,yy,yy,yy,yy,nn,nn] [_,_,_,_,_] rfl) ?_
  refine HA_take (i:=6) bp rfl rfl rfl rfl (by kernel_rfl) rfl (V_loadA (i:=2) (us:=[]) (cs:=[_,_,_,_,_]) (ts:=[]) rfl Try.isAgg38 Try.sizeOf38 rfl (.loc _ _ _) rfl rfl rfl rfl) (kp [yy,yy,yy,yy,yy,nn,nn] [_,_,_,_,_] rfl) ?_
  refine HA_loud1 (i:=7) (by kernel_rfl) rfl ?_
  refine HO_store (i:=6) (j:=0) (us:=[]) (old:=[_,_]) (ts:=[]) (cs:=[_,_]) (R:=[_,_,_,_,_,_]) (new:=[_,_]) rfl rfl rfl Try.sizeOf34 rfl (by simp [Value.oneCell']) rfl rfl rfl rfl rfl rfl ?_
  refine HA_back rfl (kp [nn,yy,yy,yy,yy,yy,nn] [_,_,_,_,_] rfl) ?_
  refine HA_loud1 (i:=8) (by kernel_rfl) rfl ?_
  refine HO_store (i:=6) (j:=0) (us:=[]) (old:=[_,_,_,_,_]) (ts:=[]) (cs:=[_,_,_,_,_]) (R:=[_,_,_,_,_,_]) (new:=[_,_,_,_,_]) rfl rfl rfl Try.sizeOf38 rfl (by simp [Value.oneCell']) rfl rfl rfl rfl rfl rfl ?_
  refine HA_back rfl (kp [nn,nn,yy,yy,yy,yy,yy] [_,_,_,_,_] rfl) ?_
  refine HA_done (by kernel_rfl) ?_
  refine H_env (ρ':=[(7,_),(6,_)]) ⟨rfl,rfl,trivial⟩ ?_
  refine H_world (kp [yy,yy,nn,yy,nn,yy,yy] [_,_,_,_,_] rfl) ?_
  refine H_freeze (i:=2) (R:=[_,_,_,_]) rfl hMn ?_
  have hap : (Mod.apply ps ss ix (⟨ki,cs,sq,ke,ol,cv,ti,li⟩ : Cmd)) = _:=(Mod.ap_ask4 (c:=(⟨ki,cs,sq,ke,ol,cv,ti,li⟩ : Cmd)) h17 h28 h56 (Decidable.not_not.1 h88)).1
  refine H_ret2 Try.results18 (.cell rfl (fun w hA => run_loadVarA (cs:=[_,_]) (Try.isAgg34 w) (Try.sizeOf34 w) (Tells.cells (.loc _ _ _) (hA.get (i:=2) rfl)))) (.cell rfl (fun w hA => run_loadVarA (cs:=[_,_,_,_,_]) (Try.isAgg38 w) (Try.sizeOf38 w) (Tells.cells (.loc _ _ _) (hA.get (i:=1) rfl)))) (fun w hA => ⟨(y96.1,y105,y96.2),congrArg Ending.returned ?_,?_,?_⟩)
  ·(first | (rw [hap];done) | (rw [hap];rfl))
  ·trivial
  ·(rw [hap];exact hA.only (is:=[2,0,4]) (Z:=[_,_]) rfl)
theorem rquery_spec (ps : List Pair) (a1 : Option Addr) (c1 : Nat) (a2 : Option Addr) (n2 c2 : Nat) (ki cs sq : Int) (ke ol cv ti : ByteArray) (li : Int) (hs : soStr.Srt Pair.key ps) (hl : ps.length≤2000) (sk : ke.size≤BIG) (sc : cv.size≤BIG) : Spec Try.prog 20 #[.agg #[.slice a1 (ps.length) c1,.slice a2 (n2) c2],.agg #[.int .i64 (ki),.int .i64 (cs),.int .i64 (sq),.string (ke),.string (ol),.string (cv),.string (ti),.int .i64 (li)]] [.dat kPair.sl (ps) [.slice a1 (ps.length) c1]] (β:=Option Addr × Nat) (fun y => .agg #[.int .i64 ((Mod.query ps (⟨ki,cs,sq,ke,ol,cv,ti,li⟩ : Cmd)).err),.bool ((Mod.query ps (⟨ki,cs,sq,ke,ol,cv,ti,li⟩ : Cmd)).found),.string ((Mod.query ps (⟨ki,cs,sq,ke,ol,cv,ti,li⟩ : Cmd)).val),.int .i64 ((Mod.query ps (⟨ki,cs,sq,ke,ol,cv,ti,li⟩ : Cmd)).sess),.slice y.1 (((Mod.query ps (⟨ki,cs,sq,ke,ol,cv,ti,li⟩ : Cmd)).pairs).length) y.2]) (fun y => True) (fun y => [.dat kPair.sl ((Mod.query ps (⟨ki,cs,sq,ke,ol,cv,ti,li⟩ : Cmd)).pairs) [.slice y.1 (((Mod.query ps (⟨ki,cs,sq,ke,ol,cv,ti,li⟩ : Cmd)).pairs).length) y.2]]):=by
 refine Spec.enter (vs:=[_,_]) Try.func20 rfl Try.ntmps20 rfl (Nat.le_of_ble_eq_true rfl) (fun w0 ok0 => ?_)
 generalize hM0 : blks _ = M0
 have hMn:=@noM _ _ hM0 (by simp [Atom.dat,Atom.elem])
 refine H_len_le (i:=0) rfl ?_
 intro hlen0
 refine H_seq ?_
 refine H_region (l:=[_,_,_]) rfl ?_
 refine HO_box (cs:=[_,_]) rfl rfl rfl rfl ?_
 intro g2
 refine HO_box (cs:=[_,_,_,_,_,_,_,_]) rfl rfl rfl rfl ?_
 intro g3
 refine HO_alloc (cs:=[_,_,_,_,_]) rfl rfl Try.zeroValue38 rfl ?_
 intro g4
 refine HO_nil ?_
 refine H_env (ρ':=[(4,_),(3,_),(2,_)]) ⟨rfl,rfl,rfl,trivial⟩ ?_
 refine H_seq ?_
 refine H_seq ?_
 refine H_region (l:=[_,_,_]) rfl ?_
 refine HO_loadA (i:=1) (us:=[]) (cs:=[_,_,_,_,_,_,_,_]) (ts:=[]) rfl rfl rfl Try.isAgg36 Try.sizeOf36 rfl (.loc _ _ _) rfl rfl rfl rfl ?_
 refine HO_call (first:=[]) (capt:=[]) (is:=[]) (R:=[_,_,_,_]) rfl rfl rfl rfl rfl Try.call54 rfl (rreads_spec _ _ _ _ _ _ _ _) ?_
 intro y8 hy8
 clear y8 hy8
 refine HO_not rfl rfl rfl ?_
 refine HO_nil ?_
 refine H_env (ρ':=[(9,_),(4,_),(3,_),(2,_)]) ⟨rfl,rfl,rfl,rfl,trivial⟩ ?_
 refine H_cond rfl ?_ ?_
 ·intro h9
  replace h9:=nT h9
  refine H_seq ?_
  refine H_region (l:=[_,_]) rfl ?_
  refine HO_build (xo:=[(0,_)]) (vs:=[_]) rfl rfl rfl rfl (bd38_0_i) ?_
  refine HO_store (i:=0) (j:=0) (us:=[]) (old:=[_,_,_,_,_]) (ts:=[]) (cs:=[_,_,_,_,_]) (R:=[_,_,_]) (new:=[_,_,_,_,_]) rfl rfl rfl Try.sizeOf38 rfl (by simp [Value.oneCell']) rfl rfl rfl rfl rfl rfl ?_
  refine HO_nil ?_
  refine H_env (ρ':=[(4,_)]) ⟨rfl,trivial⟩ ?_
  refine H_world (kp [yy,nn,nn,nn] [_] rfl) ?_
  refine H_nilDat kPair ?_
  have hq : (Mod.query ps (⟨ki,cs,sq,ke,ol,cv,ti,li⟩ : Cmd)) = Mod.err 2:=if_pos h9
  refine H_ret1 Try.results20 (.cell rfl (fun w hA => run_loadVarA (cs:=[_,_,_,_,_]) (Try.isAgg38 w) (Try.sizeOf38 w) (Tells.cells (.loc _ _ _) (hA.get (i:=1) rfl)))) (fun w hA => ⟨(none,0),congrArg Ending.returned ?_,?_,?_⟩)
  ·(first | (rw [hq];done) | (rw [hq];rfl))
  ·trivial
  ·(rw [hq];exact hA.keep (m:=[yy,nn]) (Y:=[_]) rfl)
 intro h9
 replace h9:=nF h9
 refine H_skip ?_
 refine H_seq ?_
 refine H_region (l:=[_,_,_,_,_,_,_,_,_,_]) rfl ?_
 refine HO_fieldAddr (r:=0) rfl rfl rfl Try.underlying34 rfl Try.sizeOf31 rfl ?_
 refine HO_load1 (i:=2) (j:=0) rfl rfl rfl Try.isAgg31 rfl (.loc _ _ _) rfl rfl ?_
 refine HO_loadA (i:=1) (us:=[]) (cs:=[_,_,_,_,_,_,_,_]) (ts:=[]) rfl rfl rfl Try.isAgg36 Try.sizeOf36 rfl (.loc _ _ _) rfl rfl rfl rfl ?_
 refine HO_dup (i:=3) rfl rfl ?_
 refine HO_call (first:=[]) (capt:=[]) (is:=[0]) (R:=[_,_,_,_]) rfl rfl rfl rfl rfl Try.call52 rfl (rdoes_spec _ _ _ _ _ _ _ _ _ _ _ ?_ ?_ ?_ ?_ ?_) ?_
 ·exact hs
 ·exact hl
 ·exact sk
 ·exact sc
 ·exact fun h7 => Mod.reads_lim (c:=(⟨ki,cs,sq,ke,ol,cv,ti,li⟩ : Cmd)) h9 h7
 intro y15 hy15
 refine HO_move rfl rfl rfl ?_
 refine HO_extract (vs:=[_,_]) rfl rfl rfl rfl ?_
 refine HO_extract (vs:=[_,_]) rfl rfl rfl rfl ?_
 refine HO_alloc (cs:=[_,_,_,_,_]) rfl rfl Try.zeroValue38 rfl ?_
 intro g6
 refine HO_assign rfl rfl rfl ?_
 refine HO_store (i:=0) (j:=0) (us:=[]) (old:=[_,_,_,_,_]) (ts:=[]) (cs:=[_,_,_,_,_]) (R:=[_,_,_,_,_,_]) (new:=[_,_,_,_,_]) rfl rfl rfl Try.sizeOf38 rfl (by simp [Value.oneCell']) rfl rfl rfl rfl rfl rfl ?_
 refine HO_nil ?_
 refine H_env (ρ':=[(6,_),(4,_)]) ⟨rfl,rfl,trivial⟩ ?_
 refine H_world (kp [yy,nn,yy,yy,nn,nn,nn] [_,_,_] rfl) ?_
 refine H_seq ?_
 refine H_region (l:=[_,_]) rfl ?_
 refine HO_loadA (i:=0) (us:=[]) (cs:=[_,_,_,_,_]) (ts:=[]) rfl rfl rfl Try.isAgg38 Try.sizeOf38 rfl (.loc _ _ _) rfl rfl rfl rfl ?_
 refine HO_store (i:=2) (j:=0) (us:=[]) (old:=[_,_,_,_,_]) (ts:=[]) (cs:=[_,_,_,_,_]) (R:=[_,_]) (new:=[_,_,_,_,_]) rfl rfl rfl Try.sizeOf38 rfl (by simp [Value.oneCell']) rfl rfl rfl rfl rfl rfl ?_
 refine HO_nil ?_
 refine H_env (ρ':=[(4,_)]) ⟨rfl,trivial⟩ ?_
 refine H_world (kp [yy,nn,yy] [_,_] rfl) ?_
 have hq : (Mod.query ps (⟨ki,cs,sq,ke,ol,cv,ti,li⟩ : Cmd)) = Mod.doesR ps (⟨ki,cs,sq,ke,ol,cv,ti,li⟩ : Cmd):=if_neg (by rw [h9];decide)
 refine H_ret1 Try.results20 (.cell rfl (fun w hA => run_loadVarA (cs:=[_,_,_,_,_]) (Try.isAgg38 w) (Try.sizeOf38 w) (Tells.cells (.loc _ _ _) (hA.get (i:=0) rfl)))) (fun w hA => ⟨y15.2,congrArg Ending.returned ?_,?_,?_⟩)
 ·(first | (rw [hq];done) | (rw [hq];rfl))
 ·trivial
 ·(rw [hq];exact hA.keep (m:=[nn,yy]) (Y:=[_]) rfl)
end Go.Wk
