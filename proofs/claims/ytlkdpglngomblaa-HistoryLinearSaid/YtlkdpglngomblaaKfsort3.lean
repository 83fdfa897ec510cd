/- Contracts of the program's functions, each proved by walking its code. -/
import Derived.Test.YtlkdpglngomblaaKfsort2
import Derived.Test.YtlkdpglngomblaaOrd2
set_option maxRecDepth 100000
set_option linter.unusedVariables false
set_option linter.unusedSimpArgs false
namespace Go.Wk.Fsort3
open Go Go.RowKit Go.Proofs Go.Wk
theorem elt3 : Elt Try.prog 3 (.int .i64 (0)) 1 8:=Elt.of (by kernel_rfl) (by rfl) (by decide) (by decide)
end Go.Wk.Fsort3
namespace Go.Wk
open Go Go.RowKit Go.Proofs Fsort3 
theorem order_spec (ops : List Op) (a9 : Option Addr) (c9 : Nat) (hl : ops.length≤10000) : Spec Try.prog 17 #[.slice a9 (ops.length) c9] [.dat kOp.sl (ops) [.slice a9 (ops.length) c9]] (β:=List Int × (Option Addr × Nat)) (fun y => .slice y.2.1 (y.1.length) y.2.2) (fun y => Hist.Ordd ops y.1) (fun y => [.own 3 kInt y.2.1 y.2.2 (y.1)]):=by
 refine Spec.enter (vs:=[_]) Try.func17 rfl Try.ntmps17 rfl (Nat.le_of_ble_eq_true rfl) (fun w0 ok0 => ?_)
 generalize hM0 : blks _ = M0
 have hMn:=@noM _ _ hM0 (by simp [Atom.dat,Atom.elem])
 refine H_len_le (i:=0) rfl ?_
 intro hlen0
 refine H_seq ?_
 refine H_region (l:=[_,_]) rfl ?_
 refine HO_box (cs:=[_]) rfl rfl rfl rfl ?_
 intro g1
 refine HO_assign rfl rfl rfl ?_
 refine HO_nil ?_
 refine H_env (ρ':=[(1,_)]) ⟨rfl,trivial⟩ ?_
 refine H_seq ?_
 refine H_region (l:=[_]) rfl ?_
 refine HO_assign rfl rfl rfl ?_
 refine HO_nil ?_
 refine H_seq ?_
 refine H_seq ?_
 refine H_region (l:=[_,_,_]) rfl ?_
 refine HO_load1 (i:=0) (j:=0) rfl rfl rfl Try.isAgg23 rfl (.loc _ _ _) rfl rfl ?_
 refine HO_bi rfl rfl rfl (bi_len_sl Try.underlying23) ?_
 refine HO_move rfl rfl rfl ?_
 refine HO_nil ?_
 refine H_block ?_
 refine H_own0 kInt 3 none ?_
 refine H_loop (σ:=Nat × Option Addr × Nat) (fun s => s.1≤ops.length) (fun s => [(1,.pointer (some ⟨g1,0,none⟩)),(3,.slice s.2.1 ((Hist.idxs ops s.1).length) s.2.2),(6,.slice a9 (ops.length) c9),(7,.int .i64 ((ops.length : Int))),(8,.int .i64 ((s.1 : Int)))]) (fun s => Asn w0 ok0 M0 [.own 3 kInt s.2.1 s.2.2 (Hist.idxs ops s.1),.loc g1 [.slice a9 (ops.length) c9] 23,.dat kOp.sl (ops) [.slice a9 (ops.length) c9]]) (fun s => ops.length - s.1) ⟨0,none,0⟩ ?_ ?_ ?_ ?_
 ·exact Nat.zero_le _
 ·exact ⟨rfl,rfl,rfl,rfl,rfl,trivial⟩
 ·intro w hA
  exact hA.only (is:=[0,1,2]) (Z:=[]) rfl
 ·rintro ⟨i,p,q⟩ hI
  (try dsimp only at hI ⊢)
  refine H_seq ?_
  refine H_region (l:=[_]) rfl ?_
  refine HO_bin rfl rfl rfl rfl bin_lss ?_
  refine HO_nil ?_
  refine H_seq ?_
  refine H_cond rfl ?_ ?_
  ·intro h9
   replace h9:=dT h9
   refine H_skip ?_
   refine H_seq ?_
   refine H_block ?_
   refine H_seq ?_
   have hil:=Hist.idxs_len (ops:=ops) (i:=i)
   refine H_region (l:=[_,_,_,_,_,_]) rfl ?_
   refine HO_move rfl rfl rfl ?_
   refine HO_indexAddr open_Op (i:=2) rfl rfl rfl rfl rfl Try.underlying23 Try.sizeOf40 rfl ?_ ?_
   ·omega
   intro b11 o11 z11 y11 hz11 hI11
   (try simp only [BIG] at hI11)
   refine HO_loadA (i:=0) (us:=[]) (cs:=[_,_,_,_,_,_,_,_,_,_,_,_,_,_,_,_,_]) (ts:=[]) rfl rfl rfl Try.isAgg40 Try.sizeOf40 rfl (.elem _ _ _) rfl rfl rfl rfl ?_
   refine HO_alloc (cs:=[_,_,_,_,_,_,_,_,_,_,_,_,_,_,_,_,_]) rfl rfl Try.zeroValue40 rfl ?_
   intro g5
   refine HO_assign rfl rfl rfl ?_
   refine HO_store (i:=0) (j:=0) (us:=[]) (old:=[_,_,_,_,_,_,_,_,_,_,_,_,_,_,_,_,_]) (ts:=[]) (cs:=[_,_,_,_,_,_,_,_,_,_,_,_,_,_,_,_,_]) (R:=[_,_,_,_,_]) (new:=[_,_,_,_,_,_,_,_,_,_,_,_,_,_,_,_,_]) rfl rfl rfl Try.sizeOf40 rfl (by simp [Value.oneCell']) rfl rfl rfl rfl rfl rfl ?_
   refine HO_nil ?_
   refine H_env (ρ':=[(4,_),(5,_),(1,_),(3,_),(6,_),(7,_),(8,_)]) ⟨rfl,rfl,rfl,rfl,rfl,rfl,rfl,trivial⟩ ?_
   refine H_world (kp [yy,nn,yy,yy,yy,yy] [_,_,_,_,_] rfl) ?_
   refine H_seq ?_
   refine H_region (l:=[_,_,_]) rfl ?_
   refine HO_fieldAddr (r:=15) rfl rfl rfl Try.underlying40 rfl Try.sizeOf3 rfl ?_
   refine HO_load1 (i:=0) (j:=15) rfl rfl rfl Try.isAgg3 rfl (.loc _ _ _) rfl rfl ?_
   refine HO_bin rfl rfl rfl rfl bin_geq ?_
   refine HO_nil ?_
   refine H_env (ρ':=[(15,_),(4,_),(1,_),(3,_),(6,_),(7,_),(8,_)]) ⟨rfl,rfl,rfl,rfl,rfl,rfl,rfl,trivial⟩ ?_
   refine H_world (kp [nn,nn,yy,yy,yy] [_,_,_] rfl) ?_
   refine H_cond rfl ?_ ?_
   ·intro h15
    replace h15:=dT h15
    have he:=Hist.idxs_yes hz11 (by omega)
    refine H_region (l:=[_,_,_,_,_]) rfl ?_
    iterate 2 refine HO_move rfl rfl rfl ?_
    refine HO_buildSlice (kd:=kInt) (xo:=[_]) (vs:=[_]) (cs:=[_]) (xs:=[_]) rfl rfl rfl rfl Try.underlying29 elt3 rfl rfl rfl (by decide) (by decide) (by simp [Value.cells]) rfl (by intro ok w _;exact ⟨_,_,rfl,⟨rfl,by first | omega | (constructor <;> omega)⟩,rfl⟩) ?_
    intro g18
    refine HO_append (i:=1) (R:=[_,_,_]) rfl rfl rfl rfl rfl Try.underlying29 elt3 rfl rfl (SrcOk.own (j:=0) Try.underlying29 rfl rfl) ?_ ?_
    ·(simp only [List.length_append,List.length_singleton];omega)
    intro a19 c19
    refine HO_assign rfl rfl rfl ?_
    refine HO_nil ?_
    refine H_env (ρ':=[(3,_),(1,_),(6,_),(7,_),(8,_)]) ⟨rfl,rfl,rfl,rfl,rfl,trivial⟩ ?_
    refine H_world (kp [yy,nn,yy,yy] [_,_,_] rfl) ?_
    refine H_blk ?_
    refine H_region (l:=[_,_]) rfl ?_
    refine HO_bin rfl rfl rfl rfl (bin_add ?_ ?_) ?_
    ·omega
    ·omega
    refine HO_move rfl rfl rfl ?_
    refine HO_nil ?_
    refine H_env (ρ':=[(8,_),(3,_),(1,_),(6,_),(7,_)]) ⟨rfl,rfl,rfl,rfl,rfl,trivial⟩ ?_
    refine H_inv (fun a w hf hA => ⟨⟨i + 1,a19,c19⟩,?_,?_,hf.sub ?_,?_⟩)
    ·(show i + 1≤ops.length;omega)
    ·(try dsimp only);omega
    ·exact ⟨rfl,congrArg (fun l : List Int => some (Value.slice _ l.length _)) he.symm,rfl,rfl,rfl,trivial⟩
    ·(dsimp only;rw [he];exact hA.only (is:=[0,1,2]) (Z:=[]) rfl)
   intro h15
   replace h15:=dF h15
   have he:=Hist.idxs_no hz11 (by omega)
   refine H_skip ?_
   refine H_blk ?_
   refine H_region (l:=[_,_]) rfl ?_
   refine HO_bin rfl rfl rfl rfl (bin_add ?_ ?_) ?_
   ·omega
   ·omega
   refine HO_move rfl rfl rfl ?_
   refine HO_nil ?_
   refine H_env (ρ':=[(8,_),(1,_),(3,_),(6,_),(7,_)]) ⟨rfl,rfl,rfl,rfl,rfl,trivial⟩ ?_
   refine H_inv (fun a w hf hA => ⟨⟨i + 1,p,q⟩,?_,?_,hf.sub ?_,?_⟩)
   ·(show i + 1≤ops.length;omega)
   ·(try dsimp only);omega
   ·exact ⟨rfl,congrArg (fun l : List Int => some (Value.slice _ l.length _)) he.symm,rfl,rfl,rfl,trivial⟩
   ·(dsimp only;rw [he];exact hA.only (is:=[0,1,2]) (Z:=[]) rfl)
  intro h9
  replace h9:=dF h9
  refine H_exit rfl ?_
  refine H_seq ?_
  obtain rfl : i = ops.length:=by omega
  have hil:=Hist.idxs_len (ops:=ops) (i:=ops.length)
  refine H_region (l:=[_,_,_]) rfl ?_
  refine HO_move rfl rfl rfl ?_
  refine HO_makeFunc (vs:=[]) (us:=[_]) rfl rfl rfl rfl ?_
  refine HO_dup (i:=2) rfl rfl ?_
  refine HO_call (first:=[]) (capt:=[]) (is:=[0,1,0]) (R:=[_]) rfl rfl rfl rfl rfl Try.call44 rfl (sorts_spec _ _ _ _ _ _ _ _ ?_ ?_ ?_ ?_ ?_) ?_
  ·exact hl
  ·rfl
  ·omega
  ·exact Hist.idxs_idx (Nat.le_refl _)
  ·exact Hist.ri_of Hist.idxs_pair _
  intro y23 hy23
  refine HO_nil ?_
  refine H_env (ρ':=[(3,_)]) ⟨rfl,trivial⟩ ?_
  refine H_world (kp [yy,nn,nn] [_] rfl) ?_
  refine H_seq ?_
  refine H_region (l:=[_,_]) rfl ?_
  refine HO_move rfl rfl rfl ?_
  refine HO_assign rfl rfl rfl ?_
  refine HO_nil ?_
  refine H_env (ρ':=[(2,_)]) ⟨rfl,trivial⟩ ?_
  refine H_ret1 Try.results17 (.tmp rfl) (fun w hA => ⟨(y23,(p,q)),congrArg Ending.returned ?_,?_,?_⟩)
  ·(rw [hy23.1.1])
  ·exact hy23
  ·exact hA.keep (m:=[yy]) (Y:=[_]) rfl
end Go.Wk
