/- Contracts of the program's functions, each proved by walking its code. -/
import Derived.Test.YtlkdpglngomblaaKflaw09b
import Derived.Test.YtlkdpglngomblaaMod5
import Derived.Test.YtlkdpglngomblaaWk20
set_option maxRecDepth 100000
set_option linter.unusedVariables false
set_option linter.unusedSimpArgs false
namespace Go.Wk.Fmod4
open Go Go.RowKit Go.Proofs Go.Wk
theorem elt70 : Elt Try.prog 70 (.agg #[.string (⟨#[]⟩),.string (⟨#[]⟩)]) 2 32:=Elt.of (by kernel_rfl) (by rfl) (by decide) (by decide)
theorem elt106 : Elt Try.prog 106 (.agg #[.int .i64 (0),.int .i64 (0),.int .i64 (0),.bool (false),.string (⟨#[]⟩),.int .i64 (0),.slice none 0 0]) 7 80:=Elt.of (by kernel_rfl) (by rfl) (by decide) (by decide)
theorem bd106_0_i {x1 : Int} : ∀ w,(Instr.build 106 (List.toArray (List.zip [0] [.int .i64 x1]))).run Try.prog w = .ok (.agg #[.int .i64 x1,.int .i64 (0),.int .i64 (0),.bool (false),.string (⟨#[]⟩),.int .i64 (0),.slice none 0 0]) w:=fun _ => by kernel_rfl
theorem bd38_0_i {x1 : Int} : ∀ w,(Instr.build 38 (List.toArray (List.zip [0] [.int .i64 x1]))).run Try.prog w = .ok (.agg #[.int .i64 x1,.bool (false),.string (⟨#[]⟩),.int .i64 (0),.slice none 0 0]) w:=fun _ => by kernel_rfl
theorem bd38_1_2_ot {x1 : Bool} {x2 : ByteArray} : ∀ w,(Instr.build 38 (List.toArray (List.zip [1,2] [.bool x1,.string x2]))).run Try.prog w = .ok (.agg #[.int .i64 (0),.bool x1,.string x2,.int .i64 (0),.slice none 0 0]) w:=fun _ => by kernel_rfl
theorem bd38_4_s {a1 : Option Addr} {n1 c1 : Nat} : ∀ w,(Instr.build 38 (List.toArray (List.zip [4] [.slice a1 n1 c1]))).run Try.prog w = .ok (.agg #[.int .i64 (0),.bool (false),.string (⟨#[]⟩),.int .i64 (0),.slice a1 n1 c1]) w:=fun _ => by kernel_rfl
theorem bd70_0_1_tt {x1 : ByteArray} {x2 : ByteArray} : ∀ w,(Instr.build 70 (List.toArray (List.zip [0,1] [.string x1,.string x2]))).run Try.prog w = .ok (.agg #[.string x1,.string x2]) w:=fun _ => by kernel_rfl
end Go.Wk.Fmod4
namespace Go.Wk
open Go Go.RowKit Go.Proofs Fmod4 
theorem rget_spec (xs : List Pair) (a : Option Addr) (c : Nat) (ke : ByteArray) (hs : soStr.Srt Pair.key xs) : Spec Try.prog 78 #[.slice a (xs.length) c,.string (ke)] [.dat kPair.sl (xs) [.slice a (xs.length) c]] (β:=Unit) (fun y => .tuple #[.string (Mod.valAt ke xs),.bool (Mod.fd ke xs)]) (fun y => True) (fun y => []):=by
 refine Spec.enter (vs:=[_,_]) Try.func78 rfl Try.ntmps78 rfl (Nat.le_of_ble_eq_true rfl) (fun w0 ok0 => ?_)
 generalize hM0 : blks _ = M0
 have hMn:=@noM _ _ hM0 (by simp [Atom.dat,Atom.elem])
 refine H_len_le (i:=0) rfl ?_
 intro hlen0
 refine H_seq ?_
 refine H_region (l:=[_,_]) rfl ?_
 iterate 2 refine HO_assign rfl rfl rfl ?_
 refine HO_nil ?_
 refine H_env (ρ':=[(0,_),(1,_)]) ⟨rfl,rfl,trivial⟩ ?_
 refine H_seq ?_
 refine H_seq ?_
 refine H_region (l:=[_,_,_]) rfl ?_
 refine HO_move rfl rfl rfl ?_
 refine HO_bi rfl rfl rfl (bi_len_sl Try.underlying31) ?_
 refine HO_move rfl rfl rfl ?_
 refine HO_nil ?_
 refine H_env (ρ':=[(10,_),(9,_),(8,_),(1,_)]) ⟨rfl,rfl,rfl,rfl,trivial⟩ ?_
 refine H_block ?_
 refine H_loop (σ:=Nat) (fun s => s≤xs.length∧(∀ q x,q < s→xs[q]? = some x→Pair.key x ≠ ke)) (fun s => [(1,.string (ke)),(8,.slice a (xs.length) c),(9,.int .i64 ((xs.length : Int))),(10,.int .i64 ((s : Int)))]) (fun s => Asn w0 ok0 M0 [.dat kPair.sl (xs) [.slice a (xs.length) c]]) (fun s => xs.length - s) 0 ?_ ?_ ?_ ?_
 ·exact ⟨Nat.zero_le _,fun q x hq _ => absurd hq (Nat.not_lt_zero _)⟩
 ·exact ⟨rfl,rfl,rfl,rfl,trivial⟩
 ·intro w hA
  exact hA.only (is:=[0]) (Z:=[]) rfl
 ·intro i hI
  (try dsimp only at hI ⊢)
  refine H_seq ?_
  refine H_region (l:=[_]) rfl ?_
  refine HO_bin rfl rfl rfl rfl bin_lss ?_
  refine HO_nil ?_
  refine H_seq ?_
  refine H_cond rfl ?_ ?_
  ·intro h11
   replace h11:=dT h11
   refine H_skip ?_
   refine H_seq ?_
   refine H_block ?_
   refine H_seq ?_
   refine H_region (l:=[_,_,_,_]) rfl ?_
   refine HO_indexAddr open_Pair (i:=0) rfl rfl rfl rfl rfl Try.underlying31 Try.sizeOf70 rfl ?_ ?_
   ·omega
   intro b12 o12 z12 y12 hz12 hI12
   clear y12
   (try simp only [BIG] at hI12)
   refine HO_loadA (i:=0) (us:=[]) (cs:=[_,_]) (ts:=[]) rfl rfl rfl Try.isAgg70 Try.sizeOf70 rfl (.elem _ _ _) rfl rfl rfl rfl ?_
   refine HO_alloc (cs:=[_,_]) rfl rfl Try.zeroValue70 rfl ?_
   intro g7
   refine HO_store (i:=0) (j:=0) (us:=[]) (old:=[_,_]) (ts:=[]) (cs:=[_,_]) (R:=[_,_]) (new:=[_,_]) rfl rfl rfl Try.sizeOf70 rfl (by simp [Value.oneCell']) rfl rfl rfl rfl rfl rfl ?_
   refine HO_nil ?_
   refine H_env (ρ':=[(7,_),(1,_),(8,_),(9,_),(10,_)]) ⟨rfl,rfl,rfl,rfl,rfl,trivial⟩ ?_
   refine H_world (kp [yy,nn,yy] [_,_] rfl) ?_
   refine H_seq ?_
   refine H_region (l:=[_,_,_,_]) rfl ?_
   refine HO_fieldAddr (r:=0) rfl rfl rfl Try.underlying70 rfl Try.sizeOf9 rfl ?_
   refine HO_load1 (i:=0) (j:=0) rfl rfl rfl Try.isAgg9 rfl (.loc _ _ _) rfl rfl ?_
   refine HO_move rfl rfl rfl ?_
   refine HO_bin rfl rfl rfl rfl bin_eqs ?_
   refine HO_nil ?_
   refine H_env (ρ':=[(17,_),(7,_),(1,_),(8,_),(9,_),(10,_)]) ⟨rfl,rfl,rfl,rfl,rfl,rfl,trivial⟩ ?_
   refine H_cond rfl ?_ ?_
   ·intro h17
    replace h17:=dT h17
    refine H_seq ?_
    refine H_region (l:=[_,_,_,_]) rfl ?_
    refine HO_fieldAddr (r:=1) rfl rfl rfl Try.underlying70 rfl Try.sizeOf9 rfl ?_
    refine HO_load1 (i:=0) (j:=1) rfl rfl rfl Try.isAgg9 rfl (.loc _ _ _) rfl rfl ?_
    iterate 2 refine HO_assign rfl rfl rfl ?_
    refine HO_nil ?_
    refine H_env (ρ':=[(5,_),(4,_)]) ⟨rfl,rfl,trivial⟩ ?_
    refine H_world (kp [nn,nn] [] rfl) ?_
    have hg:=Mod.get_hit hs hz12 h17
    refine H_ret2 Try.results78 (.tmp rfl) (.tmp rfl) (fun w hA => ⟨(),congrArg Ending.returned ?_,?_,?_⟩)
    ·(first | (rw [hg.1,hg.2];done) | (rw [hg.1,hg.2];rfl))
    ·trivial
    ·exact hA.keep (m:=[]) (Y:=[]) rfl
   intro h17
   replace h17:=dF h17
   refine H_skip ?_
   refine H_blk ?_
   refine H_region (l:=[_,_]) rfl ?_
   refine HO_bin rfl rfl rfl rfl (bin_add ?_ ?_) ?_
   ·(first | omega | assumption | decide)
   ·(first | omega | assumption | decide)
   refine HO_move rfl rfl rfl ?_
   refine HO_nil ?_
   refine H_env (ρ':=[(10,_),(1,_),(8,_),(9,_)]) ⟨rfl,rfl,rfl,rfl,trivial⟩ ?_
   refine H_world (kp [nn,yy] [_] rfl) ?_
   refine H_inv (fun a w hf hA => ⟨i + 1,?_,?_,hf.sub ?_,?_⟩)
   ·exact ⟨by omega,Mod.miss_next (key:=Pair.key) hz12 h17 hI.2⟩
   ·(try dsimp only);omega
   ·exact ⟨rfl,rfl,rfl,rfl,trivial⟩
   ·exact hA.only (is:=[0]) (Z:=[]) rfl
  intro h11
  replace h11:=dF h11
  refine H_exit rfl ?_
  refine H_seq ?_
  obtain rfl : i = xs.length:=by omega
  refine H_region (l:=[_,_]) rfl ?_
  iterate 2 refine HO_assign rfl rfl rfl ?_
  refine HO_nil ?_
  refine H_env (ρ':=[(5,_),(4,_)]) ⟨rfl,rfl,trivial⟩ ?_
  refine H_world (kp [nn] [] rfl) ?_
  have hg:=Mod.get_miss hI.2
  refine H_ret2 Try.results78 (.tmp rfl) (.tmp rfl) (fun w hA => ⟨(),congrArg Ending.returned ?_,?_,?_⟩)
  ·(first | (rw [hg.1,hg.2];done) | (rw [hg.1,hg.2];rfl))
  ·trivial
  ·exact hA.keep (m:=[]) (Y:=[]) rfl
theorem rput_spec (xs : List Pair) (a : Option Addr) (c : Nat) (ke cv : ByteArray) (hs : soStr.Srt Pair.key xs) (hl : xs.length≤10000) (sk : ke.size≤BIG) (sc : cv.size≤BIG) : Spec Try.prog 79 #[.slice a (xs.length) c,.string (ke),.string (cv)] [.dat kPair.sl (xs) [.slice a (xs.length) c]] (β:=Option Addr × Nat) (fun y => .slice y.1 (((Mod.pput ⟨ke,cv⟩ xs)).length) y.2) (fun y => True) (fun y => [.dat kPair.sl ((Mod.pput ⟨ke,cv⟩ xs)) [.slice y.1 (((Mod.pput ⟨ke,cv⟩ xs)).length) y.2]]):=by
 refine Spec.enter (vs:=[_,_,_]) Try.func79 rfl Try.ntmps79 rfl (Nat.le_of_ble_eq_true rfl) (fun w0 ok0 => ?_)
 generalize hM0 : blks _ = M0
 have hMn:=@noM _ _ hM0 (by simp [Atom.dat,Atom.elem])
 refine H_len_le (i:=0) rfl ?_
 intro hlen0
 refine H_seq ?_
 refine H_region (l:=[_]) rfl ?_
 refine HO_assign rfl rfl rfl ?_
 refine HO_nil ?_
 refine H_env (ρ':=[(0,_),(1,_),(2,_)]) ⟨rfl,rfl,rfl,trivial⟩ ?_
 refine H_seq ?_
 refine H_region (l:=[_]) rfl ?_
 refine HO_assign rfl rfl rfl ?_
 refine HO_nil ?_
 refine H_seq ?_
 refine H_region (l:=[_]) rfl ?_
 refine HO_assign rfl rfl rfl ?_
 refine HO_nil ?_
 refine H_seq ?_
 refine H_seq ?_
 refine H_region (l:=[_,_,_]) rfl ?_
 refine HO_move rfl rfl rfl ?_
 refine HO_bi rfl rfl rfl (bi_len_sl Try.underlying31) ?_
 refine HO_move rfl rfl rfl ?_
 refine HO_nil ?_
 refine H_env (ρ':=[(13,_),(12,_),(11,_),(8,_),(7,_),(1,_),(2,_)]) ⟨rfl,rfl,rfl,rfl,rfl,rfl,rfl,trivial⟩ ?_
 refine H_block ?_
 refine H_own0 kPair 70 none ?_
 refine H_loop (σ:=Nat × List Pair × Bool × Option Addr × Nat) (fun s => s.1≤xs.length∧s.2.1 ++ soStr.putR Pair.key (⟨ke,cv⟩ : Pair) s.2.2.1 (xs.drop s.1) = soStr.putR Pair.key (⟨ke,cv⟩ : Pair) false xs∧s.2.1.length≤2 * s.1) (fun s => [(1,.string (ke)),(2,.string (cv)),(7,.slice s.2.2.2.1 (s.2.1.length) s.2.2.2.2),(8,.bool (s.2.2.1)),(11,.slice a (xs.length) c),(12,.int .i64 ((xs.length : Int))),(13,.int .i64 ((s.1 : Int)))]) (fun s => Asn w0 ok0 M0 [.own 70 kPair s.2.2.2.1 s.2.2.2.2 (s.2.1),.dat kPair.sl (xs) [.slice a (xs.length) c]]) (fun s => xs.length - s.1) ⟨0,[],false,none,0⟩ ?_ ?_ ?_ ?_
 ·exact ⟨Nat.zero_le _,by simp,Nat.zero_le _⟩
 ·exact ⟨rfl,rfl,rfl,rfl,rfl,rfl,rfl,trivial⟩
 ·intro w hA
  exact hA.only (is:=[0,1]) (Z:=[]) rfl
 ·rintro ⟨i,out,d,p,q⟩ hI
  (try dsimp only at hI ⊢)
  refine H_seq ?_
  refine H_region (l:=[_]) rfl ?_
  refine HO_bin rfl rfl rfl rfl bin_lss ?_
  refine HO_nil ?_
  refine H_seq ?_
  refine H_cond rfl ?_ ?_
  ·intro h14
   replace h14:=dT h14
   refine H_skip ?_
   refine H_seq ?_
   refine H_block ?_
   refine H_seq ?_
   refine H_region (l:=[_,_,_,_]) rfl ?_
   refine HO_indexAddr open_Pair (i:=1) rfl rfl rfl rfl rfl Try.underlying31 Try.sizeOf70 rfl ?_ ?_
   ·omega
   intro b15 o15 z15 y15 hz15 hI15
   clear y15
   (try simp only [BIG] at hI15)
   refine HO_loadA (i:=0) (us:=[]) (cs:=[_,_]) (ts:=[]) rfl rfl rfl Try.isAgg70 Try.sizeOf70 rfl (.elem _ _ _) rfl rfl rfl rfl ?_
   refine HO_alloc (cs:=[_,_]) rfl rfl Try.zeroValue70 rfl ?_
   intro g10
   refine HO_store (i:=0) (j:=0) (us:=[]) (old:=[_,_]) (ts:=[]) (cs:=[_,_]) (R:=[_,_,_]) (new:=[_,_]) rfl rfl rfl Try.sizeOf70 rfl (by simp [Value.oneCell']) rfl rfl rfl rfl rfl rfl ?_
   refine HO_nil ?_
   refine H_env (ρ':=[(10,_),(1,_),(2,_),(7,_),(8,_),(11,_),(12,_),(13,_)]) ⟨rfl,rfl,rfl,rfl,rfl,rfl,rfl,rfl,trivial⟩ ?_
   refine H_world (kp [yy,nn,yy,yy] [_,_,_] rfl) ?_
   refine H_seq ?_
   refine H_seq ?_
   refine H_region (l:=[_,_,_,_,_,_,_,_]) rfl ?_
   refine HO_fieldAddr (r:=0) rfl rfl rfl Try.underlying70 rfl Try.sizeOf9 rfl ?_
   refine HO_load1 (i:=0) (j:=0) rfl rfl rfl Try.isAgg9 rfl (.loc _ _ _) rfl rfl ?_
   refine HO_move rfl rfl rfl ?_
   refine HO_bin rfl rfl rfl rfl bin_ges ?_
   refine HO_move rfl rfl rfl ?_
   refine HO_split (d:=21) rfl ?_ ?_
   ·intro h21
    (try simp only [decide_eq_true_eq,decide_eq_false_iff_not,Bool.not_eq_true',Bool.not_eq_false',Bool.not_eq_true,Bool.not_eq_false,Bool.true_eq_false,Bool.false_eq_true,not_false_eq_true,not_true_eq_false] at h21)
    refine HO_move rfl rfl rfl ?_
    refine HO_not rfl rfl rfl ?_
    refine HO_pick_t rfl rfl rfl rfl ?_
    refine HO_nil ?_
    refine H_env (ρ':=[(24,_),(10,_),(1,_),(2,_),(7,_),(8,_),(11,_),(12,_),(13,_)]) ⟨rfl,rfl,rfl,rfl,rfl,rfl,rfl,rfl,rfl,trivial⟩ ?_
    refine H_cond rfl ?_ ?_
    ·intro h24
     replace h24:=nT h24
     refine H_seq ?_
     refine H_region (l:=[_,_,_,_,_,_,_]) rfl ?_
     iterate 3 refine HO_move rfl rfl rfl ?_
     refine HO_build (xo:=[(0,_),(1,_)]) (vs:=[_,_]) rfl rfl rfl rfl (bd70_0_1_tt) ?_
     refine HO_buildSlice (kd:=kPair) (xo:=[_]) (vs:=[_]) (cs:=[_,_]) (xs:=[(⟨ke,cv⟩ : Pair)]) rfl rfl rfl rfl Try.underlying31 elt70 rfl rfl rfl (by decide) (by decide) (by simp [Value.cells]) rfl (fun ok w hA => ⟨_,_,rfl,⟨⟨sk,sc⟩,(),rfl,(fun a ha => nomatch ha)⟩,rfl⟩) ?_
     intro g29
     refine HO_append (i:=2) (R:=[_,_,_]) rfl rfl rfl rfl rfl Try.underlying31 elt70 rfl rfl (SrcOk.own (j:=0) Try.underlying31 rfl rfl) ?_ ?_
     ·(simp only [List.length_append,List.length_cons,List.length_nil];omega)
     intro a30 c30
     refine HO_assign rfl rfl rfl ?_
     refine HO_nil ?_
     refine H_env (ρ':=[(7,_),(10,_),(1,_),(2,_),(11,_),(12,_),(13,_)]) ⟨rfl,rfl,rfl,rfl,rfl,rfl,rfl,trivial⟩ ?_
     refine H_world (kp [yy,nn,yy,yy] [_,_,_] rfl) ?_
     refine H_region (l:=[_]) rfl ?_
     refine HO_assign rfl rfl rfl ?_
     refine HO_nil ?_
     refine H_seq ?_
     refine H_region (l:=[_,_,_,_]) rfl ?_
     refine HO_fieldAddr (r:=0) rfl rfl rfl Try.underlying70 rfl Try.sizeOf9 rfl ?_
     refine HO_load1 (i:=1) (j:=0) rfl rfl rfl Try.isAgg9 rfl (.loc _ _ _) rfl rfl ?_
     refine HO_move rfl rfl rfl ?_
     refine HO_bin rfl rfl rfl rfl bin_nes ?_
     refine HO_nil ?_
     refine H_env (ρ':=[(34,_),(8,_),(7,_),(10,_),(1,_),(2,_),(11,_),(12,_),(13,_)]) ⟨rfl,rfl,rfl,rfl,rfl,rfl,rfl,rfl,rfl,trivial⟩ ?_
     refine H_cond rfl ?_ ?_
     ·intro h34
      replace h34:=dF (nT h34)
      refine H_region (l:=[_,_,_,_,_]) rfl ?_
      refine HO_move rfl rfl rfl ?_
      refine HO_loadA (i:=1) (us:=[]) (cs:=[_,_]) (ts:=[]) rfl rfl rfl Try.isAgg70 Try.sizeOf70 rfl (.loc _ _ _) rfl rfl rfl rfl ?_
      refine HO_buildSlice (kd:=kPair) (xo:=[_]) (vs:=[_]) (cs:=[_,_]) (xs:=[z15]) rfl rfl rfl rfl Try.underlying31 elt70 rfl rfl rfl (by decide) (by decide) (by simp [Value.cells]) rfl (fun ok w hA => ⟨_,_,rfl,⟨hI15,(),rfl,(fun a ha => nomatch ha)⟩,rfl⟩) ?_
      intro g37
      refine HO_append (i:=1) (R:=[_,_,_]) rfl rfl rfl rfl rfl Try.underlying31 elt70 rfl rfl (SrcOk.own (j:=0) Try.underlying31 rfl rfl) ?_ ?_
      ·(simp only [List.length_append,List.length_cons,List.length_nil];omega)
      intro a38 c38
      refine HO_assign rfl rfl rfl ?_
      refine HO_nil ?_
      refine H_env (ρ':=[(7,_),(8,_),(1,_),(2,_),(11,_),(12,_),(13,_)]) ⟨rfl,rfl,rfl,rfl,rfl,rfl,rfl,trivial⟩ ?_
      refine H_world (kp [yy,nn,nn,yy] [_,_] rfl) ?_
      refine H_blk ?_
      refine H_region (l:=[_,_]) rfl ?_
      refine HO_bin rfl rfl rfl rfl (bin_add ?_ ?_) ?_
      ·(first | omega | assumption | decide)
      ·(first | omega | assumption | decide)
      refine HO_move rfl rfl rfl ?_
      refine HO_nil ?_
      refine H_env (ρ':=[(13,_),(7,_),(8,_),(1,_),(2,_),(11,_),(12,_)]) ⟨rfl,rfl,rfl,rfl,rfl,rfl,rfl,trivial⟩ ?_
      refine H_inv (fun a w hf hA => ⟨⟨i + 1,((out ++ [(⟨ke,cv⟩ : Pair)]) ++ [z15]),true,a38,c38⟩,?_,?_,hf.sub ?_,?_⟩)
      ·exact ⟨by dsimp only;omega,(by have hn:=soStr.put_next Pair.key (x:=(⟨ke,cv⟩ : Pair)) hz15 hI.2.1;rw [show soStr.lt (Pair.key z15) (Pair.key (⟨ke,cv⟩ : Pair)) = false from h21] at hn;simpa [h24,h34,List.append_assoc] using hn),by dsimp only;(try simp only [List.length_append,List.length_cons,List.length_nil]);omega⟩
      ·(try dsimp only);omega
      ·exact ⟨rfl,rfl,rfl,rfl,rfl,rfl,rfl,trivial⟩
      ·exact hA.only (is:=[0,1]) (Z:=[]) rfl
     intro h34
     replace h34:=dT (nF h34)
     refine H_skip ?_
     refine H_blk ?_
     refine H_region (l:=[_,_]) rfl ?_
     refine HO_bin rfl rfl rfl rfl (bin_add ?_ ?_) ?_
     ·(first | omega | assumption | decide)
     ·(first | omega | assumption | decide)
     refine HO_move rfl rfl rfl ?_
     refine HO_nil ?_
     refine H_env (ρ':=[(13,_),(8,_),(7,_),(1,_),(2,_),(11,_),(12,_)]) ⟨rfl,rfl,rfl,rfl,rfl,rfl,rfl,trivial⟩ ?_
     refine H_world (kp [yy,nn,yy] [_,_] rfl) ?_
     refine H_inv (fun a w hf hA => ⟨⟨i + 1,(out ++ [(⟨ke,cv⟩ : Pair)]),true,a30,c30⟩,?_,?_,hf.sub ?_,?_⟩)
     ·exact ⟨by dsimp only;omega,(by have hn:=soStr.put_next Pair.key (x:=(⟨ke,cv⟩ : Pair)) hz15 hI.2.1;rw [show soStr.lt (Pair.key z15) (Pair.key (⟨ke,cv⟩ : Pair)) = false from h21] at hn;simpa [h24,h34,List.append_assoc] using hn),by dsimp only;(try simp only [List.length_append,List.length_cons,List.length_nil]);omega⟩
     ·(try dsimp only);omega
     ·exact ⟨rfl,rfl,rfl,rfl,rfl,rfl,rfl,trivial⟩
     ·exact hA.only (is:=[0,1]) (Z:=[]) rfl
    intro h24
    replace h24:=nF h24
    refine H_skip ?_
    refine H_seq ?_
    refine H_region (l:=[_,_,_,_]) rfl ?_
    refine HO_fieldAddr (r:=0) rfl rfl rfl Try.underlying70 rfl Try.sizeOf9 rfl ?_
    refine HO_load1 (i:=0) (j:=0) rfl rfl rfl Try.isAgg9 rfl (.loc _ _ _) rfl rfl ?_
    refine HO_move rfl rfl rfl ?_
    refine HO_bin rfl rfl rfl rfl bin_nes ?_
    refine HO_nil ?_
    refine H_env (ρ':=[(34,_),(10,_),(1,_),(2,_),(7,_),(8,_),(11,_),(12,_),(13,_)]) ⟨rfl,rfl,rfl,rfl,rfl,rfl,rfl,rfl,rfl,trivial⟩ ?_
    refine H_cond rfl ?_ ?_
    ·intro h34
     replace h34:=dF (nT h34)
     refine H_region (l:=[_,_,_,_,_]) rfl ?_
     refine HO_move rfl rfl rfl ?_
     refine HO_loadA (i:=0) (us:=[]) (cs:=[_,_]) (ts:=[]) rfl rfl rfl Try.isAgg70 Try.sizeOf70 rfl (.loc _ _ _) rfl rfl rfl rfl ?_
     refine HO_buildSlice (kd:=kPair) (xo:=[_]) (vs:=[_]) (cs:=[_,_]) (xs:=[z15]) rfl rfl rfl rfl Try.underlying31 elt70 rfl rfl rfl (by decide) (by decide) (by simp [Value.cells]) rfl (fun ok w hA => ⟨_,_,rfl,⟨hI15,(),rfl,(fun a ha => nomatch ha)⟩,rfl⟩) ?_
     intro g37
     refine HO_append (i:=2) (R:=[_,_,_]) rfl rfl rfl rfl rfl Try.underlying31 elt70 rfl rfl (SrcOk.own (j:=0) Try.underlying31 rfl rfl) ?_ ?_
     ·(simp only [List.length_append,List.length_cons,List.length_nil];omega)
     intro a38 c38
     refine HO_assign rfl rfl rfl ?_
     refine HO_nil ?_
     refine H_env (ρ':=[(7,_),(1,_),(2,_),(8,_),(11,_),(12,_),(13,_)]) ⟨rfl,rfl,rfl,rfl,rfl,rfl,rfl,trivial⟩ ?_
     refine H_world (kp [yy,nn,nn,yy] [_,_] rfl) ?_
     refine H_blk ?_
     refine H_region (l:=[_,_]) rfl ?_
     refine HO_bin rfl rfl rfl rfl (bin_add ?_ ?_) ?_
     ·(first | omega | assumption | decide)
     ·(first | omega | assumption | decide)
     refine HO_move rfl rfl rfl ?_
     refine HO_nil ?_
     refine H_env (ρ':=[(13,_),(7,_),(1,_),(2,_),(8,_),(11,_),(12,_)]) ⟨rfl,rfl,rfl,rfl,rfl,rfl,rfl,trivial⟩ ?_
     refine H_inv (fun a w hf hA => ⟨⟨i + 1,(out ++ [z15]),d,a38,c38⟩,?_,?_,hf.sub ?_,?_⟩)
     ·exact ⟨by dsimp only;omega,(by have hn:=soStr.put_next Pair.key (x:=(⟨ke,cv⟩ : Pair)) hz15 hI.2.1;rw [show soStr.lt (Pair.key z15) (Pair.key (⟨ke,cv⟩ : Pair)) = false from h21] at hn;simpa [h24,h34,List.append_assoc] using hn),by dsimp only;(try simp only [List.length_append,List.length_cons,List.length_nil]);omega⟩
     ·(try dsimp only);omega
     ·exact ⟨rfl,rfl,rfl,rfl,rfl,rfl,rfl,trivial⟩
     ·exact hA.only (is:=[0,1]) (Z:=[]) rfl
    intro h34
    replace h34:=dT (nF h34)
    refine H_skip ?_
    refine H_blk ?_
    refine H_region (l:=[_,_]) rfl ?_
    refine HO_bin rfl rfl rfl rfl (bin_add ?_ ?_) ?_
    ·(first | omega | assumption | decide)
    ·(first | omega | assumption | decide)
    refine HO_move rfl rfl rfl ?_
    refine HO_nil ?_
    refine H_env (ρ':=[(13,_),(1,_),(2,_),(7,_),(8,_),(11,_),(12,_)]) ⟨rfl,rfl,rfl,rfl,rfl,rfl,rfl,trivial⟩ ?_
    refine H_world (kp [nn,yy,yy] [_,_] rfl) ?_
    refine H_inv (fun a w hf hA => ⟨⟨i + 1,out,d,p,q⟩,?_,?_,hf.sub ?_,?_⟩)
    ·exact ⟨by dsimp only;omega,(by have hn:=soStr.put_next Pair.key (x:=(⟨ke,cv⟩ : Pair)) hz15 hI.2.1;rw [show soStr.lt (Pair.key z15) (Pair.key (⟨ke,cv⟩ : Pair)) = false from h21] at hn;simpa [h24,h34,List.append_assoc] using hn),by dsimp only;(try simp only [List.length_append,List.length_cons,List.length_nil]);omega⟩
    ·(try dsimp only);omega
    ·exact ⟨rfl,rfl,rfl,rfl,rfl,rfl,rfl,trivial⟩
    ·exact hA.only (is:=[0,1]) (Z:=[]) rfl
   intro h21
   (try simp only [decide_eq_true_eq,decide_eq_false_iff_not,Bool.not_eq_true',Bool.not_eq_false',Bool.not_eq_true,Bool.not_eq_false,Bool.true_eq_false,Bool.false_eq_true,not_false_eq_true,not_true_eq_false] at h21)
   iterate 2 refine HO_no rfl rfl rfl ?_
   refine HO_pick_f rfl rfl rfl rfl ?_
   refine HO_nil ?_
   refine H_env (ρ':=[(24,_),(10,_),(1,_),(2,_),(7,_),(8,_),(11,_),(12,_),(13,_)]) ⟨rfl,rfl,rfl,rfl,rfl,rfl,rfl,rfl,rfl,trivial⟩ ?_
   refine H_cond rfl (fun h => nomatch h) (fun _ => ?_)
   refine H_skip ?_
   refine H_seq ?_
   refine H_region (l:=[_,_,_,_]) rfl ?_
   refine HO_fieldAddr (r:=0) rfl rfl rfl Try.underlying70 rfl Try.sizeOf9 rfl ?_
   refine HO_load1 (i:=0) (j:=0) rfl rfl rfl Try.isAgg9 rfl (.loc _ _ _) rfl rfl ?_
   refine HO_move rfl rfl rfl ?_
   refine HO_bin rfl rfl rfl rfl bin_nes ?_
   refine HO_nil ?_
   refine H_env (ρ':=[(34,_),(10,_),(1,_),(2,_),(7,_),(8,_),(11,_),(12,_),(13,_)]) ⟨rfl,rfl,rfl,rfl,rfl,rfl,rfl,rfl,rfl,trivial⟩ ?_
   refine H_cond rfl ?_ ?_
   ·intro h34
    replace h34:=dF (nT h34)
    refine H_region (l:=[_,_,_,_,_]) rfl ?_
    refine HO_move rfl rfl rfl ?_
    refine HO_loadA (i:=0) (us:=[]) (cs:=[_,_]) (ts:=[]) rfl rfl rfl Try.isAgg70 Try.sizeOf70 rfl (.loc _ _ _) rfl rfl rfl rfl ?_
    refine HO_buildSlice (kd:=kPair) (xo:=[_]) (vs:=[_]) (cs:=[_,_]) (xs:=[z15]) rfl rfl rfl rfl Try.underlying31 elt70 rfl rfl rfl (by decide) (by decide) (by simp [Value.cells]) rfl (fun ok w hA => ⟨_,_,rfl,⟨hI15,(),rfl,(fun a ha => nomatch ha)⟩,rfl⟩) ?_
    intro g37
    refine HO_append (i:=2) (R:=[_,_,_]) rfl rfl rfl rfl rfl Try.underlying31 elt70 rfl rfl (SrcOk.own (j:=0) Try.underlying31 rfl rfl) ?_ ?_
    ·(simp only [List.length_append,List.length_cons,List.length_nil];omega)
    intro a38 c38
    refine HO_assign rfl rfl rfl ?_
    refine HO_nil ?_
    refine H_env (ρ':=[(7,_),(1,_),(2,_),(8,_),(11,_),(12,_),(13,_)]) ⟨rfl,rfl,rfl,rfl,rfl,rfl,rfl,trivial⟩ ?_
    refine H_world (kp [yy,nn,nn,yy] [_,_] rfl) ?_
    refine H_blk ?_
    refine H_region (l:=[_,_]) rfl ?_
    refine HO_bin rfl rfl rfl rfl (bin_add ?_ ?_) ?_
    ·(first | omega | assumption | decide)
    ·(first | omega | assumption | decide)
    refine HO_move rfl rfl rfl ?_
    refine HO_nil ?_
    refine H_env (ρ':=[(13,_),(7,_),(1,_),(2,_),(8,_),(11,_),(12,_)]) ⟨rfl,rfl,rfl,rfl,rfl,rfl,rfl,trivial⟩ ?_
    refine H_inv (fun a w hf hA => ⟨⟨i + 1,(out ++ [z15]),d,a38,c38⟩,?_,?_,hf.sub ?_,?_⟩)
    ·exact ⟨by dsimp only;omega,(by have hn:=soStr.put_next Pair.key (x:=(⟨ke,cv⟩ : Pair)) hz15 hI.2.1;rw [show soStr.lt (Pair.key z15) (Pair.key (⟨ke,cv⟩ : Pair)) = true from h21] at hn;simpa [h34,List.append_assoc] using hn),by dsimp only;(try simp only [List.length_append,List.length_cons,List.length_nil]);omega⟩
    ·(try dsimp only);omega
    ·exact ⟨rfl,rfl,rfl,rfl,rfl,rfl,rfl,trivial⟩
    ·exact hA.only (is:=[0,1]) (Z:=[]) rfl
   intro h34
   replace h34:=dT (nF h34)
   refine H_skip ?_
   refine H_blk ?_
   refine H_region (l:=[_,_]) rfl ?_
   refine HO_bin rfl rfl rfl rfl (bin_add ?_ ?_) ?_
   ·(first | omega | assumption | decide)
   ·(first | omega | assumption | decide)
   refine HO_move rfl rfl rfl ?_
   refine HO_nil ?_
   refine H_env (ρ':=[(13,_),(1,_),(2,_),(7,_),(8,_),(11,_),(12,_)]) ⟨rfl,rfl,rfl,rfl,rfl,rfl,rfl,trivial⟩ ?_
   refine H_world (kp [nn,yy,yy] [_,_] rfl) ?_
   refine H_inv (fun a w hf hA => ⟨⟨i + 1,out,d,p,q⟩,?_,?_,hf.sub ?_,?_⟩)
   ·exact ⟨by dsimp only;omega,(by have hn:=soStr.put_next Pair.key (x:=(⟨ke,cv⟩ : Pair)) hz15 hI.2.1;rw [show soStr.lt (Pair.key z15) (Pair.key (⟨ke,cv⟩ : Pair)) = true from h21] at hn;simpa [h34,List.append_assoc] using hn),by dsimp only;(try simp only [List.length_append,List.length_cons,List.length_nil]);omega⟩
   ·(try dsimp only);omega
   ·exact ⟨rfl,rfl,rfl,rfl,rfl,rfl,rfl,trivial⟩
   ·exact hA.only (is:=[0,1]) (Z:=[]) rfl
  intro h14
  replace h14:=dF h14
  refine H_exit rfl ?_
  refine H_seq ?_
  refine H_seq ?_
  obtain rfl : i = xs.length:=by omega
  have hfin:=soStr.put_end Pair.key (x:=(⟨ke,cv⟩ : Pair)) hs hI.2.1
  refine H_region (l:=[_,_]) rfl ?_
  refine HO_move rfl rfl rfl ?_
  refine HO_not rfl rfl rfl ?_
  refine HO_nil ?_
  refine H_env (ρ':=[(41,_),(1,_),(2,_),(7,_)]) ⟨rfl,rfl,rfl,rfl,trivial⟩ ?_
  refine H_world (kp [yy,nn] [_] rfl) ?_
  refine H_cond rfl ?_ ?_
  ·intro h41
   replace h41:=nT h41
   refine H_region (l:=[_,_,_,_,_,_,_]) rfl ?_
   iterate 3 refine HO_move rfl rfl rfl ?_
   refine HO_build (xo:=[(0,_),(1,_)]) (vs:=[_,_]) rfl rfl rfl rfl (bd70_0_1_tt) ?_
   refine HO_buildSlice (kd:=kPair) (xo:=[_]) (vs:=[_]) (cs:=[_,_]) (xs:=[(⟨ke,cv⟩ : Pair)]) rfl rfl rfl rfl Try.underlying31 elt70 rfl rfl rfl (by decide) (by decide) (by simp [Value.cells]) rfl (fun ok w hA => ⟨_,_,rfl,⟨⟨sk,sc⟩,(),rfl,(fun a ha => nomatch ha)⟩,rfl⟩) ?_
   intro g46
   refine HO_append (i:=1) (R:=[_]) rfl rfl rfl rfl rfl Try.underlying31 elt70 rfl rfl (SrcOk.own (j:=0) Try.underlying31 rfl rfl) ?_ ?_
   ·(simp only [List.length_append,List.length_cons,List.length_nil];omega)
   intro a47 c47
   refine HO_assign rfl rfl rfl ?_
   refine HO_nil ?_
   refine H_env (ρ':=[(7,_)]) ⟨rfl,trivial⟩ ?_
   refine H_world (kp [yy,nn] [_] rfl) ?_
   refine H_seq ?_
   refine H_region (l:=[_,_]) rfl ?_
   refine HO_move rfl rfl rfl ?_
   refine HO_assign rfl rfl rfl ?_
   refine HO_nil ?_
   refine H_env (ρ':=[(6,_)]) ⟨rfl,trivial⟩ ?_
   refine H_freeze (i:=0) (R:=[]) rfl hMn ?_
   have hput : (Mod.pput ⟨ke,cv⟩ xs) = out ++ [(⟨ke,cv⟩ : Pair)]:=by rw [h41] at hfin;exact hfin.symm
   refine H_ret1 Try.results79 (.tmp rfl) (fun w hA => ⟨(a47,c47),congrArg Ending.returned ?_,?_,?_⟩)
   ·(rw [hput])
   ·trivial
   ·(rw [hput];exact hA.keep (m:=[yy]) (Y:=[_]) rfl)
  intro h41
  replace h41:=nF h41
  refine H_skip ?_
  refine H_seq ?_
  refine H_region (l:=[_,_]) rfl ?_
  refine HO_move rfl rfl rfl ?_
  refine HO_assign rfl rfl rfl ?_
  refine HO_nil ?_
  refine H_env (ρ':=[(6,_)]) ⟨rfl,trivial⟩ ?_
  refine H_freeze (i:=0) (R:=[]) rfl hMn ?_
  have hput : (Mod.pput ⟨ke,cv⟩ xs) = out:=by rw [h41] at hfin;exact hfin.symm.trans (by simp)
  refine H_ret1 Try.results79 (.tmp rfl) (fun w hA => ⟨(p,q),congrArg Ending.returned ?_,?_,?_⟩)
  ·(rw [hput])
  ·trivial
  ·(rw [hput];exact hA.keep (m:=[yy]) (Y:=[_]) rfl)
theorem rwithout_spec (xs : List Pair) (a : Option Addr) (c : Nat) (ke : ByteArray) (hs : soStr.Srt Pair.key xs) (hl : xs.length≤10000) : Spec Try.prog 80 #[.slice a (xs.length) c,.string (ke)] [.dat kPair.sl (xs) [.slice a (xs.length) c]] (β:=Option Addr × Nat) (fun y => .slice y.1 (((Mod.pcut ke xs)).length) y.2) (fun y => True) (fun y => [.dat kPair.sl ((Mod.pcut ke xs)) [.slice y.1 (((Mod.pcut ke xs)).length) y.2]]):=by
 refine Spec.enter (vs:=[_,_]) Try.func80 rfl Try.ntmps80 rfl (Nat.le_of_ble_eq_true rfl) (fun w0 ok0 => ?_)
 generalize hM0 : blks _ = M0
 have hMn:=@noM _ _ hM0 (by simp [Atom.dat,Atom.elem])
 refine H_len_le (i:=0) rfl ?_
 intro hlen0
 refine H_seq ?_
 refine H_region (l:=[_]) rfl ?_
 refine HO_assign rfl rfl rfl ?_
 refine HO_nil ?_
 refine H_env (ρ':=[(0,_),(1,_)]) ⟨rfl,rfl,trivial⟩ ?_
 refine H_seq ?_
 refine H_region (l:=[_]) rfl ?_
 refine HO_assign rfl rfl rfl ?_
 refine HO_nil ?_
 refine H_seq ?_
 refine H_seq ?_
 refine H_region (l:=[_,_,_]) rfl ?_
 refine HO_move rfl rfl rfl ?_
 refine HO_bi rfl rfl rfl (bi_len_sl Try.underlying31) ?_
 refine HO_move rfl rfl rfl ?_
 refine HO_nil ?_
 refine H_env (ρ':=[(10,_),(9,_),(8,_),(5,_),(1,_)]) ⟨rfl,rfl,rfl,rfl,rfl,trivial⟩ ?_
 refine H_block ?_
 refine H_own0 kPair 70 none ?_
 refine H_loop (σ:=Nat × List Pair × Option Addr × Nat) (fun s => s.1≤xs.length∧s.2.1 = (xs.take s.1).filter (fun y => decide (Pair.key y ≠ ke))∧s.2.1.length≤s.1) (fun s => [(1,.string (ke)),(5,.slice s.2.2.1 (s.2.1.length) s.2.2.2),(8,.slice a (xs.length) c),(9,.int .i64 ((xs.length : Int))),(10,.int .i64 ((s.1 : Int)))]) (fun s => Asn w0 ok0 M0 [.own 70 kPair s.2.2.1 s.2.2.2 (s.2.1),.dat kPair.sl (xs) [.slice a (xs.length) c]]) (fun s => xs.length - s.1) ⟨0,[],none,0⟩ ?_ ?_ ?_ ?_
 ·exact ⟨Nat.zero_le _,by simp,Nat.zero_le _⟩
 ·exact ⟨rfl,rfl,rfl,rfl,rfl,trivial⟩
 ·intro w hA
  exact hA.only (is:=[0,1]) (Z:=[]) rfl
 ·rintro ⟨i,out,p,q⟩ hI
  (try dsimp only at hI ⊢)
  refine H_seq ?_
  refine H_region (l:=[_]) rfl ?_
  refine HO_bin rfl rfl rfl rfl bin_lss ?_
  refine HO_nil ?_
  refine H_seq ?_
  refine H_cond rfl ?_ ?_
  ·intro h11
   replace h11:=dT h11
   refine H_skip ?_
   refine H_seq ?_
   refine H_block ?_
   refine H_seq ?_
   refine H_region (l:=[_,_,_,_]) rfl ?_
   refine HO_indexAddr open_Pair (i:=1) rfl rfl rfl rfl rfl Try.underlying31 Try.sizeOf70 rfl ?_ ?_
   ·omega
   intro b12 o12 z12 y12 hz12 hI12
   clear y12
   (try simp only [BIG] at hI12)
   refine HO_loadA (i:=0) (us:=[]) (cs:=[_,_]) (ts:=[]) rfl rfl rfl Try.isAgg70 Try.sizeOf70 rfl (.elem _ _ _) rfl rfl rfl rfl ?_
   refine HO_alloc (cs:=[_,_]) rfl rfl Try.zeroValue70 rfl ?_
   intro g7
   refine HO_store (i:=0) (j:=0) (us:=[]) (old:=[_,_]) (ts:=[]) (cs:=[_,_]) (R:=[_,_,_]) (new:=[_,_]) rfl rfl rfl Try.sizeOf70 rfl (by simp [Value.oneCell']) rfl rfl rfl rfl rfl rfl ?_
   refine HO_nil ?_
   refine H_env (ρ':=[(7,_),(1,_),(5,_),(8,_),(9,_),(10,_)]) ⟨rfl,rfl,rfl,rfl,rfl,rfl,trivial⟩ ?_
   refine H_world (kp [yy,nn,yy,yy] [_,_,_] rfl) ?_
   refine H_seq ?_
   refine H_region (l:=[_,_,_,_]) rfl ?_
   refine HO_fieldAddr (r:=0) rfl rfl rfl Try.underlying70 rfl Try.sizeOf9 rfl ?_
   refine HO_load1 (i:=0) (j:=0) rfl rfl rfl Try.isAgg9 rfl (.loc _ _ _) rfl rfl ?_
   refine HO_move rfl rfl rfl ?_
   refine HO_bin rfl rfl rfl rfl bin_nes ?_
   refine HO_nil ?_
   refine H_env (ρ':=[(17,_),(7,_),(1,_),(5,_),(8,_),(9,_),(10,_)]) ⟨rfl,rfl,rfl,rfl,rfl,rfl,rfl,trivial⟩ ?_
   refine H_cond rfl ?_ ?_
   ·intro h17
    replace h17:=dF (nT h17)
    refine H_region (l:=[_,_,_,_,_]) rfl ?_
    refine HO_move rfl rfl rfl ?_
    refine HO_loadA (i:=0) (us:=[]) (cs:=[_,_]) (ts:=[]) rfl rfl rfl Try.isAgg70 Try.sizeOf70 rfl (.loc _ _ _) rfl rfl rfl rfl ?_
    refine HO_buildSlice (kd:=kPair) (xo:=[_]) (vs:=[_]) (cs:=[_,_]) (xs:=[z12]) rfl rfl rfl rfl Try.underlying31 elt70 rfl rfl rfl (by decide) (by decide) (by simp [Value.cells]) rfl (fun ok w hA => ⟨_,_,rfl,⟨hI12,(),rfl,(fun a ha => nomatch ha)⟩,rfl⟩) ?_
    intro g20
    refine HO_append (i:=2) (R:=[_,_,_]) rfl rfl rfl rfl rfl Try.underlying31 elt70 rfl rfl (SrcOk.own (j:=0) Try.underlying31 rfl rfl) ?_ ?_
    ·(simp only [List.length_append,List.length_cons,List.length_nil];omega)
    intro a21 c21
    refine HO_assign rfl rfl rfl ?_
    refine HO_nil ?_
    refine H_env (ρ':=[(5,_),(1,_),(8,_),(9,_),(10,_)]) ⟨rfl,rfl,rfl,rfl,rfl,trivial⟩ ?_
    refine H_world (kp [yy,nn,nn,yy] [_,_] rfl) ?_
    refine H_blk ?_
    refine H_region (l:=[_,_]) rfl ?_
    refine HO_bin rfl rfl rfl rfl (bin_add ?_ ?_) ?_
    ·(first | omega | assumption | decide)
    ·(first | omega | assumption | decide)
    refine HO_move rfl rfl rfl ?_
    refine HO_nil ?_
    refine H_env (ρ':=[(10,_),(5,_),(1,_),(8,_),(9,_)]) ⟨rfl,rfl,rfl,rfl,rfl,trivial⟩ ?_
    refine H_inv (fun a w hf hA => ⟨⟨i + 1,out ++ [z12],a21,c21⟩,?_,?_,hf.sub ?_,?_⟩)
    ·exact ⟨by dsimp only;omega,by dsimp only;rw [SO.cut_next (key:=Pair.key) hz12,← hI.2.1,if_pos h17],by dsimp only;(try simp only [List.length_append,List.length_cons,List.length_nil]);omega⟩
    ·(try dsimp only);omega
    ·exact ⟨rfl,rfl,rfl,rfl,rfl,trivial⟩
    ·exact hA.only (is:=[0,1]) (Z:=[]) rfl
   intro h17
   replace h17:=dT (nF h17)
   refine H_skip ?_
   refine H_blk ?_
   refine H_region (l:=[_,_]) rfl ?_
   refine HO_bin rfl rfl rfl rfl (bin_add ?_ ?_) ?_
   ·(first | omega | assumption | decide)
   ·(first | omega | assumption | decide)
   refine HO_move rfl rfl rfl ?_
   refine HO_nil ?_
   refine H_env (ρ':=[(10,_),(1,_),(5,_),(8,_),(9,_)]) ⟨rfl,rfl,rfl,rfl,rfl,trivial⟩ ?_
   refine H_world (kp [nn,yy,yy] [_,_] rfl) ?_
   refine H_inv (fun a w hf hA => ⟨⟨i + 1,out,p,q⟩,?_,?_,hf.sub ?_,?_⟩)
   ·exact ⟨by dsimp only;omega,by dsimp only;rw [SO.cut_next (key:=Pair.key) hz12,← hI.2.1,if_neg (fun h => h h17),List.append_nil],by dsimp only;(try simp only [List.length_append,List.length_cons,List.length_nil]);omega⟩
   ·(try dsimp only);omega
   ·exact ⟨rfl,rfl,rfl,rfl,rfl,trivial⟩
   ·exact hA.only (is:=[0,1]) (Z:=[]) rfl
  intro h11
  replace h11:=dF h11
  refine H_exit rfl ?_
  refine H_seq ?_
  obtain rfl : i = xs.length:=by omega
  have hc:=hI.2.1
  rw [List.take_length] at hc
  have hcut : (Mod.pcut ke xs) = out:=(soStr.cut_eq Pair.key (k:=ke) hs).symm.trans hc.symm
  refine H_region (l:=[_,_]) rfl ?_
  refine HO_move rfl rfl rfl ?_
  refine HO_assign rfl rfl rfl ?_
  refine HO_nil ?_
  refine H_env (ρ':=[(4,_)]) ⟨rfl,trivial⟩ ?_
  refine H_world (kp [yy,nn] [_] rfl) ?_
  refine H_freeze (i:=0) (R:=[]) rfl hMn ?_
  refine H_ret1 Try.results80 (.tmp rfl) (fun w hA => ⟨(p,q),congrArg Ending.returned ?_,?_,?_⟩)
  ·(rw [hcut])
  ·trivial
  ·(rw [hcut];exact hA.keep (m:=[yy]) (Y:=[_]) rfl)
theorem rcut_spec (xs : List Pair) (a : Option Addr) (c : Nat) (ke ti : ByteArray) (li : Int) (hs : soStr.Srt Pair.key xs) (hl : xs.length≤10000) (h0 : 0≤li) : Spec Try.prog 81 #[.slice a (xs.length) c,.string (ke),.string (ti),.int .i64 (li)] [.dat kPair.sl (xs) [.slice a (xs.length) c]] (β:=Option Addr × Nat) (fun y => .slice y.1 (((Mod.scanL ke ti li xs)).length) y.2) (fun y => True) (fun y => [.dat kPair.sl ((Mod.scanL ke ti li xs)) [.slice y.1 (((Mod.scanL ke ti li xs)).length) y.2]]):=by
 refine Spec.enter (vs:=[_,_,_,_]) Try.func81 rfl Try.ntmps81 rfl (Nat.le_of_ble_eq_true rfl) (fun w0 ok0 => ?_)
 generalize hM0 : blks _ = M0
 have hMn:=@noM _ _ hM0 (by simp [Atom.dat,Atom.elem])
 refine H_len_le (i:=0) rfl ?_
 intro hlen0
 refine H_seq ?_
 refine H_region (l:=[_]) rfl ?_
 refine HO_assign rfl rfl rfl ?_
 refine HO_nil ?_
 refine H_env (ρ':=[(0,_),(1,_),(2,_),(3,_)]) ⟨rfl,rfl,rfl,rfl,trivial⟩ ?_
 refine H_seq ?_
 refine H_region (l:=[_]) rfl ?_
 refine HO_assign rfl rfl rfl ?_
 refine HO_nil ?_
 refine H_seq ?_
 refine H_seq ?_
 refine H_region (l:=[_,_,_]) rfl ?_
 refine HO_move rfl rfl rfl ?_
 refine HO_bi rfl rfl rfl (bi_len_sl Try.underlying31) ?_
 refine HO_move rfl rfl rfl ?_
 refine HO_nil ?_
 refine H_env (ρ':=[(14,_),(13,_),(12,_),(9,_),(1,_),(2,_),(3,_)]) ⟨rfl,rfl,rfl,rfl,rfl,rfl,rfl,trivial⟩ ?_
 refine H_block ?_
 refine H_own0 kPair 70 none ?_
 refine H_loop (σ:=Nat × List Pair × Option Addr × Nat) (fun s => s.1≤xs.length∧s.2.1 = ((xs.take s.1).filter (Mod.inScan ke ti)).take li.toNat∧s.2.1.length≤s.1) (fun s => [(1,.string (ke)),(2,.string (ti)),(3,.int .i64 (li)),(9,.slice s.2.2.1 (s.2.1.length) s.2.2.2),(12,.slice a (xs.length) c),(13,.int .i64 ((xs.length : Int))),(14,.int .i64 ((s.1 : Int)))]) (fun s => Asn w0 ok0 M0 [.own 70 kPair s.2.2.1 s.2.2.2 (s.2.1),.dat kPair.sl (xs) [.slice a (xs.length) c]]) (fun s => xs.length - s.1) ⟨0,[],none,0⟩ ?_ ?_ ?_ ?_
 ·exact ⟨Nat.zero_le _,by simp,Nat.zero_le _⟩
 ·exact ⟨rfl,rfl,rfl,rfl,rfl,rfl,rfl,trivial⟩
 ·intro w hA
  exact hA.only (is:=[0,1]) (Z:=[]) rfl
 ·rintro ⟨i,out,p,q⟩ hI
  (try dsimp only at hI ⊢)
  refine H_seq ?_
  refine H_region (l:=[_]) rfl ?_
  refine HO_bin rfl rfl rfl rfl bin_lss ?_
  refine HO_nil ?_
  refine H_seq ?_
  refine H_cond rfl ?_ ?_
  ·intro h15
   replace h15:=dT h15
   refine H_skip ?_
   refine H_seq ?_
   refine H_block ?_
   refine H_seq ?_
   refine H_region (l:=[_,_,_,_]) rfl ?_
   refine HO_indexAddr open_Pair (i:=1) rfl rfl rfl rfl rfl Try.underlying31 Try.sizeOf70 rfl ?_ ?_
   ·omega
   intro b16 o16 z16 y16 hz16 hI16
   clear y16
   (try simp only [BIG] at hI16)
   refine HO_loadA (i:=0) (us:=[]) (cs:=[_,_]) (ts:=[]) rfl rfl rfl Try.isAgg70 Try.sizeOf70 rfl (.elem _ _ _) rfl rfl rfl rfl ?_
   refine HO_alloc (cs:=[_,_]) rfl rfl Try.zeroValue70 rfl ?_
   intro g11
   refine HO_store (i:=0) (j:=0) (us:=[]) (old:=[_,_]) (ts:=[]) (cs:=[_,_]) (R:=[_,_,_]) (new:=[_,_]) rfl rfl rfl Try.sizeOf70 rfl (by simp [Value.oneCell']) rfl rfl rfl rfl rfl rfl ?_
   refine HO_nil ?_
   refine H_env (ρ':=[(11,_),(1,_),(2,_),(3,_),(9,_),(12,_),(13,_),(14,_)]) ⟨rfl,rfl,rfl,rfl,rfl,rfl,rfl,rfl,trivial⟩ ?_
   refine H_world (kp [yy,nn,yy,yy] [_,_,_] rfl) ?_
   refine H_seq ?_
   refine H_region (l:=[_,_,_,_,_,_,_,_,_,_,_,_,_,_,_,_,_,_,_,_]) rfl ?_
   refine HO_fieldAddr (r:=0) rfl rfl rfl Try.underlying70 rfl Try.sizeOf9 rfl ?_
   refine HO_load1 (i:=0) (j:=0) rfl rfl rfl Try.isAgg9 rfl (.loc _ _ _) rfl rfl ?_
   refine HO_move rfl rfl rfl ?_
   refine HO_bin rfl rfl rfl rfl bin_ges ?_
   refine HO_move rfl rfl rfl ?_
   refine HO_split (d:=22) rfl ?_ ?_
   ·intro h22
    (try simp only [decide_eq_true_eq,decide_eq_false_iff_not,Bool.not_eq_true',Bool.not_eq_false',Bool.not_eq_true,Bool.not_eq_false,Bool.true_eq_false,Bool.false_eq_true,not_false_eq_true,not_true_eq_false] at h22)
    refine HO_move rfl rfl rfl ?_
    refine HO_bin rfl rfl rfl rfl bin_eqs ?_
    refine HO_move rfl rfl rfl ?_
    refine HO_split (d:=25) rfl ?_ ?_
    ·intro h25
     replace h25:=dT h25
     iterate 4 refine HO_no rfl rfl rfl ?_
     iterate 2 refine HO_pick_t rfl rfl rfl rfl ?_
     iterate 2 refine HO_move rfl rfl rfl ?_
     refine HO_bi rfl rfl rfl (bi_len_sl Try.underlying31) ?_
     refine HO_move rfl rfl rfl ?_
     refine HO_bin rfl rfl rfl rfl bin_lss ?_
     refine HO_pick_t rfl rfl rfl rfl ?_
     refine HO_nil ?_
     refine H_env (ρ':=[(37,_),(11,_),(1,_),(2,_),(3,_),(9,_),(12,_),(13,_),(14,_)]) ⟨rfl,rfl,rfl,rfl,rfl,rfl,rfl,rfl,rfl,trivial⟩ ?_
     refine H_cond rfl ?_ ?_
     ·intro h37
      replace h37:=dT h37
      refine H_region (l:=[_,_,_,_,_]) rfl ?_
      refine HO_move rfl rfl rfl ?_
      refine HO_loadA (i:=0) (us:=[]) (cs:=[_,_]) (ts:=[]) rfl rfl rfl Try.isAgg70 Try.sizeOf70 rfl (.loc _ _ _) rfl rfl rfl rfl ?_
      refine HO_buildSlice (kd:=kPair) (xo:=[_]) (vs:=[_]) (cs:=[_,_]) (xs:=[z16]) rfl rfl rfl rfl Try.underlying31 elt70 rfl rfl rfl (by decide) (by decide) (by simp [Value.cells]) rfl (fun ok w hA => ⟨_,_,rfl,⟨hI16,(),rfl,(fun a ha => nomatch ha)⟩,rfl⟩) ?_
      intro g40
      refine HO_append (i:=2) (R:=[_,_,_]) rfl rfl rfl rfl rfl Try.underlying31 elt70 rfl rfl (SrcOk.own (j:=0) Try.underlying31 rfl rfl) ?_ ?_
      ·(simp only [List.length_append,List.length_cons,List.length_nil];omega)
      intro a41 c41
      refine HO_assign rfl rfl rfl ?_
      refine HO_nil ?_
      refine H_env (ρ':=[(9,_),(1,_),(2,_),(3,_),(12,_),(13,_),(14,_)]) ⟨rfl,rfl,rfl,rfl,rfl,rfl,rfl,trivial⟩ ?_
      refine H_world (kp [yy,nn,nn,yy] [_,_] rfl) ?_
      refine H_blk ?_
      have hsn:=Mod.scan_next (ke:=ke) (ti:=ti) (n:=li.toNat) hz16
      refine H_region (l:=[_,_]) rfl ?_
      refine HO_bin rfl rfl rfl rfl (bin_add ?_ ?_) ?_
      ·(first | omega | assumption | decide)
      ·(first | omega | assumption | decide)
      refine HO_move rfl rfl rfl ?_
      refine HO_nil ?_
      refine H_env (ρ':=[(14,_),(9,_),(1,_),(2,_),(3,_),(12,_),(13,_)]) ⟨rfl,rfl,rfl,rfl,rfl,rfl,rfl,trivial⟩ ?_
      refine H_inv (fun a w hf hA => ⟨⟨i + 1,out ++ [z16],a41,c41⟩,?_,?_,hf.sub ?_,?_⟩)
      ·(have hcond : (Mod.inScan ke ti z16 = true∧out.length < li.toNat):=by simp only [Mod.inScan,soStr,Cmd.empty];first | (simp [*];done) | (simp [*];omega) | (simp_all;done) | (simp_all;omega));exact ⟨by dsimp only;omega,by dsimp only;rw [hsn,← hI.2.1,if_pos hcond],by dsimp only;(try simp only [List.length_append,List.length_cons,List.length_nil]);omega⟩
      ·(try dsimp only);omega
      ·exact ⟨rfl,rfl,rfl,rfl,rfl,rfl,rfl,trivial⟩
      ·exact hA.only (is:=[0,1]) (Z:=[]) rfl
     intro h37
     replace h37:=dF h37
     refine H_skip ?_
     refine H_blk ?_
     have hsn:=Mod.scan_next (ke:=ke) (ti:=ti) (n:=li.toNat) hz16
     refine H_region (l:=[_,_]) rfl ?_
     refine HO_bin rfl rfl rfl rfl (bin_add ?_ ?_) ?_
     ·(first | omega | assumption | decide)
     ·(first | omega | assumption | decide)
     refine HO_move rfl rfl rfl ?_
     refine HO_nil ?_
     refine H_env (ρ':=[(14,_),(1,_),(2,_),(3,_),(9,_),(12,_),(13,_)]) ⟨rfl,rfl,rfl,rfl,rfl,rfl,rfl,trivial⟩ ?_
     refine H_world (kp [nn,yy,yy] [_,_] rfl) ?_
     refine H_inv (fun a w hf hA => ⟨⟨i + 1,out,p,q⟩,?_,?_,hf.sub ?_,?_⟩)
     ·(have hcond : ¬(Mod.inScan ke ti z16 = true∧out.length < li.toNat):=by simp only [Mod.inScan,soStr,Cmd.empty];first | (simp [*];done) | (simp [*];omega) | (simp_all;done) | (simp_all;omega));exact ⟨by dsimp only;omega,by dsimp only;rw [hsn,← hI.2.1,if_neg hcond];rw [List.append_nil],by dsimp only;(try simp only [List.length_append,List.length_cons,List.length_nil]);omega⟩
     ·(try dsimp only);omega
     ·exact ⟨rfl,rfl,rfl,rfl,rfl,rfl,rfl,trivial⟩
     ·exact hA.only (is:=[0,1]) (Z:=[]) rfl
    intro h25
    replace h25:=dF h25
    refine HO_fieldAddr (r:=0) rfl rfl rfl Try.underlying70 rfl Try.sizeOf9 rfl ?_
    refine HO_load1 (i:=0) (j:=0) rfl rfl rfl Try.isAgg9 rfl (.loc _ _ _) rfl rfl ?_
    refine HO_move rfl rfl rfl ?_
    refine HO_bin rfl rfl rfl rfl bin_lts ?_
    refine HO_pick_f rfl rfl rfl rfl ?_
    refine HO_pick_t rfl rfl rfl rfl ?_
    refine HO_move rfl rfl rfl ?_
    refine HO_split (d:=32) rfl ?_ ?_
    ·intro h32
     refine HO_move rfl rfl rfl ?_
     refine HO_bi rfl rfl rfl (bi_len_sl Try.underlying31) ?_
     refine HO_move rfl rfl rfl ?_
     refine HO_bin rfl rfl rfl rfl bin_lss ?_
     refine HO_pick_t rfl rfl rfl rfl ?_
     refine HO_nil ?_
     refine H_env (ρ':=[(37,_),(11,_),(1,_),(2,_),(3,_),(9,_),(12,_),(13,_),(14,_)]) ⟨rfl,rfl,rfl,rfl,rfl,rfl,rfl,rfl,rfl,trivial⟩ ?_
     refine H_cond rfl ?_ ?_
     ·intro h37
      replace h37:=dT h37
      refine H_region (l:=[_,_,_,_,_]) rfl ?_
      refine HO_move rfl rfl rfl ?_
      refine HO_loadA (i:=0) (us:=[]) (cs:=[_,_]) (ts:=[]) rfl rfl rfl Try.isAgg70 Try.sizeOf70 rfl (.loc _ _ _) rfl rfl rfl rfl ?_
      refine HO_buildSlice (kd:=kPair) (xo:=[_]) (vs:=[_]) (cs:=[_,_]) (xs:=[z16]) rfl rfl rfl rfl Try.underlying31 elt70 rfl rfl rfl (by decide) (by decide) (by simp [Value.cells]) rfl (fun ok w hA => ⟨_,_,rfl,⟨hI16,(),rfl,(fun a ha => nomatch ha)⟩,rfl⟩) ?_
      intro g40
      refine HO_append (i:=2) (R:=[_,_,_]) rfl rfl rfl rfl rfl Try.underlying31 elt70 rfl rfl (SrcOk.own (j:=0) Try.underlying31 rfl rfl) ?_ ?_
      ·(simp only [List.length_append,List.length_cons,List.length_nil];omega)
      intro a41 c41
      refine HO_assign rfl rfl rfl ?_
      refine HO_nil ?_
      refine H_env (ρ':=[(9,_),(1,_),(2,_),(3,_),(12,_),(13,_),(14,_)]) ⟨rfl,rfl,rfl,rfl,rfl,rfl,rfl,trivial⟩ ?_
      refine H_world (kp [yy,nn,nn,yy] [_,_] rfl) ?_
      refine H_blk ?_
      have hsn:=Mod.scan_next (ke:=ke) (ti:=ti) (n:=li.toNat) hz16
      refine H_region (l:=[_,_]) rfl ?_
      refine HO_bin rfl rfl rfl rfl (bin_add ?_ ?_) ?_
      ·(first | omega | assumption | decide)
      ·(first | omega | assumption | decide)
      refine HO_move rfl rfl rfl ?_
      refine HO_nil ?_
      refine H_env (ρ':=[(14,_),(9,_),(1,_),(2,_),(3,_),(12,_),(13,_)]) ⟨rfl,rfl,rfl,rfl,rfl,rfl,rfl,trivial⟩ ?_
      refine H_inv (fun a w hf hA => ⟨⟨i + 1,out ++ [z16],a41,c41⟩,?_,?_,hf.sub ?_,?_⟩)
      ·(have hcond : (Mod.inScan ke ti z16 = true∧out.length < li.toNat):=by simp only [Mod.inScan,soStr,Cmd.empty];first | (simp [*];done) | (simp [*];omega) | (simp_all;done) | (simp_all;omega));exact ⟨by dsimp only;omega,by dsimp only;rw [hsn,← hI.2.1,if_pos hcond],by dsimp only;(try simp only [List.length_append,List.length_cons,List.length_nil]);omega⟩
      ·(try dsimp only);omega
      ·exact ⟨rfl,rfl,rfl,rfl,rfl,rfl,rfl,trivial⟩
      ·exact hA.only (is:=[0,1]) (Z:=[]) rfl
     intro h37
     replace h37:=dF h37
     refine H_skip ?_
     refine H_blk ?_
     have hsn:=Mod.scan_next (ke:=ke) (ti:=ti) (n:=li.toNat) hz16
     refine H_region (l:=[_,_]) rfl ?_
     refine HO_bin rfl rfl rfl rfl (bin_add ?_ ?_) ?_
     ·(first | omega | assumption | decide)
     ·(first | omega | assumption | decide)
     refine HO_move rfl rfl rfl ?_
     refine HO_nil ?_
     refine H_env (ρ':=[(14,_),(1,_),(2,_),(3,_),(9,_),(12,_),(13,_)]) ⟨rfl,rfl,rfl,rfl,rfl,rfl,rfl,trivial⟩ ?_
     refine H_world (kp [nn,yy,yy] [_,_] rfl) ?_
     refine H_inv (fun a w hf hA => ⟨⟨i + 1,out,p,q⟩,?_,?_,hf.sub ?_,?_⟩)
     ·(have hcond : ¬(Mod.inScan ke ti z16 = true∧out.length < li.toNat):=by simp only [Mod.inScan,soStr,Cmd.empty];first | (simp [*];done) | (simp [*];omega) | (simp_all;done) | (simp_all;omega));exact ⟨by dsimp only;omega,by dsimp only;rw [hsn,← hI.2.1,if_neg hcond];rw [List.append_nil],by dsimp only;(try simp only [List.length_append,List.length_cons,List.length_nil]);omega⟩
     ·(try dsimp only);omega
     ·exact ⟨rfl,rfl,rfl,rfl,rfl,rfl,rfl,trivial⟩
     ·exact hA.only (is:=[0,1]) (Z:=[]) rfl
    intro h32
    iterate 4 refine HO_no rfl rfl rfl ?_
    refine HO_pick_f rfl rfl rfl rfl ?_
    refine HO_nil ?_
    refine H_env (ρ':=[(37,_),(11,_),(1,_),(2,_),(3,_),(9,_),(12,_),(13,_),(14,_)]) ⟨rfl,rfl,rfl,rfl,rfl,rfl,rfl,rfl,rfl,trivial⟩ ?_
    refine H_cond rfl (fun h => nomatch h) (fun _ => ?_)
    refine H_skip ?_
    refine H_blk ?_
    have hsn:=Mod.scan_next (ke:=ke) (ti:=ti) (n:=li.toNat) hz16
    refine H_region (l:=[_,_]) rfl ?_
    refine HO_bin rfl rfl rfl rfl (bin_add ?_ ?_) ?_
    ·(first | omega | assumption | decide)
    ·(first | omega | assumption | decide)
    refine HO_move rfl rfl rfl ?_
    refine HO_nil ?_
    refine H_env (ρ':=[(14,_),(1,_),(2,_),(3,_),(9,_),(12,_),(13,_)]) ⟨rfl,rfl,rfl,rfl,rfl,rfl,rfl,trivial⟩ ?_
    refine H_world (kp [nn,yy,yy] [_,_] rfl) ?_
    refine H_inv (fun a w hf hA => ⟨⟨i + 1,out,p,q⟩,?_,?_,hf.sub ?_,?_⟩)
    ·(have hcond : ¬(Mod.inScan ke ti z16 = true∧out.length < li.toNat):=by simp only [Mod.inScan,soStr,Cmd.empty];first | (simp [*];done) | (simp [*];omega) | (simp_all;done) | (simp_all;omega));exact ⟨by dsimp only;omega,by dsimp only;rw [hsn,← hI.2.1,if_neg hcond];rw [List.append_nil],by dsimp only;(try simp only [List.length_append,List.length_cons,List.length_nil]);omega⟩
    ·(try dsimp only);omega
    ·exact ⟨rfl,rfl,rfl,rfl,rfl,rfl,rfl,trivial⟩
    ·exact hA.only (is:=[0,1]) (Z:=[]) rfl
   intro h22
   (try simp only [decide_eq_true_eq,decide_eq_false_iff_not,Bool.not_eq_true',Bool.not_eq_false',Bool.not_eq_true,Bool.not_eq_false,Bool.true_eq_false,Bool.false_eq_true,not_false_eq_true,not_true_eq_false] at h22)
   iterate 8 refine HO_no rfl rfl rfl ?_
   refine HO_pick_f rfl rfl rfl rfl ?_
   refine HO_move rfl rfl rfl ?_
   iterate 4 refine HO_no rfl rfl rfl ?_
   refine HO_pick_f rfl rfl rfl rfl ?_
   refine HO_nil ?_
   refine H_env (ρ':=[(37,_),(11,_),(1,_),(2,_),(3,_),(9,_),(12,_),(13,_),(14,_)]) ⟨rfl,rfl,rfl,rfl,rfl,rfl,rfl,rfl,rfl,trivial⟩ ?_
   refine H_cond rfl (fun h => nomatch h) (fun _ => ?_)
   refine H_skip ?_
   refine H_blk ?_
   have hsn:=Mod.scan_next (ke:=ke) (ti:=ti) (n:=li.toNat) hz16
   refine H_region (l:=[_,_]) rfl ?_
   refine HO_bin rfl rfl rfl rfl (bin_add ?_ ?_) ?_
   ·(first | omega | assumption | decide)
   ·(first | omega | assumption | decide)
   refine HO_move rfl rfl rfl ?_
   refine HO_nil ?_
   refine H_env (ρ':=[(14,_),(1,_),(2,_),(3,_),(9,_),(12,_),(13,_)]) ⟨rfl,rfl,rfl,rfl,rfl,rfl,rfl,trivial⟩ ?_
   refine H_world (kp [nn,yy,yy] [_,_] rfl) ?_
   refine H_inv (fun a w hf hA => ⟨⟨i + 1,out,p,q⟩,?_,?_,hf.sub ?_,?_⟩)
   ·(have hcond : ¬(Mod.inScan ke ti z16 = true∧out.length < li.toNat):=by simp only [Mod.inScan,soStr,Cmd.empty];first | (simp [*];done) | (simp [*];omega) | (simp_all;done) | (simp_all;omega));exact ⟨by dsimp only;omega,by dsimp only;rw [hsn,← hI.2.1,if_neg hcond];rw [List.append_nil],by dsimp only;(try simp only [List.length_append,List.length_cons,List.length_nil]);omega⟩
   ·(try dsimp only);omega
   ·exact ⟨rfl,rfl,rfl,rfl,rfl,rfl,rfl,trivial⟩
   ·exact hA.only (is:=[0,1]) (Z:=[]) rfl
  intro h15
  replace h15:=dF h15
  refine H_exit rfl ?_
  refine H_seq ?_
  obtain rfl : i = xs.length:=by omega
  have hc:=hI.2.1
  rw [List.take_length] at hc
  have hcut : (Mod.scanL ke ti li xs) = out:=(Mod.scan_filter hs).trans hc.symm
  refine H_region (l:=[_,_]) rfl ?_
  refine HO_move rfl rfl rfl ?_
  refine HO_assign rfl rfl rfl ?_
  refine HO_nil ?_
  refine H_env (ρ':=[(8,_)]) ⟨rfl,trivial⟩ ?_
  refine H_world (kp [yy,nn] [_] rfl) ?_
  refine H_freeze (i:=0) (R:=[]) rfl hMn ?_
  refine H_ret1 Try.results81 (.tmp rfl) (fun w hA => ⟨(p,q),congrArg Ending.returned ?_,?_,?_⟩)
  ·(rw [hcut])
  ·trivial
  ·(rw [hcut];exact hA.keep (m:=[yy]) (Y:=[_]) rfl)
theorem rdoes_spec (xs : List Pair) (a : Option Addr) (c : Nat) (ki cs sq : Int) (ke ol cv ti : ByteArray) (li : Int) (hs : soStr.Srt Pair.key xs) (hl : xs.length≤2000) (sk : ke.size≤BIG) (sc : cv.size≤BIG) (hL : ki = 7→1≤li∧li≤64) : Spec Try.prog 52 #[.slice a (xs.length) c,.agg #[.int .i64 (ki),.int .i64 (cs),.int .i64 (sq),.string (ke),.string (ol),.string (cv),.string (ti),.int .i64 (li)]] [.dat kPair.sl (xs) [.slice a (xs.length) c]] (β:=(Option Addr × Nat) × (Option Addr × Nat)) (fun y => .tuple #[.slice y.1.1 (((Mod.doesP xs (⟨ki,cs,sq,ke,ol,cv,ti,li⟩ : Cmd))).length) y.1.2,.agg #[.int .i64 ((Mod.doesR xs (⟨ki,cs,sq,ke,ol,cv,ti,li⟩ : Cmd)).err),.bool ((Mod.doesR xs (⟨ki,cs,sq,ke,ol,cv,ti,li⟩ : Cmd)).found),.string ((Mod.doesR xs (⟨ki,cs,sq,ke,ol,cv,ti,li⟩ : Cmd)).val),.int .i64 ((Mod.doesR xs (⟨ki,cs,sq,ke,ol,cv,ti,li⟩ : Cmd)).sess),.slice y.2.1 (((Mod.doesR xs (⟨ki,cs,sq,ke,ol,cv,ti,li⟩ : Cmd)).pairs).length) y.2.2]]) (fun y => True) (fun y => [.dat kPair.sl ((Mod.doesP xs (⟨ki,cs,sq,ke,ol,cv,ti,li⟩ : Cmd))) [.slice y.1.1 (((Mod.doesP xs (⟨ki,cs,sq,ke,ol,cv,ti,li⟩ : Cmd))).length) y.1.2],.dat kPair.sl ((Mod.doesR xs (⟨ki,cs,sq,ke,ol,cv,ti,li⟩ : Cmd)).pairs) [.slice y.2.1 (((Mod.doesR xs (⟨ki,cs,sq,ke,ol,cv,ti,li⟩ : Cmd)).pairs).length) y.2.2]]):=by
 refine Spec.enter (vs:=[_,_]) Try.func52 rfl Try.ntmps52 rfl (Nat.le_of_ble_eq_true rfl) (fun w0 ok0 => ?_)
 generalize hM0 : blks _ = M0
 have hMn:=@noM _ _ hM0 (by simp [Atom.dat,Atom.elem])
 refine H_len_le (i:=0) rfl ?_
 intro hlen0
 refine H_seq ?_
 refine H_region (l:=[_,_,_]) rfl ?_
 refine HO_box (cs:=[_,_,_,_,_,_,_,_]) rfl rfl rfl rfl ?_
 intro g3
 refine HO_assign rfl rfl rfl ?_
 refine HO_alloc (cs:=[_,_,_,_,_]) rfl rfl Try.zeroValue38 rfl ?_
 intro g5
 refine HO_nil ?_
 refine H_env (ρ':=[(5,_),(3,_),(0,_)]) ⟨rfl,rfl,rfl,trivial⟩ ?_
 refine H_seq ?_
 refine H_region (l:=[_,_,_,_,_,_,_,_,_]) rfl ?_
 refine HO_move rfl rfl rfl ?_
 refine HO_fieldAddr (r:=3) rfl rfl rfl Try.underlying36 rfl Try.sizeOf9 rfl ?_
 refine HO_load1 (i:=1) (j:=3) rfl rfl rfl Try.isAgg9 rfl (.loc _ _ _) rfl rfl ?_
 refine HO_dup (i:=2) rfl rfl ?_
 refine HO_call (first:=[]) (capt:=[]) (is:=[0]) (R:=[_,_,_]) rfl rfl rfl rfl rfl Try.call78 rfl (rget_spec _ _ _ _ ?_) ?_
 ·exact hs
 intro y13 hy13
 clear y13 hy13
 refine HO_move rfl rfl rfl ?_
 refine HO_extract (vs:=[_,_]) rfl rfl rfl rfl ?_
 refine HO_extract (vs:=[_,_]) rfl rfl rfl rfl ?_
 iterate 2 refine HO_assign rfl rfl rfl ?_
 refine HO_nil ?_
 refine H_env (ρ':=[(7,_),(6,_),(5,_),(3,_),(0,_)]) ⟨rfl,rfl,rfl,rfl,rfl,trivial⟩ ?_
 refine H_seq ?_
 have hv : Mod.valAt ke xs = Mod.valAt ke xs:=rfl
 refine H_region (l:=[_,_,_,_,_]) rfl ?_
 iterate 2 refine HO_move rfl rfl rfl ?_
 refine HO_build (xo:=[(1,_),(2,_)]) (vs:=[_,_]) rfl rfl rfl rfl (bd38_1_2_ot) ?_
 refine HO_alloc (cs:=[_,_,_,_,_]) rfl rfl Try.zeroValue38 rfl ?_
 intro g8
 refine HO_store (i:=0) (j:=0) (us:=[]) (old:=[_,_,_,_,_]) (ts:=[]) (cs:=[_,_,_,_,_]) (R:=[_,_,_]) (new:=[_,_,_,_,_]) rfl rfl rfl Try.sizeOf38 rfl (by simp [Value.oneCell']) rfl rfl rfl rfl rfl rfl ?_
 refine HO_nil ?_
 refine H_env (ρ':=[(8,_),(7,_),(6,_),(5,_),(3,_),(0,_)]) ⟨rfl,rfl,rfl,rfl,rfl,rfl,trivial⟩ ?_
 refine H_seq ?_
 refine H_seq ?_
 refine H_region (l:=[_,_]) rfl ?_
 refine HO_fieldAddr (r:=0) rfl rfl rfl Try.underlying36 rfl Try.sizeOf3 rfl ?_
 refine HO_load1 (i:=2) (j:=0) rfl rfl rfl Try.isAgg3 rfl (.loc _ _ _) rfl rfl ?_
 refine HO_nil ?_
 refine H_env (ρ':=[(20,_),(8,_),(7,_),(6,_),(5,_),(3,_),(0,_)]) ⟨rfl,rfl,rfl,rfl,rfl,rfl,rfl,trivial⟩ ?_
 refine H_block ?_
 refine H_seq ?_
 refine H_region (l:=[_,_]) rfl ?_
 refine HO_bin rfl rfl rfl rfl bin_eql ?_
 refine HO_assign rfl rfl rfl ?_
 refine HO_nil ?_
 refine H_env (ρ':=[(21,_),(20,_),(8,_),(7,_),(6,_),(5,_),(3,_),(0,_)]) ⟨rfl,rfl,rfl,rfl,rfl,rfl,rfl,rfl,trivial⟩ ?_
 refine H_cond rfl ?_ ?_
 ·intro h21
  replace h21:=dT h21
  refine H_seq ?_
  refine H_seq ?_
  refine H_region (l:=[_,_,_,_,_,_,_]) rfl ?_
  refine HO_move rfl rfl rfl ?_
  refine HO_not rfl rfl rfl ?_
  refine HO_move rfl rfl rfl ?_
  refine HO_split (d:=25) rfl ?_ ?_
  ·intro h25
   replace h25:=nT h25
   refine HO_move rfl rfl rfl ?_
   refine HO_bi rfl rfl rfl (bi_len_sl Try.underlying31) ?_
   refine HO_bin rfl rfl rfl rfl bin_geq ?_
   refine HO_pick_t rfl rfl rfl rfl ?_
   refine HO_nil ?_
   refine H_env (ρ':=[(29,_),(8,_),(5,_),(3,_),(0,_)]) ⟨rfl,rfl,rfl,rfl,rfl,trivial⟩ ?_
   refine H_cond rfl ?_ ?_
   ·intro h29
    replace h29:=dT h29
    refine H_seq ?_
    refine H_region (l:=[_,_,_,_]) rfl ?_
    refine HO_move rfl rfl rfl ?_
    refine HO_build (xo:=[(0,_)]) (vs:=[_]) rfl rfl rfl rfl (bd38_0_i) ?_
    refine HO_assign rfl rfl rfl ?_
    refine HO_store (i:=1) (j:=0) (us:=[]) (old:=[_,_,_,_,_]) (ts:=[]) (cs:=[_,_,_,_,_]) (R:=[_,_,_]) (new:=[_,_,_,_,_]) rfl rfl rfl Try.sizeOf38 rfl (by simp [Value.oneCell']) rfl rfl rfl rfl rfl rfl ?_
    refine HO_nil ?_
    refine H_env (ρ':=[(4,_),(5,_)]) ⟨rfl,rfl,trivial⟩ ?_
    refine H_world (kp [yy,nn,nn,yy] [_,_] rfl) ?_
    refine H_nilDat kPair ?_
    obtain ⟨hP,hR⟩:=Mod.does_full (c:=(⟨ki,cs,sq,ke,ol,cv,ti,li⟩ : Cmd)) h21 h25 (by omega)
    refine H_ret2 Try.results52 (.tmp rfl) (.cell rfl (fun w hA => run_loadVarA (cs:=[_,_,_,_,_]) (Try.isAgg38 w) (Try.sizeOf38 w) (Tells.cells (.loc _ _ _) (hA.get (i:=1) rfl)))) (fun w hA => ⟨((a,c),(none,0)),congrArg Ending.returned ?_,?_,?_⟩)
    ·(rw [hP,hR];rfl)
    ·trivial
    ·(rw [hP,hR];exact hA.only (is:=[1,0]) (Z:=[_]) rfl)
   intro h29
   replace h29:=dF h29
   refine H_skip ?_
   refine H_seq ?_
   refine H_drawB (m:=[yy,nn,yy,yy]) (Xs:=[_,_,_]) (fuel:=9) (l:=#[false,false,false,false,false,false,false,false,false]) mixed rfl rfl rfl ?_
   refine HA_take (i:=0) bp rfl rfl rfl rfl (by kernel_rfl) rfl (V_move rfl) (kp [yy,nn,yy,yy] [_,_,_] rfl) ?_
   refine HA_take (i:=1) bp rfl rfl rfl rfl (by kernel_rfl) rfl (V_fieldAddr (r:=3) rfl Try.underlying36 rfl Try.sizeOf9 rfl) (kp [yy,nn,yy,yy] [_,_,_] rfl) ?_
   refine HA_take (i:=2) bp rfl rfl rfl rfl (by kernel_rfl) rfl (V_load1 (i:=1) (j:=3) rfl Try.isAgg9 rfl (.loc _ _ _) rfl rfl) (kp [yy,nn,yy,yy] [_,_,_] rfl) ?_
   refine HA_take (i:=3) bp rfl rfl rfl rfl (by kernel_rfl) rfl (V_fieldAddr (r:=5) rfl Try.underlying36 rfl Try.sizeOf9 rfl) (kp [yy,nn,yy,yy] [_,_,_] rfl) ?_
   refine HA_take (i:=4) bp rfl rfl rfl rfl (by kernel_rfl) rfl (V_load1 (i:=1) (j:=5) rfl Try.isAgg9 rfl (.loc _ _ _) rfl rfl) (kp [yy,nn,yy,yy] [_,_,_] rfl) ?_
   refine HA_take (i:=6) bp rfl rfl rfl rfl (by kernel_rfl) rfl (V_loadA (i:=0) (us:=[]) (cs:=[_,_,_,_,_]) (ts:=[]) rfl Try.isAgg38 Try.sizeOf38 rfl (.loc _ _ _) rfl rfl rfl rfl) (kp [yy,nn,yy,yy] [_,_,_] rfl) ?_
   refine HA_loud1 (i:=5) (by kernel_rfl) rfl ?_
   refine HO_dup (i:=3) rfl rfl ?_
   refine HO_call (first:=[]) (capt:=[]) (is:=[0]) (R:=[_,_,_,_]) rfl rfl rfl rfl rfl Try.call79 rfl (rput_spec _ _ _ _ _ ?_ ?_ ?_ ?_) ?_
   ·exact hs
   ·omega
   ·exact sk
   ·exact sc
   intro y37 hy37
   refine HA_back rfl (kp [nn,yy,nn,yy,yy] [_,_,_] rfl) ?_
   refine HA_take (i:=7) bp rfl rfl rfl rfl (by kernel_rfl) rfl (V_assign rfl) (kp [nn,yy,nn,yy,yy] [_,_,_] rfl) ?_
   refine HA_loud1 (i:=8) (by kernel_rfl) rfl ?_
   refine HO_store (i:=2) (j:=0) (us:=[]) (old:=[_,_,_,_,_]) (ts:=[]) (cs:=[_,_,_,_,_]) (R:=[_,_,_,_]) (new:=[_,_,_,_,_]) rfl rfl rfl Try.sizeOf38 rfl (by simp [Value.oneCell']) rfl rfl rfl rfl rfl rfl ?_
   refine HA_back rfl (kp [nn,nn,yy,yy,yy] [_,_,_] rfl) ?_
   refine HA_done (by kernel_rfl) ?_
   refine H_env (ρ':=[(4,_),(5,_)]) ⟨rfl,rfl,trivial⟩ ?_
   refine H_world (kp [yy,yy,nn,nn,nn] [_,_] rfl) ?_
   refine H_nilDat kPair ?_
   obtain ⟨hP,hR⟩:=Mod.does_put (c:=(⟨ki,cs,sq,ke,ol,cv,ti,li⟩ : Cmd)) h21 (.inr (by omega)) hv
   refine H_ret2 Try.results52 (.tmp rfl) (.cell rfl (fun w hA => run_loadVarA (cs:=[_,_,_,_,_]) (Try.isAgg38 w) (Try.sizeOf38 w) (Tells.cells (.loc _ _ _) (hA.get (i:=1) rfl)))) (fun w hA => ⟨(y37,(none,0)),congrArg Ending.returned ?_,?_,?_⟩)
   ·(rw [hP,hR];rfl)
   ·trivial
   ·(rw [hP,hR];exact hA.only (is:=[1,0]) (Z:=[_]) rfl)
  intro h25
  replace h25:=nF h25
  iterate 3 refine HO_no rfl rfl rfl ?_
  refine HO_pick_f rfl rfl rfl rfl ?_
  refine HO_nil ?_
  refine H_env (ρ':=[(29,_),(8,_),(5,_),(3,_),(0,_)]) ⟨rfl,rfl,rfl,rfl,rfl,trivial⟩ ?_
  refine H_cond rfl (fun h => nomatch h) (fun _ => ?_)
  refine H_skip ?_
  refine H_seq ?_
  refine H_drawB (m:=[yy,nn,yy,yy]) (Xs:=[_,_,_]) (fuel:=9) (l:=#[false,false,false,false,false,false,false,false,false]) mixed rfl rfl rfl ?_
  refine HA_take (i:=0) bp rfl rfl rfl rfl (by kernel_rfl) rfl (V_move rfl) (kp [yy,nn,yy,yy] [_,_,_] rfl) ?_
  refine HA_take (i:=1) bp rfl rfl rfl rfl (by kernel_rfl) rfl (V_fieldAddr (r:=3) rfl Try.underlying36 rfl Try.sizeOf9 rfl) (kp [yy,nn,yy,yy] [_,_,_] rfl) ?_
  refine HA_take (i:=2) bp rfl rfl rfl rfl (by kernel_rfl) rfl (V_load1 (i:=1) (j:=3) rfl Try.isAgg9 rfl (.loc _ _ _) rfl rfl) (kp [yy,nn,yy,yy] [_,_,_] rfl) ?_
  refine HA_take (i:=3) bp rfl rfl rfl rfl (by kernel_rfl) rfl (V_fieldAddr (r:=5) rfl Try.underlying36 rfl Try.sizeOf9 rfl) (kp [yy,nn,yy,yy] [_,_,_] rfl) ?_
  refine HA_take (i:=4) bp rfl rfl rfl rfl (by kernel_rfl) rfl (V_load1 (i:=1) (j:=5) rfl Try.isAgg9 rfl (.loc _ _ _) rfl rfl) (kp [yy,nn,yy,yy] [_,_,_] rfl) ?_
  refine HA_take (i:=6) bp rfl rfl rfl rfl (by kernel_rfl) rfl (V_loadA (i:=0) (us:=[]) (cs:=[_,_,_,_,_]) (ts:=[]) rfl Try.isAgg38 Try.sizeOf38 rfl (.loc _ _ _) rfl rfl rfl rfl) (kp [yy,nn,yy,yy] [_,_,_] rfl) ?_
  refine HA_loud1 (i:=5) (by kernel_rfl) rfl ?_
  refine HO_dup (i:=3) rfl rfl ?_
  refine HO_call (first:=[]) (capt:=[]) (is:=[0]) (R:=[_,_,_,_]) rfl rfl rfl rfl rfl Try.call79 rfl (rput_spec _ _ _ _ _ ?_ ?_ ?_ ?_) ?_
  ·exact hs
  ·omega
  ·exact sk
  ·exact sc
  intro y37 hy37
  refine HA_back rfl (kp [nn,yy,nn,yy,yy] [_,_,_] rfl) ?_
  refine HA_take (i:=7) bp rfl rfl rfl rfl (by kernel_rfl) rfl (V_assign rfl) (kp [nn,yy,nn,yy,yy] [_,_,_] rfl) ?_
  refine HA_loud1 (i:=8) (by kernel_rfl) rfl ?_
  refine HO_store (i:=2) (j:=0) (us:=[]) (old:=[_,_,_,_,_]) (ts:=[]) (cs:=[_,_,_,_,_]) (R:=[_,_,_,_]) (new:=[_,_,_,_,_]) rfl rfl rfl Try.sizeOf38 rfl (by simp [Value.oneCell']) rfl rfl rfl rfl rfl rfl ?_
  refine HA_back rfl (kp [nn,nn,yy,yy,yy] [_,_,_] rfl) ?_
  refine HA_done (by kernel_rfl) ?_
  refine H_env (ρ':=[(4,_),(5,_)]) ⟨rfl,rfl,trivial⟩ ?_
  refine H_world (kp [yy,yy,nn,nn,nn] [_,_] rfl) ?_
  refine H_nilDat kPair ?_
  obtain ⟨hP,hR⟩:=Mod.does_put (c:=(⟨ki,cs,sq,ke,ol,cv,ti,li⟩ : Cmd)) h21 (.inl h25) hv
  refine H_ret2 Try.results52 (.tmp rfl) (.cell rfl (fun w hA => run_loadVarA (cs:=[_,_,_,_,_]) (Try.isAgg38 w) (Try.sizeOf38 w) (Tells.cells (.loc _ _ _) (hA.get (i:=1) rfl)))) (fun w hA => ⟨(y37,(none,0)),congrArg Ending.returned ?_,?_,?_⟩)
  ·(rw [hP,hR];rfl)
  ·trivial
  ·(rw [hP,hR];exact hA.only (is:=[1,0]) (Z:=[_]) rfl)
 intro h21
 replace h21:=dF h21
 refine H_seq ?_
 refine H_region (l:=[_,_]) rfl ?_
 refine HO_bin rfl rfl rfl rfl bin_eql ?_
 refine HO_assign rfl rfl rfl ?_
 refine HO_nil ?_
 refine H_env (ρ':=[(39,_),(20,_),(8,_),(7,_),(6,_),(5,_),(3,_),(0,_)]) ⟨rfl,rfl,rfl,rfl,rfl,rfl,rfl,rfl,trivial⟩ ?_
 refine H_cond rfl ?_ ?_
 ·intro h39
  replace h39:=dT h39
  refine H_seq ?_
  refine H_drawB (m:=[yy,nn,yy,yy]) (Xs:=[_,_,_]) (fuel:=7) (l:=#[false,false,false,false,false,false,false]) mixed rfl rfl rfl ?_
  refine HA_take (i:=0) bp rfl rfl rfl rfl (by kernel_rfl) rfl (V_move rfl) (kp [yy,nn,yy,yy] [_,_,_] rfl) ?_
  refine HA_take (i:=1) bp rfl rfl rfl rfl (by kernel_rfl) rfl (V_fieldAddr (r:=3) rfl Try.underlying36 rfl Try.sizeOf9 rfl) (kp [yy,nn,yy,yy] [_,_,_] rfl) ?_
  refine HA_take (i:=2) bp rfl rfl rfl rfl (by kernel_rfl) rfl (V_load1 (i:=1) (j:=3) rfl Try.isAgg9 rfl (.loc _ _ _) rfl rfl) (kp [yy,nn,yy,yy] [_,_,_] rfl) ?_
  refine HA_take (i:=4) bp rfl rfl rfl rfl (by kernel_rfl) rfl (V_loadA (i:=0) (us:=[]) (cs:=[_,_,_,_,_]) (ts:=[]) rfl Try.isAgg38 Try.sizeOf38 rfl (.loc _ _ _) rfl rfl rfl rfl) (kp [yy,nn,yy,yy] [_,_,_] rfl) ?_
  refine HA_loud1 (i:=3) (by kernel_rfl) rfl ?_
  refine HO_dup (i:=3) rfl rfl ?_
  refine HO_call (first:=[]) (capt:=[]) (is:=[0]) (R:=[_,_,_,_]) rfl rfl rfl rfl rfl Try.call80 rfl (rwithout_spec _ _ _ _ ?_ ?_) ?_
  ·exact hs
  ·omega
  intro y44 hy44
  refine HA_back rfl (kp [nn,yy,nn,yy,yy] [_,_,_] rfl) ?_
  refine HA_take (i:=5) bp rfl rfl rfl rfl (by kernel_rfl) rfl (V_assign rfl) (kp [nn,yy,nn,yy,yy] [_,_,_] rfl) ?_
  refine HA_loud1 (i:=6) (by kernel_rfl) rfl ?_
  refine HO_store (i:=2) (j:=0) (us:=[]) (old:=[_,_,_,_,_]) (ts:=[]) (cs:=[_,_,_,_,_]) (R:=[_,_,_,_]) (new:=[_,_,_,_,_]) rfl rfl rfl Try.sizeOf38 rfl (by simp [Value.oneCell']) rfl rfl rfl rfl rfl rfl ?_
  refine HA_back rfl (kp [nn,nn,yy,yy,yy] [_,_,_] rfl) ?_
  refine HA_done (by kernel_rfl) ?_
  refine H_env (ρ':=[(4,_),(5,_)]) ⟨rfl,rfl,trivial⟩ ?_
  refine H_world (kp [yy,yy,nn,nn,nn] [_,_] rfl) ?_
  refine H_nilDat kPair ?_
  obtain ⟨hP,hR⟩:=Mod.does_del (c:=(⟨ki,cs,sq,ke,ol,cv,ti,li⟩ : Cmd)) h21 h39 hv
  refine H_ret2 Try.results52 (.tmp rfl) (.cell rfl (fun w hA => run_loadVarA (cs:=[_,_,_,_,_]) (Try.isAgg38 w) (Try.sizeOf38 w) (Tells.cells (.loc _ _ _) (hA.get (i:=1) rfl)))) (fun w hA => ⟨(y44,(none,0)),congrArg Ending.returned ?_,?_,?_⟩)
  ·(rw [hP,hR];rfl)
  ·trivial
  ·(rw [hP,hR];exact hA.only (is:=[1,0]) (Z:=[_]) rfl)
 intro h39
 replace h39:=dF h39
 refine H_seq ?_
 refine H_region (l:=[_,_]) rfl ?_
 refine HO_bin rfl rfl rfl rfl bin_eql ?_
 refine HO_assign rfl rfl rfl ?_
 refine HO_nil ?_
 refine H_env (ρ':=[(46,_),(20,_),(8,_),(7,_),(6,_),(5,_),(3,_),(0,_)]) ⟨rfl,rfl,rfl,rfl,rfl,rfl,rfl,rfl,trivial⟩ ?_
 refine H_cond rfl ?_ ?_
 ·intro h46
  replace h46:=dT h46
  refine H_seq ?_
  refine H_region (l:=[_,_,_,_,_,_,_,_,_]) rfl ?_
  iterate 2 refine HO_move rfl rfl rfl ?_
  refine HO_split (d:=49) rfl ?_ ?_
  ·intro h49
   refine HO_move rfl rfl rfl ?_
   refine HO_fieldAddr (r:=4) rfl rfl rfl Try.underlying36 rfl Try.sizeOf9 rfl ?_
   refine HO_load1 (i:=2) (j:=4) rfl rfl rfl Try.isAgg9 rfl (.loc _ _ _) rfl rfl ?_
   refine HO_bin rfl rfl rfl rfl bin_eqs ?_
   refine HO_pick_t rfl rfl rfl rfl ?_
   refine HO_fieldAddr (r:=1) rfl rfl rfl Try.underlying38 rfl Try.sizeOf4 rfl ?_
   refine HO_store (i:=0) (j:=0) (us:=[_]) (old:=[_]) (ts:=[_,_,_]) (cs:=[_]) (R:=[_,_,_]) (new:=[_,_,_,_,_]) rfl rfl rfl Try.sizeOf4 rfl (by simp [Value.oneCell']) rfl rfl rfl rfl rfl rfl ?_
   refine HO_nil ?_
   refine H_env (ρ':=[(8,_),(5,_),(3,_),(0,_)]) ⟨rfl,rfl,rfl,rfl,trivial⟩ ?_
   refine H_seq ?_
   refine H_seq ?_
   refine H_region (l:=[_,_]) rfl ?_
   refine HO_fieldAddr (r:=1) rfl rfl rfl Try.underlying38 rfl Try.sizeOf4 rfl ?_
   refine HO_load1 (i:=0) (j:=1) rfl rfl rfl Try.isAgg4 rfl (.loc _ _ _) rfl rfl ?_
   refine HO_nil ?_
   refine H_env (ρ':=[(57,_),(8,_),(5,_),(3,_),(0,_)]) ⟨rfl,rfl,rfl,rfl,rfl,trivial⟩ ?_
   refine H_cond rfl ?_ ?_
   ·intro h57
    replace h57:=dT h57
    refine H_region (l:=[_,_,_,_,_,_,_]) rfl ?_
    refine HO_move rfl rfl rfl ?_
    refine HO_fieldAddr (r:=3) rfl rfl rfl Try.underlying36 rfl Try.sizeOf9 rfl ?_
    refine HO_load1 (i:=2) (j:=3) rfl rfl rfl Try.isAgg9 rfl (.loc _ _ _) rfl rfl ?_
    refine HO_fieldAddr (r:=5) rfl rfl rfl Try.underlying36 rfl Try.sizeOf9 rfl ?_
    refine HO_load1 (i:=2) (j:=5) rfl rfl rfl Try.isAgg9 rfl (.loc _ _ _) rfl rfl ?_
    refine HO_dup (i:=3) rfl rfl ?_
    refine HO_call (first:=[]) (capt:=[]) (is:=[0]) (R:=[_,_,_,_]) rfl rfl rfl rfl rfl Try.call79 rfl (rput_spec _ _ _ _ _ ?_ ?_ ?_ ?_) ?_
    ·exact hs
    ·omega
    ·exact sk
    ·exact sc
    intro y63 hy63
    refine HO_assign rfl rfl rfl ?_
    refine HO_nil ?_
    refine H_env (ρ':=[(0,_),(8,_),(5,_)]) ⟨rfl,rfl,rfl,trivial⟩ ?_
    refine H_world (kp [yy,yy,yy,nn,nn] [_,_,_] rfl) ?_
    refine H_seq ?_
    refine H_drawB (m:=[yy,yy,nn]) (Xs:=[_,_]) (fuel:=4) (l:=#[false,false,false,false]) mixed rfl rfl rfl ?_
    refine HA_take (i:=0) bp rfl rfl rfl rfl (by kernel_rfl) rfl (V_move rfl) (kp [yy,yy,nn] [_,_] rfl) ?_
    refine HA_take (i:=1) bp rfl rfl rfl rfl (by kernel_rfl) rfl (V_loadA (i:=1) (us:=[]) (cs:=[_,_,_,_,_]) (ts:=[]) rfl Try.isAgg38 Try.sizeOf38 rfl (.loc _ _ _) rfl rfl rfl rfl) (kp [yy,yy,nn] [_,_] rfl) ?_
    refine HA_take (i:=2) bp rfl rfl rfl rfl (by kernel_rfl) rfl (V_assign rfl) (kp [yy,yy,nn] [_,_] rfl) ?_
    refine HA_loud1 (i:=3) (by kernel_rfl) rfl ?_
    refine HO_store (i:=2) (j:=0) (us:=[]) (old:=[_,_,_,_,_]) (ts:=[]) (cs:=[_,_,_,_,_]) (R:=[_,_]) (new:=[_,_,_,_,_]) rfl rfl rfl Try.sizeOf38 rfl (by simp [Value.oneCell']) rfl rfl rfl rfl rfl rfl ?_
    refine HA_back rfl (kp [nn,yy,yy] [_,_] rfl) ?_
    refine HA_done (by kernel_rfl) ?_
    refine H_env (ρ':=[(4,_),(5,_)]) ⟨rfl,rfl,trivial⟩ ?_
    refine H_world (kp [yy,yy,nn] [_,_] rfl) ?_
    refine H_nilDat kPair ?_
    obtain ⟨hP,hR⟩:=Mod.does_cas (c:=(⟨ki,cs,sq,ke,ol,cv,ti,li⟩ : Cmd)) h21 h39 h46 h49 hv
    rw [if_pos h57] at hP
    refine H_ret2 Try.results52 (.tmp rfl) (.cell rfl (fun w hA => run_loadVarA (cs:=[_,_,_,_,_]) (Try.isAgg38 w) (Try.sizeOf38 w) (Tells.cells (.loc _ _ _) (hA.get (i:=1) rfl)))) (fun w hA => ⟨(y63,(none,0)),congrArg Ending.returned ?_,?_,?_⟩)
    ·(rw [hP,hR];rfl)
    ·trivial
    ·(rw [hP,hR];exact hA.only (is:=[1,0]) (Z:=[_]) rfl)
   intro h57
   replace h57:=dF h57
   refine H_skip ?_
   refine H_seq ?_
   refine H_drawB (m:=[yy,nn,yy,yy]) (Xs:=[_,_,_]) (fuel:=4) (l:=#[false,false,false,false]) mixed rfl rfl rfl ?_
   refine HA_take (i:=0) bp rfl rfl rfl rfl (by kernel_rfl) rfl (V_move rfl) (kp [yy,nn,yy,yy] [_,_,_] rfl) ?_
   refine HA_take (i:=1) bp rfl rfl rfl rfl (by kernel_rfl) rfl (V_loadA (i:=0) (us:=[]) (cs:=[_,_,_,_,_]) (ts:=[]) rfl Try.isAgg38 Try.sizeOf38 rfl (.loc _ _ _) rfl rfl rfl rfl) (kp [yy,nn,yy,yy] [_,_,_] rfl) ?_
   refine HA_take (i:=2) bp rfl rfl rfl rfl (by kernel_rfl) rfl (V_assign rfl) (kp [yy,nn,yy,yy] [_,_,_] rfl) ?_
   refine HA_loud1 (i:=3) (by kernel_rfl) rfl ?_
   refine HO_store (i:=1) (j:=0) (us:=[]) (old:=[_,_,_,_,_]) (ts:=[]) (cs:=[_,_,_,_,_]) (R:=[_,_,_]) (new:=[_,_,_,_,_]) rfl rfl rfl Try.sizeOf38 rfl (by simp [Value.oneCell']) rfl rfl rfl rfl rfl rfl ?_
   refine HA_back rfl (kp [nn,yy,yy,yy] [_,_,_] rfl) ?_
   refine HA_done (by kernel_rfl) ?_
   refine H_env (ρ':=[(4,_),(5,_)]) ⟨rfl,rfl,trivial⟩ ?_
   refine H_world (kp [yy,nn,nn,yy] [_,_] rfl) ?_
   refine H_nilDat kPair ?_
   obtain ⟨hP,hR⟩:=Mod.does_cas (c:=(⟨ki,cs,sq,ke,ol,cv,ti,li⟩ : Cmd)) h21 h39 h46 h49 hv
   rw [if_neg h57] at hP
   refine H_ret2 Try.results52 (.tmp rfl) (.cell rfl (fun w hA => run_loadVarA (cs:=[_,_,_,_,_]) (Try.isAgg38 w) (Try.sizeOf38 w) (Tells.cells (.loc _ _ _) (hA.get (i:=1) rfl)))) (fun w hA => ⟨((a,c),(none,0)),congrArg Ending.returned ?_,?_,?_⟩)
   ·(rw [hP,hR];rfl)
   ·trivial
   ·(rw [hP,hR];exact hA.only (is:=[1,0]) (Z:=[_]) rfl)
  intro h49
  iterate 4 refine HO_no rfl rfl rfl ?_
  refine HO_pick_f rfl rfl rfl rfl ?_
  refine HO_fieldAddr (r:=1) rfl rfl rfl Try.underlying38 rfl Try.sizeOf4 rfl ?_
  refine HO_store (i:=0) (j:=0) (us:=[_]) (old:=[_]) (ts:=[_,_,_]) (cs:=[_]) (R:=[_,_,_]) (new:=[_,_,_,_,_]) rfl rfl rfl Try.sizeOf4 rfl (by simp [Value.oneCell']) rfl rfl rfl rfl rfl rfl ?_
  refine HO_nil ?_
  refine H_env (ρ':=[(8,_),(5,_),(3,_),(0,_)]) ⟨rfl,rfl,rfl,rfl,trivial⟩ ?_
  refine H_seq ?_
  refine H_seq ?_
  refine H_region (l:=[_,_]) rfl ?_
  refine HO_fieldAddr (r:=1) rfl rfl rfl Try.underlying38 rfl Try.sizeOf4 rfl ?_
  refine HO_load1 (i:=0) (j:=1) rfl rfl rfl Try.isAgg4 rfl (.loc _ _ _) rfl rfl ?_
  refine HO_nil ?_
  refine H_env (ρ':=[(57,_),(8,_),(5,_),(3,_),(0,_)]) ⟨rfl,rfl,rfl,rfl,rfl,trivial⟩ ?_
  refine H_cond rfl (fun h => nomatch h) (fun _ => ?_)
  refine H_skip ?_
  refine H_seq ?_
  refine H_drawB (m:=[yy,nn,yy,yy]) (Xs:=[_,_,_]) (fuel:=4) (l:=#[false,false,false,false]) mixed rfl rfl rfl ?_
  refine HA_take (i:=0) bp rfl rfl rfl rfl (by kernel_rfl) rfl (V_move rfl) (kp [yy,nn,yy,yy] [_,_,_] rfl) ?_
  refine HA_take (i:=1) bp rfl rfl rfl rfl (by kernel_rfl) rfl (V_loadA (i:=0) (us:=[]) (cs:=[_,_,_,_,_]) (ts:=[]) rfl Try.isAgg38 Try.sizeOf38 rfl (.loc _ _ _) rfl rfl rfl rfl) (kp [yy,nn,yy,yy] [_,_,_] rfl) ?_
  refine HA_take (i:=2) bp rfl rfl rfl rfl (by kernel_rfl) rfl (V_assign rfl) (kp [yy,nn,yy,yy] [_,_,_] rfl) ?_
  refine HA_loud1 (i:=3) (by kernel_rfl) rfl ?_
  refine HO_store (i:=1) (j:=0) (us:=[]) (old:=[_,_,_,_,_]) (ts:=[]) (cs:=[_,_,_,_,_]) (R:=[_,_,_]) (new:=[_,_,_,_,_]) rfl rfl rfl Try.sizeOf38 rfl (by simp [Value.oneCell']) rfl rfl rfl rfl rfl rfl ?_
  refine HA_back rfl (kp [nn,yy,yy,yy] [_,_,_] rfl) ?_
  refine HA_done (by kernel_rfl) ?_
  refine H_env (ρ':=[(4,_),(5,_)]) ⟨rfl,rfl,trivial⟩ ?_
  refine H_world (kp [yy,nn,nn,yy] [_,_] rfl) ?_
  refine H_nilDat kPair ?_
  obtain ⟨hP,hR⟩:=Mod.does_cas0 (c:=(⟨ki,cs,sq,ke,ol,cv,ti,li⟩ : Cmd)) h21 h39 h46 h49 hv
  refine H_ret2 Try.results52 (.tmp rfl) (.cell rfl (fun w hA => run_loadVarA (cs:=[_,_,_,_,_]) (Try.isAgg38 w) (Try.sizeOf38 w) (Tells.cells (.loc _ _ _) (hA.get (i:=1) rfl)))) (fun w hA => ⟨((a,c),(none,0)),congrArg Ending.returned ?_,?_,?_⟩)
  ·(rw [hP,hR];rfl)
  ·trivial
  ·(rw [hP,hR];exact hA.only (is:=[1,0]) (Z:=[_]) rfl)
 intro h46
 replace h46:=dF h46
 refine H_seq ?_
 refine H_region (l:=[_,_]) rfl ?_
 refine HO_bin rfl rfl rfl rfl bin_eql ?_
 refine HO_assign rfl rfl rfl ?_
 refine HO_nil ?_
 refine H_env (ρ':=[(66,_),(8,_),(5,_),(3,_),(0,_)]) ⟨rfl,rfl,rfl,rfl,rfl,trivial⟩ ?_
 refine H_cond rfl ?_ ?_
 ·intro h66
  replace h66:=dT h66
  refine H_seq ?_
  refine H_region (l:=[_,_,_,_,_,_,_,_,_,_,_,_]) rfl ?_
  iterate 2 refine HO_move rfl rfl rfl ?_
  refine HO_fieldAddr (r:=3) rfl rfl rfl Try.underlying36 rfl Try.sizeOf9 rfl ?_
  refine HO_load1 (i:=2) (j:=3) rfl rfl rfl Try.isAgg9 rfl (.loc _ _ _) rfl rfl ?_
  refine HO_fieldAddr (r:=6) rfl rfl rfl Try.underlying36 rfl Try.sizeOf9 rfl ?_
  refine HO_load1 (i:=2) (j:=6) rfl rfl rfl Try.isAgg9 rfl (.loc _ _ _) rfl rfl ?_
  refine HO_fieldAddr (r:=7) rfl rfl rfl Try.underlying36 rfl Try.sizeOf3 rfl ?_
  refine HO_load1 (i:=2) (j:=7) rfl rfl rfl Try.isAgg3 rfl (.loc _ _ _) rfl rfl ?_
  refine HO_dup (i:=3) rfl rfl ?_
  refine HO_call (first:=[]) (capt:=[]) (is:=[0]) (R:=[_,_,_,_]) rfl rfl rfl rfl rfl Try.call81 rfl (rcut_spec _ _ _ _ _ _ ?_ ?_ ?_) ?_
  ·exact hs
  ·omega
  ·(have:=hL h66;omega)
  intro y76 hy76
  refine HO_build (xo:=[(4,_)]) (vs:=[_]) rfl rfl rfl rfl (bd38_4_s) ?_
  refine HO_assign rfl rfl rfl ?_
  refine HO_store (i:=2) (j:=0) (us:=[]) (old:=[_,_,_,_,_]) (ts:=[]) (cs:=[_,_,_,_,_]) (R:=[_,_,_,_]) (new:=[_,_,_,_,_]) rfl rfl rfl Try.sizeOf38 rfl (by simp [Value.oneCell']) rfl rfl rfl rfl rfl rfl ?_
  refine HO_nil ?_
  refine H_env (ρ':=[(4,_),(5,_)]) ⟨rfl,rfl,trivial⟩ ?_
  refine H_world (kp [yy,yy,nn,nn,yy] [_,_,_] rfl) ?_
  obtain ⟨hP,hR⟩:=Mod.does_scan (l:=xs) (c:=(⟨ki,cs,sq,ke,ol,cv,ti,li⟩ : Cmd)) h66
  refine H_ret2 Try.results52 (.tmp rfl) (.cell rfl (fun w hA => run_loadVarA (cs:=[_,_,_,_,_]) (Try.isAgg38 w) (Try.sizeOf38 w) (Tells.cells (.loc _ _ _) (hA.get (i:=0) rfl)))) (fun w hA => ⟨((a,c),y76),congrArg Ending.returned ?_,?_,?_⟩)
  ·(rw [hP,hR];rfl)
  ·trivial
  ·(rw [hP,hR];exact hA.only (is:=[1,1]) (Z:=[_]) rfl)
 intro h66
 replace h66:=dF h66
 refine H_skip ?_
 refine H_blk ?_
 refine H_seq ?_
 refine H_drawB (m:=[yy,nn,yy,yy]) (Xs:=[_,_,_]) (fuel:=4) (l:=#[false,false,false,false]) mixed rfl rfl rfl ?_
 refine HA_take (i:=0) bp rfl rfl rfl rfl (by kernel_rfl) rfl (V_move rfl) (kp [yy,nn,yy,yy] [_,_,_] rfl) ?_
 refine HA_take (i:=1) bp rfl rfl rfl rfl (by kernel_rfl) rfl (V_loadA (i:=0) (us:=[]) (cs:=[_,_,_,_,_]) (ts:=[]) rfl Try.isAgg38 Try.sizeOf38 rfl (.loc _ _ _) rfl rfl rfl rfl) (kp [yy,nn,yy,yy] [_,_,_] rfl) ?_
 refine HA_take (i:=2) bp rfl rfl rfl rfl (by kernel_rfl) rfl (V_assign rfl) (kp [yy,nn,yy,yy] [_,_,_] rfl) ?_
 refine HA_loud1 (i:=3) (by kernel_rfl) rfl ?_
 refine HO_store (i:=1) (j:=0) (us:=[]) (old:=[_,_,_,_,_]) (ts:=[]) (cs:=[_,_,_,_,_]) (R:=[_,_,_]) (new:=[_,_,_,_,_]) rfl rfl rfl Try.sizeOf38 rfl (by simp [Value.oneCell']) rfl rfl rfl rfl rfl rfl ?_
 refine HA_back rfl (kp [nn,yy,yy,yy] [_,_,_] rfl) ?_
 refine HA_done (by kernel_rfl) ?_
 refine H_env (ρ':=[(4,_),(5,_)]) ⟨rfl,rfl,trivial⟩ ?_
 refine H_world (kp [yy,nn,nn,yy] [_,_] rfl) ?_
 refine H_nilDat kPair ?_
 obtain ⟨hP,hR⟩:=Mod.does_else (c:=(⟨ki,cs,sq,ke,ol,cv,ti,li⟩ : Cmd)) h21 h39 h46 h66 hv
 refine H_ret2 Try.results52 (.tmp rfl) (.cell rfl (fun w hA => run_loadVarA (cs:=[_,_,_,_,_]) (Try.isAgg38 w) (Try.sizeOf38 w) (Tells.cells (.loc _ _ _) (hA.get (i:=1) rfl)))) (fun w hA => ⟨((a,c),(none,0)),congrArg Ending.returned ?_,?_,?_⟩)
 ·(rw [hP,hR];rfl)
 ·trivial
 ·(rw [hP,hR];exact hA.only (is:=[1,0]) (Z:=[_]) rfl)
theorem rfind_spec (g : Nat) (xs : List Sess) (a : Option Addr) (c : Nat) (k : Int) (hs : soInt.Srt Sess.id xs) : Spec Try.prog 77 #[.pointer (some ⟨g,0,none⟩),.int .i64 (k)] [.loc g [.slice a (xs.length) c] 98,.dat kSess.sl (xs) [.slice a (xs.length) c]] (β:=Unit) (fun y => .int .i64 (Mod.findI k xs)) (fun y => True) (fun y => [.loc g [.slice a (xs.length) c] 98]):=by
 refine Spec.enter (vs:=[_,_]) Try.func77 rfl Try.ntmps77 rfl (Nat.le_of_ble_eq_true rfl) (fun w0 ok0 => ?_)
 generalize hM0 : blks _ = M0
 refine H_len_le (i:=1) rfl ?_
 intro hlen1
 refine H_seq ?_
 refine H_region (l:=[_]) rfl ?_
 refine HO_assign rfl rfl rfl ?_
 refine HO_nil ?_
 refine H_env (ρ':=[(0,_),(1,_)]) ⟨rfl,rfl,trivial⟩ ?_
 refine H_seq ?_
 refine H_seq ?_
 refine H_region (l:=[_,_,_,_,_,_]) rfl ?_
 refine HO_move rfl rfl rfl ?_
 refine HO_nilCheck rfl rfl rfl ?_
 refine HO_fieldAddr (r:=0) rfl rfl rfl Try.underlying98 rfl Try.sizeOf32 rfl ?_
 refine HO_load1 (i:=0) (j:=0) rfl rfl rfl Try.isAgg32 rfl (.loc _ _ _) rfl rfl ?_
 refine HO_bi rfl rfl rfl (bi_len_sl Try.underlying32) ?_
 refine HO_move rfl rfl rfl ?_
 refine HO_nil ?_
 refine H_env (ρ':=[(12,_),(11,_),(10,_),(1,_)]) ⟨rfl,rfl,rfl,rfl,trivial⟩ ?_
 refine H_block ?_
 refine H_loop (σ:=Nat) (fun s => s≤xs.length∧(∀ q x,q < s→xs[q]? = some x→Sess.id x ≠ k)) (fun s => [(1,.int .i64 (k)),(10,.slice a (xs.length) c),(11,.int .i64 ((xs.length : Int))),(12,.int .i64 ((s : Int)))]) (fun s => Asn w0 ok0 M0 [.loc g [.slice a (xs.length) c] 98,.dat kSess.sl (xs) [.slice a (xs.length) c]]) (fun s => xs.length - s) 0 ?_ ?_ ?_ ?_
 ·exact ⟨Nat.zero_le _,fun q x hq _ => absurd hq (Nat.not_lt_zero _)⟩
 ·exact ⟨rfl,rfl,rfl,rfl,trivial⟩
 ·intro w hA
  exact hA.only (is:=[0,1]) (Z:=[]) rfl
 ·intro i hI
  (try dsimp only at hI ⊢)
  refine H_seq ?_
  refine H_region (l:=[_]) rfl ?_
  refine HO_bin rfl rfl rfl rfl bin_lss ?_
  refine HO_nil ?_
  refine H_seq ?_
  refine H_cond rfl ?_ ?_
  ·intro h13
   replace h13:=dT h13
   refine H_skip ?_
   refine H_seq ?_
   refine H_block ?_
   refine H_seq ?_
   refine H_region (l:=[_,_,_,_,_,_]) rfl ?_
   refine HO_move rfl rfl rfl ?_
   refine HO_indexAddr open_Sess (i:=1) rfl rfl rfl rfl rfl Try.underlying32 Try.sizeOf106 rfl ?_ ?_
   ·omega
   intro b15 o15 z15 y15 hz15 hI15
   (try simp only [BIG] at hI15)
   refine HO_loadA (i:=0) (us:=[]) (cs:=[_,_,_,_,_,_,_]) (ts:=[]) rfl rfl rfl Try.isAgg106 Try.sizeOf106 rfl (.elem _ _ _) rfl rfl rfl rfl ?_
   refine HO_alloc (cs:=[_,_,_,_,_,_,_]) rfl rfl Try.zeroValue106 rfl ?_
   intro g6
   refine HO_assign rfl rfl rfl ?_
   refine HO_store (i:=0) (j:=0) (us:=[]) (old:=[_,_,_,_,_,_,_]) (ts:=[]) (cs:=[_,_,_,_,_,_,_]) (R:=[_,_,_,_]) (new:=[_,_,_,_,_,_,_]) rfl rfl rfl Try.sizeOf106 rfl (by simp [Value.oneCell']) rfl rfl rfl rfl rfl rfl ?_
   refine HO_nil ?_
   refine H_env (ρ':=[(5,_),(6,_),(1,_),(10,_),(11,_),(12,_)]) ⟨rfl,rfl,rfl,rfl,rfl,rfl,trivial⟩ ?_
   refine H_world (kp [yy,nn,yy,yy,yy] [_,_,_,_] rfl) ?_
   refine H_seq ?_
   refine H_region (l:=[_,_,_,_]) rfl ?_
   refine HO_fieldAddr (r:=0) rfl rfl rfl Try.underlying106 rfl Try.sizeOf3 rfl ?_
   refine HO_load1 (i:=0) (j:=0) rfl rfl rfl Try.isAgg3 rfl (.loc _ _ _) rfl rfl ?_
   refine HO_move rfl rfl rfl ?_
   refine HO_bin rfl rfl rfl rfl bin_eql ?_
   refine HO_nil ?_
   refine H_env (ρ':=[(20,_),(5,_),(1,_),(10,_),(11,_),(12,_)]) ⟨rfl,rfl,rfl,rfl,rfl,rfl,trivial⟩ ?_
   refine H_world (kp [nn,nn,yy,yy] [_,_] rfl) ?_
   refine H_cond rfl ?_ ?_
   ·intro h20
    replace h20:=dT h20
    refine H_seq ?_
    refine H_region (l:=[_,_]) rfl ?_
    refine HO_move rfl rfl rfl ?_
    refine HO_assign rfl rfl rfl ?_
    refine HO_nil ?_
    refine H_env (ρ':=[(4,_)]) ⟨rfl,trivial⟩ ?_
    refine H_world (kp [yy,nn] [_] rfl) ?_
    have hg:=Mod.find_hit hs hz15 h20
    refine H_ret1 Try.results77 (.tmp rfl) (fun w hA => ⟨(),congrArg Ending.returned ?_,?_,?_⟩)
    ·(rw [hg])
    ·trivial
    ·exact hA.keep (m:=[yy]) (Y:=[_]) rfl
   intro h20
   replace h20:=dF h20
   refine H_skip ?_
   refine H_blk ?_
   refine H_region (l:=[_,_]) rfl ?_
   refine HO_bin rfl rfl rfl rfl (bin_add ?_ ?_) ?_
   ·(first | omega | assumption | decide)
   ·(first | omega | assumption | decide)
   refine HO_move rfl rfl rfl ?_
   refine HO_nil ?_
   refine H_env (ρ':=[(12,_),(1,_),(10,_),(11,_)]) ⟨rfl,rfl,rfl,rfl,trivial⟩ ?_
   refine H_inv (fun a w hf hA => ⟨i + 1,?_,?_,hf.sub ?_,?_⟩)
   ·exact ⟨by omega,Mod.miss_next (key:=Sess.id) hz15 h20 hI.2⟩
   ·(try dsimp only);omega
   ·exact ⟨rfl,rfl,rfl,rfl,trivial⟩
   ·exact hA.only (is:=[0,1]) (Z:=[]) rfl
  intro h13
  replace h13:=dF h13
  refine H_exit rfl ?_
  refine H_seq ?_
  obtain rfl : i = xs.length:=by omega
  refine H_region (l:=[_]) rfl ?_
  refine HO_assign rfl rfl rfl ?_
  refine HO_nil ?_
  refine H_env (ρ':=[(4,_)]) ⟨rfl,trivial⟩ ?_
  refine H_world (kp [yy,nn] [_] rfl) ?_
  have hg:=Mod.find_miss hI.2
  refine H_ret1 Try.results77 (.tmp rfl) (fun w hA => ⟨(),congrArg Ending.returned ?_,?_,?_⟩)
  ·(rw [hg])
  ·trivial
  ·exact hA.keep (m:=[yy]) (Y:=[_]) rfl
theorem ropen_spec (g : Nat) (xs : List Sess) (a : Option Addr) (c : Nat) (ix : Int) (hs : soInt.Srt Sess.id xs) (hl : xs.length≤16) (h16 : ¬ 16≤xs.length) (rx : -9223372036854775808≤ix∧ix≤9223372036854775807) : Spec Try.prog 49 #[.pointer (some ⟨g,0,none⟩),.int .i64 (ix)] [.loc g [.slice a (xs.length) c] 98,.dat kSess.sl (xs) [.slice a (xs.length) c]] (β:=Option Addr × Nat) (fun y => .int .i64 ((Mod.openE xs ix))) (fun y => True) (fun y => [.loc g [.slice y.1 (((Mod.openS xs ix)).length) y.2] 98,.dat kSess.sl ((Mod.openS xs ix)) [.slice y.1 (((Mod.openS xs ix)).length) y.2]]):=by
 refine Spec.enter (vs:=[_,_]) Try.func49 rfl Try.ntmps49 rfl (Nat.le_of_ble_eq_true rfl) (fun w0 ok0 => ?_)
 generalize hM0 : blks _ = M0
 refine H_len_le (i:=1) rfl ?_
 intro hlen1
 refine H_seq ?_
 refine H_region (l:=[_]) rfl ?_
 refine HO_assign rfl rfl rfl ?_
 refine HO_nil ?_
 refine H_env (ρ':=[(0,_),(1,_)]) ⟨rfl,rfl,trivial⟩ ?_
 refine H_seq ?_
 refine H_block ?_
 refine H_seq ?_
 refine H_region (l:=[_,_,_]) rfl ?_
 refine HO_move rfl rfl rfl ?_
 refine HO_bin rfl rfl rfl rfl bin_lss ?_
 refine HO_assign rfl rfl rfl ?_
 refine HO_nil ?_
 refine H_env (ρ':=[(9,_),(0,_),(1,_)]) ⟨rfl,rfl,rfl,trivial⟩ ?_
 refine H_cond rfl ?_ ?_
 ·intro h9
  replace h9:=dT h9
  refine H_seq ?_
  refine H_region (l:=[_]) rfl ?_
  refine HO_assign rfl rfl rfl ?_
  refine HO_nil ?_
  refine H_env (ρ':=[(4,_)]) ⟨rfl,trivial⟩ ?_
  have hP:=Mod.openE_arg h16 h9
  refine H_ret1 Try.results49 (.tmp rfl) (fun w hA => ⟨(a,c),congrArg Ending.returned ?_,?_,?_⟩)
  ·(rw [hP.2])
  ·trivial
  ·(rw [hP.1];exact hA.keep (m:=[yy,yy]) (Y:=[_,_]) rfl)
 intro h9
 replace h9:=dF h9
 refine H_seq ?_
 refine H_region (l:=[_,_,_,_,_]) rfl ?_
 iterate 2 refine HO_move rfl rfl rfl ?_
 refine HO_dup (i:=1) rfl rfl ?_
 refine HO_call (first:=[]) (capt:=[]) (is:=[0,0]) (R:=[_]) rfl rfl rfl rfl rfl Try.call77 rfl (rfind_spec _ _ _ _ _ ?_) ?_
 ·exact hs
 intro y15 hy15
 clear y15 hy15
 refine HO_bin rfl rfl rfl rfl bin_geq ?_
 refine HO_assign rfl rfl rfl ?_
 refine HO_nil ?_
 refine H_env (ρ':=[(12,_),(0,_),(1,_)]) ⟨rfl,rfl,rfl,trivial⟩ ?_
 refine H_cond rfl ?_ ?_
 ·intro h12
  replace h12:=dT h12
  have hf:=(Mod.find_yes (by omega : ¬ Mod.findI ix xs < 0)).1
  refine H_seq ?_
  refine H_region (l:=[_]) rfl ?_
  refine HO_assign rfl rfl rfl ?_
  refine HO_nil ?_
  refine H_env (ρ':=[(4,_)]) ⟨rfl,trivial⟩ ?_
  have hP:=Mod.openE_is h16 h9 hf
  refine H_ret1 Try.results49 (.tmp rfl) (fun w hA => ⟨(a,c),congrArg Ending.returned ?_,?_,?_⟩)
  ·(rw [hP.2])
  ·trivial
  ·(rw [hP.1];exact hA.keep (m:=[yy,yy]) (Y:=[_,_]) rfl)
 intro h12
 replace h12:=dF h12
 have hf:=Mod.find_no (by omega : Mod.findI ix xs < 0)
 refine H_seq ?_
 refine H_region (l:=[_,_,_,_,_,_,_]) rfl ?_
 refine HO_move rfl rfl rfl ?_
 refine HO_nilCheck rfl rfl rfl ?_
 refine HO_fieldAddr (r:=0) rfl rfl rfl Try.underlying98 rfl Try.sizeOf32 rfl ?_
 refine HO_load1 (i:=0) (j:=0) rfl rfl rfl Try.isAgg32 rfl (.loc _ _ _) rfl rfl ?_
 refine HO_bi rfl rfl rfl (bi_len_sl Try.underlying32) ?_
 refine HO_bin rfl rfl rfl rfl bin_geq ?_
 refine HO_assign rfl rfl rfl ?_
 refine HO_nil ?_
 refine H_env (ρ':=[(17,_),(0,_),(1,_)]) ⟨rfl,rfl,rfl,trivial⟩ ?_
 refine H_cond rfl ?_ ?_
 ·intro h17
  replace h17:=dT h17
  (exfalso;omega)
 intro h17
 replace h17:=dF h17
 refine H_skip ?_
 refine H_blk ?_
 refine H_seq ?_
 refine H_region (l:=[_]) rfl ?_
 refine HO_assign rfl rfl rfl ?_
 refine HO_nil ?_
 refine H_env (ρ':=[(5,_),(0,_),(1,_)]) ⟨rfl,rfl,rfl,trivial⟩ ?_
 refine H_seq ?_
 refine H_region (l:=[_]) rfl ?_
 refine HO_assign rfl rfl rfl ?_
 refine HO_nil ?_
 refine H_seq ?_
 refine H_seq ?_
 refine H_region (l:=[_,_,_,_,_,_]) rfl ?_
 refine HO_move rfl rfl rfl ?_
 refine HO_nilCheck rfl rfl rfl ?_
 refine HO_fieldAddr (r:=0) rfl rfl rfl Try.underlying98 rfl Try.sizeOf32 rfl ?_
 refine HO_load1 (i:=0) (j:=0) rfl rfl rfl Try.isAgg32 rfl (.loc _ _ _) rfl rfl ?_
 refine HO_bi rfl rfl rfl (bi_len_sl Try.underlying32) ?_
 refine HO_move rfl rfl rfl ?_
 refine HO_nil ?_
 refine H_env (ρ':=[(29,_),(28,_),(27,_),(6,_),(5,_),(0,_),(1,_)]) ⟨rfl,rfl,rfl,rfl,rfl,rfl,rfl,trivial⟩ ?_
 refine H_block ?_
 refine H_own0 kSess 106 none ?_
 refine H_loop (σ:=Nat × List Sess × Bool × Option Addr × Nat) (fun s => s.1≤xs.length∧s.2.1 ++ soInt.insR Sess.id (⟨ix,0,Mod.err 0⟩ : Sess) s.2.2.1 (xs.drop s.1) = soInt.insR Sess.id (⟨ix,0,Mod.err 0⟩ : Sess) false xs∧s.2.1.length≤2 * s.1) (fun s => [(0,.pointer (some ⟨g,0,none⟩)),(1,.int .i64 (ix)),(5,.slice s.2.2.2.1 (s.2.1.length) s.2.2.2.2),(6,.bool (s.2.2.1)),(27,.slice a (xs.length) c),(28,.int .i64 ((xs.length : Int))),(29,.int .i64 ((s.1 : Int)))]) (fun s => Asn w0 ok0 M0 [.loc g [.slice a (xs.length) c] 98,.own 106 kSess s.2.2.2.1 s.2.2.2.2 (s.2.1),.dat kSess.sl (xs) [.slice a (xs.length) c]]) (fun s => xs.length - s.1) ⟨0,[],false,none,0⟩ ?_ ?_ ?_ ?_
 ·exact ⟨Nat.zero_le _,by simp,Nat.zero_le _⟩
 ·exact ⟨rfl,rfl,rfl,rfl,rfl,rfl,rfl,trivial⟩
 ·intro w hA
  exact hA.only (is:=[0,0,2]) (Z:=[]) rfl
 ·rintro ⟨i,out,d,p,q⟩ hI
  (try dsimp only at hI ⊢)
  refine H_seq ?_
  refine H_region (l:=[_]) rfl ?_
  refine HO_bin rfl rfl rfl rfl bin_lss ?_
  refine HO_nil ?_
  refine H_seq ?_
  refine H_cond rfl ?_ ?_
  ·intro h30
   replace h30:=dT h30
   refine H_skip ?_
   refine H_seq ?_
   refine H_block ?_
   refine H_seq ?_
   refine H_region (l:=[_,_,_,_]) rfl ?_
   refine HO_indexAddr open_Sess (i:=2) rfl rfl rfl rfl rfl Try.underlying32 Try.sizeOf106 rfl ?_ ?_
   ·omega
   intro b31 o31 z31 y31 hz31 hI31
   (try simp only [BIG] at hI31)
   refine HO_loadA (i:=0) (us:=[]) (cs:=[_,_,_,_,_,_,_]) (ts:=[]) rfl rfl rfl Try.isAgg106 Try.sizeOf106 rfl (.elem _ _ _) rfl rfl rfl rfl ?_
   refine HO_alloc (cs:=[_,_,_,_,_,_,_]) rfl rfl Try.zeroValue106 rfl ?_
   intro g8
   refine HO_store (i:=0) (j:=0) (us:=[]) (old:=[_,_,_,_,_,_,_]) (ts:=[]) (cs:=[_,_,_,_,_,_,_]) (R:=[_,_,_,_,_]) (new:=[_,_,_,_,_,_,_]) rfl rfl rfl Try.sizeOf106 rfl (by simp [Value.oneCell']) rfl rfl rfl rfl rfl rfl ?_
   refine HO_nil ?_
   refine H_env (ρ':=[(8,_),(0,_),(1,_),(5,_),(6,_),(27,_),(28,_),(29,_)]) ⟨rfl,rfl,rfl,rfl,rfl,rfl,rfl,rfl,trivial⟩ ?_
   refine H_world (kp [yy,nn,yy,yy,yy,yy] [_,_,_,_,_] rfl) ?_
   refine H_seq ?_
   refine H_seq ?_
   refine H_region (l:=[_,_,_,_,_,_,_,_]) rfl ?_
   refine HO_fieldAddr (r:=0) rfl rfl rfl Try.underlying106 rfl Try.sizeOf3 rfl ?_
   refine HO_load1 (i:=0) (j:=0) rfl rfl rfl Try.isAgg3 rfl (.loc _ _ _) rfl rfl ?_
   refine HO_move rfl rfl rfl ?_
   refine HO_bin rfl rfl rfl rfl bin_gtr ?_
   refine HO_move rfl rfl rfl ?_
   refine HO_split (d:=37) rfl ?_ ?_
   ·intro h37
    replace h37:=dT h37
    have h38_:=h37
    refine HO_move rfl rfl rfl ?_
    refine HO_not rfl rfl rfl ?_
    refine HO_pick_t rfl rfl rfl rfl ?_
    refine HO_nil ?_
    refine H_env (ρ':=[(40,_),(8,_),(0,_),(1,_),(5,_),(6,_),(27,_),(28,_),(29,_)]) ⟨rfl,rfl,rfl,rfl,rfl,rfl,rfl,rfl,rfl,trivial⟩ ?_
    refine H_cond rfl ?_ ?_
    ·intro h40
     replace h40:=nT h40
     refine H_seq ?_
     refine H_region (l:=[_,_,_,_,_,_]) rfl ?_
     iterate 2 refine HO_move rfl rfl rfl ?_
     refine HO_build (xo:=[(0,_)]) (vs:=[_]) rfl rfl rfl rfl (bd106_0_i) ?_
     refine HO_nilDat kPair ?_
     refine HO_buildSlice (kd:=kSess) (xo:=[_]) (vs:=[_]) (cs:=[_,_,_,_,_,_,_]) (xs:=[(⟨ix,0,Mod.err 0⟩ : Sess)]) rfl rfl rfl rfl Try.underlying32 elt106 rfl rfl rfl (by decide) (by decide) (by simp [Value.cells]) rfl (fun ok w hA => ⟨_,_,rfl,⟨⟨rx,Mod.zr,Mod.zr,Nat.zero_le _,Mod.zr,Nat.zero_le _⟩,⟨_,_⟩,rfl,(List.forall_mem_cons.2 ⟨hA _ (List.mem_of_getElem? (i:=0) rfl),(by simp)⟩)⟩,rfl⟩) ?_
     intro g44
     refine HO_append (i:=5) (R:=[_,_,_,_,_,_]) rfl rfl rfl rfl rfl Try.underlying32 elt106 rfl rfl (SrcOk.own (j:=0) Try.underlying32 rfl rfl) ?_ ?_
     ·(simp only [List.length_append,List.length_cons,List.length_nil];omega)
     intro a45 c45
     refine HO_assign rfl rfl rfl ?_
     refine HO_nil ?_
     refine H_env (ρ':=[(5,_),(8,_),(0,_),(1,_),(27,_),(28,_),(29,_)]) ⟨rfl,rfl,rfl,rfl,rfl,rfl,rfl,trivial⟩ ?_
     refine H_world (kp [yy,nn,nn,yy,yy,yy,yy] [_,_,_,_,_] rfl) ?_
     refine H_region (l:=[_]) rfl ?_
     refine HO_assign rfl rfl rfl ?_
     refine HO_nil ?_
     refine H_region (l:=[_,_,_,_,_]) rfl ?_
     refine HO_move rfl rfl rfl ?_
     refine HO_loadA (i:=1) (us:=[]) (cs:=[_,_,_,_,_,_,_]) (ts:=[]) rfl rfl rfl Try.isAgg106 Try.sizeOf106 rfl (.loc _ _ _) rfl rfl rfl rfl ?_
     refine HO_buildSlice (kd:=kSess) (xo:=[_]) (vs:=[_]) (cs:=[_,_,_,_,_,_,_]) (xs:=[z31]) rfl rfl rfl rfl Try.underlying32 elt106 rfl rfl rfl (by decide) (by decide) (by simp [Value.cells]) rfl (fun ok w hA => ⟨_,_,rfl,⟨hI31,⟨_,_⟩,rfl,(List.forall_mem_cons.2 ⟨hA _ (List.mem_of_getElem? (i:=2) rfl),(by simp)⟩)⟩,rfl⟩) ?_
     intro g48
     refine HO_append (i:=1) (R:=[_,_,_,_,_]) rfl rfl rfl rfl rfl Try.underlying32 elt106 rfl rfl (SrcOk.own (j:=0) Try.underlying32 rfl rfl) ?_ ?_
     ·(simp only [List.length_append,List.length_cons,List.length_nil];omega)
     intro a49 c49
     refine HO_assign rfl rfl rfl ?_
     refine HO_nil ?_
     refine H_env (ρ':=[(5,_),(6,_),(0,_),(1,_),(27,_),(28,_),(29,_)]) ⟨rfl,rfl,rfl,rfl,rfl,rfl,rfl,trivial⟩ ?_
     refine H_world (kp [yy,nn,nn,nn,yy,yy] [_,_,_] rfl) ?_
     refine H_blk ?_
     refine H_region (l:=[_,_]) rfl ?_
     refine HO_bin rfl rfl rfl rfl (bin_add ?_ ?_) ?_
     ·(first | omega | assumption | decide)
     ·(first | omega | assumption | decide)
     refine HO_move rfl rfl rfl ?_
     refine HO_nil ?_
     refine H_env (ρ':=[(29,_),(5,_),(6,_),(0,_),(1,_),(27,_),(28,_)]) ⟨rfl,rfl,rfl,rfl,rfl,rfl,rfl,trivial⟩ ?_
     refine H_inv (fun a w hf hA => ⟨⟨i + 1,((out ++ [(⟨ix,0,Mod.err 0⟩ : Sess)]) ++ [z31]),true,a49,c49⟩,?_,?_,hf.sub ?_,?_⟩)
     ·exact ⟨by dsimp only;omega,(by have hn:=soInt.ins_next Sess.id (x:=(⟨ix,0,Mod.err 0⟩ : Sess)) hz31 hI.2.1;rw [show soInt.lt (Sess.id (⟨ix,0,Mod.err 0⟩ : Sess)) (Sess.id z31) = true from decide_eq_true h38_] at hn;simpa [h40,List.append_assoc] using hn),by dsimp only;(try simp only [List.length_append,List.length_cons,List.length_nil]);omega⟩
     ·(try dsimp only);omega
     ·exact ⟨rfl,rfl,rfl,rfl,rfl,rfl,rfl,trivial⟩
     ·exact hA.only (is:=[0,0,2]) (Z:=[]) rfl
    intro h40
    replace h40:=nF h40
    refine H_skip ?_
    refine H_region (l:=[_,_,_,_,_]) rfl ?_
    refine HO_move rfl rfl rfl ?_
    refine HO_loadA (i:=0) (us:=[]) (cs:=[_,_,_,_,_,_,_]) (ts:=[]) rfl rfl rfl Try.isAgg106 Try.sizeOf106 rfl (.loc _ _ _) rfl rfl rfl rfl ?_
    refine HO_buildSlice (kd:=kSess) (xo:=[_]) (vs:=[_]) (cs:=[_,_,_,_,_,_,_]) (xs:=[z31]) rfl rfl rfl rfl Try.underlying32 elt106 rfl rfl rfl (by decide) (by decide) (by simp [Value.cells]) rfl (fun ok w hA => ⟨_,_,rfl,⟨hI31,⟨_,_⟩,rfl,(List.forall_mem_cons.2 ⟨hA _ (List.mem_of_getElem? (i:=1) rfl),(by simp)⟩)⟩,rfl⟩) ?_
    intro g48
    refine HO_append (i:=4) (R:=[_,_,_,_,_]) rfl rfl rfl rfl rfl Try.underlying32 elt106 rfl rfl (SrcOk.own (j:=0) Try.underlying32 rfl rfl) ?_ ?_
    ·(simp only [List.length_append,List.length_cons,List.length_nil];omega)
    intro a49 c49
    refine HO_assign rfl rfl rfl ?_
    refine HO_nil ?_
    refine H_env (ρ':=[(5,_),(0,_),(1,_),(6,_),(27,_),(28,_),(29,_)]) ⟨rfl,rfl,rfl,rfl,rfl,rfl,rfl,trivial⟩ ?_
    refine H_world (kp [yy,nn,nn,nn,yy,yy] [_,_,_] rfl) ?_
    refine H_blk ?_
    refine H_region (l:=[_,_]) rfl ?_
    refine HO_bin rfl rfl rfl rfl (bin_add ?_ ?_) ?_
    ·(first | omega | assumption | decide)
    ·(first | omega | assumption | decide)
    refine HO_move rfl rfl rfl ?_
    refine HO_nil ?_
    refine H_env (ρ':=[(29,_),(5,_),(0,_),(1,_),(6,_),(27,_),(28,_)]) ⟨rfl,rfl,rfl,rfl,rfl,rfl,rfl,trivial⟩ ?_
    refine H_inv (fun a w hf hA => ⟨⟨i + 1,(out ++ [z31]),d,a49,c49⟩,?_,?_,hf.sub ?_,?_⟩)
    ·exact ⟨by dsimp only;omega,(by have hn:=soInt.ins_next Sess.id (x:=(⟨ix,0,Mod.err 0⟩ : Sess)) hz31 hI.2.1;rw [show soInt.lt (Sess.id (⟨ix,0,Mod.err 0⟩ : Sess)) (Sess.id z31) = true from decide_eq_true h38_] at hn;simpa [h40,List.append_assoc] using hn),by dsimp only;(try simp only [List.length_append,List.length_cons,List.length_nil]);omega⟩
    ·(try dsimp only);omega
    ·exact ⟨rfl,rfl,rfl,rfl,rfl,rfl,rfl,trivial⟩
    ·exact hA.only (is:=[0,0,2]) (Z:=[]) rfl
   intro h37
   replace h37:=dF h37
   have h38_:=h37
   iterate 2 refine HO_no rfl rfl rfl ?_
   refine HO_pick_f rfl rfl rfl rfl ?_
   refine HO_nil ?_
   refine H_env (ρ':=[(40,_),(8,_),(0,_),(1,_),(5,_),(6,_),(27,_),(28,_),(29,_)]) ⟨rfl,rfl,rfl,rfl,rfl,rfl,rfl,rfl,rfl,trivial⟩ ?_
   refine H_cond rfl (fun h => nomatch h) (fun _ => ?_)
   refine H_skip ?_
   refine H_region (l:=[_,_,_,_,_]) rfl ?_
   refine HO_move rfl rfl rfl ?_
   refine HO_loadA (i:=0) (us:=[]) (cs:=[_,_,_,_,_,_,_]) (ts:=[]) rfl rfl rfl Try.isAgg106 Try.sizeOf106 rfl (.loc _ _ _) rfl rfl rfl rfl ?_
   refine HO_buildSlice (kd:=kSess) (xo:=[_]) (vs:=[_]) (cs:=[_,_,_,_,_,_,_]) (xs:=[z31]) rfl rfl rfl rfl Try.underlying32 elt106 rfl rfl rfl (by decide) (by decide) (by simp [Value.cells]) rfl (fun ok w hA => ⟨_,_,rfl,⟨hI31,⟨_,_⟩,rfl,(List.forall_mem_cons.2 ⟨hA _ (List.mem_of_getElem? (i:=1) rfl),(by simp)⟩)⟩,rfl⟩) ?_
   intro g48
   refine HO_append (i:=4) (R:=[_,_,_,_,_]) rfl rfl rfl rfl rfl Try.underlying32 elt106 rfl rfl (SrcOk.own (j:=0) Try.underlying32 rfl rfl) ?_ ?_
   ·(simp only [List.length_append,List.length_cons,List.length_nil];omega)
   intro a49 c49
   refine HO_assign rfl rfl rfl ?_
   refine HO_nil ?_
   refine H_env (ρ':=[(5,_),(0,_),(1,_),(6,_),(27,_),(28,_),(29,_)]) ⟨rfl,rfl,rfl,rfl,rfl,rfl,rfl,trivial⟩ ?_
   refine H_world (kp [yy,nn,nn,nn,yy,yy] [_,_,_] rfl) ?_
   refine H_blk ?_
   refine H_region (l:=[_,_]) rfl ?_
   refine HO_bin rfl rfl rfl rfl (bin_add ?_ ?_) ?_
   ·(first | omega | assumption | decide)
   ·(first | omega | assumption | decide)
   refine HO_move rfl rfl rfl ?_
   refine HO_nil ?_
   refine H_env (ρ':=[(29,_),(5,_),(0,_),(1,_),(6,_),(27,_),(28,_)]) ⟨rfl,rfl,rfl,rfl,rfl,rfl,rfl,trivial⟩ ?_
   refine H_inv (fun a w hf hA => ⟨⟨i + 1,(out ++ [z31]),d,a49,c49⟩,?_,?_,hf.sub ?_,?_⟩)
   ·exact ⟨by dsimp only;omega,(by have hn:=soInt.ins_next Sess.id (x:=(⟨ix,0,Mod.err 0⟩ : Sess)) hz31 hI.2.1;rw [show soInt.lt (Sess.id (⟨ix,0,Mod.err 0⟩ : Sess)) (Sess.id z31) = false from decide_eq_false h38_] at hn;simpa [List.append_assoc] using hn),by dsimp only;(try simp only [List.length_append,List.length_cons,List.length_nil]);omega⟩
   ·(try dsimp only);omega
   ·exact ⟨rfl,rfl,rfl,rfl,rfl,rfl,rfl,trivial⟩
   ·exact hA.only (is:=[0,0,2]) (Z:=[]) rfl
  intro h30
  replace h30:=dF h30
  refine H_exit rfl ?_
  refine H_seq ?_
  refine H_seq ?_
  obtain rfl : i = xs.length:=by omega
  have hfin:=soInt.ins_end Sess.id (x:=(⟨ix,0,Mod.err 0⟩ : Sess)) hs hf hI.2.1
  refine H_region (l:=[_,_]) rfl ?_
  refine HO_move rfl rfl rfl ?_
  refine HO_not rfl rfl rfl ?_
  refine HO_nil ?_
  refine H_env (ρ':=[(52,_),(0,_),(1,_),(5,_)]) ⟨rfl,rfl,rfl,rfl,trivial⟩ ?_
  refine H_world (kp [yy,yy,nn] [_,_] rfl) ?_
  refine H_cond rfl ?_ ?_
  ·intro h52
   replace h52:=nT h52
   rw [h52] at hfin
   refine H_region (l:=[_,_,_,_,_,_]) rfl ?_
   iterate 2 refine HO_move rfl rfl rfl ?_
   refine HO_build (xo:=[(0,_)]) (vs:=[_]) rfl rfl rfl rfl (bd106_0_i) ?_
   refine HO_nilDat kPair ?_
   refine HO_buildSlice (kd:=kSess) (xo:=[_]) (vs:=[_]) (cs:=[_,_,_,_,_,_,_]) (xs:=[(⟨ix,0,Mod.err 0⟩ : Sess)]) rfl rfl rfl rfl Try.underlying32 elt106 rfl rfl rfl (by decide) (by decide) (by simp [Value.cells]) rfl (fun ok w hA => ⟨_,_,rfl,⟨⟨rx,Mod.zr,Mod.zr,Nat.zero_le _,Mod.zr,Nat.zero_le _⟩,⟨_,_⟩,rfl,(List.forall_mem_cons.2 ⟨hA _ (List.mem_of_getElem? (i:=0) rfl),(by simp)⟩)⟩,rfl⟩) ?_
   intro g56
   refine HO_append (i:=3) (R:=[_,_,_]) rfl rfl rfl rfl rfl Try.underlying32 elt106 rfl rfl (SrcOk.own (j:=0) Try.underlying32 rfl rfl) ?_ ?_
   ·(simp only [List.length_append,List.length_cons,List.length_nil];omega)
   intro a57 c57
   refine HO_assign rfl rfl rfl ?_
   refine HO_nil ?_
   refine H_env (ρ':=[(5,_),(0,_)]) ⟨rfl,rfl,trivial⟩ ?_
   refine H_world (kp [yy,nn,nn,yy] [_,_] rfl) ?_
   refine H_seq ?_
   refine H_region (l:=[_,_,_,_,_]) rfl ?_
   iterate 2 refine HO_move rfl rfl rfl ?_
   refine HO_nilCheck rfl rfl rfl ?_
   refine HO_fieldAddr (r:=0) rfl rfl rfl Try.underlying98 rfl Try.sizeOf32 rfl ?_
   refine HO_store (i:=1) (j:=0) (us:=[]) (old:=[_]) (ts:=[]) (cs:=[_]) (R:=[_]) (new:=[_]) rfl rfl rfl Try.sizeOf32 rfl (by simp [Value.oneCell']) rfl rfl rfl rfl rfl rfl ?_
   refine HO_nil ?_
   refine H_env (ρ':=[]) trivial ?_
   refine H_seq ?_
   refine H_region (l:=[_]) rfl ?_
   refine HO_assign rfl rfl rfl ?_
   refine HO_nil ?_
   refine H_freeze (i:=1) (R:=[_]) rfl (keepM hM0 ⟨(fun _ h => ⟨_,List.mem_of_getElem? (i:=0) rfl,h⟩),(fun _ h => nomatch h),trivial⟩) ?_
   have hP:=Mod.openE_ok h16 h9 hf
   rw [show Mod.sput (⟨ix,0,Mod.err 0⟩ : Sess) xs = _ from hfin.symm] at hP
   refine H_ret1 Try.results49 (.tmp rfl) (fun w hA => ⟨(a57,c57),congrArg Ending.returned ?_,?_,?_⟩)
   ·(rw [hP.2])
   ·trivial
   ·(rw [hP.1];exact hA.only (is:=[0,0]) (Z:=[]) rfl)
  intro h52
  replace h52:=nF h52
  rw [h52] at hfin
  refine H_skip ?_
  refine H_seq ?_
  refine H_region (l:=[_,_,_,_,_]) rfl ?_
  iterate 2 refine HO_move rfl rfl rfl ?_
  refine HO_nilCheck rfl rfl rfl ?_
  refine HO_fieldAddr (r:=0) rfl rfl rfl Try.underlying98 rfl Try.sizeOf32 rfl ?_
  refine HO_store (i:=0) (j:=0) (us:=[]) (old:=[_]) (ts:=[]) (cs:=[_]) (R:=[_]) (new:=[_]) rfl rfl rfl Try.sizeOf32 rfl (by simp [Value.oneCell']) rfl rfl rfl rfl rfl rfl ?_
  refine HO_nil ?_
  refine H_env (ρ':=[]) trivial ?_
  refine H_seq ?_
  refine H_region (l:=[_]) rfl ?_
  refine HO_assign rfl rfl rfl ?_
  refine HO_nil ?_
  refine H_freeze (i:=1) (R:=[_]) rfl (keepM hM0 ⟨(fun _ h => ⟨_,List.mem_of_getElem? (i:=0) rfl,h⟩),(fun _ h => nomatch h),trivial⟩) ?_
  have hP:=Mod.openE_ok h16 h9 hf
  rw [show Mod.sput (⟨ix,0,Mod.err 0⟩ : Sess) xs = _ from hfin.symm] at hP
  simp only [if_pos,List.append_nil] at hP
  refine H_ret1 Try.results49 (.tmp rfl) (fun w hA => ⟨(p,q),congrArg Ending.returned ?_,?_,?_⟩)
  ·(rw [hP.2])
  ·trivial
  ·(rw [hP.1];exact hA.only (is:=[0,0]) (Z:=[]) rfl)
theorem rexpire_spec (g : Nat) (xs : List Sess) (a : Option Addr) (c : Nat) (k : Int) (hs : soInt.Srt Sess.id xs) (hl : xs.length≤16) : Spec Try.prog 50 #[.pointer (some ⟨g,0,none⟩),.int .i64 (k)] [.loc g [.slice a (xs.length) c] 98,.dat kSess.sl (xs) [.slice a (xs.length) c]] (β:=Option Addr × Nat) (fun y => .int .i64 ((if soInt.found Sess.id k xs = true then 0 else 14))) (fun y => True) (fun y => [.loc g [.slice y.1 (((if soInt.found Sess.id k xs = true then Mod.scut k xs else xs)).length) y.2] 98,.dat kSess.sl ((if soInt.found Sess.id k xs = true then Mod.scut k xs else xs)) [.slice y.1 (((if soInt.found Sess.id k xs = true then Mod.scut k xs else xs)).length) y.2]]):=by
 refine Spec.enter (vs:=[_,_]) Try.func50 rfl Try.ntmps50 rfl (Nat.le_of_ble_eq_true rfl) (fun w0 ok0 => ?_)
 generalize hM0 : blks _ = M0
 refine H_len_le (i:=1) rfl ?_
 intro hlen1
 refine H_seq ?_
 refine H_region (l:=[_]) rfl ?_
 refine HO_assign rfl rfl rfl ?_
 refine HO_nil ?_
 refine H_env (ρ':=[(0,_),(1,_)]) ⟨rfl,rfl,trivial⟩ ?_
 refine H_seq ?_
 refine H_region (l:=[_,_,_,_]) rfl ?_
 iterate 2 refine HO_move rfl rfl rfl ?_
 refine HO_dup (i:=1) rfl rfl ?_
 refine HO_call (first:=[]) (capt:=[]) (is:=[0,0]) (R:=[_]) rfl rfl rfl rfl rfl Try.call77 rfl (rfind_spec _ _ _ _ _ ?_) ?_
 ·exact hs
 intro y8 hy8
 clear y8 hy8
 refine HO_assign rfl rfl rfl ?_
 refine HO_nil ?_
 refine H_env (ρ':=[(5,_),(0,_)]) ⟨rfl,rfl,trivial⟩ ?_
 refine H_seq ?_
 refine H_seq ?_
 refine H_region (l:=[_,_]) rfl ?_
 refine HO_move rfl rfl rfl ?_
 refine HO_set (v':=.int .i64 (Mod.findI k xs)) 9 rfl (by rfl) ?_
 refine HO_bin rfl rfl rfl rfl bin_lss ?_
 refine HO_nil ?_
 refine H_env (ρ':=[(10,_),(5,_),(0,_)]) ⟨rfl,rfl,rfl,trivial⟩ ?_
 refine H_cond rfl ?_ ?_
 ·intro h10
  replace h10:=dT h10
  have hf:=Mod.find_no h10
  refine H_seq ?_
  refine H_region (l:=[_]) rfl ?_
  refine HO_assign rfl rfl rfl ?_
  refine HO_nil ?_
  refine H_env (ρ':=[(4,_)]) ⟨rfl,trivial⟩ ?_
  refine H_ret1 Try.results50 (.tmp rfl) (fun w hA => ⟨(a,c),congrArg Ending.returned ?_,?_,?_⟩)
  ·(rw [hf];rfl)
  ·trivial
  ·(rw [hf];exact hA.keep (m:=[yy,yy]) (Y:=[_,_]) rfl)
 intro h10
 replace h10:=dF h10
 obtain ⟨hf,hr⟩:=Mod.find_yes h10
 refine H_skip ?_
 refine H_seq ?_
 refine H_set (v':=.int .i64 ((soInt.rank Sess.id k xs : Nat) : Int)) 5 rfl (congrArg (Value.int .i64) hr) ?_
 refine H_datCap (i:=1) rfl (fun hcap => ?_)
 refine H_drawB (m:=[nn,yy]) (Xs:=[_]) (fuel:=20) (l:=#[false,false,false,false,false,false,false,false,false,false,false,false,false,false,false,false,false,false,false,false]) mixed rfl rfl rfl ?_
 refine HA_take (i:=0) bp rfl rfl rfl rfl (by kernel_rfl) rfl (V_move rfl) (kp [nn,yy] [_] rfl) ?_
 refine HA_take (i:=2) bp rfl rfl rfl rfl (by kernel_rfl) rfl (V_move rfl) (kp [nn,yy] [_] rfl) ?_
 refine HA_take (i:=3) bp rfl rfl rfl rfl (by kernel_rfl) rfl (V_nilCheck rfl) (kp [nn,yy] [_] rfl) ?_
 refine HA_take (i:=4) bp rfl rfl rfl rfl (by kernel_rfl) rfl (V_fieldAddr (r:=0) rfl Try.underlying98 rfl Try.sizeOf32 rfl) (kp [nn,yy] [_] rfl) ?_
 refine HA_take (i:=6) bp rfl rfl rfl rfl (by kernel_rfl) rfl (V_move rfl) (kp [nn,yy] [_] rfl) ?_
 refine HA_take (i:=9) bp rfl rfl rfl rfl (by kernel_rfl) rfl (V_move rfl) (kp [nn,yy] [_] rfl) ?_
 refine HA_take (i:=10) bp rfl rfl rfl rfl (by kernel_rfl) rfl (V_nilCheck rfl) (kp [nn,yy] [_] rfl) ?_
 refine HA_take (i:=11) bp rfl rfl rfl rfl (by kernel_rfl) rfl (V_fieldAddr (r:=0) rfl Try.underlying98 rfl Try.sizeOf32 rfl) (kp [nn,yy] [_] rfl) ?_
 refine HA_take (i:=13) bp rfl rfl rfl rfl (by kernel_rfl) rfl (V_move rfl) (kp [nn,yy] [_] rfl) ?_
 refine HA_take (i:=14) bp rfl rfl rfl rfl (by kernel_rfl) rfl (V_bin rfl rfl (bin_add ?_ ?_)) (kp [nn,yy] [_] rfl) ?_
 ·(have:=soInt.rank_le Sess.id k xs;omega)
 ·(have:=soInt.rank_le Sess.id k xs;omega)
 refine HA_loud3 (i:=1) (j:=5) (m:=12) (by kernel_rfl) rfl rfl rfl ?_ ?_ ?_
 ·refine HO_buildSlice0 (kd:=kSess) rfl rfl Try.underlying32 elt106 ?_
  intro g12
  refine HA_back rfl (kp [nn,nn,yy] [_] rfl) ?_
  refine HA_loud2 (i:=5) (j:=12) (by kernel_rfl) rfl rfl ?_ ?_
  ·refine HO_load1 (i:=1) (j:=0) rfl rfl rfl Try.isAgg32 rfl (.loc _ _ _) rfl rfl ?_
   refine HA_back rfl (kp [nn,nn,yy] [_] rfl) ?_
   refine HA_take (i:=7) bp rfl rfl rfl rfl (by kernel_rfl) rfl (V_sliceA_h rfl rfl rfl Try.underlying32 Try.sizeOf106 ?_) (kp [nn,nn,yy] [_] rfl) ?_
   ·(have:=soInt.rank_le Sess.id k xs;omega)
   refine HA_loud2 (i:=8) (j:=12) (by kernel_rfl) rfl rfl ?_ ?_
   ·refine HO_append (i:=0) (R:=[_,_]) rfl rfl rfl rfl rfl Try.underlying32 elt106 rfl rfl (SrcOk.part (j:=1) (l:=0) (h':=soInt.rank Sess.id k xs) Try.underlying32 rfl ?_ ?_) ?_ ?_
    ·omega
    ·(exact soInt.rank_le Sess.id k xs)
    ·(simp only [List.length_append,List.length_nil,List.length_take,List.length_drop];omega)
    intro a19 c19
    refine HA_back rfl (kp [nn,nn,yy] [_] rfl) ?_
    refine HA_loud1 (i:=12) (by kernel_rfl) rfl ?_
    refine HO_load1 (i:=1) (j:=0) rfl rfl rfl Try.isAgg32 rfl (.loc _ _ _) rfl rfl ?_
    refine HA_back rfl (kp [nn,nn,yy] [_] rfl) ?_
    refine HA_take (i:=15) bp rfl rfl rfl rfl (by kernel_rfl) rfl (V_sliceA_l (l:=soInt.rank Sess.id k xs + 1) rfl rfl ?_ Try.underlying32 Try.sizeOf106 ?_) (kp [nn,nn,yy] [_] rfl) ?_
    ·omega
    ·(have:=soInt.found_rank Sess.id hf;omega)
    refine HA_loud1 (i:=16) (by kernel_rfl) rfl ?_
    refine HO_append (i:=0) (R:=[_,_]) rfl rfl rfl rfl rfl Try.underlying32 elt106 rfl rfl (SrcOk.part (j:=1) (l:=soInt.rank Sess.id k xs + 1) (h':=xs.length) Try.underlying32 rfl ?_ ?_) ?_ ?_
    ·(have:=soInt.found_rank Sess.id hf;omega)
    ·omega
    ·(simp only [List.length_append,List.length_nil,List.length_take,List.length_drop];omega)
    intro a27 c27
    refine HA_back rfl (kp [nn,nn,yy] [_] rfl) ?_
    refine HA_take (i:=17) bp rfl rfl rfl rfl (by kernel_rfl) rfl (V_nilCheck rfl) (kp [nn,nn,yy] [_] rfl) ?_
    refine HA_take (i:=18) bp rfl rfl rfl rfl (by kernel_rfl) rfl (V_fieldAddr (r:=0) rfl Try.underlying98 rfl Try.sizeOf32 rfl) (kp [nn,nn,yy] [_] rfl) ?_
    refine HA_loud1 (i:=19) (by kernel_rfl) rfl ?_
    refine HO_store (i:=1) (j:=0) (us:=[]) (old:=[_]) (ts:=[]) (cs:=[_]) (R:=[_,_]) (new:=[_]) rfl rfl rfl Try.sizeOf32 rfl (by simp [Value.oneCell']) rfl rfl rfl rfl rfl rfl ?_
    refine HA_back rfl (kp [nn,nn,yy] [_] rfl) ?_
    refine HA_done (by kernel_rfl) ?_
    refine H_env (ρ':=[]) trivial ?_
    refine H_world (kp [yy,yy,nn] [_,_] rfl) ?_
    refine H_seq ?_
    refine H_region (l:=[_]) rfl ?_
    refine HO_assign rfl rfl rfl ?_
    refine HO_nil ?_
    refine H_freeze (i:=1) (R:=[_]) rfl (keepM hM0 ⟨(fun _ h => ⟨_,List.mem_of_getElem? (i:=0) rfl,h⟩),(fun _ h => nomatch h),trivial⟩) ?_
    refine H_ret1 Try.results50 (.tmp rfl) (fun w hA => ⟨(a27,c27),congrArg Ending.returned ?_,?_,?_⟩)
    ·(rw [hf];rfl)
    ·trivial
    ·(rw [hf,if_pos rfl,Mod.cut_sess hf];exact (hA.only (is:=[0,0]) (Z:=[]) rfl).cast (by simp))
   ·refine HO_load1 (i:=1) (j:=0) rfl rfl rfl Try.isAgg32 rfl (.loc _ _ _) rfl rfl ?_
    refine HA_back rfl (kp [nn,nn,yy] [_] rfl) ?_
    refine HA_take (i:=15) bp rfl rfl rfl rfl (by kernel_rfl) rfl (V_sliceA_l (l:=soInt.rank Sess.id k xs + 1) rfl rfl ?_ Try.underlying32 Try.sizeOf106 ?_) (kp [nn,nn,yy] [_] rfl) ?_
    ·omega
    ·(have:=soInt.found_rank Sess.id hf;omega)
    refine HA_loud1 (i:=8) (by kernel_rfl) rfl ?_
    refine HO_append (i:=0) (R:=[_,_]) rfl rfl rfl rfl rfl Try.underlying32 elt106 rfl rfl (SrcOk.part (j:=1) (l:=0) (h':=soInt.rank Sess.id k xs) Try.underlying32 rfl ?_ ?_) ?_ ?_
    ·omega
    ·(exact soInt.rank_le Sess.id k xs)
    ·(simp only [List.length_append,List.length_nil,List.length_take,List.length_drop];omega)
    intro a19 c19
    refine HA_back rfl (kp [nn,nn,yy] [_] rfl) ?_
    refine HA_loud1 (i:=16) (by kernel_rfl) rfl ?_
    refine HO_append (i:=0) (R:=[_,_]) rfl rfl rfl rfl rfl Try.underlying32 elt106 rfl rfl (SrcOk.part (j:=1) (l:=soInt.rank Sess.id k xs + 1) (h':=xs.length) Try.underlying32 rfl ?_ ?_) ?_ ?_
    ·(have:=soInt.found_rank Sess.id hf;omega)
    ·omega
    ·(simp only [List.length_append,List.length_nil,List.length_take,List.length_drop];omega)
    intro a27 c27
    refine HA_back rfl (kp [nn,nn,yy] [_] rfl) ?_
    refine HA_take (i:=17) bp rfl rfl rfl rfl (by kernel_rfl) rfl (V_nilCheck rfl) (kp [nn,nn,yy] [_] rfl) ?_
    refine HA_take (i:=18) bp rfl rfl rfl rfl (by kernel_rfl) rfl (V_fieldAddr (r:=0) rfl Try.underlying98 rfl Try.sizeOf32 rfl) (kp [nn,nn,yy] [_] rfl) ?_
    refine HA_loud1 (i:=19) (by kernel_rfl) rfl ?_
    refine HO_store (i:=1) (j:=0) (us:=[]) (old:=[_]) (ts:=[]) (cs:=[_]) (R:=[_,_]) (new:=[_]) rfl rfl rfl Try.sizeOf32 rfl (by simp [Value.oneCell']) rfl rfl rfl rfl rfl rfl ?_
    refine HA_back rfl (kp [nn,nn,yy] [_] rfl) ?_
    refine HA_done (by kernel_rfl) ?_
    refine H_env (ρ':=[]) trivial ?_
    refine H_world (kp [yy,yy,nn] [_,_] rfl) ?_
    refine H_seq ?_
    refine H_region (l:=[_]) rfl ?_
    refine HO_assign rfl rfl rfl ?_
    refine HO_nil ?_
    refine H_freeze (i:=1) (R:=[_]) rfl (keepM hM0 ⟨(fun _ h => ⟨_,List.mem_of_getElem? (i:=0) rfl,h⟩),(fun _ h => nomatch h),trivial⟩) ?_
    refine H_ret1 Try.results50 (.tmp rfl) (fun w hA => ⟨(a27,c27),congrArg Ending.returned ?_,?_,?_⟩)
    ·(rw [hf];rfl)
    ·trivial
    ·(rw [hf,if_pos rfl,Mod.cut_sess hf];exact (hA.only (is:=[0,0]) (Z:=[]) rfl).cast (by simp))
  ·refine HO_load1 (i:=1) (j:=0) rfl rfl rfl Try.isAgg32 rfl (.loc _ _ _) rfl rfl ?_
   refine HA_back rfl (kp [nn,nn,yy] [_] rfl) ?_
   refine HA_take (i:=15) bp rfl rfl rfl rfl (by kernel_rfl) rfl (V_sliceA_l (l:=soInt.rank Sess.id k xs + 1) rfl rfl ?_ Try.underlying32 Try.sizeOf106 ?_) (kp [nn,nn,yy] [_] rfl) ?_
   ·omega
   ·(have:=soInt.found_rank Sess.id hf;omega)
   refine HA_loud1 (i:=5) (by kernel_rfl) rfl ?_
   refine HO_load1 (i:=1) (j:=0) rfl rfl rfl Try.isAgg32 rfl (.loc _ _ _) rfl rfl ?_
   refine HA_back rfl (kp [nn,nn,yy] [_] rfl) ?_
   refine HA_take (i:=7) bp rfl rfl rfl rfl (by kernel_rfl) rfl (V_sliceA_h rfl rfl rfl Try.underlying32 Try.sizeOf106 ?_) (kp [nn,nn,yy] [_] rfl) ?_
   ·(have:=soInt.rank_le Sess.id k xs;omega)
   refine HA_loud1 (i:=8) (by kernel_rfl) rfl ?_
   refine HO_append (i:=0) (R:=[_,_]) rfl rfl rfl rfl rfl Try.underlying32 elt106 rfl rfl (SrcOk.part (j:=1) (l:=0) (h':=soInt.rank Sess.id k xs) Try.underlying32 rfl ?_ ?_) ?_ ?_
   ·omega
   ·(exact soInt.rank_le Sess.id k xs)
   ·(simp only [List.length_append,List.length_nil,List.length_take,List.length_drop];omega)
   intro a19 c19
   refine HA_back rfl (kp [nn,nn,yy] [_] rfl) ?_
   refine HA_loud1 (i:=16) (by kernel_rfl) rfl ?_
   refine HO_append (i:=0) (R:=[_,_]) rfl rfl rfl rfl rfl Try.underlying32 elt106 rfl rfl (SrcOk.part (j:=1) (l:=soInt.rank Sess.id k xs + 1) (h':=xs.length) Try.underlying32 rfl ?_ ?_) ?_ ?_
   ·(have:=soInt.found_rank Sess.id hf;omega)
   ·omega
   ·(simp only [List.length_append,List.length_nil,List.length_take,List.length_drop];omega)
   intro a27 c27
   refine HA_back rfl (kp [nn,nn,yy] [_] rfl) ?_
   refine HA_take (i:=17) bp rfl rfl rfl rfl (by kernel_rfl) rfl (V_nilCheck rfl) (kp [nn,nn,yy] [_] rfl) ?_
   refine HA_take (i:=18) bp rfl rfl rfl rfl (by kernel_rfl) rfl (V_fieldAddr (r:=0) rfl Try.underlying98 rfl Try.sizeOf32 rfl) (kp [nn,nn,yy] [_] rfl) ?_
   refine HA_loud1 (i:=19) (by kernel_rfl) rfl ?_
   refine HO_store (i:=1) (j:=0) (us:=[]) (old:=[_]) (ts:=[]) (cs:=[_]) (R:=[_,_]) (new:=[_]) rfl rfl rfl Try.sizeOf32 rfl (by simp [Value.oneCell']) rfl rfl rfl rfl rfl rfl ?_
   refine HA_back rfl (kp [nn,nn,yy] [_] rfl) ?_
   refine HA_done (by kernel_rfl) ?_
   refine H_env (ρ':=[]) trivial ?_
   refine H_world (kp [yy,yy,nn] [_,_] rfl) ?_
   refine H_seq ?_
   refine H_region (l:=[_]) rfl ?_
   refine HO_assign rfl rfl rfl ?_
   refine HO_nil ?_
   refine H_freeze (i:=1) (R:=[_]) rfl (keepM hM0 ⟨(fun _ h => ⟨_,List.mem_of_getElem? (i:=0) rfl,h⟩),(fun _ h => nomatch h),trivial⟩) ?_
   refine H_ret1 Try.results50 (.tmp rfl) (fun w hA => ⟨(a27,c27),congrArg Ending.returned ?_,?_,?_⟩)
   ·(rw [hf];rfl)
   ·trivial
   ·(rw [hf,if_pos rfl,Mod.cut_sess hf];exact (hA.only (is:=[0,0]) (Z:=[]) rfl).cast (by simp))
 ·refine HO_load1 (i:=0) (j:=0) rfl rfl rfl Try.isAgg32 rfl (.loc _ _ _) rfl rfl ?_
  refine HA_back rfl (kp [nn,yy] [_] rfl) ?_
  refine HA_take (i:=7) bp rfl rfl rfl rfl (by kernel_rfl) rfl (V_sliceA_h rfl rfl rfl Try.underlying32 Try.sizeOf106 ?_) (kp [nn,yy] [_] rfl) ?_
  ·(have:=soInt.rank_le Sess.id k xs;omega)
  refine HA_loud2 (i:=1) (j:=12) (by kernel_rfl) rfl rfl ?_ ?_
  ·refine HO_buildSlice0 (kd:=kSess) rfl rfl Try.underlying32 elt106 ?_
   intro g12
   refine HA_back rfl (kp [nn,nn,yy] [_] rfl) ?_
   refine HA_loud2 (i:=8) (j:=12) (by kernel_rfl) rfl rfl ?_ ?_
   ·refine HO_append (i:=0) (R:=[_,_]) rfl rfl rfl rfl rfl Try.underlying32 elt106 rfl rfl (SrcOk.part (j:=1) (l:=0) (h':=soInt.rank Sess.id k xs) Try.underlying32 rfl ?_ ?_) ?_ ?_
    ·omega
    ·(exact soInt.rank_le Sess.id k xs)
    ·(simp only [List.length_append,List.length_nil,List.length_take,List.length_drop];omega)
    intro a19 c19
    refine HA_back rfl (kp [nn,nn,yy] [_] rfl) ?_
    refine HA_loud1 (i:=12) (by kernel_rfl) rfl ?_
    refine HO_load1 (i:=1) (j:=0) rfl rfl rfl Try.isAgg32 rfl (.loc _ _ _) rfl rfl ?_
    refine HA_back rfl (kp [nn,nn,yy] [_] rfl) ?_
    refine HA_take (i:=15) bp rfl rfl rfl rfl (by kernel_rfl) rfl (V_sliceA_l (l:=soInt.rank Sess.id k xs + 1) rfl rfl ?_ Try.underlying32 Try.sizeOf106 ?_) (kp [nn,nn,yy] [_] rfl) ?_
    ·omega
    ·(have:=soInt.found_rank Sess.id hf;omega)
    refine HA_loud1 (i:=16) (by kernel_rfl) rfl ?_
    refine HO_append (i:=0) (R:=[_,_]) rfl rfl rfl rfl rfl Try.underlying32 elt106 rfl rfl (SrcOk.part (j:=1) (l:=soInt.rank Sess.id k xs + 1) (h':=xs.length) Try.underlying32 rfl ?_ ?_) ?_ ?_
    ·(have:=soInt.found_rank Sess.id hf;omega)
    ·omega
    ·(simp only [List.length_append,List.length_nil,List.length_take,List.length_drop];omega)
    intro a27 c27
    refine HA_back rfl (kp [nn,nn,yy] [_] rfl) ?_
    refine HA_take (i:=17) bp rfl rfl rfl rfl (by kernel_rfl) rfl (V_nilCheck rfl) (kp [nn,nn,yy] [_] rfl) ?_
    refine HA_take (i:=18) bp rfl rfl rfl rfl (by kernel_rfl) rfl (V_fieldAddr (r:=0) rfl Try.underlying98 rfl Try.sizeOf32 rfl) (kp [nn,nn,yy] [_] rfl) ?_
    refine HA_loud1 (i:=19) (by kernel_rfl) rfl ?_
    refine HO_store (i:=1) (j:=0) (us:=[]) (old:=[_]) (ts:=[]) (cs:=[_]) (R:=[_,_]) (new:=[_]) rfl rfl rfl Try.sizeOf32 rfl (by simp [Value.oneCell']) rfl rfl rfl rfl rfl rfl ?_
    refine HA_back rfl (kp [nn,nn,yy] [_] rfl) ?_
    refine HA_done (by kernel_rfl) ?_
    refine H_env (ρ':=[]) trivial ?_
    refine H_world (kp [yy,yy,nn] [_,_] rfl) ?_
    refine H_seq ?_
    refine H_region (l:=[_]) rfl ?_
    refine HO_assign rfl rfl rfl ?_
    refine HO_nil ?_
    refine H_freeze (i:=1) (R:=[_]) rfl (keepM hM0 ⟨(fun _ h => ⟨_,List.mem_of_getElem? (i:=0) rfl,h⟩),(fun _ h => nomatch h),trivial⟩) ?_
    refine H_ret1 Try.results50 (.tmp rfl) (fun w hA => ⟨(a27,c27),congrArg Ending.returned ?_,?_,?_⟩)
    ·(rw [hf];rfl)
    ·trivial
    ·(rw [hf,if_pos rfl,Mod.cut_sess hf];exact (hA.only (is:=[0,0]) (Z:=[]) rfl).cast (by simp))
   ·refine HO_load1 (i:=1) (j:=0) rfl rfl rfl Try.isAgg32 rfl (.loc _ _ _) rfl rfl ?_
    refine HA_back rfl (kp [nn,nn,yy] [_] rfl) ?_
    refine HA_take (i:=15) bp rfl rfl rfl rfl (by kernel_rfl) rfl (V_sliceA_l (l:=soInt.rank Sess.id k xs + 1) rfl rfl ?_ Try.underlying32 Try.sizeOf106 ?_) (kp [nn,nn,yy] [_] rfl) ?_
    ·omega
    ·(have:=soInt.found_rank Sess.id hf;omega)
    refine HA_loud1 (i:=8) (by kernel_rfl) rfl ?_
    refine HO_append (i:=0) (R:=[_,_]) rfl rfl rfl rfl rfl Try.underlying32 elt106 rfl rfl (SrcOk.part (j:=1) (l:=0) (h':=soInt.rank Sess.id k xs) Try.underlying32 rfl ?_ ?_) ?_ ?_
    ·omega
    ·(exact soInt.rank_le Sess.id k xs)
    ·(simp only [List.length_append,List.length_nil,List.length_take,List.length_drop];omega)
    intro a19 c19
    refine HA_back rfl (kp [nn,nn,yy] [_] rfl) ?_
    refine HA_loud1 (i:=16) (by kernel_rfl) rfl ?_
    refine HO_append (i:=0) (R:=[_,_]) rfl rfl rfl rfl rfl Try.underlying32 elt106 rfl rfl (SrcOk.part (j:=1) (l:=soInt.rank Sess.id k xs + 1) (h':=xs.length) Try.underlying32 rfl ?_ ?_) ?_ ?_
    ·(have:=soInt.found_rank Sess.id hf;omega)
    ·omega
    ·(simp only [List.length_append,List.length_nil,List.length_take,List.length_drop];omega)
    intro a27 c27
    refine HA_back rfl (kp [nn,nn,yy] [_] rfl) ?_
    refine HA_take (i:=17) bp rfl rfl rfl rfl (by kernel_rfl) rfl (V_nilCheck rfl) (kp [nn,nn,yy] [_] rfl) ?_
    refine HA_take (i:=18) bp rfl rfl rfl rfl (by kernel_rfl) rfl (V_fieldAddr (r:=0) rfl Try.underlying98 rfl Try.sizeOf32 rfl) (kp [nn,nn,yy] [_] rfl) ?_
    refine HA_loud1 (i:=19) (by kernel_rfl) rfl ?_
    refine HO_store (i:=1) (j:=0) (us:=[]) (old:=[_]) (ts:=[]) (cs:=[_]) (R:=[_,_]) (new:=[_]) rfl rfl rfl Try.sizeOf32 rfl (by simp [Value.oneCell']) rfl rfl rfl rfl rfl rfl ?_
    refine HA_back rfl (kp [nn,nn,yy] [_] rfl) ?_
    refine HA_done (by kernel_rfl) ?_
    refine H_env (ρ':=[]) trivial ?_
    refine H_world (kp [yy,yy,nn] [_,_] rfl) ?_
    refine H_seq ?_
    refine H_region (l:=[_]) rfl ?_
    refine HO_assign rfl rfl rfl ?_
    refine HO_nil ?_
    refine H_freeze (i:=1) (R:=[_]) rfl (keepM hM0 ⟨(fun _ h => ⟨_,List.mem_of_getElem? (i:=0) rfl,h⟩),(fun _ h => nomatch h),trivial⟩) ?_
    refine H_ret1 Try.results50 (.tmp rfl) (fun w hA => ⟨(a27,c27),congrArg Ending.returned ?_,?_,?_⟩)
    ·(rw [hf];rfl)
    ·trivial
    ·(rw [hf,if_pos rfl,Mod.cut_sess hf];exact (hA.only (is:=[0,0]) (Z:=[]) rfl).cast (by simp))
  ·refine HO_load1 (i:=0) (j:=0) rfl rfl rfl Try.isAgg32 rfl (.loc _ _ _) rfl rfl ?_
   refine HA_back rfl (kp [nn,yy] [_] rfl) ?_
   refine HA_take (i:=15) bp rfl rfl rfl rfl (by kernel_rfl) rfl (V_sliceA_l (l:=soInt.rank Sess.id k xs + 1) rfl rfl ?_ Try.underlying32 Try.sizeOf106 ?_) (kp [nn,yy] [_] rfl) ?_
   ·omega
   ·(have:=soInt.found_rank Sess.id hf;omega)
   refine HA_loud1 (i:=1) (by kernel_rfl) rfl ?_
   refine HO_buildSlice0 (kd:=kSess) rfl rfl Try.underlying32 elt106 ?_
   intro g12
   refine HA_back rfl (kp [nn,nn,yy] [_] rfl) ?_
   refine HA_loud1 (i:=8) (by kernel_rfl) rfl ?_
   refine HO_append (i:=0) (R:=[_,_]) rfl rfl rfl rfl rfl Try.underlying32 elt106 rfl rfl (SrcOk.part (j:=1) (l:=0) (h':=soInt.rank Sess.id k xs) Try.underlying32 rfl ?_ ?_) ?_ ?_
   ·omega
   ·(exact soInt.rank_le Sess.id k xs)
   ·(simp only [List.length_append,List.length_nil,List.length_take,List.length_drop];omega)
   intro a19 c19
   refine HA_back rfl (kp [nn,nn,yy] [_] rfl) ?_
   refine HA_loud1 (i:=16) (by kernel_rfl) rfl ?_
   refine HO_append (i:=0) (R:=[_,_]) rfl rfl rfl rfl rfl Try.underlying32 elt106 rfl rfl (SrcOk.part (j:=1) (l:=soInt.rank Sess.id k xs + 1) (h':=xs.length) Try.underlying32 rfl ?_ ?_) ?_ ?_
   ·(have:=soInt.found_rank Sess.id hf;omega)
   ·omega
   ·(simp only [List.length_append,List.length_nil,List.length_take,List.length_drop];omega)
   intro a27 c27
   refine HA_back rfl (kp [nn,nn,yy] [_] rfl) ?_
   refine HA_take (i:=17) bp rfl rfl rfl rfl (by kernel_rfl) rfl (V_nilCheck rfl) (kp [nn,nn,yy] [_] rfl) ?_
   refine HA_take (i:=18) bp rfl rfl rfl rfl (by kernel_rfl) rfl (V_fieldAddr (r:=0) rfl Try.underlying98 rfl Try.sizeOf32 rfl) (kp [nn,nn,yy] [_] rfl) ?_
   refine HA_loud1 (i:=19) (by kernel_rfl) rfl ?_
   refine HO_store (i:=1) (j:=0) (us:=[]) (old:=[_]) (ts:=[]) (cs:=[_]) (R:=[_,_]) (new:=[_]) rfl rfl rfl Try.sizeOf32 rfl (by simp [Value.oneCell']) rfl rfl rfl rfl rfl rfl ?_
   refine HA_back rfl (kp [nn,nn,yy] [_] rfl) ?_
   refine HA_done (by kernel_rfl) ?_
   refine H_env (ρ':=[]) trivial ?_
   refine H_world (kp [yy,yy,nn] [_,_] rfl) ?_
   refine H_seq ?_
   refine H_region (l:=[_]) rfl ?_
   refine HO_assign rfl rfl rfl ?_
   refine HO_nil ?_
   refine H_freeze (i:=1) (R:=[_]) rfl (keepM hM0 ⟨(fun _ h => ⟨_,List.mem_of_getElem? (i:=0) rfl,h⟩),(fun _ h => nomatch h),trivial⟩) ?_
   refine H_ret1 Try.results50 (.tmp rfl) (fun w hA => ⟨(a27,c27),congrArg Ending.returned ?_,?_,?_⟩)
   ·(rw [hf];rfl)
   ·trivial
   ·(rw [hf,if_pos rfl,Mod.cut_sess hf];exact (hA.only (is:=[0,0]) (Z:=[]) rfl).cast (by simp))
 ·refine HO_load1 (i:=0) (j:=0) rfl rfl rfl Try.isAgg32 rfl (.loc _ _ _) rfl rfl ?_
  refine HA_back rfl (kp [nn,yy] [_] rfl) ?_
  refine HA_take (i:=15) bp rfl rfl rfl rfl (by kernel_rfl) rfl (V_sliceA_l (l:=soInt.rank Sess.id k xs + 1) rfl rfl ?_ Try.underlying32 Try.sizeOf106 ?_) (kp [nn,yy] [_] rfl) ?_
  ·omega
  ·(have:=soInt.found_rank Sess.id hf;omega)
  refine HA_loud2 (i:=1) (j:=5) (by kernel_rfl) rfl rfl ?_ ?_
  ·refine HO_buildSlice0 (kd:=kSess) rfl rfl Try.underlying32 elt106 ?_
   intro g12
   refine HA_back rfl (kp [nn,nn,yy] [_] rfl) ?_
   refine HA_loud1 (i:=5) (by kernel_rfl) rfl ?_
   refine HO_load1 (i:=1) (j:=0) rfl rfl rfl Try.isAgg32 rfl (.loc _ _ _) rfl rfl ?_
   refine HA_back rfl (kp [nn,nn,yy] [_] rfl) ?_
   refine HA_take (i:=7) bp rfl rfl rfl rfl (by kernel_rfl) rfl (V_sliceA_h rfl rfl rfl Try.underlying32 Try.sizeOf106 ?_) (kp [nn,nn,yy] [_] rfl) ?_
   ·(have:=soInt.rank_le Sess.id k xs;omega)
   refine HA_loud1 (i:=8) (by kernel_rfl) rfl ?_
   refine HO_append (i:=0) (R:=[_,_]) rfl rfl rfl rfl rfl Try.underlying32 elt106 rfl rfl (SrcOk.part (j:=1) (l:=0) (h':=soInt.rank Sess.id k xs) Try.underlying32 rfl ?_ ?_) ?_ ?_
   ·omega
   ·(exact soInt.rank_le Sess.id k xs)
   ·(simp only [List.length_append,List.length_nil,List.length_take,List.length_drop];omega)
   intro a19 c19
   refine HA_back rfl (kp [nn,nn,yy] [_] rfl) ?_
   refine HA_loud1 (i:=16) (by kernel_rfl) rfl ?_
   refine HO_append (i:=0) (R:=[_,_]) rfl rfl rfl rfl rfl Try.underlying32 elt106 rfl rfl (SrcOk.part (j:=1) (l:=soInt.rank Sess.id k xs + 1) (h':=xs.length) Try.underlying32 rfl ?_ ?_) ?_ ?_
   ·(have:=soInt.found_rank Sess.id hf;omega)
   ·omega
   ·(simp only [List.length_append,List.length_nil,List.length_take,List.length_drop];omega)
   intro a27 c27
   refine HA_back rfl (kp [nn,nn,yy] [_] rfl) ?_
   refine HA_take (i:=17) bp rfl rfl rfl rfl (by kernel_rfl) rfl (V_nilCheck rfl) (kp [nn,nn,yy] [_] rfl) ?_
   refine HA_take (i:=18) bp rfl rfl rfl rfl (by kernel_rfl) rfl (V_fieldAddr (r:=0) rfl Try.underlying98 rfl Try.sizeOf32 rfl) (kp [nn,nn,yy] [_] rfl) ?_
   refine HA_loud1 (i:=19) (by kernel_rfl) rfl ?_
   refine HO_store (i:=1) (j:=0) (us:=[]) (old:=[_]) (ts:=[]) (cs:=[_]) (R:=[_,_]) (new:=[_]) rfl rfl rfl Try.sizeOf32 rfl (by simp [Value.oneCell']) rfl rfl rfl rfl rfl rfl ?_
   refine HA_back rfl (kp [nn,nn,yy] [_] rfl) ?_
   refine HA_done (by kernel_rfl) ?_
   refine H_env (ρ':=[]) trivial ?_
   refine H_world (kp [yy,yy,nn] [_,_] rfl) ?_
   refine H_seq ?_
   refine H_region (l:=[_]) rfl ?_
   refine HO_assign rfl rfl rfl ?_
   refine HO_nil ?_
   refine H_freeze (i:=1) (R:=[_]) rfl (keepM hM0 ⟨(fun _ h => ⟨_,List.mem_of_getElem? (i:=0) rfl,h⟩),(fun _ h => nomatch h),trivial⟩) ?_
   refine H_ret1 Try.results50 (.tmp rfl) (fun w hA => ⟨(a27,c27),congrArg Ending.returned ?_,?_,?_⟩)
   ·(rw [hf];rfl)
   ·trivial
   ·(rw [hf,if_pos rfl,Mod.cut_sess hf];exact (hA.only (is:=[0,0]) (Z:=[]) rfl).cast (by simp))
  ·refine HO_load1 (i:=0) (j:=0) rfl rfl rfl Try.isAgg32 rfl (.loc _ _ _) rfl rfl ?_
   refine HA_back rfl (kp [nn,yy] [_] rfl) ?_
   refine HA_take (i:=7) bp rfl rfl rfl rfl (by kernel_rfl) rfl (V_sliceA_h rfl rfl rfl Try.underlying32 Try.sizeOf106 ?_) (kp [nn,yy] [_] rfl) ?_
   ·(have:=soInt.rank_le Sess.id k xs;omega)
   refine HA_loud1 (i:=1) (by kernel_rfl) rfl ?_
   refine HO_buildSlice0 (kd:=kSess) rfl rfl Try.underlying32 elt106 ?_
   intro g12
   refine HA_back rfl (kp [nn,nn,yy] [_] rfl) ?_
   refine HA_loud1 (i:=8) (by kernel_rfl) rfl ?_
   refine HO_append (i:=0) (R:=[_,_]) rfl rfl rfl rfl rfl Try.underlying32 elt106 rfl rfl (SrcOk.part (j:=1) (l:=0) (h':=soInt.rank Sess.id k xs) Try.underlying32 rfl ?_ ?_) ?_ ?_
   ·omega
   ·(exact soInt.rank_le Sess.id k xs)
   ·(simp only [List.length_append,List.length_nil,List.length_take,List.length_drop];omega)
   intro a19 c19
   refine HA_back rfl (kp [nn,nn,yy] [_] rfl) ?_
   refine HA_loud1 (i:=16) (by kernel_rfl) rfl ?_
   refine HO_append (i:=0) (R:=[_,_]) rfl rfl rfl rfl rfl Try.underlying32 elt106 rfl rfl (SrcOk.part (j:=1) (l:=soInt.rank Sess.id k xs + 1) (h':=xs.length) Try.underlying32 rfl ?_ ?_) ?_ ?_
   ·(have:=soInt.found_rank Sess.id hf;omega)
   ·omega
   ·(simp only [List.length_append,List.length_nil,List.length_take,List.length_drop];omega)
   intro a27 c27
   refine HA_back rfl (kp [nn,nn,yy] [_] rfl) ?_
   refine HA_take (i:=17) bp rfl rfl rfl rfl (by kernel_rfl) rfl (V_nilCheck rfl) (kp [nn,nn,yy] [_] rfl) ?_
   refine HA_take (i:=18) bp rfl rfl rfl rfl (by kernel_rfl) rfl (V_fieldAddr (r:=0) rfl Try.underlying98 rfl Try.sizeOf32 rfl) (kp [nn,nn,yy] [_] rfl) ?_
   refine HA_loud1 (i:=19) (by kernel_rfl) rfl ?_
   refine HO_store (i:=1) (j:=0) (us:=[]) (old:=[_]) (ts:=[]) (cs:=[_]) (R:=[_,_]) (new:=[_]) rfl rfl rfl Try.sizeOf32 rfl (by simp [Value.oneCell']) rfl rfl rfl rfl rfl rfl ?_
   refine HA_back rfl (kp [nn,nn,yy] [_] rfl) ?_
   refine HA_done (by kernel_rfl) ?_
   refine H_env (ρ':=[]) trivial ?_
   refine H_world (kp [yy,yy,nn] [_,_] rfl) ?_
   refine H_seq ?_
   refine H_region (l:=[_]) rfl ?_
   refine HO_assign rfl rfl rfl ?_
   refine HO_nil ?_
   refine H_freeze (i:=1) (R:=[_]) rfl (keepM hM0 ⟨(fun _ h => ⟨_,List.mem_of_getElem? (i:=0) rfl,h⟩),(fun _ h => nomatch h),trivial⟩) ?_
   refine H_ret1 Try.results50 (.tmp rfl) (fun w hA => ⟨(a27,c27),congrArg Ending.returned ?_,?_,?_⟩)
   ·(rw [hf];rfl)
   ·trivial
   ·(rw [hf,if_pos rfl,Mod.cut_sess hf];exact (hA.only (is:=[0,0]) (Z:=[]) rfl).cast (by simp))
end Go.Wk
