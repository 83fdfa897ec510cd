/- Contracts of the program's functions, each proved by walking its code. -/
import Derived.Test.YtlkdpglngomblaaKfmod2
import Derived.Test.YtlkdpglngomblaaMod4
set_option maxRecDepth 100000
set_option linter.unusedVariables false
set_option linter.unusedSimpArgs false
namespace Go.Wk.Fmod3
open Go Go.RowKit Go.Proofs Go.Wk
theorem bd38__  : ∀ w,(Instr.build 38 (List.toArray (List.zip [] []))).run Try.prog w = .ok (.agg #[.int .i64 (0),.bool (false),.string (⟨#[]⟩),.int .i64 (0),.slice none 0 0]) w:=fun _ => by kernel_rfl
theorem bd38_0_i {x1 : Int} : ∀ w,(Instr.build 38 (List.toArray (List.zip [0] [.int .i64 x1]))).run Try.prog w = .ok (.agg #[.int .i64 x1,.bool (false),.string (⟨#[]⟩),.int .i64 (0),.slice none 0 0]) w:=fun _ => by kernel_rfl
theorem bd38_1_o {x1 : Bool} : ∀ w,(Instr.build 38 (List.toArray (List.zip [1] [.bool x1]))).run Try.prog w = .ok (.agg #[.int .i64 (0),.bool x1,.string (⟨#[]⟩),.int .i64 (0),.slice none 0 0]) w:=fun _ => by kernel_rfl
theorem bd38_3_i {x1 : Int} : ∀ w,(Instr.build 38 (List.toArray (List.zip [3] [.int .i64 x1]))).run Try.prog w = .ok (.agg #[.int .i64 (0),.bool (false),.string (⟨#[]⟩),.int .i64 x1,.slice none 0 0]) w:=fun _ => by kernel_rfl
theorem bd38_4_s {a1 : Option Addr} {n1 c1 : Nat} : ∀ w,(Instr.build 38 (List.toArray (List.zip [4] [.slice a1 n1 c1]))).run Try.prog w = .ok (.agg #[.int .i64 (0),.bool (false),.string (⟨#[]⟩),.int .i64 (0),.slice a1 n1 c1]) w:=fun _ => by kernel_rfl
theorem bd56_0_1_ss {a1 : Option Addr} {n1 c1 : Nat} {a2 : Option Addr} {n2 c2 : Nat} : ∀ w,(Instr.build 56 (List.toArray (List.zip [0,1] [.slice a1 n1 c1,.slice a2 n2 c2]))).run Try.prog w = .ok (.agg #[.slice a1 n1 c1,.slice a2 n2 c2]) w:=fun _ => by kernel_rfl
theorem bd67_0_1_2_iiAiotisE {x1 : Int} {x2 : Int} {x4 : Int} {x5 : Bool} {x6 : ByteArray} {x7 : Int} {a8 : Option Addr} {n8 c8 : Nat} : ∀ w,(Instr.build 67 (List.toArray (List.zip [0,1,2] [.int .i64 x1,.int .i64 x2,.agg #[.int .i64 x4,.bool x5,.string x6,.int .i64 x7,.slice a8 n8 c8]]))).run Try.prog w = .ok (.agg #[.int .i64 x1,.int .i64 x2,.int .i64 x4,.bool x5,.string x6,.int .i64 x7,.slice a8 n8 c8]) w:=fun _ => by kernel_rfl
theorem bd67_0_i {x1 : Int} : ∀ w,(Instr.build 67 (List.toArray (List.zip [0] [.int .i64 x1]))).run Try.prog w = .ok (.agg #[.int .i64 x1,.int .i64 (0),.int .i64 (0),.bool (false),.string (⟨#[]⟩),.int .i64 (0),.slice none 0 0]) w:=fun _ => by kernel_rfl
theorem bd70_0_1_tt {x1 : ByteArray} {x2 : ByteArray} : ∀ w,(Instr.build 70 (List.toArray (List.zip [0,1] [.string x1,.string x2]))).run Try.prog w = .ok (.agg #[.string x1,.string x2]) w:=fun _ => by kernel_rfl
end Go.Wk.Fmod3
namespace Go.Wk
open Go Go.RowKit Go.Proofs Fmod3 
theorem scan_spec (xs : List Pair) (a : Option Addr) (c : Nat) (ki cs sq : Int) (ke ol cv ti : ByteArray) (li : Int) (hs : soStr.Srt Pair.key xs) (hl : xs.length≤10000) (hL : 1≤li∧li≤64) : Spec Try.prog 92 #[.slice a (xs.length) c,.agg #[.int .i64 (ki),.int .i64 (cs),.int .i64 (sq),.string (ke),.string (ol),.string (cv),.string (ti),.int .i64 (li)]] [.dat kPair.sl (xs) [.slice a (xs.length) c]] (β:=Option Addr × Nat) (fun y => .slice y.1 (((Mod.scanL ke ti li xs)).length) y.2) (fun y => True) (fun y => [.dat kPair.sl ((Mod.scanL ke ti li xs)) [.slice y.1 (((Mod.scanL ke ti li xs)).length) y.2]]):=by
 have rk1:=soStr.rank_le Pair.key ke xs
 have rk2:=soStr.rank_le Pair.key ti xs
 refine Spec.enter (vs:=[_,_]) Try.func92 rfl Try.ntmps92 rfl (Nat.le_of_ble_eq_true rfl) (fun w0 ok0 => ?_)
 generalize hM0 : blks _ = M0
 have hMn:=@noM _ _ hM0 (by simp [Atom.dat,Atom.elem])
 refine H_len_le (i:=0) rfl ?_
 intro hlen0
 refine H_seq ?_
 refine H_region (l:=[_,_]) rfl ?_
 refine HO_box (cs:=[_,_,_,_,_,_,_,_]) rfl rfl rfl rfl ?_
 intro g3
 refine HO_assign rfl rfl rfl ?_
 refine HO_nil ?_
 refine H_env (ρ':=[(3,_),(0,_)]) ⟨rfl,rfl,trivial⟩ ?_
 refine H_seq ?_
 refine H_region (l:=[_,_,_,_,_,_,_,_,_]) rfl ?_
 refine HO_move rfl rfl rfl ?_
 refine HO_fieldAddr (r:=3) rfl rfl rfl Try.underlying36 rfl Try.sizeOf9 rfl ?_
 refine HO_load1 (i:=0) (j:=3) rfl rfl rfl Try.isAgg9 rfl (.loc _ _ _) rfl rfl ?_
 refine HO_dup (i:=1) rfl rfl ?_
 refine HO_call (first:=[]) (capt:=[]) (is:=[0]) (R:=[_,_]) rfl rfl rfl rfl rfl Try.call87 rfl (findP_spec _ _ _ _ ?_ ?_) ?_
 ·exact hs
 ·exact hl
 intro y12 hy12
 clear y12 hy12
 refine HO_move rfl rfl rfl ?_
 refine HO_extract (vs:=[_,_]) rfl rfl rfl rfl ?_
 refine HO_extract (vs:=[_,_]) rfl rfl rfl rfl ?_
 iterate 2 refine HO_assign rfl rfl rfl ?_
 refine HO_nil ?_
 refine H_env (ρ':=[(5,_),(3,_),(0,_)]) ⟨rfl,rfl,rfl,trivial⟩ ?_
 refine H_seq ?_
 refine H_region (l:=[_,_,_]) rfl ?_
 refine HO_move rfl rfl rfl ?_
 refine HO_bi rfl rfl rfl (bi_len_sl Try.underlying31) ?_
 refine HO_assign rfl rfl rfl ?_
 refine HO_nil ?_
 refine H_env (ρ':=[(7,_),(5,_),(3,_),(0,_)]) ⟨rfl,rfl,rfl,rfl,trivial⟩ ?_
 refine H_seq ?_
 refine H_seq ?_
 refine H_region (l:=[_,_,_]) rfl ?_
 refine HO_fieldAddr (r:=6) rfl rfl rfl Try.underlying36 rfl Try.sizeOf9 rfl ?_
 refine HO_load1 (i:=0) (j:=6) rfl rfl rfl Try.isAgg9 rfl (.loc _ _ _) rfl rfl ?_
 refine HO_bin rfl rfl rfl rfl bin_nes ?_
 refine HO_nil ?_
 refine H_env (ρ':=[(19,_),(7,_),(5,_),(3,_),(0,_)]) ⟨rfl,rfl,rfl,rfl,rfl,trivial⟩ ?_
 refine H_cond rfl ?_ ?_
 ·intro h19
  replace h19:=dF (nT h19)
  refine H_region (l:=[_,_,_,_,_,_,_,_]) rfl ?_
  refine HO_move rfl rfl rfl ?_
  refine HO_fieldAddr (r:=6) rfl rfl rfl Try.underlying36 rfl Try.sizeOf9 rfl ?_
  refine HO_load1 (i:=0) (j:=6) rfl rfl rfl Try.isAgg9 rfl (.loc _ _ _) rfl rfl ?_
  refine HO_dup (i:=1) rfl rfl ?_
  refine HO_call (first:=[]) (capt:=[]) (is:=[0]) (R:=[_,_]) rfl rfl rfl rfl rfl Try.call87 rfl (findP_spec _ _ _ _ ?_ ?_) ?_
  ·exact hs
  ·exact hl
  intro y24 hy24
  clear y24 hy24
  refine HO_move rfl rfl rfl ?_
  refine HO_extract (vs:=[_,_]) rfl rfl rfl rfl ?_
  refine HO_extract (vs:=[_,_]) rfl rfl rfl rfl ?_
  refine HO_assign rfl rfl rfl ?_
  refine HO_nil ?_
  refine H_env (ρ':=[(7,_),(5,_),(3,_),(0,_)]) ⟨rfl,rfl,rfl,rfl,trivial⟩ ?_
  refine H_seq ?_
  refine H_region (l:=[_,_,_,_,_,_,_,_,_]) rfl ?_
  iterate 2 refine HO_move rfl rfl rfl ?_
  refine HO_bi rfl rfl rfl bi_max2 ?_
  refine HO_move rfl rfl rfl ?_
  refine HO_fieldAddr (r:=7) rfl rfl rfl Try.underlying36 rfl Try.sizeOf3 rfl ?_
  refine HO_load1 (i:=0) (j:=7) rfl rfl rfl Try.isAgg3 rfl (.loc _ _ _) rfl rfl ?_
  refine HO_bin rfl rfl rfl rfl (bin_add ?_ ?_) ?_
  ·omega
  ·omega
  refine HO_bi rfl rfl rfl bi_min2 ?_
  refine HO_assign rfl rfl rfl ?_
  refine HO_nil ?_
  refine H_env (ρ':=[(7,_),(5,_),(0,_)]) ⟨rfl,rfl,rfl,trivial⟩ ?_
  refine H_world (kp [nn,yy] [_] rfl) ?_
  refine H_seq ?_
  refine H_region (l:=[_,_,_,_,_,_]) rfl ?_
  iterate 3 refine HO_move rfl rfl rfl ?_
  refine HO_slice_lh (i:=0) (h':=min (max (soStr.rank Pair.key ti xs) (soStr.rank Pair.key ke xs)) (soStr.rank Pair.key ke xs + li.toNat)) rfl rfl rfl rfl rfl rfl ?_ Try.underlying31 Try.sizeOf70 rfl ?_ ?_ ?_
  ·omega
  ·omega
  ·omega
  intro a38 c38
  refine HO_dup (i:=0) rfl rfl ?_
  refine HO_call (first:=[]) (capt:=[]) (is:=[0]) (R:=[_,_]) rfl rfl rfl rfl rfl Try.call107 rfl (cloneP_spec _ _ _ ?_) ?_
  ·(simp only [List.length_drop,List.length_take];omega)
  intro y39 hy39
  refine HO_assign rfl rfl rfl ?_
  refine HO_nil ?_
  refine H_env (ρ':=[(4,_)]) ⟨rfl,trivial⟩ ?_
  refine H_world (kp [yy,nn,nn] [_] rfl) ?_
  refine H_freeze (i:=0) (R:=[]) rfl hMn ?_
  have hsc : (Mod.scanL ke ti li xs) = (xs.take (min (max (soStr.rank Pair.key ti xs) (soStr.rank Pair.key ke xs)) (soStr.rank Pair.key ke xs + li.toNat))).drop (soStr.rank Pair.key ke xs):=by unfold Mod.scanL Mod.scanEnd Mod.rk;rw [if_neg (show ¬ ti = Cmd.empty from h19)]
  refine H_ret1 Try.results92 (.tmp rfl) (fun w hA => ⟨y39,congrArg Ending.returned ?_,?_,?_⟩)
  ·(rw [hsc])
  ·trivial
  ·(rw [hsc];exact hA.keep (m:=[yy]) (Y:=[_]) rfl)
 intro h19
 replace h19:=dT (nF h19)
 refine H_skip ?_
 refine H_seq ?_
 refine H_region (l:=[_,_,_,_,_,_,_,_,_]) rfl ?_
 iterate 2 refine HO_move rfl rfl rfl ?_
 refine HO_bi rfl rfl rfl bi_max2 ?_
 refine HO_move rfl rfl rfl ?_
 refine HO_fieldAddr (r:=7) rfl rfl rfl Try.underlying36 rfl Try.sizeOf3 rfl ?_
 refine HO_load1 (i:=0) (j:=7) rfl rfl rfl Try.isAgg3 rfl (.loc _ _ _) rfl rfl ?_
 refine HO_bin rfl rfl rfl rfl (bin_add ?_ ?_) ?_
 ·omega
 ·omega
 refine HO_bi rfl rfl rfl bi_min2 ?_
 refine HO_assign rfl rfl rfl ?_
 refine HO_nil ?_
 refine H_env (ρ':=[(7,_),(5,_),(0,_)]) ⟨rfl,rfl,rfl,trivial⟩ ?_
 refine H_world (kp [nn,yy] [_] rfl) ?_
 refine H_seq ?_
 refine H_region (l:=[_,_,_,_,_,_]) rfl ?_
 iterate 3 refine HO_move rfl rfl rfl ?_
 refine HO_slice_lh (i:=0) (h':=min (max (xs.length) (soStr.rank Pair.key ke xs)) (soStr.rank Pair.key ke xs + li.toNat)) rfl rfl rfl rfl rfl rfl ?_ Try.underlying31 Try.sizeOf70 rfl ?_ ?_ ?_
 ·omega
 ·omega
 ·omega
 intro a38 c38
 refine HO_dup (i:=0) rfl rfl ?_
 refine HO_call (first:=[]) (capt:=[]) (is:=[0]) (R:=[_,_]) rfl rfl rfl rfl rfl Try.call107 rfl (cloneP_spec _ _ _ ?_) ?_
 ·(simp only [List.length_drop,List.length_take];omega)
 intro y39 hy39
 refine HO_assign rfl rfl rfl ?_
 refine HO_nil ?_
 refine H_env (ρ':=[(4,_)]) ⟨rfl,trivial⟩ ?_
 refine H_world (kp [yy,nn,nn] [_] rfl) ?_
 refine H_freeze (i:=0) (R:=[]) rfl hMn ?_
 have hsc : (Mod.scanL ke ti li xs) = (xs.take (min (max (xs.length) (soStr.rank Pair.key ke xs)) (soStr.rank Pair.key ke xs + li.toNat))).drop (soStr.rank Pair.key ke xs):=by unfold Mod.scanL Mod.scanEnd Mod.rk;rw [if_pos (show ti = Cmd.empty from h19)]
 refine H_ret1 Try.results92 (.tmp rfl) (fun w hA => ⟨y39,congrArg Ending.returned ?_,?_,?_⟩)
 ·(rw [hsc])
 ·trivial
 ·(rw [hsc];exact hA.keep (m:=[yy]) (Y:=[_]) rfl)
theorem does1_spec (g2 g3 : Nat) (xs : List Pair) (a : Option Addr) (c : Nat) (ki cs sq : Int) (ke ol cv ti : ByteArray) (li : Int) (hs : soStr.Srt Pair.key xs) (hl : xs.length≤10000) (sk : ke.size≤BIG) (sc : cv.size≤BIG) : Spec Try.prog 89 #[.pointer (some ⟨g2,0,none⟩),.pointer (some ⟨g3,0,none⟩)] [.loc g2 [.slice a (xs.length) c] 31,.dat kPair.sl (xs) [.slice a (xs.length) c],.loc g3 [.int .i64 (ki),.int .i64 (cs),.int .i64 (sq),.string (ke),.string (ol),.string (cv),.string (ti),.int .i64 (li)] 36] (β:=Option Addr × Nat) (fun y => .slice y.1 (((Mod.pput ⟨ke,cv⟩ xs)).length) y.2) (fun y => True) (fun y => [.loc g2 [.slice a (xs.length) c] 31,.loc g3 [.int .i64 (ki),.int .i64 (cs),.int .i64 (sq),.string (ke),.string (ol),.string (cv),.string (ti),.int .i64 (li)] 36,.dat kPair.sl ((Mod.pput ⟨ke,cv⟩ xs)) [.slice y.1 (((Mod.pput ⟨ke,cv⟩ xs)).length) y.2]]):=by
 refine Spec.enter (vs:=[_,_]) Try.func89 rfl Try.ntmps89 rfl (Nat.le_of_ble_eq_true rfl) (fun w0 ok0 => ?_)
 generalize hM0 : blks _ = M0
 refine H_len_le (i:=1) rfl ?_
 intro hlen1
 refine H_seq ?_
 refine H_region (l:=[_]) rfl ?_
 refine HO_assign rfl rfl rfl ?_
 refine HO_nil ?_
 refine H_env (ρ':=[(0,_),(1,_)]) ⟨rfl,rfl,trivial⟩ ?_
 refine H_seq ?_
 refine H_region (l:=[_,_,_,_,_,_,_,_]) rfl ?_
 refine HO_load1 (i:=0) (j:=0) rfl rfl rfl Try.isAgg31 rfl (.loc _ _ _) rfl rfl ?_
 refine HO_fieldAddr (r:=3) rfl rfl rfl Try.underlying36 rfl Try.sizeOf9 rfl ?_
 refine HO_load1 (i:=2) (j:=3) rfl rfl rfl Try.isAgg9 rfl (.loc _ _ _) rfl rfl ?_
 refine HO_fieldAddr (r:=5) rfl rfl rfl Try.underlying36 rfl Try.sizeOf9 rfl ?_
 refine HO_load1 (i:=2) (j:=5) rfl rfl rfl Try.isAgg9 rfl (.loc _ _ _) rfl rfl ?_
 refine HO_build (xo:=[(0,_),(1,_)]) (vs:=[_,_]) rfl rfl rfl rfl (bd70_0_1_tt) ?_
 refine HO_dup (i:=1) rfl rfl ?_
 refine HO_call (first:=[]) (capt:=[]) (is:=[0]) (R:=[_,_,_]) rfl rfl rfl rfl rfl Try.call90 rfl (withP_spec _ _ _ _ _ ?_ ?_ ?_ ?_) ?_
 ·exact hs
 ·exact hl
 ·exact sk
 ·exact sc
 intro y9 hy9
 refine HO_assign rfl rfl rfl ?_
 refine HO_nil ?_
 refine H_env (ρ':=[(2,_)]) ⟨rfl,trivial⟩ ?_
 refine H_ret1 Try.results89 (.tmp rfl) (fun w hA => ⟨y9,congrArg Ending.returned ?_,?_,?_⟩)
 ·rfl
 ·trivial
 ·exact hA.only (is:=[0,2,0]) (Z:=[_]) rfl
theorem does_spec (xs : List Pair) (a : Option Addr) (c : Nat) (ki cs sq : Int) (ke ol cv ti : ByteArray) (li : Int) (hs : soStr.Srt Pair.key xs) (hl : xs.length≤2000) (sk : ke.size≤BIG) (sc : cv.size≤BIG) (hL : ki = 7→1≤li∧li≤64) : Spec Try.prog 62 #[.slice a (xs.length) c,.agg #[.int .i64 (ki),.int .i64 (cs),.int .i64 (sq),.string (ke),.string (ol),.string (cv),.string (ti),.int .i64 (li)]] [.dat kPair.sl (xs) [.slice a (xs.length) c]] (β:=(Option Addr × Nat) × (Option Addr × Nat)) (fun y => .tuple #[.slice y.1.1 (((Mod.doesP xs (⟨ki,cs,sq,ke,ol,cv,ti,li⟩ : Cmd))).length) y.1.2,.agg #[.int .i64 ((Mod.doesR xs (⟨ki,cs,sq,ke,ol,cv,ti,li⟩ : Cmd)).err),.bool ((Mod.doesR xs (⟨ki,cs,sq,ke,ol,cv,ti,li⟩ : Cmd)).found),.string ((Mod.doesR xs (⟨ki,cs,sq,ke,ol,cv,ti,li⟩ : Cmd)).val),.int .i64 ((Mod.doesR xs (⟨ki,cs,sq,ke,ol,cv,ti,li⟩ : Cmd)).sess),.slice y.2.1 (((Mod.doesR xs (⟨ki,cs,sq,ke,ol,cv,ti,li⟩ : Cmd)).pairs).length) y.2.2]]) (fun y => True) (fun y => [.dat kPair.sl ((Mod.doesP xs (⟨ki,cs,sq,ke,ol,cv,ti,li⟩ : Cmd))) [.slice y.1.1 (((Mod.doesP xs (⟨ki,cs,sq,ke,ol,cv,ti,li⟩ : Cmd))).length) y.1.2],.dat kPair.sl ((Mod.doesR xs (⟨ki,cs,sq,ke,ol,cv,ti,li⟩ : Cmd)).pairs) [.slice y.2.1 (((Mod.doesR xs (⟨ki,cs,sq,ke,ol,cv,ti,li⟩ : Cmd)).pairs).length) y.2.2]]):=by
 refine Spec.enter (vs:=[_,_]) Try.func62 rfl Try.ntmps62 rfl (Nat.le_of_ble_eq_true rfl) (fun w0 ok0 => ?_)
 generalize hM0 : blks _ = M0
 have hMn:=@noM _ _ hM0 (by simp [Atom.dat,Atom.elem])
 refine H_len_le (i:=0) rfl ?_
 intro hlen0
 refine H_seq ?_
 refine H_region (l:=[_,_,_,_]) rfl ?_
 refine HO_box (cs:=[_]) rfl rfl rfl rfl ?_
 intro g2
 refine HO_box (cs:=[_,_,_,_,_,_,_,_]) rfl rfl rfl rfl ?_
 intro g3
 refine HO_assign rfl rfl rfl ?_
 refine HO_alloc (cs:=[_,_,_,_,_]) rfl rfl Try.zeroValue38 rfl ?_
 intro g5
 refine HO_nil ?_
 refine H_env (ρ':=[(5,_),(3,_),(2,_)]) ⟨rfl,rfl,rfl,trivial⟩ ?_
 refine H_seq ?_
 refine H_region (l:=[_,_,_,_,_,_,_,_,_]) rfl ?_
 refine HO_load1 (i:=2) (j:=0) rfl rfl rfl Try.isAgg31 rfl (.loc _ _ _) rfl rfl ?_
 refine HO_fieldAddr (r:=3) rfl rfl rfl Try.underlying36 rfl Try.sizeOf9 rfl ?_
 refine HO_load1 (i:=1) (j:=3) rfl rfl rfl Try.isAgg9 rfl (.loc _ _ _) rfl rfl ?_
 refine HO_dup (i:=3) rfl rfl ?_
 refine HO_call (first:=[]) (capt:=[]) (is:=[0]) (R:=[_,_,_,_]) rfl rfl rfl rfl rfl Try.call87 rfl (findP_spec _ _ _ _ ?_ ?_) ?_
 ·exact hs
 ·(omega)
 intro y14 hy14
 clear y14 hy14
 refine HO_move rfl rfl rfl ?_
 refine HO_extract (vs:=[_,_]) rfl rfl rfl rfl ?_
 refine HO_extract (vs:=[_,_]) rfl rfl rfl rfl ?_
 iterate 2 refine HO_assign rfl rfl rfl ?_
 refine HO_nil ?_
 refine H_env (ρ':=[(7,_),(6,_),(5,_),(3,_),(2,_)]) ⟨rfl,rfl,rfl,rfl,rfl,trivial⟩ ?_
 refine H_seq ?_
 refine H_region (l:=[_,_,_,_]) rfl ?_
 refine HO_move rfl rfl rfl ?_
 refine HO_build (xo:=[(1,_)]) (vs:=[_]) rfl rfl rfl rfl (bd38_1_o) ?_
 refine HO_alloc (cs:=[_,_,_,_,_]) rfl rfl Try.zeroValue38 rfl ?_
 intro g8
 refine HO_store (i:=0) (j:=0) (us:=[]) (old:=[_,_,_,_,_]) (ts:=[]) (cs:=[_,_,_,_,_]) (R:=[_,_,_,_]) (new:=[_,_,_,_,_]) rfl rfl rfl Try.sizeOf38 rfl (by simp [Value.oneCell']) rfl rfl rfl rfl rfl rfl ?_
 refine HO_nil ?_
 refine H_env (ρ':=[(8,_),(7,_),(6,_),(5,_),(3,_),(2,_)]) ⟨rfl,rfl,rfl,rfl,rfl,rfl,trivial⟩ ?_
 refine H_seq ?_
 refine H_seq ?_
 refine H_region (l:=[_]) rfl ?_
 refine HO_move rfl rfl rfl ?_
 refine HO_nil ?_
 refine H_cond rfl ?_ ?_
 ·intro h19
  refine H_region (l:=[_,_,_,_,_,_,_]) rfl ?_
  refine HO_load1 (i:=3) (j:=0) rfl rfl rfl Try.isAgg31 rfl (.loc _ _ _) rfl rfl ?_
  refine HO_move rfl rfl rfl ?_
  refine HO_indexAddr open_Pair (i:=4) rfl rfl rfl rfl rfl Try.underlying31 Try.sizeOf70 rfl ?_ ?_
  ·exact soStr.found_rank Pair.key h19
  intro b22 o22 z22 y22 hz22 hI22
  clear y22
  (try simp only [BIG] at hI22)
  have hv:=Mod.valAt_yes h19 hz22
  refine HO_fieldAddr rfl rfl rfl Try.underlying70 rfl Try.sizeOf9 rfl ?_
  refine HO_load1 (i:=0) (j:=1) rfl rfl rfl Try.isAgg9 rfl (.elem _ _ _) rfl rfl ?_
  refine HO_fieldAddr (r:=2) rfl rfl rfl Try.underlying38 rfl Try.sizeOf9 rfl ?_
  refine HO_store (i:=1) (j:=0) (us:=[_,_]) (old:=[_]) (ts:=[_,_]) (cs:=[_]) (R:=[_,_,_,_,_]) (new:=[_,_,_,_,_]) rfl rfl rfl Try.sizeOf9 rfl (by simp [Value.oneCell']) rfl rfl rfl rfl rfl rfl ?_
  refine HO_nil ?_
  refine H_env (ρ':=[(8,_),(7,_),(5,_),(3,_),(2,_)]) ⟨rfl,rfl,rfl,rfl,rfl,trivial⟩ ?_
  refine H_world (kp [yy,nn,yy,yy,yy,yy] [_,_,_,_,_] rfl) ?_
  refine H_seq ?_
  refine H_region (l:=[_,_]) rfl ?_
  refine HO_makeFunc (vs:=[]) (us:=[_,_]) rfl rfl rfl rfl ?_
  refine HO_assign rfl rfl rfl ?_
  refine HO_nil ?_
  refine H_env (ρ':=[(9,_),(8,_),(7,_),(5,_),(3,_),(2,_)]) ⟨rfl,rfl,rfl,rfl,rfl,rfl,trivial⟩ ?_
  refine H_seq ?_
  refine H_seq ?_
  refine H_region (l:=[_,_]) rfl ?_
  refine HO_fieldAddr (r:=0) rfl rfl rfl Try.underlying36 rfl Try.sizeOf3 rfl ?_
  refine HO_load1 (i:=2) (j:=0) rfl rfl rfl Try.isAgg3 rfl (.loc _ _ _) rfl rfl ?_
  refine HO_nil ?_
  refine H_env (ρ':=[(28,_),(9,_),(8,_),(7,_),(5,_),(3,_),(2,_)]) ⟨rfl,rfl,rfl,rfl,rfl,rfl,rfl,trivial⟩ ?_
  refine H_block ?_
  refine H_seq ?_
  refine H_region (l:=[_,_]) rfl ?_
  refine HO_bin rfl rfl rfl rfl bin_eql ?_
  refine HO_assign rfl rfl rfl ?_
  refine HO_nil ?_
  refine H_env (ρ':=[(29,_),(28,_),(9,_),(8,_),(7,_),(5,_),(3,_),(2,_)]) ⟨rfl,rfl,rfl,rfl,rfl,rfl,rfl,rfl,trivial⟩ ?_
  refine H_cond rfl ?_ ?_
  ·intro h29
   replace h29:=dT h29
   refine H_seq ?_
   refine H_seq ?_
   refine H_region (l:=[_,_,_,_,_,_,_]) rfl ?_
   refine HO_move rfl rfl rfl ?_
   refine HO_not rfl rfl rfl ?_
   refine HO_move rfl rfl rfl ?_
   refine HO_split (d:=33) rfl ?_ ?_
   ·intro h33
    replace h33:=nT h33
    (exact absurd (h19.symm.trans h33) (by decide))
   intro h33
   replace h33:=nF h33
   iterate 3 refine HO_no rfl rfl rfl ?_
   refine HO_pick_f rfl rfl rfl rfl ?_
   refine HO_nil ?_
   refine H_env (ρ':=[(37,_),(9,_),(8,_),(5,_),(2,_)]) ⟨rfl,rfl,rfl,rfl,rfl,trivial⟩ ?_
   refine H_cond rfl (fun h => nomatch h) (fun _ => ?_)
   refine H_skip ?_
   refine H_seq ?_
   refine H_drawB (m:=[yy,nn,nn,nn,yy]) (Xs:=[_,_]) (fuel:=5) (l:=#[false,false,false,false,false]) mixed rfl rfl rfl ?_
   refine HA_take (i:=0) bp rfl rfl rfl rfl (by kernel_rfl) rfl (V_move rfl) (kp [yy,nn,nn,nn,yy] [_,_] rfl) ?_
   refine HA_take (i:=2) bp rfl rfl rfl rfl (by kernel_rfl) rfl (V_loadA (i:=0) (us:=[]) (cs:=[_,_,_,_,_]) (ts:=[]) rfl Try.isAgg38 Try.sizeOf38 rfl (.loc _ _ _) rfl rfl rfl rfl) (kp [yy,nn,nn,nn,yy] [_,_] rfl) ?_
   refine HA_loud1 (i:=1) (by kernel_rfl) rfl ?_
   refine HO_dup (i:=4) rfl rfl ?_
   refine HO_call (first:=[]) (capt:=[_,_]) (is:=[2,0,3]) (R:=[_,_,_]) rfl rfl rfl rfl rfl Try.call89 rfl (does1_spec _ _ _ _ _ _ _ _ _ _ _ _ _ ?_ ?_ ?_ ?_) ?_
   ·exact hs
   ·(omega)
   ·exact sk
   ·exact sc
   intro y41 hy41
   refine HA_back rfl (kp [nn,nn,nn,yy,nn,yy] [_,_] rfl) ?_
   refine HA_take (i:=3) bp rfl rfl rfl rfl (by kernel_rfl) rfl (V_assign rfl) (kp [nn,nn,nn,yy,nn,yy] [_,_] rfl) ?_
   refine HA_loud1 (i:=4) (by kernel_rfl) rfl ?_
   refine HO_store (i:=4) (j:=0) (us:=[]) (old:=[_,_,_,_,_]) (ts:=[]) (cs:=[_,_,_,_,_]) (R:=[_,_,_,_,_]) (new:=[_,_,_,_,_]) rfl rfl rfl Try.sizeOf38 rfl (by simp [Value.oneCell']) rfl rfl rfl rfl rfl rfl ?_
   refine HA_back rfl (kp [nn,nn,nn,nn,yy,yy] [_,_] rfl) ?_
   refine HA_done (by kernel_rfl) ?_
   refine H_env (ρ':=[(4,_),(5,_)]) ⟨rfl,rfl,trivial⟩ ?_
   refine H_world (kp [yy,nn,nn,yy,nn,nn] [_,_] rfl) ?_
   refine H_nilDat kPair ?_
   obtain ⟨hP,hR⟩:=Mod.does_put (c:=(⟨ki,cs,sq,ke,ol,cv,ti,li⟩ : Cmd)) h29 (.inl h19) hv
   refine H_ret2 Try.results62 (.tmp rfl) (.cell rfl (fun w hA => run_loadVarA (cs:=[_,_,_,_,_]) (Try.isAgg38 w) (Try.sizeOf38 w) (Tells.cells (.loc _ _ _) (hA.get (i:=1) rfl)))) (fun w hA => ⟨(y41,(none,0)),congrArg Ending.returned ?_,?_,?_⟩)
   ·(rw [hP,hR];rfl)
   ·trivial
   ·(rw [hP,hR];exact hA.only (is:=[1,0]) (Z:=[_]) rfl)
  intro h29
  replace h29:=dF h29
  refine H_seq ?_
  refine H_region (l:=[_,_]) rfl ?_
  refine HO_bin rfl rfl rfl rfl bin_eql ?_
  refine HO_assign rfl rfl rfl ?_
  refine HO_nil ?_
  refine H_env (ρ':=[(43,_),(28,_),(9,_),(8,_),(7,_),(5,_),(3,_),(2,_)]) ⟨rfl,rfl,rfl,rfl,rfl,rfl,rfl,rfl,trivial⟩ ?_
  refine H_cond rfl ?_ ?_
  ·intro h43
   replace h43:=dT h43
   refine H_seq ?_
   refine H_drawB (m:=[yy,nn,yy,yy,yy]) (Xs:=[_,_,_,_]) (fuel:=7) (l:=#[false,false,false,false,false,false,false]) mixed rfl rfl rfl ?_
   refine HA_take (i:=0) bp rfl rfl rfl rfl (by kernel_rfl) rfl (V_load1 (i:=2) (j:=0) rfl Try.isAgg31 rfl (.loc _ _ _) rfl rfl) (kp [yy,nn,yy,yy,yy] [_,_,_,_] rfl) ?_
   refine HA_take (i:=1) bp rfl rfl rfl rfl (by kernel_rfl) rfl (V_fieldAddr (r:=3) rfl Try.underlying36 rfl Try.sizeOf9 rfl) (kp [yy,nn,yy,yy,yy] [_,_,_,_] rfl) ?_
   refine HA_take (i:=2) bp rfl rfl rfl rfl (by kernel_rfl) rfl (V_load1 (i:=1) (j:=3) rfl Try.isAgg9 rfl (.loc _ _ _) rfl rfl) (kp [yy,nn,yy,yy,yy] [_,_,_,_] rfl) ?_
   refine HA_take (i:=4) bp rfl rfl rfl rfl (by kernel_rfl) rfl (V_loadA (i:=0) (us:=[]) (cs:=[_,_,_,_,_]) (ts:=[]) rfl Try.isAgg38 Try.sizeOf38 rfl (.loc _ _ _) rfl rfl rfl rfl) (kp [yy,nn,yy,yy,yy] [_,_,_,_] rfl) ?_
   refine HA_loud1 (i:=3) (by kernel_rfl) rfl ?_
   refine HO_dup (i:=4) rfl rfl ?_
   refine HO_call (first:=[]) (capt:=[]) (is:=[0]) (R:=[_,_,_,_,_]) rfl rfl rfl rfl rfl Try.call91 rfl (withoutP_spec _ _ _ _ ?_ ?_) ?_
   ·exact hs
   ·(omega)
   intro y48 hy48
   refine HA_back rfl (kp [nn,yy,nn,yy,yy,yy] [_,_,_,_] rfl) ?_
   refine HA_take (i:=5) bp rfl rfl rfl rfl (by kernel_rfl) rfl (V_assign rfl) (kp [nn,yy,nn,yy,yy,yy] [_,_,_,_] rfl) ?_
   refine HA_loud1 (i:=6) (by kernel_rfl) rfl ?_
   refine HO_store (i:=2) (j:=0) (us:=[]) (old:=[_,_,_,_,_]) (ts:=[]) (cs:=[_,_,_,_,_]) (R:=[_,_,_,_,_]) (new:=[_,_,_,_,_]) rfl rfl rfl Try.sizeOf38 rfl (by simp [Value.oneCell']) rfl rfl rfl rfl rfl rfl ?_
   refine HA_back rfl (kp [nn,nn,yy,yy,yy,yy] [_,_,_,_] rfl) ?_
   refine HA_done (by kernel_rfl) ?_
   refine H_env (ρ':=[(4,_),(5,_)]) ⟨rfl,rfl,trivial⟩ ?_
   refine H_world (kp [yy,yy,nn,nn,nn,nn] [_,_] rfl) ?_
   refine H_nilDat kPair ?_
   obtain ⟨hP,hR⟩:=Mod.does_del (c:=(⟨ki,cs,sq,ke,ol,cv,ti,li⟩ : Cmd)) h29 h43 hv
   refine H_ret2 Try.results62 (.tmp rfl) (.cell rfl (fun w hA => run_loadVarA (cs:=[_,_,_,_,_]) (Try.isAgg38 w) (Try.sizeOf38 w) (Tells.cells (.loc _ _ _) (hA.get (i:=1) rfl)))) (fun w hA => ⟨(y48,(none,0)),congrArg Ending.returned ?_,?_,?_⟩)
   ·(rw [hP,hR];rfl)
   ·trivial
   ·(rw [hP,hR];exact hA.only (is:=[1,0]) (Z:=[_]) rfl)
  intro h43
  replace h43:=dF h43
  refine H_seq ?_
  refine H_region (l:=[_,_]) rfl ?_
  refine HO_bin rfl rfl rfl rfl bin_eql ?_
  refine HO_assign rfl rfl rfl ?_
  refine HO_nil ?_
  refine H_env (ρ':=[(50,_),(28,_),(9,_),(8,_),(7,_),(5,_),(3,_),(2,_)]) ⟨rfl,rfl,rfl,rfl,rfl,rfl,rfl,rfl,trivial⟩ ?_
  refine H_cond rfl ?_ ?_
  ·intro h50
   replace h50:=dT h50
   refine H_seq ?_
   refine H_seq ?_
   refine H_region (l:=[_,_,_,_,_,_,_,_,_,_]) rfl ?_
   iterate 2 refine HO_move rfl rfl rfl ?_
   refine HO_split (d:=53) rfl ?_ ?_
   ·intro h53
    refine HO_fieldAddr (r:=2) rfl rfl rfl Try.underlying38 rfl Try.sizeOf9 rfl ?_
    refine HO_load1 (i:=0) (j:=2) rfl rfl rfl Try.isAgg9 rfl (.loc _ _ _) rfl rfl ?_
    refine HO_fieldAddr (r:=4) rfl rfl rfl Try.underlying36 rfl Try.sizeOf9 rfl ?_
    refine HO_load1 (i:=2) (j:=4) rfl rfl rfl Try.isAgg9 rfl (.loc _ _ _) rfl rfl ?_
    refine HO_bin rfl rfl rfl rfl bin_eqs ?_
    refine HO_pick_t rfl rfl rfl rfl ?_
    refine HO_fieldAddr (r:=1) rfl rfl rfl Try.underlying38 rfl Try.sizeOf4 rfl ?_
    refine HO_store (i:=0) (j:=0) (us:=[_]) (old:=[_]) (ts:=[_,_,_]) (cs:=[_]) (R:=[_,_,_,_]) (new:=[_,_,_,_,_]) rfl rfl rfl Try.sizeOf4 rfl (by simp [Value.oneCell']) rfl rfl rfl rfl rfl rfl ?_
    refine HO_nil ?_
    refine H_env (ρ':=[(9,_),(8,_),(5,_),(2,_)]) ⟨rfl,rfl,rfl,rfl,trivial⟩ ?_
    refine H_seq ?_
    refine H_region (l:=[_,_]) rfl ?_
    refine HO_fieldAddr (r:=1) rfl rfl rfl Try.underlying38 rfl Try.sizeOf4 rfl ?_
    refine HO_load1 (i:=0) (j:=1) rfl rfl rfl Try.isAgg4 rfl (.loc _ _ _) rfl rfl ?_
    refine HO_nil ?_
    refine H_env (ρ':=[(62,_),(9,_),(8,_),(5,_),(2,_)]) ⟨rfl,rfl,rfl,rfl,rfl,trivial⟩ ?_
    refine H_cond rfl ?_ ?_
    ·intro h62
     replace h62:=dT h62
     refine H_seq ?_
     refine H_drawB (m:=[yy,nn,nn,nn,yy]) (Xs:=[_,_]) (fuel:=5) (l:=#[false,false,false,false,false]) mixed rfl rfl rfl ?_
     refine HA_take (i:=0) bp rfl rfl rfl rfl (by kernel_rfl) rfl (V_move rfl) (kp [yy,nn,nn,nn,yy] [_,_] rfl) ?_
     refine HA_take (i:=2) bp rfl rfl rfl rfl (by kernel_rfl) rfl (V_loadA (i:=0) (us:=[]) (cs:=[_,_,_,_,_]) (ts:=[]) rfl Try.isAgg38 Try.sizeOf38 rfl (.loc _ _ _) rfl rfl rfl rfl) (kp [yy,nn,nn,nn,yy] [_,_] rfl) ?_
     refine HA_loud1 (i:=1) (by kernel_rfl) rfl ?_
     refine HO_dup (i:=4) rfl rfl ?_
     refine HO_call (first:=[]) (capt:=[_,_]) (is:=[2,0,3]) (R:=[_,_,_]) rfl rfl rfl rfl rfl Try.call89 rfl (does1_spec _ _ _ _ _ _ _ _ _ _ _ _ _ ?_ ?_ ?_ ?_) ?_
     ·exact hs
     ·(omega)
     ·exact sk
     ·exact sc
     intro y64 hy64
     refine HA_back rfl (kp [nn,nn,nn,yy,nn,yy] [_,_] rfl) ?_
     refine HA_take (i:=3) bp rfl rfl rfl rfl (by kernel_rfl) rfl (V_assign rfl) (kp [nn,nn,nn,yy,nn,yy] [_,_] rfl) ?_
     refine HA_loud1 (i:=4) (by kernel_rfl) rfl ?_
     refine HO_store (i:=4) (j:=0) (us:=[]) (old:=[_,_,_,_,_]) (ts:=[]) (cs:=[_,_,_,_,_]) (R:=[_,_,_,_,_]) (new:=[_,_,_,_,_]) rfl rfl rfl Try.sizeOf38 rfl (by simp [Value.oneCell']) rfl rfl rfl rfl rfl rfl ?_
     refine HA_back rfl (kp [nn,nn,nn,nn,yy,yy] [_,_] rfl) ?_
     refine HA_done (by kernel_rfl) ?_
     refine H_env (ρ':=[(4,_),(5,_)]) ⟨rfl,rfl,trivial⟩ ?_
     refine H_world (kp [yy,nn,nn,yy,nn,nn] [_,_] rfl) ?_
     refine H_nilDat kPair ?_
     obtain ⟨hP,hR⟩:=Mod.does_cas (c:=(⟨ki,cs,sq,ke,ol,cv,ti,li⟩ : Cmd)) h29 h43 h50 h19 hv
     rw [if_pos h62] at hP
     refine H_ret2 Try.results62 (.tmp rfl) (.cell rfl (fun w hA => run_loadVarA (cs:=[_,_,_,_,_]) (Try.isAgg38 w) (Try.sizeOf38 w) (Tells.cells (.loc _ _ _) (hA.get (i:=1) rfl)))) (fun w hA => ⟨(y64,(none,0)),congrArg Ending.returned ?_,?_,?_⟩)
     ·(rw [hP,hR];rfl)
     ·trivial
     ·(rw [hP,hR];exact hA.only (is:=[1,0]) (Z:=[_]) rfl)
    intro h62
    replace h62:=dF h62
    refine H_skip ?_
    refine H_seq ?_
    refine H_drawB (m:=[yy,nn,yy,yy,yy]) (Xs:=[_,_,_,_]) (fuel:=4) (l:=#[false,false,false,false]) mixed rfl rfl rfl ?_
    refine HA_take (i:=0) bp rfl rfl rfl rfl (by kernel_rfl) rfl (V_load1 (i:=2) (j:=0) rfl Try.isAgg31 rfl (.loc _ _ _) rfl rfl) (kp [yy,nn,yy,yy,yy] [_,_,_,_] rfl) ?_
    refine HA_take (i:=1) bp rfl rfl rfl rfl (by kernel_rfl) rfl (V_loadA (i:=0) (us:=[]) (cs:=[_,_,_,_,_]) (ts:=[]) rfl Try.isAgg38 Try.sizeOf38 rfl (.loc _ _ _) rfl rfl rfl rfl) (kp [yy,nn,yy,yy,yy] [_,_,_,_] rfl) ?_
    refine HA_take (i:=2) bp rfl rfl rfl rfl (by kernel_rfl) rfl (V_assign rfl) (kp [yy,nn,yy,yy,yy] [_,_,_,_] rfl) ?_
    refine HA_loud1 (i:=3) (by kernel_rfl) rfl ?_
    refine HO_store (i:=1) (j:=0) (us:=[]) (old:=[_,_,_,_,_]) (ts:=[]) (cs:=[_,_,_,_,_]) (R:=[_,_,_,_]) (new:=[_,_,_,_,_]) rfl rfl rfl Try.sizeOf38 rfl (by simp [Value.oneCell']) rfl rfl rfl rfl rfl rfl ?_
    refine HA_back rfl (kp [nn,yy,yy,yy,yy] [_,_,_,_] rfl) ?_
    refine HA_done (by kernel_rfl) ?_
    refine H_env (ρ':=[(4,_),(5,_)]) ⟨rfl,rfl,trivial⟩ ?_
    refine H_world (kp [yy,nn,nn,nn,yy] [_,_] rfl) ?_
    refine H_nilDat kPair ?_
    obtain ⟨hP,hR⟩:=Mod.does_cas (c:=(⟨ki,cs,sq,ke,ol,cv,ti,li⟩ : Cmd)) h29 h43 h50 h19 hv
    rw [if_neg h62] at hP
    refine H_ret2 Try.results62 (.tmp rfl) (.cell rfl (fun w hA => run_loadVarA (cs:=[_,_,_,_,_]) (Try.isAgg38 w) (Try.sizeOf38 w) (Tells.cells (.loc _ _ _) (hA.get (i:=1) rfl)))) (fun w hA => ⟨((a,c),(none,0)),congrArg Ending.returned ?_,?_,?_⟩)
    ·(rw [hP,hR];rfl)
    ·trivial
    ·(rw [hP,hR];exact hA.only (is:=[1,0]) (Z:=[_]) rfl)
   intro h53
   (exact absurd (h19.symm.trans h53) (by decide))
  intro h50
  replace h50:=dF h50
  refine H_seq ?_
  refine H_region (l:=[_,_]) rfl ?_
  refine HO_bin rfl rfl rfl rfl bin_eql ?_
  refine HO_assign rfl rfl rfl ?_
  refine HO_nil ?_
  refine H_env (ρ':=[(68,_),(8,_),(5,_),(3,_),(2,_)]) ⟨rfl,rfl,rfl,rfl,rfl,trivial⟩ ?_
  refine H_cond rfl ?_ ?_
  ·intro h68
   replace h68:=dT h68
   refine H_seq ?_
   refine H_drawB (m:=[yy,nn,yy,yy,yy]) (Xs:=[_,_,_,_]) (fuel:=7) (l:=#[false,false,false,false,false,false,false]) mixed rfl rfl rfl ?_
   refine HA_take (i:=0) bp rfl rfl rfl rfl (by kernel_rfl) rfl (V_load1 (i:=2) (j:=0) rfl Try.isAgg31 rfl (.loc _ _ _) rfl rfl) (kp [yy,nn,yy,yy,yy] [_,_,_,_] rfl) ?_
   refine HA_take (i:=1) bp rfl rfl rfl rfl (by kernel_rfl) rfl (V_load1 (i:=2) (j:=0) rfl Try.isAgg31 rfl (.loc _ _ _) rfl rfl) (kp [yy,nn,yy,yy,yy] [_,_,_,_] rfl) ?_
   refine HA_take (i:=2) bp rfl rfl rfl rfl (by kernel_rfl) rfl (V_loadA (i:=1) (us:=[]) (cs:=[_,_,_,_,_,_,_,_]) (ts:=[]) rfl Try.isAgg36 Try.sizeOf36 rfl (.loc _ _ _) rfl rfl rfl rfl) (kp [yy,nn,yy,yy,yy] [_,_,_,_] rfl) ?_
   refine HA_loud1 (i:=3) (by kernel_rfl) rfl ?_
   refine HO_dup (i:=4) rfl rfl ?_
   refine HO_call (first:=[]) (capt:=[]) (is:=[0]) (R:=[_,_,_,_,_]) rfl rfl rfl rfl rfl Try.call92 rfl (scan_spec _ _ _ _ _ _ _ _ _ _ _ ?_ ?_ ?_) ?_
   ·exact hs
   ·(omega)
   ·exact hL h68
   intro y73 hy73
   refine HA_back rfl (kp [nn,yy,nn,yy,yy,yy] [_,_,_,_] rfl) ?_
   refine HA_take (i:=4) bp rfl rfl rfl rfl (by kernel_rfl) rfl (V_build (xo:=[(4,_)]) (vs:=[_]) rfl rfl (bd38_4_s)) (kp [nn,yy,nn,yy,yy,yy] [_,_,_,_] rfl) ?_
   refine HA_take (i:=5) bp rfl rfl rfl rfl (by kernel_rfl) rfl (V_assign rfl) (kp [nn,yy,nn,yy,yy,yy] [_,_,_,_] rfl) ?_
   refine HA_loud1 (i:=6) (by kernel_rfl) rfl ?_
   refine HO_store (i:=2) (j:=0) (us:=[]) (old:=[_,_,_,_,_]) (ts:=[]) (cs:=[_,_,_,_,_]) (R:=[_,_,_,_,_]) (new:=[_,_,_,_,_]) rfl rfl rfl Try.sizeOf38 rfl (by simp [Value.oneCell']) rfl rfl rfl rfl rfl rfl ?_
   refine HA_back rfl (kp [nn,nn,yy,yy,yy,yy] [_,_,_,_] rfl) ?_
   refine HA_done (by kernel_rfl) ?_
   refine H_env (ρ':=[(4,_),(5,_)]) ⟨rfl,rfl,trivial⟩ ?_
   refine H_world (kp [yy,yy,nn,nn,nn,yy] [_,_,_] rfl) ?_
   obtain ⟨hP,hR⟩:=Mod.does_scan (l:=xs) (c:=(⟨ki,cs,sq,ke,ol,cv,ti,li⟩ : Cmd)) h68
   refine H_ret2 Try.results62 (.tmp rfl) (.cell rfl (fun w hA => run_loadVarA (cs:=[_,_,_,_,_]) (Try.isAgg38 w) (Try.sizeOf38 w) (Tells.cells (.loc _ _ _) (hA.get (i:=0) rfl)))) (fun w hA => ⟨((a,c),y73),congrArg Ending.returned ?_,?_,?_⟩)
   ·(rw [hP,hR];rfl)
   ·trivial
   ·(rw [hP,hR];exact hA.only (is:=[1,1]) (Z:=[_]) rfl)
  intro h68
  replace h68:=dF h68
  refine H_skip ?_
  refine H_blk ?_
  refine H_seq ?_
  refine H_drawB (m:=[yy,nn,yy,yy,yy]) (Xs:=[_,_,_,_]) (fuel:=4) (l:=#[false,false,false,false]) mixed rfl rfl rfl ?_
  refine HA_take (i:=0) bp rfl rfl rfl rfl (by kernel_rfl) rfl (V_load1 (i:=2) (j:=0) rfl Try.isAgg31 rfl (.loc _ _ _) rfl rfl) (kp [yy,nn,yy,yy,yy] [_,_,_,_] rfl) ?_
  refine HA_take (i:=1) bp rfl rfl rfl rfl (by kernel_rfl) rfl (V_loadA (i:=0) (us:=[]) (cs:=[_,_,_,_,_]) (ts:=[]) rfl Try.isAgg38 Try.sizeOf38 rfl (.loc _ _ _) rfl rfl rfl rfl) (kp [yy,nn,yy,yy,yy] [_,_,_,_] rfl) ?_
  refine HA_take (i:=2) bp rfl rfl rfl rfl (by kernel_rfl) rfl (V_assign rfl) (kp [yy,nn,yy,yy,yy] [_,_,_,_] rfl) ?_
  refine HA_loud1 (i:=3) (by kernel_rfl) rfl ?_
  refine HO_store (i:=1) (j:=0) (us:=[]) (old:=[_,_,_,_,_]) (ts:=[]) (cs:=[_,_,_,_,_]) (R:=[_,_,_,_]) (new:=[_,_,_,_,_]) rfl rfl rfl Try.sizeOf38 rfl (by simp [Value.oneCell']) rfl rfl rfl rfl rfl rfl ?_
  refine HA_back rfl (kp [nn,yy,yy,yy,yy] [_,_,_,_] rfl) ?_
  refine HA_done (by kernel_rfl) ?_
  refine H_env (ρ':=[(4,_),(5,_)]) ⟨rfl,rfl,trivial⟩ ?_
  refine H_world (kp [yy,nn,nn,nn,yy] [_,_] rfl) ?_
  refine H_nilDat kPair ?_
  obtain ⟨hP,hR⟩:=Mod.does_else (c:=(⟨ki,cs,sq,ke,ol,cv,ti,li⟩ : Cmd)) h29 h43 h50 h68 hv
  refine H_ret2 Try.results62 (.tmp rfl) (.cell rfl (fun w hA => run_loadVarA (cs:=[_,_,_,_,_]) (Try.isAgg38 w) (Try.sizeOf38 w) (Tells.cells (.loc _ _ _) (hA.get (i:=1) rfl)))) (fun w hA => ⟨((a,c),(none,0)),congrArg Ending.returned ?_,?_,?_⟩)
  ·(rw [hP,hR];rfl)
  ·trivial
  ·(rw [hP,hR];exact hA.only (is:=[1,0]) (Z:=[_]) rfl)
 intro h19
 have hv:=Mod.valAt_no h19
 refine H_skip ?_
 refine H_seq ?_
 refine H_region (l:=[_,_]) rfl ?_
 refine HO_makeFunc (vs:=[]) (us:=[_,_]) rfl rfl rfl rfl ?_
 refine HO_assign rfl rfl rfl ?_
 refine HO_nil ?_
 refine H_env (ρ':=[(9,_),(8,_),(7,_),(5,_),(3,_),(2,_)]) ⟨rfl,rfl,rfl,rfl,rfl,rfl,trivial⟩ ?_
 refine H_seq ?_
 refine H_seq ?_
 refine H_region (l:=[_,_]) rfl ?_
 refine HO_fieldAddr (r:=0) rfl rfl rfl Try.underlying36 rfl Try.sizeOf3 rfl ?_
 refine HO_load1 (i:=2) (j:=0) rfl rfl rfl Try.isAgg3 rfl (.loc _ _ _) rfl rfl ?_
 refine HO_nil ?_
 refine H_env (ρ':=[(28,_),(9,_),(8,_),(7,_),(5,_),(3,_),(2,_)]) ⟨rfl,rfl,rfl,rfl,rfl,rfl,rfl,trivial⟩ ?_
 refine H_block ?_
 refine H_seq ?_
 refine H_region (l:=[_,_]) rfl ?_
 refine HO_bin rfl rfl rfl rfl bin_eql ?_
 refine HO_assign rfl rfl rfl ?_
 refine HO_nil ?_
 refine H_env (ρ':=[(29,_),(28,_),(9,_),(8,_),(7,_),(5,_),(3,_),(2,_)]) ⟨rfl,rfl,rfl,rfl,rfl,rfl,rfl,rfl,trivial⟩ ?_
 refine H_cond rfl ?_ ?_
 ·intro h29
  replace h29:=dT h29
  refine H_seq ?_
  refine H_seq ?_
  refine H_region (l:=[_,_,_,_,_,_,_]) rfl ?_
  refine HO_move rfl rfl rfl ?_
  refine HO_not rfl rfl rfl ?_
  refine HO_move rfl rfl rfl ?_
  refine HO_split (d:=33) rfl ?_ ?_
  ·intro h33
   replace h33:=nT h33
   refine HO_load1 (i:=3) (j:=0) rfl rfl rfl Try.isAgg31 rfl (.loc _ _ _) rfl rfl ?_
   refine HO_bi rfl rfl rfl (bi_len_sl Try.underlying31) ?_
   refine HO_bin rfl rfl rfl rfl bin_geq ?_
   refine HO_pick_t rfl rfl rfl rfl ?_
   refine HO_nil ?_
   refine H_env (ρ':=[(37,_),(9,_),(8,_),(5,_),(2,_)]) ⟨rfl,rfl,rfl,rfl,rfl,trivial⟩ ?_
   refine H_cond rfl ?_ ?_
   ·intro h37
    replace h37:=dT h37
    refine H_seq ?_
    refine H_region (l:=[_,_,_,_]) rfl ?_
    refine HO_load1 (i:=3) (j:=0) rfl rfl rfl Try.isAgg31 rfl (.loc _ _ _) rfl rfl ?_
    refine HO_build (xo:=[(0,_)]) (vs:=[_]) rfl rfl rfl rfl (bd38_0_i) ?_
    refine HO_assign rfl rfl rfl ?_
    refine HO_store (i:=1) (j:=0) (us:=[]) (old:=[_,_,_,_,_]) (ts:=[]) (cs:=[_,_,_,_,_]) (R:=[_,_,_,_]) (new:=[_,_,_,_,_]) rfl rfl rfl Try.sizeOf38 rfl (by simp [Value.oneCell']) rfl rfl rfl rfl rfl rfl ?_
    refine HO_nil ?_
    refine H_env (ρ':=[(4,_),(5,_)]) ⟨rfl,rfl,trivial⟩ ?_
    refine H_world (kp [yy,nn,nn,nn,yy] [_,_] rfl) ?_
    refine H_nilDat kPair ?_
    obtain ⟨hP,hR⟩:=Mod.does_full (c:=(⟨ki,cs,sq,ke,ol,cv,ti,li⟩ : Cmd)) h29 h19 (by omega)
    refine H_ret2 Try.results62 (.tmp rfl) (.cell rfl (fun w hA => run_loadVarA (cs:=[_,_,_,_,_]) (Try.isAgg38 w) (Try.sizeOf38 w) (Tells.cells (.loc _ _ _) (hA.get (i:=1) rfl)))) (fun w hA => ⟨((a,c),(none,0)),congrArg Ending.returned ?_,?_,?_⟩)
    ·(rw [hP,hR];rfl)
    ·trivial
    ·(rw [hP,hR];exact hA.only (is:=[1,0]) (Z:=[_]) rfl)
   intro h37
   replace h37:=dF h37
   refine H_skip ?_
   refine H_seq ?_
   refine H_drawB (m:=[yy,nn,nn,nn,yy]) (Xs:=[_,_]) (fuel:=5) (l:=#[false,false,false,false,false]) mixed rfl rfl rfl ?_
   refine HA_take (i:=0) bp rfl rfl rfl rfl (by kernel_rfl) rfl (V_move rfl) (kp [yy,nn,nn,nn,yy] [_,_] rfl) ?_
   refine HA_take (i:=2) bp rfl rfl rfl rfl (by kernel_rfl) rfl (V_loadA (i:=0) (us:=[]) (cs:=[_,_,_,_,_]) (ts:=[]) rfl Try.isAgg38 Try.sizeOf38 rfl (.loc _ _ _) rfl rfl rfl rfl) (kp [yy,nn,nn,nn,yy] [_,_] rfl) ?_
   refine HA_loud1 (i:=1) (by kernel_rfl) rfl ?_
   refine HO_dup (i:=4) rfl rfl ?_
   refine HO_call (first:=[]) (capt:=[_,_]) (is:=[2,0,3]) (R:=[_,_,_]) rfl rfl rfl rfl rfl Try.call89 rfl (does1_spec _ _ _ _ _ _ _ _ _ _ _ _ _ ?_ ?_ ?_ ?_) ?_
   ·exact hs
   ·(omega)
   ·exact sk
   ·exact sc
   intro y41 hy41
   refine HA_back rfl (kp [nn,nn,nn,yy,nn,yy] [_,_] rfl) ?_
   refine HA_take (i:=3) bp rfl rfl rfl rfl (by kernel_rfl) rfl (V_assign rfl) (kp [nn,nn,nn,yy,nn,yy] [_,_] rfl) ?_
   refine HA_loud1 (i:=4) (by kernel_rfl) rfl ?_
   refine HO_store (i:=4) (j:=0) (us:=[]) (old:=[_,_,_,_,_]) (ts:=[]) (cs:=[_,_,_,_,_]) (R:=[_,_,_,_,_]) (new:=[_,_,_,_,_]) rfl rfl rfl Try.sizeOf38 rfl (by simp [Value.oneCell']) rfl rfl rfl rfl rfl rfl ?_
   refine HA_back rfl (kp [nn,nn,nn,nn,yy,yy] [_,_] rfl) ?_
   refine HA_done (by kernel_rfl) ?_
   refine H_env (ρ':=[(4,_),(5,_)]) ⟨rfl,rfl,trivial⟩ ?_
   refine H_world (kp [yy,nn,nn,yy,nn,nn] [_,_] rfl) ?_
   refine H_nilDat kPair ?_
   obtain ⟨hP,hR⟩:=Mod.does_put (c:=(⟨ki,cs,sq,ke,ol,cv,ti,li⟩ : Cmd)) h29 (.inr (by omega)) hv
   refine H_ret2 Try.results62 (.tmp rfl) (.cell rfl (fun w hA => run_loadVarA (cs:=[_,_,_,_,_]) (Try.isAgg38 w) (Try.sizeOf38 w) (Tells.cells (.loc _ _ _) (hA.get (i:=1) rfl)))) (fun w hA => ⟨(y41,(none,0)),congrArg Ending.returned ?_,?_,?_⟩)
   ·(rw [hP,hR];rfl)
   ·trivial
   ·(rw [hP,hR];exact hA.only (is:=[1,0]) (Z:=[_]) rfl)
  intro h33
  replace h33:=nF h33
  (exact absurd (h19.symm.trans h33) (by decide))
 intro h29
 replace h29:=dF h29
 refine H_seq ?_
 refine H_region (l:=[_,_]) rfl ?_
 refine HO_bin rfl rfl rfl rfl bin_eql ?_
 refine HO_assign rfl rfl rfl ?_
 refine HO_nil ?_
 refine H_env (ρ':=[(43,_),(28,_),(9,_),(8,_),(7,_),(5,_),(3,_),(2,_)]) ⟨rfl,rfl,rfl,rfl,rfl,rfl,rfl,rfl,trivial⟩ ?_
 refine H_cond rfl ?_ ?_
 ·intro h43
  replace h43:=dT h43
  refine H_seq ?_
  refine H_drawB (m:=[yy,nn,yy,yy,yy]) (Xs:=[_,_,_,_]) (fuel:=7) (l:=#[false,false,false,false,false,false,false]) mixed rfl rfl rfl ?_
  refine HA_take (i:=0) bp rfl rfl rfl rfl (by kernel_rfl) rfl (V_load1 (i:=2) (j:=0) rfl Try.isAgg31 rfl (.loc _ _ _) rfl rfl) (kp [yy,nn,yy,yy,yy] [_,_,_,_] rfl) ?_
  refine HA_take (i:=1) bp rfl rfl rfl rfl (by kernel_rfl) rfl (V_fieldAddr (r:=3) rfl Try.underlying36 rfl Try.sizeOf9 rfl) (kp [yy,nn,yy,yy,yy] [_,_,_,_] rfl) ?_
  refine HA_take (i:=2) bp rfl rfl rfl rfl (by kernel_rfl) rfl (V_load1 (i:=1) (j:=3) rfl Try.isAgg9 rfl (.loc _ _ _) rfl rfl) (kp [yy,nn,yy,yy,yy] [_,_,_,_] rfl) ?_
  refine HA_take (i:=4) bp rfl rfl rfl rfl (by kernel_rfl) rfl (V_loadA (i:=0) (us:=[]) (cs:=[_,_,_,_,_]) (ts:=[]) rfl Try.isAgg38 Try.sizeOf38 rfl (.loc _ _ _) rfl rfl rfl rfl) (kp [yy,nn,yy,yy,yy] [_,_,_,_] rfl) ?_
  refine HA_loud1 (i:=3) (by kernel_rfl) rfl ?_
  refine HO_dup (i:=4) rfl rfl ?_
  refine HO_call (first:=[]) (capt:=[]) (is:=[0]) (R:=[_,_,_,_,_]) rfl rfl rfl rfl rfl Try.call91 rfl (withoutP_spec _ _ _ _ ?_ ?_) ?_
  ·exact hs
  ·(omega)
  intro y48 hy48
  refine HA_back rfl (kp [nn,yy,nn,yy,yy,yy] [_,_,_,_] rfl) ?_
  refine HA_take (i:=5) bp rfl rfl rfl rfl (by kernel_rfl) rfl (V_assign rfl) (kp [nn,yy,nn,yy,yy,yy] [_,_,_,_] rfl) ?_
  refine HA_loud1 (i:=6) (by kernel_rfl) rfl ?_
  refine HO_store (i:=2) (j:=0) (us:=[]) (old:=[_,_,_,_,_]) (ts:=[]) (cs:=[_,_,_,_,_]) (R:=[_,_,_,_,_]) (new:=[_,_,_,_,_]) rfl rfl rfl Try.sizeOf38 rfl (by simp [Value.oneCell']) rfl rfl rfl rfl rfl rfl ?_
  refine HA_back rfl (kp [nn,nn,yy,yy,yy,yy] [_,_,_,_] rfl) ?_
  refine HA_done (by kernel_rfl) ?_
  refine H_env (ρ':=[(4,_),(5,_)]) ⟨rfl,rfl,trivial⟩ ?_
  refine H_world (kp [yy,yy,nn,nn,nn,nn] [_,_] rfl) ?_
  refine H_nilDat kPair ?_
  obtain ⟨hP,hR⟩:=Mod.does_del (c:=(⟨ki,cs,sq,ke,ol,cv,ti,li⟩ : Cmd)) h29 h43 hv
  refine H_ret2 Try.results62 (.tmp rfl) (.cell rfl (fun w hA => run_loadVarA (cs:=[_,_,_,_,_]) (Try.isAgg38 w) (Try.sizeOf38 w) (Tells.cells (.loc _ _ _) (hA.get (i:=1) rfl)))) (fun w hA => ⟨(y48,(none,0)),congrArg Ending.returned ?_,?_,?_⟩)
  ·(rw [hP,hR];rfl)
  ·trivial
  ·(rw [hP,hR];exact hA.only (is:=[1,0]) (Z:=[_]) rfl)
 intro h43
 replace h43:=dF h43
 refine H_seq ?_
 refine H_region (l:=[_,_]) rfl ?_
 refine HO_bin rfl rfl rfl rfl bin_eql ?_
 refine HO_assign rfl rfl rfl ?_
 refine HO_nil ?_
 refine H_env (ρ':=[(50,_),(28,_),(9,_),(8,_),(7,_),(5,_),(3,_),(2,_)]) ⟨rfl,rfl,rfl,rfl,rfl,rfl,rfl,rfl,trivial⟩ ?_
 refine H_cond rfl ?_ ?_
 ·intro h50
  replace h50:=dT h50
  refine H_seq ?_
  refine H_seq ?_
  refine H_region (l:=[_,_,_,_,_,_,_,_,_,_]) rfl ?_
  iterate 2 refine HO_move rfl rfl rfl ?_
  refine HO_split (d:=53) rfl ?_ ?_
  ·intro h53
   (exact absurd (h19.symm.trans h53) (by decide))
  intro h53
  iterate 5 refine HO_no rfl rfl rfl ?_
  refine HO_pick_f rfl rfl rfl rfl ?_
  refine HO_fieldAddr (r:=1) rfl rfl rfl Try.underlying38 rfl Try.sizeOf4 rfl ?_
  refine HO_store (i:=0) (j:=0) (us:=[_]) (old:=[_]) (ts:=[_,_,_]) (cs:=[_]) (R:=[_,_,_,_]) (new:=[_,_,_,_,_]) rfl rfl rfl Try.sizeOf4 rfl (by simp [Value.oneCell']) rfl rfl rfl rfl rfl rfl ?_
  refine HO_nil ?_
  refine H_env (ρ':=[(9,_),(8,_),(5,_),(2,_)]) ⟨rfl,rfl,rfl,rfl,trivial⟩ ?_
  refine H_seq ?_
  refine H_region (l:=[_,_]) rfl ?_
  refine HO_fieldAddr (r:=1) rfl rfl rfl Try.underlying38 rfl Try.sizeOf4 rfl ?_
  refine HO_load1 (i:=0) (j:=1) rfl rfl rfl Try.isAgg4 rfl (.loc _ _ _) rfl rfl ?_
  refine HO_nil ?_
  refine H_env (ρ':=[(62,_),(9,_),(8,_),(5,_),(2,_)]) ⟨rfl,rfl,rfl,rfl,rfl,trivial⟩ ?_
  refine H_cond rfl (fun h => nomatch h) (fun _ => ?_)
  refine H_skip ?_
  refine H_seq ?_
  refine H_drawB (m:=[yy,nn,yy,yy,yy]) (Xs:=[_,_,_,_]) (fuel:=4) (l:=#[false,false,false,false]) mixed rfl rfl rfl ?_
  refine HA_take (i:=0) bp rfl rfl rfl rfl (by kernel_rfl) rfl (V_load1 (i:=2) (j:=0) rfl Try.isAgg31 rfl (.loc _ _ _) rfl rfl) (kp [yy,nn,yy,yy,yy] [_,_,_,_] rfl) ?_
  refine HA_take (i:=1) bp rfl rfl rfl rfl (by kernel_rfl) rfl (V_loadA (i:=0) (us:=[]) (cs:=[_,_,_,_,_]) (ts:=[]) rfl Try.isAgg38 Try.sizeOf38 rfl (.loc _ _ _) rfl rfl rfl rfl) (kp [yy,nn,yy,yy,yy] [_,_,_,_] rfl) ?_
  refine HA_take (i:=2) bp rfl rfl rfl rfl (by kernel_rfl) rfl (V_assign rfl) (kp [yy,nn,yy,yy,yy] [_,_,_,_] rfl) ?_
  refine HA_loud1 (i:=3) (by kernel_rfl) rfl ?_
  refine HO_store (i:=1) (j:=0) (us:=[]) (old:=[_,_,_,_,_]) (ts:=[]) (cs:=[_,_,_,_,_]) (R:=[_,_,_,_]) (new:=[_,_,_,_,_]) rfl rfl rfl Try.sizeOf38 rfl (by simp [Value.oneCell']) rfl rfl rfl rfl rfl rfl ?_
  refine HA_back rfl (kp [nn,yy,yy,yy,yy] [_,_,_,_] rfl) ?_
  refine HA_done (by kernel_rfl) ?_
  refine H_env (ρ':=[(4,_),(5,_)]) ⟨rfl,rfl,trivial⟩ ?_
  refine H_world (kp [yy,nn,nn,nn,yy] [_,_] rfl) ?_
  refine H_nilDat kPair ?_
  obtain ⟨hP,hR⟩:=Mod.does_cas0 (c:=(⟨ki,cs,sq,ke,ol,cv,ti,li⟩ : Cmd)) h29 h43 h50 h19 hv
  refine H_ret2 Try.results62 (.tmp rfl) (.cell rfl (fun w hA => run_loadVarA (cs:=[_,_,_,_,_]) (Try.isAgg38 w) (Try.sizeOf38 w) (Tells.cells (.loc _ _ _) (hA.get (i:=1) rfl)))) (fun w hA => ⟨((a,c),(none,0)),congrArg Ending.returned ?_,?_,?_⟩)
  ·(rw [hP,hR];rfl)
  ·trivial
  ·(rw [hP,hR];exact hA.only (is:=[1,0]) (Z:=[_]) rfl)
 intro h50
 replace h50:=dF h50
 refine H_seq ?_
 refine H_region (l:=[_,_]) rfl ?_
 refine HO_bin rfl rfl rfl rfl bin_eql ?_
 refine HO_assign rfl rfl rfl ?_
 refine HO_nil ?_
 refine H_env (ρ':=[(68,_),(8,_),(5,_),(3,_),(2,_)]) ⟨rfl,rfl,rfl,rfl,rfl,trivial⟩ ?_
 refine H_cond rfl ?_ ?_
 ·intro h68
  replace h68:=dT h68
  refine H_seq ?_
  refine H_drawB (m:=[yy,nn,yy,yy,yy]) (Xs:=[_,_,_,_]) (fuel:=7) (l:=#[false,false,false,false,false,false,false]) mixed rfl rfl rfl ?_
  refine HA_take (i:=0) bp rfl rfl rfl rfl (by kernel_rfl) rfl (V_load1 (i:=2) (j:=0) rfl Try.isAgg31 rfl (.loc _ _ _) rfl rfl) (kp [yy,nn,yy,yy,yy] [_,_,_,_] rfl) ?_
  refine HA_take (i:=1) bp rfl rfl rfl rfl (by kernel_rfl) rfl (V_load1 (i:=2) (j:=0) rfl Try.isAgg31 rfl (.loc _ _ _) rfl rfl) (kp [yy,nn,yy,yy,yy] [_,_,_,_] rfl) ?_
  refine HA_take (i:=2) bp rfl rfl rfl rfl (by kernel_rfl) rfl (V_loadA (i:=1) (us:=[]) (cs:=[_,_,_,_,_,_,_,_]) (ts:=[]) rfl Try.isAgg36 Try.sizeOf36 rfl (.loc _ _ _) rfl rfl rfl rfl) (kp [yy,nn,yy,yy,yy] [_,_,_,_] rfl) ?_
  refine HA_loud1 (i:=3) (by kernel_rfl) rfl ?_
  refine HO_dup (i:=4) rfl rfl ?_
  refine HO_call (first:=[]) (capt:=[]) (is:=[0]) (R:=[_,_,_,_,_]) rfl rfl rfl rfl rfl Try.call92 rfl (scan_spec _ _ _ _ _ _ _ _ _ _ _ ?_ ?_ ?_) ?_
  ·exact hs
  ·(omega)
  ·exact hL h68
  intro y73 hy73
  refine HA_back rfl (kp [nn,yy,nn,yy,yy,yy] [_,_,_,_] rfl) ?_
  refine HA_take (i:=4) bp rfl rfl rfl rfl (by kernel_rfl) rfl (V_build (xo:=[(4,_)]) (vs:=[_]) rfl rfl (bd38_4_s)) (kp [nn,yy,nn,yy,yy,yy] [_,_,_,_] rfl) ?_
  refine HA_take (i:=5) bp rfl rfl rfl rfl (by kernel_rfl) rfl (V_assign rfl) (kp [nn,yy,nn,yy,yy,yy] [_,_,_,_] rfl) ?_
  refine HA_loud1 (i:=6) (by kernel_rfl) rfl ?_
  refine HO_store (i:=2) (j:=0) (us:=[]) (old:=[_,_,_,_,_]) (ts:=[]) (cs:=[_,_,_,_,_]) (R:=[_,_,_,_,_]) (new:=[_,_,_,_,_]) rfl rfl rfl Try.sizeOf38 rfl (by simp [Value.oneCell']) rfl rfl rfl rfl rfl rfl ?_
  refine HA_back rfl (kp [nn,nn,yy,yy,yy,yy] [_,_,_,_] rfl) ?_
  refine HA_done (by kernel_rfl) ?_
  refine H_env (ρ':=[(4,_),(5,_)]) ⟨rfl,rfl,trivial⟩ ?_
  refine H_world (kp [yy,yy,nn,nn,nn,yy] [_,_,_] rfl) ?_
  obtain ⟨hP,hR⟩:=Mod.does_scan (l:=xs) (c:=(⟨ki,cs,sq,ke,ol,cv,ti,li⟩ : Cmd)) h68
  refine H_ret2 Try.results62 (.tmp rfl) (.cell rfl (fun w hA => run_loadVarA (cs:=[_,_,_,_,_]) (Try.isAgg38 w) (Try.sizeOf38 w) (Tells.cells (.loc _ _ _) (hA.get (i:=0) rfl)))) (fun w hA => ⟨((a,c),y73),congrArg Ending.returned ?_,?_,?_⟩)
  ·(rw [hP,hR];rfl)
  ·trivial
  ·(rw [hP,hR];exact hA.only (is:=[1,1]) (Z:=[_]) rfl)
 intro h68
 replace h68:=dF h68
 refine H_skip ?_
 refine H_blk ?_
 refine H_seq ?_
 refine H_drawB (m:=[yy,nn,yy,yy,yy]) (Xs:=[_,_,_,_]) (fuel:=4) (l:=#[false,false,false,false]) mixed rfl rfl rfl ?_
 refine HA_take (i:=0) bp rfl rfl rfl rfl (by kernel_rfl) rfl (V_load1 (i:=2) (j:=0) rfl Try.isAgg31 rfl (.loc _ _ _) rfl rfl) (kp [yy,nn,yy,yy,yy] [_,_,_,_] rfl) ?_
 refine HA_take (i:=1) bp rfl rfl rfl rfl (by kernel_rfl) rfl (V_loadA (i:=0) (us:=[]) (cs:=[_,_,_,_,_]) (ts:=[]) rfl Try.isAgg38 Try.sizeOf38 rfl (.loc _ _ _) rfl rfl rfl rfl) (kp [yy,nn,yy,yy,yy] [_,_,_,_] rfl) ?_
 refine HA_take (i:=2) bp rfl rfl rfl rfl (by kernel_rfl) rfl (V_assign rfl) (kp [yy,nn,yy,yy,yy] [_,_,_,_] rfl) ?_
 refine HA_loud1 (i:=3) (by kernel_rfl) rfl ?_
 refine HO_store (i:=1) (j:=0) (us:=[]) (old:=[_,_,_,_,_]) (ts:=[]) (cs:=[_,_,_,_,_]) (R:=[_,_,_,_]) (new:=[_,_,_,_,_]) rfl rfl rfl Try.sizeOf38 rfl (by simp [Value.oneCell']) rfl rfl rfl rfl rfl rfl ?_
 refine HA_back rfl (kp [nn,yy,yy,yy,yy] [_,_,_,_] rfl) ?_
 refine HA_done (by kernel_rfl) ?_
 refine H_env (ρ':=[(4,_),(5,_)]) ⟨rfl,rfl,trivial⟩ ?_
 refine H_world (kp [yy,nn,nn,nn,yy] [_,_] rfl) ?_
 refine H_nilDat kPair ?_
 obtain ⟨hP,hR⟩:=Mod.does_else (c:=(⟨ki,cs,sq,ke,ol,cv,ti,li⟩ : Cmd)) h29 h43 h50 h68 hv
 refine H_ret2 Try.results62 (.tmp rfl) (.cell rfl (fun w hA => run_loadVarA (cs:=[_,_,_,_,_]) (Try.isAgg38 w) (Try.sizeOf38 w) (Tells.cells (.loc _ _ _) (hA.get (i:=1) rfl)))) (fun w hA => ⟨((a,c),(none,0)),congrArg Ending.returned ?_,?_,?_⟩)
 ·(rw [hP,hR];rfl)
 ·trivial
 ·(rw [hP,hR];exact hA.only (is:=[1,0]) (Z:=[_]) rfl)
theorem failed_spec (e : Int)  : Spec Try.prog 57 #[.int .i64 (e)] [] (β:=Unit) (fun y => .agg #[.int .i64 (e),.bool (false),.string (⟨#[]⟩),.int .i64 (0),.slice none 0 0]) (fun y => True) (fun y => []):=by
 refine Spec.enter (vs:=[_]) Try.func57 rfl Try.ntmps57 rfl (Nat.le_of_ble_eq_true rfl) (fun w0 ok0 => ?_)
 generalize hM0 : blks _ = M0
 have hMn:=@noM _ _ hM0 (by simp [Atom.dat,Atom.elem])
 refine H_seq ?_
 refine H_region (l:=[_]) rfl ?_
 refine HO_alloc (cs:=[_,_,_,_,_]) rfl rfl Try.zeroValue38 rfl ?_
 intro g2
 refine HO_nil ?_
 refine H_seq ?_
 refine H_region (l:=[_,_,_]) rfl ?_
 refine HO_move rfl rfl rfl ?_
 refine HO_build (xo:=[(0,_)]) (vs:=[_]) rfl rfl rfl rfl (bd38_0_i) ?_
 refine HO_store (i:=0) (j:=0) (us:=[]) (old:=[_,_,_,_,_]) (ts:=[]) (cs:=[_,_,_,_,_]) (R:=[]) (new:=[_,_,_,_,_]) rfl rfl rfl Try.sizeOf38 rfl (by simp [Value.oneCell']) rfl rfl rfl rfl rfl rfl ?_
 refine HO_nil ?_
 refine H_env (ρ':=[(2,_)]) ⟨rfl,trivial⟩ ?_
 refine H_ret1 Try.results57 (.cell rfl (fun w hA => run_loadVarA (cs:=[_,_,_,_,_]) (Try.isAgg38 w) (Try.sizeOf38 w) (Tells.cells (.loc _ _ _) (hA.get (i:=0) rfl)))) (fun w hA => ⟨(),congrArg Ending.returned ?_,?_,?_⟩)
 ·rfl
 ·trivial
 ·exact hA.keep (m:=[nn]) (Y:=[]) rfl
theorem open_spec (ps : List Pair) (a1 : Option Addr) (c1 : Nat) (ss : List Sess) (a2 : Option Addr) (c2 : Nat) (ix : Int) (hI : Mod.Inv ps ss) (rx : -9223372036854775808≤ix∧ix≤9223372036854775807) : Spec Try.prog 58 #[.agg #[.slice a1 (ps.length) c1,.slice a2 (ss.length) c2],.int .i64 (ix)] [.dat kPair.sl (ps) [.slice a1 (ps.length) c1],.dat kSess.sl (ss) [.slice a2 (ss.length) c2]] (β:=Option Addr × Nat) (fun y => .tuple #[.agg #[.slice a1 (ps.length) c1,.slice y.1 (((Mod.openS ss ix)).length) y.2],.agg #[.int .i64 ((Mod.openR ss ix).err),.bool ((Mod.openR ss ix).found),.string ((Mod.openR ss ix).val),.int .i64 ((Mod.openR ss ix).sess),.slice none 0 0]]) (fun y => True) (fun y => [.dat kPair.sl (ps) [.slice a1 (ps.length) c1],.dat kSess.sl ((Mod.openS ss ix)) [.slice y.1 (((Mod.openS ss ix)).length) y.2]]):=by
 refine Spec.enter (vs:=[_,_]) Try.func58 rfl Try.ntmps58 rfl (Nat.le_of_ble_eq_true rfl) (fun w0 ok0 => ?_)
 generalize hM0 : blks _ = M0
 have hMn:=@noM _ _ hM0 (by simp [Atom.dat,Atom.elem])
 refine H_len_le (i:=0) rfl ?_
 intro hlen0
 refine H_len_le (i:=1) rfl ?_
 intro hlen1
 refine H_seq ?_
 refine H_region (l:=[_,_,_]) rfl ?_
 refine HO_box (cs:=[_,_]) rfl rfl rfl rfl ?_
 intro g2
 refine HO_alloc (cs:=[_,_]) rfl rfl Try.zeroValue56 rfl ?_
 intro g4
 refine HO_alloc (cs:=[_,_,_,_,_]) rfl rfl Try.zeroValue38 rfl ?_
 intro g5
 refine HO_nil ?_
 refine H_env (ρ':=[(5,_),(4,_),(2,_),(1,_)]) ⟨rfl,rfl,rfl,rfl,trivial⟩ ?_
 refine H_seq ?_
 refine H_region (l:=[_,_,_,_,_,_,_,_,_]) rfl ?_
 refine HO_fieldAddr (r:=1) rfl rfl rfl Try.underlying56 rfl Try.sizeOf54 rfl ?_
 refine HO_load1 (i:=2) (j:=1) rfl rfl rfl Try.isAgg54 rfl (.loc _ _ _) rfl rfl ?_
 refine HO_move rfl rfl rfl ?_
 refine HO_dup (i:=4) rfl rfl ?_
 refine HO_call (first:=[]) (capt:=[]) (is:=[0]) (R:=[_,_,_,_,_]) rfl rfl rfl rfl rfl Try.call59 rfl (findS_spec _ _ _ _ ?_ ?_) ?_
 ·exact hI.ss
 ·(have:=hI.sl;omega)
 intro y12 hy12
 clear y12 hy12
 refine HO_move rfl rfl rfl ?_
 refine HO_extract (vs:=[_,_]) rfl rfl rfl rfl ?_
 refine HO_extract (vs:=[_,_]) rfl rfl rfl rfl ?_
 iterate 2 refine HO_assign rfl rfl rfl ?_
 refine HO_nil ?_
 refine H_env (ρ':=[(7,_),(5,_),(4,_),(2,_),(1,_)]) ⟨rfl,rfl,rfl,rfl,rfl,trivial⟩ ?_
 refine H_seq ?_
 refine H_block ?_
 refine H_seq ?_
 refine H_region (l:=[_,_,_,_,_]) rfl ?_
 refine HO_fieldAddr (r:=1) rfl rfl rfl Try.underlying56 rfl Try.sizeOf54 rfl ?_
 refine HO_load1 (i:=2) (j:=1) rfl rfl rfl Try.isAgg54 rfl (.loc _ _ _) rfl rfl ?_
 refine HO_bi rfl rfl rfl (bi_len_sl Try.underlying54) ?_
 refine HO_bin rfl rfl rfl rfl bin_geq ?_
 refine HO_assign rfl rfl rfl ?_
 refine HO_nil ?_
 refine H_env (ρ':=[(15,_),(7,_),(5,_),(4,_),(2,_),(1,_)]) ⟨rfl,rfl,rfl,rfl,rfl,rfl,trivial⟩ ?_
 refine H_cond rfl ?_ ?_
 ·intro h15
  replace h15:=dT h15
  refine H_seq ?_
  refine H_drawB (m:=[nn,nn,yy,yy,yy]) (Xs:=[_,_,_]) (fuel:=4) (l:=#[false,false,false,false]) mixed rfl rfl rfl ?_
  refine HA_take (i:=0) bp rfl rfl rfl rfl (by kernel_rfl) rfl (V_loadA (i:=0) (us:=[]) (cs:=[_,_]) (ts:=[]) rfl Try.isAgg56 Try.sizeOf56 rfl (.loc _ _ _) rfl rfl rfl rfl) (kp [nn,nn,yy,yy,yy] [_,_,_] rfl) ?_
  refine HA_loud1 (i:=1) (by kernel_rfl) rfl ?_
  refine HO_call (first:=[]) (capt:=[]) (is:=[]) (R:=[_,_,_,_,_]) rfl rfl rfl rfl rfl Try.call57 rfl (failed_spec _) ?_
  intro y21 hy21
  clear y21 hy21
  refine HA_back rfl (kp [nn,nn,yy,yy,yy] [_,_,_] rfl) ?_
  refine HA_loud1 (i:=2) (by kernel_rfl) rfl ?_
  refine HO_store (i:=1) (j:=0) (us:=[]) (old:=[_,_]) (ts:=[]) (cs:=[_,_]) (R:=[_,_,_,_]) (new:=[_,_]) rfl rfl rfl Try.sizeOf56 rfl (by simp [Value.oneCell']) rfl rfl rfl rfl rfl rfl ?_
  refine HA_back rfl (kp [nn,nn,yy,yy,yy] [_,_,_] rfl) ?_
  refine HA_loud1 (i:=3) (by kernel_rfl) rfl ?_
  refine HO_store (i:=1) (j:=0) (us:=[]) (old:=[_,_,_,_,_]) (ts:=[]) (cs:=[_,_,_,_,_]) (R:=[_,_,_,_]) (new:=[_,_,_,_,_]) rfl rfl rfl Try.sizeOf38 rfl (by simp [Value.oneCell']) rfl rfl rfl rfl rfl rfl ?_
  refine HA_back rfl (kp [nn,nn,yy,yy,yy] [_,_,_] rfl) ?_
  refine HA_done (by kernel_rfl) ?_
  refine H_env (ρ':=[(5,_),(4,_)]) ⟨rfl,rfl,trivial⟩ ?_
  refine H_world (kp [yy,yy,nn,yy,yy] [_,_,_,_] rfl) ?_
  obtain ⟨hP,hR⟩:=Mod.open_full (ss:=ss) (ix:=ix) (by omega)
  refine H_ret2 Try.results58 (.cell rfl (fun w hA => run_loadVarA (cs:=[_,_]) (Try.isAgg56 w) (Try.sizeOf56 w) (Tells.cells (.loc _ _ _) (hA.get (i:=1) rfl)))) (.cell rfl (fun w hA => run_loadVarA (cs:=[_,_,_,_,_]) (Try.isAgg38 w) (Try.sizeOf38 w) (Tells.cells (.loc _ _ _) (hA.get (i:=0) rfl)))) (fun w hA => ⟨(a2,c2),congrArg Ending.returned ?_,?_,?_⟩)
  ·(rw [hP,hR];rfl)
  ·trivial
  ·(rw [hP];exact hA.keep (m:=[nn,nn,yy,yy]) (Y:=[_,_]) rfl)
 intro h15
 replace h15:=dF h15
 refine H_seq ?_
 refine H_region (l:=[_,_,_]) rfl ?_
 refine HO_move rfl rfl rfl ?_
 refine HO_bin rfl rfl rfl rfl bin_lss ?_
 refine HO_assign rfl rfl rfl ?_
 refine HO_nil ?_
 refine H_env (ρ':=[(22,_),(7,_),(5,_),(4,_),(2,_),(1,_)]) ⟨rfl,rfl,rfl,rfl,rfl,rfl,trivial⟩ ?_
 refine H_cond rfl ?_ ?_
 ·intro h22
  replace h22:=dT h22
  refine H_seq ?_
  refine H_drawB (m:=[nn,nn,yy,yy,yy]) (Xs:=[_,_,_]) (fuel:=4) (l:=#[false,false,false,false]) mixed rfl rfl rfl ?_
  refine HA_take (i:=0) bp rfl rfl rfl rfl (by kernel_rfl) rfl (V_loadA (i:=0) (us:=[]) (cs:=[_,_]) (ts:=[]) rfl Try.isAgg56 Try.sizeOf56 rfl (.loc _ _ _) rfl rfl rfl rfl) (kp [nn,nn,yy,yy,yy] [_,_,_] rfl) ?_
  refine HA_loud1 (i:=1) (by kernel_rfl) rfl ?_
  refine HO_call (first:=[]) (capt:=[]) (is:=[]) (R:=[_,_,_,_,_]) rfl rfl rfl rfl rfl Try.call57 rfl (failed_spec _) ?_
  intro y26 hy26
  clear y26 hy26
  refine HA_back rfl (kp [nn,nn,yy,yy,yy] [_,_,_] rfl) ?_
  refine HA_loud1 (i:=2) (by kernel_rfl) rfl ?_
  refine HO_store (i:=1) (j:=0) (us:=[]) (old:=[_,_]) (ts:=[]) (cs:=[_,_]) (R:=[_,_,_,_]) (new:=[_,_]) rfl rfl rfl Try.sizeOf56 rfl (by simp [Value.oneCell']) rfl rfl rfl rfl rfl rfl ?_
  refine HA_back rfl (kp [nn,nn,yy,yy,yy] [_,_,_] rfl) ?_
  refine HA_loud1 (i:=3) (by kernel_rfl) rfl ?_
  refine HO_store (i:=1) (j:=0) (us:=[]) (old:=[_,_,_,_,_]) (ts:=[]) (cs:=[_,_,_,_,_]) (R:=[_,_,_,_]) (new:=[_,_,_,_,_]) rfl rfl rfl Try.sizeOf38 rfl (by simp [Value.oneCell']) rfl rfl rfl rfl rfl rfl ?_
  refine HA_back rfl (kp [nn,nn,yy,yy,yy] [_,_,_] rfl) ?_
  refine HA_done (by kernel_rfl) ?_
  refine H_env (ρ':=[(5,_),(4,_)]) ⟨rfl,rfl,trivial⟩ ?_
  refine H_world (kp [yy,yy,nn,yy,yy] [_,_,_,_] rfl) ?_
  obtain ⟨hP,hR⟩:=Mod.open_arg (ss:=ss) (ix:=ix) (by omega) h22
  refine H_ret2 Try.results58 (.cell rfl (fun w hA => run_loadVarA (cs:=[_,_]) (Try.isAgg56 w) (Try.sizeOf56 w) (Tells.cells (.loc _ _ _) (hA.get (i:=1) rfl)))) (.cell rfl (fun w hA => run_loadVarA (cs:=[_,_,_,_,_]) (Try.isAgg38 w) (Try.sizeOf38 w) (Tells.cells (.loc _ _ _) (hA.get (i:=0) rfl)))) (fun w hA => ⟨(a2,c2),congrArg Ending.returned ?_,?_,?_⟩)
  ·(rw [hP,hR];rfl)
  ·trivial
  ·(rw [hP];exact hA.keep (m:=[nn,nn,yy,yy]) (Y:=[_,_]) rfl)
 intro h22
 replace h22:=dF h22
 refine H_seq ?_
 refine H_region (l:=[_,_]) rfl ?_
 refine HO_move rfl rfl rfl ?_
 refine HO_assign rfl rfl rfl ?_
 refine HO_nil ?_
 refine H_env (ρ':=[(27,_),(5,_),(4,_),(2,_),(1,_)]) ⟨rfl,rfl,rfl,rfl,rfl,trivial⟩ ?_
 refine H_cond rfl ?_ ?_
 ·intro h27
  refine H_seq ?_
  refine H_drawB (m:=[nn,nn,yy,yy,yy]) (Xs:=[_,_,_]) (fuel:=4) (l:=#[false,false,false,false]) mixed rfl rfl rfl ?_
  refine HA_take (i:=0) bp rfl rfl rfl rfl (by kernel_rfl) rfl (V_loadA (i:=0) (us:=[]) (cs:=[_,_]) (ts:=[]) rfl Try.isAgg56 Try.sizeOf56 rfl (.loc _ _ _) rfl rfl rfl rfl) (kp [nn,nn,yy,yy,yy] [_,_,_] rfl) ?_
  refine HA_loud1 (i:=1) (by kernel_rfl) rfl ?_
  refine HO_call (first:=[]) (capt:=[]) (is:=[]) (R:=[_,_,_,_,_]) rfl rfl rfl rfl rfl Try.call57 rfl (failed_spec _) ?_
  intro y30 hy30
  clear y30 hy30
  refine HA_back rfl (kp [nn,nn,yy,yy,yy] [_,_,_] rfl) ?_
  refine HA_loud1 (i:=2) (by kernel_rfl) rfl ?_
  refine HO_store (i:=1) (j:=0) (us:=[]) (old:=[_,_]) (ts:=[]) (cs:=[_,_]) (R:=[_,_,_,_]) (new:=[_,_]) rfl rfl rfl Try.sizeOf56 rfl (by simp [Value.oneCell']) rfl rfl rfl rfl rfl rfl ?_
  refine HA_back rfl (kp [nn,nn,yy,yy,yy] [_,_,_] rfl) ?_
  refine HA_loud1 (i:=3) (by kernel_rfl) rfl ?_
  refine HO_store (i:=1) (j:=0) (us:=[]) (old:=[_,_,_,_,_]) (ts:=[]) (cs:=[_,_,_,_,_]) (R:=[_,_,_,_]) (new:=[_,_,_,_,_]) rfl rfl rfl Try.sizeOf38 rfl (by simp [Value.oneCell']) rfl rfl rfl rfl rfl rfl ?_
  refine HA_back rfl (kp [nn,nn,yy,yy,yy] [_,_,_] rfl) ?_
  refine HA_done (by kernel_rfl) ?_
  refine H_env (ρ':=[(5,_),(4,_)]) ⟨rfl,rfl,trivial⟩ ?_
  refine H_world (kp [yy,yy,nn,yy,yy] [_,_,_,_] rfl) ?_
  obtain ⟨hP,hR⟩:=Mod.open_is (ss:=ss) (ix:=ix) (by omega) h22 h27
  refine H_ret2 Try.results58 (.cell rfl (fun w hA => run_loadVarA (cs:=[_,_]) (Try.isAgg56 w) (Try.sizeOf56 w) (Tells.cells (.loc _ _ _) (hA.get (i:=1) rfl)))) (.cell rfl (fun w hA => run_loadVarA (cs:=[_,_,_,_,_]) (Try.isAgg38 w) (Try.sizeOf38 w) (Tells.cells (.loc _ _ _) (hA.get (i:=0) rfl)))) (fun w hA => ⟨(a2,c2),congrArg Ending.returned ?_,?_,?_⟩)
  ·(rw [hP,hR];rfl)
  ·trivial
  ·(rw [hP];exact hA.keep (m:=[nn,nn,yy,yy]) (Y:=[_,_]) rfl)
 intro h27
 refine H_skip ?_
 refine H_blk ?_
 refine H_seq ?_
 refine H_region (l:=[_,_,_,_,_,_,_]) rfl ?_
 refine HO_fieldAddr (r:=1) rfl rfl rfl Try.underlying56 rfl Try.sizeOf54 rfl ?_
 refine HO_load1 (i:=2) (j:=1) rfl rfl rfl Try.isAgg54 rfl (.loc _ _ _) rfl rfl ?_
 refine HO_move rfl rfl rfl ?_
 refine HO_build (xo:=[(0,_)]) (vs:=[_]) rfl rfl rfl rfl (bd67_0_i) ?_
 refine HO_nilDat kPair ?_
 refine HO_dup (i:=5) rfl rfl ?_
 refine HO_dup (i:=1) rfl rfl ?_
 refine HO_call (first:=[]) (capt:=[]) (is:=[0,0]) (R:=[_,_,_,_,_,_]) rfl rfl rfl rfl rfl Try.call63 rfl (withS_spec _ _ _ _ _ _ _ _ _ _ _ _ ?_ ?_ ?_ ?_ ?_ ?_ ?_ ?_) ?_
 ·exact hI.ss
 ·(have:=hI.sl;omega)
 ·exact rx
 ·exact Mod.zr
 ·exact Mod.zr
 ·exact (Nat.zero_le _)
 ·exact Mod.zr
 ·exact (Nat.zero_le _)
 intro y35 hy35
 refine HO_fieldAddr (r:=1) rfl rfl rfl Try.underlying56 rfl Try.sizeOf54 rfl ?_
 refine HO_store (i:=4) (j:=0) (us:=[_]) (old:=[_]) (ts:=[]) (cs:=[_]) (R:=[_,_,_,_,_,_]) (new:=[_,_]) rfl rfl rfl Try.sizeOf54 rfl (by simp [Value.oneCell']) rfl rfl rfl rfl rfl rfl ?_
 refine HO_nil ?_
 refine H_env (ρ':=[(5,_),(4,_),(2,_),(1,_)]) ⟨rfl,rfl,rfl,rfl,trivial⟩ ?_
 refine H_world (kp [yy,yy,nn,yy,yy,yy,nn] [_,_,_,_,_] rfl) ?_
 refine H_seq ?_
 refine H_region (l:=[_,_,_,_,_]) rfl ?_
 refine HO_loadA (i:=0) (us:=[]) (cs:=[_,_]) (ts:=[]) rfl rfl rfl Try.isAgg56 Try.sizeOf56 rfl (.loc _ _ _) rfl rfl rfl rfl ?_
 refine HO_move rfl rfl rfl ?_
 refine HO_build (xo:=[(3,_)]) (vs:=[_]) rfl rfl rfl rfl (bd38_3_i) ?_
 refine HO_store (i:=3) (j:=0) (us:=[]) (old:=[_,_]) (ts:=[]) (cs:=[_,_]) (R:=[_,_,_,_]) (new:=[_,_]) rfl rfl rfl Try.sizeOf56 rfl (by simp [Value.oneCell']) rfl rfl rfl rfl rfl rfl ?_
 refine HO_store (i:=3) (j:=0) (us:=[]) (old:=[_,_,_,_,_]) (ts:=[]) (cs:=[_,_,_,_,_]) (R:=[_,_,_,_]) (new:=[_,_,_,_,_]) rfl rfl rfl Try.sizeOf38 rfl (by simp [Value.oneCell']) rfl rfl rfl rfl rfl rfl ?_
 refine HO_nil ?_
 refine H_env (ρ':=[(5,_),(4,_)]) ⟨rfl,rfl,trivial⟩ ?_
 refine H_world (kp [yy,yy,nn,yy,yy] [_,_,_,_] rfl) ?_
 obtain ⟨hP,hR⟩:=Mod.open_ok (ss:=ss) (ix:=ix) (by omega) h22 h27
 refine H_ret2 Try.results58 (.cell rfl (fun w hA => run_loadVarA (cs:=[_,_]) (Try.isAgg56 w) (Try.sizeOf56 w) (Tells.cells (.loc _ _ _) (hA.get (i:=1) rfl)))) (.cell rfl (fun w hA => run_loadVarA (cs:=[_,_,_,_,_]) (Try.isAgg38 w) (Try.sizeOf38 w) (Tells.cells (.loc _ _ _) (hA.get (i:=0) rfl)))) (fun w hA => ⟨y35,congrArg Ending.returned ?_,?_,?_⟩)
 ·(rw [hP,hR];rfl)
 ·trivial
 ·(rw [hP];exact hA.only (is:=[2,2]) (Z:=[_,_]) rfl)
set_option maxHeartbeats 0 in
theorem apply_spec (ps : List Pair) (a1 : Option Addr) (c1 : Nat) (ss : List Sess) (a2 : Option Addr) (c2 : Nat) (ix : Int) (ki cs sq : Int) (ke ol cv ti : ByteArray) (li : Int) (hI : Mod.Inv ps ss) (rx : -9223372036854775808≤ix∧ix≤9223372036854775807) (rc : -9223372036854775808≤cs∧cs≤9223372036854775807) (rq : -9223372036854775808≤sq∧sq≤9223372036854775807) (sk : ke.size≤BIG) (sc : cv.size≤BIG) : Spec Try.prog 29 #[.agg #[.slice a1 (ps.length) c1,.slice a2 (ss.length) c2],.int .i64 (ix),.agg #[.int .i64 (ki),.int .i64 (cs),.int .i64 (sq),.string (ke),.string (ol),.string (cv),.string (ti),.int .i64 (li)]] [.dat kPair.sl (ps) [.slice a1 (ps.length) c1],.dat kSess.sl (ss) [.slice a2 (ss.length) c2]] (β:=(Option Addr × Nat) × (Option Addr × Nat) × (Option Addr × Nat)) (fun y => .tuple #[.agg #[.slice y.1.1 (((Mod.apply ps ss ix (⟨ki,cs,sq,ke,ol,cv,ti,li⟩ : Cmd)).1).length) y.1.2,.slice y.2.1.1 (((Mod.apply ps ss ix (⟨ki,cs,sq,ke,ol,cv,ti,li⟩ : Cmd)).2.1).length) y.2.1.2],.agg #[.int .i64 ((Mod.apply ps ss ix (⟨ki,cs,sq,ke,ol,cv,ti,li⟩ : Cmd)).2.2.err),.bool ((Mod.apply ps ss ix (⟨ki,cs,sq,ke,ol,cv,ti,li⟩ : Cmd)).2.2.found),.string ((Mod.apply ps ss ix (⟨ki,cs,sq,ke,ol,cv,ti,li⟩ : Cmd)).2.2.val),.int .i64 ((Mod.apply ps ss ix (⟨ki,cs,sq,ke,ol,cv,ti,li⟩ : Cmd)).2.2.sess),.slice y.2.2.1 (((Mod.apply ps ss ix (⟨ki,cs,sq,ke,ol,cv,ti,li⟩ : Cmd)).2.2.pairs).length) y.2.2.2]]) (fun y => True) (fun y => [.dat kPair.sl ((Mod.apply ps ss ix (⟨ki,cs,sq,ke,ol,cv,ti,li⟩ : Cmd)).1) [.slice y.1.1 (((Mod.apply ps ss ix (⟨ki,cs,sq,ke,ol,cv,ti,li⟩ : Cmd)).1).length) y.1.2],.dat kSess.sl ((Mod.apply ps ss ix (⟨ki,cs,sq,ke,ol,cv,ti,li⟩ : Cmd)).2.1) [.slice y.2.1.1 (((Mod.apply ps ss ix (⟨ki,cs,sq,ke,ol,cv,ti,li⟩ : Cmd)).2.1).length) y.2.1.2],.dat kPair.sl ((Mod.apply ps ss ix (⟨ki,cs,sq,ke,ol,cv,ti,li⟩ : Cmd)).2.2.pairs) [.slice y.2.2.1 (((Mod.apply ps ss ix (⟨ki,cs,sq,ke,ol,cv,ti,li⟩ : Cmd)).2.2.pairs).length) y.2.2.2]]):=by
 refine Spec.enter (vs:=[_,_,_]) Try.func29 rfl Try.ntmps29 rfl (Nat.le_of_ble_eq_true rfl) (fun w0 ok0 => ?_)
 generalize hM0 : blks _ = M0
 have hMn:=@noM _ _ hM0 (by simp [Atom.dat,Atom.elem])
 refine H_len_le (i:=0) rfl ?_
 intro hlen0
 refine H_len_le (i:=1) rfl ?_
 intro hlen1
 refine H_seq ?_
 refine H_region (l:=[_,_,_,_]) rfl ?_
 refine HO_box (cs:=[_,_]) rfl rfl rfl rfl ?_
 intro g3
 refine HO_box (cs:=[_,_,_,_,_,_,_,_]) rfl rfl rfl rfl ?_
 intro g5
 refine HO_alloc (cs:=[_,_]) rfl rfl Try.zeroValue56 rfl ?_
 intro g6
 refine HO_alloc (cs:=[_,_,_,_,_]) rfl rfl Try.zeroValue38 rfl ?_
 intro g7
 refine HO_nil ?_
 refine H_env (ρ':=[(7,_),(6,_),(5,_),(3,_),(1,_)]) ⟨rfl,rfl,rfl,rfl,rfl,trivial⟩ ?_
 refine H_seq ?_
 refine H_block ?_
 refine H_seq ?_
 refine H_region (l:=[_,_,_,_]) rfl ?_
 refine HO_loadA (i:=2) (us:=[]) (cs:=[_,_,_,_,_,_,_,_]) (ts:=[]) rfl rfl rfl Try.isAgg36 Try.sizeOf36 rfl (.loc _ _ _) rfl rfl rfl rfl ?_
 refine HO_call (first:=[]) (capt:=[]) (is:=[]) (R:=[_,_,_,_,_,_]) rfl rfl rfl rfl rfl Try.call56 rfl (good_spec _ _ _ _ _ _ _ _) ?_
 intro y15 hy15
 clear y15 hy15
 refine HO_not rfl rfl rfl ?_
 refine HO_assign rfl rfl rfl ?_
 refine HO_nil ?_
 refine H_env (ρ':=[(13,_),(7,_),(6,_),(5,_),(3,_),(1,_)]) ⟨rfl,rfl,rfl,rfl,rfl,rfl,trivial⟩ ?_
 refine H_cond rfl ?_ ?_
 ·intro h13
  replace h13:=nT h13
  refine H_seq ?_
  refine H_drawB (m:=[nn,nn,yy,yy,yy,yy]) (Xs:=[_,_,_,_]) (fuel:=4) (l:=#[false,false,false,false]) mixed rfl rfl rfl ?_
  refine HA_take (i:=0) bp rfl rfl rfl rfl (by kernel_rfl) rfl (V_loadA (i:=1) (us:=[]) (cs:=[_,_]) (ts:=[]) rfl Try.isAgg56 Try.sizeOf56 rfl (.loc _ _ _) rfl rfl rfl rfl) (kp [nn,nn,yy,yy,yy,yy] [_,_,_,_] rfl) ?_
  refine HA_loud1 (i:=1) (by kernel_rfl) rfl ?_
  refine HO_call (first:=[]) (capt:=[]) (is:=[]) (R:=[_,_,_,_,_,_]) rfl rfl rfl rfl rfl Try.call57 rfl (failed_spec _) ?_
  intro y18 hy18
  clear y18 hy18
  refine HA_back rfl (kp [nn,nn,yy,yy,yy,yy] [_,_,_,_] rfl) ?_
  refine HA_loud1 (i:=2) (by kernel_rfl) rfl ?_
  refine HO_store (i:=1) (j:=0) (us:=[]) (old:=[_,_]) (ts:=[]) (cs:=[_,_]) (R:=[_,_,_,_,_]) (new:=[_,_]) rfl rfl rfl Try.sizeOf56 rfl (by simp [Value.oneCell']) rfl rfl rfl rfl rfl rfl ?_
  refine HA_back rfl (kp [nn,nn,yy,yy,yy,yy] [_,_,_,_] rfl) ?_
  refine HA_loud1 (i:=3) (by kernel_rfl) rfl ?_
  refine HO_store (i:=1) (j:=0) (us:=[]) (old:=[_,_,_,_,_]) (ts:=[]) (cs:=[_,_,_,_,_]) (R:=[_,_,_,_,_]) (new:=[_,_,_,_,_]) rfl rfl rfl Try.sizeOf38 rfl (by simp [Value.oneCell']) rfl rfl rfl rfl rfl rfl ?_
  refine HA_back rfl (kp [nn,nn,yy,yy,yy,yy] [_,_,_,_] rfl) ?_
  refine HA_done (by kernel_rfl) ?_
  refine H_env (ρ':=[(7,_),(6,_)]) ⟨rfl,rfl,trivial⟩ ?_
  refine H_world (kp [yy,yy,nn,nn,yy,yy] [_,_,_,_] rfl) ?_
  refine H_nilDat kPair ?_
  have hap : (Mod.apply ps ss ix (⟨ki,cs,sq,ke,ol,cv,ti,li⟩ : Cmd)) = _:=Mod.ap_bad h13
  refine H_ret2 Try.results29 (.cell rfl (fun w hA => run_loadVarA (cs:=[_,_]) (Try.isAgg56 w) (Try.sizeOf56 w) (Tells.cells (.loc _ _ _) (hA.get (i:=2) rfl)))) (.cell rfl (fun w hA => run_loadVarA (cs:=[_,_,_,_,_]) (Try.isAgg38 w) (Try.sizeOf38 w) (Tells.cells (.loc _ _ _) (hA.get (i:=1) rfl)))) (fun w hA => ⟨((a1,c1),(a2,c2),(none,0)),congrArg Ending.returned ?_,?_,?_⟩)
  ·(first | (rw [hap];done) | (rw [hap];rfl))
  ·trivial
  ·(rw [hap];exact hA.only (is:=[2,3,0]) (Z:=[_,_]) rfl)
 intro h13
 replace h13:=nF h13
 refine H_seq ?_
 refine H_region (l:=[_,_,_,_]) rfl ?_
 refine HO_fieldAddr (r:=0) rfl rfl rfl Try.underlying36 rfl Try.sizeOf3 rfl ?_
 refine HO_load1 (i:=2) (j:=0) rfl rfl rfl Try.isAgg3 rfl (.loc _ _ _) rfl rfl ?_
 refine HO_bin rfl rfl rfl rfl bin_eql ?_
 refine HO_assign rfl rfl rfl ?_
 refine HO_nil ?_
 refine H_env (ρ':=[(19,_),(7,_),(6,_),(5,_),(3,_),(1,_)]) ⟨rfl,rfl,rfl,rfl,rfl,rfl,trivial⟩ ?_
 refine H_cond rfl ?_ ?_
 ·intro h19
  replace h19:=dT h19
  refine H_seq ?_
  refine H_region (l:=[_,_,_,_,_,_,_]) rfl ?_
  refine HO_loadA (i:=3) (us:=[]) (cs:=[_,_]) (ts:=[]) rfl rfl rfl Try.isAgg56 Try.sizeOf56 rfl (.loc _ _ _) rfl rfl rfl rfl ?_
  refine HO_move rfl rfl rfl ?_
  refine HO_dup (i:=4) rfl rfl ?_
  refine HO_dup (i:=6) rfl rfl ?_
  refine HO_call (first:=[]) (capt:=[]) (is:=[0,0]) (R:=[_,_,_,_,_,_]) rfl rfl rfl rfl rfl Try.call58 rfl (open_spec _ _ _ _ _ _ _ ?_ ?_) ?_
  ·exact hI
  ·exact rx
  intro y25 hy25
  refine HO_extract (vs:=[_,_]) rfl rfl rfl rfl ?_
  refine HO_extract (vs:=[_,_]) rfl rfl rfl rfl ?_
  refine HO_store (i:=3) (j:=0) (us:=[]) (old:=[_,_]) (ts:=[]) (cs:=[_,_]) (R:=[_,_,_,_,_,_,_]) (new:=[_,_]) rfl rfl rfl Try.sizeOf56 rfl (by simp [Value.oneCell']) rfl rfl rfl rfl rfl rfl ?_
  refine HO_store (i:=3) (j:=0) (us:=[]) (old:=[_,_,_,_,_]) (ts:=[]) (cs:=[_,_,_,_,_]) (R:=[_,_,_,_,_,_,_]) (new:=[_,_,_,_,_]) rfl rfl rfl Try.sizeOf38 rfl (by simp [Value.oneCell']) rfl rfl rfl rfl rfl rfl ?_
  refine HO_nil ?_
  refine H_env (ρ':=[(7,_),(6,_)]) ⟨rfl,rfl,trivial⟩ ?_
  refine H_world (kp [yy,yy,yy,yy,nn,nn,nn,nn] [_,_,_,_] rfl) ?_
  refine H_nilDat kPair ?_
  have hap : (Mod.apply ps ss ix (⟨ki,cs,sq,ke,ol,cv,ti,li⟩ : Cmd)) = _:=Mod.ap_open h13 h19
  refine H_ret2 Try.results29 (.cell rfl (fun w hA => run_loadVarA (cs:=[_,_]) (Try.isAgg56 w) (Try.sizeOf56 w) (Tells.cells (.loc _ _ _) (hA.get (i:=2) rfl)))) (.cell rfl (fun w hA => run_loadVarA (cs:=[_,_,_,_,_]) (Try.isAgg38 w) (Try.sizeOf38 w) (Tells.cells (.loc _ _ _) (hA.get (i:=1) rfl)))) (fun w hA => ⟨((a1,c1),y25,(none,0)),congrArg Ending.returned ?_,?_,?_⟩)
  ·(first | (rw [hap];done) | (rw [hap];rfl))
  ·trivial
  ·(rw [hap];exact hA.only (is:=[2,3,0]) (Z:=[_,_]) rfl)
 intro h19
 replace h19:=dF h19
 refine H_skip ?_
 refine H_blk ?_
 refine H_seq ?_
 refine H_region (l:=[_,_,_,_,_,_,_,_,_,_]) rfl ?_
 refine HO_fieldAddr (r:=1) rfl rfl rfl Try.underlying56 rfl Try.sizeOf54 rfl ?_
 refine HO_load1 (i:=3) (j:=1) rfl rfl rfl Try.isAgg54 rfl (.loc _ _ _) rfl rfl ?_
 refine HO_fieldAddr (r:=1) rfl rfl rfl Try.underlying36 rfl Try.sizeOf3 rfl ?_
 refine HO_load1 (i:=2) (j:=1) rfl rfl rfl Try.isAgg3 rfl (.loc _ _ _) rfl rfl ?_
 refine HO_dup (i:=5) rfl rfl ?_
 refine HO_call (first:=[]) (capt:=[]) (is:=[0]) (R:=[_,_,_,_,_,_]) rfl rfl rfl rfl rfl Try.call59 rfl (findS_spec _ _ _ _ ?_ ?_) ?_
 ·exact hI.ss
 ·(have:=hI.sl;omega)
 intro y33 hy33
 clear y33 hy33
 refine HO_move rfl rfl rfl ?_
 refine HO_extract (vs:=[_,_]) rfl rfl rfl rfl ?_
 refine HO_extract (vs:=[_,_]) rfl rfl rfl rfl ?_
 iterate 2 refine HO_assign rfl rfl rfl ?_
 refine HO_nil ?_
 refine H_env (ρ':=[(9,_),(8,_),(7,_),(6,_),(5,_),(3,_)]) ⟨rfl,rfl,rfl,rfl,rfl,rfl,trivial⟩ ?_
 refine H_seq ?_
 refine H_seq ?_
 refine H_region (l:=[_,_]) rfl ?_
 refine HO_move rfl rfl rfl ?_
 refine HO_not rfl rfl rfl ?_
 refine HO_nil ?_
 refine H_env (ρ':=[(37,_),(8,_),(7,_),(6,_),(5,_),(3,_)]) ⟨rfl,rfl,rfl,rfl,rfl,rfl,trivial⟩ ?_
 refine H_cond rfl ?_ ?_
 ·intro h37
  replace h37:=nT h37
  have hx:=Mod.sget_no h37
  refine H_seq ?_
  refine H_drawB (m:=[nn,nn,yy,yy,yy,yy]) (Xs:=[_,_,_,_]) (fuel:=4) (l:=#[false,false,false,false]) mixed rfl rfl rfl ?_
  refine HA_take (i:=0) bp rfl rfl rfl rfl (by kernel_rfl) rfl (V_loadA (i:=1) (us:=[]) (cs:=[_,_]) (ts:=[]) rfl Try.isAgg56 Try.sizeOf56 rfl (.loc _ _ _) rfl rfl rfl rfl) (kp [nn,nn,yy,yy,yy,yy] [_,_,_,_] rfl) ?_
  refine HA_loud1 (i:=1) (by kernel_rfl) rfl ?_
  refine HO_call (first:=[]) (capt:=[]) (is:=[]) (R:=[_,_,_,_,_,_]) rfl rfl rfl rfl rfl Try.call57 rfl (failed_spec _) ?_
  intro y39 hy39
  clear y39 hy39
  refine HA_back rfl (kp [nn,nn,yy,yy,yy,yy] [_,_,_,_] rfl) ?_
  refine HA_loud1 (i:=2) (by kernel_rfl) rfl ?_
  refine HO_store (i:=1) (j:=0) (us:=[]) (old:=[_,_]) (ts:=[]) (cs:=[_,_]) (R:=[_,_,_,_,_]) (new:=[_,_]) rfl rfl rfl Try.sizeOf56 rfl (by simp [Value.oneCell']) rfl rfl rfl rfl rfl rfl ?_
  refine HA_back rfl (kp [nn,nn,yy,yy,yy,yy] [_,_,_,_] rfl) ?_
  refine HA_loud1 (i:=3) (by kernel_rfl) rfl ?_
  refine HO_store (i:=1) (j:=0) (us:=[]) (old:=[_,_,_,_,_]) (ts:=[]) (cs:=[_,_,_,_,_]) (R:=[_,_,_,_,_]) (new:=[_,_,_,_,_]) rfl rfl rfl Try.sizeOf38 rfl (by simp [Value.oneCell']) rfl rfl rfl rfl rfl rfl ?_
  refine HA_back rfl (kp [nn,nn,yy,yy,yy,yy] [_,_,_,_] rfl) ?_
  refine HA_done (by kernel_rfl) ?_
  refine H_env (ρ':=[(7,_),(6,_)]) ⟨rfl,rfl,trivial⟩ ?_
  refine H_world (kp [yy,yy,nn,nn,yy,yy] [_,_,_,_] rfl) ?_
  refine H_nilDat kPair ?_
  have hap : (Mod.apply ps ss ix (⟨ki,cs,sq,ke,ol,cv,ti,li⟩ : Cmd)) = _:=Mod.ap_none h13 h19 hx
  refine H_ret2 Try.results29 (.cell rfl (fun w hA => run_loadVarA (cs:=[_,_]) (Try.isAgg56 w) (Try.sizeOf56 w) (Tells.cells (.loc _ _ _) (hA.get (i:=2) rfl)))) (.cell rfl (fun w hA => run_loadVarA (cs:=[_,_,_,_,_]) (Try.isAgg38 w) (Try.sizeOf38 w) (Tells.cells (.loc _ _ _) (hA.get (i:=1) rfl)))) (fun w hA => ⟨((a1,c1),(a2,c2),(none,0)),congrArg Ending.returned ?_,?_,?_⟩)
  ·(first | (rw [hap];done) | (rw [hap];rfl))
  ·trivial
  ·(rw [hap];exact hA.only (is:=[2,3,0]) (Z:=[_,_]) rfl)
 intro h37
 replace h37:=nF h37
 refine H_skip ?_
 refine H_seq ?_
 refine H_seq ?_
 obtain ⟨z0,hz0⟩ : ∃ z,ss[soInt.rank Sess.id cs ss]? = some z:=⟨_,List.getElem?_eq_getElem (soInt.found_rank Sess.id h37)⟩
 have hx0:=Mod.sget_yes h37 hz0
 refine H_region (l:=[_,_,_]) rfl ?_
 refine HO_fieldAddr (r:=0) rfl rfl rfl Try.underlying36 rfl Try.sizeOf3 rfl ?_
 refine HO_load1 (i:=2) (j:=0) rfl rfl rfl Try.isAgg3 rfl (.loc _ _ _) rfl rfl ?_
 refine HO_bin rfl rfl rfl rfl bin_eql ?_
 refine HO_nil ?_
 refine H_env (ρ':=[(42,_),(8,_),(7,_),(6,_),(5,_),(3,_)]) ⟨rfl,rfl,rfl,rfl,rfl,rfl,trivial⟩ ?_
 refine H_cond rfl ?_ ?_
 ·intro h42
  replace h42:=dT h42
  refine H_seq ?_
  refine H_region (l:=[_,_,_,_,_,_,_]) rfl ?_
  refine HO_fieldAddr (r:=1) rfl rfl rfl Try.underlying56 rfl Try.sizeOf54 rfl ?_
  refine HO_load1 (i:=3) (j:=1) rfl rfl rfl Try.isAgg54 rfl (.loc _ _ _) rfl rfl ?_
  refine HO_fieldAddr (r:=1) rfl rfl rfl Try.underlying36 rfl Try.sizeOf3 rfl ?_
  refine HO_load1 (i:=2) (j:=1) rfl rfl rfl Try.isAgg3 rfl (.loc _ _ _) rfl rfl ?_
  refine HO_dup (i:=5) rfl rfl ?_
  refine HO_call (first:=[]) (capt:=[]) (is:=[0]) (R:=[_,_,_,_,_,_]) rfl rfl rfl rfl rfl Try.call61 rfl (withoutS_spec _ _ _ _ ?_ ?_) ?_
  ·exact hI.ss
  ·(have:=hI.sl;omega)
  intro y47 hy47
  refine HO_fieldAddr (r:=1) rfl rfl rfl Try.underlying56 rfl Try.sizeOf54 rfl ?_
  refine HO_store (i:=4) (j:=0) (us:=[_]) (old:=[_]) (ts:=[]) (cs:=[_]) (R:=[_,_,_,_,_,_]) (new:=[_,_]) rfl rfl rfl Try.sizeOf54 rfl (by simp [Value.oneCell']) rfl rfl rfl rfl rfl rfl ?_
  refine HO_nil ?_
  refine H_env (ρ':=[(7,_),(6,_),(3,_)]) ⟨rfl,rfl,rfl,trivial⟩ ?_
  refine H_world (kp [yy,yy,yy,yy,nn,yy,nn] [_,_,_,_,_] rfl) ?_
  refine H_seq ?_
  refine H_region (l:=[_,_,_,_]) rfl ?_
  refine HO_loadA (i:=0) (us:=[]) (cs:=[_,_]) (ts:=[]) rfl rfl rfl Try.isAgg56 Try.sizeOf56 rfl (.loc _ _ _) rfl rfl rfl rfl ?_
  refine HO_build (xo:=[]) (vs:=[]) rfl rfl rfl rfl (bd38__) ?_
  refine HO_store (i:=3) (j:=0) (us:=[]) (old:=[_,_]) (ts:=[]) (cs:=[_,_]) (R:=[_,_,_,_]) (new:=[_,_]) rfl rfl rfl Try.sizeOf56 rfl (by simp [Value.oneCell']) rfl rfl rfl rfl rfl rfl ?_
  refine HO_store (i:=3) (j:=0) (us:=[]) (old:=[_,_,_,_,_]) (ts:=[]) (cs:=[_,_,_,_,_]) (R:=[_,_,_,_]) (new:=[_,_,_,_,_]) rfl rfl rfl Try.sizeOf38 rfl (by simp [Value.oneCell']) rfl rfl rfl rfl rfl rfl ?_
  refine HO_nil ?_
  refine H_env (ρ':=[(7,_),(6,_)]) ⟨rfl,rfl,trivial⟩ ?_
  refine H_world (kp [yy,yy,nn,yy,yy] [_,_,_,_] rfl) ?_
  refine H_nilDat kPair ?_
  have hap : (Mod.apply ps ss ix (⟨ki,cs,sq,ke,ol,cv,ti,li⟩ : Cmd)) = _:=Mod.ap_end h13 h19 hx0 h42
  refine H_ret2 Try.results29 (.cell rfl (fun w hA => run_loadVarA (cs:=[_,_]) (Try.isAgg56 w) (Try.sizeOf56 w) (Tells.cells (.loc _ _ _) (hA.get (i:=2) rfl)))) (.cell rfl (fun w hA => run_loadVarA (cs:=[_,_,_,_,_]) (Try.isAgg38 w) (Try.sizeOf38 w) (Tells.cells (.loc _ _ _) (hA.get (i:=1) rfl)))) (fun w hA => ⟨((a1,c1),y47,(none,0)),congrArg Ending.returned ?_,?_,?_⟩)
  ·(first | (rw [hap];done) | (rw [hap];rfl))
  ·trivial
  ·(rw [hap];exact hA.only (is:=[2,2,0]) (Z:=[_,_]) rfl)
 intro h42
 replace h42:=dF h42
 refine H_skip ?_
 refine H_seq ?_
 refine H_seq ?_
 refine H_region (l:=[_,_,_,_,_,_,_]) rfl ?_
 refine HO_fieldAddr (r:=1) rfl rfl rfl Try.underlying56 rfl Try.sizeOf54 rfl ?_
 refine HO_load1 (i:=3) (j:=1) rfl rfl rfl Try.isAgg54 rfl (.loc _ _ _) rfl rfl ?_
 refine HO_move rfl rfl rfl ?_
 refine HO_indexAddr open_Sess (i:=5) rfl rfl rfl rfl rfl Try.underlying54 Try.sizeOf67 rfl ?_ ?_
 ·exact soInt.found_rank Sess.id h37
 intro b54 o54 z54 y54 hz54 hI54
 (try simp only [BIG] at hI54)
 refine HO_loadA (i:=0) (us:=[]) (cs:=[_,_,_,_,_,_,_]) (ts:=[]) rfl rfl rfl Try.isAgg67 Try.sizeOf67 rfl (.elem _ _ _) rfl rfl rfl rfl ?_
 refine HO_alloc (cs:=[_,_,_,_,_,_,_]) rfl rfl Try.zeroValue67 rfl ?_
 intro g10
 refine HO_store (i:=0) (j:=0) (us:=[]) (old:=[_,_,_,_,_,_,_]) (ts:=[]) (cs:=[_,_,_,_,_,_,_]) (R:=[_,_,_,_,_,_,_,_]) (new:=[_,_,_,_,_,_,_]) rfl rfl rfl Try.sizeOf67 rfl (by simp [Value.oneCell']) rfl rfl rfl rfl rfl rfl ?_
 refine HO_nil ?_
 refine H_env (ρ':=[(10,_),(7,_),(6,_),(5,_),(3,_)]) ⟨rfl,rfl,rfl,rfl,rfl,trivial⟩ ?_
 refine H_world (kp [yy,nn,yy,yy,yy,yy,yy,yy,yy] [_,_,_,_,_,_,_,_] rfl) ?_
 refine H_block ?_
 refine H_seq ?_
 have hx:=Mod.sget_yes h37 hz54
 refine H_region (l:=[_,_,_,_,_,_]) rfl ?_
 refine HO_fieldAddr (r:=2) rfl rfl rfl Try.underlying36 rfl Try.sizeOf3 rfl ?_
 refine HO_load1 (i:=4) (j:=2) rfl rfl rfl Try.isAgg3 rfl (.loc _ _ _) rfl rfl ?_
 refine HO_fieldAddr (r:=1) rfl rfl rfl Try.underlying67 rfl Try.sizeOf3 rfl ?_
 refine HO_load1 (i:=0) (j:=1) rfl rfl rfl Try.isAgg3 rfl (.loc _ _ _) rfl rfl ?_
 refine HO_bin rfl rfl rfl rfl bin_lss ?_
 refine HO_assign rfl rfl rfl ?_
 refine HO_nil ?_
 refine H_env (ρ':=[(56,_),(10,_),(7,_),(6,_),(5,_),(3,_)]) ⟨rfl,rfl,rfl,rfl,rfl,rfl,trivial⟩ ?_
 refine H_cond rfl ?_ ?_
 ·intro h56
  replace h56:=dT h56
  refine H_seq ?_
  refine H_drawB (m:=[yy,yy,nn,nn,yy,yy,yy,yy]) (Xs:=[_,_,_,_,_,_]) (fuel:=4) (l:=#[false,false,false,false]) mixed rfl rfl rfl ?_
  refine HA_take (i:=0) bp rfl rfl rfl rfl (by kernel_rfl) rfl (V_loadA (i:=3) (us:=[]) (cs:=[_,_]) (ts:=[]) rfl Try.isAgg56 Try.sizeOf56 rfl (.loc _ _ _) rfl rfl rfl rfl) (kp [yy,yy,nn,nn,yy,yy,yy,yy] [_,_,_,_,_,_] rfl) ?_
  refine HA_loud1 (i:=1) (by kernel_rfl) rfl ?_
  refine HO_call (first:=[]) (capt:=[]) (is:=[]) (R:=[_,_,_,_,_,_,_,_]) rfl rfl rfl rfl rfl Try.call57 rfl (failed_spec _) ?_
  intro y63 hy63
  clear y63 hy63
  refine HA_back rfl (kp [yy,yy,nn,nn,yy,yy,yy,yy] [_,_,_,_,_,_] rfl) ?_
  refine HA_loud1 (i:=2) (by kernel_rfl) rfl ?_
  refine HO_store (i:=3) (j:=0) (us:=[]) (old:=[_,_]) (ts:=[]) (cs:=[_,_]) (R:=[_,_,_,_,_,_,_]) (new:=[_,_]) rfl rfl rfl Try.sizeOf56 rfl (by simp [Value.oneCell']) rfl rfl rfl rfl rfl rfl ?_
  refine HA_back rfl (kp [nn,yy,yy,nn,yy,yy,yy,yy] [_,_,_,_,_,_] rfl) ?_
  refine HA_loud1 (i:=3) (by kernel_rfl) rfl ?_
  refine HO_store (i:=3) (j:=0) (us:=[]) (old:=[_,_,_,_,_]) (ts:=[]) (cs:=[_,_,_,_,_]) (R:=[_,_,_,_,_,_,_]) (new:=[_,_,_,_,_]) rfl rfl rfl Try.sizeOf38 rfl (by simp [Value.oneCell']) rfl rfl rfl rfl rfl rfl ?_
  refine HA_back rfl (kp [nn,nn,yy,yy,yy,yy,yy,yy] [_,_,_,_,_,_] rfl) ?_
  refine HA_done (by kernel_rfl) ?_
  refine H_env (ρ':=[(7,_),(6,_)]) ⟨rfl,rfl,trivial⟩ ?_
  refine H_world (kp [yy,yy,nn,nn,nn,nn,yy,yy] [_,_,_,_] rfl) ?_
  refine H_nilDat kPair ?_
  have hap : (Mod.apply ps ss ix (⟨ki,cs,sq,ke,ol,cv,ti,li⟩ : Cmd)) = _:=Mod.ap_old h13 h19 hx h42 h56
  refine H_ret2 Try.results29 (.cell rfl (fun w hA => run_loadVarA (cs:=[_,_]) (Try.isAgg56 w) (Try.sizeOf56 w) (Tells.cells (.loc _ _ _) (hA.get (i:=2) rfl)))) (.cell rfl (fun w hA => run_loadVarA (cs:=[_,_,_,_,_]) (Try.isAgg38 w) (Try.sizeOf38 w) (Tells.cells (.loc _ _ _) (hA.get (i:=1) rfl)))) (fun w hA => ⟨((a1,c1),(a2,c2),(none,0)),congrArg Ending.returned ?_,?_,?_⟩)
  ·(first | (rw [hap];done) | (rw [hap];rfl))
  ·trivial
  ·(rw [hap];exact hA.only (is:=[2,3,0]) (Z:=[_,_]) rfl)
 intro h56
 replace h56:=dF h56
 refine H_seq ?_
 refine H_region (l:=[_,_,_,_,_,_]) rfl ?_
 refine HO_fieldAddr (r:=2) rfl rfl rfl Try.underlying36 rfl Try.sizeOf3 rfl ?_
 refine HO_load1 (i:=4) (j:=2) rfl rfl rfl Try.isAgg3 rfl (.loc _ _ _) rfl rfl ?_
 refine HO_fieldAddr (r:=1) rfl rfl rfl Try.underlying67 rfl Try.sizeOf3 rfl ?_
 refine HO_load1 (i:=0) (j:=1) rfl rfl rfl Try.isAgg3 rfl (.loc _ _ _) rfl rfl ?_
 refine HO_bin rfl rfl rfl rfl bin_eql ?_
 refine HO_assign rfl rfl rfl ?_
 refine HO_nil ?_
 refine H_env (ρ':=[(64,_),(10,_),(7,_),(6,_),(5,_),(3,_)]) ⟨rfl,rfl,rfl,rfl,rfl,rfl,trivial⟩ ?_
 refine H_cond rfl ?_ ?_
 ·intro h64
  replace h64:=dT h64
  refine H_seq ?_
  refine H_drawB (m:=[yy,yy,nn,nn,yy,yy,yy,yy]) (Xs:=[_,_,_,_,_,_]) (fuel:=5) (l:=#[false,false,false,false,false]) mixed rfl rfl rfl ?_
  refine HA_take (i:=0) bp rfl rfl rfl rfl (by kernel_rfl) rfl (V_loadA (i:=3) (us:=[]) (cs:=[_,_]) (ts:=[]) rfl Try.isAgg56 Try.sizeOf56 rfl (.loc _ _ _) rfl rfl rfl rfl) (kp [yy,yy,nn,nn,yy,yy,yy,yy] [_,_,_,_,_,_] rfl) ?_
  refine HA_take (i:=1) bp rfl rfl rfl rfl (by kernel_rfl) rfl (V_fieldAddr (r:=2) rfl Try.underlying67 rfl Try.sizeOf38 rfl) (kp [yy,yy,nn,nn,yy,yy,yy,yy] [_,_,_,_,_,_] rfl) ?_
  refine HA_take (i:=2) bp rfl rfl rfl rfl (by kernel_rfl) rfl (V_loadA (i:=0) (us:=[_,_]) (cs:=[_,_,_,_,_]) (ts:=[]) rfl Try.isAgg38 Try.sizeOf38 rfl (.loc _ _ _) rfl rfl rfl rfl) (kp [yy,yy,nn,nn,yy,yy,yy,yy] [_,_,_,_,_,_] rfl) ?_
  refine HA_loud1 (i:=3) (by kernel_rfl) rfl ?_
  refine HO_store (i:=3) (j:=0) (us:=[]) (old:=[_,_]) (ts:=[]) (cs:=[_,_]) (R:=[_,_,_,_,_,_,_]) (new:=[_,_]) rfl rfl rfl Try.sizeOf56 rfl (by simp [Value.oneCell']) rfl rfl rfl rfl rfl rfl ?_
  refine HA_back rfl (kp [nn,yy,yy,nn,yy,yy,yy,yy] [_,_,_,_,_,_] rfl) ?_
  refine HA_loud1 (i:=4) (by kernel_rfl) rfl ?_
  refine HO_store (i:=3) (j:=0) (us:=[]) (old:=[_,_,_,_,_]) (ts:=[]) (cs:=[_,_,_,_,_]) (R:=[_,_,_,_,_,_,_]) (new:=[_,_,_,_,_]) rfl rfl rfl Try.sizeOf38 rfl (by simp [Value.oneCell']) rfl rfl rfl rfl rfl rfl ?_
  refine HA_back rfl (kp [nn,nn,yy,yy,yy,yy,yy,yy] [_,_,_,_,_,_] rfl) ?_
  refine HA_done (by kernel_rfl) ?_
  refine H_env (ρ':=[(7,_),(6,_)]) ⟨rfl,rfl,trivial⟩ ?_
  refine H_world (kp [yy,yy,nn,yy,nn,nn,yy,yy] [_,_,_,_,_] rfl) ?_
  have hap : (Mod.apply ps ss ix (⟨ki,cs,sq,ke,ol,cv,ti,li⟩ : Cmd)) = _:=Mod.ap_same h13 h19 hx h42 h64
  refine H_ret2 Try.results29 (.cell rfl (fun w hA => run_loadVarA (cs:=[_,_]) (Try.isAgg56 w) (Try.sizeOf56 w) (Tells.cells (.loc _ _ _) (hA.get (i:=1) rfl)))) (.cell rfl (fun w hA => run_loadVarA (cs:=[_,_,_,_,_]) (Try.isAgg38 w) (Try.sizeOf38 w) (Tells.cells (.loc _ _ _) (hA.get (i:=0) rfl)))) (fun w hA => ⟨((a1,c1),(a2,c2),y54),congrArg Ending.returned ?_,?_,?_⟩)
  ·(first | (rw [hap];done) | (rw [hap];rfl))
  ·trivial
  ·(rw [hap];exact hA.only (is:=[2,3,2]) (Z:=[_,_]) rfl)
 intro h64
 replace h64:=dF h64
 refine H_skip ?_
 refine H_blk ?_
 refine H_seq ?_
 refine H_datAll (i:=6) (J:=fun p => p.key.size≤BIG∧p.val.size≤BIG) rfl (fun _ _ _ _ h => h.1) (fun hsz => ?_)
 have hok:=Mod.doesR_ok (c:=(⟨ki,cs,sq,ke,ol,cv,ti,li⟩ : Cmd)) hsz hI.pl
 refine H_region (l:=[_,_,_,_,_,_,_,_,_,_]) rfl ?_
 refine HO_fieldAddr (r:=0) rfl rfl rfl Try.underlying56 rfl Try.sizeOf31 rfl ?_
 refine HO_load1 (i:=5) (j:=0) rfl rfl rfl Try.isAgg31 rfl (.loc _ _ _) rfl rfl ?_
 refine HO_loadA (i:=4) (us:=[]) (cs:=[_,_,_,_,_,_,_,_]) (ts:=[]) rfl rfl rfl Try.isAgg36 Try.sizeOf36 rfl (.loc _ _ _) rfl rfl rfl rfl ?_
 refine HO_dup (i:=6) rfl rfl ?_
 refine HO_call (first:=[]) (capt:=[]) (is:=[0]) (R:=[_,_,_,_,_,_,_,_]) rfl rfl rfl rfl rfl Try.call62 rfl (does_spec _ _ _ _ _ _ _ _ _ _ _ ?_ ?_ ?_ ?_ ?_) ?_
 ·exact hI.ps
 ·exact hI.pl
 ·exact sk
 ·exact sc
 ·exact fun h7 => Mod.good_lim (c:=(⟨ki,cs,sq,ke,ol,cv,ti,li⟩ : Cmd)) h13 h7
 intro y77 hy77
 refine HO_move rfl rfl rfl ?_
 refine HO_extract (vs:=[_,_]) rfl rfl rfl rfl ?_
 refine HO_extract (vs:=[_,_]) rfl rfl rfl rfl ?_
 refine HO_alloc (cs:=[_,_,_,_,_]) rfl rfl Try.zeroValue38 rfl ?_
 intro g12
 refine HO_assign rfl rfl rfl ?_
 refine HO_store (i:=0) (j:=0) (us:=[]) (old:=[_,_,_,_,_]) (ts:=[]) (cs:=[_,_,_,_,_]) (R:=[_,_,_,_,_,_,_,_,_,_]) (new:=[_,_,_,_,_]) rfl rfl rfl Try.sizeOf38 rfl (by simp [Value.oneCell']) rfl rfl rfl rfl rfl rfl ?_
 refine HO_nil ?_
 refine H_env (ρ':=[(11,_),(12,_),(7,_),(6,_),(5,_),(3,_)]) ⟨rfl,rfl,rfl,rfl,rfl,rfl,trivial⟩ ?_
 refine H_world (kp [yy,yy,yy,nn,nn,yy,yy,yy,yy,yy,yy] [_,_,_,_,_,_,_,_,_] rfl) ?_
 refine H_seq ?_
 refine H_drawB (m:=[yy,yy,yy,nn,nn,yy,yy,yy,yy]) (Xs:=[_,_,_,_,_,_,_]) (fuel:=14) (l:=#[false,false,false,false,false,false,false,false,false,false,false,false,false,false]) mixed rfl rfl rfl ?_
 refine HA_take (i:=0) bp rfl rfl rfl rfl (by kernel_rfl) rfl (V_move rfl) (kp [yy,yy,yy,nn,nn,yy,yy,yy,yy] [_,_,_,_,_,_,_] rfl) ?_
 refine HA_take (i:=1) bp rfl rfl rfl rfl (by kernel_rfl) rfl (V_fieldAddr (r:=1) rfl Try.underlying56 rfl Try.sizeOf54 rfl) (kp [yy,yy,yy,nn,nn,yy,yy,yy,yy] [_,_,_,_,_,_,_] rfl) ?_
 refine HA_take (i:=2) bp rfl rfl rfl rfl (by kernel_rfl) rfl (V_load1 (i:=4) (j:=1) rfl Try.isAgg54 rfl (.loc _ _ _) rfl rfl) (kp [yy,yy,yy,nn,nn,yy,yy,yy,yy] [_,_,_,_,_,_,_] rfl) ?_
 refine HA_take (i:=3) bp rfl rfl rfl rfl (by kernel_rfl) rfl (V_fieldAddr (r:=1) rfl Try.underlying36 rfl Try.sizeOf3 rfl) (kp [yy,yy,yy,nn,nn,yy,yy,yy,yy] [_,_,_,_,_,_,_] rfl) ?_
 refine HA_take (i:=4) bp rfl rfl rfl rfl (by kernel_rfl) rfl (V_load1 (i:=3) (j:=1) rfl Try.isAgg3 rfl (.loc _ _ _) rfl rfl) (kp [yy,yy,yy,nn,nn,yy,yy,yy,yy] [_,_,_,_,_,_,_] rfl) ?_
 refine HA_take (i:=5) bp rfl rfl rfl rfl (by kernel_rfl) rfl (V_fieldAddr (r:=2) rfl Try.underlying36 rfl Try.sizeOf3 rfl) (kp [yy,yy,yy,nn,nn,yy,yy,yy,yy] [_,_,_,_,_,_,_] rfl) ?_
 refine HA_take (i:=6) bp rfl rfl rfl rfl (by kernel_rfl) rfl (V_load1 (i:=3) (j:=2) rfl Try.isAgg3 rfl (.loc _ _ _) rfl rfl) (kp [yy,yy,yy,nn,nn,yy,yy,yy,yy] [_,_,_,_,_,_,_] rfl) ?_
 refine HA_take (i:=7) bp rfl rfl rfl rfl (by kernel_rfl) rfl (V_loadA (i:=0) (us:=[]) (cs:=[_,_,_,_,_]) (ts:=[]) rfl Try.isAgg38 Try.sizeOf38 rfl (.loc _ _ _) rfl rfl rfl rfl) (kp [yy,yy,yy,nn,nn,yy,yy,yy,yy] [_,_,_,_,_,_,_] rfl) ?_
 refine HA_take (i:=8) bp rfl rfl rfl rfl (by kernel_rfl) rfl (V_build (xo:=[(0,_),(1,_),(2,_)]) (vs:=[_,_,_]) rfl rfl (bd67_0_1_2_iiAiotisE)) (kp [yy,yy,yy,nn,nn,yy,yy,yy,yy] [_,_,_,_,_,_,_] rfl) ?_
 refine HA_take (i:=11) bp rfl rfl rfl rfl (by kernel_rfl) rfl (V_loadA (i:=0) (us:=[]) (cs:=[_,_,_,_,_]) (ts:=[]) rfl Try.isAgg38 Try.sizeOf38 rfl (.loc _ _ _) rfl rfl rfl rfl) (kp [yy,yy,yy,nn,nn,yy,yy,yy,yy] [_,_,_,_,_,_,_] rfl) ?_
 refine HA_loud1 (i:=9) (by kernel_rfl) rfl ?_
 refine HO_dup (i:=8) rfl rfl ?_
 refine HO_dup (i:=3) rfl rfl ?_
 refine HO_call (first:=[]) (capt:=[]) (is:=[0,0]) (R:=[_,_,_,_,_,_,_,_,_]) rfl rfl rfl rfl rfl Try.call63 rfl (withS_spec _ _ _ _ _ _ _ _ _ _ _ _ ?_ ?_ ?_ ?_ ?_ ?_ ?_ ?_) ?_
 ·exact hI.ss
 ·(have:=hI.sl;omega)
 ·exact rc
 ·exact rq
 ·exact hok.e
 ·exact hok.v
 ·exact hok.s
 ·exact hok.p
 intro y89 hy89
 refine HA_back rfl (kp [nn,yy,yy,yy,nn,nn,yy,yy,yy,yy] [_,_,_,_,_,_,_] rfl) ?_
 refine HA_take (i:=10) bp rfl rfl rfl rfl (by kernel_rfl) rfl (V_build (xo:=[(0,_),(1,_)]) (vs:=[_,_]) rfl rfl (bd56_0_1_ss)) (kp [nn,yy,yy,yy,nn,nn,yy,yy,yy,yy] [_,_,_,_,_,_,_] rfl) ?_
 refine HA_loud1 (i:=12) (by kernel_rfl) rfl ?_
 refine HO_store (i:=5) (j:=0) (us:=[]) (old:=[_,_]) (ts:=[]) (cs:=[_,_]) (R:=[_,_,_,_,_,_,_,_,_]) (new:=[_,_]) rfl rfl rfl Try.sizeOf56 rfl (by simp [Value.oneCell']) rfl rfl rfl rfl rfl rfl ?_
 refine HA_back rfl (kp [nn,nn,yy,yy,yy,nn,yy,yy,yy,yy] [_,_,_,_,_,_,_] rfl) ?_
 refine HA_loud1 (i:=13) (by kernel_rfl) rfl ?_
 refine HO_store (i:=5) (j:=0) (us:=[]) (old:=[_,_,_,_,_]) (ts:=[]) (cs:=[_,_,_,_,_]) (R:=[_,_,_,_,_,_,_,_,_]) (new:=[_,_,_,_,_]) rfl rfl rfl Try.sizeOf38 rfl (by simp [Value.oneCell']) rfl rfl rfl rfl rfl rfl ?_
 refine HA_back rfl (kp [nn,nn,nn,yy,yy,yy,yy,yy,yy,yy] [_,_,_,_,_,_,_] rfl) ?_
 refine HA_done (by kernel_rfl) ?_
 refine H_env (ρ':=[(7,_),(6,_)]) ⟨rfl,rfl,trivial⟩ ?_
 refine H_world (kp [yy,yy,yy,nn,yy,yy,nn,nn,nn,nn] [_,_,_,_,_] rfl) ?_
 have hap : (Mod.apply ps ss ix (⟨ki,cs,sq,ke,ol,cv,ti,li⟩ : Cmd)) = _:=Mod.ap_does h13 h19 hx h42 h56 h64
 refine H_ret2 Try.results29 (.cell rfl (fun w hA => run_loadVarA (cs:=[_,_]) (Try.isAgg56 w) (Try.sizeOf56 w) (Tells.cells (.loc _ _ _) (hA.get (i:=1) rfl)))) (.cell rfl (fun w hA => run_loadVarA (cs:=[_,_,_,_,_]) (Try.isAgg38 w) (Try.sizeOf38 w) (Tells.cells (.loc _ _ _) (hA.get (i:=0) rfl)))) (fun w hA => ⟨(y77.1,y89,y77.2),congrArg Ending.returned ?_,?_,?_⟩)
 ·(first | (rw [hap];done) | (rw [hap];rfl))
 ·trivial
 ·(rw [hap];exact hA.only (is:=[2,2,4]) (Z:=[_,_]) rfl)
theorem query_spec (ps : List Pair) (a1 : Option Addr) (c1 : Nat) (a2 : Option Addr) (n2 c2 : Nat) (ki cs sq : Int) (ke ol cv ti : ByteArray) (li : Int) (hs : soStr.Srt Pair.key ps) (hl : ps.length≤2000) (sk : ke.size≤BIG) (sc : cv.size≤BIG) : Spec Try.prog 31 #[.agg #[.slice a1 (ps.length) c1,.slice a2 (n2) c2],.agg #[.int .i64 (ki),.int .i64 (cs),.int .i64 (sq),.string (ke),.string (ol),.string (cv),.string (ti),.int .i64 (li)]] [.dat kPair.sl (ps) [.slice a1 (ps.length) c1]] (β:=Option Addr × Nat) (fun y => .agg #[.int .i64 ((Mod.query ps (⟨ki,cs,sq,ke,ol,cv,ti,li⟩ : Cmd)).err),.bool ((Mod.query ps (⟨ki,cs,sq,ke,ol,cv,ti,li⟩ : Cmd)).found),.string ((Mod.query ps (⟨ki,cs,sq,ke,ol,cv,ti,li⟩ : Cmd)).val),.int .i64 ((Mod.query ps (⟨ki,cs,sq,ke,ol,cv,ti,li⟩ : Cmd)).sess),.slice y.1 (((Mod.query ps (⟨ki,cs,sq,ke,ol,cv,ti,li⟩ : Cmd)).pairs).length) y.2]) (fun y => True) (fun y => [.dat kPair.sl ((Mod.query ps (⟨ki,cs,sq,ke,ol,cv,ti,li⟩ : Cmd)).pairs) [.slice y.1 (((Mod.query ps (⟨ki,cs,sq,ke,ol,cv,ti,li⟩ : Cmd)).pairs).length) y.2]]):=by
 refine Spec.enter (vs:=[_,_]) Try.func31 rfl Try.ntmps31 rfl (Nat.le_of_ble_eq_true rfl) (fun w0 ok0 => ?_)
 generalize hM0 : blks _ = M0
 have hMn:=@noM _ _ hM0 (by simp [Atom.dat,Atom.elem])
 refine H_len_le (i:=0) rfl ?_
 intro hlen0
 refine H_seq ?_
 refine H_region (l:=[_,_,_]) rfl ?_
 refine HO_box (cs:=[_,_]) rfl rfl rfl rfl ?_
 intro g2
 refine HO_box (cs:=[_,_,_,_,_,_,_,_]) rfl rfl rfl rfl ?_
 intro g3
 refine HO_alloc (cs:=[_,_,_,_,_]) rfl rfl Try.zeroValue38 rfl ?_
 intro g4
 refine HO_nil ?_
 refine H_env (ρ':=[(4,_),(3,_),(2,_)]) ⟨rfl,rfl,rfl,trivial⟩ ?_
 refine H_seq ?_
 refine H_seq ?_
 refine H_region (l:=[_,_,_]) rfl ?_
 refine HO_loadA (i:=1) (us:=[]) (cs:=[_,_,_,_,_,_,_,_]) (ts:=[]) rfl rfl rfl Try.isAgg36 Try.sizeOf36 rfl (.loc _ _ _) rfl rfl rfl rfl ?_
 refine HO_call (first:=[]) (capt:=[]) (is:=[]) (R:=[_,_,_,_]) rfl rfl rfl rfl rfl Try.call64 rfl (reads_spec _ _ _ _ _ _ _ _) ?_
 intro y8 hy8
 clear y8 hy8
 refine HO_not rfl rfl rfl ?_
 refine HO_nil ?_
 refine H_env (ρ':=[(9,_),(4,_),(3,_),(2,_)]) ⟨rfl,rfl,rfl,rfl,trivial⟩ ?_
 refine H_cond rfl ?_ ?_
 ·intro h9
  replace h9:=nT h9
  refine H_seq ?_
  refine H_region (l:=[_,_]) rfl ?_
  refine HO_call (first:=[]) (capt:=[]) (is:=[]) (R:=[_,_,_,_]) rfl rfl rfl rfl rfl Try.call57 rfl (failed_spec _) ?_
  intro y10 hy10
  clear y10 hy10
  refine HO_store (i:=0) (j:=0) (us:=[]) (old:=[_,_,_,_,_]) (ts:=[]) (cs:=[_,_,_,_,_]) (R:=[_,_,_]) (new:=[_,_,_,_,_]) rfl rfl rfl Try.sizeOf38 rfl (by simp [Value.oneCell']) rfl rfl rfl rfl rfl rfl ?_
  refine HO_nil ?_
  refine H_env (ρ':=[(4,_)]) ⟨rfl,trivial⟩ ?_
  refine H_world (kp [yy,nn,nn,nn] [_] rfl) ?_
  refine H_nilDat kPair ?_
  have hq : (Mod.query ps (⟨ki,cs,sq,ke,ol,cv,ti,li⟩ : Cmd)) = Mod.err 2:=if_pos h9
  refine H_ret1 Try.results31 (.cell rfl (fun w hA => run_loadVarA (cs:=[_,_,_,_,_]) (Try.isAgg38 w) (Try.sizeOf38 w) (Tells.cells (.loc _ _ _) (hA.get (i:=1) rfl)))) (fun w hA => ⟨(none,0),congrArg Ending.returned ?_,?_,?_⟩)
  ·(first | (rw [hq];done) | (rw [hq];rfl))
  ·trivial
  ·(rw [hq];exact hA.keep (m:=[yy,nn]) (Y:=[_]) rfl)
 intro h9
 replace h9:=nF h9
 refine H_skip ?_
 refine H_seq ?_
 refine H_region (l:=[_,_,_,_,_,_,_,_,_,_]) rfl ?_
 refine HO_fieldAddr (r:=0) rfl rfl rfl Try.underlying56 rfl Try.sizeOf31 rfl ?_
 refine HO_load1 (i:=2) (j:=0) rfl rfl rfl Try.isAgg31 rfl (.loc _ _ _) rfl rfl ?_
 refine HO_loadA (i:=1) (us:=[]) (cs:=[_,_,_,_,_,_,_,_]) (ts:=[]) rfl rfl rfl Try.isAgg36 Try.sizeOf36 rfl (.loc _ _ _) rfl rfl rfl rfl ?_
 refine HO_dup (i:=3) rfl rfl ?_
 refine HO_call (first:=[]) (capt:=[]) (is:=[0]) (R:=[_,_,_,_]) rfl rfl rfl rfl rfl Try.call62 rfl (does_spec _ _ _ _ _ _ _ _ _ _ _ ?_ ?_ ?_ ?_ ?_) ?_
 ·exact hs
 ·exact hl
 ·exact sk
 ·exact sc
 ·exact fun h7 => Mod.reads_lim (c:=(⟨ki,cs,sq,ke,ol,cv,ti,li⟩ : Cmd)) h9 h7
 intro y15 hy15
 refine HO_move rfl rfl rfl ?_
 refine HO_extract (vs:=[_,_]) rfl rfl rfl rfl ?_
 refine HO_extract (vs:=[_,_]) rfl rfl rfl rfl ?_
 refine HO_alloc (cs:=[_,_,_,_,_]) rfl rfl Try.zeroValue38 rfl ?_
 intro g6
 refine HO_assign rfl rfl rfl ?_
 refine HO_store (i:=0) (j:=0) (us:=[]) (old:=[_,_,_,_,_]) (ts:=[]) (cs:=[_,_,_,_,_]) (R:=[_,_,_,_,_,_]) (new:=[_,_,_,_,_]) rfl rfl rfl Try.sizeOf38 rfl (by simp [Value.oneCell']) rfl rfl rfl rfl rfl rfl ?_
 refine HO_nil ?_
 refine H_env (ρ':=[(6,_),(4,_)]) ⟨rfl,rfl,trivial⟩ ?_
 refine H_world (kp [yy,nn,yy,yy,nn,nn,nn] [_,_,_] rfl) ?_
 refine H_seq ?_
 refine H_region (l:=[_,_]) rfl ?_
 refine HO_loadA (i:=0) (us:=[]) (cs:=[_,_,_,_,_]) (ts:=[]) rfl rfl rfl Try.isAgg38 Try.sizeOf38 rfl (.loc _ _ _) rfl rfl rfl rfl ?_
 refine HO_store (i:=2) (j:=0) (us:=[]) (old:=[_,_,_,_,_]) (ts:=[]) (cs:=[_,_,_,_,_]) (R:=[_,_]) (new:=[_,_,_,_,_]) rfl rfl rfl Try.sizeOf38 rfl (by simp [Value.oneCell']) rfl rfl rfl rfl rfl rfl ?_
 refine HO_nil ?_
 refine H_env (ρ':=[(4,_)]) ⟨rfl,trivial⟩ ?_
 refine H_world (kp [yy,nn,yy] [_,_] rfl) ?_
 have hq : (Mod.query ps (⟨ki,cs,sq,ke,ol,cv,ti,li⟩ : Cmd)) = Mod.doesR ps (⟨ki,cs,sq,ke,ol,cv,ti,li⟩ : Cmd):=if_neg (by rw [h9];decide)
 refine H_ret1 Try.results31 (.cell rfl (fun w hA => run_loadVarA (cs:=[_,_,_,_,_]) (Try.isAgg38 w) (Try.sizeOf38 w) (Tells.cells (.loc _ _ _) (hA.get (i:=0) rfl)))) (fun w hA => ⟨y15.2,congrArg Ending.returned ?_,?_,?_⟩)
 ·(rw [hq])
 ·trivial
 ·(rw [hq];exact hA.keep (m:=[nn,yy]) (Y:=[_]) rfl)
end Go.Wk
