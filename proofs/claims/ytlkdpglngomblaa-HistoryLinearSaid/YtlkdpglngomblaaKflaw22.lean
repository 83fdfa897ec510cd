/- Contracts of the program's functions, each proved by walking its code. -/
import Derived.Test.YtlkdpglngomblaaKfhist2
import Derived.Test.YtlkdpglngomblaaHist2
import Derived.Test.YtlkdpglngomblaaWk21
set_option maxRecDepth 100000
set_option linter.unusedVariables false
set_option linter.unusedSimpArgs false
namespace Go.Wk.Flaw22
open Go Go.RowKit Go.Proofs Go.Wk
theorem elt40 : Elt Try.prog 40 (.agg #[.int .i64 (0),.int .i64 (0),.int .i64 (0),.string (⟨#[]⟩),.string (⟨#[]⟩),.string (⟨#[]⟩),.string (⟨#[]⟩),.int .i64 (0),.int .i64 (0),.bool (false),.string (⟨#[]⟩),.int .i64 (0),.slice none 0 0,.int .i64 (0),.int .i64 (0),.int .i64 (0),.bool (false)]) 17 192:=Elt.of (by kernel_rfl) (by rfl) (by decide) (by decide)
theorem elt44 : Elt Try.prog 44 (.agg #[.int .i64 (0),.int .i64 (0),.int .i64 (0),.int .i64 (0),.int .i64 (0),.int .i64 (0),.string (⟨#[]⟩),.string (⟨#[]⟩),.string (⟨#[]⟩),.string (⟨#[]⟩),.int .i64 (0),.slice none 0 0,.slice none 0 0]) 13 168:=Elt.of (by kernel_rfl) (by rfl) (by decide) (by decide)
theorem bd36_0_1_2_3_5_iiitt {x1 : Int} {x2 : Int} {x3 : Int} {x4 : ByteArray} {x5 : ByteArray} : ∀ w,(Instr.build 36 (List.toArray (List.zip [0,1,2,3,5] [.int .i64 x1,.int .i64 x2,.int .i64 x3,.string x4,.string x5]))).run Try.prog w = .ok (.agg #[.int .i64 x1,.int .i64 x2,.int .i64 x3,.string x4,.string (⟨#[]⟩),.string x5,.string (⟨#[]⟩),.int .i64 (0)]) w:=fun _ => by kernel_rfl
theorem bd36_0_3_it {x1 : Int} {x2 : ByteArray} : ∀ w,(Instr.build 36 (List.toArray (List.zip [0,3] [.int .i64 x1,.string x2]))).run Try.prog w = .ok (.agg #[.int .i64 x1,.int .i64 (0),.int .i64 (0),.string x2,.string (⟨#[]⟩),.string (⟨#[]⟩),.string (⟨#[]⟩),.int .i64 (0)]) w:=fun _ => by kernel_rfl
theorem bd36_0_i {x1 : Int} : ∀ w,(Instr.build 36 (List.toArray (List.zip [0] [.int .i64 x1]))).run Try.prog w = .ok (.agg #[.int .i64 x1,.int .i64 (0),.int .i64 (0),.string (⟨#[]⟩),.string (⟨#[]⟩),.string (⟨#[]⟩),.string (⟨#[]⟩),.int .i64 (0)]) w:=fun _ => by kernel_rfl
theorem bd38_1_2_ot {x1 : Bool} {x2 : ByteArray} : ∀ w,(Instr.build 38 (List.toArray (List.zip [1,2] [.bool x1,.string x2]))).run Try.prog w = .ok (.agg #[.int .i64 (0),.bool x1,.string x2,.int .i64 (0),.slice none 0 0]) w:=fun _ => by kernel_rfl
theorem bd40_0_2_3_4_AiiittttiEiii {x2 : Int} {x3 : Int} {x4 : Int} {x5 : ByteArray} {x6 : ByteArray} {x7 : ByteArray} {x8 : ByteArray} {x9 : Int} {x10 : Int} {x11 : Int} {x12 : Int} : ∀ w,(Instr.build 40 (List.toArray (List.zip [0,2,3,4] [.agg #[.int .i64 x2,.int .i64 x3,.int .i64 x4,.string x5,.string x6,.string x7,.string x8,.int .i64 x9],.int .i64 x10,.int .i64 x11,.int .i64 x12]))).run Try.prog w = .ok (.agg #[.int .i64 x2,.int .i64 x3,.int .i64 x4,.string x5,.string x6,.string x7,.string x8,.int .i64 x9,.int .i64 (0),.bool (false),.string (⟨#[]⟩),.int .i64 (0),.slice none 0 0,.int .i64 x10,.int .i64 x11,.int .i64 x12,.bool (false)]) w:=fun _ => by kernel_rfl
theorem bd40_0_2_3_4_5_AiiittttiEiiio {x2 : Int} {x3 : Int} {x4 : Int} {x5 : ByteArray} {x6 : ByteArray} {x7 : ByteArray} {x8 : ByteArray} {x9 : Int} {x10 : Int} {x11 : Int} {x12 : Int} {x13 : Bool} : ∀ w,(Instr.build 40 (List.toArray (List.zip [0,2,3,4,5] [.agg #[.int .i64 x2,.int .i64 x3,.int .i64 x4,.string x5,.string x6,.string x7,.string x8,.int .i64 x9],.int .i64 x10,.int .i64 x11,.int .i64 x12,.bool x13]))).run Try.prog w = .ok (.agg #[.int .i64 x2,.int .i64 x3,.int .i64 x4,.string x5,.string x6,.string x7,.string x8,.int .i64 x9,.int .i64 (0),.bool (false),.string (⟨#[]⟩),.int .i64 (0),.slice none 0 0,.int .i64 x10,.int .i64 x11,.int .i64 x12,.bool x13]) w:=fun _ => by kernel_rfl
theorem bd44_0_2_3_iiAiiittttiE {x1 : Int} {x2 : Int} {x4 : Int} {x5 : Int} {x6 : Int} {x7 : ByteArray} {x8 : ByteArray} {x9 : ByteArray} {x10 : ByteArray} {x11 : Int} : ∀ w,(Instr.build 44 (List.toArray (List.zip [0,2,3] [.int .i64 x1,.int .i64 x2,.agg #[.int .i64 x4,.int .i64 x5,.int .i64 x6,.string x7,.string x8,.string x9,.string x10,.int .i64 x11]]))).run Try.prog w = .ok (.agg #[.int .i64 x1,.int .i64 (0),.int .i64 x2,.int .i64 x4,.int .i64 x5,.int .i64 x6,.string x7,.string x8,.string x9,.string x10,.int .i64 x11,.slice none 0 0,.slice none 0 0]) w:=fun _ => by kernel_rfl
end Go.Wk.Flaw22
namespace Go.Wk
open Go Go.RowKit Go.Proofs Flaw22 
theorem heavy22_spec (log : List Ent) (a8 : Option Addr) (c8 : Nat) (ops : List Op) (a9 : Option Addr) (c9 : Nat)  : Spec Try.prog 14 #[.slice a8 (log.length) c8,.slice a9 (ops.length) c9] [.dat kEnt.sl (log) [.slice a8 (log.length) c8],.dat kOp.sl (ops) [.slice a9 (ops.length) c9]] (β:=Bool) (fun y => .bool (y)) (fun y => (y = false→log.length≤200∧ops.length≤240)) (fun y => []):=by
 refine Spec.enter (vs:=[_,_]) Try.func14 rfl Try.ntmps14 rfl (Nat.le_of_ble_eq_true rfl) (fun w0 ok0 => ?_)
 generalize hM0 : blks _ = M0
 have hMn:=@noM _ _ hM0 (by simp [Atom.dat,Atom.elem])
 refine H_len_le (i:=0) rfl ?_
 intro hlen0
 refine H_len_le (i:=1) rfl ?_
 intro hlen1
 refine H_seq ?_
 refine H_region (l:=[_]) rfl ?_
 refine HO_assign rfl rfl rfl ?_
 refine HO_nil ?_
 refine H_env (ρ':=[(0,_),(1,_)]) ⟨rfl,rfl,trivial⟩ ?_
 refine H_seq ?_
 refine H_region (l:=[_]) rfl ?_
 refine HO_assign rfl rfl rfl ?_
 refine HO_nil ?_
 refine H_seq ?_
 refine H_seq ?_
 refine H_region (l:=[_,_,_]) rfl ?_
 refine HO_move rfl rfl rfl ?_
 refine HO_bi rfl rfl rfl (bi_len_sl Try.underlying22) ?_
 refine HO_move rfl rfl rfl ?_
 refine HO_nil ?_
 refine H_env (ρ':=[(13,_),(12,_),(11,_),(5,_),(1,_)]) ⟨rfl,rfl,rfl,rfl,rfl,trivial⟩ ?_
 refine H_block ?_
 refine H_loop (σ:=Nat × Int) (fun s => s.1≤log.length∧(s.1 : Int)≤s.2∧s.2≤120) (fun s => [(1,.slice a9 (ops.length) c9),(5,.int .i64 (s.2)),(11,.slice a8 (log.length) c8),(12,.int .i64 ((log.length : Int))),(13,.int .i64 ((s.1 : Int)))]) (fun s => Asn w0 ok0 M0 [.dat kOp.sl (ops) [.slice a9 (ops.length) c9],.dat kEnt.sl (log) [.slice a8 (log.length) c8]]) (fun s => log.length - s.1) ⟨0,0⟩ ?_ ?_ ?_ ?_
 ·exact ⟨Nat.zero_le _,by decide,by decide⟩
 ·exact ⟨rfl,rfl,rfl,rfl,rfl,trivial⟩
 ·intro w hA
  exact hA.only (is:=[0,0]) (Z:=[]) rfl
 ·rintro ⟨i,n⟩ hI
  (try dsimp only at hI ⊢)
  refine H_seq ?_
  refine H_region (l:=[_]) rfl ?_
  refine HO_bin rfl rfl rfl rfl bin_lss ?_
  refine HO_nil ?_
  refine H_seq ?_
  refine H_cond rfl ?_ ?_
  ·intro h14
   replace h14:=dT h14
   refine H_skip ?_
   refine H_seq ?_
   refine H_block ?_
   refine H_seq ?_
   refine H_region (l:=[_,_,_,_]) rfl ?_
   refine HO_indexAddr open_Ent (i:=1) rfl rfl rfl rfl rfl Try.underlying22 Try.sizeOf44 rfl ?_ ?_
   ·omega
   intro b15 o15 z15 y15 hz15 hI15
   (try simp only [BIG] at hI15)
   refine HO_loadA (i:=0) (us:=[]) (cs:=[_,_,_,_,_,_,_,_,_,_,_,_,_]) (ts:=[]) rfl rfl rfl Try.isAgg44 Try.sizeOf44 rfl (.elem _ _ _) rfl rfl rfl rfl ?_
   refine HO_alloc (cs:=[_,_,_,_,_,_,_,_,_,_,_,_,_]) rfl rfl Try.zeroValue44 rfl ?_
   intro g7
   refine HO_store (i:=0) (j:=0) (us:=[]) (old:=[_,_,_,_,_,_,_,_,_,_,_,_,_]) (ts:=[]) (cs:=[_,_,_,_,_,_,_,_,_,_,_,_,_]) (R:=[_,_,_,_,_]) (new:=[_,_,_,_,_,_,_,_,_,_,_,_,_]) rfl rfl rfl Try.sizeOf44 rfl (by simp [Value.oneCell']) rfl rfl rfl rfl rfl rfl ?_
   refine HO_nil ?_
   refine H_env (ρ':=[(7,_),(1,_),(5,_),(11,_),(12,_),(13,_)]) ⟨rfl,rfl,rfl,rfl,rfl,rfl,trivial⟩ ?_
   refine H_world (kp [yy,nn,yy,yy,yy,yy] [_,_,_,_,_] rfl) ?_
   refine H_seq ?_
   refine H_region (l:=[_,_,_,_]) rfl ?_
   refine HO_fieldAddr (r:=3) rfl rfl rfl Try.underlying44 rfl Try.sizeOf36 rfl ?_
   refine HO_loadA (i:=0) (us:=[_,_,_]) (cs:=[_,_,_,_,_,_,_,_]) (ts:=[_,_]) rfl rfl rfl Try.isAgg36 Try.sizeOf36 rfl (.loc _ _ _) rfl rfl rfl rfl ?_
   refine HO_alloc (cs:=[_,_,_,_,_,_,_,_]) rfl rfl Try.zeroValue36 rfl ?_
   intro g8
   refine HO_store (i:=0) (j:=0) (us:=[]) (old:=[_,_,_,_,_,_,_,_]) (ts:=[]) (cs:=[_,_,_,_,_,_,_,_]) (R:=[_,_,_,_,_]) (new:=[_,_,_,_,_,_,_,_]) rfl rfl rfl Try.sizeOf36 rfl (by simp [Value.oneCell']) rfl rfl rfl rfl rfl rfl ?_
   refine HO_nil ?_
   refine H_env (ρ':=[(8,_),(1,_),(5,_),(11,_),(12,_),(13,_)]) ⟨rfl,rfl,rfl,rfl,rfl,rfl,trivial⟩ ?_
   refine H_world (kp [yy,nn,nn,nn,yy,yy] [_,_,_] rfl) ?_
   refine H_seq ?_
   refine H_region (l:=[_,_,_,_,_,_,_,_,_,_,_,_,_,_,_,_,_,_,_,_]) rfl ?_
   refine HO_move rfl rfl rfl ?_
   refine HO_fieldAddr (r:=3) rfl rfl rfl Try.underlying36 rfl Try.sizeOf9 rfl ?_
   refine HO_load1 (i:=0) (j:=3) rfl rfl rfl Try.isAgg9 rfl (.loc _ _ _) rfl rfl ?_
   refine HO_bi rfl rfl rfl (bi_len_str Try.underlying9) ?_
   refine HO_fieldAddr (r:=4) rfl rfl rfl Try.underlying36 rfl Try.sizeOf9 rfl ?_
   refine HO_load1 (i:=0) (j:=4) rfl rfl rfl Try.isAgg9 rfl (.loc _ _ _) rfl rfl ?_
   refine HO_bi rfl rfl rfl (bi_len_str Try.underlying9) ?_
   refine HO_bin rfl rfl rfl rfl (bin_add ?_ ?_) ?_
   ·omega
   ·omega
   refine HO_fieldAddr (r:=5) rfl rfl rfl Try.underlying36 rfl Try.sizeOf9 rfl ?_
   refine HO_load1 (i:=0) (j:=5) rfl rfl rfl Try.isAgg9 rfl (.loc _ _ _) rfl rfl ?_
   refine HO_bi rfl rfl rfl (bi_len_str Try.underlying9) ?_
   refine HO_bin rfl rfl rfl rfl (bin_add ?_ ?_) ?_
   ·omega
   ·omega
   refine HO_fieldAddr (r:=6) rfl rfl rfl Try.underlying36 rfl Try.sizeOf9 rfl ?_
   refine HO_load1 (i:=0) (j:=6) rfl rfl rfl Try.isAgg9 rfl (.loc _ _ _) rfl rfl ?_
   refine HO_bi rfl rfl rfl (bi_len_str Try.underlying9) ?_
   refine HO_bin rfl rfl rfl rfl (bin_add ?_ ?_) ?_
   ·omega
   ·omega
   refine HO_bin rfl rfl rfl rfl (bin_quo ?_ ?_ ?_) ?_
   ·omega
   ·omega
   ·omega
   refine HO_bin rfl rfl rfl rfl (bin_add ?_ ?_) ?_
   ·omega
   ·omega
   refine HO_bin rfl rfl rfl rfl (bin_add ?_ ?_) ?_
   ·omega
   ·omega
   refine HO_assign rfl rfl rfl ?_
   refine HO_nil ?_
   refine H_env (ρ':=[(5,_),(1,_),(11,_),(12,_),(13,_)]) ⟨rfl,rfl,rfl,rfl,rfl,trivial⟩ ?_
   refine H_world (kp [nn,yy,yy] [_,_] rfl) ?_
   refine H_seq ?_
   refine H_region (l:=[_,_]) rfl ?_
   refine HO_move rfl rfl rfl ?_
   refine HO_bin rfl rfl rfl rfl bin_gtr ?_
   refine HO_nil ?_
   refine H_env (ρ':=[(39,_),(5,_),(1,_),(11,_),(12,_),(13,_)]) ⟨rfl,rfl,rfl,rfl,rfl,rfl,trivial⟩ ?_
   refine H_cond rfl ?_ ?_
   ·intro h39
    replace h39:=dT h39
    refine H_seq ?_
    refine H_region (l:=[_]) rfl ?_
    refine HO_assign rfl rfl rfl ?_
    refine HO_nil ?_
    refine H_env (ρ':=[(4,_)]) ⟨rfl,trivial⟩ ?_
    refine H_world (kp [nn,nn] [] rfl) ?_
    refine H_ret1 Try.results14 (.tmp rfl) (fun w hA => ⟨true,congrArg Ending.returned ?_,?_,?_⟩)
    ·rfl
    ·exact fun h => nomatch h
    ·exact hA.keep (m:=[]) (Y:=[]) rfl
   intro h39
   replace h39:=dF h39
   refine H_skip ?_
   refine H_blk ?_
   refine H_region (l:=[_,_]) rfl ?_
   refine HO_bin rfl rfl rfl rfl (bin_add ?_ ?_) ?_
   ·omega
   ·omega
   refine HO_move rfl rfl rfl ?_
   refine HO_nil ?_
   refine H_env (ρ':=[(13,_),(5,_),(1,_),(11,_),(12,_)]) ⟨rfl,rfl,rfl,rfl,rfl,trivial⟩ ?_
   refine H_inv (fun a w hf hA => ⟨⟨i + 1,n + (1 + (((((z15.cmd.key.size : Int) + (z15.cmd.old.size : Int)) + (z15.cmd.val.size : Int)) + (z15.cmd.til.size : Int)) / 20))⟩,?_,?_,hf.sub ?_,?_⟩)
   ·exact ⟨by dsimp only;omega,by dsimp only;omega,by dsimp only;omega⟩
   ·(try dsimp only);omega
   ·exact ⟨rfl,rfl,rfl,rfl,rfl,trivial⟩
   ·exact hA.only (is:=[0,1]) (Z:=[]) rfl
  intro h14
  replace h14:=dF h14
  refine H_exit rfl ?_
  refine H_seq ?_
  refine H_seq ?_
  have hlog : log.length≤120:=by omega
  refine H_region (l:=[_,_,_]) rfl ?_
  refine HO_move rfl rfl rfl ?_
  refine HO_bi rfl rfl rfl (bi_len_sl Try.underlying23) ?_
  refine HO_move rfl rfl rfl ?_
  refine HO_nil ?_
  refine H_env (ρ':=[(43,_),(42,_),(41,_),(5,_)]) ⟨rfl,rfl,rfl,rfl,trivial⟩ ?_
  refine H_world (kp [yy,nn] [_] rfl) ?_
  refine H_block ?_
  refine H_loop (σ:=Nat × Int) (fun s => s.1≤ops.length∧(s.1 : Int)≤s.2∧s.2≤240) (fun s => [(5,.int .i64 (s.2)),(41,.slice a9 (ops.length) c9),(42,.int .i64 ((ops.length : Int))),(43,.int .i64 ((s.1 : Int)))]) (fun s => Asn w0 ok0 M0 [.dat kOp.sl (ops) [.slice a9 (ops.length) c9]]) (fun s => ops.length - s.1) ⟨0,n⟩ ?_ ?_ ?_ ?_
  ·exact ⟨Nat.zero_le _,by dsimp only;omega,by dsimp only;omega⟩
  ·exact ⟨rfl,rfl,rfl,rfl,trivial⟩
  ·intro w hA
   exact hA.only (is:=[0]) (Z:=[]) rfl
  ·rintro ⟨j,n⟩ hI
   (try dsimp only at hI ⊢)
   refine H_seq ?_
   refine H_region (l:=[_]) rfl ?_
   refine HO_bin rfl rfl rfl rfl bin_lss ?_
   refine HO_nil ?_
   refine H_seq ?_
   refine H_cond rfl ?_ ?_
   ·intro h44
    replace h44:=dT h44
    refine H_skip ?_
    refine H_seq ?_
    refine H_block ?_
    refine H_seq ?_
    refine H_region (l:=[_,_,_,_]) rfl ?_
    refine HO_indexAddr open_Op (i:=0) rfl rfl rfl rfl rfl Try.underlying23 Try.sizeOf40 rfl ?_ ?_
    ·omega
    intro b45 o45 z45 y45 hz45 hI45
    (try simp only [BIG] at hI45)
    refine HO_loadA (i:=0) (us:=[]) (cs:=[_,_,_,_,_,_,_,_,_,_,_,_,_,_,_,_,_]) (ts:=[]) rfl rfl rfl Try.isAgg40 Try.sizeOf40 rfl (.elem _ _ _) rfl rfl rfl rfl ?_
    refine HO_alloc (cs:=[_,_,_,_,_,_,_,_,_,_,_,_,_,_,_,_,_]) rfl rfl Try.zeroValue40 rfl ?_
    intro g10
    refine HO_store (i:=0) (j:=0) (us:=[]) (old:=[_,_,_,_,_,_,_,_,_,_,_,_,_,_,_,_,_]) (ts:=[]) (cs:=[_,_,_,_,_,_,_,_,_,_,_,_,_,_,_,_,_]) (R:=[_,_,_]) (new:=[_,_,_,_,_,_,_,_,_,_,_,_,_,_,_,_,_]) rfl rfl rfl Try.sizeOf40 rfl (by simp [Value.oneCell']) rfl rfl rfl rfl rfl rfl ?_
    refine HO_nil ?_
    refine H_env (ρ':=[(10,_),(5,_),(41,_),(42,_),(43,_)]) ⟨rfl,rfl,rfl,rfl,rfl,trivial⟩ ?_
    refine H_world (kp [yy,nn,yy,yy] [_,_,_] rfl) ?_
    refine H_seq ?_
    refine H_region (l:=[_,_,_,_,_,_,_,_,_,_,_,_,_,_,_,_,_,_,_,_,_,_,_,_,_,_,_,_,_,_,_,_,_,_]) rfl ?_
    refine HO_move rfl rfl rfl ?_
    refine HO_fieldAddr (r:=8) rfl rfl rfl Try.underlying40 rfl Try.sizeOf38 rfl ?_
    refine HO_fieldAddr (r:=12) rfl rfl rfl Try.underlying38 rfl Try.sizeOf31 rfl ?_
    refine HO_load1 (i:=0) (j:=12) rfl rfl rfl Try.isAgg31 rfl (.loc _ _ _) rfl rfl ?_
    refine HO_bi rfl rfl rfl (bi_len_sl Try.underlying31) ?_
    refine HO_bin rfl rfl rfl rfl (bin_add ?_ ?_) ?_
    ·omega
    ·omega
    refine HO_fieldAddr (r:=0) rfl rfl rfl Try.underlying40 rfl Try.sizeOf36 rfl ?_
    refine HO_fieldAddr (r:=3) rfl rfl rfl Try.underlying36 rfl Try.sizeOf9 rfl ?_
    refine HO_load1 (i:=0) (j:=3) rfl rfl rfl Try.isAgg9 rfl (.loc _ _ _) rfl rfl ?_
    refine HO_bi rfl rfl rfl (bi_len_str Try.underlying9) ?_
    refine HO_fieldAddr (r:=0) rfl rfl rfl Try.underlying40 rfl Try.sizeOf36 rfl ?_
    refine HO_fieldAddr (r:=4) rfl rfl rfl Try.underlying36 rfl Try.sizeOf9 rfl ?_
    refine HO_load1 (i:=0) (j:=4) rfl rfl rfl Try.isAgg9 rfl (.loc _ _ _) rfl rfl ?_
    refine HO_bi rfl rfl rfl (bi_len_str Try.underlying9) ?_
    refine HO_bin rfl rfl rfl rfl (bin_add ?_ ?_) ?_
    ·omega
    ·omega
    refine HO_fieldAddr (r:=0) rfl rfl rfl Try.underlying40 rfl Try.sizeOf36 rfl ?_
    refine HO_fieldAddr (r:=5) rfl rfl rfl Try.underlying36 rfl Try.sizeOf9 rfl ?_
    refine HO_load1 (i:=0) (j:=5) rfl rfl rfl Try.isAgg9 rfl (.loc _ _ _) rfl rfl ?_
    refine HO_bi rfl rfl rfl (bi_len_str Try.underlying9) ?_
    refine HO_bin rfl rfl rfl rfl (bin_add ?_ ?_) ?_
    ·omega
    ·omega
    refine HO_fieldAddr (r:=0) rfl rfl rfl Try.underlying40 rfl Try.sizeOf36 rfl ?_
    refine HO_fieldAddr (r:=6) rfl rfl rfl Try.underlying36 rfl Try.sizeOf9 rfl ?_
    refine HO_load1 (i:=0) (j:=6) rfl rfl rfl Try.isAgg9 rfl (.loc _ _ _) rfl rfl ?_
    refine HO_bi rfl rfl rfl (bi_len_str Try.underlying9) ?_
    refine HO_bin rfl rfl rfl rfl (bin_add ?_ ?_) ?_
    ·omega
    ·omega
    refine HO_fieldAddr (r:=8) rfl rfl rfl Try.underlying40 rfl Try.sizeOf38 rfl ?_
    refine HO_fieldAddr (r:=10) rfl rfl rfl Try.underlying38 rfl Try.sizeOf9 rfl ?_
    refine HO_load1 (i:=0) (j:=10) rfl rfl rfl Try.isAgg9 rfl (.loc _ _ _) rfl rfl ?_
    refine HO_bi rfl rfl rfl (bi_len_str Try.underlying9) ?_
    refine HO_bin rfl rfl rfl rfl (bin_add ?_ ?_) ?_
    ·omega
    ·omega
    refine HO_bin rfl rfl rfl rfl (bin_quo ?_ ?_ ?_) ?_
    ·omega
    ·omega
    ·omega
    refine HO_bin rfl rfl rfl rfl (bin_add ?_ ?_) ?_
    ·omega
    ·omega
    refine HO_bin rfl rfl rfl rfl (bin_add ?_ ?_) ?_
    ·omega
    ·omega
    refine HO_assign rfl rfl rfl ?_
    refine HO_nil ?_
    refine H_env (ρ':=[(5,_),(41,_),(42,_),(43,_)]) ⟨rfl,rfl,rfl,rfl,trivial⟩ ?_
    refine H_world (kp [nn,nn,yy] [_] rfl) ?_
    refine H_seq ?_
    refine H_region (l:=[_,_]) rfl ?_
    refine HO_move rfl rfl rfl ?_
    refine HO_bin rfl rfl rfl rfl bin_gtr ?_
    refine HO_nil ?_
    refine H_env (ρ':=[(81,_),(5,_),(41,_),(42,_),(43,_)]) ⟨rfl,rfl,rfl,rfl,rfl,trivial⟩ ?_
    refine H_cond rfl ?_ ?_
    ·intro h81
     replace h81:=dT h81
     refine H_seq ?_
     refine H_region (l:=[_]) rfl ?_
     refine HO_assign rfl rfl rfl ?_
     refine HO_nil ?_
     refine H_env (ρ':=[(4,_)]) ⟨rfl,trivial⟩ ?_
     refine H_world (kp [nn] [] rfl) ?_
     refine H_ret1 Try.results14 (.tmp rfl) (fun w hA => ⟨true,congrArg Ending.returned ?_,?_,?_⟩)
     ·rfl
     ·exact fun h => nomatch h
     ·exact hA.keep (m:=[]) (Y:=[]) rfl
    intro h81
    replace h81:=dF h81
    refine H_skip ?_
    refine H_blk ?_
    refine H_region (l:=[_,_]) rfl ?_
    refine HO_bin rfl rfl rfl rfl (bin_add ?_ ?_) ?_
    ·omega
    ·omega
    refine HO_move rfl rfl rfl ?_
    refine HO_nil ?_
    refine H_env (ρ':=[(43,_),(5,_),(41,_),(42,_)]) ⟨rfl,rfl,rfl,rfl,trivial⟩ ?_
    refine H_inv (fun a w hf hA => ⟨⟨j + 1,n + ((1 + (z45.rep.pairs.length : Int)) + ((((((z45.cmd.key.size : Int) + (z45.cmd.old.size : Int)) + (z45.cmd.val.size : Int)) + (z45.cmd.til.size : Int)) + (z45.rep.val.size : Int)) / 20))⟩,?_,?_,hf.sub ?_,?_⟩)
    ·exact ⟨by dsimp only;omega,by dsimp only;omega,by dsimp only;omega⟩
    ·(try dsimp only);omega
    ·exact ⟨rfl,rfl,rfl,rfl,trivial⟩
    ·exact hA.only (is:=[0]) (Z:=[]) rfl
   intro h44
   replace h44:=dF h44
   refine H_exit rfl ?_
   refine H_seq ?_
   refine H_region (l:=[_]) rfl ?_
   refine HO_assign rfl rfl rfl ?_
   refine HO_nil ?_
   refine H_env (ρ':=[(4,_)]) ⟨rfl,trivial⟩ ?_
   refine H_world (kp [nn] [] rfl) ?_
   refine H_ret1 Try.results14 (.tmp rfl) (fun w hA => ⟨false,congrArg Ending.returned ?_,?_,?_⟩)
   ·rfl
   ·exact fun _ => ⟨by omega,by omega⟩
   ·exact hA.keep (m:=[]) (Y:=[]) rfl
set_option maxHeartbeats 0 in
theorem lives22_spec  : Spec Try.prog 15 #[] [] (β:=Unit) (fun y => .bool (true)) (fun y => True) (fun y => []):=by
 refine Spec.enter (vs:=[]) Try.func15 rfl Try.ntmps15 rfl (Nat.le_of_ble_eq_true rfl) (fun w0 ok0 => ?_)
 generalize hM0 : blks _ = M0
 have hMn:=@noM _ _ hM0 (by simp [Atom.dat,Atom.elem])
 refine H_seq ?_
 refine H_region (l:=[_]) rfl ?_
 refine HO_assign rfl rfl rfl ?_
 refine HO_nil ?_
 refine H_env (ρ':=[]) trivial ?_
 refine H_seq ?_
 refine H_region (l:=[_,_,_]) rfl ?_
 refine HO_build (xo:=[(0,_),(1,_),(2,_),(3,_),(5,_)]) (vs:=[_,_,_,_,_]) rfl rfl rfl rfl (bd36_0_1_2_3_5_iiitt) ?_
 refine HO_alloc (cs:=[_,_,_,_,_,_,_,_]) rfl rfl Try.zeroValue36 rfl ?_
 intro g1
 refine HO_store (i:=0) (j:=0) (us:=[]) (old:=[_,_,_,_,_,_,_,_]) (ts:=[]) (cs:=[_,_,_,_,_,_,_,_]) (R:=[]) (new:=[_,_,_,_,_,_,_,_]) rfl rfl rfl Try.sizeOf36 rfl (by simp [Value.oneCell']) rfl rfl rfl rfl rfl rfl ?_
 refine HO_nil ?_
 refine H_env (ρ':=[(1,_)]) ⟨rfl,trivial⟩ ?_
 refine H_seq ?_
 refine H_region (l:=[_,_,_,_,_,_]) rfl ?_
 refine HO_build (xo:=[(0,_)]) (vs:=[_]) rfl rfl rfl rfl (bd36_0_i) ?_
 refine HO_build (xo:=[(0,_),(2,_),(3,_)]) (vs:=[_,_,_]) rfl rfl rfl rfl (bd44_0_2_3_iiAiiittttiE) ?_
 refine HO_loadA (i:=0) (us:=[]) (cs:=[_,_,_,_,_,_,_,_]) (ts:=[]) rfl rfl rfl Try.isAgg36 Try.sizeOf36 rfl (.loc _ _ _) rfl rfl rfl rfl ?_
 refine HO_build (xo:=[(0,_),(2,_),(3,_)]) (vs:=[_,_,_]) rfl rfl rfl rfl (bd44_0_2_3_iiAiiittttiE) ?_
 refine HO_nilDat kInt ?_
 refine HO_nilDat kInt ?_
 refine HO_nilDat kInt ?_
 refine HO_nilDat kInt ?_
 refine HO_buildSlice (kd:=kEnt) (xo:=[_,_]) (vs:=[_,_]) (cs:=[_,_,_,_,_,_,_,_,_,_,_,_,_,_,_,_,_,_,_,_,_,_,_,_,_,_]) (xs:=[⟨1,0,2,⟨1,0,0,⟨#[]⟩,⟨#[]⟩,⟨#[]⟩,⟨#[]⟩,0⟩,⟨[],[]⟩⟩,⟨2,0,2,⟨3,1,1,⟨#[107]⟩,⟨#[]⟩,⟨#[118]⟩,⟨#[]⟩,0⟩,⟨[],[]⟩⟩]) rfl rfl rfl rfl Try.underlying22 elt44 rfl rfl rfl (by decide) (by decide) (by simp [Value.cells]) rfl (fun ok w hA => ⟨_,_,rfl,⟨(by decide +kernel),⟨⟨_,_⟩,⟨_,_⟩⟩,rfl,(List.forall_mem_cons.2 ⟨hA _ (List.mem_of_getElem? (i:=3) rfl),(List.forall_mem_cons.2 ⟨hA _ (List.mem_of_getElem? (i:=2) rfl),(by simp)⟩)⟩)⟩,⟨_,_,rfl,⟨(by decide +kernel),⟨⟨_,_⟩,⟨_,_⟩⟩,rfl,(List.forall_mem_cons.2 ⟨hA _ (List.mem_of_getElem? (i:=1) rfl),(List.forall_mem_cons.2 ⟨hA _ (List.mem_of_getElem? (i:=0) rfl),(by simp)⟩)⟩)⟩,rfl⟩⟩) ?_
 intro g13
 refine HO_assign rfl rfl rfl ?_
 refine HO_nil ?_
 refine H_env (ρ':=[(2,_),(1,_)]) ⟨rfl,rfl,trivial⟩ ?_
 refine H_world (kp [yy,nn,nn,nn,nn,yy] [_,_] rfl) ?_
 refine H_seq ?_
 refine H_region (l:=[_,_,_,_,_,_]) rfl ?_
 refine HO_loadA (i:=1) (us:=[]) (cs:=[_,_,_,_,_,_,_,_]) (ts:=[]) rfl rfl rfl Try.isAgg36 Try.sizeOf36 rfl (.loc _ _ _) rfl rfl rfl rfl ?_
 refine HO_build (xo:=[(0,_),(2,_),(3,_),(4,_)]) (vs:=[_,_,_,_]) rfl rfl rfl rfl (bd40_0_2_3_4_AiiittttiEiii) ?_
 refine HO_build (xo:=[(0,_),(3,_)]) (vs:=[_,_]) rfl rfl rfl rfl (bd36_0_3_it) ?_
 refine HO_build (xo:=[(0,_),(2,_),(3,_),(4,_),(5,_)]) (vs:=[_,_,_,_,_]) rfl rfl rfl rfl (bd40_0_2_3_4_5_AiiittttiEiiio) ?_
 refine HO_nilDat kPair ?_
 refine HO_nilDat kPair ?_
 refine HO_buildSlice (kd:=kOp) (xo:=[_,_]) (vs:=[_,_]) (cs:=[_,_,_,_,_,_,_,_,_,_,_,_,_,_,_,_,_,_,_,_,_,_,_,_,_,_,_,_,_,_,_,_,_,_]) (xs:=[⟨⟨3,1,1,⟨#[107]⟩,⟨#[]⟩,⟨#[118]⟩,⟨#[]⟩,0⟩,⟨0,false,⟨#[]⟩,0,[]⟩,1,2,2,false⟩,⟨⟨4,0,0,⟨#[107]⟩,⟨#[]⟩,⟨#[]⟩,⟨#[]⟩,0⟩,⟨0,false,⟨#[]⟩,0,[]⟩,3,4,1,true⟩]) rfl rfl rfl rfl Try.underlying23 elt40 rfl rfl rfl (by decide) (by decide) (by simp [Value.cells]) rfl (fun ok w hA => ⟨_,_,rfl,⟨(by decide +kernel),⟨_,_⟩,rfl,(List.forall_mem_cons.2 ⟨hA _ (List.mem_of_getElem? (i:=1) rfl),(by simp)⟩)⟩,⟨_,_,rfl,⟨(by decide +kernel),⟨_,_⟩,rfl,(List.forall_mem_cons.2 ⟨hA _ (List.mem_of_getElem? (i:=0) rfl),(by simp)⟩)⟩,rfl⟩⟩) ?_
 intro g18
 refine HO_assign rfl rfl rfl ?_
 refine HO_nil ?_
 refine H_env (ρ':=[(3,_),(2,_)]) ⟨rfl,rfl,trivial⟩ ?_
 refine H_world (kp [yy,nn,nn,yy,nn] [_,_] rfl) ?_
 refine H_seq ?_
 refine H_freeze (i:=1) (R:=[_]) rfl hMn ?_
 refine H_region (l:=[_,_,_,_,_,_,_,_]) rfl ?_
 iterate 2 refine HO_move rfl rfl rfl ?_
 refine HO_dup (i:=0) rfl rfl ?_
 refine HO_call (first:=[]) (capt:=[]) (is:=[0,2]) (R:=[_]) rfl rfl rfl rfl rfl Try.call16 rfl (Spec.lend (pre1:=[_]) (pre2:=[]) (check_spec _ _ _ _ _ _ ?_) rfl (fun _ _ ha => nomatch ha)) ?_
 ·decide
 intro y22 hy22
 clear y22 hy22
 refine HO_move rfl rfl rfl ?_
 refine HO_extract (vs:=[_,_]) rfl rfl rfl rfl ?_
 refine HO_extract (vs:=[_,_]) rfl rfl rfl rfl ?_
 iterate 2 refine HO_assign rfl rfl rfl ?_
 refine HO_nil ?_
 refine H_env (ρ':=[(5,_),(4,_),(3,_),(2,_)]) ⟨rfl,rfl,rfl,rfl,trivial⟩ ?_
 refine H_seq ?_
 refine H_openRow (i:=0) (R:=[_]) rfl (by decide) (fun g3 vals3 spare3 ha3 hl3 hs3 hc3 hm3 ho3 => ?_)
 cases ha3
 replace hl3 : vals3.length = _ * 17:=hl3
 replace hs3 : spare3.length = _ * 17:=hs3
 (try simp only [List.length_cons,List.length_nil] at hl3 hs3 hc3)
 (try simp only [maxLen] at hm3)
 refine H_region (l:=[_,_,_,_,_,_,_,_,_]) rfl ?_
 refine HO_pure (fun w hA => op_parts2 (j:=1) (z:=⟨⟨4,0,0,⟨#[107]⟩,⟨#[]⟩,⟨#[]⟩,⟨#[]⟩,0⟩,⟨0,false,⟨#[]⟩,0,[]⟩,3,4,1,true⟩) (hA.get (i:=1) rfl) rfl) (fun hpart => ?_)
 obtain ⟨us,A,B,C,D,E,ts,hv0,hus,hqA,hqB,hqC,hqD,hqE⟩:=hpart
 have hAl : A.length = 8:=by rw [hqA];rfl
 have hCl : C.length = 2:=by rw [hqC];rfl
 have hDl : D.length = 1:=by rw [hqD];rfl
 have hEl : E.length = 1:=by rw [hqE];rfl
 subst hv0
 simp only [List.append_assoc]
 iterate 2 refine HO_move rfl rfl rfl ?_
 refine HO_build (xo:=[(1,_),(2,_)]) (vs:=[_,_]) rfl rfl rfl rfl (bd38_1_2_ot) ?_
 refine HO_indexC (j:=1) rfl rfl rfl rfl rfl Try.underlying23 Try.sizeOf40 ?_ rfl ?_
 ·decide
 refine HO_fieldAddr rfl rfl rfl Try.underlying40 rfl Try.sizeOf3 rfl ?_
 refine HO_store (i:=0) (j:=0) (us:=us ++ (A ++ (B ++ C))) (old:=D) (ts:=E ++ (ts ++ spare3)) (cs:=[_]) (R:=[_,_]) rfl rfl rfl Try.sizeOf3 rfl (by simp [Value.oneCell']) rfl ?_ ?_ rfl ?_ rfl ?_
 ·(simp only [List.append_assoc])
 ·exact hDl
 ·(show List.length _ = 0 + 1 * 17 + 15;simp only [List.length_append];omega)
 refine HO_indexC (j:=1) rfl rfl rfl rfl rfl Try.underlying23 Try.sizeOf40 ?_ rfl ?_
 ·decide
 refine HO_fieldAddr rfl rfl rfl Try.underlying40 rfl Try.sizeOf38 rfl ?_
 refine HO_store (i:=0) (j:=0) (us:=us ++ A) (old:=B) (ts:=C ++ ([.int .i64 2] ++ (E ++ (ts ++ spare3)))) (cs:=[_,_,_,_,_]) (R:=[_,_]) rfl rfl rfl Try.sizeOf38 rfl (by simp [Value.oneCell']) rfl ?_ ?_ rfl ?_ rfl ?_
 ·(simp only [List.append_assoc])
 ·exact hqB
 ·(show List.length _ = 0 + 1 * 17 + 8;simp only [List.length_append];omega)
 refine HO_nil ?_
 refine H_env (ρ':=[(5,_),(4,_),(3,_),(2,_)]) ⟨rfl,rfl,rfl,rfl,trivial⟩ ?_
 refine H_seq ?_
 refine H_nilDat kPair ?_
 refine H_closeRow (i:=1) (R:=[_,_,_]) (kd:=kOp) (cp:=2) (([⟨⟨3,1,1,⟨#[107]⟩,⟨#[]⟩,⟨#[118]⟩,⟨#[]⟩,0⟩,⟨0,false,⟨#[]⟩,0,[]⟩,1,2,2,false⟩,⟨⟨4,0,0,⟨#[107]⟩,⟨#[]⟩,⟨#[]⟩,⟨#[]⟩,0⟩,⟨0,false,⟨#[]⟩,0,[]⟩,3,4,1,true⟩] : List Op).set 1 ⟨⟨4,0,0,⟨#[107]⟩,⟨#[]⟩,⟨#[]⟩,⟨#[]⟩,0⟩,⟨0,true,⟨#[118]⟩,0,[]⟩,3,4,2,true⟩) (us ++ ((A ++ ([.int .i64 0,.bool true,.string ⟨#[118]⟩,.int .i64 0,.slice none 0 0] ++ (C ++ ([.int .i64 2] ++ E)))) ++ ts)) (spare3) rfl ?_ ?_ ?_ ?_ ?_ ?_ ?_
 ·(simp only [List.append_assoc])
 ·decide
 ·(show _ = 2 * 17;simp only [List.length_append,List.length_cons,List.length_nil] at hl3 hs3 ⊢;omega)
 ·decide
 ·decide
 ·exact (fun ok w hA => rowRep.upd (j:=1) (z:=⟨⟨4,0,0,⟨#[107]⟩,⟨#[]⟩,⟨#[]⟩,⟨#[]⟩,0⟩,⟨0,false,⟨#[]⟩,0,[]⟩,3,4,1,true⟩) (cs:=A ++ (B ++ (C ++ (D ++ E)))) (hA _ (List.mem_of_getElem? (i:=1) rfl)) rfl (by simp only [List.append_assoc]) hus (by show List.length _ = 17;simp only [List.length_append];omega) ⟨by decide +kernel,(none,0),by rw [hqA,hqC,hqE];rfl,List.forall_mem_cons.2 ⟨hA _ (List.mem_of_getElem? (i:=0) rfl),(by simp)⟩⟩)
 refine H_region (l:=[_,_,_,_,_,_,_,_]) rfl ?_
 iterate 2 refine HO_move rfl rfl rfl ?_
 refine HO_dup (i:=3) rfl rfl ?_
 refine HO_call (first:=[]) (capt:=[]) (is:=[0,1]) (R:=[_,_,_]) rfl rfl rfl rfl rfl Try.call16 rfl (Spec.lend (pre1:=[_]) (pre2:=[]) (check_spec _ _ _ _ _ _ ?_) rfl (fun _ _ ha => nomatch ha)) ?_
 ·decide
 intro y35 hy35
 clear y35 hy35
 refine HO_move rfl rfl rfl ?_
 refine HO_extract (vs:=[_,_]) rfl rfl rfl rfl ?_
 refine HO_extract (vs:=[_,_]) rfl rfl rfl rfl ?_
 iterate 2 refine HO_assign rfl rfl rfl ?_
 refine HO_nil ?_
 refine H_env (ρ':=[(7,_),(5,_),(4,_),(3,_)]) ⟨rfl,rfl,rfl,rfl,trivial⟩ ?_
 refine H_world (kp [yy,yy,yy,nn] [_,_,_] rfl) ?_
 refine H_seq ?_
 have hck1 : Hist.check ([⟨1,0,2,⟨1,0,0,⟨#[]⟩,⟨#[]⟩,⟨#[]⟩,⟨#[]⟩,0⟩,⟨[],[]⟩⟩,⟨2,0,2,⟨3,1,1,⟨#[107]⟩,⟨#[]⟩,⟨#[118]⟩,⟨#[]⟩,0⟩,⟨[],[]⟩⟩] : List Ent) ([⟨⟨3,1,1,⟨#[107]⟩,⟨#[]⟩,⟨#[118]⟩,⟨#[]⟩,0⟩,⟨0,false,⟨#[]⟩,0,[]⟩,1,2,2,false⟩,⟨⟨4,0,0,⟨#[107]⟩,⟨#[]⟩,⟨#[]⟩,⟨#[]⟩,0⟩,⟨0,false,⟨#[]⟩,0,[]⟩,3,4,1,true⟩] : List Op) = (1,15):=by decide +kernel
 have hck2 : Hist.check ([⟨1,0,2,⟨1,0,0,⟨#[]⟩,⟨#[]⟩,⟨#[]⟩,⟨#[]⟩,0⟩,⟨[],[]⟩⟩,⟨2,0,2,⟨3,1,1,⟨#[107]⟩,⟨#[]⟩,⟨#[118]⟩,⟨#[]⟩,0⟩,⟨[],[]⟩⟩] : List Ent) (([⟨⟨3,1,1,⟨#[107]⟩,⟨#[]⟩,⟨#[118]⟩,⟨#[]⟩,0⟩,⟨0,false,⟨#[]⟩,0,[]⟩,1,2,2,false⟩,⟨⟨4,0,0,⟨#[107]⟩,⟨#[]⟩,⟨#[]⟩,⟨#[]⟩,0⟩,⟨0,false,⟨#[]⟩,0,[]⟩,3,4,1,true⟩] : List Op).set 1 ⟨⟨4,0,0,⟨#[107]⟩,⟨#[]⟩,⟨#[]⟩,⟨#[]⟩,0⟩,⟨0,true,⟨#[118]⟩,0,[]⟩,3,4,2,true⟩) = (0,0):=by decide +kernel
 refine H_freeze (i:=0) (R:=[_,_]) rfl hMn ?_
 refine H_drawB (m:=[yy,yy,yy]) (Xs:=[_,_,_]) (fuel:=20) (l:=#[false,false,false,false,false,false,false,false,false,false,false,false,false,false,false,false,false,false,false,false]) mixed rfl rfl rfl ?_
 refine HA_take (i:=0) bp rfl rfl rfl rfl (by kernel_rfl) rfl (V_move rfl) (fun _ hA => hA) ?_
 refine HA_take (i:=1) bp rfl rfl rfl rfl (by kernel_rfl) rfl (V_bin rfl rfl bin_eql) (fun _ hA => hA) ?_
 refine HA_take (i:=2) bp rfl rfl rfl rfl (by kernel_rfl) rfl (V_move rfl) (fun _ hA => hA) ?_
 refine HA_split (d:=40) rfl ?_ ?_
 ·intro h40
  replace h40:=dT h40
  refine HA_take (i:=3) bp rfl rfl rfl rfl (by kernel_rfl) rfl (V_move rfl) (fun _ hA => hA) ?_
  refine HA_take (i:=4) bp rfl rfl rfl rfl (by kernel_rfl) rfl (V_bin rfl rfl bin_eql) (fun _ hA => hA) ?_
  refine HA_take (i:=5) bp rfl rfl rfl rfl (by kernel_rfl) rfl (V_pick_t rfl rfl) (fun _ hA => hA) ?_
  refine HA_take (i:=6) bp rfl rfl rfl rfl (by kernel_rfl) rfl (V_move rfl) (fun _ hA => hA) ?_
  refine HA_split (d:=44) rfl ?_ ?_
  ·intro h44
   replace h44:=dT h44
   refine HA_take (i:=7) bp rfl rfl rfl rfl (by kernel_rfl) rfl (V_move rfl) (fun _ hA => hA) ?_
   refine HA_take (i:=8) bp rfl rfl rfl rfl (by kernel_rfl) rfl (V_bin rfl rfl bin_eql) (fun _ hA => hA) ?_
   refine HA_take (i:=9) bp rfl rfl rfl rfl (by kernel_rfl) rfl (V_pick_t rfl rfl) (fun _ hA => hA) ?_
   refine HA_take (i:=10) bp rfl rfl rfl rfl (by kernel_rfl) rfl (V_move rfl) (fun _ hA => hA) ?_
   refine HA_split (d:=48) rfl ?_ ?_
   ·intro h48
    replace h48:=dT h48
    refine HA_take (i:=11) bp rfl rfl rfl rfl (by kernel_rfl) rfl (V_move rfl) (fun _ hA => hA) ?_
    refine HA_take (i:=14) bp rfl rfl rfl rfl (by kernel_rfl) rfl (V_move rfl) (fun _ hA => hA) ?_
    refine HA_loud2 (i:=12) (j:=15) (by kernel_rfl) rfl rfl ?_ ?_
    ·refine HO_indexAddr open_Op (i:=0) (j:=0) rfl rfl rfl rfl rfl Try.underlying23 Try.sizeOf40 rfl ?_ ?_
     ·decide
     intro b50 o50 z50 y50 hz50 hI50
     (try simp only [BIG] at hI50)
     refine HA_back rfl (kp [nn,nn,yy,yy,yy] [_,_,_] rfl) ?_
     refine HA_loud2 (i:=13) (j:=15) (by kernel_rfl) rfl rfl ?_ ?_
     ·refine HO_loadA (i:=0) (us:=[]) (cs:=[_,_,_,_,_,_,_,_,_,_,_,_,_,_,_,_,_]) (ts:=[]) rfl rfl rfl Try.isAgg40 Try.sizeOf40 rfl (.elem _ _ _) rfl rfl rfl rfl ?_
      refine HA_back rfl (kp [nn,nn,yy,yy,yy] [_,_,_] rfl) ?_
      refine HA_loud1 (i:=15) (by kernel_rfl) rfl ?_
      refine HO_indexAddr open_Op (i:=2) (j:=1) rfl rfl rfl rfl rfl Try.underlying23 Try.sizeOf40 rfl ?_ ?_
      ·decide
      intro b53 o53 z53 y53 hz53 hI53
      (try simp only [BIG] at hI53)
      refine HA_back rfl (kp [nn,nn,nn,nn,yy,yy,yy] [_,_,_] rfl) ?_
      refine HA_loud1 (i:=16) (by kernel_rfl) rfl ?_
      refine HO_loadA (i:=0) (us:=[]) (cs:=[_,_,_,_,_,_,_,_,_,_,_,_,_,_,_,_,_]) (ts:=[]) rfl rfl rfl Try.isAgg40 Try.sizeOf40 rfl (.elem _ _ _) rfl rfl rfl rfl ?_
      refine HA_back rfl (kp [nn,nn,nn,nn,yy,yy,yy] [_,_,_] rfl) ?_
      refine HA_loud1 (i:=17) (by kernel_rfl) rfl ?_
      refine HO_call (first:=[]) (capt:=[]) (is:=[]) (R:=[_,_,_,_,_,_,_]) rfl rfl rfl rfl rfl Try.call21 rfl (hbefore_spec _ _ _ _ _ _ _ _ _ _ _ _ _ _ _ _ _ _ _ _ _ _ _ _ _ _ _ _ _ _ _ _ _ _ _ _ _ _) ?_
      intro y55 hy55
      clear y55 hy55
      refine HA_back rfl (kp [nn,nn,nn,nn,yy,yy,yy] [_,_,_] rfl) ?_
      refine HA_take (i:=18) bp rfl rfl rfl rfl (by kernel_rfl) rfl (V_pick_t rfl rfl) (kp [nn,nn,nn,nn,yy,yy,yy] [_,_,_] rfl) ?_
      refine HA_take (i:=19) bp rfl rfl rfl rfl (by kernel_rfl) rfl (V_assign rfl) (kp [nn,nn,nn,nn,yy,yy,yy] [_,_,_] rfl) ?_
      refine HA_done (by kernel_rfl) ?_
      refine H_env (ρ':=[(0,_)]) ⟨rfl,trivial⟩ ?_
      refine H_world (kp [nn,nn,nn,nn,nn,yy,yy] [_,_] rfl) ?_
      refine H_ret1 Try.results15 (.tmp rfl) (fun w hA => ⟨(),congrArg Ending.returned ?_,?_,?_⟩)
      ·(exact congrArg Value.bool (by rw [show z50 = ⟨⟨3,1,1,⟨#[107]⟩,⟨#[]⟩,⟨#[118]⟩,⟨#[]⟩,0⟩,⟨0,false,⟨#[]⟩,0,[]⟩,1,2,2,false⟩ from (Option.some.inj hz50).symm,show z53 = ⟨⟨4,0,0,⟨#[107]⟩,⟨#[]⟩,⟨#[]⟩,⟨#[]⟩,0⟩,⟨0,true,⟨#[118]⟩,0,[]⟩,3,4,2,true⟩ from (Option.some.inj hz53).symm];decide +kernel))
      ·trivial
      ·exact hA.keep (m:=[nn,nn]) (Y:=[]) rfl
     ·refine HO_indexAddr open_Op (i:=2) (j:=1) rfl rfl rfl rfl rfl Try.underlying23 Try.sizeOf40 rfl ?_ ?_
      ·decide
      intro b53 o53 z53 y53 hz53 hI53
      (try simp only [BIG] at hI53)
      refine HA_back rfl (kp [nn,nn,nn,nn,yy,yy,yy] [_,_,_] rfl) ?_
      refine HA_loud2 (i:=13) (j:=16) (by kernel_rfl) rfl rfl ?_ ?_
      ·refine HO_loadA (i:=2) (us:=[]) (cs:=[_,_,_,_,_,_,_,_,_,_,_,_,_,_,_,_,_]) (ts:=[]) rfl rfl rfl Try.isAgg40 Try.sizeOf40 rfl (.elem _ _ _) rfl rfl rfl rfl ?_
       refine HA_back rfl (kp [nn,nn,nn,nn,yy,yy,yy] [_,_,_] rfl) ?_
       refine HA_loud1 (i:=16) (by kernel_rfl) rfl ?_
       refine HO_loadA (i:=0) (us:=[]) (cs:=[_,_,_,_,_,_,_,_,_,_,_,_,_,_,_,_,_]) (ts:=[]) rfl rfl rfl Try.isAgg40 Try.sizeOf40 rfl (.elem _ _ _) rfl rfl rfl rfl ?_
       refine HA_back rfl (kp [nn,nn,nn,nn,yy,yy,yy] [_,_,_] rfl) ?_
       refine HA_loud1 (i:=17) (by kernel_rfl) rfl ?_
       refine HO_call (first:=[]) (capt:=[]) (is:=[]) (R:=[_,_,_,_,_,_,_]) rfl rfl rfl rfl rfl Try.call21 rfl (hbefore_spec _ _ _ _ _ _ _ _ _ _ _ _ _ _ _ _ _ _ _ _ _ _ _ _ _ _ _ _ _ _ _ _ _ _ _ _ _ _) ?_
       intro y55 hy55
       clear y55 hy55
       refine HA_back rfl (kp [nn,nn,nn,nn,yy,yy,yy] [_,_,_] rfl) ?_
       refine HA_take (i:=18) bp rfl rfl rfl rfl (by kernel_rfl) rfl (V_pick_t rfl rfl) (kp [nn,nn,nn,nn,yy,yy,yy] [_,_,_] rfl) ?_
       refine HA_take (i:=19) bp rfl rfl rfl rfl (by kernel_rfl) rfl (V_assign rfl) (kp [nn,nn,nn,nn,yy,yy,yy] [_,_,_] rfl) ?_
       refine HA_done (by kernel_rfl) ?_
       refine H_env (ρ':=[(0,_)]) ⟨rfl,trivial⟩ ?_
       refine H_world (kp [nn,nn,nn,nn,nn,yy,yy] [_,_] rfl) ?_
       refine H_ret1 Try.results15 (.tmp rfl) (fun w hA => ⟨(),congrArg Ending.returned ?_,?_,?_⟩)
       ·(exact congrArg Value.bool (by rw [show z50 = ⟨⟨3,1,1,⟨#[107]⟩,⟨#[]⟩,⟨#[118]⟩,⟨#[]⟩,0⟩,⟨0,false,⟨#[]⟩,0,[]⟩,1,2,2,false⟩ from (Option.some.inj hz50).symm,show z53 = ⟨⟨4,0,0,⟨#[107]⟩,⟨#[]⟩,⟨#[]⟩,⟨#[]⟩,0⟩,⟨0,true,⟨#[118]⟩,0,[]⟩,3,4,2,true⟩ from (Option.some.inj hz53).symm];decide +kernel))
       ·trivial
       ·exact hA.keep (m:=[nn,nn]) (Y:=[]) rfl
      ·refine HO_loadA (i:=0) (us:=[]) (cs:=[_,_,_,_,_,_,_,_,_,_,_,_,_,_,_,_,_]) (ts:=[]) rfl rfl rfl Try.isAgg40 Try.sizeOf40 rfl (.elem _ _ _) rfl rfl rfl rfl ?_
       refine HA_back rfl (kp [nn,nn,nn,nn,yy,yy,yy] [_,_,_] rfl) ?_
       refine HA_loud1 (i:=13) (by kernel_rfl) rfl ?_
       refine HO_loadA (i:=2) (us:=[]) (cs:=[_,_,_,_,_,_,_,_,_,_,_,_,_,_,_,_,_]) (ts:=[]) rfl rfl rfl Try.isAgg40 Try.sizeOf40 rfl (.elem _ _ _) rfl rfl rfl rfl ?_
       refine HA_back rfl (kp [nn,nn,nn,nn,yy,yy,yy] [_,_,_] rfl) ?_
       refine HA_loud1 (i:=17) (by kernel_rfl) rfl ?_
       refine HO_call (first:=[]) (capt:=[]) (is:=[]) (R:=[_,_,_,_,_,_,_]) rfl rfl rfl rfl rfl Try.call21 rfl (hbefore_spec _ _ _ _ _ _ _ _ _ _ _ _ _ _ _ _ _ _ _ _ _ _ _ _ _ _ _ _ _ _ _ _ _ _ _ _ _ _) ?_
       intro y55 hy55
       clear y55 hy55
       refine HA_back rfl (kp [nn,nn,nn,nn,yy,yy,yy] [_,_,_] rfl) ?_
       refine HA_take (i:=18) bp rfl rfl rfl rfl (by kernel_rfl) rfl (V_pick_t rfl rfl) (kp [nn,nn,nn,nn,yy,yy,yy] [_,_,_] rfl) ?_
       refine HA_take (i:=19) bp rfl rfl rfl rfl (by kernel_rfl) rfl (V_assign rfl) (kp [nn,nn,nn,nn,yy,yy,yy] [_,_,_] rfl) ?_
       refine HA_done (by kernel_rfl) ?_
       refine H_env (ρ':=[(0,_)]) ⟨rfl,trivial⟩ ?_
       refine H_world (kp [nn,nn,nn,nn,nn,yy,yy] [_,_] rfl) ?_
       refine H_ret1 Try.results15 (.tmp rfl) (fun w hA => ⟨(),congrArg Ending.returned ?_,?_,?_⟩)
       ·(exact congrArg Value.bool (by rw [show z50 = ⟨⟨3,1,1,⟨#[107]⟩,⟨#[]⟩,⟨#[118]⟩,⟨#[]⟩,0⟩,⟨0,false,⟨#[]⟩,0,[]⟩,1,2,2,false⟩ from (Option.some.inj hz50).symm,show z53 = ⟨⟨4,0,0,⟨#[107]⟩,⟨#[]⟩,⟨#[]⟩,⟨#[]⟩,0⟩,⟨0,true,⟨#[118]⟩,0,[]⟩,3,4,2,true⟩ from (Option.some.inj hz53).symm];decide +kernel))
       ·trivial
       ·exact hA.keep (m:=[nn,nn]) (Y:=[]) rfl
    ·refine HO_indexAddr open_Op (i:=0) (j:=1) rfl rfl rfl rfl rfl Try.underlying23 Try.sizeOf40 rfl ?_ ?_
     ·decide
     intro b53 o53 z53 y53 hz53 hI53
     (try simp only [BIG] at hI53)
     refine HA_back rfl (kp [nn,nn,yy,yy,yy] [_,_,_] rfl) ?_
     refine HA_loud2 (i:=12) (j:=16) (by kernel_rfl) rfl rfl ?_ ?_
     ·refine HO_indexAddr open_Op (i:=2) (j:=0) rfl rfl rfl rfl rfl Try.underlying23 Try.sizeOf40 rfl ?_ ?_
      ·decide
      intro b50 o50 z50 y50 hz50 hI50
      (try simp only [BIG] at hI50)
      refine HA_back rfl (kp [nn,nn,nn,nn,yy,yy,yy] [_,_,_] rfl) ?_
      refine HA_loud2 (i:=13) (j:=16) (by kernel_rfl) rfl rfl ?_ ?_
      ·refine HO_loadA (i:=0) (us:=[]) (cs:=[_,_,_,_,_,_,_,_,_,_,_,_,_,_,_,_,_]) (ts:=[]) rfl rfl rfl Try.isAgg40 Try.sizeOf40 rfl (.elem _ _ _) rfl rfl rfl rfl ?_
       refine HA_back rfl (kp [nn,nn,nn,nn,yy,yy,yy] [_,_,_] rfl) ?_
       refine HA_loud1 (i:=16) (by kernel_rfl) rfl ?_
       refine HO_loadA (i:=2) (us:=[]) (cs:=[_,_,_,_,_,_,_,_,_,_,_,_,_,_,_,_,_]) (ts:=[]) rfl rfl rfl Try.isAgg40 Try.sizeOf40 rfl (.elem _ _ _) rfl rfl rfl rfl ?_
       refine HA_back rfl (kp [nn,nn,nn,nn,yy,yy,yy] [_,_,_] rfl) ?_
       refine HA_loud1 (i:=17) (by kernel_rfl) rfl ?_
       refine HO_call (first:=[]) (capt:=[]) (is:=[]) (R:=[_,_,_,_,_,_,_]) rfl rfl rfl rfl rfl Try.call21 rfl (hbefore_spec _ _ _ _ _ _ _ _ _ _ _ _ _ _ _ _ _ _ _ _ _ _ _ _ _ _ _ _ _ _ _ _ _ _ _ _ _ _) ?_
       intro y55 hy55
       clear y55 hy55
       refine HA_back rfl (kp [nn,nn,nn,nn,yy,yy,yy] [_,_,_] rfl) ?_
       refine HA_take (i:=18) bp rfl rfl rfl rfl (by kernel_rfl) rfl (V_pick_t rfl rfl) (kp [nn,nn,nn,nn,yy,yy,yy] [_,_,_] rfl) ?_
       refine HA_take (i:=19) bp rfl rfl rfl rfl (by kernel_rfl) rfl (V_assign rfl) (kp [nn,nn,nn,nn,yy,yy,yy] [_,_,_] rfl) ?_
       refine HA_done (by kernel_rfl) ?_
       refine H_env (ρ':=[(0,_)]) ⟨rfl,trivial⟩ ?_
       refine H_world (kp [nn,nn,nn,nn,nn,yy,yy] [_,_] rfl) ?_
       refine H_ret1 Try.results15 (.tmp rfl) (fun w hA => ⟨(),congrArg Ending.returned ?_,?_,?_⟩)
       ·(exact congrArg Value.bool (by rw [show z50 = ⟨⟨3,1,1,⟨#[107]⟩,⟨#[]⟩,⟨#[118]⟩,⟨#[]⟩,0⟩,⟨0,false,⟨#[]⟩,0,[]⟩,1,2,2,false⟩ from (Option.some.inj hz50).symm,show z53 = ⟨⟨4,0,0,⟨#[107]⟩,⟨#[]⟩,⟨#[]⟩,⟨#[]⟩,0⟩,⟨0,true,⟨#[118]⟩,0,[]⟩,3,4,2,true⟩ from (Option.some.inj hz53).symm];decide +kernel))
       ·trivial
       ·exact hA.keep (m:=[nn,nn]) (Y:=[]) rfl
      ·refine HO_loadA (i:=2) (us:=[]) (cs:=[_,_,_,_,_,_,_,_,_,_,_,_,_,_,_,_,_]) (ts:=[]) rfl rfl rfl Try.isAgg40 Try.sizeOf40 rfl (.elem _ _ _) rfl rfl rfl rfl ?_
       refine HA_back rfl (kp [nn,nn,nn,nn,yy,yy,yy] [_,_,_] rfl) ?_
       refine HA_loud1 (i:=13) (by kernel_rfl) rfl ?_
       refine HO_loadA (i:=0) (us:=[]) (cs:=[_,_,_,_,_,_,_,_,_,_,_,_,_,_,_,_,_]) (ts:=[]) rfl rfl rfl Try.isAgg40 Try.sizeOf40 rfl (.elem _ _ _) rfl rfl rfl rfl ?_
       refine HA_back rfl (kp [nn,nn,nn,nn,yy,yy,yy] [_,_,_] rfl) ?_
       refine HA_loud1 (i:=17) (by kernel_rfl) rfl ?_
       refine HO_call (first:=[]) (capt:=[]) (is:=[]) (R:=[_,_,_,_,_,_,_]) rfl rfl rfl rfl rfl Try.call21 rfl (hbefore_spec _ _ _ _ _ _ _ _ _ _ _ _ _ _ _ _ _ _ _ _ _ _ _ _ _ _ _ _ _ _ _ _ _ _ _ _ _ _) ?_
       intro y55 hy55
       clear y55 hy55
       refine HA_back rfl (kp [nn,nn,nn,nn,yy,yy,yy] [_,_,_] rfl) ?_
       refine HA_take (i:=18) bp rfl rfl rfl rfl (by kernel_rfl) rfl (V_pick_t rfl rfl) (kp [nn,nn,nn,nn,yy,yy,yy] [_,_,_] rfl) ?_
       refine HA_take (i:=19) bp rfl rfl rfl rfl (by kernel_rfl) rfl (V_assign rfl) (kp [nn,nn,nn,nn,yy,yy,yy] [_,_,_] rfl) ?_
       refine HA_done (by kernel_rfl) ?_
       refine H_env (ρ':=[(0,_)]) ⟨rfl,trivial⟩ ?_
       refine H_world (kp [nn,nn,nn,nn,nn,yy,yy] [_,_] rfl) ?_
       refine H_ret1 Try.results15 (.tmp rfl) (fun w hA => ⟨(),congrArg Ending.returned ?_,?_,?_⟩)
       ·(exact congrArg Value.bool (by rw [show z50 = ⟨⟨3,1,1,⟨#[107]⟩,⟨#[]⟩,⟨#[118]⟩,⟨#[]⟩,0⟩,⟨0,false,⟨#[]⟩,0,[]⟩,1,2,2,false⟩ from (Option.some.inj hz50).symm,show z53 = ⟨⟨4,0,0,⟨#[107]⟩,⟨#[]⟩,⟨#[]⟩,⟨#[]⟩,0⟩,⟨0,true,⟨#[118]⟩,0,[]⟩,3,4,2,true⟩ from (Option.some.inj hz53).symm];decide +kernel))
       ·trivial
       ·exact hA.keep (m:=[nn,nn]) (Y:=[]) rfl
     ·refine HO_loadA (i:=0) (us:=[]) (cs:=[_,_,_,_,_,_,_,_,_,_,_,_,_,_,_,_,_]) (ts:=[]) rfl rfl rfl Try.isAgg40 Try.sizeOf40 rfl (.elem _ _ _) rfl rfl rfl rfl ?_
      refine HA_back rfl (kp [nn,nn,yy,yy,yy] [_,_,_] rfl) ?_
      refine HA_loud1 (i:=12) (by kernel_rfl) rfl ?_
      refine HO_indexAddr open_Op (i:=2) (j:=0) rfl rfl rfl rfl rfl Try.underlying23 Try.sizeOf40 rfl ?_ ?_
      ·decide
      intro b50 o50 z50 y50 hz50 hI50
      (try simp only [BIG] at hI50)
      refine HA_back rfl (kp [nn,nn,nn,nn,yy,yy,yy] [_,_,_] rfl) ?_
      refine HA_loud1 (i:=13) (by kernel_rfl) rfl ?_
      refine HO_loadA (i:=0) (us:=[]) (cs:=[_,_,_,_,_,_,_,_,_,_,_,_,_,_,_,_,_]) (ts:=[]) rfl rfl rfl Try.isAgg40 Try.sizeOf40 rfl (.elem _ _ _) rfl rfl rfl rfl ?_
      refine HA_back rfl (kp [nn,nn,nn,nn,yy,yy,yy] [_,_,_] rfl) ?_
      refine HA_loud1 (i:=17) (by kernel_rfl) rfl ?_
      refine HO_call (first:=[]) (capt:=[]) (is:=[]) (R:=[_,_,_,_,_,_,_]) rfl rfl rfl rfl rfl Try.call21 rfl (hbefore_spec _ _ _ _ _ _ _ _ _ _ _ _ _ _ _ _ _ _ _ _ _ _ _ _ _ _ _ _ _ _ _ _ _ _ _ _ _ _) ?_
      intro y55 hy55
      clear y55 hy55
      refine HA_back rfl (kp [nn,nn,nn,nn,yy,yy,yy] [_,_,_] rfl) ?_
      refine HA_take (i:=18) bp rfl rfl rfl rfl (by kernel_rfl) rfl (V_pick_t rfl rfl) (kp [nn,nn,nn,nn,yy,yy,yy] [_,_,_] rfl) ?_
      refine HA_take (i:=19) bp rfl rfl rfl rfl (by kernel_rfl) rfl (V_assign rfl) (kp [nn,nn,nn,nn,yy,yy,yy] [_,_,_] rfl) ?_
      refine HA_done (by kernel_rfl) ?_
      refine H_env (ρ':=[(0,_)]) ⟨rfl,trivial⟩ ?_
      refine H_world (kp [nn,nn,nn,nn,nn,yy,yy] [_,_] rfl) ?_
      refine H_ret1 Try.results15 (.tmp rfl) (fun w hA => ⟨(),congrArg Ending.returned ?_,?_,?_⟩)
      ·(exact congrArg Value.bool (by rw [show z50 = ⟨⟨3,1,1,⟨#[107]⟩,⟨#[]⟩,⟨#[118]⟩,⟨#[]⟩,0⟩,⟨0,false,⟨#[]⟩,0,[]⟩,1,2,2,false⟩ from (Option.some.inj hz50).symm,show z53 = ⟨⟨4,0,0,⟨#[107]⟩,⟨#[]⟩,⟨#[]⟩,⟨#[]⟩,0⟩,⟨0,true,⟨#[118]⟩,0,[]⟩,3,4,2,true⟩ from (Option.some.inj hz53).symm];decide +kernel))
      ·trivial
      ·exact hA.keep (m:=[nn,nn]) (Y:=[]) rfl
   intro h48
   replace h48:=dF h48
   (rw [hck2] at h48;exact absurd rfl h48)
  intro h44
  replace h44:=dF h44
  (rw [hck1] at h44;exact absurd rfl h44)
 intro h40
 replace h40:=dF h40
 (rw [hck1] at h40;exact absurd rfl h40)
end Go.Wk
