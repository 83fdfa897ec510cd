/- Contracts of the program's functions, each proved by walking its code. -/
import Derived.Test.YtlkdpglngomblaaKfhist3
import Derived.Test.YtlkdpglngomblaaOrd3
set_option maxRecDepth 100000
set_option linter.unusedVariables false
set_option linter.unusedSimpArgs false
namespace Go.Wk.Fhist4
open Go Go.RowKit Go.Proofs Go.Wk
theorem elt34 : Elt Try.prog 34 (.agg #[.slice none 0 0,.slice none 0 0]) 2 48:=Elt.of (by kernel_rfl) (by rfl) (by decide) (by decide)
theorem elt85 : Elt Try.prog 85 (.agg #[.int .i64 (0),.int .i64 (0),.int .i64 (0),.string (⟨#[]⟩),.string (⟨#[]⟩),.string (⟨#[]⟩),.string (⟨#[]⟩),.int .i64 (0),.int .i64 (0),.bool (false),.string (⟨#[]⟩),.int .i64 (0),.slice none 0 0,.int .i64 (0),.int .i64 (0),.int .i64 (0),.bool (false)]) 17 192:=Elt.of (by kernel_rfl) (by rfl) (by decide) (by decide)
theorem bd34__  : ∀ w,(Instr.build 34 (List.toArray (List.zip [] []))).run Try.prog w = .ok (.agg #[.slice none 0 0,.slice none 0 0]) w:=fun _ => by kernel_rfl
theorem bd85_0_1_2_3_4_5_AiiittttiEAiotisEiiio {x2 : Int} {x3 : Int} {x4 : Int} {x5 : ByteArray} {x6 : ByteArray} {x7 : ByteArray} {x8 : ByteArray} {x9 : Int} {x11 : Int} {x12 : Bool} {x13 : ByteArray} {x14 : Int} {a15 : Option Addr} {n15 c15 : Nat} {x16 : Int} {x17 : Int} {x18 : Int} {x19 : Bool} : ∀ w,(Instr.build 85 (List.toArray (List.zip [0,1,2,3,4,5] [.agg #[.int .i64 x2,.int .i64 x3,.int .i64 x4,.string x5,.string x6,.string x7,.string x8,.int .i64 x9],.agg #[.int .i64 x11,.bool x12,.string x13,.int .i64 x14,.slice a15 n15 c15],.int .i64 x16,.int .i64 x17,.int .i64 x18,.bool x19]))).run Try.prog w = .ok (.agg #[.int .i64 x2,.int .i64 x3,.int .i64 x4,.string x5,.string x6,.string x7,.string x8,.int .i64 x9,.int .i64 x11,.bool x12,.string x13,.int .i64 x14,.slice a15 n15 c15,.int .i64 x16,.int .i64 x17,.int .i64 x18,.bool x19]) w:=fun _ => by kernel_rfl
theorem eq36_eql {x y : Operand} {a0 b0 : Int} {a1 b1 : Int} {a2 b2 : Int} {a3 b3 : ByteArray} {a4 b4 : ByteArray} {a5 b5 : ByteArray} {a6 b6 : ByteArray} {a7 b7 : Int} : BinR Try.prog .eql 36 x y (.agg #[.int .i64 a0,.int .i64 a1,.int .i64 a2,.string a3,.string a4,.string a5,.string a6,.int .i64 a7]) (.agg #[.int .i64 b0,.int .i64 b1,.int .i64 b2,.string b3,.string b4,.string b5,.string b6,.int .i64 b7]) (.bool (decide (a0 = b0) && (decide (a1 = b1) && (decide (a2 = b2) && (decide (a3 = b3) && (decide (a4 = b4) && (decide (a5 = b5) && (decide (a6 = b6) && (decide (a7 = b7) && true))))))))) :=
 bin_eqs_agg (by kernel_rfl) Try.underlying36 (by kernel_rfl) (fun w => (eqF_int (by decide) Try.underlying3 Try.isAgg3 rfl rfl (eqF_int (by decide) Try.underlying3 Try.isAgg3 rfl rfl (eqF_int (by decide) Try.underlying3 Try.isAgg3 rfl rfl (eqF_str (by decide) Try.underlying9 Try.isAgg9 rfl rfl (eqF_str (by decide) Try.underlying9 Try.isAgg9 rfl rfl (eqF_str (by decide) Try.underlying9 Try.isAgg9 rfl rfl (eqF_str (by decide) Try.underlying9 Try.isAgg9 rfl rfl (eqF_int (by decide) Try.underlying3 Try.isAgg3 rfl rfl eqF_nil)))))))))
theorem eq36_neq {x y : Operand} {a0 b0 : Int} {a1 b1 : Int} {a2 b2 : Int} {a3 b3 : ByteArray} {a4 b4 : ByteArray} {a5 b5 : ByteArray} {a6 b6 : ByteArray} {a7 b7 : Int} : BinR Try.prog .neq 36 x y (.agg #[.int .i64 a0,.int .i64 a1,.int .i64 a2,.string a3,.string a4,.string a5,.string a6,.int .i64 a7]) (.agg #[.int .i64 b0,.int .i64 b1,.int .i64 b2,.string b3,.string b4,.string b5,.string b6,.int .i64 b7]) (.bool (!(decide (a0 = b0) && (decide (a1 = b1) && (decide (a2 = b2) && (decide (a3 = b3) && (decide (a4 = b4) && (decide (a5 = b5) && (decide (a6 = b6) && (decide (a7 = b7) && true)))))))))) :=
 bin_nes_agg (by kernel_rfl) Try.underlying36 (by kernel_rfl) (fun w => (eqF_int (by decide) Try.underlying3 Try.isAgg3 rfl rfl (eqF_int (by decide) Try.underlying3 Try.isAgg3 rfl rfl (eqF_int (by decide) Try.underlying3 Try.isAgg3 rfl rfl (eqF_str (by decide) Try.underlying9 Try.isAgg9 rfl rfl (eqF_str (by decide) Try.underlying9 Try.isAgg9 rfl rfl (eqF_str (by decide) Try.underlying9 Try.isAgg9 rfl rfl (eqF_str (by decide) Try.underlying9 Try.isAgg9 rfl rfl (eqF_int (by decide) Try.underlying3 Try.isAgg3 rfl rfl eqF_nil)))))))))
end Go.Wk.Fhist4
namespace Go.Wk
open Go Go.RowKit Go.Proofs Fhist4 
theorem plain22_spec (ops : List Op) (a9 : Option Addr) (c9 : Nat) (hl : ops.length≤10000) : Spec Try.prog 35 #[.slice a9 (ops.length) c9] [.dat kOp.sl (ops) [.slice a9 (ops.length) c9]] (β:=Option Addr × Nat) (fun y => .slice y.1 (ops.length) y.2) (fun y => True) (fun y => [.dat kOp.sl (ops) [.slice y.1 (ops.length) y.2]]):=by
 refine Spec.enter (vs:=[_]) Try.func35 rfl Try.ntmps35 rfl (Nat.le_of_ble_eq_true rfl) (fun w0 ok0 => ?_)
 generalize hM0 : blks _ = M0
 have hMn:=@noM _ _ hM0 (by simp [Atom.dat,Atom.elem])
 refine H_len_le (i:=0) rfl ?_
 intro hlen0
 refine H_seq ?_
 refine H_region (l:=[_]) rfl ?_
 refine HO_assign rfl rfl rfl ?_
 refine HO_nil ?_
 refine H_env (ρ':=[(0,_)]) ⟨rfl,trivial⟩ ?_
 refine H_seq ?_
 refine H_region (l:=[_]) rfl ?_
 refine HO_assign rfl rfl rfl ?_
 refine HO_nil ?_
 refine H_seq ?_
 refine H_seq ?_
 refine H_region (l:=[_,_,_]) rfl ?_
 refine HO_move rfl rfl rfl ?_
 refine HO_bi rfl rfl rfl (bi_len_sl Try.underlying23) ?_
 refine HO_move rfl rfl rfl ?_
 refine HO_nil ?_
 refine H_env (ρ':=[(8,_),(7,_),(6,_),(3,_)]) ⟨rfl,rfl,rfl,rfl,trivial⟩ ?_
 refine H_block ?_
 refine H_own0 kOp 85 none ?_
 refine H_loop (σ:=Nat × Option Addr × Nat) (fun s => s.1≤ops.length) (fun s => [(3,.slice s.2.1 (((ops.take s.1)).length) s.2.2),(6,.slice a9 (ops.length) c9),(7,.int .i64 ((ops.length : Int))),(8,.int .i64 ((s.1 : Int)))]) (fun s => Asn w0 ok0 M0 [.own 85 kOp s.2.1 s.2.2 ((ops.take s.1)),.dat kOp.sl (ops) [.slice a9 (ops.length) c9]]) (fun s => ops.length - s.1) ⟨0,none,0⟩ ?_ ?_ ?_ ?_
 ·exact Nat.zero_le _
 ·exact ⟨rfl,rfl,rfl,rfl,trivial⟩
 ·intro w hA
  exact hA.only (is:=[0,1]) (Z:=[]) rfl
 ·rintro ⟨i,p,q⟩ hI
  (try dsimp only at hI ⊢)
  refine H_seq ?_
  refine H_region (l:=[_]) rfl ?_
  refine HO_bin rfl rfl rfl rfl bin_lss ?_
  refine HO_nil ?_
  refine H_seq ?_
  refine H_cond rfl ?_ ?_
  ·intro h9
   replace h9:=dT h9
   refine H_skip ?_
   refine H_seq ?_
   refine H_block ?_
   refine H_seq ?_
   refine H_region (l:=[_,_,_,_]) rfl ?_
   refine HO_indexAddr open_Op (i:=1) rfl rfl rfl rfl rfl Try.underlying23 Try.sizeOf40 rfl ?_ ?_
   ·omega
   intro b10 o10 z10 y10 hz10 hI10
   (try simp only [BIG] at hI10)
   refine HO_loadA (i:=0) (us:=[]) (cs:=[_,_,_,_,_,_,_,_,_,_,_,_,_,_,_,_,_]) (ts:=[]) rfl rfl rfl Try.isAgg40 Try.sizeOf40 rfl (.elem _ _ _) rfl rfl rfl rfl ?_
   refine HO_alloc (cs:=[_,_,_,_,_,_,_,_,_,_,_,_,_,_,_,_,_]) rfl rfl Try.zeroValue40 rfl ?_
   intro g5
   refine HO_store (i:=0) (j:=0) (us:=[]) (old:=[_,_,_,_,_,_,_,_,_,_,_,_,_,_,_,_,_]) (ts:=[]) (cs:=[_,_,_,_,_,_,_,_,_,_,_,_,_,_,_,_,_]) (R:=[_,_,_,_]) (new:=[_,_,_,_,_,_,_,_,_,_,_,_,_,_,_,_,_]) rfl rfl rfl Try.sizeOf40 rfl (by simp [Value.oneCell']) rfl rfl rfl rfl rfl rfl ?_
   refine HO_nil ?_
   refine H_env (ρ':=[(5,_),(3,_),(6,_),(7,_),(8,_)]) ⟨rfl,rfl,rfl,rfl,rfl,trivial⟩ ?_
   refine H_world (kp [yy,nn,yy,yy,yy] [_,_,_,_] rfl) ?_
   refine H_region (l:=[_,_,_,_,_,_,_,_,_,_,_,_,_,_,_,_,_]) rfl ?_
   refine HO_move rfl rfl rfl ?_
   refine HO_fieldAddr (r:=0) rfl rfl rfl Try.underlying40 rfl Try.sizeOf36 rfl ?_
   refine HO_loadA (i:=0) (us:=[]) (cs:=[_,_,_,_,_,_,_,_]) (ts:=[_,_,_,_,_,_,_,_,_]) rfl rfl rfl Try.isAgg36 Try.sizeOf36 rfl (.loc _ _ _) rfl rfl rfl rfl ?_
   refine HO_fieldAddr (r:=8) rfl rfl rfl Try.underlying40 rfl Try.sizeOf38 rfl ?_
   refine HO_loadA (i:=0) (us:=[_,_,_,_,_,_,_,_]) (cs:=[_,_,_,_,_]) (ts:=[_,_,_,_]) rfl rfl rfl Try.isAgg38 Try.sizeOf38 rfl (.loc _ _ _) rfl rfl rfl rfl ?_
   refine HO_fieldAddr (r:=13) rfl rfl rfl Try.underlying40 rfl Try.sizeOf3 rfl ?_
   refine HO_load1 (i:=0) (j:=13) rfl rfl rfl Try.isAgg3 rfl (.loc _ _ _) rfl rfl ?_
   refine HO_fieldAddr (r:=14) rfl rfl rfl Try.underlying40 rfl Try.sizeOf3 rfl ?_
   refine HO_load1 (i:=0) (j:=14) rfl rfl rfl Try.isAgg3 rfl (.loc _ _ _) rfl rfl ?_
   refine HO_fieldAddr (r:=15) rfl rfl rfl Try.underlying40 rfl Try.sizeOf3 rfl ?_
   refine HO_load1 (i:=0) (j:=15) rfl rfl rfl Try.isAgg3 rfl (.loc _ _ _) rfl rfl ?_
   refine HO_fieldAddr (r:=16) rfl rfl rfl Try.underlying40 rfl Try.sizeOf4 rfl ?_
   refine HO_load1 (i:=0) (j:=16) rfl rfl rfl Try.isAgg4 rfl (.loc _ _ _) rfl rfl ?_
   refine HO_build (xo:=[(0,_),(1,_),(2,_),(3,_),(4,_),(5,_)]) (vs:=[_,_,_,_,_,_]) rfl rfl rfl rfl (bd85_0_1_2_3_4_5_AiiittttiEAiotisEiiio) ?_
   refine HO_buildSlice (kd:=kOp) (xo:=[_]) (vs:=[_]) (cs:=[_,_,_,_,_,_,_,_,_,_,_,_,_,_,_,_,_]) (xs:=[z10]) rfl rfl rfl rfl Try.underlying80 elt85 rfl rfl rfl (by decide) (by decide) (by simp [Value.cells]) rfl (fun ok w hA => ⟨_,_,rfl,⟨hI10,⟨_,_⟩,rfl,(List.forall_mem_cons.2 ⟨hA _ (List.mem_of_getElem? (i:=1) rfl),(by simp)⟩)⟩,rfl⟩) ?_
   intro g26
   refine HO_append (i:=3) (R:=[_,_,_,_]) rfl rfl rfl rfl rfl Try.underlying80 elt85 rfl rfl (SrcOk.own (j:=0) Try.underlying80 rfl rfl) ?_ ?_
   ·(simp only [List.length_append,List.length_cons,List.length_nil,List.length_take];omega)
   intro a27 c27
   refine HO_assign rfl rfl rfl ?_
   refine HO_nil ?_
   refine H_env (ρ':=[(3,_),(6,_),(7,_),(8,_)]) ⟨rfl,rfl,rfl,rfl,trivial⟩ ?_
   refine H_world (kp [yy,nn,nn,nn,yy] [_,_] rfl) ?_
   refine H_blk ?_
   refine H_region (l:=[_,_]) rfl ?_
   refine HO_bin rfl rfl rfl rfl (bin_add ?_ ?_) ?_
   ·omega
   ·omega
   refine HO_move rfl rfl rfl ?_
   refine HO_nil ?_
   refine H_env (ρ':=[(8,_),(3,_),(6,_),(7,_)]) ⟨rfl,rfl,rfl,rfl,trivial⟩ ?_
   refine H_inv (fun a w hf hA => ⟨⟨i + 1,a27,c27⟩,?_,?_,hf.sub ?_,?_⟩)
   ·(show i + 1≤ops.length;omega)
   ·(try dsimp only);omega
   ·exact ⟨congrArg (fun l : List Op => some (Value.slice _ l.length _)) (take_at hz10).symm,rfl,rfl,rfl,trivial⟩
   ·(dsimp only;rw [take_at hz10];exact hA.only (is:=[0,1]) (Z:=[]) rfl)
  intro h9
  replace h9:=dF h9
  refine H_exit rfl ?_
  refine H_seq ?_
  obtain rfl : i = ops.length:=by omega
  rw [List.take_length]
  refine H_region (l:=[_,_]) rfl ?_
  refine HO_move rfl rfl rfl ?_
  refine HO_assign rfl rfl rfl ?_
  refine HO_nil ?_
  refine H_env (ρ':=[(2,_)]) ⟨rfl,trivial⟩ ?_
  refine H_world (kp [yy,nn] [_] rfl) ?_
  refine H_freeze (i:=0) (R:=[]) rfl hMn ?_
  refine H_ret1 Try.results35 (.tmp rfl) (fun w hA => ⟨(p,q),congrArg Ending.returned ?_,?_,?_⟩)
  ·rfl
  ·trivial
  ·exact hA.keep (m:=[yy]) (Y:=[_]) rfl
set_option maxHeartbeats 0 in
theorem rone_spec (log : List Ent) (a8 : Option Addr) (c8 : Nat) (s8 : Option Addr) (t8 : Nat) (ops : List Op) (a9 : Option Addr) (c9 : Nat) (ki cs sq : Int) (ke ol cv ti : ByteArray) (li er : Int) (fo : Bool) (va : ByteArray) (se : Int) (ps : List Pair) (ap : Option Addr) (cp : Nat) (s0 s1 at_ : Int) (rd : Bool) (hl : log.length≤200) (ra : -9223372036854775808≤at_∧at_≤9223372036854775807) (rc : -9223372036854775808≤cs∧cs≤9223372036854775807) (rq : -9223372036854775808≤sq∧sq≤9223372036854775807) (sk : ke.size≤BIG) (sc : cv.size≤BIG) : Spec Try.prog 70 #[.slice a8 (log.length) c8,.slice s8 (((Hist.sts log log.length)).length) t8,.slice a9 (ops.length) c9,.agg #[.int .i64 (ki),.int .i64 (cs),.int .i64 (sq),.string (ke),.string (ol),.string (cv),.string (ti),.int .i64 (li),.int .i64 (er),.bool (fo),.string (va),.int .i64 (se),.slice ap (ps.length) cp,.int .i64 (s0),.int .i64 (s1),.int .i64 (at_),.bool (rd)]] [.dat kEnt.sl (log) [.slice a8 (log.length) c8],.dat kSt.sl ((Hist.sts log log.length)) [.slice s8 (((Hist.sts log log.length)).length) t8],.dat kOp.sl (ops) [.slice a9 (ops.length) c9],.dat kPair.sl (ps) [.slice ap (ps.length) cp]] (β:=Unit) (fun y => .int .i64 (Hist.one log ops (⟨⟨ki,cs,sq,ke,ol,cv,ti,li⟩,⟨er,fo,va,se,ps⟩,s0,s1,at_,rd⟩ : Op))) (fun y => True) (fun y => []):=by
 refine Spec.enter (vs:=[_,_,_,_]) Try.func70 rfl Try.ntmps70 rfl (Nat.le_of_ble_eq_true rfl) (fun w0 ok0 => ?_)
 generalize hM0 : blks _ = M0
 have hMn:=@noM _ _ hM0 (by simp [Atom.dat,Atom.elem])
 refine H_len_le (i:=0) rfl ?_
 intro hlen0
 refine H_len_le (i:=1) rfl ?_
 intro hlen1
 refine H_len_le (i:=2) rfl ?_
 intro hlen2
 refine H_len_le (i:=3) rfl ?_
 intro hlen3
 refine H_seq ?_
 refine H_region (l:=[_,_]) rfl ?_
 refine HO_box (cs:=[_,_,_,_,_,_,_,_,_,_,_,_,_,_,_,_,_]) rfl rfl rfl rfl ?_
 intro g7
 refine HO_assign rfl rfl rfl ?_
 refine HO_nil ?_
 refine H_env (ρ':=[(7,_),(0,_),(1,_),(2,_)]) ⟨rfl,rfl,rfl,rfl,trivial⟩ ?_
 refine H_seq ?_
 refine H_seq ?_
 refine H_meetE (σ:=Unit) _ (fun s => True) (fun s => [(0,.slice a8 (log.length) c8),(1,.slice s8 (((Hist.sts log log.length)).length) t8),(2,.slice a9 (ops.length) c9),(7,.pointer (some ⟨g7,0,none⟩)),(43,.bool (Hist.eRange log (⟨⟨ki,cs,sq,ke,ol,cv,ti,li⟩,⟨er,fo,va,se,ps⟩,s0,s1,at_,rd⟩ : Op)))]) (fun s => Asn w0 ok0 M0 [.dat kEnt.sl (log) [.slice a8 (log.length) c8],.dat kSt.sl ((Hist.sts log log.length)) [.slice s8 (((Hist.sts log log.length)).length) t8],.dat kOp.sl (ops) [.slice a9 (ops.length) c9],.loc g7 [.int .i64 (ki),.int .i64 (cs),.int .i64 (sq),.string (ke),.string (ol),.string (cv),.string (ti),.int .i64 (li),.int .i64 (er),.bool (fo),.string (va),.int .i64 (se),.slice ap (ps.length) cp,.int .i64 (s0),.int .i64 (s1),.int .i64 (at_),.bool (rd)] 85,.dat kPair.sl (ps) [.slice ap (ps.length) cp]]) ?_ ?_
 ·skip
  refine H_region (l:=[_,_,_,_,_,_,_,_,_,_,_,_,_,_,_,_,_,_,_,_,_,_,_,_,_,_,_,_,_,_,_,_]) rfl ?_
  refine HO_fieldAddr (r:=14) rfl rfl rfl Try.underlying85 rfl Try.sizeOf3 rfl ?_
  refine HO_load1 (i:=0) (j:=14) rfl rfl rfl Try.isAgg3 rfl (.loc _ _ _) rfl rfl ?_
  refine HO_bin rfl rfl rfl rfl bin_gtr ?_
  refine HO_move rfl rfl rfl ?_
  refine HO_split (d:=15) rfl ?_ ?_
  ·intro h15
   replace h15:=dT h15
   refine HO_fieldAddr (r:=15) rfl rfl rfl Try.underlying85 rfl Try.sizeOf3 rfl ?_
   refine HO_load1 (i:=0) (j:=15) rfl rfl rfl Try.isAgg3 rfl (.loc _ _ _) rfl rfl ?_
   refine HO_bin rfl rfl rfl rfl bin_lss ?_
   refine HO_move rfl rfl rfl ?_
   refine HO_split (d:=19) rfl ?_ ?_
   ·intro h19
    replace h19:=dT h19
    iterate 5 refine HO_no rfl rfl rfl ?_
    iterate 2 refine HO_pick_t rfl rfl rfl rfl ?_
    refine HO_move rfl rfl rfl ?_
    iterate 5 refine HO_no rfl rfl rfl ?_
    refine HO_pick_t rfl rfl rfl rfl ?_
    refine HO_move rfl rfl rfl ?_
    iterate 8 refine HO_no rfl rfl rfl ?_
    refine HO_pick_t rfl rfl rfl rfl ?_
    refine HO_nil ?_
    refine H_env (ρ':=[(43,_),(7,_),(0,_),(1,_),(2,_)]) ⟨rfl,rfl,rfl,rfl,rfl,trivial⟩ ?_
    refine H_inv (fun a w hf hA => ⟨(),?_,hf.sub ?_,?_⟩)
    ·trivial
    ·exact ⟨rfl,rfl,rfl,rfl,congrArg (fun b => some (Value.bool b)) (by first | (simp [Hist.eRange,Hist.e1, *];done) | (simp_all [Hist.eRange,Hist.e1];done)),trivial⟩
    ·exact hA.only (is:=[0,1,2,0,4]) (Z:=[]) rfl
   intro h19
   replace h19:=dF h19
   refine HO_fieldAddr (r:=14) rfl rfl rfl Try.underlying85 rfl Try.sizeOf3 rfl ?_
   refine HO_load1 (i:=0) (j:=14) rfl rfl rfl Try.isAgg3 rfl (.loc _ _ _) rfl rfl ?_
   refine HO_fieldAddr (r:=13) rfl rfl rfl Try.underlying85 rfl Try.sizeOf3 rfl ?_
   refine HO_load1 (i:=0) (j:=13) rfl rfl rfl Try.isAgg3 rfl (.loc _ _ _) rfl rfl ?_
   refine HO_bin rfl rfl rfl rfl bin_lss ?_
   refine HO_pick_f rfl rfl rfl rfl ?_
   refine HO_pick_t rfl rfl rfl rfl ?_
   refine HO_move rfl rfl rfl ?_
   refine HO_split (d:=27) rfl ?_ ?_
   ·intro h27
    replace h27:=dT h27
    iterate 5 refine HO_no rfl rfl rfl ?_
    refine HO_pick_t rfl rfl rfl rfl ?_
    refine HO_move rfl rfl rfl ?_
    iterate 8 refine HO_no rfl rfl rfl ?_
    refine HO_pick_t rfl rfl rfl rfl ?_
    refine HO_nil ?_
    refine H_env (ρ':=[(43,_),(7,_),(0,_),(1,_),(2,_)]) ⟨rfl,rfl,rfl,rfl,rfl,trivial⟩ ?_
    refine H_inv (fun a w hf hA => ⟨(),?_,hf.sub ?_,?_⟩)
    ·trivial
    ·exact ⟨rfl,rfl,rfl,rfl,congrArg (fun b => some (Value.bool b)) (by first | (simp [Hist.eRange,Hist.e1, *];done) | (simp_all [Hist.eRange,Hist.e1];done)),trivial⟩
    ·exact hA.only (is:=[0,1,2,0,4]) (Z:=[]) rfl
   intro h27
   replace h27:=dF h27
   refine HO_fieldAddr (r:=15) rfl rfl rfl Try.underlying85 rfl Try.sizeOf3 rfl ?_
   refine HO_load1 (i:=0) (j:=15) rfl rfl rfl Try.isAgg3 rfl (.loc _ _ _) rfl rfl ?_
   refine HO_move rfl rfl rfl ?_
   refine HO_bi rfl rfl rfl (bi_len_sl Try.underlying22) ?_
   refine HO_bin rfl rfl rfl rfl bin_gtr ?_
   refine HO_pick_f rfl rfl rfl rfl ?_
   refine HO_move rfl rfl rfl ?_
   refine HO_split (d:=34) rfl ?_ ?_
   ·intro h34
    replace h34:=dT h34
    iterate 8 refine HO_no rfl rfl rfl ?_
    refine HO_pick_t rfl rfl rfl rfl ?_
    refine HO_nil ?_
    refine H_env (ρ':=[(43,_),(7,_),(0,_),(1,_),(2,_)]) ⟨rfl,rfl,rfl,rfl,rfl,trivial⟩ ?_
    refine H_inv (fun a w hf hA => ⟨(),?_,hf.sub ?_,?_⟩)
    ·trivial
    ·exact ⟨rfl,rfl,rfl,rfl,congrArg (fun b => some (Value.bool b)) (by first | (simp [Hist.eRange,Hist.e1, *];done) | (simp_all [Hist.eRange,Hist.e1];done)),trivial⟩
    ·exact hA.only (is:=[0,1,2,0,4]) (Z:=[]) rfl
   intro h34
   replace h34:=dF h34
   refine HO_fieldAddr (r:=16) rfl rfl rfl Try.underlying85 rfl Try.sizeOf4 rfl ?_
   refine HO_load1 (i:=0) (j:=16) rfl rfl rfl Try.isAgg4 rfl (.loc _ _ _) rfl rfl ?_
   refine HO_not rfl rfl rfl ?_
   refine HO_move rfl rfl rfl ?_
   refine HO_split (d:=38) rfl ?_ ?_
   ·intro h38
    replace h38:=nT h38
    refine HO_fieldAddr (r:=15) rfl rfl rfl Try.underlying85 rfl Try.sizeOf3 rfl ?_
    refine HO_load1 (i:=0) (j:=15) rfl rfl rfl Try.isAgg3 rfl (.loc _ _ _) rfl rfl ?_
    refine HO_bin rfl rfl rfl rfl bin_eql ?_
    refine HO_pick_t rfl rfl rfl rfl ?_
    refine HO_pick_f rfl rfl rfl rfl ?_
    refine HO_nil ?_
    refine H_env (ρ':=[(43,_),(7,_),(0,_),(1,_),(2,_)]) ⟨rfl,rfl,rfl,rfl,rfl,trivial⟩ ?_
    refine H_inv (fun a w hf hA => ⟨(),?_,hf.sub ?_,?_⟩)
    ·trivial
    ·exact ⟨rfl,rfl,rfl,rfl,congrArg (fun b => some (Value.bool b)) (by first | (simp [Hist.eRange,Hist.e1, *];done) | (simp_all [Hist.eRange,Hist.e1];done)),trivial⟩
    ·exact hA.only (is:=[0,1,2,0,4]) (Z:=[]) rfl
   intro h38
   replace h38:=nF h38
   iterate 3 refine HO_no rfl rfl rfl ?_
   iterate 2 refine HO_pick_f rfl rfl rfl rfl ?_
   refine HO_nil ?_
   refine H_env (ρ':=[(43,_),(7,_),(0,_),(1,_),(2,_)]) ⟨rfl,rfl,rfl,rfl,rfl,trivial⟩ ?_
   refine H_inv (fun a w hf hA => ⟨(),?_,hf.sub ?_,?_⟩)
   ·trivial
   ·exact ⟨rfl,rfl,rfl,rfl,congrArg (fun b => some (Value.bool b)) (by first | (simp [Hist.eRange,Hist.e1, *];done) | (simp_all [Hist.eRange,Hist.e1];done)),trivial⟩
   ·exact hA.only (is:=[0,1,2,0,4]) (Z:=[]) rfl
  intro h15
  replace h15:=dF h15
  iterate 10 refine HO_no rfl rfl rfl ?_
  refine HO_pick_f rfl rfl rfl rfl ?_
  refine HO_move rfl rfl rfl ?_
  refine HO_fieldAddr (r:=15) rfl rfl rfl Try.underlying85 rfl Try.sizeOf3 rfl ?_
  refine HO_load1 (i:=0) (j:=15) rfl rfl rfl Try.isAgg3 rfl (.loc _ _ _) rfl rfl ?_
  refine HO_move rfl rfl rfl ?_
  refine HO_bi rfl rfl rfl (bi_len_sl Try.underlying22) ?_
  refine HO_bin rfl rfl rfl rfl bin_gtr ?_
  refine HO_pick_f rfl rfl rfl rfl ?_
  refine HO_move rfl rfl rfl ?_
  refine HO_split (d:=34) rfl ?_ ?_
  ·intro h34
   replace h34:=dT h34
   iterate 8 refine HO_no rfl rfl rfl ?_
   refine HO_pick_t rfl rfl rfl rfl ?_
   refine HO_nil ?_
   refine H_env (ρ':=[(43,_),(7,_),(0,_),(1,_),(2,_)]) ⟨rfl,rfl,rfl,rfl,rfl,trivial⟩ ?_
   refine H_inv (fun a w hf hA => ⟨(),?_,hf.sub ?_,?_⟩)
   ·trivial
   ·exact ⟨rfl,rfl,rfl,rfl,congrArg (fun b => some (Value.bool b)) (by first | (simp [Hist.eRange,Hist.e1, *];done) | (simp_all [Hist.eRange,Hist.e1];done)),trivial⟩
   ·exact hA.only (is:=[0,1,2,0,4]) (Z:=[]) rfl
  intro h34
  replace h34:=dF h34
  refine HO_fieldAddr (r:=16) rfl rfl rfl Try.underlying85 rfl Try.sizeOf4 rfl ?_
  refine HO_load1 (i:=0) (j:=16) rfl rfl rfl Try.isAgg4 rfl (.loc _ _ _) rfl rfl ?_
  refine HO_not rfl rfl rfl ?_
  refine HO_move rfl rfl rfl ?_
  refine HO_split (d:=38) rfl ?_ ?_
  ·intro h38
   replace h38:=nT h38
   refine HO_fieldAddr (r:=15) rfl rfl rfl Try.underlying85 rfl Try.sizeOf3 rfl ?_
   refine HO_load1 (i:=0) (j:=15) rfl rfl rfl Try.isAgg3 rfl (.loc _ _ _) rfl rfl ?_
   refine HO_bin rfl rfl rfl rfl bin_eql ?_
   refine HO_pick_t rfl rfl rfl rfl ?_
   refine HO_pick_f rfl rfl rfl rfl ?_
   refine HO_nil ?_
   refine H_env (ρ':=[(43,_),(7,_),(0,_),(1,_),(2,_)]) ⟨rfl,rfl,rfl,rfl,rfl,trivial⟩ ?_
   refine H_inv (fun a w hf hA => ⟨(),?_,hf.sub ?_,?_⟩)
   ·trivial
   ·exact ⟨rfl,rfl,rfl,rfl,congrArg (fun b => some (Value.bool b)) (by first | (simp [Hist.eRange,Hist.e1, *];done) | (simp_all [Hist.eRange,Hist.e1];done)),trivial⟩
   ·exact hA.only (is:=[0,1,2,0,4]) (Z:=[]) rfl
  intro h38
  replace h38:=nF h38
  iterate 3 refine HO_no rfl rfl rfl ?_
  iterate 2 refine HO_pick_f rfl rfl rfl rfl ?_
  refine HO_nil ?_
  refine H_env (ρ':=[(43,_),(7,_),(0,_),(1,_),(2,_)]) ⟨rfl,rfl,rfl,rfl,rfl,trivial⟩ ?_
  refine H_inv (fun a w hf hA => ⟨(),?_,hf.sub ?_,?_⟩)
  ·trivial
  ·exact ⟨rfl,rfl,rfl,rfl,congrArg (fun b => some (Value.bool b)) (by first | (simp [Hist.eRange,Hist.e1, *];done) | (simp_all [Hist.eRange,Hist.e1];done)),trivial⟩
  ·exact hA.only (is:=[0,1,2,0,4]) (Z:=[]) rfl
 intro _ hJ
 (try dsimp only at hJ ⊢)
 refine H_cond rfl ?_ ?_
 ·intro h43
  refine H_seq ?_
  refine H_region (l:=[_]) rfl ?_
  refine HO_assign rfl rfl rfl ?_
  refine HO_nil ?_
  refine H_env (ρ':=[(8,_)]) ⟨rfl,trivial⟩ ?_
  refine H_world (kp [nn,nn,nn,nn,nn] [] rfl) ?_
  refine H_ret1 Try.results70 (.tmp rfl) (fun w hA => ⟨(),congrArg Ending.returned ?_,?_,?_⟩)
  ·(exact congrArg (Value.int .i64) (Hist.one_6 h43).symm)
  ·trivial
  ·exact hA.keep (m:=[]) (Y:=[]) rfl
 intro h43
 have hrg : at_≤log.length∧(rd = false→at_ ≠ 0)∧(0 < s1→0≤at_∧s0≤s1):=Hist.range_at (x:=(⟨⟨ki,cs,sq,ke,ol,cv,ti,li⟩,⟨er,fo,va,se,ps⟩,s0,s1,at_,rd⟩ : Op)) h43
 refine H_skip ?_
 refine H_seq ?_
 refine H_seq ?_
 refine H_meetE (σ:=Unit) _ (fun s => True) (fun s => [(0,.slice a8 (log.length) c8),(1,.slice s8 (((Hist.sts log log.length)).length) t8),(2,.slice a9 (ops.length) c9),(7,.pointer (some ⟨g7,0,none⟩)),(73,.bool (Hist.eNone log (⟨⟨ki,cs,sq,ke,ol,cv,ti,li⟩,⟨er,fo,va,se,ps⟩,s0,s1,at_,rd⟩ : Op)))]) (fun s => Asn w0 ok0 M0 [.dat kEnt.sl (log) [.slice a8 (log.length) c8],.dat kSt.sl ((Hist.sts log log.length)) [.slice s8 (((Hist.sts log log.length)).length) t8],.dat kOp.sl (ops) [.slice a9 (ops.length) c9],.loc g7 [.int .i64 (ki),.int .i64 (cs),.int .i64 (sq),.string (ke),.string (ol),.string (cv),.string (ti),.int .i64 (li),.int .i64 (er),.bool (fo),.string (va),.int .i64 (se),.slice ap (ps.length) cp,.int .i64 (s0),.int .i64 (s1),.int .i64 (at_),.bool (rd)] 85,.dat kPair.sl (ps) [.slice ap (ps.length) cp]]) ?_ ?_
 ·skip
  refine H_drawB (m:=[yy,yy,yy,yy,yy]) (Xs:=[_,_,_,_,_]) (fuel:=30) (l:=#[false,false,false,false,false,false,false,false,false,false,false,false,false,false,false,false,false,false,false,false,false,false,false,false,false,false,false,false,false,false]) mixed rfl rfl rfl ?_
  refine HA_take (i:=0) bp rfl rfl rfl rfl (by kernel_rfl) rfl (V_fieldAddr (r:=16) rfl Try.underlying85 rfl Try.sizeOf4 rfl) (fun _ hA => hA) ?_
  refine HA_take (i:=1) bp rfl rfl rfl rfl (by kernel_rfl) rfl (V_load1 (i:=3) (j:=16) rfl Try.isAgg4 rfl (.loc _ _ _) rfl rfl) (fun _ hA => hA) ?_
  refine HA_take (i:=2) bp rfl rfl rfl rfl (by kernel_rfl) rfl (V_not rfl) (fun _ hA => hA) ?_
  refine HA_take (i:=3) bp rfl rfl rfl rfl (by kernel_rfl) rfl (V_move rfl) (fun _ hA => hA) ?_
  refine HA_split (d:=47) rfl ?_ ?_
  ·intro h47
   replace h47:=nT h47
   refine HA_take (i:=4) bp rfl rfl rfl rfl (by kernel_rfl) rfl (V_fieldAddr (r:=15) rfl Try.underlying85 rfl Try.sizeOf3 rfl) (fun _ hA => hA) ?_
   refine HA_take (i:=5) bp rfl rfl rfl rfl (by kernel_rfl) rfl (V_load1 (i:=3) (j:=15) rfl Try.isAgg3 rfl (.loc _ _ _) rfl rfl) (fun _ hA => hA) ?_
   refine HA_take (i:=6) bp rfl rfl rfl rfl (by kernel_rfl) rfl (V_bin rfl rfl bin_gtr) (fun _ hA => hA) ?_
   refine HA_take (i:=7) bp rfl rfl rfl rfl (by kernel_rfl) rfl (V_pick_t rfl rfl) (fun _ hA => hA) ?_
   refine HA_take (i:=8) bp rfl rfl rfl rfl (by kernel_rfl) rfl (V_move rfl) (fun _ hA => hA) ?_
   refine HA_split (d:=52) rfl ?_ ?_
   ·intro h52
    replace h52:=dT h52
    refine HA_take (i:=9) bp rfl rfl rfl rfl (by kernel_rfl) rfl (V_move rfl) (fun _ hA => hA) ?_
    refine HA_take (i:=10) bp rfl rfl rfl rfl (by kernel_rfl) rfl (V_fieldAddr (r:=15) rfl Try.underlying85 rfl Try.sizeOf3 rfl) (fun _ hA => hA) ?_
    refine HA_take (i:=11) bp rfl rfl rfl rfl (by kernel_rfl) rfl (V_load1 (i:=3) (j:=15) rfl Try.isAgg3 rfl (.loc _ _ _) rfl rfl) (fun _ hA => hA) ?_
    refine HA_take (i:=12) bp rfl rfl rfl rfl (by kernel_rfl) rfl (V_bin rfl rfl (bin_sub ?_ ?_)) (fun _ hA => hA) ?_
    ·omega
    ·omega
    refine HA_loud1 (i:=13) (by kernel_rfl) rfl ?_
    refine HO_indexAddr open_Ent (i:=0) (j:=(at_ - 1).toNat) rfl rfl rfl rfl ?_ Try.underlying22 Try.sizeOf44 rfl ?_ ?_
    ·omega
    ·omega
    intro b57 o57 z57 y57 hz57 hI57
    (try simp only [BIG] at hI57)
    refine HA_back rfl (kp [nn,nn,nn,yy,yy,yy,yy,yy] [_,_,_,_,_] rfl) ?_
    refine HA_take (i:=14) bp rfl rfl rfl rfl (by kernel_rfl) rfl (V_fieldAddr rfl Try.underlying44 rfl Try.sizeOf3 rfl) (kp [nn,nn,nn,yy,yy,yy,yy,yy] [_,_,_,_,_] rfl) ?_
    refine HA_loud1 (i:=15) (by kernel_rfl) rfl ?_
    refine HO_load1 (i:=0) (j:=2) rfl rfl rfl Try.isAgg3 rfl (.elem _ _ _) rfl rfl ?_
    refine HA_back rfl (kp [nn,nn,nn,yy,yy,yy,yy,yy] [_,_,_,_,_] rfl) ?_
    refine HA_take (i:=16) bp rfl rfl rfl rfl (by kernel_rfl) rfl (V_bin rfl rfl bin_neq) (kp [nn,nn,nn,yy,yy,yy,yy,yy] [_,_,_,_,_] rfl) ?_
    refine HA_take (i:=17) bp rfl rfl rfl rfl (by kernel_rfl) rfl (V_move rfl) (kp [nn,nn,nn,yy,yy,yy,yy,yy] [_,_,_,_,_] rfl) ?_
    refine HA_split (d:=61) rfl ?_ ?_
    ·intro h61
     replace h61:=dT h61
     refine HA_no (i:=18) bp rfl rfl rfl rfl (by kernel_rfl) rfl (kp [nn,nn,nn,yy,yy,yy,yy,yy] [_,_,_,_,_] rfl) ?_
     refine HA_no (i:=19) bp rfl rfl rfl rfl (by kernel_rfl) rfl (kp [nn,nn,nn,yy,yy,yy,yy,yy] [_,_,_,_,_] rfl) ?_
     refine HA_no (i:=20) bp rfl rfl rfl rfl (by kernel_rfl) rfl (kp [nn,nn,nn,yy,yy,yy,yy,yy] [_,_,_,_,_] rfl) ?_
     refine HA_no (i:=21) bp rfl rfl rfl rfl (by kernel_rfl) rfl (kp [nn,nn,nn,yy,yy,yy,yy,yy] [_,_,_,_,_] rfl) ?_
     refine HA_no (i:=22) bp rfl rfl rfl rfl (by kernel_rfl) rfl (kp [nn,nn,nn,yy,yy,yy,yy,yy] [_,_,_,_,_] rfl) ?_
     refine HA_no (i:=23) bp rfl rfl rfl rfl (by kernel_rfl) rfl (kp [nn,nn,nn,yy,yy,yy,yy,yy] [_,_,_,_,_] rfl) ?_
     refine HA_no (i:=24) bp rfl rfl rfl rfl (by kernel_rfl) rfl (kp [nn,nn,nn,yy,yy,yy,yy,yy] [_,_,_,_,_] rfl) ?_
     refine HA_no (i:=25) bp rfl rfl rfl rfl (by kernel_rfl) rfl (kp [nn,nn,nn,yy,yy,yy,yy,yy] [_,_,_,_,_] rfl) ?_
     refine HA_no (i:=26) bp rfl rfl rfl rfl (by kernel_rfl) rfl (kp [nn,nn,nn,yy,yy,yy,yy,yy] [_,_,_,_,_] rfl) ?_
     refine HA_no (i:=27) bp rfl rfl rfl rfl (by kernel_rfl) rfl (kp [nn,nn,nn,yy,yy,yy,yy,yy] [_,_,_,_,_] rfl) ?_
     refine HA_take (i:=28) bp rfl rfl rfl rfl (by kernel_rfl) rfl (V_pick_t rfl rfl) (kp [nn,nn,nn,yy,yy,yy,yy,yy] [_,_,_,_,_] rfl) ?_
     refine HA_take (i:=29) bp rfl rfl rfl rfl (by kernel_rfl) rfl (V_pick_t rfl rfl) (kp [nn,nn,nn,yy,yy,yy,yy,yy] [_,_,_,_,_] rfl) ?_
     refine HA_done (by kernel_rfl) ?_
     refine H_env (ρ':=[(73,_),(0,_),(1,_),(2,_),(7,_)]) ⟨rfl,rfl,rfl,rfl,rfl,trivial⟩ ?_
     refine H_world (kp [nn,nn,nn,yy,yy,yy,yy,yy] [_,_,_,_,_] rfl) ?_
     refine H_inv (fun a w hf hA => ⟨(),?_,hf.sub ?_,?_⟩)
     ·trivial
     ·exact ⟨rfl,rfl,rfl,rfl,congrArg (fun b => some (Value.bool b)) (by first | exact (Hist.none_no (x:=(⟨⟨ki,cs,sq,ke,ol,cv,ti,li⟩,⟨er,fo,va,se,ps⟩,s0,s1,at_,rd⟩ : Op)) (.inl h47)).symm | exact (Hist.none_no (x:=(⟨⟨ki,cs,sq,ke,ol,cv,ti,li⟩,⟨er,fo,va,se,ps⟩,s0,s1,at_,rd⟩ : Op)) (.inr h52)).symm | (rw [Hist.none_at (x:=(⟨⟨ki,cs,sq,ke,ol,cv,ti,li⟩,⟨er,fo,va,se,ps⟩,s0,s1,at_,rd⟩ : Op)) h47 h52 hz57];simp [h61];done) | (rw [Hist.none_at (x:=(⟨⟨ki,cs,sq,ke,ol,cv,ti,li⟩,⟨er,fo,va,se,ps⟩,s0,s1,at_,rd⟩ : Op)) h47 h52 hz66,← Cmd.eqv_dec];rw [hz57] at hz66;cases hz66;simp [h61,Cmd.eqv])),trivial⟩
     ·exact hA.only (is:=[0,1,2,3,4]) (Z:=[]) rfl
    intro h61
    replace h61:=dF h61
    refine HA_take (i:=18) bp rfl rfl rfl rfl (by kernel_rfl) rfl (V_move rfl) (kp [nn,nn,nn,yy,yy,yy,yy,yy] [_,_,_,_,_] rfl) ?_
    refine HA_take (i:=19) bp rfl rfl rfl rfl (by kernel_rfl) rfl (V_fieldAddr (r:=15) rfl Try.underlying85 rfl Try.sizeOf3 rfl) (kp [nn,nn,nn,yy,yy,yy,yy,yy] [_,_,_,_,_] rfl) ?_
    refine HA_take (i:=20) bp rfl rfl rfl rfl (by kernel_rfl) rfl (V_load1 (i:=3) (j:=15) rfl Try.isAgg3 rfl (.loc _ _ _) rfl rfl) (kp [nn,nn,nn,yy,yy,yy,yy,yy] [_,_,_,_,_] rfl) ?_
    refine HA_take (i:=21) bp rfl rfl rfl rfl (by kernel_rfl) rfl (V_bin rfl rfl (bin_sub ?_ ?_)) (kp [nn,nn,nn,yy,yy,yy,yy,yy] [_,_,_,_,_] rfl) ?_
    ·omega
    ·omega
    refine HA_take (i:=25) bp rfl rfl rfl rfl (by kernel_rfl) rfl (V_fieldAddr (r:=0) rfl Try.underlying85 rfl Try.sizeOf36 rfl) (kp [nn,nn,nn,yy,yy,yy,yy,yy] [_,_,_,_,_] rfl) ?_
    refine HA_take (i:=26) bp rfl rfl rfl rfl (by kernel_rfl) rfl (V_loadA (i:=3) (us:=[]) (cs:=[_,_,_,_,_,_,_,_]) (ts:=[_,_,_,_,_,_,_,_,_]) rfl Try.isAgg36 Try.sizeOf36 rfl (.loc _ _ _) rfl rfl rfl rfl) (kp [nn,nn,nn,yy,yy,yy,yy,yy] [_,_,_,_,_] rfl) ?_
    refine HA_loud1 (i:=22) (by kernel_rfl) rfl ?_
    refine HO_indexAddr open_Ent (i:=3) (j:=(at_ - 1).toNat) rfl rfl rfl rfl ?_ Try.underlying22 Try.sizeOf44 rfl ?_ ?_
    ·omega
    ·omega
    intro b66 o66 z66 y66 hz66 hI66
    (try simp only [BIG] at hI66)
    refine HA_back rfl (kp [nn,nn,nn,nn,nn,nn,yy,yy,yy,yy,yy] [_,_,_,_,_] rfl) ?_
    refine HA_take (i:=23) bp rfl rfl rfl rfl (by kernel_rfl) rfl (V_fieldAddr rfl Try.underlying44 rfl Try.sizeOf36 rfl) (kp [nn,nn,nn,nn,nn,nn,yy,yy,yy,yy,yy] [_,_,_,_,_] rfl) ?_
    refine HA_loud1 (i:=24) (by kernel_rfl) rfl ?_
    refine HO_loadA (i:=0) (us:=[_,_,_]) (cs:=[_,_,_,_,_,_,_,_]) (ts:=[_,_]) rfl rfl rfl Try.isAgg36 Try.sizeOf36 rfl (.elem _ _ _) rfl rfl rfl rfl ?_
    refine HA_back rfl (kp [nn,nn,nn,nn,nn,nn,yy,yy,yy,yy,yy] [_,_,_,_,_] rfl) ?_
    refine HA_take (i:=27) bp rfl rfl rfl rfl (by kernel_rfl) rfl (V_bin rfl rfl eq36_neq) (kp [nn,nn,nn,nn,nn,nn,yy,yy,yy,yy,yy] [_,_,_,_,_] rfl) ?_
    refine HA_take (i:=28) bp rfl rfl rfl rfl (by kernel_rfl) rfl (V_pick_f rfl rfl) (kp [nn,nn,nn,nn,nn,nn,yy,yy,yy,yy,yy] [_,_,_,_,_] rfl) ?_
    refine HA_take (i:=29) bp rfl rfl rfl rfl (by kernel_rfl) rfl (V_pick_t rfl rfl) (kp [nn,nn,nn,nn,nn,nn,yy,yy,yy,yy,yy] [_,_,_,_,_] rfl) ?_
    refine HA_done (by kernel_rfl) ?_
    refine H_env (ρ':=[(73,_),(0,_),(1,_),(2,_),(7,_)]) ⟨rfl,rfl,rfl,rfl,rfl,trivial⟩ ?_
    refine H_world (kp [nn,nn,nn,nn,nn,nn,yy,yy,yy,yy,yy] [_,_,_,_,_] rfl) ?_
    refine H_inv (fun a w hf hA => ⟨(),?_,hf.sub ?_,?_⟩)
    ·trivial
    ·exact ⟨rfl,rfl,rfl,rfl,congrArg (fun b => some (Value.bool b)) (by first | exact (Hist.none_no (x:=(⟨⟨ki,cs,sq,ke,ol,cv,ti,li⟩,⟨er,fo,va,se,ps⟩,s0,s1,at_,rd⟩ : Op)) (.inl h47)).symm | exact (Hist.none_no (x:=(⟨⟨ki,cs,sq,ke,ol,cv,ti,li⟩,⟨er,fo,va,se,ps⟩,s0,s1,at_,rd⟩ : Op)) (.inr h52)).symm | (rw [Hist.none_at (x:=(⟨⟨ki,cs,sq,ke,ol,cv,ti,li⟩,⟨er,fo,va,se,ps⟩,s0,s1,at_,rd⟩ : Op)) h47 h52 hz57];simp [h61];done) | (rw [Hist.none_at (x:=(⟨⟨ki,cs,sq,ke,ol,cv,ti,li⟩,⟨er,fo,va,se,ps⟩,s0,s1,at_,rd⟩ : Op)) h47 h52 hz66,← Cmd.eqv_dec];rw [hz57] at hz66;cases hz66;simp [h61,Cmd.eqv])),trivial⟩
    ·exact hA.only (is:=[0,1,2,3,4]) (Z:=[]) rfl
   intro h52
   replace h52:=dF h52
   refine HA_no (i:=9) bp rfl rfl rfl rfl (by kernel_rfl) rfl (fun _ hA => hA) ?_
   refine HA_no (i:=10) bp rfl rfl rfl rfl (by kernel_rfl) rfl (fun _ hA => hA) ?_
   refine HA_no (i:=11) bp rfl rfl rfl rfl (by kernel_rfl) rfl (fun _ hA => hA) ?_
   refine HA_no (i:=12) bp rfl rfl rfl rfl (by kernel_rfl) rfl (fun _ hA => hA) ?_
   refine HA_no (i:=13) bp rfl rfl rfl rfl (by kernel_rfl) rfl (fun _ hA => hA) ?_
   refine HA_no (i:=14) bp rfl rfl rfl rfl (by kernel_rfl) rfl (fun _ hA => hA) ?_
   refine HA_no (i:=15) bp rfl rfl rfl rfl (by kernel_rfl) rfl (fun _ hA => hA) ?_
   refine HA_no (i:=16) bp rfl rfl rfl rfl (by kernel_rfl) rfl (fun _ hA => hA) ?_
   refine HA_no (i:=17) bp rfl rfl rfl rfl (by kernel_rfl) rfl (fun _ hA => hA) ?_
   refine HA_no (i:=18) bp rfl rfl rfl rfl (by kernel_rfl) rfl (fun _ hA => hA) ?_
   refine HA_no (i:=19) bp rfl rfl rfl rfl (by kernel_rfl) rfl (fun _ hA => hA) ?_
   refine HA_no (i:=20) bp rfl rfl rfl rfl (by kernel_rfl) rfl (fun _ hA => hA) ?_
   refine HA_no (i:=21) bp rfl rfl rfl rfl (by kernel_rfl) rfl (fun _ hA => hA) ?_
   refine HA_no (i:=22) bp rfl rfl rfl rfl (by kernel_rfl) rfl (fun _ hA => hA) ?_
   refine HA_no (i:=23) bp rfl rfl rfl rfl (by kernel_rfl) rfl (fun _ hA => hA) ?_
   refine HA_no (i:=24) bp rfl rfl rfl rfl (by kernel_rfl) rfl (fun _ hA => hA) ?_
   refine HA_no (i:=25) bp rfl rfl rfl rfl (by kernel_rfl) rfl (fun _ hA => hA) ?_
   refine HA_no (i:=26) bp rfl rfl rfl rfl (by kernel_rfl) rfl (fun _ hA => hA) ?_
   refine HA_no (i:=27) bp rfl rfl rfl rfl (by kernel_rfl) rfl (fun _ hA => hA) ?_
   refine HA_no (i:=28) bp rfl rfl rfl rfl (by kernel_rfl) rfl (fun _ hA => hA) ?_
   refine HA_take (i:=29) bp rfl rfl rfl rfl (by kernel_rfl) rfl (V_pick_f rfl rfl) (fun _ hA => hA) ?_
   refine HA_done (by kernel_rfl) ?_
   refine H_env (ρ':=[(73,_),(0,_),(1,_),(2,_),(7,_)]) ⟨rfl,rfl,rfl,rfl,rfl,trivial⟩ ?_
   refine H_inv (fun a w hf hA => ⟨(),?_,hf.sub ?_,?_⟩)
   ·trivial
   ·exact ⟨rfl,rfl,rfl,rfl,congrArg (fun b => some (Value.bool b)) (by first | exact (Hist.none_no (x:=(⟨⟨ki,cs,sq,ke,ol,cv,ti,li⟩,⟨er,fo,va,se,ps⟩,s0,s1,at_,rd⟩ : Op)) (.inl h47)).symm | exact (Hist.none_no (x:=(⟨⟨ki,cs,sq,ke,ol,cv,ti,li⟩,⟨er,fo,va,se,ps⟩,s0,s1,at_,rd⟩ : Op)) (.inr h52)).symm | (rw [Hist.none_at (x:=(⟨⟨ki,cs,sq,ke,ol,cv,ti,li⟩,⟨er,fo,va,se,ps⟩,s0,s1,at_,rd⟩ : Op)) h47 h52 hz57];simp [h61];done) | (rw [Hist.none_at (x:=(⟨⟨ki,cs,sq,ke,ol,cv,ti,li⟩,⟨er,fo,va,se,ps⟩,s0,s1,at_,rd⟩ : Op)) h47 h52 hz66,← Cmd.eqv_dec];rw [hz57] at hz66;cases hz66;simp [h61,Cmd.eqv])),trivial⟩
   ·exact hA.only (is:=[0,1,2,3,4]) (Z:=[]) rfl
  intro h47
  replace h47:=nF h47
  refine HA_no (i:=4) bp rfl rfl rfl rfl (by kernel_rfl) rfl (fun _ hA => hA) ?_
  refine HA_no (i:=5) bp rfl rfl rfl rfl (by kernel_rfl) rfl (fun _ hA => hA) ?_
  refine HA_no (i:=6) bp rfl rfl rfl rfl (by kernel_rfl) rfl (fun _ hA => hA) ?_
  refine HA_take (i:=7) bp rfl rfl rfl rfl (by kernel_rfl) rfl (V_pick_f rfl rfl) (fun _ hA => hA) ?_
  refine HA_take (i:=8) bp rfl rfl rfl rfl (by kernel_rfl) rfl (V_move rfl) (fun _ hA => hA) ?_
  refine HA_no (i:=9) bp rfl rfl rfl rfl (by kernel_rfl) rfl (fun _ hA => hA) ?_
  refine HA_no (i:=10) bp rfl rfl rfl rfl (by kernel_rfl) rfl (fun _ hA => hA) ?_
  refine HA_no (i:=11) bp rfl rfl rfl rfl (by kernel_rfl) rfl (fun _ hA => hA) ?_
  refine HA_no (i:=12) bp rfl rfl rfl rfl (by kernel_rfl) rfl (fun _ hA => hA) ?_
  refine HA_no (i:=13) bp rfl rfl rfl rfl (by kernel_rfl) rfl (fun _ hA => hA) ?_
  refine HA_no (i:=14) bp rfl rfl rfl rfl (by kernel_rfl) rfl (fun _ hA => hA) ?_
  refine HA_no (i:=15) bp rfl rfl rfl rfl (by kernel_rfl) rfl (fun _ hA => hA) ?_
  refine HA_no (i:=16) bp rfl rfl rfl rfl (by kernel_rfl) rfl (fun _ hA => hA) ?_
  refine HA_no (i:=17) bp rfl rfl rfl rfl (by kernel_rfl) rfl (fun _ hA => hA) ?_
  refine HA_no (i:=18) bp rfl rfl rfl rfl (by kernel_rfl) rfl (fun _ hA => hA) ?_
  refine HA_no (i:=19) bp rfl rfl rfl rfl (by kernel_rfl) rfl (fun _ hA => hA) ?_
  refine HA_no (i:=20) bp rfl rfl rfl rfl (by kernel_rfl) rfl (fun _ hA => hA) ?_
  refine HA_no (i:=21) bp rfl rfl rfl rfl (by kernel_rfl) rfl (fun _ hA => hA) ?_
  refine HA_no (i:=22) bp rfl rfl rfl rfl (by kernel_rfl) rfl (fun _ hA => hA) ?_
  refine HA_no (i:=23) bp rfl rfl rfl rfl (by kernel_rfl) rfl (fun _ hA => hA) ?_
  refine HA_no (i:=24) bp rfl rfl rfl rfl (by kernel_rfl) rfl (fun _ hA => hA) ?_
  refine HA_no (i:=25) bp rfl rfl rfl rfl (by kernel_rfl) rfl (fun _ hA => hA) ?_
  refine HA_no (i:=26) bp rfl rfl rfl rfl (by kernel_rfl) rfl (fun _ hA => hA) ?_
  refine HA_no (i:=27) bp rfl rfl rfl rfl (by kernel_rfl) rfl (fun _ hA => hA) ?_
  refine HA_no (i:=28) bp rfl rfl rfl rfl (by kernel_rfl) rfl (fun _ hA => hA) ?_
  refine HA_take (i:=29) bp rfl rfl rfl rfl (by kernel_rfl) rfl (V_pick_f rfl rfl) (fun _ hA => hA) ?_
  refine HA_done (by kernel_rfl) ?_
  refine H_env (ρ':=[(73,_),(0,_),(1,_),(2,_),(7,_)]) ⟨rfl,rfl,rfl,rfl,rfl,trivial⟩ ?_
  refine H_inv (fun a w hf hA => ⟨(),?_,hf.sub ?_,?_⟩)
  ·trivial
  ·exact ⟨rfl,rfl,rfl,rfl,congrArg (fun b => some (Value.bool b)) (by first | exact (Hist.none_no (x:=(⟨⟨ki,cs,sq,ke,ol,cv,ti,li⟩,⟨er,fo,va,se,ps⟩,s0,s1,at_,rd⟩ : Op)) (.inl h47)).symm | exact (Hist.none_no (x:=(⟨⟨ki,cs,sq,ke,ol,cv,ti,li⟩,⟨er,fo,va,se,ps⟩,s0,s1,at_,rd⟩ : Op)) (.inr h52)).symm | (rw [Hist.none_at (x:=(⟨⟨ki,cs,sq,ke,ol,cv,ti,li⟩,⟨er,fo,va,se,ps⟩,s0,s1,at_,rd⟩ : Op)) h47 h52 hz57];simp [h61];done) | (rw [Hist.none_at (x:=(⟨⟨ki,cs,sq,ke,ol,cv,ti,li⟩,⟨er,fo,va,se,ps⟩,s0,s1,at_,rd⟩ : Op)) h47 h52 hz66,← Cmd.eqv_dec];rw [hz57] at hz66;cases hz66;simp [h61,Cmd.eqv])),trivial⟩
  ·exact hA.only (is:=[0,1,2,3,4]) (Z:=[]) rfl
 intro _ hJ
 (try dsimp only at hJ ⊢)
 refine H_cond rfl ?_ ?_
 ·intro h73
  refine H_seq ?_
  refine H_region (l:=[_]) rfl ?_
  refine HO_assign rfl rfl rfl ?_
  refine HO_nil ?_
  refine H_env (ρ':=[(8,_)]) ⟨rfl,trivial⟩ ?_
  refine H_world (kp [nn,nn,nn,nn,nn] [] rfl) ?_
  refine H_ret1 Try.results70 (.tmp rfl) (fun w hA => ⟨(),congrArg Ending.returned ?_,?_,?_⟩)
  ·(exact congrArg (Value.int .i64) (Hist.one_4 h43 h73).symm)
  ·trivial
  ·exact hA.keep (m:=[]) (Y:=[]) rfl
 intro h73
 refine H_skip ?_
 refine H_seq ?_
 refine H_seq ?_
 refine H_region (l:=[_,_,_]) rfl ?_
 refine HO_fieldAddr (r:=14) rfl rfl rfl Try.underlying85 rfl Try.sizeOf3 rfl ?_
 refine HO_load1 (i:=3) (j:=14) rfl rfl rfl Try.isAgg3 rfl (.loc _ _ _) rfl rfl ?_
 refine HO_bin rfl rfl rfl rfl bin_gtr ?_
 refine HO_nil ?_
 refine H_env (ρ':=[(76,_),(1,_),(2,_),(7,_)]) ⟨rfl,rfl,rfl,rfl,trivial⟩ ?_
 refine H_world (kp [nn,yy,yy,yy,yy] [_,_,_,_] rfl) ?_
 refine H_meet (σ:=Unit) _ (fun s => Hist.eRep log (⟨⟨ki,cs,sq,ke,ol,cv,ti,li⟩,⟨er,fo,va,se,ps⟩,s0,s1,at_,rd⟩ : Op) = false) [(2,.slice a9 (ops.length) c9),(7,.pointer (some ⟨g7,0,none⟩))] (fun s => Asn w0 ok0 M0 [.dat kOp.sl (ops) [.slice a9 (ops.length) c9],.loc g7 [.int .i64 (ki),.int .i64 (cs),.int .i64 (sq),.string (ke),.string (ol),.string (cv),.string (ti),.int .i64 (li),.int .i64 (er),.bool (fo),.string (va),.int .i64 (se),.slice ap (ps.length) cp,.int .i64 (s0),.int .i64 (s1),.int .i64 (at_),.bool (rd)] 85,.dat kPair.sl (ps) [.slice ap (ps.length) cp]]) ?_ ?_
 ·skip
  refine H_cond rfl ?_ ?_
  ·intro h76
   replace h76:=dT h76
   refine H_seq ?_
   refine H_region (l:=[_]) rfl ?_
   refine HO_alloc (cs:=[_,_,_,_,_]) rfl rfl Try.zeroValue38 rfl ?_
   intro g9
   refine HO_nil ?_
   refine H_env (ρ':=[(9,_),(1,_),(2,_),(7,_)]) ⟨rfl,rfl,rfl,rfl,trivial⟩ ?_
   refine H_seq ?_
   refine H_seq ?_
   have hrg2:=hrg.2.2 (by omega)
   refine H_region (l:=[_,_]) rfl ?_
   refine HO_fieldAddr (r:=16) rfl rfl rfl Try.underlying85 rfl Try.sizeOf4 rfl ?_
   refine HO_load1 (i:=3) (j:=16) rfl rfl rfl Try.isAgg4 rfl (.loc _ _ _) rfl rfl ?_
   refine HO_nil ?_
   refine H_env (ρ':=[(78,_),(9,_),(1,_),(2,_),(7,_)]) ⟨rfl,rfl,rfl,rfl,rfl,trivial⟩ ?_
   refine H_cond rfl ?_ ?_
   ·intro h78
    have hrp:=Hist.rep_query (log:=log) (x:=(⟨⟨ki,cs,sq,ke,ol,cv,ti,li⟩,⟨er,fo,va,se,ps⟩,s0,s1,at_,rd⟩ : Op)) (show 0 < s1 by omega) h78
    refine H_drawB (m:=[nn,yy,yy,yy,yy]) (Xs:=[_,_,_,_]) (fuel:=9) (l:=#[false,false,false,false,false,false,false,false,false]) mixed rfl rfl rfl ?_
    refine HA_take (i:=0) bp rfl rfl rfl rfl (by kernel_rfl) rfl (V_move rfl) (kp [nn,yy,yy,yy,yy] [_,_,_,_] rfl) ?_
    refine HA_take (i:=1) bp rfl rfl rfl rfl (by kernel_rfl) rfl (V_fieldAddr (r:=15) rfl Try.underlying85 rfl Try.sizeOf3 rfl) (kp [nn,yy,yy,yy,yy] [_,_,_,_] rfl) ?_
    refine HA_take (i:=2) bp rfl rfl rfl rfl (by kernel_rfl) rfl (V_load1 (i:=2) (j:=15) rfl Try.isAgg3 rfl (.loc _ _ _) rfl rfl) (kp [nn,yy,yy,yy,yy] [_,_,_,_] rfl) ?_
    refine HA_take (i:=5) bp rfl rfl rfl rfl (by kernel_rfl) rfl (V_fieldAddr (r:=0) rfl Try.underlying85 rfl Try.sizeOf36 rfl) (kp [nn,yy,yy,yy,yy] [_,_,_,_] rfl) ?_
    refine HA_take (i:=6) bp rfl rfl rfl rfl (by kernel_rfl) rfl (V_loadA (i:=2) (us:=[]) (cs:=[_,_,_,_,_,_,_,_]) (ts:=[_,_,_,_,_,_,_,_,_]) rfl Try.isAgg36 Try.sizeOf36 rfl (.loc _ _ _) rfl rfl rfl rfl) (kp [nn,yy,yy,yy,yy] [_,_,_,_] rfl) ?_
    refine HA_loud1 (i:=3) (by kernel_rfl) rfl ?_
    refine HO_indexAddr open_St (i:=1) (j:=at_.toNat) rfl rfl rfl rfl ?_ Try.underlying117 Try.sizeOf34 rfl ?_ ?_
    ·omega
    ·(rw [Hist.sts_len];omega)
    intro b82 o82 z82 y82 hz82 hI82
    (try simp only [BIG] at hI82)
    refine HA_back rfl (kp [nn,nn,nn,nn,yy,yy,yy,yy] [_,_,_,_] rfl) ?_
    refine HA_loud1 (i:=4) (by kernel_rfl) rfl ?_
    refine HO_loadA (i:=0) (us:=[]) (cs:=[_,_]) (ts:=[]) rfl rfl rfl Try.isAgg34 Try.sizeOf34 rfl (.elem _ _ _) rfl rfl rfl rfl ?_
    refine HA_back rfl (kp [nn,nn,nn,nn,yy,yy,yy,yy] [_,_,_,_] rfl) ?_
    refine HA_loud1 (i:=7) (by kernel_rfl) rfl ?_
    have hz0:=(Hist.sts_at hz82).1
    subst hz0
    refine HO_dup (i:=1) rfl rfl ?_
    refine HO_call (first:=[]) (capt:=[]) (is:=[0]) (R:=[_,_,_,_,_,_,_,_]) rfl rfl rfl rfl rfl Try.call20 rfl (rquery_spec _ _ _ _ _ _ _ _ _ _ _ _ _ _ ?_ ?_ ?_ ?_) ?_
    ·exact (Hist.state_inv log at_.toNat).ps
    ·exact (Hist.state_inv log at_.toNat).pl
    ·exact sk
    ·exact sc
    intro y86 hy86
    refine HA_back rfl (kp [nn,nn,nn,nn,nn,yy,yy,yy,yy] [_,_,_,_] rfl) ?_
    refine HA_loud1 (i:=8) (by kernel_rfl) rfl ?_
    refine HO_store (i:=4) (j:=0) (us:=[]) (old:=[_,_,_,_,_]) (ts:=[]) (cs:=[_,_,_,_,_]) (R:=[_,_,_,_,_,_,_,_]) (new:=[_,_,_,_,_]) rfl rfl rfl Try.sizeOf38 rfl (by simp [Value.oneCell']) rfl rfl rfl rfl rfl rfl ?_
    refine HA_back rfl (kp [nn,nn,nn,nn,nn,yy,yy,yy,yy] [_,_,_,_] rfl) ?_
    refine HA_done (by kernel_rfl) ?_
    refine H_env (ρ':=[(9,_),(2,_),(7,_)]) ⟨rfl,rfl,rfl,trivial⟩ ?_
    refine H_world (kp [yy,yy,nn,nn,nn,nn,yy,yy,yy] [_,_,_,_,_] rfl) ?_
    refine H_seq ?_
    refine H_region (l:=[_,_,_,_,_]) rfl ?_
    refine HO_loadA (i:=0) (us:=[]) (cs:=[_,_,_,_,_]) (ts:=[]) rfl rfl rfl Try.isAgg38 Try.sizeOf38 rfl (.loc _ _ _) rfl rfl rfl rfl ?_
    refine HO_fieldAddr (r:=8) rfl rfl rfl Try.underlying85 rfl Try.sizeOf38 rfl ?_
    refine HO_loadA (i:=3) (us:=[_,_,_,_,_,_,_,_]) (cs:=[_,_,_,_,_]) (ts:=[_,_,_,_]) rfl rfl rfl Try.isAgg38 Try.sizeOf38 rfl (.loc _ _ _) rfl rfl rfl rfl ?_
    refine HO_dup (i:=1) rfl rfl ?_
    refine HO_dup (i:=5) rfl rfl ?_
    refine HO_call (first:=[]) (capt:=[]) (is:=[0,0]) (R:=[_,_,_,_,_]) rfl rfl rfl rfl rfl Try.call19 rfl (rrsame9_spec _ _ _ _ _ _ _ _ _ _ _ _ _ _) ?_
    intro y104 hy104
    clear y104 hy104
    refine HO_not rfl rfl rfl ?_
    refine HO_nil ?_
    refine H_env (ρ':=[(105,_),(2,_),(7,_)]) ⟨rfl,rfl,rfl,trivial⟩ ?_
    refine H_world (kp [nn,nn,yy,yy,yy] [_,_,_] rfl) ?_
    refine H_cond rfl ?_ ?_
    ·intro h105
     replace h105:=dF (nT h105)
     refine H_seq ?_
     have hR8 : Hist.eRep log (⟨⟨ki,cs,sq,ke,ol,cv,ti,li⟩,⟨er,fo,va,se,ps⟩,s0,s1,at_,rd⟩ : Op) = true:=hrp.trans (congrArg not (decide_eq_false h105))
     refine H_region (l:=[_]) rfl ?_
     refine HO_assign rfl rfl rfl ?_
     refine HO_nil ?_
     refine H_env (ρ':=[(8,_)]) ⟨rfl,trivial⟩ ?_
     refine H_world (kp [nn,nn,nn] [] rfl) ?_
     refine H_ret1 Try.results70 (.tmp rfl) (fun w hA => ⟨(),congrArg Ending.returned ?_,?_,?_⟩)
     ·(exact congrArg (Value.int .i64) (Hist.one_8 h43 h73 hR8).symm)
     ·trivial
     ·exact hA.keep (m:=[]) (Y:=[]) rfl
    intro h105
    replace h105:=dT (nF h105)
    refine H_skip ?_
    refine H_inv (fun a w hf hA => ⟨hf.sub ?_,(),?_,?_⟩)
    ·exact ⟨rfl,rfl,trivial⟩
    ·(first | exact Hist.rep_none (x:=(⟨⟨ki,cs,sq,ke,ol,cv,ti,li⟩,⟨er,fo,va,se,ps⟩,s0,s1,at_,rd⟩ : Op)) h76 | exact hrp.trans (congrArg not (decide_eq_true h105)))
    ·exact hA.only (is:=[0,1,2]) (Z:=[]) rfl
   intro h78
   have hrp:=Hist.rep_apply (log:=log) (x:=(⟨⟨ki,cs,sq,ke,ol,cv,ti,li⟩,⟨er,fo,va,se,ps⟩,s0,s1,at_,rd⟩ : Op)) (show 0 < s1 by omega) h78
   have hrg3:=hrg.2.1 h78
   refine H_drawB (m:=[nn,yy,yy,yy,yy]) (Xs:=[_,_,_,_]) (fuel:=15) (l:=#[false,false,false,false,false,false,false,false,false,false,false,false,false,false,false]) mixed rfl rfl rfl ?_
   refine HA_take (i:=0) bp rfl rfl rfl rfl (by kernel_rfl) rfl (V_move rfl) (kp [nn,yy,yy,yy,yy] [_,_,_,_] rfl) ?_
   refine HA_take (i:=1) bp rfl rfl rfl rfl (by kernel_rfl) rfl (V_fieldAddr (r:=15) rfl Try.underlying85 rfl Try.sizeOf3 rfl) (kp [nn,yy,yy,yy,yy] [_,_,_,_] rfl) ?_
   refine HA_take (i:=2) bp rfl rfl rfl rfl (by kernel_rfl) rfl (V_load1 (i:=2) (j:=15) rfl Try.isAgg3 rfl (.loc _ _ _) rfl rfl) (kp [nn,yy,yy,yy,yy] [_,_,_,_] rfl) ?_
   refine HA_take (i:=3) bp rfl rfl rfl rfl (by kernel_rfl) rfl (V_bin rfl rfl (bin_sub ?_ ?_)) (kp [nn,yy,yy,yy,yy] [_,_,_,_] rfl) ?_
   ·omega
   ·omega
   refine HA_take (i:=6) bp rfl rfl rfl rfl (by kernel_rfl) rfl (V_fieldAddr (r:=15) rfl Try.underlying85 rfl Try.sizeOf3 rfl) (kp [nn,yy,yy,yy,yy] [_,_,_,_] rfl) ?_
   refine HA_take (i:=7) bp rfl rfl rfl rfl (by kernel_rfl) rfl (V_load1 (i:=2) (j:=15) rfl Try.isAgg3 rfl (.loc _ _ _) rfl rfl) (kp [nn,yy,yy,yy,yy] [_,_,_,_] rfl) ?_
   refine HA_take (i:=8) bp rfl rfl rfl rfl (by kernel_rfl) rfl (V_fieldAddr (r:=0) rfl Try.underlying85 rfl Try.sizeOf36 rfl) (kp [nn,yy,yy,yy,yy] [_,_,_,_] rfl) ?_
   refine HA_take (i:=9) bp rfl rfl rfl rfl (by kernel_rfl) rfl (V_loadA (i:=2) (us:=[]) (cs:=[_,_,_,_,_,_,_,_]) (ts:=[_,_,_,_,_,_,_,_,_]) rfl Try.isAgg36 Try.sizeOf36 rfl (.loc _ _ _) rfl rfl rfl rfl) (kp [nn,yy,yy,yy,yy] [_,_,_,_] rfl) ?_
   refine HA_loud1 (i:=4) (by kernel_rfl) rfl ?_
   refine HO_indexAddr open_St (i:=1) (j:=(at_ - 1).toNat) rfl rfl rfl rfl ?_ Try.underlying117 Try.sizeOf34 rfl ?_ ?_
   ·omega
   ·(rw [Hist.sts_len];omega)
   intro b92 o92 z92 y92 hz92 hI92
   (try simp only [BIG] at hI92)
   refine HA_back rfl (kp [nn,nn,nn,nn,yy,yy,yy,yy] [_,_,_,_] rfl) ?_
   refine HA_loud1 (i:=5) (by kernel_rfl) rfl ?_
   refine HO_loadA (i:=0) (us:=[]) (cs:=[_,_]) (ts:=[]) rfl rfl rfl Try.isAgg34 Try.sizeOf34 rfl (.elem _ _ _) rfl rfl rfl rfl ?_
   refine HA_back rfl (kp [nn,nn,nn,nn,yy,yy,yy,yy] [_,_,_,_] rfl) ?_
   refine HA_loud1 (i:=10) (by kernel_rfl) rfl ?_
   have hz0:=(Hist.sts_at hz92).1
   subst hz0
   refine HO_dup (i:=1) rfl rfl ?_
   refine HO_dup (i:=3) rfl rfl ?_
   refine HO_call (first:=[]) (capt:=[]) (is:=[0,0]) (R:=[_,_,_,_,_,_,_,_]) rfl rfl rfl rfl rfl Try.call18 rfl (rapply_spec _ _ _ _ _ _ _ _ _ _ _ _ _ _ _ ?_ ?_ ?_ ?_ ?_ ?_) ?_
   ·exact Hist.state_inv log (at_ - 1).toNat
   ·exact ra
   ·exact rc
   ·exact rq
   ·exact sk
   ·exact sc
   intro y98 hy98
   refine HA_back rfl (kp [nn,nn,nn,nn,nn,nn,nn,yy,yy,yy,yy] [_,_,_,_] rfl) ?_
   refine HA_take (i:=11) bp rfl rfl rfl rfl (by kernel_rfl) rfl (V_move rfl) (kp [nn,nn,nn,nn,nn,nn,nn,yy,yy,yy,yy] [_,_,_,_] rfl) ?_
   refine HA_take (i:=12) bp rfl rfl rfl rfl (by kernel_rfl) rfl (V_extract (vs:=[_,_]) rfl rfl) (kp [nn,nn,nn,nn,nn,nn,nn,yy,yy,yy,yy] [_,_,_,_] rfl) ?_
   refine HA_take (i:=13) bp rfl rfl rfl rfl (by kernel_rfl) rfl (V_extract (vs:=[_,_]) rfl rfl) (kp [nn,nn,nn,nn,nn,nn,nn,yy,yy,yy,yy] [_,_,_,_] rfl) ?_
   refine HA_loud1 (i:=14) (by kernel_rfl) rfl ?_
   refine HO_store (i:=6) (j:=0) (us:=[]) (old:=[_,_,_,_,_]) (ts:=[]) (cs:=[_,_,_,_,_]) (R:=[_,_,_,_,_,_,_,_,_,_]) (new:=[_,_,_,_,_]) rfl rfl rfl Try.sizeOf38 rfl (by simp [Value.oneCell']) rfl rfl rfl rfl rfl rfl ?_
   refine HA_back rfl (kp [nn,nn,nn,nn,nn,nn,nn,yy,yy,yy,yy] [_,_,_,_] rfl) ?_
   refine HA_done (by kernel_rfl) ?_
   refine H_env (ρ':=[(9,_),(2,_),(7,_)]) ⟨rfl,rfl,rfl,trivial⟩ ?_
   refine H_world (kp [yy,nn,nn,yy,nn,nn,nn,nn,yy,yy,yy] [_,_,_,_,_] rfl) ?_
   refine H_seq ?_
   refine H_region (l:=[_,_,_,_,_]) rfl ?_
   refine HO_loadA (i:=0) (us:=[]) (cs:=[_,_,_,_,_]) (ts:=[]) rfl rfl rfl Try.isAgg38 Try.sizeOf38 rfl (.loc _ _ _) rfl rfl rfl rfl ?_
   refine HO_fieldAddr (r:=8) rfl rfl rfl Try.underlying85 rfl Try.sizeOf38 rfl ?_
   refine HO_loadA (i:=3) (us:=[_,_,_,_,_,_,_,_]) (cs:=[_,_,_,_,_]) (ts:=[_,_,_,_]) rfl rfl rfl Try.isAgg38 Try.sizeOf38 rfl (.loc _ _ _) rfl rfl rfl rfl ?_
   refine HO_dup (i:=1) rfl rfl ?_
   refine HO_dup (i:=5) rfl rfl ?_
   refine HO_call (first:=[]) (capt:=[]) (is:=[0,0]) (R:=[_,_,_,_,_]) rfl rfl rfl rfl rfl Try.call19 rfl (rrsame9_spec _ _ _ _ _ _ _ _ _ _ _ _ _ _) ?_
   intro y104 hy104
   clear y104 hy104
   refine HO_not rfl rfl rfl ?_
   refine HO_nil ?_
   refine H_env (ρ':=[(105,_),(2,_),(7,_)]) ⟨rfl,rfl,rfl,trivial⟩ ?_
   refine H_world (kp [nn,nn,yy,yy,yy] [_,_,_] rfl) ?_
   refine H_cond rfl ?_ ?_
   ·intro h105
    replace h105:=dF (nT h105)
    refine H_seq ?_
    have hR8 : Hist.eRep log (⟨⟨ki,cs,sq,ke,ol,cv,ti,li⟩,⟨er,fo,va,se,ps⟩,s0,s1,at_,rd⟩ : Op) = true:=hrp.trans (congrArg not (decide_eq_false h105))
    refine H_region (l:=[_]) rfl ?_
    refine HO_assign rfl rfl rfl ?_
    refine HO_nil ?_
    refine H_env (ρ':=[(8,_)]) ⟨rfl,trivial⟩ ?_
    refine H_world (kp [nn,nn,nn] [] rfl) ?_
    refine H_ret1 Try.results70 (.tmp rfl) (fun w hA => ⟨(),congrArg Ending.returned ?_,?_,?_⟩)
    ·(exact congrArg (Value.int .i64) (Hist.one_8 h43 h73 hR8).symm)
    ·trivial
    ·exact hA.keep (m:=[]) (Y:=[]) rfl
   intro h105
   replace h105:=dT (nF h105)
   refine H_skip ?_
   refine H_inv (fun a w hf hA => ⟨hf.sub ?_,(),?_,?_⟩)
   ·exact ⟨rfl,rfl,trivial⟩
   ·(first | exact Hist.rep_none (x:=(⟨⟨ki,cs,sq,ke,ol,cv,ti,li⟩,⟨er,fo,va,se,ps⟩,s0,s1,at_,rd⟩ : Op)) h76 | exact hrp.trans (congrArg not (decide_eq_true h105)))
   ·exact hA.only (is:=[0,1,2]) (Z:=[]) rfl
  intro h76
  replace h76:=dF h76
  refine H_skip ?_
  refine H_inv (fun a w hf hA => ⟨hf.sub ?_,(),?_,?_⟩)
  ·exact ⟨rfl,rfl,trivial⟩
  ·(first | exact Hist.rep_none (x:=(⟨⟨ki,cs,sq,ke,ol,cv,ti,li⟩,⟨er,fo,va,se,ps⟩,s0,s1,at_,rd⟩ : Op)) h76 | exact hrp.trans (congrArg not (decide_eq_true h105)))
  ·exact hA.only (is:=[1,2,3]) (Z:=[_]) rfl
 intro _ hJ
 (try dsimp only at hJ ⊢)
 have hRF:=hJ
 refine H_seq ?_
 refine H_seq ?_
 refine H_region (l:=[_,_,_]) rfl ?_
 refine HO_move rfl rfl rfl ?_
 refine HO_bi rfl rfl rfl (bi_len_sl Try.underlying80) ?_
 refine HO_move rfl rfl rfl ?_
 refine HO_nil ?_
 refine H_env (ρ':=[(108,_),(107,_),(106,_),(7,_)]) ⟨rfl,rfl,rfl,rfl,trivial⟩ ?_
 refine H_block ?_
 refine H_loop (σ:=Nat) (fun s => s≤ops.length∧(∀ (q : Nat) (y : Op),q < s→ops[q]? = some y→¬ (decide (0≤at_) && Hist.lateP (⟨⟨ki,cs,sq,ke,ol,cv,ti,li⟩,⟨er,fo,va,se,ps⟩,s0,s1,at_,rd⟩ : Op) y) = true)) (fun s => [(7,.pointer (some ⟨g7,0,none⟩)),(106,.slice a9 (ops.length) c9),(107,.int .i64 ((ops.length : Int))),(108,.int .i64 ((s : Int)))]) (fun s => Asn w0 ok0 M0 [.dat kOp.sl (ops) [.slice a9 (ops.length) c9],.loc g7 [.int .i64 (ki),.int .i64 (cs),.int .i64 (sq),.string (ke),.string (ol),.string (cv),.string (ti),.int .i64 (li),.int .i64 (er),.bool (fo),.string (va),.int .i64 (se),.slice ap (ps.length) cp,.int .i64 (s0),.int .i64 (s1),.int .i64 (at_),.bool (rd)] 85,.dat kPair.sl (ps) [.slice ap (ps.length) cp]]) (fun s => ops.length - s) 0 ?_ ?_ ?_ ?_
 ·exact ⟨Nat.zero_le _,fun q x hq _ => absurd hq (Nat.not_lt_zero _)⟩
 ·exact ⟨rfl,rfl,rfl,rfl,trivial⟩
 ·intro w hA
  exact hA.only (is:=[0,1,2]) (Z:=[]) rfl
 ·intro i hI
  (try dsimp only at hI ⊢)
  refine H_seq ?_
  refine H_region (l:=[_]) rfl ?_
  refine HO_bin rfl rfl rfl rfl bin_lss ?_
  refine HO_nil ?_
  refine H_seq ?_
  refine H_cond rfl ?_ ?_
  ·intro h109
   replace h109:=dT h109
   refine H_skip ?_
   refine H_seq ?_
   refine H_block ?_
   refine H_seq ?_
   refine H_region (l:=[_,_,_,_]) rfl ?_
   refine HO_indexAddr open_Op (i:=0) rfl rfl rfl rfl rfl Try.underlying80 Try.sizeOf85 rfl ?_ ?_
   ·omega
   intro b110 o110 z110 y110 hz110 hI110
   (try simp only [BIG] at hI110)
   refine HO_loadA (i:=0) (us:=[]) (cs:=[_,_,_,_,_,_,_,_,_,_,_,_,_,_,_,_,_]) (ts:=[]) rfl rfl rfl Try.isAgg85 Try.sizeOf85 rfl (.elem _ _ _) rfl rfl rfl rfl ?_
   refine HO_alloc (cs:=[_,_,_,_,_,_,_,_,_,_,_,_,_,_,_,_,_]) rfl rfl Try.zeroValue85 rfl ?_
   intro g11
   refine HO_store (i:=0) (j:=0) (us:=[]) (old:=[_,_,_,_,_,_,_,_,_,_,_,_,_,_,_,_,_]) (ts:=[]) (cs:=[_,_,_,_,_,_,_,_,_,_,_,_,_,_,_,_,_]) (R:=[_,_,_,_,_]) (new:=[_,_,_,_,_,_,_,_,_,_,_,_,_,_,_,_,_]) rfl rfl rfl Try.sizeOf85 rfl (by simp [Value.oneCell']) rfl rfl rfl rfl rfl rfl ?_
   refine HO_nil ?_
   refine H_env (ρ':=[(11,_),(7,_),(106,_),(107,_),(108,_)]) ⟨rfl,rfl,rfl,rfl,rfl,trivial⟩ ?_
   refine H_world (kp [yy,nn,yy,yy,yy,yy] [_,_,_,_,_] rfl) ?_
   refine H_seq ?_
   refine H_meetE (σ:=Unit) _ (fun s => True) (fun s => [(7,.pointer (some ⟨g7,0,none⟩)),(106,.slice a9 (ops.length) c9),(107,.int .i64 ((ops.length : Int))),(108,.int .i64 ((i : Int))),(143,.bool ((decide (0≤at_) && Hist.lateP (⟨⟨ki,cs,sq,ke,ol,cv,ti,li⟩,⟨er,fo,va,se,ps⟩,s0,s1,at_,rd⟩ : Op) z110)))]) (fun s => Asn w0 ok0 M0 [.dat kOp.sl (ops) [.slice a9 (ops.length) c9],.loc g7 [.int .i64 (ki),.int .i64 (cs),.int .i64 (sq),.string (ke),.string (ol),.string (cv),.string (ti),.int .i64 (li),.int .i64 (er),.bool (fo),.string (va),.int .i64 (se),.slice ap (ps.length) cp,.int .i64 (s0),.int .i64 (s1),.int .i64 (at_),.bool (rd)] 85,.dat kPair.sl (ps) [.slice ap (ps.length) cp]]) ?_ ?_
   ·skip
    refine H_region (l:=[_,_,_,_,_,_,_,_,_,_,_,_,_,_,_,_,_,_,_,_,_,_,_,_,_,_,_,_,_,_,_,_]) rfl ?_
    refine HO_loadA (i:=0) (us:=[]) (cs:=[_,_,_,_,_,_,_,_,_,_,_,_,_,_,_,_,_]) (ts:=[]) rfl rfl rfl Try.isAgg85 Try.sizeOf85 rfl (.loc _ _ _) rfl rfl rfl rfl ?_
    refine HO_loadA (i:=3) (us:=[]) (cs:=[_,_,_,_,_,_,_,_,_,_,_,_,_,_,_,_,_]) (ts:=[]) rfl rfl rfl Try.isAgg85 Try.sizeOf85 rfl (.loc _ _ _) rfl rfl rfl rfl ?_
    refine HO_call (first:=[]) (capt:=[]) (is:=[]) (R:=[_,_,_,_,_]) rfl rfl rfl rfl rfl Try.call37 rfl (rbefore_spec _ _ _ _ _ _ _ _ _ _ _ _ _ _ _ _ _ _ _ _ _ _ _ _ _ _ _ _ _ _ _ _ _ _ _ _ _ _) ?_
    intro y114 hy114
    clear y114 hy114
    refine HO_move rfl rfl rfl ?_
    refine HO_split (d:=115) rfl ?_ ?_
    ·intro h115
     refine HO_fieldAddr (r:=15) rfl rfl rfl Try.underlying85 rfl Try.sizeOf3 rfl ?_
     refine HO_load1 (i:=3) (j:=15) rfl rfl rfl Try.isAgg3 rfl (.loc _ _ _) rfl rfl ?_
     refine HO_bin rfl rfl rfl rfl bin_geq ?_
     refine HO_pick_t rfl rfl rfl rfl ?_
     refine HO_move rfl rfl rfl ?_
     refine HO_split (d:=120) rfl ?_ ?_
     ·intro h120
      replace h120:=dT h120
      refine HO_fieldAddr (r:=15) rfl rfl rfl Try.underlying85 rfl Try.sizeOf3 rfl ?_
      refine HO_load1 (i:=0) (j:=15) rfl rfl rfl Try.isAgg3 rfl (.loc _ _ _) rfl rfl ?_
      refine HO_bin rfl rfl rfl rfl bin_geq ?_
      refine HO_pick_t rfl rfl rfl rfl ?_
      refine HO_move rfl rfl rfl ?_
      refine HO_split (d:=125) rfl ?_ ?_
      ·intro h125
       replace h125:=dT h125
       refine HO_fieldAddr (r:=15) rfl rfl rfl Try.underlying85 rfl Try.sizeOf3 rfl ?_
       refine HO_load1 (i:=0) (j:=15) rfl rfl rfl Try.isAgg3 rfl (.loc _ _ _) rfl rfl ?_
       refine HO_fieldAddr (r:=15) rfl rfl rfl Try.underlying85 rfl Try.sizeOf3 rfl ?_
       refine HO_load1 (i:=3) (j:=15) rfl rfl rfl Try.isAgg3 rfl (.loc _ _ _) rfl rfl ?_
       refine HO_bin rfl rfl rfl rfl bin_gtr ?_
       refine HO_move rfl rfl rfl ?_
       refine HO_split (d:=131) rfl ?_ ?_
       ·intro h131
        replace h131:=dT h131
        iterate 10 refine HO_no rfl rfl rfl ?_
        iterate 2 refine HO_pick_t rfl rfl rfl rfl ?_
        refine HO_nil ?_
        refine H_env (ρ':=[(143,_),(7,_),(106,_),(107,_),(108,_)]) ⟨rfl,rfl,rfl,rfl,rfl,trivial⟩ ?_
        refine H_world (kp [nn,nn,yy,yy,yy] [_,_,_] rfl) ?_
        refine H_inv (fun a w hf hA => ⟨(),?_,hf.sub ?_,?_⟩)
        ·trivial
        ·exact ⟨rfl,rfl,rfl,rfl,congrArg (fun b => some (Value.bool b)) (by first | (simp [Hist.lateP,Hist.before, *];done) | (simp_all [Hist.lateP,Hist.before];done) | (simp_all [Hist.lateP,Hist.before];intros;omega)),trivial⟩
        ·exact hA.only (is:=[0,1,2]) (Z:=[]) rfl
       intro h131
       replace h131:=dF h131
       refine HO_fieldAddr (r:=15) rfl rfl rfl Try.underlying85 rfl Try.sizeOf3 rfl ?_
       refine HO_load1 (i:=0) (j:=15) rfl rfl rfl Try.isAgg3 rfl (.loc _ _ _) rfl rfl ?_
       refine HO_fieldAddr (r:=15) rfl rfl rfl Try.underlying85 rfl Try.sizeOf3 rfl ?_
       refine HO_load1 (i:=3) (j:=15) rfl rfl rfl Try.isAgg3 rfl (.loc _ _ _) rfl rfl ?_
       refine HO_bin rfl rfl rfl rfl bin_eql ?_
       refine HO_move rfl rfl rfl ?_
       refine HO_split (d:=137) rfl ?_ ?_
       ·intro h137
        replace h137:=dT h137
        refine HO_fieldAddr (r:=16) rfl rfl rfl Try.underlying85 rfl Try.sizeOf4 rfl ?_
        refine HO_load1 (i:=3) (j:=16) rfl rfl rfl Try.isAgg4 rfl (.loc _ _ _) rfl rfl ?_
        refine HO_not rfl rfl rfl ?_
        refine HO_pick_t rfl rfl rfl rfl ?_
        refine HO_pick_f rfl rfl rfl rfl ?_
        refine HO_pick_t rfl rfl rfl rfl ?_
        refine HO_nil ?_
        refine H_env (ρ':=[(143,_),(7,_),(106,_),(107,_),(108,_)]) ⟨rfl,rfl,rfl,rfl,rfl,trivial⟩ ?_
        refine H_world (kp [nn,nn,yy,yy,yy] [_,_,_] rfl) ?_
        refine H_inv (fun a w hf hA => ⟨(),?_,hf.sub ?_,?_⟩)
        ·trivial
        ·exact ⟨rfl,rfl,rfl,rfl,congrArg (fun b => some (Value.bool b)) (by first | (simp [Hist.lateP,Hist.before, *];done) | (simp_all [Hist.lateP,Hist.before];done) | (simp_all [Hist.lateP,Hist.before];intros;omega)),trivial⟩
        ·exact hA.only (is:=[0,1,2]) (Z:=[]) rfl
       intro h137
       replace h137:=dF h137
       iterate 3 refine HO_no rfl rfl rfl ?_
       iterate 2 refine HO_pick_f rfl rfl rfl rfl ?_
       refine HO_pick_t rfl rfl rfl rfl ?_
       refine HO_nil ?_
       refine H_env (ρ':=[(143,_),(7,_),(106,_),(107,_),(108,_)]) ⟨rfl,rfl,rfl,rfl,rfl,trivial⟩ ?_
       refine H_world (kp [nn,nn,yy,yy,yy] [_,_,_] rfl) ?_
       refine H_inv (fun a w hf hA => ⟨(),?_,hf.sub ?_,?_⟩)
       ·trivial
       ·exact ⟨rfl,rfl,rfl,rfl,congrArg (fun b => some (Value.bool b)) (by first | (simp [Hist.lateP,Hist.before, *];done) | (simp_all [Hist.lateP,Hist.before];done) | (simp_all [Hist.lateP,Hist.before];intros;omega)),trivial⟩
       ·exact hA.only (is:=[0,1,2]) (Z:=[]) rfl
      intro h125
      replace h125:=dF h125
      iterate 17 refine HO_no rfl rfl rfl ?_
      refine HO_pick_f rfl rfl rfl rfl ?_
      refine HO_nil ?_
      refine H_env (ρ':=[(143,_),(7,_),(106,_),(107,_),(108,_)]) ⟨rfl,rfl,rfl,rfl,rfl,trivial⟩ ?_
      refine H_world (kp [nn,nn,yy,yy,yy] [_,_,_] rfl) ?_
      refine H_inv (fun a w hf hA => ⟨(),?_,hf.sub ?_,?_⟩)
      ·trivial
      ·exact ⟨rfl,rfl,rfl,rfl,congrArg (fun b => some (Value.bool b)) (by first | (simp [Hist.lateP,Hist.before, *];done) | (simp_all [Hist.lateP,Hist.before];done) | (simp_all [Hist.lateP,Hist.before];intros;omega)),trivial⟩
      ·exact hA.only (is:=[0,1,2]) (Z:=[]) rfl
     intro h120
     replace h120:=dF h120
     iterate 3 refine HO_no rfl rfl rfl ?_
     refine HO_pick_f rfl rfl rfl rfl ?_
     refine HO_move rfl rfl rfl ?_
     iterate 17 refine HO_no rfl rfl rfl ?_
     refine HO_pick_f rfl rfl rfl rfl ?_
     refine HO_nil ?_
     refine H_env (ρ':=[(143,_),(7,_),(106,_),(107,_),(108,_)]) ⟨rfl,rfl,rfl,rfl,rfl,trivial⟩ ?_
     refine H_world (kp [nn,nn,yy,yy,yy] [_,_,_] rfl) ?_
     refine H_inv (fun a w hf hA => ⟨(),?_,hf.sub ?_,?_⟩)
     ·trivial
     ·exact ⟨rfl,rfl,rfl,rfl,congrArg (fun b => some (Value.bool b)) (by first | (simp [Hist.lateP,Hist.before, *];done) | (simp_all [Hist.lateP,Hist.before];done) | (simp_all [Hist.lateP,Hist.before];intros;omega)),trivial⟩
     ·exact hA.only (is:=[0,1,2]) (Z:=[]) rfl
    intro h115
    iterate 3 refine HO_no rfl rfl rfl ?_
    refine HO_pick_f rfl rfl rfl rfl ?_
    refine HO_move rfl rfl rfl ?_
    iterate 3 refine HO_no rfl rfl rfl ?_
    refine HO_pick_f rfl rfl rfl rfl ?_
    refine HO_move rfl rfl rfl ?_
    iterate 17 refine HO_no rfl rfl rfl ?_
    refine HO_pick_f rfl rfl rfl rfl ?_
    refine HO_nil ?_
    refine H_env (ρ':=[(143,_),(7,_),(106,_),(107,_),(108,_)]) ⟨rfl,rfl,rfl,rfl,rfl,trivial⟩ ?_
    refine H_world (kp [nn,nn,yy,yy,yy] [_,_,_] rfl) ?_
    refine H_inv (fun a w hf hA => ⟨(),?_,hf.sub ?_,?_⟩)
    ·trivial
    ·exact ⟨rfl,rfl,rfl,rfl,congrArg (fun b => some (Value.bool b)) (by first | (simp [Hist.lateP,Hist.before, *];done) | (simp_all [Hist.lateP,Hist.before];done) | (simp_all [Hist.lateP,Hist.before];intros;omega)),trivial⟩
    ·exact hA.only (is:=[0,1,2]) (Z:=[]) rfl
   intro _ hJ
   (try dsimp only at hJ ⊢)
   refine H_cond rfl ?_ ?_
   ·intro h143
    (try simp only [decide_eq_true_eq,decide_eq_false_iff_not,Bool.not_eq_true',Bool.not_eq_false',Bool.not_eq_true,Bool.not_eq_false,Bool.true_eq_false,Bool.false_eq_true,not_false_eq_true,not_true_eq_false] at h143)
    refine H_seq ?_
    have hL:=Hist.late_yes (x:=(⟨⟨ki,cs,sq,ke,ol,cv,ti,li⟩,⟨er,fo,va,se,ps⟩,s0,s1,at_,rd⟩ : Op)) hz110 h143
    refine H_region (l:=[_]) rfl ?_
    refine HO_assign rfl rfl rfl ?_
    refine HO_nil ?_
    refine H_env (ρ':=[(8,_)]) ⟨rfl,trivial⟩ ?_
    refine H_world (kp [nn,nn,nn] [] rfl) ?_
    refine H_ret1 Try.results70 (.tmp rfl) (fun w hA => ⟨(),congrArg Ending.returned ?_,?_,?_⟩)
    ·(exact congrArg (Value.int .i64) (Hist.one_15 h43 h73 hRF hL).symm)
    ·trivial
    ·exact hA.keep (m:=[]) (Y:=[]) rfl
   intro h143
   (try simp only [decide_eq_true_eq,decide_eq_false_iff_not,Bool.not_eq_true',Bool.not_eq_false',Bool.not_eq_true,Bool.not_eq_false,Bool.true_eq_false,Bool.false_eq_true,not_false_eq_true,not_true_eq_false] at h143)
   refine H_skip ?_
   refine H_blk ?_
   refine H_region (l:=[_,_]) rfl ?_
   refine HO_bin rfl rfl rfl rfl (bin_add ?_ ?_) ?_
   ·omega
   ·omega
   refine HO_move rfl rfl rfl ?_
   refine HO_nil ?_
   refine H_env (ρ':=[(108,_),(7,_),(106,_),(107,_)]) ⟨rfl,rfl,rfl,rfl,trivial⟩ ?_
   refine H_inv (fun a w hf hA => ⟨i + 1,?_,?_,hf.sub ?_,?_⟩)
   ·exact ⟨by omega,Hist.any_next (p:=fun y => (decide (0≤at_) && Hist.lateP (⟨⟨ki,cs,sq,ke,ol,cv,ti,li⟩,⟨er,fo,va,se,ps⟩,s0,s1,at_,rd⟩ : Op) y)) hz110 (by show ¬ (decide (0≤at_) && Hist.lateP (⟨⟨ki,cs,sq,ke,ol,cv,ti,li⟩,⟨er,fo,va,se,ps⟩,s0,s1,at_,rd⟩ : Op) z110) = true;rw [h143];decide) hI.2⟩
   ·(try dsimp only);omega
   ·exact ⟨rfl,rfl,rfl,rfl,trivial⟩
   ·exact hA.only (is:=[0,1,2]) (Z:=[]) rfl
  intro h109
  replace h109:=dF h109
  refine H_exit rfl ?_
  refine H_seq ?_
  obtain rfl : i = ops.length:=by omega
  have hL:=Hist.late_no (x:=(⟨⟨ki,cs,sq,ke,ol,cv,ti,li⟩,⟨er,fo,va,se,ps⟩,s0,s1,at_,rd⟩ : Op)) hI.2
  refine H_region (l:=[_]) rfl ?_
  refine HO_assign rfl rfl rfl ?_
  refine HO_nil ?_
  refine H_env (ρ':=[(8,_)]) ⟨rfl,trivial⟩ ?_
  refine H_world (kp [nn,nn,nn] [] rfl) ?_
  refine H_ret1 Try.results70 (.tmp rfl) (fun w hA => ⟨(),congrArg Ending.returned ?_,?_,?_⟩)
  ·(exact congrArg (Value.int .i64) (Hist.one_0 h43 h73 hRF hL).symm)
  ·trivial
  ·exact hA.keep (m:=[]) (Y:=[]) rfl
set_option maxHeartbeats 0 in
theorem rcheck_spec (log : List Ent) (a8 : Option Addr) (c8 : Nat) (ops : List Op) (a9 : Option Addr) (c9 : Nat) (hl : log.length≤200) : Spec Try.prog 36 #[.slice a8 (log.length) c8,.slice a9 (ops.length) c9] [.dat kEnt.sl (log) [.slice a8 (log.length) c8],.dat kOp.sl (ops) [.slice a9 (ops.length) c9]] (β:=Unit) (fun y => .tuple #[.int .i64 ((Hist.check log ops).1),.int .i64 ((Hist.check log ops).2)]) (fun y => True) (fun y => []):=by
 refine Spec.enter (vs:=[_,_]) Try.func36 rfl Try.ntmps36 rfl (Nat.le_of_ble_eq_true rfl) (fun w0 ok0 => ?_)
 generalize hM0 : blks _ = M0
 have hMn:=@noM _ _ hM0 (by simp [Atom.dat,Atom.elem])
 refine H_len_le (i:=0) rfl ?_
 intro hlen0
 refine H_len_le (i:=1) rfl ?_
 intro hlen1
 refine H_seq ?_
 refine H_region (l:=[_,_]) rfl ?_
 iterate 2 refine HO_assign rfl rfl rfl ?_
 refine HO_nil ?_
 refine H_env (ρ':=[(0,_),(1,_)]) ⟨rfl,rfl,trivial⟩ ?_
 refine H_seq ?_
 refine H_region (l:=[_,_,_]) rfl ?_
 refine HO_build (xo:=[]) (vs:=[]) rfl rfl rfl rfl (bd34__) ?_
 refine HO_nilDat kPair ?_
 refine HO_nilDat kSess ?_
 refine HO_buildSlice (kd:=kSt) (xo:=[_]) (vs:=[_]) (cs:=[_,_]) (xs:=[([],[])]) rfl rfl rfl rfl Try.underlying117 elt34 rfl rfl rfl (by decide) (by decide) (by simp [Value.cells]) rfl (fun ok w hA => ⟨_,_,rfl,⟨⟨Nat.zero_le _,Nat.zero_le _⟩,⟨⟨_,_⟩,⟨_,_⟩⟩,rfl,(List.forall_mem_cons.2 ⟨hA _ (List.mem_of_getElem? (i:=1) rfl),(List.forall_mem_cons.2 ⟨hA _ (List.mem_of_getElem? (i:=0) rfl),(by simp)⟩)⟩)⟩,rfl⟩) ?_
 intro g14
 refine HO_assign rfl rfl rfl ?_
 refine HO_nil ?_
 refine H_env (ρ':=[(6,_),(0,_),(1,_)]) ⟨rfl,rfl,rfl,trivial⟩ ?_
 refine H_world (kp [yy,nn,nn,yy,yy] [_,_,_] rfl) ?_
 refine H_seq ?_
 refine H_seq ?_
 refine H_region (l:=[_,_,_]) rfl ?_
 refine HO_move rfl rfl rfl ?_
 refine HO_bi rfl rfl rfl (bi_len_sl Try.underlying22) ?_
 refine HO_move rfl rfl rfl ?_
 refine HO_nil ?_
 refine H_block ?_
 refine H_loop (σ:=Nat × Option Addr × Nat) (fun s => s.1≤log.length∧(∀ (k : Nat) (e : Ent),k < s.1→log[k]? = some e→e.idx = (k : Int) + 1)) (fun s => [(0,.slice a8 (log.length) c8),(1,.slice a9 (ops.length) c9),(6,.slice s.2.1 (((Hist.sts log s.1)).length) s.2.2),(15,.slice a8 (log.length) c8),(16,.int .i64 ((log.length : Int))),(17,.int .i64 ((s.1 : Int)))]) (fun s => Asn w0 ok0 M0 [.dat kEnt.sl (log) [.slice a8 (log.length) c8],.dat kOp.sl (ops) [.slice a9 (ops.length) c9],.own 34 kSt s.2.1 s.2.2 ((Hist.sts log s.1))]) (fun s => log.length - s.1) ⟨0,some ⟨g14,0,none⟩,1⟩ ?_ ?_ ?_ ?_
 ·exact ⟨Nat.zero_le _,fun k x hk _ => absurd hk (Nat.not_lt_zero _)⟩
 ·exact ⟨rfl,rfl,rfl,rfl,rfl,rfl,trivial⟩
 ·intro w hA
  exact hA.only (is:=[0,1,0]) (Z:=[]) rfl
 ·rintro ⟨i,p,q⟩ hI
  (try dsimp only at hI ⊢)
  refine H_seq ?_
  refine H_region (l:=[_]) rfl ?_
  refine HO_bin rfl rfl rfl rfl bin_lss ?_
  refine HO_nil ?_
  refine H_seq ?_
  refine H_cond rfl ?_ ?_
  ·intro h18
   replace h18:=dT h18
   refine H_skip ?_
   refine H_seq ?_
   refine H_block ?_
   refine H_seq ?_
   refine H_region (l:=[_,_,_,_,_,_]) rfl ?_
   refine HO_move rfl rfl rfl ?_
   refine HO_indexAddr open_Ent (i:=0) rfl rfl rfl rfl rfl Try.underlying22 Try.sizeOf44 rfl ?_ ?_
   ·omega
   intro b20 o20 z20 y20 hz20 hI20
   (try simp only [BIG] at hI20)
   refine HO_loadA (i:=0) (us:=[]) (cs:=[_,_,_,_,_,_,_,_,_,_,_,_,_]) (ts:=[]) rfl rfl rfl Try.isAgg44 Try.sizeOf44 rfl (.elem _ _ _) rfl rfl rfl rfl ?_
   refine HO_alloc (cs:=[_,_,_,_,_,_,_,_,_,_,_,_,_]) rfl rfl Try.zeroValue44 rfl ?_
   intro g8
   refine HO_assign rfl rfl rfl ?_
   refine HO_store (i:=0) (j:=0) (us:=[]) (old:=[_,_,_,_,_,_,_,_,_,_,_,_,_]) (ts:=[]) (cs:=[_,_,_,_,_,_,_,_,_,_,_,_,_]) (R:=[_,_,_,_,_,_]) (new:=[_,_,_,_,_,_,_,_,_,_,_,_,_]) rfl rfl rfl Try.sizeOf44 rfl (by simp [Value.oneCell']) rfl rfl rfl rfl rfl rfl ?_
   refine HO_nil ?_
   refine H_env (ρ':=[(7,_),(8,_),(0,_),(1,_),(6,_),(15,_),(16,_),(17,_)]) ⟨rfl,rfl,rfl,rfl,rfl,rfl,rfl,rfl,trivial⟩ ?_
   refine H_world (kp [yy,nn,yy,yy,yy,yy,yy] [_,_,_,_,_,_] rfl) ?_
   refine H_seq ?_
   refine H_seq ?_
   refine H_region (l:=[_,_,_,_,_]) rfl ?_
   refine HO_fieldAddr (r:=0) rfl rfl rfl Try.underlying44 rfl Try.sizeOf3 rfl ?_
   refine HO_load1 (i:=0) (j:=0) rfl rfl rfl Try.isAgg3 rfl (.loc _ _ _) rfl rfl ?_
   refine HO_move rfl rfl rfl ?_
   refine HO_bin rfl rfl rfl rfl (bin_add ?_ ?_) ?_
   ·omega
   ·omega
   refine HO_bin rfl rfl rfl rfl bin_neq ?_
   refine HO_nil ?_
   refine H_env (ρ':=[(26,_),(7,_),(8,_),(0,_),(1,_),(6,_),(15,_),(16,_),(17,_)]) ⟨rfl,rfl,rfl,rfl,rfl,rfl,rfl,rfl,rfl,trivial⟩ ?_
   refine H_cond rfl ?_ ?_
   ·intro h26
    replace h26:=dT h26
    have hck:=Hist.check_bad (ops:=ops) (Hist.ok_no hz20 (by omega))
    refine H_seq ?_
    have hfin:=hck
    refine H_region (l:=[_,_]) rfl ?_
    iterate 2 refine HO_assign rfl rfl rfl ?_
    refine HO_nil ?_
    refine H_env (ρ':=[(5,_),(4,_)]) ⟨rfl,rfl,trivial⟩ ?_
    refine H_world (kp [nn,nn,nn,nn,nn,nn] [] rfl) ?_
    refine H_ret2 Try.results36 (.tmp rfl) (.tmp rfl) (fun w hA => ⟨(),congrArg Ending.returned ?_,?_,?_⟩)
    ·(rw [hfin])
    ·trivial
    ·exact hA.keep (m:=[]) (Y:=[]) rfl
   intro h26
   replace h26:=dF h26
   refine H_skip ?_
   refine H_seq ?_
   refine H_region (l:=[_,_,_,_,_,_]) rfl ?_
   iterate 2 refine HO_move rfl rfl rfl ?_
   refine HO_indexOwn (i:=5) rfl rfl rfl rfl rfl Try.underlying117 Try.sizeOf34 rfl (by first | rfl | (simp;done) | (simp;omega)) ?_ rfl ?_
   ·(rw [Hist.sts_len];omega)
   intro g29 z29 hg29 hz29
   refine HO_loadOwnA open_St (i:=5) rfl rfl rfl Try.isAgg34 Try.sizeOf34 rfl rfl hg29 rfl hz29 ?_
   intro y30 hI30
   (try simp only [BIG] at hI30)
   have hz0:=(Hist.sts_at hz29).1
   subst hz0
   refine HO_alloc (cs:=[_,_]) rfl rfl Try.zeroValue34 rfl ?_
   intro g9
   refine HO_store (i:=0) (j:=0) (us:=[]) (old:=[_,_]) (ts:=[]) (cs:=[_,_]) (R:=[_,_,_,_,_,_,_,_]) (new:=[_,_]) rfl rfl rfl Try.sizeOf34 rfl (by simp [Value.oneCell']) rfl rfl rfl rfl rfl rfl ?_
   refine HO_nil ?_
   refine H_env (ρ':=[(9,_),(8,_),(0,_),(1,_),(6,_),(15,_),(16,_),(17,_)]) ⟨rfl,rfl,rfl,rfl,rfl,rfl,rfl,rfl,trivial⟩ ?_
   refine H_seq ?_
   refine H_seq ?_
   refine H_region (l:=[_,_,_]) rfl ?_
   refine HO_fieldAddr (r:=2) rfl rfl rfl Try.underlying44 rfl Try.sizeOf3 rfl ?_
   refine HO_load1 (i:=3) (j:=2) rfl rfl rfl Try.isAgg3 rfl (.loc _ _ _) rfl rfl ?_
   refine HO_bin rfl rfl rfl rfl bin_eql ?_
   refine HO_nil ?_
   refine H_env (ρ':=[(33,_),(9,_),(8,_),(0,_),(1,_),(6,_),(15,_),(16,_),(17,_)]) ⟨rfl,rfl,rfl,rfl,rfl,rfl,rfl,rfl,rfl,trivial⟩ ?_
   refine H_cond rfl ?_ ?_
   ·intro h33
    replace h33:=dT h33
    refine H_region (l:=[_,_,_,_,_,_,_,_,_,_]) rfl ?_
    refine HO_loadA (i:=0) (us:=[]) (cs:=[_,_]) (ts:=[]) rfl rfl rfl Try.isAgg34 Try.sizeOf34 rfl (.loc _ _ _) rfl rfl rfl rfl ?_
    refine HO_fieldAddr (r:=0) rfl rfl rfl Try.underlying44 rfl Try.sizeOf3 rfl ?_
    refine HO_load1 (i:=3) (j:=0) rfl rfl rfl Try.isAgg3 rfl (.loc _ _ _) rfl rfl ?_
    refine HO_fieldAddr (r:=3) rfl rfl rfl Try.underlying44 rfl Try.sizeOf36 rfl ?_
    refine HO_loadA (i:=3) (us:=[_,_,_]) (cs:=[_,_,_,_,_,_,_,_]) (ts:=[_,_]) rfl rfl rfl Try.isAgg36 Try.sizeOf36 rfl (.loc _ _ _) rfl rfl rfl rfl ?_
    refine HO_dup (i:=1) rfl rfl ?_
    refine HO_dup (i:=3) rfl rfl ?_
    refine HO_call (first:=[]) (capt:=[]) (is:=[0,0]) (R:=[_,_,_,_,_,_,_,_,_]) rfl rfl rfl rfl rfl Try.call18 rfl (rapply_spec _ _ _ _ _ _ _ _ _ _ _ _ _ _ _ ?_ ?_ ?_ ?_ ?_ ?_) ?_
    ·exact Hist.state_inv log i
    ·exact hI20.1
    ·exact hI20.2.2.2.2.1
    ·exact hI20.2.2.2.2.2.1
    ·(have:=hI20.2.2.2.2.2.2.1;simp only [BIG];omega)
    ·(have:=hI20.2.2.2.2.2.2.2.2.1;simp only [BIG];omega)
    intro y40 hy40
    refine HO_move rfl rfl rfl ?_
    refine HO_extract (vs:=[_,_]) rfl rfl rfl rfl ?_
    refine HO_extract (vs:=[_,_]) rfl rfl rfl rfl ?_
    refine HO_store (i:=3) (j:=0) (us:=[]) (old:=[_,_]) (ts:=[]) (cs:=[_,_]) (R:=[_,_,_,_,_,_,_,_,_,_,_]) (new:=[_,_]) rfl rfl rfl Try.sizeOf34 rfl (by simp [Value.oneCell']) rfl rfl rfl rfl rfl rfl ?_
    refine HO_nil ?_
    refine H_env (ρ':=[(9,_),(0,_),(1,_),(6,_),(15,_),(16,_),(17,_)]) ⟨rfl,rfl,rfl,rfl,rfl,rfl,rfl,trivial⟩ ?_
    refine H_world (kp [yy,yy,yy,nn,nn,nn,nn,nn,nn,yy,yy,yy] [_,_,_,_,_,_] rfl) ?_
    have hst:=Hist.state_next hz20
    have hsi:=Hist.state_inv log (i + 1)
    rw [hst] at hsi
    have hst2 : Hist.state log (i + 1) = ((Mod.apply (Hist.state log i).1 (Hist.state log i).2 z20.idx ⟨z20.cmd.kind,z20.cmd.sess,z20.cmd.seq,z20.cmd.key,z20.cmd.old,z20.cmd.val,z20.cmd.til,z20.cmd.lim⟩).1,(Mod.apply (Hist.state log i).1 (Hist.state log i).2 z20.idx ⟨z20.cmd.kind,z20.cmd.sess,z20.cmd.seq,z20.cmd.key,z20.cmd.old,z20.cmd.val,z20.cmd.til,z20.cmd.lim⟩).2.1):=by rw [hst];unfold Mod.step;rw [if_pos h33]
    have hSI : ((Mod.apply (Hist.state log i).1 (Hist.state log i).2 z20.idx ⟨z20.cmd.kind,z20.cmd.sess,z20.cmd.seq,z20.cmd.key,z20.cmd.old,z20.cmd.val,z20.cmd.til,z20.cmd.lim⟩).1,(Mod.apply (Hist.state log i).1 (Hist.state log i).2 z20.idx ⟨z20.cmd.kind,z20.cmd.sess,z20.cmd.seq,z20.cmd.key,z20.cmd.old,z20.cmd.val,z20.cmd.til,z20.cmd.lim⟩).2.1).1.length≤BIG∧((Mod.apply (Hist.state log i).1 (Hist.state log i).2 z20.idx ⟨z20.cmd.kind,z20.cmd.sess,z20.cmd.seq,z20.cmd.key,z20.cmd.old,z20.cmd.val,z20.cmd.til,z20.cmd.lim⟩).1,(Mod.apply (Hist.state log i).1 (Hist.state log i).2 z20.idx ⟨z20.cmd.kind,z20.cmd.sess,z20.cmd.seq,z20.cmd.key,z20.cmd.old,z20.cmd.val,z20.cmd.til,z20.cmd.lim⟩).2.1).2.length≤BIG:=by rw [← hst2];exact ⟨Nat.le_trans (Hist.state_inv log (i + 1)).pl (by decide),Nat.le_trans (Hist.state_inv log (i + 1)).sl (by decide)⟩
    refine H_region (l:=[_,_,_,_,_]) rfl ?_
    refine HO_move rfl rfl rfl ?_
    refine HO_loadA (i:=0) (us:=[]) (cs:=[_,_]) (ts:=[]) rfl rfl rfl Try.isAgg34 Try.sizeOf34 rfl (.loc _ _ _) rfl rfl rfl rfl ?_
    refine HO_buildSlice (kd:=kSt) (xo:=[_]) (vs:=[_]) (cs:=[_,_]) (xs:=[((Mod.apply (Hist.state log i).1 (Hist.state log i).2 z20.idx ⟨z20.cmd.kind,z20.cmd.sess,z20.cmd.seq,z20.cmd.key,z20.cmd.old,z20.cmd.val,z20.cmd.til,z20.cmd.lim⟩).1,(Mod.apply (Hist.state log i).1 (Hist.state log i).2 z20.idx ⟨z20.cmd.kind,z20.cmd.sess,z20.cmd.seq,z20.cmd.key,z20.cmd.old,z20.cmd.val,z20.cmd.til,z20.cmd.lim⟩).2.1)]) rfl rfl rfl rfl Try.underlying117 elt34 rfl rfl rfl (by decide) (by decide) (by simp [Value.cells]) rfl (fun ok w hA => ⟨_,_,rfl,⟨hSI,⟨⟨_,_⟩,⟨_,_⟩⟩,rfl,(List.forall_mem_cons.2 ⟨hA _ (List.mem_of_getElem? (i:=1) rfl),(List.forall_mem_cons.2 ⟨hA _ (List.mem_of_getElem? (i:=2) rfl),(by simp)⟩)⟩)⟩,rfl⟩) ?_
    intro g45
    refine HO_append (i:=6) (R:=[_,_,_,_,_,_]) rfl rfl rfl rfl rfl Try.underlying117 elt34 rfl rfl (SrcOk.own (j:=0) Try.underlying117 rfl rfl) ?_ ?_
    ·(rw [Hist.sts_len];simp only [List.length_cons,List.length_nil];omega)
    intro a46 c46
    refine HO_assign rfl rfl rfl ?_
    refine HO_nil ?_
    refine H_env (ρ':=[(6,_),(0,_),(1,_),(15,_),(16,_),(17,_)]) ⟨rfl,rfl,rfl,rfl,rfl,rfl,trivial⟩ ?_
    refine H_world (kp [yy,nn,nn,nn,nn,yy,yy] [_,_,_] rfl) ?_
    refine H_blk ?_
    refine H_region (l:=[_,_]) rfl ?_
    refine HO_bin rfl rfl rfl rfl (bin_add ?_ ?_) ?_
    ·omega
    ·omega
    refine HO_move rfl rfl rfl ?_
    refine HO_nil ?_
    refine H_env (ρ':=[(17,_),(6,_),(0,_),(1,_),(15,_),(16,_)]) ⟨rfl,rfl,rfl,rfl,rfl,rfl,trivial⟩ ?_
    refine H_inv (fun a w hf hA => ⟨⟨i + 1,a46,c46⟩,?_,?_,hf.sub ?_,?_⟩)
    ·exact ⟨by dsimp only;omega,Hist.ok_next hz20 (by omega) hI.2⟩
    ·(try dsimp only);omega
    ·exact ⟨rfl,rfl,congrArg (fun n : Nat => some (Value.slice a46 n c46)) (by dsimp only;rw [Hist.sts_len,List.length_append,Hist.sts_len];rfl),rfl,rfl,rfl,trivial⟩
    ·(dsimp only;rw [Hist.sts_next,hst2];exact hA.only (is:=[0,1,0]) (Z:=[]) rfl)
   intro h33
   replace h33:=dF h33
   refine H_skip ?_
   have hst:=Hist.state_next hz20
   have hsi:=Hist.state_inv log (i + 1)
   rw [hst] at hsi
   have hst2 : Hist.state log (i + 1) = Hist.state log i:=by rw [hst];unfold Mod.step;rw [if_neg h33]
   have hSI : (Hist.state log i).1.length≤BIG∧(Hist.state log i).2.length≤BIG:=⟨Nat.le_trans (Hist.state_inv log i).pl (by decide),Nat.le_trans (Hist.state_inv log i).sl (by decide)⟩
   refine H_region (l:=[_,_,_,_,_]) rfl ?_
   refine HO_move rfl rfl rfl ?_
   refine HO_loadA (i:=0) (us:=[]) (cs:=[_,_]) (ts:=[]) rfl rfl rfl Try.isAgg34 Try.sizeOf34 rfl (.loc _ _ _) rfl rfl rfl rfl ?_
   refine HO_buildSlice (kd:=kSt) (xo:=[_]) (vs:=[_]) (cs:=[_,_]) (xs:=[Hist.state log i]) rfl rfl rfl rfl Try.underlying117 elt34 rfl rfl rfl (by decide) (by decide) (by simp [Value.cells]) rfl (fun ok w hA => ⟨_,_,rfl,⟨hSI,⟨⟨_,_⟩,⟨_,_⟩⟩,rfl,(List.forall_mem_cons.2 ⟨hA _ (List.mem_of_getElem? (i:=1) rfl),(List.forall_mem_cons.2 ⟨hA _ (List.mem_of_getElem? (i:=2) rfl),(by simp)⟩)⟩)⟩,rfl⟩) ?_
   intro g45
   refine HO_append (i:=9) (R:=[_,_,_,_,_,_,_,_,_]) rfl rfl rfl rfl rfl Try.underlying117 elt34 rfl rfl (SrcOk.own (j:=0) Try.underlying117 rfl rfl) ?_ ?_
   ·(rw [Hist.sts_len];simp only [List.length_cons,List.length_nil];omega)
   intro a46 c46
   refine HO_assign rfl rfl rfl ?_
   refine HO_nil ?_
   refine H_env (ρ':=[(6,_),(0,_),(1,_),(15,_),(16,_),(17,_)]) ⟨rfl,rfl,rfl,rfl,rfl,rfl,trivial⟩ ?_
   refine H_world (kp [yy,nn,nn,nn,nn,nn,nn,nn,yy,yy] [_,_,_] rfl) ?_
   refine H_blk ?_
   refine H_region (l:=[_,_]) rfl ?_
   refine HO_bin rfl rfl rfl rfl (bin_add ?_ ?_) ?_
   ·omega
   ·omega
   refine HO_move rfl rfl rfl ?_
   refine HO_nil ?_
   refine H_env (ρ':=[(17,_),(6,_),(0,_),(1,_),(15,_),(16,_)]) ⟨rfl,rfl,rfl,rfl,rfl,rfl,trivial⟩ ?_
   refine H_inv (fun a w hf hA => ⟨⟨i + 1,a46,c46⟩,?_,?_,hf.sub ?_,?_⟩)
   ·exact ⟨by dsimp only;omega,Hist.ok_next hz20 (by omega) hI.2⟩
   ·(try dsimp only);omega
   ·exact ⟨rfl,rfl,congrArg (fun n : Nat => some (Value.slice a46 n c46)) (by dsimp only;rw [Hist.sts_len,List.length_append,Hist.sts_len];rfl),rfl,rfl,rfl,trivial⟩
   ·(dsimp only;rw [Hist.sts_next,hst2];exact hA.only (is:=[0,1,0]) (Z:=[]) rfl)
  intro h18
  replace h18:=dF h18
  refine H_exit rfl ?_
  refine H_seq ?_
  refine H_seq ?_
  obtain rfl : i = log.length:=by omega
  have hck:=Hist.check_ok (ops:=ops) (Hist.ok_yes hI.2)
  refine H_freeze (i:=2) (R:=[_,_]) rfl hMn ?_
  refine H_region (l:=[_,_,_]) rfl ?_
  refine HO_move rfl rfl rfl ?_
  refine HO_bi rfl rfl rfl (bi_len_sl Try.underlying80) ?_
  refine HO_move rfl rfl rfl ?_
  refine HO_nil ?_
  refine H_env (ρ':=[(50,_),(49,_),(48,_),(0,_),(1,_),(6,_)]) ⟨rfl,rfl,rfl,rfl,rfl,rfl,trivial⟩ ?_
  refine H_block ?_
  refine H_loop (σ:=Nat) (fun s => s≤ops.length∧Hist.bad log ops (ops.drop s) s = (Hist.check log ops)) (fun s => [(0,.slice a8 (log.length) c8),(1,.slice a9 (ops.length) c9),(6,.slice p (((Hist.sts log log.length)).length) q),(48,.slice a9 (ops.length) c9),(49,.int .i64 ((ops.length : Int))),(50,.int .i64 ((s : Int)))]) (fun s => Asn w0 ok0 M0 [.dat kEnt.sl (log) [.slice a8 (log.length) c8],.dat kOp.sl (ops) [.slice a9 (ops.length) c9],.dat kSt.sl ((Hist.sts log log.length)) [.slice p (((Hist.sts log log.length)).length) q]]) (fun s => ops.length - s) 0 ?_ ?_ ?_ ?_
  ·exact ⟨Nat.zero_le _,hck.symm⟩
  ·exact ⟨rfl,rfl,rfl,rfl,rfl,rfl,trivial⟩
  ·intro w hA
   exact hA.only (is:=[0,1,0]) (Z:=[]) rfl
  ·intro i hI
   (try dsimp only at hI ⊢)
   refine H_seq ?_
   refine H_region (l:=[_]) rfl ?_
   refine HO_bin rfl rfl rfl rfl bin_lss ?_
   refine HO_nil ?_
   refine H_seq ?_
   refine H_cond rfl ?_ ?_
   ·intro h51
    replace h51:=dT h51
    refine H_skip ?_
    refine H_seq ?_
    refine H_block ?_
    refine H_seq ?_
    refine H_region (l:=[_,_,_,_,_,_]) rfl ?_
    refine HO_move rfl rfl rfl ?_
    refine HO_indexAddr open_Op (i:=1) rfl rfl rfl rfl rfl Try.underlying80 Try.sizeOf85 rfl ?_ ?_
    ·omega
    intro b53 o53 z53 y53 hz53 hI53
    (try simp only [BIG] at hI53)
    refine HO_loadA (i:=0) (us:=[]) (cs:=[_,_,_,_,_,_,_,_,_,_,_,_,_,_,_,_,_]) (ts:=[]) rfl rfl rfl Try.isAgg85 Try.sizeOf85 rfl (.elem _ _ _) rfl rfl rfl rfl ?_
    refine HO_alloc (cs:=[_,_,_,_,_,_,_,_,_,_,_,_,_,_,_,_,_]) rfl rfl Try.zeroValue85 rfl ?_
    intro g11
    refine HO_assign rfl rfl rfl ?_
    refine HO_store (i:=0) (j:=0) (us:=[]) (old:=[_,_,_,_,_,_,_,_,_,_,_,_,_,_,_,_,_]) (ts:=[]) (cs:=[_,_,_,_,_,_,_,_,_,_,_,_,_,_,_,_,_]) (R:=[_,_,_,_,_]) (new:=[_,_,_,_,_,_,_,_,_,_,_,_,_,_,_,_,_]) rfl rfl rfl Try.sizeOf85 rfl (by simp [Value.oneCell']) rfl rfl rfl rfl rfl rfl ?_
    refine HO_nil ?_
    refine H_env (ρ':=[(10,_),(11,_),(0,_),(1,_),(6,_),(48,_),(49,_),(50,_)]) ⟨rfl,rfl,rfl,rfl,rfl,rfl,rfl,rfl,trivial⟩ ?_
    refine H_world (kp [yy,nn,yy,yy,yy,yy] [_,_,_,_,_] rfl) ?_
    refine H_seq ?_
    refine H_region (l:=[_,_,_,_,_,_]) rfl ?_
    iterate 3 refine HO_move rfl rfl rfl ?_
    refine HO_loadA (i:=0) (us:=[]) (cs:=[_,_,_,_,_,_,_,_,_,_,_,_,_,_,_,_,_]) (ts:=[]) rfl rfl rfl Try.isAgg85 Try.sizeOf85 rfl (.loc _ _ _) rfl rfl rfl rfl ?_
    refine HO_dup (i:=2) rfl rfl ?_
    refine HO_dup (i:=5) rfl rfl ?_
    refine HO_dup (i:=5) rfl rfl ?_
    refine HO_dup (i:=4) rfl rfl ?_
    refine HO_call (first:=[]) (capt:=[]) (is:=[0,0,0,0]) (R:=[_,_,_,_,_]) rfl rfl rfl rfl rfl Try.call70 rfl (rone_spec _ _ _ _ _ _ _ _ _ _ _ _ _ _ _ _ _ _ _ _ _ _ _ _ _ _ _ ?_ ?_ ?_ ?_ ?_ ?_) ?_
    ·exact hl
    ·exact hI53.2.2.2.2.2.2.2.2.2.2.2.2.2.2
    ·exact hI53.2.1
    ·exact hI53.2.2.1
    ·(have:=hI53.2.2.2.1;simp only [BIG];omega)
    ·(have:=hI53.2.2.2.2.2.1;simp only [BIG];omega)
    intro y59 hy59
    clear y59 hy59
    refine HO_assign rfl rfl rfl ?_
    refine HO_nil ?_
    refine H_env (ρ':=[(12,_),(10,_),(0,_),(1,_),(6,_),(48,_),(49,_),(50,_)]) ⟨rfl,rfl,rfl,rfl,rfl,rfl,rfl,rfl,trivial⟩ ?_
    refine H_world (kp [nn,nn,yy,yy,yy] [_,_,_] rfl) ?_
    refine H_seq ?_
    refine H_region (l:=[_,_]) rfl ?_
    refine HO_move rfl rfl rfl ?_
    refine HO_bin rfl rfl rfl rfl bin_neq ?_
    refine HO_nil ?_
    refine H_env (ρ':=[(61,_),(12,_),(10,_),(0,_),(1,_),(6,_),(48,_),(49,_),(50,_)]) ⟨rfl,rfl,rfl,rfl,rfl,rfl,rfl,rfl,rfl,trivial⟩ ?_
    refine H_cond rfl ?_ ?_
    ·intro h61
     replace h61:=dT h61
     refine H_seq ?_
     have hfin:=Hist.bad_is hz53 hI.2 rfl h61
     refine H_region (l:=[_,_,_,_]) rfl ?_
     iterate 2 refine HO_move rfl rfl rfl ?_
     iterate 2 refine HO_assign rfl rfl rfl ?_
     refine HO_nil ?_
     refine H_env (ρ':=[(5,_),(4,_)]) ⟨rfl,rfl,trivial⟩ ?_
     refine H_world (kp [nn,nn,nn] [] rfl) ?_
     refine H_ret2 Try.results36 (.tmp rfl) (.tmp rfl) (fun w hA => ⟨(),congrArg Ending.returned ?_,?_,?_⟩)
     ·(rw [hfin])
     ·trivial
     ·exact hA.keep (m:=[]) (Y:=[]) rfl
    intro h61
    replace h61:=dF h61
    refine H_skip ?_
    refine H_blk ?_
    refine H_region (l:=[_,_]) rfl ?_
    refine HO_bin rfl rfl rfl rfl (bin_add ?_ ?_) ?_
    ·omega
    ·omega
    refine HO_move rfl rfl rfl ?_
    refine HO_nil ?_
    refine H_env (ρ':=[(50,_),(0,_),(1,_),(6,_),(48,_),(49,_)]) ⟨rfl,rfl,rfl,rfl,rfl,rfl,trivial⟩ ?_
    refine H_inv (fun a w hf hA => ⟨i + 1,?_,?_,hf.sub ?_,?_⟩)
    ·exact ⟨by omega,Hist.bad_next hz53 hI.2 (Decidable.not_not.1 h61)⟩
    ·(try dsimp only);omega
    ·exact ⟨rfl,rfl,rfl,rfl,rfl,rfl,trivial⟩
    ·exact hA.only (is:=[0,1,2]) (Z:=[]) rfl
   intro h51
   replace h51:=dF h51
   refine H_exit rfl ?_
   refine H_seq ?_
   obtain rfl : i = ops.length:=by omega
   have hfin:=Hist.bad_end hI.2
   refine H_region (l:=[_,_]) rfl ?_
   iterate 2 refine HO_assign rfl rfl rfl ?_
   refine HO_nil ?_
   refine H_env (ρ':=[(5,_),(4,_)]) ⟨rfl,rfl,trivial⟩ ?_
   refine H_world (kp [nn,nn,nn] [] rfl) ?_
   refine H_ret2 Try.results36 (.tmp rfl) (.tmp rfl) (fun w hA => ⟨(),congrArg Ending.returned ?_,?_,?_⟩)
   ·(rw [hfin])
   ·trivial
   ·exact hA.keep (m:=[]) (Y:=[]) rfl
end Go.Wk
