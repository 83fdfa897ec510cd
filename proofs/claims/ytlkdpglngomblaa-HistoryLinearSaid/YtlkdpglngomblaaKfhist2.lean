/- Contracts of the program's functions, each proved by walking its code. -/
import Derived.Test.YtlkdpglngomblaaKfhist1
import Derived.Test.YtlkdpglngomblaaHist
set_option maxRecDepth 100000
set_option linter.unusedVariables false
set_option linter.unusedSimpArgs false
namespace Go.Wk.Fhist2
open Go Go.RowKit Go.Proofs Go.Wk
theorem eq36_eql {x y : Operand} {a0 b0 : Int} {a1 b1 : Int} {a2 b2 : Int} {a3 b3 : ByteArray} {a4 b4 : ByteArray} {a5 b5 : ByteArray} {a6 b6 : ByteArray} {a7 b7 : Int} : BinR Try.prog .eql 36 x y (.agg #[.int .i64 a0,.int .i64 a1,.int .i64 a2,.string a3,.string a4,.string a5,.string a6,.int .i64 a7]) (.agg #[.int .i64 b0,.int .i64 b1,.int .i64 b2,.string b3,.string b4,.string b5,.string b6,.int .i64 b7]) (.bool (decide (a0 = b0) && (decide (a1 = b1) && (decide (a2 = b2) && (decide (a3 = b3) && (decide (a4 = b4) && (decide (a5 = b5) && (decide (a6 = b6) && (decide (a7 = b7) && true))))))))) :=
 bin_eqs_agg (by kernel_rfl) Try.underlying36 (by kernel_rfl) (fun w => (eqF_int (by decide) Try.underlying3 Try.isAgg3 rfl rfl (eqF_int (by decide) Try.underlying3 Try.isAgg3 rfl rfl (eqF_int (by decide) Try.underlying3 Try.isAgg3 rfl rfl (eqF_str (by decide) Try.underlying9 Try.isAgg9 rfl rfl (eqF_str (by decide) Try.underlying9 Try.isAgg9 rfl rfl (eqF_str (by decide) Try.underlying9 Try.isAgg9 rfl rfl (eqF_str (by decide) Try.underlying9 Try.isAgg9 rfl rfl (eqF_int (by decide) Try.underlying3 Try.isAgg3 rfl rfl eqF_nil)))))))))
theorem eq36_neq {x y : Operand} {a0 b0 : Int} {a1 b1 : Int} {a2 b2 : Int} {a3 b3 : ByteArray} {a4 b4 : ByteArray} {a5 b5 : ByteArray} {a6 b6 : ByteArray} {a7 b7 : Int} : BinR Try.prog .neq 36 x y (.agg #[.int .i64 a0,.int .i64 a1,.int .i64 a2,.string a3,.string a4,.string a5,.string a6,.int .i64 a7]) (.agg #[.int .i64 b0,.int .i64 b1,.int .i64 b2,.string b3,.string b4,.string b5,.string b6,.int .i64 b7]) (.bool (!(decide (a0 = b0) && (decide (a1 = b1) && (decide (a2 = b2) && (decide (a3 = b3) && (decide (a4 = b4) && (decide (a5 = b5) && (decide (a6 = b6) && (decide (a7 = b7) && true)))))))))) :=
 bin_nes_agg (by kernel_rfl) Try.underlying36 (by kernel_rfl) (fun w => (eqF_int (by decide) Try.underlying3 Try.isAgg3 rfl rfl (eqF_int (by decide) Try.underlying3 Try.isAgg3 rfl rfl (eqF_int (by decide) Try.underlying3 Try.isAgg3 rfl rfl (eqF_str (by decide) Try.underlying9 Try.isAgg9 rfl rfl (eqF_str (by decide) Try.underlying9 Try.isAgg9 rfl rfl (eqF_str (by decide) Try.underlying9 Try.isAgg9 rfl rfl (eqF_str (by decide) Try.underlying9 Try.isAgg9 rfl rfl (eqF_int (by decide) Try.underlying3 Try.isAgg3 rfl rfl eqF_nil)))))))))
end Go.Wk.Fhist2
namespace Go.Wk
open Go Go.RowKit Go.Proofs Fhist2 
set_option maxHeartbeats 0 in
theorem reply_spec (log : List Ent) (a8 : Option Addr) (c8 : Nat) (m : Nat) (p : Option Addr) (q : Nat) (gs gl : Nat) (ki cs sq : Int) (ke ol cv ti : ByteArray) (li er : Int) (fo : Bool) (va : ByteArray) (se : Int) (ps : List Pair) (ap : Option Addr) (cp : Nat) (s0 s1 at_ : Int) (rd : Bool) (hl : log.length≤200) (hm : m≤log.length) (ra : -9223372036854775808≤at_∧at_≤9223372036854775807) (rc : -9223372036854775808≤cs∧cs≤9223372036854775807) (rq : -9223372036854775808≤sq∧sq≤9223372036854775807) (sk : ke.size≤BIG) (sc : cv.size≤BIG) (hat : at_≤log.length∧0≤at_∧(rd = false→at_ ≠ 0)) : Spec Try.prog 42 #[.func (.func 72) #[] #[.pointer (some ⟨gs,0,none⟩),.pointer (some ⟨gl,0,none⟩)],.agg #[.int .i64 (ki),.int .i64 (cs),.int .i64 (sq),.string (ke),.string (ol),.string (cv),.string (ti),.int .i64 (li),.int .i64 (er),.bool (fo),.string (va),.int .i64 (se),.slice ap (ps.length) cp,.int .i64 (s0),.int .i64 (s1),.int .i64 (at_),.bool (rd)]] [.loc gs [.slice p (((Hist.sts log m)).length) q] 119,.own 56 kSt p q ((Hist.sts log m)),.loc gl [.slice a8 (log.length) c8] 22,.dat kEnt.sl (log) [.slice a8 (log.length) c8]] (β:=Nat × (Option Addr × Nat) × (Option Addr × Nat)) (fun y => .agg #[.int .i64 ((Hist.reply log (⟨⟨ki,cs,sq,ke,ol,cv,ti,li⟩,⟨er,fo,va,se,ps⟩,s0,s1,at_,rd⟩ : Op)).err),.bool ((Hist.reply log (⟨⟨ki,cs,sq,ke,ol,cv,ti,li⟩,⟨er,fo,va,se,ps⟩,s0,s1,at_,rd⟩ : Op)).found),.string ((Hist.reply log (⟨⟨ki,cs,sq,ke,ol,cv,ti,li⟩,⟨er,fo,va,se,ps⟩,s0,s1,at_,rd⟩ : Op)).val),.int .i64 ((Hist.reply log (⟨⟨ki,cs,sq,ke,ol,cv,ti,li⟩,⟨er,fo,va,se,ps⟩,s0,s1,at_,rd⟩ : Op)).sess),.slice y.2.2.1 (((Hist.reply log (⟨⟨ki,cs,sq,ke,ol,cv,ti,li⟩,⟨er,fo,va,se,ps⟩,s0,s1,at_,rd⟩ : Op)).pairs).length) y.2.2.2]) (fun y => y.1≤log.length) (fun y => [.loc gs [.slice y.2.1.1 (((Hist.sts log y.1)).length) y.2.1.2] 119,.own 56 kSt y.2.1.1 y.2.1.2 ((Hist.sts log y.1)),.loc gl [.slice a8 (log.length) c8] 22,.dat kPair.sl ((Hist.reply log (⟨⟨ki,cs,sq,ke,ol,cv,ti,li⟩,⟨er,fo,va,se,ps⟩,s0,s1,at_,rd⟩ : Op)).pairs) [.slice y.2.2.1 (((Hist.reply log (⟨⟨ki,cs,sq,ke,ol,cv,ti,li⟩,⟨er,fo,va,se,ps⟩,s0,s1,at_,rd⟩ : Op)).pairs).length) y.2.2.2]]):=by
 refine Spec.enter (vs:=[_,_]) Try.func42 rfl Try.ntmps42 rfl (Nat.le_of_ble_eq_true rfl) (fun w0 ok0 => ?_)
 generalize hM0 : blks _ = M0
 refine H_len_le (i:=3) rfl ?_
 intro hlen3
 refine H_seq ?_
 refine H_region (l:=[_,_]) rfl ?_
 refine HO_box (cs:=[_,_,_,_,_,_,_,_,_,_,_,_,_,_,_,_,_]) rfl rfl rfl rfl ?_
 intro g3
 refine HO_alloc (cs:=[_,_,_,_,_]) rfl rfl Try.zeroValue38 rfl ?_
 intro g4
 refine HO_nil ?_
 refine H_env (ρ':=[(4,_),(3,_),(0,_)]) ⟨rfl,rfl,rfl,trivial⟩ ?_
 refine H_seq ?_
 refine H_seq ?_
 refine H_region (l:=[_,_]) rfl ?_
 refine HO_fieldAddr (r:=16) rfl rfl rfl Try.underlying40 rfl Try.sizeOf4 rfl ?_
 refine HO_load1 (i:=1) (j:=16) rfl rfl rfl Try.isAgg4 rfl (.loc _ _ _) rfl rfl ?_
 refine HO_nil ?_
 refine H_env (ρ':=[(8,_),(4,_),(3,_),(0,_)]) ⟨rfl,rfl,rfl,rfl,trivial⟩ ?_
 refine H_cond rfl ?_ ?_
 ·intro h8
  refine H_seq ?_
  refine H_drawB (m:=[nn,yy,nn,nn,nn,yy]) (Xs:=[_,_]) (fuel:=8) (l:=#[false,false,false,false,false,false,false,false]) mixed rfl rfl rfl ?_
  refine HA_take (i:=0) bp rfl rfl rfl rfl (by kernel_rfl) rfl (V_move rfl) (kp [nn,yy,nn,nn,nn,yy] [_,_] rfl) ?_
  refine HA_take (i:=1) bp rfl rfl rfl rfl (by kernel_rfl) rfl (V_fieldAddr (r:=15) rfl Try.underlying40 rfl Try.sizeOf3 rfl) (kp [nn,yy,nn,nn,nn,yy] [_,_] rfl) ?_
  refine HA_take (i:=2) bp rfl rfl rfl rfl (by kernel_rfl) rfl (V_load1 (i:=0) (j:=15) rfl Try.isAgg3 rfl (.loc _ _ _) rfl rfl) (kp [nn,yy,nn,nn,nn,yy] [_,_] rfl) ?_
  refine HA_take (i:=4) bp rfl rfl rfl rfl (by kernel_rfl) rfl (V_fieldAddr (r:=0) rfl Try.underlying40 rfl Try.sizeOf36 rfl) (kp [nn,yy,nn,nn,nn,yy] [_,_] rfl) ?_
  refine HA_take (i:=5) bp rfl rfl rfl rfl (by kernel_rfl) rfl (V_loadA (i:=0) (us:=[]) (cs:=[_,_,_,_,_,_,_,_]) (ts:=[_,_,_,_,_,_,_,_,_]) rfl Try.isAgg36 Try.sizeOf36 rfl (.loc _ _ _) rfl rfl rfl rfl) (kp [nn,yy,nn,nn,nn,yy] [_,_] rfl) ?_
  refine HA_loud1 (i:=3) (by kernel_rfl) rfl ?_
  refine HO_dup (i:=5) rfl rfl ?_
  refine HO_call (first:=[]) (capt:=[_,_]) (is:=[2,3,4,0]) (R:=[_,_,_]) rfl rfl rfl rfl rfl Try.call72 rfl (past1_spec _ _ _ _ _ _ _ _ _ ?_ ?_ ?_) ?_
  ·exact hl
  ·exact hm
  ·omega
  intro y12 hy12
  refine HA_back rfl (kp [nn,nn,nn,nn,nn,nn,yy,yy] [_,_] rfl) ?_
  refine HA_loud1 (i:=6) (by kernel_rfl) rfl ?_
  refine HO_dup (i:=3) rfl rfl ?_
  refine HO_call (first:=[]) (capt:=[]) (is:=[0]) (R:=[_,_,_,_,_,_,_,_]) rfl rfl rfl rfl rfl Try.call31 rfl (query_spec _ _ _ _ _ _ _ _ _ _ _ _ _ _ ?_ ?_ ?_ ?_) ?_
  ·exact (Hist.state_inv log at_.toNat).ps
  ·exact (Hist.state_inv log at_.toNat).pl
  ·exact sk
  ·exact sc
  intro y15 hy15
  refine HA_back rfl (kp [nn,nn,nn,nn,nn,nn,nn,yy,yy] [_,_] rfl) ?_
  refine HA_loud1 (i:=7) (by kernel_rfl) rfl ?_
  refine HO_store (i:=6) (j:=0) (us:=[]) (old:=[_,_,_,_,_]) (ts:=[]) (cs:=[_,_,_,_,_]) (R:=[_,_,_,_,_,_,_,_]) (new:=[_,_,_,_,_]) rfl rfl rfl Try.sizeOf38 rfl (by simp [Value.oneCell']) rfl rfl rfl rfl rfl rfl ?_
  refine HA_back rfl (kp [nn,nn,nn,nn,nn,nn,nn,yy,yy] [_,_] rfl) ?_
  refine HA_done (by kernel_rfl) ?_
  refine H_env (ρ':=[(4,_)]) ⟨rfl,trivial⟩ ?_
  refine H_world (kp [yy,yy,yy,yy,yy,nn,nn,nn,yy] [_,_,_,_,_,_] rfl) ?_
  have hrp : (Hist.reply log (⟨⟨ki,cs,sq,ke,ol,cv,ti,li⟩,⟨er,fo,va,se,ps⟩,s0,s1,at_,rd⟩ : Op)) = Mod.query (Hist.state log at_.toNat).1 ⟨ki,cs,sq,ke,ol,cv,ti,li⟩:=if_pos h8
  refine H_ret1 Try.results42 (.cell rfl (fun w hA => run_loadVarA (cs:=[_,_,_,_,_]) (Try.isAgg38 w) (Try.sizeOf38 w) (Tells.cells (.loc _ _ _) (hA.get (i:=0) rfl)))) (fun w hA => ⟨(y12.1,y12.2.1,y15),congrArg Ending.returned ?_,?_,?_⟩)
  ·(rw [hrp])
  ·exact hy12
  ·(rw [hrp];exact hA.only (is:=[1,2,3,1]) (Z:=[_,_]) rfl)
 intro h8
 refine H_skip ?_
 refine H_seq ?_
 refine H_meetE (σ:=Nat × Nat × Option Addr × Nat × (Option Addr × Nat)) _ (fun s => s.2.1≤log.length) (fun s => [(0,.func (.func 72) #[] #[.pointer (some ⟨gs,0,none⟩),.pointer (some ⟨gl,0,none⟩)]),(4,.pointer (some ⟨g4,0,none⟩)),(6,.pointer (some ⟨s.1,0,none⟩))]) (fun s => Asn w0 ok0 M0 [.loc g4 [.int .i64 (0),.bool (false),.string (⟨#[]⟩),.int .i64 (0),.slice none 0 0] 38,.loc s.1 [.int .i64 ((Mod.apply (Hist.state log (at_ - 1).toNat).1 (Hist.state log (at_ - 1).toNat).2 at_ ⟨ki,cs,sq,ke,ol,cv,ti,li⟩).2.2.err),.bool ((Mod.apply (Hist.state log (at_ - 1).toNat).1 (Hist.state log (at_ - 1).toNat).2 at_ ⟨ki,cs,sq,ke,ol,cv,ti,li⟩).2.2.found),.string ((Mod.apply (Hist.state log (at_ - 1).toNat).1 (Hist.state log (at_ - 1).toNat).2 at_ ⟨ki,cs,sq,ke,ol,cv,ti,li⟩).2.2.val),.int .i64 ((Mod.apply (Hist.state log (at_ - 1).toNat).1 (Hist.state log (at_ - 1).toNat).2 at_ ⟨ki,cs,sq,ke,ol,cv,ti,li⟩).2.2.sess),.slice s.2.2.2.2.1 (((Mod.apply (Hist.state log (at_ - 1).toNat).1 (Hist.state log (at_ - 1).toNat).2 at_ ⟨ki,cs,sq,ke,ol,cv,ti,li⟩).2.2.pairs).length) s.2.2.2.2.2] 38,.dat kPair.sl ((Mod.apply (Hist.state log (at_ - 1).toNat).1 (Hist.state log (at_ - 1).toNat).2 at_ ⟨ki,cs,sq,ke,ol,cv,ti,li⟩).2.2.pairs) [.slice s.2.2.2.2.1 (((Mod.apply (Hist.state log (at_ - 1).toNat).1 (Hist.state log (at_ - 1).toNat).2 at_ ⟨ki,cs,sq,ke,ol,cv,ti,li⟩).2.2.pairs).length) s.2.2.2.2.2],.loc gs [.slice s.2.2.1 (((Hist.sts log s.2.1)).length) s.2.2.2.1] 119,.own 56 kSt s.2.2.1 s.2.2.2.1 ((Hist.sts log s.2.1)),.loc gl [.slice a8 (log.length) c8] 22,.dat kEnt.sl (log) [.slice a8 (log.length) c8]]) ?_ ?_
 ·skip
  refine H_drawB (m:=[yy,yy,nn,nn,nn,yy]) (Xs:=[_,_,_]) (fuel:=17) (l:=#[false,false,false,false,false,false,false,false,false,false,false,false,false,false,false,false,false]) mixed rfl rfl rfl ?_
  refine HA_take (i:=0) bp rfl rfl rfl rfl (by kernel_rfl) rfl (V_move rfl) (kp [yy,yy,nn,nn,nn,yy] [_,_,_] rfl) ?_
  refine HA_take (i:=1) bp rfl rfl rfl rfl (by kernel_rfl) rfl (V_fieldAddr (r:=15) rfl Try.underlying40 rfl Try.sizeOf3 rfl) (kp [yy,yy,nn,nn,nn,yy] [_,_,_] rfl) ?_
  refine HA_take (i:=2) bp rfl rfl rfl rfl (by kernel_rfl) rfl (V_load1 (i:=1) (j:=15) rfl Try.isAgg3 rfl (.loc _ _ _) rfl rfl) (kp [yy,yy,nn,nn,nn,yy] [_,_,_] rfl) ?_
  refine HA_take (i:=3) bp rfl rfl rfl rfl (by kernel_rfl) rfl (V_bin rfl rfl (bin_sub ?_ ?_)) (kp [yy,yy,nn,nn,nn,yy] [_,_,_] rfl) ?_
  ·omega
  ·(have:=hat.2.2 h8;omega)
  refine HA_take (i:=5) bp rfl rfl rfl rfl (by kernel_rfl) rfl (V_fieldAddr (r:=15) rfl Try.underlying40 rfl Try.sizeOf3 rfl) (kp [yy,yy,nn,nn,nn,yy] [_,_,_] rfl) ?_
  refine HA_take (i:=6) bp rfl rfl rfl rfl (by kernel_rfl) rfl (V_load1 (i:=1) (j:=15) rfl Try.isAgg3 rfl (.loc _ _ _) rfl rfl) (kp [yy,yy,nn,nn,nn,yy] [_,_,_] rfl) ?_
  refine HA_take (i:=7) bp rfl rfl rfl rfl (by kernel_rfl) rfl (V_fieldAddr (r:=0) rfl Try.underlying40 rfl Try.sizeOf36 rfl) (kp [yy,yy,nn,nn,nn,yy] [_,_,_] rfl) ?_
  refine HA_take (i:=8) bp rfl rfl rfl rfl (by kernel_rfl) rfl (V_loadA (i:=1) (us:=[]) (cs:=[_,_,_,_,_,_,_,_]) (ts:=[_,_,_,_,_,_,_,_,_]) rfl Try.isAgg36 Try.sizeOf36 rfl (.loc _ _ _) rfl rfl rfl rfl) (kp [yy,yy,nn,nn,nn,yy] [_,_,_] rfl) ?_
  refine HA_loud3 (i:=4) (j:=13) (m:=14) (by kernel_rfl) rfl rfl rfl ?_ ?_ ?_
  ·refine HO_dup (i:=5) rfl rfl ?_
   refine HO_call (first:=[]) (capt:=[_,_]) (is:=[2,3,4,0]) (R:=[_,_,_]) rfl rfl rfl rfl rfl Try.call72 rfl (past1_spec _ _ _ _ _ _ _ _ _ ?_ ?_ ?_) ?_
   ·exact hl
   ·exact hm
   ·(have:=hat.2.2 h8;omega)
   intro y21 hy21
   refine HA_back rfl (kp [nn,nn,nn,nn,nn,yy,yy,yy] [_,_,_] rfl) ?_
   refine HA_loud3 (i:=9) (j:=13) (m:=14) (by kernel_rfl) rfl rfl rfl ?_ ?_ ?_
   ·refine HO_dup (i:=3) rfl rfl ?_
    refine HO_dup (i:=5) rfl rfl ?_
    refine HO_call (first:=[]) (capt:=[]) (is:=[0,0]) (R:=[_,_,_,_,_,_,_,_]) rfl rfl rfl rfl rfl Try.call29 rfl (apply_spec _ _ _ _ _ _ _ _ _ _ _ _ _ _ _ ?_ ?_ ?_ ?_ ?_ ?_) ?_
    ·exact Hist.state_inv log (at_ - 1).toNat
    ·exact ra
    ·exact rc
    ·exact rq
    ·exact sk
    ·exact sc
    intro y26 hy26
    refine HA_back rfl (kp [nn,nn,nn,nn,nn,nn,nn,nn,yy,yy,yy] [_,_,_] rfl) ?_
    refine HA_take (i:=10) bp rfl rfl rfl rfl (by kernel_rfl) rfl (V_move rfl) (kp [nn,nn,nn,nn,nn,nn,nn,nn,yy,yy,yy] [_,_,_] rfl) ?_
    refine HA_take (i:=11) bp rfl rfl rfl rfl (by kernel_rfl) rfl (V_extract (vs:=[_,_]) rfl rfl) (kp [nn,nn,nn,nn,nn,nn,nn,nn,yy,yy,yy] [_,_,_] rfl) ?_
    refine HA_take (i:=12) bp rfl rfl rfl rfl (by kernel_rfl) rfl (V_extract (vs:=[_,_]) rfl rfl) (kp [nn,nn,nn,nn,nn,nn,nn,nn,yy,yy,yy] [_,_,_] rfl) ?_
    refine HA_loud2 (i:=13) (j:=14) (by kernel_rfl) rfl rfl ?_ ?_
    ·refine HO_alloc (cs:=[_,_]) rfl rfl Try.zeroValue56 rfl ?_
     intro g5
     refine HA_back rfl (kp [nn,nn,nn,nn,nn,nn,nn,nn,nn,yy,yy,yy] [_,_,_] rfl) ?_
     refine HA_loud1 (i:=14) (by kernel_rfl) rfl ?_
     refine HO_alloc (cs:=[_,_,_,_,_]) rfl rfl Try.zeroValue38 rfl ?_
     intro g6
     refine HA_back rfl (kp [nn,nn,nn,nn,nn,nn,nn,nn,nn,nn,yy,yy,yy] [_,_,_] rfl) ?_
     refine HA_loud1 (i:=15) (by kernel_rfl) rfl ?_
     refine HO_store (i:=1) (j:=0) (us:=[]) (old:=[_,_]) (ts:=[]) (cs:=[_,_]) (R:=[_,_,_,_,_,_,_,_,_,_,_,_]) (new:=[_,_]) rfl rfl rfl Try.sizeOf56 rfl (by simp [Value.oneCell']) rfl rfl rfl rfl rfl rfl ?_
     refine HA_back rfl (kp [nn,nn,nn,nn,nn,nn,nn,nn,nn,nn,yy,yy,yy] [_,_,_] rfl) ?_
     refine HA_loud1 (i:=16) (by kernel_rfl) rfl ?_
     refine HO_store (i:=1) (j:=0) (us:=[]) (old:=[_,_,_,_,_]) (ts:=[]) (cs:=[_,_,_,_,_]) (R:=[_,_,_,_,_,_,_,_,_,_,_,_]) (new:=[_,_,_,_,_]) rfl rfl rfl Try.sizeOf38 rfl (by simp [Value.oneCell']) rfl rfl rfl rfl rfl rfl ?_
     refine HA_back rfl (kp [nn,nn,nn,nn,nn,nn,nn,nn,nn,nn,yy,yy,yy] [_,_,_] rfl) ?_
     refine HA_done (by kernel_rfl) ?_
     refine H_env (ρ':=[(6,_),(4,_),(0,_)]) ⟨rfl,rfl,rfl,trivial⟩ ?_
     refine H_world (kp [yy,nn,nn,nn,yy,yy,yy,yy,nn,nn,yy,nn,yy] [_,_,_,_,_,_,_] rfl) ?_
     refine H_inv (fun a w hf hA => ⟨⟨g6,y21.1,y21.2.1.1,y21.2.1.2,y26.2.2⟩,?_,hf.sub ?_,?_⟩)
     ·exact hy21
     ·exact ⟨rfl,rfl,rfl,trivial⟩
     ·exact hA.only (is:=[0,0,1,2,3,4,6]) (Z:=[]) rfl
    ·refine HO_alloc (cs:=[_,_,_,_,_]) rfl rfl Try.zeroValue38 rfl ?_
     intro g6
     refine HA_back rfl (kp [nn,nn,nn,nn,nn,nn,nn,nn,nn,yy,yy,yy] [_,_,_] rfl) ?_
     refine HA_loud1 (i:=13) (by kernel_rfl) rfl ?_
     refine HO_alloc (cs:=[_,_]) rfl rfl Try.zeroValue56 rfl ?_
     intro g5
     refine HA_back rfl (kp [nn,nn,nn,nn,nn,nn,nn,nn,nn,nn,yy,yy,yy] [_,_,_] rfl) ?_
     refine HA_loud1 (i:=15) (by kernel_rfl) rfl ?_
     refine HO_store (i:=0) (j:=0) (us:=[]) (old:=[_,_]) (ts:=[]) (cs:=[_,_]) (R:=[_,_,_,_,_,_,_,_,_,_,_,_]) (new:=[_,_]) rfl rfl rfl Try.sizeOf56 rfl (by simp [Value.oneCell']) rfl rfl rfl rfl rfl rfl ?_
     refine HA_back rfl (kp [nn,nn,nn,nn,nn,nn,nn,nn,nn,nn,yy,yy,yy] [_,_,_] rfl) ?_
     refine HA_loud1 (i:=16) (by kernel_rfl) rfl ?_
     refine HO_store (i:=1) (j:=0) (us:=[]) (old:=[_,_,_,_,_]) (ts:=[]) (cs:=[_,_,_,_,_]) (R:=[_,_,_,_,_,_,_,_,_,_,_,_]) (new:=[_,_,_,_,_]) rfl rfl rfl Try.sizeOf38 rfl (by simp [Value.oneCell']) rfl rfl rfl rfl rfl rfl ?_
     refine HA_back rfl (kp [nn,nn,nn,nn,nn,nn,nn,nn,nn,nn,yy,yy,yy] [_,_,_] rfl) ?_
     refine HA_done (by kernel_rfl) ?_
     refine H_env (ρ':=[(6,_),(4,_),(0,_)]) ⟨rfl,rfl,rfl,trivial⟩ ?_
     refine H_world (kp [yy,nn,nn,nn,yy,yy,yy,yy,nn,nn,yy,nn,yy] [_,_,_,_,_,_,_] rfl) ?_
     refine H_inv (fun a w hf hA => ⟨⟨g6,y21.1,y21.2.1.1,y21.2.1.2,y26.2.2⟩,?_,hf.sub ?_,?_⟩)
     ·exact hy21
     ·exact ⟨rfl,rfl,rfl,trivial⟩
     ·exact hA.only (is:=[0,0,1,2,3,4,6]) (Z:=[]) rfl
   ·refine HO_alloc (cs:=[_,_]) rfl rfl Try.zeroValue56 rfl ?_
    intro g5
    refine HA_back rfl (kp [nn,nn,nn,nn,nn,nn,yy,yy,yy] [_,_,_] rfl) ?_
    refine HA_loud2 (i:=9) (j:=14) (by kernel_rfl) rfl rfl ?_ ?_
    ·refine HO_dup (i:=4) rfl rfl ?_
     refine HO_dup (i:=6) rfl rfl ?_
     refine HO_call (first:=[]) (capt:=[]) (is:=[0,0]) (R:=[_,_,_,_,_,_,_,_,_]) rfl rfl rfl rfl rfl Try.call29 rfl (apply_spec _ _ _ _ _ _ _ _ _ _ _ _ _ _ _ ?_ ?_ ?_ ?_ ?_ ?_) ?_
     ·exact Hist.state_inv log (at_ - 1).toNat
     ·exact ra
     ·exact rc
     ·exact rq
     ·exact sk
     ·exact sc
     intro y26 hy26
     refine HA_back rfl (kp [nn,nn,nn,nn,nn,nn,nn,nn,nn,yy,yy,yy] [_,_,_] rfl) ?_
     refine HA_take (i:=10) bp rfl rfl rfl rfl (by kernel_rfl) rfl (V_move rfl) (kp [nn,nn,nn,nn,nn,nn,nn,nn,nn,yy,yy,yy] [_,_,_] rfl) ?_
     refine HA_take (i:=11) bp rfl rfl rfl rfl (by kernel_rfl) rfl (V_extract (vs:=[_,_]) rfl rfl) (kp [nn,nn,nn,nn,nn,nn,nn,nn,nn,yy,yy,yy] [_,_,_] rfl) ?_
     refine HA_take (i:=12) bp rfl rfl rfl rfl (by kernel_rfl) rfl (V_extract (vs:=[_,_]) rfl rfl) (kp [nn,nn,nn,nn,nn,nn,nn,nn,nn,yy,yy,yy] [_,_,_] rfl) ?_
     refine HA_loud1 (i:=14) (by kernel_rfl) rfl ?_
     refine HO_alloc (cs:=[_,_,_,_,_]) rfl rfl Try.zeroValue38 rfl ?_
     intro g6
     refine HA_back rfl (kp [nn,nn,nn,nn,nn,nn,nn,nn,nn,nn,yy,yy,yy] [_,_,_] rfl) ?_
     refine HA_loud1 (i:=15) (by kernel_rfl) rfl ?_
     refine HO_store (i:=4) (j:=0) (us:=[]) (old:=[_,_]) (ts:=[]) (cs:=[_,_]) (R:=[_,_,_,_,_,_,_,_,_,_,_,_]) (new:=[_,_]) rfl rfl rfl Try.sizeOf56 rfl (by simp [Value.oneCell']) rfl rfl rfl rfl rfl rfl ?_
     refine HA_back rfl (kp [nn,nn,nn,nn,nn,nn,nn,nn,nn,nn,yy,yy,yy] [_,_,_] rfl) ?_
     refine HA_loud1 (i:=16) (by kernel_rfl) rfl ?_
     refine HO_store (i:=1) (j:=0) (us:=[]) (old:=[_,_,_,_,_]) (ts:=[]) (cs:=[_,_,_,_,_]) (R:=[_,_,_,_,_,_,_,_,_,_,_,_]) (new:=[_,_,_,_,_]) rfl rfl rfl Try.sizeOf38 rfl (by simp [Value.oneCell']) rfl rfl rfl rfl rfl rfl ?_
     refine HA_back rfl (kp [nn,nn,nn,nn,nn,nn,nn,nn,nn,nn,yy,yy,yy] [_,_,_] rfl) ?_
     refine HA_done (by kernel_rfl) ?_
     refine H_env (ρ':=[(6,_),(4,_),(0,_)]) ⟨rfl,rfl,rfl,trivial⟩ ?_
     refine H_world (kp [yy,nn,nn,nn,yy,yy,yy,yy,nn,nn,yy,nn,yy] [_,_,_,_,_,_,_] rfl) ?_
     refine H_inv (fun a w hf hA => ⟨⟨g6,y21.1,y21.2.1.1,y21.2.1.2,y26.2.2⟩,?_,hf.sub ?_,?_⟩)
     ·exact hy21
     ·exact ⟨rfl,rfl,rfl,trivial⟩
     ·exact hA.only (is:=[0,0,1,2,3,4,6]) (Z:=[]) rfl
    ·refine HO_alloc (cs:=[_,_,_,_,_]) rfl rfl Try.zeroValue38 rfl ?_
     intro g6
     refine HA_back rfl (kp [nn,nn,nn,nn,nn,nn,nn,yy,yy,yy] [_,_,_] rfl) ?_
     refine HA_loud1 (i:=9) (by kernel_rfl) rfl ?_
     refine HO_dup (i:=5) rfl rfl ?_
     refine HO_dup (i:=7) rfl rfl ?_
     refine HO_call (first:=[]) (capt:=[]) (is:=[0,0]) (R:=[_,_,_,_,_,_,_,_,_,_]) rfl rfl rfl rfl rfl Try.call29 rfl (apply_spec _ _ _ _ _ _ _ _ _ _ _ _ _ _ _ ?_ ?_ ?_ ?_ ?_ ?_) ?_
     ·exact Hist.state_inv log (at_ - 1).toNat
     ·exact ra
     ·exact rc
     ·exact rq
     ·exact sk
     ·exact sc
     intro y26 hy26
     refine HA_back rfl (kp [nn,nn,nn,nn,nn,nn,nn,nn,nn,nn,yy,yy,yy] [_,_,_] rfl) ?_
     refine HA_take (i:=10) bp rfl rfl rfl rfl (by kernel_rfl) rfl (V_move rfl) (kp [nn,nn,nn,nn,nn,nn,nn,nn,nn,nn,yy,yy,yy] [_,_,_] rfl) ?_
     refine HA_take (i:=11) bp rfl rfl rfl rfl (by kernel_rfl) rfl (V_extract (vs:=[_,_]) rfl rfl) (kp [nn,nn,nn,nn,nn,nn,nn,nn,nn,nn,yy,yy,yy] [_,_,_] rfl) ?_
     refine HA_take (i:=12) bp rfl rfl rfl rfl (by kernel_rfl) rfl (V_extract (vs:=[_,_]) rfl rfl) (kp [nn,nn,nn,nn,nn,nn,nn,nn,nn,nn,yy,yy,yy] [_,_,_] rfl) ?_
     refine HA_loud1 (i:=15) (by kernel_rfl) rfl ?_
     refine HO_store (i:=4) (j:=0) (us:=[]) (old:=[_,_]) (ts:=[]) (cs:=[_,_]) (R:=[_,_,_,_,_,_,_,_,_,_,_,_]) (new:=[_,_]) rfl rfl rfl Try.sizeOf56 rfl (by simp [Value.oneCell']) rfl rfl rfl rfl rfl rfl ?_
     refine HA_back rfl (kp [nn,nn,nn,nn,nn,nn,nn,nn,nn,nn,yy,yy,yy] [_,_,_] rfl) ?_
     refine HA_loud1 (i:=16) (by kernel_rfl) rfl ?_
     refine HO_store (i:=4) (j:=0) (us:=[]) (old:=[_,_,_,_,_]) (ts:=[]) (cs:=[_,_,_,_,_]) (R:=[_,_,_,_,_,_,_,_,_,_,_,_]) (new:=[_,_,_,_,_]) rfl rfl rfl Try.sizeOf38 rfl (by simp [Value.oneCell']) rfl rfl rfl rfl rfl rfl ?_
     refine HA_back rfl (kp [nn,nn,nn,nn,nn,nn,nn,nn,nn,nn,yy,yy,yy] [_,_,_] rfl) ?_
     refine HA_done (by kernel_rfl) ?_
     refine H_env (ρ':=[(6,_),(4,_),(0,_)]) ⟨rfl,rfl,rfl,trivial⟩ ?_
     refine H_world (kp [yy,nn,nn,nn,yy,yy,yy,yy,nn,nn,yy,nn,yy] [_,_,_,_,_,_,_] rfl) ?_
     refine H_inv (fun a w hf hA => ⟨⟨g6,y21.1,y21.2.1.1,y21.2.1.2,y26.2.2⟩,?_,hf.sub ?_,?_⟩)
     ·exact hy21
     ·exact ⟨rfl,rfl,rfl,trivial⟩
     ·exact hA.only (is:=[0,0,1,2,3,4,6]) (Z:=[]) rfl
   ·refine HO_alloc (cs:=[_,_,_,_,_]) rfl rfl Try.zeroValue38 rfl ?_
    intro g6
    refine HA_back rfl (kp [nn,nn,nn,nn,nn,nn,yy,yy,yy] [_,_,_] rfl) ?_
    refine HA_loud2 (i:=9) (j:=13) (by kernel_rfl) rfl rfl ?_ ?_
    ·refine HO_dup (i:=4) rfl rfl ?_
     refine HO_dup (i:=6) rfl rfl ?_
     refine HO_call (first:=[]) (capt:=[]) (is:=[0,0]) (R:=[_,_,_,_,_,_,_,_,_]) rfl rfl rfl rfl rfl Try.call29 rfl (apply_spec _ _ _ _ _ _ _ _ _ _ _ _ _ _ _ ?_ ?_ ?_ ?_ ?_ ?_) ?_
     ·exact Hist.state_inv log (at_ - 1).toNat
     ·exact ra
     ·exact rc
     ·exact rq
     ·exact sk
     ·exact sc
     intro y26 hy26
     refine HA_back rfl (kp [nn,nn,nn,nn,nn,nn,nn,nn,nn,yy,yy,yy] [_,_,_] rfl) ?_
     refine HA_take (i:=10) bp rfl rfl rfl rfl (by kernel_rfl) rfl (V_move rfl) (kp [nn,nn,nn,nn,nn,nn,nn,nn,nn,yy,yy,yy] [_,_,_] rfl) ?_
     refine HA_take (i:=11) bp rfl rfl rfl rfl (by kernel_rfl) rfl (V_extract (vs:=[_,_]) rfl rfl) (kp [nn,nn,nn,nn,nn,nn,nn,nn,nn,yy,yy,yy] [_,_,_] rfl) ?_
     refine HA_take (i:=12) bp rfl rfl rfl rfl (by kernel_rfl) rfl (V_extract (vs:=[_,_]) rfl rfl) (kp [nn,nn,nn,nn,nn,nn,nn,nn,nn,yy,yy,yy] [_,_,_] rfl) ?_
     refine HA_loud1 (i:=13) (by kernel_rfl) rfl ?_
     refine HO_alloc (cs:=[_,_]) rfl rfl Try.zeroValue56 rfl ?_
     intro g5
     refine HA_back rfl (kp [nn,nn,nn,nn,nn,nn,nn,nn,nn,nn,yy,yy,yy] [_,_,_] rfl) ?_
     refine HA_loud1 (i:=15) (by kernel_rfl) rfl ?_
     refine HO_store (i:=0) (j:=0) (us:=[]) (old:=[_,_]) (ts:=[]) (cs:=[_,_]) (R:=[_,_,_,_,_,_,_,_,_,_,_,_]) (new:=[_,_]) rfl rfl rfl Try.sizeOf56 rfl (by simp [Value.oneCell']) rfl rfl rfl rfl rfl rfl ?_
     refine HA_back rfl (kp [nn,nn,nn,nn,nn,nn,nn,nn,nn,nn,yy,yy,yy] [_,_,_] rfl) ?_
     refine HA_loud1 (i:=16) (by kernel_rfl) rfl ?_
     refine HO_store (i:=4) (j:=0) (us:=[]) (old:=[_,_,_,_,_]) (ts:=[]) (cs:=[_,_,_,_,_]) (R:=[_,_,_,_,_,_,_,_,_,_,_,_]) (new:=[_,_,_,_,_]) rfl rfl rfl Try.sizeOf38 rfl (by simp [Value.oneCell']) rfl rfl rfl rfl rfl rfl ?_
     refine HA_back rfl (kp [nn,nn,nn,nn,nn,nn,nn,nn,nn,nn,yy,yy,yy] [_,_,_] rfl) ?_
     refine HA_done (by kernel_rfl) ?_
     refine H_env (ρ':=[(6,_),(4,_),(0,_)]) ⟨rfl,rfl,rfl,trivial⟩ ?_
     refine H_world (kp [yy,nn,nn,nn,yy,yy,yy,yy,nn,nn,yy,nn,yy] [_,_,_,_,_,_,_] rfl) ?_
     refine H_inv (fun a w hf hA => ⟨⟨g6,y21.1,y21.2.1.1,y21.2.1.2,y26.2.2⟩,?_,hf.sub ?_,?_⟩)
     ·exact hy21
     ·exact ⟨rfl,rfl,rfl,trivial⟩
     ·exact hA.only (is:=[0,0,1,2,3,4,6]) (Z:=[]) rfl
    ·refine HO_alloc (cs:=[_,_]) rfl rfl Try.zeroValue56 rfl ?_
     intro g5
     refine HA_back rfl (kp [nn,nn,nn,nn,nn,nn,nn,yy,yy,yy] [_,_,_] rfl) ?_
     refine HA_loud1 (i:=9) (by kernel_rfl) rfl ?_
     refine HO_dup (i:=5) rfl rfl ?_
     refine HO_dup (i:=7) rfl rfl ?_
     refine HO_call (first:=[]) (capt:=[]) (is:=[0,0]) (R:=[_,_,_,_,_,_,_,_,_,_]) rfl rfl rfl rfl rfl Try.call29 rfl (apply_spec _ _ _ _ _ _ _ _ _ _ _ _ _ _ _ ?_ ?_ ?_ ?_ ?_ ?_) ?_
     ·exact Hist.state_inv log (at_ - 1).toNat
     ·exact ra
     ·exact rc
     ·exact rq
     ·exact sk
     ·exact sc
     intro y26 hy26
     refine HA_back rfl (kp [nn,nn,nn,nn,nn,nn,nn,nn,nn,nn,yy,yy,yy] [_,_,_] rfl) ?_
     refine HA_take (i:=10) bp rfl rfl rfl rfl (by kernel_rfl) rfl (V_move rfl) (kp [nn,nn,nn,nn,nn,nn,nn,nn,nn,nn,yy,yy,yy] [_,_,_] rfl) ?_
     refine HA_take (i:=11) bp rfl rfl rfl rfl (by kernel_rfl) rfl (V_extract (vs:=[_,_]) rfl rfl) (kp [nn,nn,nn,nn,nn,nn,nn,nn,nn,nn,yy,yy,yy] [_,_,_] rfl) ?_
     refine HA_take (i:=12) bp rfl rfl rfl rfl (by kernel_rfl) rfl (V_extract (vs:=[_,_]) rfl rfl) (kp [nn,nn,nn,nn,nn,nn,nn,nn,nn,nn,yy,yy,yy] [_,_,_] rfl) ?_
     refine HA_loud1 (i:=15) (by kernel_rfl) rfl ?_
     refine HO_store (i:=3) (j:=0) (us:=[]) (old:=[_,_]) (ts:=[]) (cs:=[_,_]) (R:=[_,_,_,_,_,_,_,_,_,_,_,_]) (new:=[_,_]) rfl rfl rfl Try.sizeOf56 rfl (by simp [Value.oneCell']) rfl rfl rfl rfl rfl rfl ?_
     refine HA_back rfl (kp [nn,nn,nn,nn,nn,nn,nn,nn,nn,nn,yy,yy,yy] [_,_,_] rfl) ?_
     refine HA_loud1 (i:=16) (by kernel_rfl) rfl ?_
     refine HO_store (i:=4) (j:=0) (us:=[]) (old:=[_,_,_,_,_]) (ts:=[]) (cs:=[_,_,_,_,_]) (R:=[_,_,_,_,_,_,_,_,_,_,_,_]) (new:=[_,_,_,_,_]) rfl rfl rfl Try.sizeOf38 rfl (by simp [Value.oneCell']) rfl rfl rfl rfl rfl rfl ?_
     refine HA_back rfl (kp [nn,nn,nn,nn,nn,nn,nn,nn,nn,nn,yy,yy,yy] [_,_,_] rfl) ?_
     refine HA_done (by kernel_rfl) ?_
     refine H_env (ρ':=[(6,_),(4,_),(0,_)]) ⟨rfl,rfl,rfl,trivial⟩ ?_
     refine H_world (kp [yy,nn,nn,nn,yy,yy,yy,yy,nn,nn,yy,nn,yy] [_,_,_,_,_,_,_] rfl) ?_
     refine H_inv (fun a w hf hA => ⟨⟨g6,y21.1,y21.2.1.1,y21.2.1.2,y26.2.2⟩,?_,hf.sub ?_,?_⟩)
     ·exact hy21
     ·exact ⟨rfl,rfl,rfl,trivial⟩
     ·exact hA.only (is:=[0,0,1,2,3,4,6]) (Z:=[]) rfl
  ·refine HO_alloc (cs:=[_,_]) rfl rfl Try.zeroValue56 rfl ?_
   intro g5
   refine HA_back rfl (kp [nn,yy,yy,nn,nn,nn,yy] [_,_,_] rfl) ?_
   refine HA_loud2 (i:=4) (j:=14) (by kernel_rfl) rfl rfl ?_ ?_
   ·refine HO_dup (i:=6) rfl rfl ?_
    refine HO_call (first:=[]) (capt:=[_,_]) (is:=[3,4,5,0]) (R:=[_,_,_,_]) rfl rfl rfl rfl rfl Try.call72 rfl (past1_spec _ _ _ _ _ _ _ _ _ ?_ ?_ ?_) ?_
    ·exact hl
    ·exact hm
    ·(have:=hat.2.2 h8;omega)
    intro y21 hy21
    refine HA_back rfl (kp [nn,nn,nn,nn,nn,nn,yy,yy,yy] [_,_,_] rfl) ?_
    refine HA_loud2 (i:=9) (j:=14) (by kernel_rfl) rfl rfl ?_ ?_
    ·refine HO_dup (i:=3) rfl rfl ?_
     refine HO_dup (i:=5) rfl rfl ?_
     refine HO_call (first:=[]) (capt:=[]) (is:=[0,0]) (R:=[_,_,_,_,_,_,_,_,_]) rfl rfl rfl rfl rfl Try.call29 rfl (apply_spec _ _ _ _ _ _ _ _ _ _ _ _ _ _ _ ?_ ?_ ?_ ?_ ?_ ?_) ?_
     ·exact Hist.state_inv log (at_ - 1).toNat
     ·exact ra
     ·exact rc
     ·exact rq
     ·exact sk
     ·exact sc
     intro y26 hy26
     refine HA_back rfl (kp [nn,nn,nn,nn,nn,nn,nn,nn,nn,yy,yy,yy] [_,_,_] rfl) ?_
     refine HA_take (i:=10) bp rfl rfl rfl rfl (by kernel_rfl) rfl (V_move rfl) (kp [nn,nn,nn,nn,nn,nn,nn,nn,nn,yy,yy,yy] [_,_,_] rfl) ?_
     refine HA_take (i:=11) bp rfl rfl rfl rfl (by kernel_rfl) rfl (V_extract (vs:=[_,_]) rfl rfl) (kp [nn,nn,nn,nn,nn,nn,nn,nn,nn,yy,yy,yy] [_,_,_] rfl) ?_
     refine HA_take (i:=12) bp rfl rfl rfl rfl (by kernel_rfl) rfl (V_extract (vs:=[_,_]) rfl rfl) (kp [nn,nn,nn,nn,nn,nn,nn,nn,nn,yy,yy,yy] [_,_,_] rfl) ?_
     refine HA_loud1 (i:=14) (by kernel_rfl) rfl ?_
     refine HO_alloc (cs:=[_,_,_,_,_]) rfl rfl Try.zeroValue38 rfl ?_
     intro g6
     refine HA_back rfl (kp [nn,nn,nn,nn,nn,nn,nn,nn,nn,nn,yy,yy,yy] [_,_,_] rfl) ?_
     refine HA_loud1 (i:=15) (by kernel_rfl) rfl ?_
     refine HO_store (i:=9) (j:=0) (us:=[]) (old:=[_,_]) (ts:=[]) (cs:=[_,_]) (R:=[_,_,_,_,_,_,_,_,_,_,_,_]) (new:=[_,_]) rfl rfl rfl Try.sizeOf56 rfl (by simp [Value.oneCell']) rfl rfl rfl rfl rfl rfl ?_
     refine HA_back rfl (kp [nn,nn,nn,nn,nn,nn,nn,nn,nn,nn,yy,yy,yy] [_,_,_] rfl) ?_
     refine HA_loud1 (i:=16) (by kernel_rfl) rfl ?_
     refine HO_store (i:=1) (j:=0) (us:=[]) (old:=[_,_,_,_,_]) (ts:=[]) (cs:=[_,_,_,_,_]) (R:=[_,_,_,_,_,_,_,_,_,_,_,_]) (new:=[_,_,_,_,_]) rfl rfl rfl Try.sizeOf38 rfl (by simp [Value.oneCell']) rfl rfl rfl rfl rfl rfl ?_
     refine HA_back rfl (kp [nn,nn,nn,nn,nn,nn,nn,nn,nn,nn,yy,yy,yy] [_,_,_] rfl) ?_
     refine HA_done (by kernel_rfl) ?_
     refine H_env (ρ':=[(6,_),(4,_),(0,_)]) ⟨rfl,rfl,rfl,trivial⟩ ?_
     refine H_world (kp [yy,nn,nn,nn,yy,yy,yy,yy,nn,nn,yy,nn,yy] [_,_,_,_,_,_,_] rfl) ?_
     refine H_inv (fun a w hf hA => ⟨⟨g6,y21.1,y21.2.1.1,y21.2.1.2,y26.2.2⟩,?_,hf.sub ?_,?_⟩)
     ·exact hy21
     ·exact ⟨rfl,rfl,rfl,trivial⟩
     ·exact hA.only (is:=[0,0,1,2,3,4,6]) (Z:=[]) rfl
    ·refine HO_alloc (cs:=[_,_,_,_,_]) rfl rfl Try.zeroValue38 rfl ?_
     intro g6
     refine HA_back rfl (kp [nn,nn,nn,nn,nn,nn,nn,yy,yy,yy] [_,_,_] rfl) ?_
     refine HA_loud1 (i:=9) (by kernel_rfl) rfl ?_
     refine HO_dup (i:=4) rfl rfl ?_
     refine HO_dup (i:=6) rfl rfl ?_
     refine HO_call (first:=[]) (capt:=[]) (is:=[0,0]) (R:=[_,_,_,_,_,_,_,_,_,_]) rfl rfl rfl rfl rfl Try.call29 rfl (apply_spec _ _ _ _ _ _ _ _ _ _ _ _ _ _ _ ?_ ?_ ?_ ?_ ?_ ?_) ?_
     ·exact Hist.state_inv log (at_ - 1).toNat
     ·exact ra
     ·exact rc
     ·exact rq
     ·exact sk
     ·exact sc
     intro y26 hy26
     refine HA_back rfl (kp [nn,nn,nn,nn,nn,nn,nn,nn,nn,nn,yy,yy,yy] [_,_,_] rfl) ?_
     refine HA_take (i:=10) bp rfl rfl rfl rfl (by kernel_rfl) rfl (V_move rfl) (kp [nn,nn,nn,nn,nn,nn,nn,nn,nn,nn,yy,yy,yy] [_,_,_] rfl) ?_
     refine HA_take (i:=11) bp rfl rfl rfl rfl (by kernel_rfl) rfl (V_extract (vs:=[_,_]) rfl rfl) (kp [nn,nn,nn,nn,nn,nn,nn,nn,nn,nn,yy,yy,yy] [_,_,_] rfl) ?_
     refine HA_take (i:=12) bp rfl rfl rfl rfl (by kernel_rfl) rfl (V_extract (vs:=[_,_]) rfl rfl) (kp [nn,nn,nn,nn,nn,nn,nn,nn,nn,nn,yy,yy,yy] [_,_,_] rfl) ?_
     refine HA_loud1 (i:=15) (by kernel_rfl) rfl ?_
     refine HO_store (i:=9) (j:=0) (us:=[]) (old:=[_,_]) (ts:=[]) (cs:=[_,_]) (R:=[_,_,_,_,_,_,_,_,_,_,_,_]) (new:=[_,_]) rfl rfl rfl Try.sizeOf56 rfl (by simp [Value.oneCell']) rfl rfl rfl rfl rfl rfl ?_
     refine HA_back rfl (kp [nn,nn,nn,nn,nn,nn,nn,nn,nn,nn,yy,yy,yy] [_,_,_] rfl) ?_
     refine HA_loud1 (i:=16) (by kernel_rfl) rfl ?_
     refine HO_store (i:=4) (j:=0) (us:=[]) (old:=[_,_,_,_,_]) (ts:=[]) (cs:=[_,_,_,_,_]) (R:=[_,_,_,_,_,_,_,_,_,_,_,_]) (new:=[_,_,_,_,_]) rfl rfl rfl Try.sizeOf38 rfl (by simp [Value.oneCell']) rfl rfl rfl rfl rfl rfl ?_
     refine HA_back rfl (kp [nn,nn,nn,nn,nn,nn,nn,nn,nn,nn,yy,yy,yy] [_,_,_] rfl) ?_
     refine HA_done (by kernel_rfl) ?_
     refine H_env (ρ':=[(6,_),(4,_),(0,_)]) ⟨rfl,rfl,rfl,trivial⟩ ?_
     refine H_world (kp [yy,nn,nn,nn,yy,yy,yy,yy,nn,nn,yy,nn,yy] [_,_,_,_,_,_,_] rfl) ?_
     refine H_inv (fun a w hf hA => ⟨⟨g6,y21.1,y21.2.1.1,y21.2.1.2,y26.2.2⟩,?_,hf.sub ?_,?_⟩)
     ·exact hy21
     ·exact ⟨rfl,rfl,rfl,trivial⟩
     ·exact hA.only (is:=[0,0,1,2,3,4,6]) (Z:=[]) rfl
   ·refine HO_alloc (cs:=[_,_,_,_,_]) rfl rfl Try.zeroValue38 rfl ?_
    intro g6
    refine HA_back rfl (kp [nn,nn,yy,yy,nn,nn,nn,yy] [_,_,_] rfl) ?_
    refine HA_loud1 (i:=4) (by kernel_rfl) rfl ?_
    refine HO_dup (i:=7) rfl rfl ?_
    refine HO_call (first:=[]) (capt:=[_,_]) (is:=[4,5,6,0]) (R:=[_,_,_,_,_]) rfl rfl rfl rfl rfl Try.call72 rfl (past1_spec _ _ _ _ _ _ _ _ _ ?_ ?_ ?_) ?_
    ·exact hl
    ·exact hm
    ·(have:=hat.2.2 h8;omega)
    intro y21 hy21
    refine HA_back rfl (kp [nn,nn,nn,nn,nn,nn,nn,yy,yy,yy] [_,_,_] rfl) ?_
    refine HA_loud1 (i:=9) (by kernel_rfl) rfl ?_
    refine HO_dup (i:=3) rfl rfl ?_
    refine HO_dup (i:=5) rfl rfl ?_
    refine HO_call (first:=[]) (capt:=[]) (is:=[0,0]) (R:=[_,_,_,_,_,_,_,_,_,_]) rfl rfl rfl rfl rfl Try.call29 rfl (apply_spec _ _ _ _ _ _ _ _ _ _ _ _ _ _ _ ?_ ?_ ?_ ?_ ?_ ?_) ?_
    ·exact Hist.state_inv log (at_ - 1).toNat
    ·exact ra
    ·exact rc
    ·exact rq
    ·exact sk
    ·exact sc
    intro y26 hy26
    refine HA_back rfl (kp [nn,nn,nn,nn,nn,nn,nn,nn,nn,nn,yy,yy,yy] [_,_,_] rfl) ?_
    refine HA_take (i:=10) bp rfl rfl rfl rfl (by kernel_rfl) rfl (V_move rfl) (kp [nn,nn,nn,nn,nn,nn,nn,nn,nn,nn,yy,yy,yy] [_,_,_] rfl) ?_
    refine HA_take (i:=11) bp rfl rfl rfl rfl (by kernel_rfl) rfl (V_extract (vs:=[_,_]) rfl rfl) (kp [nn,nn,nn,nn,nn,nn,nn,nn,nn,nn,yy,yy,yy] [_,_,_] rfl) ?_
    refine HA_take (i:=12) bp rfl rfl rfl rfl (by kernel_rfl) rfl (V_extract (vs:=[_,_]) rfl rfl) (kp [nn,nn,nn,nn,nn,nn,nn,nn,nn,nn,yy,yy,yy] [_,_,_] rfl) ?_
    refine HA_loud1 (i:=15) (by kernel_rfl) rfl ?_
    refine HO_store (i:=9) (j:=0) (us:=[]) (old:=[_,_]) (ts:=[]) (cs:=[_,_]) (R:=[_,_,_,_,_,_,_,_,_,_,_,_]) (new:=[_,_]) rfl rfl rfl Try.sizeOf56 rfl (by simp [Value.oneCell']) rfl rfl rfl rfl rfl rfl ?_
    refine HA_back rfl (kp [nn,nn,nn,nn,nn,nn,nn,nn,nn,nn,yy,yy,yy] [_,_,_] rfl) ?_
    refine HA_loud1 (i:=16) (by kernel_rfl) rfl ?_
    refine HO_store (i:=9) (j:=0) (us:=[]) (old:=[_,_,_,_,_]) (ts:=[]) (cs:=[_,_,_,_,_]) (R:=[_,_,_,_,_,_,_,_,_,_,_,_]) (new:=[_,_,_,_,_]) rfl rfl rfl Try.sizeOf38 rfl (by simp [Value.oneCell']) rfl rfl rfl rfl rfl rfl ?_
    refine HA_back rfl (kp [nn,nn,nn,nn,nn,nn,nn,nn,nn,nn,yy,yy,yy] [_,_,_] rfl) ?_
    refine HA_done (by kernel_rfl) ?_
    refine H_env (ρ':=[(6,_),(4,_),(0,_)]) ⟨rfl,rfl,rfl,trivial⟩ ?_
    refine H_world (kp [yy,nn,nn,nn,yy,yy,yy,yy,nn,nn,yy,nn,yy] [_,_,_,_,_,_,_] rfl) ?_
    refine H_inv (fun a w hf hA => ⟨⟨g6,y21.1,y21.2.1.1,y21.2.1.2,y26.2.2⟩,?_,hf.sub ?_,?_⟩)
    ·exact hy21
    ·exact ⟨rfl,rfl,rfl,trivial⟩
    ·exact hA.only (is:=[0,0,1,2,3,4,6]) (Z:=[]) rfl
  ·refine HO_alloc (cs:=[_,_,_,_,_]) rfl rfl Try.zeroValue38 rfl ?_
   intro g6
   refine HA_back rfl (kp [nn,yy,yy,nn,nn,nn,yy] [_,_,_] rfl) ?_
   refine HA_loud2 (i:=4) (j:=13) (by kernel_rfl) rfl rfl ?_ ?_
   ·refine HO_dup (i:=6) rfl rfl ?_
    refine HO_call (first:=[]) (capt:=[_,_]) (is:=[3,4,5,0]) (R:=[_,_,_,_]) rfl rfl rfl rfl rfl Try.call72 rfl (past1_spec _ _ _ _ _ _ _ _ _ ?_ ?_ ?_) ?_
    ·exact hl
    ·exact hm
    ·(have:=hat.2.2 h8;omega)
    intro y21 hy21
    refine HA_back rfl (kp [nn,nn,nn,nn,nn,nn,yy,yy,yy] [_,_,_] rfl) ?_
    refine HA_loud2 (i:=9) (j:=13) (by kernel_rfl) rfl rfl ?_ ?_
    ·refine HO_dup (i:=3) rfl rfl ?_
     refine HO_dup (i:=5) rfl rfl ?_
     refine HO_call (first:=[]) (capt:=[]) (is:=[0,0]) (R:=[_,_,_,_,_,_,_,_,_]) rfl rfl rfl rfl rfl Try.call29 rfl (apply_spec _ _ _ _ _ _ _ _ _ _ _ _ _ _ _ ?_ ?_ ?_ ?_ ?_ ?_) ?_
     ·exact Hist.state_inv log (at_ - 1).toNat
     ·exact ra
     ·exact rc
     ·exact rq
     ·exact sk
     ·exact sc
     intro y26 hy26
     refine HA_back rfl (kp [nn,nn,nn,nn,nn,nn,nn,nn,nn,yy,yy,yy] [_,_,_] rfl) ?_
     refine HA_take (i:=10) bp rfl rfl rfl rfl (by kernel_rfl) rfl (V_move rfl) (kp [nn,nn,nn,nn,nn,nn,nn,nn,nn,yy,yy,yy] [_,_,_] rfl) ?_
     refine HA_take (i:=11) bp rfl rfl rfl rfl (by kernel_rfl) rfl (V_extract (vs:=[_,_]) rfl rfl) (kp [nn,nn,nn,nn,nn,nn,nn,nn,nn,yy,yy,yy] [_,_,_] rfl) ?_
     refine HA_take (i:=12) bp rfl rfl rfl rfl (by kernel_rfl) rfl (V_extract (vs:=[_,_]) rfl rfl) (kp [nn,nn,nn,nn,nn,nn,nn,nn,nn,yy,yy,yy] [_,_,_] rfl) ?_
     refine HA_loud1 (i:=13) (by kernel_rfl) rfl ?_
     refine HO_alloc (cs:=[_,_]) rfl rfl Try.zeroValue56 rfl ?_
     intro g5
     refine HA_back rfl (kp [nn,nn,nn,nn,nn,nn,nn,nn,nn,nn,yy,yy,yy] [_,_,_] rfl) ?_
     refine HA_loud1 (i:=15) (by kernel_rfl) rfl ?_
     refine HO_store (i:=0) (j:=0) (us:=[]) (old:=[_,_]) (ts:=[]) (cs:=[_,_]) (R:=[_,_,_,_,_,_,_,_,_,_,_,_]) (new:=[_,_]) rfl rfl rfl Try.sizeOf56 rfl (by simp [Value.oneCell']) rfl rfl rfl rfl rfl rfl ?_
     refine HA_back rfl (kp [nn,nn,nn,nn,nn,nn,nn,nn,nn,nn,yy,yy,yy] [_,_,_] rfl) ?_
     refine HA_loud1 (i:=16) (by kernel_rfl) rfl ?_
     refine HO_store (i:=9) (j:=0) (us:=[]) (old:=[_,_,_,_,_]) (ts:=[]) (cs:=[_,_,_,_,_]) (R:=[_,_,_,_,_,_,_,_,_,_,_,_]) (new:=[_,_,_,_,_]) rfl rfl rfl Try.sizeOf38 rfl (by simp [Value.oneCell']) rfl rfl rfl rfl rfl rfl ?_
     refine HA_back rfl (kp [nn,nn,nn,nn,nn,nn,nn,nn,nn,nn,yy,yy,yy] [_,_,_] rfl) ?_
     refine HA_done (by kernel_rfl) ?_
     refine H_env (ρ':=[(6,_),(4,_),(0,_)]) ⟨rfl,rfl,rfl,trivial⟩ ?_
     refine H_world (kp [yy,nn,nn,nn,yy,yy,yy,yy,nn,nn,yy,nn,yy] [_,_,_,_,_,_,_] rfl) ?_
     refine H_inv (fun a w hf hA => ⟨⟨g6,y21.1,y21.2.1.1,y21.2.1.2,y26.2.2⟩,?_,hf.sub ?_,?_⟩)
     ·exact hy21
     ·exact ⟨rfl,rfl,rfl,trivial⟩
     ·exact hA.only (is:=[0,0,1,2,3,4,6]) (Z:=[]) rfl
    ·refine HO_alloc (cs:=[_,_]) rfl rfl Try.zeroValue56 rfl ?_
     intro g5
     refine HA_back rfl (kp [nn,nn,nn,nn,nn,nn,nn,yy,yy,yy] [_,_,_] rfl) ?_
     refine HA_loud1 (i:=9) (by kernel_rfl) rfl ?_
     refine HO_dup (i:=4) rfl rfl ?_
     refine HO_dup (i:=6) rfl rfl ?_
     refine HO_call (first:=[]) (capt:=[]) (is:=[0,0]) (R:=[_,_,_,_,_,_,_,_,_,_]) rfl rfl rfl rfl rfl Try.call29 rfl (apply_spec _ _ _ _ _ _ _ _ _ _ _ _ _ _ _ ?_ ?_ ?_ ?_ ?_ ?_) ?_
     ·exact Hist.state_inv log (at_ - 1).toNat
     ·exact ra
     ·exact rc
     ·exact rq
     ·exact sk
     ·exact sc
     intro y26 hy26
     refine HA_back rfl (kp [nn,nn,nn,nn,nn,nn,nn,nn,nn,nn,yy,yy,yy] [_,_,_] rfl) ?_
     refine HA_take (i:=10) bp rfl rfl rfl rfl (by kernel_rfl) rfl (V_move rfl) (kp [nn,nn,nn,nn,nn,nn,nn,nn,nn,nn,yy,yy,yy] [_,_,_] rfl) ?_
     refine HA_take (i:=11) bp rfl rfl rfl rfl (by kernel_rfl) rfl (V_extract (vs:=[_,_]) rfl rfl) (kp [nn,nn,nn,nn,nn,nn,nn,nn,nn,nn,yy,yy,yy] [_,_,_] rfl) ?_
     refine HA_take (i:=12) bp rfl rfl rfl rfl (by kernel_rfl) rfl (V_extract (vs:=[_,_]) rfl rfl) (kp [nn,nn,nn,nn,nn,nn,nn,nn,nn,nn,yy,yy,yy] [_,_,_] rfl) ?_
     refine HA_loud1 (i:=15) (by kernel_rfl) rfl ?_
     refine HO_store (i:=3) (j:=0) (us:=[]) (old:=[_,_]) (ts:=[]) (cs:=[_,_]) (R:=[_,_,_,_,_,_,_,_,_,_,_,_]) (new:=[_,_]) rfl rfl rfl Try.sizeOf56 rfl (by simp [Value.oneCell']) rfl rfl rfl rfl rfl rfl ?_
     refine HA_back rfl (kp [nn,nn,nn,nn,nn,nn,nn,nn,nn,nn,yy,yy,yy] [_,_,_] rfl) ?_
     refine HA_loud1 (i:=16) (by kernel_rfl) rfl ?_
     refine HO_store (i:=9) (j:=0) (us:=[]) (old:=[_,_,_,_,_]) (ts:=[]) (cs:=[_,_,_,_,_]) (R:=[_,_,_,_,_,_,_,_,_,_,_,_]) (new:=[_,_,_,_,_]) rfl rfl rfl Try.sizeOf38 rfl (by simp [Value.oneCell']) rfl rfl rfl rfl rfl rfl ?_
     refine HA_back rfl (kp [nn,nn,nn,nn,nn,nn,nn,nn,nn,nn,yy,yy,yy] [_,_,_] rfl) ?_
     refine HA_done (by kernel_rfl) ?_
     refine H_env (ρ':=[(6,_),(4,_),(0,_)]) ⟨rfl,rfl,rfl,trivial⟩ ?_
     refine H_world (kp [yy,nn,nn,nn,yy,yy,yy,yy,nn,nn,yy,nn,yy] [_,_,_,_,_,_,_] rfl) ?_
     refine H_inv (fun a w hf hA => ⟨⟨g6,y21.1,y21.2.1.1,y21.2.1.2,y26.2.2⟩,?_,hf.sub ?_,?_⟩)
     ·exact hy21
     ·exact ⟨rfl,rfl,rfl,trivial⟩
     ·exact hA.only (is:=[0,0,1,2,3,4,6]) (Z:=[]) rfl
   ·refine HO_alloc (cs:=[_,_]) rfl rfl Try.zeroValue56 rfl ?_
    intro g5
    refine HA_back rfl (kp [nn,nn,yy,yy,nn,nn,nn,yy] [_,_,_] rfl) ?_
    refine HA_loud1 (i:=4) (by kernel_rfl) rfl ?_
    refine HO_dup (i:=7) rfl rfl ?_
    refine HO_call (first:=[]) (capt:=[_,_]) (is:=[4,5,6,0]) (R:=[_,_,_,_,_]) rfl rfl rfl rfl rfl Try.call72 rfl (past1_spec _ _ _ _ _ _ _ _ _ ?_ ?_ ?_) ?_
    ·exact hl
    ·exact hm
    ·(have:=hat.2.2 h8;omega)
    intro y21 hy21
    refine HA_back rfl (kp [nn,nn,nn,nn,nn,nn,nn,yy,yy,yy] [_,_,_] rfl) ?_
    refine HA_loud1 (i:=9) (by kernel_rfl) rfl ?_
    refine HO_dup (i:=3) rfl rfl ?_
    refine HO_dup (i:=5) rfl rfl ?_
    refine HO_call (first:=[]) (capt:=[]) (is:=[0,0]) (R:=[_,_,_,_,_,_,_,_,_,_]) rfl rfl rfl rfl rfl Try.call29 rfl (apply_spec _ _ _ _ _ _ _ _ _ _ _ _ _ _ _ ?_ ?_ ?_ ?_ ?_ ?_) ?_
    ·exact Hist.state_inv log (at_ - 1).toNat
    ·exact ra
    ·exact rc
    ·exact rq
    ·exact sk
    ·exact sc
    intro y26 hy26
    refine HA_back rfl (kp [nn,nn,nn,nn,nn,nn,nn,nn,nn,nn,yy,yy,yy] [_,_,_] rfl) ?_
    refine HA_take (i:=10) bp rfl rfl rfl rfl (by kernel_rfl) rfl (V_move rfl) (kp [nn,nn,nn,nn,nn,nn,nn,nn,nn,nn,yy,yy,yy] [_,_,_] rfl) ?_
    refine HA_take (i:=11) bp rfl rfl rfl rfl (by kernel_rfl) rfl (V_extract (vs:=[_,_]) rfl rfl) (kp [nn,nn,nn,nn,nn,nn,nn,nn,nn,nn,yy,yy,yy] [_,_,_] rfl) ?_
    refine HA_take (i:=12) bp rfl rfl rfl rfl (by kernel_rfl) rfl (V_extract (vs:=[_,_]) rfl rfl) (kp [nn,nn,nn,nn,nn,nn,nn,nn,nn,nn,yy,yy,yy] [_,_,_] rfl) ?_
    refine HA_loud1 (i:=15) (by kernel_rfl) rfl ?_
    refine HO_store (i:=8) (j:=0) (us:=[]) (old:=[_,_]) (ts:=[]) (cs:=[_,_]) (R:=[_,_,_,_,_,_,_,_,_,_,_,_]) (new:=[_,_]) rfl rfl rfl Try.sizeOf56 rfl (by simp [Value.oneCell']) rfl rfl rfl rfl rfl rfl ?_
    refine HA_back rfl (kp [nn,nn,nn,nn,nn,nn,nn,nn,nn,nn,yy,yy,yy] [_,_,_] rfl) ?_
    refine HA_loud1 (i:=16) (by kernel_rfl) rfl ?_
    refine HO_store (i:=9) (j:=0) (us:=[]) (old:=[_,_,_,_,_]) (ts:=[]) (cs:=[_,_,_,_,_]) (R:=[_,_,_,_,_,_,_,_,_,_,_,_]) (new:=[_,_,_,_,_]) rfl rfl rfl Try.sizeOf38 rfl (by simp [Value.oneCell']) rfl rfl rfl rfl rfl rfl ?_
    refine HA_back rfl (kp [nn,nn,nn,nn,nn,nn,nn,nn,nn,nn,yy,yy,yy] [_,_,_] rfl) ?_
    refine HA_done (by kernel_rfl) ?_
    refine H_env (ρ':=[(6,_),(4,_),(0,_)]) ⟨rfl,rfl,rfl,trivial⟩ ?_
    refine H_world (kp [yy,nn,nn,nn,yy,yy,yy,yy,nn,nn,yy,nn,yy] [_,_,_,_,_,_,_] rfl) ?_
    refine H_inv (fun a w hf hA => ⟨⟨g6,y21.1,y21.2.1.1,y21.2.1.2,y26.2.2⟩,?_,hf.sub ?_,?_⟩)
    ·exact hy21
    ·exact ⟨rfl,rfl,rfl,trivial⟩
    ·exact hA.only (is:=[0,0,1,2,3,4,6]) (Z:=[]) rfl
 rintro ⟨g6,m',p',q',u⟩ hJ
 (try dsimp only at hJ ⊢)
 refine H_seq ?_
 have hrp : (Hist.reply log (⟨⟨ki,cs,sq,ke,ol,cv,ti,li⟩,⟨er,fo,va,se,ps⟩,s0,s1,at_,rd⟩ : Op)) = (Mod.apply (Hist.state log (at_ - 1).toNat).1 (Hist.state log (at_ - 1).toNat).2 at_ ⟨ki,cs,sq,ke,ol,cv,ti,li⟩).2.2:=if_neg (show ¬ rd = true by rw [h8];decide)
 refine H_region (l:=[_,_]) rfl ?_
 refine HO_loadA (i:=1) (us:=[]) (cs:=[_,_,_,_,_]) (ts:=[]) rfl rfl rfl Try.isAgg38 Try.sizeOf38 rfl (.loc _ _ _) rfl rfl rfl rfl ?_
 refine HO_store (i:=0) (j:=0) (us:=[]) (old:=[_,_,_,_,_]) (ts:=[]) (cs:=[_,_,_,_,_]) (R:=[_,_,_,_,_,_]) (new:=[_,_,_,_,_]) rfl rfl rfl Try.sizeOf38 rfl (by simp [Value.oneCell']) rfl rfl rfl rfl rfl rfl ?_
 refine HO_nil ?_
 refine H_env (ρ':=[(4,_)]) ⟨rfl,trivial⟩ ?_
 refine H_world (kp [yy,nn,yy,yy,yy,yy,yy] [_,_,_,_,_,_] rfl) ?_
 refine H_ret1 Try.results42 (.cell rfl (fun w hA => run_loadVarA (cs:=[_,_,_,_,_]) (Try.isAgg38 w) (Try.sizeOf38 w) (Tells.cells (.loc _ _ _) (hA.get (i:=0) rfl)))) (fun w hA => ⟨(m',(p',q'),u),congrArg Ending.returned ?_,?_,?_⟩)
 ·(rw [hrp])
 ·exact hJ
 ·(rw [hrp];exact hA.only (is:=[1,2,3,1]) (Z:=[_,_]) rfl)
set_option maxHeartbeats 0 in
theorem check_spec (log : List Ent) (a8 : Option Addr) (c8 : Nat) (ops : List Op) (a9 : Option Addr) (c9 : Nat) (hl : log.length≤200) : Spec Try.prog 16 #[.slice a8 (log.length) c8,.slice a9 (ops.length) c9] [.dat kEnt.sl (log) [.slice a8 (log.length) c8],.dat kOp.sl (ops) [.slice a9 (ops.length) c9]] (β:=Unit) (fun y => .tuple #[.int .i64 ((Hist.check log ops).1),.int .i64 ((Hist.check log ops).2)]) (fun y => True) (fun y => []):=by
 refine Spec.enter (vs:=[_,_]) Try.func16 rfl Try.ntmps16 rfl (Nat.le_of_ble_eq_true rfl) (fun w0 ok0 => ?_)
 generalize hM0 : blks _ = M0
 have hMn:=@noM _ _ hM0 (by simp [Atom.dat,Atom.elem])
 refine H_len_le (i:=0) rfl ?_
 intro hlen0
 refine H_len_le (i:=1) rfl ?_
 intro hlen1
 refine H_seq ?_
 refine H_region (l:=[_,_]) rfl ?_
 iterate 2 refine HO_assign rfl rfl rfl ?_
 refine HO_nil ?_
 refine H_env (ρ':=[(0,_),(1,_)]) ⟨rfl,rfl,trivial⟩ ?_
 refine H_seq ?_
 refine H_seq ?_
 refine H_region (l:=[_,_,_]) rfl ?_
 refine HO_move rfl rfl rfl ?_
 refine HO_bi rfl rfl rfl (bi_len_sl Try.underlying22) ?_
 refine HO_move rfl rfl rfl ?_
 refine HO_nil ?_
 refine H_block ?_
 refine H_loop (σ:=Nat) (fun s => s≤log.length∧(∀ (q : Nat) (e : Ent),q < s→log[q]? = some e→e.idx = (q : Int) + 1)) (fun s => [(0,.slice a8 (log.length) c8),(1,.slice a9 (ops.length) c9),(12,.slice a8 (log.length) c8),(13,.int .i64 ((log.length : Int))),(14,.int .i64 ((s : Int)))]) (fun s => Asn w0 ok0 M0 [.dat kEnt.sl (log) [.slice a8 (log.length) c8],.dat kOp.sl (ops) [.slice a9 (ops.length) c9]]) (fun s => log.length - s) 0 ?_ ?_ ?_ ?_
 ·exact ⟨Nat.zero_le _,fun q x hq _ => absurd hq (Nat.not_lt_zero _)⟩
 ·exact ⟨rfl,rfl,rfl,rfl,rfl,trivial⟩
 ·intro w hA
  exact hA.only (is:=[0,1]) (Z:=[]) rfl
 ·intro i hI
  (try dsimp only at hI ⊢)
  refine H_seq ?_
  refine H_region (l:=[_]) rfl ?_
  refine HO_bin rfl rfl rfl rfl bin_lss ?_
  refine HO_nil ?_
  refine H_seq ?_
  refine H_cond rfl ?_ ?_
  ·intro h15
   replace h15:=dT h15
   refine H_skip ?_
   refine H_seq ?_
   refine H_block ?_
   refine H_seq ?_
   refine H_region (l:=[_,_,_,_,_,_]) rfl ?_
   refine HO_move rfl rfl rfl ?_
   refine HO_indexAddr open_Ent (i:=0) rfl rfl rfl rfl rfl Try.underlying22 Try.sizeOf44 rfl ?_ ?_
   ·omega
   intro b17 o17 z17 y17 hz17 hI17
   (try simp only [BIG] at hI17)
   refine HO_loadA (i:=0) (us:=[]) (cs:=[_,_,_,_,_,_,_,_,_,_,_,_,_]) (ts:=[]) rfl rfl rfl Try.isAgg44 Try.sizeOf44 rfl (.elem _ _ _) rfl rfl rfl rfl ?_
   refine HO_alloc (cs:=[_,_,_,_,_,_,_,_,_,_,_,_,_]) rfl rfl Try.zeroValue44 rfl ?_
   intro g7
   refine HO_assign rfl rfl rfl ?_
   refine HO_store (i:=0) (j:=0) (us:=[]) (old:=[_,_,_,_,_,_,_,_,_,_,_,_,_]) (ts:=[]) (cs:=[_,_,_,_,_,_,_,_,_,_,_,_,_]) (R:=[_,_,_,_,_]) (new:=[_,_,_,_,_,_,_,_,_,_,_,_,_]) rfl rfl rfl Try.sizeOf44 rfl (by simp [Value.oneCell']) rfl rfl rfl rfl rfl rfl ?_
   refine HO_nil ?_
   refine H_env (ρ':=[(6,_),(7,_),(0,_),(1,_),(12,_),(13,_),(14,_)]) ⟨rfl,rfl,rfl,rfl,rfl,rfl,rfl,trivial⟩ ?_
   refine H_world (kp [yy,nn,yy,yy,yy,yy] [_,_,_,_,_] rfl) ?_
   refine H_seq ?_
   refine H_region (l:=[_,_,_,_,_]) rfl ?_
   refine HO_fieldAddr (r:=0) rfl rfl rfl Try.underlying44 rfl Try.sizeOf3 rfl ?_
   refine HO_load1 (i:=0) (j:=0) rfl rfl rfl Try.isAgg3 rfl (.loc _ _ _) rfl rfl ?_
   refine HO_move rfl rfl rfl ?_
   refine HO_bin rfl rfl rfl rfl (bin_add ?_ ?_) ?_
   ·omega
   ·omega
   refine HO_bin rfl rfl rfl rfl bin_neq ?_
   refine HO_nil ?_
   refine H_env (ρ':=[(23,_),(0,_),(1,_),(12,_),(13,_),(14,_)]) ⟨rfl,rfl,rfl,rfl,rfl,rfl,trivial⟩ ?_
   refine H_world (kp [nn,nn,nn,yy,yy] [_,_] rfl) ?_
   refine H_cond rfl ?_ ?_
   ·intro h23
    replace h23:=dT h23
    have hck:=Hist.check_bad (ops:=ops) (Hist.ok_no hz17 (by omega))
    refine H_seq ?_
    refine H_region (l:=[_,_]) rfl ?_
    iterate 2 refine HO_assign rfl rfl rfl ?_
    refine HO_nil ?_
    refine H_env (ρ':=[(5,_),(4,_)]) ⟨rfl,rfl,trivial⟩ ?_
    refine H_world (kp [nn,nn] [] rfl) ?_
    refine H_ret2 Try.results16 (.tmp rfl) (.tmp rfl) (fun w hA => ⟨(),congrArg Ending.returned ?_,?_,?_⟩)
    ·(rw [hck])
    ·trivial
    ·exact hA.keep (m:=[]) (Y:=[]) rfl
   intro h23
   replace h23:=dF h23
   refine H_skip ?_
   refine H_blk ?_
   refine H_region (l:=[_,_]) rfl ?_
   refine HO_bin rfl rfl rfl rfl (bin_add ?_ ?_) ?_
   ·omega
   ·omega
   refine HO_move rfl rfl rfl ?_
   refine HO_nil ?_
   refine H_env (ρ':=[(14,_),(0,_),(1,_),(12,_),(13,_)]) ⟨rfl,rfl,rfl,rfl,rfl,trivial⟩ ?_
   refine H_inv (fun a w hf hA => ⟨i + 1,?_,?_,hf.sub ?_,?_⟩)
   ·exact ⟨by omega,Hist.ok_next hz17 (by omega) hI.2⟩
   ·(try dsimp only);omega
   ·exact ⟨rfl,rfl,rfl,rfl,rfl,trivial⟩
   ·exact hA.only (is:=[0,1]) (Z:=[]) rfl
  intro h15
  replace h15:=dF h15
  refine H_exit rfl ?_
  refine H_seq ?_
  obtain rfl : i = log.length:=by omega
  have hok:=Hist.ok_yes hI.2
  have hck:=Hist.check_ok (ops:=ops) hok
  refine H_region (l:=[_,_,_]) rfl ?_
  refine HO_move rfl rfl rfl ?_
  refine HO_dup (i:=0) rfl rfl ?_
  refine HO_call (first:=[]) (capt:=[]) (is:=[0]) (R:=[_,_]) rfl rfl rfl rfl rfl Try.call40 rfl (past_spec _ _ _) ?_
  intro y26 hy26
  refine HO_assign rfl rfl rfl ?_
  refine HO_nil ?_
  refine H_env (ρ':=[(8,_),(0,_),(1,_)]) ⟨rfl,rfl,rfl,trivial⟩ ?_
  refine H_seq ?_
  refine H_seq ?_
  refine H_region (l:=[_,_,_]) rfl ?_
  refine HO_move rfl rfl rfl ?_
  refine HO_bi rfl rfl rfl (bi_len_sl Try.underlying23) ?_
  refine HO_move rfl rfl rfl ?_
  refine HO_nil ?_
  refine H_block ?_
  refine H_loop (σ:=Nat × Nat × Option Addr × Nat) (fun s => (s.1≤ops.length∧s.2.1≤log.length)∧Hist.bad log ops (ops.drop s.1) s.1 = (Hist.check log ops)) (fun s => [(0,.slice a8 (log.length) c8),(1,.slice a9 (ops.length) c9),(8,.func (.func 72) #[] #[.pointer (some ⟨y26.1,0,none⟩),.pointer (some ⟨y26.2.1,0,none⟩)]),(27,.slice a9 (ops.length) c9),(28,.int .i64 ((ops.length : Int))),(29,.int .i64 ((s.1 : Int)))]) (fun s => Asn w0 ok0 M0 [.dat kEnt.sl (log) [.slice a8 (log.length) c8],.dat kOp.sl (ops) [.slice a9 (ops.length) c9],.loc y26.1 [.slice s.2.2.1 (((Hist.sts log s.2.1)).length) s.2.2.2] 119,.own 56 kSt s.2.2.1 s.2.2.2 ((Hist.sts log s.2.1)),.loc y26.2.1 [.slice a8 (log.length) c8] 22]) (fun s => ops.length - s.1) ⟨0,0,y26.2.2.1,y26.2.2.2⟩ ?_ ?_ ?_ ?_
  ·exact ⟨⟨Nat.zero_le _,Nat.zero_le _⟩,hck.symm⟩
  ·exact ⟨rfl,rfl,rfl,rfl,rfl,rfl,trivial⟩
  ·intro w hA
   exact hA.only (is:=[1,2,0,1,2]) (Z:=[_]) rfl
  ·rintro ⟨i,m,p,q⟩ hI
   (try dsimp only at hI ⊢)
   refine H_seq ?_
   refine H_region (l:=[_]) rfl ?_
   refine HO_bin rfl rfl rfl rfl bin_lss ?_
   refine HO_nil ?_
   refine H_seq ?_
   refine H_cond rfl ?_ ?_
   ·intro h30
    replace h30:=dT h30
    refine H_skip ?_
    refine H_seq ?_
    refine H_block ?_
    refine H_seq ?_
    refine H_region (l:=[_,_,_,_,_,_]) rfl ?_
    refine HO_move rfl rfl rfl ?_
    refine HO_indexAddr open_Op (i:=1) rfl rfl rfl rfl rfl Try.underlying23 Try.sizeOf40 rfl ?_ ?_
    ·omega
    intro b32 o32 z32 y32 hz32 hI32
    (try simp only [BIG] at hI32)
    refine HO_loadA (i:=0) (us:=[]) (cs:=[_,_,_,_,_,_,_,_,_,_,_,_,_,_,_,_,_]) (ts:=[]) rfl rfl rfl Try.isAgg40 Try.sizeOf40 rfl (.elem _ _ _) rfl rfl rfl rfl ?_
    refine HO_alloc (cs:=[_,_,_,_,_,_,_,_,_,_,_,_,_,_,_,_,_]) rfl rfl Try.zeroValue40 rfl ?_
    intro g10
    refine HO_assign rfl rfl rfl ?_
    refine HO_store (i:=0) (j:=0) (us:=[]) (old:=[_,_,_,_,_,_,_,_,_,_,_,_,_,_,_,_,_]) (ts:=[]) (cs:=[_,_,_,_,_,_,_,_,_,_,_,_,_,_,_,_,_]) (R:=[_,_,_,_,_,_,_]) (new:=[_,_,_,_,_,_,_,_,_,_,_,_,_,_,_,_,_]) rfl rfl rfl Try.sizeOf40 rfl (by simp [Value.oneCell']) rfl rfl rfl rfl rfl rfl ?_
    refine HO_nil ?_
    refine H_env (ρ':=[(9,_),(10,_),(0,_),(1,_),(8,_),(27,_),(28,_),(29,_)]) ⟨rfl,rfl,rfl,rfl,rfl,rfl,rfl,rfl,trivial⟩ ?_
    refine H_world (kp [yy,nn,yy,yy,yy,yy,yy,yy] [_,_,_,_,_,_,_] rfl) ?_
    refine H_seq ?_
    refine H_region (l:=[_,_,_,_]) rfl ?_
    refine HO_fieldAddr (r:=14) rfl rfl rfl Try.underlying40 rfl Try.sizeOf3 rfl ?_
    refine HO_load1 (i:=0) (j:=14) rfl rfl rfl Try.isAgg3 rfl (.loc _ _ _) rfl rfl ?_
    refine HO_bin rfl rfl rfl rfl bin_gtr ?_
    refine HO_assign rfl rfl rfl ?_
    refine HO_nil ?_
    refine H_env (ρ':=[(11,_),(9,_),(10,_),(0,_),(1,_),(8,_),(27,_),(28,_),(29,_)]) ⟨rfl,rfl,rfl,rfl,rfl,rfl,rfl,rfl,rfl,trivial⟩ ?_
    refine H_block ?_
    refine H_seq ?_
    refine H_seq ?_
    refine H_meetE (σ:=Unit) _ (fun s => True) (fun s => [(0,.slice a8 (log.length) c8),(1,.slice a9 (ops.length) c9),(8,.func (.func 72) #[] #[.pointer (some ⟨y26.1,0,none⟩),.pointer (some ⟨y26.2.1,0,none⟩)]),(9,.int .i64 ((i : Int))),(10,.pointer (some ⟨g10,0,none⟩)),(11,.bool (decide (0 < z32.stop))),(27,.slice a9 (ops.length) c9),(28,.int .i64 ((ops.length : Int))),(29,.int .i64 ((i : Int))),(37,.bool (Hist.e1 z32))]) (fun s => Asn w0 ok0 M0 [.dat kEnt.sl (log) [.slice a8 (log.length) c8],.dat kOp.sl (ops) [.slice a9 (ops.length) c9],.loc y26.1 [.slice p (((Hist.sts log m)).length) q] 119,.own 56 kSt p q ((Hist.sts log m)),.loc y26.2.1 [.slice a8 (log.length) c8] 22,.loc g10 [.int .i64 (z32.cmd.kind),.int .i64 (z32.cmd.sess),.int .i64 (z32.cmd.seq),.string (z32.cmd.key),.string (z32.cmd.old),.string (z32.cmd.val),.string (z32.cmd.til),.int .i64 (z32.cmd.lim),.int .i64 (z32.rep.err),.bool (z32.rep.found),.string (z32.rep.val),.int .i64 (z32.rep.sess),.slice y32.1 (z32.rep.pairs.length) y32.2,.int .i64 (z32.start),.int .i64 (z32.stop),.int .i64 (z32.at_),.bool (z32.read)] 40,.dat kPair.sl (z32.rep.pairs) [.slice y32.1 (z32.rep.pairs.length) y32.2]]) ?_ ?_
    ·skip
     refine H_region (l:=[_,_,_,_,_,_,_,_,_,_,_,_,_,_]) rfl ?_
     iterate 2 refine HO_move rfl rfl rfl ?_
     refine HO_split (d:=39) rfl ?_ ?_
     ·intro h39
      replace h39:=dT h39
      refine HO_fieldAddr (r:=15) rfl rfl rfl Try.underlying40 rfl Try.sizeOf3 rfl ?_
      refine HO_load1 (i:=0) (j:=15) rfl rfl rfl Try.isAgg3 rfl (.loc _ _ _) rfl rfl ?_
      refine HO_bin rfl rfl rfl rfl bin_lss ?_
      refine HO_move rfl rfl rfl ?_
      refine HO_split (d:=43) rfl ?_ ?_
      ·intro h43
       replace h43:=dT h43
       iterate 5 refine HO_no rfl rfl rfl ?_
       iterate 2 refine HO_pick_t rfl rfl rfl rfl ?_
       refine HO_assign rfl rfl rfl ?_
       refine HO_nil ?_
       refine H_env (ρ':=[(37,_),(11,_),(9,_),(10,_),(0,_),(1,_),(8,_),(27,_),(28,_),(29,_)]) ⟨rfl,rfl,rfl,rfl,rfl,rfl,rfl,rfl,rfl,rfl,trivial⟩ ?_
       refine H_inv (fun a w hf hA => ⟨(),?_,hf.sub ?_,?_⟩)
       ·trivial
       ·exact ⟨rfl,rfl,rfl,rfl,rfl,rfl,rfl,rfl,rfl,congrArg (fun b => some (Value.bool b)) (by first | (simp [Hist.e1, *];done) | (simp_all [Hist.e1];done)),trivial⟩
       ·exact hA.only (is:=[0,1,2,3,4,0,1]) (Z:=[]) rfl
      intro h43
      replace h43:=dF h43
      refine HO_fieldAddr (r:=14) rfl rfl rfl Try.underlying40 rfl Try.sizeOf3 rfl ?_
      refine HO_load1 (i:=0) (j:=14) rfl rfl rfl Try.isAgg3 rfl (.loc _ _ _) rfl rfl ?_
      refine HO_fieldAddr (r:=13) rfl rfl rfl Try.underlying40 rfl Try.sizeOf3 rfl ?_
      refine HO_load1 (i:=0) (j:=13) rfl rfl rfl Try.isAgg3 rfl (.loc _ _ _) rfl rfl ?_
      refine HO_bin rfl rfl rfl rfl bin_lss ?_
      refine HO_pick_f rfl rfl rfl rfl ?_
      refine HO_pick_t rfl rfl rfl rfl ?_
      refine HO_assign rfl rfl rfl ?_
      refine HO_nil ?_
      refine H_env (ρ':=[(37,_),(11,_),(9,_),(10,_),(0,_),(1,_),(8,_),(27,_),(28,_),(29,_)]) ⟨rfl,rfl,rfl,rfl,rfl,rfl,rfl,rfl,rfl,rfl,trivial⟩ ?_
      refine H_inv (fun a w hf hA => ⟨(),?_,hf.sub ?_,?_⟩)
      ·trivial
      ·exact ⟨rfl,rfl,rfl,rfl,rfl,rfl,rfl,rfl,rfl,congrArg (fun b => some (Value.bool b)) (by first | (simp [Hist.e1, *];done) | (simp_all [Hist.e1];done)),trivial⟩
      ·exact hA.only (is:=[0,1,2,3,4,0,1]) (Z:=[]) rfl
     intro h39
     replace h39:=dF h39
     iterate 10 refine HO_no rfl rfl rfl ?_
     refine HO_pick_f rfl rfl rfl rfl ?_
     refine HO_assign rfl rfl rfl ?_
     refine HO_nil ?_
     refine H_env (ρ':=[(37,_),(11,_),(9,_),(10,_),(0,_),(1,_),(8,_),(27,_),(28,_),(29,_)]) ⟨rfl,rfl,rfl,rfl,rfl,rfl,rfl,rfl,rfl,rfl,trivial⟩ ?_
     refine H_inv (fun a w hf hA => ⟨(),?_,hf.sub ?_,?_⟩)
     ·trivial
     ·exact ⟨rfl,rfl,rfl,rfl,rfl,rfl,rfl,rfl,rfl,congrArg (fun b => some (Value.bool b)) (by first | (simp [Hist.e1, *];done) | (simp_all [Hist.e1];done)),trivial⟩
     ·exact hA.only (is:=[0,1,2,3,4,0,1]) (Z:=[]) rfl
    intro _ hJ
    (try dsimp only at hJ ⊢)
    refine H_meetE (σ:=Unit) _ (fun s => True) (fun s => [(0,.slice a8 (log.length) c8),(1,.slice a9 (ops.length) c9),(8,.func (.func 72) #[] #[.pointer (some ⟨y26.1,0,none⟩),.pointer (some ⟨y26.2.1,0,none⟩)]),(9,.int .i64 ((i : Int))),(10,.pointer (some ⟨g10,0,none⟩)),(11,.bool (decide (0 < z32.stop))),(27,.slice a9 (ops.length) c9),(28,.int .i64 ((ops.length : Int))),(29,.int .i64 ((i : Int))),(37,.bool (Hist.eRange log z32))]) (fun s => Asn w0 ok0 M0 [.dat kEnt.sl (log) [.slice a8 (log.length) c8],.dat kOp.sl (ops) [.slice a9 (ops.length) c9],.loc y26.1 [.slice p (((Hist.sts log m)).length) q] 119,.own 56 kSt p q ((Hist.sts log m)),.loc y26.2.1 [.slice a8 (log.length) c8] 22,.loc g10 [.int .i64 (z32.cmd.kind),.int .i64 (z32.cmd.sess),.int .i64 (z32.cmd.seq),.string (z32.cmd.key),.string (z32.cmd.old),.string (z32.cmd.val),.string (z32.cmd.til),.int .i64 (z32.cmd.lim),.int .i64 (z32.rep.err),.bool (z32.rep.found),.string (z32.rep.val),.int .i64 (z32.rep.sess),.slice y32.1 (z32.rep.pairs.length) y32.2,.int .i64 (z32.start),.int .i64 (z32.stop),.int .i64 (z32.at_),.bool (z32.read)] 40,.dat kPair.sl (z32.rep.pairs) [.slice y32.1 (z32.rep.pairs.length) y32.2]]) ?_ ?_
    ·skip
     refine H_cond rfl ?_ ?_
     ·intro h37
      refine H_skip ?_
      refine H_inv (fun a w hf hA => ⟨(),?_,hf.sub ?_,?_⟩)
      ·trivial
      ·exact ⟨rfl,rfl,rfl,rfl,rfl,rfl,rfl,rfl,rfl,congrArg (fun b => some (Value.bool b)) (by first | exact h37.trans (Hist.range_1 h37).symm | exact (decide_eq_true h37).trans (Hist.range_2 h37).symm | (unfold Hist.eRange;rw [hA1,decide_eq_false hA2];rfl)),trivial⟩
      ·exact hA.only (is:=[0,1,2,3,4,5,6]) (Z:=[]) rfl
     intro h37
     have hA1:=h37
     refine H_seq ?_
     refine H_region (l:=[_,_,_,_,_,_]) rfl ?_
     refine HO_fieldAddr (r:=15) rfl rfl rfl Try.underlying40 rfl Try.sizeOf3 rfl ?_
     refine HO_load1 (i:=5) (j:=15) rfl rfl rfl Try.isAgg3 rfl (.loc _ _ _) rfl rfl ?_
     refine HO_move rfl rfl rfl ?_
     refine HO_bi rfl rfl rfl (bi_len_sl Try.underlying22) ?_
     refine HO_bin rfl rfl rfl rfl bin_gtr ?_
     refine HO_assign rfl rfl rfl ?_
     refine HO_nil ?_
     refine H_env (ρ':=[(37,_),(0,_),(1,_),(8,_),(9,_),(10,_),(11,_),(27,_),(28,_),(29,_)]) ⟨rfl,rfl,rfl,rfl,rfl,rfl,rfl,rfl,rfl,rfl,trivial⟩ ?_
     refine H_cond rfl ?_ ?_
     ·intro h37
      replace h37:=dT h37
      refine H_skip ?_
      refine H_inv (fun a w hf hA => ⟨(),?_,hf.sub ?_,?_⟩)
      ·trivial
      ·exact ⟨rfl,rfl,rfl,rfl,rfl,rfl,rfl,rfl,rfl,congrArg (fun b => some (Value.bool b)) (by first | exact h37.trans (Hist.range_1 h37).symm | exact (decide_eq_true h37).trans (Hist.range_2 h37).symm | (unfold Hist.eRange;rw [hA1,decide_eq_false hA2];rfl)),trivial⟩
      ·exact hA.only (is:=[0,1,2,3,4,5,6]) (Z:=[]) rfl
     intro h37
     replace h37:=dF h37
     have hA2:=h37
     refine H_meetE (σ:=Unit) _ (fun s => True) (fun s => [(0,.slice a8 (log.length) c8),(1,.slice a9 (ops.length) c9),(8,.func (.func 72) #[] #[.pointer (some ⟨y26.1,0,none⟩),.pointer (some ⟨y26.2.1,0,none⟩)]),(9,.int .i64 ((i : Int))),(10,.pointer (some ⟨g10,0,none⟩)),(11,.bool (decide (0 < z32.stop))),(27,.slice a9 (ops.length) c9),(28,.int .i64 ((ops.length : Int))),(29,.int .i64 ((i : Int))),(37,.bool ((!z32.read && decide (z32.at_ = 0))))]) (fun s => Asn w0 ok0 M0 [.dat kEnt.sl (log) [.slice a8 (log.length) c8],.dat kOp.sl (ops) [.slice a9 (ops.length) c9],.loc y26.1 [.slice p (((Hist.sts log m)).length) q] 119,.own 56 kSt p q ((Hist.sts log m)),.loc y26.2.1 [.slice a8 (log.length) c8] 22,.loc g10 [.int .i64 (z32.cmd.kind),.int .i64 (z32.cmd.sess),.int .i64 (z32.cmd.seq),.string (z32.cmd.key),.string (z32.cmd.old),.string (z32.cmd.val),.string (z32.cmd.til),.int .i64 (z32.cmd.lim),.int .i64 (z32.rep.err),.bool (z32.rep.found),.string (z32.rep.val),.int .i64 (z32.rep.sess),.slice y32.1 (z32.rep.pairs.length) y32.2,.int .i64 (z32.start),.int .i64 (z32.stop),.int .i64 (z32.at_),.bool (z32.read)] 40,.dat kPair.sl (z32.rep.pairs) [.slice y32.1 (z32.rep.pairs.length) y32.2]]) ?_ ?_
     ·skip
      refine H_region (l:=[_,_,_,_,_,_,_,_,_]) rfl ?_
      refine HO_fieldAddr (r:=16) rfl rfl rfl Try.underlying40 rfl Try.sizeOf4 rfl ?_
      refine HO_load1 (i:=5) (j:=16) rfl rfl rfl Try.isAgg4 rfl (.loc _ _ _) rfl rfl ?_
      refine HO_not rfl rfl rfl ?_
      refine HO_move rfl rfl rfl ?_
      refine HO_split (d:=59) rfl ?_ ?_
      ·intro h59
       replace h59:=nT h59
       refine HO_fieldAddr (r:=15) rfl rfl rfl Try.underlying40 rfl Try.sizeOf3 rfl ?_
       refine HO_load1 (i:=5) (j:=15) rfl rfl rfl Try.isAgg3 rfl (.loc _ _ _) rfl rfl ?_
       refine HO_bin rfl rfl rfl rfl bin_eql ?_
       refine HO_pick_t rfl rfl rfl rfl ?_
       refine HO_assign rfl rfl rfl ?_
       refine HO_nil ?_
       refine H_env (ρ':=[(37,_),(0,_),(1,_),(8,_),(9,_),(10,_),(11,_),(27,_),(28,_),(29,_)]) ⟨rfl,rfl,rfl,rfl,rfl,rfl,rfl,rfl,rfl,rfl,trivial⟩ ?_
       refine H_inv (fun a w hf hA => ⟨(),?_,hf.sub ?_,?_⟩)
       ·trivial
       ·exact ⟨rfl,rfl,rfl,rfl,rfl,rfl,rfl,rfl,rfl,congrArg (fun b => some (Value.bool b)) (by first | (simp [*];done) | (simp_all;done)),trivial⟩
       ·exact hA.only (is:=[0,1,2,3,4,5,6]) (Z:=[]) rfl
      intro h59
      replace h59:=nF h59
      iterate 3 refine HO_no rfl rfl rfl ?_
      refine HO_pick_f rfl rfl rfl rfl ?_
      refine HO_assign rfl rfl rfl ?_
      refine HO_nil ?_
      refine H_env (ρ':=[(37,_),(0,_),(1,_),(8,_),(9,_),(10,_),(11,_),(27,_),(28,_),(29,_)]) ⟨rfl,rfl,rfl,rfl,rfl,rfl,rfl,rfl,rfl,rfl,trivial⟩ ?_
      refine H_inv (fun a w hf hA => ⟨(),?_,hf.sub ?_,?_⟩)
      ·trivial
      ·exact ⟨rfl,rfl,rfl,rfl,rfl,rfl,rfl,rfl,rfl,congrArg (fun b => some (Value.bool b)) (by first | (simp [*];done) | (simp_all;done)),trivial⟩
      ·exact hA.only (is:=[0,1,2,3,4,5,6]) (Z:=[]) rfl
     intro _ hJ
     (try dsimp only at hJ ⊢)
     refine H_inv (fun a w hf hA => ⟨(),?_,hf.sub ?_,?_⟩)
     ·trivial
     ·exact ⟨rfl,rfl,rfl,rfl,rfl,rfl,rfl,rfl,rfl,congrArg (fun b => some (Value.bool b)) (by first | exact h37.trans (Hist.range_1 h37).symm | exact (decide_eq_true h37).trans (Hist.range_2 h37).symm | (unfold Hist.eRange;rw [hA1,decide_eq_false hA2];rfl)),trivial⟩
     ·exact hA.only (is:=[0,1,2,3,4,5,6]) (Z:=[]) rfl
    intro _ hJ
    (try dsimp only at hJ ⊢)
    refine H_cond rfl ?_ ?_
    ·intro h37
     have hR:=h37
     refine H_seq ?_
     have hfin:=Hist.bad_is hz32 hI.2 (Hist.one_6 hR) (by decide)
     refine H_region (l:=[_,_,_]) rfl ?_
     refine HO_move rfl rfl rfl ?_
     iterate 2 refine HO_assign rfl rfl rfl ?_
     refine HO_nil ?_
     refine H_env (ρ':=[(5,_),(4,_)]) ⟨rfl,rfl,trivial⟩ ?_
     refine H_world (kp [nn,nn,nn,nn,nn,nn,nn] [] rfl) ?_
     refine H_ret2 Try.results16 (.tmp rfl) (.tmp rfl) (fun w hA => ⟨(),congrArg Ending.returned ?_,?_,?_⟩)
     ·(rw [hfin])
     ·trivial
     ·exact hA.keep (m:=[]) (Y:=[]) rfl
    intro h37
    have hR:=h37
    refine H_seq ?_
    refine H_meetE (σ:=Unit) _ (fun s => True) (fun s => [(0,.slice a8 (log.length) c8),(1,.slice a9 (ops.length) c9),(8,.func (.func 72) #[] #[.pointer (some ⟨y26.1,0,none⟩),.pointer (some ⟨y26.2.1,0,none⟩)]),(9,.int .i64 ((i : Int))),(10,.pointer (some ⟨g10,0,none⟩)),(11,.bool (decide (0 < z32.stop))),(27,.slice a9 (ops.length) c9),(28,.int .i64 ((ops.length : Int))),(29,.int .i64 ((i : Int))),(65,.bool (Hist.eNone log z32))]) (fun s => Asn w0 ok0 M0 [.dat kEnt.sl (log) [.slice a8 (log.length) c8],.dat kOp.sl (ops) [.slice a9 (ops.length) c9],.loc y26.1 [.slice p (((Hist.sts log m)).length) q] 119,.own 56 kSt p q ((Hist.sts log m)),.loc y26.2.1 [.slice a8 (log.length) c8] 22,.loc g10 [.int .i64 (z32.cmd.kind),.int .i64 (z32.cmd.sess),.int .i64 (z32.cmd.seq),.string (z32.cmd.key),.string (z32.cmd.old),.string (z32.cmd.val),.string (z32.cmd.til),.int .i64 (z32.cmd.lim),.int .i64 (z32.rep.err),.bool (z32.rep.found),.string (z32.rep.val),.int .i64 (z32.rep.sess),.slice y32.1 (z32.rep.pairs.length) y32.2,.int .i64 (z32.start),.int .i64 (z32.stop),.int .i64 (z32.at_),.bool (z32.read)] 40,.dat kPair.sl (z32.rep.pairs) [.slice y32.1 (z32.rep.pairs.length) y32.2]]) ?_ ?_
    ·skip
     have hrg:=Hist.range_at hR
     refine H_drawB (m:=[yy,yy,yy,yy,yy,yy,yy]) (Xs:=[_,_,_,_,_,_,_]) (fuel:=31) (l:=#[false,false,false,false,false,false,false,false,false,false,false,false,false,false,false,false,false,false,false,false,false,false,false,false,false,false,false,false,false,false,false]) mixed rfl rfl rfl ?_
     refine HA_take (i:=0) bp rfl rfl rfl rfl (by kernel_rfl) rfl (V_fieldAddr (r:=16) rfl Try.underlying40 rfl Try.sizeOf4 rfl) (fun _ hA => hA) ?_
     refine HA_take (i:=1) bp rfl rfl rfl rfl (by kernel_rfl) rfl (V_load1 (i:=5) (j:=16) rfl Try.isAgg4 rfl (.loc _ _ _) rfl rfl) (fun _ hA => hA) ?_
     refine HA_take (i:=2) bp rfl rfl rfl rfl (by kernel_rfl) rfl (V_not rfl) (fun _ hA => hA) ?_
     refine HA_take (i:=3) bp rfl rfl rfl rfl (by kernel_rfl) rfl (V_move rfl) (fun _ hA => hA) ?_
     refine HA_split (d:=69) rfl ?_ ?_
     ·intro h69
      replace h69:=nT h69
      refine HA_take (i:=4) bp rfl rfl rfl rfl (by kernel_rfl) rfl (V_fieldAddr (r:=15) rfl Try.underlying40 rfl Try.sizeOf3 rfl) (fun _ hA => hA) ?_
      refine HA_take (i:=5) bp rfl rfl rfl rfl (by kernel_rfl) rfl (V_load1 (i:=5) (j:=15) rfl Try.isAgg3 rfl (.loc _ _ _) rfl rfl) (fun _ hA => hA) ?_
      refine HA_take (i:=6) bp rfl rfl rfl rfl (by kernel_rfl) rfl (V_bin rfl rfl bin_gtr) (fun _ hA => hA) ?_
      refine HA_take (i:=7) bp rfl rfl rfl rfl (by kernel_rfl) rfl (V_pick_t rfl rfl) (fun _ hA => hA) ?_
      refine HA_take (i:=8) bp rfl rfl rfl rfl (by kernel_rfl) rfl (V_move rfl) (fun _ hA => hA) ?_
      refine HA_split (d:=74) rfl ?_ ?_
      ·intro h74
       replace h74:=dT h74
       refine HA_take (i:=9) bp rfl rfl rfl rfl (by kernel_rfl) rfl (V_move rfl) (fun _ hA => hA) ?_
       refine HA_take (i:=10) bp rfl rfl rfl rfl (by kernel_rfl) rfl (V_fieldAddr (r:=15) rfl Try.underlying40 rfl Try.sizeOf3 rfl) (fun _ hA => hA) ?_
       refine HA_take (i:=11) bp rfl rfl rfl rfl (by kernel_rfl) rfl (V_load1 (i:=5) (j:=15) rfl Try.isAgg3 rfl (.loc _ _ _) rfl rfl) (fun _ hA => hA) ?_
       refine HA_take (i:=12) bp rfl rfl rfl rfl (by kernel_rfl) rfl (V_bin rfl rfl (bin_sub ?_ ?_)) (fun _ hA => hA) ?_
       ·omega
       ·omega
       refine HA_loud1 (i:=13) (by kernel_rfl) rfl ?_
       refine HO_indexAddr open_Ent (i:=0) (j:=(z32.at_ - 1).toNat) rfl rfl rfl rfl ?_ Try.underlying22 Try.sizeOf44 rfl ?_ ?_
       ·omega
       ·omega
       intro b79 o79 z79 y79 hz79 hI79
       (try simp only [BIG] at hI79)
       refine HA_back rfl (kp [nn,nn,nn,yy,yy,yy,yy,yy,yy,yy] [_,_,_,_,_,_,_] rfl) ?_
       refine HA_take (i:=14) bp rfl rfl rfl rfl (by kernel_rfl) rfl (V_fieldAddr rfl Try.underlying44 rfl Try.sizeOf3 rfl) (kp [nn,nn,nn,yy,yy,yy,yy,yy,yy,yy] [_,_,_,_,_,_,_] rfl) ?_
       refine HA_loud1 (i:=15) (by kernel_rfl) rfl ?_
       refine HO_load1 (i:=0) (j:=2) rfl rfl rfl Try.isAgg3 rfl (.elem _ _ _) rfl rfl ?_
       refine HA_back rfl (kp [nn,nn,nn,yy,yy,yy,yy,yy,yy,yy] [_,_,_,_,_,_,_] rfl) ?_
       refine HA_take (i:=16) bp rfl rfl rfl rfl (by kernel_rfl) rfl (V_bin rfl rfl bin_neq) (kp [nn,nn,nn,yy,yy,yy,yy,yy,yy,yy] [_,_,_,_,_,_,_] rfl) ?_
       refine HA_take (i:=17) bp rfl rfl rfl rfl (by kernel_rfl) rfl (V_move rfl) (kp [nn,nn,nn,yy,yy,yy,yy,yy,yy,yy] [_,_,_,_,_,_,_] rfl) ?_
       refine HA_split (d:=83) rfl ?_ ?_
       ·intro h83
        replace h83:=dT h83
        refine HA_no (i:=18) bp rfl rfl rfl rfl (by kernel_rfl) rfl (kp [nn,nn,nn,yy,yy,yy,yy,yy,yy,yy] [_,_,_,_,_,_,_] rfl) ?_
        refine HA_no (i:=19) bp rfl rfl rfl rfl (by kernel_rfl) rfl (kp [nn,nn,nn,yy,yy,yy,yy,yy,yy,yy] [_,_,_,_,_,_,_] rfl) ?_
        refine HA_no (i:=20) bp rfl rfl rfl rfl (by kernel_rfl) rfl (kp [nn,nn,nn,yy,yy,yy,yy,yy,yy,yy] [_,_,_,_,_,_,_] rfl) ?_
        refine HA_no (i:=21) bp rfl rfl rfl rfl (by kernel_rfl) rfl (kp [nn,nn,nn,yy,yy,yy,yy,yy,yy,yy] [_,_,_,_,_,_,_] rfl) ?_
        refine HA_no (i:=22) bp rfl rfl rfl rfl (by kernel_rfl) rfl (kp [nn,nn,nn,yy,yy,yy,yy,yy,yy,yy] [_,_,_,_,_,_,_] rfl) ?_
        refine HA_no (i:=23) bp rfl rfl rfl rfl (by kernel_rfl) rfl (kp [nn,nn,nn,yy,yy,yy,yy,yy,yy,yy] [_,_,_,_,_,_,_] rfl) ?_
        refine HA_no (i:=24) bp rfl rfl rfl rfl (by kernel_rfl) rfl (kp [nn,nn,nn,yy,yy,yy,yy,yy,yy,yy] [_,_,_,_,_,_,_] rfl) ?_
        refine HA_no (i:=25) bp rfl rfl rfl rfl (by kernel_rfl) rfl (kp [nn,nn,nn,yy,yy,yy,yy,yy,yy,yy] [_,_,_,_,_,_,_] rfl) ?_
        refine HA_no (i:=26) bp rfl rfl rfl rfl (by kernel_rfl) rfl (kp [nn,nn,nn,yy,yy,yy,yy,yy,yy,yy] [_,_,_,_,_,_,_] rfl) ?_
        refine HA_no (i:=27) bp rfl rfl rfl rfl (by kernel_rfl) rfl (kp [nn,nn,nn,yy,yy,yy,yy,yy,yy,yy] [_,_,_,_,_,_,_] rfl) ?_
        refine HA_take (i:=28) bp rfl rfl rfl rfl (by kernel_rfl) rfl (V_pick_t rfl rfl) (kp [nn,nn,nn,yy,yy,yy,yy,yy,yy,yy] [_,_,_,_,_,_,_] rfl) ?_
        refine HA_take (i:=29) bp rfl rfl rfl rfl (by kernel_rfl) rfl (V_pick_t rfl rfl) (kp [nn,nn,nn,yy,yy,yy,yy,yy,yy,yy] [_,_,_,_,_,_,_] rfl) ?_
        refine HA_take (i:=30) bp rfl rfl rfl rfl (by kernel_rfl) rfl (V_assign rfl) (kp [nn,nn,nn,yy,yy,yy,yy,yy,yy,yy] [_,_,_,_,_,_,_] rfl) ?_
        refine HA_done (by kernel_rfl) ?_
        refine H_env (ρ':=[(65,_),(0,_),(1,_),(8,_),(9,_),(10,_),(11,_),(27,_),(28,_),(29,_)]) ⟨rfl,rfl,rfl,rfl,rfl,rfl,rfl,rfl,rfl,rfl,trivial⟩ ?_
        refine H_world (kp [nn,nn,nn,yy,yy,yy,yy,yy,yy,yy] [_,_,_,_,_,_,_] rfl) ?_
        refine H_inv (fun a w hf hA => ⟨(),?_,hf.sub ?_,?_⟩)
        ·trivial
        ·exact ⟨rfl,rfl,rfl,rfl,rfl,rfl,rfl,rfl,rfl,congrArg (fun b => some (Value.bool b)) (by first | exact (Hist.none_no (.inl h69)).symm | exact (Hist.none_no (.inr h74)).symm | (rw [Hist.none_at h69 h74 hz79];simp [h83];done) | (rw [Hist.none_at h69 h74 hz88,← Cmd.eqv_dec];rw [hz79] at hz88;cases hz88;simp [h83,Cmd.eqv])),trivial⟩
        ·exact hA.only (is:=[0,1,2,3,4,5,6]) (Z:=[]) rfl
       intro h83
       replace h83:=dF h83
       refine HA_take (i:=18) bp rfl rfl rfl rfl (by kernel_rfl) rfl (V_move rfl) (kp [nn,nn,nn,yy,yy,yy,yy,yy,yy,yy] [_,_,_,_,_,_,_] rfl) ?_
       refine HA_take (i:=19) bp rfl rfl rfl rfl (by kernel_rfl) rfl (V_fieldAddr (r:=15) rfl Try.underlying40 rfl Try.sizeOf3 rfl) (kp [nn,nn,nn,yy,yy,yy,yy,yy,yy,yy] [_,_,_,_,_,_,_] rfl) ?_
       refine HA_take (i:=20) bp rfl rfl rfl rfl (by kernel_rfl) rfl (V_load1 (i:=5) (j:=15) rfl Try.isAgg3 rfl (.loc _ _ _) rfl rfl) (kp [nn,nn,nn,yy,yy,yy,yy,yy,yy,yy] [_,_,_,_,_,_,_] rfl) ?_
       refine HA_take (i:=21) bp rfl rfl rfl rfl (by kernel_rfl) rfl (V_bin rfl rfl (bin_sub ?_ ?_)) (kp [nn,nn,nn,yy,yy,yy,yy,yy,yy,yy] [_,_,_,_,_,_,_] rfl) ?_
       ·omega
       ·omega
       refine HA_take (i:=25) bp rfl rfl rfl rfl (by kernel_rfl) rfl (V_fieldAddr (r:=0) rfl Try.underlying40 rfl Try.sizeOf36 rfl) (kp [nn,nn,nn,yy,yy,yy,yy,yy,yy,yy] [_,_,_,_,_,_,_] rfl) ?_
       refine HA_take (i:=26) bp rfl rfl rfl rfl (by kernel_rfl) rfl (V_loadA (i:=5) (us:=[]) (cs:=[_,_,_,_,_,_,_,_]) (ts:=[_,_,_,_,_,_,_,_,_]) rfl Try.isAgg36 Try.sizeOf36 rfl (.loc _ _ _) rfl rfl rfl rfl) (kp [nn,nn,nn,yy,yy,yy,yy,yy,yy,yy] [_,_,_,_,_,_,_] rfl) ?_
       refine HA_loud1 (i:=22) (by kernel_rfl) rfl ?_
       refine HO_indexAddr open_Ent (i:=3) (j:=(z32.at_ - 1).toNat) rfl rfl rfl rfl ?_ Try.underlying22 Try.sizeOf44 rfl ?_ ?_
       ·omega
       ·omega
       intro b88 o88 z88 y88 hz88 hI88
       (try simp only [BIG] at hI88)
       refine HA_back rfl (kp [nn,nn,nn,nn,nn,nn,yy,yy,yy,yy,yy,yy,yy] [_,_,_,_,_,_,_] rfl) ?_
       refine HA_take (i:=23) bp rfl rfl rfl rfl (by kernel_rfl) rfl (V_fieldAddr rfl Try.underlying44 rfl Try.sizeOf36 rfl) (kp [nn,nn,nn,nn,nn,nn,yy,yy,yy,yy,yy,yy,yy] [_,_,_,_,_,_,_] rfl) ?_
       refine HA_loud1 (i:=24) (by kernel_rfl) rfl ?_
       refine HO_loadA (i:=0) (us:=[_,_,_]) (cs:=[_,_,_,_,_,_,_,_]) (ts:=[_,_]) rfl rfl rfl Try.isAgg36 Try.sizeOf36 rfl (.elem _ _ _) rfl rfl rfl rfl ?_
       refine HA_back rfl (kp [nn,nn,nn,nn,nn,nn,yy,yy,yy,yy,yy,yy,yy] [_,_,_,_,_,_,_] rfl) ?_
       refine HA_take (i:=27) bp rfl rfl rfl rfl (by kernel_rfl) rfl (V_bin rfl rfl eq36_neq) (kp [nn,nn,nn,nn,nn,nn,yy,yy,yy,yy,yy,yy,yy] [_,_,_,_,_,_,_] rfl) ?_
       refine HA_take (i:=28) bp rfl rfl rfl rfl (by kernel_rfl) rfl (V_pick_f rfl rfl) (kp [nn,nn,nn,nn,nn,nn,yy,yy,yy,yy,yy,yy,yy] [_,_,_,_,_,_,_] rfl) ?_
       refine HA_take (i:=29) bp rfl rfl rfl rfl (by kernel_rfl) rfl (V_pick_t rfl rfl) (kp [nn,nn,nn,nn,nn,nn,yy,yy,yy,yy,yy,yy,yy] [_,_,_,_,_,_,_] rfl) ?_
       refine HA_take (i:=30) bp rfl rfl rfl rfl (by kernel_rfl) rfl (V_assign rfl) (kp [nn,nn,nn,nn,nn,nn,yy,yy,yy,yy,yy,yy,yy] [_,_,_,_,_,_,_] rfl) ?_
       refine HA_done (by kernel_rfl) ?_
       refine H_env (ρ':=[(65,_),(0,_),(1,_),(8,_),(9,_),(10,_),(11,_),(27,_),(28,_),(29,_)]) ⟨rfl,rfl,rfl,rfl,rfl,rfl,rfl,rfl,rfl,rfl,trivial⟩ ?_
       refine H_world (kp [nn,nn,nn,nn,nn,nn,yy,yy,yy,yy,yy,yy,yy] [_,_,_,_,_,_,_] rfl) ?_
       refine H_inv (fun a w hf hA => ⟨(),?_,hf.sub ?_,?_⟩)
       ·trivial
       ·exact ⟨rfl,rfl,rfl,rfl,rfl,rfl,rfl,rfl,rfl,congrArg (fun b => some (Value.bool b)) (by first | exact (Hist.none_no (.inl h69)).symm | exact (Hist.none_no (.inr h74)).symm | (rw [Hist.none_at h69 h74 hz79];simp [h83];done) | (rw [Hist.none_at h69 h74 hz88,← Cmd.eqv_dec];rw [hz79] at hz88;cases hz88;simp [h83,Cmd.eqv])),trivial⟩
       ·exact hA.only (is:=[0,1,2,3,4,5,6]) (Z:=[]) rfl
      intro h74
      replace h74:=dF h74
      refine HA_no (i:=9) bp rfl rfl rfl rfl (by kernel_rfl) rfl (fun _ hA => hA) ?_
      refine HA_no (i:=10) bp rfl rfl rfl rfl (by kernel_rfl) rfl (fun _ hA => hA) ?_
      refine HA_no (i:=11) bp rfl rfl rfl rfl (by kernel_rfl) rfl (fun _ hA => hA) ?_
      refine HA_no (i:=12) bp rfl rfl rfl rfl (by kernel_rfl) rfl (fun _ hA => hA) ?_
      refine HA_no (i:=13) bp rfl rfl rfl rfl (by kernel_rfl) rfl (fun _ hA => hA) ?_
      refine HA_no (i:=14) bp rfl rfl rfl rfl (by kernel_rfl) rfl (fun _ hA => hA) ?_
      refine HA_no (i:=15) bp rfl rfl rfl rfl (by kernel_rfl) rfl (fun _ hA => hA) ?_
      refine HA_no (i:=16) bp rfl rfl rfl rfl (by kernel_rfl) rfl (fun _ hA => hA) ?_
      refine HA_no (i:=17) bp rfl rfl rfl rfl (by kernel_rfl) rfl (fun _ hA => hA) ?_
      refine HA_no (i:=18) bp rfl rfl rfl rfl (by kernel_rfl) rfl (fun _ hA => hA) ?_
      refine HA_no (i:=19) bp rfl rfl rfl rfl (by kernel_rfl) rfl (fun _ hA => hA) ?_
      refine HA_no (i:=20) bp rfl rfl rfl rfl (by kernel_rfl) rfl (fun _ hA => hA) ?_
      refine HA_no (i:=21) bp rfl rfl rfl rfl (by kernel_rfl) rfl (fun _ hA => hA) ?_
      refine HA_no (i:=22) bp rfl rfl rfl rfl (by kernel_rfl) rfl (fun _ hA => hA) ?_
      refine HA_no (i:=23) bp rfl rfl rfl rfl (by kernel_rfl) rfl (fun _ hA => hA) ?_
      refine HA_no (i:=24) bp rfl rfl rfl rfl (by kernel_rfl) rfl (fun _ hA => hA) ?_
      refine HA_no (i:=25) bp rfl rfl rfl rfl (by kernel_rfl) rfl (fun _ hA => hA) ?_
      refine HA_no (i:=26) bp rfl rfl rfl rfl (by kernel_rfl) rfl (fun _ hA => hA) ?_
      refine HA_no (i:=27) bp rfl rfl rfl rfl (by kernel_rfl) rfl (fun _ hA => hA) ?_
      refine HA_no (i:=28) bp rfl rfl rfl rfl (by kernel_rfl) rfl (fun _ hA => hA) ?_
      refine HA_take (i:=29) bp rfl rfl rfl rfl (by kernel_rfl) rfl (V_pick_f rfl rfl) (fun _ hA => hA) ?_
      refine HA_take (i:=30) bp rfl rfl rfl rfl (by kernel_rfl) rfl (V_assign rfl) (fun _ hA => hA) ?_
      refine HA_done (by kernel_rfl) ?_
      refine H_env (ρ':=[(65,_),(0,_),(1,_),(8,_),(9,_),(10,_),(11,_),(27,_),(28,_),(29,_)]) ⟨rfl,rfl,rfl,rfl,rfl,rfl,rfl,rfl,rfl,rfl,trivial⟩ ?_
      refine H_inv (fun a w hf hA => ⟨(),?_,hf.sub ?_,?_⟩)
      ·trivial
      ·exact ⟨rfl,rfl,rfl,rfl,rfl,rfl,rfl,rfl,rfl,congrArg (fun b => some (Value.bool b)) (by first | exact (Hist.none_no (.inl h69)).symm | exact (Hist.none_no (.inr h74)).symm | (rw [Hist.none_at h69 h74 hz79];simp [h83];done) | (rw [Hist.none_at h69 h74 hz88,← Cmd.eqv_dec];rw [hz79] at hz88;cases hz88;simp [h83,Cmd.eqv])),trivial⟩
      ·exact hA.only (is:=[0,1,2,3,4,5,6]) (Z:=[]) rfl
     intro h69
     replace h69:=nF h69
     refine HA_no (i:=4) bp rfl rfl rfl rfl (by kernel_rfl) rfl (fun _ hA => hA) ?_
     refine HA_no (i:=5) bp rfl rfl rfl rfl (by kernel_rfl) rfl (fun _ hA => hA) ?_
     refine HA_no (i:=6) bp rfl rfl rfl rfl (by kernel_rfl) rfl (fun _ hA => hA) ?_
     refine HA_take (i:=7) bp rfl rfl rfl rfl (by kernel_rfl) rfl (V_pick_f rfl rfl) (fun _ hA => hA) ?_
     refine HA_take (i:=8) bp rfl rfl rfl rfl (by kernel_rfl) rfl (V_move rfl) (fun _ hA => hA) ?_
     refine HA_no (i:=9) bp rfl rfl rfl rfl (by kernel_rfl) rfl (fun _ hA => hA) ?_
     refine HA_no (i:=10) bp rfl rfl rfl rfl (by kernel_rfl) rfl (fun _ hA => hA) ?_
     refine HA_no (i:=11) bp rfl rfl rfl rfl (by kernel_rfl) rfl (fun _ hA => hA) ?_
     refine HA_no (i:=12) bp rfl rfl rfl rfl (by kernel_rfl) rfl (fun _ hA => hA) ?_
     refine HA_no (i:=13) bp rfl rfl rfl rfl (by kernel_rfl) rfl (fun _ hA => hA) ?_
     refine HA_no (i:=14) bp rfl rfl rfl rfl (by kernel_rfl) rfl (fun _ hA => hA) ?_
     refine HA_no (i:=15) bp rfl rfl rfl rfl (by kernel_rfl) rfl (fun _ hA => hA) ?_
     refine HA_no (i:=16) bp rfl rfl rfl rfl (by kernel_rfl) rfl (fun _ hA => hA) ?_
     refine HA_no (i:=17) bp rfl rfl rfl rfl (by kernel_rfl) rfl (fun _ hA => hA) ?_
     refine HA_no (i:=18) bp rfl rfl rfl rfl (by kernel_rfl) rfl (fun _ hA => hA) ?_
     refine HA_no (i:=19) bp rfl rfl rfl rfl (by kernel_rfl) rfl (fun _ hA => hA) ?_
     refine HA_no (i:=20) bp rfl rfl rfl rfl (by kernel_rfl) rfl (fun _ hA => hA) ?_
     refine HA_no (i:=21) bp rfl rfl rfl rfl (by kernel_rfl) rfl (fun _ hA => hA) ?_
     refine HA_no (i:=22) bp rfl rfl rfl rfl (by kernel_rfl) rfl (fun _ hA => hA) ?_
     refine HA_no (i:=23) bp rfl rfl rfl rfl (by kernel_rfl) rfl (fun _ hA => hA) ?_
     refine HA_no (i:=24) bp rfl rfl rfl rfl (by kernel_rfl) rfl (fun _ hA => hA) ?_
     refine HA_no (i:=25) bp rfl rfl rfl rfl (by kernel_rfl) rfl (fun _ hA => hA) ?_
     refine HA_no (i:=26) bp rfl rfl rfl rfl (by kernel_rfl) rfl (fun _ hA => hA) ?_
     refine HA_no (i:=27) bp rfl rfl rfl rfl (by kernel_rfl) rfl (fun _ hA => hA) ?_
     refine HA_no (i:=28) bp rfl rfl rfl rfl (by kernel_rfl) rfl (fun _ hA => hA) ?_
     refine HA_take (i:=29) bp rfl rfl rfl rfl (by kernel_rfl) rfl (V_pick_f rfl rfl) (fun _ hA => hA) ?_
     refine HA_take (i:=30) bp rfl rfl rfl rfl (by kernel_rfl) rfl (V_assign rfl) (fun _ hA => hA) ?_
     refine HA_done (by kernel_rfl) ?_
     refine H_env (ρ':=[(65,_),(0,_),(1,_),(8,_),(9,_),(10,_),(11,_),(27,_),(28,_),(29,_)]) ⟨rfl,rfl,rfl,rfl,rfl,rfl,rfl,rfl,rfl,rfl,trivial⟩ ?_
     refine H_inv (fun a w hf hA => ⟨(),?_,hf.sub ?_,?_⟩)
     ·trivial
     ·exact ⟨rfl,rfl,rfl,rfl,rfl,rfl,rfl,rfl,rfl,congrArg (fun b => some (Value.bool b)) (by first | exact (Hist.none_no (.inl h69)).symm | exact (Hist.none_no (.inr h74)).symm | (rw [Hist.none_at h69 h74 hz79];simp [h83];done) | (rw [Hist.none_at h69 h74 hz88,← Cmd.eqv_dec];rw [hz79] at hz88;cases hz88;simp [h83,Cmd.eqv])),trivial⟩
     ·exact hA.only (is:=[0,1,2,3,4,5,6]) (Z:=[]) rfl
    intro _ hJ
    (try dsimp only at hJ ⊢)
    refine H_cond rfl ?_ ?_
    ·intro h65
     refine H_seq ?_
     have hfin:=Hist.bad_is hz32 hI.2 (Hist.one_4 hR h65) (by decide)
     refine H_region (l:=[_,_,_]) rfl ?_
     refine HO_move rfl rfl rfl ?_
     iterate 2 refine HO_assign rfl rfl rfl ?_
     refine HO_nil ?_
     refine H_env (ρ':=[(5,_),(4,_)]) ⟨rfl,rfl,trivial⟩ ?_
     refine H_world (kp [nn,nn,nn,nn,nn,nn,nn] [] rfl) ?_
     refine H_ret2 Try.results16 (.tmp rfl) (.tmp rfl) (fun w hA => ⟨(),congrArg Ending.returned ?_,?_,?_⟩)
     ·(rw [hfin])
     ·trivial
     ·exact hA.keep (m:=[]) (Y:=[]) rfl
    intro h65
    refine H_seq ?_
    refine H_meetE (σ:=Nat × Option Addr × Nat) _ (fun s => s.1≤log.length) (fun s => [(0,.slice a8 (log.length) c8),(1,.slice a9 (ops.length) c9),(8,.func (.func 72) #[] #[.pointer (some ⟨y26.1,0,none⟩),.pointer (some ⟨y26.2.1,0,none⟩)]),(9,.int .i64 ((i : Int))),(10,.pointer (some ⟨g10,0,none⟩)),(11,.bool (decide (0 < z32.stop))),(27,.slice a9 (ops.length) c9),(28,.int .i64 ((ops.length : Int))),(29,.int .i64 ((i : Int))),(97,.bool (Hist.eRep log z32))]) (fun s => Asn w0 ok0 M0 [.dat kEnt.sl (log) [.slice a8 (log.length) c8],.dat kOp.sl (ops) [.slice a9 (ops.length) c9],.loc y26.1 [.slice s.2.1 (((Hist.sts log s.1)).length) s.2.2] 119,.own 56 kSt s.2.1 s.2.2 ((Hist.sts log s.1)),.loc y26.2.1 [.slice a8 (log.length) c8] 22,.loc g10 [.int .i64 (z32.cmd.kind),.int .i64 (z32.cmd.sess),.int .i64 (z32.cmd.seq),.string (z32.cmd.key),.string (z32.cmd.old),.string (z32.cmd.val),.string (z32.cmd.til),.int .i64 (z32.cmd.lim),.int .i64 (z32.rep.err),.bool (z32.rep.found),.string (z32.rep.val),.int .i64 (z32.rep.sess),.slice y32.1 (z32.rep.pairs.length) y32.2,.int .i64 (z32.start),.int .i64 (z32.stop),.int .i64 (z32.at_),.bool (z32.read)] 40,.dat kPair.sl (z32.rep.pairs) [.slice y32.1 (z32.rep.pairs.length) y32.2]]) ?_ ?_
    ·skip
     have hrg:=Hist.range_at hR
     have hRC:=hI32.2.1
     have hRQ:=hI32.2.2.1
     have hRA:=hI32.2.2.2.2.2.2.2.2.2.2.2.2.2.2
     have hSK:=hI32.2.2.2.1
     have hSC:=hI32.2.2.2.2.2.1
     refine H_drawB (m:=[yy,yy,nn,nn,nn,yy,yy]) (Xs:=[_,_,_,_]) (fuel:=11) (l:=#[false,false,false,false,false,false,false,false,false,false,false]) mixed rfl rfl rfl ?_
     refine HA_take (i:=0) bp rfl rfl rfl rfl (by kernel_rfl) rfl (V_move rfl) (kp [yy,yy,nn,nn,nn,yy,yy] [_,_,_,_] rfl) ?_
     refine HA_take (i:=1) bp rfl rfl rfl rfl (by kernel_rfl) rfl (V_move rfl) (kp [yy,yy,nn,nn,nn,yy,yy] [_,_,_,_] rfl) ?_
     refine HA_split (d:=99) rfl ?_ ?_
     ·intro h99
      replace h99:=dT h99
      refine HA_take (i:=2) bp rfl rfl rfl rfl (by kernel_rfl) rfl (V_move rfl) (kp [yy,yy,nn,nn,nn,yy,yy] [_,_,_,_] rfl) ?_
      refine HA_take (i:=3) bp rfl rfl rfl rfl (by kernel_rfl) rfl (V_loadA (i:=2) (us:=[]) (cs:=[_,_,_,_,_,_,_,_,_,_,_,_,_,_,_,_,_]) (ts:=[]) rfl Try.isAgg40 Try.sizeOf40 rfl (.loc _ _ _) rfl rfl rfl rfl) (kp [yy,yy,nn,nn,nn,yy,yy] [_,_,_,_] rfl) ?_
      refine HA_take (i:=5) bp rfl rfl rfl rfl (by kernel_rfl) rfl (V_fieldAddr (r:=8) rfl Try.underlying40 rfl Try.sizeOf38 rfl) (kp [yy,yy,nn,nn,nn,yy,yy] [_,_,_,_] rfl) ?_
      refine HA_take (i:=6) bp rfl rfl rfl rfl (by kernel_rfl) rfl (V_loadA (i:=2) (us:=[_,_,_,_,_,_,_,_]) (cs:=[_,_,_,_,_]) (ts:=[_,_,_,_]) rfl Try.isAgg38 Try.sizeOf38 rfl (.loc _ _ _) rfl rfl rfl rfl) (kp [yy,yy,nn,nn,nn,yy,yy] [_,_,_,_] rfl) ?_
      refine HA_loud1 (i:=4) (by kernel_rfl) rfl ?_
      refine HO_dup (i:=0) rfl rfl ?_
      refine HO_call (first:=[]) (capt:=[]) (is:=[2,3,4,0]) (R:=[_,_,_,_]) rfl rfl rfl rfl rfl Try.call42 rfl (reply_spec _ _ _ _ _ _ _ _ _ _ _ _ _ _ _ _ _ _ _ _ _ _ _ _ _ _ _ ?_ ?_ ?_ ?_ ?_ ?_ ?_ ?_) ?_
      ·exact hl
      ·exact hI.1.2
      ·exact hRA
      ·exact hRC
      ·exact hRQ
      ·exact hSK
      ·exact hSC
      ·exact ⟨hrg.1,(hrg.2.2 (by omega)).1,hrg.2.1⟩
      intro y102 hy102
      refine HA_back rfl (kp [nn,nn,nn,nn,yy,yy,yy,yy] [_,_,_,_] rfl) ?_
      refine HA_loud1 (i:=7) (by kernel_rfl) rfl ?_
      refine HO_dup (i:=3) rfl rfl ?_
      refine HO_dup (i:=8) rfl rfl ?_
      refine HO_call (first:=[]) (capt:=[]) (is:=[0,0]) (R:=[_,_,_,_,_,_,_,_]) rfl rfl rfl rfl rfl Try.call41 rfl (rsame9_spec _ _ _ _ _ _ _ _ _ _ _ _ _ _) ?_
      intro y105 hy105
      clear y105 hy105
      refine HA_back rfl (kp [nn,nn,nn,nn,yy,yy,yy,yy] [_,_,_,_] rfl) ?_
      refine HA_take (i:=8) bp rfl rfl rfl rfl (by kernel_rfl) rfl (V_not rfl) (kp [nn,nn,nn,nn,yy,yy,yy,yy] [_,_,_,_] rfl) ?_
      refine HA_take (i:=9) bp rfl rfl rfl rfl (by kernel_rfl) rfl (V_pick_t rfl rfl) (kp [nn,nn,nn,nn,yy,yy,yy,yy] [_,_,_,_] rfl) ?_
      refine HA_take (i:=10) bp rfl rfl rfl rfl (by kernel_rfl) rfl (V_assign rfl) (kp [nn,nn,nn,nn,yy,yy,yy,yy] [_,_,_,_] rfl) ?_
      refine HA_done (by kernel_rfl) ?_
      refine H_env (ρ':=[(97,_),(0,_),(1,_),(8,_),(9,_),(10,_),(11,_),(27,_),(28,_),(29,_)]) ⟨rfl,rfl,rfl,rfl,rfl,rfl,rfl,rfl,rfl,rfl,trivial⟩ ?_
      refine H_world (kp [yy,yy,yy,nn,yy,yy,yy,yy] [_,_,_,_,_,_,_] rfl) ?_
      refine H_inv (fun a w hf hA => ⟨⟨y102.1,y102.2.1.1,y102.2.1.2⟩,?_,hf.sub ?_,?_⟩)
      ·first | exact hy102 | exact hI.1.2
      ·exact ⟨rfl,rfl,rfl,rfl,rfl,rfl,rfl,rfl,rfl,congrArg (fun b => some (Value.bool b)) (by first | (unfold Hist.eRep;rw [decide_eq_false h99];rfl) | (unfold Hist.eRep;rw [decide_eq_true h99];rfl)),trivial⟩
      ·exact hA.only (is:=[0,1,0,1,2,5,6]) (Z:=[]) rfl
     intro h99
     replace h99:=dF h99
     refine HA_no (i:=2) bp rfl rfl rfl rfl (by kernel_rfl) rfl (kp [yy,yy,nn,nn,nn,yy,yy] [_,_,_,_] rfl) ?_
     refine HA_no (i:=3) bp rfl rfl rfl rfl (by kernel_rfl) rfl (kp [yy,yy,nn,nn,nn,yy,yy] [_,_,_,_] rfl) ?_
     refine HA_no (i:=4) bp rfl rfl rfl rfl (by kernel_rfl) rfl (kp [yy,yy,nn,nn,nn,yy,yy] [_,_,_,_] rfl) ?_
     refine HA_no (i:=5) bp rfl rfl rfl rfl (by kernel_rfl) rfl (kp [yy,yy,nn,nn,nn,yy,yy] [_,_,_,_] rfl) ?_
     refine HA_no (i:=6) bp rfl rfl rfl rfl (by kernel_rfl) rfl (kp [yy,yy,nn,nn,nn,yy,yy] [_,_,_,_] rfl) ?_
     refine HA_no (i:=7) bp rfl rfl rfl rfl (by kernel_rfl) rfl (kp [yy,yy,nn,nn,nn,yy,yy] [_,_,_,_] rfl) ?_
     refine HA_no (i:=8) bp rfl rfl rfl rfl (by kernel_rfl) rfl (kp [yy,yy,nn,nn,nn,yy,yy] [_,_,_,_] rfl) ?_
     refine HA_take (i:=9) bp rfl rfl rfl rfl (by kernel_rfl) rfl (V_pick_f rfl rfl) (kp [yy,yy,nn,nn,nn,yy,yy] [_,_,_,_] rfl) ?_
     refine HA_take (i:=10) bp rfl rfl rfl rfl (by kernel_rfl) rfl (V_assign rfl) (kp [yy,yy,nn,nn,nn,yy,yy] [_,_,_,_] rfl) ?_
     refine HA_done (by kernel_rfl) ?_
     refine H_env (ρ':=[(97,_),(0,_),(1,_),(8,_),(9,_),(10,_),(11,_),(27,_),(28,_),(29,_)]) ⟨rfl,rfl,rfl,rfl,rfl,rfl,rfl,rfl,rfl,rfl,trivial⟩ ?_
     refine H_inv (fun a w hf hA => ⟨⟨m,p,q⟩,?_,hf.sub ?_,?_⟩)
     ·first | exact hy102 | exact hI.1.2
     ·exact ⟨rfl,rfl,rfl,rfl,rfl,rfl,rfl,rfl,rfl,congrArg (fun b => some (Value.bool b)) (by first | (unfold Hist.eRep;rw [decide_eq_false h99];rfl) | (unfold Hist.eRep;rw [decide_eq_true h99];rfl)),trivial⟩
     ·exact hA.only (is:=[0,1,2,3,4,5,6]) (Z:=[]) rfl
    rintro ⟨m',p',q'⟩ hJ
    (try dsimp only at hJ ⊢)
    refine H_cond rfl ?_ ?_
    ·intro h97
     refine H_seq ?_
     have hfin:=Hist.bad_is hz32 hI.2 (Hist.one_8 hR h65 h97) (by decide)
     refine H_region (l:=[_,_,_]) rfl ?_
     refine HO_move rfl rfl rfl ?_
     iterate 2 refine HO_assign rfl rfl rfl ?_
     refine HO_nil ?_
     refine H_env (ρ':=[(5,_),(4,_)]) ⟨rfl,rfl,trivial⟩ ?_
     refine H_world (kp [nn,nn,nn,nn,nn,nn,nn] [] rfl) ?_
     refine H_ret2 Try.results16 (.tmp rfl) (.tmp rfl) (fun w hA => ⟨(),congrArg Ending.returned ?_,?_,?_⟩)
     ·(rw [hfin])
     ·trivial
     ·exact hA.keep (m:=[]) (Y:=[]) rfl
    intro h97
    refine H_seq ?_
    refine H_region (l:=[_,_,_,_]) rfl ?_
    refine HO_move rfl rfl rfl ?_
    refine HO_loadA (i:=5) (us:=[]) (cs:=[_,_,_,_,_,_,_,_,_,_,_,_,_,_,_,_,_]) (ts:=[]) rfl rfl rfl Try.isAgg40 Try.sizeOf40 rfl (.loc _ _ _) rfl rfl rfl rfl ?_
    refine HO_dup (i:=1) rfl rfl ?_
    refine HO_call (first:=[]) (capt:=[]) (is:=[0]) (R:=[_,_,_,_,_,_,_]) rfl rfl rfl rfl rfl Try.call43 rfl (late_spec _ _ _ _ _ _ _ _ _ _ _ _ _ _ _ _ _ _ _ _ _ _) ?_
    intro y112 hy112
    clear y112 hy112
    refine HO_assign rfl rfl rfl ?_
    refine HO_nil ?_
    refine H_env (ρ':=[(109,_),(0,_),(1,_),(8,_),(9,_),(27,_),(28,_),(29,_)]) ⟨rfl,rfl,rfl,rfl,rfl,rfl,rfl,rfl,trivial⟩ ?_
    refine H_world (kp [yy,yy,yy,yy,yy,nn,nn] [_,_,_,_,_] rfl) ?_
    refine H_cond rfl ?_ ?_
    ·intro h109
     refine H_seq ?_
     have hfin:=Hist.bad_is hz32 hI.2 (Hist.one_15 hR h65 h97 h109) (by decide)
     refine H_region (l:=[_,_,_]) rfl ?_
     refine HO_move rfl rfl rfl ?_
     iterate 2 refine HO_assign rfl rfl rfl ?_
     refine HO_nil ?_
     refine H_env (ρ':=[(5,_),(4,_)]) ⟨rfl,rfl,trivial⟩ ?_
     refine H_world (kp [nn,nn,nn,nn,nn] [] rfl) ?_
     refine H_ret2 Try.results16 (.tmp rfl) (.tmp rfl) (fun w hA => ⟨(),congrArg Ending.returned ?_,?_,?_⟩)
     ·(rw [hfin])
     ·trivial
     ·exact hA.keep (m:=[]) (Y:=[]) rfl
    intro h109
    refine H_skip ?_
    refine H_blk ?_
    refine H_blk ?_
    have hone:=Hist.one_0 (ops:=ops) hR h65 h97 h109
    refine H_region (l:=[_,_]) rfl ?_
    refine HO_bin rfl rfl rfl rfl (bin_add ?_ ?_) ?_
    ·omega
    ·omega
    refine HO_move rfl rfl rfl ?_
    refine HO_nil ?_
    refine H_env (ρ':=[(29,_),(0,_),(1,_),(8,_),(27,_),(28,_)]) ⟨rfl,rfl,rfl,rfl,rfl,rfl,trivial⟩ ?_
    refine H_inv (fun a w hf hA => ⟨⟨i + 1,m',p',q'⟩,?_,?_,hf.sub ?_,?_⟩)
    ·exact ⟨⟨by dsimp only;omega,hJ⟩,Hist.bad_next hz32 hI.2 hone⟩
    ·(try dsimp only);omega
    ·exact ⟨rfl,rfl,rfl,rfl,rfl,rfl,trivial⟩
    ·exact hA.only (is:=[0,1,2,3,4]) (Z:=[]) rfl
   intro h30
   replace h30:=dF h30
   refine H_exit rfl ?_
   refine H_seq ?_
   obtain rfl : i = ops.length:=by omega
   have hfin:=Hist.bad_end hI.2
   refine H_region (l:=[_,_]) rfl ?_
   iterate 2 refine HO_assign rfl rfl rfl ?_
   refine HO_nil ?_
   refine H_env (ρ':=[(5,_),(4,_)]) ⟨rfl,rfl,trivial⟩ ?_
   refine H_world (kp [nn,nn,nn,nn,nn] [] rfl) ?_
   refine H_ret2 Try.results16 (.tmp rfl) (.tmp rfl) (fun w hA => ⟨(),congrArg Ending.returned ?_,?_,?_⟩)
   ·(rw [hfin])
   ·trivial
   ·exact hA.keep (m:=[]) (Y:=[]) rfl
end Go.Wk
