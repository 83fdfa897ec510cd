/- Contracts of the program's functions, each proved by walking its code. -/
import Derived.Test.YtlkdpglngomblaaKflaw22
import Derived.Test.YtlkdpglngomblaaKfhist4
import Derived.Test.YtlkdpglngomblaaLin
set_option maxRecDepth 100000
set_option linter.unusedVariables false
set_option linter.unusedSimpArgs false
namespace Go.Wk.Flaw22d
open Go Go.RowKit Go.Proofs Go.Wk

end Go.Wk.Flaw22d
namespace Go.Wk
open Go Go.RowKit Go.Proofs Flaw22d 
set_option maxHeartbeats 0 in
theorem HistoryLinear_spec (log : List Ent) (a8 : Option Addr) (c8 : Nat) (ops : List Op) (a9 : Option Addr) (c9 : Nat)  : Spec Try.prog 3 #[.slice a8 (log.length) c8,.slice a9 (ops.length) c9] [.dat kEnt.sl (log) [.slice a8 (log.length) c8],.dat kOp.sl (ops) [.slice a9 (ops.length) c9]] (β:=Unit) (fun y => .bool (true)) (fun y => True) (fun y => []):=by
 refine Spec.enter (vs:=[_,_]) Try.func3 rfl Try.ntmps3 rfl (Nat.le_of_ble_eq_true rfl) (fun w0 ok0 => ?_)
 generalize hM0 : blks _ = M0
 have hMn:=@noM _ _ hM0 (by simp [Atom.dat,Atom.elem])
 refine H_len_le (i:=0) rfl ?_
 intro hlen0
 refine H_len_le (i:=1) rfl ?_
 intro hlen1
 refine H_seq ?_
 refine H_region (l:=[_]) rfl ?_
 refine HO_assign rfl rfl rfl ?_
 refine HO_nil ?_
 refine H_env (ρ':=[(0,_),(1,_)]) ⟨rfl,rfl,trivial⟩ ?_
 refine H_seq ?_
 refine H_seq ?_
 refine H_region (l:=[_,_,_]) rfl ?_
 iterate 2 refine HO_move rfl rfl rfl ?_
 refine HO_dup (i:=0) rfl rfl ?_
 refine HO_dup (i:=2) rfl rfl ?_
 refine HO_call (first:=[]) (capt:=[]) (is:=[0,0]) (R:=[_,_]) rfl rfl rfl rfl rfl Try.call14 rfl (heavy22_spec _ _ _ _ _ _) ?_
 intro y19 hy19
 refine HO_nil ?_
 refine H_env (ρ':=[(19,_),(0,_),(1,_)]) ⟨rfl,rfl,rfl,trivial⟩ ?_
 refine H_cond rfl ?_ ?_
 ·intro h19
  refine H_seq ?_
  refine H_region (l:=[_,_]) rfl ?_
  refine HO_call (first:=[]) (capt:=[]) (is:=[]) (R:=[_,_]) rfl rfl rfl rfl rfl Try.call15 rfl lives22_spec ?_
  intro y20 hy20
  clear y20 hy20
  refine HO_assign rfl rfl rfl ?_
  refine HO_nil ?_
  refine H_env (ρ':=[(4,_)]) ⟨rfl,trivial⟩ ?_
  refine H_world (kp [nn,nn] [] rfl) ?_
  refine H_ret1 Try.results3 (.tmp rfl) (fun w hA => ⟨(),congrArg Ending.returned ?_,?_,?_⟩)
  ·(exact congrArg Value.bool (by first | rfl | assumption | simp_all))
  ·trivial
  ·exact hA.keep (m:=[]) (Y:=[]) rfl
 intro h19
 refine H_skip ?_
 refine H_seq ?_
 refine H_seq ?_
 have hln:=hy19 h19
 refine H_region (l:=[_,_,_,_,_,_,_,_]) rfl ?_
 iterate 2 refine HO_move rfl rfl rfl ?_
 refine HO_dup (i:=0) rfl rfl ?_
 refine HO_dup (i:=2) rfl rfl ?_
 refine HO_call (first:=[]) (capt:=[]) (is:=[0,0]) (R:=[_,_]) rfl rfl rfl rfl rfl Try.call16 rfl (check_spec _ _ _ _ _ _ ?_) ?_
 ·omega
 intro y24 hy24
 clear y24 hy24
 refine HO_move rfl rfl rfl ?_
 refine HO_extract (vs:=[_,_]) rfl rfl rfl rfl ?_
 refine HO_extract (vs:=[_,_]) rfl rfl rfl rfl ?_
 iterate 2 refine HO_assign rfl rfl rfl ?_
 refine HO_nil ?_
 refine H_env (ρ':=[(6,_),(0,_),(1,_)]) ⟨rfl,rfl,rfl,trivial⟩ ?_
 refine H_seq ?_
 refine H_region (l:=[_,_]) rfl ?_
 refine HO_move rfl rfl rfl ?_
 refine HO_bin rfl rfl rfl rfl bin_neq ?_
 refine HO_nil ?_
 refine H_env (ρ':=[(28,_),(0,_),(1,_)]) ⟨rfl,rfl,rfl,trivial⟩ ?_
 refine H_cond rfl ?_ ?_
 ·intro h28
  replace h28:=dT h28
  refine H_seq ?_
  refine H_region (l:=[_,_]) rfl ?_
  refine HO_call (first:=[]) (capt:=[]) (is:=[]) (R:=[_,_]) rfl rfl rfl rfl rfl Try.call15 rfl lives22_spec ?_
  intro y29 hy29
  clear y29 hy29
  refine HO_assign rfl rfl rfl ?_
  refine HO_nil ?_
  refine H_env (ρ':=[(4,_)]) ⟨rfl,trivial⟩ ?_
  refine H_world (kp [nn,nn] [] rfl) ?_
  refine H_ret1 Try.results3 (.tmp rfl) (fun w hA => ⟨(),congrArg Ending.returned ?_,?_,?_⟩)
  ·(exact congrArg Value.bool (by first | rfl | assumption | simp_all))
  ·trivial
  ·exact hA.keep (m:=[]) (Y:=[]) rfl
 intro h28
 replace h28:=dF h28
 refine H_skip ?_
 refine H_seq ?_
 have hR:=Hist.right_of (log:=log) (ops:=ops) (Decidable.not_not.1 h28)
 refine H_region (l:=[_,_,_]) rfl ?_
 refine HO_move rfl rfl rfl ?_
 refine HO_dup (i:=1) rfl rfl ?_
 refine HO_call (first:=[]) (capt:=[]) (is:=[0]) (R:=[_,_]) rfl rfl rfl rfl rfl Try.call17 rfl (order_spec _ _ _ ?_) ?_
 ·omega
 intro y31 hy31
 refine HO_assign rfl rfl rfl ?_
 refine HO_nil ?_
 refine H_env (ρ':=[(7,_),(0,_),(1,_)]) ⟨rfl,rfl,rfl,trivial⟩ ?_
 refine H_seq ?_
 have hyl:=hy31.len
 have hil:=Hist.idxs_len (ops:=ops) (i:=ops.length)
 refine H_freeze (i:=0) (R:=[_,_]) rfl hMn ?_
 refine H_region (l:=[_]) rfl ?_
 refine HO_alloc (cs:=[_,_]) rfl rfl Try.zeroValue34 rfl ?_
 intro g8
 refine HO_nil ?_
 refine H_seq ?_
 refine H_region (l:=[_]) rfl ?_
 refine HO_assign rfl rfl rfl ?_
 refine HO_nil ?_
 refine H_seq ?_
 refine H_seq ?_
 refine H_region (l:=[_,_,_]) rfl ?_
 refine HO_move rfl rfl rfl ?_
 refine HO_bi rfl rfl rfl (bi_len_sl Try.underlying29) ?_
 refine HO_move rfl rfl rfl ?_
 refine HO_nil ?_
 refine H_block ?_
 refine H_nilDat kPair ?_
 refine H_nilDat kSess ?_
 refine H_loop (σ:=Nat × Nat × (Option Addr × Nat) × (Option Addr × Nat)) (fun s => s.1≤y31.1.length∧s.2.1≤log.length∧Hist.From ops y31.1 s.1 s.2.1) (fun s => [(0,.slice a8 (log.length) c8),(1,.slice a9 (ops.length) c9),(7,.slice y31.2.1 (y31.1.length) y31.2.2),(32,.slice y31.2.1 (y31.1.length) y31.2.2),(33,.int .i64 ((y31.1.length : Int))),(34,.int .i64 ((s.1 : Int))),(8,.pointer (some ⟨g8,0,none⟩)),(9,.int .i64 ((s.2.1 : Int)))]) (fun s => Asn w0 ok0 M0 [.dat kEnt.sl (log) [.slice a8 (log.length) c8],.dat kOp.sl (ops) [.slice a9 (ops.length) c9],.dat kInt.sl (y31.1) [.slice y31.2.1 (y31.1.length) y31.2.2],.loc g8 [.slice s.2.2.1.1 (((Hist.state log s.2.1).1).length) s.2.2.1.2,.slice s.2.2.2.1 (((Hist.state log s.2.1).2).length) s.2.2.2.2] 34,.dat kPair.sl ((Hist.state log s.2.1).1) [.slice s.2.2.1.1 (((Hist.state log s.2.1).1).length) s.2.2.1.2],.dat kSess.sl ((Hist.state log s.2.1).2) [.slice s.2.2.2.1 (((Hist.state log s.2.1).2).length) s.2.2.2.2]]) (fun s => y31.1.length - s.1) ⟨0,0,(none,0),(none,0)⟩ ?_ ?_ ?_ ?_
 ·exact ⟨Nat.zero_le _,Nat.zero_le _,.start hy31⟩
 ·exact ⟨rfl,rfl,rfl,rfl,rfl,rfl,rfl,rfl,trivial⟩
 ·intro w hA
  exact hA.only (is:=[0,1,0,0,0,0]) (Z:=[]) rfl
 ·rintro ⟨i,k,u1,u2⟩ hI
  (try dsimp only at hI ⊢)
  refine H_seq ?_
  refine H_region (l:=[_]) rfl ?_
  refine HO_bin rfl rfl rfl rfl bin_lss ?_
  refine HO_nil ?_
  refine H_seq ?_
  refine H_cond rfl ?_ ?_
  ·intro h35
   replace h35:=dT h35
   refine H_skip ?_
   refine H_seq ?_
   refine H_block ?_
   refine H_seq ?_
   refine H_region (l:=[_,_,_,_,_]) rfl ?_
   refine HO_move rfl rfl rfl ?_
   refine HO_indexAddr open_int (i:=2) rfl rfl rfl rfl rfl Try.underlying29 Try.sizeOf3 rfl ?_ ?_
   ·omega
   intro b37 o37 z37 y37 hz37 hI37
   clear y37
   refine HO_load1 (i:=0) (j:=0) rfl rfl rfl Try.isAgg3 rfl (.elem _ _ _) rfl rfl ?_
   iterate 2 refine HO_assign rfl rfl rfl ?_
   refine HO_nil ?_
   refine H_env (ρ':=[(11,_),(10,_),(0,_),(1,_),(7,_),(32,_),(33,_),(34,_),(8,_),(9,_)]) ⟨rfl,rfl,rfl,rfl,rfl,rfl,rfl,rfl,rfl,rfl,trivial⟩ ?_
   refine H_world (kp [nn,yy,yy,yy,yy,yy,yy] [_,_,_,_,_,_] rfl) ?_
   refine H_seq ?_
   have hO:=hI
   obtain ⟨l,hzl0,hll,zx,hzx,hat⟩:=hy31.good hz37
   have hzl:=hz37
   rw [hzl0] at hzl
   refine H_region (l:=[_,_,_,_,_,_]) rfl ?_
   iterate 2 refine HO_move rfl rfl rfl ?_
   refine HO_indexAddr open_Op (i:=1) (j:=l) rfl rfl rfl rfl ?_ Try.underlying23 Try.sizeOf40 rfl ?_ ?_
   ·omega
   ·omega
   intro b41 o41 z41 y41 hz41 hI41
   (try simp only [BIG] at hI41)
   refine HO_loadA (i:=0) (us:=[]) (cs:=[_,_,_,_,_,_,_,_,_,_,_,_,_,_,_,_,_]) (ts:=[]) rfl rfl rfl Try.isAgg40 Try.sizeOf40 rfl (.elem _ _ _) rfl rfl rfl rfl ?_
   refine HO_alloc (cs:=[_,_,_,_,_,_,_,_,_,_,_,_,_,_,_,_,_]) rfl rfl Try.zeroValue40 rfl ?_
   intro g12
   refine HO_store (i:=0) (j:=0) (us:=[]) (old:=[_,_,_,_,_,_,_,_,_,_,_,_,_,_,_,_,_]) (ts:=[]) (cs:=[_,_,_,_,_,_,_,_,_,_,_,_,_,_,_,_,_]) (R:=[_,_,_,_,_,_,_,_]) (new:=[_,_,_,_,_,_,_,_,_,_,_,_,_,_,_,_,_]) rfl rfl rfl Try.sizeOf40 rfl (by simp [Value.oneCell']) rfl rfl rfl rfl rfl rfl ?_
   refine HO_nil ?_
   refine H_env (ρ':=[(12,_),(10,_),(0,_),(1,_),(7,_),(32,_),(33,_),(34,_),(8,_),(9,_)]) ⟨rfl,rfl,rfl,rfl,rfl,rfl,rfl,rfl,rfl,rfl,trivial⟩ ?_
   refine H_world (kp [yy,nn,yy,yy,yy,yy,yy,yy,yy] [_,_,_,_,_,_,_,_] rfl) ?_
   refine H_seq ?_
   have hrx:=hR.range hz41
   refine H_region (l:=[_]) rfl ?_
   refine HO_alloc (cs:=[_,_,_,_,_]) rfl rfl Try.zeroValue38 rfl ?_
   intro g13
   refine HO_nil ?_
   refine H_seq ?_
   refine H_block ?_
   refine H_nilDat kPair ?_
   refine H_loop (σ:=Nat × (Option Addr × Nat) × (Option Addr × Nat) × Reply × (Option Addr × Nat)) (fun s => s.1≤log.length∧(s.1 : Int)≤z41.at_) (fun s => [(0,.slice a8 (log.length) c8),(1,.slice a9 (ops.length) c9),(7,.slice y31.2.1 (y31.1.length) y31.2.2),(32,.slice y31.2.1 (y31.1.length) y31.2.2),(33,.int .i64 ((y31.1.length : Int))),(34,.int .i64 ((i : Int))),(8,.pointer (some ⟨g8,0,none⟩)),(9,.int .i64 ((s.1 : Int))),(10,.int .i64 ((i : Int))),(12,.pointer (some ⟨g12,0,none⟩)),(13,.pointer (some ⟨g13,0,none⟩))]) (fun s => Asn w0 ok0 M0 [.dat kEnt.sl (log) [.slice a8 (log.length) c8],.dat kOp.sl (ops) [.slice a9 (ops.length) c9],.dat kInt.sl (y31.1) [.slice y31.2.1 (y31.1.length) y31.2.2],.loc g8 [.slice s.2.1.1 (((Hist.state log s.1).1).length) s.2.1.2,.slice s.2.2.1.1 (((Hist.state log s.1).2).length) s.2.2.1.2] 34,.dat kPair.sl ((Hist.state log s.1).1) [.slice s.2.1.1 (((Hist.state log s.1).1).length) s.2.1.2],.dat kSess.sl ((Hist.state log s.1).2) [.slice s.2.2.1.1 (((Hist.state log s.1).2).length) s.2.2.1.2],.loc g12 [.int .i64 (z41.cmd.kind),.int .i64 (z41.cmd.sess),.int .i64 (z41.cmd.seq),.string (z41.cmd.key),.string (z41.cmd.old),.string (z41.cmd.val),.string (z41.cmd.til),.int .i64 (z41.cmd.lim),.int .i64 (z41.rep.err),.bool (z41.rep.found),.string (z41.rep.val),.int .i64 (z41.rep.sess),.slice y41.1 (z41.rep.pairs.length) y41.2,.int .i64 (z41.start),.int .i64 (z41.stop),.int .i64 (z41.at_),.bool (z41.read)] 40,.dat kPair.sl (z41.rep.pairs) [.slice y41.1 (z41.rep.pairs.length) y41.2],.loc g13 [.int .i64 (s.2.2.2.1.err),.bool (s.2.2.2.1.found),.string (s.2.2.2.1.val),.int .i64 (s.2.2.2.1.sess),.slice s.2.2.2.2.1 (s.2.2.2.1.pairs.length) s.2.2.2.2.2] 38,.dat kPair.sl (s.2.2.2.1.pairs) [.slice s.2.2.2.2.1 (s.2.2.2.1.pairs.length) s.2.2.2.2.2]]) (fun s => log.length - s.1) ⟨k,u1,u2,⟨0,false,⟨#[]⟩,0,[]⟩,(none,0)⟩ ?_ ?_ ?_ ?_
   ·exact ⟨hO.2.1,hO.2.2 i _ _ (Nat.le_refl _) hzl hz41⟩
   ·exact ⟨rfl,rfl,rfl,rfl,rfl,rfl,rfl,rfl,rfl,rfl,rfl,trivial⟩
   ·intro w hA
    exact hA.only (is:=[0,1,2,3,4,5,0,1,0,0]) (Z:=[]) rfl
   ·rintro ⟨k,v1,v2,r,ur⟩ hI
    (try dsimp only at hI ⊢)
    refine H_seq ?_
    refine H_seq ?_
    refine H_region (l:=[_,_,_,_]) rfl ?_
    refine HO_move rfl rfl rfl ?_
    refine HO_fieldAddr (r:=15) rfl rfl rfl Try.underlying40 rfl Try.sizeOf3 rfl ?_
    refine HO_load1 (i:=6) (j:=15) rfl rfl rfl Try.isAgg3 rfl (.loc _ _ _) rfl rfl ?_
    refine HO_bin rfl rfl rfl rfl bin_lss ?_
    refine HO_nil ?_
    refine H_env (ρ':=[(46,_),(0,_),(1,_),(7,_),(32,_),(33,_),(34,_),(8,_),(9,_),(10,_),(12,_),(13,_)]) ⟨rfl,rfl,rfl,rfl,rfl,rfl,rfl,rfl,rfl,rfl,rfl,rfl,trivial⟩ ?_
    refine H_cond rfl ?_ ?_
    ·intro h46
     replace h46:=dT h46
     refine H_skip ?_
     refine H_block ?_
     refine H_seq ?_
     refine H_region (l:=[_,_,_,_,_,_]) rfl ?_
     iterate 2 refine HO_move rfl rfl rfl ?_
     refine HO_indexAddr open_Ent (i:=0) rfl rfl rfl rfl rfl Try.underlying22 Try.sizeOf44 rfl ?_ ?_
     ·omega
     intro b49 o49 z49 y49 hz49 hI49
     (try simp only [BIG] at hI49)
     refine HO_loadA (i:=0) (us:=[]) (cs:=[_,_,_,_,_,_,_,_,_,_,_,_,_]) (ts:=[]) rfl rfl rfl Try.isAgg44 Try.sizeOf44 rfl (.elem _ _ _) rfl rfl rfl rfl ?_
     refine HO_alloc (cs:=[_,_,_,_,_,_,_,_,_,_,_,_,_]) rfl rfl Try.zeroValue44 rfl ?_
     intro g14
     refine HO_store (i:=0) (j:=0) (us:=[]) (old:=[_,_,_,_,_,_,_,_,_,_,_,_,_]) (ts:=[]) (cs:=[_,_,_,_,_,_,_,_,_,_,_,_,_]) (R:=[_,_,_,_,_,_,_,_,_,_,_,_,_]) (new:=[_,_,_,_,_,_,_,_,_,_,_,_,_]) rfl rfl rfl Try.sizeOf44 rfl (by simp [Value.oneCell']) rfl rfl rfl rfl rfl rfl ?_
     refine HO_nil ?_
     refine H_env (ρ':=[(14,_),(0,_),(1,_),(7,_),(32,_),(33,_),(34,_),(8,_),(9,_),(10,_),(12,_),(13,_)]) ⟨rfl,rfl,rfl,rfl,rfl,rfl,rfl,rfl,rfl,rfl,rfl,rfl,trivial⟩ ?_
     refine H_world (kp [yy,nn,yy,yy,yy,yy,yy,yy,yy,yy,yy,yy,yy,yy] [_,_,_,_,_,_,_,_,_,_,_,_,_] rfl) ?_
     refine H_seq ?_
     have hst:=Hist.state_next hz49
     refine H_region (l:=[_,_,_]) rfl ?_
     refine HO_move rfl rfl rfl ?_
     refine HO_bin rfl rfl rfl rfl (bin_add ?_ ?_) ?_
     ·omega
     ·omega
     refine HO_set (v':=.int .i64 (((k + 1 : Nat) : Int))) 52 rfl (by exact congrArg (Value.int .i64) (by omega)) ?_
     refine HO_assign rfl rfl rfl ?_
     refine HO_nil ?_
     refine H_env (ρ':=[(9,_),(14,_),(0,_),(1,_),(7,_),(32,_),(33,_),(34,_),(8,_),(10,_),(12,_),(13,_)]) ⟨rfl,rfl,rfl,rfl,rfl,rfl,rfl,rfl,rfl,rfl,rfl,rfl,trivial⟩ ?_
     refine H_seq ?_
     refine H_seq ?_
     refine H_region (l:=[_,_,_]) rfl ?_
     refine HO_fieldAddr (r:=2) rfl rfl rfl Try.underlying44 rfl Try.sizeOf3 rfl ?_
     refine HO_load1 (i:=0) (j:=2) rfl rfl rfl Try.isAgg3 rfl (.loc _ _ _) rfl rfl ?_
     refine HO_bin rfl rfl rfl rfl bin_eql ?_
     refine HO_nil ?_
     refine H_env (ρ':=[(55,_),(9,_),(14,_),(0,_),(1,_),(7,_),(32,_),(33,_),(34,_),(8,_),(10,_),(12,_),(13,_)]) ⟨rfl,rfl,rfl,rfl,rfl,rfl,rfl,rfl,rfl,rfl,rfl,rfl,rfl,trivial⟩ ?_
     refine H_meetE (σ:=(Option Addr × Nat) × (Option Addr × Nat) × Reply × (Option Addr × Nat)) _ (fun s => z49.kind = 2→s.2.2.1 = (Mod.apply (Hist.state log k).1 (Hist.state log k).2 z49.idx z49.cmd).2.2) (fun s => [(0,.slice a8 (log.length) c8),(1,.slice a9 (ops.length) c9),(7,.slice y31.2.1 (y31.1.length) y31.2.2),(32,.slice y31.2.1 (y31.1.length) y31.2.2),(33,.int .i64 ((y31.1.length : Int))),(34,.int .i64 ((i : Int))),(8,.pointer (some ⟨g8,0,none⟩)),(9,.int .i64 (((k + 1 : Nat) : Int))),(10,.int .i64 ((i : Int))),(12,.pointer (some ⟨g12,0,none⟩)),(13,.pointer (some ⟨g13,0,none⟩))]) (fun s => Asn w0 ok0 M0 [.dat kEnt.sl (log) [.slice a8 (log.length) c8],.dat kOp.sl (ops) [.slice a9 (ops.length) c9],.dat kInt.sl (y31.1) [.slice y31.2.1 (y31.1.length) y31.2.2],.loc g8 [.slice s.1.1 (((Hist.state log (k + 1)).1).length) s.1.2,.slice s.2.1.1 (((Hist.state log (k + 1)).2).length) s.2.1.2] 34,.dat kPair.sl ((Hist.state log (k + 1)).1) [.slice s.1.1 (((Hist.state log (k + 1)).1).length) s.1.2],.dat kSess.sl ((Hist.state log (k + 1)).2) [.slice s.2.1.1 (((Hist.state log (k + 1)).2).length) s.2.1.2],.loc g12 [.int .i64 (z41.cmd.kind),.int .i64 (z41.cmd.sess),.int .i64 (z41.cmd.seq),.string (z41.cmd.key),.string (z41.cmd.old),.string (z41.cmd.val),.string (z41.cmd.til),.int .i64 (z41.cmd.lim),.int .i64 (z41.rep.err),.bool (z41.rep.found),.string (z41.rep.val),.int .i64 (z41.rep.sess),.slice y41.1 (z41.rep.pairs.length) y41.2,.int .i64 (z41.start),.int .i64 (z41.stop),.int .i64 (z41.at_),.bool (z41.read)] 40,.dat kPair.sl (z41.rep.pairs) [.slice y41.1 (z41.rep.pairs.length) y41.2],.loc g13 [.int .i64 (s.2.2.1.err),.bool (s.2.2.1.found),.string (s.2.2.1.val),.int .i64 (s.2.2.1.sess),.slice s.2.2.2.1 (s.2.2.1.pairs.length) s.2.2.2.2] 38,.dat kPair.sl (s.2.2.1.pairs) [.slice s.2.2.2.1 (s.2.2.1.pairs.length) s.2.2.2.2]]) ?_ ?_
     ·skip
      refine H_cond rfl ?_ ?_
      ·intro h55
       replace h55:=dT h55
       have hst2 : Hist.state log (k + 1) = ((Mod.apply (Hist.state log k).1 (Hist.state log k).2 z49.idx ⟨z49.cmd.kind,z49.cmd.sess,z49.cmd.seq,z49.cmd.key,z49.cmd.old,z49.cmd.val,z49.cmd.til,z49.cmd.lim⟩).1,(Mod.apply (Hist.state log k).1 (Hist.state log k).2 z49.idx ⟨z49.cmd.kind,z49.cmd.sess,z49.cmd.seq,z49.cmd.key,z49.cmd.old,z49.cmd.val,z49.cmd.til,z49.cmd.lim⟩).2.1):=by rw [hst];unfold Mod.step;rw [if_pos h55]
       refine H_region (l:=[_,_,_,_,_,_,_,_,_,_,_]) rfl ?_
       refine HO_loadA (i:=6) (us:=[]) (cs:=[_,_]) (ts:=[]) rfl rfl rfl Try.isAgg34 Try.sizeOf34 rfl (.loc _ _ _) rfl rfl rfl rfl ?_
       refine HO_fieldAddr (r:=0) rfl rfl rfl Try.underlying44 rfl Try.sizeOf3 rfl ?_
       refine HO_load1 (i:=0) (j:=0) rfl rfl rfl Try.isAgg3 rfl (.loc _ _ _) rfl rfl ?_
       refine HO_fieldAddr (r:=3) rfl rfl rfl Try.underlying44 rfl Try.sizeOf36 rfl ?_
       refine HO_loadA (i:=0) (us:=[_,_,_]) (cs:=[_,_,_,_,_,_,_,_]) (ts:=[_,_]) rfl rfl rfl Try.isAgg36 Try.sizeOf36 rfl (.loc _ _ _) rfl rfl rfl rfl ?_
       refine HO_dup (i:=7) rfl rfl ?_
       refine HO_dup (i:=9) rfl rfl ?_
       refine HO_call (first:=[]) (capt:=[]) (is:=[0,0]) (R:=[_,_,_,_,_,_,_,_,_,_,_,_,_]) rfl rfl rfl rfl rfl Try.call18 rfl (rapply_spec _ _ _ _ _ _ _ _ _ _ _ _ _ _ _ ?_ ?_ ?_ ?_ ?_ ?_) ?_
       ·exact Hist.state_inv log k
       ·exact hI49.1
       ·exact hI49.2.2.2.2.1
       ·exact hI49.2.2.2.2.2.1
       ·(have:=hI49.2.2.2.2.2.2.1;simp only [BIG];omega)
       ·(have:=hI49.2.2.2.2.2.2.2.2.1;simp only [BIG];omega)
       intro y62 hy62
       refine HO_move rfl rfl rfl ?_
       refine HO_extract (vs:=[_,_]) rfl rfl rfl rfl ?_
       refine HO_extract (vs:=[_,_]) rfl rfl rfl rfl ?_
       refine HO_store (i:=9) (j:=0) (us:=[]) (old:=[_,_]) (ts:=[]) (cs:=[_,_]) (R:=[_,_,_,_,_,_,_,_,_,_,_,_,_,_,_]) (new:=[_,_]) rfl rfl rfl Try.sizeOf34 rfl (by simp [Value.oneCell']) rfl rfl rfl rfl rfl rfl ?_
       refine HO_store (i:=14) (j:=0) (us:=[]) (old:=[_,_,_,_,_]) (ts:=[]) (cs:=[_,_,_,_,_]) (R:=[_,_,_,_,_,_,_,_,_,_,_,_,_,_,_]) (new:=[_,_,_,_,_]) rfl rfl rfl Try.sizeOf38 rfl (by simp [Value.oneCell']) rfl rfl rfl rfl rfl rfl ?_
       refine HO_nil ?_
       refine H_env (ρ':=[(9,_),(0,_),(1,_),(7,_),(32,_),(33,_),(34,_),(8,_),(10,_),(12,_),(13,_)]) ⟨rfl,rfl,rfl,rfl,rfl,rfl,rfl,rfl,rfl,rfl,rfl,trivial⟩ ?_
       refine H_world (kp [yy,yy,yy,yy,yy,nn,nn,nn,yy,yy,yy,nn,nn,yy,yy,nn] [_,_,_,_,_,_,_,_,_,_] rfl) ?_
       refine H_inv (fun a w hf hA => ⟨⟨y62.1,y62.2.1,(Mod.apply (Hist.state log k).1 (Hist.state log k).2 z49.idx ⟨z49.cmd.kind,z49.cmd.sess,z49.cmd.seq,z49.cmd.key,z49.cmd.old,z49.cmd.val,z49.cmd.til,z49.cmd.lim⟩).2.2,y62.2.2⟩,?_,hf.sub ?_,?_⟩)
       ·first | exact fun _ => rfl | exact fun h => absurd h h55
       ·exact ⟨rfl,rfl,rfl,rfl,rfl,rfl,rfl,rfl,rfl,rfl,rfl,trivial⟩
       ·(dsimp only;rw [hst2];exact hA.only (is:=[0,1,2,0,1,2,6,7,0,4]) (Z:=[]) rfl)
      intro h55
      replace h55:=dF h55
      have hst2 : Hist.state log (k + 1) = Hist.state log k:=by rw [hst];unfold Mod.step;rw [if_neg h55]
      refine H_skip ?_
      refine H_inv (fun a w hf hA => ⟨⟨v1,v2,r,ur⟩,?_,hf.sub ?_,?_⟩)
      ·first | exact fun _ => rfl | exact fun h => absurd h h55
      ·exact ⟨rfl,rfl,rfl,rfl,rfl,rfl,rfl,rfl,rfl,rfl,rfl,trivial⟩
      ·(dsimp only;rw [hst2];exact hA.only (is:=[3,4,5,6,7,8,9,10,11,12]) (Z:=[_,_,_]) rfl)
     rintro ⟨w1,w2,r2,ur2⟩ hJ
     (try dsimp only at hJ ⊢)
     have hA:=hJ
     refine H_seq ?_
     refine H_region (l:=[_,_,_,_,_,_,_,_,_,_,_,_,_,_,_,_,_,_,_,_,_]) rfl ?_
     refine HO_move rfl rfl rfl ?_
     refine HO_fieldAddr (r:=15) rfl rfl rfl Try.underlying40 rfl Try.sizeOf3 rfl ?_
     refine HO_load1 (i:=6) (j:=15) rfl rfl rfl Try.isAgg3 rfl (.loc _ _ _) rfl rfl ?_
     refine HO_bin rfl rfl rfl rfl bin_eql ?_
     refine HO_move rfl rfl rfl ?_
     refine HO_split (d:=69) rfl ?_ ?_
     ·intro h69
      replace h69:=dT h69
      refine HO_fieldAddr (r:=16) rfl rfl rfl Try.underlying40 rfl Try.sizeOf4 rfl ?_
      refine HO_load1 (i:=6) (j:=16) rfl rfl rfl Try.isAgg4 rfl (.loc _ _ _) rfl rfl ?_
      refine HO_not rfl rfl rfl ?_
      refine HO_pick_t rfl rfl rfl rfl ?_
      refine HO_move rfl rfl rfl ?_
      refine HO_split (d:=74) rfl ?_ ?_
      ·intro h74
       replace h74:=nT h74
       refine HO_fieldAddr (r:=14) rfl rfl rfl Try.underlying40 rfl Try.sizeOf3 rfl ?_
       refine HO_load1 (i:=6) (j:=14) rfl rfl rfl Try.isAgg3 rfl (.loc _ _ _) rfl rfl ?_
       refine HO_bin rfl rfl rfl rfl bin_gtr ?_
       refine HO_pick_t rfl rfl rfl rfl ?_
       refine HO_move rfl rfl rfl ?_
       refine HO_split (d:=79) rfl ?_ ?_
       ·intro h79
        replace h79:=dT h79
        refine HO_loadA (i:=8) (us:=[]) (cs:=[_,_,_,_,_]) (ts:=[]) rfl rfl rfl Try.isAgg38 Try.sizeOf38 rfl (.loc _ _ _) rfl rfl rfl rfl ?_
        refine HO_fieldAddr (r:=8) rfl rfl rfl Try.underlying40 rfl Try.sizeOf38 rfl ?_
        refine HO_loadA (i:=6) (us:=[_,_,_,_,_,_,_,_]) (cs:=[_,_,_,_,_]) (ts:=[_,_,_,_]) rfl rfl rfl Try.isAgg38 Try.sizeOf38 rfl (.loc _ _ _) rfl rfl rfl rfl ?_
        refine HO_dup (i:=9) rfl rfl ?_
        refine HO_dup (i:=8) rfl rfl ?_
        refine HO_call (first:=[]) (capt:=[]) (is:=[0,0]) (R:=[_,_,_,_,_,_,_,_,_,_]) rfl rfl rfl rfl rfl Try.call19 rfl (rrsame9_spec _ _ _ _ _ _ _ _ _ _ _ _ _ _) ?_
        intro y83 hy83
        clear y83 hy83
        refine HO_not rfl rfl rfl ?_
        refine HO_pick_t rfl rfl rfl rfl ?_
        refine HO_nil ?_
        refine H_env (ρ':=[(85,_),(0,_),(1,_),(7,_),(32,_),(33,_),(34,_),(8,_),(9,_),(10,_),(12,_),(13,_)]) ⟨rfl,rfl,rfl,rfl,rfl,rfl,rfl,rfl,rfl,rfl,rfl,rfl,trivial⟩ ?_
        refine H_cond rfl ?_ ?_
        ·intro h85
         replace h85:=dF (nT h85)
         (exact absurd ((hA (hR.ent hz41 h74 (by omega) hz49).1).trans (hR.rep_w hz41 h74 (by omega) hz49 (by omega))) h85)
        intro h85
        replace h85:=dT (nF h85)
        refine H_skip ?_
        refine H_blk ?_
        refine H_inv (fun a w hf hA => ⟨⟨k + 1,w1,w2,r2,ur2⟩,?_,?_,hf.sub ?_,?_⟩)
        ·exact ⟨by dsimp only;omega,by dsimp only;omega⟩
        ·(try dsimp only);omega
        ·exact ⟨rfl,rfl,rfl,rfl,rfl,rfl,rfl,rfl,rfl,rfl,rfl,trivial⟩
        ·exact hA.only (is:=[0,1,2,3,4,5,6,7,8,9]) (Z:=[]) rfl
       intro h79
       replace h79:=dF h79
       iterate 5 refine HO_no rfl rfl rfl ?_
       refine HO_pick_f rfl rfl rfl rfl ?_
       refine HO_nil ?_
       refine H_env (ρ':=[(85,_),(0,_),(1,_),(7,_),(32,_),(33,_),(34,_),(8,_),(9,_),(10,_),(12,_),(13,_)]) ⟨rfl,rfl,rfl,rfl,rfl,rfl,rfl,rfl,rfl,rfl,rfl,rfl,trivial⟩ ?_
       refine H_cond rfl (fun h => nomatch h) (fun _ => ?_)
       refine H_skip ?_
       refine H_blk ?_
       refine H_inv (fun a w hf hA => ⟨⟨k + 1,w1,w2,r2,ur2⟩,?_,?_,hf.sub ?_,?_⟩)
       ·exact ⟨by dsimp only;omega,by dsimp only;omega⟩
       ·(try dsimp only);omega
       ·exact ⟨rfl,rfl,rfl,rfl,rfl,rfl,rfl,rfl,rfl,rfl,rfl,trivial⟩
       ·exact hA.only (is:=[0,1,2,3,4,5,6,7,8,9]) (Z:=[]) rfl
      intro h74
      replace h74:=nF h74
      iterate 3 refine HO_no rfl rfl rfl ?_
      refine HO_pick_f rfl rfl rfl rfl ?_
      refine HO_move rfl rfl rfl ?_
      iterate 5 refine HO_no rfl rfl rfl ?_
      refine HO_pick_f rfl rfl rfl rfl ?_
      refine HO_nil ?_
      refine H_env (ρ':=[(85,_),(0,_),(1,_),(7,_),(32,_),(33,_),(34,_),(8,_),(9,_),(10,_),(12,_),(13,_)]) ⟨rfl,rfl,rfl,rfl,rfl,rfl,rfl,rfl,rfl,rfl,rfl,rfl,trivial⟩ ?_
      refine H_cond rfl (fun h => nomatch h) (fun _ => ?_)
      refine H_skip ?_
      refine H_blk ?_
      refine H_inv (fun a w hf hA => ⟨⟨k + 1,w1,w2,r2,ur2⟩,?_,?_,hf.sub ?_,?_⟩)
      ·exact ⟨by dsimp only;omega,by dsimp only;omega⟩
      ·(try dsimp only);omega
      ·exact ⟨rfl,rfl,rfl,rfl,rfl,rfl,rfl,rfl,rfl,rfl,rfl,trivial⟩
      ·exact hA.only (is:=[0,1,2,3,4,5,6,7,8,9]) (Z:=[]) rfl
     intro h69
     replace h69:=dF h69
     iterate 3 refine HO_no rfl rfl rfl ?_
     refine HO_pick_f rfl rfl rfl rfl ?_
     refine HO_move rfl rfl rfl ?_
     iterate 3 refine HO_no rfl rfl rfl ?_
     refine HO_pick_f rfl rfl rfl rfl ?_
     refine HO_move rfl rfl rfl ?_
     iterate 5 refine HO_no rfl rfl rfl ?_
     refine HO_pick_f rfl rfl rfl rfl ?_
     refine HO_nil ?_
     refine H_env (ρ':=[(85,_),(0,_),(1,_),(7,_),(32,_),(33,_),(34,_),(8,_),(9,_),(10,_),(12,_),(13,_)]) ⟨rfl,rfl,rfl,rfl,rfl,rfl,rfl,rfl,rfl,rfl,rfl,rfl,trivial⟩ ?_
     refine H_cond rfl (fun h => nomatch h) (fun _ => ?_)
     refine H_skip ?_
     refine H_blk ?_
     refine H_inv (fun a w hf hA => ⟨⟨k + 1,w1,w2,r2,ur2⟩,?_,?_,hf.sub ?_,?_⟩)
     ·exact ⟨by dsimp only;omega,by dsimp only;omega⟩
     ·(try dsimp only);omega
     ·exact ⟨rfl,rfl,rfl,rfl,rfl,rfl,rfl,rfl,rfl,rfl,rfl,trivial⟩
     ·exact hA.only (is:=[0,1,2,3,4,5,6,7,8,9]) (Z:=[]) rfl
    intro h46
    replace h46:=dF h46
    refine H_exit rfl ?_
    refine H_seq ?_
    refine H_seq ?_
    have hK:=hI
    have htl : (y31.1.take i).length = i:=by rw [List.length_take];omega
    refine H_drawB (m:=[yy,yy,yy,yy,yy,yy,yy,yy,yy,yy]) (Xs:=[_,_,_,_,_,_,_,_,_,_]) (fuel:=17) (l:=#[false,false,false,false,false,false,false,false,false,false,false,false,false,false,false,false,false]) mixed rfl rfl rfl ?_
    refine HA_take (i:=0) bp rfl rfl rfl rfl (by kernel_rfl) rfl (V_fieldAddr (r:=16) rfl Try.underlying40 rfl Try.sizeOf4 rfl) (fun _ hA => hA) ?_
    refine HA_take (i:=1) bp rfl rfl rfl rfl (by kernel_rfl) rfl (V_load1 (i:=6) (j:=16) rfl Try.isAgg4 rfl (.loc _ _ _) rfl rfl) (fun _ hA => hA) ?_
    refine HA_take (i:=2) bp rfl rfl rfl rfl (by kernel_rfl) rfl (V_move rfl) (fun _ hA => hA) ?_
    refine HA_split (d:=88) rfl ?_ ?_
    ·intro h88
     refine HA_take (i:=3) bp rfl rfl rfl rfl (by kernel_rfl) rfl (V_fieldAddr (r:=14) rfl Try.underlying40 rfl Try.sizeOf3 rfl) (fun _ hA => hA) ?_
     refine HA_take (i:=4) bp rfl rfl rfl rfl (by kernel_rfl) rfl (V_load1 (i:=6) (j:=14) rfl Try.isAgg3 rfl (.loc _ _ _) rfl rfl) (fun _ hA => hA) ?_
     refine HA_take (i:=5) bp rfl rfl rfl rfl (by kernel_rfl) rfl (V_bin rfl rfl bin_gtr) (fun _ hA => hA) ?_
     refine HA_take (i:=6) bp rfl rfl rfl rfl (by kernel_rfl) rfl (V_pick_t rfl rfl) (fun _ hA => hA) ?_
     refine HA_take (i:=7) bp rfl rfl rfl rfl (by kernel_rfl) rfl (V_move rfl) (fun _ hA => hA) ?_
     refine HA_split (d:=93) rfl ?_ ?_
     ·intro h93
      replace h93:=dT h93
      refine HA_take (i:=8) bp rfl rfl rfl rfl (by kernel_rfl) rfl (V_loadA (i:=3) (us:=[]) (cs:=[_,_]) (ts:=[]) rfl Try.isAgg34 Try.sizeOf34 rfl (.loc _ _ _) rfl rfl rfl rfl) (fun _ hA => hA) ?_
      refine HA_take (i:=9) bp rfl rfl rfl rfl (by kernel_rfl) rfl (V_fieldAddr (r:=0) rfl Try.underlying40 rfl Try.sizeOf36 rfl) (fun _ hA => hA) ?_
      refine HA_take (i:=10) bp rfl rfl rfl rfl (by kernel_rfl) rfl (V_loadA (i:=6) (us:=[]) (cs:=[_,_,_,_,_,_,_,_]) (ts:=[_,_,_,_,_,_,_,_,_]) rfl Try.isAgg36 Try.sizeOf36 rfl (.loc _ _ _) rfl rfl rfl rfl) (fun _ hA => hA) ?_
      refine HA_take (i:=12) bp rfl rfl rfl rfl (by kernel_rfl) rfl (V_fieldAddr (r:=8) rfl Try.underlying40 rfl Try.sizeOf38 rfl) (fun _ hA => hA) ?_
      refine HA_take (i:=13) bp rfl rfl rfl rfl (by kernel_rfl) rfl (V_loadA (i:=6) (us:=[_,_,_,_,_,_,_,_]) (cs:=[_,_,_,_,_]) (ts:=[_,_,_,_]) rfl Try.isAgg38 Try.sizeOf38 rfl (.loc _ _ _) rfl rfl rfl rfl) (fun _ hA => hA) ?_
      refine HA_loud1 (i:=11) (by kernel_rfl) rfl ?_
      refine HO_dup (i:=4) rfl rfl ?_
      refine HO_call (first:=[]) (capt:=[]) (is:=[0]) (R:=[_,_,_,_,_,_,_,_,_,_]) rfl rfl rfl rfl rfl Try.call20 rfl (rquery_spec _ _ _ _ _ _ _ _ _ _ _ _ _ _ ?_ ?_ ?_ ?_) ?_
      ·exact (Hist.state_inv log k).ps
      ·exact (Hist.state_inv log k).pl
      ·(have:=hI41.2.2.2.1;simp only [BIG];omega)
      ·(have:=hI41.2.2.2.2.2.1;simp only [BIG];omega)
      intro y97 hy97
      refine HA_back rfl (kp [nn,yy,yy,yy,yy,yy,yy,yy,yy,yy,yy] [_,_,_,_,_,_,_,_,_,_] rfl) ?_
      refine HA_loud1 (i:=14) (by kernel_rfl) rfl ?_
      refine HO_dup (i:=0) rfl rfl ?_
      refine HO_dup (i:=9) rfl rfl ?_
      refine HO_call (first:=[]) (capt:=[]) (is:=[0,0]) (R:=[_,_,_,_,_,_,_,_,_,_,_]) rfl rfl rfl rfl rfl Try.call19 rfl (rrsame9_spec _ _ _ _ _ _ _ _ _ _ _ _ _ _) ?_
      intro y100 hy100
      clear y100 hy100
      refine HA_back rfl (kp [nn,yy,yy,yy,yy,yy,yy,yy,yy,yy,yy] [_,_,_,_,_,_,_,_,_,_] rfl) ?_
      refine HA_take (i:=15) bp rfl rfl rfl rfl (by kernel_rfl) rfl (V_not rfl) (kp [nn,yy,yy,yy,yy,yy,yy,yy,yy,yy,yy] [_,_,_,_,_,_,_,_,_,_] rfl) ?_
      refine HA_take (i:=16) bp rfl rfl rfl rfl (by kernel_rfl) rfl (V_pick_t rfl rfl) (kp [nn,yy,yy,yy,yy,yy,yy,yy,yy,yy,yy] [_,_,_,_,_,_,_,_,_,_] rfl) ?_
      refine HA_done (by kernel_rfl) ?_
      refine H_env (ρ':=[(102,_),(0,_),(1,_),(7,_),(32,_),(33,_),(34,_),(8,_),(9,_),(10,_),(12,_)]) ⟨rfl,rfl,rfl,rfl,rfl,rfl,rfl,rfl,rfl,rfl,rfl,trivial⟩ ?_
      refine H_world (kp [nn,yy,yy,yy,yy,yy,yy,yy,yy,nn,nn] [_,_,_,_,_,_,_,_] rfl) ?_
      refine H_cond rfl ?_ ?_
      ·intro h102
       replace h102:=dF (nT h102)
       (exact absurd (hR.rep_r hz41 h88 (by omega) (by omega)) h102)
      intro h102
      replace h102:=dT (nF h102)
      refine H_skip ?_
      refine H_seq ?_
      refine H_region (l:=[_,_,_,_,_]) rfl ?_
      iterate 2 refine HO_move rfl rfl rfl ?_
      refine HO_slice_h (i:=2) rfl rfl rfl rfl rfl Try.underlying29 Try.sizeOf3 rfl ?_ ?_
      ·omega
      intro a105 c105
      refine HO_bi rfl rfl rfl (bi_len_sl Try.underlying29) ?_
      refine HO_move rfl rfl rfl ?_
      refine HO_nil ?_
      refine H_env (ρ':=[(107,_),(106,_),(105,_),(0,_),(1,_),(7,_),(32,_),(33,_),(34,_),(8,_),(9,_),(12,_)]) ⟨rfl,rfl,rfl,rfl,rfl,rfl,rfl,rfl,rfl,rfl,rfl,rfl,trivial⟩ ?_
      refine H_block ?_
      refine H_loop (σ:=Nat) (fun s => s≤(y31.1.take i).length) (fun s => [(0,.slice a8 (log.length) c8),(1,.slice a9 (ops.length) c9),(7,.slice y31.2.1 (y31.1.length) y31.2.2),(32,.slice y31.2.1 (y31.1.length) y31.2.2),(33,.int .i64 ((y31.1.length : Int))),(34,.int .i64 ((i : Int))),(8,.pointer (some ⟨g8,0,none⟩)),(9,.int .i64 ((k : Int))),(12,.pointer (some ⟨g12,0,none⟩)),(105,.slice a105 ((y31.1.take i).length) c105),(106,.int .i64 (((y31.1.take i).length : Int))),(107,.int .i64 ((s : Int)))]) (fun s => Asn w0 ok0 M0 [.dat kEnt.sl (log) [.slice a8 (log.length) c8],.dat kOp.sl (ops) [.slice a9 (ops.length) c9],.dat kInt.sl (y31.1) [.slice y31.2.1 (y31.1.length) y31.2.2],.loc g8 [.slice v1.1 (((Hist.state log k).1).length) v1.2,.slice v2.1 (((Hist.state log k).2).length) v2.2] 34,.dat kPair.sl ((Hist.state log k).1) [.slice v1.1 (((Hist.state log k).1).length) v1.2],.dat kSess.sl ((Hist.state log k).2) [.slice v2.1 (((Hist.state log k).2).length) v2.2],.loc g12 [.int .i64 (z41.cmd.kind),.int .i64 (z41.cmd.sess),.int .i64 (z41.cmd.seq),.string (z41.cmd.key),.string (z41.cmd.old),.string (z41.cmd.val),.string (z41.cmd.til),.int .i64 (z41.cmd.lim),.int .i64 (z41.rep.err),.bool (z41.rep.found),.string (z41.rep.val),.int .i64 (z41.rep.sess),.slice y41.1 (z41.rep.pairs.length) y41.2,.int .i64 (z41.start),.int .i64 (z41.stop),.int .i64 (z41.at_),.bool (z41.read)] 40,.dat kPair.sl (z41.rep.pairs) [.slice y41.1 (z41.rep.pairs.length) y41.2],.dat kInt.sl ((y31.1.take i)) [.slice a105 ((y31.1.take i).length) c105]]) (fun s => (y31.1.take i).length - s) 0 ?_ ?_ ?_ ?_
      ·exact Nat.zero_le _
      ·exact ⟨rfl,rfl,rfl,rfl,rfl,rfl,rfl,rfl,rfl,rfl,rfl,rfl,trivial⟩
      ·intro w hA
       exact hA.only (is:=[0,1,2,3,4,5,6,7,0]) (Z:=[]) rfl
      ·intro j hI
       (try dsimp only at hI ⊢)
       refine H_seq ?_
       refine H_region (l:=[_]) rfl ?_
       refine HO_bin rfl rfl rfl rfl bin_lss ?_
       refine HO_nil ?_
       refine H_seq ?_
       refine H_cond rfl ?_ ?_
       ·intro h108
        replace h108:=dT h108
        refine H_skip ?_
        refine H_seq ?_
        refine H_block ?_
        refine H_seq ?_
        refine H_region (l:=[_,_,_]) rfl ?_
        refine HO_indexAddr open_int (i:=8) rfl rfl rfl rfl rfl Try.underlying29 Try.sizeOf3 rfl ?_ ?_
        ·omega
        intro b109 o109 z109 y109 hz109 hI109
        clear y109
        refine HO_load1 (i:=0) (j:=0) rfl rfl rfl Try.isAgg3 rfl (.elem _ _ _) rfl rfl ?_
        refine HO_assign rfl rfl rfl ?_
        refine HO_nil ?_
        refine H_env (ρ':=[(16,_),(0,_),(1,_),(7,_),(32,_),(33,_),(34,_),(8,_),(9,_),(12,_),(105,_),(106,_),(107,_)]) ⟨rfl,rfl,rfl,rfl,rfl,rfl,rfl,rfl,rfl,rfl,rfl,rfl,rfl,trivial⟩ ?_
        refine H_world (kp [nn,yy,yy,yy,yy,yy,yy,yy,yy,yy] [_,_,_,_,_,_,_,_,_] rfl) ?_
        refine H_seq ?_
        have hji : j < i:=by omega
        have hzy : y31.1[j]? = some z109:=by rw [List.getElem?_take,if_pos hji] at hz109;exact hz109
        obtain ⟨m,hm0,hml,zy,hzy2,hat2⟩:=hy31.good hzy
        have hzm:=hzy
        rw [hm0] at hzm
        refine H_drawB (m:=[yy,yy,yy,yy,yy,yy,yy,yy,yy]) (Xs:=[_,_,_,_,_,_,_,_,_]) (fuel:=6) (l:=#[false,false,false,false,false,false]) mixed rfl rfl rfl ?_
        refine HA_take (i:=0) bp rfl rfl rfl rfl (by kernel_rfl) rfl (V_loadA (i:=6) (us:=[]) (cs:=[_,_,_,_,_,_,_,_,_,_,_,_,_,_,_,_,_]) (ts:=[]) rfl Try.isAgg40 Try.sizeOf40 rfl (.loc _ _ _) rfl rfl rfl rfl) (fun _ hA => hA) ?_
        refine HA_take (i:=1) bp rfl rfl rfl rfl (by kernel_rfl) rfl (V_move rfl) (fun _ hA => hA) ?_
        refine HA_take (i:=2) bp rfl rfl rfl rfl (by kernel_rfl) rfl (V_move rfl) (fun _ hA => hA) ?_
        refine HA_loud1 (i:=3) (by kernel_rfl) rfl ?_
        refine HO_indexAddr open_Op (i:=1) (j:=m) rfl rfl rfl rfl ?_ Try.underlying23 Try.sizeOf40 rfl ?_ ?_
        ·omega
        ·omega
        intro b114 o114 z114 y114 hz114 hI114
        (try simp only [BIG] at hI114)
        refine HA_back rfl (kp [nn,nn,yy,yy,yy,yy,yy,yy,yy,yy,yy] [_,_,_,_,_,_,_,_,_] rfl) ?_
        refine HA_loud1 (i:=4) (by kernel_rfl) rfl ?_
        refine HO_loadA (i:=0) (us:=[]) (cs:=[_,_,_,_,_,_,_,_,_,_,_,_,_,_,_,_,_]) (ts:=[]) rfl rfl rfl Try.isAgg40 Try.sizeOf40 rfl (.elem _ _ _) rfl rfl rfl rfl ?_
        refine HA_back rfl (kp [nn,nn,yy,yy,yy,yy,yy,yy,yy,yy,yy] [_,_,_,_,_,_,_,_,_] rfl) ?_
        refine HA_loud1 (i:=5) (by kernel_rfl) rfl ?_
        refine HO_call (first:=[]) (capt:=[]) (is:=[]) (R:=[_,_,_,_,_,_,_,_,_,_,_]) rfl rfl rfl rfl rfl Try.call21 rfl (hbefore_spec _ _ _ _ _ _ _ _ _ _ _ _ _ _ _ _ _ _ _ _ _ _ _ _ _ _ _ _ _ _ _ _ _ _ _ _ _ _) ?_
        intro y116 hy116
        clear y116 hy116
        refine HA_back rfl (kp [nn,nn,yy,yy,yy,yy,yy,yy,yy,yy,yy] [_,_,_,_,_,_,_,_,_] rfl) ?_
        refine HA_done (by kernel_rfl) ?_
        refine H_env (ρ':=[(116,_),(0,_),(1,_),(7,_),(32,_),(33,_),(34,_),(8,_),(9,_),(12,_),(105,_),(106,_),(107,_)]) ⟨rfl,rfl,rfl,rfl,rfl,rfl,rfl,rfl,rfl,rfl,rfl,rfl,rfl,trivial⟩ ?_
        refine H_world (kp [nn,nn,yy,yy,yy,yy,yy,yy,yy,yy,yy] [_,_,_,_,_,_,_,_,_] rfl) ?_
        refine H_cond rfl ?_ ?_
        ·intro h116
         (exact absurd (hR.noinv hy31 (show j < i by omega) hzm hzl hz114 hz41) (by rw [show Hist.before z41 z114 = true from h116];decide))
        intro h116
        refine H_skip ?_
        refine H_blk ?_
        refine H_region (l:=[_,_]) rfl ?_
        refine HO_bin rfl rfl rfl rfl (bin_add ?_ ?_) ?_
        ·omega
        ·omega
        refine HO_move rfl rfl rfl ?_
        refine HO_nil ?_
        refine H_env (ρ':=[(107,_),(0,_),(1,_),(7,_),(32,_),(33,_),(34,_),(8,_),(9,_),(12,_),(105,_),(106,_)]) ⟨rfl,rfl,rfl,rfl,rfl,rfl,rfl,rfl,rfl,rfl,rfl,rfl,trivial⟩ ?_
        refine H_inv (fun a w hf hA => ⟨j + 1,?_,?_,hf.sub ?_,?_⟩)
        ·omega
        ·(try dsimp only);omega
        ·exact ⟨rfl,rfl,rfl,rfl,rfl,rfl,rfl,rfl,rfl,rfl,rfl,rfl,trivial⟩
        ·exact hA.only (is:=[0,1,2,3,4,5,6,7,8]) (Z:=[]) rfl
       intro h108
       replace h108:=dF h108
       refine H_exit rfl ?_
       refine H_blk ?_
       refine H_region (l:=[_,_]) rfl ?_
       refine HO_bin rfl rfl rfl rfl (bin_add ?_ ?_) ?_
       ·omega
       ·omega
       refine HO_move rfl rfl rfl ?_
       refine HO_nil ?_
       refine H_env (ρ':=[(34,_),(0,_),(1,_),(7,_),(32,_),(33,_),(8,_),(9,_)]) ⟨rfl,rfl,rfl,rfl,rfl,rfl,rfl,rfl,trivial⟩ ?_
       refine H_world (kp [yy,yy,yy,yy,yy,yy,nn,nn,nn] [_,_,_,_,_,_] rfl) ?_
       refine H_inv (fun a w hf hA => ⟨⟨i + 1,k,v1,v2⟩,?_,?_,hf.sub ?_,?_⟩)
       ·exact ⟨by dsimp only;omega,hK.1,.next hy31 hzl hz41 (by dsimp only;omega)⟩
       ·(try dsimp only);omega
       ·exact ⟨rfl,rfl,rfl,rfl,rfl,rfl,rfl,rfl,trivial⟩
       ·exact hA.only (is:=[0,1,2,3,4,5]) (Z:=[]) rfl
     intro h93
     replace h93:=dF h93
     refine HA_no (i:=8) bp rfl rfl rfl rfl (by kernel_rfl) rfl (fun _ hA => hA) ?_
     refine HA_no (i:=9) bp rfl rfl rfl rfl (by kernel_rfl) rfl (fun _ hA => hA) ?_
     refine HA_no (i:=10) bp rfl rfl rfl rfl (by kernel_rfl) rfl (fun _ hA => hA) ?_
     refine HA_no (i:=11) bp rfl rfl rfl rfl (by kernel_rfl) rfl (fun _ hA => hA) ?_
     refine HA_no (i:=12) bp rfl rfl rfl rfl (by kernel_rfl) rfl (fun _ hA => hA) ?_
     refine HA_no (i:=13) bp rfl rfl rfl rfl (by kernel_rfl) rfl (fun _ hA => hA) ?_
     refine HA_no (i:=14) bp rfl rfl rfl rfl (by kernel_rfl) rfl (fun _ hA => hA) ?_
     refine HA_no (i:=15) bp rfl rfl rfl rfl (by kernel_rfl) rfl (fun _ hA => hA) ?_
     refine HA_take (i:=16) bp rfl rfl rfl rfl (by kernel_rfl) rfl (V_pick_f rfl rfl) (fun _ hA => hA) ?_
     refine HA_done (by kernel_rfl) ?_
     refine H_env (ρ':=[(102,_),(0,_),(1,_),(7,_),(32,_),(33,_),(34,_),(8,_),(9,_),(10,_),(12,_)]) ⟨rfl,rfl,rfl,rfl,rfl,rfl,rfl,rfl,rfl,rfl,rfl,trivial⟩ ?_
     refine H_world (kp [yy,yy,yy,yy,yy,yy,yy,yy,nn,nn] [_,_,_,_,_,_,_,_] rfl) ?_
     refine H_cond rfl (fun h => nomatch h) (fun _ => ?_)
     refine H_skip ?_
     refine H_seq ?_
     refine H_region (l:=[_,_,_,_,_]) rfl ?_
     iterate 2 refine HO_move rfl rfl rfl ?_
     refine HO_slice_h (i:=2) rfl rfl rfl rfl rfl Try.underlying29 Try.sizeOf3 rfl ?_ ?_
     ·omega
     intro a105 c105
     refine HO_bi rfl rfl rfl (bi_len_sl Try.underlying29) ?_
     refine HO_move rfl rfl rfl ?_
     refine HO_nil ?_
     refine H_env (ρ':=[(107,_),(106,_),(105,_),(0,_),(1,_),(7,_),(32,_),(33,_),(34,_),(8,_),(9,_),(12,_)]) ⟨rfl,rfl,rfl,rfl,rfl,rfl,rfl,rfl,rfl,rfl,rfl,rfl,trivial⟩ ?_
     refine H_block ?_
     refine H_loop (σ:=Nat) (fun s => s≤(y31.1.take i).length) (fun s => [(0,.slice a8 (log.length) c8),(1,.slice a9 (ops.length) c9),(7,.slice y31.2.1 (y31.1.length) y31.2.2),(32,.slice y31.2.1 (y31.1.length) y31.2.2),(33,.int .i64 ((y31.1.length : Int))),(34,.int .i64 ((i : Int))),(8,.pointer (some ⟨g8,0,none⟩)),(9,.int .i64 ((k : Int))),(12,.pointer (some ⟨g12,0,none⟩)),(105,.slice a105 ((y31.1.take i).length) c105),(106,.int .i64 (((y31.1.take i).length : Int))),(107,.int .i64 ((s : Int)))]) (fun s => Asn w0 ok0 M0 [.dat kEnt.sl (log) [.slice a8 (log.length) c8],.dat kOp.sl (ops) [.slice a9 (ops.length) c9],.dat kInt.sl (y31.1) [.slice y31.2.1 (y31.1.length) y31.2.2],.loc g8 [.slice v1.1 (((Hist.state log k).1).length) v1.2,.slice v2.1 (((Hist.state log k).2).length) v2.2] 34,.dat kPair.sl ((Hist.state log k).1) [.slice v1.1 (((Hist.state log k).1).length) v1.2],.dat kSess.sl ((Hist.state log k).2) [.slice v2.1 (((Hist.state log k).2).length) v2.2],.loc g12 [.int .i64 (z41.cmd.kind),.int .i64 (z41.cmd.sess),.int .i64 (z41.cmd.seq),.string (z41.cmd.key),.string (z41.cmd.old),.string (z41.cmd.val),.string (z41.cmd.til),.int .i64 (z41.cmd.lim),.int .i64 (z41.rep.err),.bool (z41.rep.found),.string (z41.rep.val),.int .i64 (z41.rep.sess),.slice y41.1 (z41.rep.pairs.length) y41.2,.int .i64 (z41.start),.int .i64 (z41.stop),.int .i64 (z41.at_),.bool (z41.read)] 40,.dat kPair.sl (z41.rep.pairs) [.slice y41.1 (z41.rep.pairs.length) y41.2],.dat kInt.sl ((y31.1.take i)) [.slice a105 ((y31.1.take i).length) c105]]) (fun s => (y31.1.take i).length - s) 0 ?_ ?_ ?_ ?_
     ·exact Nat.zero_le _
     ·exact ⟨rfl,rfl,rfl,rfl,rfl,rfl,rfl,rfl,rfl,rfl,rfl,rfl,trivial⟩
     ·intro w hA
      exact hA.only (is:=[0,1,2,3,4,5,6,7,0]) (Z:=[]) rfl
     ·intro j hI
      (try dsimp only at hI ⊢)
      refine H_seq ?_
      refine H_region (l:=[_]) rfl ?_
      refine HO_bin rfl rfl rfl rfl bin_lss ?_
      refine HO_nil ?_
      refine H_seq ?_
      refine H_cond rfl ?_ ?_
      ·intro h108
       replace h108:=dT h108
       refine H_skip ?_
       refine H_seq ?_
       refine H_block ?_
       refine H_seq ?_
       refine H_region (l:=[_,_,_]) rfl ?_
       refine HO_indexAddr open_int (i:=8) rfl rfl rfl rfl rfl Try.underlying29 Try.sizeOf3 rfl ?_ ?_
       ·omega
       intro b109 o109 z109 y109 hz109 hI109
       clear y109
       refine HO_load1 (i:=0) (j:=0) rfl rfl rfl Try.isAgg3 rfl (.elem _ _ _) rfl rfl ?_
       refine HO_assign rfl rfl rfl ?_
       refine HO_nil ?_
       refine H_env (ρ':=[(16,_),(0,_),(1,_),(7,_),(32,_),(33,_),(34,_),(8,_),(9,_),(12,_),(105,_),(106,_),(107,_)]) ⟨rfl,rfl,rfl,rfl,rfl,rfl,rfl,rfl,rfl,rfl,rfl,rfl,rfl,trivial⟩ ?_
       refine H_world (kp [nn,yy,yy,yy,yy,yy,yy,yy,yy,yy] [_,_,_,_,_,_,_,_,_] rfl) ?_
       refine H_seq ?_
       have hji : j < i:=by omega
       have hzy : y31.1[j]? = some z109:=by rw [List.getElem?_take,if_pos hji] at hz109;exact hz109
       obtain ⟨m,hm0,hml,zy,hzy2,hat2⟩:=hy31.good hzy
       have hzm:=hzy
       rw [hm0] at hzm
       refine H_drawB (m:=[yy,yy,yy,yy,yy,yy,yy,yy,yy]) (Xs:=[_,_,_,_,_,_,_,_,_]) (fuel:=6) (l:=#[false,false,false,false,false,false]) mixed rfl rfl rfl ?_
       refine HA_take (i:=0) bp rfl rfl rfl rfl (by kernel_rfl) rfl (V_loadA (i:=6) (us:=[]) (cs:=[_,_,_,_,_,_,_,_,_,_,_,_,_,_,_,_,_]) (ts:=[]) rfl Try.isAgg40 Try.sizeOf40 rfl (.loc _ _ _) rfl rfl rfl rfl) (fun _ hA => hA) ?_
       refine HA_take (i:=1) bp rfl rfl rfl rfl (by kernel_rfl) rfl (V_move rfl) (fun _ hA => hA) ?_
       refine HA_take (i:=2) bp rfl rfl rfl rfl (by kernel_rfl) rfl (V_move rfl) (fun _ hA => hA) ?_
       refine HA_loud1 (i:=3) (by kernel_rfl) rfl ?_
       refine HO_indexAddr open_Op (i:=1) (j:=m) rfl rfl rfl rfl ?_ Try.underlying23 Try.sizeOf40 rfl ?_ ?_
       ·omega
       ·omega
       intro b114 o114 z114 y114 hz114 hI114
       (try simp only [BIG] at hI114)
       refine HA_back rfl (kp [nn,nn,yy,yy,yy,yy,yy,yy,yy,yy,yy] [_,_,_,_,_,_,_,_,_] rfl) ?_
       refine HA_loud1 (i:=4) (by kernel_rfl) rfl ?_
       refine HO_loadA (i:=0) (us:=[]) (cs:=[_,_,_,_,_,_,_,_,_,_,_,_,_,_,_,_,_]) (ts:=[]) rfl rfl rfl Try.isAgg40 Try.sizeOf40 rfl (.elem _ _ _) rfl rfl rfl rfl ?_
       refine HA_back rfl (kp [nn,nn,yy,yy,yy,yy,yy,yy,yy,yy,yy] [_,_,_,_,_,_,_,_,_] rfl) ?_
       refine HA_loud1 (i:=5) (by kernel_rfl) rfl ?_
       refine HO_call (first:=[]) (capt:=[]) (is:=[]) (R:=[_,_,_,_,_,_,_,_,_,_,_]) rfl rfl rfl rfl rfl Try.call21 rfl (hbefore_spec _ _ _ _ _ _ _ _ _ _ _ _ _ _ _ _ _ _ _ _ _ _ _ _ _ _ _ _ _ _ _ _ _ _ _ _ _ _) ?_
       intro y116 hy116
       clear y116 hy116
       refine HA_back rfl (kp [nn,nn,yy,yy,yy,yy,yy,yy,yy,yy,yy] [_,_,_,_,_,_,_,_,_] rfl) ?_
       refine HA_done (by kernel_rfl) ?_
       refine H_env (ρ':=[(116,_),(0,_),(1,_),(7,_),(32,_),(33,_),(34,_),(8,_),(9,_),(12,_),(105,_),(106,_),(107,_)]) ⟨rfl,rfl,rfl,rfl,rfl,rfl,rfl,rfl,rfl,rfl,rfl,rfl,rfl,trivial⟩ ?_
       refine H_world (kp [nn,nn,yy,yy,yy,yy,yy,yy,yy,yy,yy] [_,_,_,_,_,_,_,_,_] rfl) ?_
       refine H_cond rfl ?_ ?_
       ·intro h116
        (exact absurd (hR.noinv hy31 (show j < i by omega) hzm hzl hz114 hz41) (by rw [show Hist.before z41 z114 = true from h116];decide))
       intro h116
       refine H_skip ?_
       refine H_blk ?_
       refine H_region (l:=[_,_]) rfl ?_
       refine HO_bin rfl rfl rfl rfl (bin_add ?_ ?_) ?_
       ·omega
       ·omega
       refine HO_move rfl rfl rfl ?_
       refine HO_nil ?_
       refine H_env (ρ':=[(107,_),(0,_),(1,_),(7,_),(32,_),(33,_),(34,_),(8,_),(9,_),(12,_),(105,_),(106,_)]) ⟨rfl,rfl,rfl,rfl,rfl,rfl,rfl,rfl,rfl,rfl,rfl,rfl,trivial⟩ ?_
       refine H_inv (fun a w hf hA => ⟨j + 1,?_,?_,hf.sub ?_,?_⟩)
       ·omega
       ·(try dsimp only);omega
       ·exact ⟨rfl,rfl,rfl,rfl,rfl,rfl,rfl,rfl,rfl,rfl,rfl,rfl,trivial⟩
       ·exact hA.only (is:=[0,1,2,3,4,5,6,7,8]) (Z:=[]) rfl
      intro h108
      replace h108:=dF h108
      refine H_exit rfl ?_
      refine H_blk ?_
      refine H_region (l:=[_,_]) rfl ?_
      refine HO_bin rfl rfl rfl rfl (bin_add ?_ ?_) ?_
      ·omega
      ·omega
      refine HO_move rfl rfl rfl ?_
      refine HO_nil ?_
      refine H_env (ρ':=[(34,_),(0,_),(1,_),(7,_),(32,_),(33,_),(8,_),(9,_)]) ⟨rfl,rfl,rfl,rfl,rfl,rfl,rfl,rfl,trivial⟩ ?_
      refine H_world (kp [yy,yy,yy,yy,yy,yy,nn,nn,nn] [_,_,_,_,_,_] rfl) ?_
      refine H_inv (fun a w hf hA => ⟨⟨i + 1,k,v1,v2⟩,?_,?_,hf.sub ?_,?_⟩)
      ·exact ⟨by dsimp only;omega,hK.1,.next hy31 hzl hz41 (by dsimp only;omega)⟩
      ·(try dsimp only);omega
      ·exact ⟨rfl,rfl,rfl,rfl,rfl,rfl,rfl,rfl,trivial⟩
      ·exact hA.only (is:=[0,1,2,3,4,5]) (Z:=[]) rfl
    intro h88
    refine HA_no (i:=3) bp rfl rfl rfl rfl (by kernel_rfl) rfl (fun _ hA => hA) ?_
    refine HA_no (i:=4) bp rfl rfl rfl rfl (by kernel_rfl) rfl (fun _ hA => hA) ?_
    refine HA_no (i:=5) bp rfl rfl rfl rfl (by kernel_rfl) rfl (fun _ hA => hA) ?_
    refine HA_take (i:=6) bp rfl rfl rfl rfl (by kernel_rfl) rfl (V_pick_f rfl rfl) (fun _ hA => hA) ?_
    refine HA_take (i:=7) bp rfl rfl rfl rfl (by kernel_rfl) rfl (V_move rfl) (fun _ hA => hA) ?_
    refine HA_no (i:=8) bp rfl rfl rfl rfl (by kernel_rfl) rfl (fun _ hA => hA) ?_
    refine HA_no (i:=9) bp rfl rfl rfl rfl (by kernel_rfl) rfl (fun _ hA => hA) ?_
    refine HA_no (i:=10) bp rfl rfl rfl rfl (by kernel_rfl) rfl (fun _ hA => hA) ?_
    refine HA_no (i:=11) bp rfl rfl rfl rfl (by kernel_rfl) rfl (fun _ hA => hA) ?_
    refine HA_no (i:=12) bp rfl rfl rfl rfl (by kernel_rfl) rfl (fun _ hA => hA) ?_
    refine HA_no (i:=13) bp rfl rfl rfl rfl (by kernel_rfl) rfl (fun _ hA => hA) ?_
    refine HA_no (i:=14) bp rfl rfl rfl rfl (by kernel_rfl) rfl (fun _ hA => hA) ?_
    refine HA_no (i:=15) bp rfl rfl rfl rfl (by kernel_rfl) rfl (fun _ hA => hA) ?_
    refine HA_take (i:=16) bp rfl rfl rfl rfl (by kernel_rfl) rfl (V_pick_f rfl rfl) (fun _ hA => hA) ?_
    refine HA_done (by kernel_rfl) ?_
    refine H_env (ρ':=[(102,_),(0,_),(1,_),(7,_),(32,_),(33,_),(34,_),(8,_),(9,_),(10,_),(12,_)]) ⟨rfl,rfl,rfl,rfl,rfl,rfl,rfl,rfl,rfl,rfl,rfl,trivial⟩ ?_
    refine H_world (kp [yy,yy,yy,yy,yy,yy,yy,yy,nn,nn] [_,_,_,_,_,_,_,_] rfl) ?_
    refine H_cond rfl (fun h => nomatch h) (fun _ => ?_)
    refine H_skip ?_
    refine H_seq ?_
    refine H_region (l:=[_,_,_,_,_]) rfl ?_
    iterate 2 refine HO_move rfl rfl rfl ?_
    refine HO_slice_h (i:=2) rfl rfl rfl rfl rfl Try.underlying29 Try.sizeOf3 rfl ?_ ?_
    ·omega
    intro a105 c105
    refine HO_bi rfl rfl rfl (bi_len_sl Try.underlying29) ?_
    refine HO_move rfl rfl rfl ?_
    refine HO_nil ?_
    refine H_env (ρ':=[(107,_),(106,_),(105,_),(0,_),(1,_),(7,_),(32,_),(33,_),(34,_),(8,_),(9,_),(12,_)]) ⟨rfl,rfl,rfl,rfl,rfl,rfl,rfl,rfl,rfl,rfl,rfl,rfl,trivial⟩ ?_
    refine H_block ?_
    refine H_loop (σ:=Nat) (fun s => s≤(y31.1.take i).length) (fun s => [(0,.slice a8 (log.length) c8),(1,.slice a9 (ops.length) c9),(7,.slice y31.2.1 (y31.1.length) y31.2.2),(32,.slice y31.2.1 (y31.1.length) y31.2.2),(33,.int .i64 ((y31.1.length : Int))),(34,.int .i64 ((i : Int))),(8,.pointer (some ⟨g8,0,none⟩)),(9,.int .i64 ((k : Int))),(12,.pointer (some ⟨g12,0,none⟩)),(105,.slice a105 ((y31.1.take i).length) c105),(106,.int .i64 (((y31.1.take i).length : Int))),(107,.int .i64 ((s : Int)))]) (fun s => Asn w0 ok0 M0 [.dat kEnt.sl (log) [.slice a8 (log.length) c8],.dat kOp.sl (ops) [.slice a9 (ops.length) c9],.dat kInt.sl (y31.1) [.slice y31.2.1 (y31.1.length) y31.2.2],.loc g8 [.slice v1.1 (((Hist.state log k).1).length) v1.2,.slice v2.1 (((Hist.state log k).2).length) v2.2] 34,.dat kPair.sl ((Hist.state log k).1) [.slice v1.1 (((Hist.state log k).1).length) v1.2],.dat kSess.sl ((Hist.state log k).2) [.slice v2.1 (((Hist.state log k).2).length) v2.2],.loc g12 [.int .i64 (z41.cmd.kind),.int .i64 (z41.cmd.sess),.int .i64 (z41.cmd.seq),.string (z41.cmd.key),.string (z41.cmd.old),.string (z41.cmd.val),.string (z41.cmd.til),.int .i64 (z41.cmd.lim),.int .i64 (z41.rep.err),.bool (z41.rep.found),.string (z41.rep.val),.int .i64 (z41.rep.sess),.slice y41.1 (z41.rep.pairs.length) y41.2,.int .i64 (z41.start),.int .i64 (z41.stop),.int .i64 (z41.at_),.bool (z41.read)] 40,.dat kPair.sl (z41.rep.pairs) [.slice y41.1 (z41.rep.pairs.length) y41.2],.dat kInt.sl ((y31.1.take i)) [.slice a105 ((y31.1.take i).length) c105]]) (fun s => (y31.1.take i).length - s) 0 ?_ ?_ ?_ ?_
    ·exact Nat.zero_le _
    ·exact ⟨rfl,rfl,rfl,rfl,rfl,rfl,rfl,rfl,rfl,rfl,rfl,rfl,trivial⟩
    ·intro w hA
     exact hA.only (is:=[0,1,2,3,4,5,6,7,0]) (Z:=[]) rfl
    ·intro j hI
     (try dsimp only at hI ⊢)
     refine H_seq ?_
     refine H_region (l:=[_]) rfl ?_
     refine HO_bin rfl rfl rfl rfl bin_lss ?_
     refine HO_nil ?_
     refine H_seq ?_
     refine H_cond rfl ?_ ?_
     ·intro h108
      replace h108:=dT h108
      refine H_skip ?_
      refine H_seq ?_
      refine H_block ?_
      refine H_seq ?_
      refine H_region (l:=[_,_,_]) rfl ?_
      refine HO_indexAddr open_int (i:=8) rfl rfl rfl rfl rfl Try.underlying29 Try.sizeOf3 rfl ?_ ?_
      ·omega
      intro b109 o109 z109 y109 hz109 hI109
      clear y109
      refine HO_load1 (i:=0) (j:=0) rfl rfl rfl Try.isAgg3 rfl (.elem _ _ _) rfl rfl ?_
      refine HO_assign rfl rfl rfl ?_
      refine HO_nil ?_
      refine H_env (ρ':=[(16,_),(0,_),(1,_),(7,_),(32,_),(33,_),(34,_),(8,_),(9,_),(12,_),(105,_),(106,_),(107,_)]) ⟨rfl,rfl,rfl,rfl,rfl,rfl,rfl,rfl,rfl,rfl,rfl,rfl,rfl,trivial⟩ ?_
      refine H_world (kp [nn,yy,yy,yy,yy,yy,yy,yy,yy,yy] [_,_,_,_,_,_,_,_,_] rfl) ?_
      refine H_seq ?_
      have hji : j < i:=by omega
      have hzy : y31.1[j]? = some z109:=by rw [List.getElem?_take,if_pos hji] at hz109;exact hz109
      obtain ⟨m,hm0,hml,zy,hzy2,hat2⟩:=hy31.good hzy
      have hzm:=hzy
      rw [hm0] at hzm
      refine H_drawB (m:=[yy,yy,yy,yy,yy,yy,yy,yy,yy]) (Xs:=[_,_,_,_,_,_,_,_,_]) (fuel:=6) (l:=#[false,false,false,false,false,false]) mixed rfl rfl rfl ?_
      refine HA_take (i:=0) bp rfl rfl rfl rfl (by kernel_rfl) rfl (V_loadA (i:=6) (us:=[]) (cs:=[_,_,_,_,_,_,_,_,_,_,_,_,_,_,_,_,_]) (ts:=[]) rfl Try.isAgg40 Try.sizeOf40 rfl (.loc _ _ _) rfl rfl rfl rfl) (fun _ hA => hA) ?_
      refine HA_take (i:=1) bp rfl rfl rfl rfl (by kernel_rfl) rfl (V_move rfl) (fun _ hA => hA) ?_
      refine HA_take (i:=2) bp rfl rfl rfl rfl (by kernel_rfl) rfl (V_move rfl) (fun _ hA => hA) ?_
      refine HA_loud1 (i:=3) (by kernel_rfl) rfl ?_
      refine HO_indexAddr open_Op (i:=1) (j:=m) rfl rfl rfl rfl ?_ Try.underlying23 Try.sizeOf40 rfl ?_ ?_
      ·omega
      ·omega
      intro b114 o114 z114 y114 hz114 hI114
      (try simp only [BIG] at hI114)
      refine HA_back rfl (kp [nn,nn,yy,yy,yy,yy,yy,yy,yy,yy,yy] [_,_,_,_,_,_,_,_,_] rfl) ?_
      refine HA_loud1 (i:=4) (by kernel_rfl) rfl ?_
      refine HO_loadA (i:=0) (us:=[]) (cs:=[_,_,_,_,_,_,_,_,_,_,_,_,_,_,_,_,_]) (ts:=[]) rfl rfl rfl Try.isAgg40 Try.sizeOf40 rfl (.elem _ _ _) rfl rfl rfl rfl ?_
      refine HA_back rfl (kp [nn,nn,yy,yy,yy,yy,yy,yy,yy,yy,yy] [_,_,_,_,_,_,_,_,_] rfl) ?_
      refine HA_loud1 (i:=5) (by kernel_rfl) rfl ?_
      refine HO_call (first:=[]) (capt:=[]) (is:=[]) (R:=[_,_,_,_,_,_,_,_,_,_,_]) rfl rfl rfl rfl rfl Try.call21 rfl (hbefore_spec _ _ _ _ _ _ _ _ _ _ _ _ _ _ _ _ _ _ _ _ _ _ _ _ _ _ _ _ _ _ _ _ _ _ _ _ _ _) ?_
      intro y116 hy116
      clear y116 hy116
      refine HA_back rfl (kp [nn,nn,yy,yy,yy,yy,yy,yy,yy,yy,yy] [_,_,_,_,_,_,_,_,_] rfl) ?_
      refine HA_done (by kernel_rfl) ?_
      refine H_env (ρ':=[(116,_),(0,_),(1,_),(7,_),(32,_),(33,_),(34,_),(8,_),(9,_),(12,_),(105,_),(106,_),(107,_)]) ⟨rfl,rfl,rfl,rfl,rfl,rfl,rfl,rfl,rfl,rfl,rfl,rfl,rfl,trivial⟩ ?_
      refine H_world (kp [nn,nn,yy,yy,yy,yy,yy,yy,yy,yy,yy] [_,_,_,_,_,_,_,_,_] rfl) ?_
      refine H_cond rfl ?_ ?_
      ·intro h116
       (exact absurd (hR.noinv hy31 (show j < i by omega) hzm hzl hz114 hz41) (by rw [show Hist.before z41 z114 = true from h116];decide))
      intro h116
      refine H_skip ?_
      refine H_blk ?_
      refine H_region (l:=[_,_]) rfl ?_
      refine HO_bin rfl rfl rfl rfl (bin_add ?_ ?_) ?_
      ·omega
      ·omega
      refine HO_move rfl rfl rfl ?_
      refine HO_nil ?_
      refine H_env (ρ':=[(107,_),(0,_),(1,_),(7,_),(32,_),(33,_),(34,_),(8,_),(9,_),(12,_),(105,_),(106,_)]) ⟨rfl,rfl,rfl,rfl,rfl,rfl,rfl,rfl,rfl,rfl,rfl,rfl,trivial⟩ ?_
      refine H_inv (fun a w hf hA => ⟨j + 1,?_,?_,hf.sub ?_,?_⟩)
      ·omega
      ·(try dsimp only);omega
      ·exact ⟨rfl,rfl,rfl,rfl,rfl,rfl,rfl,rfl,rfl,rfl,rfl,rfl,trivial⟩
      ·exact hA.only (is:=[0,1,2,3,4,5,6,7,8]) (Z:=[]) rfl
     intro h108
     replace h108:=dF h108
     refine H_exit rfl ?_
     refine H_blk ?_
     refine H_region (l:=[_,_]) rfl ?_
     refine HO_bin rfl rfl rfl rfl (bin_add ?_ ?_) ?_
     ·omega
     ·omega
     refine HO_move rfl rfl rfl ?_
     refine HO_nil ?_
     refine H_env (ρ':=[(34,_),(0,_),(1,_),(7,_),(32,_),(33,_),(8,_),(9,_)]) ⟨rfl,rfl,rfl,rfl,rfl,rfl,rfl,rfl,trivial⟩ ?_
     refine H_world (kp [yy,yy,yy,yy,yy,yy,nn,nn,nn] [_,_,_,_,_,_] rfl) ?_
     refine H_inv (fun a w hf hA => ⟨⟨i + 1,k,v1,v2⟩,?_,?_,hf.sub ?_,?_⟩)
     ·exact ⟨by dsimp only;omega,hK.1,.next hy31 hzl hz41 (by dsimp only;omega)⟩
     ·(try dsimp only);omega
     ·exact ⟨rfl,rfl,rfl,rfl,rfl,rfl,rfl,rfl,trivial⟩
     ·exact hA.only (is:=[0,1,2,3,4,5]) (Z:=[]) rfl
  intro h35
  replace h35:=dF h35
  refine H_exit rfl ?_
  refine H_seq ?_
  refine H_region (l:=[_,_]) rfl ?_
  refine HO_call (first:=[]) (capt:=[]) (is:=[]) (R:=[_,_,_,_,_,_]) rfl rfl rfl rfl rfl Try.call15 rfl lives22_spec ?_
  intro y119 hy119
  clear y119 hy119
  refine HO_assign rfl rfl rfl ?_
  refine HO_nil ?_
  refine H_env (ρ':=[(4,_)]) ⟨rfl,trivial⟩ ?_
  refine H_world (kp [nn,nn,nn,nn,nn,nn] [] rfl) ?_
  refine H_ret1 Try.results3 (.tmp rfl) (fun w hA => ⟨(),congrArg Ending.returned ?_,?_,?_⟩)
  ·(exact congrArg Value.bool (by first | rfl | assumption | simp_all))
  ·trivial
  ·exact hA.keep (m:=[]) (Y:=[]) rfl
end Go.Wk
