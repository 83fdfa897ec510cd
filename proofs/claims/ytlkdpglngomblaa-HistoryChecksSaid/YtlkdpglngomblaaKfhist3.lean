/- Contracts of the program's functions, each proved by walking its code. -/
import Derived.Test.YtlkdpglngomblaaKfsort3
import Derived.Test.YtlkdpglngomblaaOrd3
set_option maxRecDepth 100000
set_option linter.unusedVariables false
set_option linter.unusedSimpArgs false
namespace Go.Wk.Fhist3
open Go Go.RowKit Go.Proofs Go.Wk
theorem elt3 : Elt Try.prog 3 (.int .i64 (0)) 1 8:=Elt.of (by kernel_rfl) (by rfl) (by decide) (by decide)
end Go.Wk.Fhist3
namespace Go.Wk
open Go Go.RowKit Go.Proofs Fhist3 
theorem rbefore_spec (ki cs sq : Int) (ke ol cv ti : ByteArray) (li er : Int) (fo : Bool) (va : ByteArray) (se : Int) (ps : List Pair) (ap : Option Addr) (cp : Nat) (s0 s1 at_ : Int) (rd : Bool) (ki2 cs2 sq2 : Int) (ke2 ol2 cv2 ti2 : ByteArray) (li2 er2 : Int) (fo2 : Bool) (va2 : ByteArray) (se2 : Int) (ps2 : List Pair) (ap2 : Option Addr) (cp2 : Nat) (s02 s12 at_2 : Int) (rd2 : Bool)  : Spec Try.prog 37 #[.agg #[.int .i64 (ki),.int .i64 (cs),.int .i64 (sq),.string (ke),.string (ol),.string (cv),.string (ti),.int .i64 (li),.int .i64 (er),.bool (fo),.string (va),.int .i64 (se),.slice ap (ps.length) cp,.int .i64 (s0),.int .i64 (s1),.int .i64 (at_),.bool (rd)],.agg #[.int .i64 (ki2),.int .i64 (cs2),.int .i64 (sq2),.string (ke2),.string (ol2),.string (cv2),.string (ti2),.int .i64 (li2),.int .i64 (er2),.bool (fo2),.string (va2),.int .i64 (se2),.slice ap2 (ps2.length) cp2,.int .i64 (s02),.int .i64 (s12),.int .i64 (at_2),.bool (rd2)]] [] (β:=Unit) (fun y => .bool (Hist.before (⟨⟨ki,cs,sq,ke,ol,cv,ti,li⟩,⟨er,fo,va,se,ps⟩,s0,s1,at_,rd⟩ : Op) (⟨⟨ki2,cs2,sq2,ke2,ol2,cv2,ti2,li2⟩,⟨er2,fo2,va2,se2,ps2⟩,s02,s12,at_2,rd2⟩ : Op))) (fun y => True) (fun y => []):=by
 refine Spec.enter (vs:=[_,_]) Try.func37 rfl Try.ntmps37 rfl (Nat.le_of_ble_eq_true rfl) (fun w0 ok0 => ?_)
 generalize hM0 : blks _ = M0
 have hMn:=@noM _ _ hM0 (by simp [Atom.dat,Atom.elem])
 refine H_seq ?_
 refine H_region (l:=[_,_,_]) rfl ?_
 refine HO_box (cs:=[_,_,_,_,_,_,_,_,_,_,_,_,_,_,_,_,_]) rfl rfl rfl rfl ?_
 intro g2
 refine HO_box (cs:=[_,_,_,_,_,_,_,_,_,_,_,_,_,_,_,_,_]) rfl rfl rfl rfl ?_
 intro g3
 refine HO_assign rfl rfl rfl ?_
 refine HO_nil ?_
 refine H_env (ρ':=[(3,_),(2,_)]) ⟨rfl,rfl,trivial⟩ ?_
 refine H_seq ?_
 refine H_region (l:=[_,_,_,_,_,_,_,_,_,_,_]) rfl ?_
 refine HO_fieldAddr (r:=14) rfl rfl rfl Try.underlying85 rfl Try.sizeOf3 rfl ?_
 refine HO_load1 (i:=1) (j:=14) rfl rfl rfl Try.isAgg3 rfl (.loc _ _ _) rfl rfl ?_
 refine HO_bin rfl rfl rfl rfl bin_gtr ?_
 refine HO_move rfl rfl rfl ?_
 refine HO_split (d:=8) rfl ?_ ?_
 ·intro h8
  replace h8:=dT h8
  refine HO_fieldAddr (r:=14) rfl rfl rfl Try.underlying85 rfl Try.sizeOf3 rfl ?_
  refine HO_load1 (i:=1) (j:=14) rfl rfl rfl Try.isAgg3 rfl (.loc _ _ _) rfl rfl ?_
  refine HO_fieldAddr (r:=13) rfl rfl rfl Try.underlying85 rfl Try.sizeOf3 rfl ?_
  refine HO_load1 (i:=0) (j:=13) rfl rfl rfl Try.isAgg3 rfl (.loc _ _ _) rfl rfl ?_
  refine HO_bin rfl rfl rfl rfl bin_lss ?_
  refine HO_pick_t rfl rfl rfl rfl ?_
  refine HO_assign rfl rfl rfl ?_
  refine HO_nil ?_
  refine H_env (ρ':=[(4,_)]) ⟨rfl,trivial⟩ ?_
  refine H_world (kp [nn,nn] [] rfl) ?_
  refine H_ret1 Try.results37 (.tmp rfl) (fun w hA => ⟨(),congrArg Ending.returned ?_,?_,?_⟩)
  ·(exact congrArg Value.bool (by first | (simp [Hist.before, *];done) | (simp_all [Hist.before];done)))
  ·trivial
  ·exact hA.keep (m:=[]) (Y:=[]) rfl
 intro h8
 replace h8:=dF h8
 iterate 5 refine HO_no rfl rfl rfl ?_
 refine HO_pick_f rfl rfl rfl rfl ?_
 refine HO_assign rfl rfl rfl ?_
 refine HO_nil ?_
 refine H_env (ρ':=[(4,_)]) ⟨rfl,trivial⟩ ?_
 refine H_world (kp [nn,nn] [] rfl) ?_
 refine H_ret1 Try.results37 (.tmp rfl) (fun w hA => ⟨(),congrArg Ending.returned ?_,?_,?_⟩)
 ·(exact congrArg Value.bool (by first | (simp [Hist.before, *];done) | (simp_all [Hist.before];done)))
 ·trivial
 ·exact hA.keep (m:=[]) (Y:=[]) rfl
theorem rahead_spec (ki cs sq : Int) (ke ol cv ti : ByteArray) (li er : Int) (fo : Bool) (va : ByteArray) (se : Int) (ps : List Pair) (ap : Option Addr) (cp : Nat) (s0 s1 at_ : Int) (rd : Bool) (ki2 cs2 sq2 : Int) (ke2 ol2 cv2 ti2 : ByteArray) (li2 er2 : Int) (fo2 : Bool) (va2 : ByteArray) (se2 : Int) (ps2 : List Pair) (ap2 : Option Addr) (cp2 : Nat) (s02 s12 at_2 : Int) (rd2 : Bool)  : Spec Try.prog 71 #[.agg #[.int .i64 (ki),.int .i64 (cs),.int .i64 (sq),.string (ke),.string (ol),.string (cv),.string (ti),.int .i64 (li),.int .i64 (er),.bool (fo),.string (va),.int .i64 (se),.slice ap (ps.length) cp,.int .i64 (s0),.int .i64 (s1),.int .i64 (at_),.bool (rd)],.agg #[.int .i64 (ki2),.int .i64 (cs2),.int .i64 (sq2),.string (ke2),.string (ol2),.string (cv2),.string (ti2),.int .i64 (li2),.int .i64 (er2),.bool (fo2),.string (va2),.int .i64 (se2),.slice ap2 (ps2.length) cp2,.int .i64 (s02),.int .i64 (s12),.int .i64 (at_2),.bool (rd2)]] [] (β:=Unit) (fun y => .bool (Hist.ahead (⟨⟨ki,cs,sq,ke,ol,cv,ti,li⟩,⟨er,fo,va,se,ps⟩,s0,s1,at_,rd⟩ : Op) (⟨⟨ki2,cs2,sq2,ke2,ol2,cv2,ti2,li2⟩,⟨er2,fo2,va2,se2,ps2⟩,s02,s12,at_2,rd2⟩ : Op))) (fun y => True) (fun y => []):=by
 refine Spec.enter (vs:=[_,_]) Try.func71 rfl Try.ntmps71 rfl (Nat.le_of_ble_eq_true rfl) (fun w0 ok0 => ?_)
 generalize hM0 : blks _ = M0
 have hMn:=@noM _ _ hM0 (by simp [Atom.dat,Atom.elem])
 refine H_seq ?_
 refine H_region (l:=[_,_,_]) rfl ?_
 refine HO_box (cs:=[_,_,_,_,_,_,_,_,_,_,_,_,_,_,_,_,_]) rfl rfl rfl rfl ?_
 intro g2
 refine HO_box (cs:=[_,_,_,_,_,_,_,_,_,_,_,_,_,_,_,_,_]) rfl rfl rfl rfl ?_
 intro g3
 refine HO_assign rfl rfl rfl ?_
 refine HO_nil ?_
 refine H_env (ρ':=[(3,_),(2,_)]) ⟨rfl,rfl,trivial⟩ ?_
 refine H_seq ?_
 refine H_seq ?_
 refine H_region (l:=[_,_,_,_,_]) rfl ?_
 refine HO_fieldAddr (r:=15) rfl rfl rfl Try.underlying85 rfl Try.sizeOf3 rfl ?_
 refine HO_load1 (i:=1) (j:=15) rfl rfl rfl Try.isAgg3 rfl (.loc _ _ _) rfl rfl ?_
 refine HO_fieldAddr (r:=15) rfl rfl rfl Try.underlying85 rfl Try.sizeOf3 rfl ?_
 refine HO_load1 (i:=0) (j:=15) rfl rfl rfl Try.isAgg3 rfl (.loc _ _ _) rfl rfl ?_
 refine HO_bin rfl rfl rfl rfl bin_neq ?_
 refine HO_nil ?_
 refine H_env (ρ':=[(9,_),(3,_),(2,_)]) ⟨rfl,rfl,rfl,trivial⟩ ?_
 refine H_cond rfl ?_ ?_
 ·intro h9
  replace h9:=dT h9
  refine H_seq ?_
  refine H_region (l:=[_,_,_,_,_,_]) rfl ?_
  refine HO_fieldAddr (r:=15) rfl rfl rfl Try.underlying85 rfl Try.sizeOf3 rfl ?_
  refine HO_load1 (i:=1) (j:=15) rfl rfl rfl Try.isAgg3 rfl (.loc _ _ _) rfl rfl ?_
  refine HO_fieldAddr (r:=15) rfl rfl rfl Try.underlying85 rfl Try.sizeOf3 rfl ?_
  refine HO_load1 (i:=0) (j:=15) rfl rfl rfl Try.isAgg3 rfl (.loc _ _ _) rfl rfl ?_
  refine HO_bin rfl rfl rfl rfl bin_lss ?_
  refine HO_assign rfl rfl rfl ?_
  refine HO_nil ?_
  refine H_env (ρ':=[(4,_)]) ⟨rfl,trivial⟩ ?_
  refine H_world (kp [nn,nn] [] rfl) ?_
  refine H_ret1 Try.results71 (.tmp rfl) (fun w hA => ⟨(),congrArg Ending.returned ?_,?_,?_⟩)
  ·(exact congrArg Value.bool (Hist.ahead_1 (x:=(⟨⟨ki,cs,sq,ke,ol,cv,ti,li⟩,⟨er,fo,va,se,ps⟩,s0,s1,at_,rd⟩ : Op)) (y:=(⟨⟨ki2,cs2,sq2,ke2,ol2,cv2,ti2,li2⟩,⟨er2,fo2,va2,se2,ps2⟩,s02,s12,at_2,rd2⟩ : Op)) h9))
  ·trivial
  ·exact hA.keep (m:=[]) (Y:=[]) rfl
 intro h9
 replace h9:=dF h9
 refine H_skip ?_
 refine H_seq ?_
 refine H_seq ?_
 refine H_region (l:=[_,_,_,_,_]) rfl ?_
 refine HO_fieldAddr (r:=16) rfl rfl rfl Try.underlying85 rfl Try.sizeOf4 rfl ?_
 refine HO_load1 (i:=1) (j:=16) rfl rfl rfl Try.isAgg4 rfl (.loc _ _ _) rfl rfl ?_
 refine HO_fieldAddr (r:=16) rfl rfl rfl Try.underlying85 rfl Try.sizeOf4 rfl ?_
 refine HO_load1 (i:=0) (j:=16) rfl rfl rfl Try.isAgg4 rfl (.loc _ _ _) rfl rfl ?_
 refine HO_bin rfl rfl rfl rfl (bin_neb Try.runUnderlying4) ?_
 refine HO_nil ?_
 refine H_env (ρ':=[(19,_),(3,_),(2,_)]) ⟨rfl,rfl,rfl,trivial⟩ ?_
 refine H_cond rfl ?_ ?_
 ·intro h19
  (try simp only [decide_eq_true_eq,decide_eq_false_iff_not,Bool.not_eq_true',Bool.not_eq_false',Bool.not_eq_true,Bool.not_eq_false,Bool.true_eq_false,Bool.false_eq_true,not_false_eq_true,not_true_eq_false] at h19)
  refine H_seq ?_
  refine H_region (l:=[_,_,_]) rfl ?_
  refine HO_fieldAddr (r:=16) rfl rfl rfl Try.underlying85 rfl Try.sizeOf4 rfl ?_
  refine HO_load1 (i:=0) (j:=16) rfl rfl rfl Try.isAgg4 rfl (.loc _ _ _) rfl rfl ?_
  refine HO_assign rfl rfl rfl ?_
  refine HO_nil ?_
  refine H_env (ρ':=[(4,_)]) ⟨rfl,trivial⟩ ?_
  refine H_world (kp [nn,nn] [] rfl) ?_
  refine H_ret1 Try.results71 (.tmp rfl) (fun w hA => ⟨(),congrArg Ending.returned ?_,?_,?_⟩)
  ·(exact congrArg Value.bool (Hist.ahead_2 (x:=(⟨⟨ki,cs,sq,ke,ol,cv,ti,li⟩,⟨er,fo,va,se,ps⟩,s0,s1,at_,rd⟩ : Op)) (y:=(⟨⟨ki2,cs2,sq2,ke2,ol2,cv2,ti2,li2⟩,⟨er2,fo2,va2,se2,ps2⟩,s02,s12,at_2,rd2⟩ : Op)) (Decidable.not_not.1 h9) h19))
  ·trivial
  ·exact hA.keep (m:=[]) (Y:=[]) rfl
 intro h19
 (try simp only [decide_eq_true_eq,decide_eq_false_iff_not,Bool.not_eq_true',Bool.not_eq_false',Bool.not_eq_true,Bool.not_eq_false,Bool.true_eq_false,Bool.false_eq_true,not_false_eq_true,not_true_eq_false] at h19)
 refine H_skip ?_
 refine H_seq ?_
 refine H_region (l:=[_,_,_,_,_,_]) rfl ?_
 refine HO_fieldAddr (r:=13) rfl rfl rfl Try.underlying85 rfl Try.sizeOf3 rfl ?_
 refine HO_load1 (i:=1) (j:=13) rfl rfl rfl Try.isAgg3 rfl (.loc _ _ _) rfl rfl ?_
 refine HO_fieldAddr (r:=13) rfl rfl rfl Try.underlying85 rfl Try.sizeOf3 rfl ?_
 refine HO_load1 (i:=0) (j:=13) rfl rfl rfl Try.isAgg3 rfl (.loc _ _ _) rfl rfl ?_
 refine HO_bin rfl rfl rfl rfl bin_lss ?_
 refine HO_assign rfl rfl rfl ?_
 refine HO_nil ?_
 refine H_env (ρ':=[(4,_)]) ⟨rfl,trivial⟩ ?_
 refine H_world (kp [nn,nn] [] rfl) ?_
 refine H_ret1 Try.results71 (.tmp rfl) (fun w hA => ⟨(),congrArg Ending.returned ?_,?_,?_⟩)
 ·(exact congrArg Value.bool (Hist.ahead_3 (x:=(⟨⟨ki,cs,sq,ke,ol,cv,ti,li⟩,⟨er,fo,va,se,ps⟩,s0,s1,at_,rd⟩ : Op)) (y:=(⟨⟨ki2,cs2,sq2,ke2,ol2,cv2,ti2,li2⟩,⟨er2,fo2,va2,se2,ps2⟩,s02,s12,at_2,rd2⟩ : Op)) (Decidable.not_not.1 h9) h19))
 ·trivial
 ·exact hA.keep (m:=[]) (Y:=[]) rfl
theorem hints_spec (l l2 : List Int) (a : Option Addr) (c : Nat) (a2 : Option Addr) (c2 : Nat)  : Spec Try.prog 38 #[.slice a (l.length) c,.slice a2 (l2.length) c2] [.dat kInt.sl (l) [.slice a (l.length) c],.dat kInt.sl (l2) [.slice a2 (l2.length) c2]] (β:=Unit) (fun y => .bool (decide (l = l2))) (fun y => True) (fun y => []):=by
 refine Spec.enter (vs:=[_,_]) Try.func38 rfl Try.ntmps38 rfl (Nat.le_of_ble_eq_true rfl) (fun w0 ok0 => ?_)
 generalize hM0 : blks _ = M0
 have hMn:=@noM _ _ hM0 (by simp [Atom.dat,Atom.elem])
 refine H_len_le (i:=0) rfl ?_
 intro hlen0
 refine H_len_le (i:=1) rfl ?_
 intro hlen1
 refine H_seq ?_
 refine H_region (l:=[_]) rfl ?_
 refine HO_assign rfl rfl rfl ?_
 refine HO_nil ?_
 refine H_env (ρ':=[(0,_),(1,_)]) ⟨rfl,rfl,trivial⟩ ?_
 refine H_seq ?_
 refine H_seq ?_
 refine H_region (l:=[_,_,_,_,_]) rfl ?_
 refine HO_move rfl rfl rfl ?_
 refine HO_bi rfl rfl rfl (bi_len_sl Try.underlying29) ?_
 refine HO_move rfl rfl rfl ?_
 refine HO_bi rfl rfl rfl (bi_len_sl Try.underlying29) ?_
 refine HO_bin rfl rfl rfl rfl bin_neq ?_
 refine HO_nil ?_
 refine H_env (ρ':=[(10,_),(0,_),(1,_)]) ⟨rfl,rfl,rfl,trivial⟩ ?_
 refine H_cond rfl ?_ ?_
 ·intro h10
  replace h10:=dT h10
  refine H_seq ?_
  refine H_region (l:=[_]) rfl ?_
  refine HO_assign rfl rfl rfl ?_
  refine HO_nil ?_
  refine H_env (ρ':=[(4,_)]) ⟨rfl,trivial⟩ ?_
  refine H_world (kp [nn,nn] [] rfl) ?_
  refine H_ret1 Try.results38 (.tmp rfl) (fun w hA => ⟨(),congrArg Ending.returned ?_,?_,?_⟩)
  ·(first | exact congrArg Value.bool (Ent.same_no hz18 hz22 h24).symm | exact congrArg Value.bool (Ent.same_yes hl hI).symm | exact congrArg Value.bool (Ent.same_len h10).symm)
  ·trivial
  ·exact hA.keep (m:=[]) (Y:=[]) rfl
 intro h10
 replace h10:=dF h10
 have hl : l.length = l2.length:=by omega
 refine H_skip ?_
 refine H_seq ?_
 refine H_seq ?_
 refine H_region (l:=[_,_,_]) rfl ?_
 refine HO_move rfl rfl rfl ?_
 refine HO_bi rfl rfl rfl (bi_len_sl Try.underlying29) ?_
 refine HO_move rfl rfl rfl ?_
 refine HO_nil ?_
 refine H_env (ρ':=[(13,_),(12,_),(0,_),(1,_)]) ⟨rfl,rfl,rfl,rfl,trivial⟩ ?_
 refine H_block ?_
 refine H_loop (σ:=Nat) (fun s => s≤l.length∧l.take s = l2.take s) (fun s => [(0,.slice a (l.length) c),(1,.slice a2 (l2.length) c2),(12,.int .i64 ((l.length : Int))),(13,.int .i64 ((s : Int)))]) (fun s => Asn w0 ok0 M0 [.dat kInt.sl (l) [.slice a (l.length) c],.dat kInt.sl (l2) [.slice a2 (l2.length) c2]]) (fun s => l.length - s) 0 ?_ ?_ ?_ ?_
 ·exact ⟨Nat.zero_le _,by simp⟩
 ·exact ⟨rfl,rfl,rfl,rfl,trivial⟩
 ·intro w hA
  exact hA.only (is:=[0,1]) (Z:=[]) rfl
 ·intro i hI
  (try dsimp only at hI ⊢)
  refine H_seq ?_
  refine H_region (l:=[_]) rfl ?_
  refine HO_bin rfl rfl rfl rfl bin_lss ?_
  refine HO_nil ?_
  refine H_seq ?_
  refine H_cond rfl ?_ ?_
  ·intro h14
   replace h14:=dT h14
   refine H_skip ?_
   refine H_seq ?_
   refine H_block ?_
   refine H_seq ?_
   refine H_region (l:=[_,_]) rfl ?_
   refine HO_move rfl rfl rfl ?_
   refine HO_assign rfl rfl rfl ?_
   refine HO_nil ?_
   refine H_env (ρ':=[(5,_),(0,_),(1,_),(12,_),(13,_)]) ⟨rfl,rfl,rfl,rfl,rfl,trivial⟩ ?_
   refine H_seq ?_
   refine H_drawB (m:=[yy,yy]) (Xs:=[_,_]) (fuel:=9) (l:=#[false,false,false,false,false,false,false,false,false]) mixed rfl rfl rfl ?_
   refine HA_take (i:=0) bp rfl rfl rfl rfl (by kernel_rfl) rfl (V_move rfl) (fun _ hA => hA) ?_
   refine HA_take (i:=1) bp rfl rfl rfl rfl (by kernel_rfl) rfl (V_move rfl) (fun _ hA => hA) ?_
   refine HA_take (i:=4) bp rfl rfl rfl rfl (by kernel_rfl) rfl (V_move rfl) (fun _ hA => hA) ?_
   refine HA_take (i:=5) bp rfl rfl rfl rfl (by kernel_rfl) rfl (V_move rfl) (fun _ hA => hA) ?_
   refine HA_loud2 (i:=2) (j:=6) (by kernel_rfl) rfl rfl ?_ ?_
   ·refine HO_indexAddr open_int (i:=0) rfl rfl rfl rfl rfl Try.underlying29 Try.sizeOf3 rfl ?_ ?_
    ·omega
    intro b18 o18 z18 y18 hz18 hI18
    clear y18
    refine HA_back rfl (kp [nn,yy,yy] [_,_] rfl) ?_
    refine HA_loud2 (i:=3) (j:=6) (by kernel_rfl) rfl rfl ?_ ?_
    ·refine HO_load1 (i:=0) (j:=0) rfl rfl rfl Try.isAgg3 rfl (.elem _ _ _) rfl rfl ?_
     refine HA_back rfl (kp [nn,yy,yy] [_,_] rfl) ?_
     refine HA_loud1 (i:=6) (by kernel_rfl) rfl ?_
     refine HO_indexAddr open_int (i:=2) rfl rfl rfl rfl rfl Try.underlying29 Try.sizeOf3 rfl ?_ ?_
     ·omega
     intro b22 o22 z22 y22 hz22 hI22
     clear y22
     refine HA_back rfl (kp [nn,nn,yy,yy] [_,_] rfl) ?_
     refine HA_loud1 (i:=7) (by kernel_rfl) rfl ?_
     refine HO_load1 (i:=0) (j:=0) rfl rfl rfl Try.isAgg3 rfl (.elem _ _ _) rfl rfl ?_
     refine HA_back rfl (kp [nn,nn,yy,yy] [_,_] rfl) ?_
     refine HA_take (i:=8) bp rfl rfl rfl rfl (by kernel_rfl) rfl (V_bin rfl rfl bin_neq) (kp [nn,nn,yy,yy] [_,_] rfl) ?_
     refine HA_done (by kernel_rfl) ?_
     refine H_env (ρ':=[(24,_),(0,_),(1,_),(12,_),(13,_)]) ⟨rfl,rfl,rfl,rfl,rfl,trivial⟩ ?_
     refine H_world (kp [nn,nn,yy,yy] [_,_] rfl) ?_
     refine H_cond rfl ?_ ?_
     ·intro h24
      replace h24:=dT h24
      refine H_seq ?_
      refine H_region (l:=[_]) rfl ?_
      refine HO_assign rfl rfl rfl ?_
      refine HO_nil ?_
      refine H_env (ρ':=[(4,_)]) ⟨rfl,trivial⟩ ?_
      refine H_world (kp [nn,nn] [] rfl) ?_
      refine H_ret1 Try.results38 (.tmp rfl) (fun w hA => ⟨(),congrArg Ending.returned ?_,?_,?_⟩)
      ·(first | exact congrArg Value.bool (Ent.same_no hz18 hz22 h24).symm | exact congrArg Value.bool (Ent.same_yes hl hI).symm | exact congrArg Value.bool (Ent.same_len h10).symm)
      ·trivial
      ·exact hA.keep (m:=[]) (Y:=[]) rfl
     intro h24
     replace h24:=dF h24
     refine H_skip ?_
     refine H_blk ?_
     refine H_region (l:=[_,_]) rfl ?_
     refine HO_bin rfl rfl rfl rfl (bin_add ?_ ?_) ?_
     ·omega
     ·omega
     refine HO_move rfl rfl rfl ?_
     refine HO_nil ?_
     refine H_env (ρ':=[(13,_),(0,_),(1,_),(12,_)]) ⟨rfl,rfl,rfl,rfl,trivial⟩ ?_
     refine H_inv (fun a w hf hA => ⟨i + 1,?_,?_,hf.sub ?_,?_⟩)
     ·exact ⟨by omega,Ent.same_next hz18 hz22 hI.2 (Decidable.not_not.1 h24)⟩
     ·(try dsimp only);omega
     ·exact ⟨rfl,rfl,rfl,rfl,trivial⟩
     ·exact hA.only (is:=[0,1]) (Z:=[]) rfl
    ·refine HO_indexAddr open_int (i:=2) rfl rfl rfl rfl rfl Try.underlying29 Try.sizeOf3 rfl ?_ ?_
     ·omega
     intro b22 o22 z22 y22 hz22 hI22
     clear y22
     refine HA_back rfl (kp [nn,nn,yy,yy] [_,_] rfl) ?_
     refine HA_loud2 (i:=3) (j:=7) (by kernel_rfl) rfl rfl ?_ ?_
     ·refine HO_load1 (i:=1) (j:=0) rfl rfl rfl Try.isAgg3 rfl (.elem _ _ _) rfl rfl ?_
      refine HA_back rfl (kp [nn,nn,yy,yy] [_,_] rfl) ?_
      refine HA_loud1 (i:=7) (by kernel_rfl) rfl ?_
      refine HO_load1 (i:=0) (j:=0) rfl rfl rfl Try.isAgg3 rfl (.elem _ _ _) rfl rfl ?_
      refine HA_back rfl (kp [nn,nn,yy,yy] [_,_] rfl) ?_
      refine HA_take (i:=8) bp rfl rfl rfl rfl (by kernel_rfl) rfl (V_bin rfl rfl bin_neq) (kp [nn,nn,yy,yy] [_,_] rfl) ?_
      refine HA_done (by kernel_rfl) ?_
      refine H_env (ρ':=[(24,_),(0,_),(1,_),(12,_),(13,_)]) ⟨rfl,rfl,rfl,rfl,rfl,trivial⟩ ?_
      refine H_world (kp [nn,nn,yy,yy] [_,_] rfl) ?_
      refine H_cond rfl ?_ ?_
      ·intro h24
       replace h24:=dT h24
       refine H_seq ?_
       refine H_region (l:=[_]) rfl ?_
       refine HO_assign rfl rfl rfl ?_
       refine HO_nil ?_
       refine H_env (ρ':=[(4,_)]) ⟨rfl,trivial⟩ ?_
       refine H_world (kp [nn,nn] [] rfl) ?_
       refine H_ret1 Try.results38 (.tmp rfl) (fun w hA => ⟨(),congrArg Ending.returned ?_,?_,?_⟩)
       ·(first | exact congrArg Value.bool (Ent.same_no hz18 hz22 h24).symm | exact congrArg Value.bool (Ent.same_yes hl hI).symm | exact congrArg Value.bool (Ent.same_len h10).symm)
       ·trivial
       ·exact hA.keep (m:=[]) (Y:=[]) rfl
      intro h24
      replace h24:=dF h24
      refine H_skip ?_
      refine H_blk ?_
      refine H_region (l:=[_,_]) rfl ?_
      refine HO_bin rfl rfl rfl rfl (bin_add ?_ ?_) ?_
      ·omega
      ·omega
      refine HO_move rfl rfl rfl ?_
      refine HO_nil ?_
      refine H_env (ρ':=[(13,_),(0,_),(1,_),(12,_)]) ⟨rfl,rfl,rfl,rfl,trivial⟩ ?_
      refine H_inv (fun a w hf hA => ⟨i + 1,?_,?_,hf.sub ?_,?_⟩)
      ·exact ⟨by omega,Ent.same_next hz18 hz22 hI.2 (Decidable.not_not.1 h24)⟩
      ·(try dsimp only);omega
      ·exact ⟨rfl,rfl,rfl,rfl,trivial⟩
      ·exact hA.only (is:=[0,1]) (Z:=[]) rfl
     ·refine HO_load1 (i:=0) (j:=0) rfl rfl rfl Try.isAgg3 rfl (.elem _ _ _) rfl rfl ?_
      refine HA_back rfl (kp [nn,nn,yy,yy] [_,_] rfl) ?_
      refine HA_loud1 (i:=3) (by kernel_rfl) rfl ?_
      refine HO_load1 (i:=1) (j:=0) rfl rfl rfl Try.isAgg3 rfl (.elem _ _ _) rfl rfl ?_
      refine HA_back rfl (kp [nn,nn,yy,yy] [_,_] rfl) ?_
      refine HA_take (i:=8) bp rfl rfl rfl rfl (by kernel_rfl) rfl (V_bin rfl rfl bin_neq) (kp [nn,nn,yy,yy] [_,_] rfl) ?_
      refine HA_done (by kernel_rfl) ?_
      refine H_env (ρ':=[(24,_),(0,_),(1,_),(12,_),(13,_)]) ⟨rfl,rfl,rfl,rfl,rfl,trivial⟩ ?_
      refine H_world (kp [nn,nn,yy,yy] [_,_] rfl) ?_
      refine H_cond rfl ?_ ?_
      ·intro h24
       replace h24:=dT h24
       refine H_seq ?_
       refine H_region (l:=[_]) rfl ?_
       refine HO_assign rfl rfl rfl ?_
       refine HO_nil ?_
       refine H_env (ρ':=[(4,_)]) ⟨rfl,trivial⟩ ?_
       refine H_world (kp [nn,nn] [] rfl) ?_
       refine H_ret1 Try.results38 (.tmp rfl) (fun w hA => ⟨(),congrArg Ending.returned ?_,?_,?_⟩)
       ·(first | exact congrArg Value.bool (Ent.same_no hz18 hz22 h24).symm | exact congrArg Value.bool (Ent.same_yes hl hI).symm | exact congrArg Value.bool (Ent.same_len h10).symm)
       ·trivial
       ·exact hA.keep (m:=[]) (Y:=[]) rfl
      intro h24
      replace h24:=dF h24
      refine H_skip ?_
      refine H_blk ?_
      refine H_region (l:=[_,_]) rfl ?_
      refine HO_bin rfl rfl rfl rfl (bin_add ?_ ?_) ?_
      ·omega
      ·omega
      refine HO_move rfl rfl rfl ?_
      refine HO_nil ?_
      refine H_env (ρ':=[(13,_),(0,_),(1,_),(12,_)]) ⟨rfl,rfl,rfl,rfl,trivial⟩ ?_
      refine H_inv (fun a w hf hA => ⟨i + 1,?_,?_,hf.sub ?_,?_⟩)
      ·exact ⟨by omega,Ent.same_next hz18 hz22 hI.2 (Decidable.not_not.1 h24)⟩
      ·(try dsimp only);omega
      ·exact ⟨rfl,rfl,rfl,rfl,trivial⟩
      ·exact hA.only (is:=[0,1]) (Z:=[]) rfl
   ·refine HO_indexAddr open_int (i:=1) rfl rfl rfl rfl rfl Try.underlying29 Try.sizeOf3 rfl ?_ ?_
    ·omega
    intro b22 o22 z22 y22 hz22 hI22
    clear y22
    refine HA_back rfl (kp [nn,yy,yy] [_,_] rfl) ?_
    refine HA_loud2 (i:=2) (j:=7) (by kernel_rfl) rfl rfl ?_ ?_
    ·refine HO_indexAddr open_int (i:=1) rfl rfl rfl rfl rfl Try.underlying29 Try.sizeOf3 rfl ?_ ?_
     ·omega
     intro b18 o18 z18 y18 hz18 hI18
     clear y18
     refine HA_back rfl (kp [nn,nn,yy,yy] [_,_] rfl) ?_
     refine HA_loud2 (i:=3) (j:=7) (by kernel_rfl) rfl rfl ?_ ?_
     ·refine HO_load1 (i:=0) (j:=0) rfl rfl rfl Try.isAgg3 rfl (.elem _ _ _) rfl rfl ?_
      refine HA_back rfl (kp [nn,nn,yy,yy] [_,_] rfl) ?_
      refine HA_loud1 (i:=7) (by kernel_rfl) rfl ?_
      refine HO_load1 (i:=1) (j:=0) rfl rfl rfl Try.isAgg3 rfl (.elem _ _ _) rfl rfl ?_
      refine HA_back rfl (kp [nn,nn,yy,yy] [_,_] rfl) ?_
      refine HA_take (i:=8) bp rfl rfl rfl rfl (by kernel_rfl) rfl (V_bin rfl rfl bin_neq) (kp [nn,nn,yy,yy] [_,_] rfl) ?_
      refine HA_done (by kernel_rfl) ?_
      refine H_env (ρ':=[(24,_),(0,_),(1,_),(12,_),(13,_)]) ⟨rfl,rfl,rfl,rfl,rfl,trivial⟩ ?_
      refine H_world (kp [nn,nn,yy,yy] [_,_] rfl) ?_
      refine H_cond rfl ?_ ?_
      ·intro h24
       replace h24:=dT h24
       refine H_seq ?_
       refine H_region (l:=[_]) rfl ?_
       refine HO_assign rfl rfl rfl ?_
       refine HO_nil ?_
       refine H_env (ρ':=[(4,_)]) ⟨rfl,trivial⟩ ?_
       refine H_world (kp [nn,nn] [] rfl) ?_
       refine H_ret1 Try.results38 (.tmp rfl) (fun w hA => ⟨(),congrArg Ending.returned ?_,?_,?_⟩)
       ·(first | exact congrArg Value.bool (Ent.same_no hz18 hz22 h24).symm | exact congrArg Value.bool (Ent.same_yes hl hI).symm | exact congrArg Value.bool (Ent.same_len h10).symm)
       ·trivial
       ·exact hA.keep (m:=[]) (Y:=[]) rfl
      intro h24
      replace h24:=dF h24
      refine H_skip ?_
      refine H_blk ?_
      refine H_region (l:=[_,_]) rfl ?_
      refine HO_bin rfl rfl rfl rfl (bin_add ?_ ?_) ?_
      ·omega
      ·omega
      refine HO_move rfl rfl rfl ?_
      refine HO_nil ?_
      refine H_env (ρ':=[(13,_),(0,_),(1,_),(12,_)]) ⟨rfl,rfl,rfl,rfl,trivial⟩ ?_
      refine H_inv (fun a w hf hA => ⟨i + 1,?_,?_,hf.sub ?_,?_⟩)
      ·exact ⟨by omega,Ent.same_next hz18 hz22 hI.2 (Decidable.not_not.1 h24)⟩
      ·(try dsimp only);omega
      ·exact ⟨rfl,rfl,rfl,rfl,trivial⟩
      ·exact hA.only (is:=[0,1]) (Z:=[]) rfl
     ·refine HO_load1 (i:=1) (j:=0) rfl rfl rfl Try.isAgg3 rfl (.elem _ _ _) rfl rfl ?_
      refine HA_back rfl (kp [nn,nn,yy,yy] [_,_] rfl) ?_
      refine HA_loud1 (i:=3) (by kernel_rfl) rfl ?_
      refine HO_load1 (i:=0) (j:=0) rfl rfl rfl Try.isAgg3 rfl (.elem _ _ _) rfl rfl ?_
      refine HA_back rfl (kp [nn,nn,yy,yy] [_,_] rfl) ?_
      refine HA_take (i:=8) bp rfl rfl rfl rfl (by kernel_rfl) rfl (V_bin rfl rfl bin_neq) (kp [nn,nn,yy,yy] [_,_] rfl) ?_
      refine HA_done (by kernel_rfl) ?_
      refine H_env (ρ':=[(24,_),(0,_),(1,_),(12,_),(13,_)]) ⟨rfl,rfl,rfl,rfl,rfl,trivial⟩ ?_
      refine H_world (kp [nn,nn,yy,yy] [_,_] rfl) ?_
      refine H_cond rfl ?_ ?_
      ·intro h24
       replace h24:=dT h24
       refine H_seq ?_
       refine H_region (l:=[_]) rfl ?_
       refine HO_assign rfl rfl rfl ?_
       refine HO_nil ?_
       refine H_env (ρ':=[(4,_)]) ⟨rfl,trivial⟩ ?_
       refine H_world (kp [nn,nn] [] rfl) ?_
       refine H_ret1 Try.results38 (.tmp rfl) (fun w hA => ⟨(),congrArg Ending.returned ?_,?_,?_⟩)
       ·(first | exact congrArg Value.bool (Ent.same_no hz18 hz22 h24).symm | exact congrArg Value.bool (Ent.same_yes hl hI).symm | exact congrArg Value.bool (Ent.same_len h10).symm)
       ·trivial
       ·exact hA.keep (m:=[]) (Y:=[]) rfl
      intro h24
      replace h24:=dF h24
      refine H_skip ?_
      refine H_blk ?_
      refine H_region (l:=[_,_]) rfl ?_
      refine HO_bin rfl rfl rfl rfl (bin_add ?_ ?_) ?_
      ·omega
      ·omega
      refine HO_move rfl rfl rfl ?_
      refine HO_nil ?_
      refine H_env (ρ':=[(13,_),(0,_),(1,_),(12,_)]) ⟨rfl,rfl,rfl,rfl,trivial⟩ ?_
      refine H_inv (fun a w hf hA => ⟨i + 1,?_,?_,hf.sub ?_,?_⟩)
      ·exact ⟨by omega,Ent.same_next hz18 hz22 hI.2 (Decidable.not_not.1 h24)⟩
      ·(try dsimp only);omega
      ·exact ⟨rfl,rfl,rfl,rfl,trivial⟩
      ·exact hA.only (is:=[0,1]) (Z:=[]) rfl
    ·refine HO_load1 (i:=0) (j:=0) rfl rfl rfl Try.isAgg3 rfl (.elem _ _ _) rfl rfl ?_
     refine HA_back rfl (kp [nn,yy,yy] [_,_] rfl) ?_
     refine HA_loud1 (i:=2) (by kernel_rfl) rfl ?_
     refine HO_indexAddr open_int (i:=1) rfl rfl rfl rfl rfl Try.underlying29 Try.sizeOf3 rfl ?_ ?_
     ·omega
     intro b18 o18 z18 y18 hz18 hI18
     clear y18
     refine HA_back rfl (kp [nn,nn,yy,yy] [_,_] rfl) ?_
     refine HA_loud1 (i:=3) (by kernel_rfl) rfl ?_
     refine HO_load1 (i:=0) (j:=0) rfl rfl rfl Try.isAgg3 rfl (.elem _ _ _) rfl rfl ?_
     refine HA_back rfl (kp [nn,nn,yy,yy] [_,_] rfl) ?_
     refine HA_take (i:=8) bp rfl rfl rfl rfl (by kernel_rfl) rfl (V_bin rfl rfl bin_neq) (kp [nn,nn,yy,yy] [_,_] rfl) ?_
     refine HA_done (by kernel_rfl) ?_
     refine H_env (ρ':=[(24,_),(0,_),(1,_),(12,_),(13,_)]) ⟨rfl,rfl,rfl,rfl,rfl,trivial⟩ ?_
     refine H_world (kp [nn,nn,yy,yy] [_,_] rfl) ?_
     refine H_cond rfl ?_ ?_
     ·intro h24
      replace h24:=dT h24
      refine H_seq ?_
      refine H_region (l:=[_]) rfl ?_
      refine HO_assign rfl rfl rfl ?_
      refine HO_nil ?_
      refine H_env (ρ':=[(4,_)]) ⟨rfl,trivial⟩ ?_
      refine H_world (kp [nn,nn] [] rfl) ?_
      refine H_ret1 Try.results38 (.tmp rfl) (fun w hA => ⟨(),congrArg Ending.returned ?_,?_,?_⟩)
      ·(first | exact congrArg Value.bool (Ent.same_no hz18 hz22 h24).symm | exact congrArg Value.bool (Ent.same_yes hl hI).symm | exact congrArg Value.bool (Ent.same_len h10).symm)
      ·trivial
      ·exact hA.keep (m:=[]) (Y:=[]) rfl
     intro h24
     replace h24:=dF h24
     refine H_skip ?_
     refine H_blk ?_
     refine H_region (l:=[_,_]) rfl ?_
     refine HO_bin rfl rfl rfl rfl (bin_add ?_ ?_) ?_
     ·omega
     ·omega
     refine HO_move rfl rfl rfl ?_
     refine HO_nil ?_
     refine H_env (ρ':=[(13,_),(0,_),(1,_),(12,_)]) ⟨rfl,rfl,rfl,rfl,trivial⟩ ?_
     refine H_inv (fun a w hf hA => ⟨i + 1,?_,?_,hf.sub ?_,?_⟩)
     ·exact ⟨by omega,Ent.same_next hz18 hz22 hI.2 (Decidable.not_not.1 h24)⟩
     ·(try dsimp only);omega
     ·exact ⟨rfl,rfl,rfl,rfl,trivial⟩
     ·exact hA.only (is:=[0,1]) (Z:=[]) rfl
  intro h14
  replace h14:=dF h14
  refine H_exit rfl ?_
  refine H_seq ?_
  obtain rfl : i = l.length:=by omega
  refine H_region (l:=[_]) rfl ?_
  refine HO_assign rfl rfl rfl ?_
  refine HO_nil ?_
  refine H_env (ρ':=[(4,_)]) ⟨rfl,trivial⟩ ?_
  refine H_world (kp [nn,nn] [] rfl) ?_
  refine H_ret1 Try.results38 (.tmp rfl) (fun w hA => ⟨(),congrArg Ending.returned ?_,?_,?_⟩)
  ·(first | exact congrArg Value.bool (Ent.same_no hz18 hz22 h24).symm | exact congrArg Value.bool (Ent.same_yes hl hI).symm | exact congrArg Value.bool (Ent.same_len h10).symm)
  ·trivial
  ·exact hA.keep (m:=[]) (Y:=[]) rfl
set_option maxHeartbeats 0 in
theorem rorder_spec (ops : List Op) (a9 : Option Addr) (c9 : Nat) (hl : ops.length≤10000) : Spec Try.prog 39 #[.slice a9 (ops.length) c9] [.dat kOp.sl (ops) [.slice a9 (ops.length) c9]] (β:=List Int × (Option Addr × Nat)) (fun y => .slice y.2.1 (y.1.length) y.2.2) (fun y => Hist.Ordd ops y.1) (fun y => [.own 3 kInt y.2.1 y.2.2 (y.1)]):=by
 refine Spec.enter (vs:=[_]) Try.func39 rfl Try.ntmps39 rfl (Nat.le_of_ble_eq_true rfl) (fun w0 ok0 => ?_)
 generalize hM0 : blks _ = M0
 have hMn:=@noM _ _ hM0 (by simp [Atom.dat,Atom.elem])
 refine H_len_le (i:=0) rfl ?_
 intro hlen0
 refine H_seq ?_
 refine H_region (l:=[_]) rfl ?_
 refine HO_assign rfl rfl rfl ?_
 refine HO_nil ?_
 refine H_env (ρ':=[(0,_)]) ⟨rfl,trivial⟩ ?_
 refine H_seq ?_
 refine H_region (l:=[_]) rfl ?_
 refine HO_assign rfl rfl rfl ?_
 refine HO_nil ?_
 refine H_seq ?_
 refine H_seq ?_
 refine H_region (l:=[_,_,_]) rfl ?_
 refine HO_move rfl rfl rfl ?_
 refine HO_bi rfl rfl rfl (bi_len_sl Try.underlying80) ?_
 refine HO_move rfl rfl rfl ?_
 refine HO_nil ?_
 refine H_block ?_
 refine H_own0 kInt 3 none ?_
 refine H_loop (σ:=List Int × Option Addr × Nat × Nat) (fun s => s.2.2.2≤ops.length∧Hist.Got ops s.1 s.2.2.2) (fun s => [(0,.slice a9 (ops.length) c9),(3,.slice s.2.1 (s.1.length) s.2.2.1),(7,.slice a9 (ops.length) c9),(8,.int .i64 ((ops.length : Int))),(9,.int .i64 ((s.2.2.2 : Int)))]) (fun s => Asn w0 ok0 M0 [.own 3 kInt s.2.1 s.2.2.1 (s.1),.dat kOp.sl (ops) [.slice a9 (ops.length) c9]]) (fun s => ops.length - s.2.2.2) ⟨[],none,0,0⟩ ?_ ?_ ?_ ?_
 ·exact ⟨Nat.zero_le _,.start⟩
 ·exact ⟨rfl,rfl,rfl,rfl,rfl,trivial⟩
 ·intro w hA
  exact hA.only (is:=[0,1]) (Z:=[]) rfl
 ·rintro ⟨ys,p,q,i⟩ hI
  (try dsimp only at hI ⊢)
  refine H_seq ?_
  refine H_region (l:=[_]) rfl ?_
  refine HO_bin rfl rfl rfl rfl bin_lss ?_
  refine HO_nil ?_
  refine H_seq ?_
  refine H_cond rfl ?_ ?_
  ·intro h10
   replace h10:=dT h10
   refine H_skip ?_
   refine H_seq ?_
   refine H_block ?_
   refine H_seq ?_
   refine H_region (l:=[_,_,_,_,_,_]) rfl ?_
   refine HO_move rfl rfl rfl ?_
   refine HO_indexAddr open_Op (i:=1) rfl rfl rfl rfl rfl Try.underlying80 Try.sizeOf85 rfl ?_ ?_
   ·omega
   intro b12 o12 z12 y12 hz12 hI12
   (try simp only [BIG] at hI12)
   refine HO_loadA (i:=0) (us:=[]) (cs:=[_,_,_,_,_,_,_,_,_,_,_,_,_,_,_,_,_]) (ts:=[]) rfl rfl rfl Try.isAgg85 Try.sizeOf85 rfl (.elem _ _ _) rfl rfl rfl rfl ?_
   refine HO_alloc (cs:=[_,_,_,_,_,_,_,_,_,_,_,_,_,_,_,_,_]) rfl rfl Try.zeroValue85 rfl ?_
   intro g5
   refine HO_assign rfl rfl rfl ?_
   refine HO_store (i:=0) (j:=0) (us:=[]) (old:=[_,_,_,_,_,_,_,_,_,_,_,_,_,_,_,_,_]) (ts:=[]) (cs:=[_,_,_,_,_,_,_,_,_,_,_,_,_,_,_,_,_]) (R:=[_,_,_,_]) (new:=[_,_,_,_,_,_,_,_,_,_,_,_,_,_,_,_,_]) rfl rfl rfl Try.sizeOf85 rfl (by simp [Value.oneCell']) rfl rfl rfl rfl rfl rfl ?_
   refine HO_nil ?_
   refine H_env (ρ':=[(4,_),(5,_),(0,_),(3,_),(7,_),(8,_),(9,_)]) ⟨rfl,rfl,rfl,rfl,rfl,rfl,rfl,trivial⟩ ?_
   refine H_world (kp [yy,nn,yy,yy,yy] [_,_,_,_] rfl) ?_
   refine H_seq ?_
   refine H_seq ?_
   refine H_region (l:=[_,_,_]) rfl ?_
   refine HO_fieldAddr (r:=15) rfl rfl rfl Try.underlying85 rfl Try.sizeOf3 rfl ?_
   refine HO_load1 (i:=0) (j:=15) rfl rfl rfl Try.isAgg3 rfl (.loc _ _ _) rfl rfl ?_
   refine HO_bin rfl rfl rfl rfl bin_lss ?_
   refine HO_nil ?_
   refine H_env (ρ':=[(16,_),(4,_),(5,_),(0,_),(3,_),(7,_),(8,_),(9,_)]) ⟨rfl,rfl,rfl,rfl,rfl,rfl,rfl,rfl,trivial⟩ ?_
   refine H_cond rfl ?_ ?_
   ·intro h16
    replace h16:=dT h16
    have he:=Hist.idxs_no hz12 (by omega)
    refine H_exit rfl ?_
    refine H_region (l:=[_,_]) rfl ?_
    refine HO_bin rfl rfl rfl rfl (bin_add ?_ ?_) ?_
    ·omega
    ·omega
    refine HO_move rfl rfl rfl ?_
    refine HO_nil ?_
    refine H_env (ρ':=[(9,_),(0,_),(3,_),(7,_),(8,_)]) ⟨rfl,rfl,rfl,rfl,rfl,trivial⟩ ?_
    refine H_world (kp [nn,nn,yy,yy] [_,_] rfl) ?_
    refine H_inv (fun a w hf hA => ⟨⟨ys,p,q,i + 1⟩,?_,?_,hf.sub ?_,?_⟩)
    ·exact ⟨by dsimp only;omega,hI.2.skip he⟩
    ·(try dsimp only);omega
    ·first | exact ⟨rfl,rfl,rfl,rfl,rfl,trivial⟩ | exact ⟨rfl,congrArg (fun n : Nat => some (Value.slice _ n _)) (by dsimp only;rw [List.length_set,hI.len];simp),rfl,rfl,rfl,trivial⟩
    ·exact hA.only (is:=[0,1]) (Z:=[]) rfl
   intro h16
   replace h16:=dF h16
   have he:=Hist.idxs_yes hz12 (by omega)
   have hG:=hI
   refine H_skip ?_
   refine H_seq ?_
   refine H_region (l:=[_,_,_]) rfl ?_
   refine HO_move rfl rfl rfl ?_
   refine HO_bi rfl rfl rfl (bi_len_sl Try.underlying29) ?_
   refine HO_assign rfl rfl rfl ?_
   refine HO_nil ?_
   refine H_env (ρ':=[(6,_),(4,_),(5,_),(0,_),(3,_),(7,_),(8,_),(9,_)]) ⟨rfl,rfl,rfl,rfl,rfl,rfl,rfl,rfl,trivial⟩ ?_
   refine H_seq ?_
   refine H_region (l:=[_,_,_,_,_]) rfl ?_
   iterate 2 refine HO_move rfl rfl rfl ?_
   refine HO_buildSlice (kd:=kInt) (xo:=[_]) (vs:=[_]) (cs:=[_]) (xs:=[_]) rfl rfl rfl rfl Try.underlying29 elt3 rfl rfl rfl (by decide) (by decide) (by simp [Value.cells]) rfl (by intro ok w _;exact ⟨_,_,rfl,⟨rfl,by first | omega | (constructor <;> omega)⟩,rfl⟩) ?_
   intro g21
   refine HO_append (i:=3) (R:=[_,_,_,_]) rfl rfl rfl rfl rfl Try.underlying29 elt3 rfl rfl (SrcOk.own (j:=0) Try.underlying29 rfl rfl) ?_ ?_
   ·(have:=hI.2.len;have:=Hist.idxs_len (ops:=ops) (i:=i);simp only [List.length_append,List.length_singleton];omega)
   intro a22 c22
   refine HO_assign rfl rfl rfl ?_
   refine HO_nil ?_
   refine H_env (ρ':=[(3,_),(6,_),(4,_),(5,_),(0,_),(7,_),(8,_),(9,_)]) ⟨rfl,rfl,rfl,rfl,rfl,rfl,rfl,rfl,trivial⟩ ?_
   refine H_world (kp [yy,nn,yy,yy,yy] [_,_,_,_] rfl) ?_
   refine H_seq ?_
   refine H_block ?_
   refine H_loop (σ:=List Int × Nat) (fun s => Hist.Hole ops ys s.1 i s.2) (fun s => [(0,.slice a9 (ops.length) c9),(3,.slice a22 ((ys ++ [(i : Int)]).length) c22),(4,.int .i64 ((i : Int))),(5,.pointer (some ⟨g5,0,none⟩)),(6,.int .i64 ((s.2 : Int))),(7,.slice a9 (ops.length) c9),(8,.int .i64 ((ops.length : Int))),(9,.int .i64 ((i : Int)))]) (fun s => Asn w0 ok0 M0 [.own 3 kInt a22 c22 (s.1),.dat kOp.sl (ops) [.slice a9 (ops.length) c9],.loc g5 [.int .i64 (z12.cmd.kind),.int .i64 (z12.cmd.sess),.int .i64 (z12.cmd.seq),.string (z12.cmd.key),.string (z12.cmd.old),.string (z12.cmd.val),.string (z12.cmd.til),.int .i64 (z12.cmd.lim),.int .i64 (z12.rep.err),.bool (z12.rep.found),.string (z12.rep.val),.int .i64 (z12.rep.sess),.slice y12.1 (z12.rep.pairs.length) y12.2,.int .i64 (z12.start),.int .i64 (z12.stop),.int .i64 (z12.at_),.bool (z12.read)] 85,.dat kPair.sl (z12.rep.pairs) [.slice y12.1 (z12.rep.pairs.length) y12.2]]) (fun s => s.2) ⟨ys ++ [(i : Int)],ys.length⟩ ?_ ?_ ?_ ?_
   ·exact hG.2.hole
   ·exact ⟨rfl,rfl,rfl,rfl,rfl,rfl,rfl,rfl,trivial⟩
   ·intro w hA
    exact hA.only (is:=[0,1,1,2]) (Z:=[]) rfl
   ·rintro ⟨zs,k⟩ hI
    (try dsimp only at hI ⊢)
    refine H_seq ?_
    refine H_seq ?_
    refine H_ownAddr (i:=0) rfl (by have:=hI.len;omega) (fun g3 hg3 => ?_)
    rw [hg3]
    refine H_drawB (m:=[yy,yy,yy,yy]) (Xs:=[_,_,_,_]) (fuel:=14) (l:=#[false,false,false,false,false,false,false,false,false,false,false,false,false,false]) mixed rfl rfl rfl ?_
    refine HA_take (i:=0) bp rfl rfl rfl rfl (by kernel_rfl) rfl (V_move rfl) (fun _ hA => hA) ?_
    refine HA_take (i:=1) bp rfl rfl rfl rfl (by kernel_rfl) rfl (V_bin rfl rfl bin_gtr) (fun _ hA => hA) ?_
    refine HA_take (i:=2) bp rfl rfl rfl rfl (by kernel_rfl) rfl (V_move rfl) (fun _ hA => hA) ?_
    refine HA_split (d:=25) rfl ?_ ?_
    ·intro h25
     replace h25:=dT h25
     obtain ⟨l,rfl⟩ : ∃ l,k = l + 1:=⟨k - 1,by omega⟩
     obtain ⟨u,hu⟩:=Srt.at_lt (xs:=zs) (k:=l) (by have:=hI.len;have:=hI.inn.ji;omega)
     have hkl:=hI.inn.ji
     have hyl:=hG.2.len
     have hil:=Hist.idxs_len (ops:=ops) (i:=i)
     have hur:=hI.rng (hG.2.idx (by omega)) (by omega) (by omega) hu
     refine HA_take (i:=3) bp rfl rfl rfl rfl (by kernel_rfl) rfl (V_loadA (i:=2) (us:=[]) (cs:=[_,_,_,_,_,_,_,_,_,_,_,_,_,_,_,_,_]) (ts:=[]) rfl Try.isAgg85 Try.sizeOf85 rfl (.loc _ _ _) rfl rfl rfl rfl) (fun _ hA => hA) ?_
     refine HA_take (i:=4) bp rfl rfl rfl rfl (by kernel_rfl) rfl (V_move rfl) (fun _ hA => hA) ?_
     refine HA_take (i:=5) bp rfl rfl rfl rfl (by kernel_rfl) rfl (V_move rfl) (fun _ hA => hA) ?_
     refine HA_take (i:=6) bp rfl rfl rfl rfl (by kernel_rfl) rfl (V_move rfl) (fun _ hA => hA) ?_
     refine HA_take (i:=7) bp rfl rfl rfl rfl (by kernel_rfl) rfl (V_bin rfl rfl (bin_sub ?_ ?_)) (fun _ hA => hA) ?_
     ·omega
     ·omega
     refine HA_take (i:=8) bp rfl rfl rfl rfl (by kernel_rfl) rfl (V_indexC (j:=l) rfl rfl ?_ Try.underlying29 Try.sizeOf3 ?_ ((congrArg (0 + ·) (Nat.mul_one _)).trans (Nat.zero_add _))) (fun _ hA => hA) ?_
     ·omega
     ·(have:=hI.inn.ji;simp only [List.length_append,List.length_singleton];omega)
     refine HA_take (i:=9) bp rfl rfl rfl rfl (by kernel_rfl) rfl (V_loadOwn (i:=0) (v:=.int .i64 ((u))) rfl Try.isAgg3 rfl rfl (Nat.mul_one _) hu (fun _ _ _ h => h.1)) (fun _ hA => hA) ?_
     refine HA_loud1 (i:=10) (by kernel_rfl) rfl ?_
     refine HO_indexAddr open_Op (i:=1) (j:=u.toNat) rfl rfl rfl rfl ?_ Try.underlying80 Try.sizeOf85 rfl ?_ ?_
     ·omega
     ·omega
     intro b33 o33 z33 y33 hz33 hI33
     (try simp only [BIG] at hI33)
     refine HA_back rfl (kp [nn,nn,yy,yy,yy,yy] [_,_,_,_] rfl) ?_
     refine HA_loud1 (i:=11) (by kernel_rfl) rfl ?_
     refine HO_loadA (i:=0) (us:=[]) (cs:=[_,_,_,_,_,_,_,_,_,_,_,_,_,_,_,_,_]) (ts:=[]) rfl rfl rfl Try.isAgg85 Try.sizeOf85 rfl (.elem _ _ _) rfl rfl rfl rfl ?_
     refine HA_back rfl (kp [nn,nn,yy,yy,yy,yy] [_,_,_,_] rfl) ?_
     refine HA_loud1 (i:=12) (by kernel_rfl) rfl ?_
     refine HO_call (first:=[]) (capt:=[]) (is:=[]) (R:=[_,_,_,_,_,_]) rfl rfl rfl rfl rfl Try.call71 rfl (rahead_spec _ _ _ _ _ _ _ _ _ _ _ _ _ _ _ _ _ _ _ _ _ _ _ _ _ _ _ _ _ _ _ _ _ _ _ _ _ _) ?_
     intro y35 hy35
     clear y35 hy35
     refine HA_back rfl (kp [nn,nn,yy,yy,yy,yy] [_,_,_,_] rfl) ?_
     refine HA_take (i:=13) bp rfl rfl rfl rfl (by kernel_rfl) rfl (V_pick_t rfl rfl) (kp [nn,nn,yy,yy,yy,yy] [_,_,_,_] rfl) ?_
     refine HA_done (by kernel_rfl) ?_
     refine H_env (ρ':=[(36,_),(0,_),(3,_),(4,_),(5,_),(6,_),(7,_),(8,_),(9,_)]) ⟨rfl,rfl,rfl,rfl,rfl,rfl,rfl,rfl,rfl,trivial⟩ ?_
     refine H_world (kp [nn,nn,yy,yy,yy,yy] [_,_,_,_] rfl) ?_
     refine H_cond rfl ?_ ?_
     ·intro h36
      refine H_skip ?_
      refine H_block ?_
      refine H_seq ?_
      refine H_region (l:=[_,_,_,_,_,_,_,_,_]) rfl ?_
      iterate 4 refine HO_move rfl rfl rfl ?_
      refine HO_bin rfl rfl rfl rfl (bin_sub ?_ ?_) ?_
      ·omega
      ·omega
      refine HO_indexC (j:=l) rfl rfl rfl rfl ?_ Try.underlying29 Try.sizeOf3 ?_ ((congrArg (0 + ·) (Nat.mul_one _)).trans (Nat.zero_add _)) ?_
      ·omega
      ·(have:=hI.inn.ji;simp only [List.length_append,List.length_singleton];omega)
      refine HO_loadOwn (i:=0) (v:=.int .i64 ((u))) rfl rfl rfl Try.isAgg3 rfl rfl (Nat.mul_one _) hu (fun _ _ _ h => h.1) ?_
      refine HO_indexC (j:=l + 1) rfl rfl rfl rfl ?_ Try.underlying29 Try.sizeOf3 ?_ ((congrArg (0 + ·) (Nat.mul_one _)).trans (Nat.zero_add _)) ?_
      ·omega
      ·(have:=hI.inn.ji;simp only [List.length_append,List.length_singleton];omega)
      refine HO_storeOwn (i:=0) (cs:=[_]) (R:=[_,_,_]) (z':=u) rfl rfl rfl Try.sizeOf3 rfl (by simp [Value.oneCell']) rfl rfl rfl (Nat.mul_one _) ?_ (fun _ _ _ => ⟨rfl,⟨by omega,by omega⟩⟩) ?_
      ·(have:=hI.len;have:=hI.inn.ji;omega)
      refine HO_nil ?_
      refine H_env (ρ':=[(0,_),(3,_),(4,_),(5,_),(6,_),(7,_),(8,_),(9,_)]) ⟨rfl,rfl,rfl,rfl,rfl,rfl,rfl,rfl,trivial⟩ ?_
      refine H_region (l:=[_,_,_]) rfl ?_
      refine HO_move rfl rfl rfl ?_
      refine HO_bin rfl rfl rfl rfl (bin_sub ?_ ?_) ?_
      ·omega
      ·omega
      refine HO_set (v':=.int .i64 ((l : Int))) 46 rfl (by exact congrArg (Value.int .i64) (by omega)) ?_
      refine HO_assign rfl rfl rfl ?_
      refine HO_nil ?_
      refine H_env (ρ':=[(6,_),(0,_),(3,_),(4,_),(5,_),(7,_),(8,_),(9,_)]) ⟨rfl,rfl,rfl,rfl,rfl,rfl,rfl,rfl,trivial⟩ ?_
      refine H_blk ?_
      refine H_inv (fun a w hf hA => ⟨⟨zs.set (l + 1) u,l⟩,?_,?_,hf.sub ?_,?_⟩)
      ·exact hI.next hu ((hI.go hu hz12 hz33).trans h36)
      ·(try dsimp only);omega
      ·exact ⟨rfl,rfl,rfl,rfl,rfl,rfl,rfl,rfl,trivial⟩
      ·exact hA.only (is:=[0,1,2,3]) (Z:=[]) rfl
     intro h36
     refine H_exit rfl ?_
     refine H_region (l:=[_,_,_,_,_]) rfl ?_
     iterate 3 refine HO_move rfl rfl rfl ?_
     refine HO_indexC (j:=(l + 1)) rfl rfl rfl rfl ?_ Try.underlying29 Try.sizeOf3 ?_ ((congrArg (0 + ·) (Nat.mul_one _)).trans (Nat.zero_add _)) ?_
     ·rfl
     ·(have:=hI.inn.ji;simp only [List.length_append,List.length_singleton];omega)
     refine HO_storeOwn (i:=0) (cs:=[_]) (R:=[_,_,_]) (z':=(i : Int)) rfl rfl rfl Try.sizeOf3 rfl (by simp [Value.oneCell']) rfl rfl rfl (Nat.mul_one _) ?_ (fun _ _ _ => ⟨rfl,⟨by omega,by omega⟩⟩) ?_
     ·(have:=hI.len;have:=hI.inn.ji;omega)
     refine HO_nil ?_
     refine H_env (ρ':=[(0,_),(3,_),(7,_),(8,_),(9,_)]) ⟨rfl,rfl,rfl,rfl,rfl,trivial⟩ ?_
     refine H_world (kp [yy,yy,nn,nn] [_,_] rfl) ?_
     refine H_blk ?_
     refine H_region (l:=[_,_]) rfl ?_
     refine HO_bin rfl rfl rfl rfl (bin_add ?_ ?_) ?_
     ·omega
     ·omega
     refine HO_move rfl rfl rfl ?_
     refine HO_nil ?_
     refine H_env (ρ':=[(9,_),(0,_),(3,_),(7,_),(8,_)]) ⟨rfl,rfl,rfl,rfl,rfl,trivial⟩ ?_
     refine H_inv (fun a w hf hA => ⟨⟨zs.set (l + 1) (i : Int),some ⟨g3,0,none⟩,c22,i + 1⟩,?_,?_,hf.sub ?_,?_⟩)
     ·exact ⟨by dsimp only;omega,hG.2.next he hI (by first | exact .inl (by omega) | exact .inr ⟨l,u,rfl,hu,hI.nogo hu hz12 hz33 h36⟩)⟩
     ·(try dsimp only);omega
     ·first | exact ⟨rfl,rfl,rfl,rfl,rfl,trivial⟩ | exact ⟨rfl,congrArg (fun n : Nat => some (Value.slice _ n _)) (by dsimp only;rw [List.length_set,hI.len];simp),rfl,rfl,rfl,trivial⟩
     ·exact hA.only (is:=[0,1]) (Z:=[]) rfl
    intro h25
    replace h25:=dF h25
    refine HA_no (i:=3) bp rfl rfl rfl rfl (by kernel_rfl) rfl (fun _ hA => hA) ?_
    refine HA_no (i:=4) bp rfl rfl rfl rfl (by kernel_rfl) rfl (fun _ hA => hA) ?_
    refine HA_no (i:=5) bp rfl rfl rfl rfl (by kernel_rfl) rfl (fun _ hA => hA) ?_
    refine HA_no (i:=6) bp rfl rfl rfl rfl (by kernel_rfl) rfl (fun _ hA => hA) ?_
    refine HA_no (i:=7) bp rfl rfl rfl rfl (by kernel_rfl) rfl (fun _ hA => hA) ?_
    refine HA_no (i:=8) bp rfl rfl rfl rfl (by kernel_rfl) rfl (fun _ hA => hA) ?_
    refine HA_no (i:=9) bp rfl rfl rfl rfl (by kernel_rfl) rfl (fun _ hA => hA) ?_
    refine HA_no (i:=10) bp rfl rfl rfl rfl (by kernel_rfl) rfl (fun _ hA => hA) ?_
    refine HA_no (i:=11) bp rfl rfl rfl rfl (by kernel_rfl) rfl (fun _ hA => hA) ?_
    refine HA_no (i:=12) bp rfl rfl rfl rfl (by kernel_rfl) rfl (fun _ hA => hA) ?_
    refine HA_take (i:=13) bp rfl rfl rfl rfl (by kernel_rfl) rfl (V_pick_f rfl rfl) (fun _ hA => hA) ?_
    refine HA_done (by kernel_rfl) ?_
    refine H_env (ρ':=[(36,_),(0,_),(3,_),(4,_),(5,_),(6,_),(7,_),(8,_),(9,_)]) ⟨rfl,rfl,rfl,rfl,rfl,rfl,rfl,rfl,rfl,trivial⟩ ?_
    refine H_cond rfl (fun h => nomatch h) (fun _ => ?_)
    refine H_exit rfl ?_
    refine H_region (l:=[_,_,_,_,_]) rfl ?_
    iterate 3 refine HO_move rfl rfl rfl ?_
    refine HO_indexC (j:=k) rfl rfl rfl rfl ?_ Try.underlying29 Try.sizeOf3 ?_ ((congrArg (0 + ·) (Nat.mul_one _)).trans (Nat.zero_add _)) ?_
    ·rfl
    ·(have:=hI.inn.ji;simp only [List.length_append,List.length_singleton];omega)
    refine HO_storeOwn (i:=0) (cs:=[_]) (R:=[_,_,_]) (z':=(i : Int)) rfl rfl rfl Try.sizeOf3 rfl (by simp [Value.oneCell']) rfl rfl rfl (Nat.mul_one _) ?_ (fun _ _ _ => ⟨rfl,⟨by omega,by omega⟩⟩) ?_
    ·(have:=hI.len;have:=hI.inn.ji;omega)
    refine HO_nil ?_
    refine H_env (ρ':=[(0,_),(3,_),(7,_),(8,_),(9,_)]) ⟨rfl,rfl,rfl,rfl,rfl,trivial⟩ ?_
    refine H_world (kp [yy,yy,nn,nn] [_,_] rfl) ?_
    refine H_blk ?_
    refine H_region (l:=[_,_]) rfl ?_
    refine HO_bin rfl rfl rfl rfl (bin_add ?_ ?_) ?_
    ·omega
    ·omega
    refine HO_move rfl rfl rfl ?_
    refine HO_nil ?_
    refine H_env (ρ':=[(9,_),(0,_),(3,_),(7,_),(8,_)]) ⟨rfl,rfl,rfl,rfl,rfl,trivial⟩ ?_
    refine H_inv (fun a w hf hA => ⟨⟨zs.set k (i : Int),some ⟨g3,0,none⟩,c22,i + 1⟩,?_,?_,hf.sub ?_,?_⟩)
    ·exact ⟨by dsimp only;omega,hG.2.next he hI (by first | exact .inl (by omega) | exact .inr ⟨l,u,rfl,hu,hI.nogo hu hz12 hz33 h36⟩)⟩
    ·(try dsimp only);omega
    ·first | exact ⟨rfl,rfl,rfl,rfl,rfl,trivial⟩ | exact ⟨rfl,congrArg (fun n : Nat => some (Value.slice _ n _)) (by dsimp only;rw [List.length_set,hI.len];simp),rfl,rfl,rfl,trivial⟩
    ·exact hA.only (is:=[0,1]) (Z:=[]) rfl
  intro h10
  replace h10:=dF h10
  refine H_exit rfl ?_
  refine H_seq ?_
  obtain rfl : i = ops.length:=by omega
  refine H_region (l:=[_,_]) rfl ?_
  refine HO_move rfl rfl rfl ?_
  refine HO_assign rfl rfl rfl ?_
  refine HO_nil ?_
  refine H_env (ρ':=[(2,_)]) ⟨rfl,trivial⟩ ?_
  refine H_world (kp [yy,nn] [_] rfl) ?_
  refine H_ret1 Try.results39 (.tmp rfl) (fun w hA => ⟨(ys,(p,q)),congrArg Ending.returned ?_,?_,?_⟩)
  ·rfl
  ·exact hI.2.done
  ·exact hA.keep (m:=[yy]) (Y:=[_]) rfl
end Go.Wk
