/- Contracts of the program's functions, each proved by walking its code. -/
import Derived.Test.YtlkdpglngomblaaKfmod5
import Derived.Test.YtlkdpglngomblaaHist
set_option maxRecDepth 100000
set_option linter.unusedVariables false
set_option linter.unusedSimpArgs false
namespace Go.Wk.Fhist1
open Go Go.RowKit Go.Proofs Go.Wk
theorem elt56 : Elt Try.prog 56 (.agg #[.slice none 0 0,.slice none 0 0]) 2 48:=Elt.of (by kernel_rfl) (by rfl) (by decide) (by decide)
theorem bd56__  : ∀ w,(Instr.build 56 (List.toArray (List.zip [] []))).run Try.prog w = .ok (.agg #[.slice none 0 0,.slice none 0 0]) w:=fun _ => by kernel_rfl
end Go.Wk.Fhist1
namespace Go.Wk
open Go Go.RowKit Go.Proofs Fhist1 
theorem hbefore_spec (ki cs sq : Int) (ke ol cv ti : ByteArray) (li er : Int) (fo : Bool) (va : ByteArray) (se : Int) (ps : List Pair) (ap : Option Addr) (cp : Nat) (s0 s1 at_ : Int) (rd : Bool) (ki2 cs2 sq2 : Int) (ke2 ol2 cv2 ti2 : ByteArray) (li2 er2 : Int) (fo2 : Bool) (va2 : ByteArray) (se2 : Int) (ps2 : List Pair) (ap2 : Option Addr) (cp2 : Nat) (s02 s12 at_2 : Int) (rd2 : Bool)  : Spec Try.prog 21 #[.agg #[.int .i64 (ki),.int .i64 (cs),.int .i64 (sq),.string (ke),.string (ol),.string (cv),.string (ti),.int .i64 (li),.int .i64 (er),.bool (fo),.string (va),.int .i64 (se),.slice ap (ps.length) cp,.int .i64 (s0),.int .i64 (s1),.int .i64 (at_),.bool (rd)],.agg #[.int .i64 (ki2),.int .i64 (cs2),.int .i64 (sq2),.string (ke2),.string (ol2),.string (cv2),.string (ti2),.int .i64 (li2),.int .i64 (er2),.bool (fo2),.string (va2),.int .i64 (se2),.slice ap2 (ps2.length) cp2,.int .i64 (s02),.int .i64 (s12),.int .i64 (at_2),.bool (rd2)]] [] (β:=Unit) (fun y => .bool (Hist.before (⟨⟨ki,cs,sq,ke,ol,cv,ti,li⟩,⟨er,fo,va,se,ps⟩,s0,s1,at_,rd⟩ : Op) (⟨⟨ki2,cs2,sq2,ke2,ol2,cv2,ti2,li2⟩,⟨er2,fo2,va2,se2,ps2⟩,s02,s12,at_2,rd2⟩ : Op))) (fun y => True) (fun y => []):=by
 refine Spec.enter (vs:=[_,_]) Try.func21 rfl Try.ntmps21 rfl (Nat.le_of_ble_eq_true rfl) (fun w0 ok0 => ?_)
 generalize hM0 : blks _ = M0
 have hMn:=@noM _ _ hM0 (by simp [Atom.dat,Atom.elem])
 refine H_seq ?_
 refine H_region (l:=[_,_,_]) rfl ?_
 refine HO_box (cs:=[_,_,_,_,_,_,_,_,_,_,_,_,_,_,_,_,_]) rfl rfl rfl rfl ?_
 intro g2
 refine HO_box (cs:=[_,_,_,_,_,_,_,_,_,_,_,_,_,_,_,_,_]) rfl rfl rfl rfl ?_
 intro g3
 refine HO_assign rfl rfl rfl ?_
 refine HO_nil ?_
 refine H_env (ρ':=[(3,_),(2,_)]) ⟨rfl,rfl,trivial⟩ ?_
 refine H_seq ?_
 refine H_region (l:=[_,_,_,_,_,_,_,_,_,_,_]) rfl ?_
 refine HO_fieldAddr (r:=14) rfl rfl rfl Try.underlying40 rfl Try.sizeOf3 rfl ?_
 refine HO_load1 (i:=1) (j:=14) rfl rfl rfl Try.isAgg3 rfl (.loc _ _ _) rfl rfl ?_
 refine HO_bin rfl rfl rfl rfl bin_gtr ?_
 refine HO_move rfl rfl rfl ?_
 refine HO_split (d:=8) rfl ?_ ?_
 ·intro h8
  replace h8:=dT h8
  refine HO_fieldAddr (r:=14) rfl rfl rfl Try.underlying40 rfl Try.sizeOf3 rfl ?_
  refine HO_load1 (i:=1) (j:=14) rfl rfl rfl Try.isAgg3 rfl (.loc _ _ _) rfl rfl ?_
  refine HO_fieldAddr (r:=13) rfl rfl rfl Try.underlying40 rfl Try.sizeOf3 rfl ?_
  refine HO_load1 (i:=0) (j:=13) rfl rfl rfl Try.isAgg3 rfl (.loc _ _ _) rfl rfl ?_
  refine HO_bin rfl rfl rfl rfl bin_lss ?_
  refine HO_pick_t rfl rfl rfl rfl ?_
  refine HO_assign rfl rfl rfl ?_
  refine HO_nil ?_
  refine H_env (ρ':=[(4,_)]) ⟨rfl,trivial⟩ ?_
  refine H_world (kp [nn,nn] [] rfl) ?_
  refine H_ret1 Try.results21 (.tmp rfl) (fun w hA => ⟨(),congrArg Ending.returned ?_,?_,?_⟩)
  ·(exact congrArg Value.bool (by first | (simp [Hist.before, *];done) | (simp_all [Hist.before];done)))
  ·trivial
  ·exact hA.keep (m:=[]) (Y:=[]) rfl
 intro h8
 replace h8:=dF h8
 iterate 5 refine HO_no rfl rfl rfl ?_
 refine HO_pick_f rfl rfl rfl rfl ?_
 refine HO_assign rfl rfl rfl ?_
 refine HO_nil ?_
 refine H_env (ρ':=[(4,_)]) ⟨rfl,trivial⟩ ?_
 refine H_world (kp [nn,nn] [] rfl) ?_
 refine H_ret1 Try.results21 (.tmp rfl) (fun w hA => ⟨(),congrArg Ending.returned ?_,?_,?_⟩)
 ·(exact congrArg Value.bool (by first | (simp [Hist.before, *];done) | (simp_all [Hist.before];done)))
 ·trivial
 ·exact hA.keep (m:=[]) (Y:=[]) rfl
theorem late1_spec (g3 : Nat) (ki cs sq : Int) (ke ol cv ti : ByteArray) (li er : Int) (fo : Bool) (va : ByteArray) (se : Int) (ps : List Pair) (ap : Option Addr) (cp : Nat) (s0 s1 at_ : Int) (rd : Bool) (ki2 cs2 sq2 : Int) (ke2 ol2 cv2 ti2 : ByteArray) (li2 er2 : Int) (fo2 : Bool) (va2 : ByteArray) (se2 : Int) (ps2 : List Pair) (ap2 : Option Addr) (cp2 : Nat) (s02 s12 at_2 : Int) (rd2 : Bool)  : Spec Try.prog 74 #[.agg #[.int .i64 (ki),.int .i64 (cs),.int .i64 (sq),.string (ke),.string (ol),.string (cv),.string (ti),.int .i64 (li),.int .i64 (er),.bool (fo),.string (va),.int .i64 (se),.slice ap (ps.length) cp,.int .i64 (s0),.int .i64 (s1),.int .i64 (at_),.bool (rd)],.pointer (some ⟨g3,0,none⟩)] [.loc g3 [.int .i64 (ki2),.int .i64 (cs2),.int .i64 (sq2),.string (ke2),.string (ol2),.string (cv2),.string (ti2),.int .i64 (li2),.int .i64 (er2),.bool (fo2),.string (va2),.int .i64 (se2),.slice ap2 (ps2.length) cp2,.int .i64 (s02),.int .i64 (s12),.int .i64 (at_2),.bool (rd2)] 40] (β:=Unit) (fun y => .bool (Hist.lateP (⟨⟨ki2,cs2,sq2,ke2,ol2,cv2,ti2,li2⟩,⟨er2,fo2,va2,se2,ps2⟩,s02,s12,at_2,rd2⟩ : Op) (⟨⟨ki,cs,sq,ke,ol,cv,ti,li⟩,⟨er,fo,va,se,ps⟩,s0,s1,at_,rd⟩ : Op))) (fun y => True) (fun y => [.loc g3 [.int .i64 (ki2),.int .i64 (cs2),.int .i64 (sq2),.string (ke2),.string (ol2),.string (cv2),.string (ti2),.int .i64 (li2),.int .i64 (er2),.bool (fo2),.string (va2),.int .i64 (se2),.slice ap2 (ps2.length) cp2,.int .i64 (s02),.int .i64 (s12),.int .i64 (at_2),.bool (rd2)] 40]):=by
 refine Spec.enter (vs:=[_,_]) Try.func74 rfl Try.ntmps74 rfl (Nat.le_of_ble_eq_true rfl) (fun w0 ok0 => ?_)
 generalize hM0 : blks _ = M0
 refine H_seq ?_
 refine H_region (l:=[_,_]) rfl ?_
 refine HO_box (cs:=[_,_,_,_,_,_,_,_,_,_,_,_,_,_,_,_,_]) rfl rfl rfl rfl ?_
 intro g2
 refine HO_assign rfl rfl rfl ?_
 refine HO_nil ?_
 refine H_env (ρ':=[(2,_),(1,_)]) ⟨rfl,rfl,trivial⟩ ?_
 refine H_seq ?_
 refine H_region (l:=[_,_,_,_,_,_,_,_,_,_,_,_,_,_,_,_,_,_,_,_,_,_,_,_,_,_,_,_]) rfl ?_
 refine HO_fieldAddr (r:=15) rfl rfl rfl Try.underlying40 rfl Try.sizeOf3 rfl ?_
 refine HO_load1 (i:=0) (j:=15) rfl rfl rfl Try.isAgg3 rfl (.loc _ _ _) rfl rfl ?_
 refine HO_bin rfl rfl rfl rfl bin_geq ?_
 refine HO_move rfl rfl rfl ?_
 refine HO_split (d:=7) rfl ?_ ?_
 ·intro h7
  replace h7:=dT h7
  refine HO_loadA (i:=0) (us:=[]) (cs:=[_,_,_,_,_,_,_,_,_,_,_,_,_,_,_,_,_]) (ts:=[]) rfl rfl rfl Try.isAgg40 Try.sizeOf40 rfl (.loc _ _ _) rfl rfl rfl rfl ?_
  refine HO_loadA (i:=1) (us:=[]) (cs:=[_,_,_,_,_,_,_,_,_,_,_,_,_,_,_,_,_]) (ts:=[]) rfl rfl rfl Try.isAgg40 Try.sizeOf40 rfl (.loc _ _ _) rfl rfl rfl rfl ?_
  refine HO_call (first:=[]) (capt:=[]) (is:=[]) (R:=[_,_]) rfl rfl rfl rfl rfl Try.call21 rfl (hbefore_spec _ _ _ _ _ _ _ _ _ _ _ _ _ _ _ _ _ _ _ _ _ _ _ _ _ _ _ _ _ _ _ _ _ _ _ _ _ _) ?_
  intro y10 hy10
  clear y10 hy10
  refine HO_pick_t rfl rfl rfl rfl ?_
  refine HO_move rfl rfl rfl ?_
  refine HO_split (d:=12) rfl ?_ ?_
  ·intro h12
   refine HO_fieldAddr (r:=15) rfl rfl rfl Try.underlying40 rfl Try.sizeOf3 rfl ?_
   refine HO_load1 (i:=0) (j:=15) rfl rfl rfl Try.isAgg3 rfl (.loc _ _ _) rfl rfl ?_
   refine HO_fieldAddr (r:=15) rfl rfl rfl Try.underlying40 rfl Try.sizeOf3 rfl ?_
   refine HO_load1 (i:=1) (j:=15) rfl rfl rfl Try.isAgg3 rfl (.loc _ _ _) rfl rfl ?_
   refine HO_bin rfl rfl rfl rfl bin_gtr ?_
   refine HO_move rfl rfl rfl ?_
   refine HO_split (d:=18) rfl ?_ ?_
   ·intro h18
    replace h18:=dT h18
    iterate 10 refine HO_no rfl rfl rfl ?_
    iterate 2 refine HO_pick_t rfl rfl rfl rfl ?_
    refine HO_assign rfl rfl rfl ?_
    refine HO_nil ?_
    refine H_env (ρ':=[(3,_)]) ⟨rfl,trivial⟩ ?_
    refine H_world (kp [nn,yy] [_] rfl) ?_
    refine H_ret1 Try.results74 (.tmp rfl) (fun w hA => ⟨(),congrArg Ending.returned ?_,?_,?_⟩)
    ·(exact congrArg Value.bool (by first | (simp [Hist.lateP, *];done) | (simp_all [Hist.lateP];done)))
    ·trivial
    ·exact hA.keep (m:=[yy]) (Y:=[_]) rfl
   intro h18
   replace h18:=dF h18
   refine HO_fieldAddr (r:=15) rfl rfl rfl Try.underlying40 rfl Try.sizeOf3 rfl ?_
   refine HO_load1 (i:=0) (j:=15) rfl rfl rfl Try.isAgg3 rfl (.loc _ _ _) rfl rfl ?_
   refine HO_fieldAddr (r:=15) rfl rfl rfl Try.underlying40 rfl Try.sizeOf3 rfl ?_
   refine HO_load1 (i:=1) (j:=15) rfl rfl rfl Try.isAgg3 rfl (.loc _ _ _) rfl rfl ?_
   refine HO_bin rfl rfl rfl rfl bin_eql ?_
   refine HO_move rfl rfl rfl ?_
   refine HO_split (d:=24) rfl ?_ ?_
   ·intro h24
    replace h24:=dT h24
    refine HO_fieldAddr (r:=16) rfl rfl rfl Try.underlying40 rfl Try.sizeOf4 rfl ?_
    refine HO_load1 (i:=1) (j:=16) rfl rfl rfl Try.isAgg4 rfl (.loc _ _ _) rfl rfl ?_
    refine HO_not rfl rfl rfl ?_
    refine HO_pick_t rfl rfl rfl rfl ?_
    refine HO_pick_f rfl rfl rfl rfl ?_
    refine HO_pick_t rfl rfl rfl rfl ?_
    refine HO_assign rfl rfl rfl ?_
    refine HO_nil ?_
    refine H_env (ρ':=[(3,_)]) ⟨rfl,trivial⟩ ?_
    refine H_world (kp [nn,yy] [_] rfl) ?_
    refine H_ret1 Try.results74 (.tmp rfl) (fun w hA => ⟨(),congrArg Ending.returned ?_,?_,?_⟩)
    ·(exact congrArg Value.bool (by first | (simp [Hist.lateP, *];done) | (simp_all [Hist.lateP];done)))
    ·trivial
    ·exact hA.keep (m:=[yy]) (Y:=[_]) rfl
   intro h24
   replace h24:=dF h24
   iterate 3 refine HO_no rfl rfl rfl ?_
   iterate 2 refine HO_pick_f rfl rfl rfl rfl ?_
   refine HO_pick_t rfl rfl rfl rfl ?_
   refine HO_assign rfl rfl rfl ?_
   refine HO_nil ?_
   refine H_env (ρ':=[(3,_)]) ⟨rfl,trivial⟩ ?_
   refine H_world (kp [nn,yy] [_] rfl) ?_
   refine H_ret1 Try.results74 (.tmp rfl) (fun w hA => ⟨(),congrArg Ending.returned ?_,?_,?_⟩)
   ·(exact congrArg Value.bool (by first | (simp [Hist.lateP, *];done) | (simp_all [Hist.lateP];done)))
   ·trivial
   ·exact hA.keep (m:=[yy]) (Y:=[_]) rfl
  intro h12
  iterate 17 refine HO_no rfl rfl rfl ?_
  refine HO_pick_f rfl rfl rfl rfl ?_
  refine HO_assign rfl rfl rfl ?_
  refine HO_nil ?_
  refine H_env (ρ':=[(3,_)]) ⟨rfl,trivial⟩ ?_
  refine H_world (kp [nn,yy] [_] rfl) ?_
  refine H_ret1 Try.results74 (.tmp rfl) (fun w hA => ⟨(),congrArg Ending.returned ?_,?_,?_⟩)
  ·(exact congrArg Value.bool (by first | (simp [Hist.lateP, *];done) | (simp_all [Hist.lateP];done)))
  ·trivial
  ·exact hA.keep (m:=[yy]) (Y:=[_]) rfl
 intro h7
 replace h7:=dF h7
 iterate 3 refine HO_no rfl rfl rfl ?_
 refine HO_pick_f rfl rfl rfl rfl ?_
 refine HO_move rfl rfl rfl ?_
 iterate 17 refine HO_no rfl rfl rfl ?_
 refine HO_pick_f rfl rfl rfl rfl ?_
 refine HO_assign rfl rfl rfl ?_
 refine HO_nil ?_
 refine H_env (ρ':=[(3,_)]) ⟨rfl,trivial⟩ ?_
 refine H_world (kp [nn,yy] [_] rfl) ?_
 refine H_ret1 Try.results74 (.tmp rfl) (fun w hA => ⟨(),congrArg Ending.returned ?_,?_,?_⟩)
 ·(exact congrArg Value.bool (by first | (simp [Hist.lateP, *];done) | (simp_all [Hist.lateP];done)))
 ·trivial
 ·exact hA.keep (m:=[yy]) (Y:=[_]) rfl
theorem indexf_spec (ops : List Op) (a9 : Option Addr) (c9 : Nat) (g3 : Nat) (ki cs sq : Int) (ke ol cv ti : ByteArray) (li er : Int) (fo : Bool) (va : ByteArray) (se : Int) (ps : List Pair) (ap : Option Addr) (cp : Nat) (s0 s1 at_ : Int) (rd : Bool)  : Spec Try.prog 94 #[.slice a9 (ops.length) c9,.func (.func 74) #[] #[.pointer (some ⟨g3,0,none⟩)]] [.dat kOp.sl (ops) [.slice a9 (ops.length) c9],.loc g3 [.int .i64 (ki),.int .i64 (cs),.int .i64 (sq),.string (ke),.string (ol),.string (cv),.string (ti),.int .i64 (li),.int .i64 (er),.bool (fo),.string (va),.int .i64 (se),.slice ap (ps.length) cp,.int .i64 (s0),.int .i64 (s1),.int .i64 (at_),.bool (rd)] 40] (β:=Int) (fun y => .int .i64 (y)) (fun y => (0≤y ↔ ops.any (Hist.lateP (⟨⟨ki,cs,sq,ke,ol,cv,ti,li⟩,⟨er,fo,va,se,ps⟩,s0,s1,at_,rd⟩ : Op)) = true)) (fun y => [.loc g3 [.int .i64 (ki),.int .i64 (cs),.int .i64 (sq),.string (ke),.string (ol),.string (cv),.string (ti),.int .i64 (li),.int .i64 (er),.bool (fo),.string (va),.int .i64 (se),.slice ap (ps.length) cp,.int .i64 (s0),.int .i64 (s1),.int .i64 (at_),.bool (rd)] 40]):=by
 refine Spec.enter (vs:=[_,_]) Try.func94 rfl Try.ntmps94 rfl (Nat.le_of_ble_eq_true rfl) (fun w0 ok0 => ?_)
 generalize hM0 : blks _ = M0
 refine H_len_le (i:=0) rfl ?_
 intro hlen0
 refine H_seq ?_
 refine H_region (l:=[_]) rfl ?_
 refine HO_assign rfl rfl rfl ?_
 refine HO_nil ?_
 refine H_env (ρ':=[(0,_),(1,_)]) ⟨rfl,rfl,trivial⟩ ?_
 refine H_seq ?_
 refine H_seq ?_
 refine H_region (l:=[_,_,_]) rfl ?_
 refine HO_move rfl rfl rfl ?_
 refine HO_bi rfl rfl rfl (bi_len_sl Try.underlying23) ?_
 refine HO_move rfl rfl rfl ?_
 refine HO_nil ?_
 refine H_env (ρ':=[(8,_),(7,_),(0,_),(1,_)]) ⟨rfl,rfl,rfl,rfl,trivial⟩ ?_
 refine H_block ?_
 refine H_loop (σ:=Nat) (fun s => s≤ops.length∧(∀ (q : Nat) (x : Op),q < s→ops[q]? = some x→¬ Hist.lateP (⟨⟨ki,cs,sq,ke,ol,cv,ti,li⟩,⟨er,fo,va,se,ps⟩,s0,s1,at_,rd⟩ : Op) x = true)) (fun s => [(0,.slice a9 (ops.length) c9),(1,.func (.func 74) #[] #[.pointer (some ⟨g3,0,none⟩)]),(7,.int .i64 ((ops.length : Int))),(8,.int .i64 ((s : Int)))]) (fun s => Asn w0 ok0 M0 [.dat kOp.sl (ops) [.slice a9 (ops.length) c9],.loc g3 [.int .i64 (ki),.int .i64 (cs),.int .i64 (sq),.string (ke),.string (ol),.string (cv),.string (ti),.int .i64 (li),.int .i64 (er),.bool (fo),.string (va),.int .i64 (se),.slice ap (ps.length) cp,.int .i64 (s0),.int .i64 (s1),.int .i64 (at_),.bool (rd)] 40]) (fun s => ops.length - s) 0 ?_ ?_ ?_ ?_
 ·exact ⟨Nat.zero_le _,fun q x hq _ => absurd hq (Nat.not_lt_zero _)⟩
 ·exact ⟨rfl,rfl,rfl,rfl,trivial⟩
 ·intro w hA
  exact hA.only (is:=[0,1]) (Z:=[]) rfl
 ·intro i hI
  (try dsimp only at hI ⊢)
  refine H_seq ?_
  refine H_region (l:=[_]) rfl ?_
  refine HO_bin rfl rfl rfl rfl bin_lss ?_
  refine HO_nil ?_
  refine H_seq ?_
  refine H_cond rfl ?_ ?_
  ·intro h9
   replace h9:=dT h9
   refine H_skip ?_
   refine H_seq ?_
   refine H_block ?_
   refine H_seq ?_
   refine H_region (l:=[_,_]) rfl ?_
   refine HO_move rfl rfl rfl ?_
   refine HO_assign rfl rfl rfl ?_
   refine HO_nil ?_
   refine H_env (ρ':=[(5,_),(0,_),(1,_),(7,_),(8,_)]) ⟨rfl,rfl,rfl,rfl,rfl,trivial⟩ ?_
   refine H_seq ?_
   refine H_region (l:=[_,_,_,_,_,_]) rfl ?_
   iterate 3 refine HO_move rfl rfl rfl ?_
   refine HO_indexAddr open_Op (i:=0) rfl rfl rfl rfl rfl Try.underlying23 Try.sizeOf40 rfl ?_ ?_
   ·omega
   intro b14 o14 z14 y14 hz14 hI14
   (try simp only [BIG] at hI14)
   refine HO_loadA (i:=0) (us:=[]) (cs:=[_,_,_,_,_,_,_,_,_,_,_,_,_,_,_,_,_]) (ts:=[]) rfl rfl rfl Try.isAgg40 Try.sizeOf40 rfl (.elem _ _ _) rfl rfl rfl rfl ?_
   refine HO_call (first:=[]) (capt:=[_]) (is:=[3]) (R:=[_,_,_]) rfl rfl rfl rfl rfl Try.call74 rfl (late1_spec _ _ _ _ _ _ _ _ _ _ _ _ _ _ _ _ _ _ _ _ _ _ _ _ _ _ _ _ _ _ _ _ _ _ _ _ _ _ _) ?_
   intro y16 hy16
   clear y16 hy16
   refine HO_nil ?_
   refine H_env (ρ':=[(16,_),(5,_),(0,_),(1,_),(7,_),(8,_)]) ⟨rfl,rfl,rfl,rfl,rfl,rfl,trivial⟩ ?_
   refine H_world (kp [yy,nn,nn,yy] [_,_] rfl) ?_
   refine H_cond rfl ?_ ?_
   ·intro h16
    refine H_seq ?_
    refine H_region (l:=[_,_]) rfl ?_
    refine HO_move rfl rfl rfl ?_
    refine HO_assign rfl rfl rfl ?_
    refine HO_nil ?_
    refine H_env (ρ':=[(4,_)]) ⟨rfl,trivial⟩ ?_
    refine H_world (kp [yy,nn] [_] rfl) ?_
    refine H_ret1 Try.results94 (.tmp rfl) (fun w hA => ⟨(i : Int),congrArg Ending.returned ?_,?_,?_⟩)
    ·rfl
    ·exact Hist.any_yes hz14 h16
    ·exact hA.keep (m:=[yy]) (Y:=[_]) rfl
   intro h16
   refine H_skip ?_
   refine H_blk ?_
   refine H_region (l:=[_,_]) rfl ?_
   refine HO_bin rfl rfl rfl rfl (bin_add ?_ ?_) ?_
   ·(first | omega | assumption | decide)
   ·(first | omega | assumption | decide)
   refine HO_move rfl rfl rfl ?_
   refine HO_nil ?_
   refine H_env (ρ':=[(8,_),(0,_),(1,_),(7,_)]) ⟨rfl,rfl,rfl,rfl,trivial⟩ ?_
   refine H_inv (fun a w hf hA => ⟨i + 1,?_,?_,hf.sub ?_,?_⟩)
   ·exact ⟨by omega,Hist.any_next hz14 (by rw [show Hist.lateP _ z14 = false from h16];decide) hI.2⟩
   ·(try dsimp only);omega
   ·exact ⟨rfl,rfl,rfl,rfl,trivial⟩
   ·exact hA.only (is:=[0,0]) (Z:=[]) rfl
  intro h9
  replace h9:=dF h9
  refine H_exit rfl ?_
  refine H_seq ?_
  obtain rfl : i = ops.length:=by omega
  refine H_region (l:=[_]) rfl ?_
  refine HO_assign rfl rfl rfl ?_
  refine HO_nil ?_
  refine H_env (ρ':=[(4,_)]) ⟨rfl,trivial⟩ ?_
  refine H_world (kp [nn,yy] [_] rfl) ?_
  refine H_ret1 Try.results94 (.tmp rfl) (fun w hA => ⟨-1,congrArg Ending.returned ?_,?_,?_⟩)
  ·rfl
  ·exact Hist.any_no hI.2
  ·exact hA.keep (m:=[yy]) (Y:=[_]) rfl
theorem contf_spec (ops : List Op) (a9 : Option Addr) (c9 : Nat) (g3 : Nat) (ki cs sq : Int) (ke ol cv ti : ByteArray) (li er : Int) (fo : Bool) (va : ByteArray) (se : Int) (ps : List Pair) (ap : Option Addr) (cp : Nat) (s0 s1 at_ : Int) (rd : Bool)  : Spec Try.prog 73 #[.slice a9 (ops.length) c9,.func (.func 74) #[] #[.pointer (some ⟨g3,0,none⟩)]] [.dat kOp.sl (ops) [.slice a9 (ops.length) c9],.loc g3 [.int .i64 (ki),.int .i64 (cs),.int .i64 (sq),.string (ke),.string (ol),.string (cv),.string (ti),.int .i64 (li),.int .i64 (er),.bool (fo),.string (va),.int .i64 (se),.slice ap (ps.length) cp,.int .i64 (s0),.int .i64 (s1),.int .i64 (at_),.bool (rd)] 40] (β:=Unit) (fun y => .bool (ops.any (Hist.lateP (⟨⟨ki,cs,sq,ke,ol,cv,ti,li⟩,⟨er,fo,va,se,ps⟩,s0,s1,at_,rd⟩ : Op)))) (fun y => True) (fun y => [.loc g3 [.int .i64 (ki),.int .i64 (cs),.int .i64 (sq),.string (ke),.string (ol),.string (cv),.string (ti),.int .i64 (li),.int .i64 (er),.bool (fo),.string (va),.int .i64 (se),.slice ap (ps.length) cp,.int .i64 (s0),.int .i64 (s1),.int .i64 (at_),.bool (rd)] 40]):=by
 refine Spec.enter (vs:=[_,_]) Try.func73 rfl Try.ntmps73 rfl (Nat.le_of_ble_eq_true rfl) (fun w0 ok0 => ?_)
 generalize hM0 : blks _ = M0
 refine H_len_le (i:=0) rfl ?_
 intro hlen0
 refine H_seq ?_
 refine H_region (l:=[_]) rfl ?_
 refine HO_assign rfl rfl rfl ?_
 refine HO_nil ?_
 refine H_env (ρ':=[(0,_),(1,_)]) ⟨rfl,rfl,trivial⟩ ?_
 refine H_seq ?_
 refine H_region (l:=[_,_,_,_,_]) rfl ?_
 iterate 2 refine HO_move rfl rfl rfl ?_
 refine HO_dup (i:=0) rfl rfl ?_
 refine HO_call (first:=[]) (capt:=[]) (is:=[0,2]) (R:=[_]) rfl rfl rfl rfl rfl Try.call94 rfl (indexf_spec _ _ _ _ _ _ _ _ _ _ _ _ _ _ _ _ _ _ _ _ _ _ _) ?_
 intro y7 hy7
 refine HO_bin rfl rfl rfl rfl bin_geq ?_
 refine HO_assign rfl rfl rfl ?_
 refine HO_nil ?_
 refine H_env (ρ':=[(4,_)]) ⟨rfl,trivial⟩ ?_
 refine H_world (kp [yy,nn] [_] rfl) ?_
 refine H_ret1 Try.results73 (.tmp rfl) (fun w hA => ⟨(),congrArg Ending.returned ?_,?_,?_⟩)
 ·(exact congrArg Value.bool (dec_iff hy7))
 ·trivial
 ·exact hA.keep (m:=[yy]) (Y:=[_]) rfl
theorem late_spec (ops : List Op) (a9 : Option Addr) (c9 : Nat) (ki cs sq : Int) (ke ol cv ti : ByteArray) (li er : Int) (fo : Bool) (va : ByteArray) (se : Int) (ps : List Pair) (ap : Option Addr) (cp : Nat) (s0 s1 at_ : Int) (rd : Bool)  : Spec Try.prog 43 #[.slice a9 (ops.length) c9,.agg #[.int .i64 (ki),.int .i64 (cs),.int .i64 (sq),.string (ke),.string (ol),.string (cv),.string (ti),.int .i64 (li),.int .i64 (er),.bool (fo),.string (va),.int .i64 (se),.slice ap (ps.length) cp,.int .i64 (s0),.int .i64 (s1),.int .i64 (at_),.bool (rd)]] [.dat kOp.sl (ops) [.slice a9 (ops.length) c9]] (β:=Unit) (fun y => .bool (Hist.late ops (⟨⟨ki,cs,sq,ke,ol,cv,ti,li⟩,⟨er,fo,va,se,ps⟩,s0,s1,at_,rd⟩ : Op))) (fun y => True) (fun y => []):=by
 refine Spec.enter (vs:=[_,_]) Try.func43 rfl Try.ntmps43 rfl (Nat.le_of_ble_eq_true rfl) (fun w0 ok0 => ?_)
 generalize hM0 : blks _ = M0
 have hMn:=@noM _ _ hM0 (by simp [Atom.dat,Atom.elem])
 refine H_len_le (i:=0) rfl ?_
 intro hlen0
 refine H_seq ?_
 refine H_region (l:=[_,_]) rfl ?_
 refine HO_box (cs:=[_,_,_,_,_,_,_,_,_,_,_,_,_,_,_,_,_]) rfl rfl rfl rfl ?_
 intro g3
 refine HO_assign rfl rfl rfl ?_
 refine HO_nil ?_
 refine H_env (ρ':=[(3,_),(0,_)]) ⟨rfl,rfl,trivial⟩ ?_
 refine H_seq ?_
 refine H_region (l:=[_,_,_,_,_,_,_,_,_]) rfl ?_
 refine HO_fieldAddr (r:=15) rfl rfl rfl Try.underlying40 rfl Try.sizeOf3 rfl ?_
 refine HO_load1 (i:=0) (j:=15) rfl rfl rfl Try.isAgg3 rfl (.loc _ _ _) rfl rfl ?_
 refine HO_bin rfl rfl rfl rfl bin_geq ?_
 refine HO_move rfl rfl rfl ?_
 refine HO_split (d:=8) rfl ?_ ?_
 ·intro h8
  replace h8:=dT h8
  refine HO_move rfl rfl rfl ?_
  refine HO_makeFunc (vs:=[]) (us:=[_]) rfl rfl rfl rfl ?_
  refine HO_dup (i:=1) rfl rfl ?_
  refine HO_call (first:=[]) (capt:=[]) (is:=[0,1]) (R:=[_]) rfl rfl rfl rfl rfl Try.call73 rfl (contf_spec _ _ _ _ _ _ _ _ _ _ _ _ _ _ _ _ _ _ _ _ _ _ _) ?_
  intro y11 hy11
  clear y11 hy11
  refine HO_pick_t rfl rfl rfl rfl ?_
  refine HO_assign rfl rfl rfl ?_
  refine HO_nil ?_
  refine H_env (ρ':=[(4,_)]) ⟨rfl,trivial⟩ ?_
  refine H_world (kp [nn,nn] [] rfl) ?_
  refine H_ret1 Try.results43 (.tmp rfl) (fun w hA => ⟨(),congrArg Ending.returned ?_,?_,?_⟩)
  ·(exact congrArg Value.bool (by first | (simp [Hist.late, *];done) | (simp_all [Hist.late];done)))
  ·trivial
  ·exact hA.keep (m:=[]) (Y:=[]) rfl
 intro h8
 replace h8:=dF h8
 iterate 3 refine HO_no rfl rfl rfl ?_
 refine HO_pick_f rfl rfl rfl rfl ?_
 refine HO_assign rfl rfl rfl ?_
 refine HO_nil ?_
 refine H_env (ρ':=[(4,_)]) ⟨rfl,trivial⟩ ?_
 refine H_world (kp [nn,nn] [] rfl) ?_
 refine H_ret1 Try.results43 (.tmp rfl) (fun w hA => ⟨(),congrArg Ending.returned ?_,?_,?_⟩)
 ·(exact congrArg Value.bool (by first | (simp [Hist.late, *];done) | (simp_all [Hist.late];done)))
 ·trivial
 ·exact hA.keep (m:=[]) (Y:=[]) rfl
theorem past_spec (log : List Ent) (a8 : Option Addr) (c8 : Nat)  : Spec Try.prog 40 #[.slice a8 (log.length) c8] [.dat kEnt.sl (log) [.slice a8 (log.length) c8]] (β:=Nat × Nat × (Option Addr × Nat)) (fun y => .func (.func 72) #[] #[.pointer (some ⟨y.1,0,none⟩),.pointer (some ⟨y.2.1,0,none⟩)]) (fun y => True) (fun y => [.loc y.1 [.slice y.2.2.1 (((Hist.sts log 0)).length) y.2.2.2] 119,.own 56 kSt y.2.2.1 y.2.2.2 ((Hist.sts log 0)),.loc y.2.1 [.slice a8 (log.length) c8] 22,.dat kEnt.sl (log) [.slice a8 (log.length) c8]]):=by
 refine Spec.enter (vs:=[_]) Try.func40 rfl Try.ntmps40 rfl (Nat.le_of_ble_eq_true rfl) (fun w0 ok0 => ?_)
 generalize hM0 : blks _ = M0
 have hMn:=@noM _ _ hM0 (by simp [Atom.dat,Atom.elem])
 refine H_len_le (i:=0) rfl ?_
 intro hlen0
 refine H_seq ?_
 refine H_region (l:=[_,_]) rfl ?_
 refine HO_box (cs:=[_]) rfl rfl rfl rfl ?_
 intro g1
 refine HO_assign rfl rfl rfl ?_
 refine HO_nil ?_
 refine H_env (ρ':=[(1,_)]) ⟨rfl,trivial⟩ ?_
 refine H_seq ?_
 refine H_region (l:=[_,_,_,_]) rfl ?_
 refine HO_build (xo:=[]) (vs:=[]) rfl rfl rfl rfl (bd56__) ?_
 refine HO_nilDat kPair ?_
 refine HO_nilDat kSess ?_
 refine HO_buildSlice (kd:=kSt) (xo:=[_]) (vs:=[_]) (cs:=[_,_]) (xs:=[([],[])]) rfl rfl rfl rfl Try.underlying119 elt56 rfl rfl rfl (by decide) (by decide) (by simp [Value.cells]) rfl (fun ok w hA => ⟨_,_,rfl,⟨⟨Nat.zero_le _,Nat.zero_le _⟩,⟨⟨_,_⟩,⟨_,_⟩⟩,rfl,(List.forall_mem_cons.2 ⟨hA _ (List.mem_of_getElem? (i:=1) rfl),(List.forall_mem_cons.2 ⟨hA _ (List.mem_of_getElem? (i:=0) rfl),(by simp)⟩)⟩)⟩,rfl⟩) ?_
 intro g5
 refine HO_alloc (cs:=[_]) rfl rfl Try.zeroValue119 rfl ?_
 intro g3
 refine HO_store (i:=0) (j:=0) (us:=[]) (old:=[_]) (ts:=[]) (cs:=[_]) (R:=[_,_,_,_,_]) (new:=[_]) rfl rfl rfl Try.sizeOf119 rfl (by simp [Value.oneCell']) rfl rfl rfl rfl rfl rfl ?_
 refine HO_nil ?_
 refine H_env (ρ':=[(3,_),(1,_)]) ⟨rfl,rfl,trivial⟩ ?_
 refine H_world (kp [yy,yy,nn,nn,yy,yy] [_,_,_,_] rfl) ?_
 refine H_seq ?_
 refine H_region (l:=[_,_]) rfl ?_
 refine HO_makeFunc (vs:=[]) (us:=[_,_]) rfl rfl rfl rfl ?_
 refine HO_assign rfl rfl rfl ?_
 refine HO_nil ?_
 refine H_env (ρ':=[(2,_)]) ⟨rfl,trivial⟩ ?_
 refine H_ret1 Try.results40 (.tmp rfl) (fun w hA => ⟨(g3,g1,(some ⟨g5,0,none⟩,1)),congrArg Ending.returned ?_,?_,?_⟩)
 ·rfl
 ·trivial
 ·exact hA.keep (m:=[yy,yy,yy,yy]) (Y:=[_,_,_,_]) rfl
set_option maxHeartbeats 0 in
theorem past1_spec (log : List Ent) (a8 : Option Addr) (c8 : Nat) (m : Nat) (p : Option Addr) (q : Nat) (gs gl : Nat) (k : Int) (hl : log.length≤200) (hm : m≤log.length) (hk : 0≤k∧k≤log.length) : Spec Try.prog 72 #[.int .i64 (k),.pointer (some ⟨gs,0,none⟩),.pointer (some ⟨gl,0,none⟩)] [.loc gs [.slice p (((Hist.sts log m)).length) q] 119,.own 56 kSt p q ((Hist.sts log m)),.loc gl [.slice a8 (log.length) c8] 22,.dat kEnt.sl (log) [.slice a8 (log.length) c8]] (β:=Nat × (Option Addr × Nat) × (Option Addr × Nat) × (Option Addr × Nat)) (fun y => .agg #[.slice y.2.2.1.1 (((Hist.state log k.toNat).1).length) y.2.2.1.2,.slice y.2.2.2.1 (((Hist.state log k.toNat).2).length) y.2.2.2.2]) (fun y => y.1≤log.length) (fun y => [.loc gs [.slice y.2.1.1 (((Hist.sts log y.1)).length) y.2.1.2] 119,.own 56 kSt y.2.1.1 y.2.1.2 ((Hist.sts log y.1)),.loc gl [.slice a8 (log.length) c8] 22,.dat kPair.sl ((Hist.state log k.toNat).1) [.slice y.2.2.1.1 (((Hist.state log k.toNat).1).length) y.2.2.1.2],.dat kSess.sl ((Hist.state log k.toNat).2) [.slice y.2.2.2.1 (((Hist.state log k.toNat).2).length) y.2.2.2.2]]):=by
 refine Spec.enter (vs:=[_,_,_]) Try.func72 rfl Try.ntmps72 rfl (Nat.le_of_ble_eq_true rfl) (fun w0 ok0 => ?_)
 generalize hM0 : blks _ = M0
 refine H_len_le (i:=3) rfl ?_
 intro hlen3
 refine H_seq ?_
 refine H_region (l:=[_]) rfl ?_
 refine HO_alloc (cs:=[_,_]) rfl rfl Try.zeroValue56 rfl ?_
 intro g4
 refine HO_nil ?_
 refine H_seq ?_
 refine H_seq ?_
 refine H_region (l:=[_,_,_]) rfl ?_
 refine HO_load1 (i:=1) (j:=0) rfl rfl rfl Try.isAgg119 rfl (.loc _ _ _) rfl rfl ?_
 refine HO_bi rfl rfl rfl (bi_len_sl Try.underlying119) ?_
 refine HO_assign rfl rfl rfl ?_
 refine HO_nil ?_
 refine H_env (ρ':=[(5,_),(4,_),(0,_),(1,_),(2,_)]) ⟨rfl,rfl,rfl,rfl,rfl,trivial⟩ ?_
 refine H_block ?_
 refine H_loop (σ:=Nat × Option Addr × Nat) (fun s => s.1≤log.length) (fun s => [(0,.int .i64 (k)),(1,.pointer (some ⟨gs,0,none⟩)),(2,.pointer (some ⟨gl,0,none⟩)),(4,.pointer (some ⟨g4,0,none⟩)),(5,.int .i64 (((s.1 : Int) + 1)))]) (fun s => Asn w0 ok0 M0 [.loc gs [.slice s.2.1 (((Hist.sts log s.1)).length) s.2.2] 119,.own 56 kSt s.2.1 s.2.2 ((Hist.sts log s.1)),.loc gl [.slice a8 (log.length) c8] 22,.dat kEnt.sl (log) [.slice a8 (log.length) c8],.loc g4 [.slice none 0 0,.slice none 0 0] 56]) (fun s => (k + 1 - s.1).toNat) ⟨m,p,q⟩ ?_ ?_ ?_ ?_
 ·exact hm
 ·exact ⟨rfl,rfl,rfl,rfl,congrArg (fun z => some (Value.int .i64 z)) (by rw [Hist.sts_len];simp),trivial⟩
 ·intro w hA
  exact hA.only (is:=[0,1,2,3,0]) (Z:=[]) rfl
 ·rintro ⟨m',p',q'⟩ hI
  (try dsimp only at hI ⊢)
  refine H_seq ?_
  refine H_seq ?_
  refine H_region (l:=[_,_,_]) rfl ?_
  iterate 2 refine HO_move rfl rfl rfl ?_
  refine HO_bin rfl rfl rfl rfl bin_leq ?_
  refine HO_nil ?_
  refine H_env (ρ':=[(12,_),(0,_),(1,_),(2,_),(4,_),(5,_)]) ⟨rfl,rfl,rfl,rfl,rfl,rfl,trivial⟩ ?_
  refine H_cond rfl ?_ ?_
  ·intro h12
   replace h12:=dT h12
   refine H_skip ?_
   refine H_seq ?_
   refine H_block ?_
   refine H_seq ?_
   refine H_region (l:=[_,_,_,_,_,_,_]) rfl ?_
   refine HO_load1 (i:=0) (j:=0) rfl rfl rfl Try.isAgg119 rfl (.loc _ _ _) rfl rfl ?_
   refine HO_move rfl rfl rfl ?_
   refine HO_bin rfl rfl rfl rfl (bin_sub ?_ ?_) ?_
   ·omega
   ·omega
   refine HO_indexOwn (i:=1) (j:=m') rfl rfl rfl rfl ?_ Try.underlying119 Try.sizeOf56 rfl (by first | rfl | (simp;done) | (simp;omega)) ?_ rfl ?_
   ·omega
   ·(rw [Hist.sts_len];omega)
   intro g18 z18 hg18 hz18
   have hz0:=(Hist.sts_at hz18).1
   subst hz0
   refine HO_loadOwnA open_St (i:=1) rfl rfl rfl Try.isAgg56 Try.sizeOf56 rfl rfl hg18 rfl hz18 ?_
   intro y19 hI19
   (try simp only [BIG] at hI19)
   refine HO_alloc (cs:=[_,_]) rfl rfl Try.zeroValue56 rfl ?_
   intro g6
   refine HO_store (i:=0) (j:=0) (us:=[]) (old:=[_,_]) (ts:=[]) (cs:=[_,_]) (R:=[_,_,_,_,_,_,_]) (new:=[_,_]) rfl rfl rfl Try.sizeOf56 rfl (by simp [Value.oneCell']) rfl rfl rfl rfl rfl rfl ?_
   refine HO_nil ?_
   refine H_env (ρ':=[(6,_),(0,_),(1,_),(2,_),(4,_),(5,_)]) ⟨rfl,rfl,rfl,rfl,rfl,rfl,trivial⟩ ?_
   refine H_seq ?_
   refine H_seq ?_
   refine H_region (l:=[_,_,_,_,_,_,_]) rfl ?_
   refine HO_load1 (i:=5) (j:=0) rfl rfl rfl Try.isAgg22 rfl (.loc _ _ _) rfl rfl ?_
   refine HO_move rfl rfl rfl ?_
   refine HO_bin rfl rfl rfl rfl (bin_sub ?_ ?_) ?_
   ·omega
   ·omega
   refine HO_indexAddr open_Ent (i:=6) (j:=m') rfl rfl rfl rfl ?_ Try.underlying22 Try.sizeOf44 rfl ?_ ?_
   ·omega
   ·omega
   intro b23 o23 z23 y23 hz23 hI23
   (try simp only [BIG] at hI23)
   refine HO_loadA (i:=0) (us:=[]) (cs:=[_,_,_,_,_,_,_,_,_,_,_,_,_]) (ts:=[]) rfl rfl rfl Try.isAgg44 Try.sizeOf44 rfl (.elem _ _ _) rfl rfl rfl rfl ?_
   refine HO_alloc (cs:=[_,_,_,_,_,_,_,_,_,_,_,_,_]) rfl rfl Try.zeroValue44 rfl ?_
   intro g7
   refine HO_store (i:=0) (j:=0) (us:=[]) (old:=[_,_,_,_,_,_,_,_,_,_,_,_,_]) (ts:=[]) (cs:=[_,_,_,_,_,_,_,_,_,_,_,_,_]) (R:=[_,_,_,_,_,_,_,_,_,_,_]) (new:=[_,_,_,_,_,_,_,_,_,_,_,_,_]) rfl rfl rfl Try.sizeOf44 rfl (by simp [Value.oneCell']) rfl rfl rfl rfl rfl rfl ?_
   refine HO_nil ?_
   refine H_env (ρ':=[(7,_),(6,_),(0,_),(1,_),(2,_),(4,_),(5,_)]) ⟨rfl,rfl,rfl,rfl,rfl,rfl,rfl,trivial⟩ ?_
   refine H_world (kp [yy,nn,yy,yy,yy,yy,yy,yy,yy,yy,yy,yy] [_,_,_,_,_,_,_,_,_,_,_] rfl) ?_
   refine H_seq ?_
   refine H_region (l:=[_,_,_]) rfl ?_
   refine HO_fieldAddr (r:=2) rfl rfl rfl Try.underlying44 rfl Try.sizeOf3 rfl ?_
   refine HO_load1 (i:=0) (j:=2) rfl rfl rfl Try.isAgg3 rfl (.loc _ _ _) rfl rfl ?_
   refine HO_bin rfl rfl rfl rfl bin_eql ?_
   refine HO_nil ?_
   refine H_env (ρ':=[(27,_),(7,_),(6,_),(0,_),(1,_),(2,_),(4,_),(5,_)]) ⟨rfl,rfl,rfl,rfl,rfl,rfl,rfl,rfl,trivial⟩ ?_
   refine H_cond rfl ?_ ?_
   ·intro h27
    replace h27:=dT h27
    refine H_region (l:=[_,_,_,_,_,_,_,_,_,_]) rfl ?_
    refine HO_loadA (i:=3) (us:=[]) (cs:=[_,_]) (ts:=[]) rfl rfl rfl Try.isAgg56 Try.sizeOf56 rfl (.loc _ _ _) rfl rfl rfl rfl ?_
    refine HO_fieldAddr (r:=0) rfl rfl rfl Try.underlying44 rfl Try.sizeOf3 rfl ?_
    refine HO_load1 (i:=0) (j:=0) rfl rfl rfl Try.isAgg3 rfl (.loc _ _ _) rfl rfl ?_
    refine HO_fieldAddr (r:=3) rfl rfl rfl Try.underlying44 rfl Try.sizeOf36 rfl ?_
    refine HO_loadA (i:=0) (us:=[_,_,_]) (cs:=[_,_,_,_,_,_,_,_]) (ts:=[_,_]) rfl rfl rfl Try.isAgg36 Try.sizeOf36 rfl (.loc _ _ _) rfl rfl rfl rfl ?_
    refine HO_dup (i:=4) rfl rfl ?_
    refine HO_dup (i:=6) rfl rfl ?_
    refine HO_call (first:=[]) (capt:=[]) (is:=[0,0]) (R:=[_,_,_,_,_,_,_,_,_,_,_]) rfl rfl rfl rfl rfl Try.call29 rfl (apply_spec _ _ _ _ _ _ _ _ _ _ _ _ _ _ _ ?_ ?_ ?_ ?_ ?_ ?_) ?_
    ·exact Hist.state_inv log m'
    ·exact hI23.1
    ·exact hI23.2.2.2.2.1
    ·exact hI23.2.2.2.2.2.1
    ·(have:=hI23.2.2.2.2.2.2.1;simp only [BIG];omega)
    ·(have:=hI23.2.2.2.2.2.2.2.2.1;simp only [BIG];omega)
    intro y34 hy34
    refine HO_move rfl rfl rfl ?_
    refine HO_extract (vs:=[_,_]) rfl rfl rfl rfl ?_
    refine HO_extract (vs:=[_,_]) rfl rfl rfl rfl ?_
    refine HO_store (i:=6) (j:=0) (us:=[]) (old:=[_,_]) (ts:=[]) (cs:=[_,_]) (R:=[_,_,_,_,_,_,_,_,_,_,_,_,_]) (new:=[_,_]) rfl rfl rfl Try.sizeOf56 rfl (by simp [Value.oneCell']) rfl rfl rfl rfl rfl rfl ?_
    refine HO_nil ?_
    refine H_env (ρ':=[(6,_),(0,_),(1,_),(2,_),(4,_),(5,_)]) ⟨rfl,rfl,rfl,rfl,rfl,rfl,trivial⟩ ?_
    refine H_world (kp [yy,yy,yy,nn,nn,nn,nn,nn,nn,yy,yy,yy,yy,yy] [_,_,_,_,_,_,_,_] rfl) ?_
    have hst:=Hist.state_next hz23
    have hsi:=Hist.state_inv log (m' + 1)
    rw [hst] at hsi
    have hst2 : Hist.state log (m' + 1) = ((Mod.apply (Hist.state log m').1 (Hist.state log m').2 z23.idx ⟨z23.cmd.kind,z23.cmd.sess,z23.cmd.seq,z23.cmd.key,z23.cmd.old,z23.cmd.val,z23.cmd.til,z23.cmd.lim⟩).1,(Mod.apply (Hist.state log m').1 (Hist.state log m').2 z23.idx ⟨z23.cmd.kind,z23.cmd.sess,z23.cmd.seq,z23.cmd.key,z23.cmd.old,z23.cmd.val,z23.cmd.til,z23.cmd.lim⟩).2.1):=by rw [hst];unfold Mod.step;rw [if_pos h27]
    have hSI : ((Mod.apply (Hist.state log m').1 (Hist.state log m').2 z23.idx ⟨z23.cmd.kind,z23.cmd.sess,z23.cmd.seq,z23.cmd.key,z23.cmd.old,z23.cmd.val,z23.cmd.til,z23.cmd.lim⟩).1,(Mod.apply (Hist.state log m').1 (Hist.state log m').2 z23.idx ⟨z23.cmd.kind,z23.cmd.sess,z23.cmd.seq,z23.cmd.key,z23.cmd.old,z23.cmd.val,z23.cmd.til,z23.cmd.lim⟩).2.1).1.length≤BIG∧((Mod.apply (Hist.state log m').1 (Hist.state log m').2 z23.idx ⟨z23.cmd.kind,z23.cmd.sess,z23.cmd.seq,z23.cmd.key,z23.cmd.old,z23.cmd.val,z23.cmd.til,z23.cmd.lim⟩).1,(Mod.apply (Hist.state log m').1 (Hist.state log m').2 z23.idx ⟨z23.cmd.kind,z23.cmd.sess,z23.cmd.seq,z23.cmd.key,z23.cmd.old,z23.cmd.val,z23.cmd.til,z23.cmd.lim⟩).2.1).2.length≤BIG:=by rw [← hst2];exact ⟨Nat.le_trans (Hist.state_inv log (m' + 1)).pl (by decide),Nat.le_trans (Hist.state_inv log (m' + 1)).sl (by decide)⟩
    refine H_region (l:=[_,_,_,_,_]) rfl ?_
    refine HO_load1 (i:=3) (j:=0) rfl rfl rfl Try.isAgg119 rfl (.loc _ _ _) rfl rfl ?_
    refine HO_loadA (i:=0) (us:=[]) (cs:=[_,_]) (ts:=[]) rfl rfl rfl Try.isAgg56 Try.sizeOf56 rfl (.loc _ _ _) rfl rfl rfl rfl ?_
    refine HO_buildSlice (kd:=kSt) (xo:=[_]) (vs:=[_]) (cs:=[_,_]) (xs:=[((Mod.apply (Hist.state log m').1 (Hist.state log m').2 z23.idx ⟨z23.cmd.kind,z23.cmd.sess,z23.cmd.seq,z23.cmd.key,z23.cmd.old,z23.cmd.val,z23.cmd.til,z23.cmd.lim⟩).1,(Mod.apply (Hist.state log m').1 (Hist.state log m').2 z23.idx ⟨z23.cmd.kind,z23.cmd.sess,z23.cmd.seq,z23.cmd.key,z23.cmd.old,z23.cmd.val,z23.cmd.til,z23.cmd.lim⟩).2.1)]) rfl rfl rfl rfl Try.underlying119 elt56 rfl rfl rfl (by decide) (by decide) (by simp [Value.cells]) rfl (fun ok w hA => ⟨_,_,rfl,⟨hSI,⟨⟨_,_⟩,⟨_,_⟩⟩,rfl,(List.forall_mem_cons.2 ⟨hA _ (List.mem_of_getElem? (i:=1) rfl),(List.forall_mem_cons.2 ⟨hA _ (List.mem_of_getElem? (i:=2) rfl),(by simp)⟩)⟩)⟩,rfl⟩) ?_
    intro g39
    refine HO_append (i:=5) (R:=[_,_,_,_,_,_,_,_]) rfl rfl rfl rfl rfl Try.underlying119 elt56 rfl rfl (SrcOk.own (j:=0) Try.underlying119 rfl rfl) ?_ ?_
    ·(rw [Hist.sts_len];simp only [List.length_cons,List.length_nil];omega)
    intro a40 c40
    refine HO_store (i:=5) (j:=0) (us:=[]) (old:=[_]) (ts:=[]) (cs:=[_]) (R:=[_,_,_,_,_,_,_,_]) (new:=[_]) rfl rfl rfl Try.sizeOf119 rfl (by simp [Value.oneCell']) rfl rfl rfl rfl rfl rfl ?_
    refine HO_nil ?_
    refine H_env (ρ':=[(0,_),(1,_),(2,_),(4,_),(5,_)]) ⟨rfl,rfl,rfl,rfl,rfl,trivial⟩ ?_
    refine H_world (kp [yy,yy,nn,nn,nn,nn,yy,yy,yy] [_,_,_,_,_] rfl) ?_
    refine H_blk ?_
    refine H_region (l:=[_,_,_]) rfl ?_
    refine HO_move rfl rfl rfl ?_
    refine HO_bin rfl rfl rfl rfl (bin_add ?_ ?_) ?_
    ·omega
    ·omega
    refine HO_assign rfl rfl rfl ?_
    refine HO_nil ?_
    refine H_env (ρ':=[(5,_),(0,_),(1,_),(2,_),(4,_)]) ⟨rfl,rfl,rfl,rfl,rfl,trivial⟩ ?_
    refine H_inv (fun a w hf hA => ⟨⟨m' + 1,a40,c40⟩,?_,?_,hf.sub ?_,?_⟩)
    ·(show m' + 1≤log.length;omega)
    ·(show (k + 1 - ((m' + 1 : Nat) : Int)).toNat < (k + 1 - (m' : Int)).toNat;omega)
    ·exact ⟨rfl,rfl,rfl,rfl,congrArg (fun z => some (Value.int .i64 z)) (by dsimp only;omega),trivial⟩
    ·(dsimp only;rw [Hist.sts_next,hst2];exact hA.only (is:=[0,1,2,3,4]) (Z:=[]) rfl)
   intro h27
   replace h27:=dF h27
   refine H_skip ?_
   have hst:=Hist.state_next hz23
   have hsi:=Hist.state_inv log (m' + 1)
   rw [hst] at hsi
   have hst2 : Hist.state log (m' + 1) = Hist.state log m':=by rw [hst];unfold Mod.step;rw [if_neg h27]
   have hSI : (Hist.state log m').1.length≤BIG∧(Hist.state log m').2.length≤BIG:=⟨Nat.le_trans (Hist.state_inv log m').pl (by decide),Nat.le_trans (Hist.state_inv log m').sl (by decide)⟩
   refine H_region (l:=[_,_,_,_,_]) rfl ?_
   refine HO_load1 (i:=6) (j:=0) rfl rfl rfl Try.isAgg119 rfl (.loc _ _ _) rfl rfl ?_
   refine HO_loadA (i:=3) (us:=[]) (cs:=[_,_]) (ts:=[]) rfl rfl rfl Try.isAgg56 Try.sizeOf56 rfl (.loc _ _ _) rfl rfl rfl rfl ?_
   refine HO_buildSlice (kd:=kSt) (xo:=[_]) (vs:=[_]) (cs:=[_,_]) (xs:=[Hist.state log m']) rfl rfl rfl rfl Try.underlying119 elt56 rfl rfl rfl (by decide) (by decide) (by simp [Value.cells]) rfl (fun ok w hA => ⟨_,_,rfl,⟨hSI,⟨⟨_,_⟩,⟨_,_⟩⟩,rfl,(List.forall_mem_cons.2 ⟨hA _ (List.mem_of_getElem? (i:=4) rfl),(List.forall_mem_cons.2 ⟨hA _ (List.mem_of_getElem? (i:=5) rfl),(by simp)⟩)⟩)⟩,rfl⟩) ?_
   intro g39
   refine HO_append (i:=8) (R:=[_,_,_,_,_,_,_,_,_,_,_]) rfl rfl rfl rfl rfl Try.underlying119 elt56 rfl rfl (SrcOk.own (j:=0) Try.underlying119 rfl rfl) ?_ ?_
   ·(rw [Hist.sts_len];simp only [List.length_cons,List.length_nil];omega)
   intro a40 c40
   refine HO_store (i:=8) (j:=0) (us:=[]) (old:=[_]) (ts:=[]) (cs:=[_]) (R:=[_,_,_,_,_,_,_,_,_,_,_]) (new:=[_]) rfl rfl rfl Try.sizeOf119 rfl (by simp [Value.oneCell']) rfl rfl rfl rfl rfl rfl ?_
   refine HO_nil ?_
   refine H_env (ρ':=[(0,_),(1,_),(2,_),(4,_),(5,_)]) ⟨rfl,rfl,rfl,rfl,rfl,trivial⟩ ?_
   refine H_world (kp [yy,yy,nn,nn,nn,nn,nn,nn,nn,yy,yy,yy] [_,_,_,_,_] rfl) ?_
   refine H_blk ?_
   refine H_region (l:=[_,_,_]) rfl ?_
   refine HO_move rfl rfl rfl ?_
   refine HO_bin rfl rfl rfl rfl (bin_add ?_ ?_) ?_
   ·omega
   ·omega
   refine HO_assign rfl rfl rfl ?_
   refine HO_nil ?_
   refine H_env (ρ':=[(5,_),(0,_),(1,_),(2,_),(4,_)]) ⟨rfl,rfl,rfl,rfl,rfl,trivial⟩ ?_
   refine H_inv (fun a w hf hA => ⟨⟨m' + 1,a40,c40⟩,?_,?_,hf.sub ?_,?_⟩)
   ·(show m' + 1≤log.length;omega)
   ·(show (k + 1 - ((m' + 1 : Nat) : Int)).toNat < (k + 1 - (m' : Int)).toNat;omega)
   ·exact ⟨rfl,rfl,rfl,rfl,congrArg (fun z => some (Value.int .i64 z)) (by dsimp only;omega),trivial⟩
   ·(dsimp only;rw [Hist.sts_next,hst2];exact hA.only (is:=[0,1,2,3,4]) (Z:=[]) rfl)
  intro h12
  replace h12:=dF h12
  refine H_exit rfl ?_
  refine H_seq ?_
  refine H_region (l:=[_,_,_,_,_]) rfl ?_
  refine HO_load1 (i:=0) (j:=0) rfl rfl rfl Try.isAgg119 rfl (.loc _ _ _) rfl rfl ?_
  refine HO_move rfl rfl rfl ?_
  refine HO_indexOwn (i:=1) (j:=k.toNat) rfl rfl rfl rfl ?_ Try.underlying119 Try.sizeOf56 rfl (by first | rfl | (simp;done) | (simp;omega)) ?_ rfl ?_
  ·omega
  ·(rw [Hist.sts_len];omega)
  intro g43 z43 hg43 hz43
  have hz0:=(Hist.sts_at hz43).1
  subst hz0
  refine HO_loadOwnA open_St (i:=1) rfl rfl rfl Try.isAgg56 Try.sizeOf56 rfl rfl hg43 rfl hz43 ?_
  intro y44 hI44
  (try simp only [BIG] at hI44)
  refine HO_store (i:=6) (j:=0) (us:=[]) (old:=[_,_]) (ts:=[]) (cs:=[_,_]) (R:=[_,_,_,_,_,_]) (new:=[_,_]) rfl rfl rfl Try.sizeOf56 rfl (by simp [Value.oneCell']) rfl rfl rfl rfl rfl rfl ?_
  refine HO_nil ?_
  refine H_env (ρ':=[(4,_)]) ⟨rfl,trivial⟩ ?_
  refine H_ret1 Try.results72 (.cell rfl (fun w hA => run_loadVarA (cs:=[_,_]) (Try.isAgg56 w) (Try.sizeOf56 w) (Tells.cells (.loc _ _ _) (hA.get (i:=0) rfl)))) (fun w hA => ⟨(m',(p',q'),y44.1,y44.2),congrArg Ending.returned ?_,?_,?_⟩)
  ·rfl
  ·exact hI
  ·exact hA.only (is:=[1,2,3,1,2]) (Z:=[_,_]) rfl
end Go.Wk
