/- Contracts of the program's functions, each proved by walking its code. -/
import Derived.Test.YtdaphlemhmgncaaGreatKgnet3
set_option maxRecDepth 100000
set_option linter.unusedVariables false
set_option linter.unusedSimpArgs false
namespace Go.Wk.Fnet4
open Go Go.RowKit Go.Proofs Go.Wk
theorem elt5 : Elt Tryz.prog 5 (.int .u8 (0)) 1 1:=Elt.of (by kernel_rfl) (by rfl) (by decide) (by decide)
theorem elt32 : Elt Tryz.prog 32 (.slice none 0 0) 1 24:=Elt.of (by kernel_rfl) (by rfl) (by decide) (by decide)
theorem bd36__  : ∀ w,(Instr.build 36 (List.toArray (List.zip [] []))).run Tryz.prog w = .ok (.agg #[.int .i64 (0),.int .i64 (0),.int .i64 (0),.int .i64 (0),.int .i64 (0),.int .i64 (0),.int .i64 (0),.int .i64 (0),.bool (false),.int .i64 (0),.slice none 0 0,.int .i64 (0),.int .i64 (0),.slice none 0 0,.slice none 0 0,.slice none 0 0]) w:=fun _ => by kernel_rfl
theorem bd55_0_i {x1 : Int} : ∀ w,(Instr.build 55 (List.toArray (List.zip [0] [.int .i64 x1]))).run Tryz.prog w = .ok (.agg #[.int .i64 x1,.slice none 0 0]) w:=fun _ => by kernel_rfl
end Go.Wk.Fnet4
namespace Go.Wk
open Go Go.RowKit Go.Proofs Fnet4 
theorem rnew_bad (mo : Int) (h0 : ¬ (1≤mo∧mo≤1000)) : Spec Tryz.prog 7 #[.int .i64 (mo)] [] (β:=Unit) (fun y => .pointer none) (fun y => True) (fun y => []):=by
 refine Spec.enter (vs:=[_]) Tryz.func7 rfl Tryz.ntmps7 rfl (Nat.le_of_ble_eq_true rfl) (fun w0 ok0 => ?_)
 generalize hM0 : blks _ = M0
 have hMn:=@noM _ _ hM0 (by simp [Atom.dat,Atom.elem])
 refine SQ (RG rfl (AS rfl (NI [0] [_] rfl (SQ (SQ (RG rfl (MV rfl (BN rfl bin_lss (MV rfl (HO_split (d:=5) rfl ?_ ?_))))))))))
 ·intro h5
  replace h5:=dT h5
  refine NO rfl (NO rfl (PT rfl (NI [8,0] [_,_] rfl (CT rfl (SQ (RG rfl (AS rfl (NI [2] [_] rfl (R1 Tryz.results7 () rfl (fun w hA => ⟨?_,?_,?_⟩))))))))))
  ·rfl
  ·trivial
  ·exact hA.keep (m:=[]) (Y:=[]) rfl
 intro h5
 replace h5:=dF h5
 refine MV rfl (BN rfl bin_gtr (PF rfl (NI [8,0] [_,_] rfl (H_cond rfl ?_ ?_))))
 ·intro h8
  replace h8:=dT h8
  refine SQ (RG rfl (AS rfl (NI [2] [_] rfl (R1 Tryz.results7 () rfl (fun w hA => ⟨?_,?_,?_⟩)))))
  ·rfl
  ·trivial
  ·exact hA.keep (m:=[]) (Y:=[]) rfl
 intro h8
 replace h8:=dF h8
 (exfalso;omega)
theorem rnew_ok (mo : Int) (h0 : 1≤mo∧mo≤1000) : Spec Tryz.prog 7 #[.int .i64 (mo)] [] (β:=Nat) (fun y => .pointer (some ⟨y,0,none⟩)) (fun y => True) (fun y => [.loc y [.int .i64 (mo),.slice none 0 0] 55]):=by
 refine Spec.enter (vs:=[_]) Tryz.func7 rfl Tryz.ntmps7 rfl (Nat.le_of_ble_eq_true rfl) (fun w0 ok0 => ?_)
 generalize hM0 : blks _ = M0
 have hMn:=@noM _ _ hM0 (by simp [Atom.dat,Atom.elem])
 refine SQ (RG rfl (AS rfl (NI [0] [_] rfl (SQ (SQ (RG rfl (MV rfl (BN rfl bin_lss (MV rfl (HO_split (d:=5) rfl ?_ ?_))))))))))
 ·intro h5
  replace h5:=dT h5
  (exfalso;omega)
 intro h5
 replace h5:=dF h5
 refine MV rfl (BN rfl bin_gtr (PF rfl (NI [8,0] [_,_] rfl (H_cond rfl ?_ ?_))))
 ·intro h8
  replace h8:=dT h8
  (exfalso;omega)
 intro h8
 replace h8:=dF h8
 refine SK (SQ (RG rfl (MV rfl (HO_build (xo:=[(0,_)]) (vs:=[_]) rfl rfl rfl rfl (bd55_0_i) (BX [_,_] rfl ?_)))))
 intro g11
 refine AS rfl (NI [2] [_] rfl (R1 Tryz.results7 g11 rfl (fun w hA => ⟨?_,?_,?_⟩)))
 ·rfl
 ·trivial
 ·exact hA.keep (m:=[yy]) (Y:=[_]) rfl
theorem rsend_spec (g : Nat) (mo : Int) (la : Option Addr) (lc : Nat) (L : List Bs) (mk mf mt me mi ml mc mr : Int) (rj : Bool) (hi : Int) (es : List Ent) (a9 : Option Addr) (c9 : Nat) (ix te : Int) (vo le : List Int) (a1 : Option Addr) (c1 : Nat) (a2 : Option Addr) (c2 : Nat) (da : List UInt8) (a3 : Option Addr) (c3 : Nat) (hll : L.length≤1000) (nd : da.length≤BIG) (n1 : vo.length≤BIG) (n2 : le.length≤BIG) (hm : (-9223372036854775808≤mk∧mk≤9223372036854775807)∧(-9223372036854775808≤mf∧mf≤9223372036854775807)∧(-9223372036854775808≤mt∧mt≤9223372036854775807)∧(-9223372036854775808≤me∧me≤9223372036854775807)∧(-9223372036854775808≤mi∧mi≤9223372036854775807)∧(-9223372036854775808≤ml∧ml≤9223372036854775807)∧(-9223372036854775808≤mc∧mc≤9223372036854775807)∧(-9223372036854775808≤mr∧mr≤9223372036854775807)) (hhi : (-9223372036854775808≤hi∧hi≤9223372036854775807)) (hrs : (-9223372036854775808≤ix∧ix≤9223372036854775807)∧(-9223372036854775808≤te∧te≤9223372036854775807)) (hsn : Ent.sanes es) (hfw : Ent.few es ⟨ix,te,⟨vo,le⟩,da⟩ = true) : Spec Tryz.prog 11 #[.pointer (some ⟨g,0,none⟩),.agg #[.int .i64 (mk),.int .i64 (mf),.int .i64 (mt),.int .i64 (me),.int .i64 (mi),.int .i64 (ml),.int .i64 (mc),.int .i64 (mr),.bool (rj),.int .i64 (hi),.slice a9 (es.length) c9,.int .i64 (ix),.int .i64 (te),.slice a1 (vo.length) c1,.slice a2 (le.length) c2,.slice a3 (da.length) c3]] [.loc g [.int .i64 (mo),.slice la (L.length) lc] 55,.own 32 kBs la lc (L),.dat kEnt.sl (es) [.slice a9 (es.length) c9],.dat kInt.sl (vo) [.slice a1 (vo.length) c1],.dat kInt.sl (le) [.slice a2 (le.length) c2],.dat kByte.sl (da) [.slice a3 (da.length) c3]] (β:=Option Addr × Nat) (fun y => .int .i64 (Net.sendE mo L.length ⟨mk,mf,mt,me,mi,ml,mc,mr,rj,hi,es,⟨ix,te,⟨vo,le⟩,da⟩⟩)) (fun y => True) (fun y => [.loc g [.int .i64 (mo),.slice y.1 (((Net.sendL mo L ⟨mk,mf,mt,me,mi,ml,mc,mr,rj,hi,es,⟨ix,te,⟨vo,le⟩,da⟩⟩)).length) y.2] 55,.own 32 kBs y.1 y.2 ((Net.sendL mo L ⟨mk,mf,mt,me,mi,ml,mc,mr,rj,hi,es,⟨ix,te,⟨vo,le⟩,da⟩⟩))]):=by
 (try simp only [BIG] at nd n1 n2)
 have hfp:=Ent.few_parts hfw
 dsimp only at hfp
 have hws:=hfp.1
 have hln:=Ent.msg_len (m:=⟨mk,mf,mt,me,mi,ml,mc,mr,rj,hi,es,⟨ix,te,⟨vo,le⟩,da⟩⟩) hfw
 refine Spec.enter (vs:=[_,_]) Tryz.func11 rfl Tryz.ntmps11 rfl (Nat.le_of_ble_eq_true rfl) (fun w0 ok0 => ?_)
 generalize hM0 : blks _ = M0
 refine H_len_le (i:=2) rfl ?_
 intro hlen2
 refine H_len_le (i:=3) rfl ?_
 intro hlen3
 refine H_len_le (i:=4) rfl ?_
 intro hlen4
 refine SQ (RG rfl (BX [_,_,_,_,_,_,_,_,_,_,_,_,_,_,_,_] rfl ?_))
 intro g3
 refine AS rfl (NI [3,0] [_,_] rfl (SQ (BO (SQ (RG rfl (LA 0 [] [_,_,_,_,_,_,_,_,_,_,_,_,_,_,_,_] [] rfl (.loc _ _ _) Tryz.isAgg36 Tryz.sizeOf36 rfl (DU 3 rfl (DU 5 rfl (DU 7 rfl (DU 9 rfl (CB [0,0,0,0] [_,_,_,_,_,_,_] rfl Tryz.call24 (rgoodmsg_spec _ _ _ _ _ _ _ _ _ _ _ _ _ _ _ _ _ _ _ _ _ _ _ _ ?_ ?_ ?_ ?_) ?_)))))))))))
 ·(dsimp only [BIG];omega)
 ·(dsimp only [BIG];omega)
 ·(dsimp only [BIG];omega)
 ·exact hm.2.2.2.2.1.2
 intro y7 hy7
 clear y7 hy7
 refine NT rfl (AS rfl (NI [5,3,0] [_,_,_] rfl (H_cond rfl ?_ ?_)))
 ·intro h5
  replace h5:=nT h5
  have hno : ¬ Net.sendP mo L.length ⟨mk,mf,mt,me,mi,ml,mc,mr,rj,hi,es,⟨ix,te,⟨vo,le⟩,da⟩⟩:=fun h => absurd (h5.symm.trans h.1) (by decide)
  refine SQ (RG rfl (AS rfl (NI [4] [_] rfl (WD 6 [_,_] rfl (R1 Tryz.results11 (la,lc) rfl (fun w hA => ⟨?_,?_,?_⟩))))))
  ·(exact congrArg (Value.int .i64) (by unfold Net.sendE;rw [h5];rfl))
  ·trivial
  ·(rw [Net.sendL_no hno];exact hA.keep (m:=[yy,yy]) (Y:=[_,_]) rfl)
 intro h5
 replace h5:=nF h5
 refine SQ (H_drawB (m:=[yy,yy,yy,yy,yy,yy,yy]) (Xs:=[_,_,_,_,_,_,_]) (fuel:=11) (l:=#[false,false,false,false,false,false,false,false,false,false,false]) mixed rfl rfl rfl (TA 0 rfl (by kernel_rfl) (V_move rfl) (TA 1 rfl (by kernel_rfl) (V_nilCheck rfl) (TA 2 rfl (by kernel_rfl) (V_fieldAddr (r:=1) rfl Tryz.underlying55 rfl Tryz.sizeOf53 rfl) (TA 3 rfl (by kernel_rfl) (V_load1 (i:=1) (j:=1) rfl Tryz.isAgg53 rfl (.loc _ _ _) rfl rfl) (TA 4 rfl (by kernel_rfl) (V_bi rfl (bi_len_sl Tryz.underlying53)) (TA 5 rfl (by kernel_rfl) (V_move rfl) (TA 6 rfl (by kernel_rfl) (V_nilCheck rfl) (TA 7 rfl (by kernel_rfl) (V_fieldAddr (r:=0) rfl Tryz.underlying55 rfl Tryz.sizeOf3 rfl) (TA 8 rfl (by kernel_rfl) (V_load1 (i:=1) (j:=0) rfl Tryz.isAgg3 rfl (.loc _ _ _) rfl rfl) (TA 9 rfl (by kernel_rfl) (V_bin rfl rfl bin_geq) (TA 10 rfl (by kernel_rfl) (V_assign rfl) (HA_done (by kernel_rfl) ?_)))))))))))))
 refine EV [9,3,0] [_,_,_] rfl (H_cond rfl ?_ ?_)
 ·intro h9
  replace h9:=dT h9
  have hno : ¬ Net.sendP mo L.length ⟨mk,mf,mt,me,mi,ml,mc,mr,rj,hi,es,⟨ix,te,⟨vo,le⟩,da⟩⟩:=fun h => absurd h.2 (by omega)
  refine SQ (RG rfl (AS rfl (NI [4] [_] rfl (WD 6 [_,_] rfl (R1 Tryz.results11 (la,lc) rfl (fun w hA => ⟨?_,?_,?_⟩))))))
  ·(exact congrArg (Value.int .i64) (by unfold Net.sendE;rw [h5,if_pos rfl,if_neg (by omega)]))
  ·trivial
  ·(rw [Net.sendL_no hno];exact hA.keep (m:=[yy,yy]) (Y:=[_,_]) rfl)
 intro h9
 replace h9:=dF h9
 refine SK (BD (SQ ?_))
 have hyes : Net.sendP mo L.length ⟨mk,mf,mt,me,mi,ml,mc,mr,rj,hi,es,⟨ix,te,⟨vo,le⟩,da⟩⟩:=⟨h5,by omega⟩
 refine H_drawB (m:=[yy,nn,nn,yy,yy,yy,yy]) (Xs:=[_,_,_,_,_]) (fuel:=13) (l:=#[false,false,false,false,false,false,false,false,false,false,false,false,false]) mixed rfl rfl rfl (TK 0 121 [_,_,_,_,_] rfl (by kernel_rfl) (V_move rfl) (TK 1 121 [_,_,_,_,_] rfl (by kernel_rfl) (V_move rfl) (TK 2 121 [_,_,_,_,_] rfl (by kernel_rfl) (V_nilCheck rfl) (TK 3 121 [_,_,_,_,_] rfl (by kernel_rfl) (V_fieldAddr (r:=1) rfl Tryz.underlying55 rfl Tryz.sizeOf53 rfl) (TK 5 121 [_,_,_,_,_] rfl (by kernel_rfl) (V_loadA (i:=0) (us:=[]) (cs:=[_,_,_,_,_,_,_,_,_,_,_,_,_,_,_,_]) (ts:=[]) rfl Tryz.isAgg36 Tryz.sizeOf36 rfl (.loc _ _ _) rfl rfl rfl rfl) (HA_loud2 (i:=4) (j:=6) (by kernel_rfl) rfl rfl ?_ ?_))))))
 ·refine HO_load1 (i:=1) (j:=1) rfl rfl rfl Tryz.isAgg53 rfl (.loc _ _ _) rfl rfl ?_
  refine BK 121 [_,_,_,_,_] rfl (LO 6 (by kernel_rfl) rfl (DU 3 rfl (DU 5 rfl (DU 7 rfl (DU 9 rfl (CB [0,0,0,0] [_,_,_,_,_,_,_] rfl Tryz.call33 (rmsgbytes_spec _ _ _ _ _ _ _ _ _ _ _ _ _ _ _ _ _ _ _ _ _ _ _ _ ?_ ?_ ?_ ?_ ?_ ?_ ?_ ?_ ?_) ?_))))))
  ·omega
  ·omega
  ·omega
  ·omega
  ·exact hws
  ·exact hsn
  ·exact hm
  ·exact hhi
  ·exact hrs
  intro y26 hy26
  refine BK 242 [_,_,_,_,_] rfl (LO 7 (by kernel_rfl) rfl (DU 0 rfl (CB [0] [_,_,_,_,_,_,_,_] rfl Tryz.call32 (rFrame_spec _ _ _ ?_) ?_)))
  ·omega
  intro y27 hy27
  refine BK 484 [_,_,_,_,_] rfl (LO 8 (by kernel_rfl) rfl (HO_freeze (i:=0) (R:=[_,_,_,_,_,_,_,_]) rfl (keepM hM0 ⟨(fun _ h => ⟨_,List.mem_of_getElem? (i:=2) rfl,h⟩),(fun _ h => ⟨_,List.mem_of_getElem? (i:=3) rfl,h⟩),(fun _ h => nomatch h),(fun _ h => nomatch h),(fun _ h => nomatch h),(fun _ h => nomatch h),trivial⟩) (HO_buildSlice (kd:=kBs) (xo:=[_]) (vs:=[_]) (cs:=[_]) (xs:=[(⟨Cod.frame (Ent.msgB ⟨mk,mf,mt,me,mi,ml,mc,mr,rj,hi,es,⟨ix,te,⟨vo,le⟩,da⟩⟩)⟩ : Bs)]) rfl rfl rfl rfl Tryz.underlying53 elt32 rfl rfl rfl (by decide) (by decide) (by simp [Value.cells]) rfl (fun ok w hA => ⟨_,_,rfl,⟨(by dsimp only [BIG];rw [Cod.frame_length (by omega)];omega),⟨_,_⟩,rfl,(List.forall_mem_cons.2 ⟨hA _ (List.mem_of_getElem? (i:=0) rfl),(by simp)⟩)⟩,rfl⟩) ?_)))
  intro g28
  refine BK 968 [_,_,_,_,_] rfl (LO 9 (by kernel_rfl) rfl (HO_append (i:=5) (R:=[_,_,_,_,_,_,_,_,_]) rfl rfl rfl rfl rfl Tryz.underlying53 elt32 rfl rfl (SrcOk.own (j:=0) Tryz.underlying53 rfl rfl) ?_ ?_))
  ·(simp only [List.length_cons,List.length_nil];omega)
  intro a29 c29
  refine BK 976 [_,_,_,_,_] rfl (TK 10 976 [_,_,_,_,_] rfl (by kernel_rfl) (V_nilCheck rfl) (TK 11 976 [_,_,_,_,_] rfl (by kernel_rfl) (V_fieldAddr (r:=1) rfl Tryz.underlying55 rfl Tryz.sizeOf53 rfl) (LO 12 (by kernel_rfl) rfl (SR 5 [_] [_] [] [_] [_,_,_,_,_,_,_,_,_] [_,_] Tryz.sizeOf53 rfl (BK 992 [_,_,_,_,_] rfl (HA_done (by kernel_rfl) (EV [] [] rfl (WD 3 [_,_] rfl (SQ (RG rfl (AS rfl (HO_nil (R1 Tryz.results11 (a29,c29) rfl (fun w hA => ⟨?_,?_,?_⟩))))))))))))))
  ·(exact congrArg (Value.int .i64) (by unfold Net.sendE;rw [h5,if_pos rfl,if_pos (by omega)]))
  ·trivial
  ·(rw [Net.sendL_yes hyes];exact hA.keep (m:=[yy,yy]) (Y:=[_,_]) rfl)
 ·refine HO_dup (i:=3) rfl rfl ?_
  refine DU 5 rfl (DU 7 rfl (DU 9 rfl (CB [0,0,0,0] [_,_,_,_,_,_,_] rfl Tryz.call33 (rmsgbytes_spec _ _ _ _ _ _ _ _ _ _ _ _ _ _ _ _ _ _ _ _ _ _ _ _ ?_ ?_ ?_ ?_ ?_ ?_ ?_ ?_ ?_) ?_)))
  ·omega
  ·omega
  ·omega
  ·omega
  ·exact hws
  ·exact hsn
  ·exact hm
  ·exact hhi
  ·exact hrs
  intro y26 hy26
  refine BK 242 [_,_,_,_,_] rfl (HA_loud2 (i:=4) (j:=7) (by kernel_rfl) rfl rfl ?_ ?_)
  ·refine HO_load1 (i:=2) (j:=1) rfl rfl rfl Tryz.isAgg53 rfl (.loc _ _ _) rfl rfl ?_
   refine BK 242 [_,_,_,_,_] rfl (LO 7 (by kernel_rfl) rfl (DU 0 rfl (CB [0] [_,_,_,_,_,_,_,_] rfl Tryz.call32 (rFrame_spec _ _ _ ?_) ?_)))
   ·omega
   intro y27 hy27
   refine BK 484 [_,_,_,_,_] rfl (LO 8 (by kernel_rfl) rfl (HO_freeze (i:=0) (R:=[_,_,_,_,_,_,_,_]) rfl (keepM hM0 ⟨(fun _ h => ⟨_,List.mem_of_getElem? (i:=2) rfl,h⟩),(fun _ h => ⟨_,List.mem_of_getElem? (i:=3) rfl,h⟩),(fun _ h => nomatch h),(fun _ h => nomatch h),(fun _ h => nomatch h),(fun _ h => nomatch h),trivial⟩) (HO_buildSlice (kd:=kBs) (xo:=[_]) (vs:=[_]) (cs:=[_]) (xs:=[(⟨Cod.frame (Ent.msgB ⟨mk,mf,mt,me,mi,ml,mc,mr,rj,hi,es,⟨ix,te,⟨vo,le⟩,da⟩⟩)⟩ : Bs)]) rfl rfl rfl rfl Tryz.underlying53 elt32 rfl rfl rfl (by decide) (by decide) (by simp [Value.cells]) rfl (fun ok w hA => ⟨_,_,rfl,⟨(by dsimp only [BIG];rw [Cod.frame_length (by omega)];omega),⟨_,_⟩,rfl,(List.forall_mem_cons.2 ⟨hA _ (List.mem_of_getElem? (i:=0) rfl),(by simp)⟩)⟩,rfl⟩) ?_)))
   intro g28
   refine BK 968 [_,_,_,_,_] rfl (LO 9 (by kernel_rfl) rfl (HO_append (i:=5) (R:=[_,_,_,_,_,_,_,_,_]) rfl rfl rfl rfl rfl Tryz.underlying53 elt32 rfl rfl (SrcOk.own (j:=0) Tryz.underlying53 rfl rfl) ?_ ?_))
   ·(simp only [List.length_cons,List.length_nil];omega)
   intro a29 c29
   refine BK 976 [_,_,_,_,_] rfl (TK 10 976 [_,_,_,_,_] rfl (by kernel_rfl) (V_nilCheck rfl) (TK 11 976 [_,_,_,_,_] rfl (by kernel_rfl) (V_fieldAddr (r:=1) rfl Tryz.underlying55 rfl Tryz.sizeOf53 rfl) (LO 12 (by kernel_rfl) rfl (SR 5 [_] [_] [] [_] [_,_,_,_,_,_,_,_,_] [_,_] Tryz.sizeOf53 rfl (BK 992 [_,_,_,_,_] rfl (HA_done (by kernel_rfl) (EV [] [] rfl (WD 3 [_,_] rfl (SQ (RG rfl (AS rfl (HO_nil (R1 Tryz.results11 (a29,c29) rfl (fun w hA => ⟨?_,?_,?_⟩))))))))))))))
   ·(exact congrArg (Value.int .i64) (by unfold Net.sendE;rw [h5,if_pos rfl,if_pos (by omega)]))
   ·trivial
   ·(rw [Net.sendL_yes hyes];exact hA.keep (m:=[yy,yy]) (Y:=[_,_]) rfl)
  ·refine HO_dup (i:=0) rfl rfl ?_
   refine CB [0] [_,_,_,_,_,_,_,_] rfl Tryz.call32 (rFrame_spec _ _ _ ?_) ?_
   ·omega
   intro y27 hy27
   refine BK 484 [_,_,_,_,_] rfl (HA_loud2 (i:=4) (j:=8) (by kernel_rfl) rfl rfl ?_ ?_)
   ·refine HO_load1 (i:=3) (j:=1) rfl rfl rfl Tryz.isAgg53 rfl (.loc _ _ _) rfl rfl ?_
    refine BK 484 [_,_,_,_,_] rfl (LO 8 (by kernel_rfl) rfl (HO_freeze (i:=0) (R:=[_,_,_,_,_,_,_,_]) rfl (keepM hM0 ⟨(fun _ h => ⟨_,List.mem_of_getElem? (i:=2) rfl,h⟩),(fun _ h => ⟨_,List.mem_of_getElem? (i:=3) rfl,h⟩),(fun _ h => nomatch h),(fun _ h => nomatch h),(fun _ h => nomatch h),(fun _ h => nomatch h),trivial⟩) (HO_buildSlice (kd:=kBs) (xo:=[_]) (vs:=[_]) (cs:=[_]) (xs:=[(⟨Cod.frame (Ent.msgB ⟨mk,mf,mt,me,mi,ml,mc,mr,rj,hi,es,⟨ix,te,⟨vo,le⟩,da⟩⟩)⟩ : Bs)]) rfl rfl rfl rfl Tryz.underlying53 elt32 rfl rfl rfl (by decide) (by decide) (by simp [Value.cells]) rfl (fun ok w hA => ⟨_,_,rfl,⟨(by dsimp only [BIG];rw [Cod.frame_length (by omega)];omega),⟨_,_⟩,rfl,(List.forall_mem_cons.2 ⟨hA _ (List.mem_of_getElem? (i:=0) rfl),(by simp)⟩)⟩,rfl⟩) ?_)))
    intro g28
    refine BK 968 [_,_,_,_,_] rfl (LO 9 (by kernel_rfl) rfl (HO_append (i:=5) (R:=[_,_,_,_,_,_,_,_,_]) rfl rfl rfl rfl rfl Tryz.underlying53 elt32 rfl rfl (SrcOk.own (j:=0) Tryz.underlying53 rfl rfl) ?_ ?_))
    ·(simp only [List.length_cons,List.length_nil];omega)
    intro a29 c29
    refine BK 976 [_,_,_,_,_] rfl (TK 10 976 [_,_,_,_,_] rfl (by kernel_rfl) (V_nilCheck rfl) (TK 11 976 [_,_,_,_,_] rfl (by kernel_rfl) (V_fieldAddr (r:=1) rfl Tryz.underlying55 rfl Tryz.sizeOf53 rfl) (LO 12 (by kernel_rfl) rfl (SR 5 [_] [_] [] [_] [_,_,_,_,_,_,_,_,_] [_,_] Tryz.sizeOf53 rfl (BK 992 [_,_,_,_,_] rfl (HA_done (by kernel_rfl) (EV [] [] rfl (WD 3 [_,_] rfl (SQ (RG rfl (AS rfl (HO_nil (R1 Tryz.results11 (a29,c29) rfl (fun w hA => ⟨?_,?_,?_⟩))))))))))))))
    ·(exact congrArg (Value.int .i64) (by unfold Net.sendE;rw [h5,if_pos rfl,if_pos (by omega)]))
    ·trivial
    ·(rw [Net.sendL_yes hyes];exact hA.keep (m:=[yy,yy]) (Y:=[_,_]) rfl)
   ·refine HO_freeze (i:=0) (R:=[_,_,_,_,_,_,_,_]) rfl (keepM hM0 ⟨(fun _ h => ⟨_,List.mem_of_getElem? (i:=2) rfl,h⟩),(fun _ h => ⟨_,List.mem_of_getElem? (i:=3) rfl,h⟩),(fun _ h => nomatch h),(fun _ h => nomatch h),(fun _ h => nomatch h),(fun _ h => nomatch h),trivial⟩) ?_
    refine HO_buildSlice (kd:=kBs) (xo:=[_]) (vs:=[_]) (cs:=[_]) (xs:=[(⟨Cod.frame (Ent.msgB ⟨mk,mf,mt,me,mi,ml,mc,mr,rj,hi,es,⟨ix,te,⟨vo,le⟩,da⟩⟩)⟩ : Bs)]) rfl rfl rfl rfl Tryz.underlying53 elt32 rfl rfl rfl (by decide) (by decide) (by simp [Value.cells]) rfl (fun ok w hA => ⟨_,_,rfl,⟨(by dsimp only [BIG];rw [Cod.frame_length (by omega)];omega),⟨_,_⟩,rfl,(List.forall_mem_cons.2 ⟨hA _ (List.mem_of_getElem? (i:=0) rfl),(by simp)⟩)⟩,rfl⟩) ?_
    intro g28
    refine BK 968 [_,_,_,_,_] rfl (LO 4 (by kernel_rfl) rfl (LD 4 1 rfl Tryz.isAgg53 (BK 968 [_,_,_,_,_] rfl (LO 9 (by kernel_rfl) rfl (HO_append (i:=5) (R:=[_,_,_,_,_,_,_,_,_]) rfl rfl rfl rfl rfl Tryz.underlying53 elt32 rfl rfl (SrcOk.own (j:=0) Tryz.underlying53 rfl rfl) ?_ ?_)))))
    ·(simp only [List.length_cons,List.length_nil];omega)
    intro a29 c29
    refine BK 976 [_,_,_,_,_] rfl (TK 10 976 [_,_,_,_,_] rfl (by kernel_rfl) (V_nilCheck rfl) (TK 11 976 [_,_,_,_,_] rfl (by kernel_rfl) (V_fieldAddr (r:=1) rfl Tryz.underlying55 rfl Tryz.sizeOf53 rfl) (LO 12 (by kernel_rfl) rfl (SR 5 [_] [_] [] [_] [_,_,_,_,_,_,_,_,_] [_,_] Tryz.sizeOf53 rfl (BK 992 [_,_,_,_,_] rfl (HA_done (by kernel_rfl) (EV [] [] rfl (WD 3 [_,_] rfl (SQ (RG rfl (AS rfl (HO_nil (R1 Tryz.results11 (a29,c29) rfl (fun w hA => ⟨?_,?_,?_⟩))))))))))))))
    ·(exact congrArg (Value.int .i64) (by unfold Net.sendE;rw [h5,if_pos rfl,if_pos (by omega)]))
    ·trivial
    ·(rw [Net.sendL_yes hyes];exact hA.keep (m:=[yy,yy]) (Y:=[_,_]) rfl)
theorem rlook_spec (g : Nat) (mo : Int) (la : Option Addr) (lc : Nat) (L : List Bs) (i : Int) (hx : (Net.bsAt L (Net.ix i L.length)).length≤100000) : Spec Tryz.prog 16 #[.pointer (some ⟨g,0,none⟩),.int .i64 (i)] [.loc g [.int .i64 (mo),.slice la (L.length) lc] 55,.own 32 kBs la lc (L)] (β:=(Option Addr × Nat) × (Option Addr × Nat) × (Option Addr × Nat) × (Option Addr × Nat)) (fun y => .tuple #[.agg #[.int .i64 ((Net.look i L.length (Net.bsAt L (Net.ix i L.length))).1.kind),.int .i64 ((Net.look i L.length (Net.bsAt L (Net.ix i L.length))).1.frm),.int .i64 ((Net.look i L.length (Net.bsAt L (Net.ix i L.length))).1.to),.int .i64 ((Net.look i L.length (Net.bsAt L (Net.ix i L.length))).1.term),.int .i64 ((Net.look i L.length (Net.bsAt L (Net.ix i L.length))).1.idx),.int .i64 ((Net.look i L.length (Net.bsAt L (Net.ix i L.length))).1.lterm),.int .i64 ((Net.look i L.length (Net.bsAt L (Net.ix i L.length))).1.commit),.int .i64 ((Net.look i L.length (Net.bsAt L (Net.ix i L.length))).1.round),.bool ((Net.look i L.length (Net.bsAt L (Net.ix i L.length))).1.rej),.int .i64 ((Net.look i L.length (Net.bsAt L (Net.ix i L.length))).1.hint),.slice y.1.1 (((Net.look i L.length (Net.bsAt L (Net.ix i L.length))).1.ents).length) y.1.2,.int .i64 ((Net.look i L.length (Net.bsAt L (Net.ix i L.length))).1.snap.idx),.int .i64 ((Net.look i L.length (Net.bsAt L (Net.ix i L.length))).1.snap.term),.slice y.2.1.1 (((Net.look i L.length (Net.bsAt L (Net.ix i L.length))).1.snap.conf.vot).length) y.2.1.2,.slice y.2.2.1.1 (((Net.look i L.length (Net.bsAt L (Net.ix i L.length))).1.snap.conf.lea).length) y.2.2.1.2,.slice y.2.2.2.1 (((Net.look i L.length (Net.bsAt L (Net.ix i L.length))).1.snap.data).length) y.2.2.2.2],.int .i64 ((Net.look i L.length (Net.bsAt L (Net.ix i L.length))).2)]) (fun y => True) (fun y => [.loc g [.int .i64 (mo),.slice la (L.length) lc] 55,.own 32 kBs la lc (L),.dat kEnt.sl ((Net.look i L.length (Net.bsAt L (Net.ix i L.length))).1.ents) [.slice y.1.1 (((Net.look i L.length (Net.bsAt L (Net.ix i L.length))).1.ents).length) y.1.2],.dat kInt.sl ((Net.look i L.length (Net.bsAt L (Net.ix i L.length))).1.snap.conf.vot) [.slice y.2.1.1 (((Net.look i L.length (Net.bsAt L (Net.ix i L.length))).1.snap.conf.vot).length) y.2.1.2],.dat kInt.sl ((Net.look i L.length (Net.bsAt L (Net.ix i L.length))).1.snap.conf.lea) [.slice y.2.2.1.1 (((Net.look i L.length (Net.bsAt L (Net.ix i L.length))).1.snap.conf.lea).length) y.2.2.1.2],.dat kByte.sl ((Net.look i L.length (Net.bsAt L (Net.ix i L.length))).1.snap.data) [.slice y.2.2.2.1 (((Net.look i L.length (Net.bsAt L (Net.ix i L.length))).1.snap.data).length) y.2.2.2.2]]):=by
 refine Spec.enter (vs:=[_,_]) Tryz.func16 rfl Tryz.ntmps16 rfl (Nat.le_of_ble_eq_true rfl) (fun w0 ok0 => ?_)
 generalize hM0 : blks _ = M0
 refine SQ (RG rfl (AO [_,_,_,_,_,_,_,_,_,_,_,_,_,_,_,_] Tryz.zeroValue36 rfl ?_))
 intro g4
 refine AS rfl (NI [4,0,1] [_,_,_] rfl (SQ (SQ (RG rfl (MV rfl (BN rfl bin_lss (MV rfl (HO_split (d:=11) rfl ?_ ?_))))))))
 ·intro h11
  replace h11:=dT h11
  iterate 7 refine HO_no rfl rfl rfl ?_
  refine PT rfl (NI [19,4,0,1] [_,_,_,_] rfl (CT rfl (SQ (RG rfl (HO_build (xo:=[]) (vs:=[]) rfl rfl rfl rfl (bd36__) (SR 0 [] [_,_,_,_,_,_,_,_,_,_,_,_,_,_,_,_] [] [_,_,_,_,_,_,_,_,_,_,_,_,_,_,_,_] [_,_] [_,_,_,_,_,_,_,_,_,_,_,_,_,_,_,_] Tryz.sizeOf36 rfl (AS rfl (NI [5,4] [_,_] rfl (H_nilDat kEnt (H_nilDat kInt (H_nilDat kInt ?_)))))))))))
  refine H_nilDat kByte ?_
  have hno : ¬ Net.ix i L.length < L.length:=fun h => by have:=Net.ix_lt.1 h;omega
  refine H_ret2 Tryz.results16 (.cell rfl (fun w hA => run_loadVarA (cs:=[_,_,_,_,_,_,_,_,_,_,_,_,_,_,_,_]) (Tryz.isAgg36 w) (Tryz.sizeOf36 w) (Tells.cells (.loc _ _ _) (hA.get (i:=4) rfl)))) (.tmp rfl) (fun w hA => ⟨((none,0),(none,0),(none,0),(none,0)),congrArg Ending.returned ?_,?_,?_⟩)
  ·(rw [Net.look_no hno];try exact rfl)
  ·trivial
  ·(rw [Net.look_no hno];exact hA.only (is:=[1,2,0,0,0,0]) (Z:=[_]) rfl)
 intro h11
 replace h11:=dF h11
 refine MV rfl (MV rfl (NC rfl (FA 1 rfl Tryz.underlying55 rfl Tryz.sizeOf53 (LD 1 1 rfl Tryz.isAgg53 (BI rfl (bi_len_sl Tryz.underlying53) (BN rfl bin_geq (PF rfl (NI [19,4,0,1] [_,_,_,_] rfl (H_cond rfl ?_ ?_)))))))))
 ·intro h19
  replace h19:=dT h19
  refine SQ (RG rfl (HO_build (xo:=[]) (vs:=[]) rfl rfl rfl rfl (bd36__) (SR 0 [] [_,_,_,_,_,_,_,_,_,_,_,_,_,_,_,_] [] [_,_,_,_,_,_,_,_,_,_,_,_,_,_,_,_] [_,_] [_,_,_,_,_,_,_,_,_,_,_,_,_,_,_,_] Tryz.sizeOf36 rfl (AS rfl (NI [5,4] [_,_] rfl (H_nilDat kEnt (H_nilDat kInt (H_nilDat kInt (H_nilDat kByte ?_)))))))))
  have hno : ¬ Net.ix i L.length < L.length:=fun h => by have:=Net.ix_lt.1 h;omega
  refine H_ret2 Tryz.results16 (.cell rfl (fun w hA => run_loadVarA (cs:=[_,_,_,_,_,_,_,_,_,_,_,_,_,_,_,_]) (Tryz.isAgg36 w) (Tryz.sizeOf36 w) (Tells.cells (.loc _ _ _) (hA.get (i:=4) rfl)))) (.tmp rfl) (fun w hA => ⟨((none,0),(none,0),(none,0),(none,0)),congrArg Ending.returned ?_,?_,?_⟩)
  ·(rw [Net.look_no hno];try exact rfl)
  ·trivial
  ·(rw [Net.look_no hno];exact hA.only (is:=[1,2,0,0,0,0]) (Z:=[_]) rfl)
 intro h19
 replace h19:=dF h19
 refine SK (SQ ?_)
 have hin : Net.ix i L.length < L.length:=Net.ix_lt.2 ⟨by omega,by omega⟩
 refine RG rfl (MV rfl (NC rfl (FA 1 rfl Tryz.underlying55 rfl Tryz.sizeOf53 (LD 1 1 rfl Tryz.isAgg53 (MV rfl (HO_indexOwn (i:=2) (j:=(Net.ix i L.length)) rfl rfl rfl rfl ?_ Tryz.underlying53 Tryz.sizeOf32 rfl (by first | rfl | (simp;done) | (simp;omega)) ?_ (Nat.mul_one _) ?_))))))
 ·exact Net.ix_eq hin
 ·exact hin
 intro g27 z27 hg27 hz27
 refine HO_loadOwnS open_Bs (i:=2) (vv:=fun z y => .slice y.1 (z.b.length) y.2) rfl rfl rfl Tryz.isAgg32 (fun _ _ => rfl) rfl hg27 (Nat.mul_one _) hz27 ?_
 intro y28 hI28
 (try simp only [BIG] at hI28)
 have hb27:=Net.bs_get hz27
 rw [hb27] at hx
 have hul:=Net.unf_len z27.b
 refine DU 0 rfl (CB [0] [_,_,_,_] rfl Tryz.call39 (rUnframe_spec _ _ _ ?_) ?_)
 ·omega
 intro y29 hy29
 refine MV rfl (EX [_,_,_] rfl (EX [_,_,_] rfl (EX [_,_,_] rfl (AS rfl (AS rfl (AS rfl (NI [8,7,6,4,0,1] [_,_,_,_,_,_] rfl (WD 29 [_,_,_,_] rfl (SQ (SQ (RG rfl (MV rfl ?_))))))))))))
 refine BN rfl bin_neq (MV rfl (HO_split (d:=35) rfl ?_ ?_))
 ·intro h35
  replace h35:=dT h35
  iterate 10 refine HO_no rfl rfl rfl ?_
  refine PT rfl (NI [46,6,4] [_,_,_] rfl (CT rfl (SQ (RG rfl (HO_build (xo:=[]) (vs:=[]) rfl rfl rfl rfl (bd36__) (SR 1 [] [_,_,_,_,_,_,_,_,_,_,_,_,_,_,_,_] [] [_,_,_,_,_,_,_,_,_,_,_,_,_,_,_,_] [_,_,_] [_,_,_,_,_,_,_,_,_,_,_,_,_,_,_,_] Tryz.sizeOf36 rfl (AS rfl (NI [5,4] [_,_] rfl (WD 13 [_,_,_] rfl (H_nilDat kEnt (H_nilDat kInt ?_)))))))))))
  refine H_nilDat kInt (H_nilDat kByte (H_ret2 Tryz.results16 (.cell rfl (fun w hA => run_loadVarA (cs:=[_,_,_,_,_,_,_,_,_,_,_,_,_,_,_,_]) (Tryz.isAgg36 w) (Tryz.sizeOf36 w) (Tells.cells (.loc _ _ _) (hA.get (i:=4) rfl)))) (.tmp rfl) (fun w hA => ⟨((none,0),(none,0),(none,0),(none,0)),congrArg Ending.returned ?_,?_,?_⟩)))
  ·(rw [hb27,Net.look_bad hin (fun h => h35 (by rw [h.1];rfl))];try exact rfl)
  ·trivial
  ·(rw [hb27,Net.look_bad hin (fun h => h35 (by rw [h.1];rfl))];exact hA.only (is:=[1,2,0,0,0,0]) (Z:=[_]) rfl)
 intro h35
 replace h35:=dF h35
 refine MV rfl (MV rfl (NC rfl (FA 1 rfl Tryz.underlying55 rfl Tryz.sizeOf53 (LD 2 1 rfl Tryz.isAgg53 (MV rfl (HO_indexOwn (i:=3) (j:=(Net.ix i L.length)) rfl rfl rfl rfl ?_ Tryz.underlying53 Tryz.sizeOf32 rfl (by first | rfl | (simp;done) | (simp;omega)) ?_ (Nat.mul_one _) ?_))))))
 ·exact Net.ix_eq hin
 ·exact hin
 intro g42 z42 hg42 hz42
 refine HO_loadOwnS open_Bs (i:=3) (vv:=fun z y => .slice y.1 (z.b.length) y.2) rfl rfl rfl Tryz.isAgg32 (fun _ _ => rfl) rfl hg42 (Nat.mul_one _) hz42 ?_
 intro y43 hI43
 (try simp only [BIG] at hI43)
 refine BI rfl (bi_len_sl Tryz.underlying32) ?_
 have he42 : z42 = z27:=Option.some.inj (hz42.symm.trans hz27)
 refine BN rfl bin_neq (PF rfl (NI [46,6,4] [_,_,_] rfl (WD 30 [_,_,_,_] rfl (H_cond rfl ?_ ?_))))
 ·intro h46
  replace h46:=dT h46
  refine SQ (RG rfl (HO_build (xo:=[]) (vs:=[]) rfl rfl rfl rfl (bd36__) (SR 1 [] [_,_,_,_,_,_,_,_,_,_,_,_,_,_,_,_] [] [_,_,_,_,_,_,_,_,_,_,_,_,_,_,_,_] [_,_,_] [_,_,_,_,_,_,_,_,_,_,_,_,_,_,_,_] Tryz.sizeOf36 rfl (AS rfl (NI [5,4] [_,_] rfl (WD 13 [_,_,_] rfl (H_nilDat kEnt (H_nilDat kInt (H_nilDat kInt (H_nilDat kByte (H_ret2 Tryz.results16 (.cell rfl (fun w hA => run_loadVarA (cs:=[_,_,_,_,_,_,_,_,_,_,_,_,_,_,_,_]) (Tryz.isAgg36 w) (Tryz.sizeOf36 w) (Tells.cells (.loc _ _ _) (hA.get (i:=4) rfl)))) (.tmp rfl) (fun w hA => ⟨((none,0),(none,0),(none,0),(none,0)),congrArg Ending.returned ?_,?_,?_⟩))))))))))))
  ·(rw [hb27,Net.look_bad hin (fun h => h46 (by rw [h.2,he42]))];try exact rfl)
  ·trivial
  ·(rw [hb27,Net.look_bad hin (fun h => h46 (by rw [h.2,he42]))];exact hA.only (is:=[1,2,0,0,0,0]) (Z:=[_]) rfl)
 intro h46
 replace h46:=dF h46
 refine SK (SQ (RG rfl (MV rfl (HO_freeze (i:=0) (R:=[_,_,_]) rfl (keepM hM0 ⟨(fun _ h => ⟨_,List.mem_of_getElem? (i:=1) rfl,h⟩),(fun _ h => ⟨_,List.mem_of_getElem? (i:=2) rfl,h⟩),trivial⟩) (DU 0 rfl (CB [0] [_,_,_,_] rfl Tryz.call40 (rreadmsg_spec _ _ _ ?_) ?_))))))
 ·(first | omega | assumption | decide)
 intro y49 hy49
 refine EX [_,_] rfl (EX [_,_] rfl (SR 5 [] [_,_,_,_,_,_,_,_,_,_,_,_,_,_,_,_] [] [_,_,_,_,_,_,_,_,_,_,_,_,_,_,_,_] [_,_,_,_,_,_,_] [_,_,_,_,_,_,_,_,_,_,_,_,_,_,_,_] Tryz.sizeOf36 rfl (AS rfl (NI [5,4] [_,_] rfl (WD 223 [_,_,_,_,_,_,_] rfl (H_ret2 Tryz.results16 (.cell rfl (fun w hA => run_loadVarA (cs:=[_,_,_,_,_,_,_,_,_,_,_,_,_,_,_,_]) (Tryz.isAgg36 w) (Tryz.sizeOf36 w) (Tells.cells (.loc _ _ _) (hA.get (i:=0) rfl)))) (.tmp rfl) (fun w hA => ⟨y49,congrArg Ending.returned ?_,?_,?_⟩)))))))
 ·(rw [hb27,Net.look_ok hin ⟨by omega,by rw [he42] at h46;omega⟩];try exact rfl)
 ·trivial
 ·(rw [hb27,Net.look_ok hin ⟨by omega,by rw [he42] at h46;omega⟩];exact hA.only (is:=[1,2,1,2,3,4]) (Z:=[_]) rfl)
theorem rdrop_spec (g : Nat) (mo : Int) (la : Option Addr) (lc : Nat) (L : List Bs) (i : Int) (hll : L.length≤1000) : Spec Tryz.prog 18 #[.pointer (some ⟨g,0,none⟩),.int .i64 (i)] [.loc g [.int .i64 (mo),.slice la (L.length) lc] 55,.own 32 kBs la lc (L)] (β:=Option Addr × Nat) (fun y => .int .i64 (Net.mayE i L.length)) (fun y => True) (fun y => [.loc g [.int .i64 (mo),.slice y.1 (((L.eraseIdx (Net.ix i L.length))).length) y.2] 55,.own 32 kBs y.1 y.2 ((L.eraseIdx (Net.ix i L.length)))]):=by
 refine Spec.enter (vs:=[_,_]) Tryz.func18 rfl Tryz.ntmps18 rfl (Nat.le_of_ble_eq_true rfl) (fun w0 ok0 => ?_)
 generalize hM0 : blks _ = M0
 refine SQ (RG rfl (AS rfl (NI [0,1] [_,_] rfl (SQ (SQ (H_ownLen (i:=1) rfl (fun hlc hmc => ?_)))))))
 refine RG rfl (MV rfl (BN rfl bin_lss (MV rfl (HO_split (d:=7) rfl ?_ ?_))))
 ·intro h7
  replace h7:=dT h7
  iterate 7 refine HO_no rfl rfl rfl ?_
  refine PT rfl (NI [15,0,1] [_,_,_] rfl (CT rfl (SQ (RG rfl (AS rfl (NI [4] [_] rfl ?_))))))
  have hno : ¬ Net.ix i L.length < L.length:=fun h => by have:=Net.ix_lt.1 h;omega
  refine R1 Tryz.results18 (la,lc) rfl (fun w hA => ⟨?_,?_,?_⟩)
  ·(rw [Net.mayE_no hno])
  ·trivial
  ·(rw [List.eraseIdx_of_length_le (Net.ix_ge hno)];exact hA.keep (m:=[yy,yy]) (Y:=[_,_]) rfl)
 intro h7
 replace h7:=dF h7
 refine MV rfl (MV rfl (NC rfl (FA 1 rfl Tryz.underlying55 rfl Tryz.sizeOf53 (LD 0 1 rfl Tryz.isAgg53 (BI rfl (bi_len_sl Tryz.underlying53) (BN rfl bin_geq (PF rfl (NI [15,0,1] [_,_,_] rfl (H_cond rfl ?_ ?_)))))))))
 ·intro h15
  replace h15:=dT h15
  refine SQ (RG rfl (AS rfl (NI [4] [_] rfl ?_)))
  have hno : ¬ Net.ix i L.length < L.length:=fun h => by have:=Net.ix_lt.1 h;omega
  refine R1 Tryz.results18 (la,lc) rfl (fun w hA => ⟨?_,?_,?_⟩)
  ·(rw [Net.mayE_no hno])
  ·trivial
  ·(rw [List.eraseIdx_of_length_le (Net.ix_ge hno)];exact hA.keep (m:=[yy,yy]) (Y:=[_,_]) rfl)
 intro h15
 replace h15:=dF h15
 refine SK (SQ ?_)
 have hin : Net.ix i L.length < L.length:=Net.ix_lt.2 ⟨by omega,by omega⟩
 obtain ⟨k,rfl⟩ : ∃ q : Nat,i = q:=⟨_,Net.ix_eq hin⟩
 have hk:=hin
 rw [Net.ix_nat] at hk
 refine H_drawB (m:=[nn,yy]) (Xs:=[_]) (fuel:=20) (l:=#[false,false,false,false,false,false,false,false,false,false,false,false,false,false,false,false,false,false,false,false]) mixed rfl rfl rfl (TK 0 2 [_] rfl (by kernel_rfl) (V_move rfl) (TK 2 2 [_] rfl (by kernel_rfl) (V_move rfl) (TK 3 2 [_] rfl (by kernel_rfl) (V_nilCheck rfl) (TK 4 2 [_] rfl (by kernel_rfl) (V_fieldAddr (r:=1) rfl Tryz.underlying55 rfl Tryz.sizeOf53 rfl) (TK 6 2 [_] rfl (by kernel_rfl) (V_move rfl) (TK 9 2 [_] rfl (by kernel_rfl) (V_move rfl) (TK 10 2 [_] rfl (by kernel_rfl) (V_nilCheck rfl) (TK 11 2 [_] rfl (by kernel_rfl) (V_fieldAddr (r:=1) rfl Tryz.underlying55 rfl Tryz.sizeOf53 rfl) (TK 13 2 [_] rfl (by kernel_rfl) (V_move rfl) (TK 14 2 [_] rfl (by kernel_rfl) (V_bin rfl rfl (bin_add ?_ ?_)) ?_))))))))))
 ·omega
 ·omega
 refine HA_loud3 (i:=1) (j:=5) (m:=12) (by kernel_rfl) rfl rfl rfl ?_ ?_ ?_
 ·refine HO_buildSlice0 (kd:=kBs) rfl rfl Tryz.underlying53 elt32 ?_
  intro g17
  refine BK 4 [_] rfl (HA_loud2 (i:=5) (j:=12) (by kernel_rfl) rfl rfl ?_ ?_)
  ·refine HO_load1 (i:=1) (j:=1) rfl rfl rfl Tryz.isAgg53 rfl (.loc _ _ _) rfl rfl ?_
   refine BK 4 [_] rfl (TK 7 4 [_] rfl (by kernel_rfl) (V_sliceA_h rfl rfl rfl Tryz.underlying53 Tryz.sizeOf32 ?_) ?_)
   ·omega
   refine HA_loud2 (i:=8) (j:=12) (by kernel_rfl) rfl rfl ?_ ?_
   ·refine HO_append (i:=0) (R:=[_,_]) rfl rfl rfl rfl rfl Tryz.underlying53 elt32 rfl rfl (SrcOk.partOwn (j:=1) (l:=0) (h':=k) Tryz.underlying53 rfl ?_ ?_) ?_ ?_
    ·omega
    ·omega
    ·(simp only [List.length_append,List.length_nil,List.length_take,List.length_drop];omega)
    intro a24 c24
    refine BK 4 [_] rfl (LO 12 (by kernel_rfl) rfl (LD 1 1 rfl Tryz.isAgg53 (BK 4 [_] rfl (TK 15 4 [_] rfl (by kernel_rfl) (V_sliceA_l (l:=k + 1) rfl rfl ?_ Tryz.underlying53 Tryz.sizeOf32 ?_) ?_))))
    ·omega
    ·omega
    refine LO 16 (by kernel_rfl) rfl (HO_append (i:=0) (R:=[_,_]) rfl rfl rfl rfl rfl Tryz.underlying53 elt32 rfl rfl (SrcOk.partOwn (j:=1) (l:=k + 1) (h':=L.length) Tryz.underlying53 rfl ?_ ?_) ?_ ?_)
    ·omega
    ·omega
    ·(simp only [List.length_append,List.length_nil,List.length_take,List.length_drop];omega)
    intro a32 c32
    refine BK 4 [_] rfl (TK 17 4 [_] rfl (by kernel_rfl) (V_nilCheck rfl) (TK 18 4 [_] rfl (by kernel_rfl) (V_fieldAddr (r:=1) rfl Tryz.underlying55 rfl Tryz.sizeOf53 rfl) (LO 19 (by kernel_rfl) rfl (SR 1 [_] [_] [] [_] [_,_] [_,_] Tryz.sizeOf53 rfl (BK 4 [_] rfl (HA_done (by kernel_rfl) (EV [] [] rfl (SQ (RG rfl (AS rfl (HO_nil (WD 3 [_,_] rfl (R1 Tryz.results18 (a32,c32) rfl (fun w hA => ⟨?_,?_,?_⟩))))))))))))))
    ·(rw [Net.mayE_yes.2 hin])
    ·trivial
    ·(rw [Net.ix_nat,eraseIdx_take_drop];exact (hA.keep (m:=[yy,yy]) (Y:=[_,_]) rfl).cast (by simp))
   ·refine HO_load1 (i:=1) (j:=1) rfl rfl rfl Tryz.isAgg53 rfl (.loc _ _ _) rfl rfl ?_
    refine BK 4 [_] rfl (TK 15 4 [_] rfl (by kernel_rfl) (V_sliceA_l (l:=k + 1) rfl rfl ?_ Tryz.underlying53 Tryz.sizeOf32 ?_) ?_)
    ·omega
    ·omega
    refine LO 8 (by kernel_rfl) rfl (HO_append (i:=0) (R:=[_,_]) rfl rfl rfl rfl rfl Tryz.underlying53 elt32 rfl rfl (SrcOk.partOwn (j:=1) (l:=0) (h':=k) Tryz.underlying53 rfl ?_ ?_) ?_ ?_)
    ·omega
    ·omega
    ·(simp only [List.length_append,List.length_nil,List.length_take,List.length_drop];omega)
    intro a24 c24
    refine BK 4 [_] rfl (LO 16 (by kernel_rfl) rfl (HO_append (i:=0) (R:=[_,_]) rfl rfl rfl rfl rfl Tryz.underlying53 elt32 rfl rfl (SrcOk.partOwn (j:=1) (l:=k + 1) (h':=L.length) Tryz.underlying53 rfl ?_ ?_) ?_ ?_))
    ·omega
    ·omega
    ·(simp only [List.length_append,List.length_nil,List.length_take,List.length_drop];omega)
    intro a32 c32
    refine BK 4 [_] rfl (TK 17 4 [_] rfl (by kernel_rfl) (V_nilCheck rfl) (TK 18 4 [_] rfl (by kernel_rfl) (V_fieldAddr (r:=1) rfl Tryz.underlying55 rfl Tryz.sizeOf53 rfl) (LO 19 (by kernel_rfl) rfl (SR 1 [_] [_] [] [_] [_,_] [_,_] Tryz.sizeOf53 rfl (BK 4 [_] rfl (HA_done (by kernel_rfl) (EV [] [] rfl (SQ (RG rfl (AS rfl (HO_nil (WD 3 [_,_] rfl (R1 Tryz.results18 (a32,c32) rfl (fun w hA => ⟨?_,?_,?_⟩))))))))))))))
    ·(rw [Net.mayE_yes.2 hin])
    ·trivial
    ·(rw [Net.ix_nat,eraseIdx_take_drop];exact (hA.keep (m:=[yy,yy]) (Y:=[_,_]) rfl).cast (by simp))
  ·refine HO_load1 (i:=1) (j:=1) rfl rfl rfl Tryz.isAgg53 rfl (.loc _ _ _) rfl rfl ?_
   refine BK 4 [_] rfl (TK 15 4 [_] rfl (by kernel_rfl) (V_sliceA_l (l:=k + 1) rfl rfl ?_ Tryz.underlying53 Tryz.sizeOf32 ?_) ?_)
   ·omega
   ·omega
   refine LO 5 (by kernel_rfl) rfl (LD 1 1 rfl Tryz.isAgg53 (BK 4 [_] rfl (TK 7 4 [_] rfl (by kernel_rfl) (V_sliceA_h rfl rfl rfl Tryz.underlying53 Tryz.sizeOf32 ?_) ?_)))
   ·omega
   refine LO 8 (by kernel_rfl) rfl (HO_append (i:=0) (R:=[_,_]) rfl rfl rfl rfl rfl Tryz.underlying53 elt32 rfl rfl (SrcOk.partOwn (j:=1) (l:=0) (h':=k) Tryz.underlying53 rfl ?_ ?_) ?_ ?_)
   ·omega
   ·omega
   ·(simp only [List.length_append,List.length_nil,List.length_take,List.length_drop];omega)
   intro a24 c24
   refine BK 4 [_] rfl (LO 16 (by kernel_rfl) rfl (HO_append (i:=0) (R:=[_,_]) rfl rfl rfl rfl rfl Tryz.underlying53 elt32 rfl rfl (SrcOk.partOwn (j:=1) (l:=k + 1) (h':=L.length) Tryz.underlying53 rfl ?_ ?_) ?_ ?_))
   ·omega
   ·omega
   ·(simp only [List.length_append,List.length_nil,List.length_take,List.length_drop];omega)
   intro a32 c32
   refine BK 4 [_] rfl (TK 17 4 [_] rfl (by kernel_rfl) (V_nilCheck rfl) (TK 18 4 [_] rfl (by kernel_rfl) (V_fieldAddr (r:=1) rfl Tryz.underlying55 rfl Tryz.sizeOf53 rfl) (LO 19 (by kernel_rfl) rfl (SR 1 [_] [_] [] [_] [_,_] [_,_] Tryz.sizeOf53 rfl (BK 4 [_] rfl (HA_done (by kernel_rfl) (EV [] [] rfl (SQ (RG rfl (AS rfl (HO_nil (WD 3 [_,_] rfl (R1 Tryz.results18 (a32,c32) rfl (fun w hA => ⟨?_,?_,?_⟩))))))))))))))
   ·(rw [Net.mayE_yes.2 hin])
   ·trivial
   ·(rw [Net.ix_nat,eraseIdx_take_drop];exact (hA.keep (m:=[yy,yy]) (Y:=[_,_]) rfl).cast (by simp))
 ·refine HO_load1 (i:=0) (j:=1) rfl rfl rfl Tryz.isAgg53 rfl (.loc _ _ _) rfl rfl ?_
  refine BK 2 [_] rfl (TK 7 2 [_] rfl (by kernel_rfl) (V_sliceA_h rfl rfl rfl Tryz.underlying53 Tryz.sizeOf32 ?_) ?_)
  ·omega
  refine HA_loud2 (i:=1) (j:=12) (by kernel_rfl) rfl rfl ?_ ?_
  ·refine HO_buildSlice0 (kd:=kBs) rfl rfl Tryz.underlying53 elt32 ?_
   intro g17
   refine BK 4 [_] rfl (HA_loud2 (i:=8) (j:=12) (by kernel_rfl) rfl rfl ?_ ?_)
   ·refine HO_append (i:=0) (R:=[_,_]) rfl rfl rfl rfl rfl Tryz.underlying53 elt32 rfl rfl (SrcOk.partOwn (j:=1) (l:=0) (h':=k) Tryz.underlying53 rfl ?_ ?_) ?_ ?_
    ·omega
    ·omega
    ·(simp only [List.length_append,List.length_nil,List.length_take,List.length_drop];omega)
    intro a24 c24
    refine BK 4 [_] rfl (LO 12 (by kernel_rfl) rfl (LD 1 1 rfl Tryz.isAgg53 (BK 4 [_] rfl (TK 15 4 [_] rfl (by kernel_rfl) (V_sliceA_l (l:=k + 1) rfl rfl ?_ Tryz.underlying53 Tryz.sizeOf32 ?_) ?_))))
    ·omega
    ·omega
    refine LO 16 (by kernel_rfl) rfl (HO_append (i:=0) (R:=[_,_]) rfl rfl rfl rfl rfl Tryz.underlying53 elt32 rfl rfl (SrcOk.partOwn (j:=1) (l:=k + 1) (h':=L.length) Tryz.underlying53 rfl ?_ ?_) ?_ ?_)
    ·omega
    ·omega
    ·(simp only [List.length_append,List.length_nil,List.length_take,List.length_drop];omega)
    intro a32 c32
    refine BK 4 [_] rfl (TK 17 4 [_] rfl (by kernel_rfl) (V_nilCheck rfl) (TK 18 4 [_] rfl (by kernel_rfl) (V_fieldAddr (r:=1) rfl Tryz.underlying55 rfl Tryz.sizeOf53 rfl) (LO 19 (by kernel_rfl) rfl (SR 1 [_] [_] [] [_] [_,_] [_,_] Tryz.sizeOf53 rfl (BK 4 [_] rfl (HA_done (by kernel_rfl) (EV [] [] rfl (SQ (RG rfl (AS rfl (HO_nil (WD 3 [_,_] rfl (R1 Tryz.results18 (a32,c32) rfl (fun w hA => ⟨?_,?_,?_⟩))))))))))))))
    ·(rw [Net.mayE_yes.2 hin])
    ·trivial
    ·(rw [Net.ix_nat,eraseIdx_take_drop];exact (hA.keep (m:=[yy,yy]) (Y:=[_,_]) rfl).cast (by simp))
   ·refine HO_load1 (i:=1) (j:=1) rfl rfl rfl Tryz.isAgg53 rfl (.loc _ _ _) rfl rfl ?_
    refine BK 4 [_] rfl (TK 15 4 [_] rfl (by kernel_rfl) (V_sliceA_l (l:=k + 1) rfl rfl ?_ Tryz.underlying53 Tryz.sizeOf32 ?_) ?_)
    ·omega
    ·omega
    refine LO 8 (by kernel_rfl) rfl (HO_append (i:=0) (R:=[_,_]) rfl rfl rfl rfl rfl Tryz.underlying53 elt32 rfl rfl (SrcOk.partOwn (j:=1) (l:=0) (h':=k) Tryz.underlying53 rfl ?_ ?_) ?_ ?_)
    ·omega
    ·omega
    ·(simp only [List.length_append,List.length_nil,List.length_take,List.length_drop];omega)
    intro a24 c24
    refine BK 4 [_] rfl (LO 16 (by kernel_rfl) rfl (HO_append (i:=0) (R:=[_,_]) rfl rfl rfl rfl rfl Tryz.underlying53 elt32 rfl rfl (SrcOk.partOwn (j:=1) (l:=k + 1) (h':=L.length) Tryz.underlying53 rfl ?_ ?_) ?_ ?_))
    ·omega
    ·omega
    ·(simp only [List.length_append,List.length_nil,List.length_take,List.length_drop];omega)
    intro a32 c32
    refine BK 4 [_] rfl (TK 17 4 [_] rfl (by kernel_rfl) (V_nilCheck rfl) (TK 18 4 [_] rfl (by kernel_rfl) (V_fieldAddr (r:=1) rfl Tryz.underlying55 rfl Tryz.sizeOf53 rfl) (LO 19 (by kernel_rfl) rfl (SR 1 [_] [_] [] [_] [_,_] [_,_] Tryz.sizeOf53 rfl (BK 4 [_] rfl (HA_done (by kernel_rfl) (EV [] [] rfl (SQ (RG rfl (AS rfl (HO_nil (WD 3 [_,_] rfl (R1 Tryz.results18 (a32,c32) rfl (fun w hA => ⟨?_,?_,?_⟩))))))))))))))
    ·(rw [Net.mayE_yes.2 hin])
    ·trivial
    ·(rw [Net.ix_nat,eraseIdx_take_drop];exact (hA.keep (m:=[yy,yy]) (Y:=[_,_]) rfl).cast (by simp))
  ·refine HO_load1 (i:=0) (j:=1) rfl rfl rfl Tryz.isAgg53 rfl (.loc _ _ _) rfl rfl ?_
   refine BK 2 [_] rfl (TK 15 2 [_] rfl (by kernel_rfl) (V_sliceA_l (l:=k + 1) rfl rfl ?_ Tryz.underlying53 Tryz.sizeOf32 ?_) ?_)
   ·omega
   ·omega
   refine LO 1 (by kernel_rfl) rfl (HO_buildSlice0 (kd:=kBs) rfl rfl Tryz.underlying53 elt32 ?_)
   intro g17
   refine BK 4 [_] rfl (LO 8 (by kernel_rfl) rfl (HO_append (i:=0) (R:=[_,_]) rfl rfl rfl rfl rfl Tryz.underlying53 elt32 rfl rfl (SrcOk.partOwn (j:=1) (l:=0) (h':=k) Tryz.underlying53 rfl ?_ ?_) ?_ ?_))
   ·omega
   ·omega
   ·(simp only [List.length_append,List.length_nil,List.length_take,List.length_drop];omega)
   intro a24 c24
   refine BK 4 [_] rfl (LO 16 (by kernel_rfl) rfl (HO_append (i:=0) (R:=[_,_]) rfl rfl rfl rfl rfl Tryz.underlying53 elt32 rfl rfl (SrcOk.partOwn (j:=1) (l:=k + 1) (h':=L.length) Tryz.underlying53 rfl ?_ ?_) ?_ ?_))
   ·omega
   ·omega
   ·(simp only [List.length_append,List.length_nil,List.length_take,List.length_drop];omega)
   intro a32 c32
   refine BK 4 [_] rfl (TK 17 4 [_] rfl (by kernel_rfl) (V_nilCheck rfl) (TK 18 4 [_] rfl (by kernel_rfl) (V_fieldAddr (r:=1) rfl Tryz.underlying55 rfl Tryz.sizeOf53 rfl) (LO 19 (by kernel_rfl) rfl (SR 1 [_] [_] [] [_] [_,_] [_,_] Tryz.sizeOf53 rfl (BK 4 [_] rfl (HA_done (by kernel_rfl) (EV [] [] rfl (SQ (RG rfl (AS rfl (HO_nil (WD 3 [_,_] rfl (R1 Tryz.results18 (a32,c32) rfl (fun w hA => ⟨?_,?_,?_⟩))))))))))))))
   ·(rw [Net.mayE_yes.2 hin])
   ·trivial
   ·(rw [Net.ix_nat,eraseIdx_take_drop];exact (hA.keep (m:=[yy,yy]) (Y:=[_,_]) rfl).cast (by simp))
 ·refine HO_load1 (i:=0) (j:=1) rfl rfl rfl Tryz.isAgg53 rfl (.loc _ _ _) rfl rfl ?_
  refine BK 2 [_] rfl (TK 15 2 [_] rfl (by kernel_rfl) (V_sliceA_l (l:=k + 1) rfl rfl ?_ Tryz.underlying53 Tryz.sizeOf32 ?_) ?_)
  ·omega
  ·omega
  refine HA_loud2 (i:=1) (j:=5) (by kernel_rfl) rfl rfl ?_ ?_
  ·refine HO_buildSlice0 (kd:=kBs) rfl rfl Tryz.underlying53 elt32 ?_
   intro g17
   refine BK 4 [_] rfl (LO 5 (by kernel_rfl) rfl (LD 1 1 rfl Tryz.isAgg53 (BK 4 [_] rfl (TK 7 4 [_] rfl (by kernel_rfl) (V_sliceA_h rfl rfl rfl Tryz.underlying53 Tryz.sizeOf32 ?_) ?_))))
   ·omega
   refine LO 8 (by kernel_rfl) rfl (HO_append (i:=0) (R:=[_,_]) rfl rfl rfl rfl rfl Tryz.underlying53 elt32 rfl rfl (SrcOk.partOwn (j:=1) (l:=0) (h':=k) Tryz.underlying53 rfl ?_ ?_) ?_ ?_)
   ·omega
   ·omega
   ·(simp only [List.length_append,List.length_nil,List.length_take,List.length_drop];omega)
   intro a24 c24
   refine BK 4 [_] rfl (LO 16 (by kernel_rfl) rfl (HO_append (i:=0) (R:=[_,_]) rfl rfl rfl rfl rfl Tryz.underlying53 elt32 rfl rfl (SrcOk.partOwn (j:=1) (l:=k + 1) (h':=L.length) Tryz.underlying53 rfl ?_ ?_) ?_ ?_))
   ·omega
   ·omega
   ·(simp only [List.length_append,List.length_nil,List.length_take,List.length_drop];omega)
   intro a32 c32
   refine BK 4 [_] rfl (TK 17 4 [_] rfl (by kernel_rfl) (V_nilCheck rfl) (TK 18 4 [_] rfl (by kernel_rfl) (V_fieldAddr (r:=1) rfl Tryz.underlying55 rfl Tryz.sizeOf53 rfl) (LO 19 (by kernel_rfl) rfl (SR 1 [_] [_] [] [_] [_,_] [_,_] Tryz.sizeOf53 rfl (BK 4 [_] rfl (HA_done (by kernel_rfl) (EV [] [] rfl (SQ (RG rfl (AS rfl (HO_nil (WD 3 [_,_] rfl (R1 Tryz.results18 (a32,c32) rfl (fun w hA => ⟨?_,?_,?_⟩))))))))))))))
   ·(rw [Net.mayE_yes.2 hin])
   ·trivial
   ·(rw [Net.ix_nat,eraseIdx_take_drop];exact (hA.keep (m:=[yy,yy]) (Y:=[_,_]) rfl).cast (by simp))
  ·refine HO_load1 (i:=0) (j:=1) rfl rfl rfl Tryz.isAgg53 rfl (.loc _ _ _) rfl rfl ?_
   refine BK 2 [_] rfl (TK 7 2 [_] rfl (by kernel_rfl) (V_sliceA_h rfl rfl rfl Tryz.underlying53 Tryz.sizeOf32 ?_) ?_)
   ·omega
   refine LO 1 (by kernel_rfl) rfl (HO_buildSlice0 (kd:=kBs) rfl rfl Tryz.underlying53 elt32 ?_)
   intro g17
   refine BK 4 [_] rfl (LO 8 (by kernel_rfl) rfl (HO_append (i:=0) (R:=[_,_]) rfl rfl rfl rfl rfl Tryz.underlying53 elt32 rfl rfl (SrcOk.partOwn (j:=1) (l:=0) (h':=k) Tryz.underlying53 rfl ?_ ?_) ?_ ?_))
   ·omega
   ·omega
   ·(simp only [List.length_append,List.length_nil,List.length_take,List.length_drop];omega)
   intro a24 c24
   refine BK 4 [_] rfl (LO 16 (by kernel_rfl) rfl (HO_append (i:=0) (R:=[_,_]) rfl rfl rfl rfl rfl Tryz.underlying53 elt32 rfl rfl (SrcOk.partOwn (j:=1) (l:=k + 1) (h':=L.length) Tryz.underlying53 rfl ?_ ?_) ?_ ?_))
   ·omega
   ·omega
   ·(simp only [List.length_append,List.length_nil,List.length_take,List.length_drop];omega)
   intro a32 c32
   refine BK 4 [_] rfl (TK 17 4 [_] rfl (by kernel_rfl) (V_nilCheck rfl) (TK 18 4 [_] rfl (by kernel_rfl) (V_fieldAddr (r:=1) rfl Tryz.underlying55 rfl Tryz.sizeOf53 rfl) (LO 19 (by kernel_rfl) rfl (SR 1 [_] [_] [] [_] [_,_] [_,_] Tryz.sizeOf53 rfl (BK 4 [_] rfl (HA_done (by kernel_rfl) (EV [] [] rfl (SQ (RG rfl (AS rfl (HO_nil (WD 3 [_,_] rfl (R1 Tryz.results18 (a32,c32) rfl (fun w hA => ⟨?_,?_,?_⟩))))))))))))))
   ·(rw [Net.mayE_yes.2 hin])
   ·trivial
   ·(rw [Net.ix_nat,eraseIdx_take_drop];exact (hA.keep (m:=[yy,yy]) (Y:=[_,_]) rfl).cast (by simp))
theorem rtake_spec (g : Nat) (mo : Int) (la : Option Addr) (lc : Nat) (L : List Bs) (i : Int) (hll : L.length≤1000) (hx : (Net.bsAt L (Net.ix i L.length)).length≤100000) : Spec Tryz.prog 13 #[.pointer (some ⟨g,0,none⟩),.int .i64 (i)] [.loc g [.int .i64 (mo),.slice la (L.length) lc] 55,.own 32 kBs la lc (L)] (β:=(Option Addr × Nat) × (Option Addr × Nat) × (Option Addr × Nat) × (Option Addr × Nat) × (Option Addr × Nat)) (fun y => .tuple #[.agg #[.int .i64 ((Net.look i L.length (Net.bsAt L (Net.ix i L.length))).1.kind),.int .i64 ((Net.look i L.length (Net.bsAt L (Net.ix i L.length))).1.frm),.int .i64 ((Net.look i L.length (Net.bsAt L (Net.ix i L.length))).1.to),.int .i64 ((Net.look i L.length (Net.bsAt L (Net.ix i L.length))).1.term),.int .i64 ((Net.look i L.length (Net.bsAt L (Net.ix i L.length))).1.idx),.int .i64 ((Net.look i L.length (Net.bsAt L (Net.ix i L.length))).1.lterm),.int .i64 ((Net.look i L.length (Net.bsAt L (Net.ix i L.length))).1.commit),.int .i64 ((Net.look i L.length (Net.bsAt L (Net.ix i L.length))).1.round),.bool ((Net.look i L.length (Net.bsAt L (Net.ix i L.length))).1.rej),.int .i64 ((Net.look i L.length (Net.bsAt L (Net.ix i L.length))).1.hint),.slice y.2.1.1 (((Net.look i L.length (Net.bsAt L (Net.ix i L.length))).1.ents).length) y.2.1.2,.int .i64 ((Net.look i L.length (Net.bsAt L (Net.ix i L.length))).1.snap.idx),.int .i64 ((Net.look i L.length (Net.bsAt L (Net.ix i L.length))).1.snap.term),.slice y.2.2.1.1 (((Net.look i L.length (Net.bsAt L (Net.ix i L.length))).1.snap.conf.vot).length) y.2.2.1.2,.slice y.2.2.2.1.1 (((Net.look i L.length (Net.bsAt L (Net.ix i L.length))).1.snap.conf.lea).length) y.2.2.2.1.2,.slice y.2.2.2.2.1 (((Net.look i L.length (Net.bsAt L (Net.ix i L.length))).1.snap.data).length) y.2.2.2.2.2],.int .i64 ((Net.look i L.length (Net.bsAt L (Net.ix i L.length))).2)]) (fun y => True) (fun y => [.loc g [.int .i64 (mo),.slice y.1.1 (((L.eraseIdx (Net.ix i L.length))).length) y.1.2] 55,.own 32 kBs y.1.1 y.1.2 ((L.eraseIdx (Net.ix i L.length))),.dat kEnt.sl ((Net.look i L.length (Net.bsAt L (Net.ix i L.length))).1.ents) [.slice y.2.1.1 (((Net.look i L.length (Net.bsAt L (Net.ix i L.length))).1.ents).length) y.2.1.2],.dat kInt.sl ((Net.look i L.length (Net.bsAt L (Net.ix i L.length))).1.snap.conf.vot) [.slice y.2.2.1.1 (((Net.look i L.length (Net.bsAt L (Net.ix i L.length))).1.snap.conf.vot).length) y.2.2.1.2],.dat kInt.sl ((Net.look i L.length (Net.bsAt L (Net.ix i L.length))).1.snap.conf.lea) [.slice y.2.2.2.1.1 (((Net.look i L.length (Net.bsAt L (Net.ix i L.length))).1.snap.conf.lea).length) y.2.2.2.1.2],.dat kByte.sl ((Net.look i L.length (Net.bsAt L (Net.ix i L.length))).1.snap.data) [.slice y.2.2.2.2.1 (((Net.look i L.length (Net.bsAt L (Net.ix i L.length))).1.snap.data).length) y.2.2.2.2.2]]):=by
 refine Spec.enter (vs:=[_,_]) Tryz.func13 rfl Tryz.ntmps13 rfl (Nat.le_of_ble_eq_true rfl) (fun w0 ok0 => ?_)
 generalize hM0 : blks _ = M0
 refine SQ (RG rfl (AO [_,_,_,_,_,_,_,_,_,_,_,_,_,_,_,_] Tryz.zeroValue36 rfl ?_))
 intro g4
 refine AS rfl (NI [4,0,1] [_,_,_] rfl (SQ (RG rfl (MV rfl (MV rfl (CB [1,2] [_] rfl Tryz.call16 (rlook_spec _ _ _ _ _ _ ?_) ?_))))))
 ·(first | omega | assumption | decide)
 intro y11 hy11
 refine MV rfl (EX [_,_] rfl (EX [_,_] rfl (AO [_,_,_,_,_,_,_,_,_,_,_,_,_,_,_,_] Tryz.zeroValue36 rfl ?_)))
 intro g6
 refine SR 0 [] [_,_,_,_,_,_,_,_,_,_,_,_,_,_,_,_] [] [_,_,_,_,_,_,_,_,_,_,_,_,_,_,_,_] [_,_,_,_,_,_,_] [_,_,_,_,_,_,_,_,_,_,_,_,_,_,_,_] Tryz.sizeOf36 rfl (AS rfl (NI [7,6,4,0,1] [_,_,_,_,_] rfl (SQ (RG rfl (MV rfl (MV rfl (CB [1,2] [_,_,_,_,_,_] rfl Tryz.call18 (rdrop_spec _ _ _ _ _ _ ?_) ?_)))))))
 ·(first | omega | assumption | decide)
 intro y16 hy16
 refine NI [7,6,4] [_,_,_] rfl (SQ (RG rfl (LA 2 [] [_,_,_,_,_,_,_,_,_,_,_,_,_,_,_,_] [] rfl (.loc _ _ _) Tryz.isAgg36 Tryz.sizeOf36 rfl (MV rfl (SR 7 [] [_,_,_,_,_,_,_,_,_,_,_,_,_,_,_,_] [] [_,_,_,_,_,_,_,_,_,_,_,_,_,_,_,_] [_,_,_,_,_,_,_] [_,_,_,_,_,_,_,_,_,_,_,_,_,_,_,_] Tryz.sizeOf36 rfl (AS rfl (NI [5,4] [_,_] rfl (WD 247 [_,_,_,_,_,_,_] rfl (H_ret2 Tryz.results13 (.cell rfl (fun w hA => run_loadVarA (cs:=[_,_,_,_,_,_,_,_,_,_,_,_,_,_,_,_]) (Tryz.isAgg36 w) (Tryz.sizeOf36 w) (Tells.cells (.loc _ _ _) (hA.get (i:=0) rfl)))) (.tmp rfl) (fun w hA => ⟨(y16,y11),congrArg Ending.returned ?_,?_,?_⟩))))))))))
 ·rfl
 ·trivial
 ·exact hA.keep (m:=[nn,yy,yy,yy,yy,yy,yy]) (Y:=[_,_,_,_,_,_]) rfl
theorem rdouble_spec (g : Nat) (mo : Int) (la : Option Addr) (lc : Nat) (L : List Bs) (i : Int) (hll : L.length≤1000) : Spec Tryz.prog 20 #[.pointer (some ⟨g,0,none⟩),.int .i64 (i)] [.loc g [.int .i64 (mo),.slice la (L.length) lc] 55,.own 32 kBs la lc (L)] (β:=Option Addr × Nat) (fun y => .int .i64 (Net.dblE mo L.length i)) (fun y => True) (fun y => [.loc g [.int .i64 (mo),.slice y.1 (((Net.dblL mo L i)).length) y.2] 55,.own 32 kBs y.1 y.2 ((Net.dblL mo L i))]):=by
 refine Spec.enter (vs:=[_,_]) Tryz.func20 rfl Tryz.ntmps20 rfl (Nat.le_of_ble_eq_true rfl) (fun w0 ok0 => ?_)
 generalize hM0 : blks _ = M0
 refine SQ (RG rfl (AS rfl (NI [0,1] [_,_] rfl (SQ (BO (SQ (RG rfl (MV rfl (BN rfl bin_lss (MV rfl (HO_split (d:=8) rfl ?_ ?_)))))))))))
 ·intro h8
  replace h8:=dT h8
  iterate 7 refine HO_no rfl rfl rfl ?_
  refine PT rfl (AS rfl (NI [5,0,1] [_,_,_] rfl (CT rfl (SQ (RG rfl (AS rfl (NI [4] [_] rfl ?_)))))))
  have hno : ¬ Net.ix i L.length < L.length:=fun h => by have:=Net.ix_lt.1 h;omega
  refine R1 Tryz.results20 (la,lc) rfl (fun w hA => ⟨?_,?_,?_⟩)
  ·(exact congrArg (Value.int .i64) (by unfold Net.dblE;rw [if_neg hno]))
  ·trivial
  ·(rw [Net.dblL_no (fun h => hno h.1)];exact hA.keep (m:=[yy,yy]) (Y:=[_,_]) rfl)
 intro h8
 replace h8:=dF h8
 refine MV rfl (MV rfl (NC rfl (FA 1 rfl Tryz.underlying55 rfl Tryz.sizeOf53 (LD 0 1 rfl Tryz.isAgg53 (BI rfl (bi_len_sl Tryz.underlying53) (BN rfl bin_geq (PF rfl (AS rfl (NI [5,0,1] [_,_,_] rfl (H_cond rfl ?_ ?_))))))))))
 ·intro h5
  replace h5:=dT h5
  refine SQ (RG rfl (AS rfl (NI [4] [_] rfl ?_)))
  have hno : ¬ Net.ix i L.length < L.length:=fun h => by have:=Net.ix_lt.1 h;omega
  refine R1 Tryz.results20 (la,lc) rfl (fun w hA => ⟨?_,?_,?_⟩)
  ·(exact congrArg (Value.int .i64) (by unfold Net.dblE;rw [if_neg hno]))
  ·trivial
  ·(rw [Net.dblL_no (fun h => hno h.1)];exact hA.keep (m:=[yy,yy]) (Y:=[_,_]) rfl)
 intro h5
 replace h5:=dF h5
 refine SQ ?_
 have hin : Net.ix i L.length < L.length:=Net.ix_lt.2 ⟨by omega,by omega⟩
 refine H_drawB (m:=[yy,yy]) (Xs:=[_,_]) (fuel:=11) (l:=#[false,false,false,false,false,false,false,false,false,false,false]) mixed rfl rfl rfl (TA 0 rfl (by kernel_rfl) (V_move rfl) (TA 1 rfl (by kernel_rfl) (V_nilCheck rfl) (TA 2 rfl (by kernel_rfl) (V_fieldAddr (r:=1) rfl Tryz.underlying55 rfl Tryz.sizeOf53 rfl) (TA 3 rfl (by kernel_rfl) (V_load1 (i:=0) (j:=1) rfl Tryz.isAgg53 rfl (.loc _ _ _) rfl rfl) (TA 4 rfl (by kernel_rfl) (V_bi rfl (bi_len_sl Tryz.underlying53)) (TA 5 rfl (by kernel_rfl) (V_move rfl) (TA 6 rfl (by kernel_rfl) (V_nilCheck rfl) (TA 7 rfl (by kernel_rfl) (V_fieldAddr (r:=0) rfl Tryz.underlying55 rfl Tryz.sizeOf3 rfl) (TA 8 rfl (by kernel_rfl) (V_load1 (i:=0) (j:=0) rfl Tryz.isAgg3 rfl (.loc _ _ _) rfl rfl) (TA 9 rfl (by kernel_rfl) (V_bin rfl rfl bin_geq) (TA 10 rfl (by kernel_rfl) (V_assign rfl) (HA_done (by kernel_rfl) (EV [17,0,1] [_,_,_] rfl ?_)))))))))))))
 refine H_cond rfl ?_ ?_
 ·intro h17
  replace h17:=dT h17
  refine SQ (RG rfl (AS rfl (NI [4] [_] rfl (R1 Tryz.results20 (la,lc) rfl (fun w hA => ⟨?_,?_,?_⟩)))))
  ·(exact congrArg (Value.int .i64) (by unfold Net.dblE;rw [if_pos hin,if_neg (by omega)]))
  ·trivial
  ·(rw [Net.dblL_no (fun h => absurd h.2 (by omega))];exact hA.keep (m:=[yy,yy]) (Y:=[_,_]) rfl)
 intro h17
 replace h17:=dF h17
 refine SK (BD (SQ ?_))
 have hyd : Net.dblP mo L.length i:=⟨hin,by omega⟩
 refine H_drawB (m:=[nn,nn]) (Xs:=[]) (fuel:=17) (l:=#[false,false,false,false,false,false,false,false,false,false,false,false,false,false,false,false,false]) mixed rfl rfl rfl (TK 0 0 [] rfl (by kernel_rfl) (V_move rfl) (TK 1 0 [] rfl (by kernel_rfl) (V_move rfl) (TK 2 0 [] rfl (by kernel_rfl) (V_nilCheck rfl) (TK 3 0 [] rfl (by kernel_rfl) (V_fieldAddr (r:=1) rfl Tryz.underlying55 rfl Tryz.sizeOf53 rfl) (TK 5 0 [] rfl (by kernel_rfl) (V_move rfl) (TK 6 0 [] rfl (by kernel_rfl) (V_nilCheck rfl) (TK 7 0 [] rfl (by kernel_rfl) (V_fieldAddr (r:=1) rfl Tryz.underlying55 rfl Tryz.sizeOf53 rfl) (TK 9 0 [] rfl (by kernel_rfl) (V_move rfl) (HA_loud2 (i:=4) (j:=8) (by kernel_rfl) rfl rfl ?_ ?_)))))))))
 ·refine HO_load1 (i:=0) (j:=1) rfl rfl rfl Tryz.isAgg53 rfl (.loc _ _ _) rfl rfl ?_
  refine BK 0 [] rfl (LO 8 (by kernel_rfl) rfl (LD 0 1 rfl Tryz.isAgg53 (BK 0 [] rfl (LO 10 (by kernel_rfl) rfl (HO_indexOwn (i:=1) (j:=(Net.ix i L.length)) rfl rfl rfl rfl ?_ Tryz.underlying53 Tryz.sizeOf32 rfl (by first | rfl | (simp;done) | (simp;omega)) ?_ (Nat.mul_one _) ?_)))))
  ·exact Net.ix_eq hin
  ·exact hin
  intro g38 z38 hg38 hz38
  refine BK 0 [] rfl (LO 11 (by kernel_rfl) rfl (HO_loadOwnS open_Bs (i:=1) (vv:=fun z y => .slice y.1 (z.b.length) y.2) rfl rfl rfl Tryz.isAgg32 (fun _ _ => rfl) rfl hg38 (Nat.mul_one _) hz38 ?_))
  intro y39 hI39
  (try simp only [BIG] at hI39)
  refine BK 0 [] rfl (LO 12 (by kernel_rfl) rfl (HO_buildSlice (kd:=kBs) (xo:=[_]) (vs:=[_]) (cs:=[_]) (xs:=[(⟨z38.b⟩ : Bs)]) rfl rfl rfl rfl Tryz.underlying53 elt32 rfl rfl rfl (by decide) (by decide) (by simp [Value.cells]) rfl (fun ok w hA => ⟨_,_,rfl,⟨hI39,⟨_,_⟩,rfl,(List.forall_mem_cons.2 ⟨hA _ (List.mem_of_getElem? (i:=0) rfl),(by simp)⟩)⟩,rfl⟩) ?_))
  intro g40
  refine BK 0 [] rfl (LO 13 (by kernel_rfl) rfl (HO_append (i:=3) (R:=[_,_,_]) rfl rfl rfl rfl rfl Tryz.underlying53 elt32 rfl rfl (SrcOk.own (j:=0) Tryz.underlying53 rfl rfl) ?_ ?_))
  ·(simp only [List.length_cons,List.length_nil];omega)
  intro a41 c41
  refine BK 0 [] rfl (TK 14 0 [] rfl (by kernel_rfl) (V_nilCheck rfl) (TK 15 0 [] rfl (by kernel_rfl) (V_fieldAddr (r:=1) rfl Tryz.underlying55 rfl Tryz.sizeOf53 rfl) (LO 16 (by kernel_rfl) rfl (SR 3 [_] [_] [] [_] [_,_,_] [_,_] Tryz.sizeOf53 rfl (BK 0 [] rfl (HA_done (by kernel_rfl) (EV [] [] rfl (WD 3 [_,_] rfl (SQ (RG rfl (AS rfl (HO_nil (R1 Tryz.results20 (a41,c41) rfl (fun w hA => ⟨?_,?_,?_⟩))))))))))))))
  ·(exact congrArg (Value.int .i64) (by unfold Net.dblE;rw [if_pos hin,if_pos hyd.2]))
  ·trivial
  ·(rw [Net.dblL_yes hyd,Net.bs_get hz38];exact hA.keep (m:=[yy,yy]) (Y:=[_,_]) rfl)
 ·refine HO_load1 (i:=0) (j:=1) rfl rfl rfl Tryz.isAgg53 rfl (.loc _ _ _) rfl rfl ?_
  refine BK 0 [] rfl (HA_loud2 (i:=4) (j:=10) (by kernel_rfl) rfl rfl ?_ ?_)
  ·refine HO_load1 (i:=0) (j:=1) rfl rfl rfl Tryz.isAgg53 rfl (.loc _ _ _) rfl rfl ?_
   refine BK 0 [] rfl (LO 10 (by kernel_rfl) rfl (HO_indexOwn (i:=1) (j:=(Net.ix i L.length)) rfl rfl rfl rfl ?_ Tryz.underlying53 Tryz.sizeOf32 rfl (by first | rfl | (simp;done) | (simp;omega)) ?_ (Nat.mul_one _) ?_))
   ·exact Net.ix_eq hin
   ·exact hin
   intro g38 z38 hg38 hz38
   refine BK 0 [] rfl (LO 11 (by kernel_rfl) rfl (HO_loadOwnS open_Bs (i:=1) (vv:=fun z y => .slice y.1 (z.b.length) y.2) rfl rfl rfl Tryz.isAgg32 (fun _ _ => rfl) rfl hg38 (Nat.mul_one _) hz38 ?_))
   intro y39 hI39
   (try simp only [BIG] at hI39)
   refine BK 0 [] rfl (LO 12 (by kernel_rfl) rfl (HO_buildSlice (kd:=kBs) (xo:=[_]) (vs:=[_]) (cs:=[_]) (xs:=[(⟨z38.b⟩ : Bs)]) rfl rfl rfl rfl Tryz.underlying53 elt32 rfl rfl rfl (by decide) (by decide) (by simp [Value.cells]) rfl (fun ok w hA => ⟨_,_,rfl,⟨hI39,⟨_,_⟩,rfl,(List.forall_mem_cons.2 ⟨hA _ (List.mem_of_getElem? (i:=0) rfl),(by simp)⟩)⟩,rfl⟩) ?_))
   intro g40
   refine BK 0 [] rfl (LO 13 (by kernel_rfl) rfl (HO_append (i:=3) (R:=[_,_,_]) rfl rfl rfl rfl rfl Tryz.underlying53 elt32 rfl rfl (SrcOk.own (j:=0) Tryz.underlying53 rfl rfl) ?_ ?_))
   ·(simp only [List.length_cons,List.length_nil];omega)
   intro a41 c41
   refine BK 0 [] rfl (TK 14 0 [] rfl (by kernel_rfl) (V_nilCheck rfl) (TK 15 0 [] rfl (by kernel_rfl) (V_fieldAddr (r:=1) rfl Tryz.underlying55 rfl Tryz.sizeOf53 rfl) (LO 16 (by kernel_rfl) rfl (SR 3 [_] [_] [] [_] [_,_,_] [_,_] Tryz.sizeOf53 rfl (BK 0 [] rfl (HA_done (by kernel_rfl) (EV [] [] rfl (WD 3 [_,_] rfl (SQ (RG rfl (AS rfl (HO_nil (R1 Tryz.results20 (a41,c41) rfl (fun w hA => ⟨?_,?_,?_⟩))))))))))))))
   ·(exact congrArg (Value.int .i64) (by unfold Net.dblE;rw [if_pos hin,if_pos hyd.2]))
   ·trivial
   ·(rw [Net.dblL_yes hyd,Net.bs_get hz38];exact hA.keep (m:=[yy,yy]) (Y:=[_,_]) rfl)
  ·refine HO_indexOwn (i:=1) (j:=(Net.ix i L.length)) rfl rfl rfl rfl ?_ Tryz.underlying53 Tryz.sizeOf32 rfl (by first | rfl | (simp;done) | (simp;omega)) ?_ (Nat.mul_one _) ?_
   ·exact Net.ix_eq hin
   ·exact hin
   intro g38 z38 hg38 hz38
   refine BK 0 [] rfl (HA_loud2 (i:=4) (j:=11) (by kernel_rfl) rfl rfl ?_ ?_)
   ·refine HO_load1 (i:=0) (j:=1) rfl rfl rfl Tryz.isAgg53 rfl (.loc _ _ _) rfl rfl ?_
    refine BK 0 [] rfl (LO 11 (by kernel_rfl) rfl (HO_loadOwnS open_Bs (i:=1) (vv:=fun z y => .slice y.1 (z.b.length) y.2) rfl rfl rfl Tryz.isAgg32 (fun _ _ => rfl) rfl hg38 (Nat.mul_one _) hz38 ?_))
    intro y39 hI39
    (try simp only [BIG] at hI39)
    refine BK 0 [] rfl (LO 12 (by kernel_rfl) rfl (HO_buildSlice (kd:=kBs) (xo:=[_]) (vs:=[_]) (cs:=[_]) (xs:=[(⟨z38.b⟩ : Bs)]) rfl rfl rfl rfl Tryz.underlying53 elt32 rfl rfl rfl (by decide) (by decide) (by simp [Value.cells]) rfl (fun ok w hA => ⟨_,_,rfl,⟨hI39,⟨_,_⟩,rfl,(List.forall_mem_cons.2 ⟨hA _ (List.mem_of_getElem? (i:=0) rfl),(by simp)⟩)⟩,rfl⟩) ?_))
    intro g40
    refine BK 0 [] rfl (LO 13 (by kernel_rfl) rfl (HO_append (i:=3) (R:=[_,_,_]) rfl rfl rfl rfl rfl Tryz.underlying53 elt32 rfl rfl (SrcOk.own (j:=0) Tryz.underlying53 rfl rfl) ?_ ?_))
    ·(simp only [List.length_cons,List.length_nil];omega)
    intro a41 c41
    refine BK 0 [] rfl (TK 14 0 [] rfl (by kernel_rfl) (V_nilCheck rfl) (TK 15 0 [] rfl (by kernel_rfl) (V_fieldAddr (r:=1) rfl Tryz.underlying55 rfl Tryz.sizeOf53 rfl) (LO 16 (by kernel_rfl) rfl (SR 3 [_] [_] [] [_] [_,_,_] [_,_] Tryz.sizeOf53 rfl (BK 0 [] rfl (HA_done (by kernel_rfl) (EV [] [] rfl (WD 3 [_,_] rfl (SQ (RG rfl (AS rfl (HO_nil (R1 Tryz.results20 (a41,c41) rfl (fun w hA => ⟨?_,?_,?_⟩))))))))))))))
    ·(exact congrArg (Value.int .i64) (by unfold Net.dblE;rw [if_pos hin,if_pos hyd.2]))
    ·trivial
    ·(rw [Net.dblL_yes hyd,Net.bs_get hz38];exact hA.keep (m:=[yy,yy]) (Y:=[_,_]) rfl)
   ·refine HO_loadOwnS open_Bs (i:=1) (vv:=fun z y => .slice y.1 (z.b.length) y.2) rfl rfl rfl Tryz.isAgg32 (fun _ _ => rfl) rfl hg38 (Nat.mul_one _) hz38 ?_
    intro y39 hI39
    (try simp only [BIG] at hI39)
    refine BK 0 [] rfl (HA_loud2 (i:=4) (j:=12) (by kernel_rfl) rfl rfl ?_ ?_)
    ·refine HO_load1 (i:=1) (j:=1) rfl rfl rfl Tryz.isAgg53 rfl (.loc _ _ _) rfl rfl ?_
     refine BK 0 [] rfl (LO 12 (by kernel_rfl) rfl (HO_buildSlice (kd:=kBs) (xo:=[_]) (vs:=[_]) (cs:=[_]) (xs:=[(⟨z38.b⟩ : Bs)]) rfl rfl rfl rfl Tryz.underlying53 elt32 rfl rfl rfl (by decide) (by decide) (by simp [Value.cells]) rfl (fun ok w hA => ⟨_,_,rfl,⟨hI39,⟨_,_⟩,rfl,(List.forall_mem_cons.2 ⟨hA _ (List.mem_of_getElem? (i:=0) rfl),(by simp)⟩)⟩,rfl⟩) ?_))
     intro g40
     refine BK 0 [] rfl (LO 13 (by kernel_rfl) rfl (HO_append (i:=3) (R:=[_,_,_]) rfl rfl rfl rfl rfl Tryz.underlying53 elt32 rfl rfl (SrcOk.own (j:=0) Tryz.underlying53 rfl rfl) ?_ ?_))
     ·(simp only [List.length_cons,List.length_nil];omega)
     intro a41 c41
     refine BK 0 [] rfl (TK 14 0 [] rfl (by kernel_rfl) (V_nilCheck rfl) (TK 15 0 [] rfl (by kernel_rfl) (V_fieldAddr (r:=1) rfl Tryz.underlying55 rfl Tryz.sizeOf53 rfl) (LO 16 (by kernel_rfl) rfl (SR 3 [_] [_] [] [_] [_,_,_] [_,_] Tryz.sizeOf53 rfl (BK 0 [] rfl (HA_done (by kernel_rfl) (EV [] [] rfl (WD 3 [_,_] rfl (SQ (RG rfl (AS rfl (HO_nil (R1 Tryz.results20 (a41,c41) rfl (fun w hA => ⟨?_,?_,?_⟩))))))))))))))
     ·(exact congrArg (Value.int .i64) (by unfold Net.dblE;rw [if_pos hin,if_pos hyd.2]))
     ·trivial
     ·(rw [Net.dblL_yes hyd,Net.bs_get hz38];exact hA.keep (m:=[yy,yy]) (Y:=[_,_]) rfl)
    ·refine HO_buildSlice (kd:=kBs) (xo:=[_]) (vs:=[_]) (cs:=[_]) (xs:=[(⟨z38.b⟩ : Bs)]) rfl rfl rfl rfl Tryz.underlying53 elt32 rfl rfl rfl (by decide) (by decide) (by simp [Value.cells]) rfl (fun ok w hA => ⟨_,_,rfl,⟨hI39,⟨_,_⟩,rfl,(List.forall_mem_cons.2 ⟨hA _ (List.mem_of_getElem? (i:=0) rfl),(by simp)⟩)⟩,rfl⟩) ?_
     intro g40
     refine BK 0 [] rfl (LO 4 (by kernel_rfl) rfl (LD 2 1 rfl Tryz.isAgg53 (BK 0 [] rfl (LO 13 (by kernel_rfl) rfl (HO_append (i:=3) (R:=[_,_,_]) rfl rfl rfl rfl rfl Tryz.underlying53 elt32 rfl rfl (SrcOk.own (j:=0) Tryz.underlying53 rfl rfl) ?_ ?_)))))
     ·(simp only [List.length_cons,List.length_nil];omega)
     intro a41 c41
     refine BK 0 [] rfl (TK 14 0 [] rfl (by kernel_rfl) (V_nilCheck rfl) (TK 15 0 [] rfl (by kernel_rfl) (V_fieldAddr (r:=1) rfl Tryz.underlying55 rfl Tryz.sizeOf53 rfl) (LO 16 (by kernel_rfl) rfl (SR 3 [_] [_] [] [_] [_,_,_] [_,_] Tryz.sizeOf53 rfl (BK 0 [] rfl (HA_done (by kernel_rfl) (EV [] [] rfl (WD 3 [_,_] rfl (SQ (RG rfl (AS rfl (HO_nil (R1 Tryz.results20 (a41,c41) rfl (fun w hA => ⟨?_,?_,?_⟩))))))))))))))
     ·(exact congrArg (Value.int .i64) (by unfold Net.dblE;rw [if_pos hin,if_pos hyd.2]))
     ·trivial
     ·(rw [Net.dblL_yes hyd,Net.bs_get hz38];exact hA.keep (m:=[yy,yy]) (Y:=[_,_]) rfl)
theorem rspoil_spec (g : Nat) (mo : Int) (la : Option Addr) (lc : Nat) (L : List Bs) (i at_ bi : Int) (hll : L.length≤1000) (hx : (Net.bsAt L (Net.ix i L.length)).length≤100000) : Spec Tryz.prog 22 #[.pointer (some ⟨g,0,none⟩),.int .i64 (i),.int .i64 (at_),.int .i64 (bi)] [.loc g [.int .i64 (mo),.slice la (L.length) lc] 55,.own 32 kBs la lc (L)] (β:=Unit) (fun y => .int .i64 (Net.splE i L.length (Net.bsAt L (Net.ix i L.length)) at_ bi)) (fun y => True) (fun y => [.loc g [.int .i64 (mo),.slice la (L.length) lc] 55,.own 32 kBs la lc ((L.set (Net.ix i L.length) (⟨Net.spl (Net.bsAt L (Net.ix i L.length)) at_ bi⟩ : Bs)))]):=by
 refine Spec.enter (vs:=[_,_,_,_]) Tryz.func22 rfl Tryz.ntmps22 rfl (Nat.le_of_ble_eq_true rfl) (fun w0 ok0 => ?_)
 generalize hM0 : blks _ = M0
 refine SQ (RG rfl (AS rfl (NI [0,1,2,3] [_,_,_,_] rfl (SQ (BO (SQ (RG rfl (MV rfl (BN rfl bin_lss (MV rfl (HO_split (d:=13) rfl ?_ ?_)))))))))))
 ·intro h13
  replace h13:=dT h13
  iterate 7 refine HO_no rfl rfl rfl ?_
  refine PT rfl (AS rfl (NI [10,0,1,2,3] [_,_,_,_,_] rfl (CT rfl (SQ (RG rfl (AS rfl (NI [8] [_] rfl ?_)))))))
  have hno : ¬ Net.ix i L.length < L.length:=fun h => by have:=Net.ix_lt.1 h;omega
  have hns : ¬ Net.splP (Net.bsAt L (Net.ix i L.length)) at_ bi:=fun h => by have h1:=h.1;have h2:=h.2.1;have h3:=h.2.2.1;have h4:=h.2.2.2;rw [Net.bs_no hno] at h2;simp at h2;omega
  refine R1 Tryz.results22 () rfl (fun w hA => ⟨?_,?_,?_⟩)
  ·(exact congrArg (Value.int .i64) (by unfold Net.splE;rw [if_neg hno]))
  ·trivial
  ·(rw [Net.spl_no hns,Net.set_same'];exact hA.keep (m:=[yy,yy]) (Y:=[_,_]) rfl)
 intro h13
 replace h13:=dF h13
 refine MV rfl (MV rfl (NC rfl (FA 1 rfl Tryz.underlying55 rfl Tryz.sizeOf53 (LD 0 1 rfl Tryz.isAgg53 (BI rfl (bi_len_sl Tryz.underlying53) (BN rfl bin_geq (PF rfl (AS rfl (NI [10,0,1,2,3] [_,_,_,_,_] rfl (H_cond rfl ?_ ?_))))))))))
 ·intro h10
  replace h10:=dT h10
  refine SQ (RG rfl (AS rfl (NI [8] [_] rfl ?_)))
  have hno : ¬ Net.ix i L.length < L.length:=fun h => by have:=Net.ix_lt.1 h;omega
  have hns : ¬ Net.splP (Net.bsAt L (Net.ix i L.length)) at_ bi:=fun h => by have h1:=h.1;have h2:=h.2.1;have h3:=h.2.2.1;have h4:=h.2.2.2;rw [Net.bs_no hno] at h2;simp at h2;omega
  refine R1 Tryz.results22 () rfl (fun w hA => ⟨?_,?_,?_⟩)
  ·(exact congrArg (Value.int .i64) (by unfold Net.splE;rw [if_neg hno]))
  ·trivial
  ·(rw [Net.spl_no hns,Net.set_same'];exact hA.keep (m:=[yy,yy]) (Y:=[_,_]) rfl)
 intro h10
 replace h10:=dF h10
 refine SQ ?_
 have hin : Net.ix i L.length < L.length:=Net.ix_lt.2 ⟨by omega,by omega⟩
 refine RG rfl (MV rfl (BN rfl bin_lss (MV rfl (HO_split (d:=25) rfl ?_ ?_))))
 ·intro h25
  replace h25:=dT h25
  iterate 10 refine HO_no rfl rfl rfl ?_
  refine PT rfl (MV rfl (NO rfl (NO rfl (PT rfl (MV rfl (NO rfl (NO rfl (PT rfl (AS rfl (NI [22,0,1,2,3] [_,_,_,_,_] rfl (CT rfl (SQ ?_))))))))))))
  refine RG rfl (AS rfl (NI [8] [_] rfl ?_))
  have hns : ¬ Net.splP (Net.bsAt L (Net.ix i L.length)) at_ bi:=fun h => by have h1:=h.1;have h2:=h.2.1;have h3:=h.2.2.1;have h4:=h.2.2.2;omega
  refine R1 Tryz.results22 () rfl (fun w hA => ⟨?_,?_,?_⟩)
  ·(exact congrArg (Value.int .i64) (by unfold Net.splE;rw [if_pos hin,if_neg hns]))
  ·trivial
  ·(rw [Net.spl_no hns,Net.set_same'];exact hA.keep (m:=[yy,yy]) (Y:=[_,_]) rfl)
 intro h25
 replace h25:=dF h25
 refine MV rfl (MV rfl (NC rfl (FA 1 rfl Tryz.underlying55 rfl Tryz.sizeOf53 (LD 0 1 rfl Tryz.isAgg53 (MV rfl (HO_indexOwn (i:=1) (j:=(Net.ix i L.length)) rfl rfl rfl rfl ?_ Tryz.underlying53 Tryz.sizeOf32 rfl (by first | rfl | (simp;done) | (simp;omega)) ?_ (Nat.mul_one _) ?_))))))
 ·exact Net.ix_eq hin
 ·exact hin
 intro g32 z32 hg32 hz32
 refine HO_loadOwnS open_Bs (i:=1) (vv:=fun z y => .slice y.1 (z.b.length) y.2) rfl rfl rfl Tryz.isAgg32 (fun _ _ => rfl) rfl hg32 (Nat.mul_one _) hz32 ?_
 intro y33 hI33
 (try simp only [BIG] at hI33)
 have hb32:=Net.bs_get hz32
 refine BI rfl (bi_len_sl Tryz.underlying32) (BN rfl bin_geq (PF rfl (MV rfl (HO_split (d:=37) rfl ?_ ?_))))
 ·intro h37
  replace h37:=dT h37
  refine NO rfl (NO rfl (PT rfl (MV rfl (NO rfl (NO rfl (PT rfl (AS rfl (NI [22,0,1,2,3] [_,_,_,_,_] rfl (WD 6 [_,_] rfl (CT rfl (SQ (RG rfl ?_))))))))))))
  refine AS rfl (NI [8] [_] rfl ?_)
  have hns : ¬ Net.splP (Net.bsAt L (Net.ix i L.length)) at_ bi:=fun h => by have h1:=h.1;have h2:=h.2.1;have h3:=h.2.2.1;have h4:=h.2.2.2;rw [hb32] at h2;omega
  refine R1 Tryz.results22 () rfl (fun w hA => ⟨?_,?_,?_⟩)
  ·(exact congrArg (Value.int .i64) (by unfold Net.splE;rw [if_pos hin,if_neg hns]))
  ·trivial
  ·(rw [Net.spl_no hns,Net.set_same'];exact hA.keep (m:=[yy,yy]) (Y:=[_,_]) rfl)
 intro h37
 replace h37:=dF h37
 refine MV rfl (BN rfl bin_lss (PF rfl (MV rfl (HO_split (d:=41) rfl ?_ ?_))))
 ·intro h41
  replace h41:=dT h41
  refine NO rfl (NO rfl (PT rfl (AS rfl (NI [22,0,1,2,3] [_,_,_,_,_] rfl (WD 6 [_,_] rfl (CT rfl (SQ (RG rfl (AS rfl (NI [8] [_] rfl ?_))))))))))
  have hns : ¬ Net.splP (Net.bsAt L (Net.ix i L.length)) at_ bi:=fun h => by have h1:=h.1;have h2:=h.2.1;have h3:=h.2.2.1;have h4:=h.2.2.2;omega
  refine R1 Tryz.results22 () rfl (fun w hA => ⟨?_,?_,?_⟩)
  ·(exact congrArg (Value.int .i64) (by unfold Net.splE;rw [if_pos hin,if_neg hns]))
  ·trivial
  ·(rw [Net.spl_no hns,Net.set_same'];exact hA.keep (m:=[yy,yy]) (Y:=[_,_]) rfl)
 intro h41
 replace h41:=dF h41
 refine MV rfl (BN rfl bin_gtr (PF rfl (AS rfl (NI [22,0,1,2,3] [_,_,_,_,_] rfl (WD 6 [_,_] rfl (H_cond rfl ?_ ?_))))))
 ·intro h22
  replace h22:=dT h22
  refine SQ (RG rfl (AS rfl (NI [8] [_] rfl ?_)))
  have hns : ¬ Net.splP (Net.bsAt L (Net.ix i L.length)) at_ bi:=fun h => by have h1:=h.1;have h2:=h.2.1;have h3:=h.2.2.1;have h4:=h.2.2.2;omega
  refine R1 Tryz.results22 () rfl (fun w hA => ⟨?_,?_,?_⟩)
  ·(exact congrArg (Value.int .i64) (by unfold Net.splE;rw [if_pos hin,if_neg hns]))
  ·trivial
  ·(rw [Net.spl_no hns,Net.set_same'];exact hA.keep (m:=[yy,yy]) (Y:=[_,_]) rfl)
 intro h22
 replace h22:=dF h22
 refine SK (BD (SQ ?_))
 rw [hb32] at hx
 obtain ⟨q,rfl⟩ : ∃ q : Nat,at_ = q:=⟨at_.toNat,by omega⟩
 obtain ⟨j,rfl⟩ : ∃ j : Nat,bi = j:=⟨bi.toNat,by omega⟩
 have hsp : Net.splP z32.b (q : Int) (j : Int):=⟨by omega,by omega,by omega,by omega⟩
 refine RG rfl (HO_buildSlice0 (kd:=kByte) rfl rfl Tryz.underlying32 elt5 ?_)
 intro g45
 refine MV rfl (NC rfl (FA 1 rfl Tryz.underlying55 rfl Tryz.sizeOf53 (LD 1 1 rfl Tryz.isAgg53 (MV rfl (HO_indexOwn (i:=2) (j:=(Net.ix i L.length)) rfl rfl rfl rfl ?_ Tryz.underlying53 Tryz.sizeOf32 rfl (by first | rfl | (simp;done) | (simp;omega)) ?_ (Nat.mul_one _) ?_)))))
 ·exact Net.ix_eq hin
 ·exact hin
 intro g51 z51 hg51 hz51
 refine HO_loadOwnS open_Bs (i:=2) (vv:=fun z y => .slice y.1 (z.b.length) y.2) rfl rfl rfl Tryz.isAgg32 (fun _ _ => rfl) rfl hg51 (Nat.mul_one _) hz51 ?_
 intro y52 hI52
 (try simp only [BIG] at hI52)
 obtain rfl : z51 = z32:=Option.some.inj (hz51.symm.trans hz32)
 refine HO_append (i:=1) (R:=[_,_,_]) rfl rfl rfl rfl rfl Tryz.underlying32 elt5 rfl rfl (SrcOk.dat (j:=0) Tryz.underlying32 rfl) ?_ ?_
 ·(simp only [List.length_nil];omega)
 intro a53 c53
 refine AS rfl (NI [9,0,1,2,3] [_,_,_,_,_] rfl (WD 13 [_,_,_] rfl (SQ (RG rfl (MV rfl (MV rfl (HO_indexOwn (i:=0) (j:=q) rfl rfl rfl rfl ?_ Tryz.underlying32 Tryz.sizeOf5 rfl (by first | rfl | (simp;done) | (simp;omega)) ?_ (Nat.mul_one _) ?_)))))))
 ·omega
 ·(show q < z51.b.length;omega)
 intro g56 z56 hg56 hz56
 refine HO_loadOwn (i:=0) (v:=.int .u8 (z56.toNat)) rfl rfl rfl Tryz.isAgg5 rfl hg56 (Nat.mul_one _) hz56 (fun _ _ _ h => h.1) (MV rfl (CV rfl (cv_int Tryz.underlying3 Tryz.underlying59 (wrap_u_i rfl _)) (HO_set (v':=.int .u64 (((j : Nat) : Int))) 59 rfl (by exact congrArg (Value.int .u64) (by simp only [IntKind.bits];omega)) (BN rfl (bin_shl' rfl ?_) ?_))))
 ·omega
 refine BN rfl (bin_xor rfl ?_ ?_) ?_
 ·(exact z56.toNat_lt)
 ·(exact Nat.mod_lt _ (by decide))
 refine HO_set (v':=.int .u8 (((UInt8.ofNat (z56.toNat ^^^ (1 * 2 ^ j % 2 ^ 8))).toNat : Int))) 61 rfl (by exact Cod.flip_cast (by omega)) (HO_indexOwn (i:=0) (j:=q) rfl rfl rfl rfl ?_ Tryz.underlying32 Tryz.sizeOf5 rfl (by first | rfl | (simp;done) | (simp;omega)) ?_ (Nat.mul_one _) ?_)
 ·omega
 ·(show q < z51.b.length;omega)
 intro g62 z62 hg62 hz62
 refine HO_storeOwn (i:=0) (cs:=[_]) (R:=[_,_]) (z':=UInt8.ofNat (z56.toNat ^^^ (1 * 2 ^ j % 2 ^ 8))) rfl rfl rfl Tryz.sizeOf5 rfl (by simp [Value.oneCell']) rfl hg62 rfl (Nat.mul_one _) ?_ (fun _ _ _ => ⟨rfl,trivial⟩) ?_
 ·(show q < z51.b.length;omega)
 refine NI [9,0,1] [_,_,_] rfl (SQ (H_set (v':=.slice a53 (([] ++ z51.b).set q (UInt8.ofNat (z56.toNat ^^^ (1 * 2 ^ j % 2 ^ 8)))).length c53) 9 rfl (by rw [List.length_set]) (H_freeze (i:=0) (R:=[_,_]) rfl (keepM hM0 ⟨(fun _ h => ⟨_,List.mem_of_getElem? (i:=0) rfl,h⟩),(fun _ h => ⟨_,List.mem_of_getElem? (i:=1) rfl,h⟩),trivial⟩) (RG rfl (MV rfl (NC rfl (FA 1 rfl Tryz.underlying55 rfl Tryz.sizeOf53 (LD 1 1 rfl Tryz.isAgg53 (MV rfl (MV rfl (HO_indexOwn (i:=2) (j:=(Net.ix i L.length)) rfl rfl rfl rfl ?_ Tryz.underlying53 Tryz.sizeOf32 rfl (by first | rfl | (simp;done) | (simp;omega)) ?_ (Nat.mul_one _) ?_)))))))))))
 ·exact Net.ix_eq hin
 ·exact hin
 intro g69 z69 hg69 hz69
 refine HO_storeOwn (i:=2) (cs:=[_]) (R:=[_,_]) (z':=(⟨([] ++ z51.b).set q (UInt8.ofNat (z56.toNat ^^^ (1 * 2 ^ j % 2 ^ 8)))⟩ : Bs)) rfl rfl rfl Tryz.sizeOf32 rfl (by simp [Value.oneCell']) rfl hg69 rfl (Nat.mul_one _) ?_ (fun ok w hA => ⟨(by dsimp only [BIG];rw [List.length_set];show z51.b.length≤_;omega),⟨_,_⟩,rfl,(List.forall_mem_cons.2 ⟨hA _ (List.mem_of_getElem? (i:=0) rfl),(by simp)⟩)⟩) ?_
 ·exact hin
 refine NI [] [] rfl (WD 5 [_,_] rfl (SQ (RG rfl (AS rfl (HO_nil (R1 Tryz.results22 () rfl (fun w hA => ⟨?_,?_,?_⟩)))))))
 ·(exact congrArg (Value.int .i64) (by unfold Net.splE;rw [if_pos hin,hb32,if_pos hsp]))
 ·trivial
 ·(rw [hb32,Net.spl_yes hsp hz56];exact hA.only (is:=[0,0]) (Z:=[]) rfl)
end Go.Wk
