/- Contracts of the program's functions, each proved by walking its code. -/
import Derived.Test.YtdaphlemhmgncaaGreatKgnet1
set_option maxRecDepth 100000
set_option linter.unusedVariables false
set_option linter.unusedSimpArgs false
namespace Go.Wk.Fnet2
open Go Go.RowKit Go.Proofs Go.Wk
theorem elt32 : Elt Tryz.prog 32 (.slice none 0 0) 1 24:=Elt.of (by kernel_rfl) (by rfl) (by decide) (by decide)
theorem bd63_1_i {x1 : Int} : ∀ w,(Instr.build 63 (List.toArray (List.zip [1] [.int .i64 x1]))).run Tryz.prog w = .ok (.agg #[.slice none 0 0,.int .i64 x1]) w:=fun _ => by kernel_rfl
theorem bd65_0_AniE {a2 : Option Addr} {n2 c2 : Nat} {x3 : Int} : ∀ w,(Instr.build 65 (List.toArray (List.zip [0] [.agg #[.slice a2 n2 c2,.int .i64 x3]]))).run Tryz.prog w = .ok (.agg #[.slice a2 n2 c2,.int .i64 x3]) w:=fun _ => by kernel_rfl
end Go.Wk.Fnet2
namespace Go.Wk
open Go Go.RowKit Go.Proofs Fnet2 
theorem new_bad (mo : Int) (h0 : ¬ (1≤mo∧mo≤1000)) : Spec Tryz.prog 6 #[.int .i64 (mo)] [] (β:=Unit) (fun y => .pointer none) (fun y => True) (fun y => []):=by
 refine Spec.enter (vs:=[_]) Tryz.func6 rfl Tryz.ntmps6 rfl (Nat.le_of_ble_eq_true rfl) (fun w0 ok0 => ?_)
 generalize hM0 : blks _ = M0
 have hMn:=@noM _ _ hM0 (by simp [Atom.dat,Atom.elem])
 refine SQ (RG rfl (AS rfl (NI [0] [_] rfl (SQ (SQ (RG rfl (MV rfl (BN rfl bin_lss (MV rfl (HO_split (d:=5) rfl ?_ ?_))))))))))
 ·intro h5
  replace h5:=dT h5
  refine NO rfl (NO rfl (PT rfl (NI [8,0] [_,_] rfl (CT rfl (SQ (RG rfl (AS rfl (NI [2] [_] rfl (R1 Tryz.results6 () rfl (fun w hA => ⟨?_,?_,?_⟩))))))))))
  ·rfl
  ·trivial
  ·exact hA.keep (m:=[]) (Y:=[]) rfl
 intro h5
 replace h5:=dF h5
 refine MV rfl (BN rfl bin_gtr (PF rfl (NI [8,0] [_,_] rfl (H_cond rfl ?_ ?_))))
 ·intro h8
  replace h8:=dT h8
  refine SQ (RG rfl (AS rfl (NI [2] [_] rfl (R1 Tryz.results6 () rfl (fun w hA => ⟨?_,?_,?_⟩)))))
  ·rfl
  ·trivial
  ·exact hA.keep (m:=[]) (Y:=[]) rfl
 intro h8
 replace h8:=dF h8
 (exfalso;omega)
theorem new_ok (mo : Int) (h0 : 1≤mo∧mo≤1000) : Spec Tryz.prog 6 #[.int .i64 (mo)] [] (β:=Nat) (fun y => .pointer (some ⟨y,0,none⟩)) (fun y => True) (fun y => [.loc y [.slice none 0 0,.int .i64 (mo)] 65]):=by
 refine Spec.enter (vs:=[_]) Tryz.func6 rfl Tryz.ntmps6 rfl (Nat.le_of_ble_eq_true rfl) (fun w0 ok0 => ?_)
 generalize hM0 : blks _ = M0
 have hMn:=@noM _ _ hM0 (by simp [Atom.dat,Atom.elem])
 refine SQ (RG rfl (AS rfl (NI [0] [_] rfl (SQ (SQ (RG rfl (MV rfl (BN rfl bin_lss (MV rfl (HO_split (d:=5) rfl ?_ ?_))))))))))
 ·intro h5
  replace h5:=dT h5
  (exfalso;omega)
 intro h5
 replace h5:=dF h5
 refine MV rfl (BN rfl bin_gtr (PF rfl (NI [8,0] [_,_] rfl (H_cond rfl ?_ ?_))))
 ·intro h8
  replace h8:=dT h8
  (exfalso;omega)
 intro h8
 replace h8:=dF h8
 refine SK (SQ (RG rfl (MV rfl (HO_build (xo:=[(1,_)]) (vs:=[_]) rfl rfl rfl rfl (bd63_1_i) (HO_build (xo:=[(0,_)]) (vs:=[_]) rfl rfl rfl rfl (bd65_0_AniE) (BX [_,_] rfl ?_))))))
 intro g12
 refine AS rfl (NI [2] [_] rfl (R1 Tryz.results6 g12 rfl (fun w hA => ⟨?_,?_,?_⟩)))
 ·rfl
 ·trivial
 ·exact hA.keep (m:=[yy]) (Y:=[_]) rfl
theorem add_spec (g : Nat) (ha : Option Addr) (hc : Nat) (hs : List Hd) (mo : Int) (ra : Option Addr) (rn rc : Nat) (hl : hs.length≤1000) : Spec Tryz.prog 29 #[.pointer (some ⟨g,0,none⟩),.slice ra (rn) rc] [.loc g [.slice ha (hs.length) hc,.int .i64 (mo)] 65,.own 32 kHd ha hc (hs)] (β:=Option Addr × Nat) (fun y => .tuple #[]) (fun y => True) (fun y => [.loc g [.slice y.1 ((hs ++ [(⟨ra,rn,rc⟩ : Hd)]).length) y.2,.int .i64 (mo)] 65,.own 32 kHd y.1 y.2 (hs ++ [(⟨ra,rn,rc⟩ : Hd)])]):=by
 refine Spec.enter (vs:=[_,_]) Tryz.func29 rfl Tryz.ntmps29 rfl (Nat.le_of_ble_eq_true rfl) (fun w0 ok0 => ?_)
 generalize hM0 : blks _ = M0
 refine RG rfl (MV rfl (MV rfl (NC rfl (FA 0 rfl Tryz.underlying63 rfl Tryz.sizeOf53 (LD 0 0 rfl Tryz.isAgg53 (MV rfl (HO_buildSlice (kd:=kHd) (xo:=[_]) (vs:=[_]) (cs:=[_]) (xs:=[(⟨ra,rn,rc⟩ : Hd)]) rfl rfl rfl rfl Tryz.underlying53 elt32 rfl rfl rfl (by decide) (by decide) (by simp [Value.cells]) rfl (fun _ _ _ => ⟨_,_,rfl,⟨rfl,trivial⟩,rfl⟩) ?_)))))))
 intro g10
 refine HO_append (i:=2) (R:=[_,_]) rfl rfl rfl rfl rfl Tryz.underlying53 elt32 rfl rfl (SrcOk.own (j:=0) Tryz.underlying53 rfl rfl) ?_ ?_
 ·(simp only [List.length_cons,List.length_nil];omega)
 intro a11 c11
 refine NC rfl (FA 0 rfl Tryz.underlying63 rfl Tryz.sizeOf53 (SR 2 [] [_] [_] [_] [_,_] [_,_] Tryz.sizeOf53 rfl (NI [] [] rfl (WD 3 [_,_] rfl (H_end0 Tryz.results29 (fun w hA => ⟨(a11,c11),congrArg Ending.returned ?_,?_,?_⟩))))))
 ·rfl
 ·trivial
 ·exact hA.keep (m:=[yy,yy]) (Y:=[_,_]) rfl
theorem send_spec (g : Nat) (ha : Option Addr) (hc : Nat) (hs : List Hd) (mo : Int) (mk mf mt me mi ml mc mr : Int) (rj : Bool) (hi : Int) (es : List Ent) (a9 : Option Addr) (c9 : Nat) (ix te : Int) (vo le : List Int) (a1 : Option Addr) (c1 : Nat) (a2 : Option Addr) (c2 : Nat) (da : List UInt8) (a3 : Option Addr) (c3 : Nat) (h0 : 0 < mo) (hhs : hs.length≤1000) (nd : da.length≤BIG) (n1 : vo.length≤BIG) (n2 : le.length≤BIG) (hm : (-9223372036854775808≤mk∧mk≤9223372036854775807)∧(-9223372036854775808≤mf∧mf≤9223372036854775807)∧(-9223372036854775808≤mt∧mt≤9223372036854775807)∧(-9223372036854775808≤me∧me≤9223372036854775807)∧(-9223372036854775808≤mi∧mi≤9223372036854775807)∧(-9223372036854775808≤ml∧ml≤9223372036854775807)∧(-9223372036854775808≤mc∧mc≤9223372036854775807)∧(-9223372036854775808≤mr∧mr≤9223372036854775807)) (hhi : (-9223372036854775808≤hi∧hi≤9223372036854775807)) (hrs : (-9223372036854775808≤ix∧ix≤9223372036854775807)∧(-9223372036854775808≤te∧te≤9223372036854775807)) (hsn : Ent.sanes es) (hfw : Ent.few es ⟨ix,te,⟨vo,le⟩,da⟩ = true) : Spec Tryz.prog 10 #[.pointer (some ⟨g,0,none⟩),.agg #[.int .i64 (mk),.int .i64 (mf),.int .i64 (mt),.int .i64 (me),.int .i64 (mi),.int .i64 (ml),.int .i64 (mc),.int .i64 (mr),.bool (rj),.int .i64 (hi),.slice a9 (es.length) c9,.int .i64 (ix),.int .i64 (te),.slice a1 (vo.length) c1,.slice a2 (le.length) c2,.slice a3 (da.length) c3]] [.loc g [.slice ha (hs.length) hc,.int .i64 (mo)] 65,.own 32 kHd ha hc (hs),.dat kEnt.sl (es) [.slice a9 (es.length) c9],.dat kInt.sl (vo) [.slice a1 (vo.length) c1],.dat kInt.sl (le) [.slice a2 (le.length) c2],.dat kByte.sl (da) [.slice a3 (da.length) c3]] (β:=(Option Addr × Nat) × (Option Addr × Nat)) (fun y => .int .i64 (Net.sendE mo hs.length ⟨mk,mf,mt,me,mi,ml,mc,mr,rj,hi,es,⟨ix,te,⟨vo,le⟩,da⟩⟩)) (fun y => True) (fun y => [.loc g [.slice y.1.1 (((Net.sendH mo hs ⟨mk,mf,mt,me,mi,ml,mc,mr,rj,hi,es,⟨ix,te,⟨vo,le⟩,da⟩⟩ y.2.1 y.2.2)).length) y.1.2,.int .i64 (mo)] 65,.own 32 kHd y.1.1 y.1.2 ((Net.sendH mo hs ⟨mk,mf,mt,me,mi,ml,mc,mr,rj,hi,es,⟨ix,te,⟨vo,le⟩,da⟩⟩ y.2.1 y.2.2)),.own 5 kByte y.2.1 y.2.2 ((Net.sendB mo hs.length ⟨mk,mf,mt,me,mi,ml,mc,mr,rj,hi,es,⟨ix,te,⟨vo,le⟩,da⟩⟩))]):=by
 (try simp only [BIG] at nd n1 n2)
 have hfp:=Ent.few_parts hfw
 dsimp only at hfp
 have hws:=hfp.1
 have hln:=Ent.msg_len (m:=⟨mk,mf,mt,me,mi,ml,mc,mr,rj,hi,es,⟨ix,te,⟨vo,le⟩,da⟩⟩) hfw
 refine Spec.enter (vs:=[_,_]) Tryz.func10 rfl Tryz.ntmps10 rfl (Nat.le_of_ble_eq_true rfl) (fun w0 ok0 => ?_)
 generalize hM0 : blks _ = M0
 refine H_len_le (i:=2) rfl ?_
 intro hlen2
 refine H_len_le (i:=3) rfl ?_
 intro hlen3
 refine H_len_le (i:=4) rfl ?_
 intro hlen4
 refine SQ (RG rfl (BX [_,_,_,_,_,_,_,_,_,_,_,_,_,_,_,_] rfl ?_))
 intro g3
 refine AS rfl (NI [3,0] [_,_] rfl (SQ (BO (SQ (RG rfl (MV rfl (CB [1] [_,_,_,_,_,_] rfl Tryz.call26 (made_spec _ _ _ _ _) ?_)))))))
 intro y7 hy7
 clear y7 hy7
 refine NT rfl (AS rfl (NI [5,3,0] [_,_,_] rfl (H_cond rfl ?_ ?_)))
 ·intro h5
  replace h5:=dF (nT h5)
  (exact absurd h0 h5)
 intro h5
 replace h5:=dT (nF h5)
 refine SQ (RG rfl (LA 1 [] [_,_,_,_,_,_,_,_,_,_,_,_,_,_,_,_] [] rfl (.loc _ _ _) Tryz.isAgg36 Tryz.sizeOf36 rfl (DU 3 rfl (DU 5 rfl (DU 7 rfl (DU 9 rfl (CB [0,0,0,0] [_,_,_,_,_,_,_] rfl Tryz.call27 (goodmsg_spec _ _ _ _ _ _ _ _ _ _ _ _ _ _ _ _ _ _ _ _ _ _ _ _ ?_ ?_ ?_ ?_) ?_)))))))
 ·(dsimp only [BIG];omega)
 ·(dsimp only [BIG];omega)
 ·(dsimp only [BIG];omega)
 ·exact hm.2.2.2.2.1.2
 intro y11 hy11
 clear y11 hy11
 refine NT rfl (AS rfl (NI [9,3,0] [_,_,_] rfl (H_cond rfl ?_ ?_)))
 ·intro h9
  replace h9:=nT h9
  have hno : ¬ Net.sendP mo hs.length ⟨mk,mf,mt,me,mi,ml,mc,mr,rj,hi,es,⟨ix,te,⟨vo,le⟩,da⟩⟩:=fun h => absurd (h9.symm.trans h.1) (by decide)
  refine SQ (RG rfl (AS rfl (NI [4] [_] rfl (WD 5 [_,_] rfl (H_own0 kByte 5 none (R1 Tryz.results10 ((ha,hc),(none,0)) rfl (fun w hA => ⟨?_,?_,?_⟩)))))))
  ·(exact congrArg (Value.int .i64) (by unfold Net.sendE;rw [h9];rfl))
  ·trivial
  ·(rw [Net.sendH_no hno,Net.sendB_no hno];exact hA.only (is:=[0,1,0]) (Z:=[]) rfl)
 intro h9
 replace h9:=nF h9
 refine SQ (RG rfl (MV rfl (NC rfl (FA 0 rfl Tryz.underlying65 rfl Tryz.sizeOf63 (CB [0] [_,_,_,_,_,_] rfl Tryz.call28 (full_spec _ _ _ _ _) ?_)))))
 intro y17 hy17
 clear y17 hy17
 refine AS rfl (NI [13,3,0] [_,_,_] rfl (H_cond rfl ?_ ?_))
 ·intro h13
  replace h13:=dT h13
  have hno : ¬ Net.sendP mo hs.length ⟨mk,mf,mt,me,mi,ml,mc,mr,rj,hi,es,⟨ix,te,⟨vo,le⟩,da⟩⟩:=fun h => absurd h.2 (by omega)
  refine SQ (RG rfl (AS rfl (NI [4] [_] rfl (WD 5 [_,_] rfl (H_own0 kByte 5 none (R1 Tryz.results10 ((ha,hc),(none,0)) rfl (fun w hA => ⟨?_,?_,?_⟩)))))))
  ·(exact congrArg (Value.int .i64) (by unfold Net.sendE;rw [h9,if_pos rfl,if_neg (by omega)]))
  ·trivial
  ·(rw [Net.sendH_no hno,Net.sendB_no hno];exact hA.only (is:=[0,1,0]) (Z:=[]) rfl)
 intro h13
 replace h13:=dF h13
 refine SK (BD (SQ ?_))
 have hyes : Net.sendP mo hs.length ⟨mk,mf,mt,me,mi,ml,mc,mr,rj,hi,es,⟨ix,te,⟨vo,le⟩,da⟩⟩:=⟨h9,by omega⟩
 refine H_drawB (m:=[nn,yy,nn,yy,yy,yy,yy]) (Xs:=[_,_,_,_,_]) (fuel:=7) (l:=#[false,false,false,false,false,false,false]) mixed rfl rfl rfl (TK 0 122 [_,_,_,_,_] rfl (by kernel_rfl) (V_move rfl) (TK 1 122 [_,_,_,_,_] rfl (by kernel_rfl) (V_nilCheck rfl) (TK 2 122 [_,_,_,_,_] rfl (by kernel_rfl) (V_fieldAddr (r:=0) rfl Tryz.underlying65 rfl Tryz.sizeOf63 rfl) (TK 3 122 [_,_,_,_,_] rfl (by kernel_rfl) (V_loadA (i:=0) (us:=[]) (cs:=[_,_,_,_,_,_,_,_,_,_,_,_,_,_,_,_]) (ts:=[]) rfl Tryz.isAgg36 Tryz.sizeOf36 rfl (.loc _ _ _) rfl rfl rfl rfl) (LO 4 (by kernel_rfl) rfl (DU 3 rfl (DU 5 rfl (DU 7 rfl (DU 9 rfl (CB [0,0,0,0] [_,_,_,_,_,_,_] rfl Tryz.call31 (msgbytes_spec _ _ _ _ _ _ _ _ _ _ _ _ _ _ _ _ _ _ _ _ _ _ _ _ ?_ ?_ ?_ ?_ ?_ ?_ ?_ ?_ ?_) ?_))))))))))
 ·omega
 ·omega
 ·omega
 ·omega
 ·exact hws
 ·exact hsn
 ·exact hm
 ·exact hhi
 ·exact hrs
 intro y22 hy22
 refine BK 244 [_,_,_,_,_] rfl (LO 5 (by kernel_rfl) rfl (DU 0 rfl (CB [0] [_,_,_,_,_,_,_,_] rfl Tryz.call30 (Frame_spec _ _ _ ?_) ?_)))
 ·omega
 intro y23 hy23
 refine BK 488 [_,_,_,_,_] rfl (LO 6 (by kernel_rfl) rfl (CB [2,4] [_,_,_,_,_,_,_] rfl Tryz.call29 (add_spec _ _ _ _ _ _ _ _ ?_) ?_))
 ·exact hhs
 intro y24 hy24
 refine BK 496 [_,_,_,_,_] rfl (HA_done (by kernel_rfl) (EV [] [] rfl (WD 7 [_,_,_] rfl (SQ (RG rfl (AS rfl (HO_nil (R1 Tryz.results10 (y24,y23) rfl (fun w hA => ⟨?_,?_,?_⟩)))))))))
 ·(exact congrArg (Value.int .i64) (by unfold Net.sendE;rw [h9,if_pos rfl,if_pos (by omega)]))
 ·trivial
 ·(rw [Net.sendH_yes hyes,Net.sendB_yes hyes];exact hA.keep (m:=[yy,yy,yy]) (Y:=[_,_,_]) rfl)
end Go.Wk
