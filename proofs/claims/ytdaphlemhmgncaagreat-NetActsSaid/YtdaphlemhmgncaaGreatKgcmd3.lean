/- Contracts of the program's functions, each proved by walking its code. -/
import Derived.Test.YtdaphlemhmgncaaGreatKgcmd2
import Derived.Test.YtdaphlemhmgncaaGreatCmd
import Derived.Test.YtdaphlemhmgncaaGreatWk17
import Derived.Test.YtdaphlemhmgncaaGreatRdr
import Derived.Test.YtdaphlemhmgncaaGreatKgrdr
set_option maxRecDepth 100000
set_option linter.unusedVariables false
set_option linter.unusedSimpArgs false
namespace Go.Wk.Fcmd3
open Go Go.RowKit Go.Proofs Go.Wk
theorem bd108_0_s {a1 : Option Addr} {n1 c1 : Nat} : ∀ w,(Instr.build 108 (List.toArray (List.zip [0] [.slice a1 n1 c1]))).run Tryz.prog w = .ok (.agg #[.slice a1 n1 c1,.bool (false)]) w:=fun _ => by kernel_rfl
theorem bd117_0_s {a1 : Option Addr} {n1 c1 : Nat} : ∀ w,(Instr.build 117 (List.toArray (List.zip [0] [.slice a1 n1 c1]))).run Tryz.prog w = .ok (.agg #[.slice a1 n1 c1,.bool (false)]) w:=fun _ => by kernel_rfl
theorem bd153_0_1_2_3_pppp {x1 : Option Addr} {x2 : Option Addr} {x3 : Option Addr} {x4 : Option Addr} : ∀ w,(Instr.build 153 (List.toArray (List.zip [0,1,2,3] [.pointer x1,.pointer x2,.pointer x3,.pointer x4]))).run Tryz.prog w = .ok (.agg #[.pointer x1,.pointer x2,.pointer x3,.pointer x4]) w:=fun _ => by kernel_rfl
theorem bd68__  : ∀ w,(Instr.build 68 (List.toArray (List.zip [] []))).run Tryz.prog w = .ok (.agg #[.int .i64 (0),.int .i64 (0),.int .i64 (0),.string (⟨#[]⟩),.string (⟨#[]⟩),.string (⟨#[]⟩),.string (⟨#[]⟩),.int .i64 (0)]) w:=fun _ => by kernel_rfl
theorem bd68_0_1_2_7_iiii {x1 : Int} {x2 : Int} {x3 : Int} {x4 : Int} : ∀ w,(Instr.build 68 (List.toArray (List.zip [0,1,2,7] [.int .i64 x1,.int .i64 x2,.int .i64 x3,.int .i64 x4]))).run Tryz.prog w = .ok (.agg #[.int .i64 x1,.int .i64 x2,.int .i64 x3,.string (⟨#[]⟩),.string (⟨#[]⟩),.string (⟨#[]⟩),.string (⟨#[]⟩),.int .i64 x4]) w:=fun _ => by kernel_rfl
end Go.Wk.Fcmd3
namespace Go.Wk
open Go Go.RowKit Go.Proofs Fcmd3 
theorem cread_spec (b : List UInt8) (a : Option Addr) (c : Nat) (hb : b.length≤100000) : Spec Tryz.prog 102 #[.slice a (b.length) c] [.dat kByte.sl (b) [.slice a (b.length) c]] (β:=Unit) (fun y => .tuple #[.agg #[.int .i64 ((Cmd.read b).1.kind),.int .i64 ((Cmd.read b).1.sess),.int .i64 ((Cmd.read b).1.seq),.string ((Cmd.read b).1.key),.string ((Cmd.read b).1.old),.string ((Cmd.read b).1.val),.string ((Cmd.read b).1.til),.int .i64 ((Cmd.read b).1.lim)],.int .i64 ((Cmd.read b).2)]) (fun y => True) (fun y => []):=by
 refine Spec.enter (vs:=[_]) Tryz.func102 rfl Tryz.ntmps102 rfl (Nat.le_of_ble_eq_true rfl) (fun w0 ok0 => ?_)
 generalize hM0 : blks _ = M0
 have hMn:=@noM _ _ hM0 (by simp [Atom.dat,Atom.elem])
 refine SQ (RG rfl (AO [_,_,_,_,_,_,_,_] Tryz.zeroValue68 rfl ?_))
 intro g2
 refine AS rfl (NI [2,0] [_,_] rfl (SQ (RG rfl (MV rfl (HO_build (xo:=[(0,_)]) (vs:=[_]) rfl rfl rfl rfl (bd108_0_s) (BX [_,_] rfl ?_))))))
 intro g10
 refine AS rfl (NI [4,2] [_,_] rfl (SQ (RG rfl (MV rfl (DU 2 rfl (CB [0,0] [_,_] rfl Tryz.call69 (cInt_spec _ _ _ _ _ _) ?_))))))
 intro y12 hy12
 generalize hr_r1 : Cod.rd 0 (Cod.dec b) b false = r1
 have hl_r1 : r1.2.1.length≤b.length:=hr_r1 ▸ Cod.rd_len _ _ _ _
 refine MV rfl (DU 1 rfl (CB [0,0] [_,_,_] rfl Tryz.call69 (cInt_spec _ _ _ _ _ _) ?_))
 intro y14 hy14
 generalize hr_r2 : Cod.rd 0 (Cod.dec r1.2.1) r1.2.1 r1.2.2 = r2
 have hl_r2 : r2.2.1.length≤r1.2.1.length:=hr_r2 ▸ Cod.rd_len _ _ _ _
 refine MV rfl (DU 1 rfl (CB [0,0] [_,_,_,_] rfl Tryz.call69 (cInt_spec _ _ _ _ _ _) ?_))
 intro y16 hy16
 generalize hr_r3 : Cod.rd 0 (Cod.dec r2.2.1) r2.2.1 r2.2.2 = r3
 have hl_r3 : r3.2.1.length≤r2.2.1.length:=hr_r3 ▸ Cod.rd_len _ _ _ _
 refine MV rfl (DU 1 rfl (CB [0,0] [_,_,_,_,_] rfl Tryz.call69 (cInt_spec _ _ _ _ _ _) ?_))
 intro y18 hy18
 generalize hr_r4 : Cod.rd 0 (Cod.dec r3.2.1) r3.2.1 r3.2.2 = r4
 have hl_r4 : r4.2.1.length≤r3.2.1.length:=hr_r4 ▸ Cod.rd_len _ _ _ _
 refine HO_build (xo:=[(0,_),(1,_),(2,_),(7,_)]) (vs:=[_,_,_,_]) rfl rfl rfl rfl (bd68_0_1_2_7_iiii) (AO [_,_,_,_,_,_,_,_] Tryz.zeroValue68 rfl ?_)
 intro g5
 refine SR 0 [] [_,_,_,_,_,_,_,_] [] [_,_,_,_,_,_,_,_] [_,_,_,_,_,_,_] [_,_,_,_,_,_,_,_] Tryz.sizeOf68 rfl (NI [5,4,2] [_,_,_] rfl (WD 71 [_,_,_,_] rfl (SQ (SQ (RG rfl (FA 3 rfl Tryz.underlying68 rfl Tryz.sizeOf9 (FA 4 rfl Tryz.underlying68 rfl Tryz.sizeOf9 (FA 5 rfl Tryz.underlying68 rfl Tryz.sizeOf9 (FA 6 rfl Tryz.underlying68 rfl Tryz.sizeOf9 (HO_build (xo:=[(0,_),(1,_),(2,_),(3,_)]) (vs:=[_,_,_,_]) rfl rfl rfl rfl (bd153_0_1_2_3_pppp) (MV rfl (HO_nil ?_))))))))))))
 refine EV [25,24,5,4,2] [_,_,_,_,_] rfl (BO (H_rounds 5 (H_rnd (SQ (RG rfl (BN rfl (bin_lit (by decide) (fun _ => rfl)) (HO_nil (SQ (CT rfl (SK (SQ (BO (SQ ?_)))))))))))))
 refine RG rfl (HO_indexV (j:=0) (cs:=[_,_,_,_]) rfl rfl rfl rfl Tryz.underlying153 Tryz.isAgg152 Tryz.sizeOf152 rfl (by decide) rfl (AS rfl (NI [7,25,24,5,4,2] [_,_,_,_,_,_] rfl (RG rfl (MV rfl (MV rfl (DU 2 rfl (CB [1,0] [_,_,_] rfl Tryz.call103 (cText_spec _ _ _ _ _ _ ?_) ?_))))))))
 ·(first | omega | assumption | decide)
 intro y30 hy30
 generalize hr_r5 : Cod.rd [] (Cod.decT r4.2.1) r4.2.1 r4.2.2 = r5
 have hl_r5 : r5.2.1.length≤r4.2.1.length:=hr_r5 ▸ Cod.rd_len _ _ _ _
 have hs_r5:=Cod.rdT_size hr_r5
 refine NC rfl (SR 2 [_,_,_] [_] [_,_,_,_] [_] [_,_,_,_] [_,_,_,_,_,_,_,_] Tryz.sizeOf9 rfl (NI [25,24,5,4,2] [_,_,_,_,_] rfl (WD 23 [_,_,_,_] rfl (BD (RG rfl (BN (r:=.int .i64 (1)) rfl (bin_lit (by decide) (fun _ => rfl)) (MV rfl (NI [25,24,5,4,2] [_,_,_,_,_] rfl (H_rnd (SQ (RG rfl ?_)))))))))))
 refine BN rfl (bin_lit (by decide) (fun _ => rfl)) (HO_nil (SQ (CT rfl (SK (SQ (BO (SQ (RG rfl (HO_indexV (j:=1) (cs:=[_,_,_,_]) rfl rfl rfl rfl Tryz.underlying153 Tryz.isAgg152 Tryz.sizeOf152 rfl (by decide) rfl (AS rfl (NI [7,25,24,5,4,2] [_,_,_,_,_,_] rfl (RG rfl ?_))))))))))))
 refine MV rfl (MV rfl (DU 2 rfl (CB [1,0] [_,_,_] rfl Tryz.call103 (cText_spec _ _ _ _ _ _ ?_) ?_)))
 ·(first | omega | assumption | decide)
 intro y30 hy30
 generalize hr_r6 : Cod.rd [] (Cod.decT r5.2.1) r5.2.1 r5.2.2 = r6
 have hl_r6 : r6.2.1.length≤r5.2.1.length:=hr_r6 ▸ Cod.rd_len _ _ _ _
 have hs_r6:=Cod.rdT_size hr_r6
 refine NC rfl (SR 2 [_,_,_,_] [_] [_,_,_] [_] [_,_,_,_] [_,_,_,_,_,_,_,_] Tryz.sizeOf9 rfl (NI [25,24,5,4,2] [_,_,_,_,_] rfl (WD 23 [_,_,_,_] rfl (BD (RG rfl (BN (r:=.int .i64 (2)) rfl (bin_lit (by decide) (fun _ => rfl)) (MV rfl (NI [25,24,5,4,2] [_,_,_,_,_] rfl (H_rnd (SQ (RG rfl ?_)))))))))))
 refine BN rfl (bin_lit (by decide) (fun _ => rfl)) (HO_nil (SQ (CT rfl (SK (SQ (BO (SQ (RG rfl (HO_indexV (j:=2) (cs:=[_,_,_,_]) rfl rfl rfl rfl Tryz.underlying153 Tryz.isAgg152 Tryz.sizeOf152 rfl (by decide) rfl (AS rfl (NI [7,25,24,5,4,2] [_,_,_,_,_,_] rfl (RG rfl ?_))))))))))))
 refine MV rfl (MV rfl (DU 2 rfl (CB [1,0] [_,_,_] rfl Tryz.call103 (cText_spec _ _ _ _ _ _ ?_) ?_)))
 ·(first | omega | assumption | decide)
 intro y30 hy30
 generalize hr_r7 : Cod.rd [] (Cod.decT r6.2.1) r6.2.1 r6.2.2 = r7
 have hl_r7 : r7.2.1.length≤r6.2.1.length:=hr_r7 ▸ Cod.rd_len _ _ _ _
 have hs_r7:=Cod.rdT_size hr_r7
 refine NC rfl (SR 2 [_,_,_,_,_] [_] [_,_] [_] [_,_,_,_] [_,_,_,_,_,_,_,_] Tryz.sizeOf9 rfl (NI [25,24,5,4,2] [_,_,_,_,_] rfl (WD 23 [_,_,_,_] rfl (BD (RG rfl (BN (r:=.int .i64 (3)) rfl (bin_lit (by decide) (fun _ => rfl)) (MV rfl (NI [25,24,5,4,2] [_,_,_,_,_] rfl (H_rnd (SQ (RG rfl ?_)))))))))))
 refine BN rfl (bin_lit (by decide) (fun _ => rfl)) (HO_nil (SQ (CT rfl (SK (SQ (BO (SQ (RG rfl (HO_indexV (j:=3) (cs:=[_,_,_,_]) rfl rfl rfl rfl Tryz.underlying153 Tryz.isAgg152 Tryz.sizeOf152 rfl (by decide) rfl (AS rfl (NI [7,25,24,5,4,2] [_,_,_,_,_,_] rfl (RG rfl ?_))))))))))))
 refine MV rfl (MV rfl (DU 2 rfl (CB [1,0] [_,_,_] rfl Tryz.call103 (cText_spec _ _ _ _ _ _ ?_) ?_)))
 ·(first | omega | assumption | decide)
 intro y30 hy30
 generalize hr_r8 : Cod.rd [] (Cod.decT r7.2.1) r7.2.1 r7.2.2 = r8
 have hl_r8 : r8.2.1.length≤r7.2.1.length:=hr_r8 ▸ Cod.rd_len _ _ _ _
 have hs_r8:=Cod.rdT_size hr_r8
 refine NC rfl (SR 2 [_,_,_,_,_,_] [_] [_] [_] [_,_,_,_] [_,_,_,_,_,_,_,_] Tryz.sizeOf9 rfl (NI [25,24,5,4,2] [_,_,_,_,_] rfl (WD 23 [_,_,_,_] rfl (BD (RG rfl (BN (r:=.int .i64 (4)) rfl (bin_lit (by decide) (fun _ => rfl)) (MV rfl (NI [25,24,5,4,2] [_,_,_,_,_] rfl (H_rnd (SQ (RG rfl ?_)))))))))))
 refine BN rfl (bin_lit (by decide) (fun _ => rfl)) (HO_nil (SQ (CF rfl (H_exit rfl (SQ (SQ ?_))))))
 have hp:=Cmd.parse_of hr_r1 hr_r2 hr_r3 hr_r4 hr_r5 hr_r6 hr_r7 hr_r8
 refine RG rfl (MV rfl (DU 2 rfl (CB [1,0] [_,_,_] rfl Tryz.call106 (cEnd_spec _ _ _ _ _ _) ?_)))
 intro y34 hy34
 clear y34 hy34
 refine NT rfl (MV rfl (HO_split (d:=36) rfl ?_ ?_))
 ·intro h36
  replace h36:=nT h36
  refine NO rfl (NO rfl (NO rfl (PT rfl (NI [40,5,2] [_,_,_] rfl (WD 10 [_,_] rfl (CT rfl (SQ (RG rfl (HO_build (xo:=[]) (vs:=[]) rfl rfl rfl rfl (bd68__) (SR 1 [] [_,_,_,_,_,_,_,_] [] [_,_,_,_,_,_,_,_] [_] [_,_,_,_,_,_,_,_] Tryz.sizeOf68 rfl (AS rfl (HO_nil ?_))))))))))))
  refine EV [3,2] [_,_] rfl (WD 1 [_] rfl (H_ret2 Tryz.results102 (.cell rfl (fun w hA => run_loadVarA (cs:=[_,_,_,_,_,_,_,_]) (Tryz.isAgg68 w) (Tryz.sizeOf68 w) (Tells.cells (.loc _ _ _) (hA.get (i:=0) rfl)))) (.tmp rfl) (fun w hA => ⟨(),congrArg Ending.returned ?_,?_,?_⟩)))
  ·(rw [Cmd.read_bad hp (.inl h36)] <;> rfl)
  ·trivial
  ·exact hA.keep (m:=[nn]) (Y:=[]) rfl
 intro h36
 replace h36:=nF h36
 refine LA 1 [] [_,_,_,_,_,_,_,_] [] rfl (.loc _ _ _) Tryz.isAgg68 Tryz.sizeOf68 rfl (CB [] [_,_,_,_] rfl Tryz.call84 (good_spec _ _ _ _ _ _ _ _) ?_)
 intro y38 hy38
 clear y38 hy38
 refine NT rfl (PF rfl (NI [40,5,2] [_,_,_] rfl (WD 10 [_,_] rfl (H_cond rfl ?_ ?_))))
 ·intro h40
  replace h40:=nT h40
  refine SQ (RG rfl (HO_build (xo:=[]) (vs:=[]) rfl rfl rfl rfl (bd68__) (SR 1 [] [_,_,_,_,_,_,_,_] [] [_,_,_,_,_,_,_,_] [_] [_,_,_,_,_,_,_,_] Tryz.sizeOf68 rfl (AS rfl (NI [3,2] [_,_] rfl (WD 1 [_] rfl (H_ret2 Tryz.results102 (.cell rfl (fun w hA => run_loadVarA (cs:=[_,_,_,_,_,_,_,_]) (Tryz.isAgg68 w) (Tryz.sizeOf68 w) (Tells.cells (.loc _ _ _) (hA.get (i:=0) rfl)))) (.tmp rfl) (fun w hA => ⟨(),congrArg Ending.returned ?_,?_,?_⟩))))))))
  ·(rw [Cmd.read_bad hp (.inr h40)] <;> rfl)
  ·trivial
  ·exact hA.keep (m:=[nn]) (Y:=[]) rfl
 intro h40
 replace h40:=nF h40
 refine SK (SQ (RG rfl (LA 0 [] [_,_,_,_,_,_,_,_] [] rfl (.loc _ _ _) Tryz.isAgg68 Tryz.sizeOf68 rfl (SR 1 [] [_,_,_,_,_,_,_,_] [] [_,_,_,_,_,_,_,_] [_] [_,_,_,_,_,_,_,_] Tryz.sizeOf68 rfl (AS rfl (NI [3,2] [_,_] rfl (WD 1 [_] rfl (H_ret2 Tryz.results102 (.cell rfl (fun w hA => run_loadVarA (cs:=[_,_,_,_,_,_,_,_]) (Tryz.isAgg68 w) (Tryz.sizeOf68 w) (Tells.cells (.loc _ _ _) (hA.get (i:=0) rfl)))) (.tmp rfl) (fun w hA => ⟨(),congrArg Ending.returned ?_,?_,?_⟩)))))))))
 ·(rw [Cmd.read_good hp h36 h40] <;> rfl)
 ·trivial
 ·exact hA.keep (m:=[nn]) (Y:=[]) rfl
theorem rcread_spec (b : List UInt8) (a : Option Addr) (c : Nat) (hb : b.length≤100000) : Spec Tryz.prog 111 #[.slice a (b.length) c] [.dat kByte.sl (b) [.slice a (b.length) c]] (β:=Unit) (fun y => .tuple #[.agg #[.int .i64 ((Cmd.read b).1.kind),.int .i64 ((Cmd.read b).1.sess),.int .i64 ((Cmd.read b).1.seq),.string ((Cmd.read b).1.key),.string ((Cmd.read b).1.old),.string ((Cmd.read b).1.val),.string ((Cmd.read b).1.til),.int .i64 ((Cmd.read b).1.lim)],.int .i64 ((Cmd.read b).2)]) (fun y => True) (fun y => []):=by
 refine Spec.enter (vs:=[_]) Tryz.func111 rfl Tryz.ntmps111 rfl (Nat.le_of_ble_eq_true rfl) (fun w0 ok0 => ?_)
 generalize hM0 : blks _ = M0
 have hMn:=@noM _ _ hM0 (by simp [Atom.dat,Atom.elem])
 refine SQ (RG rfl (AO [_,_,_,_,_,_,_,_] Tryz.zeroValue68 rfl ?_))
 intro g2
 refine AS rfl (NI [2,0] [_,_] rfl (SQ (RG rfl (MV rfl (HO_build (xo:=[(0,_)]) (vs:=[_]) rfl rfl rfl rfl (bd117_0_s) (BX [_,_] rfl ?_))))))
 intro g8
 refine AS rfl (NI [4,2] [_,_] rfl (SQ (RG rfl (AO [_,_,_,_,_,_,_,_] Tryz.zeroValue68 rfl ?_))))
 intro g5
 refine HO_nil (SQ (RG rfl (MV rfl (DU 3 rfl (CB [1,0] [_,_,_] rfl Tryz.call76 (rInt_spec _ _ _ _ _ _) ?_)))))
 intro y10 hy10
 generalize hr_r1 : Cod.rd 0 (Cod.dec b) b false = r1
 have hl_r1 : r1.2.1.length≤b.length:=hr_r1 ▸ Cod.rd_len _ _ _ _
 refine FA 0 rfl Tryz.underlying68 rfl Tryz.sizeOf3 (SR 2 [] [_] [_,_,_,_,_,_,_] [_] [_,_,_,_] [_,_,_,_,_,_,_,_] Tryz.sizeOf3 rfl (NI [5,4,2] [_,_,_] rfl (WD 15 [_,_,_,_] rfl (SQ (RG rfl (MV rfl (DU 2 rfl (CB [1,0] [_,_,_] rfl Tryz.call76 (rInt_spec _ _ _ _ _ _) ?_))))))))
 intro y13 hy13
 generalize hr_r2 : Cod.rd 0 (Cod.dec r1.2.1) r1.2.1 r1.2.2 = r2
 have hl_r2 : r2.2.1.length≤r1.2.1.length:=hr_r2 ▸ Cod.rd_len _ _ _ _
 refine FA 1 rfl Tryz.underlying68 rfl Tryz.sizeOf3 (SR 2 [_] [_] [_,_,_,_,_,_] [_] [_,_,_,_] [_,_,_,_,_,_,_,_] Tryz.sizeOf3 rfl (NI [5,4,2] [_,_,_] rfl (WD 23 [_,_,_,_] rfl (SQ (RG rfl (MV rfl (DU 2 rfl (CB [1,0] [_,_,_] rfl Tryz.call76 (rInt_spec _ _ _ _ _ _) ?_))))))))
 intro y16 hy16
 generalize hr_r3 : Cod.rd 0 (Cod.dec r2.2.1) r2.2.1 r2.2.2 = r3
 have hl_r3 : r3.2.1.length≤r2.2.1.length:=hr_r3 ▸ Cod.rd_len _ _ _ _
 refine FA 2 rfl Tryz.underlying68 rfl Tryz.sizeOf3 (SR 2 [_,_] [_] [_,_,_,_,_] [_] [_,_,_,_] [_,_,_,_,_,_,_,_] Tryz.sizeOf3 rfl (NI [5,4,2] [_,_,_] rfl (WD 23 [_,_,_,_] rfl (SQ (RG rfl (MV rfl (DU 2 rfl (CB [1,0] [_,_,_] rfl Tryz.call76 (rInt_spec _ _ _ _ _ _) ?_))))))))
 intro y19 hy19
 generalize hr_r4 : Cod.rd 0 (Cod.dec r3.2.1) r3.2.1 r3.2.2 = r4
 have hl_r4 : r4.2.1.length≤r3.2.1.length:=hr_r4 ▸ Cod.rd_len _ _ _ _
 refine FA 7 rfl Tryz.underlying68 rfl Tryz.sizeOf3 (SR 2 [_,_,_,_,_,_,_] [_] [] [_] [_,_,_,_] [_,_,_,_,_,_,_,_] Tryz.sizeOf3 rfl (NI [5,4,2] [_,_,_] rfl (WD 23 [_,_,_,_] rfl (SQ (RG rfl (MV rfl (DU 2 rfl (CB [1,0] [_,_,_] rfl Tryz.call112 (rText_spec _ _ _ _ _ _ ?_) ?_))))))))
 ·(first | omega | assumption | decide)
 intro y22 hy22
 generalize hr_r5 : Cod.rd [] (Cod.decT r4.2.1) r4.2.1 r4.2.2 = r5
 have hl_r5 : r5.2.1.length≤r4.2.1.length:=hr_r5 ▸ Cod.rd_len _ _ _ _
 have hs_r5:=Cod.rdT_size hr_r5
 refine FA 3 rfl Tryz.underlying68 rfl Tryz.sizeOf9 (SR 2 [_,_,_] [_] [_,_,_,_] [_] [_,_,_,_] [_,_,_,_,_,_,_,_] Tryz.sizeOf9 rfl (NI [5,4,2] [_,_,_] rfl (WD 23 [_,_,_,_] rfl (SQ (RG rfl (MV rfl (DU 2 rfl (CB [1,0] [_,_,_] rfl Tryz.call112 (rText_spec _ _ _ _ _ _ ?_) ?_))))))))
 ·(first | omega | assumption | decide)
 intro y25 hy25
 generalize hr_r6 : Cod.rd [] (Cod.decT r5.2.1) r5.2.1 r5.2.2 = r6
 have hl_r6 : r6.2.1.length≤r5.2.1.length:=hr_r6 ▸ Cod.rd_len _ _ _ _
 have hs_r6:=Cod.rdT_size hr_r6
 refine FA 4 rfl Tryz.underlying68 rfl Tryz.sizeOf9 (SR 2 [_,_,_,_] [_] [_,_,_] [_] [_,_,_,_] [_,_,_,_,_,_,_,_] Tryz.sizeOf9 rfl (NI [5,4,2] [_,_,_] rfl (WD 23 [_,_,_,_] rfl (SQ (RG rfl (MV rfl (DU 2 rfl (CB [1,0] [_,_,_] rfl Tryz.call112 (rText_spec _ _ _ _ _ _ ?_) ?_))))))))
 ·(first | omega | assumption | decide)
 intro y28 hy28
 generalize hr_r7 : Cod.rd [] (Cod.decT r6.2.1) r6.2.1 r6.2.2 = r7
 have hl_r7 : r7.2.1.length≤r6.2.1.length:=hr_r7 ▸ Cod.rd_len _ _ _ _
 have hs_r7:=Cod.rdT_size hr_r7
 refine FA 5 rfl Tryz.underlying68 rfl Tryz.sizeOf9 (SR 2 [_,_,_,_,_] [_] [_,_] [_] [_,_,_,_] [_,_,_,_,_,_,_,_] Tryz.sizeOf9 rfl (NI [5,4,2] [_,_,_] rfl (WD 23 [_,_,_,_] rfl (SQ (RG rfl (MV rfl (DU 2 rfl (CB [1,0] [_,_,_] rfl Tryz.call112 (rText_spec _ _ _ _ _ _ ?_) ?_))))))))
 ·(first | omega | assumption | decide)
 intro y31 hy31
 generalize hr_r8 : Cod.rd [] (Cod.decT r7.2.1) r7.2.1 r7.2.2 = r8
 have hl_r8 : r8.2.1.length≤r7.2.1.length:=hr_r8 ▸ Cod.rd_len _ _ _ _
 have hs_r8:=Cod.rdT_size hr_r8
 refine FA 6 rfl Tryz.underlying68 rfl Tryz.sizeOf9 (SR 2 [_,_,_,_,_,_] [_] [_] [_] [_,_,_,_] [_,_,_,_,_,_,_,_] Tryz.sizeOf9 rfl (NI [5,4,2] [_,_,_] rfl (WD 23 [_,_,_,_] rfl (SQ (SQ ?_)))))
 have hp:=Cmd.parse_of hr_r1 hr_r2 hr_r3 hr_r4 hr_r5 hr_r6 hr_r7 hr_r8
 refine RG rfl (MV rfl (DU 2 rfl (CB [1,0] [_,_,_] rfl Tryz.call81 (rEnd_spec _ _ _ _ _ _) ?_)))
 intro y34 hy34
 clear y34 hy34
 refine NT rfl (MV rfl (HO_split (d:=36) rfl ?_ ?_))
 ·intro h36
  replace h36:=nT h36
  refine NO rfl (NO rfl (NO rfl (PT rfl (NI [40,5,2] [_,_,_] rfl (WD 10 [_,_] rfl (CT rfl (SQ (RG rfl (HO_build (xo:=[]) (vs:=[]) rfl rfl rfl rfl (bd68__) (SR 1 [] [_,_,_,_,_,_,_,_] [] [_,_,_,_,_,_,_,_] [_] [_,_,_,_,_,_,_,_] Tryz.sizeOf68 rfl (AS rfl (HO_nil ?_))))))))))))
  refine EV [3,2] [_,_] rfl (WD 1 [_] rfl (H_ret2 Tryz.results111 (.cell rfl (fun w hA => run_loadVarA (cs:=[_,_,_,_,_,_,_,_]) (Tryz.isAgg68 w) (Tryz.sizeOf68 w) (Tells.cells (.loc _ _ _) (hA.get (i:=0) rfl)))) (.tmp rfl) (fun w hA => ⟨(),congrArg Ending.returned ?_,?_,?_⟩)))
  ·(rw [Cmd.read_bad hp (.inl h36)] <;> rfl)
  ·trivial
  ·exact hA.keep (m:=[nn]) (Y:=[]) rfl
 intro h36
 replace h36:=nF h36
 refine LA 1 [] [_,_,_,_,_,_,_,_] [] rfl (.loc _ _ _) Tryz.isAgg68 Tryz.sizeOf68 rfl (CB [] [_,_,_,_] rfl Tryz.call82 (rgood_spec _ _ _ _ _ _ _ _) ?_)
 intro y38 hy38
 clear y38 hy38
 refine NT rfl (PF rfl (NI [40,5,2] [_,_,_] rfl (WD 10 [_,_] rfl (H_cond rfl ?_ ?_))))
 ·intro h40
  replace h40:=nT h40
  refine SQ (RG rfl (HO_build (xo:=[]) (vs:=[]) rfl rfl rfl rfl (bd68__) (SR 1 [] [_,_,_,_,_,_,_,_] [] [_,_,_,_,_,_,_,_] [_] [_,_,_,_,_,_,_,_] Tryz.sizeOf68 rfl (AS rfl (NI [3,2] [_,_] rfl (WD 1 [_] rfl (H_ret2 Tryz.results111 (.cell rfl (fun w hA => run_loadVarA (cs:=[_,_,_,_,_,_,_,_]) (Tryz.isAgg68 w) (Tryz.sizeOf68 w) (Tells.cells (.loc _ _ _) (hA.get (i:=0) rfl)))) (.tmp rfl) (fun w hA => ⟨(),congrArg Ending.returned ?_,?_,?_⟩))))))))
  ·(rw [Cmd.read_bad hp (.inr h40)] <;> rfl)
  ·trivial
  ·exact hA.keep (m:=[nn]) (Y:=[]) rfl
 intro h40
 replace h40:=nF h40
 refine SK (SQ (RG rfl (LA 0 [] [_,_,_,_,_,_,_,_] [] rfl (.loc _ _ _) Tryz.isAgg68 Tryz.sizeOf68 rfl (SR 1 [] [_,_,_,_,_,_,_,_] [] [_,_,_,_,_,_,_,_] [_] [_,_,_,_,_,_,_,_] Tryz.sizeOf68 rfl (AS rfl (NI [3,2] [_,_] rfl (WD 1 [_] rfl (H_ret2 Tryz.results111 (.cell rfl (fun w hA => run_loadVarA (cs:=[_,_,_,_,_,_,_,_]) (Tryz.isAgg68 w) (Tryz.sizeOf68 w) (Tells.cells (.loc _ _ _) (hA.get (i:=0) rfl)))) (.tmp rfl) (fun w hA => ⟨(),congrArg Ending.returned ?_,?_,?_⟩)))))))))
 ·(rw [Cmd.read_good hp h36 h40] <;> rfl)
 ·trivial
 ·exact hA.keep (m:=[nn]) (Y:=[]) rfl
end Go.Wk
