/- Contracts of the program's functions, each proved by walking its code. -/
import Derived.Test.YtdaphlemhmgncaaGreatKgref01b
import Derived.Test.YtdaphlemhmgncaaGreatCmd
import Derived.Test.YtdaphlemhmgncaaGreatWk17
set_option maxRecDepth 100000
set_option linter.unusedVariables false
set_option linter.unusedSimpArgs false
namespace Go.Wk.Fcmd1
open Go Go.RowKit Go.Proofs Go.Wk
theorem bd68_0_1_ii {x1 : Int} {x2 : Int} : ∀ w,(Instr.build 68 (List.toArray (List.zip [0,1] [.int .i64 x1,.int .i64 x2]))).run Tryz.prog w = .ok (.agg #[.int .i64 x1,.int .i64 x2,.int .i64 (0),.string (⟨#[]⟩),.string (⟨#[]⟩),.string (⟨#[]⟩),.string (⟨#[]⟩),.int .i64 (0)]) w:=fun _ => by kernel_rfl
theorem bd68_0_1_2_3_iiit {x1 : Int} {x2 : Int} {x3 : Int} {x4 : ByteArray} : ∀ w,(Instr.build 68 (List.toArray (List.zip [0,1,2,3] [.int .i64 x1,.int .i64 x2,.int .i64 x3,.string x4]))).run Tryz.prog w = .ok (.agg #[.int .i64 x1,.int .i64 x2,.int .i64 x3,.string x4,.string (⟨#[]⟩),.string (⟨#[]⟩),.string (⟨#[]⟩),.int .i64 (0)]) w:=fun _ => by kernel_rfl
theorem bd68_0_i {x1 : Int} : ∀ w,(Instr.build 68 (List.toArray (List.zip [0] [.int .i64 x1]))).run Tryz.prog w = .ok (.agg #[.int .i64 x1,.int .i64 (0),.int .i64 (0),.string (⟨#[]⟩),.string (⟨#[]⟩),.string (⟨#[]⟩),.string (⟨#[]⟩),.int .i64 (0)]) w:=fun _ => by kernel_rfl
theorem eq68_eql {x y : Operand} {a0 b0 : Int} {a1 b1 : Int} {a2 b2 : Int} {a3 b3 : ByteArray} {a4 b4 : ByteArray} {a5 b5 : ByteArray} {a6 b6 : ByteArray} {a7 b7 : Int} : BinR Tryz.prog .eql 68 x y (.agg #[.int .i64 a0,.int .i64 a1,.int .i64 a2,.string a3,.string a4,.string a5,.string a6,.int .i64 a7]) (.agg #[.int .i64 b0,.int .i64 b1,.int .i64 b2,.string b3,.string b4,.string b5,.string b6,.int .i64 b7]) (.bool (decide (a0 = b0) && (decide (a1 = b1) && (decide (a2 = b2) && (decide (a3 = b3) && (decide (a4 = b4) && (decide (a5 = b5) && (decide (a6 = b6) && (decide (a7 = b7) && true))))))))) :=
 bin_eqs_agg (by kernel_rfl) Tryz.underlying68 (by kernel_rfl) (fun w => (eqF_int (by decide) Tryz.underlying3 Tryz.isAgg3 rfl rfl (eqF_int (by decide) Tryz.underlying3 Tryz.isAgg3 rfl rfl (eqF_int (by decide) Tryz.underlying3 Tryz.isAgg3 rfl rfl (eqF_str (by decide) Tryz.underlying9 Tryz.isAgg9 rfl rfl (eqF_str (by decide) Tryz.underlying9 Tryz.isAgg9 rfl rfl (eqF_str (by decide) Tryz.underlying9 Tryz.isAgg9 rfl rfl (eqF_str (by decide) Tryz.underlying9 Tryz.isAgg9 rfl rfl (eqF_int (by decide) Tryz.underlying3 Tryz.isAgg3 rfl rfl eqF_nil)))))))))
end Go.Wk.Fcmd1
namespace Go.Wk
open Go Go.RowKit Go.Proofs Fcmd1 
theorem key_spec (s : ByteArray)  : Spec Tryz.prog 137 #[.string (s)] [] (β:=Unit) (fun y => .bool (Cmd.keyok s)) (fun y => True) (fun y => []):=by
 refine Spec.enter (vs:=[_]) Tryz.func137 rfl Tryz.ntmps137 rfl (Nat.le_of_ble_eq_true rfl) (fun w0 ok0 => ?_)
 generalize hM0 : blks _ = M0
 have hMn:=@noM _ _ hM0 (by simp [Atom.dat,Atom.elem])
 refine SQ (RG rfl (AS rfl (NI [0] [_] rfl (SQ (RG rfl (MV rfl (BN rfl bin_nes (MV rfl (HO_split (d:=5) rfl ?_ ?_)))))))))
 ·intro h5
  replace h5:=dF (nT h5)
  refine MV rfl (BI rfl (bi_len_str Tryz.underlying9) (BN rfl bin_leq (PT rfl (AS rfl (NI [2] [_] rfl (R1 Tryz.results137 () rfl (fun w hA => ⟨?_,?_,?_⟩)))))))
  ·(exact congrArg Value.bool (by first | exact Cmd.key_t h5 | exact Cmd.key_f h5))
  ·trivial
  ·exact hA.keep (m:=[]) (Y:=[]) rfl
 intro h5
 replace h5:=dT (nF h5)
 refine NO rfl (NO rfl (NO rfl (PF rfl (AS rfl (NI [2] [_] rfl (R1 Tryz.results137 () rfl (fun w hA => ⟨?_,?_,?_⟩)))))))
 ·(exact congrArg Value.bool (by first | exact Cmd.key_t h5 | exact Cmd.key_f h5))
 ·trivial
 ·exact hA.keep (m:=[]) (Y:=[]) rfl
theorem value_spec (s : ByteArray)  : Spec Tryz.prog 139 #[.string (s)] [] (β:=Unit) (fun y => .bool (Cmd.valok s)) (fun y => True) (fun y => []):=by
 refine Spec.enter (vs:=[_]) Tryz.func139 rfl Tryz.ntmps139 rfl (Nat.le_of_ble_eq_true rfl) (fun w0 ok0 => ?_)
 generalize hM0 : blks _ = M0
 have hMn:=@noM _ _ hM0 (by simp [Atom.dat,Atom.elem])
 refine SQ (RG rfl (AS rfl (NI [0] [_] rfl (SQ (RG rfl (MV rfl (BI rfl (bi_len_str Tryz.underlying9) (BN rfl bin_leq (AS rfl (NI [2] [_] rfl (R1 Tryz.results139 () rfl (fun w hA => ⟨?_,?_,?_⟩))))))))))))
 ·(exact congrArg Value.bool (Cmd.val_eq s))
 ·trivial
 ·exact hA.keep (m:=[]) (Y:=[]) rfl
theorem fits1_spec (g : Nat) (ki se sq : Int) (ke ol va ti : ByteArray) (li : Int)  : Spec Tryz.prog 136 #[.pointer (some ⟨g,0,none⟩)] [.loc g [.int .i64 (ki),.int .i64 (se),.int .i64 (sq),.string (ke),.string (ol),.string (va),.string (ti),.int .i64 (li)] 68] (β:=Unit) (fun y => .bool (Cmd.keyok ke)) (fun y => True) (fun y => [.loc g [.int .i64 (ki),.int .i64 (se),.int .i64 (sq),.string (ke),.string (ol),.string (va),.string (ti),.int .i64 (li)] 68]):=by
 refine Spec.enter (vs:=[_]) Tryz.func136 rfl Tryz.ntmps136 rfl (Nat.le_of_ble_eq_true rfl) (fun w0 ok0 => ?_)
 generalize hM0 : blks _ = M0
 refine SQ (RG rfl (AS rfl (NI [0] [_] rfl (SQ (RG rfl (FA 3 rfl Tryz.underlying68 rfl Tryz.sizeOf9 (LD 0 3 rfl Tryz.isAgg9 (CB [] [_] rfl Tryz.call137 (key_spec _) ?_))))))))
 intro y4 hy4
 clear y4 hy4
 refine AS rfl (NI [1] [_] rfl (R1 Tryz.results136 () rfl (fun w hA => ⟨?_,?_,?_⟩)))
 ·rfl
 ·trivial
 ·exact hA.keep (m:=[yy]) (Y:=[_]) rfl
theorem fits4_spec (g : Nat) (ki se sq : Int) (ke ol va ti : ByteArray) (li : Int)  : Spec Tryz.prog 141 #[.pointer (some ⟨g,0,none⟩)] [.loc g [.int .i64 (ki),.int .i64 (se),.int .i64 (sq),.string (ke),.string (ol),.string (va),.string (ti),.int .i64 (li)] 68] (β:=Unit) (fun y => .bool (Cmd.scanok ⟨ki,se,sq,ke,ol,va,ti,li⟩)) (fun y => True) (fun y => [.loc g [.int .i64 (ki),.int .i64 (se),.int .i64 (sq),.string (ke),.string (ol),.string (va),.string (ti),.int .i64 (li)] 68]):=by
 refine Spec.enter (vs:=[_]) Tryz.func141 rfl Tryz.ntmps141 rfl (Nat.le_of_ble_eq_true rfl) (fun w0 ok0 => ?_)
 generalize hM0 : blks _ = M0
 refine SQ (RG rfl (AS rfl (NI [0] [_] rfl (SQ (RG rfl (FA 3 rfl Tryz.underlying68 rfl Tryz.sizeOf9 (LD 0 3 rfl Tryz.isAgg9 (BI rfl (bi_len_str Tryz.underlying9) (FA 6 rfl Tryz.underlying68 rfl Tryz.sizeOf9 (LD 0 6 rfl Tryz.isAgg9 (BI rfl (bi_len_str Tryz.underlying9) (BI rfl bi_max2 ?_))))))))))))
 refine BN rfl bin_leq (MV rfl (HO_split (d:=10) rfl ?_ ?_))
 ·intro h10
  replace h10:=dT h10
  refine FA 7 rfl Tryz.underlying68 rfl Tryz.sizeOf3 (LD 0 7 rfl Tryz.isAgg3 (BN rfl bin_geq (PT rfl (MV rfl (HO_split (d:=15) rfl ?_ ?_)))))
  ·intro h15
   replace h15:=dT h15
   refine FA 7 rfl Tryz.underlying68 rfl Tryz.sizeOf3 (LD 0 7 rfl Tryz.isAgg3 (BN rfl bin_leq (PT rfl (AS rfl (NI [1] [_] rfl (R1 Tryz.results141 () rfl (fun w hA => ⟨?_,?_,?_⟩)))))))
   ·(exact congrArg Value.bool (by first | exact Cmd.scan_a (k:=⟨ki,se,sq,ke,ol,va,ti,li⟩) h10 | exact Cmd.scan_b (k:=⟨ki,se,sq,ke,ol,va,ti,li⟩) h10 h15 | exact Cmd.scan_c (k:=⟨ki,se,sq,ke,ol,va,ti,li⟩) h10 h15))
   ·trivial
   ·exact hA.keep (m:=[yy]) (Y:=[_]) rfl
  intro h15
  replace h15:=dF h15
  refine NO rfl (NO rfl (NO rfl (PF rfl (AS rfl (NI [1] [_] rfl (R1 Tryz.results141 () rfl (fun w hA => ⟨?_,?_,?_⟩)))))))
  ·(exact congrArg Value.bool (by first | exact Cmd.scan_a (k:=⟨ki,se,sq,ke,ol,va,ti,li⟩) h10 | exact Cmd.scan_b (k:=⟨ki,se,sq,ke,ol,va,ti,li⟩) h10 h15 | exact Cmd.scan_c (k:=⟨ki,se,sq,ke,ol,va,ti,li⟩) h10 h15))
  ·trivial
  ·exact hA.keep (m:=[yy]) (Y:=[_]) rfl
 intro h10
 replace h10:=dF h10
 refine NO rfl (NO rfl (NO rfl (PF rfl (MV rfl (NO rfl (NO rfl (NO rfl (PF rfl (AS rfl (NI [1] [_] rfl (R1 Tryz.results141 () rfl (fun w hA => ⟨?_,?_,?_⟩))))))))))))
 ·(exact congrArg Value.bool (by first | exact Cmd.scan_a (k:=⟨ki,se,sq,ke,ol,va,ti,li⟩) h10 | exact Cmd.scan_b (k:=⟨ki,se,sq,ke,ol,va,ti,li⟩) h10 h15 | exact Cmd.scan_c (k:=⟨ki,se,sq,ke,ol,va,ti,li⟩) h10 h15))
 ·trivial
 ·exact hA.keep (m:=[yy]) (Y:=[_]) rfl
theorem fits5_spec  : Spec Tryz.prog 142 #[] [] (β:=Unit) (fun y => .bool (false)) (fun y => True) (fun y => []):=by
 refine Spec.enter (vs:=[]) Tryz.func142 rfl Tryz.ntmps142 rfl (Nat.le_of_ble_eq_true rfl) (fun w0 ok0 => ?_)
 generalize hM0 : blks _ = M0
 have hMn:=@noM _ _ hM0 (by simp [Atom.dat,Atom.elem])
 refine SQ (RG rfl (AS rfl (NI [] [] rfl (SQ (RG rfl (AS rfl (HO_nil (R1 Tryz.results142 () rfl (fun w hA => ⟨?_,?_,?_⟩)))))))))
 ·rfl
 ·trivial
 ·exact hA.keep (m:=[]) (Y:=[]) rfl
theorem fits2_spec (g g2 : Nat) (ki se sq : Int) (ke ol va ti : ByteArray) (li : Int)  : Spec Tryz.prog 138 #[.pointer (some ⟨g2,0,none⟩),.pointer (some ⟨g,0,none⟩)] [.loc g2 [.func (.func 136) #[] #[.pointer (some ⟨g,0,none⟩)]] 27,.loc g [.int .i64 (ki),.int .i64 (se),.int .i64 (sq),.string (ke),.string (ol),.string (va),.string (ti),.int .i64 (li)] 68] (β:=Unit) (fun y => .bool ((Cmd.keyok ke && Cmd.valok va))) (fun y => True) (fun y => [.loc g2 [.func (.func 136) #[] #[.pointer (some ⟨g,0,none⟩)]] 27,.loc g [.int .i64 (ki),.int .i64 (se),.int .i64 (sq),.string (ke),.string (ol),.string (va),.string (ti),.int .i64 (li)] 68]):=by
 refine Spec.enter (vs:=[_,_]) Tryz.func138 rfl Tryz.ntmps138 rfl (Nat.le_of_ble_eq_true rfl) (fun w0 ok0 => ?_)
 generalize hM0 : blks _ = M0
 refine SQ (RG rfl (AS rfl (NI [0,1] [_,_] rfl (SQ (RG rfl (LD 0 0 rfl Tryz.isAgg27 (HO_call (first:=[]) (capt:=[_]) (is:=[1]) (R:=[_]) rfl rfl rfl rfl rfl Tryz.call136 rfl (fits1_spec _ _ _ _ _ _ _ _ _) ?_)))))))
 intro y4 hy4
 clear y4 hy4
 refine MV rfl (HO_split (d:=5) rfl ?_ ?_)
 ·intro h5
  refine FA 5 rfl Tryz.underlying68 rfl Tryz.sizeOf9 (LD 0 5 rfl Tryz.isAgg9 (CB [] [_,_] rfl Tryz.call139 (value_spec _) ?_))
  intro y8 hy8
  clear y8 hy8
  refine PT rfl (AS rfl (NI [2] [_] rfl (R1 Tryz.results138 () rfl (fun w hA => ⟨?_,?_,?_⟩))))
  ·(exact congrArg Value.bool (by simp [h5]))
  ·trivial
  ·exact hA.only (is:=[0,0]) (Z:=[]) rfl
 intro h5
 refine NO rfl (NO rfl (NO rfl (PF rfl (AS rfl (NI [2] [_] rfl (R1 Tryz.results138 () rfl (fun w hA => ⟨?_,?_,?_⟩)))))))
 ·(exact congrArg Value.bool (by simp [h5]))
 ·trivial
 ·exact hA.only (is:=[0,0]) (Z:=[]) rfl
theorem fits3_spec (g g2 : Nat) (ki se sq : Int) (ke ol va ti : ByteArray) (li : Int)  : Spec Tryz.prog 140 #[.pointer (some ⟨g2,0,none⟩),.pointer (some ⟨g,0,none⟩)] [.loc g2 [.func (.func 136) #[] #[.pointer (some ⟨g,0,none⟩)]] 27,.loc g [.int .i64 (ki),.int .i64 (se),.int .i64 (sq),.string (ke),.string (ol),.string (va),.string (ti),.int .i64 (li)] 68] (β:=Unit) (fun y => .bool ((Cmd.keyok ke && (Cmd.valok ol && Cmd.valok va)))) (fun y => True) (fun y => [.loc g2 [.func (.func 136) #[] #[.pointer (some ⟨g,0,none⟩)]] 27,.loc g [.int .i64 (ki),.int .i64 (se),.int .i64 (sq),.string (ke),.string (ol),.string (va),.string (ti),.int .i64 (li)] 68]):=by
 refine Spec.enter (vs:=[_,_]) Tryz.func140 rfl Tryz.ntmps140 rfl (Nat.le_of_ble_eq_true rfl) (fun w0 ok0 => ?_)
 generalize hM0 : blks _ = M0
 refine SQ (RG rfl (AS rfl (NI [0,1] [_,_] rfl (SQ (RG rfl (LD 0 0 rfl Tryz.isAgg27 (HO_call (first:=[]) (capt:=[_]) (is:=[1]) (R:=[_]) rfl rfl rfl rfl rfl Tryz.call136 rfl (fits1_spec _ _ _ _ _ _ _ _ _) ?_)))))))
 intro y4 hy4
 clear y4 hy4
 refine MV rfl (HO_split (d:=5) rfl ?_ ?_)
 ·intro h5
  refine FA 4 rfl Tryz.underlying68 rfl Tryz.sizeOf9 (LD 0 4 rfl Tryz.isAgg9 (CB [] [_,_] rfl Tryz.call139 (value_spec _) ?_))
  intro y8 hy8
  clear y8 hy8
  refine PT rfl (MV rfl (HO_split (d:=10) rfl ?_ ?_))
  ·intro h10
   refine FA 5 rfl Tryz.underlying68 rfl Tryz.sizeOf9 (LD 0 5 rfl Tryz.isAgg9 (CB [] [_,_] rfl Tryz.call139 (value_spec _) ?_))
   intro y13 hy13
   clear y13 hy13
   refine PT rfl (AS rfl (NI [2] [_] rfl (R1 Tryz.results140 () rfl (fun w hA => ⟨?_,?_,?_⟩))))
   ·(exact congrArg Value.bool (by first | (simp [h5,h10];done) | (simp [h5];done)))
   ·trivial
   ·exact hA.only (is:=[0,0]) (Z:=[]) rfl
  intro h10
  refine NO rfl (NO rfl (NO rfl (PF rfl (AS rfl (NI [2] [_] rfl (R1 Tryz.results140 () rfl (fun w hA => ⟨?_,?_,?_⟩)))))))
  ·(exact congrArg Value.bool (by first | (simp [h5,h10];done) | (simp [h5];done)))
  ·trivial
  ·exact hA.only (is:=[0,0]) (Z:=[]) rfl
 intro h5
 refine NO rfl (NO rfl (NO rfl (PF rfl (MV rfl (NO rfl (NO rfl (NO rfl (PF rfl (AS rfl (NI [2] [_] rfl (R1 Tryz.results140 () rfl (fun w hA => ⟨?_,?_,?_⟩))))))))))))
 ·(exact congrArg Value.bool (by first | (simp [h5,h10];done) | (simp [h5];done)))
 ·trivial
 ·exact hA.only (is:=[0,0]) (Z:=[]) rfl
theorem fits_3 (se sq : Int) (ke ol va ti : ByteArray) (li : Int)  : Spec Tryz.prog 117 #[.agg #[.int .i64 (3),.int .i64 (se),.int .i64 (sq),.string (ke),.string (ol),.string (va),.string (ti),.int .i64 (li)]] [] (β:=Nat × Nat) (fun y => .tuple #[.agg #[.int .i64 (3),.int .i64 (se),.int .i64 (sq),.string (ke),.string (⟨#[]⟩),.string (va),.string (⟨#[]⟩),.int .i64 (0)],.func (.func 138) #[] #[.pointer (some ⟨y.2,0,none⟩),.pointer (some ⟨y.1,0,none⟩)]]) (fun y => True) (fun y => [.loc y.2 [.func (.func 136) #[] #[.pointer (some ⟨y.1,0,none⟩)]] 27,.loc y.1 [.int .i64 (3),.int .i64 (se),.int .i64 (sq),.string (ke),.string (ol),.string (va),.string (ti),.int .i64 (li)] 68]):=by
 refine Spec.enter (vs:=[_]) Tryz.func117 rfl Tryz.ntmps117 rfl (Nat.le_of_ble_eq_true rfl) (fun w0 ok0 => ?_)
 generalize hM0 : blks _ = M0
 have hMn:=@noM _ _ hM0 (by simp [Atom.dat,Atom.elem])
 refine SQ (RG rfl (BX [_,_,_,_,_,_,_,_] rfl ?_))
 intro g1
 refine AO [_,_,_,_,_,_,_,_] Tryz.zeroValue68 rfl ?_
 intro g2
 refine AS rfl (NI [2,1] [_,_] rfl (SQ (RG rfl (FA 0 rfl Tryz.underlying68 rfl Tryz.sizeOf3 (LD 1 0 rfl Tryz.isAgg3 (FA 1 rfl Tryz.underlying68 rfl Tryz.sizeOf3 (LD 1 1 rfl Tryz.isAgg3 (FA 2 rfl Tryz.underlying68 rfl Tryz.sizeOf3 (LD 1 2 rfl Tryz.isAgg3 (FA 3 rfl Tryz.underlying68 rfl Tryz.sizeOf9 (LD 1 3 rfl Tryz.isAgg9 (HO_build (xo:=[(0,_),(1,_),(2,_),(3,_)]) (vs:=[_,_,_,_]) rfl rfl rfl rfl (bd68_0_1_2_3_iiit) ?_))))))))))))
 refine AO [_,_,_,_,_,_,_,_] Tryz.zeroValue68 rfl ?_
 intro g4
 refine SR 0 [] [_,_,_,_,_,_,_,_] [] [_,_,_,_,_,_,_,_] [_,_] [_,_,_,_,_,_,_,_] Tryz.sizeOf68 rfl (NI [4,2,1] [_,_,_] rfl (SQ (RG rfl (HO_makeFunc (vs:=[]) (us:=[_]) rfl rfl rfl rfl (AO [_] Tryz.zeroValue27 rfl ?_)))))
 intro g5
 refine SR 0 [] [_] [] [_] [_,_,_] [_] Tryz.sizeOf27 rfl (NI [5,4,2,1] [_,_,_,_] rfl (SQ (SQ (RG rfl (FA 0 rfl Tryz.underlying68 rfl Tryz.sizeOf3 (LD 3 0 rfl Tryz.isAgg3 (NI [17,5,4,2,1] [_,_,_,_,_] rfl (BO (SQ (RG rfl (BN rfl (bin_lit (by decide) (fun _ => rfl)) ?_)))))))))))
 refine AS rfl (NI [18,17,5,4,2,1] [_,_,_,_,_,_] rfl (CT rfl (SQ (RG rfl (FA 5 rfl Tryz.underlying68 rfl Tryz.sizeOf9 (LD 3 5 rfl Tryz.isAgg9 (FA 5 rfl Tryz.underlying68 rfl Tryz.sizeOf9 (SR 1 [_,_,_,_,_] [_] [_,_] [_] [_,_,_] [_,_,_,_,_,_,_,_] Tryz.sizeOf9 rfl (NI [5,4,2,1] [_,_,_,_] rfl (SQ (RG rfl ?_)))))))))))
 refine LA 0 [] [_,_,_,_,_,_,_,_] [] rfl (.loc _ _ _) Tryz.isAgg68 Tryz.sizeOf68 rfl (HO_makeFunc (vs:=[]) (us:=[_,_]) rfl rfl rfl rfl (SR 2 [] [_,_,_,_,_,_,_,_] [] [_,_,_,_,_,_,_,_] [_,_,_] [_,_,_,_,_,_,_,_] Tryz.sizeOf68 rfl (AS rfl (NI [3,2] [_,_] rfl (WD 13 [_,_,_] rfl (H_ret2 Tryz.results117 (.cell rfl (fun w hA => run_loadVarA (cs:=[_,_,_,_,_,_,_,_]) (Tryz.isAgg68 w) (Tryz.sizeOf68 w) (Tells.cells (.loc _ _ _) (hA.get (i:=0) rfl)))) (.tmp rfl) (fun w hA => ⟨(g1,g5),congrArg Ending.returned ?_,?_,?_⟩)))))))
 ·rfl
 ·trivial
 ·exact hA.keep (m:=[nn,yy,yy]) (Y:=[_,_]) rfl
theorem fits_4 (se sq : Int) (ke ol va ti : ByteArray) (li : Int)  : Spec Tryz.prog 117 #[.agg #[.int .i64 (4),.int .i64 (se),.int .i64 (sq),.string (ke),.string (ol),.string (va),.string (ti),.int .i64 (li)]] [] (β:=Nat × Nat) (fun y => .tuple #[.agg #[.int .i64 (4),.int .i64 (se),.int .i64 (sq),.string (ke),.string (⟨#[]⟩),.string (⟨#[]⟩),.string (⟨#[]⟩),.int .i64 (0)],.func (.func 136) #[] #[.pointer (some ⟨y.1,0,none⟩)]]) (fun y => True) (fun y => [.loc y.1 [.int .i64 (4),.int .i64 (se),.int .i64 (sq),.string (ke),.string (ol),.string (va),.string (ti),.int .i64 (li)] 68]):=by
 refine Spec.enter (vs:=[_]) Tryz.func117 rfl Tryz.ntmps117 rfl (Nat.le_of_ble_eq_true rfl) (fun w0 ok0 => ?_)
 generalize hM0 : blks _ = M0
 have hMn:=@noM _ _ hM0 (by simp [Atom.dat,Atom.elem])
 refine SQ (RG rfl (BX [_,_,_,_,_,_,_,_] rfl ?_))
 intro g1
 refine AO [_,_,_,_,_,_,_,_] Tryz.zeroValue68 rfl ?_
 intro g2
 refine AS rfl (NI [2,1] [_,_] rfl (SQ (RG rfl (FA 0 rfl Tryz.underlying68 rfl Tryz.sizeOf3 (LD 1 0 rfl Tryz.isAgg3 (FA 1 rfl Tryz.underlying68 rfl Tryz.sizeOf3 (LD 1 1 rfl Tryz.isAgg3 (FA 2 rfl Tryz.underlying68 rfl Tryz.sizeOf3 (LD 1 2 rfl Tryz.isAgg3 (FA 3 rfl Tryz.underlying68 rfl Tryz.sizeOf9 (LD 1 3 rfl Tryz.isAgg9 (HO_build (xo:=[(0,_),(1,_),(2,_),(3,_)]) (vs:=[_,_,_,_]) rfl rfl rfl rfl (bd68_0_1_2_3_iiit) ?_))))))))))))
 refine AO [_,_,_,_,_,_,_,_] Tryz.zeroValue68 rfl ?_
 intro g4
 refine SR 0 [] [_,_,_,_,_,_,_,_] [] [_,_,_,_,_,_,_,_] [_,_] [_,_,_,_,_,_,_,_] Tryz.sizeOf68 rfl (NI [4,2,1] [_,_,_] rfl (SQ (RG rfl (HO_makeFunc (vs:=[]) (us:=[_]) rfl rfl rfl rfl (AO [_] Tryz.zeroValue27 rfl ?_)))))
 intro g5
 refine SR 0 [] [_] [] [_] [_,_,_] [_] Tryz.sizeOf27 rfl (NI [5,4,2,1] [_,_,_,_] rfl (SQ (SQ (RG rfl (FA 0 rfl Tryz.underlying68 rfl Tryz.sizeOf3 (LD 3 0 rfl Tryz.isAgg3 (NI [17,5,4,2,1] [_,_,_,_,_] rfl (BO (SQ (RG rfl (BN rfl (bin_lit (by decide) (fun _ => rfl)) ?_)))))))))))
 refine AS rfl (NI [18,17,5,4,2,1] [_,_,_,_,_,_] rfl (CF rfl (SQ (SQ (RG rfl (BN rfl (bin_lit (by decide) (fun _ => rfl)) (AS rfl (NI [25,17,5,4,2,1] [_,_,_,_,_,_] rfl (CT rfl (SK (CT rfl ?_)))))))))))
 refine SQ (H_drawB (m:=[yy,yy,nn,yy]) (Xs:=[_,_,_]) (fuel:=4) (l:=#[false,false,false,false]) mixed rfl rfl rfl (TK 0 11 [_,_,_] rfl (by kernel_rfl) (V_loadA (i:=1) (us:=[]) (cs:=[_,_,_,_,_,_,_,_]) (ts:=[]) rfl Tryz.isAgg68 Tryz.sizeOf68 rfl (.loc _ _ _) rfl rfl rfl rfl) (TK 1 11 [_,_,_] rfl (by kernel_rfl) (V_load1 (i:=0) (j:=0) rfl Tryz.isAgg27 rfl (.loc _ _ _) rfl rfl) (LO 2 (by kernel_rfl) rfl (SR 2 [] [_,_,_,_,_,_,_,_] [] [_,_,_,_,_,_,_,_] [_,_,_] [_,_,_,_,_,_,_,_] Tryz.sizeOf68 rfl (BK 14 [_,_,_] rfl (TK 3 14 [_,_,_] rfl (by kernel_rfl) (V_assign rfl) (HA_done (by kernel_rfl) (EV [3,2] [_,_] rfl (WD 9 [_,_] rfl (H_ret2 Tryz.results117 (.cell rfl (fun w hA => run_loadVarA (cs:=[_,_,_,_,_,_,_,_]) (Tryz.isAgg68 w) (Tryz.sizeOf68 w) (Tells.cells (.loc _ _ _) (hA.get (i:=0) rfl)))) (.tmp rfl) (fun w hA => ⟨(g1,g5),congrArg Ending.returned ?_,?_,?_⟩))))))))))))
 ·rfl
 ·trivial
 ·exact hA.keep (m:=[nn,yy]) (Y:=[_]) rfl
theorem fits_5 (se sq : Int) (ke ol va ti : ByteArray) (li : Int)  : Spec Tryz.prog 117 #[.agg #[.int .i64 (5),.int .i64 (se),.int .i64 (sq),.string (ke),.string (ol),.string (va),.string (ti),.int .i64 (li)]] [] (β:=Nat × Nat) (fun y => .tuple #[.agg #[.int .i64 (5),.int .i64 (se),.int .i64 (sq),.string (ke),.string (⟨#[]⟩),.string (⟨#[]⟩),.string (⟨#[]⟩),.int .i64 (0)],.func (.func 136) #[] #[.pointer (some ⟨y.1,0,none⟩)]]) (fun y => True) (fun y => [.loc y.1 [.int .i64 (5),.int .i64 (se),.int .i64 (sq),.string (ke),.string (ol),.string (va),.string (ti),.int .i64 (li)] 68]):=by
 refine Spec.enter (vs:=[_]) Tryz.func117 rfl Tryz.ntmps117 rfl (Nat.le_of_ble_eq_true rfl) (fun w0 ok0 => ?_)
 generalize hM0 : blks _ = M0
 have hMn:=@noM _ _ hM0 (by simp [Atom.dat,Atom.elem])
 refine SQ (RG rfl (BX [_,_,_,_,_,_,_,_] rfl ?_))
 intro g1
 refine AO [_,_,_,_,_,_,_,_] Tryz.zeroValue68 rfl ?_
 intro g2
 refine AS rfl (NI [2,1] [_,_] rfl (SQ (RG rfl (FA 0 rfl Tryz.underlying68 rfl Tryz.sizeOf3 (LD 1 0 rfl Tryz.isAgg3 (FA 1 rfl Tryz.underlying68 rfl Tryz.sizeOf3 (LD 1 1 rfl Tryz.isAgg3 (FA 2 rfl Tryz.underlying68 rfl Tryz.sizeOf3 (LD 1 2 rfl Tryz.isAgg3 (FA 3 rfl Tryz.underlying68 rfl Tryz.sizeOf9 (LD 1 3 rfl Tryz.isAgg9 (HO_build (xo:=[(0,_),(1,_),(2,_),(3,_)]) (vs:=[_,_,_,_]) rfl rfl rfl rfl (bd68_0_1_2_3_iiit) ?_))))))))))))
 refine AO [_,_,_,_,_,_,_,_] Tryz.zeroValue68 rfl ?_
 intro g4
 refine SR 0 [] [_,_,_,_,_,_,_,_] [] [_,_,_,_,_,_,_,_] [_,_] [_,_,_,_,_,_,_,_] Tryz.sizeOf68 rfl (NI [4,2,1] [_,_,_] rfl (SQ (RG rfl (HO_makeFunc (vs:=[]) (us:=[_]) rfl rfl rfl rfl (AO [_] Tryz.zeroValue27 rfl ?_)))))
 intro g5
 refine SR 0 [] [_] [] [_] [_,_,_] [_] Tryz.sizeOf27 rfl (NI [5,4,2,1] [_,_,_,_] rfl (SQ (SQ (RG rfl (FA 0 rfl Tryz.underlying68 rfl Tryz.sizeOf3 (LD 3 0 rfl Tryz.isAgg3 (NI [17,5,4,2,1] [_,_,_,_,_] rfl (BO (SQ (RG rfl (BN rfl (bin_lit (by decide) (fun _ => rfl)) ?_)))))))))))
 refine AS rfl (NI [18,17,5,4,2,1] [_,_,_,_,_,_] rfl (CF rfl (SQ (SQ (RG rfl (BN rfl (bin_lit (by decide) (fun _ => rfl)) (AS rfl (NI [25,17,5,4,2,1] [_,_,_,_,_,_] rfl (CF rfl (RG rfl (BN rfl (bin_lit (by decide) (fun _ => rfl)) ?_)))))))))))
 refine AS rfl (NI [25,17,5,4,2,1] [_,_,_,_,_,_] rfl (CT rfl (SQ (H_drawB (m:=[yy,yy,nn,yy]) (Xs:=[_,_,_]) (fuel:=4) (l:=#[false,false,false,false]) mixed rfl rfl rfl (TK 0 11 [_,_,_] rfl (by kernel_rfl) (V_loadA (i:=1) (us:=[]) (cs:=[_,_,_,_,_,_,_,_]) (ts:=[]) rfl Tryz.isAgg68 Tryz.sizeOf68 rfl (.loc _ _ _) rfl rfl rfl rfl) (TK 1 11 [_,_,_] rfl (by kernel_rfl) (V_load1 (i:=0) (j:=0) rfl Tryz.isAgg27 rfl (.loc _ _ _) rfl rfl) (LO 2 (by kernel_rfl) rfl (SR 2 [] [_,_,_,_,_,_,_,_] [] [_,_,_,_,_,_,_,_] [_,_,_] [_,_,_,_,_,_,_,_] Tryz.sizeOf68 rfl (BK 14 [_,_,_] rfl (TK 3 14 [_,_,_] rfl (by kernel_rfl) (V_assign rfl) (HA_done (by kernel_rfl) (EV [3,2] [_,_] rfl ?_))))))))))))
 refine WD 9 [_,_] rfl (H_ret2 Tryz.results117 (.cell rfl (fun w hA => run_loadVarA (cs:=[_,_,_,_,_,_,_,_]) (Tryz.isAgg68 w) (Tryz.sizeOf68 w) (Tells.cells (.loc _ _ _) (hA.get (i:=0) rfl)))) (.tmp rfl) (fun w hA => ⟨(g1,g5),congrArg Ending.returned ?_,?_,?_⟩))
 ·rfl
 ·trivial
 ·exact hA.keep (m:=[nn,yy]) (Y:=[_]) rfl
theorem fits_6 (se sq : Int) (ke ol va ti : ByteArray) (li : Int)  : Spec Tryz.prog 117 #[.agg #[.int .i64 (6),.int .i64 (se),.int .i64 (sq),.string (ke),.string (ol),.string (va),.string (ti),.int .i64 (li)]] [] (β:=Nat × Nat) (fun y => .tuple #[.agg #[.int .i64 (6),.int .i64 (se),.int .i64 (sq),.string (ke),.string (ol),.string (va),.string (⟨#[]⟩),.int .i64 (0)],.func (.func 140) #[] #[.pointer (some ⟨y.2,0,none⟩),.pointer (some ⟨y.1,0,none⟩)]]) (fun y => True) (fun y => [.loc y.2 [.func (.func 136) #[] #[.pointer (some ⟨y.1,0,none⟩)]] 27,.loc y.1 [.int .i64 (6),.int .i64 (se),.int .i64 (sq),.string (ke),.string (ol),.string (va),.string (ti),.int .i64 (li)] 68]):=by
 refine Spec.enter (vs:=[_]) Tryz.func117 rfl Tryz.ntmps117 rfl (Nat.le_of_ble_eq_true rfl) (fun w0 ok0 => ?_)
 generalize hM0 : blks _ = M0
 have hMn:=@noM _ _ hM0 (by simp [Atom.dat,Atom.elem])
 refine SQ (RG rfl (BX [_,_,_,_,_,_,_,_] rfl ?_))
 intro g1
 refine AO [_,_,_,_,_,_,_,_] Tryz.zeroValue68 rfl ?_
 intro g2
 refine AS rfl (NI [2,1] [_,_] rfl (SQ (RG rfl (FA 0 rfl Tryz.underlying68 rfl Tryz.sizeOf3 (LD 1 0 rfl Tryz.isAgg3 (FA 1 rfl Tryz.underlying68 rfl Tryz.sizeOf3 (LD 1 1 rfl Tryz.isAgg3 (FA 2 rfl Tryz.underlying68 rfl Tryz.sizeOf3 (LD 1 2 rfl Tryz.isAgg3 (FA 3 rfl Tryz.underlying68 rfl Tryz.sizeOf9 (LD 1 3 rfl Tryz.isAgg9 (HO_build (xo:=[(0,_),(1,_),(2,_),(3,_)]) (vs:=[_,_,_,_]) rfl rfl rfl rfl (bd68_0_1_2_3_iiit) ?_))))))))))))
 refine AO [_,_,_,_,_,_,_,_] Tryz.zeroValue68 rfl ?_
 intro g4
 refine SR 0 [] [_,_,_,_,_,_,_,_] [] [_,_,_,_,_,_,_,_] [_,_] [_,_,_,_,_,_,_,_] Tryz.sizeOf68 rfl (NI [4,2,1] [_,_,_] rfl (SQ (RG rfl (HO_makeFunc (vs:=[]) (us:=[_]) rfl rfl rfl rfl (AO [_] Tryz.zeroValue27 rfl ?_)))))
 intro g5
 refine SR 0 [] [_] [] [_] [_,_,_] [_] Tryz.sizeOf27 rfl (NI [5,4,2,1] [_,_,_,_] rfl (SQ (SQ (RG rfl (FA 0 rfl Tryz.underlying68 rfl Tryz.sizeOf3 (LD 3 0 rfl Tryz.isAgg3 (NI [17,5,4,2,1] [_,_,_,_,_] rfl (BO (SQ (RG rfl (BN rfl (bin_lit (by decide) (fun _ => rfl)) ?_)))))))))))
 refine AS rfl (NI [18,17,5,4,2,1] [_,_,_,_,_,_] rfl (CF rfl (SQ (SQ (RG rfl (BN rfl (bin_lit (by decide) (fun _ => rfl)) (AS rfl (NI [25,17,5,4,2,1] [_,_,_,_,_,_] rfl (CF rfl (RG rfl (BN rfl (bin_lit (by decide) (fun _ => rfl)) ?_)))))))))))
 refine AS rfl (NI [25,17,5,4,2,1] [_,_,_,_,_,_] rfl (CF rfl (SQ (RG rfl (BN rfl (bin_lit (by decide) (fun _ => rfl)) (AS rfl (NI [30,17,5,4,2,1] [_,_,_,_,_,_] rfl (CT rfl (SQ (H_drawB (m:=[yy,nn,yy,yy]) (Xs:=[_,_,_]) (fuel:=8) (l:=#[false,false,false,false,false,false,false,false]) mixed rfl rfl rfl (TK 0 13 [_,_,_] rfl (by kernel_rfl) (V_fieldAddr (r:=4) rfl Tryz.underlying68 rfl Tryz.sizeOf9 rfl) ?_)))))))))))
 refine TK 1 13 [_,_,_] rfl (by kernel_rfl) (V_load1 (i:=2) (j:=4) rfl Tryz.isAgg9 rfl (.loc _ _ _) rfl rfl) (TK 2 13 [_,_,_] rfl (by kernel_rfl) (V_fieldAddr (r:=5) rfl Tryz.underlying68 rfl Tryz.sizeOf9 rfl) (TK 3 13 [_,_,_] rfl (by kernel_rfl) (V_load1 (i:=2) (j:=5) rfl Tryz.isAgg9 rfl (.loc _ _ _) rfl rfl) (TK 4 13 [_,_,_] rfl (by kernel_rfl) (V_fieldAddr (r:=4) rfl Tryz.underlying68 rfl Tryz.sizeOf9 rfl) (LO 5 (by kernel_rfl) rfl (SR 1 [_,_,_,_] [_] [_,_,_] [_] [_,_,_] [_,_,_,_,_,_,_,_] Tryz.sizeOf9 rfl (BK 14 [_,_,_] rfl (TK 6 14 [_,_,_] rfl (by kernel_rfl) (V_fieldAddr (r:=5) rfl Tryz.underlying68 rfl Tryz.sizeOf9 rfl) (LO 7 (by kernel_rfl) rfl (SR 0 [_,_,_,_,_] [_] [_,_] [_] [_,_,_] [_,_,_,_,_,_,_,_] Tryz.sizeOf9 rfl (BK 14 [_,_,_] rfl (HA_done (by kernel_rfl) (EV [5,4,2,1] [_,_,_,_] rfl (SQ ?_)))))))))))))
 refine RG rfl (LA 0 [] [_,_,_,_,_,_,_,_] [] rfl (.loc _ _ _) Tryz.isAgg68 Tryz.sizeOf68 rfl (HO_makeFunc (vs:=[]) (us:=[_,_]) rfl rfl rfl rfl (SR 2 [] [_,_,_,_,_,_,_,_] [] [_,_,_,_,_,_,_,_] [_,_,_] [_,_,_,_,_,_,_,_] Tryz.sizeOf68 rfl (AS rfl (NI [3,2] [_,_] rfl (WD 13 [_,_,_] rfl (H_ret2 Tryz.results117 (.cell rfl (fun w hA => run_loadVarA (cs:=[_,_,_,_,_,_,_,_]) (Tryz.isAgg68 w) (Tryz.sizeOf68 w) (Tells.cells (.loc _ _ _) (hA.get (i:=0) rfl)))) (.tmp rfl) (fun w hA => ⟨(g1,g5),congrArg Ending.returned ?_,?_,?_⟩))))))))
 ·rfl
 ·trivial
 ·exact hA.keep (m:=[nn,yy,yy]) (Y:=[_,_]) rfl
theorem fits_7 (se sq : Int) (ke ol va ti : ByteArray) (li : Int)  : Spec Tryz.prog 117 #[.agg #[.int .i64 (7),.int .i64 (se),.int .i64 (sq),.string (ke),.string (ol),.string (va),.string (ti),.int .i64 (li)]] [] (β:=Nat × Nat) (fun y => .tuple #[.agg #[.int .i64 (7),.int .i64 (se),.int .i64 (sq),.string (ke),.string (⟨#[]⟩),.string (⟨#[]⟩),.string (ti),.int .i64 (li)],.func (.func 141) #[] #[.pointer (some ⟨y.1,0,none⟩)]]) (fun y => True) (fun y => [.loc y.1 [.int .i64 (7),.int .i64 (se),.int .i64 (sq),.string (ke),.string (ol),.string (va),.string (ti),.int .i64 (li)] 68]):=by
 refine Spec.enter (vs:=[_]) Tryz.func117 rfl Tryz.ntmps117 rfl (Nat.le_of_ble_eq_true rfl) (fun w0 ok0 => ?_)
 generalize hM0 : blks _ = M0
 have hMn:=@noM _ _ hM0 (by simp [Atom.dat,Atom.elem])
 refine SQ (RG rfl (BX [_,_,_,_,_,_,_,_] rfl ?_))
 intro g1
 refine AO [_,_,_,_,_,_,_,_] Tryz.zeroValue68 rfl ?_
 intro g2
 refine AS rfl (NI [2,1] [_,_] rfl (SQ (RG rfl (FA 0 rfl Tryz.underlying68 rfl Tryz.sizeOf3 (LD 1 0 rfl Tryz.isAgg3 (FA 1 rfl Tryz.underlying68 rfl Tryz.sizeOf3 (LD 1 1 rfl Tryz.isAgg3 (FA 2 rfl Tryz.underlying68 rfl Tryz.sizeOf3 (LD 1 2 rfl Tryz.isAgg3 (FA 3 rfl Tryz.underlying68 rfl Tryz.sizeOf9 (LD 1 3 rfl Tryz.isAgg9 (HO_build (xo:=[(0,_),(1,_),(2,_),(3,_)]) (vs:=[_,_,_,_]) rfl rfl rfl rfl (bd68_0_1_2_3_iiit) ?_))))))))))))
 refine AO [_,_,_,_,_,_,_,_] Tryz.zeroValue68 rfl ?_
 intro g4
 refine SR 0 [] [_,_,_,_,_,_,_,_] [] [_,_,_,_,_,_,_,_] [_,_] [_,_,_,_,_,_,_,_] Tryz.sizeOf68 rfl (NI [4,2,1] [_,_,_] rfl (SQ (RG rfl (HO_makeFunc (vs:=[]) (us:=[_]) rfl rfl rfl rfl (AO [_] Tryz.zeroValue27 rfl ?_)))))
 intro g5
 refine SR 0 [] [_] [] [_] [_,_,_] [_] Tryz.sizeOf27 rfl (NI [5,4,2,1] [_,_,_,_] rfl (SQ (SQ (RG rfl (FA 0 rfl Tryz.underlying68 rfl Tryz.sizeOf3 (LD 3 0 rfl Tryz.isAgg3 (NI [17,5,4,2,1] [_,_,_,_,_] rfl (BO (SQ (RG rfl (BN rfl (bin_lit (by decide) (fun _ => rfl)) ?_)))))))))))
 refine AS rfl (NI [18,17,5,4,2,1] [_,_,_,_,_,_] rfl (CF rfl (SQ (SQ (RG rfl (BN rfl (bin_lit (by decide) (fun _ => rfl)) (AS rfl (NI [25,17,5,4,2,1] [_,_,_,_,_,_] rfl (CF rfl (RG rfl (BN rfl (bin_lit (by decide) (fun _ => rfl)) ?_)))))))))))
 refine AS rfl (NI [25,17,5,4,2,1] [_,_,_,_,_,_] rfl (CF rfl (SQ (RG rfl (BN rfl (bin_lit (by decide) (fun _ => rfl)) (AS rfl (NI [30,17,5,4,2,1] [_,_,_,_,_,_] rfl (CF rfl (SQ (RG rfl (BN rfl (bin_lit (by decide) (fun _ => rfl)) ?_)))))))))))
 refine AS rfl (NI [40,4,2,1] [_,_,_,_] rfl (WD 14 [_,_,_] rfl (CT rfl (SQ (H_drawB (m:=[nn,yy,yy]) (Xs:=[_,_]) (fuel:=8) (l:=#[false,false,false,false,false,false,false,false]) mixed rfl rfl rfl (TK 0 6 [_,_] rfl (by kernel_rfl) (V_fieldAddr (r:=6) rfl Tryz.underlying68 rfl Tryz.sizeOf9 rfl) (TK 1 6 [_,_] rfl (by kernel_rfl) (V_load1 (i:=1) (j:=6) rfl Tryz.isAgg9 rfl (.loc _ _ _) rfl rfl) (TK 2 6 [_,_] rfl (by kernel_rfl) (V_fieldAddr (r:=7) rfl Tryz.underlying68 rfl Tryz.sizeOf3 rfl) (TK 3 6 [_,_] rfl (by kernel_rfl) (V_load1 (i:=1) (j:=7) rfl Tryz.isAgg3 rfl (.loc _ _ _) rfl rfl) (TK 4 6 [_,_] rfl (by kernel_rfl) (V_fieldAddr (r:=6) rfl Tryz.underlying68 rfl Tryz.sizeOf9 rfl) (LO 5 (by kernel_rfl) rfl (SR 0 [_,_,_,_,_,_] [_] [_] [_] [_,_] [_,_,_,_,_,_,_,_] Tryz.sizeOf9 rfl ?_))))))))))))
 refine BK 6 [_,_] rfl (TK 6 6 [_,_] rfl (by kernel_rfl) (V_fieldAddr (r:=7) rfl Tryz.underlying68 rfl Tryz.sizeOf3 rfl) (LO 7 (by kernel_rfl) rfl (SR 0 [_,_,_,_,_,_,_] [_] [] [_] [_,_] [_,_,_,_,_,_,_,_] Tryz.sizeOf3 rfl (BK 6 [_,_] rfl (HA_done (by kernel_rfl) (EV [4,2,1] [_,_,_] rfl (SQ (RG rfl (LA 0 [] [_,_,_,_,_,_,_,_] [] rfl (.loc _ _ _) Tryz.isAgg68 Tryz.sizeOf68 rfl (HO_makeFunc (vs:=[]) (us:=[_]) rfl rfl rfl rfl (SR 1 [] [_,_,_,_,_,_,_,_] [] [_,_,_,_,_,_,_,_] [_,_] [_,_,_,_,_,_,_,_] Tryz.sizeOf68 rfl (AS rfl (HO_nil ?_)))))))))))))
 refine EV [3,2] [_,_] rfl (WD 5 [_,_] rfl (H_ret2 Tryz.results117 (.cell rfl (fun w hA => run_loadVarA (cs:=[_,_,_,_,_,_,_,_]) (Tryz.isAgg68 w) (Tryz.sizeOf68 w) (Tells.cells (.loc _ _ _) (hA.get (i:=0) rfl)))) (.tmp rfl) (fun w hA => ⟨(g1,g5),congrArg Ending.returned ?_,?_,?_⟩)))
 ·rfl
 ·trivial
 ·exact hA.keep (m:=[nn,yy]) (Y:=[_]) rfl
theorem fits_no (ki se sq : Int) (ke ol va ti : ByteArray) (li : Int) (h3 : ki ≠ 3) (h4 : ki ≠ 4) (h5 : ki ≠ 5) (h6 : ki ≠ 6) (h7 : ki ≠ 7) : Spec Tryz.prog 117 #[.agg #[.int .i64 (ki),.int .i64 (se),.int .i64 (sq),.string (ke),.string (ol),.string (va),.string (ti),.int .i64 (li)]] [] (β:=Nat × Nat) (fun y => .tuple #[.agg #[.int .i64 (ki),.int .i64 (se),.int .i64 (sq),.string (ke),.string (⟨#[]⟩),.string (⟨#[]⟩),.string (⟨#[]⟩),.int .i64 (0)],.func (.func 142) #[] #[]]) (fun y => True) (fun y => []):=by
 refine Spec.enter (vs:=[_]) Tryz.func117 rfl Tryz.ntmps117 rfl (Nat.le_of_ble_eq_true rfl) (fun w0 ok0 => ?_)
 generalize hM0 : blks _ = M0
 have hMn:=@noM _ _ hM0 (by simp [Atom.dat,Atom.elem])
 refine SQ (RG rfl (BX [_,_,_,_,_,_,_,_] rfl ?_))
 intro g1
 refine AO [_,_,_,_,_,_,_,_] Tryz.zeroValue68 rfl ?_
 intro g2
 refine AS rfl (NI [2,1] [_,_] rfl (SQ (RG rfl (FA 0 rfl Tryz.underlying68 rfl Tryz.sizeOf3 (LD 1 0 rfl Tryz.isAgg3 (FA 1 rfl Tryz.underlying68 rfl Tryz.sizeOf3 (LD 1 1 rfl Tryz.isAgg3 (FA 2 rfl Tryz.underlying68 rfl Tryz.sizeOf3 (LD 1 2 rfl Tryz.isAgg3 (FA 3 rfl Tryz.underlying68 rfl Tryz.sizeOf9 (LD 1 3 rfl Tryz.isAgg9 (HO_build (xo:=[(0,_),(1,_),(2,_),(3,_)]) (vs:=[_,_,_,_]) rfl rfl rfl rfl (bd68_0_1_2_3_iiit) ?_))))))))))))
 refine AO [_,_,_,_,_,_,_,_] Tryz.zeroValue68 rfl ?_
 intro g4
 refine SR 0 [] [_,_,_,_,_,_,_,_] [] [_,_,_,_,_,_,_,_] [_,_] [_,_,_,_,_,_,_,_] Tryz.sizeOf68 rfl (NI [4,2,1] [_,_,_] rfl (SQ (RG rfl (HO_makeFunc (vs:=[]) (us:=[_]) rfl rfl rfl rfl (AO [_] Tryz.zeroValue27 rfl ?_)))))
 intro g5
 refine SR 0 [] [_] [] [_] [_,_,_] [_] Tryz.sizeOf27 rfl (NI [5,4,2,1] [_,_,_,_] rfl (SQ (SQ (RG rfl (FA 0 rfl Tryz.underlying68 rfl Tryz.sizeOf3 (LD 3 0 rfl Tryz.isAgg3 (NI [17,5,4,2,1] [_,_,_,_,_] rfl (BO (SQ (RG rfl (BN rfl bin_eql ?_)))))))))))
 refine AS rfl (NI [18,17,5,4,2,1] [_,_,_,_,_,_] rfl (H_cond rfl ?_ ?_))
 ·intro h18
  replace h18:=dT h18
  all_goals (exfalso;omega)
 intro h18
 replace h18:=dF h18
 refine SQ (SQ (RG rfl (BN rfl bin_eql (AS rfl (NI [25,17,5,4,2,1] [_,_,_,_,_,_] rfl (H_cond rfl ?_ ?_))))))
 ·intro h25
  replace h25:=dT h25
  all_goals (exfalso;omega)
 intro h25
 replace h25:=dF h25
 refine RG rfl (BN rfl bin_eql (AS rfl (NI [25,17,5,4,2,1] [_,_,_,_,_,_] rfl (H_cond rfl ?_ ?_))))
 ·intro h25
  replace h25:=dT h25
  all_goals (exfalso;omega)
 intro h25
 replace h25:=dF h25
 refine SQ (RG rfl (BN rfl bin_eql (AS rfl (NI [30,17,5,4,2,1] [_,_,_,_,_,_] rfl (H_cond rfl ?_ ?_)))))
 ·intro h30
  replace h30:=dT h30
  all_goals (exfalso;omega)
 intro h30
 replace h30:=dF h30
 refine SQ (RG rfl (BN rfl bin_eql (AS rfl (NI [40,4,2,1] [_,_,_,_] rfl (WD 14 [_,_,_] rfl (H_cond rfl ?_ ?_))))))
 ·intro h40
  replace h40:=dT h40
  all_goals (exfalso;omega)
 intro h40
 replace h40:=dF h40
 refine SK (BD (SQ (RG rfl (LA 0 [] [_,_,_,_,_,_,_,_] [] rfl (.loc _ _ _) Tryz.isAgg68 Tryz.sizeOf68 rfl (SR 1 [] [_,_,_,_,_,_,_,_] [] [_,_,_,_,_,_,_,_] [_,_] [_,_,_,_,_,_,_,_] Tryz.sizeOf68 rfl (AS rfl (NI [3,2] [_,_] rfl (WD 1 [_] rfl (H_ret2 Tryz.results117 (.cell rfl (fun w hA => run_loadVarA (cs:=[_,_,_,_,_,_,_,_]) (Tryz.isAgg68 w) (Tryz.sizeOf68 w) (Tells.cells (.loc _ _ _) (hA.get (i:=0) rfl)))) (.tmp rfl) (fun w hA => ⟨(g1,g5),congrArg Ending.returned ?_,?_,?_⟩))))))))))
 ·rfl
 ·trivial
 ·exact hA.keep (m:=[nn]) (Y:=[]) rfl
theorem good_spec (ki se sq : Int) (ke ol va ti : ByteArray) (li : Int)  : Spec Tryz.prog 84 #[.agg #[.int .i64 (ki),.int .i64 (se),.int .i64 (sq),.string (ke),.string (ol),.string (va),.string (ti),.int .i64 (li)]] [] (β:=Unit) (fun y => .bool (Cmd.good ⟨ki,se,sq,ke,ol,va,ti,li⟩)) (fun y => True) (fun y => []):=by
 refine Spec.enter (vs:=[_]) Tryz.func84 rfl Tryz.ntmps84 rfl (Nat.le_of_ble_eq_true rfl) (fun w0 ok0 => ?_)
 generalize hM0 : blks _ = M0
 have hMn:=@noM _ _ hM0 (by simp [Atom.dat,Atom.elem])
 refine SQ (RG rfl (BX [_,_,_,_,_,_,_,_] rfl ?_))
 intro g1
 refine AS rfl (NI [1] [_] rfl (SQ (SQ (RG rfl (FA 0 rfl Tryz.underlying68 rfl Tryz.sizeOf3 (LD 0 0 rfl Tryz.isAgg3 (NI [6,1] [_,_] rfl (BO (SQ (RG rfl (BN rfl bin_eql ?_)))))))))))
 refine AS rfl (NI [7,6,1] [_,_,_] rfl (H_cond rfl ?_ ?_))
 ·intro h7
  replace h7:=dT h7
  refine SQ (RG rfl (LA 0 [] [_,_,_,_,_,_,_,_] [] rfl (.loc _ _ _) Tryz.isAgg68 Tryz.sizeOf68 rfl (HO_build (xo:=[(0,_)]) (vs:=[_]) rfl rfl rfl rfl (bd68_0_i) (BN rfl eq68_eql (AS rfl (NI [2] [_] rfl (WD 0 [] rfl (R1 Tryz.results84 () rfl (fun w hA => ⟨?_,?_,?_⟩)))))))))
  ·(exact congrArg Value.bool (by first | (simp [Cmd.good,Cmd.part,Cmd.fit,Cmd.eqv,Cmd.base,Cmd.empty, *] <;> rfl) | (simp_all [Cmd.good,Cmd.part,Cmd.fit,Cmd.eqv,Cmd.base,Cmd.empty] <;> rfl)))
  ·trivial
  ·exact hA.keep (m:=[]) (Y:=[]) rfl
 intro h7
 replace h7:=dF h7
 refine SQ (RG rfl (BN rfl bin_eql (AS rfl (NI [12,1] [_,_] rfl (H_cond rfl ?_ ?_)))))
 ·intro h12
  replace h12:=dT h12
  refine SQ (RG rfl (FA 1 rfl Tryz.underlying68 rfl Tryz.sizeOf3 (LD 0 1 rfl Tryz.isAgg3 (BN rfl bin_gtr (MV rfl (HO_split (d:=17) rfl ?_ ?_))))))
  ·intro h17
   replace h17:=dT h17
   refine LA 0 [] [_,_,_,_,_,_,_,_] [] rfl (.loc _ _ _) Tryz.isAgg68 Tryz.sizeOf68 rfl (FA 1 rfl Tryz.underlying68 rfl Tryz.sizeOf3 (LD 0 1 rfl Tryz.isAgg3 (HO_build (xo:=[(0,_),(1,_)]) (vs:=[_,_]) rfl rfl rfl rfl (bd68_0_1_ii) (BN rfl eq68_eql (PT rfl (AS rfl (NI [2] [_] rfl (WD 0 [] rfl (R1 Tryz.results84 () rfl (fun w hA => ⟨?_,?_,?_⟩))))))))))
   ·(exact congrArg Value.bool (by first | (simp [Cmd.good,Cmd.part,Cmd.fit,Cmd.eqv,Cmd.base,Cmd.empty, *] <;> rfl) | (simp_all [Cmd.good,Cmd.part,Cmd.fit,Cmd.eqv,Cmd.base,Cmd.empty] <;> rfl)))
   ·trivial
   ·exact hA.keep (m:=[]) (Y:=[]) rfl
  intro h17
  replace h17:=dF h17
  refine NO rfl (NO rfl (NO rfl (NO rfl (NO rfl (PF rfl (AS rfl (NI [2] [_] rfl (WD 0 [] rfl (R1 Tryz.results84 () rfl (fun w hA => ⟨?_,?_,?_⟩))))))))))
  ·(exact congrArg Value.bool (by first | (simp [Cmd.good,Cmd.part,Cmd.fit,Cmd.eqv,Cmd.base,Cmd.empty, *] <;> rfl) | (simp_all [Cmd.good,Cmd.part,Cmd.fit,Cmd.eqv,Cmd.base,Cmd.empty] <;> rfl)))
  ·trivial
  ·exact hA.keep (m:=[]) (Y:=[]) rfl
 intro h12
 replace h12:=dF h12
 refine SK (BD (SQ ?_))
 rcases (Cmd.kinds ki) with hc | hc | hc | hc | hc | hc
 ·skip
  subst hc
  refine RG rfl (LA 0 [] [_,_,_,_,_,_,_,_] [] rfl (.loc _ _ _) Tryz.isAgg68 Tryz.sizeOf68 rfl (CB [] [_] rfl Tryz.call117 (fits_3 _ _ _ _ _ _ _) ?_))
  intro y26 hy26
  refine MV rfl (EX [_,_] rfl (EX [_,_] rfl (AO [_,_,_,_,_,_,_,_] Tryz.zeroValue68 rfl ?_)))
  intro g3
  refine SR 0 [] [_,_,_,_,_,_,_,_] [] [_,_,_,_,_,_,_,_] [_,_,_] [_,_,_,_,_,_,_,_] Tryz.sizeOf68 rfl (AS rfl (NI [4,3,1] [_,_,_] rfl (SQ (RG rfl (LA 3 [] [_,_,_,_,_,_,_,_] [] rfl (.loc _ _ _) Tryz.isAgg68 Tryz.sizeOf68 rfl (LA 0 [] [_,_,_,_,_,_,_,_] [] rfl (.loc _ _ _) Tryz.isAgg68 Tryz.sizeOf68 rfl (BN rfl eq68_eql (MV rfl (HO_split (d:=32) rfl ?_ ?_)))))))))
  ·intro h32
   (try simp only [decide_eq_true_eq,decide_eq_false_iff_not,Bool.not_eq_true',Bool.not_eq_false',Bool.not_eq_true,Bool.not_eq_false,Bool.true_eq_false,Bool.false_eq_true,not_false_eq_true,not_true_eq_false] at h32)
   refine FA 1 rfl Tryz.underlying68 rfl Tryz.sizeOf3 (LD 3 1 rfl Tryz.isAgg3 (BN rfl bin_gtr (PT rfl (MV rfl (HO_split (d:=37) rfl ?_ ?_)))))
   ·intro h37
    replace h37:=dT h37
    refine FA 2 rfl Tryz.underlying68 rfl Tryz.sizeOf3 (LD 3 2 rfl Tryz.isAgg3 (BN rfl bin_gtr (PT rfl (MV rfl (HO_split (d:=42) rfl ?_ ?_)))))
    ·intro h42
     replace h42:=dT h42
     refine MV rfl (HO_call (first:=[]) (capt:=[_,_]) (is:=[1,2]) (R:=[_,_]) rfl rfl rfl rfl rfl Tryz.call138 rfl (fits2_spec _ _ _ _ _ _ _ _ _ _) ?_)
     intro y44 hy44
     clear y44 hy44
     refine PT rfl (AS rfl (NI [2] [_] rfl (WD 0 [] rfl (R1 Tryz.results84 () rfl (fun w hA => ⟨?_,?_,?_⟩)))))
     ·(exact congrArg Value.bool (by first | (simp [Cmd.good,Cmd.part,Cmd.fit,Cmd.eqv,Cmd.base,Cmd.empty, *] <;> rfl) | (simp_all [Cmd.good,Cmd.part,Cmd.fit,Cmd.eqv,Cmd.base,Cmd.empty] <;> rfl)))
     ·trivial
     ·exact hA.keep (m:=[]) (Y:=[]) rfl
    intro h42
    replace h42:=dF h42
    refine NO rfl (NO rfl (PF rfl (AS rfl (NI [2] [_] rfl (WD 0 [] rfl (R1 Tryz.results84 () rfl (fun w hA => ⟨?_,?_,?_⟩)))))))
    ·(exact congrArg Value.bool (by first | (simp [Cmd.good,Cmd.part,Cmd.fit,Cmd.eqv,Cmd.base,Cmd.empty, *] <;> rfl) | (simp_all [Cmd.good,Cmd.part,Cmd.fit,Cmd.eqv,Cmd.base,Cmd.empty] <;> rfl)))
    ·trivial
    ·exact hA.keep (m:=[]) (Y:=[]) rfl
   intro h37
   replace h37:=dF h37
   refine NO rfl (NO rfl (NO rfl (PF rfl (MV rfl (NO rfl (NO rfl (PF rfl (AS rfl (NI [2] [_] rfl (WD 0 [] rfl (R1 Tryz.results84 () rfl (fun w hA => ⟨?_,?_,?_⟩))))))))))))
   ·(exact congrArg Value.bool (by first | (simp [Cmd.good,Cmd.part,Cmd.fit,Cmd.eqv,Cmd.base,Cmd.empty, *] <;> rfl) | (simp_all [Cmd.good,Cmd.part,Cmd.fit,Cmd.eqv,Cmd.base,Cmd.empty] <;> rfl)))
   ·trivial
   ·exact hA.keep (m:=[]) (Y:=[]) rfl
  intro h32
  (try simp only [decide_eq_true_eq,decide_eq_false_iff_not,Bool.not_eq_true',Bool.not_eq_false',Bool.not_eq_true,Bool.not_eq_false,Bool.true_eq_false,Bool.false_eq_true,not_false_eq_true,not_true_eq_false] at h32)
  refine NO rfl (NO rfl (NO rfl (PF rfl (MV rfl (NO rfl (NO rfl (NO rfl (PF rfl (MV rfl (NO rfl (NO rfl (PF rfl (AS rfl ?_)))))))))))))
  refine NI [2] [_] rfl (WD 0 [] rfl (R1 Tryz.results84 () rfl (fun w hA => ⟨?_,?_,?_⟩)))
  ·(exact congrArg Value.bool (by first | (simp [Cmd.good,Cmd.part,Cmd.fit,Cmd.eqv,Cmd.base,Cmd.empty, *] <;> rfl) | (simp_all [Cmd.good,Cmd.part,Cmd.fit,Cmd.eqv,Cmd.base,Cmd.empty] <;> rfl)))
  ·trivial
  ·exact hA.keep (m:=[]) (Y:=[]) rfl
 ·skip
  subst hc
  refine RG rfl (LA 0 [] [_,_,_,_,_,_,_,_] [] rfl (.loc _ _ _) Tryz.isAgg68 Tryz.sizeOf68 rfl (CB [] [_] rfl Tryz.call117 (fits_4 _ _ _ _ _ _ _) ?_))
  intro y26 hy26
  refine MV rfl (EX [_,_] rfl (EX [_,_] rfl (AO [_,_,_,_,_,_,_,_] Tryz.zeroValue68 rfl ?_)))
  intro g3
  refine SR 0 [] [_,_,_,_,_,_,_,_] [] [_,_,_,_,_,_,_,_] [_,_] [_,_,_,_,_,_,_,_] Tryz.sizeOf68 rfl (AS rfl (NI [4,3,1] [_,_,_] rfl (SQ (RG rfl (LA 2 [] [_,_,_,_,_,_,_,_] [] rfl (.loc _ _ _) Tryz.isAgg68 Tryz.sizeOf68 rfl (LA 0 [] [_,_,_,_,_,_,_,_] [] rfl (.loc _ _ _) Tryz.isAgg68 Tryz.sizeOf68 rfl (BN rfl eq68_eql (MV rfl (HO_split (d:=32) rfl ?_ ?_)))))))))
  ·intro h32
   (try simp only [decide_eq_true_eq,decide_eq_false_iff_not,Bool.not_eq_true',Bool.not_eq_false',Bool.not_eq_true,Bool.not_eq_false,Bool.true_eq_false,Bool.false_eq_true,not_false_eq_true,not_true_eq_false] at h32)
   refine FA 1 rfl Tryz.underlying68 rfl Tryz.sizeOf3 (LD 2 1 rfl Tryz.isAgg3 (BN rfl bin_gtr (PT rfl (MV rfl (HO_split (d:=37) rfl ?_ ?_)))))
   ·intro h37
    replace h37:=dT h37
    refine FA 2 rfl Tryz.underlying68 rfl Tryz.sizeOf3 (LD 2 2 rfl Tryz.isAgg3 (BN rfl bin_gtr (PT rfl (MV rfl (HO_split (d:=42) rfl ?_ ?_)))))
    ·intro h42
     replace h42:=dT h42
     refine MV rfl (HO_call (first:=[]) (capt:=[_]) (is:=[1]) (R:=[_,_]) rfl rfl rfl rfl rfl Tryz.call136 rfl (fits1_spec _ _ _ _ _ _ _ _ _) ?_)
     intro y44 hy44
     clear y44 hy44
     refine PT rfl (AS rfl (NI [2] [_] rfl (WD 0 [] rfl (R1 Tryz.results84 () rfl (fun w hA => ⟨?_,?_,?_⟩)))))
     ·(exact congrArg Value.bool (by first | (simp [Cmd.good,Cmd.part,Cmd.fit,Cmd.eqv,Cmd.base,Cmd.empty, *] <;> rfl) | (simp_all [Cmd.good,Cmd.part,Cmd.fit,Cmd.eqv,Cmd.base,Cmd.empty] <;> rfl)))
     ·trivial
     ·exact hA.keep (m:=[]) (Y:=[]) rfl
    intro h42
    replace h42:=dF h42
    refine NO rfl (NO rfl (PF rfl (AS rfl (NI [2] [_] rfl (WD 0 [] rfl (R1 Tryz.results84 () rfl (fun w hA => ⟨?_,?_,?_⟩)))))))
    ·(exact congrArg Value.bool (by first | (simp [Cmd.good,Cmd.part,Cmd.fit,Cmd.eqv,Cmd.base,Cmd.empty, *] <;> rfl) | (simp_all [Cmd.good,Cmd.part,Cmd.fit,Cmd.eqv,Cmd.base,Cmd.empty] <;> rfl)))
    ·trivial
    ·exact hA.keep (m:=[]) (Y:=[]) rfl
   intro h37
   replace h37:=dF h37
   refine NO rfl (NO rfl (NO rfl (PF rfl (MV rfl (NO rfl (NO rfl (PF rfl (AS rfl (NI [2] [_] rfl (WD 0 [] rfl (R1 Tryz.results84 () rfl (fun w hA => ⟨?_,?_,?_⟩))))))))))))
   ·(exact congrArg Value.bool (by first | (simp [Cmd.good,Cmd.part,Cmd.fit,Cmd.eqv,Cmd.base,Cmd.empty, *] <;> rfl) | (simp_all [Cmd.good,Cmd.part,Cmd.fit,Cmd.eqv,Cmd.base,Cmd.empty] <;> rfl)))
   ·trivial
   ·exact hA.keep (m:=[]) (Y:=[]) rfl
  intro h32
  (try simp only [decide_eq_true_eq,decide_eq_false_iff_not,Bool.not_eq_true',Bool.not_eq_false',Bool.not_eq_true,Bool.not_eq_false,Bool.true_eq_false,Bool.false_eq_true,not_false_eq_true,not_true_eq_false] at h32)
  refine NO rfl (NO rfl (NO rfl (PF rfl (MV rfl (NO rfl (NO rfl (NO rfl (PF rfl (MV rfl (NO rfl (NO rfl (PF rfl (AS rfl ?_)))))))))))))
  refine NI [2] [_] rfl (WD 0 [] rfl (R1 Tryz.results84 () rfl (fun w hA => ⟨?_,?_,?_⟩)))
  ·(exact congrArg Value.bool (by first | (simp [Cmd.good,Cmd.part,Cmd.fit,Cmd.eqv,Cmd.base,Cmd.empty, *] <;> rfl) | (simp_all [Cmd.good,Cmd.part,Cmd.fit,Cmd.eqv,Cmd.base,Cmd.empty] <;> rfl)))
  ·trivial
  ·exact hA.keep (m:=[]) (Y:=[]) rfl
 ·skip
  subst hc
  refine RG rfl (LA 0 [] [_,_,_,_,_,_,_,_] [] rfl (.loc _ _ _) Tryz.isAgg68 Tryz.sizeOf68 rfl (CB [] [_] rfl Tryz.call117 (fits_5 _ _ _ _ _ _ _) ?_))
  intro y26 hy26
  refine MV rfl (EX [_,_] rfl (EX [_,_] rfl (AO [_,_,_,_,_,_,_,_] Tryz.zeroValue68 rfl ?_)))
  intro g3
  refine SR 0 [] [_,_,_,_,_,_,_,_] [] [_,_,_,_,_,_,_,_] [_,_] [_,_,_,_,_,_,_,_] Tryz.sizeOf68 rfl (AS rfl (NI [4,3,1] [_,_,_] rfl (SQ (RG rfl (LA 2 [] [_,_,_,_,_,_,_,_] [] rfl (.loc _ _ _) Tryz.isAgg68 Tryz.sizeOf68 rfl (LA 0 [] [_,_,_,_,_,_,_,_] [] rfl (.loc _ _ _) Tryz.isAgg68 Tryz.sizeOf68 rfl (BN rfl eq68_eql (MV rfl (HO_split (d:=32) rfl ?_ ?_)))))))))
  ·intro h32
   (try simp only [decide_eq_true_eq,decide_eq_false_iff_not,Bool.not_eq_true',Bool.not_eq_false',Bool.not_eq_true,Bool.not_eq_false,Bool.true_eq_false,Bool.false_eq_true,not_false_eq_true,not_true_eq_false] at h32)
   refine FA 1 rfl Tryz.underlying68 rfl Tryz.sizeOf3 (LD 2 1 rfl Tryz.isAgg3 (BN rfl bin_gtr (PT rfl (MV rfl (HO_split (d:=37) rfl ?_ ?_)))))
   ·intro h37
    replace h37:=dT h37
    refine FA 2 rfl Tryz.underlying68 rfl Tryz.sizeOf3 (LD 2 2 rfl Tryz.isAgg3 (BN rfl bin_gtr (PT rfl (MV rfl (HO_split (d:=42) rfl ?_ ?_)))))
    ·intro h42
     replace h42:=dT h42
     refine MV rfl (HO_call (first:=[]) (capt:=[_]) (is:=[1]) (R:=[_,_]) rfl rfl rfl rfl rfl Tryz.call136 rfl (fits1_spec _ _ _ _ _ _ _ _ _) ?_)
     intro y44 hy44
     clear y44 hy44
     refine PT rfl (AS rfl (NI [2] [_] rfl (WD 0 [] rfl (R1 Tryz.results84 () rfl (fun w hA => ⟨?_,?_,?_⟩)))))
     ·(exact congrArg Value.bool (by first | (simp [Cmd.good,Cmd.part,Cmd.fit,Cmd.eqv,Cmd.base,Cmd.empty, *] <;> rfl) | (simp_all [Cmd.good,Cmd.part,Cmd.fit,Cmd.eqv,Cmd.base,Cmd.empty] <;> rfl)))
     ·trivial
     ·exact hA.keep (m:=[]) (Y:=[]) rfl
    intro h42
    replace h42:=dF h42
    refine NO rfl (NO rfl (PF rfl (AS rfl (NI [2] [_] rfl (WD 0 [] rfl (R1 Tryz.results84 () rfl (fun w hA => ⟨?_,?_,?_⟩)))))))
    ·(exact congrArg Value.bool (by first | (simp [Cmd.good,Cmd.part,Cmd.fit,Cmd.eqv,Cmd.base,Cmd.empty, *] <;> rfl) | (simp_all [Cmd.good,Cmd.part,Cmd.fit,Cmd.eqv,Cmd.base,Cmd.empty] <;> rfl)))
    ·trivial
    ·exact hA.keep (m:=[]) (Y:=[]) rfl
   intro h37
   replace h37:=dF h37
   refine NO rfl (NO rfl (NO rfl (PF rfl (MV rfl (NO rfl (NO rfl (PF rfl (AS rfl (NI [2] [_] rfl (WD 0 [] rfl (R1 Tryz.results84 () rfl (fun w hA => ⟨?_,?_,?_⟩))))))))))))
   ·(exact congrArg Value.bool (by first | (simp [Cmd.good,Cmd.part,Cmd.fit,Cmd.eqv,Cmd.base,Cmd.empty, *] <;> rfl) | (simp_all [Cmd.good,Cmd.part,Cmd.fit,Cmd.eqv,Cmd.base,Cmd.empty] <;> rfl)))
   ·trivial
   ·exact hA.keep (m:=[]) (Y:=[]) rfl
  intro h32
  (try simp only [decide_eq_true_eq,decide_eq_false_iff_not,Bool.not_eq_true',Bool.not_eq_false',Bool.not_eq_true,Bool.not_eq_false,Bool.true_eq_false,Bool.false_eq_true,not_false_eq_true,not_true_eq_false] at h32)
  refine NO rfl (NO rfl (NO rfl (PF rfl (MV rfl (NO rfl (NO rfl (NO rfl (PF rfl (MV rfl (NO rfl (NO rfl (PF rfl (AS rfl ?_)))))))))))))
  refine NI [2] [_] rfl (WD 0 [] rfl (R1 Tryz.results84 () rfl (fun w hA => ⟨?_,?_,?_⟩)))
  ·(exact congrArg Value.bool (by first | (simp [Cmd.good,Cmd.part,Cmd.fit,Cmd.eqv,Cmd.base,Cmd.empty, *] <;> rfl) | (simp_all [Cmd.good,Cmd.part,Cmd.fit,Cmd.eqv,Cmd.base,Cmd.empty] <;> rfl)))
  ·trivial
  ·exact hA.keep (m:=[]) (Y:=[]) rfl
 ·skip
  subst hc
  refine RG rfl (LA 0 [] [_,_,_,_,_,_,_,_] [] rfl (.loc _ _ _) Tryz.isAgg68 Tryz.sizeOf68 rfl (CB [] [_] rfl Tryz.call117 (fits_6 _ _ _ _ _ _ _) ?_))
  intro y26 hy26
  refine MV rfl (EX [_,_] rfl (EX [_,_] rfl (AO [_,_,_,_,_,_,_,_] Tryz.zeroValue68 rfl ?_)))
  intro g3
  refine SR 0 [] [_,_,_,_,_,_,_,_] [] [_,_,_,_,_,_,_,_] [_,_,_] [_,_,_,_,_,_,_,_] Tryz.sizeOf68 rfl (AS rfl (NI [4,3,1] [_,_,_] rfl (SQ (RG rfl (LA 3 [] [_,_,_,_,_,_,_,_] [] rfl (.loc _ _ _) Tryz.isAgg68 Tryz.sizeOf68 rfl (LA 0 [] [_,_,_,_,_,_,_,_] [] rfl (.loc _ _ _) Tryz.isAgg68 Tryz.sizeOf68 rfl (BN rfl eq68_eql (MV rfl (HO_split (d:=32) rfl ?_ ?_)))))))))
  ·intro h32
   (try simp only [decide_eq_true_eq,decide_eq_false_iff_not,Bool.not_eq_true',Bool.not_eq_false',Bool.not_eq_true,Bool.not_eq_false,Bool.true_eq_false,Bool.false_eq_true,not_false_eq_true,not_true_eq_false] at h32)
   refine FA 1 rfl Tryz.underlying68 rfl Tryz.sizeOf3 (LD 3 1 rfl Tryz.isAgg3 (BN rfl bin_gtr (PT rfl (MV rfl (HO_split (d:=37) rfl ?_ ?_)))))
   ·intro h37
    replace h37:=dT h37
    refine FA 2 rfl Tryz.underlying68 rfl Tryz.sizeOf3 (LD 3 2 rfl Tryz.isAgg3 (BN rfl bin_gtr (PT rfl (MV rfl (HO_split (d:=42) rfl ?_ ?_)))))
    ·intro h42
     replace h42:=dT h42
     refine MV rfl (HO_call (first:=[]) (capt:=[_,_]) (is:=[1,2]) (R:=[_,_]) rfl rfl rfl rfl rfl Tryz.call140 rfl (fits3_spec _ _ _ _ _ _ _ _ _ _) ?_)
     intro y44 hy44
     clear y44 hy44
     refine PT rfl (AS rfl (NI [2] [_] rfl (WD 0 [] rfl (R1 Tryz.results84 () rfl (fun w hA => ⟨?_,?_,?_⟩)))))
     ·(exact congrArg Value.bool (by first | (simp [Cmd.good,Cmd.part,Cmd.fit,Cmd.eqv,Cmd.base,Cmd.empty, *] <;> rfl) | (simp_all [Cmd.good,Cmd.part,Cmd.fit,Cmd.eqv,Cmd.base,Cmd.empty] <;> rfl)))
     ·trivial
     ·exact hA.keep (m:=[]) (Y:=[]) rfl
    intro h42
    replace h42:=dF h42
    refine NO rfl (NO rfl (PF rfl (AS rfl (NI [2] [_] rfl (WD 0 [] rfl (R1 Tryz.results84 () rfl (fun w hA => ⟨?_,?_,?_⟩)))))))
    ·(exact congrArg Value.bool (by first | (simp [Cmd.good,Cmd.part,Cmd.fit,Cmd.eqv,Cmd.base,Cmd.empty, *] <;> rfl) | (simp_all [Cmd.good,Cmd.part,Cmd.fit,Cmd.eqv,Cmd.base,Cmd.empty] <;> rfl)))
    ·trivial
    ·exact hA.keep (m:=[]) (Y:=[]) rfl
   intro h37
   replace h37:=dF h37
   refine NO rfl (NO rfl (NO rfl (PF rfl (MV rfl (NO rfl (NO rfl (PF rfl (AS rfl (NI [2] [_] rfl (WD 0 [] rfl (R1 Tryz.results84 () rfl (fun w hA => ⟨?_,?_,?_⟩))))))))))))
   ·(exact congrArg Value.bool (by first | (simp [Cmd.good,Cmd.part,Cmd.fit,Cmd.eqv,Cmd.base,Cmd.empty, *] <;> rfl) | (simp_all [Cmd.good,Cmd.part,Cmd.fit,Cmd.eqv,Cmd.base,Cmd.empty] <;> rfl)))
   ·trivial
   ·exact hA.keep (m:=[]) (Y:=[]) rfl
  intro h32
  (try simp only [decide_eq_true_eq,decide_eq_false_iff_not,Bool.not_eq_true',Bool.not_eq_false',Bool.not_eq_true,Bool.not_eq_false,Bool.true_eq_false,Bool.false_eq_true,not_false_eq_true,not_true_eq_false] at h32)
  refine NO rfl (NO rfl (NO rfl (PF rfl (MV rfl (NO rfl (NO rfl (NO rfl (PF rfl (MV rfl (NO rfl (NO rfl (PF rfl (AS rfl ?_)))))))))))))
  refine NI [2] [_] rfl (WD 0 [] rfl (R1 Tryz.results84 () rfl (fun w hA => ⟨?_,?_,?_⟩)))
  ·(exact congrArg Value.bool (by first | (simp [Cmd.good,Cmd.part,Cmd.fit,Cmd.eqv,Cmd.base,Cmd.empty, *] <;> rfl) | (simp_all [Cmd.good,Cmd.part,Cmd.fit,Cmd.eqv,Cmd.base,Cmd.empty] <;> rfl)))
  ·trivial
  ·exact hA.keep (m:=[]) (Y:=[]) rfl
 ·skip
  subst hc
  refine RG rfl (LA 0 [] [_,_,_,_,_,_,_,_] [] rfl (.loc _ _ _) Tryz.isAgg68 Tryz.sizeOf68 rfl (CB [] [_] rfl Tryz.call117 (fits_7 _ _ _ _ _ _ _) ?_))
  intro y26 hy26
  refine MV rfl (EX [_,_] rfl (EX [_,_] rfl (AO [_,_,_,_,_,_,_,_] Tryz.zeroValue68 rfl ?_)))
  intro g3
  refine SR 0 [] [_,_,_,_,_,_,_,_] [] [_,_,_,_,_,_,_,_] [_,_] [_,_,_,_,_,_,_,_] Tryz.sizeOf68 rfl (AS rfl (NI [4,3,1] [_,_,_] rfl (SQ (RG rfl (LA 2 [] [_,_,_,_,_,_,_,_] [] rfl (.loc _ _ _) Tryz.isAgg68 Tryz.sizeOf68 rfl (LA 0 [] [_,_,_,_,_,_,_,_] [] rfl (.loc _ _ _) Tryz.isAgg68 Tryz.sizeOf68 rfl (BN rfl eq68_eql (MV rfl (HO_split (d:=32) rfl ?_ ?_)))))))))
  ·intro h32
   (try simp only [decide_eq_true_eq,decide_eq_false_iff_not,Bool.not_eq_true',Bool.not_eq_false',Bool.not_eq_true,Bool.not_eq_false,Bool.true_eq_false,Bool.false_eq_true,not_false_eq_true,not_true_eq_false] at h32)
   refine FA 1 rfl Tryz.underlying68 rfl Tryz.sizeOf3 (LD 2 1 rfl Tryz.isAgg3 (BN rfl bin_gtr (PT rfl (MV rfl (HO_split (d:=37) rfl ?_ ?_)))))
   ·intro h37
    replace h37:=dT h37
    refine FA 2 rfl Tryz.underlying68 rfl Tryz.sizeOf3 (LD 2 2 rfl Tryz.isAgg3 (BN rfl bin_gtr (PT rfl (MV rfl (HO_split (d:=42) rfl ?_ ?_)))))
    ·intro h42
     replace h42:=dT h42
     refine MV rfl (HO_call (first:=[]) (capt:=[_]) (is:=[1]) (R:=[_,_]) rfl rfl rfl rfl rfl Tryz.call141 rfl (fits4_spec _ _ _ _ _ _ _ _ _) ?_)
     intro y44 hy44
     clear y44 hy44
     refine PT rfl (AS rfl (NI [2] [_] rfl (WD 0 [] rfl (R1 Tryz.results84 () rfl (fun w hA => ⟨?_,?_,?_⟩)))))
     ·(exact congrArg Value.bool (by first | (simp [Cmd.good,Cmd.part,Cmd.fit,Cmd.eqv,Cmd.base,Cmd.empty, *] <;> rfl) | (simp_all [Cmd.good,Cmd.part,Cmd.fit,Cmd.eqv,Cmd.base,Cmd.empty] <;> rfl)))
     ·trivial
     ·exact hA.keep (m:=[]) (Y:=[]) rfl
    intro h42
    replace h42:=dF h42
    refine NO rfl (NO rfl (PF rfl (AS rfl (NI [2] [_] rfl (WD 0 [] rfl (R1 Tryz.results84 () rfl (fun w hA => ⟨?_,?_,?_⟩)))))))
    ·(exact congrArg Value.bool (by first | (simp [Cmd.good,Cmd.part,Cmd.fit,Cmd.eqv,Cmd.base,Cmd.empty, *] <;> rfl) | (simp_all [Cmd.good,Cmd.part,Cmd.fit,Cmd.eqv,Cmd.base,Cmd.empty] <;> rfl)))
    ·trivial
    ·exact hA.keep (m:=[]) (Y:=[]) rfl
   intro h37
   replace h37:=dF h37
   refine NO rfl (NO rfl (NO rfl (PF rfl (MV rfl (NO rfl (NO rfl (PF rfl (AS rfl (NI [2] [_] rfl (WD 0 [] rfl (R1 Tryz.results84 () rfl (fun w hA => ⟨?_,?_,?_⟩))))))))))))
   ·(exact congrArg Value.bool (by first | (simp [Cmd.good,Cmd.part,Cmd.fit,Cmd.eqv,Cmd.base,Cmd.empty, *] <;> rfl) | (simp_all [Cmd.good,Cmd.part,Cmd.fit,Cmd.eqv,Cmd.base,Cmd.empty] <;> rfl)))
   ·trivial
   ·exact hA.keep (m:=[]) (Y:=[]) rfl
  intro h32
  (try simp only [decide_eq_true_eq,decide_eq_false_iff_not,Bool.not_eq_true',Bool.not_eq_false',Bool.not_eq_true,Bool.not_eq_false,Bool.true_eq_false,Bool.false_eq_true,not_false_eq_true,not_true_eq_false] at h32)
  refine NO rfl (NO rfl (NO rfl (PF rfl (MV rfl (NO rfl (NO rfl (NO rfl (PF rfl (MV rfl (NO rfl (NO rfl (PF rfl (AS rfl ?_)))))))))))))
  refine NI [2] [_] rfl (WD 0 [] rfl (R1 Tryz.results84 () rfl (fun w hA => ⟨?_,?_,?_⟩)))
  ·(exact congrArg Value.bool (by first | (simp [Cmd.good,Cmd.part,Cmd.fit,Cmd.eqv,Cmd.base,Cmd.empty, *] <;> rfl) | (simp_all [Cmd.good,Cmd.part,Cmd.fit,Cmd.eqv,Cmd.base,Cmd.empty] <;> rfl)))
  ·trivial
  ·exact hA.keep (m:=[]) (Y:=[]) rfl
 ·skip
  refine RG rfl (LA 0 [] [_,_,_,_,_,_,_,_] [] rfl (.loc _ _ _) Tryz.isAgg68 Tryz.sizeOf68 rfl (CB [] [_] rfl Tryz.call117 (fits_no _ _ _ _ _ _ _ _ ?_ ?_ ?_ ?_ ?_) ?_))
  ·exact hc.1
  ·exact hc.2.1
  ·exact hc.2.2.1
  ·exact hc.2.2.2.1
  ·exact hc.2.2.2.2
  intro y26 hy26
  refine MV rfl (EX [_,_] rfl (EX [_,_] rfl (AO [_,_,_,_,_,_,_,_] Tryz.zeroValue68 rfl ?_)))
  intro g3
  refine SR 0 [] [_,_,_,_,_,_,_,_] [] [_,_,_,_,_,_,_,_] [_] [_,_,_,_,_,_,_,_] Tryz.sizeOf68 rfl (AS rfl (NI [4,3,1] [_,_,_] rfl (SQ (RG rfl (LA 1 [] [_,_,_,_,_,_,_,_] [] rfl (.loc _ _ _) Tryz.isAgg68 Tryz.sizeOf68 rfl (LA 0 [] [_,_,_,_,_,_,_,_] [] rfl (.loc _ _ _) Tryz.isAgg68 Tryz.sizeOf68 rfl (BN rfl eq68_eql (MV rfl (HO_split (d:=32) rfl ?_ ?_)))))))))
  ·intro h32
   (try simp only [decide_eq_true_eq,decide_eq_false_iff_not,Bool.not_eq_true',Bool.not_eq_false',Bool.not_eq_true,Bool.not_eq_false,Bool.true_eq_false,Bool.false_eq_true,not_false_eq_true,not_true_eq_false] at h32)
   refine FA 1 rfl Tryz.underlying68 rfl Tryz.sizeOf3 (LD 1 1 rfl Tryz.isAgg3 (BN rfl bin_gtr (PT rfl (MV rfl (HO_split (d:=37) rfl ?_ ?_)))))
   ·intro h37
    replace h37:=dT h37
    refine FA 2 rfl Tryz.underlying68 rfl Tryz.sizeOf3 (LD 1 2 rfl Tryz.isAgg3 (BN rfl bin_gtr (PT rfl (MV rfl (HO_split (d:=42) rfl ?_ ?_)))))
    ·intro h42
     replace h42:=dT h42
     refine MV rfl (CB [] [_,_] rfl Tryz.call142 fits5_spec ?_)
     intro y44 hy44
     clear y44 hy44
     refine PT rfl (AS rfl (NI [2] [_] rfl (WD 0 [] rfl (R1 Tryz.results84 () rfl (fun w hA => ⟨?_,?_,?_⟩)))))
     ·(exact congrArg Value.bool (by first | (simp [Cmd.good,Cmd.part,Cmd.fit,Cmd.eqv,Cmd.base,Cmd.empty, *] <;> rfl) | (simp_all [Cmd.good,Cmd.part,Cmd.fit,Cmd.eqv,Cmd.base,Cmd.empty] <;> rfl)))
     ·trivial
     ·exact hA.keep (m:=[]) (Y:=[]) rfl
    intro h42
    replace h42:=dF h42
    refine NO rfl (NO rfl (PF rfl (AS rfl (NI [2] [_] rfl (WD 0 [] rfl (R1 Tryz.results84 () rfl (fun w hA => ⟨?_,?_,?_⟩)))))))
    ·(exact congrArg Value.bool (by first | (simp [Cmd.good,Cmd.part,Cmd.fit,Cmd.eqv,Cmd.base,Cmd.empty, *] <;> rfl) | (simp_all [Cmd.good,Cmd.part,Cmd.fit,Cmd.eqv,Cmd.base,Cmd.empty] <;> rfl)))
    ·trivial
    ·exact hA.keep (m:=[]) (Y:=[]) rfl
   intro h37
   replace h37:=dF h37
   refine NO rfl (NO rfl (NO rfl (PF rfl (MV rfl (NO rfl (NO rfl (PF rfl (AS rfl (NI [2] [_] rfl (WD 0 [] rfl (R1 Tryz.results84 () rfl (fun w hA => ⟨?_,?_,?_⟩))))))))))))
   ·(exact congrArg Value.bool (by first | (simp [Cmd.good,Cmd.part,Cmd.fit,Cmd.eqv,Cmd.base,Cmd.empty, *] <;> rfl) | (simp_all [Cmd.good,Cmd.part,Cmd.fit,Cmd.eqv,Cmd.base,Cmd.empty] <;> rfl)))
   ·trivial
   ·exact hA.keep (m:=[]) (Y:=[]) rfl
  intro h32
  (try simp only [decide_eq_true_eq,decide_eq_false_iff_not,Bool.not_eq_true',Bool.not_eq_false',Bool.not_eq_true,Bool.not_eq_false,Bool.true_eq_false,Bool.false_eq_true,not_false_eq_true,not_true_eq_false] at h32)
  refine NO rfl (NO rfl (NO rfl (PF rfl (MV rfl (NO rfl (NO rfl (NO rfl (PF rfl (MV rfl (NO rfl (NO rfl (PF rfl (AS rfl ?_)))))))))))))
  refine NI [2] [_] rfl (WD 0 [] rfl (R1 Tryz.results84 () rfl (fun w hA => ⟨?_,?_,?_⟩)))
  ·(exact congrArg Value.bool (by first | (simp [Cmd.good,Cmd.part,Cmd.fit,Cmd.eqv,Cmd.base,Cmd.empty, *] <;> rfl) | (simp_all [Cmd.good,Cmd.part,Cmd.fit,Cmd.eqv,Cmd.base,Cmd.empty] <;> rfl)))
  ·trivial
  ·exact hA.keep (m:=[]) (Y:=[]) rfl
end Go.Wk
