/- Contracts of the program's functions, each proved by walking its code. -/
import Derived.Test.YtdaphlemhmgncaaGreatKgref01b
import Derived.Test.YtdaphlemhmgncaaGreatCod5
import Derived.Test.YtdaphlemhmgncaaGreatWk17
set_option maxRecDepth 100000
set_option linter.unusedVariables false
set_option linter.unusedSimpArgs false
namespace Go.Wk.Frdr
open Go Go.RowKit Go.Proofs Go.Wk

end Go.Wk.Frdr
namespace Go.Wk
open Go Go.RowKit Go.Proofs Frdr 
theorem read_uint64_spec (T : TypeId) (g : Nat) (b : List UInt8) (w : Bool) (a : Option Addr) (c : Nat)  : Spec Tryz.prog 128 #[.pointer (some ⟨g,0,none⟩),.func (.func 129) #[] #[]] [.loc g [.slice a (b.length) c,.bool (w)] T,.dat kByte.sl (b) [.slice a (b.length) c]] (β:=Option Addr × Nat) (fun y => .int .u64 (((Cod.rd 0 (Cod.dec b) b w).1 : Int))) (fun y => True) (fun y => [.loc g [.slice y.1 (((Cod.rd 0 (Cod.dec b) b w).2.1).length) y.2,.bool ((Cod.rd 0 (Cod.dec b) b w).2.2)] T,.dat kByte.sl ((Cod.rd 0 (Cod.dec b) b w).2.1) [.slice y.1 (((Cod.rd 0 (Cod.dec b) b w).2.1).length) y.2]]):=by
 have hlen:=Cod.dec_len b
 refine Spec.enter (vs:=[_,_]) Tryz.func128 rfl Tryz.ntmps128 rfl (Nat.le_of_ble_eq_true rfl) (fun w0 ok0 => ?_)
 generalize hM0 : blks _ = M0
 refine SQ (RG rfl (AS rfl (NI [0,1] [_,_] rfl (SQ (RG rfl (AS rfl (HO_nil (SQ (SQ (RG rfl (MV rfl (BN (r:=.bool false) rfl (bin_ptr_eq_pn Tryz.runUnderlying127) ?_))))))))))))
 refine NI [9,5,0,1] [_,_,_,_] rfl (CF rfl (SK (SQ (RG rfl (MV rfl (MV rfl (NC rfl (FA 0 rfl Tryz.underlying108 rfl Tryz.sizeOf32 (LD 0 0 rfl Tryz.isAgg32 (DU 1 rfl (CB [0] [_,_] rfl Tryz.call129 (Get_spec _ _ _) ?_)))))))))))
 intro y17 hy17
 clear y17 hy17
 refine MV rfl (EX [_,_] rfl (EX [_,_] rfl (AS rfl (AS rfl (NI [7,6,5,0] [_,_,_,_] rfl (SQ (SQ (RG rfl (MV rfl (MV rfl (NC rfl (FA 1 rfl Tryz.underlying108 rfl Tryz.sizeOf4 ?_))))))))))))
 refine LD 0 1 rfl Tryz.isAgg4 (MV rfl (HO_split (d:=25) rfl ?_ ?_))
 ·intro h25
  refine NO rfl (NO rfl (PT rfl (NC rfl (FA 1 rfl Tryz.underlying108 rfl Tryz.sizeOf4 (SR 0 [_] [_] [] [_] [_] [_,_] Tryz.sizeOf4 rfl (NI [7,6,5,0] [_,_,_,_] rfl (SQ (RG rfl (MV rfl (NC rfl (FA 1 rfl Tryz.underlying108 rfl Tryz.sizeOf4 (LD 0 1 rfl Tryz.isAgg4 ?_))))))))))))
  refine NI [34,7,6,5,0] [_,_,_,_,_] rfl (CT rfl (SQ (RG rfl (MV rfl (NC rfl (FA 0 rfl Tryz.underlying108 rfl Tryz.sizeOf32 (SR 0 [] [_] [_] [_] [_] [_,_] Tryz.sizeOf32 rfl (NI [5] [_] rfl (WD 1 [_] rfl (SQ (RG rfl ?_)))))))))))
  refine MV rfl (AS rfl (NI [4] [_] rfl ?_))
  have hrd : (Cod.rd 0 (Cod.dec b) b w) = (0,[],true):=Cod.rd_bad (.inl h25)
  refine H_nilDat kByte (R1 Tryz.results128 (none,0) rfl (fun w hA => ⟨?_,?_,?_⟩))
  ·(rw [hrd] <;> rfl)
  ·trivial
  ·(rw [hrd];exact hA.only (is:=[0,0]) (Z:=[]) rfl)
 intro h25
 refine MV rfl (BN rfl bin_eql (PF rfl (NC rfl (FA 1 rfl Tryz.underlying108 rfl Tryz.sizeOf4 (SR 0 [_] [_] [] [_] [_] [_,_] Tryz.sizeOf4 rfl (NI [7,6,5,0] [_,_,_,_] rfl (SQ (RG rfl (MV rfl (NC rfl (FA 1 rfl Tryz.underlying108 rfl Tryz.sizeOf4 (LD 0 1 rfl Tryz.isAgg4 ?_))))))))))))
 refine NI [34,7,6,5,0] [_,_,_,_,_] rfl (H_cond rfl ?_ ?_)
 ·intro h34
  replace h34:=dT h34
  rw [decide_eq_true h34]
  refine SQ (RG rfl (MV rfl (NC rfl (FA 0 rfl Tryz.underlying108 rfl Tryz.sizeOf32 (SR 0 [] [_] [_] [_] [_] [_,_] Tryz.sizeOf32 rfl (NI [5] [_] rfl (WD 1 [_] rfl (SQ (RG rfl (MV rfl (AS rfl (HO_nil ?_))))))))))))
  refine EV [4] [_] rfl ?_
  have hrd : (Cod.rd 0 (Cod.dec b) b w) = (0,[],true):=Cod.rd_bad (.inr (by omega))
  refine H_nilDat kByte (R1 Tryz.results128 (none,0) rfl (fun w hA => ⟨?_,?_,?_⟩))
  ·(rw [hrd] <;> rfl)
  ·trivial
  ·(rw [hrd];exact hA.only (is:=[0,0]) (Z:=[]) rfl)
 intro h34
 replace h34:=dF h34
 rw [decide_eq_false h34]
 refine SK (SQ (RG rfl (MV rfl (MV rfl (NC rfl (FA 0 rfl Tryz.underlying108 rfl Tryz.sizeOf32 (LD 0 0 rfl Tryz.isAgg32 (MV rfl (HO_slice_l (i:=1) (l:=(Cod.dec b).2) rfl rfl rfl rfl ?_ Tryz.underlying32 Tryz.sizeOf5 rfl ?_ ?_)))))))))
 ·omega
 ·omega
 intro a45 c45
 refine NC rfl (FA 0 rfl Tryz.underlying108 rfl Tryz.sizeOf32 (SR 1 [] [_] [_] [_] [_,_] [_,_] Tryz.sizeOf32 rfl (NI [6] [_] rfl (WD 3 [_,_] rfl (SQ (RG rfl (MV rfl (AS rfl (NI [4] [_] rfl ?_)))))))))
 have hrd : (Cod.rd 0 (Cod.dec b) b w) = ((Cod.dec b).1,b.drop (Cod.dec b).2,false):=Cod.rd_good h25 (by omega)
 refine R1 Tryz.results128 (a45,c45) rfl (fun w hA => ⟨?_,?_,?_⟩)
 ·(rw [hrd] <;> rfl)
 ·trivial
 ·(rw [hrd];exact hA.keep (m:=[yy,yy]) (Y:=[_,_]) rfl)
theorem read_string_spec (T : TypeId) (g : Nat) (b : List UInt8) (w : Bool) (a : Option Addr) (c : Nat) (hb : b.length≤1099511627776) : Spec Tryz.prog 130 #[.pointer (some ⟨g,0,none⟩),.func (.func 131) #[] #[]] [.loc g [.slice a (b.length) c,.bool (w)] T,.dat kByte.sl (b) [.slice a (b.length) c]] (β:=Option Addr × Nat) (fun y => .string (⟨(Cod.rd [] (Cod.decT b) b w).1.toArray⟩)) (fun y => True) (fun y => [.loc g [.slice y.1 (((Cod.rd [] (Cod.decT b) b w).2.1).length) y.2,.bool ((Cod.rd [] (Cod.decT b) b w).2.2)] T,.dat kByte.sl ((Cod.rd [] (Cod.decT b) b w).2.1) [.slice y.1 (((Cod.rd [] (Cod.decT b) b w).2.1).length) y.2]]):=by
 have hlen:=Cod.decT_len b
 refine Spec.enter (vs:=[_,_]) Tryz.func130 rfl Tryz.ntmps130 rfl (Nat.le_of_ble_eq_true rfl) (fun w0 ok0 => ?_)
 generalize hM0 : blks _ = M0
 refine SQ (RG rfl (AS rfl (NI [0,1] [_,_] rfl (SQ (RG rfl (AS rfl (HO_nil (SQ (SQ (RG rfl (MV rfl (BN (r:=.bool false) rfl (bin_ptr_eq_pn Tryz.runUnderlying127) ?_))))))))))))
 refine NI [9,5,0,1] [_,_,_,_] rfl (CF rfl (SK (SQ (RG rfl (MV rfl (MV rfl (NC rfl (FA 0 rfl Tryz.underlying108 rfl Tryz.sizeOf32 (LD 0 0 rfl Tryz.isAgg32 (DU 1 rfl (CB [0] [_,_] rfl Tryz.call131 (GetText_spec _ _ _ ?_) ?_)))))))))))
 ·(first | omega | assumption | decide)
 intro y17 hy17
 clear y17 hy17
 refine MV rfl (EX [_,_] rfl (EX [_,_] rfl (AS rfl (AS rfl (NI [7,6,5,0] [_,_,_,_] rfl (SQ (SQ (RG rfl (MV rfl (MV rfl (NC rfl (FA 1 rfl Tryz.underlying108 rfl Tryz.sizeOf4 ?_))))))))))))
 refine LD 0 1 rfl Tryz.isAgg4 (MV rfl (HO_split (d:=25) rfl ?_ ?_))
 ·intro h25
  refine NO rfl (NO rfl (PT rfl (NC rfl (FA 1 rfl Tryz.underlying108 rfl Tryz.sizeOf4 (SR 0 [_] [_] [] [_] [_] [_,_] Tryz.sizeOf4 rfl (NI [7,6,5,0] [_,_,_,_] rfl (SQ (RG rfl (MV rfl (NC rfl (FA 1 rfl Tryz.underlying108 rfl Tryz.sizeOf4 (LD 0 1 rfl Tryz.isAgg4 ?_))))))))))))
  refine NI [34,7,6,5,0] [_,_,_,_,_] rfl (CT rfl (SQ (RG rfl (MV rfl (NC rfl (FA 0 rfl Tryz.underlying108 rfl Tryz.sizeOf32 (SR 0 [] [_] [_] [_] [_] [_,_] Tryz.sizeOf32 rfl (NI [5] [_] rfl (WD 1 [_] rfl (SQ (RG rfl ?_)))))))))))
  refine MV rfl (AS rfl (NI [4] [_] rfl ?_))
  have hrd : (Cod.rd [] (Cod.decT b) b w) = ([],[],true):=Cod.rd_bad (.inl h25)
  refine H_nilDat kByte (R1 Tryz.results130 (none,0) rfl (fun w hA => ⟨?_,?_,?_⟩))
  ·(rw [hrd] <;> rfl)
  ·trivial
  ·(rw [hrd];exact hA.only (is:=[0,0]) (Z:=[]) rfl)
 intro h25
 refine MV rfl (BN rfl bin_eql (PF rfl (NC rfl (FA 1 rfl Tryz.underlying108 rfl Tryz.sizeOf4 (SR 0 [_] [_] [] [_] [_] [_,_] Tryz.sizeOf4 rfl (NI [7,6,5,0] [_,_,_,_] rfl (SQ (RG rfl (MV rfl (NC rfl (FA 1 rfl Tryz.underlying108 rfl Tryz.sizeOf4 (LD 0 1 rfl Tryz.isAgg4 ?_))))))))))))
 refine NI [34,7,6,5,0] [_,_,_,_,_] rfl (H_cond rfl ?_ ?_)
 ·intro h34
  replace h34:=dT h34
  rw [decide_eq_true h34]
  refine SQ (RG rfl (MV rfl (NC rfl (FA 0 rfl Tryz.underlying108 rfl Tryz.sizeOf32 (SR 0 [] [_] [_] [_] [_] [_,_] Tryz.sizeOf32 rfl (NI [5] [_] rfl (WD 1 [_] rfl (SQ (RG rfl (MV rfl (AS rfl (HO_nil ?_))))))))))))
  refine EV [4] [_] rfl ?_
  have hrd : (Cod.rd [] (Cod.decT b) b w) = ([],[],true):=Cod.rd_bad (.inr (by omega))
  refine H_nilDat kByte (R1 Tryz.results130 (none,0) rfl (fun w hA => ⟨?_,?_,?_⟩))
  ·(rw [hrd] <;> rfl)
  ·trivial
  ·(rw [hrd];exact hA.only (is:=[0,0]) (Z:=[]) rfl)
 intro h34
 replace h34:=dF h34
 rw [decide_eq_false h34]
 refine SK (SQ (RG rfl (MV rfl (MV rfl (NC rfl (FA 0 rfl Tryz.underlying108 rfl Tryz.sizeOf32 (LD 0 0 rfl Tryz.isAgg32 (MV rfl (HO_slice_l (i:=1) (l:=(Cod.decT b).2) rfl rfl rfl rfl ?_ Tryz.underlying32 Tryz.sizeOf5 rfl ?_ ?_)))))))))
 ·omega
 ·omega
 intro a45 c45
 refine NC rfl (FA 0 rfl Tryz.underlying108 rfl Tryz.sizeOf32 (SR 1 [] [_] [_] [_] [_,_] [_,_] Tryz.sizeOf32 rfl (NI [6] [_] rfl (WD 3 [_,_] rfl (SQ (RG rfl (MV rfl (AS rfl (NI [4] [_] rfl ?_)))))))))
 have hrd : (Cod.rd [] (Cod.decT b) b w) = ((Cod.decT b).1,b.drop (Cod.decT b).2,false):=Cod.rd_good h25 (by omega)
 refine R1 Tryz.results130 (a45,c45) rfl (fun w hA => ⟨?_,?_,?_⟩)
 ·(rw [hrd] <;> rfl)
 ·trivial
 ·(rw [hrd];exact hA.keep (m:=[yy,yy]) (Y:=[_,_]) rfl)
theorem read_bool_spec (T : TypeId) (g : Nat) (b : List UInt8) (w : Bool) (a : Option Addr) (c : Nat)  : Spec Tryz.prog 99 #[.pointer (some ⟨g,0,none⟩),.func (.func 100) #[] #[]] [.loc g [.slice a (b.length) c,.bool (w)] T,.dat kByte.sl (b) [.slice a (b.length) c]] (β:=Option Addr × Nat) (fun y => .bool ((Cod.rd false (Cod.decB b) b w).1)) (fun y => True) (fun y => [.loc g [.slice y.1 (((Cod.rd false (Cod.decB b) b w).2.1).length) y.2,.bool ((Cod.rd false (Cod.decB b) b w).2.2)] T,.dat kByte.sl ((Cod.rd false (Cod.decB b) b w).2.1) [.slice y.1 (((Cod.rd false (Cod.decB b) b w).2.1).length) y.2]]):=by
 have hlen:=Cod.decB_len b
 refine Spec.enter (vs:=[_,_]) Tryz.func99 rfl Tryz.ntmps99 rfl (Nat.le_of_ble_eq_true rfl) (fun w0 ok0 => ?_)
 generalize hM0 : blks _ = M0
 refine SQ (RG rfl (AS rfl (NI [0,1] [_,_] rfl (SQ (RG rfl (AS rfl (HO_nil (SQ (SQ (RG rfl (MV rfl (BN (r:=.bool false) rfl (bin_ptr_eq_pn Tryz.runUnderlying127) ?_))))))))))))
 refine NI [9,5,0,1] [_,_,_,_] rfl (CF rfl (SK (SQ (RG rfl (MV rfl (MV rfl (NC rfl (FA 0 rfl Tryz.underlying108 rfl Tryz.sizeOf32 (LD 0 0 rfl Tryz.isAgg32 (DU 1 rfl (CB [0] [_,_] rfl Tryz.call100 (GetBool_spec _ _ _) ?_)))))))))))
 intro y17 hy17
 clear y17 hy17
 refine MV rfl (EX [_,_] rfl (EX [_,_] rfl (AS rfl (AS rfl (NI [7,6,5,0] [_,_,_,_] rfl (SQ (SQ (RG rfl (MV rfl (MV rfl (NC rfl (FA 1 rfl Tryz.underlying108 rfl Tryz.sizeOf4 ?_))))))))))))
 refine LD 0 1 rfl Tryz.isAgg4 (MV rfl (HO_split (d:=25) rfl ?_ ?_))
 ·intro h25
  refine NO rfl (NO rfl (PT rfl (NC rfl (FA 1 rfl Tryz.underlying108 rfl Tryz.sizeOf4 (SR 0 [_] [_] [] [_] [_] [_,_] Tryz.sizeOf4 rfl (NI [7,6,5,0] [_,_,_,_] rfl (SQ (RG rfl (MV rfl (NC rfl (FA 1 rfl Tryz.underlying108 rfl Tryz.sizeOf4 (LD 0 1 rfl Tryz.isAgg4 ?_))))))))))))
  refine NI [34,7,6,5,0] [_,_,_,_,_] rfl (CT rfl (SQ (RG rfl (MV rfl (NC rfl (FA 0 rfl Tryz.underlying108 rfl Tryz.sizeOf32 (SR 0 [] [_] [_] [_] [_] [_,_] Tryz.sizeOf32 rfl (NI [5] [_] rfl (WD 1 [_] rfl (SQ (RG rfl ?_)))))))))))
  refine MV rfl (AS rfl (NI [4] [_] rfl ?_))
  have hrd : (Cod.rd false (Cod.decB b) b w) = (false,[],true):=Cod.rd_bad (.inl h25)
  refine H_nilDat kByte (R1 Tryz.results99 (none,0) rfl (fun w hA => ⟨?_,?_,?_⟩))
  ·(rw [hrd] <;> rfl)
  ·trivial
  ·(rw [hrd];exact hA.only (is:=[0,0]) (Z:=[]) rfl)
 intro h25
 refine MV rfl (BN rfl bin_eql (PF rfl (NC rfl (FA 1 rfl Tryz.underlying108 rfl Tryz.sizeOf4 (SR 0 [_] [_] [] [_] [_] [_,_] Tryz.sizeOf4 rfl (NI [7,6,5,0] [_,_,_,_] rfl (SQ (RG rfl (MV rfl (NC rfl (FA 1 rfl Tryz.underlying108 rfl Tryz.sizeOf4 (LD 0 1 rfl Tryz.isAgg4 ?_))))))))))))
 refine NI [34,7,6,5,0] [_,_,_,_,_] rfl (H_cond rfl ?_ ?_)
 ·intro h34
  replace h34:=dT h34
  rw [decide_eq_true h34]
  refine SQ (RG rfl (MV rfl (NC rfl (FA 0 rfl Tryz.underlying108 rfl Tryz.sizeOf32 (SR 0 [] [_] [_] [_] [_] [_,_] Tryz.sizeOf32 rfl (NI [5] [_] rfl (WD 1 [_] rfl (SQ (RG rfl (MV rfl (AS rfl (HO_nil ?_))))))))))))
  refine EV [4] [_] rfl ?_
  have hrd : (Cod.rd false (Cod.decB b) b w) = (false,[],true):=Cod.rd_bad (.inr (by omega))
  refine H_nilDat kByte (R1 Tryz.results99 (none,0) rfl (fun w hA => ⟨?_,?_,?_⟩))
  ·(rw [hrd] <;> rfl)
  ·trivial
  ·(rw [hrd];exact hA.only (is:=[0,0]) (Z:=[]) rfl)
 intro h34
 replace h34:=dF h34
 rw [decide_eq_false h34]
 refine SK (SQ (RG rfl (MV rfl (MV rfl (NC rfl (FA 0 rfl Tryz.underlying108 rfl Tryz.sizeOf32 (LD 0 0 rfl Tryz.isAgg32 (MV rfl (HO_slice_l (i:=1) (l:=(Cod.decB b).2) rfl rfl rfl rfl ?_ Tryz.underlying32 Tryz.sizeOf5 rfl ?_ ?_)))))))))
 ·omega
 ·omega
 intro a45 c45
 refine NC rfl (FA 0 rfl Tryz.underlying108 rfl Tryz.sizeOf32 (SR 1 [] [_] [_] [_] [_,_] [_,_] Tryz.sizeOf32 rfl (NI [6] [_] rfl (WD 3 [_,_] rfl (SQ (RG rfl (MV rfl (AS rfl (NI [4] [_] rfl ?_)))))))))
 have hrd : (Cod.rd false (Cod.decB b) b w) = ((Cod.decB b).1,b.drop (Cod.decB b).2,false):=Cod.rd_good h25 (by omega)
 refine R1 Tryz.results99 (a45,c45) rfl (fun w hA => ⟨?_,?_,?_⟩)
 ·(rw [hrd] <;> rfl)
 ·trivial
 ·(rw [hrd];exact hA.keep (m:=[yy,yy]) (Y:=[_,_]) rfl)
theorem cNum_spec (T : TypeId) (g : Nat) (b : List UInt8) (w : Bool) (a : Option Addr) (c : Nat)  : Spec Tryz.prog 98 #[.pointer (some ⟨g,0,none⟩)] [.loc g [.slice a (b.length) c,.bool (w)] T,.dat kByte.sl (b) [.slice a (b.length) c]] (β:=Option Addr × Nat) (fun y => .int .u64 (((Cod.rd 0 (Cod.dec b) b w).1 : Int))) (fun y => True) (fun y => [.loc g [.slice y.1 (((Cod.rd 0 (Cod.dec b) b w).2.1).length) y.2,.bool ((Cod.rd 0 (Cod.dec b) b w).2.2)] T,.dat kByte.sl ((Cod.rd 0 (Cod.dec b) b w).2.1) [.slice y.1 (((Cod.rd 0 (Cod.dec b) b w).2.1).length) y.2]]):=by
 refine Spec.enter (vs:=[_]) Tryz.func98 rfl Tryz.ntmps98 rfl (Nat.le_of_ble_eq_true rfl) (fun w0 ok0 => ?_)
 generalize hM0 : blks _ = M0
 refine SQ (RG rfl (AS rfl (NI [0] [_] rfl (SQ (RG rfl (MV rfl (DU 1 rfl (CB [0,0] [_] rfl Tryz.call128 (read_uint64_spec _ _ _ _ _ _) ?_))))))))
 intro y4 hy4
 refine AS rfl (NI [2] [_] rfl (WD 3 [_,_] rfl (R1 Tryz.results98 y4 rfl (fun w hA => ⟨?_,?_,?_⟩))))
 ·rfl
 ·trivial
 ·exact hA.keep (m:=[yy,yy]) (Y:=[_,_]) rfl
theorem cText_spec (T : TypeId) (g : Nat) (b : List UInt8) (w : Bool) (a : Option Addr) (c : Nat) (hb : b.length≤1099511627776) : Spec Tryz.prog 103 #[.pointer (some ⟨g,0,none⟩)] [.loc g [.slice a (b.length) c,.bool (w)] T,.dat kByte.sl (b) [.slice a (b.length) c]] (β:=Option Addr × Nat) (fun y => .string (⟨(Cod.rd [] (Cod.decT b) b w).1.toArray⟩)) (fun y => True) (fun y => [.loc g [.slice y.1 (((Cod.rd [] (Cod.decT b) b w).2.1).length) y.2,.bool ((Cod.rd [] (Cod.decT b) b w).2.2)] T,.dat kByte.sl ((Cod.rd [] (Cod.decT b) b w).2.1) [.slice y.1 (((Cod.rd [] (Cod.decT b) b w).2.1).length) y.2]]):=by
 refine Spec.enter (vs:=[_]) Tryz.func103 rfl Tryz.ntmps103 rfl (Nat.le_of_ble_eq_true rfl) (fun w0 ok0 => ?_)
 generalize hM0 : blks _ = M0
 refine SQ (RG rfl (AS rfl (NI [0] [_] rfl (SQ (RG rfl (MV rfl (DU 1 rfl (CB [0,0] [_] rfl Tryz.call130 (read_string_spec _ _ _ _ _ _ ?_) ?_))))))))
 ·(first | omega | assumption | decide)
 intro y4 hy4
 refine AS rfl (NI [2] [_] rfl (WD 3 [_,_] rfl (R1 Tryz.results103 y4 rfl (fun w hA => ⟨?_,?_,?_⟩))))
 ·rfl
 ·trivial
 ·exact hA.keep (m:=[yy,yy]) (Y:=[_,_]) rfl
theorem cBool_spec (T : TypeId) (g : Nat) (b : List UInt8) (w : Bool) (a : Option Addr) (c : Nat)  : Spec Tryz.prog 70 #[.pointer (some ⟨g,0,none⟩)] [.loc g [.slice a (b.length) c,.bool (w)] T,.dat kByte.sl (b) [.slice a (b.length) c]] (β:=Option Addr × Nat) (fun y => .bool ((Cod.rd false (Cod.decB b) b w).1)) (fun y => True) (fun y => [.loc g [.slice y.1 (((Cod.rd false (Cod.decB b) b w).2.1).length) y.2,.bool ((Cod.rd false (Cod.decB b) b w).2.2)] T,.dat kByte.sl ((Cod.rd false (Cod.decB b) b w).2.1) [.slice y.1 (((Cod.rd false (Cod.decB b) b w).2.1).length) y.2]]):=by
 refine Spec.enter (vs:=[_]) Tryz.func70 rfl Tryz.ntmps70 rfl (Nat.le_of_ble_eq_true rfl) (fun w0 ok0 => ?_)
 generalize hM0 : blks _ = M0
 refine SQ (RG rfl (AS rfl (NI [0] [_] rfl (SQ (RG rfl (MV rfl (DU 1 rfl (CB [0,0] [_] rfl Tryz.call99 (read_bool_spec _ _ _ _ _ _) ?_))))))))
 intro y4 hy4
 refine AS rfl (NI [2] [_] rfl (WD 3 [_,_] rfl (R1 Tryz.results70 y4 rfl (fun w hA => ⟨?_,?_,?_⟩))))
 ·rfl
 ·trivial
 ·exact hA.keep (m:=[yy,yy]) (Y:=[_,_]) rfl
theorem cInt_spec (T : TypeId) (g : Nat) (b : List UInt8) (w : Bool) (a : Option Addr) (c : Nat)  : Spec Tryz.prog 69 #[.pointer (some ⟨g,0,none⟩)] [.loc g [.slice a (b.length) c,.bool (w)] T,.dat kByte.sl (b) [.slice a (b.length) c]] (β:=Option Addr × Nat) (fun y => .int .i64 ((Cod.zag (Cod.rd 0 (Cod.dec b) b w).1))) (fun y => True) (fun y => [.loc g [.slice y.1 (((Cod.rd 0 (Cod.dec b) b w).2.1).length) y.2,.bool ((Cod.rd 0 (Cod.dec b) b w).2.2)] T,.dat kByte.sl ((Cod.rd 0 (Cod.dec b) b w).2.1) [.slice y.1 (((Cod.rd 0 (Cod.dec b) b w).2.1).length) y.2]]):=by
 refine Spec.enter (vs:=[_]) Tryz.func69 rfl Tryz.ntmps69 rfl (Nat.le_of_ble_eq_true rfl) (fun w0 ok0 => ?_)
 generalize hM0 : blks _ = M0
 refine SQ (RG rfl (AS rfl (NI [0] [_] rfl (SQ (RG rfl (MV rfl (DU 1 rfl (CB [0,0] [_] rfl Tryz.call98 (cNum_spec _ _ _ _ _ _) ?_))))))))
 intro y4 hy4
 refine CB [] [_,_,_] rfl Tryz.call97 (zag_spec _ ?_) ?_
 ·(exact Cod.rd_lt b w)
 intro y5 hy5
 clear y5 hy5
 refine AS rfl (NI [2] [_] rfl (WD 3 [_,_] rfl (R1 Tryz.results69 y4 rfl (fun w hA => ⟨?_,?_,?_⟩))))
 ·rfl
 ·trivial
 ·exact hA.keep (m:=[yy,yy]) (Y:=[_,_]) rfl
theorem cCount_spec (T : TypeId) (g : Nat) (b : List UInt8) (w : Bool) (a : Option Addr) (c : Nat) (k : Int) (hk : -9223372036854775808≤k∧k≤9223372036854775807) : Spec Tryz.prog 101 #[.pointer (some ⟨g,0,none⟩),.int .i64 (k)] [.loc g [.slice a (b.length) c,.bool (w)] T,.dat kByte.sl (b) [.slice a (b.length) c]] (β:=Option Addr × Nat) (fun y => .int .i64 (((Cod.cnt k b w).1 : Int))) (fun y => True) (fun y => [.loc g [.slice y.1 (((Cod.cnt k b w).2.1).length) y.2,.bool ((Cod.cnt k b w).2.2)] T,.dat kByte.sl ((Cod.cnt k b w).2.1) [.slice y.1 (((Cod.cnt k b w).2.1).length) y.2]]):=by
 have hlt:=Cod.rd_lt b w
 refine Spec.enter (vs:=[_,_]) Tryz.func101 rfl Tryz.ntmps101 rfl (Nat.le_of_ble_eq_true rfl) (fun w0 ok0 => ?_)
 generalize hM0 : blks _ = M0
 refine SQ (RG rfl (AS rfl (NI [0,1] [_,_] rfl (SQ (RG rfl (MV rfl (HO_makeFunc (vs:=[_]) (us:=[]) rfl rfl rfl rfl (AS rfl (NI [5,0,1] [_,_,_] rfl (SQ (RG rfl ?_)))))))))))
 refine MV rfl (DU 1 rfl (HO_call (first:=[_]) (capt:=[]) (is:=[0,0]) (R:=[_]) rfl rfl rfl rfl rfl Tryz.call98 rfl (cNum_spec _ _ _ _ _ _) ?_))
 intro y10 hy10
 refine AS rfl (NI [6,0,1] [_,_,_] rfl (WD 3 [_,_] rfl (SQ (SQ (RG rfl (MV rfl (BN (r:=.bool false) rfl (bin_ptr_eq_pn Tryz.runUnderlying127) (MV rfl (MV rfl (BN rfl bin_lss (PF rfl (MV rfl ?_))))))))))))
 refine HO_split (d:=17) rfl ?_ ?_
 ·intro h17
  replace h17:=dT h17
  refine NO rfl (NO rfl (NO rfl (NO rfl (PT rfl (NI [22,6,0] [_,_,_] rfl (CT rfl (SQ (SQ (RG rfl (MV rfl (BN (r:=.bool true) rfl (bin_ptr_ne_pn Tryz.runUnderlying127) (HO_nil ?_))))))))))))
  refine EV [24,0] [_,_] rfl (CT rfl (RG rfl (MV rfl (MV rfl (NC rfl (FA 0 rfl Tryz.underlying108 rfl Tryz.sizeOf32 (SR 0 [] [_] [_] [_] [_] [_,_] Tryz.sizeOf32 rfl (NC rfl (FA 1 rfl Tryz.underlying108 rfl Tryz.sizeOf4 (SR 0 [_] [_] [] [_] [_] [_,_] Tryz.sizeOf4 rfl (NI [] [] rfl (WD 1 [_] rfl ?_))))))))))))
  refine SQ (RG rfl (AS rfl (HO_nil ?_)))
  have hrd : (Cod.cnt k b w) = (0,[],true):=Cod.cnt_bad (.inl (by omega))
  refine H_nilDat kByte (R1 Tryz.results101 (none,0) rfl (fun w hA => ⟨?_,?_,?_⟩))
  ·(rw [hrd] <;> rfl)
  ·trivial
  ·(rw [hrd];exact hA.only (is:=[0,0]) (Z:=[]) rfl)
 intro h17
 replace h17:=dF h17
 refine MV rfl (MV rfl (CV rfl (cv_int Tryz.underlying3 Tryz.underlying97 (wrap_u_i rfl _)) (HO_set (v':=.int .u64 (((k.toNat : Nat) : Int))) 20 rfl (by exact congrArg (Value.int .u64) (by simp only [IntKind.bits];omega)) (BN rfl bin_gtr (PF rfl (NI [22,6,0] [_,_,_] rfl (H_cond rfl ?_ ?_)))))))
 ·intro h22
  replace h22:=dT h22
  refine SQ (SQ (RG rfl (MV rfl (BN (r:=.bool true) rfl (bin_ptr_ne_pn Tryz.runUnderlying127) (NI [24,0] [_,_] rfl (CT rfl (RG rfl (MV rfl (MV rfl (NC rfl (FA 0 rfl Tryz.underlying108 rfl Tryz.sizeOf32 (SR 0 [] [_] [_] [_] [_] [_,_] Tryz.sizeOf32 rfl ?_))))))))))))
  refine NC rfl (FA 1 rfl Tryz.underlying108 rfl Tryz.sizeOf4 (SR 0 [_] [_] [] [_] [_] [_,_] Tryz.sizeOf4 rfl (NI [] [] rfl (WD 1 [_] rfl (SQ (RG rfl (AS rfl (HO_nil ?_))))))))
  have hrd : (Cod.cnt k b w) = (0,[],true):=Cod.cnt_bad (.inr (by omega))
  refine H_nilDat kByte (R1 Tryz.results101 (none,0) rfl (fun w hA => ⟨?_,?_,?_⟩))
  ·(rw [hrd] <;> rfl)
  ·trivial
  ·(rw [hrd];exact hA.only (is:=[0,0]) (Z:=[]) rfl)
 intro h22
 replace h22:=dF h22
 refine SK (SQ (RG rfl (MV rfl (CV rfl (cv_int Tryz.underlying97 Tryz.underlying3 (wrap_i64_nat ?_)) ?_))))
 ·omega
 refine AS rfl (NI [4] [_] rfl ?_)
 have hrd : (Cod.cnt k b w) = ((Cod.rd 0 (Cod.dec b) b w).1,(Cod.rd 0 (Cod.dec b) b w).2.1,(Cod.rd 0 (Cod.dec b) b w).2.2):=Cod.cnt_good (by omega) (by omega)
 refine R1 Tryz.results101 y10 rfl (fun w hA => ⟨?_,?_,?_⟩)
 ·(rw [hrd])
 ·trivial
 ·(rw [hrd];exact hA.keep (m:=[yy,yy]) (Y:=[_,_]) rfl)
theorem cEnd_spec (T : TypeId) (g : Nat) (b : List UInt8) (w : Bool) (a : Option Addr) (c : Nat)  : Spec Tryz.prog 106 #[.pointer (some ⟨g,0,none⟩)] [.loc g [.slice a (b.length) c,.bool (w)] T,.dat kByte.sl (b) [.slice a (b.length) c]] (β:=Unit) (fun y => .bool ((Cod.rend b w))) (fun y => True) (fun y => [.loc g [.slice a (b.length) c,.bool (w)] T]):=by
 refine Spec.enter (vs:=[_]) Tryz.func106 rfl Tryz.ntmps106 rfl (Nat.le_of_ble_eq_true rfl) (fun w0 ok0 => ?_)
 generalize hM0 : blks _ = M0
 refine SQ (RG rfl (AS rfl (NI [0] [_] rfl (SQ (RG rfl (MV rfl (BN (r:=.bool true) rfl (bin_ptr_ne_pn Tryz.runUnderlying127) (MV rfl (MV rfl (NC rfl (FA 1 rfl Tryz.underlying108 rfl Tryz.sizeOf4 (LD 0 1 rfl Tryz.isAgg4 ?_))))))))))))
 refine NT rfl (PT rfl (MV rfl (HO_split (d:=12) rfl ?_ ?_)))
 ·intro h12
  replace h12:=nT h12
  refine MV rfl (NC rfl (FA 0 rfl Tryz.underlying108 rfl Tryz.sizeOf32 (LD 0 0 rfl Tryz.isAgg32 (BI rfl (bi_len_sl Tryz.underlying32) (BN rfl bin_eql (PT rfl (AS rfl (NI [2] [_] rfl (R1 Tryz.results106 () rfl (fun w hA => ⟨?_,?_,?_⟩))))))))))
  ·(first | exact congrArg Value.bool (Cod.rend_t h12) | exact congrArg Value.bool (Cod.rend_f h12) | exact congrArg Value.bool (Cod.rend_t h8) | exact congrArg Value.bool (Cod.rend_f h8))
  ·trivial
  ·exact hA.keep (m:=[yy,nn]) (Y:=[_]) rfl
 intro h12
 replace h12:=nF h12
 refine NO rfl (NO rfl (NO rfl (NO rfl (NO rfl (NO rfl (PF rfl (AS rfl (NI [2] [_] rfl (R1 Tryz.results106 () rfl (fun w hA => ⟨?_,?_,?_⟩))))))))))
 ·(first | exact congrArg Value.bool (Cod.rend_t h12) | exact congrArg Value.bool (Cod.rend_f h12) | exact congrArg Value.bool (Cod.rend_t h8) | exact congrArg Value.bool (Cod.rend_f h8))
 ·trivial
 ·exact hA.keep (m:=[yy,nn]) (Y:=[_]) rfl
theorem rEnd_spec (T : TypeId) (g : Nat) (b : List UInt8) (w : Bool) (a : Option Addr) (c : Nat)  : Spec Tryz.prog 81 #[.pointer (some ⟨g,0,none⟩)] [.loc g [.slice a (b.length) c,.bool (w)] T,.dat kByte.sl (b) [.slice a (b.length) c]] (β:=Unit) (fun y => .bool ((Cod.rend b w))) (fun y => True) (fun y => [.loc g [.slice a (b.length) c,.bool (w)] T]):=by
 refine Spec.enter (vs:=[_]) Tryz.func81 rfl Tryz.ntmps81 rfl (Nat.le_of_ble_eq_true rfl) (fun w0 ok0 => ?_)
 generalize hM0 : blks _ = M0
 refine SQ (RG rfl (AS rfl (NI [0] [_] rfl (SQ (RG rfl (MV rfl (NC rfl (FA 1 rfl Tryz.underlying117 rfl Tryz.sizeOf4 (LD 0 1 rfl Tryz.isAgg4 (NT rfl (MV rfl (HO_split (d:=8) rfl ?_ ?_))))))))))))
 ·intro h8
  replace h8:=nT h8
  refine MV rfl (NC rfl (FA 0 rfl Tryz.underlying117 rfl Tryz.sizeOf32 (LD 0 0 rfl Tryz.isAgg32 (BI rfl (bi_len_sl Tryz.underlying32) (BN rfl bin_eql (PT rfl (AS rfl (NI [2] [_] rfl (R1 Tryz.results81 () rfl (fun w hA => ⟨?_,?_,?_⟩))))))))))
  ·(first | exact congrArg Value.bool (Cod.rend_t h12) | exact congrArg Value.bool (Cod.rend_f h12) | exact congrArg Value.bool (Cod.rend_t h8) | exact congrArg Value.bool (Cod.rend_f h8))
  ·trivial
  ·exact hA.keep (m:=[yy,nn]) (Y:=[_]) rfl
 intro h8
 replace h8:=nF h8
 refine NO rfl (NO rfl (NO rfl (NO rfl (NO rfl (NO rfl (PF rfl (AS rfl (NI [2] [_] rfl (R1 Tryz.results81 () rfl (fun w hA => ⟨?_,?_,?_⟩))))))))))
 ·(first | exact congrArg Value.bool (Cod.rend_t h12) | exact congrArg Value.bool (Cod.rend_f h12) | exact congrArg Value.bool (Cod.rend_t h8) | exact congrArg Value.bool (Cod.rend_f h8))
 ·trivial
 ·exact hA.keep (m:=[yy,nn]) (Y:=[_]) rfl
theorem rpass_spec (T : TypeId) (g : Nat) (b : List UInt8) (w : Bool) (a : Option Addr) (c : Nat) (n : Nat) (hn : n≤b.length) : Spec Tryz.prog 110 #[.pointer (some ⟨g,0,none⟩),.int .i64 ((n : Int))] [.loc g [.slice a (b.length) c,.bool (w)] T,.dat kByte.sl (b) [.slice a (b.length) c]] (β:=Option Addr × Nat) (fun y => .bool ((Cod.ps n b w).1)) (fun y => True) (fun y => [.loc g [.slice y.1 (((Cod.ps n b w).2.1).length) y.2,.bool ((Cod.ps n b w).2.2)] T,.dat kByte.sl ((Cod.ps n b w).2.1) [.slice y.1 (((Cod.ps n b w).2.1).length) y.2]]):=by
 refine Spec.enter (vs:=[_,_]) Tryz.func110 rfl Tryz.ntmps110 rfl (Nat.le_of_ble_eq_true rfl) (fun w0 ok0 => ?_)
 generalize hM0 : blks _ = M0
 refine SQ (RG rfl (AS rfl (NI [0,1] [_,_] rfl (SQ (SQ (RG rfl (MV rfl (NC rfl (FA 1 rfl Tryz.underlying117 rfl Tryz.sizeOf4 (LD 0 1 rfl Tryz.isAgg4 (MV rfl (HO_split (d:=9) rfl ?_ ?_))))))))))))
 ·intro h9
  subst h9
  refine NO rfl (NO rfl (PT rfl (NI [12,0,1] [_,_,_] rfl (CT rfl (SQ (RG rfl (MV rfl (NC rfl (FA 1 rfl Tryz.underlying117 rfl Tryz.sizeOf4 (SR 0 [_] [_] [] [_] [_] [_,_] Tryz.sizeOf4 rfl (NI [0] [_] rfl ?_)))))))))))
  refine SQ (RG rfl (MV rfl (NC rfl (FA 0 rfl Tryz.underlying117 rfl Tryz.sizeOf32 (SR 0 [] [_] [_] [_] [_] [_,_] Tryz.sizeOf32 rfl (NI [] [] rfl (WD 1 [_] rfl (SQ (RG rfl (AS rfl (HO_nil ?_)))))))))))
  have hrd : Cod.ps n b true = (false,[],true):=Cod.ps_bad (.inl rfl)
  refine H_nilDat kByte (R1 Tryz.results110 (none,0) rfl (fun w hA => ⟨?_,?_,?_⟩))
  ·(rw [hrd] <;> rfl)
  ·trivial
  ·(rw [hrd];exact hA.only (is:=[0,0]) (Z:=[]) rfl)
 intro h9
 subst h9
 refine MV rfl (BN rfl bin_eql (PF rfl (NI [12,0,1] [_,_,_] rfl (H_cond rfl ?_ ?_))))
 ·intro h12
  replace h12:=dT h12
  refine SQ (RG rfl (MV rfl (NC rfl (FA 1 rfl Tryz.underlying117 rfl Tryz.sizeOf4 (SR 0 [_] [_] [] [_] [_] [_,_] Tryz.sizeOf4 rfl (NI [0] [_] rfl (SQ (RG rfl (MV rfl (NC rfl (FA 0 rfl Tryz.underlying117 rfl Tryz.sizeOf32 (SR 0 [] [_] [_] [_] [_] [_,_] Tryz.sizeOf32 rfl ?_))))))))))))
  refine NI [] [] rfl (WD 1 [_] rfl (SQ (RG rfl (AS rfl (HO_nil ?_)))))
  have hrd : Cod.ps n b false = (false,[],true):=Cod.ps_bad (.inr (by omega))
  refine H_nilDat kByte (R1 Tryz.results110 (none,0) rfl (fun w hA => ⟨?_,?_,?_⟩))
  ·(rw [hrd] <;> rfl)
  ·trivial
  ·(rw [hrd];exact hA.only (is:=[0,0]) (Z:=[]) rfl)
 intro h12
 replace h12:=dF h12
 refine SK (SQ (RG rfl (MV rfl (MV rfl (NC rfl (FA 0 rfl Tryz.underlying117 rfl Tryz.sizeOf32 (LD 0 0 rfl Tryz.isAgg32 (MV rfl (HO_slice_l (i:=1) (l:=n) rfl rfl rfl rfl ?_ Tryz.underlying32 Tryz.sizeOf5 rfl ?_ ?_)))))))))
 ·omega
 ·omega
 intro a25 c25
 refine NC rfl (FA 0 rfl Tryz.underlying117 rfl Tryz.sizeOf32 (SR 1 [] [_] [_] [_] [_,_] [_,_] Tryz.sizeOf32 rfl (NI [] [] rfl (WD 3 [_,_] rfl (SQ (RG rfl (AS rfl (HO_nil ?_))))))))
 have hrd : Cod.ps n b false = (true,b.drop n,false):=Cod.ps_good rfl (by omega)
 refine R1 Tryz.results110 (a25,c25) rfl (fun w hA => ⟨?_,?_,?_⟩)
 ·(rw [hrd] <;> rfl)
 ·trivial
 ·(rw [hrd];exact hA.keep (m:=[yy,yy]) (Y:=[_,_]) rfl)
theorem rNum_spec (T : TypeId) (g : Nat) (b : List UInt8) (w : Bool) (a : Option Addr) (c : Nat)  : Spec Tryz.prog 108 #[.pointer (some ⟨g,0,none⟩)] [.loc g [.slice a (b.length) c,.bool (w)] T,.dat kByte.sl (b) [.slice a (b.length) c]] (β:=Option Addr × Nat) (fun y => .int .u64 (((Cod.rd 0 (Cod.dec b) b w).1 : Int))) (fun y => True) (fun y => [.loc g [.slice y.1 (((Cod.rd 0 (Cod.dec b) b w).2.1).length) y.2,.bool ((Cod.rd 0 (Cod.dec b) b w).2.2)] T,.dat kByte.sl ((Cod.rd 0 (Cod.dec b) b w).2.1) [.slice y.1 (((Cod.rd 0 (Cod.dec b) b w).2.1).length) y.2]]):=by
 have hlen:=Cod.dec_len b
 refine Spec.enter (vs:=[_]) Tryz.func108 rfl Tryz.ntmps108 rfl (Nat.le_of_ble_eq_true rfl) (fun w0 ok0 => ?_)
 generalize hM0 : blks _ = M0
 refine SQ (RG rfl (AS rfl (NI [0] [_] rfl (SQ (RG rfl (MV rfl (NC rfl (FA 0 rfl Tryz.underlying117 rfl Tryz.sizeOf32 (LD 0 0 rfl Tryz.isAgg32 (DU 1 rfl (CB [0] [_,_] rfl Tryz.call133 (rGet_spec _ _ _) ?_)))))))))))
 intro y10 hy10
 clear y10 hy10
 refine MV rfl (EX [_,_] rfl (EX [_,_] rfl (AS rfl (AS rfl (NI [4,3,0] [_,_,_] rfl (SQ (SQ (RG rfl (MV rfl (MV rfl (DU 1 rfl (CB [0,0] [_] rfl Tryz.call110 (rpass_spec _ _ _ _ _ _ _ ?_) ?_))))))))))))
 ·exact hlen
 intro y15 hy15
 refine NT rfl (NI [16,3] [_,_] rfl (WD 3 [_,_] rfl (H_cond rfl ?_ ?_)))
 ·intro h16
  replace h16:=nT h16
  refine SQ (RG rfl (AS rfl (NI [2] [_] rfl ?_)))
  have hrd : (Cod.rd 0 (Cod.dec b) b w) = (0,(Cod.ps (Cod.dec b).2 b w).2.1,(Cod.ps (Cod.dec b).2 b w).2.2):=by rw [Cod.rd_ps,h16];rfl
  refine R1 Tryz.results108 y15 rfl (fun w hA => ⟨?_,?_,?_⟩)
  ·(rw [hrd] <;> rfl)
  ·trivial
  ·(rw [hrd];exact hA.keep (m:=[yy,yy]) (Y:=[_,_]) rfl)
 intro h16
 replace h16:=nF h16
 refine SK (SQ (RG rfl (MV rfl (AS rfl (NI [2] [_] rfl ?_)))))
 have hrd : (Cod.rd 0 (Cod.dec b) b w) = ((Cod.dec b).1,(Cod.ps (Cod.dec b).2 b w).2.1,(Cod.ps (Cod.dec b).2 b w).2.2):=by rw [Cod.rd_ps,h16];rfl
 refine R1 Tryz.results108 y15 rfl (fun w hA => ⟨?_,?_,?_⟩)
 ·(rw [hrd] <;> rfl)
 ·trivial
 ·(rw [hrd];exact hA.keep (m:=[yy,yy]) (Y:=[_,_]) rfl)
theorem rText_spec (T : TypeId) (g : Nat) (b : List UInt8) (w : Bool) (a : Option Addr) (c : Nat) (hb : b.length≤1099511627776) : Spec Tryz.prog 112 #[.pointer (some ⟨g,0,none⟩)] [.loc g [.slice a (b.length) c,.bool (w)] T,.dat kByte.sl (b) [.slice a (b.length) c]] (β:=Option Addr × Nat) (fun y => .string (⟨(Cod.rd [] (Cod.decT b) b w).1.toArray⟩)) (fun y => True) (fun y => [.loc g [.slice y.1 (((Cod.rd [] (Cod.decT b) b w).2.1).length) y.2,.bool ((Cod.rd [] (Cod.decT b) b w).2.2)] T,.dat kByte.sl ((Cod.rd [] (Cod.decT b) b w).2.1) [.slice y.1 (((Cod.rd [] (Cod.decT b) b w).2.1).length) y.2]]):=by
 have hlen:=Cod.decT_len b
 refine Spec.enter (vs:=[_]) Tryz.func112 rfl Tryz.ntmps112 rfl (Nat.le_of_ble_eq_true rfl) (fun w0 ok0 => ?_)
 generalize hM0 : blks _ = M0
 refine SQ (RG rfl (AS rfl (NI [0] [_] rfl (SQ (RG rfl (MV rfl (NC rfl (FA 0 rfl Tryz.underlying117 rfl Tryz.sizeOf32 (LD 0 0 rfl Tryz.isAgg32 (DU 1 rfl (CB [0] [_,_] rfl Tryz.call134 (rGetText_spec _ _ _ ?_) ?_)))))))))))
 ·(first | omega | assumption | decide)
 intro y10 hy10
 clear y10 hy10
 refine MV rfl (EX [_,_] rfl (EX [_,_] rfl (AS rfl (AS rfl (NI [4,3,0] [_,_,_] rfl (SQ (SQ (RG rfl (MV rfl (MV rfl (DU 1 rfl (CB [0,0] [_] rfl Tryz.call110 (rpass_spec _ _ _ _ _ _ _ ?_) ?_))))))))))))
 ·exact hlen
 intro y15 hy15
 refine NT rfl (NI [16,3] [_,_] rfl (WD 3 [_,_] rfl (H_cond rfl ?_ ?_)))
 ·intro h16
  replace h16:=nT h16
  refine SQ (RG rfl (AS rfl (NI [2] [_] rfl ?_)))
  have hrd : (Cod.rd [] (Cod.decT b) b w) = ([],(Cod.ps (Cod.decT b).2 b w).2.1,(Cod.ps (Cod.decT b).2 b w).2.2):=by rw [Cod.rd_ps,h16];rfl
  refine R1 Tryz.results112 y15 rfl (fun w hA => ⟨?_,?_,?_⟩)
  ·(rw [hrd] <;> rfl)
  ·trivial
  ·(rw [hrd];exact hA.keep (m:=[yy,yy]) (Y:=[_,_]) rfl)
 intro h16
 replace h16:=nF h16
 refine SK (SQ (RG rfl (MV rfl (AS rfl (NI [2] [_] rfl ?_)))))
 have hrd : (Cod.rd [] (Cod.decT b) b w) = ((Cod.decT b).1,(Cod.ps (Cod.decT b).2 b w).2.1,(Cod.ps (Cod.decT b).2 b w).2.2):=by rw [Cod.rd_ps,h16];rfl
 refine R1 Tryz.results112 y15 rfl (fun w hA => ⟨?_,?_,?_⟩)
 ·(rw [hrd] <;> rfl)
 ·trivial
 ·(rw [hrd];exact hA.keep (m:=[yy,yy]) (Y:=[_,_]) rfl)
theorem rBool_spec (T : TypeId) (g : Nat) (b : List UInt8) (w : Bool) (a : Option Addr) (c : Nat)  : Spec Tryz.prog 77 #[.pointer (some ⟨g,0,none⟩)] [.loc g [.slice a (b.length) c,.bool (w)] T,.dat kByte.sl (b) [.slice a (b.length) c]] (β:=Option Addr × Nat) (fun y => .bool ((Cod.rd false (Cod.decB b) b w).1)) (fun y => True) (fun y => [.loc g [.slice y.1 (((Cod.rd false (Cod.decB b) b w).2.1).length) y.2,.bool ((Cod.rd false (Cod.decB b) b w).2.2)] T,.dat kByte.sl ((Cod.rd false (Cod.decB b) b w).2.1) [.slice y.1 (((Cod.rd false (Cod.decB b) b w).2.1).length) y.2]]):=by
 have hlen:=Cod.decB_len b
 refine Spec.enter (vs:=[_]) Tryz.func77 rfl Tryz.ntmps77 rfl (Nat.le_of_ble_eq_true rfl) (fun w0 ok0 => ?_)
 generalize hM0 : blks _ = M0
 refine SQ (RG rfl (AS rfl (NI [0] [_] rfl (SQ (RG rfl (MV rfl (NC rfl (FA 0 rfl Tryz.underlying117 rfl Tryz.sizeOf32 (LD 0 0 rfl Tryz.isAgg32 (DU 1 rfl (CB [0] [_,_] rfl Tryz.call109 (rGetBool_spec _ _ _) ?_)))))))))))
 intro y10 hy10
 clear y10 hy10
 refine MV rfl (EX [_,_] rfl (EX [_,_] rfl (AS rfl (AS rfl (NI [4,3,0] [_,_,_] rfl (SQ (RG rfl (MV rfl (MV rfl (DU 1 rfl (CB [0,0] [_] rfl Tryz.call110 (rpass_spec _ _ _ _ _ _ _ ?_) ?_)))))))))))
 ·exact hlen
 intro y15 hy15
 refine MV rfl (HO_split (d:=16) rfl ?_ ?_)
 ·intro h16
  refine MV rfl (PT rfl (AS rfl (NI [2] [_] rfl (WD 3 [_,_] rfl ?_))))
  have hrd : (Cod.rd false (Cod.decB b) b w) = ((Cod.decB b).1,(Cod.ps (Cod.decB b).2 b w).2.1,(Cod.ps (Cod.decB b).2 b w).2.2):=by rw [Cod.rd_ps,h16];rfl
  refine R1 Tryz.results77 y15 rfl (fun w hA => ⟨?_,?_,?_⟩)
  ·(rw [hrd] <;> rfl)
  ·trivial
  ·(rw [hrd];exact hA.keep (m:=[yy,yy]) (Y:=[_,_]) rfl)
 intro h16
 refine NO rfl (PF rfl (AS rfl (NI [2] [_] rfl (WD 3 [_,_] rfl ?_))))
 have hrd : (Cod.rd false (Cod.decB b) b w) = (false,(Cod.ps (Cod.decB b).2 b w).2.1,(Cod.ps (Cod.decB b).2 b w).2.2):=by rw [Cod.rd_ps,h16];rfl
 refine R1 Tryz.results77 y15 rfl (fun w hA => ⟨?_,?_,?_⟩)
 ·(rw [hrd] <;> rfl)
 ·trivial
 ·(rw [hrd];exact hA.keep (m:=[yy,yy]) (Y:=[_,_]) rfl)
theorem rInt_spec (T : TypeId) (g : Nat) (b : List UInt8) (w : Bool) (a : Option Addr) (c : Nat)  : Spec Tryz.prog 76 #[.pointer (some ⟨g,0,none⟩)] [.loc g [.slice a (b.length) c,.bool (w)] T,.dat kByte.sl (b) [.slice a (b.length) c]] (β:=Option Addr × Nat) (fun y => .int .i64 ((Cod.zag (Cod.rd 0 (Cod.dec b) b w).1))) (fun y => True) (fun y => [.loc g [.slice y.1 (((Cod.rd 0 (Cod.dec b) b w).2.1).length) y.2,.bool ((Cod.rd 0 (Cod.dec b) b w).2.2)] T,.dat kByte.sl ((Cod.rd 0 (Cod.dec b) b w).2.1) [.slice y.1 (((Cod.rd 0 (Cod.dec b) b w).2.1).length) y.2]]):=by
 refine Spec.enter (vs:=[_]) Tryz.func76 rfl Tryz.ntmps76 rfl (Nat.le_of_ble_eq_true rfl) (fun w0 ok0 => ?_)
 generalize hM0 : blks _ = M0
 refine SQ (RG rfl (AS rfl (NI [0] [_] rfl (SQ (RG rfl (MV rfl (DU 1 rfl (CB [0,0] [_] rfl Tryz.call108 (rNum_spec _ _ _ _ _ _) ?_))))))))
 intro y4 hy4
 refine CB [] [_,_,_] rfl Tryz.call107 (rzag_spec _ ?_) ?_
 ·(exact Cod.rd_lt b w)
 intro y5 hy5
 clear y5 hy5
 refine AS rfl (NI [2] [_] rfl (WD 3 [_,_] rfl (R1 Tryz.results76 y4 rfl (fun w hA => ⟨?_,?_,?_⟩))))
 ·rfl
 ·trivial
 ·exact hA.keep (m:=[yy,yy]) (Y:=[_,_]) rfl
theorem rCount_spec (T : TypeId) (g : Nat) (b : List UInt8) (w : Bool) (a : Option Addr) (c : Nat) (k : Int) (hk : -9223372036854775808≤k∧k≤9223372036854775807) : Spec Tryz.prog 78 #[.pointer (some ⟨g,0,none⟩),.int .i64 (k)] [.loc g [.slice a (b.length) c,.bool (w)] T,.dat kByte.sl (b) [.slice a (b.length) c]] (β:=Option Addr × Nat) (fun y => .int .i64 (((Cod.cnt k b w).1 : Int))) (fun y => True) (fun y => [.loc g [.slice y.1 (((Cod.cnt k b w).2.1).length) y.2,.bool ((Cod.cnt k b w).2.2)] T,.dat kByte.sl ((Cod.cnt k b w).2.1) [.slice y.1 (((Cod.cnt k b w).2.1).length) y.2]]):=by
 have hlt:=Cod.rd_lt b w
 refine Spec.enter (vs:=[_,_]) Tryz.func78 rfl Tryz.ntmps78 rfl (Nat.le_of_ble_eq_true rfl) (fun w0 ok0 => ?_)
 generalize hM0 : blks _ = M0
 refine SQ (RG rfl (AS rfl (NI [0,1] [_,_] rfl (SQ (RG rfl (MV rfl (DU 1 rfl (CB [0,0] [_] rfl Tryz.call108 (rNum_spec _ _ _ _ _ _) ?_))))))))
 intro y7 hy7
 refine AS rfl (NI [5,0,1] [_,_,_] rfl (WD 3 [_,_] rfl (SQ (SQ (RG rfl (MV rfl (BN rfl bin_lss (MV rfl (HO_split (d:=10) rfl ?_ ?_)))))))))
 ·intro h10
  replace h10:=dT h10
  refine NO rfl (NO rfl (NO rfl (NO rfl (PT rfl (NI [15,5,0] [_,_,_] rfl (CT rfl (SQ (RG rfl (MV rfl (DU 1 rfl (CB [0,0] [_] rfl Tryz.call110 (rpass_spec _ _ _ _ _ _ _ ?_) ?_)))))))))))
  ·(exact Nat.zero_le _)
  intro y17 hy17
  refine NI [] [] rfl (WD 3 [_,_] rfl (SQ (RG rfl (AS rfl (HO_nil ?_)))))
  have hrd : (Cod.cnt k b w) = (0,[],true):=Cod.cnt_bad (.inl (by omega))
  have hz:=Cod.ps_bad (n:=0) (b:=(Cod.rd 0 (Cod.dec b) b w).2.1) (w:=(Cod.rd 0 (Cod.dec b) b w).2.2) (.inr rfl)
  refine R1 Tryz.results78 (y17) rfl (fun w hA => ⟨?_,?_,?_⟩)
  ·(rw [hrd] <;> rfl)
  ·trivial
  ·(rw [hrd];rw [hz] at hA;exact hA.keep (m:=[yy,yy]) (Y:=[_,_]) rfl)
 intro h10
 replace h10:=dF h10
 refine MV rfl (MV rfl (CV rfl (cv_int Tryz.underlying3 Tryz.underlying97 (wrap_u_i rfl _)) (HO_set (v':=.int .u64 (((k.toNat : Nat) : Int))) 13 rfl (by exact congrArg (Value.int .u64) (by simp only [IntKind.bits];omega)) (BN rfl bin_gtr (PF rfl (NI [15,5,0] [_,_,_] rfl (H_cond rfl ?_ ?_)))))))
 ·intro h15
  replace h15:=dT h15
  refine SQ (RG rfl (MV rfl (DU 1 rfl (CB [0,0] [_] rfl Tryz.call110 (rpass_spec _ _ _ _ _ _ _ ?_) ?_))))
  ·(exact Nat.zero_le _)
  intro y17 hy17
  refine NI [] [] rfl (WD 3 [_,_] rfl (SQ (RG rfl (AS rfl (HO_nil ?_)))))
  have hrd : (Cod.cnt k b w) = (0,[],true):=Cod.cnt_bad (.inr (by omega))
  have hz:=Cod.ps_bad (n:=0) (b:=(Cod.rd 0 (Cod.dec b) b w).2.1) (w:=(Cod.rd 0 (Cod.dec b) b w).2.2) (.inr rfl)
  refine R1 Tryz.results78 (y17) rfl (fun w hA => ⟨?_,?_,?_⟩)
  ·(rw [hrd] <;> rfl)
  ·trivial
  ·(rw [hrd];rw [hz] at hA;exact hA.keep (m:=[yy,yy]) (Y:=[_,_]) rfl)
 intro h15
 replace h15:=dF h15
 refine SK (SQ (RG rfl (MV rfl (CV rfl (cv_int Tryz.underlying97 Tryz.underlying3 (wrap_i64_nat ?_)) ?_))))
 ·omega
 refine AS rfl (NI [4] [_] rfl ?_)
 have hrd : (Cod.cnt k b w) = ((Cod.rd 0 (Cod.dec b) b w).1,(Cod.rd 0 (Cod.dec b) b w).2.1,(Cod.rd 0 (Cod.dec b) b w).2.2):=Cod.cnt_good (by omega) (by omega)
 refine R1 Tryz.results78 y7 rfl (fun w hA => ⟨?_,?_,?_⟩)
 ·(rw [hrd])
 ·trivial
 ·(rw [hrd];exact hA.keep (m:=[yy,yy]) (Y:=[_,_]) rfl)
end Go.Wk
