/- Contracts of the program's functions, each proved by walking its code. -/
import Derived.Test.YtdaphlemhmgncaaGreatKgent1
import Derived.Test.YtdaphlemhmgncaaGreatEnt
import Derived.Test.YtdaphlemhmgncaaGreatKgcmd2
set_option maxRecDepth 100000
set_option linter.unusedVariables false
set_option linter.unusedSimpArgs false
namespace Go.Wk.Fent2
open Go Go.RowKit Go.Proofs Go.Wk
theorem elt3 : Elt Tryz.prog 3 (.int .i64 (0)) 1 8:=Elt.of (by kernel_rfl) (by rfl) (by decide) (by decide)
end Go.Wk.Fent2
namespace Go.Wk
open Go Go.RowKit Go.Proofs Fent2 
theorem nums_spec (b : List UInt8) (a0 : Option Addr) (c0 : Nat) (l : List Int) (a : Option Addr) (c : Nat) (hb : b.length≤100000000000) (hl : l.length≤1000000) : Spec Tryz.prog 51 #[.slice a0 (b.length) c0,.slice a (l.length) c] [.dat kByte.sl (b) [.slice a0 (b.length) c0],.dat kInt.sl (l) [.slice a (l.length) c]] (β:=Option Addr × Nat) (fun y => .slice y.1 ((b ++ Ent.numsB l).length) y.2) (fun y => True) (fun y => [.dat kByte.sl (b ++ Ent.numsB l) [.slice y.1 ((b ++ Ent.numsB l).length) y.2]]):=by
 refine Spec.enter (vs:=[_,_]) Tryz.func51 rfl Tryz.ntmps51 rfl (Nat.le_of_ble_eq_true rfl) (fun w0 ok0 => ?_)
 generalize hM0 : blks _ = M0
 have hMn:=@noM _ _ hM0 (by simp [Atom.dat,Atom.elem])
 refine H_len_le (i:=1) rfl ?_
 intro hlen1
 refine SQ (RG rfl (AS rfl (NI [0,1] [_,_] rfl (SQ (SQ (RG rfl (MV rfl (BI rfl (bi_len_sl Tryz.underlying29) (MV rfl (NI [9,8,7,0] [_,_,_,_] rfl (BO ?_)))))))))))
 refine H_loop (σ:=Nat × List UInt8 × Option Addr × Nat) (fun s => s.2.1 = b ++ Ent.numsB (l.take s.1)∧s.1≤l.length) (fun s => [(0,.slice s.2.2.1 (s.2.1.length) s.2.2.2),(7,.slice a (l.length) c),(8,.int .i64 ((l.length : Int))),(9,.int .i64 ((s.1 : Int)))]) (fun s => Asn w0 ok0 M0 [.dat kByte.sl (s.2.1) [.slice s.2.2.1 (s.2.1.length) s.2.2.2],.dat kInt.sl (l) [.slice a (l.length) c]]) (fun s => l.length - s.1) ⟨0,b,a0,c0⟩ ?_ ?_ ?_ ?_
 ·exact ⟨by simp [Ent.numsB],Nat.zero_le _⟩
 ·exact ⟨rfl,rfl,rfl,rfl,trivial⟩
 ·intro w hA
  exact hA.only (is:=[0,1]) (Z:=[]) rfl
 ·rintro ⟨i,r,p,q⟩ hI
  (try dsimp only at hI ⊢)
  refine SQ (RG rfl (BN rfl bin_lss (HO_nil (SQ (H_cond rfl ?_ ?_)))))
  ·intro h10
   replace h10:=dT h10
   refine SK (SQ (BO (SQ (RG rfl (HO_indexAddr open_int (i:=1) rfl rfl rfl rfl rfl Tryz.underlying29 Tryz.sizeOf3 rfl ?_ ?_)))))
   ·omega
   intro b11 o11 z11 y11 hz11 hI11
   clear y11
   refine LE 0 0 rfl Tryz.isAgg3 (AS rfl (NI [6,0,7,8,9] [_,_,_,_,_] rfl (WD 6 [_,_] rfl ?_)))
   have hsl : r.length≤200000000000:=by rw [hI.1,List.length_append];have:=Ent.nums_take_len l i hI.2;omega
   refine RG rfl (MV rfl (MV rfl (CB [] [_,_] rfl Tryz.call87 (zig_spec _) ?_)))
   intro y15 hy15
   clear y15 hy15
   refine DU 0 rfl (CB [0] [_,_] rfl Tryz.call86 (Put_spec _ _ _ _ ?_ ?_) ?_)
   ·(exact Cod.zig_lt _)
   ·omega
   intro y16 hy16
   refine AS rfl (NI [0,7,8,9] [_,_,_,_] rfl (WD 5 [_,_] rfl (BD (RG rfl (BN rfl (bin_add ?_ ?_) ?_)))))
   ·omega
   ·omega
   refine MV rfl (NI [9,0,7,8] [_,_,_,_] rfl (H_freeze (i:=0) (R:=[_]) rfl hMn (H_inv (fun a w hf hA => ⟨⟨i + 1,r ++ Cod.enc (Cod.zig z11),y16.1,y16.2⟩,?_,?_,hf.sub ?_,?_⟩))))
   ·exact ⟨by rw [hI.1,Ent.nums_next hz11];simp,by omega⟩
   ·(try dsimp only);omega
   ·exact ⟨rfl,rfl,rfl,rfl,trivial⟩
   ·exact hA.only (is:=[0,1]) (Z:=[]) rfl
  intro h10
  replace h10:=dF h10
  refine H_exit rfl (SQ ?_)
  obtain rfl : i = l.length:=by omega
  have hfin : r = b ++ Ent.numsB l:=by rw [hI.1,List.take_length]
  subst hfin
  refine RG rfl (MV rfl (AS rfl (NI [4] [_] rfl (WD 1 [_] rfl (R1 Tryz.results51 (p,q) rfl (fun w hA => ⟨?_,?_,?_⟩))))))
  ·rfl
  ·trivial
  ·exact hA.keep (m:=[yy]) (Y:=[_]) rfl
theorem rnums_spec (b : List UInt8) (a0 : Option Addr) (c0 : Nat) (l : List Int) (a : Option Addr) (c : Nat) (hb : b.length≤100000000000) (hl : l.length≤1000000) : Spec Tryz.prog 58 #[.slice a0 (b.length) c0,.slice a (l.length) c] [.dat kByte.sl (b) [.slice a0 (b.length) c0],.dat kInt.sl (l) [.slice a (l.length) c]] (β:=Option Addr × Nat) (fun y => .slice y.1 ((b ++ Ent.numsB l).length) y.2) (fun y => True) (fun y => [.dat kByte.sl (b ++ Ent.numsB l) [.slice y.1 ((b ++ Ent.numsB l).length) y.2]]):=by
 refine Spec.enter (vs:=[_,_]) Tryz.func58 rfl Tryz.ntmps58 rfl (Nat.le_of_ble_eq_true rfl) (fun w0 ok0 => ?_)
 generalize hM0 : blks _ = M0
 have hMn:=@noM _ _ hM0 (by simp [Atom.dat,Atom.elem])
 refine H_len_le (i:=1) rfl ?_
 intro hlen1
 refine SQ (RG rfl (AS rfl (NI [0,1] [_,_] rfl (SQ (SQ (RG rfl (MV rfl (BI rfl (bi_len_sl Tryz.underlying29) (MV rfl (NI [9,8,7,0] [_,_,_,_] rfl (BO ?_)))))))))))
 refine H_loop (σ:=Nat × List UInt8 × Option Addr × Nat) (fun s => s.2.1 = b ++ Ent.numsB (l.take s.1)∧s.1≤l.length) (fun s => [(0,.slice s.2.2.1 (s.2.1.length) s.2.2.2),(7,.slice a (l.length) c),(8,.int .i64 ((l.length : Int))),(9,.int .i64 ((s.1 : Int)))]) (fun s => Asn w0 ok0 M0 [.dat kByte.sl (s.2.1) [.slice s.2.2.1 (s.2.1.length) s.2.2.2],.dat kInt.sl (l) [.slice a (l.length) c]]) (fun s => l.length - s.1) ⟨0,b,a0,c0⟩ ?_ ?_ ?_ ?_
 ·exact ⟨by simp [Ent.numsB],Nat.zero_le _⟩
 ·exact ⟨rfl,rfl,rfl,rfl,trivial⟩
 ·intro w hA
  exact hA.only (is:=[0,1]) (Z:=[]) rfl
 ·rintro ⟨i,r,p,q⟩ hI
  (try dsimp only at hI ⊢)
  refine SQ (RG rfl (BN rfl bin_lss (HO_nil (SQ (H_cond rfl ?_ ?_)))))
  ·intro h10
   replace h10:=dT h10
   refine SK (SQ (BO (SQ (RG rfl (HO_indexAddr open_int (i:=1) rfl rfl rfl rfl rfl Tryz.underlying29 Tryz.sizeOf3 rfl ?_ ?_)))))
   ·omega
   intro b11 o11 z11 y11 hz11 hI11
   clear y11
   refine LE 0 0 rfl Tryz.isAgg3 (AS rfl (NI [6,0,7,8,9] [_,_,_,_,_] rfl (WD 6 [_,_] rfl ?_)))
   have hsl : r.length≤200000000000:=by rw [hI.1,List.length_append];have:=Ent.nums_take_len l i hI.2;omega
   refine RG rfl (MV rfl (MV rfl (CB [] [_,_] rfl Tryz.call91 (rzig_spec _) ?_)))
   intro y15 hy15
   clear y15 hy15
   refine DU 0 rfl (CB [0] [_,_] rfl Tryz.call60 (rPut_spec _ _ _ _ ?_ ?_) ?_)
   ·(exact Cod.zig_lt _)
   ·omega
   intro y16 hy16
   refine AS rfl (NI [0,7,8,9] [_,_,_,_] rfl (WD 5 [_,_] rfl (BD (RG rfl (BN rfl (bin_add ?_ ?_) ?_)))))
   ·omega
   ·omega
   refine MV rfl (NI [9,0,7,8] [_,_,_,_] rfl (H_freeze (i:=0) (R:=[_]) rfl hMn (H_inv (fun a w hf hA => ⟨⟨i + 1,r ++ Cod.enc (Cod.zig z11),y16.1,y16.2⟩,?_,?_,hf.sub ?_,?_⟩))))
   ·exact ⟨by rw [hI.1,Ent.nums_next hz11];simp,by omega⟩
   ·(try dsimp only);omega
   ·exact ⟨rfl,rfl,rfl,rfl,trivial⟩
   ·exact hA.only (is:=[0,1]) (Z:=[]) rfl
  intro h10
  replace h10:=dF h10
  refine H_exit rfl (SQ ?_)
  obtain rfl : i = l.length:=by omega
  have hfin : r = b ++ Ent.numsB l:=by rw [hI.1,List.take_length]
  subst hfin
  refine RG rfl (MV rfl (AS rfl (NI [4] [_] rfl (WD 1 [_] rfl (R1 Tryz.results58 (p,q) rfl (fun w hA => ⟨?_,?_,?_⟩))))))
  ·rfl
  ·trivial
  ·exact hA.keep (m:=[yy]) (Y:=[_]) rfl
theorem putint_spec (b : List UInt8) (a0 : Option Addr) (c0 : Nat) (n : Int) (hb : b.length≤100000000000) (hn : -9223372036854775808≤n∧n≤9223372036854775807) : Spec Tryz.prog 126 #[.slice a0 (b.length) c0,.int .i64 (n)] [.dat kByte.sl (b) [.slice a0 (b.length) c0]] (β:=Option Addr × Nat) (fun y => .slice y.1 ((b ++ Ent.numsB [n]).length) y.2) (fun y => True) (fun y => [.dat kByte.sl (b ++ Ent.numsB [n]) [.slice y.1 ((b ++ Ent.numsB [n]).length) y.2]]):=by
 refine Spec.enter (vs:=[_,_]) Tryz.func126 rfl Tryz.ntmps126 rfl (Nat.le_of_ble_eq_true rfl) (fun w0 ok0 => ?_)
 generalize hM0 : blks _ = M0
 have hMn:=@noM _ _ hM0 (by simp [Atom.dat,Atom.elem])
 refine SQ (RG rfl (AS rfl (NI [0,1] [_,_] rfl (SQ (RG rfl (MV rfl (MV rfl (HO_buildSlice (kd:=kInt) (xo:=[_]) (vs:=[_]) (cs:=[_]) (xs:=[n]) rfl rfl rfl rfl Tryz.underlying29 elt3 rfl rfl rfl (by decide) (by decide) (by simp [Value.cells]) rfl (by intro ok w _;exact ⟨_,_,rfl,⟨rfl,by first | omega | (constructor <;> omega)⟩,rfl⟩) ?_))))))))
 intro g7
 refine HO_freeze (i:=0) (R:=[_]) rfl hMn (DU 1 rfl (DU 1 rfl (CB [0,0] [_,_] rfl Tryz.call51 (nums_spec _ _ _ _ _ _ ?_ ?_) ?_)))
 ·exact hb
 ·(simp)
 intro y8 hy8
 refine AS rfl (NI [4] [_] rfl (WD 1 [_] rfl (R1 Tryz.results126 y8 rfl (fun w hA => ⟨?_,?_,?_⟩))))
 ·rfl
 ·trivial
 ·exact hA.keep (m:=[yy]) (Y:=[_]) rfl
theorem listint_spec (b : List UInt8) (a0 : Option Addr) (c0 : Nat) (l : List Int) (a : Option Addr) (c : Nat) (hb : b.length≤10000000000) (hl : l.length≤1000000) : Spec Tryz.prog 125 #[.slice a0 (b.length) c0,.slice a (l.length) c,.func (.func 126) #[] #[]] [.dat kByte.sl (b) [.slice a0 (b.length) c0],.dat kInt.sl (l) [.slice a (l.length) c]] (β:=Option Addr × Nat) (fun y => .slice y.1 ((b ++ Ent.listB l).length) y.2) (fun y => True) (fun y => [.dat kByte.sl (b ++ Ent.listB l) [.slice y.1 ((b ++ Ent.listB l).length) y.2]]):=by
 have hle:=Cod.enc_le9 l.length
 refine Spec.enter (vs:=[_,_,_]) Tryz.func125 rfl Tryz.ntmps125 rfl (Nat.le_of_ble_eq_true rfl) (fun w0 ok0 => ?_)
 generalize hM0 : blks _ = M0
 have hMn:=@noM _ _ hM0 (by simp [Atom.dat,Atom.elem])
 refine H_len_le (i:=1) rfl ?_
 intro hlen1
 refine SQ (RG rfl (AS rfl (NI [0,1,2] [_,_,_] rfl (SQ (RG rfl (MV rfl (MV rfl (BI rfl (bi_len_sl Tryz.underlying29) (CV rfl (cv_int Tryz.underlying3 Tryz.underlying97 (wrap_u_i rfl _)) (HO_set (v':=.int .u64 ((l.length : Int))) 12 rfl (by exact congrArg (Value.int .u64) (by simp only [IntKind.bits];omega)) (DU 0 rfl (CB [0] [_,_] rfl Tryz.call86 (Put_spec _ _ _ _ ?_ ?_) ?_))))))))))))
 ·omega
 ·omega
 intro y13 hy13
 refine AS rfl (NI [0,1,2] [_,_,_] rfl (WD 5 [_,_] rfl (SQ (SQ (RG rfl (MV rfl (BI rfl (bi_len_sl Tryz.underlying29) (MV rfl (NI [16,15,14,0,2] [_,_,_,_,_] rfl (BO (H_freeze (i:=0) (R:=[_]) rfl hMn ?_)))))))))))
 refine H_loop (σ:=Nat × List UInt8 × Option Addr × Nat) (fun s => s.2.1 = b ++ Cod.enc l.length ++ Ent.numsB (l.take s.1)∧s.1≤l.length) (fun s => [(0,.slice s.2.2.1 (s.2.1.length) s.2.2.2),(2,.func (.func 126) #[] #[]),(14,.slice a (l.length) c),(15,.int .i64 ((l.length : Int))),(16,.int .i64 ((s.1 : Int)))]) (fun s => Asn w0 ok0 M0 [.dat kByte.sl (s.2.1) [.slice s.2.2.1 (s.2.1.length) s.2.2.2],.dat kInt.sl (l) [.slice a (l.length) c]]) (fun s => l.length - s.1) ⟨0,b ++ Cod.enc l.length,y13.1,y13.2⟩ ?_ ?_ ?_ ?_
 ·exact ⟨by simp [Ent.numsB],Nat.zero_le _⟩
 ·exact ⟨rfl,rfl,rfl,rfl,rfl,trivial⟩
 ·intro w hA
  exact hA.only (is:=[0,1]) (Z:=[]) rfl
 ·rintro ⟨i,r,p,q⟩ hI
  (try dsimp only at hI ⊢)
  refine SQ (RG rfl (BN rfl bin_lss (HO_nil (SQ (H_cond rfl ?_ ?_)))))
  ·intro h17
   replace h17:=dT h17
   refine SK (SQ (BO (SQ (RG rfl (HO_indexAddr open_int (i:=1) rfl rfl rfl rfl rfl Tryz.underlying29 Tryz.sizeOf3 rfl ?_ ?_)))))
   ·omega
   intro b18 o18 z18 y18 hz18 hI18
   clear y18
   refine LE 0 0 rfl Tryz.isAgg3 (AS rfl (NI [8,0,2,14,15,16] [_,_,_,_,_,_] rfl (WD 6 [_,_] rfl ?_)))
   have hsl : r.length≤100000000000:=by rw [hI.1,List.length_append,List.length_append];have:=Ent.nums_take_len l i hI.2;omega
   refine RG rfl (MV rfl (MV rfl (MV rfl (DU 0 rfl (CB [0] [_,_] rfl Tryz.call126 (putint_spec _ _ _ _ ?_ ?_) ?_)))))
   ·exact hsl
   ·assumption
   intro y23 hy23
   refine AS rfl (NI [0,2,14,15,16] [_,_,_,_,_] rfl (WD 5 [_,_] rfl (BD (RG rfl (BN rfl (bin_add ?_ ?_) ?_)))))
   ·omega
   ·omega
   refine MV rfl (NI [16,0,2,14,15] [_,_,_,_,_] rfl (H_inv (fun a w hf hA => ⟨⟨i + 1,r ++ Ent.numsB [z18],y23.1,y23.2⟩,?_,?_,hf.sub ?_,?_⟩)))
   ·exact ⟨by rw [hI.1,Ent.nums_next hz18];simp [Ent.numsB],by omega⟩
   ·(try dsimp only);omega
   ·exact ⟨rfl,rfl,rfl,rfl,rfl,trivial⟩
   ·exact hA.only (is:=[0,1]) (Z:=[]) rfl
  intro h17
  replace h17:=dF h17
  refine H_exit rfl (SQ ?_)
  obtain rfl : i = l.length:=by omega
  have hfin : r = b ++ Ent.listB l:=by rw [hI.1,List.take_length];simp [Ent.listB]
  subst hfin
  refine RG rfl (MV rfl (AS rfl (NI [6] [_] rfl (WD 1 [_] rfl (R1 Tryz.results125 (p,q) rfl (fun w hA => ⟨?_,?_,?_⟩))))))
  ·rfl
  ·trivial
  ·exact hA.keep (m:=[yy]) (Y:=[_]) rfl
theorem putconf_spec (b : List UInt8) (a0 : Option Addr) (c0 : Nat) (vo le : List Int) (a1 : Option Addr) (c1 : Nat) (a2 : Option Addr) (c2 : Nat) (hb : b.length≤1000000000) (hv : vo.length≤100000) (hl : le.length≤100000) : Spec Tryz.prog 90 #[.slice a0 (b.length) c0,.agg #[.slice a1 (vo.length) c1,.slice a2 (le.length) c2]] [.dat kByte.sl (b) [.slice a0 (b.length) c0],.dat kInt.sl (vo) [.slice a1 (vo.length) c1],.dat kInt.sl (le) [.slice a2 (le.length) c2]] (β:=Option Addr × Nat) (fun y => .slice y.1 ((b ++ Ent.confB ⟨vo,le⟩).length) y.2) (fun y => True) (fun y => [.dat kByte.sl (b ++ Ent.confB ⟨vo,le⟩) [.slice y.1 ((b ++ Ent.confB ⟨vo,le⟩).length) y.2]]):=by
 refine Spec.enter (vs:=[_,_]) Tryz.func90 rfl Tryz.ntmps90 rfl (Nat.le_of_ble_eq_true rfl) (fun w0 ok0 => ?_)
 generalize hM0 : blks _ = M0
 have hMn:=@noM _ _ hM0 (by simp [Atom.dat,Atom.elem])
 refine H_len_le (i:=1) rfl ?_
 intro hlen1
 refine H_len_le (i:=2) rfl ?_
 intro hlen2
 refine SQ (RG rfl (BX [_,_] rfl ?_))
 intro g3
 refine AS rfl (NI [3,0] [_,_] rfl (SQ (H_drawB (m:=[yy,yy,yy,yy]) (Xs:=[_,_,_,_]) (fuel:=8) (l:=#[false,false,false,false,false,false,false,false]) mixed rfl rfl rfl (TA 0 rfl (by kernel_rfl) (V_move rfl) (TA 1 rfl (by kernel_rfl) (V_fieldAddr (r:=0) rfl Tryz.underlying31 rfl Tryz.sizeOf29 rfl) (TA 2 rfl (by kernel_rfl) (V_load1 (i:=0) (j:=0) rfl Tryz.isAgg29 rfl (.loc _ _ _) rfl rfl) (TA 4 rfl (by kernel_rfl) (V_fieldAddr (r:=1) rfl Tryz.underlying31 rfl Tryz.sizeOf29 rfl) (TA 5 rfl (by kernel_rfl) (V_load1 (i:=0) (j:=1) rfl Tryz.isAgg29 rfl (.loc _ _ _) rfl rfl) (LO 3 (by kernel_rfl) rfl (DU 1 rfl (DU 3 rfl (CB [0,0] [_,_,_,_] rfl Tryz.call125 (listint_spec _ _ _ _ _ _ ?_ ?_) ?_))))))))))))
 ·omega
 ·omega
 intro y8 hy8
 refine BK 30 [_,_,_,_] rfl (LO 6 (by kernel_rfl) rfl (DU 0 rfl (DU 5 rfl (CB [0,0] [_,_,_,_,_] rfl Tryz.call125 (listint_spec _ _ _ _ _ _ ?_ ?_) ?_))))
 ·(rw [List.length_append];have:=Ent.list_len vo;omega)
 ·omega
 intro y11 hy11
 refine BK 60 [_,_,_,_] rfl (TK 7 60 [_,_,_,_] rfl (by kernel_rfl) (V_assign rfl) (HA_done (by kernel_rfl) (EV [4] [_] rfl (WD 1 [_] rfl (R1 Tryz.results90 y11 rfl (fun w hA => ⟨?_,?_,?_⟩))))))
 ·(simp [Ent.confB])
 ·trivial
 ·exact (hA.keep (m:=[yy]) (Y:=[_]) rfl).cast (by simp [Ent.confB])
theorem rlistint_spec (b : List UInt8) (a0 : Option Addr) (c0 : Nat) (l : List Int) (a : Option Addr) (c : Nat) (hb : b.length≤10000000000) (hl : l.length≤1000000) : Spec Tryz.prog 127 #[.slice a0 (b.length) c0,.slice a (l.length) c] [.dat kByte.sl (b) [.slice a0 (b.length) c0],.dat kInt.sl (l) [.slice a (l.length) c]] (β:=Option Addr × Nat) (fun y => .slice y.1 ((b ++ Ent.listB l).length) y.2) (fun y => True) (fun y => [.dat kByte.sl (b ++ Ent.listB l) [.slice y.1 ((b ++ Ent.listB l).length) y.2]]):=by
 have hle:=Cod.enc_le9 l.length
 refine Spec.enter (vs:=[_,_]) Tryz.func127 rfl Tryz.ntmps127 rfl (Nat.le_of_ble_eq_true rfl) (fun w0 ok0 => ?_)
 generalize hM0 : blks _ = M0
 have hMn:=@noM _ _ hM0 (by simp [Atom.dat,Atom.elem])
 refine H_len_le (i:=1) rfl ?_
 intro hlen1
 refine SQ (RG rfl (AS rfl (NI [0,1] [_,_] rfl (SQ (RG rfl (MV rfl (MV rfl (BI rfl (bi_len_sl Tryz.underlying29) (CV rfl (cv_int Tryz.underlying3 Tryz.underlying97 (wrap_u_i rfl _)) (HO_set (v':=.int .u64 ((l.length : Int))) 8 rfl (by exact congrArg (Value.int .u64) (by simp only [IntKind.bits];omega)) (DU 0 rfl (CB [0] [_,_] rfl Tryz.call60 (rPut_spec _ _ _ _ ?_ ?_) ?_))))))))))))
 ·omega
 ·omega
 intro y9 hy9
 refine MV rfl (HO_freeze (i:=0) (R:=[_,_]) rfl hMn (DU 0 rfl (DU 3 rfl (CB [0,0] [_,_,_] rfl Tryz.call58 (rnums_spec _ _ _ _ _ _ ?_ ?_) ?_))))
 ·(rw [List.length_append];omega)
 ·exact hl
 intro y11 hy11
 refine AS rfl (NI [4] [_] rfl (WD 1 [_] rfl (R1 Tryz.results127 y11 rfl (fun w hA => ⟨?_,?_,?_⟩))))
 ·(simp [Ent.listB])
 ·trivial
 ·exact (hA.keep (m:=[yy]) (Y:=[_]) rfl).cast (by simp [Ent.listB])
theorem rconf_spec (b : List UInt8) (a0 : Option Addr) (c0 : Nat) (vo le : List Int) (a1 : Option Addr) (c1 : Nat) (a2 : Option Addr) (c2 : Nat) (hb : b.length≤1000000000) (hv : vo.length≤100000) (hl : le.length≤100000) : Spec Tryz.prog 95 #[.slice a0 (b.length) c0,.agg #[.slice a1 (vo.length) c1,.slice a2 (le.length) c2]] [.dat kByte.sl (b) [.slice a0 (b.length) c0],.dat kInt.sl (vo) [.slice a1 (vo.length) c1],.dat kInt.sl (le) [.slice a2 (le.length) c2]] (β:=Option Addr × Nat) (fun y => .slice y.1 ((b ++ Ent.confB ⟨vo,le⟩).length) y.2) (fun y => True) (fun y => [.dat kByte.sl (b ++ Ent.confB ⟨vo,le⟩) [.slice y.1 ((b ++ Ent.confB ⟨vo,le⟩).length) y.2]]):=by
 refine Spec.enter (vs:=[_,_]) Tryz.func95 rfl Tryz.ntmps95 rfl (Nat.le_of_ble_eq_true rfl) (fun w0 ok0 => ?_)
 generalize hM0 : blks _ = M0
 have hMn:=@noM _ _ hM0 (by simp [Atom.dat,Atom.elem])
 refine H_len_le (i:=1) rfl ?_
 intro hlen1
 refine H_len_le (i:=2) rfl ?_
 intro hlen2
 refine SQ (RG rfl (BX [_,_] rfl ?_))
 intro g3
 refine AS rfl (NI [3,0] [_,_] rfl (SQ (H_drawB (m:=[yy,yy,yy,yy]) (Xs:=[_,_,_,_]) (fuel:=8) (l:=#[false,false,false,false,false,false,false,false]) mixed rfl rfl rfl (TA 0 rfl (by kernel_rfl) (V_move rfl) (TA 1 rfl (by kernel_rfl) (V_fieldAddr (r:=0) rfl Tryz.underlying31 rfl Tryz.sizeOf29 rfl) (TA 2 rfl (by kernel_rfl) (V_load1 (i:=0) (j:=0) rfl Tryz.isAgg29 rfl (.loc _ _ _) rfl rfl) (TA 4 rfl (by kernel_rfl) (V_fieldAddr (r:=1) rfl Tryz.underlying31 rfl Tryz.sizeOf29 rfl) (TA 5 rfl (by kernel_rfl) (V_load1 (i:=0) (j:=1) rfl Tryz.isAgg29 rfl (.loc _ _ _) rfl rfl) (LO 3 (by kernel_rfl) rfl (DU 1 rfl (DU 3 rfl (CB [0,0] [_,_,_,_] rfl Tryz.call127 (rlistint_spec _ _ _ _ _ _ ?_ ?_) ?_))))))))))))
 ·omega
 ·omega
 intro y8 hy8
 refine BK 30 [_,_,_,_] rfl (LO 6 (by kernel_rfl) rfl (DU 0 rfl (DU 5 rfl (CB [0,0] [_,_,_,_,_] rfl Tryz.call127 (rlistint_spec _ _ _ _ _ _ ?_ ?_) ?_))))
 ·(rw [List.length_append];have:=Ent.list_len vo;omega)
 ·omega
 intro y11 hy11
 refine BK 60 [_,_,_,_] rfl (TK 7 60 [_,_,_,_] rfl (by kernel_rfl) (V_assign rfl) (HA_done (by kernel_rfl) (EV [4] [_] rfl (WD 1 [_] rfl (R1 Tryz.results95 y11 rfl (fun w hA => ⟨?_,?_,?_⟩))))))
 ·(simp [Ent.confB])
 ·trivial
 ·exact (hA.keep (m:=[yy]) (Y:=[_]) rfl).cast (by simp [Ent.confB])
theorem putent_spec (b : List UInt8) (a0 : Option Addr) (c0 : Nat) (ix te ki : Int) (ck cs sq : Int) (ke ol cv ti : ByteArray) (li : Int) (vo le : List Int) (a1 : Option Addr) (c1 : Nat) (a2 : Option Addr) (c2 : Nat) (hb : b.length≤100000000) (hc : ke.size + ol.size + cv.size + ti.size≤100000) (hv : vo.length≤100000) (hl : le.length≤100000) (hr : (-9223372036854775808≤ix∧ix≤9223372036854775807)∧(-9223372036854775808≤te∧te≤9223372036854775807)∧(-9223372036854775808≤ki∧ki≤9223372036854775807)) : Spec Tryz.prog 54 #[.slice a0 (b.length) c0,.agg #[.int .i64 (ix),.int .i64 (te),.int .i64 (ki),.int .i64 (ck),.int .i64 (cs),.int .i64 (sq),.string (ke),.string (ol),.string (cv),.string (ti),.int .i64 (li),.slice a1 (vo.length) c1,.slice a2 (le.length) c2]] [.dat kByte.sl (b) [.slice a0 (b.length) c0],.dat kInt.sl (vo) [.slice a1 (vo.length) c1],.dat kInt.sl (le) [.slice a2 (le.length) c2]] (β:=Option Addr × Nat) (fun y => .slice y.1 ((b ++ Ent.entB ⟨ix,te,ki,⟨ck,cs,sq,ke,ol,cv,ti,li⟩,⟨vo,le⟩⟩).length) y.2) (fun y => True) (fun y => [.dat kByte.sl (b ++ Ent.entB ⟨ix,te,ki,⟨ck,cs,sq,ke,ol,cv,ti,li⟩,⟨vo,le⟩⟩) [.slice y.1 ((b ++ Ent.entB ⟨ix,te,ki,⟨ck,cs,sq,ke,ol,cv,ti,li⟩,⟨vo,le⟩⟩).length) y.2]]):=by
 have hn3:=Ent.nums_len [ix,te,ki]
 simp only [List.length_cons,List.length_nil] at hn3
 refine Spec.enter (vs:=[_,_]) Tryz.func54 rfl Tryz.ntmps54 rfl (Nat.le_of_ble_eq_true rfl) (fun w0 ok0 => ?_)
 generalize hM0 : blks _ = M0
 have hMn:=@noM _ _ hM0 (by simp [Atom.dat,Atom.elem])
 refine H_len_le (i:=1) rfl ?_
 intro hlen1
 refine H_len_le (i:=2) rfl ?_
 intro hlen2
 refine SQ (RG rfl (BX [_,_,_,_,_,_,_,_,_,_,_,_,_] rfl ?_))
 intro g3
 refine AS rfl (NI [3,0] [_,_] rfl (SQ (RG rfl (MV rfl (FA 0 rfl Tryz.underlying70 rfl Tryz.sizeOf3 (LD 0 0 rfl Tryz.isAgg3 (FA 1 rfl Tryz.underlying70 rfl Tryz.sizeOf3 (LD 0 1 rfl Tryz.isAgg3 (FA 2 rfl Tryz.underlying70 rfl Tryz.sizeOf3 (LD 0 2 rfl Tryz.isAgg3 (HO_buildSlice (kd:=kInt) (xo:=[_,_,_]) (vs:=[_,_,_]) (cs:=[_,_,_]) (xs:=[ix,te,ki]) rfl rfl rfl rfl Tryz.underlying29 elt3 rfl rfl rfl (by decide) (by decide) (by simp [Value.cells]) rfl (by intro ok w _;exact ⟨_,_,rfl,⟨rfl,by first | omega | (constructor <;> omega)⟩,⟨_,_,rfl,⟨rfl,by first | omega | (constructor <;> omega)⟩,⟨_,_,rfl,⟨rfl,by first | omega | (constructor <;> omega)⟩,rfl⟩⟩⟩) ?_)))))))))))
 intro g12
 refine HO_freeze (i:=0) (R:=[_,_,_,_]) rfl hMn (DU 2 rfl (DU 1 rfl (CB [0,0] [_,_,_,_,_] rfl Tryz.call51 (nums_spec _ _ _ _ _ _ ?_ ?_) ?_)))
 ·omega
 ·(simp)
 intro y13 hy13
 refine AS rfl (NI [0,3] [_,_] rfl (WD 53 [_,_,_,_] rfl (SQ (SQ (RG rfl (FA 2 rfl Tryz.underlying70 rfl Tryz.sizeOf3 (LD 1 2 rfl Tryz.isAgg3 (NI [15,0,3] [_,_,_] rfl (BO (SQ (RG rfl ?_)))))))))))
 refine BN rfl bin_eql (AS rfl (NI [16,15,0,3] [_,_,_,_] rfl (H_cond rfl ?_ ?_)))
 ·intro h16
  replace h16:=dT h16
  refine SQ (RG rfl (MV rfl (FA 3 rfl Tryz.underlying70 rfl Tryz.sizeOf68 (LA 1 [_,_,_] [_,_,_,_,_,_,_,_] [_,_] rfl (.loc _ _ _) Tryz.isAgg68 Tryz.sizeOf68 rfl (CB [] [_,_,_,_] rfl Tryz.call89 (bytes_spec _ _ _ _ _ _ _ _ ?_) ?_)))))
  ·omega
  intro y21 hy21
  have hcl:=Cmd.bytes_le (c:=⟨ck,cs,sq,ke,ol,cv,ti,li⟩)
  refine HO_bytesStrOwn (i:=0) rfl rfl rfl Tryz.underlying32 Tryz.underlying9 Tryz.underlying5 rfl rfl (DU 1 rfl (CB [0] [_,_,_,_,_] rfl Tryz.call88 (PutText_spec _ _ _ _ ?_ ?_) ?_))
  ·(have:=Cmd.bytes_le (c:=⟨ck,cs,sq,ke,ol,cv,ti,li⟩);rw [Cod.size_mk];dsimp only at this;omega)
  ·(simp only [List.length_append];omega)
  intro y23 hy23
  refine AS rfl (NI [4] [_] rfl (WD 1 [_] rfl (H_freeze (i:=0) (R:=[]) rfl hMn (R1 Tryz.results54 y23 rfl (fun w hA => ⟨?_,?_,?_⟩)))))
  ·(simp [Ent.entB,Cod.size_mk, *])
  ·trivial
  ·exact (hA.keep (m:=[yy]) (Y:=[_]) rfl).cast (by simp [Ent.entB,Cod.size_mk, *])
 intro h16
 replace h16:=dF h16
 refine SQ (RG rfl (BN rfl bin_eql (AS rfl (NI [24,0,3] [_,_,_] rfl (H_cond rfl ?_ ?_)))))
 ·intro h24
  replace h24:=dT h24
  refine SQ (RG rfl (MV rfl (FA 11 rfl Tryz.underlying70 rfl Tryz.sizeOf31 (LA 1 [_,_,_,_,_,_,_,_,_,_,_] [_,_] [] rfl (.loc _ _ _) Tryz.isAgg31 Tryz.sizeOf31 rfl (DU 0 rfl (DU 3 rfl (DU 5 rfl (CB [0,0,0] [_,_,_,_] rfl Tryz.call90 (putconf_spec _ _ _ _ _ _ _ _ _ ?_ ?_ ?_) ?_))))))))
  ·(simp only [List.length_append];omega)
  ·omega
  ·omega
  intro y29 hy29
  refine AS rfl (NI [4] [_] rfl (WD 1 [_] rfl (R1 Tryz.results54 y29 rfl (fun w hA => ⟨?_,?_,?_⟩))))
  ·(simp [Ent.entB,Cod.size_mk, *])
  ·trivial
  ·exact (hA.keep (m:=[yy]) (Y:=[_]) rfl).cast (by simp [Ent.entB,Cod.size_mk, *])
 intro h24
 replace h24:=dF h24
 refine SK (BD (SQ (RG rfl (MV rfl (AS rfl (NI [4] [_] rfl (WD 1 [_] rfl (R1 Tryz.results54 y13 rfl (fun w hA => ⟨?_,?_,?_⟩)))))))))
 ·(simp [Ent.entB,Cod.size_mk, *])
 ·trivial
 ·exact (hA.keep (m:=[yy]) (Y:=[_]) rfl).cast (by simp [Ent.entB,Cod.size_mk, *])
theorem rputent_spec (b : List UInt8) (a0 : Option Addr) (c0 : Nat) (ix te ki : Int) (ck cs sq : Int) (ke ol cv ti : ByteArray) (li : Int) (vo le : List Int) (a1 : Option Addr) (c1 : Nat) (a2 : Option Addr) (c2 : Nat) (hb : b.length≤100000000) (hc : ke.size + ol.size + cv.size + ti.size≤100000) (hv : vo.length≤100000) (hl : le.length≤100000) (hr : (-9223372036854775808≤ix∧ix≤9223372036854775807)∧(-9223372036854775808≤te∧te≤9223372036854775807)∧(-9223372036854775808≤ki∧ki≤9223372036854775807)) : Spec Tryz.prog 61 #[.slice a0 (b.length) c0,.agg #[.int .i64 (ix),.int .i64 (te),.int .i64 (ki),.int .i64 (ck),.int .i64 (cs),.int .i64 (sq),.string (ke),.string (ol),.string (cv),.string (ti),.int .i64 (li),.slice a1 (vo.length) c1,.slice a2 (le.length) c2]] [.dat kByte.sl (b) [.slice a0 (b.length) c0],.dat kInt.sl (vo) [.slice a1 (vo.length) c1],.dat kInt.sl (le) [.slice a2 (le.length) c2]] (β:=Option Addr × Nat) (fun y => .slice y.1 ((b ++ Ent.entB ⟨ix,te,ki,⟨ck,cs,sq,ke,ol,cv,ti,li⟩,⟨vo,le⟩⟩).length) y.2) (fun y => True) (fun y => [.dat kByte.sl (b ++ Ent.entB ⟨ix,te,ki,⟨ck,cs,sq,ke,ol,cv,ti,li⟩,⟨vo,le⟩⟩) [.slice y.1 ((b ++ Ent.entB ⟨ix,te,ki,⟨ck,cs,sq,ke,ol,cv,ti,li⟩,⟨vo,le⟩⟩).length) y.2]]):=by
 have hn3:=Ent.nums_len [ix,te,ki]
 simp only [List.length_cons,List.length_nil] at hn3
 refine Spec.enter (vs:=[_,_]) Tryz.func61 rfl Tryz.ntmps61 rfl (Nat.le_of_ble_eq_true rfl) (fun w0 ok0 => ?_)
 generalize hM0 : blks _ = M0
 have hMn:=@noM _ _ hM0 (by simp [Atom.dat,Atom.elem])
 refine H_len_le (i:=1) rfl ?_
 intro hlen1
 refine H_len_le (i:=2) rfl ?_
 intro hlen2
 refine SQ (RG rfl (BX [_,_,_,_,_,_,_,_,_,_,_,_,_] rfl ?_))
 intro g3
 refine AS rfl (NI [3,0] [_,_] rfl (SQ (RG rfl (MV rfl (FA 0 rfl Tryz.underlying70 rfl Tryz.sizeOf3 (LD 0 0 rfl Tryz.isAgg3 (FA 1 rfl Tryz.underlying70 rfl Tryz.sizeOf3 (LD 0 1 rfl Tryz.isAgg3 (FA 2 rfl Tryz.underlying70 rfl Tryz.sizeOf3 (LD 0 2 rfl Tryz.isAgg3 (HO_buildSlice (kd:=kInt) (xo:=[_,_,_]) (vs:=[_,_,_]) (cs:=[_,_,_]) (xs:=[ix,te,ki]) rfl rfl rfl rfl Tryz.underlying29 elt3 rfl rfl rfl (by decide) (by decide) (by simp [Value.cells]) rfl (by intro ok w _;exact ⟨_,_,rfl,⟨rfl,by first | omega | (constructor <;> omega)⟩,⟨_,_,rfl,⟨rfl,by first | omega | (constructor <;> omega)⟩,⟨_,_,rfl,⟨rfl,by first | omega | (constructor <;> omega)⟩,rfl⟩⟩⟩) ?_)))))))))))
 intro g12
 refine HO_freeze (i:=0) (R:=[_,_,_,_]) rfl hMn (DU 2 rfl (DU 1 rfl (CB [0,0] [_,_,_,_,_] rfl Tryz.call58 (rnums_spec _ _ _ _ _ _ ?_ ?_) ?_)))
 ·omega
 ·(simp)
 intro y13 hy13
 refine AS rfl (NI [0,3] [_,_] rfl (WD 53 [_,_,_,_] rfl (SQ (SQ (RG rfl (FA 2 rfl Tryz.underlying70 rfl Tryz.sizeOf3 (LD 1 2 rfl Tryz.isAgg3 (BN rfl bin_eql (NI [16,0,3] [_,_,_] rfl (H_cond rfl ?_ ?_))))))))))
 ·intro h16
  replace h16:=dT h16
  refine RG rfl (MV rfl (FA 3 rfl Tryz.underlying70 rfl Tryz.sizeOf68 (LA 1 [_,_,_] [_,_,_,_,_,_,_,_] [_,_] rfl (.loc _ _ _) Tryz.isAgg68 Tryz.sizeOf68 rfl (CB [] [_,_,_,_] rfl Tryz.call94 (rbytes_spec _ _ _ _ _ _ _ _ ?_) ?_))))
  ·omega
  intro y20 hy20
  refine HO_bytesStrOwn (i:=0) rfl rfl rfl Tryz.underlying32 Tryz.underlying9 Tryz.underlying5 rfl rfl (DU 1 rfl (CB [0] [_,_,_,_,_] rfl Tryz.call93 (rPutText_spec _ _ _ _ ?_ ?_) ?_))
  ·(have:=Cmd.bytes_le (c:=⟨ck,cs,sq,ke,ol,cv,ti,li⟩);rw [Cod.size_mk];dsimp only at this;omega)
  ·(simp only [List.length_append];omega)
  intro y22 hy22
  refine AS rfl (NI [0,3] [_,_] rfl (WD 57 [_,_,_,_] rfl (SQ (SQ (RG rfl (FA 2 rfl Tryz.underlying70 rfl Tryz.sizeOf3 (LD 1 2 rfl Tryz.isAgg3 (BN rfl bin_eql (NI [25,0,3] [_,_,_] rfl (H_cond rfl ?_ ?_))))))))))
  ·intro h25
   replace h25:=dT h25
   (exfalso;omega)
  intro h25
  replace h25:=dF h25
  refine SK (SQ (RG rfl (MV rfl (AS rfl (NI [4] [_] rfl (WD 1 [_] rfl (H_freeze (i:=0) (R:=[]) rfl hMn (R1 Tryz.results61 y22 rfl (fun w hA => ⟨?_,?_,?_⟩)))))))))
  ·(simp [Ent.entB,Cod.size_mk, *])
  ·trivial
  ·exact (hA.keep (m:=[yy]) (Y:=[_]) rfl).cast (by simp [Ent.entB,Cod.size_mk, *])
 intro h16
 replace h16:=dF h16
 refine SK (SQ (SQ (RG rfl (FA 2 rfl Tryz.underlying70 rfl Tryz.sizeOf3 (LD 1 2 rfl Tryz.isAgg3 (BN rfl bin_eql (NI [25,0,3] [_,_,_] rfl (H_cond rfl ?_ ?_))))))))
 ·intro h25
  replace h25:=dT h25
  refine RG rfl (MV rfl (FA 11 rfl Tryz.underlying70 rfl Tryz.sizeOf31 (LA 1 [_,_,_,_,_,_,_,_,_,_,_] [_,_] [] rfl (.loc _ _ _) Tryz.isAgg31 Tryz.sizeOf31 rfl (DU 0 rfl (DU 3 rfl (DU 5 rfl (CB [0,0,0] [_,_,_,_] rfl Tryz.call95 (rconf_spec _ _ _ _ _ _ _ _ _ ?_ ?_ ?_) ?_)))))))
  ·(simp only [List.length_append];omega)
  ·omega
  ·omega
  intro y29 hy29
  refine AS rfl (NI [0] [_] rfl (WD 1 [_] rfl (SQ (RG rfl (MV rfl (AS rfl (NI [4] [_] rfl (R1 Tryz.results61 y29 rfl (fun w hA => ⟨?_,?_,?_⟩)))))))))
  ·(simp [Ent.entB,Cod.size_mk, *])
  ·trivial
  ·exact (hA.keep (m:=[yy]) (Y:=[_]) rfl).cast (by simp [Ent.entB,Cod.size_mk, *])
 intro h25
 replace h25:=dF h25
 refine SK (SQ (RG rfl (MV rfl (AS rfl (NI [4] [_] rfl (WD 1 [_] rfl (R1 Tryz.results61 y13 rfl (fun w hA => ⟨?_,?_,?_⟩))))))))
 ·(simp [Ent.entB,Cod.size_mk, *])
 ·trivial
 ·exact (hA.keep (m:=[yy]) (Y:=[_]) rfl).cast (by simp [Ent.entB,Cod.size_mk, *])
theorem putsnap_spec (b : List UInt8) (a0 : Option Addr) (c0 : Nat) (ix te : Int) (vo le : List Int) (a1 : Option Addr) (c1 : Nat) (a2 : Option Addr) (c2 : Nat) (da : List UInt8) (a3 : Option Addr) (c3 : Nat) (hb : b.length≤100000000) (hd : da.length≤100000) (hv : vo.length≤100000) (hl : le.length≤100000) (hr : (-9223372036854775808≤ix∧ix≤9223372036854775807)∧(-9223372036854775808≤te∧te≤9223372036854775807)) : Spec Tryz.prog 55 #[.slice a0 (b.length) c0,.agg #[.int .i64 (ix),.int .i64 (te),.slice a1 (vo.length) c1,.slice a2 (le.length) c2,.slice a3 (da.length) c3]] [.dat kByte.sl (b) [.slice a0 (b.length) c0],.dat kInt.sl (vo) [.slice a1 (vo.length) c1],.dat kInt.sl (le) [.slice a2 (le.length) c2],.dat kByte.sl (da) [.slice a3 (da.length) c3]] (β:=Option Addr × Nat) (fun y => .slice y.1 ((b ++ Ent.snapB ⟨ix,te,⟨vo,le⟩,da⟩).length) y.2) (fun y => True) (fun y => [.dat kByte.sl (b ++ Ent.snapB ⟨ix,te,⟨vo,le⟩,da⟩) [.slice y.1 ((b ++ Ent.snapB ⟨ix,te,⟨vo,le⟩,da⟩).length) y.2]]):=by
 have hn3:=Ent.nums_len [ix,te]
 simp only [List.length_cons,List.length_nil] at hn3
 have hcl:=Ent.conf_len ⟨vo,le⟩
 dsimp only at hcl
 refine Spec.enter (vs:=[_,_]) Tryz.func55 rfl Tryz.ntmps55 rfl (Nat.le_of_ble_eq_true rfl) (fun w0 ok0 => ?_)
 generalize hM0 : blks _ = M0
 have hMn:=@noM _ _ hM0 (by simp [Atom.dat,Atom.elem])
 refine H_len_le (i:=1) rfl ?_
 intro hlen1
 refine H_len_le (i:=2) rfl ?_
 intro hlen2
 refine SQ (RG rfl (BX [_,_,_,_,_] rfl ?_))
 intro g3
 refine AS rfl (NI [3,0] [_,_] rfl (SQ (H_drawB (m:=[yy,yy,yy,yy,yy]) (Xs:=[_,_,_,_,_]) (fuel:=15) (l:=#[false,false,false,false,false,false,false,false,false,false,false,false,false,false,false]) mixed rfl rfl rfl (TA 0 rfl (by kernel_rfl) (V_move rfl) (TA 1 rfl (by kernel_rfl) (V_fieldAddr (r:=0) rfl Tryz.underlying34 rfl Tryz.sizeOf3 rfl) (TA 2 rfl (by kernel_rfl) (V_load1 (i:=0) (j:=0) rfl Tryz.isAgg3 rfl (.loc _ _ _) rfl rfl) (TA 3 rfl (by kernel_rfl) (V_fieldAddr (r:=1) rfl Tryz.underlying34 rfl Tryz.sizeOf3 rfl) (TA 4 rfl (by kernel_rfl) (V_load1 (i:=0) (j:=1) rfl Tryz.isAgg3 rfl (.loc _ _ _) rfl rfl) (TA 7 rfl (by kernel_rfl) (V_fieldAddr (r:=2) rfl Tryz.underlying34 rfl Tryz.sizeOf31 rfl) (TA 8 rfl (by kernel_rfl) (V_loadA (i:=0) (us:=[_,_]) (cs:=[_,_]) (ts:=[_]) rfl Tryz.isAgg31 Tryz.sizeOf31 rfl (.loc _ _ _) rfl rfl rfl rfl) (TA 10 rfl (by kernel_rfl) (V_fieldAddr (r:=4) rfl Tryz.underlying34 rfl Tryz.sizeOf32 rfl) (TA 11 rfl (by kernel_rfl) (V_load1 (i:=0) (j:=4) rfl Tryz.isAgg32 rfl (.loc _ _ _) rfl rfl) ?_))))))))))))
 refine TA 12 rfl (by kernel_rfl) (V_bytesStr (i:=4) rfl Tryz.underlying32 Tryz.underlying9 Tryz.underlying5 rfl) (LO 5 (by kernel_rfl) rfl (HO_buildSlice (kd:=kInt) (xo:=[_,_]) (vs:=[_,_]) (cs:=[_,_]) (xs:=[ix,te]) rfl rfl rfl rfl Tryz.underlying29 elt3 rfl rfl rfl (by decide) (by decide) (by simp [Value.cells]) rfl (by intro ok w _;exact ⟨_,_,rfl,⟨rfl,by first | omega | (constructor <;> omega)⟩,⟨_,_,rfl,⟨rfl,by first | omega | (constructor <;> omega)⟩,rfl⟩⟩) ?_))
 intro g10
 refine BK 62 [_,_,_,_,_] rfl (LO 6 (by kernel_rfl) rfl (HO_freeze (i:=0) (R:=[_,_,_,_,_]) rfl hMn (DU 2 rfl (DU 1 rfl (CB [0,0] [_,_,_,_,_,_] rfl Tryz.call51 (nums_spec _ _ _ _ _ _ ?_ ?_) ?_)))))
 ·omega
 ·(simp)
 intro y11 hy11
 refine BK 124 [_,_,_,_,_] rfl (LO 9 (by kernel_rfl) rfl (DU 0 rfl (DU 5 rfl (DU 7 rfl (CB [0,0,0] [_,_,_,_,_,_,_] rfl Tryz.call90 (putconf_spec _ _ _ _ _ _ _ _ _ ?_ ?_ ?_) ?_)))))
 ·(simp only [List.length_append];omega)
 ·omega
 ·omega
 intro y14 hy14
 refine BK 248 [_,_,_,_,_] rfl (LO 13 (by kernel_rfl) rfl (DU 0 rfl (CB [0] [_,_,_,_,_,_,_,_] rfl Tryz.call88 (PutText_spec _ _ _ _ ?_ ?_) ?_)))
 ·(rw [Cod.size_mk];omega)
 ·(simp only [List.length_append];omega)
 intro y18 hy18
 refine BK 496 [_,_,_,_,_] rfl (TK 14 496 [_,_,_,_,_] rfl (by kernel_rfl) (V_assign rfl) (HA_done (by kernel_rfl) (EV [4] [_] rfl (WD 1 [_] rfl (H_freeze (i:=0) (R:=[]) rfl hMn (R1 Tryz.results55 y18 rfl (fun w hA => ⟨?_,?_,?_⟩)))))))
 ·(simp [Ent.snapB,Cod.size_mk])
 ·trivial
 ·exact (hA.keep (m:=[yy]) (Y:=[_]) rfl).cast (by simp [Ent.snapB,Cod.size_mk])
theorem rputsnap_spec (b : List UInt8) (a0 : Option Addr) (c0 : Nat) (ix te : Int) (vo le : List Int) (a1 : Option Addr) (c1 : Nat) (a2 : Option Addr) (c2 : Nat) (da : List UInt8) (a3 : Option Addr) (c3 : Nat) (hb : b.length≤100000000) (hd : da.length≤100000) (hv : vo.length≤100000) (hl : le.length≤100000) (hr : (-9223372036854775808≤ix∧ix≤9223372036854775807)∧(-9223372036854775808≤te∧te≤9223372036854775807)) : Spec Tryz.prog 62 #[.slice a0 (b.length) c0,.agg #[.int .i64 (ix),.int .i64 (te),.slice a1 (vo.length) c1,.slice a2 (le.length) c2,.slice a3 (da.length) c3]] [.dat kByte.sl (b) [.slice a0 (b.length) c0],.dat kInt.sl (vo) [.slice a1 (vo.length) c1],.dat kInt.sl (le) [.slice a2 (le.length) c2],.dat kByte.sl (da) [.slice a3 (da.length) c3]] (β:=Option Addr × Nat) (fun y => .slice y.1 ((b ++ Ent.snapB ⟨ix,te,⟨vo,le⟩,da⟩).length) y.2) (fun y => True) (fun y => [.dat kByte.sl (b ++ Ent.snapB ⟨ix,te,⟨vo,le⟩,da⟩) [.slice y.1 ((b ++ Ent.snapB ⟨ix,te,⟨vo,le⟩,da⟩).length) y.2]]):=by
 have hn3:=Ent.nums_len [ix,te]
 simp only [List.length_cons,List.length_nil] at hn3
 have hcl:=Ent.conf_len ⟨vo,le⟩
 dsimp only at hcl
 refine Spec.enter (vs:=[_,_]) Tryz.func62 rfl Tryz.ntmps62 rfl (Nat.le_of_ble_eq_true rfl) (fun w0 ok0 => ?_)
 generalize hM0 : blks _ = M0
 have hMn:=@noM _ _ hM0 (by simp [Atom.dat,Atom.elem])
 refine H_len_le (i:=1) rfl ?_
 intro hlen1
 refine H_len_le (i:=2) rfl ?_
 intro hlen2
 refine SQ (RG rfl (BX [_,_,_,_,_] rfl ?_))
 intro g3
 refine AS rfl (NI [3,0] [_,_] rfl (SQ (H_drawB (m:=[yy,yy,yy,yy,yy]) (Xs:=[_,_,_,_,_]) (fuel:=15) (l:=#[false,false,false,false,false,false,false,false,false,false,false,false,false,false,false]) mixed rfl rfl rfl (TA 0 rfl (by kernel_rfl) (V_move rfl) (TA 1 rfl (by kernel_rfl) (V_fieldAddr (r:=0) rfl Tryz.underlying34 rfl Tryz.sizeOf3 rfl) (TA 2 rfl (by kernel_rfl) (V_load1 (i:=0) (j:=0) rfl Tryz.isAgg3 rfl (.loc _ _ _) rfl rfl) (TA 3 rfl (by kernel_rfl) (V_fieldAddr (r:=1) rfl Tryz.underlying34 rfl Tryz.sizeOf3 rfl) (TA 4 rfl (by kernel_rfl) (V_load1 (i:=0) (j:=1) rfl Tryz.isAgg3 rfl (.loc _ _ _) rfl rfl) (TA 7 rfl (by kernel_rfl) (V_fieldAddr (r:=2) rfl Tryz.underlying34 rfl Tryz.sizeOf31 rfl) (TA 8 rfl (by kernel_rfl) (V_loadA (i:=0) (us:=[_,_]) (cs:=[_,_]) (ts:=[_]) rfl Tryz.isAgg31 Tryz.sizeOf31 rfl (.loc _ _ _) rfl rfl rfl rfl) (TA 10 rfl (by kernel_rfl) (V_fieldAddr (r:=4) rfl Tryz.underlying34 rfl Tryz.sizeOf32 rfl) (TA 11 rfl (by kernel_rfl) (V_load1 (i:=0) (j:=4) rfl Tryz.isAgg32 rfl (.loc _ _ _) rfl rfl) ?_))))))))))))
 refine TA 12 rfl (by kernel_rfl) (V_bytesStr (i:=4) rfl Tryz.underlying32 Tryz.underlying9 Tryz.underlying5 rfl) (LO 5 (by kernel_rfl) rfl (HO_buildSlice (kd:=kInt) (xo:=[_,_]) (vs:=[_,_]) (cs:=[_,_]) (xs:=[ix,te]) rfl rfl rfl rfl Tryz.underlying29 elt3 rfl rfl rfl (by decide) (by decide) (by simp [Value.cells]) rfl (by intro ok w _;exact ⟨_,_,rfl,⟨rfl,by first | omega | (constructor <;> omega)⟩,⟨_,_,rfl,⟨rfl,by first | omega | (constructor <;> omega)⟩,rfl⟩⟩) ?_))
 intro g10
 refine BK 62 [_,_,_,_,_] rfl (LO 6 (by kernel_rfl) rfl (HO_freeze (i:=0) (R:=[_,_,_,_,_]) rfl hMn (DU 2 rfl (DU 1 rfl (CB [0,0] [_,_,_,_,_,_] rfl Tryz.call58 (rnums_spec _ _ _ _ _ _ ?_ ?_) ?_)))))
 ·omega
 ·(simp)
 intro y11 hy11
 refine BK 124 [_,_,_,_,_] rfl (LO 9 (by kernel_rfl) rfl (DU 0 rfl (DU 5 rfl (DU 7 rfl (CB [0,0,0] [_,_,_,_,_,_,_] rfl Tryz.call95 (rconf_spec _ _ _ _ _ _ _ _ _ ?_ ?_ ?_) ?_)))))
 ·(simp only [List.length_append];omega)
 ·omega
 ·omega
 intro y14 hy14
 refine BK 248 [_,_,_,_,_] rfl (LO 13 (by kernel_rfl) rfl (DU 0 rfl (CB [0] [_,_,_,_,_,_,_,_] rfl Tryz.call93 (rPutText_spec _ _ _ _ ?_ ?_) ?_)))
 ·(rw [Cod.size_mk];omega)
 ·(simp only [List.length_append];omega)
 intro y18 hy18
 refine BK 496 [_,_,_,_,_] rfl (TK 14 496 [_,_,_,_,_] rfl (by kernel_rfl) (V_assign rfl) (HA_done (by kernel_rfl) (EV [4] [_] rfl (WD 1 [_] rfl (H_freeze (i:=0) (R:=[]) rfl hMn (R1 Tryz.results62 y18 rfl (fun w hA => ⟨?_,?_,?_⟩)))))))
 ·(simp [Ent.snapB,Cod.size_mk])
 ·trivial
 ·exact (hA.keep (m:=[yy]) (Y:=[_]) rfl).cast (by simp [Ent.snapB,Cod.size_mk])
theorem goodsnap_spec (ix te : Int) (vo le : List Int) (a1 : Option Addr) (c1 : Nat) (a2 : Option Addr) (c2 : Nat) (da : List UInt8) (a3 : Option Addr) (c3 : Nat)  : Spec Tryz.prog 47 #[.agg #[.int .i64 (ix),.int .i64 (te),.slice a1 (vo.length) c1,.slice a2 (le.length) c2,.slice a3 (da.length) c3]] [.dat kInt.sl (vo) [.slice a1 (vo.length) c1],.dat kInt.sl (le) [.slice a2 (le.length) c2],.dat kByte.sl (da) [.slice a3 (da.length) c3]] (β:=Unit) (fun y => .bool (Ent.goodSnap ⟨ix,te,⟨vo,le⟩,da⟩)) (fun y => True) (fun y => []):=by
 refine Spec.enter (vs:=[_]) Tryz.func47 rfl Tryz.ntmps47 rfl (Nat.le_of_ble_eq_true rfl) (fun w0 ok0 => ?_)
 generalize hM0 : blks _ = M0
 have hMn:=@noM _ _ hM0 (by simp [Atom.dat,Atom.elem])
 refine H_len_le (i:=0) rfl ?_
 intro hlen0
 refine H_len_le (i:=1) rfl ?_
 intro hlen1
 refine SQ (RG rfl (BX [_,_,_,_,_] rfl ?_))
 intro g1
 refine AS rfl (NI [1] [_] rfl (SQ (RG rfl (FA 0 rfl Tryz.underlying34 rfl Tryz.sizeOf3 (LD 0 0 rfl Tryz.isAgg3 (BN rfl bin_gtr (MV rfl (HO_split (d:=6) rfl ?_ ?_))))))))
 ·intro h6
  replace h6:=dT h6
  refine FA 1 rfl Tryz.underlying34 rfl Tryz.sizeOf3 (LD 0 1 rfl Tryz.isAgg3 (BN rfl bin_gtr (PT rfl (MV rfl (HO_split (d:=11) rfl ?_ ?_)))))
  ·intro h11
   replace h11:=dT h11
   refine FA 2 rfl Tryz.underlying34 rfl Tryz.sizeOf31 (LA 0 [_,_] [_,_] [_] rfl (.loc _ _ _) Tryz.isAgg31 Tryz.sizeOf31 rfl (DU 1 rfl (DU 3 rfl (CB [0,0] [_,_,_,_] rfl Tryz.call85 (goodconf_spec _ _ _ _ _ _) ?_))))
   intro y14 hy14
   clear y14 hy14
   refine PT rfl (MV rfl (HO_split (d:=16) rfl ?_ ?_))
   ·intro h16
    refine FA 4 rfl Tryz.underlying34 rfl Tryz.sizeOf32 (LD 0 4 rfl Tryz.isAgg32 (BI rfl (bi_len_sl Tryz.underlying32) (BN rfl bin_leq (PT rfl (AS rfl (NI [2] [_] rfl (WD 0 [] rfl (R1 Tryz.results47 () rfl (fun w hA => ⟨?_,?_,?_⟩)))))))))
    ·(exact congrArg Value.bool (by first | (simp [Ent.goodSnap,Ent.one_le, *];done) | (simp_all [Ent.goodSnap,Ent.one_le];done) | (simp_all [Ent.goodSnap,Ent.one_le];omega)))
    ·trivial
    ·exact hA.keep (m:=[]) (Y:=[]) rfl
   intro h16
   refine NO rfl (NO rfl (NO rfl (NO rfl (PF rfl (AS rfl (NI [2] [_] rfl (WD 0 [] rfl (R1 Tryz.results47 () rfl (fun w hA => ⟨?_,?_,?_⟩)))))))))
   ·(exact congrArg Value.bool (by first | (simp [Ent.goodSnap,Ent.one_le, *];done) | (simp_all [Ent.goodSnap,Ent.one_le];done) | (simp_all [Ent.goodSnap,Ent.one_le];omega)))
   ·trivial
   ·exact hA.keep (m:=[]) (Y:=[]) rfl
  intro h11
  replace h11:=dF h11
  refine NO rfl (NO rfl (NO rfl (PF rfl (MV rfl (NO rfl (NO rfl (NO rfl (NO rfl (PF rfl (AS rfl (NI [2] [_] rfl (WD 0 [] rfl ?_))))))))))))
  refine R1 Tryz.results47 () rfl (fun w hA => ⟨?_,?_,?_⟩)
  ·(exact congrArg Value.bool (by first | (simp [Ent.goodSnap,Ent.one_le, *];done) | (simp_all [Ent.goodSnap,Ent.one_le];done) | (simp_all [Ent.goodSnap,Ent.one_le];omega)))
  ·trivial
  ·exact hA.keep (m:=[]) (Y:=[]) rfl
 intro h6
 replace h6:=dF h6
 refine NO rfl (NO rfl (NO rfl (PF rfl (MV rfl (NO rfl (NO rfl (NO rfl (PF rfl (MV rfl (NO rfl (NO rfl (NO rfl (NO rfl ?_)))))))))))))
 refine PF rfl (AS rfl (NI [2] [_] rfl (WD 0 [] rfl (R1 Tryz.results47 () rfl (fun w hA => ⟨?_,?_,?_⟩)))))
 ·(exact congrArg Value.bool (by first | (simp [Ent.goodSnap,Ent.one_le, *];done) | (simp_all [Ent.goodSnap,Ent.one_le];done) | (simp_all [Ent.goodSnap,Ent.one_le];omega)))
 ·trivial
 ·exact hA.keep (m:=[]) (Y:=[]) rfl
theorem rgoodsnap_spec (ix te : Int) (vo le : List Int) (a1 : Option Addr) (c1 : Nat) (a2 : Option Addr) (c2 : Nat) (da : List UInt8) (a3 : Option Addr) (c3 : Nat)  : Spec Tryz.prog 44 #[.agg #[.int .i64 (ix),.int .i64 (te),.slice a1 (vo.length) c1,.slice a2 (le.length) c2,.slice a3 (da.length) c3]] [.dat kInt.sl (vo) [.slice a1 (vo.length) c1],.dat kInt.sl (le) [.slice a2 (le.length) c2],.dat kByte.sl (da) [.slice a3 (da.length) c3]] (β:=Unit) (fun y => .bool (Ent.goodSnap ⟨ix,te,⟨vo,le⟩,da⟩)) (fun y => True) (fun y => []):=by
 refine Spec.enter (vs:=[_]) Tryz.func44 rfl Tryz.ntmps44 rfl (Nat.le_of_ble_eq_true rfl) (fun w0 ok0 => ?_)
 generalize hM0 : blks _ = M0
 have hMn:=@noM _ _ hM0 (by simp [Atom.dat,Atom.elem])
 refine H_len_le (i:=0) rfl ?_
 intro hlen0
 refine H_len_le (i:=1) rfl ?_
 intro hlen1
 refine SQ (RG rfl (BX [_,_,_,_,_] rfl ?_))
 intro g1
 refine AS rfl (NI [1] [_] rfl (SQ (RG rfl (FA 0 rfl Tryz.underlying34 rfl Tryz.sizeOf3 (LD 0 0 rfl Tryz.isAgg3 (BN rfl bin_geq (MV rfl (HO_split (d:=6) rfl ?_ ?_))))))))
 ·intro h6
  replace h6:=dT h6
  refine FA 1 rfl Tryz.underlying34 rfl Tryz.sizeOf3 (LD 0 1 rfl Tryz.isAgg3 (BN rfl bin_geq (PT rfl (MV rfl (HO_split (d:=11) rfl ?_ ?_)))))
  ·intro h11
   replace h11:=dT h11
   refine FA 2 rfl Tryz.underlying34 rfl Tryz.sizeOf31 (LA 0 [_,_] [_,_] [_] rfl (.loc _ _ _) Tryz.isAgg31 Tryz.sizeOf31 rfl (DU 1 rfl (DU 3 rfl (CB [0,0] [_,_,_,_] rfl Tryz.call83 (rgoodconf_spec _ _ _ _ _ _) ?_))))
   intro y14 hy14
   clear y14 hy14
   refine PT rfl (MV rfl (HO_split (d:=16) rfl ?_ ?_))
   ·intro h16
    refine FA 4 rfl Tryz.underlying34 rfl Tryz.sizeOf32 (LD 0 4 rfl Tryz.isAgg32 (BI rfl (bi_len_sl Tryz.underlying32) (BN rfl bin_leq (PT rfl (AS rfl (NI [2] [_] rfl (WD 0 [] rfl (R1 Tryz.results44 () rfl (fun w hA => ⟨?_,?_,?_⟩)))))))))
    ·(exact congrArg Value.bool (by first | (simp [Ent.goodSnap,Ent.one_le, *];done) | (simp_all [Ent.goodSnap,Ent.one_le];done) | (simp_all [Ent.goodSnap,Ent.one_le];omega)))
    ·trivial
    ·exact hA.keep (m:=[]) (Y:=[]) rfl
   intro h16
   refine NO rfl (NO rfl (NO rfl (NO rfl (PF rfl (AS rfl (NI [2] [_] rfl (WD 0 [] rfl (R1 Tryz.results44 () rfl (fun w hA => ⟨?_,?_,?_⟩)))))))))
   ·(exact congrArg Value.bool (by first | (simp [Ent.goodSnap,Ent.one_le, *];done) | (simp_all [Ent.goodSnap,Ent.one_le];done) | (simp_all [Ent.goodSnap,Ent.one_le];omega)))
   ·trivial
   ·exact hA.keep (m:=[]) (Y:=[]) rfl
  intro h11
  replace h11:=dF h11
  refine NO rfl (NO rfl (NO rfl (PF rfl (MV rfl (NO rfl (NO rfl (NO rfl (NO rfl (PF rfl (AS rfl (NI [2] [_] rfl (WD 0 [] rfl ?_))))))))))))
  refine R1 Tryz.results44 () rfl (fun w hA => ⟨?_,?_,?_⟩)
  ·(exact congrArg Value.bool (by first | (simp [Ent.goodSnap,Ent.one_le, *];done) | (simp_all [Ent.goodSnap,Ent.one_le];done) | (simp_all [Ent.goodSnap,Ent.one_le];omega)))
  ·trivial
  ·exact hA.keep (m:=[]) (Y:=[]) rfl
 intro h6
 replace h6:=dF h6
 refine NO rfl (NO rfl (NO rfl (PF rfl (MV rfl (NO rfl (NO rfl (NO rfl (PF rfl (MV rfl (NO rfl (NO rfl (NO rfl (NO rfl ?_)))))))))))))
 refine PF rfl (AS rfl (NI [2] [_] rfl (WD 0 [] rfl (R1 Tryz.results44 () rfl (fun w hA => ⟨?_,?_,?_⟩)))))
 ·(exact congrArg Value.bool (by first | (simp [Ent.goodSnap,Ent.one_le, *];done) | (simp_all [Ent.goodSnap,Ent.one_le];done) | (simp_all [Ent.goodSnap,Ent.one_le];omega)))
 ·trivial
 ·exact hA.keep (m:=[]) (Y:=[]) rfl
end Go.Wk
