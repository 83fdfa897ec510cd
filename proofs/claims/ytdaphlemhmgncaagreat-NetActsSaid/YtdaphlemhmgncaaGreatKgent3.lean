/- Contracts of the program's functions, each proved by walking its code. -/
import Derived.Test.YtdaphlemhmgncaaGreatKgent2
import Derived.Test.YtdaphlemhmgncaaGreatEnt
import Derived.Test.YtdaphlemhmgncaaGreatKgrdr
set_option maxRecDepth 100000
set_option linter.unusedVariables false
set_option linter.unusedSimpArgs false
namespace Go.Wk.Fent3
open Go Go.RowKit Go.Proofs Go.Wk
theorem elt3 : Elt Tryz.prog 3 (.int .i64 (0)) 1 8:=Elt.of (by kernel_rfl) (by rfl) (by decide) (by decide)
theorem bd108_0_s {a1 : Option Addr} {n1 c1 : Nat} : ∀ w,(Instr.build 108 (List.toArray (List.zip [0] [.slice a1 n1 c1]))).run Tryz.prog w = .ok (.agg #[.slice a1 n1 c1,.bool (false)]) w:=fun _ => by kernel_rfl
theorem bd110_0_AsoE {a2 : Option Addr} {n2 c2 : Nat} {x3 : Bool} : ∀ w,(Instr.build 110 (List.toArray (List.zip [0] [.agg #[.slice a2 n2 c2,.bool x3]]))).run Tryz.prog w = .ok (.agg #[.slice a2 n2 c2,.bool x3]) w:=fun _ => by kernel_rfl
theorem bd31_0_s {a1 : Option Addr} {n1 c1 : Nat} : ∀ w,(Instr.build 31 (List.toArray (List.zip [0] [.slice a1 n1 c1]))).run Tryz.prog w = .ok (.agg #[.slice a1 n1 c1,.slice none 0 0]) w:=fun _ => by kernel_rfl
theorem bd34_0_1_ii {x1 : Int} {x2 : Int} : ∀ w,(Instr.build 34 (List.toArray (List.zip [0,1] [.int .i64 x1,.int .i64 x2]))).run Tryz.prog w = .ok (.agg #[.int .i64 x1,.int .i64 x2,.slice none 0 0,.slice none 0 0,.slice none 0 0]) w:=fun _ => by kernel_rfl
theorem bd70_0_1_2_iii {x1 : Int} {x2 : Int} {x3 : Int} : ∀ w,(Instr.build 70 (List.toArray (List.zip [0,1,2] [.int .i64 x1,.int .i64 x2,.int .i64 x3]))).run Tryz.prog w = .ok (.agg #[.int .i64 x1,.int .i64 x2,.int .i64 x3,.int .i64 (0),.int .i64 (0),.int .i64 (0),.string (⟨#[]⟩),.string (⟨#[]⟩),.string (⟨#[]⟩),.string (⟨#[]⟩),.int .i64 (0),.slice none 0 0,.slice none 0 0]) w:=fun _ => by kernel_rfl
end Go.Wk.Fent3
namespace Go.Wk
open Go Go.RowKit Go.Proofs Fent3 
theorem rwrong_spec (T : TypeId) (g : Nat) (b : List UInt8) (w : Bool) (a : Option Addr) (c : Nat)  : Spec Tryz.prog 104 #[.pointer (some ⟨g,0,none⟩)] [.loc g [.slice a (b.length) c,.bool (w)] T,.dat kByte.sl (b) [.slice a (b.length) c]] (β:=Unit) (fun y => .tuple #[]) (fun y => True) (fun y => [.loc g [.slice none 0 0,.bool (true)] T,.dat kByte.sl ([]) [.slice none 0 0]]):=by
 refine Spec.enter (vs:=[_]) Tryz.func104 rfl Tryz.ntmps104 rfl (Nat.le_of_ble_eq_true rfl) (fun w0 ok0 => ?_)
 generalize hM0 : blks _ = M0
 refine RG rfl (MV rfl (MV rfl (NC rfl (FA 0 rfl Tryz.underlying110 rfl Tryz.sizeOf108 (FA 0 rfl Tryz.underlying108 rfl Tryz.sizeOf32 (SR 0 [] [_] [_] [_] [_] [_,_] Tryz.sizeOf32 rfl (NC rfl (FA 0 rfl Tryz.underlying110 rfl Tryz.sizeOf108 (FA 1 rfl Tryz.underlying108 rfl Tryz.sizeOf4 (SR 0 [_] [_] [] [_] [_] [_,_] Tryz.sizeOf4 rfl (NI [] [] rfl (WD 1 [_] rfl ?_))))))))))))
 refine H_nilDat kByte (H_end0 Tryz.results104 (fun w hA => ⟨(),congrArg Ending.returned ?_,?_,?_⟩))
 ·rfl
 ·trivial
 ·exact hA.only (is:=[0,0]) (Z:=[]) rfl
theorem over_spec (b : List UInt8) (a : Option Addr) (c : Nat)  : Spec Tryz.prog 68 #[.slice a (b.length) c] [.dat kByte.sl (b) [.slice a (b.length) c]] (β:=Nat) (fun y => .pointer (some ⟨y,0,none⟩)) (fun y => True) (fun y => [.loc y [.slice a (b.length) c,.bool (false)] 110,.dat kByte.sl (b) [.slice a (b.length) c]]):=by
 refine Spec.enter (vs:=[_]) Tryz.func68 rfl Tryz.ntmps68 rfl (Nat.le_of_ble_eq_true rfl) (fun w0 ok0 => ?_)
 generalize hM0 : blks _ = M0
 have hMn:=@noM _ _ hM0 (by simp [Atom.dat,Atom.elem])
 refine SQ (RG rfl (AS rfl (NI [0] [_] rfl (SQ (RG rfl (MV rfl (HO_build (xo:=[(0,_)]) (vs:=[_]) rfl rfl rfl rfl (bd108_0_s) (HO_build (xo:=[(0,_)]) (vs:=[_]) rfl rfl rfl rfl (bd110_0_AsoE) (BX [_,_] rfl ?_)))))))))
 intro g6
 refine AS rfl (NI [2] [_] rfl (R1 Tryz.results68 g6 rfl (fun w hA => ⟨?_,?_,?_⟩)))
 ·rfl
 ·trivial
 ·exact hA.keep (m:=[yy,yy]) (Y:=[_,_]) rfl
theorem itemsint_spec (T : TypeId) (g : Nat) (b : List UInt8) (w : Bool) (a : Option Addr) (c : Nat) (k : Int) (hb : b.length≤100000) (hk : 0≤k∧k≤9223372036854775807) : Spec Tryz.prog 132 #[.pointer (some ⟨g,0,none⟩),.int .i64 (k),.func (.func 69) #[.pointer (some ⟨g,0,none⟩)] #[]] [.loc g [.slice a (b.length) c,.bool (w)] T,.dat kByte.sl (b) [.slice a (b.length) c]] (β:=(Option Addr × Nat) × (Option Addr × Nat)) (fun y => .slice y.2.1 (((Ent.listP k (b,w)).1).length) y.2.2) (fun y => True) (fun y => [.loc g [.slice y.1.1 (((Ent.listP k (b,w)).2.1).length) y.1.2,.bool ((Ent.listP k (b,w)).2.2)] T,.dat kByte.sl ((Ent.listP k (b,w)).2.1) [.slice y.1.1 (((Ent.listP k (b,w)).2.1).length) y.1.2],.dat kInt.sl ((Ent.listP k (b,w)).1) [.slice y.2.1 (((Ent.listP k (b,w)).1).length) y.2.2]]):=by
 refine Spec.enter (vs:=[_,_,_]) Tryz.func132 rfl Tryz.ntmps132 rfl (Nat.le_of_ble_eq_true rfl) (fun w0 ok0 => ?_)
 generalize hM0 : blks _ = M0
 refine SQ (RG rfl (AS rfl (NI [0,1,2] [_,_,_] rfl (SQ (RG rfl (AS rfl (HO_nil (SQ (SQ (RG rfl (MV rfl (NC rfl ?_))))))))))))
 refine FA 0 rfl Tryz.underlying110 rfl Tryz.sizeOf108 (MV rfl (DU 1 rfl (CB [0,0] [_] rfl Tryz.call101 (cCount_spec _ _ _ _ _ _ _ ?_) ?_)))
 ·omega
 intro y13 hy13
 generalize hr_r1 : Cod.cnt k b w = r1
 have hl_r1 : r1.2.1.length≤b.length:=hr_r1 ▸ Cod.cnt_len _ _ _
 refine AS rfl (NI [8,7,0,2] [_,_,_,_] rfl (WD 3 [_,_] rfl (BO (H_own0 kInt 3 none (H_loop (σ:=Nat × List UInt8 × Bool × List Int × Option Addr × Nat × Option Addr × Nat) (fun s => Ent.numsP r1.1 r1.2 = (s.2.2.2.1 ++ (Ent.numsP s.1 (s.2.1,s.2.2.1)).1,(Ent.numsP s.1 (s.2.1,s.2.2.1)).2)∧s.2.1.length≤100000∧(s.2.2.1 = false→s.2.2.2.1.length + s.2.1.length≤100000)∧s.1≤9223372036854775807) (fun s => [(0,.pointer (some ⟨g,0,none⟩)),(2,.func (.func 69) #[.pointer (some ⟨g,0,none⟩)] #[]),(7,.slice s.2.2.2.2.2.2.1 (s.2.2.2.1.length) s.2.2.2.2.2.2.2),(8,.int .i64 ((s.1 : Int)))]) (fun s => Asn w0 ok0 M0 [.loc g [.slice s.2.2.2.2.1 (s.2.1.length) s.2.2.2.2.2.1,.bool (s.2.2.1)] T,.dat kByte.sl (s.2.1) [.slice s.2.2.2.2.1 (s.2.1.length) s.2.2.2.2.2.1],.own 3 kInt s.2.2.2.2.2.2.1 s.2.2.2.2.2.2.2 (s.2.2.2.1)]) (fun s => s.1) ⟨r1.1,r1.2.1,r1.2.2,[],y13.1,y13.2,none,0⟩ ?_ ?_ ?_ ?_)))))
 ·exact ⟨by simp,by dsimp only;omega,fun _ => by dsimp only [List.length_nil];omega,by dsimp only;have:=Cod.cnt_le hk.1 b w;rw [hr_r1] at this;omega⟩
 ·exact ⟨rfl,rfl,rfl,rfl,trivial⟩
 ·intro w hA
  exact hA.only (is:=[0,1,0]) (Z:=[]) rfl
 ·rintro ⟨m,bs,wr,l,p,q,p2,q2⟩ hI
  (try dsimp only at hI ⊢)
  have hbs:=hI.2.1
  refine SQ (SQ (RG rfl (MV rfl (BN rfl bin_gtr (MV rfl (HO_split (d:=16) rfl ?_ ?_))))))
  ·intro h16
   replace h16:=dT h16
   refine MV rfl (NC rfl (FA 0 rfl Tryz.underlying110 rfl Tryz.sizeOf108 (FA 1 rfl Tryz.underlying108 rfl Tryz.sizeOf4 (LD 0 1 rfl Tryz.isAgg4 (NT rfl (PT rfl (NI [23,0,2,7,8] [_,_,_,_,_] rfl (H_cond rfl ?_ ?_))))))))
   ·intro h23
    replace h23:=nT h23
    refine SK (SQ (BO ?_))
    have hwr : wr = false:=by simpa using h23
    obtain ⟨m,rfl⟩ : ∃ q,m = q + 1:=⟨m - 1,by omega⟩
    refine RG rfl (MV rfl (MV rfl (DU 1 rfl (HO_call (first:=[_]) (capt:=[]) (is:=[0,0]) (R:=[_,_]) rfl rfl rfl rfl rfl Tryz.call69 rfl (cInt_spec _ _ _ _ _ _) ?_))))
    intro y28 hy28
    generalize hr_r2 : Cod.rd 0 (Cod.dec bs) bs wr = r2
    have hl_r2 : r2.2.1.length≤bs.length:=hr_r2 ▸ Cod.rd_len _ _ _ _
    have hz_r2:=Cod.zag_lo' hr_r2
    refine HO_buildSlice (kd:=kInt) (xo:=[_]) (vs:=[_]) (cs:=[_]) (xs:=[_]) rfl rfl rfl rfl Tryz.underlying29 elt3 rfl rfl rfl (by decide) (by decide) (by simp [Value.cells]) rfl (by intro ok w _;exact ⟨_,_,rfl,⟨rfl,by first | omega | (constructor <;> omega)⟩,rfl⟩) ?_
    intro g29
    refine HO_append (i:=4) (R:=[_,_,_,_]) rfl rfl rfl rfl rfl Tryz.underlying29 elt3 rfl rfl (SrcOk.own (j:=0) Tryz.underlying29 rfl rfl) ?_ ?_
    ·(simp only [List.length_append,List.length_cons,List.length_nil];have:=hI.2.2.1 hwr;omega)
    intro a30 c30
    refine AS rfl (NI [7,0,2,8] [_,_,_,_] rfl (WD 13 [_,_,_] rfl (BD (RG rfl (MV rfl (BN rfl (bin_sub ?_ ?_) ?_))))))
    ·omega
    ·omega
    refine AS rfl (NI [8,7,0,2] [_,_,_,_] rfl (H_inv (fun a w hf hA => ⟨⟨m,r2.2.1,r2.2.2,l ++ [Cod.zag r2.1],y28.1,y28.2,a30,c30⟩,?_,?_,hf.sub ?_,?_⟩)))
    ·exact ⟨by dsimp only; exact Ent.nums_more hI.1 hwr hr_r2,by dsimp only;omega,Ent.nums_more_len hwr hI.2.2.1 hr_r2,by dsimp only;omega⟩
    ·(try dsimp only);omega
    ·exact ⟨rfl,rfl,rfl,congrArg (fun z => some (Value.int .i64 z)) (by dsimp only;omega),trivial⟩
    ·exact hA.only (is:=[0,1,0]) (Z:=[]) rfl
   intro h23
   replace h23:=nF h23
   refine H_exit rfl (SQ ?_)
   have hps : Ent.numsP r1.1 r1.2 = (l,(bs,wr)):=by first | exact Ent.nums0 hI.1 (by omega) | exact Ent.numsW hI.1 h23
   have hlp : Ent.listP k (b,w) = (l,(bs,wr)):=Ent.listP_of hr_r1 hps
   refine RG rfl (MV rfl (AS rfl (NI [6] [_] rfl (H_freeze (i:=2) (R:=[_,_]) rfl (keepM hM0 ⟨(fun _ h => ⟨_,List.mem_of_getElem? (i:=0) rfl,h⟩),(fun _ h => nomatch h),trivial⟩) (R1 Tryz.results132 ((p,q),(p2,q2)) rfl (fun w hA => ⟨?_,?_,?_⟩))))))
   ·(rw [hlp])
   ·trivial
   ·(rw [hlp];exact hA.only (is:=[0,1,0]) (Z:=[]) rfl)
  intro h16
  replace h16:=dF h16
  refine NO rfl (NO rfl (NO rfl (NO rfl (NO rfl (NO rfl (PF rfl (NI [23,0,2,7,8] [_,_,_,_,_] rfl (CF rfl (H_exit rfl (SQ ?_))))))))))
  have hps : Ent.numsP r1.1 r1.2 = (l,(bs,wr)):=by first | exact Ent.nums0 hI.1 (by omega) | exact Ent.numsW hI.1 h23
  have hlp : Ent.listP k (b,w) = (l,(bs,wr)):=Ent.listP_of hr_r1 hps
  refine RG rfl (MV rfl (AS rfl (NI [6] [_] rfl (H_freeze (i:=2) (R:=[_,_]) rfl (keepM hM0 ⟨(fun _ h => ⟨_,List.mem_of_getElem? (i:=0) rfl,h⟩),(fun _ h => nomatch h),trivial⟩) (R1 Tryz.results132 ((p,q),(p2,q2)) rfl (fun w hA => ⟨?_,?_,?_⟩))))))
  ·(rw [hlp])
  ·trivial
  ·(rw [hlp];exact hA.only (is:=[0,1,0]) (Z:=[]) rfl)
theorem rreadlist_spec (T : TypeId) (g : Nat) (b : List UInt8) (w : Bool) (a : Option Addr) (c : Nat) (hb : b.length≤100000) : Spec Tryz.prog 135 #[.pointer (some ⟨g,0,none⟩)] [.loc g [.slice a (b.length) c,.bool (w)] T,.dat kByte.sl (b) [.slice a (b.length) c]] (β:=(Option Addr × Nat) × (Option Addr × Nat)) (fun y => .slice y.2.1 (((Ent.listP 1000000 (b,w)).1).length) y.2.2) (fun y => True) (fun y => [.loc g [.slice y.1.1 (((Ent.listP 1000000 (b,w)).2.1).length) y.1.2,.bool ((Ent.listP 1000000 (b,w)).2.2)] T,.dat kByte.sl ((Ent.listP 1000000 (b,w)).2.1) [.slice y.1.1 (((Ent.listP 1000000 (b,w)).2.1).length) y.1.2],.dat kInt.sl ((Ent.listP 1000000 (b,w)).1) [.slice y.2.1 (((Ent.listP 1000000 (b,w)).1).length) y.2.2]]):=by
 refine Spec.enter (vs:=[_]) Tryz.func135 rfl Tryz.ntmps135 rfl (Nat.le_of_ble_eq_true rfl) (fun w0 ok0 => ?_)
 generalize hM0 : blks _ = M0
 refine SQ (RG rfl (AS rfl (NI [0] [_] rfl (SQ (RG rfl (MV rfl (DU 1 rfl (CB [0,0] [_] rfl Tryz.call78 (rCount_spec _ _ _ _ _ _ _ ?_) ?_))))))))
 ·(constructor <;> decide)
 intro y7 hy7
 generalize hr_r1 : Cod.cnt 1000000 b w = r1
 have hl_r1 : r1.2.1.length≤b.length:=hr_r1 ▸ Cod.cnt_len _ _ _
 have hc9:=Cod.cnt_le (k:=1000000) (by decide) b w
 rw [hr_r1] at hc9
 refine AS rfl (NI [3,0] [_,_] rfl (WD 3 [_,_] rfl (SQ (RG rfl (AS rfl (HO_nil (SQ (SQ (RG rfl (AS rfl (HO_nil (BO ?_))))))))))))
 refine H_own0 kInt 3 none (H_loop (σ:=Nat × List UInt8 × Bool × List Int × Option Addr × Nat × Option Addr × Nat) (fun s => Ent.numsP r1.1 r1.2 = (s.2.2.2.1 ++ (Ent.numsP (r1.1 - s.1) (s.2.1,s.2.2.1)).1,(Ent.numsP (r1.1 - s.1) (s.2.1,s.2.2.1)).2)∧s.2.1.length≤100000∧(s.2.2.1 = false→s.2.2.2.1.length + s.2.1.length≤100000)∧s.1≤r1.1) (fun s => [(0,.pointer (some ⟨g,0,none⟩)),(3,.int .i64 ((r1.1 : Int))),(4,.slice s.2.2.2.2.2.2.1 (s.2.2.2.1.length) s.2.2.2.2.2.2.2),(5,.int .i64 ((s.1 : Int)))]) (fun s => Asn w0 ok0 M0 [.loc g [.slice s.2.2.2.2.1 (s.2.1.length) s.2.2.2.2.2.1,.bool (s.2.2.1)] T,.dat kByte.sl (s.2.1) [.slice s.2.2.2.2.1 (s.2.1.length) s.2.2.2.2.2.1],.own 3 kInt s.2.2.2.2.2.2.1 s.2.2.2.2.2.2.2 (s.2.2.2.1)]) (fun s => r1.1 - s.1) ⟨0,r1.2.1,r1.2.2,[],y7.1,y7.2,none,0⟩ ?_ ?_ ?_ ?_)
 ·exact ⟨by simp,by dsimp only;omega,fun _ => by dsimp only [List.length_nil];omega,Nat.zero_le _⟩
 ·exact ⟨rfl,rfl,rfl,rfl,trivial⟩
 ·intro w hA
  exact hA.only (is:=[0,1,0]) (Z:=[]) rfl
 ·rintro ⟨i,bs,wr,l,p,q,p2,q2⟩ hI
  (try dsimp only at hI ⊢)
  have hbs:=hI.2.1
  refine SQ (SQ (RG rfl (MV rfl (MV rfl (BN rfl bin_lss (MV rfl (HO_split (d:=11) rfl ?_ ?_)))))))
  ·intro h11
   replace h11:=dT h11
   refine MV rfl (NC rfl (FA 1 rfl Tryz.underlying117 rfl Tryz.sizeOf4 (LD 0 1 rfl Tryz.isAgg4 (NT rfl (PT rfl (NI [17,0,3,4,5] [_,_,_,_,_] rfl (H_cond rfl ?_ ?_)))))))
   ·intro h17
    replace h17:=nT h17
    refine SK (SQ (BO ?_))
    have hwr : wr = false:=by simpa using h17
    obtain ⟨m,hm⟩ : ∃ q,r1.1 - i = q + 1:=⟨r1.1 - i - 1,by omega⟩
    have hm2 : r1.1 - (i + 1) = m:=by omega
    rw [hm] at hI
    refine RG rfl (MV rfl (MV rfl (DU 1 rfl (CB [0,0] [_,_] rfl Tryz.call76 (rInt_spec _ _ _ _ _ _) ?_))))
    intro y22 hy22
    generalize hr_r2 : Cod.rd 0 (Cod.dec bs) bs wr = r2
    have hl_r2 : r2.2.1.length≤bs.length:=hr_r2 ▸ Cod.rd_len _ _ _ _
    have hz_r2:=Cod.zag_lo' hr_r2
    refine HO_buildSlice (kd:=kInt) (xo:=[_]) (vs:=[_]) (cs:=[_]) (xs:=[_]) rfl rfl rfl rfl Tryz.underlying29 elt3 rfl rfl rfl (by decide) (by decide) (by simp [Value.cells]) rfl (by intro ok w _;exact ⟨_,_,rfl,⟨rfl,by first | omega | (constructor <;> omega)⟩,rfl⟩) ?_
    intro g23
    refine HO_append (i:=4) (R:=[_,_,_,_]) rfl rfl rfl rfl rfl Tryz.underlying29 elt3 rfl rfl (SrcOk.own (j:=0) Tryz.underlying29 rfl rfl) ?_ ?_
    ·(simp only [List.length_append,List.length_cons,List.length_nil];have:=hI.2.2.1 hwr;omega)
    intro a24 c24
    refine AS rfl (NI [4,0,3,5] [_,_,_,_] rfl (WD 13 [_,_,_] rfl (BD (RG rfl (MV rfl (BN rfl (bin_add ?_ ?_) ?_))))))
    ·omega
    ·omega
    refine AS rfl (NI [5,4,0,3] [_,_,_,_] rfl (H_inv (fun a w hf hA => ⟨⟨i + 1,r2.2.1,r2.2.2,l ++ [Cod.zag r2.1],y22.1,y22.2,a24,c24⟩,?_,?_,hf.sub ?_,?_⟩)))
    ·exact ⟨by dsimp only;rw [hm2];exact Ent.nums_more hI.1 hwr hr_r2,by dsimp only;omega,Ent.nums_more_len hwr hI.2.2.1 hr_r2,by dsimp only;omega⟩
    ·(try dsimp only);omega
    ·exact ⟨rfl,rfl,rfl,rfl,trivial⟩
    ·exact hA.only (is:=[0,1,0]) (Z:=[]) rfl
   intro h17
   replace h17:=nF h17
   refine H_exit rfl (SQ ?_)
   have hps : Ent.numsP r1.1 r1.2 = (l,(bs,wr)):=by first | exact Ent.nums0 hI.1 (by omega) | exact Ent.numsW hI.1 h17
   have hlp : Ent.listP 1000000 (b,w) = (l,(bs,wr)):=Ent.listP_of hr_r1 hps
   refine RG rfl (MV rfl (AS rfl (NI [2] [_] rfl (H_freeze (i:=2) (R:=[_,_]) rfl (keepM hM0 ⟨(fun _ h => ⟨_,List.mem_of_getElem? (i:=0) rfl,h⟩),(fun _ h => nomatch h),trivial⟩) (R1 Tryz.results135 ((p,q),(p2,q2)) rfl (fun w hA => ⟨?_,?_,?_⟩))))))
   ·(rw [hlp])
   ·trivial
   ·(rw [hlp];exact hA.only (is:=[0,1,0]) (Z:=[]) rfl)
  intro h11
  replace h11:=dF h11
  refine NO rfl (NO rfl (NO rfl (NO rfl (NO rfl (PF rfl (NI [17,0,3,4,5] [_,_,_,_,_] rfl (CF rfl (H_exit rfl (SQ ?_)))))))))
  have hps : Ent.numsP r1.1 r1.2 = (l,(bs,wr)):=by first | exact Ent.nums0 hI.1 (by omega) | exact Ent.numsW hI.1 h17
  have hlp : Ent.listP 1000000 (b,w) = (l,(bs,wr)):=Ent.listP_of hr_r1 hps
  refine RG rfl (MV rfl (AS rfl (NI [2] [_] rfl (H_freeze (i:=2) (R:=[_,_]) rfl (keepM hM0 ⟨(fun _ h => ⟨_,List.mem_of_getElem? (i:=0) rfl,h⟩),(fun _ h => nomatch h),trivial⟩) (R1 Tryz.results135 ((p,q),(p2,q2)) rfl (fun w hA => ⟨?_,?_,?_⟩))))))
  ·(rw [hlp])
  ·trivial
  ·(rw [hlp];exact hA.only (is:=[0,1,0]) (Z:=[]) rfl)
theorem cconf_spec (T : TypeId) (g : Nat) (b : List UInt8) (w : Bool) (a : Option Addr) (c : Nat) (hb : b.length≤100000) : Spec Tryz.prog 105 #[.pointer (some ⟨g,0,none⟩)] [.loc g [.slice a (b.length) c,.bool (w)] T,.dat kByte.sl (b) [.slice a (b.length) c]] (β:=(Option Addr × Nat) × (Option Addr × Nat) × (Option Addr × Nat)) (fun y => .agg #[.slice y.2.1.1 (((Ent.confP (b,w)).1.vot).length) y.2.1.2,.slice y.2.2.1 (((Ent.confP (b,w)).1.lea).length) y.2.2.2]) (fun y => True) (fun y => [.loc g [.slice y.1.1 (((Ent.confP (b,w)).2.1).length) y.1.2,.bool ((Ent.confP (b,w)).2.2)] T,.dat kByte.sl ((Ent.confP (b,w)).2.1) [.slice y.1.1 (((Ent.confP (b,w)).2.1).length) y.1.2],.dat kInt.sl ((Ent.confP (b,w)).1.vot) [.slice y.2.1.1 (((Ent.confP (b,w)).1.vot).length) y.2.1.2],.dat kInt.sl ((Ent.confP (b,w)).1.lea) [.slice y.2.2.1 (((Ent.confP (b,w)).1.lea).length) y.2.2.2]]):=by
 refine Spec.enter (vs:=[_]) Tryz.func105 rfl Tryz.ntmps105 rfl (Nat.le_of_ble_eq_true rfl) (fun w0 ok0 => ?_)
 generalize hM0 : blks _ = M0
 refine SQ (RG rfl (AO [_,_] Tryz.zeroValue31 rfl ?_))
 intro g2
 refine HO_nil (SQ (RG rfl (MV rfl (NC rfl (FA 0 rfl Tryz.underlying110 rfl Tryz.sizeOf108 (HO_makeFunc (vs:=[_]) (us:=[]) rfl rfl rfl rfl (AS rfl (NI [3,2,0] [_,_,_] rfl (SQ (RG rfl (MV rfl (MV rfl ?_))))))))))))
 refine DU 2 rfl (CB [1,0] [_,_] rfl Tryz.call132 (itemsint_spec _ _ _ _ _ _ _ ?_ ?_) ?_)
 ·omega
 ·(constructor <;> decide)
 intro y11 hy11
 generalize hv1 : Ent.listP 1000000 (b,w) = v1
 have hvl1 : v1.2.1.length≤b.length:=by have:=Ent.listP_len 1000000 (b,w);rw [hv1] at this;exact this
 refine HO_build (xo:=[(0,_)]) (vs:=[_]) rfl rfl rfl rfl (bd31_0_s) (AO [_,_] Tryz.zeroValue31 rfl ?_)
 intro g4
 refine SR 0 [] [_,_] [] [_,_] [_,_,_,_,_] [_,_] Tryz.sizeOf31 rfl (NI [4,3,2,0] [_,_,_,_] rfl (WD 31 [_,_,_,_,_] rfl (SQ (RG rfl (MV rfl (MV rfl (DU 2 rfl (CB [1,0] [_,_,_,_] rfl Tryz.call132 (itemsint_spec _ _ _ _ _ _ _ ?_ ?_) ?_))))))))
 ·omega
 ·(constructor <;> decide)
 intro y15 hy15
 generalize hv2 : Ent.listP 1000000 (v1.2.1,v1.2.2) = v2
 have hvl2 : v2.2.1.length≤v1.2.1.length:=by have:=Ent.listP_len 1000000 (v1.2.1,v1.2.2);rw [hv2] at this;exact this
 refine FA 1 rfl Tryz.underlying31 rfl Tryz.sizeOf29 (SR 3 [_] [_] [] [_] [_,_,_,_,_,_] [_,_] Tryz.sizeOf29 rfl (NI [4,2] [_,_] rfl (WD 111 [_,_,_,_,_,_] rfl (SQ (RG rfl (LA 0 [] [_,_] [] rfl (.loc _ _ _) Tryz.isAgg31 Tryz.sizeOf31 rfl (SR 5 [] [_,_] [] [_,_] [_,_,_,_,_] [_,_] Tryz.sizeOf31 rfl (NI [2] [_] rfl (WD 61 [_,_,_,_,_] rfl ?_)))))))))
 have hcp:=Ent.confP_of hv1 hv2
 refine H_ret1 Tryz.results105 (.cell rfl (fun w hA => run_loadVarA (cs:=[_,_]) (Tryz.isAgg31 w) (Tryz.sizeOf31 w) (Tells.cells (.loc _ _ _) (hA.get (i:=0) rfl)))) (fun w hA => ⟨(y15.1,y11.2,y15.2),congrArg Ending.returned ?_,?_,?_⟩)
 ·(rw [hcp])
 ·trivial
 ·(rw [hcp];exact hA.only (is:=[1,2,3,3]) (Z:=[_]) rfl)
theorem rreadconf_spec (T : TypeId) (g : Nat) (b : List UInt8) (w : Bool) (a : Option Addr) (c : Nat) (hb : b.length≤100000) : Spec Tryz.prog 113 #[.pointer (some ⟨g,0,none⟩)] [.loc g [.slice a (b.length) c,.bool (w)] T,.dat kByte.sl (b) [.slice a (b.length) c]] (β:=(Option Addr × Nat) × (Option Addr × Nat) × (Option Addr × Nat)) (fun y => .agg #[.slice y.2.1.1 (((Ent.confP (b,w)).1.vot).length) y.2.1.2,.slice y.2.2.1 (((Ent.confP (b,w)).1.lea).length) y.2.2.2]) (fun y => True) (fun y => [.loc g [.slice y.1.1 (((Ent.confP (b,w)).2.1).length) y.1.2,.bool ((Ent.confP (b,w)).2.2)] T,.dat kByte.sl ((Ent.confP (b,w)).2.1) [.slice y.1.1 (((Ent.confP (b,w)).2.1).length) y.1.2],.dat kInt.sl ((Ent.confP (b,w)).1.vot) [.slice y.2.1.1 (((Ent.confP (b,w)).1.vot).length) y.2.1.2],.dat kInt.sl ((Ent.confP (b,w)).1.lea) [.slice y.2.2.1 (((Ent.confP (b,w)).1.lea).length) y.2.2.2]]):=by
 refine Spec.enter (vs:=[_]) Tryz.func113 rfl Tryz.ntmps113 rfl (Nat.le_of_ble_eq_true rfl) (fun w0 ok0 => ?_)
 generalize hM0 : blks _ = M0
 refine SQ (RG rfl (AO [_,_] Tryz.zeroValue31 rfl ?_))
 intro g2
 refine HO_nil (SQ (RG rfl (AO [_,_] Tryz.zeroValue31 rfl ?_)))
 intro g3
 refine HO_nil (SQ (RG rfl (MV rfl (DU 3 rfl (CB [2,0] [_,_,_] rfl Tryz.call135 (rreadlist_spec _ _ _ _ _ _ ?_) ?_)))))
 ·omega
 intro y5 hy5
 generalize hv1 : Ent.listP 1000000 (b,w) = v1
 have hvl1 : v1.2.1.length≤b.length:=by have:=Ent.listP_len 1000000 (b,w);rw [hv1] at this;exact this
 refine FA 0 rfl Tryz.underlying31 rfl Tryz.sizeOf29 (SR 3 [] [_] [_] [_] [_,_,_,_,_] [_,_] Tryz.sizeOf29 rfl (NI [3,2,0] [_,_,_] rfl (WD 31 [_,_,_,_,_] rfl (SQ (RG rfl (MV rfl (DU 2 rfl (CB [1,0] [_,_,_,_] rfl Tryz.call135 (rreadlist_spec _ _ _ _ _ _ ?_) ?_))))))))
 ·omega
 intro y8 hy8
 generalize hv2 : Ent.listP 1000000 (v1.2.1,v1.2.2) = v2
 have hvl2 : v2.2.1.length≤v1.2.1.length:=by have:=Ent.listP_len 1000000 (v1.2.1,v1.2.2);rw [hv2] at this;exact this
 refine FA 1 rfl Tryz.underlying31 rfl Tryz.sizeOf29 (SR 3 [_] [_] [] [_] [_,_,_,_,_,_] [_,_] Tryz.sizeOf29 rfl (NI [3,2] [_,_] rfl (WD 111 [_,_,_,_,_,_] rfl (SQ (RG rfl (LA 0 [] [_,_] [] rfl (.loc _ _ _) Tryz.isAgg31 Tryz.sizeOf31 rfl (SR 5 [] [_,_] [] [_,_] [_,_,_,_,_] [_,_] Tryz.sizeOf31 rfl (NI [2] [_] rfl (WD 61 [_,_,_,_,_] rfl ?_)))))))))
 have hcp:=Ent.confP_of hv1 hv2
 refine H_ret1 Tryz.results113 (.cell rfl (fun w hA => run_loadVarA (cs:=[_,_]) (Tryz.isAgg31 w) (Tryz.sizeOf31 w) (Tells.cells (.loc _ _ _) (hA.get (i:=0) rfl)))) (fun w hA => ⟨(y8.1,y5.2,y8.2),congrArg Ending.returned ?_,?_,?_⟩)
 ·(rw [hcp])
 ·trivial
 ·(rw [hcp];exact hA.only (is:=[1,2,3,3]) (Z:=[_]) rfl)
theorem creadent_spec (T : TypeId) (g : Nat) (b : List UInt8) (w : Bool) (a : Option Addr) (c : Nat) (hb : b.length≤100000) : Spec Tryz.prog 72 #[.pointer (some ⟨g,0,none⟩)] [.loc g [.slice a (b.length) c,.bool (w)] T,.dat kByte.sl (b) [.slice a (b.length) c]] (β:=(Option Addr × Nat) × (Option Addr × Nat) × (Option Addr × Nat)) (fun y => .agg #[.int .i64 ((Ent.entP (b,w)).1.idx),.int .i64 ((Ent.entP (b,w)).1.term),.int .i64 ((Ent.entP (b,w)).1.kind),.int .i64 ((Ent.entP (b,w)).1.cmd.kind),.int .i64 ((Ent.entP (b,w)).1.cmd.sess),.int .i64 ((Ent.entP (b,w)).1.cmd.seq),.string ((Ent.entP (b,w)).1.cmd.key),.string ((Ent.entP (b,w)).1.cmd.old),.string ((Ent.entP (b,w)).1.cmd.val),.string ((Ent.entP (b,w)).1.cmd.til),.int .i64 ((Ent.entP (b,w)).1.cmd.lim),.slice y.2.1.1 (((Ent.entP (b,w)).1.conf.vot).length) y.2.1.2,.slice y.2.2.1 (((Ent.entP (b,w)).1.conf.lea).length) y.2.2.2]) (fun y => True) (fun y => [.loc g [.slice y.1.1 (((Ent.entP (b,w)).2.1).length) y.1.2,.bool ((Ent.entP (b,w)).2.2)] T,.dat kByte.sl ((Ent.entP (b,w)).2.1) [.slice y.1.1 (((Ent.entP (b,w)).2.1).length) y.1.2],.dat kInt.sl ((Ent.entP (b,w)).1.conf.vot) [.slice y.2.1.1 (((Ent.entP (b,w)).1.conf.vot).length) y.2.1.2],.dat kInt.sl ((Ent.entP (b,w)).1.conf.lea) [.slice y.2.2.1 (((Ent.entP (b,w)).1.conf.lea).length) y.2.2.2]]):=by
 refine Spec.enter (vs:=[_]) Tryz.func72 rfl Tryz.ntmps72 rfl (Nat.le_of_ble_eq_true rfl) (fun w0 ok0 => ?_)
 generalize hM0 : blks _ = M0
 refine SQ (RG rfl (AO [_,_,_,_,_,_,_,_,_,_,_,_,_] Tryz.zeroValue70 rfl ?_))
 intro g2
 refine HO_nil (SQ (H_meetE (σ:=(Nat × List UInt8 × Bool) × (Nat × List UInt8 × Bool) × (Nat × List UInt8 × Bool) × Option Addr × Nat × Nat) _ (fun s => Cod.rd 0 (Cod.dec b) b w = s.1∧Cod.rd 0 (Cod.dec s.1.2.1) s.1.2.1 s.1.2.2 = s.2.1∧Cod.rd 0 (Cod.dec s.2.1.2.1) s.2.1.2.1 s.2.1.2.2 = s.2.2.1) (fun s => [(0,.pointer (some ⟨g,0,none⟩)),(2,.pointer (some ⟨g2,0,none⟩)),(3,.pointer (some ⟨s.2.2.2.2.2,0,none⟩))]) (fun s => Asn w0 ok0 M0 [.loc g [.slice s.2.2.2.1 ((s.2.2.1.2.1).length) s.2.2.2.2.1,.bool (s.2.2.1.2.2)] T,.dat kByte.sl (s.2.2.1.2.1) [.slice s.2.2.2.1 ((s.2.2.1.2.1).length) s.2.2.2.2.1],.loc g2 [.int .i64 (0),.int .i64 (0),.int .i64 (0),.int .i64 (0),.int .i64 (0),.int .i64 (0),.string (⟨#[]⟩),.string (⟨#[]⟩),.string (⟨#[]⟩),.string (⟨#[]⟩),.int .i64 (0),.slice none 0 0,.slice none 0 0] 70,.loc s.2.2.2.2.2 [.int .i64 (Cod.zag s.1.1),.int .i64 (Cod.zag s.2.1.1),.int .i64 (Cod.zag s.2.2.1.1),.int .i64 (0),.int .i64 (0),.int .i64 (0),.string (⟨#[]⟩),.string (⟨#[]⟩),.string (⟨#[]⟩),.string (⟨#[]⟩),.int .i64 (0),.slice none 0 0,.slice none 0 0] 70]) ?_ ?_))
 ·skip
  refine H_drawB (m:=[yy,nn,yy]) (Xs:=[_,_]) (fuel:=15) (l:=#[false,false,false,false,false,false,false,false,false,false,false,false,false,false,false]) mixed rfl rfl rfl (TK 0 5 [_,_] rfl (by kernel_rfl) (V_move rfl) (TK 1 5 [_,_] rfl (by kernel_rfl) (V_nilCheck rfl) (TK 2 5 [_,_] rfl (by kernel_rfl) (V_fieldAddr (r:=0) rfl Tryz.underlying110 rfl Tryz.sizeOf108 rfl) (TK 4 5 [_,_] rfl (by kernel_rfl) (V_move rfl) (TK 5 5 [_,_] rfl (by kernel_rfl) (V_nilCheck rfl) (TK 6 5 [_,_] rfl (by kernel_rfl) (V_fieldAddr (r:=0) rfl Tryz.underlying110 rfl Tryz.sizeOf108 rfl) (TK 8 5 [_,_] rfl (by kernel_rfl) (V_move rfl) (TK 9 5 [_,_] rfl (by kernel_rfl) (V_nilCheck rfl) (TK 10 5 [_,_] rfl (by kernel_rfl) (V_fieldAddr (r:=0) rfl Tryz.underlying110 rfl Tryz.sizeOf108 rfl) (HA_loud2 (i:=3) (j:=13) (by kernel_rfl) rfl rfl ?_ ?_))))))))))
  ·refine HO_dup (i:=2) rfl rfl ?_
   refine CB [1,0] [_,_] rfl Tryz.call69 (cInt_spec _ _ _ _ _ _) ?_
   intro y9 hy9
   refine BK 12 [_,_] rfl (HA_loud2 (i:=7) (j:=13) (by kernel_rfl) rfl rfl ?_ ?_)
   ·generalize hr_r1 : Cod.rd 0 (Cod.dec b) b w = r1
    have hl_r1 : r1.2.1.length≤b.length:=hr_r1 ▸ Cod.rd_len _ _ _ _
    refine DU 1 rfl (CB [0,0] [_,_,_] rfl Tryz.call69 (cInt_spec _ _ _ _ _ _) ?_)
    intro y13 hy13
    refine BK 24 [_,_] rfl (HA_loud2 (i:=11) (j:=13) (by kernel_rfl) rfl rfl ?_ ?_)
    ·generalize hr_r2 : Cod.rd 0 (Cod.dec r1.2.1) r1.2.1 r1.2.2 = r2
     have hl_r2 : r2.2.1.length≤r1.2.1.length:=hr_r2 ▸ Cod.rd_len _ _ _ _
     refine DU 1 rfl (CB [0,0] [_,_,_,_] rfl Tryz.call69 (cInt_spec _ _ _ _ _ _) ?_)
     intro y17 hy17
     refine BK 48 [_,_] rfl ?_
     generalize hr_r3 : Cod.rd 0 (Cod.dec r2.2.1) r2.2.1 r2.2.2 = r3
     have hl_r3 : r3.2.1.length≤r2.2.1.length:=hr_r3 ▸ Cod.rd_len _ _ _ _
     refine TK 12 48 [_,_] rfl (by kernel_rfl) (V_build (xo:=[(0,_),(1,_),(2,_)]) (vs:=[_,_,_]) rfl rfl (bd70_0_1_2_iii)) (LO 13 (by kernel_rfl) rfl (AO [_,_,_,_,_,_,_,_,_,_,_,_,_] Tryz.zeroValue70 rfl ?_))
     intro g3
     refine BK 96 [_,_] rfl (LO 14 (by kernel_rfl) rfl (SR 0 [] [_,_,_,_,_,_,_,_,_,_,_,_,_] [] [_,_,_,_,_,_,_,_,_,_,_,_,_] [_,_,_,_,_,_] [_,_,_,_,_,_,_,_,_,_,_,_,_] Tryz.sizeOf70 rfl (BK 96 [_,_] rfl (HA_done (by kernel_rfl) (EV [3,2,0] [_,_,_] rfl (WD 39 [_,_,_,_] rfl (H_inv (fun a w hf hA => ⟨⟨r1,r2,r3,y17.1,y17.2,g3⟩,?_,hf.sub ?_,?_⟩))))))))
     ·exact ⟨rfl,hr_r2,hr_r3⟩
     ·exact ⟨rfl,rfl,rfl,trivial⟩
     ·exact hA.only (is:=[0,1,2,0]) (Z:=[]) rfl
    ·refine HO_alloc (cs:=[_,_,_,_,_,_,_,_,_,_,_,_,_]) rfl rfl Tryz.zeroValue70 rfl ?_
     intro g3
     refine BK 48 [_,_] rfl (LO 11 (by kernel_rfl) rfl ?_)
     generalize hr_r2 : Cod.rd 0 (Cod.dec r1.2.1) r1.2.1 r1.2.2 = r2
     have hl_r2 : r2.2.1.length≤r1.2.1.length:=hr_r2 ▸ Cod.rd_len _ _ _ _
     refine DU 2 rfl (CB [1,0] [_,_,_,_,_] rfl Tryz.call69 (cInt_spec _ _ _ _ _ _) ?_)
     intro y17 hy17
     refine BK 96 [_,_] rfl ?_
     generalize hr_r3 : Cod.rd 0 (Cod.dec r2.2.1) r2.2.1 r2.2.2 = r3
     have hl_r3 : r3.2.1.length≤r2.2.1.length:=hr_r3 ▸ Cod.rd_len _ _ _ _
     refine TK 12 96 [_,_] rfl (by kernel_rfl) (V_build (xo:=[(0,_),(1,_),(2,_)]) (vs:=[_,_,_]) rfl rfl (bd70_0_1_2_iii)) (LO 14 (by kernel_rfl) rfl (SR 2 [] [_,_,_,_,_,_,_,_,_,_,_,_,_] [] [_,_,_,_,_,_,_,_,_,_,_,_,_] [_,_,_,_,_,_] [_,_,_,_,_,_,_,_,_,_,_,_,_] Tryz.sizeOf70 rfl (BK 96 [_,_] rfl (HA_done (by kernel_rfl) (EV [3,2,0] [_,_,_] rfl (WD 39 [_,_,_,_] rfl (H_inv (fun a w hf hA => ⟨⟨r1,r2,r3,y17.1,y17.2,g3⟩,?_,hf.sub ?_,?_⟩))))))))
     ·exact ⟨rfl,hr_r2,hr_r3⟩
     ·exact ⟨rfl,rfl,rfl,trivial⟩
     ·exact hA.only (is:=[0,1,2,0]) (Z:=[]) rfl
   ·refine HO_alloc (cs:=[_,_,_,_,_,_,_,_,_,_,_,_,_]) rfl rfl Tryz.zeroValue70 rfl ?_
    intro g3
    refine BK 24 [_,_] rfl (LO 7 (by kernel_rfl) rfl ?_)
    generalize hr_r1 : Cod.rd 0 (Cod.dec b) b w = r1
    have hl_r1 : r1.2.1.length≤b.length:=hr_r1 ▸ Cod.rd_len _ _ _ _
    refine DU 2 rfl (CB [1,0] [_,_,_,_] rfl Tryz.call69 (cInt_spec _ _ _ _ _ _) ?_)
    intro y13 hy13
    refine BK 48 [_,_] rfl (LO 11 (by kernel_rfl) rfl ?_)
    generalize hr_r2 : Cod.rd 0 (Cod.dec r1.2.1) r1.2.1 r1.2.2 = r2
    have hl_r2 : r2.2.1.length≤r1.2.1.length:=hr_r2 ▸ Cod.rd_len _ _ _ _
    refine DU 1 rfl (CB [0,0] [_,_,_,_,_] rfl Tryz.call69 (cInt_spec _ _ _ _ _ _) ?_)
    intro y17 hy17
    refine BK 96 [_,_] rfl ?_
    generalize hr_r3 : Cod.rd 0 (Cod.dec r2.2.1) r2.2.1 r2.2.2 = r3
    have hl_r3 : r3.2.1.length≤r2.2.1.length:=hr_r3 ▸ Cod.rd_len _ _ _ _
    refine TK 12 96 [_,_] rfl (by kernel_rfl) (V_build (xo:=[(0,_),(1,_),(2,_)]) (vs:=[_,_,_]) rfl rfl (bd70_0_1_2_iii)) (LO 14 (by kernel_rfl) rfl (SR 3 [] [_,_,_,_,_,_,_,_,_,_,_,_,_] [] [_,_,_,_,_,_,_,_,_,_,_,_,_] [_,_,_,_,_,_] [_,_,_,_,_,_,_,_,_,_,_,_,_] Tryz.sizeOf70 rfl (BK 96 [_,_] rfl (HA_done (by kernel_rfl) (EV [3,2,0] [_,_,_] rfl (WD 39 [_,_,_,_] rfl (H_inv (fun a w hf hA => ⟨⟨r1,r2,r3,y17.1,y17.2,g3⟩,?_,hf.sub ?_,?_⟩))))))))
    ·exact ⟨rfl,hr_r2,hr_r3⟩
    ·exact ⟨rfl,rfl,rfl,trivial⟩
    ·exact hA.only (is:=[0,1,2,0]) (Z:=[]) rfl
  ·refine HO_alloc (cs:=[_,_,_,_,_,_,_,_,_,_,_,_,_]) rfl rfl Tryz.zeroValue70 rfl ?_
   intro g3
   refine BK 10 [_,_] rfl (LO 3 (by kernel_rfl) rfl (DU 3 rfl (CB [2,0] [_,_,_] rfl Tryz.call69 (cInt_spec _ _ _ _ _ _) ?_)))
   intro y9 hy9
   refine BK 24 [_,_] rfl (LO 7 (by kernel_rfl) rfl ?_)
   generalize hr_r1 : Cod.rd 0 (Cod.dec b) b w = r1
   have hl_r1 : r1.2.1.length≤b.length:=hr_r1 ▸ Cod.rd_len _ _ _ _
   refine DU 1 rfl (CB [0,0] [_,_,_,_] rfl Tryz.call69 (cInt_spec _ _ _ _ _ _) ?_)
   intro y13 hy13
   refine BK 48 [_,_] rfl (LO 11 (by kernel_rfl) rfl ?_)
   generalize hr_r2 : Cod.rd 0 (Cod.dec r1.2.1) r1.2.1 r1.2.2 = r2
   have hl_r2 : r2.2.1.length≤r1.2.1.length:=hr_r2 ▸ Cod.rd_len _ _ _ _
   refine DU 1 rfl (CB [0,0] [_,_,_,_,_] rfl Tryz.call69 (cInt_spec _ _ _ _ _ _) ?_)
   intro y17 hy17
   refine BK 96 [_,_] rfl ?_
   generalize hr_r3 : Cod.rd 0 (Cod.dec r2.2.1) r2.2.1 r2.2.2 = r3
   have hl_r3 : r3.2.1.length≤r2.2.1.length:=hr_r3 ▸ Cod.rd_len _ _ _ _
   refine TK 12 96 [_,_] rfl (by kernel_rfl) (V_build (xo:=[(0,_),(1,_),(2,_)]) (vs:=[_,_,_]) rfl rfl (bd70_0_1_2_iii)) (LO 14 (by kernel_rfl) rfl (SR 4 [] [_,_,_,_,_,_,_,_,_,_,_,_,_] [] [_,_,_,_,_,_,_,_,_,_,_,_,_] [_,_,_,_,_,_] [_,_,_,_,_,_,_,_,_,_,_,_,_] Tryz.sizeOf70 rfl (BK 96 [_,_] rfl (HA_done (by kernel_rfl) (EV [3,2,0] [_,_,_] rfl (WD 39 [_,_,_,_] rfl (H_inv (fun a w hf hA => ⟨⟨r1,r2,r3,y17.1,y17.2,g3⟩,?_,hf.sub ?_,?_⟩))))))))
   ·exact ⟨rfl,hr_r2,hr_r3⟩
   ·exact ⟨rfl,rfl,rfl,trivial⟩
   ·exact hA.only (is:=[0,1,2,0]) (Z:=[]) rfl
 rintro ⟨r1,r2,r3,p,q,g3⟩ hJ
 (try dsimp only at hJ ⊢)
 obtain ⟨hr_r1,hr_r2,hr_r3⟩:=hJ
 have hl_r1 : r1.2.1.length≤b.length:=hr_r1 ▸ Cod.rd_len _ _ _ _
 have hl_r2 : r2.2.1.length≤r1.2.1.length:=hr_r2 ▸ Cod.rd_len _ _ _ _
 have hl_r3 : r3.2.1.length≤r2.2.1.length:=hr_r3 ▸ Cod.rd_len _ _ _ _
 refine SQ (SQ (RG rfl (FA 2 rfl Tryz.underlying70 rfl Tryz.sizeOf3 (LD 3 2 rfl Tryz.isAgg3 (NI [20,0,2,3] [_,_,_,_] rfl (BO (SQ (RG rfl (BN rfl bin_eql (AS rfl (NI [21,20,0,2,3] [_,_,_,_,_] rfl ?_)))))))))))
 refine H_cond rfl ?_ ?_
 ·intro h21
  replace h21:=dT h21
  refine SQ (RG rfl (MV rfl (NC rfl (FA 0 rfl Tryz.underlying110 rfl Tryz.sizeOf108 (DU 1 rfl (CB [0,0] [_,_,_] rfl Tryz.call103 (cText_spec _ _ _ _ _ _ ?_) ?_))))))
  ·(first | omega | assumption | decide)
  intro y27 hy27
  generalize hr_r4 : Cod.rd [] (Cod.decT r3.2.1) r3.2.1 r3.2.2 = r4
  have hl_r4 : r4.2.1.length≤r3.2.1.length:=hr_r4 ▸ Cod.rd_len _ _ _ _
  have hs_r4:=Cod.rdT_size hr_r4
  refine HO_strBytes rfl rfl rfl Tryz.underlying9 Tryz.underlying32 Tryz.underlying5 ?_ ?_
  ·(simp only [maxLen];omega)
  intro a28 c28
  refine DU 0 rfl (CB [0] [_,_,_,_,_,_] rfl Tryz.call102 (cread_spec _ _ _ ?_) ?_)
  ·(have h:=hs_r4;rw [Cod.size_mk] at h;show List.length r4.1≤_;omega)
  intro y29 hy29
  clear y29 hy29
  generalize hc4 : Cmd.read ({ data:=r4.1.toArray } : ByteArray).data.toList = c4
  replace hc4 : Cmd.read r4.1 = c4:=hc4
  refine MV rfl (EX [_,_] rfl (EX [_,_] rfl (AO [_,_,_,_,_,_,_,_] Tryz.zeroValue68 rfl ?_)))
  intro g4
  refine SR 0 [] [_,_,_,_,_,_,_,_] [] [_,_,_,_,_,_,_,_] [_,_,_,_,_,_] [_,_,_,_,_,_,_,_] Tryz.sizeOf68 rfl (AS rfl (NI [5,4,0,2,3] [_,_,_,_,_] rfl (WD 109 [_,_,_,_,_] rfl (SQ (SQ (RG rfl (MV rfl (BN rfl bin_neq (NI [33,4,0,2,3] [_,_,_,_,_] rfl (H_cond rfl ?_ ?_))))))))))
  ·intro h33
   replace h33:=dT h33
   refine RG rfl (MV rfl (DU 2 rfl (CB [1,0] [_,_,_,_] rfl Tryz.call104 (rwrong_spec _ _ _ _ _ _) ?_)))
   intro y35 hy35
   clear y35 hy35
   refine NI [4,2,3] [_,_,_] rfl (WD 55 [_,_,_,_,_] rfl (RG rfl (LA 2 [] [_,_,_,_,_,_,_,_] [] rfl (.loc _ _ _) Tryz.isAgg68 Tryz.sizeOf68 rfl (FA 3 rfl Tryz.underlying70 rfl Tryz.sizeOf68 (SR 4 [_,_,_] [_,_,_,_,_,_,_,_] [_,_] [_,_,_,_,_,_,_,_] [_,_,_,_] [_,_,_,_,_,_,_,_,_,_,_,_,_] Tryz.sizeOf68 rfl (NI [2,3] [_,_] rfl (WD 23 [_,_,_,_] rfl (BD (SQ (RG rfl (LA 0 [] [_,_,_,_,_,_,_,_,_,_,_,_,_] [] rfl (.loc _ _ _) Tryz.isAgg70 Tryz.sizeOf70 rfl ?_)))))))))))
   refine SR 3 [] [_,_,_,_,_,_,_,_,_,_,_,_,_] [] [_,_,_,_,_,_,_,_,_,_,_,_,_] [_,_,_] [_,_,_,_,_,_,_,_,_,_,_,_,_] Tryz.sizeOf70 rfl (NI [2] [_] rfl (WD 13 [_,_,_] rfl (H_nilDat kInt (H_nilDat kInt ?_))))
   have hent:=(Ent.entP_2 hr_r1 hr_r2 hr_r3 hr_r4 h21).trans (by rw [hc4,if_neg h33])
   refine H_ret1 Tryz.results72 (.cell rfl (fun w hA => run_loadVarA (cs:=[_,_,_,_,_,_,_,_,_,_,_,_,_]) (Tryz.isAgg70 w) (Tryz.sizeOf70 w) (Tells.cells (.loc _ _ _) (hA.get (i:=2) rfl)))) (fun w hA => ⟨((none,0),(none,0),(none,0)),congrArg Ending.returned ?_,?_,?_⟩)
   ·(rw [hent] <;> rfl)
   ·trivial
   ·(rw [hent];exact hA.only (is:=[1,2,0,0]) (Z:=[_]) rfl)
  intro h33
  replace h33:=dF h33
  refine SK (RG rfl (LA 0 [] [_,_,_,_,_,_,_,_] [] rfl (.loc _ _ _) Tryz.isAgg68 Tryz.sizeOf68 rfl (FA 3 rfl Tryz.underlying70 rfl Tryz.sizeOf68 (SR 4 [_,_,_] [_,_,_,_,_,_,_,_] [_,_] [_,_,_,_,_,_,_,_] [_,_,_,_] [_,_,_,_,_,_,_,_,_,_,_,_,_] Tryz.sizeOf68 rfl (NI [2,3] [_,_] rfl (WD 29 [_,_,_,_] rfl (BD (SQ (RG rfl (LA 0 [] [_,_,_,_,_,_,_,_,_,_,_,_,_] [] rfl (.loc _ _ _) Tryz.isAgg70 Tryz.sizeOf70 rfl (SR 3 [] [_,_,_,_,_,_,_,_,_,_,_,_,_] [] [_,_,_,_,_,_,_,_,_,_,_,_,_] [_,_,_] [_,_,_,_,_,_,_,_,_,_,_,_,_] Tryz.sizeOf70 rfl (HO_nil ?_))))))))))))
  refine EV [2] [_] rfl (WD 13 [_,_,_] rfl (H_nilDat kInt (H_nilDat kInt ?_)))
  have hent:=(Ent.entP_2 hr_r1 hr_r2 hr_r3 hr_r4 h21).trans (by rw [hc4,if_pos (Decidable.not_not.1 h33)])
  refine H_ret1 Tryz.results72 (.cell rfl (fun w hA => run_loadVarA (cs:=[_,_,_,_,_,_,_,_,_,_,_,_,_]) (Tryz.isAgg70 w) (Tryz.sizeOf70 w) (Tells.cells (.loc _ _ _) (hA.get (i:=2) rfl)))) (fun w hA => ⟨(y27,(none,0),(none,0)),congrArg Ending.returned ?_,?_,?_⟩)
  ·(rw [hent] <;> rfl)
  ·trivial
  ·(rw [hent];exact hA.only (is:=[1,2,0,0]) (Z:=[_]) rfl)
 intro h21
 replace h21:=dF h21
 refine SQ (RG rfl (BN rfl bin_eql (AS rfl (NI [38,0,2,3] [_,_,_,_] rfl (H_cond rfl ?_ ?_)))))
 ·intro h38
  replace h38:=dT h38
  refine RG rfl (MV rfl (DU 1 rfl (CB [0,0] [_,_,_] rfl Tryz.call105 (cconf_spec _ _ _ _ _ _ ?_) ?_)))
  ·(first | omega | assumption | decide)
  intro y41 hy41
  generalize hc3 : Ent.confP (r3.2.1,r3.2.2) = c3
  refine FA 11 rfl Tryz.underlying70 rfl Tryz.sizeOf31 (SR 6 [_,_,_,_,_,_,_,_,_,_,_] [_,_] [] [_,_] [_,_,_,_,_,_] [_,_,_,_,_,_,_,_,_,_,_,_,_] Tryz.sizeOf31 rfl (NI [2,3] [_,_] rfl (WD 95 [_,_,_,_,_,_] rfl (BD (SQ (RG rfl (LA 0 [] [_,_,_,_,_,_,_,_,_,_,_,_,_] [] rfl (.loc _ _ _) Tryz.isAgg70 Tryz.sizeOf70 rfl (SR 5 [] [_,_,_,_,_,_,_,_,_,_,_,_,_] [] [_,_,_,_,_,_,_,_,_,_,_,_,_] [_,_,_,_,_] [_,_,_,_,_,_,_,_,_,_,_,_,_] Tryz.sizeOf70 rfl (NI [2] [_] rfl (WD 61 [_,_,_,_,_] rfl ?_))))))))))
  have hent:=(Ent.entP_3 hr_r1 hr_r2 hr_r3 h38).trans (by rw [hc3])
  refine H_ret1 Tryz.results72 (.cell rfl (fun w hA => run_loadVarA (cs:=[_,_,_,_,_,_,_,_,_,_,_,_,_]) (Tryz.isAgg70 w) (Tryz.sizeOf70 w) (Tells.cells (.loc _ _ _) (hA.get (i:=0) rfl)))) (fun w hA => ⟨y41,congrArg Ending.returned ?_,?_,?_⟩)
  ·(rw [hent] <;> rfl)
  ·trivial
  ·(rw [hent];exact hA.keep (m:=[nn,yy,yy,yy,yy]) (Y:=[_,_,_,_]) rfl)
 intro h38
 replace h38:=dF h38
 refine SK (BD (SQ (RG rfl (LA 3 [] [_,_,_,_,_,_,_,_,_,_,_,_,_] [] rfl (.loc _ _ _) Tryz.isAgg70 Tryz.sizeOf70 rfl (SR 2 [] [_,_,_,_,_,_,_,_,_,_,_,_,_] [] [_,_,_,_,_,_,_,_,_,_,_,_,_] [_,_,_] [_,_,_,_,_,_,_,_,_,_,_,_,_] Tryz.sizeOf70 rfl (NI [2] [_] rfl (WD 7 [_,_,_] rfl (H_nilDat kInt (H_nilDat kInt ?_)))))))))
 have hent:=Ent.entP_0 hr_r1 hr_r2 hr_r3 h21 h38
 refine H_ret1 Tryz.results72 (.cell rfl (fun w hA => run_loadVarA (cs:=[_,_,_,_,_,_,_,_,_,_,_,_,_]) (Tryz.isAgg70 w) (Tryz.sizeOf70 w) (Tells.cells (.loc _ _ _) (hA.get (i:=2) rfl)))) (fun w hA => ⟨((p,q),(none,0),(none,0)),congrArg Ending.returned ?_,?_,?_⟩)
 ·(rw [hent] <;> rfl)
 ·trivial
 ·(rw [hent];exact hA.only (is:=[1,2,0,0]) (Z:=[_]) rfl)
theorem rreadent_spec (T : TypeId) (g : Nat) (b : List UInt8) (w : Bool) (a : Option Addr) (c : Nat) (hb : b.length≤100000) : Spec Tryz.prog 79 #[.pointer (some ⟨g,0,none⟩)] [.loc g [.slice a (b.length) c,.bool (w)] T,.dat kByte.sl (b) [.slice a (b.length) c]] (β:=(Option Addr × Nat) × (Option Addr × Nat) × (Option Addr × Nat)) (fun y => .agg #[.int .i64 ((Ent.entP (b,w)).1.idx),.int .i64 ((Ent.entP (b,w)).1.term),.int .i64 ((Ent.entP (b,w)).1.kind),.int .i64 ((Ent.entP (b,w)).1.cmd.kind),.int .i64 ((Ent.entP (b,w)).1.cmd.sess),.int .i64 ((Ent.entP (b,w)).1.cmd.seq),.string ((Ent.entP (b,w)).1.cmd.key),.string ((Ent.entP (b,w)).1.cmd.old),.string ((Ent.entP (b,w)).1.cmd.val),.string ((Ent.entP (b,w)).1.cmd.til),.int .i64 ((Ent.entP (b,w)).1.cmd.lim),.slice y.2.1.1 (((Ent.entP (b,w)).1.conf.vot).length) y.2.1.2,.slice y.2.2.1 (((Ent.entP (b,w)).1.conf.lea).length) y.2.2.2]) (fun y => True) (fun y => [.loc g [.slice y.1.1 (((Ent.entP (b,w)).2.1).length) y.1.2,.bool ((Ent.entP (b,w)).2.2)] T,.dat kByte.sl ((Ent.entP (b,w)).2.1) [.slice y.1.1 (((Ent.entP (b,w)).2.1).length) y.1.2],.dat kInt.sl ((Ent.entP (b,w)).1.conf.vot) [.slice y.2.1.1 (((Ent.entP (b,w)).1.conf.vot).length) y.2.1.2],.dat kInt.sl ((Ent.entP (b,w)).1.conf.lea) [.slice y.2.2.1 (((Ent.entP (b,w)).1.conf.lea).length) y.2.2.2]]):=by
 refine Spec.enter (vs:=[_]) Tryz.func79 rfl Tryz.ntmps79 rfl (Nat.le_of_ble_eq_true rfl) (fun w0 ok0 => ?_)
 generalize hM0 : blks _ = M0
 refine SQ (RG rfl (AO [_,_,_,_,_,_,_,_,_,_,_,_,_] Tryz.zeroValue70 rfl ?_))
 intro g2
 refine HO_nil (SQ (RG rfl (AO [_,_,_,_,_,_,_,_,_,_,_,_,_] Tryz.zeroValue70 rfl ?_)))
 intro g3
 refine HO_nil (SQ (RG rfl (MV rfl (DU 3 rfl (CB [2,0] [_,_,_] rfl Tryz.call76 (rInt_spec _ _ _ _ _ _) ?_)))))
 intro y7 hy7
 generalize hr_r1 : Cod.rd 0 (Cod.dec b) b w = r1
 have hl_r1 : r1.2.1.length≤b.length:=hr_r1 ▸ Cod.rd_len _ _ _ _
 refine FA 0 rfl Tryz.underlying70 rfl Tryz.sizeOf3 (SR 2 [] [_] [_,_,_,_,_,_,_,_,_,_,_,_] [_] [_,_,_,_] [_,_,_,_,_,_,_,_,_,_,_,_,_] Tryz.sizeOf3 rfl (NI [3,2,0] [_,_,_] rfl (WD 15 [_,_,_,_] rfl (SQ (RG rfl (MV rfl (DU 2 rfl (CB [1,0] [_,_,_] rfl Tryz.call76 (rInt_spec _ _ _ _ _ _) ?_))))))))
 intro y10 hy10
 generalize hr_r2 : Cod.rd 0 (Cod.dec r1.2.1) r1.2.1 r1.2.2 = r2
 have hl_r2 : r2.2.1.length≤r1.2.1.length:=hr_r2 ▸ Cod.rd_len _ _ _ _
 refine FA 1 rfl Tryz.underlying70 rfl Tryz.sizeOf3 (SR 2 [_] [_] [_,_,_,_,_,_,_,_,_,_,_] [_] [_,_,_,_] [_,_,_,_,_,_,_,_,_,_,_,_,_] Tryz.sizeOf3 rfl (NI [3,2,0] [_,_,_] rfl (WD 23 [_,_,_,_] rfl (SQ (RG rfl (MV rfl (DU 2 rfl (CB [1,0] [_,_,_] rfl Tryz.call76 (rInt_spec _ _ _ _ _ _) ?_))))))))
 intro y13 hy13
 generalize hr_r3 : Cod.rd 0 (Cod.dec r2.2.1) r2.2.1 r2.2.2 = r3
 have hl_r3 : r3.2.1.length≤r2.2.1.length:=hr_r3 ▸ Cod.rd_len _ _ _ _
 refine FA 2 rfl Tryz.underlying70 rfl Tryz.sizeOf3 (SR 2 [_,_] [_] [_,_,_,_,_,_,_,_,_,_] [_] [_,_,_,_] [_,_,_,_,_,_,_,_,_,_,_,_,_] Tryz.sizeOf3 rfl (NI [3,2,0] [_,_,_] rfl (WD 23 [_,_,_,_] rfl (SQ (SQ (RG rfl (FA 2 rfl Tryz.underlying70 rfl Tryz.sizeOf3 (LD 0 2 rfl Tryz.isAgg3 (BN rfl bin_eql (NI [17,3,2,0] [_,_,_,_] rfl (H_cond rfl ?_ ?_)))))))))))
 ·intro h17
  replace h17:=dT h17
  refine SQ (RG rfl (MV rfl (DU 2 rfl (CB [1,0] [_,_,_] rfl Tryz.call112 (rText_spec _ _ _ _ _ _ ?_) ?_))))
  ·(first | omega | assumption | decide)
  intro y20 hy20
  generalize hr_r4 : Cod.rd [] (Cod.decT r3.2.1) r3.2.1 r3.2.2 = r4
  have hl_r4 : r4.2.1.length≤r3.2.1.length:=hr_r4 ▸ Cod.rd_len _ _ _ _
  have hs_r4:=Cod.rdT_size hr_r4
  refine HO_strBytes rfl rfl rfl Tryz.underlying9 Tryz.underlying32 Tryz.underlying5 ?_ ?_
  ·(simp only [maxLen];omega)
  intro a21 c21
  refine DU 0 rfl (CB [0] [_,_,_,_,_,_] rfl Tryz.call111 (rcread_spec _ _ _ ?_) ?_)
  ·(have h:=hs_r4;rw [Cod.size_mk] at h;show List.length r4.1≤_;omega)
  intro y22 hy22
  clear y22 hy22
  generalize hc4 : Cmd.read ({ data:=r4.1.toArray } : ByteArray).data.toList = c4
  replace hc4 : Cmd.read r4.1 = c4:=hc4
  refine MV rfl (EX [_,_] rfl (EX [_,_] rfl (AO [_,_,_,_,_,_,_,_] Tryz.zeroValue68 rfl ?_)))
  intro g4
  refine SR 0 [] [_,_,_,_,_,_,_,_] [] [_,_,_,_,_,_,_,_] [_,_,_,_,_,_] [_,_,_,_,_,_,_,_] Tryz.sizeOf68 rfl (AS rfl (NI [5,4,3,2,0] [_,_,_,_,_] rfl (WD 93 [_,_,_,_,_] rfl (SQ (SQ (RG rfl (MV rfl (BN rfl bin_neq (NI [26,4,3,2,0] [_,_,_,_,_] rfl (H_cond rfl ?_ ?_))))))))))
  ·intro h26
   replace h26:=dT h26
   refine SQ (RG rfl (MV rfl (NC rfl (FA 1 rfl Tryz.underlying117 rfl Tryz.sizeOf4 (SR 1 [_] [_] [] [_] [_,_,_,_] [_,_] Tryz.sizeOf4 rfl (NI [4,3,2,0] [_,_,_,_] rfl (RG rfl (MV rfl (NC rfl (FA 0 rfl Tryz.underlying117 rfl Tryz.sizeOf32 (SR 0 [] [_] [_] [_] [_,_,_,_] [_,_] Tryz.sizeOf32 rfl (HO_nil ?_))))))))))))
   refine EV [4,3,2,0] [_,_,_,_] rfl (WD 27 [_,_,_,_] rfl (RG rfl (LA 1 [] [_,_,_,_,_,_,_,_] [] rfl (.loc _ _ _) Tryz.isAgg68 Tryz.sizeOf68 rfl (FA 3 rfl Tryz.underlying70 rfl Tryz.sizeOf68 (SR 2 [_,_,_] [_,_,_,_,_,_,_,_] [_,_] [_,_,_,_,_,_,_,_] [_,_,_] [_,_,_,_,_,_,_,_,_,_,_,_,_] Tryz.sizeOf68 rfl (NI [3,2,0] [_,_,_] rfl (WD 11 [_,_,_] rfl (SQ (SQ (RG rfl (FA 2 rfl Tryz.underlying70 rfl Tryz.sizeOf3 (LD 0 2 rfl Tryz.isAgg3 ?_))))))))))))
   refine BN rfl bin_eql (NI [37,3,2,0] [_,_,_,_] rfl (H_cond rfl ?_ ?_))
   ·intro h37
    replace h37:=dT h37
    (exfalso;omega)
   intro h37
   replace h37:=dF h37
   refine SK (SQ (RG rfl (LA 0 [] [_,_,_,_,_,_,_,_,_,_,_,_,_] [] rfl (.loc _ _ _) Tryz.isAgg70 Tryz.sizeOf70 rfl (SR 2 [] [_,_,_,_,_,_,_,_,_,_,_,_,_] [] [_,_,_,_,_,_,_,_,_,_,_,_,_] [_,_] [_,_,_,_,_,_,_,_,_,_,_,_,_] Tryz.sizeOf70 rfl (NI [2] [_] rfl (WD 5 [_,_] rfl (H_nilDat kByte (H_nilDat kInt (H_nilDat kInt ?_)))))))))
   have hent:=(Ent.entP_2 hr_r1 hr_r2 hr_r3 hr_r4 h17).trans (by rw [hc4,if_neg h26])
   refine H_ret1 Tryz.results79 (.cell rfl (fun w hA => run_loadVarA (cs:=[_,_,_,_,_,_,_,_,_,_,_,_,_]) (Tryz.isAgg70 w) (Tryz.sizeOf70 w) (Tells.cells (.loc _ _ _) (hA.get (i:=3) rfl)))) (fun w hA => ⟨((none,0),(none,0),(none,0)),congrArg Ending.returned ?_,?_,?_⟩)
   ·(rw [hent] <;> rfl)
   ·trivial
   ·(rw [hent];exact hA.only (is:=[1,0,0,0]) (Z:=[_]) rfl)
  intro h26
  replace h26:=dF h26
  refine SK (RG rfl (LA 0 [] [_,_,_,_,_,_,_,_] [] rfl (.loc _ _ _) Tryz.isAgg68 Tryz.sizeOf68 rfl (FA 3 rfl Tryz.underlying70 rfl Tryz.sizeOf68 (SR 3 [_,_,_] [_,_,_,_,_,_,_,_] [_,_] [_,_,_,_,_,_,_,_] [_,_,_,_] [_,_,_,_,_,_,_,_,_,_,_,_,_] Tryz.sizeOf68 rfl (NI [3,2,0] [_,_,_] rfl (WD 29 [_,_,_,_] rfl (SQ (SQ (RG rfl (FA 2 rfl Tryz.underlying70 rfl Tryz.sizeOf3 (LD 0 2 rfl Tryz.isAgg3 (BN rfl bin_eql ?_))))))))))))
  refine NI [37,3,2,0] [_,_,_,_] rfl (H_cond rfl ?_ ?_)
  ·intro h37
   replace h37:=dT h37
   (exfalso;omega)
  intro h37
  replace h37:=dF h37
  refine SK (SQ (RG rfl (LA 0 [] [_,_,_,_,_,_,_,_,_,_,_,_,_] [] rfl (.loc _ _ _) Tryz.isAgg70 Tryz.sizeOf70 rfl (SR 3 [] [_,_,_,_,_,_,_,_,_,_,_,_,_] [] [_,_,_,_,_,_,_,_,_,_,_,_,_] [_,_,_] [_,_,_,_,_,_,_,_,_,_,_,_,_] Tryz.sizeOf70 rfl (NI [2] [_] rfl (WD 13 [_,_,_] rfl (H_nilDat kInt (H_nilDat kInt ?_))))))))
  have hent:=(Ent.entP_2 hr_r1 hr_r2 hr_r3 hr_r4 h17).trans (by rw [hc4,if_pos (Decidable.not_not.1 h26)])
  refine H_ret1 Tryz.results79 (.cell rfl (fun w hA => run_loadVarA (cs:=[_,_,_,_,_,_,_,_,_,_,_,_,_]) (Tryz.isAgg70 w) (Tryz.sizeOf70 w) (Tells.cells (.loc _ _ _) (hA.get (i:=2) rfl)))) (fun w hA => ⟨(y20,(none,0),(none,0)),congrArg Ending.returned ?_,?_,?_⟩)
  ·(rw [hent] <;> rfl)
  ·trivial
  ·(rw [hent];exact hA.only (is:=[1,2,0,0]) (Z:=[_]) rfl)
 intro h17
 replace h17:=dF h17
 refine SK (SQ (SQ (RG rfl (FA 2 rfl Tryz.underlying70 rfl Tryz.sizeOf3 (LD 0 2 rfl Tryz.isAgg3 (BN rfl bin_eql (NI [37,3,2,0] [_,_,_,_] rfl (H_cond rfl ?_ ?_))))))))
 ·intro h37
  replace h37:=dT h37
  refine RG rfl (MV rfl (DU 2 rfl (CB [1,0] [_,_,_] rfl Tryz.call113 (rreadconf_spec _ _ _ _ _ _ ?_) ?_)))
  ·(first | omega | assumption | decide)
  intro y39 hy39
  generalize hc3 : Ent.confP (r3.2.1,r3.2.2) = c3
  refine FA 11 rfl Tryz.underlying70 rfl Tryz.sizeOf31 (SR 4 [_,_,_,_,_,_,_,_,_,_,_] [_,_] [] [_,_] [_,_,_,_,_,_] [_,_,_,_,_,_,_,_,_,_,_,_,_] Tryz.sizeOf31 rfl (NI [3,2] [_,_] rfl (WD 95 [_,_,_,_,_,_] rfl (SQ (RG rfl (LA 0 [] [_,_,_,_,_,_,_,_,_,_,_,_,_] [] rfl (.loc _ _ _) Tryz.isAgg70 Tryz.sizeOf70 rfl (SR 5 [] [_,_,_,_,_,_,_,_,_,_,_,_,_] [] [_,_,_,_,_,_,_,_,_,_,_,_,_] [_,_,_,_,_] [_,_,_,_,_,_,_,_,_,_,_,_,_] Tryz.sizeOf70 rfl (NI [2] [_] rfl (WD 61 [_,_,_,_,_] rfl ?_)))))))))
  have hent:=(Ent.entP_3 hr_r1 hr_r2 hr_r3 h37).trans (by rw [hc3])
  refine H_ret1 Tryz.results79 (.cell rfl (fun w hA => run_loadVarA (cs:=[_,_,_,_,_,_,_,_,_,_,_,_,_]) (Tryz.isAgg70 w) (Tryz.sizeOf70 w) (Tells.cells (.loc _ _ _) (hA.get (i:=0) rfl)))) (fun w hA => ⟨y39,congrArg Ending.returned ?_,?_,?_⟩)
  ·(rw [hent] <;> rfl)
  ·trivial
  ·(rw [hent];exact hA.keep (m:=[nn,yy,yy,yy,yy]) (Y:=[_,_,_,_]) rfl)
 intro h37
 replace h37:=dF h37
 refine SK (SQ (RG rfl (LA 0 [] [_,_,_,_,_,_,_,_,_,_,_,_,_] [] rfl (.loc _ _ _) Tryz.isAgg70 Tryz.sizeOf70 rfl (SR 3 [] [_,_,_,_,_,_,_,_,_,_,_,_,_] [] [_,_,_,_,_,_,_,_,_,_,_,_,_] [_,_,_] [_,_,_,_,_,_,_,_,_,_,_,_,_] Tryz.sizeOf70 rfl (NI [2] [_] rfl (WD 13 [_,_,_] rfl (H_nilDat kInt (H_nilDat kInt ?_))))))))
 have hent:=Ent.entP_0 hr_r1 hr_r2 hr_r3 h17 h37
 refine H_ret1 Tryz.results79 (.cell rfl (fun w hA => run_loadVarA (cs:=[_,_,_,_,_,_,_,_,_,_,_,_,_]) (Tryz.isAgg70 w) (Tryz.sizeOf70 w) (Tells.cells (.loc _ _ _) (hA.get (i:=2) rfl)))) (fun w hA => ⟨(y13,(none,0),(none,0)),congrArg Ending.returned ?_,?_,?_⟩)
 ·(rw [hent] <;> rfl)
 ·trivial
 ·(rw [hent];exact hA.only (is:=[1,2,0,0]) (Z:=[_]) rfl)
theorem creadsnap_spec (T : TypeId) (g : Nat) (b : List UInt8) (w : Bool) (a : Option Addr) (c : Nat) (hb : b.length≤100000) : Spec Tryz.prog 73 #[.pointer (some ⟨g,0,none⟩)] [.loc g [.slice a (b.length) c,.bool (w)] T,.dat kByte.sl (b) [.slice a (b.length) c]] (β:=(Option Addr × Nat) × (Option Addr × Nat) × (Option Addr × Nat) × (Option Addr × Nat)) (fun y => .agg #[.int .i64 ((Ent.snapP (b,w)).1.idx),.int .i64 ((Ent.snapP (b,w)).1.term),.slice y.2.1.1 (((Ent.snapP (b,w)).1.conf.vot).length) y.2.1.2,.slice y.2.2.1.1 (((Ent.snapP (b,w)).1.conf.lea).length) y.2.2.1.2,.slice y.2.2.2.1 (((Ent.snapP (b,w)).1.data).length) y.2.2.2.2]) (fun y => True) (fun y => [.loc g [.slice y.1.1 (((Ent.snapP (b,w)).2.1).length) y.1.2,.bool ((Ent.snapP (b,w)).2.2)] T,.dat kByte.sl ((Ent.snapP (b,w)).2.1) [.slice y.1.1 (((Ent.snapP (b,w)).2.1).length) y.1.2],.dat kInt.sl ((Ent.snapP (b,w)).1.conf.vot) [.slice y.2.1.1 (((Ent.snapP (b,w)).1.conf.vot).length) y.2.1.2],.dat kInt.sl ((Ent.snapP (b,w)).1.conf.lea) [.slice y.2.2.1.1 (((Ent.snapP (b,w)).1.conf.lea).length) y.2.2.1.2],.dat kByte.sl ((Ent.snapP (b,w)).1.data) [.slice y.2.2.2.1 (((Ent.snapP (b,w)).1.data).length) y.2.2.2.2]]):=by
 refine Spec.enter (vs:=[_]) Tryz.func73 rfl Tryz.ntmps73 rfl (Nat.le_of_ble_eq_true rfl) (fun w0 ok0 => ?_)
 generalize hM0 : blks _ = M0
 refine SQ (RG rfl (AO [_,_,_,_,_] Tryz.zeroValue34 rfl ?_))
 intro g2
 refine HO_nil (SQ (H_drawB (m:=[yy,nn,yy]) (Xs:=[_,_]) (fuel:=11) (l:=#[false,false,false,false,false,false,false,false,false,false,false]) mixed rfl rfl rfl (TK 0 5 [_,_] rfl (by kernel_rfl) (V_move rfl) (TK 1 5 [_,_] rfl (by kernel_rfl) (V_nilCheck rfl) (TK 2 5 [_,_] rfl (by kernel_rfl) (V_fieldAddr (r:=0) rfl Tryz.underlying110 rfl Tryz.sizeOf108 rfl) (TK 4 5 [_,_] rfl (by kernel_rfl) (V_move rfl) (TK 5 5 [_,_] rfl (by kernel_rfl) (V_nilCheck rfl) (TK 6 5 [_,_] rfl (by kernel_rfl) (V_fieldAddr (r:=0) rfl Tryz.underlying110 rfl Tryz.sizeOf108 rfl) (HA_loud2 (i:=3) (j:=9) (by kernel_rfl) rfl rfl ?_ ?_)))))))))
 ·refine HO_dup (i:=2) rfl rfl ?_
  refine CB [1,0] [_,_] rfl Tryz.call69 (cInt_spec _ _ _ _ _ _) ?_
  intro y7 hy7
  refine BK 12 [_,_] rfl (HA_loud2 (i:=7) (j:=9) (by kernel_rfl) rfl rfl ?_ ?_)
  ·generalize hr_r1 : Cod.rd 0 (Cod.dec b) b w = r1
   have hl_r1 : r1.2.1.length≤b.length:=hr_r1 ▸ Cod.rd_len _ _ _ _
   refine DU 1 rfl (CB [0,0] [_,_,_] rfl Tryz.call69 (cInt_spec _ _ _ _ _ _) ?_)
   intro y11 hy11
   refine BK 24 [_,_] rfl ?_
   generalize hr_r2 : Cod.rd 0 (Cod.dec r1.2.1) r1.2.1 r1.2.2 = r2
   have hl_r2 : r2.2.1.length≤r1.2.1.length:=hr_r2 ▸ Cod.rd_len _ _ _ _
   refine TK 8 24 [_,_] rfl (by kernel_rfl) (V_build (xo:=[(0,_),(1,_)]) (vs:=[_,_]) rfl rfl (bd34_0_1_ii)) (LO 9 (by kernel_rfl) rfl (AO [_,_,_,_,_] Tryz.zeroValue34 rfl ?_))
   intro g3
   refine BK 48 [_,_] rfl (LO 10 (by kernel_rfl) rfl (SR 0 [] [_,_,_,_,_] [] [_,_,_,_,_] [_,_,_,_,_] [_,_,_,_,_] Tryz.sizeOf34 rfl (BK 48 [_,_] rfl (HA_done (by kernel_rfl) (EV [3,2,0] [_,_,_] rfl (WD 23 [_,_,_,_] rfl (SQ (RG rfl (MV rfl (DU 2 rfl (CB [1,0] [_,_,_] rfl Tryz.call105 (cconf_spec _ _ _ _ _ _ ?_) ?_)))))))))))
   ·(first | omega | assumption | decide)
   intro y14 hy14
   have hcl3:=Ent.confP_len (r2.2.1,r2.2.2)
   obtain ⟨c3,hc3⟩ : ∃ e,Ent.confP (r2.2.1,r2.2.2) = e:=⟨_,rfl⟩
   rw [hc3] at hcl3 ⊢
   dsimp only at hcl3
   refine FA 2 rfl Tryz.underlying34 rfl Tryz.sizeOf31 (SR 4 [_,_] [_,_] [_] [_,_] [_,_,_,_,_,_] [_,_,_,_,_] Tryz.sizeOf31 rfl (NI [3,2,0] [_,_,_] rfl (WD 95 [_,_,_,_,_,_] rfl (SQ (RG rfl (MV rfl (NC rfl (FA 0 rfl Tryz.underlying110 rfl Tryz.sizeOf108 (DU 2 rfl (CB [1,0] [_,_,_,_,_] rfl Tryz.call103 (cText_spec _ _ _ _ _ _ ?_) ?_))))))))))
   ·(first | omega | assumption | decide)
   intro y19 hy19
   generalize hr_r3 : Cod.rd [] (Cod.decT c3.2.1) c3.2.1 c3.2.2 = r3
   have hl_r3 : r3.2.1.length≤c3.2.1.length:=hr_r3 ▸ Cod.rd_len _ _ _ _
   have hs_r3:=Cod.rdT_size hr_r3
   refine HO_strBytes rfl rfl rfl Tryz.underlying9 Tryz.underlying32 Tryz.underlying5 ?_ ?_
   ·(simp only [maxLen];omega)
   intro a20 c20
   refine FA 4 rfl Tryz.underlying34 rfl Tryz.sizeOf32 (SR 3 [_,_,_,_] [_] [] [_] [_,_,_,_,_,_,_] [_,_,_,_,_] Tryz.sizeOf32 rfl (NI [3,2] [_,_] rfl (WD 239 [_,_,_,_,_,_,_] rfl (SQ (RG rfl (LA 0 [] [_,_,_,_,_] [] rfl (.loc _ _ _) Tryz.isAgg34 Tryz.sizeOf34 rfl (SR 6 [] [_,_,_,_,_] [] [_,_,_,_,_] [_,_,_,_,_,_] [_,_,_,_,_] Tryz.sizeOf34 rfl (NI [2] [_] rfl (WD 125 [_,_,_,_,_,_] rfl ?_)))))))))
   have hsp:=Ent.snapP_of hr_r1 hr_r2 hc3 hr_r3
   refine H_ret1 Tryz.results73 (.cell rfl (fun w hA => run_loadVarA (cs:=[_,_,_,_,_]) (Tryz.isAgg34 w) (Tryz.sizeOf34 w) (Tells.cells (.loc _ _ _) (hA.get (i:=0) rfl)))) (fun w hA => ⟨(y19,y14.2.1,y14.2.2,(a20,c20)),congrArg Ending.returned ?_,?_,?_⟩)
   ·(rw [hsp] <;> rfl)
   ·trivial
   ·(rw [hsp];exact hA.only (is:=[1,2,3,4,1]) (Z:=[_]) rfl)
  ·refine HO_alloc (cs:=[_,_,_,_,_]) rfl rfl Tryz.zeroValue34 rfl ?_
   intro g3
   refine BK 24 [_,_] rfl (LO 7 (by kernel_rfl) rfl ?_)
   generalize hr_r1 : Cod.rd 0 (Cod.dec b) b w = r1
   have hl_r1 : r1.2.1.length≤b.length:=hr_r1 ▸ Cod.rd_len _ _ _ _
   refine DU 2 rfl (CB [1,0] [_,_,_,_] rfl Tryz.call69 (cInt_spec _ _ _ _ _ _) ?_)
   intro y11 hy11
   refine BK 48 [_,_] rfl ?_
   generalize hr_r2 : Cod.rd 0 (Cod.dec r1.2.1) r1.2.1 r1.2.2 = r2
   have hl_r2 : r2.2.1.length≤r1.2.1.length:=hr_r2 ▸ Cod.rd_len _ _ _ _
   refine TK 8 48 [_,_] rfl (by kernel_rfl) (V_build (xo:=[(0,_),(1,_)]) (vs:=[_,_]) rfl rfl (bd34_0_1_ii)) (LO 10 (by kernel_rfl) rfl (SR 2 [] [_,_,_,_,_] [] [_,_,_,_,_] [_,_,_,_,_] [_,_,_,_,_] Tryz.sizeOf34 rfl (BK 48 [_,_] rfl (HA_done (by kernel_rfl) (EV [3,2,0] [_,_,_] rfl (WD 23 [_,_,_,_] rfl (SQ (RG rfl (MV rfl (DU 2 rfl (CB [1,0] [_,_,_] rfl Tryz.call105 (cconf_spec _ _ _ _ _ _ ?_) ?_)))))))))))
   ·(first | omega | assumption | decide)
   intro y14 hy14
   have hcl3:=Ent.confP_len (r2.2.1,r2.2.2)
   obtain ⟨c3,hc3⟩ : ∃ e,Ent.confP (r2.2.1,r2.2.2) = e:=⟨_,rfl⟩
   rw [hc3] at hcl3 ⊢
   dsimp only at hcl3
   refine FA 2 rfl Tryz.underlying34 rfl Tryz.sizeOf31 (SR 4 [_,_] [_,_] [_] [_,_] [_,_,_,_,_,_] [_,_,_,_,_] Tryz.sizeOf31 rfl (NI [3,2,0] [_,_,_] rfl (WD 95 [_,_,_,_,_,_] rfl (SQ (RG rfl (MV rfl (NC rfl (FA 0 rfl Tryz.underlying110 rfl Tryz.sizeOf108 (DU 2 rfl (CB [1,0] [_,_,_,_,_] rfl Tryz.call103 (cText_spec _ _ _ _ _ _ ?_) ?_))))))))))
   ·(first | omega | assumption | decide)
   intro y19 hy19
   generalize hr_r3 : Cod.rd [] (Cod.decT c3.2.1) c3.2.1 c3.2.2 = r3
   have hl_r3 : r3.2.1.length≤c3.2.1.length:=hr_r3 ▸ Cod.rd_len _ _ _ _
   have hs_r3:=Cod.rdT_size hr_r3
   refine HO_strBytes rfl rfl rfl Tryz.underlying9 Tryz.underlying32 Tryz.underlying5 ?_ ?_
   ·(simp only [maxLen];omega)
   intro a20 c20
   refine FA 4 rfl Tryz.underlying34 rfl Tryz.sizeOf32 (SR 3 [_,_,_,_] [_] [] [_] [_,_,_,_,_,_,_] [_,_,_,_,_] Tryz.sizeOf32 rfl (NI [3,2] [_,_] rfl (WD 239 [_,_,_,_,_,_,_] rfl (SQ (RG rfl (LA 0 [] [_,_,_,_,_] [] rfl (.loc _ _ _) Tryz.isAgg34 Tryz.sizeOf34 rfl (SR 6 [] [_,_,_,_,_] [] [_,_,_,_,_] [_,_,_,_,_,_] [_,_,_,_,_] Tryz.sizeOf34 rfl (NI [2] [_] rfl (WD 125 [_,_,_,_,_,_] rfl ?_)))))))))
   have hsp:=Ent.snapP_of hr_r1 hr_r2 hc3 hr_r3
   refine H_ret1 Tryz.results73 (.cell rfl (fun w hA => run_loadVarA (cs:=[_,_,_,_,_]) (Tryz.isAgg34 w) (Tryz.sizeOf34 w) (Tells.cells (.loc _ _ _) (hA.get (i:=0) rfl)))) (fun w hA => ⟨(y19,y14.2.1,y14.2.2,(a20,c20)),congrArg Ending.returned ?_,?_,?_⟩)
   ·(rw [hsp] <;> rfl)
   ·trivial
   ·(rw [hsp];exact hA.only (is:=[1,2,3,4,1]) (Z:=[_]) rfl)
 ·refine HO_alloc (cs:=[_,_,_,_,_]) rfl rfl Tryz.zeroValue34 rfl ?_
  intro g3
  refine BK 10 [_,_] rfl (LO 3 (by kernel_rfl) rfl (DU 3 rfl (CB [2,0] [_,_,_] rfl Tryz.call69 (cInt_spec _ _ _ _ _ _) ?_)))
  intro y7 hy7
  refine BK 24 [_,_] rfl (LO 7 (by kernel_rfl) rfl ?_)
  generalize hr_r1 : Cod.rd 0 (Cod.dec b) b w = r1
  have hl_r1 : r1.2.1.length≤b.length:=hr_r1 ▸ Cod.rd_len _ _ _ _
  refine DU 1 rfl (CB [0,0] [_,_,_,_] rfl Tryz.call69 (cInt_spec _ _ _ _ _ _) ?_)
  intro y11 hy11
  refine BK 48 [_,_] rfl ?_
  generalize hr_r2 : Cod.rd 0 (Cod.dec r1.2.1) r1.2.1 r1.2.2 = r2
  have hl_r2 : r2.2.1.length≤r1.2.1.length:=hr_r2 ▸ Cod.rd_len _ _ _ _
  refine TK 8 48 [_,_] rfl (by kernel_rfl) (V_build (xo:=[(0,_),(1,_)]) (vs:=[_,_]) rfl rfl (bd34_0_1_ii)) (LO 10 (by kernel_rfl) rfl (SR 3 [] [_,_,_,_,_] [] [_,_,_,_,_] [_,_,_,_,_] [_,_,_,_,_] Tryz.sizeOf34 rfl (BK 48 [_,_] rfl (HA_done (by kernel_rfl) (EV [3,2,0] [_,_,_] rfl (WD 23 [_,_,_,_] rfl (SQ (RG rfl (MV rfl (DU 2 rfl (CB [1,0] [_,_,_] rfl Tryz.call105 (cconf_spec _ _ _ _ _ _ ?_) ?_)))))))))))
  ·(first | omega | assumption | decide)
  intro y14 hy14
  have hcl3:=Ent.confP_len (r2.2.1,r2.2.2)
  obtain ⟨c3,hc3⟩ : ∃ e,Ent.confP (r2.2.1,r2.2.2) = e:=⟨_,rfl⟩
  rw [hc3] at hcl3 ⊢
  dsimp only at hcl3
  refine FA 2 rfl Tryz.underlying34 rfl Tryz.sizeOf31 (SR 4 [_,_] [_,_] [_] [_,_] [_,_,_,_,_,_] [_,_,_,_,_] Tryz.sizeOf31 rfl (NI [3,2,0] [_,_,_] rfl (WD 95 [_,_,_,_,_,_] rfl (SQ (RG rfl (MV rfl (NC rfl (FA 0 rfl Tryz.underlying110 rfl Tryz.sizeOf108 (DU 2 rfl (CB [1,0] [_,_,_,_,_] rfl Tryz.call103 (cText_spec _ _ _ _ _ _ ?_) ?_))))))))))
  ·(first | omega | assumption | decide)
  intro y19 hy19
  generalize hr_r3 : Cod.rd [] (Cod.decT c3.2.1) c3.2.1 c3.2.2 = r3
  have hl_r3 : r3.2.1.length≤c3.2.1.length:=hr_r3 ▸ Cod.rd_len _ _ _ _
  have hs_r3:=Cod.rdT_size hr_r3
  refine HO_strBytes rfl rfl rfl Tryz.underlying9 Tryz.underlying32 Tryz.underlying5 ?_ ?_
  ·(simp only [maxLen];omega)
  intro a20 c20
  refine FA 4 rfl Tryz.underlying34 rfl Tryz.sizeOf32 (SR 3 [_,_,_,_] [_] [] [_] [_,_,_,_,_,_,_] [_,_,_,_,_] Tryz.sizeOf32 rfl (NI [3,2] [_,_] rfl (WD 239 [_,_,_,_,_,_,_] rfl (SQ (RG rfl (LA 0 [] [_,_,_,_,_] [] rfl (.loc _ _ _) Tryz.isAgg34 Tryz.sizeOf34 rfl (SR 6 [] [_,_,_,_,_] [] [_,_,_,_,_] [_,_,_,_,_,_] [_,_,_,_,_] Tryz.sizeOf34 rfl (NI [2] [_] rfl (WD 125 [_,_,_,_,_,_] rfl ?_)))))))))
  have hsp:=Ent.snapP_of hr_r1 hr_r2 hc3 hr_r3
  refine H_ret1 Tryz.results73 (.cell rfl (fun w hA => run_loadVarA (cs:=[_,_,_,_,_]) (Tryz.isAgg34 w) (Tryz.sizeOf34 w) (Tells.cells (.loc _ _ _) (hA.get (i:=0) rfl)))) (fun w hA => ⟨(y19,y14.2.1,y14.2.2,(a20,c20)),congrArg Ending.returned ?_,?_,?_⟩)
  ·(rw [hsp] <;> rfl)
  ·trivial
  ·(rw [hsp];exact hA.only (is:=[1,2,3,4,1]) (Z:=[_]) rfl)
theorem rreadsnap_spec (T : TypeId) (g : Nat) (b : List UInt8) (w : Bool) (a : Option Addr) (c : Nat) (hb : b.length≤100000) : Spec Tryz.prog 80 #[.pointer (some ⟨g,0,none⟩)] [.loc g [.slice a (b.length) c,.bool (w)] T,.dat kByte.sl (b) [.slice a (b.length) c]] (β:=(Option Addr × Nat) × (Option Addr × Nat) × (Option Addr × Nat) × (Option Addr × Nat)) (fun y => .agg #[.int .i64 ((Ent.snapP (b,w)).1.idx),.int .i64 ((Ent.snapP (b,w)).1.term),.slice y.2.1.1 (((Ent.snapP (b,w)).1.conf.vot).length) y.2.1.2,.slice y.2.2.1.1 (((Ent.snapP (b,w)).1.conf.lea).length) y.2.2.1.2,.slice y.2.2.2.1 (((Ent.snapP (b,w)).1.data).length) y.2.2.2.2]) (fun y => True) (fun y => [.loc g [.slice y.1.1 (((Ent.snapP (b,w)).2.1).length) y.1.2,.bool ((Ent.snapP (b,w)).2.2)] T,.dat kByte.sl ((Ent.snapP (b,w)).2.1) [.slice y.1.1 (((Ent.snapP (b,w)).2.1).length) y.1.2],.dat kInt.sl ((Ent.snapP (b,w)).1.conf.vot) [.slice y.2.1.1 (((Ent.snapP (b,w)).1.conf.vot).length) y.2.1.2],.dat kInt.sl ((Ent.snapP (b,w)).1.conf.lea) [.slice y.2.2.1.1 (((Ent.snapP (b,w)).1.conf.lea).length) y.2.2.1.2],.dat kByte.sl ((Ent.snapP (b,w)).1.data) [.slice y.2.2.2.1 (((Ent.snapP (b,w)).1.data).length) y.2.2.2.2]]):=by
 refine Spec.enter (vs:=[_]) Tryz.func80 rfl Tryz.ntmps80 rfl (Nat.le_of_ble_eq_true rfl) (fun w0 ok0 => ?_)
 generalize hM0 : blks _ = M0
 refine SQ (RG rfl (AO [_,_,_,_,_] Tryz.zeroValue34 rfl ?_))
 intro g2
 refine HO_nil (SQ (RG rfl (AO [_,_,_,_,_] Tryz.zeroValue34 rfl ?_)))
 intro g3
 refine HO_nil (SQ (RG rfl (MV rfl (DU 3 rfl (CB [2,0] [_,_,_] rfl Tryz.call76 (rInt_spec _ _ _ _ _ _) ?_)))))
 intro y5 hy5
 generalize hr_r1 : Cod.rd 0 (Cod.dec b) b w = r1
 have hl_r1 : r1.2.1.length≤b.length:=hr_r1 ▸ Cod.rd_len _ _ _ _
 refine FA 0 rfl Tryz.underlying34 rfl Tryz.sizeOf3 (SR 2 [] [_] [_,_,_,_] [_] [_,_,_,_] [_,_,_,_,_] Tryz.sizeOf3 rfl (NI [3,2,0] [_,_,_] rfl (WD 15 [_,_,_,_] rfl (SQ (RG rfl (MV rfl (DU 2 rfl (CB [1,0] [_,_,_] rfl Tryz.call76 (rInt_spec _ _ _ _ _ _) ?_))))))))
 intro y8 hy8
 generalize hr_r2 : Cod.rd 0 (Cod.dec r1.2.1) r1.2.1 r1.2.2 = r2
 have hl_r2 : r2.2.1.length≤r1.2.1.length:=hr_r2 ▸ Cod.rd_len _ _ _ _
 refine FA 1 rfl Tryz.underlying34 rfl Tryz.sizeOf3 (SR 2 [_] [_] [_,_,_] [_] [_,_,_,_] [_,_,_,_,_] Tryz.sizeOf3 rfl (NI [3,2,0] [_,_,_] rfl (WD 23 [_,_,_,_] rfl (SQ (RG rfl (MV rfl (DU 2 rfl (CB [1,0] [_,_,_] rfl Tryz.call113 (rreadconf_spec _ _ _ _ _ _ ?_) ?_))))))))
 ·(first | omega | assumption | decide)
 intro y11 hy11
 have hcl3:=Ent.confP_len (r2.2.1,r2.2.2)
 obtain ⟨c3,hc3⟩ : ∃ e,Ent.confP (r2.2.1,r2.2.2) = e:=⟨_,rfl⟩
 rw [hc3] at hcl3 ⊢
 dsimp only at hcl3
 refine FA 2 rfl Tryz.underlying34 rfl Tryz.sizeOf31 (SR 4 [_,_] [_,_] [_] [_,_] [_,_,_,_,_,_] [_,_,_,_,_] Tryz.sizeOf31 rfl (NI [3,2,0] [_,_,_] rfl (WD 95 [_,_,_,_,_,_] rfl (SQ (RG rfl (MV rfl (DU 2 rfl (CB [1,0] [_,_,_,_,_] rfl Tryz.call112 (rText_spec _ _ _ _ _ _ ?_) ?_))))))))
 ·(first | omega | assumption | decide)
 intro y14 hy14
 generalize hr_r3 : Cod.rd [] (Cod.decT c3.2.1) c3.2.1 c3.2.2 = r3
 have hl_r3 : r3.2.1.length≤c3.2.1.length:=hr_r3 ▸ Cod.rd_len _ _ _ _
 have hs_r3:=Cod.rdT_size hr_r3
 refine HO_strBytes rfl rfl rfl Tryz.underlying9 Tryz.underlying32 Tryz.underlying5 ?_ ?_
 ·(simp only [maxLen];omega)
 intro a15 c15
 refine FA 4 rfl Tryz.underlying34 rfl Tryz.sizeOf32 (SR 3 [_,_,_,_] [_] [] [_] [_,_,_,_,_,_,_] [_,_,_,_,_] Tryz.sizeOf32 rfl (NI [3,2] [_,_] rfl (WD 239 [_,_,_,_,_,_,_] rfl (SQ (RG rfl (LA 0 [] [_,_,_,_,_] [] rfl (.loc _ _ _) Tryz.isAgg34 Tryz.sizeOf34 rfl (SR 6 [] [_,_,_,_,_] [] [_,_,_,_,_] [_,_,_,_,_,_] [_,_,_,_,_] Tryz.sizeOf34 rfl (NI [2] [_] rfl (WD 125 [_,_,_,_,_,_] rfl ?_)))))))))
 have hsp:=Ent.snapP_of hr_r1 hr_r2 hc3 hr_r3
 refine H_ret1 Tryz.results80 (.cell rfl (fun w hA => run_loadVarA (cs:=[_,_,_,_,_]) (Tryz.isAgg34 w) (Tryz.sizeOf34 w) (Tells.cells (.loc _ _ _) (hA.get (i:=0) rfl)))) (fun w hA => ⟨(y14,y11.2.1,y11.2.2,(a15,c15)),congrArg Ending.returned ?_,?_,?_⟩)
 ·(rw [hsp] <;> rfl)
 ·trivial
 ·(rw [hsp];exact hA.only (is:=[1,2,3,4,1]) (Z:=[_]) rfl)
end Go.Wk
