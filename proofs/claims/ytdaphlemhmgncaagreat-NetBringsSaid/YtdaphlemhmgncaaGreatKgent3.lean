/- Contracts of the program's functions, each proved by walking its code. -/
import Derived.Test.YtdaphlemhmgncaaGreatKgent2
import Derived.Test.YtdaphlemhmgncaaGreatEnt
import Derived.Test.YtdaphlemhmgncaaGreatKgrdr
set_option maxRecDepth 100000
set_option linter.unusedVariables false
set_option linter.unusedSimpArgs false
namespace Go.Wk.Fent3
open Go Go.RowKit Go.Proofs Go.Wk
theorem elt3 : Elt Tryz.prog 3 (.int .i64 (0)) 1 8:=Elt.of (by kernel_rfl) (by rfl) (by decide) (by decide)
theorem bd108_0_s {a1 : Option Addr} {n1 c1 : Nat} : ∀ w,(Instr.build 108 (List.toArray (List.zip [0] [.slice a1 n1 c1]))).run Tryz.prog w = .ok (.agg #[.slice a1 n1 c1,.bool (false)]) w:=fun _ => by kernel_rfl
theorem bd110_0_AsoE {a2 : Option Addr} {n2 c2 : Nat} {x3 : Bool} : ∀ w,(Instr.build 110 (List.toArray (List.zip [0] [.agg #[.slice a2 n2 c2,.bool x3]]))).run Tryz.prog w = .ok (.agg #[.slice a2 n2 c2,.bool x3]) w:=fun _ => by kernel_rfl
theorem bd31_0_s {a1 : Option Addr} {n1 c1 : Nat} : ∀ w,(Instr.build 31 (List.toArray (List.zip [0] [.slice a1 n1 c1]))).run Tryz.prog w = .ok (.agg #[.slice a1 n1 c1,.slice none 0 0]) w:=fun _ => by kernel_rfl
theorem bd34_0_1_ii {x1 : Int} {x2 : Int} : ∀ w,(Instr.build 34 (List.toArray (List.zip [0,1] [.int .i64 x1,.int .i64 x2]))).run Tryz.prog w = .ok (.agg #[.int .i64 x1,.int .i64 x2,.slice none 0 0,.slice none 0 0,.slice none 0 0]) w:=fun _ => by kernel_rfl
theorem bd70_0_1_2_iii {x1 : Int} {x2 : Int} {x3 : Int} : ∀ w,(Instr.build 70 (List.toArray (List.zip [0,1,2] [.int .i64 x1,.int .i64 x2,.int .i64 x3]))).run Tryz.prog w = .ok (.agg #[.int .i64 x1,.int .i64 x2,.int .i64 x3,.int .i64 (0),.int .i64 (0),.int .i64 (0),.string (⟨#[]⟩),.string (⟨#[]⟩),.string (⟨#[]⟩),.string (⟨#[]⟩),.int .i64 (0),.slice none 0 0,.slice none 0 0]) w:=fun _ => by kernel_rfl
end Go.Wk.Fent3
namespace Go.Wk
open Go Go.RowKit Go.Proofs Fent3 
theorem rwrong_spec (T : TypeId) (g : Nat) (b : List UInt8) (w : Bool) (a : Option Addr) (c : Nat)  : Spec Tryz.prog 104 #[.pointer (some ⟨g,0,none⟩)] [.loc g [.slice a (b.length) c,.bool (w)] T,.dat kByte.sl (b) [.slice a (b.length) c]] (β:=Unit) (fun y => .tuple #[]) (fun y => True) (fun y => [.loc g [.slice none 0 0,.bool (true)] T,.dat kByte.sl ([]) [.slice none 0 0]]):=by
 refine Spec.enter (vs:=[_]) Tryz.func104 rfl Tryz.ntmps104 rfl (Nat.le_of_ble_eq_true rfl) (fun w0 ok0 => ?_)
 generalize hM0 : blks _ = M0
 refine H_region (l:=[_,_,_,_,_,_,_,_,_,_]) rfl ?_
 iterate 2 refine HO_move rfl rfl rfl ?_
 refine HO_nilCheck rfl rfl rfl ?_
 refine HO_fieldAddr (r:=0) rfl rfl rfl Tryz.underlying110 rfl Tryz.sizeOf108 rfl ?_
 refine HO_fieldAddr (r:=0) rfl rfl rfl Tryz.underlying108 rfl Tryz.sizeOf32 rfl ?_
 refine HO_store (i:=0) (j:=0) (us:=[]) (old:=[_]) (ts:=[_]) (cs:=[_]) (R:=[_]) (new:=[_,_]) rfl rfl rfl Tryz.sizeOf32 rfl (by simp [Value.oneCell']) rfl rfl rfl rfl rfl rfl ?_
 refine HO_nilCheck rfl rfl rfl ?_
 refine HO_fieldAddr (r:=0) rfl rfl rfl Tryz.underlying110 rfl Tryz.sizeOf108 rfl ?_
 refine HO_fieldAddr (r:=1) rfl rfl rfl Tryz.underlying108 rfl Tryz.sizeOf4 rfl ?_
 refine HO_store (i:=0) (j:=0) (us:=[_]) (old:=[_]) (ts:=[]) (cs:=[_]) (R:=[_]) (new:=[_,_]) rfl rfl rfl Tryz.sizeOf4 rfl (by simp [Value.oneCell']) rfl rfl rfl rfl rfl rfl ?_
 refine HO_nil ?_
 refine H_env (ρ':=[]) trivial ?_
 refine H_world (kp [yy,nn] [_] rfl) ?_
 refine H_nilDat kByte ?_
 refine H_end0 Tryz.results104 (fun w hA => ⟨(),congrArg Ending.returned ?_,?_,?_⟩)
 ·rfl
 ·trivial
 ·exact hA.only (is:=[0,0]) (Z:=[]) rfl
theorem over_spec (b : List UInt8) (a : Option Addr) (c : Nat)  : Spec Tryz.prog 68 #[.slice a (b.length) c] [.dat kByte.sl (b) [.slice a (b.length) c]] (β:=Nat) (fun y => .pointer (some ⟨y,0,none⟩)) (fun y => True) (fun y => [.loc y [.slice a (b.length) c,.bool (false)] 110,.dat kByte.sl (b) [.slice a (b.length) c]]):=by
 refine Spec.enter (vs:=[_]) Tryz.func68 rfl Tryz.ntmps68 rfl (Nat.le_of_ble_eq_true rfl) (fun w0 ok0 => ?_)
 generalize hM0 : blks _ = M0
 have hMn:=@noM _ _ hM0 (by simp [Atom.dat,Atom.elem])
 refine H_seq ?_
 refine H_region (l:=[_]) rfl ?_
 refine HO_assign rfl rfl rfl ?_
 refine HO_nil ?_
 refine H_env (ρ':=[(0,_)]) ⟨rfl,trivial⟩ ?_
 refine H_seq ?_
 refine H_region (l:=[_,_,_,_,_]) rfl ?_
 refine HO_move rfl rfl rfl ?_
 refine HO_build (xo:=[(0,_)]) (vs:=[_]) rfl rfl rfl rfl (bd108_0_s) ?_
 refine HO_build (xo:=[(0,_)]) (vs:=[_]) rfl rfl rfl rfl (bd110_0_AsoE) ?_
 refine HO_box (cs:=[_,_]) rfl rfl rfl rfl ?_
 intro g6
 refine HO_assign rfl rfl rfl ?_
 refine HO_nil ?_
 refine H_env (ρ':=[(2,_)]) ⟨rfl,trivial⟩ ?_
 refine H_ret1 Tryz.results68 (.tmp rfl) (fun w hA => ⟨g6,congrArg Ending.returned ?_,?_,?_⟩)
 ·rfl
 ·trivial
 ·exact hA.keep (m:=[yy,yy]) (Y:=[_,_]) rfl
theorem itemsint_spec (T : TypeId) (g : Nat) (b : List UInt8) (w : Bool) (a : Option Addr) (c : Nat) (k : Int) (hb : b.length≤100000) (hk : 0≤k∧k≤9223372036854775807) : Spec Tryz.prog 132 #[.pointer (some ⟨g,0,none⟩),.int .i64 (k),.func (.func 69) #[.pointer (some ⟨g,0,none⟩)] #[]] [.loc g [.slice a (b.length) c,.bool (w)] T,.dat kByte.sl (b) [.slice a (b.length) c]] (β:=(Option Addr × Nat) × (Option Addr × Nat)) (fun y => .slice y.2.1 (((Ent.listP k (b,w)).1).length) y.2.2) (fun y => True) (fun y => [.loc g [.slice y.1.1 (((Ent.listP k (b,w)).2.1).length) y.1.2,.bool ((Ent.listP k (b,w)).2.2)] T,.dat kByte.sl ((Ent.listP k (b,w)).2.1) [.slice y.1.1 (((Ent.listP k (b,w)).2.1).length) y.1.2],.dat kInt.sl ((Ent.listP k (b,w)).1) [.slice y.2.1 (((Ent.listP k (b,w)).1).length) y.2.2]]):=by
 refine Spec.enter (vs:=[_,_,_]) Tryz.func132 rfl Tryz.ntmps132 rfl (Nat.le_of_ble_eq_true rfl) (fun w0 ok0 => ?_)
 generalize hM0 : blks _ = M0
 refine H_seq ?_
 refine H_region (l:=[_]) rfl ?_
 refine HO_assign rfl rfl rfl ?_
 refine HO_nil ?_
 refine H_env (ρ':=[(0,_),(1,_),(2,_)]) ⟨rfl,rfl,rfl,trivial⟩ ?_
 refine H_seq ?_
 refine H_region (l:=[_]) rfl ?_
 refine HO_assign rfl rfl rfl ?_
 refine HO_nil ?_
 refine H_seq ?_
 refine H_seq ?_
 refine H_region (l:=[_,_,_,_,_,_]) rfl ?_
 refine HO_move rfl rfl rfl ?_
 refine HO_nilCheck rfl rfl rfl ?_
 refine HO_fieldAddr (r:=0) rfl rfl rfl Tryz.underlying110 rfl Tryz.sizeOf108 rfl ?_
 refine HO_move rfl rfl rfl ?_
 refine HO_dup (i:=1) rfl rfl ?_
 refine HO_call (first:=[]) (capt:=[]) (is:=[0,0]) (R:=[_]) rfl rfl rfl rfl rfl Tryz.call101 rfl (cCount_spec _ _ _ _ _ _ _ ?_) ?_
 ·omega
 intro y13 hy13
 generalize hr_r1 : Cod.cnt k b w = r1
 have hl_r1 : r1.2.1.length≤b.length:=hr_r1 ▸ Cod.cnt_len _ _ _
 refine HO_assign rfl rfl rfl ?_
 refine HO_nil ?_
 refine H_env (ρ':=[(8,_),(7,_),(0,_),(2,_)]) ⟨rfl,rfl,rfl,rfl,trivial⟩ ?_
 refine H_world (kp [yy,yy,nn] [_,_] rfl) ?_
 refine H_block ?_
 refine H_own0 kInt 3 none ?_
 refine H_loop (σ:=Nat × List UInt8 × Bool × List Int × Option Addr × Nat × Option Addr × Nat) (fun s => Ent.numsP r1.1 r1.2 = (s.2.2.2.1 ++ (Ent.numsP s.1 (s.2.1,s.2.2.1)).1,(Ent.numsP s.1 (s.2.1,s.2.2.1)).2)∧s.2.1.length≤100000∧(s.2.2.1 = false→s.2.2.2.1.length + s.2.1.length≤100000)∧s.1≤9223372036854775807) (fun s => [(0,.pointer (some ⟨g,0,none⟩)),(2,.func (.func 69) #[.pointer (some ⟨g,0,none⟩)] #[]),(7,.slice s.2.2.2.2.2.2.1 (s.2.2.2.1.length) s.2.2.2.2.2.2.2),(8,.int .i64 ((s.1 : Int)))]) (fun s => Asn w0 ok0 M0 [.loc g [.slice s.2.2.2.2.1 (s.2.1.length) s.2.2.2.2.2.1,.bool (s.2.2.1)] T,.dat kByte.sl (s.2.1) [.slice s.2.2.2.2.1 (s.2.1.length) s.2.2.2.2.2.1],.own 3 kInt s.2.2.2.2.2.2.1 s.2.2.2.2.2.2.2 (s.2.2.2.1)]) (fun s => s.1) ⟨r1.1,r1.2.1,r1.2.2,[],y13.1,y13.2,none,0⟩ ?_ ?_ ?_ ?_
 ·exact ⟨by simp,by dsimp only;omega,fun _ => by dsimp only [List.length_nil];omega,by dsimp only;have:=Cod.cnt_le hk.1 b w;rw [hr_r1] at this;omega⟩
 ·exact ⟨rfl,rfl,rfl,rfl,trivial⟩
 ·intro w hA
  exact hA.only (is:=[0,1,0]) (Z:=[]) rfl
 ·rintro ⟨m,bs,wr,l,p,q,p2,q2⟩ hI
  (try dsimp only at hI ⊢)
  have hbs:=hI.2.1
  refine H_seq ?_
  refine H_seq ?_
  refine H_region (l:=[_,_,_,_,_,_,_,_,_,_]) rfl ?_
  refine HO_move rfl rfl rfl ?_
  refine HO_bin rfl rfl rfl rfl bin_gtr ?_
  refine HO_move rfl rfl rfl ?_
  refine HO_split (d:=16) rfl ?_ ?_
  ·intro h16
   replace h16:=dT h16
   refine HO_move rfl rfl rfl ?_
   refine HO_nilCheck rfl rfl rfl ?_
   refine HO_fieldAddr (r:=0) rfl rfl rfl Tryz.underlying110 rfl Tryz.sizeOf108 rfl ?_
   refine HO_fieldAddr (r:=1) rfl rfl rfl Tryz.underlying108 rfl Tryz.sizeOf4 rfl ?_
   refine HO_load1 (i:=0) (j:=1) rfl rfl rfl Tryz.isAgg4 rfl (.loc _ _ _) rfl rfl ?_
   refine HO_not rfl rfl rfl ?_
   refine HO_pick_t rfl rfl rfl rfl ?_
   refine HO_nil ?_
   refine H_env (ρ':=[(23,_),(0,_),(2,_),(7,_),(8,_)]) ⟨rfl,rfl,rfl,rfl,rfl,trivial⟩ ?_
   refine H_cond rfl ?_ ?_
   ·intro h23
    replace h23:=nT h23
    refine H_skip ?_
    refine H_seq ?_
    refine H_block ?_
    have hwr : wr = false:=by simpa using h23
    obtain ⟨m,rfl⟩ : ∃ q,m = q + 1:=⟨m - 1,by omega⟩
    refine H_region (l:=[_,_,_,_,_,_]) rfl ?_
    iterate 2 refine HO_move rfl rfl rfl ?_
    refine HO_dup (i:=1) rfl rfl ?_
    refine HO_call (first:=[_]) (capt:=[]) (is:=[0,0]) (R:=[_,_]) rfl rfl rfl rfl rfl Tryz.call69 rfl (cInt_spec _ _ _ _ _ _) ?_
    intro y28 hy28
    generalize hr_r2 : Cod.rd 0 (Cod.dec bs) bs wr = r2
    have hl_r2 : r2.2.1.length≤bs.length:=hr_r2 ▸ Cod.rd_len _ _ _ _
    have hz_r2:=Cod.zag_lo' hr_r2
    refine HO_buildSlice (kd:=kInt) (xo:=[_]) (vs:=[_]) (cs:=[_]) (xs:=[_]) rfl rfl rfl rfl Tryz.underlying29 elt3 rfl rfl rfl (by decide) (by decide) (by simp [Value.cells]) rfl (by intro ok w _;exact ⟨_,_,rfl,⟨rfl,by first | omega | (constructor <;> omega)⟩,rfl⟩) ?_
    intro g29
    refine HO_append (i:=4) (R:=[_,_,_,_]) rfl rfl rfl rfl rfl Tryz.underlying29 elt3 rfl rfl (SrcOk.own (j:=0) Tryz.underlying29 rfl rfl) ?_ ?_
    ·(simp only [List.length_append,List.length_cons,List.length_nil];have:=hI.2.2.1 hwr;omega)
    intro a30 c30
    refine HO_assign rfl rfl rfl ?_
    refine HO_nil ?_
    refine H_env (ρ':=[(7,_),(0,_),(2,_),(8,_)]) ⟨rfl,rfl,rfl,rfl,trivial⟩ ?_
    refine H_world (kp [yy,nn,yy,yy,nn] [_,_,_] rfl) ?_
    refine H_blk ?_
    refine H_region (l:=[_,_,_]) rfl ?_
    refine HO_move rfl rfl rfl ?_
    refine HO_bin rfl rfl rfl rfl (bin_sub ?_ ?_) ?_
    ·omega
    ·omega
    refine HO_assign rfl rfl rfl ?_
    refine HO_nil ?_
    refine H_env (ρ':=[(8,_),(7,_),(0,_),(2,_)]) ⟨rfl,rfl,rfl,rfl,trivial⟩ ?_
    refine H_inv (fun a w hf hA => ⟨⟨m,r2.2.1,r2.2.2,l ++ [Cod.zag r2.1],y28.1,y28.2,a30,c30⟩,?_,?_,hf.sub ?_,?_⟩)
    ·exact ⟨by dsimp only; exact Ent.nums_more hI.1 hwr hr_r2,by dsimp only;omega,Ent.nums_more_len hwr hI.2.2.1 hr_r2,by dsimp only;omega⟩
    ·(try dsimp only);omega
    ·exact ⟨rfl,rfl,rfl,congrArg (fun z => some (Value.int .i64 z)) (by dsimp only;omega),trivial⟩
    ·exact hA.only (is:=[0,1,0]) (Z:=[]) rfl
   intro h23
   replace h23:=nF h23
   refine H_exit rfl ?_
   refine H_seq ?_
   have hps : Ent.numsP r1.1 r1.2 = (l,(bs,wr)):=by first | exact Ent.nums0 hI.1 (by omega) | exact Ent.numsW hI.1 h23
   have hlp : Ent.listP k (b,w) = (l,(bs,wr)):=Ent.listP_of hr_r1 hps
   refine H_region (l:=[_,_]) rfl ?_
   refine HO_move rfl rfl rfl ?_
   refine HO_assign rfl rfl rfl ?_
   refine HO_nil ?_
   refine H_env (ρ':=[(6,_)]) ⟨rfl,trivial⟩ ?_
   refine H_freeze (i:=2) (R:=[_,_]) rfl (keepM hM0 ⟨(fun _ h => ⟨_,List.mem_of_getElem? (i:=0) rfl,h⟩),(fun _ h => nomatch h),trivial⟩) ?_
   refine H_ret1 Tryz.results132 (.tmp rfl) (fun w hA => ⟨((p,q),(p2,q2)),congrArg Ending.returned ?_,?_,?_⟩)
   ·(rw [hlp])
   ·trivial
   ·(rw [hlp];exact hA.only (is:=[0,1,0]) (Z:=[]) rfl)
  intro h16
  replace h16:=dF h16
  iterate 6 refine HO_no rfl rfl rfl ?_
  refine HO_pick_f rfl rfl rfl rfl ?_
  refine HO_nil ?_
  refine H_env (ρ':=[(23,_),(0,_),(2,_),(7,_),(8,_)]) ⟨rfl,rfl,rfl,rfl,rfl,trivial⟩ ?_
  refine H_cond rfl (fun h => nomatch h) (fun _ => ?_)
  refine H_exit rfl ?_
  refine H_seq ?_
  have hps : Ent.numsP r1.1 r1.2 = (l,(bs,wr)):=by first | exact Ent.nums0 hI.1 (by omega) | exact Ent.numsW hI.1 h23
  have hlp : Ent.listP k (b,w) = (l,(bs,wr)):=Ent.listP_of hr_r1 hps
  refine H_region (l:=[_,_]) rfl ?_
  refine HO_move rfl rfl rfl ?_
  refine HO_assign rfl rfl rfl ?_
  refine HO_nil ?_
  refine H_env (ρ':=[(6,_)]) ⟨rfl,trivial⟩ ?_
  refine H_freeze (i:=2) (R:=[_,_]) rfl (keepM hM0 ⟨(fun _ h => ⟨_,List.mem_of_getElem? (i:=0) rfl,h⟩),(fun _ h => nomatch h),trivial⟩) ?_
  refine H_ret1 Tryz.results132 (.tmp rfl) (fun w hA => ⟨((p,q),(p2,q2)),congrArg Ending.returned ?_,?_,?_⟩)
  ·(rw [hlp])
  ·trivial
  ·(rw [hlp];exact hA.only (is:=[0,1,0]) (Z:=[]) rfl)
theorem cconf_spec (T : TypeId) (g : Nat) (b : List UInt8) (w : Bool) (a : Option Addr) (c : Nat) (hb : b.length≤100000) : Spec Tryz.prog 105 #[.pointer (some ⟨g,0,none⟩)] [.loc g [.slice a (b.length) c,.bool (w)] T,.dat kByte.sl (b) [.slice a (b.length) c]] (β:=(Option Addr × Nat) × (Option Addr × Nat) × (Option Addr × Nat)) (fun y => .agg #[.slice y.2.1.1 (((Ent.confP (b,w)).1.vot).length) y.2.1.2,.slice y.2.2.1 (((Ent.confP (b,w)).1.lea).length) y.2.2.2]) (fun y => True) (fun y => [.loc g [.slice y.1.1 (((Ent.confP (b,w)).2.1).length) y.1.2,.bool ((Ent.confP (b,w)).2.2)] T,.dat kByte.sl ((Ent.confP (b,w)).2.1) [.slice y.1.1 (((Ent.confP (b,w)).2.1).length) y.1.2],.dat kInt.sl ((Ent.confP (b,w)).1.vot) [.slice y.2.1.1 (((Ent.confP (b,w)).1.vot).length) y.2.1.2],.dat kInt.sl ((Ent.confP (b,w)).1.lea) [.slice y.2.2.1 (((Ent.confP (b,w)).1.lea).length) y.2.2.2]]):=by
 refine Spec.enter (vs:=[_]) Tryz.func105 rfl Tryz.ntmps105 rfl (Nat.le_of_ble_eq_true rfl) (fun w0 ok0 => ?_)
 generalize hM0 : blks _ = M0
 refine H_seq ?_
 refine H_region (l:=[_]) rfl ?_
 refine HO_alloc (cs:=[_,_]) rfl rfl Tryz.zeroValue31 rfl ?_
 intro g2
 refine HO_nil ?_
 refine H_seq ?_
 refine H_region (l:=[_,_,_,_,_]) rfl ?_
 refine HO_move rfl rfl rfl ?_
 refine HO_nilCheck rfl rfl rfl ?_
 refine HO_fieldAddr (r:=0) rfl rfl rfl Tryz.underlying110 rfl Tryz.sizeOf108 rfl ?_
 refine HO_makeFunc (vs:=[_]) (us:=[]) rfl rfl rfl rfl ?_
 refine HO_assign rfl rfl rfl ?_
 refine HO_nil ?_
 refine H_env (ρ':=[(3,_),(2,_),(0,_)]) ⟨rfl,rfl,rfl,trivial⟩ ?_
 refine H_seq ?_
 refine H_region (l:=[_,_,_,_,_,_]) rfl ?_
 iterate 2 refine HO_move rfl rfl rfl ?_
 refine HO_dup (i:=2) rfl rfl ?_
 refine HO_call (first:=[]) (capt:=[]) (is:=[1,0]) (R:=[_,_]) rfl rfl rfl rfl rfl Tryz.call132 rfl (itemsint_spec _ _ _ _ _ _ _ ?_ ?_) ?_
 ·omega
 ·(constructor <;> decide)
 intro y11 hy11
 generalize hv1 : Ent.listP 1000000 (b,w) = v1
 have hvl1 : v1.2.1.length≤b.length:=by have:=Ent.listP_len 1000000 (b,w);rw [hv1] at this;exact this
 refine HO_build (xo:=[(0,_)]) (vs:=[_]) rfl rfl rfl rfl (bd31_0_s) ?_
 refine HO_alloc (cs:=[_,_]) rfl rfl Tryz.zeroValue31 rfl ?_
 intro g4
 refine HO_store (i:=0) (j:=0) (us:=[]) (old:=[_,_]) (ts:=[]) (cs:=[_,_]) (R:=[_,_,_,_,_]) (new:=[_,_]) rfl rfl rfl Tryz.sizeOf31 rfl (by simp [Value.oneCell']) rfl rfl rfl rfl rfl rfl ?_
 refine HO_nil ?_
 refine H_env (ρ':=[(4,_),(3,_),(2,_),(0,_)]) ⟨rfl,rfl,rfl,rfl,trivial⟩ ?_
 refine H_world (kp [yy,yy,yy,yy,yy,nn] [_,_,_,_,_] rfl) ?_
 refine H_seq ?_
 refine H_region (l:=[_,_,_,_,_]) rfl ?_
 iterate 2 refine HO_move rfl rfl rfl ?_
 refine HO_dup (i:=2) rfl rfl ?_
 refine HO_call (first:=[]) (capt:=[]) (is:=[1,0]) (R:=[_,_,_,_]) rfl rfl rfl rfl rfl Tryz.call132 rfl (itemsint_spec _ _ _ _ _ _ _ ?_ ?_) ?_
 ·omega
 ·(constructor <;> decide)
 intro y15 hy15
 generalize hv2 : Ent.listP 1000000 (v1.2.1,v1.2.2) = v2
 have hvl2 : v2.2.1.length≤v1.2.1.length:=by have:=Ent.listP_len 1000000 (v1.2.1,v1.2.2);rw [hv2] at this;exact this
 refine HO_fieldAddr (r:=1) rfl rfl rfl Tryz.underlying31 rfl Tryz.sizeOf29 rfl ?_
 refine HO_store (i:=3) (j:=0) (us:=[_]) (old:=[_]) (ts:=[]) (cs:=[_]) (R:=[_,_,_,_,_,_]) (new:=[_,_]) rfl rfl rfl Tryz.sizeOf29 rfl (by simp [Value.oneCell']) rfl rfl rfl rfl rfl rfl ?_
 refine HO_nil ?_
 refine H_env (ρ':=[(4,_),(2,_)]) ⟨rfl,rfl,trivial⟩ ?_
 refine H_world (kp [yy,yy,yy,yy,nn,yy,yy] [_,_,_,_,_,_] rfl) ?_
 refine H_seq ?_
 refine H_region (l:=[_,_]) rfl ?_
 refine HO_loadA (i:=0) (us:=[]) (cs:=[_,_]) (ts:=[]) rfl rfl rfl Tryz.isAgg31 Tryz.sizeOf31 rfl (.loc _ _ _) rfl rfl rfl rfl ?_
 refine HO_store (i:=5) (j:=0) (us:=[]) (old:=[_,_]) (ts:=[]) (cs:=[_,_]) (R:=[_,_,_,_,_]) (new:=[_,_]) rfl rfl rfl Tryz.sizeOf31 rfl (by simp [Value.oneCell']) rfl rfl rfl rfl rfl rfl ?_
 refine HO_nil ?_
 refine H_env (ρ':=[(2,_)]) ⟨rfl,trivial⟩ ?_
 refine H_world (kp [yy,nn,yy,yy,yy,yy] [_,_,_,_,_] rfl) ?_
 have hcp:=Ent.confP_of hv1 hv2
 refine H_ret1 Tryz.results105 (.cell rfl (fun w hA => run_loadVarA (cs:=[_,_]) (Tryz.isAgg31 w) (Tryz.sizeOf31 w) (Tells.cells (.loc _ _ _) (hA.get (i:=0) rfl)))) (fun w hA => ⟨(y15.1,y11.2,y15.2),congrArg Ending.returned ?_,?_,?_⟩)
 ·(rw [hcp])
 ·trivial
 ·(rw [hcp];exact hA.only (is:=[1,2,3,3]) (Z:=[_]) rfl)
theorem creadent_spec (T : TypeId) (g : Nat) (b : List UInt8) (w : Bool) (a : Option Addr) (c : Nat) (hb : b.length≤100000) : Spec Tryz.prog 72 #[.pointer (some ⟨g,0,none⟩)] [.loc g [.slice a (b.length) c,.bool (w)] T,.dat kByte.sl (b) [.slice a (b.length) c]] (β:=(Option Addr × Nat) × (Option Addr × Nat) × (Option Addr × Nat)) (fun y => .agg #[.int .i64 ((Ent.entP (b,w)).1.idx),.int .i64 ((Ent.entP (b,w)).1.term),.int .i64 ((Ent.entP (b,w)).1.kind),.int .i64 ((Ent.entP (b,w)).1.cmd.kind),.int .i64 ((Ent.entP (b,w)).1.cmd.sess),.int .i64 ((Ent.entP (b,w)).1.cmd.seq),.string ((Ent.entP (b,w)).1.cmd.key),.string ((Ent.entP (b,w)).1.cmd.old),.string ((Ent.entP (b,w)).1.cmd.val),.string ((Ent.entP (b,w)).1.cmd.til),.int .i64 ((Ent.entP (b,w)).1.cmd.lim),.slice y.2.1.1 (((Ent.entP (b,w)).1.conf.vot).length) y.2.1.2,.slice y.2.2.1 (((Ent.entP (b,w)).1.conf.lea).length) y.2.2.2]) (fun y => True) (fun y => [.loc g [.slice y.1.1 (((Ent.entP (b,w)).2.1).length) y.1.2,.bool ((Ent.entP (b,w)).2.2)] T,.dat kByte.sl ((Ent.entP (b,w)).2.1) [.slice y.1.1 (((Ent.entP (b,w)).2.1).length) y.1.2],.dat kInt.sl ((Ent.entP (b,w)).1.conf.vot) [.slice y.2.1.1 (((Ent.entP (b,w)).1.conf.vot).length) y.2.1.2],.dat kInt.sl ((Ent.entP (b,w)).1.conf.lea) [.slice y.2.2.1 (((Ent.entP (b,w)).1.conf.lea).length) y.2.2.2]]):=by
 refine Spec.enter (vs:=[_]) Tryz.func72 rfl Tryz.ntmps72 rfl (Nat.le_of_ble_eq_true rfl) (fun w0 ok0 => ?_)
 generalize hM0 : blks _ = M0
 refine H_seq ?_
 refine H_region (l:=[_]) rfl ?_
 refine HO_alloc (cs:=[_,_,_,_,_,_,_,_,_,_,_,_,_]) rfl rfl Tryz.zeroValue70 rfl ?_
 intro g2
 refine HO_nil ?_
 refine H_seq ?_
 refine H_meetE (σ:=(Nat × List UInt8 × Bool) × (Nat × List UInt8 × Bool) × (Nat × List UInt8 × Bool) × Option Addr × Nat × Nat) _ (fun s => Cod.rd 0 (Cod.dec b) b w = s.1∧Cod.rd 0 (Cod.dec s.1.2.1) s.1.2.1 s.1.2.2 = s.2.1∧Cod.rd 0 (Cod.dec s.2.1.2.1) s.2.1.2.1 s.2.1.2.2 = s.2.2.1) (fun s => [(0,.pointer (some ⟨g,0,none⟩)),(2,.pointer (some ⟨g2,0,none⟩)),(3,.pointer (some ⟨s.2.2.2.2.2,0,none⟩))]) (fun s => Asn w0 ok0 M0 [.loc g [.slice s.2.2.2.1 ((s.2.2.1.2.1).length) s.2.2.2.2.1,.bool (s.2.2.1.2.2)] T,.dat kByte.sl (s.2.2.1.2.1) [.slice s.2.2.2.1 ((s.2.2.1.2.1).length) s.2.2.2.2.1],.loc g2 [.int .i64 (0),.int .i64 (0),.int .i64 (0),.int .i64 (0),.int .i64 (0),.int .i64 (0),.string (⟨#[]⟩),.string (⟨#[]⟩),.string (⟨#[]⟩),.string (⟨#[]⟩),.int .i64 (0),.slice none 0 0,.slice none 0 0] 70,.loc s.2.2.2.2.2 [.int .i64 (Cod.zag s.1.1),.int .i64 (Cod.zag s.2.1.1),.int .i64 (Cod.zag s.2.2.1.1),.int .i64 (0),.int .i64 (0),.int .i64 (0),.string (⟨#[]⟩),.string (⟨#[]⟩),.string (⟨#[]⟩),.string (⟨#[]⟩),.int .i64 (0),.slice none 0 0,.slice none 0 0] 70]) ?_ ?_
 ·skip
  refine H_drawB (m:=[yy,nn,yy]) (Xs:=[_,_]) (fuel:=15) (l:=#[false,false,false,false,false,false,false,false,false,false,false,false,false,false,false]) mixed rfl rfl rfl ?_
  refine HA_take (i:=0) bp rfl rfl rfl rfl (by kernel_rfl) rfl (V_move rfl) (kp [yy,nn,yy] [_,_] rfl) ?_
  refine HA_take (i:=1) bp rfl rfl rfl rfl (by kernel_rfl) rfl (V_nilCheck rfl) (kp [yy,nn,yy] [_,_] rfl) ?_
  refine HA_take (i:=2) bp rfl rfl rfl rfl (by kernel_rfl) rfl (V_fieldAddr (r:=0) rfl Tryz.underlying110 rfl Tryz.sizeOf108 rfl) (kp [yy,nn,yy] [_,_] rfl) ?_
  refine HA_take (i:=4) bp rfl rfl rfl rfl (by kernel_rfl) rfl (V_move rfl) (kp [yy,nn,yy] [_,_] rfl) ?_
  refine HA_take (i:=5) bp rfl rfl rfl rfl (by kernel_rfl) rfl (V_nilCheck rfl) (kp [yy,nn,yy] [_,_] rfl) ?_
  refine HA_take (i:=6) bp rfl rfl rfl rfl (by kernel_rfl) rfl (V_fieldAddr (r:=0) rfl Tryz.underlying110 rfl Tryz.sizeOf108 rfl) (kp [yy,nn,yy] [_,_] rfl) ?_
  refine HA_take (i:=8) bp rfl rfl rfl rfl (by kernel_rfl) rfl (V_move rfl) (kp [yy,nn,yy] [_,_] rfl) ?_
  refine HA_take (i:=9) bp rfl rfl rfl rfl (by kernel_rfl) rfl (V_nilCheck rfl) (kp [yy,nn,yy] [_,_] rfl) ?_
  refine HA_take (i:=10) bp rfl rfl rfl rfl (by kernel_rfl) rfl (V_fieldAddr (r:=0) rfl Tryz.underlying110 rfl Tryz.sizeOf108 rfl) (kp [yy,nn,yy] [_,_] rfl) ?_
  refine HA_loud2 (i:=3) (j:=13) (by kernel_rfl) rfl rfl ?_ ?_
  ·refine HO_dup (i:=2) rfl rfl ?_
   refine HO_call (first:=[]) (capt:=[]) (is:=[1,0]) (R:=[_,_]) rfl rfl rfl rfl rfl Tryz.call69 rfl (cInt_spec _ _ _ _ _ _) ?_
   intro y9 hy9
   refine HA_back rfl (kp [nn,nn,yy,yy] [_,_] rfl) ?_
   refine HA_loud2 (i:=7) (j:=13) (by kernel_rfl) rfl rfl ?_ ?_
   ·generalize hr_r1 : Cod.rd 0 (Cod.dec b) b w = r1
    have hl_r1 : r1.2.1.length≤b.length:=hr_r1 ▸ Cod.rd_len _ _ _ _
    refine HO_dup (i:=1) rfl rfl ?_
    refine HO_call (first:=[]) (capt:=[]) (is:=[0,0]) (R:=[_,_,_]) rfl rfl rfl rfl rfl Tryz.call69 rfl (cInt_spec _ _ _ _ _ _) ?_
    intro y13 hy13
    refine HA_back rfl (kp [nn,nn,nn,yy,yy] [_,_] rfl) ?_
    refine HA_loud2 (i:=11) (j:=13) (by kernel_rfl) rfl rfl ?_ ?_
    ·generalize hr_r2 : Cod.rd 0 (Cod.dec r1.2.1) r1.2.1 r1.2.2 = r2
     have hl_r2 : r2.2.1.length≤r1.2.1.length:=hr_r2 ▸ Cod.rd_len _ _ _ _
     refine HO_dup (i:=1) rfl rfl ?_
     refine HO_call (first:=[]) (capt:=[]) (is:=[0,0]) (R:=[_,_,_,_]) rfl rfl rfl rfl rfl Tryz.call69 rfl (cInt_spec _ _ _ _ _ _) ?_
     intro y17 hy17
     refine HA_back rfl (kp [nn,nn,nn,nn,yy,yy] [_,_] rfl) ?_
     generalize hr_r3 : Cod.rd 0 (Cod.dec r2.2.1) r2.2.1 r2.2.2 = r3
     have hl_r3 : r3.2.1.length≤r2.2.1.length:=hr_r3 ▸ Cod.rd_len _ _ _ _
     refine HA_take (i:=12) bp rfl rfl rfl rfl (by kernel_rfl) rfl (V_build (xo:=[(0,_),(1,_),(2,_)]) (vs:=[_,_,_]) rfl rfl (bd70_0_1_2_iii)) (kp [nn,nn,nn,nn,yy,yy] [_,_] rfl) ?_
     refine HA_loud1 (i:=13) (by kernel_rfl) rfl ?_
     refine HO_alloc (cs:=[_,_,_,_,_,_,_,_,_,_,_,_,_]) rfl rfl Tryz.zeroValue70 rfl ?_
     intro g3
     refine HA_back rfl (kp [nn,nn,nn,nn,nn,yy,yy] [_,_] rfl) ?_
     refine HA_loud1 (i:=14) (by kernel_rfl) rfl ?_
     refine HO_store (i:=0) (j:=0) (us:=[]) (old:=[_,_,_,_,_,_,_,_,_,_,_,_,_]) (ts:=[]) (cs:=[_,_,_,_,_,_,_,_,_,_,_,_,_]) (R:=[_,_,_,_,_,_]) (new:=[_,_,_,_,_,_,_,_,_,_,_,_,_]) rfl rfl rfl Tryz.sizeOf70 rfl (by simp [Value.oneCell']) rfl rfl rfl rfl rfl rfl ?_
     refine HA_back rfl (kp [nn,nn,nn,nn,nn,yy,yy] [_,_] rfl) ?_
     refine HA_done (by kernel_rfl) ?_
     refine H_env (ρ':=[(3,_),(2,_),(0,_)]) ⟨rfl,rfl,rfl,trivial⟩ ?_
     refine H_world (kp [yy,yy,yy,nn,nn,yy,nn] [_,_,_,_] rfl) ?_
     refine H_inv (fun a w hf hA => ⟨⟨r1,r2,r3,y17.1,y17.2,g3⟩,?_,hf.sub ?_,?_⟩)
     ·exact ⟨rfl,hr_r2,hr_r3⟩
     ·exact ⟨rfl,rfl,rfl,trivial⟩
     ·exact hA.only (is:=[0,1,2,0]) (Z:=[]) rfl
    ·refine HO_alloc (cs:=[_,_,_,_,_,_,_,_,_,_,_,_,_]) rfl rfl Tryz.zeroValue70 rfl ?_
     intro g3
     refine HA_back rfl (kp [nn,nn,nn,nn,yy,yy] [_,_] rfl) ?_
     refine HA_loud1 (i:=11) (by kernel_rfl) rfl ?_
     generalize hr_r2 : Cod.rd 0 (Cod.dec r1.2.1) r1.2.1 r1.2.2 = r2
     have hl_r2 : r2.2.1.length≤r1.2.1.length:=hr_r2 ▸ Cod.rd_len _ _ _ _
     refine HO_dup (i:=2) rfl rfl ?_
     refine HO_call (first:=[]) (capt:=[]) (is:=[1,0]) (R:=[_,_,_,_,_]) rfl rfl rfl rfl rfl Tryz.call69 rfl (cInt_spec _ _ _ _ _ _) ?_
     intro y17 hy17
     refine HA_back rfl (kp [nn,nn,nn,nn,nn,yy,yy] [_,_] rfl) ?_
     generalize hr_r3 : Cod.rd 0 (Cod.dec r2.2.1) r2.2.1 r2.2.2 = r3
     have hl_r3 : r3.2.1.length≤r2.2.1.length:=hr_r3 ▸ Cod.rd_len _ _ _ _
     refine HA_take (i:=12) bp rfl rfl rfl rfl (by kernel_rfl) rfl (V_build (xo:=[(0,_),(1,_),(2,_)]) (vs:=[_,_,_]) rfl rfl (bd70_0_1_2_iii)) (kp [nn,nn,nn,nn,nn,yy,yy] [_,_] rfl) ?_
     refine HA_loud1 (i:=14) (by kernel_rfl) rfl ?_
     refine HO_store (i:=2) (j:=0) (us:=[]) (old:=[_,_,_,_,_,_,_,_,_,_,_,_,_]) (ts:=[]) (cs:=[_,_,_,_,_,_,_,_,_,_,_,_,_]) (R:=[_,_,_,_,_,_]) (new:=[_,_,_,_,_,_,_,_,_,_,_,_,_]) rfl rfl rfl Tryz.sizeOf70 rfl (by simp [Value.oneCell']) rfl rfl rfl rfl rfl rfl ?_
     refine HA_back rfl (kp [nn,nn,nn,nn,nn,yy,yy] [_,_] rfl) ?_
     refine HA_done (by kernel_rfl) ?_
     refine H_env (ρ':=[(3,_),(2,_),(0,_)]) ⟨rfl,rfl,rfl,trivial⟩ ?_
     refine H_world (kp [yy,yy,yy,nn,nn,yy,nn] [_,_,_,_] rfl) ?_
     refine H_inv (fun a w hf hA => ⟨⟨r1,r2,r3,y17.1,y17.2,g3⟩,?_,hf.sub ?_,?_⟩)
     ·exact ⟨rfl,hr_r2,hr_r3⟩
     ·exact ⟨rfl,rfl,rfl,trivial⟩
     ·exact hA.only (is:=[0,1,2,0]) (Z:=[]) rfl
   ·refine HO_alloc (cs:=[_,_,_,_,_,_,_,_,_,_,_,_,_]) rfl rfl Tryz.zeroValue70 rfl ?_
    intro g3
    refine HA_back rfl (kp [nn,nn,nn,yy,yy] [_,_] rfl) ?_
    refine HA_loud1 (i:=7) (by kernel_rfl) rfl ?_
    generalize hr_r1 : Cod.rd 0 (Cod.dec b) b w = r1
    have hl_r1 : r1.2.1.length≤b.length:=hr_r1 ▸ Cod.rd_len _ _ _ _
    refine HO_dup (i:=2) rfl rfl ?_
    refine HO_call (first:=[]) (capt:=[]) (is:=[1,0]) (R:=[_,_,_,_]) rfl rfl rfl rfl rfl Tryz.call69 rfl (cInt_spec _ _ _ _ _ _) ?_
    intro y13 hy13
    refine HA_back rfl (kp [nn,nn,nn,nn,yy,yy] [_,_] rfl) ?_
    refine HA_loud1 (i:=11) (by kernel_rfl) rfl ?_
    generalize hr_r2 : Cod.rd 0 (Cod.dec r1.2.1) r1.2.1 r1.2.2 = r2
    have hl_r2 : r2.2.1.length≤r1.2.1.length:=hr_r2 ▸ Cod.rd_len _ _ _ _
    refine HO_dup (i:=1) rfl rfl ?_
    refine HO_call (first:=[]) (capt:=[]) (is:=[0,0]) (R:=[_,_,_,_,_]) rfl rfl rfl rfl rfl Tryz.call69 rfl (cInt_spec _ _ _ _ _ _) ?_
    intro y17 hy17
    refine HA_back rfl (kp [nn,nn,nn,nn,nn,yy,yy] [_,_] rfl) ?_
    generalize hr_r3 : Cod.rd 0 (Cod.dec r2.2.1) r2.2.1 r2.2.2 = r3
    have hl_r3 : r3.2.1.length≤r2.2.1.length:=hr_r3 ▸ Cod.rd_len _ _ _ _
    refine HA_take (i:=12) bp rfl rfl rfl rfl (by kernel_rfl) rfl (V_build (xo:=[(0,_),(1,_),(2,_)]) (vs:=[_,_,_]) rfl rfl (bd70_0_1_2_iii)) (kp [nn,nn,nn,nn,nn,yy,yy] [_,_] rfl) ?_
    refine HA_loud1 (i:=14) (by kernel_rfl) rfl ?_
    refine HO_store (i:=3) (j:=0) (us:=[]) (old:=[_,_,_,_,_,_,_,_,_,_,_,_,_]) (ts:=[]) (cs:=[_,_,_,_,_,_,_,_,_,_,_,_,_]) (R:=[_,_,_,_,_,_]) (new:=[_,_,_,_,_,_,_,_,_,_,_,_,_]) rfl rfl rfl Tryz.sizeOf70 rfl (by simp [Value.oneCell']) rfl rfl rfl rfl rfl rfl ?_
    refine HA_back rfl (kp [nn,nn,nn,nn,nn,yy,yy] [_,_] rfl) ?_
    refine HA_done (by kernel_rfl) ?_
    refine H_env (ρ':=[(3,_),(2,_),(0,_)]) ⟨rfl,rfl,rfl,trivial⟩ ?_
    refine H_world (kp [yy,yy,yy,nn,nn,yy,nn] [_,_,_,_] rfl) ?_
    refine H_inv (fun a w hf hA => ⟨⟨r1,r2,r3,y17.1,y17.2,g3⟩,?_,hf.sub ?_,?_⟩)
    ·exact ⟨rfl,hr_r2,hr_r3⟩
    ·exact ⟨rfl,rfl,rfl,trivial⟩
    ·exact hA.only (is:=[0,1,2,0]) (Z:=[]) rfl
  ·refine HO_alloc (cs:=[_,_,_,_,_,_,_,_,_,_,_,_,_]) rfl rfl Tryz.zeroValue70 rfl ?_
   intro g3
   refine HA_back rfl (kp [nn,yy,nn,yy] [_,_] rfl) ?_
   refine HA_loud1 (i:=3) (by kernel_rfl) rfl ?_
   refine HO_dup (i:=3) rfl rfl ?_
   refine HO_call (first:=[]) (capt:=[]) (is:=[2,0]) (R:=[_,_,_]) rfl rfl rfl rfl rfl Tryz.call69 rfl (cInt_spec _ _ _ _ _ _) ?_
   intro y9 hy9
   refine HA_back rfl (kp [nn,nn,nn,yy,yy] [_,_] rfl) ?_
   refine HA_loud1 (i:=7) (by kernel_rfl) rfl ?_
   generalize hr_r1 : Cod.rd 0 (Cod.dec b) b w = r1
   have hl_r1 : r1.2.1.length≤b.length:=hr_r1 ▸ Cod.rd_len _ _ _ _
   refine HO_dup (i:=1) rfl rfl ?_
   refine HO_call (first:=[]) (capt:=[]) (is:=[0,0]) (R:=[_,_,_,_]) rfl rfl rfl rfl rfl Tryz.call69 rfl (cInt_spec _ _ _ _ _ _) ?_
   intro y13 hy13
   refine HA_back rfl (kp [nn,nn,nn,nn,yy,yy] [_,_] rfl) ?_
   refine HA_loud1 (i:=11) (by kernel_rfl) rfl ?_
   generalize hr_r2 : Cod.rd 0 (Cod.dec r1.2.1) r1.2.1 r1.2.2 = r2
   have hl_r2 : r2.2.1.length≤r1.2.1.length:=hr_r2 ▸ Cod.rd_len _ _ _ _
   refine HO_dup (i:=1) rfl rfl ?_
   refine HO_call (first:=[]) (capt:=[]) (is:=[0,0]) (R:=[_,_,_,_,_]) rfl rfl rfl rfl rfl Tryz.call69 rfl (cInt_spec _ _ _ _ _ _) ?_
   intro y17 hy17
   refine HA_back rfl (kp [nn,nn,nn,nn,nn,yy,yy] [_,_] rfl) ?_
   generalize hr_r3 : Cod.rd 0 (Cod.dec r2.2.1) r2.2.1 r2.2.2 = r3
   have hl_r3 : r3.2.1.length≤r2.2.1.length:=hr_r3 ▸ Cod.rd_len _ _ _ _
   refine HA_take (i:=12) bp rfl rfl rfl rfl (by kernel_rfl) rfl (V_build (xo:=[(0,_),(1,_),(2,_)]) (vs:=[_,_,_]) rfl rfl (bd70_0_1_2_iii)) (kp [nn,nn,nn,nn,nn,yy,yy] [_,_] rfl) ?_
   refine HA_loud1 (i:=14) (by kernel_rfl) rfl ?_
   refine HO_store (i:=4) (j:=0) (us:=[]) (old:=[_,_,_,_,_,_,_,_,_,_,_,_,_]) (ts:=[]) (cs:=[_,_,_,_,_,_,_,_,_,_,_,_,_]) (R:=[_,_,_,_,_,_]) (new:=[_,_,_,_,_,_,_,_,_,_,_,_,_]) rfl rfl rfl Tryz.sizeOf70 rfl (by simp [Value.oneCell']) rfl rfl rfl rfl rfl rfl ?_
   refine HA_back rfl (kp [nn,nn,nn,nn,nn,yy,yy] [_,_] rfl) ?_
   refine HA_done (by kernel_rfl) ?_
   refine H_env (ρ':=[(3,_),(2,_),(0,_)]) ⟨rfl,rfl,rfl,trivial⟩ ?_
   refine H_world (kp [yy,yy,yy,nn,nn,yy,nn] [_,_,_,_] rfl) ?_
   refine H_inv (fun a w hf hA => ⟨⟨r1,r2,r3,y17.1,y17.2,g3⟩,?_,hf.sub ?_,?_⟩)
   ·exact ⟨rfl,hr_r2,hr_r3⟩
   ·exact ⟨rfl,rfl,rfl,trivial⟩
   ·exact hA.only (is:=[0,1,2,0]) (Z:=[]) rfl
 rintro ⟨r1,r2,r3,p,q,g3⟩ hJ
 (try dsimp only at hJ ⊢)
 obtain ⟨hr_r1,hr_r2,hr_r3⟩:=hJ
 have hl_r1 : r1.2.1.length≤b.length:=hr_r1 ▸ Cod.rd_len _ _ _ _
 have hl_r2 : r2.2.1.length≤r1.2.1.length:=hr_r2 ▸ Cod.rd_len _ _ _ _
 have hl_r3 : r3.2.1.length≤r2.2.1.length:=hr_r3 ▸ Cod.rd_len _ _ _ _
 refine H_seq ?_
 refine H_seq ?_
 refine H_region (l:=[_,_]) rfl ?_
 refine HO_fieldAddr (r:=2) rfl rfl rfl Tryz.underlying70 rfl Tryz.sizeOf3 rfl ?_
 refine HO_load1 (i:=3) (j:=2) rfl rfl rfl Tryz.isAgg3 rfl (.loc _ _ _) rfl rfl ?_
 refine HO_nil ?_
 refine H_env (ρ':=[(20,_),(0,_),(2,_),(3,_)]) ⟨rfl,rfl,rfl,rfl,trivial⟩ ?_
 refine H_block ?_
 refine H_seq ?_
 refine H_region (l:=[_,_]) rfl ?_
 refine HO_bin rfl rfl rfl rfl bin_eql ?_
 refine HO_assign rfl rfl rfl ?_
 refine HO_nil ?_
 refine H_env (ρ':=[(21,_),(20,_),(0,_),(2,_),(3,_)]) ⟨rfl,rfl,rfl,rfl,rfl,trivial⟩ ?_
 refine H_cond rfl ?_ ?_
 ·intro h21
  replace h21:=dT h21
  refine H_seq ?_
  refine H_region (l:=[_,_,_,_,_,_,_,_,_,_,_,_]) rfl ?_
  refine HO_move rfl rfl rfl ?_
  refine HO_nilCheck rfl rfl rfl ?_
  refine HO_fieldAddr (r:=0) rfl rfl rfl Tryz.underlying110 rfl Tryz.sizeOf108 rfl ?_
  refine HO_dup (i:=1) rfl rfl ?_
  refine HO_call (first:=[]) (capt:=[]) (is:=[0,0]) (R:=[_,_,_]) rfl rfl rfl rfl rfl Tryz.call103 rfl (cText_spec _ _ _ _ _ _ ?_) ?_
  ·(first | omega | assumption | decide)
  intro y27 hy27
  generalize hr_r4 : Cod.rd [] (Cod.decT r3.2.1) r3.2.1 r3.2.2 = r4
  have hl_r4 : r4.2.1.length≤r3.2.1.length:=hr_r4 ▸ Cod.rd_len _ _ _ _
  have hs_r4:=Cod.rdT_size hr_r4
  refine HO_strBytes rfl rfl rfl Tryz.underlying9 Tryz.underlying32 Tryz.underlying5 ?_ ?_
  ·(simp only [maxLen];omega)
  intro a28 c28
  refine HO_dup (i:=0) rfl rfl ?_
  refine HO_call (first:=[]) (capt:=[]) (is:=[0]) (R:=[_,_,_,_,_,_]) rfl rfl rfl rfl rfl Tryz.call102 rfl (cread_spec _ _ _ ?_) ?_
  ·(have h:=hs_r4;rw [Cod.size_mk] at h;show List.length r4.1≤_;omega)
  intro y29 hy29
  clear y29 hy29
  generalize hc4 : Cmd.read ({ data:=r4.1.toArray } : ByteArray).data.toList = c4
  replace hc4 : Cmd.read r4.1 = c4:=hc4
  refine HO_move rfl rfl rfl ?_
  refine HO_extract (vs:=[_,_]) rfl rfl rfl rfl ?_
  refine HO_extract (vs:=[_,_]) rfl rfl rfl rfl ?_
  refine HO_alloc (cs:=[_,_,_,_,_,_,_,_]) rfl rfl Tryz.zeroValue68 rfl ?_
  intro g4
  refine HO_store (i:=0) (j:=0) (us:=[]) (old:=[_,_,_,_,_,_,_,_]) (ts:=[]) (cs:=[_,_,_,_,_,_,_,_]) (R:=[_,_,_,_,_,_]) (new:=[_,_,_,_,_,_,_,_]) rfl rfl rfl Tryz.sizeOf68 rfl (by simp [Value.oneCell']) rfl rfl rfl rfl rfl rfl ?_
  refine HO_assign rfl rfl rfl ?_
  refine HO_nil ?_
  refine H_env (ρ':=[(5,_),(4,_),(0,_),(2,_),(3,_)]) ⟨rfl,rfl,rfl,rfl,rfl,trivial⟩ ?_
  refine H_world (kp [yy,nn,yy,yy,nn,yy,yy] [_,_,_,_,_] rfl) ?_
  refine H_seq ?_
  refine H_seq ?_
  refine H_region (l:=[_,_]) rfl ?_
  refine HO_move rfl rfl rfl ?_
  refine HO_bin rfl rfl rfl rfl bin_neq ?_
  refine HO_nil ?_
  refine H_env (ρ':=[(33,_),(4,_),(0,_),(2,_),(3,_)]) ⟨rfl,rfl,rfl,rfl,rfl,trivial⟩ ?_
  refine H_cond rfl ?_ ?_
  ·intro h33
   replace h33:=dT h33
   refine H_region (l:=[_,_]) rfl ?_
   refine HO_move rfl rfl rfl ?_
   refine HO_dup (i:=2) rfl rfl ?_
   refine HO_call (first:=[]) (capt:=[]) (is:=[1,0]) (R:=[_,_,_,_]) rfl rfl rfl rfl rfl Tryz.call104 rfl (rwrong_spec _ _ _ _ _ _) ?_
   intro y35 hy35
   clear y35 hy35
   refine HO_nil ?_
   refine H_env (ρ':=[(4,_),(2,_),(3,_)]) ⟨rfl,rfl,rfl,trivial⟩ ?_
   refine H_world (kp [yy,yy,yy,nn,yy,yy] [_,_,_,_,_] rfl) ?_
   refine H_region (l:=[_,_,_]) rfl ?_
   refine HO_loadA (i:=2) (us:=[]) (cs:=[_,_,_,_,_,_,_,_]) (ts:=[]) rfl rfl rfl Tryz.isAgg68 Tryz.sizeOf68 rfl (.loc _ _ _) rfl rfl rfl rfl ?_
   refine HO_fieldAddr (r:=3) rfl rfl rfl Tryz.underlying70 rfl Tryz.sizeOf68 rfl ?_
   refine HO_store (i:=4) (j:=0) (us:=[_,_,_]) (old:=[_,_,_,_,_,_,_,_]) (ts:=[_,_]) (cs:=[_,_,_,_,_,_,_,_]) (R:=[_,_,_,_]) (new:=[_,_,_,_,_,_,_,_,_,_,_,_,_]) rfl rfl rfl Tryz.sizeOf68 rfl (by simp [Value.oneCell']) rfl rfl rfl rfl rfl rfl ?_
   refine HO_nil ?_
   refine H_env (ρ':=[(2,_),(3,_)]) ⟨rfl,rfl,trivial⟩ ?_
   refine H_world (kp [yy,yy,yy,nn,yy] [_,_,_,_] rfl) ?_
   refine H_blk ?_
   refine H_seq ?_
   refine H_region (l:=[_,_]) rfl ?_
   refine HO_loadA (i:=0) (us:=[]) (cs:=[_,_,_,_,_,_,_,_,_,_,_,_,_]) (ts:=[]) rfl rfl rfl Tryz.isAgg70 Tryz.sizeOf70 rfl (.loc _ _ _) rfl rfl rfl rfl ?_
   refine HO_store (i:=3) (j:=0) (us:=[]) (old:=[_,_,_,_,_,_,_,_,_,_,_,_,_]) (ts:=[]) (cs:=[_,_,_,_,_,_,_,_,_,_,_,_,_]) (R:=[_,_,_]) (new:=[_,_,_,_,_,_,_,_,_,_,_,_,_]) rfl rfl rfl Tryz.sizeOf70 rfl (by simp [Value.oneCell']) rfl rfl rfl rfl rfl rfl ?_
   refine HO_nil ?_
   refine H_env (ρ':=[(2,_)]) ⟨rfl,trivial⟩ ?_
   refine H_world (kp [yy,nn,yy,yy] [_,_,_] rfl) ?_
   refine H_nilDat kInt ?_
   refine H_nilDat kInt ?_
   have hent:=(Ent.entP_2 hr_r1 hr_r2 hr_r3 hr_r4 h21).trans (by rw [hc4,if_neg h33])
   refine H_ret1 Tryz.results72 (.cell rfl (fun w hA => run_loadVarA (cs:=[_,_,_,_,_,_,_,_,_,_,_,_,_]) (Tryz.isAgg70 w) (Tryz.sizeOf70 w) (Tells.cells (.loc _ _ _) (hA.get (i:=2) rfl)))) (fun w hA => ⟨((none,0),(none,0),(none,0)),congrArg Ending.returned ?_,?_,?_⟩)
   ·(rw [hent] <;> rfl)
   ·trivial
   ·(rw [hent];exact hA.only (is:=[1,2,0,0]) (Z:=[_]) rfl)
  intro h33
  replace h33:=dF h33
  refine H_skip ?_
  refine H_region (l:=[_,_,_]) rfl ?_
  refine HO_loadA (i:=0) (us:=[]) (cs:=[_,_,_,_,_,_,_,_]) (ts:=[]) rfl rfl rfl Tryz.isAgg68 Tryz.sizeOf68 rfl (.loc _ _ _) rfl rfl rfl rfl ?_
  refine HO_fieldAddr (r:=3) rfl rfl rfl Tryz.underlying70 rfl Tryz.sizeOf68 rfl ?_
  refine HO_store (i:=4) (j:=0) (us:=[_,_,_]) (old:=[_,_,_,_,_,_,_,_]) (ts:=[_,_]) (cs:=[_,_,_,_,_,_,_,_]) (R:=[_,_,_,_]) (new:=[_,_,_,_,_,_,_,_,_,_,_,_,_]) rfl rfl rfl Tryz.sizeOf68 rfl (by simp [Value.oneCell']) rfl rfl rfl rfl rfl rfl ?_
  refine HO_nil ?_
  refine H_env (ρ':=[(2,_),(3,_)]) ⟨rfl,rfl,trivial⟩ ?_
  refine H_world (kp [yy,nn,yy,yy,yy] [_,_,_,_] rfl) ?_
  refine H_blk ?_
  refine H_seq ?_
  refine H_region (l:=[_,_]) rfl ?_
  refine HO_loadA (i:=0) (us:=[]) (cs:=[_,_,_,_,_,_,_,_,_,_,_,_,_]) (ts:=[]) rfl rfl rfl Tryz.isAgg70 Tryz.sizeOf70 rfl (.loc _ _ _) rfl rfl rfl rfl ?_
  refine HO_store (i:=3) (j:=0) (us:=[]) (old:=[_,_,_,_,_,_,_,_,_,_,_,_,_]) (ts:=[]) (cs:=[_,_,_,_,_,_,_,_,_,_,_,_,_]) (R:=[_,_,_]) (new:=[_,_,_,_,_,_,_,_,_,_,_,_,_]) rfl rfl rfl Tryz.sizeOf70 rfl (by simp [Value.oneCell']) rfl rfl rfl rfl rfl rfl ?_
  refine HO_nil ?_
  refine H_env (ρ':=[(2,_)]) ⟨rfl,trivial⟩ ?_
  refine H_world (kp [yy,nn,yy,yy] [_,_,_] rfl) ?_
  refine H_nilDat kInt ?_
  refine H_nilDat kInt ?_
  have hent:=(Ent.entP_2 hr_r1 hr_r2 hr_r3 hr_r4 h21).trans (by rw [hc4,if_pos (Decidable.not_not.1 h33)])
  refine H_ret1 Tryz.results72 (.cell rfl (fun w hA => run_loadVarA (cs:=[_,_,_,_,_,_,_,_,_,_,_,_,_]) (Tryz.isAgg70 w) (Tryz.sizeOf70 w) (Tells.cells (.loc _ _ _) (hA.get (i:=2) rfl)))) (fun w hA => ⟨(y27,(none,0),(none,0)),congrArg Ending.returned ?_,?_,?_⟩)
  ·(rw [hent] <;> rfl)
  ·trivial
  ·(rw [hent];exact hA.only (is:=[1,2,0,0]) (Z:=[_]) rfl)
 intro h21
 replace h21:=dF h21
 refine H_seq ?_
 refine H_region (l:=[_,_]) rfl ?_
 refine HO_bin rfl rfl rfl rfl bin_eql ?_
 refine HO_assign rfl rfl rfl ?_
 refine HO_nil ?_
 refine H_env (ρ':=[(38,_),(0,_),(2,_),(3,_)]) ⟨rfl,rfl,rfl,rfl,trivial⟩ ?_
 refine H_cond rfl ?_ ?_
 ·intro h38
  replace h38:=dT h38
  refine H_region (l:=[_,_,_,_]) rfl ?_
  refine HO_move rfl rfl rfl ?_
  refine HO_dup (i:=1) rfl rfl ?_
  refine HO_call (first:=[]) (capt:=[]) (is:=[0,0]) (R:=[_,_,_]) rfl rfl rfl rfl rfl Tryz.call105 rfl (cconf_spec _ _ _ _ _ _ ?_) ?_
  ·(first | omega | assumption | decide)
  intro y41 hy41
  generalize hc3 : Ent.confP (r3.2.1,r3.2.2) = c3
  refine HO_fieldAddr (r:=11) rfl rfl rfl Tryz.underlying70 rfl Tryz.sizeOf31 rfl ?_
  refine HO_store (i:=6) (j:=0) (us:=[_,_,_,_,_,_,_,_,_,_,_]) (old:=[_,_]) (ts:=[]) (cs:=[_,_]) (R:=[_,_,_,_,_,_]) (new:=[_,_,_,_,_,_,_,_,_,_,_,_,_]) rfl rfl rfl Tryz.sizeOf31 rfl (by simp [Value.oneCell']) rfl rfl rfl rfl rfl rfl ?_
  refine HO_nil ?_
  refine H_env (ρ':=[(2,_),(3,_)]) ⟨rfl,rfl,trivial⟩ ?_
  refine H_world (kp [yy,yy,yy,yy,yy,nn,yy] [_,_,_,_,_,_] rfl) ?_
  refine H_blk ?_
  refine H_seq ?_
  refine H_region (l:=[_,_]) rfl ?_
  refine HO_loadA (i:=0) (us:=[]) (cs:=[_,_,_,_,_,_,_,_,_,_,_,_,_]) (ts:=[]) rfl rfl rfl Tryz.isAgg70 Tryz.sizeOf70 rfl (.loc _ _ _) rfl rfl rfl rfl ?_
  refine HO_store (i:=5) (j:=0) (us:=[]) (old:=[_,_,_,_,_,_,_,_,_,_,_,_,_]) (ts:=[]) (cs:=[_,_,_,_,_,_,_,_,_,_,_,_,_]) (R:=[_,_,_,_,_]) (new:=[_,_,_,_,_,_,_,_,_,_,_,_,_]) rfl rfl rfl Tryz.sizeOf70 rfl (by simp [Value.oneCell']) rfl rfl rfl rfl rfl rfl ?_
  refine HO_nil ?_
  refine H_env (ρ':=[(2,_)]) ⟨rfl,trivial⟩ ?_
  refine H_world (kp [yy,nn,yy,yy,yy,yy] [_,_,_,_,_] rfl) ?_
  have hent:=(Ent.entP_3 hr_r1 hr_r2 hr_r3 h38).trans (by rw [hc3])
  refine H_ret1 Tryz.results72 (.cell rfl (fun w hA => run_loadVarA (cs:=[_,_,_,_,_,_,_,_,_,_,_,_,_]) (Tryz.isAgg70 w) (Tryz.sizeOf70 w) (Tells.cells (.loc _ _ _) (hA.get (i:=0) rfl)))) (fun w hA => ⟨y41,congrArg Ending.returned ?_,?_,?_⟩)
  ·(rw [hent] <;> rfl)
  ·trivial
  ·(rw [hent];exact hA.keep (m:=[nn,yy,yy,yy,yy]) (Y:=[_,_,_,_]) rfl)
 intro h38
 replace h38:=dF h38
 refine H_skip ?_
 refine H_blk ?_
 refine H_seq ?_
 refine H_region (l:=[_,_]) rfl ?_
 refine HO_loadA (i:=3) (us:=[]) (cs:=[_,_,_,_,_,_,_,_,_,_,_,_,_]) (ts:=[]) rfl rfl rfl Tryz.isAgg70 Tryz.sizeOf70 rfl (.loc _ _ _) rfl rfl rfl rfl ?_
 refine HO_store (i:=2) (j:=0) (us:=[]) (old:=[_,_,_,_,_,_,_,_,_,_,_,_,_]) (ts:=[]) (cs:=[_,_,_,_,_,_,_,_,_,_,_,_,_]) (R:=[_,_,_]) (new:=[_,_,_,_,_,_,_,_,_,_,_,_,_]) rfl rfl rfl Tryz.sizeOf70 rfl (by simp [Value.oneCell']) rfl rfl rfl rfl rfl rfl ?_
 refine HO_nil ?_
 refine H_env (ρ':=[(2,_)]) ⟨rfl,trivial⟩ ?_
 refine H_world (kp [yy,yy,yy,nn] [_,_,_] rfl) ?_
 refine H_nilDat kInt ?_
 refine H_nilDat kInt ?_
 have hent:=Ent.entP_0 hr_r1 hr_r2 hr_r3 h21 h38
 refine H_ret1 Tryz.results72 (.cell rfl (fun w hA => run_loadVarA (cs:=[_,_,_,_,_,_,_,_,_,_,_,_,_]) (Tryz.isAgg70 w) (Tryz.sizeOf70 w) (Tells.cells (.loc _ _ _) (hA.get (i:=2) rfl)))) (fun w hA => ⟨((p,q),(none,0),(none,0)),congrArg Ending.returned ?_,?_,?_⟩)
 ·(rw [hent] <;> rfl)
 ·trivial
 ·(rw [hent];exact hA.only (is:=[1,2,0,0]) (Z:=[_]) rfl)
theorem creadsnap_spec (T : TypeId) (g : Nat) (b : List UInt8) (w : Bool) (a : Option Addr) (c : Nat) (hb : b.length≤100000) : Spec Tryz.prog 73 #[.pointer (some ⟨g,0,none⟩)] [.loc g [.slice a (b.length) c,.bool (w)] T,.dat kByte.sl (b) [.slice a (b.length) c]] (β:=(Option Addr × Nat) × (Option Addr × Nat) × (Option Addr × Nat) × (Option Addr × Nat)) (fun y => .agg #[.int .i64 ((Ent.snapP (b,w)).1.idx),.int .i64 ((Ent.snapP (b,w)).1.term),.slice y.2.1.1 (((Ent.snapP (b,w)).1.conf.vot).length) y.2.1.2,.slice y.2.2.1.1 (((Ent.snapP (b,w)).1.conf.lea).length) y.2.2.1.2,.slice y.2.2.2.1 (((Ent.snapP (b,w)).1.data).length) y.2.2.2.2]) (fun y => True) (fun y => [.loc g [.slice y.1.1 (((Ent.snapP (b,w)).2.1).length) y.1.2,.bool ((Ent.snapP (b,w)).2.2)] T,.dat kByte.sl ((Ent.snapP (b,w)).2.1) [.slice y.1.1 (((Ent.snapP (b,w)).2.1).length) y.1.2],.dat kInt.sl ((Ent.snapP (b,w)).1.conf.vot) [.slice y.2.1.1 (((Ent.snapP (b,w)).1.conf.vot).length) y.2.1.2],.dat kInt.sl ((Ent.snapP (b,w)).1.conf.lea) [.slice y.2.2.1.1 (((Ent.snapP (b,w)).1.conf.lea).length) y.2.2.1.2],.dat kByte.sl ((Ent.snapP (b,w)).1.data) [.slice y.2.2.2.1 (((Ent.snapP (b,w)).1.data).length) y.2.2.2.2]]):=by
 refine Spec.enter (vs:=[_]) Tryz.func73 rfl Tryz.ntmps73 rfl (Nat.le_of_ble_eq_true rfl) (fun w0 ok0 => ?_)
 generalize hM0 : blks _ = M0
 refine H_seq ?_
 refine H_region (l:=[_]) rfl ?_
 refine HO_alloc (cs:=[_,_,_,_,_]) rfl rfl Tryz.zeroValue34 rfl ?_
 intro g2
 refine HO_nil ?_
 refine H_seq ?_
 refine H_drawB (m:=[yy,nn,yy]) (Xs:=[_,_]) (fuel:=11) (l:=#[false,false,false,false,false,false,false,false,false,false,false]) mixed rfl rfl rfl ?_
 refine HA_take (i:=0) bp rfl rfl rfl rfl (by kernel_rfl) rfl (V_move rfl) (kp [yy,nn,yy] [_,_] rfl) ?_
 refine HA_take (i:=1) bp rfl rfl rfl rfl (by kernel_rfl) rfl (V_nilCheck rfl) (kp [yy,nn,yy] [_,_] rfl) ?_
 refine HA_take (i:=2) bp rfl rfl rfl rfl (by kernel_rfl) rfl (V_fieldAddr (r:=0) rfl Tryz.underlying110 rfl Tryz.sizeOf108 rfl) (kp [yy,nn,yy] [_,_] rfl) ?_
 refine HA_take (i:=4) bp rfl rfl rfl rfl (by kernel_rfl) rfl (V_move rfl) (kp [yy,nn,yy] [_,_] rfl) ?_
 refine HA_take (i:=5) bp rfl rfl rfl rfl (by kernel_rfl) rfl (V_nilCheck rfl) (kp [yy,nn,yy] [_,_] rfl) ?_
 refine HA_take (i:=6) bp rfl rfl rfl rfl (by kernel_rfl) rfl (V_fieldAddr (r:=0) rfl Tryz.underlying110 rfl Tryz.sizeOf108 rfl) (kp [yy,nn,yy] [_,_] rfl) ?_
 refine HA_loud2 (i:=3) (j:=9) (by kernel_rfl) rfl rfl ?_ ?_
 ·refine HO_dup (i:=2) rfl rfl ?_
  refine HO_call (first:=[]) (capt:=[]) (is:=[1,0]) (R:=[_,_]) rfl rfl rfl rfl rfl Tryz.call69 rfl (cInt_spec _ _ _ _ _ _) ?_
  intro y7 hy7
  refine HA_back rfl (kp [nn,nn,yy,yy] [_,_] rfl) ?_
  refine HA_loud2 (i:=7) (j:=9) (by kernel_rfl) rfl rfl ?_ ?_
  ·generalize hr_r1 : Cod.rd 0 (Cod.dec b) b w = r1
   have hl_r1 : r1.2.1.length≤b.length:=hr_r1 ▸ Cod.rd_len _ _ _ _
   refine HO_dup (i:=1) rfl rfl ?_
   refine HO_call (first:=[]) (capt:=[]) (is:=[0,0]) (R:=[_,_,_]) rfl rfl rfl rfl rfl Tryz.call69 rfl (cInt_spec _ _ _ _ _ _) ?_
   intro y11 hy11
   refine HA_back rfl (kp [nn,nn,nn,yy,yy] [_,_] rfl) ?_
   generalize hr_r2 : Cod.rd 0 (Cod.dec r1.2.1) r1.2.1 r1.2.2 = r2
   have hl_r2 : r2.2.1.length≤r1.2.1.length:=hr_r2 ▸ Cod.rd_len _ _ _ _
   refine HA_take (i:=8) bp rfl rfl rfl rfl (by kernel_rfl) rfl (V_build (xo:=[(0,_),(1,_)]) (vs:=[_,_]) rfl rfl (bd34_0_1_ii)) (kp [nn,nn,nn,yy,yy] [_,_] rfl) ?_
   refine HA_loud1 (i:=9) (by kernel_rfl) rfl ?_
   refine HO_alloc (cs:=[_,_,_,_,_]) rfl rfl Tryz.zeroValue34 rfl ?_
   intro g3
   refine HA_back rfl (kp [nn,nn,nn,nn,yy,yy] [_,_] rfl) ?_
   refine HA_loud1 (i:=10) (by kernel_rfl) rfl ?_
   refine HO_store (i:=0) (j:=0) (us:=[]) (old:=[_,_,_,_,_]) (ts:=[]) (cs:=[_,_,_,_,_]) (R:=[_,_,_,_,_]) (new:=[_,_,_,_,_]) rfl rfl rfl Tryz.sizeOf34 rfl (by simp [Value.oneCell']) rfl rfl rfl rfl rfl rfl ?_
   refine HA_back rfl (kp [nn,nn,nn,nn,yy,yy] [_,_] rfl) ?_
   refine HA_done (by kernel_rfl) ?_
   refine H_env (ρ':=[(3,_),(2,_),(0,_)]) ⟨rfl,rfl,rfl,trivial⟩ ?_
   refine H_world (kp [yy,yy,yy,nn,yy,nn] [_,_,_,_] rfl) ?_
   refine H_seq ?_
   refine H_region (l:=[_,_,_,_]) rfl ?_
   refine HO_move rfl rfl rfl ?_
   refine HO_dup (i:=2) rfl rfl ?_
   refine HO_call (first:=[]) (capt:=[]) (is:=[1,0]) (R:=[_,_,_]) rfl rfl rfl rfl rfl Tryz.call105 rfl (cconf_spec _ _ _ _ _ _ ?_) ?_
   ·(first | omega | assumption | decide)
   intro y14 hy14
   have hcl3:=Ent.confP_len (r2.2.1,r2.2.2)
   obtain ⟨c3,hc3⟩ : ∃ e,Ent.confP (r2.2.1,r2.2.2) = e:=⟨_,rfl⟩
   rw [hc3] at hcl3 ⊢
   dsimp only at hcl3
   refine HO_fieldAddr (r:=2) rfl rfl rfl Tryz.underlying34 rfl Tryz.sizeOf31 rfl ?_
   refine HO_store (i:=4) (j:=0) (us:=[_,_]) (old:=[_,_]) (ts:=[_]) (cs:=[_,_]) (R:=[_,_,_,_,_,_]) (new:=[_,_,_,_,_]) rfl rfl rfl Tryz.sizeOf31 rfl (by simp [Value.oneCell']) rfl rfl rfl rfl rfl rfl ?_
   refine HO_nil ?_
   refine H_env (ρ':=[(3,_),(2,_),(0,_)]) ⟨rfl,rfl,rfl,trivial⟩ ?_
   refine H_world (kp [yy,yy,yy,yy,yy,nn,yy] [_,_,_,_,_,_] rfl) ?_
   refine H_seq ?_
   refine H_region (l:=[_,_,_,_,_,_,_]) rfl ?_
   refine HO_move rfl rfl rfl ?_
   refine HO_nilCheck rfl rfl rfl ?_
   refine HO_fieldAddr (r:=0) rfl rfl rfl Tryz.underlying110 rfl Tryz.sizeOf108 rfl ?_
   refine HO_dup (i:=2) rfl rfl ?_
   refine HO_call (first:=[]) (capt:=[]) (is:=[1,0]) (R:=[_,_,_,_,_]) rfl rfl rfl rfl rfl Tryz.call103 rfl (cText_spec _ _ _ _ _ _ ?_) ?_
   ·(first | omega | assumption | decide)
   intro y19 hy19
   generalize hr_r3 : Cod.rd [] (Cod.decT c3.2.1) c3.2.1 c3.2.2 = r3
   have hl_r3 : r3.2.1.length≤c3.2.1.length:=hr_r3 ▸ Cod.rd_len _ _ _ _
   have hs_r3:=Cod.rdT_size hr_r3
   refine HO_strBytes rfl rfl rfl Tryz.underlying9 Tryz.underlying32 Tryz.underlying5 ?_ ?_
   ·(simp only [maxLen];omega)
   intro a20 c20
   refine HO_fieldAddr (r:=4) rfl rfl rfl Tryz.underlying34 rfl Tryz.sizeOf32 rfl ?_
   refine HO_store (i:=3) (j:=0) (us:=[_,_,_,_]) (old:=[_]) (ts:=[]) (cs:=[_]) (R:=[_,_,_,_,_,_,_]) (new:=[_,_,_,_,_]) rfl rfl rfl Tryz.sizeOf32 rfl (by simp [Value.oneCell']) rfl rfl rfl rfl rfl rfl ?_
   refine HO_nil ?_
   refine H_env (ρ':=[(3,_),(2,_)]) ⟨rfl,rfl,trivial⟩ ?_
   refine H_world (kp [yy,yy,yy,yy,nn,yy,yy,yy] [_,_,_,_,_,_,_] rfl) ?_
   refine H_seq ?_
   refine H_region (l:=[_,_]) rfl ?_
   refine HO_loadA (i:=0) (us:=[]) (cs:=[_,_,_,_,_]) (ts:=[]) rfl rfl rfl Tryz.isAgg34 Tryz.sizeOf34 rfl (.loc _ _ _) rfl rfl rfl rfl ?_
   refine HO_store (i:=6) (j:=0) (us:=[]) (old:=[_,_,_,_,_]) (ts:=[]) (cs:=[_,_,_,_,_]) (R:=[_,_,_,_,_,_]) (new:=[_,_,_,_,_]) rfl rfl rfl Tryz.sizeOf34 rfl (by simp [Value.oneCell']) rfl rfl rfl rfl rfl rfl ?_
   refine HO_nil ?_
   refine H_env (ρ':=[(2,_)]) ⟨rfl,trivial⟩ ?_
   refine H_world (kp [yy,nn,yy,yy,yy,yy,yy] [_,_,_,_,_,_] rfl) ?_
   have hsp:=Ent.snapP_of hr_r1 hr_r2 hc3 hr_r3
   refine H_ret1 Tryz.results73 (.cell rfl (fun w hA => run_loadVarA (cs:=[_,_,_,_,_]) (Tryz.isAgg34 w) (Tryz.sizeOf34 w) (Tells.cells (.loc _ _ _) (hA.get (i:=0) rfl)))) (fun w hA => ⟨(y19,y14.2.1,y14.2.2,(a20,c20)),congrArg Ending.returned ?_,?_,?_⟩)
   ·(rw [hsp] <;> rfl)
   ·trivial
   ·(rw [hsp];exact hA.only (is:=[1,2,3,4,1]) (Z:=[_]) rfl)
  ·refine HO_alloc (cs:=[_,_,_,_,_]) rfl rfl Tryz.zeroValue34 rfl ?_
   intro g3
   refine HA_back rfl (kp [nn,nn,nn,yy,yy] [_,_] rfl) ?_
   refine HA_loud1 (i:=7) (by kernel_rfl) rfl ?_
   generalize hr_r1 : Cod.rd 0 (Cod.dec b) b w = r1
   have hl_r1 : r1.2.1.length≤b.length:=hr_r1 ▸ Cod.rd_len _ _ _ _
   refine HO_dup (i:=2) rfl rfl ?_
   refine HO_call (first:=[]) (capt:=[]) (is:=[1,0]) (R:=[_,_,_,_]) rfl rfl rfl rfl rfl Tryz.call69 rfl (cInt_spec _ _ _ _ _ _) ?_
   intro y11 hy11
   refine HA_back rfl (kp [nn,nn,nn,nn,yy,yy] [_,_] rfl) ?_
   generalize hr_r2 : Cod.rd 0 (Cod.dec r1.2.1) r1.2.1 r1.2.2 = r2
   have hl_r2 : r2.2.1.length≤r1.2.1.length:=hr_r2 ▸ Cod.rd_len _ _ _ _
   refine HA_take (i:=8) bp rfl rfl rfl rfl (by kernel_rfl) rfl (V_build (xo:=[(0,_),(1,_)]) (vs:=[_,_]) rfl rfl (bd34_0_1_ii)) (kp [nn,nn,nn,nn,yy,yy] [_,_] rfl) ?_
   refine HA_loud1 (i:=10) (by kernel_rfl) rfl ?_
   refine HO_store (i:=2) (j:=0) (us:=[]) (old:=[_,_,_,_,_]) (ts:=[]) (cs:=[_,_,_,_,_]) (R:=[_,_,_,_,_]) (new:=[_,_,_,_,_]) rfl rfl rfl Tryz.sizeOf34 rfl (by simp [Value.oneCell']) rfl rfl rfl rfl rfl rfl ?_
   refine HA_back rfl (kp [nn,nn,nn,nn,yy,yy] [_,_] rfl) ?_
   refine HA_done (by kernel_rfl) ?_
   refine H_env (ρ':=[(3,_),(2,_),(0,_)]) ⟨rfl,rfl,rfl,trivial⟩ ?_
   refine H_world (kp [yy,yy,yy,nn,yy,nn] [_,_,_,_] rfl) ?_
   refine H_seq ?_
   refine H_region (l:=[_,_,_,_]) rfl ?_
   refine HO_move rfl rfl rfl ?_
   refine HO_dup (i:=2) rfl rfl ?_
   refine HO_call (first:=[]) (capt:=[]) (is:=[1,0]) (R:=[_,_,_]) rfl rfl rfl rfl rfl Tryz.call105 rfl (cconf_spec _ _ _ _ _ _ ?_) ?_
   ·(first | omega | assumption | decide)
   intro y14 hy14
   have hcl3:=Ent.confP_len (r2.2.1,r2.2.2)
   obtain ⟨c3,hc3⟩ : ∃ e,Ent.confP (r2.2.1,r2.2.2) = e:=⟨_,rfl⟩
   rw [hc3] at hcl3 ⊢
   dsimp only at hcl3
   refine HO_fieldAddr (r:=2) rfl rfl rfl Tryz.underlying34 rfl Tryz.sizeOf31 rfl ?_
   refine HO_store (i:=4) (j:=0) (us:=[_,_]) (old:=[_,_]) (ts:=[_]) (cs:=[_,_]) (R:=[_,_,_,_,_,_]) (new:=[_,_,_,_,_]) rfl rfl rfl Tryz.sizeOf31 rfl (by simp [Value.oneCell']) rfl rfl rfl rfl rfl rfl ?_
   refine HO_nil ?_
   refine H_env (ρ':=[(3,_),(2,_),(0,_)]) ⟨rfl,rfl,rfl,trivial⟩ ?_
   refine H_world (kp [yy,yy,yy,yy,yy,nn,yy] [_,_,_,_,_,_] rfl) ?_
   refine H_seq ?_
   refine H_region (l:=[_,_,_,_,_,_,_]) rfl ?_
   refine HO_move rfl rfl rfl ?_
   refine HO_nilCheck rfl rfl rfl ?_
   refine HO_fieldAddr (r:=0) rfl rfl rfl Tryz.underlying110 rfl Tryz.sizeOf108 rfl ?_
   refine HO_dup (i:=2) rfl rfl ?_
   refine HO_call (first:=[]) (capt:=[]) (is:=[1,0]) (R:=[_,_,_,_,_]) rfl rfl rfl rfl rfl Tryz.call103 rfl (cText_spec _ _ _ _ _ _ ?_) ?_
   ·(first | omega | assumption | decide)
   intro y19 hy19
   generalize hr_r3 : Cod.rd [] (Cod.decT c3.2.1) c3.2.1 c3.2.2 = r3
   have hl_r3 : r3.2.1.length≤c3.2.1.length:=hr_r3 ▸ Cod.rd_len _ _ _ _
   have hs_r3:=Cod.rdT_size hr_r3
   refine HO_strBytes rfl rfl rfl Tryz.underlying9 Tryz.underlying32 Tryz.underlying5 ?_ ?_
   ·(simp only [maxLen];omega)
   intro a20 c20
   refine HO_fieldAddr (r:=4) rfl rfl rfl Tryz.underlying34 rfl Tryz.sizeOf32 rfl ?_
   refine HO_store (i:=3) (j:=0) (us:=[_,_,_,_]) (old:=[_]) (ts:=[]) (cs:=[_]) (R:=[_,_,_,_,_,_,_]) (new:=[_,_,_,_,_]) rfl rfl rfl Tryz.sizeOf32 rfl (by simp [Value.oneCell']) rfl rfl rfl rfl rfl rfl ?_
   refine HO_nil ?_
   refine H_env (ρ':=[(3,_),(2,_)]) ⟨rfl,rfl,trivial⟩ ?_
   refine H_world (kp [yy,yy,yy,yy,nn,yy,yy,yy] [_,_,_,_,_,_,_] rfl) ?_
   refine H_seq ?_
   refine H_region (l:=[_,_]) rfl ?_
   refine HO_loadA (i:=0) (us:=[]) (cs:=[_,_,_,_,_]) (ts:=[]) rfl rfl rfl Tryz.isAgg34 Tryz.sizeOf34 rfl (.loc _ _ _) rfl rfl rfl rfl ?_
   refine HO_store (i:=6) (j:=0) (us:=[]) (old:=[_,_,_,_,_]) (ts:=[]) (cs:=[_,_,_,_,_]) (R:=[_,_,_,_,_,_]) (new:=[_,_,_,_,_]) rfl rfl rfl Tryz.sizeOf34 rfl (by simp [Value.oneCell']) rfl rfl rfl rfl rfl rfl ?_
   refine HO_nil ?_
   refine H_env (ρ':=[(2,_)]) ⟨rfl,trivial⟩ ?_
   refine H_world (kp [yy,nn,yy,yy,yy,yy,yy] [_,_,_,_,_,_] rfl) ?_
   have hsp:=Ent.snapP_of hr_r1 hr_r2 hc3 hr_r3
   refine H_ret1 Tryz.results73 (.cell rfl (fun w hA => run_loadVarA (cs:=[_,_,_,_,_]) (Tryz.isAgg34 w) (Tryz.sizeOf34 w) (Tells.cells (.loc _ _ _) (hA.get (i:=0) rfl)))) (fun w hA => ⟨(y19,y14.2.1,y14.2.2,(a20,c20)),congrArg Ending.returned ?_,?_,?_⟩)
   ·(rw [hsp] <;> rfl)
   ·trivial
   ·(rw [hsp];exact hA.only (is:=[1,2,3,4,1]) (Z:=[_]) rfl)
 ·refine HO_alloc (cs:=[_,_,_,_,_]) rfl rfl Tryz.zeroValue34 rfl ?_
  intro g3
  refine HA_back rfl (kp [nn,yy,nn,yy] [_,_] rfl) ?_
  refine HA_loud1 (i:=3) (by kernel_rfl) rfl ?_
  refine HO_dup (i:=3) rfl rfl ?_
  refine HO_call (first:=[]) (capt:=[]) (is:=[2,0]) (R:=[_,_,_]) rfl rfl rfl rfl rfl Tryz.call69 rfl (cInt_spec _ _ _ _ _ _) ?_
  intro y7 hy7
  refine HA_back rfl (kp [nn,nn,nn,yy,yy] [_,_] rfl) ?_
  refine HA_loud1 (i:=7) (by kernel_rfl) rfl ?_
  generalize hr_r1 : Cod.rd 0 (Cod.dec b) b w = r1
  have hl_r1 : r1.2.1.length≤b.length:=hr_r1 ▸ Cod.rd_len _ _ _ _
  refine HO_dup (i:=1) rfl rfl ?_
  refine HO_call (first:=[]) (capt:=[]) (is:=[0,0]) (R:=[_,_,_,_]) rfl rfl rfl rfl rfl Tryz.call69 rfl (cInt_spec _ _ _ _ _ _) ?_
  intro y11 hy11
  refine HA_back rfl (kp [nn,nn,nn,nn,yy,yy] [_,_] rfl) ?_
  generalize hr_r2 : Cod.rd 0 (Cod.dec r1.2.1) r1.2.1 r1.2.2 = r2
  have hl_r2 : r2.2.1.length≤r1.2.1.length:=hr_r2 ▸ Cod.rd_len _ _ _ _
  refine HA_take (i:=8) bp rfl rfl rfl rfl (by kernel_rfl) rfl (V_build (xo:=[(0,_),(1,_)]) (vs:=[_,_]) rfl rfl (bd34_0_1_ii)) (kp [nn,nn,nn,nn,yy,yy] [_,_] rfl) ?_
  refine HA_loud1 (i:=10) (by kernel_rfl) rfl ?_
  refine HO_store (i:=3) (j:=0) (us:=[]) (old:=[_,_,_,_,_]) (ts:=[]) (cs:=[_,_,_,_,_]) (R:=[_,_,_,_,_]) (new:=[_,_,_,_,_]) rfl rfl rfl Tryz.sizeOf34 rfl (by simp [Value.oneCell']) rfl rfl rfl rfl rfl rfl ?_
  refine HA_back rfl (kp [nn,nn,nn,nn,yy,yy] [_,_] rfl) ?_
  refine HA_done (by kernel_rfl) ?_
  refine H_env (ρ':=[(3,_),(2,_),(0,_)]) ⟨rfl,rfl,rfl,trivial⟩ ?_
  refine H_world (kp [yy,yy,yy,nn,yy,nn] [_,_,_,_] rfl) ?_
  refine H_seq ?_
  refine H_region (l:=[_,_,_,_]) rfl ?_
  refine HO_move rfl rfl rfl ?_
  refine HO_dup (i:=2) rfl rfl ?_
  refine HO_call (first:=[]) (capt:=[]) (is:=[1,0]) (R:=[_,_,_]) rfl rfl rfl rfl rfl Tryz.call105 rfl (cconf_spec _ _ _ _ _ _ ?_) ?_
  ·(first | omega | assumption | decide)
  intro y14 hy14
  have hcl3:=Ent.confP_len (r2.2.1,r2.2.2)
  obtain ⟨c3,hc3⟩ : ∃ e,Ent.confP (r2.2.1,r2.2.2) = e:=⟨_,rfl⟩
  rw [hc3] at hcl3 ⊢
  dsimp only at hcl3
  refine HO_fieldAddr (r:=2) rfl rfl rfl Tryz.underlying34 rfl Tryz.sizeOf31 rfl ?_
  refine HO_store (i:=4) (j:=0) (us:=[_,_]) (old:=[_,_]) (ts:=[_]) (cs:=[_,_]) (R:=[_,_,_,_,_,_]) (new:=[_,_,_,_,_]) rfl rfl rfl Tryz.sizeOf31 rfl (by simp [Value.oneCell']) rfl rfl rfl rfl rfl rfl ?_
  refine HO_nil ?_
  refine H_env (ρ':=[(3,_),(2,_),(0,_)]) ⟨rfl,rfl,rfl,trivial⟩ ?_
  refine H_world (kp [yy,yy,yy,yy,yy,nn,yy] [_,_,_,_,_,_] rfl) ?_
  refine H_seq ?_
  refine H_region (l:=[_,_,_,_,_,_,_]) rfl ?_
  refine HO_move rfl rfl rfl ?_
  refine HO_nilCheck rfl rfl rfl ?_
  refine HO_fieldAddr (r:=0) rfl rfl rfl Tryz.underlying110 rfl Tryz.sizeOf108 rfl ?_
  refine HO_dup (i:=2) rfl rfl ?_
  refine HO_call (first:=[]) (capt:=[]) (is:=[1,0]) (R:=[_,_,_,_,_]) rfl rfl rfl rfl rfl Tryz.call103 rfl (cText_spec _ _ _ _ _ _ ?_) ?_
  ·(first | omega | assumption | decide)
  intro y19 hy19
  generalize hr_r3 : Cod.rd [] (Cod.decT c3.2.1) c3.2.1 c3.2.2 = r3
  have hl_r3 : r3.2.1.length≤c3.2.1.length:=hr_r3 ▸ Cod.rd_len _ _ _ _
  have hs_r3:=Cod.rdT_size hr_r3
  refine HO_strBytes rfl rfl rfl Tryz.underlying9 Tryz.underlying32 Tryz.underlying5 ?_ ?_
  ·(simp only [maxLen];omega)
  intro a20 c20
  refine HO_fieldAddr (r:=4) rfl rfl rfl Tryz.underlying34 rfl Tryz.sizeOf32 rfl ?_
  refine HO_store (i:=3) (j:=0) (us:=[_,_,_,_]) (old:=[_]) (ts:=[]) (cs:=[_]) (R:=[_,_,_,_,_,_,_]) (new:=[_,_,_,_,_]) rfl rfl rfl Tryz.sizeOf32 rfl (by simp [Value.oneCell']) rfl rfl rfl rfl rfl rfl ?_
  refine HO_nil ?_
  refine H_env (ρ':=[(3,_),(2,_)]) ⟨rfl,rfl,trivial⟩ ?_
  refine H_world (kp [yy,yy,yy,yy,nn,yy,yy,yy] [_,_,_,_,_,_,_] rfl) ?_
  refine H_seq ?_
  refine H_region (l:=[_,_]) rfl ?_
  refine HO_loadA (i:=0) (us:=[]) (cs:=[_,_,_,_,_]) (ts:=[]) rfl rfl rfl Tryz.isAgg34 Tryz.sizeOf34 rfl (.loc _ _ _) rfl rfl rfl rfl ?_
  refine HO_store (i:=6) (j:=0) (us:=[]) (old:=[_,_,_,_,_]) (ts:=[]) (cs:=[_,_,_,_,_]) (R:=[_,_,_,_,_,_]) (new:=[_,_,_,_,_]) rfl rfl rfl Tryz.sizeOf34 rfl (by simp [Value.oneCell']) rfl rfl rfl rfl rfl rfl ?_
  refine HO_nil ?_
  refine H_env (ρ':=[(2,_)]) ⟨rfl,trivial⟩ ?_
  refine H_world (kp [yy,nn,yy,yy,yy,yy,yy] [_,_,_,_,_,_] rfl) ?_
  have hsp:=Ent.snapP_of hr_r1 hr_r2 hc3 hr_r3
  refine H_ret1 Tryz.results73 (.cell rfl (fun w hA => run_loadVarA (cs:=[_,_,_,_,_]) (Tryz.isAgg34 w) (Tryz.sizeOf34 w) (Tells.cells (.loc _ _ _) (hA.get (i:=0) rfl)))) (fun w hA => ⟨(y19,y14.2.1,y14.2.2,(a20,c20)),congrArg Ending.returned ?_,?_,?_⟩)
  ·(rw [hsp] <;> rfl)
  ·trivial
  ·(rw [hsp];exact hA.only (is:=[1,2,3,4,1]) (Z:=[_]) rfl)
end Go.Wk
