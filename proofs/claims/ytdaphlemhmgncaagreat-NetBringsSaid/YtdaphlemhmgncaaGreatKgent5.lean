/- Contracts of the program's functions, each proved by walking its code. -/
import Derived.Test.YtdaphlemhmgncaaGreatKgent4
import Derived.Test.YtdaphlemhmgncaaGreatEnt3
set_option maxRecDepth 100000
set_option linter.unusedVariables false
set_option linter.unusedSimpArgs false
namespace Go.Wk.Fent5
open Go Go.RowKit Go.Proofs Go.Wk
theorem elt70 : Elt Tryz.prog 70 (.agg #[.int .i64 (0),.int .i64 (0),.int .i64 (0),.int .i64 (0),.int .i64 (0),.int .i64 (0),.string (⟨#[]⟩),.string (⟨#[]⟩),.string (⟨#[]⟩),.string (⟨#[]⟩),.int .i64 (0),.slice none 0 0,.slice none 0 0]) 13 168:=Elt.of (by kernel_rfl) (by rfl) (by decide) (by decide)
theorem bd106_0_1_2_3_4_5_6_7_pppppppp {x1 : Option Addr} {x2 : Option Addr} {x3 : Option Addr} {x4 : Option Addr} {x5 : Option Addr} {x6 : Option Addr} {x7 : Option Addr} {x8 : Option Addr} : ∀ w,(Instr.build 106 (List.toArray (List.zip [0,1,2,3,4,5,6,7] [.pointer x1,.pointer x2,.pointer x3,.pointer x4,.pointer x5,.pointer x6,.pointer x7,.pointer x8]))).run Tryz.prog w = .ok (.agg #[.pointer x1,.pointer x2,.pointer x3,.pointer x4,.pointer x5,.pointer x6,.pointer x7,.pointer x8]) w:=fun _ => by kernel_rfl
end Go.Wk.Fent5
namespace Go.Wk
open Go Go.RowKit Go.Proofs Fent5 
theorem itemsent_spec (T : TypeId) (g : Nat) (b : List UInt8) (w : Bool) (a : Option Addr) (c : Nat) (k : Int) (hb : b.length≤100000) (hk : 0≤k∧k≤1000) : Spec Tryz.prog 71 #[.pointer (some ⟨g,0,none⟩),.int .i64 (k),.func (.func 72) #[.pointer (some ⟨g,0,none⟩)] #[]] [.loc g [.slice a (b.length) c,.bool (w)] T,.dat kByte.sl (b) [.slice a (b.length) c]] (β:=(Option Addr × Nat) × (Option Addr × Nat)) (fun y => .slice y.2.1 (((Ent.entsL k (b,w)).1).length) y.2.2) (fun y => True) (fun y => [.loc g [.slice y.1.1 (((Ent.entsL k (b,w)).2.1).length) y.1.2,.bool ((Ent.entsL k (b,w)).2.2)] T,.dat kByte.sl ((Ent.entsL k (b,w)).2.1) [.slice y.1.1 (((Ent.entsL k (b,w)).2.1).length) y.1.2],.dat kEnt.sl ((Ent.entsL k (b,w)).1) [.slice y.2.1 (((Ent.entsL k (b,w)).1).length) y.2.2]]):=by
 refine Spec.enter (vs:=[_,_,_]) Tryz.func71 rfl Tryz.ntmps71 rfl (Nat.le_of_ble_eq_true rfl) (fun w0 ok0 => ?_)
 generalize hM0 : blks _ = M0
 refine H_seq ?_
 refine H_region (l:=[_]) rfl ?_
 refine HO_assign rfl rfl rfl ?_
 refine HO_nil ?_
 refine H_env (ρ':=[(0,_),(1,_),(2,_)]) ⟨rfl,rfl,rfl,trivial⟩ ?_
 refine H_seq ?_
 refine H_region (l:=[_]) rfl ?_
 refine HO_assign rfl rfl rfl ?_
 refine HO_nil ?_
 refine H_seq ?_
 refine H_seq ?_
 refine H_region (l:=[_,_,_,_,_,_]) rfl ?_
 refine HO_move rfl rfl rfl ?_
 refine HO_nilCheck rfl rfl rfl ?_
 refine HO_fieldAddr (r:=0) rfl rfl rfl Tryz.underlying110 rfl Tryz.sizeOf108 rfl ?_
 refine HO_move rfl rfl rfl ?_
 refine HO_dup (i:=1) rfl rfl ?_
 refine HO_call (first:=[]) (capt:=[]) (is:=[0,0]) (R:=[_]) rfl rfl rfl rfl rfl Tryz.call101 rfl (cCount_spec _ _ _ _ _ _ _ ?_) ?_
 ·omega
 intro y13 hy13
 generalize hr_r1 : Cod.cnt k b w = r1
 have hl_r1 : r1.2.1.length≤b.length:=hr_r1 ▸ Cod.cnt_len _ _ _
 refine HO_assign rfl rfl rfl ?_
 refine HO_nil ?_
 refine H_env (ρ':=[(8,_),(7,_),(0,_),(2,_)]) ⟨rfl,rfl,rfl,rfl,trivial⟩ ?_
 refine H_world (kp [yy,yy,nn] [_,_] rfl) ?_
 refine H_block ?_
 refine H_own0 kEnt 70 none ?_
 refine H_loop (σ:=Nat × List UInt8 × Bool × List Ent × Option Addr × Nat × Option Addr × Nat) (fun s => Ent.entsP r1.1 r1.2 = (s.2.2.2.1 ++ (Ent.entsP s.1 (s.2.1,s.2.2.1)).1,(Ent.entsP s.1 (s.2.1,s.2.2.1)).2)∧s.2.1.length≤100000∧s.2.2.2.1.length + s.1≤1000) (fun s => [(0,.pointer (some ⟨g,0,none⟩)),(2,.func (.func 72) #[.pointer (some ⟨g,0,none⟩)] #[]),(7,.slice s.2.2.2.2.2.2.1 (s.2.2.2.1.length) s.2.2.2.2.2.2.2),(8,.int .i64 ((s.1 : Int)))]) (fun s => Asn w0 ok0 M0 [.loc g [.slice s.2.2.2.2.1 (s.2.1.length) s.2.2.2.2.2.1,.bool (s.2.2.1)] T,.dat kByte.sl (s.2.1) [.slice s.2.2.2.2.1 (s.2.1.length) s.2.2.2.2.2.1],.own 70 kEnt s.2.2.2.2.2.2.1 s.2.2.2.2.2.2.2 (s.2.2.2.1)]) (fun s => s.1) ⟨r1.1,r1.2.1,r1.2.2,[],y13.1,y13.2,none,0⟩ ?_ ?_ ?_ ?_
 ·exact ⟨by simp,by dsimp only;omega,by dsimp only [List.length_nil];have:=Cod.cnt_le hk.1 b w;rw [hr_r1] at this;omega⟩
 ·exact ⟨rfl,rfl,rfl,rfl,trivial⟩
 ·intro w hA
  exact hA.only (is:=[0,1,0]) (Z:=[]) rfl
 ·rintro ⟨m,bs,wr,l,p,q,p2,q2⟩ hI
  (try dsimp only at hI ⊢)
  have hbs:=hI.2.1
  refine H_seq ?_
  refine H_seq ?_
  refine H_region (l:=[_,_,_,_,_,_,_,_,_,_]) rfl ?_
  refine HO_move rfl rfl rfl ?_
  refine HO_bin rfl rfl rfl rfl bin_gtr ?_
  refine HO_move rfl rfl rfl ?_
  refine HO_split (d:=16) rfl ?_ ?_
  ·intro h16
   replace h16:=dT h16
   refine HO_move rfl rfl rfl ?_
   refine HO_nilCheck rfl rfl rfl ?_
   refine HO_fieldAddr (r:=0) rfl rfl rfl Tryz.underlying110 rfl Tryz.sizeOf108 rfl ?_
   refine HO_fieldAddr (r:=1) rfl rfl rfl Tryz.underlying108 rfl Tryz.sizeOf4 rfl ?_
   refine HO_load1 (i:=0) (j:=1) rfl rfl rfl Tryz.isAgg4 rfl (.loc _ _ _) rfl rfl ?_
   refine HO_not rfl rfl rfl ?_
   refine HO_pick_t rfl rfl rfl rfl ?_
   refine HO_nil ?_
   refine H_env (ρ':=[(23,_),(0,_),(2,_),(7,_),(8,_)]) ⟨rfl,rfl,rfl,rfl,rfl,trivial⟩ ?_
   refine H_cond rfl ?_ ?_
   ·intro h23
    replace h23:=nT h23
    refine H_skip ?_
    refine H_seq ?_
    refine H_block ?_
    have hwr : wr = false:=by simpa using h23
    obtain ⟨m,rfl⟩ : ∃ q,m = q + 1:=⟨m - 1,by omega⟩
    refine H_region (l:=[_,_,_,_,_,_]) rfl ?_
    iterate 2 refine HO_move rfl rfl rfl ?_
    refine HO_dup (i:=1) rfl rfl ?_
    refine HO_call (first:=[_]) (capt:=[]) (is:=[0,0]) (R:=[_,_]) rfl rfl rfl rfl rfl Tryz.call72 rfl (creadent_spec _ _ _ _ _ _ ?_) ?_
    ·omega
    intro y28 hy28
    have hel:=Ent.entP_len (bs,wr)
    have heI:=Ent.entP_I (bs,wr) (by dsimp only;omega)
    obtain ⟨e,he⟩ : ∃ x,Ent.entP (bs,wr) = x:=⟨_,rfl⟩
    rw [he] at hel heI ⊢
    dsimp only at hel
    refine HO_buildSlice (kd:=kEnt) (xo:=[_]) (vs:=[_]) (cs:=[_,_,_,_,_,_,_,_,_,_,_,_,_]) (xs:=[e.1]) rfl rfl rfl rfl Tryz.underlying28 elt70 rfl rfl rfl (by decide) (by decide) (by simp [Value.cells]) rfl (fun ok w hA => ⟨_,_,rfl,⟨heI,⟨⟨_,_⟩,⟨_,_⟩⟩,rfl,(List.forall_mem_cons.2 ⟨hA _ (List.mem_of_getElem? (i:=2) rfl),(List.forall_mem_cons.2 ⟨hA _ (List.mem_of_getElem? (i:=3) rfl),(by simp)⟩)⟩)⟩,rfl⟩) ?_
    intro g29
    refine HO_append (i:=6) (R:=[_,_,_,_,_,_]) rfl rfl rfl rfl rfl Tryz.underlying28 elt70 rfl rfl (SrcOk.own (j:=0) Tryz.underlying28 rfl rfl) ?_ ?_
    ·(simp only [List.length_append,List.length_cons,List.length_nil];omega)
    intro a30 c30
    refine HO_assign rfl rfl rfl ?_
    refine HO_nil ?_
    refine H_env (ρ':=[(7,_),(0,_),(2,_),(8,_)]) ⟨rfl,rfl,rfl,rfl,trivial⟩ ?_
    refine H_world (kp [yy,nn,yy,yy,nn,nn,nn] [_,_,_] rfl) ?_
    refine H_blk ?_
    refine H_region (l:=[_,_,_]) rfl ?_
    refine HO_move rfl rfl rfl ?_
    refine HO_bin rfl rfl rfl rfl (bin_sub ?_ ?_) ?_
    ·omega
    ·omega
    refine HO_assign rfl rfl rfl ?_
    refine HO_nil ?_
    refine H_env (ρ':=[(8,_),(7,_),(0,_),(2,_)]) ⟨rfl,rfl,rfl,rfl,trivial⟩ ?_
    refine H_inv (fun a w hf hA => ⟨⟨m,e.2.1,e.2.2,l ++ [e.1],y28.1.1,y28.1.2,a30,c30⟩,?_,?_,hf.sub ?_,?_⟩)
    ·exact ⟨Ent.ents_more hI.1 hwr he,by dsimp only;omega,by dsimp only;simp only [List.length_append,List.length_cons,List.length_nil];omega⟩
    ·(try dsimp only);omega
    ·exact ⟨rfl,rfl,rfl,congrArg (fun z => some (Value.int .i64 z)) (by dsimp only;omega),trivial⟩
    ·exact hA.only (is:=[0,1,0]) (Z:=[]) rfl
   intro h23
   replace h23:=nF h23
   refine H_exit rfl ?_
   refine H_seq ?_
   have hps : Ent.entsP r1.1 r1.2 = (l,(bs,wr)):=by first | exact Ent.ents0 hI.1 (by omega) | exact Ent.entsW hI.1 h23
   have hlp : Ent.entsL k (b,w) = (l,(bs,wr)):=Ent.entsL_of hr_r1 hps
   refine H_region (l:=[_,_]) rfl ?_
   refine HO_move rfl rfl rfl ?_
   refine HO_assign rfl rfl rfl ?_
   refine HO_nil ?_
   refine H_env (ρ':=[(6,_)]) ⟨rfl,trivial⟩ ?_
   refine H_freeze (i:=2) (R:=[_,_]) rfl (keepM hM0 ⟨(fun _ h => ⟨_,List.mem_of_getElem? (i:=0) rfl,h⟩),(fun _ h => nomatch h),trivial⟩) ?_
   refine H_ret1 Tryz.results71 (.tmp rfl) (fun w hA => ⟨((p,q),(p2,q2)),congrArg Ending.returned ?_,?_,?_⟩)
   ·(rw [hlp])
   ·trivial
   ·(rw [hlp];exact hA.only (is:=[0,1,0]) (Z:=[]) rfl)
  intro h16
  replace h16:=dF h16
  iterate 6 refine HO_no rfl rfl rfl ?_
  refine HO_pick_f rfl rfl rfl rfl ?_
  refine HO_nil ?_
  refine H_env (ρ':=[(23,_),(0,_),(2,_),(7,_),(8,_)]) ⟨rfl,rfl,rfl,rfl,rfl,trivial⟩ ?_
  refine H_cond rfl (fun h => nomatch h) (fun _ => ?_)
  refine H_exit rfl ?_
  refine H_seq ?_
  have hps : Ent.entsP r1.1 r1.2 = (l,(bs,wr)):=by first | exact Ent.ents0 hI.1 (by omega) | exact Ent.entsW hI.1 h23
  have hlp : Ent.entsL k (b,w) = (l,(bs,wr)):=Ent.entsL_of hr_r1 hps
  refine H_region (l:=[_,_]) rfl ?_
  refine HO_move rfl rfl rfl ?_
  refine HO_assign rfl rfl rfl ?_
  refine HO_nil ?_
  refine H_env (ρ':=[(6,_)]) ⟨rfl,trivial⟩ ?_
  refine H_freeze (i:=2) (R:=[_,_]) rfl (keepM hM0 ⟨(fun _ h => ⟨_,List.mem_of_getElem? (i:=0) rfl,h⟩),(fun _ h => nomatch h),trivial⟩) ?_
  refine H_ret1 Tryz.results71 (.tmp rfl) (fun w hA => ⟨((p,q),(p2,q2)),congrArg Ending.returned ?_,?_,?_⟩)
  ·(rw [hlp])
  ·trivial
  ·(rw [hlp];exact hA.only (is:=[0,1,0]) (Z:=[]) rfl)
theorem toldmsg_spec (T : TypeId) (g : Nat) (b : List UInt8) (w may : Bool) (a : Option Addr) (c : Nat) (mk mf mt me mi ml mc mr : Int) (rj : Bool) (hi : Int) (es : List Ent) (a9 : Option Addr) (c9 : Nat) (ix te : Int) (vo le : List Int) (a1 : Option Addr) (c1 : Nat) (a2 : Option Addr) (c2 : Nat) (da : List UInt8) (a3 : Option Addr) (c3 : Nat)  : Spec Tryz.prog 74 #[.pointer (some ⟨g,0,none⟩),.agg #[.int .i64 (mk),.int .i64 (mf),.int .i64 (mt),.int .i64 (me),.int .i64 (mi),.int .i64 (ml),.int .i64 (mc),.int .i64 (mr),.bool (rj),.int .i64 (hi),.slice a9 (es.length) c9,.int .i64 (ix),.int .i64 (te),.slice a1 (vo.length) c1,.slice a2 (le.length) c2,.slice a3 (da.length) c3],.bool (may)] [.loc g [.slice a (b.length) c,.bool (w)] T,.dat kByte.sl (b) [.slice a (b.length) c],.dat kEnt.sl (es) [.slice a9 (es.length) c9],.dat kInt.sl (vo) [.slice a1 (vo.length) c1],.dat kInt.sl (le) [.slice a2 (le.length) c2],.dat kByte.sl (da) [.slice a3 (da.length) c3]] (β:=(Option Addr × Nat) × (Option Addr × Nat) × (Option Addr × Nat) × (Option Addr × Nat)) (fun y => .tuple #[.agg #[.int .i64 ((Ent.toldM (Cod.rend b w && may) ⟨mk,mf,mt,me,mi,ml,mc,mr,rj,hi,es,⟨ix,te,⟨vo,le⟩,da⟩⟩).1.kind),.int .i64 ((Ent.toldM (Cod.rend b w && may) ⟨mk,mf,mt,me,mi,ml,mc,mr,rj,hi,es,⟨ix,te,⟨vo,le⟩,da⟩⟩).1.frm),.int .i64 ((Ent.toldM (Cod.rend b w && may) ⟨mk,mf,mt,me,mi,ml,mc,mr,rj,hi,es,⟨ix,te,⟨vo,le⟩,da⟩⟩).1.to),.int .i64 ((Ent.toldM (Cod.rend b w && may) ⟨mk,mf,mt,me,mi,ml,mc,mr,rj,hi,es,⟨ix,te,⟨vo,le⟩,da⟩⟩).1.term),.int .i64 ((Ent.toldM (Cod.rend b w && may) ⟨mk,mf,mt,me,mi,ml,mc,mr,rj,hi,es,⟨ix,te,⟨vo,le⟩,da⟩⟩).1.idx),.int .i64 ((Ent.toldM (Cod.rend b w && may) ⟨mk,mf,mt,me,mi,ml,mc,mr,rj,hi,es,⟨ix,te,⟨vo,le⟩,da⟩⟩).1.lterm),.int .i64 ((Ent.toldM (Cod.rend b w && may) ⟨mk,mf,mt,me,mi,ml,mc,mr,rj,hi,es,⟨ix,te,⟨vo,le⟩,da⟩⟩).1.commit),.int .i64 ((Ent.toldM (Cod.rend b w && may) ⟨mk,mf,mt,me,mi,ml,mc,mr,rj,hi,es,⟨ix,te,⟨vo,le⟩,da⟩⟩).1.round),.bool ((Ent.toldM (Cod.rend b w && may) ⟨mk,mf,mt,me,mi,ml,mc,mr,rj,hi,es,⟨ix,te,⟨vo,le⟩,da⟩⟩).1.rej),.int .i64 ((Ent.toldM (Cod.rend b w && may) ⟨mk,mf,mt,me,mi,ml,mc,mr,rj,hi,es,⟨ix,te,⟨vo,le⟩,da⟩⟩).1.hint),.slice y.1.1 (((Ent.toldM (Cod.rend b w && may) ⟨mk,mf,mt,me,mi,ml,mc,mr,rj,hi,es,⟨ix,te,⟨vo,le⟩,da⟩⟩).1.ents).length) y.1.2,.int .i64 ((Ent.toldM (Cod.rend b w && may) ⟨mk,mf,mt,me,mi,ml,mc,mr,rj,hi,es,⟨ix,te,⟨vo,le⟩,da⟩⟩).1.snap.idx),.int .i64 ((Ent.toldM (Cod.rend b w && may) ⟨mk,mf,mt,me,mi,ml,mc,mr,rj,hi,es,⟨ix,te,⟨vo,le⟩,da⟩⟩).1.snap.term),.slice y.2.1.1 (((Ent.toldM (Cod.rend b w && may) ⟨mk,mf,mt,me,mi,ml,mc,mr,rj,hi,es,⟨ix,te,⟨vo,le⟩,da⟩⟩).1.snap.conf.vot).length) y.2.1.2,.slice y.2.2.1.1 (((Ent.toldM (Cod.rend b w && may) ⟨mk,mf,mt,me,mi,ml,mc,mr,rj,hi,es,⟨ix,te,⟨vo,le⟩,da⟩⟩).1.snap.conf.lea).length) y.2.2.1.2,.slice y.2.2.2.1 (((Ent.toldM (Cod.rend b w && may) ⟨mk,mf,mt,me,mi,ml,mc,mr,rj,hi,es,⟨ix,te,⟨vo,le⟩,da⟩⟩).1.snap.data).length) y.2.2.2.2],.int .i64 ((Ent.toldM (Cod.rend b w && may) ⟨mk,mf,mt,me,mi,ml,mc,mr,rj,hi,es,⟨ix,te,⟨vo,le⟩,da⟩⟩).2)]) (fun y => True) (fun y => [.loc g [.slice a (b.length) c,.bool (w)] T,.dat kEnt.sl ((Ent.toldM (Cod.rend b w && may) ⟨mk,mf,mt,me,mi,ml,mc,mr,rj,hi,es,⟨ix,te,⟨vo,le⟩,da⟩⟩).1.ents) [.slice y.1.1 (((Ent.toldM (Cod.rend b w && may) ⟨mk,mf,mt,me,mi,ml,mc,mr,rj,hi,es,⟨ix,te,⟨vo,le⟩,da⟩⟩).1.ents).length) y.1.2],.dat kInt.sl ((Ent.toldM (Cod.rend b w && may) ⟨mk,mf,mt,me,mi,ml,mc,mr,rj,hi,es,⟨ix,te,⟨vo,le⟩,da⟩⟩).1.snap.conf.vot) [.slice y.2.1.1 (((Ent.toldM (Cod.rend b w && may) ⟨mk,mf,mt,me,mi,ml,mc,mr,rj,hi,es,⟨ix,te,⟨vo,le⟩,da⟩⟩).1.snap.conf.vot).length) y.2.1.2],.dat kInt.sl ((Ent.toldM (Cod.rend b w && may) ⟨mk,mf,mt,me,mi,ml,mc,mr,rj,hi,es,⟨ix,te,⟨vo,le⟩,da⟩⟩).1.snap.conf.lea) [.slice y.2.2.1.1 (((Ent.toldM (Cod.rend b w && may) ⟨mk,mf,mt,me,mi,ml,mc,mr,rj,hi,es,⟨ix,te,⟨vo,le⟩,da⟩⟩).1.snap.conf.lea).length) y.2.2.1.2],.dat kByte.sl ((Ent.toldM (Cod.rend b w && may) ⟨mk,mf,mt,me,mi,ml,mc,mr,rj,hi,es,⟨ix,te,⟨vo,le⟩,da⟩⟩).1.snap.data) [.slice y.2.2.2.1 (((Ent.toldM (Cod.rend b w && may) ⟨mk,mf,mt,me,mi,ml,mc,mr,rj,hi,es,⟨ix,te,⟨vo,le⟩,da⟩⟩).1.snap.data).length) y.2.2.2.2]]):=by
 refine Spec.enter (vs:=[_,_,_]) Tryz.func74 rfl Tryz.ntmps74 rfl (Nat.le_of_ble_eq_true rfl) (fun w0 ok0 => ?_)
 generalize hM0 : blks _ = M0
 refine H_len_le (i:=2) rfl ?_
 intro hlen2
 refine H_len_le (i:=3) rfl ?_
 intro hlen3
 refine H_len_le (i:=4) rfl ?_
 intro hlen4
 refine H_seq ?_
 refine H_region (l:=[_,_,_]) rfl ?_
 refine HO_box (cs:=[_,_,_,_,_,_,_,_,_,_,_,_,_,_,_,_]) rfl rfl rfl rfl ?_
 intro g4
 refine HO_alloc (cs:=[_,_,_,_,_,_,_,_,_,_,_,_,_,_,_,_]) rfl rfl Tryz.zeroValue36 rfl ?_
 intro g6
 refine HO_assign rfl rfl rfl ?_
 refine HO_nil ?_
 refine H_env (ρ':=[(6,_),(4,_),(0,_),(2,_)]) ⟨rfl,rfl,rfl,rfl,trivial⟩ ?_
 refine H_seq ?_
 refine H_seq ?_
 refine H_region (l:=[_,_,_,_,_,_,_,_,_]) rfl ?_
 refine HO_move rfl rfl rfl ?_
 refine HO_nilCheck rfl rfl rfl ?_
 refine HO_fieldAddr (r:=0) rfl rfl rfl Tryz.underlying110 rfl Tryz.sizeOf108 rfl ?_
 refine HO_dup (i:=3) rfl rfl ?_
 refine HO_call (first:=[]) (capt:=[]) (is:=[2,0]) (R:=[_,_,_,_,_,_,_]) rfl rfl rfl rfl rfl Tryz.call106 rfl (cEnd_spec _ _ _ _ _ _) ?_
 intro y12 hy12
 clear y12 hy12
 refine HO_not rfl rfl rfl ?_
 refine HO_move rfl rfl rfl ?_
 refine HO_split (d:=14) rfl ?_ ?_
 ·intro h14
  replace h14:=nT h14
  iterate 2 refine HO_no rfl rfl rfl ?_
  refine HO_pick_t rfl rfl rfl rfl ?_
  refine HO_nil ?_
  refine H_env (ρ':=[(17,_),(6,_),(4,_)]) ⟨rfl,rfl,rfl,trivial⟩ ?_
  refine H_cond rfl (fun _ => ?_) (fun h => nomatch h)
  refine H_seq ?_
  refine H_region (l:=[_]) rfl ?_
  refine HO_alloc (cs:=[_,_,_,_,_,_,_,_,_,_,_,_,_,_,_,_]) rfl rfl Tryz.zeroValue36 rfl ?_
  intro g8
  refine HO_nil ?_
  refine H_env (ρ':=[(8,_),(6,_)]) ⟨rfl,rfl,trivial⟩ ?_
  refine H_world (kp [yy,yy,yy,nn,yy,nn,nn,nn,nn] [_,_,_,_] rfl) ?_
  refine H_seq ?_
  refine H_region (l:=[_,_,_]) rfl ?_
  refine HO_loadA (i:=0) (us:=[]) (cs:=[_,_,_,_,_,_,_,_,_,_,_,_,_,_,_,_]) (ts:=[]) rfl rfl rfl Tryz.isAgg36 Tryz.sizeOf36 rfl (.loc _ _ _) rfl rfl rfl rfl ?_
  refine HO_store (i:=2) (j:=0) (us:=[]) (old:=[_,_,_,_,_,_,_,_,_,_,_,_,_,_,_,_]) (ts:=[]) (cs:=[_,_,_,_,_,_,_,_,_,_,_,_,_,_,_,_]) (R:=[_,_,_]) (new:=[_,_,_,_,_,_,_,_,_,_,_,_,_,_,_,_]) rfl rfl rfl Tryz.sizeOf36 rfl (by simp [Value.oneCell']) rfl rfl rfl rfl rfl rfl ?_
  refine HO_assign rfl rfl rfl ?_
  refine HO_nil ?_
  refine H_env (ρ':=[(7,_),(6,_)]) ⟨rfl,rfl,trivial⟩ ?_
  refine H_world (kp [yy,nn,yy,yy] [_,_,_] rfl) ?_
  refine H_nilDat kEnt ?_
  refine H_nilDat kInt ?_
  refine H_nilDat kInt ?_
  refine H_nilDat kByte ?_
  have hto:=Ent.toldM_no (m:=may) (e:=⟨mk,mf,mt,me,mi,ml,mc,mr,rj,hi,es,⟨ix,te,⟨vo,le⟩,da⟩⟩) (.inl h14)
  refine H_ret2 Tryz.results74 (.cell rfl (fun w hA => run_loadVarA (cs:=[_,_,_,_,_,_,_,_,_,_,_,_,_,_,_,_]) (Tryz.isAgg36 w) (Tryz.sizeOf36 w) (Tells.cells (.loc _ _ _) (hA.get (i:=4) rfl)))) (.tmp rfl) (fun w hA => ⟨((none,0),(none,0),(none,0),(none,0)),congrArg Ending.returned ?_,?_,?_⟩)
  ·(rw [hto] <;> rfl)
  ·trivial
  ·(first | (rw [hto];exact hA.only (is:=[1,0,0,0,0]) (Z:=[_,_]) rfl) | exact hA.only (is:=[1,0,0,0,0]) (Z:=[_,_]) rfl)
 intro h14
 replace h14:=nF h14
 refine HO_move rfl rfl rfl ?_
 refine HO_not rfl rfl rfl ?_
 refine HO_pick_f rfl rfl rfl rfl ?_
 refine HO_nil ?_
 refine H_env (ρ':=[(17,_),(6,_),(4,_)]) ⟨rfl,rfl,rfl,trivial⟩ ?_
 refine H_cond rfl ?_ ?_
 ·intro h17
  replace h17:=nT h17
  refine H_seq ?_
  refine H_region (l:=[_]) rfl ?_
  refine HO_alloc (cs:=[_,_,_,_,_,_,_,_,_,_,_,_,_,_,_,_]) rfl rfl Tryz.zeroValue36 rfl ?_
  intro g8
  refine HO_nil ?_
  refine H_env (ρ':=[(8,_),(6,_)]) ⟨rfl,rfl,trivial⟩ ?_
  refine H_world (kp [yy,yy,yy,nn,yy,nn,nn,nn,nn] [_,_,_,_] rfl) ?_
  refine H_seq ?_
  refine H_region (l:=[_,_,_]) rfl ?_
  refine HO_loadA (i:=0) (us:=[]) (cs:=[_,_,_,_,_,_,_,_,_,_,_,_,_,_,_,_]) (ts:=[]) rfl rfl rfl Tryz.isAgg36 Tryz.sizeOf36 rfl (.loc _ _ _) rfl rfl rfl rfl ?_
  refine HO_store (i:=2) (j:=0) (us:=[]) (old:=[_,_,_,_,_,_,_,_,_,_,_,_,_,_,_,_]) (ts:=[]) (cs:=[_,_,_,_,_,_,_,_,_,_,_,_,_,_,_,_]) (R:=[_,_,_]) (new:=[_,_,_,_,_,_,_,_,_,_,_,_,_,_,_,_]) rfl rfl rfl Tryz.sizeOf36 rfl (by simp [Value.oneCell']) rfl rfl rfl rfl rfl rfl ?_
  refine HO_assign rfl rfl rfl ?_
  refine HO_nil ?_
  refine H_env (ρ':=[(7,_),(6,_)]) ⟨rfl,rfl,trivial⟩ ?_
  refine H_world (kp [yy,nn,yy,yy] [_,_,_] rfl) ?_
  refine H_nilDat kEnt ?_
  refine H_nilDat kInt ?_
  refine H_nilDat kInt ?_
  refine H_nilDat kByte ?_
  have hto:=Ent.toldM_no (r:=Cod.rend b w) (e:=⟨mk,mf,mt,me,mi,ml,mc,mr,rj,hi,es,⟨ix,te,⟨vo,le⟩,da⟩⟩) (.inr h17)
  refine H_ret2 Tryz.results74 (.cell rfl (fun w hA => run_loadVarA (cs:=[_,_,_,_,_,_,_,_,_,_,_,_,_,_,_,_]) (Tryz.isAgg36 w) (Tryz.sizeOf36 w) (Tells.cells (.loc _ _ _) (hA.get (i:=4) rfl)))) (.tmp rfl) (fun w hA => ⟨((none,0),(none,0),(none,0),(none,0)),congrArg Ending.returned ?_,?_,?_⟩)
  ·(rw [hto] <;> rfl)
  ·trivial
  ·(first | (rw [hto];exact hA.only (is:=[1,0,0,0,0]) (Z:=[_,_]) rfl) | exact hA.only (is:=[1,0,0,0,0]) (Z:=[_,_]) rfl)
 intro h17
 replace h17:=nF h17
 refine H_skip ?_
 refine H_seq ?_
 refine H_region (l:=[_,_,_]) rfl ?_
 refine HO_loadA (i:=2) (us:=[]) (cs:=[_,_,_,_,_,_,_,_,_,_,_,_,_,_,_,_]) (ts:=[]) rfl rfl rfl Tryz.isAgg36 Tryz.sizeOf36 rfl (.loc _ _ _) rfl rfl rfl rfl ?_
 refine HO_store (i:=1) (j:=0) (us:=[]) (old:=[_,_,_,_,_,_,_,_,_,_,_,_,_,_,_,_]) (ts:=[]) (cs:=[_,_,_,_,_,_,_,_,_,_,_,_,_,_,_,_]) (R:=[_,_,_,_,_,_,_]) (new:=[_,_,_,_,_,_,_,_,_,_,_,_,_,_,_,_]) rfl rfl rfl Tryz.sizeOf36 rfl (by simp [Value.oneCell']) rfl rfl rfl rfl rfl rfl ?_
 refine HO_assign rfl rfl rfl ?_
 refine HO_nil ?_
 refine H_env (ρ':=[(7,_),(6,_)]) ⟨rfl,rfl,trivial⟩ ?_
 refine H_world (kp [yy,yy,nn,yy,yy,yy,yy,yy] [_,_,_,_,_,_,_] rfl) ?_
 have hto:=Ent.toldM_yes (e:=⟨mk,mf,mt,me,mi,ml,mc,mr,rj,hi,es,⟨ix,te,⟨vo,le⟩,da⟩⟩) h14 h17
 refine H_ret2 Tryz.results74 (.cell rfl (fun w hA => run_loadVarA (cs:=[_,_,_,_,_,_,_,_,_,_,_,_,_,_,_,_]) (Tryz.isAgg36 w) (Tryz.sizeOf36 w) (Tells.cells (.loc _ _ _) (hA.get (i:=0) rfl)))) (.tmp rfl) (fun w hA => ⟨((a9,c9),(a1,c1),(a2,c2),(a3,c3)),congrArg Ending.returned ?_,?_,?_⟩)
 ·(rw [hto] <;> rfl)
 ·trivial
 ·(first | (rw [hto];exact hA.keep (m:=[nn,yy,nn,yy,yy,yy,yy]) (Y:=[_,_,_,_,_]) rfl) | exact hA.keep (m:=[nn,yy,nn,yy,yy,yy,yy]) (Y:=[_,_,_,_,_]) rfl)
theorem readmsg_spec (b : List UInt8) (a : Option Addr) (c : Nat) (hb : b.length≤100000) : Spec Tryz.prog 38 #[.slice a (b.length) c] [.dat kByte.sl (b) [.slice a (b.length) c]] (β:=(Option Addr × Nat) × (Option Addr × Nat) × (Option Addr × Nat) × (Option Addr × Nat)) (fun y => .tuple #[.agg #[.int .i64 ((Ent.readM b).1.kind),.int .i64 ((Ent.readM b).1.frm),.int .i64 ((Ent.readM b).1.to),.int .i64 ((Ent.readM b).1.term),.int .i64 ((Ent.readM b).1.idx),.int .i64 ((Ent.readM b).1.lterm),.int .i64 ((Ent.readM b).1.commit),.int .i64 ((Ent.readM b).1.round),.bool ((Ent.readM b).1.rej),.int .i64 ((Ent.readM b).1.hint),.slice y.1.1 (((Ent.readM b).1.ents).length) y.1.2,.int .i64 ((Ent.readM b).1.snap.idx),.int .i64 ((Ent.readM b).1.snap.term),.slice y.2.1.1 (((Ent.readM b).1.snap.conf.vot).length) y.2.1.2,.slice y.2.2.1.1 (((Ent.readM b).1.snap.conf.lea).length) y.2.2.1.2,.slice y.2.2.2.1 (((Ent.readM b).1.snap.data).length) y.2.2.2.2],.int .i64 ((Ent.readM b).2)]) (fun y => True) (fun y => [.dat kEnt.sl ((Ent.readM b).1.ents) [.slice y.1.1 (((Ent.readM b).1.ents).length) y.1.2],.dat kInt.sl ((Ent.readM b).1.snap.conf.vot) [.slice y.2.1.1 (((Ent.readM b).1.snap.conf.vot).length) y.2.1.2],.dat kInt.sl ((Ent.readM b).1.snap.conf.lea) [.slice y.2.2.1.1 (((Ent.readM b).1.snap.conf.lea).length) y.2.2.1.2],.dat kByte.sl ((Ent.readM b).1.snap.data) [.slice y.2.2.2.1 (((Ent.readM b).1.snap.data).length) y.2.2.2.2]]):=by
 refine Spec.enter (vs:=[_]) Tryz.func38 rfl Tryz.ntmps38 rfl (Nat.le_of_ble_eq_true rfl) (fun w0 ok0 => ?_)
 generalize hM0 : blks _ = M0
 have hMn:=@noM _ _ hM0 (by simp [Atom.dat,Atom.elem])
 refine H_seq ?_
 refine H_region (l:=[_,_]) rfl ?_
 refine HO_alloc (cs:=[_,_,_,_,_,_,_,_,_,_,_,_,_,_,_,_]) rfl rfl Tryz.zeroValue36 rfl ?_
 intro g2
 refine HO_assign rfl rfl rfl ?_
 refine HO_nil ?_
 refine H_env (ρ':=[(2,_),(0,_)]) ⟨rfl,rfl,trivial⟩ ?_
 refine H_seq ?_
 refine H_region (l:=[_,_,_]) rfl ?_
 refine HO_move rfl rfl rfl ?_
 refine HO_dup (i:=1) rfl rfl ?_
 refine HO_call (first:=[]) (capt:=[]) (is:=[0]) (R:=[_,_]) rfl rfl rfl rfl rfl Tryz.call68 rfl (over_spec _ _ _) ?_
 intro y9 hy9
 refine HO_assign rfl rfl rfl ?_
 refine HO_nil ?_
 refine H_env (ρ':=[(4,_),(2,_)]) ⟨rfl,rfl,trivial⟩ ?_
 refine H_world (kp [yy,yy,yy,nn] [_,_,_] rfl) ?_
 refine H_seq ?_
 refine H_region (l:=[_]) rfl ?_
 refine HO_alloc (cs:=[_,_,_,_,_,_,_,_,_,_,_,_,_,_,_,_]) rfl rfl Tryz.zeroValue36 rfl ?_
 intro g5
 refine HO_nil ?_
 refine H_seq ?_
 refine H_seq ?_
 refine H_region (l:=[_,_,_,_,_,_,_,_,_,_]) rfl ?_
 refine HO_fieldAddr (r:=0) rfl rfl rfl Tryz.underlying36 rfl Tryz.sizeOf3 rfl ?_
 refine HO_fieldAddr (r:=1) rfl rfl rfl Tryz.underlying36 rfl Tryz.sizeOf3 rfl ?_
 refine HO_fieldAddr (r:=2) rfl rfl rfl Tryz.underlying36 rfl Tryz.sizeOf3 rfl ?_
 refine HO_fieldAddr (r:=3) rfl rfl rfl Tryz.underlying36 rfl Tryz.sizeOf3 rfl ?_
 refine HO_fieldAddr (r:=4) rfl rfl rfl Tryz.underlying36 rfl Tryz.sizeOf3 rfl ?_
 refine HO_fieldAddr (r:=5) rfl rfl rfl Tryz.underlying36 rfl Tryz.sizeOf3 rfl ?_
 refine HO_fieldAddr (r:=6) rfl rfl rfl Tryz.underlying36 rfl Tryz.sizeOf3 rfl ?_
 refine HO_fieldAddr (r:=7) rfl rfl rfl Tryz.underlying36 rfl Tryz.sizeOf3 rfl ?_
 refine HO_build (xo:=[(0,_),(1,_),(2,_),(3,_),(4,_),(5,_),(6,_),(7,_)]) (vs:=[_,_,_,_,_,_,_,_]) rfl rfl rfl rfl (bd106_0_1_2_3_4_5_6_7_pppppppp) ?_
 refine HO_move rfl rfl rfl ?_
 refine HO_nil ?_
 refine H_env (ρ':=[(19,_),(18,_),(5,_),(4,_),(2,_)]) ⟨rfl,rfl,rfl,rfl,rfl,trivial⟩ ?_
 refine H_block ?_
 refine H_rounds 9 ?_
 refine H_rnd ?_
 refine H_seq ?_
 refine H_region (l:=[_]) rfl ?_
 refine HO_bin rfl rfl rfl rfl (bin_lit (by decide) (fun _ => rfl)) ?_
 refine HO_nil ?_
 refine H_seq ?_
 refine H_cond rfl (fun _ => ?_) (fun h => nomatch h)
 refine H_skip ?_
 refine H_seq ?_
 refine H_block ?_
 refine H_seq ?_
 refine H_region (l:=[_,_]) rfl ?_
 refine HO_indexV (j:=0) (cs:=[_,_,_,_,_,_,_,_]) rfl rfl rfl rfl Tryz.underlying106 Tryz.isAgg105 Tryz.sizeOf105 rfl (by decide) rfl ?_
 refine HO_assign rfl rfl rfl ?_
 refine HO_nil ?_
 refine H_env (ρ':=[(7,_),(19,_),(18,_),(5,_),(4,_),(2,_)]) ⟨rfl,rfl,rfl,rfl,rfl,rfl,trivial⟩ ?_
 refine H_region (l:=[_,_,_,_,_,_,_]) rfl ?_
 iterate 2 refine HO_move rfl rfl rfl ?_
 refine HO_nilCheck rfl rfl rfl ?_
 refine HO_fieldAddr (r:=0) rfl rfl rfl Tryz.underlying110 rfl Tryz.sizeOf108 rfl ?_
 refine HO_dup (i:=2) rfl rfl ?_
 refine HO_call (first:=[]) (capt:=[]) (is:=[1,0]) (R:=[_,_,_]) rfl rfl rfl rfl rfl Tryz.call69 rfl (cInt_spec _ _ _ _ _ _) ?_
 intro y26 hy26
 generalize hr_r1 : Cod.rd 0 (Cod.dec b) b false = r1
 have hl_r1 : r1.2.1.length≤b.length:=hr_r1 ▸ Cod.rd_len _ _ _ _
 have hz_r1:=Cod.zag_lo' hr_r1
 refine HO_nilCheck rfl rfl rfl ?_
 refine HO_store (i:=2) (j:=0) (us:=[]) (old:=[_]) (ts:=[_,_,_,_,_,_,_,_,_,_,_,_,_,_,_]) (cs:=[_]) (R:=[_,_,_,_]) (new:=[_,_,_,_,_,_,_,_,_,_,_,_,_,_,_,_]) rfl rfl rfl Tryz.sizeOf3 rfl (by simp [Value.oneCell']) rfl rfl rfl rfl rfl rfl ?_
 refine HO_nil ?_
 refine H_env (ρ':=[(19,_),(18,_),(5,_),(4,_),(2,_)]) ⟨rfl,rfl,rfl,rfl,rfl,trivial⟩ ?_
 refine H_world (kp [yy,yy,yy,nn,yy] [_,_,_,_] rfl) ?_
 refine H_blk ?_
 refine H_region (l:=[_,_]) rfl ?_
 refine HO_bin (r:=.int .i64 (1)) rfl rfl rfl rfl (bin_lit (by decide) (fun _ => rfl)) ?_
 refine HO_move rfl rfl rfl ?_
 refine HO_nil ?_
 refine H_env (ρ':=[(19,_),(18,_),(5,_),(4,_),(2,_)]) ⟨rfl,rfl,rfl,rfl,rfl,trivial⟩ ?_
 refine H_rnd ?_
 refine H_seq ?_
 refine H_region (l:=[_]) rfl ?_
 refine HO_bin rfl rfl rfl rfl (bin_lit (by decide) (fun _ => rfl)) ?_
 refine HO_nil ?_
 refine H_seq ?_
 refine H_cond rfl (fun _ => ?_) (fun h => nomatch h)
 refine H_skip ?_
 refine H_seq ?_
 refine H_block ?_
 refine H_seq ?_
 refine H_region (l:=[_,_]) rfl ?_
 refine HO_indexV (j:=1) (cs:=[_,_,_,_,_,_,_,_]) rfl rfl rfl rfl Tryz.underlying106 Tryz.isAgg105 Tryz.sizeOf105 rfl (by decide) rfl ?_
 refine HO_assign rfl rfl rfl ?_
 refine HO_nil ?_
 refine H_env (ρ':=[(7,_),(19,_),(18,_),(5,_),(4,_),(2,_)]) ⟨rfl,rfl,rfl,rfl,rfl,rfl,trivial⟩ ?_
 refine H_region (l:=[_,_,_,_,_,_,_]) rfl ?_
 iterate 2 refine HO_move rfl rfl rfl ?_
 refine HO_nilCheck rfl rfl rfl ?_
 refine HO_fieldAddr (r:=0) rfl rfl rfl Tryz.underlying110 rfl Tryz.sizeOf108 rfl ?_
 refine HO_dup (i:=2) rfl rfl ?_
 refine HO_call (first:=[]) (capt:=[]) (is:=[1,0]) (R:=[_,_,_]) rfl rfl rfl rfl rfl Tryz.call69 rfl (cInt_spec _ _ _ _ _ _) ?_
 intro y26 hy26
 generalize hr_r2 : Cod.rd 0 (Cod.dec r1.2.1) r1.2.1 r1.2.2 = r2
 have hl_r2 : r2.2.1.length≤r1.2.1.length:=hr_r2 ▸ Cod.rd_len _ _ _ _
 have hz_r2:=Cod.zag_lo' hr_r2
 refine HO_nilCheck rfl rfl rfl ?_
 refine HO_store (i:=2) (j:=0) (us:=[_]) (old:=[_]) (ts:=[_,_,_,_,_,_,_,_,_,_,_,_,_,_]) (cs:=[_]) (R:=[_,_,_,_]) (new:=[_,_,_,_,_,_,_,_,_,_,_,_,_,_,_,_]) rfl rfl rfl Tryz.sizeOf3 rfl (by simp [Value.oneCell']) rfl rfl rfl rfl rfl rfl ?_
 refine HO_nil ?_
 refine H_env (ρ':=[(19,_),(18,_),(5,_),(4,_),(2,_)]) ⟨rfl,rfl,rfl,rfl,rfl,trivial⟩ ?_
 refine H_world (kp [yy,yy,yy,nn,yy] [_,_,_,_] rfl) ?_
 refine H_blk ?_
 refine H_region (l:=[_,_]) rfl ?_
 refine HO_bin (r:=.int .i64 (2)) rfl rfl rfl rfl (bin_lit (by decide) (fun _ => rfl)) ?_
 refine HO_move rfl rfl rfl ?_
 refine HO_nil ?_
 refine H_env (ρ':=[(19,_),(18,_),(5,_),(4,_),(2,_)]) ⟨rfl,rfl,rfl,rfl,rfl,trivial⟩ ?_
 refine H_rnd ?_
 refine H_seq ?_
 refine H_region (l:=[_]) rfl ?_
 refine HO_bin rfl rfl rfl rfl (bin_lit (by decide) (fun _ => rfl)) ?_
 refine HO_nil ?_
 refine H_seq ?_
 refine H_cond rfl (fun _ => ?_) (fun h => nomatch h)
 refine H_skip ?_
 refine H_seq ?_
 refine H_block ?_
 refine H_seq ?_
 refine H_region (l:=[_,_]) rfl ?_
 refine HO_indexV (j:=2) (cs:=[_,_,_,_,_,_,_,_]) rfl rfl rfl rfl Tryz.underlying106 Tryz.isAgg105 Tryz.sizeOf105 rfl (by decide) rfl ?_
 refine HO_assign rfl rfl rfl ?_
 refine HO_nil ?_
 refine H_env (ρ':=[(7,_),(19,_),(18,_),(5,_),(4,_),(2,_)]) ⟨rfl,rfl,rfl,rfl,rfl,rfl,trivial⟩ ?_
 refine H_region (l:=[_,_,_,_,_,_,_]) rfl ?_
 iterate 2 refine HO_move rfl rfl rfl ?_
 refine HO_nilCheck rfl rfl rfl ?_
 refine HO_fieldAddr (r:=0) rfl rfl rfl Tryz.underlying110 rfl Tryz.sizeOf108 rfl ?_
 refine HO_dup (i:=2) rfl rfl ?_
 refine HO_call (first:=[]) (capt:=[]) (is:=[1,0]) (R:=[_,_,_]) rfl rfl rfl rfl rfl Tryz.call69 rfl (cInt_spec _ _ _ _ _ _) ?_
 intro y26 hy26
 generalize hr_r3 : Cod.rd 0 (Cod.dec r2.2.1) r2.2.1 r2.2.2 = r3
 have hl_r3 : r3.2.1.length≤r2.2.1.length:=hr_r3 ▸ Cod.rd_len _ _ _ _
 have hz_r3:=Cod.zag_lo' hr_r3
 refine HO_nilCheck rfl rfl rfl ?_
 refine HO_store (i:=2) (j:=0) (us:=[_,_]) (old:=[_]) (ts:=[_,_,_,_,_,_,_,_,_,_,_,_,_]) (cs:=[_]) (R:=[_,_,_,_]) (new:=[_,_,_,_,_,_,_,_,_,_,_,_,_,_,_,_]) rfl rfl rfl Tryz.sizeOf3 rfl (by simp [Value.oneCell']) rfl rfl rfl rfl rfl rfl ?_
 refine HO_nil ?_
 refine H_env (ρ':=[(19,_),(18,_),(5,_),(4,_),(2,_)]) ⟨rfl,rfl,rfl,rfl,rfl,trivial⟩ ?_
 refine H_world (kp [yy,yy,yy,nn,yy] [_,_,_,_] rfl) ?_
 refine H_blk ?_
 refine H_region (l:=[_,_]) rfl ?_
 refine HO_bin (r:=.int .i64 (3)) rfl rfl rfl rfl (bin_lit (by decide) (fun _ => rfl)) ?_
 refine HO_move rfl rfl rfl ?_
 refine HO_nil ?_
 refine H_env (ρ':=[(19,_),(18,_),(5,_),(4,_),(2,_)]) ⟨rfl,rfl,rfl,rfl,rfl,trivial⟩ ?_
 refine H_rnd ?_
 refine H_seq ?_
 refine H_region (l:=[_]) rfl ?_
 refine HO_bin rfl rfl rfl rfl (bin_lit (by decide) (fun _ => rfl)) ?_
 refine HO_nil ?_
 refine H_seq ?_
 refine H_cond rfl (fun _ => ?_) (fun h => nomatch h)
 refine H_skip ?_
 refine H_seq ?_
 refine H_block ?_
 refine H_seq ?_
 refine H_region (l:=[_,_]) rfl ?_
 refine HO_indexV (j:=3) (cs:=[_,_,_,_,_,_,_,_]) rfl rfl rfl rfl Tryz.underlying106 Tryz.isAgg105 Tryz.sizeOf105 rfl (by decide) rfl ?_
 refine HO_assign rfl rfl rfl ?_
 refine HO_nil ?_
 refine H_env (ρ':=[(7,_),(19,_),(18,_),(5,_),(4,_),(2,_)]) ⟨rfl,rfl,rfl,rfl,rfl,rfl,trivial⟩ ?_
 refine H_region (l:=[_,_,_,_,_,_,_]) rfl ?_
 iterate 2 refine HO_move rfl rfl rfl ?_
 refine HO_nilCheck rfl rfl rfl ?_
 refine HO_fieldAddr (r:=0) rfl rfl rfl Tryz.underlying110 rfl Tryz.sizeOf108 rfl ?_
 refine HO_dup (i:=2) rfl rfl ?_
 refine HO_call (first:=[]) (capt:=[]) (is:=[1,0]) (R:=[_,_,_]) rfl rfl rfl rfl rfl Tryz.call69 rfl (cInt_spec _ _ _ _ _ _) ?_
 intro y26 hy26
 generalize hr_r4 : Cod.rd 0 (Cod.dec r3.2.1) r3.2.1 r3.2.2 = r4
 have hl_r4 : r4.2.1.length≤r3.2.1.length:=hr_r4 ▸ Cod.rd_len _ _ _ _
 have hz_r4:=Cod.zag_lo' hr_r4
 refine HO_nilCheck rfl rfl rfl ?_
 refine HO_store (i:=2) (j:=0) (us:=[_,_,_]) (old:=[_]) (ts:=[_,_,_,_,_,_,_,_,_,_,_,_]) (cs:=[_]) (R:=[_,_,_,_]) (new:=[_,_,_,_,_,_,_,_,_,_,_,_,_,_,_,_]) rfl rfl rfl Tryz.sizeOf3 rfl (by simp [Value.oneCell']) rfl rfl rfl rfl rfl rfl ?_
 refine HO_nil ?_
 refine H_env (ρ':=[(19,_),(18,_),(5,_),(4,_),(2,_)]) ⟨rfl,rfl,rfl,rfl,rfl,trivial⟩ ?_
 refine H_world (kp [yy,yy,yy,nn,yy] [_,_,_,_] rfl) ?_
 refine H_blk ?_
 refine H_region (l:=[_,_]) rfl ?_
 refine HO_bin (r:=.int .i64 (4)) rfl rfl rfl rfl (bin_lit (by decide) (fun _ => rfl)) ?_
 refine HO_move rfl rfl rfl ?_
 refine HO_nil ?_
 refine H_env (ρ':=[(19,_),(18,_),(5,_),(4,_),(2,_)]) ⟨rfl,rfl,rfl,rfl,rfl,trivial⟩ ?_
 refine H_rnd ?_
 refine H_seq ?_
 refine H_region (l:=[_]) rfl ?_
 refine HO_bin rfl rfl rfl rfl (bin_lit (by decide) (fun _ => rfl)) ?_
 refine HO_nil ?_
 refine H_seq ?_
 refine H_cond rfl (fun _ => ?_) (fun h => nomatch h)
 refine H_skip ?_
 refine H_seq ?_
 refine H_block ?_
 refine H_seq ?_
 refine H_region (l:=[_,_]) rfl ?_
 refine HO_indexV (j:=4) (cs:=[_,_,_,_,_,_,_,_]) rfl rfl rfl rfl Tryz.underlying106 Tryz.isAgg105 Tryz.sizeOf105 rfl (by decide) rfl ?_
 refine HO_assign rfl rfl rfl ?_
 refine HO_nil ?_
 refine H_env (ρ':=[(7,_),(19,_),(18,_),(5,_),(4,_),(2,_)]) ⟨rfl,rfl,rfl,rfl,rfl,rfl,trivial⟩ ?_
 refine H_region (l:=[_,_,_,_,_,_,_]) rfl ?_
 iterate 2 refine HO_move rfl rfl rfl ?_
 refine HO_nilCheck rfl rfl rfl ?_
 refine HO_fieldAddr (r:=0) rfl rfl rfl Tryz.underlying110 rfl Tryz.sizeOf108 rfl ?_
 refine HO_dup (i:=2) rfl rfl ?_
 refine HO_call (first:=[]) (capt:=[]) (is:=[1,0]) (R:=[_,_,_]) rfl rfl rfl rfl rfl Tryz.call69 rfl (cInt_spec _ _ _ _ _ _) ?_
 intro y26 hy26
 generalize hr_r5 : Cod.rd 0 (Cod.dec r4.2.1) r4.2.1 r4.2.2 = r5
 have hl_r5 : r5.2.1.length≤r4.2.1.length:=hr_r5 ▸ Cod.rd_len _ _ _ _
 have hz_r5:=Cod.zag_lo' hr_r5
 refine HO_nilCheck rfl rfl rfl ?_
 refine HO_store (i:=2) (j:=0) (us:=[_,_,_,_]) (old:=[_]) (ts:=[_,_,_,_,_,_,_,_,_,_,_]) (cs:=[_]) (R:=[_,_,_,_]) (new:=[_,_,_,_,_,_,_,_,_,_,_,_,_,_,_,_]) rfl rfl rfl Tryz.sizeOf3 rfl (by simp [Value.oneCell']) rfl rfl rfl rfl rfl rfl ?_
 refine HO_nil ?_
 refine H_env (ρ':=[(19,_),(18,_),(5,_),(4,_),(2,_)]) ⟨rfl,rfl,rfl,rfl,rfl,trivial⟩ ?_
 refine H_world (kp [yy,yy,yy,nn,yy] [_,_,_,_] rfl) ?_
 refine H_blk ?_
 refine H_region (l:=[_,_]) rfl ?_
 refine HO_bin (r:=.int .i64 (5)) rfl rfl rfl rfl (bin_lit (by decide) (fun _ => rfl)) ?_
 refine HO_move rfl rfl rfl ?_
 refine HO_nil ?_
 refine H_env (ρ':=[(19,_),(18,_),(5,_),(4,_),(2,_)]) ⟨rfl,rfl,rfl,rfl,rfl,trivial⟩ ?_
 refine H_rnd ?_
 refine H_seq ?_
 refine H_region (l:=[_]) rfl ?_
 refine HO_bin rfl rfl rfl rfl (bin_lit (by decide) (fun _ => rfl)) ?_
 refine HO_nil ?_
 refine H_seq ?_
 refine H_cond rfl (fun _ => ?_) (fun h => nomatch h)
 refine H_skip ?_
 refine H_seq ?_
 refine H_block ?_
 refine H_seq ?_
 refine H_region (l:=[_,_]) rfl ?_
 refine HO_indexV (j:=5) (cs:=[_,_,_,_,_,_,_,_]) rfl rfl rfl rfl Tryz.underlying106 Tryz.isAgg105 Tryz.sizeOf105 rfl (by decide) rfl ?_
 refine HO_assign rfl rfl rfl ?_
 refine HO_nil ?_
 refine H_env (ρ':=[(7,_),(19,_),(18,_),(5,_),(4,_),(2,_)]) ⟨rfl,rfl,rfl,rfl,rfl,rfl,trivial⟩ ?_
 refine H_region (l:=[_,_,_,_,_,_,_]) rfl ?_
 iterate 2 refine HO_move rfl rfl rfl ?_
 refine HO_nilCheck rfl rfl rfl ?_
 refine HO_fieldAddr (r:=0) rfl rfl rfl Tryz.underlying110 rfl Tryz.sizeOf108 rfl ?_
 refine HO_dup (i:=2) rfl rfl ?_
 refine HO_call (first:=[]) (capt:=[]) (is:=[1,0]) (R:=[_,_,_]) rfl rfl rfl rfl rfl Tryz.call69 rfl (cInt_spec _ _ _ _ _ _) ?_
 intro y26 hy26
 generalize hr_r6 : Cod.rd 0 (Cod.dec r5.2.1) r5.2.1 r5.2.2 = r6
 have hl_r6 : r6.2.1.length≤r5.2.1.length:=hr_r6 ▸ Cod.rd_len _ _ _ _
 have hz_r6:=Cod.zag_lo' hr_r6
 refine HO_nilCheck rfl rfl rfl ?_
 refine HO_store (i:=2) (j:=0) (us:=[_,_,_,_,_]) (old:=[_]) (ts:=[_,_,_,_,_,_,_,_,_,_]) (cs:=[_]) (R:=[_,_,_,_]) (new:=[_,_,_,_,_,_,_,_,_,_,_,_,_,_,_,_]) rfl rfl rfl Tryz.sizeOf3 rfl (by simp [Value.oneCell']) rfl rfl rfl rfl rfl rfl ?_
 refine HO_nil ?_
 refine H_env (ρ':=[(19,_),(18,_),(5,_),(4,_),(2,_)]) ⟨rfl,rfl,rfl,rfl,rfl,trivial⟩ ?_
 refine H_world (kp [yy,yy,yy,nn,yy] [_,_,_,_] rfl) ?_
 refine H_blk ?_
 refine H_region (l:=[_,_]) rfl ?_
 refine HO_bin (r:=.int .i64 (6)) rfl rfl rfl rfl (bin_lit (by decide) (fun _ => rfl)) ?_
 refine HO_move rfl rfl rfl ?_
 refine HO_nil ?_
 refine H_env (ρ':=[(19,_),(18,_),(5,_),(4,_),(2,_)]) ⟨rfl,rfl,rfl,rfl,rfl,trivial⟩ ?_
 refine H_rnd ?_
 refine H_seq ?_
 refine H_region (l:=[_]) rfl ?_
 refine HO_bin rfl rfl rfl rfl (bin_lit (by decide) (fun _ => rfl)) ?_
 refine HO_nil ?_
 refine H_seq ?_
 refine H_cond rfl (fun _ => ?_) (fun h => nomatch h)
 refine H_skip ?_
 refine H_seq ?_
 refine H_block ?_
 refine H_seq ?_
 refine H_region (l:=[_,_]) rfl ?_
 refine HO_indexV (j:=6) (cs:=[_,_,_,_,_,_,_,_]) rfl rfl rfl rfl Tryz.underlying106 Tryz.isAgg105 Tryz.sizeOf105 rfl (by decide) rfl ?_
 refine HO_assign rfl rfl rfl ?_
 refine HO_nil ?_
 refine H_env (ρ':=[(7,_),(19,_),(18,_),(5,_),(4,_),(2,_)]) ⟨rfl,rfl,rfl,rfl,rfl,rfl,trivial⟩ ?_
 refine H_region (l:=[_,_,_,_,_,_,_]) rfl ?_
 iterate 2 refine HO_move rfl rfl rfl ?_
 refine HO_nilCheck rfl rfl rfl ?_
 refine HO_fieldAddr (r:=0) rfl rfl rfl Tryz.underlying110 rfl Tryz.sizeOf108 rfl ?_
 refine HO_dup (i:=2) rfl rfl ?_
 refine HO_call (first:=[]) (capt:=[]) (is:=[1,0]) (R:=[_,_,_]) rfl rfl rfl rfl rfl Tryz.call69 rfl (cInt_spec _ _ _ _ _ _) ?_
 intro y26 hy26
 generalize hr_r7 : Cod.rd 0 (Cod.dec r6.2.1) r6.2.1 r6.2.2 = r7
 have hl_r7 : r7.2.1.length≤r6.2.1.length:=hr_r7 ▸ Cod.rd_len _ _ _ _
 have hz_r7:=Cod.zag_lo' hr_r7
 refine HO_nilCheck rfl rfl rfl ?_
 refine HO_store (i:=2) (j:=0) (us:=[_,_,_,_,_,_]) (old:=[_]) (ts:=[_,_,_,_,_,_,_,_,_]) (cs:=[_]) (R:=[_,_,_,_]) (new:=[_,_,_,_,_,_,_,_,_,_,_,_,_,_,_,_]) rfl rfl rfl Tryz.sizeOf3 rfl (by simp [Value.oneCell']) rfl rfl rfl rfl rfl rfl ?_
 refine HO_nil ?_
 refine H_env (ρ':=[(19,_),(18,_),(5,_),(4,_),(2,_)]) ⟨rfl,rfl,rfl,rfl,rfl,trivial⟩ ?_
 refine H_world (kp [yy,yy,yy,nn,yy] [_,_,_,_] rfl) ?_
 refine H_blk ?_
 refine H_region (l:=[_,_]) rfl ?_
 refine HO_bin (r:=.int .i64 (7)) rfl rfl rfl rfl (bin_lit (by decide) (fun _ => rfl)) ?_
 refine HO_move rfl rfl rfl ?_
 refine HO_nil ?_
 refine H_env (ρ':=[(19,_),(18,_),(5,_),(4,_),(2,_)]) ⟨rfl,rfl,rfl,rfl,rfl,trivial⟩ ?_
 refine H_rnd ?_
 refine H_seq ?_
 refine H_region (l:=[_]) rfl ?_
 refine HO_bin rfl rfl rfl rfl (bin_lit (by decide) (fun _ => rfl)) ?_
 refine HO_nil ?_
 refine H_seq ?_
 refine H_cond rfl (fun _ => ?_) (fun h => nomatch h)
 refine H_skip ?_
 refine H_seq ?_
 refine H_block ?_
 refine H_seq ?_
 refine H_region (l:=[_,_]) rfl ?_
 refine HO_indexV (j:=7) (cs:=[_,_,_,_,_,_,_,_]) rfl rfl rfl rfl Tryz.underlying106 Tryz.isAgg105 Tryz.sizeOf105 rfl (by decide) rfl ?_
 refine HO_assign rfl rfl rfl ?_
 refine HO_nil ?_
 refine H_env (ρ':=[(7,_),(19,_),(18,_),(5,_),(4,_),(2,_)]) ⟨rfl,rfl,rfl,rfl,rfl,rfl,trivial⟩ ?_
 refine H_region (l:=[_,_,_,_,_,_,_]) rfl ?_
 iterate 2 refine HO_move rfl rfl rfl ?_
 refine HO_nilCheck rfl rfl rfl ?_
 refine HO_fieldAddr (r:=0) rfl rfl rfl Tryz.underlying110 rfl Tryz.sizeOf108 rfl ?_
 refine HO_dup (i:=2) rfl rfl ?_
 refine HO_call (first:=[]) (capt:=[]) (is:=[1,0]) (R:=[_,_,_]) rfl rfl rfl rfl rfl Tryz.call69 rfl (cInt_spec _ _ _ _ _ _) ?_
 intro y26 hy26
 generalize hr_r8 : Cod.rd 0 (Cod.dec r7.2.1) r7.2.1 r7.2.2 = r8
 have hl_r8 : r8.2.1.length≤r7.2.1.length:=hr_r8 ▸ Cod.rd_len _ _ _ _
 have hz_r8:=Cod.zag_lo' hr_r8
 refine HO_nilCheck rfl rfl rfl ?_
 refine HO_store (i:=2) (j:=0) (us:=[_,_,_,_,_,_,_]) (old:=[_]) (ts:=[_,_,_,_,_,_,_,_]) (cs:=[_]) (R:=[_,_,_,_]) (new:=[_,_,_,_,_,_,_,_,_,_,_,_,_,_,_,_]) rfl rfl rfl Tryz.sizeOf3 rfl (by simp [Value.oneCell']) rfl rfl rfl rfl rfl rfl ?_
 refine HO_nil ?_
 refine H_env (ρ':=[(19,_),(18,_),(5,_),(4,_),(2,_)]) ⟨rfl,rfl,rfl,rfl,rfl,trivial⟩ ?_
 refine H_world (kp [yy,yy,yy,nn,yy] [_,_,_,_] rfl) ?_
 refine H_blk ?_
 refine H_region (l:=[_,_]) rfl ?_
 refine HO_bin (r:=.int .i64 (8)) rfl rfl rfl rfl (bin_lit (by decide) (fun _ => rfl)) ?_
 refine HO_move rfl rfl rfl ?_
 refine HO_nil ?_
 refine H_env (ρ':=[(19,_),(18,_),(5,_),(4,_),(2,_)]) ⟨rfl,rfl,rfl,rfl,rfl,trivial⟩ ?_
 refine H_rnd ?_
 refine H_seq ?_
 refine H_region (l:=[_]) rfl ?_
 refine HO_bin rfl rfl rfl rfl (bin_lit (by decide) (fun _ => rfl)) ?_
 refine HO_nil ?_
 refine H_seq ?_
 refine H_cond rfl (fun h => nomatch h) (fun _ => ?_)
 refine H_exit rfl ?_
 refine H_seq ?_
 refine H_region (l:=[_,_,_,_,_,_]) rfl ?_
 refine HO_move rfl rfl rfl ?_
 refine HO_nilCheck rfl rfl rfl ?_
 refine HO_fieldAddr (r:=0) rfl rfl rfl Tryz.underlying110 rfl Tryz.sizeOf108 rfl ?_
 refine HO_dup (i:=2) rfl rfl ?_
 refine HO_call (first:=[]) (capt:=[]) (is:=[1,0]) (R:=[_,_,_]) rfl rfl rfl rfl rfl Tryz.call70 rfl (cBool_spec _ _ _ _ _ _) ?_
 intro y32 hy32
 generalize hr_r9 : Cod.rd false (Cod.decB r8.2.1) r8.2.1 r8.2.2 = r9
 have hl_r9 : r9.2.1.length≤r8.2.1.length:=hr_r9 ▸ Cod.rd_len _ _ _ _
 refine HO_fieldAddr (r:=8) rfl rfl rfl Tryz.underlying36 rfl Tryz.sizeOf4 rfl ?_
 refine HO_store (i:=2) (j:=0) (us:=[_,_,_,_,_,_,_,_]) (old:=[_]) (ts:=[_,_,_,_,_,_,_]) (cs:=[_]) (R:=[_,_,_,_]) (new:=[_,_,_,_,_,_,_,_,_,_,_,_,_,_,_,_]) rfl rfl rfl Tryz.sizeOf4 rfl (by simp [Value.oneCell']) rfl rfl rfl rfl rfl rfl ?_
 refine HO_nil ?_
 refine H_env (ρ':=[(5,_),(4,_),(2,_)]) ⟨rfl,rfl,rfl,trivial⟩ ?_
 refine H_world (kp [yy,yy,yy,nn,yy] [_,_,_,_] rfl) ?_
 refine H_seq ?_
 refine H_region (l:=[_,_,_,_,_,_]) rfl ?_
 refine HO_move rfl rfl rfl ?_
 refine HO_nilCheck rfl rfl rfl ?_
 refine HO_fieldAddr (r:=0) rfl rfl rfl Tryz.underlying110 rfl Tryz.sizeOf108 rfl ?_
 refine HO_dup (i:=2) rfl rfl ?_
 refine HO_call (first:=[]) (capt:=[]) (is:=[1,0]) (R:=[_,_,_]) rfl rfl rfl rfl rfl Tryz.call69 rfl (cInt_spec _ _ _ _ _ _) ?_
 intro y37 hy37
 generalize hr_r10 : Cod.rd 0 (Cod.dec r9.2.1) r9.2.1 r9.2.2 = r10
 have hl_r10 : r10.2.1.length≤r9.2.1.length:=hr_r10 ▸ Cod.rd_len _ _ _ _
 have hz_r10:=Cod.zag_lo' hr_r10
 refine HO_fieldAddr (r:=9) rfl rfl rfl Tryz.underlying36 rfl Tryz.sizeOf3 rfl ?_
 refine HO_store (i:=2) (j:=0) (us:=[_,_,_,_,_,_,_,_,_]) (old:=[_]) (ts:=[_,_,_,_,_,_]) (cs:=[_]) (R:=[_,_,_,_]) (new:=[_,_,_,_,_,_,_,_,_,_,_,_,_,_,_,_]) rfl rfl rfl Tryz.sizeOf3 rfl (by simp [Value.oneCell']) rfl rfl rfl rfl rfl rfl ?_
 refine HO_nil ?_
 refine H_env (ρ':=[(5,_),(4,_),(2,_)]) ⟨rfl,rfl,rfl,trivial⟩ ?_
 refine H_world (kp [yy,yy,yy,nn,yy] [_,_,_,_] rfl) ?_
 refine H_seq ?_
 refine H_seq ?_
 refine H_region (l:=[_,_]) rfl ?_
 refine HO_fieldAddr (r:=0) rfl rfl rfl Tryz.underlying36 rfl Tryz.sizeOf3 rfl ?_
 refine HO_load1 (i:=0) (j:=0) rfl rfl rfl Tryz.isAgg3 rfl (.loc _ _ _) rfl rfl ?_
 refine HO_nil ?_
 refine H_env (ρ':=[(40,_),(5,_),(4,_),(2,_)]) ⟨rfl,rfl,rfl,rfl,trivial⟩ ?_
 refine H_block ?_
 refine H_seq ?_
 refine H_region (l:=[_,_]) rfl ?_
 refine HO_bin rfl rfl rfl rfl bin_eql ?_
 refine HO_assign rfl rfl rfl ?_
 refine HO_nil ?_
 refine H_env (ρ':=[(41,_),(40,_),(5,_),(4,_),(2,_)]) ⟨rfl,rfl,rfl,rfl,rfl,trivial⟩ ?_
 refine H_cond rfl ?_ ?_
 ·intro h41
  replace h41:=dT h41
  refine H_region (l:=[_,_,_,_,_,_]) rfl ?_
  iterate 2 refine HO_move rfl rfl rfl ?_
  refine HO_makeFunc (vs:=[_]) (us:=[]) rfl rfl rfl rfl ?_
  refine HO_dup (i:=2) rfl rfl ?_
  refine HO_call (first:=[]) (capt:=[]) (is:=[1,0]) (R:=[_,_,_]) rfl rfl rfl rfl rfl Tryz.call71 rfl (itemsent_spec _ _ _ _ _ _ _ ?_ ?_) ?_
  ·omega
  ·(constructor <;> decide)
  intro y46 hy46
  have hcl:=Ent.entsL_len 16 (r10.2.1,r10.2.2)
  obtain ⟨c4,hc4⟩ : ∃ x,Ent.entsL 16 (r10.2.1,r10.2.2) = x:=⟨_,rfl⟩
  rw [hc4] at ⊢
  refine HO_fieldAddr (r:=10) rfl rfl rfl Tryz.underlying36 rfl Tryz.sizeOf28 rfl ?_
  refine HO_store (i:=3) (j:=0) (us:=[_,_,_,_,_,_,_,_,_,_]) (old:=[_]) (ts:=[_,_,_,_,_]) (cs:=[_]) (R:=[_,_,_,_,_]) (new:=[_,_,_,_,_,_,_,_,_,_,_,_,_,_,_,_]) rfl rfl rfl Tryz.sizeOf28 rfl (by simp [Value.oneCell']) rfl rfl rfl rfl rfl rfl ?_
  refine HO_nil ?_
  refine H_env (ρ':=[(5,_),(4,_),(2,_)]) ⟨rfl,rfl,rfl,trivial⟩ ?_
  refine H_world (kp [yy,yy,yy,yy,nn,yy] [_,_,_,_,_] rfl) ?_
  refine H_blk ?_
  refine H_seq ?_
  refine H_drawB (m:=[yy,nn,yy,yy,nn]) (Xs:=[_,_,_]) (fuel:=9) (l:=#[false,false,false,false,false,false,false,false,false]) mixed rfl rfl rfl ?_
  refine HA_take (i:=0) bp rfl rfl rfl rfl (by kernel_rfl) rfl (V_move rfl) (kp [yy,nn,yy,yy,nn] [_,_,_] rfl) ?_
  refine HA_take (i:=1) bp rfl rfl rfl rfl (by kernel_rfl) rfl (V_loadA (i:=0) (us:=[]) (cs:=[_,_,_,_,_,_,_,_,_,_,_,_,_,_,_,_]) (ts:=[]) rfl Tryz.isAgg36 Tryz.sizeOf36 rfl (.loc _ _ _) rfl rfl rfl rfl) (kp [yy,nn,yy,yy,nn] [_,_,_] rfl) ?_
  refine HA_take (i:=2) bp rfl rfl rfl rfl (by kernel_rfl) rfl (V_loadA (i:=0) (us:=[]) (cs:=[_,_,_,_,_,_,_,_,_,_,_,_,_,_,_,_]) (ts:=[]) rfl Tryz.isAgg36 Tryz.sizeOf36 rfl (.loc _ _ _) rfl rfl rfl rfl) (kp [yy,nn,yy,yy,nn] [_,_,_] rfl) ?_
  refine HA_loud1 (i:=3) (by kernel_rfl) rfl ?_
  refine HO_nilDat kInt ?_
  refine HO_nilDat kInt ?_
  refine HO_nilDat kByte ?_
  refine HO_dup (i:=6) rfl rfl ?_
  refine HO_dup (i:=3) rfl rfl ?_
  refine HO_dup (i:=3) rfl rfl ?_
  refine HO_dup (i:=3) rfl rfl ?_
  refine HO_call (first:=[]) (capt:=[]) (is:=[0,0,0,0]) (R:=[_,_,_,_,_,_,_,_]) rfl rfl rfl rfl rfl Tryz.call27 rfl (goodmsg_spec _ _ _ _ _ _ _ _ _ _ _ _ _ _ _ _ _ _ _ _ _ _ _ _ ?_ ?_ ?_ ?_) ?_
  ·(exact Nat.zero_le _)
  ·(exact Nat.zero_le _)
  ·(exact Nat.zero_le _)
  ·exact hz_r5.2
  intro y56 hy56
  clear y56 hy56
  refine HA_back rfl (kp [nn,nn,nn,yy,nn,yy,yy,nn] [_,_,_] rfl) ?_
  refine HA_loud1 (i:=4) (by kernel_rfl) rfl ?_
  refine HO_nilDat kInt ?_
  refine HO_nilDat kInt ?_
  refine HO_nilDat kByte ?_
  refine HO_dup (i:=8) rfl rfl ?_
  refine HO_dup (i:=10) rfl rfl ?_
  refine HO_dup (i:=4) rfl rfl ?_
  refine HO_dup (i:=4) rfl rfl ?_
  refine HO_dup (i:=4) rfl rfl ?_
  refine HO_call (first:=[]) (capt:=[]) (is:=[7,0,0,0,0,0]) (R:=[_,_,_,_,_,_,_,_,_,_]) rfl rfl rfl rfl rfl Tryz.call74 rfl (toldmsg_spec _ _ _ _ _ _ _ _ _ _ _ _ _ _ _ _ _ _ _ _ _ _ _ _ _ _ _ _ _ _ _) ?_
  intro y57 hy57
  refine HA_back rfl (kp [nn,nn,nn,nn,nn,nn,nn,nn,nn,nn,nn,yy,yy,yy,nn] [_,_,_] rfl) ?_
  refine HA_take (i:=5) bp rfl rfl rfl rfl (by kernel_rfl) rfl (V_extract (vs:=[_,_]) rfl rfl) (kp [nn,nn,nn,nn,nn,nn,nn,nn,nn,nn,nn,yy,yy,yy,nn] [_,_,_] rfl) ?_
  refine HA_take (i:=6) bp rfl rfl rfl rfl (by kernel_rfl) rfl (V_extract (vs:=[_,_]) rfl rfl) (kp [nn,nn,nn,nn,nn,nn,nn,nn,nn,nn,nn,yy,yy,yy,nn] [_,_,_] rfl) ?_
  refine HA_loud1 (i:=7) (by kernel_rfl) rfl ?_
  refine HO_store (i:=14) (j:=0) (us:=[]) (old:=[_,_,_,_,_,_,_,_,_,_,_,_,_,_,_,_]) (ts:=[]) (cs:=[_,_,_,_,_,_,_,_,_,_,_,_,_,_,_,_]) (R:=[_,_,_,_,_,_,_,_,_,_,_,_,_,_]) (new:=[_,_,_,_,_,_,_,_,_,_,_,_,_,_,_,_]) rfl rfl rfl Tryz.sizeOf36 rfl (by simp [Value.oneCell']) rfl rfl rfl rfl rfl rfl ?_
  refine HA_back rfl (kp [nn,nn,nn,nn,nn,nn,nn,nn,nn,nn,nn,nn,yy,yy,yy] [_,_,_] rfl) ?_
  refine HA_take (i:=8) bp rfl rfl rfl rfl (by kernel_rfl) rfl (V_assign rfl) (kp [nn,nn,nn,nn,nn,nn,nn,nn,nn,nn,nn,nn,yy,yy,yy] [_,_,_] rfl) ?_
  refine HA_done (by kernel_rfl) ?_
  refine H_env (ρ':=[(3,_),(2,_)]) ⟨rfl,rfl,trivial⟩ ?_
  refine H_world (kp [yy,nn,yy,yy,yy,yy,nn,nn,nn,nn,nn,nn,nn,nn,nn] [_,_,_,_,_] rfl) ?_
  have hx : Ent.readM b = Ent.toldM (Cod.rend c4.2.1 c4.2.2 && Ent.goodMsg ⟨Cod.zag r1.1,Cod.zag r2.1,Cod.zag r3.1,Cod.zag r4.1,Cod.zag r5.1,Cod.zag r6.1,Cod.zag r7.1,Cod.zag r8.1,r9.1,Cod.zag r10.1,c4.1,⟨0,0,⟨[],[]⟩,[]⟩⟩) ⟨Cod.zag r1.1,Cod.zag r2.1,Cod.zag r3.1,Cod.zag r4.1,Cod.zag r5.1,Cod.zag r6.1,Cod.zag r7.1,Cod.zag r8.1,r9.1,Cod.zag r10.1,c4.1,⟨0,0,⟨[],[]⟩,[]⟩⟩:=(Ent.readM_of (Ent.msgP_5 hr_r1 hr_r2 hr_r3 hr_r4 hr_r5 hr_r6 hr_r7 hr_r8 hr_r9 hr_r10 hc4 h41)).trans rfl
  refine H_ret2 Tryz.results38 (.cell rfl (fun w hA => run_loadVarA (cs:=[_,_,_,_,_,_,_,_,_,_,_,_,_,_,_,_]) (Tryz.isAgg36 w) (Tryz.sizeOf36 w) (Tells.cells (.loc _ _ _) (hA.get (i:=0) rfl)))) (.tmp rfl) (fun w hA => ⟨y57,congrArg Ending.returned ?_,?_,?_⟩)
  ·(rw [hx])
  ·trivial
  ·(rw [hx];exact hA.keep (m:=[nn,yy,yy,yy,yy]) (Y:=[_,_,_,_]) rfl)
 intro h41
 replace h41:=dF h41
 refine H_seq ?_
 refine H_region (l:=[_,_]) rfl ?_
 refine HO_bin rfl rfl rfl rfl bin_eql ?_
 refine HO_assign rfl rfl rfl ?_
 refine HO_nil ?_
 refine H_env (ρ':=[(48,_),(5,_),(4,_),(2,_)]) ⟨rfl,rfl,rfl,rfl,trivial⟩ ?_
 refine H_cond rfl ?_ ?_
 ·intro h48
  replace h48:=dT h48
  refine H_region (l:=[_,_,_,_]) rfl ?_
  refine HO_move rfl rfl rfl ?_
  refine HO_dup (i:=2) rfl rfl ?_
  refine HO_call (first:=[]) (capt:=[]) (is:=[1,0]) (R:=[_,_,_]) rfl rfl rfl rfl rfl Tryz.call73 rfl (creadsnap_spec _ _ _ _ _ _ ?_) ?_
  ·omega
  intro y51 hy51
  have hcl:=Ent.snapP_len (r10.2.1,r10.2.2)
  have hcs:=Ent.snapP_sizes (r10.2.1,r10.2.2) (by dsimp only;omega)
  obtain ⟨c4,hc4⟩ : ∃ x,Ent.snapP (r10.2.1,r10.2.2) = x:=⟨_,rfl⟩
  rw [hc4] at hcs ⊢
  refine HO_fieldAddr (r:=11) rfl rfl rfl Tryz.underlying36 rfl Tryz.sizeOf34 rfl ?_
  refine HO_store (i:=5) (j:=0) (us:=[_,_,_,_,_,_,_,_,_,_,_]) (old:=[_,_,_,_,_]) (ts:=[]) (cs:=[_,_,_,_,_]) (R:=[_,_,_,_,_,_,_]) (new:=[_,_,_,_,_,_,_,_,_,_,_,_,_,_,_,_]) rfl rfl rfl Tryz.sizeOf34 rfl (by simp [Value.oneCell']) rfl rfl rfl rfl rfl rfl ?_
  refine HO_nil ?_
  refine H_env (ρ':=[(5,_),(4,_),(2,_)]) ⟨rfl,rfl,rfl,trivial⟩ ?_
  refine H_world (kp [yy,yy,yy,yy,yy,yy,nn,yy] [_,_,_,_,_,_,_] rfl) ?_
  refine H_blk ?_
  refine H_seq ?_
  refine H_drawB (m:=[yy,nn,yy,yy,yy,yy,nn]) (Xs:=[_,_,_,_,_]) (fuel:=9) (l:=#[false,false,false,false,false,false,false,false,false]) mixed rfl rfl rfl ?_
  refine HA_take (i:=0) bp rfl rfl rfl rfl (by kernel_rfl) rfl (V_move rfl) (kp [yy,nn,yy,yy,yy,yy,nn] [_,_,_,_,_] rfl) ?_
  refine HA_take (i:=1) bp rfl rfl rfl rfl (by kernel_rfl) rfl (V_loadA (i:=0) (us:=[]) (cs:=[_,_,_,_,_,_,_,_,_,_,_,_,_,_,_,_]) (ts:=[]) rfl Tryz.isAgg36 Tryz.sizeOf36 rfl (.loc _ _ _) rfl rfl rfl rfl) (kp [yy,nn,yy,yy,yy,yy,nn] [_,_,_,_,_] rfl) ?_
  refine HA_take (i:=2) bp rfl rfl rfl rfl (by kernel_rfl) rfl (V_loadA (i:=0) (us:=[]) (cs:=[_,_,_,_,_,_,_,_,_,_,_,_,_,_,_,_]) (ts:=[]) rfl Tryz.isAgg36 Tryz.sizeOf36 rfl (.loc _ _ _) rfl rfl rfl rfl) (kp [yy,nn,yy,yy,yy,yy,nn] [_,_,_,_,_] rfl) ?_
  refine HA_loud1 (i:=3) (by kernel_rfl) rfl ?_
  refine HO_nilDat kEnt ?_
  refine HO_dup (i:=0) rfl rfl ?_
  refine HO_dup (i:=5) rfl rfl ?_
  refine HO_dup (i:=7) rfl rfl ?_
  refine HO_dup (i:=9) rfl rfl ?_
  refine HO_call (first:=[]) (capt:=[]) (is:=[0,0,0,0]) (R:=[_,_,_,_,_,_,_,_]) rfl rfl rfl rfl rfl Tryz.call27 rfl (goodmsg_spec _ _ _ _ _ _ _ _ _ _ _ _ _ _ _ _ _ _ _ _ _ _ _ _ ?_ ?_ ?_ ?_) ?_
  ·exact hcs.1
  ·exact hcs.2.1
  ·exact hcs.2.2
  ·exact hz_r5.2
  intro y56 hy56
  clear y56 hy56
  refine HA_back rfl (kp [nn,yy,nn,yy,yy,yy,yy,nn] [_,_,_,_,_] rfl) ?_
  refine HA_loud1 (i:=4) (by kernel_rfl) rfl ?_
  refine HO_nilDat kEnt ?_
  refine HO_dup (i:=4) rfl rfl ?_
  refine HO_dup (i:=1) rfl rfl ?_
  refine HO_dup (i:=7) rfl rfl ?_
  refine HO_dup (i:=9) rfl rfl ?_
  refine HO_dup (i:=11) rfl rfl ?_
  refine HO_call (first:=[]) (capt:=[]) (is:=[3,0,0,0,0,0]) (R:=[_,_,_,_,_,_,_,_]) rfl rfl rfl rfl rfl Tryz.call74 rfl (toldmsg_spec _ _ _ _ _ _ _ _ _ _ _ _ _ _ _ _ _ _ _ _ _ _ _ _ _ _ _ _ _ _ _) ?_
  intro y57 hy57
  refine HA_back rfl (kp [nn,nn,nn,nn,nn,nn,nn,yy,yy,yy,yy,yy,nn] [_,_,_,_,_] rfl) ?_
  refine HA_take (i:=5) bp rfl rfl rfl rfl (by kernel_rfl) rfl (V_extract (vs:=[_,_]) rfl rfl) (kp [nn,nn,nn,nn,nn,nn,nn,yy,yy,yy,yy,yy,nn] [_,_,_,_,_] rfl) ?_
  refine HA_take (i:=6) bp rfl rfl rfl rfl (by kernel_rfl) rfl (V_extract (vs:=[_,_]) rfl rfl) (kp [nn,nn,nn,nn,nn,nn,nn,yy,yy,yy,yy,yy,nn] [_,_,_,_,_] rfl) ?_
  refine HA_loud1 (i:=7) (by kernel_rfl) rfl ?_
  refine HO_store (i:=12) (j:=0) (us:=[]) (old:=[_,_,_,_,_,_,_,_,_,_,_,_,_,_,_,_]) (ts:=[]) (cs:=[_,_,_,_,_,_,_,_,_,_,_,_,_,_,_,_]) (R:=[_,_,_,_,_,_,_,_,_,_,_,_]) (new:=[_,_,_,_,_,_,_,_,_,_,_,_,_,_,_,_]) rfl rfl rfl Tryz.sizeOf36 rfl (by simp [Value.oneCell']) rfl rfl rfl rfl rfl rfl ?_
  refine HA_back rfl (kp [nn,nn,nn,nn,nn,nn,nn,nn,yy,yy,yy,yy,yy] [_,_,_,_,_] rfl) ?_
  refine HA_take (i:=8) bp rfl rfl rfl rfl (by kernel_rfl) rfl (V_assign rfl) (kp [nn,nn,nn,nn,nn,nn,nn,nn,yy,yy,yy,yy,yy] [_,_,_,_,_] rfl) ?_
  refine HA_done (by kernel_rfl) ?_
  refine H_env (ρ':=[(3,_),(2,_)]) ⟨rfl,rfl,trivial⟩ ?_
  refine H_world (kp [yy,nn,yy,yy,yy,yy,nn,nn,nn,nn,nn,nn,nn] [_,_,_,_,_] rfl) ?_
  have hx : Ent.readM b = Ent.toldM (Cod.rend c4.2.1 c4.2.2 && Ent.goodMsg ⟨Cod.zag r1.1,Cod.zag r2.1,Cod.zag r3.1,Cod.zag r4.1,Cod.zag r5.1,Cod.zag r6.1,Cod.zag r7.1,Cod.zag r8.1,r9.1,Cod.zag r10.1,[],⟨c4.1.idx,c4.1.term,⟨c4.1.conf.vot,c4.1.conf.lea⟩,c4.1.data⟩⟩) ⟨Cod.zag r1.1,Cod.zag r2.1,Cod.zag r3.1,Cod.zag r4.1,Cod.zag r5.1,Cod.zag r6.1,Cod.zag r7.1,Cod.zag r8.1,r9.1,Cod.zag r10.1,[],⟨c4.1.idx,c4.1.term,⟨c4.1.conf.vot,c4.1.conf.lea⟩,c4.1.data⟩⟩:=(Ent.readM_of (Ent.msgP_7 hr_r1 hr_r2 hr_r3 hr_r4 hr_r5 hr_r6 hr_r7 hr_r8 hr_r9 hr_r10 hc4 h41 h48)).trans (by rw [Snap.eta])
  refine H_ret2 Tryz.results38 (.cell rfl (fun w hA => run_loadVarA (cs:=[_,_,_,_,_,_,_,_,_,_,_,_,_,_,_,_]) (Tryz.isAgg36 w) (Tryz.sizeOf36 w) (Tells.cells (.loc _ _ _) (hA.get (i:=0) rfl)))) (.tmp rfl) (fun w hA => ⟨y57,congrArg Ending.returned ?_,?_,?_⟩)
  ·(rw [hx])
  ·trivial
  ·(rw [hx];exact hA.keep (m:=[nn,yy,yy,yy,yy]) (Y:=[_,_,_,_]) rfl)
 intro h48
 replace h48:=dF h48
 refine H_skip ?_
 refine H_blk ?_
 refine H_seq ?_
 refine H_drawB (m:=[yy,nn,yy,nn]) (Xs:=[_,_]) (fuel:=9) (l:=#[false,false,false,false,false,false,false,false,false]) mixed rfl rfl rfl ?_
 refine HA_take (i:=0) bp rfl rfl rfl rfl (by kernel_rfl) rfl (V_move rfl) (kp [yy,nn,yy,nn] [_,_] rfl) ?_
 refine HA_take (i:=1) bp rfl rfl rfl rfl (by kernel_rfl) rfl (V_loadA (i:=0) (us:=[]) (cs:=[_,_,_,_,_,_,_,_,_,_,_,_,_,_,_,_]) (ts:=[]) rfl Tryz.isAgg36 Tryz.sizeOf36 rfl (.loc _ _ _) rfl rfl rfl rfl) (kp [yy,nn,yy,nn] [_,_] rfl) ?_
 refine HA_take (i:=2) bp rfl rfl rfl rfl (by kernel_rfl) rfl (V_loadA (i:=0) (us:=[]) (cs:=[_,_,_,_,_,_,_,_,_,_,_,_,_,_,_,_]) (ts:=[]) rfl Tryz.isAgg36 Tryz.sizeOf36 rfl (.loc _ _ _) rfl rfl rfl rfl) (kp [yy,nn,yy,nn] [_,_] rfl) ?_
 refine HA_loud1 (i:=3) (by kernel_rfl) rfl ?_
 refine HO_nilDat kEnt ?_
 refine HO_nilDat kInt ?_
 refine HO_nilDat kInt ?_
 refine HO_nilDat kByte ?_
 refine HO_dup (i:=3) rfl rfl ?_
 refine HO_dup (i:=3) rfl rfl ?_
 refine HO_dup (i:=3) rfl rfl ?_
 refine HO_dup (i:=3) rfl rfl ?_
 refine HO_call (first:=[]) (capt:=[]) (is:=[0,0,0,0]) (R:=[_,_,_,_,_,_,_,_]) rfl rfl rfl rfl rfl Tryz.call27 rfl (goodmsg_spec _ _ _ _ _ _ _ _ _ _ _ _ _ _ _ _ _ _ _ _ _ _ _ _ ?_ ?_ ?_ ?_) ?_
 ·(exact Nat.zero_le _)
 ·(exact Nat.zero_le _)
 ·(exact Nat.zero_le _)
 ·exact hz_r5.2
 intro y56 hy56
 clear y56 hy56
 refine HA_back rfl (kp [nn,nn,nn,nn,yy,nn,yy,nn] [_,_] rfl) ?_
 refine HA_loud1 (i:=4) (by kernel_rfl) rfl ?_
 refine HO_nilDat kEnt ?_
 refine HO_nilDat kInt ?_
 refine HO_nilDat kInt ?_
 refine HO_nilDat kByte ?_
 refine HO_dup (i:=10) rfl rfl ?_
 refine HO_dup (i:=4) rfl rfl ?_
 refine HO_dup (i:=4) rfl rfl ?_
 refine HO_dup (i:=4) rfl rfl ?_
 refine HO_dup (i:=4) rfl rfl ?_
 refine HO_call (first:=[]) (capt:=[]) (is:=[9,0,0,0,0,0]) (R:=[_,_,_,_,_,_,_,_,_,_,_]) rfl rfl rfl rfl rfl Tryz.call74 rfl (toldmsg_spec _ _ _ _ _ _ _ _ _ _ _ _ _ _ _ _ _ _ _ _ _ _ _ _ _ _ _ _ _ _ _) ?_
 intro y57 hy57
 refine HA_back rfl (kp [nn,nn,nn,nn,nn,nn,nn,nn,nn,nn,nn,nn,nn,yy,yy,nn] [_,_] rfl) ?_
 refine HA_take (i:=5) bp rfl rfl rfl rfl (by kernel_rfl) rfl (V_extract (vs:=[_,_]) rfl rfl) (kp [nn,nn,nn,nn,nn,nn,nn,nn,nn,nn,nn,nn,nn,yy,yy,nn] [_,_] rfl) ?_
 refine HA_take (i:=6) bp rfl rfl rfl rfl (by kernel_rfl) rfl (V_extract (vs:=[_,_]) rfl rfl) (kp [nn,nn,nn,nn,nn,nn,nn,nn,nn,nn,nn,nn,nn,yy,yy,nn] [_,_] rfl) ?_
 refine HA_loud1 (i:=7) (by kernel_rfl) rfl ?_
 refine HO_store (i:=15) (j:=0) (us:=[]) (old:=[_,_,_,_,_,_,_,_,_,_,_,_,_,_,_,_]) (ts:=[]) (cs:=[_,_,_,_,_,_,_,_,_,_,_,_,_,_,_,_]) (R:=[_,_,_,_,_,_,_,_,_,_,_,_,_,_,_]) (new:=[_,_,_,_,_,_,_,_,_,_,_,_,_,_,_,_]) rfl rfl rfl Tryz.sizeOf36 rfl (by simp [Value.oneCell']) rfl rfl rfl rfl rfl rfl ?_
 refine HA_back rfl (kp [nn,nn,nn,nn,nn,nn,nn,nn,nn,nn,nn,nn,nn,nn,yy,yy] [_,_] rfl) ?_
 refine HA_take (i:=8) bp rfl rfl rfl rfl (by kernel_rfl) rfl (V_assign rfl) (kp [nn,nn,nn,nn,nn,nn,nn,nn,nn,nn,nn,nn,nn,nn,yy,yy] [_,_] rfl) ?_
 refine HA_done (by kernel_rfl) ?_
 refine H_env (ρ':=[(3,_),(2,_)]) ⟨rfl,rfl,trivial⟩ ?_
 refine H_world (kp [yy,nn,yy,yy,yy,yy,nn,nn,nn,nn,nn,nn,nn,nn,nn,nn] [_,_,_,_,_] rfl) ?_
 have hx : Ent.readM b = Ent.toldM (Cod.rend r10.2.1 r10.2.2 && Ent.goodMsg ⟨Cod.zag r1.1,Cod.zag r2.1,Cod.zag r3.1,Cod.zag r4.1,Cod.zag r5.1,Cod.zag r6.1,Cod.zag r7.1,Cod.zag r8.1,r9.1,Cod.zag r10.1,[],⟨0,0,⟨[],[]⟩,[]⟩⟩) ⟨Cod.zag r1.1,Cod.zag r2.1,Cod.zag r3.1,Cod.zag r4.1,Cod.zag r5.1,Cod.zag r6.1,Cod.zag r7.1,Cod.zag r8.1,r9.1,Cod.zag r10.1,[],⟨0,0,⟨[],[]⟩,[]⟩⟩:=(Ent.readM_of (Ent.msgP_0 hr_r1 hr_r2 hr_r3 hr_r4 hr_r5 hr_r6 hr_r7 hr_r8 hr_r9 hr_r10 h41 h48)).trans rfl
 refine H_ret2 Tryz.results38 (.cell rfl (fun w hA => run_loadVarA (cs:=[_,_,_,_,_,_,_,_,_,_,_,_,_,_,_,_]) (Tryz.isAgg36 w) (Tryz.sizeOf36 w) (Tells.cells (.loc _ _ _) (hA.get (i:=0) rfl)))) (.tmp rfl) (fun w hA => ⟨y57,congrArg Ending.returned ?_,?_,?_⟩)
 ·(rw [hx])
 ·trivial
 ·(rw [hx];exact hA.keep (m:=[nn,yy,yy,yy,yy]) (Y:=[_,_,_,_]) rfl)
end Go.Wk
