/- Contracts of the program's functions, each proved by walking its code. -/
import Derived.Test.YtdaphlemhmgncaaGreatKgent4
import Derived.Test.YtdaphlemhmgncaaGreatEnt3
set_option maxRecDepth 100000
set_option linter.unusedVariables false
set_option linter.unusedSimpArgs false
namespace Go.Wk.Fent5
open Go Go.RowKit Go.Proofs Go.Wk
theorem elt70 : Elt Tryz.prog 70 (.agg #[.int .i64 (0),.int .i64 (0),.int .i64 (0),.int .i64 (0),.int .i64 (0),.int .i64 (0),.string (⟨#[]⟩),.string (⟨#[]⟩),.string (⟨#[]⟩),.string (⟨#[]⟩),.int .i64 (0),.slice none 0 0,.slice none 0 0]) 13 168:=Elt.of (by kernel_rfl) (by rfl) (by decide) (by decide)
theorem bd106_0_1_2_3_4_5_6_7_pppppppp {x1 : Option Addr} {x2 : Option Addr} {x3 : Option Addr} {x4 : Option Addr} {x5 : Option Addr} {x6 : Option Addr} {x7 : Option Addr} {x8 : Option Addr} : ∀ w,(Instr.build 106 (List.toArray (List.zip [0,1,2,3,4,5,6,7] [.pointer x1,.pointer x2,.pointer x3,.pointer x4,.pointer x5,.pointer x6,.pointer x7,.pointer x8]))).run Tryz.prog w = .ok (.agg #[.pointer x1,.pointer x2,.pointer x3,.pointer x4,.pointer x5,.pointer x6,.pointer x7,.pointer x8]) w:=fun _ => by kernel_rfl
end Go.Wk.Fent5
namespace Go.Wk
open Go Go.RowKit Go.Proofs Fent5 
theorem itemsent_spec (T : TypeId) (g : Nat) (b : List UInt8) (w : Bool) (a : Option Addr) (c : Nat) (k : Int) (hb : b.length≤100000) (hk : 0≤k∧k≤1000) : Spec Tryz.prog 71 #[.pointer (some ⟨g,0,none⟩),.int .i64 (k),.func (.func 72) #[.pointer (some ⟨g,0,none⟩)] #[]] [.loc g [.slice a (b.length) c,.bool (w)] T,.dat kByte.sl (b) [.slice a (b.length) c]] (β:=(Option Addr × Nat) × (Option Addr × Nat)) (fun y => .slice y.2.1 (((Ent.entsL k (b,w)).1).length) y.2.2) (fun y => True) (fun y => [.loc g [.slice y.1.1 (((Ent.entsL k (b,w)).2.1).length) y.1.2,.bool ((Ent.entsL k (b,w)).2.2)] T,.dat kByte.sl ((Ent.entsL k (b,w)).2.1) [.slice y.1.1 (((Ent.entsL k (b,w)).2.1).length) y.1.2],.dat kEnt.sl ((Ent.entsL k (b,w)).1) [.slice y.2.1 (((Ent.entsL k (b,w)).1).length) y.2.2]]):=by
 refine Spec.enter (vs:=[_,_,_]) Tryz.func71 rfl Tryz.ntmps71 rfl (Nat.le_of_ble_eq_true rfl) (fun w0 ok0 => ?_)
 generalize hM0 : blks _ = M0
 refine SQ (RG rfl (AS rfl (NI [0,1,2] [_,_,_] rfl (SQ (RG rfl (AS rfl (HO_nil (SQ (SQ (RG rfl (MV rfl (NC rfl ?_))))))))))))
 refine FA 0 rfl Tryz.underlying110 rfl Tryz.sizeOf108 (MV rfl (DU 1 rfl (CB [0,0] [_] rfl Tryz.call101 (cCount_spec _ _ _ _ _ _ _ ?_) ?_)))
 ·omega
 intro y13 hy13
 generalize hr_r1 : Cod.cnt k b w = r1
 have hl_r1 : r1.2.1.length≤b.length:=hr_r1 ▸ Cod.cnt_len _ _ _
 refine AS rfl (NI [8,7,0,2] [_,_,_,_] rfl (WD 3 [_,_] rfl (BO (H_own0 kEnt 70 none (H_loop (σ:=Nat × List UInt8 × Bool × List Ent × Option Addr × Nat × Option Addr × Nat) (fun s => Ent.entsP r1.1 r1.2 = (s.2.2.2.1 ++ (Ent.entsP s.1 (s.2.1,s.2.2.1)).1,(Ent.entsP s.1 (s.2.1,s.2.2.1)).2)∧s.2.1.length≤100000∧s.2.2.2.1.length + s.1≤1000) (fun s => [(0,.pointer (some ⟨g,0,none⟩)),(2,.func (.func 72) #[.pointer (some ⟨g,0,none⟩)] #[]),(7,.slice s.2.2.2.2.2.2.1 (s.2.2.2.1.length) s.2.2.2.2.2.2.2),(8,.int .i64 ((s.1 : Int)))]) (fun s => Asn w0 ok0 M0 [.loc g [.slice s.2.2.2.2.1 (s.2.1.length) s.2.2.2.2.2.1,.bool (s.2.2.1)] T,.dat kByte.sl (s.2.1) [.slice s.2.2.2.2.1 (s.2.1.length) s.2.2.2.2.2.1],.own 70 kEnt s.2.2.2.2.2.2.1 s.2.2.2.2.2.2.2 (s.2.2.2.1)]) (fun s => s.1) ⟨r1.1,r1.2.1,r1.2.2,[],y13.1,y13.2,none,0⟩ ?_ ?_ ?_ ?_)))))
 ·exact ⟨by simp,by dsimp only;omega,by dsimp only [List.length_nil];have:=Cod.cnt_le hk.1 b w;rw [hr_r1] at this;omega⟩
 ·exact ⟨rfl,rfl,rfl,rfl,trivial⟩
 ·intro w hA
  exact hA.only (is:=[0,1,0]) (Z:=[]) rfl
 ·rintro ⟨m,bs,wr,l,p,q,p2,q2⟩ hI
  (try dsimp only at hI ⊢)
  have hbs:=hI.2.1
  refine SQ (SQ (RG rfl (MV rfl (BN rfl bin_gtr (MV rfl (HO_split (d:=16) rfl ?_ ?_))))))
  ·intro h16
   replace h16:=dT h16
   refine MV rfl (NC rfl (FA 0 rfl Tryz.underlying110 rfl Tryz.sizeOf108 (FA 1 rfl Tryz.underlying108 rfl Tryz.sizeOf4 (LD 0 1 rfl Tryz.isAgg4 (NT rfl (PT rfl (NI [23,0,2,7,8] [_,_,_,_,_] rfl (H_cond rfl ?_ ?_))))))))
   ·intro h23
    replace h23:=nT h23
    refine SK (SQ (BO ?_))
    have hwr : wr = false:=by simpa using h23
    obtain ⟨m,rfl⟩ : ∃ q,m = q + 1:=⟨m - 1,by omega⟩
    refine RG rfl (MV rfl (MV rfl (DU 1 rfl (HO_call (first:=[_]) (capt:=[]) (is:=[0,0]) (R:=[_,_]) rfl rfl rfl rfl rfl Tryz.call72 rfl (creadent_spec _ _ _ _ _ _ ?_) ?_))))
    ·omega
    intro y28 hy28
    have hel:=Ent.entP_len (bs,wr)
    have heI:=Ent.entP_I (bs,wr) (by dsimp only;omega)
    obtain ⟨e,he⟩ : ∃ x,Ent.entP (bs,wr) = x:=⟨_,rfl⟩
    rw [he] at hel heI ⊢
    dsimp only at hel
    refine HO_buildSlice (kd:=kEnt) (xo:=[_]) (vs:=[_]) (cs:=[_,_,_,_,_,_,_,_,_,_,_,_,_]) (xs:=[e.1]) rfl rfl rfl rfl Tryz.underlying28 elt70 rfl rfl rfl (by decide) (by decide) (by simp [Value.cells]) rfl (fun ok w hA => ⟨_,_,rfl,⟨heI,⟨⟨_,_⟩,⟨_,_⟩⟩,rfl,(List.forall_mem_cons.2 ⟨hA _ (List.mem_of_getElem? (i:=2) rfl),(List.forall_mem_cons.2 ⟨hA _ (List.mem_of_getElem? (i:=3) rfl),(by simp)⟩)⟩)⟩,rfl⟩) ?_
    intro g29
    refine HO_append (i:=6) (R:=[_,_,_,_,_,_]) rfl rfl rfl rfl rfl Tryz.underlying28 elt70 rfl rfl (SrcOk.own (j:=0) Tryz.underlying28 rfl rfl) ?_ ?_
    ·(simp only [List.length_append,List.length_cons,List.length_nil];omega)
    intro a30 c30
    refine AS rfl (NI [7,0,2,8] [_,_,_,_] rfl (WD 13 [_,_,_] rfl (BD (RG rfl (MV rfl (BN rfl (bin_sub ?_ ?_) ?_))))))
    ·omega
    ·omega
    refine AS rfl (NI [8,7,0,2] [_,_,_,_] rfl (H_inv (fun a w hf hA => ⟨⟨m,e.2.1,e.2.2,l ++ [e.1],y28.1.1,y28.1.2,a30,c30⟩,?_,?_,hf.sub ?_,?_⟩)))
    ·exact ⟨Ent.ents_more hI.1 hwr he,by dsimp only;omega,by dsimp only;simp only [List.length_append,List.length_cons,List.length_nil];omega⟩
    ·(try dsimp only);omega
    ·exact ⟨rfl,rfl,rfl,congrArg (fun z => some (Value.int .i64 z)) (by dsimp only;omega),trivial⟩
    ·exact hA.only (is:=[0,1,0]) (Z:=[]) rfl
   intro h23
   replace h23:=nF h23
   refine H_exit rfl (SQ ?_)
   have hps : Ent.entsP r1.1 r1.2 = (l,(bs,wr)):=by first | exact Ent.ents0 hI.1 (by omega) | exact Ent.entsW hI.1 h23
   have hlp : Ent.entsL k (b,w) = (l,(bs,wr)):=Ent.entsL_of hr_r1 hps
   refine RG rfl (MV rfl (AS rfl (NI [6] [_] rfl (H_freeze (i:=2) (R:=[_,_]) rfl (keepM hM0 ⟨(fun _ h => ⟨_,List.mem_of_getElem? (i:=0) rfl,h⟩),(fun _ h => nomatch h),trivial⟩) (R1 Tryz.results71 ((p,q),(p2,q2)) rfl (fun w hA => ⟨?_,?_,?_⟩))))))
   ·(rw [hlp])
   ·trivial
   ·(rw [hlp];exact hA.only (is:=[0,1,0]) (Z:=[]) rfl)
  intro h16
  replace h16:=dF h16
  refine NO rfl (NO rfl (NO rfl (NO rfl (NO rfl (NO rfl (PF rfl (NI [23,0,2,7,8] [_,_,_,_,_] rfl (CF rfl (H_exit rfl (SQ ?_))))))))))
  have hps : Ent.entsP r1.1 r1.2 = (l,(bs,wr)):=by first | exact Ent.ents0 hI.1 (by omega) | exact Ent.entsW hI.1 h23
  have hlp : Ent.entsL k (b,w) = (l,(bs,wr)):=Ent.entsL_of hr_r1 hps
  refine RG rfl (MV rfl (AS rfl (NI [6] [_] rfl (H_freeze (i:=2) (R:=[_,_]) rfl (keepM hM0 ⟨(fun _ h => ⟨_,List.mem_of_getElem? (i:=0) rfl,h⟩),(fun _ h => nomatch h),trivial⟩) (R1 Tryz.results71 ((p,q),(p2,q2)) rfl (fun w hA => ⟨?_,?_,?_⟩))))))
  ·(rw [hlp])
  ·trivial
  ·(rw [hlp];exact hA.only (is:=[0,1,0]) (Z:=[]) rfl)
theorem toldmsg_spec (T : TypeId) (g : Nat) (b : List UInt8) (w may : Bool) (a : Option Addr) (c : Nat) (mk mf mt me mi ml mc mr : Int) (rj : Bool) (hi : Int) (es : List Ent) (a9 : Option Addr) (c9 : Nat) (ix te : Int) (vo le : List Int) (a1 : Option Addr) (c1 : Nat) (a2 : Option Addr) (c2 : Nat) (da : List UInt8) (a3 : Option Addr) (c3 : Nat)  : Spec Tryz.prog 74 #[.pointer (some ⟨g,0,none⟩),.agg #[.int .i64 (mk),.int .i64 (mf),.int .i64 (mt),.int .i64 (me),.int .i64 (mi),.int .i64 (ml),.int .i64 (mc),.int .i64 (mr),.bool (rj),.int .i64 (hi),.slice a9 (es.length) c9,.int .i64 (ix),.int .i64 (te),.slice a1 (vo.length) c1,.slice a2 (le.length) c2,.slice a3 (da.length) c3],.bool (may)] [.loc g [.slice a (b.length) c,.bool (w)] T,.dat kByte.sl (b) [.slice a (b.length) c],.dat kEnt.sl (es) [.slice a9 (es.length) c9],.dat kInt.sl (vo) [.slice a1 (vo.length) c1],.dat kInt.sl (le) [.slice a2 (le.length) c2],.dat kByte.sl (da) [.slice a3 (da.length) c3]] (β:=(Option Addr × Nat) × (Option Addr × Nat) × (Option Addr × Nat) × (Option Addr × Nat)) (fun y => .tuple #[.agg #[.int .i64 ((Ent.toldM (Cod.rend b w && may) ⟨mk,mf,mt,me,mi,ml,mc,mr,rj,hi,es,⟨ix,te,⟨vo,le⟩,da⟩⟩).1.kind),.int .i64 ((Ent.toldM (Cod.rend b w && may) ⟨mk,mf,mt,me,mi,ml,mc,mr,rj,hi,es,⟨ix,te,⟨vo,le⟩,da⟩⟩).1.frm),.int .i64 ((Ent.toldM (Cod.rend b w && may) ⟨mk,mf,mt,me,mi,ml,mc,mr,rj,hi,es,⟨ix,te,⟨vo,le⟩,da⟩⟩).1.to),.int .i64 ((Ent.toldM (Cod.rend b w && may) ⟨mk,mf,mt,me,mi,ml,mc,mr,rj,hi,es,⟨ix,te,⟨vo,le⟩,da⟩⟩).1.term),.int .i64 ((Ent.toldM (Cod.rend b w && may) ⟨mk,mf,mt,me,mi,ml,mc,mr,rj,hi,es,⟨ix,te,⟨vo,le⟩,da⟩⟩).1.idx),.int .i64 ((Ent.toldM (Cod.rend b w && may) ⟨mk,mf,mt,me,mi,ml,mc,mr,rj,hi,es,⟨ix,te,⟨vo,le⟩,da⟩⟩).1.lterm),.int .i64 ((Ent.toldM (Cod.rend b w && may) ⟨mk,mf,mt,me,mi,ml,mc,mr,rj,hi,es,⟨ix,te,⟨vo,le⟩,da⟩⟩).1.commit),.int .i64 ((Ent.toldM (Cod.rend b w && may) ⟨mk,mf,mt,me,mi,ml,mc,mr,rj,hi,es,⟨ix,te,⟨vo,le⟩,da⟩⟩).1.round),.bool ((Ent.toldM (Cod.rend b w && may) ⟨mk,mf,mt,me,mi,ml,mc,mr,rj,hi,es,⟨ix,te,⟨vo,le⟩,da⟩⟩).1.rej),.int .i64 ((Ent.toldM (Cod.rend b w && may) ⟨mk,mf,mt,me,mi,ml,mc,mr,rj,hi,es,⟨ix,te,⟨vo,le⟩,da⟩⟩).1.hint),.slice y.1.1 (((Ent.toldM (Cod.rend b w && may) ⟨mk,mf,mt,me,mi,ml,mc,mr,rj,hi,es,⟨ix,te,⟨vo,le⟩,da⟩⟩).1.ents).length) y.1.2,.int .i64 ((Ent.toldM (Cod.rend b w && may) ⟨mk,mf,mt,me,mi,ml,mc,mr,rj,hi,es,⟨ix,te,⟨vo,le⟩,da⟩⟩).1.snap.idx),.int .i64 ((Ent.toldM (Cod.rend b w && may) ⟨mk,mf,mt,me,mi,ml,mc,mr,rj,hi,es,⟨ix,te,⟨vo,le⟩,da⟩⟩).1.snap.term),.slice y.2.1.1 (((Ent.toldM (Cod.rend b w && may) ⟨mk,mf,mt,me,mi,ml,mc,mr,rj,hi,es,⟨ix,te,⟨vo,le⟩,da⟩⟩).1.snap.conf.vot).length) y.2.1.2,.slice y.2.2.1.1 (((Ent.toldM (Cod.rend b w && may) ⟨mk,mf,mt,me,mi,ml,mc,mr,rj,hi,es,⟨ix,te,⟨vo,le⟩,da⟩⟩).1.snap.conf.lea).length) y.2.2.1.2,.slice y.2.2.2.1 (((Ent.toldM (Cod.rend b w && may) ⟨mk,mf,mt,me,mi,ml,mc,mr,rj,hi,es,⟨ix,te,⟨vo,le⟩,da⟩⟩).1.snap.data).length) y.2.2.2.2],.int .i64 ((Ent.toldM (Cod.rend b w && may) ⟨mk,mf,mt,me,mi,ml,mc,mr,rj,hi,es,⟨ix,te,⟨vo,le⟩,da⟩⟩).2)]) (fun y => True) (fun y => [.loc g [.slice a (b.length) c,.bool (w)] T,.dat kEnt.sl ((Ent.toldM (Cod.rend b w && may) ⟨mk,mf,mt,me,mi,ml,mc,mr,rj,hi,es,⟨ix,te,⟨vo,le⟩,da⟩⟩).1.ents) [.slice y.1.1 (((Ent.toldM (Cod.rend b w && may) ⟨mk,mf,mt,me,mi,ml,mc,mr,rj,hi,es,⟨ix,te,⟨vo,le⟩,da⟩⟩).1.ents).length) y.1.2],.dat kInt.sl ((Ent.toldM (Cod.rend b w && may) ⟨mk,mf,mt,me,mi,ml,mc,mr,rj,hi,es,⟨ix,te,⟨vo,le⟩,da⟩⟩).1.snap.conf.vot) [.slice y.2.1.1 (((Ent.toldM (Cod.rend b w && may) ⟨mk,mf,mt,me,mi,ml,mc,mr,rj,hi,es,⟨ix,te,⟨vo,le⟩,da⟩⟩).1.snap.conf.vot).length) y.2.1.2],.dat kInt.sl ((Ent.toldM (Cod.rend b w && may) ⟨mk,mf,mt,me,mi,ml,mc,mr,rj,hi,es,⟨ix,te,⟨vo,le⟩,da⟩⟩).1.snap.conf.lea) [.slice y.2.2.1.1 (((Ent.toldM (Cod.rend b w && may) ⟨mk,mf,mt,me,mi,ml,mc,mr,rj,hi,es,⟨ix,te,⟨vo,le⟩,da⟩⟩).1.snap.conf.lea).length) y.2.2.1.2],.dat kByte.sl ((Ent.toldM (Cod.rend b w && may) ⟨mk,mf,mt,me,mi,ml,mc,mr,rj,hi,es,⟨ix,te,⟨vo,le⟩,da⟩⟩).1.snap.data) [.slice y.2.2.2.1 (((Ent.toldM (Cod.rend b w && may) ⟨mk,mf,mt,me,mi,ml,mc,mr,rj,hi,es,⟨ix,te,⟨vo,le⟩,da⟩⟩).1.snap.data).length) y.2.2.2.2]]):=by
 refine Spec.enter (vs:=[_,_,_]) Tryz.func74 rfl Tryz.ntmps74 rfl (Nat.le_of_ble_eq_true rfl) (fun w0 ok0 => ?_)
 generalize hM0 : blks _ = M0
 refine H_len_le (i:=2) rfl ?_
 intro hlen2
 refine H_len_le (i:=3) rfl ?_
 intro hlen3
 refine H_len_le (i:=4) rfl ?_
 intro hlen4
 refine SQ (RG rfl (BX [_,_,_,_,_,_,_,_,_,_,_,_,_,_,_,_] rfl ?_))
 intro g4
 refine AO [_,_,_,_,_,_,_,_,_,_,_,_,_,_,_,_] Tryz.zeroValue36 rfl ?_
 intro g6
 refine AS rfl (NI [6,4,0,2] [_,_,_,_] rfl (SQ (SQ (RG rfl (MV rfl (NC rfl (FA 0 rfl Tryz.underlying110 rfl Tryz.sizeOf108 (DU 3 rfl (CB [2,0] [_,_,_,_,_,_,_] rfl Tryz.call106 (cEnd_spec _ _ _ _ _ _) ?_)))))))))
 intro y12 hy12
 clear y12 hy12
 refine NT rfl (MV rfl (HO_split (d:=14) rfl ?_ ?_))
 ·intro h14
  replace h14:=nT h14
  refine NO rfl (NO rfl (PT rfl (NI [17,6,4] [_,_,_] rfl (CT rfl (SQ (RG rfl (AO [_,_,_,_,_,_,_,_,_,_,_,_,_,_,_,_] Tryz.zeroValue36 rfl ?_)))))))
  intro g8
  refine NI [8,6] [_,_] rfl (WD 23 [_,_,_,_] rfl (SQ (RG rfl (LA 0 [] [_,_,_,_,_,_,_,_,_,_,_,_,_,_,_,_] [] rfl (.loc _ _ _) Tryz.isAgg36 Tryz.sizeOf36 rfl (SR 2 [] [_,_,_,_,_,_,_,_,_,_,_,_,_,_,_,_] [] [_,_,_,_,_,_,_,_,_,_,_,_,_,_,_,_] [_,_,_] [_,_,_,_,_,_,_,_,_,_,_,_,_,_,_,_] Tryz.sizeOf36 rfl (AS rfl (NI [7,6] [_,_] rfl (WD 13 [_,_,_] rfl (H_nilDat kEnt (H_nilDat kInt (H_nilDat kInt ?_)))))))))))
  refine H_nilDat kByte ?_
  have hto:=Ent.toldM_no (m:=may) (e:=⟨mk,mf,mt,me,mi,ml,mc,mr,rj,hi,es,⟨ix,te,⟨vo,le⟩,da⟩⟩) (.inl h14)
  refine H_ret2 Tryz.results74 (.cell rfl (fun w hA => run_loadVarA (cs:=[_,_,_,_,_,_,_,_,_,_,_,_,_,_,_,_]) (Tryz.isAgg36 w) (Tryz.sizeOf36 w) (Tells.cells (.loc _ _ _) (hA.get (i:=4) rfl)))) (.tmp rfl) (fun w hA => ⟨((none,0),(none,0),(none,0),(none,0)),congrArg Ending.returned ?_,?_,?_⟩)
  ·(rw [hto] <;> rfl)
  ·trivial
  ·(first | (rw [hto];exact hA.only (is:=[1,0,0,0,0]) (Z:=[_,_]) rfl) | exact hA.only (is:=[1,0,0,0,0]) (Z:=[_,_]) rfl)
 intro h14
 replace h14:=nF h14
 refine MV rfl (NT rfl (PF rfl (NI [17,6,4] [_,_,_] rfl (H_cond rfl ?_ ?_))))
 ·intro h17
  replace h17:=nT h17
  refine SQ (RG rfl (AO [_,_,_,_,_,_,_,_,_,_,_,_,_,_,_,_] Tryz.zeroValue36 rfl ?_))
  intro g8
  refine NI [8,6] [_,_] rfl (WD 23 [_,_,_,_] rfl (SQ (RG rfl (LA 0 [] [_,_,_,_,_,_,_,_,_,_,_,_,_,_,_,_] [] rfl (.loc _ _ _) Tryz.isAgg36 Tryz.sizeOf36 rfl (SR 2 [] [_,_,_,_,_,_,_,_,_,_,_,_,_,_,_,_] [] [_,_,_,_,_,_,_,_,_,_,_,_,_,_,_,_] [_,_,_] [_,_,_,_,_,_,_,_,_,_,_,_,_,_,_,_] Tryz.sizeOf36 rfl (AS rfl (NI [7,6] [_,_] rfl (WD 13 [_,_,_] rfl (H_nilDat kEnt (H_nilDat kInt (H_nilDat kInt ?_)))))))))))
  refine H_nilDat kByte ?_
  have hto:=Ent.toldM_no (r:=Cod.rend b w) (e:=⟨mk,mf,mt,me,mi,ml,mc,mr,rj,hi,es,⟨ix,te,⟨vo,le⟩,da⟩⟩) (.inr h17)
  refine H_ret2 Tryz.results74 (.cell rfl (fun w hA => run_loadVarA (cs:=[_,_,_,_,_,_,_,_,_,_,_,_,_,_,_,_]) (Tryz.isAgg36 w) (Tryz.sizeOf36 w) (Tells.cells (.loc _ _ _) (hA.get (i:=4) rfl)))) (.tmp rfl) (fun w hA => ⟨((none,0),(none,0),(none,0),(none,0)),congrArg Ending.returned ?_,?_,?_⟩)
  ·(rw [hto] <;> rfl)
  ·trivial
  ·(first | (rw [hto];exact hA.only (is:=[1,0,0,0,0]) (Z:=[_,_]) rfl) | exact hA.only (is:=[1,0,0,0,0]) (Z:=[_,_]) rfl)
 intro h17
 replace h17:=nF h17
 refine SK (SQ (RG rfl (LA 2 [] [_,_,_,_,_,_,_,_,_,_,_,_,_,_,_,_] [] rfl (.loc _ _ _) Tryz.isAgg36 Tryz.sizeOf36 rfl (SR 1 [] [_,_,_,_,_,_,_,_,_,_,_,_,_,_,_,_] [] [_,_,_,_,_,_,_,_,_,_,_,_,_,_,_,_] [_,_,_,_,_,_,_] [_,_,_,_,_,_,_,_,_,_,_,_,_,_,_,_] Tryz.sizeOf36 rfl (AS rfl (NI [7,6] [_,_] rfl (WD 251 [_,_,_,_,_,_,_] rfl ?_)))))))
 have hto:=Ent.toldM_yes (e:=⟨mk,mf,mt,me,mi,ml,mc,mr,rj,hi,es,⟨ix,te,⟨vo,le⟩,da⟩⟩) h14 h17
 refine H_ret2 Tryz.results74 (.cell rfl (fun w hA => run_loadVarA (cs:=[_,_,_,_,_,_,_,_,_,_,_,_,_,_,_,_]) (Tryz.isAgg36 w) (Tryz.sizeOf36 w) (Tells.cells (.loc _ _ _) (hA.get (i:=0) rfl)))) (.tmp rfl) (fun w hA => ⟨((a9,c9),(a1,c1),(a2,c2),(a3,c3)),congrArg Ending.returned ?_,?_,?_⟩)
 ·(rw [hto] <;> rfl)
 ·trivial
 ·(first | (rw [hto];exact hA.keep (m:=[nn,yy,nn,yy,yy,yy,yy]) (Y:=[_,_,_,_,_]) rfl) | exact hA.keep (m:=[nn,yy,nn,yy,yy,yy,yy]) (Y:=[_,_,_,_,_]) rfl)
theorem readmsg_spec (b : List UInt8) (a : Option Addr) (c : Nat) (hb : b.length≤100000) : Spec Tryz.prog 38 #[.slice a (b.length) c] [.dat kByte.sl (b) [.slice a (b.length) c]] (β:=(Option Addr × Nat) × (Option Addr × Nat) × (Option Addr × Nat) × (Option Addr × Nat)) (fun y => .tuple #[.agg #[.int .i64 ((Ent.readM b).1.kind),.int .i64 ((Ent.readM b).1.frm),.int .i64 ((Ent.readM b).1.to),.int .i64 ((Ent.readM b).1.term),.int .i64 ((Ent.readM b).1.idx),.int .i64 ((Ent.readM b).1.lterm),.int .i64 ((Ent.readM b).1.commit),.int .i64 ((Ent.readM b).1.round),.bool ((Ent.readM b).1.rej),.int .i64 ((Ent.readM b).1.hint),.slice y.1.1 (((Ent.readM b).1.ents).length) y.1.2,.int .i64 ((Ent.readM b).1.snap.idx),.int .i64 ((Ent.readM b).1.snap.term),.slice y.2.1.1 (((Ent.readM b).1.snap.conf.vot).length) y.2.1.2,.slice y.2.2.1.1 (((Ent.readM b).1.snap.conf.lea).length) y.2.2.1.2,.slice y.2.2.2.1 (((Ent.readM b).1.snap.data).length) y.2.2.2.2],.int .i64 ((Ent.readM b).2)]) (fun y => True) (fun y => [.dat kEnt.sl ((Ent.readM b).1.ents) [.slice y.1.1 (((Ent.readM b).1.ents).length) y.1.2],.dat kInt.sl ((Ent.readM b).1.snap.conf.vot) [.slice y.2.1.1 (((Ent.readM b).1.snap.conf.vot).length) y.2.1.2],.dat kInt.sl ((Ent.readM b).1.snap.conf.lea) [.slice y.2.2.1.1 (((Ent.readM b).1.snap.conf.lea).length) y.2.2.1.2],.dat kByte.sl ((Ent.readM b).1.snap.data) [.slice y.2.2.2.1 (((Ent.readM b).1.snap.data).length) y.2.2.2.2]]):=by
 refine Spec.enter (vs:=[_]) Tryz.func38 rfl Tryz.ntmps38 rfl (Nat.le_of_ble_eq_true rfl) (fun w0 ok0 => ?_)
 generalize hM0 : blks _ = M0
 have hMn:=@noM _ _ hM0 (by simp [Atom.dat,Atom.elem])
 refine SQ (RG rfl (AO [_,_,_,_,_,_,_,_,_,_,_,_,_,_,_,_] Tryz.zeroValue36 rfl ?_))
 intro g2
 refine AS rfl (NI [2,0] [_,_] rfl (SQ (RG rfl (MV rfl (DU 1 rfl (CB [0] [_,_] rfl Tryz.call68 (over_spec _ _ _) ?_))))))
 intro y9 hy9
 refine AS rfl (NI [4,2] [_,_] rfl (WD 7 [_,_,_] rfl (SQ (RG rfl (AO [_,_,_,_,_,_,_,_,_,_,_,_,_,_,_,_] Tryz.zeroValue36 rfl ?_)))))
 intro g5
 refine HO_nil (SQ (SQ (RG rfl (FA 0 rfl Tryz.underlying36 rfl Tryz.sizeOf3 (FA 1 rfl Tryz.underlying36 rfl Tryz.sizeOf3 (FA 2 rfl Tryz.underlying36 rfl Tryz.sizeOf3 (FA 3 rfl Tryz.underlying36 rfl Tryz.sizeOf3 (FA 4 rfl Tryz.underlying36 rfl Tryz.sizeOf3 (FA 5 rfl Tryz.underlying36 rfl Tryz.sizeOf3 (FA 6 rfl Tryz.underlying36 rfl Tryz.sizeOf3 (FA 7 rfl Tryz.underlying36 rfl Tryz.sizeOf3 (HO_build (xo:=[(0,_),(1,_),(2,_),(3,_),(4,_),(5,_),(6,_),(7,_)]) (vs:=[_,_,_,_,_,_,_,_]) rfl rfl rfl rfl (bd106_0_1_2_3_4_5_6_7_pppppppp) (MV rfl ?_)))))))))))))
 refine NI [19,18,5,4,2] [_,_,_,_,_] rfl (BO (H_rounds 9 (H_rnd (SQ (RG rfl (BN rfl (bin_lit (by decide) (fun _ => rfl)) (HO_nil (SQ (CT rfl (SK (SQ (BO ?_))))))))))))
 refine SQ (RG rfl (HO_indexV (j:=0) (cs:=[_,_,_,_,_,_,_,_]) rfl rfl rfl rfl Tryz.underlying106 Tryz.isAgg105 Tryz.sizeOf105 rfl (by decide) rfl (AS rfl (NI [7,19,18,5,4,2] [_,_,_,_,_,_] rfl (RG rfl (MV rfl (MV rfl (NC rfl (FA 0 rfl Tryz.underlying110 rfl Tryz.sizeOf108 (DU 2 rfl (CB [1,0] [_,_,_] rfl Tryz.call69 (cInt_spec _ _ _ _ _ _) ?_)))))))))))
 intro y26 hy26
 generalize hr_r1 : Cod.rd 0 (Cod.dec b) b false = r1
 have hl_r1 : r1.2.1.length≤b.length:=hr_r1 ▸ Cod.rd_len _ _ _ _
 have hz_r1:=Cod.zag_lo' hr_r1
 refine NC rfl (SR 2 [] [_] [_,_,_,_,_,_,_,_,_,_,_,_,_,_,_] [_] [_,_,_,_] [_,_,_,_,_,_,_,_,_,_,_,_,_,_,_,_] Tryz.sizeOf3 rfl (NI [19,18,5,4,2] [_,_,_,_,_] rfl (WD 23 [_,_,_,_] rfl (BD (RG rfl (BN (r:=.int .i64 (1)) rfl (bin_lit (by decide) (fun _ => rfl)) (MV rfl (NI [19,18,5,4,2] [_,_,_,_,_] rfl (H_rnd (SQ (RG rfl ?_)))))))))))
 refine BN rfl (bin_lit (by decide) (fun _ => rfl)) (HO_nil (SQ (CT rfl (SK (SQ (BO (SQ (RG rfl (HO_indexV (j:=1) (cs:=[_,_,_,_,_,_,_,_]) rfl rfl rfl rfl Tryz.underlying106 Tryz.isAgg105 Tryz.sizeOf105 rfl (by decide) rfl (AS rfl (NI [7,19,18,5,4,2] [_,_,_,_,_,_] rfl (RG rfl ?_))))))))))))
 refine MV rfl (MV rfl (NC rfl (FA 0 rfl Tryz.underlying110 rfl Tryz.sizeOf108 (DU 2 rfl (CB [1,0] [_,_,_] rfl Tryz.call69 (cInt_spec _ _ _ _ _ _) ?_)))))
 intro y26 hy26
 generalize hr_r2 : Cod.rd 0 (Cod.dec r1.2.1) r1.2.1 r1.2.2 = r2
 have hl_r2 : r2.2.1.length≤r1.2.1.length:=hr_r2 ▸ Cod.rd_len _ _ _ _
 have hz_r2:=Cod.zag_lo' hr_r2
 refine NC rfl (SR 2 [_] [_] [_,_,_,_,_,_,_,_,_,_,_,_,_,_] [_] [_,_,_,_] [_,_,_,_,_,_,_,_,_,_,_,_,_,_,_,_] Tryz.sizeOf3 rfl (NI [19,18,5,4,2] [_,_,_,_,_] rfl (WD 23 [_,_,_,_] rfl (BD (RG rfl (BN (r:=.int .i64 (2)) rfl (bin_lit (by decide) (fun _ => rfl)) (MV rfl (NI [19,18,5,4,2] [_,_,_,_,_] rfl (H_rnd (SQ (RG rfl ?_)))))))))))
 refine BN rfl (bin_lit (by decide) (fun _ => rfl)) (HO_nil (SQ (CT rfl (SK (SQ (BO (SQ (RG rfl (HO_indexV (j:=2) (cs:=[_,_,_,_,_,_,_,_]) rfl rfl rfl rfl Tryz.underlying106 Tryz.isAgg105 Tryz.sizeOf105 rfl (by decide) rfl (AS rfl (NI [7,19,18,5,4,2] [_,_,_,_,_,_] rfl (RG rfl ?_))))))))))))
 refine MV rfl (MV rfl (NC rfl (FA 0 rfl Tryz.underlying110 rfl Tryz.sizeOf108 (DU 2 rfl (CB [1,0] [_,_,_] rfl Tryz.call69 (cInt_spec _ _ _ _ _ _) ?_)))))
 intro y26 hy26
 generalize hr_r3 : Cod.rd 0 (Cod.dec r2.2.1) r2.2.1 r2.2.2 = r3
 have hl_r3 : r3.2.1.length≤r2.2.1.length:=hr_r3 ▸ Cod.rd_len _ _ _ _
 have hz_r3:=Cod.zag_lo' hr_r3
 refine NC rfl (SR 2 [_,_] [_] [_,_,_,_,_,_,_,_,_,_,_,_,_] [_] [_,_,_,_] [_,_,_,_,_,_,_,_,_,_,_,_,_,_,_,_] Tryz.sizeOf3 rfl (NI [19,18,5,4,2] [_,_,_,_,_] rfl (WD 23 [_,_,_,_] rfl (BD (RG rfl (BN (r:=.int .i64 (3)) rfl (bin_lit (by decide) (fun _ => rfl)) (MV rfl (NI [19,18,5,4,2] [_,_,_,_,_] rfl (H_rnd (SQ (RG rfl ?_)))))))))))
 refine BN rfl (bin_lit (by decide) (fun _ => rfl)) (HO_nil (SQ (CT rfl (SK (SQ (BO (SQ (RG rfl (HO_indexV (j:=3) (cs:=[_,_,_,_,_,_,_,_]) rfl rfl rfl rfl Tryz.underlying106 Tryz.isAgg105 Tryz.sizeOf105 rfl (by decide) rfl (AS rfl (NI [7,19,18,5,4,2] [_,_,_,_,_,_] rfl (RG rfl ?_))))))))))))
 refine MV rfl (MV rfl (NC rfl (FA 0 rfl Tryz.underlying110 rfl Tryz.sizeOf108 (DU 2 rfl (CB [1,0] [_,_,_] rfl Tryz.call69 (cInt_spec _ _ _ _ _ _) ?_)))))
 intro y26 hy26
 generalize hr_r4 : Cod.rd 0 (Cod.dec r3.2.1) r3.2.1 r3.2.2 = r4
 have hl_r4 : r4.2.1.length≤r3.2.1.length:=hr_r4 ▸ Cod.rd_len _ _ _ _
 have hz_r4:=Cod.zag_lo' hr_r4
 refine NC rfl (SR 2 [_,_,_] [_] [_,_,_,_,_,_,_,_,_,_,_,_] [_] [_,_,_,_] [_,_,_,_,_,_,_,_,_,_,_,_,_,_,_,_] Tryz.sizeOf3 rfl (NI [19,18,5,4,2] [_,_,_,_,_] rfl (WD 23 [_,_,_,_] rfl (BD (RG rfl (BN (r:=.int .i64 (4)) rfl (bin_lit (by decide) (fun _ => rfl)) (MV rfl (NI [19,18,5,4,2] [_,_,_,_,_] rfl (H_rnd (SQ (RG rfl ?_)))))))))))
 refine BN rfl (bin_lit (by decide) (fun _ => rfl)) (HO_nil (SQ (CT rfl (SK (SQ (BO (SQ (RG rfl (HO_indexV (j:=4) (cs:=[_,_,_,_,_,_,_,_]) rfl rfl rfl rfl Tryz.underlying106 Tryz.isAgg105 Tryz.sizeOf105 rfl (by decide) rfl (AS rfl (NI [7,19,18,5,4,2] [_,_,_,_,_,_] rfl (RG rfl ?_))))))))))))
 refine MV rfl (MV rfl (NC rfl (FA 0 rfl Tryz.underlying110 rfl Tryz.sizeOf108 (DU 2 rfl (CB [1,0] [_,_,_] rfl Tryz.call69 (cInt_spec _ _ _ _ _ _) ?_)))))
 intro y26 hy26
 generalize hr_r5 : Cod.rd 0 (Cod.dec r4.2.1) r4.2.1 r4.2.2 = r5
 have hl_r5 : r5.2.1.length≤r4.2.1.length:=hr_r5 ▸ Cod.rd_len _ _ _ _
 have hz_r5:=Cod.zag_lo' hr_r5
 refine NC rfl (SR 2 [_,_,_,_] [_] [_,_,_,_,_,_,_,_,_,_,_] [_] [_,_,_,_] [_,_,_,_,_,_,_,_,_,_,_,_,_,_,_,_] Tryz.sizeOf3 rfl (NI [19,18,5,4,2] [_,_,_,_,_] rfl (WD 23 [_,_,_,_] rfl (BD (RG rfl (BN (r:=.int .i64 (5)) rfl (bin_lit (by decide) (fun _ => rfl)) (MV rfl (NI [19,18,5,4,2] [_,_,_,_,_] rfl (H_rnd (SQ (RG rfl ?_)))))))))))
 refine BN rfl (bin_lit (by decide) (fun _ => rfl)) (HO_nil (SQ (CT rfl (SK (SQ (BO (SQ (RG rfl (HO_indexV (j:=5) (cs:=[_,_,_,_,_,_,_,_]) rfl rfl rfl rfl Tryz.underlying106 Tryz.isAgg105 Tryz.sizeOf105 rfl (by decide) rfl (AS rfl (NI [7,19,18,5,4,2] [_,_,_,_,_,_] rfl (RG rfl ?_))))))))))))
 refine MV rfl (MV rfl (NC rfl (FA 0 rfl Tryz.underlying110 rfl Tryz.sizeOf108 (DU 2 rfl (CB [1,0] [_,_,_] rfl Tryz.call69 (cInt_spec _ _ _ _ _ _) ?_)))))
 intro y26 hy26
 generalize hr_r6 : Cod.rd 0 (Cod.dec r5.2.1) r5.2.1 r5.2.2 = r6
 have hl_r6 : r6.2.1.length≤r5.2.1.length:=hr_r6 ▸ Cod.rd_len _ _ _ _
 have hz_r6:=Cod.zag_lo' hr_r6
 refine NC rfl (SR 2 [_,_,_,_,_] [_] [_,_,_,_,_,_,_,_,_,_] [_] [_,_,_,_] [_,_,_,_,_,_,_,_,_,_,_,_,_,_,_,_] Tryz.sizeOf3 rfl (NI [19,18,5,4,2] [_,_,_,_,_] rfl (WD 23 [_,_,_,_] rfl (BD (RG rfl (BN (r:=.int .i64 (6)) rfl (bin_lit (by decide) (fun _ => rfl)) (MV rfl (NI [19,18,5,4,2] [_,_,_,_,_] rfl (H_rnd (SQ (RG rfl ?_)))))))))))
 refine BN rfl (bin_lit (by decide) (fun _ => rfl)) (HO_nil (SQ (CT rfl (SK (SQ (BO (SQ (RG rfl (HO_indexV (j:=6) (cs:=[_,_,_,_,_,_,_,_]) rfl rfl rfl rfl Tryz.underlying106 Tryz.isAgg105 Tryz.sizeOf105 rfl (by decide) rfl (AS rfl (NI [7,19,18,5,4,2] [_,_,_,_,_,_] rfl (RG rfl ?_))))))))))))
 refine MV rfl (MV rfl (NC rfl (FA 0 rfl Tryz.underlying110 rfl Tryz.sizeOf108 (DU 2 rfl (CB [1,0] [_,_,_] rfl Tryz.call69 (cInt_spec _ _ _ _ _ _) ?_)))))
 intro y26 hy26
 generalize hr_r7 : Cod.rd 0 (Cod.dec r6.2.1) r6.2.1 r6.2.2 = r7
 have hl_r7 : r7.2.1.length≤r6.2.1.length:=hr_r7 ▸ Cod.rd_len _ _ _ _
 have hz_r7:=Cod.zag_lo' hr_r7
 refine NC rfl (SR 2 [_,_,_,_,_,_] [_] [_,_,_,_,_,_,_,_,_] [_] [_,_,_,_] [_,_,_,_,_,_,_,_,_,_,_,_,_,_,_,_] Tryz.sizeOf3 rfl (NI [19,18,5,4,2] [_,_,_,_,_] rfl (WD 23 [_,_,_,_] rfl (BD (RG rfl (BN (r:=.int .i64 (7)) rfl (bin_lit (by decide) (fun _ => rfl)) (MV rfl (NI [19,18,5,4,2] [_,_,_,_,_] rfl (H_rnd (SQ (RG rfl ?_)))))))))))
 refine BN rfl (bin_lit (by decide) (fun _ => rfl)) (HO_nil (SQ (CT rfl (SK (SQ (BO (SQ (RG rfl (HO_indexV (j:=7) (cs:=[_,_,_,_,_,_,_,_]) rfl rfl rfl rfl Tryz.underlying106 Tryz.isAgg105 Tryz.sizeOf105 rfl (by decide) rfl (AS rfl (NI [7,19,18,5,4,2] [_,_,_,_,_,_] rfl (RG rfl ?_))))))))))))
 refine MV rfl (MV rfl (NC rfl (FA 0 rfl Tryz.underlying110 rfl Tryz.sizeOf108 (DU 2 rfl (CB [1,0] [_,_,_] rfl Tryz.call69 (cInt_spec _ _ _ _ _ _) ?_)))))
 intro y26 hy26
 generalize hr_r8 : Cod.rd 0 (Cod.dec r7.2.1) r7.2.1 r7.2.2 = r8
 have hl_r8 : r8.2.1.length≤r7.2.1.length:=hr_r8 ▸ Cod.rd_len _ _ _ _
 have hz_r8:=Cod.zag_lo' hr_r8
 refine NC rfl (SR 2 [_,_,_,_,_,_,_] [_] [_,_,_,_,_,_,_,_] [_] [_,_,_,_] [_,_,_,_,_,_,_,_,_,_,_,_,_,_,_,_] Tryz.sizeOf3 rfl (NI [19,18,5,4,2] [_,_,_,_,_] rfl (WD 23 [_,_,_,_] rfl (BD (RG rfl (BN (r:=.int .i64 (8)) rfl (bin_lit (by decide) (fun _ => rfl)) (MV rfl (NI [19,18,5,4,2] [_,_,_,_,_] rfl (H_rnd (SQ (RG rfl ?_)))))))))))
 refine BN rfl (bin_lit (by decide) (fun _ => rfl)) (HO_nil (SQ (CF rfl (H_exit rfl (SQ (RG rfl (MV rfl (NC rfl (FA 0 rfl Tryz.underlying110 rfl Tryz.sizeOf108 (DU 2 rfl (CB [1,0] [_,_,_] rfl Tryz.call70 (cBool_spec _ _ _ _ _ _) ?_)))))))))))
 intro y32 hy32
 generalize hr_r9 : Cod.rd false (Cod.decB r8.2.1) r8.2.1 r8.2.2 = r9
 have hl_r9 : r9.2.1.length≤r8.2.1.length:=hr_r9 ▸ Cod.rd_len _ _ _ _
 refine FA 8 rfl Tryz.underlying36 rfl Tryz.sizeOf4 (SR 2 [_,_,_,_,_,_,_,_] [_] [_,_,_,_,_,_,_] [_] [_,_,_,_] [_,_,_,_,_,_,_,_,_,_,_,_,_,_,_,_] Tryz.sizeOf4 rfl (NI [5,4,2] [_,_,_] rfl (WD 23 [_,_,_,_] rfl (SQ (RG rfl (MV rfl (NC rfl (FA 0 rfl Tryz.underlying110 rfl Tryz.sizeOf108 (DU 2 rfl (CB [1,0] [_,_,_] rfl Tryz.call69 (cInt_spec _ _ _ _ _ _) ?_))))))))))
 intro y37 hy37
 generalize hr_r10 : Cod.rd 0 (Cod.dec r9.2.1) r9.2.1 r9.2.2 = r10
 have hl_r10 : r10.2.1.length≤r9.2.1.length:=hr_r10 ▸ Cod.rd_len _ _ _ _
 have hz_r10:=Cod.zag_lo' hr_r10
 refine FA 9 rfl Tryz.underlying36 rfl Tryz.sizeOf3 (SR 2 [_,_,_,_,_,_,_,_,_] [_] [_,_,_,_,_,_] [_] [_,_,_,_] [_,_,_,_,_,_,_,_,_,_,_,_,_,_,_,_] Tryz.sizeOf3 rfl (NI [5,4,2] [_,_,_] rfl (WD 23 [_,_,_,_] rfl (SQ (SQ (RG rfl (FA 0 rfl Tryz.underlying36 rfl Tryz.sizeOf3 (LD 0 0 rfl Tryz.isAgg3 (NI [40,5,4,2] [_,_,_,_] rfl (BO (SQ ?_)))))))))))
 refine RG rfl (BN rfl bin_eql (AS rfl (NI [41,40,5,4,2] [_,_,_,_,_] rfl (H_cond rfl ?_ ?_))))
 ·intro h41
  replace h41:=dT h41
  refine RG rfl (MV rfl (MV rfl (HO_makeFunc (vs:=[_]) (us:=[]) rfl rfl rfl rfl (DU 2 rfl (CB [1,0] [_,_,_] rfl Tryz.call71 (itemsent_spec _ _ _ _ _ _ _ ?_ ?_) ?_)))))
  ·omega
  ·(constructor <;> decide)
  intro y46 hy46
  have hcl:=Ent.entsL_len 16 (r10.2.1,r10.2.2)
  obtain ⟨c4,hc4⟩ : ∃ x,Ent.entsL 16 (r10.2.1,r10.2.2) = x:=⟨_,rfl⟩
  rw [hc4] at ⊢
  refine FA 10 rfl Tryz.underlying36 rfl Tryz.sizeOf28 (SR 3 [_,_,_,_,_,_,_,_,_,_] [_] [_,_,_,_,_] [_] [_,_,_,_,_] [_,_,_,_,_,_,_,_,_,_,_,_,_,_,_,_] Tryz.sizeOf28 rfl (NI [5,4,2] [_,_,_] rfl (WD 47 [_,_,_,_,_] rfl (BD (SQ (H_drawB (m:=[yy,nn,yy,yy,nn]) (Xs:=[_,_,_]) (fuel:=9) (l:=#[false,false,false,false,false,false,false,false,false]) mixed rfl rfl rfl (TK 0 13 [_,_,_] rfl (by kernel_rfl) (V_move rfl) (TK 1 13 [_,_,_] rfl (by kernel_rfl) (V_loadA (i:=0) (us:=[]) (cs:=[_,_,_,_,_,_,_,_,_,_,_,_,_,_,_,_]) (ts:=[]) rfl Tryz.isAgg36 Tryz.sizeOf36 rfl (.loc _ _ _) rfl rfl rfl rfl) (TK 2 13 [_,_,_] rfl (by kernel_rfl) (V_loadA (i:=0) (us:=[]) (cs:=[_,_,_,_,_,_,_,_,_,_,_,_,_,_,_,_]) (ts:=[]) rfl Tryz.isAgg36 Tryz.sizeOf36 rfl (.loc _ _ _) rfl rfl rfl rfl) (LO 3 (by kernel_rfl) rfl (HO_nilDat kInt (HO_nilDat kInt ?_))))))))))))
  refine HO_nilDat kByte (DU 6 rfl (DU 3 rfl (DU 3 rfl (DU 3 rfl (CB [0,0,0,0] [_,_,_,_,_,_,_,_] rfl Tryz.call27 (goodmsg_spec _ _ _ _ _ _ _ _ _ _ _ _ _ _ _ _ _ _ _ _ _ _ _ _ ?_ ?_ ?_ ?_) ?_)))))
  ·(exact Nat.zero_le _)
  ·(exact Nat.zero_le _)
  ·(exact Nat.zero_le _)
  ·exact hz_r5.2
  intro y56 hy56
  clear y56 hy56
  refine BK 104 [_,_,_] rfl (LO 4 (by kernel_rfl) rfl (HO_nilDat kInt (HO_nilDat kInt (HO_nilDat kByte (DU 8 rfl (DU 10 rfl (DU 4 rfl (DU 4 rfl (DU 4 rfl (CB [7,0,0,0,0,0] [_,_,_,_,_,_,_,_,_,_] rfl Tryz.call74 (toldmsg_spec _ _ _ _ _ _ _ _ _ _ _ _ _ _ _ _ _ _ _ _ _ _ _ _ _ _ _ _ _ _ _) ?_))))))))))
  intro y57 hy57
  refine BK 14336 [_,_,_] rfl (TK 5 14336 [_,_,_] rfl (by kernel_rfl) (V_extract (vs:=[_,_]) rfl rfl) (TK 6 14336 [_,_,_] rfl (by kernel_rfl) (V_extract (vs:=[_,_]) rfl rfl) (LO 7 (by kernel_rfl) rfl (SR 14 [] [_,_,_,_,_,_,_,_,_,_,_,_,_,_,_,_] [] [_,_,_,_,_,_,_,_,_,_,_,_,_,_,_,_] [_,_,_,_,_,_,_,_,_,_,_,_,_,_] [_,_,_,_,_,_,_,_,_,_,_,_,_,_,_,_] Tryz.sizeOf36 rfl (BK 28672 [_,_,_] rfl (TK 8 28672 [_,_,_] rfl (by kernel_rfl) (V_assign rfl) (HA_done (by kernel_rfl) (EV [3,2] [_,_] rfl (WD 61 [_,_,_,_,_] rfl ?_)))))))))
  have hx : Ent.readM b = Ent.toldM (Cod.rend c4.2.1 c4.2.2 && Ent.goodMsg ⟨Cod.zag r1.1,Cod.zag r2.1,Cod.zag r3.1,Cod.zag r4.1,Cod.zag r5.1,Cod.zag r6.1,Cod.zag r7.1,Cod.zag r8.1,r9.1,Cod.zag r10.1,c4.1,⟨0,0,⟨[],[]⟩,[]⟩⟩) ⟨Cod.zag r1.1,Cod.zag r2.1,Cod.zag r3.1,Cod.zag r4.1,Cod.zag r5.1,Cod.zag r6.1,Cod.zag r7.1,Cod.zag r8.1,r9.1,Cod.zag r10.1,c4.1,⟨0,0,⟨[],[]⟩,[]⟩⟩:=(Ent.readM_of (Ent.msgP_5 hr_r1 hr_r2 hr_r3 hr_r4 hr_r5 hr_r6 hr_r7 hr_r8 hr_r9 hr_r10 hc4 h41)).trans rfl
  refine H_ret2 Tryz.results38 (.cell rfl (fun w hA => run_loadVarA (cs:=[_,_,_,_,_,_,_,_,_,_,_,_,_,_,_,_]) (Tryz.isAgg36 w) (Tryz.sizeOf36 w) (Tells.cells (.loc _ _ _) (hA.get (i:=0) rfl)))) (.tmp rfl) (fun w hA => ⟨y57,congrArg Ending.returned ?_,?_,?_⟩)
  ·(rw [hx])
  ·trivial
  ·(rw [hx];exact hA.keep (m:=[nn,yy,yy,yy,yy]) (Y:=[_,_,_,_]) rfl)
 intro h41
 replace h41:=dF h41
 refine SQ (RG rfl (BN rfl bin_eql (AS rfl (NI [48,5,4,2] [_,_,_,_] rfl (H_cond rfl ?_ ?_)))))
 ·intro h48
  replace h48:=dT h48
  refine RG rfl (MV rfl (DU 2 rfl (CB [1,0] [_,_,_] rfl Tryz.call73 (creadsnap_spec _ _ _ _ _ _ ?_) ?_)))
  ·omega
  intro y51 hy51
  have hcl:=Ent.snapP_len (r10.2.1,r10.2.2)
  have hcs:=Ent.snapP_sizes (r10.2.1,r10.2.2) (by dsimp only;omega)
  obtain ⟨c4,hc4⟩ : ∃ x,Ent.snapP (r10.2.1,r10.2.2) = x:=⟨_,rfl⟩
  rw [hc4] at hcs ⊢
  refine FA 11 rfl Tryz.underlying36 rfl Tryz.sizeOf34 (SR 5 [_,_,_,_,_,_,_,_,_,_,_] [_,_,_,_,_] [] [_,_,_,_,_] [_,_,_,_,_,_,_] [_,_,_,_,_,_,_,_,_,_,_,_,_,_,_,_] Tryz.sizeOf34 rfl (NI [5,4,2] [_,_,_] rfl (WD 191 [_,_,_,_,_,_,_] rfl (BD (SQ (H_drawB (m:=[yy,nn,yy,yy,yy,yy,nn]) (Xs:=[_,_,_,_,_]) (fuel:=9) (l:=#[false,false,false,false,false,false,false,false,false]) mixed rfl rfl rfl (TK 0 61 [_,_,_,_,_] rfl (by kernel_rfl) (V_move rfl) (TK 1 61 [_,_,_,_,_] rfl (by kernel_rfl) (V_loadA (i:=0) (us:=[]) (cs:=[_,_,_,_,_,_,_,_,_,_,_,_,_,_,_,_]) (ts:=[]) rfl Tryz.isAgg36 Tryz.sizeOf36 rfl (.loc _ _ _) rfl rfl rfl rfl) (TK 2 61 [_,_,_,_,_] rfl (by kernel_rfl) (V_loadA (i:=0) (us:=[]) (cs:=[_,_,_,_,_,_,_,_,_,_,_,_,_,_,_,_]) (ts:=[]) rfl Tryz.isAgg36 Tryz.sizeOf36 rfl (.loc _ _ _) rfl rfl rfl rfl) (LO 3 (by kernel_rfl) rfl (HO_nilDat kEnt (DU 0 rfl ?_))))))))))))
  refine DU 5 rfl (DU 7 rfl (DU 9 rfl (CB [0,0,0,0] [_,_,_,_,_,_,_,_] rfl Tryz.call27 (goodmsg_spec _ _ _ _ _ _ _ _ _ _ _ _ _ _ _ _ _ _ _ _ _ _ _ _ ?_ ?_ ?_ ?_) ?_)))
  ·exact hcs.1
  ·exact hcs.2.1
  ·exact hcs.2.2
  ·exact hz_r5.2
  intro y56 hy56
  clear y56 hy56
  refine BK 122 [_,_,_,_,_] rfl (LO 4 (by kernel_rfl) rfl (HO_nilDat kEnt (DU 4 rfl (DU 1 rfl (DU 7 rfl (DU 9 rfl (DU 11 rfl (CB [3,0,0,0,0,0] [_,_,_,_,_,_,_,_] rfl Tryz.call74 (toldmsg_spec _ _ _ _ _ _ _ _ _ _ _ _ _ _ _ _ _ _ _ _ _ _ _ _ _ _ _ _ _ _ _) ?_))))))))
  intro y57 hy57
  refine BK 3968 [_,_,_,_,_] rfl (TK 5 3968 [_,_,_,_,_] rfl (by kernel_rfl) (V_extract (vs:=[_,_]) rfl rfl) (TK 6 3968 [_,_,_,_,_] rfl (by kernel_rfl) (V_extract (vs:=[_,_]) rfl rfl) (LO 7 (by kernel_rfl) rfl (SR 12 [] [_,_,_,_,_,_,_,_,_,_,_,_,_,_,_,_] [] [_,_,_,_,_,_,_,_,_,_,_,_,_,_,_,_] [_,_,_,_,_,_,_,_,_,_,_,_] [_,_,_,_,_,_,_,_,_,_,_,_,_,_,_,_] Tryz.sizeOf36 rfl (BK 7936 [_,_,_,_,_] rfl (TK 8 7936 [_,_,_,_,_] rfl (by kernel_rfl) (V_assign rfl) (HA_done (by kernel_rfl) (EV [3,2] [_,_] rfl (WD 61 [_,_,_,_,_] rfl ?_)))))))))
  have hx : Ent.readM b = Ent.toldM (Cod.rend c4.2.1 c4.2.2 && Ent.goodMsg ⟨Cod.zag r1.1,Cod.zag r2.1,Cod.zag r3.1,Cod.zag r4.1,Cod.zag r5.1,Cod.zag r6.1,Cod.zag r7.1,Cod.zag r8.1,r9.1,Cod.zag r10.1,[],⟨c4.1.idx,c4.1.term,⟨c4.1.conf.vot,c4.1.conf.lea⟩,c4.1.data⟩⟩) ⟨Cod.zag r1.1,Cod.zag r2.1,Cod.zag r3.1,Cod.zag r4.1,Cod.zag r5.1,Cod.zag r6.1,Cod.zag r7.1,Cod.zag r8.1,r9.1,Cod.zag r10.1,[],⟨c4.1.idx,c4.1.term,⟨c4.1.conf.vot,c4.1.conf.lea⟩,c4.1.data⟩⟩:=(Ent.readM_of (Ent.msgP_7 hr_r1 hr_r2 hr_r3 hr_r4 hr_r5 hr_r6 hr_r7 hr_r8 hr_r9 hr_r10 hc4 h41 h48)).trans (by rw [Snap.eta])
  refine H_ret2 Tryz.results38 (.cell rfl (fun w hA => run_loadVarA (cs:=[_,_,_,_,_,_,_,_,_,_,_,_,_,_,_,_]) (Tryz.isAgg36 w) (Tryz.sizeOf36 w) (Tells.cells (.loc _ _ _) (hA.get (i:=0) rfl)))) (.tmp rfl) (fun w hA => ⟨y57,congrArg Ending.returned ?_,?_,?_⟩)
  ·(rw [hx])
  ·trivial
  ·(rw [hx];exact hA.keep (m:=[nn,yy,yy,yy,yy]) (Y:=[_,_,_,_]) rfl)
 intro h48
 replace h48:=dF h48
 refine SK (BD (SQ (H_drawB (m:=[yy,nn,yy,nn]) (Xs:=[_,_]) (fuel:=9) (l:=#[false,false,false,false,false,false,false,false,false]) mixed rfl rfl rfl (TK 0 5 [_,_] rfl (by kernel_rfl) (V_move rfl) (TK 1 5 [_,_] rfl (by kernel_rfl) (V_loadA (i:=0) (us:=[]) (cs:=[_,_,_,_,_,_,_,_,_,_,_,_,_,_,_,_]) (ts:=[]) rfl Tryz.isAgg36 Tryz.sizeOf36 rfl (.loc _ _ _) rfl rfl rfl rfl) (TK 2 5 [_,_] rfl (by kernel_rfl) (V_loadA (i:=0) (us:=[]) (cs:=[_,_,_,_,_,_,_,_,_,_,_,_,_,_,_,_]) (ts:=[]) rfl Tryz.isAgg36 Tryz.sizeOf36 rfl (.loc _ _ _) rfl rfl rfl rfl) (LO 3 (by kernel_rfl) rfl (HO_nilDat kEnt (HO_nilDat kInt (HO_nilDat kInt (HO_nilDat kByte (DU 3 rfl (DU 3 rfl ?_)))))))))))))
 refine DU 3 rfl (DU 3 rfl (CB [0,0,0,0] [_,_,_,_,_,_,_,_] rfl Tryz.call27 (goodmsg_spec _ _ _ _ _ _ _ _ _ _ _ _ _ _ _ _ _ _ _ _ _ _ _ _ ?_ ?_ ?_ ?_) ?_))
 ·(exact Nat.zero_le _)
 ·(exact Nat.zero_le _)
 ·(exact Nat.zero_le _)
 ·exact hz_r5.2
 intro y56 hy56
 clear y56 hy56
 refine BK 80 [_,_] rfl (LO 4 (by kernel_rfl) rfl (HO_nilDat kEnt (HO_nilDat kInt (HO_nilDat kInt (HO_nilDat kByte (DU 10 rfl (DU 4 rfl (DU 4 rfl (DU 4 rfl (DU 4 rfl (CB [9,0,0,0,0,0] [_,_,_,_,_,_,_,_,_,_,_] rfl Tryz.call74 (toldmsg_spec _ _ _ _ _ _ _ _ _ _ _ _ _ _ _ _ _ _ _ _ _ _ _ _ _ _ _ _ _ _ _) ?_)))))))))))
 intro y57 hy57
 refine BK 24576 [_,_] rfl (TK 5 24576 [_,_] rfl (by kernel_rfl) (V_extract (vs:=[_,_]) rfl rfl) (TK 6 24576 [_,_] rfl (by kernel_rfl) (V_extract (vs:=[_,_]) rfl rfl) (LO 7 (by kernel_rfl) rfl (SR 15 [] [_,_,_,_,_,_,_,_,_,_,_,_,_,_,_,_] [] [_,_,_,_,_,_,_,_,_,_,_,_,_,_,_,_] [_,_,_,_,_,_,_,_,_,_,_,_,_,_,_] [_,_,_,_,_,_,_,_,_,_,_,_,_,_,_,_] Tryz.sizeOf36 rfl (BK 49152 [_,_] rfl (TK 8 49152 [_,_] rfl (by kernel_rfl) (V_assign rfl) (HA_done (by kernel_rfl) (EV [3,2] [_,_] rfl (WD 61 [_,_,_,_,_] rfl ?_)))))))))
 have hx : Ent.readM b = Ent.toldM (Cod.rend r10.2.1 r10.2.2 && Ent.goodMsg ⟨Cod.zag r1.1,Cod.zag r2.1,Cod.zag r3.1,Cod.zag r4.1,Cod.zag r5.1,Cod.zag r6.1,Cod.zag r7.1,Cod.zag r8.1,r9.1,Cod.zag r10.1,[],⟨0,0,⟨[],[]⟩,[]⟩⟩) ⟨Cod.zag r1.1,Cod.zag r2.1,Cod.zag r3.1,Cod.zag r4.1,Cod.zag r5.1,Cod.zag r6.1,Cod.zag r7.1,Cod.zag r8.1,r9.1,Cod.zag r10.1,[],⟨0,0,⟨[],[]⟩,[]⟩⟩:=(Ent.readM_of (Ent.msgP_0 hr_r1 hr_r2 hr_r3 hr_r4 hr_r5 hr_r6 hr_r7 hr_r8 hr_r9 hr_r10 h41 h48)).trans rfl
 refine H_ret2 Tryz.results38 (.cell rfl (fun w hA => run_loadVarA (cs:=[_,_,_,_,_,_,_,_,_,_,_,_,_,_,_,_]) (Tryz.isAgg36 w) (Tryz.sizeOf36 w) (Tells.cells (.loc _ _ _) (hA.get (i:=0) rfl)))) (.tmp rfl) (fun w hA => ⟨y57,congrArg Ending.returned ?_,?_,?_⟩)
 ·(rw [hx])
 ·trivial
 ·(rw [hx];exact hA.keep (m:=[nn,yy,yy,yy,yy]) (Y:=[_,_,_,_]) rfl)
end Go.Wk
