/- Contracts of the program's functions, each proved by walking its code. -/
import Derived.Test.YtdaphlemhmgncaaGreatKglaw24
set_option maxRecDepth 100000
set_option linter.unusedVariables false
set_option linter.unusedSimpArgs false
namespace Go.Wk.Flaw24a
open Go Go.RowKit Go.Proofs Go.Wk

end Go.Wk.Flaw24a
namespace Go.Wk
open Go Go.RowKit Go.Proofs Flaw24a 
set_option maxHeartbeats 0 in
theorem NetActs_spec (mo : Int) (acts : List Act) (a9 : Option Addr) (c9 : Nat)  : Spec Tryz.prog 3 #[.int .i64 (mo),.slice a9 (acts.length) c9] [.dat kAct.sl (acts) [.slice a9 (acts.length) c9]] (β:=Unit) (fun y => .bool (true)) (fun y => True) (fun y => []):=by
 refine Spec.enter (vs:=[_,_]) Tryz.func3 rfl Tryz.ntmps3 rfl (Nat.le_of_ble_eq_true rfl) (fun w0 ok0 => ?_)
 generalize hM0 : blks _ = M0
 have hMn:=@noM _ _ hM0 (by simp [Atom.dat,Atom.elem])
 refine H_len_le (i:=0) rfl ?_
 intro hlen0
 refine SQ (RG rfl (AS rfl (NI [0,1] [_,_] rfl (SQ ?_))))
 rcases Net.most_cases mo with hc | hc
 ·skip
  refine RG rfl (MV rfl (CB [] [_] rfl Tryz.call6 (new_bad _ ?_) ?_))
  ·exact hc
  intro y20 hy20
  clear y20 hy20
  refine MV rfl (CB [] [_] rfl Tryz.call7 (rnew_bad _ ?_) ?_)
  ·exact hc
  intro y22 hy22
  clear y22 hy22
  refine AS rfl (AS rfl (NI [6,5,1] [_,_,_] rfl (SQ (SQ (RG rfl (MV rfl (BN (r:=.bool true) rfl (bin_ptr_eq_nn Tryz.runUnderlying23) (MV rfl (BN (r:=.bool true) rfl (bin_ptr_eq_nn Tryz.runUnderlying25) (BN rfl (bin_neb Tryz.runUnderlying4) (HO_set (v':=.bool (false)) 27 rfl (by rfl) (HO_nil ?_))))))))))))
  refine EV [27,6,5,1] [_,_,_,_] rfl (CF rfl (SK (SQ (SQ (RG rfl (MV rfl (BN (r:=.bool true) rfl (bin_ptr_eq_nn Tryz.runUnderlying25) (MV rfl (NO rfl (NO rfl (NO rfl (PT rfl (HO_nil ?_)))))))))))))
  refine EV [34,6,5,1] [_,_,_,_] rfl (CT rfl (SQ (RG rfl (CB [] [_] rfl Tryz.call8 lives24_spec ?_))))
  intro y35 hy35
  clear y35 hy35
  refine AS rfl (NI [4] [_] rfl (WD 0 [] rfl (R1 Tryz.results3 () rfl (fun w hA => ⟨?_,?_,?_⟩))))
  ·rfl
  ·trivial
  ·exact hA.keep (m:=[]) (Y:=[]) rfl
 ·skip
  refine RG rfl (MV rfl (CB [] [_] rfl Tryz.call6 (new_ok _ ?_) ?_))
  ·exact hc
  intro y20 hy20
  refine MV rfl (CB [] [_,_] rfl Tryz.call7 (rnew_ok _ ?_) ?_)
  ·exact hc
  intro y22 hy22
  refine AS rfl (AS rfl (NI [6,5,1] [_,_,_] rfl (SQ (SQ (RG rfl (MV rfl (BN (r:=.bool false) rfl (bin_ptr_eq_pn Tryz.runUnderlying23) (MV rfl (BN (r:=.bool false) rfl (bin_ptr_eq_pn Tryz.runUnderlying25) (BN rfl (bin_neb Tryz.runUnderlying4) (HO_set (v':=.bool (false)) 27 rfl (by rfl) (HO_nil ?_))))))))))))
  refine EV [27,6,5,1] [_,_,_,_] rfl (CF rfl (SK (SQ (SQ (RG rfl (MV rfl (BN (r:=.bool false) rfl (bin_ptr_eq_pn Tryz.runUnderlying25) (MV rfl (MV rfl (BI rfl (bi_len_sl Tryz.underlying22) (BN rfl bin_gtr (PF rfl (HO_nil ?_)))))))))))))
  refine EV [34,6,5,1] [_,_,_,_] rfl (H_cond rfl ?_ ?_)
  ·intro h34
   replace h34:=dT h34
   refine SQ (RG rfl (CB [] [_,_,_] rfl Tryz.call8 lives24_spec ?_))
   intro y35 hy35
   clear y35 hy35
   refine AS rfl (NI [4] [_] rfl (WD 0 [] rfl (R1 Tryz.results3 () rfl (fun w hA => ⟨?_,?_,?_⟩))))
   ·rfl
   ·trivial
   ·exact hA.keep (m:=[]) (Y:=[]) rfl
  intro h34
  replace h34:=dF h34
  refine SK (SQ (RG rfl (AS rfl (NI [7,6,5,1] [_,_,_,_] rfl (SQ (SQ (H_rows0 5 (H_own0 kHd 32 none (H_own0 kBs 32 none (RG rfl (MV rfl (BI rfl (bi_len_sl Tryz.underlying22) ?_))))))))))))
  refine MV rfl (NI [38,37,36,7,6,5] [_,_,_,_,_,_] rfl (BO (H_loop (σ:=Nat × Int × List Rw × (Option Addr × Nat) × (Option Addr × Nat)) (fun s => s.1≤acts.length∧(0≤s.2.1∧s.2.1≤2000)∧(1≤mo∧mo≤1000)∧(s.2.2.1.length : Int)≤mo∧∀ r ∈ s.2.2.1,r.b.length≤100000) (fun s => [(5,.pointer (some ⟨y20,0,none⟩)),(6,.pointer (some ⟨y22,0,none⟩)),(7,.int .i64 (s.2.1)),(36,.slice a9 (acts.length) c9),(37,.int .i64 ((acts.length : Int))),(38,.int .i64 ((s.1 : Int)))]) (fun s => Asn w0 ok0 M0 [.loc y20 [.slice s.2.2.2.1.1 ((s.2.2.1.map Rw.hd).length) s.2.2.2.1.2,.int .i64 (mo)] 65,.own 32 kHd s.2.2.2.1.1 s.2.2.2.1.2 (s.2.2.1.map Rw.hd),.rows 5 (s.2.2.1),.loc y22 [.int .i64 (mo),.slice s.2.2.2.2.1 ((s.2.2.1.map Rw.bs).length) s.2.2.2.2.2] 55,.own 32 kBs s.2.2.2.2.1 s.2.2.2.2.2 (s.2.2.1.map Rw.bs),.dat kAct.sl (acts) [.slice a9 (acts.length) c9]]) (fun s => acts.length - s.1) ⟨0,0,[],(none,0),(none,0)⟩ ?_ ?_ ?_ ?_)))
  ·exact ⟨Nat.zero_le _,⟨Int.le_refl _,by decide⟩,hc,(by simp;omega),fun r hr => nomatch hr⟩
  ·exact ⟨rfl,rfl,rfl,rfl,rfl,rfl,trivial⟩
  ·intro w hA
   exact hA.only (is:=[0,0,1,2,0,5]) (Z:=[]) rfl
  ·rintro ⟨i,n,G,u,v⟩ hI
   (try dsimp only at hI ⊢)
   have hGl : (G.map Rw.hd).length≤1000:=by rw [List.length_map];omega
   have hBl : (G.map Rw.bs).length≤1000:=by rw [List.length_map];omega
   refine SQ (RG rfl (BN rfl bin_lss (HO_nil (SQ (H_cond rfl ?_ ?_)))))
   ·intro h39
    replace h39:=dT h39
    refine SK (SQ (BO (SQ (RG rfl (HO_indexAddr open_Act (i:=5) rfl rfl rfl rfl rfl Tryz.underlying22 Tryz.sizeOf38 rfl ?_ ?_)))))
    ·omega
    intro b40 o40 z40 y40 hz40 hI40
    (try simp only [BIG] at hI40)
    refine LA 0 [] [_,_,_,_,_,_,_,_,_,_,_,_,_,_,_,_,_,_,_,_] [] rfl (.elem _ _ _) Tryz.isAgg38 Tryz.sizeOf38 rfl (AO [_,_,_,_,_,_,_,_,_,_,_,_,_,_,_,_,_,_,_,_] Tryz.zeroValue38 rfl ?_)
    intro g9
    refine SR 0 [] [_,_,_,_,_,_,_,_,_,_,_,_,_,_,_,_,_,_,_,_] [] [_,_,_,_,_,_,_,_,_,_,_,_,_,_,_,_,_,_,_,_] [_,_,_,_,_,_,_,_,_,_,_] [_,_,_,_,_,_,_,_,_,_,_,_,_,_,_,_,_,_,_,_] Tryz.sizeOf38 rfl (NI [9,5,6,7,36,37,38] [_,_,_,_,_,_,_] rfl (WD 4093 [_,_,_,_,_,_,_,_,_,_,_] rfl (SQ (SQ (H_sanes (i:=1) rfl (fun hsn => ?_))))))
    refine RG rfl (FA 1 rfl Tryz.underlying38 rfl Tryz.sizeOf36 (LA 0 [_] [_,_,_,_,_,_,_,_,_,_,_,_,_,_,_,_] [_,_,_] rfl (.loc _ _ _) Tryz.isAgg36 Tryz.sizeOf36 rfl (DU 1 rfl (DU 3 rfl (DU 5 rfl (DU 7 rfl (CB [0,0,0,0] [_,_,_,_,_,_,_,_,_,_,_] rfl Tryz.call9 (few24_spec _ _ _ _ _ _ _ _ _ _ _ _ _ _ _ _ _ _ _ _ _ _ _ _ ?_ ?_ ?_) ?_)))))))
    ·(dsimp only [BIG];omega)
    ·(dsimp only [BIG];omega)
    ·(dsimp only [BIG];omega)
    intro y44 hy44
    clear y44 hy44
    refine NT rfl (MV rfl (HO_split (d:=46) rfl ?_ ?_))
    ·intro h46
     replace h46:=nT h46
     refine NO rfl (NO rfl (PT rfl (NI [49,9,5,6,7,36,37,38] [_,_,_,_,_,_,_,_] rfl (CT rfl (SQ (RG rfl (CB [] [_,_,_,_,_,_,_,_,_,_,_] rfl Tryz.call8 lives24_spec ?_)))))))
     intro y50 hy50
     clear y50 hy50
     refine AS rfl (NI [4] [_] rfl (WD 128 [_] rfl (R1 Tryz.results3 () rfl (fun w hA => ⟨?_,?_,?_⟩))))
     ·rfl
     ·trivial
     ·exact hA.keep (m:=[nn]) (Y:=[]) rfl
    intro h46
    replace h46:=nF h46
    refine MV rfl (BN rfl bin_gtr (PF rfl (NI [49,9,5,6,7,36,37,38] [_,_,_,_,_,_,_,_] rfl (H_cond rfl ?_ ?_))))
    ·intro h49
     replace h49:=dT h49
     refine SQ (RG rfl (CB [] [_,_,_,_,_,_,_,_,_,_,_] rfl Tryz.call8 lives24_spec ?_))
     intro y50 hy50
     clear y50 hy50
     refine AS rfl (NI [4] [_] rfl (WD 128 [_] rfl (R1 Tryz.results3 () rfl (fun w hA => ⟨?_,?_,?_⟩))))
     ·rfl
     ·trivial
     ·exact hA.keep (m:=[nn]) (Y:=[]) rfl
    intro h49
    replace h49:=dF h49
    refine SK (SQ ?_)
    have hfw:=Net.few_more h46
    have hst:=Net.step_rng hfw
    refine RG rfl (MV rfl (FA 1 rfl Tryz.underlying38 rfl Tryz.sizeOf36 (FA 11 rfl Tryz.underlying36 rfl Tryz.sizeOf28 (LD 0 11 rfl Tryz.isAgg28 (BI rfl (bi_len_sl Tryz.underlying28) (BN rfl (bin_add ?_ ?_) ?_))))))
    ·omega
    ·omega
    refine FA 1 rfl Tryz.underlying38 rfl Tryz.sizeOf36 (FA 12 rfl Tryz.underlying36 rfl Tryz.sizeOf34 (FA 16 rfl Tryz.underlying34 rfl Tryz.sizeOf32 (LD 0 16 rfl Tryz.isAgg32 (BI rfl (bi_len_sl Tryz.underlying32) (BN rfl (bin_quo ?_ ?_ ?_) ?_)))))
    ·omega
    ·omega
    ·omega
    refine BN rfl (bin_add ?_ ?_) ?_
    ·omega
    ·omega
    refine HO_set (v':=.int .i64 (Net.step z40.m)) 63 rfl (by rfl) (BN rfl (bin_add ?_ ?_) ?_)
    ·omega
    ·omega
    refine AS rfl (NI [7,9,5,6,36,37,38] [_,_,_,_,_,_,_] rfl (SQ (RG rfl (AS rfl (HO_nil (SQ (SQ (RG rfl (FA 0 rfl Tryz.underlying38 rfl Tryz.sizeOf3 (LD 0 0 rfl Tryz.isAgg3 (NI [66,10,7,9,5,6,36,37,38] [_,_,_,_,_,_,_,_,_] rfl ?_)))))))))))
    refine H_meet (σ:=List Rw × (Option Addr × Nat) × (Option Addr × Nat)) _ (fun s => (s.1.length : Int)≤mo∧∀ r ∈ s.1,r.b.length≤100000) [(5,.pointer (some ⟨y20,0,none⟩)),(6,.pointer (some ⟨y22,0,none⟩)),(7,.int .i64 (n + Net.step z40.m)),(36,.slice a9 (acts.length) c9),(37,.int .i64 ((acts.length : Int))),(38,.int .i64 ((i : Int))),(10,.bool (true))] (fun s => Asn w0 ok0 M0 [.loc y20 [.slice s.2.1.1 ((s.1.map Rw.hd).length) s.2.1.2,.int .i64 (mo)] 65,.own 32 kHd s.2.1.1 s.2.1.2 (s.1.map Rw.hd),.rows 5 (s.1),.loc y22 [.int .i64 (mo),.slice s.2.2.1 ((s.1.map Rw.bs).length) s.2.2.2] 55,.own 32 kBs s.2.2.1 s.2.2.2 (s.1.map Rw.bs),.dat kAct.sl (acts) [.slice a9 (acts.length) c9]]) ?_ ?_
    ·skip
     refine BO (SQ (RG rfl (BN rfl bin_eql (AS rfl (NI [67,66,10,7,9,5,6,36,37,38] [_,_,_,_,_,_,_,_,_,_] rfl (H_cond rfl ?_ ?_))))))
     ·intro h67
      replace h67:=dT h67
      refine H_drawB (m:=[yy,yy,yy,yy,yy,nn,nn,yy,nn,nn,yy]) (Xs:=[_,_,_,_,_,_,_]) (fuel:=10) (l:=#[false,false,false,false,false,false,false,false,false,false]) mixed rfl rfl rfl (TK 0 1183 [_,_,_,_,_,_,_] rfl (by kernel_rfl) (V_move rfl) (TK 1 1183 [_,_,_,_,_,_,_] rfl (by kernel_rfl) (V_fieldAddr (r:=1) rfl Tryz.underlying38 rfl Tryz.sizeOf36 rfl) (TK 2 1183 [_,_,_,_,_,_,_] rfl (by kernel_rfl) (V_loadA (i:=0) (us:=[_]) (cs:=[_,_,_,_,_,_,_,_,_,_,_,_,_,_,_,_]) (ts:=[_,_,_]) rfl Tryz.isAgg36 Tryz.sizeOf36 rfl (.loc _ _ _) rfl rfl rfl rfl) (TK 4 1183 [_,_,_,_,_,_,_] rfl (by kernel_rfl) (V_move rfl) (TK 5 1183 [_,_,_,_,_,_,_] rfl (by kernel_rfl) (V_fieldAddr (r:=1) rfl Tryz.underlying38 rfl Tryz.sizeOf36 rfl) (TK 6 1183 [_,_,_,_,_,_,_] rfl (by kernel_rfl) (V_loadA (i:=0) (us:=[_]) (cs:=[_,_,_,_,_,_,_,_,_,_,_,_,_,_,_,_]) (ts:=[_,_,_]) rfl Tryz.isAgg36 Tryz.sizeOf36 rfl (.loc _ _ _) rfl rfl rfl rfl) (LO 3 (by kernel_rfl) rfl (DU 1 rfl (DU 3 rfl (DU 5 rfl (DU 7 rfl (CB [5,6,0,0,0,0] [_,_,_,_,_,_,_,_,_] rfl Tryz.call10 (send_spec _ _ _ _ _ _ _ _ _ _ _ _ _ _ _ _ _ _ _ _ _ _ _ _ _ _ _ _ _ ?_ ?_ ?_ ?_ ?_ ?_ ?_ ?_ ?_ ?_) ?_))))))))))))
      ·(exact Int.lt_of_lt_of_le (by decide) hI.2.2.1.1)
      ·exact hGl
      ·(dsimp only [BIG];omega)
      ·(dsimp only [BIG];omega)
      ·(dsimp only [BIG];omega)
      ·exact ⟨hI40.2.1,hI40.2.2.1,hI40.2.2.2.1,hI40.2.2.2.2.1,hI40.2.2.2.2.2.1,hI40.2.2.2.2.2.2.1,hI40.2.2.2.2.2.2.2.1,hI40.2.2.2.2.2.2.2.2.1⟩
      ·exact hI40.2.2.2.2.2.2.2.2.2.1
      ·exact ⟨hI40.2.2.2.2.2.2.2.2.2.2.2.1,hI40.2.2.2.2.2.2.2.2.2.2.2.2.1⟩
      ·exact hsn
      ·exact hfw
      intro y72 hy72
      refine BK 2552 [_,_,_,_,_,_,_] rfl (LO 7 (by kernel_rfl) rfl (DU 4 rfl (DU 6 rfl (DU 8 rfl (DU 10 rfl (CB [9,10,0,0,0,0] [_,_,_,_,_,_,_,_,_,_] rfl Tryz.call11 (rsend_spec _ _ _ _ _ _ _ _ _ _ _ _ _ _ _ _ _ _ _ _ _ _ _ _ _ _ _ _ _ ?_ ?_ ?_ ?_ ?_ ?_ ?_ ?_ ?_) ?_))))))
      ·exact hBl
      ·(dsimp only [BIG];omega)
      ·(dsimp only [BIG];omega)
      ·(dsimp only [BIG];omega)
      ·exact ⟨hI40.2.1,hI40.2.2.1,hI40.2.2.2.1,hI40.2.2.2.2.1,hI40.2.2.2.2.2.1,hI40.2.2.2.2.2.2.1,hI40.2.2.2.2.2.2.2.1,hI40.2.2.2.2.2.2.2.2.1⟩
      ·exact hI40.2.2.2.2.2.2.2.2.2.1
      ·exact ⟨hI40.2.2.2.2.2.2.2.2.2.2.2.1,hI40.2.2.2.2.2.2.2.2.2.2.2.2.1⟩
      ·exact hsn
      ·exact hfw
      intro y76 hy76
      refine BK 4064 [_,_,_,_,_,_,_] rfl (TK 8 4064 [_,_,_,_,_,_,_] rfl (by kernel_rfl) (V_bin rfl rfl bin_eql) (HA_set (v':=.bool (true)) 77 rfl (by exact congrArg Value.bool (decide_eq_true (by rw [List.length_map,List.length_map]))) (TK 9 4064 [_,_,_,_,_,_,_] rfl (by kernel_rfl) (V_assign rfl) (HA_done (by kernel_rfl) (EV [10,7,5,6,36,37,38] [_,_,_,_,_,_,_] rfl (WD 3103 [_,_,_,_,_,_,_] rfl (BD (H_moreRow (i:=4) (i2:=5) (Net.sendP mo (G.map Rw.hd).length z40.m) (R:=[_,_,_,_,_]) rfl (H_inv (fun a w hf hA => ⟨hf.sub ?_,⟨(if Net.sendP mo (G.map Rw.hd).length z40.m then G ++ [⟨y72.2.1,y72.2.2,Net.sendB mo (G.map Rw.hd).length z40.m⟩] else G),y72.1,y76⟩,?_,?_⟩))))))))))
      ·exact ⟨rfl,rfl,rfl,rfl,rfl,rfl,rfl,trivial⟩
      ·exact ⟨Net.len_send hI.2.2.2.1,Net.more_le hI.2.2.2.2 (Net.sendB_le hfw)⟩
      ·(rw [Net.send_hd,Net.send_bs];exact hA.only (is:=[0,1,0,1,2,5]) (Z:=[]) rfl)
     intro h67
     replace h67:=dF h67
     refine SQ (RG rfl (BN rfl bin_eql (AS rfl (NI [78,66,10,7,9,5,6,36,37,38] [_,_,_,_,_,_,_,_,_,_] rfl (H_cond rfl ?_ ?_)))))
     ·intro h78
      replace h78:=dT h78
      refine SQ (H_takeRow ((Net.ix z40.n (G.map Rw.hd).length)) (i:=7) (R:=[_,_,_,_,_,_,_,_,_,_]) rfl (RG rfl (MV rfl (FA 17 rfl Tryz.underlying38 rfl Tryz.sizeOf3 (LD 2 17 rfl Tryz.isAgg3 (CB [6,7,0] [_,_,_,_,_,_,_,_,_] rfl Tryz.call12 (take_spec _ _ _ _ _ _ _ _ _ ?_ ?_ ?_ ?_) ?_))))))
      ·(exact Int.lt_of_lt_of_le (by decide) hI.2.2.1.1)
      ·exact hGl
      ·exact Net.hd_at
      ·exact Net.row_le hI.2.2.2.2
      intro y84 hy84
      refine MV rfl (EX [_,_] rfl (EX [_,_] rfl (AO [_,_,_,_,_,_,_,_,_,_,_,_,_,_,_,_] Tryz.zeroValue36 rfl ?_)))
      intro g11
      refine SR 0 [] [_,_,_,_,_,_,_,_,_,_,_,_,_,_,_,_] [] [_,_,_,_,_,_,_,_,_,_,_,_,_,_,_,_] [_,_,_,_,_,_,_,_,_,_,_,_,_,_,_,_] [_,_,_,_,_,_,_,_,_,_,_,_,_,_,_,_] Tryz.sizeOf36 rfl (AS rfl (NI [12,11,7,9,5,6,36,37,38] [_,_,_,_,_,_,_,_,_] rfl (SQ (RG rfl (MV rfl (FA 17 rfl Tryz.underlying38 rfl Tryz.sizeOf3 (LD 9 17 rfl Tryz.isAgg3 (CB [14,15] [_,_,_,_,_,_,_,_,_,_,_,_,_,_,_] rfl Tryz.call13 (rtake_spec _ _ _ _ _ _ ?_ ?_) ?_))))))))
      ·exact hBl
      ·exact Net.bs_le hI.2.2.2.2
      intro y91 hy91
      rw [Net.look_bs]
      refine MV rfl (EX [_,_] rfl (EX [_,_] rfl (AO [_,_,_,_,_,_,_,_,_,_,_,_,_,_,_,_] Tryz.zeroValue36 rfl ?_)))
      intro g13
      refine SR 0 [] [_,_,_,_,_,_,_,_,_,_,_,_,_,_,_,_] [] [_,_,_,_,_,_,_,_,_,_,_,_,_,_,_,_] [_,_,_,_,_,_,_,_,_,_,_,_,_,_,_,_,_,_,_,_,_] [_,_,_,_,_,_,_,_,_,_,_,_,_,_,_,_] Tryz.sizeOf36 rfl (AS rfl (NI [14,13,12,11,7,5,6,36,37,38] [_,_,_,_,_,_,_,_,_,_] rfl (WD 2162687 [_,_,_,_,_,_,_,_,_,_,_,_,_,_,_,_,_] rfl (RG rfl (LA 7 [] [_,_,_,_,_,_,_,_,_,_,_,_,_,_,_,_] [] rfl (.loc _ _ _) Tryz.isAgg36 Tryz.sizeOf36 rfl (LA 0 [] [_,_,_,_,_,_,_,_,_,_,_,_,_,_,_,_] [] rfl (.loc _ _ _) Tryz.isAgg36 Tryz.sizeOf36 rfl (DU 11 rfl (DU 13 rfl (DU 15 rfl (DU 17 rfl (DU 7 rfl (DU 9 rfl ?_))))))))))))
      refine DU 11 rfl (DU 13 rfl (CB [0,0,0,0,0,0,0,0] [_,_,_,_,_,_,_,_,_,_,_,_,_,_,_,_,_] rfl Tryz.call14 (samemsg_spec _ _ _ _ _ _ _ _ _ _ _ _ _ _ _ _ _ _ _ _ _ _ _ _ _ _ _ _ _ _ _ _ _ _ _ _ _ _ _ _ _ _ _ _ _ _ _ _) ?_))
      intro y96 hy96
      clear y96 hy96
      refine HO_set (v':=.bool (true)) 96 rfl (by exact congrArg Value.bool (decide_eq_true (rfl))) (MV rfl (MV rfl (MV rfl (BN rfl bin_eql (HO_set (v':=.bool (true)) 100 rfl (by exact congrArg Value.bool (decide_eq_true (rfl))) (PT rfl (AS rfl (NI [10,7,5,6,36,37,38] [_,_,_,_,_,_,_] rfl (WD 100102 [_,_,_,_,_,_,_] rfl (BD (H_inv (fun a w hf hA => ⟨hf.sub ?_,⟨(G.eraseIdx (Net.ix z40.n (G.map Rw.hd).length)),y84.1,y91.1⟩,?_,?_⟩))))))))))))
      ·exact ⟨rfl,rfl,rfl,rfl,rfl,rfl,rfl,trivial⟩
      ·exact ⟨Net.len_erase hI.2.2.2.1,Net.erase_le hI.2.2.2.2⟩
      ·(rw [Net.erase_hd,Net.erase_bs];exact hA.only (is:=[0,1,3,0,1,6]) (Z:=[_]) rfl)
     intro h78
     replace h78:=dF h78
     refine SQ (RG rfl (BN rfl bin_eql (AS rfl (NI [102,66,10,7,9,5,6,36,37,38] [_,_,_,_,_,_,_,_,_,_] rfl (H_cond rfl ?_ ?_)))))
     ·intro h102
      replace h102:=dT h102
      refine SQ (H_takeRow ((Net.ix z40.n (G.map Rw.hd).length)) (i:=7) (R:=[_,_,_,_,_,_,_,_,_,_]) rfl (RG rfl (MV rfl (FA 17 rfl Tryz.underlying38 rfl Tryz.sizeOf3 (LD 2 17 rfl Tryz.isAgg3 (CB [6,7,0] [_,_,_,_,_,_,_,_,_] rfl Tryz.call15 (look_spec _ _ _ _ _ _ _ _ _ ?_ ?_ ?_) ?_))))))
      ·(exact Int.lt_of_lt_of_le (by decide) hI.2.2.1.1)
      ·exact Net.hd_at
      ·exact Net.row_le hI.2.2.2.2
      intro y108 hy108
      refine MV rfl (EX [_,_] rfl (EX [_,_] rfl (AO [_,_,_,_,_,_,_,_,_,_,_,_,_,_,_,_] Tryz.zeroValue36 rfl ?_)))
      intro g15
      refine SR 0 [] [_,_,_,_,_,_,_,_,_,_,_,_,_,_,_,_] [] [_,_,_,_,_,_,_,_,_,_,_,_,_,_,_,_] [_,_,_,_,_,_,_,_,_,_,_,_,_,_,_,_] [_,_,_,_,_,_,_,_,_,_,_,_,_,_,_,_] Tryz.sizeOf36 rfl (AS rfl (NI [16,15,7,9,5,6,36,37,38] [_,_,_,_,_,_,_,_,_] rfl (SQ (RG rfl (MV rfl (FA 17 rfl Tryz.underlying38 rfl Tryz.sizeOf3 (LD 9 17 rfl Tryz.isAgg3 (CB [14,15] [_,_,_,_,_,_,_,_,_,_,_,_,_,_,_] rfl Tryz.call16 (rlook_spec _ _ _ _ _ _ ?_) ?_))))))))
      ·exact Net.bs_le hI.2.2.2.2
      intro y115 hy115
      rw [Net.look_bs]
      refine MV rfl (EX [_,_] rfl (EX [_,_] rfl (AO [_,_,_,_,_,_,_,_,_,_,_,_,_,_,_,_] Tryz.zeroValue36 rfl ?_)))
      intro g17
      refine SR 0 [] [_,_,_,_,_,_,_,_,_,_,_,_,_,_,_,_] [] [_,_,_,_,_,_,_,_,_,_,_,_,_,_,_,_] [_,_,_,_,_,_,_,_,_,_,_,_,_,_,_,_,_,_,_,_,_] [_,_,_,_,_,_,_,_,_,_,_,_,_,_,_,_] Tryz.sizeOf36 rfl (AS rfl (NI [18,17,16,15,7,5,6,36,37,38] [_,_,_,_,_,_,_,_,_,_] rfl (WD 2162687 [_,_,_,_,_,_,_,_,_,_,_,_,_,_,_,_,_] rfl (RG rfl (LA 7 [] [_,_,_,_,_,_,_,_,_,_,_,_,_,_,_,_] [] rfl (.loc _ _ _) Tryz.isAgg36 Tryz.sizeOf36 rfl (LA 0 [] [_,_,_,_,_,_,_,_,_,_,_,_,_,_,_,_] [] rfl (.loc _ _ _) Tryz.isAgg36 Tryz.sizeOf36 rfl (DU 11 rfl (DU 13 rfl (DU 15 rfl (DU 17 rfl (DU 7 rfl (DU 9 rfl ?_))))))))))))
      refine DU 11 rfl (DU 13 rfl (CB [0,0,0,0,0,0,0,0] [_,_,_,_,_,_,_,_,_,_,_,_,_,_,_,_,_] rfl Tryz.call14 (samemsg_spec _ _ _ _ _ _ _ _ _ _ _ _ _ _ _ _ _ _ _ _ _ _ _ _ _ _ _ _ _ _ _ _ _ _ _ _ _ _ _ _ _ _ _ _ _ _ _ _) ?_))
      intro y120 hy120
      clear y120 hy120
      refine HO_set (v':=.bool (true)) 120 rfl (by exact congrArg Value.bool (decide_eq_true (rfl))) (MV rfl (MV rfl (MV rfl (BN rfl bin_eql (HO_set (v':=.bool (true)) 124 rfl (by exact congrArg Value.bool (decide_eq_true (rfl))) (PT rfl (AS rfl (NI [10,7,5,6,36,37,38] [_,_,_,_,_,_,_] rfl (WD 100102 [_,_,_,_,_,_,_] rfl (BD (H_giveRow (i:=4) (i2:=5) (R:=[_,_,_,_,_]) rfl ?_)))))))))))
      rw [set_same]
      refine H_inv (fun a w hf hA => ⟨hf.sub ?_,⟨G,u,v⟩,?_,?_⟩)
      ·exact ⟨rfl,rfl,rfl,rfl,rfl,rfl,rfl,trivial⟩
      ·exact ⟨hI.2.2.2.1,hI.2.2.2.2⟩
      ·exact hA.only (is:=[0,1,0,1,2,5]) (Z:=[]) rfl
     intro h102
     replace h102:=dF h102
     refine SQ (RG rfl (BN rfl bin_eql (AS rfl (NI [126,66,10,7,9,5,6,36,37,38] [_,_,_,_,_,_,_,_,_,_] rfl (H_cond rfl ?_ ?_)))))
     ·intro h126
      replace h126:=dT h126
      refine H_drawB (m:=[yy,yy,yy,yy,yy,nn,nn,yy,nn,nn,yy]) (Xs:=[_,_,_,_,_,_,_]) (fuel:=10) (l:=#[false,false,false,false,false,false,false,false,false,false]) mixed rfl rfl rfl (TK 0 1183 [_,_,_,_,_,_,_] rfl (by kernel_rfl) (V_move rfl) (TK 1 1183 [_,_,_,_,_,_,_] rfl (by kernel_rfl) (V_fieldAddr (r:=17) rfl Tryz.underlying38 rfl Tryz.sizeOf3 rfl) (TK 2 1183 [_,_,_,_,_,_,_] rfl (by kernel_rfl) (V_load1 (i:=0) (j:=17) rfl Tryz.isAgg3 rfl (.loc _ _ _) rfl rfl) (TK 4 1183 [_,_,_,_,_,_,_] rfl (by kernel_rfl) (V_move rfl) (TK 5 1183 [_,_,_,_,_,_,_] rfl (by kernel_rfl) (V_fieldAddr (r:=17) rfl Tryz.underlying38 rfl Tryz.sizeOf3 rfl) (TK 6 1183 [_,_,_,_,_,_,_] rfl (by kernel_rfl) (V_load1 (i:=0) (j:=17) rfl Tryz.isAgg3 rfl (.loc _ _ _) rfl rfl) (LO 3 (by kernel_rfl) rfl (CB [5,6] [_,_,_,_,_,_,_,_,_] rfl Tryz.call17 (drop_spec _ _ _ _ _ _ ?_ ?_) ?_))))))))
      ·(exact Int.lt_of_lt_of_le (by decide) hI.2.2.1.1)
      ·exact hGl
      intro y131 hy131
      refine BK 1276 [_,_,_,_,_,_,_] rfl (LO 7 (by kernel_rfl) rfl (CB [8,9] [_,_,_,_,_,_,_,_,_] rfl Tryz.call18 (rdrop_spec _ _ _ _ _ _ ?_) ?_))
      ·exact hBl
      intro y135 hy135
      refine BK 2032 [_,_,_,_,_,_,_] rfl (TK 8 2032 [_,_,_,_,_,_,_] rfl (by kernel_rfl) (V_bin rfl rfl bin_eql) (HA_set (v':=.bool (true)) 136 rfl (by exact congrArg Value.bool (decide_eq_true (by rw [List.length_map,List.length_map]))) (TK 9 2032 [_,_,_,_,_,_,_] rfl (by kernel_rfl) (V_assign rfl) (HA_done (by kernel_rfl) (EV [10,7,5,6,36,37,38] [_,_,_,_,_,_,_] rfl (WD 1551 [_,_,_,_,_,_] rfl (BD (H_takeRow ((Net.ix z40.n (G.map Rw.hd).length)) (i:=4) (R:=[_,_,_,_,_]) rfl (H_inv (fun a w hf hA => ⟨hf.sub ?_,⟨(G.eraseIdx (Net.ix z40.n (G.map Rw.hd).length)),y131,y135⟩,?_,?_⟩))))))))))
      ·exact ⟨rfl,rfl,rfl,rfl,rfl,rfl,rfl,trivial⟩
      ·exact ⟨Net.len_erase hI.2.2.2.1,Net.erase_le hI.2.2.2.2⟩
      ·(rw [Net.erase_hd,Net.erase_bs];exact hA.only (is:=[1,2,1,2,3,6]) (Z:=[_]) rfl)
     intro h126
     replace h126:=dF h126
     refine SQ (RG rfl (BN rfl bin_eql (AS rfl (NI [137,66,10,7,9,5,6,36,37,38] [_,_,_,_,_,_,_,_,_,_] rfl (H_cond rfl ?_ ?_)))))
     ·intro h137
      replace h137:=dT h137
      refine H_takeRow ((Net.ix z40.n (G.map Rw.hd).length)) (i:=7) (R:=[_,_,_,_,_,_,_,_,_,_]) rfl (H_drawB (m:=[nn,yy,yy,yy,yy,yy,yy,nn,nn,nn,nn,yy]) (Xs:=[_,_,_,_,_,_,_]) (fuel:=10) (l:=#[false,false,false,false,false,false,false,false,false,false]) mixed rfl rfl rfl (TK 0 2174 [_,_,_,_,_,_,_] rfl (by kernel_rfl) (V_move rfl) (TK 1 2174 [_,_,_,_,_,_,_] rfl (by kernel_rfl) (V_fieldAddr (r:=17) rfl Tryz.underlying38 rfl Tryz.sizeOf3 rfl) (TK 2 2174 [_,_,_,_,_,_,_] rfl (by kernel_rfl) (V_load1 (i:=1) (j:=17) rfl Tryz.isAgg3 rfl (.loc _ _ _) rfl rfl) (TK 4 2174 [_,_,_,_,_,_,_] rfl (by kernel_rfl) (V_move rfl) (TK 5 2174 [_,_,_,_,_,_,_] rfl (by kernel_rfl) (V_fieldAddr (r:=17) rfl Tryz.underlying38 rfl Tryz.sizeOf3 rfl) (TK 6 2174 [_,_,_,_,_,_,_] rfl (by kernel_rfl) (V_load1 (i:=1) (j:=17) rfl Tryz.isAgg3 rfl (.loc _ _ _) rfl rfl) (LO 3 (by kernel_rfl) rfl (CB [6,7,0] [_,_,_,_,_,_,_,_,_] rfl Tryz.call19 (double_spec _ _ _ _ _ _ _ _ _ ?_ ?_ ?_ ?_) ?_)))))))))
      ·(exact Int.lt_of_lt_of_le (by decide) hI.2.2.1.1)
      ·exact hGl
      ·exact Net.hd_at
      ·exact Net.row_le hI.2.2.2.2
      intro y142 hy142
      refine BK 5104 [_,_,_,_,_,_,_] rfl (LO 7 (by kernel_rfl) rfl (CB [10,11] [_,_,_,_,_,_,_,_,_,_,_] rfl Tryz.call20 (rdouble_spec _ _ _ _ _ _ ?_) ?_))
      ·exact hBl
      intro y146 hy146
      refine BK 8128 [_,_,_,_,_,_,_] rfl (TK 8 8128 [_,_,_,_,_,_,_] rfl (by kernel_rfl) (V_bin rfl rfl bin_eql) (HA_set (v':=.bool (true)) 147 rfl (by exact congrArg Value.bool (decide_eq_true (by rw [List.length_map,List.length_map]))) (TK 9 8128 [_,_,_,_,_,_,_] rfl (by kernel_rfl) (V_assign rfl) (HA_done (by kernel_rfl) (EV [10,7,5,6,36,37,38] [_,_,_,_,_,_,_] rfl (WD 4223 [_,_,_,_,_,_,_,_] rfl (BD (H_giveRow (i:=4) (i2:=6) (R:=[_,_,_,_,_,_]) rfl ?_))))))))
      rw [set_same]
      refine H_moreRow (i:=4) (i2:=0) (Net.dblP mo (G.map Rw.hd).length z40.n) (R:=[_,_,_,_,_]) rfl (H_inv (fun a w hf hA => ⟨hf.sub ?_,⟨(if Net.dblP mo (G.map Rw.hd).length z40.n then G ++ [⟨y142.2.1,y142.2.2,Net.dblB mo (G.map Rw.hd).length z40.n (rowAt G (Net.ix z40.n (G.map Rw.hd).length)).b⟩] else G),y142.1,y146⟩,?_,?_⟩))
      ·exact ⟨rfl,rfl,rfl,rfl,rfl,rfl,rfl,trivial⟩
      ·exact ⟨Net.len_dbl hI.2.2.2.1,Net.more_le hI.2.2.2.2 (Net.dblB_le (Net.row_le hI.2.2.2.2))⟩
      ·(rw [Net.dbl_hd,Net.dbl_bs];exact hA.only (is:=[0,1,0,1,2,5]) (Z:=[]) rfl)
     intro h137
     replace h137:=dF h137
     refine SQ (RG rfl (BN rfl bin_eql (AS rfl (NI [148,10,7,9,5,6,36,37,38] [_,_,_,_,_,_,_,_,_] rfl (H_cond rfl ?_ ?_)))))
     ·intro h148
      replace h148:=dT h148
      refine H_takeRow ((Net.ix z40.n (G.map Rw.hd).length)) (i:=7) (R:=[_,_,_,_,_,_,_,_,_,_]) rfl (H_drawB (m:=[nn,yy,yy,yy,yy,yy,yy,nn,nn,nn,nn,yy]) (Xs:=[_,_,_,_,_,_,_]) (fuel:=18) (l:=#[false,false,false,false,false,false,false,false,false,false,false,false,false,false,false,false,false,false]) mixed rfl rfl rfl (TK 0 2174 [_,_,_,_,_,_,_] rfl (by kernel_rfl) (V_move rfl) (TK 1 2174 [_,_,_,_,_,_,_] rfl (by kernel_rfl) (V_fieldAddr (r:=17) rfl Tryz.underlying38 rfl Tryz.sizeOf3 rfl) (TK 2 2174 [_,_,_,_,_,_,_] rfl (by kernel_rfl) (V_load1 (i:=1) (j:=17) rfl Tryz.isAgg3 rfl (.loc _ _ _) rfl rfl) (TK 3 2174 [_,_,_,_,_,_,_] rfl (by kernel_rfl) (V_fieldAddr (r:=18) rfl Tryz.underlying38 rfl Tryz.sizeOf3 rfl) (TK 4 2174 [_,_,_,_,_,_,_] rfl (by kernel_rfl) (V_load1 (i:=1) (j:=18) rfl Tryz.isAgg3 rfl (.loc _ _ _) rfl rfl) (TK 5 2174 [_,_,_,_,_,_,_] rfl (by kernel_rfl) (V_fieldAddr (r:=19) rfl Tryz.underlying38 rfl Tryz.sizeOf3 rfl) (TK 6 2174 [_,_,_,_,_,_,_] rfl (by kernel_rfl) (V_load1 (i:=1) (j:=19) rfl Tryz.isAgg3 rfl (.loc _ _ _) rfl rfl) (TK 8 2174 [_,_,_,_,_,_,_] rfl (by kernel_rfl) (V_move rfl) (TK 9 2174 [_,_,_,_,_,_,_] rfl (by kernel_rfl) (V_fieldAddr (r:=17) rfl Tryz.underlying38 rfl Tryz.sizeOf3 rfl) (TK 10 2174 [_,_,_,_,_,_,_] rfl (by kernel_rfl) (V_load1 (i:=1) (j:=17) rfl Tryz.isAgg3 rfl (.loc _ _ _) rfl rfl) (TK 11 2174 [_,_,_,_,_,_,_] rfl (by kernel_rfl) (V_fieldAddr (r:=18) rfl Tryz.underlying38 rfl Tryz.sizeOf3 rfl) (TK 12 2174 [_,_,_,_,_,_,_] rfl (by kernel_rfl) (V_load1 (i:=1) (j:=18) rfl Tryz.isAgg3 rfl (.loc _ _ _) rfl rfl) ?_)))))))))))))
      refine TK 13 2174 [_,_,_,_,_,_,_] rfl (by kernel_rfl) (V_fieldAddr (r:=19) rfl Tryz.underlying38 rfl Tryz.sizeOf3 rfl) (TK 14 2174 [_,_,_,_,_,_,_] rfl (by kernel_rfl) (V_load1 (i:=1) (j:=19) rfl Tryz.isAgg3 rfl (.loc _ _ _) rfl rfl) (LO 7 (by kernel_rfl) rfl (CB [6,7,0] [_,_,_,_,_,_,_,_,_] rfl Tryz.call21 (spoil_spec _ _ _ _ _ _ _ _ _ _ _ ?_ ?_ ?_ ?_ ?_) ?_)))
      ·(exact Int.lt_of_lt_of_le (by decide) hI.2.2.1.1)
      ·exact hGl
      ·exact Net.hd_at
      ·exact Net.row_le hI.2.2.2.2
      ·exact Net.row_none
      intro y157 hy157
      clear y157 hy157
      refine BK 2552 [_,_,_,_,_,_,_] rfl (LO 15 (by kernel_rfl) rfl (CB [9,10] [_,_,_,_,_,_,_,_,_,_] rfl Tryz.call22 (rspoil_spec _ _ _ _ _ _ _ _ ?_ ?_) ?_))
      ·exact hBl
      ·exact Net.bs_le hI.2.2.2.2
      intro y165 hy165
      clear y165 hy165
      refine BK 4064 [_,_,_,_,_,_,_] rfl (TK 16 4064 [_,_,_,_,_,_,_] rfl (by kernel_rfl) (V_bin rfl rfl bin_eql) (HA_set (v':=.bool (true)) 166 rfl (by exact congrArg Value.bool (decide_eq_true (Net.splE_bs))) (TK 17 4064 [_,_,_,_,_,_,_] rfl (by kernel_rfl) (V_assign rfl) (HA_done (by kernel_rfl) (EV [10,7,5,6,36,37,38] [_,_,_,_,_,_,_] rfl (WD 2111 [_,_,_,_,_,_,_] rfl (BD (H_giveRow (i:=4) (i2:=5) (R:=[_,_,_,_,_]) rfl (H_inv (fun a w hf hA => ⟨hf.sub ?_,⟨(G.set (Net.ix z40.n (G.map Rw.hd).length) ⟨(rowAt G (Net.ix z40.n (G.map Rw.hd).length)).a,(rowAt G (Net.ix z40.n (G.map Rw.hd).length)).c,Net.spl (rowAt G (Net.ix z40.n (G.map Rw.hd).length)).b z40.k z40.b⟩),u,v⟩,?_,?_⟩))))))))))
      ·exact ⟨rfl,rfl,rfl,rfl,rfl,rfl,rfl,trivial⟩
      ·exact ⟨(by rw [List.length_set];exact hI.2.2.2.1),Net.set_le hI.2.2.2.2 (by rw [Net.spl_len];exact Net.row_le hI.2.2.2.2)⟩
      ·(rw [Net.set_hd (Net.spl_len _ _ _),Net.spl_bs,List.length_set];exact hA.only (is:=[0,1,0,1,2,5]) (Z:=[]) rfl)
     intro h148
     replace h148:=dF h148
     refine SK (BD (H_inv (fun a w hf hA => ⟨hf.sub ?_,⟨G,u,v⟩,?_,?_⟩)))
     ·exact ⟨rfl,rfl,rfl,rfl,rfl,rfl,rfl,trivial⟩
     ·exact ⟨hI.2.2.2.1,hI.2.2.2.2⟩
     ·exact hA.only (is:=[5,6,7,8,9,10]) (Z:=[_,_,_,_,_]) rfl
    rintro ⟨G2,u2,v2⟩ hJ
    (try dsimp only at hJ ⊢)
    refine SQ (H_drawB (m:=[nn,yy,yy,yy,yy,yy]) (Xs:=[_,_,_,_,_]) (fuel:=12) (l:=#[false,false,false,false,false,false,false,false,false,false,false,false]) mixed rfl rfl rfl (TK 0 62 [_,_,_,_,_] rfl (by kernel_rfl) (V_move rfl) (TK 1 62 [_,_,_,_,_] rfl (by kernel_rfl) (V_not rfl) (TK 2 62 [_,_,_,_,_] rfl (by kernel_rfl) (V_move rfl) (TK 3 62 [_,_,_,_,_] rfl (by kernel_rfl) (V_move rfl) (TK 5 62 [_,_,_,_,_] rfl (by kernel_rfl) (V_move rfl) (TK 6 62 [_,_,_,_,_] rfl (by kernel_rfl) (V_nilCheck rfl) (TK 7 62 [_,_,_,_,_] rfl (by kernel_rfl) (V_fieldAddr (r:=1) rfl Tryz.underlying55 rfl Tryz.sizeOf53 rfl) (TK 8 62 [_,_,_,_,_] rfl (by kernel_rfl) (V_load1 (i:=2) (j:=1) rfl Tryz.isAgg53 rfl (.loc _ _ _) rfl rfl) (TK 9 62 [_,_,_,_,_] rfl (by kernel_rfl) (V_bi rfl (bi_len_sl Tryz.underlying53)) (LO 4 (by kernel_rfl) rfl (CB [0] [_,_,_,_,_] rfl Tryz.call23 (len_spec _ _ _ _ _ ?_) ?_))))))))))))
    ·(exact Int.lt_of_lt_of_le (by decide) hI.2.2.1.1)
    intro y171 hy171
    clear y171 hy171
    refine BK 62 [_,_,_,_,_] rfl (TK 10 62 [_,_,_,_,_] rfl (by kernel_rfl) (V_bin rfl rfl bin_neq) (HA_set (v':=.bool (false)) 177 rfl (by exact congrArg Value.bool (decide_eq_false (by rw [List.length_map,List.length_map];exact fun h => h rfl))) (TK 11 62 [_,_,_,_,_] rfl (by kernel_rfl) (V_pick_f rfl rfl) (HA_done (by kernel_rfl) (EV [178,5,6,7,36,37,38] [_,_,_,_,_,_,_] rfl (CF rfl (SK (BD ?_))))))))
    have hiK:=hI.1
    refine RG rfl (BN rfl (bin_add ?_ ?_) ?_)
    ·omega
    ·omega
    refine MV rfl (NI [38,5,6,7,36,37] [_,_,_,_,_,_] rfl (H_inv (fun a w hf hA => ⟨⟨i + 1,n + Net.step z40.m,G2,u2,v2⟩,?_,?_,hf.sub ?_,?_⟩)))
    ·exact ⟨by dsimp only;omega,by dsimp only;omega,hI.2.2.1,hJ.1,hJ.2⟩
    ·(try dsimp only);omega
    ·exact ⟨rfl,rfl,rfl,rfl,rfl,rfl,trivial⟩
    ·exact hA.only (is:=[0,1,2,3,4,5]) (Z:=[]) rfl
   intro h39
   replace h39:=dF h39
   refine H_exit rfl (SQ (RG rfl (CB [] [_,_,_,_,_,_] rfl Tryz.call8 lives24_spec ?_)))
   intro y180 hy180
   clear y180 hy180
   refine AS rfl (NI [4] [_] rfl (WD 4 [_] rfl (R1 Tryz.results3 () rfl (fun w hA => ⟨?_,?_,?_⟩))))
   ·rfl
   ·trivial
   ·exact hA.keep (m:=[nn]) (Y:=[]) rfl
end Go.Wk
