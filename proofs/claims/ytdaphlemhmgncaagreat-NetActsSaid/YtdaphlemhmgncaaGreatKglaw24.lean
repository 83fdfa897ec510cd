/- Contracts of the program's functions, each proved by walking its code. -/
import Derived.Test.YtdaphlemhmgncaaGreatKgnet4
set_option maxRecDepth 100000
set_option linter.unusedVariables false
set_option linter.unusedSimpArgs false
namespace Go.Wk.Flaw24
open Go Go.RowKit Go.Proofs Go.Wk
theorem bd36_0_1_2_3_iiii {x1 : Int} {x2 : Int} {x3 : Int} {x4 : Int} : ∀ w,(Instr.build 36 (List.toArray (List.zip [0,1,2,3] [.int .i64 x1,.int .i64 x2,.int .i64 x3,.int .i64 x4]))).run Tryz.prog w = .ok (.agg #[.int .i64 x1,.int .i64 x2,.int .i64 x3,.int .i64 x4,.int .i64 (0),.int .i64 (0),.int .i64 (0),.int .i64 (0),.bool (false),.int .i64 (0),.slice none 0 0,.int .i64 (0),.int .i64 (0),.slice none 0 0,.slice none 0 0,.slice none 0 0]) w:=fun _ => by kernel_rfl
end Go.Wk.Flaw24
namespace Go.Wk
open Go Go.RowKit Go.Proofs Flaw24 
theorem few24_spec (mk mf mt me mi ml mc mr : Int) (rj : Bool) (hi : Int) (es : List Ent) (a9 : Option Addr) (c9 : Nat) (ix te : Int) (vo le : List Int) (a1 : Option Addr) (c1 : Nat) (a2 : Option Addr) (c2 : Nat) (da : List UInt8) (a3 : Option Addr) (c3 : Nat) (nd : da.length≤BIG) (n1 : vo.length≤BIG) (n2 : le.length≤BIG) : Spec Tryz.prog 9 #[.agg #[.int .i64 (mk),.int .i64 (mf),.int .i64 (mt),.int .i64 (me),.int .i64 (mi),.int .i64 (ml),.int .i64 (mc),.int .i64 (mr),.bool (rj),.int .i64 (hi),.slice a9 (es.length) c9,.int .i64 (ix),.int .i64 (te),.slice a1 (vo.length) c1,.slice a2 (le.length) c2,.slice a3 (da.length) c3]] [.dat kEnt.sl (es) [.slice a9 (es.length) c9],.dat kInt.sl (vo) [.slice a1 (vo.length) c1],.dat kInt.sl (le) [.slice a2 (le.length) c2],.dat kByte.sl (da) [.slice a3 (da.length) c3]] (β:=Unit) (fun y => .bool (Net.few es ⟨ix,te,⟨vo,le⟩,da⟩)) (fun y => True) (fun y => []):=by
 (try simp only [BIG] at nd n1 n2)
 refine Spec.enter (vs:=[_]) Tryz.func9 rfl Tryz.ntmps9 rfl (Nat.le_of_ble_eq_true rfl) (fun w0 ok0 => ?_)
 generalize hM0 : blks _ = M0
 have hMn:=@noM _ _ hM0 (by simp [Atom.dat,Atom.elem])
 refine H_len_le (i:=0) rfl ?_
 intro hlen0
 refine H_len_le (i:=1) rfl ?_
 intro hlen1
 refine H_len_le (i:=2) rfl ?_
 intro hlen2
 refine SQ (RG rfl (BX [_,_,_,_,_,_,_,_,_,_,_,_,_,_,_,_] rfl ?_))
 intro g1
 refine AS rfl (NI [1] [_] rfl (SQ (RG rfl (FA 11 rfl Tryz.underlying36 rfl Tryz.sizeOf34 (FA 15 rfl Tryz.underlying34 rfl Tryz.sizeOf32 (LD 0 15 rfl Tryz.isAgg32 (BI rfl (bi_len_sl Tryz.underlying32) (BN rfl (bin_quo ?_ ?_ ?_) ?_))))))))
 ·omega
 ·omega
 ·omega
 refine FA 11 rfl Tryz.underlying36 rfl Tryz.sizeOf34 (FA 13 rfl Tryz.underlying34 rfl Tryz.sizeOf31 (FA 13 rfl Tryz.underlying31 rfl Tryz.sizeOf29 (LD 0 13 rfl Tryz.isAgg29 (BI rfl (bi_len_sl Tryz.underlying29) (BN rfl (bin_add ?_ ?_) ?_)))))
 ·omega
 ·omega
 refine FA 11 rfl Tryz.underlying36 rfl Tryz.sizeOf34 (FA 13 rfl Tryz.underlying34 rfl Tryz.sizeOf31 (FA 14 rfl Tryz.underlying31 rfl Tryz.sizeOf29 (LD 0 14 rfl Tryz.isAgg29 (BI rfl (bi_len_sl Tryz.underlying29) (BN rfl (bin_add ?_ ?_) ?_)))))
 ·omega
 ·omega
 refine AS rfl (NI [3,1] [_,_] rfl (SQ (SQ ?_)))
 have hf0 : 0≤Ent.fewS ⟨ix,te,⟨vo,le⟩,da⟩∧Ent.fewS ⟨ix,te,⟨vo,le⟩,da⟩≤422212465053696:=by unfold Ent.fewS;dsimp only;omega
 refine RG rfl (FA 10 rfl Tryz.underlying36 rfl Tryz.sizeOf28 (LD 0 10 rfl Tryz.isAgg28 (BI rfl (bi_len_sl Tryz.underlying28) (MV rfl (NI [27,26,25,3] [_,_,_,_] rfl (WD 2 [_] rfl (BO (H_loop (σ:=Nat × Int) (fun s => s.1≤es.length∧s.2 = Ent.fewS ⟨ix,te,⟨vo,le⟩,da⟩ + Ent.wsum (es.take s.1)∧0≤s.2∧s.2≤422212465053696) (fun s => [(3,.int .i64 (s.2)),(25,.slice a9 (es.length) c9),(26,.int .i64 ((es.length : Int))),(27,.int .i64 ((s.1 : Int)))]) (fun s => Asn w0 ok0 M0 [.dat kEnt.sl (es) [.slice a9 (es.length) c9]]) (fun s => es.length - s.1) ⟨0,Ent.fewS ⟨ix,te,⟨vo,le⟩,da⟩⟩ ?_ ?_ ?_ ?_))))))))
 ·exact ⟨Nat.zero_le _,by simp [Ent.wsum],hf0⟩
 ·exact ⟨rfl,rfl,rfl,rfl,trivial⟩
 ·intro w hA
  exact hA.only (is:=[0]) (Z:=[]) rfl
 ·rintro ⟨i,n⟩ hI
  (try dsimp only at hI ⊢)
  refine SQ (RG rfl (BN rfl bin_lss (HO_nil (SQ (H_cond rfl ?_ ?_)))))
  ·intro h28
   replace h28:=dT h28
   refine SK (SQ (BO (SQ (RG rfl (HO_indexAddr open_Ent (i:=0) rfl rfl rfl rfl rfl Tryz.underlying28 Tryz.sizeOf70 rfl ?_ ?_)))))
   ·omega
   intro b29 o29 z29 y29 hz29 hI29
   (try simp only [BIG] at hI29)
   refine LA 0 [] [_,_,_,_,_,_,_,_,_,_,_,_,_] [] rfl (.elem _ _ _) Tryz.isAgg70 Tryz.sizeOf70 rfl (AO [_,_,_,_,_,_,_,_,_,_,_,_,_] Tryz.zeroValue70 rfl ?_)
   intro g5
   refine SR 0 [] [_,_,_,_,_,_,_,_,_,_,_,_,_] [] [_,_,_,_,_,_,_,_,_,_,_,_,_] [_,_,_,_] [_,_,_,_,_,_,_,_,_,_,_,_,_] Tryz.sizeOf70 rfl (NI [5,3,25,26,27] [_,_,_,_,_] rfl (WD 29 [_,_,_,_] rfl (SQ (RG rfl (FA 3 rfl Tryz.underlying70 rfl Tryz.sizeOf68 (LA 0 [_,_,_] [_,_,_,_,_,_,_,_] [_,_] rfl (.loc _ _ _) Tryz.isAgg68 Tryz.sizeOf68 rfl (AO [_,_,_,_,_,_,_,_] Tryz.zeroValue68 rfl ?_)))))))
   intro g6
   refine SR 0 [] [_,_,_,_,_,_,_,_] [] [_,_,_,_,_,_,_,_] [_,_,_,_] [_,_,_,_,_,_,_,_] Tryz.sizeOf68 rfl (NI [6,5,3,25,26,27] [_,_,_,_,_,_] rfl (SQ (RG rfl (MV rfl (FA 3 rfl Tryz.underlying68 rfl Tryz.sizeOf9 (LD 0 3 rfl Tryz.isAgg9 (BI rfl (bi_len_str Tryz.underlying9) (FA 4 rfl Tryz.underlying68 rfl Tryz.sizeOf9 (LD 0 4 rfl Tryz.isAgg9 (BI rfl (bi_len_str Tryz.underlying9) (BN rfl (bin_add ?_ ?_) ?_)))))))))))
   ·omega
   ·omega
   refine FA 5 rfl Tryz.underlying68 rfl Tryz.sizeOf9 (LD 0 5 rfl Tryz.isAgg9 (BI rfl (bi_len_str Tryz.underlying9) (BN rfl (bin_add ?_ ?_) ?_)))
   ·omega
   ·omega
   refine FA 6 rfl Tryz.underlying68 rfl Tryz.sizeOf9 (LD 0 6 rfl Tryz.isAgg9 (BI rfl (bi_len_str Tryz.underlying9) (BN rfl (bin_add ?_ ?_) ?_)))
   ·omega
   ·omega
   refine BN rfl (bin_quo ?_ ?_ ?_) ?_
   ·omega
   ·omega
   ·omega
   refine BN rfl (bin_add ?_ ?_) ?_
   ·omega
   ·omega
   refine FA 11 rfl Tryz.underlying70 rfl Tryz.sizeOf31 (FA 11 rfl Tryz.underlying31 rfl Tryz.sizeOf29 (LD 1 11 rfl Tryz.isAgg29 (BI rfl (bi_len_sl Tryz.underlying29) (BN rfl (bin_add ?_ ?_) ?_))))
   ·omega
   ·omega
   refine FA 11 rfl Tryz.underlying70 rfl Tryz.sizeOf31 (FA 12 rfl Tryz.underlying31 rfl Tryz.sizeOf29 (LD 1 12 rfl Tryz.isAgg29 (BI rfl (bi_len_sl Tryz.underlying29) (BN rfl (bin_add ?_ ?_) ?_))))
   ·omega
   ·omega
   refine HO_set (v':=.int .i64 (Ent.weight z29)) 60 rfl (by rfl) ?_
   have hwz : Ent.weight z29≤844424930107392∧1≤Ent.weight z29:=by refine ⟨?_,Ent.weight_pos _⟩;unfold Ent.weight;omega
   refine BN rfl (bin_add ?_ ?_) ?_
   ·omega
   ·omega
   refine AS rfl (NI [3,25,26,27] [_,_,_,_] rfl (WD 16 [_] rfl (SQ (RG rfl (MV rfl (BN rfl bin_gtr (NI [63,3,25,26,27] [_,_,_,_,_] rfl (H_cond rfl ?_ ?_))))))))
   ·intro h63
    replace h63:=dT h63
    refine SQ (RG rfl (AS rfl (NI [2] [_] rfl (WD 0 [] rfl (R1 Tryz.results9 () rfl (fun w hA => ⟨?_,?_,?_⟩))))))
    ·(exact congrArg Value.bool (Net.few_no hz29 hI.2.1 h63))
    ·trivial
    ·exact hA.keep (m:=[]) (Y:=[]) rfl
   intro h63
   replace h63:=dF h63
   refine SK (BD (RG rfl (BN rfl (bin_add ?_ ?_) ?_)))
   ·omega
   ·omega
   refine MV rfl (NI [27,3,25,26] [_,_,_,_] rfl (H_inv (fun a w hf hA => ⟨⟨i + 1,n + Ent.weight z29⟩,?_,?_,hf.sub ?_,?_⟩)))
   ·exact ⟨by omega,by rw [hI.2.1,Ent.wsum_next hz29];omega,by dsimp only;omega,by dsimp only;omega⟩
   ·(try dsimp only);omega
   ·exact ⟨rfl,rfl,rfl,rfl,trivial⟩
   ·exact hA.only (is:=[0]) (Z:=[]) rfl
  intro h28
  replace h28:=dF h28
  refine H_exit rfl (SQ (RG rfl (MV rfl (BN rfl bin_leq (AS rfl (NI [2] [_] rfl (WD 0 [] rfl ?_)))))))
  obtain rfl : i = es.length:=by omega
  refine R1 Tryz.results9 () rfl (fun w hA => ⟨?_,?_,?_⟩)
  ·(exact congrArg Value.bool (Net.few_ok hI.2.1))
  ·trivial
  ·exact hA.keep (m:=[]) (Y:=[]) rfl
theorem plain_spec  : Spec Tryz.prog 25 #[] [] (β:=Unit) (fun y => .agg #[.int .i64 (9),.int .i64 (1),.int .i64 (2),.int .i64 (1),.int .i64 (0),.int .i64 (0),.int .i64 (0),.int .i64 (0),.bool (false),.int .i64 (0),.slice none 0 0,.int .i64 (0),.int .i64 (0),.slice none 0 0,.slice none 0 0,.slice none 0 0]) (fun y => True) (fun y => []):=by
 refine Spec.enter (vs:=[]) Tryz.func25 rfl Tryz.ntmps25 rfl (Nat.le_of_ble_eq_true rfl) (fun w0 ok0 => ?_)
 generalize hM0 : blks _ = M0
 have hMn:=@noM _ _ hM0 (by simp [Atom.dat,Atom.elem])
 refine SQ (RG rfl (AO [_,_,_,_,_,_,_,_,_,_,_,_,_,_,_,_] Tryz.zeroValue36 rfl ?_))
 intro g0
 refine HO_nil (SQ (RG rfl (HO_build (xo:=[(0,_),(1,_),(2,_),(3,_)]) (vs:=[_,_,_,_]) rfl rfl rfl rfl (bd36_0_1_2_3_iiii) (SR 0 [] [_,_,_,_,_,_,_,_,_,_,_,_,_,_,_,_] [] [_,_,_,_,_,_,_,_,_,_,_,_,_,_,_,_] [] [_,_,_,_,_,_,_,_,_,_,_,_,_,_,_,_] Tryz.sizeOf36 rfl (NI [0] [_] rfl (H_ret1 Tryz.results25 (.cell rfl (fun w hA => run_loadVarA (cs:=[_,_,_,_,_,_,_,_,_,_,_,_,_,_,_,_]) (Tryz.isAgg36 w) (Tryz.sizeOf36 w) (Tells.cells (.loc _ _ _) (hA.get (i:=0) rfl)))) (fun w hA => ⟨(),congrArg Ending.returned ?_,?_,?_⟩)))))))
 ·rfl
 ·trivial
 ·exact hA.keep (m:=[nn]) (Y:=[]) rfl
theorem lives24_spec  : Spec Tryz.prog 8 #[] [] (β:=Unit) (fun y => .bool (true)) (fun y => True) (fun y => []):=by
 refine Spec.enter (vs:=[]) Tryz.func8 rfl Tryz.ntmps8 rfl (Nat.le_of_ble_eq_true rfl) (fun w0 ok0 => ?_)
 generalize hM0 : blks _ = M0
 have hMn:=@noM _ _ hM0 (by simp [Atom.dat,Atom.elem])
 refine SQ (RG rfl (AS rfl (NI [] [] rfl (SQ (RG rfl (CB [] [] rfl Tryz.call6 (new_ok _ ?_) ?_))))))
 ·decide
 intro y4 hy4
 refine AS rfl (NI [1] [_] rfl (SQ (SQ (H_own0 kHd 32 none (RG rfl (MV rfl (BN (r:=.bool false) rfl (bin_ptr_eq_pn Tryz.runUnderlying23) (MV rfl (MV rfl (CB [] [_,_] rfl Tryz.call25 plain_spec ?_))))))))))
 intro y9 hy9
 clear y9 hy9
 refine HO_nilDat kEnt (HO_nilDat kInt (HO_nilDat kInt (HO_nilDat kByte (DU 3 rfl (DU 3 rfl (DU 3 rfl (DU 3 rfl (CB [4,4,0,0,0,0] [_,_,_,_] rfl Tryz.call10 (send_spec y4 none 0 [] 9 9 1 2 1 0 0 0 0 false 0 [] none 0 0 0 [] [] none 0 none 0 [] none 0 ?_ ?_ ?_ ?_ ?_ ?_ ?_ ?_ ?_ ?_) ?_))))))))
 ·decide
 ·(exact Nat.zero_le _)
 ·(exact Nat.zero_le _)
 ·(exact Nat.zero_le _)
 ·(exact Nat.zero_le _)
 ·decide
 ·decide
 ·decide
 ·(intro e he;cases he)
 ·decide +kernel
 intro y10 hy10
 have hs1 : Net.sendP 9 ([] : List Hd).length (⟨9,1,2,1,0,0,0,0,false,0,[],⟨0,0,⟨[],[]⟩,[]⟩⟩ : Msg):=by decide +kernel
 rw [Net.sendH_yes hs1,Net.sendB_yes hs1]
 obtain ⟨F,hF⟩ : ∃ F,Cod.frame (Ent.msgB (⟨9,1,2,1,0,0,0,0,false,0,[],⟨0,0,⟨[],[]⟩,[]⟩⟩ : Msg)) = F:=⟨_,rfl⟩
 have hFl : F.length≤100000:=by rw [← hF];decide +kernel
 have hlk : Net.look 0 2 F = ((⟨9,1,2,1,0,0,0,0,false,0,[],⟨0,0,⟨[],[]⟩,[]⟩⟩ : Msg),0):=by rw [← hF];decide +kernel
 rw [hF]
 refine BN rfl bin_neq (HO_set (v':=.bool (false)) 11 rfl (by exact congrArg Value.bool (show decide (Net.sendE 9 0 (⟨9,1,2,1,0,0,0,0,false,0,[],⟨0,0,⟨[],[]⟩,[]⟩⟩ : Msg) ≠ 0) = false by decide +kernel)) (PF rfl (MV rfl (MV rfl (CB [0,1,2] [_,_,_,_] rfl Tryz.call19 (double_spec _ _ _ _ _ _ _ _ _ ?_ ?_ ?_ ?_) ?_)))))
 ·decide
 ·(simp)
 ·(exact fun _ => rfl)
 ·exact hFl
 intro y15 hy15
 rw [Net.dblH_yes (show Net.dblP 9 1 0 by decide +kernel)]
 refine BN rfl bin_neq (HO_set (v':=.bool (false)) 16 rfl (by exact congrArg Value.bool (show decide (Net.dblE 9 1 0 ≠ 0) = false by decide +kernel)) (PF rfl (NI [17,1] [_,_] rfl (WD 15 [_,_,_,_] rfl (CF rfl (SK (SQ (RG rfl (MV rfl (CB [0,1,2] [_] rfl Tryz.call12 (take_spec _ _ _ _ _ _ _ _ _ ?_ ?_ ?_ ?_) ?_))))))))))
 ·decide
 ·(simp)
 ·(exact fun _ => rfl)
 ·exact hFl
 intro y20 hy20
 refine MV rfl (EX [_,_] rfl (EX [_,_] rfl (AO [_,_,_,_,_,_,_,_,_,_,_,_,_,_,_,_] Tryz.zeroValue36 rfl ?_)))
 intro g2
 refine SR 0 [] [_,_,_,_,_,_,_,_,_,_,_,_,_,_,_,_] [] [_,_,_,_,_,_,_,_,_,_,_,_,_,_,_,_] [_,_,_,_,_,_,_,_] [_,_,_,_,_,_,_,_,_,_,_,_,_,_,_,_] Tryz.sizeOf36 rfl (AS rfl (NI [3,2,1] [_,_,_] rfl (SQ (RG rfl (MV rfl (BN rfl bin_eql (HO_set (v':=.bool (true)) 24 rfl (by exact congrArg Value.bool (show decide ((Net.look 0 2 F).2 = 0) = true by rw [hlk];rfl)) (MV rfl (FA 0 rfl Tryz.underlying36 rfl Tryz.sizeOf3 (LD 0 0 rfl Tryz.isAgg3 (BN rfl bin_eql (HO_set (v':=.bool (true)) 28 rfl (by exact congrArg Value.bool (show decide ((Net.look 0 2 F).1.kind = 9) = true by rw [hlk];rfl)) ?_))))))))))))
 refine PT rfl (MV rfl (FA 2 rfl Tryz.underlying36 rfl Tryz.sizeOf3 (LD 0 2 rfl Tryz.isAgg3 (BN rfl bin_eql (HO_set (v':=.bool (true)) 33 rfl (by exact congrArg Value.bool (show decide ((Net.look 0 2 F).1.to = 2) = true by rw [hlk];rfl)) (PT rfl (MV rfl (MV rfl (CB [1] [_,_,_,_,_,_,_,_] rfl Tryz.call23 (len_spec _ _ _ _ _ ?_) ?_)))))))))
 ·(first | omega | assumption | decide)
 intro y37 hy37
 clear y37 hy37
 refine BN rfl bin_eql (HO_set (v':=.bool (true)) 38 rfl (by exact congrArg Value.bool (show decide (((1 : Nat) : Int) = 1) = true by decide +kernel)) (PT rfl (AS rfl (NI [0] [_] rfl (WD 264 [_,_] rfl (R1 Tryz.results8 () rfl (fun w hA => ⟨?_,?_,?_⟩)))))))
 ·rfl
 ·trivial
 ·exact hA.keep (m:=[nn,nn]) (Y:=[]) rfl
end Go.Wk
