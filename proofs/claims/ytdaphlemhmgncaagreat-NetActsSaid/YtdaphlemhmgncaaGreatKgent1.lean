/- Contracts of the program's functions, each proved by walking its code. -/
import Derived.Test.YtdaphlemhmgncaaGreatKgcmd3
import Derived.Test.YtdaphlemhmgncaaGreatEnt
import Derived.Test.YtdaphlemhmgncaaGreatKgcmd2
set_option maxRecDepth 100000
set_option linter.unusedVariables false
set_option linter.unusedSimpArgs false
namespace Go.Wk.Fent1
open Go Go.RowKit Go.Proofs Go.Wk
theorem bd68__  : ∀ w,(Instr.build 68 (List.toArray (List.zip [] []))).run Tryz.prog w = .ok (.agg #[.int .i64 (0),.int .i64 (0),.int .i64 (0),.string (⟨#[]⟩),.string (⟨#[]⟩),.string (⟨#[]⟩),.string (⟨#[]⟩),.int .i64 (0)]) w:=fun _ => by kernel_rfl
theorem eq68_eql {x y : Operand} {a0 b0 : Int} {a1 b1 : Int} {a2 b2 : Int} {a3 b3 : ByteArray} {a4 b4 : ByteArray} {a5 b5 : ByteArray} {a6 b6 : ByteArray} {a7 b7 : Int} : BinR Tryz.prog .eql 68 x y (.agg #[.int .i64 a0,.int .i64 a1,.int .i64 a2,.string a3,.string a4,.string a5,.string a6,.int .i64 a7]) (.agg #[.int .i64 b0,.int .i64 b1,.int .i64 b2,.string b3,.string b4,.string b5,.string b6,.int .i64 b7]) (.bool (decide (a0 = b0) && (decide (a1 = b1) && (decide (a2 = b2) && (decide (a3 = b3) && (decide (a4 = b4) && (decide (a5 = b5) && (decide (a6 = b6) && (decide (a7 = b7) && true))))))))) :=
 bin_eqs_agg (by kernel_rfl) Tryz.underlying68 (by kernel_rfl) (fun w => (eqF_int (by decide) Tryz.underlying3 Tryz.isAgg3 rfl rfl (eqF_int (by decide) Tryz.underlying3 Tryz.isAgg3 rfl rfl (eqF_int (by decide) Tryz.underlying3 Tryz.isAgg3 rfl rfl (eqF_str (by decide) Tryz.underlying9 Tryz.isAgg9 rfl rfl (eqF_str (by decide) Tryz.underlying9 Tryz.isAgg9 rfl rfl (eqF_str (by decide) Tryz.underlying9 Tryz.isAgg9 rfl rfl (eqF_str (by decide) Tryz.underlying9 Tryz.isAgg9 rfl rfl (eqF_int (by decide) Tryz.underlying3 Tryz.isAgg3 rfl rfl eqF_nil)))))))))
end Go.Wk.Fent1
namespace Go.Wk
open Go Go.RowKit Go.Proofs Fent1 
theorem rises_spec (l : List Int) (a : Option Addr) (c : Nat)  : Spec Tryz.prog 120 #[.slice a (l.length) c] [.dat kInt.sl (l) [.slice a (l.length) c]] (β:=Unit) (fun y => .bool (Ent.rises l)) (fun y => True) (fun y => []):=by
 refine Spec.enter (vs:=[_]) Tryz.func120 rfl Tryz.ntmps120 rfl (Nat.le_of_ble_eq_true rfl) (fun w0 ok0 => ?_)
 generalize hM0 : blks _ = M0
 have hMn:=@noM _ _ hM0 (by simp [Atom.dat,Atom.elem])
 refine H_len_le (i:=0) rfl ?_
 intro hlen0
 refine SQ (RG rfl (AS rfl (NI [0] [_] rfl (SQ (SQ (RG rfl (MV rfl (BI rfl (bi_len_sl Tryz.underlying29) (MV rfl (HO_nil (BO (H_loop (σ:=Nat) (fun s => s≤l.length∧Ent.rises l = Ent.risesFrom (Ent.pv l s) (l.drop s)) (fun s => [(0,.slice a (l.length) c),(5,.slice a (l.length) c),(6,.int .i64 ((l.length : Int))),(7,.int .i64 ((s : Int)))]) (fun s => Asn w0 ok0 M0 [.dat kInt.sl (l) [.slice a (l.length) c]]) (fun s => l.length - s) 0 ?_ ?_ ?_ ?_))))))))))))
 ·exact ⟨Nat.zero_le _,rfl⟩
 ·exact ⟨rfl,rfl,rfl,rfl,trivial⟩
 ·intro w hA
  exact hA.only (is:=[0]) (Z:=[]) rfl
 ·intro i hI
  (try dsimp only at hI ⊢)
  refine SQ (RG rfl (BN rfl bin_lss (HO_nil (SQ (H_cond rfl ?_ ?_)))))
  ·intro h8
   replace h8:=dT h8
   refine SK (SQ (BO (SQ (RG rfl (MV rfl (HO_indexAddr open_int (i:=0) rfl rfl rfl rfl rfl Tryz.underlying29 Tryz.sizeOf3 rfl ?_ ?_))))))
   ·omega
   intro b10 o10 z10 y10 hz10 hI10
   clear y10
   refine LE 0 0 rfl Tryz.isAgg3 (AS rfl (AS rfl (NI [4,3,0,5,6,7] [_,_,_,_,_,_] rfl (WD 2 [_] rfl (SQ (RG rfl (MV rfl (BN rfl bin_lss (MV rfl (HO_split (d:=14) rfl ?_ ?_))))))))))
   ·intro h14
    replace h14:=dT h14
    refine NO rfl (NO rfl (PT rfl (MV rfl ?_)))
    iterate 11 refine HO_no rfl rfl rfl ?_
    refine PT rfl (NI [30,0,5,6,7] [_,_,_,_,_] rfl (CT rfl (SQ (RG rfl (AS rfl (NI [2] [_] rfl (WD 0 [] rfl (R1 Tryz.results120 () rfl (fun w hA => ⟨?_,?_,?_⟩)))))))))
    ·(exact congrArg Value.bool (by first | exact Ent.rises_no hz10 hI.2 (.inl h14) | exact Ent.rises_no hz10 hI.2 (.inr (.inl h18)) | exact Ent.rises_no hz10 hI.2 (.inr (.inr (by rw [Ent.pv_at h21 hz25];omega))) | exact Ent.rises_end hI.2 (by omega)))
    ·trivial
    ·exact hA.keep (m:=[]) (Y:=[]) rfl
   intro h14
   replace h14:=dF h14
   refine MV rfl (BN rfl bin_gtr (PF rfl (MV rfl (HO_split (d:=18) rfl ?_ ?_))))
   ·intro h18
    replace h18:=dT h18
    iterate 11 refine HO_no rfl rfl rfl ?_
    refine PT rfl (NI [30,0,5,6,7] [_,_,_,_,_] rfl (CT rfl (SQ (RG rfl (AS rfl (NI [2] [_] rfl (WD 0 [] rfl (R1 Tryz.results120 () rfl (fun w hA => ⟨?_,?_,?_⟩)))))))))
    ·(exact congrArg Value.bool (by first | exact Ent.rises_no hz10 hI.2 (.inl h14) | exact Ent.rises_no hz10 hI.2 (.inr (.inl h18)) | exact Ent.rises_no hz10 hI.2 (.inr (.inr (by rw [Ent.pv_at h21 hz25];omega))) | exact Ent.rises_end hI.2 (by omega)))
    ·trivial
    ·exact hA.keep (m:=[]) (Y:=[]) rfl
   intro h18
   replace h18:=dF h18
   refine MV rfl (BN rfl bin_gtr (MV rfl (HO_split (d:=21) rfl ?_ ?_)))
   ·intro h21
    replace h21:=dT h21
    refine MV rfl (MV rfl (BN rfl (bin_sub ?_ ?_) ?_))
    ·omega
    ·omega
    refine HO_indexAddr open_int (i:=0) (j:=i - 1) rfl rfl rfl rfl ?_ Tryz.underlying29 Tryz.sizeOf3 rfl ?_ ?_
    ·omega
    ·omega
    intro b25 o25 z25 y25 hz25 hI25
    clear y25
    refine LE 0 0 rfl Tryz.isAgg3 (MV rfl (BN rfl bin_geq (PT rfl (PF rfl (NI [30,0,5,6,7] [_,_,_,_,_] rfl (WD 2 [_] rfl (H_cond rfl ?_ ?_)))))))
    ·intro h30
     replace h30:=dT h30
     refine SQ (RG rfl (AS rfl (NI [2] [_] rfl (WD 0 [] rfl (R1 Tryz.results120 () rfl (fun w hA => ⟨?_,?_,?_⟩))))))
     ·(exact congrArg Value.bool (by first | exact Ent.rises_no hz10 hI.2 (.inl h14) | exact Ent.rises_no hz10 hI.2 (.inr (.inl h18)) | exact Ent.rises_no hz10 hI.2 (.inr (.inr (by rw [Ent.pv_at h21 hz25];omega))) | exact Ent.rises_end hI.2 (by omega)))
     ·trivial
     ·exact hA.keep (m:=[]) (Y:=[]) rfl
    intro h30
    replace h30:=dF h30
    refine SK (BD (RG rfl (BN rfl (bin_add ?_ ?_) ?_)))
    ·omega
    ·omega
    refine MV rfl (NI [7,0,5,6] [_,_,_,_] rfl (H_inv (fun a w hf hA => ⟨i + 1,?_,?_,hf.sub ?_,?_⟩)))
    ·exact ⟨by omega,Ent.rises_next hz10 hI.2 (by omega) (by omega) (by first | (rw [Ent.pv_0 h21];omega) | (rw [Ent.pv_at h21 hz25];omega))⟩
    ·(try dsimp only);omega
    ·exact ⟨rfl,rfl,rfl,rfl,trivial⟩
    ·exact hA.only (is:=[0]) (Z:=[]) rfl
   intro h21
   replace h21:=dF h21
   iterate 7 refine HO_no rfl rfl rfl ?_
   refine PF rfl (PF rfl (NI [30,0,5,6,7] [_,_,_,_,_] rfl (CF rfl (SK (BD (RG rfl (BN rfl (bin_add ?_ ?_) ?_)))))))
   ·omega
   ·omega
   refine MV rfl (NI [7,0,5,6] [_,_,_,_] rfl (H_inv (fun a w hf hA => ⟨i + 1,?_,?_,hf.sub ?_,?_⟩)))
   ·exact ⟨by omega,Ent.rises_next hz10 hI.2 (by omega) (by omega) (by first | (rw [Ent.pv_0 h21];omega) | (rw [Ent.pv_at h21 hz25];omega))⟩
   ·(try dsimp only);omega
   ·exact ⟨rfl,rfl,rfl,rfl,trivial⟩
   ·exact hA.only (is:=[0]) (Z:=[]) rfl
  intro h8
  replace h8:=dF h8
  refine H_exit rfl (SQ (RG rfl (AS rfl (NI [2] [_] rfl (WD 0 [] rfl (R1 Tryz.results120 () rfl (fun w hA => ⟨?_,?_,?_⟩)))))))
  ·(exact congrArg Value.bool (by first | exact Ent.rises_no hz10 hI.2 (.inl h14) | exact Ent.rises_no hz10 hI.2 (.inr (.inl h18)) | exact Ent.rises_no hz10 hI.2 (.inr (.inr (by rw [Ent.pv_at h21 hz25];omega))) | exact Ent.rises_end hI.2 (by omega)))
  ·trivial
  ·exact hA.keep (m:=[]) (Y:=[]) rfl
theorem indexint_spec (l : List Int) (a : Option Addr) (c : Nat) (x : Int)  : Spec Tryz.prog 143 #[.slice a (l.length) c,.int .i64 (x)] [.dat kInt.sl (l) [.slice a (l.length) c]] (β:=Int) (fun y => .int .i64 (y)) (fun y => (0≤y ↔ x ∈ l)) (fun y => []):=by
 refine Spec.enter (vs:=[_,_]) Tryz.func143 rfl Tryz.ntmps143 rfl (Nat.le_of_ble_eq_true rfl) (fun w0 ok0 => ?_)
 generalize hM0 : blks _ = M0
 have hMn:=@noM _ _ hM0 (by simp [Atom.dat,Atom.elem])
 refine H_len_le (i:=0) rfl ?_
 intro hlen0
 refine SQ (RG rfl (AS rfl (NI [0,1] [_,_] rfl (SQ (SQ (RG rfl (MV rfl (BI rfl (bi_len_sl Tryz.underlying29) (MV rfl (NI [8,7,0,1] [_,_,_,_] rfl (BO ?_)))))))))))
 refine H_loop (σ:=Nat) (fun s => s≤l.length∧x ∉ l.take s) (fun s => [(0,.slice a (l.length) c),(1,.int .i64 (x)),(7,.int .i64 ((l.length : Int))),(8,.int .i64 ((s : Int)))]) (fun s => Asn w0 ok0 M0 [.dat kInt.sl (l) [.slice a (l.length) c]]) (fun s => l.length - s) 0 ?_ ?_ ?_ ?_
 ·exact ⟨Nat.zero_le _,by simp⟩
 ·exact ⟨rfl,rfl,rfl,rfl,trivial⟩
 ·intro w hA
  exact hA.only (is:=[0]) (Z:=[]) rfl
 ·intro i hI
  (try dsimp only at hI ⊢)
  refine SQ (RG rfl (BN rfl bin_lss (HO_nil (SQ (H_cond rfl ?_ ?_)))))
  ·intro h9
   replace h9:=dT h9
   refine SK (SQ (BO (SQ (RG rfl (MV rfl (AS rfl (NI [5,0,1,7,8] [_,_,_,_,_] rfl (SQ (RG rfl (MV rfl (MV rfl (MV rfl ?_))))))))))))
   refine HO_indexAddr open_int (i:=0) rfl rfl rfl rfl rfl Tryz.underlying29 Tryz.sizeOf3 rfl ?_ ?_
   ·omega
   intro b14 o14 z14 y14 hz14 hI14
   clear y14
   refine LE 0 0 rfl Tryz.isAgg3 (BN rfl bin_eql (NI [16,5,0,1,7,8] [_,_,_,_,_,_] rfl (WD 2 [_] rfl (H_cond rfl ?_ ?_))))
   ·intro h16
    replace h16:=dT h16
    refine SQ (RG rfl (MV rfl (AS rfl (NI [4] [_] rfl (WD 0 [] rfl (R1 Tryz.results143 (i : Int) rfl (fun w hA => ⟨?_,?_,?_⟩)))))))
    ·rfl
    ·exact ⟨fun _ => h16 ▸ List.mem_of_getElem? hz14,fun _ => by omega⟩
    ·exact hA.keep (m:=[]) (Y:=[]) rfl
   intro h16
   replace h16:=dF h16
   refine SK (BD (RG rfl (BN rfl (bin_add ?_ ?_) ?_)))
   ·omega
   ·omega
   refine MV rfl (NI [8,0,1,7] [_,_,_,_] rfl (H_inv (fun a w hf hA => ⟨i + 1,?_,?_,hf.sub ?_,?_⟩)))
   ·exact ⟨by omega,fun h => ((Ent.mem_next hz14).1 h).elim hI.2 h16⟩
   ·(try dsimp only);omega
   ·exact ⟨rfl,rfl,rfl,rfl,trivial⟩
   ·exact hA.only (is:=[0]) (Z:=[]) rfl
  intro h9
  replace h9:=dF h9
  refine H_exit rfl (SQ (RG rfl (AS rfl (NI [4] [_] rfl (WD 0 [] rfl (R1 Tryz.results143 (-1) rfl (fun w hA => ⟨?_,?_,?_⟩)))))))
  ·rfl
  ·(obtain rfl : i = l.length:=by omega);exact ⟨fun h => by omega,fun h => absurd h (by have:=hI.2;rwa [List.take_length] at this)⟩
  ·exact hA.keep (m:=[]) (Y:=[]) rfl
theorem containsint_spec (l : List Int) (a : Option Addr) (c : Nat) (x : Int)  : Spec Tryz.prog 119 #[.slice a (l.length) c,.int .i64 (x)] [.dat kInt.sl (l) [.slice a (l.length) c]] (β:=Unit) (fun y => .bool (decide (x ∈ l))) (fun y => True) (fun y => []):=by
 refine Spec.enter (vs:=[_,_]) Tryz.func119 rfl Tryz.ntmps119 rfl (Nat.le_of_ble_eq_true rfl) (fun w0 ok0 => ?_)
 generalize hM0 : blks _ = M0
 have hMn:=@noM _ _ hM0 (by simp [Atom.dat,Atom.elem])
 refine H_len_le (i:=0) rfl ?_
 intro hlen0
 refine SQ (RG rfl (AS rfl (NI [0,1] [_,_] rfl (SQ (RG rfl (MV rfl (MV rfl (DU 0 rfl (CB [0] [_] rfl Tryz.call143 (indexint_spec _ _ _ _) ?_)))))))))
 intro y7 hy7
 refine BN rfl bin_geq (AS rfl (NI [4] [_] rfl (WD 0 [] rfl (R1 Tryz.results119 () rfl (fun w hA => ⟨?_,?_,?_⟩)))))
 ·(exact congrArg Value.bool (by simp only [ge_iff_le,hy7]))
 ·trivial
 ·exact hA.keep (m:=[]) (Y:=[]) rfl
theorem goodconf1_spec (g : Nat) (x : Int) (vo le : List Int) (a1 : Option Addr) (c1 : Nat) (a2 : Option Addr) (c2 : Nat)  : Spec Tryz.prog 118 #[.int .i64 (x),.pointer (some ⟨g,0,none⟩)] [.loc g [.slice a1 (vo.length) c1,.slice a2 (le.length) c2] 31,.dat kInt.sl (vo) [.slice a1 (vo.length) c1],.dat kInt.sl (le) [.slice a2 (le.length) c2]] (β:=Unit) (fun y => .bool (decide (x ∈ le))) (fun y => True) (fun y => [.loc g [.slice a1 (vo.length) c1,.slice a2 (le.length) c2] 31]):=by
 refine Spec.enter (vs:=[_,_]) Tryz.func118 rfl Tryz.ntmps118 rfl (Nat.le_of_ble_eq_true rfl) (fun w0 ok0 => ?_)
 generalize hM0 : blks _ = M0
 refine H_len_le (i:=1) rfl ?_
 intro hlen1
 refine H_len_le (i:=2) rfl ?_
 intro hlen2
 refine SQ (RG rfl (AS rfl (NI [0,1] [_,_] rfl (SQ (RG rfl (FA 1 rfl Tryz.underlying31 rfl Tryz.sizeOf29 (LD 0 1 rfl Tryz.isAgg29 (MV rfl (DU 2 rfl (CB [0] [_,_,_] rfl Tryz.call119 (containsint_spec _ _ _ _) ?_))))))))))
 intro y7 hy7
 clear y7 hy7
 refine AS rfl (NI [3] [_] rfl (R1 Tryz.results118 () rfl (fun w hA => ⟨?_,?_,?_⟩)))
 ·rfl
 ·trivial
 ·exact hA.keep (m:=[yy,nn,nn]) (Y:=[_]) rfl
theorem indexfunc_spec (l : List Int) (a : Option Addr) (c : Nat) (g : Nat) (vo le : List Int) (a1 : Option Addr) (c1 : Nat) (a2 : Option Addr) (c2 : Nat)  : Spec Tryz.prog 144 #[.slice a (l.length) c,.func (.func 118) #[] #[.pointer (some ⟨g,0,none⟩)]] [.dat kInt.sl (l) [.slice a (l.length) c],.loc g [.slice a1 (vo.length) c1,.slice a2 (le.length) c2] 31,.dat kInt.sl (vo) [.slice a1 (vo.length) c1],.dat kInt.sl (le) [.slice a2 (le.length) c2]] (β:=Int) (fun y => .int .i64 (y)) (fun y => ((0≤y) ↔ ∃ x ∈ l,x ∈ le)) (fun y => [.loc g [.slice a1 (vo.length) c1,.slice a2 (le.length) c2] 31]):=by
 refine Spec.enter (vs:=[_,_]) Tryz.func144 rfl Tryz.ntmps144 rfl (Nat.le_of_ble_eq_true rfl) (fun w0 ok0 => ?_)
 generalize hM0 : blks _ = M0
 refine H_len_le (i:=0) rfl ?_
 intro hlen0
 refine H_len_le (i:=2) rfl ?_
 intro hlen2
 refine H_len_le (i:=3) rfl ?_
 intro hlen3
 refine SQ (RG rfl (AS rfl (NI [0,1] [_,_] rfl (SQ (SQ (RG rfl (MV rfl (BI rfl (bi_len_sl Tryz.underlying29) (MV rfl (NI [8,7,0,1] [_,_,_,_] rfl (BO ?_)))))))))))
 refine H_loop (σ:=Nat) (fun s => s≤l.length∧∀ x ∈ l.take s,x ∉ le) (fun s => [(0,.slice a (l.length) c),(1,.func (.func 118) #[] #[.pointer (some ⟨g,0,none⟩)]),(7,.int .i64 ((l.length : Int))),(8,.int .i64 ((s : Int)))]) (fun s => Asn w0 ok0 M0 [.dat kInt.sl (l) [.slice a (l.length) c],.loc g [.slice a1 (vo.length) c1,.slice a2 (le.length) c2] 31,.dat kInt.sl (vo) [.slice a1 (vo.length) c1],.dat kInt.sl (le) [.slice a2 (le.length) c2]]) (fun s => l.length - s) 0 ?_ ?_ ?_ ?_
 ·exact ⟨Nat.zero_le _,by simp⟩
 ·exact ⟨rfl,rfl,rfl,rfl,trivial⟩
 ·intro w hA
  exact hA.only (is:=[0,1,2,3]) (Z:=[]) rfl
 ·intro i hI
  (try dsimp only at hI ⊢)
  refine SQ (RG rfl (BN rfl bin_lss (HO_nil (SQ (H_cond rfl ?_ ?_)))))
  ·intro h9
   replace h9:=dT h9
   refine SK (SQ (BO (SQ (RG rfl (MV rfl (AS rfl (NI [5,0,1,7,8] [_,_,_,_,_] rfl (SQ (RG rfl (MV rfl (MV rfl (MV rfl ?_))))))))))))
   refine HO_indexAddr open_int (i:=0) rfl rfl rfl rfl rfl Tryz.underlying29 Tryz.sizeOf3 rfl ?_ ?_
   ·omega
   intro b14 o14 z14 y14 hz14 hI14
   clear y14
   refine LE 0 0 rfl Tryz.isAgg3 (DU 3 rfl (DU 5 rfl (HO_call (first:=[]) (capt:=[_]) (is:=[2,0,0]) (R:=[_,_,_,_]) rfl rfl rfl rfl rfl Tryz.call118 rfl (goodconf1_spec _ _ _ _ _ _ _ _) ?_)))
   intro y16 hy16
   clear y16 hy16
   refine NI [16,5,0,1,7,8] [_,_,_,_,_,_] rfl (WD 29 [_,_,_,_] rfl (H_cond rfl ?_ ?_))
   ·intro h16
    replace h16:=dT h16
    refine SQ (RG rfl (MV rfl (AS rfl (NI [4] [_] rfl (WD 13 [_,_,_] rfl (R1 Tryz.results144 (i : Int) rfl (fun w hA => ⟨?_,?_,?_⟩)))))))
    ·rfl
    ·exact ⟨fun _ => ⟨_,List.mem_of_getElem? hz14,h16⟩,fun _ => by omega⟩
    ·exact hA.keep (m:=[yy,nn,nn]) (Y:=[_]) rfl
   intro h16
   replace h16:=dF h16
   refine SK (BD (RG rfl (BN rfl (bin_add ?_ ?_) ?_)))
   ·omega
   ·omega
   refine MV rfl (NI [8,0,1,7] [_,_,_,_] rfl (H_inv (fun a w hf hA => ⟨i + 1,?_,?_,hf.sub ?_,?_⟩)))
   ·exact ⟨by omega,fun x hx => ((Ent.mem_next hz14).1 hx).elim (hI.2 x) (fun e => e ▸ h16)⟩
   ·(try dsimp only);omega
   ·exact ⟨rfl,rfl,rfl,rfl,trivial⟩
   ·exact hA.only (is:=[0,0,2,3]) (Z:=[]) rfl
  intro h9
  replace h9:=dF h9
  refine H_exit rfl (SQ (RG rfl (AS rfl (NI [4] [_] rfl (WD 14 [_,_,_] rfl (R1 Tryz.results144 (-1) rfl (fun w hA => ⟨?_,?_,?_⟩)))))))
  ·rfl
  ·(obtain rfl : i = l.length:=by omega);exact ⟨fun h => by omega,fun h => absurd h (by have:=hI.2;rw [List.take_length] at this;rintro ⟨x,h1,h2⟩;exact this x h1 h2)⟩
  ·exact hA.keep (m:=[yy,nn,nn]) (Y:=[_]) rfl
theorem containsfunc_spec (l : List Int) (a : Option Addr) (c : Nat) (g : Nat) (vo le : List Int) (a1 : Option Addr) (c1 : Nat) (a2 : Option Addr) (c2 : Nat)  : Spec Tryz.prog 121 #[.slice a (l.length) c,.func (.func 118) #[] #[.pointer (some ⟨g,0,none⟩)]] [.dat kInt.sl (l) [.slice a (l.length) c],.loc g [.slice a1 (vo.length) c1,.slice a2 (le.length) c2] 31,.dat kInt.sl (vo) [.slice a1 (vo.length) c1],.dat kInt.sl (le) [.slice a2 (le.length) c2]] (β:=Unit) (fun y => .bool ((Ent.both l le))) (fun y => True) (fun y => [.loc g [.slice a1 (vo.length) c1,.slice a2 (le.length) c2] 31]):=by
 refine Spec.enter (vs:=[_,_]) Tryz.func121 rfl Tryz.ntmps121 rfl (Nat.le_of_ble_eq_true rfl) (fun w0 ok0 => ?_)
 generalize hM0 : blks _ = M0
 refine H_len_le (i:=0) rfl ?_
 intro hlen0
 refine H_len_le (i:=2) rfl ?_
 intro hlen2
 refine H_len_le (i:=3) rfl ?_
 intro hlen3
 refine SQ (RG rfl (AS rfl (NI [0,1] [_,_] rfl (SQ (RG rfl (MV rfl (MV rfl (DU 0 rfl (DU 3 rfl (DU 5 rfl (CB [0,2,0,0] [_,_,_] rfl Tryz.call144 (indexfunc_spec _ _ _ _ _ _ _ _ _ _) ?_)))))))))))
 intro y7 hy7
 refine BN rfl bin_geq (AS rfl (NI [4] [_] rfl (WD 13 [_,_,_] rfl (R1 Tryz.results121 () rfl (fun w hA => ⟨?_,?_,?_⟩)))))
 ·(exact congrArg Value.bool (by rw [Ent.both_iff];exact decide_eq_decide.2 hy7))
 ·trivial
 ·exact hA.keep (m:=[yy,nn,nn]) (Y:=[_]) rfl
theorem goodconf_spec (vo le : List Int) (a1 : Option Addr) (c1 : Nat) (a2 : Option Addr) (c2 : Nat)  : Spec Tryz.prog 85 #[.agg #[.slice a1 (vo.length) c1,.slice a2 (le.length) c2]] [.dat kInt.sl (vo) [.slice a1 (vo.length) c1],.dat kInt.sl (le) [.slice a2 (le.length) c2]] (β:=Unit) (fun y => .bool (Ent.goodConf ⟨vo,le⟩)) (fun y => True) (fun y => []):=by
 refine Spec.enter (vs:=[_]) Tryz.func85 rfl Tryz.ntmps85 rfl (Nat.le_of_ble_eq_true rfl) (fun w0 ok0 => ?_)
 generalize hM0 : blks _ = M0
 have hMn:=@noM _ _ hM0 (by simp [Atom.dat,Atom.elem])
 refine H_len_le (i:=0) rfl ?_
 intro hlen0
 refine H_len_le (i:=1) rfl ?_
 intro hlen1
 refine SQ (RG rfl (BX [_,_] rfl ?_))
 intro g1
 refine AS rfl (NI [1] [_] rfl (SQ (RG rfl (HO_makeFunc (vs:=[]) (us:=[_]) rfl rfl rfl rfl (AS rfl (NI [3,1] [_,_] rfl (SQ (RG rfl (FA 0 rfl Tryz.underlying31 rfl Tryz.sizeOf29 (LD 0 0 rfl Tryz.isAgg29 (BI rfl (bi_len_sl Tryz.underlying29) ?_)))))))))))
 refine BN rfl bin_gtr (MV rfl (HO_split (d:=9) rfl ?_ ?_))
 ·intro h9
  replace h9:=dT h9
  refine FA 0 rfl Tryz.underlying31 rfl Tryz.sizeOf29 (LD 0 0 rfl Tryz.isAgg29 (DU 1 rfl (CB [0] [_,_,_] rfl Tryz.call120 (rises_spec _ _ _) ?_)))
  intro y12 hy12
  clear y12 hy12
  refine PT rfl (MV rfl (HO_split (d:=14) rfl ?_ ?_))
  ·intro h14
   refine FA 1 rfl Tryz.underlying31 rfl Tryz.sizeOf29 (LD 0 1 rfl Tryz.isAgg29 (DU 2 rfl (CB [0] [_,_,_] rfl Tryz.call120 (rises_spec _ _ _) ?_)))
   intro y17 hy17
   clear y17 hy17
   refine PT rfl (MV rfl (HO_split (d:=19) rfl ?_ ?_))
   ·intro h19
    refine FA 0 rfl Tryz.underlying31 rfl Tryz.sizeOf29 (LD 0 0 rfl Tryz.isAgg29 (MV rfl (DU 1 rfl (DU 2 rfl (DU 4 rfl (CB [0,1,0,0] [_,_] rfl Tryz.call121 (containsfunc_spec _ _ _ _ _ _ _ _ _ _) ?_))))))
    intro y23 hy23
    clear y23 hy23
    refine NT rfl (PT rfl (AS rfl (NI [2] [_] rfl (WD 0 [] rfl (R1 Tryz.results85 () rfl (fun w hA => ⟨?_,?_,?_⟩))))))
    ·(exact congrArg Value.bool (by first | (simp [Ent.goodConf, *];done) | (simp_all [Ent.goodConf];done)))
    ·trivial
    ·exact hA.keep (m:=[]) (Y:=[]) rfl
   intro h19
   refine NO rfl (NO rfl (NO rfl (NO rfl (NO rfl (PF rfl (AS rfl (NI [2] [_] rfl (WD 0 [] rfl (R1 Tryz.results85 () rfl (fun w hA => ⟨?_,?_,?_⟩))))))))))
   ·(exact congrArg Value.bool (by first | (simp [Ent.goodConf, *];done) | (simp_all [Ent.goodConf];done)))
   ·trivial
   ·exact hA.keep (m:=[]) (Y:=[]) rfl
  intro h14
  refine NO rfl (NO rfl (NO rfl (PF rfl (MV rfl (NO rfl (NO rfl (NO rfl (NO rfl (NO rfl (PF rfl (AS rfl (NI [2] [_] rfl ?_))))))))))))
  refine WD 0 [] rfl (R1 Tryz.results85 () rfl (fun w hA => ⟨?_,?_,?_⟩))
  ·(exact congrArg Value.bool (by first | (simp [Ent.goodConf, *];done) | (simp_all [Ent.goodConf];done)))
  ·trivial
  ·exact hA.keep (m:=[]) (Y:=[]) rfl
 intro h9
 replace h9:=dF h9
 refine NO rfl (NO rfl (NO rfl (PF rfl (MV rfl (NO rfl (NO rfl (NO rfl (PF rfl (MV rfl (NO rfl (NO rfl (NO rfl (NO rfl ?_)))))))))))))
 refine NO rfl (PF rfl (AS rfl (NI [2] [_] rfl (WD 0 [] rfl (R1 Tryz.results85 () rfl (fun w hA => ⟨?_,?_,?_⟩))))))
 ·(exact congrArg Value.bool (by first | (simp [Ent.goodConf, *];done) | (simp_all [Ent.goodConf];done)))
 ·trivial
 ·exact hA.keep (m:=[]) (Y:=[]) rfl
theorem none_spec (vo le : List Int) (a1 : Option Addr) (c1 : Nat) (a2 : Option Addr) (c2 : Nat) (n1 : vo.length≤BIG) (n2 : le.length≤BIG) : Spec Tryz.prog 48 #[.agg #[.slice a1 (vo.length) c1,.slice a2 (le.length) c2]] [.dat kInt.sl (vo) [.slice a1 (vo.length) c1],.dat kInt.sl (le) [.slice a2 (le.length) c2]] (β:=Unit) (fun y => .bool (Ent.none ⟨vo,le⟩)) (fun y => True) (fun y => []):=by
 (try simp only [BIG] at n1 n2)
 refine Spec.enter (vs:=[_]) Tryz.func48 rfl Tryz.ntmps48 rfl (Nat.le_of_ble_eq_true rfl) (fun w0 ok0 => ?_)
 generalize hM0 : blks _ = M0
 have hMn:=@noM _ _ hM0 (by simp [Atom.dat,Atom.elem])
 refine H_len_le (i:=0) rfl ?_
 intro hlen0
 refine H_len_le (i:=1) rfl ?_
 intro hlen1
 refine SQ (RG rfl (BX [_,_] rfl ?_))
 intro g1
 refine AS rfl (NI [1] [_] rfl (SQ (RG rfl (FA 0 rfl Tryz.underlying31 rfl Tryz.sizeOf29 (LD 0 0 rfl Tryz.isAgg29 (BI rfl (bi_len_sl Tryz.underlying29) (FA 1 rfl Tryz.underlying31 rfl Tryz.sizeOf29 (LD 0 1 rfl Tryz.isAgg29 (BI rfl (bi_len_sl Tryz.underlying29) (BN rfl (bin_add ?_ ?_) ?_))))))))))
 ·omega
 ·omega
 refine BN rfl bin_eql (AS rfl (NI [2] [_] rfl (WD 0 [] rfl (R1 Tryz.results48 () rfl (fun w hA => ⟨?_,?_,?_⟩)))))
 ·(exact congrArg Value.bool (Ent.none_eq ⟨vo,le⟩))
 ·trivial
 ·exact hA.keep (m:=[]) (Y:=[]) rfl
theorem entgood_spec (ix te ki : Int) (ck cs sq : Int) (ke ol cv ti : ByteArray) (li : Int) (vo le : List Int) (a1 : Option Addr) (c1 : Nat) (a2 : Option Addr) (c2 : Nat) (n1 : vo.length≤BIG) (n2 : le.length≤BIG) : Spec Tryz.prog 46 #[.agg #[.int .i64 (ix),.int .i64 (te),.int .i64 (ki),.int .i64 (ck),.int .i64 (cs),.int .i64 (sq),.string (ke),.string (ol),.string (cv),.string (ti),.int .i64 (li),.slice a1 (vo.length) c1,.slice a2 (le.length) c2]] [.dat kInt.sl (vo) [.slice a1 (vo.length) c1],.dat kInt.sl (le) [.slice a2 (le.length) c2]] (β:=Unit) (fun y => .bool (Ent.good ⟨ix,te,ki,⟨ck,cs,sq,ke,ol,cv,ti,li⟩,⟨vo,le⟩⟩)) (fun y => True) (fun y => []):=by
 refine Spec.enter (vs:=[_]) Tryz.func46 rfl Tryz.ntmps46 rfl (Nat.le_of_ble_eq_true rfl) (fun w0 ok0 => ?_)
 generalize hM0 : blks _ = M0
 have hMn:=@noM _ _ hM0 (by simp [Atom.dat,Atom.elem])
 refine H_len_le (i:=0) rfl ?_
 intro hlen0
 refine H_len_le (i:=1) rfl ?_
 intro hlen1
 refine SQ (RG rfl (BX [_,_,_,_,_,_,_,_,_,_,_,_,_] rfl ?_))
 intro g1
 refine AS rfl (NI [1] [_] rfl (SQ (SQ (RG rfl (FA 0 rfl Tryz.underlying70 rfl Tryz.sizeOf3 (LD 0 0 rfl Tryz.isAgg3 (BN rfl bin_lss (MV rfl (HO_split (d:=7) rfl ?_ ?_)))))))))
 ·intro h7
  replace h7:=dT h7
  refine NO rfl (NO rfl (NO rfl (PT rfl (NI [11,1] [_,_] rfl (CT rfl (SQ (RG rfl (AS rfl (NI [2] [_] rfl (WD 0 [] rfl (R1 Tryz.results46 () rfl (fun w hA => ⟨?_,?_,?_⟩))))))))))))
  ·(exact congrArg Value.bool (by first | (simp [Ent.good,Ent.cmd0, *];done) | (simp_all [Ent.good,Ent.cmd0];done)))
  ·trivial
  ·exact hA.keep (m:=[]) (Y:=[]) rfl
 intro h7
 replace h7:=dF h7
 refine FA 1 rfl Tryz.underlying70 rfl Tryz.sizeOf3 (LD 0 1 rfl Tryz.isAgg3 (BN rfl bin_lss (PF rfl (NI [11,1] [_,_] rfl (H_cond rfl ?_ ?_)))))
 ·intro h11
  replace h11:=dT h11
  refine SQ (RG rfl (AS rfl (NI [2] [_] rfl (WD 0 [] rfl (R1 Tryz.results46 () rfl (fun w hA => ⟨?_,?_,?_⟩))))))
  ·(exact congrArg Value.bool (by first | (simp [Ent.good,Ent.cmd0, *];done) | (simp_all [Ent.good,Ent.cmd0];done)))
  ·trivial
  ·exact hA.keep (m:=[]) (Y:=[]) rfl
 intro h11
 replace h11:=dF h11
 refine SK (SQ (RG rfl (FA 3 rfl Tryz.underlying70 rfl Tryz.sizeOf68 (LA 0 [_,_,_] [_,_,_,_,_,_,_,_] [_,_] rfl (.loc _ _ _) Tryz.isAgg68 Tryz.sizeOf68 rfl (HO_build (xo:=[]) (vs:=[]) rfl rfl rfl rfl (bd68__) (BN rfl eq68_eql (AS rfl (NI [3,1] [_,_] rfl (SQ (SQ (RG rfl (FA 2 rfl Tryz.underlying70 rfl Tryz.sizeOf3 ?_))))))))))))
 refine LD 0 2 rfl Tryz.isAgg3 (NI [17,3,1] [_,_,_] rfl (BO (SQ (RG rfl (BN rfl bin_eql (AS rfl (NI [18,17,3,1] [_,_,_,_] rfl (H_cond rfl ?_ ?_))))))))
 ·intro h18
  replace h18:=dT h18
  refine SQ (RG rfl (MV rfl (MV rfl (HO_split (d:=21) rfl ?_ ?_))))
  ·intro h21
   (try simp only [decide_eq_true_eq,decide_eq_false_iff_not,Bool.not_eq_true',Bool.not_eq_false',Bool.not_eq_true,Bool.not_eq_false,Bool.true_eq_false,Bool.false_eq_true,not_false_eq_true,not_true_eq_false] at h21)
   refine FA 11 rfl Tryz.underlying70 rfl Tryz.sizeOf31 (LA 0 [_,_,_,_,_,_,_,_,_,_,_] [_,_] [] rfl (.loc _ _ _) Tryz.isAgg31 Tryz.sizeOf31 rfl (DU 1 rfl (DU 3 rfl (CB [0,0] [_,_,_] rfl Tryz.call48 (none_spec _ _ _ _ _ _ ?_ ?_) ?_))))
   ·(first | omega | assumption | decide)
   ·(first | omega | assumption | decide)
   intro y24 hy24
   clear y24 hy24
   refine PT rfl (AS rfl (NI [2] [_] rfl (WD 0 [] rfl (R1 Tryz.results46 () rfl (fun w hA => ⟨?_,?_,?_⟩)))))
   ·(exact congrArg Value.bool (by first | (simp [Ent.good,Ent.cmd0, *];done) | (simp_all [Ent.good,Ent.cmd0];done)))
   ·trivial
   ·exact hA.keep (m:=[]) (Y:=[]) rfl
  intro h21
  (try simp only [decide_eq_true_eq,decide_eq_false_iff_not,Bool.not_eq_true',Bool.not_eq_false',Bool.not_eq_true,Bool.not_eq_false,Bool.true_eq_false,Bool.false_eq_true,not_false_eq_true,not_true_eq_false] at h21)
  refine NO rfl (NO rfl (NO rfl (PF rfl (AS rfl (NI [2] [_] rfl (WD 0 [] rfl (R1 Tryz.results46 () rfl (fun w hA => ⟨?_,?_,?_⟩))))))))
  ·(exact congrArg Value.bool (by first | (simp [Ent.good,Ent.cmd0, *];done) | (simp_all [Ent.good,Ent.cmd0];done)))
  ·trivial
  ·exact hA.keep (m:=[]) (Y:=[]) rfl
 intro h18
 replace h18:=dF h18
 refine SQ (RG rfl (BN rfl bin_eql (AS rfl (NI [26,17,3,1] [_,_,_,_] rfl (H_cond rfl ?_ ?_)))))
 ·intro h26
  replace h26:=dT h26
  refine SQ (RG rfl (FA 11 rfl Tryz.underlying70 rfl Tryz.sizeOf31 (LA 0 [_,_,_,_,_,_,_,_,_,_,_] [_,_] [] rfl (.loc _ _ _) Tryz.isAgg31 Tryz.sizeOf31 rfl (DU 1 rfl (DU 3 rfl (CB [0,0] [_,_,_] rfl Tryz.call48 (none_spec _ _ _ _ _ _ ?_ ?_) ?_))))))
  ·(first | omega | assumption | decide)
  ·(first | omega | assumption | decide)
  intro y30 hy30
  clear y30 hy30
  refine MV rfl (HO_split (d:=31) rfl ?_ ?_)
  ·intro h31
   refine FA 3 rfl Tryz.underlying70 rfl Tryz.sizeOf68 (LA 0 [_,_,_] [_,_,_,_,_,_,_,_] [_,_] rfl (.loc _ _ _) Tryz.isAgg68 Tryz.sizeOf68 rfl (CB [] [_,_,_] rfl Tryz.call84 (good_spec _ _ _ _ _ _ _ _) ?_))
   intro y34 hy34
   clear y34 hy34
   refine PT rfl (AS rfl (NI [2] [_] rfl (WD 0 [] rfl (R1 Tryz.results46 () rfl (fun w hA => ⟨?_,?_,?_⟩)))))
   ·(exact congrArg Value.bool (by first | (simp [Ent.good,Ent.cmd0, *];done) | (simp_all [Ent.good,Ent.cmd0];done)))
   ·trivial
   ·exact hA.keep (m:=[]) (Y:=[]) rfl
  intro h31
  refine NO rfl (NO rfl (NO rfl (PF rfl (AS rfl (NI [2] [_] rfl (WD 0 [] rfl (R1 Tryz.results46 () rfl (fun w hA => ⟨?_,?_,?_⟩))))))))
  ·(exact congrArg Value.bool (by first | (simp [Ent.good,Ent.cmd0, *];done) | (simp_all [Ent.good,Ent.cmd0];done)))
  ·trivial
  ·exact hA.keep (m:=[]) (Y:=[]) rfl
 intro h26
 replace h26:=dF h26
 refine SQ (RG rfl (BN rfl bin_eql (AS rfl (NI [36,3,1] [_,_,_] rfl (H_cond rfl ?_ ?_)))))
 ·intro h36
  replace h36:=dT h36
  refine SQ (RG rfl (MV rfl (MV rfl (HO_split (d:=39) rfl ?_ ?_))))
  ·intro h39
   (try simp only [decide_eq_true_eq,decide_eq_false_iff_not,Bool.not_eq_true',Bool.not_eq_false',Bool.not_eq_true,Bool.not_eq_false,Bool.true_eq_false,Bool.false_eq_true,not_false_eq_true,not_true_eq_false] at h39)
   refine FA 11 rfl Tryz.underlying70 rfl Tryz.sizeOf31 (LA 0 [_,_,_,_,_,_,_,_,_,_,_] [_,_] [] rfl (.loc _ _ _) Tryz.isAgg31 Tryz.sizeOf31 rfl (DU 1 rfl (DU 3 rfl (CB [0,0] [_,_,_] rfl Tryz.call85 (goodconf_spec _ _ _ _ _ _) ?_))))
   intro y42 hy42
   clear y42 hy42
   refine PT rfl (AS rfl (NI [2] [_] rfl (WD 0 [] rfl (R1 Tryz.results46 () rfl (fun w hA => ⟨?_,?_,?_⟩)))))
   ·(exact congrArg Value.bool (by first | (simp [Ent.good,Ent.cmd0, *];done) | (simp_all [Ent.good,Ent.cmd0];done)))
   ·trivial
   ·exact hA.keep (m:=[]) (Y:=[]) rfl
  intro h39
  (try simp only [decide_eq_true_eq,decide_eq_false_iff_not,Bool.not_eq_true',Bool.not_eq_false',Bool.not_eq_true,Bool.not_eq_false,Bool.true_eq_false,Bool.false_eq_true,not_false_eq_true,not_true_eq_false] at h39)
  refine NO rfl (NO rfl (NO rfl (PF rfl (AS rfl (NI [2] [_] rfl (WD 0 [] rfl (R1 Tryz.results46 () rfl (fun w hA => ⟨?_,?_,?_⟩))))))))
  ·(exact congrArg Value.bool (by first | (simp [Ent.good,Ent.cmd0, *];done) | (simp_all [Ent.good,Ent.cmd0];done)))
  ·trivial
  ·exact hA.keep (m:=[]) (Y:=[]) rfl
 intro h36
 replace h36:=dF h36
 refine SK (BD (SQ (RG rfl (AS rfl (NI [2] [_] rfl (WD 0 [] rfl (R1 Tryz.results46 () rfl (fun w hA => ⟨?_,?_,?_⟩))))))))
 ·(exact congrArg Value.bool (by first | (simp [Ent.good,Ent.cmd0, *];done) | (simp_all [Ent.good,Ent.cmd0];done)))
 ·trivial
 ·exact hA.keep (m:=[]) (Y:=[]) rfl
theorem rrises_spec (l : List Int) (a : Option Addr) (c : Nat)  : Spec Tryz.prog 116 #[.slice a (l.length) c] [.dat kInt.sl (l) [.slice a (l.length) c]] (β:=Unit) (fun y => .bool (Ent.rises l)) (fun y => True) (fun y => []):=by
 refine Spec.enter (vs:=[_]) Tryz.func116 rfl Tryz.ntmps116 rfl (Nat.le_of_ble_eq_true rfl) (fun w0 ok0 => ?_)
 generalize hM0 : blks _ = M0
 have hMn:=@noM _ _ hM0 (by simp [Atom.dat,Atom.elem])
 refine H_len_le (i:=0) rfl ?_
 intro hlen0
 refine SQ (RG rfl (AS rfl (NI [0] [_] rfl (SQ (SQ (RG rfl (MV rfl (BI rfl (bi_len_sl Tryz.underlying29) (MV rfl (HO_nil (BO (H_loop (σ:=Nat) (fun s => s≤l.length∧Ent.rises l = Ent.risesFrom (Ent.pv l s) (l.drop s)) (fun s => [(0,.slice a (l.length) c),(5,.slice a (l.length) c),(6,.int .i64 ((l.length : Int))),(7,.int .i64 ((s : Int)))]) (fun s => Asn w0 ok0 M0 [.dat kInt.sl (l) [.slice a (l.length) c]]) (fun s => l.length - s) 0 ?_ ?_ ?_ ?_))))))))))))
 ·exact ⟨Nat.zero_le _,rfl⟩
 ·exact ⟨rfl,rfl,rfl,rfl,trivial⟩
 ·intro w hA
  exact hA.only (is:=[0]) (Z:=[]) rfl
 ·intro i hI
  (try dsimp only at hI ⊢)
  refine SQ (RG rfl (BN rfl bin_lss (HO_nil (SQ (H_cond rfl ?_ ?_)))))
  ·intro h8
   replace h8:=dT h8
   refine SK (SQ (BO (SQ (RG rfl (MV rfl (HO_indexAddr open_int (i:=0) rfl rfl rfl rfl rfl Tryz.underlying29 Tryz.sizeOf3 rfl ?_ ?_))))))
   ·omega
   intro b10 o10 z10 y10 hz10 hI10
   clear y10
   refine LE 0 0 rfl Tryz.isAgg3 (AS rfl (AS rfl (NI [4,3,0,5,6,7] [_,_,_,_,_,_] rfl (WD 2 [_] rfl (SQ (RG rfl (MV rfl (BN rfl bin_lss (MV rfl (HO_split (d:=14) rfl ?_ ?_))))))))))
   ·intro h14
    replace h14:=dT h14
    refine NO rfl (NO rfl (PT rfl (MV rfl ?_)))
    iterate 11 refine HO_no rfl rfl rfl ?_
    refine PT rfl (NI [30,0,5,6,7] [_,_,_,_,_] rfl (CT rfl (SQ (RG rfl (AS rfl (NI [2] [_] rfl (WD 0 [] rfl (R1 Tryz.results116 () rfl (fun w hA => ⟨?_,?_,?_⟩)))))))))
    ·(exact congrArg Value.bool (by first | exact Ent.rises_no hz10 hI.2 (.inl h14) | exact Ent.rises_no hz10 hI.2 (.inr (.inl h18)) | exact Ent.rises_no hz10 hI.2 (.inr (.inr (by rw [Ent.pv_at h21 hz25];omega))) | exact Ent.rises_end hI.2 (by omega)))
    ·trivial
    ·exact hA.keep (m:=[]) (Y:=[]) rfl
   intro h14
   replace h14:=dF h14
   refine MV rfl (BN rfl bin_gtr (PF rfl (MV rfl (HO_split (d:=18) rfl ?_ ?_))))
   ·intro h18
    replace h18:=dT h18
    iterate 11 refine HO_no rfl rfl rfl ?_
    refine PT rfl (NI [30,0,5,6,7] [_,_,_,_,_] rfl (CT rfl (SQ (RG rfl (AS rfl (NI [2] [_] rfl (WD 0 [] rfl (R1 Tryz.results116 () rfl (fun w hA => ⟨?_,?_,?_⟩)))))))))
    ·(exact congrArg Value.bool (by first | exact Ent.rises_no hz10 hI.2 (.inl h14) | exact Ent.rises_no hz10 hI.2 (.inr (.inl h18)) | exact Ent.rises_no hz10 hI.2 (.inr (.inr (by rw [Ent.pv_at h21 hz25];omega))) | exact Ent.rises_end hI.2 (by omega)))
    ·trivial
    ·exact hA.keep (m:=[]) (Y:=[]) rfl
   intro h18
   replace h18:=dF h18
   refine MV rfl (BN rfl bin_gtr (MV rfl (HO_split (d:=21) rfl ?_ ?_)))
   ·intro h21
    replace h21:=dT h21
    refine MV rfl (MV rfl (BN rfl (bin_sub ?_ ?_) ?_))
    ·omega
    ·omega
    refine HO_indexAddr open_int (i:=0) (j:=i - 1) rfl rfl rfl rfl ?_ Tryz.underlying29 Tryz.sizeOf3 rfl ?_ ?_
    ·omega
    ·omega
    intro b25 o25 z25 y25 hz25 hI25
    clear y25
    refine LE 0 0 rfl Tryz.isAgg3 (MV rfl (BN rfl bin_geq (PT rfl (PF rfl (NI [30,0,5,6,7] [_,_,_,_,_] rfl (WD 2 [_] rfl (H_cond rfl ?_ ?_)))))))
    ·intro h30
     replace h30:=dT h30
     refine SQ (RG rfl (AS rfl (NI [2] [_] rfl (WD 0 [] rfl (R1 Tryz.results116 () rfl (fun w hA => ⟨?_,?_,?_⟩))))))
     ·(exact congrArg Value.bool (by first | exact Ent.rises_no hz10 hI.2 (.inl h14) | exact Ent.rises_no hz10 hI.2 (.inr (.inl h18)) | exact Ent.rises_no hz10 hI.2 (.inr (.inr (by rw [Ent.pv_at h21 hz25];omega))) | exact Ent.rises_end hI.2 (by omega)))
     ·trivial
     ·exact hA.keep (m:=[]) (Y:=[]) rfl
    intro h30
    replace h30:=dF h30
    refine SK (BD (RG rfl (BN rfl (bin_add ?_ ?_) ?_)))
    ·omega
    ·omega
    refine MV rfl (NI [7,0,5,6] [_,_,_,_] rfl (H_inv (fun a w hf hA => ⟨i + 1,?_,?_,hf.sub ?_,?_⟩)))
    ·exact ⟨by omega,Ent.rises_next hz10 hI.2 (by omega) (by omega) (by first | (rw [Ent.pv_0 h21];omega) | (rw [Ent.pv_at h21 hz25];omega))⟩
    ·(try dsimp only);omega
    ·exact ⟨rfl,rfl,rfl,rfl,trivial⟩
    ·exact hA.only (is:=[0]) (Z:=[]) rfl
   intro h21
   replace h21:=dF h21
   iterate 7 refine HO_no rfl rfl rfl ?_
   refine PF rfl (PF rfl (NI [30,0,5,6,7] [_,_,_,_,_] rfl (CF rfl (SK (BD (RG rfl (BN rfl (bin_add ?_ ?_) ?_)))))))
   ·omega
   ·omega
   refine MV rfl (NI [7,0,5,6] [_,_,_,_] rfl (H_inv (fun a w hf hA => ⟨i + 1,?_,?_,hf.sub ?_,?_⟩)))
   ·exact ⟨by omega,Ent.rises_next hz10 hI.2 (by omega) (by omega) (by first | (rw [Ent.pv_0 h21];omega) | (rw [Ent.pv_at h21 hz25];omega))⟩
   ·(try dsimp only);omega
   ·exact ⟨rfl,rfl,rfl,rfl,trivial⟩
   ·exact hA.only (is:=[0]) (Z:=[]) rfl
  intro h8
  replace h8:=dF h8
  refine H_exit rfl (SQ (RG rfl (AS rfl (NI [2] [_] rfl (WD 0 [] rfl (R1 Tryz.results116 () rfl (fun w hA => ⟨?_,?_,?_⟩)))))))
  ·(exact congrArg Value.bool (by first | exact Ent.rises_no hz10 hI.2 (.inl h14) | exact Ent.rises_no hz10 hI.2 (.inr (.inl h18)) | exact Ent.rises_no hz10 hI.2 (.inr (.inr (by rw [Ent.pv_at h21 hz25];omega))) | exact Ent.rises_end hI.2 (by omega)))
  ·trivial
  ·exact hA.keep (m:=[]) (Y:=[]) rfl
theorem rgoodconf_spec (vo le : List Int) (a1 : Option Addr) (c1 : Nat) (a2 : Option Addr) (c2 : Nat)  : Spec Tryz.prog 83 #[.agg #[.slice a1 (vo.length) c1,.slice a2 (le.length) c2]] [.dat kInt.sl (vo) [.slice a1 (vo.length) c1],.dat kInt.sl (le) [.slice a2 (le.length) c2]] (β:=Unit) (fun y => .bool (Ent.goodConf ⟨vo,le⟩)) (fun y => True) (fun y => []):=by
 refine Spec.enter (vs:=[_]) Tryz.func83 rfl Tryz.ntmps83 rfl (Nat.le_of_ble_eq_true rfl) (fun w0 ok0 => ?_)
 generalize hM0 : blks _ = M0
 have hMn:=@noM _ _ hM0 (by simp [Atom.dat,Atom.elem])
 refine H_len_le (i:=0) rfl ?_
 intro hlen0
 refine H_len_le (i:=1) rfl ?_
 intro hlen1
 refine SQ (RG rfl (BX [_,_] rfl ?_))
 intro g1
 refine AS rfl (NI [1] [_] rfl (SQ (SQ (RG rfl (FA 0 rfl Tryz.underlying31 rfl Tryz.sizeOf29 (LD 0 0 rfl Tryz.isAgg29 (DU 1 rfl (CB [0] [_,_,_] rfl Tryz.call116 (rrises_spec _ _ _) ?_))))))))
 intro y9 hy9
 clear y9 hy9
 refine NT rfl (MV rfl (HO_split (d:=11) rfl ?_ ?_))
 ·intro h11
  replace h11:=nT h11
  refine NO rfl (NO rfl (NO rfl (NO rfl (PT rfl (MV rfl (NO rfl (NO rfl (NO rfl (NO rfl (PT rfl (NI [22,1] [_,_] rfl (CT rfl ?_))))))))))))
  refine SQ (RG rfl (AS rfl (NI [2] [_] rfl (WD 0 [] rfl (R1 Tryz.results83 () rfl (fun w hA => ⟨?_,?_,?_⟩))))))
  ·(exact congrArg Value.bool (by first | exact Ent.rgood_no hz28 hz35 h39 | (simp_all [Ent.goodConf];done) | exact Ent.rgood_yes h11 h17 h22 hI (by omega)))
  ·trivial
  ·exact hA.keep (m:=[]) (Y:=[]) rfl
 intro h11
 replace h11:=nF h11
 refine FA 1 rfl Tryz.underlying31 rfl Tryz.sizeOf29 (LD 0 1 rfl Tryz.isAgg29 (DU 2 rfl (CB [0] [_,_,_] rfl Tryz.call116 (rrises_spec _ _ _) ?_)))
 intro y14 hy14
 clear y14 hy14
 refine NT rfl (PF rfl (MV rfl (HO_split (d:=17) rfl ?_ ?_)))
 ·intro h17
  replace h17:=nT h17
  refine NO rfl (NO rfl (NO rfl (NO rfl (PT rfl (NI [22,1] [_,_] rfl (CT rfl (SQ (RG rfl (AS rfl (NI [2] [_] rfl (WD 0 [] rfl ?_)))))))))))
  refine R1 Tryz.results83 () rfl (fun w hA => ⟨?_,?_,?_⟩)
  ·(exact congrArg Value.bool (by first | exact Ent.rgood_no hz28 hz35 h39 | (simp_all [Ent.goodConf];done) | exact Ent.rgood_yes h11 h17 h22 hI (by omega)))
  ·trivial
  ·exact hA.keep (m:=[]) (Y:=[]) rfl
 intro h17
 replace h17:=nF h17
 refine FA 0 rfl Tryz.underlying31 rfl Tryz.sizeOf29 (LD 0 0 rfl Tryz.isAgg29 (BI rfl (bi_len_sl Tryz.underlying29) (BN rfl bin_eql (PF rfl (NI [22,1] [_,_] rfl (H_cond rfl ?_ ?_))))))
 ·intro h22
  replace h22:=dT h22
  refine SQ (RG rfl (AS rfl (NI [2] [_] rfl (WD 0 [] rfl (R1 Tryz.results83 () rfl (fun w hA => ⟨?_,?_,?_⟩))))))
  ·(exact congrArg Value.bool (by first | exact Ent.rgood_no hz28 hz35 h39 | (simp_all [Ent.goodConf];done) | exact Ent.rgood_yes h11 h17 h22 hI (by omega)))
  ·trivial
  ·exact hA.keep (m:=[]) (Y:=[]) rfl
 intro h22
 replace h22:=dF h22
 refine SK (SQ (SQ (RG rfl (FA 0 rfl Tryz.underlying31 rfl Tryz.sizeOf29 (LD 0 0 rfl Tryz.isAgg29 (BI rfl (bi_len_sl Tryz.underlying29) (MV rfl (NI [26,25,24,1] [_,_,_,_] rfl (BO (H_loop (σ:=Nat) (fun s => s≤vo.length∧∀ x ∈ vo.take s,x ∉ le) (fun s => [(1,.pointer (some ⟨g1,0,none⟩)),(24,.slice a1 (vo.length) c1),(25,.int .i64 ((vo.length : Int))),(26,.int .i64 ((s : Int)))]) (fun s => Asn w0 ok0 M0 [.loc g1 [.slice a1 (vo.length) c1,.slice a2 (le.length) c2] 31,.dat kInt.sl (vo) [.slice a1 (vo.length) c1],.dat kInt.sl (le) [.slice a2 (le.length) c2]]) (fun s => vo.length - s) 0 ?_ ?_ ?_ ?_))))))))))
 ·exact ⟨Nat.zero_le _,by simp⟩
 ·exact ⟨rfl,rfl,rfl,rfl,trivial⟩
 ·intro w hA
  exact hA.only (is:=[0,1,2]) (Z:=[]) rfl
 ·intro i hI
  (try dsimp only at hI ⊢)
  have hout:=hI
  refine SQ (RG rfl (BN rfl bin_lss (HO_nil (SQ (H_cond rfl ?_ ?_)))))
  ·intro h27
   replace h27:=dT h27
   refine SK (SQ (BO (SQ (RG rfl (HO_indexAddr open_int (i:=1) rfl rfl rfl rfl rfl Tryz.underlying29 Tryz.sizeOf3 rfl ?_ ?_)))))
   ·omega
   intro b28 o28 z28 y28 hz28 hI28
   clear y28
   refine LE 0 0 rfl Tryz.isAgg3 (AS rfl (NI [4,1,24,25,26] [_,_,_,_,_] rfl (WD 14 [_,_,_] rfl (SQ (RG rfl (FA 1 rfl Tryz.underlying31 rfl Tryz.sizeOf29 (LD 0 1 rfl Tryz.isAgg29 (BI rfl (bi_len_sl Tryz.underlying29) (MV rfl (NI [33,32,31,4,1,24,25,26] [_,_,_,_,_,_,_,_] rfl (BO ?_)))))))))))
   refine H_loop (σ:=Nat) (fun s => s≤le.length∧z28 ∉ le.take s) (fun s => [(1,.pointer (some ⟨g1,0,none⟩)),(4,.int .i64 (z28)),(24,.slice a1 (vo.length) c1),(25,.int .i64 ((vo.length : Int))),(26,.int .i64 ((i : Int))),(31,.slice a2 (le.length) c2),(32,.int .i64 ((le.length : Int))),(33,.int .i64 ((s : Int)))]) (fun s => Asn w0 ok0 M0 [.loc g1 [.slice a1 (vo.length) c1,.slice a2 (le.length) c2] 31,.dat kInt.sl (vo) [.slice a1 (vo.length) c1],.dat kInt.sl (le) [.slice a2 (le.length) c2]]) (fun s => le.length - s) 0 ?_ ?_ ?_ ?_
   ·exact ⟨Nat.zero_le _,by simp⟩
   ·exact ⟨rfl,rfl,rfl,rfl,rfl,rfl,rfl,rfl,trivial⟩
   ·intro w hA
    exact hA.only (is:=[0,1,2]) (Z:=[]) rfl
   ·intro j hI
    (try dsimp only at hI ⊢)
    refine SQ (RG rfl (BN rfl bin_lss (HO_nil (SQ (H_cond rfl ?_ ?_)))))
    ·intro h34
     replace h34:=dT h34
     refine SK (SQ (BO (SQ (RG rfl (HO_indexAddr open_int (i:=2) rfl rfl rfl rfl rfl Tryz.underlying29 Tryz.sizeOf3 rfl ?_ ?_)))))
     ·omega
     intro b35 o35 z35 y35 hz35 hI35
     clear y35
     refine LE 0 0 rfl Tryz.isAgg3 (AS rfl (NI [6,1,4,24,25,26,31,32,33] [_,_,_,_,_,_,_,_,_] rfl (WD 14 [_,_,_] rfl (SQ (RG rfl (MV rfl (MV rfl (BN rfl bin_eql (NI [39,1,4,24,25,26,31,32,33] [_,_,_,_,_,_,_,_,_] rfl (H_cond rfl ?_ ?_))))))))))
     ·intro h39
      replace h39:=dT h39
      refine SQ (RG rfl (AS rfl (NI [2] [_] rfl (WD 0 [] rfl (R1 Tryz.results83 () rfl (fun w hA => ⟨?_,?_,?_⟩))))))
      ·(exact congrArg Value.bool (by first | exact Ent.rgood_no hz28 hz35 h39 | (simp_all [Ent.goodConf];done) | exact Ent.rgood_yes h11 h17 h22 hI (by omega)))
      ·trivial
      ·exact hA.keep (m:=[]) (Y:=[]) rfl
     intro h39
     replace h39:=dF h39
     refine SK (BD (RG rfl (BN rfl (bin_add ?_ ?_) ?_)))
     ·omega
     ·omega
     refine MV rfl (NI [33,1,4,24,25,26,31,32] [_,_,_,_,_,_,_,_] rfl (H_inv (fun a w hf hA => ⟨j + 1,?_,?_,hf.sub ?_,?_⟩)))
     ·exact ⟨by omega,fun h => ((Ent.mem_next hz35).1 h).elim hI.2 h39⟩
     ·(try dsimp only);omega
     ·exact ⟨rfl,rfl,rfl,rfl,rfl,rfl,rfl,rfl,trivial⟩
     ·exact hA.only (is:=[0,1,2]) (Z:=[]) rfl
    intro h34
    replace h34:=dF h34
    refine H_exit rfl (BD (RG rfl (BN rfl (bin_add ?_ ?_) ?_)))
    ·omega
    ·omega
    refine MV rfl (NI [26,1,24,25] [_,_,_,_] rfl (H_inv (fun a w hf hA => ⟨i + 1,?_,?_,hf.sub ?_,?_⟩)))
    ·exact ⟨by omega,fun x hx => ((Ent.mem_next hz28).1 hx).elim (hout.2 x) (fun e => by subst e;have:=hI.2;rwa [show j = le.length by omega,List.take_length] at this)⟩
    ·(try dsimp only);omega
    ·exact ⟨rfl,rfl,rfl,rfl,trivial⟩
    ·exact hA.only (is:=[0,1,2]) (Z:=[]) rfl
  intro h27
  replace h27:=dF h27
  refine H_exit rfl (SQ (RG rfl (AS rfl (NI [2] [_] rfl (WD 0 [] rfl (R1 Tryz.results83 () rfl (fun w hA => ⟨?_,?_,?_⟩)))))))
  ·(exact congrArg Value.bool (by first | exact Ent.rgood_no hz28 hz35 h39 | (simp_all [Ent.goodConf];done) | exact Ent.rgood_yes h11 h17 h22 hI (by omega)))
  ·trivial
  ·exact hA.keep (m:=[]) (Y:=[]) rfl
theorem rentgood_spec (ix te ki : Int) (ck cs sq : Int) (ke ol cv ti : ByteArray) (li : Int) (vo le : List Int) (a1 : Option Addr) (c1 : Nat) (a2 : Option Addr) (c2 : Nat) (n1 : vo.length≤BIG) (n2 : le.length≤BIG) : Spec Tryz.prog 43 #[.agg #[.int .i64 (ix),.int .i64 (te),.int .i64 (ki),.int .i64 (ck),.int .i64 (cs),.int .i64 (sq),.string (ke),.string (ol),.string (cv),.string (ti),.int .i64 (li),.slice a1 (vo.length) c1,.slice a2 (le.length) c2]] [.dat kInt.sl (vo) [.slice a1 (vo.length) c1],.dat kInt.sl (le) [.slice a2 (le.length) c2]] (β:=Unit) (fun y => .bool (Ent.good ⟨ix,te,ki,⟨ck,cs,sq,ke,ol,cv,ti,li⟩,⟨vo,le⟩⟩)) (fun y => True) (fun y => []):=by
 (try simp only [BIG] at n1 n2)
 refine Spec.enter (vs:=[_]) Tryz.func43 rfl Tryz.ntmps43 rfl (Nat.le_of_ble_eq_true rfl) (fun w0 ok0 => ?_)
 generalize hM0 : blks _ = M0
 have hMn:=@noM _ _ hM0 (by simp [Atom.dat,Atom.elem])
 refine H_len_le (i:=0) rfl ?_
 intro hlen0
 refine H_len_le (i:=1) rfl ?_
 intro hlen1
 refine SQ (RG rfl (BX [_,_,_,_,_,_,_,_,_,_,_,_,_] rfl ?_))
 intro g1
 refine AS rfl (NI [1] [_] rfl (SQ (SQ (RG rfl (FA 0 rfl Tryz.underlying70 rfl Tryz.sizeOf3 (LD 0 0 rfl Tryz.isAgg3 (BN rfl bin_lss (MV rfl (HO_split (d:=7) rfl ?_ ?_)))))))))
 ·intro h7
  replace h7:=dT h7
  refine NO rfl (NO rfl (NO rfl (PT rfl (NI [11,1] [_,_] rfl (CT rfl (SQ (RG rfl (AS rfl (NI [2] [_] rfl (WD 0 [] rfl (R1 Tryz.results43 () rfl (fun w hA => ⟨?_,?_,?_⟩))))))))))))
  ·(exact congrArg Value.bool (by first | (simp [Ent.good,Ent.cmd0, *];done) | (simp_all [Ent.good,Ent.cmd0];done)))
  ·trivial
  ·exact hA.keep (m:=[]) (Y:=[]) rfl
 intro h7
 replace h7:=dF h7
 refine FA 1 rfl Tryz.underlying70 rfl Tryz.sizeOf3 (LD 0 1 rfl Tryz.isAgg3 (BN rfl bin_lss (PF rfl (NI [11,1] [_,_] rfl (H_cond rfl ?_ ?_)))))
 ·intro h11
  replace h11:=dT h11
  refine SQ (RG rfl (AS rfl (NI [2] [_] rfl (WD 0 [] rfl (R1 Tryz.results43 () rfl (fun w hA => ⟨?_,?_,?_⟩))))))
  ·(exact congrArg Value.bool (by first | (simp [Ent.good,Ent.cmd0, *];done) | (simp_all [Ent.good,Ent.cmd0];done)))
  ·trivial
  ·exact hA.keep (m:=[]) (Y:=[]) rfl
 intro h11
 replace h11:=dF h11
 refine SK (SQ (RG rfl (FA 11 rfl Tryz.underlying70 rfl Tryz.sizeOf31 (FA 11 rfl Tryz.underlying31 rfl Tryz.sizeOf29 (LD 0 11 rfl Tryz.isAgg29 (BI rfl (bi_len_sl Tryz.underlying29) (FA 11 rfl Tryz.underlying70 rfl Tryz.sizeOf31 (FA 12 rfl Tryz.underlying31 rfl Tryz.sizeOf29 (LD 0 12 rfl Tryz.isAgg29 (BI rfl (bi_len_sl Tryz.underlying29) (BN rfl (bin_add ?_ ?_) ?_)))))))))))
 ·omega
 ·omega
 refine BN rfl bin_eql (HO_set (v':=.bool (Ent.none ⟨vo,le⟩)) 21 rfl (by exact congrArg Value.bool (Ent.none_eq ⟨vo,le⟩)) (AS rfl (NI [3,1] [_,_] rfl (SQ (SQ (RG rfl (FA 2 rfl Tryz.underlying70 rfl Tryz.sizeOf3 (LD 0 2 rfl Tryz.isAgg3 (NI [23,3,1] [_,_,_] rfl (BO (SQ ?_)))))))))))
 refine RG rfl (BN rfl bin_eql (AS rfl (NI [24,23,3,1] [_,_,_,_] rfl (H_cond rfl ?_ ?_))))
 ·intro h24
  replace h24:=dT h24
  refine SQ (RG rfl (MV rfl (MV rfl (HO_split (d:=27) rfl ?_ ?_))))
  ·intro h27
   refine FA 3 rfl Tryz.underlying70 rfl Tryz.sizeOf68 (LA 0 [_,_,_] [_,_,_,_,_,_,_,_] [_,_] rfl (.loc _ _ _) Tryz.isAgg68 Tryz.sizeOf68 rfl (HO_build (xo:=[]) (vs:=[]) rfl rfl rfl rfl (bd68__) (BN rfl eq68_eql (PT rfl (AS rfl (NI [2] [_] rfl (WD 0 [] rfl (R1 Tryz.results43 () rfl (fun w hA => ⟨?_,?_,?_⟩)))))))))
   ·(exact congrArg Value.bool (by first | (simp [Ent.good,Ent.cmd0, *];done) | (simp_all [Ent.good,Ent.cmd0];done)))
   ·trivial
   ·exact hA.keep (m:=[]) (Y:=[]) rfl
  intro h27
  refine NO rfl (NO rfl (NO rfl (NO rfl (PF rfl (AS rfl (NI [2] [_] rfl (WD 0 [] rfl (R1 Tryz.results43 () rfl (fun w hA => ⟨?_,?_,?_⟩)))))))))
  ·(exact congrArg Value.bool (by first | (simp [Ent.good,Ent.cmd0, *];done) | (simp_all [Ent.good,Ent.cmd0];done)))
  ·trivial
  ·exact hA.keep (m:=[]) (Y:=[]) rfl
 intro h24
 replace h24:=dF h24
 refine SQ (RG rfl (BN rfl bin_eql (AS rfl (NI [33,23,3,1] [_,_,_,_] rfl (H_cond rfl ?_ ?_)))))
 ·intro h33
  replace h33:=dT h33
  refine SQ (RG rfl (MV rfl (MV rfl (HO_split (d:=36) rfl ?_ ?_))))
  ·intro h36
   refine FA 3 rfl Tryz.underlying70 rfl Tryz.sizeOf68 (LA 0 [_,_,_] [_,_,_,_,_,_,_,_] [_,_] rfl (.loc _ _ _) Tryz.isAgg68 Tryz.sizeOf68 rfl (CB [] [_,_,_] rfl Tryz.call82 (rgood_spec _ _ _ _ _ _ _ _) ?_))
   intro y39 hy39
   clear y39 hy39
   refine PT rfl (AS rfl (NI [2] [_] rfl (WD 0 [] rfl (R1 Tryz.results43 () rfl (fun w hA => ⟨?_,?_,?_⟩)))))
   ·(exact congrArg Value.bool (by first | (simp [Ent.good,Ent.cmd0, *];done) | (simp_all [Ent.good,Ent.cmd0];done)))
   ·trivial
   ·exact hA.keep (m:=[]) (Y:=[]) rfl
  intro h36
  refine NO rfl (NO rfl (NO rfl (PF rfl (AS rfl (NI [2] [_] rfl (WD 0 [] rfl (R1 Tryz.results43 () rfl (fun w hA => ⟨?_,?_,?_⟩))))))))
  ·(exact congrArg Value.bool (by first | (simp [Ent.good,Ent.cmd0, *];done) | (simp_all [Ent.good,Ent.cmd0];done)))
  ·trivial
  ·exact hA.keep (m:=[]) (Y:=[]) rfl
 intro h33
 replace h33:=dF h33
 refine SQ (RG rfl (BN rfl bin_eql (AS rfl (NI [41,1] [_,_] rfl (H_cond rfl ?_ ?_)))))
 ·intro h41
  replace h41:=dT h41
  refine SQ (RG rfl (FA 11 rfl Tryz.underlying70 rfl Tryz.sizeOf31 (LA 0 [_,_,_,_,_,_,_,_,_,_,_] [_,_] [] rfl (.loc _ _ _) Tryz.isAgg31 Tryz.sizeOf31 rfl (DU 1 rfl (DU 3 rfl (CB [0,0] [_,_,_] rfl Tryz.call83 (rgoodconf_spec _ _ _ _ _ _) ?_))))))
  intro y45 hy45
  clear y45 hy45
  refine MV rfl (HO_split (d:=46) rfl ?_ ?_)
  ·intro h46
   refine FA 3 rfl Tryz.underlying70 rfl Tryz.sizeOf68 (LA 0 [_,_,_] [_,_,_,_,_,_,_,_] [_,_] rfl (.loc _ _ _) Tryz.isAgg68 Tryz.sizeOf68 rfl (HO_build (xo:=[]) (vs:=[]) rfl rfl rfl rfl (bd68__) (BN rfl eq68_eql (PT rfl (AS rfl (NI [2] [_] rfl (WD 0 [] rfl (R1 Tryz.results43 () rfl (fun w hA => ⟨?_,?_,?_⟩)))))))))
   ·(exact congrArg Value.bool (by first | (simp [Ent.good,Ent.cmd0, *];done) | (simp_all [Ent.good,Ent.cmd0];done)))
   ·trivial
   ·exact hA.keep (m:=[]) (Y:=[]) rfl
  intro h46
  refine NO rfl (NO rfl (NO rfl (NO rfl (PF rfl (AS rfl (NI [2] [_] rfl (WD 0 [] rfl (R1 Tryz.results43 () rfl (fun w hA => ⟨?_,?_,?_⟩)))))))))
  ·(exact congrArg Value.bool (by first | (simp [Ent.good,Ent.cmd0, *];done) | (simp_all [Ent.good,Ent.cmd0];done)))
  ·trivial
  ·exact hA.keep (m:=[]) (Y:=[]) rfl
 intro h41
 replace h41:=dF h41
 refine SK (BD (SQ (RG rfl (AS rfl (NI [2] [_] rfl (WD 0 [] rfl (R1 Tryz.results43 () rfl (fun w hA => ⟨?_,?_,?_⟩))))))))
 ·(exact congrArg Value.bool (by first | (simp [Ent.good,Ent.cmd0, *];done) | (simp_all [Ent.good,Ent.cmd0];done)))
 ·trivial
 ·exact hA.keep (m:=[]) (Y:=[]) rfl
theorem rints_spec (l l2 : List Int) (a : Option Addr) (c : Nat) (a2 : Option Addr) (c2 : Nat)  : Spec Tryz.prog 96 #[.slice a (l.length) c,.slice a2 (l2.length) c2] [.dat kInt.sl (l) [.slice a (l.length) c],.dat kInt.sl (l2) [.slice a2 (l2.length) c2]] (β:=Unit) (fun y => .bool (decide (l = l2))) (fun y => True) (fun y => []):=by
 refine Spec.enter (vs:=[_,_]) Tryz.func96 rfl Tryz.ntmps96 rfl (Nat.le_of_ble_eq_true rfl) (fun w0 ok0 => ?_)
 generalize hM0 : blks _ = M0
 have hMn:=@noM _ _ hM0 (by simp [Atom.dat,Atom.elem])
 refine H_len_le (i:=0) rfl ?_
 intro hlen0
 refine H_len_le (i:=1) rfl ?_
 intro hlen1
 refine SQ (RG rfl (AS rfl (NI [0,1] [_,_] rfl (SQ (SQ (RG rfl (MV rfl (BI rfl (bi_len_sl Tryz.underlying29) (MV rfl (BI rfl (bi_len_sl Tryz.underlying29) (BN rfl bin_neq (HO_nil ?_))))))))))))
 refine EV [10,0,1] [_,_,_] rfl (H_cond rfl ?_ ?_)
 ·intro h10
  replace h10:=dT h10
  refine SQ (RG rfl (AS rfl (NI [4] [_] rfl (WD 0 [] rfl (R1 Tryz.results96 () rfl (fun w hA => ⟨?_,?_,?_⟩))))))
  ·(first | exact congrArg Value.bool (Ent.same_no hz18 hz22 h24).symm | exact congrArg Value.bool (Ent.same_yes hl hI).symm | exact congrArg Value.bool (Ent.same_len h10).symm)
  ·trivial
  ·exact hA.keep (m:=[]) (Y:=[]) rfl
 intro h10
 replace h10:=dF h10
 have hl : l.length = l2.length:=by omega
 refine SK (SQ (SQ (RG rfl (MV rfl (BI rfl (bi_len_sl Tryz.underlying29) (MV rfl (NI [13,12,0,1] [_,_,_,_] rfl (BO (H_loop (σ:=Nat) (fun s => s≤l.length∧l.take s = l2.take s) (fun s => [(0,.slice a (l.length) c),(1,.slice a2 (l2.length) c2),(12,.int .i64 ((l.length : Int))),(13,.int .i64 ((s : Int)))]) (fun s => Asn w0 ok0 M0 [.dat kInt.sl (l) [.slice a (l.length) c],.dat kInt.sl (l2) [.slice a2 (l2.length) c2]]) (fun s => l.length - s) 0 ?_ ?_ ?_ ?_)))))))))
 ·exact ⟨Nat.zero_le _,by simp⟩
 ·exact ⟨rfl,rfl,rfl,rfl,trivial⟩
 ·intro w hA
  exact hA.only (is:=[0,1]) (Z:=[]) rfl
 ·intro i hI
  (try dsimp only at hI ⊢)
  refine SQ (RG rfl (BN rfl bin_lss (HO_nil (SQ (H_cond rfl ?_ ?_)))))
  ·intro h14
   replace h14:=dT h14
   refine SK (SQ (BO (SQ (RG rfl (MV rfl (AS rfl (NI [5,0,1,12,13] [_,_,_,_,_] rfl (SQ (H_drawB (m:=[yy,yy]) (Xs:=[_,_]) (fuel:=9) (l:=#[false,false,false,false,false,false,false,false,false]) mixed rfl rfl rfl (TA 0 rfl (by kernel_rfl) (V_move rfl) (TA 1 rfl (by kernel_rfl) (V_move rfl) (TA 4 rfl (by kernel_rfl) (V_move rfl) ?_))))))))))))
   refine TA 5 rfl (by kernel_rfl) (V_move rfl) (HA_loud2 (i:=2) (j:=6) (by kernel_rfl) rfl rfl ?_ ?_)
   ·refine HO_indexAddr open_int (i:=0) rfl rfl rfl rfl rfl Tryz.underlying29 Tryz.sizeOf3 rfl ?_ ?_
    ·omega
    intro b18 o18 z18 y18 hz18 hI18
    clear y18
    refine BK 6 [_,_] rfl (HA_loud2 (i:=3) (j:=6) (by kernel_rfl) rfl rfl ?_ ?_)
    ·refine HO_load1 (i:=0) (j:=0) rfl rfl rfl Tryz.isAgg3 rfl (.elem _ _ _) rfl rfl ?_
     refine BK 6 [_,_] rfl (LO 6 (by kernel_rfl) rfl (HO_indexAddr open_int (i:=2) rfl rfl rfl rfl rfl Tryz.underlying29 Tryz.sizeOf3 rfl ?_ ?_))
     ·omega
     intro b22 o22 z22 y22 hz22 hI22
     clear y22
     refine BK 12 [_,_] rfl (LO 7 (by kernel_rfl) rfl (LE 0 0 rfl Tryz.isAgg3 (BK 12 [_,_] rfl (TK 8 12 [_,_] rfl (by kernel_rfl) (V_bin rfl rfl bin_neq) (HA_done (by kernel_rfl) (EV [24,0,1,12,13] [_,_,_,_,_] rfl (WD 12 [_,_] rfl (H_cond rfl ?_ ?_))))))))
     ·intro h24
      replace h24:=dT h24
      refine SQ (RG rfl (AS rfl (NI [4] [_] rfl (WD 0 [] rfl (R1 Tryz.results96 () rfl (fun w hA => ⟨?_,?_,?_⟩))))))
      ·(first | exact congrArg Value.bool (Ent.same_no hz18 hz22 h24).symm | exact congrArg Value.bool (Ent.same_yes hl hI).symm | exact congrArg Value.bool (Ent.same_len h10).symm)
      ·trivial
      ·exact hA.keep (m:=[]) (Y:=[]) rfl
     intro h24
     replace h24:=dF h24
     refine SK (BD (RG rfl (BN rfl (bin_add ?_ ?_) ?_)))
     ·omega
     ·omega
     refine MV rfl (NI [13,0,1,12] [_,_,_,_] rfl (H_inv (fun a w hf hA => ⟨i + 1,?_,?_,hf.sub ?_,?_⟩)))
     ·exact ⟨by omega,Ent.same_next hz18 hz22 hI.2 (Decidable.not_not.1 h24)⟩
     ·(try dsimp only);omega
     ·exact ⟨rfl,rfl,rfl,rfl,trivial⟩
     ·exact hA.only (is:=[0,1]) (Z:=[]) rfl
    ·refine HO_indexAddr open_int (i:=2) rfl rfl rfl rfl rfl Tryz.underlying29 Tryz.sizeOf3 rfl ?_ ?_
     ·omega
     intro b22 o22 z22 y22 hz22 hI22
     clear y22
     refine BK 12 [_,_] rfl (HA_loud2 (i:=3) (j:=7) (by kernel_rfl) rfl rfl ?_ ?_)
     ·refine HO_load1 (i:=1) (j:=0) rfl rfl rfl Tryz.isAgg3 rfl (.elem _ _ _) rfl rfl ?_
      refine BK 12 [_,_] rfl (LO 7 (by kernel_rfl) rfl (LE 0 0 rfl Tryz.isAgg3 (BK 12 [_,_] rfl (TK 8 12 [_,_] rfl (by kernel_rfl) (V_bin rfl rfl bin_neq) (HA_done (by kernel_rfl) (EV [24,0,1,12,13] [_,_,_,_,_] rfl (WD 12 [_,_] rfl (H_cond rfl ?_ ?_))))))))
      ·intro h24
       replace h24:=dT h24
       refine SQ (RG rfl (AS rfl (NI [4] [_] rfl (WD 0 [] rfl (R1 Tryz.results96 () rfl (fun w hA => ⟨?_,?_,?_⟩))))))
       ·(first | exact congrArg Value.bool (Ent.same_no hz18 hz22 h24).symm | exact congrArg Value.bool (Ent.same_yes hl hI).symm | exact congrArg Value.bool (Ent.same_len h10).symm)
       ·trivial
       ·exact hA.keep (m:=[]) (Y:=[]) rfl
      intro h24
      replace h24:=dF h24
      refine SK (BD (RG rfl (BN rfl (bin_add ?_ ?_) ?_)))
      ·omega
      ·omega
      refine MV rfl (NI [13,0,1,12] [_,_,_,_] rfl (H_inv (fun a w hf hA => ⟨i + 1,?_,?_,hf.sub ?_,?_⟩)))
      ·exact ⟨by omega,Ent.same_next hz18 hz22 hI.2 (Decidable.not_not.1 h24)⟩
      ·(try dsimp only);omega
      ·exact ⟨rfl,rfl,rfl,rfl,trivial⟩
      ·exact hA.only (is:=[0,1]) (Z:=[]) rfl
     ·refine HO_load1 (i:=0) (j:=0) rfl rfl rfl Tryz.isAgg3 rfl (.elem _ _ _) rfl rfl ?_
      refine BK 12 [_,_] rfl (LO 3 (by kernel_rfl) rfl (LE 1 0 rfl Tryz.isAgg3 (BK 12 [_,_] rfl (TK 8 12 [_,_] rfl (by kernel_rfl) (V_bin rfl rfl bin_neq) (HA_done (by kernel_rfl) (EV [24,0,1,12,13] [_,_,_,_,_] rfl (WD 12 [_,_] rfl (H_cond rfl ?_ ?_))))))))
      ·intro h24
       replace h24:=dT h24
       refine SQ (RG rfl (AS rfl (NI [4] [_] rfl (WD 0 [] rfl (R1 Tryz.results96 () rfl (fun w hA => ⟨?_,?_,?_⟩))))))
       ·(first | exact congrArg Value.bool (Ent.same_no hz18 hz22 h24).symm | exact congrArg Value.bool (Ent.same_yes hl hI).symm | exact congrArg Value.bool (Ent.same_len h10).symm)
       ·trivial
       ·exact hA.keep (m:=[]) (Y:=[]) rfl
      intro h24
      replace h24:=dF h24
      refine SK (BD (RG rfl (BN rfl (bin_add ?_ ?_) ?_)))
      ·omega
      ·omega
      refine MV rfl (NI [13,0,1,12] [_,_,_,_] rfl (H_inv (fun a w hf hA => ⟨i + 1,?_,?_,hf.sub ?_,?_⟩)))
      ·exact ⟨by omega,Ent.same_next hz18 hz22 hI.2 (Decidable.not_not.1 h24)⟩
      ·(try dsimp only);omega
      ·exact ⟨rfl,rfl,rfl,rfl,trivial⟩
      ·exact hA.only (is:=[0,1]) (Z:=[]) rfl
   ·refine HO_indexAddr open_int (i:=1) rfl rfl rfl rfl rfl Tryz.underlying29 Tryz.sizeOf3 rfl ?_ ?_
    ·omega
    intro b22 o22 z22 y22 hz22 hI22
    clear y22
    refine BK 6 [_,_] rfl (HA_loud2 (i:=2) (j:=7) (by kernel_rfl) rfl rfl ?_ ?_)
    ·refine HO_indexAddr open_int (i:=1) rfl rfl rfl rfl rfl Tryz.underlying29 Tryz.sizeOf3 rfl ?_ ?_
     ·omega
     intro b18 o18 z18 y18 hz18 hI18
     clear y18
     refine BK 12 [_,_] rfl (HA_loud2 (i:=3) (j:=7) (by kernel_rfl) rfl rfl ?_ ?_)
     ·refine HO_load1 (i:=0) (j:=0) rfl rfl rfl Tryz.isAgg3 rfl (.elem _ _ _) rfl rfl ?_
      refine BK 12 [_,_] rfl (LO 7 (by kernel_rfl) rfl (LE 1 0 rfl Tryz.isAgg3 (BK 12 [_,_] rfl (TK 8 12 [_,_] rfl (by kernel_rfl) (V_bin rfl rfl bin_neq) (HA_done (by kernel_rfl) (EV [24,0,1,12,13] [_,_,_,_,_] rfl (WD 12 [_,_] rfl (H_cond rfl ?_ ?_))))))))
      ·intro h24
       replace h24:=dT h24
       refine SQ (RG rfl (AS rfl (NI [4] [_] rfl (WD 0 [] rfl (R1 Tryz.results96 () rfl (fun w hA => ⟨?_,?_,?_⟩))))))
       ·(first | exact congrArg Value.bool (Ent.same_no hz18 hz22 h24).symm | exact congrArg Value.bool (Ent.same_yes hl hI).symm | exact congrArg Value.bool (Ent.same_len h10).symm)
       ·trivial
       ·exact hA.keep (m:=[]) (Y:=[]) rfl
      intro h24
      replace h24:=dF h24
      refine SK (BD (RG rfl (BN rfl (bin_add ?_ ?_) ?_)))
      ·omega
      ·omega
      refine MV rfl (NI [13,0,1,12] [_,_,_,_] rfl (H_inv (fun a w hf hA => ⟨i + 1,?_,?_,hf.sub ?_,?_⟩)))
      ·exact ⟨by omega,Ent.same_next hz18 hz22 hI.2 (Decidable.not_not.1 h24)⟩
      ·(try dsimp only);omega
      ·exact ⟨rfl,rfl,rfl,rfl,trivial⟩
      ·exact hA.only (is:=[0,1]) (Z:=[]) rfl
     ·refine HO_load1 (i:=1) (j:=0) rfl rfl rfl Tryz.isAgg3 rfl (.elem _ _ _) rfl rfl ?_
      refine BK 12 [_,_] rfl (LO 3 (by kernel_rfl) rfl (LE 0 0 rfl Tryz.isAgg3 (BK 12 [_,_] rfl (TK 8 12 [_,_] rfl (by kernel_rfl) (V_bin rfl rfl bin_neq) (HA_done (by kernel_rfl) (EV [24,0,1,12,13] [_,_,_,_,_] rfl (WD 12 [_,_] rfl (H_cond rfl ?_ ?_))))))))
      ·intro h24
       replace h24:=dT h24
       refine SQ (RG rfl (AS rfl (NI [4] [_] rfl (WD 0 [] rfl (R1 Tryz.results96 () rfl (fun w hA => ⟨?_,?_,?_⟩))))))
       ·(first | exact congrArg Value.bool (Ent.same_no hz18 hz22 h24).symm | exact congrArg Value.bool (Ent.same_yes hl hI).symm | exact congrArg Value.bool (Ent.same_len h10).symm)
       ·trivial
       ·exact hA.keep (m:=[]) (Y:=[]) rfl
      intro h24
      replace h24:=dF h24
      refine SK (BD (RG rfl (BN rfl (bin_add ?_ ?_) ?_)))
      ·omega
      ·omega
      refine MV rfl (NI [13,0,1,12] [_,_,_,_] rfl (H_inv (fun a w hf hA => ⟨i + 1,?_,?_,hf.sub ?_,?_⟩)))
      ·exact ⟨by omega,Ent.same_next hz18 hz22 hI.2 (Decidable.not_not.1 h24)⟩
      ·(try dsimp only);omega
      ·exact ⟨rfl,rfl,rfl,rfl,trivial⟩
      ·exact hA.only (is:=[0,1]) (Z:=[]) rfl
    ·refine HO_load1 (i:=0) (j:=0) rfl rfl rfl Tryz.isAgg3 rfl (.elem _ _ _) rfl rfl ?_
     refine BK 6 [_,_] rfl (LO 2 (by kernel_rfl) rfl (HO_indexAddr open_int (i:=1) rfl rfl rfl rfl rfl Tryz.underlying29 Tryz.sizeOf3 rfl ?_ ?_))
     ·omega
     intro b18 o18 z18 y18 hz18 hI18
     clear y18
     refine BK 12 [_,_] rfl (LO 3 (by kernel_rfl) rfl (LE 0 0 rfl Tryz.isAgg3 (BK 12 [_,_] rfl (TK 8 12 [_,_] rfl (by kernel_rfl) (V_bin rfl rfl bin_neq) (HA_done (by kernel_rfl) (EV [24,0,1,12,13] [_,_,_,_,_] rfl (WD 12 [_,_] rfl (H_cond rfl ?_ ?_))))))))
     ·intro h24
      replace h24:=dT h24
      refine SQ (RG rfl (AS rfl (NI [4] [_] rfl (WD 0 [] rfl (R1 Tryz.results96 () rfl (fun w hA => ⟨?_,?_,?_⟩))))))
      ·(first | exact congrArg Value.bool (Ent.same_no hz18 hz22 h24).symm | exact congrArg Value.bool (Ent.same_yes hl hI).symm | exact congrArg Value.bool (Ent.same_len h10).symm)
      ·trivial
      ·exact hA.keep (m:=[]) (Y:=[]) rfl
     intro h24
     replace h24:=dF h24
     refine SK (BD (RG rfl (BN rfl (bin_add ?_ ?_) ?_)))
     ·omega
     ·omega
     refine MV rfl (NI [13,0,1,12] [_,_,_,_] rfl (H_inv (fun a w hf hA => ⟨i + 1,?_,?_,hf.sub ?_,?_⟩)))
     ·exact ⟨by omega,Ent.same_next hz18 hz22 hI.2 (Decidable.not_not.1 h24)⟩
     ·(try dsimp only);omega
     ·exact ⟨rfl,rfl,rfl,rfl,trivial⟩
     ·exact hA.only (is:=[0,1]) (Z:=[]) rfl
  intro h14
  replace h14:=dF h14
  refine H_exit rfl (SQ ?_)
  obtain rfl : i = l.length:=by omega
  refine RG rfl (AS rfl (NI [4] [_] rfl (WD 0 [] rfl (R1 Tryz.results96 () rfl (fun w hA => ⟨?_,?_,?_⟩)))))
  ·(first | exact congrArg Value.bool (Ent.same_no hz18 hz22 h24).symm | exact congrArg Value.bool (Ent.same_yes hl hI).symm | exact congrArg Value.bool (Ent.same_len h10).symm)
  ·trivial
  ·exact hA.keep (m:=[]) (Y:=[]) rfl
theorem rsameconf_spec (vo le : List Int) (a1 : Option Addr) (c1 : Nat) (a2 : Option Addr) (c2 : Nat) (vo2 le2 : List Int) (a12 : Option Addr) (c12 : Nat) (a22 : Option Addr) (c22 : Nat)  : Spec Tryz.prog 64 #[.agg #[.slice a1 (vo.length) c1,.slice a2 (le.length) c2],.agg #[.slice a12 (vo2.length) c12,.slice a22 (le2.length) c22]] [.dat kInt.sl (vo) [.slice a1 (vo.length) c1],.dat kInt.sl (le) [.slice a2 (le.length) c2],.dat kInt.sl (vo2) [.slice a12 (vo2.length) c12],.dat kInt.sl (le2) [.slice a22 (le2.length) c22]] (β:=Unit) (fun y => .bool (decide ((⟨vo,le⟩ : Conf) = ⟨vo2,le2⟩))) (fun y => True) (fun y => []):=by
 refine Spec.enter (vs:=[_,_]) Tryz.func64 rfl Tryz.ntmps64 rfl (Nat.le_of_ble_eq_true rfl) (fun w0 ok0 => ?_)
 generalize hM0 : blks _ = M0
 have hMn:=@noM _ _ hM0 (by simp [Atom.dat,Atom.elem])
 refine H_len_le (i:=0) rfl ?_
 intro hlen0
 refine H_len_le (i:=1) rfl ?_
 intro hlen1
 refine H_len_le (i:=2) rfl ?_
 intro hlen2
 refine H_len_le (i:=3) rfl ?_
 intro hlen3
 refine SQ (RG rfl (BX [_,_] rfl ?_))
 intro g2
 refine BX [_,_] rfl ?_
 intro g3
 refine AS rfl (NI [3,2] [_,_] rfl (SQ (RG rfl (FA 0 rfl Tryz.underlying31 rfl Tryz.sizeOf29 (LD 1 0 rfl Tryz.isAgg29 (FA 0 rfl Tryz.underlying31 rfl Tryz.sizeOf29 (LD 0 0 rfl Tryz.isAgg29 (DU 2 rfl (DU 5 rfl (CB [0,0] [_,_,_,_,_,_] rfl Tryz.call96 (rints_spec _ _ _ _ _ _) ?_))))))))))
 intro y9 hy9
 clear y9 hy9
 refine MV rfl (HO_split (d:=10) rfl ?_ ?_)
 ·intro h10
  replace h10:=dT h10
  refine FA 1 rfl Tryz.underlying31 rfl Tryz.sizeOf29 (LD 1 1 rfl Tryz.isAgg29 (FA 1 rfl Tryz.underlying31 rfl Tryz.sizeOf29 (LD 0 1 rfl Tryz.isAgg29 (DU 3 rfl (DU 6 rfl (CB [0,0] [_,_,_,_,_,_] rfl Tryz.call96 (rints_spec _ _ _ _ _ _) ?_))))))
  intro y15 hy15
  clear y15 hy15
  refine PT rfl (AS rfl (NI [4] [_] rfl (WD 0 [] rfl (R1 Tryz.results64 () rfl (fun w hA => ⟨?_,?_,?_⟩)))))
  ·(exact congrArg Value.bool (by first | (simp [*];done) | (simp_all;done) | (simp_all;intros;simp_all)))
  ·trivial
  ·exact hA.keep (m:=[]) (Y:=[]) rfl
 intro h10
 replace h10:=dF h10
 refine NO rfl (NO rfl (NO rfl (NO rfl (NO rfl (PF rfl (AS rfl (NI [4] [_] rfl (WD 0 [] rfl (R1 Tryz.results64 () rfl (fun w hA => ⟨?_,?_,?_⟩))))))))))
 ·(exact congrArg Value.bool (by first | (simp [*];done) | (simp_all;done) | (simp_all;intros;simp_all)))
 ·trivial
 ·exact hA.keep (m:=[]) (Y:=[]) rfl
theorem rentsame_spec (ix te ki : Int) (ck cs sq : Int) (ke ol cv ti : ByteArray) (li : Int) (vo le : List Int) (a1 : Option Addr) (c1 : Nat) (a2 : Option Addr) (c2 : Nat) (ix2 te2 ki2 : Int) (ck2 cs2 sq2 : Int) (ke2 ol2 cv2 ti2 : ByteArray) (li2 : Int) (vo2 le2 : List Int) (a12 : Option Addr) (c12 : Nat) (a22 : Option Addr) (c22 : Nat)  : Spec Tryz.prog 63 #[.agg #[.int .i64 (ix),.int .i64 (te),.int .i64 (ki),.int .i64 (ck),.int .i64 (cs),.int .i64 (sq),.string (ke),.string (ol),.string (cv),.string (ti),.int .i64 (li),.slice a1 (vo.length) c1,.slice a2 (le.length) c2],.agg #[.int .i64 (ix2),.int .i64 (te2),.int .i64 (ki2),.int .i64 (ck2),.int .i64 (cs2),.int .i64 (sq2),.string (ke2),.string (ol2),.string (cv2),.string (ti2),.int .i64 (li2),.slice a12 (vo2.length) c12,.slice a22 (le2.length) c22]] [.dat kInt.sl (vo) [.slice a1 (vo.length) c1],.dat kInt.sl (le) [.slice a2 (le.length) c2],.dat kInt.sl (vo2) [.slice a12 (vo2.length) c12],.dat kInt.sl (le2) [.slice a22 (le2.length) c22]] (β:=Unit) (fun y => .bool (decide ((⟨ix,te,ki,⟨ck,cs,sq,ke,ol,cv,ti,li⟩,⟨vo,le⟩⟩ : Ent) = ⟨ix2,te2,ki2,⟨ck2,cs2,sq2,ke2,ol2,cv2,ti2,li2⟩,⟨vo2,le2⟩⟩))) (fun y => True) (fun y => []):=by
 refine Spec.enter (vs:=[_,_]) Tryz.func63 rfl Tryz.ntmps63 rfl (Nat.le_of_ble_eq_true rfl) (fun w0 ok0 => ?_)
 generalize hM0 : blks _ = M0
 have hMn:=@noM _ _ hM0 (by simp [Atom.dat,Atom.elem])
 refine H_len_le (i:=0) rfl ?_
 intro hlen0
 refine H_len_le (i:=1) rfl ?_
 intro hlen1
 refine H_len_le (i:=2) rfl ?_
 intro hlen2
 refine H_len_le (i:=3) rfl ?_
 intro hlen3
 refine SQ (RG rfl (BX [_,_,_,_,_,_,_,_,_,_,_,_,_] rfl ?_))
 intro g2
 refine BX [_,_,_,_,_,_,_,_,_,_,_,_,_] rfl ?_
 intro g3
 refine AS rfl (NI [3,2] [_,_] rfl (SQ (RG rfl (FA 0 rfl Tryz.underlying70 rfl Tryz.sizeOf3 (LD 1 0 rfl Tryz.isAgg3 (FA 0 rfl Tryz.underlying70 rfl Tryz.sizeOf3 (LD 0 0 rfl Tryz.isAgg3 (BN rfl bin_eql (MV rfl (HO_split (d:=10) rfl ?_ ?_))))))))))
 ·intro h10
  replace h10:=dT h10
  refine FA 1 rfl Tryz.underlying70 rfl Tryz.sizeOf3 (LD 1 1 rfl Tryz.isAgg3 (FA 1 rfl Tryz.underlying70 rfl Tryz.sizeOf3 (LD 0 1 rfl Tryz.isAgg3 (BN rfl bin_eql (PT rfl (MV rfl (HO_split (d:=17) rfl ?_ ?_)))))))
  ·intro h17
   replace h17:=dT h17
   refine FA 2 rfl Tryz.underlying70 rfl Tryz.sizeOf3 (LD 1 2 rfl Tryz.isAgg3 (FA 2 rfl Tryz.underlying70 rfl Tryz.sizeOf3 (LD 0 2 rfl Tryz.isAgg3 (BN rfl bin_eql (PT rfl (MV rfl (HO_split (d:=24) rfl ?_ ?_)))))))
   ·intro h24
    replace h24:=dT h24
    refine FA 3 rfl Tryz.underlying70 rfl Tryz.sizeOf68 (LA 1 [_,_,_] [_,_,_,_,_,_,_,_] [_,_] rfl (.loc _ _ _) Tryz.isAgg68 Tryz.sizeOf68 rfl (FA 3 rfl Tryz.underlying70 rfl Tryz.sizeOf68 (LA 0 [_,_,_] [_,_,_,_,_,_,_,_] [_,_] rfl (.loc _ _ _) Tryz.isAgg68 Tryz.sizeOf68 rfl (BN rfl eq68_eql (PT rfl (MV rfl (HO_split (d:=31) rfl ?_ ?_)))))))
    ·intro h31
     (try simp only [decide_eq_true_eq,decide_eq_false_iff_not,Bool.not_eq_true',Bool.not_eq_false',Bool.not_eq_true,Bool.not_eq_false,Bool.true_eq_false,Bool.false_eq_true,not_false_eq_true,not_true_eq_false] at h31)
     refine FA 11 rfl Tryz.underlying70 rfl Tryz.sizeOf31 (LA 1 [_,_,_,_,_,_,_,_,_,_,_] [_,_] [] rfl (.loc _ _ _) Tryz.isAgg31 Tryz.sizeOf31 rfl (FA 11 rfl Tryz.underlying70 rfl Tryz.sizeOf31 (LA 0 [_,_,_,_,_,_,_,_,_,_,_] [_,_] [] rfl (.loc _ _ _) Tryz.isAgg31 Tryz.sizeOf31 rfl (DU 2 rfl (DU 4 rfl (DU 6 rfl (DU 8 rfl (CB [0,0,0,0] [_,_,_,_,_,_] rfl Tryz.call64 (rsameconf_spec _ _ _ _ _ _ _ _ _ _ _ _) ?_))))))))
     intro y36 hy36
     clear y36 hy36
     refine PT rfl (AS rfl (NI [4] [_] rfl (WD 0 [] rfl (R1 Tryz.results63 () rfl (fun w hA => ⟨?_,?_,?_⟩)))))
     ·(exact congrArg Value.bool (by first | (simp [*];done) | (simp_all;done) | (simp_all;intros;simp_all)))
     ·trivial
     ·exact hA.keep (m:=[]) (Y:=[]) rfl
    intro h31
    (try simp only [decide_eq_true_eq,decide_eq_false_iff_not,Bool.not_eq_true',Bool.not_eq_false',Bool.not_eq_true,Bool.not_eq_false,Bool.true_eq_false,Bool.false_eq_true,not_false_eq_true,not_true_eq_false] at h31)
    refine NO rfl (NO rfl (NO rfl (NO rfl (NO rfl (PF rfl (AS rfl (NI [4] [_] rfl (WD 0 [] rfl (R1 Tryz.results63 () rfl (fun w hA => ⟨?_,?_,?_⟩))))))))))
    ·(exact congrArg Value.bool (by first | (simp [*];done) | (simp_all;done) | (simp_all;intros;simp_all)))
    ·trivial
    ·exact hA.keep (m:=[]) (Y:=[]) rfl
   intro h24
   replace h24:=dF h24
   refine NO rfl (NO rfl (NO rfl (NO rfl (NO rfl (PF rfl (MV rfl (NO rfl (NO rfl (NO rfl (NO rfl (NO rfl (PF rfl (AS rfl ?_)))))))))))))
   refine NI [4] [_] rfl (WD 0 [] rfl (R1 Tryz.results63 () rfl (fun w hA => ⟨?_,?_,?_⟩)))
   ·(exact congrArg Value.bool (by first | (simp [*];done) | (simp_all;done) | (simp_all;intros;simp_all)))
   ·trivial
   ·exact hA.keep (m:=[]) (Y:=[]) rfl
  intro h17
  replace h17:=dF h17
  refine NO rfl (NO rfl (NO rfl (NO rfl (NO rfl (PF rfl (MV rfl (NO rfl (NO rfl (NO rfl (NO rfl (NO rfl (PF rfl (MV rfl ?_)))))))))))))
  refine NO rfl (NO rfl (NO rfl (NO rfl (NO rfl (PF rfl (AS rfl (NI [4] [_] rfl (WD 0 [] rfl (R1 Tryz.results63 () rfl (fun w hA => ⟨?_,?_,?_⟩))))))))))
  ·(exact congrArg Value.bool (by first | (simp [*];done) | (simp_all;done) | (simp_all;intros;simp_all)))
  ·trivial
  ·exact hA.keep (m:=[]) (Y:=[]) rfl
 intro h10
 replace h10:=dF h10
 refine NO rfl (NO rfl (NO rfl (NO rfl (NO rfl (PF rfl (MV rfl (NO rfl (NO rfl (NO rfl (NO rfl (NO rfl (PF rfl (MV rfl ?_)))))))))))))
 refine NO rfl (NO rfl (NO rfl (NO rfl (NO rfl (PF rfl (MV rfl (NO rfl (NO rfl (NO rfl (NO rfl (NO rfl (PF rfl (AS rfl ?_)))))))))))))
 refine NI [4] [_] rfl (WD 0 [] rfl (R1 Tryz.results63 () rfl (fun w hA => ⟨?_,?_,?_⟩)))
 ·(exact congrArg Value.bool (by first | (simp [*];done) | (simp_all;done) | (simp_all;intros;simp_all)))
 ·trivial
 ·exact hA.keep (m:=[]) (Y:=[]) rfl
end Go.Wk
