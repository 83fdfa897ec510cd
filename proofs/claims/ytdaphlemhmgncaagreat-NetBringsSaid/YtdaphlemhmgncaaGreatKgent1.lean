/- Contracts of the program's functions, each proved by walking its code. -/
import Derived.Test.YtdaphlemhmgncaaGreatKgcmd3
import Derived.Test.YtdaphlemhmgncaaGreatEnt
import Derived.Test.YtdaphlemhmgncaaGreatKgcmd2
set_option maxRecDepth 100000
set_option linter.unusedVariables false
set_option linter.unusedSimpArgs false
namespace Go.Wk.Fent1
open Go Go.RowKit Go.Proofs Go.Wk
theorem bd68__  : ∀ w,(Instr.build 68 (List.toArray (List.zip [] []))).run Tryz.prog w = .ok (.agg #[.int .i64 (0),.int .i64 (0),.int .i64 (0),.string (⟨#[]⟩),.string (⟨#[]⟩),.string (⟨#[]⟩),.string (⟨#[]⟩),.int .i64 (0)]) w:=fun _ => by kernel_rfl
theorem eq68_eql {x y : Operand} {a0 b0 : Int} {a1 b1 : Int} {a2 b2 : Int} {a3 b3 : ByteArray} {a4 b4 : ByteArray} {a5 b5 : ByteArray} {a6 b6 : ByteArray} {a7 b7 : Int} : BinR Tryz.prog .eql 68 x y (.agg #[.int .i64 a0,.int .i64 a1,.int .i64 a2,.string a3,.string a4,.string a5,.string a6,.int .i64 a7]) (.agg #[.int .i64 b0,.int .i64 b1,.int .i64 b2,.string b3,.string b4,.string b5,.string b6,.int .i64 b7]) (.bool (decide (a0 = b0) && (decide (a1 = b1) && (decide (a2 = b2) && (decide (a3 = b3) && (decide (a4 = b4) && (decide (a5 = b5) && (decide (a6 = b6) && (decide (a7 = b7) && true))))))))) :=
 bin_eqs_agg (by kernel_rfl) Tryz.underlying68 (by kernel_rfl) (fun w => (eqF_int (by decide) Tryz.underlying3 Tryz.isAgg3 rfl rfl (eqF_int (by decide) Tryz.underlying3 Tryz.isAgg3 rfl rfl (eqF_int (by decide) Tryz.underlying3 Tryz.isAgg3 rfl rfl (eqF_str (by decide) Tryz.underlying9 Tryz.isAgg9 rfl rfl (eqF_str (by decide) Tryz.underlying9 Tryz.isAgg9 rfl rfl (eqF_str (by decide) Tryz.underlying9 Tryz.isAgg9 rfl rfl (eqF_str (by decide) Tryz.underlying9 Tryz.isAgg9 rfl rfl (eqF_int (by decide) Tryz.underlying3 Tryz.isAgg3 rfl rfl eqF_nil)))))))))
end Go.Wk.Fent1
namespace Go.Wk
open Go Go.RowKit Go.Proofs Fent1 
theorem rises_spec (l : List Int) (a : Option Addr) (c : Nat)  : Spec Tryz.prog 120 #[.slice a (l.length) c] [.dat kInt.sl (l) [.slice a (l.length) c]] (β:=Unit) (fun y => .bool (Ent.rises l)) (fun y => True) (fun y => []):=by
 refine Spec.enter (vs:=[_]) Tryz.func120 rfl Tryz.ntmps120 rfl (Nat.le_of_ble_eq_true rfl) (fun w0 ok0 => ?_)
 generalize hM0 : blks _ = M0
 have hMn:=@noM _ _ hM0 (by simp [Atom.dat,Atom.elem])
 refine H_len_le (i:=0) rfl ?_
 intro hlen0
 refine H_seq ?_
 refine H_region (l:=[_]) rfl ?_
 refine HO_assign rfl rfl rfl ?_
 refine HO_nil ?_
 refine H_env (ρ':=[(0,_)]) ⟨rfl,trivial⟩ ?_
 refine H_seq ?_
 refine H_seq ?_
 refine H_region (l:=[_,_,_]) rfl ?_
 refine HO_move rfl rfl rfl ?_
 refine HO_bi rfl rfl rfl (bi_len_sl Tryz.underlying29) ?_
 refine HO_move rfl rfl rfl ?_
 refine HO_nil ?_
 refine H_block ?_
 refine H_loop (σ:=Nat) (fun s => s≤l.length∧Ent.rises l = Ent.risesFrom (Ent.pv l s) (l.drop s)) (fun s => [(0,.slice a (l.length) c),(5,.slice a (l.length) c),(6,.int .i64 ((l.length : Int))),(7,.int .i64 ((s : Int)))]) (fun s => Asn w0 ok0 M0 [.dat kInt.sl (l) [.slice a (l.length) c]]) (fun s => l.length - s) 0 ?_ ?_ ?_ ?_
 ·exact ⟨Nat.zero_le _,rfl⟩
 ·exact ⟨rfl,rfl,rfl,rfl,trivial⟩
 ·intro w hA
  exact hA.only (is:=[0]) (Z:=[]) rfl
 ·intro i hI
  (try dsimp only at hI ⊢)
  refine H_seq ?_
  refine H_region (l:=[_]) rfl ?_
  refine HO_bin rfl rfl rfl rfl bin_lss ?_
  refine HO_nil ?_
  refine H_seq ?_
  refine H_cond rfl ?_ ?_
  ·intro h8
   replace h8:=dT h8
   refine H_skip ?_
   refine H_seq ?_
   refine H_block ?_
   refine H_seq ?_
   refine H_region (l:=[_,_,_,_,_]) rfl ?_
   refine HO_move rfl rfl rfl ?_
   refine HO_indexAddr open_int (i:=0) rfl rfl rfl rfl rfl Tryz.underlying29 Tryz.sizeOf3 rfl ?_ ?_
   ·omega
   intro b10 o10 z10 y10 hz10 hI10
   clear y10
   refine HO_load1 (i:=0) (j:=0) rfl rfl rfl Tryz.isAgg3 rfl (.elem _ _ _) rfl rfl ?_
   iterate 2 refine HO_assign rfl rfl rfl ?_
   refine HO_nil ?_
   refine H_env (ρ':=[(4,_),(3,_),(0,_),(5,_),(6,_),(7,_)]) ⟨rfl,rfl,rfl,rfl,rfl,rfl,trivial⟩ ?_
   refine H_world (kp [nn,yy] [_] rfl) ?_
   refine H_seq ?_
   refine H_region (l:=[_,_,_,_,_,_,_,_,_,_,_,_,_,_,_,_,_,_,_]) rfl ?_
   refine HO_move rfl rfl rfl ?_
   refine HO_bin rfl rfl rfl rfl bin_lss ?_
   refine HO_move rfl rfl rfl ?_
   refine HO_split (d:=14) rfl ?_ ?_
   ·intro h14
    replace h14:=dT h14
    iterate 2 refine HO_no rfl rfl rfl ?_
    refine HO_pick_t rfl rfl rfl rfl ?_
    refine HO_move rfl rfl rfl ?_
    iterate 11 refine HO_no rfl rfl rfl ?_
    refine HO_pick_t rfl rfl rfl rfl ?_
    refine HO_nil ?_
    refine H_env (ρ':=[(30,_),(0,_),(5,_),(6,_),(7,_)]) ⟨rfl,rfl,rfl,rfl,rfl,trivial⟩ ?_
    refine H_cond rfl (fun _ => ?_) (fun h => nomatch h)
    refine H_seq ?_
    refine H_region (l:=[_]) rfl ?_
    refine HO_assign rfl rfl rfl ?_
    refine HO_nil ?_
    refine H_env (ρ':=[(2,_)]) ⟨rfl,trivial⟩ ?_
    refine H_world (kp [nn] [] rfl) ?_
    refine H_ret1 Tryz.results120 (.tmp rfl) (fun w hA => ⟨(),congrArg Ending.returned ?_,?_,?_⟩)
    ·(exact congrArg Value.bool (by first | exact Ent.rises_no hz10 hI.2 (.inl h14) | exact Ent.rises_no hz10 hI.2 (.inr (.inl h18)) | exact Ent.rises_no hz10 hI.2 (.inr (.inr (by rw [Ent.pv_at h21 hz25];omega))) | exact Ent.rises_end hI.2 (by omega)))
    ·trivial
    ·exact hA.keep (m:=[]) (Y:=[]) rfl
   intro h14
   replace h14:=dF h14
   refine HO_move rfl rfl rfl ?_
   refine HO_bin rfl rfl rfl rfl bin_gtr ?_
   refine HO_pick_f rfl rfl rfl rfl ?_
   refine HO_move rfl rfl rfl ?_
   refine HO_split (d:=18) rfl ?_ ?_
   ·intro h18
    replace h18:=dT h18
    iterate 11 refine HO_no rfl rfl rfl ?_
    refine HO_pick_t rfl rfl rfl rfl ?_
    refine HO_nil ?_
    refine H_env (ρ':=[(30,_),(0,_),(5,_),(6,_),(7,_)]) ⟨rfl,rfl,rfl,rfl,rfl,trivial⟩ ?_
    refine H_cond rfl (fun _ => ?_) (fun h => nomatch h)
    refine H_seq ?_
    refine H_region (l:=[_]) rfl ?_
    refine HO_assign rfl rfl rfl ?_
    refine HO_nil ?_
    refine H_env (ρ':=[(2,_)]) ⟨rfl,trivial⟩ ?_
    refine H_world (kp [nn] [] rfl) ?_
    refine H_ret1 Tryz.results120 (.tmp rfl) (fun w hA => ⟨(),congrArg Ending.returned ?_,?_,?_⟩)
    ·(exact congrArg Value.bool (by first | exact Ent.rises_no hz10 hI.2 (.inl h14) | exact Ent.rises_no hz10 hI.2 (.inr (.inl h18)) | exact Ent.rises_no hz10 hI.2 (.inr (.inr (by rw [Ent.pv_at h21 hz25];omega))) | exact Ent.rises_end hI.2 (by omega)))
    ·trivial
    ·exact hA.keep (m:=[]) (Y:=[]) rfl
   intro h18
   replace h18:=dF h18
   refine HO_move rfl rfl rfl ?_
   refine HO_bin rfl rfl rfl rfl bin_gtr ?_
   refine HO_move rfl rfl rfl ?_
   refine HO_split (d:=21) rfl ?_ ?_
   ·intro h21
    replace h21:=dT h21
    iterate 2 refine HO_move rfl rfl rfl ?_
    refine HO_bin rfl rfl rfl rfl (bin_sub ?_ ?_) ?_
    ·omega
    ·omega
    refine HO_indexAddr open_int (i:=0) (j:=i - 1) rfl rfl rfl rfl ?_ Tryz.underlying29 Tryz.sizeOf3 rfl ?_ ?_
    ·omega
    ·omega
    intro b25 o25 z25 y25 hz25 hI25
    clear y25
    refine HO_load1 (i:=0) (j:=0) rfl rfl rfl Tryz.isAgg3 rfl (.elem _ _ _) rfl rfl ?_
    refine HO_move rfl rfl rfl ?_
    refine HO_bin rfl rfl rfl rfl bin_geq ?_
    refine HO_pick_t rfl rfl rfl rfl ?_
    refine HO_pick_f rfl rfl rfl rfl ?_
    refine HO_nil ?_
    refine H_env (ρ':=[(30,_),(0,_),(5,_),(6,_),(7,_)]) ⟨rfl,rfl,rfl,rfl,rfl,trivial⟩ ?_
    refine H_world (kp [nn,yy] [_] rfl) ?_
    refine H_cond rfl ?_ ?_
    ·intro h30
     replace h30:=dT h30
     refine H_seq ?_
     refine H_region (l:=[_]) rfl ?_
     refine HO_assign rfl rfl rfl ?_
     refine HO_nil ?_
     refine H_env (ρ':=[(2,_)]) ⟨rfl,trivial⟩ ?_
     refine H_world (kp [nn] [] rfl) ?_
     refine H_ret1 Tryz.results120 (.tmp rfl) (fun w hA => ⟨(),congrArg Ending.returned ?_,?_,?_⟩)
     ·(exact congrArg Value.bool (by first | exact Ent.rises_no hz10 hI.2 (.inl h14) | exact Ent.rises_no hz10 hI.2 (.inr (.inl h18)) | exact Ent.rises_no hz10 hI.2 (.inr (.inr (by rw [Ent.pv_at h21 hz25];omega))) | exact Ent.rises_end hI.2 (by omega)))
     ·trivial
     ·exact hA.keep (m:=[]) (Y:=[]) rfl
    intro h30
    replace h30:=dF h30
    refine H_skip ?_
    refine H_blk ?_
    refine H_region (l:=[_,_]) rfl ?_
    refine HO_bin rfl rfl rfl rfl (bin_add ?_ ?_) ?_
    ·omega
    ·omega
    refine HO_move rfl rfl rfl ?_
    refine HO_nil ?_
    refine H_env (ρ':=[(7,_),(0,_),(5,_),(6,_)]) ⟨rfl,rfl,rfl,rfl,trivial⟩ ?_
    refine H_inv (fun a w hf hA => ⟨i + 1,?_,?_,hf.sub ?_,?_⟩)
    ·exact ⟨by omega,Ent.rises_next hz10 hI.2 (by omega) (by omega) (by first | (rw [Ent.pv_0 h21];omega) | (rw [Ent.pv_at h21 hz25];omega))⟩
    ·(try dsimp only);omega
    ·exact ⟨rfl,rfl,rfl,rfl,trivial⟩
    ·exact hA.only (is:=[0]) (Z:=[]) rfl
   intro h21
   replace h21:=dF h21
   iterate 7 refine HO_no rfl rfl rfl ?_
   iterate 2 refine HO_pick_f rfl rfl rfl rfl ?_
   refine HO_nil ?_
   refine H_env (ρ':=[(30,_),(0,_),(5,_),(6,_),(7,_)]) ⟨rfl,rfl,rfl,rfl,rfl,trivial⟩ ?_
   refine H_cond rfl (fun h => nomatch h) (fun _ => ?_)
   refine H_skip ?_
   refine H_blk ?_
   refine H_region (l:=[_,_]) rfl ?_
   refine HO_bin rfl rfl rfl rfl (bin_add ?_ ?_) ?_
   ·omega
   ·omega
   refine HO_move rfl rfl rfl ?_
   refine HO_nil ?_
   refine H_env (ρ':=[(7,_),(0,_),(5,_),(6,_)]) ⟨rfl,rfl,rfl,rfl,trivial⟩ ?_
   refine H_inv (fun a w hf hA => ⟨i + 1,?_,?_,hf.sub ?_,?_⟩)
   ·exact ⟨by omega,Ent.rises_next hz10 hI.2 (by omega) (by omega) (by first | (rw [Ent.pv_0 h21];omega) | (rw [Ent.pv_at h21 hz25];omega))⟩
   ·(try dsimp only);omega
   ·exact ⟨rfl,rfl,rfl,rfl,trivial⟩
   ·exact hA.only (is:=[0]) (Z:=[]) rfl
  intro h8
  replace h8:=dF h8
  refine H_exit rfl ?_
  refine H_seq ?_
  refine H_region (l:=[_]) rfl ?_
  refine HO_assign rfl rfl rfl ?_
  refine HO_nil ?_
  refine H_env (ρ':=[(2,_)]) ⟨rfl,trivial⟩ ?_
  refine H_world (kp [nn] [] rfl) ?_
  refine H_ret1 Tryz.results120 (.tmp rfl) (fun w hA => ⟨(),congrArg Ending.returned ?_,?_,?_⟩)
  ·(exact congrArg Value.bool (by first | exact Ent.rises_no hz10 hI.2 (.inl h14) | exact Ent.rises_no hz10 hI.2 (.inr (.inl h18)) | exact Ent.rises_no hz10 hI.2 (.inr (.inr (by rw [Ent.pv_at h21 hz25];omega))) | exact Ent.rises_end hI.2 (by omega)))
  ·trivial
  ·exact hA.keep (m:=[]) (Y:=[]) rfl
theorem indexint_spec (l : List Int) (a : Option Addr) (c : Nat) (x : Int)  : Spec Tryz.prog 143 #[.slice a (l.length) c,.int .i64 (x)] [.dat kInt.sl (l) [.slice a (l.length) c]] (β:=Int) (fun y => .int .i64 (y)) (fun y => (0≤y ↔ x ∈ l)) (fun y => []):=by
 refine Spec.enter (vs:=[_,_]) Tryz.func143 rfl Tryz.ntmps143 rfl (Nat.le_of_ble_eq_true rfl) (fun w0 ok0 => ?_)
 generalize hM0 : blks _ = M0
 have hMn:=@noM _ _ hM0 (by simp [Atom.dat,Atom.elem])
 refine H_len_le (i:=0) rfl ?_
 intro hlen0
 refine H_seq ?_
 refine H_region (l:=[_]) rfl ?_
 refine HO_assign rfl rfl rfl ?_
 refine HO_nil ?_
 refine H_env (ρ':=[(0,_),(1,_)]) ⟨rfl,rfl,trivial⟩ ?_
 refine H_seq ?_
 refine H_seq ?_
 refine H_region (l:=[_,_,_]) rfl ?_
 refine HO_move rfl rfl rfl ?_
 refine HO_bi rfl rfl rfl (bi_len_sl Tryz.underlying29) ?_
 refine HO_move rfl rfl rfl ?_
 refine HO_nil ?_
 refine H_env (ρ':=[(8,_),(7,_),(0,_),(1,_)]) ⟨rfl,rfl,rfl,rfl,trivial⟩ ?_
 refine H_block ?_
 refine H_loop (σ:=Nat) (fun s => s≤l.length∧x ∉ l.take s) (fun s => [(0,.slice a (l.length) c),(1,.int .i64 (x)),(7,.int .i64 ((l.length : Int))),(8,.int .i64 ((s : Int)))]) (fun s => Asn w0 ok0 M0 [.dat kInt.sl (l) [.slice a (l.length) c]]) (fun s => l.length - s) 0 ?_ ?_ ?_ ?_
 ·exact ⟨Nat.zero_le _,by simp⟩
 ·exact ⟨rfl,rfl,rfl,rfl,trivial⟩
 ·intro w hA
  exact hA.only (is:=[0]) (Z:=[]) rfl
 ·intro i hI
  (try dsimp only at hI ⊢)
  refine H_seq ?_
  refine H_region (l:=[_]) rfl ?_
  refine HO_bin rfl rfl rfl rfl bin_lss ?_
  refine HO_nil ?_
  refine H_seq ?_
  refine H_cond rfl ?_ ?_
  ·intro h9
   replace h9:=dT h9
   refine H_skip ?_
   refine H_seq ?_
   refine H_block ?_
   refine H_seq ?_
   refine H_region (l:=[_,_]) rfl ?_
   refine HO_move rfl rfl rfl ?_
   refine HO_assign rfl rfl rfl ?_
   refine HO_nil ?_
   refine H_env (ρ':=[(5,_),(0,_),(1,_),(7,_),(8,_)]) ⟨rfl,rfl,rfl,rfl,rfl,trivial⟩ ?_
   refine H_seq ?_
   refine H_region (l:=[_,_,_,_,_,_]) rfl ?_
   iterate 3 refine HO_move rfl rfl rfl ?_
   refine HO_indexAddr open_int (i:=0) rfl rfl rfl rfl rfl Tryz.underlying29 Tryz.sizeOf3 rfl ?_ ?_
   ·omega
   intro b14 o14 z14 y14 hz14 hI14
   clear y14
   refine HO_load1 (i:=0) (j:=0) rfl rfl rfl Tryz.isAgg3 rfl (.elem _ _ _) rfl rfl ?_
   refine HO_bin rfl rfl rfl rfl bin_eql ?_
   refine HO_nil ?_
   refine H_env (ρ':=[(16,_),(5,_),(0,_),(1,_),(7,_),(8,_)]) ⟨rfl,rfl,rfl,rfl,rfl,rfl,trivial⟩ ?_
   refine H_world (kp [nn,yy] [_] rfl) ?_
   refine H_cond rfl ?_ ?_
   ·intro h16
    replace h16:=dT h16
    refine H_seq ?_
    refine H_region (l:=[_,_]) rfl ?_
    refine HO_move rfl rfl rfl ?_
    refine HO_assign rfl rfl rfl ?_
    refine HO_nil ?_
    refine H_env (ρ':=[(4,_)]) ⟨rfl,trivial⟩ ?_
    refine H_world (kp [nn] [] rfl) ?_
    refine H_ret1 Tryz.results143 (.tmp rfl) (fun w hA => ⟨(i : Int),congrArg Ending.returned ?_,?_,?_⟩)
    ·rfl
    ·exact ⟨fun _ => h16 ▸ List.mem_of_getElem? hz14,fun _ => by omega⟩
    ·exact hA.keep (m:=[]) (Y:=[]) rfl
   intro h16
   replace h16:=dF h16
   refine H_skip ?_
   refine H_blk ?_
   refine H_region (l:=[_,_]) rfl ?_
   refine HO_bin rfl rfl rfl rfl (bin_add ?_ ?_) ?_
   ·omega
   ·omega
   refine HO_move rfl rfl rfl ?_
   refine HO_nil ?_
   refine H_env (ρ':=[(8,_),(0,_),(1,_),(7,_)]) ⟨rfl,rfl,rfl,rfl,trivial⟩ ?_
   refine H_inv (fun a w hf hA => ⟨i + 1,?_,?_,hf.sub ?_,?_⟩)
   ·exact ⟨by omega,fun h => ((Ent.mem_next hz14).1 h).elim hI.2 h16⟩
   ·(try dsimp only);omega
   ·exact ⟨rfl,rfl,rfl,rfl,trivial⟩
   ·exact hA.only (is:=[0]) (Z:=[]) rfl
  intro h9
  replace h9:=dF h9
  refine H_exit rfl ?_
  refine H_seq ?_
  refine H_region (l:=[_]) rfl ?_
  refine HO_assign rfl rfl rfl ?_
  refine HO_nil ?_
  refine H_env (ρ':=[(4,_)]) ⟨rfl,trivial⟩ ?_
  refine H_world (kp [nn] [] rfl) ?_
  refine H_ret1 Tryz.results143 (.tmp rfl) (fun w hA => ⟨-1,congrArg Ending.returned ?_,?_,?_⟩)
  ·rfl
  ·(obtain rfl : i = l.length:=by omega);exact ⟨fun h => by omega,fun h => absurd h (by have:=hI.2;rwa [List.take_length] at this)⟩
  ·exact hA.keep (m:=[]) (Y:=[]) rfl
theorem containsint_spec (l : List Int) (a : Option Addr) (c : Nat) (x : Int)  : Spec Tryz.prog 119 #[.slice a (l.length) c,.int .i64 (x)] [.dat kInt.sl (l) [.slice a (l.length) c]] (β:=Unit) (fun y => .bool (decide (x ∈ l))) (fun y => True) (fun y => []):=by
 refine Spec.enter (vs:=[_,_]) Tryz.func119 rfl Tryz.ntmps119 rfl (Nat.le_of_ble_eq_true rfl) (fun w0 ok0 => ?_)
 generalize hM0 : blks _ = M0
 have hMn:=@noM _ _ hM0 (by simp [Atom.dat,Atom.elem])
 refine H_len_le (i:=0) rfl ?_
 intro hlen0
 refine H_seq ?_
 refine H_region (l:=[_]) rfl ?_
 refine HO_assign rfl rfl rfl ?_
 refine HO_nil ?_
 refine H_env (ρ':=[(0,_),(1,_)]) ⟨rfl,rfl,trivial⟩ ?_
 refine H_seq ?_
 refine H_region (l:=[_,_,_,_,_]) rfl ?_
 iterate 2 refine HO_move rfl rfl rfl ?_
 refine HO_dup (i:=0) rfl rfl ?_
 refine HO_call (first:=[]) (capt:=[]) (is:=[0]) (R:=[_]) rfl rfl rfl rfl rfl Tryz.call143 rfl (indexint_spec _ _ _ _) ?_
 intro y7 hy7
 refine HO_bin rfl rfl rfl rfl bin_geq ?_
 refine HO_assign rfl rfl rfl ?_
 refine HO_nil ?_
 refine H_env (ρ':=[(4,_)]) ⟨rfl,trivial⟩ ?_
 refine H_world (kp [nn] [] rfl) ?_
 refine H_ret1 Tryz.results119 (.tmp rfl) (fun w hA => ⟨(),congrArg Ending.returned ?_,?_,?_⟩)
 ·(exact congrArg Value.bool (by simp only [ge_iff_le,hy7]))
 ·trivial
 ·exact hA.keep (m:=[]) (Y:=[]) rfl
theorem goodconf1_spec (g : Nat) (x : Int) (vo le : List Int) (a1 : Option Addr) (c1 : Nat) (a2 : Option Addr) (c2 : Nat)  : Spec Tryz.prog 118 #[.int .i64 (x),.pointer (some ⟨g,0,none⟩)] [.loc g [.slice a1 (vo.length) c1,.slice a2 (le.length) c2] 31,.dat kInt.sl (vo) [.slice a1 (vo.length) c1],.dat kInt.sl (le) [.slice a2 (le.length) c2]] (β:=Unit) (fun y => .bool (decide (x ∈ le))) (fun y => True) (fun y => [.loc g [.slice a1 (vo.length) c1,.slice a2 (le.length) c2] 31]):=by
 refine Spec.enter (vs:=[_,_]) Tryz.func118 rfl Tryz.ntmps118 rfl (Nat.le_of_ble_eq_true rfl) (fun w0 ok0 => ?_)
 generalize hM0 : blks _ = M0
 refine H_len_le (i:=1) rfl ?_
 intro hlen1
 refine H_len_le (i:=2) rfl ?_
 intro hlen2
 refine H_seq ?_
 refine H_region (l:=[_]) rfl ?_
 refine HO_assign rfl rfl rfl ?_
 refine HO_nil ?_
 refine H_env (ρ':=[(0,_),(1,_)]) ⟨rfl,rfl,trivial⟩ ?_
 refine H_seq ?_
 refine H_region (l:=[_,_,_,_,_]) rfl ?_
 refine HO_fieldAddr (r:=1) rfl rfl rfl Tryz.underlying31 rfl Tryz.sizeOf29 rfl ?_
 refine HO_load1 (i:=0) (j:=1) rfl rfl rfl Tryz.isAgg29 rfl (.loc _ _ _) rfl rfl ?_
 refine HO_move rfl rfl rfl ?_
 refine HO_dup (i:=2) rfl rfl ?_
 refine HO_call (first:=[]) (capt:=[]) (is:=[0]) (R:=[_,_,_]) rfl rfl rfl rfl rfl Tryz.call119 rfl (containsint_spec _ _ _ _) ?_
 intro y7 hy7
 clear y7 hy7
 refine HO_assign rfl rfl rfl ?_
 refine HO_nil ?_
 refine H_env (ρ':=[(3,_)]) ⟨rfl,trivial⟩ ?_
 refine H_ret1 Tryz.results118 (.tmp rfl) (fun w hA => ⟨(),congrArg Ending.returned ?_,?_,?_⟩)
 ·rfl
 ·trivial
 ·exact hA.keep (m:=[yy,nn,nn]) (Y:=[_]) rfl
theorem indexfunc_spec (l : List Int) (a : Option Addr) (c : Nat) (g : Nat) (vo le : List Int) (a1 : Option Addr) (c1 : Nat) (a2 : Option Addr) (c2 : Nat)  : Spec Tryz.prog 144 #[.slice a (l.length) c,.func (.func 118) #[] #[.pointer (some ⟨g,0,none⟩)]] [.dat kInt.sl (l) [.slice a (l.length) c],.loc g [.slice a1 (vo.length) c1,.slice a2 (le.length) c2] 31,.dat kInt.sl (vo) [.slice a1 (vo.length) c1],.dat kInt.sl (le) [.slice a2 (le.length) c2]] (β:=Int) (fun y => .int .i64 (y)) (fun y => ((0≤y) ↔ ∃ x ∈ l,x ∈ le)) (fun y => [.loc g [.slice a1 (vo.length) c1,.slice a2 (le.length) c2] 31]):=by
 refine Spec.enter (vs:=[_,_]) Tryz.func144 rfl Tryz.ntmps144 rfl (Nat.le_of_ble_eq_true rfl) (fun w0 ok0 => ?_)
 generalize hM0 : blks _ = M0
 refine H_len_le (i:=0) rfl ?_
 intro hlen0
 refine H_len_le (i:=2) rfl ?_
 intro hlen2
 refine H_len_le (i:=3) rfl ?_
 intro hlen3
 refine H_seq ?_
 refine H_region (l:=[_]) rfl ?_
 refine HO_assign rfl rfl rfl ?_
 refine HO_nil ?_
 refine H_env (ρ':=[(0,_),(1,_)]) ⟨rfl,rfl,trivial⟩ ?_
 refine H_seq ?_
 refine H_seq ?_
 refine H_region (l:=[_,_,_]) rfl ?_
 refine HO_move rfl rfl rfl ?_
 refine HO_bi rfl rfl rfl (bi_len_sl Tryz.underlying29) ?_
 refine HO_move rfl rfl rfl ?_
 refine HO_nil ?_
 refine H_env (ρ':=[(8,_),(7,_),(0,_),(1,_)]) ⟨rfl,rfl,rfl,rfl,trivial⟩ ?_
 refine H_block ?_
 refine H_loop (σ:=Nat) (fun s => s≤l.length∧∀ x ∈ l.take s,x ∉ le) (fun s => [(0,.slice a (l.length) c),(1,.func (.func 118) #[] #[.pointer (some ⟨g,0,none⟩)]),(7,.int .i64 ((l.length : Int))),(8,.int .i64 ((s : Int)))]) (fun s => Asn w0 ok0 M0 [.dat kInt.sl (l) [.slice a (l.length) c],.loc g [.slice a1 (vo.length) c1,.slice a2 (le.length) c2] 31,.dat kInt.sl (vo) [.slice a1 (vo.length) c1],.dat kInt.sl (le) [.slice a2 (le.length) c2]]) (fun s => l.length - s) 0 ?_ ?_ ?_ ?_
 ·exact ⟨Nat.zero_le _,by simp⟩
 ·exact ⟨rfl,rfl,rfl,rfl,trivial⟩
 ·intro w hA
  exact hA.only (is:=[0,1,2,3]) (Z:=[]) rfl
 ·intro i hI
  (try dsimp only at hI ⊢)
  refine H_seq ?_
  refine H_region (l:=[_]) rfl ?_
  refine HO_bin rfl rfl rfl rfl bin_lss ?_
  refine HO_nil ?_
  refine H_seq ?_
  refine H_cond rfl ?_ ?_
  ·intro h9
   replace h9:=dT h9
   refine H_skip ?_
   refine H_seq ?_
   refine H_block ?_
   refine H_seq ?_
   refine H_region (l:=[_,_]) rfl ?_
   refine HO_move rfl rfl rfl ?_
   refine HO_assign rfl rfl rfl ?_
   refine HO_nil ?_
   refine H_env (ρ':=[(5,_),(0,_),(1,_),(7,_),(8,_)]) ⟨rfl,rfl,rfl,rfl,rfl,trivial⟩ ?_
   refine H_seq ?_
   refine H_region (l:=[_,_,_,_,_,_]) rfl ?_
   iterate 3 refine HO_move rfl rfl rfl ?_
   refine HO_indexAddr open_int (i:=0) rfl rfl rfl rfl rfl Tryz.underlying29 Tryz.sizeOf3 rfl ?_ ?_
   ·omega
   intro b14 o14 z14 y14 hz14 hI14
   clear y14
   refine HO_load1 (i:=0) (j:=0) rfl rfl rfl Tryz.isAgg3 rfl (.elem _ _ _) rfl rfl ?_
   refine HO_dup (i:=3) rfl rfl ?_
   refine HO_dup (i:=5) rfl rfl ?_
   refine HO_call (first:=[]) (capt:=[_]) (is:=[2,0,0]) (R:=[_,_,_,_]) rfl rfl rfl rfl rfl Tryz.call118 rfl (goodconf1_spec _ _ _ _ _ _ _ _) ?_
   intro y16 hy16
   clear y16 hy16
   refine HO_nil ?_
   refine H_env (ρ':=[(16,_),(5,_),(0,_),(1,_),(7,_),(8,_)]) ⟨rfl,rfl,rfl,rfl,rfl,rfl,trivial⟩ ?_
   refine H_world (kp [yy,nn,yy,yy,yy] [_,_,_,_] rfl) ?_
   refine H_cond rfl ?_ ?_
   ·intro h16
    replace h16:=dT h16
    refine H_seq ?_
    refine H_region (l:=[_,_]) rfl ?_
    refine HO_move rfl rfl rfl ?_
    refine HO_assign rfl rfl rfl ?_
    refine HO_nil ?_
    refine H_env (ρ':=[(4,_)]) ⟨rfl,trivial⟩ ?_
    refine H_world (kp [yy,nn,yy,yy] [_,_,_] rfl) ?_
    refine H_ret1 Tryz.results144 (.tmp rfl) (fun w hA => ⟨(i : Int),congrArg Ending.returned ?_,?_,?_⟩)
    ·rfl
    ·exact ⟨fun _ => ⟨_,List.mem_of_getElem? hz14,h16⟩,fun _ => by omega⟩
    ·exact hA.keep (m:=[yy,nn,nn]) (Y:=[_]) rfl
   intro h16
   replace h16:=dF h16
   refine H_skip ?_
   refine H_blk ?_
   refine H_region (l:=[_,_]) rfl ?_
   refine HO_bin rfl rfl rfl rfl (bin_add ?_ ?_) ?_
   ·omega
   ·omega
   refine HO_move rfl rfl rfl ?_
   refine HO_nil ?_
   refine H_env (ρ':=[(8,_),(0,_),(1,_),(7,_)]) ⟨rfl,rfl,rfl,rfl,trivial⟩ ?_
   refine H_inv (fun a w hf hA => ⟨i + 1,?_,?_,hf.sub ?_,?_⟩)
   ·exact ⟨by omega,fun x hx => ((Ent.mem_next hz14).1 hx).elim (hI.2 x) (fun e => e ▸ h16)⟩
   ·(try dsimp only);omega
   ·exact ⟨rfl,rfl,rfl,rfl,trivial⟩
   ·exact hA.only (is:=[0,0,2,3]) (Z:=[]) rfl
  intro h9
  replace h9:=dF h9
  refine H_exit rfl ?_
  refine H_seq ?_
  refine H_region (l:=[_]) rfl ?_
  refine HO_assign rfl rfl rfl ?_
  refine HO_nil ?_
  refine H_env (ρ':=[(4,_)]) ⟨rfl,trivial⟩ ?_
  refine H_world (kp [nn,yy,yy,yy] [_,_,_] rfl) ?_
  refine H_ret1 Tryz.results144 (.tmp rfl) (fun w hA => ⟨-1,congrArg Ending.returned ?_,?_,?_⟩)
  ·rfl
  ·(obtain rfl : i = l.length:=by omega);exact ⟨fun h => by omega,fun h => absurd h (by have:=hI.2;rw [List.take_length] at this;rintro ⟨x,h1,h2⟩;exact this x h1 h2)⟩
  ·exact hA.keep (m:=[yy,nn,nn]) (Y:=[_]) rfl
theorem containsfunc_spec (l : List Int) (a : Option Addr) (c : Nat) (g : Nat) (vo le : List Int) (a1 : Option Addr) (c1 : Nat) (a2 : Option Addr) (c2 : Nat)  : Spec Tryz.prog 121 #[.slice a (l.length) c,.func (.func 118) #[] #[.pointer (some ⟨g,0,none⟩)]] [.dat kInt.sl (l) [.slice a (l.length) c],.loc g [.slice a1 (vo.length) c1,.slice a2 (le.length) c2] 31,.dat kInt.sl (vo) [.slice a1 (vo.length) c1],.dat kInt.sl (le) [.slice a2 (le.length) c2]] (β:=Unit) (fun y => .bool ((Ent.both l le))) (fun y => True) (fun y => [.loc g [.slice a1 (vo.length) c1,.slice a2 (le.length) c2] 31]):=by
 refine Spec.enter (vs:=[_,_]) Tryz.func121 rfl Tryz.ntmps121 rfl (Nat.le_of_ble_eq_true rfl) (fun w0 ok0 => ?_)
 generalize hM0 : blks _ = M0
 refine H_len_le (i:=0) rfl ?_
 intro hlen0
 refine H_len_le (i:=2) rfl ?_
 intro hlen2
 refine H_len_le (i:=3) rfl ?_
 intro hlen3
 refine H_seq ?_
 refine H_region (l:=[_]) rfl ?_
 refine HO_assign rfl rfl rfl ?_
 refine HO_nil ?_
 refine H_env (ρ':=[(0,_),(1,_)]) ⟨rfl,rfl,trivial⟩ ?_
 refine H_seq ?_
 refine H_region (l:=[_,_,_,_,_]) rfl ?_
 iterate 2 refine HO_move rfl rfl rfl ?_
 refine HO_dup (i:=0) rfl rfl ?_
 refine HO_dup (i:=3) rfl rfl ?_
 refine HO_dup (i:=5) rfl rfl ?_
 refine HO_call (first:=[]) (capt:=[]) (is:=[0,2,0,0]) (R:=[_,_,_]) rfl rfl rfl rfl rfl Tryz.call144 rfl (indexfunc_spec _ _ _ _ _ _ _ _ _ _) ?_
 intro y7 hy7
 refine HO_bin rfl rfl rfl rfl bin_geq ?_
 refine HO_assign rfl rfl rfl ?_
 refine HO_nil ?_
 refine H_env (ρ':=[(4,_)]) ⟨rfl,trivial⟩ ?_
 refine H_world (kp [yy,nn,yy,yy] [_,_,_] rfl) ?_
 refine H_ret1 Tryz.results121 (.tmp rfl) (fun w hA => ⟨(),congrArg Ending.returned ?_,?_,?_⟩)
 ·(exact congrArg Value.bool (by rw [Ent.both_iff];exact decide_eq_decide.2 hy7))
 ·trivial
 ·exact hA.keep (m:=[yy,nn,nn]) (Y:=[_]) rfl
theorem goodconf_spec (vo le : List Int) (a1 : Option Addr) (c1 : Nat) (a2 : Option Addr) (c2 : Nat)  : Spec Tryz.prog 85 #[.agg #[.slice a1 (vo.length) c1,.slice a2 (le.length) c2]] [.dat kInt.sl (vo) [.slice a1 (vo.length) c1],.dat kInt.sl (le) [.slice a2 (le.length) c2]] (β:=Unit) (fun y => .bool (Ent.goodConf ⟨vo,le⟩)) (fun y => True) (fun y => []):=by
 refine Spec.enter (vs:=[_]) Tryz.func85 rfl Tryz.ntmps85 rfl (Nat.le_of_ble_eq_true rfl) (fun w0 ok0 => ?_)
 generalize hM0 : blks _ = M0
 have hMn:=@noM _ _ hM0 (by simp [Atom.dat,Atom.elem])
 refine H_len_le (i:=0) rfl ?_
 intro hlen0
 refine H_len_le (i:=1) rfl ?_
 intro hlen1
 refine H_seq ?_
 refine H_region (l:=[_,_]) rfl ?_
 refine HO_box (cs:=[_,_]) rfl rfl rfl rfl ?_
 intro g1
 refine HO_assign rfl rfl rfl ?_
 refine HO_nil ?_
 refine H_env (ρ':=[(1,_)]) ⟨rfl,trivial⟩ ?_
 refine H_seq ?_
 refine H_region (l:=[_,_]) rfl ?_
 refine HO_makeFunc (vs:=[]) (us:=[_]) rfl rfl rfl rfl ?_
 refine HO_assign rfl rfl rfl ?_
 refine HO_nil ?_
 refine H_env (ρ':=[(3,_),(1,_)]) ⟨rfl,rfl,trivial⟩ ?_
 refine H_seq ?_
 refine H_region (l:=[_,_,_,_,_,_,_,_,_,_,_,_,_,_,_,_,_,_,_,_,_,_]) rfl ?_
 refine HO_fieldAddr (r:=0) rfl rfl rfl Tryz.underlying31 rfl Tryz.sizeOf29 rfl ?_
 refine HO_load1 (i:=0) (j:=0) rfl rfl rfl Tryz.isAgg29 rfl (.loc _ _ _) rfl rfl ?_
 refine HO_bi rfl rfl rfl (bi_len_sl Tryz.underlying29) ?_
 refine HO_bin rfl rfl rfl rfl bin_gtr ?_
 refine HO_move rfl rfl rfl ?_
 refine HO_split (d:=9) rfl ?_ ?_
 ·intro h9
  replace h9:=dT h9
  refine HO_fieldAddr (r:=0) rfl rfl rfl Tryz.underlying31 rfl Tryz.sizeOf29 rfl ?_
  refine HO_load1 (i:=0) (j:=0) rfl rfl rfl Tryz.isAgg29 rfl (.loc _ _ _) rfl rfl ?_
  refine HO_dup (i:=1) rfl rfl ?_
  refine HO_call (first:=[]) (capt:=[]) (is:=[0]) (R:=[_,_,_]) rfl rfl rfl rfl rfl Tryz.call120 rfl (rises_spec _ _ _) ?_
  intro y12 hy12
  clear y12 hy12
  refine HO_pick_t rfl rfl rfl rfl ?_
  refine HO_move rfl rfl rfl ?_
  refine HO_split (d:=14) rfl ?_ ?_
  ·intro h14
   refine HO_fieldAddr (r:=1) rfl rfl rfl Tryz.underlying31 rfl Tryz.sizeOf29 rfl ?_
   refine HO_load1 (i:=0) (j:=1) rfl rfl rfl Tryz.isAgg29 rfl (.loc _ _ _) rfl rfl ?_
   refine HO_dup (i:=2) rfl rfl ?_
   refine HO_call (first:=[]) (capt:=[]) (is:=[0]) (R:=[_,_,_]) rfl rfl rfl rfl rfl Tryz.call120 rfl (rises_spec _ _ _) ?_
   intro y17 hy17
   clear y17 hy17
   refine HO_pick_t rfl rfl rfl rfl ?_
   refine HO_move rfl rfl rfl ?_
   refine HO_split (d:=19) rfl ?_ ?_
   ·intro h19
    refine HO_fieldAddr (r:=0) rfl rfl rfl Tryz.underlying31 rfl Tryz.sizeOf29 rfl ?_
    refine HO_load1 (i:=0) (j:=0) rfl rfl rfl Tryz.isAgg29 rfl (.loc _ _ _) rfl rfl ?_
    refine HO_move rfl rfl rfl ?_
    refine HO_dup (i:=1) rfl rfl ?_
    refine HO_dup (i:=2) rfl rfl ?_
    refine HO_dup (i:=4) rfl rfl ?_
    refine HO_call (first:=[]) (capt:=[]) (is:=[0,1,0,0]) (R:=[_,_]) rfl rfl rfl rfl rfl Tryz.call121 rfl (containsfunc_spec _ _ _ _ _ _ _ _ _ _) ?_
    intro y23 hy23
    clear y23 hy23
    refine HO_not rfl rfl rfl ?_
    refine HO_pick_t rfl rfl rfl rfl ?_
    refine HO_assign rfl rfl rfl ?_
    refine HO_nil ?_
    refine H_env (ρ':=[(2,_)]) ⟨rfl,trivial⟩ ?_
    refine H_world (kp [nn,nn,nn] [] rfl) ?_
    refine H_ret1 Tryz.results85 (.tmp rfl) (fun w hA => ⟨(),congrArg Ending.returned ?_,?_,?_⟩)
    ·(exact congrArg Value.bool (by first | (simp [Ent.goodConf, *];done) | (simp_all [Ent.goodConf];done)))
    ·trivial
    ·exact hA.keep (m:=[]) (Y:=[]) rfl
   intro h19
   iterate 5 refine HO_no rfl rfl rfl ?_
   refine HO_pick_f rfl rfl rfl rfl ?_
   refine HO_assign rfl rfl rfl ?_
   refine HO_nil ?_
   refine H_env (ρ':=[(2,_)]) ⟨rfl,trivial⟩ ?_
   refine H_world (kp [nn,nn,nn] [] rfl) ?_
   refine H_ret1 Tryz.results85 (.tmp rfl) (fun w hA => ⟨(),congrArg Ending.returned ?_,?_,?_⟩)
   ·(exact congrArg Value.bool (by first | (simp [Ent.goodConf, *];done) | (simp_all [Ent.goodConf];done)))
   ·trivial
   ·exact hA.keep (m:=[]) (Y:=[]) rfl
  intro h14
  iterate 3 refine HO_no rfl rfl rfl ?_
  refine HO_pick_f rfl rfl rfl rfl ?_
  refine HO_move rfl rfl rfl ?_
  iterate 5 refine HO_no rfl rfl rfl ?_
  refine HO_pick_f rfl rfl rfl rfl ?_
  refine HO_assign rfl rfl rfl ?_
  refine HO_nil ?_
  refine H_env (ρ':=[(2,_)]) ⟨rfl,trivial⟩ ?_
  refine H_world (kp [nn,nn,nn] [] rfl) ?_
  refine H_ret1 Tryz.results85 (.tmp rfl) (fun w hA => ⟨(),congrArg Ending.returned ?_,?_,?_⟩)
  ·(exact congrArg Value.bool (by first | (simp [Ent.goodConf, *];done) | (simp_all [Ent.goodConf];done)))
  ·trivial
  ·exact hA.keep (m:=[]) (Y:=[]) rfl
 intro h9
 replace h9:=dF h9
 iterate 3 refine HO_no rfl rfl rfl ?_
 refine HO_pick_f rfl rfl rfl rfl ?_
 refine HO_move rfl rfl rfl ?_
 iterate 3 refine HO_no rfl rfl rfl ?_
 refine HO_pick_f rfl rfl rfl rfl ?_
 refine HO_move rfl rfl rfl ?_
 iterate 5 refine HO_no rfl rfl rfl ?_
 refine HO_pick_f rfl rfl rfl rfl ?_
 refine HO_assign rfl rfl rfl ?_
 refine HO_nil ?_
 refine H_env (ρ':=[(2,_)]) ⟨rfl,trivial⟩ ?_
 refine H_world (kp [nn,nn,nn] [] rfl) ?_
 refine H_ret1 Tryz.results85 (.tmp rfl) (fun w hA => ⟨(),congrArg Ending.returned ?_,?_,?_⟩)
 ·(exact congrArg Value.bool (by first | (simp [Ent.goodConf, *];done) | (simp_all [Ent.goodConf];done)))
 ·trivial
 ·exact hA.keep (m:=[]) (Y:=[]) rfl
theorem none_spec (vo le : List Int) (a1 : Option Addr) (c1 : Nat) (a2 : Option Addr) (c2 : Nat) (n1 : vo.length≤BIG) (n2 : le.length≤BIG) : Spec Tryz.prog 48 #[.agg #[.slice a1 (vo.length) c1,.slice a2 (le.length) c2]] [.dat kInt.sl (vo) [.slice a1 (vo.length) c1],.dat kInt.sl (le) [.slice a2 (le.length) c2]] (β:=Unit) (fun y => .bool (Ent.none ⟨vo,le⟩)) (fun y => True) (fun y => []):=by
 (try simp only [BIG] at n1 n2)
 refine Spec.enter (vs:=[_]) Tryz.func48 rfl Tryz.ntmps48 rfl (Nat.le_of_ble_eq_true rfl) (fun w0 ok0 => ?_)
 generalize hM0 : blks _ = M0
 have hMn:=@noM _ _ hM0 (by simp [Atom.dat,Atom.elem])
 refine H_len_le (i:=0) rfl ?_
 intro hlen0
 refine H_len_le (i:=1) rfl ?_
 intro hlen1
 refine H_seq ?_
 refine H_region (l:=[_,_]) rfl ?_
 refine HO_box (cs:=[_,_]) rfl rfl rfl rfl ?_
 intro g1
 refine HO_assign rfl rfl rfl ?_
 refine HO_nil ?_
 refine H_env (ρ':=[(1,_)]) ⟨rfl,trivial⟩ ?_
 refine H_seq ?_
 refine H_region (l:=[_,_,_,_,_,_,_,_,_]) rfl ?_
 refine HO_fieldAddr (r:=0) rfl rfl rfl Tryz.underlying31 rfl Tryz.sizeOf29 rfl ?_
 refine HO_load1 (i:=0) (j:=0) rfl rfl rfl Tryz.isAgg29 rfl (.loc _ _ _) rfl rfl ?_
 refine HO_bi rfl rfl rfl (bi_len_sl Tryz.underlying29) ?_
 refine HO_fieldAddr (r:=1) rfl rfl rfl Tryz.underlying31 rfl Tryz.sizeOf29 rfl ?_
 refine HO_load1 (i:=0) (j:=1) rfl rfl rfl Tryz.isAgg29 rfl (.loc _ _ _) rfl rfl ?_
 refine HO_bi rfl rfl rfl (bi_len_sl Tryz.underlying29) ?_
 refine HO_bin rfl rfl rfl rfl (bin_add ?_ ?_) ?_
 ·omega
 ·omega
 refine HO_bin rfl rfl rfl rfl bin_eql ?_
 refine HO_assign rfl rfl rfl ?_
 refine HO_nil ?_
 refine H_env (ρ':=[(2,_)]) ⟨rfl,trivial⟩ ?_
 refine H_world (kp [nn,nn,nn] [] rfl) ?_
 refine H_ret1 Tryz.results48 (.tmp rfl) (fun w hA => ⟨(),congrArg Ending.returned ?_,?_,?_⟩)
 ·(exact congrArg Value.bool (Ent.none_eq ⟨vo,le⟩))
 ·trivial
 ·exact hA.keep (m:=[]) (Y:=[]) rfl
theorem entgood_spec (ix te ki : Int) (ck cs sq : Int) (ke ol cv ti : ByteArray) (li : Int) (vo le : List Int) (a1 : Option Addr) (c1 : Nat) (a2 : Option Addr) (c2 : Nat) (n1 : vo.length≤BIG) (n2 : le.length≤BIG) : Spec Tryz.prog 46 #[.agg #[.int .i64 (ix),.int .i64 (te),.int .i64 (ki),.int .i64 (ck),.int .i64 (cs),.int .i64 (sq),.string (ke),.string (ol),.string (cv),.string (ti),.int .i64 (li),.slice a1 (vo.length) c1,.slice a2 (le.length) c2]] [.dat kInt.sl (vo) [.slice a1 (vo.length) c1],.dat kInt.sl (le) [.slice a2 (le.length) c2]] (β:=Unit) (fun y => .bool (Ent.good ⟨ix,te,ki,⟨ck,cs,sq,ke,ol,cv,ti,li⟩,⟨vo,le⟩⟩)) (fun y => True) (fun y => []):=by
 refine Spec.enter (vs:=[_]) Tryz.func46 rfl Tryz.ntmps46 rfl (Nat.le_of_ble_eq_true rfl) (fun w0 ok0 => ?_)
 generalize hM0 : blks _ = M0
 have hMn:=@noM _ _ hM0 (by simp [Atom.dat,Atom.elem])
 refine H_len_le (i:=0) rfl ?_
 intro hlen0
 refine H_len_le (i:=1) rfl ?_
 intro hlen1
 refine H_seq ?_
 refine H_region (l:=[_,_]) rfl ?_
 refine HO_box (cs:=[_,_,_,_,_,_,_,_,_,_,_,_,_]) rfl rfl rfl rfl ?_
 intro g1
 refine HO_assign rfl rfl rfl ?_
 refine HO_nil ?_
 refine H_env (ρ':=[(1,_)]) ⟨rfl,trivial⟩ ?_
 refine H_seq ?_
 refine H_seq ?_
 refine H_region (l:=[_,_,_,_,_,_,_,_]) rfl ?_
 refine HO_fieldAddr (r:=0) rfl rfl rfl Tryz.underlying70 rfl Tryz.sizeOf3 rfl ?_
 refine HO_load1 (i:=0) (j:=0) rfl rfl rfl Tryz.isAgg3 rfl (.loc _ _ _) rfl rfl ?_
 refine HO_bin rfl rfl rfl rfl bin_lss ?_
 refine HO_move rfl rfl rfl ?_
 refine HO_split (d:=7) rfl ?_ ?_
 ·intro h7
  replace h7:=dT h7
  iterate 3 refine HO_no rfl rfl rfl ?_
  refine HO_pick_t rfl rfl rfl rfl ?_
  refine HO_nil ?_
  refine H_env (ρ':=[(11,_),(1,_)]) ⟨rfl,rfl,trivial⟩ ?_
  refine H_cond rfl (fun _ => ?_) (fun h => nomatch h)
  refine H_seq ?_
  refine H_region (l:=[_]) rfl ?_
  refine HO_assign rfl rfl rfl ?_
  refine HO_nil ?_
  refine H_env (ρ':=[(2,_)]) ⟨rfl,trivial⟩ ?_
  refine H_world (kp [nn,nn,nn] [] rfl) ?_
  refine H_ret1 Tryz.results46 (.tmp rfl) (fun w hA => ⟨(),congrArg Ending.returned ?_,?_,?_⟩)
  ·(exact congrArg Value.bool (by first | (simp [Ent.good,Ent.cmd0, *];done) | (simp_all [Ent.good,Ent.cmd0];done)))
  ·trivial
  ·exact hA.keep (m:=[]) (Y:=[]) rfl
 intro h7
 replace h7:=dF h7
 refine HO_fieldAddr (r:=1) rfl rfl rfl Tryz.underlying70 rfl Tryz.sizeOf3 rfl ?_
 refine HO_load1 (i:=0) (j:=1) rfl rfl rfl Tryz.isAgg3 rfl (.loc _ _ _) rfl rfl ?_
 refine HO_bin rfl rfl rfl rfl bin_lss ?_
 refine HO_pick_f rfl rfl rfl rfl ?_
 refine HO_nil ?_
 refine H_env (ρ':=[(11,_),(1,_)]) ⟨rfl,rfl,trivial⟩ ?_
 refine H_cond rfl ?_ ?_
 ·intro h11
  replace h11:=dT h11
  refine H_seq ?_
  refine H_region (l:=[_]) rfl ?_
  refine HO_assign rfl rfl rfl ?_
  refine HO_nil ?_
  refine H_env (ρ':=[(2,_)]) ⟨rfl,trivial⟩ ?_
  refine H_world (kp [nn,nn,nn] [] rfl) ?_
  refine H_ret1 Tryz.results46 (.tmp rfl) (fun w hA => ⟨(),congrArg Ending.returned ?_,?_,?_⟩)
  ·(exact congrArg Value.bool (by first | (simp [Ent.good,Ent.cmd0, *];done) | (simp_all [Ent.good,Ent.cmd0];done)))
  ·trivial
  ·exact hA.keep (m:=[]) (Y:=[]) rfl
 intro h11
 replace h11:=dF h11
 refine H_skip ?_
 refine H_seq ?_
 refine H_region (l:=[_,_,_,_,_]) rfl ?_
 refine HO_fieldAddr (r:=3) rfl rfl rfl Tryz.underlying70 rfl Tryz.sizeOf68 rfl ?_
 refine HO_loadA (i:=0) (us:=[_,_,_]) (cs:=[_,_,_,_,_,_,_,_]) (ts:=[_,_]) rfl rfl rfl Tryz.isAgg68 Tryz.sizeOf68 rfl (.loc _ _ _) rfl rfl rfl rfl ?_
 refine HO_build (xo:=[]) (vs:=[]) rfl rfl rfl rfl (bd68__) ?_
 refine HO_bin rfl rfl rfl rfl eq68_eql ?_
 refine HO_assign rfl rfl rfl ?_
 refine HO_nil ?_
 refine H_env (ρ':=[(3,_),(1,_)]) ⟨rfl,rfl,trivial⟩ ?_
 refine H_seq ?_
 refine H_seq ?_
 refine H_region (l:=[_,_]) rfl ?_
 refine HO_fieldAddr (r:=2) rfl rfl rfl Tryz.underlying70 rfl Tryz.sizeOf3 rfl ?_
 refine HO_load1 (i:=0) (j:=2) rfl rfl rfl Tryz.isAgg3 rfl (.loc _ _ _) rfl rfl ?_
 refine HO_nil ?_
 refine H_env (ρ':=[(17,_),(3,_),(1,_)]) ⟨rfl,rfl,rfl,trivial⟩ ?_
 refine H_block ?_
 refine H_seq ?_
 refine H_region (l:=[_,_]) rfl ?_
 refine HO_bin rfl rfl rfl rfl bin_eql ?_
 refine HO_assign rfl rfl rfl ?_
 refine HO_nil ?_
 refine H_env (ρ':=[(18,_),(17,_),(3,_),(1,_)]) ⟨rfl,rfl,rfl,rfl,trivial⟩ ?_
 refine H_cond rfl ?_ ?_
 ·intro h18
  replace h18:=dT h18
  refine H_seq ?_
  refine H_region (l:=[_,_,_,_,_,_,_]) rfl ?_
  iterate 2 refine HO_move rfl rfl rfl ?_
  refine HO_split (d:=21) rfl ?_ ?_
  ·intro h21
   (try simp only [decide_eq_true_eq,decide_eq_false_iff_not,Bool.not_eq_true',Bool.not_eq_false',Bool.not_eq_true,Bool.not_eq_false,Bool.true_eq_false,Bool.false_eq_true,not_false_eq_true,not_true_eq_false] at h21)
   refine HO_fieldAddr (r:=11) rfl rfl rfl Tryz.underlying70 rfl Tryz.sizeOf31 rfl ?_
   refine HO_loadA (i:=0) (us:=[_,_,_,_,_,_,_,_,_,_,_]) (cs:=[_,_]) (ts:=[]) rfl rfl rfl Tryz.isAgg31 Tryz.sizeOf31 rfl (.loc _ _ _) rfl rfl rfl rfl ?_
   refine HO_dup (i:=1) rfl rfl ?_
   refine HO_dup (i:=3) rfl rfl ?_
   refine HO_call (first:=[]) (capt:=[]) (is:=[0,0]) (R:=[_,_,_]) rfl rfl rfl rfl rfl Tryz.call48 rfl (none_spec _ _ _ _ _ _ ?_ ?_) ?_
   ·(first | omega | assumption | decide)
   ·(first | omega | assumption | decide)
   intro y24 hy24
   clear y24 hy24
   refine HO_pick_t rfl rfl rfl rfl ?_
   refine HO_assign rfl rfl rfl ?_
   refine HO_nil ?_
   refine H_env (ρ':=[(2,_)]) ⟨rfl,trivial⟩ ?_
   refine H_world (kp [nn,nn,nn] [] rfl) ?_
   refine H_ret1 Tryz.results46 (.tmp rfl) (fun w hA => ⟨(),congrArg Ending.returned ?_,?_,?_⟩)
   ·(exact congrArg Value.bool (by first | (simp [Ent.good,Ent.cmd0, *];done) | (simp_all [Ent.good,Ent.cmd0];done)))
   ·trivial
   ·exact hA.keep (m:=[]) (Y:=[]) rfl
  intro h21
  (try simp only [decide_eq_true_eq,decide_eq_false_iff_not,Bool.not_eq_true',Bool.not_eq_false',Bool.not_eq_true,Bool.not_eq_false,Bool.true_eq_false,Bool.false_eq_true,not_false_eq_true,not_true_eq_false] at h21)
  iterate 3 refine HO_no rfl rfl rfl ?_
  refine HO_pick_f rfl rfl rfl rfl ?_
  refine HO_assign rfl rfl rfl ?_
  refine HO_nil ?_
  refine H_env (ρ':=[(2,_)]) ⟨rfl,trivial⟩ ?_
  refine H_world (kp [nn,nn,nn] [] rfl) ?_
  refine H_ret1 Tryz.results46 (.tmp rfl) (fun w hA => ⟨(),congrArg Ending.returned ?_,?_,?_⟩)
  ·(exact congrArg Value.bool (by first | (simp [Ent.good,Ent.cmd0, *];done) | (simp_all [Ent.good,Ent.cmd0];done)))
  ·trivial
  ·exact hA.keep (m:=[]) (Y:=[]) rfl
 intro h18
 replace h18:=dF h18
 refine H_seq ?_
 refine H_region (l:=[_,_]) rfl ?_
 refine HO_bin rfl rfl rfl rfl bin_eql ?_
 refine HO_assign rfl rfl rfl ?_
 refine HO_nil ?_
 refine H_env (ρ':=[(26,_),(17,_),(3,_),(1,_)]) ⟨rfl,rfl,rfl,rfl,trivial⟩ ?_
 refine H_cond rfl ?_ ?_
 ·intro h26
  replace h26:=dT h26
  refine H_seq ?_
  refine H_region (l:=[_,_,_,_,_,_,_,_,_]) rfl ?_
  refine HO_fieldAddr (r:=11) rfl rfl rfl Tryz.underlying70 rfl Tryz.sizeOf31 rfl ?_
  refine HO_loadA (i:=0) (us:=[_,_,_,_,_,_,_,_,_,_,_]) (cs:=[_,_]) (ts:=[]) rfl rfl rfl Tryz.isAgg31 Tryz.sizeOf31 rfl (.loc _ _ _) rfl rfl rfl rfl ?_
  refine HO_dup (i:=1) rfl rfl ?_
  refine HO_dup (i:=3) rfl rfl ?_
  refine HO_call (first:=[]) (capt:=[]) (is:=[0,0]) (R:=[_,_,_]) rfl rfl rfl rfl rfl Tryz.call48 rfl (none_spec _ _ _ _ _ _ ?_ ?_) ?_
  ·(first | omega | assumption | decide)
  ·(first | omega | assumption | decide)
  intro y30 hy30
  clear y30 hy30
  refine HO_move rfl rfl rfl ?_
  refine HO_split (d:=31) rfl ?_ ?_
  ·intro h31
   refine HO_fieldAddr (r:=3) rfl rfl rfl Tryz.underlying70 rfl Tryz.sizeOf68 rfl ?_
   refine HO_loadA (i:=0) (us:=[_,_,_]) (cs:=[_,_,_,_,_,_,_,_]) (ts:=[_,_]) rfl rfl rfl Tryz.isAgg68 Tryz.sizeOf68 rfl (.loc _ _ _) rfl rfl rfl rfl ?_
   refine HO_call (first:=[]) (capt:=[]) (is:=[]) (R:=[_,_,_]) rfl rfl rfl rfl rfl Tryz.call84 rfl (good_spec _ _ _ _ _ _ _ _) ?_
   intro y34 hy34
   clear y34 hy34
   refine HO_pick_t rfl rfl rfl rfl ?_
   refine HO_assign rfl rfl rfl ?_
   refine HO_nil ?_
   refine H_env (ρ':=[(2,_)]) ⟨rfl,trivial⟩ ?_
   refine H_world (kp [nn,nn,nn] [] rfl) ?_
   refine H_ret1 Tryz.results46 (.tmp rfl) (fun w hA => ⟨(),congrArg Ending.returned ?_,?_,?_⟩)
   ·(exact congrArg Value.bool (by first | (simp [Ent.good,Ent.cmd0, *];done) | (simp_all [Ent.good,Ent.cmd0];done)))
   ·trivial
   ·exact hA.keep (m:=[]) (Y:=[]) rfl
  intro h31
  iterate 3 refine HO_no rfl rfl rfl ?_
  refine HO_pick_f rfl rfl rfl rfl ?_
  refine HO_assign rfl rfl rfl ?_
  refine HO_nil ?_
  refine H_env (ρ':=[(2,_)]) ⟨rfl,trivial⟩ ?_
  refine H_world (kp [nn,nn,nn] [] rfl) ?_
  refine H_ret1 Tryz.results46 (.tmp rfl) (fun w hA => ⟨(),congrArg Ending.returned ?_,?_,?_⟩)
  ·(exact congrArg Value.bool (by first | (simp [Ent.good,Ent.cmd0, *];done) | (simp_all [Ent.good,Ent.cmd0];done)))
  ·trivial
  ·exact hA.keep (m:=[]) (Y:=[]) rfl
 intro h26
 replace h26:=dF h26
 refine H_seq ?_
 refine H_region (l:=[_,_]) rfl ?_
 refine HO_bin rfl rfl rfl rfl bin_eql ?_
 refine HO_assign rfl rfl rfl ?_
 refine HO_nil ?_
 refine H_env (ρ':=[(36,_),(3,_),(1,_)]) ⟨rfl,rfl,rfl,trivial⟩ ?_
 refine H_cond rfl ?_ ?_
 ·intro h36
  replace h36:=dT h36
  refine H_seq ?_
  refine H_region (l:=[_,_,_,_,_,_,_]) rfl ?_
  iterate 2 refine HO_move rfl rfl rfl ?_
  refine HO_split (d:=39) rfl ?_ ?_
  ·intro h39
   (try simp only [decide_eq_true_eq,decide_eq_false_iff_not,Bool.not_eq_true',Bool.not_eq_false',Bool.not_eq_true,Bool.not_eq_false,Bool.true_eq_false,Bool.false_eq_true,not_false_eq_true,not_true_eq_false] at h39)
   refine HO_fieldAddr (r:=11) rfl rfl rfl Tryz.underlying70 rfl Tryz.sizeOf31 rfl ?_
   refine HO_loadA (i:=0) (us:=[_,_,_,_,_,_,_,_,_,_,_]) (cs:=[_,_]) (ts:=[]) rfl rfl rfl Tryz.isAgg31 Tryz.sizeOf31 rfl (.loc _ _ _) rfl rfl rfl rfl ?_
   refine HO_dup (i:=1) rfl rfl ?_
   refine HO_dup (i:=3) rfl rfl ?_
   refine HO_call (first:=[]) (capt:=[]) (is:=[0,0]) (R:=[_,_,_]) rfl rfl rfl rfl rfl Tryz.call85 rfl (goodconf_spec _ _ _ _ _ _) ?_
   intro y42 hy42
   clear y42 hy42
   refine HO_pick_t rfl rfl rfl rfl ?_
   refine HO_assign rfl rfl rfl ?_
   refine HO_nil ?_
   refine H_env (ρ':=[(2,_)]) ⟨rfl,trivial⟩ ?_
   refine H_world (kp [nn,nn,nn] [] rfl) ?_
   refine H_ret1 Tryz.results46 (.tmp rfl) (fun w hA => ⟨(),congrArg Ending.returned ?_,?_,?_⟩)
   ·(exact congrArg Value.bool (by first | (simp [Ent.good,Ent.cmd0, *];done) | (simp_all [Ent.good,Ent.cmd0];done)))
   ·trivial
   ·exact hA.keep (m:=[]) (Y:=[]) rfl
  intro h39
  (try simp only [decide_eq_true_eq,decide_eq_false_iff_not,Bool.not_eq_true',Bool.not_eq_false',Bool.not_eq_true,Bool.not_eq_false,Bool.true_eq_false,Bool.false_eq_true,not_false_eq_true,not_true_eq_false] at h39)
  iterate 3 refine HO_no rfl rfl rfl ?_
  refine HO_pick_f rfl rfl rfl rfl ?_
  refine HO_assign rfl rfl rfl ?_
  refine HO_nil ?_
  refine H_env (ρ':=[(2,_)]) ⟨rfl,trivial⟩ ?_
  refine H_world (kp [nn,nn,nn] [] rfl) ?_
  refine H_ret1 Tryz.results46 (.tmp rfl) (fun w hA => ⟨(),congrArg Ending.returned ?_,?_,?_⟩)
  ·(exact congrArg Value.bool (by first | (simp [Ent.good,Ent.cmd0, *];done) | (simp_all [Ent.good,Ent.cmd0];done)))
  ·trivial
  ·exact hA.keep (m:=[]) (Y:=[]) rfl
 intro h36
 replace h36:=dF h36
 refine H_skip ?_
 refine H_blk ?_
 refine H_seq ?_
 refine H_region (l:=[_]) rfl ?_
 refine HO_assign rfl rfl rfl ?_
 refine HO_nil ?_
 refine H_env (ρ':=[(2,_)]) ⟨rfl,trivial⟩ ?_
 refine H_world (kp [nn,nn,nn] [] rfl) ?_
 refine H_ret1 Tryz.results46 (.tmp rfl) (fun w hA => ⟨(),congrArg Ending.returned ?_,?_,?_⟩)
 ·(exact congrArg Value.bool (by first | (simp [Ent.good,Ent.cmd0, *];done) | (simp_all [Ent.good,Ent.cmd0];done)))
 ·trivial
 ·exact hA.keep (m:=[]) (Y:=[]) rfl
theorem rrises_spec (l : List Int) (a : Option Addr) (c : Nat)  : Spec Tryz.prog 116 #[.slice a (l.length) c] [.dat kInt.sl (l) [.slice a (l.length) c]] (β:=Unit) (fun y => .bool (Ent.rises l)) (fun y => True) (fun y => []):=by
 refine Spec.enter (vs:=[_]) Tryz.func116 rfl Tryz.ntmps116 rfl (Nat.le_of_ble_eq_true rfl) (fun w0 ok0 => ?_)
 generalize hM0 : blks _ = M0
 have hMn:=@noM _ _ hM0 (by simp [Atom.dat,Atom.elem])
 refine H_len_le (i:=0) rfl ?_
 intro hlen0
 refine H_seq ?_
 refine H_region (l:=[_]) rfl ?_
 refine HO_assign rfl rfl rfl ?_
 refine HO_nil ?_
 refine H_env (ρ':=[(0,_)]) ⟨rfl,trivial⟩ ?_
 refine H_seq ?_
 refine H_seq ?_
 refine H_region (l:=[_,_,_]) rfl ?_
 refine HO_move rfl rfl rfl ?_
 refine HO_bi rfl rfl rfl (bi_len_sl Tryz.underlying29) ?_
 refine HO_move rfl rfl rfl ?_
 refine HO_nil ?_
 refine H_block ?_
 refine H_loop (σ:=Nat) (fun s => s≤l.length∧Ent.rises l = Ent.risesFrom (Ent.pv l s) (l.drop s)) (fun s => [(0,.slice a (l.length) c),(5,.slice a (l.length) c),(6,.int .i64 ((l.length : Int))),(7,.int .i64 ((s : Int)))]) (fun s => Asn w0 ok0 M0 [.dat kInt.sl (l) [.slice a (l.length) c]]) (fun s => l.length - s) 0 ?_ ?_ ?_ ?_
 ·exact ⟨Nat.zero_le _,rfl⟩
 ·exact ⟨rfl,rfl,rfl,rfl,trivial⟩
 ·intro w hA
  exact hA.only (is:=[0]) (Z:=[]) rfl
 ·intro i hI
  (try dsimp only at hI ⊢)
  refine H_seq ?_
  refine H_region (l:=[_]) rfl ?_
  refine HO_bin rfl rfl rfl rfl bin_lss ?_
  refine HO_nil ?_
  refine H_seq ?_
  refine H_cond rfl ?_ ?_
  ·intro h8
   replace h8:=dT h8
   refine H_skip ?_
   refine H_seq ?_
   refine H_block ?_
   refine H_seq ?_
   refine H_region (l:=[_,_,_,_,_]) rfl ?_
   refine HO_move rfl rfl rfl ?_
   refine HO_indexAddr open_int (i:=0) rfl rfl rfl rfl rfl Tryz.underlying29 Tryz.sizeOf3 rfl ?_ ?_
   ·omega
   intro b10 o10 z10 y10 hz10 hI10
   clear y10
   refine HO_load1 (i:=0) (j:=0) rfl rfl rfl Tryz.isAgg3 rfl (.elem _ _ _) rfl rfl ?_
   iterate 2 refine HO_assign rfl rfl rfl ?_
   refine HO_nil ?_
   refine H_env (ρ':=[(4,_),(3,_),(0,_),(5,_),(6,_),(7,_)]) ⟨rfl,rfl,rfl,rfl,rfl,rfl,trivial⟩ ?_
   refine H_world (kp [nn,yy] [_] rfl) ?_
   refine H_seq ?_
   refine H_region (l:=[_,_,_,_,_,_,_,_,_,_,_,_,_,_,_,_,_,_,_]) rfl ?_
   refine HO_move rfl rfl rfl ?_
   refine HO_bin rfl rfl rfl rfl bin_lss ?_
   refine HO_move rfl rfl rfl ?_
   refine HO_split (d:=14) rfl ?_ ?_
   ·intro h14
    replace h14:=dT h14
    iterate 2 refine HO_no rfl rfl rfl ?_
    refine HO_pick_t rfl rfl rfl rfl ?_
    refine HO_move rfl rfl rfl ?_
    iterate 11 refine HO_no rfl rfl rfl ?_
    refine HO_pick_t rfl rfl rfl rfl ?_
    refine HO_nil ?_
    refine H_env (ρ':=[(30,_),(0,_),(5,_),(6,_),(7,_)]) ⟨rfl,rfl,rfl,rfl,rfl,trivial⟩ ?_
    refine H_cond rfl (fun _ => ?_) (fun h => nomatch h)
    refine H_seq ?_
    refine H_region (l:=[_]) rfl ?_
    refine HO_assign rfl rfl rfl ?_
    refine HO_nil ?_
    refine H_env (ρ':=[(2,_)]) ⟨rfl,trivial⟩ ?_
    refine H_world (kp [nn] [] rfl) ?_
    refine H_ret1 Tryz.results116 (.tmp rfl) (fun w hA => ⟨(),congrArg Ending.returned ?_,?_,?_⟩)
    ·(exact congrArg Value.bool (by first | exact Ent.rises_no hz10 hI.2 (.inl h14) | exact Ent.rises_no hz10 hI.2 (.inr (.inl h18)) | exact Ent.rises_no hz10 hI.2 (.inr (.inr (by rw [Ent.pv_at h21 hz25];omega))) | exact Ent.rises_end hI.2 (by omega)))
    ·trivial
    ·exact hA.keep (m:=[]) (Y:=[]) rfl
   intro h14
   replace h14:=dF h14
   refine HO_move rfl rfl rfl ?_
   refine HO_bin rfl rfl rfl rfl bin_gtr ?_
   refine HO_pick_f rfl rfl rfl rfl ?_
   refine HO_move rfl rfl rfl ?_
   refine HO_split (d:=18) rfl ?_ ?_
   ·intro h18
    replace h18:=dT h18
    iterate 11 refine HO_no rfl rfl rfl ?_
    refine HO_pick_t rfl rfl rfl rfl ?_
    refine HO_nil ?_
    refine H_env (ρ':=[(30,_),(0,_),(5,_),(6,_),(7,_)]) ⟨rfl,rfl,rfl,rfl,rfl,trivial⟩ ?_
    refine H_cond rfl (fun _ => ?_) (fun h => nomatch h)
    refine H_seq ?_
    refine H_region (l:=[_]) rfl ?_
    refine HO_assign rfl rfl rfl ?_
    refine HO_nil ?_
    refine H_env (ρ':=[(2,_)]) ⟨rfl,trivial⟩ ?_
    refine H_world (kp [nn] [] rfl) ?_
    refine H_ret1 Tryz.results116 (.tmp rfl) (fun w hA => ⟨(),congrArg Ending.returned ?_,?_,?_⟩)
    ·(exact congrArg Value.bool (by first | exact Ent.rises_no hz10 hI.2 (.inl h14) | exact Ent.rises_no hz10 hI.2 (.inr (.inl h18)) | exact Ent.rises_no hz10 hI.2 (.inr (.inr (by rw [Ent.pv_at h21 hz25];omega))) | exact Ent.rises_end hI.2 (by omega)))
    ·trivial
    ·exact hA.keep (m:=[]) (Y:=[]) rfl
   intro h18
   replace h18:=dF h18
   refine HO_move rfl rfl rfl ?_
   refine HO_bin rfl rfl rfl rfl bin_gtr ?_
   refine HO_move rfl rfl rfl ?_
   refine HO_split (d:=21) rfl ?_ ?_
   ·intro h21
    replace h21:=dT h21
    iterate 2 refine HO_move rfl rfl rfl ?_
    refine HO_bin rfl rfl rfl rfl (bin_sub ?_ ?_) ?_
    ·omega
    ·omega
    refine HO_indexAddr open_int (i:=0) (j:=i - 1) rfl rfl rfl rfl ?_ Tryz.underlying29 Tryz.sizeOf3 rfl ?_ ?_
    ·omega
    ·omega
    intro b25 o25 z25 y25 hz25 hI25
    clear y25
    refine HO_load1 (i:=0) (j:=0) rfl rfl rfl Tryz.isAgg3 rfl (.elem _ _ _) rfl rfl ?_
    refine HO_move rfl rfl rfl ?_
    refine HO_bin rfl rfl rfl rfl bin_geq ?_
    refine HO_pick_t rfl rfl rfl rfl ?_
    refine HO_pick_f rfl rfl rfl rfl ?_
    refine HO_nil ?_
    refine H_env (ρ':=[(30,_),(0,_),(5,_),(6,_),(7,_)]) ⟨rfl,rfl,rfl,rfl,rfl,trivial⟩ ?_
    refine H_world (kp [nn,yy] [_] rfl) ?_
    refine H_cond rfl ?_ ?_
    ·intro h30
     replace h30:=dT h30
     refine H_seq ?_
     refine H_region (l:=[_]) rfl ?_
     refine HO_assign rfl rfl rfl ?_
     refine HO_nil ?_
     refine H_env (ρ':=[(2,_)]) ⟨rfl,trivial⟩ ?_
     refine H_world (kp [nn] [] rfl) ?_
     refine H_ret1 Tryz.results116 (.tmp rfl) (fun w hA => ⟨(),congrArg Ending.returned ?_,?_,?_⟩)
     ·(exact congrArg Value.bool (by first | exact Ent.rises_no hz10 hI.2 (.inl h14) | exact Ent.rises_no hz10 hI.2 (.inr (.inl h18)) | exact Ent.rises_no hz10 hI.2 (.inr (.inr (by rw [Ent.pv_at h21 hz25];omega))) | exact Ent.rises_end hI.2 (by omega)))
     ·trivial
     ·exact hA.keep (m:=[]) (Y:=[]) rfl
    intro h30
    replace h30:=dF h30
    refine H_skip ?_
    refine H_blk ?_
    refine H_region (l:=[_,_]) rfl ?_
    refine HO_bin rfl rfl rfl rfl (bin_add ?_ ?_) ?_
    ·omega
    ·omega
    refine HO_move rfl rfl rfl ?_
    refine HO_nil ?_
    refine H_env (ρ':=[(7,_),(0,_),(5,_),(6,_)]) ⟨rfl,rfl,rfl,rfl,trivial⟩ ?_
    refine H_inv (fun a w hf hA => ⟨i + 1,?_,?_,hf.sub ?_,?_⟩)
    ·exact ⟨by omega,Ent.rises_next hz10 hI.2 (by omega) (by omega) (by first | (rw [Ent.pv_0 h21];omega) | (rw [Ent.pv_at h21 hz25];omega))⟩
    ·(try dsimp only);omega
    ·exact ⟨rfl,rfl,rfl,rfl,trivial⟩
    ·exact hA.only (is:=[0]) (Z:=[]) rfl
   intro h21
   replace h21:=dF h21
   iterate 7 refine HO_no rfl rfl rfl ?_
   iterate 2 refine HO_pick_f rfl rfl rfl rfl ?_
   refine HO_nil ?_
   refine H_env (ρ':=[(30,_),(0,_),(5,_),(6,_),(7,_)]) ⟨rfl,rfl,rfl,rfl,rfl,trivial⟩ ?_
   refine H_cond rfl (fun h => nomatch h) (fun _ => ?_)
   refine H_skip ?_
   refine H_blk ?_
   refine H_region (l:=[_,_]) rfl ?_
   refine HO_bin rfl rfl rfl rfl (bin_add ?_ ?_) ?_
   ·omega
   ·omega
   refine HO_move rfl rfl rfl ?_
   refine HO_nil ?_
   refine H_env (ρ':=[(7,_),(0,_),(5,_),(6,_)]) ⟨rfl,rfl,rfl,rfl,trivial⟩ ?_
   refine H_inv (fun a w hf hA => ⟨i + 1,?_,?_,hf.sub ?_,?_⟩)
   ·exact ⟨by omega,Ent.rises_next hz10 hI.2 (by omega) (by omega) (by first | (rw [Ent.pv_0 h21];omega) | (rw [Ent.pv_at h21 hz25];omega))⟩
   ·(try dsimp only);omega
   ·exact ⟨rfl,rfl,rfl,rfl,trivial⟩
   ·exact hA.only (is:=[0]) (Z:=[]) rfl
  intro h8
  replace h8:=dF h8
  refine H_exit rfl ?_
  refine H_seq ?_
  refine H_region (l:=[_]) rfl ?_
  refine HO_assign rfl rfl rfl ?_
  refine HO_nil ?_
  refine H_env (ρ':=[(2,_)]) ⟨rfl,trivial⟩ ?_
  refine H_world (kp [nn] [] rfl) ?_
  refine H_ret1 Tryz.results116 (.tmp rfl) (fun w hA => ⟨(),congrArg Ending.returned ?_,?_,?_⟩)
  ·(exact congrArg Value.bool (by first | exact Ent.rises_no hz10 hI.2 (.inl h14) | exact Ent.rises_no hz10 hI.2 (.inr (.inl h18)) | exact Ent.rises_no hz10 hI.2 (.inr (.inr (by rw [Ent.pv_at h21 hz25];omega))) | exact Ent.rises_end hI.2 (by omega)))
  ·trivial
  ·exact hA.keep (m:=[]) (Y:=[]) rfl
theorem rgoodconf_spec (vo le : List Int) (a1 : Option Addr) (c1 : Nat) (a2 : Option Addr) (c2 : Nat)  : Spec Tryz.prog 83 #[.agg #[.slice a1 (vo.length) c1,.slice a2 (le.length) c2]] [.dat kInt.sl (vo) [.slice a1 (vo.length) c1],.dat kInt.sl (le) [.slice a2 (le.length) c2]] (β:=Unit) (fun y => .bool (Ent.goodConf ⟨vo,le⟩)) (fun y => True) (fun y => []):=by
 refine Spec.enter (vs:=[_]) Tryz.func83 rfl Tryz.ntmps83 rfl (Nat.le_of_ble_eq_true rfl) (fun w0 ok0 => ?_)
 generalize hM0 : blks _ = M0
 have hMn:=@noM _ _ hM0 (by simp [Atom.dat,Atom.elem])
 refine H_len_le (i:=0) rfl ?_
 intro hlen0
 refine H_len_le (i:=1) rfl ?_
 intro hlen1
 refine H_seq ?_
 refine H_region (l:=[_,_]) rfl ?_
 refine HO_box (cs:=[_,_]) rfl rfl rfl rfl ?_
 intro g1
 refine HO_assign rfl rfl rfl ?_
 refine HO_nil ?_
 refine H_env (ρ':=[(1,_)]) ⟨rfl,trivial⟩ ?_
 refine H_seq ?_
 refine H_seq ?_
 refine H_region (l:=[_,_,_,_,_,_,_,_,_,_,_,_,_,_,_,_]) rfl ?_
 refine HO_fieldAddr (r:=0) rfl rfl rfl Tryz.underlying31 rfl Tryz.sizeOf29 rfl ?_
 refine HO_load1 (i:=0) (j:=0) rfl rfl rfl Tryz.isAgg29 rfl (.loc _ _ _) rfl rfl ?_
 refine HO_dup (i:=1) rfl rfl ?_
 refine HO_call (first:=[]) (capt:=[]) (is:=[0]) (R:=[_,_,_]) rfl rfl rfl rfl rfl Tryz.call116 rfl (rrises_spec _ _ _) ?_
 intro y9 hy9
 clear y9 hy9
 refine HO_not rfl rfl rfl ?_
 refine HO_move rfl rfl rfl ?_
 refine HO_split (d:=11) rfl ?_ ?_
 ·intro h11
  replace h11:=nT h11
  iterate 4 refine HO_no rfl rfl rfl ?_
  refine HO_pick_t rfl rfl rfl rfl ?_
  refine HO_move rfl rfl rfl ?_
  iterate 4 refine HO_no rfl rfl rfl ?_
  refine HO_pick_t rfl rfl rfl rfl ?_
  refine HO_nil ?_
  refine H_env (ρ':=[(22,_),(1,_)]) ⟨rfl,rfl,trivial⟩ ?_
  refine H_cond rfl (fun _ => ?_) (fun h => nomatch h)
  refine H_seq ?_
  refine H_region (l:=[_]) rfl ?_
  refine HO_assign rfl rfl rfl ?_
  refine HO_nil ?_
  refine H_env (ρ':=[(2,_)]) ⟨rfl,trivial⟩ ?_
  refine H_world (kp [nn,nn,nn] [] rfl) ?_
  refine H_ret1 Tryz.results83 (.tmp rfl) (fun w hA => ⟨(),congrArg Ending.returned ?_,?_,?_⟩)
  ·(exact congrArg Value.bool (by first | exact Ent.rgood_no hz28 hz35 h39 | (simp_all [Ent.goodConf];done) | exact Ent.rgood_yes h11 h17 h22 hI (by omega)))
  ·trivial
  ·exact hA.keep (m:=[]) (Y:=[]) rfl
 intro h11
 replace h11:=nF h11
 refine HO_fieldAddr (r:=1) rfl rfl rfl Tryz.underlying31 rfl Tryz.sizeOf29 rfl ?_
 refine HO_load1 (i:=0) (j:=1) rfl rfl rfl Tryz.isAgg29 rfl (.loc _ _ _) rfl rfl ?_
 refine HO_dup (i:=2) rfl rfl ?_
 refine HO_call (first:=[]) (capt:=[]) (is:=[0]) (R:=[_,_,_]) rfl rfl rfl rfl rfl Tryz.call116 rfl (rrises_spec _ _ _) ?_
 intro y14 hy14
 clear y14 hy14
 refine HO_not rfl rfl rfl ?_
 refine HO_pick_f rfl rfl rfl rfl ?_
 refine HO_move rfl rfl rfl ?_
 refine HO_split (d:=17) rfl ?_ ?_
 ·intro h17
  replace h17:=nT h17
  iterate 4 refine HO_no rfl rfl rfl ?_
  refine HO_pick_t rfl rfl rfl rfl ?_
  refine HO_nil ?_
  refine H_env (ρ':=[(22,_),(1,_)]) ⟨rfl,rfl,trivial⟩ ?_
  refine H_cond rfl (fun _ => ?_) (fun h => nomatch h)
  refine H_seq ?_
  refine H_region (l:=[_]) rfl ?_
  refine HO_assign rfl rfl rfl ?_
  refine HO_nil ?_
  refine H_env (ρ':=[(2,_)]) ⟨rfl,trivial⟩ ?_
  refine H_world (kp [nn,nn,nn] [] rfl) ?_
  refine H_ret1 Tryz.results83 (.tmp rfl) (fun w hA => ⟨(),congrArg Ending.returned ?_,?_,?_⟩)
  ·(exact congrArg Value.bool (by first | exact Ent.rgood_no hz28 hz35 h39 | (simp_all [Ent.goodConf];done) | exact Ent.rgood_yes h11 h17 h22 hI (by omega)))
  ·trivial
  ·exact hA.keep (m:=[]) (Y:=[]) rfl
 intro h17
 replace h17:=nF h17
 refine HO_fieldAddr (r:=0) rfl rfl rfl Tryz.underlying31 rfl Tryz.sizeOf29 rfl ?_
 refine HO_load1 (i:=0) (j:=0) rfl rfl rfl Tryz.isAgg29 rfl (.loc _ _ _) rfl rfl ?_
 refine HO_bi rfl rfl rfl (bi_len_sl Tryz.underlying29) ?_
 refine HO_bin rfl rfl rfl rfl bin_eql ?_
 refine HO_pick_f rfl rfl rfl rfl ?_
 refine HO_nil ?_
 refine H_env (ρ':=[(22,_),(1,_)]) ⟨rfl,rfl,trivial⟩ ?_
 refine H_cond rfl ?_ ?_
 ·intro h22
  replace h22:=dT h22
  refine H_seq ?_
  refine H_region (l:=[_]) rfl ?_
  refine HO_assign rfl rfl rfl ?_
  refine HO_nil ?_
  refine H_env (ρ':=[(2,_)]) ⟨rfl,trivial⟩ ?_
  refine H_world (kp [nn,nn,nn] [] rfl) ?_
  refine H_ret1 Tryz.results83 (.tmp rfl) (fun w hA => ⟨(),congrArg Ending.returned ?_,?_,?_⟩)
  ·(exact congrArg Value.bool (by first | exact Ent.rgood_no hz28 hz35 h39 | (simp_all [Ent.goodConf];done) | exact Ent.rgood_yes h11 h17 h22 hI (by omega)))
  ·trivial
  ·exact hA.keep (m:=[]) (Y:=[]) rfl
 intro h22
 replace h22:=dF h22
 refine H_skip ?_
 refine H_seq ?_
 refine H_seq ?_
 refine H_region (l:=[_,_,_,_]) rfl ?_
 refine HO_fieldAddr (r:=0) rfl rfl rfl Tryz.underlying31 rfl Tryz.sizeOf29 rfl ?_
 refine HO_load1 (i:=0) (j:=0) rfl rfl rfl Tryz.isAgg29 rfl (.loc _ _ _) rfl rfl ?_
 refine HO_bi rfl rfl rfl (bi_len_sl Tryz.underlying29) ?_
 refine HO_move rfl rfl rfl ?_
 refine HO_nil ?_
 refine H_env (ρ':=[(26,_),(25,_),(24,_),(1,_)]) ⟨rfl,rfl,rfl,rfl,trivial⟩ ?_
 refine H_block ?_
 refine H_loop (σ:=Nat) (fun s => s≤vo.length∧∀ x ∈ vo.take s,x ∉ le) (fun s => [(1,.pointer (some ⟨g1,0,none⟩)),(24,.slice a1 (vo.length) c1),(25,.int .i64 ((vo.length : Int))),(26,.int .i64 ((s : Int)))]) (fun s => Asn w0 ok0 M0 [.loc g1 [.slice a1 (vo.length) c1,.slice a2 (le.length) c2] 31,.dat kInt.sl (vo) [.slice a1 (vo.length) c1],.dat kInt.sl (le) [.slice a2 (le.length) c2]]) (fun s => vo.length - s) 0 ?_ ?_ ?_ ?_
 ·exact ⟨Nat.zero_le _,by simp⟩
 ·exact ⟨rfl,rfl,rfl,rfl,trivial⟩
 ·intro w hA
  exact hA.only (is:=[0,1,2]) (Z:=[]) rfl
 ·intro i hI
  (try dsimp only at hI ⊢)
  have hout:=hI
  refine H_seq ?_
  refine H_region (l:=[_]) rfl ?_
  refine HO_bin rfl rfl rfl rfl bin_lss ?_
  refine HO_nil ?_
  refine H_seq ?_
  refine H_cond rfl ?_ ?_
  ·intro h27
   replace h27:=dT h27
   refine H_skip ?_
   refine H_seq ?_
   refine H_block ?_
   refine H_seq ?_
   refine H_region (l:=[_,_,_]) rfl ?_
   refine HO_indexAddr open_int (i:=1) rfl rfl rfl rfl rfl Tryz.underlying29 Tryz.sizeOf3 rfl ?_ ?_
   ·omega
   intro b28 o28 z28 y28 hz28 hI28
   clear y28
   refine HO_load1 (i:=0) (j:=0) rfl rfl rfl Tryz.isAgg3 rfl (.elem _ _ _) rfl rfl ?_
   refine HO_assign rfl rfl rfl ?_
   refine HO_nil ?_
   refine H_env (ρ':=[(4,_),(1,_),(24,_),(25,_),(26,_)]) ⟨rfl,rfl,rfl,rfl,rfl,trivial⟩ ?_
   refine H_world (kp [nn,yy,yy,yy] [_,_,_] rfl) ?_
   refine H_seq ?_
   refine H_region (l:=[_,_,_,_]) rfl ?_
   refine HO_fieldAddr (r:=1) rfl rfl rfl Tryz.underlying31 rfl Tryz.sizeOf29 rfl ?_
   refine HO_load1 (i:=0) (j:=1) rfl rfl rfl Tryz.isAgg29 rfl (.loc _ _ _) rfl rfl ?_
   refine HO_bi rfl rfl rfl (bi_len_sl Tryz.underlying29) ?_
   refine HO_move rfl rfl rfl ?_
   refine HO_nil ?_
   refine H_env (ρ':=[(33,_),(32,_),(31,_),(4,_),(1,_),(24,_),(25,_),(26,_)]) ⟨rfl,rfl,rfl,rfl,rfl,rfl,rfl,rfl,trivial⟩ ?_
   refine H_block ?_
   refine H_loop (σ:=Nat) (fun s => s≤le.length∧z28 ∉ le.take s) (fun s => [(1,.pointer (some ⟨g1,0,none⟩)),(4,.int .i64 (z28)),(24,.slice a1 (vo.length) c1),(25,.int .i64 ((vo.length : Int))),(26,.int .i64 ((i : Int))),(31,.slice a2 (le.length) c2),(32,.int .i64 ((le.length : Int))),(33,.int .i64 ((s : Int)))]) (fun s => Asn w0 ok0 M0 [.loc g1 [.slice a1 (vo.length) c1,.slice a2 (le.length) c2] 31,.dat kInt.sl (vo) [.slice a1 (vo.length) c1],.dat kInt.sl (le) [.slice a2 (le.length) c2]]) (fun s => le.length - s) 0 ?_ ?_ ?_ ?_
   ·exact ⟨Nat.zero_le _,by simp⟩
   ·exact ⟨rfl,rfl,rfl,rfl,rfl,rfl,rfl,rfl,trivial⟩
   ·intro w hA
    exact hA.only (is:=[0,1,2]) (Z:=[]) rfl
   ·intro j hI
    (try dsimp only at hI ⊢)
    refine H_seq ?_
    refine H_region (l:=[_]) rfl ?_
    refine HO_bin rfl rfl rfl rfl bin_lss ?_
    refine HO_nil ?_
    refine H_seq ?_
    refine H_cond rfl ?_ ?_
    ·intro h34
     replace h34:=dT h34
     refine H_skip ?_
     refine H_seq ?_
     refine H_block ?_
     refine H_seq ?_
     refine H_region (l:=[_,_,_]) rfl ?_
     refine HO_indexAddr open_int (i:=2) rfl rfl rfl rfl rfl Tryz.underlying29 Tryz.sizeOf3 rfl ?_ ?_
     ·omega
     intro b35 o35 z35 y35 hz35 hI35
     clear y35
     refine HO_load1 (i:=0) (j:=0) rfl rfl rfl Tryz.isAgg3 rfl (.elem _ _ _) rfl rfl ?_
     refine HO_assign rfl rfl rfl ?_
     refine HO_nil ?_
     refine H_env (ρ':=[(6,_),(1,_),(4,_),(24,_),(25,_),(26,_),(31,_),(32,_),(33,_)]) ⟨rfl,rfl,rfl,rfl,rfl,rfl,rfl,rfl,rfl,trivial⟩ ?_
     refine H_world (kp [nn,yy,yy,yy] [_,_,_] rfl) ?_
     refine H_seq ?_
     refine H_region (l:=[_,_,_]) rfl ?_
     iterate 2 refine HO_move rfl rfl rfl ?_
     refine HO_bin rfl rfl rfl rfl bin_eql ?_
     refine HO_nil ?_
     refine H_env (ρ':=[(39,_),(1,_),(4,_),(24,_),(25,_),(26,_),(31,_),(32,_),(33,_)]) ⟨rfl,rfl,rfl,rfl,rfl,rfl,rfl,rfl,rfl,trivial⟩ ?_
     refine H_cond rfl ?_ ?_
     ·intro h39
      replace h39:=dT h39
      refine H_seq ?_
      refine H_region (l:=[_]) rfl ?_
      refine HO_assign rfl rfl rfl ?_
      refine HO_nil ?_
      refine H_env (ρ':=[(2,_)]) ⟨rfl,trivial⟩ ?_
      refine H_world (kp [nn,nn,nn] [] rfl) ?_
      refine H_ret1 Tryz.results83 (.tmp rfl) (fun w hA => ⟨(),congrArg Ending.returned ?_,?_,?_⟩)
      ·(exact congrArg Value.bool (by first | exact Ent.rgood_no hz28 hz35 h39 | (simp_all [Ent.goodConf];done) | exact Ent.rgood_yes h11 h17 h22 hI (by omega)))
      ·trivial
      ·exact hA.keep (m:=[]) (Y:=[]) rfl
     intro h39
     replace h39:=dF h39
     refine H_skip ?_
     refine H_blk ?_
     refine H_region (l:=[_,_]) rfl ?_
     refine HO_bin rfl rfl rfl rfl (bin_add ?_ ?_) ?_
     ·omega
     ·omega
     refine HO_move rfl rfl rfl ?_
     refine HO_nil ?_
     refine H_env (ρ':=[(33,_),(1,_),(4,_),(24,_),(25,_),(26,_),(31,_),(32,_)]) ⟨rfl,rfl,rfl,rfl,rfl,rfl,rfl,rfl,trivial⟩ ?_
     refine H_inv (fun a w hf hA => ⟨j + 1,?_,?_,hf.sub ?_,?_⟩)
     ·exact ⟨by omega,fun h => ((Ent.mem_next hz35).1 h).elim hI.2 h39⟩
     ·(try dsimp only);omega
     ·exact ⟨rfl,rfl,rfl,rfl,rfl,rfl,rfl,rfl,trivial⟩
     ·exact hA.only (is:=[0,1,2]) (Z:=[]) rfl
    intro h34
    replace h34:=dF h34
    refine H_exit rfl ?_
    refine H_blk ?_
    refine H_region (l:=[_,_]) rfl ?_
    refine HO_bin rfl rfl rfl rfl (bin_add ?_ ?_) ?_
    ·omega
    ·omega
    refine HO_move rfl rfl rfl ?_
    refine HO_nil ?_
    refine H_env (ρ':=[(26,_),(1,_),(24,_),(25,_)]) ⟨rfl,rfl,rfl,rfl,trivial⟩ ?_
    refine H_inv (fun a w hf hA => ⟨i + 1,?_,?_,hf.sub ?_,?_⟩)
    ·exact ⟨by omega,fun x hx => ((Ent.mem_next hz28).1 hx).elim (hout.2 x) (fun e => by subst e;have:=hI.2;rwa [show j = le.length by omega,List.take_length] at this)⟩
    ·(try dsimp only);omega
    ·exact ⟨rfl,rfl,rfl,rfl,trivial⟩
    ·exact hA.only (is:=[0,1,2]) (Z:=[]) rfl
  intro h27
  replace h27:=dF h27
  refine H_exit rfl ?_
  refine H_seq ?_
  refine H_region (l:=[_]) rfl ?_
  refine HO_assign rfl rfl rfl ?_
  refine HO_nil ?_
  refine H_env (ρ':=[(2,_)]) ⟨rfl,trivial⟩ ?_
  refine H_world (kp [nn,nn,nn] [] rfl) ?_
  refine H_ret1 Tryz.results83 (.tmp rfl) (fun w hA => ⟨(),congrArg Ending.returned ?_,?_,?_⟩)
  ·(exact congrArg Value.bool (by first | exact Ent.rgood_no hz28 hz35 h39 | (simp_all [Ent.goodConf];done) | exact Ent.rgood_yes h11 h17 h22 hI (by omega)))
  ·trivial
  ·exact hA.keep (m:=[]) (Y:=[]) rfl
theorem rentgood_spec (ix te ki : Int) (ck cs sq : Int) (ke ol cv ti : ByteArray) (li : Int) (vo le : List Int) (a1 : Option Addr) (c1 : Nat) (a2 : Option Addr) (c2 : Nat) (n1 : vo.length≤BIG) (n2 : le.length≤BIG) : Spec Tryz.prog 43 #[.agg #[.int .i64 (ix),.int .i64 (te),.int .i64 (ki),.int .i64 (ck),.int .i64 (cs),.int .i64 (sq),.string (ke),.string (ol),.string (cv),.string (ti),.int .i64 (li),.slice a1 (vo.length) c1,.slice a2 (le.length) c2]] [.dat kInt.sl (vo) [.slice a1 (vo.length) c1],.dat kInt.sl (le) [.slice a2 (le.length) c2]] (β:=Unit) (fun y => .bool (Ent.good ⟨ix,te,ki,⟨ck,cs,sq,ke,ol,cv,ti,li⟩,⟨vo,le⟩⟩)) (fun y => True) (fun y => []):=by
 (try simp only [BIG] at n1 n2)
 refine Spec.enter (vs:=[_]) Tryz.func43 rfl Tryz.ntmps43 rfl (Nat.le_of_ble_eq_true rfl) (fun w0 ok0 => ?_)
 generalize hM0 : blks _ = M0
 have hMn:=@noM _ _ hM0 (by simp [Atom.dat,Atom.elem])
 refine H_len_le (i:=0) rfl ?_
 intro hlen0
 refine H_len_le (i:=1) rfl ?_
 intro hlen1
 refine H_seq ?_
 refine H_region (l:=[_,_]) rfl ?_
 refine HO_box (cs:=[_,_,_,_,_,_,_,_,_,_,_,_,_]) rfl rfl rfl rfl ?_
 intro g1
 refine HO_assign rfl rfl rfl ?_
 refine HO_nil ?_
 refine H_env (ρ':=[(1,_)]) ⟨rfl,trivial⟩ ?_
 refine H_seq ?_
 refine H_seq ?_
 refine H_region (l:=[_,_,_,_,_,_,_,_]) rfl ?_
 refine HO_fieldAddr (r:=0) rfl rfl rfl Tryz.underlying70 rfl Tryz.sizeOf3 rfl ?_
 refine HO_load1 (i:=0) (j:=0) rfl rfl rfl Tryz.isAgg3 rfl (.loc _ _ _) rfl rfl ?_
 refine HO_bin rfl rfl rfl rfl bin_lss ?_
 refine HO_move rfl rfl rfl ?_
 refine HO_split (d:=7) rfl ?_ ?_
 ·intro h7
  replace h7:=dT h7
  iterate 3 refine HO_no rfl rfl rfl ?_
  refine HO_pick_t rfl rfl rfl rfl ?_
  refine HO_nil ?_
  refine H_env (ρ':=[(11,_),(1,_)]) ⟨rfl,rfl,trivial⟩ ?_
  refine H_cond rfl (fun _ => ?_) (fun h => nomatch h)
  refine H_seq ?_
  refine H_region (l:=[_]) rfl ?_
  refine HO_assign rfl rfl rfl ?_
  refine HO_nil ?_
  refine H_env (ρ':=[(2,_)]) ⟨rfl,trivial⟩ ?_
  refine H_world (kp [nn,nn,nn] [] rfl) ?_
  refine H_ret1 Tryz.results43 (.tmp rfl) (fun w hA => ⟨(),congrArg Ending.returned ?_,?_,?_⟩)
  ·(exact congrArg Value.bool (by first | (simp [Ent.good,Ent.cmd0, *];done) | (simp_all [Ent.good,Ent.cmd0];done)))
  ·trivial
  ·exact hA.keep (m:=[]) (Y:=[]) rfl
 intro h7
 replace h7:=dF h7
 refine HO_fieldAddr (r:=1) rfl rfl rfl Tryz.underlying70 rfl Tryz.sizeOf3 rfl ?_
 refine HO_load1 (i:=0) (j:=1) rfl rfl rfl Tryz.isAgg3 rfl (.loc _ _ _) rfl rfl ?_
 refine HO_bin rfl rfl rfl rfl bin_lss ?_
 refine HO_pick_f rfl rfl rfl rfl ?_
 refine HO_nil ?_
 refine H_env (ρ':=[(11,_),(1,_)]) ⟨rfl,rfl,trivial⟩ ?_
 refine H_cond rfl ?_ ?_
 ·intro h11
  replace h11:=dT h11
  refine H_seq ?_
  refine H_region (l:=[_]) rfl ?_
  refine HO_assign rfl rfl rfl ?_
  refine HO_nil ?_
  refine H_env (ρ':=[(2,_)]) ⟨rfl,trivial⟩ ?_
  refine H_world (kp [nn,nn,nn] [] rfl) ?_
  refine H_ret1 Tryz.results43 (.tmp rfl) (fun w hA => ⟨(),congrArg Ending.returned ?_,?_,?_⟩)
  ·(exact congrArg Value.bool (by first | (simp [Ent.good,Ent.cmd0, *];done) | (simp_all [Ent.good,Ent.cmd0];done)))
  ·trivial
  ·exact hA.keep (m:=[]) (Y:=[]) rfl
 intro h11
 replace h11:=dF h11
 refine H_skip ?_
 refine H_seq ?_
 refine H_region (l:=[_,_,_,_,_,_,_,_,_,_,_]) rfl ?_
 refine HO_fieldAddr (r:=11) rfl rfl rfl Tryz.underlying70 rfl Tryz.sizeOf31 rfl ?_
 refine HO_fieldAddr (r:=11) rfl rfl rfl Tryz.underlying31 rfl Tryz.sizeOf29 rfl ?_
 refine HO_load1 (i:=0) (j:=11) rfl rfl rfl Tryz.isAgg29 rfl (.loc _ _ _) rfl rfl ?_
 refine HO_bi rfl rfl rfl (bi_len_sl Tryz.underlying29) ?_
 refine HO_fieldAddr (r:=11) rfl rfl rfl Tryz.underlying70 rfl Tryz.sizeOf31 rfl ?_
 refine HO_fieldAddr (r:=12) rfl rfl rfl Tryz.underlying31 rfl Tryz.sizeOf29 rfl ?_
 refine HO_load1 (i:=0) (j:=12) rfl rfl rfl Tryz.isAgg29 rfl (.loc _ _ _) rfl rfl ?_
 refine HO_bi rfl rfl rfl (bi_len_sl Tryz.underlying29) ?_
 refine HO_bin rfl rfl rfl rfl (bin_add ?_ ?_) ?_
 ·omega
 ·omega
 refine HO_bin rfl rfl rfl rfl bin_eql ?_
 refine HO_set (v':=.bool (Ent.none ⟨vo,le⟩)) 21 rfl (by exact congrArg Value.bool (Ent.none_eq ⟨vo,le⟩)) ?_
 refine HO_assign rfl rfl rfl ?_
 refine HO_nil ?_
 refine H_env (ρ':=[(3,_),(1,_)]) ⟨rfl,rfl,trivial⟩ ?_
 refine H_seq ?_
 refine H_seq ?_
 refine H_region (l:=[_,_]) rfl ?_
 refine HO_fieldAddr (r:=2) rfl rfl rfl Tryz.underlying70 rfl Tryz.sizeOf3 rfl ?_
 refine HO_load1 (i:=0) (j:=2) rfl rfl rfl Tryz.isAgg3 rfl (.loc _ _ _) rfl rfl ?_
 refine HO_nil ?_
 refine H_env (ρ':=[(23,_),(3,_),(1,_)]) ⟨rfl,rfl,rfl,trivial⟩ ?_
 refine H_block ?_
 refine H_seq ?_
 refine H_region (l:=[_,_]) rfl ?_
 refine HO_bin rfl rfl rfl rfl bin_eql ?_
 refine HO_assign rfl rfl rfl ?_
 refine HO_nil ?_
 refine H_env (ρ':=[(24,_),(23,_),(3,_),(1,_)]) ⟨rfl,rfl,rfl,rfl,trivial⟩ ?_
 refine H_cond rfl ?_ ?_
 ·intro h24
  replace h24:=dT h24
  refine H_seq ?_
  refine H_region (l:=[_,_,_,_,_,_,_,_]) rfl ?_
  iterate 2 refine HO_move rfl rfl rfl ?_
  refine HO_split (d:=27) rfl ?_ ?_
  ·intro h27
   refine HO_fieldAddr (r:=3) rfl rfl rfl Tryz.underlying70 rfl Tryz.sizeOf68 rfl ?_
   refine HO_loadA (i:=0) (us:=[_,_,_]) (cs:=[_,_,_,_,_,_,_,_]) (ts:=[_,_]) rfl rfl rfl Tryz.isAgg68 Tryz.sizeOf68 rfl (.loc _ _ _) rfl rfl rfl rfl ?_
   refine HO_build (xo:=[]) (vs:=[]) rfl rfl rfl rfl (bd68__) ?_
   refine HO_bin rfl rfl rfl rfl eq68_eql ?_
   refine HO_pick_t rfl rfl rfl rfl ?_
   refine HO_assign rfl rfl rfl ?_
   refine HO_nil ?_
   refine H_env (ρ':=[(2,_)]) ⟨rfl,trivial⟩ ?_
   refine H_world (kp [nn,nn,nn] [] rfl) ?_
   refine H_ret1 Tryz.results43 (.tmp rfl) (fun w hA => ⟨(),congrArg Ending.returned ?_,?_,?_⟩)
   ·(exact congrArg Value.bool (by first | (simp [Ent.good,Ent.cmd0, *];done) | (simp_all [Ent.good,Ent.cmd0];done)))
   ·trivial
   ·exact hA.keep (m:=[]) (Y:=[]) rfl
  intro h27
  iterate 4 refine HO_no rfl rfl rfl ?_
  refine HO_pick_f rfl rfl rfl rfl ?_
  refine HO_assign rfl rfl rfl ?_
  refine HO_nil ?_
  refine H_env (ρ':=[(2,_)]) ⟨rfl,trivial⟩ ?_
  refine H_world (kp [nn,nn,nn] [] rfl) ?_
  refine H_ret1 Tryz.results43 (.tmp rfl) (fun w hA => ⟨(),congrArg Ending.returned ?_,?_,?_⟩)
  ·(exact congrArg Value.bool (by first | (simp [Ent.good,Ent.cmd0, *];done) | (simp_all [Ent.good,Ent.cmd0];done)))
  ·trivial
  ·exact hA.keep (m:=[]) (Y:=[]) rfl
 intro h24
 replace h24:=dF h24
 refine H_seq ?_
 refine H_region (l:=[_,_]) rfl ?_
 refine HO_bin rfl rfl rfl rfl bin_eql ?_
 refine HO_assign rfl rfl rfl ?_
 refine HO_nil ?_
 refine H_env (ρ':=[(33,_),(23,_),(3,_),(1,_)]) ⟨rfl,rfl,rfl,rfl,trivial⟩ ?_
 refine H_cond rfl ?_ ?_
 ·intro h33
  replace h33:=dT h33
  refine H_seq ?_
  refine H_region (l:=[_,_,_,_,_,_,_]) rfl ?_
  iterate 2 refine HO_move rfl rfl rfl ?_
  refine HO_split (d:=36) rfl ?_ ?_
  ·intro h36
   refine HO_fieldAddr (r:=3) rfl rfl rfl Tryz.underlying70 rfl Tryz.sizeOf68 rfl ?_
   refine HO_loadA (i:=0) (us:=[_,_,_]) (cs:=[_,_,_,_,_,_,_,_]) (ts:=[_,_]) rfl rfl rfl Tryz.isAgg68 Tryz.sizeOf68 rfl (.loc _ _ _) rfl rfl rfl rfl ?_
   refine HO_call (first:=[]) (capt:=[]) (is:=[]) (R:=[_,_,_]) rfl rfl rfl rfl rfl Tryz.call82 rfl (rgood_spec _ _ _ _ _ _ _ _) ?_
   intro y39 hy39
   clear y39 hy39
   refine HO_pick_t rfl rfl rfl rfl ?_
   refine HO_assign rfl rfl rfl ?_
   refine HO_nil ?_
   refine H_env (ρ':=[(2,_)]) ⟨rfl,trivial⟩ ?_
   refine H_world (kp [nn,nn,nn] [] rfl) ?_
   refine H_ret1 Tryz.results43 (.tmp rfl) (fun w hA => ⟨(),congrArg Ending.returned ?_,?_,?_⟩)
   ·(exact congrArg Value.bool (by first | (simp [Ent.good,Ent.cmd0, *];done) | (simp_all [Ent.good,Ent.cmd0];done)))
   ·trivial
   ·exact hA.keep (m:=[]) (Y:=[]) rfl
  intro h36
  iterate 3 refine HO_no rfl rfl rfl ?_
  refine HO_pick_f rfl rfl rfl rfl ?_
  refine HO_assign rfl rfl rfl ?_
  refine HO_nil ?_
  refine H_env (ρ':=[(2,_)]) ⟨rfl,trivial⟩ ?_
  refine H_world (kp [nn,nn,nn] [] rfl) ?_
  refine H_ret1 Tryz.results43 (.tmp rfl) (fun w hA => ⟨(),congrArg Ending.returned ?_,?_,?_⟩)
  ·(exact congrArg Value.bool (by first | (simp [Ent.good,Ent.cmd0, *];done) | (simp_all [Ent.good,Ent.cmd0];done)))
  ·trivial
  ·exact hA.keep (m:=[]) (Y:=[]) rfl
 intro h33
 replace h33:=dF h33
 refine H_seq ?_
 refine H_region (l:=[_,_]) rfl ?_
 refine HO_bin rfl rfl rfl rfl bin_eql ?_
 refine HO_assign rfl rfl rfl ?_
 refine HO_nil ?_
 refine H_env (ρ':=[(41,_),(1,_)]) ⟨rfl,rfl,trivial⟩ ?_
 refine H_cond rfl ?_ ?_
 ·intro h41
  replace h41:=dT h41
  refine H_seq ?_
  refine H_region (l:=[_,_,_,_,_,_,_,_,_,_]) rfl ?_
  refine HO_fieldAddr (r:=11) rfl rfl rfl Tryz.underlying70 rfl Tryz.sizeOf31 rfl ?_
  refine HO_loadA (i:=0) (us:=[_,_,_,_,_,_,_,_,_,_,_]) (cs:=[_,_]) (ts:=[]) rfl rfl rfl Tryz.isAgg31 Tryz.sizeOf31 rfl (.loc _ _ _) rfl rfl rfl rfl ?_
  refine HO_dup (i:=1) rfl rfl ?_
  refine HO_dup (i:=3) rfl rfl ?_
  refine HO_call (first:=[]) (capt:=[]) (is:=[0,0]) (R:=[_,_,_]) rfl rfl rfl rfl rfl Tryz.call83 rfl (rgoodconf_spec _ _ _ _ _ _) ?_
  intro y45 hy45
  clear y45 hy45
  refine HO_move rfl rfl rfl ?_
  refine HO_split (d:=46) rfl ?_ ?_
  ·intro h46
   refine HO_fieldAddr (r:=3) rfl rfl rfl Tryz.underlying70 rfl Tryz.sizeOf68 rfl ?_
   refine HO_loadA (i:=0) (us:=[_,_,_]) (cs:=[_,_,_,_,_,_,_,_]) (ts:=[_,_]) rfl rfl rfl Tryz.isAgg68 Tryz.sizeOf68 rfl (.loc _ _ _) rfl rfl rfl rfl ?_
   refine HO_build (xo:=[]) (vs:=[]) rfl rfl rfl rfl (bd68__) ?_
   refine HO_bin rfl rfl rfl rfl eq68_eql ?_
   refine HO_pick_t rfl rfl rfl rfl ?_
   refine HO_assign rfl rfl rfl ?_
   refine HO_nil ?_
   refine H_env (ρ':=[(2,_)]) ⟨rfl,trivial⟩ ?_
   refine H_world (kp [nn,nn,nn] [] rfl) ?_
   refine H_ret1 Tryz.results43 (.tmp rfl) (fun w hA => ⟨(),congrArg Ending.returned ?_,?_,?_⟩)
   ·(exact congrArg Value.bool (by first | (simp [Ent.good,Ent.cmd0, *];done) | (simp_all [Ent.good,Ent.cmd0];done)))
   ·trivial
   ·exact hA.keep (m:=[]) (Y:=[]) rfl
  intro h46
  iterate 4 refine HO_no rfl rfl rfl ?_
  refine HO_pick_f rfl rfl rfl rfl ?_
  refine HO_assign rfl rfl rfl ?_
  refine HO_nil ?_
  refine H_env (ρ':=[(2,_)]) ⟨rfl,trivial⟩ ?_
  refine H_world (kp [nn,nn,nn] [] rfl) ?_
  refine H_ret1 Tryz.results43 (.tmp rfl) (fun w hA => ⟨(),congrArg Ending.returned ?_,?_,?_⟩)
  ·(exact congrArg Value.bool (by first | (simp [Ent.good,Ent.cmd0, *];done) | (simp_all [Ent.good,Ent.cmd0];done)))
  ·trivial
  ·exact hA.keep (m:=[]) (Y:=[]) rfl
 intro h41
 replace h41:=dF h41
 refine H_skip ?_
 refine H_blk ?_
 refine H_seq ?_
 refine H_region (l:=[_]) rfl ?_
 refine HO_assign rfl rfl rfl ?_
 refine HO_nil ?_
 refine H_env (ρ':=[(2,_)]) ⟨rfl,trivial⟩ ?_
 refine H_world (kp [nn,nn,nn] [] rfl) ?_
 refine H_ret1 Tryz.results43 (.tmp rfl) (fun w hA => ⟨(),congrArg Ending.returned ?_,?_,?_⟩)
 ·(exact congrArg Value.bool (by first | (simp [Ent.good,Ent.cmd0, *];done) | (simp_all [Ent.good,Ent.cmd0];done)))
 ·trivial
 ·exact hA.keep (m:=[]) (Y:=[]) rfl
theorem rints_spec (l l2 : List Int) (a : Option Addr) (c : Nat) (a2 : Option Addr) (c2 : Nat)  : Spec Tryz.prog 96 #[.slice a (l.length) c,.slice a2 (l2.length) c2] [.dat kInt.sl (l) [.slice a (l.length) c],.dat kInt.sl (l2) [.slice a2 (l2.length) c2]] (β:=Unit) (fun y => .bool (decide (l = l2))) (fun y => True) (fun y => []):=by
 refine Spec.enter (vs:=[_,_]) Tryz.func96 rfl Tryz.ntmps96 rfl (Nat.le_of_ble_eq_true rfl) (fun w0 ok0 => ?_)
 generalize hM0 : blks _ = M0
 have hMn:=@noM _ _ hM0 (by simp [Atom.dat,Atom.elem])
 refine H_len_le (i:=0) rfl ?_
 intro hlen0
 refine H_len_le (i:=1) rfl ?_
 intro hlen1
 refine H_seq ?_
 refine H_region (l:=[_]) rfl ?_
 refine HO_assign rfl rfl rfl ?_
 refine HO_nil ?_
 refine H_env (ρ':=[(0,_),(1,_)]) ⟨rfl,rfl,trivial⟩ ?_
 refine H_seq ?_
 refine H_seq ?_
 refine H_region (l:=[_,_,_,_,_]) rfl ?_
 refine HO_move rfl rfl rfl ?_
 refine HO_bi rfl rfl rfl (bi_len_sl Tryz.underlying29) ?_
 refine HO_move rfl rfl rfl ?_
 refine HO_bi rfl rfl rfl (bi_len_sl Tryz.underlying29) ?_
 refine HO_bin rfl rfl rfl rfl bin_neq ?_
 refine HO_nil ?_
 refine H_env (ρ':=[(10,_),(0,_),(1,_)]) ⟨rfl,rfl,rfl,trivial⟩ ?_
 refine H_cond rfl ?_ ?_
 ·intro h10
  replace h10:=dT h10
  refine H_seq ?_
  refine H_region (l:=[_]) rfl ?_
  refine HO_assign rfl rfl rfl ?_
  refine HO_nil ?_
  refine H_env (ρ':=[(4,_)]) ⟨rfl,trivial⟩ ?_
  refine H_world (kp [nn,nn] [] rfl) ?_
  refine H_ret1 Tryz.results96 (.tmp rfl) (fun w hA => ⟨(),congrArg Ending.returned ?_,?_,?_⟩)
  ·(first | exact congrArg Value.bool (Ent.same_no hz18 hz22 h24).symm | exact congrArg Value.bool (Ent.same_yes hl hI).symm | exact congrArg Value.bool (Ent.same_len h10).symm)
  ·trivial
  ·exact hA.keep (m:=[]) (Y:=[]) rfl
 intro h10
 replace h10:=dF h10
 have hl : l.length = l2.length:=by omega
 refine H_skip ?_
 refine H_seq ?_
 refine H_seq ?_
 refine H_region (l:=[_,_,_]) rfl ?_
 refine HO_move rfl rfl rfl ?_
 refine HO_bi rfl rfl rfl (bi_len_sl Tryz.underlying29) ?_
 refine HO_move rfl rfl rfl ?_
 refine HO_nil ?_
 refine H_env (ρ':=[(13,_),(12,_),(0,_),(1,_)]) ⟨rfl,rfl,rfl,rfl,trivial⟩ ?_
 refine H_block ?_
 refine H_loop (σ:=Nat) (fun s => s≤l.length∧l.take s = l2.take s) (fun s => [(0,.slice a (l.length) c),(1,.slice a2 (l2.length) c2),(12,.int .i64 ((l.length : Int))),(13,.int .i64 ((s : Int)))]) (fun s => Asn w0 ok0 M0 [.dat kInt.sl (l) [.slice a (l.length) c],.dat kInt.sl (l2) [.slice a2 (l2.length) c2]]) (fun s => l.length - s) 0 ?_ ?_ ?_ ?_
 ·exact ⟨Nat.zero_le _,by simp⟩
 ·exact ⟨rfl,rfl,rfl,rfl,trivial⟩
 ·intro w hA
  exact hA.only (is:=[0,1]) (Z:=[]) rfl
 ·intro i hI
  (try dsimp only at hI ⊢)
  refine H_seq ?_
  refine H_region (l:=[_]) rfl ?_
  refine HO_bin rfl rfl rfl rfl bin_lss ?_
  refine HO_nil ?_
  refine H_seq ?_
  refine H_cond rfl ?_ ?_
  ·intro h14
   replace h14:=dT h14
   refine H_skip ?_
   refine H_seq ?_
   refine H_block ?_
   refine H_seq ?_
   refine H_region (l:=[_,_]) rfl ?_
   refine HO_move rfl rfl rfl ?_
   refine HO_assign rfl rfl rfl ?_
   refine HO_nil ?_
   refine H_env (ρ':=[(5,_),(0,_),(1,_),(12,_),(13,_)]) ⟨rfl,rfl,rfl,rfl,rfl,trivial⟩ ?_
   refine H_seq ?_
   refine H_drawB (m:=[yy,yy]) (Xs:=[_,_]) (fuel:=9) (l:=#[false,false,false,false,false,false,false,false,false]) mixed rfl rfl rfl ?_
   refine HA_take (i:=0) bp rfl rfl rfl rfl (by kernel_rfl) rfl (V_move rfl) (fun _ hA => hA) ?_
   refine HA_take (i:=1) bp rfl rfl rfl rfl (by kernel_rfl) rfl (V_move rfl) (fun _ hA => hA) ?_
   refine HA_take (i:=4) bp rfl rfl rfl rfl (by kernel_rfl) rfl (V_move rfl) (fun _ hA => hA) ?_
   refine HA_take (i:=5) bp rfl rfl rfl rfl (by kernel_rfl) rfl (V_move rfl) (fun _ hA => hA) ?_
   refine HA_loud2 (i:=2) (j:=6) (by kernel_rfl) rfl rfl ?_ ?_
   ·refine HO_indexAddr open_int (i:=0) rfl rfl rfl rfl rfl Tryz.underlying29 Tryz.sizeOf3 rfl ?_ ?_
    ·omega
    intro b18 o18 z18 y18 hz18 hI18
    clear y18
    refine HA_back rfl (kp [nn,yy,yy] [_,_] rfl) ?_
    refine HA_loud2 (i:=3) (j:=6) (by kernel_rfl) rfl rfl ?_ ?_
    ·refine HO_load1 (i:=0) (j:=0) rfl rfl rfl Tryz.isAgg3 rfl (.elem _ _ _) rfl rfl ?_
     refine HA_back rfl (kp [nn,yy,yy] [_,_] rfl) ?_
     refine HA_loud1 (i:=6) (by kernel_rfl) rfl ?_
     refine HO_indexAddr open_int (i:=2) rfl rfl rfl rfl rfl Tryz.underlying29 Tryz.sizeOf3 rfl ?_ ?_
     ·omega
     intro b22 o22 z22 y22 hz22 hI22
     clear y22
     refine HA_back rfl (kp [nn,nn,yy,yy] [_,_] rfl) ?_
     refine HA_loud1 (i:=7) (by kernel_rfl) rfl ?_
     refine HO_load1 (i:=0) (j:=0) rfl rfl rfl Tryz.isAgg3 rfl (.elem _ _ _) rfl rfl ?_
     refine HA_back rfl (kp [nn,nn,yy,yy] [_,_] rfl) ?_
     refine HA_take (i:=8) bp rfl rfl rfl rfl (by kernel_rfl) rfl (V_bin rfl rfl bin_neq) (kp [nn,nn,yy,yy] [_,_] rfl) ?_
     refine HA_done (by kernel_rfl) ?_
     refine H_env (ρ':=[(24,_),(0,_),(1,_),(12,_),(13,_)]) ⟨rfl,rfl,rfl,rfl,rfl,trivial⟩ ?_
     refine H_world (kp [nn,nn,yy,yy] [_,_] rfl) ?_
     refine H_cond rfl ?_ ?_
     ·intro h24
      replace h24:=dT h24
      refine H_seq ?_
      refine H_region (l:=[_]) rfl ?_
      refine HO_assign rfl rfl rfl ?_
      refine HO_nil ?_
      refine H_env (ρ':=[(4,_)]) ⟨rfl,trivial⟩ ?_
      refine H_world (kp [nn,nn] [] rfl) ?_
      refine H_ret1 Tryz.results96 (.tmp rfl) (fun w hA => ⟨(),congrArg Ending.returned ?_,?_,?_⟩)
      ·(first | exact congrArg Value.bool (Ent.same_no hz18 hz22 h24).symm | exact congrArg Value.bool (Ent.same_yes hl hI).symm | exact congrArg Value.bool (Ent.same_len h10).symm)
      ·trivial
      ·exact hA.keep (m:=[]) (Y:=[]) rfl
     intro h24
     replace h24:=dF h24
     refine H_skip ?_
     refine H_blk ?_
     refine H_region (l:=[_,_]) rfl ?_
     refine HO_bin rfl rfl rfl rfl (bin_add ?_ ?_) ?_
     ·omega
     ·omega
     refine HO_move rfl rfl rfl ?_
     refine HO_nil ?_
     refine H_env (ρ':=[(13,_),(0,_),(1,_),(12,_)]) ⟨rfl,rfl,rfl,rfl,trivial⟩ ?_
     refine H_inv (fun a w hf hA => ⟨i + 1,?_,?_,hf.sub ?_,?_⟩)
     ·exact ⟨by omega,Ent.same_next hz18 hz22 hI.2 (Decidable.not_not.1 h24)⟩
     ·(try dsimp only);omega
     ·exact ⟨rfl,rfl,rfl,rfl,trivial⟩
     ·exact hA.only (is:=[0,1]) (Z:=[]) rfl
    ·refine HO_indexAddr open_int (i:=2) rfl rfl rfl rfl rfl Tryz.underlying29 Tryz.sizeOf3 rfl ?_ ?_
     ·omega
     intro b22 o22 z22 y22 hz22 hI22
     clear y22
     refine HA_back rfl (kp [nn,nn,yy,yy] [_,_] rfl) ?_
     refine HA_loud2 (i:=3) (j:=7) (by kernel_rfl) rfl rfl ?_ ?_
     ·refine HO_load1 (i:=1) (j:=0) rfl rfl rfl Tryz.isAgg3 rfl (.elem _ _ _) rfl rfl ?_
      refine HA_back rfl (kp [nn,nn,yy,yy] [_,_] rfl) ?_
      refine HA_loud1 (i:=7) (by kernel_rfl) rfl ?_
      refine HO_load1 (i:=0) (j:=0) rfl rfl rfl Tryz.isAgg3 rfl (.elem _ _ _) rfl rfl ?_
      refine HA_back rfl (kp [nn,nn,yy,yy] [_,_] rfl) ?_
      refine HA_take (i:=8) bp rfl rfl rfl rfl (by kernel_rfl) rfl (V_bin rfl rfl bin_neq) (kp [nn,nn,yy,yy] [_,_] rfl) ?_
      refine HA_done (by kernel_rfl) ?_
      refine H_env (ρ':=[(24,_),(0,_),(1,_),(12,_),(13,_)]) ⟨rfl,rfl,rfl,rfl,rfl,trivial⟩ ?_
      refine H_world (kp [nn,nn,yy,yy] [_,_] rfl) ?_
      refine H_cond rfl ?_ ?_
      ·intro h24
       replace h24:=dT h24
       refine H_seq ?_
       refine H_region (l:=[_]) rfl ?_
       refine HO_assign rfl rfl rfl ?_
       refine HO_nil ?_
       refine H_env (ρ':=[(4,_)]) ⟨rfl,trivial⟩ ?_
       refine H_world (kp [nn,nn] [] rfl) ?_
       refine H_ret1 Tryz.results96 (.tmp rfl) (fun w hA => ⟨(),congrArg Ending.returned ?_,?_,?_⟩)
       ·(first | exact congrArg Value.bool (Ent.same_no hz18 hz22 h24).symm | exact congrArg Value.bool (Ent.same_yes hl hI).symm | exact congrArg Value.bool (Ent.same_len h10).symm)
       ·trivial
       ·exact hA.keep (m:=[]) (Y:=[]) rfl
      intro h24
      replace h24:=dF h24
      refine H_skip ?_
      refine H_blk ?_
      refine H_region (l:=[_,_]) rfl ?_
      refine HO_bin rfl rfl rfl rfl (bin_add ?_ ?_) ?_
      ·omega
      ·omega
      refine HO_move rfl rfl rfl ?_
      refine HO_nil ?_
      refine H_env (ρ':=[(13,_),(0,_),(1,_),(12,_)]) ⟨rfl,rfl,rfl,rfl,trivial⟩ ?_
      refine H_inv (fun a w hf hA => ⟨i + 1,?_,?_,hf.sub ?_,?_⟩)
      ·exact ⟨by omega,Ent.same_next hz18 hz22 hI.2 (Decidable.not_not.1 h24)⟩
      ·(try dsimp only);omega
      ·exact ⟨rfl,rfl,rfl,rfl,trivial⟩
      ·exact hA.only (is:=[0,1]) (Z:=[]) rfl
     ·refine HO_load1 (i:=0) (j:=0) rfl rfl rfl Tryz.isAgg3 rfl (.elem _ _ _) rfl rfl ?_
      refine HA_back rfl (kp [nn,nn,yy,yy] [_,_] rfl) ?_
      refine HA_loud1 (i:=3) (by kernel_rfl) rfl ?_
      refine HO_load1 (i:=1) (j:=0) rfl rfl rfl Tryz.isAgg3 rfl (.elem _ _ _) rfl rfl ?_
      refine HA_back rfl (kp [nn,nn,yy,yy] [_,_] rfl) ?_
      refine HA_take (i:=8) bp rfl rfl rfl rfl (by kernel_rfl) rfl (V_bin rfl rfl bin_neq) (kp [nn,nn,yy,yy] [_,_] rfl) ?_
      refine HA_done (by kernel_rfl) ?_
      refine H_env (ρ':=[(24,_),(0,_),(1,_),(12,_),(13,_)]) ⟨rfl,rfl,rfl,rfl,rfl,trivial⟩ ?_
      refine H_world (kp [nn,nn,yy,yy] [_,_] rfl) ?_
      refine H_cond rfl ?_ ?_
      ·intro h24
       replace h24:=dT h24
       refine H_seq ?_
       refine H_region (l:=[_]) rfl ?_
       refine HO_assign rfl rfl rfl ?_
       refine HO_nil ?_
       refine H_env (ρ':=[(4,_)]) ⟨rfl,trivial⟩ ?_
       refine H_world (kp [nn,nn] [] rfl) ?_
       refine H_ret1 Tryz.results96 (.tmp rfl) (fun w hA => ⟨(),congrArg Ending.returned ?_,?_,?_⟩)
       ·(first | exact congrArg Value.bool (Ent.same_no hz18 hz22 h24).symm | exact congrArg Value.bool (Ent.same_yes hl hI).symm | exact congrArg Value.bool (Ent.same_len h10).symm)
       ·trivial
       ·exact hA.keep (m:=[]) (Y:=[]) rfl
      intro h24
      replace h24:=dF h24
      refine H_skip ?_
      refine H_blk ?_
      refine H_region (l:=[_,_]) rfl ?_
      refine HO_bin rfl rfl rfl rfl (bin_add ?_ ?_) ?_
      ·omega
      ·omega
      refine HO_move rfl rfl rfl ?_
      refine HO_nil ?_
      refine H_env (ρ':=[(13,_),(0,_),(1,_),(12,_)]) ⟨rfl,rfl,rfl,rfl,trivial⟩ ?_
      refine H_inv (fun a w hf hA => ⟨i + 1,?_,?_,hf.sub ?_,?_⟩)
      ·exact ⟨by omega,Ent.same_next hz18 hz22 hI.2 (Decidable.not_not.1 h24)⟩
      ·(try dsimp only);omega
      ·exact ⟨rfl,rfl,rfl,rfl,trivial⟩
      ·exact hA.only (is:=[0,1]) (Z:=[]) rfl
   ·refine HO_indexAddr open_int (i:=1) rfl rfl rfl rfl rfl Tryz.underlying29 Tryz.sizeOf3 rfl ?_ ?_
    ·omega
    intro b22 o22 z22 y22 hz22 hI22
    clear y22
    refine HA_back rfl (kp [nn,yy,yy] [_,_] rfl) ?_
    refine HA_loud2 (i:=2) (j:=7) (by kernel_rfl) rfl rfl ?_ ?_
    ·refine HO_indexAddr open_int (i:=1) rfl rfl rfl rfl rfl Tryz.underlying29 Tryz.sizeOf3 rfl ?_ ?_
     ·omega
     intro b18 o18 z18 y18 hz18 hI18
     clear y18
     refine HA_back rfl (kp [nn,nn,yy,yy] [_,_] rfl) ?_
     refine HA_loud2 (i:=3) (j:=7) (by kernel_rfl) rfl rfl ?_ ?_
     ·refine HO_load1 (i:=0) (j:=0) rfl rfl rfl Tryz.isAgg3 rfl (.elem _ _ _) rfl rfl ?_
      refine HA_back rfl (kp [nn,nn,yy,yy] [_,_] rfl) ?_
      refine HA_loud1 (i:=7) (by kernel_rfl) rfl ?_
      refine HO_load1 (i:=1) (j:=0) rfl rfl rfl Tryz.isAgg3 rfl (.elem _ _ _) rfl rfl ?_
      refine HA_back rfl (kp [nn,nn,yy,yy] [_,_] rfl) ?_
      refine HA_take (i:=8) bp rfl rfl rfl rfl (by kernel_rfl) rfl (V_bin rfl rfl bin_neq) (kp [nn,nn,yy,yy] [_,_] rfl) ?_
      refine HA_done (by kernel_rfl) ?_
      refine H_env (ρ':=[(24,_),(0,_),(1,_),(12,_),(13,_)]) ⟨rfl,rfl,rfl,rfl,rfl,trivial⟩ ?_
      refine H_world (kp [nn,nn,yy,yy] [_,_] rfl) ?_
      refine H_cond rfl ?_ ?_
      ·intro h24
       replace h24:=dT h24
       refine H_seq ?_
       refine H_region (l:=[_]) rfl ?_
       refine HO_assign rfl rfl rfl ?_
       refine HO_nil ?_
       refine H_env (ρ':=[(4,_)]) ⟨rfl,trivial⟩ ?_
       refine H_world (kp [nn,nn] [] rfl) ?_
       refine H_ret1 Tryz.results96 (.tmp rfl) (fun w hA => ⟨(),congrArg Ending.returned ?_,?_,?_⟩)
       ·(first | exact congrArg Value.bool (Ent.same_no hz18 hz22 h24).symm | exact congrArg Value.bool (Ent.same_yes hl hI).symm | exact congrArg Value.bool (Ent.same_len h10).symm)
       ·trivial
       ·exact hA.keep (m:=[]) (Y:=[]) rfl
      intro h24
      replace h24:=dF h24
      refine H_skip ?_
      refine H_blk ?_
      refine H_region (l:=[_,_]) rfl ?_
      refine HO_bin rfl rfl rfl rfl (bin_add ?_ ?_) ?_
      ·omega
      ·omega
      refine HO_move rfl rfl rfl ?_
      refine HO_nil ?_
      refine H_env (ρ':=[(13,_),(0,_),(1,_),(12,_)]) ⟨rfl,rfl,rfl,rfl,trivial⟩ ?_
      refine H_inv (fun a w hf hA => ⟨i + 1,?_,?_,hf.sub ?_,?_⟩)
      ·exact ⟨by omega,Ent.same_next hz18 hz22 hI.2 (Decidable.not_not.1 h24)⟩
      ·(try dsimp only);omega
      ·exact ⟨rfl,rfl,rfl,rfl,trivial⟩
      ·exact hA.only (is:=[0,1]) (Z:=[]) rfl
     ·refine HO_load1 (i:=1) (j:=0) rfl rfl rfl Tryz.isAgg3 rfl (.elem _ _ _) rfl rfl ?_
      refine HA_back rfl (kp [nn,nn,yy,yy] [_,_] rfl) ?_
      refine HA_loud1 (i:=3) (by kernel_rfl) rfl ?_
      refine HO_load1 (i:=0) (j:=0) rfl rfl rfl Tryz.isAgg3 rfl (.elem _ _ _) rfl rfl ?_
      refine HA_back rfl (kp [nn,nn,yy,yy] [_,_] rfl) ?_
      refine HA_take (i:=8) bp rfl rfl rfl rfl (by kernel_rfl) rfl (V_bin rfl rfl bin_neq) (kp [nn,nn,yy,yy] [_,_] rfl) ?_
      refine HA_done (by kernel_rfl) ?_
      refine H_env (ρ':=[(24,_),(0,_),(1,_),(12,_),(13,_)]) ⟨rfl,rfl,rfl,rfl,rfl,trivial⟩ ?_
      refine H_world (kp [nn,nn,yy,yy] [_,_] rfl) ?_
      refine H_cond rfl ?_ ?_
      ·intro h24
       replace h24:=dT h24
       refine H_seq ?_
       refine H_region (l:=[_]) rfl ?_
       refine HO_assign rfl rfl rfl ?_
       refine HO_nil ?_
       refine H_env (ρ':=[(4,_)]) ⟨rfl,trivial⟩ ?_
       refine H_world (kp [nn,nn] [] rfl) ?_
       refine H_ret1 Tryz.results96 (.tmp rfl) (fun w hA => ⟨(),congrArg Ending.returned ?_,?_,?_⟩)
       ·(first | exact congrArg Value.bool (Ent.same_no hz18 hz22 h24).symm | exact congrArg Value.bool (Ent.same_yes hl hI).symm | exact congrArg Value.bool (Ent.same_len h10).symm)
       ·trivial
       ·exact hA.keep (m:=[]) (Y:=[]) rfl
      intro h24
      replace h24:=dF h24
      refine H_skip ?_
      refine H_blk ?_
      refine H_region (l:=[_,_]) rfl ?_
      refine HO_bin rfl rfl rfl rfl (bin_add ?_ ?_) ?_
      ·omega
      ·omega
      refine HO_move rfl rfl rfl ?_
      refine HO_nil ?_
      refine H_env (ρ':=[(13,_),(0,_),(1,_),(12,_)]) ⟨rfl,rfl,rfl,rfl,trivial⟩ ?_
      refine H_inv (fun a w hf hA => ⟨i + 1,?_,?_,hf.sub ?_,?_⟩)
      ·exact ⟨by omega,Ent.same_next hz18 hz22 hI.2 (Decidable.not_not.1 h24)⟩
      ·(try dsimp only);omega
      ·exact ⟨rfl,rfl,rfl,rfl,trivial⟩
      ·exact hA.only (is:=[0,1]) (Z:=[]) rfl
    ·refine HO_load1 (i:=0) (j:=0) rfl rfl rfl Tryz.isAgg3 rfl (.elem _ _ _) rfl rfl ?_
     refine HA_back rfl (kp [nn,yy,yy] [_,_] rfl) ?_
     refine HA_loud1 (i:=2) (by kernel_rfl) rfl ?_
     refine HO_indexAddr open_int (i:=1) rfl rfl rfl rfl rfl Tryz.underlying29 Tryz.sizeOf3 rfl ?_ ?_
     ·omega
     intro b18 o18 z18 y18 hz18 hI18
     clear y18
     refine HA_back rfl (kp [nn,nn,yy,yy] [_,_] rfl) ?_
     refine HA_loud1 (i:=3) (by kernel_rfl) rfl ?_
     refine HO_load1 (i:=0) (j:=0) rfl rfl rfl Tryz.isAgg3 rfl (.elem _ _ _) rfl rfl ?_
     refine HA_back rfl (kp [nn,nn,yy,yy] [_,_] rfl) ?_
     refine HA_take (i:=8) bp rfl rfl rfl rfl (by kernel_rfl) rfl (V_bin rfl rfl bin_neq) (kp [nn,nn,yy,yy] [_,_] rfl) ?_
     refine HA_done (by kernel_rfl) ?_
     refine H_env (ρ':=[(24,_),(0,_),(1,_),(12,_),(13,_)]) ⟨rfl,rfl,rfl,rfl,rfl,trivial⟩ ?_
     refine H_world (kp [nn,nn,yy,yy] [_,_] rfl) ?_
     refine H_cond rfl ?_ ?_
     ·intro h24
      replace h24:=dT h24
      refine H_seq ?_
      refine H_region (l:=[_]) rfl ?_
      refine HO_assign rfl rfl rfl ?_
      refine HO_nil ?_
      refine H_env (ρ':=[(4,_)]) ⟨rfl,trivial⟩ ?_
      refine H_world (kp [nn,nn] [] rfl) ?_
      refine H_ret1 Tryz.results96 (.tmp rfl) (fun w hA => ⟨(),congrArg Ending.returned ?_,?_,?_⟩)
      ·(first | exact congrArg Value.bool (Ent.same_no hz18 hz22 h24).symm | exact congrArg Value.bool (Ent.same_yes hl hI).symm | exact congrArg Value.bool (Ent.same_len h10).symm)
      ·trivial
      ·exact hA.keep (m:=[]) (Y:=[]) rfl
     intro h24
     replace h24:=dF h24
     refine H_skip ?_
     refine H_blk ?_
     refine H_region (l:=[_,_]) rfl ?_
     refine HO_bin rfl rfl rfl rfl (bin_add ?_ ?_) ?_
     ·omega
     ·omega
     refine HO_move rfl rfl rfl ?_
     refine HO_nil ?_
     refine H_env (ρ':=[(13,_),(0,_),(1,_),(12,_)]) ⟨rfl,rfl,rfl,rfl,trivial⟩ ?_
     refine H_inv (fun a w hf hA => ⟨i + 1,?_,?_,hf.sub ?_,?_⟩)
     ·exact ⟨by omega,Ent.same_next hz18 hz22 hI.2 (Decidable.not_not.1 h24)⟩
     ·(try dsimp only);omega
     ·exact ⟨rfl,rfl,rfl,rfl,trivial⟩
     ·exact hA.only (is:=[0,1]) (Z:=[]) rfl
  intro h14
  replace h14:=dF h14
  refine H_exit rfl ?_
  refine H_seq ?_
  obtain rfl : i = l.length:=by omega
  refine H_region (l:=[_]) rfl ?_
  refine HO_assign rfl rfl rfl ?_
  refine HO_nil ?_
  refine H_env (ρ':=[(4,_)]) ⟨rfl,trivial⟩ ?_
  refine H_world (kp [nn,nn] [] rfl) ?_
  refine H_ret1 Tryz.results96 (.tmp rfl) (fun w hA => ⟨(),congrArg Ending.returned ?_,?_,?_⟩)
  ·(first | exact congrArg Value.bool (Ent.same_no hz18 hz22 h24).symm | exact congrArg Value.bool (Ent.same_yes hl hI).symm | exact congrArg Value.bool (Ent.same_len h10).symm)
  ·trivial
  ·exact hA.keep (m:=[]) (Y:=[]) rfl
theorem rsameconf_spec (vo le : List Int) (a1 : Option Addr) (c1 : Nat) (a2 : Option Addr) (c2 : Nat) (vo2 le2 : List Int) (a12 : Option Addr) (c12 : Nat) (a22 : Option Addr) (c22 : Nat)  : Spec Tryz.prog 64 #[.agg #[.slice a1 (vo.length) c1,.slice a2 (le.length) c2],.agg #[.slice a12 (vo2.length) c12,.slice a22 (le2.length) c22]] [.dat kInt.sl (vo) [.slice a1 (vo.length) c1],.dat kInt.sl (le) [.slice a2 (le.length) c2],.dat kInt.sl (vo2) [.slice a12 (vo2.length) c12],.dat kInt.sl (le2) [.slice a22 (le2.length) c22]] (β:=Unit) (fun y => .bool (decide ((⟨vo,le⟩ : Conf) = ⟨vo2,le2⟩))) (fun y => True) (fun y => []):=by
 refine Spec.enter (vs:=[_,_]) Tryz.func64 rfl Tryz.ntmps64 rfl (Nat.le_of_ble_eq_true rfl) (fun w0 ok0 => ?_)
 generalize hM0 : blks _ = M0
 have hMn:=@noM _ _ hM0 (by simp [Atom.dat,Atom.elem])
 refine H_len_le (i:=0) rfl ?_
 intro hlen0
 refine H_len_le (i:=1) rfl ?_
 intro hlen1
 refine H_len_le (i:=2) rfl ?_
 intro hlen2
 refine H_len_le (i:=3) rfl ?_
 intro hlen3
 refine H_seq ?_
 refine H_region (l:=[_,_,_]) rfl ?_
 refine HO_box (cs:=[_,_]) rfl rfl rfl rfl ?_
 intro g2
 refine HO_box (cs:=[_,_]) rfl rfl rfl rfl ?_
 intro g3
 refine HO_assign rfl rfl rfl ?_
 refine HO_nil ?_
 refine H_env (ρ':=[(3,_),(2,_)]) ⟨rfl,rfl,trivial⟩ ?_
 refine H_seq ?_
 refine H_region (l:=[_,_,_,_,_,_,_,_,_,_,_,_,_]) rfl ?_
 refine HO_fieldAddr (r:=0) rfl rfl rfl Tryz.underlying31 rfl Tryz.sizeOf29 rfl ?_
 refine HO_load1 (i:=1) (j:=0) rfl rfl rfl Tryz.isAgg29 rfl (.loc _ _ _) rfl rfl ?_
 refine HO_fieldAddr (r:=0) rfl rfl rfl Tryz.underlying31 rfl Tryz.sizeOf29 rfl ?_
 refine HO_load1 (i:=0) (j:=0) rfl rfl rfl Tryz.isAgg29 rfl (.loc _ _ _) rfl rfl ?_
 refine HO_dup (i:=2) rfl rfl ?_
 refine HO_dup (i:=5) rfl rfl ?_
 refine HO_call (first:=[]) (capt:=[]) (is:=[0,0]) (R:=[_,_,_,_,_,_]) rfl rfl rfl rfl rfl Tryz.call96 rfl (rints_spec _ _ _ _ _ _) ?_
 intro y9 hy9
 clear y9 hy9
 refine HO_move rfl rfl rfl ?_
 refine HO_split (d:=10) rfl ?_ ?_
 ·intro h10
  replace h10:=dT h10
  refine HO_fieldAddr (r:=1) rfl rfl rfl Tryz.underlying31 rfl Tryz.sizeOf29 rfl ?_
  refine HO_load1 (i:=1) (j:=1) rfl rfl rfl Tryz.isAgg29 rfl (.loc _ _ _) rfl rfl ?_
  refine HO_fieldAddr (r:=1) rfl rfl rfl Tryz.underlying31 rfl Tryz.sizeOf29 rfl ?_
  refine HO_load1 (i:=0) (j:=1) rfl rfl rfl Tryz.isAgg29 rfl (.loc _ _ _) rfl rfl ?_
  refine HO_dup (i:=3) rfl rfl ?_
  refine HO_dup (i:=6) rfl rfl ?_
  refine HO_call (first:=[]) (capt:=[]) (is:=[0,0]) (R:=[_,_,_,_,_,_]) rfl rfl rfl rfl rfl Tryz.call96 rfl (rints_spec _ _ _ _ _ _) ?_
  intro y15 hy15
  clear y15 hy15
  refine HO_pick_t rfl rfl rfl rfl ?_
  refine HO_assign rfl rfl rfl ?_
  refine HO_nil ?_
  refine H_env (ρ':=[(4,_)]) ⟨rfl,trivial⟩ ?_
  refine H_world (kp [nn,nn,nn,nn,nn,nn] [] rfl) ?_
  refine H_ret1 Tryz.results64 (.tmp rfl) (fun w hA => ⟨(),congrArg Ending.returned ?_,?_,?_⟩)
  ·(exact congrArg Value.bool (by first | (simp [*];done) | (simp_all;done) | (simp_all;intros;simp_all)))
  ·trivial
  ·exact hA.keep (m:=[]) (Y:=[]) rfl
 intro h10
 replace h10:=dF h10
 iterate 5 refine HO_no rfl rfl rfl ?_
 refine HO_pick_f rfl rfl rfl rfl ?_
 refine HO_assign rfl rfl rfl ?_
 refine HO_nil ?_
 refine H_env (ρ':=[(4,_)]) ⟨rfl,trivial⟩ ?_
 refine H_world (kp [nn,nn,nn,nn,nn,nn] [] rfl) ?_
 refine H_ret1 Tryz.results64 (.tmp rfl) (fun w hA => ⟨(),congrArg Ending.returned ?_,?_,?_⟩)
 ·(exact congrArg Value.bool (by first | (simp [*];done) | (simp_all;done) | (simp_all;intros;simp_all)))
 ·trivial
 ·exact hA.keep (m:=[]) (Y:=[]) rfl
theorem rentsame_spec (ix te ki : Int) (ck cs sq : Int) (ke ol cv ti : ByteArray) (li : Int) (vo le : List Int) (a1 : Option Addr) (c1 : Nat) (a2 : Option Addr) (c2 : Nat) (ix2 te2 ki2 : Int) (ck2 cs2 sq2 : Int) (ke2 ol2 cv2 ti2 : ByteArray) (li2 : Int) (vo2 le2 : List Int) (a12 : Option Addr) (c12 : Nat) (a22 : Option Addr) (c22 : Nat)  : Spec Tryz.prog 63 #[.agg #[.int .i64 (ix),.int .i64 (te),.int .i64 (ki),.int .i64 (ck),.int .i64 (cs),.int .i64 (sq),.string (ke),.string (ol),.string (cv),.string (ti),.int .i64 (li),.slice a1 (vo.length) c1,.slice a2 (le.length) c2],.agg #[.int .i64 (ix2),.int .i64 (te2),.int .i64 (ki2),.int .i64 (ck2),.int .i64 (cs2),.int .i64 (sq2),.string (ke2),.string (ol2),.string (cv2),.string (ti2),.int .i64 (li2),.slice a12 (vo2.length) c12,.slice a22 (le2.length) c22]] [.dat kInt.sl (vo) [.slice a1 (vo.length) c1],.dat kInt.sl (le) [.slice a2 (le.length) c2],.dat kInt.sl (vo2) [.slice a12 (vo2.length) c12],.dat kInt.sl (le2) [.slice a22 (le2.length) c22]] (β:=Unit) (fun y => .bool (decide ((⟨ix,te,ki,⟨ck,cs,sq,ke,ol,cv,ti,li⟩,⟨vo,le⟩⟩ : Ent) = ⟨ix2,te2,ki2,⟨ck2,cs2,sq2,ke2,ol2,cv2,ti2,li2⟩,⟨vo2,le2⟩⟩))) (fun y => True) (fun y => []):=by
 refine Spec.enter (vs:=[_,_]) Tryz.func63 rfl Tryz.ntmps63 rfl (Nat.le_of_ble_eq_true rfl) (fun w0 ok0 => ?_)
 generalize hM0 : blks _ = M0
 have hMn:=@noM _ _ hM0 (by simp [Atom.dat,Atom.elem])
 refine H_len_le (i:=0) rfl ?_
 intro hlen0
 refine H_len_le (i:=1) rfl ?_
 intro hlen1
 refine H_len_le (i:=2) rfl ?_
 intro hlen2
 refine H_len_le (i:=3) rfl ?_
 intro hlen3
 refine H_seq ?_
 refine H_region (l:=[_,_,_]) rfl ?_
 refine HO_box (cs:=[_,_,_,_,_,_,_,_,_,_,_,_,_]) rfl rfl rfl rfl ?_
 intro g2
 refine HO_box (cs:=[_,_,_,_,_,_,_,_,_,_,_,_,_]) rfl rfl rfl rfl ?_
 intro g3
 refine HO_assign rfl rfl rfl ?_
 refine HO_nil ?_
 refine H_env (ρ':=[(3,_),(2,_)]) ⟨rfl,rfl,trivial⟩ ?_
 refine H_seq ?_
 refine H_region (l:=[_,_,_,_,_,_,_,_,_,_,_,_,_,_,_,_,_,_,_,_,_,_,_,_,_,_,_,_,_,_,_,_,_,_]) rfl ?_
 refine HO_fieldAddr (r:=0) rfl rfl rfl Tryz.underlying70 rfl Tryz.sizeOf3 rfl ?_
 refine HO_load1 (i:=1) (j:=0) rfl rfl rfl Tryz.isAgg3 rfl (.loc _ _ _) rfl rfl ?_
 refine HO_fieldAddr (r:=0) rfl rfl rfl Tryz.underlying70 rfl Tryz.sizeOf3 rfl ?_
 refine HO_load1 (i:=0) (j:=0) rfl rfl rfl Tryz.isAgg3 rfl (.loc _ _ _) rfl rfl ?_
 refine HO_bin rfl rfl rfl rfl bin_eql ?_
 refine HO_move rfl rfl rfl ?_
 refine HO_split (d:=10) rfl ?_ ?_
 ·intro h10
  replace h10:=dT h10
  refine HO_fieldAddr (r:=1) rfl rfl rfl Tryz.underlying70 rfl Tryz.sizeOf3 rfl ?_
  refine HO_load1 (i:=1) (j:=1) rfl rfl rfl Tryz.isAgg3 rfl (.loc _ _ _) rfl rfl ?_
  refine HO_fieldAddr (r:=1) rfl rfl rfl Tryz.underlying70 rfl Tryz.sizeOf3 rfl ?_
  refine HO_load1 (i:=0) (j:=1) rfl rfl rfl Tryz.isAgg3 rfl (.loc _ _ _) rfl rfl ?_
  refine HO_bin rfl rfl rfl rfl bin_eql ?_
  refine HO_pick_t rfl rfl rfl rfl ?_
  refine HO_move rfl rfl rfl ?_
  refine HO_split (d:=17) rfl ?_ ?_
  ·intro h17
   replace h17:=dT h17
   refine HO_fieldAddr (r:=2) rfl rfl rfl Tryz.underlying70 rfl Tryz.sizeOf3 rfl ?_
   refine HO_load1 (i:=1) (j:=2) rfl rfl rfl Tryz.isAgg3 rfl (.loc _ _ _) rfl rfl ?_
   refine HO_fieldAddr (r:=2) rfl rfl rfl Tryz.underlying70 rfl Tryz.sizeOf3 rfl ?_
   refine HO_load1 (i:=0) (j:=2) rfl rfl rfl Tryz.isAgg3 rfl (.loc _ _ _) rfl rfl ?_
   refine HO_bin rfl rfl rfl rfl bin_eql ?_
   refine HO_pick_t rfl rfl rfl rfl ?_
   refine HO_move rfl rfl rfl ?_
   refine HO_split (d:=24) rfl ?_ ?_
   ·intro h24
    replace h24:=dT h24
    refine HO_fieldAddr (r:=3) rfl rfl rfl Tryz.underlying70 rfl Tryz.sizeOf68 rfl ?_
    refine HO_loadA (i:=1) (us:=[_,_,_]) (cs:=[_,_,_,_,_,_,_,_]) (ts:=[_,_]) rfl rfl rfl Tryz.isAgg68 Tryz.sizeOf68 rfl (.loc _ _ _) rfl rfl rfl rfl ?_
    refine HO_fieldAddr (r:=3) rfl rfl rfl Tryz.underlying70 rfl Tryz.sizeOf68 rfl ?_
    refine HO_loadA (i:=0) (us:=[_,_,_]) (cs:=[_,_,_,_,_,_,_,_]) (ts:=[_,_]) rfl rfl rfl Tryz.isAgg68 Tryz.sizeOf68 rfl (.loc _ _ _) rfl rfl rfl rfl ?_
    refine HO_bin rfl rfl rfl rfl eq68_eql ?_
    refine HO_pick_t rfl rfl rfl rfl ?_
    refine HO_move rfl rfl rfl ?_
    refine HO_split (d:=31) rfl ?_ ?_
    ·intro h31
     (try simp only [decide_eq_true_eq,decide_eq_false_iff_not,Bool.not_eq_true',Bool.not_eq_false',Bool.not_eq_true,Bool.not_eq_false,Bool.true_eq_false,Bool.false_eq_true,not_false_eq_true,not_true_eq_false] at h31)
     refine HO_fieldAddr (r:=11) rfl rfl rfl Tryz.underlying70 rfl Tryz.sizeOf31 rfl ?_
     refine HO_loadA (i:=1) (us:=[_,_,_,_,_,_,_,_,_,_,_]) (cs:=[_,_]) (ts:=[]) rfl rfl rfl Tryz.isAgg31 Tryz.sizeOf31 rfl (.loc _ _ _) rfl rfl rfl rfl ?_
     refine HO_fieldAddr (r:=11) rfl rfl rfl Tryz.underlying70 rfl Tryz.sizeOf31 rfl ?_
     refine HO_loadA (i:=0) (us:=[_,_,_,_,_,_,_,_,_,_,_]) (cs:=[_,_]) (ts:=[]) rfl rfl rfl Tryz.isAgg31 Tryz.sizeOf31 rfl (.loc _ _ _) rfl rfl rfl rfl ?_
     refine HO_dup (i:=2) rfl rfl ?_
     refine HO_dup (i:=4) rfl rfl ?_
     refine HO_dup (i:=6) rfl rfl ?_
     refine HO_dup (i:=8) rfl rfl ?_
     refine HO_call (first:=[]) (capt:=[]) (is:=[0,0,0,0]) (R:=[_,_,_,_,_,_]) rfl rfl rfl rfl rfl Tryz.call64 rfl (rsameconf_spec _ _ _ _ _ _ _ _ _ _ _ _) ?_
     intro y36 hy36
     clear y36 hy36
     refine HO_pick_t rfl rfl rfl rfl ?_
     refine HO_assign rfl rfl rfl ?_
     refine HO_nil ?_
     refine H_env (ρ':=[(4,_)]) ⟨rfl,trivial⟩ ?_
     refine H_world (kp [nn,nn,nn,nn,nn,nn] [] rfl) ?_
     refine H_ret1 Tryz.results63 (.tmp rfl) (fun w hA => ⟨(),congrArg Ending.returned ?_,?_,?_⟩)
     ·(exact congrArg Value.bool (by first | (simp [*];done) | (simp_all;done) | (simp_all;intros;simp_all)))
     ·trivial
     ·exact hA.keep (m:=[]) (Y:=[]) rfl
    intro h31
    (try simp only [decide_eq_true_eq,decide_eq_false_iff_not,Bool.not_eq_true',Bool.not_eq_false',Bool.not_eq_true,Bool.not_eq_false,Bool.true_eq_false,Bool.false_eq_true,not_false_eq_true,not_true_eq_false] at h31)
    iterate 5 refine HO_no rfl rfl rfl ?_
    refine HO_pick_f rfl rfl rfl rfl ?_
    refine HO_assign rfl rfl rfl ?_
    refine HO_nil ?_
    refine H_env (ρ':=[(4,_)]) ⟨rfl,trivial⟩ ?_
    refine H_world (kp [nn,nn,nn,nn,nn,nn] [] rfl) ?_
    refine H_ret1 Tryz.results63 (.tmp rfl) (fun w hA => ⟨(),congrArg Ending.returned ?_,?_,?_⟩)
    ·(exact congrArg Value.bool (by first | (simp [*];done) | (simp_all;done) | (simp_all;intros;simp_all)))
    ·trivial
    ·exact hA.keep (m:=[]) (Y:=[]) rfl
   intro h24
   replace h24:=dF h24
   iterate 5 refine HO_no rfl rfl rfl ?_
   refine HO_pick_f rfl rfl rfl rfl ?_
   refine HO_move rfl rfl rfl ?_
   iterate 5 refine HO_no rfl rfl rfl ?_
   refine HO_pick_f rfl rfl rfl rfl ?_
   refine HO_assign rfl rfl rfl ?_
   refine HO_nil ?_
   refine H_env (ρ':=[(4,_)]) ⟨rfl,trivial⟩ ?_
   refine H_world (kp [nn,nn,nn,nn,nn,nn] [] rfl) ?_
   refine H_ret1 Tryz.results63 (.tmp rfl) (fun w hA => ⟨(),congrArg Ending.returned ?_,?_,?_⟩)
   ·(exact congrArg Value.bool (by first | (simp [*];done) | (simp_all;done) | (simp_all;intros;simp_all)))
   ·trivial
   ·exact hA.keep (m:=[]) (Y:=[]) rfl
  intro h17
  replace h17:=dF h17
  iterate 5 refine HO_no rfl rfl rfl ?_
  refine HO_pick_f rfl rfl rfl rfl ?_
  refine HO_move rfl rfl rfl ?_
  iterate 5 refine HO_no rfl rfl rfl ?_
  refine HO_pick_f rfl rfl rfl rfl ?_
  refine HO_move rfl rfl rfl ?_
  iterate 5 refine HO_no rfl rfl rfl ?_
  refine HO_pick_f rfl rfl rfl rfl ?_
  refine HO_assign rfl rfl rfl ?_
  refine HO_nil ?_
  refine H_env (ρ':=[(4,_)]) ⟨rfl,trivial⟩ ?_
  refine H_world (kp [nn,nn,nn,nn,nn,nn] [] rfl) ?_
  refine H_ret1 Tryz.results63 (.tmp rfl) (fun w hA => ⟨(),congrArg Ending.returned ?_,?_,?_⟩)
  ·(exact congrArg Value.bool (by first | (simp [*];done) | (simp_all;done) | (simp_all;intros;simp_all)))
  ·trivial
  ·exact hA.keep (m:=[]) (Y:=[]) rfl
 intro h10
 replace h10:=dF h10
 iterate 5 refine HO_no rfl rfl rfl ?_
 refine HO_pick_f rfl rfl rfl rfl ?_
 refine HO_move rfl rfl rfl ?_
 iterate 5 refine HO_no rfl rfl rfl ?_
 refine HO_pick_f rfl rfl rfl rfl ?_
 refine HO_move rfl rfl rfl ?_
 iterate 5 refine HO_no rfl rfl rfl ?_
 refine HO_pick_f rfl rfl rfl rfl ?_
 refine HO_move rfl rfl rfl ?_
 iterate 5 refine HO_no rfl rfl rfl ?_
 refine HO_pick_f rfl rfl rfl rfl ?_
 refine HO_assign rfl rfl rfl ?_
 refine HO_nil ?_
 refine H_env (ρ':=[(4,_)]) ⟨rfl,trivial⟩ ?_
 refine H_world (kp [nn,nn,nn,nn,nn,nn] [] rfl) ?_
 refine H_ret1 Tryz.results63 (.tmp rfl) (fun w hA => ⟨(),congrArg Ending.returned ?_,?_,?_⟩)
 ·(exact congrArg Value.bool (by first | (simp [*];done) | (simp_all;done) | (simp_all;intros;simp_all)))
 ·trivial
 ·exact hA.keep (m:=[]) (Y:=[]) rfl
end Go.Wk
