/- Contracts of the program's functions, each proved by walking its code. -/
import Derived.Test.YtdaphlemhmgncaaKhcmd3
import Derived.Test.YtdaphlemhmgncaaEnt
import Derived.Test.YtdaphlemhmgncaaKhcmd2
set_option maxRecDepth 100000
set_option linter.unusedVariables false
set_option linter.unusedSimpArgs false
namespace Go.Wk.Fent1
open Go Go.RowKit Go.Proofs Go.Wk
theorem bd72__  : ∀ w,(Instr.build 72 (List.toArray (List.zip [] []))).run Try.prog w = .ok (.agg #[.int .i64 (0),.int .i64 (0),.int .i64 (0),.string (⟨#[]⟩),.string (⟨#[]⟩),.string (⟨#[]⟩),.string (⟨#[]⟩),.int .i64 (0)]) w:=fun _ => by kernel_rfl
theorem eq72_eql {x y : Operand} {a0 b0 : Int} {a1 b1 : Int} {a2 b2 : Int} {a3 b3 : ByteArray} {a4 b4 : ByteArray} {a5 b5 : ByteArray} {a6 b6 : ByteArray} {a7 b7 : Int} : BinR Try.prog .eql 72 x y (.agg #[.int .i64 a0,.int .i64 a1,.int .i64 a2,.string a3,.string a4,.string a5,.string a6,.int .i64 a7]) (.agg #[.int .i64 b0,.int .i64 b1,.int .i64 b2,.string b3,.string b4,.string b5,.string b6,.int .i64 b7]) (.bool (decide (a0 = b0) && (decide (a1 = b1) && (decide (a2 = b2) && (decide (a3 = b3) && (decide (a4 = b4) && (decide (a5 = b5) && (decide (a6 = b6) && (decide (a7 = b7) && true))))))))) :=
 bin_eqs_agg (by kernel_rfl) Try.underlying72 (by kernel_rfl) (fun w => (eqF_int (by decide) Try.underlying3 Try.isAgg3 rfl rfl (eqF_int (by decide) Try.underlying3 Try.isAgg3 rfl rfl (eqF_int (by decide) Try.underlying3 Try.isAgg3 rfl rfl (eqF_str (by decide) Try.underlying9 Try.isAgg9 rfl rfl (eqF_str (by decide) Try.underlying9 Try.isAgg9 rfl rfl (eqF_str (by decide) Try.underlying9 Try.isAgg9 rfl rfl (eqF_str (by decide) Try.underlying9 Try.isAgg9 rfl rfl (eqF_int (by decide) Try.underlying3 Try.isAgg3 rfl rfl eqF_nil)))))))))
end Go.Wk.Fent1
namespace Go.Wk
open Go Go.RowKit Go.Proofs Fent1 
theorem rises_spec (l : List Int) (a : Option Addr) (c : Nat)  : Spec Try.prog 71 #[.slice a (l.length) c] [.dat kInt.sl (l) [.slice a (l.length) c]] (β:=Unit) (fun y => .bool (Ent.rises l)) (fun y => True) (fun y => []):=by
 refine Spec.enter (vs:=[_]) Try.func71 rfl Try.ntmps71 rfl (Nat.le_of_ble_eq_true rfl) (fun w0 ok0 => ?_)
 generalize hM0 : blks _ = M0
 have hMn:=@noM _ _ hM0 (by simp [Atom.dat,Atom.elem])
 refine H_len_le (i:=0) rfl ?_
 intro hlen0
 refine H_seq ?_
 refine H_region (l:=[_]) rfl ?_
 refine HO_assign rfl rfl rfl ?_
 refine HO_nil ?_
 refine H_env (ρ':=[(0,_)]) ⟨rfl,trivial⟩ ?_
 refine H_seq ?_
 refine H_seq ?_
 refine H_region (l:=[_,_,_]) rfl ?_
 refine HO_move rfl rfl rfl ?_
 refine HO_bi rfl rfl rfl (bi_len_sl Try.underlying23) ?_
 refine HO_move rfl rfl rfl ?_
 refine HO_nil ?_
 refine H_block ?_
 refine H_loop (σ:=Nat) (fun s => s≤l.length∧Ent.rises l = Ent.risesFrom (Ent.pv l s) (l.drop s)) (fun s => [(0,.slice a (l.length) c),(5,.slice a (l.length) c),(6,.int .i64 ((l.length : Int))),(7,.int .i64 ((s : Int)))]) (fun s => Asn w0 ok0 M0 [.dat kInt.sl (l) [.slice a (l.length) c]]) (fun s => l.length - s) 0 ?_ ?_ ?_ ?_
 ·exact ⟨Nat.zero_le _,rfl⟩
 ·exact ⟨rfl,rfl,rfl,rfl,trivial⟩
 ·intro w hA
  exact hA.only (is:=[0]) (Z:=[]) rfl
 ·intro i hI
  (try dsimp only at hI ⊢)
  refine H_seq ?_
  refine H_region (l:=[_]) rfl ?_
  refine HO_bin rfl rfl rfl rfl bin_lss ?_
  refine HO_nil ?_
  refine H_seq ?_
  refine H_cond rfl ?_ ?_
  ·intro h8
   replace h8:=dT h8
   refine H_skip ?_
   refine H_seq ?_
   refine H_block ?_
   refine H_seq ?_
   refine H_region (l:=[_,_,_,_,_]) rfl ?_
   refine HO_move rfl rfl rfl ?_
   refine HO_indexAddr open_int (i:=0) rfl rfl rfl rfl rfl Try.underlying23 Try.sizeOf3 rfl ?_ ?_
   ·omega
   intro b10 o10 z10 y10 hz10 hI10
   clear y10
   refine HO_load1 (i:=0) (j:=0) rfl rfl rfl Try.isAgg3 rfl (.elem _ _ _) rfl rfl ?_
   iterate 2 refine HO_assign rfl rfl rfl ?_
   refine HO_nil ?_
   refine H_env (ρ':=[(4,_),(3,_),(0,_),(5,_),(6,_),(7,_)]) ⟨rfl,rfl,rfl,rfl,rfl,rfl,trivial⟩ ?_
   refine H_world (kp [nn,yy] [_] rfl) ?_
   refine H_seq ?_
   refine H_region (l:=[_,_,_,_,_,_,_,_,_,_,_,_,_,_,_,_,_,_,_]) rfl ?_
   refine HO_move rfl rfl rfl ?_
   refine HO_bin rfl rfl rfl rfl bin_lss ?_
   refine HO_move rfl rfl rfl ?_
   refine HO_split (d:=14) rfl ?_ ?_
   ·intro h14
    replace h14:=dT h14
    iterate 2 refine HO_no rfl rfl rfl ?_
    refine HO_pick_t rfl rfl rfl rfl ?_
    refine HO_move rfl rfl rfl ?_
    iterate 11 refine HO_no rfl rfl rfl ?_
    refine HO_pick_t rfl rfl rfl rfl ?_
    refine HO_nil ?_
    refine H_env (ρ':=[(30,_),(0,_),(5,_),(6,_),(7,_)]) ⟨rfl,rfl,rfl,rfl,rfl,trivial⟩ ?_
    refine H_cond rfl (fun _ => ?_) (fun h => nomatch h)
    refine H_seq ?_
    refine H_region (l:=[_]) rfl ?_
    refine HO_assign rfl rfl rfl ?_
    refine HO_nil ?_
    refine H_env (ρ':=[(2,_)]) ⟨rfl,trivial⟩ ?_
    refine H_world (kp [nn] [] rfl) ?_
    refine H_ret1 Try.results71 (.tmp rfl) (fun w hA => ⟨(),congrArg Ending.returned ?_,?_,?_⟩)
    ·(exact congrArg Value.bool (by first | exact Ent.rises_no hz10 hI.2 (.inl h14) | exact Ent.rises_no hz10 hI.2 (.inr (.inl h18)) | exact Ent.rises_no hz10 hI.2 (.inr (.inr (by rw [Ent.pv_at h21 hz25];omega))) | exact Ent.rises_end hI.2 (by omega)))
    ·trivial
    ·exact hA.keep (m:=[]) (Y:=[]) rfl
   intro h14
   replace h14:=dF h14
   refine HO_move rfl rfl rfl ?_
   refine HO_bin rfl rfl rfl rfl bin_gtr ?_
   refine HO_pick_f rfl rfl rfl rfl ?_
   refine HO_move rfl rfl rfl ?_
   refine HO_split (d:=18) rfl ?_ ?_
   ·intro h18
    replace h18:=dT h18
    iterate 11 refine HO_no rfl rfl rfl ?_
    refine HO_pick_t rfl rfl rfl rfl ?_
    refine HO_nil ?_
    refine H_env (ρ':=[(30,_),(0,_),(5,_),(6,_),(7,_)]) ⟨rfl,rfl,rfl,rfl,rfl,trivial⟩ ?_
    refine H_cond rfl (fun _ => ?_) (fun h => nomatch h)
    refine H_seq ?_
    refine H_region (l:=[_]) rfl ?_
    refine HO_assign rfl rfl rfl ?_
    refine HO_nil ?_
    refine H_env (ρ':=[(2,_)]) ⟨rfl,trivial⟩ ?_
    refine H_world (kp [nn] [] rfl) ?_
    refine H_ret1 Try.results71 (.tmp rfl) (fun w hA => ⟨(),congrArg Ending.returned ?_,?_,?_⟩)
    ·(exact congrArg Value.bool (by first | exact Ent.rises_no hz10 hI.2 (.inl h14) | exact Ent.rises_no hz10 hI.2 (.inr (.inl h18)) | exact Ent.rises_no hz10 hI.2 (.inr (.inr (by rw [Ent.pv_at h21 hz25];omega))) | exact Ent.rises_end hI.2 (by omega)))
    ·trivial
    ·exact hA.keep (m:=[]) (Y:=[]) rfl
   intro h18
   replace h18:=dF h18
   refine HO_move rfl rfl rfl ?_
   refine HO_bin rfl rfl rfl rfl bin_gtr ?_
   refine HO_move rfl rfl rfl ?_
   refine HO_split (d:=21) rfl ?_ ?_
   ·intro h21
    replace h21:=dT h21
    iterate 2 refine HO_move rfl rfl rfl ?_
    refine HO_bin rfl rfl rfl rfl (bin_sub ?_ ?_) ?_
    ·omega
    ·omega
    refine HO_indexAddr open_int (i:=0) (j:=i - 1) rfl rfl rfl rfl ?_ Try.underlying23 Try.sizeOf3 rfl ?_ ?_
    ·omega
    ·omega
    intro b25 o25 z25 y25 hz25 hI25
    clear y25
    refine HO_load1 (i:=0) (j:=0) rfl rfl rfl Try.isAgg3 rfl (.elem _ _ _) rfl rfl ?_
    refine HO_move rfl rfl rfl ?_
    refine HO_bin rfl rfl rfl rfl bin_geq ?_
    refine HO_pick_t rfl rfl rfl rfl ?_
    refine HO_pick_f rfl rfl rfl rfl ?_
    refine HO_nil ?_
    refine H_env (ρ':=[(30,_),(0,_),(5,_),(6,_),(7,_)]) ⟨rfl,rfl,rfl,rfl,rfl,trivial⟩ ?_
    refine H_world (kp [nn,yy] [_] rfl) ?_
    refine H_cond rfl ?_ ?_
    ·intro h30
     replace h30:=dT h30
     refine H_seq ?_
     refine H_region (l:=[_]) rfl ?_
     refine HO_assign rfl rfl rfl ?_
     refine HO_nil ?_
     refine H_env (ρ':=[(2,_)]) ⟨rfl,trivial⟩ ?_
     refine H_world (kp [nn] [] rfl) ?_
     refine H_ret1 Try.results71 (.tmp rfl) (fun w hA => ⟨(),congrArg Ending.returned ?_,?_,?_⟩)
     ·(exact congrArg Value.bool (by first | exact Ent.rises_no hz10 hI.2 (.inl h14) | exact Ent.rises_no hz10 hI.2 (.inr (.inl h18)) | exact Ent.rises_no hz10 hI.2 (.inr (.inr (by rw [Ent.pv_at h21 hz25];omega))) | exact Ent.rises_end hI.2 (by omega)))
     ·trivial
     ·exact hA.keep (m:=[]) (Y:=[]) rfl
    intro h30
    replace h30:=dF h30
    refine H_skip ?_
    refine H_blk ?_
    refine H_region (l:=[_,_]) rfl ?_
    refine HO_bin rfl rfl rfl rfl (bin_add ?_ ?_) ?_
    ·omega
    ·omega
    refine HO_move rfl rfl rfl ?_
    refine HO_nil ?_
    refine H_env (ρ':=[(7,_),(0,_),(5,_),(6,_)]) ⟨rfl,rfl,rfl,rfl,trivial⟩ ?_
    refine H_inv (fun a w hf hA => ⟨i + 1,?_,?_,hf.sub ?_,?_⟩)
    ·exact ⟨by omega,Ent.rises_next hz10 hI.2 (by omega) (by omega) (by first | (rw [Ent.pv_0 h21];omega) | (rw [Ent.pv_at h21 hz25];omega))⟩
    ·(try dsimp only);omega
    ·exact ⟨rfl,rfl,rfl,rfl,trivial⟩
    ·exact hA.only (is:=[0]) (Z:=[]) rfl
   intro h21
   replace h21:=dF h21
   iterate 7 refine HO_no rfl rfl rfl ?_
   iterate 2 refine HO_pick_f rfl rfl rfl rfl ?_
   refine HO_nil ?_
   refine H_env (ρ':=[(30,_),(0,_),(5,_),(6,_),(7,_)]) ⟨rfl,rfl,rfl,rfl,rfl,trivial⟩ ?_
   refine H_cond rfl (fun h => nomatch h) (fun _ => ?_)
   refine H_skip ?_
   refine H_blk ?_
   refine H_region (l:=[_,_]) rfl ?_
   refine HO_bin rfl rfl rfl rfl (bin_add ?_ ?_) ?_
   ·omega
   ·omega
   refine HO_move rfl rfl rfl ?_
   refine HO_nil ?_
   refine H_env (ρ':=[(7,_),(0,_),(5,_),(6,_)]) ⟨rfl,rfl,rfl,rfl,trivial⟩ ?_
   refine H_inv (fun a w hf hA => ⟨i + 1,?_,?_,hf.sub ?_,?_⟩)
   ·exact ⟨by omega,Ent.rises_next hz10 hI.2 (by omega) (by omega) (by first | (rw [Ent.pv_0 h21];omega) | (rw [Ent.pv_at h21 hz25];omega))⟩
   ·(try dsimp only);omega
   ·exact ⟨rfl,rfl,rfl,rfl,trivial⟩
   ·exact hA.only (is:=[0]) (Z:=[]) rfl
  intro h8
  replace h8:=dF h8
  refine H_exit rfl ?_
  refine H_seq ?_
  refine H_region (l:=[_]) rfl ?_
  refine HO_assign rfl rfl rfl ?_
  refine HO_nil ?_
  refine H_env (ρ':=[(2,_)]) ⟨rfl,trivial⟩ ?_
  refine H_world (kp [nn] [] rfl) ?_
  refine H_ret1 Try.results71 (.tmp rfl) (fun w hA => ⟨(),congrArg Ending.returned ?_,?_,?_⟩)
  ·(exact congrArg Value.bool (by first | exact Ent.rises_no hz10 hI.2 (.inl h14) | exact Ent.rises_no hz10 hI.2 (.inr (.inl h18)) | exact Ent.rises_no hz10 hI.2 (.inr (.inr (by rw [Ent.pv_at h21 hz25];omega))) | exact Ent.rises_end hI.2 (by omega)))
  ·trivial
  ·exact hA.keep (m:=[]) (Y:=[]) rfl
theorem indexint_spec (l : List Int) (a : Option Addr) (c : Nat) (x : Int)  : Spec Try.prog 87 #[.slice a (l.length) c,.int .i64 (x)] [.dat kInt.sl (l) [.slice a (l.length) c]] (β:=Int) (fun y => .int .i64 (y)) (fun y => (0≤y ↔ x ∈ l)) (fun y => []):=by
 refine Spec.enter (vs:=[_,_]) Try.func87 rfl Try.ntmps87 rfl (Nat.le_of_ble_eq_true rfl) (fun w0 ok0 => ?_)
 generalize hM0 : blks _ = M0
 have hMn:=@noM _ _ hM0 (by simp [Atom.dat,Atom.elem])
 refine H_len_le (i:=0) rfl ?_
 intro hlen0
 refine H_seq ?_
 refine H_region (l:=[_]) rfl ?_
 refine HO_assign rfl rfl rfl ?_
 refine HO_nil ?_
 refine H_env (ρ':=[(0,_),(1,_)]) ⟨rfl,rfl,trivial⟩ ?_
 refine H_seq ?_
 refine H_seq ?_
 refine H_region (l:=[_,_,_]) rfl ?_
 refine HO_move rfl rfl rfl ?_
 refine HO_bi rfl rfl rfl (bi_len_sl Try.underlying23) ?_
 refine HO_move rfl rfl rfl ?_
 refine HO_nil ?_
 refine H_env (ρ':=[(8,_),(7,_),(0,_),(1,_)]) ⟨rfl,rfl,rfl,rfl,trivial⟩ ?_
 refine H_block ?_
 refine H_loop (σ:=Nat) (fun s => s≤l.length∧x ∉ l.take s) (fun s => [(0,.slice a (l.length) c),(1,.int .i64 (x)),(7,.int .i64 ((l.length : Int))),(8,.int .i64 ((s : Int)))]) (fun s => Asn w0 ok0 M0 [.dat kInt.sl (l) [.slice a (l.length) c]]) (fun s => l.length - s) 0 ?_ ?_ ?_ ?_
 ·exact ⟨Nat.zero_le _,by simp⟩
 ·exact ⟨rfl,rfl,rfl,rfl,trivial⟩
 ·intro w hA
  exact hA.only (is:=[0]) (Z:=[]) rfl
 ·intro i hI
  (try dsimp only at hI ⊢)
  refine H_seq ?_
  refine H_region (l:=[_]) rfl ?_
  refine HO_bin rfl rfl rfl rfl bin_lss ?_
  refine HO_nil ?_
  refine H_seq ?_
  refine H_cond rfl ?_ ?_
  ·intro h9
   replace h9:=dT h9
   refine H_skip ?_
   refine H_seq ?_
   refine H_block ?_
   refine H_seq ?_
   refine H_region (l:=[_,_]) rfl ?_
   refine HO_move rfl rfl rfl ?_
   refine HO_assign rfl rfl rfl ?_
   refine HO_nil ?_
   refine H_env (ρ':=[(5,_),(0,_),(1,_),(7,_),(8,_)]) ⟨rfl,rfl,rfl,rfl,rfl,trivial⟩ ?_
   refine H_seq ?_
   refine H_region (l:=[_,_,_,_,_,_]) rfl ?_
   iterate 3 refine HO_move rfl rfl rfl ?_
   refine HO_indexAddr open_int (i:=0) rfl rfl rfl rfl rfl Try.underlying23 Try.sizeOf3 rfl ?_ ?_
   ·omega
   intro b14 o14 z14 y14 hz14 hI14
   clear y14
   refine HO_load1 (i:=0) (j:=0) rfl rfl rfl Try.isAgg3 rfl (.elem _ _ _) rfl rfl ?_
   refine HO_bin rfl rfl rfl rfl bin_eql ?_
   refine HO_nil ?_
   refine H_env (ρ':=[(16,_),(5,_),(0,_),(1,_),(7,_),(8,_)]) ⟨rfl,rfl,rfl,rfl,rfl,rfl,trivial⟩ ?_
   refine H_world (kp [nn,yy] [_] rfl) ?_
   refine H_cond rfl ?_ ?_
   ·intro h16
    replace h16:=dT h16
    refine H_seq ?_
    refine H_region (l:=[_,_]) rfl ?_
    refine HO_move rfl rfl rfl ?_
    refine HO_assign rfl rfl rfl ?_
    refine HO_nil ?_
    refine H_env (ρ':=[(4,_)]) ⟨rfl,trivial⟩ ?_
    refine H_world (kp [nn] [] rfl) ?_
    refine H_ret1 Try.results87 (.tmp rfl) (fun w hA => ⟨(i : Int),congrArg Ending.returned ?_,?_,?_⟩)
    ·rfl
    ·exact ⟨fun _ => h16 ▸ List.mem_of_getElem? hz14,fun _ => by omega⟩
    ·exact hA.keep (m:=[]) (Y:=[]) rfl
   intro h16
   replace h16:=dF h16
   refine H_skip ?_
   refine H_blk ?_
   refine H_region (l:=[_,_]) rfl ?_
   refine HO_bin rfl rfl rfl rfl (bin_add ?_ ?_) ?_
   ·omega
   ·omega
   refine HO_move rfl rfl rfl ?_
   refine HO_nil ?_
   refine H_env (ρ':=[(8,_),(0,_),(1,_),(7,_)]) ⟨rfl,rfl,rfl,rfl,trivial⟩ ?_
   refine H_inv (fun a w hf hA => ⟨i + 1,?_,?_,hf.sub ?_,?_⟩)
   ·exact ⟨by omega,fun h => ((Ent.mem_next hz14).1 h).elim hI.2 h16⟩
   ·(try dsimp only);omega
   ·exact ⟨rfl,rfl,rfl,rfl,trivial⟩
   ·exact hA.only (is:=[0]) (Z:=[]) rfl
  intro h9
  replace h9:=dF h9
  refine H_exit rfl ?_
  refine H_seq ?_
  refine H_region (l:=[_]) rfl ?_
  refine HO_assign rfl rfl rfl ?_
  refine HO_nil ?_
  refine H_env (ρ':=[(4,_)]) ⟨rfl,trivial⟩ ?_
  refine H_world (kp [nn] [] rfl) ?_
  refine H_ret1 Try.results87 (.tmp rfl) (fun w hA => ⟨-1,congrArg Ending.returned ?_,?_,?_⟩)
  ·rfl
  ·(obtain rfl : i = l.length:=by omega);exact ⟨fun h => by omega,fun h => absurd h (by have:=hI.2;rwa [List.take_length] at this)⟩
  ·exact hA.keep (m:=[]) (Y:=[]) rfl
theorem containsint_spec (l : List Int) (a : Option Addr) (c : Nat) (x : Int)  : Spec Try.prog 70 #[.slice a (l.length) c,.int .i64 (x)] [.dat kInt.sl (l) [.slice a (l.length) c]] (β:=Unit) (fun y => .bool (decide (x ∈ l))) (fun y => True) (fun y => []):=by
 refine Spec.enter (vs:=[_,_]) Try.func70 rfl Try.ntmps70 rfl (Nat.le_of_ble_eq_true rfl) (fun w0 ok0 => ?_)
 generalize hM0 : blks _ = M0
 have hMn:=@noM _ _ hM0 (by simp [Atom.dat,Atom.elem])
 refine H_len_le (i:=0) rfl ?_
 intro hlen0
 refine H_seq ?_
 refine H_region (l:=[_]) rfl ?_
 refine HO_assign rfl rfl rfl ?_
 refine HO_nil ?_
 refine H_env (ρ':=[(0,_),(1,_)]) ⟨rfl,rfl,trivial⟩ ?_
 refine H_seq ?_
 refine H_region (l:=[_,_,_,_,_]) rfl ?_
 iterate 2 refine HO_move rfl rfl rfl ?_
 refine HO_dup (i:=0) rfl rfl ?_
 refine HO_call (first:=[]) (capt:=[]) (is:=[0]) (R:=[_]) rfl rfl rfl rfl rfl Try.call87 rfl (indexint_spec _ _ _ _) ?_
 intro y7 hy7
 refine HO_bin rfl rfl rfl rfl bin_geq ?_
 refine HO_assign rfl rfl rfl ?_
 refine HO_nil ?_
 refine H_env (ρ':=[(4,_)]) ⟨rfl,trivial⟩ ?_
 refine H_world (kp [nn] [] rfl) ?_
 refine H_ret1 Try.results70 (.tmp rfl) (fun w hA => ⟨(),congrArg Ending.returned ?_,?_,?_⟩)
 ·(exact congrArg Value.bool (by simp only [ge_iff_le,hy7]))
 ·trivial
 ·exact hA.keep (m:=[]) (Y:=[]) rfl
theorem goodconf1_spec (g : Nat) (x : Int) (vo le : List Int) (a1 : Option Addr) (c1 : Nat) (a2 : Option Addr) (c2 : Nat)  : Spec Try.prog 69 #[.int .i64 (x),.pointer (some ⟨g,0,none⟩)] [.loc g [.slice a1 (vo.length) c1,.slice a2 (le.length) c2] 25,.dat kInt.sl (vo) [.slice a1 (vo.length) c1],.dat kInt.sl (le) [.slice a2 (le.length) c2]] (β:=Unit) (fun y => .bool (decide (x ∈ le))) (fun y => True) (fun y => [.loc g [.slice a1 (vo.length) c1,.slice a2 (le.length) c2] 25]):=by
 refine Spec.enter (vs:=[_,_]) Try.func69 rfl Try.ntmps69 rfl (Nat.le_of_ble_eq_true rfl) (fun w0 ok0 => ?_)
 generalize hM0 : blks _ = M0
 refine H_len_le (i:=1) rfl ?_
 intro hlen1
 refine H_len_le (i:=2) rfl ?_
 intro hlen2
 refine H_seq ?_
 refine H_region (l:=[_]) rfl ?_
 refine HO_assign rfl rfl rfl ?_
 refine HO_nil ?_
 refine H_env (ρ':=[(0,_),(1,_)]) ⟨rfl,rfl,trivial⟩ ?_
 refine H_seq ?_
 refine H_region (l:=[_,_,_,_,_]) rfl ?_
 refine HO_fieldAddr (r:=1) rfl rfl rfl Try.underlying25 rfl Try.sizeOf23 rfl ?_
 refine HO_load1 (i:=0) (j:=1) rfl rfl rfl Try.isAgg23 rfl (.loc _ _ _) rfl rfl ?_
 refine HO_move rfl rfl rfl ?_
 refine HO_dup (i:=2) rfl rfl ?_
 refine HO_call (first:=[]) (capt:=[]) (is:=[0]) (R:=[_,_,_]) rfl rfl rfl rfl rfl Try.call70 rfl (containsint_spec _ _ _ _) ?_
 intro y7 hy7
 clear y7 hy7
 refine HO_assign rfl rfl rfl ?_
 refine HO_nil ?_
 refine H_env (ρ':=[(3,_)]) ⟨rfl,trivial⟩ ?_
 refine H_ret1 Try.results69 (.tmp rfl) (fun w hA => ⟨(),congrArg Ending.returned ?_,?_,?_⟩)
 ·rfl
 ·trivial
 ·exact hA.keep (m:=[yy,nn,nn]) (Y:=[_]) rfl
theorem indexfunc_spec (l : List Int) (a : Option Addr) (c : Nat) (g : Nat) (vo le : List Int) (a1 : Option Addr) (c1 : Nat) (a2 : Option Addr) (c2 : Nat)  : Spec Try.prog 88 #[.slice a (l.length) c,.func (.func 69) #[] #[.pointer (some ⟨g,0,none⟩)]] [.dat kInt.sl (l) [.slice a (l.length) c],.loc g [.slice a1 (vo.length) c1,.slice a2 (le.length) c2] 25,.dat kInt.sl (vo) [.slice a1 (vo.length) c1],.dat kInt.sl (le) [.slice a2 (le.length) c2]] (β:=Int) (fun y => .int .i64 (y)) (fun y => ((0≤y) ↔ ∃ x ∈ l,x ∈ le)) (fun y => [.loc g [.slice a1 (vo.length) c1,.slice a2 (le.length) c2] 25]):=by
 refine Spec.enter (vs:=[_,_]) Try.func88 rfl Try.ntmps88 rfl (Nat.le_of_ble_eq_true rfl) (fun w0 ok0 => ?_)
 generalize hM0 : blks _ = M0
 refine H_len_le (i:=0) rfl ?_
 intro hlen0
 refine H_len_le (i:=2) rfl ?_
 intro hlen2
 refine H_len_le (i:=3) rfl ?_
 intro hlen3
 refine H_seq ?_
 refine H_region (l:=[_]) rfl ?_
 refine HO_assign rfl rfl rfl ?_
 refine HO_nil ?_
 refine H_env (ρ':=[(0,_),(1,_)]) ⟨rfl,rfl,trivial⟩ ?_
 refine H_seq ?_
 refine H_seq ?_
 refine H_region (l:=[_,_,_]) rfl ?_
 refine HO_move rfl rfl rfl ?_
 refine HO_bi rfl rfl rfl (bi_len_sl Try.underlying23) ?_
 refine HO_move rfl rfl rfl ?_
 refine HO_nil ?_
 refine H_env (ρ':=[(8,_),(7,_),(0,_),(1,_)]) ⟨rfl,rfl,rfl,rfl,trivial⟩ ?_
 refine H_block ?_
 refine H_loop (σ:=Nat) (fun s => s≤l.length∧∀ x ∈ l.take s,x ∉ le) (fun s => [(0,.slice a (l.length) c),(1,.func (.func 69) #[] #[.pointer (some ⟨g,0,none⟩)]),(7,.int .i64 ((l.length : Int))),(8,.int .i64 ((s : Int)))]) (fun s => Asn w0 ok0 M0 [.dat kInt.sl (l) [.slice a (l.length) c],.loc g [.slice a1 (vo.length) c1,.slice a2 (le.length) c2] 25,.dat kInt.sl (vo) [.slice a1 (vo.length) c1],.dat kInt.sl (le) [.slice a2 (le.length) c2]]) (fun s => l.length - s) 0 ?_ ?_ ?_ ?_
 ·exact ⟨Nat.zero_le _,by simp⟩
 ·exact ⟨rfl,rfl,rfl,rfl,trivial⟩
 ·intro w hA
  exact hA.only (is:=[0,1,2,3]) (Z:=[]) rfl
 ·intro i hI
  (try dsimp only at hI ⊢)
  refine H_seq ?_
  refine H_region (l:=[_]) rfl ?_
  refine HO_bin rfl rfl rfl rfl bin_lss ?_
  refine HO_nil ?_
  refine H_seq ?_
  refine H_cond rfl ?_ ?_
  ·intro h9
   replace h9:=dT h9
   refine H_skip ?_
   refine H_seq ?_
   refine H_block ?_
   refine H_seq ?_
   refine H_region (l:=[_,_]) rfl ?_
   refine HO_move rfl rfl rfl ?_
   refine HO_assign rfl rfl rfl ?_
   refine HO_nil ?_
   refine H_env (ρ':=[(5,_),(0,_),(1,_),(7,_),(8,_)]) ⟨rfl,rfl,rfl,rfl,rfl,trivial⟩ ?_
   refine H_seq ?_
   refine H_region (l:=[_,_,_,_,_,_]) rfl ?_
   iterate 3 refine HO_move rfl rfl rfl ?_
   refine HO_indexAddr open_int (i:=0) rfl rfl rfl rfl rfl Try.underlying23 Try.sizeOf3 rfl ?_ ?_
   ·omega
   intro b14 o14 z14 y14 hz14 hI14
   clear y14
   refine HO_load1 (i:=0) (j:=0) rfl rfl rfl Try.isAgg3 rfl (.elem _ _ _) rfl rfl ?_
   refine HO_dup (i:=3) rfl rfl ?_
   refine HO_dup (i:=5) rfl rfl ?_
   refine HO_call (first:=[]) (capt:=[_]) (is:=[2,0,0]) (R:=[_,_,_,_]) rfl rfl rfl rfl rfl Try.call69 rfl (goodconf1_spec _ _ _ _ _ _ _ _) ?_
   intro y16 hy16
   clear y16 hy16
   refine HO_nil ?_
   refine H_env (ρ':=[(16,_),(5,_),(0,_),(1,_),(7,_),(8,_)]) ⟨rfl,rfl,rfl,rfl,rfl,rfl,trivial⟩ ?_
   refine H_world (kp [yy,nn,yy,yy,yy] [_,_,_,_] rfl) ?_
   refine H_cond rfl ?_ ?_
   ·intro h16
    replace h16:=dT h16
    refine H_seq ?_
    refine H_region (l:=[_,_]) rfl ?_
    refine HO_move rfl rfl rfl ?_
    refine HO_assign rfl rfl rfl ?_
    refine HO_nil ?_
    refine H_env (ρ':=[(4,_)]) ⟨rfl,trivial⟩ ?_
    refine H_world (kp [yy,nn,yy,yy] [_,_,_] rfl) ?_
    refine H_ret1 Try.results88 (.tmp rfl) (fun w hA => ⟨(i : Int),congrArg Ending.returned ?_,?_,?_⟩)
    ·rfl
    ·exact ⟨fun _ => ⟨_,List.mem_of_getElem? hz14,h16⟩,fun _ => by omega⟩
    ·exact hA.keep (m:=[yy,nn,nn]) (Y:=[_]) rfl
   intro h16
   replace h16:=dF h16
   refine H_skip ?_
   refine H_blk ?_
   refine H_region (l:=[_,_]) rfl ?_
   refine HO_bin rfl rfl rfl rfl (bin_add ?_ ?_) ?_
   ·omega
   ·omega
   refine HO_move rfl rfl rfl ?_
   refine HO_nil ?_
   refine H_env (ρ':=[(8,_),(0,_),(1,_),(7,_)]) ⟨rfl,rfl,rfl,rfl,trivial⟩ ?_
   refine H_inv (fun a w hf hA => ⟨i + 1,?_,?_,hf.sub ?_,?_⟩)
   ·exact ⟨by omega,fun x hx => ((Ent.mem_next hz14).1 hx).elim (hI.2 x) (fun e => e ▸ h16)⟩
   ·(try dsimp only);omega
   ·exact ⟨rfl,rfl,rfl,rfl,trivial⟩
   ·exact hA.only (is:=[0,0,2,3]) (Z:=[]) rfl
  intro h9
  replace h9:=dF h9
  refine H_exit rfl ?_
  refine H_seq ?_
  refine H_region (l:=[_]) rfl ?_
  refine HO_assign rfl rfl rfl ?_
  refine HO_nil ?_
  refine H_env (ρ':=[(4,_)]) ⟨rfl,trivial⟩ ?_
  refine H_world (kp [nn,yy,yy,yy] [_,_,_] rfl) ?_
  refine H_ret1 Try.results88 (.tmp rfl) (fun w hA => ⟨-1,congrArg Ending.returned ?_,?_,?_⟩)
  ·rfl
  ·(obtain rfl : i = l.length:=by omega);exact ⟨fun h => by omega,fun h => absurd h (by have:=hI.2;rw [List.take_length] at this;rintro ⟨x,h1,h2⟩;exact this x h1 h2)⟩
  ·exact hA.keep (m:=[yy,nn,nn]) (Y:=[_]) rfl
theorem containsfunc_spec (l : List Int) (a : Option Addr) (c : Nat) (g : Nat) (vo le : List Int) (a1 : Option Addr) (c1 : Nat) (a2 : Option Addr) (c2 : Nat)  : Spec Try.prog 72 #[.slice a (l.length) c,.func (.func 69) #[] #[.pointer (some ⟨g,0,none⟩)]] [.dat kInt.sl (l) [.slice a (l.length) c],.loc g [.slice a1 (vo.length) c1,.slice a2 (le.length) c2] 25,.dat kInt.sl (vo) [.slice a1 (vo.length) c1],.dat kInt.sl (le) [.slice a2 (le.length) c2]] (β:=Unit) (fun y => .bool ((Ent.both l le))) (fun y => True) (fun y => [.loc g [.slice a1 (vo.length) c1,.slice a2 (le.length) c2] 25]):=by
 refine Spec.enter (vs:=[_,_]) Try.func72 rfl Try.ntmps72 rfl (Nat.le_of_ble_eq_true rfl) (fun w0 ok0 => ?_)
 generalize hM0 : blks _ = M0
 refine H_len_le (i:=0) rfl ?_
 intro hlen0
 refine H_len_le (i:=2) rfl ?_
 intro hlen2
 refine H_len_le (i:=3) rfl ?_
 intro hlen3
 refine H_seq ?_
 refine H_region (l:=[_]) rfl ?_
 refine HO_assign rfl rfl rfl ?_
 refine HO_nil ?_
 refine H_env (ρ':=[(0,_),(1,_)]) ⟨rfl,rfl,trivial⟩ ?_
 refine H_seq ?_
 refine H_region (l:=[_,_,_,_,_]) rfl ?_
 iterate 2 refine HO_move rfl rfl rfl ?_
 refine HO_dup (i:=0) rfl rfl ?_
 refine HO_dup (i:=3) rfl rfl ?_
 refine HO_dup (i:=5) rfl rfl ?_
 refine HO_call (first:=[]) (capt:=[]) (is:=[0,2,0,0]) (R:=[_,_,_]) rfl rfl rfl rfl rfl Try.call88 rfl (indexfunc_spec _ _ _ _ _ _ _ _ _ _) ?_
 intro y7 hy7
 refine HO_bin rfl rfl rfl rfl bin_geq ?_
 refine HO_assign rfl rfl rfl ?_
 refine HO_nil ?_
 refine H_env (ρ':=[(4,_)]) ⟨rfl,trivial⟩ ?_
 refine H_world (kp [yy,nn,yy,yy] [_,_,_] rfl) ?_
 refine H_ret1 Try.results72 (.tmp rfl) (fun w hA => ⟨(),congrArg Ending.returned ?_,?_,?_⟩)
 ·(exact congrArg Value.bool (by rw [Ent.both_iff];exact decide_eq_decide.2 hy7))
 ·trivial
 ·exact hA.keep (m:=[yy,nn,nn]) (Y:=[_]) rfl
theorem goodconf_spec (vo le : List Int) (a1 : Option Addr) (c1 : Nat) (a2 : Option Addr) (c2 : Nat)  : Spec Try.prog 56 #[.agg #[.slice a1 (vo.length) c1,.slice a2 (le.length) c2]] [.dat kInt.sl (vo) [.slice a1 (vo.length) c1],.dat kInt.sl (le) [.slice a2 (le.length) c2]] (β:=Unit) (fun y => .bool (Ent.goodConf ⟨vo,le⟩)) (fun y => True) (fun y => []):=by
 refine Spec.enter (vs:=[_]) Try.func56 rfl Try.ntmps56 rfl (Nat.le_of_ble_eq_true rfl) (fun w0 ok0 => ?_)
 generalize hM0 : blks _ = M0
 have hMn:=@noM _ _ hM0 (by simp [Atom.dat,Atom.elem])
 refine H_len_le (i:=0) rfl ?_
 intro hlen0
 refine H_len_le (i:=1) rfl ?_
 intro hlen1
 refine H_seq ?_
 refine H_region (l:=[_,_]) rfl ?_
 refine HO_box (cs:=[_,_]) rfl rfl rfl rfl ?_
 intro g1
 refine HO_assign rfl rfl rfl ?_
 refine HO_nil ?_
 refine H_env (ρ':=[(1,_)]) ⟨rfl,trivial⟩ ?_
 refine H_seq ?_
 refine H_region (l:=[_,_]) rfl ?_
 refine HO_makeFunc (vs:=[]) (us:=[_]) rfl rfl rfl rfl ?_
 refine HO_assign rfl rfl rfl ?_
 refine HO_nil ?_
 refine H_env (ρ':=[(3,_),(1,_)]) ⟨rfl,rfl,trivial⟩ ?_
 refine H_seq ?_
 refine H_region (l:=[_,_,_,_,_,_,_,_,_,_,_,_,_,_,_,_,_,_,_,_,_,_]) rfl ?_
 refine HO_fieldAddr (r:=0) rfl rfl rfl Try.underlying25 rfl Try.sizeOf23 rfl ?_
 refine HO_load1 (i:=0) (j:=0) rfl rfl rfl Try.isAgg23 rfl (.loc _ _ _) rfl rfl ?_
 refine HO_bi rfl rfl rfl (bi_len_sl Try.underlying23) ?_
 refine HO_bin rfl rfl rfl rfl bin_gtr ?_
 refine HO_move rfl rfl rfl ?_
 refine HO_split (d:=9) rfl ?_ ?_
 ·intro h9
  replace h9:=dT h9
  refine HO_fieldAddr (r:=0) rfl rfl rfl Try.underlying25 rfl Try.sizeOf23 rfl ?_
  refine HO_load1 (i:=0) (j:=0) rfl rfl rfl Try.isAgg23 rfl (.loc _ _ _) rfl rfl ?_
  refine HO_dup (i:=1) rfl rfl ?_
  refine HO_call (first:=[]) (capt:=[]) (is:=[0]) (R:=[_,_,_]) rfl rfl rfl rfl rfl Try.call71 rfl (rises_spec _ _ _) ?_
  intro y12 hy12
  clear y12 hy12
  refine HO_pick_t rfl rfl rfl rfl ?_
  refine HO_move rfl rfl rfl ?_
  refine HO_split (d:=14) rfl ?_ ?_
  ·intro h14
   refine HO_fieldAddr (r:=1) rfl rfl rfl Try.underlying25 rfl Try.sizeOf23 rfl ?_
   refine HO_load1 (i:=0) (j:=1) rfl rfl rfl Try.isAgg23 rfl (.loc _ _ _) rfl rfl ?_
   refine HO_dup (i:=2) rfl rfl ?_
   refine HO_call (first:=[]) (capt:=[]) (is:=[0]) (R:=[_,_,_]) rfl rfl rfl rfl rfl Try.call71 rfl (rises_spec _ _ _) ?_
   intro y17 hy17
   clear y17 hy17
   refine HO_pick_t rfl rfl rfl rfl ?_
   refine HO_move rfl rfl rfl ?_
   refine HO_split (d:=19) rfl ?_ ?_
   ·intro h19
    refine HO_fieldAddr (r:=0) rfl rfl rfl Try.underlying25 rfl Try.sizeOf23 rfl ?_
    refine HO_load1 (i:=0) (j:=0) rfl rfl rfl Try.isAgg23 rfl (.loc _ _ _) rfl rfl ?_
    refine HO_move rfl rfl rfl ?_
    refine HO_dup (i:=1) rfl rfl ?_
    refine HO_dup (i:=2) rfl rfl ?_
    refine HO_dup (i:=4) rfl rfl ?_
    refine HO_call (first:=[]) (capt:=[]) (is:=[0,1,0,0]) (R:=[_,_]) rfl rfl rfl rfl rfl Try.call72 rfl (containsfunc_spec _ _ _ _ _ _ _ _ _ _) ?_
    intro y23 hy23
    clear y23 hy23
    refine HO_not rfl rfl rfl ?_
    refine HO_pick_t rfl rfl rfl rfl ?_
    refine HO_assign rfl rfl rfl ?_
    refine HO_nil ?_
    refine H_env (ρ':=[(2,_)]) ⟨rfl,trivial⟩ ?_
    refine H_world (kp [nn,nn,nn] [] rfl) ?_
    refine H_ret1 Try.results56 (.tmp rfl) (fun w hA => ⟨(),congrArg Ending.returned ?_,?_,?_⟩)
    ·(exact congrArg Value.bool (by first | (simp [Ent.goodConf, *];done) | (simp_all [Ent.goodConf];done)))
    ·trivial
    ·exact hA.keep (m:=[]) (Y:=[]) rfl
   intro h19
   iterate 5 refine HO_no rfl rfl rfl ?_
   refine HO_pick_f rfl rfl rfl rfl ?_
   refine HO_assign rfl rfl rfl ?_
   refine HO_nil ?_
   refine H_env (ρ':=[(2,_)]) ⟨rfl,trivial⟩ ?_
   refine H_world (kp [nn,nn,nn] [] rfl) ?_
   refine H_ret1 Try.results56 (.tmp rfl) (fun w hA => ⟨(),congrArg Ending.returned ?_,?_,?_⟩)
   ·(exact congrArg Value.bool (by first | (simp [Ent.goodConf, *];done) | (simp_all [Ent.goodConf];done)))
   ·trivial
   ·exact hA.keep (m:=[]) (Y:=[]) rfl
  intro h14
  iterate 3 refine HO_no rfl rfl rfl ?_
  refine HO_pick_f rfl rfl rfl rfl ?_
  refine HO_move rfl rfl rfl ?_
  iterate 5 refine HO_no rfl rfl rfl ?_
  refine HO_pick_f rfl rfl rfl rfl ?_
  refine HO_assign rfl rfl rfl ?_
  refine HO_nil ?_
  refine H_env (ρ':=[(2,_)]) ⟨rfl,trivial⟩ ?_
  refine H_world (kp [nn,nn,nn] [] rfl) ?_
  refine H_ret1 Try.results56 (.tmp rfl) (fun w hA => ⟨(),congrArg Ending.returned ?_,?_,?_⟩)
  ·(exact congrArg Value.bool (by first | (simp [Ent.goodConf, *];done) | (simp_all [Ent.goodConf];done)))
  ·trivial
  ·exact hA.keep (m:=[]) (Y:=[]) rfl
 intro h9
 replace h9:=dF h9
 iterate 3 refine HO_no rfl rfl rfl ?_
 refine HO_pick_f rfl rfl rfl rfl ?_
 refine HO_move rfl rfl rfl ?_
 iterate 3 refine HO_no rfl rfl rfl ?_
 refine HO_pick_f rfl rfl rfl rfl ?_
 refine HO_move rfl rfl rfl ?_
 iterate 5 refine HO_no rfl rfl rfl ?_
 refine HO_pick_f rfl rfl rfl rfl ?_
 refine HO_assign rfl rfl rfl ?_
 refine HO_nil ?_
 refine H_env (ρ':=[(2,_)]) ⟨rfl,trivial⟩ ?_
 refine H_world (kp [nn,nn,nn] [] rfl) ?_
 refine H_ret1 Try.results56 (.tmp rfl) (fun w hA => ⟨(),congrArg Ending.returned ?_,?_,?_⟩)
 ·(exact congrArg Value.bool (by first | (simp [Ent.goodConf, *];done) | (simp_all [Ent.goodConf];done)))
 ·trivial
 ·exact hA.keep (m:=[]) (Y:=[]) rfl
theorem none_spec (vo le : List Int) (a1 : Option Addr) (c1 : Nat) (a2 : Option Addr) (c2 : Nat) (n1 : vo.length≤BIG) (n2 : le.length≤BIG) : Spec Try.prog 38 #[.agg #[.slice a1 (vo.length) c1,.slice a2 (le.length) c2]] [.dat kInt.sl (vo) [.slice a1 (vo.length) c1],.dat kInt.sl (le) [.slice a2 (le.length) c2]] (β:=Unit) (fun y => .bool (Ent.none ⟨vo,le⟩)) (fun y => True) (fun y => []):=by
 (try simp only [BIG] at n1 n2)
 refine Spec.enter (vs:=[_]) Try.func38 rfl Try.ntmps38 rfl (Nat.le_of_ble_eq_true rfl) (fun w0 ok0 => ?_)
 generalize hM0 : blks _ = M0
 have hMn:=@noM _ _ hM0 (by simp [Atom.dat,Atom.elem])
 refine H_len_le (i:=0) rfl ?_
 intro hlen0
 refine H_len_le (i:=1) rfl ?_
 intro hlen1
 refine H_seq ?_
 refine H_region (l:=[_,_]) rfl ?_
 refine HO_box (cs:=[_,_]) rfl rfl rfl rfl ?_
 intro g1
 refine HO_assign rfl rfl rfl ?_
 refine HO_nil ?_
 refine H_env (ρ':=[(1,_)]) ⟨rfl,trivial⟩ ?_
 refine H_seq ?_
 refine H_region (l:=[_,_,_,_,_,_,_,_,_]) rfl ?_
 refine HO_fieldAddr (r:=0) rfl rfl rfl Try.underlying25 rfl Try.sizeOf23 rfl ?_
 refine HO_load1 (i:=0) (j:=0) rfl rfl rfl Try.isAgg23 rfl (.loc _ _ _) rfl rfl ?_
 refine HO_bi rfl rfl rfl (bi_len_sl Try.underlying23) ?_
 refine HO_fieldAddr (r:=1) rfl rfl rfl Try.underlying25 rfl Try.sizeOf23 rfl ?_
 refine HO_load1 (i:=0) (j:=1) rfl rfl rfl Try.isAgg23 rfl (.loc _ _ _) rfl rfl ?_
 refine HO_bi rfl rfl rfl (bi_len_sl Try.underlying23) ?_
 refine HO_bin rfl rfl rfl rfl (bin_add ?_ ?_) ?_
 ·omega
 ·omega
 refine HO_bin rfl rfl rfl rfl bin_eql ?_
 refine HO_assign rfl rfl rfl ?_
 refine HO_nil ?_
 refine H_env (ρ':=[(2,_)]) ⟨rfl,trivial⟩ ?_
 refine H_world (kp [nn,nn,nn] [] rfl) ?_
 refine H_ret1 Try.results38 (.tmp rfl) (fun w hA => ⟨(),congrArg Ending.returned ?_,?_,?_⟩)
 ·(exact congrArg Value.bool (Ent.none_eq ⟨vo,le⟩))
 ·trivial
 ·exact hA.keep (m:=[]) (Y:=[]) rfl
theorem entgood_spec (ix te ki : Int) (ck cs sq : Int) (ke ol cv ti : ByteArray) (li : Int) (vo le : List Int) (a1 : Option Addr) (c1 : Nat) (a2 : Option Addr) (c2 : Nat) (n1 : vo.length≤BIG) (n2 : le.length≤BIG) : Spec Try.prog 36 #[.agg #[.int .i64 (ix),.int .i64 (te),.int .i64 (ki),.int .i64 (ck),.int .i64 (cs),.int .i64 (sq),.string (ke),.string (ol),.string (cv),.string (ti),.int .i64 (li),.slice a1 (vo.length) c1,.slice a2 (le.length) c2]] [.dat kInt.sl (vo) [.slice a1 (vo.length) c1],.dat kInt.sl (le) [.slice a2 (le.length) c2]] (β:=Unit) (fun y => .bool (Ent.good ⟨ix,te,ki,⟨ck,cs,sq,ke,ol,cv,ti,li⟩,⟨vo,le⟩⟩)) (fun y => True) (fun y => []):=by
 refine Spec.enter (vs:=[_]) Try.func36 rfl Try.ntmps36 rfl (Nat.le_of_ble_eq_true rfl) (fun w0 ok0 => ?_)
 generalize hM0 : blks _ = M0
 have hMn:=@noM _ _ hM0 (by simp [Atom.dat,Atom.elem])
 refine H_len_le (i:=0) rfl ?_
 intro hlen0
 refine H_len_le (i:=1) rfl ?_
 intro hlen1
 refine H_seq ?_
 refine H_region (l:=[_,_]) rfl ?_
 refine HO_box (cs:=[_,_,_,_,_,_,_,_,_,_,_,_,_]) rfl rfl rfl rfl ?_
 intro g1
 refine HO_assign rfl rfl rfl ?_
 refine HO_nil ?_
 refine H_env (ρ':=[(1,_)]) ⟨rfl,trivial⟩ ?_
 refine H_seq ?_
 refine H_seq ?_
 refine H_region (l:=[_,_,_,_,_,_,_,_]) rfl ?_
 refine HO_fieldAddr (r:=0) rfl rfl rfl Try.underlying74 rfl Try.sizeOf3 rfl ?_
 refine HO_load1 (i:=0) (j:=0) rfl rfl rfl Try.isAgg3 rfl (.loc _ _ _) rfl rfl ?_
 refine HO_bin rfl rfl rfl rfl bin_lss ?_
 refine HO_move rfl rfl rfl ?_
 refine HO_split (d:=7) rfl ?_ ?_
 ·intro h7
  replace h7:=dT h7
  iterate 3 refine HO_no rfl rfl rfl ?_
  refine HO_pick_t rfl rfl rfl rfl ?_
  refine HO_nil ?_
  refine H_env (ρ':=[(11,_),(1,_)]) ⟨rfl,rfl,trivial⟩ ?_
  refine H_cond rfl (fun _ => ?_) (fun h => nomatch h)
  refine H_seq ?_
  refine H_region (l:=[_]) rfl ?_
  refine HO_assign rfl rfl rfl ?_
  refine HO_nil ?_
  refine H_env (ρ':=[(2,_)]) ⟨rfl,trivial⟩ ?_
  refine H_world (kp [nn,nn,nn] [] rfl) ?_
  refine H_ret1 Try.results36 (.tmp rfl) (fun w hA => ⟨(),congrArg Ending.returned ?_,?_,?_⟩)
  ·(exact congrArg Value.bool (by first | (simp [Ent.good,Ent.cmd0, *];done) | (simp_all [Ent.good,Ent.cmd0];done)))
  ·trivial
  ·exact hA.keep (m:=[]) (Y:=[]) rfl
 intro h7
 replace h7:=dF h7
 refine HO_fieldAddr (r:=1) rfl rfl rfl Try.underlying74 rfl Try.sizeOf3 rfl ?_
 refine HO_load1 (i:=0) (j:=1) rfl rfl rfl Try.isAgg3 rfl (.loc _ _ _) rfl rfl ?_
 refine HO_bin rfl rfl rfl rfl bin_lss ?_
 refine HO_pick_f rfl rfl rfl rfl ?_
 refine HO_nil ?_
 refine H_env (ρ':=[(11,_),(1,_)]) ⟨rfl,rfl,trivial⟩ ?_
 refine H_cond rfl ?_ ?_
 ·intro h11
  replace h11:=dT h11
  refine H_seq ?_
  refine H_region (l:=[_]) rfl ?_
  refine HO_assign rfl rfl rfl ?_
  refine HO_nil ?_
  refine H_env (ρ':=[(2,_)]) ⟨rfl,trivial⟩ ?_
  refine H_world (kp [nn,nn,nn] [] rfl) ?_
  refine H_ret1 Try.results36 (.tmp rfl) (fun w hA => ⟨(),congrArg Ending.returned ?_,?_,?_⟩)
  ·(exact congrArg Value.bool (by first | (simp [Ent.good,Ent.cmd0, *];done) | (simp_all [Ent.good,Ent.cmd0];done)))
  ·trivial
  ·exact hA.keep (m:=[]) (Y:=[]) rfl
 intro h11
 replace h11:=dF h11
 refine H_skip ?_
 refine H_seq ?_
 refine H_region (l:=[_,_,_,_,_]) rfl ?_
 refine HO_fieldAddr (r:=3) rfl rfl rfl Try.underlying74 rfl Try.sizeOf72 rfl ?_
 refine HO_loadA (i:=0) (us:=[_,_,_]) (cs:=[_,_,_,_,_,_,_,_]) (ts:=[_,_]) rfl rfl rfl Try.isAgg72 Try.sizeOf72 rfl (.loc _ _ _) rfl rfl rfl rfl ?_
 refine HO_build (xo:=[]) (vs:=[]) rfl rfl rfl rfl (bd72__) ?_
 refine HO_bin rfl rfl rfl rfl eq72_eql ?_
 refine HO_assign rfl rfl rfl ?_
 refine HO_nil ?_
 refine H_env (ρ':=[(3,_),(1,_)]) ⟨rfl,rfl,trivial⟩ ?_
 refine H_seq ?_
 refine H_seq ?_
 refine H_region (l:=[_,_]) rfl ?_
 refine HO_fieldAddr (r:=2) rfl rfl rfl Try.underlying74 rfl Try.sizeOf3 rfl ?_
 refine HO_load1 (i:=0) (j:=2) rfl rfl rfl Try.isAgg3 rfl (.loc _ _ _) rfl rfl ?_
 refine HO_nil ?_
 refine H_env (ρ':=[(17,_),(3,_),(1,_)]) ⟨rfl,rfl,rfl,trivial⟩ ?_
 refine H_block ?_
 refine H_seq ?_
 refine H_region (l:=[_,_]) rfl ?_
 refine HO_bin rfl rfl rfl rfl bin_eql ?_
 refine HO_assign rfl rfl rfl ?_
 refine HO_nil ?_
 refine H_env (ρ':=[(18,_),(17,_),(3,_),(1,_)]) ⟨rfl,rfl,rfl,rfl,trivial⟩ ?_
 refine H_cond rfl ?_ ?_
 ·intro h18
  replace h18:=dT h18
  refine H_seq ?_
  refine H_region (l:=[_,_,_,_,_,_,_]) rfl ?_
  iterate 2 refine HO_move rfl rfl rfl ?_
  refine HO_split (d:=21) rfl ?_ ?_
  ·intro h21
   (try simp only [decide_eq_true_eq,decide_eq_false_iff_not,Bool.not_eq_true',Bool.not_eq_false',Bool.not_eq_true,Bool.not_eq_false,Bool.true_eq_false,Bool.false_eq_true,not_false_eq_true,not_true_eq_false] at h21)
   refine HO_fieldAddr (r:=11) rfl rfl rfl Try.underlying74 rfl Try.sizeOf25 rfl ?_
   refine HO_loadA (i:=0) (us:=[_,_,_,_,_,_,_,_,_,_,_]) (cs:=[_,_]) (ts:=[]) rfl rfl rfl Try.isAgg25 Try.sizeOf25 rfl (.loc _ _ _) rfl rfl rfl rfl ?_
   refine HO_dup (i:=1) rfl rfl ?_
   refine HO_dup (i:=3) rfl rfl ?_
   refine HO_call (first:=[]) (capt:=[]) (is:=[0,0]) (R:=[_,_,_]) rfl rfl rfl rfl rfl Try.call38 rfl (none_spec _ _ _ _ _ _ ?_ ?_) ?_
   ·(first | omega | assumption | decide)
   ·(first | omega | assumption | decide)
   intro y24 hy24
   clear y24 hy24
   refine HO_pick_t rfl rfl rfl rfl ?_
   refine HO_assign rfl rfl rfl ?_
   refine HO_nil ?_
   refine H_env (ρ':=[(2,_)]) ⟨rfl,trivial⟩ ?_
   refine H_world (kp [nn,nn,nn] [] rfl) ?_
   refine H_ret1 Try.results36 (.tmp rfl) (fun w hA => ⟨(),congrArg Ending.returned ?_,?_,?_⟩)
   ·(exact congrArg Value.bool (by first | (simp [Ent.good,Ent.cmd0, *];done) | (simp_all [Ent.good,Ent.cmd0];done)))
   ·trivial
   ·exact hA.keep (m:=[]) (Y:=[]) rfl
  intro h21
  (try simp only [decide_eq_true_eq,decide_eq_false_iff_not,Bool.not_eq_true',Bool.not_eq_false',Bool.not_eq_true,Bool.not_eq_false,Bool.true_eq_false,Bool.false_eq_true,not_false_eq_true,not_true_eq_false] at h21)
  iterate 3 refine HO_no rfl rfl rfl ?_
  refine HO_pick_f rfl rfl rfl rfl ?_
  refine HO_assign rfl rfl rfl ?_
  refine HO_nil ?_
  refine H_env (ρ':=[(2,_)]) ⟨rfl,trivial⟩ ?_
  refine H_world (kp [nn,nn,nn] [] rfl) ?_
  refine H_ret1 Try.results36 (.tmp rfl) (fun w hA => ⟨(),congrArg Ending.returned ?_,?_,?_⟩)
  ·(exact congrArg Value.bool (by first | (simp [Ent.good,Ent.cmd0, *];done) | (simp_all [Ent.good,Ent.cmd0];done)))
  ·trivial
  ·exact hA.keep (m:=[]) (Y:=[]) rfl
 intro h18
 replace h18:=dF h18
 refine H_seq ?_
 refine H_region (l:=[_,_]) rfl ?_
 refine HO_bin rfl rfl rfl rfl bin_eql ?_
 refine HO_assign rfl rfl rfl ?_
 refine HO_nil ?_
 refine H_env (ρ':=[(26,_),(17,_),(3,_),(1,_)]) ⟨rfl,rfl,rfl,rfl,trivial⟩ ?_
 refine H_cond rfl ?_ ?_
 ·intro h26
  replace h26:=dT h26
  refine H_seq ?_
  refine H_region (l:=[_,_,_,_,_,_,_,_,_]) rfl ?_
  refine HO_fieldAddr (r:=11) rfl rfl rfl Try.underlying74 rfl Try.sizeOf25 rfl ?_
  refine HO_loadA (i:=0) (us:=[_,_,_,_,_,_,_,_,_,_,_]) (cs:=[_,_]) (ts:=[]) rfl rfl rfl Try.isAgg25 Try.sizeOf25 rfl (.loc _ _ _) rfl rfl rfl rfl ?_
  refine HO_dup (i:=1) rfl rfl ?_
  refine HO_dup (i:=3) rfl rfl ?_
  refine HO_call (first:=[]) (capt:=[]) (is:=[0,0]) (R:=[_,_,_]) rfl rfl rfl rfl rfl Try.call38 rfl (none_spec _ _ _ _ _ _ ?_ ?_) ?_
  ·(first | omega | assumption | decide)
  ·(first | omega | assumption | decide)
  intro y30 hy30
  clear y30 hy30
  refine HO_move rfl rfl rfl ?_
  refine HO_split (d:=31) rfl ?_ ?_
  ·intro h31
   refine HO_fieldAddr (r:=3) rfl rfl rfl Try.underlying74 rfl Try.sizeOf72 rfl ?_
   refine HO_loadA (i:=0) (us:=[_,_,_]) (cs:=[_,_,_,_,_,_,_,_]) (ts:=[_,_]) rfl rfl rfl Try.isAgg72 Try.sizeOf72 rfl (.loc _ _ _) rfl rfl rfl rfl ?_
   refine HO_call (first:=[]) (capt:=[]) (is:=[]) (R:=[_,_,_]) rfl rfl rfl rfl rfl Try.call55 rfl (good_spec _ _ _ _ _ _ _ _) ?_
   intro y34 hy34
   clear y34 hy34
   refine HO_pick_t rfl rfl rfl rfl ?_
   refine HO_assign rfl rfl rfl ?_
   refine HO_nil ?_
   refine H_env (ρ':=[(2,_)]) ⟨rfl,trivial⟩ ?_
   refine H_world (kp [nn,nn,nn] [] rfl) ?_
   refine H_ret1 Try.results36 (.tmp rfl) (fun w hA => ⟨(),congrArg Ending.returned ?_,?_,?_⟩)
   ·(exact congrArg Value.bool (by first | (simp [Ent.good,Ent.cmd0, *];done) | (simp_all [Ent.good,Ent.cmd0];done)))
   ·trivial
   ·exact hA.keep (m:=[]) (Y:=[]) rfl
  intro h31
  iterate 3 refine HO_no rfl rfl rfl ?_
  refine HO_pick_f rfl rfl rfl rfl ?_
  refine HO_assign rfl rfl rfl ?_
  refine HO_nil ?_
  refine H_env (ρ':=[(2,_)]) ⟨rfl,trivial⟩ ?_
  refine H_world (kp [nn,nn,nn] [] rfl) ?_
  refine H_ret1 Try.results36 (.tmp rfl) (fun w hA => ⟨(),congrArg Ending.returned ?_,?_,?_⟩)
  ·(exact congrArg Value.bool (by first | (simp [Ent.good,Ent.cmd0, *];done) | (simp_all [Ent.good,Ent.cmd0];done)))
  ·trivial
  ·exact hA.keep (m:=[]) (Y:=[]) rfl
 intro h26
 replace h26:=dF h26
 refine H_seq ?_
 refine H_region (l:=[_,_]) rfl ?_
 refine HO_bin rfl rfl rfl rfl bin_eql ?_
 refine HO_assign rfl rfl rfl ?_
 refine HO_nil ?_
 refine H_env (ρ':=[(36,_),(3,_),(1,_)]) ⟨rfl,rfl,rfl,trivial⟩ ?_
 refine H_cond rfl ?_ ?_
 ·intro h36
  replace h36:=dT h36
  refine H_seq ?_
  refine H_region (l:=[_,_,_,_,_,_,_]) rfl ?_
  iterate 2 refine HO_move rfl rfl rfl ?_
  refine HO_split (d:=39) rfl ?_ ?_
  ·intro h39
   (try simp only [decide_eq_true_eq,decide_eq_false_iff_not,Bool.not_eq_true',Bool.not_eq_false',Bool.not_eq_true,Bool.not_eq_false,Bool.true_eq_false,Bool.false_eq_true,not_false_eq_true,not_true_eq_false] at h39)
   refine HO_fieldAddr (r:=11) rfl rfl rfl Try.underlying74 rfl Try.sizeOf25 rfl ?_
   refine HO_loadA (i:=0) (us:=[_,_,_,_,_,_,_,_,_,_,_]) (cs:=[_,_]) (ts:=[]) rfl rfl rfl Try.isAgg25 Try.sizeOf25 rfl (.loc _ _ _) rfl rfl rfl rfl ?_
   refine HO_dup (i:=1) rfl rfl ?_
   refine HO_dup (i:=3) rfl rfl ?_
   refine HO_call (first:=[]) (capt:=[]) (is:=[0,0]) (R:=[_,_,_]) rfl rfl rfl rfl rfl Try.call56 rfl (goodconf_spec _ _ _ _ _ _) ?_
   intro y42 hy42
   clear y42 hy42
   refine HO_pick_t rfl rfl rfl rfl ?_
   refine HO_assign rfl rfl rfl ?_
   refine HO_nil ?_
   refine H_env (ρ':=[(2,_)]) ⟨rfl,trivial⟩ ?_
   refine H_world (kp [nn,nn,nn] [] rfl) ?_
   refine H_ret1 Try.results36 (.tmp rfl) (fun w hA => ⟨(),congrArg Ending.returned ?_,?_,?_⟩)
   ·(exact congrArg Value.bool (by first | (simp [Ent.good,Ent.cmd0, *];done) | (simp_all [Ent.good,Ent.cmd0];done)))
   ·trivial
   ·exact hA.keep (m:=[]) (Y:=[]) rfl
  intro h39
  (try simp only [decide_eq_true_eq,decide_eq_false_iff_not,Bool.not_eq_true',Bool.not_eq_false',Bool.not_eq_true,Bool.not_eq_false,Bool.true_eq_false,Bool.false_eq_true,not_false_eq_true,not_true_eq_false] at h39)
  iterate 3 refine HO_no rfl rfl rfl ?_
  refine HO_pick_f rfl rfl rfl rfl ?_
  refine HO_assign rfl rfl rfl ?_
  refine HO_nil ?_
  refine H_env (ρ':=[(2,_)]) ⟨rfl,trivial⟩ ?_
  refine H_world (kp [nn,nn,nn] [] rfl) ?_
  refine H_ret1 Try.results36 (.tmp rfl) (fun w hA => ⟨(),congrArg Ending.returned ?_,?_,?_⟩)
  ·(exact congrArg Value.bool (by first | (simp [Ent.good,Ent.cmd0, *];done) | (simp_all [Ent.good,Ent.cmd0];done)))
  ·trivial
  ·exact hA.keep (m:=[]) (Y:=[]) rfl
 intro h36
 replace h36:=dF h36
 refine H_skip ?_
 refine H_blk ?_
 refine H_seq ?_
 refine H_region (l:=[_]) rfl ?_
 refine HO_assign rfl rfl rfl ?_
 refine HO_nil ?_
 refine H_env (ρ':=[(2,_)]) ⟨rfl,trivial⟩ ?_
 refine H_world (kp [nn,nn,nn] [] rfl) ?_
 refine H_ret1 Try.results36 (.tmp rfl) (fun w hA => ⟨(),congrArg Ending.returned ?_,?_,?_⟩)
 ·(exact congrArg Value.bool (by first | (simp [Ent.good,Ent.cmd0, *];done) | (simp_all [Ent.good,Ent.cmd0];done)))
 ·trivial
 ·exact hA.keep (m:=[]) (Y:=[]) rfl
end Go.Wk
