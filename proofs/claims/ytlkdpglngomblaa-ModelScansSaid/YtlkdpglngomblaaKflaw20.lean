/- Contracts of the program's functions, each proved by walking its code. -/
import Derived.Test.YtlkdpglngomblaaKfmod5
import Derived.Test.YtlkdpglngomblaaMod6
set_option maxRecDepth 100000
set_option linter.unusedVariables false
set_option linter.unusedSimpArgs false
namespace Go.Wk.Flaw20
open Go Go.RowKit Go.Proofs Go.Wk
theorem bd36_0_1_2_3_5_iiitt {x1 : Int} {x2 : Int} {x3 : Int} {x4 : ByteArray} {x5 : ByteArray} : ∀ w, (Instr.build 36 (List.toArray (List.zip [0, 1, 2, 3, 5] [.int .i64 x1, .int .i64 x2, .int .i64 x3, .string x4, .string x5]))).run Try.prog w = .ok (.agg #[.int .i64 x1, .int .i64 x2, .int .i64 x3, .string x4, .string (⟨#[]⟩), .string x5, .string (⟨#[]⟩), .int .i64 (0)]) w := fun _ => by kernel_rfl
theorem bd36_0_i {x1 : Int} : ∀ w, (Instr.build 36 (List.toArray (List.zip [0] [.int .i64 x1]))).run Try.prog w = .ok (.agg #[.int .i64 x1, .int .i64 (0), .int .i64 (0), .string (⟨#[]⟩), .string (⟨#[]⟩), .string (⟨#[]⟩), .string (⟨#[]⟩), .int .i64 (0)]) w := fun _ => by kernel_rfl
theorem bd56__  : ∀ w, (Instr.build 56 (List.toArray (List.zip [] []))).run Try.prog w = .ok (.agg #[.slice none 0 0, .slice none 0 0]) w := fun _ => by kernel_rfl
end Go.Wk.Flaw20
namespace Go.Wk
open Go Go.RowKit Go.Proofs Flaw20 
theorem lput_spec (sq : Int) (cv : ByteArray)  : Spec Try.prog 55 #[.int .i64 (sq), .string (cv)] [] (β := Unit) (fun y => .agg #[.int .i64 (3), .int .i64 (1), .int .i64 (sq), .string (⟨#[107]⟩), .string (⟨#[]⟩), .string (cv), .string (⟨#[]⟩), .int .i64 (0)]) (fun y => True) (fun y => []) := by
 refine Spec.enter (vs := [_, _]) Try.func55 rfl Try.ntmps55 rfl (Nat.le_of_ble_eq_true rfl) (fun w0 ok0 => ?_)
 generalize hM0 : blks _ = M0
 have hMn := @noM _ _ hM0 (by simp [Atom.dat, Atom.elem])
 refine H_seq ?_
 refine H_region (l := [_]) rfl ?_
 refine HO_alloc (cs := [_, _, _, _, _, _, _, _]) rfl rfl Try.zeroValue36 rfl ?_
 intro g4
 refine HO_nil ?_
 refine H_seq ?_
 refine H_region (l := [_, _, _, _]) rfl ?_
 iterate 2 refine HO_move rfl rfl rfl ?_
 refine HO_build (xo := [(0, _), (1, _), (2, _), (3, _), (5, _)]) (vs := [_, _, _, _, _]) rfl rfl rfl rfl (bd36_0_1_2_3_5_iiitt) ?_
 refine HO_store (i := 0) (j := 0) (us := []) (old := [_, _, _, _, _, _, _, _]) (ts := []) (cs := [_, _, _, _, _, _, _, _]) (R := []) (new := [_, _, _, _, _, _, _, _]) rfl rfl rfl Try.sizeOf36 rfl (by simp [Value.oneCell']) rfl rfl rfl rfl rfl rfl ?_
 refine HO_nil ?_
 refine H_env (ρ' := [(4, _)]) ⟨rfl, trivial⟩ ?_
 refine H_ret1 Try.results55 (.cell rfl (fun w hA => run_loadVarA (cs := [_, _, _, _, _, _, _, _]) (Try.isAgg36 w) (Try.sizeOf36 w) (Tells.cells (.loc _ _ _) (hA.get (i := 0) rfl)))) (fun w hA => ⟨(), congrArg Ending.returned ?_, ?_, ?_⟩)
 ·rfl
 ·trivial
 ·exact hA.keep (m := [nn]) (Y := []) rfl
theorem heavy20_spec (es : List Ent) (a : Option Addr) (c : Nat)  : Spec Try.prog 22 #[.slice a (es.length) c] [.dat kEnt.sl (es) [.slice a (es.length) c]] (β := Bool) (fun y => .bool (y)) (fun y => (y = false → es.length ≤ 200)) (fun y => []) := by
 refine Spec.enter (vs := [_]) Try.func22 rfl Try.ntmps22 rfl (Nat.le_of_ble_eq_true rfl) (fun w0 ok0 => ?_)
 generalize hM0 : blks _ = M0
 have hMn := @noM _ _ hM0 (by simp [Atom.dat, Atom.elem])
 refine H_len_le (i := 0) rfl ?_
 intro hlen0
 refine H_seq ?_
 refine H_region (l := [_]) rfl ?_
 refine HO_assign rfl rfl rfl ?_
 refine HO_nil ?_
 refine H_env (ρ' := [(0, _)]) ⟨rfl, trivial⟩ ?_
 refine H_seq ?_
 refine H_region (l := [_]) rfl ?_
 refine HO_assign rfl rfl rfl ?_
 refine HO_nil ?_
 refine H_seq ?_
 refine H_seq ?_
 refine H_region (l := [_, _, _]) rfl ?_
 refine HO_move rfl rfl rfl ?_
 refine HO_bi rfl rfl rfl (bi_len_sl Try.underlying22) ?_
 refine HO_move rfl rfl rfl ?_
 refine HO_nil ?_
 refine H_env (ρ' := [(9, _), (8, _), (7, _), (3, _)]) ⟨rfl, rfl, rfl, rfl, trivial⟩ ?_
 refine H_block ?_
 refine H_loop (σ := Nat × Int) (fun s => s.1 ≤ es.length ∧ (s.1 : Int) ≤ s.2 ∧ s.2 ≤ 200) (fun s => [(3, .int .i64 (s.2)), (7, .slice a (es.length) c), (8, .int .i64 ((es.length : Int))), (9, .int .i64 ((s.1 : Int)))]) (fun s => Asn w0 ok0 M0 [.dat kEnt.sl (es) [.slice a (es.length) c]]) (fun s => es.length - s.1) ⟨0, 0⟩ ?_ ?_ ?_ ?_
 ·exact ⟨Nat.zero_le _, by decide, by decide⟩
 ·exact ⟨rfl, rfl, rfl, rfl, trivial⟩
 ·intro w hA
  exact hA.only (is := [0]) (Z := []) rfl
 ·rintro ⟨i, n⟩ hI
  (try dsimp only at hI ⊢)
  refine H_seq ?_
  refine H_region (l := [_]) rfl ?_
  refine HO_bin rfl rfl rfl rfl bin_lss ?_
  refine HO_nil ?_
  refine H_seq ?_
  refine H_cond rfl ?_ ?_
  ·intro h10
   replace h10 := dT h10
   refine H_skip ?_
   refine H_seq ?_
   refine H_block ?_
   refine H_seq ?_
   refine H_region (l := [_, _, _, _]) rfl ?_
   refine HO_indexAddr open_Ent (i := 0) rfl rfl rfl rfl rfl Try.underlying22 Try.sizeOf44 rfl ?_ ?_
   ·omega
   intro b11 o11 z11 y11 hz11 hI11
   (try simp only [BIG] at hI11)
   refine HO_loadA (i := 0) (us := []) (cs := [_, _, _, _, _, _, _, _, _, _, _, _, _]) (ts := []) rfl rfl rfl Try.isAgg44 Try.sizeOf44 rfl (.elem _ _ _) rfl rfl rfl rfl ?_
   refine HO_alloc (cs := [_, _, _, _, _, _, _, _, _, _, _, _, _]) rfl rfl Try.zeroValue44 rfl ?_
   intro g5
   refine HO_store (i := 0) (j := 0) (us := []) (old := [_, _, _, _, _, _, _, _, _, _, _, _, _]) (ts := []) (cs := [_, _, _, _, _, _, _, _, _, _, _, _, _]) (R := [_, _, _, _]) (new := [_, _, _, _, _, _, _, _, _, _, _, _, _]) rfl rfl rfl Try.sizeOf44 rfl (by simp [Value.oneCell']) rfl rfl rfl rfl rfl rfl ?_
   refine HO_nil ?_
   refine H_env (ρ' := [(5, _), (3, _), (7, _), (8, _), (9, _)]) ⟨rfl, rfl, rfl, rfl, rfl, trivial⟩ ?_
   refine H_world (fun _ hA => hA.keep (m := [yy, nn, yy, yy, yy]) (Y := [_, _, _, _]) rfl) ?_
   refine H_seq ?_
   refine H_region (l := [_, _, _, _]) rfl ?_
   refine HO_fieldAddr (r := 3) rfl rfl rfl Try.underlying44 rfl Try.sizeOf36 rfl ?_
   refine HO_loadA (i := 0) (us := [_, _, _]) (cs := [_, _, _, _, _, _, _, _]) (ts := [_, _]) rfl rfl rfl Try.isAgg36 Try.sizeOf36 rfl (.loc _ _ _) rfl rfl rfl rfl ?_
   refine HO_alloc (cs := [_, _, _, _, _, _, _, _]) rfl rfl Try.zeroValue36 rfl ?_
   intro g6
   refine HO_store (i := 0) (j := 0) (us := []) (old := [_, _, _, _, _, _, _, _]) (ts := []) (cs := [_, _, _, _, _, _, _, _]) (R := [_, _, _, _]) (new := [_, _, _, _, _, _, _, _]) rfl rfl rfl Try.sizeOf36 rfl (by simp [Value.oneCell']) rfl rfl rfl rfl rfl rfl ?_
   refine HO_nil ?_
   refine H_env (ρ' := [(6, _), (3, _), (7, _), (8, _), (9, _)]) ⟨rfl, rfl, rfl, rfl, rfl, trivial⟩ ?_
   refine H_world (fun _ hA => hA.keep (m := [yy, nn, nn, nn, yy]) (Y := [_, _]) rfl) ?_
   refine H_seq ?_
   refine H_region (l := [_, _, _, _, _, _, _, _, _, _, _, _, _, _, _, _, _, _, _, _]) rfl ?_
   refine HO_move rfl rfl rfl ?_
   refine HO_fieldAddr (r := 3) rfl rfl rfl Try.underlying36 rfl Try.sizeOf9 rfl ?_
   refine HO_load1 (i := 0) (j := 3) rfl rfl rfl Try.isAgg9 rfl (.loc _ _ _) rfl rfl ?_
   refine HO_bi rfl rfl rfl (bi_len_str Try.underlying9) ?_
   refine HO_fieldAddr (r := 4) rfl rfl rfl Try.underlying36 rfl Try.sizeOf9 rfl ?_
   refine HO_load1 (i := 0) (j := 4) rfl rfl rfl Try.isAgg9 rfl (.loc _ _ _) rfl rfl ?_
   refine HO_bi rfl rfl rfl (bi_len_str Try.underlying9) ?_
   refine HO_bin rfl rfl rfl rfl (bin_add ?_ ?_) ?_
   ·omega
   ·omega
   refine HO_fieldAddr (r := 5) rfl rfl rfl Try.underlying36 rfl Try.sizeOf9 rfl ?_
   refine HO_load1 (i := 0) (j := 5) rfl rfl rfl Try.isAgg9 rfl (.loc _ _ _) rfl rfl ?_
   refine HO_bi rfl rfl rfl (bi_len_str Try.underlying9) ?_
   refine HO_bin rfl rfl rfl rfl (bin_add ?_ ?_) ?_
   ·omega
   ·omega
   refine HO_fieldAddr (r := 6) rfl rfl rfl Try.underlying36 rfl Try.sizeOf9 rfl ?_
   refine HO_load1 (i := 0) (j := 6) rfl rfl rfl Try.isAgg9 rfl (.loc _ _ _) rfl rfl ?_
   refine HO_bi rfl rfl rfl (bi_len_str Try.underlying9) ?_
   refine HO_bin rfl rfl rfl rfl (bin_add ?_ ?_) ?_
   ·omega
   ·omega
   refine HO_bin rfl rfl rfl rfl (bin_quo ?_ ?_ ?_) ?_
   ·omega
   ·omega
   ·omega
   refine HO_bin rfl rfl rfl rfl (bin_add ?_ ?_) ?_
   ·omega
   ·omega
   refine HO_bin rfl rfl rfl rfl (bin_add ?_ ?_) ?_
   ·omega
   ·omega
   refine HO_assign rfl rfl rfl ?_
   refine HO_nil ?_
   refine H_env (ρ' := [(3, _), (7, _), (8, _), (9, _)]) ⟨rfl, rfl, rfl, rfl, trivial⟩ ?_
   refine H_world (fun _ hA => hA.keep (m := [nn, yy]) (Y := [_]) rfl) ?_
   refine H_seq ?_
   refine H_region (l := [_, _]) rfl ?_
   refine HO_move rfl rfl rfl ?_
   refine HO_bin rfl rfl rfl rfl bin_gtr ?_
   refine HO_nil ?_
   refine H_env (ρ' := [(35, _), (3, _), (7, _), (8, _), (9, _)]) ⟨rfl, rfl, rfl, rfl, rfl, trivial⟩ ?_
   refine H_cond rfl ?_ ?_
   ·intro h35
    replace h35 := dT h35
    refine H_seq ?_
    refine H_region (l := [_]) rfl ?_
    refine HO_assign rfl rfl rfl ?_
    refine HO_nil ?_
    refine H_env (ρ' := [(2, _)]) ⟨rfl, trivial⟩ ?_
    refine H_world (fun _ hA => hA.keep (m := [nn]) (Y := []) rfl) ?_
    refine H_ret1 Try.results22 (.tmp rfl) (fun w hA => ⟨true, congrArg Ending.returned ?_, ?_, ?_⟩)
    ·rfl
    ·exact fun h => nomatch h
    ·exact hA.keep (m := []) (Y := []) rfl
   intro h35
   replace h35 := dF h35
   refine H_skip ?_
   refine H_blk ?_
   refine H_region (l := [_, _]) rfl ?_
   refine HO_bin rfl rfl rfl rfl (bin_add ?_ ?_) ?_
   ·omega
   ·omega
   refine HO_move rfl rfl rfl ?_
   refine HO_nil ?_
   refine H_env (ρ' := [(9, _), (3, _), (7, _), (8, _)]) ⟨rfl, rfl, rfl, rfl, trivial⟩ ?_
   refine H_inv (fun a w hf hA => ⟨⟨i + 1, n + (1 + (((((z11.cmd.key.size : Int) + (z11.cmd.old.size : Int)) + (z11.cmd.val.size : Int)) + (z11.cmd.til.size : Int)) / 20))⟩, ?_, ?_, hf.sub ?_, ?_⟩)
   ·exact ⟨by dsimp only; omega, by dsimp only; omega, by dsimp only; omega⟩
   ·(try dsimp only); omega
   ·exact ⟨rfl, rfl, rfl, rfl, trivial⟩
   ·exact hA.only (is := [0]) (Z := []) rfl
  intro h10
  replace h10 := dF h10
  refine H_exit rfl ?_
  refine H_seq ?_
  refine H_region (l := [_]) rfl ?_
  refine HO_assign rfl rfl rfl ?_
  refine HO_nil ?_
  refine H_env (ρ' := [(2, _)]) ⟨rfl, trivial⟩ ?_
  refine H_world (fun _ hA => hA.keep (m := [nn]) (Y := []) rfl) ?_
  refine H_ret1 Try.results22 (.tmp rfl) (fun w hA => ⟨false, congrArg Ending.returned ?_, ?_, ?_⟩)
  ·rfl
  ·exact fun _ => by omega
  ·exact hA.keep (m := []) (Y := []) rfl
theorem great20_spec (ki cs sq : Int) (ke ol cv ti : ByteArray) (li : Int) (sk : ke.size ≤ BIG) (so : ol.size ≤ BIG) (sc : cv.size ≤ BIG) (st : ti.size ≤ BIG) : Spec Try.prog 23 #[.agg #[.int .i64 (ki), .int .i64 (cs), .int .i64 (sq), .string (ke), .string (ol), .string (cv), .string (ti), .int .i64 (li)]] [] (β := Unit) (fun y => .bool (decide ((5000 : Int) < (ke.size : Int) + (ol.size : Int) + (cv.size : Int) + (ti.size : Int)))) (fun y => True) (fun y => []) := by
 (try simp only [BIG] at sk so sc st)
 refine Spec.enter (vs := [_]) Try.func23 rfl Try.ntmps23 rfl (Nat.le_of_ble_eq_true rfl) (fun w0 ok0 => ?_)
 generalize hM0 : blks _ = M0
 have hMn := @noM _ _ hM0 (by simp [Atom.dat, Atom.elem])
 refine H_seq ?_
 refine H_region (l := [_, _]) rfl ?_
 refine HO_box (cs := [_, _, _, _, _, _, _, _]) rfl rfl rfl rfl ?_
 intro g1
 refine HO_assign rfl rfl rfl ?_
 refine HO_nil ?_
 refine H_env (ρ' := [(1, _)]) ⟨rfl, trivial⟩ ?_
 refine H_seq ?_
 refine H_region (l := [_, _, _, _, _, _, _, _, _, _, _, _, _, _, _, _, _]) rfl ?_
 refine HO_fieldAddr (r := 3) rfl rfl rfl Try.underlying36 rfl Try.sizeOf9 rfl ?_
 refine HO_load1 (i := 0) (j := 3) rfl rfl rfl Try.isAgg9 rfl (.loc _ _ _) rfl rfl ?_
 refine HO_bi rfl rfl rfl (bi_len_str Try.underlying9) ?_
 refine HO_fieldAddr (r := 4) rfl rfl rfl Try.underlying36 rfl Try.sizeOf9 rfl ?_
 refine HO_load1 (i := 0) (j := 4) rfl rfl rfl Try.isAgg9 rfl (.loc _ _ _) rfl rfl ?_
 refine HO_bi rfl rfl rfl (bi_len_str Try.underlying9) ?_
 refine HO_bin rfl rfl rfl rfl (bin_add ?_ ?_) ?_
 ·omega
 ·omega
 refine HO_fieldAddr (r := 5) rfl rfl rfl Try.underlying36 rfl Try.sizeOf9 rfl ?_
 refine HO_load1 (i := 0) (j := 5) rfl rfl rfl Try.isAgg9 rfl (.loc _ _ _) rfl rfl ?_
 refine HO_bi rfl rfl rfl (bi_len_str Try.underlying9) ?_
 refine HO_bin rfl rfl rfl rfl (bin_add ?_ ?_) ?_
 ·omega
 ·omega
 refine HO_fieldAddr (r := 6) rfl rfl rfl Try.underlying36 rfl Try.sizeOf9 rfl ?_
 refine HO_load1 (i := 0) (j := 6) rfl rfl rfl Try.isAgg9 rfl (.loc _ _ _) rfl rfl ?_
 refine HO_bi rfl rfl rfl (bi_len_str Try.underlying9) ?_
 refine HO_bin rfl rfl rfl rfl (bin_add ?_ ?_) ?_
 ·omega
 ·omega
 refine HO_bin rfl rfl rfl rfl bin_gtr ?_
 refine HO_assign rfl rfl rfl ?_
 refine HO_nil ?_
 refine H_env (ρ' := [(2, _)]) ⟨rfl, trivial⟩ ?_
 refine H_world (fun _ hA => hA.keep (m := [nn]) (Y := []) rfl) ?_
 refine H_ret1 Try.results23 (.tmp rfl) (fun w hA => ⟨(), congrArg Ending.returned ?_, ?_, ?_⟩)
 ·rfl
 ·trivial
 ·exact hA.keep (m := []) (Y := []) rfl
set_option maxHeartbeats 0 in
theorem lives20_spec  : Spec Try.prog 24 #[] [] (β := Unit) (fun y => .bool (true)) (fun y => True) (fun y => []) := by
 refine Spec.enter (vs := []) Try.func24 rfl Try.ntmps24 rfl (Nat.le_of_ble_eq_true rfl) (fun w0 ok0 => ?_)
 generalize hM0 : blks _ = M0
 have hMn := @noM _ _ hM0 (by simp [Atom.dat, Atom.elem])
 refine H_seq ?_
 refine H_region (l := [_]) rfl ?_
 refine HO_assign rfl rfl rfl ?_
 refine HO_nil ?_
 refine H_env (ρ' := []) trivial ?_
 refine H_seq ?_
 refine H_meetE (σ := Nat × Nat × ((Option Addr × Nat) × (Option Addr × Nat) × (Option Addr × Nat))) _ (fun s => True) (fun s => [(1, .pointer (some ⟨s.1, 0, none⟩)), (2, .pointer (some ⟨s.2.1, 0, none⟩))]) (fun s => Asn w0 ok0 M0 [.loc s.1 [.slice s.2.2.1.1 (Mod.ex1.1.length) s.2.2.1.2, .slice s.2.2.2.1.1 (Mod.ex1.2.1.length) s.2.2.2.1.2] 56, .dat kPair.sl (Mod.ex1.1) [.slice s.2.2.1.1 (Mod.ex1.1.length) s.2.2.1.2], .dat kSess.sl (Mod.ex1.2.1) [.slice s.2.2.2.1.1 (Mod.ex1.2.1.length) s.2.2.2.1.2], .loc s.2.1 [.int .i64 (Mod.ex1.2.2.err), .bool (Mod.ex1.2.2.found), .string (Mod.ex1.2.2.val), .int .i64 (Mod.ex1.2.2.sess), .slice s.2.2.2.2.1 (Mod.ex1.2.2.pairs.length) s.2.2.2.2.2] 38, .dat kPair.sl (Mod.ex1.2.2.pairs) [.slice s.2.2.2.2.1 (Mod.ex1.2.2.pairs.length) s.2.2.2.2.2]]) ?_ ?_
 ·skip
  refine H_region (l := [_, _, _, _, _, _, _, _, _, _]) rfl ?_
  refine HO_build (xo := []) (vs := []) rfl rfl rfl rfl (bd56__) ?_
  refine HO_build (xo := [(0, _)]) (vs := [_]) rfl rfl rfl rfl (bd36_0_i) ?_
  refine HO_nilDat kPair ?_
  refine HO_nilDat kSess ?_
  refine HO_dup (i := 1) rfl rfl ?_
  refine HO_dup (i := 1) rfl rfl ?_
  refine HO_call (first := []) (capt := []) (is := [0, 0]) (R := [_, _]) rfl rfl rfl rfl rfl Try.call29 rfl (apply_spec _ _ _ _ _ _ _ _ _ _ _ _ _ _ _ ?_ ?_ ?_ ?_ ?_ ?_) ?_
  ·exact Mod.Inv.nil
  ·decide
  ·decide
  ·decide
  ·decide
  ·decide
  intro y9 hy9
  refine HO_move rfl rfl rfl ?_
  refine HO_extract (vs := [_, _]) rfl rfl rfl rfl ?_
  refine HO_extract (vs := [_, _]) rfl rfl rfl rfl ?_
  refine HO_alloc (cs := [_, _]) rfl rfl Try.zeroValue56 rfl ?_
  intro g1
  refine HO_alloc (cs := [_, _, _, _, _]) rfl rfl Try.zeroValue38 rfl ?_
  intro g2
  refine HO_store (i := 1) (j := 0) (us := []) (old := [_, _]) (ts := []) (cs := [_, _]) (R := [_, _, _, _, _, _]) (new := [_, _]) rfl rfl rfl Try.sizeOf56 rfl (by simp [Value.oneCell']) rfl rfl rfl rfl rfl rfl ?_
  refine HO_store (i := 1) (j := 0) (us := []) (old := [_, _, _, _, _]) (ts := []) (cs := [_, _, _, _, _]) (R := [_, _, _, _, _, _]) (new := [_, _, _, _, _]) rfl rfl rfl Try.sizeOf38 rfl (by simp [Value.oneCell']) rfl rfl rfl rfl rfl rfl ?_
  refine HO_nil ?_
  refine H_env (ρ' := [(2, _), (1, _)]) ⟨rfl, rfl, trivial⟩ ?_
  refine H_world (fun _ hA => hA.keep (m := [yy, yy, yy, yy, yy, nn, nn]) (Y := [_, _, _, _, _]) rfl) ?_
  refine H_inv (fun a w hf hA => ⟨⟨g1, g2, y9⟩, ?_, hf.sub ?_, ?_⟩)
  ·trivial
  ·exact ⟨rfl, rfl, trivial⟩
  ·exact hA.only (is := [0, 1, 2, 0, 4]) (Z := []) rfl
 rintro ⟨g1, h1, u1⟩ hJ
 (try dsimp only at hJ ⊢)
 refine H_seq ?_
 refine H_meetE (σ := Nat × Nat × Nat × ((Option Addr × Nat) × (Option Addr × Nat) × (Option Addr × Nat)) × ((Option Addr × Nat) × (Option Addr × Nat) × (Option Addr × Nat))) _ (fun s => True) (fun s => [(1, .pointer (some ⟨s.1, 0, none⟩)), (2, .pointer (some ⟨s.2.1, 0, none⟩)), (3, .pointer (some ⟨s.2.2.1, 0, none⟩))]) (fun s => Asn w0 ok0 M0 [.loc s.1 [.slice s.2.2.2.2.1.1 (Mod.ex2.1.length) s.2.2.2.2.1.2, .slice s.2.2.2.2.2.1.1 (Mod.ex2.2.1.length) s.2.2.2.2.2.1.2] 56, .dat kPair.sl (Mod.ex2.1) [.slice s.2.2.2.2.1.1 (Mod.ex2.1.length) s.2.2.2.2.1.2], .dat kSess.sl (Mod.ex2.2.1) [.slice s.2.2.2.2.2.1.1 (Mod.ex2.2.1.length) s.2.2.2.2.2.1.2], .loc s.2.1 [.int .i64 (Mod.ex1.2.2.err), .bool (Mod.ex1.2.2.found), .string (Mod.ex1.2.2.val), .int .i64 (Mod.ex1.2.2.sess), .slice s.2.2.2.1.2.2.1 (Mod.ex1.2.2.pairs.length) s.2.2.2.1.2.2.2] 38, .dat kPair.sl (Mod.ex1.2.2.pairs) [.slice s.2.2.2.1.2.2.1 (Mod.ex1.2.2.pairs.length) s.2.2.2.1.2.2.2], .loc s.2.2.1 [.int .i64 (Mod.ex2.2.2.err), .bool (Mod.ex2.2.2.found), .string (Mod.ex2.2.2.val), .int .i64 (Mod.ex2.2.2.sess), .slice s.2.2.2.2.2.2.1 (Mod.ex2.2.2.pairs.length) s.2.2.2.2.2.2.2] 38, .dat kPair.sl (Mod.ex2.2.2.pairs) [.slice s.2.2.2.2.2.2.1 (Mod.ex2.2.2.pairs.length) s.2.2.2.2.2.2.2]]) ?_ ?_
 ·skip
  refine H_drawB (m := [nn, yy, yy, yy, yy]) (Xs := [_, _, _, _]) (fuel := 9) (l := #[false, false, false, false, false, false, false, false, false]) mixed rfl rfl rfl ?_
  refine HA_loud3 (i := 0) (j := 1) (m := 6) (by kernel_rfl) rfl rfl rfl ?_ ?_ ?_
  ·refine HO_loadA (i := 0) (us := []) (cs := [_, _]) (ts := []) rfl rfl rfl Try.isAgg56 Try.sizeOf56 rfl (.loc _ _ _) rfl rfl rfl rfl ?_
   refine HA_back (listed' := #[true, false, false, false, false, false, false, false, false]) rfl (fun _ hA => hA.keep (m := [nn, yy, yy, yy, yy]) (Y := [_, _, _, _]) rfl) ?_
   refine HA_loud2 (i := 1) (j := 6) (by kernel_rfl) rfl rfl ?_ ?_
   ·refine HO_call (first := []) (capt := []) (is := []) (R := [_, _, _, _, _]) rfl rfl rfl rfl rfl Try.call55 rfl (lput_spec _ _) ?_
    intro y14 hy14
    clear y14 hy14
    refine HA_back (listed' := #[true, true, false, false, false, false, false, false, false]) rfl (fun _ hA => hA.keep (m := [nn, yy, yy, yy, yy]) (Y := [_, _, _, _]) rfl) ?_
    refine HA_loud2 (i := 2) (j := 6) (by kernel_rfl) rfl rfl ?_ ?_
    ·refine HO_dup (i := 1) rfl rfl ?_
     refine HO_dup (i := 3) rfl rfl ?_
     refine HO_call (first := []) (capt := []) (is := [0, 0]) (R := [_, _, _, _, _]) rfl rfl rfl rfl rfl Try.call29 rfl (apply_spec _ _ _ _ _ _ _ _ _ _ _ _ _ _ _ ?_ ?_ ?_ ?_ ?_ ?_) ?_
     ·exact Mod.ex1_inv
     ·decide
     ·decide
     ·decide
     ·decide
     ·decide
     intro y15 hy15
     refine HA_back (listed' := #[true, true, true, false, false, false, false, false, false]) rfl (fun _ hA => hA.keep (m := [nn, nn, nn, nn, yy, yy, yy, yy]) (Y := [_, _, _, _]) rfl) ?_
     refine HA_take (i := 3) (listed' := #[true, true, true, true, false, false, false, false, false]) (bodyPost_pan _ _ _) rfl rfl rfl rfl (by kernel_rfl) rfl (V_move rfl) (fun _ hA => hA.keep (m := [nn, nn, nn, nn, yy, yy, yy, yy]) (Y := [_, _, _, _]) rfl) ?_
     refine HA_take (i := 4) (listed' := #[true, true, true, true, true, false, false, false, false]) (bodyPost_pan _ _ _) rfl rfl rfl rfl (by kernel_rfl) rfl (V_extract (vs := [_, _]) rfl rfl) (fun _ hA => hA.keep (m := [nn, nn, nn, nn, yy, yy, yy, yy]) (Y := [_, _, _, _]) rfl) ?_
     refine HA_take (i := 5) (listed' := #[true, true, true, true, true, true, false, false, false]) (bodyPost_pan _ _ _) rfl rfl rfl rfl (by kernel_rfl) rfl (V_extract (vs := [_, _]) rfl rfl) (fun _ hA => hA.keep (m := [nn, nn, nn, nn, yy, yy, yy, yy]) (Y := [_, _, _, _]) rfl) ?_
     refine HA_loud1 (i := 6) (by kernel_rfl) rfl ?_
     refine HO_alloc (cs := [_, _, _, _, _]) rfl rfl Try.zeroValue38 rfl ?_
     intro g3
     refine HA_back (listed' := #[true, true, true, true, true, true, true, false, false]) rfl (fun _ hA => hA.keep (m := [nn, nn, nn, nn, nn, yy, yy, yy, yy]) (Y := [_, _, _, _]) rfl) ?_
     refine HA_loud1 (i := 7) (by kernel_rfl) rfl ?_
     refine HO_store (i := 4) (j := 0) (us := []) (old := [_, _]) (ts := []) (cs := [_, _]) (R := [_, _, _, _, _, _, _, _]) (new := [_, _]) rfl rfl rfl Try.sizeOf56 rfl (by simp [Value.oneCell']) rfl rfl rfl rfl rfl rfl ?_
     refine HA_back (listed' := #[true, true, true, true, true, true, true, true, false]) rfl (fun _ hA => hA.keep (m := [nn, nn, nn, nn, nn, yy, yy, yy, yy]) (Y := [_, _, _, _]) rfl) ?_
     refine HA_loud1 (i := 8) (by kernel_rfl) rfl ?_
     refine HO_store (i := 1) (j := 0) (us := []) (old := [_, _, _, _, _]) (ts := []) (cs := [_, _, _, _, _]) (R := [_, _, _, _, _, _, _, _]) (new := [_, _, _, _, _]) rfl rfl rfl Try.sizeOf38 rfl (by simp [Value.oneCell']) rfl rfl rfl rfl rfl rfl ?_
     refine HA_back (listed' := #[true, true, true, true, true, true, true, true, true]) rfl (fun _ hA => hA.keep (m := [nn, nn, nn, nn, nn, yy, yy, yy, yy]) (Y := [_, _, _, _]) rfl) ?_
     refine HA_done (by kernel_rfl) ?_
     refine H_env (ρ' := [(3, _), (1, _), (2, _)]) ⟨rfl, rfl, rfl, trivial⟩ ?_
     refine H_world (fun _ hA => hA.keep (m := [yy, yy, yy, yy, yy, nn, nn, yy, yy]) (Y := [_, _, _, _, _, _, _]) rfl) ?_
     refine H_inv (fun a w hf hA => ⟨⟨g1, h1, g3, u1, y15⟩, ?_, hf.sub ?_, ?_⟩)
     ·trivial
     ·exact ⟨rfl, rfl, rfl, trivial⟩
     ·exact hA.only (is := [0, 1, 2, 3, 4, 0, 4]) (Z := []) rfl
    ·refine HO_alloc (cs := [_, _, _, _, _]) rfl rfl Try.zeroValue38 rfl ?_
     intro g3
     refine HA_back (listed' := #[true, true, false, false, false, false, true, false, false]) rfl (fun _ hA => hA.keep (m := [nn, nn, yy, yy, yy, yy]) (Y := [_, _, _, _]) rfl) ?_
     refine HA_loud1 (i := 2) (by kernel_rfl) rfl ?_
     refine HO_dup (i := 2) rfl rfl ?_
     refine HO_dup (i := 4) rfl rfl ?_
     refine HO_call (first := []) (capt := []) (is := [0, 0]) (R := [_, _, _, _, _, _]) rfl rfl rfl rfl rfl Try.call29 rfl (apply_spec _ _ _ _ _ _ _ _ _ _ _ _ _ _ _ ?_ ?_ ?_ ?_ ?_ ?_) ?_
     ·exact Mod.ex1_inv
     ·decide
     ·decide
     ·decide
     ·decide
     ·decide
     intro y15 hy15
     refine HA_back (listed' := #[true, true, true, false, false, false, true, false, false]) rfl (fun _ hA => hA.keep (m := [nn, nn, nn, nn, nn, yy, yy, yy, yy]) (Y := [_, _, _, _]) rfl) ?_
     refine HA_take (i := 3) (listed' := #[true, true, true, true, false, false, true, false, false]) (bodyPost_pan _ _ _) rfl rfl rfl rfl (by kernel_rfl) rfl (V_move rfl) (fun _ hA => hA.keep (m := [nn, nn, nn, nn, nn, yy, yy, yy, yy]) (Y := [_, _, _, _]) rfl) ?_
     refine HA_take (i := 4) (listed' := #[true, true, true, true, true, false, true, false, false]) (bodyPost_pan _ _ _) rfl rfl rfl rfl (by kernel_rfl) rfl (V_extract (vs := [_, _]) rfl rfl) (fun _ hA => hA.keep (m := [nn, nn, nn, nn, nn, yy, yy, yy, yy]) (Y := [_, _, _, _]) rfl) ?_
     refine HA_take (i := 5) (listed' := #[true, true, true, true, true, true, true, false, false]) (bodyPost_pan _ _ _) rfl rfl rfl rfl (by kernel_rfl) rfl (V_extract (vs := [_, _]) rfl rfl) (fun _ hA => hA.keep (m := [nn, nn, nn, nn, nn, yy, yy, yy, yy]) (Y := [_, _, _, _]) rfl) ?_
     refine HA_loud1 (i := 7) (by kernel_rfl) rfl ?_
     refine HO_store (i := 4) (j := 0) (us := []) (old := [_, _]) (ts := []) (cs := [_, _]) (R := [_, _, _, _, _, _, _, _]) (new := [_, _]) rfl rfl rfl Try.sizeOf56 rfl (by simp [Value.oneCell']) rfl rfl rfl rfl rfl rfl ?_
     refine HA_back (listed' := #[true, true, true, true, true, true, true, true, false]) rfl (fun _ hA => hA.keep (m := [nn, nn, nn, nn, nn, yy, yy, yy, yy]) (Y := [_, _, _, _]) rfl) ?_
     refine HA_loud1 (i := 8) (by kernel_rfl) rfl ?_
     refine HO_store (i := 4) (j := 0) (us := []) (old := [_, _, _, _, _]) (ts := []) (cs := [_, _, _, _, _]) (R := [_, _, _, _, _, _, _, _]) (new := [_, _, _, _, _]) rfl rfl rfl Try.sizeOf38 rfl (by simp [Value.oneCell']) rfl rfl rfl rfl rfl rfl ?_
     refine HA_back (listed' := #[true, true, true, true, true, true, true, true, true]) rfl (fun _ hA => hA.keep (m := [nn, nn, nn, nn, nn, yy, yy, yy, yy]) (Y := [_, _, _, _]) rfl) ?_
     refine HA_done (by kernel_rfl) ?_
     refine H_env (ρ' := [(3, _), (1, _), (2, _)]) ⟨rfl, rfl, rfl, trivial⟩ ?_
     refine H_world (fun _ hA => hA.keep (m := [yy, yy, yy, yy, yy, nn, nn, yy, yy]) (Y := [_, _, _, _, _, _, _]) rfl) ?_
     refine H_inv (fun a w hf hA => ⟨⟨g1, h1, g3, u1, y15⟩, ?_, hf.sub ?_, ?_⟩)
     ·trivial
     ·exact ⟨rfl, rfl, rfl, trivial⟩
     ·exact hA.only (is := [0, 1, 2, 3, 4, 0, 4]) (Z := []) rfl
   ·refine HO_alloc (cs := [_, _, _, _, _]) rfl rfl Try.zeroValue38 rfl ?_
    intro g3
    refine HA_back (listed' := #[true, false, false, false, false, false, true, false, false]) rfl (fun _ hA => hA.keep (m := [nn, nn, yy, yy, yy, yy]) (Y := [_, _, _, _]) rfl) ?_
    refine HA_loud1 (i := 1) (by kernel_rfl) rfl ?_
    refine HO_call (first := []) (capt := []) (is := []) (R := [_, _, _, _, _, _]) rfl rfl rfl rfl rfl Try.call55 rfl (lput_spec _ _) ?_
    intro y14 hy14
    clear y14 hy14
    refine HA_back (listed' := #[true, true, false, false, false, false, true, false, false]) rfl (fun _ hA => hA.keep (m := [nn, nn, yy, yy, yy, yy]) (Y := [_, _, _, _]) rfl) ?_
    refine HA_loud1 (i := 2) (by kernel_rfl) rfl ?_
    refine HO_dup (i := 2) rfl rfl ?_
    refine HO_dup (i := 4) rfl rfl ?_
    refine HO_call (first := []) (capt := []) (is := [0, 0]) (R := [_, _, _, _, _, _]) rfl rfl rfl rfl rfl Try.call29 rfl (apply_spec _ _ _ _ _ _ _ _ _ _ _ _ _ _ _ ?_ ?_ ?_ ?_ ?_ ?_) ?_
    ·exact Mod.ex1_inv
    ·decide
    ·decide
    ·decide
    ·decide
    ·decide
    intro y15 hy15
    refine HA_back (listed' := #[true, true, true, false, false, false, true, false, false]) rfl (fun _ hA => hA.keep (m := [nn, nn, nn, nn, nn, yy, yy, yy, yy]) (Y := [_, _, _, _]) rfl) ?_
    refine HA_take (i := 3) (listed' := #[true, true, true, true, false, false, true, false, false]) (bodyPost_pan _ _ _) rfl rfl rfl rfl (by kernel_rfl) rfl (V_move rfl) (fun _ hA => hA.keep (m := [nn, nn, nn, nn, nn, yy, yy, yy, yy]) (Y := [_, _, _, _]) rfl) ?_
    refine HA_take (i := 4) (listed' := #[true, true, true, true, true, false, true, false, false]) (bodyPost_pan _ _ _) rfl rfl rfl rfl (by kernel_rfl) rfl (V_extract (vs := [_, _]) rfl rfl) (fun _ hA => hA.keep (m := [nn, nn, nn, nn, nn, yy, yy, yy, yy]) (Y := [_, _, _, _]) rfl) ?_
    refine HA_take (i := 5) (listed' := #[true, true, true, true, true, true, true, false, false]) (bodyPost_pan _ _ _) rfl rfl rfl rfl (by kernel_rfl) rfl (V_extract (vs := [_, _]) rfl rfl) (fun _ hA => hA.keep (m := [nn, nn, nn, nn, nn, yy, yy, yy, yy]) (Y := [_, _, _, _]) rfl) ?_
    refine HA_loud1 (i := 7) (by kernel_rfl) rfl ?_
    refine HO_store (i := 4) (j := 0) (us := []) (old := [_, _]) (ts := []) (cs := [_, _]) (R := [_, _, _, _, _, _, _, _]) (new := [_, _]) rfl rfl rfl Try.sizeOf56 rfl (by simp [Value.oneCell']) rfl rfl rfl rfl rfl rfl ?_
    refine HA_back (listed' := #[true, true, true, true, true, true, true, true, false]) rfl (fun _ hA => hA.keep (m := [nn, nn, nn, nn, nn, yy, yy, yy, yy]) (Y := [_, _, _, _]) rfl) ?_
    refine HA_loud1 (i := 8) (by kernel_rfl) rfl ?_
    refine HO_store (i := 4) (j := 0) (us := []) (old := [_, _, _, _, _]) (ts := []) (cs := [_, _, _, _, _]) (R := [_, _, _, _, _, _, _, _]) (new := [_, _, _, _, _]) rfl rfl rfl Try.sizeOf38 rfl (by simp [Value.oneCell']) rfl rfl rfl rfl rfl rfl ?_
    refine HA_back (listed' := #[true, true, true, true, true, true, true, true, true]) rfl (fun _ hA => hA.keep (m := [nn, nn, nn, nn, nn, yy, yy, yy, yy]) (Y := [_, _, _, _]) rfl) ?_
    refine HA_done (by kernel_rfl) ?_
    refine H_env (ρ' := [(3, _), (1, _), (2, _)]) ⟨rfl, rfl, rfl, trivial⟩ ?_
    refine H_world (fun _ hA => hA.keep (m := [yy, yy, yy, yy, yy, nn, nn, yy, yy]) (Y := [_, _, _, _, _, _, _]) rfl) ?_
    refine H_inv (fun a w hf hA => ⟨⟨g1, h1, g3, u1, y15⟩, ?_, hf.sub ?_, ?_⟩)
    ·trivial
    ·exact ⟨rfl, rfl, rfl, trivial⟩
    ·exact hA.only (is := [0, 1, 2, 3, 4, 0, 4]) (Z := []) rfl
  ·refine HO_call (first := []) (capt := []) (is := []) (R := [_, _, _, _, _]) rfl rfl rfl rfl rfl Try.call55 rfl (lput_spec _ _) ?_
   intro y14 hy14
   clear y14 hy14
   refine HA_back (listed' := #[false, true, false, false, false, false, false, false, false]) rfl (fun _ hA => hA.keep (m := [nn, yy, yy, yy, yy]) (Y := [_, _, _, _]) rfl) ?_
   refine HA_loud2 (i := 0) (j := 6) (by kernel_rfl) rfl rfl ?_ ?_
   ·refine HO_loadA (i := 0) (us := []) (cs := [_, _]) (ts := []) rfl rfl rfl Try.isAgg56 Try.sizeOf56 rfl (.loc _ _ _) rfl rfl rfl rfl ?_
    refine HA_back (listed' := #[true, true, false, false, false, false, false, false, false]) rfl (fun _ hA => hA.keep (m := [nn, yy, yy, yy, yy]) (Y := [_, _, _, _]) rfl) ?_
    refine HA_loud2 (i := 2) (j := 6) (by kernel_rfl) rfl rfl ?_ ?_
    ·refine HO_dup (i := 1) rfl rfl ?_
     refine HO_dup (i := 3) rfl rfl ?_
     refine HO_call (first := []) (capt := []) (is := [0, 0]) (R := [_, _, _, _, _]) rfl rfl rfl rfl rfl Try.call29 rfl (apply_spec _ _ _ _ _ _ _ _ _ _ _ _ _ _ _ ?_ ?_ ?_ ?_ ?_ ?_) ?_
     ·exact Mod.ex1_inv
     ·decide
     ·decide
     ·decide
     ·decide
     ·decide
     intro y15 hy15
     refine HA_back (listed' := #[true, true, true, false, false, false, false, false, false]) rfl (fun _ hA => hA.keep (m := [nn, nn, nn, nn, yy, yy, yy, yy]) (Y := [_, _, _, _]) rfl) ?_
     refine HA_take (i := 3) (listed' := #[true, true, true, true, false, false, false, false, false]) (bodyPost_pan _ _ _) rfl rfl rfl rfl (by kernel_rfl) rfl (V_move rfl) (fun _ hA => hA.keep (m := [nn, nn, nn, nn, yy, yy, yy, yy]) (Y := [_, _, _, _]) rfl) ?_
     refine HA_take (i := 4) (listed' := #[true, true, true, true, true, false, false, false, false]) (bodyPost_pan _ _ _) rfl rfl rfl rfl (by kernel_rfl) rfl (V_extract (vs := [_, _]) rfl rfl) (fun _ hA => hA.keep (m := [nn, nn, nn, nn, yy, yy, yy, yy]) (Y := [_, _, _, _]) rfl) ?_
     refine HA_take (i := 5) (listed' := #[true, true, true, true, true, true, false, false, false]) (bodyPost_pan _ _ _) rfl rfl rfl rfl (by kernel_rfl) rfl (V_extract (vs := [_, _]) rfl rfl) (fun _ hA => hA.keep (m := [nn, nn, nn, nn, yy, yy, yy, yy]) (Y := [_, _, _, _]) rfl) ?_
     refine HA_loud1 (i := 6) (by kernel_rfl) rfl ?_
     refine HO_alloc (cs := [_, _, _, _, _]) rfl rfl Try.zeroValue38 rfl ?_
     intro g3
     refine HA_back (listed' := #[true, true, true, true, true, true, true, false, false]) rfl (fun _ hA => hA.keep (m := [nn, nn, nn, nn, nn, yy, yy, yy, yy]) (Y := [_, _, _, _]) rfl) ?_
     refine HA_loud1 (i := 7) (by kernel_rfl) rfl ?_
     refine HO_store (i := 4) (j := 0) (us := []) (old := [_, _]) (ts := []) (cs := [_, _]) (R := [_, _, _, _, _, _, _, _]) (new := [_, _]) rfl rfl rfl Try.sizeOf56 rfl (by simp [Value.oneCell']) rfl rfl rfl rfl rfl rfl ?_
     refine HA_back (listed' := #[true, true, true, true, true, true, true, true, false]) rfl (fun _ hA => hA.keep (m := [nn, nn, nn, nn, nn, yy, yy, yy, yy]) (Y := [_, _, _, _]) rfl) ?_
     refine HA_loud1 (i := 8) (by kernel_rfl) rfl ?_
     refine HO_store (i := 1) (j := 0) (us := []) (old := [_, _, _, _, _]) (ts := []) (cs := [_, _, _, _, _]) (R := [_, _, _, _, _, _, _, _]) (new := [_, _, _, _, _]) rfl rfl rfl Try.sizeOf38 rfl (by simp [Value.oneCell']) rfl rfl rfl rfl rfl rfl ?_
     refine HA_back (listed' := #[true, true, true, true, true, true, true, true, true]) rfl (fun _ hA => hA.keep (m := [nn, nn, nn, nn, nn, yy, yy, yy, yy]) (Y := [_, _, _, _]) rfl) ?_
     refine HA_done (by kernel_rfl) ?_
     refine H_env (ρ' := [(3, _), (1, _), (2, _)]) ⟨rfl, rfl, rfl, trivial⟩ ?_
     refine H_world (fun _ hA => hA.keep (m := [yy, yy, yy, yy, yy, nn, nn, yy, yy]) (Y := [_, _, _, _, _, _, _]) rfl) ?_
     refine H_inv (fun a w hf hA => ⟨⟨g1, h1, g3, u1, y15⟩, ?_, hf.sub ?_, ?_⟩)
     ·trivial
     ·exact ⟨rfl, rfl, rfl, trivial⟩
     ·exact hA.only (is := [0, 1, 2, 3, 4, 0, 4]) (Z := []) rfl
    ·refine HO_alloc (cs := [_, _, _, _, _]) rfl rfl Try.zeroValue38 rfl ?_
     intro g3
     refine HA_back (listed' := #[true, true, false, false, false, false, true, false, false]) rfl (fun _ hA => hA.keep (m := [nn, nn, yy, yy, yy, yy]) (Y := [_, _, _, _]) rfl) ?_
     refine HA_loud1 (i := 2) (by kernel_rfl) rfl ?_
     refine HO_dup (i := 2) rfl rfl ?_
     refine HO_dup (i := 4) rfl rfl ?_
     refine HO_call (first := []) (capt := []) (is := [0, 0]) (R := [_, _, _, _, _, _]) rfl rfl rfl rfl rfl Try.call29 rfl (apply_spec _ _ _ _ _ _ _ _ _ _ _ _ _ _ _ ?_ ?_ ?_ ?_ ?_ ?_) ?_
     ·exact Mod.ex1_inv
     ·decide
     ·decide
     ·decide
     ·decide
     ·decide
     intro y15 hy15
     refine HA_back (listed' := #[true, true, true, false, false, false, true, false, false]) rfl (fun _ hA => hA.keep (m := [nn, nn, nn, nn, nn, yy, yy, yy, yy]) (Y := [_, _, _, _]) rfl) ?_
     refine HA_take (i := 3) (listed' := #[true, true, true, true, false, false, true, false, false]) (bodyPost_pan _ _ _) rfl rfl rfl rfl (by kernel_rfl) rfl (V_move rfl) (fun _ hA => hA.keep (m := [nn, nn, nn, nn, nn, yy, yy, yy, yy]) (Y := [_, _, _, _]) rfl) ?_
     refine HA_take (i := 4) (listed' := #[true, true, true, true, true, false, true, false, false]) (bodyPost_pan _ _ _) rfl rfl rfl rfl (by kernel_rfl) rfl (V_extract (vs := [_, _]) rfl rfl) (fun _ hA => hA.keep (m := [nn, nn, nn, nn, nn, yy, yy, yy, yy]) (Y := [_, _, _, _]) rfl) ?_
     refine HA_take (i := 5) (listed' := #[true, true, true, true, true, true, true, false, false]) (bodyPost_pan _ _ _) rfl rfl rfl rfl (by kernel_rfl) rfl (V_extract (vs := [_, _]) rfl rfl) (fun _ hA => hA.keep (m := [nn, nn, nn, nn, nn, yy, yy, yy, yy]) (Y := [_, _, _, _]) rfl) ?_
     refine HA_loud1 (i := 7) (by kernel_rfl) rfl ?_
     refine HO_store (i := 4) (j := 0) (us := []) (old := [_, _]) (ts := []) (cs := [_, _]) (R := [_, _, _, _, _, _, _, _]) (new := [_, _]) rfl rfl rfl Try.sizeOf56 rfl (by simp [Value.oneCell']) rfl rfl rfl rfl rfl rfl ?_
     refine HA_back (listed' := #[true, true, true, true, true, true, true, true, false]) rfl (fun _ hA => hA.keep (m := [nn, nn, nn, nn, nn, yy, yy, yy, yy]) (Y := [_, _, _, _]) rfl) ?_
     refine HA_loud1 (i := 8) (by kernel_rfl) rfl ?_
     refine HO_store (i := 4) (j := 0) (us := []) (old := [_, _, _, _, _]) (ts := []) (cs := [_, _, _, _, _]) (R := [_, _, _, _, _, _, _, _]) (new := [_, _, _, _, _]) rfl rfl rfl Try.sizeOf38 rfl (by simp [Value.oneCell']) rfl rfl rfl rfl rfl rfl ?_
     refine HA_back (listed' := #[true, true, true, true, true, true, true, true, true]) rfl (fun _ hA => hA.keep (m := [nn, nn, nn, nn, nn, yy, yy, yy, yy]) (Y := [_, _, _, _]) rfl) ?_
     refine HA_done (by kernel_rfl) ?_
     refine H_env (ρ' := [(3, _), (1, _), (2, _)]) ⟨rfl, rfl, rfl, trivial⟩ ?_
     refine H_world (fun _ hA => hA.keep (m := [yy, yy, yy, yy, yy, nn, nn, yy, yy]) (Y := [_, _, _, _, _, _, _]) rfl) ?_
     refine H_inv (fun a w hf hA => ⟨⟨g1, h1, g3, u1, y15⟩, ?_, hf.sub ?_, ?_⟩)
     ·trivial
     ·exact ⟨rfl, rfl, rfl, trivial⟩
     ·exact hA.only (is := [0, 1, 2, 3, 4, 0, 4]) (Z := []) rfl
   ·refine HO_alloc (cs := [_, _, _, _, _]) rfl rfl Try.zeroValue38 rfl ?_
    intro g3
    refine HA_back (listed' := #[false, true, false, false, false, false, true, false, false]) rfl (fun _ hA => hA.keep (m := [nn, nn, yy, yy, yy, yy]) (Y := [_, _, _, _]) rfl) ?_
    refine HA_loud1 (i := 0) (by kernel_rfl) rfl ?_
    refine HO_loadA (i := 1) (us := []) (cs := [_, _]) (ts := []) rfl rfl rfl Try.isAgg56 Try.sizeOf56 rfl (.loc _ _ _) rfl rfl rfl rfl ?_
    refine HA_back (listed' := #[true, true, false, false, false, false, true, false, false]) rfl (fun _ hA => hA.keep (m := [nn, nn, yy, yy, yy, yy]) (Y := [_, _, _, _]) rfl) ?_
    refine HA_loud1 (i := 2) (by kernel_rfl) rfl ?_
    refine HO_dup (i := 2) rfl rfl ?_
    refine HO_dup (i := 4) rfl rfl ?_
    refine HO_call (first := []) (capt := []) (is := [0, 0]) (R := [_, _, _, _, _, _]) rfl rfl rfl rfl rfl Try.call29 rfl (apply_spec _ _ _ _ _ _ _ _ _ _ _ _ _ _ _ ?_ ?_ ?_ ?_ ?_ ?_) ?_
    ·exact Mod.ex1_inv
    ·decide
    ·decide
    ·decide
    ·decide
    ·decide
    intro y15 hy15
    refine HA_back (listed' := #[true, true, true, false, false, false, true, false, false]) rfl (fun _ hA => hA.keep (m := [nn, nn, nn, nn, nn, yy, yy, yy, yy]) (Y := [_, _, _, _]) rfl) ?_
    refine HA_take (i := 3) (listed' := #[true, true, true, true, false, false, true, false, false]) (bodyPost_pan _ _ _) rfl rfl rfl rfl (by kernel_rfl) rfl (V_move rfl) (fun _ hA => hA.keep (m := [nn, nn, nn, nn, nn, yy, yy, yy, yy]) (Y := [_, _, _, _]) rfl) ?_
    refine HA_take (i := 4) (listed' := #[true, true, true, true, true, false, true, false, false]) (bodyPost_pan _ _ _) rfl rfl rfl rfl (by kernel_rfl) rfl (V_extract (vs := [_, _]) rfl rfl) (fun _ hA => hA.keep (m := [nn, nn, nn, nn, nn, yy, yy, yy, yy]) (Y := [_, _, _, _]) rfl) ?_
    refine HA_take (i := 5) (listed' := #[true, true, true, true, true, true, true, false, false]) (bodyPost_pan _ _ _) rfl rfl rfl rfl (by kernel_rfl) rfl (V_extract (vs := [_, _]) rfl rfl) (fun _ hA => hA.keep (m := [nn, nn, nn, nn, nn, yy, yy, yy, yy]) (Y := [_, _, _, _]) rfl) ?_
    refine HA_loud1 (i := 7) (by kernel_rfl) rfl ?_
    refine HO_store (i := 4) (j := 0) (us := []) (old := [_, _]) (ts := []) (cs := [_, _]) (R := [_, _, _, _, _, _, _, _]) (new := [_, _]) rfl rfl rfl Try.sizeOf56 rfl (by simp [Value.oneCell']) rfl rfl rfl rfl rfl rfl ?_
    refine HA_back (listed' := #[true, true, true, true, true, true, true, true, false]) rfl (fun _ hA => hA.keep (m := [nn, nn, nn, nn, nn, yy, yy, yy, yy]) (Y := [_, _, _, _]) rfl) ?_
    refine HA_loud1 (i := 8) (by kernel_rfl) rfl ?_
    refine HO_store (i := 4) (j := 0) (us := []) (old := [_, _, _, _, _]) (ts := []) (cs := [_, _, _, _, _]) (R := [_, _, _, _, _, _, _, _]) (new := [_, _, _, _, _]) rfl rfl rfl Try.sizeOf38 rfl (by simp [Value.oneCell']) rfl rfl rfl rfl rfl rfl ?_
    refine HA_back (listed' := #[true, true, true, true, true, true, true, true, true]) rfl (fun _ hA => hA.keep (m := [nn, nn, nn, nn, nn, yy, yy, yy, yy]) (Y := [_, _, _, _]) rfl) ?_
    refine HA_done (by kernel_rfl) ?_
    refine H_env (ρ' := [(3, _), (1, _), (2, _)]) ⟨rfl, rfl, rfl, trivial⟩ ?_
    refine H_world (fun _ hA => hA.keep (m := [yy, yy, yy, yy, yy, nn, nn, yy, yy]) (Y := [_, _, _, _, _, _, _]) rfl) ?_
    refine H_inv (fun a w hf hA => ⟨⟨g1, h1, g3, u1, y15⟩, ?_, hf.sub ?_, ?_⟩)
    ·trivial
    ·exact ⟨rfl, rfl, rfl, trivial⟩
    ·exact hA.only (is := [0, 1, 2, 3, 4, 0, 4]) (Z := []) rfl
  ·refine HO_alloc (cs := [_, _, _, _, _]) rfl rfl Try.zeroValue38 rfl ?_
   intro g3
   refine HA_back (listed' := #[false, false, false, false, false, false, true, false, false]) rfl (fun _ hA => hA.keep (m := [nn, nn, yy, yy, yy, yy]) (Y := [_, _, _, _]) rfl) ?_
   refine HA_loud2 (i := 0) (j := 1) (by kernel_rfl) rfl rfl ?_ ?_
   ·refine HO_loadA (i := 1) (us := []) (cs := [_, _]) (ts := []) rfl rfl rfl Try.isAgg56 Try.sizeOf56 rfl (.loc _ _ _) rfl rfl rfl rfl ?_
    refine HA_back (listed' := #[true, false, false, false, false, false, true, false, false]) rfl (fun _ hA => hA.keep (m := [nn, nn, yy, yy, yy, yy]) (Y := [_, _, _, _]) rfl) ?_
    refine HA_loud1 (i := 1) (by kernel_rfl) rfl ?_
    refine HO_call (first := []) (capt := []) (is := []) (R := [_, _, _, _, _, _]) rfl rfl rfl rfl rfl Try.call55 rfl (lput_spec _ _) ?_
    intro y14 hy14
    clear y14 hy14
    refine HA_back (listed' := #[true, true, false, false, false, false, true, false, false]) rfl (fun _ hA => hA.keep (m := [nn, nn, yy, yy, yy, yy]) (Y := [_, _, _, _]) rfl) ?_
    refine HA_loud1 (i := 2) (by kernel_rfl) rfl ?_
    refine HO_dup (i := 2) rfl rfl ?_
    refine HO_dup (i := 4) rfl rfl ?_
    refine HO_call (first := []) (capt := []) (is := [0, 0]) (R := [_, _, _, _, _, _]) rfl rfl rfl rfl rfl Try.call29 rfl (apply_spec _ _ _ _ _ _ _ _ _ _ _ _ _ _ _ ?_ ?_ ?_ ?_ ?_ ?_) ?_
    ·exact Mod.ex1_inv
    ·decide
    ·decide
    ·decide
    ·decide
    ·decide
    intro y15 hy15
    refine HA_back (listed' := #[true, true, true, false, false, false, true, false, false]) rfl (fun _ hA => hA.keep (m := [nn, nn, nn, nn, nn, yy, yy, yy, yy]) (Y := [_, _, _, _]) rfl) ?_
    refine HA_take (i := 3) (listed' := #[true, true, true, true, false, false, true, false, false]) (bodyPost_pan _ _ _) rfl rfl rfl rfl (by kernel_rfl) rfl (V_move rfl) (fun _ hA => hA.keep (m := [nn, nn, nn, nn, nn, yy, yy, yy, yy]) (Y := [_, _, _, _]) rfl) ?_
    refine HA_take (i := 4) (listed' := #[true, true, true, true, true, false, true, false, false]) (bodyPost_pan _ _ _) rfl rfl rfl rfl (by kernel_rfl) rfl (V_extract (vs := [_, _]) rfl rfl) (fun _ hA => hA.keep (m := [nn, nn, nn, nn, nn, yy, yy, yy, yy]) (Y := [_, _, _, _]) rfl) ?_
    refine HA_take (i := 5) (listed' := #[true, true, true, true, true, true, true, false, false]) (bodyPost_pan _ _ _) rfl rfl rfl rfl (by kernel_rfl) rfl (V_extract (vs := [_, _]) rfl rfl) (fun _ hA => hA.keep (m := [nn, nn, nn, nn, nn, yy, yy, yy, yy]) (Y := [_, _, _, _]) rfl) ?_
    refine HA_loud1 (i := 7) (by kernel_rfl) rfl ?_
    refine HO_store (i := 4) (j := 0) (us := []) (old := [_, _]) (ts := []) (cs := [_, _]) (R := [_, _, _, _, _, _, _, _]) (new := [_, _]) rfl rfl rfl Try.sizeOf56 rfl (by simp [Value.oneCell']) rfl rfl rfl rfl rfl rfl ?_
    refine HA_back (listed' := #[true, true, true, true, true, true, true, true, false]) rfl (fun _ hA => hA.keep (m := [nn, nn, nn, nn, nn, yy, yy, yy, yy]) (Y := [_, _, _, _]) rfl) ?_
    refine HA_loud1 (i := 8) (by kernel_rfl) rfl ?_
    refine HO_store (i := 4) (j := 0) (us := []) (old := [_, _, _, _, _]) (ts := []) (cs := [_, _, _, _, _]) (R := [_, _, _, _, _, _, _, _]) (new := [_, _, _, _, _]) rfl rfl rfl Try.sizeOf38 rfl (by simp [Value.oneCell']) rfl rfl rfl rfl rfl rfl ?_
    refine HA_back (listed' := #[true, true, true, true, true, true, true, true, true]) rfl (fun _ hA => hA.keep (m := [nn, nn, nn, nn, nn, yy, yy, yy, yy]) (Y := [_, _, _, _]) rfl) ?_
    refine HA_done (by kernel_rfl) ?_
    refine H_env (ρ' := [(3, _), (1, _), (2, _)]) ⟨rfl, rfl, rfl, trivial⟩ ?_
    refine H_world (fun _ hA => hA.keep (m := [yy, yy, yy, yy, yy, nn, nn, yy, yy]) (Y := [_, _, _, _, _, _, _]) rfl) ?_
    refine H_inv (fun a w hf hA => ⟨⟨g1, h1, g3, u1, y15⟩, ?_, hf.sub ?_, ?_⟩)
    ·trivial
    ·exact ⟨rfl, rfl, rfl, trivial⟩
    ·exact hA.only (is := [0, 1, 2, 3, 4, 0, 4]) (Z := []) rfl
   ·refine HO_call (first := []) (capt := []) (is := []) (R := [_, _, _, _, _, _]) rfl rfl rfl rfl rfl Try.call55 rfl (lput_spec _ _) ?_
    intro y14 hy14
    clear y14 hy14
    refine HA_back (listed' := #[false, true, false, false, false, false, true, false, false]) rfl (fun _ hA => hA.keep (m := [nn, nn, yy, yy, yy, yy]) (Y := [_, _, _, _]) rfl) ?_
    refine HA_loud1 (i := 0) (by kernel_rfl) rfl ?_
    refine HO_loadA (i := 1) (us := []) (cs := [_, _]) (ts := []) rfl rfl rfl Try.isAgg56 Try.sizeOf56 rfl (.loc _ _ _) rfl rfl rfl rfl ?_
    refine HA_back (listed' := #[true, true, false, false, false, false, true, false, false]) rfl (fun _ hA => hA.keep (m := [nn, nn, yy, yy, yy, yy]) (Y := [_, _, _, _]) rfl) ?_
    refine HA_loud1 (i := 2) (by kernel_rfl) rfl ?_
    refine HO_dup (i := 2) rfl rfl ?_
    refine HO_dup (i := 4) rfl rfl ?_
    refine HO_call (first := []) (capt := []) (is := [0, 0]) (R := [_, _, _, _, _, _]) rfl rfl rfl rfl rfl Try.call29 rfl (apply_spec _ _ _ _ _ _ _ _ _ _ _ _ _ _ _ ?_ ?_ ?_ ?_ ?_ ?_) ?_
    ·exact Mod.ex1_inv
    ·decide
    ·decide
    ·decide
    ·decide
    ·decide
    intro y15 hy15
    refine HA_back (listed' := #[true, true, true, false, false, false, true, false, false]) rfl (fun _ hA => hA.keep (m := [nn, nn, nn, nn, nn, yy, yy, yy, yy]) (Y := [_, _, _, _]) rfl) ?_
    refine HA_take (i := 3) (listed' := #[true, true, true, true, false, false, true, false, false]) (bodyPost_pan _ _ _) rfl rfl rfl rfl (by kernel_rfl) rfl (V_move rfl) (fun _ hA => hA.keep (m := [nn, nn, nn, nn, nn, yy, yy, yy, yy]) (Y := [_, _, _, _]) rfl) ?_
    refine HA_take (i := 4) (listed' := #[true, true, true, true, true, false, true, false, false]) (bodyPost_pan _ _ _) rfl rfl rfl rfl (by kernel_rfl) rfl (V_extract (vs := [_, _]) rfl rfl) (fun _ hA => hA.keep (m := [nn, nn, nn, nn, nn, yy, yy, yy, yy]) (Y := [_, _, _, _]) rfl) ?_
    refine HA_take (i := 5) (listed' := #[true, true, true, true, true, true, true, false, false]) (bodyPost_pan _ _ _) rfl rfl rfl rfl (by kernel_rfl) rfl (V_extract (vs := [_, _]) rfl rfl) (fun _ hA => hA.keep (m := [nn, nn, nn, nn, nn, yy, yy, yy, yy]) (Y := [_, _, _, _]) rfl) ?_
    refine HA_loud1 (i := 7) (by kernel_rfl) rfl ?_
    refine HO_store (i := 4) (j := 0) (us := []) (old := [_, _]) (ts := []) (cs := [_, _]) (R := [_, _, _, _, _, _, _, _]) (new := [_, _]) rfl rfl rfl Try.sizeOf56 rfl (by simp [Value.oneCell']) rfl rfl rfl rfl rfl rfl ?_
    refine HA_back (listed' := #[true, true, true, true, true, true, true, true, false]) rfl (fun _ hA => hA.keep (m := [nn, nn, nn, nn, nn, yy, yy, yy, yy]) (Y := [_, _, _, _]) rfl) ?_
    refine HA_loud1 (i := 8) (by kernel_rfl) rfl ?_
    refine HO_store (i := 4) (j := 0) (us := []) (old := [_, _, _, _, _]) (ts := []) (cs := [_, _, _, _, _]) (R := [_, _, _, _, _, _, _, _]) (new := [_, _, _, _, _]) rfl rfl rfl Try.sizeOf38 rfl (by simp [Value.oneCell']) rfl rfl rfl rfl rfl rfl ?_
    refine HA_back (listed' := #[true, true, true, true, true, true, true, true, true]) rfl (fun _ hA => hA.keep (m := [nn, nn, nn, nn, nn, yy, yy, yy, yy]) (Y := [_, _, _, _]) rfl) ?_
    refine HA_done (by kernel_rfl) ?_
    refine H_env (ρ' := [(3, _), (1, _), (2, _)]) ⟨rfl, rfl, rfl, trivial⟩ ?_
    refine H_world (fun _ hA => hA.keep (m := [yy, yy, yy, yy, yy, nn, nn, yy, yy]) (Y := [_, _, _, _, _, _, _]) rfl) ?_
    refine H_inv (fun a w hf hA => ⟨⟨g1, h1, g3, u1, y15⟩, ?_, hf.sub ?_, ?_⟩)
    ·trivial
    ·exact ⟨rfl, rfl, rfl, trivial⟩
    ·exact hA.only (is := [0, 1, 2, 3, 4, 0, 4]) (Z := []) rfl
 rintro ⟨g1, h1, h2, u1, u2⟩ hJ
 (try dsimp only at hJ ⊢)
 refine H_seq ?_
 refine H_meetE (σ := Nat × Nat × Nat × Nat × ((Option Addr × Nat) × (Option Addr × Nat) × (Option Addr × Nat)) × ((Option Addr × Nat) × (Option Addr × Nat) × (Option Addr × Nat)) × ((Option Addr × Nat) × (Option Addr × Nat) × (Option Addr × Nat))) _ (fun s => True) (fun s => [(1, .pointer (some ⟨s.1, 0, none⟩)), (2, .pointer (some ⟨s.2.1, 0, none⟩)), (3, .pointer (some ⟨s.2.2.1, 0, none⟩)), (4, .pointer (some ⟨s.2.2.2.1, 0, none⟩))]) (fun s => Asn w0 ok0 M0 [.loc s.1 [.slice s.2.2.2.2.2.2.1.1 (Mod.ex3.1.length) s.2.2.2.2.2.2.1.2, .slice s.2.2.2.2.2.2.2.1.1 (Mod.ex3.2.1.length) s.2.2.2.2.2.2.2.1.2] 56, .dat kPair.sl (Mod.ex3.1) [.slice s.2.2.2.2.2.2.1.1 (Mod.ex3.1.length) s.2.2.2.2.2.2.1.2], .dat kSess.sl (Mod.ex3.2.1) [.slice s.2.2.2.2.2.2.2.1.1 (Mod.ex3.2.1.length) s.2.2.2.2.2.2.2.1.2], .loc s.2.1 [.int .i64 (Mod.ex1.2.2.err), .bool (Mod.ex1.2.2.found), .string (Mod.ex1.2.2.val), .int .i64 (Mod.ex1.2.2.sess), .slice s.2.2.2.2.1.2.2.1 (Mod.ex1.2.2.pairs.length) s.2.2.2.2.1.2.2.2] 38, .dat kPair.sl (Mod.ex1.2.2.pairs) [.slice s.2.2.2.2.1.2.2.1 (Mod.ex1.2.2.pairs.length) s.2.2.2.2.1.2.2.2], .loc s.2.2.1 [.int .i64 (Mod.ex2.2.2.err), .bool (Mod.ex2.2.2.found), .string (Mod.ex2.2.2.val), .int .i64 (Mod.ex2.2.2.sess), .slice s.2.2.2.2.2.1.2.2.1 (Mod.ex2.2.2.pairs.length) s.2.2.2.2.2.1.2.2.2] 38, .dat kPair.sl (Mod.ex2.2.2.pairs) [.slice s.2.2.2.2.2.1.2.2.1 (Mod.ex2.2.2.pairs.length) s.2.2.2.2.2.1.2.2.2], .loc s.2.2.2.1 [.int .i64 (Mod.ex3.2.2.err), .bool (Mod.ex3.2.2.found), .string (Mod.ex3.2.2.val), .int .i64 (Mod.ex3.2.2.sess), .slice s.2.2.2.2.2.2.2.2.1 (Mod.ex3.2.2.pairs.length) s.2.2.2.2.2.2.2.2.2] 38, .dat kPair.sl (Mod.ex3.2.2.pairs) [.slice s.2.2.2.2.2.2.2.2.1 (Mod.ex3.2.2.pairs.length) s.2.2.2.2.2.2.2.2.2]]) ?_ ?_
 ·skip
  refine H_drawB (m := [nn, yy, yy, yy, yy, yy, yy]) (Xs := [_, _, _, _, _, _]) (fuel := 9) (l := #[false, false, false, false, false, false, false, false, false]) mixed rfl rfl rfl ?_
  refine HA_loud3 (i := 0) (j := 1) (m := 6) (by kernel_rfl) rfl rfl rfl ?_ ?_ ?_
  ·refine HO_loadA (i := 0) (us := []) (cs := [_, _]) (ts := []) rfl rfl rfl Try.isAgg56 Try.sizeOf56 rfl (.loc _ _ _) rfl rfl rfl rfl ?_
   refine HA_back (listed' := #[true, false, false, false, false, false, false, false, false]) rfl (fun _ hA => hA.keep (m := [nn, yy, yy, yy, yy, yy, yy]) (Y := [_, _, _, _, _, _]) rfl) ?_
   refine HA_loud2 (i := 1) (j := 6) (by kernel_rfl) rfl rfl ?_ ?_
   ·refine HO_call (first := []) (capt := []) (is := []) (R := [_, _, _, _, _, _, _]) rfl rfl rfl rfl rfl Try.call55 rfl (lput_spec _ _) ?_
    intro y20 hy20
    clear y20 hy20
    refine HA_back (listed' := #[true, true, false, false, false, false, false, false, false]) rfl (fun _ hA => hA.keep (m := [nn, yy, yy, yy, yy, yy, yy]) (Y := [_, _, _, _, _, _]) rfl) ?_
    refine HA_loud2 (i := 2) (j := 6) (by kernel_rfl) rfl rfl ?_ ?_
    ·refine HO_dup (i := 1) rfl rfl ?_
     refine HO_dup (i := 3) rfl rfl ?_
     refine HO_call (first := []) (capt := []) (is := [0, 0]) (R := [_, _, _, _, _, _, _]) rfl rfl rfl rfl rfl Try.call29 rfl (apply_spec _ _ _ _ _ _ _ _ _ _ _ _ _ _ _ ?_ ?_ ?_ ?_ ?_ ?_) ?_
     ·exact Mod.ex2_inv
     ·decide
     ·decide
     ·decide
     ·decide
     ·decide
     intro y21 hy21
     refine HA_back (listed' := #[true, true, true, false, false, false, false, false, false]) rfl (fun _ hA => hA.keep (m := [nn, nn, nn, nn, yy, yy, yy, yy, yy, yy]) (Y := [_, _, _, _, _, _]) rfl) ?_
     refine HA_take (i := 3) (listed' := #[true, true, true, true, false, false, false, false, false]) (bodyPost_pan _ _ _) rfl rfl rfl rfl (by kernel_rfl) rfl (V_move rfl) (fun _ hA => hA.keep (m := [nn, nn, nn, nn, yy, yy, yy, yy, yy, yy]) (Y := [_, _, _, _, _, _]) rfl) ?_
     refine HA_take (i := 4) (listed' := #[true, true, true, true, true, false, false, false, false]) (bodyPost_pan _ _ _) rfl rfl rfl rfl (by kernel_rfl) rfl (V_extract (vs := [_, _]) rfl rfl) (fun _ hA => hA.keep (m := [nn, nn, nn, nn, yy, yy, yy, yy, yy, yy]) (Y := [_, _, _, _, _, _]) rfl) ?_
     refine HA_take (i := 5) (listed' := #[true, true, true, true, true, true, false, false, false]) (bodyPost_pan _ _ _) rfl rfl rfl rfl (by kernel_rfl) rfl (V_extract (vs := [_, _]) rfl rfl) (fun _ hA => hA.keep (m := [nn, nn, nn, nn, yy, yy, yy, yy, yy, yy]) (Y := [_, _, _, _, _, _]) rfl) ?_
     refine HA_loud1 (i := 6) (by kernel_rfl) rfl ?_
     refine HO_alloc (cs := [_, _, _, _, _]) rfl rfl Try.zeroValue38 rfl ?_
     intro g4
     refine HA_back (listed' := #[true, true, true, true, true, true, true, false, false]) rfl (fun _ hA => hA.keep (m := [nn, nn, nn, nn, nn, yy, yy, yy, yy, yy, yy]) (Y := [_, _, _, _, _, _]) rfl) ?_
     refine HA_loud1 (i := 7) (by kernel_rfl) rfl ?_
     refine HO_store (i := 4) (j := 0) (us := []) (old := [_, _]) (ts := []) (cs := [_, _]) (R := [_, _, _, _, _, _, _, _, _, _]) (new := [_, _]) rfl rfl rfl Try.sizeOf56 rfl (by simp [Value.oneCell']) rfl rfl rfl rfl rfl rfl ?_
     refine HA_back (listed' := #[true, true, true, true, true, true, true, true, false]) rfl (fun _ hA => hA.keep (m := [nn, nn, nn, nn, nn, yy, yy, yy, yy, yy, yy]) (Y := [_, _, _, _, _, _]) rfl) ?_
     refine HA_loud1 (i := 8) (by kernel_rfl) rfl ?_
     refine HO_store (i := 1) (j := 0) (us := []) (old := [_, _, _, _, _]) (ts := []) (cs := [_, _, _, _, _]) (R := [_, _, _, _, _, _, _, _, _, _]) (new := [_, _, _, _, _]) rfl rfl rfl Try.sizeOf38 rfl (by simp [Value.oneCell']) rfl rfl rfl rfl rfl rfl ?_
     refine HA_back (listed' := #[true, true, true, true, true, true, true, true, true]) rfl (fun _ hA => hA.keep (m := [nn, nn, nn, nn, nn, yy, yy, yy, yy, yy, yy]) (Y := [_, _, _, _, _, _]) rfl) ?_
     refine HA_done (by kernel_rfl) ?_
     refine H_env (ρ' := [(4, _), (1, _), (2, _), (3, _)]) ⟨rfl, rfl, rfl, rfl, trivial⟩ ?_
     refine H_world (fun _ hA => hA.keep (m := [yy, yy, yy, yy, yy, nn, nn, yy, yy, yy, yy]) (Y := [_, _, _, _, _, _, _, _, _]) rfl) ?_
     refine H_inv (fun a w hf hA => ⟨⟨g1, h1, h2, g4, u1, u2, y21⟩, ?_, hf.sub ?_, ?_⟩)
     ·trivial
     ·exact ⟨rfl, rfl, rfl, rfl, trivial⟩
     ·exact hA.only (is := [0, 1, 2, 3, 4, 5, 6, 0, 4]) (Z := []) rfl
    ·refine HO_alloc (cs := [_, _, _, _, _]) rfl rfl Try.zeroValue38 rfl ?_
     intro g4
     refine HA_back (listed' := #[true, true, false, false, false, false, true, false, false]) rfl (fun _ hA => hA.keep (m := [nn, nn, yy, yy, yy, yy, yy, yy]) (Y := [_, _, _, _, _, _]) rfl) ?_
     refine HA_loud1 (i := 2) (by kernel_rfl) rfl ?_
     refine HO_dup (i := 2) rfl rfl ?_
     refine HO_dup (i := 4) rfl rfl ?_
     refine HO_call (first := []) (capt := []) (is := [0, 0]) (R := [_, _, _, _, _, _, _, _]) rfl rfl rfl rfl rfl Try.call29 rfl (apply_spec _ _ _ _ _ _ _ _ _ _ _ _ _ _ _ ?_ ?_ ?_ ?_ ?_ ?_) ?_
     ·exact Mod.ex2_inv
     ·decide
     ·decide
     ·decide
     ·decide
     ·decide
     intro y21 hy21
     refine HA_back (listed' := #[true, true, true, false, false, false, true, false, false]) rfl (fun _ hA => hA.keep (m := [nn, nn, nn, nn, nn, yy, yy, yy, yy, yy, yy]) (Y := [_, _, _, _, _, _]) rfl) ?_
     refine HA_take (i := 3) (listed' := #[true, true, true, true, false, false, true, false, false]) (bodyPost_pan _ _ _) rfl rfl rfl rfl (by kernel_rfl) rfl (V_move rfl) (fun _ hA => hA.keep (m := [nn, nn, nn, nn, nn, yy, yy, yy, yy, yy, yy]) (Y := [_, _, _, _, _, _]) rfl) ?_
     refine HA_take (i := 4) (listed' := #[true, true, true, true, true, false, true, false, false]) (bodyPost_pan _ _ _) rfl rfl rfl rfl (by kernel_rfl) rfl (V_extract (vs := [_, _]) rfl rfl) (fun _ hA => hA.keep (m := [nn, nn, nn, nn, nn, yy, yy, yy, yy, yy, yy]) (Y := [_, _, _, _, _, _]) rfl) ?_
     refine HA_take (i := 5) (listed' := #[true, true, true, true, true, true, true, false, false]) (bodyPost_pan _ _ _) rfl rfl rfl rfl (by kernel_rfl) rfl (V_extract (vs := [_, _]) rfl rfl) (fun _ hA => hA.keep (m := [nn, nn, nn, nn, nn, yy, yy, yy, yy, yy, yy]) (Y := [_, _, _, _, _, _]) rfl) ?_
     refine HA_loud1 (i := 7) (by kernel_rfl) rfl ?_
     refine HO_store (i := 4) (j := 0) (us := []) (old := [_, _]) (ts := []) (cs := [_, _]) (R := [_, _, _, _, _, _, _, _, _, _]) (new := [_, _]) rfl rfl rfl Try.sizeOf56 rfl (by simp [Value.oneCell']) rfl rfl rfl rfl rfl rfl ?_
     refine HA_back (listed' := #[true, true, true, true, true, true, true, true, false]) rfl (fun _ hA => hA.keep (m := [nn, nn, nn, nn, nn, yy, yy, yy, yy, yy, yy]) (Y := [_, _, _, _, _, _]) rfl) ?_
     refine HA_loud1 (i := 8) (by kernel_rfl) rfl ?_
     refine HO_store (i := 4) (j := 0) (us := []) (old := [_, _, _, _, _]) (ts := []) (cs := [_, _, _, _, _]) (R := [_, _, _, _, _, _, _, _, _, _]) (new := [_, _, _, _, _]) rfl rfl rfl Try.sizeOf38 rfl (by simp [Value.oneCell']) rfl rfl rfl rfl rfl rfl ?_
     refine HA_back (listed' := #[true, true, true, true, true, true, true, true, true]) rfl (fun _ hA => hA.keep (m := [nn, nn, nn, nn, nn, yy, yy, yy, yy, yy, yy]) (Y := [_, _, _, _, _, _]) rfl) ?_
     refine HA_done (by kernel_rfl) ?_
     refine H_env (ρ' := [(4, _), (1, _), (2, _), (3, _)]) ⟨rfl, rfl, rfl, rfl, trivial⟩ ?_
     refine H_world (fun _ hA => hA.keep (m := [yy, yy, yy, yy, yy, nn, nn, yy, yy, yy, yy]) (Y := [_, _, _, _, _, _, _, _, _]) rfl) ?_
     refine H_inv (fun a w hf hA => ⟨⟨g1, h1, h2, g4, u1, u2, y21⟩, ?_, hf.sub ?_, ?_⟩)
     ·trivial
     ·exact ⟨rfl, rfl, rfl, rfl, trivial⟩
     ·exact hA.only (is := [0, 1, 2, 3, 4, 5, 6, 0, 4]) (Z := []) rfl
   ·refine HO_alloc (cs := [_, _, _, _, _]) rfl rfl Try.zeroValue38 rfl ?_
    intro g4
    refine HA_back (listed' := #[true, false, false, false, false, false, true, false, false]) rfl (fun _ hA => hA.keep (m := [nn, nn, yy, yy, yy, yy, yy, yy]) (Y := [_, _, _, _, _, _]) rfl) ?_
    refine HA_loud1 (i := 1) (by kernel_rfl) rfl ?_
    refine HO_call (first := []) (capt := []) (is := []) (R := [_, _, _, _, _, _, _, _]) rfl rfl rfl rfl rfl Try.call55 rfl (lput_spec _ _) ?_
    intro y20 hy20
    clear y20 hy20
    refine HA_back (listed' := #[true, true, false, false, false, false, true, false, false]) rfl (fun _ hA => hA.keep (m := [nn, nn, yy, yy, yy, yy, yy, yy]) (Y := [_, _, _, _, _, _]) rfl) ?_
    refine HA_loud1 (i := 2) (by kernel_rfl) rfl ?_
    refine HO_dup (i := 2) rfl rfl ?_
    refine HO_dup (i := 4) rfl rfl ?_
    refine HO_call (first := []) (capt := []) (is := [0, 0]) (R := [_, _, _, _, _, _, _, _]) rfl rfl rfl rfl rfl Try.call29 rfl (apply_spec _ _ _ _ _ _ _ _ _ _ _ _ _ _ _ ?_ ?_ ?_ ?_ ?_ ?_) ?_
    ·exact Mod.ex2_inv
    ·decide
    ·decide
    ·decide
    ·decide
    ·decide
    intro y21 hy21
    refine HA_back (listed' := #[true, true, true, false, false, false, true, false, false]) rfl (fun _ hA => hA.keep (m := [nn, nn, nn, nn, nn, yy, yy, yy, yy, yy, yy]) (Y := [_, _, _, _, _, _]) rfl) ?_
    refine HA_take (i := 3) (listed' := #[true, true, true, true, false, false, true, false, false]) (bodyPost_pan _ _ _) rfl rfl rfl rfl (by kernel_rfl) rfl (V_move rfl) (fun _ hA => hA.keep (m := [nn, nn, nn, nn, nn, yy, yy, yy, yy, yy, yy]) (Y := [_, _, _, _, _, _]) rfl) ?_
    refine HA_take (i := 4) (listed' := #[true, true, true, true, true, false, true, false, false]) (bodyPost_pan _ _ _) rfl rfl rfl rfl (by kernel_rfl) rfl (V_extract (vs := [_, _]) rfl rfl) (fun _ hA => hA.keep (m := [nn, nn, nn, nn, nn, yy, yy, yy, yy, yy, yy]) (Y := [_, _, _, _, _, _]) rfl) ?_
    refine HA_take (i := 5) (listed' := #[true, true, true, true, true, true, true, false, false]) (bodyPost_pan _ _ _) rfl rfl rfl rfl (by kernel_rfl) rfl (V_extract (vs := [_, _]) rfl rfl) (fun _ hA => hA.keep (m := [nn, nn, nn, nn, nn, yy, yy, yy, yy, yy, yy]) (Y := [_, _, _, _, _, _]) rfl) ?_
    refine HA_loud1 (i := 7) (by kernel_rfl) rfl ?_
    refine HO_store (i := 4) (j := 0) (us := []) (old := [_, _]) (ts := []) (cs := [_, _]) (R := [_, _, _, _, _, _, _, _, _, _]) (new := [_, _]) rfl rfl rfl Try.sizeOf56 rfl (by simp [Value.oneCell']) rfl rfl rfl rfl rfl rfl ?_
    refine HA_back (listed' := #[true, true, true, true, true, true, true, true, false]) rfl (fun _ hA => hA.keep (m := [nn, nn, nn, nn, nn, yy, yy, yy, yy, yy, yy]) (Y := [_, _, _, _, _, _]) rfl) ?_
    refine HA_loud1 (i := 8) (by kernel_rfl) rfl ?_
    refine HO_store (i := 4) (j := 0) (us := []) (old := [_, _, _, _, _]) (ts := []) (cs := [_, _, _, _, _]) (R := [_, _, _, _, _, _, _, _, _, _]) (new := [_, _, _, _, _]) rfl rfl rfl Try.sizeOf38 rfl (by simp [Value.oneCell']) rfl rfl rfl rfl rfl rfl ?_
    refine HA_back (listed' := #[true, true, true, true, true, true, true, true, true]) rfl (fun _ hA => hA.keep (m := [nn, nn, nn, nn, nn, yy, yy, yy, yy, yy, yy]) (Y := [_, _, _, _, _, _]) rfl) ?_
    refine HA_done (by kernel_rfl) ?_
    refine H_env (ρ' := [(4, _), (1, _), (2, _), (3, _)]) ⟨rfl, rfl, rfl, rfl, trivial⟩ ?_
    refine H_world (fun _ hA => hA.keep (m := [yy, yy, yy, yy, yy, nn, nn, yy, yy, yy, yy]) (Y := [_, _, _, _, _, _, _, _, _]) rfl) ?_
    refine H_inv (fun a w hf hA => ⟨⟨g1, h1, h2, g4, u1, u2, y21⟩, ?_, hf.sub ?_, ?_⟩)
    ·trivial
    ·exact ⟨rfl, rfl, rfl, rfl, trivial⟩
    ·exact hA.only (is := [0, 1, 2, 3, 4, 5, 6, 0, 4]) (Z := []) rfl
  ·refine HO_call (first := []) (capt := []) (is := []) (R := [_, _, _, _, _, _, _]) rfl rfl rfl rfl rfl Try.call55 rfl (lput_spec _ _) ?_
   intro y20 hy20
   clear y20 hy20
   refine HA_back (listed' := #[false, true, false, false, false, false, false, false, false]) rfl (fun _ hA => hA.keep (m := [nn, yy, yy, yy, yy, yy, yy]) (Y := [_, _, _, _, _, _]) rfl) ?_
   refine HA_loud2 (i := 0) (j := 6) (by kernel_rfl) rfl rfl ?_ ?_
   ·refine HO_loadA (i := 0) (us := []) (cs := [_, _]) (ts := []) rfl rfl rfl Try.isAgg56 Try.sizeOf56 rfl (.loc _ _ _) rfl rfl rfl rfl ?_
    refine HA_back (listed' := #[true, true, false, false, false, false, false, false, false]) rfl (fun _ hA => hA.keep (m := [nn, yy, yy, yy, yy, yy, yy]) (Y := [_, _, _, _, _, _]) rfl) ?_
    refine HA_loud2 (i := 2) (j := 6) (by kernel_rfl) rfl rfl ?_ ?_
    ·refine HO_dup (i := 1) rfl rfl ?_
     refine HO_dup (i := 3) rfl rfl ?_
     refine HO_call (first := []) (capt := []) (is := [0, 0]) (R := [_, _, _, _, _, _, _]) rfl rfl rfl rfl rfl Try.call29 rfl (apply_spec _ _ _ _ _ _ _ _ _ _ _ _ _ _ _ ?_ ?_ ?_ ?_ ?_ ?_) ?_
     ·exact Mod.ex2_inv
     ·decide
     ·decide
     ·decide
     ·decide
     ·decide
     intro y21 hy21
     refine HA_back (listed' := #[true, true, true, false, false, false, false, false, false]) rfl (fun _ hA => hA.keep (m := [nn, nn, nn, nn, yy, yy, yy, yy, yy, yy]) (Y := [_, _, _, _, _, _]) rfl) ?_
     refine HA_take (i := 3) (listed' := #[true, true, true, true, false, false, false, false, false]) (bodyPost_pan _ _ _) rfl rfl rfl rfl (by kernel_rfl) rfl (V_move rfl) (fun _ hA => hA.keep (m := [nn, nn, nn, nn, yy, yy, yy, yy, yy, yy]) (Y := [_, _, _, _, _, _]) rfl) ?_
     refine HA_take (i := 4) (listed' := #[true, true, true, true, true, false, false, false, false]) (bodyPost_pan _ _ _) rfl rfl rfl rfl (by kernel_rfl) rfl (V_extract (vs := [_, _]) rfl rfl) (fun _ hA => hA.keep (m := [nn, nn, nn, nn, yy, yy, yy, yy, yy, yy]) (Y := [_, _, _, _, _, _]) rfl) ?_
     refine HA_take (i := 5) (listed' := #[true, true, true, true, true, true, false, false, false]) (bodyPost_pan _ _ _) rfl rfl rfl rfl (by kernel_rfl) rfl (V_extract (vs := [_, _]) rfl rfl) (fun _ hA => hA.keep (m := [nn, nn, nn, nn, yy, yy, yy, yy, yy, yy]) (Y := [_, _, _, _, _, _]) rfl) ?_
     refine HA_loud1 (i := 6) (by kernel_rfl) rfl ?_
     refine HO_alloc (cs := [_, _, _, _, _]) rfl rfl Try.zeroValue38 rfl ?_
     intro g4
     refine HA_back (listed' := #[true, true, true, true, true, true, true, false, false]) rfl (fun _ hA => hA.keep (m := [nn, nn, nn, nn, nn, yy, yy, yy, yy, yy, yy]) (Y := [_, _, _, _, _, _]) rfl) ?_
     refine HA_loud1 (i := 7) (by kernel_rfl) rfl ?_
     refine HO_store (i := 4) (j := 0) (us := []) (old := [_, _]) (ts := []) (cs := [_, _]) (R := [_, _, _, _, _, _, _, _, _, _]) (new := [_, _]) rfl rfl rfl Try.sizeOf56 rfl (by simp [Value.oneCell']) rfl rfl rfl rfl rfl rfl ?_
     refine HA_back (listed' := #[true, true, true, true, true, true, true, true, false]) rfl (fun _ hA => hA.keep (m := [nn, nn, nn, nn, nn, yy, yy, yy, yy, yy, yy]) (Y := [_, _, _, _, _, _]) rfl) ?_
     refine HA_loud1 (i := 8) (by kernel_rfl) rfl ?_
     refine HO_store (i := 1) (j := 0) (us := []) (old := [_, _, _, _, _]) (ts := []) (cs := [_, _, _, _, _]) (R := [_, _, _, _, _, _, _, _, _, _]) (new := [_, _, _, _, _]) rfl rfl rfl Try.sizeOf38 rfl (by simp [Value.oneCell']) rfl rfl rfl rfl rfl rfl ?_
     refine HA_back (listed' := #[true, true, true, true, true, true, true, true, true]) rfl (fun _ hA => hA.keep (m := [nn, nn, nn, nn, nn, yy, yy, yy, yy, yy, yy]) (Y := [_, _, _, _, _, _]) rfl) ?_
     refine HA_done (by kernel_rfl) ?_
     refine H_env (ρ' := [(4, _), (1, _), (2, _), (3, _)]) ⟨rfl, rfl, rfl, rfl, trivial⟩ ?_
     refine H_world (fun _ hA => hA.keep (m := [yy, yy, yy, yy, yy, nn, nn, yy, yy, yy, yy]) (Y := [_, _, _, _, _, _, _, _, _]) rfl) ?_
     refine H_inv (fun a w hf hA => ⟨⟨g1, h1, h2, g4, u1, u2, y21⟩, ?_, hf.sub ?_, ?_⟩)
     ·trivial
     ·exact ⟨rfl, rfl, rfl, rfl, trivial⟩
     ·exact hA.only (is := [0, 1, 2, 3, 4, 5, 6, 0, 4]) (Z := []) rfl
    ·refine HO_alloc (cs := [_, _, _, _, _]) rfl rfl Try.zeroValue38 rfl ?_
     intro g4
     refine HA_back (listed' := #[true, true, false, false, false, false, true, false, false]) rfl (fun _ hA => hA.keep (m := [nn, nn, yy, yy, yy, yy, yy, yy]) (Y := [_, _, _, _, _, _]) rfl) ?_
     refine HA_loud1 (i := 2) (by kernel_rfl) rfl ?_
     refine HO_dup (i := 2) rfl rfl ?_
     refine HO_dup (i := 4) rfl rfl ?_
     refine HO_call (first := []) (capt := []) (is := [0, 0]) (R := [_, _, _, _, _, _, _, _]) rfl rfl rfl rfl rfl Try.call29 rfl (apply_spec _ _ _ _ _ _ _ _ _ _ _ _ _ _ _ ?_ ?_ ?_ ?_ ?_ ?_) ?_
     ·exact Mod.ex2_inv
     ·decide
     ·decide
     ·decide
     ·decide
     ·decide
     intro y21 hy21
     refine HA_back (listed' := #[true, true, true, false, false, false, true, false, false]) rfl (fun _ hA => hA.keep (m := [nn, nn, nn, nn, nn, yy, yy, yy, yy, yy, yy]) (Y := [_, _, _, _, _, _]) rfl) ?_
     refine HA_take (i := 3) (listed' := #[true, true, true, true, false, false, true, false, false]) (bodyPost_pan _ _ _) rfl rfl rfl rfl (by kernel_rfl) rfl (V_move rfl) (fun _ hA => hA.keep (m := [nn, nn, nn, nn, nn, yy, yy, yy, yy, yy, yy]) (Y := [_, _, _, _, _, _]) rfl) ?_
     refine HA_take (i := 4) (listed' := #[true, true, true, true, true, false, true, false, false]) (bodyPost_pan _ _ _) rfl rfl rfl rfl (by kernel_rfl) rfl (V_extract (vs := [_, _]) rfl rfl) (fun _ hA => hA.keep (m := [nn, nn, nn, nn, nn, yy, yy, yy, yy, yy, yy]) (Y := [_, _, _, _, _, _]) rfl) ?_
     refine HA_take (i := 5) (listed' := #[true, true, true, true, true, true, true, false, false]) (bodyPost_pan _ _ _) rfl rfl rfl rfl (by kernel_rfl) rfl (V_extract (vs := [_, _]) rfl rfl) (fun _ hA => hA.keep (m := [nn, nn, nn, nn, nn, yy, yy, yy, yy, yy, yy]) (Y := [_, _, _, _, _, _]) rfl) ?_
     refine HA_loud1 (i := 7) (by kernel_rfl) rfl ?_
     refine HO_store (i := 4) (j := 0) (us := []) (old := [_, _]) (ts := []) (cs := [_, _]) (R := [_, _, _, _, _, _, _, _, _, _]) (new := [_, _]) rfl rfl rfl Try.sizeOf56 rfl (by simp [Value.oneCell']) rfl rfl rfl rfl rfl rfl ?_
     refine HA_back (listed' := #[true, true, true, true, true, true, true, true, false]) rfl (fun _ hA => hA.keep (m := [nn, nn, nn, nn, nn, yy, yy, yy, yy, yy, yy]) (Y := [_, _, _, _, _, _]) rfl) ?_
     refine HA_loud1 (i := 8) (by kernel_rfl) rfl ?_
     refine HO_store (i := 4) (j := 0) (us := []) (old := [_, _, _, _, _]) (ts := []) (cs := [_, _, _, _, _]) (R := [_, _, _, _, _, _, _, _, _, _]) (new := [_, _, _, _, _]) rfl rfl rfl Try.sizeOf38 rfl (by simp [Value.oneCell']) rfl rfl rfl rfl rfl rfl ?_
     refine HA_back (listed' := #[true, true, true, true, true, true, true, true, true]) rfl (fun _ hA => hA.keep (m := [nn, nn, nn, nn, nn, yy, yy, yy, yy, yy, yy]) (Y := [_, _, _, _, _, _]) rfl) ?_
     refine HA_done (by kernel_rfl) ?_
     refine H_env (ρ' := [(4, _), (1, _), (2, _), (3, _)]) ⟨rfl, rfl, rfl, rfl, trivial⟩ ?_
     refine H_world (fun _ hA => hA.keep (m := [yy, yy, yy, yy, yy, nn, nn, yy, yy, yy, yy]) (Y := [_, _, _, _, _, _, _, _, _]) rfl) ?_
     refine H_inv (fun a w hf hA => ⟨⟨g1, h1, h2, g4, u1, u2, y21⟩, ?_, hf.sub ?_, ?_⟩)
     ·trivial
     ·exact ⟨rfl, rfl, rfl, rfl, trivial⟩
     ·exact hA.only (is := [0, 1, 2, 3, 4, 5, 6, 0, 4]) (Z := []) rfl
   ·refine HO_alloc (cs := [_, _, _, _, _]) rfl rfl Try.zeroValue38 rfl ?_
    intro g4
    refine HA_back (listed' := #[false, true, false, false, false, false, true, false, false]) rfl (fun _ hA => hA.keep (m := [nn, nn, yy, yy, yy, yy, yy, yy]) (Y := [_, _, _, _, _, _]) rfl) ?_
    refine HA_loud1 (i := 0) (by kernel_rfl) rfl ?_
    refine HO_loadA (i := 1) (us := []) (cs := [_, _]) (ts := []) rfl rfl rfl Try.isAgg56 Try.sizeOf56 rfl (.loc _ _ _) rfl rfl rfl rfl ?_
    refine HA_back (listed' := #[true, true, false, false, false, false, true, false, false]) rfl (fun _ hA => hA.keep (m := [nn, nn, yy, yy, yy, yy, yy, yy]) (Y := [_, _, _, _, _, _]) rfl) ?_
    refine HA_loud1 (i := 2) (by kernel_rfl) rfl ?_
    refine HO_dup (i := 2) rfl rfl ?_
    refine HO_dup (i := 4) rfl rfl ?_
    refine HO_call (first := []) (capt := []) (is := [0, 0]) (R := [_, _, _, _, _, _, _, _]) rfl rfl rfl rfl rfl Try.call29 rfl (apply_spec _ _ _ _ _ _ _ _ _ _ _ _ _ _ _ ?_ ?_ ?_ ?_ ?_ ?_) ?_
    ·exact Mod.ex2_inv
    ·decide
    ·decide
    ·decide
    ·decide
    ·decide
    intro y21 hy21
    refine HA_back (listed' := #[true, true, true, false, false, false, true, false, false]) rfl (fun _ hA => hA.keep (m := [nn, nn, nn, nn, nn, yy, yy, yy, yy, yy, yy]) (Y := [_, _, _, _, _, _]) rfl) ?_
    refine HA_take (i := 3) (listed' := #[true, true, true, true, false, false, true, false, false]) (bodyPost_pan _ _ _) rfl rfl rfl rfl (by kernel_rfl) rfl (V_move rfl) (fun _ hA => hA.keep (m := [nn, nn, nn, nn, nn, yy, yy, yy, yy, yy, yy]) (Y := [_, _, _, _, _, _]) rfl) ?_
    refine HA_take (i := 4) (listed' := #[true, true, true, true, true, false, true, false, false]) (bodyPost_pan _ _ _) rfl rfl rfl rfl (by kernel_rfl) rfl (V_extract (vs := [_, _]) rfl rfl) (fun _ hA => hA.keep (m := [nn, nn, nn, nn, nn, yy, yy, yy, yy, yy, yy]) (Y := [_, _, _, _, _, _]) rfl) ?_
    refine HA_take (i := 5) (listed' := #[true, true, true, true, true, true, true, false, false]) (bodyPost_pan _ _ _) rfl rfl rfl rfl (by kernel_rfl) rfl (V_extract (vs := [_, _]) rfl rfl) (fun _ hA => hA.keep (m := [nn, nn, nn, nn, nn, yy, yy, yy, yy, yy, yy]) (Y := [_, _, _, _, _, _]) rfl) ?_
    refine HA_loud1 (i := 7) (by kernel_rfl) rfl ?_
    refine HO_store (i := 4) (j := 0) (us := []) (old := [_, _]) (ts := []) (cs := [_, _]) (R := [_, _, _, _, _, _, _, _, _, _]) (new := [_, _]) rfl rfl rfl Try.sizeOf56 rfl (by simp [Value.oneCell']) rfl rfl rfl rfl rfl rfl ?_
    refine HA_back (listed' := #[true, true, true, true, true, true, true, true, false]) rfl (fun _ hA => hA.keep (m := [nn, nn, nn, nn, nn, yy, yy, yy, yy, yy, yy]) (Y := [_, _, _, _, _, _]) rfl) ?_
    refine HA_loud1 (i := 8) (by kernel_rfl) rfl ?_
    refine HO_store (i := 4) (j := 0) (us := []) (old := [_, _, _, _, _]) (ts := []) (cs := [_, _, _, _, _]) (R := [_, _, _, _, _, _, _, _, _, _]) (new := [_, _, _, _, _]) rfl rfl rfl Try.sizeOf38 rfl (by simp [Value.oneCell']) rfl rfl rfl rfl rfl rfl ?_
    refine HA_back (listed' := #[true, true, true, true, true, true, true, true, true]) rfl (fun _ hA => hA.keep (m := [nn, nn, nn, nn, nn, yy, yy, yy, yy, yy, yy]) (Y := [_, _, _, _, _, _]) rfl) ?_
    refine HA_done (by kernel_rfl) ?_
    refine H_env (ρ' := [(4, _), (1, _), (2, _), (3, _)]) ⟨rfl, rfl, rfl, rfl, trivial⟩ ?_
    refine H_world (fun _ hA => hA.keep (m := [yy, yy, yy, yy, yy, nn, nn, yy, yy, yy, yy]) (Y := [_, _, _, _, _, _, _, _, _]) rfl) ?_
    refine H_inv (fun a w hf hA => ⟨⟨g1, h1, h2, g4, u1, u2, y21⟩, ?_, hf.sub ?_, ?_⟩)
    ·trivial
    ·exact ⟨rfl, rfl, rfl, rfl, trivial⟩
    ·exact hA.only (is := [0, 1, 2, 3, 4, 5, 6, 0, 4]) (Z := []) rfl
  ·refine HO_alloc (cs := [_, _, _, _, _]) rfl rfl Try.zeroValue38 rfl ?_
   intro g4
   refine HA_back (listed' := #[false, false, false, false, false, false, true, false, false]) rfl (fun _ hA => hA.keep (m := [nn, nn, yy, yy, yy, yy, yy, yy]) (Y := [_, _, _, _, _, _]) rfl) ?_
   refine HA_loud2 (i := 0) (j := 1) (by kernel_rfl) rfl rfl ?_ ?_
   ·refine HO_loadA (i := 1) (us := []) (cs := [_, _]) (ts := []) rfl rfl rfl Try.isAgg56 Try.sizeOf56 rfl (.loc _ _ _) rfl rfl rfl rfl ?_
    refine HA_back (listed' := #[true, false, false, false, false, false, true, false, false]) rfl (fun _ hA => hA.keep (m := [nn, nn, yy, yy, yy, yy, yy, yy]) (Y := [_, _, _, _, _, _]) rfl) ?_
    refine HA_loud1 (i := 1) (by kernel_rfl) rfl ?_
    refine HO_call (first := []) (capt := []) (is := []) (R := [_, _, _, _, _, _, _, _]) rfl rfl rfl rfl rfl Try.call55 rfl (lput_spec _ _) ?_
    intro y20 hy20
    clear y20 hy20
    refine HA_back (listed' := #[true, true, false, false, false, false, true, false, false]) rfl (fun _ hA => hA.keep (m := [nn, nn, yy, yy, yy, yy, yy, yy]) (Y := [_, _, _, _, _, _]) rfl) ?_
    refine HA_loud1 (i := 2) (by kernel_rfl) rfl ?_
    refine HO_dup (i := 2) rfl rfl ?_
    refine HO_dup (i := 4) rfl rfl ?_
    refine HO_call (first := []) (capt := []) (is := [0, 0]) (R := [_, _, _, _, _, _, _, _]) rfl rfl rfl rfl rfl Try.call29 rfl (apply_spec _ _ _ _ _ _ _ _ _ _ _ _ _ _ _ ?_ ?_ ?_ ?_ ?_ ?_) ?_
    ·exact Mod.ex2_inv
    ·decide
    ·decide
    ·decide
    ·decide
    ·decide
    intro y21 hy21
    refine HA_back (listed' := #[true, true, true, false, false, false, true, false, false]) rfl (fun _ hA => hA.keep (m := [nn, nn, nn, nn, nn, yy, yy, yy, yy, yy, yy]) (Y := [_, _, _, _, _, _]) rfl) ?_
    refine HA_take (i := 3) (listed' := #[true, true, true, true, false, false, true, false, false]) (bodyPost_pan _ _ _) rfl rfl rfl rfl (by kernel_rfl) rfl (V_move rfl) (fun _ hA => hA.keep (m := [nn, nn, nn, nn, nn, yy, yy, yy, yy, yy, yy]) (Y := [_, _, _, _, _, _]) rfl) ?_
    refine HA_take (i := 4) (listed' := #[true, true, true, true, true, false, true, false, false]) (bodyPost_pan _ _ _) rfl rfl rfl rfl (by kernel_rfl) rfl (V_extract (vs := [_, _]) rfl rfl) (fun _ hA => hA.keep (m := [nn, nn, nn, nn, nn, yy, yy, yy, yy, yy, yy]) (Y := [_, _, _, _, _, _]) rfl) ?_
    refine HA_take (i := 5) (listed' := #[true, true, true, true, true, true, true, false, false]) (bodyPost_pan _ _ _) rfl rfl rfl rfl (by kernel_rfl) rfl (V_extract (vs := [_, _]) rfl rfl) (fun _ hA => hA.keep (m := [nn, nn, nn, nn, nn, yy, yy, yy, yy, yy, yy]) (Y := [_, _, _, _, _, _]) rfl) ?_
    refine HA_loud1 (i := 7) (by kernel_rfl) rfl ?_
    refine HO_store (i := 4) (j := 0) (us := []) (old := [_, _]) (ts := []) (cs := [_, _]) (R := [_, _, _, _, _, _, _, _, _, _]) (new := [_, _]) rfl rfl rfl Try.sizeOf56 rfl (by simp [Value.oneCell']) rfl rfl rfl rfl rfl rfl ?_
    refine HA_back (listed' := #[true, true, true, true, true, true, true, true, false]) rfl (fun _ hA => hA.keep (m := [nn, nn, nn, nn, nn, yy, yy, yy, yy, yy, yy]) (Y := [_, _, _, _, _, _]) rfl) ?_
    refine HA_loud1 (i := 8) (by kernel_rfl) rfl ?_
    refine HO_store (i := 4) (j := 0) (us := []) (old := [_, _, _, _, _]) (ts := []) (cs := [_, _, _, _, _]) (R := [_, _, _, _, _, _, _, _, _, _]) (new := [_, _, _, _, _]) rfl rfl rfl Try.sizeOf38 rfl (by simp [Value.oneCell']) rfl rfl rfl rfl rfl rfl ?_
    refine HA_back (listed' := #[true, true, true, true, true, true, true, true, true]) rfl (fun _ hA => hA.keep (m := [nn, nn, nn, nn, nn, yy, yy, yy, yy, yy, yy]) (Y := [_, _, _, _, _, _]) rfl) ?_
    refine HA_done (by kernel_rfl) ?_
    refine H_env (ρ' := [(4, _), (1, _), (2, _), (3, _)]) ⟨rfl, rfl, rfl, rfl, trivial⟩ ?_
    refine H_world (fun _ hA => hA.keep (m := [yy, yy, yy, yy, yy, nn, nn, yy, yy, yy, yy]) (Y := [_, _, _, _, _, _, _, _, _]) rfl) ?_
    refine H_inv (fun a w hf hA => ⟨⟨g1, h1, h2, g4, u1, u2, y21⟩, ?_, hf.sub ?_, ?_⟩)
    ·trivial
    ·exact ⟨rfl, rfl, rfl, rfl, trivial⟩
    ·exact hA.only (is := [0, 1, 2, 3, 4, 5, 6, 0, 4]) (Z := []) rfl
   ·refine HO_call (first := []) (capt := []) (is := []) (R := [_, _, _, _, _, _, _, _]) rfl rfl rfl rfl rfl Try.call55 rfl (lput_spec _ _) ?_
    intro y20 hy20
    clear y20 hy20
    refine HA_back (listed' := #[false, true, false, false, false, false, true, false, false]) rfl (fun _ hA => hA.keep (m := [nn, nn, yy, yy, yy, yy, yy, yy]) (Y := [_, _, _, _, _, _]) rfl) ?_
    refine HA_loud1 (i := 0) (by kernel_rfl) rfl ?_
    refine HO_loadA (i := 1) (us := []) (cs := [_, _]) (ts := []) rfl rfl rfl Try.isAgg56 Try.sizeOf56 rfl (.loc _ _ _) rfl rfl rfl rfl ?_
    refine HA_back (listed' := #[true, true, false, false, false, false, true, false, false]) rfl (fun _ hA => hA.keep (m := [nn, nn, yy, yy, yy, yy, yy, yy]) (Y := [_, _, _, _, _, _]) rfl) ?_
    refine HA_loud1 (i := 2) (by kernel_rfl) rfl ?_
    refine HO_dup (i := 2) rfl rfl ?_
    refine HO_dup (i := 4) rfl rfl ?_
    refine HO_call (first := []) (capt := []) (is := [0, 0]) (R := [_, _, _, _, _, _, _, _]) rfl rfl rfl rfl rfl Try.call29 rfl (apply_spec _ _ _ _ _ _ _ _ _ _ _ _ _ _ _ ?_ ?_ ?_ ?_ ?_ ?_) ?_
    ·exact Mod.ex2_inv
    ·decide
    ·decide
    ·decide
    ·decide
    ·decide
    intro y21 hy21
    refine HA_back (listed' := #[true, true, true, false, false, false, true, false, false]) rfl (fun _ hA => hA.keep (m := [nn, nn, nn, nn, nn, yy, yy, yy, yy, yy, yy]) (Y := [_, _, _, _, _, _]) rfl) ?_
    refine HA_take (i := 3) (listed' := #[true, true, true, true, false, false, true, false, false]) (bodyPost_pan _ _ _) rfl rfl rfl rfl (by kernel_rfl) rfl (V_move rfl) (fun _ hA => hA.keep (m := [nn, nn, nn, nn, nn, yy, yy, yy, yy, yy, yy]) (Y := [_, _, _, _, _, _]) rfl) ?_
    refine HA_take (i := 4) (listed' := #[true, true, true, true, true, false, true, false, false]) (bodyPost_pan _ _ _) rfl rfl rfl rfl (by kernel_rfl) rfl (V_extract (vs := [_, _]) rfl rfl) (fun _ hA => hA.keep (m := [nn, nn, nn, nn, nn, yy, yy, yy, yy, yy, yy]) (Y := [_, _, _, _, _, _]) rfl) ?_
    refine HA_take (i := 5) (listed' := #[true, true, true, true, true, true, true, false, false]) (bodyPost_pan _ _ _) rfl rfl rfl rfl (by kernel_rfl) rfl (V_extract (vs := [_, _]) rfl rfl) (fun _ hA => hA.keep (m := [nn, nn, nn, nn, nn, yy, yy, yy, yy, yy, yy]) (Y := [_, _, _, _, _, _]) rfl) ?_
    refine HA_loud1 (i := 7) (by kernel_rfl) rfl ?_
    refine HO_store (i := 4) (j := 0) (us := []) (old := [_, _]) (ts := []) (cs := [_, _]) (R := [_, _, _, _, _, _, _, _, _, _]) (new := [_, _]) rfl rfl rfl Try.sizeOf56 rfl (by simp [Value.oneCell']) rfl rfl rfl rfl rfl rfl ?_
    refine HA_back (listed' := #[true, true, true, true, true, true, true, true, false]) rfl (fun _ hA => hA.keep (m := [nn, nn, nn, nn, nn, yy, yy, yy, yy, yy, yy]) (Y := [_, _, _, _, _, _]) rfl) ?_
    refine HA_loud1 (i := 8) (by kernel_rfl) rfl ?_
    refine HO_store (i := 4) (j := 0) (us := []) (old := [_, _, _, _, _]) (ts := []) (cs := [_, _, _, _, _]) (R := [_, _, _, _, _, _, _, _, _, _]) (new := [_, _, _, _, _]) rfl rfl rfl Try.sizeOf38 rfl (by simp [Value.oneCell']) rfl rfl rfl rfl rfl rfl ?_
    refine HA_back (listed' := #[true, true, true, true, true, true, true, true, true]) rfl (fun _ hA => hA.keep (m := [nn, nn, nn, nn, nn, yy, yy, yy, yy, yy, yy]) (Y := [_, _, _, _, _, _]) rfl) ?_
    refine HA_done (by kernel_rfl) ?_
    refine H_env (ρ' := [(4, _), (1, _), (2, _), (3, _)]) ⟨rfl, rfl, rfl, rfl, trivial⟩ ?_
    refine H_world (fun _ hA => hA.keep (m := [yy, yy, yy, yy, yy, nn, nn, yy, yy, yy, yy]) (Y := [_, _, _, _, _, _, _, _, _]) rfl) ?_
    refine H_inv (fun a w hf hA => ⟨⟨g1, h1, h2, g4, u1, u2, y21⟩, ?_, hf.sub ?_, ?_⟩)
    ·trivial
    ·exact ⟨rfl, rfl, rfl, rfl, trivial⟩
    ·exact hA.only (is := [0, 1, 2, 3, 4, 5, 6, 0, 4]) (Z := []) rfl
 rintro ⟨g1, h1, h2, h3, u1, u2, u3⟩ hJ
 (try dsimp only at hJ ⊢)
 refine H_seq ?_
 refine H_meetE (σ := Nat × Nat × Nat × Nat × Nat × ((Option Addr × Nat) × (Option Addr × Nat) × (Option Addr × Nat)) × ((Option Addr × Nat) × (Option Addr × Nat) × (Option Addr × Nat)) × ((Option Addr × Nat) × (Option Addr × Nat) × (Option Addr × Nat)) × ((Option Addr × Nat) × (Option Addr × Nat) × (Option Addr × Nat))) _ (fun s => True) (fun s => [(1, .pointer (some ⟨s.1, 0, none⟩)), (2, .pointer (some ⟨s.2.1, 0, none⟩)), (3, .pointer (some ⟨s.2.2.1, 0, none⟩)), (4, .pointer (some ⟨s.2.2.2.1, 0, none⟩)), (5, .pointer (some ⟨s.2.2.2.2.1, 0, none⟩))]) (fun s => Asn w0 ok0 M0 [.loc s.1 [.slice s.2.2.2.2.2.2.2.2.1.1 (Mod.ex4.1.length) s.2.2.2.2.2.2.2.2.1.2, .slice s.2.2.2.2.2.2.2.2.2.1.1 (Mod.ex4.2.1.length) s.2.2.2.2.2.2.2.2.2.1.2] 56, .dat kPair.sl (Mod.ex4.1) [.slice s.2.2.2.2.2.2.2.2.1.1 (Mod.ex4.1.length) s.2.2.2.2.2.2.2.2.1.2], .dat kSess.sl (Mod.ex4.2.1) [.slice s.2.2.2.2.2.2.2.2.2.1.1 (Mod.ex4.2.1.length) s.2.2.2.2.2.2.2.2.2.1.2], .loc s.2.1 [.int .i64 (Mod.ex1.2.2.err), .bool (Mod.ex1.2.2.found), .string (Mod.ex1.2.2.val), .int .i64 (Mod.ex1.2.2.sess), .slice s.2.2.2.2.2.1.2.2.1 (Mod.ex1.2.2.pairs.length) s.2.2.2.2.2.1.2.2.2] 38, .dat kPair.sl (Mod.ex1.2.2.pairs) [.slice s.2.2.2.2.2.1.2.2.1 (Mod.ex1.2.2.pairs.length) s.2.2.2.2.2.1.2.2.2], .loc s.2.2.1 [.int .i64 (Mod.ex2.2.2.err), .bool (Mod.ex2.2.2.found), .string (Mod.ex2.2.2.val), .int .i64 (Mod.ex2.2.2.sess), .slice s.2.2.2.2.2.2.1.2.2.1 (Mod.ex2.2.2.pairs.length) s.2.2.2.2.2.2.1.2.2.2] 38, .dat kPair.sl (Mod.ex2.2.2.pairs) [.slice s.2.2.2.2.2.2.1.2.2.1 (Mod.ex2.2.2.pairs.length) s.2.2.2.2.2.2.1.2.2.2], .loc s.2.2.2.1 [.int .i64 (Mod.ex3.2.2.err), .bool (Mod.ex3.2.2.found), .string (Mod.ex3.2.2.val), .int .i64 (Mod.ex3.2.2.sess), .slice s.2.2.2.2.2.2.2.1.2.2.1 (Mod.ex3.2.2.pairs.length) s.2.2.2.2.2.2.2.1.2.2.2] 38, .dat kPair.sl (Mod.ex3.2.2.pairs) [.slice s.2.2.2.2.2.2.2.1.2.2.1 (Mod.ex3.2.2.pairs.length) s.2.2.2.2.2.2.2.1.2.2.2], .loc s.2.2.2.2.1 [.int .i64 (Mod.ex4.2.2.err), .bool (Mod.ex4.2.2.found), .string (Mod.ex4.2.2.val), .int .i64 (Mod.ex4.2.2.sess), .slice s.2.2.2.2.2.2.2.2.2.2.1 (Mod.ex4.2.2.pairs.length) s.2.2.2.2.2.2.2.2.2.2.2] 38, .dat kPair.sl (Mod.ex4.2.2.pairs) [.slice s.2.2.2.2.2.2.2.2.2.2.1 (Mod.ex4.2.2.pairs.length) s.2.2.2.2.2.2.2.2.2.2.2]]) ?_ ?_
 ·skip
  refine H_drawB (m := [nn, yy, yy, yy, yy, yy, yy, yy, yy]) (Xs := [_, _, _, _, _, _, _, _]) (fuel := 9) (l := #[false, false, false, false, false, false, false, false, false]) mixed rfl rfl rfl ?_
  refine HA_loud3 (i := 0) (j := 1) (m := 6) (by kernel_rfl) rfl rfl rfl ?_ ?_ ?_
  ·refine HO_loadA (i := 0) (us := []) (cs := [_, _]) (ts := []) rfl rfl rfl Try.isAgg56 Try.sizeOf56 rfl (.loc _ _ _) rfl rfl rfl rfl ?_
   refine HA_back (listed' := #[true, false, false, false, false, false, false, false, false]) rfl (fun _ hA => hA.keep (m := [nn, yy, yy, yy, yy, yy, yy, yy, yy]) (Y := [_, _, _, _, _, _, _, _]) rfl) ?_
   refine HA_loud2 (i := 1) (j := 6) (by kernel_rfl) rfl rfl ?_ ?_
   ·refine HO_call (first := []) (capt := []) (is := []) (R := [_, _, _, _, _, _, _, _, _]) rfl rfl rfl rfl rfl Try.call55 rfl (lput_spec _ _) ?_
    intro y26 hy26
    clear y26 hy26
    refine HA_back (listed' := #[true, true, false, false, false, false, false, false, false]) rfl (fun _ hA => hA.keep (m := [nn, yy, yy, yy, yy, yy, yy, yy, yy]) (Y := [_, _, _, _, _, _, _, _]) rfl) ?_
    refine HA_loud2 (i := 2) (j := 6) (by kernel_rfl) rfl rfl ?_ ?_
    ·refine HO_dup (i := 1) rfl rfl ?_
     refine HO_dup (i := 3) rfl rfl ?_
     refine HO_call (first := []) (capt := []) (is := [0, 0]) (R := [_, _, _, _, _, _, _, _, _]) rfl rfl rfl rfl rfl Try.call29 rfl (apply_spec _ _ _ _ _ _ _ _ _ _ _ _ _ _ _ ?_ ?_ ?_ ?_ ?_ ?_) ?_
     ·exact Mod.ex3_inv
     ·decide
     ·decide
     ·decide
     ·decide
     ·decide
     intro y27 hy27
     refine HA_back (listed' := #[true, true, true, false, false, false, false, false, false]) rfl (fun _ hA => hA.keep (m := [nn, nn, nn, nn, yy, yy, yy, yy, yy, yy, yy, yy]) (Y := [_, _, _, _, _, _, _, _]) rfl) ?_
     refine HA_take (i := 3) (listed' := #[true, true, true, true, false, false, false, false, false]) (bodyPost_pan _ _ _) rfl rfl rfl rfl (by kernel_rfl) rfl (V_move rfl) (fun _ hA => hA.keep (m := [nn, nn, nn, nn, yy, yy, yy, yy, yy, yy, yy, yy]) (Y := [_, _, _, _, _, _, _, _]) rfl) ?_
     refine HA_take (i := 4) (listed' := #[true, true, true, true, true, false, false, false, false]) (bodyPost_pan _ _ _) rfl rfl rfl rfl (by kernel_rfl) rfl (V_extract (vs := [_, _]) rfl rfl) (fun _ hA => hA.keep (m := [nn, nn, nn, nn, yy, yy, yy, yy, yy, yy, yy, yy]) (Y := [_, _, _, _, _, _, _, _]) rfl) ?_
     refine HA_take (i := 5) (listed' := #[true, true, true, true, true, true, false, false, false]) (bodyPost_pan _ _ _) rfl rfl rfl rfl (by kernel_rfl) rfl (V_extract (vs := [_, _]) rfl rfl) (fun _ hA => hA.keep (m := [nn, nn, nn, nn, yy, yy, yy, yy, yy, yy, yy, yy]) (Y := [_, _, _, _, _, _, _, _]) rfl) ?_
     refine HA_loud1 (i := 6) (by kernel_rfl) rfl ?_
     refine HO_alloc (cs := [_, _, _, _, _]) rfl rfl Try.zeroValue38 rfl ?_
     intro g5
     refine HA_back (listed' := #[true, true, true, true, true, true, true, false, false]) rfl (fun _ hA => hA.keep (m := [nn, nn, nn, nn, nn, yy, yy, yy, yy, yy, yy, yy, yy]) (Y := [_, _, _, _, _, _, _, _]) rfl) ?_
     refine HA_loud1 (i := 7) (by kernel_rfl) rfl ?_
     refine HO_store (i := 4) (j := 0) (us := []) (old := [_, _]) (ts := []) (cs := [_, _]) (R := [_, _, _, _, _, _, _, _, _, _, _, _]) (new := [_, _]) rfl rfl rfl Try.sizeOf56 rfl (by simp [Value.oneCell']) rfl rfl rfl rfl rfl rfl ?_
     refine HA_back (listed' := #[true, true, true, true, true, true, true, true, false]) rfl (fun _ hA => hA.keep (m := [nn, nn, nn, nn, nn, yy, yy, yy, yy, yy, yy, yy, yy]) (Y := [_, _, _, _, _, _, _, _]) rfl) ?_
     refine HA_loud1 (i := 8) (by kernel_rfl) rfl ?_
     refine HO_store (i := 1) (j := 0) (us := []) (old := [_, _, _, _, _]) (ts := []) (cs := [_, _, _, _, _]) (R := [_, _, _, _, _, _, _, _, _, _, _, _]) (new := [_, _, _, _, _]) rfl rfl rfl Try.sizeOf38 rfl (by simp [Value.oneCell']) rfl rfl rfl rfl rfl rfl ?_
     refine HA_back (listed' := #[true, true, true, true, true, true, true, true, true]) rfl (fun _ hA => hA.keep (m := [nn, nn, nn, nn, nn, yy, yy, yy, yy, yy, yy, yy, yy]) (Y := [_, _, _, _, _, _, _, _]) rfl) ?_
     refine HA_done (by kernel_rfl) ?_
     refine H_env (ρ' := [(5, _), (1, _), (2, _), (3, _), (4, _)]) ⟨rfl, rfl, rfl, rfl, rfl, trivial⟩ ?_
     refine H_world (fun _ hA => hA.keep (m := [yy, yy, yy, yy, yy, nn, nn, yy, yy, yy, yy, yy, yy]) (Y := [_, _, _, _, _, _, _, _, _, _, _]) rfl) ?_
     refine H_inv (fun a w hf hA => ⟨⟨g1, h1, h2, h3, g5, u1, u2, u3, y27⟩, ?_, hf.sub ?_, ?_⟩)
     ·trivial
     ·exact ⟨rfl, rfl, rfl, rfl, rfl, trivial⟩
     ·exact hA.only (is := [0, 1, 2, 3, 4, 5, 6, 7, 8, 0, 4]) (Z := []) rfl
    ·refine HO_alloc (cs := [_, _, _, _, _]) rfl rfl Try.zeroValue38 rfl ?_
     intro g5
     refine HA_back (listed' := #[true, true, false, false, false, false, true, false, false]) rfl (fun _ hA => hA.keep (m := [nn, nn, yy, yy, yy, yy, yy, yy, yy, yy]) (Y := [_, _, _, _, _, _, _, _]) rfl) ?_
     refine HA_loud1 (i := 2) (by kernel_rfl) rfl ?_
     refine HO_dup (i := 2) rfl rfl ?_
     refine HO_dup (i := 4) rfl rfl ?_
     refine HO_call (first := []) (capt := []) (is := [0, 0]) (R := [_, _, _, _, _, _, _, _, _, _]) rfl rfl rfl rfl rfl Try.call29 rfl (apply_spec _ _ _ _ _ _ _ _ _ _ _ _ _ _ _ ?_ ?_ ?_ ?_ ?_ ?_) ?_
     ·exact Mod.ex3_inv
     ·decide
     ·decide
     ·decide
     ·decide
     ·decide
     intro y27 hy27
     refine HA_back (listed' := #[true, true, true, false, false, false, true, false, false]) rfl (fun _ hA => hA.keep (m := [nn, nn, nn, nn, nn, yy, yy, yy, yy, yy, yy, yy, yy]) (Y := [_, _, _, _, _, _, _, _]) rfl) ?_
     refine HA_take (i := 3) (listed' := #[true, true, true, true, false, false, true, false, false]) (bodyPost_pan _ _ _) rfl rfl rfl rfl (by kernel_rfl) rfl (V_move rfl) (fun _ hA => hA.keep (m := [nn, nn, nn, nn, nn, yy, yy, yy, yy, yy, yy, yy, yy]) (Y := [_, _, _, _, _, _, _, _]) rfl) ?_
     refine HA_take (i := 4) (listed' := #[true, true, true, true, true, false, true, false, false]) (bodyPost_pan _ _ _) rfl rfl rfl rfl (by kernel_rfl) rfl (V_extract (vs := [_, _]) rfl rfl) (fun _ hA => hA.keep (m := [nn, nn, nn, nn, nn, yy, yy, yy, yy, yy, yy, yy, yy]) (Y := [_, _, _, _, _, _, _, _]) rfl) ?_
     refine HA_take (i := 5) (listed' := #[true, true, true, true, true, true, true, false, false]) (bodyPost_pan _ _ _) rfl rfl rfl rfl (by kernel_rfl) rfl (V_extract (vs := [_, _]) rfl rfl) (fun _ hA => hA.keep (m := [nn, nn, nn, nn, nn, yy, yy, yy, yy, yy, yy, yy, yy]) (Y := [_, _, _, _, _, _, _, _]) rfl) ?_
     refine HA_loud1 (i := 7) (by kernel_rfl) rfl ?_
     refine HO_store (i := 4) (j := 0) (us := []) (old := [_, _]) (ts := []) (cs := [_, _]) (R := [_, _, _, _, _, _, _, _, _, _, _, _]) (new := [_, _]) rfl rfl rfl Try.sizeOf56 rfl (by simp [Value.oneCell']) rfl rfl rfl rfl rfl rfl ?_
     refine HA_back (listed' := #[true, true, true, true, true, true, true, true, false]) rfl (fun _ hA => hA.keep (m := [nn, nn, nn, nn, nn, yy, yy, yy, yy, yy, yy, yy, yy]) (Y := [_, _, _, _, _, _, _, _]) rfl) ?_
     refine HA_loud1 (i := 8) (by kernel_rfl) rfl ?_
     refine HO_store (i := 4) (j := 0) (us := []) (old := [_, _, _, _, _]) (ts := []) (cs := [_, _, _, _, _]) (R := [_, _, _, _, _, _, _, _, _, _, _, _]) (new := [_, _, _, _, _]) rfl rfl rfl Try.sizeOf38 rfl (by simp [Value.oneCell']) rfl rfl rfl rfl rfl rfl ?_
     refine HA_back (listed' := #[true, true, true, true, true, true, true, true, true]) rfl (fun _ hA => hA.keep (m := [nn, nn, nn, nn, nn, yy, yy, yy, yy, yy, yy, yy, yy]) (Y := [_, _, _, _, _, _, _, _]) rfl) ?_
     refine HA_done (by kernel_rfl) ?_
     refine H_env (ρ' := [(5, _), (1, _), (2, _), (3, _), (4, _)]) ⟨rfl, rfl, rfl, rfl, rfl, trivial⟩ ?_
     refine H_world (fun _ hA => hA.keep (m := [yy, yy, yy, yy, yy, nn, nn, yy, yy, yy, yy, yy, yy]) (Y := [_, _, _, _, _, _, _, _, _, _, _]) rfl) ?_
     refine H_inv (fun a w hf hA => ⟨⟨g1, h1, h2, h3, g5, u1, u2, u3, y27⟩, ?_, hf.sub ?_, ?_⟩)
     ·trivial
     ·exact ⟨rfl, rfl, rfl, rfl, rfl, trivial⟩
     ·exact hA.only (is := [0, 1, 2, 3, 4, 5, 6, 7, 8, 0, 4]) (Z := []) rfl
   ·refine HO_alloc (cs := [_, _, _, _, _]) rfl rfl Try.zeroValue38 rfl ?_
    intro g5
    refine HA_back (listed' := #[true, false, false, false, false, false, true, false, false]) rfl (fun _ hA => hA.keep (m := [nn, nn, yy, yy, yy, yy, yy, yy, yy, yy]) (Y := [_, _, _, _, _, _, _, _]) rfl) ?_
    refine HA_loud1 (i := 1) (by kernel_rfl) rfl ?_
    refine HO_call (first := []) (capt := []) (is := []) (R := [_, _, _, _, _, _, _, _, _, _]) rfl rfl rfl rfl rfl Try.call55 rfl (lput_spec _ _) ?_
    intro y26 hy26
    clear y26 hy26
    refine HA_back (listed' := #[true, true, false, false, false, false, true, false, false]) rfl (fun _ hA => hA.keep (m := [nn, nn, yy, yy, yy, yy, yy, yy, yy, yy]) (Y := [_, _, _, _, _, _, _, _]) rfl) ?_
    refine HA_loud1 (i := 2) (by kernel_rfl) rfl ?_
    refine HO_dup (i := 2) rfl rfl ?_
    refine HO_dup (i := 4) rfl rfl ?_
    refine HO_call (first := []) (capt := []) (is := [0, 0]) (R := [_, _, _, _, _, _, _, _, _, _]) rfl rfl rfl rfl rfl Try.call29 rfl (apply_spec _ _ _ _ _ _ _ _ _ _ _ _ _ _ _ ?_ ?_ ?_ ?_ ?_ ?_) ?_
    ·exact Mod.ex3_inv
    ·decide
    ·decide
    ·decide
    ·decide
    ·decide
    intro y27 hy27
    refine HA_back (listed' := #[true, true, true, false, false, false, true, false, false]) rfl (fun _ hA => hA.keep (m := [nn, nn, nn, nn, nn, yy, yy, yy, yy, yy, yy, yy, yy]) (Y := [_, _, _, _, _, _, _, _]) rfl) ?_
    refine HA_take (i := 3) (listed' := #[true, true, true, true, false, false, true, false, false]) (bodyPost_pan _ _ _) rfl rfl rfl rfl (by kernel_rfl) rfl (V_move rfl) (fun _ hA => hA.keep (m := [nn, nn, nn, nn, nn, yy, yy, yy, yy, yy, yy, yy, yy]) (Y := [_, _, _, _, _, _, _, _]) rfl) ?_
    refine HA_take (i := 4) (listed' := #[true, true, true, true, true, false, true, false, false]) (bodyPost_pan _ _ _) rfl rfl rfl rfl (by kernel_rfl) rfl (V_extract (vs := [_, _]) rfl rfl) (fun _ hA => hA.keep (m := [nn, nn, nn, nn, nn, yy, yy, yy, yy, yy, yy, yy, yy]) (Y := [_, _, _, _, _, _, _, _]) rfl) ?_
    refine HA_take (i := 5) (listed' := #[true, true, true, true, true, true, true, false, false]) (bodyPost_pan _ _ _) rfl rfl rfl rfl (by kernel_rfl) rfl (V_extract (vs := [_, _]) rfl rfl) (fun _ hA => hA.keep (m := [nn, nn, nn, nn, nn, yy, yy, yy, yy, yy, yy, yy, yy]) (Y := [_, _, _, _, _, _, _, _]) rfl) ?_
    refine HA_loud1 (i := 7) (by kernel_rfl) rfl ?_
    refine HO_store (i := 4) (j := 0) (us := []) (old := [_, _]) (ts := []) (cs := [_, _]) (R := [_, _, _, _, _, _, _, _, _, _, _, _]) (new := [_, _]) rfl rfl rfl Try.sizeOf56 rfl (by simp [Value.oneCell']) rfl rfl rfl rfl rfl rfl ?_
    refine HA_back (listed' := #[true, true, true, true, true, true, true, true, false]) rfl (fun _ hA => hA.keep (m := [nn, nn, nn, nn, nn, yy, yy, yy, yy, yy, yy, yy, yy]) (Y := [_, _, _, _, _, _, _, _]) rfl) ?_
    refine HA_loud1 (i := 8) (by kernel_rfl) rfl ?_
    refine HO_store (i := 4) (j := 0) (us := []) (old := [_, _, _, _, _]) (ts := []) (cs := [_, _, _, _, _]) (R := [_, _, _, _, _, _, _, _, _, _, _, _]) (new := [_, _, _, _, _]) rfl rfl rfl Try.sizeOf38 rfl (by simp [Value.oneCell']) rfl rfl rfl rfl rfl rfl ?_
    refine HA_back (listed' := #[true, true, true, true, true, true, true, true, true]) rfl (fun _ hA => hA.keep (m := [nn, nn, nn, nn, nn, yy, yy, yy, yy, yy, yy, yy, yy]) (Y := [_, _, _, _, _, _, _, _]) rfl) ?_
    refine HA_done (by kernel_rfl) ?_
    refine H_env (ρ' := [(5, _), (1, _), (2, _), (3, _), (4, _)]) ⟨rfl, rfl, rfl, rfl, rfl, trivial⟩ ?_
    refine H_world (fun _ hA => hA.keep (m := [yy, yy, yy, yy, yy, nn, nn, yy, yy, yy, yy, yy, yy]) (Y := [_, _, _, _, _, _, _, _, _, _, _]) rfl) ?_
    refine H_inv (fun a w hf hA => ⟨⟨g1, h1, h2, h3, g5, u1, u2, u3, y27⟩, ?_, hf.sub ?_, ?_⟩)
    ·trivial
    ·exact ⟨rfl, rfl, rfl, rfl, rfl, trivial⟩
    ·exact hA.only (is := [0, 1, 2, 3, 4, 5, 6, 7, 8, 0, 4]) (Z := []) rfl
  ·refine HO_call (first := []) (capt := []) (is := []) (R := [_, _, _, _, _, _, _, _, _]) rfl rfl rfl rfl rfl Try.call55 rfl (lput_spec _ _) ?_
   intro y26 hy26
   clear y26 hy26
   refine HA_back (listed' := #[false, true, false, false, false, false, false, false, false]) rfl (fun _ hA => hA.keep (m := [nn, yy, yy, yy, yy, yy, yy, yy, yy]) (Y := [_, _, _, _, _, _, _, _]) rfl) ?_
   refine HA_loud2 (i := 0) (j := 6) (by kernel_rfl) rfl rfl ?_ ?_
   ·refine HO_loadA (i := 0) (us := []) (cs := [_, _]) (ts := []) rfl rfl rfl Try.isAgg56 Try.sizeOf56 rfl (.loc _ _ _) rfl rfl rfl rfl ?_
    refine HA_back (listed' := #[true, true, false, false, false, false, false, false, false]) rfl (fun _ hA => hA.keep (m := [nn, yy, yy, yy, yy, yy, yy, yy, yy]) (Y := [_, _, _, _, _, _, _, _]) rfl) ?_
    refine HA_loud2 (i := 2) (j := 6) (by kernel_rfl) rfl rfl ?_ ?_
    ·refine HO_dup (i := 1) rfl rfl ?_
     refine HO_dup (i := 3) rfl rfl ?_
     refine HO_call (first := []) (capt := []) (is := [0, 0]) (R := [_, _, _, _, _, _, _, _, _]) rfl rfl rfl rfl rfl Try.call29 rfl (apply_spec _ _ _ _ _ _ _ _ _ _ _ _ _ _ _ ?_ ?_ ?_ ?_ ?_ ?_) ?_
     ·exact Mod.ex3_inv
     ·decide
     ·decide
     ·decide
     ·decide
     ·decide
     intro y27 hy27
     refine HA_back (listed' := #[true, true, true, false, false, false, false, false, false]) rfl (fun _ hA => hA.keep (m := [nn, nn, nn, nn, yy, yy, yy, yy, yy, yy, yy, yy]) (Y := [_, _, _, _, _, _, _, _]) rfl) ?_
     refine HA_take (i := 3) (listed' := #[true, true, true, true, false, false, false, false, false]) (bodyPost_pan _ _ _) rfl rfl rfl rfl (by kernel_rfl) rfl (V_move rfl) (fun _ hA => hA.keep (m := [nn, nn, nn, nn, yy, yy, yy, yy, yy, yy, yy, yy]) (Y := [_, _, _, _, _, _, _, _]) rfl) ?_
     refine HA_take (i := 4) (listed' := #[true, true, true, true, true, false, false, false, false]) (bodyPost_pan _ _ _) rfl rfl rfl rfl (by kernel_rfl) rfl (V_extract (vs := [_, _]) rfl rfl) (fun _ hA => hA.keep (m := [nn, nn, nn, nn, yy, yy, yy, yy, yy, yy, yy, yy]) (Y := [_, _, _, _, _, _, _, _]) rfl) ?_
     refine HA_take (i := 5) (listed' := #[true, true, true, true, true, true, false, false, false]) (bodyPost_pan _ _ _) rfl rfl rfl rfl (by kernel_rfl) rfl (V_extract (vs := [_, _]) rfl rfl) (fun _ hA => hA.keep (m := [nn, nn, nn, nn, yy, yy, yy, yy, yy, yy, yy, yy]) (Y := [_, _, _, _, _, _, _, _]) rfl) ?_
     refine HA_loud1 (i := 6) (by kernel_rfl) rfl ?_
     refine HO_alloc (cs := [_, _, _, _, _]) rfl rfl Try.zeroValue38 rfl ?_
     intro g5
     refine HA_back (listed' := #[true, true, true, true, true, true, true, false, false]) rfl (fun _ hA => hA.keep (m := [nn, nn, nn, nn, nn, yy, yy, yy, yy, yy, yy, yy, yy]) (Y := [_, _, _, _, _, _, _, _]) rfl) ?_
     refine HA_loud1 (i := 7) (by kernel_rfl) rfl ?_
     refine HO_store (i := 4) (j := 0) (us := []) (old := [_, _]) (ts := []) (cs := [_, _]) (R := [_, _, _, _, _, _, _, _, _, _, _, _]) (new := [_, _]) rfl rfl rfl Try.sizeOf56 rfl (by simp [Value.oneCell']) rfl rfl rfl rfl rfl rfl ?_
     refine HA_back (listed' := #[true, true, true, true, true, true, true, true, false]) rfl (fun _ hA => hA.keep (m := [nn, nn, nn, nn, nn, yy, yy, yy, yy, yy, yy, yy, yy]) (Y := [_, _, _, _, _, _, _, _]) rfl) ?_
     refine HA_loud1 (i := 8) (by kernel_rfl) rfl ?_
     refine HO_store (i := 1) (j := 0) (us := []) (old := [_, _, _, _, _]) (ts := []) (cs := [_, _, _, _, _]) (R := [_, _, _, _, _, _, _, _, _, _, _, _]) (new := [_, _, _, _, _]) rfl rfl rfl Try.sizeOf38 rfl (by simp [Value.oneCell']) rfl rfl rfl rfl rfl rfl ?_
     refine HA_back (listed' := #[true, true, true, true, true, true, true, true, true]) rfl (fun _ hA => hA.keep (m := [nn, nn, nn, nn, nn, yy, yy, yy, yy, yy, yy, yy, yy]) (Y := [_, _, _, _, _, _, _, _]) rfl) ?_
     refine HA_done (by kernel_rfl) ?_
     refine H_env (ρ' := [(5, _), (1, _), (2, _), (3, _), (4, _)]) ⟨rfl, rfl, rfl, rfl, rfl, trivial⟩ ?_
     refine H_world (fun _ hA => hA.keep (m := [yy, yy, yy, yy, yy, nn, nn, yy, yy, yy, yy, yy, yy]) (Y := [_, _, _, _, _, _, _, _, _, _, _]) rfl) ?_
     refine H_inv (fun a w hf hA => ⟨⟨g1, h1, h2, h3, g5, u1, u2, u3, y27⟩, ?_, hf.sub ?_, ?_⟩)
     ·trivial
     ·exact ⟨rfl, rfl, rfl, rfl, rfl, trivial⟩
     ·exact hA.only (is := [0, 1, 2, 3, 4, 5, 6, 7, 8, 0, 4]) (Z := []) rfl
    ·refine HO_alloc (cs := [_, _, _, _, _]) rfl rfl Try.zeroValue38 rfl ?_
     intro g5
     refine HA_back (listed' := #[true, true, false, false, false, false, true, false, false]) rfl (fun _ hA => hA.keep (m := [nn, nn, yy, yy, yy, yy, yy, yy, yy, yy]) (Y := [_, _, _, _, _, _, _, _]) rfl) ?_
     refine HA_loud1 (i := 2) (by kernel_rfl) rfl ?_
     refine HO_dup (i := 2) rfl rfl ?_
     refine HO_dup (i := 4) rfl rfl ?_
     refine HO_call (first := []) (capt := []) (is := [0, 0]) (R := [_, _, _, _, _, _, _, _, _, _]) rfl rfl rfl rfl rfl Try.call29 rfl (apply_spec _ _ _ _ _ _ _ _ _ _ _ _ _ _ _ ?_ ?_ ?_ ?_ ?_ ?_) ?_
     ·exact Mod.ex3_inv
     ·decide
     ·decide
     ·decide
     ·decide
     ·decide
     intro y27 hy27
     refine HA_back (listed' := #[true, true, true, false, false, false, true, false, false]) rfl (fun _ hA => hA.keep (m := [nn, nn, nn, nn, nn, yy, yy, yy, yy, yy, yy, yy, yy]) (Y := [_, _, _, _, _, _, _, _]) rfl) ?_
     refine HA_take (i := 3) (listed' := #[true, true, true, true, false, false, true, false, false]) (bodyPost_pan _ _ _) rfl rfl rfl rfl (by kernel_rfl) rfl (V_move rfl) (fun _ hA => hA.keep (m := [nn, nn, nn, nn, nn, yy, yy, yy, yy, yy, yy, yy, yy]) (Y := [_, _, _, _, _, _, _, _]) rfl) ?_
     refine HA_take (i := 4) (listed' := #[true, true, true, true, true, false, true, false, false]) (bodyPost_pan _ _ _) rfl rfl rfl rfl (by kernel_rfl) rfl (V_extract (vs := [_, _]) rfl rfl) (fun _ hA => hA.keep (m := [nn, nn, nn, nn, nn, yy, yy, yy, yy, yy, yy, yy, yy]) (Y := [_, _, _, _, _, _, _, _]) rfl) ?_
     refine HA_take (i := 5) (listed' := #[true, true, true, true, true, true, true, false, false]) (bodyPost_pan _ _ _) rfl rfl rfl rfl (by kernel_rfl) rfl (V_extract (vs := [_, _]) rfl rfl) (fun _ hA => hA.keep (m := [nn, nn, nn, nn, nn, yy, yy, yy, yy, yy, yy, yy, yy]) (Y := [_, _, _, _, _, _, _, _]) rfl) ?_
     refine HA_loud1 (i := 7) (by kernel_rfl) rfl ?_
     refine HO_store (i := 4) (j := 0) (us := []) (old := [_, _]) (ts := []) (cs := [_, _]) (R := [_, _, _, _, _, _, _, _, _, _, _, _]) (new := [_, _]) rfl rfl rfl Try.sizeOf56 rfl (by simp [Value.oneCell']) rfl rfl rfl rfl rfl rfl ?_
     refine HA_back (listed' := #[true, true, true, true, true, true, true, true, false]) rfl (fun _ hA => hA.keep (m := [nn, nn, nn, nn, nn, yy, yy, yy, yy, yy, yy, yy, yy]) (Y := [_, _, _, _, _, _, _, _]) rfl) ?_
     refine HA_loud1 (i := 8) (by kernel_rfl) rfl ?_
     refine HO_store (i := 4) (j := 0) (us := []) (old := [_, _, _, _, _]) (ts := []) (cs := [_, _, _, _, _]) (R := [_, _, _, _, _, _, _, _, _, _, _, _]) (new := [_, _, _, _, _]) rfl rfl rfl Try.sizeOf38 rfl (by simp [Value.oneCell']) rfl rfl rfl rfl rfl rfl ?_
     refine HA_back (listed' := #[true, true, true, true, true, true, true, true, true]) rfl (fun _ hA => hA.keep (m := [nn, nn, nn, nn, nn, yy, yy, yy, yy, yy, yy, yy, yy]) (Y := [_, _, _, _, _, _, _, _]) rfl) ?_
     refine HA_done (by kernel_rfl) ?_
     refine H_env (ρ' := [(5, _), (1, _), (2, _), (3, _), (4, _)]) ⟨rfl, rfl, rfl, rfl, rfl, trivial⟩ ?_
     refine H_world (fun _ hA => hA.keep (m := [yy, yy, yy, yy, yy, nn, nn, yy, yy, yy, yy, yy, yy]) (Y := [_, _, _, _, _, _, _, _, _, _, _]) rfl) ?_
     refine H_inv (fun a w hf hA => ⟨⟨g1, h1, h2, h3, g5, u1, u2, u3, y27⟩, ?_, hf.sub ?_, ?_⟩)
     ·trivial
     ·exact ⟨rfl, rfl, rfl, rfl, rfl, trivial⟩
     ·exact hA.only (is := [0, 1, 2, 3, 4, 5, 6, 7, 8, 0, 4]) (Z := []) rfl
   ·refine HO_alloc (cs := [_, _, _, _, _]) rfl rfl Try.zeroValue38 rfl ?_
    intro g5
    refine HA_back (listed' := #[false, true, false, false, false, false, true, false, false]) rfl (fun _ hA => hA.keep (m := [nn, nn, yy, yy, yy, yy, yy, yy, yy, yy]) (Y := [_, _, _, _, _, _, _, _]) rfl) ?_
    refine HA_loud1 (i := 0) (by kernel_rfl) rfl ?_
    refine HO_loadA (i := 1) (us := []) (cs := [_, _]) (ts := []) rfl rfl rfl Try.isAgg56 Try.sizeOf56 rfl (.loc _ _ _) rfl rfl rfl rfl ?_
    refine HA_back (listed' := #[true, true, false, false, false, false, true, false, false]) rfl (fun _ hA => hA.keep (m := [nn, nn, yy, yy, yy, yy, yy, yy, yy, yy]) (Y := [_, _, _, _, _, _, _, _]) rfl) ?_
    refine HA_loud1 (i := 2) (by kernel_rfl) rfl ?_
    refine HO_dup (i := 2) rfl rfl ?_
    refine HO_dup (i := 4) rfl rfl ?_
    refine HO_call (first := []) (capt := []) (is := [0, 0]) (R := [_, _, _, _, _, _, _, _, _, _]) rfl rfl rfl rfl rfl Try.call29 rfl (apply_spec _ _ _ _ _ _ _ _ _ _ _ _ _ _ _ ?_ ?_ ?_ ?_ ?_ ?_) ?_
    ·exact Mod.ex3_inv
    ·decide
    ·decide
    ·decide
    ·decide
    ·decide
    intro y27 hy27
    refine HA_back (listed' := #[true, true, true, false, false, false, true, false, false]) rfl (fun _ hA => hA.keep (m := [nn, nn, nn, nn, nn, yy, yy, yy, yy, yy, yy, yy, yy]) (Y := [_, _, _, _, _, _, _, _]) rfl) ?_
    refine HA_take (i := 3) (listed' := #[true, true, true, true, false, false, true, false, false]) (bodyPost_pan _ _ _) rfl rfl rfl rfl (by kernel_rfl) rfl (V_move rfl) (fun _ hA => hA.keep (m := [nn, nn, nn, nn, nn, yy, yy, yy, yy, yy, yy, yy, yy]) (Y := [_, _, _, _, _, _, _, _]) rfl) ?_
    refine HA_take (i := 4) (listed' := #[true, true, true, true, true, false, true, false, false]) (bodyPost_pan _ _ _) rfl rfl rfl rfl (by kernel_rfl) rfl (V_extract (vs := [_, _]) rfl rfl) (fun _ hA => hA.keep (m := [nn, nn, nn, nn, nn, yy, yy, yy, yy, yy, yy, yy, yy]) (Y := [_, _, _, _, _, _, _, _]) rfl) ?_
    refine HA_take (i := 5) (listed' := #[true, true, true, true, true, true, true, false, false]) (bodyPost_pan _ _ _) rfl rfl rfl rfl (by kernel_rfl) rfl (V_extract (vs := [_, _]) rfl rfl) (fun _ hA => hA.keep (m := [nn, nn, nn, nn, nn, yy, yy, yy, yy, yy, yy, yy, yy]) (Y := [_, _, _, _, _, _, _, _]) rfl) ?_
    refine HA_loud1 (i := 7) (by kernel_rfl) rfl ?_
    refine HO_store (i := 4) (j := 0) (us := []) (old := [_, _]) (ts := []) (cs := [_, _]) (R := [_, _, _, _, _, _, _, _, _, _, _, _]) (new := [_, _]) rfl rfl rfl Try.sizeOf56 rfl (by simp [Value.oneCell']) rfl rfl rfl rfl rfl rfl ?_
    refine HA_back (listed' := #[true, true, true, true, true, true, true, true, false]) rfl (fun _ hA => hA.keep (m := [nn, nn, nn, nn, nn, yy, yy, yy, yy, yy, yy, yy, yy]) (Y := [_, _, _, _, _, _, _, _]) rfl) ?_
    refine HA_loud1 (i := 8) (by kernel_rfl) rfl ?_
    refine HO_store (i := 4) (j := 0) (us := []) (old := [_, _, _, _, _]) (ts := []) (cs := [_, _, _, _, _]) (R := [_, _, _, _, _, _, _, _, _, _, _, _]) (new := [_, _, _, _, _]) rfl rfl rfl Try.sizeOf38 rfl (by simp [Value.oneCell']) rfl rfl rfl rfl rfl rfl ?_
    refine HA_back (listed' := #[true, true, true, true, true, true, true, true, true]) rfl (fun _ hA => hA.keep (m := [nn, nn, nn, nn, nn, yy, yy, yy, yy, yy, yy, yy, yy]) (Y := [_, _, _, _, _, _, _, _]) rfl) ?_
    refine HA_done (by kernel_rfl) ?_
    refine H_env (ρ' := [(5, _), (1, _), (2, _), (3, _), (4, _)]) ⟨rfl, rfl, rfl, rfl, rfl, trivial⟩ ?_
    refine H_world (fun _ hA => hA.keep (m := [yy, yy, yy, yy, yy, nn, nn, yy, yy, yy, yy, yy, yy]) (Y := [_, _, _, _, _, _, _, _, _, _, _]) rfl) ?_
    refine H_inv (fun a w hf hA => ⟨⟨g1, h1, h2, h3, g5, u1, u2, u3, y27⟩, ?_, hf.sub ?_, ?_⟩)
    ·trivial
    ·exact ⟨rfl, rfl, rfl, rfl, rfl, trivial⟩
    ·exact hA.only (is := [0, 1, 2, 3, 4, 5, 6, 7, 8, 0, 4]) (Z := []) rfl
  ·refine HO_alloc (cs := [_, _, _, _, _]) rfl rfl Try.zeroValue38 rfl ?_
   intro g5
   refine HA_back (listed' := #[false, false, false, false, false, false, true, false, false]) rfl (fun _ hA => hA.keep (m := [nn, nn, yy, yy, yy, yy, yy, yy, yy, yy]) (Y := [_, _, _, _, _, _, _, _]) rfl) ?_
   refine HA_loud2 (i := 0) (j := 1) (by kernel_rfl) rfl rfl ?_ ?_
   ·refine HO_loadA (i := 1) (us := []) (cs := [_, _]) (ts := []) rfl rfl rfl Try.isAgg56 Try.sizeOf56 rfl (.loc _ _ _) rfl rfl rfl rfl ?_
    refine HA_back (listed' := #[true, false, false, false, false, false, true, false, false]) rfl (fun _ hA => hA.keep (m := [nn, nn, yy, yy, yy, yy, yy, yy, yy, yy]) (Y := [_, _, _, _, _, _, _, _]) rfl) ?_
    refine HA_loud1 (i := 1) (by kernel_rfl) rfl ?_
    refine HO_call (first := []) (capt := []) (is := []) (R := [_, _, _, _, _, _, _, _, _, _]) rfl rfl rfl rfl rfl Try.call55 rfl (lput_spec _ _) ?_
    intro y26 hy26
    clear y26 hy26
    refine HA_back (listed' := #[true, true, false, false, false, false, true, false, false]) rfl (fun _ hA => hA.keep (m := [nn, nn, yy, yy, yy, yy, yy, yy, yy, yy]) (Y := [_, _, _, _, _, _, _, _]) rfl) ?_
    refine HA_loud1 (i := 2) (by kernel_rfl) rfl ?_
    refine HO_dup (i := 2) rfl rfl ?_
    refine HO_dup (i := 4) rfl rfl ?_
    refine HO_call (first := []) (capt := []) (is := [0, 0]) (R := [_, _, _, _, _, _, _, _, _, _]) rfl rfl rfl rfl rfl Try.call29 rfl (apply_spec _ _ _ _ _ _ _ _ _ _ _ _ _ _ _ ?_ ?_ ?_ ?_ ?_ ?_) ?_
    ·exact Mod.ex3_inv
    ·decide
    ·decide
    ·decide
    ·decide
    ·decide
    intro y27 hy27
    refine HA_back (listed' := #[true, true, true, false, false, false, true, false, false]) rfl (fun _ hA => hA.keep (m := [nn, nn, nn, nn, nn, yy, yy, yy, yy, yy, yy, yy, yy]) (Y := [_, _, _, _, _, _, _, _]) rfl) ?_
    refine HA_take (i := 3) (listed' := #[true, true, true, true, false, false, true, false, false]) (bodyPost_pan _ _ _) rfl rfl rfl rfl (by kernel_rfl) rfl (V_move rfl) (fun _ hA => hA.keep (m := [nn, nn, nn, nn, nn, yy, yy, yy, yy, yy, yy, yy, yy]) (Y := [_, _, _, _, _, _, _, _]) rfl) ?_
    refine HA_take (i := 4) (listed' := #[true, true, true, true, true, false, true, false, false]) (bodyPost_pan _ _ _) rfl rfl rfl rfl (by kernel_rfl) rfl (V_extract (vs := [_, _]) rfl rfl) (fun _ hA => hA.keep (m := [nn, nn, nn, nn, nn, yy, yy, yy, yy, yy, yy, yy, yy]) (Y := [_, _, _, _, _, _, _, _]) rfl) ?_
    refine HA_take (i := 5) (listed' := #[true, true, true, true, true, true, true, false, false]) (bodyPost_pan _ _ _) rfl rfl rfl rfl (by kernel_rfl) rfl (V_extract (vs := [_, _]) rfl rfl) (fun _ hA => hA.keep (m := [nn, nn, nn, nn, nn, yy, yy, yy, yy, yy, yy, yy, yy]) (Y := [_, _, _, _, _, _, _, _]) rfl) ?_
    refine HA_loud1 (i := 7) (by kernel_rfl) rfl ?_
    refine HO_store (i := 4) (j := 0) (us := []) (old := [_, _]) (ts := []) (cs := [_, _]) (R := [_, _, _, _, _, _, _, _, _, _, _, _]) (new := [_, _]) rfl rfl rfl Try.sizeOf56 rfl (by simp [Value.oneCell']) rfl rfl rfl rfl rfl rfl ?_
    refine HA_back (listed' := #[true, true, true, true, true, true, true, true, false]) rfl (fun _ hA => hA.keep (m := [nn, nn, nn, nn, nn, yy, yy, yy, yy, yy, yy, yy, yy]) (Y := [_, _, _, _, _, _, _, _]) rfl) ?_
    refine HA_loud1 (i := 8) (by kernel_rfl) rfl ?_
    refine HO_store (i := 4) (j := 0) (us := []) (old := [_, _, _, _, _]) (ts := []) (cs := [_, _, _, _, _]) (R := [_, _, _, _, _, _, _, _, _, _, _, _]) (new := [_, _, _, _, _]) rfl rfl rfl Try.sizeOf38 rfl (by simp [Value.oneCell']) rfl rfl rfl rfl rfl rfl ?_
    refine HA_back (listed' := #[true, true, true, true, true, true, true, true, true]) rfl (fun _ hA => hA.keep (m := [nn, nn, nn, nn, nn, yy, yy, yy, yy, yy, yy, yy, yy]) (Y := [_, _, _, _, _, _, _, _]) rfl) ?_
    refine HA_done (by kernel_rfl) ?_
    refine H_env (ρ' := [(5, _), (1, _), (2, _), (3, _), (4, _)]) ⟨rfl, rfl, rfl, rfl, rfl, trivial⟩ ?_
    refine H_world (fun _ hA => hA.keep (m := [yy, yy, yy, yy, yy, nn, nn, yy, yy, yy, yy, yy, yy]) (Y := [_, _, _, _, _, _, _, _, _, _, _]) rfl) ?_
    refine H_inv (fun a w hf hA => ⟨⟨g1, h1, h2, h3, g5, u1, u2, u3, y27⟩, ?_, hf.sub ?_, ?_⟩)
    ·trivial
    ·exact ⟨rfl, rfl, rfl, rfl, rfl, trivial⟩
    ·exact hA.only (is := [0, 1, 2, 3, 4, 5, 6, 7, 8, 0, 4]) (Z := []) rfl
   ·refine HO_call (first := []) (capt := []) (is := []) (R := [_, _, _, _, _, _, _, _, _, _]) rfl rfl rfl rfl rfl Try.call55 rfl (lput_spec _ _) ?_
    intro y26 hy26
    clear y26 hy26
    refine HA_back (listed' := #[false, true, false, false, false, false, true, false, false]) rfl (fun _ hA => hA.keep (m := [nn, nn, yy, yy, yy, yy, yy, yy, yy, yy]) (Y := [_, _, _, _, _, _, _, _]) rfl) ?_
    refine HA_loud1 (i := 0) (by kernel_rfl) rfl ?_
    refine HO_loadA (i := 1) (us := []) (cs := [_, _]) (ts := []) rfl rfl rfl Try.isAgg56 Try.sizeOf56 rfl (.loc _ _ _) rfl rfl rfl rfl ?_
    refine HA_back (listed' := #[true, true, false, false, false, false, true, false, false]) rfl (fun _ hA => hA.keep (m := [nn, nn, yy, yy, yy, yy, yy, yy, yy, yy]) (Y := [_, _, _, _, _, _, _, _]) rfl) ?_
    refine HA_loud1 (i := 2) (by kernel_rfl) rfl ?_
    refine HO_dup (i := 2) rfl rfl ?_
    refine HO_dup (i := 4) rfl rfl ?_
    refine HO_call (first := []) (capt := []) (is := [0, 0]) (R := [_, _, _, _, _, _, _, _, _, _]) rfl rfl rfl rfl rfl Try.call29 rfl (apply_spec _ _ _ _ _ _ _ _ _ _ _ _ _ _ _ ?_ ?_ ?_ ?_ ?_ ?_) ?_
    ·exact Mod.ex3_inv
    ·decide
    ·decide
    ·decide
    ·decide
    ·decide
    intro y27 hy27
    refine HA_back (listed' := #[true, true, true, false, false, false, true, false, false]) rfl (fun _ hA => hA.keep (m := [nn, nn, nn, nn, nn, yy, yy, yy, yy, yy, yy, yy, yy]) (Y := [_, _, _, _, _, _, _, _]) rfl) ?_
    refine HA_take (i := 3) (listed' := #[true, true, true, true, false, false, true, false, false]) (bodyPost_pan _ _ _) rfl rfl rfl rfl (by kernel_rfl) rfl (V_move rfl) (fun _ hA => hA.keep (m := [nn, nn, nn, nn, nn, yy, yy, yy, yy, yy, yy, yy, yy]) (Y := [_, _, _, _, _, _, _, _]) rfl) ?_
    refine HA_take (i := 4) (listed' := #[true, true, true, true, true, false, true, false, false]) (bodyPost_pan _ _ _) rfl rfl rfl rfl (by kernel_rfl) rfl (V_extract (vs := [_, _]) rfl rfl) (fun _ hA => hA.keep (m := [nn, nn, nn, nn, nn, yy, yy, yy, yy, yy, yy, yy, yy]) (Y := [_, _, _, _, _, _, _, _]) rfl) ?_
    refine HA_take (i := 5) (listed' := #[true, true, true, true, true, true, true, false, false]) (bodyPost_pan _ _ _) rfl rfl rfl rfl (by kernel_rfl) rfl (V_extract (vs := [_, _]) rfl rfl) (fun _ hA => hA.keep (m := [nn, nn, nn, nn, nn, yy, yy, yy, yy, yy, yy, yy, yy]) (Y := [_, _, _, _, _, _, _, _]) rfl) ?_
    refine HA_loud1 (i := 7) (by kernel_rfl) rfl ?_
    refine HO_store (i := 4) (j := 0) (us := []) (old := [_, _]) (ts := []) (cs := [_, _]) (R := [_, _, _, _, _, _, _, _, _, _, _, _]) (new := [_, _]) rfl rfl rfl Try.sizeOf56 rfl (by simp [Value.oneCell']) rfl rfl rfl rfl rfl rfl ?_
    refine HA_back (listed' := #[true, true, true, true, true, true, true, true, false]) rfl (fun _ hA => hA.keep (m := [nn, nn, nn, nn, nn, yy, yy, yy, yy, yy, yy, yy, yy]) (Y := [_, _, _, _, _, _, _, _]) rfl) ?_
    refine HA_loud1 (i := 8) (by kernel_rfl) rfl ?_
    refine HO_store (i := 4) (j := 0) (us := []) (old := [_, _, _, _, _]) (ts := []) (cs := [_, _, _, _, _]) (R := [_, _, _, _, _, _, _, _, _, _, _, _]) (new := [_, _, _, _, _]) rfl rfl rfl Try.sizeOf38 rfl (by simp [Value.oneCell']) rfl rfl rfl rfl rfl rfl ?_
    refine HA_back (listed' := #[true, true, true, true, true, true, true, true, true]) rfl (fun _ hA => hA.keep (m := [nn, nn, nn, nn, nn, yy, yy, yy, yy, yy, yy, yy, yy]) (Y := [_, _, _, _, _, _, _, _]) rfl) ?_
    refine HA_done (by kernel_rfl) ?_
    refine H_env (ρ' := [(5, _), (1, _), (2, _), (3, _), (4, _)]) ⟨rfl, rfl, rfl, rfl, rfl, trivial⟩ ?_
    refine H_world (fun _ hA => hA.keep (m := [yy, yy, yy, yy, yy, nn, nn, yy, yy, yy, yy, yy, yy]) (Y := [_, _, _, _, _, _, _, _, _, _, _]) rfl) ?_
    refine H_inv (fun a w hf hA => ⟨⟨g1, h1, h2, h3, g5, u1, u2, u3, y27⟩, ?_, hf.sub ?_, ?_⟩)
    ·trivial
    ·exact ⟨rfl, rfl, rfl, rfl, rfl, trivial⟩
    ·exact hA.only (is := [0, 1, 2, 3, 4, 5, 6, 7, 8, 0, 4]) (Z := []) rfl
 rintro ⟨g1, h1, h2, h3, h4, u1, u2, u3, u4⟩ hJ
 (try dsimp only at hJ ⊢)
 refine H_seq ?_
 refine H_region (l := [_, _, _, _, _, _, _, _, _, _, _, _, _, _, _, _, _, _, _, _, _, _, _, _, _, _, _, _, _, _, _, _, _, _, _, _, _, _, _, _, _, _]) rfl ?_
 refine HO_fieldAddr (r := 3) rfl rfl rfl Try.underlying38 rfl Try.sizeOf3 rfl ?_
 refine HO_load1 (i := 3) (j := 3) rfl rfl rfl Try.isAgg3 rfl (.loc _ _ _) rfl rfl ?_
 refine HO_bin rfl rfl rfl rfl bin_eql ?_
 refine HO_move rfl rfl rfl ?_
 refine HO_split (d := 33) rfl ?_ ?_
 ·intro h33
  replace h33 := dT h33
  refine HO_fieldAddr (r := 1) rfl rfl rfl Try.underlying38 rfl Try.sizeOf4 rfl ?_
  refine HO_load1 (i := 5) (j := 1) rfl rfl rfl Try.isAgg4 rfl (.loc _ _ _) rfl rfl ?_
  refine HO_not rfl rfl rfl ?_
  refine HO_pick_t rfl rfl rfl rfl ?_
  refine HO_move rfl rfl rfl ?_
  refine HO_split (d := 38) rfl ?_ ?_
  ·intro h38
   replace h38 := nT h38
   refine HO_fieldAddr (r := 0) rfl rfl rfl Try.underlying38 rfl Try.sizeOf26 rfl ?_
   refine HO_load1 (i := 5) (j := 0) rfl rfl rfl Try.isAgg26 rfl (.loc _ _ _) rfl rfl ?_
   refine HO_bin rfl rfl rfl rfl bin_eql ?_
   refine HO_pick_t rfl rfl rfl rfl ?_
   refine HO_move rfl rfl rfl ?_
   refine HO_split (d := 43) rfl ?_ ?_
   ·intro h43
    replace h43 := dT h43
    refine HO_loadA (i := 5) (us := []) (cs := [_, _, _, _, _]) (ts := []) rfl rfl rfl Try.isAgg38 Try.sizeOf38 rfl (.loc _ _ _) rfl rfl rfl rfl ?_
    refine HO_loadA (i := 7) (us := []) (cs := [_, _, _, _, _]) (ts := []) rfl rfl rfl Try.isAgg38 Try.sizeOf38 rfl (.loc _ _ _) rfl rfl rfl rfl ?_
    refine HO_dup (i := 6) rfl rfl ?_
    refine HO_dup (i := 9) rfl rfl ?_
    refine HO_call (first := []) (capt := []) (is := [0, 0]) (R := [_, _, _, _, _, _, _, _, _, _, _]) rfl rfl rfl rfl rfl Try.call19 rfl (rrsame9_spec _ _ _ _ _ _ _ _ _ _ _ _ _ _) ?_
    intro y46 hy46
    clear y46 hy46
    refine HO_pick_t rfl rfl rfl rfl ?_
    refine HO_move rfl rfl rfl ?_
    refine HO_split (d := 48) rfl ?_ ?_
    ·intro h48
     replace h48 := dT h48
     refine HO_fieldAddr (r := 1) rfl rfl rfl Try.underlying38 rfl Try.sizeOf4 rfl ?_
     refine HO_load1 (i := 9) (j := 1) rfl rfl rfl Try.isAgg4 rfl (.loc _ _ _) rfl rfl ?_
     refine HO_pick_t rfl rfl rfl rfl ?_
     refine HO_move rfl rfl rfl ?_
     refine HO_split (d := 52) rfl ?_ ?_
     ·intro h52
      refine HO_fieldAddr (r := 2) rfl rfl rfl Try.underlying38 rfl Try.sizeOf9 rfl ?_
      refine HO_load1 (i := 9) (j := 2) rfl rfl rfl Try.isAgg9 rfl (.loc _ _ _) rfl rfl ?_
      refine HO_bin rfl rfl rfl rfl bin_eqs ?_
      refine HO_pick_t rfl rfl rfl rfl ?_
      refine HO_move rfl rfl rfl ?_
      refine HO_split (d := 57) rfl ?_ ?_
      ·intro h57
       replace h57 := dT h57
       refine HO_fieldAddr (r := 0) rfl rfl rfl Try.underlying56 rfl Try.sizeOf31 rfl ?_
       refine HO_load1 (i := 0) (j := 0) rfl rfl rfl Try.isAgg31 rfl (.loc _ _ _) rfl rfl ?_
       refine HO_bi rfl rfl rfl (bi_len_sl Try.underlying31) ?_
       refine HO_bin rfl rfl rfl rfl bin_eql ?_
       refine HO_pick_t rfl rfl rfl rfl ?_
       refine HO_move rfl rfl rfl ?_
       refine HO_split (d := 63) rfl ?_ ?_
       ·intro h63
        replace h63 := dT h63
        refine HO_fieldAddr (r := 0) rfl rfl rfl Try.underlying56 rfl Try.sizeOf31 rfl ?_
        refine HO_load1 (i := 0) (j := 0) rfl rfl rfl Try.isAgg31 rfl (.loc _ _ _) rfl rfl ?_
        refine HO_indexAddr open_Pair (i := 1) (j := 0) rfl rfl rfl rfl rfl Try.underlying31 Try.sizeOf70 rfl ?_ ?_
        ·(rw [Mod.ex_ok.2.2.2.2.2.2]; decide)
        intro b66 o66 z66 y66 hz66 hI66
        clear y66
        (try simp only [BIG] at hI66)
        refine HO_fieldAddr rfl rfl rfl Try.underlying70 rfl Try.sizeOf9 rfl ?_
        refine HO_load1 (i := 0) (j := 1) rfl rfl rfl Try.isAgg9 rfl (.elem _ _ _) rfl rfl ?_
        refine HO_bin rfl rfl rfl rfl bin_eqs ?_
        refine HO_pick_t rfl rfl rfl rfl ?_
        refine HO_assign rfl rfl rfl ?_
        refine HO_nil ?_
        refine H_env (ρ' := [(0, _)]) ⟨rfl, trivial⟩ ?_
        refine H_world (fun _ hA => hA.keep (m := [nn, nn, nn, nn, nn, nn, nn, nn, nn, nn, nn, nn]) (Y := []) rfl) ?_
        refine H_ret1 Try.results24 (.tmp rfl) (fun w hA => ⟨(), congrArg Ending.returned ?_, ?_, ?_⟩)
        ·(exact congrArg Value.bool (decide_eq_true (by have h := hz66; rw [Mod.ex_ok.2.2.2.2.2.2] at h; cases h; rfl)))
        ·trivial
        ·exact hA.keep (m := []) (Y := []) rfl
       intro h63
       replace h63 := dF h63
       (rw [Mod.ex_ok.2.2.2.2.2.2] at h63; exact absurd rfl h63)
      intro h57
      replace h57 := dF h57
      (exact absurd Mod.ex_ok.2.2.2.2.2.1 h57)
     intro h52
     (rw [Mod.ex_ok.2.2.2.2.1] at h52; cases h52)
    intro h48
    replace h48 := dF h48
    (exact absurd Mod.ex_ok.2.2.2.1 h48)
   intro h43
   replace h43 := dF h43
   (exact absurd Mod.ex_ok.2.2.1 h43)
  intro h38
  replace h38 := nF h38
  (rw [Mod.ex_ok.2.1] at h38; cases h38)
 intro h33
 replace h33 := dF h33
 (exact absurd Mod.ex_ok.1 h33)
end Go.Wk
