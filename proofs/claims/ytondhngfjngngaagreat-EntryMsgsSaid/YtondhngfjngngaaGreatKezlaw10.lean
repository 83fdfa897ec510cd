/- Contracts of the program's functions, each proved by walking its code. -/
import Derived.Test.YtondhngfjngngaaGreatKezent2
import Derived.Test.YtondhngfjngngaaGreatEnt
set_option maxRecDepth 100000
set_option linter.unusedVariables false
set_option linter.unusedSimpArgs false
namespace Go.Wk.Flaw10
open Go Go.RowKit Go.Proofs Go.Wk
theorem elt3 : Elt Tryz.prog 3 (.int .i64 (0)) 1 8 := Elt.of (by kernel_rfl) (by rfl) (by decide) (by decide)
theorem elt5 : Elt Tryz.prog 5 (.int .u8 (0)) 1 1 := Elt.of (by kernel_rfl) (by rfl) (by decide) (by decide)
theorem bd25__  : ∀ w, (Instr.build 25 (List.toArray (List.zip [] []))).run Tryz.prog w = .ok (.agg #[.slice none 0 0, .slice none 0 0]) w := fun _ => by kernel_rfl
theorem bd25_0_s {a1 : Option Addr} {n1 c1 : Nat} : ∀ w, (Instr.build 25 (List.toArray (List.zip [0] [.slice a1 n1 c1]))).run Tryz.prog w = .ok (.agg #[.slice a1 n1 c1, .slice none 0 0]) w := fun _ => by kernel_rfl
theorem bd45_0_1_2_iii {x1 : Int} {x2 : Int} {x3 : Int} : ∀ w, (Instr.build 45 (List.toArray (List.zip [0, 1, 2] [.int .i64 x1, .int .i64 x2, .int .i64 x3]))).run Tryz.prog w = .ok (.agg #[.int .i64 x1, .int .i64 x2, .int .i64 x3, .int .i64 (0), .int .i64 (0), .int .i64 (0), .string (⟨#[]⟩), .string (⟨#[]⟩), .string (⟨#[]⟩), .string (⟨#[]⟩), .int .i64 (0), .slice none 0 0, .slice none 0 0]) w := fun _ => by kernel_rfl
end Go.Wk.Flaw10
namespace Go.Wk
open Go Go.RowKit Go.Proofs Flaw10 
theorem weight_spec (ix te ki : Int) (ck cs sq : Int) (ke ol cv ti : ByteArray) (li : Int) (vo le : List Int) (a1 : Option Addr) (c1 : Nat) (a2 : Option Addr) (c2 : Nat) (z0 : ke.size ≤ BIG) (z1 : ol.size ≤ BIG) (z2 : cv.size ≤ BIG) (z3 : ti.size ≤ BIG) (n1 : vo.length ≤ BIG) (n2 : le.length ≤ BIG) : Spec Tryz.prog 14 #[.agg #[.int .i64 (ix), .int .i64 (te), .int .i64 (ki), .int .i64 (ck), .int .i64 (cs), .int .i64 (sq), .string (ke), .string (ol), .string (cv), .string (ti), .int .i64 (li), .slice a1 (vo.length) c1, .slice a2 (le.length) c2]] [.dat kInt.sl (vo) [.slice a1 (vo.length) c1], .dat kInt.sl (le) [.slice a2 (le.length) c2]] (β := Unit) (fun y => .int .i64 (Ent.weight ⟨ix, te, ki, ⟨ck, cs, sq, ke, ol, cv, ti, li⟩, ⟨vo, le⟩⟩)) (fun y => True) (fun y => []) := by
 (try simp only [BIG] at z0 z1 z2 z3 n1 n2)
 refine Spec.enter (vs := [_]) Tryz.func14 rfl Tryz.ntmps14 rfl (Nat.le_of_ble_eq_true rfl) (fun w0 ok0 => ?_)
 generalize hM0 : blks _ = M0
 have hMn := @noM _ _ hM0 (by simp [Atom.dat, Atom.elem])
 refine H_len_le (i := 0) rfl ?_
 intro hlen0
 refine H_len_le (i := 1) rfl ?_
 intro hlen1
 refine H_seq ?_
 refine H_region (l := [_, _]) rfl ?_
 refine HO_box (cs := [_, _, _, _, _, _, _, _, _, _, _, _, _]) rfl rfl rfl rfl ?_
 intro g1
 refine HO_assign rfl rfl rfl ?_
 refine HO_nil ?_
 refine H_env (ρ' := [(1, _)]) ⟨rfl, trivial⟩ ?_
 refine H_seq ?_
 refine H_region (l := [_, _, _, _]) rfl ?_
 refine HO_fieldAddr (r := 3) rfl rfl rfl Tryz.underlying45 rfl Tryz.sizeOf43 rfl ?_
 refine HO_loadA (i := 0) (us := [_, _, _]) (cs := [_, _, _, _, _, _, _, _]) (ts := [_, _]) rfl rfl rfl Tryz.isAgg43 Tryz.sizeOf43 rfl (.loc _ _ _) rfl rfl rfl rfl ?_
 refine HO_alloc (cs := [_, _, _, _, _, _, _, _]) rfl rfl Tryz.zeroValue43 rfl ?_
 intro g3
 refine HO_store (i := 0) (j := 0) (us := []) (old := [_, _, _, _, _, _, _, _]) (ts := []) (cs := [_, _, _, _, _, _, _, _]) (R := [_, _, _]) (new := [_, _, _, _, _, _, _, _]) rfl rfl rfl Tryz.sizeOf43 rfl (by simp [Value.oneCell']) rfl rfl rfl rfl rfl rfl ?_
 refine HO_nil ?_
 refine H_env (ρ' := [(3, _), (1, _)]) ⟨rfl, rfl, trivial⟩ ?_
 refine H_seq ?_
 refine H_region (l := [_, _, _, _, _, _, _, _, _, _, _, _, _, _, _, _, _, _, _, _, _, _, _, _, _, _, _, _]) rfl ?_
 refine HO_fieldAddr (r := 3) rfl rfl rfl Tryz.underlying43 rfl Tryz.sizeOf9 rfl ?_
 refine HO_load1 (i := 0) (j := 3) rfl rfl rfl Tryz.isAgg9 rfl (.loc _ _ _) rfl rfl ?_
 refine HO_bi rfl rfl rfl (bi_len_str Tryz.underlying9) ?_
 refine HO_fieldAddr (r := 4) rfl rfl rfl Tryz.underlying43 rfl Tryz.sizeOf9 rfl ?_
 refine HO_load1 (i := 0) (j := 4) rfl rfl rfl Tryz.isAgg9 rfl (.loc _ _ _) rfl rfl ?_
 refine HO_bi rfl rfl rfl (bi_len_str Tryz.underlying9) ?_
 refine HO_bin rfl rfl rfl rfl (bin_add ?_ ?_) ?_
 ·omega
 ·omega
 refine HO_fieldAddr (r := 5) rfl rfl rfl Tryz.underlying43 rfl Tryz.sizeOf9 rfl ?_
 refine HO_load1 (i := 0) (j := 5) rfl rfl rfl Tryz.isAgg9 rfl (.loc _ _ _) rfl rfl ?_
 refine HO_bi rfl rfl rfl (bi_len_str Tryz.underlying9) ?_
 refine HO_bin rfl rfl rfl rfl (bin_add ?_ ?_) ?_
 ·omega
 ·omega
 refine HO_fieldAddr (r := 6) rfl rfl rfl Tryz.underlying43 rfl Tryz.sizeOf9 rfl ?_
 refine HO_load1 (i := 0) (j := 6) rfl rfl rfl Tryz.isAgg9 rfl (.loc _ _ _) rfl rfl ?_
 refine HO_bi rfl rfl rfl (bi_len_str Tryz.underlying9) ?_
 refine HO_bin rfl rfl rfl rfl (bin_add ?_ ?_) ?_
 ·omega
 ·omega
 refine HO_bin rfl rfl rfl rfl (bin_quo ?_ ?_ ?_) ?_
 ·omega
 ·omega
 ·omega
 refine HO_bin rfl rfl rfl rfl (bin_add ?_ ?_) ?_
 ·omega
 ·omega
 refine HO_fieldAddr (r := 11) rfl rfl rfl Tryz.underlying45 rfl Tryz.sizeOf25 rfl ?_
 refine HO_fieldAddr (r := 11) rfl rfl rfl Tryz.underlying25 rfl Tryz.sizeOf23 rfl ?_
 refine HO_load1 (i := 1) (j := 11) rfl rfl rfl Tryz.isAgg23 rfl (.loc _ _ _) rfl rfl ?_
 refine HO_bi rfl rfl rfl (bi_len_sl Tryz.underlying23) ?_
 refine HO_bin rfl rfl rfl rfl (bin_add ?_ ?_) ?_
 ·omega
 ·omega
 refine HO_fieldAddr (r := 11) rfl rfl rfl Tryz.underlying45 rfl Tryz.sizeOf25 rfl ?_
 refine HO_fieldAddr (r := 12) rfl rfl rfl Tryz.underlying25 rfl Tryz.sizeOf23 rfl ?_
 refine HO_load1 (i := 1) (j := 12) rfl rfl rfl Tryz.isAgg23 rfl (.loc _ _ _) rfl rfl ?_
 refine HO_bi rfl rfl rfl (bi_len_sl Tryz.underlying23) ?_
 refine HO_bin rfl rfl rfl rfl (bin_add ?_ ?_) ?_
 ·omega
 ·omega
 refine HO_assign rfl rfl rfl ?_
 refine HO_nil ?_
 refine H_env (ρ' := [(2, _)]) ⟨rfl, trivial⟩ ?_
 refine H_world (fun _ hA => hA.keep (m := [nn, nn, nn, nn]) (Y := []) rfl) ?_
 refine H_ret1 Tryz.results14 (.tmp rfl) (fun w hA => ⟨(), congrArg Ending.returned ?_, ?_, ?_⟩)
 ·rfl
 ·trivial
 ·exact hA.keep (m := []) (Y := []) rfl
theorem few10_spec (mk mf mt me mi ml mc mr : Int) (rj : Bool) (hi : Int) (es : List Ent) (a9 : Option Addr) (c9 : Nat) (ix te : Int) (vo le : List Int) (a1 : Option Addr) (c1 : Nat) (a2 : Option Addr) (c2 : Nat) (da : List UInt8) (a3 : Option Addr) (c3 : Nat) (nd : da.length ≤ BIG) (n1 : vo.length ≤ BIG) (n2 : le.length ≤ BIG) : Spec Tryz.prog 4 #[.agg #[.int .i64 (mk), .int .i64 (mf), .int .i64 (mt), .int .i64 (me), .int .i64 (mi), .int .i64 (ml), .int .i64 (mc), .int .i64 (mr), .bool (rj), .int .i64 (hi), .slice a9 (es.length) c9, .int .i64 (ix), .int .i64 (te), .slice a1 (vo.length) c1, .slice a2 (le.length) c2, .slice a3 (da.length) c3]] [.dat kEnt.sl (es) [.slice a9 (es.length) c9], .dat kInt.sl (vo) [.slice a1 (vo.length) c1], .dat kInt.sl (le) [.slice a2 (le.length) c2], .dat kByte.sl (da) [.slice a3 (da.length) c3]] (β := Unit) (fun y => .bool (Ent.few es ⟨ix, te, ⟨vo, le⟩, da⟩)) (fun y => True) (fun y => []) := by
 (try simp only [BIG] at nd n1 n2)
 refine Spec.enter (vs := [_]) Tryz.func4 rfl Tryz.ntmps4 rfl (Nat.le_of_ble_eq_true rfl) (fun w0 ok0 => ?_)
 generalize hM0 : blks _ = M0
 have hMn := @noM _ _ hM0 (by simp [Atom.dat, Atom.elem])
 refine H_len_le (i := 0) rfl ?_
 intro hlen0
 refine H_len_le (i := 1) rfl ?_
 intro hlen1
 refine H_len_le (i := 2) rfl ?_
 intro hlen2
 refine H_seq ?_
 refine H_region (l := [_, _]) rfl ?_
 refine HO_box (cs := [_, _, _, _, _, _, _, _, _, _, _, _, _, _, _, _]) rfl rfl rfl rfl ?_
 intro g1
 refine HO_assign rfl rfl rfl ?_
 refine HO_nil ?_
 refine H_env (ρ' := [(1, _)]) ⟨rfl, trivial⟩ ?_
 refine H_seq ?_
 refine H_region (l := [_, _, _, _, _, _, _, _, _, _, _, _, _, _, _, _, _, _]) rfl ?_
 refine HO_fieldAddr (r := 11) rfl rfl rfl Tryz.underlying30 rfl Tryz.sizeOf28 rfl ?_
 refine HO_fieldAddr (r := 15) rfl rfl rfl Tryz.underlying28 rfl Tryz.sizeOf26 rfl ?_
 refine HO_load1 (i := 0) (j := 15) rfl rfl rfl Tryz.isAgg26 rfl (.loc _ _ _) rfl rfl ?_
 refine HO_bi rfl rfl rfl (bi_len_sl Tryz.underlying26) ?_
 refine HO_bin rfl rfl rfl rfl (bin_quo ?_ ?_ ?_) ?_
 ·omega
 ·omega
 ·omega
 refine HO_fieldAddr (r := 11) rfl rfl rfl Tryz.underlying30 rfl Tryz.sizeOf28 rfl ?_
 refine HO_fieldAddr (r := 13) rfl rfl rfl Tryz.underlying28 rfl Tryz.sizeOf25 rfl ?_
 refine HO_fieldAddr (r := 13) rfl rfl rfl Tryz.underlying25 rfl Tryz.sizeOf23 rfl ?_
 refine HO_load1 (i := 0) (j := 13) rfl rfl rfl Tryz.isAgg23 rfl (.loc _ _ _) rfl rfl ?_
 refine HO_bi rfl rfl rfl (bi_len_sl Tryz.underlying23) ?_
 refine HO_bin rfl rfl rfl rfl (bin_add ?_ ?_) ?_
 ·omega
 ·omega
 refine HO_fieldAddr (r := 11) rfl rfl rfl Tryz.underlying30 rfl Tryz.sizeOf28 rfl ?_
 refine HO_fieldAddr (r := 13) rfl rfl rfl Tryz.underlying28 rfl Tryz.sizeOf25 rfl ?_
 refine HO_fieldAddr (r := 14) rfl rfl rfl Tryz.underlying25 rfl Tryz.sizeOf23 rfl ?_
 refine HO_load1 (i := 0) (j := 14) rfl rfl rfl Tryz.isAgg23 rfl (.loc _ _ _) rfl rfl ?_
 refine HO_bi rfl rfl rfl (bi_len_sl Tryz.underlying23) ?_
 refine HO_bin rfl rfl rfl rfl (bin_add ?_ ?_) ?_
 ·omega
 ·omega
 refine HO_assign rfl rfl rfl ?_
 refine HO_nil ?_
 refine H_env (ρ' := [(3, _), (1, _)]) ⟨rfl, rfl, trivial⟩ ?_
 refine H_seq ?_
 refine H_seq ?_
 have hf0 : 0 ≤ Ent.fewS ⟨ix, te, ⟨vo, le⟩, da⟩ ∧ Ent.fewS ⟨ix, te, ⟨vo, le⟩, da⟩ ≤ 422212465053696 := by unfold Ent.fewS; dsimp only; omega
 refine H_region (l := [_, _, _, _]) rfl ?_
 refine HO_fieldAddr (r := 10) rfl rfl rfl Tryz.underlying30 rfl Tryz.sizeOf22 rfl ?_
 refine HO_load1 (i := 0) (j := 10) rfl rfl rfl Tryz.isAgg22 rfl (.loc _ _ _) rfl rfl ?_
 refine HO_bi rfl rfl rfl (bi_len_sl Tryz.underlying22) ?_
 refine HO_move rfl rfl rfl ?_
 refine HO_nil ?_
 refine H_env (ρ' := [(26, _), (25, _), (24, _), (3, _)]) ⟨rfl, rfl, rfl, rfl, trivial⟩ ?_
 refine H_world (fun _ hA => hA.keep (m := [nn, yy, nn, nn, nn]) (Y := [_]) rfl) ?_
 refine H_block ?_
 refine H_loop (σ := Nat × Int) (fun s => s.1 ≤ es.length ∧ s.2 = Ent.fewS ⟨ix, te, ⟨vo, le⟩, da⟩ + Ent.wsum (es.take s.1) ∧ 0 ≤ s.2 ∧ s.2 ≤ 422212465053696) (fun s => [(3, .int .i64 (s.2)), (24, .slice a9 (es.length) c9), (25, .int .i64 ((es.length : Int))), (26, .int .i64 ((s.1 : Int)))]) (fun s => Asn w0 ok0 M0 [.dat kEnt.sl (es) [.slice a9 (es.length) c9]]) (fun s => es.length - s.1) ⟨0, Ent.fewS ⟨ix, te, ⟨vo, le⟩, da⟩⟩ ?_ ?_ ?_ ?_
 ·exact ⟨Nat.zero_le _, by simp [Ent.wsum], hf0⟩
 ·exact ⟨rfl, rfl, rfl, rfl, trivial⟩
 ·intro w hA
  exact hA.only (is := [0]) (Z := []) rfl
 ·rintro ⟨i, n⟩ hI
  (try dsimp only at hI ⊢)
  refine H_seq ?_
  refine H_region (l := [_]) rfl ?_
  refine HO_bin rfl rfl rfl rfl bin_lss ?_
  refine HO_nil ?_
  refine H_seq ?_
  refine H_cond rfl ?_ ?_
  ·intro h27
   replace h27 := dT h27
   refine H_skip ?_
   refine H_seq ?_
   refine H_block ?_
   refine H_seq ?_
   refine H_region (l := [_, _, _, _]) rfl ?_
   refine HO_indexAddr open_Ent (i := 0) rfl rfl rfl rfl rfl Tryz.underlying22 Tryz.sizeOf45 rfl ?_ ?_
   ·omega
   intro b28 o28 z28 y28 hz28 hI28
   (try simp only [BIG] at hI28)
   refine HO_loadA (i := 0) (us := []) (cs := [_, _, _, _, _, _, _, _, _, _, _, _, _]) (ts := []) rfl rfl rfl Tryz.isAgg45 Tryz.sizeOf45 rfl (.elem _ _ _) rfl rfl rfl rfl ?_
   refine HO_alloc (cs := [_, _, _, _, _, _, _, _, _, _, _, _, _]) rfl rfl Tryz.zeroValue45 rfl ?_
   intro g5
   refine HO_store (i := 0) (j := 0) (us := []) (old := [_, _, _, _, _, _, _, _, _, _, _, _, _]) (ts := []) (cs := [_, _, _, _, _, _, _, _, _, _, _, _, _]) (R := [_, _, _, _]) (new := [_, _, _, _, _, _, _, _, _, _, _, _, _]) rfl rfl rfl Tryz.sizeOf45 rfl (by simp [Value.oneCell']) rfl rfl rfl rfl rfl rfl ?_
   refine HO_nil ?_
   refine H_env (ρ' := [(5, _), (3, _), (24, _), (25, _), (26, _)]) ⟨rfl, rfl, rfl, rfl, rfl, trivial⟩ ?_
   refine H_world (fun _ hA => hA.keep (m := [yy, nn, yy, yy, yy]) (Y := [_, _, _, _]) rfl) ?_
   refine H_seq ?_
   refine H_region (l := [_, _, _, _, _]) rfl ?_
   refine HO_move rfl rfl rfl ?_
   refine HO_loadA (i := 0) (us := []) (cs := [_, _, _, _, _, _, _, _, _, _, _, _, _]) (ts := []) rfl rfl rfl Tryz.isAgg45 Tryz.sizeOf45 rfl (.loc _ _ _) rfl rfl rfl rfl ?_
   refine HO_dup (i := 1) rfl rfl ?_
   refine HO_dup (i := 3) rfl rfl ?_
   refine HO_call (first := []) (capt := []) (is := [0, 0]) (R := [_, _, _, _]) rfl rfl rfl rfl rfl Tryz.call14 rfl (weight_spec _ _ _ _ _ _ _ _ _ _ _ _ _ _ _ _ _ ?_ ?_ ?_ ?_ ?_ ?_) ?_
   ·(dsimp only [BIG]; omega)
   ·(dsimp only [BIG]; omega)
   ·(dsimp only [BIG]; omega)
   ·(dsimp only [BIG]; omega)
   ·(dsimp only [BIG]; omega)
   ·(dsimp only [BIG]; omega)
   intro y32 hy32
   clear y32 hy32
   refine HO_set (v' := .int .i64 (Ent.weight z28)) 32 rfl (by rfl) ?_
   have hwz : Ent.weight z28 ≤ 844424930107392 ∧ 1 ≤ Ent.weight z28 := by refine ⟨?_, Ent.weight_pos _⟩; unfold Ent.weight; omega
   refine HO_bin rfl rfl rfl rfl (bin_add ?_ ?_) ?_
   ·omega
   ·omega
   refine HO_assign rfl rfl rfl ?_
   refine HO_nil ?_
   refine H_env (ρ' := [(3, _), (24, _), (25, _), (26, _)]) ⟨rfl, rfl, rfl, rfl, trivial⟩ ?_
   refine H_world (fun _ hA => hA.keep (m := [nn, nn, nn, yy]) (Y := [_]) rfl) ?_
   refine H_seq ?_
   refine H_region (l := [_, _]) rfl ?_
   refine HO_move rfl rfl rfl ?_
   refine HO_bin rfl rfl rfl rfl bin_gtr ?_
   refine HO_nil ?_
   refine H_env (ρ' := [(35, _), (3, _), (24, _), (25, _), (26, _)]) ⟨rfl, rfl, rfl, rfl, rfl, trivial⟩ ?_
   refine H_cond rfl ?_ ?_
   ·intro h35
    replace h35 := dT h35
    refine H_seq ?_
    refine H_region (l := [_]) rfl ?_
    refine HO_assign rfl rfl rfl ?_
    refine HO_nil ?_
    refine H_env (ρ' := [(2, _)]) ⟨rfl, trivial⟩ ?_
    refine H_world (fun _ hA => hA.keep (m := [nn]) (Y := []) rfl) ?_
    refine H_ret1 Tryz.results4 (.tmp rfl) (fun w hA => ⟨(), congrArg Ending.returned ?_, ?_, ?_⟩)
    ·(exact congrArg Value.bool (Ent.few_no hz28 hI.2.1 h35))
    ·trivial
    ·exact hA.keep (m := []) (Y := []) rfl
   intro h35
   replace h35 := dF h35
   refine H_skip ?_
   refine H_blk ?_
   refine H_region (l := [_, _]) rfl ?_
   refine HO_bin rfl rfl rfl rfl (bin_add ?_ ?_) ?_
   ·omega
   ·omega
   refine HO_move rfl rfl rfl ?_
   refine HO_nil ?_
   refine H_env (ρ' := [(26, _), (3, _), (24, _), (25, _)]) ⟨rfl, rfl, rfl, rfl, trivial⟩ ?_
   refine H_inv (fun a w hf hA => ⟨⟨i + 1, n + Ent.weight z28⟩, ?_, ?_, hf.sub ?_, ?_⟩)
   ·exact ⟨by omega, by rw [hI.2.1, Ent.wsum_next hz28]; omega, by dsimp only; omega, by dsimp only; omega⟩
   ·(try dsimp only); omega
   ·exact ⟨rfl, rfl, rfl, rfl, trivial⟩
   ·exact hA.only (is := [0]) (Z := []) rfl
  intro h27
  replace h27 := dF h27
  refine H_exit rfl ?_
  refine H_seq ?_
  refine H_region (l := [_, _, _]) rfl ?_
  refine HO_move rfl rfl rfl ?_
  refine HO_bin rfl rfl rfl rfl bin_leq ?_
  refine HO_assign rfl rfl rfl ?_
  refine HO_nil ?_
  refine H_env (ρ' := [(2, _)]) ⟨rfl, trivial⟩ ?_
  refine H_world (fun _ hA => hA.keep (m := [nn]) (Y := []) rfl) ?_
  obtain rfl : i = es.length := by omega
  refine H_ret1 Tryz.results4 (.tmp rfl) (fun w hA => ⟨(), congrArg Ending.returned ?_, ?_, ?_⟩)
  ·(exact congrArg Value.bool (by unfold Ent.few; rw [hI.2.1, List.take_length]))
  ·trivial
  ·exact hA.keep (m := []) (Y := []) rfl
theorem lives10_spec  : Spec Tryz.prog 5 #[] [] (β := Unit) (fun y => .bool (true)) (fun y => True) (fun y => []) := by
 refine Spec.enter (vs := []) Tryz.func5 rfl Tryz.ntmps5 rfl (Nat.le_of_ble_eq_true rfl) (fun w0 ok0 => ?_)
 generalize hM0 : blks _ = M0
 have hMn := @noM _ _ hM0 (by simp [Atom.dat, Atom.elem])
 refine H_seq ?_
 refine H_region (l := [_]) rfl ?_
 refine HO_assign rfl rfl rfl ?_
 refine HO_nil ?_
 refine H_env (ρ' := []) trivial ?_
 refine H_seq ?_
 refine H_region (l := [_, _, _]) rfl ?_
 refine HO_build (xo := [(0, _), (1, _), (2, _)]) (vs := [_, _, _]) rfl rfl rfl rfl (bd45_0_1_2_iii) ?_
 refine HO_alloc (cs := [_, _, _, _, _, _, _, _, _, _, _, _, _]) rfl rfl Tryz.zeroValue45 rfl ?_
 intro g1
 refine HO_store (i := 0) (j := 0) (us := []) (old := [_, _, _, _, _, _, _, _, _, _, _, _, _]) (ts := []) (cs := [_, _, _, _, _, _, _, _, _, _, _, _, _]) (R := []) (new := [_, _, _, _, _, _, _, _, _, _, _, _, _]) rfl rfl rfl Tryz.sizeOf45 rfl (by simp [Value.oneCell']) rfl rfl rfl rfl rfl rfl ?_
 refine HO_nil ?_
 refine H_env (ρ' := [(1, _)]) ⟨rfl, trivial⟩ ?_
 refine H_seq ?_
 refine H_region (l := [_, _, _, _, _, _, _, _, _, _, _, _, _, _, _, _, _, _, _]) rfl ?_
 refine HO_loadA (i := 0) (us := []) (cs := [_, _, _, _, _, _, _, _, _, _, _, _, _]) (ts := []) rfl rfl rfl Tryz.isAgg45 Tryz.sizeOf45 rfl (.loc _ _ _) rfl rfl rfl rfl ?_
 refine HO_nilDat kInt ?_
 refine HO_nilDat kInt ?_
 refine HO_dup (i := 1) rfl rfl ?_
 refine HO_dup (i := 1) rfl rfl ?_
 refine HO_call (first := []) (capt := []) (is := [0, 0]) (R := [_, _, _]) rfl rfl rfl rfl rfl Tryz.call15 rfl (entgood_spec _ _ _ _ _ _ _ _ _ _ _ _ _ _ _ _ _ ?_ ?_) ?_
 ·(first | omega | assumption | decide)
 ·(first | omega | assumption | decide)
 intro y4 hy4
 clear y4 hy4
 refine HO_move rfl rfl rfl ?_
 refine HO_split (d := 5) rfl ?_ ?_
 ·intro h5
  refine HO_loadA (i := 2) (us := []) (cs := [_, _, _, _, _, _, _, _, _, _, _, _, _]) (ts := []) rfl rfl rfl Tryz.isAgg45 Tryz.sizeOf45 rfl (.loc _ _ _) rfl rfl rfl rfl ?_
  refine HO_nilDat kInt ?_
  refine HO_nilDat kInt ?_
  refine HO_dup (i := 1) rfl rfl ?_
  refine HO_dup (i := 1) rfl rfl ?_
  refine HO_call (first := []) (capt := []) (is := [0, 0]) (R := [_, _, _, _, _]) rfl rfl rfl rfl rfl Tryz.call16 rfl (entbytes_spec _ _ _ _ _ _ _ _ _ _ _ _ _ _ _ _ _ ?_ ?_ ?_ ?_) ?_
  ·(first | omega | assumption | decide)
  ·(first | omega | assumption | decide)
  ·(first | omega | assumption | decide)
  ·(first | omega | assumption | decide)
  intro y7 hy7
  refine HO_buildSlice (kd := kByte) (xo := [_, _, _]) (vs := [_, _, _]) (cs := [_, _, _]) (xs := [2, 2, 2]) rfl rfl rfl rfl Tryz.underlying26 elt5 rfl rfl rfl (by decide) (by decide) (by simp [Value.cells]) rfl (fun _ _ _ => ⟨_, _, rfl, ⟨rfl, trivial⟩, ⟨_, _, rfl, ⟨rfl, trivial⟩, ⟨_, _, rfl, ⟨rfl, trivial⟩, rfl⟩⟩⟩) ?_
  intro g8
  refine HO_dup (i := 1) rfl rfl ?_
  refine HO_call (first := []) (capt := []) (is := [0, 1]) (R := [_, _, _, _, _, _]) rfl rfl rfl rfl rfl Tryz.call10 rfl (Spec.lend (pre1 := [_]) (pre2 := []) (rsame_spec _ _ _ _ _ _) rfl (fun _ _ ha => nomatch ha)) ?_
  intro y9 hy9
  clear y9 hy9
  refine HO_pick_t rfl rfl rfl rfl ?_
  refine HO_move rfl rfl rfl ?_
  refine HO_split (d := 11) rfl ?_ ?_
  ·intro h11
   replace h11 := dT h11
   refine HO_build (xo := []) (vs := []) rfl rfl rfl rfl (bd25__) ?_
   refine HO_nilDat kInt ?_
   refine HO_nilDat kInt ?_
   refine HO_dup (i := 1) rfl rfl ?_
   refine HO_dup (i := 1) rfl rfl ?_
   refine HO_call (first := []) (capt := []) (is := [0, 0]) (R := [_, _, _, _, _, _, _, _, _]) rfl rfl rfl rfl rfl Tryz.call17 rfl (goodconf_spec _ _ _ _ _ _) ?_
   intro y13 hy13
   clear y13 hy13
   refine HO_not rfl rfl rfl ?_
   refine HO_pick_t rfl rfl rfl rfl ?_
   refine HO_move rfl rfl rfl ?_
   refine HO_split (d := 16) rfl ?_ ?_
   ·intro h16
    replace h16 := nT h16
    refine HO_buildSlice (kd := kInt) (xo := [_, _]) (vs := [_, _]) (cs := [_, _]) (xs := [1, 3]) rfl rfl rfl rfl Tryz.underlying23 elt3 rfl rfl rfl (by decide) (by decide) (by simp [Value.cells]) rfl (by intro ok w _; exact ⟨_, _, rfl, ⟨rfl, by first | omega | (constructor <;> omega)⟩, ⟨_, _, rfl, ⟨rfl, by first | omega | (constructor <;> omega)⟩, rfl⟩⟩) ?_
    intro g17
    refine HO_build (xo := [(0, _)]) (vs := [_]) rfl rfl rfl rfl (bd25_0_s) ?_
    refine HO_nilDat kInt ?_
    refine HO_dup (i := 0) rfl rfl ?_
    refine HO_call (first := []) (capt := []) (is := [1, 0]) (R := [_, _, _, _, _, _, _, _, _, _]) rfl rfl rfl rfl rfl Tryz.call17 rfl (Spec.lend (pre1 := []) (pre2 := [_]) (goodconf_spec _ _ _ _ _ _) rfl (fun _ _ ha => nomatch ha)) ?_
    intro y19 hy19
    clear y19 hy19
    refine HO_pick_t rfl rfl rfl rfl ?_
    refine HO_assign rfl rfl rfl ?_
    refine HO_nil ?_
    refine H_env (ρ' := [(0, _)]) ⟨rfl, trivial⟩ ?_
    refine H_world (fun _ hA => hA.keep (m := [nn, nn, nn, nn, nn, nn, nn, nn, nn, nn, nn]) (Y := []) rfl) ?_
    refine H_ret1 Tryz.results5 (.tmp rfl) (fun w hA => ⟨(), congrArg Ending.returned ?_, ?_, ?_⟩)
    ·(exact congrArg Value.bool (by decide +kernel))
    ·trivial
    ·exact hA.keep (m := []) (Y := []) rfl
   intro h16
   replace h16 := nF h16
   (exact absurd h16 (by decide +kernel))
  intro h11
  replace h11 := dF h11
  (exact absurd h11 (by decide +kernel))
 intro h5
 (exact absurd h5 (by decide +kernel))
end Go.Wk
