/- Contracts of the program's functions, each proved by walking its code. -/
import Derived.Test.YtondhngfjngngaaKerep
import Derived.Test.YtondhngfjngngaaRep
import Derived.Test.YtondhngfjngngaaKinds
set_option maxRecDepth 100000
set_option linter.unusedVariables false
set_option linter.unusedSimpArgs false
namespace Go.Wk.Flaw09c
open Go Go.RowKit Go.Proofs Go.Wk
theorem elt5 : Elt Try.prog 5 (.int .u8 (0)) 1 1 := Elt.of (by kernel_rfl) (by rfl) (by decide) (by decide)
theorem eq23_eql {x y : Operand} {a0 b0 : Int} {a1 b1 : Int} {a2 b2 : Int} {a3 b3 : ByteArray} {a4 b4 : ByteArray} {a5 b5 : ByteArray} {a6 b6 : ByteArray} {a7 b7 : Int} : BinR Try.prog .eql 23 x y (.agg #[.int .i64 a0, .int .i64 a1, .int .i64 a2, .string a3, .string a4, .string a5, .string a6, .int .i64 a7]) (.agg #[.int .i64 b0, .int .i64 b1, .int .i64 b2, .string b3, .string b4, .string b5, .string b6, .int .i64 b7]) (.bool (decide (a0 = b0) && (decide (a1 = b1) && (decide (a2 = b2) && (decide (a3 = b3) && (decide (a4 = b4) && (decide (a5 = b5) && (decide (a6 = b6) && (decide (a7 = b7) && true))))))))) :=
  bin_eqs_agg (by kernel_rfl) Try.underlying23 (by kernel_rfl) (fun w => (eqF_int (by decide) Try.underlying3 Try.isAgg3 rfl rfl (eqF_int (by decide) Try.underlying3 Try.isAgg3 rfl rfl (eqF_int (by decide) Try.underlying3 Try.isAgg3 rfl rfl (eqF_str (by decide) Try.underlying9 Try.isAgg9 rfl rfl (eqF_str (by decide) Try.underlying9 Try.isAgg9 rfl rfl (eqF_str (by decide) Try.underlying9 Try.isAgg9 rfl rfl (eqF_str (by decide) Try.underlying9 Try.isAgg9 rfl rfl (eqF_int (by decide) Try.underlying3 Try.isAgg3 rfl rfl eqF_nil)))))))))
end Go.Wk.Flaw09c
namespace Go.Wk
open Go Go.RowKit Go.Proofs Flaw09c 
theorem CommandSames_spec (er : Int) (fo : Bool) (va : ByteArray) (se : Int) (ps : List Pair) (a : Option Addr) (c : Nat) (er2 : Int) (fo2 : Bool) (va2 : ByteArray) (se2 : Int) (ps2 : List Pair) (a2 : Option Addr) (c2 : Nat) (ve : -9223372036854775808 ≤ er ∧ er ≤ 9223372036854775807) (vs : -9223372036854775808 ≤ se ∧ se ≤ 9223372036854775807) (sv : va.size ≤ BIG) (sl : ps.length ≤ BIG) (ve2 : -9223372036854775808 ≤ er2 ∧ er2 ≤ 9223372036854775807) (vs2 : -9223372036854775808 ≤ se2 ∧ se2 ≤ 9223372036854775807) (sv2 : va2.size ≤ BIG) (sl2 : ps2.length ≤ BIG) : Spec Try.prog 4 #[.agg #[.int .i64 (er), .bool (fo), .string (va), .int .i64 (se), .slice a (ps.length) c], .agg #[.int .i64 (er2), .bool (fo2), .string (va2), .int .i64 (se2), .slice a2 (ps2.length) c2]] [.dat kPair.sl (ps) [.slice a (ps.length) c], .dat kPair.sl (ps2) [.slice a2 (ps2.length) c2]] (β := Unit) (fun y => .bool (true)) (fun y => True) (fun y => []) := by
  refine Spec.enter (vs := [_, _]) Try.func4 rfl Try.ntmps4 rfl (Nat.le_of_ble_eq_true rfl) (fun w0 ok0 => ?_)
  generalize hM0 : blks _ = M0
  have hMn : ∀ {R : List Atom} (b : Nat), M0 b → blks R b := fun b hb => absurd (hM0 ▸ hb) (blks_none (by simp [Atom.dat, Atom.elem]) b)
  refine H_len_le (i := 0) rfl ?_
  intro hlen0
  refine H_len_le (i := 1) rfl ?_
  intro hlen1
  refine H_seq ?_
  -- R0 law.go:88
  refine H_region (l := [_, _, _]) rfl ?_
  refine HO_box (cs := [_, _, _, _, _]) rfl rfl rfl rfl ?_
  intro g2
  refine HO_box (cs := [_, _, _, _, _]) rfl rfl rfl rfl ?_
  intro g3
  refine HO_assign rfl rfl rfl ?_
  refine HO_nil ?_
  refine H_env (ρ' := [(3, _), (2, _)]) ⟨rfl, rfl, trivial⟩ ?_
  refine H_seq ?_
  refine H_seq ?_
  -- R1 law.go:89
  refine H_region (l := [_, _, _, _, _, _, _, _]) rfl ?_
  refine HO_loadA (i := 1) (us := []) (cs := [_, _, _, _, _]) (ts := []) rfl rfl rfl Try.isAgg34 Try.sizeOf34 rfl (.loc _ _ _) rfl rfl rfl rfl ?_
  refine HO_dup (i := 2) rfl rfl ?_
  refine HO_call (first := []) (capt := []) (is := [0]) (R := [_, _, _, _]) rfl rfl rfl rfl rfl Try.call25 rfl (few_spec _ _ _ _ _ _ _ ?_) ?_
  · (first | omega | assumption | decide)
  intro y7 hy7
  clear y7 hy7
  refine HO_not rfl rfl rfl ?_
  refine HO_move rfl rfl rfl ?_
  refine HO_split (d := 9) rfl ?_ ?_
  · intro h9
    (try simp only [decide_eq_true_eq, decide_eq_false_iff_not, Bool.not_eq_true', Bool.not_eq_false', Bool.not_eq_true, Bool.not_eq_false, Bool.true_eq_false, Bool.false_eq_true, not_false_eq_true, not_true_eq_false] at h9)
    refine HO_no rfl rfl rfl ?_
    refine HO_no rfl rfl rfl ?_
    refine HO_no rfl rfl rfl ?_
    refine HO_pick_t rfl rfl rfl rfl ?_
    refine HO_nil ?_
    refine H_env (ρ' := [(13, _), (3, _), (2, _)]) ⟨rfl, rfl, rfl, trivial⟩ ?_
    refine H_cond rfl (fun _ => ?_) (fun h => nomatch h)
    refine H_seq ?_
    -- R2 law.go:90
    refine H_region (l := [_, _]) rfl ?_
    refine HO_call (first := []) (capt := []) (is := []) (R := [_, _, _, _]) rfl rfl rfl rfl rfl Try.call15 rfl lives09_spec ?_
    intro y14 hy14
    clear y14 hy14
    refine HO_assign rfl rfl rfl ?_
    refine HO_nil ?_
    refine H_env (ρ' := [(4, _)]) ⟨rfl, trivial⟩ ?_
    refine H_world (fun _ hA => hA.drop (is := [0, 1, 2, 3]) (Y := [_, _, _, _]) (Z := []) rfl) ?_
    -- end1
    refine H_ret1 Try.results4 (.tmp rfl) (fun w hA => ⟨(), congrArg Ending.returned ?_, ?_, ?_⟩)
    · (exact congrArg Value.bool (by first | rfl | assumption | simp_all))
    · trivial
    · exact hA.only (is := []) (Z := []) rfl
  · intro h9
    (try simp only [decide_eq_true_eq, decide_eq_false_iff_not, Bool.not_eq_true', Bool.not_eq_false', Bool.not_eq_true, Bool.not_eq_false, Bool.true_eq_false, Bool.false_eq_true, not_false_eq_true, not_true_eq_false] at h9)
    refine HO_loadA (i := 0) (us := []) (cs := [_, _, _, _, _]) (ts := []) rfl rfl rfl Try.isAgg34 Try.sizeOf34 rfl (.loc _ _ _) rfl rfl rfl rfl ?_
    refine HO_dup (i := 3) rfl rfl ?_
    refine HO_call (first := []) (capt := []) (is := [0]) (R := [_, _, _, _]) rfl rfl rfl rfl rfl Try.call25 rfl (few_spec _ _ _ _ _ _ _ ?_) ?_
    · (first | omega | assumption | decide)
    intro y11 hy11
    clear y11 hy11
    refine HO_not rfl rfl rfl ?_
    refine HO_pick_f rfl rfl rfl rfl ?_
    refine HO_nil ?_
    refine H_env (ρ' := [(13, _), (3, _), (2, _)]) ⟨rfl, rfl, rfl, trivial⟩ ?_
    refine H_cond rfl ?_ ?_
    · intro h13
      (try simp only [decide_eq_true_eq, decide_eq_false_iff_not, Bool.not_eq_true', Bool.not_eq_false', Bool.not_eq_true, Bool.not_eq_false, Bool.true_eq_false, Bool.false_eq_true, not_false_eq_true, not_true_eq_false] at h13)
      refine H_seq ?_
      -- R2 law.go:90
      refine H_region (l := [_, _]) rfl ?_
      refine HO_call (first := []) (capt := []) (is := []) (R := [_, _, _, _]) rfl rfl rfl rfl rfl Try.call15 rfl lives09_spec ?_
      intro y14 hy14
      clear y14 hy14
      refine HO_assign rfl rfl rfl ?_
      refine HO_nil ?_
      refine H_env (ρ' := [(4, _)]) ⟨rfl, trivial⟩ ?_
      refine H_world (fun _ hA => hA.drop (is := [0, 1, 2, 3]) (Y := [_, _, _, _]) (Z := []) rfl) ?_
      -- end2
      refine H_ret1 Try.results4 (.tmp rfl) (fun w hA => ⟨(), congrArg Ending.returned ?_, ?_, ?_⟩)
      · (exact congrArg Value.bool (by first | rfl | assumption | simp_all))
      · trivial
      · exact hA.only (is := []) (Z := []) rfl
    · intro h13
      (try simp only [decide_eq_true_eq, decide_eq_false_iff_not, Bool.not_eq_true', Bool.not_eq_false', Bool.not_eq_true, Bool.not_eq_false, Bool.true_eq_false, Bool.false_eq_true, not_false_eq_true, not_true_eq_false] at h13)
      refine H_skip ?_
      refine H_seq ?_
      -- R3 law.go:92
      have ok : Reply.ok ⟨er, fo, va, se, ps⟩ := ⟨ve, vs, h9⟩
      have hb := Reply.few_len ok.2.2
      have ok2 : Reply.ok ⟨er2, fo2, va2, se2, ps2⟩ := ⟨ve2, vs2, h13⟩
      have hb2 := Reply.few_len ok2.2.2
      refine H_region (l := [_, _, _, _]) rfl ?_
      refine HO_loadA (i := 1) (us := []) (cs := [_, _, _, _, _]) (ts := []) rfl rfl rfl Try.isAgg34 Try.sizeOf34 rfl (.loc _ _ _) rfl rfl rfl rfl ?_
      refine HO_loadA (i := 0) (us := []) (cs := [_, _, _, _, _]) (ts := []) rfl rfl rfl Try.isAgg34 Try.sizeOf34 rfl (.loc _ _ _) rfl rfl rfl rfl ?_
      refine HO_dup (i := 2) rfl rfl ?_
      refine HO_dup (i := 4) rfl rfl ?_
      refine HO_call (first := []) (capt := []) (is := [0, 0]) (R := [_, _, _, _]) rfl rfl rfl rfl rfl Try.call26 rfl (rsame9_spec _ _ _ _ _ _ _ _ _ _ _ _ _ _) ?_
      intro y17 hy17
      clear y17 hy17
      refine HO_assign rfl rfl rfl ?_
      refine HO_nil ?_
      refine H_env (ρ' := [(5, _), (3, _), (2, _)]) ⟨rfl, rfl, rfl, trivial⟩ ?_
      refine H_seq ?_
      -- R4 law.go:93 draws
      refine H_draw (is := [0, 1, 2, 3]) (Xs := [_, _, _, _]) (Z := []) (fuel := 23) (l := #[false, false, false, false, false, false, false, false, false, false, false, false, false, false, false, false, false, false, false, false, false, false, false]) mixed rfl rfl rfl ?_
      refine HA_take (i := 0) (listed' := #[true, false, false, false, false, false, false, false, false, false, false, false, false, false, false, false, false, false, false, false, false, false, false]) (bodyPost_pan _ _ _) rfl rfl rfl rfl (by kernel_rfl) rfl (V_move rfl) (fun _ hA => hA.only (is := [0, 1, 2, 3]) (Y := [_, _, _, _]) (Z := []) rfl) ?_
      refine HA_take (i := 1) (listed' := #[true, true, false, false, false, false, false, false, false, false, false, false, false, false, false, false, false, false, false, false, false, false, false]) (bodyPost_pan _ _ _) rfl rfl rfl rfl (by kernel_rfl) rfl (V_loadA (i := 0) (us := []) (cs := [_, _, _, _, _]) (ts := []) rfl Try.isAgg34 Try.sizeOf34 rfl (.loc _ _ _) rfl rfl rfl rfl) (fun _ hA => hA.only (is := [0, 1, 2, 3]) (Y := [_, _, _, _]) (Z := []) rfl) ?_
      refine HA_take (i := 2) (listed' := #[true, true, true, false, false, false, false, false, false, false, false, false, false, false, false, false, false, false, false, false, false, false, false]) (bodyPost_pan _ _ _) rfl rfl rfl rfl (by kernel_rfl) rfl (V_loadA (i := 1) (us := []) (cs := [_, _, _, _, _]) (ts := []) rfl Try.isAgg34 Try.sizeOf34 rfl (.loc _ _ _) rfl rfl rfl rfl) (fun _ hA => hA.only (is := [0, 1, 2, 3]) (Y := [_, _, _, _]) (Z := []) rfl) ?_
      refine HA_loud1 (i := 3) (by kernel_rfl) rfl ?_
      refine HO_dup (i := 3) rfl rfl ?_
      refine HO_dup (i := 3) rfl rfl ?_
      refine HO_call (first := []) (capt := []) (is := [0, 0]) (R := [_, _, _, _]) rfl rfl rfl rfl rfl Try.call26 rfl (rsame9_spec _ _ _ _ _ _ _ _ _ _ _ _ _ _) ?_
      intro y21 hy21
      clear y21 hy21
      refine HA_back (listed' := #[true, true, true, true, false, false, false, false, false, false, false, false, false, false, false, false, false, false, false, false, false, false, false]) rfl (fun _ hA => hA.only (is := [0, 1, 2, 3]) (Y := [_, _, _, _]) (Z := []) rfl) ?_
      refine HA_take (i := 4) (listed' := #[true, true, true, true, true, false, false, false, false, false, false, false, false, false, false, false, false, false, false, false, false, false, false]) (bodyPost_pan _ _ _) rfl rfl rfl rfl (by kernel_rfl) rfl (V_bin rfl rfl (bin_eqb Try.runUnderlying4)) (fun _ hA => hA.only (is := [0, 1, 2, 3]) (Y := [_, _, _, _]) (Z := []) rfl) ?_
      refine HA_take (i := 5) (listed' := #[true, true, true, true, true, true, false, false, false, false, false, false, false, false, false, false, false, false, false, false, false, false, false]) (bodyPost_pan _ _ _) rfl rfl rfl rfl (by kernel_rfl) rfl (V_move rfl) (fun _ hA => hA.only (is := [0, 1, 2, 3]) (Y := [_, _, _, _]) (Z := []) rfl) ?_
      refine HA_split (d := 23) rfl ?_ ?_
      · intro h23
        (try simp only [decide_eq_true_eq, decide_eq_false_iff_not, Bool.not_eq_true', Bool.not_eq_false', Bool.not_eq_true, Bool.not_eq_false, Bool.true_eq_false, Bool.false_eq_true, not_false_eq_true, not_true_eq_false] at h23)
        refine HA_take (i := 6) (listed' := #[true, true, true, true, true, true, true, false, false, false, false, false, false, false, false, false, false, false, false, false, false, false, false]) (bodyPost_pan _ _ _) rfl rfl rfl rfl (by kernel_rfl) rfl (V_loadA (i := 1) (us := []) (cs := [_, _, _, _, _]) (ts := []) rfl Try.isAgg34 Try.sizeOf34 rfl (.loc _ _ _) rfl rfl rfl rfl) (fun _ hA => hA.only (is := [0, 1, 2, 3]) (Y := [_, _, _, _]) (Z := []) rfl) ?_
        refine HA_take (i := 7) (listed' := #[true, true, true, true, true, true, true, true, false, false, false, false, false, false, false, false, false, false, false, false, false, false, false]) (bodyPost_pan _ _ _) rfl rfl rfl rfl (by kernel_rfl) rfl (V_loadA (i := 1) (us := []) (cs := [_, _, _, _, _]) (ts := []) rfl Try.isAgg34 Try.sizeOf34 rfl (.loc _ _ _) rfl rfl rfl rfl) (fun _ hA => hA.only (is := [0, 1, 2, 3]) (Y := [_, _, _, _]) (Z := []) rfl) ?_
        refine HA_loud1 (i := 8) (by kernel_rfl) rfl ?_
        refine HO_dup (i := 2) rfl rfl ?_
        refine HO_dup (i := 3) rfl rfl ?_
        refine HO_call (first := []) (capt := []) (is := [0, 0]) (R := [_, _, _, _]) rfl rfl rfl rfl rfl Try.call26 rfl (rsame9_spec _ _ _ _ _ _ _ _ _ _ _ _ _ _) ?_
        intro y26 hy26
        clear y26 hy26
        refine HA_back (listed' := #[true, true, true, true, true, true, true, true, true, false, false, false, false, false, false, false, false, false, false, false, false, false, false]) rfl (fun _ hA => hA.only (is := [0, 1, 2, 3]) (Y := [_, _, _, _]) (Z := []) rfl) ?_
        refine HA_take (i := 9) (listed' := #[true, true, true, true, true, true, true, true, true, true, false, false, false, false, false, false, false, false, false, false, false, false, false]) (bodyPost_pan _ _ _) rfl rfl rfl rfl (by kernel_rfl) rfl (V_pick_t rfl rfl) (fun _ hA => hA.only (is := [0, 1, 2, 3]) (Y := [_, _, _, _]) (Z := []) rfl) ?_
        refine HA_take (i := 10) (listed' := #[true, true, true, true, true, true, true, true, true, true, true, false, false, false, false, false, false, false, false, false, false, false, false]) (bodyPost_pan _ _ _) rfl rfl rfl rfl (by kernel_rfl) rfl (V_move rfl) (fun _ hA => hA.only (is := [0, 1, 2, 3]) (Y := [_, _, _, _]) (Z := []) rfl) ?_
        refine HA_split (d := 28) rfl ?_ ?_
        · intro h28
          (try simp only [decide_eq_true_eq, decide_eq_false_iff_not, Bool.not_eq_true', Bool.not_eq_false', Bool.not_eq_true, Bool.not_eq_false, Bool.true_eq_false, Bool.false_eq_true, not_false_eq_true, not_true_eq_false] at h28)
          refine HA_take (i := 11) (listed' := #[true, true, true, true, true, true, true, true, true, true, true, true, false, false, false, false, false, false, false, false, false, false, false]) (bodyPost_pan _ _ _) rfl rfl rfl rfl (by kernel_rfl) rfl (V_move rfl) (fun _ hA => hA.only (is := [0, 1, 2, 3]) (Y := [_, _, _, _]) (Z := []) rfl) ?_
          refine HA_take (i := 12) (listed' := #[true, true, true, true, true, true, true, true, true, true, true, true, true, false, false, false, false, false, false, false, false, false, false]) (bodyPost_pan _ _ _) rfl rfl rfl rfl (by kernel_rfl) rfl (V_loadA (i := 1) (us := []) (cs := [_, _, _, _, _]) (ts := []) rfl Try.isAgg34 Try.sizeOf34 rfl (.loc _ _ _) rfl rfl rfl rfl) (fun _ hA => hA.only (is := [0, 1, 2, 3]) (Y := [_, _, _, _]) (Z := []) rfl) ?_
          refine HA_take (i := 14) (listed' := #[true, true, true, true, true, true, true, true, true, true, true, true, true, false, true, false, false, false, false, false, false, false, false]) (bodyPost_pan _ _ _) rfl rfl rfl rfl (by kernel_rfl) rfl (V_loadA (i := 0) (us := []) (cs := [_, _, _, _, _]) (ts := []) rfl Try.isAgg34 Try.sizeOf34 rfl (.loc _ _ _) rfl rfl rfl rfl) (fun _ hA => hA.only (is := [0, 1, 2, 3]) (Y := [_, _, _, _]) (Z := []) rfl) ?_
          refine HA_loud1 (i := 13) (by kernel_rfl) rfl ?_
          refine HO_dup (i := 2) rfl rfl ?_
          refine HO_call (first := []) (capt := []) (is := [0]) (R := [_, _, _, _]) rfl rfl rfl rfl rfl Try.call27 rfl (rep_spec _ _ _ _ _ _ _ ?_ ?_ ?_) ?_
          · omega
          · exact sv
          · exact sl
          intro y31 hy31
          refine HA_back (listed' := #[true, true, true, true, true, true, true, true, true, true, true, true, true, true, true, false, false, false, false, false, false, false, false]) rfl (fun _ hA => hA.only (is := [1, 2, 3, 4]) (Y := [_, _, _, _]) (Z := [_]) rfl) ?_
          refine HA_loud1 (i := 15) (by kernel_rfl) rfl ?_
          refine HO_dup (i := 4) rfl rfl ?_
          refine HO_call (first := []) (capt := []) (is := [0]) (R := [_, _, _, _, _]) rfl rfl rfl rfl rfl Try.call27 rfl (rep_spec _ _ _ _ _ _ _ ?_ ?_ ?_) ?_
          · omega
          · exact sv2
          · exact sl2
          intro y33 hy33
          refine HA_back (listed' := #[true, true, true, true, true, true, true, true, true, true, true, true, true, true, true, true, false, false, false, false, false, false, false]) rfl (fun _ hA => hA.only (is := [2, 3, 4, 5]) (Y := [_, _, _, _]) (Z := [_, _]) rfl) ?_
          refine HA_loud1 (i := 16) (by kernel_rfl) rfl ?_
          refine HO_call (first := []) (capt := []) (is := [0, 0]) (R := [_, _, _, _]) rfl rfl rfl rfl rfl Try.call22 rfl (Spec.lend (pre1 := [_]) (pre2 := []) (Spec.lend (pre1 := []) (pre2 := [_]) (rsame_spec _ _ _ _ _ _) rfl (fun _ _ ha => nomatch ha)) rfl (by intro y at' ha; obtain rfl := List.mem_singleton.1 ha; first | exact Atom.Flat.own kByte_plain _ _ _ _ | exact Atom.Flat.own kInt_plain _ _ _ _ | exact Atom.Flat.own kStr_plain _ _ _ _ | exact Atom.Flat.loc _ _ _)) ?_
          intro y34 hy34
          clear y34 hy34
          refine HA_back (listed' := #[true, true, true, true, true, true, true, true, true, true, true, true, true, true, true, true, true, false, false, false, false, false, false]) rfl (fun _ hA => hA.only (is := [2, 3, 4, 5]) (Y := [_, _, _, _]) (Z := [_, _]) rfl) ?_
          refine HA_take (i := 17) (listed' := #[true, true, true, true, true, true, true, true, true, true, true, true, true, true, true, true, true, true, false, false, false, false, false]) (bodyPost_pan _ _ _) rfl rfl rfl rfl (by kernel_rfl) rfl (V_bin rfl rfl (bin_eqb Try.runUnderlying4)) (fun _ hA => hA.only (is := [2, 3, 4, 5]) (Y := [_, _, _, _]) (Z := [_, _]) rfl) ?_
          refine HA_take (i := 18) (listed' := #[true, true, true, true, true, true, true, true, true, true, true, true, true, true, true, true, true, true, true, false, false, false, false]) (bodyPost_pan _ _ _) rfl rfl rfl rfl (by kernel_rfl) rfl (V_pick_t rfl rfl) (fun _ hA => hA.only (is := [2, 3, 4, 5]) (Y := [_, _, _, _]) (Z := [_, _]) rfl) ?_
          refine HA_take (i := 19) (listed' := #[true, true, true, true, true, true, true, true, true, true, true, true, true, true, true, true, true, true, true, true, false, false, false]) (bodyPost_pan _ _ _) rfl rfl rfl rfl (by kernel_rfl) rfl (V_move rfl) (fun _ hA => hA.only (is := [2, 3, 4, 5]) (Y := [_, _, _, _]) (Z := [_, _]) rfl) ?_
          refine HA_split (d := 37) rfl ?_ ?_
          · intro h37
            (try simp only [decide_eq_true_eq, decide_eq_false_iff_not, Bool.not_eq_true', Bool.not_eq_false', Bool.not_eq_true, Bool.not_eq_false, Bool.true_eq_false, Bool.false_eq_true, not_false_eq_true, not_true_eq_false] at h37)
            refine HA_loud1 (i := 20) (by kernel_rfl) rfl ?_
            refine HO_call (first := []) (capt := []) (is := []) (R := [_, _, _, _, _, _]) rfl rfl rfl rfl rfl Try.call15 rfl lives09_spec ?_
            intro y38 hy38
            clear y38 hy38
            refine HA_back (listed' := #[true, true, true, true, true, true, true, true, true, true, true, true, true, true, true, true, true, true, true, true, true, false, false]) rfl (fun _ hA => hA.only (is := [2, 3, 4, 5]) (Y := [_, _, _, _]) (Z := [_, _]) rfl) ?_
            refine HA_take (i := 21) (listed' := #[true, true, true, true, true, true, true, true, true, true, true, true, true, true, true, true, true, true, true, true, true, true, false]) (bodyPost_pan _ _ _) rfl rfl rfl rfl (by kernel_rfl) rfl (V_pick_t rfl rfl) (fun _ hA => hA.only (is := [2, 3, 4, 5]) (Y := [_, _, _, _]) (Z := [_, _]) rfl) ?_
            refine HA_take (i := 22) (listed' := #[true, true, true, true, true, true, true, true, true, true, true, true, true, true, true, true, true, true, true, true, true, true, true]) (bodyPost_pan _ _ _) rfl rfl rfl rfl (by kernel_rfl) rfl (V_assign rfl) (fun _ hA => hA.only (is := [2, 3, 4, 5]) (Y := [_, _, _, _]) (Z := [_, _]) rfl) ?_
            refine HA_done (by kernel_rfl) ?_
            refine H_env (ρ' := [(4, _)]) ⟨rfl, trivial⟩ ?_
            refine H_world (fun _ hA => hA.drop (is := [0, 1, 2, 3, 4, 5]) (Y := [_, _, _, _, _, _]) (Z := []) rfl) ?_
            -- end3
            refine H_ret1 Try.results4 (.tmp rfl) (fun w hA => ⟨(), congrArg Ending.returned ?_, ?_, ?_⟩)
            · (exact congrArg Value.bool (by first | rfl | assumption | simp_all))
            · trivial
            · exact hA.only (is := []) (Z := []) rfl
          · intro h37
            (try simp only [decide_eq_true_eq, decide_eq_false_iff_not, Bool.not_eq_true', Bool.not_eq_false', Bool.not_eq_true, Bool.not_eq_false, Bool.true_eq_false, Bool.false_eq_true, not_false_eq_true, not_true_eq_false] at h37)
            all_goals (rw [Reply.inj ok ok2] at h37; simp at h37)
        · intro h28
          (try simp only [decide_eq_true_eq, decide_eq_false_iff_not, Bool.not_eq_true', Bool.not_eq_false', Bool.not_eq_true, Bool.not_eq_false, Bool.true_eq_false, Bool.false_eq_true, not_false_eq_true, not_true_eq_false] at h28)
          all_goals (exact absurd rfl h28)
      · intro h23
        (try simp only [decide_eq_true_eq, decide_eq_false_iff_not, Bool.not_eq_true', Bool.not_eq_false', Bool.not_eq_true, Bool.not_eq_false, Bool.true_eq_false, Bool.false_eq_true, not_false_eq_true, not_true_eq_false] at h23)
        all_goals (exact absurd (Reply.sym _ _) (by rw [h23]; decide))
end Go.Wk
