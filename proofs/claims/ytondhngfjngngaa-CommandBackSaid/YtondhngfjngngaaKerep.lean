/- Contracts of the program's functions, each proved by walking its code. -/
import Derived.Test.YtondhngfjngngaaKecmd3
import Derived.Test.YtondhngfjngngaaRep
import Derived.Test.YtondhngfjngngaaKinds
import Derived.Test.YtondhngfjngngaaKerdr
set_option maxRecDepth 100000
set_option linter.unusedVariables false
set_option linter.unusedSimpArgs false
namespace Go.Wk.Frep
open Go Go.RowKit Go.Proofs Go.Wk
theorem elt5 : Elt Try.prog 5 (.int .u8 (0)) 1 1 := Elt.of (by kernel_rfl) (by rfl) (by decide) (by decide)
theorem elt102 : Elt Try.prog 102 (.agg #[.string (⟨#[]⟩), .string (⟨#[]⟩)]) 2 32 := Elt.of (by kernel_rfl) (by rfl) (by decide) (by decide)
theorem bd102_0_1_tt {x1 : ByteArray} {x2 : ByteArray} : ∀ w, (Instr.build 102 (List.toArray (List.zip [0, 1] [.string x1, .string x2]))).run Try.prog w = .ok (.agg #[.string x1, .string x2]) w := fun _ => by kernel_rfl
theorem bd107_0_s {a1 : Option Addr} {n1 c1 : Nat} : ∀ w, (Instr.build 107 (List.toArray (List.zip [0] [.slice a1 n1 c1]))).run Try.prog w = .ok (.agg #[.slice a1 n1 c1, .bool (false)]) w := fun _ => by kernel_rfl
theorem bd34__  : ∀ w, (Instr.build 34 (List.toArray (List.zip [] []))).run Try.prog w = .ok (.agg #[.int .i64 (0), .bool (false), .string (⟨#[]⟩), .int .i64 (0), .slice none 0 0]) w := fun _ => by kernel_rfl
theorem bd34_0_3_ii {x1 : Int} {x2 : Int} : ∀ w, (Instr.build 34 (List.toArray (List.zip [0, 3] [.int .i64 x1, .int .i64 x2]))).run Try.prog w = .ok (.agg #[.int .i64 x1, .bool (false), .string (⟨#[]⟩), .int .i64 x2, .slice none 0 0]) w := fun _ => by kernel_rfl
theorem eq102_neq {x y : Operand} {a0 b0 : ByteArray} {a1 b1 : ByteArray} : BinR Try.prog .neq 102 x y (.agg #[.string a0, .string a1]) (.agg #[.string b0, .string b1]) (.bool (!(decide (a0 = b0) && (decide (a1 = b1) && true)))) :=
  bin_nes_agg (by kernel_rfl) Try.underlying102 (by kernel_rfl) (fun w => (eqF_str (by decide) Try.underlying9 Try.isAgg9 rfl rfl (eqF_str (by decide) Try.underlying9 Try.isAgg9 rfl rfl eqF_nil)))
end Go.Wk.Frep
namespace Go.Wk
open Go Go.RowKit Go.Proofs Frep 
theorem few_spec (er : Int) (fo : Bool) (va : ByteArray) (se : Int) (ps : List Pair) (a : Option Addr) (c : Nat) (sv : va.size ≤ BIG) : Spec Try.prog 25 #[.agg #[.int .i64 (er), .bool (fo), .string (va), .int .i64 (se), .slice a (ps.length) c]] [.dat kPair.sl (ps) [.slice a (ps.length) c]] (β := Unit) (fun y => .bool (Reply.few va ps)) (fun y => True) (fun y => []) := by
  (try simp only [BIG] at sv)
  refine Spec.enter (vs := [_]) Try.func25 rfl Try.ntmps25 rfl (Nat.le_of_ble_eq_true rfl) (fun w0 ok0 => ?_)
  generalize hM0 : blks _ = M0
  have hMn : ∀ {R : List Atom} (b : Nat), M0 b → blks R b := fun b hb => absurd (hM0 ▸ hb) (blks_none (by simp [Atom.dat, Atom.elem]) b)
  refine H_len_le (i := 0) rfl ?_
  intro hlen0
  refine H_seq ?_
  -- R0 law.go:21
  refine H_region (l := [_, _]) rfl ?_
  refine HO_box (cs := [_, _, _, _, _]) rfl rfl rfl rfl ?_
  intro g1
  refine HO_assign rfl rfl rfl ?_
  refine HO_nil ?_
  refine H_env (ρ' := [(1, _)]) ⟨rfl, trivial⟩ ?_
  refine H_seq ?_
  -- R1 law.go:22
  refine H_region (l := [_, _, _, _, _]) rfl ?_
  refine HO_fieldAddr (r := 2) rfl rfl rfl Try.underlying34 rfl Try.sizeOf9 rfl ?_
  refine HO_load1 (i := 0) (j := 2) rfl rfl rfl Try.isAgg9 rfl (.loc _ _ _) rfl rfl ?_
  refine HO_bi rfl rfl rfl (bi_len_str Try.underlying9) ?_
  refine HO_bin rfl rfl rfl rfl (bin_quo ?_ ?_ ?_) ?_
  · (first | omega | assumption | decide)
  · (first | omega | assumption | decide)
  · (first | omega | assumption | decide)
  refine HO_assign rfl rfl rfl ?_
  refine HO_nil ?_
  refine H_env (ρ' := [(3, _), (1, _)]) ⟨rfl, rfl, trivial⟩ ?_
  refine H_seq ?_
  refine H_seq ?_
  -- R2 law.go:23
  refine H_region (l := [_, _, _, _]) rfl ?_
  refine HO_fieldAddr (r := 4) rfl rfl rfl Try.underlying34 rfl Try.sizeOf32 rfl ?_
  refine HO_load1 (i := 0) (j := 4) rfl rfl rfl Try.isAgg32 rfl (.loc _ _ _) rfl rfl ?_
  refine HO_bi rfl rfl rfl (bi_len_sl Try.underlying32) ?_
  refine HO_move rfl rfl rfl ?_
  refine HO_nil ?_
  refine H_env (ρ' := [(13, _), (12, _), (11, _), (3, _)]) ⟨rfl, rfl, rfl, rfl, trivial⟩ ?_
  refine H_world (fun _ hA => hA.drop (is := [0]) (Y := [_]) (Z := [_]) rfl) ?_
  refine H_block ?_
  refine H_loop (σ := Nat × Int) (fun s => s.1 ≤ ps.length ∧ s.2 = (va.size : Int) / 20 + ((ps.take s.1).map Reply.pw).sum ∧ 0 ≤ s.2 ∧ s.2 ≤ 140737488351232) (fun s => [(3, .int .i64 (s.2)), (11, .slice a (ps.length) c), (12, .int .i64 ((ps.length : Int))), (13, .int .i64 ((s.1 : Int)))]) (fun s => Asn w0 ok0 M0 [.dat kPair.sl (ps) [.slice a (ps.length) c]]) (fun s => ps.length - s.1) ⟨0, (va.size : Int) / 20⟩ ?_ ?_ ?_ ?_
  · exact ⟨Nat.zero_le _, by simp, by dsimp only; omega, by dsimp only; omega⟩
  · exact ⟨rfl, rfl, rfl, rfl, trivial⟩
  · intro w hA
    exact hA.only (is := [0]) (Z := []) rfl
  · rintro ⟨i, n⟩ hI
    (try dsimp only at hI ⊢)
    refine H_seq ?_
    -- R3 law.go:23
    refine H_region (l := [_]) rfl ?_
    refine HO_bin rfl rfl rfl rfl bin_lss ?_
    refine HO_nil ?_
    refine H_seq ?_
    refine H_cond rfl ?_ ?_
    · intro h14
      (try simp only [decide_eq_true_eq, decide_eq_false_iff_not, Bool.not_eq_true', Bool.not_eq_false', Bool.not_eq_true, Bool.not_eq_false, Bool.true_eq_false, Bool.false_eq_true, not_false_eq_true, not_true_eq_false] at h14)
      refine H_skip ?_
      refine H_seq ?_
      refine H_block ?_
      refine H_seq ?_
      -- R4 law.go:23
      refine H_region (l := [_, _, _, _]) rfl ?_
      refine HO_indexAddr open_Pair (i := 0) rfl rfl rfl rfl rfl Try.underlying32 Try.sizeOf102 rfl ?_ ?_
      · (first | omega | assumption | decide)
      intro b15 o15 z15 y15 hz15 hI15
      clear y15
      (try simp only [BIG] at hI15)
      refine HO_loadA (i := 0) (us := []) (cs := [_, _]) (ts := []) rfl rfl rfl Try.isAgg102 Try.sizeOf102 rfl (.elem _ _ _) rfl rfl rfl rfl ?_
      refine HO_alloc (cs := [_, _]) rfl rfl Try.zeroValue102 rfl ?_
      intro g5
      refine HO_store (i := 0) (j := 0) (us := []) (old := [_, _]) (ts := []) (cs := [_, _]) (R := [_, _]) (new := [_, _]) rfl rfl rfl Try.sizeOf102 rfl (by simp [Value.oneCell']) rfl rfl rfl rfl rfl rfl ?_
      refine HO_nil ?_
      refine H_env (ρ' := [(5, _), (3, _), (11, _), (12, _), (13, _)]) ⟨rfl, rfl, rfl, rfl, rfl, trivial⟩ ?_
      refine H_world (fun _ hA => hA.drop (is := [1]) (Y := [_]) (Z := [_, _]) rfl) ?_
      refine H_seq ?_
      -- R5 law.go:24
      refine H_region (l := [_, _, _, _, _, _, _, _, _, _, _, _]) rfl ?_
      refine HO_move rfl rfl rfl ?_
      refine HO_fieldAddr (r := 0) rfl rfl rfl Try.underlying102 rfl Try.sizeOf9 rfl ?_
      refine HO_load1 (i := 0) (j := 0) rfl rfl rfl Try.isAgg9 rfl (.loc _ _ _) rfl rfl ?_
      refine HO_bi rfl rfl rfl (bi_len_str Try.underlying9) ?_
      refine HO_fieldAddr (r := 1) rfl rfl rfl Try.underlying102 rfl Try.sizeOf9 rfl ?_
      refine HO_load1 (i := 0) (j := 1) rfl rfl rfl Try.isAgg9 rfl (.loc _ _ _) rfl rfl ?_
      refine HO_bi rfl rfl rfl (bi_len_str Try.underlying9) ?_
      refine HO_bin rfl rfl rfl rfl (bin_add ?_ ?_) ?_
      · omega
      · omega
      refine HO_bin rfl rfl rfl rfl (bin_quo ?_ ?_ ?_) ?_
      · (first | omega | assumption | decide)
      · (first | omega | assumption | decide)
      · (first | omega | assumption | decide)
      refine HO_bin rfl rfl rfl rfl (bin_add ?_ ?_) ?_
      · omega
      · omega
      refine HO_bin rfl rfl rfl rfl (bin_add ?_ ?_) ?_
      · omega
      · omega
      refine HO_assign rfl rfl rfl ?_
      refine HO_nil ?_
      refine H_env (ρ' := [(3, _), (11, _), (12, _), (13, _)]) ⟨rfl, rfl, rfl, rfl, trivial⟩ ?_
      refine H_world (fun _ hA => hA.drop (is := [0]) (Y := [_]) (Z := [_]) rfl) ?_
      refine H_seq ?_
      -- R6 law.go:25
      refine H_region (l := [_, _]) rfl ?_
      refine HO_move rfl rfl rfl ?_
      refine HO_bin rfl rfl rfl rfl bin_gtr ?_
      refine HO_nil ?_
      refine H_env (ρ' := [(29, _), (3, _), (11, _), (12, _), (13, _)]) ⟨rfl, rfl, rfl, rfl, rfl, trivial⟩ ?_
      refine H_cond rfl ?_ ?_
      · intro h29
        (try simp only [decide_eq_true_eq, decide_eq_false_iff_not, Bool.not_eq_true', Bool.not_eq_false', Bool.not_eq_true, Bool.not_eq_false, Bool.true_eq_false, Bool.false_eq_true, not_false_eq_true, not_true_eq_false] at h29)
        refine H_seq ?_
        -- R7 law.go:26
        refine H_region (l := [_]) rfl ?_
        refine HO_assign rfl rfl rfl ?_
        refine HO_nil ?_
        refine H_env (ρ' := [(2, _)]) ⟨rfl, trivial⟩ ?_
        refine H_world (fun _ hA => hA.drop (is := [0]) (Y := [_]) (Z := []) rfl) ?_
        -- end1
        refine H_ret1 Try.results25 (.tmp rfl) (fun w hA => ⟨(), congrArg Ending.returned ?_, ?_, ?_⟩)
        · (exact congrArg Value.bool (Reply.few_no hz15 hI.2.1 (by omega)))
        · trivial
        · exact hA.only (is := []) (Z := []) rfl
      · intro h29
        (try simp only [decide_eq_true_eq, decide_eq_false_iff_not, Bool.not_eq_true', Bool.not_eq_false', Bool.not_eq_true, Bool.not_eq_false, Bool.true_eq_false, Bool.false_eq_true, not_false_eq_true, not_true_eq_false] at h29)
        refine H_skip ?_
        refine H_blk ?_
        -- R8 law.go:23
        refine H_region (l := [_, _]) rfl ?_
        refine HO_bin rfl rfl rfl rfl (bin_add ?_ ?_) ?_
        · (first | omega | assumption | decide)
        · (first | omega | assumption | decide)
        refine HO_move rfl rfl rfl ?_
        refine HO_nil ?_
        refine H_env (ρ' := [(13, _), (3, _), (11, _), (12, _)]) ⟨rfl, rfl, rfl, rfl, trivial⟩ ?_
        refine H_inv (fun a w hf hA => ⟨⟨i + 1, n + (1 + ((z15.key.size : Int) + (z15.val.size : Int)) / 20)⟩, ?_, ?_, hf.sub ?_, ?_⟩)
        · exact ⟨by omega, by rw [hI.2.1, Reply.pws_next hz15]; unfold Reply.pw; omega, by dsimp only; omega, by dsimp only; omega⟩
        · (try dsimp only); omega
        · exact ⟨rfl, rfl, rfl, rfl, trivial⟩
        · exact hA.only (is := [0]) (Z := []) rfl
    · intro h14
      (try simp only [decide_eq_true_eq, decide_eq_false_iff_not, Bool.not_eq_true', Bool.not_eq_false', Bool.not_eq_true, Bool.not_eq_false, Bool.true_eq_false, Bool.false_eq_true, not_false_eq_true, not_true_eq_false] at h14)
      refine H_exit rfl ?_
      refine H_seq ?_
      -- R9 law.go:29
      refine H_region (l := [_, _, _]) rfl ?_
      refine HO_move rfl rfl rfl ?_
      refine HO_bin rfl rfl rfl rfl bin_leq ?_
      refine HO_assign rfl rfl rfl ?_
      refine HO_nil ?_
      refine H_env (ρ' := [(2, _)]) ⟨rfl, trivial⟩ ?_
      refine H_world (fun _ hA => hA.drop (is := [0]) (Y := [_]) (Z := []) rfl) ?_
      obtain rfl : i = ps.length := by omega
      -- end2
      refine H_ret1 Try.results25 (.tmp rfl) (fun w hA => ⟨(), congrArg Ending.returned ?_, ?_, ?_⟩)
      · (exact congrArg Value.bool (by unfold Reply.few Reply.wt; rw [hI.2.1, List.take_length]))
      · trivial
      · exact hA.only (is := []) (Z := []) rfl
theorem eqpairs_spec (ps ps2 : List Pair) (a : Option Addr) (c : Nat) (a2 : Option Addr) (c2 : Nat)  : Spec Try.prog 73 #[.slice a (ps.length) c, .slice a2 (ps2.length) c2] [.dat kPair.sl (ps) [.slice a (ps.length) c], .dat kPair.sl (ps2) [.slice a2 (ps2.length) c2]] (β := Unit) (fun y => .bool (decide (ps = ps2))) (fun y => True) (fun y => []) := by
  refine Spec.enter (vs := [_, _]) Try.func73 rfl Try.ntmps73 rfl (Nat.le_of_ble_eq_true rfl) (fun w0 ok0 => ?_)
  generalize hM0 : blks _ = M0
  have hMn : ∀ {R : List Atom} (b : Nat), M0 b → blks R b := fun b hb => absurd (hM0 ▸ hb) (blks_none (by simp [Atom.dat, Atom.elem]) b)
  refine H_len_le (i := 0) rfl ?_
  intro hlen0
  refine H_len_le (i := 1) rfl ?_
  intro hlen1
  refine H_seq ?_
  -- R0 slices.go:20
  refine H_region (l := [_]) rfl ?_
  refine HO_assign rfl rfl rfl ?_
  refine HO_nil ?_
  refine H_env (ρ' := [(0, _), (1, _)]) ⟨rfl, rfl, trivial⟩ ?_
  refine H_seq ?_
  refine H_seq ?_
  -- R1 slices.go:21
  refine H_region (l := [_, _, _, _, _]) rfl ?_
  refine HO_move rfl rfl rfl ?_
  refine HO_bi rfl rfl rfl (bi_len_sl Try.underlying32) ?_
  refine HO_move rfl rfl rfl ?_
  refine HO_bi rfl rfl rfl (bi_len_sl Try.underlying32) ?_
  refine HO_bin rfl rfl rfl rfl bin_neq ?_
  refine HO_nil ?_
  refine H_env (ρ' := [(10, _), (0, _), (1, _)]) ⟨rfl, rfl, rfl, trivial⟩ ?_
  refine H_cond rfl ?_ ?_
  · intro h10
    (try simp only [decide_eq_true_eq, decide_eq_false_iff_not, Bool.not_eq_true', Bool.not_eq_false', Bool.not_eq_true, Bool.not_eq_false, Bool.true_eq_false, Bool.false_eq_true, not_false_eq_true, not_true_eq_false] at h10)
    refine H_seq ?_
    -- R2 slices.go:22
    refine H_region (l := [_]) rfl ?_
    refine HO_assign rfl rfl rfl ?_
    refine HO_nil ?_
    refine H_env (ρ' := [(4, _)]) ⟨rfl, trivial⟩ ?_
    refine H_world (fun _ hA => hA.drop (is := [0, 1]) (Y := [_, _]) (Z := []) rfl) ?_
    -- end1
    refine H_ret1 Try.results73 (.tmp rfl) (fun w hA => ⟨(), congrArg Ending.returned ?_, ?_, ?_⟩)
    · (first | exact congrArg Value.bool (Ent.same_no hz18 hz22 h24).symm | exact congrArg Value.bool (Ent.same_yes hl hI).symm | exact congrArg Value.bool (Ent.same_len h10).symm)
    · trivial
    · exact hA.only (is := []) (Z := []) rfl
  · intro h10
    (try simp only [decide_eq_true_eq, decide_eq_false_iff_not, Bool.not_eq_true', Bool.not_eq_false', Bool.not_eq_true, Bool.not_eq_false, Bool.true_eq_false, Bool.false_eq_true, not_false_eq_true, not_true_eq_false] at h10)
    have hl : ps.length = ps2.length := by omega
    refine H_skip ?_
    refine H_seq ?_
    refine H_seq ?_
    -- R3 slices.go:24
    refine H_region (l := [_, _, _]) rfl ?_
    refine HO_move rfl rfl rfl ?_
    refine HO_bi rfl rfl rfl (bi_len_sl Try.underlying32) ?_
    refine HO_move rfl rfl rfl ?_
    refine HO_nil ?_
    refine H_env (ρ' := [(13, _), (12, _), (0, _), (1, _)]) ⟨rfl, rfl, rfl, rfl, trivial⟩ ?_
    refine H_block ?_
    refine H_loop (σ := Nat) (fun s => s ≤ ps.length ∧ ps.take s = ps2.take s) (fun s => [(0, .slice a (ps.length) c), (1, .slice a2 (ps2.length) c2), (12, .int .i64 ((ps.length : Int))), (13, .int .i64 ((s : Int)))]) (fun s => Asn w0 ok0 M0 [.dat kPair.sl (ps) [.slice a (ps.length) c], .dat kPair.sl (ps2) [.slice a2 (ps2.length) c2]]) (fun s => ps.length - s) 0 ?_ ?_ ?_ ?_
    · exact ⟨Nat.zero_le _, by simp⟩
    · exact ⟨rfl, rfl, rfl, rfl, trivial⟩
    · intro w hA
      exact hA.only (is := [0, 1]) (Z := []) rfl
    · intro i hI
      (try dsimp only at hI ⊢)
      refine H_seq ?_
      -- R4 slices.go:24
      refine H_region (l := [_]) rfl ?_
      refine HO_bin rfl rfl rfl rfl bin_lss ?_
      refine HO_nil ?_
      refine H_seq ?_
      refine H_cond rfl ?_ ?_
      · intro h14
        (try simp only [decide_eq_true_eq, decide_eq_false_iff_not, Bool.not_eq_true', Bool.not_eq_false', Bool.not_eq_true, Bool.not_eq_false, Bool.true_eq_false, Bool.false_eq_true, not_false_eq_true, not_true_eq_false] at h14)
        refine H_skip ?_
        refine H_seq ?_
        refine H_block ?_
        refine H_seq ?_
        -- R5 slices.go:24
        refine H_region (l := [_, _]) rfl ?_
        refine HO_move rfl rfl rfl ?_
        refine HO_assign rfl rfl rfl ?_
        refine HO_nil ?_
        refine H_env (ρ' := [(5, _), (0, _), (1, _), (12, _), (13, _)]) ⟨rfl, rfl, rfl, rfl, rfl, trivial⟩ ?_
        refine H_seq ?_
        -- R6 slices.go:25 draws
        refine H_draw (is := [0, 1]) (Xs := [_, _]) (Z := []) (fuel := 9) (l := #[false, false, false, false, false, false, false, false, false]) mixed rfl rfl rfl ?_
        refine HA_take (i := 0) (listed' := #[true, false, false, false, false, false, false, false, false]) (bodyPost_pan _ _ _) rfl rfl rfl rfl (by kernel_rfl) rfl (V_move rfl) (fun _ hA => hA.only (is := [0, 1]) (Y := [_, _]) (Z := []) rfl) ?_
        refine HA_take (i := 1) (listed' := #[true, true, false, false, false, false, false, false, false]) (bodyPost_pan _ _ _) rfl rfl rfl rfl (by kernel_rfl) rfl (V_move rfl) (fun _ hA => hA.only (is := [0, 1]) (Y := [_, _]) (Z := []) rfl) ?_
        refine HA_take (i := 4) (listed' := #[true, true, false, false, true, false, false, false, false]) (bodyPost_pan _ _ _) rfl rfl rfl rfl (by kernel_rfl) rfl (V_move rfl) (fun _ hA => hA.only (is := [0, 1]) (Y := [_, _]) (Z := []) rfl) ?_
        refine HA_take (i := 5) (listed' := #[true, true, false, false, true, true, false, false, false]) (bodyPost_pan _ _ _) rfl rfl rfl rfl (by kernel_rfl) rfl (V_move rfl) (fun _ hA => hA.only (is := [0, 1]) (Y := [_, _]) (Z := []) rfl) ?_
        refine HA_loud2 (i := 2) (j := 6) (by kernel_rfl) rfl rfl ?_ ?_
        · refine HO_indexAddr open_Pair (i := 0) rfl rfl rfl rfl rfl Try.underlying32 Try.sizeOf102 rfl ?_ ?_
          · omega
          intro b18 o18 z18 y18 hz18 hI18
          clear y18
          (try simp only [BIG] at hI18)
          refine HA_back (listed' := #[true, true, true, false, true, true, false, false, false]) rfl (fun _ hA => hA.only (is := [1, 2]) (Y := [_, _]) (Z := [_]) rfl) ?_
          refine HA_loud2 (i := 3) (j := 6) (by kernel_rfl) rfl rfl ?_ ?_
          · refine HO_loadA (i := 0) (us := []) (cs := [_, _]) (ts := []) rfl rfl rfl Try.isAgg102 Try.sizeOf102 rfl (.elem _ _ _) rfl rfl rfl rfl ?_
            refine HA_back (listed' := #[true, true, true, true, true, true, false, false, false]) rfl (fun _ hA => hA.only (is := [1, 2]) (Y := [_, _]) (Z := [_]) rfl) ?_
            refine HA_loud1 (i := 6) (by kernel_rfl) rfl ?_
            refine HO_indexAddr open_Pair (i := 2) rfl rfl rfl rfl rfl Try.underlying32 Try.sizeOf102 rfl ?_ ?_
            · omega
            intro b22 o22 z22 y22 hz22 hI22
            clear y22
            (try simp only [BIG] at hI22)
            refine HA_back (listed' := #[true, true, true, true, true, true, true, false, false]) rfl (fun _ hA => hA.only (is := [2, 3]) (Y := [_, _]) (Z := [_, _]) rfl) ?_
            refine HA_loud1 (i := 7) (by kernel_rfl) rfl ?_
            refine HO_loadA (i := 0) (us := []) (cs := [_, _]) (ts := []) rfl rfl rfl Try.isAgg102 Try.sizeOf102 rfl (.elem _ _ _) rfl rfl rfl rfl ?_
            refine HA_back (listed' := #[true, true, true, true, true, true, true, true, false]) rfl (fun _ hA => hA.only (is := [2, 3]) (Y := [_, _]) (Z := [_, _]) rfl) ?_
            refine HA_take (i := 8) (listed' := #[true, true, true, true, true, true, true, true, true]) (bodyPost_pan _ _ _) rfl rfl rfl rfl (by kernel_rfl) rfl (V_bin rfl rfl eq102_neq) (fun _ hA => hA.only (is := [2, 3]) (Y := [_, _]) (Z := [_, _]) rfl) ?_
            refine HA_done (by kernel_rfl) ?_
            refine H_env (ρ' := [(24, _), (0, _), (1, _), (12, _), (13, _)]) ⟨rfl, rfl, rfl, rfl, rfl, trivial⟩ ?_
            refine H_world (fun _ hA => hA.drop (is := [0, 1]) (Y := [_, _]) (Z := [_, _]) rfl) ?_
            refine H_cond rfl ?_ ?_
            · intro h24
              (try simp only [decide_eq_true_eq, decide_eq_false_iff_not, Bool.not_eq_true', Bool.not_eq_false', Bool.not_eq_true, Bool.not_eq_false, Bool.true_eq_false, Bool.false_eq_true, not_false_eq_true, not_true_eq_false] at h24)
              replace h24 := Pair.ne_of h24
              refine H_seq ?_
              -- R7 slices.go:26
              refine H_region (l := [_]) rfl ?_
              refine HO_assign rfl rfl rfl ?_
              refine HO_nil ?_
              refine H_env (ρ' := [(4, _)]) ⟨rfl, trivial⟩ ?_
              refine H_world (fun _ hA => hA.drop (is := [0, 1]) (Y := [_, _]) (Z := []) rfl) ?_
              -- end2
              refine H_ret1 Try.results73 (.tmp rfl) (fun w hA => ⟨(), congrArg Ending.returned ?_, ?_, ?_⟩)
              · (first | exact congrArg Value.bool (Ent.same_no hz18 hz22 h24).symm | exact congrArg Value.bool (Ent.same_yes hl hI).symm | exact congrArg Value.bool (Ent.same_len h10).symm)
              · trivial
              · exact hA.only (is := []) (Z := []) rfl
            · intro h24
              (try simp only [decide_eq_true_eq, decide_eq_false_iff_not, Bool.not_eq_true', Bool.not_eq_false', Bool.not_eq_true, Bool.not_eq_false, Bool.true_eq_false, Bool.false_eq_true, not_false_eq_true, not_true_eq_false] at h24)
              replace h24 := Pair.eq_of h24
              refine H_skip ?_
              refine H_blk ?_
              -- R8 slices.go:24
              refine H_region (l := [_, _]) rfl ?_
              refine HO_bin rfl rfl rfl rfl (bin_add ?_ ?_) ?_
              · (first | omega | assumption | decide)
              · (first | omega | assumption | decide)
              refine HO_move rfl rfl rfl ?_
              refine HO_nil ?_
              refine H_env (ρ' := [(13, _), (0, _), (1, _), (12, _)]) ⟨rfl, rfl, rfl, rfl, trivial⟩ ?_
              refine H_inv (fun a w hf hA => ⟨i + 1, ?_, ?_, hf.sub ?_, ?_⟩)
              · exact ⟨by omega, Ent.same_next hz18 hz22 hI.2 h24⟩
              · (try dsimp only); omega
              · exact ⟨rfl, rfl, rfl, rfl, trivial⟩
              · exact hA.only (is := [0, 1]) (Z := []) rfl
          · refine HO_indexAddr open_Pair (i := 2) rfl rfl rfl rfl rfl Try.underlying32 Try.sizeOf102 rfl ?_ ?_
            · omega
            intro b22 o22 z22 y22 hz22 hI22
            clear y22
            (try simp only [BIG] at hI22)
            refine HA_back (listed' := #[true, true, true, false, true, true, true, false, false]) rfl (fun _ hA => hA.only (is := [2, 3]) (Y := [_, _]) (Z := [_, _]) rfl) ?_
            refine HA_loud2 (i := 3) (j := 7) (by kernel_rfl) rfl rfl ?_ ?_
            · refine HO_loadA (i := 1) (us := []) (cs := [_, _]) (ts := []) rfl rfl rfl Try.isAgg102 Try.sizeOf102 rfl (.elem _ _ _) rfl rfl rfl rfl ?_
              refine HA_back (listed' := #[true, true, true, true, true, true, true, false, false]) rfl (fun _ hA => hA.only (is := [2, 3]) (Y := [_, _]) (Z := [_, _]) rfl) ?_
              refine HA_loud1 (i := 7) (by kernel_rfl) rfl ?_
              refine HO_loadA (i := 0) (us := []) (cs := [_, _]) (ts := []) rfl rfl rfl Try.isAgg102 Try.sizeOf102 rfl (.elem _ _ _) rfl rfl rfl rfl ?_
              refine HA_back (listed' := #[true, true, true, true, true, true, true, true, false]) rfl (fun _ hA => hA.only (is := [2, 3]) (Y := [_, _]) (Z := [_, _]) rfl) ?_
              refine HA_take (i := 8) (listed' := #[true, true, true, true, true, true, true, true, true]) (bodyPost_pan _ _ _) rfl rfl rfl rfl (by kernel_rfl) rfl (V_bin rfl rfl eq102_neq) (fun _ hA => hA.only (is := [2, 3]) (Y := [_, _]) (Z := [_, _]) rfl) ?_
              refine HA_done (by kernel_rfl) ?_
              refine H_env (ρ' := [(24, _), (0, _), (1, _), (12, _), (13, _)]) ⟨rfl, rfl, rfl, rfl, rfl, trivial⟩ ?_
              refine H_world (fun _ hA => hA.drop (is := [0, 1]) (Y := [_, _]) (Z := [_, _]) rfl) ?_
              refine H_cond rfl ?_ ?_
              · intro h24
                (try simp only [decide_eq_true_eq, decide_eq_false_iff_not, Bool.not_eq_true', Bool.not_eq_false', Bool.not_eq_true, Bool.not_eq_false, Bool.true_eq_false, Bool.false_eq_true, not_false_eq_true, not_true_eq_false] at h24)
                replace h24 := Pair.ne_of h24
                refine H_seq ?_
                -- R7 slices.go:26
                refine H_region (l := [_]) rfl ?_
                refine HO_assign rfl rfl rfl ?_
                refine HO_nil ?_
                refine H_env (ρ' := [(4, _)]) ⟨rfl, trivial⟩ ?_
                refine H_world (fun _ hA => hA.drop (is := [0, 1]) (Y := [_, _]) (Z := []) rfl) ?_
                -- end3
                refine H_ret1 Try.results73 (.tmp rfl) (fun w hA => ⟨(), congrArg Ending.returned ?_, ?_, ?_⟩)
                · (first | exact congrArg Value.bool (Ent.same_no hz18 hz22 h24).symm | exact congrArg Value.bool (Ent.same_yes hl hI).symm | exact congrArg Value.bool (Ent.same_len h10).symm)
                · trivial
                · exact hA.only (is := []) (Z := []) rfl
              · intro h24
                (try simp only [decide_eq_true_eq, decide_eq_false_iff_not, Bool.not_eq_true', Bool.not_eq_false', Bool.not_eq_true, Bool.not_eq_false, Bool.true_eq_false, Bool.false_eq_true, not_false_eq_true, not_true_eq_false] at h24)
                replace h24 := Pair.eq_of h24
                refine H_skip ?_
                refine H_blk ?_
                -- R8 slices.go:24
                refine H_region (l := [_, _]) rfl ?_
                refine HO_bin rfl rfl rfl rfl (bin_add ?_ ?_) ?_
                · (first | omega | assumption | decide)
                · (first | omega | assumption | decide)
                refine HO_move rfl rfl rfl ?_
                refine HO_nil ?_
                refine H_env (ρ' := [(13, _), (0, _), (1, _), (12, _)]) ⟨rfl, rfl, rfl, rfl, trivial⟩ ?_
                refine H_inv (fun a w hf hA => ⟨i + 1, ?_, ?_, hf.sub ?_, ?_⟩)
                · exact ⟨by omega, Ent.same_next hz18 hz22 hI.2 h24⟩
                · (try dsimp only); omega
                · exact ⟨rfl, rfl, rfl, rfl, trivial⟩
                · exact hA.only (is := [0, 1]) (Z := []) rfl
            · refine HO_loadA (i := 0) (us := []) (cs := [_, _]) (ts := []) rfl rfl rfl Try.isAgg102 Try.sizeOf102 rfl (.elem _ _ _) rfl rfl rfl rfl ?_
              refine HA_back (listed' := #[true, true, true, false, true, true, true, true, false]) rfl (fun _ hA => hA.only (is := [2, 3]) (Y := [_, _]) (Z := [_, _]) rfl) ?_
              refine HA_loud1 (i := 3) (by kernel_rfl) rfl ?_
              refine HO_loadA (i := 1) (us := []) (cs := [_, _]) (ts := []) rfl rfl rfl Try.isAgg102 Try.sizeOf102 rfl (.elem _ _ _) rfl rfl rfl rfl ?_
              refine HA_back (listed' := #[true, true, true, true, true, true, true, true, false]) rfl (fun _ hA => hA.only (is := [2, 3]) (Y := [_, _]) (Z := [_, _]) rfl) ?_
              refine HA_take (i := 8) (listed' := #[true, true, true, true, true, true, true, true, true]) (bodyPost_pan _ _ _) rfl rfl rfl rfl (by kernel_rfl) rfl (V_bin rfl rfl eq102_neq) (fun _ hA => hA.only (is := [2, 3]) (Y := [_, _]) (Z := [_, _]) rfl) ?_
              refine HA_done (by kernel_rfl) ?_
              refine H_env (ρ' := [(24, _), (0, _), (1, _), (12, _), (13, _)]) ⟨rfl, rfl, rfl, rfl, rfl, trivial⟩ ?_
              refine H_world (fun _ hA => hA.drop (is := [0, 1]) (Y := [_, _]) (Z := [_, _]) rfl) ?_
              refine H_cond rfl ?_ ?_
              · intro h24
                (try simp only [decide_eq_true_eq, decide_eq_false_iff_not, Bool.not_eq_true', Bool.not_eq_false', Bool.not_eq_true, Bool.not_eq_false, Bool.true_eq_false, Bool.false_eq_true, not_false_eq_true, not_true_eq_false] at h24)
                replace h24 := Pair.ne_of h24
                refine H_seq ?_
                -- R7 slices.go:26
                refine H_region (l := [_]) rfl ?_
                refine HO_assign rfl rfl rfl ?_
                refine HO_nil ?_
                refine H_env (ρ' := [(4, _)]) ⟨rfl, trivial⟩ ?_
                refine H_world (fun _ hA => hA.drop (is := [0, 1]) (Y := [_, _]) (Z := []) rfl) ?_
                -- end4
                refine H_ret1 Try.results73 (.tmp rfl) (fun w hA => ⟨(), congrArg Ending.returned ?_, ?_, ?_⟩)
                · (first | exact congrArg Value.bool (Ent.same_no hz18 hz22 h24).symm | exact congrArg Value.bool (Ent.same_yes hl hI).symm | exact congrArg Value.bool (Ent.same_len h10).symm)
                · trivial
                · exact hA.only (is := []) (Z := []) rfl
              · intro h24
                (try simp only [decide_eq_true_eq, decide_eq_false_iff_not, Bool.not_eq_true', Bool.not_eq_false', Bool.not_eq_true, Bool.not_eq_false, Bool.true_eq_false, Bool.false_eq_true, not_false_eq_true, not_true_eq_false] at h24)
                replace h24 := Pair.eq_of h24
                refine H_skip ?_
                refine H_blk ?_
                -- R8 slices.go:24
                refine H_region (l := [_, _]) rfl ?_
                refine HO_bin rfl rfl rfl rfl (bin_add ?_ ?_) ?_
                · (first | omega | assumption | decide)
                · (first | omega | assumption | decide)
                refine HO_move rfl rfl rfl ?_
                refine HO_nil ?_
                refine H_env (ρ' := [(13, _), (0, _), (1, _), (12, _)]) ⟨rfl, rfl, rfl, rfl, trivial⟩ ?_
                refine H_inv (fun a w hf hA => ⟨i + 1, ?_, ?_, hf.sub ?_, ?_⟩)
                · exact ⟨by omega, Ent.same_next hz18 hz22 hI.2 h24⟩
                · (try dsimp only); omega
                · exact ⟨rfl, rfl, rfl, rfl, trivial⟩
                · exact hA.only (is := [0, 1]) (Z := []) rfl
        · refine HO_indexAddr open_Pair (i := 1) rfl rfl rfl rfl rfl Try.underlying32 Try.sizeOf102 rfl ?_ ?_
          · omega
          intro b22 o22 z22 y22 hz22 hI22
          clear y22
          (try simp only [BIG] at hI22)
          refine HA_back (listed' := #[true, true, false, false, true, true, true, false, false]) rfl (fun _ hA => hA.only (is := [1, 2]) (Y := [_, _]) (Z := [_]) rfl) ?_
          refine HA_loud2 (i := 2) (j := 7) (by kernel_rfl) rfl rfl ?_ ?_
          · refine HO_indexAddr open_Pair (i := 1) rfl rfl rfl rfl rfl Try.underlying32 Try.sizeOf102 rfl ?_ ?_
            · omega
            intro b18 o18 z18 y18 hz18 hI18
            clear y18
            (try simp only [BIG] at hI18)
            refine HA_back (listed' := #[true, true, true, false, true, true, true, false, false]) rfl (fun _ hA => hA.only (is := [2, 3]) (Y := [_, _]) (Z := [_, _]) rfl) ?_
            refine HA_loud2 (i := 3) (j := 7) (by kernel_rfl) rfl rfl ?_ ?_
            · refine HO_loadA (i := 0) (us := []) (cs := [_, _]) (ts := []) rfl rfl rfl Try.isAgg102 Try.sizeOf102 rfl (.elem _ _ _) rfl rfl rfl rfl ?_
              refine HA_back (listed' := #[true, true, true, true, true, true, true, false, false]) rfl (fun _ hA => hA.only (is := [2, 3]) (Y := [_, _]) (Z := [_, _]) rfl) ?_
              refine HA_loud1 (i := 7) (by kernel_rfl) rfl ?_
              refine HO_loadA (i := 1) (us := []) (cs := [_, _]) (ts := []) rfl rfl rfl Try.isAgg102 Try.sizeOf102 rfl (.elem _ _ _) rfl rfl rfl rfl ?_
              refine HA_back (listed' := #[true, true, true, true, true, true, true, true, false]) rfl (fun _ hA => hA.only (is := [2, 3]) (Y := [_, _]) (Z := [_, _]) rfl) ?_
              refine HA_take (i := 8) (listed' := #[true, true, true, true, true, true, true, true, true]) (bodyPost_pan _ _ _) rfl rfl rfl rfl (by kernel_rfl) rfl (V_bin rfl rfl eq102_neq) (fun _ hA => hA.only (is := [2, 3]) (Y := [_, _]) (Z := [_, _]) rfl) ?_
              refine HA_done (by kernel_rfl) ?_
              refine H_env (ρ' := [(24, _), (0, _), (1, _), (12, _), (13, _)]) ⟨rfl, rfl, rfl, rfl, rfl, trivial⟩ ?_
              refine H_world (fun _ hA => hA.drop (is := [0, 1]) (Y := [_, _]) (Z := [_, _]) rfl) ?_
              refine H_cond rfl ?_ ?_
              · intro h24
                (try simp only [decide_eq_true_eq, decide_eq_false_iff_not, Bool.not_eq_true', Bool.not_eq_false', Bool.not_eq_true, Bool.not_eq_false, Bool.true_eq_false, Bool.false_eq_true, not_false_eq_true, not_true_eq_false] at h24)
                replace h24 := Pair.ne_of h24
                refine H_seq ?_
                -- R7 slices.go:26
                refine H_region (l := [_]) rfl ?_
                refine HO_assign rfl rfl rfl ?_
                refine HO_nil ?_
                refine H_env (ρ' := [(4, _)]) ⟨rfl, trivial⟩ ?_
                refine H_world (fun _ hA => hA.drop (is := [0, 1]) (Y := [_, _]) (Z := []) rfl) ?_
                -- end5
                refine H_ret1 Try.results73 (.tmp rfl) (fun w hA => ⟨(), congrArg Ending.returned ?_, ?_, ?_⟩)
                · (first | exact congrArg Value.bool (Ent.same_no hz18 hz22 h24).symm | exact congrArg Value.bool (Ent.same_yes hl hI).symm | exact congrArg Value.bool (Ent.same_len h10).symm)
                · trivial
                · exact hA.only (is := []) (Z := []) rfl
              · intro h24
                (try simp only [decide_eq_true_eq, decide_eq_false_iff_not, Bool.not_eq_true', Bool.not_eq_false', Bool.not_eq_true, Bool.not_eq_false, Bool.true_eq_false, Bool.false_eq_true, not_false_eq_true, not_true_eq_false] at h24)
                replace h24 := Pair.eq_of h24
                refine H_skip ?_
                refine H_blk ?_
                -- R8 slices.go:24
                refine H_region (l := [_, _]) rfl ?_
                refine HO_bin rfl rfl rfl rfl (bin_add ?_ ?_) ?_
                · (first | omega | assumption | decide)
                · (first | omega | assumption | decide)
                refine HO_move rfl rfl rfl ?_
                refine HO_nil ?_
                refine H_env (ρ' := [(13, _), (0, _), (1, _), (12, _)]) ⟨rfl, rfl, rfl, rfl, trivial⟩ ?_
                refine H_inv (fun a w hf hA => ⟨i + 1, ?_, ?_, hf.sub ?_, ?_⟩)
                · exact ⟨by omega, Ent.same_next hz18 hz22 hI.2 h24⟩
                · (try dsimp only); omega
                · exact ⟨rfl, rfl, rfl, rfl, trivial⟩
                · exact hA.only (is := [0, 1]) (Z := []) rfl
            · refine HO_loadA (i := 1) (us := []) (cs := [_, _]) (ts := []) rfl rfl rfl Try.isAgg102 Try.sizeOf102 rfl (.elem _ _ _) rfl rfl rfl rfl ?_
              refine HA_back (listed' := #[true, true, true, false, true, true, true, true, false]) rfl (fun _ hA => hA.only (is := [2, 3]) (Y := [_, _]) (Z := [_, _]) rfl) ?_
              refine HA_loud1 (i := 3) (by kernel_rfl) rfl ?_
              refine HO_loadA (i := 0) (us := []) (cs := [_, _]) (ts := []) rfl rfl rfl Try.isAgg102 Try.sizeOf102 rfl (.elem _ _ _) rfl rfl rfl rfl ?_
              refine HA_back (listed' := #[true, true, true, true, true, true, true, true, false]) rfl (fun _ hA => hA.only (is := [2, 3]) (Y := [_, _]) (Z := [_, _]) rfl) ?_
              refine HA_take (i := 8) (listed' := #[true, true, true, true, true, true, true, true, true]) (bodyPost_pan _ _ _) rfl rfl rfl rfl (by kernel_rfl) rfl (V_bin rfl rfl eq102_neq) (fun _ hA => hA.only (is := [2, 3]) (Y := [_, _]) (Z := [_, _]) rfl) ?_
              refine HA_done (by kernel_rfl) ?_
              refine H_env (ρ' := [(24, _), (0, _), (1, _), (12, _), (13, _)]) ⟨rfl, rfl, rfl, rfl, rfl, trivial⟩ ?_
              refine H_world (fun _ hA => hA.drop (is := [0, 1]) (Y := [_, _]) (Z := [_, _]) rfl) ?_
              refine H_cond rfl ?_ ?_
              · intro h24
                (try simp only [decide_eq_true_eq, decide_eq_false_iff_not, Bool.not_eq_true', Bool.not_eq_false', Bool.not_eq_true, Bool.not_eq_false, Bool.true_eq_false, Bool.false_eq_true, not_false_eq_true, not_true_eq_false] at h24)
                replace h24 := Pair.ne_of h24
                refine H_seq ?_
                -- R7 slices.go:26
                refine H_region (l := [_]) rfl ?_
                refine HO_assign rfl rfl rfl ?_
                refine HO_nil ?_
                refine H_env (ρ' := [(4, _)]) ⟨rfl, trivial⟩ ?_
                refine H_world (fun _ hA => hA.drop (is := [0, 1]) (Y := [_, _]) (Z := []) rfl) ?_
                -- end6
                refine H_ret1 Try.results73 (.tmp rfl) (fun w hA => ⟨(), congrArg Ending.returned ?_, ?_, ?_⟩)
                · (first | exact congrArg Value.bool (Ent.same_no hz18 hz22 h24).symm | exact congrArg Value.bool (Ent.same_yes hl hI).symm | exact congrArg Value.bool (Ent.same_len h10).symm)
                · trivial
                · exact hA.only (is := []) (Z := []) rfl
              · intro h24
                (try simp only [decide_eq_true_eq, decide_eq_false_iff_not, Bool.not_eq_true', Bool.not_eq_false', Bool.not_eq_true, Bool.not_eq_false, Bool.true_eq_false, Bool.false_eq_true, not_false_eq_true, not_true_eq_false] at h24)
                replace h24 := Pair.eq_of h24
                refine H_skip ?_
                refine H_blk ?_
                -- R8 slices.go:24
                refine H_region (l := [_, _]) rfl ?_
                refine HO_bin rfl rfl rfl rfl (bin_add ?_ ?_) ?_
                · (first | omega | assumption | decide)
                · (first | omega | assumption | decide)
                refine HO_move rfl rfl rfl ?_
                refine HO_nil ?_
                refine H_env (ρ' := [(13, _), (0, _), (1, _), (12, _)]) ⟨rfl, rfl, rfl, rfl, trivial⟩ ?_
                refine H_inv (fun a w hf hA => ⟨i + 1, ?_, ?_, hf.sub ?_, ?_⟩)
                · exact ⟨by omega, Ent.same_next hz18 hz22 hI.2 h24⟩
                · (try dsimp only); omega
                · exact ⟨rfl, rfl, rfl, rfl, trivial⟩
                · exact hA.only (is := [0, 1]) (Z := []) rfl
          · refine HO_loadA (i := 0) (us := []) (cs := [_, _]) (ts := []) rfl rfl rfl Try.isAgg102 Try.sizeOf102 rfl (.elem _ _ _) rfl rfl rfl rfl ?_
            refine HA_back (listed' := #[true, true, false, false, true, true, true, true, false]) rfl (fun _ hA => hA.only (is := [1, 2]) (Y := [_, _]) (Z := [_]) rfl) ?_
            refine HA_loud1 (i := 2) (by kernel_rfl) rfl ?_
            refine HO_indexAddr open_Pair (i := 1) rfl rfl rfl rfl rfl Try.underlying32 Try.sizeOf102 rfl ?_ ?_
            · omega
            intro b18 o18 z18 y18 hz18 hI18
            clear y18
            (try simp only [BIG] at hI18)
            refine HA_back (listed' := #[true, true, true, false, true, true, true, true, false]) rfl (fun _ hA => hA.only (is := [2, 3]) (Y := [_, _]) (Z := [_, _]) rfl) ?_
            refine HA_loud1 (i := 3) (by kernel_rfl) rfl ?_
            refine HO_loadA (i := 0) (us := []) (cs := [_, _]) (ts := []) rfl rfl rfl Try.isAgg102 Try.sizeOf102 rfl (.elem _ _ _) rfl rfl rfl rfl ?_
            refine HA_back (listed' := #[true, true, true, true, true, true, true, true, false]) rfl (fun _ hA => hA.only (is := [2, 3]) (Y := [_, _]) (Z := [_, _]) rfl) ?_
            refine HA_take (i := 8) (listed' := #[true, true, true, true, true, true, true, true, true]) (bodyPost_pan _ _ _) rfl rfl rfl rfl (by kernel_rfl) rfl (V_bin rfl rfl eq102_neq) (fun _ hA => hA.only (is := [2, 3]) (Y := [_, _]) (Z := [_, _]) rfl) ?_
            refine HA_done (by kernel_rfl) ?_
            refine H_env (ρ' := [(24, _), (0, _), (1, _), (12, _), (13, _)]) ⟨rfl, rfl, rfl, rfl, rfl, trivial⟩ ?_
            refine H_world (fun _ hA => hA.drop (is := [0, 1]) (Y := [_, _]) (Z := [_, _]) rfl) ?_
            refine H_cond rfl ?_ ?_
            · intro h24
              (try simp only [decide_eq_true_eq, decide_eq_false_iff_not, Bool.not_eq_true', Bool.not_eq_false', Bool.not_eq_true, Bool.not_eq_false, Bool.true_eq_false, Bool.false_eq_true, not_false_eq_true, not_true_eq_false] at h24)
              replace h24 := Pair.ne_of h24
              refine H_seq ?_
              -- R7 slices.go:26
              refine H_region (l := [_]) rfl ?_
              refine HO_assign rfl rfl rfl ?_
              refine HO_nil ?_
              refine H_env (ρ' := [(4, _)]) ⟨rfl, trivial⟩ ?_
              refine H_world (fun _ hA => hA.drop (is := [0, 1]) (Y := [_, _]) (Z := []) rfl) ?_
              -- end7
              refine H_ret1 Try.results73 (.tmp rfl) (fun w hA => ⟨(), congrArg Ending.returned ?_, ?_, ?_⟩)
              · (first | exact congrArg Value.bool (Ent.same_no hz18 hz22 h24).symm | exact congrArg Value.bool (Ent.same_yes hl hI).symm | exact congrArg Value.bool (Ent.same_len h10).symm)
              · trivial
              · exact hA.only (is := []) (Z := []) rfl
            · intro h24
              (try simp only [decide_eq_true_eq, decide_eq_false_iff_not, Bool.not_eq_true', Bool.not_eq_false', Bool.not_eq_true, Bool.not_eq_false, Bool.true_eq_false, Bool.false_eq_true, not_false_eq_true, not_true_eq_false] at h24)
              replace h24 := Pair.eq_of h24
              refine H_skip ?_
              refine H_blk ?_
              -- R8 slices.go:24
              refine H_region (l := [_, _]) rfl ?_
              refine HO_bin rfl rfl rfl rfl (bin_add ?_ ?_) ?_
              · (first | omega | assumption | decide)
              · (first | omega | assumption | decide)
              refine HO_move rfl rfl rfl ?_
              refine HO_nil ?_
              refine H_env (ρ' := [(13, _), (0, _), (1, _), (12, _)]) ⟨rfl, rfl, rfl, rfl, trivial⟩ ?_
              refine H_inv (fun a w hf hA => ⟨i + 1, ?_, ?_, hf.sub ?_, ?_⟩)
              · exact ⟨by omega, Ent.same_next hz18 hz22 hI.2 h24⟩
              · (try dsimp only); omega
              · exact ⟨rfl, rfl, rfl, rfl, trivial⟩
              · exact hA.only (is := [0, 1]) (Z := []) rfl
      · intro h14
        (try simp only [decide_eq_true_eq, decide_eq_false_iff_not, Bool.not_eq_true', Bool.not_eq_false', Bool.not_eq_true, Bool.not_eq_false, Bool.true_eq_false, Bool.false_eq_true, not_false_eq_true, not_true_eq_false] at h14)
        refine H_exit rfl ?_
        refine H_seq ?_
        -- R9 slices.go:29
        obtain rfl : i = ps.length := by omega
        refine H_region (l := [_]) rfl ?_
        refine HO_assign rfl rfl rfl ?_
        refine HO_nil ?_
        refine H_env (ρ' := [(4, _)]) ⟨rfl, trivial⟩ ?_
        refine H_world (fun _ hA => hA.drop (is := [0, 1]) (Y := [_, _]) (Z := []) rfl) ?_
        -- end8
        refine H_ret1 Try.results73 (.tmp rfl) (fun w hA => ⟨(), congrArg Ending.returned ?_, ?_, ?_⟩)
        · (first | exact congrArg Value.bool (Ent.same_no hz18 hz22 h24).symm | exact congrArg Value.bool (Ent.same_yes hl hI).symm | exact congrArg Value.bool (Ent.same_len h10).symm)
        · trivial
        · exact hA.only (is := []) (Z := []) rfl
theorem reqpairs_spec (ps ps2 : List Pair) (a : Option Addr) (c : Nat) (a2 : Option Addr) (c2 : Nat)  : Spec Try.prog 101 #[.slice a (ps.length) c, .slice a2 (ps2.length) c2] [.dat kPair.sl (ps) [.slice a (ps.length) c], .dat kPair.sl (ps2) [.slice a2 (ps2.length) c2]] (β := Unit) (fun y => .bool (decide (ps = ps2))) (fun y => True) (fun y => []) := by
  refine Spec.enter (vs := [_, _]) Try.func101 rfl Try.ntmps101 rfl (Nat.le_of_ble_eq_true rfl) (fun w0 ok0 => ?_)
  generalize hM0 : blks _ = M0
  have hMn : ∀ {R : List Atom} (b : Nat), M0 b → blks R b := fun b hb => absurd (hM0 ▸ hb) (blks_none (by simp [Atom.dat, Atom.elem]) b)
  refine H_len_le (i := 0) rfl ?_
  intro hlen0
  refine H_len_le (i := 1) rfl ?_
  intro hlen1
  refine H_seq ?_
  -- R0 ref.go:82
  refine H_region (l := [_]) rfl ?_
  refine HO_assign rfl rfl rfl ?_
  refine HO_nil ?_
  refine H_env (ρ' := [(0, _), (1, _)]) ⟨rfl, rfl, trivial⟩ ?_
  refine H_seq ?_
  refine H_seq ?_
  -- R1 ref.go:83
  refine H_region (l := [_, _, _, _, _]) rfl ?_
  refine HO_move rfl rfl rfl ?_
  refine HO_bi rfl rfl rfl (bi_len_sl Try.underlying32) ?_
  refine HO_move rfl rfl rfl ?_
  refine HO_bi rfl rfl rfl (bi_len_sl Try.underlying32) ?_
  refine HO_bin rfl rfl rfl rfl bin_neq ?_
  refine HO_nil ?_
  refine H_env (ρ' := [(10, _), (0, _), (1, _)]) ⟨rfl, rfl, rfl, trivial⟩ ?_
  refine H_cond rfl ?_ ?_
  · intro h10
    (try simp only [decide_eq_true_eq, decide_eq_false_iff_not, Bool.not_eq_true', Bool.not_eq_false', Bool.not_eq_true, Bool.not_eq_false, Bool.true_eq_false, Bool.false_eq_true, not_false_eq_true, not_true_eq_false] at h10)
    refine H_seq ?_
    -- R2 ref.go:84
    refine H_region (l := [_]) rfl ?_
    refine HO_assign rfl rfl rfl ?_
    refine HO_nil ?_
    refine H_env (ρ' := [(4, _)]) ⟨rfl, trivial⟩ ?_
    refine H_world (fun _ hA => hA.drop (is := [0, 1]) (Y := [_, _]) (Z := []) rfl) ?_
    -- end1
    refine H_ret1 Try.results101 (.tmp rfl) (fun w hA => ⟨(), congrArg Ending.returned ?_, ?_, ?_⟩)
    · (first | exact congrArg Value.bool (Ent.same_no hz18 hz22 h24).symm | exact congrArg Value.bool (Ent.same_yes hl hI).symm | exact congrArg Value.bool (Ent.same_len h10).symm)
    · trivial
    · exact hA.only (is := []) (Z := []) rfl
  · intro h10
    (try simp only [decide_eq_true_eq, decide_eq_false_iff_not, Bool.not_eq_true', Bool.not_eq_false', Bool.not_eq_true, Bool.not_eq_false, Bool.true_eq_false, Bool.false_eq_true, not_false_eq_true, not_true_eq_false] at h10)
    have hl : ps.length = ps2.length := by omega
    refine H_skip ?_
    refine H_seq ?_
    refine H_seq ?_
    -- R3 ref.go:86
    refine H_region (l := [_, _, _]) rfl ?_
    refine HO_move rfl rfl rfl ?_
    refine HO_bi rfl rfl rfl (bi_len_sl Try.underlying32) ?_
    refine HO_move rfl rfl rfl ?_
    refine HO_nil ?_
    refine H_env (ρ' := [(13, _), (12, _), (0, _), (1, _)]) ⟨rfl, rfl, rfl, rfl, trivial⟩ ?_
    refine H_block ?_
    refine H_loop (σ := Nat) (fun s => s ≤ ps.length ∧ ps.take s = ps2.take s) (fun s => [(0, .slice a (ps.length) c), (1, .slice a2 (ps2.length) c2), (12, .int .i64 ((ps.length : Int))), (13, .int .i64 ((s : Int)))]) (fun s => Asn w0 ok0 M0 [.dat kPair.sl (ps) [.slice a (ps.length) c], .dat kPair.sl (ps2) [.slice a2 (ps2.length) c2]]) (fun s => ps.length - s) 0 ?_ ?_ ?_ ?_
    · exact ⟨Nat.zero_le _, by simp⟩
    · exact ⟨rfl, rfl, rfl, rfl, trivial⟩
    · intro w hA
      exact hA.only (is := [0, 1]) (Z := []) rfl
    · intro i hI
      (try dsimp only at hI ⊢)
      refine H_seq ?_
      -- R4 ref.go:86
      refine H_region (l := [_]) rfl ?_
      refine HO_bin rfl rfl rfl rfl bin_lss ?_
      refine HO_nil ?_
      refine H_seq ?_
      refine H_cond rfl ?_ ?_
      · intro h14
        (try simp only [decide_eq_true_eq, decide_eq_false_iff_not, Bool.not_eq_true', Bool.not_eq_false', Bool.not_eq_true, Bool.not_eq_false, Bool.true_eq_false, Bool.false_eq_true, not_false_eq_true, not_true_eq_false] at h14)
        refine H_skip ?_
        refine H_seq ?_
        refine H_block ?_
        refine H_seq ?_
        -- R5 ref.go:86
        refine H_region (l := [_, _]) rfl ?_
        refine HO_move rfl rfl rfl ?_
        refine HO_assign rfl rfl rfl ?_
        refine HO_nil ?_
        refine H_env (ρ' := [(5, _), (0, _), (1, _), (12, _), (13, _)]) ⟨rfl, rfl, rfl, rfl, rfl, trivial⟩ ?_
        refine H_seq ?_
        -- R6 ref.go:87 draws
        refine H_draw (is := [0, 1]) (Xs := [_, _]) (Z := []) (fuel := 9) (l := #[false, false, false, false, false, false, false, false, false]) mixed rfl rfl rfl ?_
        refine HA_take (i := 0) (listed' := #[true, false, false, false, false, false, false, false, false]) (bodyPost_pan _ _ _) rfl rfl rfl rfl (by kernel_rfl) rfl (V_move rfl) (fun _ hA => hA.only (is := [0, 1]) (Y := [_, _]) (Z := []) rfl) ?_
        refine HA_take (i := 1) (listed' := #[true, true, false, false, false, false, false, false, false]) (bodyPost_pan _ _ _) rfl rfl rfl rfl (by kernel_rfl) rfl (V_move rfl) (fun _ hA => hA.only (is := [0, 1]) (Y := [_, _]) (Z := []) rfl) ?_
        refine HA_take (i := 4) (listed' := #[true, true, false, false, true, false, false, false, false]) (bodyPost_pan _ _ _) rfl rfl rfl rfl (by kernel_rfl) rfl (V_move rfl) (fun _ hA => hA.only (is := [0, 1]) (Y := [_, _]) (Z := []) rfl) ?_
        refine HA_take (i := 5) (listed' := #[true, true, false, false, true, true, false, false, false]) (bodyPost_pan _ _ _) rfl rfl rfl rfl (by kernel_rfl) rfl (V_move rfl) (fun _ hA => hA.only (is := [0, 1]) (Y := [_, _]) (Z := []) rfl) ?_
        refine HA_loud2 (i := 2) (j := 6) (by kernel_rfl) rfl rfl ?_ ?_
        · refine HO_indexAddr open_Pair (i := 0) rfl rfl rfl rfl rfl Try.underlying32 Try.sizeOf102 rfl ?_ ?_
          · omega
          intro b18 o18 z18 y18 hz18 hI18
          clear y18
          (try simp only [BIG] at hI18)
          refine HA_back (listed' := #[true, true, true, false, true, true, false, false, false]) rfl (fun _ hA => hA.only (is := [1, 2]) (Y := [_, _]) (Z := [_]) rfl) ?_
          refine HA_loud2 (i := 3) (j := 6) (by kernel_rfl) rfl rfl ?_ ?_
          · refine HO_loadA (i := 0) (us := []) (cs := [_, _]) (ts := []) rfl rfl rfl Try.isAgg102 Try.sizeOf102 rfl (.elem _ _ _) rfl rfl rfl rfl ?_
            refine HA_back (listed' := #[true, true, true, true, true, true, false, false, false]) rfl (fun _ hA => hA.only (is := [1, 2]) (Y := [_, _]) (Z := [_]) rfl) ?_
            refine HA_loud1 (i := 6) (by kernel_rfl) rfl ?_
            refine HO_indexAddr open_Pair (i := 2) rfl rfl rfl rfl rfl Try.underlying32 Try.sizeOf102 rfl ?_ ?_
            · omega
            intro b22 o22 z22 y22 hz22 hI22
            clear y22
            (try simp only [BIG] at hI22)
            refine HA_back (listed' := #[true, true, true, true, true, true, true, false, false]) rfl (fun _ hA => hA.only (is := [2, 3]) (Y := [_, _]) (Z := [_, _]) rfl) ?_
            refine HA_loud1 (i := 7) (by kernel_rfl) rfl ?_
            refine HO_loadA (i := 0) (us := []) (cs := [_, _]) (ts := []) rfl rfl rfl Try.isAgg102 Try.sizeOf102 rfl (.elem _ _ _) rfl rfl rfl rfl ?_
            refine HA_back (listed' := #[true, true, true, true, true, true, true, true, false]) rfl (fun _ hA => hA.only (is := [2, 3]) (Y := [_, _]) (Z := [_, _]) rfl) ?_
            refine HA_take (i := 8) (listed' := #[true, true, true, true, true, true, true, true, true]) (bodyPost_pan _ _ _) rfl rfl rfl rfl (by kernel_rfl) rfl (V_bin rfl rfl eq102_neq) (fun _ hA => hA.only (is := [2, 3]) (Y := [_, _]) (Z := [_, _]) rfl) ?_
            refine HA_done (by kernel_rfl) ?_
            refine H_env (ρ' := [(24, _), (0, _), (1, _), (12, _), (13, _)]) ⟨rfl, rfl, rfl, rfl, rfl, trivial⟩ ?_
            refine H_world (fun _ hA => hA.drop (is := [0, 1]) (Y := [_, _]) (Z := [_, _]) rfl) ?_
            refine H_cond rfl ?_ ?_
            · intro h24
              (try simp only [decide_eq_true_eq, decide_eq_false_iff_not, Bool.not_eq_true', Bool.not_eq_false', Bool.not_eq_true, Bool.not_eq_false, Bool.true_eq_false, Bool.false_eq_true, not_false_eq_true, not_true_eq_false] at h24)
              replace h24 := Pair.ne_of h24
              refine H_seq ?_
              -- R7 ref.go:88
              refine H_region (l := [_]) rfl ?_
              refine HO_assign rfl rfl rfl ?_
              refine HO_nil ?_
              refine H_env (ρ' := [(4, _)]) ⟨rfl, trivial⟩ ?_
              refine H_world (fun _ hA => hA.drop (is := [0, 1]) (Y := [_, _]) (Z := []) rfl) ?_
              -- end2
              refine H_ret1 Try.results101 (.tmp rfl) (fun w hA => ⟨(), congrArg Ending.returned ?_, ?_, ?_⟩)
              · (first | exact congrArg Value.bool (Ent.same_no hz18 hz22 h24).symm | exact congrArg Value.bool (Ent.same_yes hl hI).symm | exact congrArg Value.bool (Ent.same_len h10).symm)
              · trivial
              · exact hA.only (is := []) (Z := []) rfl
            · intro h24
              (try simp only [decide_eq_true_eq, decide_eq_false_iff_not, Bool.not_eq_true', Bool.not_eq_false', Bool.not_eq_true, Bool.not_eq_false, Bool.true_eq_false, Bool.false_eq_true, not_false_eq_true, not_true_eq_false] at h24)
              replace h24 := Pair.eq_of h24
              refine H_skip ?_
              refine H_blk ?_
              -- R8 ref.go:86
              refine H_region (l := [_, _]) rfl ?_
              refine HO_bin rfl rfl rfl rfl (bin_add ?_ ?_) ?_
              · (first | omega | assumption | decide)
              · (first | omega | assumption | decide)
              refine HO_move rfl rfl rfl ?_
              refine HO_nil ?_
              refine H_env (ρ' := [(13, _), (0, _), (1, _), (12, _)]) ⟨rfl, rfl, rfl, rfl, trivial⟩ ?_
              refine H_inv (fun a w hf hA => ⟨i + 1, ?_, ?_, hf.sub ?_, ?_⟩)
              · exact ⟨by omega, Ent.same_next hz18 hz22 hI.2 h24⟩
              · (try dsimp only); omega
              · exact ⟨rfl, rfl, rfl, rfl, trivial⟩
              · exact hA.only (is := [0, 1]) (Z := []) rfl
          · refine HO_indexAddr open_Pair (i := 2) rfl rfl rfl rfl rfl Try.underlying32 Try.sizeOf102 rfl ?_ ?_
            · omega
            intro b22 o22 z22 y22 hz22 hI22
            clear y22
            (try simp only [BIG] at hI22)
            refine HA_back (listed' := #[true, true, true, false, true, true, true, false, false]) rfl (fun _ hA => hA.only (is := [2, 3]) (Y := [_, _]) (Z := [_, _]) rfl) ?_
            refine HA_loud2 (i := 3) (j := 7) (by kernel_rfl) rfl rfl ?_ ?_
            · refine HO_loadA (i := 1) (us := []) (cs := [_, _]) (ts := []) rfl rfl rfl Try.isAgg102 Try.sizeOf102 rfl (.elem _ _ _) rfl rfl rfl rfl ?_
              refine HA_back (listed' := #[true, true, true, true, true, true, true, false, false]) rfl (fun _ hA => hA.only (is := [2, 3]) (Y := [_, _]) (Z := [_, _]) rfl) ?_
              refine HA_loud1 (i := 7) (by kernel_rfl) rfl ?_
              refine HO_loadA (i := 0) (us := []) (cs := [_, _]) (ts := []) rfl rfl rfl Try.isAgg102 Try.sizeOf102 rfl (.elem _ _ _) rfl rfl rfl rfl ?_
              refine HA_back (listed' := #[true, true, true, true, true, true, true, true, false]) rfl (fun _ hA => hA.only (is := [2, 3]) (Y := [_, _]) (Z := [_, _]) rfl) ?_
              refine HA_take (i := 8) (listed' := #[true, true, true, true, true, true, true, true, true]) (bodyPost_pan _ _ _) rfl rfl rfl rfl (by kernel_rfl) rfl (V_bin rfl rfl eq102_neq) (fun _ hA => hA.only (is := [2, 3]) (Y := [_, _]) (Z := [_, _]) rfl) ?_
              refine HA_done (by kernel_rfl) ?_
              refine H_env (ρ' := [(24, _), (0, _), (1, _), (12, _), (13, _)]) ⟨rfl, rfl, rfl, rfl, rfl, trivial⟩ ?_
              refine H_world (fun _ hA => hA.drop (is := [0, 1]) (Y := [_, _]) (Z := [_, _]) rfl) ?_
              refine H_cond rfl ?_ ?_
              · intro h24
                (try simp only [decide_eq_true_eq, decide_eq_false_iff_not, Bool.not_eq_true', Bool.not_eq_false', Bool.not_eq_true, Bool.not_eq_false, Bool.true_eq_false, Bool.false_eq_true, not_false_eq_true, not_true_eq_false] at h24)
                replace h24 := Pair.ne_of h24
                refine H_seq ?_
                -- R7 ref.go:88
                refine H_region (l := [_]) rfl ?_
                refine HO_assign rfl rfl rfl ?_
                refine HO_nil ?_
                refine H_env (ρ' := [(4, _)]) ⟨rfl, trivial⟩ ?_
                refine H_world (fun _ hA => hA.drop (is := [0, 1]) (Y := [_, _]) (Z := []) rfl) ?_
                -- end3
                refine H_ret1 Try.results101 (.tmp rfl) (fun w hA => ⟨(), congrArg Ending.returned ?_, ?_, ?_⟩)
                · (first | exact congrArg Value.bool (Ent.same_no hz18 hz22 h24).symm | exact congrArg Value.bool (Ent.same_yes hl hI).symm | exact congrArg Value.bool (Ent.same_len h10).symm)
                · trivial
                · exact hA.only (is := []) (Z := []) rfl
              · intro h24
                (try simp only [decide_eq_true_eq, decide_eq_false_iff_not, Bool.not_eq_true', Bool.not_eq_false', Bool.not_eq_true, Bool.not_eq_false, Bool.true_eq_false, Bool.false_eq_true, not_false_eq_true, not_true_eq_false] at h24)
                replace h24 := Pair.eq_of h24
                refine H_skip ?_
                refine H_blk ?_
                -- R8 ref.go:86
                refine H_region (l := [_, _]) rfl ?_
                refine HO_bin rfl rfl rfl rfl (bin_add ?_ ?_) ?_
                · (first | omega | assumption | decide)
                · (first | omega | assumption | decide)
                refine HO_move rfl rfl rfl ?_
                refine HO_nil ?_
                refine H_env (ρ' := [(13, _), (0, _), (1, _), (12, _)]) ⟨rfl, rfl, rfl, rfl, trivial⟩ ?_
                refine H_inv (fun a w hf hA => ⟨i + 1, ?_, ?_, hf.sub ?_, ?_⟩)
                · exact ⟨by omega, Ent.same_next hz18 hz22 hI.2 h24⟩
                · (try dsimp only); omega
                · exact ⟨rfl, rfl, rfl, rfl, trivial⟩
                · exact hA.only (is := [0, 1]) (Z := []) rfl
            · refine HO_loadA (i := 0) (us := []) (cs := [_, _]) (ts := []) rfl rfl rfl Try.isAgg102 Try.sizeOf102 rfl (.elem _ _ _) rfl rfl rfl rfl ?_
              refine HA_back (listed' := #[true, true, true, false, true, true, true, true, false]) rfl (fun _ hA => hA.only (is := [2, 3]) (Y := [_, _]) (Z := [_, _]) rfl) ?_
              refine HA_loud1 (i := 3) (by kernel_rfl) rfl ?_
              refine HO_loadA (i := 1) (us := []) (cs := [_, _]) (ts := []) rfl rfl rfl Try.isAgg102 Try.sizeOf102 rfl (.elem _ _ _) rfl rfl rfl rfl ?_
              refine HA_back (listed' := #[true, true, true, true, true, true, true, true, false]) rfl (fun _ hA => hA.only (is := [2, 3]) (Y := [_, _]) (Z := [_, _]) rfl) ?_
              refine HA_take (i := 8) (listed' := #[true, true, true, true, true, true, true, true, true]) (bodyPost_pan _ _ _) rfl rfl rfl rfl (by kernel_rfl) rfl (V_bin rfl rfl eq102_neq) (fun _ hA => hA.only (is := [2, 3]) (Y := [_, _]) (Z := [_, _]) rfl) ?_
              refine HA_done (by kernel_rfl) ?_
              refine H_env (ρ' := [(24, _), (0, _), (1, _), (12, _), (13, _)]) ⟨rfl, rfl, rfl, rfl, rfl, trivial⟩ ?_
              refine H_world (fun _ hA => hA.drop (is := [0, 1]) (Y := [_, _]) (Z := [_, _]) rfl) ?_
              refine H_cond rfl ?_ ?_
              · intro h24
                (try simp only [decide_eq_true_eq, decide_eq_false_iff_not, Bool.not_eq_true', Bool.not_eq_false', Bool.not_eq_true, Bool.not_eq_false, Bool.true_eq_false, Bool.false_eq_true, not_false_eq_true, not_true_eq_false] at h24)
                replace h24 := Pair.ne_of h24
                refine H_seq ?_
                -- R7 ref.go:88
                refine H_region (l := [_]) rfl ?_
                refine HO_assign rfl rfl rfl ?_
                refine HO_nil ?_
                refine H_env (ρ' := [(4, _)]) ⟨rfl, trivial⟩ ?_
                refine H_world (fun _ hA => hA.drop (is := [0, 1]) (Y := [_, _]) (Z := []) rfl) ?_
                -- end4
                refine H_ret1 Try.results101 (.tmp rfl) (fun w hA => ⟨(), congrArg Ending.returned ?_, ?_, ?_⟩)
                · (first | exact congrArg Value.bool (Ent.same_no hz18 hz22 h24).symm | exact congrArg Value.bool (Ent.same_yes hl hI).symm | exact congrArg Value.bool (Ent.same_len h10).symm)
                · trivial
                · exact hA.only (is := []) (Z := []) rfl
              · intro h24
                (try simp only [decide_eq_true_eq, decide_eq_false_iff_not, Bool.not_eq_true', Bool.not_eq_false', Bool.not_eq_true, Bool.not_eq_false, Bool.true_eq_false, Bool.false_eq_true, not_false_eq_true, not_true_eq_false] at h24)
                replace h24 := Pair.eq_of h24
                refine H_skip ?_
                refine H_blk ?_
                -- R8 ref.go:86
                refine H_region (l := [_, _]) rfl ?_
                refine HO_bin rfl rfl rfl rfl (bin_add ?_ ?_) ?_
                · (first | omega | assumption | decide)
                · (first | omega | assumption | decide)
                refine HO_move rfl rfl rfl ?_
                refine HO_nil ?_
                refine H_env (ρ' := [(13, _), (0, _), (1, _), (12, _)]) ⟨rfl, rfl, rfl, rfl, trivial⟩ ?_
                refine H_inv (fun a w hf hA => ⟨i + 1, ?_, ?_, hf.sub ?_, ?_⟩)
                · exact ⟨by omega, Ent.same_next hz18 hz22 hI.2 h24⟩
                · (try dsimp only); omega
                · exact ⟨rfl, rfl, rfl, rfl, trivial⟩
                · exact hA.only (is := [0, 1]) (Z := []) rfl
        · refine HO_indexAddr open_Pair (i := 1) rfl rfl rfl rfl rfl Try.underlying32 Try.sizeOf102 rfl ?_ ?_
          · omega
          intro b22 o22 z22 y22 hz22 hI22
          clear y22
          (try simp only [BIG] at hI22)
          refine HA_back (listed' := #[true, true, false, false, true, true, true, false, false]) rfl (fun _ hA => hA.only (is := [1, 2]) (Y := [_, _]) (Z := [_]) rfl) ?_
          refine HA_loud2 (i := 2) (j := 7) (by kernel_rfl) rfl rfl ?_ ?_
          · refine HO_indexAddr open_Pair (i := 1) rfl rfl rfl rfl rfl Try.underlying32 Try.sizeOf102 rfl ?_ ?_
            · omega
            intro b18 o18 z18 y18 hz18 hI18
            clear y18
            (try simp only [BIG] at hI18)
            refine HA_back (listed' := #[true, true, true, false, true, true, true, false, false]) rfl (fun _ hA => hA.only (is := [2, 3]) (Y := [_, _]) (Z := [_, _]) rfl) ?_
            refine HA_loud2 (i := 3) (j := 7) (by kernel_rfl) rfl rfl ?_ ?_
            · refine HO_loadA (i := 0) (us := []) (cs := [_, _]) (ts := []) rfl rfl rfl Try.isAgg102 Try.sizeOf102 rfl (.elem _ _ _) rfl rfl rfl rfl ?_
              refine HA_back (listed' := #[true, true, true, true, true, true, true, false, false]) rfl (fun _ hA => hA.only (is := [2, 3]) (Y := [_, _]) (Z := [_, _]) rfl) ?_
              refine HA_loud1 (i := 7) (by kernel_rfl) rfl ?_
              refine HO_loadA (i := 1) (us := []) (cs := [_, _]) (ts := []) rfl rfl rfl Try.isAgg102 Try.sizeOf102 rfl (.elem _ _ _) rfl rfl rfl rfl ?_
              refine HA_back (listed' := #[true, true, true, true, true, true, true, true, false]) rfl (fun _ hA => hA.only (is := [2, 3]) (Y := [_, _]) (Z := [_, _]) rfl) ?_
              refine HA_take (i := 8) (listed' := #[true, true, true, true, true, true, true, true, true]) (bodyPost_pan _ _ _) rfl rfl rfl rfl (by kernel_rfl) rfl (V_bin rfl rfl eq102_neq) (fun _ hA => hA.only (is := [2, 3]) (Y := [_, _]) (Z := [_, _]) rfl) ?_
              refine HA_done (by kernel_rfl) ?_
              refine H_env (ρ' := [(24, _), (0, _), (1, _), (12, _), (13, _)]) ⟨rfl, rfl, rfl, rfl, rfl, trivial⟩ ?_
              refine H_world (fun _ hA => hA.drop (is := [0, 1]) (Y := [_, _]) (Z := [_, _]) rfl) ?_
              refine H_cond rfl ?_ ?_
              · intro h24
                (try simp only [decide_eq_true_eq, decide_eq_false_iff_not, Bool.not_eq_true', Bool.not_eq_false', Bool.not_eq_true, Bool.not_eq_false, Bool.true_eq_false, Bool.false_eq_true, not_false_eq_true, not_true_eq_false] at h24)
                replace h24 := Pair.ne_of h24
                refine H_seq ?_
                -- R7 ref.go:88
                refine H_region (l := [_]) rfl ?_
                refine HO_assign rfl rfl rfl ?_
                refine HO_nil ?_
                refine H_env (ρ' := [(4, _)]) ⟨rfl, trivial⟩ ?_
                refine H_world (fun _ hA => hA.drop (is := [0, 1]) (Y := [_, _]) (Z := []) rfl) ?_
                -- end5
                refine H_ret1 Try.results101 (.tmp rfl) (fun w hA => ⟨(), congrArg Ending.returned ?_, ?_, ?_⟩)
                · (first | exact congrArg Value.bool (Ent.same_no hz18 hz22 h24).symm | exact congrArg Value.bool (Ent.same_yes hl hI).symm | exact congrArg Value.bool (Ent.same_len h10).symm)
                · trivial
                · exact hA.only (is := []) (Z := []) rfl
              · intro h24
                (try simp only [decide_eq_true_eq, decide_eq_false_iff_not, Bool.not_eq_true', Bool.not_eq_false', Bool.not_eq_true, Bool.not_eq_false, Bool.true_eq_false, Bool.false_eq_true, not_false_eq_true, not_true_eq_false] at h24)
                replace h24 := Pair.eq_of h24
                refine H_skip ?_
                refine H_blk ?_
                -- R8 ref.go:86
                refine H_region (l := [_, _]) rfl ?_
                refine HO_bin rfl rfl rfl rfl (bin_add ?_ ?_) ?_
                · (first | omega | assumption | decide)
                · (first | omega | assumption | decide)
                refine HO_move rfl rfl rfl ?_
                refine HO_nil ?_
                refine H_env (ρ' := [(13, _), (0, _), (1, _), (12, _)]) ⟨rfl, rfl, rfl, rfl, trivial⟩ ?_
                refine H_inv (fun a w hf hA => ⟨i + 1, ?_, ?_, hf.sub ?_, ?_⟩)
                · exact ⟨by omega, Ent.same_next hz18 hz22 hI.2 h24⟩
                · (try dsimp only); omega
                · exact ⟨rfl, rfl, rfl, rfl, trivial⟩
                · exact hA.only (is := [0, 1]) (Z := []) rfl
            · refine HO_loadA (i := 1) (us := []) (cs := [_, _]) (ts := []) rfl rfl rfl Try.isAgg102 Try.sizeOf102 rfl (.elem _ _ _) rfl rfl rfl rfl ?_
              refine HA_back (listed' := #[true, true, true, false, true, true, true, true, false]) rfl (fun _ hA => hA.only (is := [2, 3]) (Y := [_, _]) (Z := [_, _]) rfl) ?_
              refine HA_loud1 (i := 3) (by kernel_rfl) rfl ?_
              refine HO_loadA (i := 0) (us := []) (cs := [_, _]) (ts := []) rfl rfl rfl Try.isAgg102 Try.sizeOf102 rfl (.elem _ _ _) rfl rfl rfl rfl ?_
              refine HA_back (listed' := #[true, true, true, true, true, true, true, true, false]) rfl (fun _ hA => hA.only (is := [2, 3]) (Y := [_, _]) (Z := [_, _]) rfl) ?_
              refine HA_take (i := 8) (listed' := #[true, true, true, true, true, true, true, true, true]) (bodyPost_pan _ _ _) rfl rfl rfl rfl (by kernel_rfl) rfl (V_bin rfl rfl eq102_neq) (fun _ hA => hA.only (is := [2, 3]) (Y := [_, _]) (Z := [_, _]) rfl) ?_
              refine HA_done (by kernel_rfl) ?_
              refine H_env (ρ' := [(24, _), (0, _), (1, _), (12, _), (13, _)]) ⟨rfl, rfl, rfl, rfl, rfl, trivial⟩ ?_
              refine H_world (fun _ hA => hA.drop (is := [0, 1]) (Y := [_, _]) (Z := [_, _]) rfl) ?_
              refine H_cond rfl ?_ ?_
              · intro h24
                (try simp only [decide_eq_true_eq, decide_eq_false_iff_not, Bool.not_eq_true', Bool.not_eq_false', Bool.not_eq_true, Bool.not_eq_false, Bool.true_eq_false, Bool.false_eq_true, not_false_eq_true, not_true_eq_false] at h24)
                replace h24 := Pair.ne_of h24
                refine H_seq ?_
                -- R7 ref.go:88
                refine H_region (l := [_]) rfl ?_
                refine HO_assign rfl rfl rfl ?_
                refine HO_nil ?_
                refine H_env (ρ' := [(4, _)]) ⟨rfl, trivial⟩ ?_
                refine H_world (fun _ hA => hA.drop (is := [0, 1]) (Y := [_, _]) (Z := []) rfl) ?_
                -- end6
                refine H_ret1 Try.results101 (.tmp rfl) (fun w hA => ⟨(), congrArg Ending.returned ?_, ?_, ?_⟩)
                · (first | exact congrArg Value.bool (Ent.same_no hz18 hz22 h24).symm | exact congrArg Value.bool (Ent.same_yes hl hI).symm | exact congrArg Value.bool (Ent.same_len h10).symm)
                · trivial
                · exact hA.only (is := []) (Z := []) rfl
              · intro h24
                (try simp only [decide_eq_true_eq, decide_eq_false_iff_not, Bool.not_eq_true', Bool.not_eq_false', Bool.not_eq_true, Bool.not_eq_false, Bool.true_eq_false, Bool.false_eq_true, not_false_eq_true, not_true_eq_false] at h24)
                replace h24 := Pair.eq_of h24
                refine H_skip ?_
                refine H_blk ?_
                -- R8 ref.go:86
                refine H_region (l := [_, _]) rfl ?_
                refine HO_bin rfl rfl rfl rfl (bin_add ?_ ?_) ?_
                · (first | omega | assumption | decide)
                · (first | omega | assumption | decide)
                refine HO_move rfl rfl rfl ?_
                refine HO_nil ?_
                refine H_env (ρ' := [(13, _), (0, _), (1, _), (12, _)]) ⟨rfl, rfl, rfl, rfl, trivial⟩ ?_
                refine H_inv (fun a w hf hA => ⟨i + 1, ?_, ?_, hf.sub ?_, ?_⟩)
                · exact ⟨by omega, Ent.same_next hz18 hz22 hI.2 h24⟩
                · (try dsimp only); omega
                · exact ⟨rfl, rfl, rfl, rfl, trivial⟩
                · exact hA.only (is := [0, 1]) (Z := []) rfl
          · refine HO_loadA (i := 0) (us := []) (cs := [_, _]) (ts := []) rfl rfl rfl Try.isAgg102 Try.sizeOf102 rfl (.elem _ _ _) rfl rfl rfl rfl ?_
            refine HA_back (listed' := #[true, true, false, false, true, true, true, true, false]) rfl (fun _ hA => hA.only (is := [1, 2]) (Y := [_, _]) (Z := [_]) rfl) ?_
            refine HA_loud1 (i := 2) (by kernel_rfl) rfl ?_
            refine HO_indexAddr open_Pair (i := 1) rfl rfl rfl rfl rfl Try.underlying32 Try.sizeOf102 rfl ?_ ?_
            · omega
            intro b18 o18 z18 y18 hz18 hI18
            clear y18
            (try simp only [BIG] at hI18)
            refine HA_back (listed' := #[true, true, true, false, true, true, true, true, false]) rfl (fun _ hA => hA.only (is := [2, 3]) (Y := [_, _]) (Z := [_, _]) rfl) ?_
            refine HA_loud1 (i := 3) (by kernel_rfl) rfl ?_
            refine HO_loadA (i := 0) (us := []) (cs := [_, _]) (ts := []) rfl rfl rfl Try.isAgg102 Try.sizeOf102 rfl (.elem _ _ _) rfl rfl rfl rfl ?_
            refine HA_back (listed' := #[true, true, true, true, true, true, true, true, false]) rfl (fun _ hA => hA.only (is := [2, 3]) (Y := [_, _]) (Z := [_, _]) rfl) ?_
            refine HA_take (i := 8) (listed' := #[true, true, true, true, true, true, true, true, true]) (bodyPost_pan _ _ _) rfl rfl rfl rfl (by kernel_rfl) rfl (V_bin rfl rfl eq102_neq) (fun _ hA => hA.only (is := [2, 3]) (Y := [_, _]) (Z := [_, _]) rfl) ?_
            refine HA_done (by kernel_rfl) ?_
            refine H_env (ρ' := [(24, _), (0, _), (1, _), (12, _), (13, _)]) ⟨rfl, rfl, rfl, rfl, rfl, trivial⟩ ?_
            refine H_world (fun _ hA => hA.drop (is := [0, 1]) (Y := [_, _]) (Z := [_, _]) rfl) ?_
            refine H_cond rfl ?_ ?_
            · intro h24
              (try simp only [decide_eq_true_eq, decide_eq_false_iff_not, Bool.not_eq_true', Bool.not_eq_false', Bool.not_eq_true, Bool.not_eq_false, Bool.true_eq_false, Bool.false_eq_true, not_false_eq_true, not_true_eq_false] at h24)
              replace h24 := Pair.ne_of h24
              refine H_seq ?_
              -- R7 ref.go:88
              refine H_region (l := [_]) rfl ?_
              refine HO_assign rfl rfl rfl ?_
              refine HO_nil ?_
              refine H_env (ρ' := [(4, _)]) ⟨rfl, trivial⟩ ?_
              refine H_world (fun _ hA => hA.drop (is := [0, 1]) (Y := [_, _]) (Z := []) rfl) ?_
              -- end7
              refine H_ret1 Try.results101 (.tmp rfl) (fun w hA => ⟨(), congrArg Ending.returned ?_, ?_, ?_⟩)
              · (first | exact congrArg Value.bool (Ent.same_no hz18 hz22 h24).symm | exact congrArg Value.bool (Ent.same_yes hl hI).symm | exact congrArg Value.bool (Ent.same_len h10).symm)
              · trivial
              · exact hA.only (is := []) (Z := []) rfl
            · intro h24
              (try simp only [decide_eq_true_eq, decide_eq_false_iff_not, Bool.not_eq_true', Bool.not_eq_false', Bool.not_eq_true, Bool.not_eq_false, Bool.true_eq_false, Bool.false_eq_true, not_false_eq_true, not_true_eq_false] at h24)
              replace h24 := Pair.eq_of h24
              refine H_skip ?_
              refine H_blk ?_
              -- R8 ref.go:86
              refine H_region (l := [_, _]) rfl ?_
              refine HO_bin rfl rfl rfl rfl (bin_add ?_ ?_) ?_
              · (first | omega | assumption | decide)
              · (first | omega | assumption | decide)
              refine HO_move rfl rfl rfl ?_
              refine HO_nil ?_
              refine H_env (ρ' := [(13, _), (0, _), (1, _), (12, _)]) ⟨rfl, rfl, rfl, rfl, trivial⟩ ?_
              refine H_inv (fun a w hf hA => ⟨i + 1, ?_, ?_, hf.sub ?_, ?_⟩)
              · exact ⟨by omega, Ent.same_next hz18 hz22 hI.2 h24⟩
              · (try dsimp only); omega
              · exact ⟨rfl, rfl, rfl, rfl, trivial⟩
              · exact hA.only (is := [0, 1]) (Z := []) rfl
      · intro h14
        (try simp only [decide_eq_true_eq, decide_eq_false_iff_not, Bool.not_eq_true', Bool.not_eq_false', Bool.not_eq_true, Bool.not_eq_false, Bool.true_eq_false, Bool.false_eq_true, not_false_eq_true, not_true_eq_false] at h14)
        refine H_exit rfl ?_
        refine H_seq ?_
        -- R9 ref.go:91
        obtain rfl : i = ps.length := by omega
        refine H_region (l := [_]) rfl ?_
        refine HO_assign rfl rfl rfl ?_
        refine HO_nil ?_
        refine H_env (ρ' := [(4, _)]) ⟨rfl, trivial⟩ ?_
        refine H_world (fun _ hA => hA.drop (is := [0, 1]) (Y := [_, _]) (Z := []) rfl) ?_
        -- end8
        refine H_ret1 Try.results101 (.tmp rfl) (fun w hA => ⟨(), congrArg Ending.returned ?_, ?_, ?_⟩)
        · (first | exact congrArg Value.bool (Ent.same_no hz18 hz22 h24).symm | exact congrArg Value.bool (Ent.same_yes hl hI).symm | exact congrArg Value.bool (Ent.same_len h10).symm)
        · trivial
        · exact hA.only (is := []) (Z := []) rfl
theorem rsame9_spec (er : Int) (fo : Bool) (va : ByteArray) (se : Int) (ps : List Pair) (a : Option Addr) (c : Nat) (er2 : Int) (fo2 : Bool) (va2 : ByteArray) (se2 : Int) (ps2 : List Pair) (a2 : Option Addr) (c2 : Nat)  : Spec Try.prog 26 #[.agg #[.int .i64 (er), .bool (fo), .string (va), .int .i64 (se), .slice a (ps.length) c], .agg #[.int .i64 (er2), .bool (fo2), .string (va2), .int .i64 (se2), .slice a2 (ps2.length) c2]] [.dat kPair.sl (ps) [.slice a (ps.length) c], .dat kPair.sl (ps2) [.slice a2 (ps2.length) c2]] (β := Unit) (fun y => .bool (decide ((⟨er, fo, va, se, ps⟩ : Reply) = ⟨er2, fo2, va2, se2, ps2⟩))) (fun y => True) (fun y => []) := by
  refine Spec.enter (vs := [_, _]) Try.func26 rfl Try.ntmps26 rfl (Nat.le_of_ble_eq_true rfl) (fun w0 ok0 => ?_)
  generalize hM0 : blks _ = M0
  have hMn : ∀ {R : List Atom} (b : Nat), M0 b → blks R b := fun b hb => absurd (hM0 ▸ hb) (blks_none (by simp [Atom.dat, Atom.elem]) b)
  refine H_len_le (i := 0) rfl ?_
  intro hlen0
  refine H_len_le (i := 1) rfl ?_
  intro hlen1
  refine H_seq ?_
  -- R0 command.go:112
  refine H_region (l := [_, _, _]) rfl ?_
  refine HO_box (cs := [_, _, _, _, _]) rfl rfl rfl rfl ?_
  intro g2
  refine HO_box (cs := [_, _, _, _, _]) rfl rfl rfl rfl ?_
  intro g3
  refine HO_assign rfl rfl rfl ?_
  refine HO_nil ?_
  refine H_env (ρ' := [(3, _), (2, _)]) ⟨rfl, rfl, trivial⟩ ?_
  refine H_seq ?_
  -- R1 command.go:113
  refine H_region (l := [_, _, _, _, _, _, _, _, _, _, _, _, _, _, _, _, _, _, _, _, _, _, _, _, _, _, _, _, _, _, _, _, _, _]) rfl ?_
  refine HO_fieldAddr (r := 0) rfl rfl rfl Try.underlying34 rfl Try.sizeOf31 rfl ?_
  refine HO_load1 (i := 1) (j := 0) rfl rfl rfl Try.isAgg31 rfl (.loc _ _ _) rfl rfl ?_
  refine HO_fieldAddr (r := 0) rfl rfl rfl Try.underlying34 rfl Try.sizeOf31 rfl ?_
  refine HO_load1 (i := 0) (j := 0) rfl rfl rfl Try.isAgg31 rfl (.loc _ _ _) rfl rfl ?_
  refine HO_bin rfl rfl rfl rfl bin_eql ?_
  refine HO_move rfl rfl rfl ?_
  refine HO_split (d := 10) rfl ?_ ?_
  · intro h10
    (try simp only [decide_eq_true_eq, decide_eq_false_iff_not, Bool.not_eq_true', Bool.not_eq_false', Bool.not_eq_true, Bool.not_eq_false, Bool.true_eq_false, Bool.false_eq_true, not_false_eq_true, not_true_eq_false] at h10)
    refine HO_fieldAddr (r := 1) rfl rfl rfl Try.underlying34 rfl Try.sizeOf4 rfl ?_
    refine HO_load1 (i := 1) (j := 1) rfl rfl rfl Try.isAgg4 rfl (.loc _ _ _) rfl rfl ?_
    refine HO_fieldAddr (r := 1) rfl rfl rfl Try.underlying34 rfl Try.sizeOf4 rfl ?_
    refine HO_load1 (i := 0) (j := 1) rfl rfl rfl Try.isAgg4 rfl (.loc _ _ _) rfl rfl ?_
    refine HO_bin rfl rfl rfl rfl (bin_eqb Try.runUnderlying4) ?_
    refine HO_pick_t rfl rfl rfl rfl ?_
    refine HO_move rfl rfl rfl ?_
    refine HO_split (d := 17) rfl ?_ ?_
    · intro h17
      (try simp only [decide_eq_true_eq, decide_eq_false_iff_not, Bool.not_eq_true', Bool.not_eq_false', Bool.not_eq_true, Bool.not_eq_false, Bool.true_eq_false, Bool.false_eq_true, not_false_eq_true, not_true_eq_false] at h17)
      refine HO_fieldAddr (r := 2) rfl rfl rfl Try.underlying34 rfl Try.sizeOf9 rfl ?_
      refine HO_load1 (i := 1) (j := 2) rfl rfl rfl Try.isAgg9 rfl (.loc _ _ _) rfl rfl ?_
      refine HO_fieldAddr (r := 2) rfl rfl rfl Try.underlying34 rfl Try.sizeOf9 rfl ?_
      refine HO_load1 (i := 0) (j := 2) rfl rfl rfl Try.isAgg9 rfl (.loc _ _ _) rfl rfl ?_
      refine HO_bin rfl rfl rfl rfl bin_eqs ?_
      refine HO_pick_t rfl rfl rfl rfl ?_
      refine HO_move rfl rfl rfl ?_
      refine HO_split (d := 24) rfl ?_ ?_
      · intro h24
        (try simp only [decide_eq_true_eq, decide_eq_false_iff_not, Bool.not_eq_true', Bool.not_eq_false', Bool.not_eq_true, Bool.not_eq_false, Bool.true_eq_false, Bool.false_eq_true, not_false_eq_true, not_true_eq_false] at h24)
        refine HO_fieldAddr (r := 3) rfl rfl rfl Try.underlying34 rfl Try.sizeOf3 rfl ?_
        refine HO_load1 (i := 1) (j := 3) rfl rfl rfl Try.isAgg3 rfl (.loc _ _ _) rfl rfl ?_
        refine HO_fieldAddr (r := 3) rfl rfl rfl Try.underlying34 rfl Try.sizeOf3 rfl ?_
        refine HO_load1 (i := 0) (j := 3) rfl rfl rfl Try.isAgg3 rfl (.loc _ _ _) rfl rfl ?_
        refine HO_bin rfl rfl rfl rfl bin_eql ?_
        refine HO_pick_t rfl rfl rfl rfl ?_
        refine HO_move rfl rfl rfl ?_
        refine HO_split (d := 31) rfl ?_ ?_
        · intro h31
          (try simp only [decide_eq_true_eq, decide_eq_false_iff_not, Bool.not_eq_true', Bool.not_eq_false', Bool.not_eq_true, Bool.not_eq_false, Bool.true_eq_false, Bool.false_eq_true, not_false_eq_true, not_true_eq_false] at h31)
          refine HO_fieldAddr (r := 4) rfl rfl rfl Try.underlying34 rfl Try.sizeOf32 rfl ?_
          refine HO_load1 (i := 1) (j := 4) rfl rfl rfl Try.isAgg32 rfl (.loc _ _ _) rfl rfl ?_
          refine HO_fieldAddr (r := 4) rfl rfl rfl Try.underlying34 rfl Try.sizeOf32 rfl ?_
          refine HO_load1 (i := 0) (j := 4) rfl rfl rfl Try.isAgg32 rfl (.loc _ _ _) rfl rfl ?_
          refine HO_dup (i := 2) rfl rfl ?_
          refine HO_dup (i := 4) rfl rfl ?_
          refine HO_call (first := []) (capt := []) (is := [0, 0]) (R := [_, _, _, _]) rfl rfl rfl rfl rfl Try.call73 rfl (eqpairs_spec _ _ _ _ _ _) ?_
          intro y36 hy36
          clear y36 hy36
          refine HO_pick_t rfl rfl rfl rfl ?_
          refine HO_assign rfl rfl rfl ?_
          refine HO_nil ?_
          refine H_env (ρ' := [(4, _)]) ⟨rfl, trivial⟩ ?_
          refine H_world (fun _ hA => hA.drop (is := [0, 1, 2, 3]) (Y := [_, _, _, _]) (Z := []) rfl) ?_
          -- end1
          refine H_ret1 Try.results26 (.tmp rfl) (fun w hA => ⟨(), congrArg Ending.returned ?_, ?_, ?_⟩)
          · (exact congrArg Value.bool (by first | (simp [*]; done) | (simp_all; done) | (simp_all; intros; simp_all)))
          · trivial
          · exact hA.only (is := []) (Z := []) rfl
        · intro h31
          (try simp only [decide_eq_true_eq, decide_eq_false_iff_not, Bool.not_eq_true', Bool.not_eq_false', Bool.not_eq_true, Bool.not_eq_false, Bool.true_eq_false, Bool.false_eq_true, not_false_eq_true, not_true_eq_false] at h31)
          refine HO_no rfl rfl rfl ?_
          refine HO_no rfl rfl rfl ?_
          refine HO_no rfl rfl rfl ?_
          refine HO_no rfl rfl rfl ?_
          refine HO_no rfl rfl rfl ?_
          refine HO_pick_f rfl rfl rfl rfl ?_
          refine HO_assign rfl rfl rfl ?_
          refine HO_nil ?_
          refine H_env (ρ' := [(4, _)]) ⟨rfl, trivial⟩ ?_
          refine H_world (fun _ hA => hA.drop (is := [0, 1, 2, 3]) (Y := [_, _, _, _]) (Z := []) rfl) ?_
          -- end2
          refine H_ret1 Try.results26 (.tmp rfl) (fun w hA => ⟨(), congrArg Ending.returned ?_, ?_, ?_⟩)
          · (exact congrArg Value.bool (by first | (simp [*]; done) | (simp_all; done) | (simp_all; intros; simp_all)))
          · trivial
          · exact hA.only (is := []) (Z := []) rfl
      · intro h24
        (try simp only [decide_eq_true_eq, decide_eq_false_iff_not, Bool.not_eq_true', Bool.not_eq_false', Bool.not_eq_true, Bool.not_eq_false, Bool.true_eq_false, Bool.false_eq_true, not_false_eq_true, not_true_eq_false] at h24)
        refine HO_no rfl rfl rfl ?_
        refine HO_no rfl rfl rfl ?_
        refine HO_no rfl rfl rfl ?_
        refine HO_no rfl rfl rfl ?_
        refine HO_no rfl rfl rfl ?_
        refine HO_pick_f rfl rfl rfl rfl ?_
        refine HO_move rfl rfl rfl ?_
        refine HO_no rfl rfl rfl ?_
        refine HO_no rfl rfl rfl ?_
        refine HO_no rfl rfl rfl ?_
        refine HO_no rfl rfl rfl ?_
        refine HO_no rfl rfl rfl ?_
        refine HO_pick_f rfl rfl rfl rfl ?_
        refine HO_assign rfl rfl rfl ?_
        refine HO_nil ?_
        refine H_env (ρ' := [(4, _)]) ⟨rfl, trivial⟩ ?_
        refine H_world (fun _ hA => hA.drop (is := [0, 1, 2, 3]) (Y := [_, _, _, _]) (Z := []) rfl) ?_
        -- end3
        refine H_ret1 Try.results26 (.tmp rfl) (fun w hA => ⟨(), congrArg Ending.returned ?_, ?_, ?_⟩)
        · (exact congrArg Value.bool (by first | (simp [*]; done) | (simp_all; done) | (simp_all; intros; simp_all)))
        · trivial
        · exact hA.only (is := []) (Z := []) rfl
    · intro h17
      (try simp only [decide_eq_true_eq, decide_eq_false_iff_not, Bool.not_eq_true', Bool.not_eq_false', Bool.not_eq_true, Bool.not_eq_false, Bool.true_eq_false, Bool.false_eq_true, not_false_eq_true, not_true_eq_false] at h17)
      refine HO_no rfl rfl rfl ?_
      refine HO_no rfl rfl rfl ?_
      refine HO_no rfl rfl rfl ?_
      refine HO_no rfl rfl rfl ?_
      refine HO_no rfl rfl rfl ?_
      refine HO_pick_f rfl rfl rfl rfl ?_
      refine HO_move rfl rfl rfl ?_
      refine HO_no rfl rfl rfl ?_
      refine HO_no rfl rfl rfl ?_
      refine HO_no rfl rfl rfl ?_
      refine HO_no rfl rfl rfl ?_
      refine HO_no rfl rfl rfl ?_
      refine HO_pick_f rfl rfl rfl rfl ?_
      refine HO_move rfl rfl rfl ?_
      refine HO_no rfl rfl rfl ?_
      refine HO_no rfl rfl rfl ?_
      refine HO_no rfl rfl rfl ?_
      refine HO_no rfl rfl rfl ?_
      refine HO_no rfl rfl rfl ?_
      refine HO_pick_f rfl rfl rfl rfl ?_
      refine HO_assign rfl rfl rfl ?_
      refine HO_nil ?_
      refine H_env (ρ' := [(4, _)]) ⟨rfl, trivial⟩ ?_
      refine H_world (fun _ hA => hA.drop (is := [0, 1, 2, 3]) (Y := [_, _, _, _]) (Z := []) rfl) ?_
      -- end4
      refine H_ret1 Try.results26 (.tmp rfl) (fun w hA => ⟨(), congrArg Ending.returned ?_, ?_, ?_⟩)
      · (exact congrArg Value.bool (by first | (simp [*]; done) | (simp_all; done) | (simp_all; intros; simp_all)))
      · trivial
      · exact hA.only (is := []) (Z := []) rfl
  · intro h10
    (try simp only [decide_eq_true_eq, decide_eq_false_iff_not, Bool.not_eq_true', Bool.not_eq_false', Bool.not_eq_true, Bool.not_eq_false, Bool.true_eq_false, Bool.false_eq_true, not_false_eq_true, not_true_eq_false] at h10)
    refine HO_no rfl rfl rfl ?_
    refine HO_no rfl rfl rfl ?_
    refine HO_no rfl rfl rfl ?_
    refine HO_no rfl rfl rfl ?_
    refine HO_no rfl rfl rfl ?_
    refine HO_pick_f rfl rfl rfl rfl ?_
    refine HO_move rfl rfl rfl ?_
    refine HO_no rfl rfl rfl ?_
    refine HO_no rfl rfl rfl ?_
    refine HO_no rfl rfl rfl ?_
    refine HO_no rfl rfl rfl ?_
    refine HO_no rfl rfl rfl ?_
    refine HO_pick_f rfl rfl rfl rfl ?_
    refine HO_move rfl rfl rfl ?_
    refine HO_no rfl rfl rfl ?_
    refine HO_no rfl rfl rfl ?_
    refine HO_no rfl rfl rfl ?_
    refine HO_no rfl rfl rfl ?_
    refine HO_no rfl rfl rfl ?_
    refine HO_pick_f rfl rfl rfl rfl ?_
    refine HO_move rfl rfl rfl ?_
    refine HO_no rfl rfl rfl ?_
    refine HO_no rfl rfl rfl ?_
    refine HO_no rfl rfl rfl ?_
    refine HO_no rfl rfl rfl ?_
    refine HO_no rfl rfl rfl ?_
    refine HO_pick_f rfl rfl rfl rfl ?_
    refine HO_assign rfl rfl rfl ?_
    refine HO_nil ?_
    refine H_env (ρ' := [(4, _)]) ⟨rfl, trivial⟩ ?_
    refine H_world (fun _ hA => hA.drop (is := [0, 1, 2, 3]) (Y := [_, _, _, _]) (Z := []) rfl) ?_
    -- end5
    refine H_ret1 Try.results26 (.tmp rfl) (fun w hA => ⟨(), congrArg Ending.returned ?_, ?_, ?_⟩)
    · (exact congrArg Value.bool (by first | (simp [*]; done) | (simp_all; done) | (simp_all; intros; simp_all)))
    · trivial
    · exact hA.only (is := []) (Z := []) rfl
theorem rrsame9_spec (er : Int) (fo : Bool) (va : ByteArray) (se : Int) (ps : List Pair) (a : Option Addr) (c : Nat) (er2 : Int) (fo2 : Bool) (va2 : ByteArray) (se2 : Int) (ps2 : List Pair) (a2 : Option Addr) (c2 : Nat)  : Spec Try.prog 52 #[.agg #[.int .i64 (er), .bool (fo), .string (va), .int .i64 (se), .slice a (ps.length) c], .agg #[.int .i64 (er2), .bool (fo2), .string (va2), .int .i64 (se2), .slice a2 (ps2.length) c2]] [.dat kPair.sl (ps) [.slice a (ps.length) c], .dat kPair.sl (ps2) [.slice a2 (ps2.length) c2]] (β := Unit) (fun y => .bool (decide ((⟨er, fo, va, se, ps⟩ : Reply) = ⟨er2, fo2, va2, se2, ps2⟩))) (fun y => True) (fun y => []) := by
  refine Spec.enter (vs := [_, _]) Try.func52 rfl Try.ntmps52 rfl (Nat.le_of_ble_eq_true rfl) (fun w0 ok0 => ?_)
  generalize hM0 : blks _ = M0
  have hMn : ∀ {R : List Atom} (b : Nat), M0 b → blks R b := fun b hb => absurd (hM0 ▸ hb) (blks_none (by simp [Atom.dat, Atom.elem]) b)
  refine H_len_le (i := 0) rfl ?_
  intro hlen0
  refine H_len_le (i := 1) rfl ?_
  intro hlen1
  refine H_seq ?_
  -- R0 ref.go:125
  refine H_region (l := [_, _, _]) rfl ?_
  refine HO_box (cs := [_, _, _, _, _]) rfl rfl rfl rfl ?_
  intro g2
  refine HO_box (cs := [_, _, _, _, _]) rfl rfl rfl rfl ?_
  intro g3
  refine HO_assign rfl rfl rfl ?_
  refine HO_nil ?_
  refine H_env (ρ' := [(3, _), (2, _)]) ⟨rfl, rfl, trivial⟩ ?_
  refine H_seq ?_
  -- R1 ref.go:126
  refine H_region (l := [_, _, _, _, _, _, _, _, _, _, _, _, _, _, _, _, _, _, _, _, _, _, _, _, _, _, _, _, _, _, _, _, _, _]) rfl ?_
  refine HO_fieldAddr (r := 0) rfl rfl rfl Try.underlying34 rfl Try.sizeOf31 rfl ?_
  refine HO_load1 (i := 1) (j := 0) rfl rfl rfl Try.isAgg31 rfl (.loc _ _ _) rfl rfl ?_
  refine HO_fieldAddr (r := 0) rfl rfl rfl Try.underlying34 rfl Try.sizeOf31 rfl ?_
  refine HO_load1 (i := 0) (j := 0) rfl rfl rfl Try.isAgg31 rfl (.loc _ _ _) rfl rfl ?_
  refine HO_bin rfl rfl rfl rfl bin_eql ?_
  refine HO_move rfl rfl rfl ?_
  refine HO_split (d := 10) rfl ?_ ?_
  · intro h10
    (try simp only [decide_eq_true_eq, decide_eq_false_iff_not, Bool.not_eq_true', Bool.not_eq_false', Bool.not_eq_true, Bool.not_eq_false, Bool.true_eq_false, Bool.false_eq_true, not_false_eq_true, not_true_eq_false] at h10)
    refine HO_fieldAddr (r := 1) rfl rfl rfl Try.underlying34 rfl Try.sizeOf4 rfl ?_
    refine HO_load1 (i := 1) (j := 1) rfl rfl rfl Try.isAgg4 rfl (.loc _ _ _) rfl rfl ?_
    refine HO_fieldAddr (r := 1) rfl rfl rfl Try.underlying34 rfl Try.sizeOf4 rfl ?_
    refine HO_load1 (i := 0) (j := 1) rfl rfl rfl Try.isAgg4 rfl (.loc _ _ _) rfl rfl ?_
    refine HO_bin rfl rfl rfl rfl (bin_eqb Try.runUnderlying4) ?_
    refine HO_pick_t rfl rfl rfl rfl ?_
    refine HO_move rfl rfl rfl ?_
    refine HO_split (d := 17) rfl ?_ ?_
    · intro h17
      (try simp only [decide_eq_true_eq, decide_eq_false_iff_not, Bool.not_eq_true', Bool.not_eq_false', Bool.not_eq_true, Bool.not_eq_false, Bool.true_eq_false, Bool.false_eq_true, not_false_eq_true, not_true_eq_false] at h17)
      refine HO_fieldAddr (r := 2) rfl rfl rfl Try.underlying34 rfl Try.sizeOf9 rfl ?_
      refine HO_load1 (i := 1) (j := 2) rfl rfl rfl Try.isAgg9 rfl (.loc _ _ _) rfl rfl ?_
      refine HO_fieldAddr (r := 2) rfl rfl rfl Try.underlying34 rfl Try.sizeOf9 rfl ?_
      refine HO_load1 (i := 0) (j := 2) rfl rfl rfl Try.isAgg9 rfl (.loc _ _ _) rfl rfl ?_
      refine HO_bin rfl rfl rfl rfl bin_eqs ?_
      refine HO_pick_t rfl rfl rfl rfl ?_
      refine HO_move rfl rfl rfl ?_
      refine HO_split (d := 24) rfl ?_ ?_
      · intro h24
        (try simp only [decide_eq_true_eq, decide_eq_false_iff_not, Bool.not_eq_true', Bool.not_eq_false', Bool.not_eq_true, Bool.not_eq_false, Bool.true_eq_false, Bool.false_eq_true, not_false_eq_true, not_true_eq_false] at h24)
        refine HO_fieldAddr (r := 3) rfl rfl rfl Try.underlying34 rfl Try.sizeOf3 rfl ?_
        refine HO_load1 (i := 1) (j := 3) rfl rfl rfl Try.isAgg3 rfl (.loc _ _ _) rfl rfl ?_
        refine HO_fieldAddr (r := 3) rfl rfl rfl Try.underlying34 rfl Try.sizeOf3 rfl ?_
        refine HO_load1 (i := 0) (j := 3) rfl rfl rfl Try.isAgg3 rfl (.loc _ _ _) rfl rfl ?_
        refine HO_bin rfl rfl rfl rfl bin_eql ?_
        refine HO_pick_t rfl rfl rfl rfl ?_
        refine HO_move rfl rfl rfl ?_
        refine HO_split (d := 31) rfl ?_ ?_
        · intro h31
          (try simp only [decide_eq_true_eq, decide_eq_false_iff_not, Bool.not_eq_true', Bool.not_eq_false', Bool.not_eq_true, Bool.not_eq_false, Bool.true_eq_false, Bool.false_eq_true, not_false_eq_true, not_true_eq_false] at h31)
          refine HO_fieldAddr (r := 4) rfl rfl rfl Try.underlying34 rfl Try.sizeOf32 rfl ?_
          refine HO_load1 (i := 1) (j := 4) rfl rfl rfl Try.isAgg32 rfl (.loc _ _ _) rfl rfl ?_
          refine HO_fieldAddr (r := 4) rfl rfl rfl Try.underlying34 rfl Try.sizeOf32 rfl ?_
          refine HO_load1 (i := 0) (j := 4) rfl rfl rfl Try.isAgg32 rfl (.loc _ _ _) rfl rfl ?_
          refine HO_dup (i := 2) rfl rfl ?_
          refine HO_dup (i := 4) rfl rfl ?_
          refine HO_call (first := []) (capt := []) (is := [0, 0]) (R := [_, _, _, _]) rfl rfl rfl rfl rfl Try.call101 rfl (reqpairs_spec _ _ _ _ _ _) ?_
          intro y36 hy36
          clear y36 hy36
          refine HO_pick_t rfl rfl rfl rfl ?_
          refine HO_assign rfl rfl rfl ?_
          refine HO_nil ?_
          refine H_env (ρ' := [(4, _)]) ⟨rfl, trivial⟩ ?_
          refine H_world (fun _ hA => hA.drop (is := [0, 1, 2, 3]) (Y := [_, _, _, _]) (Z := []) rfl) ?_
          -- end1
          refine H_ret1 Try.results52 (.tmp rfl) (fun w hA => ⟨(), congrArg Ending.returned ?_, ?_, ?_⟩)
          · (exact congrArg Value.bool (by first | (simp [*]; done) | (simp_all; done) | (simp_all; intros; simp_all)))
          · trivial
          · exact hA.only (is := []) (Z := []) rfl
        · intro h31
          (try simp only [decide_eq_true_eq, decide_eq_false_iff_not, Bool.not_eq_true', Bool.not_eq_false', Bool.not_eq_true, Bool.not_eq_false, Bool.true_eq_false, Bool.false_eq_true, not_false_eq_true, not_true_eq_false] at h31)
          refine HO_no rfl rfl rfl ?_
          refine HO_no rfl rfl rfl ?_
          refine HO_no rfl rfl rfl ?_
          refine HO_no rfl rfl rfl ?_
          refine HO_no rfl rfl rfl ?_
          refine HO_pick_f rfl rfl rfl rfl ?_
          refine HO_assign rfl rfl rfl ?_
          refine HO_nil ?_
          refine H_env (ρ' := [(4, _)]) ⟨rfl, trivial⟩ ?_
          refine H_world (fun _ hA => hA.drop (is := [0, 1, 2, 3]) (Y := [_, _, _, _]) (Z := []) rfl) ?_
          -- end2
          refine H_ret1 Try.results52 (.tmp rfl) (fun w hA => ⟨(), congrArg Ending.returned ?_, ?_, ?_⟩)
          · (exact congrArg Value.bool (by first | (simp [*]; done) | (simp_all; done) | (simp_all; intros; simp_all)))
          · trivial
          · exact hA.only (is := []) (Z := []) rfl
      · intro h24
        (try simp only [decide_eq_true_eq, decide_eq_false_iff_not, Bool.not_eq_true', Bool.not_eq_false', Bool.not_eq_true, Bool.not_eq_false, Bool.true_eq_false, Bool.false_eq_true, not_false_eq_true, not_true_eq_false] at h24)
        refine HO_no rfl rfl rfl ?_
        refine HO_no rfl rfl rfl ?_
        refine HO_no rfl rfl rfl ?_
        refine HO_no rfl rfl rfl ?_
        refine HO_no rfl rfl rfl ?_
        refine HO_pick_f rfl rfl rfl rfl ?_
        refine HO_move rfl rfl rfl ?_
        refine HO_no rfl rfl rfl ?_
        refine HO_no rfl rfl rfl ?_
        refine HO_no rfl rfl rfl ?_
        refine HO_no rfl rfl rfl ?_
        refine HO_no rfl rfl rfl ?_
        refine HO_pick_f rfl rfl rfl rfl ?_
        refine HO_assign rfl rfl rfl ?_
        refine HO_nil ?_
        refine H_env (ρ' := [(4, _)]) ⟨rfl, trivial⟩ ?_
        refine H_world (fun _ hA => hA.drop (is := [0, 1, 2, 3]) (Y := [_, _, _, _]) (Z := []) rfl) ?_
        -- end3
        refine H_ret1 Try.results52 (.tmp rfl) (fun w hA => ⟨(), congrArg Ending.returned ?_, ?_, ?_⟩)
        · (exact congrArg Value.bool (by first | (simp [*]; done) | (simp_all; done) | (simp_all; intros; simp_all)))
        · trivial
        · exact hA.only (is := []) (Z := []) rfl
    · intro h17
      (try simp only [decide_eq_true_eq, decide_eq_false_iff_not, Bool.not_eq_true', Bool.not_eq_false', Bool.not_eq_true, Bool.not_eq_false, Bool.true_eq_false, Bool.false_eq_true, not_false_eq_true, not_true_eq_false] at h17)
      refine HO_no rfl rfl rfl ?_
      refine HO_no rfl rfl rfl ?_
      refine HO_no rfl rfl rfl ?_
      refine HO_no rfl rfl rfl ?_
      refine HO_no rfl rfl rfl ?_
      refine HO_pick_f rfl rfl rfl rfl ?_
      refine HO_move rfl rfl rfl ?_
      refine HO_no rfl rfl rfl ?_
      refine HO_no rfl rfl rfl ?_
      refine HO_no rfl rfl rfl ?_
      refine HO_no rfl rfl rfl ?_
      refine HO_no rfl rfl rfl ?_
      refine HO_pick_f rfl rfl rfl rfl ?_
      refine HO_move rfl rfl rfl ?_
      refine HO_no rfl rfl rfl ?_
      refine HO_no rfl rfl rfl ?_
      refine HO_no rfl rfl rfl ?_
      refine HO_no rfl rfl rfl ?_
      refine HO_no rfl rfl rfl ?_
      refine HO_pick_f rfl rfl rfl rfl ?_
      refine HO_assign rfl rfl rfl ?_
      refine HO_nil ?_
      refine H_env (ρ' := [(4, _)]) ⟨rfl, trivial⟩ ?_
      refine H_world (fun _ hA => hA.drop (is := [0, 1, 2, 3]) (Y := [_, _, _, _]) (Z := []) rfl) ?_
      -- end4
      refine H_ret1 Try.results52 (.tmp rfl) (fun w hA => ⟨(), congrArg Ending.returned ?_, ?_, ?_⟩)
      · (exact congrArg Value.bool (by first | (simp [*]; done) | (simp_all; done) | (simp_all; intros; simp_all)))
      · trivial
      · exact hA.only (is := []) (Z := []) rfl
  · intro h10
    (try simp only [decide_eq_true_eq, decide_eq_false_iff_not, Bool.not_eq_true', Bool.not_eq_false', Bool.not_eq_true, Bool.not_eq_false, Bool.true_eq_false, Bool.false_eq_true, not_false_eq_true, not_true_eq_false] at h10)
    refine HO_no rfl rfl rfl ?_
    refine HO_no rfl rfl rfl ?_
    refine HO_no rfl rfl rfl ?_
    refine HO_no rfl rfl rfl ?_
    refine HO_no rfl rfl rfl ?_
    refine HO_pick_f rfl rfl rfl rfl ?_
    refine HO_move rfl rfl rfl ?_
    refine HO_no rfl rfl rfl ?_
    refine HO_no rfl rfl rfl ?_
    refine HO_no rfl rfl rfl ?_
    refine HO_no rfl rfl rfl ?_
    refine HO_no rfl rfl rfl ?_
    refine HO_pick_f rfl rfl rfl rfl ?_
    refine HO_move rfl rfl rfl ?_
    refine HO_no rfl rfl rfl ?_
    refine HO_no rfl rfl rfl ?_
    refine HO_no rfl rfl rfl ?_
    refine HO_no rfl rfl rfl ?_
    refine HO_no rfl rfl rfl ?_
    refine HO_pick_f rfl rfl rfl rfl ?_
    refine HO_move rfl rfl rfl ?_
    refine HO_no rfl rfl rfl ?_
    refine HO_no rfl rfl rfl ?_
    refine HO_no rfl rfl rfl ?_
    refine HO_no rfl rfl rfl ?_
    refine HO_no rfl rfl rfl ?_
    refine HO_pick_f rfl rfl rfl rfl ?_
    refine HO_assign rfl rfl rfl ?_
    refine HO_nil ?_
    refine H_env (ρ' := [(4, _)]) ⟨rfl, trivial⟩ ?_
    refine H_world (fun _ hA => hA.drop (is := [0, 1, 2, 3]) (Y := [_, _, _, _]) (Z := []) rfl) ?_
    -- end5
    refine H_ret1 Try.results52 (.tmp rfl) (fun w hA => ⟨(), congrArg Ending.returned ?_, ?_, ?_⟩)
    · (exact congrArg Value.bool (by first | (simp [*]; done) | (simp_all; done) | (simp_all; intros; simp_all)))
    · trivial
    · exact hA.only (is := []) (Z := []) rfl
theorem rep_spec (er : Int) (fo : Bool) (va : ByteArray) (se : Int) (ps : List Pair) (a : Option Addr) (c : Nat) (hb : (Reply.bytes ⟨er, fo, va, se, ps⟩).length ≤ 1000000) (sv : va.size ≤ BIG) (sl : ps.length ≤ BIG) : Spec Try.prog 27 #[.agg #[.int .i64 (er), .bool (fo), .string (va), .int .i64 (se), .slice a (ps.length) c]] [.dat kPair.sl (ps) [.slice a (ps.length) c]] (β := Option Addr × Nat) (fun y => .slice y.1 ((Reply.bytes ⟨er, fo, va, se, ps⟩).length) y.2) (fun y => True) (fun y => [.own 5 kByte y.1 y.2 (Reply.bytes ⟨er, fo, va, se, ps⟩)]) := by
  have e1 := Cod.enc_le9 (Cod.zig er)
  have e2 := Cod.enc_le9 (Cod.zig se)
  have e3 := Cod.enc_le9 va.size
  have e4 := Cod.enc_le9 ps.length
  have v1 : va.data.toList.length = va.size := Array.length_toList
  have hv2 : va.size ≤ 1000000 := by unfold Reply.bytes Reply.headB at hb; simp only [List.length_append, List.length_cons, List.length_nil] at hb; omega
  (try simp only [BIG] at sv sl)
  refine Spec.enter (vs := [_]) Try.func27 rfl Try.ntmps27 rfl (Nat.le_of_ble_eq_true rfl) (fun w0 ok0 => ?_)
  generalize hM0 : blks _ = M0
  have hMn : ∀ {R : List Atom} (b : Nat), M0 b → blks R b := fun b hb => absurd (hM0 ▸ hb) (blks_none (by simp [Atom.dat, Atom.elem]) b)
  refine H_len_le (i := 0) rfl ?_
  intro hlen0
  refine H_seq ?_
  -- R0 command.go:85
  refine H_region (l := [_, _]) rfl ?_
  refine HO_box (cs := [_, _, _, _, _]) rfl rfl rfl rfl ?_
  intro g1
  refine HO_assign rfl rfl rfl ?_
  refine HO_nil ?_
  refine H_env (ρ' := [(1, _)]) ⟨rfl, trivial⟩ ?_
  refine H_seq ?_
  -- R1 command.go:86 draws
  refine H_draw (is := [0, 1]) (Xs := [_, _]) (Z := []) (fuel := 9) (l := #[false, false, false, false, false, false, false, false, false]) mixed rfl rfl rfl ?_
  refine HA_take (i := 0) (listed' := #[true, false, false, false, false, false, false, false, false]) (bodyPost_pan _ _ _) rfl rfl rfl rfl (by kernel_rfl) rfl (V_fieldAddr (r := 0) rfl Try.underlying34 rfl Try.sizeOf31 rfl) (fun _ hA => hA.only (is := [0, 1]) (Y := [_, _]) (Z := []) rfl) ?_
  refine HA_take (i := 1) (listed' := #[true, true, false, false, false, false, false, false, false]) (bodyPost_pan _ _ _) rfl rfl rfl rfl (by kernel_rfl) rfl (V_load1 (i := 0) (j := 0) rfl Try.isAgg31 rfl (.loc _ _ _) rfl rfl) (fun _ hA => hA.only (is := [0, 1]) (Y := [_, _]) (Z := []) rfl) ?_
  refine HA_take (i := 4) (listed' := #[true, true, false, false, true, false, false, false, false]) (bodyPost_pan _ _ _) rfl rfl rfl rfl (by kernel_rfl) rfl (V_fieldAddr (r := 3) rfl Try.underlying34 rfl Try.sizeOf3 rfl) (fun _ hA => hA.only (is := [0, 1]) (Y := [_, _]) (Z := []) rfl) ?_
  refine HA_take (i := 5) (listed' := #[true, true, false, false, true, true, false, false, false]) (bodyPost_pan _ _ _) rfl rfl rfl rfl (by kernel_rfl) rfl (V_load1 (i := 0) (j := 3) rfl Try.isAgg3 rfl (.loc _ _ _) rfl rfl) (fun _ hA => hA.only (is := [0, 1]) (Y := [_, _]) (Z := []) rfl) ?_
  refine HA_loud1 (i := 2) (by kernel_rfl) rfl ?_
  refine HO_call (first := []) (capt := []) (is := []) (R := [_, _]) rfl rfl rfl rfl rfl Try.call68 rfl (zig_spec _) ?_
  intro y8 hy8
  clear y8 hy8
  refine HA_back (listed' := #[true, true, true, false, true, true, false, false, false]) rfl (fun _ hA => hA.only (is := [0, 1]) (Y := [_, _]) (Z := []) rfl) ?_
  refine HA_loud1 (i := 3) (by kernel_rfl) rfl ?_
  refine HO_nilDat kByte ?_
  refine HO_dup (i := 0) rfl rfl ?_
  refine HO_call (first := []) (capt := []) (is := [0]) (R := [_, _, _]) rfl rfl rfl rfl rfl Try.call67 rfl (Put_spec _ _ _ _ ?_ ?_) ?_
  · (exact Cod.zig_lt _)
  · (simp only [List.length_nil]; omega)
  intro y9 hy9
  refine HA_back (listed' := #[true, true, true, true, true, true, false, false, false]) rfl (fun _ hA => hA.only (is := [2, 3]) (Y := [_, _]) (Z := [_, _]) rfl) ?_
  refine HA_loud1 (i := 6) (by kernel_rfl) rfl ?_
  refine HO_call (first := []) (capt := []) (is := []) (R := [_, _, _, _]) rfl rfl rfl rfl rfl Try.call68 rfl (zig_spec _) ?_
  intro y12 hy12
  clear y12 hy12
  refine HA_back (listed' := #[true, true, true, true, true, true, true, false, false]) rfl (fun _ hA => hA.only (is := [2, 3]) (Y := [_, _]) (Z := [_, _]) rfl) ?_
  refine HA_loud1 (i := 7) (by kernel_rfl) rfl ?_
  refine HO_call (first := []) (capt := []) (is := [0]) (R := [_, _, _]) rfl rfl rfl rfl rfl Try.call67 rfl (Spec.lend (pre1 := []) (pre2 := []) (Put_spec _ _ _ _ ?_ ?_) rfl (by intro y at' ha; obtain rfl := List.mem_singleton.1 ha; first | exact Atom.Flat.own kByte_plain _ _ _ _ | exact Atom.Flat.own kInt_plain _ _ _ _ | exact Atom.Flat.own kStr_plain _ _ _ _ | exact Atom.Flat.loc _ _ _)) ?_
  · (exact Cod.zig_lt _)
  · (simp only [List.length_append, List.length_cons, List.length_nil]; omega)
  intro y13 hy13
  refine HA_back (listed' := #[true, true, true, true, true, true, true, true, false]) rfl (fun _ hA => hA.only (is := [3, 4]) (Y := [_, _]) (Z := [_, _, _]) rfl) ?_
  refine HA_take (i := 8) (listed' := #[true, true, true, true, true, true, true, true, true]) (bodyPost_pan _ _ _) rfl rfl rfl rfl (by kernel_rfl) rfl (V_assign rfl) (fun _ hA => hA.only (is := [3, 4]) (Y := [_, _]) (Z := [_, _, _]) rfl) ?_
  refine HA_done (by kernel_rfl) ?_
  refine H_env (ρ' := [(3, _), (1, _)]) ⟨rfl, rfl, trivial⟩ ?_
  refine H_world (fun _ hA => hA.drop (is := [0, 2]) (Y := [_, _]) (Z := [_, _, _]) rfl) ?_
  refine H_seq ?_
  -- R2 command.go:87 draws
  refine H_draw (is := [0, 1, 2]) (Xs := [_, _, _]) (Z := []) (fuel := 8) (l := #[false, false, false, false, false, false, false, false]) mixed rfl rfl rfl ?_
  refine HA_take (i := 0) (listed' := #[true, false, false, false, false, false, false, false]) (bodyPost_pan _ _ _) rfl rfl rfl rfl (by kernel_rfl) rfl (V_move rfl) (fun _ hA => hA.only (is := [0, 1, 2]) (Y := [_, _, _]) (Z := []) rfl) ?_
  refine HA_take (i := 1) (listed' := #[true, true, false, false, false, false, false, false]) (bodyPost_pan _ _ _) rfl rfl rfl rfl (by kernel_rfl) rfl (V_fieldAddr (r := 1) rfl Try.underlying34 rfl Try.sizeOf4 rfl) (fun _ hA => hA.only (is := [0, 1, 2]) (Y := [_, _, _]) (Z := []) rfl) ?_
  refine HA_take (i := 2) (listed' := #[true, true, true, false, false, false, false, false]) (bodyPost_pan _ _ _) rfl rfl rfl rfl (by kernel_rfl) rfl (V_load1 (i := 1) (j := 1) rfl Try.isAgg4 rfl (.loc _ _ _) rfl rfl) (fun _ hA => hA.only (is := [0, 1, 2]) (Y := [_, _, _]) (Z := []) rfl) ?_
  refine HA_take (i := 4) (listed' := #[true, true, true, false, true, false, false, false]) (bodyPost_pan _ _ _) rfl rfl rfl rfl (by kernel_rfl) rfl (V_fieldAddr (r := 2) rfl Try.underlying34 rfl Try.sizeOf9 rfl) (fun _ hA => hA.only (is := [0, 1, 2]) (Y := [_, _, _]) (Z := []) rfl) ?_
  refine HA_take (i := 5) (listed' := #[true, true, true, false, true, true, false, false]) (bodyPost_pan _ _ _) rfl rfl rfl rfl (by kernel_rfl) rfl (V_load1 (i := 1) (j := 2) rfl Try.isAgg9 rfl (.loc _ _ _) rfl rfl) (fun _ hA => hA.only (is := [0, 1, 2]) (Y := [_, _, _]) (Z := []) rfl) ?_
  refine HA_loud1 (i := 3) (by kernel_rfl) rfl ?_
  refine HO_call (first := []) (capt := []) (is := [0]) (R := [_, _]) rfl rfl rfl rfl rfl Try.call74 rfl (Spec.lend (pre1 := []) (pre2 := []) (PutBool_spec _ _ _ _ ?_) rfl (by intro y at' ha; obtain rfl := List.mem_singleton.1 ha; first | exact Atom.Flat.own kByte_plain _ _ _ _ | exact Atom.Flat.own kInt_plain _ _ _ _ | exact Atom.Flat.own kStr_plain _ _ _ _ | exact Atom.Flat.loc _ _ _)) ?_
  · (simp only [List.length_append, List.length_cons, List.length_nil]; omega)
  intro y17 hy17
  refine HA_back (listed' := #[true, true, true, true, true, true, false, false]) rfl (fun _ hA => hA.only (is := [0, 2, 3]) (Y := [_, _, _]) (Z := [_]) rfl) ?_
  refine HA_loud1 (i := 6) (by kernel_rfl) rfl ?_
  refine HO_call (first := []) (capt := []) (is := [1]) (R := [_, _, _]) rfl rfl rfl rfl rfl Try.call69 rfl (Spec.lend (pre1 := []) (pre2 := []) (PutText_spec _ _ _ _ ?_ ?_) rfl (by intro y at' ha; obtain rfl := List.mem_singleton.1 ha; first | exact Atom.Flat.own kByte_plain _ _ _ _ | exact Atom.Flat.own kInt_plain _ _ _ _ | exact Atom.Flat.own kStr_plain _ _ _ _ | exact Atom.Flat.loc _ _ _)) ?_
  · omega
  · (simp only [List.length_append, List.length_cons, List.length_nil]; omega)
  intro y20 hy20
  refine HA_back (listed' := #[true, true, true, true, true, true, true, false]) rfl (fun _ hA => hA.only (is := [2, 3, 4]) (Y := [_, _, _]) (Z := [_, _]) rfl) ?_
  refine HA_take (i := 7) (listed' := #[true, true, true, true, true, true, true, true]) (bodyPost_pan _ _ _) rfl rfl rfl rfl (by kernel_rfl) rfl (V_assign rfl) (fun _ hA => hA.only (is := [2, 3, 4]) (Y := [_, _, _]) (Z := [_, _]) rfl) ?_
  refine HA_done (by kernel_rfl) ?_
  refine H_env (ρ' := [(3, _), (1, _)]) ⟨rfl, rfl, trivial⟩ ?_
  refine H_world (fun _ hA => hA.drop (is := [0, 2]) (Y := [_, _]) (Z := [_, _, _]) rfl) ?_
  refine H_seq ?_
  -- R3 command.go:88
  refine H_region (l := [_, _, _, _, _, _, _]) rfl ?_
  refine HO_move rfl rfl rfl ?_
  refine HO_fieldAddr (r := 4) rfl rfl rfl Try.underlying34 rfl Try.sizeOf32 rfl ?_
  refine HO_load1 (i := 1) (j := 4) rfl rfl rfl Try.isAgg32 rfl (.loc _ _ _) rfl rfl ?_
  refine HO_bi rfl rfl rfl (bi_len_sl Try.underlying32) ?_
  refine HO_conv rfl rfl rfl (cv_int Try.underlying3 Try.underlying97 (wrap_u_i rfl _)) ?_
  refine HO_set (v' := .int .u64 ((ps.length : Int))) 25 rfl (by exact congrArg (Value.int .u64) (by simp only [IntKind.bits]; omega)) ?_
  refine HO_call (first := []) (capt := []) (is := [0]) (R := [_, _]) rfl rfl rfl rfl rfl Try.call67 rfl (Spec.lend (pre1 := []) (pre2 := []) (Put_spec _ _ _ _ ?_ ?_) rfl (by intro y at' ha; obtain rfl := List.mem_singleton.1 ha; first | exact Atom.Flat.own kByte_plain _ _ _ _ | exact Atom.Flat.own kInt_plain _ _ _ _ | exact Atom.Flat.own kStr_plain _ _ _ _ | exact Atom.Flat.loc _ _ _)) ?_
  · omega
  · (simp only [List.length_append, List.length_cons, List.length_nil]; omega)
  intro y26 hy26
  refine HO_assign rfl rfl rfl ?_
  refine HO_nil ?_
  refine H_env (ρ' := [(3, _), (1, _)]) ⟨rfl, rfl, trivial⟩ ?_
  refine H_world (fun _ hA => hA.drop (is := [0]) (Y := [_]) (Z := [_, _, _]) rfl) ?_
  refine H_seq ?_
  refine H_seq ?_
  -- R4 command.go:89
  refine H_region (l := [_, _, _, _]) rfl ?_
  refine HO_fieldAddr (r := 4) rfl rfl rfl Try.underlying34 rfl Try.sizeOf32 rfl ?_
  refine HO_load1 (i := 1) (j := 4) rfl rfl rfl Try.isAgg32 rfl (.loc _ _ _) rfl rfl ?_
  refine HO_bi rfl rfl rfl (bi_len_sl Try.underlying32) ?_
  refine HO_move rfl rfl rfl ?_
  refine HO_nil ?_
  refine H_env (ρ' := [(30, _), (29, _), (28, _), (3, _)]) ⟨rfl, rfl, rfl, rfl, trivial⟩ ?_
  refine H_world (fun _ hA => hA.drop (is := [1]) (Y := [_]) (Z := [_, _]) rfl) ?_
  refine H_block ?_
  refine H_loop (σ := Nat × List UInt8 × Option Addr × Nat) (fun s => s.2.1 = Reply.headB er fo va se ps.length ++ (ps.take s.1).flatMap Reply.pairB ∧ s.1 ≤ ps.length) (fun s => [(3, .slice s.2.2.1 (s.2.1.length) s.2.2.2), (28, .slice a (ps.length) c), (29, .int .i64 ((ps.length : Int))), (30, .int .i64 ((s.1 : Int)))]) (fun s => Asn w0 ok0 M0 [.own 5 kByte s.2.2.1 s.2.2.2 (s.2.1), .dat kPair.sl (ps) [.slice a (ps.length) c]]) (fun s => ps.length - s.1) ⟨0, Reply.headB er fo va se ps.length, y26.1, y26.2⟩ ?_ ?_ ?_ ?_
  · exact ⟨by simp, Nat.zero_le _⟩
  · exact ⟨rfl, rfl, rfl, rfl, trivial⟩
  · intro w hA
    exact hA.only (is := [0, 1]) (Z := []) rfl
  · rintro ⟨i, l, p, q⟩ hI
    (try dsimp only at hI ⊢)
    refine H_seq ?_
    -- R5 command.go:89
    refine H_region (l := [_]) rfl ?_
    refine HO_bin rfl rfl rfl rfl bin_lss ?_
    refine HO_nil ?_
    refine H_seq ?_
    refine H_cond rfl ?_ ?_
    · intro h31
      (try simp only [decide_eq_true_eq, decide_eq_false_iff_not, Bool.not_eq_true', Bool.not_eq_false', Bool.not_eq_true, Bool.not_eq_false, Bool.true_eq_false, Bool.false_eq_true, not_false_eq_true, not_true_eq_false] at h31)
      refine H_skip ?_
      refine H_seq ?_
      refine H_block ?_
      refine H_seq ?_
      -- R6 command.go:89
      refine H_region (l := [_, _, _, _]) rfl ?_
      refine HO_indexAddr open_Pair (i := 1) rfl rfl rfl rfl rfl Try.underlying32 Try.sizeOf102 rfl ?_ ?_
      · omega
      intro b32 o32 z32 y32 hz32 hI32
      clear y32
      (try simp only [BIG] at hI32)
      have hl9 : l.length + (Reply.pairB z32).length ≤ 1000000 := by rw [hI.1]; have := Reply.flat_len hz32; have hb2 := hb; unfold Reply.bytes at hb2; simp only [List.length_append] at hb2 ⊢; omega
      have hpb := Reply.pairB_length z32
      have hkd : z32.key.data.toList.length = z32.key.size := Array.length_toList
      have hvd : z32.val.data.toList.length = z32.val.size := Array.length_toList
      refine HO_loadA (i := 0) (us := []) (cs := [_, _]) (ts := []) rfl rfl rfl Try.isAgg102 Try.sizeOf102 rfl (.elem _ _ _) rfl rfl rfl rfl ?_
      refine HO_alloc (cs := [_, _]) rfl rfl Try.zeroValue102 rfl ?_
      intro g5
      refine HO_store (i := 0) (j := 0) (us := []) (old := [_, _]) (ts := []) (cs := [_, _]) (R := [_, _, _]) (new := [_, _]) rfl rfl rfl Try.sizeOf102 rfl (by simp [Value.oneCell']) rfl rfl rfl rfl rfl rfl ?_
      refine HO_nil ?_
      refine H_env (ρ' := [(5, _), (3, _), (28, _), (29, _), (30, _)]) ⟨rfl, rfl, rfl, rfl, rfl, trivial⟩ ?_
      refine H_world (fun _ hA => hA.drop (is := [1]) (Y := [_]) (Z := [_, _, _]) rfl) ?_
      -- R7 command.go:90 draws
      refine H_draw (is := [0, 1, 2]) (Xs := [_, _, _]) (Z := []) (fuel := 8) (l := #[false, false, false, false, false, false, false, false]) mixed rfl rfl rfl ?_
      refine HA_take (i := 0) (listed' := #[true, false, false, false, false, false, false, false]) (bodyPost_pan _ _ _) rfl rfl rfl rfl (by kernel_rfl) rfl (V_move rfl) (fun _ hA => hA.only (is := [0, 1, 2]) (Y := [_, _, _]) (Z := []) rfl) ?_
      refine HA_take (i := 1) (listed' := #[true, true, false, false, false, false, false, false]) (bodyPost_pan _ _ _) rfl rfl rfl rfl (by kernel_rfl) rfl (V_fieldAddr (r := 0) rfl Try.underlying102 rfl Try.sizeOf9 rfl) (fun _ hA => hA.only (is := [0, 1, 2]) (Y := [_, _, _]) (Z := []) rfl) ?_
      refine HA_take (i := 2) (listed' := #[true, true, true, false, false, false, false, false]) (bodyPost_pan _ _ _) rfl rfl rfl rfl (by kernel_rfl) rfl (V_load1 (i := 0) (j := 0) rfl Try.isAgg9 rfl (.loc _ _ _) rfl rfl) (fun _ hA => hA.only (is := [0, 1, 2]) (Y := [_, _, _]) (Z := []) rfl) ?_
      refine HA_take (i := 4) (listed' := #[true, true, true, false, true, false, false, false]) (bodyPost_pan _ _ _) rfl rfl rfl rfl (by kernel_rfl) rfl (V_fieldAddr (r := 1) rfl Try.underlying102 rfl Try.sizeOf9 rfl) (fun _ hA => hA.only (is := [0, 1, 2]) (Y := [_, _, _]) (Z := []) rfl) ?_
      refine HA_take (i := 5) (listed' := #[true, true, true, false, true, true, false, false]) (bodyPost_pan _ _ _) rfl rfl rfl rfl (by kernel_rfl) rfl (V_load1 (i := 0) (j := 1) rfl Try.isAgg9 rfl (.loc _ _ _) rfl rfl) (fun _ hA => hA.only (is := [0, 1, 2]) (Y := [_, _, _]) (Z := []) rfl) ?_
      refine HA_loud1 (i := 3) (by kernel_rfl) rfl ?_
      refine HO_call (first := []) (capt := []) (is := [1]) (R := [_, _]) rfl rfl rfl rfl rfl Try.call69 rfl (Spec.lend (pre1 := []) (pre2 := []) (PutText_spec _ _ _ _ ?_ ?_) rfl (by intro y at' ha; obtain rfl := List.mem_singleton.1 ha; first | exact Atom.Flat.own kByte_plain _ _ _ _ | exact Atom.Flat.own kInt_plain _ _ _ _ | exact Atom.Flat.own kStr_plain _ _ _ _ | exact Atom.Flat.loc _ _ _)) ?_
      · omega
      · omega
      intro y37 hy37
      refine HA_back (listed' := #[true, true, true, true, true, true, false, false]) rfl (fun _ hA => hA.only (is := [1, 0, 3]) (Y := [_, _, _]) (Z := [_]) rfl) ?_
      refine HA_loud1 (i := 6) (by kernel_rfl) rfl ?_
      refine HO_call (first := []) (capt := []) (is := [1]) (R := [_, _, _]) rfl rfl rfl rfl rfl Try.call69 rfl (Spec.lend (pre1 := []) (pre2 := []) (PutText_spec _ _ _ _ ?_ ?_) rfl (by intro y at' ha; obtain rfl := List.mem_singleton.1 ha; first | exact Atom.Flat.own kByte_plain _ _ _ _ | exact Atom.Flat.own kInt_plain _ _ _ _ | exact Atom.Flat.own kStr_plain _ _ _ _ | exact Atom.Flat.loc _ _ _)) ?_
      · omega
      · (simp only [List.length_append, List.length_cons, List.length_nil]; omega)
      intro y40 hy40
      refine HA_back (listed' := #[true, true, true, true, true, true, true, false]) rfl (fun _ hA => hA.only (is := [2, 2, 4]) (Y := [_, _, _]) (Z := [_, _]) rfl) ?_
      refine HA_take (i := 7) (listed' := #[true, true, true, true, true, true, true, true]) (bodyPost_pan _ _ _) rfl rfl rfl rfl (by kernel_rfl) rfl (V_assign rfl) (fun _ hA => hA.only (is := [2, 2, 4]) (Y := [_, _, _]) (Z := [_, _]) rfl) ?_
      refine HA_done (by kernel_rfl) ?_
      refine H_env (ρ' := [(3, _), (28, _), (29, _), (30, _)]) ⟨rfl, rfl, rfl, rfl, trivial⟩ ?_
      refine H_world (fun _ hA => hA.drop (is := [0, 2, 3]) (Y := [_, _, _]) (Z := [_, _]) rfl) ?_
      refine H_blk ?_
      -- R8 command.go:89
      refine H_region (l := [_, _]) rfl ?_
      refine HO_bin rfl rfl rfl rfl (bin_add ?_ ?_) ?_
      · omega
      · omega
      refine HO_move rfl rfl rfl ?_
      refine HO_nil ?_
      refine H_env (ρ' := [(30, _), (3, _), (28, _), (29, _)]) ⟨rfl, rfl, rfl, rfl, trivial⟩ ?_
      refine H_inv (fun a w hf hA => ⟨⟨i + 1, l ++ (Cod.enc z32.key.size ++ z32.key.data.toList) ++ (Cod.enc z32.val.size ++ z32.val.data.toList), y40.1, y40.2⟩, ?_, ?_, hf.sub ?_, ?_⟩)
      · exact ⟨by rw [hI.1, Reply.flat_next hz32]; simp [Reply.pairB], by omega⟩
      · (try dsimp only); omega
      · exact ⟨rfl, rfl, rfl, rfl, trivial⟩
      · exact hA.only (is := [0, 1]) (Z := []) rfl
    · intro h31
      (try simp only [decide_eq_true_eq, decide_eq_false_iff_not, Bool.not_eq_true', Bool.not_eq_false', Bool.not_eq_true, Bool.not_eq_false, Bool.true_eq_false, Bool.false_eq_true, not_false_eq_true, not_true_eq_false] at h31)
      refine H_exit rfl ?_
      refine H_seq ?_
      -- R9 command.go:92
      obtain rfl : i = ps.length := by omega
      have hfin : l = Reply.bytes ⟨er, fo, va, se, ps⟩ := by rw [hI.1, List.take_length]; rfl
      subst hfin
      refine H_region (l := [_, _]) rfl ?_
      refine HO_move rfl rfl rfl ?_
      refine HO_assign rfl rfl rfl ?_
      refine HO_nil ?_
      refine H_env (ρ' := [(2, _)]) ⟨rfl, trivial⟩ ?_
      refine H_world (fun _ hA => hA.drop (is := [1]) (Y := [_]) (Z := [_]) rfl) ?_
      -- end1
      refine H_ret1 Try.results27 (.tmp rfl) (fun w hA => ⟨(p, q), congrArg Ending.returned ?_, ?_, ?_⟩)
      · rfl
      · trivial
      · exact hA.only (is := [0]) (Z := []) rfl
theorem readrep_spec (b : List UInt8) (a : Option Addr) (c : Nat) (hb : b.length ≤ 100000) : Spec Try.prog 49 #[.slice a (b.length) c] [.dat kByte.sl (b) [.slice a (b.length) c]] (β := Option Addr × Nat) (fun y => .tuple #[.agg #[.int .i64 ((Reply.read b).1.err), .bool ((Reply.read b).1.found), .string ((Reply.read b).1.val), .int .i64 ((Reply.read b).1.sess), .slice y.1 (Reply.read b).1.pairs.length y.2], .int .i64 ((Reply.read b).2)]) (fun y => True) (fun y => [.dat kPair.sl ((Reply.read b).1.pairs) [.slice y.1 (Reply.read b).1.pairs.length y.2]]) := by
  refine Spec.enter (vs := [_]) Try.func49 rfl Try.ntmps49 rfl (Nat.le_of_ble_eq_true rfl) (fun w0 ok0 => ?_)
  generalize hM0 : blks _ = M0
  have hMn : ∀ {R : List Atom} (b : Nat), M0 b → blks R b := fun b hb => absurd (hM0 ▸ hb) (blks_none (by simp [Atom.dat, Atom.elem]) b)
  refine H_seq ?_
  -- R0 command.go:96
  refine H_region (l := [_, _]) rfl ?_
  refine HO_alloc (cs := [_, _, _, _, _]) rfl rfl Try.zeroValue34 rfl ?_
  intro g2
  refine HO_assign rfl rfl rfl ?_
  refine HO_nil ?_
  refine H_env (ρ' := [(2, _), (0, _)]) ⟨rfl, rfl, trivial⟩ ?_
  refine H_seq ?_
  -- R1 command.go:97
  refine H_region (l := [_, _, _, _]) rfl ?_
  refine HO_move rfl rfl rfl ?_
  refine HO_build (xo := [(0, _)]) (vs := [_]) rfl rfl rfl rfl (bd107_0_s) ?_
  refine HO_box (cs := [_, _]) rfl rfl rfl rfl ?_
  intro g10
  refine HO_assign rfl rfl rfl ?_
  refine HO_nil ?_
  refine H_env (ρ' := [(4, _), (2, _)]) ⟨rfl, rfl, trivial⟩ ?_
  refine H_seq ?_
  -- R2 command.go:98
  refine H_region (l := [_, _, _, _, _, _, _]) rfl ?_
  refine HO_move rfl rfl rfl ?_
  refine HO_dup (i := 2) rfl rfl ?_
  refine HO_call (first := []) (capt := []) (is := [0, 0]) (R := [_, _]) rfl rfl rfl rfl rfl Try.call75 rfl (cInt_spec _ _ _ _ _) ?_
  intro y12 hy12
  generalize hr_r1 : Cod.rd 0 (Cod.dec b) b false = r1
  have hl_r1 : r1.2.1.length ≤ b.length := hr_r1 ▸ Cod.rd_len _ _ _ _
  refine HO_move rfl rfl rfl ?_
  refine HO_dup (i := 1) rfl rfl ?_
  refine HO_call (first := []) (capt := []) (is := [0, 0]) (R := [_, _, _]) rfl rfl rfl rfl rfl Try.call75 rfl (cInt_spec _ _ _ _ _) ?_
  intro y14 hy14
  generalize hr_r2 : Cod.rd 0 (Cod.dec r1.2.1) r1.2.1 r1.2.2 = r2
  have hl_r2 : r2.2.1.length ≤ r1.2.1.length := hr_r2 ▸ Cod.rd_len _ _ _ _
  refine HO_build (xo := [(0, _), (3, _)]) (vs := [_, _]) rfl rfl rfl rfl (bd34_0_3_ii) ?_
  refine HO_alloc (cs := [_, _, _, _, _]) rfl rfl Try.zeroValue34 rfl ?_
  intro g5
  refine HO_store (i := 0) (j := 0) (us := []) (old := [_, _, _, _, _]) (ts := []) (cs := [_, _, _, _, _]) (R := [_, _, _, _, _]) (new := [_, _, _, _, _]) rfl rfl rfl Try.sizeOf34 rfl (by simp [Value.oneCell']) rfl rfl rfl rfl rfl rfl ?_
  refine HO_nil ?_
  refine H_env (ρ' := [(5, _), (4, _), (2, _)]) ⟨rfl, rfl, rfl, trivial⟩ ?_
  refine H_world (fun _ hA => hA.drop (is := [3, 5]) (Y := [_, _]) (Z := [_, _, _, _]) rfl) ?_
  refine H_seq ?_
  -- R3 command.go:99
  refine H_region (l := [_, _, _, _]) rfl ?_
  refine HO_move rfl rfl rfl ?_
  refine HO_dup (i := 2) rfl rfl ?_
  refine HO_call (first := []) (capt := []) (is := [1, 0]) (R := [_, _, _]) rfl rfl rfl rfl rfl Try.call95 rfl (cBool_spec _ _ _ _ _) ?_
  intro y17 hy17
  generalize hr_r3 : Cod.rd false (Cod.decB r2.2.1) r2.2.1 r2.2.2 = r3
  have hl_r3 : r3.2.1.length ≤ r2.2.1.length := hr_r3 ▸ Cod.rd_len _ _ _ _
  refine HO_fieldAddr (r := 1) rfl rfl rfl Try.underlying34 rfl Try.sizeOf4 rfl ?_
  refine HO_store (i := 2) (j := 0) (us := [_]) (old := [_]) (ts := [_, _, _]) (cs := [_]) (R := [_, _, _, _]) (new := [_, _, _, _, _]) rfl rfl rfl Try.sizeOf4 rfl (by simp [Value.oneCell']) rfl rfl rfl rfl rfl rfl ?_
  refine HO_nil ?_
  refine H_env (ρ' := [(5, _), (4, _), (2, _)]) ⟨rfl, rfl, rfl, trivial⟩ ?_
  refine H_world (fun _ hA => hA.drop (is := [3]) (Y := [_]) (Z := [_, _, _, _]) rfl) ?_
  refine H_seq ?_
  -- R4 command.go:100
  refine H_region (l := [_, _, _, _]) rfl ?_
  refine HO_move rfl rfl rfl ?_
  refine HO_dup (i := 2) rfl rfl ?_
  refine HO_call (first := []) (capt := []) (is := [1, 0]) (R := [_, _, _]) rfl rfl rfl rfl rfl Try.call76 rfl (cText_spec _ _ _ _ _ ?_) ?_
  · (first | omega | assumption | decide)
  intro y20 hy20
  generalize hr_r4 : Cod.rd [] (Cod.decT r3.2.1) r3.2.1 r3.2.2 = r4
  have hl_r4 : r4.2.1.length ≤ r3.2.1.length := hr_r4 ▸ Cod.rd_len _ _ _ _
  have hs_r4 := Cod.rdT_size hr_r4
  refine HO_fieldAddr (r := 2) rfl rfl rfl Try.underlying34 rfl Try.sizeOf9 rfl ?_
  refine HO_store (i := 2) (j := 0) (us := [_, _]) (old := [_]) (ts := [_, _]) (cs := [_]) (R := [_, _, _, _]) (new := [_, _, _, _, _]) rfl rfl rfl Try.sizeOf9 rfl (by simp [Value.oneCell']) rfl rfl rfl rfl rfl rfl ?_
  refine HO_nil ?_
  refine H_env (ρ' := [(5, _), (4, _), (2, _)]) ⟨rfl, rfl, rfl, trivial⟩ ?_
  refine H_world (fun _ hA => hA.drop (is := [3]) (Y := [_]) (Z := [_, _, _, _]) rfl) ?_
  refine H_seq ?_
  refine H_seq ?_
  -- R5 command.go:101
  refine H_region (l := [_, _, _]) rfl ?_
  refine HO_move rfl rfl rfl ?_
  refine HO_dup (i := 2) rfl rfl ?_
  refine HO_call (first := []) (capt := []) (is := [1, 0]) (R := [_, _, _]) rfl rfl rfl rfl rfl Try.call96 rfl (cNum_spec _ _ _ _ _) ?_
  intro y23 hy23
  generalize hr_r5 : Cod.rd 0 (Cod.dec r4.2.1) r4.2.1 r4.2.2 = r5
  have hl_r5 : r5.2.1.length ≤ r4.2.1.length := hr_r5 ▸ Cod.rd_len _ _ _ _
  refine HO_assign rfl rfl rfl ?_
  refine HO_nil ?_
  refine H_env (ρ' := [(6, _), (5, _), (4, _), (2, _)]) ⟨rfl, rfl, rfl, rfl, trivial⟩ ?_
  refine H_world (fun _ hA => hA.drop (is := [3]) (Y := [_]) (Z := [_, _, _, _]) rfl) ?_
  refine H_block ?_
  refine H_own0 kPair 102 none ?_
  refine H_loop (σ := Nat × List UInt8 × Bool × List Pair × Option Addr × Nat × Option Addr × Nat) (fun s => Reply.pairsP r5.1 r5.2 = (s.2.2.2.1 ++ (Reply.pairsP s.1 (s.2.1, s.2.2.1)).1, (Reply.pairsP s.1 (s.2.1, s.2.2.1)).2) ∧ s.2.1.length ≤ 100000 ∧ (s.2.2.1 = false → s.2.2.2.1.length + s.2.1.length ≤ 100000) ∧ s.1 < 18446744073709551616) (fun s => [(2, .pointer (some ⟨g2, 0, none⟩)), (4, .pointer (some ⟨g10, 0, none⟩)), (5, .pointer (some ⟨g5, 0, none⟩)), (6, .int .u64 ((s.1 : Int)))]) (fun s => Asn w0 ok0 M0 [.loc g2 [.int .i64 (0), .bool (false), .string (⟨#[]⟩), .int .i64 (0), .slice none 0 0] 34, .loc g10 [.slice s.2.2.2.2.1 (s.2.1.length) s.2.2.2.2.2.1, .bool (s.2.2.1)] 107, .dat kByte.sl (s.2.1) [.slice s.2.2.2.2.1 (s.2.1.length) s.2.2.2.2.2.1], .loc g5 [.int .i64 (Cod.zag r1.1), .bool (r3.1), .string (⟨r4.1.toArray⟩), .int .i64 (Cod.zag r2.1), .slice s.2.2.2.2.2.2.1 (s.2.2.2.1.length) s.2.2.2.2.2.2.2] 34, .own 102 kPair s.2.2.2.2.2.2.1 s.2.2.2.2.2.2.2 (s.2.2.2.1)]) (fun s => s.1) ⟨r5.1, r5.2.1, r5.2.2, [], y23.1, y23.2, none, 0⟩ ?_ ?_ ?_ ?_
  · exact ⟨by simp, by dsimp only; omega, fun _ => by dsimp only [List.length_nil]; omega, by dsimp only; have := Cod.rd_lt r4.2.1 r4.2.2; rw [hr_r5] at this; exact this⟩
  · exact ⟨rfl, rfl, rfl, rfl, trivial⟩
  · intro w hA
    exact hA.only (is := [0, 0, 1, 2, 0]) (Z := []) rfl
  · rintro ⟨m, bs, wr, l, p, q, p2, q2⟩ hI
    (try dsimp only at hI ⊢)
    have hbs := hI.2.1
    refine H_seq ?_
    refine H_seq ?_
    -- R6 command.go:101
    refine H_region (l := [_, _, _, _, _, _, _, _, _]) rfl ?_
    refine HO_move rfl rfl rfl ?_
    refine HO_bin rfl rfl rfl rfl bin_gtr ?_
    refine HO_move rfl rfl rfl ?_
    refine HO_split (d := 26) rfl ?_ ?_
    · intro h26
      (try simp only [decide_eq_true_eq, decide_eq_false_iff_not, Bool.not_eq_true', Bool.not_eq_false', Bool.not_eq_true, Bool.not_eq_false, Bool.true_eq_false, Bool.false_eq_true, not_false_eq_true, not_true_eq_false] at h26)
      refine HO_move rfl rfl rfl ?_
      refine HO_nilCheck rfl rfl rfl ?_
      refine HO_fieldAddr (r := 1) rfl rfl rfl Try.underlying107 rfl Try.sizeOf4 rfl ?_
      refine HO_load1 (i := 1) (j := 1) rfl rfl rfl Try.isAgg4 rfl (.loc _ _ _) rfl rfl ?_
      refine HO_not rfl rfl rfl ?_
      refine HO_pick_t rfl rfl rfl rfl ?_
      refine HO_nil ?_
      refine H_env (ρ' := [(32, _), (2, _), (4, _), (5, _), (6, _)]) ⟨rfl, rfl, rfl, rfl, rfl, trivial⟩ ?_
      refine H_cond rfl ?_ ?_
      · intro h32
        (try simp only [decide_eq_true_eq, decide_eq_false_iff_not, Bool.not_eq_true', Bool.not_eq_false', Bool.not_eq_true, Bool.not_eq_false, Bool.true_eq_false, Bool.false_eq_true, not_false_eq_true, not_true_eq_false] at h32)
        refine H_skip ?_
        refine H_seq ?_
        refine H_block ?_
        refine H_seq ?_
        -- R8 command.go:102
        have hwr : wr = false := by simpa using h32
        obtain ⟨m, rfl⟩ : ∃ q, m = q + 1 := ⟨m - 1, by omega⟩
        refine H_region (l := [_, _, _]) rfl ?_
        refine HO_move rfl rfl rfl ?_
        refine HO_dup (i := 2) rfl rfl ?_
        refine HO_call (first := []) (capt := []) (is := [1, 0]) (R := [_, _, _, _]) rfl rfl rfl rfl rfl Try.call76 rfl (cText_spec _ _ _ _ _ ?_) ?_
        · (first | omega | assumption | decide)
        intro y36 hy36
        generalize hr_r6 : Cod.rd [] (Cod.decT bs) bs wr = r6
        have hl_r6 : r6.2.1.length ≤ bs.length := hr_r6 ▸ Cod.rd_len _ _ _ _
        have hs_r6 := Cod.rdT_size hr_r6
        refine HO_assign rfl rfl rfl ?_
        refine HO_nil ?_
        refine H_env (ρ' := [(7, _), (2, _), (4, _), (5, _), (6, _)]) ⟨rfl, rfl, rfl, rfl, rfl, trivial⟩ ?_
        refine H_world (fun _ hA => hA.drop (is := [3]) (Y := [_]) (Z := [_, _, _, _, _]) rfl) ?_
        -- R9 command.go:103 draws
        refine H_draw (is := [1, 2]) (Xs := [_, _]) (Z := [_, _, _]) (fuel := 10) (l := #[false, false, false, false, false, false, false, false, false, false]) mixed rfl rfl rfl ?_
        refine HA_take (i := 0) (listed' := #[true, false, false, false, false, false, false, false, false, false]) (bodyPost_pan _ _ _) rfl rfl rfl rfl (by kernel_rfl) rfl (V_fieldAddr (r := 4) rfl Try.underlying34 rfl Try.sizeOf32 rfl) (fun _ hA => hA.only (is := [1, 2]) (Y := [_, _]) (Z := [_, _, _]) rfl) ?_
        refine HA_take (i := 2) (listed' := #[true, false, true, false, false, false, false, false, false, false]) (bodyPost_pan _ _ _) rfl rfl rfl rfl (by kernel_rfl) rfl (V_move rfl) (fun _ hA => hA.only (is := [1, 2]) (Y := [_, _]) (Z := [_, _, _]) rfl) ?_
        refine HA_take (i := 3) (listed' := #[true, false, true, true, false, false, false, false, false, false]) (bodyPost_pan _ _ _) rfl rfl rfl rfl (by kernel_rfl) rfl (V_move rfl) (fun _ hA => hA.only (is := [1, 2]) (Y := [_, _]) (Z := [_, _, _]) rfl) ?_
        refine HA_loud2 (i := 1) (j := 4) (by kernel_rfl) rfl rfl ?_ ?_
        · refine HO_load1 (i := 3) (j := 4) rfl rfl rfl Try.isAgg32 rfl (.loc _ _ _) rfl rfl ?_
          refine HA_back (listed' := #[true, true, true, true, false, false, false, false, false, false]) rfl (fun _ hA => hA.only (is := [1, 2]) (Y := [_, _]) (Z := [_, _, _]) rfl) ?_
          refine HA_loud1 (i := 4) (by kernel_rfl) rfl ?_
          refine HO_dup (i := 1) rfl rfl ?_
          refine HO_call (first := []) (capt := []) (is := [0, 0]) (R := [_, _, _, _]) rfl rfl rfl rfl rfl Try.call76 rfl (cText_spec _ _ _ _ _ ?_) ?_
          · (first | omega | assumption | decide)
          intro y41 hy41
          refine HA_back (listed' := #[true, true, true, true, true, false, false, false, false, false]) rfl (fun _ hA => hA.only (is := [2, 3]) (Y := [_, _]) (Z := [_, _, _, _]) rfl) ?_
          generalize hr_r7 : Cod.rd [] (Cod.decT r6.2.1) r6.2.1 r6.2.2 = r7
          have hl_r7 : r7.2.1.length ≤ r6.2.1.length := hr_r7 ▸ Cod.rd_len _ _ _ _
          have hs_r7 := Cod.rdT_size hr_r7
          refine HA_take (i := 5) (listed' := #[true, true, true, true, true, true, false, false, false, false]) (bodyPost_pan _ _ _) rfl rfl rfl rfl (by kernel_rfl) rfl (V_build (xo := [(0, _), (1, _)]) (vs := [_, _]) rfl rfl (bd102_0_1_tt)) (fun _ hA => hA.only (is := [2, 3]) (Y := [_, _]) (Z := [_, _, _, _]) rfl) ?_
          refine HA_loud1 (i := 6) (by kernel_rfl) rfl ?_
          refine HO_buildSlice (kd := kPair) (xo := [_]) (vs := [_]) (cs := [_, _]) (xs := [⟨⟨r6.1.toArray⟩, ⟨r7.1.toArray⟩⟩]) rfl rfl rfl rfl Try.underlying32 elt102 rfl rfl rfl (by decide) (by decide) (by simp [Value.cells]) rfl (fun ok w hA => ⟨_, _, rfl, ⟨(by dsimp only [BIG]; refine ⟨?_, ?_⟩ <;> first | omega | assumption), (), rfl, (fun a ha => nomatch ha)⟩, rfl⟩) ?_
          intro g43
          refine HA_back (listed' := #[true, true, true, true, true, true, true, false, false, false]) rfl (fun _ hA => hA.only (is := [3, 4]) (Y := [_, _]) (Z := [_, _, _, _, _]) rfl) ?_
          refine HA_loud1 (i := 7) (by kernel_rfl) rfl ?_
          refine HO_append (i := 6) (R := [_, _, _, _, _, _]) rfl rfl rfl rfl rfl Try.underlying32 elt102 rfl rfl (SrcOk.own (j := 0) Try.underlying32 rfl rfl) ?_ ?_
          · (simp only [List.length_append, List.length_cons, List.length_nil]; have := hI.2.2.1 hwr; omega)
          intro a44 c44
          refine HA_back (listed' := #[true, true, true, true, true, true, true, true, false, false]) rfl (fun _ hA => hA.only (is := [4, 5]) (Y := [_, _]) (Z := [_, _, _, _, _]) rfl) ?_
          refine HA_take (i := 8) (listed' := #[true, true, true, true, true, true, true, true, true, false]) (bodyPost_pan _ _ _) rfl rfl rfl rfl (by kernel_rfl) rfl (V_fieldAddr (r := 4) rfl Try.underlying34 rfl Try.sizeOf32 rfl) (fun _ hA => hA.only (is := [4, 5]) (Y := [_, _]) (Z := [_, _, _, _, _]) rfl) ?_
          refine HA_loud1 (i := 9) (by kernel_rfl) rfl ?_
          refine HO_store (i := 6) (j := 0) (us := [_, _, _, _]) (old := [_]) (ts := []) (cs := [_]) (R := [_, _, _, _, _, _]) (new := [_, _, _, _, _]) rfl rfl rfl Try.sizeOf32 rfl (by simp [Value.oneCell']) rfl rfl rfl rfl rfl rfl ?_
          refine HA_back (listed' := #[true, true, true, true, true, true, true, true, true, true]) rfl (fun _ hA => hA.only (is := [5, 6]) (Y := [_, _]) (Z := [_, _, _, _, _]) rfl) ?_
          refine HA_done (by kernel_rfl) ?_
          refine H_env (ρ' := [(2, _), (4, _), (5, _), (6, _)]) ⟨rfl, rfl, rfl, rfl, trivial⟩ ?_
          refine H_world (fun _ hA => hA.drop (is := [2, 5]) (Y := [_, _]) (Z := [_, _, _, _, _]) rfl) ?_
          refine H_blk ?_
          -- R7 command.go:101
          refine H_region (l := [_, _, _]) rfl ?_
          refine HO_move rfl rfl rfl ?_
          refine HO_bin rfl rfl rfl rfl (bin_subu rfl ?_ ?_) ?_
          · (simp only [IntKind.bits]; omega)
          · (simp only [IntKind.bits]; omega)
          refine HO_assign rfl rfl rfl ?_
          refine HO_nil ?_
          refine H_env (ρ' := [(6, _), (2, _), (4, _), (5, _)]) ⟨rfl, rfl, rfl, rfl, trivial⟩ ?_
          refine H_inv (fun a w hf hA => ⟨⟨m, r7.2.1, r7.2.2, l ++ [⟨⟨r6.1.toArray⟩, ⟨r7.1.toArray⟩⟩], y41.1, y41.2, a44, c44⟩, ?_, ?_, hf.sub ?_, ?_⟩)
          · exact ⟨by dsimp only; exact Reply.next hI.1 hwr hr_r6 hr_r7, by dsimp only; omega, Reply.next_len hwr hI.2.2.1 hr_r6 hr_r7, by dsimp only; omega⟩
          · (try dsimp only); omega
          · exact ⟨rfl, rfl, rfl, rfl, trivial⟩
          · exact hA.only (is := [0, 0, 1, 0, 1]) (Z := []) rfl
        · refine HO_dup (i := 1) rfl rfl ?_
          refine HO_call (first := []) (capt := []) (is := [0, 0]) (R := [_, _, _, _]) rfl rfl rfl rfl rfl Try.call76 rfl (cText_spec _ _ _ _ _ ?_) ?_
          · (first | omega | assumption | decide)
          intro y41 hy41
          refine HA_back (listed' := #[true, false, true, true, true, false, false, false, false, false]) rfl (fun _ hA => hA.only (is := [2, 3]) (Y := [_, _]) (Z := [_, _, _, _]) rfl) ?_
          generalize hr_r8 : Cod.rd [] (Cod.decT r6.2.1) r6.2.1 r6.2.2 = r8
          have hl_r8 : r8.2.1.length ≤ r6.2.1.length := hr_r8 ▸ Cod.rd_len _ _ _ _
          have hs_r8 := Cod.rdT_size hr_r8
          refine HA_take (i := 5) (listed' := #[true, false, true, true, true, true, false, false, false, false]) (bodyPost_pan _ _ _) rfl rfl rfl rfl (by kernel_rfl) rfl (V_build (xo := [(0, _), (1, _)]) (vs := [_, _]) rfl rfl (bd102_0_1_tt)) (fun _ hA => hA.only (is := [2, 3]) (Y := [_, _]) (Z := [_, _, _, _]) rfl) ?_
          refine HA_loud2 (i := 1) (j := 6) (by kernel_rfl) rfl rfl ?_ ?_
          · refine HO_load1 (i := 4) (j := 4) rfl rfl rfl Try.isAgg32 rfl (.loc _ _ _) rfl rfl ?_
            refine HA_back (listed' := #[true, true, true, true, true, true, false, false, false, false]) rfl (fun _ hA => hA.only (is := [2, 3]) (Y := [_, _]) (Z := [_, _, _, _]) rfl) ?_
            refine HA_loud1 (i := 6) (by kernel_rfl) rfl ?_
            refine HO_buildSlice (kd := kPair) (xo := [_]) (vs := [_]) (cs := [_, _]) (xs := [⟨⟨r6.1.toArray⟩, ⟨r8.1.toArray⟩⟩]) rfl rfl rfl rfl Try.underlying32 elt102 rfl rfl rfl (by decide) (by decide) (by simp [Value.cells]) rfl (fun ok w hA => ⟨_, _, rfl, ⟨(by dsimp only [BIG]; refine ⟨?_, ?_⟩ <;> first | omega | assumption), (), rfl, (fun a ha => nomatch ha)⟩, rfl⟩) ?_
            intro g43
            refine HA_back (listed' := #[true, true, true, true, true, true, true, false, false, false]) rfl (fun _ hA => hA.only (is := [3, 4]) (Y := [_, _]) (Z := [_, _, _, _, _]) rfl) ?_
            refine HA_loud1 (i := 7) (by kernel_rfl) rfl ?_
            refine HO_append (i := 6) (R := [_, _, _, _, _, _]) rfl rfl rfl rfl rfl Try.underlying32 elt102 rfl rfl (SrcOk.own (j := 0) Try.underlying32 rfl rfl) ?_ ?_
            · (simp only [List.length_append, List.length_cons, List.length_nil]; have := hI.2.2.1 hwr; omega)
            intro a44 c44
            refine HA_back (listed' := #[true, true, true, true, true, true, true, true, false, false]) rfl (fun _ hA => hA.only (is := [4, 5]) (Y := [_, _]) (Z := [_, _, _, _, _]) rfl) ?_
            refine HA_take (i := 8) (listed' := #[true, true, true, true, true, true, true, true, true, false]) (bodyPost_pan _ _ _) rfl rfl rfl rfl (by kernel_rfl) rfl (V_fieldAddr (r := 4) rfl Try.underlying34 rfl Try.sizeOf32 rfl) (fun _ hA => hA.only (is := [4, 5]) (Y := [_, _]) (Z := [_, _, _, _, _]) rfl) ?_
            refine HA_loud1 (i := 9) (by kernel_rfl) rfl ?_
            refine HO_store (i := 6) (j := 0) (us := [_, _, _, _]) (old := [_]) (ts := []) (cs := [_]) (R := [_, _, _, _, _, _]) (new := [_, _, _, _, _]) rfl rfl rfl Try.sizeOf32 rfl (by simp [Value.oneCell']) rfl rfl rfl rfl rfl rfl ?_
            refine HA_back (listed' := #[true, true, true, true, true, true, true, true, true, true]) rfl (fun _ hA => hA.only (is := [5, 6]) (Y := [_, _]) (Z := [_, _, _, _, _]) rfl) ?_
            refine HA_done (by kernel_rfl) ?_
            refine H_env (ρ' := [(2, _), (4, _), (5, _), (6, _)]) ⟨rfl, rfl, rfl, rfl, trivial⟩ ?_
            refine H_world (fun _ hA => hA.drop (is := [2, 5]) (Y := [_, _]) (Z := [_, _, _, _, _]) rfl) ?_
            refine H_blk ?_
            -- R7 command.go:101
            refine H_region (l := [_, _, _]) rfl ?_
            refine HO_move rfl rfl rfl ?_
            refine HO_bin rfl rfl rfl rfl (bin_subu rfl ?_ ?_) ?_
            · (simp only [IntKind.bits]; omega)
            · (simp only [IntKind.bits]; omega)
            refine HO_assign rfl rfl rfl ?_
            refine HO_nil ?_
            refine H_env (ρ' := [(6, _), (2, _), (4, _), (5, _)]) ⟨rfl, rfl, rfl, rfl, trivial⟩ ?_
            refine H_inv (fun a w hf hA => ⟨⟨m, r8.2.1, r8.2.2, l ++ [⟨⟨r6.1.toArray⟩, ⟨r8.1.toArray⟩⟩], y41.1, y41.2, a44, c44⟩, ?_, ?_, hf.sub ?_, ?_⟩)
            · exact ⟨by dsimp only; exact Reply.next hI.1 hwr hr_r6 hr_r8, by dsimp only; omega, Reply.next_len hwr hI.2.2.1 hr_r6 hr_r8, by dsimp only; omega⟩
            · (try dsimp only); omega
            · exact ⟨rfl, rfl, rfl, rfl, trivial⟩
            · exact hA.only (is := [0, 0, 1, 0, 1]) (Z := []) rfl
          · refine HO_buildSlice (kd := kPair) (xo := [_]) (vs := [_]) (cs := [_, _]) (xs := [⟨⟨r6.1.toArray⟩, ⟨r8.1.toArray⟩⟩]) rfl rfl rfl rfl Try.underlying32 elt102 rfl rfl rfl (by decide) (by decide) (by simp [Value.cells]) rfl (fun ok w hA => ⟨_, _, rfl, ⟨(by dsimp only [BIG]; refine ⟨?_, ?_⟩ <;> first | omega | assumption), (), rfl, (fun a ha => nomatch ha)⟩, rfl⟩) ?_
            intro g43
            refine HA_back (listed' := #[true, false, true, true, true, true, true, false, false, false]) rfl (fun _ hA => hA.only (is := [3, 4]) (Y := [_, _]) (Z := [_, _, _, _, _]) rfl) ?_
            refine HA_loud1 (i := 1) (by kernel_rfl) rfl ?_
            refine HO_load1 (i := 5) (j := 4) rfl rfl rfl Try.isAgg32 rfl (.loc _ _ _) rfl rfl ?_
            refine HA_back (listed' := #[true, true, true, true, true, true, true, false, false, false]) rfl (fun _ hA => hA.only (is := [3, 4]) (Y := [_, _]) (Z := [_, _, _, _, _]) rfl) ?_
            refine HA_loud1 (i := 7) (by kernel_rfl) rfl ?_
            refine HO_append (i := 6) (R := [_, _, _, _, _, _]) rfl rfl rfl rfl rfl Try.underlying32 elt102 rfl rfl (SrcOk.own (j := 0) Try.underlying32 rfl rfl) ?_ ?_
            · (simp only [List.length_append, List.length_cons, List.length_nil]; have := hI.2.2.1 hwr; omega)
            intro a44 c44
            refine HA_back (listed' := #[true, true, true, true, true, true, true, true, false, false]) rfl (fun _ hA => hA.only (is := [4, 5]) (Y := [_, _]) (Z := [_, _, _, _, _]) rfl) ?_
            refine HA_take (i := 8) (listed' := #[true, true, true, true, true, true, true, true, true, false]) (bodyPost_pan _ _ _) rfl rfl rfl rfl (by kernel_rfl) rfl (V_fieldAddr (r := 4) rfl Try.underlying34 rfl Try.sizeOf32 rfl) (fun _ hA => hA.only (is := [4, 5]) (Y := [_, _]) (Z := [_, _, _, _, _]) rfl) ?_
            refine HA_loud1 (i := 9) (by kernel_rfl) rfl ?_
            refine HO_store (i := 6) (j := 0) (us := [_, _, _, _]) (old := [_]) (ts := []) (cs := [_]) (R := [_, _, _, _, _, _]) (new := [_, _, _, _, _]) rfl rfl rfl Try.sizeOf32 rfl (by simp [Value.oneCell']) rfl rfl rfl rfl rfl rfl ?_
            refine HA_back (listed' := #[true, true, true, true, true, true, true, true, true, true]) rfl (fun _ hA => hA.only (is := [5, 6]) (Y := [_, _]) (Z := [_, _, _, _, _]) rfl) ?_
            refine HA_done (by kernel_rfl) ?_
            refine H_env (ρ' := [(2, _), (4, _), (5, _), (6, _)]) ⟨rfl, rfl, rfl, rfl, trivial⟩ ?_
            refine H_world (fun _ hA => hA.drop (is := [2, 5]) (Y := [_, _]) (Z := [_, _, _, _, _]) rfl) ?_
            refine H_blk ?_
            -- R7 command.go:101
            refine H_region (l := [_, _, _]) rfl ?_
            refine HO_move rfl rfl rfl ?_
            refine HO_bin rfl rfl rfl rfl (bin_subu rfl ?_ ?_) ?_
            · (simp only [IntKind.bits]; omega)
            · (simp only [IntKind.bits]; omega)
            refine HO_assign rfl rfl rfl ?_
            refine HO_nil ?_
            refine H_env (ρ' := [(6, _), (2, _), (4, _), (5, _)]) ⟨rfl, rfl, rfl, rfl, trivial⟩ ?_
            refine H_inv (fun a w hf hA => ⟨⟨m, r8.2.1, r8.2.2, l ++ [⟨⟨r6.1.toArray⟩, ⟨r8.1.toArray⟩⟩], y41.1, y41.2, a44, c44⟩, ?_, ?_, hf.sub ?_, ?_⟩)
            · exact ⟨by dsimp only; exact Reply.next hI.1 hwr hr_r6 hr_r8, by dsimp only; omega, Reply.next_len hwr hI.2.2.1 hr_r6 hr_r8, by dsimp only; omega⟩
            · (try dsimp only); omega
            · exact ⟨rfl, rfl, rfl, rfl, trivial⟩
            · exact hA.only (is := [0, 0, 1, 0, 1]) (Z := []) rfl
      · intro h32
        (try simp only [decide_eq_true_eq, decide_eq_false_iff_not, Bool.not_eq_true', Bool.not_eq_false', Bool.not_eq_true, Bool.not_eq_false, Bool.true_eq_false, Bool.false_eq_true, not_false_eq_true, not_true_eq_false] at h32)
        refine H_exit rfl ?_
        refine H_seq ?_
        refine H_seq ?_
        -- R10 command.go:105
        have hps : Reply.pairsP r5.1 r5.2 = (l, (bs, wr)) := by first | exact Reply.done0 hI.1 (by omega) | exact Reply.doneW hI.1 h32
        have hp := Reply.parse_of hr_r1 hr_r2 hr_r3 hr_r4 hr_r5 hps
        refine H_region (l := [_, _, _]) rfl ?_
        refine HO_move rfl rfl rfl ?_
        refine HO_dup (i := 2) rfl rfl ?_
        refine HO_call (first := []) (capt := []) (is := [1, 0]) (R := [_, _, _, _]) rfl rfl rfl rfl rfl Try.call77 rfl (cEnd_spec _ _ _ _ _) ?_
        intro y47 hy47
        clear y47 hy47
        refine HO_not rfl rfl rfl ?_
        refine HO_nil ?_
        refine H_env (ρ' := [(48, _), (2, _), (5, _)]) ⟨rfl, rfl, rfl, trivial⟩ ?_
        refine H_world (fun _ hA => hA.drop (is := [0, 2]) (Y := [_, _]) (Z := [_, _, _]) rfl) ?_
        refine H_cond rfl ?_ ?_
        · intro h48
          (try simp only [decide_eq_true_eq, decide_eq_false_iff_not, Bool.not_eq_true', Bool.not_eq_false', Bool.not_eq_true, Bool.not_eq_false, Bool.true_eq_false, Bool.false_eq_true, not_false_eq_true, not_true_eq_false] at h48)
          refine H_seq ?_
          -- R11 command.go:106
          refine H_region (l := [_, _, _]) rfl ?_
          refine HO_build (xo := []) (vs := []) rfl rfl rfl rfl (bd34__) ?_
          refine HO_store (i := 0) (j := 0) (us := []) (old := [_, _, _, _, _]) (ts := []) (cs := [_, _, _, _, _]) (R := [_, _]) (new := [_, _, _, _, _]) rfl rfl rfl Try.sizeOf34 rfl (by simp [Value.oneCell']) rfl rfl rfl rfl rfl rfl ?_
          refine HO_assign rfl rfl rfl ?_
          refine HO_nil ?_
          refine H_env (ρ' := [(3, _), (2, _)]) ⟨rfl, rfl, trivial⟩ ?_
          refine H_world (fun _ hA => hA.drop (is := [1, 2]) (Y := [_, _]) (Z := [_]) rfl) ?_
          refine H_nilDat kPair ?_
          -- end1
          refine H_ret2 Try.results49 (.cell rfl (fun w hA => run_loadVarA (cs := [_, _, _, _, _]) (Try.isAgg34 w) (Try.sizeOf34 w) (Tells.cells (.loc _ _ _) (hA.get (i := 1) rfl)))) (.tmp rfl) (fun w hA => ⟨(none, 0), congrArg Ending.returned ?_, ?_, ?_⟩)
          · (first | (rw [Reply.read_good hp h48] <;> rfl) | (rw [Reply.read_bad hp h48] <;> rfl))
          · trivial
          · (first | (rw [Reply.read_good hp h48]; exact hA.only (is := [0]) (Z := [_]) rfl) | (rw [Reply.read_bad hp h48]; exact hA.only (is := [0]) (Z := [_]) rfl))
        · intro h48
          (try simp only [decide_eq_true_eq, decide_eq_false_iff_not, Bool.not_eq_true', Bool.not_eq_false', Bool.not_eq_true, Bool.not_eq_false, Bool.true_eq_false, Bool.false_eq_true, not_false_eq_true, not_true_eq_false] at h48)
          refine H_skip ?_
          refine H_seq ?_
          -- R12 command.go:108
          refine H_region (l := [_, _, _]) rfl ?_
          refine HO_loadA (i := 1) (us := []) (cs := [_, _, _, _, _]) (ts := []) rfl rfl rfl Try.isAgg34 Try.sizeOf34 rfl (.loc _ _ _) rfl rfl rfl rfl ?_
          refine HO_store (i := 0) (j := 0) (us := []) (old := [_, _, _, _, _]) (ts := []) (cs := [_, _, _, _, _]) (R := [_, _]) (new := [_, _, _, _, _]) rfl rfl rfl Try.sizeOf34 rfl (by simp [Value.oneCell']) rfl rfl rfl rfl rfl rfl ?_
          refine HO_assign rfl rfl rfl ?_
          refine HO_nil ?_
          refine H_env (ρ' := [(3, _), (2, _)]) ⟨rfl, rfl, trivial⟩ ?_
          refine H_world (fun _ hA => hA.drop (is := [1]) (Y := [_]) (Z := [_, _]) rfl) ?_
          refine H_freeze (i := 1) (R := [_]) rfl hMn ?_
          -- end2
          refine H_ret2 Try.results49 (.cell rfl (fun w hA => run_loadVarA (cs := [_, _, _, _, _]) (Try.isAgg34 w) (Try.sizeOf34 w) (Tells.cells (.loc _ _ _) (hA.get (i := 1) rfl)))) (.tmp rfl) (fun w hA => ⟨(p2, q2), congrArg Ending.returned ?_, ?_, ?_⟩)
          · (first | (rw [Reply.read_good hp h48] <;> rfl) | (rw [Reply.read_bad hp h48] <;> rfl))
          · trivial
          · (first | (rw [Reply.read_good hp h48]; exact hA.only (is := [0]) (Z := [_]) rfl) | (rw [Reply.read_bad hp h48]; exact hA.only (is := [0]) (Z := [_]) rfl))
    · intro h26
      (try simp only [decide_eq_true_eq, decide_eq_false_iff_not, Bool.not_eq_true', Bool.not_eq_false', Bool.not_eq_true, Bool.not_eq_false, Bool.true_eq_false, Bool.false_eq_true, not_false_eq_true, not_true_eq_false] at h26)
      refine HO_no rfl rfl rfl ?_
      refine HO_no rfl rfl rfl ?_
      refine HO_no rfl rfl rfl ?_
      refine HO_no rfl rfl rfl ?_
      refine HO_no rfl rfl rfl ?_
      refine HO_pick_f rfl rfl rfl rfl ?_
      refine HO_nil ?_
      refine H_env (ρ' := [(32, _), (2, _), (4, _), (5, _), (6, _)]) ⟨rfl, rfl, rfl, rfl, rfl, trivial⟩ ?_
      refine H_cond rfl (fun h => nomatch h) (fun _ => ?_)
      refine H_exit rfl ?_
      refine H_seq ?_
      refine H_seq ?_
      -- R10 command.go:105
      have hps : Reply.pairsP r5.1 r5.2 = (l, (bs, wr)) := by first | exact Reply.done0 hI.1 (by omega) | exact Reply.doneW hI.1 h32
      have hp := Reply.parse_of hr_r1 hr_r2 hr_r3 hr_r4 hr_r5 hps
      refine H_region (l := [_, _, _]) rfl ?_
      refine HO_move rfl rfl rfl ?_
      refine HO_dup (i := 2) rfl rfl ?_
      refine HO_call (first := []) (capt := []) (is := [1, 0]) (R := [_, _, _, _]) rfl rfl rfl rfl rfl Try.call77 rfl (cEnd_spec _ _ _ _ _) ?_
      intro y47 hy47
      clear y47 hy47
      refine HO_not rfl rfl rfl ?_
      refine HO_nil ?_
      refine H_env (ρ' := [(48, _), (2, _), (5, _)]) ⟨rfl, rfl, rfl, trivial⟩ ?_
      refine H_world (fun _ hA => hA.drop (is := [0, 2]) (Y := [_, _]) (Z := [_, _, _]) rfl) ?_
      refine H_cond rfl ?_ ?_
      · intro h48
        (try simp only [decide_eq_true_eq, decide_eq_false_iff_not, Bool.not_eq_true', Bool.not_eq_false', Bool.not_eq_true, Bool.not_eq_false, Bool.true_eq_false, Bool.false_eq_true, not_false_eq_true, not_true_eq_false] at h48)
        refine H_seq ?_
        -- R11 command.go:106
        refine H_region (l := [_, _, _]) rfl ?_
        refine HO_build (xo := []) (vs := []) rfl rfl rfl rfl (bd34__) ?_
        refine HO_store (i := 0) (j := 0) (us := []) (old := [_, _, _, _, _]) (ts := []) (cs := [_, _, _, _, _]) (R := [_, _]) (new := [_, _, _, _, _]) rfl rfl rfl Try.sizeOf34 rfl (by simp [Value.oneCell']) rfl rfl rfl rfl rfl rfl ?_
        refine HO_assign rfl rfl rfl ?_
        refine HO_nil ?_
        refine H_env (ρ' := [(3, _), (2, _)]) ⟨rfl, rfl, trivial⟩ ?_
        refine H_world (fun _ hA => hA.drop (is := [1, 2]) (Y := [_, _]) (Z := [_]) rfl) ?_
        refine H_nilDat kPair ?_
        -- end3
        refine H_ret2 Try.results49 (.cell rfl (fun w hA => run_loadVarA (cs := [_, _, _, _, _]) (Try.isAgg34 w) (Try.sizeOf34 w) (Tells.cells (.loc _ _ _) (hA.get (i := 1) rfl)))) (.tmp rfl) (fun w hA => ⟨(none, 0), congrArg Ending.returned ?_, ?_, ?_⟩)
        · (first | (rw [Reply.read_good hp h48] <;> rfl) | (rw [Reply.read_bad hp h48] <;> rfl))
        · trivial
        · (first | (rw [Reply.read_good hp h48]; exact hA.only (is := [0]) (Z := [_]) rfl) | (rw [Reply.read_bad hp h48]; exact hA.only (is := [0]) (Z := [_]) rfl))
      · intro h48
        (try simp only [decide_eq_true_eq, decide_eq_false_iff_not, Bool.not_eq_true', Bool.not_eq_false', Bool.not_eq_true, Bool.not_eq_false, Bool.true_eq_false, Bool.false_eq_true, not_false_eq_true, not_true_eq_false] at h48)
        refine H_skip ?_
        refine H_seq ?_
        -- R12 command.go:108
        refine H_region (l := [_, _, _]) rfl ?_
        refine HO_loadA (i := 1) (us := []) (cs := [_, _, _, _, _]) (ts := []) rfl rfl rfl Try.isAgg34 Try.sizeOf34 rfl (.loc _ _ _) rfl rfl rfl rfl ?_
        refine HO_store (i := 0) (j := 0) (us := []) (old := [_, _, _, _, _]) (ts := []) (cs := [_, _, _, _, _]) (R := [_, _]) (new := [_, _, _, _, _]) rfl rfl rfl Try.sizeOf34 rfl (by simp [Value.oneCell']) rfl rfl rfl rfl rfl rfl ?_
        refine HO_assign rfl rfl rfl ?_
        refine HO_nil ?_
        refine H_env (ρ' := [(3, _), (2, _)]) ⟨rfl, rfl, trivial⟩ ?_
        refine H_world (fun _ hA => hA.drop (is := [1]) (Y := [_]) (Z := [_, _]) rfl) ?_
        refine H_freeze (i := 1) (R := [_]) rfl hMn ?_
        -- end4
        refine H_ret2 Try.results49 (.cell rfl (fun w hA => run_loadVarA (cs := [_, _, _, _, _]) (Try.isAgg34 w) (Try.sizeOf34 w) (Tells.cells (.loc _ _ _) (hA.get (i := 1) rfl)))) (.tmp rfl) (fun w hA => ⟨(p2, q2), congrArg Ending.returned ?_, ?_, ?_⟩)
        · (first | (rw [Reply.read_good hp h48] <;> rfl) | (rw [Reply.read_bad hp h48] <;> rfl))
        · trivial
        · (first | (rw [Reply.read_good hp h48]; exact hA.only (is := [0]) (Z := [_]) rfl) | (rw [Reply.read_bad hp h48]; exact hA.only (is := [0]) (Z := [_]) rfl))
end Go.Wk
