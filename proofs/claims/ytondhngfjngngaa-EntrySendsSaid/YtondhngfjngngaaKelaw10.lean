/- Contracts of the program's functions, each proved by walking its code. -/
import Derived.Test.YtondhngfjngngaaKeent2
import Derived.Test.YtondhngfjngngaaEnt
set_option maxRecDepth 100000
set_option linter.unusedVariables false
set_option linter.unusedSimpArgs false
namespace Go.Wk.Flaw10
open Go Go.RowKit Go.Proofs Go.Wk
theorem elt3 : Elt Try.prog 3 (.int .i64 (0)) 1 8 := Elt.of (by kernel_rfl) (by rfl) (by decide) (by decide)
theorem elt5 : Elt Try.prog 5 (.int .u8 (0)) 1 1 := Elt.of (by kernel_rfl) (by rfl) (by decide) (by decide)
theorem bd45__  : ∀ w, (Instr.build 45 (List.toArray (List.zip [] []))).run Try.prog w = .ok (.agg #[.slice none 0 0, .slice none 0 0]) w := fun _ => by kernel_rfl
theorem bd45_0_s {a1 : Option Addr} {n1 c1 : Nat} : ∀ w, (Instr.build 45 (List.toArray (List.zip [0] [.slice a1 n1 c1]))).run Try.prog w = .ok (.agg #[.slice a1 n1 c1, .slice none 0 0]) w := fun _ => by kernel_rfl
theorem bd61_0_1_2_iii {x1 : Int} {x2 : Int} {x3 : Int} : ∀ w, (Instr.build 61 (List.toArray (List.zip [0, 1, 2] [.int .i64 x1, .int .i64 x2, .int .i64 x3]))).run Try.prog w = .ok (.agg #[.int .i64 x1, .int .i64 x2, .int .i64 x3, .int .i64 (0), .int .i64 (0), .int .i64 (0), .string (⟨#[]⟩), .string (⟨#[]⟩), .string (⟨#[]⟩), .string (⟨#[]⟩), .int .i64 (0), .slice none 0 0, .slice none 0 0]) w := fun _ => by kernel_rfl
end Go.Wk.Flaw10
namespace Go.Wk
open Go Go.RowKit Go.Proofs Flaw10 
theorem weight_spec (ix te ki : Int) (ck cs sq : Int) (ke ol cv ti : ByteArray) (li : Int) (vo le : List Int) (a1 : Option Addr) (c1 : Nat) (a2 : Option Addr) (c2 : Nat) (z0 : ke.size ≤ BIG) (z1 : ol.size ≤ BIG) (z2 : cv.size ≤ BIG) (z3 : ti.size ≤ BIG) (n1 : vo.length ≤ BIG) (n2 : le.length ≤ BIG) : Spec Try.prog 41 #[.agg #[.int .i64 (ix), .int .i64 (te), .int .i64 (ki), .int .i64 (ck), .int .i64 (cs), .int .i64 (sq), .string (ke), .string (ol), .string (cv), .string (ti), .int .i64 (li), .slice a1 (vo.length) c1, .slice a2 (le.length) c2]] [.dat kInt.sl (vo) [.slice a1 (vo.length) c1], .dat kInt.sl (le) [.slice a2 (le.length) c2]] (β := Unit) (fun y => .int .i64 (Ent.weight ⟨ix, te, ki, ⟨ck, cs, sq, ke, ol, cv, ti, li⟩, ⟨vo, le⟩⟩)) (fun y => True) (fun y => []) := by
  (try simp only [BIG] at z0 z1 z2 z3 n1 n2)
  refine Spec.enter (vs := [_]) Try.func41 rfl Try.ntmps41 rfl (Nat.le_of_ble_eq_true rfl) (fun w0 ok0 => ?_)
  generalize hM0 : blks _ = M0
  have hMn : ∀ {R : List Atom} (b : Nat), M0 b → blks R b := fun b hb => absurd (hM0 ▸ hb) (blks_none (by simp [Atom.dat, Atom.elem]) b)
  refine H_len_le (i := 0) rfl ?_
  intro hlen0
  refine H_len_le (i := 1) rfl ?_
  intro hlen1
  refine H_seq ?_
  -- R0 law.go:18
  refine H_region (l := [_, _]) rfl ?_
  refine HO_box (cs := [_, _, _, _, _, _, _, _, _, _, _, _, _]) rfl rfl rfl rfl ?_
  intro g1
  refine HO_assign rfl rfl rfl ?_
  refine HO_nil ?_
  refine H_env (ρ' := [(1, _)]) ⟨rfl, trivial⟩ ?_
  refine H_seq ?_
  -- R1 law.go:19
  refine H_region (l := [_, _, _, _]) rfl ?_
  refine HO_fieldAddr (r := 3) rfl rfl rfl Try.underlying61 rfl Try.sizeOf23 rfl ?_
  refine HO_loadA (i := 0) (us := [_, _, _]) (cs := [_, _, _, _, _, _, _, _]) (ts := [_, _]) rfl rfl rfl Try.isAgg23 Try.sizeOf23 rfl (.loc _ _ _) rfl rfl rfl rfl ?_
  refine HO_alloc (cs := [_, _, _, _, _, _, _, _]) rfl rfl Try.zeroValue23 rfl ?_
  intro g3
  refine HO_store (i := 0) (j := 0) (us := []) (old := [_, _, _, _, _, _, _, _]) (ts := []) (cs := [_, _, _, _, _, _, _, _]) (R := [_, _, _]) (new := [_, _, _, _, _, _, _, _]) rfl rfl rfl Try.sizeOf23 rfl (by simp [Value.oneCell']) rfl rfl rfl rfl rfl rfl ?_
  refine HO_nil ?_
  refine H_env (ρ' := [(3, _), (1, _)]) ⟨rfl, rfl, trivial⟩ ?_
  refine H_seq ?_
  -- R2 law.go:20
  refine H_region (l := [_, _, _, _, _, _, _, _, _, _, _, _, _, _, _, _, _, _, _, _, _, _, _, _, _, _, _, _]) rfl ?_
  refine HO_fieldAddr (r := 3) rfl rfl rfl Try.underlying23 rfl Try.sizeOf9 rfl ?_
  refine HO_load1 (i := 0) (j := 3) rfl rfl rfl Try.isAgg9 rfl (.loc _ _ _) rfl rfl ?_
  refine HO_bi rfl rfl rfl (bi_len_str Try.underlying9) ?_
  refine HO_fieldAddr (r := 4) rfl rfl rfl Try.underlying23 rfl Try.sizeOf9 rfl ?_
  refine HO_load1 (i := 0) (j := 4) rfl rfl rfl Try.isAgg9 rfl (.loc _ _ _) rfl rfl ?_
  refine HO_bi rfl rfl rfl (bi_len_str Try.underlying9) ?_
  refine HO_bin rfl rfl rfl rfl (bin_add ?_ ?_) ?_
  · omega
  · omega
  refine HO_fieldAddr (r := 5) rfl rfl rfl Try.underlying23 rfl Try.sizeOf9 rfl ?_
  refine HO_load1 (i := 0) (j := 5) rfl rfl rfl Try.isAgg9 rfl (.loc _ _ _) rfl rfl ?_
  refine HO_bi rfl rfl rfl (bi_len_str Try.underlying9) ?_
  refine HO_bin rfl rfl rfl rfl (bin_add ?_ ?_) ?_
  · omega
  · omega
  refine HO_fieldAddr (r := 6) rfl rfl rfl Try.underlying23 rfl Try.sizeOf9 rfl ?_
  refine HO_load1 (i := 0) (j := 6) rfl rfl rfl Try.isAgg9 rfl (.loc _ _ _) rfl rfl ?_
  refine HO_bi rfl rfl rfl (bi_len_str Try.underlying9) ?_
  refine HO_bin rfl rfl rfl rfl (bin_add ?_ ?_) ?_
  · omega
  · omega
  refine HO_bin rfl rfl rfl rfl (bin_quo ?_ ?_ ?_) ?_
  · omega
  · omega
  · omega
  refine HO_bin rfl rfl rfl rfl (bin_add ?_ ?_) ?_
  · omega
  · omega
  refine HO_fieldAddr (r := 11) rfl rfl rfl Try.underlying61 rfl Try.sizeOf45 rfl ?_
  refine HO_fieldAddr (r := 11) rfl rfl rfl Try.underlying45 rfl Try.sizeOf43 rfl ?_
  refine HO_load1 (i := 1) (j := 11) rfl rfl rfl Try.isAgg43 rfl (.loc _ _ _) rfl rfl ?_
  refine HO_bi rfl rfl rfl (bi_len_sl Try.underlying43) ?_
  refine HO_bin rfl rfl rfl rfl (bin_add ?_ ?_) ?_
  · omega
  · omega
  refine HO_fieldAddr (r := 11) rfl rfl rfl Try.underlying61 rfl Try.sizeOf45 rfl ?_
  refine HO_fieldAddr (r := 12) rfl rfl rfl Try.underlying45 rfl Try.sizeOf43 rfl ?_
  refine HO_load1 (i := 1) (j := 12) rfl rfl rfl Try.isAgg43 rfl (.loc _ _ _) rfl rfl ?_
  refine HO_bi rfl rfl rfl (bi_len_sl Try.underlying43) ?_
  refine HO_bin rfl rfl rfl rfl (bin_add ?_ ?_) ?_
  · omega
  · omega
  refine HO_assign rfl rfl rfl ?_
  refine HO_nil ?_
  refine H_env (ρ' := [(2, _)]) ⟨rfl, trivial⟩ ?_
  refine H_world (fun _ hA => hA.drop (is := [0, 1, 2, 3]) (Y := [_, _, _, _]) (Z := []) rfl) ?_
  -- end1
  refine H_ret1 Try.results41 (.tmp rfl) (fun w hA => ⟨(), congrArg Ending.returned ?_, ?_, ?_⟩)
  · rfl
  · trivial
  · exact hA.only (is := []) (Z := []) rfl
theorem few10_spec (mk mf mt me mi ml mc mr : Int) (rj : Bool) (hi : Int) (es : List Ent) (a9 : Option Addr) (c9 : Nat) (ix te : Int) (vo le : List Int) (a1 : Option Addr) (c1 : Nat) (a2 : Option Addr) (c2 : Nat) (da : List UInt8) (a3 : Option Addr) (c3 : Nat) (nd : da.length ≤ BIG) (n1 : vo.length ≤ BIG) (n2 : le.length ≤ BIG) : Spec Try.prog 30 #[.agg #[.int .i64 (mk), .int .i64 (mf), .int .i64 (mt), .int .i64 (me), .int .i64 (mi), .int .i64 (ml), .int .i64 (mc), .int .i64 (mr), .bool (rj), .int .i64 (hi), .slice a9 (es.length) c9, .int .i64 (ix), .int .i64 (te), .slice a1 (vo.length) c1, .slice a2 (le.length) c2, .slice a3 (da.length) c3]] [.dat kEnt.sl (es) [.slice a9 (es.length) c9], .dat kInt.sl (vo) [.slice a1 (vo.length) c1], .dat kInt.sl (le) [.slice a2 (le.length) c2], .dat kByte.sl (da) [.slice a3 (da.length) c3]] (β := Unit) (fun y => .bool (Ent.few es ⟨ix, te, ⟨vo, le⟩, da⟩)) (fun y => True) (fun y => []) := by
  (try simp only [BIG] at nd n1 n2)
  refine Spec.enter (vs := [_]) Try.func30 rfl Try.ntmps30 rfl (Nat.le_of_ble_eq_true rfl) (fun w0 ok0 => ?_)
  generalize hM0 : blks _ = M0
  have hMn : ∀ {R : List Atom} (b : Nat), M0 b → blks R b := fun b hb => absurd (hM0 ▸ hb) (blks_none (by simp [Atom.dat, Atom.elem]) b)
  refine H_len_le (i := 0) rfl ?_
  intro hlen0
  refine H_len_le (i := 1) rfl ?_
  intro hlen1
  refine H_len_le (i := 2) rfl ?_
  intro hlen2
  refine H_seq ?_
  -- R0 law.go:24
  refine H_region (l := [_, _]) rfl ?_
  refine HO_box (cs := [_, _, _, _, _, _, _, _, _, _, _, _, _, _, _, _]) rfl rfl rfl rfl ?_
  intro g1
  refine HO_assign rfl rfl rfl ?_
  refine HO_nil ?_
  refine H_env (ρ' := [(1, _)]) ⟨rfl, trivial⟩ ?_
  refine H_seq ?_
  -- R1 law.go:25
  refine H_region (l := [_, _, _, _, _, _, _, _, _, _, _, _, _, _, _, _, _, _]) rfl ?_
  refine HO_fieldAddr (r := 11) rfl rfl rfl Try.underlying53 rfl Try.sizeOf47 rfl ?_
  refine HO_fieldAddr (r := 15) rfl rfl rfl Try.underlying47 rfl Try.sizeOf28 rfl ?_
  refine HO_load1 (i := 0) (j := 15) rfl rfl rfl Try.isAgg28 rfl (.loc _ _ _) rfl rfl ?_
  refine HO_bi rfl rfl rfl (bi_len_sl Try.underlying28) ?_
  refine HO_bin rfl rfl rfl rfl (bin_quo ?_ ?_ ?_) ?_
  · omega
  · omega
  · omega
  refine HO_fieldAddr (r := 11) rfl rfl rfl Try.underlying53 rfl Try.sizeOf47 rfl ?_
  refine HO_fieldAddr (r := 13) rfl rfl rfl Try.underlying47 rfl Try.sizeOf45 rfl ?_
  refine HO_fieldAddr (r := 13) rfl rfl rfl Try.underlying45 rfl Try.sizeOf43 rfl ?_
  refine HO_load1 (i := 0) (j := 13) rfl rfl rfl Try.isAgg43 rfl (.loc _ _ _) rfl rfl ?_
  refine HO_bi rfl rfl rfl (bi_len_sl Try.underlying43) ?_
  refine HO_bin rfl rfl rfl rfl (bin_add ?_ ?_) ?_
  · omega
  · omega
  refine HO_fieldAddr (r := 11) rfl rfl rfl Try.underlying53 rfl Try.sizeOf47 rfl ?_
  refine HO_fieldAddr (r := 13) rfl rfl rfl Try.underlying47 rfl Try.sizeOf45 rfl ?_
  refine HO_fieldAddr (r := 14) rfl rfl rfl Try.underlying45 rfl Try.sizeOf43 rfl ?_
  refine HO_load1 (i := 0) (j := 14) rfl rfl rfl Try.isAgg43 rfl (.loc _ _ _) rfl rfl ?_
  refine HO_bi rfl rfl rfl (bi_len_sl Try.underlying43) ?_
  refine HO_bin rfl rfl rfl rfl (bin_add ?_ ?_) ?_
  · omega
  · omega
  refine HO_assign rfl rfl rfl ?_
  refine HO_nil ?_
  refine H_env (ρ' := [(3, _), (1, _)]) ⟨rfl, rfl, trivial⟩ ?_
  refine H_seq ?_
  refine H_seq ?_
  -- R2 law.go:26
  have hf0 : 0 ≤ Ent.fewS ⟨ix, te, ⟨vo, le⟩, da⟩ ∧ Ent.fewS ⟨ix, te, ⟨vo, le⟩, da⟩ ≤ 422212465053696 := by unfold Ent.fewS; dsimp only; omega
  refine H_region (l := [_, _, _, _]) rfl ?_
  refine HO_fieldAddr (r := 10) rfl rfl rfl Try.underlying53 rfl Try.sizeOf51 rfl ?_
  refine HO_load1 (i := 0) (j := 10) rfl rfl rfl Try.isAgg51 rfl (.loc _ _ _) rfl rfl ?_
  refine HO_bi rfl rfl rfl (bi_len_sl Try.underlying51) ?_
  refine HO_move rfl rfl rfl ?_
  refine HO_nil ?_
  refine H_env (ρ' := [(26, _), (25, _), (24, _), (3, _)]) ⟨rfl, rfl, rfl, rfl, trivial⟩ ?_
  refine H_world (fun _ hA => hA.drop (is := [0, 2, 3, 4]) (Y := [_, _, _, _]) (Z := [_]) rfl) ?_
  refine H_block ?_
  refine H_loop (σ := Nat × Int) (fun s => s.1 ≤ es.length ∧ s.2 = Ent.fewS ⟨ix, te, ⟨vo, le⟩, da⟩ + Ent.wsum (es.take s.1) ∧ 0 ≤ s.2 ∧ s.2 ≤ 422212465053696) (fun s => [(3, .int .i64 (s.2)), (24, .slice a9 (es.length) c9), (25, .int .i64 ((es.length : Int))), (26, .int .i64 ((s.1 : Int)))]) (fun s => Asn w0 ok0 M0 [.dat kEnt.sl (es) [.slice a9 (es.length) c9]]) (fun s => es.length - s.1) ⟨0, Ent.fewS ⟨ix, te, ⟨vo, le⟩, da⟩⟩ ?_ ?_ ?_ ?_
  · exact ⟨Nat.zero_le _, by simp [Ent.wsum], hf0⟩
  · exact ⟨rfl, rfl, rfl, rfl, trivial⟩
  · intro w hA
    exact hA.only (is := [0]) (Z := []) rfl
  · rintro ⟨i, n⟩ hI
    (try dsimp only at hI ⊢)
    refine H_seq ?_
    -- R3 law.go:26
    refine H_region (l := [_]) rfl ?_
    refine HO_bin rfl rfl rfl rfl bin_lss ?_
    refine HO_nil ?_
    refine H_seq ?_
    refine H_cond rfl ?_ ?_
    · intro h27
      (try simp only [decide_eq_true_eq, decide_eq_false_iff_not, Bool.not_eq_true', Bool.not_eq_false', Bool.not_eq_true, Bool.not_eq_false, Bool.true_eq_false, Bool.false_eq_true, not_false_eq_true, not_true_eq_false] at h27)
      refine H_skip ?_
      refine H_seq ?_
      refine H_block ?_
      refine H_seq ?_
      -- R4 law.go:26
      refine H_region (l := [_, _, _, _]) rfl ?_
      refine HO_indexAddr open_Ent (i := 0) rfl rfl rfl rfl rfl Try.underlying51 Try.sizeOf61 rfl ?_ ?_
      · omega
      intro b28 o28 z28 y28 hz28 hI28
      (try simp only [BIG] at hI28)
      refine HO_loadA (i := 0) (us := []) (cs := [_, _, _, _, _, _, _, _, _, _, _, _, _]) (ts := []) rfl rfl rfl Try.isAgg61 Try.sizeOf61 rfl (.elem _ _ _) rfl rfl rfl rfl ?_
      refine HO_alloc (cs := [_, _, _, _, _, _, _, _, _, _, _, _, _]) rfl rfl Try.zeroValue61 rfl ?_
      intro g5
      refine HO_store (i := 0) (j := 0) (us := []) (old := [_, _, _, _, _, _, _, _, _, _, _, _, _]) (ts := []) (cs := [_, _, _, _, _, _, _, _, _, _, _, _, _]) (R := [_, _, _, _]) (new := [_, _, _, _, _, _, _, _, _, _, _, _, _]) rfl rfl rfl Try.sizeOf61 rfl (by simp [Value.oneCell']) rfl rfl rfl rfl rfl rfl ?_
      refine HO_nil ?_
      refine H_env (ρ' := [(5, _), (3, _), (24, _), (25, _), (26, _)]) ⟨rfl, rfl, rfl, rfl, rfl, trivial⟩ ?_
      refine H_world (fun _ hA => hA.drop (is := [1]) (Y := [_]) (Z := [_, _, _, _]) rfl) ?_
      refine H_seq ?_
      -- R5 law.go:27
      refine H_region (l := [_, _, _, _, _]) rfl ?_
      refine HO_move rfl rfl rfl ?_
      refine HO_loadA (i := 0) (us := []) (cs := [_, _, _, _, _, _, _, _, _, _, _, _, _]) (ts := []) rfl rfl rfl Try.isAgg61 Try.sizeOf61 rfl (.loc _ _ _) rfl rfl rfl rfl ?_
      refine HO_dup (i := 1) rfl rfl ?_
      refine HO_dup (i := 3) rfl rfl ?_
      refine HO_call (first := []) (capt := []) (is := [0, 0]) (R := [_, _, _, _]) rfl rfl rfl rfl rfl Try.call41 rfl (weight_spec _ _ _ _ _ _ _ _ _ _ _ _ _ _ _ _ _ ?_ ?_ ?_ ?_ ?_ ?_) ?_
      · (dsimp only [BIG]; omega)
      · (dsimp only [BIG]; omega)
      · (dsimp only [BIG]; omega)
      · (dsimp only [BIG]; omega)
      · (dsimp only [BIG]; omega)
      · (dsimp only [BIG]; omega)
      intro y32 hy32
      clear y32 hy32
      refine HO_set (v' := .int .i64 (Ent.weight z28)) 32 rfl (by rfl) ?_
      have hwz : Ent.weight z28 ≤ 844424930107392 ∧ 1 ≤ Ent.weight z28 := by refine ⟨?_, Ent.weight_pos _⟩; unfold Ent.weight; omega
      refine HO_bin rfl rfl rfl rfl (bin_add ?_ ?_) ?_
      · omega
      · omega
      refine HO_assign rfl rfl rfl ?_
      refine HO_nil ?_
      refine H_env (ρ' := [(3, _), (24, _), (25, _), (26, _)]) ⟨rfl, rfl, rfl, rfl, trivial⟩ ?_
      refine H_world (fun _ hA => hA.drop (is := [0, 1, 2]) (Y := [_, _, _]) (Z := [_]) rfl) ?_
      refine H_seq ?_
      -- R6 law.go:28
      refine H_region (l := [_, _]) rfl ?_
      refine HO_move rfl rfl rfl ?_
      refine HO_bin rfl rfl rfl rfl bin_gtr ?_
      refine HO_nil ?_
      refine H_env (ρ' := [(35, _), (3, _), (24, _), (25, _), (26, _)]) ⟨rfl, rfl, rfl, rfl, rfl, trivial⟩ ?_
      refine H_cond rfl ?_ ?_
      · intro h35
        (try simp only [decide_eq_true_eq, decide_eq_false_iff_not, Bool.not_eq_true', Bool.not_eq_false', Bool.not_eq_true, Bool.not_eq_false, Bool.true_eq_false, Bool.false_eq_true, not_false_eq_true, not_true_eq_false] at h35)
        refine H_seq ?_
        -- R7 law.go:29
        refine H_region (l := [_]) rfl ?_
        refine HO_assign rfl rfl rfl ?_
        refine HO_nil ?_
        refine H_env (ρ' := [(2, _)]) ⟨rfl, trivial⟩ ?_
        refine H_world (fun _ hA => hA.drop (is := [0]) (Y := [_]) (Z := []) rfl) ?_
        -- end1
        refine H_ret1 Try.results30 (.tmp rfl) (fun w hA => ⟨(), congrArg Ending.returned ?_, ?_, ?_⟩)
        · (exact congrArg Value.bool (Ent.few_no hz28 hI.2.1 h35))
        · trivial
        · exact hA.only (is := []) (Z := []) rfl
      · intro h35
        (try simp only [decide_eq_true_eq, decide_eq_false_iff_not, Bool.not_eq_true', Bool.not_eq_false', Bool.not_eq_true, Bool.not_eq_false, Bool.true_eq_false, Bool.false_eq_true, not_false_eq_true, not_true_eq_false] at h35)
        refine H_skip ?_
        refine H_blk ?_
        -- R8 law.go:26
        refine H_region (l := [_, _]) rfl ?_
        refine HO_bin rfl rfl rfl rfl (bin_add ?_ ?_) ?_
        · omega
        · omega
        refine HO_move rfl rfl rfl ?_
        refine HO_nil ?_
        refine H_env (ρ' := [(26, _), (3, _), (24, _), (25, _)]) ⟨rfl, rfl, rfl, rfl, trivial⟩ ?_
        refine H_inv (fun a w hf hA => ⟨⟨i + 1, n + Ent.weight z28⟩, ?_, ?_, hf.sub ?_, ?_⟩)
        · exact ⟨by omega, by rw [hI.2.1, Ent.wsum_next hz28]; omega, by dsimp only; omega, by dsimp only; omega⟩
        · (try dsimp only); omega
        · exact ⟨rfl, rfl, rfl, rfl, trivial⟩
        · exact hA.only (is := [0]) (Z := []) rfl
    · intro h27
      (try simp only [decide_eq_true_eq, decide_eq_false_iff_not, Bool.not_eq_true', Bool.not_eq_false', Bool.not_eq_true, Bool.not_eq_false, Bool.true_eq_false, Bool.false_eq_true, not_false_eq_true, not_true_eq_false] at h27)
      refine H_exit rfl ?_
      refine H_seq ?_
      -- R9 law.go:32
      refine H_region (l := [_, _, _]) rfl ?_
      refine HO_move rfl rfl rfl ?_
      refine HO_bin rfl rfl rfl rfl bin_leq ?_
      refine HO_assign rfl rfl rfl ?_
      refine HO_nil ?_
      refine H_env (ρ' := [(2, _)]) ⟨rfl, trivial⟩ ?_
      refine H_world (fun _ hA => hA.drop (is := [0]) (Y := [_]) (Z := []) rfl) ?_
      obtain rfl : i = es.length := by omega
      -- end2
      refine H_ret1 Try.results30 (.tmp rfl) (fun w hA => ⟨(), congrArg Ending.returned ?_, ?_, ?_⟩)
      · (exact congrArg Value.bool (by unfold Ent.few; rw [hI.2.1, List.take_length]))
      · trivial
      · exact hA.only (is := []) (Z := []) rfl
theorem lives10_spec  : Spec Try.prog 31 #[] [] (β := Unit) (fun y => .bool (true)) (fun y => True) (fun y => []) := by
  refine Spec.enter (vs := []) Try.func31 rfl Try.ntmps31 rfl (Nat.le_of_ble_eq_true rfl) (fun w0 ok0 => ?_)
  generalize hM0 : blks _ = M0
  have hMn : ∀ {R : List Atom} (b : Nat), M0 b → blks R b := fun b hb => absurd (hM0 ▸ hb) (blks_none (by simp [Atom.dat, Atom.elem]) b)
  refine H_seq ?_
  -- R0 law.go:12
  refine H_region (l := [_]) rfl ?_
  refine HO_assign rfl rfl rfl ?_
  refine HO_nil ?_
  refine H_env (ρ' := []) trivial ?_
  refine H_seq ?_
  -- R1 law.go:13
  refine H_region (l := [_, _, _]) rfl ?_
  refine HO_build (xo := [(0, _), (1, _), (2, _)]) (vs := [_, _, _]) rfl rfl rfl rfl (bd61_0_1_2_iii) ?_
  refine HO_alloc (cs := [_, _, _, _, _, _, _, _, _, _, _, _, _]) rfl rfl Try.zeroValue61 rfl ?_
  intro g1
  refine HO_store (i := 0) (j := 0) (us := []) (old := [_, _, _, _, _, _, _, _, _, _, _, _, _]) (ts := []) (cs := [_, _, _, _, _, _, _, _, _, _, _, _, _]) (R := []) (new := [_, _, _, _, _, _, _, _, _, _, _, _, _]) rfl rfl rfl Try.sizeOf61 rfl (by simp [Value.oneCell']) rfl rfl rfl rfl rfl rfl ?_
  refine HO_nil ?_
  refine H_env (ρ' := [(1, _)]) ⟨rfl, trivial⟩ ?_
  refine H_seq ?_
  -- R2 law.go:14
  refine H_region (l := [_, _, _, _, _, _, _, _, _, _, _, _, _, _, _, _, _, _, _]) rfl ?_
  refine HO_loadA (i := 0) (us := []) (cs := [_, _, _, _, _, _, _, _, _, _, _, _, _]) (ts := []) rfl rfl rfl Try.isAgg61 Try.sizeOf61 rfl (.loc _ _ _) rfl rfl rfl rfl ?_
  refine HO_nilDat kInt ?_
  refine HO_nilDat kInt ?_
  refine HO_dup (i := 1) rfl rfl ?_
  refine HO_dup (i := 1) rfl rfl ?_
  refine HO_call (first := []) (capt := []) (is := [0, 0]) (R := [_, _, _]) rfl rfl rfl rfl rfl Try.call39 rfl (entgood_spec _ _ _ _ _ _ _ _ _ _ _ _ _ _ _ _ _ ?_ ?_) ?_
  · (first | omega | assumption | decide)
  · (first | omega | assumption | decide)
  intro y4 hy4
  clear y4 hy4
  refine HO_move rfl rfl rfl ?_
  refine HO_split (d := 5) rfl ?_ ?_
  · intro h5
    (try simp only [decide_eq_true_eq, decide_eq_false_iff_not, Bool.not_eq_true', Bool.not_eq_false', Bool.not_eq_true, Bool.not_eq_false, Bool.true_eq_false, Bool.false_eq_true, not_false_eq_true, not_true_eq_false] at h5)
    refine HO_loadA (i := 2) (us := []) (cs := [_, _, _, _, _, _, _, _, _, _, _, _, _]) (ts := []) rfl rfl rfl Try.isAgg61 Try.sizeOf61 rfl (.loc _ _ _) rfl rfl rfl rfl ?_
    refine HO_nilDat kInt ?_
    refine HO_nilDat kInt ?_
    refine HO_dup (i := 1) rfl rfl ?_
    refine HO_dup (i := 1) rfl rfl ?_
    refine HO_call (first := []) (capt := []) (is := [0, 0]) (R := [_, _, _, _, _]) rfl rfl rfl rfl rfl Try.call44 rfl (entbytes_spec _ _ _ _ _ _ _ _ _ _ _ _ _ _ _ _ _ ?_ ?_ ?_ ?_) ?_
    · (first | omega | assumption | decide)
    · (first | omega | assumption | decide)
    · (first | omega | assumption | decide)
    · (first | omega | assumption | decide)
    intro y7 hy7
    refine HO_buildSlice (kd := kByte) (xo := [_, _, _]) (vs := [_, _, _]) (cs := [_, _, _]) (xs := [2, 2, 2]) rfl rfl rfl rfl Try.underlying28 elt5 rfl rfl rfl (by decide) (by decide) (by simp [Value.cells]) rfl (fun _ _ _ => ⟨_, _, rfl, ⟨rfl, trivial⟩, ⟨_, _, rfl, ⟨rfl, trivial⟩, ⟨_, _, rfl, ⟨rfl, trivial⟩, rfl⟩⟩⟩) ?_
    intro g8
    refine HO_dup (i := 1) rfl rfl ?_
    refine HO_call (first := []) (capt := []) (is := [0, 1]) (R := [_, _, _, _, _, _]) rfl rfl rfl rfl rfl Try.call22 rfl (Spec.lend (pre1 := [_]) (pre2 := []) (rsame_spec _ _ _ _ _ _) rfl (fun _ _ ha => nomatch ha)) ?_
    intro y9 hy9
    clear y9 hy9
    refine HO_pick_t rfl rfl rfl rfl ?_
    refine HO_move rfl rfl rfl ?_
    refine HO_split (d := 11) rfl ?_ ?_
    · intro h11
      (try simp only [decide_eq_true_eq, decide_eq_false_iff_not, Bool.not_eq_true', Bool.not_eq_false', Bool.not_eq_true, Bool.not_eq_false, Bool.true_eq_false, Bool.false_eq_true, not_false_eq_true, not_true_eq_false] at h11)
      refine HO_build (xo := []) (vs := []) rfl rfl rfl rfl (bd45__) ?_
      refine HO_nilDat kInt ?_
      refine HO_nilDat kInt ?_
      refine HO_dup (i := 1) rfl rfl ?_
      refine HO_dup (i := 1) rfl rfl ?_
      refine HO_call (first := []) (capt := []) (is := [0, 0]) (R := [_, _, _, _, _, _, _, _, _]) rfl rfl rfl rfl rfl Try.call38 rfl (goodconf_spec _ _ _ _ _ _) ?_
      intro y13 hy13
      clear y13 hy13
      refine HO_not rfl rfl rfl ?_
      refine HO_pick_t rfl rfl rfl rfl ?_
      refine HO_move rfl rfl rfl ?_
      refine HO_split (d := 16) rfl ?_ ?_
      · intro h16
        (try simp only [decide_eq_true_eq, decide_eq_false_iff_not, Bool.not_eq_true', Bool.not_eq_false', Bool.not_eq_true, Bool.not_eq_false, Bool.true_eq_false, Bool.false_eq_true, not_false_eq_true, not_true_eq_false] at h16)
        refine HO_buildSlice (kd := kInt) (xo := [_, _]) (vs := [_, _]) (cs := [_, _]) (xs := [1, 3]) rfl rfl rfl rfl Try.underlying43 elt3 rfl rfl rfl (by decide) (by decide) (by simp [Value.cells]) rfl (by intro ok w _; exact ⟨_, _, rfl, ⟨rfl, by first | omega | (constructor <;> omega)⟩, ⟨_, _, rfl, ⟨rfl, by first | omega | (constructor <;> omega)⟩, rfl⟩⟩) ?_
        intro g17
        refine HO_build (xo := [(0, _)]) (vs := [_]) rfl rfl rfl rfl (bd45_0_s) ?_
        refine HO_nilDat kInt ?_
        refine HO_dup (i := 0) rfl rfl ?_
        refine HO_call (first := []) (capt := []) (is := [1, 0]) (R := [_, _, _, _, _, _, _, _, _, _]) rfl rfl rfl rfl rfl Try.call38 rfl (Spec.lend (pre1 := []) (pre2 := [_]) (goodconf_spec _ _ _ _ _ _) rfl (fun _ _ ha => nomatch ha)) ?_
        intro y19 hy19
        clear y19 hy19
        refine HO_pick_t rfl rfl rfl rfl ?_
        refine HO_assign rfl rfl rfl ?_
        refine HO_nil ?_
        refine H_env (ρ' := [(0, _)]) ⟨rfl, trivial⟩ ?_
        refine H_world (fun _ hA => hA.drop (is := [0, 1, 2, 3, 4, 5, 6, 7, 8, 9, 10]) (Y := [_, _, _, _, _, _, _, _, _, _, _]) (Z := []) rfl) ?_
        -- end1
        refine H_ret1 Try.results31 (.tmp rfl) (fun w hA => ⟨(), congrArg Ending.returned ?_, ?_, ?_⟩)
        · (exact congrArg Value.bool (by decide +kernel))
        · trivial
        · exact hA.only (is := []) (Z := []) rfl
      · intro h16
        (try simp only [decide_eq_true_eq, decide_eq_false_iff_not, Bool.not_eq_true', Bool.not_eq_false', Bool.not_eq_true, Bool.not_eq_false, Bool.true_eq_false, Bool.false_eq_true, not_false_eq_true, not_true_eq_false] at h16)
        (exact absurd h16 (by decide +kernel))
    · intro h11
      (try simp only [decide_eq_true_eq, decide_eq_false_iff_not, Bool.not_eq_true', Bool.not_eq_false', Bool.not_eq_true, Bool.not_eq_false, Bool.true_eq_false, Bool.false_eq_true, not_false_eq_true, not_true_eq_false] at h11)
      (exact absurd h11 (by decide +kernel))
  · intro h5
    (try simp only [decide_eq_true_eq, decide_eq_false_iff_not, Bool.not_eq_true', Bool.not_eq_false', Bool.not_eq_true, Bool.not_eq_false, Bool.true_eq_false, Bool.false_eq_true, not_false_eq_true, not_true_eq_false] at h5)
    (exact absurd h5 (by decide +kernel))
end Go.Wk
