/- Contracts of the program's functions, each proved by walking its code. -/
import Derived.Test.YtondhngfjngngaaKeent2
import Derived.Test.YtondhngfjngngaaEnt
import Derived.Test.YtondhngfjngngaaKerdr
set_option maxRecDepth 100000
set_option linter.unusedVariables false
set_option linter.unusedSimpArgs false
namespace Go.Wk.Fent3
open Go Go.RowKit Go.Proofs Go.Wk
theorem elt3 : Elt Try.prog 3 (.int .i64 (0)) 1 8 := Elt.of (by kernel_rfl) (by rfl) (by decide) (by decide)
theorem bd107_0_s {a1 : Option Addr} {n1 c1 : Nat} : ∀ w, (Instr.build 107 (List.toArray (List.zip [0] [.slice a1 n1 c1]))).run Try.prog w = .ok (.agg #[.slice a1 n1 c1, .bool (false)]) w := fun _ => by kernel_rfl
theorem bd130_0_AsoE {a2 : Option Addr} {n2 c2 : Nat} {x3 : Bool} : ∀ w, (Instr.build 130 (List.toArray (List.zip [0] [.agg #[.slice a2 n2 c2, .bool x3]]))).run Try.prog w = .ok (.agg #[.slice a2 n2 c2, .bool x3]) w := fun _ => by kernel_rfl
theorem bd45_0_s {a1 : Option Addr} {n1 c1 : Nat} : ∀ w, (Instr.build 45 (List.toArray (List.zip [0] [.slice a1 n1 c1]))).run Try.prog w = .ok (.agg #[.slice a1 n1 c1, .slice none 0 0]) w := fun _ => by kernel_rfl
theorem bd47_0_1_ii {x1 : Int} {x2 : Int} : ∀ w, (Instr.build 47 (List.toArray (List.zip [0, 1] [.int .i64 x1, .int .i64 x2]))).run Try.prog w = .ok (.agg #[.int .i64 x1, .int .i64 x2, .slice none 0 0, .slice none 0 0, .slice none 0 0]) w := fun _ => by kernel_rfl
theorem bd61_0_1_2_iii {x1 : Int} {x2 : Int} {x3 : Int} : ∀ w, (Instr.build 61 (List.toArray (List.zip [0, 1, 2] [.int .i64 x1, .int .i64 x2, .int .i64 x3]))).run Try.prog w = .ok (.agg #[.int .i64 x1, .int .i64 x2, .int .i64 x3, .int .i64 (0), .int .i64 (0), .int .i64 (0), .string (⟨#[]⟩), .string (⟨#[]⟩), .string (⟨#[]⟩), .string (⟨#[]⟩), .int .i64 (0), .slice none 0 0, .slice none 0 0]) w := fun _ => by kernel_rfl
end Go.Wk.Fent3
namespace Go.Wk
open Go Go.RowKit Go.Proofs Fent3 
theorem rwrong_spec (T : TypeId) (g : Nat) (b : List UInt8) (w : Bool) (a : Option Addr) (c : Nat)  : Spec Try.prog 143 #[.pointer (some ⟨g, 0, none⟩)] [.loc g [.slice a (b.length) c, .bool (w)] T, .dat kByte.sl (b) [.slice a (b.length) c]] (β := Unit) (fun y => .tuple #[]) (fun y => True) (fun y => [.loc g [.slice none 0 0, .bool (true)] T, .dat kByte.sl ([]) [.slice none 0 0]]) := by
  refine Spec.enter (vs := [_]) Try.func143 rfl Try.ntmps143 rfl (Nat.le_of_ble_eq_true rfl) (fun w0 ok0 => ?_)
  generalize hM0 : blks _ = M0
  -- R0 entry.go:113
  refine H_region (l := [_, _, _, _, _, _, _, _, _, _]) rfl ?_
  refine HO_move rfl rfl rfl ?_
  refine HO_move rfl rfl rfl ?_
  refine HO_nilCheck rfl rfl rfl ?_
  refine HO_fieldAddr (r := 0) rfl rfl rfl Try.underlying130 rfl Try.sizeOf107 rfl ?_
  refine HO_fieldAddr (r := 0) rfl rfl rfl Try.underlying107 rfl Try.sizeOf28 rfl ?_
  refine HO_store (i := 0) (j := 0) (us := []) (old := [_]) (ts := [_]) (cs := [_]) (R := [_]) (new := [_, _]) rfl rfl rfl Try.sizeOf28 rfl (by simp [Value.oneCell']) rfl rfl rfl rfl rfl rfl ?_
  refine HO_nilCheck rfl rfl rfl ?_
  refine HO_fieldAddr (r := 0) rfl rfl rfl Try.underlying130 rfl Try.sizeOf107 rfl ?_
  refine HO_fieldAddr (r := 1) rfl rfl rfl Try.underlying107 rfl Try.sizeOf4 rfl ?_
  refine HO_store (i := 0) (j := 0) (us := [_]) (old := [_]) (ts := []) (cs := [_]) (R := [_]) (new := [_, _]) rfl rfl rfl Try.sizeOf4 rfl (by simp [Value.oneCell']) rfl rfl rfl rfl rfl rfl ?_
  refine HO_nil ?_
  refine H_env (ρ' := []) trivial ?_
  refine H_world (fun _ hA => hA.drop (is := [1]) (Y := [_]) (Z := [_]) rfl) ?_
  refine H_nilDat kByte ?_
  -- end1
  refine H_end0 Try.results143 (fun w hA => ⟨(), congrArg Ending.returned ?_, ?_, ?_⟩)
  · rfl
  · trivial
  · exact hA.only (is := [0, 0]) (Z := []) rfl
theorem over_spec (b : List UInt8) (a : Option Addr) (c : Nat)  : Spec Try.prog 102 #[.slice a (b.length) c] [.dat kByte.sl (b) [.slice a (b.length) c]] (β := Nat) (fun y => .pointer (some ⟨y, 0, none⟩)) (fun y => True) (fun y => [.loc y [.slice a (b.length) c, .bool (false)] 130, .dat kByte.sl (b) [.slice a (b.length) c]]) := by
  refine Spec.enter (vs := [_]) Try.func102 rfl Try.ntmps102 rfl (Nat.le_of_ble_eq_true rfl) (fun w0 ok0 => ?_)
  generalize hM0 : blks _ = M0
  have hMn : ∀ {R : List Atom} (b : Nat), M0 b → blks R b := fun b hb => absurd (hM0 ▸ hb) (blks_none (by simp [Atom.dat, Atom.elem]) b)
  refine H_seq ?_
  -- R0 entry.go:154
  refine H_region (l := [_]) rfl ?_
  refine HO_assign rfl rfl rfl ?_
  refine HO_nil ?_
  refine H_env (ρ' := [(0, _)]) ⟨rfl, trivial⟩ ?_
  refine H_seq ?_
  -- R1 entry.go:154
  refine H_region (l := [_, _, _, _, _]) rfl ?_
  refine HO_move rfl rfl rfl ?_
  refine HO_build (xo := [(0, _)]) (vs := [_]) rfl rfl rfl rfl (bd107_0_s) ?_
  refine HO_build (xo := [(0, _)]) (vs := [_]) rfl rfl rfl rfl (bd130_0_AsoE) ?_
  refine HO_box (cs := [_, _]) rfl rfl rfl rfl ?_
  intro g6
  refine HO_assign rfl rfl rfl ?_
  refine HO_nil ?_
  refine H_env (ρ' := [(2, _)]) ⟨rfl, trivial⟩ ?_
  -- end1
  refine H_ret1 Try.results102 (.tmp rfl) (fun w hA => ⟨g6, congrArg Ending.returned ?_, ?_, ?_⟩)
  · rfl
  · trivial
  · exact hA.only (is := [0, 1]) (Z := []) rfl
theorem itemsint_spec (T : TypeId) (g : Nat) (b : List UInt8) (w : Bool) (a : Option Addr) (c : Nat) (k : Int) (hb : b.length ≤ 100000) (hk : 0 ≤ k ∧ k ≤ 9223372036854775807) : Spec Try.prog 153 #[.pointer (some ⟨g, 0, none⟩), .int .i64 (k), .func (.func 75) #[.pointer (some ⟨g, 0, none⟩)] #[]] [.loc g [.slice a (b.length) c, .bool (w)] T, .dat kByte.sl (b) [.slice a (b.length) c]] (β := (Option Addr × Nat) × (Option Addr × Nat)) (fun y => .slice y.2.1 (((Ent.listP k (b, w)).1).length) y.2.2) (fun y => True) (fun y => [.loc g [.slice y.1.1 (((Ent.listP k (b, w)).2.1).length) y.1.2, .bool ((Ent.listP k (b, w)).2.2)] T, .dat kByte.sl ((Ent.listP k (b, w)).2.1) [.slice y.1.1 (((Ent.listP k (b, w)).2.1).length) y.1.2], .dat kInt.sl ((Ent.listP k (b, w)).1) [.slice y.2.1 (((Ent.listP k (b, w)).1).length) y.2.2]]) := by
  refine Spec.enter (vs := [_, _, _]) Try.func153 rfl Try.ntmps153 rfl (Nat.le_of_ble_eq_true rfl) (fun w0 ok0 => ?_)
  generalize hM0 : blks _ = M0
  refine H_seq ?_
  -- R0 entry.go:116
  refine H_region (l := [_]) rfl ?_
  refine HO_assign rfl rfl rfl ?_
  refine HO_nil ?_
  refine H_env (ρ' := [(0, _), (1, _), (2, _)]) ⟨rfl, rfl, rfl, trivial⟩ ?_
  refine H_seq ?_
  -- R1 entry.go:117
  refine H_region (l := [_]) rfl ?_
  refine HO_assign rfl rfl rfl ?_
  refine HO_nil ?_
  refine H_seq ?_
  refine H_seq ?_
  -- R2 entry.go:118
  refine H_region (l := [_, _, _, _, _, _]) rfl ?_
  refine HO_move rfl rfl rfl ?_
  refine HO_nilCheck rfl rfl rfl ?_
  refine HO_fieldAddr (r := 0) rfl rfl rfl Try.underlying130 rfl Try.sizeOf107 rfl ?_
  refine HO_move rfl rfl rfl ?_
  refine HO_dup (i := 1) rfl rfl ?_
  refine HO_call (first := []) (capt := []) (is := [0, 0]) (R := [_]) rfl rfl rfl rfl rfl Try.call146 rfl (cCount_spec _ _ _ _ _ _ _ ?_) ?_
  · omega
  intro y13 hy13
  generalize hr_r1 : Cod.cnt k b w = r1
  have hl_r1 : r1.2.1.length ≤ b.length := hr_r1 ▸ Cod.cnt_len _ _ _
  refine HO_assign rfl rfl rfl ?_
  refine HO_nil ?_
  refine H_env (ρ' := [(8, _), (7, _), (0, _), (2, _)]) ⟨rfl, rfl, rfl, rfl, trivial⟩ ?_
  refine H_world (fun _ hA => hA.drop (is := [2]) (Y := [_]) (Z := [_, _]) rfl) ?_
  refine H_block ?_
  refine H_own0 kInt 3 none ?_
  refine H_loop (σ := Nat × List UInt8 × Bool × List Int × Option Addr × Nat × Option Addr × Nat) (fun s => Ent.numsP r1.1 r1.2 = (s.2.2.2.1 ++ (Ent.numsP s.1 (s.2.1, s.2.2.1)).1, (Ent.numsP s.1 (s.2.1, s.2.2.1)).2) ∧ s.2.1.length ≤ 100000 ∧ (s.2.2.1 = false → s.2.2.2.1.length + s.2.1.length ≤ 100000) ∧ s.1 ≤ 9223372036854775807) (fun s => [(0, .pointer (some ⟨g, 0, none⟩)), (2, .func (.func 75) #[.pointer (some ⟨g, 0, none⟩)] #[]), (7, .slice s.2.2.2.2.2.2.1 (s.2.2.2.1.length) s.2.2.2.2.2.2.2), (8, .int .i64 ((s.1 : Int)))]) (fun s => Asn w0 ok0 M0 [.loc g [.slice s.2.2.2.2.1 (s.2.1.length) s.2.2.2.2.2.1, .bool (s.2.2.1)] T, .dat kByte.sl (s.2.1) [.slice s.2.2.2.2.1 (s.2.1.length) s.2.2.2.2.2.1], .own 3 kInt s.2.2.2.2.2.2.1 s.2.2.2.2.2.2.2 (s.2.2.2.1)]) (fun s => s.1) ⟨r1.1, r1.2.1, r1.2.2, [], y13.1, y13.2, none, 0⟩ ?_ ?_ ?_ ?_
  · exact ⟨by simp, by dsimp only; omega, fun _ => by dsimp only [List.length_nil]; omega, by dsimp only; have := Cod.cnt_le hk.1 b w; rw [hr_r1] at this; omega⟩
  · exact ⟨rfl, rfl, rfl, rfl, trivial⟩
  · intro w hA
    exact hA.only (is := [0, 1, 0]) (Z := []) rfl
  · rintro ⟨m, bs, wr, l, p, q, p2, q2⟩ hI
    (try dsimp only at hI ⊢)
    have hbs := hI.2.1
    refine H_seq ?_
    refine H_seq ?_
    -- R3 entry.go:118
    refine H_region (l := [_, _, _, _, _, _, _, _, _, _]) rfl ?_
    refine HO_move rfl rfl rfl ?_
    refine HO_bin rfl rfl rfl rfl bin_gtr ?_
    refine HO_move rfl rfl rfl ?_
    refine HO_split (d := 16) rfl ?_ ?_
    · intro h16
      (try simp only [decide_eq_true_eq, decide_eq_false_iff_not, Bool.not_eq_true', Bool.not_eq_false', Bool.not_eq_true, Bool.not_eq_false, Bool.true_eq_false, Bool.false_eq_true, not_false_eq_true, not_true_eq_false] at h16)
      refine HO_move rfl rfl rfl ?_
      refine HO_nilCheck rfl rfl rfl ?_
      refine HO_fieldAddr (r := 0) rfl rfl rfl Try.underlying130 rfl Try.sizeOf107 rfl ?_
      refine HO_fieldAddr (r := 1) rfl rfl rfl Try.underlying107 rfl Try.sizeOf4 rfl ?_
      refine HO_load1 (i := 0) (j := 1) rfl rfl rfl Try.isAgg4 rfl (.loc _ _ _) rfl rfl ?_
      refine HO_not rfl rfl rfl ?_
      refine HO_pick_t rfl rfl rfl rfl ?_
      refine HO_nil ?_
      refine H_env (ρ' := [(23, _), (0, _), (2, _), (7, _), (8, _)]) ⟨rfl, rfl, rfl, rfl, rfl, trivial⟩ ?_
      refine H_cond rfl ?_ ?_
      · intro h23
        (try simp only [decide_eq_true_eq, decide_eq_false_iff_not, Bool.not_eq_true', Bool.not_eq_false', Bool.not_eq_true, Bool.not_eq_false, Bool.true_eq_false, Bool.false_eq_true, not_false_eq_true, not_true_eq_false] at h23)
        refine H_skip ?_
        refine H_seq ?_
        refine H_block ?_
        -- R5 entry.go:119
        have hwr : wr = false := by simpa using h23
        obtain ⟨m, rfl⟩ : ∃ q, m = q + 1 := ⟨m - 1, by omega⟩
        refine H_region (l := [_, _, _, _, _, _]) rfl ?_
        refine HO_move rfl rfl rfl ?_
        refine HO_move rfl rfl rfl ?_
        refine HO_dup (i := 1) rfl rfl ?_
        refine HO_call (first := [_]) (capt := []) (is := [0, 0]) (R := [_, _]) rfl rfl rfl rfl rfl Try.call75 rfl (cInt_spec _ _ _ _ _ _) ?_
        intro y28 hy28
        generalize hr_r2 : Cod.rd 0 (Cod.dec bs) bs wr = r2
        have hl_r2 : r2.2.1.length ≤ bs.length := hr_r2 ▸ Cod.rd_len _ _ _ _
        have hz_r2 := Cod.zag_lo' hr_r2
        refine HO_buildSlice (kd := kInt) (xo := [_]) (vs := [_]) (cs := [_]) (xs := [_]) rfl rfl rfl rfl Try.underlying43 elt3 rfl rfl rfl (by decide) (by decide) (by simp [Value.cells]) rfl (by intro ok w _; exact ⟨_, _, rfl, ⟨rfl, by first | omega | (constructor <;> omega)⟩, rfl⟩) ?_
        intro g29
        refine HO_append (i := 4) (R := [_, _, _, _]) rfl rfl rfl rfl rfl Try.underlying43 elt3 rfl rfl (SrcOk.own (j := 0) Try.underlying43 rfl rfl) ?_ ?_
        · (simp only [List.length_append, List.length_cons, List.length_nil]; have := hI.2.2.1 hwr; omega)
        intro a30 c30
        refine HO_assign rfl rfl rfl ?_
        refine HO_nil ?_
        refine H_env (ρ' := [(7, _), (0, _), (2, _), (8, _)]) ⟨rfl, rfl, rfl, rfl, trivial⟩ ?_
        refine H_world (fun _ hA => hA.drop (is := [1, 4]) (Y := [_, _]) (Z := [_, _, _]) rfl) ?_
        refine H_blk ?_
        -- R4 entry.go:118
        refine H_region (l := [_, _, _]) rfl ?_
        refine HO_move rfl rfl rfl ?_
        refine HO_bin rfl rfl rfl rfl (bin_sub ?_ ?_) ?_
        · omega
        · omega
        refine HO_assign rfl rfl rfl ?_
        refine HO_nil ?_
        refine H_env (ρ' := [(8, _), (7, _), (0, _), (2, _)]) ⟨rfl, rfl, rfl, rfl, trivial⟩ ?_
        refine H_inv (fun a w hf hA => ⟨⟨m, r2.2.1, r2.2.2, l ++ [Cod.zag r2.1], y28.1, y28.2, a30, c30⟩, ?_, ?_, hf.sub ?_, ?_⟩)
        · exact ⟨by dsimp only;  exact Ent.nums_more hI.1 hwr hr_r2, by dsimp only; omega, Ent.nums_more_len hwr hI.2.2.1 hr_r2, by dsimp only; omega⟩
        · (try dsimp only); omega
        · exact ⟨rfl, rfl, rfl, congrArg (fun z => some (Value.int .i64 z)) (by dsimp only; omega), trivial⟩
        · exact hA.only (is := [0, 1, 0]) (Z := []) rfl
      · intro h23
        (try simp only [decide_eq_true_eq, decide_eq_false_iff_not, Bool.not_eq_true', Bool.not_eq_false', Bool.not_eq_true, Bool.not_eq_false, Bool.true_eq_false, Bool.false_eq_true, not_false_eq_true, not_true_eq_false] at h23)
        refine H_exit rfl ?_
        refine H_seq ?_
        -- R6 entry.go:121
        have hps : Ent.numsP r1.1 r1.2 = (l, (bs, wr)) := by first | exact Ent.nums0 hI.1 (by omega) | exact Ent.numsW hI.1 h23
        have hlp : Ent.listP k (b, w) = (l, (bs, wr)) := Ent.listP_of hr_r1 hps
        refine H_region (l := [_, _]) rfl ?_
        refine HO_move rfl rfl rfl ?_
        refine HO_assign rfl rfl rfl ?_
        refine HO_nil ?_
        refine H_env (ρ' := [(6, _)]) ⟨rfl, trivial⟩ ?_
        refine H_freeze (i := 2) (R := [_, _]) rfl (keepM hM0 ⟨(fun _ h => ⟨_, List.mem_of_getElem? (i := 0) rfl, h⟩), (fun _ h => nomatch h), trivial⟩) ?_
        -- end1
        refine H_ret1 Try.results153 (.tmp rfl) (fun w hA => ⟨((p, q), (p2, q2)), congrArg Ending.returned ?_, ?_, ?_⟩)
        · (rw [hlp])
        · trivial
        · (rw [hlp]; exact hA.only (is := [0, 1, 0]) (Z := []) rfl)
    · intro h16
      (try simp only [decide_eq_true_eq, decide_eq_false_iff_not, Bool.not_eq_true', Bool.not_eq_false', Bool.not_eq_true, Bool.not_eq_false, Bool.true_eq_false, Bool.false_eq_true, not_false_eq_true, not_true_eq_false] at h16)
      refine HO_no rfl rfl rfl ?_
      refine HO_no rfl rfl rfl ?_
      refine HO_no rfl rfl rfl ?_
      refine HO_no rfl rfl rfl ?_
      refine HO_no rfl rfl rfl ?_
      refine HO_no rfl rfl rfl ?_
      refine HO_pick_f rfl rfl rfl rfl ?_
      refine HO_nil ?_
      refine H_env (ρ' := [(23, _), (0, _), (2, _), (7, _), (8, _)]) ⟨rfl, rfl, rfl, rfl, rfl, trivial⟩ ?_
      refine H_cond rfl (fun h => nomatch h) (fun _ => ?_)
      refine H_exit rfl ?_
      refine H_seq ?_
      -- R6 entry.go:121
      have hps : Ent.numsP r1.1 r1.2 = (l, (bs, wr)) := by first | exact Ent.nums0 hI.1 (by omega) | exact Ent.numsW hI.1 h23
      have hlp : Ent.listP k (b, w) = (l, (bs, wr)) := Ent.listP_of hr_r1 hps
      refine H_region (l := [_, _]) rfl ?_
      refine HO_move rfl rfl rfl ?_
      refine HO_assign rfl rfl rfl ?_
      refine HO_nil ?_
      refine H_env (ρ' := [(6, _)]) ⟨rfl, trivial⟩ ?_
      refine H_freeze (i := 2) (R := [_, _]) rfl (keepM hM0 ⟨(fun _ h => ⟨_, List.mem_of_getElem? (i := 0) rfl, h⟩), (fun _ h => nomatch h), trivial⟩) ?_
      -- end2
      refine H_ret1 Try.results153 (.tmp rfl) (fun w hA => ⟨((p, q), (p2, q2)), congrArg Ending.returned ?_, ?_, ?_⟩)
      · (rw [hlp])
      · trivial
      · (rw [hlp]; exact hA.only (is := [0, 1, 0]) (Z := []) rfl)
theorem cconf_spec (T : TypeId) (g : Nat) (b : List UInt8) (w : Bool) (a : Option Addr) (c : Nat) (hb : b.length ≤ 100000) : Spec Try.prog 144 #[.pointer (some ⟨g, 0, none⟩)] [.loc g [.slice a (b.length) c, .bool (w)] T, .dat kByte.sl (b) [.slice a (b.length) c]] (β := (Option Addr × Nat) × (Option Addr × Nat) × (Option Addr × Nat)) (fun y => .agg #[.slice y.2.1.1 (((Ent.confP (b, w)).1.vot).length) y.2.1.2, .slice y.2.2.1 (((Ent.confP (b, w)).1.lea).length) y.2.2.2]) (fun y => True) (fun y => [.loc g [.slice y.1.1 (((Ent.confP (b, w)).2.1).length) y.1.2, .bool ((Ent.confP (b, w)).2.2)] T, .dat kByte.sl ((Ent.confP (b, w)).2.1) [.slice y.1.1 (((Ent.confP (b, w)).2.1).length) y.1.2], .dat kInt.sl ((Ent.confP (b, w)).1.vot) [.slice y.2.1.1 (((Ent.confP (b, w)).1.vot).length) y.2.1.2], .dat kInt.sl ((Ent.confP (b, w)).1.lea) [.slice y.2.2.1 (((Ent.confP (b, w)).1.lea).length) y.2.2.2]]) := by
  refine Spec.enter (vs := [_]) Try.func144 rfl Try.ntmps144 rfl (Nat.le_of_ble_eq_true rfl) (fun w0 ok0 => ?_)
  generalize hM0 : blks _ = M0
  refine H_seq ?_
  -- R0 entry.go:124
  refine H_region (l := [_]) rfl ?_
  refine HO_alloc (cs := [_, _]) rfl rfl Try.zeroValue45 rfl ?_
  intro g2
  refine HO_nil ?_
  refine H_seq ?_
  -- R1 entry.go:125
  refine H_region (l := [_, _, _, _, _]) rfl ?_
  refine HO_move rfl rfl rfl ?_
  refine HO_nilCheck rfl rfl rfl ?_
  refine HO_fieldAddr (r := 0) rfl rfl rfl Try.underlying130 rfl Try.sizeOf107 rfl ?_
  refine HO_makeFunc (vs := [_]) (us := []) rfl rfl rfl rfl ?_
  refine HO_assign rfl rfl rfl ?_
  refine HO_nil ?_
  refine H_env (ρ' := [(3, _), (2, _), (0, _)]) ⟨rfl, rfl, rfl, trivial⟩ ?_
  refine H_seq ?_
  -- R2 entry.go:126
  refine H_region (l := [_, _, _, _, _, _]) rfl ?_
  refine HO_move rfl rfl rfl ?_
  refine HO_move rfl rfl rfl ?_
  refine HO_dup (i := 2) rfl rfl ?_
  refine HO_call (first := []) (capt := []) (is := [1, 0]) (R := [_, _]) rfl rfl rfl rfl rfl Try.call153 rfl (itemsint_spec _ _ _ _ _ _ _ ?_ ?_) ?_
  · omega
  · (constructor <;> decide)
  intro y11 hy11
  generalize hv1 : Ent.listP 1000000 (b, w) = v1
  have hvl1 : v1.2.1.length ≤ b.length := by have := Ent.listP_len 1000000 (b, w); rw [hv1] at this; exact this
  refine HO_build (xo := [(0, _)]) (vs := [_]) rfl rfl rfl rfl (bd45_0_s) ?_
  refine HO_alloc (cs := [_, _]) rfl rfl Try.zeroValue45 rfl ?_
  intro g4
  refine HO_store (i := 0) (j := 0) (us := []) (old := [_, _]) (ts := []) (cs := [_, _]) (R := [_, _, _, _, _]) (new := [_, _]) rfl rfl rfl Try.sizeOf45 rfl (by simp [Value.oneCell']) rfl rfl rfl rfl rfl rfl ?_
  refine HO_nil ?_
  refine H_env (ρ' := [(4, _), (3, _), (2, _), (0, _)]) ⟨rfl, rfl, rfl, rfl, trivial⟩ ?_
  refine H_world (fun _ hA => hA.drop (is := [5]) (Y := [_]) (Z := [_, _, _, _, _]) rfl) ?_
  refine H_seq ?_
  -- R3 entry.go:127
  refine H_region (l := [_, _, _, _, _]) rfl ?_
  refine HO_move rfl rfl rfl ?_
  refine HO_move rfl rfl rfl ?_
  refine HO_dup (i := 2) rfl rfl ?_
  refine HO_call (first := []) (capt := []) (is := [1, 0]) (R := [_, _, _, _]) rfl rfl rfl rfl rfl Try.call153 rfl (itemsint_spec _ _ _ _ _ _ _ ?_ ?_) ?_
  · omega
  · (constructor <;> decide)
  intro y15 hy15
  generalize hv2 : Ent.listP 1000000 (v1.2.1, v1.2.2) = v2
  have hvl2 : v2.2.1.length ≤ v1.2.1.length := by have := Ent.listP_len 1000000 (v1.2.1, v1.2.2); rw [hv2] at this; exact this
  refine HO_fieldAddr (r := 1) rfl rfl rfl Try.underlying45 rfl Try.sizeOf43 rfl ?_
  refine HO_store (i := 3) (j := 0) (us := [_]) (old := [_]) (ts := []) (cs := [_]) (R := [_, _, _, _, _, _]) (new := [_, _]) rfl rfl rfl Try.sizeOf43 rfl (by simp [Value.oneCell']) rfl rfl rfl rfl rfl rfl ?_
  refine HO_nil ?_
  refine H_env (ρ' := [(4, _), (2, _)]) ⟨rfl, rfl, trivial⟩ ?_
  refine H_world (fun _ hA => hA.drop (is := [4]) (Y := [_]) (Z := [_, _, _, _, _, _]) rfl) ?_
  refine H_seq ?_
  -- R4 entry.go:128
  refine H_region (l := [_, _]) rfl ?_
  refine HO_loadA (i := 0) (us := []) (cs := [_, _]) (ts := []) rfl rfl rfl Try.isAgg45 Try.sizeOf45 rfl (.loc _ _ _) rfl rfl rfl rfl ?_
  refine HO_store (i := 5) (j := 0) (us := []) (old := [_, _]) (ts := []) (cs := [_, _]) (R := [_, _, _, _, _]) (new := [_, _]) rfl rfl rfl Try.sizeOf45 rfl (by simp [Value.oneCell']) rfl rfl rfl rfl rfl rfl ?_
  refine HO_nil ?_
  refine H_env (ρ' := [(2, _)]) ⟨rfl, trivial⟩ ?_
  refine H_world (fun _ hA => hA.drop (is := [1]) (Y := [_]) (Z := [_, _, _, _, _]) rfl) ?_
  have hcp := Ent.confP_of hv1 hv2
  -- end1
  refine H_ret1 Try.results144 (.cell rfl (fun w hA => run_loadVarA (cs := [_, _]) (Try.isAgg45 w) (Try.sizeOf45 w) (Tells.cells (.loc _ _ _) (hA.get (i := 0) rfl)))) (fun w hA => ⟨(y15.1, y11.2, y15.2), congrArg Ending.returned ?_, ?_, ?_⟩)
  · (rw [hcp])
  · trivial
  · (rw [hcp]; exact hA.only (is := [1, 2, 3, 3]) (Z := [_]) rfl)
theorem creadent_spec (T : TypeId) (g : Nat) (b : List UInt8) (w : Bool) (a : Option Addr) (c : Nat) (hb : b.length ≤ 100000) : Spec Try.prog 103 #[.pointer (some ⟨g, 0, none⟩)] [.loc g [.slice a (b.length) c, .bool (w)] T, .dat kByte.sl (b) [.slice a (b.length) c]] (β := (Option Addr × Nat) × (Option Addr × Nat) × (Option Addr × Nat)) (fun y => .agg #[.int .i64 ((Ent.entP (b, w)).1.idx), .int .i64 ((Ent.entP (b, w)).1.term), .int .i64 ((Ent.entP (b, w)).1.kind), .int .i64 ((Ent.entP (b, w)).1.cmd.kind), .int .i64 ((Ent.entP (b, w)).1.cmd.sess), .int .i64 ((Ent.entP (b, w)).1.cmd.seq), .string ((Ent.entP (b, w)).1.cmd.key), .string ((Ent.entP (b, w)).1.cmd.old), .string ((Ent.entP (b, w)).1.cmd.val), .string ((Ent.entP (b, w)).1.cmd.til), .int .i64 ((Ent.entP (b, w)).1.cmd.lim), .slice y.2.1.1 (((Ent.entP (b, w)).1.conf.vot).length) y.2.1.2, .slice y.2.2.1 (((Ent.entP (b, w)).1.conf.lea).length) y.2.2.2]) (fun y => True) (fun y => [.loc g [.slice y.1.1 (((Ent.entP (b, w)).2.1).length) y.1.2, .bool ((Ent.entP (b, w)).2.2)] T, .dat kByte.sl ((Ent.entP (b, w)).2.1) [.slice y.1.1 (((Ent.entP (b, w)).2.1).length) y.1.2], .dat kInt.sl ((Ent.entP (b, w)).1.conf.vot) [.slice y.2.1.1 (((Ent.entP (b, w)).1.conf.vot).length) y.2.1.2], .dat kInt.sl ((Ent.entP (b, w)).1.conf.lea) [.slice y.2.2.1 (((Ent.entP (b, w)).1.conf.lea).length) y.2.2.2]]) := by
  refine Spec.enter (vs := [_]) Try.func103 rfl Try.ntmps103 rfl (Nat.le_of_ble_eq_true rfl) (fun w0 ok0 => ?_)
  generalize hM0 : blks _ = M0
  refine H_seq ?_
  -- R0 entry.go:131
  refine H_region (l := [_]) rfl ?_
  refine HO_alloc (cs := [_, _, _, _, _, _, _, _, _, _, _, _, _]) rfl rfl Try.zeroValue61 rfl ?_
  intro g2
  refine HO_nil ?_
  refine H_seq ?_
  -- R1 entry.go:132 draws
  refine H_draw (is := [0, 2]) (Xs := [_, _]) (Z := [_]) (fuel := 15) (l := #[false, false, false, false, false, false, false, false, false, false, false, false, false, false, false]) mixed rfl rfl rfl ?_
  refine HA_take (i := 0) (listed' := #[true, false, false, false, false, false, false, false, false, false, false, false, false, false, false]) (bodyPost_pan _ _ _) rfl rfl rfl rfl (by kernel_rfl) rfl (V_move rfl) (fun _ hA => hA.only (is := [0, 2]) (Y := [_, _]) (Z := [_]) rfl) ?_
  refine HA_take (i := 1) (listed' := #[true, true, false, false, false, false, false, false, false, false, false, false, false, false, false]) (bodyPost_pan _ _ _) rfl rfl rfl rfl (by kernel_rfl) rfl (V_nilCheck rfl) (fun _ hA => hA.only (is := [0, 2]) (Y := [_, _]) (Z := [_]) rfl) ?_
  refine HA_take (i := 2) (listed' := #[true, true, true, false, false, false, false, false, false, false, false, false, false, false, false]) (bodyPost_pan _ _ _) rfl rfl rfl rfl (by kernel_rfl) rfl (V_fieldAddr (r := 0) rfl Try.underlying130 rfl Try.sizeOf107 rfl) (fun _ hA => hA.only (is := [0, 2]) (Y := [_, _]) (Z := [_]) rfl) ?_
  refine HA_take (i := 4) (listed' := #[true, true, true, false, true, false, false, false, false, false, false, false, false, false, false]) (bodyPost_pan _ _ _) rfl rfl rfl rfl (by kernel_rfl) rfl (V_move rfl) (fun _ hA => hA.only (is := [0, 2]) (Y := [_, _]) (Z := [_]) rfl) ?_
  refine HA_take (i := 5) (listed' := #[true, true, true, false, true, true, false, false, false, false, false, false, false, false, false]) (bodyPost_pan _ _ _) rfl rfl rfl rfl (by kernel_rfl) rfl (V_nilCheck rfl) (fun _ hA => hA.only (is := [0, 2]) (Y := [_, _]) (Z := [_]) rfl) ?_
  refine HA_take (i := 6) (listed' := #[true, true, true, false, true, true, true, false, false, false, false, false, false, false, false]) (bodyPost_pan _ _ _) rfl rfl rfl rfl (by kernel_rfl) rfl (V_fieldAddr (r := 0) rfl Try.underlying130 rfl Try.sizeOf107 rfl) (fun _ hA => hA.only (is := [0, 2]) (Y := [_, _]) (Z := [_]) rfl) ?_
  refine HA_take (i := 8) (listed' := #[true, true, true, false, true, true, true, false, true, false, false, false, false, false, false]) (bodyPost_pan _ _ _) rfl rfl rfl rfl (by kernel_rfl) rfl (V_move rfl) (fun _ hA => hA.only (is := [0, 2]) (Y := [_, _]) (Z := [_]) rfl) ?_
  refine HA_take (i := 9) (listed' := #[true, true, true, false, true, true, true, false, true, true, false, false, false, false, false]) (bodyPost_pan _ _ _) rfl rfl rfl rfl (by kernel_rfl) rfl (V_nilCheck rfl) (fun _ hA => hA.only (is := [0, 2]) (Y := [_, _]) (Z := [_]) rfl) ?_
  refine HA_take (i := 10) (listed' := #[true, true, true, false, true, true, true, false, true, true, true, false, false, false, false]) (bodyPost_pan _ _ _) rfl rfl rfl rfl (by kernel_rfl) rfl (V_fieldAddr (r := 0) rfl Try.underlying130 rfl Try.sizeOf107 rfl) (fun _ hA => hA.only (is := [0, 2]) (Y := [_, _]) (Z := [_]) rfl) ?_
  refine HA_loud2 (i := 3) (j := 13) (by kernel_rfl) rfl rfl ?_ ?_
  · refine HO_dup (i := 2) rfl rfl ?_
    refine HO_call (first := []) (capt := []) (is := [1, 0]) (R := [_, _]) rfl rfl rfl rfl rfl Try.call75 rfl (cInt_spec _ _ _ _ _ _) ?_
    intro y9 hy9
    refine HA_back (listed' := #[true, true, true, true, true, true, true, false, true, true, true, false, false, false, false]) rfl (fun _ hA => hA.only (is := [2, 3]) (Y := [_, _]) (Z := [_, _]) rfl) ?_
    refine HA_loud2 (i := 7) (j := 13) (by kernel_rfl) rfl rfl ?_ ?_
    · generalize hr_r1 : Cod.rd 0 (Cod.dec b) b w = r1
      have hl_r1 : r1.2.1.length ≤ b.length := hr_r1 ▸ Cod.rd_len _ _ _ _
      refine HO_dup (i := 1) rfl rfl ?_
      refine HO_call (first := []) (capt := []) (is := [0, 0]) (R := [_, _, _]) rfl rfl rfl rfl rfl Try.call75 rfl (cInt_spec _ _ _ _ _ _) ?_
      intro y13 hy13
      refine HA_back (listed' := #[true, true, true, true, true, true, true, true, true, true, true, false, false, false, false]) rfl (fun _ hA => hA.only (is := [3, 4]) (Y := [_, _]) (Z := [_, _, _]) rfl) ?_
      refine HA_loud2 (i := 11) (j := 13) (by kernel_rfl) rfl rfl ?_ ?_
      · generalize hr_r2 : Cod.rd 0 (Cod.dec r1.2.1) r1.2.1 r1.2.2 = r2
        have hl_r2 : r2.2.1.length ≤ r1.2.1.length := hr_r2 ▸ Cod.rd_len _ _ _ _
        refine HO_dup (i := 1) rfl rfl ?_
        refine HO_call (first := []) (capt := []) (is := [0, 0]) (R := [_, _, _, _]) rfl rfl rfl rfl rfl Try.call75 rfl (cInt_spec _ _ _ _ _ _) ?_
        intro y17 hy17
        refine HA_back (listed' := #[true, true, true, true, true, true, true, true, true, true, true, true, false, false, false]) rfl (fun _ hA => hA.only (is := [4, 5]) (Y := [_, _]) (Z := [_, _, _, _]) rfl) ?_
        generalize hr_r3 : Cod.rd 0 (Cod.dec r2.2.1) r2.2.1 r2.2.2 = r3
        have hl_r3 : r3.2.1.length ≤ r2.2.1.length := hr_r3 ▸ Cod.rd_len _ _ _ _
        refine HA_take (i := 12) (listed' := #[true, true, true, true, true, true, true, true, true, true, true, true, true, false, false]) (bodyPost_pan _ _ _) rfl rfl rfl rfl (by kernel_rfl) rfl (V_build (xo := [(0, _), (1, _), (2, _)]) (vs := [_, _, _]) rfl rfl (bd61_0_1_2_iii)) (fun _ hA => hA.only (is := [4, 5]) (Y := [_, _]) (Z := [_, _, _, _]) rfl) ?_
        refine HA_loud1 (i := 13) (by kernel_rfl) rfl ?_
        refine HO_alloc (cs := [_, _, _, _, _, _, _, _, _, _, _, _, _]) rfl rfl Try.zeroValue61 rfl ?_
        intro g3
        refine HA_back (listed' := #[true, true, true, true, true, true, true, true, true, true, true, true, true, true, false]) rfl (fun _ hA => hA.only (is := [5, 6]) (Y := [_, _]) (Z := [_, _, _, _, _]) rfl) ?_
        refine HA_loud1 (i := 14) (by kernel_rfl) rfl ?_
        refine HO_store (i := 0) (j := 0) (us := []) (old := [_, _, _, _, _, _, _, _, _, _, _, _, _]) (ts := []) (cs := [_, _, _, _, _, _, _, _, _, _, _, _, _]) (R := [_, _, _, _, _, _]) (new := [_, _, _, _, _, _, _, _, _, _, _, _, _]) rfl rfl rfl Try.sizeOf61 rfl (by simp [Value.oneCell']) rfl rfl rfl rfl rfl rfl ?_
        refine HA_back (listed' := #[true, true, true, true, true, true, true, true, true, true, true, true, true, true, true]) rfl (fun _ hA => hA.only (is := [5, 6]) (Y := [_, _]) (Z := [_, _, _, _, _]) rfl) ?_
        refine HA_done (by kernel_rfl) ?_
        refine H_env (ρ' := [(3, _), (2, _), (0, _)]) ⟨rfl, rfl, rfl, trivial⟩ ?_
        refine H_world (fun _ hA => hA.drop (is := [3, 4, 6]) (Y := [_, _, _]) (Z := [_, _, _, _]) rfl) ?_
        refine H_seq ?_
        refine H_seq ?_
        -- R2 entry.go:133
        refine H_region (l := [_, _]) rfl ?_
        refine HO_fieldAddr (r := 2) rfl rfl rfl Try.underlying61 rfl Try.sizeOf3 rfl ?_
        refine HO_load1 (i := 0) (j := 2) rfl rfl rfl Try.isAgg3 rfl (.loc _ _ _) rfl rfl ?_
        refine HO_nil ?_
        refine H_env (ρ' := [(20, _), (3, _), (2, _), (0, _)]) ⟨rfl, rfl, rfl, rfl, trivial⟩ ?_
        refine H_block ?_
        refine H_seq ?_
        -- R3 entry.go:134
        refine H_region (l := [_, _]) rfl ?_
        refine HO_bin rfl rfl rfl rfl bin_eql ?_
        refine HO_assign rfl rfl rfl ?_
        refine HO_nil ?_
        refine H_env (ρ' := [(21, _), (20, _), (3, _), (2, _), (0, _)]) ⟨rfl, rfl, rfl, rfl, rfl, trivial⟩ ?_
        refine H_cond rfl ?_ ?_
        · intro h21
          (try simp only [decide_eq_true_eq, decide_eq_false_iff_not, Bool.not_eq_true', Bool.not_eq_false', Bool.not_eq_true, Bool.not_eq_false, Bool.true_eq_false, Bool.false_eq_true, not_false_eq_true, not_true_eq_false] at h21)
          refine H_seq ?_
          -- R4 entry.go:135
          refine H_region (l := [_, _, _, _, _, _, _, _, _, _, _, _]) rfl ?_
          refine HO_move rfl rfl rfl ?_
          refine HO_nilCheck rfl rfl rfl ?_
          refine HO_fieldAddr (r := 0) rfl rfl rfl Try.underlying130 rfl Try.sizeOf107 rfl ?_
          refine HO_dup (i := 2) rfl rfl ?_
          refine HO_call (first := []) (capt := []) (is := [1, 0]) (R := [_, _, _]) rfl rfl rfl rfl rfl Try.call76 rfl (cText_spec _ _ _ _ _ _ ?_) ?_
          · (first | omega | assumption | decide)
          intro y27 hy27
          generalize hr_r4 : Cod.rd [] (Cod.decT r3.2.1) r3.2.1 r3.2.2 = r4
          have hl_r4 : r4.2.1.length ≤ r3.2.1.length := hr_r4 ▸ Cod.rd_len _ _ _ _
          have hs_r4 := Cod.rdT_size hr_r4
          refine HO_strBytes rfl rfl rfl Try.underlying9 Try.underlying28 Try.underlying5 ?_ ?_
          · (simp only [maxLen]; omega)
          intro a28 c28
          refine HO_dup (i := 0) rfl rfl ?_
          refine HO_call (first := []) (capt := []) (is := [0]) (R := [_, _, _, _, _, _]) rfl rfl rfl rfl rfl Try.call28 rfl (cread_spec _ _ _ ?_) ?_
          · (have h := hs_r4; rw [Cod.size_mk] at h; show List.length r4.1 ≤ _; omega)
          intro y29 hy29
          clear y29 hy29
          generalize hc4 : Cmd.read ({ data := r4.1.toArray } : ByteArray).data.toList = c4
          replace hc4 : Cmd.read r4.1 = c4 := hc4
          refine HO_move rfl rfl rfl ?_
          refine HO_extract (vs := [_, _]) rfl rfl rfl rfl ?_
          refine HO_extract (vs := [_, _]) rfl rfl rfl rfl ?_
          refine HO_alloc (cs := [_, _, _, _, _, _, _, _]) rfl rfl Try.zeroValue23 rfl ?_
          intro g4
          refine HO_store (i := 0) (j := 0) (us := []) (old := [_, _, _, _, _, _, _, _]) (ts := []) (cs := [_, _, _, _, _, _, _, _]) (R := [_, _, _, _, _, _]) (new := [_, _, _, _, _, _, _, _]) rfl rfl rfl Try.sizeOf23 rfl (by simp [Value.oneCell']) rfl rfl rfl rfl rfl rfl ?_
          refine HO_assign rfl rfl rfl ?_
          refine HO_nil ?_
          refine H_env (ρ' := [(5, _), (4, _), (3, _), (2, _), (0, _)]) ⟨rfl, rfl, rfl, rfl, rfl, trivial⟩ ?_
          refine H_world (fun _ hA => hA.drop (is := [1, 5]) (Y := [_, _]) (Z := [_, _, _, _, _]) rfl) ?_
          refine H_seq ?_
          refine H_seq ?_
          -- R5 entry.go:136
          refine H_region (l := [_, _]) rfl ?_
          refine HO_move rfl rfl rfl ?_
          refine HO_bin rfl rfl rfl rfl bin_neq ?_
          refine HO_nil ?_
          refine H_env (ρ' := [(33, _), (4, _), (3, _), (2, _), (0, _)]) ⟨rfl, rfl, rfl, rfl, rfl, trivial⟩ ?_
          refine H_cond rfl ?_ ?_
          · intro h33
            (try simp only [decide_eq_true_eq, decide_eq_false_iff_not, Bool.not_eq_true', Bool.not_eq_false', Bool.not_eq_true, Bool.not_eq_false, Bool.true_eq_false, Bool.false_eq_true, not_false_eq_true, not_true_eq_false] at h33)
            -- R6 entry.go:137
            refine H_region (l := [_, _]) rfl ?_
            refine HO_move rfl rfl rfl ?_
            refine HO_dup (i := 2) rfl rfl ?_
            refine HO_call (first := []) (capt := []) (is := [1, 0]) (R := [_, _, _, _]) rfl rfl rfl rfl rfl Try.call143 rfl (rwrong_spec _ _ _ _ _ _) ?_
            intro y35 hy35
            clear y35 hy35
            refine HO_nil ?_
            refine H_env (ρ' := [(4, _), (3, _), (2, _)]) ⟨rfl, rfl, rfl, trivial⟩ ?_
            refine H_world (fun _ hA => hA.drop (is := [3]) (Y := [_]) (Z := [_, _, _, _, _]) rfl) ?_
            -- R7 entry.go:139
            refine H_region (l := [_, _, _]) rfl ?_
            refine HO_loadA (i := 2) (us := []) (cs := [_, _, _, _, _, _, _, _]) (ts := []) rfl rfl rfl Try.isAgg23 Try.sizeOf23 rfl (.loc _ _ _) rfl rfl rfl rfl ?_
            refine HO_fieldAddr (r := 3) rfl rfl rfl Try.underlying61 rfl Try.sizeOf23 rfl ?_
            refine HO_store (i := 3) (j := 0) (us := [_, _, _]) (old := [_, _, _, _, _, _, _, _]) (ts := [_, _]) (cs := [_, _, _, _, _, _, _, _]) (R := [_, _, _, _]) (new := [_, _, _, _, _, _, _, _, _, _, _, _, _]) rfl rfl rfl Try.sizeOf23 rfl (by simp [Value.oneCell']) rfl rfl rfl rfl rfl rfl ?_
            refine HO_nil ?_
            refine H_env (ρ' := [(3, _), (2, _)]) ⟨rfl, rfl, trivial⟩ ?_
            refine H_world (fun _ hA => hA.drop (is := [3]) (Y := [_]) (Z := [_, _, _, _]) rfl) ?_
            refine H_blk ?_
            refine H_seq ?_
            -- R10 entry.go:143
            refine H_region (l := [_, _]) rfl ?_
            refine HO_loadA (i := 0) (us := []) (cs := [_, _, _, _, _, _, _, _, _, _, _, _, _]) (ts := []) rfl rfl rfl Try.isAgg61 Try.sizeOf61 rfl (.loc _ _ _) rfl rfl rfl rfl ?_
            refine HO_store (i := 3) (j := 0) (us := []) (old := [_, _, _, _, _, _, _, _, _, _, _, _, _]) (ts := []) (cs := [_, _, _, _, _, _, _, _, _, _, _, _, _]) (R := [_, _, _]) (new := [_, _, _, _, _, _, _, _, _, _, _, _, _]) rfl rfl rfl Try.sizeOf61 rfl (by simp [Value.oneCell']) rfl rfl rfl rfl rfl rfl ?_
            refine HO_nil ?_
            refine H_env (ρ' := [(2, _)]) ⟨rfl, trivial⟩ ?_
            refine H_world (fun _ hA => hA.drop (is := [1]) (Y := [_]) (Z := [_, _, _]) rfl) ?_
            refine H_nilDat kInt ?_
            refine H_nilDat kInt ?_
            have hent := (Ent.entP_2 hr_r1 hr_r2 hr_r3 hr_r4 h21).trans (by rw [hc4, if_neg h33])
            -- end1
            refine H_ret1 Try.results103 (.cell rfl (fun w hA => run_loadVarA (cs := [_, _, _, _, _, _, _, _, _, _, _, _, _]) (Try.isAgg61 w) (Try.sizeOf61 w) (Tells.cells (.loc _ _ _) (hA.get (i := 2) rfl)))) (fun w hA => ⟨((none, 0), (none, 0), (none, 0)), congrArg Ending.returned ?_, ?_, ?_⟩)
            · (rw [hent] <;> rfl)
            · trivial
            · (rw [hent]; exact hA.only (is := [1, 2, 0, 0]) (Z := [_]) rfl)
          · intro h33
            (try simp only [decide_eq_true_eq, decide_eq_false_iff_not, Bool.not_eq_true', Bool.not_eq_false', Bool.not_eq_true, Bool.not_eq_false, Bool.true_eq_false, Bool.false_eq_true, not_false_eq_true, not_true_eq_false] at h33)
            refine H_skip ?_
            -- R7 entry.go:139
            refine H_region (l := [_, _, _]) rfl ?_
            refine HO_loadA (i := 0) (us := []) (cs := [_, _, _, _, _, _, _, _]) (ts := []) rfl rfl rfl Try.isAgg23 Try.sizeOf23 rfl (.loc _ _ _) rfl rfl rfl rfl ?_
            refine HO_fieldAddr (r := 3) rfl rfl rfl Try.underlying61 rfl Try.sizeOf23 rfl ?_
            refine HO_store (i := 3) (j := 0) (us := [_, _, _]) (old := [_, _, _, _, _, _, _, _]) (ts := [_, _]) (cs := [_, _, _, _, _, _, _, _]) (R := [_, _, _, _]) (new := [_, _, _, _, _, _, _, _, _, _, _, _, _]) rfl rfl rfl Try.sizeOf23 rfl (by simp [Value.oneCell']) rfl rfl rfl rfl rfl rfl ?_
            refine HO_nil ?_
            refine H_env (ρ' := [(3, _), (2, _)]) ⟨rfl, rfl, trivial⟩ ?_
            refine H_world (fun _ hA => hA.drop (is := [1]) (Y := [_]) (Z := [_, _, _, _]) rfl) ?_
            refine H_blk ?_
            refine H_seq ?_
            -- R10 entry.go:143
            refine H_region (l := [_, _]) rfl ?_
            refine HO_loadA (i := 0) (us := []) (cs := [_, _, _, _, _, _, _, _, _, _, _, _, _]) (ts := []) rfl rfl rfl Try.isAgg61 Try.sizeOf61 rfl (.loc _ _ _) rfl rfl rfl rfl ?_
            refine HO_store (i := 3) (j := 0) (us := []) (old := [_, _, _, _, _, _, _, _, _, _, _, _, _]) (ts := []) (cs := [_, _, _, _, _, _, _, _, _, _, _, _, _]) (R := [_, _, _]) (new := [_, _, _, _, _, _, _, _, _, _, _, _, _]) rfl rfl rfl Try.sizeOf61 rfl (by simp [Value.oneCell']) rfl rfl rfl rfl rfl rfl ?_
            refine HO_nil ?_
            refine H_env (ρ' := [(2, _)]) ⟨rfl, trivial⟩ ?_
            refine H_world (fun _ hA => hA.drop (is := [1]) (Y := [_]) (Z := [_, _, _]) rfl) ?_
            refine H_nilDat kInt ?_
            refine H_nilDat kInt ?_
            have hent := (Ent.entP_2 hr_r1 hr_r2 hr_r3 hr_r4 h21).trans (by rw [hc4, if_pos (Decidable.not_not.1 h33)])
            -- end2
            refine H_ret1 Try.results103 (.cell rfl (fun w hA => run_loadVarA (cs := [_, _, _, _, _, _, _, _, _, _, _, _, _]) (Try.isAgg61 w) (Try.sizeOf61 w) (Tells.cells (.loc _ _ _) (hA.get (i := 2) rfl)))) (fun w hA => ⟨(y27, (none, 0), (none, 0)), congrArg Ending.returned ?_, ?_, ?_⟩)
            · (rw [hent] <;> rfl)
            · trivial
            · (rw [hent]; exact hA.only (is := [1, 2, 0, 0]) (Z := [_]) rfl)
        · intro h21
          (try simp only [decide_eq_true_eq, decide_eq_false_iff_not, Bool.not_eq_true', Bool.not_eq_false', Bool.not_eq_true, Bool.not_eq_false, Bool.true_eq_false, Bool.false_eq_true, not_false_eq_true, not_true_eq_false] at h21)
          refine H_seq ?_
          -- R8 entry.go:140
          refine H_region (l := [_, _]) rfl ?_
          refine HO_bin rfl rfl rfl rfl bin_eql ?_
          refine HO_assign rfl rfl rfl ?_
          refine HO_nil ?_
          refine H_env (ρ' := [(38, _), (3, _), (2, _), (0, _)]) ⟨rfl, rfl, rfl, rfl, trivial⟩ ?_
          refine H_cond rfl ?_ ?_
          · intro h38
            (try simp only [decide_eq_true_eq, decide_eq_false_iff_not, Bool.not_eq_true', Bool.not_eq_false', Bool.not_eq_true, Bool.not_eq_false, Bool.true_eq_false, Bool.false_eq_true, not_false_eq_true, not_true_eq_false] at h38)
            -- R9 entry.go:141
            refine H_region (l := [_, _, _, _]) rfl ?_
            refine HO_move rfl rfl rfl ?_
            refine HO_dup (i := 2) rfl rfl ?_
            refine HO_call (first := []) (capt := []) (is := [1, 0]) (R := [_, _, _]) rfl rfl rfl rfl rfl Try.call144 rfl (cconf_spec _ _ _ _ _ _ ?_) ?_
            · (first | omega | assumption | decide)
            intro y41 hy41
            generalize hc3 : Ent.confP (r3.2.1, r3.2.2) = c3
            refine HO_fieldAddr (r := 11) rfl rfl rfl Try.underlying61 rfl Try.sizeOf45 rfl ?_
            refine HO_store (i := 4) (j := 0) (us := [_, _, _, _, _, _, _, _, _, _, _]) (old := [_, _]) (ts := []) (cs := [_, _]) (R := [_, _, _, _, _, _]) (new := [_, _, _, _, _, _, _, _, _, _, _, _, _]) rfl rfl rfl Try.sizeOf45 rfl (by simp [Value.oneCell']) rfl rfl rfl rfl rfl rfl ?_
            refine HO_nil ?_
            refine H_env (ρ' := [(3, _), (2, _)]) ⟨rfl, rfl, trivial⟩ ?_
            refine H_world (fun _ hA => hA.drop (is := [5]) (Y := [_]) (Z := [_, _, _, _, _, _]) rfl) ?_
            refine H_blk ?_
            refine H_seq ?_
            -- R10 entry.go:143
            refine H_region (l := [_, _]) rfl ?_
            refine HO_loadA (i := 0) (us := []) (cs := [_, _, _, _, _, _, _, _, _, _, _, _, _]) (ts := []) rfl rfl rfl Try.isAgg61 Try.sizeOf61 rfl (.loc _ _ _) rfl rfl rfl rfl ?_
            refine HO_store (i := 5) (j := 0) (us := []) (old := [_, _, _, _, _, _, _, _, _, _, _, _, _]) (ts := []) (cs := [_, _, _, _, _, _, _, _, _, _, _, _, _]) (R := [_, _, _, _, _]) (new := [_, _, _, _, _, _, _, _, _, _, _, _, _]) rfl rfl rfl Try.sizeOf61 rfl (by simp [Value.oneCell']) rfl rfl rfl rfl rfl rfl ?_
            refine HO_nil ?_
            refine H_env (ρ' := [(2, _)]) ⟨rfl, trivial⟩ ?_
            refine H_world (fun _ hA => hA.drop (is := [1]) (Y := [_]) (Z := [_, _, _, _, _]) rfl) ?_
            have hent := (Ent.entP_3 hr_r1 hr_r2 hr_r3 h38).trans (by rw [hc3])
            -- end3
            refine H_ret1 Try.results103 (.cell rfl (fun w hA => run_loadVarA (cs := [_, _, _, _, _, _, _, _, _, _, _, _, _]) (Try.isAgg61 w) (Try.sizeOf61 w) (Tells.cells (.loc _ _ _) (hA.get (i := 0) rfl)))) (fun w hA => ⟨y41, congrArg Ending.returned ?_, ?_, ?_⟩)
            · (rw [hent] <;> rfl)
            · trivial
            · (rw [hent]; exact hA.only (is := [1, 2, 3, 4]) (Z := [_]) rfl)
          · intro h38
            (try simp only [decide_eq_true_eq, decide_eq_false_iff_not, Bool.not_eq_true', Bool.not_eq_false', Bool.not_eq_true, Bool.not_eq_false, Bool.true_eq_false, Bool.false_eq_true, not_false_eq_true, not_true_eq_false] at h38)
            refine H_skip ?_
            refine H_blk ?_
            refine H_seq ?_
            -- R10 entry.go:143
            refine H_region (l := [_, _]) rfl ?_
            refine HO_loadA (i := 0) (us := []) (cs := [_, _, _, _, _, _, _, _, _, _, _, _, _]) (ts := []) rfl rfl rfl Try.isAgg61 Try.sizeOf61 rfl (.loc _ _ _) rfl rfl rfl rfl ?_
            refine HO_store (i := 3) (j := 0) (us := []) (old := [_, _, _, _, _, _, _, _, _, _, _, _, _]) (ts := []) (cs := [_, _, _, _, _, _, _, _, _, _, _, _, _]) (R := [_, _, _]) (new := [_, _, _, _, _, _, _, _, _, _, _, _, _]) rfl rfl rfl Try.sizeOf61 rfl (by simp [Value.oneCell']) rfl rfl rfl rfl rfl rfl ?_
            refine HO_nil ?_
            refine H_env (ρ' := [(2, _)]) ⟨rfl, trivial⟩ ?_
            refine H_world (fun _ hA => hA.drop (is := [1]) (Y := [_]) (Z := [_, _, _]) rfl) ?_
            refine H_nilDat kInt ?_
            refine H_nilDat kInt ?_
            have hent := Ent.entP_0 hr_r1 hr_r2 hr_r3 h21 h38
            -- end4
            refine H_ret1 Try.results103 (.cell rfl (fun w hA => run_loadVarA (cs := [_, _, _, _, _, _, _, _, _, _, _, _, _]) (Try.isAgg61 w) (Try.sizeOf61 w) (Tells.cells (.loc _ _ _) (hA.get (i := 2) rfl)))) (fun w hA => ⟨(y17, (none, 0), (none, 0)), congrArg Ending.returned ?_, ?_, ?_⟩)
            · (rw [hent] <;> rfl)
            · trivial
            · (rw [hent]; exact hA.only (is := [1, 2, 0, 0]) (Z := [_]) rfl)
      · refine HO_alloc (cs := [_, _, _, _, _, _, _, _, _, _, _, _, _]) rfl rfl Try.zeroValue61 rfl ?_
        intro g3
        refine HA_back (listed' := #[true, true, true, true, true, true, true, true, true, true, true, false, false, true, false]) rfl (fun _ hA => hA.only (is := [4, 5]) (Y := [_, _]) (Z := [_, _, _, _]) rfl) ?_
        refine HA_loud1 (i := 11) (by kernel_rfl) rfl ?_
        generalize hr_r2 : Cod.rd 0 (Cod.dec r1.2.1) r1.2.1 r1.2.2 = r2
        have hl_r2 : r2.2.1.length ≤ r1.2.1.length := hr_r2 ▸ Cod.rd_len _ _ _ _
        refine HO_dup (i := 2) rfl rfl ?_
        refine HO_call (first := []) (capt := []) (is := [1, 0]) (R := [_, _, _, _, _]) rfl rfl rfl rfl rfl Try.call75 rfl (cInt_spec _ _ _ _ _ _) ?_
        intro y17 hy17
        refine HA_back (listed' := #[true, true, true, true, true, true, true, true, true, true, true, true, false, true, false]) rfl (fun _ hA => hA.only (is := [5, 6]) (Y := [_, _]) (Z := [_, _, _, _, _]) rfl) ?_
        generalize hr_r3 : Cod.rd 0 (Cod.dec r2.2.1) r2.2.1 r2.2.2 = r3
        have hl_r3 : r3.2.1.length ≤ r2.2.1.length := hr_r3 ▸ Cod.rd_len _ _ _ _
        refine HA_take (i := 12) (listed' := #[true, true, true, true, true, true, true, true, true, true, true, true, true, true, false]) (bodyPost_pan _ _ _) rfl rfl rfl rfl (by kernel_rfl) rfl (V_build (xo := [(0, _), (1, _), (2, _)]) (vs := [_, _, _]) rfl rfl (bd61_0_1_2_iii)) (fun _ hA => hA.only (is := [5, 6]) (Y := [_, _]) (Z := [_, _, _, _, _]) rfl) ?_
        refine HA_loud1 (i := 14) (by kernel_rfl) rfl ?_
        refine HO_store (i := 2) (j := 0) (us := []) (old := [_, _, _, _, _, _, _, _, _, _, _, _, _]) (ts := []) (cs := [_, _, _, _, _, _, _, _, _, _, _, _, _]) (R := [_, _, _, _, _, _]) (new := [_, _, _, _, _, _, _, _, _, _, _, _, _]) rfl rfl rfl Try.sizeOf61 rfl (by simp [Value.oneCell']) rfl rfl rfl rfl rfl rfl ?_
        refine HA_back (listed' := #[true, true, true, true, true, true, true, true, true, true, true, true, true, true, true]) rfl (fun _ hA => hA.only (is := [5, 6]) (Y := [_, _]) (Z := [_, _, _, _, _]) rfl) ?_
        refine HA_done (by kernel_rfl) ?_
        refine H_env (ρ' := [(3, _), (2, _), (0, _)]) ⟨rfl, rfl, rfl, trivial⟩ ?_
        refine H_world (fun _ hA => hA.drop (is := [3, 4, 6]) (Y := [_, _, _]) (Z := [_, _, _, _]) rfl) ?_
        refine H_seq ?_
        refine H_seq ?_
        -- R2 entry.go:133
        refine H_region (l := [_, _]) rfl ?_
        refine HO_fieldAddr (r := 2) rfl rfl rfl Try.underlying61 rfl Try.sizeOf3 rfl ?_
        refine HO_load1 (i := 0) (j := 2) rfl rfl rfl Try.isAgg3 rfl (.loc _ _ _) rfl rfl ?_
        refine HO_nil ?_
        refine H_env (ρ' := [(20, _), (3, _), (2, _), (0, _)]) ⟨rfl, rfl, rfl, rfl, trivial⟩ ?_
        refine H_block ?_
        refine H_seq ?_
        -- R3 entry.go:134
        refine H_region (l := [_, _]) rfl ?_
        refine HO_bin rfl rfl rfl rfl bin_eql ?_
        refine HO_assign rfl rfl rfl ?_
        refine HO_nil ?_
        refine H_env (ρ' := [(21, _), (20, _), (3, _), (2, _), (0, _)]) ⟨rfl, rfl, rfl, rfl, rfl, trivial⟩ ?_
        refine H_cond rfl ?_ ?_
        · intro h21
          (try simp only [decide_eq_true_eq, decide_eq_false_iff_not, Bool.not_eq_true', Bool.not_eq_false', Bool.not_eq_true, Bool.not_eq_false, Bool.true_eq_false, Bool.false_eq_true, not_false_eq_true, not_true_eq_false] at h21)
          refine H_seq ?_
          -- R4 entry.go:135
          refine H_region (l := [_, _, _, _, _, _, _, _, _, _, _, _]) rfl ?_
          refine HO_move rfl rfl rfl ?_
          refine HO_nilCheck rfl rfl rfl ?_
          refine HO_fieldAddr (r := 0) rfl rfl rfl Try.underlying130 rfl Try.sizeOf107 rfl ?_
          refine HO_dup (i := 2) rfl rfl ?_
          refine HO_call (first := []) (capt := []) (is := [1, 0]) (R := [_, _, _]) rfl rfl rfl rfl rfl Try.call76 rfl (cText_spec _ _ _ _ _ _ ?_) ?_
          · (first | omega | assumption | decide)
          intro y27 hy27
          generalize hr_r4 : Cod.rd [] (Cod.decT r3.2.1) r3.2.1 r3.2.2 = r4
          have hl_r4 : r4.2.1.length ≤ r3.2.1.length := hr_r4 ▸ Cod.rd_len _ _ _ _
          have hs_r4 := Cod.rdT_size hr_r4
          refine HO_strBytes rfl rfl rfl Try.underlying9 Try.underlying28 Try.underlying5 ?_ ?_
          · (simp only [maxLen]; omega)
          intro a28 c28
          refine HO_dup (i := 0) rfl rfl ?_
          refine HO_call (first := []) (capt := []) (is := [0]) (R := [_, _, _, _, _, _]) rfl rfl rfl rfl rfl Try.call28 rfl (cread_spec _ _ _ ?_) ?_
          · (have h := hs_r4; rw [Cod.size_mk] at h; show List.length r4.1 ≤ _; omega)
          intro y29 hy29
          clear y29 hy29
          generalize hc4 : Cmd.read ({ data := r4.1.toArray } : ByteArray).data.toList = c4
          replace hc4 : Cmd.read r4.1 = c4 := hc4
          refine HO_move rfl rfl rfl ?_
          refine HO_extract (vs := [_, _]) rfl rfl rfl rfl ?_
          refine HO_extract (vs := [_, _]) rfl rfl rfl rfl ?_
          refine HO_alloc (cs := [_, _, _, _, _, _, _, _]) rfl rfl Try.zeroValue23 rfl ?_
          intro g4
          refine HO_store (i := 0) (j := 0) (us := []) (old := [_, _, _, _, _, _, _, _]) (ts := []) (cs := [_, _, _, _, _, _, _, _]) (R := [_, _, _, _, _, _]) (new := [_, _, _, _, _, _, _, _]) rfl rfl rfl Try.sizeOf23 rfl (by simp [Value.oneCell']) rfl rfl rfl rfl rfl rfl ?_
          refine HO_assign rfl rfl rfl ?_
          refine HO_nil ?_
          refine H_env (ρ' := [(5, _), (4, _), (3, _), (2, _), (0, _)]) ⟨rfl, rfl, rfl, rfl, rfl, trivial⟩ ?_
          refine H_world (fun _ hA => hA.drop (is := [1, 5]) (Y := [_, _]) (Z := [_, _, _, _, _]) rfl) ?_
          refine H_seq ?_
          refine H_seq ?_
          -- R5 entry.go:136
          refine H_region (l := [_, _]) rfl ?_
          refine HO_move rfl rfl rfl ?_
          refine HO_bin rfl rfl rfl rfl bin_neq ?_
          refine HO_nil ?_
          refine H_env (ρ' := [(33, _), (4, _), (3, _), (2, _), (0, _)]) ⟨rfl, rfl, rfl, rfl, rfl, trivial⟩ ?_
          refine H_cond rfl ?_ ?_
          · intro h33
            (try simp only [decide_eq_true_eq, decide_eq_false_iff_not, Bool.not_eq_true', Bool.not_eq_false', Bool.not_eq_true, Bool.not_eq_false, Bool.true_eq_false, Bool.false_eq_true, not_false_eq_true, not_true_eq_false] at h33)
            -- R6 entry.go:137
            refine H_region (l := [_, _]) rfl ?_
            refine HO_move rfl rfl rfl ?_
            refine HO_dup (i := 2) rfl rfl ?_
            refine HO_call (first := []) (capt := []) (is := [1, 0]) (R := [_, _, _, _]) rfl rfl rfl rfl rfl Try.call143 rfl (rwrong_spec _ _ _ _ _ _) ?_
            intro y35 hy35
            clear y35 hy35
            refine HO_nil ?_
            refine H_env (ρ' := [(4, _), (3, _), (2, _)]) ⟨rfl, rfl, rfl, trivial⟩ ?_
            refine H_world (fun _ hA => hA.drop (is := [3]) (Y := [_]) (Z := [_, _, _, _, _]) rfl) ?_
            -- R7 entry.go:139
            refine H_region (l := [_, _, _]) rfl ?_
            refine HO_loadA (i := 2) (us := []) (cs := [_, _, _, _, _, _, _, _]) (ts := []) rfl rfl rfl Try.isAgg23 Try.sizeOf23 rfl (.loc _ _ _) rfl rfl rfl rfl ?_
            refine HO_fieldAddr (r := 3) rfl rfl rfl Try.underlying61 rfl Try.sizeOf23 rfl ?_
            refine HO_store (i := 3) (j := 0) (us := [_, _, _]) (old := [_, _, _, _, _, _, _, _]) (ts := [_, _]) (cs := [_, _, _, _, _, _, _, _]) (R := [_, _, _, _]) (new := [_, _, _, _, _, _, _, _, _, _, _, _, _]) rfl rfl rfl Try.sizeOf23 rfl (by simp [Value.oneCell']) rfl rfl rfl rfl rfl rfl ?_
            refine HO_nil ?_
            refine H_env (ρ' := [(3, _), (2, _)]) ⟨rfl, rfl, trivial⟩ ?_
            refine H_world (fun _ hA => hA.drop (is := [3]) (Y := [_]) (Z := [_, _, _, _]) rfl) ?_
            refine H_blk ?_
            refine H_seq ?_
            -- R10 entry.go:143
            refine H_region (l := [_, _]) rfl ?_
            refine HO_loadA (i := 0) (us := []) (cs := [_, _, _, _, _, _, _, _, _, _, _, _, _]) (ts := []) rfl rfl rfl Try.isAgg61 Try.sizeOf61 rfl (.loc _ _ _) rfl rfl rfl rfl ?_
            refine HO_store (i := 3) (j := 0) (us := []) (old := [_, _, _, _, _, _, _, _, _, _, _, _, _]) (ts := []) (cs := [_, _, _, _, _, _, _, _, _, _, _, _, _]) (R := [_, _, _]) (new := [_, _, _, _, _, _, _, _, _, _, _, _, _]) rfl rfl rfl Try.sizeOf61 rfl (by simp [Value.oneCell']) rfl rfl rfl rfl rfl rfl ?_
            refine HO_nil ?_
            refine H_env (ρ' := [(2, _)]) ⟨rfl, trivial⟩ ?_
            refine H_world (fun _ hA => hA.drop (is := [1]) (Y := [_]) (Z := [_, _, _]) rfl) ?_
            refine H_nilDat kInt ?_
            refine H_nilDat kInt ?_
            have hent := (Ent.entP_2 hr_r1 hr_r2 hr_r3 hr_r4 h21).trans (by rw [hc4, if_neg h33])
            -- end5
            refine H_ret1 Try.results103 (.cell rfl (fun w hA => run_loadVarA (cs := [_, _, _, _, _, _, _, _, _, _, _, _, _]) (Try.isAgg61 w) (Try.sizeOf61 w) (Tells.cells (.loc _ _ _) (hA.get (i := 2) rfl)))) (fun w hA => ⟨((none, 0), (none, 0), (none, 0)), congrArg Ending.returned ?_, ?_, ?_⟩)
            · (rw [hent] <;> rfl)
            · trivial
            · (rw [hent]; exact hA.only (is := [1, 2, 0, 0]) (Z := [_]) rfl)
          · intro h33
            (try simp only [decide_eq_true_eq, decide_eq_false_iff_not, Bool.not_eq_true', Bool.not_eq_false', Bool.not_eq_true, Bool.not_eq_false, Bool.true_eq_false, Bool.false_eq_true, not_false_eq_true, not_true_eq_false] at h33)
            refine H_skip ?_
            -- R7 entry.go:139
            refine H_region (l := [_, _, _]) rfl ?_
            refine HO_loadA (i := 0) (us := []) (cs := [_, _, _, _, _, _, _, _]) (ts := []) rfl rfl rfl Try.isAgg23 Try.sizeOf23 rfl (.loc _ _ _) rfl rfl rfl rfl ?_
            refine HO_fieldAddr (r := 3) rfl rfl rfl Try.underlying61 rfl Try.sizeOf23 rfl ?_
            refine HO_store (i := 3) (j := 0) (us := [_, _, _]) (old := [_, _, _, _, _, _, _, _]) (ts := [_, _]) (cs := [_, _, _, _, _, _, _, _]) (R := [_, _, _, _]) (new := [_, _, _, _, _, _, _, _, _, _, _, _, _]) rfl rfl rfl Try.sizeOf23 rfl (by simp [Value.oneCell']) rfl rfl rfl rfl rfl rfl ?_
            refine HO_nil ?_
            refine H_env (ρ' := [(3, _), (2, _)]) ⟨rfl, rfl, trivial⟩ ?_
            refine H_world (fun _ hA => hA.drop (is := [1]) (Y := [_]) (Z := [_, _, _, _]) rfl) ?_
            refine H_blk ?_
            refine H_seq ?_
            -- R10 entry.go:143
            refine H_region (l := [_, _]) rfl ?_
            refine HO_loadA (i := 0) (us := []) (cs := [_, _, _, _, _, _, _, _, _, _, _, _, _]) (ts := []) rfl rfl rfl Try.isAgg61 Try.sizeOf61 rfl (.loc _ _ _) rfl rfl rfl rfl ?_
            refine HO_store (i := 3) (j := 0) (us := []) (old := [_, _, _, _, _, _, _, _, _, _, _, _, _]) (ts := []) (cs := [_, _, _, _, _, _, _, _, _, _, _, _, _]) (R := [_, _, _]) (new := [_, _, _, _, _, _, _, _, _, _, _, _, _]) rfl rfl rfl Try.sizeOf61 rfl (by simp [Value.oneCell']) rfl rfl rfl rfl rfl rfl ?_
            refine HO_nil ?_
            refine H_env (ρ' := [(2, _)]) ⟨rfl, trivial⟩ ?_
            refine H_world (fun _ hA => hA.drop (is := [1]) (Y := [_]) (Z := [_, _, _]) rfl) ?_
            refine H_nilDat kInt ?_
            refine H_nilDat kInt ?_
            have hent := (Ent.entP_2 hr_r1 hr_r2 hr_r3 hr_r4 h21).trans (by rw [hc4, if_pos (Decidable.not_not.1 h33)])
            -- end6
            refine H_ret1 Try.results103 (.cell rfl (fun w hA => run_loadVarA (cs := [_, _, _, _, _, _, _, _, _, _, _, _, _]) (Try.isAgg61 w) (Try.sizeOf61 w) (Tells.cells (.loc _ _ _) (hA.get (i := 2) rfl)))) (fun w hA => ⟨(y27, (none, 0), (none, 0)), congrArg Ending.returned ?_, ?_, ?_⟩)
            · (rw [hent] <;> rfl)
            · trivial
            · (rw [hent]; exact hA.only (is := [1, 2, 0, 0]) (Z := [_]) rfl)
        · intro h21
          (try simp only [decide_eq_true_eq, decide_eq_false_iff_not, Bool.not_eq_true', Bool.not_eq_false', Bool.not_eq_true, Bool.not_eq_false, Bool.true_eq_false, Bool.false_eq_true, not_false_eq_true, not_true_eq_false] at h21)
          refine H_seq ?_
          -- R8 entry.go:140
          refine H_region (l := [_, _]) rfl ?_
          refine HO_bin rfl rfl rfl rfl bin_eql ?_
          refine HO_assign rfl rfl rfl ?_
          refine HO_nil ?_
          refine H_env (ρ' := [(38, _), (3, _), (2, _), (0, _)]) ⟨rfl, rfl, rfl, rfl, trivial⟩ ?_
          refine H_cond rfl ?_ ?_
          · intro h38
            (try simp only [decide_eq_true_eq, decide_eq_false_iff_not, Bool.not_eq_true', Bool.not_eq_false', Bool.not_eq_true, Bool.not_eq_false, Bool.true_eq_false, Bool.false_eq_true, not_false_eq_true, not_true_eq_false] at h38)
            -- R9 entry.go:141
            refine H_region (l := [_, _, _, _]) rfl ?_
            refine HO_move rfl rfl rfl ?_
            refine HO_dup (i := 2) rfl rfl ?_
            refine HO_call (first := []) (capt := []) (is := [1, 0]) (R := [_, _, _]) rfl rfl rfl rfl rfl Try.call144 rfl (cconf_spec _ _ _ _ _ _ ?_) ?_
            · (first | omega | assumption | decide)
            intro y41 hy41
            generalize hc3 : Ent.confP (r3.2.1, r3.2.2) = c3
            refine HO_fieldAddr (r := 11) rfl rfl rfl Try.underlying61 rfl Try.sizeOf45 rfl ?_
            refine HO_store (i := 4) (j := 0) (us := [_, _, _, _, _, _, _, _, _, _, _]) (old := [_, _]) (ts := []) (cs := [_, _]) (R := [_, _, _, _, _, _]) (new := [_, _, _, _, _, _, _, _, _, _, _, _, _]) rfl rfl rfl Try.sizeOf45 rfl (by simp [Value.oneCell']) rfl rfl rfl rfl rfl rfl ?_
            refine HO_nil ?_
            refine H_env (ρ' := [(3, _), (2, _)]) ⟨rfl, rfl, trivial⟩ ?_
            refine H_world (fun _ hA => hA.drop (is := [5]) (Y := [_]) (Z := [_, _, _, _, _, _]) rfl) ?_
            refine H_blk ?_
            refine H_seq ?_
            -- R10 entry.go:143
            refine H_region (l := [_, _]) rfl ?_
            refine HO_loadA (i := 0) (us := []) (cs := [_, _, _, _, _, _, _, _, _, _, _, _, _]) (ts := []) rfl rfl rfl Try.isAgg61 Try.sizeOf61 rfl (.loc _ _ _) rfl rfl rfl rfl ?_
            refine HO_store (i := 5) (j := 0) (us := []) (old := [_, _, _, _, _, _, _, _, _, _, _, _, _]) (ts := []) (cs := [_, _, _, _, _, _, _, _, _, _, _, _, _]) (R := [_, _, _, _, _]) (new := [_, _, _, _, _, _, _, _, _, _, _, _, _]) rfl rfl rfl Try.sizeOf61 rfl (by simp [Value.oneCell']) rfl rfl rfl rfl rfl rfl ?_
            refine HO_nil ?_
            refine H_env (ρ' := [(2, _)]) ⟨rfl, trivial⟩ ?_
            refine H_world (fun _ hA => hA.drop (is := [1]) (Y := [_]) (Z := [_, _, _, _, _]) rfl) ?_
            have hent := (Ent.entP_3 hr_r1 hr_r2 hr_r3 h38).trans (by rw [hc3])
            -- end7
            refine H_ret1 Try.results103 (.cell rfl (fun w hA => run_loadVarA (cs := [_, _, _, _, _, _, _, _, _, _, _, _, _]) (Try.isAgg61 w) (Try.sizeOf61 w) (Tells.cells (.loc _ _ _) (hA.get (i := 0) rfl)))) (fun w hA => ⟨y41, congrArg Ending.returned ?_, ?_, ?_⟩)
            · (rw [hent] <;> rfl)
            · trivial
            · (rw [hent]; exact hA.only (is := [1, 2, 3, 4]) (Z := [_]) rfl)
          · intro h38
            (try simp only [decide_eq_true_eq, decide_eq_false_iff_not, Bool.not_eq_true', Bool.not_eq_false', Bool.not_eq_true, Bool.not_eq_false, Bool.true_eq_false, Bool.false_eq_true, not_false_eq_true, not_true_eq_false] at h38)
            refine H_skip ?_
            refine H_blk ?_
            refine H_seq ?_
            -- R10 entry.go:143
            refine H_region (l := [_, _]) rfl ?_
            refine HO_loadA (i := 0) (us := []) (cs := [_, _, _, _, _, _, _, _, _, _, _, _, _]) (ts := []) rfl rfl rfl Try.isAgg61 Try.sizeOf61 rfl (.loc _ _ _) rfl rfl rfl rfl ?_
            refine HO_store (i := 3) (j := 0) (us := []) (old := [_, _, _, _, _, _, _, _, _, _, _, _, _]) (ts := []) (cs := [_, _, _, _, _, _, _, _, _, _, _, _, _]) (R := [_, _, _]) (new := [_, _, _, _, _, _, _, _, _, _, _, _, _]) rfl rfl rfl Try.sizeOf61 rfl (by simp [Value.oneCell']) rfl rfl rfl rfl rfl rfl ?_
            refine HO_nil ?_
            refine H_env (ρ' := [(2, _)]) ⟨rfl, trivial⟩ ?_
            refine H_world (fun _ hA => hA.drop (is := [1]) (Y := [_]) (Z := [_, _, _]) rfl) ?_
            refine H_nilDat kInt ?_
            refine H_nilDat kInt ?_
            have hent := Ent.entP_0 hr_r1 hr_r2 hr_r3 h21 h38
            -- end8
            refine H_ret1 Try.results103 (.cell rfl (fun w hA => run_loadVarA (cs := [_, _, _, _, _, _, _, _, _, _, _, _, _]) (Try.isAgg61 w) (Try.sizeOf61 w) (Tells.cells (.loc _ _ _) (hA.get (i := 2) rfl)))) (fun w hA => ⟨(y17, (none, 0), (none, 0)), congrArg Ending.returned ?_, ?_, ?_⟩)
            · (rw [hent] <;> rfl)
            · trivial
            · (rw [hent]; exact hA.only (is := [1, 2, 0, 0]) (Z := [_]) rfl)
    · refine HO_alloc (cs := [_, _, _, _, _, _, _, _, _, _, _, _, _]) rfl rfl Try.zeroValue61 rfl ?_
      intro g3
      refine HA_back (listed' := #[true, true, true, true, true, true, true, false, true, true, true, false, false, true, false]) rfl (fun _ hA => hA.only (is := [3, 4]) (Y := [_, _]) (Z := [_, _, _]) rfl) ?_
      refine HA_loud1 (i := 7) (by kernel_rfl) rfl ?_
      generalize hr_r1 : Cod.rd 0 (Cod.dec b) b w = r1
      have hl_r1 : r1.2.1.length ≤ b.length := hr_r1 ▸ Cod.rd_len _ _ _ _
      refine HO_dup (i := 2) rfl rfl ?_
      refine HO_call (first := []) (capt := []) (is := [1, 0]) (R := [_, _, _, _]) rfl rfl rfl rfl rfl Try.call75 rfl (cInt_spec _ _ _ _ _ _) ?_
      intro y13 hy13
      refine HA_back (listed' := #[true, true, true, true, true, true, true, true, true, true, true, false, false, true, false]) rfl (fun _ hA => hA.only (is := [4, 5]) (Y := [_, _]) (Z := [_, _, _, _]) rfl) ?_
      refine HA_loud1 (i := 11) (by kernel_rfl) rfl ?_
      generalize hr_r2 : Cod.rd 0 (Cod.dec r1.2.1) r1.2.1 r1.2.2 = r2
      have hl_r2 : r2.2.1.length ≤ r1.2.1.length := hr_r2 ▸ Cod.rd_len _ _ _ _
      refine HO_dup (i := 1) rfl rfl ?_
      refine HO_call (first := []) (capt := []) (is := [0, 0]) (R := [_, _, _, _, _]) rfl rfl rfl rfl rfl Try.call75 rfl (cInt_spec _ _ _ _ _ _) ?_
      intro y17 hy17
      refine HA_back (listed' := #[true, true, true, true, true, true, true, true, true, true, true, true, false, true, false]) rfl (fun _ hA => hA.only (is := [5, 6]) (Y := [_, _]) (Z := [_, _, _, _, _]) rfl) ?_
      generalize hr_r3 : Cod.rd 0 (Cod.dec r2.2.1) r2.2.1 r2.2.2 = r3
      have hl_r3 : r3.2.1.length ≤ r2.2.1.length := hr_r3 ▸ Cod.rd_len _ _ _ _
      refine HA_take (i := 12) (listed' := #[true, true, true, true, true, true, true, true, true, true, true, true, true, true, false]) (bodyPost_pan _ _ _) rfl rfl rfl rfl (by kernel_rfl) rfl (V_build (xo := [(0, _), (1, _), (2, _)]) (vs := [_, _, _]) rfl rfl (bd61_0_1_2_iii)) (fun _ hA => hA.only (is := [5, 6]) (Y := [_, _]) (Z := [_, _, _, _, _]) rfl) ?_
      refine HA_loud1 (i := 14) (by kernel_rfl) rfl ?_
      refine HO_store (i := 3) (j := 0) (us := []) (old := [_, _, _, _, _, _, _, _, _, _, _, _, _]) (ts := []) (cs := [_, _, _, _, _, _, _, _, _, _, _, _, _]) (R := [_, _, _, _, _, _]) (new := [_, _, _, _, _, _, _, _, _, _, _, _, _]) rfl rfl rfl Try.sizeOf61 rfl (by simp [Value.oneCell']) rfl rfl rfl rfl rfl rfl ?_
      refine HA_back (listed' := #[true, true, true, true, true, true, true, true, true, true, true, true, true, true, true]) rfl (fun _ hA => hA.only (is := [5, 6]) (Y := [_, _]) (Z := [_, _, _, _, _]) rfl) ?_
      refine HA_done (by kernel_rfl) ?_
      refine H_env (ρ' := [(3, _), (2, _), (0, _)]) ⟨rfl, rfl, rfl, trivial⟩ ?_
      refine H_world (fun _ hA => hA.drop (is := [3, 4, 6]) (Y := [_, _, _]) (Z := [_, _, _, _]) rfl) ?_
      refine H_seq ?_
      refine H_seq ?_
      -- R2 entry.go:133
      refine H_region (l := [_, _]) rfl ?_
      refine HO_fieldAddr (r := 2) rfl rfl rfl Try.underlying61 rfl Try.sizeOf3 rfl ?_
      refine HO_load1 (i := 0) (j := 2) rfl rfl rfl Try.isAgg3 rfl (.loc _ _ _) rfl rfl ?_
      refine HO_nil ?_
      refine H_env (ρ' := [(20, _), (3, _), (2, _), (0, _)]) ⟨rfl, rfl, rfl, rfl, trivial⟩ ?_
      refine H_block ?_
      refine H_seq ?_
      -- R3 entry.go:134
      refine H_region (l := [_, _]) rfl ?_
      refine HO_bin rfl rfl rfl rfl bin_eql ?_
      refine HO_assign rfl rfl rfl ?_
      refine HO_nil ?_
      refine H_env (ρ' := [(21, _), (20, _), (3, _), (2, _), (0, _)]) ⟨rfl, rfl, rfl, rfl, rfl, trivial⟩ ?_
      refine H_cond rfl ?_ ?_
      · intro h21
        (try simp only [decide_eq_true_eq, decide_eq_false_iff_not, Bool.not_eq_true', Bool.not_eq_false', Bool.not_eq_true, Bool.not_eq_false, Bool.true_eq_false, Bool.false_eq_true, not_false_eq_true, not_true_eq_false] at h21)
        refine H_seq ?_
        -- R4 entry.go:135
        refine H_region (l := [_, _, _, _, _, _, _, _, _, _, _, _]) rfl ?_
        refine HO_move rfl rfl rfl ?_
        refine HO_nilCheck rfl rfl rfl ?_
        refine HO_fieldAddr (r := 0) rfl rfl rfl Try.underlying130 rfl Try.sizeOf107 rfl ?_
        refine HO_dup (i := 2) rfl rfl ?_
        refine HO_call (first := []) (capt := []) (is := [1, 0]) (R := [_, _, _]) rfl rfl rfl rfl rfl Try.call76 rfl (cText_spec _ _ _ _ _ _ ?_) ?_
        · (first | omega | assumption | decide)
        intro y27 hy27
        generalize hr_r4 : Cod.rd [] (Cod.decT r3.2.1) r3.2.1 r3.2.2 = r4
        have hl_r4 : r4.2.1.length ≤ r3.2.1.length := hr_r4 ▸ Cod.rd_len _ _ _ _
        have hs_r4 := Cod.rdT_size hr_r4
        refine HO_strBytes rfl rfl rfl Try.underlying9 Try.underlying28 Try.underlying5 ?_ ?_
        · (simp only [maxLen]; omega)
        intro a28 c28
        refine HO_dup (i := 0) rfl rfl ?_
        refine HO_call (first := []) (capt := []) (is := [0]) (R := [_, _, _, _, _, _]) rfl rfl rfl rfl rfl Try.call28 rfl (cread_spec _ _ _ ?_) ?_
        · (have h := hs_r4; rw [Cod.size_mk] at h; show List.length r4.1 ≤ _; omega)
        intro y29 hy29
        clear y29 hy29
        generalize hc4 : Cmd.read ({ data := r4.1.toArray } : ByteArray).data.toList = c4
        replace hc4 : Cmd.read r4.1 = c4 := hc4
        refine HO_move rfl rfl rfl ?_
        refine HO_extract (vs := [_, _]) rfl rfl rfl rfl ?_
        refine HO_extract (vs := [_, _]) rfl rfl rfl rfl ?_
        refine HO_alloc (cs := [_, _, _, _, _, _, _, _]) rfl rfl Try.zeroValue23 rfl ?_
        intro g4
        refine HO_store (i := 0) (j := 0) (us := []) (old := [_, _, _, _, _, _, _, _]) (ts := []) (cs := [_, _, _, _, _, _, _, _]) (R := [_, _, _, _, _, _]) (new := [_, _, _, _, _, _, _, _]) rfl rfl rfl Try.sizeOf23 rfl (by simp [Value.oneCell']) rfl rfl rfl rfl rfl rfl ?_
        refine HO_assign rfl rfl rfl ?_
        refine HO_nil ?_
        refine H_env (ρ' := [(5, _), (4, _), (3, _), (2, _), (0, _)]) ⟨rfl, rfl, rfl, rfl, rfl, trivial⟩ ?_
        refine H_world (fun _ hA => hA.drop (is := [1, 5]) (Y := [_, _]) (Z := [_, _, _, _, _]) rfl) ?_
        refine H_seq ?_
        refine H_seq ?_
        -- R5 entry.go:136
        refine H_region (l := [_, _]) rfl ?_
        refine HO_move rfl rfl rfl ?_
        refine HO_bin rfl rfl rfl rfl bin_neq ?_
        refine HO_nil ?_
        refine H_env (ρ' := [(33, _), (4, _), (3, _), (2, _), (0, _)]) ⟨rfl, rfl, rfl, rfl, rfl, trivial⟩ ?_
        refine H_cond rfl ?_ ?_
        · intro h33
          (try simp only [decide_eq_true_eq, decide_eq_false_iff_not, Bool.not_eq_true', Bool.not_eq_false', Bool.not_eq_true, Bool.not_eq_false, Bool.true_eq_false, Bool.false_eq_true, not_false_eq_true, not_true_eq_false] at h33)
          -- R6 entry.go:137
          refine H_region (l := [_, _]) rfl ?_
          refine HO_move rfl rfl rfl ?_
          refine HO_dup (i := 2) rfl rfl ?_
          refine HO_call (first := []) (capt := []) (is := [1, 0]) (R := [_, _, _, _]) rfl rfl rfl rfl rfl Try.call143 rfl (rwrong_spec _ _ _ _ _ _) ?_
          intro y35 hy35
          clear y35 hy35
          refine HO_nil ?_
          refine H_env (ρ' := [(4, _), (3, _), (2, _)]) ⟨rfl, rfl, rfl, trivial⟩ ?_
          refine H_world (fun _ hA => hA.drop (is := [3]) (Y := [_]) (Z := [_, _, _, _, _]) rfl) ?_
          -- R7 entry.go:139
          refine H_region (l := [_, _, _]) rfl ?_
          refine HO_loadA (i := 2) (us := []) (cs := [_, _, _, _, _, _, _, _]) (ts := []) rfl rfl rfl Try.isAgg23 Try.sizeOf23 rfl (.loc _ _ _) rfl rfl rfl rfl ?_
          refine HO_fieldAddr (r := 3) rfl rfl rfl Try.underlying61 rfl Try.sizeOf23 rfl ?_
          refine HO_store (i := 3) (j := 0) (us := [_, _, _]) (old := [_, _, _, _, _, _, _, _]) (ts := [_, _]) (cs := [_, _, _, _, _, _, _, _]) (R := [_, _, _, _]) (new := [_, _, _, _, _, _, _, _, _, _, _, _, _]) rfl rfl rfl Try.sizeOf23 rfl (by simp [Value.oneCell']) rfl rfl rfl rfl rfl rfl ?_
          refine HO_nil ?_
          refine H_env (ρ' := [(3, _), (2, _)]) ⟨rfl, rfl, trivial⟩ ?_
          refine H_world (fun _ hA => hA.drop (is := [3]) (Y := [_]) (Z := [_, _, _, _]) rfl) ?_
          refine H_blk ?_
          refine H_seq ?_
          -- R10 entry.go:143
          refine H_region (l := [_, _]) rfl ?_
          refine HO_loadA (i := 0) (us := []) (cs := [_, _, _, _, _, _, _, _, _, _, _, _, _]) (ts := []) rfl rfl rfl Try.isAgg61 Try.sizeOf61 rfl (.loc _ _ _) rfl rfl rfl rfl ?_
          refine HO_store (i := 3) (j := 0) (us := []) (old := [_, _, _, _, _, _, _, _, _, _, _, _, _]) (ts := []) (cs := [_, _, _, _, _, _, _, _, _, _, _, _, _]) (R := [_, _, _]) (new := [_, _, _, _, _, _, _, _, _, _, _, _, _]) rfl rfl rfl Try.sizeOf61 rfl (by simp [Value.oneCell']) rfl rfl rfl rfl rfl rfl ?_
          refine HO_nil ?_
          refine H_env (ρ' := [(2, _)]) ⟨rfl, trivial⟩ ?_
          refine H_world (fun _ hA => hA.drop (is := [1]) (Y := [_]) (Z := [_, _, _]) rfl) ?_
          refine H_nilDat kInt ?_
          refine H_nilDat kInt ?_
          have hent := (Ent.entP_2 hr_r1 hr_r2 hr_r3 hr_r4 h21).trans (by rw [hc4, if_neg h33])
          -- end9
          refine H_ret1 Try.results103 (.cell rfl (fun w hA => run_loadVarA (cs := [_, _, _, _, _, _, _, _, _, _, _, _, _]) (Try.isAgg61 w) (Try.sizeOf61 w) (Tells.cells (.loc _ _ _) (hA.get (i := 2) rfl)))) (fun w hA => ⟨((none, 0), (none, 0), (none, 0)), congrArg Ending.returned ?_, ?_, ?_⟩)
          · (rw [hent] <;> rfl)
          · trivial
          · (rw [hent]; exact hA.only (is := [1, 2, 0, 0]) (Z := [_]) rfl)
        · intro h33
          (try simp only [decide_eq_true_eq, decide_eq_false_iff_not, Bool.not_eq_true', Bool.not_eq_false', Bool.not_eq_true, Bool.not_eq_false, Bool.true_eq_false, Bool.false_eq_true, not_false_eq_true, not_true_eq_false] at h33)
          refine H_skip ?_
          -- R7 entry.go:139
          refine H_region (l := [_, _, _]) rfl ?_
          refine HO_loadA (i := 0) (us := []) (cs := [_, _, _, _, _, _, _, _]) (ts := []) rfl rfl rfl Try.isAgg23 Try.sizeOf23 rfl (.loc _ _ _) rfl rfl rfl rfl ?_
          refine HO_fieldAddr (r := 3) rfl rfl rfl Try.underlying61 rfl Try.sizeOf23 rfl ?_
          refine HO_store (i := 3) (j := 0) (us := [_, _, _]) (old := [_, _, _, _, _, _, _, _]) (ts := [_, _]) (cs := [_, _, _, _, _, _, _, _]) (R := [_, _, _, _]) (new := [_, _, _, _, _, _, _, _, _, _, _, _, _]) rfl rfl rfl Try.sizeOf23 rfl (by simp [Value.oneCell']) rfl rfl rfl rfl rfl rfl ?_
          refine HO_nil ?_
          refine H_env (ρ' := [(3, _), (2, _)]) ⟨rfl, rfl, trivial⟩ ?_
          refine H_world (fun _ hA => hA.drop (is := [1]) (Y := [_]) (Z := [_, _, _, _]) rfl) ?_
          refine H_blk ?_
          refine H_seq ?_
          -- R10 entry.go:143
          refine H_region (l := [_, _]) rfl ?_
          refine HO_loadA (i := 0) (us := []) (cs := [_, _, _, _, _, _, _, _, _, _, _, _, _]) (ts := []) rfl rfl rfl Try.isAgg61 Try.sizeOf61 rfl (.loc _ _ _) rfl rfl rfl rfl ?_
          refine HO_store (i := 3) (j := 0) (us := []) (old := [_, _, _, _, _, _, _, _, _, _, _, _, _]) (ts := []) (cs := [_, _, _, _, _, _, _, _, _, _, _, _, _]) (R := [_, _, _]) (new := [_, _, _, _, _, _, _, _, _, _, _, _, _]) rfl rfl rfl Try.sizeOf61 rfl (by simp [Value.oneCell']) rfl rfl rfl rfl rfl rfl ?_
          refine HO_nil ?_
          refine H_env (ρ' := [(2, _)]) ⟨rfl, trivial⟩ ?_
          refine H_world (fun _ hA => hA.drop (is := [1]) (Y := [_]) (Z := [_, _, _]) rfl) ?_
          refine H_nilDat kInt ?_
          refine H_nilDat kInt ?_
          have hent := (Ent.entP_2 hr_r1 hr_r2 hr_r3 hr_r4 h21).trans (by rw [hc4, if_pos (Decidable.not_not.1 h33)])
          -- end10
          refine H_ret1 Try.results103 (.cell rfl (fun w hA => run_loadVarA (cs := [_, _, _, _, _, _, _, _, _, _, _, _, _]) (Try.isAgg61 w) (Try.sizeOf61 w) (Tells.cells (.loc _ _ _) (hA.get (i := 2) rfl)))) (fun w hA => ⟨(y27, (none, 0), (none, 0)), congrArg Ending.returned ?_, ?_, ?_⟩)
          · (rw [hent] <;> rfl)
          · trivial
          · (rw [hent]; exact hA.only (is := [1, 2, 0, 0]) (Z := [_]) rfl)
      · intro h21
        (try simp only [decide_eq_true_eq, decide_eq_false_iff_not, Bool.not_eq_true', Bool.not_eq_false', Bool.not_eq_true, Bool.not_eq_false, Bool.true_eq_false, Bool.false_eq_true, not_false_eq_true, not_true_eq_false] at h21)
        refine H_seq ?_
        -- R8 entry.go:140
        refine H_region (l := [_, _]) rfl ?_
        refine HO_bin rfl rfl rfl rfl bin_eql ?_
        refine HO_assign rfl rfl rfl ?_
        refine HO_nil ?_
        refine H_env (ρ' := [(38, _), (3, _), (2, _), (0, _)]) ⟨rfl, rfl, rfl, rfl, trivial⟩ ?_
        refine H_cond rfl ?_ ?_
        · intro h38
          (try simp only [decide_eq_true_eq, decide_eq_false_iff_not, Bool.not_eq_true', Bool.not_eq_false', Bool.not_eq_true, Bool.not_eq_false, Bool.true_eq_false, Bool.false_eq_true, not_false_eq_true, not_true_eq_false] at h38)
          -- R9 entry.go:141
          refine H_region (l := [_, _, _, _]) rfl ?_
          refine HO_move rfl rfl rfl ?_
          refine HO_dup (i := 2) rfl rfl ?_
          refine HO_call (first := []) (capt := []) (is := [1, 0]) (R := [_, _, _]) rfl rfl rfl rfl rfl Try.call144 rfl (cconf_spec _ _ _ _ _ _ ?_) ?_
          · (first | omega | assumption | decide)
          intro y41 hy41
          generalize hc3 : Ent.confP (r3.2.1, r3.2.2) = c3
          refine HO_fieldAddr (r := 11) rfl rfl rfl Try.underlying61 rfl Try.sizeOf45 rfl ?_
          refine HO_store (i := 4) (j := 0) (us := [_, _, _, _, _, _, _, _, _, _, _]) (old := [_, _]) (ts := []) (cs := [_, _]) (R := [_, _, _, _, _, _]) (new := [_, _, _, _, _, _, _, _, _, _, _, _, _]) rfl rfl rfl Try.sizeOf45 rfl (by simp [Value.oneCell']) rfl rfl rfl rfl rfl rfl ?_
          refine HO_nil ?_
          refine H_env (ρ' := [(3, _), (2, _)]) ⟨rfl, rfl, trivial⟩ ?_
          refine H_world (fun _ hA => hA.drop (is := [5]) (Y := [_]) (Z := [_, _, _, _, _, _]) rfl) ?_
          refine H_blk ?_
          refine H_seq ?_
          -- R10 entry.go:143
          refine H_region (l := [_, _]) rfl ?_
          refine HO_loadA (i := 0) (us := []) (cs := [_, _, _, _, _, _, _, _, _, _, _, _, _]) (ts := []) rfl rfl rfl Try.isAgg61 Try.sizeOf61 rfl (.loc _ _ _) rfl rfl rfl rfl ?_
          refine HO_store (i := 5) (j := 0) (us := []) (old := [_, _, _, _, _, _, _, _, _, _, _, _, _]) (ts := []) (cs := [_, _, _, _, _, _, _, _, _, _, _, _, _]) (R := [_, _, _, _, _]) (new := [_, _, _, _, _, _, _, _, _, _, _, _, _]) rfl rfl rfl Try.sizeOf61 rfl (by simp [Value.oneCell']) rfl rfl rfl rfl rfl rfl ?_
          refine HO_nil ?_
          refine H_env (ρ' := [(2, _)]) ⟨rfl, trivial⟩ ?_
          refine H_world (fun _ hA => hA.drop (is := [1]) (Y := [_]) (Z := [_, _, _, _, _]) rfl) ?_
          have hent := (Ent.entP_3 hr_r1 hr_r2 hr_r3 h38).trans (by rw [hc3])
          -- end11
          refine H_ret1 Try.results103 (.cell rfl (fun w hA => run_loadVarA (cs := [_, _, _, _, _, _, _, _, _, _, _, _, _]) (Try.isAgg61 w) (Try.sizeOf61 w) (Tells.cells (.loc _ _ _) (hA.get (i := 0) rfl)))) (fun w hA => ⟨y41, congrArg Ending.returned ?_, ?_, ?_⟩)
          · (rw [hent] <;> rfl)
          · trivial
          · (rw [hent]; exact hA.only (is := [1, 2, 3, 4]) (Z := [_]) rfl)
        · intro h38
          (try simp only [decide_eq_true_eq, decide_eq_false_iff_not, Bool.not_eq_true', Bool.not_eq_false', Bool.not_eq_true, Bool.not_eq_false, Bool.true_eq_false, Bool.false_eq_true, not_false_eq_true, not_true_eq_false] at h38)
          refine H_skip ?_
          refine H_blk ?_
          refine H_seq ?_
          -- R10 entry.go:143
          refine H_region (l := [_, _]) rfl ?_
          refine HO_loadA (i := 0) (us := []) (cs := [_, _, _, _, _, _, _, _, _, _, _, _, _]) (ts := []) rfl rfl rfl Try.isAgg61 Try.sizeOf61 rfl (.loc _ _ _) rfl rfl rfl rfl ?_
          refine HO_store (i := 3) (j := 0) (us := []) (old := [_, _, _, _, _, _, _, _, _, _, _, _, _]) (ts := []) (cs := [_, _, _, _, _, _, _, _, _, _, _, _, _]) (R := [_, _, _]) (new := [_, _, _, _, _, _, _, _, _, _, _, _, _]) rfl rfl rfl Try.sizeOf61 rfl (by simp [Value.oneCell']) rfl rfl rfl rfl rfl rfl ?_
          refine HO_nil ?_
          refine H_env (ρ' := [(2, _)]) ⟨rfl, trivial⟩ ?_
          refine H_world (fun _ hA => hA.drop (is := [1]) (Y := [_]) (Z := [_, _, _]) rfl) ?_
          refine H_nilDat kInt ?_
          refine H_nilDat kInt ?_
          have hent := Ent.entP_0 hr_r1 hr_r2 hr_r3 h21 h38
          -- end12
          refine H_ret1 Try.results103 (.cell rfl (fun w hA => run_loadVarA (cs := [_, _, _, _, _, _, _, _, _, _, _, _, _]) (Try.isAgg61 w) (Try.sizeOf61 w) (Tells.cells (.loc _ _ _) (hA.get (i := 2) rfl)))) (fun w hA => ⟨(y17, (none, 0), (none, 0)), congrArg Ending.returned ?_, ?_, ?_⟩)
          · (rw [hent] <;> rfl)
          · trivial
          · (rw [hent]; exact hA.only (is := [1, 2, 0, 0]) (Z := [_]) rfl)
  · refine HO_alloc (cs := [_, _, _, _, _, _, _, _, _, _, _, _, _]) rfl rfl Try.zeroValue61 rfl ?_
    intro g3
    refine HA_back (listed' := #[true, true, true, false, true, true, true, false, true, true, true, false, false, true, false]) rfl (fun _ hA => hA.only (is := [1, 3]) (Y := [_, _]) (Z := [_, _]) rfl) ?_
    refine HA_loud1 (i := 3) (by kernel_rfl) rfl ?_
    refine HO_dup (i := 3) rfl rfl ?_
    refine HO_call (first := []) (capt := []) (is := [2, 0]) (R := [_, _, _]) rfl rfl rfl rfl rfl Try.call75 rfl (cInt_spec _ _ _ _ _ _) ?_
    intro y9 hy9
    refine HA_back (listed' := #[true, true, true, true, true, true, true, false, true, true, true, false, false, true, false]) rfl (fun _ hA => hA.only (is := [3, 4]) (Y := [_, _]) (Z := [_, _, _]) rfl) ?_
    refine HA_loud1 (i := 7) (by kernel_rfl) rfl ?_
    generalize hr_r1 : Cod.rd 0 (Cod.dec b) b w = r1
    have hl_r1 : r1.2.1.length ≤ b.length := hr_r1 ▸ Cod.rd_len _ _ _ _
    refine HO_dup (i := 1) rfl rfl ?_
    refine HO_call (first := []) (capt := []) (is := [0, 0]) (R := [_, _, _, _]) rfl rfl rfl rfl rfl Try.call75 rfl (cInt_spec _ _ _ _ _ _) ?_
    intro y13 hy13
    refine HA_back (listed' := #[true, true, true, true, true, true, true, true, true, true, true, false, false, true, false]) rfl (fun _ hA => hA.only (is := [4, 5]) (Y := [_, _]) (Z := [_, _, _, _]) rfl) ?_
    refine HA_loud1 (i := 11) (by kernel_rfl) rfl ?_
    generalize hr_r2 : Cod.rd 0 (Cod.dec r1.2.1) r1.2.1 r1.2.2 = r2
    have hl_r2 : r2.2.1.length ≤ r1.2.1.length := hr_r2 ▸ Cod.rd_len _ _ _ _
    refine HO_dup (i := 1) rfl rfl ?_
    refine HO_call (first := []) (capt := []) (is := [0, 0]) (R := [_, _, _, _, _]) rfl rfl rfl rfl rfl Try.call75 rfl (cInt_spec _ _ _ _ _ _) ?_
    intro y17 hy17
    refine HA_back (listed' := #[true, true, true, true, true, true, true, true, true, true, true, true, false, true, false]) rfl (fun _ hA => hA.only (is := [5, 6]) (Y := [_, _]) (Z := [_, _, _, _, _]) rfl) ?_
    generalize hr_r3 : Cod.rd 0 (Cod.dec r2.2.1) r2.2.1 r2.2.2 = r3
    have hl_r3 : r3.2.1.length ≤ r2.2.1.length := hr_r3 ▸ Cod.rd_len _ _ _ _
    refine HA_take (i := 12) (listed' := #[true, true, true, true, true, true, true, true, true, true, true, true, true, true, false]) (bodyPost_pan _ _ _) rfl rfl rfl rfl (by kernel_rfl) rfl (V_build (xo := [(0, _), (1, _), (2, _)]) (vs := [_, _, _]) rfl rfl (bd61_0_1_2_iii)) (fun _ hA => hA.only (is := [5, 6]) (Y := [_, _]) (Z := [_, _, _, _, _]) rfl) ?_
    refine HA_loud1 (i := 14) (by kernel_rfl) rfl ?_
    refine HO_store (i := 4) (j := 0) (us := []) (old := [_, _, _, _, _, _, _, _, _, _, _, _, _]) (ts := []) (cs := [_, _, _, _, _, _, _, _, _, _, _, _, _]) (R := [_, _, _, _, _, _]) (new := [_, _, _, _, _, _, _, _, _, _, _, _, _]) rfl rfl rfl Try.sizeOf61 rfl (by simp [Value.oneCell']) rfl rfl rfl rfl rfl rfl ?_
    refine HA_back (listed' := #[true, true, true, true, true, true, true, true, true, true, true, true, true, true, true]) rfl (fun _ hA => hA.only (is := [5, 6]) (Y := [_, _]) (Z := [_, _, _, _, _]) rfl) ?_
    refine HA_done (by kernel_rfl) ?_
    refine H_env (ρ' := [(3, _), (2, _), (0, _)]) ⟨rfl, rfl, rfl, trivial⟩ ?_
    refine H_world (fun _ hA => hA.drop (is := [3, 4, 6]) (Y := [_, _, _]) (Z := [_, _, _, _]) rfl) ?_
    refine H_seq ?_
    refine H_seq ?_
    -- R2 entry.go:133
    refine H_region (l := [_, _]) rfl ?_
    refine HO_fieldAddr (r := 2) rfl rfl rfl Try.underlying61 rfl Try.sizeOf3 rfl ?_
    refine HO_load1 (i := 0) (j := 2) rfl rfl rfl Try.isAgg3 rfl (.loc _ _ _) rfl rfl ?_
    refine HO_nil ?_
    refine H_env (ρ' := [(20, _), (3, _), (2, _), (0, _)]) ⟨rfl, rfl, rfl, rfl, trivial⟩ ?_
    refine H_block ?_
    refine H_seq ?_
    -- R3 entry.go:134
    refine H_region (l := [_, _]) rfl ?_
    refine HO_bin rfl rfl rfl rfl bin_eql ?_
    refine HO_assign rfl rfl rfl ?_
    refine HO_nil ?_
    refine H_env (ρ' := [(21, _), (20, _), (3, _), (2, _), (0, _)]) ⟨rfl, rfl, rfl, rfl, rfl, trivial⟩ ?_
    refine H_cond rfl ?_ ?_
    · intro h21
      (try simp only [decide_eq_true_eq, decide_eq_false_iff_not, Bool.not_eq_true', Bool.not_eq_false', Bool.not_eq_true, Bool.not_eq_false, Bool.true_eq_false, Bool.false_eq_true, not_false_eq_true, not_true_eq_false] at h21)
      refine H_seq ?_
      -- R4 entry.go:135
      refine H_region (l := [_, _, _, _, _, _, _, _, _, _, _, _]) rfl ?_
      refine HO_move rfl rfl rfl ?_
      refine HO_nilCheck rfl rfl rfl ?_
      refine HO_fieldAddr (r := 0) rfl rfl rfl Try.underlying130 rfl Try.sizeOf107 rfl ?_
      refine HO_dup (i := 2) rfl rfl ?_
      refine HO_call (first := []) (capt := []) (is := [1, 0]) (R := [_, _, _]) rfl rfl rfl rfl rfl Try.call76 rfl (cText_spec _ _ _ _ _ _ ?_) ?_
      · (first | omega | assumption | decide)
      intro y27 hy27
      generalize hr_r4 : Cod.rd [] (Cod.decT r3.2.1) r3.2.1 r3.2.2 = r4
      have hl_r4 : r4.2.1.length ≤ r3.2.1.length := hr_r4 ▸ Cod.rd_len _ _ _ _
      have hs_r4 := Cod.rdT_size hr_r4
      refine HO_strBytes rfl rfl rfl Try.underlying9 Try.underlying28 Try.underlying5 ?_ ?_
      · (simp only [maxLen]; omega)
      intro a28 c28
      refine HO_dup (i := 0) rfl rfl ?_
      refine HO_call (first := []) (capt := []) (is := [0]) (R := [_, _, _, _, _, _]) rfl rfl rfl rfl rfl Try.call28 rfl (cread_spec _ _ _ ?_) ?_
      · (have h := hs_r4; rw [Cod.size_mk] at h; show List.length r4.1 ≤ _; omega)
      intro y29 hy29
      clear y29 hy29
      generalize hc4 : Cmd.read ({ data := r4.1.toArray } : ByteArray).data.toList = c4
      replace hc4 : Cmd.read r4.1 = c4 := hc4
      refine HO_move rfl rfl rfl ?_
      refine HO_extract (vs := [_, _]) rfl rfl rfl rfl ?_
      refine HO_extract (vs := [_, _]) rfl rfl rfl rfl ?_
      refine HO_alloc (cs := [_, _, _, _, _, _, _, _]) rfl rfl Try.zeroValue23 rfl ?_
      intro g4
      refine HO_store (i := 0) (j := 0) (us := []) (old := [_, _, _, _, _, _, _, _]) (ts := []) (cs := [_, _, _, _, _, _, _, _]) (R := [_, _, _, _, _, _]) (new := [_, _, _, _, _, _, _, _]) rfl rfl rfl Try.sizeOf23 rfl (by simp [Value.oneCell']) rfl rfl rfl rfl rfl rfl ?_
      refine HO_assign rfl rfl rfl ?_
      refine HO_nil ?_
      refine H_env (ρ' := [(5, _), (4, _), (3, _), (2, _), (0, _)]) ⟨rfl, rfl, rfl, rfl, rfl, trivial⟩ ?_
      refine H_world (fun _ hA => hA.drop (is := [1, 5]) (Y := [_, _]) (Z := [_, _, _, _, _]) rfl) ?_
      refine H_seq ?_
      refine H_seq ?_
      -- R5 entry.go:136
      refine H_region (l := [_, _]) rfl ?_
      refine HO_move rfl rfl rfl ?_
      refine HO_bin rfl rfl rfl rfl bin_neq ?_
      refine HO_nil ?_
      refine H_env (ρ' := [(33, _), (4, _), (3, _), (2, _), (0, _)]) ⟨rfl, rfl, rfl, rfl, rfl, trivial⟩ ?_
      refine H_cond rfl ?_ ?_
      · intro h33
        (try simp only [decide_eq_true_eq, decide_eq_false_iff_not, Bool.not_eq_true', Bool.not_eq_false', Bool.not_eq_true, Bool.not_eq_false, Bool.true_eq_false, Bool.false_eq_true, not_false_eq_true, not_true_eq_false] at h33)
        -- R6 entry.go:137
        refine H_region (l := [_, _]) rfl ?_
        refine HO_move rfl rfl rfl ?_
        refine HO_dup (i := 2) rfl rfl ?_
        refine HO_call (first := []) (capt := []) (is := [1, 0]) (R := [_, _, _, _]) rfl rfl rfl rfl rfl Try.call143 rfl (rwrong_spec _ _ _ _ _ _) ?_
        intro y35 hy35
        clear y35 hy35
        refine HO_nil ?_
        refine H_env (ρ' := [(4, _), (3, _), (2, _)]) ⟨rfl, rfl, rfl, trivial⟩ ?_
        refine H_world (fun _ hA => hA.drop (is := [3]) (Y := [_]) (Z := [_, _, _, _, _]) rfl) ?_
        -- R7 entry.go:139
        refine H_region (l := [_, _, _]) rfl ?_
        refine HO_loadA (i := 2) (us := []) (cs := [_, _, _, _, _, _, _, _]) (ts := []) rfl rfl rfl Try.isAgg23 Try.sizeOf23 rfl (.loc _ _ _) rfl rfl rfl rfl ?_
        refine HO_fieldAddr (r := 3) rfl rfl rfl Try.underlying61 rfl Try.sizeOf23 rfl ?_
        refine HO_store (i := 3) (j := 0) (us := [_, _, _]) (old := [_, _, _, _, _, _, _, _]) (ts := [_, _]) (cs := [_, _, _, _, _, _, _, _]) (R := [_, _, _, _]) (new := [_, _, _, _, _, _, _, _, _, _, _, _, _]) rfl rfl rfl Try.sizeOf23 rfl (by simp [Value.oneCell']) rfl rfl rfl rfl rfl rfl ?_
        refine HO_nil ?_
        refine H_env (ρ' := [(3, _), (2, _)]) ⟨rfl, rfl, trivial⟩ ?_
        refine H_world (fun _ hA => hA.drop (is := [3]) (Y := [_]) (Z := [_, _, _, _]) rfl) ?_
        refine H_blk ?_
        refine H_seq ?_
        -- R10 entry.go:143
        refine H_region (l := [_, _]) rfl ?_
        refine HO_loadA (i := 0) (us := []) (cs := [_, _, _, _, _, _, _, _, _, _, _, _, _]) (ts := []) rfl rfl rfl Try.isAgg61 Try.sizeOf61 rfl (.loc _ _ _) rfl rfl rfl rfl ?_
        refine HO_store (i := 3) (j := 0) (us := []) (old := [_, _, _, _, _, _, _, _, _, _, _, _, _]) (ts := []) (cs := [_, _, _, _, _, _, _, _, _, _, _, _, _]) (R := [_, _, _]) (new := [_, _, _, _, _, _, _, _, _, _, _, _, _]) rfl rfl rfl Try.sizeOf61 rfl (by simp [Value.oneCell']) rfl rfl rfl rfl rfl rfl ?_
        refine HO_nil ?_
        refine H_env (ρ' := [(2, _)]) ⟨rfl, trivial⟩ ?_
        refine H_world (fun _ hA => hA.drop (is := [1]) (Y := [_]) (Z := [_, _, _]) rfl) ?_
        refine H_nilDat kInt ?_
        refine H_nilDat kInt ?_
        have hent := (Ent.entP_2 hr_r1 hr_r2 hr_r3 hr_r4 h21).trans (by rw [hc4, if_neg h33])
        -- end13
        refine H_ret1 Try.results103 (.cell rfl (fun w hA => run_loadVarA (cs := [_, _, _, _, _, _, _, _, _, _, _, _, _]) (Try.isAgg61 w) (Try.sizeOf61 w) (Tells.cells (.loc _ _ _) (hA.get (i := 2) rfl)))) (fun w hA => ⟨((none, 0), (none, 0), (none, 0)), congrArg Ending.returned ?_, ?_, ?_⟩)
        · (rw [hent] <;> rfl)
        · trivial
        · (rw [hent]; exact hA.only (is := [1, 2, 0, 0]) (Z := [_]) rfl)
      · intro h33
        (try simp only [decide_eq_true_eq, decide_eq_false_iff_not, Bool.not_eq_true', Bool.not_eq_false', Bool.not_eq_true, Bool.not_eq_false, Bool.true_eq_false, Bool.false_eq_true, not_false_eq_true, not_true_eq_false] at h33)
        refine H_skip ?_
        -- R7 entry.go:139
        refine H_region (l := [_, _, _]) rfl ?_
        refine HO_loadA (i := 0) (us := []) (cs := [_, _, _, _, _, _, _, _]) (ts := []) rfl rfl rfl Try.isAgg23 Try.sizeOf23 rfl (.loc _ _ _) rfl rfl rfl rfl ?_
        refine HO_fieldAddr (r := 3) rfl rfl rfl Try.underlying61 rfl Try.sizeOf23 rfl ?_
        refine HO_store (i := 3) (j := 0) (us := [_, _, _]) (old := [_, _, _, _, _, _, _, _]) (ts := [_, _]) (cs := [_, _, _, _, _, _, _, _]) (R := [_, _, _, _]) (new := [_, _, _, _, _, _, _, _, _, _, _, _, _]) rfl rfl rfl Try.sizeOf23 rfl (by simp [Value.oneCell']) rfl rfl rfl rfl rfl rfl ?_
        refine HO_nil ?_
        refine H_env (ρ' := [(3, _), (2, _)]) ⟨rfl, rfl, trivial⟩ ?_
        refine H_world (fun _ hA => hA.drop (is := [1]) (Y := [_]) (Z := [_, _, _, _]) rfl) ?_
        refine H_blk ?_
        refine H_seq ?_
        -- R10 entry.go:143
        refine H_region (l := [_, _]) rfl ?_
        refine HO_loadA (i := 0) (us := []) (cs := [_, _, _, _, _, _, _, _, _, _, _, _, _]) (ts := []) rfl rfl rfl Try.isAgg61 Try.sizeOf61 rfl (.loc _ _ _) rfl rfl rfl rfl ?_
        refine HO_store (i := 3) (j := 0) (us := []) (old := [_, _, _, _, _, _, _, _, _, _, _, _, _]) (ts := []) (cs := [_, _, _, _, _, _, _, _, _, _, _, _, _]) (R := [_, _, _]) (new := [_, _, _, _, _, _, _, _, _, _, _, _, _]) rfl rfl rfl Try.sizeOf61 rfl (by simp [Value.oneCell']) rfl rfl rfl rfl rfl rfl ?_
        refine HO_nil ?_
        refine H_env (ρ' := [(2, _)]) ⟨rfl, trivial⟩ ?_
        refine H_world (fun _ hA => hA.drop (is := [1]) (Y := [_]) (Z := [_, _, _]) rfl) ?_
        refine H_nilDat kInt ?_
        refine H_nilDat kInt ?_
        have hent := (Ent.entP_2 hr_r1 hr_r2 hr_r3 hr_r4 h21).trans (by rw [hc4, if_pos (Decidable.not_not.1 h33)])
        -- end14
        refine H_ret1 Try.results103 (.cell rfl (fun w hA => run_loadVarA (cs := [_, _, _, _, _, _, _, _, _, _, _, _, _]) (Try.isAgg61 w) (Try.sizeOf61 w) (Tells.cells (.loc _ _ _) (hA.get (i := 2) rfl)))) (fun w hA => ⟨(y27, (none, 0), (none, 0)), congrArg Ending.returned ?_, ?_, ?_⟩)
        · (rw [hent] <;> rfl)
        · trivial
        · (rw [hent]; exact hA.only (is := [1, 2, 0, 0]) (Z := [_]) rfl)
    · intro h21
      (try simp only [decide_eq_true_eq, decide_eq_false_iff_not, Bool.not_eq_true', Bool.not_eq_false', Bool.not_eq_true, Bool.not_eq_false, Bool.true_eq_false, Bool.false_eq_true, not_false_eq_true, not_true_eq_false] at h21)
      refine H_seq ?_
      -- R8 entry.go:140
      refine H_region (l := [_, _]) rfl ?_
      refine HO_bin rfl rfl rfl rfl bin_eql ?_
      refine HO_assign rfl rfl rfl ?_
      refine HO_nil ?_
      refine H_env (ρ' := [(38, _), (3, _), (2, _), (0, _)]) ⟨rfl, rfl, rfl, rfl, trivial⟩ ?_
      refine H_cond rfl ?_ ?_
      · intro h38
        (try simp only [decide_eq_true_eq, decide_eq_false_iff_not, Bool.not_eq_true', Bool.not_eq_false', Bool.not_eq_true, Bool.not_eq_false, Bool.true_eq_false, Bool.false_eq_true, not_false_eq_true, not_true_eq_false] at h38)
        -- R9 entry.go:141
        refine H_region (l := [_, _, _, _]) rfl ?_
        refine HO_move rfl rfl rfl ?_
        refine HO_dup (i := 2) rfl rfl ?_
        refine HO_call (first := []) (capt := []) (is := [1, 0]) (R := [_, _, _]) rfl rfl rfl rfl rfl Try.call144 rfl (cconf_spec _ _ _ _ _ _ ?_) ?_
        · (first | omega | assumption | decide)
        intro y41 hy41
        generalize hc3 : Ent.confP (r3.2.1, r3.2.2) = c3
        refine HO_fieldAddr (r := 11) rfl rfl rfl Try.underlying61 rfl Try.sizeOf45 rfl ?_
        refine HO_store (i := 4) (j := 0) (us := [_, _, _, _, _, _, _, _, _, _, _]) (old := [_, _]) (ts := []) (cs := [_, _]) (R := [_, _, _, _, _, _]) (new := [_, _, _, _, _, _, _, _, _, _, _, _, _]) rfl rfl rfl Try.sizeOf45 rfl (by simp [Value.oneCell']) rfl rfl rfl rfl rfl rfl ?_
        refine HO_nil ?_
        refine H_env (ρ' := [(3, _), (2, _)]) ⟨rfl, rfl, trivial⟩ ?_
        refine H_world (fun _ hA => hA.drop (is := [5]) (Y := [_]) (Z := [_, _, _, _, _, _]) rfl) ?_
        refine H_blk ?_
        refine H_seq ?_
        -- R10 entry.go:143
        refine H_region (l := [_, _]) rfl ?_
        refine HO_loadA (i := 0) (us := []) (cs := [_, _, _, _, _, _, _, _, _, _, _, _, _]) (ts := []) rfl rfl rfl Try.isAgg61 Try.sizeOf61 rfl (.loc _ _ _) rfl rfl rfl rfl ?_
        refine HO_store (i := 5) (j := 0) (us := []) (old := [_, _, _, _, _, _, _, _, _, _, _, _, _]) (ts := []) (cs := [_, _, _, _, _, _, _, _, _, _, _, _, _]) (R := [_, _, _, _, _]) (new := [_, _, _, _, _, _, _, _, _, _, _, _, _]) rfl rfl rfl Try.sizeOf61 rfl (by simp [Value.oneCell']) rfl rfl rfl rfl rfl rfl ?_
        refine HO_nil ?_
        refine H_env (ρ' := [(2, _)]) ⟨rfl, trivial⟩ ?_
        refine H_world (fun _ hA => hA.drop (is := [1]) (Y := [_]) (Z := [_, _, _, _, _]) rfl) ?_
        have hent := (Ent.entP_3 hr_r1 hr_r2 hr_r3 h38).trans (by rw [hc3])
        -- end15
        refine H_ret1 Try.results103 (.cell rfl (fun w hA => run_loadVarA (cs := [_, _, _, _, _, _, _, _, _, _, _, _, _]) (Try.isAgg61 w) (Try.sizeOf61 w) (Tells.cells (.loc _ _ _) (hA.get (i := 0) rfl)))) (fun w hA => ⟨y41, congrArg Ending.returned ?_, ?_, ?_⟩)
        · (rw [hent] <;> rfl)
        · trivial
        · (rw [hent]; exact hA.only (is := [1, 2, 3, 4]) (Z := [_]) rfl)
      · intro h38
        (try simp only [decide_eq_true_eq, decide_eq_false_iff_not, Bool.not_eq_true', Bool.not_eq_false', Bool.not_eq_true, Bool.not_eq_false, Bool.true_eq_false, Bool.false_eq_true, not_false_eq_true, not_true_eq_false] at h38)
        refine H_skip ?_
        refine H_blk ?_
        refine H_seq ?_
        -- R10 entry.go:143
        refine H_region (l := [_, _]) rfl ?_
        refine HO_loadA (i := 0) (us := []) (cs := [_, _, _, _, _, _, _, _, _, _, _, _, _]) (ts := []) rfl rfl rfl Try.isAgg61 Try.sizeOf61 rfl (.loc _ _ _) rfl rfl rfl rfl ?_
        refine HO_store (i := 3) (j := 0) (us := []) (old := [_, _, _, _, _, _, _, _, _, _, _, _, _]) (ts := []) (cs := [_, _, _, _, _, _, _, _, _, _, _, _, _]) (R := [_, _, _]) (new := [_, _, _, _, _, _, _, _, _, _, _, _, _]) rfl rfl rfl Try.sizeOf61 rfl (by simp [Value.oneCell']) rfl rfl rfl rfl rfl rfl ?_
        refine HO_nil ?_
        refine H_env (ρ' := [(2, _)]) ⟨rfl, trivial⟩ ?_
        refine H_world (fun _ hA => hA.drop (is := [1]) (Y := [_]) (Z := [_, _, _]) rfl) ?_
        refine H_nilDat kInt ?_
        refine H_nilDat kInt ?_
        have hent := Ent.entP_0 hr_r1 hr_r2 hr_r3 h21 h38
        -- end16
        refine H_ret1 Try.results103 (.cell rfl (fun w hA => run_loadVarA (cs := [_, _, _, _, _, _, _, _, _, _, _, _, _]) (Try.isAgg61 w) (Try.sizeOf61 w) (Tells.cells (.loc _ _ _) (hA.get (i := 2) rfl)))) (fun w hA => ⟨(y17, (none, 0), (none, 0)), congrArg Ending.returned ?_, ?_, ?_⟩)
        · (rw [hent] <;> rfl)
        · trivial
        · (rw [hent]; exact hA.only (is := [1, 2, 0, 0]) (Z := [_]) rfl)
theorem creadsnap_spec (T : TypeId) (g : Nat) (b : List UInt8) (w : Bool) (a : Option Addr) (c : Nat) (hb : b.length ≤ 100000) : Spec Try.prog 108 #[.pointer (some ⟨g, 0, none⟩)] [.loc g [.slice a (b.length) c, .bool (w)] T, .dat kByte.sl (b) [.slice a (b.length) c]] (β := (Option Addr × Nat) × (Option Addr × Nat) × (Option Addr × Nat) × (Option Addr × Nat)) (fun y => .agg #[.int .i64 ((Ent.snapP (b, w)).1.idx), .int .i64 ((Ent.snapP (b, w)).1.term), .slice y.2.1.1 (((Ent.snapP (b, w)).1.conf.vot).length) y.2.1.2, .slice y.2.2.1.1 (((Ent.snapP (b, w)).1.conf.lea).length) y.2.2.1.2, .slice y.2.2.2.1 (((Ent.snapP (b, w)).1.data).length) y.2.2.2.2]) (fun y => True) (fun y => [.loc g [.slice y.1.1 (((Ent.snapP (b, w)).2.1).length) y.1.2, .bool ((Ent.snapP (b, w)).2.2)] T, .dat kByte.sl ((Ent.snapP (b, w)).2.1) [.slice y.1.1 (((Ent.snapP (b, w)).2.1).length) y.1.2], .dat kInt.sl ((Ent.snapP (b, w)).1.conf.vot) [.slice y.2.1.1 (((Ent.snapP (b, w)).1.conf.vot).length) y.2.1.2], .dat kInt.sl ((Ent.snapP (b, w)).1.conf.lea) [.slice y.2.2.1.1 (((Ent.snapP (b, w)).1.conf.lea).length) y.2.2.1.2], .dat kByte.sl ((Ent.snapP (b, w)).1.data) [.slice y.2.2.2.1 (((Ent.snapP (b, w)).1.data).length) y.2.2.2.2]]) := by
  refine Spec.enter (vs := [_]) Try.func108 rfl Try.ntmps108 rfl (Nat.le_of_ble_eq_true rfl) (fun w0 ok0 => ?_)
  generalize hM0 : blks _ = M0
  refine H_seq ?_
  -- R0 entry.go:146
  refine H_region (l := [_]) rfl ?_
  refine HO_alloc (cs := [_, _, _, _, _]) rfl rfl Try.zeroValue47 rfl ?_
  intro g2
  refine HO_nil ?_
  refine H_seq ?_
  -- R1 entry.go:147 draws
  refine H_draw (is := [0, 2]) (Xs := [_, _]) (Z := [_]) (fuel := 11) (l := #[false, false, false, false, false, false, false, false, false, false, false]) mixed rfl rfl rfl ?_
  refine HA_take (i := 0) (listed' := #[true, false, false, false, false, false, false, false, false, false, false]) (bodyPost_pan _ _ _) rfl rfl rfl rfl (by kernel_rfl) rfl (V_move rfl) (fun _ hA => hA.only (is := [0, 2]) (Y := [_, _]) (Z := [_]) rfl) ?_
  refine HA_take (i := 1) (listed' := #[true, true, false, false, false, false, false, false, false, false, false]) (bodyPost_pan _ _ _) rfl rfl rfl rfl (by kernel_rfl) rfl (V_nilCheck rfl) (fun _ hA => hA.only (is := [0, 2]) (Y := [_, _]) (Z := [_]) rfl) ?_
  refine HA_take (i := 2) (listed' := #[true, true, true, false, false, false, false, false, false, false, false]) (bodyPost_pan _ _ _) rfl rfl rfl rfl (by kernel_rfl) rfl (V_fieldAddr (r := 0) rfl Try.underlying130 rfl Try.sizeOf107 rfl) (fun _ hA => hA.only (is := [0, 2]) (Y := [_, _]) (Z := [_]) rfl) ?_
  refine HA_take (i := 4) (listed' := #[true, true, true, false, true, false, false, false, false, false, false]) (bodyPost_pan _ _ _) rfl rfl rfl rfl (by kernel_rfl) rfl (V_move rfl) (fun _ hA => hA.only (is := [0, 2]) (Y := [_, _]) (Z := [_]) rfl) ?_
  refine HA_take (i := 5) (listed' := #[true, true, true, false, true, true, false, false, false, false, false]) (bodyPost_pan _ _ _) rfl rfl rfl rfl (by kernel_rfl) rfl (V_nilCheck rfl) (fun _ hA => hA.only (is := [0, 2]) (Y := [_, _]) (Z := [_]) rfl) ?_
  refine HA_take (i := 6) (listed' := #[true, true, true, false, true, true, true, false, false, false, false]) (bodyPost_pan _ _ _) rfl rfl rfl rfl (by kernel_rfl) rfl (V_fieldAddr (r := 0) rfl Try.underlying130 rfl Try.sizeOf107 rfl) (fun _ hA => hA.only (is := [0, 2]) (Y := [_, _]) (Z := [_]) rfl) ?_
  refine HA_loud2 (i := 3) (j := 9) (by kernel_rfl) rfl rfl ?_ ?_
  · refine HO_dup (i := 2) rfl rfl ?_
    refine HO_call (first := []) (capt := []) (is := [1, 0]) (R := [_, _]) rfl rfl rfl rfl rfl Try.call75 rfl (cInt_spec _ _ _ _ _ _) ?_
    intro y7 hy7
    refine HA_back (listed' := #[true, true, true, true, true, true, true, false, false, false, false]) rfl (fun _ hA => hA.only (is := [2, 3]) (Y := [_, _]) (Z := [_, _]) rfl) ?_
    refine HA_loud2 (i := 7) (j := 9) (by kernel_rfl) rfl rfl ?_ ?_
    · generalize hr_r1 : Cod.rd 0 (Cod.dec b) b w = r1
      have hl_r1 : r1.2.1.length ≤ b.length := hr_r1 ▸ Cod.rd_len _ _ _ _
      refine HO_dup (i := 1) rfl rfl ?_
      refine HO_call (first := []) (capt := []) (is := [0, 0]) (R := [_, _, _]) rfl rfl rfl rfl rfl Try.call75 rfl (cInt_spec _ _ _ _ _ _) ?_
      intro y11 hy11
      refine HA_back (listed' := #[true, true, true, true, true, true, true, true, false, false, false]) rfl (fun _ hA => hA.only (is := [3, 4]) (Y := [_, _]) (Z := [_, _, _]) rfl) ?_
      generalize hr_r2 : Cod.rd 0 (Cod.dec r1.2.1) r1.2.1 r1.2.2 = r2
      have hl_r2 : r2.2.1.length ≤ r1.2.1.length := hr_r2 ▸ Cod.rd_len _ _ _ _
      refine HA_take (i := 8) (listed' := #[true, true, true, true, true, true, true, true, true, false, false]) (bodyPost_pan _ _ _) rfl rfl rfl rfl (by kernel_rfl) rfl (V_build (xo := [(0, _), (1, _)]) (vs := [_, _]) rfl rfl (bd47_0_1_ii)) (fun _ hA => hA.only (is := [3, 4]) (Y := [_, _]) (Z := [_, _, _]) rfl) ?_
      refine HA_loud1 (i := 9) (by kernel_rfl) rfl ?_
      refine HO_alloc (cs := [_, _, _, _, _]) rfl rfl Try.zeroValue47 rfl ?_
      intro g3
      refine HA_back (listed' := #[true, true, true, true, true, true, true, true, true, true, false]) rfl (fun _ hA => hA.only (is := [4, 5]) (Y := [_, _]) (Z := [_, _, _, _]) rfl) ?_
      refine HA_loud1 (i := 10) (by kernel_rfl) rfl ?_
      refine HO_store (i := 0) (j := 0) (us := []) (old := [_, _, _, _, _]) (ts := []) (cs := [_, _, _, _, _]) (R := [_, _, _, _, _]) (new := [_, _, _, _, _]) rfl rfl rfl Try.sizeOf47 rfl (by simp [Value.oneCell']) rfl rfl rfl rfl rfl rfl ?_
      refine HA_back (listed' := #[true, true, true, true, true, true, true, true, true, true, true]) rfl (fun _ hA => hA.only (is := [4, 5]) (Y := [_, _]) (Z := [_, _, _, _]) rfl) ?_
      refine HA_done (by kernel_rfl) ?_
      refine H_env (ρ' := [(3, _), (2, _), (0, _)]) ⟨rfl, rfl, rfl, trivial⟩ ?_
      refine H_world (fun _ hA => hA.drop (is := [3, 5]) (Y := [_, _]) (Z := [_, _, _, _]) rfl) ?_
      refine H_seq ?_
      -- R2 entry.go:148
      refine H_region (l := [_, _, _, _]) rfl ?_
      refine HO_move rfl rfl rfl ?_
      refine HO_dup (i := 2) rfl rfl ?_
      refine HO_call (first := []) (capt := []) (is := [1, 0]) (R := [_, _, _]) rfl rfl rfl rfl rfl Try.call144 rfl (cconf_spec _ _ _ _ _ _ ?_) ?_
      · (first | omega | assumption | decide)
      intro y14 hy14
      have hcl3 := Ent.confP_len (r2.2.1, r2.2.2)
      obtain ⟨c3, hc3⟩ : ∃ e, Ent.confP (r2.2.1, r2.2.2) = e := ⟨_, rfl⟩
      rw [hc3] at hcl3 ⊢
      dsimp only at hcl3
      refine HO_fieldAddr (r := 2) rfl rfl rfl Try.underlying47 rfl Try.sizeOf45 rfl ?_
      refine HO_store (i := 4) (j := 0) (us := [_, _]) (old := [_, _]) (ts := [_]) (cs := [_, _]) (R := [_, _, _, _, _, _]) (new := [_, _, _, _, _]) rfl rfl rfl Try.sizeOf45 rfl (by simp [Value.oneCell']) rfl rfl rfl rfl rfl rfl ?_
      refine HO_nil ?_
      refine H_env (ρ' := [(3, _), (2, _), (0, _)]) ⟨rfl, rfl, rfl, trivial⟩ ?_
      refine H_world (fun _ hA => hA.drop (is := [5]) (Y := [_]) (Z := [_, _, _, _, _, _]) rfl) ?_
      refine H_seq ?_
      -- R3 entry.go:149
      refine H_region (l := [_, _, _, _, _, _, _]) rfl ?_
      refine HO_move rfl rfl rfl ?_
      refine HO_nilCheck rfl rfl rfl ?_
      refine HO_fieldAddr (r := 0) rfl rfl rfl Try.underlying130 rfl Try.sizeOf107 rfl ?_
      refine HO_dup (i := 2) rfl rfl ?_
      refine HO_call (first := []) (capt := []) (is := [1, 0]) (R := [_, _, _, _, _]) rfl rfl rfl rfl rfl Try.call76 rfl (cText_spec _ _ _ _ _ _ ?_) ?_
      · (first | omega | assumption | decide)
      intro y19 hy19
      generalize hr_r3 : Cod.rd [] (Cod.decT c3.2.1) c3.2.1 c3.2.2 = r3
      have hl_r3 : r3.2.1.length ≤ c3.2.1.length := hr_r3 ▸ Cod.rd_len _ _ _ _
      have hs_r3 := Cod.rdT_size hr_r3
      refine HO_strBytes rfl rfl rfl Try.underlying9 Try.underlying28 Try.underlying5 ?_ ?_
      · (simp only [maxLen]; omega)
      intro a20 c20
      refine HO_fieldAddr (r := 4) rfl rfl rfl Try.underlying47 rfl Try.sizeOf28 rfl ?_
      refine HO_store (i := 3) (j := 0) (us := [_, _, _, _]) (old := [_]) (ts := []) (cs := [_]) (R := [_, _, _, _, _, _, _]) (new := [_, _, _, _, _]) rfl rfl rfl Try.sizeOf28 rfl (by simp [Value.oneCell']) rfl rfl rfl rfl rfl rfl ?_
      refine HO_nil ?_
      refine H_env (ρ' := [(3, _), (2, _)]) ⟨rfl, rfl, trivial⟩ ?_
      refine H_world (fun _ hA => hA.drop (is := [4]) (Y := [_]) (Z := [_, _, _, _, _, _, _]) rfl) ?_
      refine H_seq ?_
      -- R4 entry.go:150
      refine H_region (l := [_, _]) rfl ?_
      refine HO_loadA (i := 0) (us := []) (cs := [_, _, _, _, _]) (ts := []) rfl rfl rfl Try.isAgg47 Try.sizeOf47 rfl (.loc _ _ _) rfl rfl rfl rfl ?_
      refine HO_store (i := 6) (j := 0) (us := []) (old := [_, _, _, _, _]) (ts := []) (cs := [_, _, _, _, _]) (R := [_, _, _, _, _, _]) (new := [_, _, _, _, _]) rfl rfl rfl Try.sizeOf47 rfl (by simp [Value.oneCell']) rfl rfl rfl rfl rfl rfl ?_
      refine HO_nil ?_
      refine H_env (ρ' := [(2, _)]) ⟨rfl, trivial⟩ ?_
      refine H_world (fun _ hA => hA.drop (is := [1]) (Y := [_]) (Z := [_, _, _, _, _, _]) rfl) ?_
      have hsp := Ent.snapP_of hr_r1 hr_r2 hc3 hr_r3
      -- end1
      refine H_ret1 Try.results108 (.cell rfl (fun w hA => run_loadVarA (cs := [_, _, _, _, _]) (Try.isAgg47 w) (Try.sizeOf47 w) (Tells.cells (.loc _ _ _) (hA.get (i := 0) rfl)))) (fun w hA => ⟨(y19, y14.2.1, y14.2.2, (a20, c20)), congrArg Ending.returned ?_, ?_, ?_⟩)
      · (rw [hsp] <;> rfl)
      · trivial
      · (rw [hsp]; exact hA.only (is := [1, 2, 3, 4, 1]) (Z := [_]) rfl)
    · refine HO_alloc (cs := [_, _, _, _, _]) rfl rfl Try.zeroValue47 rfl ?_
      intro g3
      refine HA_back (listed' := #[true, true, true, true, true, true, true, false, false, true, false]) rfl (fun _ hA => hA.only (is := [3, 4]) (Y := [_, _]) (Z := [_, _, _]) rfl) ?_
      refine HA_loud1 (i := 7) (by kernel_rfl) rfl ?_
      generalize hr_r1 : Cod.rd 0 (Cod.dec b) b w = r1
      have hl_r1 : r1.2.1.length ≤ b.length := hr_r1 ▸ Cod.rd_len _ _ _ _
      refine HO_dup (i := 2) rfl rfl ?_
      refine HO_call (first := []) (capt := []) (is := [1, 0]) (R := [_, _, _, _]) rfl rfl rfl rfl rfl Try.call75 rfl (cInt_spec _ _ _ _ _ _) ?_
      intro y11 hy11
      refine HA_back (listed' := #[true, true, true, true, true, true, true, true, false, true, false]) rfl (fun _ hA => hA.only (is := [4, 5]) (Y := [_, _]) (Z := [_, _, _, _]) rfl) ?_
      generalize hr_r2 : Cod.rd 0 (Cod.dec r1.2.1) r1.2.1 r1.2.2 = r2
      have hl_r2 : r2.2.1.length ≤ r1.2.1.length := hr_r2 ▸ Cod.rd_len _ _ _ _
      refine HA_take (i := 8) (listed' := #[true, true, true, true, true, true, true, true, true, true, false]) (bodyPost_pan _ _ _) rfl rfl rfl rfl (by kernel_rfl) rfl (V_build (xo := [(0, _), (1, _)]) (vs := [_, _]) rfl rfl (bd47_0_1_ii)) (fun _ hA => hA.only (is := [4, 5]) (Y := [_, _]) (Z := [_, _, _, _]) rfl) ?_
      refine HA_loud1 (i := 10) (by kernel_rfl) rfl ?_
      refine HO_store (i := 2) (j := 0) (us := []) (old := [_, _, _, _, _]) (ts := []) (cs := [_, _, _, _, _]) (R := [_, _, _, _, _]) (new := [_, _, _, _, _]) rfl rfl rfl Try.sizeOf47 rfl (by simp [Value.oneCell']) rfl rfl rfl rfl rfl rfl ?_
      refine HA_back (listed' := #[true, true, true, true, true, true, true, true, true, true, true]) rfl (fun _ hA => hA.only (is := [4, 5]) (Y := [_, _]) (Z := [_, _, _, _]) rfl) ?_
      refine HA_done (by kernel_rfl) ?_
      refine H_env (ρ' := [(3, _), (2, _), (0, _)]) ⟨rfl, rfl, rfl, trivial⟩ ?_
      refine H_world (fun _ hA => hA.drop (is := [3, 5]) (Y := [_, _]) (Z := [_, _, _, _]) rfl) ?_
      refine H_seq ?_
      -- R2 entry.go:148
      refine H_region (l := [_, _, _, _]) rfl ?_
      refine HO_move rfl rfl rfl ?_
      refine HO_dup (i := 2) rfl rfl ?_
      refine HO_call (first := []) (capt := []) (is := [1, 0]) (R := [_, _, _]) rfl rfl rfl rfl rfl Try.call144 rfl (cconf_spec _ _ _ _ _ _ ?_) ?_
      · (first | omega | assumption | decide)
      intro y14 hy14
      have hcl3 := Ent.confP_len (r2.2.1, r2.2.2)
      obtain ⟨c3, hc3⟩ : ∃ e, Ent.confP (r2.2.1, r2.2.2) = e := ⟨_, rfl⟩
      rw [hc3] at hcl3 ⊢
      dsimp only at hcl3
      refine HO_fieldAddr (r := 2) rfl rfl rfl Try.underlying47 rfl Try.sizeOf45 rfl ?_
      refine HO_store (i := 4) (j := 0) (us := [_, _]) (old := [_, _]) (ts := [_]) (cs := [_, _]) (R := [_, _, _, _, _, _]) (new := [_, _, _, _, _]) rfl rfl rfl Try.sizeOf45 rfl (by simp [Value.oneCell']) rfl rfl rfl rfl rfl rfl ?_
      refine HO_nil ?_
      refine H_env (ρ' := [(3, _), (2, _), (0, _)]) ⟨rfl, rfl, rfl, trivial⟩ ?_
      refine H_world (fun _ hA => hA.drop (is := [5]) (Y := [_]) (Z := [_, _, _, _, _, _]) rfl) ?_
      refine H_seq ?_
      -- R3 entry.go:149
      refine H_region (l := [_, _, _, _, _, _, _]) rfl ?_
      refine HO_move rfl rfl rfl ?_
      refine HO_nilCheck rfl rfl rfl ?_
      refine HO_fieldAddr (r := 0) rfl rfl rfl Try.underlying130 rfl Try.sizeOf107 rfl ?_
      refine HO_dup (i := 2) rfl rfl ?_
      refine HO_call (first := []) (capt := []) (is := [1, 0]) (R := [_, _, _, _, _]) rfl rfl rfl rfl rfl Try.call76 rfl (cText_spec _ _ _ _ _ _ ?_) ?_
      · (first | omega | assumption | decide)
      intro y19 hy19
      generalize hr_r3 : Cod.rd [] (Cod.decT c3.2.1) c3.2.1 c3.2.2 = r3
      have hl_r3 : r3.2.1.length ≤ c3.2.1.length := hr_r3 ▸ Cod.rd_len _ _ _ _
      have hs_r3 := Cod.rdT_size hr_r3
      refine HO_strBytes rfl rfl rfl Try.underlying9 Try.underlying28 Try.underlying5 ?_ ?_
      · (simp only [maxLen]; omega)
      intro a20 c20
      refine HO_fieldAddr (r := 4) rfl rfl rfl Try.underlying47 rfl Try.sizeOf28 rfl ?_
      refine HO_store (i := 3) (j := 0) (us := [_, _, _, _]) (old := [_]) (ts := []) (cs := [_]) (R := [_, _, _, _, _, _, _]) (new := [_, _, _, _, _]) rfl rfl rfl Try.sizeOf28 rfl (by simp [Value.oneCell']) rfl rfl rfl rfl rfl rfl ?_
      refine HO_nil ?_
      refine H_env (ρ' := [(3, _), (2, _)]) ⟨rfl, rfl, trivial⟩ ?_
      refine H_world (fun _ hA => hA.drop (is := [4]) (Y := [_]) (Z := [_, _, _, _, _, _, _]) rfl) ?_
      refine H_seq ?_
      -- R4 entry.go:150
      refine H_region (l := [_, _]) rfl ?_
      refine HO_loadA (i := 0) (us := []) (cs := [_, _, _, _, _]) (ts := []) rfl rfl rfl Try.isAgg47 Try.sizeOf47 rfl (.loc _ _ _) rfl rfl rfl rfl ?_
      refine HO_store (i := 6) (j := 0) (us := []) (old := [_, _, _, _, _]) (ts := []) (cs := [_, _, _, _, _]) (R := [_, _, _, _, _, _]) (new := [_, _, _, _, _]) rfl rfl rfl Try.sizeOf47 rfl (by simp [Value.oneCell']) rfl rfl rfl rfl rfl rfl ?_
      refine HO_nil ?_
      refine H_env (ρ' := [(2, _)]) ⟨rfl, trivial⟩ ?_
      refine H_world (fun _ hA => hA.drop (is := [1]) (Y := [_]) (Z := [_, _, _, _, _, _]) rfl) ?_
      have hsp := Ent.snapP_of hr_r1 hr_r2 hc3 hr_r3
      -- end2
      refine H_ret1 Try.results108 (.cell rfl (fun w hA => run_loadVarA (cs := [_, _, _, _, _]) (Try.isAgg47 w) (Try.sizeOf47 w) (Tells.cells (.loc _ _ _) (hA.get (i := 0) rfl)))) (fun w hA => ⟨(y19, y14.2.1, y14.2.2, (a20, c20)), congrArg Ending.returned ?_, ?_, ?_⟩)
      · (rw [hsp] <;> rfl)
      · trivial
      · (rw [hsp]; exact hA.only (is := [1, 2, 3, 4, 1]) (Z := [_]) rfl)
  · refine HO_alloc (cs := [_, _, _, _, _]) rfl rfl Try.zeroValue47 rfl ?_
    intro g3
    refine HA_back (listed' := #[true, true, true, false, true, true, true, false, false, true, false]) rfl (fun _ hA => hA.only (is := [1, 3]) (Y := [_, _]) (Z := [_, _]) rfl) ?_
    refine HA_loud1 (i := 3) (by kernel_rfl) rfl ?_
    refine HO_dup (i := 3) rfl rfl ?_
    refine HO_call (first := []) (capt := []) (is := [2, 0]) (R := [_, _, _]) rfl rfl rfl rfl rfl Try.call75 rfl (cInt_spec _ _ _ _ _ _) ?_
    intro y7 hy7
    refine HA_back (listed' := #[true, true, true, true, true, true, true, false, false, true, false]) rfl (fun _ hA => hA.only (is := [3, 4]) (Y := [_, _]) (Z := [_, _, _]) rfl) ?_
    refine HA_loud1 (i := 7) (by kernel_rfl) rfl ?_
    generalize hr_r1 : Cod.rd 0 (Cod.dec b) b w = r1
    have hl_r1 : r1.2.1.length ≤ b.length := hr_r1 ▸ Cod.rd_len _ _ _ _
    refine HO_dup (i := 1) rfl rfl ?_
    refine HO_call (first := []) (capt := []) (is := [0, 0]) (R := [_, _, _, _]) rfl rfl rfl rfl rfl Try.call75 rfl (cInt_spec _ _ _ _ _ _) ?_
    intro y11 hy11
    refine HA_back (listed' := #[true, true, true, true, true, true, true, true, false, true, false]) rfl (fun _ hA => hA.only (is := [4, 5]) (Y := [_, _]) (Z := [_, _, _, _]) rfl) ?_
    generalize hr_r2 : Cod.rd 0 (Cod.dec r1.2.1) r1.2.1 r1.2.2 = r2
    have hl_r2 : r2.2.1.length ≤ r1.2.1.length := hr_r2 ▸ Cod.rd_len _ _ _ _
    refine HA_take (i := 8) (listed' := #[true, true, true, true, true, true, true, true, true, true, false]) (bodyPost_pan _ _ _) rfl rfl rfl rfl (by kernel_rfl) rfl (V_build (xo := [(0, _), (1, _)]) (vs := [_, _]) rfl rfl (bd47_0_1_ii)) (fun _ hA => hA.only (is := [4, 5]) (Y := [_, _]) (Z := [_, _, _, _]) rfl) ?_
    refine HA_loud1 (i := 10) (by kernel_rfl) rfl ?_
    refine HO_store (i := 3) (j := 0) (us := []) (old := [_, _, _, _, _]) (ts := []) (cs := [_, _, _, _, _]) (R := [_, _, _, _, _]) (new := [_, _, _, _, _]) rfl rfl rfl Try.sizeOf47 rfl (by simp [Value.oneCell']) rfl rfl rfl rfl rfl rfl ?_
    refine HA_back (listed' := #[true, true, true, true, true, true, true, true, true, true, true]) rfl (fun _ hA => hA.only (is := [4, 5]) (Y := [_, _]) (Z := [_, _, _, _]) rfl) ?_
    refine HA_done (by kernel_rfl) ?_
    refine H_env (ρ' := [(3, _), (2, _), (0, _)]) ⟨rfl, rfl, rfl, trivial⟩ ?_
    refine H_world (fun _ hA => hA.drop (is := [3, 5]) (Y := [_, _]) (Z := [_, _, _, _]) rfl) ?_
    refine H_seq ?_
    -- R2 entry.go:148
    refine H_region (l := [_, _, _, _]) rfl ?_
    refine HO_move rfl rfl rfl ?_
    refine HO_dup (i := 2) rfl rfl ?_
    refine HO_call (first := []) (capt := []) (is := [1, 0]) (R := [_, _, _]) rfl rfl rfl rfl rfl Try.call144 rfl (cconf_spec _ _ _ _ _ _ ?_) ?_
    · (first | omega | assumption | decide)
    intro y14 hy14
    have hcl3 := Ent.confP_len (r2.2.1, r2.2.2)
    obtain ⟨c3, hc3⟩ : ∃ e, Ent.confP (r2.2.1, r2.2.2) = e := ⟨_, rfl⟩
    rw [hc3] at hcl3 ⊢
    dsimp only at hcl3
    refine HO_fieldAddr (r := 2) rfl rfl rfl Try.underlying47 rfl Try.sizeOf45 rfl ?_
    refine HO_store (i := 4) (j := 0) (us := [_, _]) (old := [_, _]) (ts := [_]) (cs := [_, _]) (R := [_, _, _, _, _, _]) (new := [_, _, _, _, _]) rfl rfl rfl Try.sizeOf45 rfl (by simp [Value.oneCell']) rfl rfl rfl rfl rfl rfl ?_
    refine HO_nil ?_
    refine H_env (ρ' := [(3, _), (2, _), (0, _)]) ⟨rfl, rfl, rfl, trivial⟩ ?_
    refine H_world (fun _ hA => hA.drop (is := [5]) (Y := [_]) (Z := [_, _, _, _, _, _]) rfl) ?_
    refine H_seq ?_
    -- R3 entry.go:149
    refine H_region (l := [_, _, _, _, _, _, _]) rfl ?_
    refine HO_move rfl rfl rfl ?_
    refine HO_nilCheck rfl rfl rfl ?_
    refine HO_fieldAddr (r := 0) rfl rfl rfl Try.underlying130 rfl Try.sizeOf107 rfl ?_
    refine HO_dup (i := 2) rfl rfl ?_
    refine HO_call (first := []) (capt := []) (is := [1, 0]) (R := [_, _, _, _, _]) rfl rfl rfl rfl rfl Try.call76 rfl (cText_spec _ _ _ _ _ _ ?_) ?_
    · (first | omega | assumption | decide)
    intro y19 hy19
    generalize hr_r3 : Cod.rd [] (Cod.decT c3.2.1) c3.2.1 c3.2.2 = r3
    have hl_r3 : r3.2.1.length ≤ c3.2.1.length := hr_r3 ▸ Cod.rd_len _ _ _ _
    have hs_r3 := Cod.rdT_size hr_r3
    refine HO_strBytes rfl rfl rfl Try.underlying9 Try.underlying28 Try.underlying5 ?_ ?_
    · (simp only [maxLen]; omega)
    intro a20 c20
    refine HO_fieldAddr (r := 4) rfl rfl rfl Try.underlying47 rfl Try.sizeOf28 rfl ?_
    refine HO_store (i := 3) (j := 0) (us := [_, _, _, _]) (old := [_]) (ts := []) (cs := [_]) (R := [_, _, _, _, _, _, _]) (new := [_, _, _, _, _]) rfl rfl rfl Try.sizeOf28 rfl (by simp [Value.oneCell']) rfl rfl rfl rfl rfl rfl ?_
    refine HO_nil ?_
    refine H_env (ρ' := [(3, _), (2, _)]) ⟨rfl, rfl, trivial⟩ ?_
    refine H_world (fun _ hA => hA.drop (is := [4]) (Y := [_]) (Z := [_, _, _, _, _, _, _]) rfl) ?_
    refine H_seq ?_
    -- R4 entry.go:150
    refine H_region (l := [_, _]) rfl ?_
    refine HO_loadA (i := 0) (us := []) (cs := [_, _, _, _, _]) (ts := []) rfl rfl rfl Try.isAgg47 Try.sizeOf47 rfl (.loc _ _ _) rfl rfl rfl rfl ?_
    refine HO_store (i := 6) (j := 0) (us := []) (old := [_, _, _, _, _]) (ts := []) (cs := [_, _, _, _, _]) (R := [_, _, _, _, _, _]) (new := [_, _, _, _, _]) rfl rfl rfl Try.sizeOf47 rfl (by simp [Value.oneCell']) rfl rfl rfl rfl rfl rfl ?_
    refine HO_nil ?_
    refine H_env (ρ' := [(2, _)]) ⟨rfl, trivial⟩ ?_
    refine H_world (fun _ hA => hA.drop (is := [1]) (Y := [_]) (Z := [_, _, _, _, _, _]) rfl) ?_
    have hsp := Ent.snapP_of hr_r1 hr_r2 hc3 hr_r3
    -- end3
    refine H_ret1 Try.results108 (.cell rfl (fun w hA => run_loadVarA (cs := [_, _, _, _, _]) (Try.isAgg47 w) (Try.sizeOf47 w) (Tells.cells (.loc _ _ _) (hA.get (i := 0) rfl)))) (fun w hA => ⟨(y19, y14.2.1, y14.2.2, (a20, c20)), congrArg Ending.returned ?_, ?_, ?_⟩)
    · (rw [hsp] <;> rfl)
    · trivial
    · (rw [hsp]; exact hA.only (is := [1, 2, 3, 4, 1]) (Z := [_]) rfl)
end Go.Wk
