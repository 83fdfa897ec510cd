/- Contracts of the program's functions, each proved by walking its code. -/
import Derived.Test.YtbbcndjahjpdjabKbrdr
import Derived.Test.YtbbcndjahjpdjabCod5
import Derived.Test.YtbbcndjahjpdjabWk16
import Derived.Test.YtbbcndjahjpdjabKblaw01
set_option maxRecDepth 100000
set_option linter.unusedVariables false
set_option linter.unusedSimpArgs false
namespace Go.Wk.Flaw01s
open Go Go.RowKit Go.Proofs Go.Wk
theorem bd30_0_s {a1 : Option Addr} {n1 c1 : Nat} : ∀ w, (Instr.build 30 (List.toArray (List.zip [0] [.slice a1 n1 c1]))).run Try.prog w = .ok (.agg #[.slice a1 n1 c1, .bool (false)]) w := fun _ => by kernel_rfl
theorem bd51_0_s {a1 : Option Addr} {n1 c1 : Nat} : ∀ w, (Instr.build 51 (List.toArray (List.zip [0] [.slice a1 n1 c1]))).run Try.prog w = .ok (.agg #[.slice a1 n1 c1, .bool (false)]) w := fun _ => by kernel_rfl
end Go.Wk.Flaw01s
namespace Go.Wk
open Go Go.RowKit Go.Proofs Flaw01s 
set_option maxHeartbeats 0 in
theorem CodecReads_spec (b : List UInt8) (ks : List Int) (a : Option Addr) (c : Nat) (a2 : Option Addr) (c2 : Nat)  : Spec Try.prog 5 #[.slice a (b.length) c, .slice a2 (ks.length) c2] [.dat kByte.sl (b) [.slice a (b.length) c], .dat kInt.sl (ks) [.slice a2 (ks.length) c2]] (β := Unit) (fun y => .bool (true)) (fun y => True) (fun y => []) := by
  refine Spec.enter (vs := [_, _]) Try.func5 rfl Try.ntmps5 rfl (Nat.le_of_ble_eq_true rfl) (fun w0 ok0 => ?_)
  generalize hM0 : blks _ = M0
  have hMn : ∀ {R : List Atom} (b : Nat), M0 b → blks R b := fun b hb => absurd (hM0 ▸ hb) (blks_none (by simp [Atom.dat, Atom.elem]) b)
  refine H_seq ?_
  -- R0 law.go:51
  refine H_region (l := [_]) rfl ?_
  refine HO_assign rfl rfl rfl ?_
  refine HO_nil ?_
  refine H_env (ρ' := [(0, _), (1, _)]) ⟨rfl, rfl, trivial⟩ ?_
  refine H_seq ?_
  refine H_seq ?_
  -- R1 law.go:52
  refine H_region (l := [_, _, _, _, _, _, _, _]) rfl ?_
  refine HO_move rfl rfl rfl ?_
  refine HO_bi rfl rfl rfl (bi_len_sl Try.underlying25) ?_
  refine HO_bin rfl rfl rfl rfl bin_gtr ?_
  refine HO_move rfl rfl rfl ?_
  refine HO_split (d := 13) rfl ?_ ?_
  · intro h13
    (try simp only [decide_eq_true_eq, decide_eq_false_iff_not, Bool.not_eq_true', Bool.not_eq_false', Bool.not_eq_true, Bool.not_eq_false, Bool.true_eq_false, Bool.false_eq_true, not_false_eq_true, not_true_eq_false] at h13)
    refine HO_no rfl rfl rfl ?_
    refine HO_no rfl rfl rfl ?_
    refine HO_no rfl rfl rfl ?_
    refine HO_pick_t rfl rfl rfl rfl ?_
    refine HO_nil ?_
    refine H_env (ρ' := [(17, _), (0, _), (1, _)]) ⟨rfl, rfl, rfl, trivial⟩ ?_
    refine H_cond rfl (fun _ => ?_) (fun h => nomatch h)
    refine H_seq ?_
    -- R2 law.go:53
    refine H_region (l := [_, _]) rfl ?_
    refine HO_call (first := []) (capt := []) (is := []) (R := [_, _]) rfl rfl rfl rfl rfl Try.call15 rfl lives_spec ?_
    intro y18 hy18
    clear y18 hy18
    refine HO_assign rfl rfl rfl ?_
    refine HO_nil ?_
    refine H_env (ρ' := [(4, _)]) ⟨rfl, trivial⟩ ?_
    refine H_world (fun _ hA => hA.drop (is := [0, 1]) (Y := [_, _]) (Z := []) rfl) ?_
    -- end1
    refine H_ret1 Try.results5 (.tmp rfl) (fun w hA => ⟨(), congrArg Ending.returned ?_, ?_, ?_⟩)
    · (exact congrArg Value.bool (by first | rfl | assumption | simp_all))
    · trivial
    · exact hA.only (is := []) (Z := []) rfl
  · intro h13
    (try simp only [decide_eq_true_eq, decide_eq_false_iff_not, Bool.not_eq_true', Bool.not_eq_false', Bool.not_eq_true, Bool.not_eq_false, Bool.true_eq_false, Bool.false_eq_true, not_false_eq_true, not_true_eq_false] at h13)
    refine HO_move rfl rfl rfl ?_
    refine HO_bi rfl rfl rfl (bi_len_sl Try.underlying38) ?_
    refine HO_bin rfl rfl rfl rfl bin_gtr ?_
    refine HO_pick_f rfl rfl rfl rfl ?_
    refine HO_nil ?_
    refine H_env (ρ' := [(17, _), (0, _), (1, _)]) ⟨rfl, rfl, rfl, trivial⟩ ?_
    refine H_cond rfl ?_ ?_
    · intro h17
      (try simp only [decide_eq_true_eq, decide_eq_false_iff_not, Bool.not_eq_true', Bool.not_eq_false', Bool.not_eq_true, Bool.not_eq_false, Bool.true_eq_false, Bool.false_eq_true, not_false_eq_true, not_true_eq_false] at h17)
      refine H_seq ?_
      -- R2 law.go:53
      refine H_region (l := [_, _]) rfl ?_
      refine HO_call (first := []) (capt := []) (is := []) (R := [_, _]) rfl rfl rfl rfl rfl Try.call15 rfl lives_spec ?_
      intro y18 hy18
      clear y18 hy18
      refine HO_assign rfl rfl rfl ?_
      refine HO_nil ?_
      refine H_env (ρ' := [(4, _)]) ⟨rfl, trivial⟩ ?_
      refine H_world (fun _ hA => hA.drop (is := [0, 1]) (Y := [_, _]) (Z := []) rfl) ?_
      -- end2
      refine H_ret1 Try.results5 (.tmp rfl) (fun w hA => ⟨(), congrArg Ending.returned ?_, ?_, ?_⟩)
      · (exact congrArg Value.bool (by first | rfl | assumption | simp_all))
      · trivial
      · exact hA.only (is := []) (Z := []) rfl
    · intro h17
      (try simp only [decide_eq_true_eq, decide_eq_false_iff_not, Bool.not_eq_true', Bool.not_eq_false', Bool.not_eq_true, Bool.not_eq_false, Bool.true_eq_false, Bool.false_eq_true, not_false_eq_true, not_true_eq_false] at h17)
      refine H_skip ?_
      refine H_seq ?_
      -- R3 law.go:55
      refine H_region (l := [_, _, _, _, _, _, _, _]) rfl ?_
      refine HO_move rfl rfl rfl ?_
      refine HO_build (xo := [(0, _)]) (vs := [_]) rfl rfl rfl rfl (bd30_0_s) ?_
      refine HO_box (cs := [_, _]) rfl rfl rfl rfl ?_
      intro g21
      refine HO_move rfl rfl rfl ?_
      refine HO_build (xo := [(0, _)]) (vs := [_]) rfl rfl rfl rfl (bd51_0_s) ?_
      refine HO_box (cs := [_, _]) rfl rfl rfl rfl ?_
      intro g24
      refine HO_assign rfl rfl rfl ?_
      refine HO_assign rfl rfl rfl ?_
      refine HO_nil ?_
      refine H_env (ρ' := [(6, _), (5, _), (1, _)]) ⟨rfl, rfl, rfl, trivial⟩ ?_
      refine H_seq ?_
      refine H_seq ?_
      -- R4 law.go:56
      refine H_region (l := [_, _, _]) rfl ?_
      refine HO_move rfl rfl rfl ?_
      refine HO_bi rfl rfl rfl (bi_len_sl Try.underlying38) ?_
      refine HO_move rfl rfl rfl ?_
      refine HO_nil ?_
      refine H_env (ρ' := [(27, _), (26, _), (25, _), (6, _), (5, _)]) ⟨rfl, rfl, rfl, rfl, rfl, trivial⟩ ?_
      refine H_block ?_
      refine H_loop (σ := Nat × List UInt8 × Bool × Option Addr × Nat × Option Addr × Nat) (fun s => s.1 ≤ ks.length ∧ s.2.1.length ≤ 10000) (fun s => [(5, .pointer (some ⟨g21, 0, none⟩)), (6, .pointer (some ⟨g24, 0, none⟩)), (25, .slice a2 (ks.length) c2), (26, .int .i64 ((ks.length : Int))), (27, .int .i64 ((s.1 : Int)))]) (fun s => Asn w0 ok0 M0 [.loc g21 [.slice s.2.2.2.1 (s.2.1.length) s.2.2.2.2.1, .bool (s.2.2.1)] 30, .dat kByte.sl (s.2.1) [.slice s.2.2.2.1 (s.2.1.length) s.2.2.2.2.1], .loc g24 [.slice s.2.2.2.2.2.1 (s.2.1.length) s.2.2.2.2.2.2, .bool (s.2.2.1)] 51, .dat kByte.sl (s.2.1) [.slice s.2.2.2.2.2.1 (s.2.1.length) s.2.2.2.2.2.2], .dat kInt.sl (ks) [.slice a2 (ks.length) c2]]) (fun s => ks.length - s.1) ⟨0, b, false, a, c, a, c⟩ ?_ ?_ ?_ ?_
      · exact ⟨Nat.zero_le _, by dsimp only; omega⟩
      · exact ⟨rfl, rfl, rfl, rfl, rfl, trivial⟩
      · intro w hA
        exact (hA.add rfl (hA.get (i := 2) rfl)).only (is := [0, 0, 1, 3, 4]) (Z := []) rfl
      · rintro ⟨i, bs, wr, p1, q1, p2, q2⟩ hI
        (try dsimp only at hI ⊢)
        have hin := hI.1
        have hbs := hI.2
        refine H_seq ?_
        -- R5 law.go:56
        refine H_region (l := [_]) rfl ?_
        refine HO_bin rfl rfl rfl rfl bin_lss ?_
        refine HO_nil ?_
        refine H_seq ?_
        refine H_cond rfl ?_ ?_
        · intro h28
          (try simp only [decide_eq_true_eq, decide_eq_false_iff_not, Bool.not_eq_true', Bool.not_eq_false', Bool.not_eq_true, Bool.not_eq_false, Bool.true_eq_false, Bool.false_eq_true, not_false_eq_true, not_true_eq_false] at h28)
          refine H_skip ?_
          refine H_seq ?_
          refine H_block ?_
          refine H_seq ?_
          -- R6 law.go:56
          refine H_region (l := [_, _, _]) rfl ?_
          refine HO_indexAddr open_int (i := 4) rfl rfl rfl rfl rfl Try.underlying38 Try.sizeOf3 rfl ?_ ?_
          · omega
          intro b29 o29 z29 y29 hz29 hI29
          clear y29
          refine HO_load1 (i := 0) (j := 0) rfl rfl rfl Try.isAgg3 rfl (.elem _ _ _) rfl rfl ?_
          refine HO_assign rfl rfl rfl ?_
          refine HO_nil ?_
          refine H_env (ρ' := [(8, _), (5, _), (6, _), (25, _), (26, _), (27, _)]) ⟨rfl, rfl, rfl, rfl, rfl, rfl, trivial⟩ ?_
          refine H_world (fun _ hA => hA.drop (is := [0]) (Y := [_]) (Z := [_, _, _, _, _]) rfl) ?_
          refine H_seq ?_
          -- R7 law.go:57
          refine H_region (l := [_]) rfl ?_
          refine HO_assign rfl rfl rfl ?_
          refine HO_nil ?_
          refine H_env (ρ' := [(8, _), (5, _), (6, _), (25, _), (26, _), (27, _)]) ⟨rfl, rfl, rfl, rfl, rfl, rfl, trivial⟩ ?_
          refine H_seq ?_
          refine H_seq ?_
          -- R8 law.go:58
          refine H_region (l := [_, _]) rfl ?_
          refine HO_move rfl rfl rfl ?_
          refine HO_bin rfl rfl rfl rfl bin_andi ?_
          refine HO_nil ?_
          refine H_env (ρ' := [(32, _), (8, _), (5, _), (6, _), (25, _), (26, _), (27, _)]) ⟨rfl, rfl, rfl, rfl, rfl, rfl, rfl, trivial⟩ ?_
          refine H_meet (σ := List UInt8 × Bool × Option Addr × Nat × Option Addr × Nat) _ (fun s => s.1.length ≤ 10000) [(5, .pointer (some ⟨g21, 0, none⟩)), (6, .pointer (some ⟨g24, 0, none⟩)), (9, .bool (true)), (25, .slice a2 (ks.length) c2), (26, .int .i64 ((ks.length : Int))), (27, .int .i64 ((i : Int)))] (fun s => Asn w0 ok0 M0 [.loc g21 [.slice s.2.2.1 (s.1.length) s.2.2.2.1, .bool (s.2.1)] 30, .dat kByte.sl (s.1) [.slice s.2.2.1 (s.1.length) s.2.2.2.1], .loc g24 [.slice s.2.2.2.2.1 (s.1.length) s.2.2.2.2.2, .bool (s.2.1)] 51, .dat kByte.sl (s.1) [.slice s.2.2.2.2.1 (s.1.length) s.2.2.2.2.2], .dat kInt.sl (ks) [.slice a2 (ks.length) c2]]) ?_ ?_
          · skip
            refine H_block ?_
            refine H_seq ?_
            refine H_seq ?_
            -- R10 law.go:59
            refine H_region (l := [_, _]) rfl ?_
            refine HO_bin rfl rfl rfl rfl bin_eql ?_
            refine HO_assign rfl rfl rfl ?_
            refine HO_nil ?_
            refine H_env (ρ' := [(40, _), (32, _), (8, _), (5, _), (6, _), (25, _), (26, _), (27, _)]) ⟨rfl, rfl, rfl, rfl, rfl, rfl, rfl, rfl, trivial⟩ ?_
            refine H_cond rfl ?_ ?_
            · intro h40
              (try simp only [decide_eq_true_eq, decide_eq_false_iff_not, Bool.not_eq_true', Bool.not_eq_false', Bool.not_eq_true, Bool.not_eq_false, Bool.true_eq_false, Bool.false_eq_true, not_false_eq_true, not_true_eq_false] at h40)
              refine H_skip ?_
              refine H_cond rfl ?_ ?_
              · intro h40
                (try simp only [decide_eq_true_eq, decide_eq_false_iff_not, Bool.not_eq_true', Bool.not_eq_false', Bool.not_eq_true, Bool.not_eq_false, Bool.true_eq_false, Bool.false_eq_true, not_false_eq_true, not_true_eq_false] at h40)
                -- R12 law.go:60
                refine H_region (l := [_, _, _, _, _, _]) rfl ?_
                refine HO_move rfl rfl rfl ?_
                refine HO_dup (i := 1) rfl rfl ?_
                refine HO_call (first := []) (capt := []) (is := [0, 0]) (R := [_, _, _, _]) rfl rfl rfl rfl rfl Try.call19 rfl (cNum_spec _ _ _ _ _) ?_
                intro y44 hy44
                refine HO_move rfl rfl rfl ?_
                refine HO_dup (i := 4) rfl rfl ?_
                refine HO_call (first := []) (capt := []) (is := [3, 0]) (R := [_, _, _, _, _]) rfl rfl rfl rfl rfl Try.call28 rfl (rNum_spec _ _ _ _ _) ?_
                intro y46 hy46
                refine HO_bin rfl rfl rfl rfl bin_eql ?_
                refine HO_assign rfl rfl rfl ?_
                refine HO_nil ?_
                refine H_env (ρ' := [(9, _), (5, _), (6, _), (25, _), (26, _), (27, _)]) ⟨rfl, rfl, rfl, rfl, rfl, rfl, trivial⟩ ?_
                refine H_world (fun _ hA => hA.drop (is := [4, 5]) (Y := [_, _]) (Z := [_, _, _, _, _]) rfl) ?_
                refine H_blk ?_
                refine H_inv (fun a w hf hA => ⟨hf.sub ?_, ⟨(Cod.rd 0 (Cod.dec bs) bs wr).2.1, (Cod.rd 0 (Cod.dec bs) bs wr).2.2, y44.1, y44.2, y46.1, y46.2⟩, ?_, ?_⟩)
                · exact ⟨rfl, rfl, congrArg (fun z => some (Value.bool z)) (by simp), rfl, rfl, rfl, trivial⟩
                · first | exact Nat.le_trans (Cod.rd_len _ _ _ _) hI.2 | exact Nat.le_trans (Cod.cnt_len _ _ _) hI.2
                · exact hA.only (is := [0, 1, 0, 1, 4]) (Z := []) rfl
              · intro h40
                (try simp only [decide_eq_true_eq, decide_eq_false_iff_not, Bool.not_eq_true', Bool.not_eq_false', Bool.not_eq_true, Bool.not_eq_false, Bool.true_eq_false, Bool.false_eq_true, not_false_eq_true, not_true_eq_false] at h40)
                refine H_seq ?_
                -- R13 law.go:61
                refine H_region (l := [_, _]) rfl ?_
                refine HO_bin rfl rfl rfl rfl bin_eql ?_
                refine HO_assign rfl rfl rfl ?_
                refine HO_nil ?_
                refine H_env (ρ' := [(48, _), (32, _), (8, _), (5, _), (6, _), (25, _), (26, _), (27, _)]) ⟨rfl, rfl, rfl, rfl, rfl, rfl, rfl, rfl, trivial⟩ ?_
                refine H_cond rfl ?_ ?_
                · intro h48
                  (try simp only [decide_eq_true_eq, decide_eq_false_iff_not, Bool.not_eq_true', Bool.not_eq_false', Bool.not_eq_true, Bool.not_eq_false, Bool.true_eq_false, Bool.false_eq_true, not_false_eq_true, not_true_eq_false] at h48)
                  -- R14 law.go:62
                  refine H_region (l := [_, _, _, _, _, _]) rfl ?_
                  refine HO_move rfl rfl rfl ?_
                  refine HO_dup (i := 1) rfl rfl ?_
                  refine HO_call (first := []) (capt := []) (is := [0, 0]) (R := [_, _, _, _]) rfl rfl rfl rfl rfl Try.call29 rfl (cInt_spec _ _ _ _ _) ?_
                  intro y51 hy51
                  refine HO_move rfl rfl rfl ?_
                  refine HO_dup (i := 4) rfl rfl ?_
                  refine HO_call (first := []) (capt := []) (is := [3, 0]) (R := [_, _, _, _, _]) rfl rfl rfl rfl rfl Try.call30 rfl (rInt_spec _ _ _ _ _) ?_
                  intro y53 hy53
                  refine HO_bin rfl rfl rfl rfl bin_eql ?_
                  refine HO_assign rfl rfl rfl ?_
                  refine HO_nil ?_
                  refine H_env (ρ' := [(9, _), (5, _), (6, _), (25, _), (26, _), (27, _)]) ⟨rfl, rfl, rfl, rfl, rfl, rfl, trivial⟩ ?_
                  refine H_world (fun _ hA => hA.drop (is := [4, 5]) (Y := [_, _]) (Z := [_, _, _, _, _]) rfl) ?_
                  refine H_blk ?_
                  refine H_inv (fun a w hf hA => ⟨hf.sub ?_, ⟨(Cod.rd 0 (Cod.dec bs) bs wr).2.1, (Cod.rd 0 (Cod.dec bs) bs wr).2.2, y51.1, y51.2, y53.1, y53.2⟩, ?_, ?_⟩)
                  · exact ⟨rfl, rfl, congrArg (fun z => some (Value.bool z)) (by simp), rfl, rfl, rfl, trivial⟩
                  · first | exact Nat.le_trans (Cod.rd_len _ _ _ _) hI.2 | exact Nat.le_trans (Cod.cnt_len _ _ _) hI.2
                  · exact hA.only (is := [0, 1, 0, 1, 4]) (Z := []) rfl
                · intro h48
                  (try simp only [decide_eq_true_eq, decide_eq_false_iff_not, Bool.not_eq_true', Bool.not_eq_false', Bool.not_eq_true, Bool.not_eq_false, Bool.true_eq_false, Bool.false_eq_true, not_false_eq_true, not_true_eq_false] at h48)
                  refine H_seq ?_
                  refine H_seq ?_
                  -- R15 law.go:63
                  refine H_region (l := [_, _]) rfl ?_
                  refine HO_bin rfl rfl rfl rfl bin_eql ?_
                  refine HO_assign rfl rfl rfl ?_
                  refine HO_nil ?_
                  refine H_env (ρ' := [(55, _), (32, _), (8, _), (5, _), (6, _), (25, _), (26, _), (27, _)]) ⟨rfl, rfl, rfl, rfl, rfl, rfl, rfl, rfl, trivial⟩ ?_
                  refine H_cond rfl ?_ ?_
                  · intro h55
                    (try simp only [decide_eq_true_eq, decide_eq_false_iff_not, Bool.not_eq_true', Bool.not_eq_false', Bool.not_eq_true, Bool.not_eq_false, Bool.true_eq_false, Bool.false_eq_true, not_false_eq_true, not_true_eq_false] at h55)
                    refine H_skip ?_
                    refine H_cond rfl ?_ ?_
                    · intro h55
                      (try simp only [decide_eq_true_eq, decide_eq_false_iff_not, Bool.not_eq_true', Bool.not_eq_false', Bool.not_eq_true, Bool.not_eq_false, Bool.true_eq_false, Bool.false_eq_true, not_false_eq_true, not_true_eq_false] at h55)
                      -- R17 law.go:64
                      refine H_region (l := [_, _, _, _, _, _]) rfl ?_
                      refine HO_move rfl rfl rfl ?_
                      refine HO_dup (i := 1) rfl rfl ?_
                      refine HO_call (first := []) (capt := []) (is := [0, 0]) (R := [_, _, _, _]) rfl rfl rfl rfl rfl Try.call20 rfl (cText_spec _ _ _ _ _ ?_) ?_
                      · (first | omega | assumption | decide)
                      intro y59 hy59
                      refine HO_move rfl rfl rfl ?_
                      refine HO_dup (i := 4) rfl rfl ?_
                      refine HO_call (first := []) (capt := []) (is := [3, 0]) (R := [_, _, _, _, _]) rfl rfl rfl rfl rfl Try.call31 rfl (rText_spec _ _ _ _ _ ?_) ?_
                      · (first | omega | assumption | decide)
                      intro y61 hy61
                      refine HO_bin rfl rfl rfl rfl bin_eqs ?_
                      refine HO_assign rfl rfl rfl ?_
                      refine HO_nil ?_
                      refine H_env (ρ' := [(9, _), (5, _), (6, _), (25, _), (26, _), (27, _)]) ⟨rfl, rfl, rfl, rfl, rfl, rfl, trivial⟩ ?_
                      refine H_world (fun _ hA => hA.drop (is := [4, 5]) (Y := [_, _]) (Z := [_, _, _, _, _]) rfl) ?_
                      refine H_blk ?_
                      refine H_inv (fun a w hf hA => ⟨hf.sub ?_, ⟨(Cod.rd [] (Cod.decT bs) bs wr).2.1, (Cod.rd [] (Cod.decT bs) bs wr).2.2, y59.1, y59.2, y61.1, y61.2⟩, ?_, ?_⟩)
                      · exact ⟨rfl, rfl, congrArg (fun z => some (Value.bool z)) (by simp), rfl, rfl, rfl, trivial⟩
                      · first | exact Nat.le_trans (Cod.rd_len _ _ _ _) hI.2 | exact Nat.le_trans (Cod.cnt_len _ _ _) hI.2
                      · exact hA.only (is := [0, 1, 0, 1, 4]) (Z := []) rfl
                    · intro h55
                      (try simp only [decide_eq_true_eq, decide_eq_false_iff_not, Bool.not_eq_true', Bool.not_eq_false', Bool.not_eq_true, Bool.not_eq_false, Bool.true_eq_false, Bool.false_eq_true, not_false_eq_true, not_true_eq_false] at h55)
                      refine H_seq ?_
                      -- R18 law.go:65
                      refine H_region (l := [_, _]) rfl ?_
                      refine HO_bin rfl rfl rfl rfl bin_eql ?_
                      refine HO_assign rfl rfl rfl ?_
                      refine HO_nil ?_
                      refine H_env (ρ' := [(63, _), (8, _), (5, _), (6, _), (25, _), (26, _), (27, _)]) ⟨rfl, rfl, rfl, rfl, rfl, rfl, rfl, trivial⟩ ?_
                      refine H_cond rfl ?_ ?_
                      · intro h63
                        (try simp only [decide_eq_true_eq, decide_eq_false_iff_not, Bool.not_eq_true', Bool.not_eq_false', Bool.not_eq_true, Bool.not_eq_false, Bool.true_eq_false, Bool.false_eq_true, not_false_eq_true, not_true_eq_false] at h63)
                        -- R19 law.go:66
                        refine H_region (l := [_, _, _, _, _, _]) rfl ?_
                        refine HO_move rfl rfl rfl ?_
                        refine HO_dup (i := 1) rfl rfl ?_
                        refine HO_call (first := []) (capt := []) (is := [0, 0]) (R := [_, _, _, _]) rfl rfl rfl rfl rfl Try.call21 rfl (cBool_spec _ _ _ _ _) ?_
                        intro y66 hy66
                        refine HO_move rfl rfl rfl ?_
                        refine HO_dup (i := 4) rfl rfl ?_
                        refine HO_call (first := []) (capt := []) (is := [3, 0]) (R := [_, _, _, _, _]) rfl rfl rfl rfl rfl Try.call32 rfl (rBool_spec _ _ _ _ _) ?_
                        intro y68 hy68
                        refine HO_bin rfl rfl rfl rfl (bin_eqb Try.runUnderlying4) ?_
                        refine HO_assign rfl rfl rfl ?_
                        refine HO_nil ?_
                        refine H_env (ρ' := [(9, _), (5, _), (6, _), (25, _), (26, _), (27, _)]) ⟨rfl, rfl, rfl, rfl, rfl, rfl, trivial⟩ ?_
                        refine H_world (fun _ hA => hA.drop (is := [4, 5]) (Y := [_, _]) (Z := [_, _, _, _, _]) rfl) ?_
                        refine H_blk ?_
                        refine H_inv (fun a w hf hA => ⟨hf.sub ?_, ⟨(Cod.rd false (Cod.decB bs) bs wr).2.1, (Cod.rd false (Cod.decB bs) bs wr).2.2, y66.1, y66.2, y68.1, y68.2⟩, ?_, ?_⟩)
                        · exact ⟨rfl, rfl, congrArg (fun z => some (Value.bool z)) (by simp), rfl, rfl, rfl, trivial⟩
                        · first | exact Nat.le_trans (Cod.rd_len _ _ _ _) hI.2 | exact Nat.le_trans (Cod.cnt_len _ _ _) hI.2
                        · exact hA.only (is := [0, 1, 0, 1, 4]) (Z := []) rfl
                      · intro h63
                        (try simp only [decide_eq_true_eq, decide_eq_false_iff_not, Bool.not_eq_true', Bool.not_eq_false', Bool.not_eq_true, Bool.not_eq_false, Bool.true_eq_false, Bool.false_eq_true, not_false_eq_true, not_true_eq_false] at h63)
                        -- R9 law.go:68
                        refine H_region (l := [_, _, _, _, _, _, _, _]) rfl ?_
                        refine HO_move rfl rfl rfl ?_
                        refine HO_move rfl rfl rfl ?_
                        refine HO_dup (i := 1) rfl rfl ?_
                        refine HO_call (first := []) (capt := []) (is := [0, 0]) (R := [_, _, _, _]) rfl rfl rfl rfl rfl Try.call33 rfl (cCount_spec _ _ _ _ _ _ ?_) ?_
                        · exact hI29
                        intro y35 hy35
                        refine HO_move rfl rfl rfl ?_
                        refine HO_move rfl rfl rfl ?_
                        refine HO_dup (i := 4) rfl rfl ?_
                        refine HO_call (first := []) (capt := []) (is := [3, 0]) (R := [_, _, _, _, _]) rfl rfl rfl rfl rfl Try.call34 rfl (rCount_spec _ _ _ _ _ _ ?_) ?_
                        · exact hI29
                        intro y38 hy38
                        refine HO_bin rfl rfl rfl rfl bin_eql ?_
                        refine HO_assign rfl rfl rfl ?_
                        refine HO_nil ?_
                        refine H_env (ρ' := [(9, _), (5, _), (6, _), (25, _), (26, _), (27, _)]) ⟨rfl, rfl, rfl, rfl, rfl, rfl, trivial⟩ ?_
                        refine H_world (fun _ hA => hA.drop (is := [4, 5]) (Y := [_, _]) (Z := [_, _, _, _, _]) rfl) ?_
                        refine H_blk ?_
                        refine H_inv (fun a w hf hA => ⟨hf.sub ?_, ⟨(Cod.cnt z29 bs wr).2.1, (Cod.cnt z29 bs wr).2.2, y35.1, y35.2, y38.1, y38.2⟩, ?_, ?_⟩)
                        · exact ⟨rfl, rfl, congrArg (fun z => some (Value.bool z)) (by simp), rfl, rfl, rfl, trivial⟩
                        · first | exact Nat.le_trans (Cod.rd_len _ _ _ _) hI.2 | exact Nat.le_trans (Cod.cnt_len _ _ _) hI.2
                        · exact hA.only (is := [0, 1, 0, 1, 4]) (Z := []) rfl
                  · intro h55
                    (try simp only [decide_eq_true_eq, decide_eq_false_iff_not, Bool.not_eq_true', Bool.not_eq_false', Bool.not_eq_true, Bool.not_eq_false, Bool.true_eq_false, Bool.false_eq_true, not_false_eq_true, not_true_eq_false] at h55)
                    -- R16 law.go:63
                    refine H_region (l := [_, _]) rfl ?_
                    refine HO_bin rfl rfl rfl rfl bin_eql ?_
                    refine HO_assign rfl rfl rfl ?_
                    refine HO_nil ?_
                    refine H_env (ρ' := [(55, _), (32, _), (8, _), (5, _), (6, _), (25, _), (26, _), (27, _)]) ⟨rfl, rfl, rfl, rfl, rfl, rfl, rfl, rfl, trivial⟩ ?_
                    refine H_cond rfl ?_ ?_
                    · intro h55
                      (try simp only [decide_eq_true_eq, decide_eq_false_iff_not, Bool.not_eq_true', Bool.not_eq_false', Bool.not_eq_true, Bool.not_eq_false, Bool.true_eq_false, Bool.false_eq_true, not_false_eq_true, not_true_eq_false] at h55)
                      -- R17 law.go:64
                      refine H_region (l := [_, _, _, _, _, _]) rfl ?_
                      refine HO_move rfl rfl rfl ?_
                      refine HO_dup (i := 1) rfl rfl ?_
                      refine HO_call (first := []) (capt := []) (is := [0, 0]) (R := [_, _, _, _]) rfl rfl rfl rfl rfl Try.call20 rfl (cText_spec _ _ _ _ _ ?_) ?_
                      · (first | omega | assumption | decide)
                      intro y59 hy59
                      refine HO_move rfl rfl rfl ?_
                      refine HO_dup (i := 4) rfl rfl ?_
                      refine HO_call (first := []) (capt := []) (is := [3, 0]) (R := [_, _, _, _, _]) rfl rfl rfl rfl rfl Try.call31 rfl (rText_spec _ _ _ _ _ ?_) ?_
                      · (first | omega | assumption | decide)
                      intro y61 hy61
                      refine HO_bin rfl rfl rfl rfl bin_eqs ?_
                      refine HO_assign rfl rfl rfl ?_
                      refine HO_nil ?_
                      refine H_env (ρ' := [(9, _), (5, _), (6, _), (25, _), (26, _), (27, _)]) ⟨rfl, rfl, rfl, rfl, rfl, rfl, trivial⟩ ?_
                      refine H_world (fun _ hA => hA.drop (is := [4, 5]) (Y := [_, _]) (Z := [_, _, _, _, _]) rfl) ?_
                      refine H_blk ?_
                      refine H_inv (fun a w hf hA => ⟨hf.sub ?_, ⟨(Cod.rd [] (Cod.decT bs) bs wr).2.1, (Cod.rd [] (Cod.decT bs) bs wr).2.2, y59.1, y59.2, y61.1, y61.2⟩, ?_, ?_⟩)
                      · exact ⟨rfl, rfl, congrArg (fun z => some (Value.bool z)) (by simp), rfl, rfl, rfl, trivial⟩
                      · first | exact Nat.le_trans (Cod.rd_len _ _ _ _) hI.2 | exact Nat.le_trans (Cod.cnt_len _ _ _) hI.2
                      · exact hA.only (is := [0, 1, 0, 1, 4]) (Z := []) rfl
                    · intro h55
                      (try simp only [decide_eq_true_eq, decide_eq_false_iff_not, Bool.not_eq_true', Bool.not_eq_false', Bool.not_eq_true, Bool.not_eq_false, Bool.true_eq_false, Bool.false_eq_true, not_false_eq_true, not_true_eq_false] at h55)
                      refine H_seq ?_
                      -- R18 law.go:65
                      refine H_region (l := [_, _]) rfl ?_
                      refine HO_bin rfl rfl rfl rfl bin_eql ?_
                      refine HO_assign rfl rfl rfl ?_
                      refine HO_nil ?_
                      refine H_env (ρ' := [(63, _), (8, _), (5, _), (6, _), (25, _), (26, _), (27, _)]) ⟨rfl, rfl, rfl, rfl, rfl, rfl, rfl, trivial⟩ ?_
                      refine H_cond rfl ?_ ?_
                      · intro h63
                        (try simp only [decide_eq_true_eq, decide_eq_false_iff_not, Bool.not_eq_true', Bool.not_eq_false', Bool.not_eq_true, Bool.not_eq_false, Bool.true_eq_false, Bool.false_eq_true, not_false_eq_true, not_true_eq_false] at h63)
                        -- R19 law.go:66
                        refine H_region (l := [_, _, _, _, _, _]) rfl ?_
                        refine HO_move rfl rfl rfl ?_
                        refine HO_dup (i := 1) rfl rfl ?_
                        refine HO_call (first := []) (capt := []) (is := [0, 0]) (R := [_, _, _, _]) rfl rfl rfl rfl rfl Try.call21 rfl (cBool_spec _ _ _ _ _) ?_
                        intro y66 hy66
                        refine HO_move rfl rfl rfl ?_
                        refine HO_dup (i := 4) rfl rfl ?_
                        refine HO_call (first := []) (capt := []) (is := [3, 0]) (R := [_, _, _, _, _]) rfl rfl rfl rfl rfl Try.call32 rfl (rBool_spec _ _ _ _ _) ?_
                        intro y68 hy68
                        refine HO_bin rfl rfl rfl rfl (bin_eqb Try.runUnderlying4) ?_
                        refine HO_assign rfl rfl rfl ?_
                        refine HO_nil ?_
                        refine H_env (ρ' := [(9, _), (5, _), (6, _), (25, _), (26, _), (27, _)]) ⟨rfl, rfl, rfl, rfl, rfl, rfl, trivial⟩ ?_
                        refine H_world (fun _ hA => hA.drop (is := [4, 5]) (Y := [_, _]) (Z := [_, _, _, _, _]) rfl) ?_
                        refine H_blk ?_
                        refine H_inv (fun a w hf hA => ⟨hf.sub ?_, ⟨(Cod.rd false (Cod.decB bs) bs wr).2.1, (Cod.rd false (Cod.decB bs) bs wr).2.2, y66.1, y66.2, y68.1, y68.2⟩, ?_, ?_⟩)
                        · exact ⟨rfl, rfl, congrArg (fun z => some (Value.bool z)) (by simp), rfl, rfl, rfl, trivial⟩
                        · first | exact Nat.le_trans (Cod.rd_len _ _ _ _) hI.2 | exact Nat.le_trans (Cod.cnt_len _ _ _) hI.2
                        · exact hA.only (is := [0, 1, 0, 1, 4]) (Z := []) rfl
                      · intro h63
                        (try simp only [decide_eq_true_eq, decide_eq_false_iff_not, Bool.not_eq_true', Bool.not_eq_false', Bool.not_eq_true, Bool.not_eq_false, Bool.true_eq_false, Bool.false_eq_true, not_false_eq_true, not_true_eq_false] at h63)
                        -- R9 law.go:68
                        refine H_region (l := [_, _, _, _, _, _, _, _]) rfl ?_
                        refine HO_move rfl rfl rfl ?_
                        refine HO_move rfl rfl rfl ?_
                        refine HO_dup (i := 1) rfl rfl ?_
                        refine HO_call (first := []) (capt := []) (is := [0, 0]) (R := [_, _, _, _]) rfl rfl rfl rfl rfl Try.call33 rfl (cCount_spec _ _ _ _ _ _ ?_) ?_
                        · exact hI29
                        intro y35 hy35
                        refine HO_move rfl rfl rfl ?_
                        refine HO_move rfl rfl rfl ?_
                        refine HO_dup (i := 4) rfl rfl ?_
                        refine HO_call (first := []) (capt := []) (is := [3, 0]) (R := [_, _, _, _, _]) rfl rfl rfl rfl rfl Try.call34 rfl (rCount_spec _ _ _ _ _ _ ?_) ?_
                        · exact hI29
                        intro y38 hy38
                        refine HO_bin rfl rfl rfl rfl bin_eql ?_
                        refine HO_assign rfl rfl rfl ?_
                        refine HO_nil ?_
                        refine H_env (ρ' := [(9, _), (5, _), (6, _), (25, _), (26, _), (27, _)]) ⟨rfl, rfl, rfl, rfl, rfl, rfl, trivial⟩ ?_
                        refine H_world (fun _ hA => hA.drop (is := [4, 5]) (Y := [_, _]) (Z := [_, _, _, _, _]) rfl) ?_
                        refine H_blk ?_
                        refine H_inv (fun a w hf hA => ⟨hf.sub ?_, ⟨(Cod.cnt z29 bs wr).2.1, (Cod.cnt z29 bs wr).2.2, y35.1, y35.2, y38.1, y38.2⟩, ?_, ?_⟩)
                        · exact ⟨rfl, rfl, congrArg (fun z => some (Value.bool z)) (by simp), rfl, rfl, rfl, trivial⟩
                        · first | exact Nat.le_trans (Cod.rd_len _ _ _ _) hI.2 | exact Nat.le_trans (Cod.cnt_len _ _ _) hI.2
                        · exact hA.only (is := [0, 1, 0, 1, 4]) (Z := []) rfl
            · intro h40
              (try simp only [decide_eq_true_eq, decide_eq_false_iff_not, Bool.not_eq_true', Bool.not_eq_false', Bool.not_eq_true, Bool.not_eq_false, Bool.true_eq_false, Bool.false_eq_true, not_false_eq_true, not_true_eq_false] at h40)
              -- R11 law.go:59
              refine H_region (l := [_, _]) rfl ?_
              refine HO_bin rfl rfl rfl rfl bin_eql ?_
              refine HO_assign rfl rfl rfl ?_
              refine HO_nil ?_
              refine H_env (ρ' := [(40, _), (32, _), (8, _), (5, _), (6, _), (25, _), (26, _), (27, _)]) ⟨rfl, rfl, rfl, rfl, rfl, rfl, rfl, rfl, trivial⟩ ?_
              refine H_cond rfl ?_ ?_
              · intro h40
                (try simp only [decide_eq_true_eq, decide_eq_false_iff_not, Bool.not_eq_true', Bool.not_eq_false', Bool.not_eq_true, Bool.not_eq_false, Bool.true_eq_false, Bool.false_eq_true, not_false_eq_true, not_true_eq_false] at h40)
                -- R12 law.go:60
                refine H_region (l := [_, _, _, _, _, _]) rfl ?_
                refine HO_move rfl rfl rfl ?_
                refine HO_dup (i := 1) rfl rfl ?_
                refine HO_call (first := []) (capt := []) (is := [0, 0]) (R := [_, _, _, _]) rfl rfl rfl rfl rfl Try.call19 rfl (cNum_spec _ _ _ _ _) ?_
                intro y44 hy44
                refine HO_move rfl rfl rfl ?_
                refine HO_dup (i := 4) rfl rfl ?_
                refine HO_call (first := []) (capt := []) (is := [3, 0]) (R := [_, _, _, _, _]) rfl rfl rfl rfl rfl Try.call28 rfl (rNum_spec _ _ _ _ _) ?_
                intro y46 hy46
                refine HO_bin rfl rfl rfl rfl bin_eql ?_
                refine HO_assign rfl rfl rfl ?_
                refine HO_nil ?_
                refine H_env (ρ' := [(9, _), (5, _), (6, _), (25, _), (26, _), (27, _)]) ⟨rfl, rfl, rfl, rfl, rfl, rfl, trivial⟩ ?_
                refine H_world (fun _ hA => hA.drop (is := [4, 5]) (Y := [_, _]) (Z := [_, _, _, _, _]) rfl) ?_
                refine H_blk ?_
                refine H_inv (fun a w hf hA => ⟨hf.sub ?_, ⟨(Cod.rd 0 (Cod.dec bs) bs wr).2.1, (Cod.rd 0 (Cod.dec bs) bs wr).2.2, y44.1, y44.2, y46.1, y46.2⟩, ?_, ?_⟩)
                · exact ⟨rfl, rfl, congrArg (fun z => some (Value.bool z)) (by simp), rfl, rfl, rfl, trivial⟩
                · first | exact Nat.le_trans (Cod.rd_len _ _ _ _) hI.2 | exact Nat.le_trans (Cod.cnt_len _ _ _) hI.2
                · exact hA.only (is := [0, 1, 0, 1, 4]) (Z := []) rfl
              · intro h40
                (try simp only [decide_eq_true_eq, decide_eq_false_iff_not, Bool.not_eq_true', Bool.not_eq_false', Bool.not_eq_true, Bool.not_eq_false, Bool.true_eq_false, Bool.false_eq_true, not_false_eq_true, not_true_eq_false] at h40)
                refine H_seq ?_
                -- R13 law.go:61
                refine H_region (l := [_, _]) rfl ?_
                refine HO_bin rfl rfl rfl rfl bin_eql ?_
                refine HO_assign rfl rfl rfl ?_
                refine HO_nil ?_
                refine H_env (ρ' := [(48, _), (32, _), (8, _), (5, _), (6, _), (25, _), (26, _), (27, _)]) ⟨rfl, rfl, rfl, rfl, rfl, rfl, rfl, rfl, trivial⟩ ?_
                refine H_cond rfl ?_ ?_
                · intro h48
                  (try simp only [decide_eq_true_eq, decide_eq_false_iff_not, Bool.not_eq_true', Bool.not_eq_false', Bool.not_eq_true, Bool.not_eq_false, Bool.true_eq_false, Bool.false_eq_true, not_false_eq_true, not_true_eq_false] at h48)
                  -- R14 law.go:62
                  refine H_region (l := [_, _, _, _, _, _]) rfl ?_
                  refine HO_move rfl rfl rfl ?_
                  refine HO_dup (i := 1) rfl rfl ?_
                  refine HO_call (first := []) (capt := []) (is := [0, 0]) (R := [_, _, _, _]) rfl rfl rfl rfl rfl Try.call29 rfl (cInt_spec _ _ _ _ _) ?_
                  intro y51 hy51
                  refine HO_move rfl rfl rfl ?_
                  refine HO_dup (i := 4) rfl rfl ?_
                  refine HO_call (first := []) (capt := []) (is := [3, 0]) (R := [_, _, _, _, _]) rfl rfl rfl rfl rfl Try.call30 rfl (rInt_spec _ _ _ _ _) ?_
                  intro y53 hy53
                  refine HO_bin rfl rfl rfl rfl bin_eql ?_
                  refine HO_assign rfl rfl rfl ?_
                  refine HO_nil ?_
                  refine H_env (ρ' := [(9, _), (5, _), (6, _), (25, _), (26, _), (27, _)]) ⟨rfl, rfl, rfl, rfl, rfl, rfl, trivial⟩ ?_
                  refine H_world (fun _ hA => hA.drop (is := [4, 5]) (Y := [_, _]) (Z := [_, _, _, _, _]) rfl) ?_
                  refine H_blk ?_
                  refine H_inv (fun a w hf hA => ⟨hf.sub ?_, ⟨(Cod.rd 0 (Cod.dec bs) bs wr).2.1, (Cod.rd 0 (Cod.dec bs) bs wr).2.2, y51.1, y51.2, y53.1, y53.2⟩, ?_, ?_⟩)
                  · exact ⟨rfl, rfl, congrArg (fun z => some (Value.bool z)) (by simp), rfl, rfl, rfl, trivial⟩
                  · first | exact Nat.le_trans (Cod.rd_len _ _ _ _) hI.2 | exact Nat.le_trans (Cod.cnt_len _ _ _) hI.2
                  · exact hA.only (is := [0, 1, 0, 1, 4]) (Z := []) rfl
                · intro h48
                  (try simp only [decide_eq_true_eq, decide_eq_false_iff_not, Bool.not_eq_true', Bool.not_eq_false', Bool.not_eq_true, Bool.not_eq_false, Bool.true_eq_false, Bool.false_eq_true, not_false_eq_true, not_true_eq_false] at h48)
                  refine H_seq ?_
                  refine H_seq ?_
                  -- R15 law.go:63
                  refine H_region (l := [_, _]) rfl ?_
                  refine HO_bin rfl rfl rfl rfl bin_eql ?_
                  refine HO_assign rfl rfl rfl ?_
                  refine HO_nil ?_
                  refine H_env (ρ' := [(55, _), (32, _), (8, _), (5, _), (6, _), (25, _), (26, _), (27, _)]) ⟨rfl, rfl, rfl, rfl, rfl, rfl, rfl, rfl, trivial⟩ ?_
                  refine H_cond rfl ?_ ?_
                  · intro h55
                    (try simp only [decide_eq_true_eq, decide_eq_false_iff_not, Bool.not_eq_true', Bool.not_eq_false', Bool.not_eq_true, Bool.not_eq_false, Bool.true_eq_false, Bool.false_eq_true, not_false_eq_true, not_true_eq_false] at h55)
                    refine H_skip ?_
                    refine H_cond rfl ?_ ?_
                    · intro h55
                      (try simp only [decide_eq_true_eq, decide_eq_false_iff_not, Bool.not_eq_true', Bool.not_eq_false', Bool.not_eq_true, Bool.not_eq_false, Bool.true_eq_false, Bool.false_eq_true, not_false_eq_true, not_true_eq_false] at h55)
                      -- R17 law.go:64
                      refine H_region (l := [_, _, _, _, _, _]) rfl ?_
                      refine HO_move rfl rfl rfl ?_
                      refine HO_dup (i := 1) rfl rfl ?_
                      refine HO_call (first := []) (capt := []) (is := [0, 0]) (R := [_, _, _, _]) rfl rfl rfl rfl rfl Try.call20 rfl (cText_spec _ _ _ _ _ ?_) ?_
                      · (first | omega | assumption | decide)
                      intro y59 hy59
                      refine HO_move rfl rfl rfl ?_
                      refine HO_dup (i := 4) rfl rfl ?_
                      refine HO_call (first := []) (capt := []) (is := [3, 0]) (R := [_, _, _, _, _]) rfl rfl rfl rfl rfl Try.call31 rfl (rText_spec _ _ _ _ _ ?_) ?_
                      · (first | omega | assumption | decide)
                      intro y61 hy61
                      refine HO_bin rfl rfl rfl rfl bin_eqs ?_
                      refine HO_assign rfl rfl rfl ?_
                      refine HO_nil ?_
                      refine H_env (ρ' := [(9, _), (5, _), (6, _), (25, _), (26, _), (27, _)]) ⟨rfl, rfl, rfl, rfl, rfl, rfl, trivial⟩ ?_
                      refine H_world (fun _ hA => hA.drop (is := [4, 5]) (Y := [_, _]) (Z := [_, _, _, _, _]) rfl) ?_
                      refine H_blk ?_
                      refine H_inv (fun a w hf hA => ⟨hf.sub ?_, ⟨(Cod.rd [] (Cod.decT bs) bs wr).2.1, (Cod.rd [] (Cod.decT bs) bs wr).2.2, y59.1, y59.2, y61.1, y61.2⟩, ?_, ?_⟩)
                      · exact ⟨rfl, rfl, congrArg (fun z => some (Value.bool z)) (by simp), rfl, rfl, rfl, trivial⟩
                      · first | exact Nat.le_trans (Cod.rd_len _ _ _ _) hI.2 | exact Nat.le_trans (Cod.cnt_len _ _ _) hI.2
                      · exact hA.only (is := [0, 1, 0, 1, 4]) (Z := []) rfl
                    · intro h55
                      (try simp only [decide_eq_true_eq, decide_eq_false_iff_not, Bool.not_eq_true', Bool.not_eq_false', Bool.not_eq_true, Bool.not_eq_false, Bool.true_eq_false, Bool.false_eq_true, not_false_eq_true, not_true_eq_false] at h55)
                      refine H_seq ?_
                      -- R18 law.go:65
                      refine H_region (l := [_, _]) rfl ?_
                      refine HO_bin rfl rfl rfl rfl bin_eql ?_
                      refine HO_assign rfl rfl rfl ?_
                      refine HO_nil ?_
                      refine H_env (ρ' := [(63, _), (8, _), (5, _), (6, _), (25, _), (26, _), (27, _)]) ⟨rfl, rfl, rfl, rfl, rfl, rfl, rfl, trivial⟩ ?_
                      refine H_cond rfl ?_ ?_
                      · intro h63
                        (try simp only [decide_eq_true_eq, decide_eq_false_iff_not, Bool.not_eq_true', Bool.not_eq_false', Bool.not_eq_true, Bool.not_eq_false, Bool.true_eq_false, Bool.false_eq_true, not_false_eq_true, not_true_eq_false] at h63)
                        -- R19 law.go:66
                        refine H_region (l := [_, _, _, _, _, _]) rfl ?_
                        refine HO_move rfl rfl rfl ?_
                        refine HO_dup (i := 1) rfl rfl ?_
                        refine HO_call (first := []) (capt := []) (is := [0, 0]) (R := [_, _, _, _]) rfl rfl rfl rfl rfl Try.call21 rfl (cBool_spec _ _ _ _ _) ?_
                        intro y66 hy66
                        refine HO_move rfl rfl rfl ?_
                        refine HO_dup (i := 4) rfl rfl ?_
                        refine HO_call (first := []) (capt := []) (is := [3, 0]) (R := [_, _, _, _, _]) rfl rfl rfl rfl rfl Try.call32 rfl (rBool_spec _ _ _ _ _) ?_
                        intro y68 hy68
                        refine HO_bin rfl rfl rfl rfl (bin_eqb Try.runUnderlying4) ?_
                        refine HO_assign rfl rfl rfl ?_
                        refine HO_nil ?_
                        refine H_env (ρ' := [(9, _), (5, _), (6, _), (25, _), (26, _), (27, _)]) ⟨rfl, rfl, rfl, rfl, rfl, rfl, trivial⟩ ?_
                        refine H_world (fun _ hA => hA.drop (is := [4, 5]) (Y := [_, _]) (Z := [_, _, _, _, _]) rfl) ?_
                        refine H_blk ?_
                        refine H_inv (fun a w hf hA => ⟨hf.sub ?_, ⟨(Cod.rd false (Cod.decB bs) bs wr).2.1, (Cod.rd false (Cod.decB bs) bs wr).2.2, y66.1, y66.2, y68.1, y68.2⟩, ?_, ?_⟩)
                        · exact ⟨rfl, rfl, congrArg (fun z => some (Value.bool z)) (by simp), rfl, rfl, rfl, trivial⟩
                        · first | exact Nat.le_trans (Cod.rd_len _ _ _ _) hI.2 | exact Nat.le_trans (Cod.cnt_len _ _ _) hI.2
                        · exact hA.only (is := [0, 1, 0, 1, 4]) (Z := []) rfl
                      · intro h63
                        (try simp only [decide_eq_true_eq, decide_eq_false_iff_not, Bool.not_eq_true', Bool.not_eq_false', Bool.not_eq_true, Bool.not_eq_false, Bool.true_eq_false, Bool.false_eq_true, not_false_eq_true, not_true_eq_false] at h63)
                        -- R9 law.go:68
                        refine H_region (l := [_, _, _, _, _, _, _, _]) rfl ?_
                        refine HO_move rfl rfl rfl ?_
                        refine HO_move rfl rfl rfl ?_
                        refine HO_dup (i := 1) rfl rfl ?_
                        refine HO_call (first := []) (capt := []) (is := [0, 0]) (R := [_, _, _, _]) rfl rfl rfl rfl rfl Try.call33 rfl (cCount_spec _ _ _ _ _ _ ?_) ?_
                        · exact hI29
                        intro y35 hy35
                        refine HO_move rfl rfl rfl ?_
                        refine HO_move rfl rfl rfl ?_
                        refine HO_dup (i := 4) rfl rfl ?_
                        refine HO_call (first := []) (capt := []) (is := [3, 0]) (R := [_, _, _, _, _]) rfl rfl rfl rfl rfl Try.call34 rfl (rCount_spec _ _ _ _ _ _ ?_) ?_
                        · exact hI29
                        intro y38 hy38
                        refine HO_bin rfl rfl rfl rfl bin_eql ?_
                        refine HO_assign rfl rfl rfl ?_
                        refine HO_nil ?_
                        refine H_env (ρ' := [(9, _), (5, _), (6, _), (25, _), (26, _), (27, _)]) ⟨rfl, rfl, rfl, rfl, rfl, rfl, trivial⟩ ?_
                        refine H_world (fun _ hA => hA.drop (is := [4, 5]) (Y := [_, _]) (Z := [_, _, _, _, _]) rfl) ?_
                        refine H_blk ?_
                        refine H_inv (fun a w hf hA => ⟨hf.sub ?_, ⟨(Cod.cnt z29 bs wr).2.1, (Cod.cnt z29 bs wr).2.2, y35.1, y35.2, y38.1, y38.2⟩, ?_, ?_⟩)
                        · exact ⟨rfl, rfl, congrArg (fun z => some (Value.bool z)) (by simp), rfl, rfl, rfl, trivial⟩
                        · first | exact Nat.le_trans (Cod.rd_len _ _ _ _) hI.2 | exact Nat.le_trans (Cod.cnt_len _ _ _) hI.2
                        · exact hA.only (is := [0, 1, 0, 1, 4]) (Z := []) rfl
                  · intro h55
                    (try simp only [decide_eq_true_eq, decide_eq_false_iff_not, Bool.not_eq_true', Bool.not_eq_false', Bool.not_eq_true, Bool.not_eq_false, Bool.true_eq_false, Bool.false_eq_true, not_false_eq_true, not_true_eq_false] at h55)
                    -- R16 law.go:63
                    refine H_region (l := [_, _]) rfl ?_
                    refine HO_bin rfl rfl rfl rfl bin_eql ?_
                    refine HO_assign rfl rfl rfl ?_
                    refine HO_nil ?_
                    refine H_env (ρ' := [(55, _), (32, _), (8, _), (5, _), (6, _), (25, _), (26, _), (27, _)]) ⟨rfl, rfl, rfl, rfl, rfl, rfl, rfl, rfl, trivial⟩ ?_
                    refine H_cond rfl ?_ ?_
                    · intro h55
                      (try simp only [decide_eq_true_eq, decide_eq_false_iff_not, Bool.not_eq_true', Bool.not_eq_false', Bool.not_eq_true, Bool.not_eq_false, Bool.true_eq_false, Bool.false_eq_true, not_false_eq_true, not_true_eq_false] at h55)
                      -- R17 law.go:64
                      refine H_region (l := [_, _, _, _, _, _]) rfl ?_
                      refine HO_move rfl rfl rfl ?_
                      refine HO_dup (i := 1) rfl rfl ?_
                      refine HO_call (first := []) (capt := []) (is := [0, 0]) (R := [_, _, _, _]) rfl rfl rfl rfl rfl Try.call20 rfl (cText_spec _ _ _ _ _ ?_) ?_
                      · (first | omega | assumption | decide)
                      intro y59 hy59
                      refine HO_move rfl rfl rfl ?_
                      refine HO_dup (i := 4) rfl rfl ?_
                      refine HO_call (first := []) (capt := []) (is := [3, 0]) (R := [_, _, _, _, _]) rfl rfl rfl rfl rfl Try.call31 rfl (rText_spec _ _ _ _ _ ?_) ?_
                      · (first | omega | assumption | decide)
                      intro y61 hy61
                      refine HO_bin rfl rfl rfl rfl bin_eqs ?_
                      refine HO_assign rfl rfl rfl ?_
                      refine HO_nil ?_
                      refine H_env (ρ' := [(9, _), (5, _), (6, _), (25, _), (26, _), (27, _)]) ⟨rfl, rfl, rfl, rfl, rfl, rfl, trivial⟩ ?_
                      refine H_world (fun _ hA => hA.drop (is := [4, 5]) (Y := [_, _]) (Z := [_, _, _, _, _]) rfl) ?_
                      refine H_blk ?_
                      refine H_inv (fun a w hf hA => ⟨hf.sub ?_, ⟨(Cod.rd [] (Cod.decT bs) bs wr).2.1, (Cod.rd [] (Cod.decT bs) bs wr).2.2, y59.1, y59.2, y61.1, y61.2⟩, ?_, ?_⟩)
                      · exact ⟨rfl, rfl, congrArg (fun z => some (Value.bool z)) (by simp), rfl, rfl, rfl, trivial⟩
                      · first | exact Nat.le_trans (Cod.rd_len _ _ _ _) hI.2 | exact Nat.le_trans (Cod.cnt_len _ _ _) hI.2
                      · exact hA.only (is := [0, 1, 0, 1, 4]) (Z := []) rfl
                    · intro h55
                      (try simp only [decide_eq_true_eq, decide_eq_false_iff_not, Bool.not_eq_true', Bool.not_eq_false', Bool.not_eq_true, Bool.not_eq_false, Bool.true_eq_false, Bool.false_eq_true, not_false_eq_true, not_true_eq_false] at h55)
                      refine H_seq ?_
                      -- R18 law.go:65
                      refine H_region (l := [_, _]) rfl ?_
                      refine HO_bin rfl rfl rfl rfl bin_eql ?_
                      refine HO_assign rfl rfl rfl ?_
                      refine HO_nil ?_
                      refine H_env (ρ' := [(63, _), (8, _), (5, _), (6, _), (25, _), (26, _), (27, _)]) ⟨rfl, rfl, rfl, rfl, rfl, rfl, rfl, trivial⟩ ?_
                      refine H_cond rfl ?_ ?_
                      · intro h63
                        (try simp only [decide_eq_true_eq, decide_eq_false_iff_not, Bool.not_eq_true', Bool.not_eq_false', Bool.not_eq_true, Bool.not_eq_false, Bool.true_eq_false, Bool.false_eq_true, not_false_eq_true, not_true_eq_false] at h63)
                        -- R19 law.go:66
                        refine H_region (l := [_, _, _, _, _, _]) rfl ?_
                        refine HO_move rfl rfl rfl ?_
                        refine HO_dup (i := 1) rfl rfl ?_
                        refine HO_call (first := []) (capt := []) (is := [0, 0]) (R := [_, _, _, _]) rfl rfl rfl rfl rfl Try.call21 rfl (cBool_spec _ _ _ _ _) ?_
                        intro y66 hy66
                        refine HO_move rfl rfl rfl ?_
                        refine HO_dup (i := 4) rfl rfl ?_
                        refine HO_call (first := []) (capt := []) (is := [3, 0]) (R := [_, _, _, _, _]) rfl rfl rfl rfl rfl Try.call32 rfl (rBool_spec _ _ _ _ _) ?_
                        intro y68 hy68
                        refine HO_bin rfl rfl rfl rfl (bin_eqb Try.runUnderlying4) ?_
                        refine HO_assign rfl rfl rfl ?_
                        refine HO_nil ?_
                        refine H_env (ρ' := [(9, _), (5, _), (6, _), (25, _), (26, _), (27, _)]) ⟨rfl, rfl, rfl, rfl, rfl, rfl, trivial⟩ ?_
                        refine H_world (fun _ hA => hA.drop (is := [4, 5]) (Y := [_, _]) (Z := [_, _, _, _, _]) rfl) ?_
                        refine H_blk ?_
                        refine H_inv (fun a w hf hA => ⟨hf.sub ?_, ⟨(Cod.rd false (Cod.decB bs) bs wr).2.1, (Cod.rd false (Cod.decB bs) bs wr).2.2, y66.1, y66.2, y68.1, y68.2⟩, ?_, ?_⟩)
                        · exact ⟨rfl, rfl, congrArg (fun z => some (Value.bool z)) (by simp), rfl, rfl, rfl, trivial⟩
                        · first | exact Nat.le_trans (Cod.rd_len _ _ _ _) hI.2 | exact Nat.le_trans (Cod.cnt_len _ _ _) hI.2
                        · exact hA.only (is := [0, 1, 0, 1, 4]) (Z := []) rfl
                      · intro h63
                        (try simp only [decide_eq_true_eq, decide_eq_false_iff_not, Bool.not_eq_true', Bool.not_eq_false', Bool.not_eq_true, Bool.not_eq_false, Bool.true_eq_false, Bool.false_eq_true, not_false_eq_true, not_true_eq_false] at h63)
                        -- R9 law.go:68
                        refine H_region (l := [_, _, _, _, _, _, _, _]) rfl ?_
                        refine HO_move rfl rfl rfl ?_
                        refine HO_move rfl rfl rfl ?_
                        refine HO_dup (i := 1) rfl rfl ?_
                        refine HO_call (first := []) (capt := []) (is := [0, 0]) (R := [_, _, _, _]) rfl rfl rfl rfl rfl Try.call33 rfl (cCount_spec _ _ _ _ _ _ ?_) ?_
                        · exact hI29
                        intro y35 hy35
                        refine HO_move rfl rfl rfl ?_
                        refine HO_move rfl rfl rfl ?_
                        refine HO_dup (i := 4) rfl rfl ?_
                        refine HO_call (first := []) (capt := []) (is := [3, 0]) (R := [_, _, _, _, _]) rfl rfl rfl rfl rfl Try.call34 rfl (rCount_spec _ _ _ _ _ _ ?_) ?_
                        · exact hI29
                        intro y38 hy38
                        refine HO_bin rfl rfl rfl rfl bin_eql ?_
                        refine HO_assign rfl rfl rfl ?_
                        refine HO_nil ?_
                        refine H_env (ρ' := [(9, _), (5, _), (6, _), (25, _), (26, _), (27, _)]) ⟨rfl, rfl, rfl, rfl, rfl, rfl, trivial⟩ ?_
                        refine H_world (fun _ hA => hA.drop (is := [4, 5]) (Y := [_, _]) (Z := [_, _, _, _, _]) rfl) ?_
                        refine H_blk ?_
                        refine H_inv (fun a w hf hA => ⟨hf.sub ?_, ⟨(Cod.cnt z29 bs wr).2.1, (Cod.cnt z29 bs wr).2.2, y35.1, y35.2, y38.1, y38.2⟩, ?_, ?_⟩)
                        · exact ⟨rfl, rfl, congrArg (fun z => some (Value.bool z)) (by simp), rfl, rfl, rfl, trivial⟩
                        · first | exact Nat.le_trans (Cod.rd_len _ _ _ _) hI.2 | exact Nat.le_trans (Cod.cnt_len _ _ _) hI.2
                        · exact hA.only (is := [0, 1, 0, 1, 4]) (Z := []) rfl
          · rintro ⟨bs2, wr2, r1, s1, r2, s2⟩ hJ
            (try dsimp only at hJ ⊢)
            refine H_seq ?_
            -- R20 law.go:70 draws
            refine H_draw (is := [1, 3, 4]) (Xs := [_, _, _]) (Z := [_, _]) (fuel := 32) (l := #[false, false, false, false, false, false, false, false, false, false, false, false, false, false, false, false, false, false, false, false, false, false, false, false, false, false, false, false, false, false, false, false]) mixed rfl rfl rfl ?_
            refine HA_take (i := 0) (listed' := #[true, false, false, false, false, false, false, false, false, false, false, false, false, false, false, false, false, false, false, false, false, false, false, false, false, false, false, false, false, false, false, false]) (bodyPost_pan _ _ _) rfl rfl rfl rfl (by kernel_rfl) rfl (V_move rfl) (fun _ hA => hA.only (is := [1, 3, 4]) (Y := [_, _, _]) (Z := [_, _]) rfl) ?_
            refine HA_take (i := 1) (listed' := #[true, true, false, false, false, false, false, false, false, false, false, false, false, false, false, false, false, false, false, false, false, false, false, false, false, false, false, false, false, false, false, false]) (bodyPost_pan _ _ _) rfl rfl rfl rfl (by kernel_rfl) rfl (V_not rfl) (fun _ hA => hA.only (is := [1, 3, 4]) (Y := [_, _, _]) (Z := [_, _]) rfl) ?_
            refine HA_take (i := 2) (listed' := #[true, true, true, false, false, false, false, false, false, false, false, false, false, false, false, false, false, false, false, false, false, false, false, false, false, false, false, false, false, false, false, false]) (bodyPost_pan _ _ _) rfl rfl rfl rfl (by kernel_rfl) rfl (V_move rfl) (fun _ hA => hA.only (is := [1, 3, 4]) (Y := [_, _, _]) (Z := [_, _]) rfl) ?_
            refine HA_take (i := 3) (listed' := #[true, true, true, true, false, false, false, false, false, false, false, false, false, false, false, false, false, false, false, false, false, false, false, false, false, false, false, false, false, false, false, false]) (bodyPost_pan _ _ _) rfl rfl rfl rfl (by kernel_rfl) rfl (V_move rfl) (fun _ hA => hA.only (is := [1, 3, 4]) (Y := [_, _, _]) (Z := [_, _]) rfl) ?_
            refine HA_take (i := 4) (listed' := #[true, true, true, true, true, false, false, false, false, false, false, false, false, false, false, false, false, false, false, false, false, false, false, false, false, false, false, false, false, false, false, false]) (bodyPost_pan _ _ _) rfl rfl rfl rfl (by kernel_rfl) rfl (V_nilCheck rfl) (fun _ hA => hA.only (is := [1, 3, 4]) (Y := [_, _, _]) (Z := [_, _]) rfl) ?_
            refine HA_take (i := 5) (listed' := #[true, true, true, true, true, true, false, false, false, false, false, false, false, false, false, false, false, false, false, false, false, false, false, false, false, false, false, false, false, false, false, false]) (bodyPost_pan _ _ _) rfl rfl rfl rfl (by kernel_rfl) rfl (V_fieldAddr (r := 1) rfl Try.underlying30 rfl Try.sizeOf4 rfl) (fun _ hA => hA.only (is := [1, 3, 4]) (Y := [_, _, _]) (Z := [_, _]) rfl) ?_
            refine HA_take (i := 7) (listed' := #[true, true, true, true, true, true, false, true, false, false, false, false, false, false, false, false, false, false, false, false, false, false, false, false, false, false, false, false, false, false, false, false]) (bodyPost_pan _ _ _) rfl rfl rfl rfl (by kernel_rfl) rfl (V_move rfl) (fun _ hA => hA.only (is := [1, 3, 4]) (Y := [_, _, _]) (Z := [_, _]) rfl) ?_
            refine HA_take (i := 8) (listed' := #[true, true, true, true, true, true, false, true, true, false, false, false, false, false, false, false, false, false, false, false, false, false, false, false, false, false, false, false, false, false, false, false]) (bodyPost_pan _ _ _) rfl rfl rfl rfl (by kernel_rfl) rfl (V_nilCheck rfl) (fun _ hA => hA.only (is := [1, 3, 4]) (Y := [_, _, _]) (Z := [_, _]) rfl) ?_
            refine HA_take (i := 9) (listed' := #[true, true, true, true, true, true, false, true, true, true, false, false, false, false, false, false, false, false, false, false, false, false, false, false, false, false, false, false, false, false, false, false]) (bodyPost_pan _ _ _) rfl rfl rfl rfl (by kernel_rfl) rfl (V_fieldAddr (r := 1) rfl Try.underlying51 rfl Try.sizeOf4 rfl) (fun _ hA => hA.only (is := [1, 3, 4]) (Y := [_, _, _]) (Z := [_, _]) rfl) ?_
            refine HA_loud2 (i := 6) (j := 10) (by kernel_rfl) rfl rfl ?_ ?_
            · refine HO_load1 (i := 0) (j := 1) rfl rfl rfl Try.isAgg4 rfl (.loc _ _ _) rfl rfl ?_
              refine HA_back (listed' := #[true, true, true, true, true, true, true, true, true, true, false, false, false, false, false, false, false, false, false, false, false, false, false, false, false, false, false, false, false, false, false, false]) rfl (fun _ hA => hA.only (is := [1, 3, 4]) (Y := [_, _, _]) (Z := [_, _]) rfl) ?_
              refine HA_loud1 (i := 10) (by kernel_rfl) rfl ?_
              refine HO_load1 (i := 2) (j := 1) rfl rfl rfl Try.isAgg4 rfl (.loc _ _ _) rfl rfl ?_
              refine HA_back (listed' := #[true, true, true, true, true, true, true, true, true, true, true, false, false, false, false, false, false, false, false, false, false, false, false, false, false, false, false, false, false, false, false, false]) rfl (fun _ hA => hA.only (is := [1, 3, 4]) (Y := [_, _, _]) (Z := [_, _]) rfl) ?_
              refine HA_take (i := 11) (listed' := #[true, true, true, true, true, true, true, true, true, true, true, true, false, false, false, false, false, false, false, false, false, false, false, false, false, false, false, false, false, false, false, false]) (bodyPost_pan _ _ _) rfl rfl rfl rfl (by kernel_rfl) rfl (V_bin rfl rfl (bin_neb Try.runUnderlying4)) (fun _ hA => hA.only (is := [1, 3, 4]) (Y := [_, _, _]) (Z := [_, _]) rfl) ?_
              refine HA_take (i := 12) (listed' := #[true, true, true, true, true, true, true, true, true, true, true, true, true, false, false, false, false, false, false, false, false, false, false, false, false, false, false, false, false, false, false, false]) (bodyPost_pan _ _ _) rfl rfl rfl rfl (by kernel_rfl) rfl (V_pick_f rfl rfl) (fun _ hA => hA.only (is := [1, 3, 4]) (Y := [_, _, _]) (Z := [_, _]) rfl) ?_
              refine HA_take (i := 13) (listed' := #[true, true, true, true, true, true, true, true, true, true, true, true, true, true, false, false, false, false, false, false, false, false, false, false, false, false, false, false, false, false, false, false]) (bodyPost_pan _ _ _) rfl rfl rfl rfl (by kernel_rfl) rfl (V_move rfl) (fun _ hA => hA.only (is := [1, 3, 4]) (Y := [_, _, _]) (Z := [_, _]) rfl) ?_
              refine HA_split (d := 83) rfl ?_ ?_
              · intro h83
                (try simp only [decide_eq_true_eq, decide_eq_false_iff_not, Bool.not_eq_true', Bool.not_eq_false', Bool.not_eq_true, Bool.not_eq_false, Bool.true_eq_false, Bool.false_eq_true, not_false_eq_true, not_true_eq_false] at h83)
                all_goals (first | exact absurd rfl h83 | exact absurd h83 (by simp))
              · intro h83
                (try simp only [decide_eq_true_eq, decide_eq_false_iff_not, Bool.not_eq_true', Bool.not_eq_false', Bool.not_eq_true, Bool.not_eq_false, Bool.true_eq_false, Bool.false_eq_true, not_false_eq_true, not_true_eq_false] at h83)
                refine HA_take (i := 14) (listed' := #[true, true, true, true, true, true, true, true, true, true, true, true, true, true, true, false, false, false, false, false, false, false, false, false, false, false, false, false, false, false, false, false]) (bodyPost_pan _ _ _) rfl rfl rfl rfl (by kernel_rfl) rfl (V_move rfl) (fun _ hA => hA.only (is := [1, 3, 4]) (Y := [_, _, _]) (Z := [_, _]) rfl) ?_
                refine HA_take (i := 15) (listed' := #[true, true, true, true, true, true, true, true, true, true, true, true, true, true, true, true, false, false, false, false, false, false, false, false, false, false, false, false, false, false, false, false]) (bodyPost_pan _ _ _) rfl rfl rfl rfl (by kernel_rfl) rfl (V_nilCheck rfl) (fun _ hA => hA.only (is := [1, 3, 4]) (Y := [_, _, _]) (Z := [_, _]) rfl) ?_
                refine HA_take (i := 16) (listed' := #[true, true, true, true, true, true, true, true, true, true, true, true, true, true, true, true, true, false, false, false, false, false, false, false, false, false, false, false, false, false, false, false]) (bodyPost_pan _ _ _) rfl rfl rfl rfl (by kernel_rfl) rfl (V_fieldAddr (r := 0) rfl Try.underlying30 rfl Try.sizeOf25 rfl) (fun _ hA => hA.only (is := [1, 3, 4]) (Y := [_, _, _]) (Z := [_, _]) rfl) ?_
                refine HA_take (i := 18) (listed' := #[true, true, true, true, true, true, true, true, true, true, true, true, true, true, true, true, true, false, true, false, false, false, false, false, false, false, false, false, false, false, false, false]) (bodyPost_pan _ _ _) rfl rfl rfl rfl (by kernel_rfl) rfl (V_move rfl) (fun _ hA => hA.only (is := [1, 3, 4]) (Y := [_, _, _]) (Z := [_, _]) rfl) ?_
                refine HA_take (i := 19) (listed' := #[true, true, true, true, true, true, true, true, true, true, true, true, true, true, true, true, true, false, true, true, false, false, false, false, false, false, false, false, false, false, false, false]) (bodyPost_pan _ _ _) rfl rfl rfl rfl (by kernel_rfl) rfl (V_nilCheck rfl) (fun _ hA => hA.only (is := [1, 3, 4]) (Y := [_, _, _]) (Z := [_, _]) rfl) ?_
                refine HA_take (i := 20) (listed' := #[true, true, true, true, true, true, true, true, true, true, true, true, true, true, true, true, true, false, true, true, true, false, false, false, false, false, false, false, false, false, false, false]) (bodyPost_pan _ _ _) rfl rfl rfl rfl (by kernel_rfl) rfl (V_fieldAddr (r := 0) rfl Try.underlying51 rfl Try.sizeOf25 rfl) (fun _ hA => hA.only (is := [1, 3, 4]) (Y := [_, _, _]) (Z := [_, _]) rfl) ?_
                refine HA_loud2 (i := 17) (j := 21) (by kernel_rfl) rfl rfl ?_ ?_
                · refine HO_load1 (i := 0) (j := 0) rfl rfl rfl Try.isAgg25 rfl (.loc _ _ _) rfl rfl ?_
                  refine HA_back (listed' := #[true, true, true, true, true, true, true, true, true, true, true, true, true, true, true, true, true, true, true, true, true, false, false, false, false, false, false, false, false, false, false, false]) rfl (fun _ hA => hA.only (is := [1, 3, 4]) (Y := [_, _, _]) (Z := [_, _]) rfl) ?_
                  refine HA_loud1 (i := 21) (by kernel_rfl) rfl ?_
                  refine HO_load1 (i := 2) (j := 0) rfl rfl rfl Try.isAgg25 rfl (.loc _ _ _) rfl rfl ?_
                  refine HA_back (listed' := #[true, true, true, true, true, true, true, true, true, true, true, true, true, true, true, true, true, true, true, true, true, true, false, false, false, false, false, false, false, false, false, false]) rfl (fun _ hA => hA.only (is := [1, 3, 4]) (Y := [_, _, _]) (Z := [_, _]) rfl) ?_
                  refine HA_loud1 (i := 22) (by kernel_rfl) rfl ?_
                  refine HO_dup (i := 1) rfl rfl ?_
                  refine HO_dup (i := 4) rfl rfl ?_
                  refine HO_call (first := []) (capt := []) (is := [0, 0]) (R := [_, _, _, _, _]) rfl rfl rfl rfl rfl Try.call35 rfl (rsame_spec _ _ _ _ _ _) ?_
                  intro y92 hy92
                  clear y92 hy92
                  refine HA_back (listed' := #[true, true, true, true, true, true, true, true, true, true, true, true, true, true, true, true, true, true, true, true, true, true, true, false, false, false, false, false, false, false, false, false]) rfl (fun _ hA => hA.only (is := [1, 3, 4]) (Y := [_, _, _]) (Z := [_, _]) rfl) ?_
                  refine HA_take (i := 23) (listed' := #[true, true, true, true, true, true, true, true, true, true, true, true, true, true, true, true, true, true, true, true, true, true, true, true, false, false, false, false, false, false, false, false]) (bodyPost_pan _ _ _) rfl rfl rfl rfl (by kernel_rfl) rfl (V_not rfl) (fun _ hA => hA.only (is := [1, 3, 4]) (Y := [_, _, _]) (Z := [_, _]) rfl) ?_
                  refine HA_take (i := 24) (listed' := #[true, true, true, true, true, true, true, true, true, true, true, true, true, true, true, true, true, true, true, true, true, true, true, true, true, false, false, false, false, false, false, false]) (bodyPost_pan _ _ _) rfl rfl rfl rfl (by kernel_rfl) rfl (V_pick_f rfl rfl) (fun _ hA => hA.only (is := [1, 3, 4]) (Y := [_, _, _]) (Z := [_, _]) rfl) ?_
                  refine HA_take (i := 25) (listed' := #[true, true, true, true, true, true, true, true, true, true, true, true, true, true, true, true, true, true, true, true, true, true, true, true, true, true, false, false, false, false, false, false]) (bodyPost_pan _ _ _) rfl rfl rfl rfl (by kernel_rfl) rfl (V_move rfl) (fun _ hA => hA.only (is := [1, 3, 4]) (Y := [_, _, _]) (Z := [_, _]) rfl) ?_
                  refine HA_split (d := 95) rfl ?_ ?_
                  · intro h95
                    (try simp only [decide_eq_true_eq, decide_eq_false_iff_not, Bool.not_eq_true', Bool.not_eq_false', Bool.not_eq_true, Bool.not_eq_false, Bool.true_eq_false, Bool.false_eq_true, not_false_eq_true, not_true_eq_false] at h95)
                    all_goals (first | exact absurd rfl h95 | exact absurd h95 (by simp))
                  · intro h95
                    (try simp only [decide_eq_true_eq, decide_eq_false_iff_not, Bool.not_eq_true', Bool.not_eq_false', Bool.not_eq_true, Bool.not_eq_false, Bool.true_eq_false, Bool.false_eq_true, not_false_eq_true, not_true_eq_false] at h95)
                    refine HA_take (i := 26) (listed' := #[true, true, true, true, true, true, true, true, true, true, true, true, true, true, true, true, true, true, true, true, true, true, true, true, true, true, true, false, false, false, false, false]) (bodyPost_pan _ _ _) rfl rfl rfl rfl (by kernel_rfl) rfl (V_move rfl) (fun _ hA => hA.only (is := [1, 3, 4]) (Y := [_, _, _]) (Z := [_, _]) rfl) ?_
                    refine HA_take (i := 28) (listed' := #[true, true, true, true, true, true, true, true, true, true, true, true, true, true, true, true, true, true, true, true, true, true, true, true, true, true, true, false, true, false, false, false]) (bodyPost_pan _ _ _) rfl rfl rfl rfl (by kernel_rfl) rfl (V_move rfl) (fun _ hA => hA.only (is := [1, 3, 4]) (Y := [_, _, _]) (Z := [_, _]) rfl) ?_
                    refine HA_loud1 (i := 27) (by kernel_rfl) rfl ?_
                    refine HO_dup (i := 1) rfl rfl ?_
                    refine HO_call (first := []) (capt := []) (is := [0, 0]) (R := [_, _, _, _]) rfl rfl rfl rfl rfl Try.call22 rfl (cEnd_spec _ _ _ _ _) ?_
                    intro y97 hy97
                    clear y97 hy97
                    refine HA_back (listed' := #[true, true, true, true, true, true, true, true, true, true, true, true, true, true, true, true, true, true, true, true, true, true, true, true, true, true, true, true, true, false, false, false]) rfl (fun _ hA => hA.only (is := [1, 3, 4]) (Y := [_, _, _]) (Z := [_, _]) rfl) ?_
                    refine HA_loud1 (i := 29) (by kernel_rfl) rfl ?_
                    refine HO_dup (i := 3) rfl rfl ?_
                    refine HO_call (first := []) (capt := []) (is := [2, 0]) (R := [_, _, _, _]) rfl rfl rfl rfl rfl Try.call36 rfl (rEnd_spec _ _ _ _ _) ?_
                    intro y99 hy99
                    clear y99 hy99
                    refine HA_back (listed' := #[true, true, true, true, true, true, true, true, true, true, true, true, true, true, true, true, true, true, true, true, true, true, true, true, true, true, true, true, true, true, false, false]) rfl (fun _ hA => hA.only (is := [2, 3, 4]) (Y := [_, _, _]) (Z := [_, _]) rfl) ?_
                    refine HA_take (i := 30) (listed' := #[true, true, true, true, true, true, true, true, true, true, true, true, true, true, true, true, true, true, true, true, true, true, true, true, true, true, true, true, true, true, true, false]) (bodyPost_pan _ _ _) rfl rfl rfl rfl (by kernel_rfl) rfl (V_bin rfl rfl (bin_neb Try.runUnderlying4)) (fun _ hA => hA.only (is := [2, 3, 4]) (Y := [_, _, _]) (Z := [_, _]) rfl) ?_
                    refine HA_take (i := 31) (listed' := #[true, true, true, true, true, true, true, true, true, true, true, true, true, true, true, true, true, true, true, true, true, true, true, true, true, true, true, true, true, true, true, true]) (bodyPost_pan _ _ _) rfl rfl rfl rfl (by kernel_rfl) rfl (V_pick_f rfl rfl) (fun _ hA => hA.only (is := [2, 3, 4]) (Y := [_, _, _]) (Z := [_, _]) rfl) ?_
                    refine HA_done (by kernel_rfl) ?_
                    refine H_env (ρ' := [(101, _), (5, _), (6, _), (25, _), (26, _), (27, _)]) ⟨rfl, rfl, rfl, rfl, rfl, rfl, trivial⟩ ?_
                    refine H_cond rfl ?_ ?_
                    · intro h101
                      (try simp only [decide_eq_true_eq, decide_eq_false_iff_not, Bool.not_eq_true', Bool.not_eq_false', Bool.not_eq_true, Bool.not_eq_false, Bool.true_eq_false, Bool.false_eq_true, not_false_eq_true, not_true_eq_false] at h101)
                      all_goals (first | exact absurd rfl h101 | exact absurd h101 (by simp))
                    · intro h101
                      (try simp only [decide_eq_true_eq, decide_eq_false_iff_not, Bool.not_eq_true', Bool.not_eq_false', Bool.not_eq_true, Bool.not_eq_false, Bool.true_eq_false, Bool.false_eq_true, not_false_eq_true, not_true_eq_false] at h101)
                      refine H_skip ?_
                      refine H_blk ?_
                      -- R22 law.go:56
                      refine H_region (l := [_, _]) rfl ?_
                      refine HO_bin rfl rfl rfl rfl (bin_add ?_ ?_) ?_
                      · omega
                      · omega
                      refine HO_move rfl rfl rfl ?_
                      refine HO_nil ?_
                      refine H_env (ρ' := [(27, _), (5, _), (6, _), (25, _), (26, _)]) ⟨rfl, rfl, rfl, rfl, rfl, trivial⟩ ?_
                      refine H_inv (fun a w hf hA => ⟨⟨i + 1, bs2, wr2, r1, s1, r2, s2⟩, ?_, ?_, hf.sub ?_, ?_⟩)
                      · exact ⟨by omega, hJ⟩
                      · (try dsimp only); omega
                      · exact ⟨rfl, rfl, rfl, rfl, rfl, trivial⟩
                      · exact hA.only (is := [0, 1, 0, 3, 4]) (Z := []) rfl
                · refine HO_load1 (i := 2) (j := 0) rfl rfl rfl Try.isAgg25 rfl (.loc _ _ _) rfl rfl ?_
                  refine HA_back (listed' := #[true, true, true, true, true, true, true, true, true, true, true, true, true, true, true, true, true, false, true, true, true, true, false, false, false, false, false, false, false, false, false, false]) rfl (fun _ hA => hA.only (is := [1, 3, 4]) (Y := [_, _, _]) (Z := [_, _]) rfl) ?_
                  refine HA_loud1 (i := 17) (by kernel_rfl) rfl ?_
                  refine HO_load1 (i := 0) (j := 0) rfl rfl rfl Try.isAgg25 rfl (.loc _ _ _) rfl rfl ?_
                  refine HA_back (listed' := #[true, true, true, true, true, true, true, true, true, true, true, true, true, true, true, true, true, true, true, true, true, true, false, false, false, false, false, false, false, false, false, false]) rfl (fun _ hA => hA.only (is := [1, 3, 4]) (Y := [_, _, _]) (Z := [_, _]) rfl) ?_
                  refine HA_loud1 (i := 22) (by kernel_rfl) rfl ?_
                  refine HO_dup (i := 1) rfl rfl ?_
                  refine HO_dup (i := 4) rfl rfl ?_
                  refine HO_call (first := []) (capt := []) (is := [0, 0]) (R := [_, _, _, _, _]) rfl rfl rfl rfl rfl Try.call35 rfl (rsame_spec _ _ _ _ _ _) ?_
                  intro y92 hy92
                  clear y92 hy92
                  refine HA_back (listed' := #[true, true, true, true, true, true, true, true, true, true, true, true, true, true, true, true, true, true, true, true, true, true, true, false, false, false, false, false, false, false, false, false]) rfl (fun _ hA => hA.only (is := [1, 3, 4]) (Y := [_, _, _]) (Z := [_, _]) rfl) ?_
                  refine HA_take (i := 23) (listed' := #[true, true, true, true, true, true, true, true, true, true, true, true, true, true, true, true, true, true, true, true, true, true, true, true, false, false, false, false, false, false, false, false]) (bodyPost_pan _ _ _) rfl rfl rfl rfl (by kernel_rfl) rfl (V_not rfl) (fun _ hA => hA.only (is := [1, 3, 4]) (Y := [_, _, _]) (Z := [_, _]) rfl) ?_
                  refine HA_take (i := 24) (listed' := #[true, true, true, true, true, true, true, true, true, true, true, true, true, true, true, true, true, true, true, true, true, true, true, true, true, false, false, false, false, false, false, false]) (bodyPost_pan _ _ _) rfl rfl rfl rfl (by kernel_rfl) rfl (V_pick_f rfl rfl) (fun _ hA => hA.only (is := [1, 3, 4]) (Y := [_, _, _]) (Z := [_, _]) rfl) ?_
                  refine HA_take (i := 25) (listed' := #[true, true, true, true, true, true, true, true, true, true, true, true, true, true, true, true, true, true, true, true, true, true, true, true, true, true, false, false, false, false, false, false]) (bodyPost_pan _ _ _) rfl rfl rfl rfl (by kernel_rfl) rfl (V_move rfl) (fun _ hA => hA.only (is := [1, 3, 4]) (Y := [_, _, _]) (Z := [_, _]) rfl) ?_
                  refine HA_split (d := 95) rfl ?_ ?_
                  · intro h95
                    (try simp only [decide_eq_true_eq, decide_eq_false_iff_not, Bool.not_eq_true', Bool.not_eq_false', Bool.not_eq_true, Bool.not_eq_false, Bool.true_eq_false, Bool.false_eq_true, not_false_eq_true, not_true_eq_false] at h95)
                    all_goals (first | exact absurd rfl h95 | exact absurd h95 (by simp))
                  · intro h95
                    (try simp only [decide_eq_true_eq, decide_eq_false_iff_not, Bool.not_eq_true', Bool.not_eq_false', Bool.not_eq_true, Bool.not_eq_false, Bool.true_eq_false, Bool.false_eq_true, not_false_eq_true, not_true_eq_false] at h95)
                    refine HA_take (i := 26) (listed' := #[true, true, true, true, true, true, true, true, true, true, true, true, true, true, true, true, true, true, true, true, true, true, true, true, true, true, true, false, false, false, false, false]) (bodyPost_pan _ _ _) rfl rfl rfl rfl (by kernel_rfl) rfl (V_move rfl) (fun _ hA => hA.only (is := [1, 3, 4]) (Y := [_, _, _]) (Z := [_, _]) rfl) ?_
                    refine HA_take (i := 28) (listed' := #[true, true, true, true, true, true, true, true, true, true, true, true, true, true, true, true, true, true, true, true, true, true, true, true, true, true, true, false, true, false, false, false]) (bodyPost_pan _ _ _) rfl rfl rfl rfl (by kernel_rfl) rfl (V_move rfl) (fun _ hA => hA.only (is := [1, 3, 4]) (Y := [_, _, _]) (Z := [_, _]) rfl) ?_
                    refine HA_loud1 (i := 27) (by kernel_rfl) rfl ?_
                    refine HO_dup (i := 1) rfl rfl ?_
                    refine HO_call (first := []) (capt := []) (is := [0, 0]) (R := [_, _, _, _]) rfl rfl rfl rfl rfl Try.call22 rfl (cEnd_spec _ _ _ _ _) ?_
                    intro y97 hy97
                    clear y97 hy97
                    refine HA_back (listed' := #[true, true, true, true, true, true, true, true, true, true, true, true, true, true, true, true, true, true, true, true, true, true, true, true, true, true, true, true, true, false, false, false]) rfl (fun _ hA => hA.only (is := [1, 3, 4]) (Y := [_, _, _]) (Z := [_, _]) rfl) ?_
                    refine HA_loud1 (i := 29) (by kernel_rfl) rfl ?_
                    refine HO_dup (i := 3) rfl rfl ?_
                    refine HO_call (first := []) (capt := []) (is := [2, 0]) (R := [_, _, _, _]) rfl rfl rfl rfl rfl Try.call36 rfl (rEnd_spec _ _ _ _ _) ?_
                    intro y99 hy99
                    clear y99 hy99
                    refine HA_back (listed' := #[true, true, true, true, true, true, true, true, true, true, true, true, true, true, true, true, true, true, true, true, true, true, true, true, true, true, true, true, true, true, false, false]) rfl (fun _ hA => hA.only (is := [2, 3, 4]) (Y := [_, _, _]) (Z := [_, _]) rfl) ?_
                    refine HA_take (i := 30) (listed' := #[true, true, true, true, true, true, true, true, true, true, true, true, true, true, true, true, true, true, true, true, true, true, true, true, true, true, true, true, true, true, true, false]) (bodyPost_pan _ _ _) rfl rfl rfl rfl (by kernel_rfl) rfl (V_bin rfl rfl (bin_neb Try.runUnderlying4)) (fun _ hA => hA.only (is := [2, 3, 4]) (Y := [_, _, _]) (Z := [_, _]) rfl) ?_
                    refine HA_take (i := 31) (listed' := #[true, true, true, true, true, true, true, true, true, true, true, true, true, true, true, true, true, true, true, true, true, true, true, true, true, true, true, true, true, true, true, true]) (bodyPost_pan _ _ _) rfl rfl rfl rfl (by kernel_rfl) rfl (V_pick_f rfl rfl) (fun _ hA => hA.only (is := [2, 3, 4]) (Y := [_, _, _]) (Z := [_, _]) rfl) ?_
                    refine HA_done (by kernel_rfl) ?_
                    refine H_env (ρ' := [(101, _), (5, _), (6, _), (25, _), (26, _), (27, _)]) ⟨rfl, rfl, rfl, rfl, rfl, rfl, trivial⟩ ?_
                    refine H_cond rfl ?_ ?_
                    · intro h101
                      (try simp only [decide_eq_true_eq, decide_eq_false_iff_not, Bool.not_eq_true', Bool.not_eq_false', Bool.not_eq_true, Bool.not_eq_false, Bool.true_eq_false, Bool.false_eq_true, not_false_eq_true, not_true_eq_false] at h101)
                      all_goals (first | exact absurd rfl h101 | exact absurd h101 (by simp))
                    · intro h101
                      (try simp only [decide_eq_true_eq, decide_eq_false_iff_not, Bool.not_eq_true', Bool.not_eq_false', Bool.not_eq_true, Bool.not_eq_false, Bool.true_eq_false, Bool.false_eq_true, not_false_eq_true, not_true_eq_false] at h101)
                      refine H_skip ?_
                      refine H_blk ?_
                      -- R22 law.go:56
                      refine H_region (l := [_, _]) rfl ?_
                      refine HO_bin rfl rfl rfl rfl (bin_add ?_ ?_) ?_
                      · omega
                      · omega
                      refine HO_move rfl rfl rfl ?_
                      refine HO_nil ?_
                      refine H_env (ρ' := [(27, _), (5, _), (6, _), (25, _), (26, _)]) ⟨rfl, rfl, rfl, rfl, rfl, trivial⟩ ?_
                      refine H_inv (fun a w hf hA => ⟨⟨i + 1, bs2, wr2, r1, s1, r2, s2⟩, ?_, ?_, hf.sub ?_, ?_⟩)
                      · exact ⟨by omega, hJ⟩
                      · (try dsimp only); omega
                      · exact ⟨rfl, rfl, rfl, rfl, rfl, trivial⟩
                      · exact hA.only (is := [0, 1, 0, 3, 4]) (Z := []) rfl
            · refine HO_load1 (i := 2) (j := 1) rfl rfl rfl Try.isAgg4 rfl (.loc _ _ _) rfl rfl ?_
              refine HA_back (listed' := #[true, true, true, true, true, true, false, true, true, true, true, false, false, false, false, false, false, false, false, false, false, false, false, false, false, false, false, false, false, false, false, false]) rfl (fun _ hA => hA.only (is := [1, 3, 4]) (Y := [_, _, _]) (Z := [_, _]) rfl) ?_
              refine HA_loud1 (i := 6) (by kernel_rfl) rfl ?_
              refine HO_load1 (i := 0) (j := 1) rfl rfl rfl Try.isAgg4 rfl (.loc _ _ _) rfl rfl ?_
              refine HA_back (listed' := #[true, true, true, true, true, true, true, true, true, true, true, false, false, false, false, false, false, false, false, false, false, false, false, false, false, false, false, false, false, false, false, false]) rfl (fun _ hA => hA.only (is := [1, 3, 4]) (Y := [_, _, _]) (Z := [_, _]) rfl) ?_
              refine HA_take (i := 11) (listed' := #[true, true, true, true, true, true, true, true, true, true, true, true, false, false, false, false, false, false, false, false, false, false, false, false, false, false, false, false, false, false, false, false]) (bodyPost_pan _ _ _) rfl rfl rfl rfl (by kernel_rfl) rfl (V_bin rfl rfl (bin_neb Try.runUnderlying4)) (fun _ hA => hA.only (is := [1, 3, 4]) (Y := [_, _, _]) (Z := [_, _]) rfl) ?_
              refine HA_take (i := 12) (listed' := #[true, true, true, true, true, true, true, true, true, true, true, true, true, false, false, false, false, false, false, false, false, false, false, false, false, false, false, false, false, false, false, false]) (bodyPost_pan _ _ _) rfl rfl rfl rfl (by kernel_rfl) rfl (V_pick_f rfl rfl) (fun _ hA => hA.only (is := [1, 3, 4]) (Y := [_, _, _]) (Z := [_, _]) rfl) ?_
              refine HA_take (i := 13) (listed' := #[true, true, true, true, true, true, true, true, true, true, true, true, true, true, false, false, false, false, false, false, false, false, false, false, false, false, false, false, false, false, false, false]) (bodyPost_pan _ _ _) rfl rfl rfl rfl (by kernel_rfl) rfl (V_move rfl) (fun _ hA => hA.only (is := [1, 3, 4]) (Y := [_, _, _]) (Z := [_, _]) rfl) ?_
              refine HA_split (d := 83) rfl ?_ ?_
              · intro h83
                (try simp only [decide_eq_true_eq, decide_eq_false_iff_not, Bool.not_eq_true', Bool.not_eq_false', Bool.not_eq_true, Bool.not_eq_false, Bool.true_eq_false, Bool.false_eq_true, not_false_eq_true, not_true_eq_false] at h83)
                all_goals (first | exact absurd rfl h83 | exact absurd h83 (by simp))
              · intro h83
                (try simp only [decide_eq_true_eq, decide_eq_false_iff_not, Bool.not_eq_true', Bool.not_eq_false', Bool.not_eq_true, Bool.not_eq_false, Bool.true_eq_false, Bool.false_eq_true, not_false_eq_true, not_true_eq_false] at h83)
                refine HA_take (i := 14) (listed' := #[true, true, true, true, true, true, true, true, true, true, true, true, true, true, true, false, false, false, false, false, false, false, false, false, false, false, false, false, false, false, false, false]) (bodyPost_pan _ _ _) rfl rfl rfl rfl (by kernel_rfl) rfl (V_move rfl) (fun _ hA => hA.only (is := [1, 3, 4]) (Y := [_, _, _]) (Z := [_, _]) rfl) ?_
                refine HA_take (i := 15) (listed' := #[true, true, true, true, true, true, true, true, true, true, true, true, true, true, true, true, false, false, false, false, false, false, false, false, false, false, false, false, false, false, false, false]) (bodyPost_pan _ _ _) rfl rfl rfl rfl (by kernel_rfl) rfl (V_nilCheck rfl) (fun _ hA => hA.only (is := [1, 3, 4]) (Y := [_, _, _]) (Z := [_, _]) rfl) ?_
                refine HA_take (i := 16) (listed' := #[true, true, true, true, true, true, true, true, true, true, true, true, true, true, true, true, true, false, false, false, false, false, false, false, false, false, false, false, false, false, false, false]) (bodyPost_pan _ _ _) rfl rfl rfl rfl (by kernel_rfl) rfl (V_fieldAddr (r := 0) rfl Try.underlying30 rfl Try.sizeOf25 rfl) (fun _ hA => hA.only (is := [1, 3, 4]) (Y := [_, _, _]) (Z := [_, _]) rfl) ?_
                refine HA_take (i := 18) (listed' := #[true, true, true, true, true, true, true, true, true, true, true, true, true, true, true, true, true, false, true, false, false, false, false, false, false, false, false, false, false, false, false, false]) (bodyPost_pan _ _ _) rfl rfl rfl rfl (by kernel_rfl) rfl (V_move rfl) (fun _ hA => hA.only (is := [1, 3, 4]) (Y := [_, _, _]) (Z := [_, _]) rfl) ?_
                refine HA_take (i := 19) (listed' := #[true, true, true, true, true, true, true, true, true, true, true, true, true, true, true, true, true, false, true, true, false, false, false, false, false, false, false, false, false, false, false, false]) (bodyPost_pan _ _ _) rfl rfl rfl rfl (by kernel_rfl) rfl (V_nilCheck rfl) (fun _ hA => hA.only (is := [1, 3, 4]) (Y := [_, _, _]) (Z := [_, _]) rfl) ?_
                refine HA_take (i := 20) (listed' := #[true, true, true, true, true, true, true, true, true, true, true, true, true, true, true, true, true, false, true, true, true, false, false, false, false, false, false, false, false, false, false, false]) (bodyPost_pan _ _ _) rfl rfl rfl rfl (by kernel_rfl) rfl (V_fieldAddr (r := 0) rfl Try.underlying51 rfl Try.sizeOf25 rfl) (fun _ hA => hA.only (is := [1, 3, 4]) (Y := [_, _, _]) (Z := [_, _]) rfl) ?_
                refine HA_loud2 (i := 17) (j := 21) (by kernel_rfl) rfl rfl ?_ ?_
                · refine HO_load1 (i := 0) (j := 0) rfl rfl rfl Try.isAgg25 rfl (.loc _ _ _) rfl rfl ?_
                  refine HA_back (listed' := #[true, true, true, true, true, true, true, true, true, true, true, true, true, true, true, true, true, true, true, true, true, false, false, false, false, false, false, false, false, false, false, false]) rfl (fun _ hA => hA.only (is := [1, 3, 4]) (Y := [_, _, _]) (Z := [_, _]) rfl) ?_
                  refine HA_loud1 (i := 21) (by kernel_rfl) rfl ?_
                  refine HO_load1 (i := 2) (j := 0) rfl rfl rfl Try.isAgg25 rfl (.loc _ _ _) rfl rfl ?_
                  refine HA_back (listed' := #[true, true, true, true, true, true, true, true, true, true, true, true, true, true, true, true, true, true, true, true, true, true, false, false, false, false, false, false, false, false, false, false]) rfl (fun _ hA => hA.only (is := [1, 3, 4]) (Y := [_, _, _]) (Z := [_, _]) rfl) ?_
                  refine HA_loud1 (i := 22) (by kernel_rfl) rfl ?_
                  refine HO_dup (i := 1) rfl rfl ?_
                  refine HO_dup (i := 4) rfl rfl ?_
                  refine HO_call (first := []) (capt := []) (is := [0, 0]) (R := [_, _, _, _, _]) rfl rfl rfl rfl rfl Try.call35 rfl (rsame_spec _ _ _ _ _ _) ?_
                  intro y92 hy92
                  clear y92 hy92
                  refine HA_back (listed' := #[true, true, true, true, true, true, true, true, true, true, true, true, true, true, true, true, true, true, true, true, true, true, true, false, false, false, false, false, false, false, false, false]) rfl (fun _ hA => hA.only (is := [1, 3, 4]) (Y := [_, _, _]) (Z := [_, _]) rfl) ?_
                  refine HA_take (i := 23) (listed' := #[true, true, true, true, true, true, true, true, true, true, true, true, true, true, true, true, true, true, true, true, true, true, true, true, false, false, false, false, false, false, false, false]) (bodyPost_pan _ _ _) rfl rfl rfl rfl (by kernel_rfl) rfl (V_not rfl) (fun _ hA => hA.only (is := [1, 3, 4]) (Y := [_, _, _]) (Z := [_, _]) rfl) ?_
                  refine HA_take (i := 24) (listed' := #[true, true, true, true, true, true, true, true, true, true, true, true, true, true, true, true, true, true, true, true, true, true, true, true, true, false, false, false, false, false, false, false]) (bodyPost_pan _ _ _) rfl rfl rfl rfl (by kernel_rfl) rfl (V_pick_f rfl rfl) (fun _ hA => hA.only (is := [1, 3, 4]) (Y := [_, _, _]) (Z := [_, _]) rfl) ?_
                  refine HA_take (i := 25) (listed' := #[true, true, true, true, true, true, true, true, true, true, true, true, true, true, true, true, true, true, true, true, true, true, true, true, true, true, false, false, false, false, false, false]) (bodyPost_pan _ _ _) rfl rfl rfl rfl (by kernel_rfl) rfl (V_move rfl) (fun _ hA => hA.only (is := [1, 3, 4]) (Y := [_, _, _]) (Z := [_, _]) rfl) ?_
                  refine HA_split (d := 95) rfl ?_ ?_
                  · intro h95
                    (try simp only [decide_eq_true_eq, decide_eq_false_iff_not, Bool.not_eq_true', Bool.not_eq_false', Bool.not_eq_true, Bool.not_eq_false, Bool.true_eq_false, Bool.false_eq_true, not_false_eq_true, not_true_eq_false] at h95)
                    all_goals (first | exact absurd rfl h95 | exact absurd h95 (by simp))
                  · intro h95
                    (try simp only [decide_eq_true_eq, decide_eq_false_iff_not, Bool.not_eq_true', Bool.not_eq_false', Bool.not_eq_true, Bool.not_eq_false, Bool.true_eq_false, Bool.false_eq_true, not_false_eq_true, not_true_eq_false] at h95)
                    refine HA_take (i := 26) (listed' := #[true, true, true, true, true, true, true, true, true, true, true, true, true, true, true, true, true, true, true, true, true, true, true, true, true, true, true, false, false, false, false, false]) (bodyPost_pan _ _ _) rfl rfl rfl rfl (by kernel_rfl) rfl (V_move rfl) (fun _ hA => hA.only (is := [1, 3, 4]) (Y := [_, _, _]) (Z := [_, _]) rfl) ?_
                    refine HA_take (i := 28) (listed' := #[true, true, true, true, true, true, true, true, true, true, true, true, true, true, true, true, true, true, true, true, true, true, true, true, true, true, true, false, true, false, false, false]) (bodyPost_pan _ _ _) rfl rfl rfl rfl (by kernel_rfl) rfl (V_move rfl) (fun _ hA => hA.only (is := [1, 3, 4]) (Y := [_, _, _]) (Z := [_, _]) rfl) ?_
                    refine HA_loud1 (i := 27) (by kernel_rfl) rfl ?_
                    refine HO_dup (i := 1) rfl rfl ?_
                    refine HO_call (first := []) (capt := []) (is := [0, 0]) (R := [_, _, _, _]) rfl rfl rfl rfl rfl Try.call22 rfl (cEnd_spec _ _ _ _ _) ?_
                    intro y97 hy97
                    clear y97 hy97
                    refine HA_back (listed' := #[true, true, true, true, true, true, true, true, true, true, true, true, true, true, true, true, true, true, true, true, true, true, true, true, true, true, true, true, true, false, false, false]) rfl (fun _ hA => hA.only (is := [1, 3, 4]) (Y := [_, _, _]) (Z := [_, _]) rfl) ?_
                    refine HA_loud1 (i := 29) (by kernel_rfl) rfl ?_
                    refine HO_dup (i := 3) rfl rfl ?_
                    refine HO_call (first := []) (capt := []) (is := [2, 0]) (R := [_, _, _, _]) rfl rfl rfl rfl rfl Try.call36 rfl (rEnd_spec _ _ _ _ _) ?_
                    intro y99 hy99
                    clear y99 hy99
                    refine HA_back (listed' := #[true, true, true, true, true, true, true, true, true, true, true, true, true, true, true, true, true, true, true, true, true, true, true, true, true, true, true, true, true, true, false, false]) rfl (fun _ hA => hA.only (is := [2, 3, 4]) (Y := [_, _, _]) (Z := [_, _]) rfl) ?_
                    refine HA_take (i := 30) (listed' := #[true, true, true, true, true, true, true, true, true, true, true, true, true, true, true, true, true, true, true, true, true, true, true, true, true, true, true, true, true, true, true, false]) (bodyPost_pan _ _ _) rfl rfl rfl rfl (by kernel_rfl) rfl (V_bin rfl rfl (bin_neb Try.runUnderlying4)) (fun _ hA => hA.only (is := [2, 3, 4]) (Y := [_, _, _]) (Z := [_, _]) rfl) ?_
                    refine HA_take (i := 31) (listed' := #[true, true, true, true, true, true, true, true, true, true, true, true, true, true, true, true, true, true, true, true, true, true, true, true, true, true, true, true, true, true, true, true]) (bodyPost_pan _ _ _) rfl rfl rfl rfl (by kernel_rfl) rfl (V_pick_f rfl rfl) (fun _ hA => hA.only (is := [2, 3, 4]) (Y := [_, _, _]) (Z := [_, _]) rfl) ?_
                    refine HA_done (by kernel_rfl) ?_
                    refine H_env (ρ' := [(101, _), (5, _), (6, _), (25, _), (26, _), (27, _)]) ⟨rfl, rfl, rfl, rfl, rfl, rfl, trivial⟩ ?_
                    refine H_cond rfl ?_ ?_
                    · intro h101
                      (try simp only [decide_eq_true_eq, decide_eq_false_iff_not, Bool.not_eq_true', Bool.not_eq_false', Bool.not_eq_true, Bool.not_eq_false, Bool.true_eq_false, Bool.false_eq_true, not_false_eq_true, not_true_eq_false] at h101)
                      all_goals (first | exact absurd rfl h101 | exact absurd h101 (by simp))
                    · intro h101
                      (try simp only [decide_eq_true_eq, decide_eq_false_iff_not, Bool.not_eq_true', Bool.not_eq_false', Bool.not_eq_true, Bool.not_eq_false, Bool.true_eq_false, Bool.false_eq_true, not_false_eq_true, not_true_eq_false] at h101)
                      refine H_skip ?_
                      refine H_blk ?_
                      -- R22 law.go:56
                      refine H_region (l := [_, _]) rfl ?_
                      refine HO_bin rfl rfl rfl rfl (bin_add ?_ ?_) ?_
                      · omega
                      · omega
                      refine HO_move rfl rfl rfl ?_
                      refine HO_nil ?_
                      refine H_env (ρ' := [(27, _), (5, _), (6, _), (25, _), (26, _)]) ⟨rfl, rfl, rfl, rfl, rfl, trivial⟩ ?_
                      refine H_inv (fun a w hf hA => ⟨⟨i + 1, bs2, wr2, r1, s1, r2, s2⟩, ?_, ?_, hf.sub ?_, ?_⟩)
                      · exact ⟨by omega, hJ⟩
                      · (try dsimp only); omega
                      · exact ⟨rfl, rfl, rfl, rfl, rfl, trivial⟩
                      · exact hA.only (is := [0, 1, 0, 3, 4]) (Z := []) rfl
                · refine HO_load1 (i := 2) (j := 0) rfl rfl rfl Try.isAgg25 rfl (.loc _ _ _) rfl rfl ?_
                  refine HA_back (listed' := #[true, true, true, true, true, true, true, true, true, true, true, true, true, true, true, true, true, false, true, true, true, true, false, false, false, false, false, false, false, false, false, false]) rfl (fun _ hA => hA.only (is := [1, 3, 4]) (Y := [_, _, _]) (Z := [_, _]) rfl) ?_
                  refine HA_loud1 (i := 17) (by kernel_rfl) rfl ?_
                  refine HO_load1 (i := 0) (j := 0) rfl rfl rfl Try.isAgg25 rfl (.loc _ _ _) rfl rfl ?_
                  refine HA_back (listed' := #[true, true, true, true, true, true, true, true, true, true, true, true, true, true, true, true, true, true, true, true, true, true, false, false, false, false, false, false, false, false, false, false]) rfl (fun _ hA => hA.only (is := [1, 3, 4]) (Y := [_, _, _]) (Z := [_, _]) rfl) ?_
                  refine HA_loud1 (i := 22) (by kernel_rfl) rfl ?_
                  refine HO_dup (i := 1) rfl rfl ?_
                  refine HO_dup (i := 4) rfl rfl ?_
                  refine HO_call (first := []) (capt := []) (is := [0, 0]) (R := [_, _, _, _, _]) rfl rfl rfl rfl rfl Try.call35 rfl (rsame_spec _ _ _ _ _ _) ?_
                  intro y92 hy92
                  clear y92 hy92
                  refine HA_back (listed' := #[true, true, true, true, true, true, true, true, true, true, true, true, true, true, true, true, true, true, true, true, true, true, true, false, false, false, false, false, false, false, false, false]) rfl (fun _ hA => hA.only (is := [1, 3, 4]) (Y := [_, _, _]) (Z := [_, _]) rfl) ?_
                  refine HA_take (i := 23) (listed' := #[true, true, true, true, true, true, true, true, true, true, true, true, true, true, true, true, true, true, true, true, true, true, true, true, false, false, false, false, false, false, false, false]) (bodyPost_pan _ _ _) rfl rfl rfl rfl (by kernel_rfl) rfl (V_not rfl) (fun _ hA => hA.only (is := [1, 3, 4]) (Y := [_, _, _]) (Z := [_, _]) rfl) ?_
                  refine HA_take (i := 24) (listed' := #[true, true, true, true, true, true, true, true, true, true, true, true, true, true, true, true, true, true, true, true, true, true, true, true, true, false, false, false, false, false, false, false]) (bodyPost_pan _ _ _) rfl rfl rfl rfl (by kernel_rfl) rfl (V_pick_f rfl rfl) (fun _ hA => hA.only (is := [1, 3, 4]) (Y := [_, _, _]) (Z := [_, _]) rfl) ?_
                  refine HA_take (i := 25) (listed' := #[true, true, true, true, true, true, true, true, true, true, true, true, true, true, true, true, true, true, true, true, true, true, true, true, true, true, false, false, false, false, false, false]) (bodyPost_pan _ _ _) rfl rfl rfl rfl (by kernel_rfl) rfl (V_move rfl) (fun _ hA => hA.only (is := [1, 3, 4]) (Y := [_, _, _]) (Z := [_, _]) rfl) ?_
                  refine HA_split (d := 95) rfl ?_ ?_
                  · intro h95
                    (try simp only [decide_eq_true_eq, decide_eq_false_iff_not, Bool.not_eq_true', Bool.not_eq_false', Bool.not_eq_true, Bool.not_eq_false, Bool.true_eq_false, Bool.false_eq_true, not_false_eq_true, not_true_eq_false] at h95)
                    all_goals (first | exact absurd rfl h95 | exact absurd h95 (by simp))
                  · intro h95
                    (try simp only [decide_eq_true_eq, decide_eq_false_iff_not, Bool.not_eq_true', Bool.not_eq_false', Bool.not_eq_true, Bool.not_eq_false, Bool.true_eq_false, Bool.false_eq_true, not_false_eq_true, not_true_eq_false] at h95)
                    refine HA_take (i := 26) (listed' := #[true, true, true, true, true, true, true, true, true, true, true, true, true, true, true, true, true, true, true, true, true, true, true, true, true, true, true, false, false, false, false, false]) (bodyPost_pan _ _ _) rfl rfl rfl rfl (by kernel_rfl) rfl (V_move rfl) (fun _ hA => hA.only (is := [1, 3, 4]) (Y := [_, _, _]) (Z := [_, _]) rfl) ?_
                    refine HA_take (i := 28) (listed' := #[true, true, true, true, true, true, true, true, true, true, true, true, true, true, true, true, true, true, true, true, true, true, true, true, true, true, true, false, true, false, false, false]) (bodyPost_pan _ _ _) rfl rfl rfl rfl (by kernel_rfl) rfl (V_move rfl) (fun _ hA => hA.only (is := [1, 3, 4]) (Y := [_, _, _]) (Z := [_, _]) rfl) ?_
                    refine HA_loud1 (i := 27) (by kernel_rfl) rfl ?_
                    refine HO_dup (i := 1) rfl rfl ?_
                    refine HO_call (first := []) (capt := []) (is := [0, 0]) (R := [_, _, _, _]) rfl rfl rfl rfl rfl Try.call22 rfl (cEnd_spec _ _ _ _ _) ?_
                    intro y97 hy97
                    clear y97 hy97
                    refine HA_back (listed' := #[true, true, true, true, true, true, true, true, true, true, true, true, true, true, true, true, true, true, true, true, true, true, true, true, true, true, true, true, true, false, false, false]) rfl (fun _ hA => hA.only (is := [1, 3, 4]) (Y := [_, _, _]) (Z := [_, _]) rfl) ?_
                    refine HA_loud1 (i := 29) (by kernel_rfl) rfl ?_
                    refine HO_dup (i := 3) rfl rfl ?_
                    refine HO_call (first := []) (capt := []) (is := [2, 0]) (R := [_, _, _, _]) rfl rfl rfl rfl rfl Try.call36 rfl (rEnd_spec _ _ _ _ _) ?_
                    intro y99 hy99
                    clear y99 hy99
                    refine HA_back (listed' := #[true, true, true, true, true, true, true, true, true, true, true, true, true, true, true, true, true, true, true, true, true, true, true, true, true, true, true, true, true, true, false, false]) rfl (fun _ hA => hA.only (is := [2, 3, 4]) (Y := [_, _, _]) (Z := [_, _]) rfl) ?_
                    refine HA_take (i := 30) (listed' := #[true, true, true, true, true, true, true, true, true, true, true, true, true, true, true, true, true, true, true, true, true, true, true, true, true, true, true, true, true, true, true, false]) (bodyPost_pan _ _ _) rfl rfl rfl rfl (by kernel_rfl) rfl (V_bin rfl rfl (bin_neb Try.runUnderlying4)) (fun _ hA => hA.only (is := [2, 3, 4]) (Y := [_, _, _]) (Z := [_, _]) rfl) ?_
                    refine HA_take (i := 31) (listed' := #[true, true, true, true, true, true, true, true, true, true, true, true, true, true, true, true, true, true, true, true, true, true, true, true, true, true, true, true, true, true, true, true]) (bodyPost_pan _ _ _) rfl rfl rfl rfl (by kernel_rfl) rfl (V_pick_f rfl rfl) (fun _ hA => hA.only (is := [2, 3, 4]) (Y := [_, _, _]) (Z := [_, _]) rfl) ?_
                    refine HA_done (by kernel_rfl) ?_
                    refine H_env (ρ' := [(101, _), (5, _), (6, _), (25, _), (26, _), (27, _)]) ⟨rfl, rfl, rfl, rfl, rfl, rfl, trivial⟩ ?_
                    refine H_cond rfl ?_ ?_
                    · intro h101
                      (try simp only [decide_eq_true_eq, decide_eq_false_iff_not, Bool.not_eq_true', Bool.not_eq_false', Bool.not_eq_true, Bool.not_eq_false, Bool.true_eq_false, Bool.false_eq_true, not_false_eq_true, not_true_eq_false] at h101)
                      all_goals (first | exact absurd rfl h101 | exact absurd h101 (by simp))
                    · intro h101
                      (try simp only [decide_eq_true_eq, decide_eq_false_iff_not, Bool.not_eq_true', Bool.not_eq_false', Bool.not_eq_true, Bool.not_eq_false, Bool.true_eq_false, Bool.false_eq_true, not_false_eq_true, not_true_eq_false] at h101)
                      refine H_skip ?_
                      refine H_blk ?_
                      -- R22 law.go:56
                      refine H_region (l := [_, _]) rfl ?_
                      refine HO_bin rfl rfl rfl rfl (bin_add ?_ ?_) ?_
                      · omega
                      · omega
                      refine HO_move rfl rfl rfl ?_
                      refine HO_nil ?_
                      refine H_env (ρ' := [(27, _), (5, _), (6, _), (25, _), (26, _)]) ⟨rfl, rfl, rfl, rfl, rfl, trivial⟩ ?_
                      refine H_inv (fun a w hf hA => ⟨⟨i + 1, bs2, wr2, r1, s1, r2, s2⟩, ?_, ?_, hf.sub ?_, ?_⟩)
                      · exact ⟨by omega, hJ⟩
                      · (try dsimp only); omega
                      · exact ⟨rfl, rfl, rfl, rfl, rfl, trivial⟩
                      · exact hA.only (is := [0, 1, 0, 3, 4]) (Z := []) rfl
        · intro h28
          (try simp only [decide_eq_true_eq, decide_eq_false_iff_not, Bool.not_eq_true', Bool.not_eq_false', Bool.not_eq_true, Bool.not_eq_false, Bool.true_eq_false, Bool.false_eq_true, not_false_eq_true, not_true_eq_false] at h28)
          refine H_exit rfl ?_
          refine H_seq ?_
          -- R23 law.go:74
          refine H_region (l := [_, _]) rfl ?_
          refine HO_call (first := []) (capt := []) (is := []) (R := [_, _, _, _, _]) rfl rfl rfl rfl rfl Try.call15 rfl lives_spec ?_
          intro y103 hy103
          clear y103 hy103
          refine HO_assign rfl rfl rfl ?_
          refine HO_nil ?_
          refine H_env (ρ' := [(4, _)]) ⟨rfl, trivial⟩ ?_
          refine H_world (fun _ hA => hA.drop (is := [0, 1, 2, 3, 4]) (Y := [_, _, _, _, _]) (Z := []) rfl) ?_
          -- end3
          refine H_ret1 Try.results5 (.tmp rfl) (fun w hA => ⟨(), congrArg Ending.returned ?_, ?_, ?_⟩)
          · (exact congrArg Value.bool (by first | rfl | assumption | simp_all))
          · trivial
          · exact hA.only (is := []) (Z := []) rfl
end Go.Wk
