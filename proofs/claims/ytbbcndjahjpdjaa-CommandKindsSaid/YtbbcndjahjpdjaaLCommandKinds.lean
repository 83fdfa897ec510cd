/- The law CommandKinds of the commands returns true for all inputs and leaves them as they are. -/
import Derived.Test.YtbbcndjahjpdjaaRows
import Derived.Test.YtbbcndjahjpdjaaWkN
import Derived.Test.YtbbcndjahjpdjaaKalaw09
set_option linter.unusedVariables false
set_option linter.unusedSimpArgs false
namespace Go.Proofs.Ytbbcndjahjpdjaa.commandKinds
open Go.ChangeShapes Go.WideShapes Go.ChangeAt Go.RowKit Go.Wk
open Go.ChangeMaps (open_string shut_string)
theorem own : ownKnob Try.prog.godebug = none := by kernel_rfl
theorem laidOut : laidOutB Try.prog = true := by kernel_rfl
set_option maxRecDepth 100000 in
theorem lifted (os : Os) (started : os.Started) (H : Type) (enc : TypeId × Value → H) :
    ReturnsInHanded {} Try.checked os 3 .any (Rows.commandKindsSpec.pre6 enc Try.prog Try.f3 Rows.commandKindsRow.domain false) (Rows.commandKindsSpec.post enc Try.prog Try.f3 false true false false) := by
  refine returnsInHanded_of_change_sized (C := Try.checked) own started (by kernel_rfl) Try.func3
    (ChangeSpec.witness6 (enc := enc) (C := Try.checked) false ⟨#[], #[.agg #[.int .i64 0, .int .i64 0, .int .i64 0, .string ByteArray.empty, .string ByteArray.empty, .string ByteArray.empty, .string ByteArray.empty, .int .i64 0]], []⟩ 8 (by kernel_rfl) (by kernel_rfl) (by kernel_rfl) (by kernel_rfl)) ?_
  intro W base args ds gs before hval0 hW hcnd hsz0 _
  have hval : ∀ (j : Nat) t v, Try.f3.params[j]? = some t → args[j]? = some v → Value.okWide Try.prog W .any base t v := hval0
  have hsz : (DataW.weightsEach Try.prog (Try.f3.params.toList ++ Rows.commandKindsSpec.plain.varTypes Try.prog) (ds ++ gs)).all (· ≤ reachBytes) = true := hsz0
  have hW' := hW
  obtain ⟨p, q, hA0, hV, rfl, hfz, hnd⟩ := hW
  have hA : DataW.TrodAll enc Try.prog W 0 (fun _ => true) true Try.f3.params.toList args.toList ds p := hA0
  rw [Try.params3] at hA hval hsz
  obtain ⟨v0, vs0, d0, ds0, p0, q0, hargs, rfl, rfl, h0, r0⟩ := trodAll_cons hA
  obtain ⟨rfl, rfl, rfl⟩ := trodAll_nil r0
  obtain rfl : args = #[v0] := by cases args; simp_all
  obtain ⟨rfl, rfl⟩ := trodVars_none hV
  have k0 := h0
  have lt0 : ∀ x ∈ p0, x.block < W.heap.size := by obtain ⟨m, hm⟩ := k0; exact DataW.trod_lt m _ _ _ hm
  obtain ⟨cs0, rfl, hz0⟩ := okWide_struct Try.underlying23 (hval 0 23 v0 rfl rfl)
  obtain ⟨c0_0, c0_1, c0_2, c0_3, c0_4, c0_5, c0_6, c0_7, rfl⟩ := array8 (hz0.trans (by kernel_rfl))
  obtain ⟨fuel0, hf0⟩ := h0
  replace hf0 : DataW.trod enc Try.prog W 0 (fun _ => true) true fuel0 23 [c0_0, c0_1, c0_2, c0_3, c0_4, c0_5, c0_6, c0_7] = some (d0, p0) := hf0
  obtain ⟨x0_0, e0_0, y0_0⟩ := cell_int Try.underlying23 hf0 (i := 0) rfl Try.underlying3 (by kernel_rfl) rfl
  obtain ⟨x0_1, e0_1, y0_1⟩ := cell_int Try.underlying23 hf0 (i := 1) rfl Try.underlying3 (by kernel_rfl) rfl
  obtain ⟨x0_2, e0_2, y0_2⟩ := cell_int Try.underlying23 hf0 (i := 2) rfl Try.underlying3 (by kernel_rfl) rfl
  obtain ⟨x0_3, e0_3, y0_3⟩ := cell_str Try.underlying23 hf0 (i := 3) rfl Try.underlying9 (by kernel_rfl) rfl
  obtain ⟨x0_4, e0_4, y0_4⟩ := cell_str Try.underlying23 hf0 (i := 4) rfl Try.underlying9 (by kernel_rfl) rfl
  obtain ⟨x0_5, e0_5, y0_5⟩ := cell_str Try.underlying23 hf0 (i := 5) rfl Try.underlying9 (by kernel_rfl) rfl
  obtain ⟨x0_6, e0_6, y0_6⟩ := cell_str Try.underlying23 hf0 (i := 6) rfl Try.underlying9 (by kernel_rfl) rfl
  obtain ⟨x0_7, e0_7, y0_7⟩ := cell_int Try.underlying23 hf0 (i := 7) rfl Try.underlying3 (by kernel_rfl) rfl
  subst e0_0 e0_1 e0_2 e0_3 e0_4 e0_5 e0_6 e0_7
  clear hA0 hval0 hsz0 hsz
  refine ((CommandKinds_spec x0_0 x0_1 x0_2 x0_3 x0_4 x0_5 x0_6 x0_7).law (w := W) (by intro a ha; exact absurd ha (by simp)) (by intro a ha; exact absurd ha (by simp)) (fun _ _ => rfl)).mono fun e W' ⟨he, bel⟩ => ?_
  subst he
  exact ⟨_, rfl, _, _, _, [], _, [], hW', trodAll_mk1 (shut_bool Try.underlying4 _), (trodAll_cons_mk (Below.trod laidOut (by kernel_rfl) (of_decide_eq_true (by kernel_rfl)) k0 bel lt0) trodAll_mk0), rfl, bel.frame _, fun h => by cases h⟩
theorem over : Rows.commandKindsRow.holds Try.pinned (OpenSpec.ofChange Rows.commandKindsSpec) :=
  OpenClaim.holds_of_wide 3 Try.f3 rfl rfl rfl rfl rfl rfl rfl ⟨rfl, rfl, rfl, rfl, rfl⟩ rfl rfl rfl rfl rfl (by kernel_rfl) Try.func3 (by kernel_rfl)
    (of_decide_eq_true (by kernel_rfl)) (by unfold Func.isWrapper; first | (rw [if_pos (by decide +kernel)]; kernel_rfl) | (rw [if_neg (by decide +kernel)]; exact ⟨rfl, rfl⟩))
    (fun os started H enc _ => lifted os started H enc)
theorem proved : Rows.CommandKindsSaid := over
end Go.Proofs.Ytbbcndjahjpdjaa.commandKinds
namespace Go.Proofs.Ytbbcndjahjpdjaa
theorem commandKinds_holds : Rows.CommandKindsSaid := commandKinds.proved
#print axioms commandKinds_holds
end Go.Proofs.Ytbbcndjahjpdjaa
