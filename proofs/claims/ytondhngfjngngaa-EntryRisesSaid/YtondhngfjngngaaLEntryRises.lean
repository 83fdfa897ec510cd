/- The law EntryRises of the entries returns true for all inputs and leaves them as they are. -/
import Derived.Test.YtondhngfjngngaaRows
import Derived.Test.YtondhngfjngngaaWkR
import Derived.Test.YtondhngfjngngaaKelaw10
set_option linter.unusedVariables false
set_option linter.unusedSimpArgs false
namespace Go.Proofs.Ytondhngfjngngaa.entryRises
open Go.ChangeShapes Go.WideShapes Go.ChangeAt Go.RowKit Go.Wk
open Go.ChangeMaps (open_string shut_string)
theorem own : ownKnob Try.prog.godebug = none := by kernel_rfl
theorem laidOut : laidOutB Try.prog = true := by kernel_rfl
set_option maxRecDepth 100000
theorem rd_Conf : Rd Try.prog 45 kConf := by
  intro H enc W spare held fuel cs x h hw
  have hl := rd_size Try.underlying45 h (m := 2) (by kernel_rfl)
  obtain ⟨c0, c1, rfl⟩ := list2 hl
  obtain ⟨f0, z0, h0, w0⟩ := rd_field Try.underlying45 h hw (i := 0) (m := 1) rfl (by kernel_rfl)
  obtain ⟨a0, q0, x0, e0, b0, d0⟩ := rd_slice (kd := kInt) Try.underlying43 (by kernel_rfl) (by decide) (by decide +kernel) (Rd.int Try.underlying3) h0 w0
  replace e0 := (List.cons.inj e0).1
  subst e0
  obtain ⟨f1, z1, h1, w1⟩ := rd_field Try.underlying45 h hw (i := 1) (m := 1) rfl (by kernel_rfl)
  obtain ⟨a1, q1, x1, e1, b1, d1⟩ := rd_slice (kd := kInt) Try.underlying43 (by kernel_rfl) (by decide) (by decide +kernel) (Rd.int Try.underlying3) h1 w1
  replace e1 := (List.cons.inj e1).1
  subst e1
  exact ⟨⟨x0, x1⟩, ⟨b0, b1⟩, ⟨⟨a0, q0⟩, ⟨a1, q1⟩⟩, rfl, (by intro a ha; simp only [List.mem_cons, List.not_mem_nil, or_false] at ha; rcases ha with rfl | rfl <;> first | exact d0 | exact d1)⟩
set_option maxRecDepth 100000 in
theorem lifted (os : Os) (started : os.Started) (H : Type) (enc : TypeId × Value → H) :
    ReturnsInHanded {} Try.checked os 7 .any (Rows.entryRisesSpec.pre6 enc Try.prog Try.f7 Rows.entryRisesRow.domain false) (Rows.entryRisesSpec.post enc Try.prog Try.f7 false true false false) := by
  refine returnsInHanded_of_change_sized (C := Try.checked) own started (by kernel_rfl) Try.func7
    (ChangeSpec.witness6 (enc := enc) (C := Try.checked) false ⟨#[], #[.agg #[.slice none 0 0, .slice none 0 0]], []⟩ 8 (by kernel_rfl) (by kernel_rfl) (by kernel_rfl) (by kernel_rfl)) ?_
  intro W base args ds gs before hval0 hW hcnd hsz0 _
  have hval : ∀ (j : Nat) t v, Try.f7.params[j]? = some t → args[j]? = some v → Value.okWide Try.prog W .any base t v := hval0
  have hsz : (DataW.weightsEach Try.prog (Try.f7.params.toList ++ Rows.entryRisesSpec.plain.varTypes Try.prog) (ds ++ gs)).all (· ≤ reachBytes) = true := hsz0
  have hW' := hW
  obtain ⟨p, q, hA0, hV, rfl, hfz, hnd⟩ := hW
  have hA : DataW.TrodAll enc Try.prog W 0 (fun _ => true) true Try.f7.params.toList args.toList ds p := hA0
  rw [Try.params7] at hA hval hsz
  obtain ⟨v0, vs0, d0, ds0, p0, q0, hargs, rfl, rfl, h0, r0⟩ := trodAll_cons hA
  obtain ⟨rfl, rfl, rfl⟩ := trodAll_nil r0
  obtain rfl : args = #[v0] := by cases args; simp_all
  obtain ⟨rfl, rfl⟩ := trodVars_none hV
  have k0 := h0
  have lt0 : ∀ x ∈ p0, x.block < W.heap.size := by obtain ⟨m, hm⟩ := k0; exact DataW.trod_lt m _ _ _ hm
  obtain ⟨cs0, rfl, hz0⟩ := okWide_struct Try.underlying45 (hval 0 45 v0 rfl rfl)
  obtain ⟨c0_0, c0_1, rfl⟩ := arr2 (hz0.trans (by kernel_rfl))
  obtain ⟨fuel0, hf0⟩ := h0
  replace hf0 : DataW.trod enc Try.prog W 0 (fun _ => true) true fuel0 45 [c0_0, c0_1] = some (d0, p0) := hf0
  obtain ⟨x0, hx0⟩ := rd_Conf hf0 (weigh hsz (j := 0) rfl rfl)
  obtain ⟨I0, y0, e0, F0⟩ := open_Conf.out hx0
  simp only [List.cons.injEq, and_true] at e0
  obtain ⟨rfl, rfl⟩ := e0
  have g0_0 := (F0 _ (List.mem_cons_self ..)).2
  have g0_1 := (F0 _ (List.mem_cons_of_mem _ (List.mem_cons_self ..))).2
  clear hA0 hval0 hsz0 hsz
  refine ((EntryRises_spec x0.vot x0.lea y0.1.1 y0.1.2 y0.2.1 y0.2.2 I0.1 I0.2).law (w := W) (by intro a ha; simp only [List.mem_cons, List.not_mem_nil, or_false] at ha; rcases ha with rfl | rfl <;> rfl) (by intro a ha; simp only [List.mem_cons, List.not_mem_nil, or_false] at ha; rcases ha with rfl | rfl <;> (first | exact g0_0 | exact g0_1)) (fun _ _ => rfl)).mono fun e W' ⟨he, bel⟩ => ?_
  subst he
  exact ⟨_, rfl, _, _, _, [], _, [], hW', trodAll_mk1 (shut_bool Try.underlying4 _), (trodAll_cons_mk (Below.trod laidOut (by kernel_rfl) (of_decide_eq_true (by kernel_rfl)) k0 bel lt0) trodAll_mk0), rfl, bel.frame _, fun h => by cases h⟩
theorem over : Rows.entryRisesRow.holds Try.pinned (OpenSpec.ofChange Rows.entryRisesSpec) :=
  OpenClaim.holds_of_wide 7 Try.f7 rfl rfl rfl rfl rfl rfl rfl ⟨rfl, rfl, rfl, rfl, rfl⟩ rfl rfl rfl rfl rfl (by kernel_rfl) Try.func7 (by kernel_rfl)
    (of_decide_eq_true (by kernel_rfl)) (by unfold Func.isWrapper; first | (rw [if_pos (by decide +kernel)]; kernel_rfl) | (rw [if_neg (by decide +kernel)]; exact ⟨rfl, rfl⟩))
    (fun os started H enc _ => lifted os started H enc)
theorem proved : Rows.EntryRisesSaid := over
end Go.Proofs.Ytondhngfjngngaa.entryRises
namespace Go.Proofs.Ytondhngfjngngaa
theorem entryRises_holds : Rows.EntryRisesSaid := entryRises.proved
#print axioms entryRises_holds
end Go.Proofs.Ytondhngfjngngaa
