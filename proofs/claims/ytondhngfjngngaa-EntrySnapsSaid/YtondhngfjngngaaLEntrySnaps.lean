/- The law EntrySnaps of the entries returns true for all inputs and leaves them as they are. -/
import Derived.Test.YtondhngfjngngaaRows
import Derived.Test.YtondhngfjngngaaWkR
import Derived.Test.YtondhngfjngngaaKelaw10
set_option linter.unusedVariables false
set_option linter.unusedSimpArgs false
namespace Go.Proofs.Ytondhngfjngngaa.entrySnaps
open Go.ChangeShapes Go.WideShapes Go.ChangeAt Go.RowKit Go.Wk
open Go.ChangeMaps (open_string shut_string)
theorem own : ownKnob Try.prog.godebug = none := by kernel_rfl
theorem laidOut : laidOutB Try.prog = true := by kernel_rfl
set_option maxRecDepth 100000
theorem rd_Snap : Rd Try.prog 47 kSnap := by
  intro H enc W spare held fuel cs x h hw
  have hl := rd_size Try.underlying47 h (m := 5) (by kernel_rfl)
  obtain ⟨c0, c1, c2, c3, c4, rfl⟩ := list5 hl
  obtain ⟨f0, z0, h0, w0⟩ := rd_field Try.underlying47 h hw (i := 0) (m := 1) rfl (by kernel_rfl)
  obtain ⟨x0, e0, b0⟩ := rd_i64 Try.underlying3 h0
  replace e0 := (List.cons.inj e0).1
  subst e0
  obtain ⟨f1, z1, h1, w1⟩ := rd_field Try.underlying47 h hw (i := 1) (m := 1) rfl (by kernel_rfl)
  obtain ⟨x1, e1, b1⟩ := rd_i64 Try.underlying3 h1
  replace e1 := (List.cons.inj e1).1
  subst e1
  obtain ⟨f2, z2, h2, w2⟩ := rd_field Try.underlying47 h hw (i := 2) (m := 2) rfl (by kernel_rfl)
  replace h2 : DataW.trod enc Try.prog W 0 spare held f2 45 [c2, c3] = some z2 := h2
  obtain ⟨f3, z3, h3, w3⟩ := rd_field Try.underlying45 h2 w2 (i := 0) (m := 1) rfl (by kernel_rfl)
  obtain ⟨a2, q2, x2, e2, b2, d2⟩ := rd_slice (kd := kInt) Try.underlying43 (by kernel_rfl) (by decide) (by decide +kernel) (Rd.int Try.underlying3) h3 w3
  replace e2 := (List.cons.inj e2).1
  subst e2
  obtain ⟨f4, z4, h4, w4⟩ := rd_field Try.underlying45 h2 w2 (i := 1) (m := 1) rfl (by kernel_rfl)
  obtain ⟨a3, q3, x3, e3, b3, d3⟩ := rd_slice (kd := kInt) Try.underlying43 (by kernel_rfl) (by decide) (by decide +kernel) (Rd.int Try.underlying3) h4 w4
  replace e3 := (List.cons.inj e3).1
  subst e3
  obtain ⟨f5, z5, h5, w5⟩ := rd_field Try.underlying47 h hw (i := 3) (m := 1) rfl (by kernel_rfl)
  obtain ⟨a4, q4, x4, e4, b4, d4⟩ := rd_slice (kd := kByte) Try.underlying28 (by kernel_rfl) (by decide) (by decide +kernel) (Rd.byte Try.underlying5) h5 w5
  replace e4 := (List.cons.inj e4).1
  subst e4
  exact ⟨⟨x0, x1, ⟨x2, x3⟩, x4⟩, ⟨b0, b1, b2, b3, b4⟩, ⟨⟨a2, q2⟩, ⟨a3, q3⟩, ⟨a4, q4⟩⟩, rfl, (by intro a ha; simp only [List.mem_cons, List.not_mem_nil, or_false] at ha; rcases ha with rfl | rfl | rfl <;> first | exact d2 | exact d3 | exact d4)⟩
theorem rd_Hard : Rd Try.prog 49 kHard := by
  intro H enc W spare held fuel cs x h hw
  have hl := rd_size Try.underlying49 h (m := 3) (by kernel_rfl)
  obtain ⟨c0, c1, c2, rfl⟩ := list3 hl
  obtain ⟨f0, z0, h0, w0⟩ := rd_field Try.underlying49 h hw (i := 0) (m := 1) rfl (by kernel_rfl)
  obtain ⟨x0, e0, b0⟩ := rd_i64 Try.underlying3 h0
  replace e0 := (List.cons.inj e0).1
  subst e0
  obtain ⟨f1, z1, h1, w1⟩ := rd_field Try.underlying49 h hw (i := 1) (m := 1) rfl (by kernel_rfl)
  obtain ⟨x1, e1, b1⟩ := rd_i64 Try.underlying3 h1
  replace e1 := (List.cons.inj e1).1
  subst e1
  obtain ⟨f2, z2, h2, w2⟩ := rd_field Try.underlying49 h hw (i := 2) (m := 1) rfl (by kernel_rfl)
  obtain ⟨x2, e2, b2⟩ := rd_i64 Try.underlying3 h2
  replace e2 := (List.cons.inj e2).1
  subst e2
  exact ⟨⟨x0, x1, x2⟩, ⟨b0, b1, b2⟩, (), rfl, (fun a ha => nomatch ha)⟩
set_option maxRecDepth 100000 in
theorem lifted (os : Os) (started : os.Started) (H : Type) (enc : TypeId × Value → H) :
    ReturnsInHanded {} Try.checked os 6 .any (Rows.entrySnapsSpec.pre6 enc Try.prog Try.f6 Rows.entrySnapsRow.domain false) (Rows.entrySnapsSpec.post enc Try.prog Try.f6 false true false false) := by
  refine returnsInHanded_of_change_sized (C := Try.checked) own started (by kernel_rfl) Try.func6
    (ChangeSpec.witness6 (enc := enc) (C := Try.checked) false ⟨#[], #[.agg #[.int .i64 (0), .int .i64 (0), .slice none 0 0, .slice none 0 0, .slice none 0 0], .agg #[.int .i64 (0), .int .i64 (0), .int .i64 (0)]], []⟩ 8 (by kernel_rfl) (by kernel_rfl) (by kernel_rfl) (by kernel_rfl)) ?_
  intro W base args ds gs before hval0 hW hcnd hsz0 _
  have hval : ∀ (j : Nat) t v, Try.f6.params[j]? = some t → args[j]? = some v → Value.okWide Try.prog W .any base t v := hval0
  have hsz : (DataW.weightsEach Try.prog (Try.f6.params.toList ++ Rows.entrySnapsSpec.plain.varTypes Try.prog) (ds ++ gs)).all (· ≤ reachBytes) = true := hsz0
  have hW' := hW
  obtain ⟨p, q, hA0, hV, rfl, hfz, hnd⟩ := hW
  have hA : DataW.TrodAll enc Try.prog W 0 (fun _ => true) true Try.f6.params.toList args.toList ds p := hA0
  rw [Try.params6] at hA hval hsz
  obtain ⟨v0, vs0, d0, ds0, p0, q0, hargs, rfl, rfl, h0, r0⟩ := trodAll_cons hA
  obtain ⟨v1, vs1, d1, ds1, p1, q1, rfl, rfl, rfl, h1, r1⟩ := trodAll_cons r0
  obtain ⟨rfl, rfl, rfl⟩ := trodAll_nil r1
  obtain rfl : args = #[v0, v1] := by cases args; simp_all
  obtain ⟨rfl, rfl⟩ := trodVars_none hV
  have k0 := h0
  have lt0 : ∀ x ∈ p0, x.block < W.heap.size := by obtain ⟨m, hm⟩ := k0; exact DataW.trod_lt m _ _ _ hm
  obtain ⟨cs0, rfl, hz0⟩ := okWide_struct Try.underlying47 (hval 0 47 v0 rfl rfl)
  obtain ⟨c0_0, c0_1, c0_2, c0_3, c0_4, rfl⟩ := arr5 (hz0.trans (by kernel_rfl))
  obtain ⟨fuel0, hf0⟩ := h0
  replace hf0 : DataW.trod enc Try.prog W 0 (fun _ => true) true fuel0 47 [c0_0, c0_1, c0_2, c0_3, c0_4] = some (d0, p0) := hf0
  obtain ⟨x0, hx0⟩ := rd_Snap hf0 (weigh hsz (j := 0) rfl rfl)
  obtain ⟨I0, y0, e0, F0⟩ := open_Snap.out hx0
  simp only [List.cons.injEq, and_true] at e0
  obtain ⟨rfl, rfl, rfl, rfl, rfl⟩ := e0
  have g0_0 := (F0 _ (List.mem_cons_self ..)).2
  have g0_1 := (F0 _ (List.mem_cons_of_mem _ (List.mem_cons_self ..))).2
  have g0_2 := (F0 _ (List.mem_cons_of_mem _ (List.mem_cons_of_mem _ (List.mem_cons_self ..)))).2
  have k1 := h1
  have lt1 : ∀ x ∈ p1, x.block < W.heap.size := by obtain ⟨m, hm⟩ := k1; exact DataW.trod_lt m _ _ _ hm
  obtain ⟨cs1, rfl, hz1⟩ := okWide_struct Try.underlying49 (hval 1 49 v1 rfl rfl)
  obtain ⟨c1_0, c1_1, c1_2, rfl⟩ := arr3 (hz1.trans (by kernel_rfl))
  obtain ⟨fuel1, hf1⟩ := h1
  replace hf1 : DataW.trod enc Try.prog W 0 (fun _ => true) true fuel1 49 [c1_0, c1_1, c1_2] = some (d1, p1) := hf1
  obtain ⟨x1, hx1⟩ := rd_Hard hf1 (weigh hsz (j := 1) rfl rfl)
  obtain ⟨I1, y1, e1, F1⟩ := open_Hard.out hx1
  simp only [List.cons.injEq, and_true] at e1
  obtain ⟨rfl, rfl, rfl⟩ := e1
  clear hA0 hval0 hsz0 hsz
  refine ((EntrySnaps_spec x0.idx x0.term x0.conf.vot x0.conf.lea y0.1.1 y0.1.2 y0.2.1.1 y0.2.1.2 x0.data y0.2.2.1 y0.2.2.2 x1.term x1.vote x1.commit I0.2.2.2.2 I0.2.2.1 I0.2.2.2.1 ⟨I0.1, I0.2.1⟩ ⟨I1.1, I1.2.1, I1.2.2⟩).law (w := W) (by intro a ha; simp only [List.mem_cons, List.not_mem_nil, or_false] at ha; rcases ha with rfl | rfl | rfl <;> rfl) (by intro a ha; simp only [List.mem_cons, List.not_mem_nil, or_false] at ha; rcases ha with rfl | rfl | rfl <;> (first | exact g0_0 | exact g0_1 | exact g0_2)) (fun _ _ => rfl)).mono fun e W' ⟨he, bel⟩ => ?_
  subst he
  exact ⟨_, rfl, _, _, _, [], _, [], hW', trodAll_mk1 (shut_bool Try.underlying4 _), (trodAll_cons_mk (Below.trod laidOut (by kernel_rfl) (of_decide_eq_true (by kernel_rfl)) k0 bel lt0) (trodAll_cons_mk (Below.trod laidOut (by kernel_rfl) (of_decide_eq_true (by kernel_rfl)) k1 bel lt1) trodAll_mk0)), rfl, bel.frame _, fun h => by cases h⟩
theorem over : Rows.entrySnapsRow.holds Try.pinned (OpenSpec.ofChange Rows.entrySnapsSpec) :=
  OpenClaim.holds_of_wide 6 Try.f6 rfl rfl rfl rfl rfl rfl rfl ⟨rfl, rfl, rfl, rfl, rfl⟩ rfl rfl rfl rfl rfl (by kernel_rfl) Try.func6 (by kernel_rfl)
    (of_decide_eq_true (by kernel_rfl)) (by unfold Func.isWrapper; first | (rw [if_pos (by decide +kernel)]; kernel_rfl) | (rw [if_neg (by decide +kernel)]; exact ⟨rfl, rfl⟩))
    (fun os started H enc _ => lifted os started H enc)
theorem proved : Rows.EntrySnapsSaid := over
end Go.Proofs.Ytondhngfjngngaa.entrySnaps
namespace Go.Proofs.Ytondhngfjngngaa
theorem entrySnaps_holds : Rows.EntrySnapsSaid := entrySnaps.proved
#print axioms entrySnaps_holds
end Go.Proofs.Ytondhngfjngngaa
