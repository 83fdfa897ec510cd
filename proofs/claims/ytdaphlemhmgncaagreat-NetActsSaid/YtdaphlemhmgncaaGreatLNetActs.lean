/- The law NetActs of the net returns true for all inputs and leaves them as they are. -/
import Derived.Test.YtdaphlemhmgncaaGreatRows
import Derived.Test.YtdaphlemhmgncaaGreatWkK
import Derived.Test.YtdaphlemhmgncaaGreatKglaw24a
set_option linter.unusedVariables false
set_option linter.unusedSimpArgs false
namespace Go.Proofs.YtdaphlemhmgncaaGreat.netActs
open Go.ChangeShapes Go.WideShapes Go.ChangeAt Go.RowKit Go.Wk
open Go.ChangeMaps (open_string shut_string)
theorem own : ownKnob Tryz.prog.godebug = none := by kernel_rfl
theorem laidOut : laidOutB Tryz.prog = true := by kernel_rfl
set_option maxRecDepth 100000
theorem rd_Ent : Rd Tryz.prog 70 kEnt := by
  intro H enc W spare held fuel cs x h hw
  have hl := rd_size Tryz.underlying70 h (m := 13) (by kernel_rfl)
  obtain ⟨c0, c1, c2, c3, c4, c5, c6, c7, c8, c9, c10, c11, c12, rfl⟩ := list13 hl
  obtain ⟨f0, z0, h0, w0⟩ := rd_field Tryz.underlying70 h hw (i := 0) (m := 1) rfl (by kernel_rfl)
  obtain ⟨x0, e0, b0⟩ := rd_i64 Tryz.underlying3 h0
  replace e0 := (List.cons.inj e0).1
  subst e0
  obtain ⟨f1, z1, h1, w1⟩ := rd_field Tryz.underlying70 h hw (i := 1) (m := 1) rfl (by kernel_rfl)
  obtain ⟨x1, e1, b1⟩ := rd_i64 Tryz.underlying3 h1
  replace e1 := (List.cons.inj e1).1
  subst e1
  obtain ⟨f2, z2, h2, w2⟩ := rd_field Tryz.underlying70 h hw (i := 2) (m := 1) rfl (by kernel_rfl)
  obtain ⟨x2, e2, b2⟩ := rd_i64 Tryz.underlying3 h2
  replace e2 := (List.cons.inj e2).1
  subst e2
  obtain ⟨f3, z3, h3, w3⟩ := rd_field Tryz.underlying70 h hw (i := 3) (m := 8) rfl (by kernel_rfl)
  replace h3 : DataW.trod enc Tryz.prog W 0 spare held f3 68 [c3, c4, c5, c6, c7, c8, c9, c10] = some z3 := h3
  obtain ⟨f4, z4, h4, w4⟩ := rd_field Tryz.underlying68 h3 w3 (i := 0) (m := 1) rfl (by kernel_rfl)
  obtain ⟨x3, e3, b3⟩ := rd_i64 Tryz.underlying3 h4
  replace e3 := (List.cons.inj e3).1
  subst e3
  obtain ⟨f5, z5, h5, w5⟩ := rd_field Tryz.underlying68 h3 w3 (i := 1) (m := 1) rfl (by kernel_rfl)
  obtain ⟨x4, e4, b4⟩ := rd_i64 Tryz.underlying3 h5
  replace e4 := (List.cons.inj e4).1
  subst e4
  obtain ⟨f6, z6, h6, w6⟩ := rd_field Tryz.underlying68 h3 w3 (i := 2) (m := 1) rfl (by kernel_rfl)
  obtain ⟨x5, e5, b5⟩ := rd_i64 Tryz.underlying3 h6
  replace e5 := (List.cons.inj e5).1
  subst e5
  obtain ⟨f7, z7, h7, w7⟩ := rd_field Tryz.underlying68 h3 w3 (i := 3) (m := 1) rfl (by kernel_rfl)
  obtain ⟨x6, e6, b6⟩ := rd_str Tryz.underlying9 h7 w7
  replace e6 := (List.cons.inj e6).1
  subst e6
  obtain ⟨f8, z8, h8, w8⟩ := rd_field Tryz.underlying68 h3 w3 (i := 4) (m := 1) rfl (by kernel_rfl)
  obtain ⟨x7, e7, b7⟩ := rd_str Tryz.underlying9 h8 w8
  replace e7 := (List.cons.inj e7).1
  subst e7
  obtain ⟨f9, z9, h9, w9⟩ := rd_field Tryz.underlying68 h3 w3 (i := 5) (m := 1) rfl (by kernel_rfl)
  obtain ⟨x8, e8, b8⟩ := rd_str Tryz.underlying9 h9 w9
  replace e8 := (List.cons.inj e8).1
  subst e8
  obtain ⟨f10, z10, h10, w10⟩ := rd_field Tryz.underlying68 h3 w3 (i := 6) (m := 1) rfl (by kernel_rfl)
  obtain ⟨x9, e9, b9⟩ := rd_str Tryz.underlying9 h10 w10
  replace e9 := (List.cons.inj e9).1
  subst e9
  obtain ⟨f11, z11, h11, w11⟩ := rd_field Tryz.underlying68 h3 w3 (i := 7) (m := 1) rfl (by kernel_rfl)
  obtain ⟨x10, e10, b10⟩ := rd_i64 Tryz.underlying3 h11
  replace e10 := (List.cons.inj e10).1
  subst e10
  obtain ⟨f12, z12, h12, w12⟩ := rd_field Tryz.underlying70 h hw (i := 4) (m := 2) rfl (by kernel_rfl)
  replace h12 : DataW.trod enc Tryz.prog W 0 spare held f12 31 [c11, c12] = some z12 := h12
  obtain ⟨f13, z13, h13, w13⟩ := rd_field Tryz.underlying31 h12 w12 (i := 0) (m := 1) rfl (by kernel_rfl)
  obtain ⟨a11, q11, x11, e11, b11, d11⟩ := rd_slice (kd := kInt) Tryz.underlying29 (by kernel_rfl) (by decide) (by decide +kernel) (Rd.int Tryz.underlying3) h13 w13
  replace e11 := (List.cons.inj e11).1
  subst e11
  obtain ⟨f14, z14, h14, w14⟩ := rd_field Tryz.underlying31 h12 w12 (i := 1) (m := 1) rfl (by kernel_rfl)
  obtain ⟨a12, q12, x12, e12, b12, d12⟩ := rd_slice (kd := kInt) Tryz.underlying29 (by kernel_rfl) (by decide) (by decide +kernel) (Rd.int Tryz.underlying3) h14 w14
  replace e12 := (List.cons.inj e12).1
  subst e12
  exact ⟨⟨x0, x1, x2, ⟨x3, x4, x5, x6, x7, x8, x9, x10⟩, ⟨x11, x12⟩⟩, ⟨b0, b1, b2, b3, b4, b5, b6, b7, b8, b9, b10, b11, b12⟩, ⟨⟨a11, q11⟩, ⟨a12, q12⟩⟩, rfl, (by intro a ha; simp only [List.mem_cons, List.not_mem_nil, or_false] at ha; rcases ha with rfl | rfl <;> first | exact d11 | exact d12)⟩
theorem rd_Act : Rd Tryz.prog 38 kAct := by
  intro H enc W spare held fuel cs x h hw
  have hl := rd_size Tryz.underlying38 h (m := 20) (by kernel_rfl)
  obtain ⟨c0, c1, c2, c3, c4, c5, c6, c7, c8, c9, c10, c11, c12, c13, c14, c15, c16, c17, c18, c19, rfl⟩ := list20 hl
  obtain ⟨f0, z0, h0, w0⟩ := rd_field Tryz.underlying38 h hw (i := 0) (m := 1) rfl (by kernel_rfl)
  obtain ⟨x0, e0, b0⟩ := rd_i64 Tryz.underlying3 h0
  replace e0 := (List.cons.inj e0).1
  subst e0
  obtain ⟨f1, z1, h1, w1⟩ := rd_field Tryz.underlying38 h hw (i := 1) (m := 16) rfl (by kernel_rfl)
  replace h1 : DataW.trod enc Tryz.prog W 0 spare held f1 36 [c1, c2, c3, c4, c5, c6, c7, c8, c9, c10, c11, c12, c13, c14, c15, c16] = some z1 := h1
  obtain ⟨f2, z2, h2, w2⟩ := rd_field Tryz.underlying36 h1 w1 (i := 0) (m := 1) rfl (by kernel_rfl)
  obtain ⟨x1, e1, b1⟩ := rd_i64 Tryz.underlying3 h2
  replace e1 := (List.cons.inj e1).1
  subst e1
  obtain ⟨f3, z3, h3, w3⟩ := rd_field Tryz.underlying36 h1 w1 (i := 1) (m := 1) rfl (by kernel_rfl)
  obtain ⟨x2, e2, b2⟩ := rd_i64 Tryz.underlying3 h3
  replace e2 := (List.cons.inj e2).1
  subst e2
  obtain ⟨f4, z4, h4, w4⟩ := rd_field Tryz.underlying36 h1 w1 (i := 2) (m := 1) rfl (by kernel_rfl)
  obtain ⟨x3, e3, b3⟩ := rd_i64 Tryz.underlying3 h4
  replace e3 := (List.cons.inj e3).1
  subst e3
  obtain ⟨f5, z5, h5, w5⟩ := rd_field Tryz.underlying36 h1 w1 (i := 3) (m := 1) rfl (by kernel_rfl)
  obtain ⟨x4, e4, b4⟩ := rd_i64 Tryz.underlying3 h5
  replace e4 := (List.cons.inj e4).1
  subst e4
  obtain ⟨f6, z6, h6, w6⟩ := rd_field Tryz.underlying36 h1 w1 (i := 4) (m := 1) rfl (by kernel_rfl)
  obtain ⟨x5, e5, b5⟩ := rd_i64 Tryz.underlying3 h6
  replace e5 := (List.cons.inj e5).1
  subst e5
  obtain ⟨f7, z7, h7, w7⟩ := rd_field Tryz.underlying36 h1 w1 (i := 5) (m := 1) rfl (by kernel_rfl)
  obtain ⟨x6, e6, b6⟩ := rd_i64 Tryz.underlying3 h7
  replace e6 := (List.cons.inj e6).1
  subst e6
  obtain ⟨f8, z8, h8, w8⟩ := rd_field Tryz.underlying36 h1 w1 (i := 6) (m := 1) rfl (by kernel_rfl)
  obtain ⟨x7, e7, b7⟩ := rd_i64 Tryz.underlying3 h8
  replace e7 := (List.cons.inj e7).1
  subst e7
  obtain ⟨f9, z9, h9, w9⟩ := rd_field Tryz.underlying36 h1 w1 (i := 7) (m := 1) rfl (by kernel_rfl)
  obtain ⟨x8, e8, b8⟩ := rd_i64 Tryz.underlying3 h9
  replace e8 := (List.cons.inj e8).1
  subst e8
  obtain ⟨f10, z10, h10, w10⟩ := rd_field Tryz.underlying36 h1 w1 (i := 8) (m := 1) rfl (by kernel_rfl)
  obtain ⟨x9, e9⟩ := rd_bool Tryz.underlying4 h10
  replace e9 := (List.cons.inj e9).1
  subst e9
  obtain ⟨f11, z11, h11, w11⟩ := rd_field Tryz.underlying36 h1 w1 (i := 9) (m := 1) rfl (by kernel_rfl)
  obtain ⟨x10, e10, b10⟩ := rd_i64 Tryz.underlying3 h11
  replace e10 := (List.cons.inj e10).1
  subst e10
  obtain ⟨f12, z12, h12, w12⟩ := rd_field Tryz.underlying36 h1 w1 (i := 10) (m := 1) rfl (by kernel_rfl)
  obtain ⟨a11, q11, x11, e11, b11, d11⟩ := rd_slice (kd := kEnt) Tryz.underlying28 (by kernel_rfl) (by decide) (by decide +kernel) rd_Ent h12 w12
  replace e11 := (List.cons.inj e11).1
  subst e11
  obtain ⟨f13, z13, h13, w13⟩ := rd_field Tryz.underlying36 h1 w1 (i := 11) (m := 5) rfl (by kernel_rfl)
  replace h13 : DataW.trod enc Tryz.prog W 0 spare held f13 34 [c12, c13, c14, c15, c16] = some z13 := h13
  obtain ⟨f14, z14, h14, w14⟩ := rd_field Tryz.underlying34 h13 w13 (i := 0) (m := 1) rfl (by kernel_rfl)
  obtain ⟨x12, e12, b12⟩ := rd_i64 Tryz.underlying3 h14
  replace e12 := (List.cons.inj e12).1
  subst e12
  obtain ⟨f15, z15, h15, w15⟩ := rd_field Tryz.underlying34 h13 w13 (i := 1) (m := 1) rfl (by kernel_rfl)
  obtain ⟨x13, e13, b13⟩ := rd_i64 Tryz.underlying3 h15
  replace e13 := (List.cons.inj e13).1
  subst e13
  obtain ⟨f16, z16, h16, w16⟩ := rd_field Tryz.underlying34 h13 w13 (i := 2) (m := 2) rfl (by kernel_rfl)
  replace h16 : DataW.trod enc Tryz.prog W 0 spare held f16 31 [c14, c15] = some z16 := h16
  obtain ⟨f17, z17, h17, w17⟩ := rd_field Tryz.underlying31 h16 w16 (i := 0) (m := 1) rfl (by kernel_rfl)
  obtain ⟨a14, q14, x14, e14, b14, d14⟩ := rd_slice (kd := kInt) Tryz.underlying29 (by kernel_rfl) (by decide) (by decide +kernel) (Rd.int Tryz.underlying3) h17 w17
  replace e14 := (List.cons.inj e14).1
  subst e14
  obtain ⟨f18, z18, h18, w18⟩ := rd_field Tryz.underlying31 h16 w16 (i := 1) (m := 1) rfl (by kernel_rfl)
  obtain ⟨a15, q15, x15, e15, b15, d15⟩ := rd_slice (kd := kInt) Tryz.underlying29 (by kernel_rfl) (by decide) (by decide +kernel) (Rd.int Tryz.underlying3) h18 w18
  replace e15 := (List.cons.inj e15).1
  subst e15
  obtain ⟨f19, z19, h19, w19⟩ := rd_field Tryz.underlying34 h13 w13 (i := 3) (m := 1) rfl (by kernel_rfl)
  obtain ⟨a16, q16, x16, e16, b16, d16⟩ := rd_slice (kd := kByte) Tryz.underlying32 (by kernel_rfl) (by decide) (by decide +kernel) (Rd.byte Tryz.underlying5) h19 w19
  replace e16 := (List.cons.inj e16).1
  subst e16
  obtain ⟨f20, z20, h20, w20⟩ := rd_field Tryz.underlying38 h hw (i := 2) (m := 1) rfl (by kernel_rfl)
  obtain ⟨x17, e17, b17⟩ := rd_i64 Tryz.underlying3 h20
  replace e17 := (List.cons.inj e17).1
  subst e17
  obtain ⟨f21, z21, h21, w21⟩ := rd_field Tryz.underlying38 h hw (i := 3) (m := 1) rfl (by kernel_rfl)
  obtain ⟨x18, e18, b18⟩ := rd_i64 Tryz.underlying3 h21
  replace e18 := (List.cons.inj e18).1
  subst e18
  obtain ⟨f22, z22, h22, w22⟩ := rd_field Tryz.underlying38 h hw (i := 4) (m := 1) rfl (by kernel_rfl)
  obtain ⟨x19, e19, b19⟩ := rd_i64 Tryz.underlying3 h22
  replace e19 := (List.cons.inj e19).1
  subst e19
  exact ⟨⟨x0, ⟨x1, x2, x3, x4, x5, x6, x7, x8, x9, x10, x11, ⟨x12, x13, ⟨x14, x15⟩, x16⟩⟩, x17, x18, x19⟩, ⟨b0, b1, b2, b3, b4, b5, b6, b7, b8, b10, b11, b12, b13, b14, b15, b16, b17, b18, b19⟩, ⟨⟨a11, q11⟩, ⟨a14, q14⟩, ⟨a15, q15⟩, ⟨a16, q16⟩⟩, rfl, (by intro a ha; simp only [List.mem_cons, List.not_mem_nil, or_false] at ha; rcases ha with rfl | rfl | rfl | rfl <;> first | exact d11 | exact d14 | exact d15 | exact d16)⟩
set_option maxRecDepth 100000 in
theorem lifted (os : Os) (started : os.Started) (H : Type) (enc : TypeId × Value → H) :
    ReturnsInHanded {} Tryz.checked os 3 .any (Rows.netActsSpec.pre6 enc Tryz.prog Tryz.f3 Rows.netActsRow.domain false) (Rows.netActsSpec.post enc Tryz.prog Tryz.f3 false true false false) := by
  refine returnsInHanded_of_change_sized (C := Tryz.checked) own started (by kernel_rfl) Tryz.func3
    (ChangeSpec.witness6 (enc := enc) (C := Tryz.checked) false ⟨#[], #[.int .i64 0, .slice none 0 0], []⟩ 8 (by kernel_rfl) (by kernel_rfl) (by kernel_rfl) (by kernel_rfl)) ?_
  intro W base args ds gs before hval0 hW hcnd hsz0 _
  have hval : ∀ (j : Nat) t v, Tryz.f3.params[j]? = some t → args[j]? = some v → Value.okWide Tryz.prog W .any base t v := hval0
  have hsz : (DataW.weightsEach Tryz.prog (Tryz.f3.params.toList ++ Rows.netActsSpec.plain.varTypes Tryz.prog) (ds ++ gs)).all (· ≤ reachBytes) = true := hsz0
  have hW' := hW
  obtain ⟨p, q, hA0, hV, rfl, hfz, hnd⟩ := hW
  have hA : DataW.TrodAll enc Tryz.prog W 0 (fun _ => true) true Tryz.f3.params.toList args.toList ds p := hA0
  rw [Tryz.params3] at hA hval hsz
  obtain ⟨v0, vs0, d0, ds0, p0, q0, hargs, rfl, rfl, h0, r0⟩ := trodAll_cons hA
  obtain ⟨v1, vs1, d1, ds1, p1, q1, rfl, rfl, rfl, h1, r1⟩ := trodAll_cons r0
  obtain ⟨rfl, rfl, rfl⟩ := trodAll_nil r1
  obtain rfl : args = #[v0, v1] := by cases args; simp_all
  obtain ⟨rfl, rfl⟩ := trodVars_none hV
  have k0 := h0
  have lt0 : ∀ x ∈ p0, x.block < W.heap.size := by obtain ⟨m, hm⟩ := k0; exact DataW.trod_lt m _ _ _ hm
  obtain ⟨n0, rfl, rfl, rfl, w0⟩ := open_int Tryz.underlying3 (hval 0 3 v0 rfl rfl) h0
  obtain ⟨x0, e0, y0⟩ : ∃ x, x = n0 ∧ -9223372036854775808 ≤ x ∧ x ≤ 9223372036854775807 := ⟨_, rfl, lit_i64 w0⟩
  subst e0
  have k1 := h1
  have lt1 : ∀ x ∈ p1, x.block < W.heap.size := by obtain ⟨m, hm⟩ := k1; exact DataW.trod_lt m _ _ _ hm
  obtain ⟨a1, c1, x1, rfl, s1, y1⟩ := open_rows (kd := kAct) Tryz.underlying22 (by kernel_rfl) (by decide) (by decide +kernel) rd_Act (hval 1 22 v1 rfl rfl) h1 (weigh hsz (j := 1) rfl rfl)
  clear hA0 hval0 hsz0 hsz
  refine ((NetActs_spec x0 x1 a1 c1).law (w := W) (by intro a ha; simp only [List.mem_cons, List.not_mem_nil, or_false] at ha; rcases ha with rfl <;> rfl) (by intro a ha; simp only [List.mem_cons, List.not_mem_nil, or_false] at ha; rcases ha with rfl <;> (first | exact y1)) (fun _ _ => rfl)).mono fun e W' ⟨he, bel⟩ => ?_
  subst he
  exact ⟨_, rfl, _, _, _, [], _, [], hW', trodAll_mk1 (shut_bool Tryz.underlying4 _), (trodAll_cons_mk (Below.trod laidOut (by kernel_rfl) (of_decide_eq_true (by kernel_rfl)) k0 bel lt0) (trodAll_cons_mk (Below.trod laidOut (by kernel_rfl) (of_decide_eq_true (by kernel_rfl)) k1 bel lt1) trodAll_mk0)), rfl, bel.frame _, fun h => by cases h⟩
theorem over : Rows.netActsRow.holds Tryz.pinned (OpenSpec.ofChange Rows.netActsSpec) :=
  OpenClaim.holds_of_wide 3 Tryz.f3 rfl rfl rfl rfl rfl rfl rfl ⟨rfl, rfl, rfl, rfl, rfl⟩ rfl rfl rfl rfl rfl (by kernel_rfl) Tryz.func3 (by kernel_rfl)
    (of_decide_eq_true (by kernel_rfl)) (by unfold Func.isWrapper; first | (rw [if_pos (by decide +kernel)]; kernel_rfl) | (rw [if_neg (by decide +kernel)]; exact ⟨rfl, rfl⟩))
    (fun os started H enc _ => lifted os started H enc)
theorem proved : Rows.NetActsSaid := over
end Go.Proofs.YtdaphlemhmgncaaGreat.netActs
namespace Go.Proofs.YtdaphlemhmgncaaGreat
theorem netActs_holds : Rows.NetActsSaid := netActs.proved
#print axioms netActs_holds
end Go.Proofs.YtdaphlemhmgncaaGreat
