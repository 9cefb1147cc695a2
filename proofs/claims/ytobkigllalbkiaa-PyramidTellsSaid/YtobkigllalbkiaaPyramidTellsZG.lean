/- Proved: PyramidTells returns true, whatever its arguments and the memory that it is called in, and each argument reads behind the call as it did before. No condition. -/
import Derived.Test.YtobkigllalbkiaaPyramidTellsZF
set_option linter.unusedVariables false
namespace Go.Proofs.Ytobkigllalbkiaa.PyramidTellsLaw
open Go.ChangeShapes Go.WideShapes Go.ChangeAt Go.RowKit Go.Proofs.YtobkigllalbkiaaV Go.Proofs.YtobkigllalbkiaaV.M

theorem op3 : Opn Try.prog 3 kInt := Opn.int (by kernel_rfl) (by kernel_rfl)
theorem op5 : Opn Try.prog 5 kI_u8 := Opn.int (by kernel_rfl) (by kernel_rfl)
theorem op61 : Opn Try.prog 61 k_Ar4_Int where
  sz := by kernel_rfl
  down := fun {H enc w fuel cs x} h => by
    have hlen := trod_len (n := 4) (by kernel_rfl) (by kernel_rfl) h
    match cs, hlen, h with
    | [v0, v1, v2, v3], _, h =>
      obtain ⟨n0, y0, t0⟩ := trod_part (len := 4) (e := 5) (by kernel_rfl) (sz := 1) (by kernel_rfl) 0 (by rfl) h
      obtain ⟨a0, h0⟩ := op5.down t0
      have h0 : [v0] = [.int .u8 a0] := h0
      simp only [List.cons.injEq, and_true] at h0
      obtain rfl := h0
      obtain ⟨n1, y1, t1⟩ := trod_part (len := 4) (e := 5) (by kernel_rfl) (sz := 1) (by kernel_rfl) 1 (by rfl) h
      obtain ⟨a1, h1⟩ := op5.down t1
      have h1 : [v1] = [.int .u8 a1] := h1
      simp only [List.cons.injEq, and_true] at h1
      obtain rfl := h1
      obtain ⟨n2, y2, t2⟩ := trod_part (len := 4) (e := 5) (by kernel_rfl) (sz := 1) (by kernel_rfl) 2 (by rfl) h
      obtain ⟨a2, h2⟩ := op5.down t2
      have h2 : [v2] = [.int .u8 a2] := h2
      simp only [List.cons.injEq, and_true] at h2
      obtain rfl := h2
      obtain ⟨n3, y3, t3⟩ := trod_part (len := 4) (e := 5) (by kernel_rfl) (sz := 1) (by kernel_rfl) 3 (by rfl) h
      obtain ⟨a3, h3⟩ := op5.down t3
      have h3 : [v3] = [.int .u8 a3] := h3
      simp only [List.cons.injEq, and_true] at h3
      obtain rfl := h3
      exact ⟨(⟨a0, a1, a2, a3⟩ : (Ar4 Int)), rfl⟩
theorem op22 : Opn Try.prog 22 (Kd.slice k_Ar4_Int) := Opn.slice (by kernel_rfl) (by kernel_rfl) op61 (by show 0 < 4; omega)
theorem op23 : Opn Try.prog 23 (Kd.slice kInt) := Opn.slice (by kernel_rfl) (by kernel_rfl) op3 (by show 0 < 1; omega)
theorem op25 : Opn Try.prog 25 k_Frame where
  sz := by kernel_rfl
  down := fun {H enc w fuel cs x} h => by
    have hlen := trod_len (n := 6) (by kernel_rfl) (by kernel_rfl) h
    match cs, hlen, h with
    | [v0, v1, v2, v3, v4, v5], _, h =>
      obtain ⟨n0, y0, t0⟩ := trod_field (i := 0) (T := 3) (off := 0) (sz := 1) (by kernel_rfl) h
      obtain ⟨a0, h0⟩ := op3.down t0
      have h0 : [v0] = [.int .i64 a0] := h0
      simp only [List.cons.injEq, and_true] at h0
      obtain rfl := h0
      obtain ⟨n1, y1, t1⟩ := trod_field (i := 1) (T := 3) (off := 1) (sz := 1) (by kernel_rfl) h
      obtain ⟨a1, h1⟩ := op3.down t1
      have h1 : [v1] = [.int .i64 a1] := h1
      simp only [List.cons.injEq, and_true] at h1
      obtain rfl := h1
      obtain ⟨n2, y2, t2⟩ := trod_field (i := 2) (T := 22) (off := 2) (sz := 1) (by kernel_rfl) h
      obtain ⟨a2, h2⟩ := op22.down t2
      obtain ⟨A2_0, c2_0, h2, hR2_0⟩ := h2
      have h2 : [v2] = [.slice A2_0 a2.length c2_0] := h2
      simp only [List.cons.injEq, and_true] at h2
      obtain rfl := h2
      obtain ⟨n3, y3, t3⟩ := trod_field (i := 3) (T := 23) (off := 3) (sz := 1) (by kernel_rfl) h
      obtain ⟨a3, h3⟩ := op23.down t3
      obtain ⟨A3_0, c3_0, h3, hR3_0⟩ := h3
      have h3 : [v3] = [.slice A3_0 a3.length c3_0] := h3
      simp only [List.cons.injEq, and_true] at h3
      obtain rfl := h3
      obtain ⟨n4, y4, t4⟩ := trod_field (i := 4) (T := 23) (off := 4) (sz := 1) (by kernel_rfl) h
      obtain ⟨a4, h4⟩ := op23.down t4
      obtain ⟨A4_0, c4_0, h4, hR4_0⟩ := h4
      have h4 : [v4] = [.slice A4_0 a4.length c4_0] := h4
      simp only [List.cons.injEq, and_true] at h4
      obtain rfl := h4
      obtain ⟨n5, y5, t5⟩ := trod_field (i := 5) (T := 23) (off := 5) (sz := 1) (by kernel_rfl) h
      obtain ⟨a5, h5⟩ := op23.down t5
      obtain ⟨A5_0, c5_0, h5, hR5_0⟩ := h5
      have h5 : [v5] = [.slice A5_0 a5.length c5_0] := h5
      simp only [List.cons.injEq, and_true] at h5
      obtain rfl := h5
      exact ⟨(⟨a0, a1, a2, a3, a4, a5⟩ : S_Frame), A2_0, c2_0, A3_0, c3_0, A4_0, c4_0, A5_0, c5_0, rfl, hR2_0, hR3_0, hR4_0, hR5_0⟩
theorem op54 : Opn Try.prog 54 k_Level where
  sz := by kernel_rfl
  down := fun {H enc w fuel cs x} h => by
    have hlen := trod_len (n := 3) (by kernel_rfl) (by kernel_rfl) h
    match cs, hlen, h with
    | [v0, v1, v2], _, h =>
      obtain ⟨n0, y0, t0⟩ := trod_field (i := 0) (T := 3) (off := 0) (sz := 1) (by kernel_rfl) h
      obtain ⟨a0, h0⟩ := op3.down t0
      have h0 : [v0] = [.int .i64 a0] := h0
      simp only [List.cons.injEq, and_true] at h0
      obtain rfl := h0
      obtain ⟨n1, y1, t1⟩ := trod_field (i := 1) (T := 3) (off := 1) (sz := 1) (by kernel_rfl) h
      obtain ⟨a1, h1⟩ := op3.down t1
      have h1 : [v1] = [.int .i64 a1] := h1
      simp only [List.cons.injEq, and_true] at h1
      obtain rfl := h1
      obtain ⟨n2, y2, t2⟩ := trod_field (i := 2) (T := 23) (off := 2) (sz := 1) (by kernel_rfl) h
      obtain ⟨a2, h2⟩ := op23.down t2
      obtain ⟨A2_0, c2_0, h2, hR2_0⟩ := h2
      have h2 : [v2] = [.slice A2_0 a2.length c2_0] := h2
      simp only [List.cons.injEq, and_true] at h2
      obtain rfl := h2
      exact ⟨(⟨a0, a1, a2⟩ : S_Level), A2_0, c2_0, rfl, hR2_0⟩
theorem op26 : Opn Try.prog 26 (Kd.slice k_Level) := Opn.slice (by kernel_rfl) (by kernel_rfl) op54 (by show 0 < 3; omega)
theorem op28 : Opn Try.prog 28 k_Pyramid where
  sz := by kernel_rfl
  down := fun {H enc w fuel cs x} h => by
    have hlen := trod_len (n := 1) (by kernel_rfl) (by kernel_rfl) h
    match cs, hlen, h with
    | [v0], _, h =>
      obtain ⟨n0, y0, t0⟩ := trod_field (i := 0) (T := 26) (off := 0) (sz := 1) (by kernel_rfl) h
      obtain ⟨a0, h0⟩ := op26.down t0
      obtain ⟨A0_0, c0_0, h0, hR0_0⟩ := h0
      have h0 : [v0] = [.slice A0_0 a0.length c0_0] := h0
      simp only [List.cons.injEq, and_true] at h0
      obtain rfl := h0
      exact ⟨(⟨a0⟩ : S_Pyramid), A0_0, c0_0, rfl, hR0_0⟩
theorem op30 : Opn Try.prog 30 k_Rect where
  sz := by kernel_rfl
  down := fun {H enc w fuel cs x} h => by
    have hlen := trod_len (n := 4) (by kernel_rfl) (by kernel_rfl) h
    match cs, hlen, h with
    | [v0, v1, v2, v3], _, h =>
      obtain ⟨n0, y0, t0⟩ := trod_field (i := 0) (T := 3) (off := 0) (sz := 1) (by kernel_rfl) h
      obtain ⟨a0, h0⟩ := op3.down t0
      have h0 : [v0] = [.int .i64 a0] := h0
      simp only [List.cons.injEq, and_true] at h0
      obtain rfl := h0
      obtain ⟨n1, y1, t1⟩ := trod_field (i := 1) (T := 3) (off := 1) (sz := 1) (by kernel_rfl) h
      obtain ⟨a1, h1⟩ := op3.down t1
      have h1 : [v1] = [.int .i64 a1] := h1
      simp only [List.cons.injEq, and_true] at h1
      obtain rfl := h1
      obtain ⟨n2, y2, t2⟩ := trod_field (i := 2) (T := 3) (off := 2) (sz := 1) (by kernel_rfl) h
      obtain ⟨a2, h2⟩ := op3.down t2
      have h2 : [v2] = [.int .i64 a2] := h2
      simp only [List.cons.injEq, and_true] at h2
      obtain rfl := h2
      obtain ⟨n3, y3, t3⟩ := trod_field (i := 3) (T := 3) (off := 3) (sz := 1) (by kernel_rfl) h
      obtain ⟨a3, h3⟩ := op3.down t3
      have h3 : [v3] = [.int .i64 a3] := h3
      simp only [List.cons.injEq, and_true] at h3
      obtain rfl := h3
      exact ⟨(⟨a0, a1, a2, a3⟩ : S_Rect), rfl⟩
theorem op32 : Opn Try.prog 32 k_Shade where
  sz := by kernel_rfl
  down := fun {H enc w fuel cs x} h => by
    have hlen := trod_len (n := 5) (by kernel_rfl) (by kernel_rfl) h
    match cs, hlen, h with
    | [v0, v1, v2, v3, v4], _, h =>
      obtain ⟨n0, y0, t0⟩ := trod_field (i := 0) (T := 30) (off := 0) (sz := 4) (by kernel_rfl) h
      obtain ⟨a0, h0⟩ := op30.down t0
      have h0 : [v0, v1, v2, v3] = [.int .i64 a0.X0, .int .i64 a0.Y0, .int .i64 a0.X1, .int .i64 a0.Y1] := h0
      simp only [List.cons.injEq, and_true] at h0
      obtain ⟨rfl, rfl, rfl, rfl⟩ := h0
      obtain ⟨n1, y1, t1⟩ := trod_field (i := 1) (T := 3) (off := 4) (sz := 1) (by kernel_rfl) h
      obtain ⟨a1, h1⟩ := op3.down t1
      have h1 : [v4] = [.int .i64 a1] := h1
      simp only [List.cons.injEq, and_true] at h1
      obtain rfl := h1
      exact ⟨(⟨a0, a1⟩ : S_Shade), rfl⟩
theorem own : ownKnob Try.prog.godebug = none := by kernel_rfl
theorem laidOut : laidOutB Try.prog = true := by kernel_rfl
theorem said (a0 : S_Frame) (a1 : S_Pyramid) (a2 : S_Shade) : m3 10000 a0 a1 a2 = some true := (m3_true (by decide) a0 a1 a2)
theorem readable : ∀ t ∈ Try.f3.params.toList, Try.prog.readableRec t = true ∧ t < Try.prog.types.size := by
  rw [Try.params3]
  intro t ht
  simp only [List.mem_cons, List.not_mem_nil, or_false] at ht
  rcases ht with rfl | rfl | rfl <;> exact ⟨by kernel_rfl, of_decide_eq_true (by kernel_rfl)⟩
set_option maxRecDepth 100000 in
theorem lifted (os : Os) (started : os.Started) (H : Type) (enc : TypeId × Value → H) :
    ReturnsInHanded {} Try.checked os 3 .any (Rows.pyramidTellsSpec.pre6 enc Try.prog Try.f3 Rows.pyramidTellsRow.domain false) (Rows.pyramidTellsSpec.post enc Try.prog Try.f3 false true false false) := by
  refine returnsInHanded_of_change (C := Try.checked) own started (by kernel_rfl) Try.func3
    (ChangeSpec.witness6 (enc := enc) (C := Try.checked) false ⟨#[], #[.agg #[.int .i64 0, .int .i64 0, .slice none 0 0, .slice none 0 0, .slice none 0 0, .slice none 0 0], .agg #[.slice none 0 0], .agg #[.int .i64 0, .int .i64 0, .int .i64 0, .int .i64 0, .int .i64 0]], []⟩ 8 (by kernel_rfl) (by kernel_rfl) (by kernel_rfl) (by kernel_rfl)) ?_
  intro W base args ds gs before hval0 hW hcnd _
  have hW' := hW
  obtain ⟨p, q, hA0, hV, rfl, hfz, hnd⟩ := hW
  have hA : DataW.TrodAll enc Try.prog W 0 (fun _ => true) true Try.f3.params.toList args.toList ds p := hA0
  have hlt : ∀ x ∈ p, x.block < W.heap.size := fun x hx => hW'.lt x (List.mem_append.2 (.inl hx))
  rw [Try.params3] at hA
  obtain ⟨v0, vs0, d0, ds0, p0, q0, e0, rfl, rfl, h0, hA⟩ := trodAll_cons hA
  obtain ⟨v1, vs1, d1, ds1, p1, q1, e1, rfl, rfl, h1, hA⟩ := trodAll_cons hA
  obtain ⟨v2, vs2, d2, ds2, p2, q2, e2, rfl, rfl, h2, hA⟩ := trodAll_cons hA
  obtain ⟨rfl, rfl, rfl⟩ := trodAll_nil hA
  subst e2
  subst e1
  obtain rfl : args = #[v0, v1, v2] := by cases args; simp_all
  obtain ⟨cs0, a0, rfl, k0⟩ := arg_agg op25 (by kernel_rfl) (hval0 0 25 v0 rfl rfl) h0
  obtain ⟨A0_0, c0_0, A0_1, c0_1, A0_2, c0_2, A0_3, c0_3, k0, hR0_0, hR0_1, hR0_2, hR0_3⟩ := k0
  have k0 : cs0 = [.int .i64 a0.W, .int .i64 a0.H, .slice A0_0 a0.Color.length c0_0, .slice A0_1 a0.Depth.length c0_1, .slice A0_2 a0.Item.length c0_2, .slice A0_3 a0.Tri.length c0_3] := k0
  subst k0
  obtain ⟨cs1, a1, rfl, k1⟩ := arg_agg op28 (by kernel_rfl) (hval0 1 28 v1 rfl rfl) h1
  obtain ⟨A1_0, c1_0, k1, hR1_0⟩ := k1
  have k1 : cs1 = [.slice A1_0 a1.Levels.length c1_0] := k1
  subst k1
  obtain ⟨cs2, a2, rfl, k2⟩ := arg_agg op32 (by kernel_rfl) (hval0 2 32 v2 rfl rfl) h2
  have k2 : cs2 = [.int .i64 a2.Rect.X0, .int .i64 a2.Rect.Y0, .int .i64 a2.Rect.X1, .int .i64 a2.Rect.Y1, .int .i64 a2.D] := k2
  subst k2
  obtain ⟨rfl, rfl⟩ := trodVars_none hV
  simp only [List.append_nil] at hW' hlt
  refine (c3 okT 10000 W a0 A0_0 c0_0 A0_1 c0_1 A0_2 c0_2 A0_3 c0_3 a1 A1_0 c1_0 a2 hR0_0 hR0_1 hR0_2 hR0_3 hR1_0 true (said a0 a1 a2)).mono fun e W' ⟨he, hg⟩ => ?_
  subst he
  exact ⟨_, rfl, post_below (pv := []) hW' (fun _ _ _ => (trodAll_cons_mk (shut_bool Try.underlying4 _) trodAll_mk0)) (fun sp hsp => trodAll_stays laidOut hg.base readable hA0 (by simpa using hlt) (fun x hx => hsp x (by simpa using hx))) (fun _ _ => rfl) (by simp) hg.base
    (ok_one (by kernel_rfl) rfl (okWide_bool_mk Try.underlying4 _))⟩
theorem over : Rows.pyramidTellsRow.holds Try.pinned (OpenSpec.ofChange Rows.pyramidTellsSpec) :=
  OpenClaim.holds_of_wide 3 Try.f3 rfl rfl rfl rfl rfl rfl rfl ⟨rfl, rfl, rfl, rfl, rfl⟩ rfl rfl rfl rfl rfl (by kernel_rfl) Try.func3 (by kernel_rfl)
    (of_decide_eq_true (by kernel_rfl)) (by unfold Func.isWrapper; first | (rw [if_pos (by decide +kernel)]; kernel_rfl) | (rw [if_neg (by decide +kernel)]; exact ⟨rfl, rfl⟩))
    (fun os started H enc _ => lifted os started H enc)
end Go.Proofs.Ytobkigllalbkiaa.PyramidTellsLaw
namespace Go.Proofs.Ytobkigllalbkiaa
/-- The statement. -/
theorem pyramidTells_proved : Rows.PyramidTellsSaid := PyramidTellsLaw.over
#print axioms pyramidTells_proved
end Go.Proofs.Ytobkigllalbkiaa
