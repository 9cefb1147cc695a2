/- Proved: PyramidNames returns true, whatever world it is called in, and leaves all memory as it was. No condition. -/
import Derived.Test.YtobkigllalbkiaaRows
import Derived.Test.YtobkigllalbkiaaVRow
import Derived.Test.YtobkigllalbkiaaVMF6
set_option linter.unusedVariables false
namespace Go.Proofs.Ytobkigllalbkiaa.PyramidNamesLaw
open Go.ChangeShapes Go.WideShapes Go.ChangeAt Go.RowKit Go.Proofs.YtobkigllalbkiaaV

theorem own : ownKnob Try.prog.godebug = none := by kernel_rfl
theorem said : M.m6 100 = some true := by kernel_rfl
theorem walk (w : World) : Calls Try.prog 6 #[] w fun e w' => e = .returned (.bool true) ∧ Below w.heap.size w w' :=
  (M.c6 (fun _ => True) 100 w true said).mono fun e w' h => ⟨h.1, h.2.base⟩

set_option maxRecDepth 100000 in
theorem lifted (os : Os) (started : os.Started) (H : Type) (enc : TypeId × Value → H) :
    ReturnsInHanded {} Try.checked os 6 .any (Rows.pyramidNamesSpec.pre6 enc Try.prog Try.f6 Rows.pyramidNamesRow.domain false) (Rows.pyramidNamesSpec.post enc Try.prog Try.f6 false true false false) := by
  refine returnsInHanded_of_change (C := Try.checked) own started (by kernel_rfl) Try.func6
    (ChangeSpec.witness6 (enc := enc) (C := Try.checked) false ⟨#[], #[], []⟩ 8 (by kernel_rfl) (by kernel_rfl) (by kernel_rfl) (by kernel_rfl)) ?_
  intro W base args ds gs before hval0 hW hcnd _
  have hW' := hW
  obtain ⟨p, q, hA0, hV, rfl, hfz, hnd⟩ := hW
  have hA : DataW.TrodAll enc Try.prog W 0 (fun _ => true) true Try.f6.params.toList args.toList ds p := hA0
  rw [Try.params6] at hA
  obtain ⟨rfl, rfl, rfl⟩ := trodAll_none hA
  obtain ⟨rfl, rfl⟩ := trodVars_none hV
  clear hA0 hval0
  simp only [List.append_nil] at hW'
  refine (walk W).mono fun e W' ⟨he, hg⟩ => ?_
  subst he
  exact ⟨_, rfl, post_below (pa := []) (pv := []) hW' (fun _ _ _ => (trodAll_cons_mk (shut_bool Try.underlying4 _) trodAll_mk0)) (fun sp _ => rfl) (fun _ _ => rfl) rfl hg
    (ok_one (by kernel_rfl) rfl (okWide_bool_mk Try.underlying4 _))⟩
theorem over : Rows.pyramidNamesRow.holds Try.pinned (OpenSpec.ofChange Rows.pyramidNamesSpec) :=
  OpenClaim.holds_of_wide 6 Try.f6 rfl rfl rfl rfl rfl rfl rfl ⟨rfl, rfl, rfl, rfl, rfl⟩ rfl rfl rfl rfl rfl (by kernel_rfl) Try.func6 (by kernel_rfl)
    (of_decide_eq_true (by kernel_rfl)) (by unfold Func.isWrapper; first | (rw [if_pos (by decide +kernel)]; kernel_rfl) | (rw [if_neg (by decide +kernel)]; exact ⟨rfl, rfl⟩))
    (fun os started H enc _ => lifted os started H enc)
end Go.Proofs.Ytobkigllalbkiaa.PyramidNamesLaw
namespace Go.Proofs.Ytobkigllalbkiaa
/-- The statement. -/
theorem pyramidNames_proved : Rows.PyramidNamesSaid := PyramidNamesLaw.over
#print axioms pyramidNames_proved
end Go.Proofs.Ytobkigllalbkiaa
