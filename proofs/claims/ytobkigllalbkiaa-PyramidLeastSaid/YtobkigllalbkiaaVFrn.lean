/- Frames, in plain Lean: 'Build' of a frame, 'Same', 'Put' and 'Lay' of what is nearer already. -/
import Derived.Test.YtobkigllalbkiaaVFrm
set_option linter.unusedVariables false
set_option linter.unusedSimpArgs false
namespace Go.Proofs.YtobkigllalbkiaaV.M
/-- A frame's depths by place. -/
def dv (f : S_Frame) (w : Nat) (x y : Nat) : Int := f.Depth.getD (y * w + x) 0
theorem FOK.lvl {f : S_Frame} {w h : Nat} (q : FOK f w h) : (⟨f.W, f.H, f.Depth⟩ : S_Level) = mkL w h (dv f w) := by
  refine level_ext q.W q.H ?_
  show f.Depth = (List.range (w * h)).map fun i => f.Depth.getD (i / w * w + i % w) 0
  apply List.ext_getElem?
  intro i
  by_cases hi : i < w * h
  · have e1 : i / w * w + i % w = i := by rw [Nat.mul_comm]; exact Nat.div_add_mod i w
    have e2 : i < f.Depth.length := by rw [q.d]; exact hi
    simp [hi, e1, e2]
  · rw [List.getElem?_eq_none (by rw [q.d]; omega), List.getElem?_eq_none (by simp; omega)]
theorem FOK.at_ {f : S_Frame} {w h x y : Nat} (q : FOK f w h) (hx : x < w) (hy : y < h) : ∃ d it tr, f.Depth[y * w + x]? = some d ∧ f.Item[y * w + x]? = some it ∧ f.Tri[y * w + x]? = some tr ∧ dv f w x y = d ∧ pixOK d it tr := by
  have hlt := place_lt hx hy
  have g1 : f.Depth[y * w + x]? = some (f.Depth[y * w + x]'(by rw [q.d]; exact hlt)) := List.getElem?_eq_getElem _
  have g2 : f.Item[y * w + x]? = some (f.Item[y * w + x]'(by rw [q.i]; exact hlt)) := List.getElem?_eq_getElem _
  have g3 : f.Tri[y * w + x]? = some (f.Tri[y * w + x]'(by rw [q.t]; exact hlt)) := List.getElem?_eq_getElem _
  exact ⟨_, _, _, g1, g2, g3, by unfold dv; rw [List.getD_eq_getElem?_getD, g1]; rfl, q.pix _ _ _ _ g1 g2 g3⟩
theorem pixOK.range {d it tr : Int} (h : pixOK d it tr) : -2048 ≤ d ∧ d ≤ 66560 := by
  rcases h with ⟨h, _⟩ | ⟨h1, h2, _⟩ <;> omega
theorem FOK.dom {f : S_Frame} {w h : Nat} (q : FOK f w h) : Dom w h (dv f w) :=
  ⟨q.w1, q.w64, q.h1, q.h64, fun x y hx hy => by obtain ⟨d, it, tr, _, _, _, e, hp⟩ := q.at_ hx hy; rw [e]; exact hp.range.1,
    fun x y hx hy => by obtain ⟨d, it, tr, _, _, _, e, hp⟩ := q.at_ hx hy; rw [e]; exact hp.range.2⟩
theorem m15_eq {K : Nat} (hK : 10000 ≤ K) (f : S_Frame) : (∃ w h, FOK f w h ∧ m15 K f = some (⟨pyr w h (dv f w)⟩, 0)) ∨ ((¬ ∃ w h, FOK f w h) ∧ m15 K f = some (⟨[]⟩, 8)) := by
  obtain ⟨e, k1, k2, k3⟩ := m33_eq hK f
  unfold m15
  rw [k1, Option.bind_some]
  rcases k2 with rfl | rfl
  · obtain ⟨w, h, q⟩ := k3.1 rfl
    refine .inl ⟨w, h, q, ?_⟩
    have hp : w * h ≤ 4096 := Nat.mul_le_mul q.w64 q.h64
    rw [show ((0 : Int) != 0) = false from rfl, cond_false]
    have : m59 K f.Depth = some f.Depth := by unfold m59; rw [apds_in (by simp [q.d]; omega)]; rfl
    rw [this, Option.bind_some, q.lvl, m58_eq (by omega) q.w64 q.h64 q.w1 q.h1]; rfl
  · refine .inr ⟨fun q => absurd (k3.2 q) (by decide), ?_⟩
    rw [show ((8 : Int) != 0) = true from rfl, cond_true]
/-! ### Same -/
theorem m77_refl {K : Nat} {a : List (Ar4 Int)} (hs : a.length ≤ 1000000) (hK : a.length < K) : m77 K a a = some true := by
  unfold m77
  rw [show ((a.length : Int) != (a.length : Int)) = false by simp, cond_false]
  have key : ∀ (k i : Nat), i ≤ a.length → a.length < i + k → m77_l1 K a a k i = some true := by
    intro k
    induction k with
    | zero => intro i h1 h2; omega
    | succ k ih =>
      intro i h1 h2
      show m77_l1b K a a (m77_l1 K a a k) i = _
      unfold m77_l1b
      by_cases hi : i < a.length
      · have h3 : (i : Int) < (a.length : Int) := by omega
        have ga : a[i]? = some a[i] := List.getElem?_eq_getElem hi
        rw [decide_eq_true h3, cond_true, idx_nat ga, idx_nat ga]
        have hb : (!((a[i].a0 == a[i].a0) && ((a[i].a1 == a[i].a1) && ((a[i].a2 == a[i].a2) && (a[i].a3 == a[i].a3))))) = false := by simp
        rw [hb, cond_false, cast_succ, ck_in (by omega) (by omega)]
        exact ih (i + 1) (by omega) (by omega)
      · have h3 : ¬ (i : Int) < (a.length : Int) := by omega
        rw [decide_eq_false h3, cond_false]
  exact key K 0 (by omega) (by omega)
theorem m78_refl {K : Nat} {a : List Int} (hs : a.length ≤ 1000000) (hK : a.length < K) : m78 K a a = some true := by
  obtain ⟨r, e, hr⟩ := m78_eq (b := a) hs hK
  rw [e, hr.2 rfl]
theorem m32_refl {K : Nat} {f : S_Frame} (hK : 10000 ≤ K) (h1 : f.Color.length ≤ 9000) (h2 : f.Depth.length ≤ 9000) (h3 : f.Item.length ≤ 9000) (h4 : f.Tri.length ≤ 9000) : m32 K f f = some true := by
  unfold m32
  rw [m77_refl (by omega) (by omega), m78_refl (by omega) (by omega), m78_refl (by omega) (by omega), m78_refl (by omega) (by omega)]
  simp
end Go.Proofs.YtobkigllalbkiaaV.M
