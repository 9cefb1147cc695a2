/- Frames, in plain Lean: what 'Check', 'Put', 'Lay' and 'Same' answer. -/
import Derived.Test.YtobkigllalbkiaaVPyd
import Derived.Test.YtobkigllalbkiaaVMF15
import Derived.Test.YtobkigllalbkiaaVMF30
import Derived.Test.YtobkigllalbkiaaVMF27
import Derived.Test.YtobkigllalbkiaaVMF32
set_option linter.unusedVariables false
set_option linter.unusedSimpArgs false
namespace Go.Proofs.YtobkigllalbkiaaV.M
/-- May a pixel's depth, item and triangle be? -/
def some1 (d it tr : Int) : Prop := -1024 ≤ d ∧ d ≤ 66560 ∧ 0 ≤ it ∧ it < 256 ∧ 0 ≤ tr ∧ tr < 64
def pixOK (d it tr : Int) : Prop := (d = -2048 ∧ it = -1 ∧ tr = -1) ∨ some1 d it tr
instance (d it tr : Int) : Decidable (some1 d it tr) := by unfold some1; infer_instance
instance (d it tr : Int) : Decidable (pixOK d it tr) := by unfold pixOK; infer_instance
theorem m70_eq (K : Nat) (d : Int) : ∃ b, m70 K d = some b ∧ (b = true ↔ -1024 ≤ d ∧ d ≤ 66560) := by
  unfold m70
  by_cases h1 : -1024 ≤ d
  · refine ⟨decide (d ≤ 66560), by rw [decide_eq_true h1]; rfl, ?_⟩
    simp [h1]
  · exact ⟨false, by rw [decide_eq_false h1]; rfl, by simp; omega⟩
theorem m75_eq (K : Nat) (d it tr : Int) : ∃ b, m75 K d it tr = some b ∧ (b = true ↔ some1 d it tr) := by
  obtain ⟨b, e, hb⟩ := m70_eq K d
  unfold m75 some1
  rw [e, Option.bind_some]
  cases b with
  | false =>
    refine ⟨false, rfl, ?_⟩
    constructor
    · intro h; cases h
    · rintro ⟨h1, h2, _⟩; exact absurd (hb.2 ⟨h1, h2⟩) (by simp)
  | true =>
    have hd := hb.1 rfl
    rw [cond_true, Option.bind_some]
    by_cases h1 : 0 ≤ it
    · rw [decide_eq_true h1, cond_true, Option.bind_some]
      by_cases h2 : it < 256
      · rw [decide_eq_true h2, cond_true, Option.bind_some]
        by_cases h3 : 0 ≤ tr
        · rw [decide_eq_true h3, cond_true, Option.bind_some]
          refine ⟨decide (tr < 64), rfl, ?_⟩
          simp [hd, h1, h2, h3]
        · rw [decide_eq_false h3]; exact ⟨false, rfl, by simp; omega⟩
      · rw [decide_eq_false h2]; exact ⟨false, rfl, by simp; omega⟩
    · rw [decide_eq_false h1]; exact ⟨false, rfl, by simp; omega⟩
/-- A frame's pixels, one by one. -/
theorem m33_loop {K : Nat} {f : S_Frame} {n : Nat} (hd : f.Depth.length = n) (hi : f.Item.length = n) (ht : f.Tri.length = n) (hn : n ≤ 100000) : ∀ (k i : Nat), i ≤ n → n < i + k →
    (∀ (j : Nat) (d it tr : Int), j < i → f.Depth[j]? = some d → f.Item[j]? = some it → f.Tri[j]? = some tr → pixOK d it tr) →
    ∃ e, m33_l1 K f k i = some e ∧ (e = 0 ∨ e = 8) ∧ (e = 0 ↔ ∀ (j : Nat) (d it tr : Int), f.Depth[j]? = some d → f.Item[j]? = some it → f.Tri[j]? = some tr → pixOK d it tr) := by
  intro k
  induction k with
  | zero => intro i h1 h2; omega
  | succ k ih =>
    intro i h1 h2 hpre
    show ∃ e, m33_l1b K f (m33_l1 K f k) i = some e ∧ _
    unfold m33_l1b
    by_cases hlt : i < n
    · have h3 : (i : Int) < (f.Depth.length : Int) := by omega
      have g1 : f.Depth[i]? = some (f.Depth[i]'(by omega)) := List.getElem?_eq_getElem (by omega)
      have g2 : f.Item[i]? = some (f.Item[i]'(by omega)) := List.getElem?_eq_getElem (by omega)
      have g3 : f.Tri[i]? = some (f.Tri[i]'(by omega)) := List.getElem?_eq_getElem (by omega)
      generalize f.Depth[i]'(by omega) = d at g1
      generalize f.Item[i]'(by omega) = it at g2
      generalize f.Tri[i]'(by omega) = tr at g3
      rw [decide_eq_true h3, cond_true, idx_nat g1]
      have key : ∀ (R : Bool → Option Int), ((bif (d == (-2048)) then (idx f.Item (i : Int) fun el42 => some (el42 == (-1))) else some false).bind fun b41 => ((bif b41 then (idx f.Tri (i : Int) fun el52 => some (el52 == (-1))) else some false).bind fun b51 => ((bif (!b51) then (idx f.Item (i : Int) fun el63 => (idx f.Tri (i : Int) fun el70 => ((m75 K d el63 el70).bind fun v78 => some (!v78)))) else some false).bind R))) = R (decide (¬ pixOK d it tr)) := by
        intro R
        obtain ⟨b, eb, hb⟩ := m75_eq K d it tr
        rw [idx_nat g2, idx_nat g3, idx_nat g2]
        simp only [idx_nat g3, eb, Option.bind_some]
        unfold pixOK
        by_cases q1 : d = -2048
        · by_cases q2 : it = -1
          · by_cases q3 : tr = -1
            · simp [q1, q2, q3]
            · have : ¬ some1 d it tr := by unfold some1; omega
              have hbf : b = false := by cases b; rfl; exact absurd (hb.1 rfl) this
              subst hbf
              rw [show (d == (-2048)) = true by simp [q1], show (it == (-1)) = true by simp [q2], show (tr == (-1)) = false by simp [q3]]
              simp [q3, this]
          · have : ¬ some1 d it tr := by unfold some1; omega
            have hbf : b = false := by cases b; rfl; exact absurd (hb.1 rfl) this
            subst hbf
            rw [show (d == (-2048)) = true by simp [q1], show (it == (-1)) = false by simp [q2]]
            simp [q2, this]
        · rw [show (d == (-2048)) = false by simp [q1]]
          cases b with
          | true => have := hb.1 rfl; simp [q1, this]
          | false =>
            have : ¬ some1 d it tr := fun h => absurd (hb.2 h) (by simp)
            simp [q1, this]
      rw [key]
      by_cases hp : pixOK d it tr
      · rw [decide_eq_false (fun h => h hp), cond_false, cast_succ, ck_in (by omega) (by omega)]
        refine ih (i + 1) (by omega) (by omega) fun j d' it' tr' hj k1 k2 k3 => ?_
        by_cases hji : j = i
        · subst hji
          rw [g1] at k1; rw [g2] at k2; rw [g3] at k3
          cases k1; cases k2; cases k3; exact hp
        · exact hpre j d' it' tr' (by omega) k1 k2 k3
      · rw [decide_eq_true hp, cond_true]
        refine ⟨8, rfl, .inr rfl, ?_⟩
        constructor
        · intro h; cases h
        · intro h; exact absurd (h i d it tr g1 g2 g3) hp
    · have h3 : ¬ (i : Int) < (f.Depth.length : Int) := by omega
      rw [decide_eq_false h3, cond_false]
      refine ⟨0, rfl, .inl rfl, ?_⟩
      simp only [true_iff]
      intro j d it tr k1 k2 k3
      have := (List.getElem?_eq_some_iff.1 k1).1
      exact hpre j d it tr (by omega) k1 k2 k3
/-- May a frame be? -/
structure FOK (f : S_Frame) (w h : Nat) : Prop where
  W : f.W = w
  H : f.H = h
  w1 : 1 ≤ w
  w64 : w ≤ 64
  h1 : 1 ≤ h
  h64 : h ≤ 64
  c : f.Color.length = w * h
  d : f.Depth.length = w * h
  i : f.Item.length = w * h
  t : f.Tri.length = w * h
  pix : ∀ (j : Nat) (d it tr : Int), f.Depth[j]? = some d → f.Item[j]? = some it → f.Tri[j]? = some tr → pixOK d it tr
theorem m33_eq {K : Nat} (hK : 10000 ≤ K) (f : S_Frame) : ∃ e, m33 K f = some e ∧ (e = 0 ∨ e = 8) ∧ (e = 0 ↔ ∃ w h, FOK f w h) := by
  have no : ∀ {e : Int}, e = 8 → ¬ (∃ w h, FOK f w h) → (e = 0 ↔ ∃ w h, FOK f w h) := fun he hn => by subst he; constructor; intro h; cases h; intro h; exact absurd h hn
  unfold m33
  by_cases c1 : mn f.W f.H < 1
  · refine ⟨8, by rw [decide_eq_true c1]; rfl, .inr rfl, no rfl ?_⟩
    rintro ⟨w, h, q⟩
    rw [mn_eq, q.W, q.H] at c1
    have := q.w1; have := q.h1; omega
  by_cases c2 : 64 < mx f.W f.H
  · refine ⟨8, by rw [decide_eq_false c1, decide_eq_true c2]; rfl, .inr rfl, no rfl ?_⟩
    rintro ⟨w, h, q⟩
    rw [mx_eq, q.W, q.H] at c2
    have := q.w64; have := q.h64; omega
  rw [mn_eq] at c1
  rw [mx_eq] at c2
  obtain ⟨w, hw⟩ : ∃ w : Nat, f.W = (w : Int) := ⟨f.W.toNat, by omega⟩
  obtain ⟨h, hh⟩ : ∃ h : Nat, f.H = (h : Int) := ⟨f.H.toNat, by omega⟩
  have w1 : 1 ≤ w := by omega
  have w64 : w ≤ 64 := by omega
  have h1 : 1 ≤ h := by omega
  have h64 : h ≤ 64 := by omega
  have hp : w * h ≤ 4096 := Nat.mul_le_mul w64 h64
  have e1 : (w : Int) * (h : Int) = ((w * h : Nat) : Int) := by push_cast; rfl
  have uniq : ∀ {a b : Nat}, FOK f a b → a * b = w * h := fun {a b} q => by
    have q1 := q.W
    have q2 := q.H
    have e1 : a = w := by omega
    have e2 : b = h := by omega
    subst e1; subst e2; rfl
  rw [decide_eq_false (by rw [mn_eq]; exact c1), cond_false, decide_eq_false (by rw [mx_eq]; exact c2), Option.bind_some, cond_false, hw, hh, e1, ck_in (by omega) (by omega)]
  by_cases l1 : f.Color.length = w * h
  · by_cases l2 : f.Depth.length = w * h
    · by_cases l3 : f.Item.length = w * h
      · by_cases l4 : f.Tri.length = w * h
        · obtain ⟨e, k1, k2, k3⟩ := m33_loop (K := K) (f := f) l2 l3 l4 (by omega) K 0 (by omega) (by omega) (fun j d it tr hj => absurd hj (Nat.not_lt_zero _))
          refine ⟨e, ?_, k2, ?_⟩
          · rw [l1, l2, l3, l4]
            simp only [bne_self_eq_false, cond_false, Option.bind_some]
            exact k1
          · rw [k3]
            exact ⟨fun q => ⟨w, h, hw, hh, w1, w64, h1, h64, l1, l2, l3, l4, q⟩, fun ⟨_, _, q⟩ => q.pix⟩
        · refine ⟨8, ?_, .inr rfl, no rfl fun ⟨a, b, q⟩ => l4 (by rw [← uniq q]; exact q.t)⟩
          rw [l1, l2, l3, show ((f.Tri.length : Int) != ((w * h : Nat) : Int)) = true by simp; omega]
          simp
      · refine ⟨8, ?_, .inr rfl, no rfl fun ⟨a, b, q⟩ => l3 (by rw [← uniq q]; exact q.i)⟩
        rw [l1, l2, show ((f.Item.length : Int) != ((w * h : Nat) : Int)) = true by simp; omega]
        simp
    · refine ⟨8, ?_, .inr rfl, no rfl fun ⟨a, b, q⟩ => l2 (by rw [← uniq q]; exact q.d)⟩
      rw [l1, show ((f.Depth.length : Int) != ((w * h : Nat) : Int)) = true by simp; omega]
      simp
  · refine ⟨8, ?_, .inr rfl, no rfl fun ⟨a, b, q⟩ => l1 (by rw [← uniq q]; exact q.c)⟩
    rw [show ((f.Color.length : Int) != ((w * h : Nat) : Int)) = true by simp; omega]
    simp
end Go.Proofs.YtobkigllalbkiaaV.M
