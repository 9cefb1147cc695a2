/- Pyramids, in plain Lean: lists compared, least and greatest, 'Check' and 'Low'. -/
import Derived.Test.YtobkigllalbkiaaVPyl
set_option linter.unusedVariables false
set_option linter.unusedSimpArgs false
namespace Go.Proofs.YtobkigllalbkiaaV.M
theorem cast_succ (i : Nat) : (i : Int) + 1 = ((i + 1 : Nat) : Int) := by push_cast; rfl
/-- slices.Equal of ints. -/
theorem m78_loop {K : Nat} {a b : List Int} (hl : a.length = b.length) (hs : a.length ≤ 1000000) : ∀ (k i : Nat), i ≤ a.length → a.length < i + k → (∀ j, j < i → a[j]? = b[j]?) → ∃ r, m78_l1 K a b k i = some r ∧ (r = true ↔ a = b) := by
  intro k
  induction k with
  | zero => intro i h1 h2; omega
  | succ k ih =>
    intro i h1 h2 hpre
    show ∃ r, m78_l1b K a b (m78_l1 K a b k) i = some r ∧ _
    unfold m78_l1b
    by_cases hi : i < a.length
    · have h3 : (i : Int) < (a.length : Int) := by omega
      have ga : a[i]? = some a[i] := List.getElem?_eq_getElem hi
      have gb : b[i]? = some (b[i]'(by omega)) := List.getElem?_eq_getElem (by omega)
      rw [decide_eq_true h3, cond_true, idx_nat ga, idx_nat gb]
      by_cases he : a[i] = b[i]'(by omega)
      · rw [show (a[i] != b[i]'(by omega)) = false by simp [he], cond_false, cast_succ, ck_in (by omega) (by omega)]
        refine ih (i + 1) (by omega) (by omega) fun j hj => ?_
        by_cases hji : j = i
        · subst hji; rw [ga, gb, he]
        · exact hpre j (by omega)
      · rw [show (a[i] != b[i]'(by omega)) = true by simp [he], cond_true]
        refine ⟨false, rfl, ?_⟩
        constructor
        · intro h; cases h
        · intro h; exfalso; apply he; subst h; rfl
    · have h3 : ¬ (i : Int) < (a.length : Int) := by omega
      rw [decide_eq_false h3, cond_false]
      refine ⟨true, rfl, ?_⟩
      simp only [true_iff]
      apply List.ext_getElem?
      intro j
      by_cases hj : j < i
      · exact hpre j hj
      · rw [List.getElem?_eq_none (by omega), List.getElem?_eq_none (by omega)]
theorem m78_eq {K : Nat} {a b : List Int} (hs : a.length ≤ 1000000) (hK : a.length < K) : ∃ r, m78 K a b = some r ∧ (r = true ↔ a = b) := by
  unfold m78
  by_cases hl : a.length = b.length
  · have : ((a.length : Int) != (b.length : Int)) = false := by simp [hl]
    rw [this, cond_false]
    exact m78_loop hl hs K 0 (by omega) (by omega) (fun j hj => by omega)
  · have : ((a.length : Int) != (b.length : Int)) = true := by simp; omega
    rw [this, cond_true]
    exact ⟨false, rfl, by constructor <;> intro h; cases h; exact absurd (congrArg List.length h) hl⟩
theorem level_ext {x y : S_Level} (h1 : x.W = y.W) (h2 : x.H = y.H) (h3 : x.Low = y.Low) : x = y := by cases x; cases y; simp_all
theorem m66_eq {K : Nat} {x y : S_Level} (hs : x.Low.length ≤ 1000000) (hK : x.Low.length < K) : ∃ r, m66 K x y = some r ∧ (r = true ↔ x = y) := by
  unfold m66
  by_cases h1 : x.W = y.W
  · by_cases h2 : x.H = y.H
    · obtain ⟨r, e, hr⟩ := m78_eq (K := K) (a := x.Low) (b := y.Low) hs hK
      refine ⟨r, by simp [h1, h2, e], ?_⟩
      rw [hr]
      exact ⟨fun h => level_ext h1 h2 h, fun h => by rw [h]⟩
    · exact ⟨false, by rw [show (x.W == y.W) = true by simp [h1], show (x.H == y.H) = false by simp [h2]]; rfl, by constructor <;> intro h; cases h; exact absurd (by rw [h]) h2⟩
  · exact ⟨false, by rw [show (x.W == y.W) = false by simp [h1]]; rfl, by constructor <;> intro h; cases h; exact absurd (by rw [h]) h1⟩
theorem m65_loop {K : Nat} {a b : List S_Level} (hl : a.length = b.length) (hs : a.length ≤ 1000000) (hin : ∀ x ∈ a, x.Low.length ≤ 1000000 ∧ x.Low.length < K) : ∀ (k i : Nat), i ≤ a.length → a.length < i + k → (∀ j, j < i → a[j]? = b[j]?) → ∃ r, m65_l1 K a b k i = some r ∧ (r = true ↔ a = b) := by
  intro k
  induction k with
  | zero => intro i h1 h2; omega
  | succ k ih =>
    intro i h1 h2 hpre
    show ∃ r, m65_l1b K a b (m65_l1 K a b k) i = some r ∧ _
    unfold m65_l1b
    by_cases hi : i < a.length
    · have h3 : (i : Int) < (a.length : Int) := by omega
      have ga : a[i]? = some a[i] := List.getElem?_eq_getElem hi
      have gb : b[i]? = some (b[i]'(by omega)) := List.getElem?_eq_getElem (by omega)
      obtain ⟨q1, q2⟩ := hin a[i] (List.getElem_mem hi)
      obtain ⟨r, e, hr⟩ := m66_eq (K := K) (x := a[i]) (y := b[i]'(by omega)) q1 q2
      rw [decide_eq_true h3, cond_true, idx_nat ga, idx_nat gb, e, Option.bind_some]
      cases r with
      | true =>
        have he := hr.1 rfl
        rw [Bool.not_true, cond_false, cast_succ, ck_in (by omega) (by omega)]
        refine ih (i + 1) (by omega) (by omega) fun j hj => ?_
        by_cases hji : j = i
        · subst hji; rw [ga, gb, he]
        · exact hpre j (by omega)
      | false =>
        rw [Bool.not_false, cond_true]
        refine ⟨false, rfl, ?_⟩
        constructor
        · intro h; cases h
        · intro h; exfalso
          have : (false : Bool) = true := hr.2 (by subst h; rfl)
          cases this
    · have h3 : ¬ (i : Int) < (a.length : Int) := by omega
      rw [decide_eq_false h3, cond_false]
      refine ⟨true, rfl, ?_⟩
      simp only [true_iff]
      apply List.ext_getElem?
      intro j
      by_cases hj : j < i
      · exact hpre j hj
      · rw [List.getElem?_eq_none (by omega), List.getElem?_eq_none (by omega)]
theorem m65_eq {K : Nat} {a b : List S_Level} (hs : a.length ≤ 1000000) (hK : a.length < K) (hin : ∀ x ∈ a, x.Low.length ≤ 1000000 ∧ x.Low.length < K) : ∃ r, m65 K a b = some r ∧ (r = true ↔ a = b) := by
  unfold m65
  by_cases hl : a.length = b.length
  · have : ((a.length : Int) != (b.length : Int)) = false := by simp [hl]
    rw [this, cond_false]
    exact m65_loop hl hs hin K 0 (by omega) (by omega) (fun j hj => by omega)
  · have : ((a.length : Int) != (b.length : Int)) = true := by simp; omega
    rw [this, cond_true]
    exact ⟨false, rfl, by constructor <;> intro h; cases h; exact absurd (congrArg List.length h) hl⟩
/-- slices.Min: the least. -/
theorem m63_loop {K : Nat} {a : List Int} (hs : a.length ≤ 1000000) : ∀ (k i : Nat) (m : Int), i ≤ a.length → a.length < i + k → m ∈ a → (∀ j, j < i → ∀ x, a[j]? = some x → m ≤ x) → ∃ r, m63_l1 K a k m i = some r ∧ r ∈ a ∧ ∀ x ∈ a, r ≤ x := by
  intro k
  induction k with
  | zero => intro i m h1 h2; omega
  | succ k ih =>
    intro i m h1 h2 hm hpre
    show ∃ r, m63_l1b K a (m63_l1 K a k) m i = some r ∧ _
    unfold m63_l1b
    by_cases hi : i < a.length
    · have h3 : (i : Int) < (a.length : Int) := by omega
      have ga : a[i]? = some a[i] := List.getElem?_eq_getElem hi
      rw [decide_eq_true h3, cond_true, idx_nat ga, cast_succ, ck_in (by omega) (by omega), mn_eq]
      refine ih (i + 1) _ (by omega) (by omega) ?_ fun j hj x hx => ?_
      · rcases (by omega : min m a[i] = m ∨ min m a[i] = a[i]) with h | h <;> rw [h]
        · exact hm
        · exact List.getElem_mem hi
      · by_cases hji : j = i
        · subst hji; rw [ga] at hx; cases hx; omega
        · have := hpre j (by omega) x hx; omega
    · have h3 : ¬ (i : Int) < (a.length : Int) := by omega
      rw [decide_eq_false h3, cond_false]
      refine ⟨m, rfl, hm, fun x hx => ?_⟩
      obtain ⟨j, hj, e⟩ := List.getElem_of_mem hx
      exact hpre j (by omega) x (by rw [List.getElem?_eq_getElem hj, e])
theorem m63_eq {K : Nat} {a : List Int} (h1 : 1 ≤ a.length) (hs : a.length ≤ 1000000) (hK : a.length < K) : ∃ r, m63 K a = some r ∧ r ∈ a ∧ ∀ x ∈ a, r ≤ x := by
  unfold m63
  have h3 : ¬ (a.length : Int) < 1 := by omega
  have ga : a[0]? = some (a[0]'(by omega)) := List.getElem?_eq_getElem (by omega)
  rw [decide_eq_false h3, cond_false, idx_in (i := 0) (by omega) ga]
  exact m63_loop hs K 1 _ h1 (by omega) (List.getElem_mem (by omega)) fun j hj x hx => by
    obtain rfl : j = 0 := by omega
    rw [ga] at hx; cases hx; omega
theorem m64_loop {K : Nat} {a : List Int} (hs : a.length ≤ 1000000) : ∀ (k i : Nat) (m : Int), i ≤ a.length → a.length < i + k → m ∈ a → (∀ j, j < i → ∀ x, a[j]? = some x → x ≤ m) → ∃ r, m64_l1 K a k m i = some r ∧ r ∈ a ∧ ∀ x ∈ a, x ≤ r := by
  intro k
  induction k with
  | zero => intro i m h1 h2; omega
  | succ k ih =>
    intro i m h1 h2 hm hpre
    show ∃ r, m64_l1b K a (m64_l1 K a k) m i = some r ∧ _
    unfold m64_l1b
    by_cases hi : i < a.length
    · have h3 : (i : Int) < (a.length : Int) := by omega
      have ga : a[i]? = some a[i] := List.getElem?_eq_getElem hi
      rw [decide_eq_true h3, cond_true, idx_nat ga, cast_succ, ck_in (by omega) (by omega), mx_eq]
      refine ih (i + 1) _ (by omega) (by omega) ?_ fun j hj x hx => ?_
      · rcases (by omega : max m a[i] = m ∨ max m a[i] = a[i]) with h | h <;> rw [h]
        · exact hm
        · exact List.getElem_mem hi
      · by_cases hji : j = i
        · subst hji; rw [ga] at hx; cases hx; omega
        · have := hpre j (by omega) x hx; omega
    · have h3 : ¬ (i : Int) < (a.length : Int) := by omega
      rw [decide_eq_false h3, cond_false]
      refine ⟨m, rfl, hm, fun x hx => ?_⟩
      obtain ⟨j, hj, e⟩ := List.getElem_of_mem hx
      exact hpre j (by omega) x (by rw [List.getElem?_eq_getElem hj, e])
theorem m64_eq {K : Nat} {a : List Int} (h1 : 1 ≤ a.length) (hs : a.length ≤ 1000000) (hK : a.length < K) : ∃ r, m64 K a = some r ∧ r ∈ a ∧ ∀ x ∈ a, x ≤ r := by
  unfold m64
  have h3 : ¬ (a.length : Int) < 1 := by omega
  have ga : a[0]? = some (a[0]'(by omega)) := List.getElem?_eq_getElem (by omega)
  rw [decide_eq_false h3, cond_false, idx_in (i := 0) (by omega) ga]
  exact m64_loop hs K 1 _ h1 (by omega) (List.getElem_mem (by omega)) fun j hj x hx => by
    obtain rfl : j = 0 := by omega
    rw [ga] at hx; cases hx; omega
end Go.Proofs.YtobkigllalbkiaaV.M
