/- Pyramids, in plain Lean: 'Check' and 'Low' of a built one. -/
import Derived.Test.YtobkigllalbkiaaVPyc
set_option linter.unusedVariables false
set_option linter.unusedSimpArgs false
namespace Go.Proofs.YtobkigllalbkiaaV.M
theorem MinB.iff' {w h : Nat} {v : Nat → Nat → Int} {bound m : Int} {S1 S2 : Nat → Nat → Prop} (h1 : MinB w h v bound m S1) (hs : ∀ px py, px < w → py < h → (S1 px py ↔ S2 px py)) : MinB w h v bound m S2 :=
  ⟨h1.le, fun px py hx hy h => h1.all px py hx hy ((hs px py hx hy).2 h), h1.at_.imp id fun ⟨px, py, hx, hy, h, e⟩ => ⟨px, py, hx, hy, (hs px py hx hy).1 h, e⟩⟩
theorem mkL_mem {w h : Nat} {v : Nat → Nat → Int} {a : Int} : a ∈ (mkL w h v).Low ↔ ∃ px py, px < w ∧ py < h ∧ a = v px py := by
  simp only [mkL, List.mem_map, List.mem_range]
  constructor
  · rintro ⟨i, hi, rfl⟩
    have hw : 0 < w := by
      rcases Nat.eq_zero_or_pos w with h0 | h0
      · subst h0; simp at hi
      · exact h0
    exact ⟨i % w, i / w, Nat.mod_lt _ hw, Nat.div_lt_of_lt_mul hi, rfl⟩
  · rintro ⟨px, py, hx, hy, rfl⟩
    exact ⟨py * w + px, place_lt hx hy, by rw [place_mod hx, place_div hx]⟩
theorem mkL_len (w h : Nat) (v : Nat → Nat → Int) : (mkL w h v).Low.length = w * h := by simp [mkL]
structure Dom (w h : Nat) (v : Nat → Nat → Int) : Prop where
  w1 : 1 ≤ w
  w64 : w ≤ 64
  h1 : 1 ≤ h
  h64 : h ≤ 64
  lo : ∀ x y, x < w → y < h → -2048 ≤ v x y
  hi : ∀ x y, x < w → y < h → v x y ≤ 66560
theorem Dom.prod {w h : Nat} {v : Nat → Nat → Int} (d : Dom w h v) : 1 ≤ w * h ∧ w * h ≤ 4096 :=
  ⟨Nat.mul_pos d.w1 d.h1, Nat.mul_le_mul d.w64 d.h64⟩
theorem pyr_len {w h : Nat} {v : Nat → Nat → Int} : (pyr w h v).length = (lvls 6 w h v).length + 1 := by simp [pyr]
theorem pyr_mem {w h : Nat} {v : Nat → Nat → Int} (d : Dom w h v) {l : S_Level} (hl : l ∈ pyr w h v) : l.Low.length ≤ 4096 := by
  obtain ⟨i, hi, rfl⟩ := List.getElem_of_mem hl
  rw [pyr_len] at hi
  have := pyr_get (w := w) (h := h) (v := v) (i := i) (by omega)
  rw [List.getElem?_eq_getElem (by rw [pyr_len]; omega)] at this
  rw [Option.some.inj this, mkL_len]
  exact Nat.mul_le_mul (wi_le d.w64 i) (wi_le d.h64 i)
/-- The tests of 'Check' of a first level that may be. -/
theorem m22_first {K w h : Nat} {v : Nat → Nat → Int} (hK : 10000 ≤ K) (d : Dom w h v) {p : S_Pyramid} (hp : p.Levels[0]? = some (mkL w h v)) :
    ∃ b, m65 K (pyr w h v) p.Levels = some b ∧ (b = true ↔ pyr w h v = p.Levels) ∧ m22 K p = some (if b then 0 else 8) := by
  obtain ⟨p1, p2⟩ := d.prod
  have hlen : 0 < p.Levels.length := by
    have := (List.getElem?_eq_some_iff.1 hp).1
    omega
  have hll := lvls_len 6 w h v
  obtain ⟨b, e, hb⟩ := m65_eq (K := K) (a := pyr w h v) (b := p.Levels) (by rw [pyr_len]; omega) (by rw [pyr_len]; omega) fun x hx => by have := pyr_mem d hx; omega
  refine ⟨b, e, hb, ?_⟩
  unfold m22
  have c0 : ((p.Levels.length : Int) == 0) = false := by simp; intro h; rw [h] at hlen; simp at hlen
  have hw1 := d.w1
  have hw64 := d.w64
  have hh1 := d.h1
  have hh64 := d.h64
  have hW : (mkL w h v).W = (w : Int) := rfl
  have hH : (mkL w h v).H = (h : Int) := rfl
  have c1 : ¬ mn (w : Int) (h : Int) < 1 := by rw [mn_eq]; omega
  have c2 : ¬ 64 < mx (w : Int) (h : Int) := by rw [mx_eq]; omega
  have e1 : (w : Int) * (h : Int) = ((w * h : Nat) : Int) := by push_cast; rfl
  have c3 : (((mkL w h v).Low.length : Int) != ((w * h : Nat) : Int)) = false := by rw [mkL_len]; simp
  rw [c0, cond_false, idx_in (i := 0) (by omega) hp, hW, hH, decide_eq_false c1, cond_false, decide_eq_false c2, Option.bind_some, cond_false, e1, ck_in (by omega) (by omega), c3, Option.bind_some, cond_false]
  obtain ⟨mi, k1, q1, _⟩ := m63_eq (K := K) (a := (mkL w h v).Low) (by rw [mkL_len]; omega) (by rw [mkL_len]; omega) (by rw [mkL_len]; omega)
  obtain ⟨ma, k2, q2, _⟩ := m64_eq (K := K) (a := (mkL w h v).Low) (by rw [mkL_len]; omega) (by rw [mkL_len]; omega) (by rw [mkL_len]; omega)
  obtain ⟨x1, y1, g1, g2, rfl⟩ := mkL_mem.1 q1
  obtain ⟨x2, y2, g3, g4, rfl⟩ := mkL_mem.1 q2
  have r1 : ¬ v x1 y1 < -2048 := by have := d.lo x1 y1 g1 g2; omega
  have r2 : ¬ 66560 < v x2 y2 := by have := d.hi x2 y2 g3 g4; omega
  rw [k1, Option.bind_some, decide_eq_false r1, cond_false, k2, Option.bind_some, decide_eq_false r2, Option.bind_some, cond_false, m58_eq (by omega) hw64 hh64 hw1 hh1, Option.bind_some]
  show ((m65 K (pyr w h v) p.Levels).bind fun v52 => some (!v52)).bind _ = _
  rw [e]
  cases b <;> rfl
theorem m22_pyr {K w h : Nat} {v : Nat → Nat → Int} (hK : 10000 ≤ K) (d : Dom w h v) : m22 K ⟨pyr w h v⟩ = some 0 := by
  obtain ⟨b, _, hb, e⟩ := m22_first hK d (p := ⟨pyr w h v⟩) rfl
  rw [e, hb.2 rfl]; rfl
/-- May a rectangle be asked? -/
def okR (w h : Nat) (r : S_Rect) : Prop := 0 ≤ r.X0 ∧ 0 ≤ r.Y0 ∧ r.X0 ≤ r.X1 ∧ r.X1 < w ∧ r.Y0 ≤ r.Y1 ∧ r.Y1 < h
theorem m17_pyr {K w h : Nat} {v : Nat → Nat → Int} (hK : 10000 ≤ K) (d : Dom w h v) (r : S_Rect) :
    (¬ okR w h r ∧ m17 K ⟨pyr w h v⟩ r = some (0, 2)) ∨ (okR w h r ∧ ∃ m, m17 K ⟨pyr w h v⟩ r = some (m, 0) ∧ MinB w h v 66560 m (inR r)) := by
  have h22 := m22_pyr hK d
  have hW : (mkL w h v).W = (w : Int) := rfl
  have hH : (mkL w h v).H = (h : Int) := rfl
  have g0 : (pyr w h v)[0]? = some (mkL w h v) := rfl
  unfold m17
  rw [h22, Option.bind_some, show ((0 : Int) != 0) = false from rfl, cond_false, idx_in (i := 0) (by omega) g0, hW, hH]
  by_cases c1 : mn r.X0 r.Y0 < 0
  · refine .inl ⟨fun hr => ?_, by rw [decide_eq_true c1]; rfl⟩
    rw [mn_eq] at c1; have := hr.1; have := hr.2.1; omega
  by_cases c2 : r.X1 < r.X0
  · exact .inl ⟨fun hr => by have := hr.2.2.1; omega, by rw [decide_eq_false c1, decide_eq_true c2]; rfl⟩
  by_cases c3 : (w : Int) ≤ r.X1
  · exact .inl ⟨fun hr => by have := hr.2.2.2.1; omega, by rw [decide_eq_false c1, decide_eq_false c2, decide_eq_true c3]; rfl⟩
  by_cases c4 : r.Y1 < r.Y0
  · exact .inl ⟨fun hr => by have := hr.2.2.2.2.1; omega, by rw [decide_eq_false c1, decide_eq_false c2, decide_eq_false c3, decide_eq_true c4]; rfl⟩
  by_cases c5 : (h : Int) ≤ r.Y1
  · exact .inl ⟨fun hr => by have := hr.2.2.2.2.2; omega, by rw [decide_eq_false c1, decide_eq_false c2, decide_eq_false c3, decide_eq_false c4, decide_eq_true c5]; rfl⟩
  have hll := lvls_len 6 w h v
  have hlast := (lvls_last 6 w h v (by have := d.w64; simpa using this) (by have := d.h64; simpa using this) d.w1 d.h1 (lvls 6 w h v).length (Nat.le_refl _)).2 rfl
  obtain ⟨m, em, hm⟩ := low_eq (K := K) (top := (lvls 6 w h v).length) (p := ⟨pyr w h v⟩) (r := r) d.w64 d.h64 d.hi hll (fun i hi => pyr_get hi) K (lvls 6 w h v).length (by omega) (Nat.le_refl _) 0 0 66560 (by omega) (by omega)
  have e1 : (((⟨pyr w h v⟩ : S_Pyramid).Levels.length : Nat) : Int) - 1 = ((lvls 6 w h v).length : Int) := by
    show ((pyr w h v).length : Int) - 1 = _
    rw [pyr_len]; omega
  refine .inr ⟨⟨by rw [mn_eq] at c1; omega, by rw [mn_eq] at c1; omega, by omega, by omega, by omega, by omega⟩, m, ?_, hm.iff' fun px py hx hy => ?_⟩
  · rw [decide_eq_false c1, cond_false, decide_eq_false c2, Option.bind_some, cond_false, decide_eq_false c3, Option.bind_some, cond_false, decide_eq_false c4, Option.bind_some, cond_false, decide_eq_false c5, Option.bind_some, cond_false, e1, ck_in (by omega) (by omega)]
    have : m62 K ⟨pyr w h v⟩ ((lvls 6 w h v).length : Int) 0 0 r 66560 = some m := em
    rw [this]; rfl
  · unfold below
    have a1 := lt_wi hx (lvls 6 w h v).length
    have a2 := lt_wi hy (lvls 6 w h v).length
    rw [hlast.1] at a1
    rw [hlast.2] at a2
    exact ⟨fun q => q.1, fun q => ⟨q, Nat.lt_one_iff.1 a1, Nat.lt_one_iff.1 a2⟩⟩
end Go.Proofs.YtobkigllalbkiaaV.M
