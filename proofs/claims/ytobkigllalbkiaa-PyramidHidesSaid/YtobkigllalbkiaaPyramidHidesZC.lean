/- Part 3 of the texts that the proof of PyramidHides stands on. -/
import Derived.Test.YtobkigllalbkiaaPyramidHidesZB
/- Pyramids, in plain Lean: the least within a rectangle. -/
set_option linter.unusedVariables false
set_option linter.unusedSimpArgs false
namespace Go.Proofs.YtobkigllalbkiaaV.M
/-- The least of a bound and of what some pixels have. -/
structure MinB (w h : Nat) (v : Nat → Nat → Int) (bound m : Int) (S : Nat → Nat → Prop) : Prop where
  le : m ≤ bound
  all : ∀ px py, px < w → py < h → S px py → m ≤ v px py
  at_ : m = bound ∨ ∃ px py, px < w ∧ py < h ∧ S px py ∧ m = v px py
def inR (r : S_Rect) (px py : Nat) : Prop := r.X0 ≤ px ∧ (px : Int) ≤ r.X1 ∧ r.Y0 ≤ py ∧ (py : Int) ≤ r.Y1
def below (r : S_Rect) (lev x y : Nat) (px py : Nat) : Prop := inR r px py ∧ px / 2 ^ lev = x ∧ py / 2 ^ lev = y
theorem shl_eq {lev : Nat} (h : lev ≤ 6) : shlV .i64 1 (lev : Int) = ((2 ^ lev : Nat) : Int) := by
  have : lev = 0 ∨ lev = 1 ∨ lev = 2 ∨ lev = 3 ∨ lev = 4 ∨ lev = 5 ∨ lev = 6 := by omega
  rcases this with rfl | rfl | rfl | rfl | rfl | rfl | rfl <;> decide
theorem pow_le {lev : Nat} (h : lev ≤ 6) : 1 ≤ 2 ^ lev ∧ 2 ^ lev ≤ 64 := by
  have : lev = 0 ∨ lev = 1 ∨ lev = 2 ∨ lev = 3 ∨ lev = 4 ∨ lev = 5 ∨ lev = 6 := by omega
  rcases this with rfl | rfl | rfl | rfl | rfl | rfl | rfl <;> decide
/-- One step of 'low', its words read. -/
theorem m62_step {K : Nat} {self : S_Pyramid → Int → Int → Int → S_Rect → Int → Option Int} {p : S_Pyramid} {r : S_Rect} {a b lev x y s : Nat} {u : Nat → Nat → Int} {bound : Int}
    (hl : p.Levels[lev]? = some (mkL a b u)) (ha : a ≤ 64) (hb : b ≤ 64) (hs : shlV .i64 1 (lev : Int) = (s : Int)) (hs64 : s ≤ 64) (hx : x ≤ 200) (hy : y ≤ 200) (hlev : lev ≤ 6) :
    m62b K self p lev x y r bound =
      if a ≤ x ∨ b ≤ y ∨ r.X1 < (x * s : Nat) ∨ (((x + 1) * s : Nat) : Int) ≤ r.X0 ∨ r.Y1 < (y * s : Nat) ∨ (((y + 1) * s : Nat) : Int) ≤ r.Y0 ∨ bound ≤ atL a b u x y then some bound
      else if r.X0 ≤ (x * s : Nat) ∧ (((x + 1) * s : Nat) : Int) - 1 ≤ r.X1 ∧ r.Y0 ≤ (y * s : Nat) ∧ (((y + 1) * s : Nat) : Int) - 1 ≤ r.Y1 then some (atL a b u x y)
      else (self p ((lev : Int) - 1) (2 * x : Nat) (2 * y : Nat) r bound).bind fun b1 => (self p ((lev : Int) - 1) (2 * x + 1 : Nat) (2 * y : Nat) r b1).bind fun b2 =>
        (self p ((lev : Int) - 1) (2 * x : Nat) (2 * y + 1 : Nat) r b2).bind fun b3 => self p ((lev : Int) - 1) (2 * x + 1 : Nat) (2 * y + 1 : Nat) r b3 := by
  have hxs : x * s ≤ 200 * 64 := Nat.mul_le_mul hx hs64
  have hys : y * s ≤ 200 * 64 := Nat.mul_le_mul hy hs64
  have hxs1 : (x + 1) * s ≤ 201 * 64 := Nat.mul_le_mul (by omega) hs64
  have hys1 : (y + 1) * s ≤ 201 * 64 := Nat.mul_le_mul (by omega) hs64
  have e1 : (x : Int) * (s : Int) = ((x * s : Nat) : Int) := by push_cast; rfl
  have e2 : (y : Int) * (s : Int) = ((y * s : Nat) : Int) := by push_cast; rfl
  have e3 : (x : Int) + 1 = ((x + 1 : Nat) : Int) := by push_cast; rfl
  have e4 : (y : Int) + 1 = ((y + 1 : Nat) : Int) := by push_cast; rfl
  have e5 : ((x + 1 : Nat) : Int) * (s : Int) = (((x + 1) * s : Nat) : Int) := by push_cast; rfl
  have e6 : ((y + 1 : Nat) : Int) * (s : Int) = (((y + 1) * s : Nat) : Int) := by push_cast; rfl
  have c1 : ∀ {α : Type} (k : Int → Option α), ck ((x * s : Nat) : Int) k = k ((x * s : Nat) : Int) := fun k => ck_in (by omega) (by omega)
  have c2 : ∀ {α : Type} (k : Int → Option α), ck ((y * s : Nat) : Int) k = k ((y * s : Nat) : Int) := fun k => ck_in (by omega) (by omega)
  have c3 : ∀ {α : Type} (k : Int → Option α), ck ((x + 1 : Nat) : Int) k = k ((x + 1 : Nat) : Int) := fun k => ck_in (by omega) (by omega)
  have c4 : ∀ {α : Type} (k : Int → Option α), ck ((y + 1 : Nat) : Int) k = k ((y + 1 : Nat) : Int) := fun k => ck_in (by omega) (by omega)
  have c5 : ∀ {α : Type} (k : Int → Option α), ck (((x + 1) * s : Nat) : Int) k = k (((x + 1) * s : Nat) : Int) := fun k => ck_in (by omega) (by omega)
  have c6 : ∀ {α : Type} (k : Int → Option α), ck (((y + 1) * s : Nat) : Int) k = k (((y + 1) * s : Nat) : Int) := fun k => ck_in (by omega) (by omega)
  have c7 : ∀ {α : Type} (k : Int → Option α), ck ((((x + 1) * s : Nat) : Int) - 1) k = k ((((x + 1) * s : Nat) : Int) - 1) := fun k => ck_in (by omega) (by omega)
  have c8 : ∀ {α : Type} (k : Int → Option α), ck ((((y + 1) * s : Nat) : Int) - 1) k = k ((((y + 1) * s : Nat) : Int) - 1) := fun k => ck_in (by omega) (by omega)
  have c9 : ∀ {α : Type} (k : Int → Option α), ck ((lev : Int) - 1) k = k ((lev : Int) - 1) := fun k => ck_in (by omega) (by omega)
  have f1 : (2 : Int) * (x : Int) = ((2 * x : Nat) : Int) := by push_cast; rfl
  have f2 : (2 : Int) * (y : Int) = ((2 * y : Nat) : Int) := by push_cast; rfl
  have d1 : ∀ {α : Type} (k : Int → Option α), ck ((2 * x : Nat) : Int) k = k ((2 * x : Nat) : Int) := fun k => ck_in (by omega) (by omega)
  have d2 : ∀ {α : Type} (k : Int → Option α), ck ((2 * y : Nat) : Int) k = k ((2 * y : Nat) : Int) := fun k => ck_in (by omega) (by omega)
  have d3 : ∀ {α : Type} (k : Int → Option α), ck (((2 * x : Nat) : Int) + 1) k = k ((2 * x + 1 : Nat) : Int) := fun k => ck_in (by omega) (by omega)
  have d4 : ∀ {α : Type} (k : Int → Option α), ck (((2 * y : Nat) : Int) + 1) k = k ((2 * y + 1 : Nat) : Int) := fun k => ck_in (by omega) (by omega)
  have d5 : ∀ {α : Type} (k : Int → Option α), ck (((2 * x : Nat) : Int) + 0) k = k ((2 * x : Nat) : Int) := fun k => ck_in (by omega) (by omega)
  have d6 : ∀ {α : Type} (k : Int → Option α), ck (((2 * y : Nat) : Int) + 0) k = k ((2 * y : Nat) : Int) := fun k => ck_in (by omega) (by omega)
  have z0 : ∀ {α : Type} (k : Int → Option α), ck 0 k = k 0 := fun k => ck_in (by omega) (by omega)
  have z1 : ∀ {α : Type} (k : Int → Option α), ck 1 k = k 1 := fun k => ck_in (by omega) (by omega)
  have t0 : Int.tmod 0 2 = 0 := rfl
  have t1 : Int.tmod 1 2 = 1 := rfl
  have t2 : Int.tmod 2 2 = 0 := rfl
  have t3 : Int.tmod 3 2 = 1 := rfl
  have u0 : Int.tdiv 0 2 = 0 := rfl
  have u1 : Int.tdiv 1 2 = 0 := rfl
  have u2 : Int.tdiv 2 2 = 1 := rfl
  have u3 : Int.tdiv 3 2 = 1 := rfl
  have hW : (mkL a b u).W = (a : Int) := rfl
  have hH : (mkL a b u).H = (b : Int) := rfl
  unfold m62b
  rw [idx_nat hl, ge0_in (by omega), hs]
  simp only [hW, hH, e1, e2, e3, e4, e5, e6, c1, c2, c3, c4, c5, c6, c7, c8, c9, f1, f2, d1, d2, d3, d4, d5, d6, z0, z1, t0, t1, t2, t3, u0, u1, u2, u3, m109_eq ha hb, Option.bind_some]
  by_cases h1 : a ≤ x
  · simp [h1]
  by_cases h2 : b ≤ y
  · simp [h1, h2]
  have g1 : ¬ (a : Int) ≤ (x : Int) := by omega
  have g2 : ¬ (b : Int) ≤ (y : Int) := by omega
  by_cases h3 : r.X1 < ((x * s : Nat) : Int)
  · rw [if_pos (.inr (.inr (.inl h3)))]
    simp only [g1, g2, h3, decide_true, decide_false, cond_true, cond_false, Option.bind_some]
  by_cases h4 : (((x + 1) * s : Nat) : Int) ≤ r.X0
  · rw [if_pos (.inr (.inr (.inr (.inl h4))))]
    simp only [g1, g2, h3, h4, decide_true, decide_false, cond_true, cond_false, Option.bind_some]
  by_cases h5 : r.Y1 < ((y * s : Nat) : Int)
  · rw [if_pos (.inr (.inr (.inr (.inr (.inl h5)))))]
    simp only [g1, g2, h3, h4, h5, decide_true, decide_false, cond_true, cond_false, Option.bind_some]
  by_cases h6 : (((y + 1) * s : Nat) : Int) ≤ r.Y0
  · rw [if_pos (.inr (.inr (.inr (.inr (.inr (.inl h6))))))]
    simp only [g1, g2, h3, h4, h5, h6, decide_true, decide_false, cond_true, cond_false, Option.bind_some]
  by_cases h7 : bound ≤ atL a b u x y
  · rw [if_pos (.inr (.inr (.inr (.inr (.inr (.inr h7))))))]
    simp only [g1, g2, h3, h4, h5, h6, h7, decide_true, decide_false, cond_true, cond_false, Option.bind_some]
  have hn : ¬ (a ≤ x ∨ b ≤ y ∨ r.X1 < (x * s : Nat) ∨ (((x + 1) * s : Nat) : Int) ≤ r.X0 ∨ r.Y1 < (y * s : Nat) ∨ (((y + 1) * s : Nat) : Int) ≤ r.Y0 ∨ bound ≤ atL a b u x y) := by
    rintro (h | h | h | h | h | h | h) <;> contradiction
  rw [if_neg hn]
  simp only [g1, g2, h3, h4, h5, h6, h7, decide_false, cond_false, Option.bind_some]
  by_cases i1 : r.X0 ≤ ((x * s : Nat) : Int)
  · by_cases i2 : (((x + 1) * s : Nat) : Int) - 1 ≤ r.X1
    · by_cases i3 : r.Y0 ≤ ((y * s : Nat) : Int)
      · by_cases i4 : (((y + 1) * s : Nat) : Int) - 1 ≤ r.Y1
        · rw [if_pos ⟨i1, i2, i3, i4⟩]
          simp only [i1, i2, i3, i4, decide_true, cond_true, Option.bind_some]
        · rw [if_neg (fun h => i4 h.2.2.2)]
          simp only [i1, i2, i3, i4, decide_true, decide_false, cond_true, cond_false, Option.bind_some, Option.bind_fun_some]
      · rw [if_neg (fun h => i3 h.2.2.1)]
        simp only [i1, i2, i3, decide_true, decide_false, cond_true, cond_false, Option.bind_some, Option.bind_fun_some]
    · rw [if_neg (fun h => i2 h.2.1)]
      simp only [i1, i2, decide_true, decide_false, cond_true, cond_false, Option.bind_some, Option.bind_fun_some]
  · rw [if_neg (fun h => i1 h.1)]
    simp only [i1, decide_true, decide_false, cond_true, cond_false, Option.bind_some, Option.bind_fun_some]
theorem MinB.none_ {w h : Nat} {v : Nat → Nat → Int} {bound : Int} {S : Nat → Nat → Prop} (hS : ∀ px py, px < w → py < h → S px py → bound ≤ v px py) : MinB w h v bound bound S := ⟨Int.le_refl _, hS, .inl rfl⟩
theorem MinB.or {w h : Nat} {v : Nat → Nat → Int} {bound m1 m2 : Int} {S1 S2 : Nat → Nat → Prop} (h1 : MinB w h v bound m1 S1) (h2 : MinB w h v m1 m2 S2) : MinB w h v bound m2 (fun px py => S1 px py ∨ S2 px py) := by
  refine ⟨Int.le_trans h2.le h1.le, fun px py hx hy hs => ?_, ?_⟩
  · rcases hs with hs | hs
    · exact Int.le_trans h2.le (h1.all px py hx hy hs)
    · exact h2.all px py hx hy hs
  · rcases h2.at_ with e | ⟨px, py, hx, hy, hs, e⟩
    · rcases h1.at_ with e1 | ⟨px, py, hx, hy, hs, e1⟩
      · exact .inl (e.trans e1)
      · exact .inr ⟨px, py, hx, hy, .inl hs, e.trans e1⟩
    · exact .inr ⟨px, py, hx, hy, .inr hs, e⟩
theorem MinB.iff {w h : Nat} {v : Nat → Nat → Int} {bound m : Int} {S1 S2 : Nat → Nat → Prop} (h1 : MinB w h v bound m S1) (hs : ∀ px py, S1 px py ↔ S2 px py) : MinB w h v bound m S2 :=
  ⟨h1.le, fun px py hx hy h => h1.all px py hx hy ((hs px py).2 h), h1.at_.imp id fun ⟨px, py, hx, hy, h, e⟩ => ⟨px, py, hx, hy, (hs px py).1 h, e⟩⟩
theorem MinB.same {w h : Nat} {v : Nat → Nat → Int} {bound m m' : Int} {S : Nat → Nat → Prop} (h1 : MinB w h v bound m S) (h2 : MinB w h v bound m' S) : m = m' := by
  have a : m ≤ m' := by
    rcases h2.at_ with e | ⟨px, py, hx, hy, hs, e⟩
    · rw [e]; exact h1.le
    · rw [e]; exact h1.all px py hx hy hs
  have b : m' ≤ m := by
    rcases h1.at_ with e | ⟨px, py, hx, hy, hs, e⟩
    · rw [e]; exact h2.le
    · rw [e]; exact h2.all px py hx hy hs
  omega
theorem div_bounds {p s x : Nat} (hs : 1 ≤ s) (h : p / s = x) : x * s ≤ p ∧ p < (x + 1) * s := by
  subst h
  refine ⟨Nat.div_mul_le_self _ _, ?_⟩
  have := Nat.lt_div_mul_add (a := p) hs
  rw [Nat.add_mul, Nat.one_mul]; exact this
theorem below_split {r : S_Rect} {l x y px py : Nat} : (((below r l (2 * x) (2 * y) px py ∨ below r l (2 * x + 1) (2 * y) px py) ∨ below r l (2 * x) (2 * y + 1) px py) ∨ below r l (2 * x + 1) (2 * y + 1) px py) ↔ below r (l + 1) x y px py := by
  unfold below
  rw [div_succ, div_succ]
  generalize px / 2 ^ l = a
  generalize py / 2 ^ l = b
  constructor
  · rintro (((⟨h, h1, h2⟩ | ⟨h, h1, h2⟩) | ⟨h, h1, h2⟩) | ⟨h, h1, h2⟩) <;> exact ⟨h, by omega, by omega⟩
  · rintro ⟨h, h1, h2⟩
    have c1 : a = 2 * x ∨ a = 2 * x + 1 := by omega
    have c2 : b = 2 * y ∨ b = 2 * y + 1 := by omega
    rcases c1 with c1 | c1 <;> rcases c2 with c2 | c2
    · exact .inl (.inl (.inl ⟨h, c1, c2⟩))
    · exact .inl (.inr ⟨h, c1, c2⟩)
    · exact .inl (.inl (.inr ⟨h, c1, c2⟩))
    · exact .inr ⟨h, c1, c2⟩
theorem low_eq {K w h top : Nat} {v : Nat → Nat → Int} {p : S_Pyramid} {r : S_Rect} (hw : w ≤ 64) (hh : h ≤ 64) (hv : ∀ x y, x < w → y < h → v x y ≤ 66560) (htop : top ≤ 6)
    (hp : ∀ i, i ≤ top → p.Levels[i]? = some (mkL (wi w i) (wi h i) (vi w h v i))) :
    ∀ (n lev : Nat), lev < n → lev ≤ top → ∀ (x y : Nat) (bound : Int), x ≤ 200 → y ≤ 200 → ∃ m, m62f K n p lev x y r bound = some m ∧ MinB w h v bound m (below r lev x y) := by
  intro n
  induction n with
  | zero => intro lev hl; exact absurd hl (Nat.not_lt_zero _)
  | succ n ih =>
    intro lev hl hlt x y bound hx hy
    have hlev : lev ≤ 6 := by omega
    obtain ⟨hs1, hs64⟩ := pow_le hlev
    have ha := wi_le hw lev
    have hb := wi_le hh lev
    have hstep := m62_step (K := K) (self := m62f K n) (r := r) (bound := bound) (hp lev hlt) ha hb (shl_eq hlev) hs64 hx hy hlev
    have hbase : m62f K (n + 1) p lev x y r bound = m62b K (m62f K n) p lev x y r bound := rfl
    rw [hbase, hstep]
    clear hbase hstep
    have hblk : ∀ px py, below r lev x y px py → (x * 2 ^ lev ≤ px ∧ px < (x + 1) * 2 ^ lev) ∧ (y * 2 ^ lev ≤ py ∧ py < (y + 1) * 2 ^ lev) := fun px py hbl => ⟨div_bounds hs1 hbl.2.1, div_bounds hs1 hbl.2.2⟩
    split
    · rename_i hout
      refine ⟨bound, rfl, MinB.none_ fun px py hpx hpy hbl => ?_⟩
      obtain ⟨⟨b1, b2⟩, b3, b4⟩ := hblk px py hbl
      obtain ⟨⟨r1, r2, r3, r4⟩, d1, d2⟩ := hbl
      have l1 := lt_wi hpx lev
      have l2 := lt_wi hpy lev
      rw [d1] at l1
      rw [d2] at l2
      rcases hout with q | q | q | q | q | q | q
      · omega
      · omega
      · omega
      · omega
      · omega
      · omega
      · have hle := (vi_least hv lev x y l1 l2).2 px py hpx hpy d1 d2
        have : atL (wi w lev) (wi h lev) (vi w h v lev) x y = vi w h v lev x y := by unfold atL; rw [if_neg (by omega)]
        rw [this] at q
        exact Int.le_trans q hle
    · rename_i hout
      have o1 : x < wi w lev := Nat.lt_of_not_le fun h => hout (.inl h)
      have o2 : y < wi h lev := Nat.lt_of_not_le fun h => hout (.inr (.inl h))
      have hat : atL (wi w lev) (wi h lev) (vi w h v lev) x y = vi w h v lev x y := by unfold atL; rw [if_neg (by omega)]
      have hlst := vi_least hv lev x y o1 o2
      split
      · rename_i hin
        refine ⟨_, rfl, ⟨?_, fun px py hpx hpy hbl => ?_, .inr ?_⟩⟩
        · have : ¬ bound ≤ atL (wi w lev) (wi h lev) (vi w h v lev) x y := fun q => hout (.inr (.inr (.inr (.inr (.inr (.inr q))))))
          omega
        · rw [hat]; exact hlst.2 px py hpx hpy hbl.2.1 hbl.2.2
        · obtain ⟨px, py, hpx, hpy, d1, d2, e⟩ := hlst.1
          obtain ⟨b1, b2⟩ := div_bounds hs1 d1
          obtain ⟨b3, b4⟩ := div_bounds hs1 d2
          refine ⟨px, py, hpx, hpy, ⟨⟨?_, ?_, ?_, ?_⟩, d1, d2⟩, by rw [hat, e]⟩
          · have := hin.1; omega
          · have := hin.2.1; omega
          · have := hin.2.2.1; omega
          · have := hin.2.2.2; omega
      · rename_i hin
        cases lev with
        | zero =>
          exfalso
          apply hin
          have q1 : ¬ r.X1 < ((x * 2 ^ 0 : Nat) : Int) := fun h => hout (.inr (.inr (.inl h)))
          have q2 : ¬ (((x + 1) * 2 ^ 0 : Nat) : Int) ≤ r.X0 := fun h => hout (.inr (.inr (.inr (.inl h))))
          have q3 : ¬ r.Y1 < ((y * 2 ^ 0 : Nat) : Int) := fun h => hout (.inr (.inr (.inr (.inr (.inl h)))))
          have q4 : ¬ (((y + 1) * 2 ^ 0 : Nat) : Int) ≤ r.Y0 := fun h => hout (.inr (.inr (.inr (.inr (.inr (.inl h))))))
          simp only [Nat.pow_zero, Nat.mul_one] at q1 q2 q3 q4 ⊢
          refine ⟨?_, ?_, ?_, ?_⟩ <;> omega
        | succ l =>
          have e1 : ((l + 1 : Nat) : Int) - 1 = ((l : Nat) : Int) := by omega
          rw [e1]
          obtain ⟨m1, k1, M1⟩ := ih l (by omega) (by omega) (2 * x) (2 * y) bound (by omega) (by omega)
          obtain ⟨m2, k2, M2⟩ := ih l (by omega) (by omega) (2 * x + 1) (2 * y) m1 (by omega) (by omega)
          obtain ⟨m3, k3, M3⟩ := ih l (by omega) (by omega) (2 * x) (2 * y + 1) m2 (by omega) (by omega)
          obtain ⟨m4, k4, M4⟩ := ih l (by omega) (by omega) (2 * x + 1) (2 * y + 1) m3 (by omega) (by omega)
          refine ⟨m4, ?_, (((M1.or M2).or M3).or M4).iff fun px py => below_split⟩
          rw [k1, Option.bind_some, k2, Option.bind_some, k3, Option.bind_some, k4]
end Go.Proofs.YtobkigllalbkiaaV.M

/- Pyramids, in plain Lean: lists compared, least and greatest, 'Check' and 'Low'. -/
set_option linter.unusedVariables false
set_option linter.unusedSimpArgs false
namespace Go.Proofs.YtobkigllalbkiaaV.M
theorem cast_succ (i : Nat) : (i : Int) + 1 = ((i + 1 : Nat) : Int) := by push_cast; rfl
/-- slices.Equal of ints. -/
theorem m78_loop {K : Nat} {a b : List Int} (hl : a.length = b.length) (hs : a.length ≤ 1000000) : ∀ (k i : Nat), i ≤ a.length → a.length < i + k → (∀ j, j < i → a[j]? = b[j]?) → ∃ r, m78_l1 K a b k i = some r ∧ (r = true ↔ a = b) := by
  intro k
  induction k with
  | zero => intro i h1 h2; omega
  | succ k ih =>
    intro i h1 h2 hpre
    show ∃ r, m78_l1b K a b (m78_l1 K a b k) i = some r ∧ _
    unfold m78_l1b
    by_cases hi : i < a.length
    · have h3 : (i : Int) < (a.length : Int) := by omega
      have ga : a[i]? = some a[i] := List.getElem?_eq_getElem hi
      have gb : b[i]? = some (b[i]'(by omega)) := List.getElem?_eq_getElem (by omega)
      rw [decide_eq_true h3, cond_true, idx_nat ga, idx_nat gb]
      by_cases he : a[i] = b[i]'(by omega)
      · rw [show (a[i] != b[i]'(by omega)) = false by simp [he], cond_false, cast_succ, ck_in (by omega) (by omega)]
        refine ih (i + 1) (by omega) (by omega) fun j hj => ?_
        by_cases hji : j = i
        · subst hji; rw [ga, gb, he]
        · exact hpre j (by omega)
      · rw [show (a[i] != b[i]'(by omega)) = true by simp [he], cond_true]
        refine ⟨false, rfl, ?_⟩
        constructor
        · intro h; cases h
        · intro h; exfalso; apply he; subst h; rfl
    · have h3 : ¬ (i : Int) < (a.length : Int) := by omega
      rw [decide_eq_false h3, cond_false]
      refine ⟨true, rfl, ?_⟩
      simp only [true_iff]
      apply List.ext_getElem?
      intro j
      by_cases hj : j < i
      · exact hpre j hj
      · rw [List.getElem?_eq_none (by omega), List.getElem?_eq_none (by omega)]
theorem m78_eq {K : Nat} {a b : List Int} (hs : a.length ≤ 1000000) (hK : a.length < K) : ∃ r, m78 K a b = some r ∧ (r = true ↔ a = b) := by
  unfold m78
  by_cases hl : a.length = b.length
  · have : ((a.length : Int) != (b.length : Int)) = false := by simp [hl]
    rw [this, cond_false]
    exact m78_loop hl hs K 0 (by omega) (by omega) (fun j hj => by omega)
  · have : ((a.length : Int) != (b.length : Int)) = true := by simp; omega
    rw [this, cond_true]
    exact ⟨false, rfl, by constructor <;> intro h; cases h; exact absurd (congrArg List.length h) hl⟩
theorem level_ext {x y : S_Level} (h1 : x.W = y.W) (h2 : x.H = y.H) (h3 : x.Low = y.Low) : x = y := by cases x; cases y; simp_all
theorem m66_eq {K : Nat} {x y : S_Level} (hs : x.Low.length ≤ 1000000) (hK : x.Low.length < K) : ∃ r, m66 K x y = some r ∧ (r = true ↔ x = y) := by
  unfold m66
  by_cases h1 : x.W = y.W
  · by_cases h2 : x.H = y.H
    · obtain ⟨r, e, hr⟩ := m78_eq (K := K) (a := x.Low) (b := y.Low) hs hK
      refine ⟨r, by simp [h1, h2, e], ?_⟩
      rw [hr]
      exact ⟨fun h => level_ext h1 h2 h, fun h => by rw [h]⟩
    · exact ⟨false, by rw [show (x.W == y.W) = true by simp [h1], show (x.H == y.H) = false by simp [h2]]; rfl, by constructor <;> intro h; cases h; exact absurd (by rw [h]) h2⟩
  · exact ⟨false, by rw [show (x.W == y.W) = false by simp [h1]]; rfl, by constructor <;> intro h; cases h; exact absurd (by rw [h]) h1⟩
theorem m65_loop {K : Nat} {a b : List S_Level} (hl : a.length = b.length) (hs : a.length ≤ 1000000) (hin : ∀ x ∈ a, x.Low.length ≤ 1000000 ∧ x.Low.length < K) : ∀ (k i : Nat), i ≤ a.length → a.length < i + k → (∀ j, j < i → a[j]? = b[j]?) → ∃ r, m65_l1 K a b k i = some r ∧ (r = true ↔ a = b) := by
  intro k
  induction k with
  | zero => intro i h1 h2; omega
  | succ k ih =>
    intro i h1 h2 hpre
    show ∃ r, m65_l1b K a b (m65_l1 K a b k) i = some r ∧ _
    unfold m65_l1b
    by_cases hi : i < a.length
    · have h3 : (i : Int) < (a.length : Int) := by omega
      have ga : a[i]? = some a[i] := List.getElem?_eq_getElem hi
      have gb : b[i]? = some (b[i]'(by omega)) := List.getElem?_eq_getElem (by omega)
      obtain ⟨q1, q2⟩ := hin a[i] (List.getElem_mem hi)
      obtain ⟨r, e, hr⟩ := m66_eq (K := K) (x := a[i]) (y := b[i]'(by omega)) q1 q2
      rw [decide_eq_true h3, cond_true, idx_nat ga, idx_nat gb, e, Option.bind_some]
      cases r with
      | true =>
        have he := hr.1 rfl
        rw [Bool.not_true, cond_false, cast_succ, ck_in (by omega) (by omega)]
        refine ih (i + 1) (by omega) (by omega) fun j hj => ?_
        by_cases hji : j = i
        · subst hji; rw [ga, gb, he]
        · exact hpre j (by omega)
      | false =>
        rw [Bool.not_false, cond_true]
        refine ⟨false, rfl, ?_⟩
        constructor
        · intro h; cases h
        · intro h; exfalso
          have : (false : Bool) = true := hr.2 (by subst h; rfl)
          cases this
    · have h3 : ¬ (i : Int) < (a.length : Int) := by omega
      rw [decide_eq_false h3, cond_false]
      refine ⟨true, rfl, ?_⟩
      simp only [true_iff]
      apply List.ext_getElem?
      intro j
      by_cases hj : j < i
      · exact hpre j hj
      · rw [List.getElem?_eq_none (by omega), List.getElem?_eq_none (by omega)]
theorem m65_eq {K : Nat} {a b : List S_Level} (hs : a.length ≤ 1000000) (hK : a.length < K) (hin : ∀ x ∈ a, x.Low.length ≤ 1000000 ∧ x.Low.length < K) : ∃ r, m65 K a b = some r ∧ (r = true ↔ a = b) := by
  unfold m65
  by_cases hl : a.length = b.length
  · have : ((a.length : Int) != (b.length : Int)) = false := by simp [hl]
    rw [this, cond_false]
    exact m65_loop hl hs hin K 0 (by omega) (by omega) (fun j hj => by omega)
  · have : ((a.length : Int) != (b.length : Int)) = true := by simp; omega
    rw [this, cond_true]
    exact ⟨false, rfl, by constructor <;> intro h; cases h; exact absurd (congrArg List.length h) hl⟩
/-- slices.Min: the least. -/
theorem m63_loop {K : Nat} {a : List Int} (hs : a.length ≤ 1000000) : ∀ (k i : Nat) (m : Int), i ≤ a.length → a.length < i + k → m ∈ a → (∀ j, j < i → ∀ x, a[j]? = some x → m ≤ x) → ∃ r, m63_l1 K a k m i = some r ∧ r ∈ a ∧ ∀ x ∈ a, r ≤ x := by
  intro k
  induction k with
  | zero => intro i m h1 h2; omega
  | succ k ih =>
    intro i m h1 h2 hm hpre
    show ∃ r, m63_l1b K a (m63_l1 K a k) m i = some r ∧ _
    unfold m63_l1b
    by_cases hi : i < a.length
    · have h3 : (i : Int) < (a.length : Int) := by omega
      have ga : a[i]? = some a[i] := List.getElem?_eq_getElem hi
      rw [decide_eq_true h3, cond_true, idx_nat ga, cast_succ, ck_in (by omega) (by omega), mn_eq]
      refine ih (i + 1) _ (by omega) (by omega) ?_ fun j hj x hx => ?_
      · rcases (by omega : min m a[i] = m ∨ min m a[i] = a[i]) with h | h <;> rw [h]
        · exact hm
        · exact List.getElem_mem hi
      · by_cases hji : j = i
        · subst hji; rw [ga] at hx; cases hx; omega
        · have := hpre j (by omega) x hx; omega
    · have h3 : ¬ (i : Int) < (a.length : Int) := by omega
      rw [decide_eq_false h3, cond_false]
      refine ⟨m, rfl, hm, fun x hx => ?_⟩
      obtain ⟨j, hj, e⟩ := List.getElem_of_mem hx
      exact hpre j (by omega) x (by rw [List.getElem?_eq_getElem hj, e])
theorem m63_eq {K : Nat} {a : List Int} (h1 : 1 ≤ a.length) (hs : a.length ≤ 1000000) (hK : a.length < K) : ∃ r, m63 K a = some r ∧ r ∈ a ∧ ∀ x ∈ a, r ≤ x := by
  unfold m63
  have h3 : ¬ (a.length : Int) < 1 := by omega
  have ga : a[0]? = some (a[0]'(by omega)) := List.getElem?_eq_getElem (by omega)
  rw [decide_eq_false h3, cond_false, idx_in (i := 0) (by omega) ga]
  exact m63_loop hs K 1 _ h1 (by omega) (List.getElem_mem (by omega)) fun j hj x hx => by
    obtain rfl : j = 0 := by omega
    rw [ga] at hx; cases hx; omega
theorem m64_loop {K : Nat} {a : List Int} (hs : a.length ≤ 1000000) : ∀ (k i : Nat) (m : Int), i ≤ a.length → a.length < i + k → m ∈ a → (∀ j, j < i → ∀ x, a[j]? = some x → x ≤ m) → ∃ r, m64_l1 K a k m i = some r ∧ r ∈ a ∧ ∀ x ∈ a, x ≤ r := by
  intro k
  induction k with
  | zero => intro i m h1 h2; omega
  | succ k ih =>
    intro i m h1 h2 hm hpre
    show ∃ r, m64_l1b K a (m64_l1 K a k) m i = some r ∧ _
    unfold m64_l1b
    by_cases hi : i < a.length
    · have h3 : (i : Int) < (a.length : Int) := by omega
      have ga : a[i]? = some a[i] := List.getElem?_eq_getElem hi
      rw [decide_eq_true h3, cond_true, idx_nat ga, cast_succ, ck_in (by omega) (by omega), mx_eq]
      refine ih (i + 1) _ (by omega) (by omega) ?_ fun j hj x hx => ?_
      · rcases (by omega : max m a[i] = m ∨ max m a[i] = a[i]) with h | h <;> rw [h]
        · exact hm
        · exact List.getElem_mem hi
      · by_cases hji : j = i
        · subst hji; rw [ga] at hx; cases hx; omega
        · have := hpre j (by omega) x hx; omega
    · have h3 : ¬ (i : Int) < (a.length : Int) := by omega
      rw [decide_eq_false h3, cond_false]
      refine ⟨m, rfl, hm, fun x hx => ?_⟩
      obtain ⟨j, hj, e⟩ := List.getElem_of_mem hx
      exact hpre j (by omega) x (by rw [List.getElem?_eq_getElem hj, e])
theorem m64_eq {K : Nat} {a : List Int} (h1 : 1 ≤ a.length) (hs : a.length ≤ 1000000) (hK : a.length < K) : ∃ r, m64 K a = some r ∧ r ∈ a ∧ ∀ x ∈ a, x ≤ r := by
  unfold m64
  have h3 : ¬ (a.length : Int) < 1 := by omega
  have ga : a[0]? = some (a[0]'(by omega)) := List.getElem?_eq_getElem (by omega)
  rw [decide_eq_false h3, cond_false, idx_in (i := 0) (by omega) ga]
  exact m64_loop hs K 1 _ h1 (by omega) (List.getElem_mem (by omega)) fun j hj x hx => by
    obtain rfl : j = 0 := by omega
    rw [ga] at hx; cases hx; omega
end Go.Proofs.YtobkigllalbkiaaV.M

/- Pyramids, in plain Lean: 'Check' and 'Low' of a built one. -/
set_option linter.unusedVariables false
set_option linter.unusedSimpArgs false
namespace Go.Proofs.YtobkigllalbkiaaV.M
theorem MinB.iff' {w h : Nat} {v : Nat → Nat → Int} {bound m : Int} {S1 S2 : Nat → Nat → Prop} (h1 : MinB w h v bound m S1) (hs : ∀ px py, px < w → py < h → (S1 px py ↔ S2 px py)) : MinB w h v bound m S2 :=
  ⟨h1.le, fun px py hx hy h => h1.all px py hx hy ((hs px py hx hy).2 h), h1.at_.imp id fun ⟨px, py, hx, hy, h, e⟩ => ⟨px, py, hx, hy, (hs px py hx hy).1 h, e⟩⟩
theorem mkL_mem {w h : Nat} {v : Nat → Nat → Int} {a : Int} : a ∈ (mkL w h v).Low ↔ ∃ px py, px < w ∧ py < h ∧ a = v px py := by
  simp only [mkL, List.mem_map, List.mem_range]
  constructor
  · rintro ⟨i, hi, rfl⟩
    have hw : 0 < w := by
      rcases Nat.eq_zero_or_pos w with h0 | h0
      · subst h0; simp at hi
      · exact h0
    exact ⟨i % w, i / w, Nat.mod_lt _ hw, Nat.div_lt_of_lt_mul hi, rfl⟩
  · rintro ⟨px, py, hx, hy, rfl⟩
    exact ⟨py * w + px, place_lt hx hy, by rw [place_mod hx, place_div hx]⟩
theorem mkL_len (w h : Nat) (v : Nat → Nat → Int) : (mkL w h v).Low.length = w * h := by simp [mkL]
structure Dom (w h : Nat) (v : Nat → Nat → Int) : Prop where
  w1 : 1 ≤ w
  w64 : w ≤ 64
  h1 : 1 ≤ h
  h64 : h ≤ 64
  lo : ∀ x y, x < w → y < h → -2048 ≤ v x y
  hi : ∀ x y, x < w → y < h → v x y ≤ 66560
theorem Dom.prod {w h : Nat} {v : Nat → Nat → Int} (d : Dom w h v) : 1 ≤ w * h ∧ w * h ≤ 4096 :=
  ⟨Nat.mul_pos d.w1 d.h1, Nat.mul_le_mul d.w64 d.h64⟩
theorem pyr_len {w h : Nat} {v : Nat → Nat → Int} : (pyr w h v).length = (lvls 6 w h v).length + 1 := by simp [pyr]
theorem pyr_mem {w h : Nat} {v : Nat → Nat → Int} (d : Dom w h v) {l : S_Level} (hl : l ∈ pyr w h v) : l.Low.length ≤ 4096 := by
  obtain ⟨i, hi, rfl⟩ := List.getElem_of_mem hl
  rw [pyr_len] at hi
  have := pyr_get (w := w) (h := h) (v := v) (i := i) (by omega)
  rw [List.getElem?_eq_getElem (by rw [pyr_len]; omega)] at this
  rw [Option.some.inj this, mkL_len]
  exact Nat.mul_le_mul (wi_le d.w64 i) (wi_le d.h64 i)
/-- The tests of 'Check' of a first level that may be. -/
theorem m22_first {K w h : Nat} {v : Nat → Nat → Int} (hK : 10000 ≤ K) (d : Dom w h v) {p : S_Pyramid} (hp : p.Levels[0]? = some (mkL w h v)) :
    ∃ b, m65 K (pyr w h v) p.Levels = some b ∧ (b = true ↔ pyr w h v = p.Levels) ∧ m22 K p = some (if b then 0 else 8) := by
  obtain ⟨p1, p2⟩ := d.prod
  have hlen : 0 < p.Levels.length := by
    have := (List.getElem?_eq_some_iff.1 hp).1
    omega
  have hll := lvls_len 6 w h v
  obtain ⟨b, e, hb⟩ := m65_eq (K := K) (a := pyr w h v) (b := p.Levels) (by rw [pyr_len]; omega) (by rw [pyr_len]; omega) fun x hx => by have := pyr_mem d hx; omega
  refine ⟨b, e, hb, ?_⟩
  unfold m22
  have c0 : ((p.Levels.length : Int) == 0) = false := by simp; intro h; rw [h] at hlen; simp at hlen
  have hw1 := d.w1
  have hw64 := d.w64
  have hh1 := d.h1
  have hh64 := d.h64
  have hW : (mkL w h v).W = (w : Int) := rfl
  have hH : (mkL w h v).H = (h : Int) := rfl
  have c1 : ¬ mn (w : Int) (h : Int) < 1 := by rw [mn_eq]; omega
  have c2 : ¬ 64 < mx (w : Int) (h : Int) := by rw [mx_eq]; omega
  have e1 : (w : Int) * (h : Int) = ((w * h : Nat) : Int) := by push_cast; rfl
  have c3 : (((mkL w h v).Low.length : Int) != ((w * h : Nat) : Int)) = false := by rw [mkL_len]; simp
  rw [c0, cond_false, idx_in (i := 0) (by omega) hp, hW, hH, decide_eq_false c1, cond_false, decide_eq_false c2, Option.bind_some, cond_false, e1, ck_in (by omega) (by omega), c3, Option.bind_some, cond_false]
  obtain ⟨mi, k1, q1, _⟩ := m63_eq (K := K) (a := (mkL w h v).Low) (by rw [mkL_len]; omega) (by rw [mkL_len]; omega) (by rw [mkL_len]; omega)
  obtain ⟨ma, k2, q2, _⟩ := m64_eq (K := K) (a := (mkL w h v).Low) (by rw [mkL_len]; omega) (by rw [mkL_len]; omega) (by rw [mkL_len]; omega)
  obtain ⟨x1, y1, g1, g2, rfl⟩ := mkL_mem.1 q1
  obtain ⟨x2, y2, g3, g4, rfl⟩ := mkL_mem.1 q2
  have r1 : ¬ v x1 y1 < -2048 := by have := d.lo x1 y1 g1 g2; omega
  have r2 : ¬ 66560 < v x2 y2 := by have := d.hi x2 y2 g3 g4; omega
  rw [k1, Option.bind_some, decide_eq_false r1, cond_false, k2, Option.bind_some, decide_eq_false r2, Option.bind_some, cond_false, m58_eq (by omega) hw64 hh64 hw1 hh1, Option.bind_some]
  show ((m65 K (pyr w h v) p.Levels).bind fun v52 => some (!v52)).bind _ = _
  rw [e]
  cases b <;> rfl
theorem m22_pyr {K w h : Nat} {v : Nat → Nat → Int} (hK : 10000 ≤ K) (d : Dom w h v) : m22 K ⟨pyr w h v⟩ = some 0 := by
  obtain ⟨b, _, hb, e⟩ := m22_first hK d (p := ⟨pyr w h v⟩) rfl
  rw [e, hb.2 rfl]; rfl
/-- May a rectangle be asked? -/
def okR (w h : Nat) (r : S_Rect) : Prop := 0 ≤ r.X0 ∧ 0 ≤ r.Y0 ∧ r.X0 ≤ r.X1 ∧ r.X1 < w ∧ r.Y0 ≤ r.Y1 ∧ r.Y1 < h
theorem m17_pyr {K w h : Nat} {v : Nat → Nat → Int} (hK : 10000 ≤ K) (d : Dom w h v) (r : S_Rect) :
    (¬ okR w h r ∧ m17 K ⟨pyr w h v⟩ r = some (0, 2)) ∨ (okR w h r ∧ ∃ m, m17 K ⟨pyr w h v⟩ r = some (m, 0) ∧ MinB w h v 66560 m (inR r)) := by
  have h22 := m22_pyr hK d
  have hW : (mkL w h v).W = (w : Int) := rfl
  have hH : (mkL w h v).H = (h : Int) := rfl
  have g0 : (pyr w h v)[0]? = some (mkL w h v) := rfl
  unfold m17
  rw [h22, Option.bind_some, show ((0 : Int) != 0) = false from rfl, cond_false, idx_in (i := 0) (by omega) g0, hW, hH]
  by_cases c1 : mn r.X0 r.Y0 < 0
  · refine .inl ⟨fun hr => ?_, by rw [decide_eq_true c1]; rfl⟩
    rw [mn_eq] at c1; have := hr.1; have := hr.2.1; omega
  by_cases c2 : r.X1 < r.X0
  · exact .inl ⟨fun hr => by have := hr.2.2.1; omega, by rw [decide_eq_false c1, decide_eq_true c2]; rfl⟩
  by_cases c3 : (w : Int) ≤ r.X1
  · exact .inl ⟨fun hr => by have := hr.2.2.2.1; omega, by rw [decide_eq_false c1, decide_eq_false c2, decide_eq_true c3]; rfl⟩
  by_cases c4 : r.Y1 < r.Y0
  · exact .inl ⟨fun hr => by have := hr.2.2.2.2.1; omega, by rw [decide_eq_false c1, decide_eq_false c2, decide_eq_false c3, decide_eq_true c4]; rfl⟩
  by_cases c5 : (h : Int) ≤ r.Y1
  · exact .inl ⟨fun hr => by have := hr.2.2.2.2.2; omega, by rw [decide_eq_false c1, decide_eq_false c2, decide_eq_false c3, decide_eq_false c4, decide_eq_true c5]; rfl⟩
  have hll := lvls_len 6 w h v
  have hlast := (lvls_last 6 w h v (by have := d.w64; simpa using this) (by have := d.h64; simpa using this) d.w1 d.h1 (lvls 6 w h v).length (Nat.le_refl _)).2 rfl
  obtain ⟨m, em, hm⟩ := low_eq (K := K) (top := (lvls 6 w h v).length) (p := ⟨pyr w h v⟩) (r := r) d.w64 d.h64 d.hi hll (fun i hi => pyr_get hi) K (lvls 6 w h v).length (by omega) (Nat.le_refl _) 0 0 66560 (by omega) (by omega)
  have e1 : (((⟨pyr w h v⟩ : S_Pyramid).Levels.length : Nat) : Int) - 1 = ((lvls 6 w h v).length : Int) := by
    show ((pyr w h v).length : Int) - 1 = _
    rw [pyr_len]; omega
  refine .inr ⟨⟨by rw [mn_eq] at c1; omega, by rw [mn_eq] at c1; omega, by omega, by omega, by omega, by omega⟩, m, ?_, hm.iff' fun px py hx hy => ?_⟩
  · rw [decide_eq_false c1, cond_false, decide_eq_false c2, Option.bind_some, cond_false, decide_eq_false c3, Option.bind_some, cond_false, decide_eq_false c4, Option.bind_some, cond_false, decide_eq_false c5, Option.bind_some, cond_false, e1, ck_in (by omega) (by omega)]
    have : m62 K ⟨pyr w h v⟩ ((lvls 6 w h v).length : Int) 0 0 r 66560 = some m := em
    rw [this]; rfl
  · unfold below
    have a1 := lt_wi hx (lvls 6 w h v).length
    have a2 := lt_wi hy (lvls 6 w h v).length
    rw [hlast.1] at a1
    rw [hlast.2] at a2
    exact ⟨fun q => q.1, fun q => ⟨q, Nat.lt_one_iff.1 a1, Nat.lt_one_iff.1 a2⟩⟩
end Go.Proofs.YtobkigllalbkiaaV.M

/- A plain Lean function that answers as the Go function does (none: not told), and the proof that a call answers so. Written by program. -/
set_option linter.unusedVariables false
namespace Go.Proofs.YtobkigllalbkiaaV.M
open Go.RowKit Go.Proofs.YtobkigllalbkiaaV
/-- diorama/frame.deep -/
def m70 (K : Nat) (a0 : Int) : Option (Bool) :=
 ((bif (decide ((-1024) ≤ a0)) then some (decide (a0 ≤ 66560)) else some false).bind fun b1 => some b1)
set_option maxRecDepth 100000 in
set_option maxHeartbeats 4000000 in
theorem c70 (ok : Nat → Prop) (K : Nat) (w : World) (a0 : Int)  (res : Bool) (hm : m70 K a0 = some res) :
  Calls Try.prog 70 #[.int .i64 a0] w (fun e w' => e = .returned (tup [.bool res]) ∧ Sep ok w w' [] []) := by
 refine calls_W (args := [.int .i64 a0]) Try.func70 rfl Try.ntmps70 Try.results70 rfl fun r hr => ?_
 obtain ⟨r1, rfl⟩ := regen (r := r) [(0, .int .i64 a0)] ⟨hr 0 _ rfl, trivial⟩
 have H : Sep ok w w [] [] := Sep.start ok w
 unfold m70 at hm
 refine W_seq ?_
 refine W_region ?_
 refine RL_pure (by exact wn0 rfl) (by rfl) (by rfl) (x_assign (v := .bool false) (by rfl)) ?_
 refine RL_nil ?_
 refine W_seq ?_
 refine W_region ?_
 refine RL_pure (by exact wn0 rfl) (by rfl) (by rfl) (x_move (v := .int .i64 a0) (by rfl)) ?_
 refine RL_pure (by exact wn0 rfl) (by rfl) (by rfl) (x_geq (by rfl) (by rfl)) ?_
 refine RL_pure (by exact wn0 rfl) (by rfl) (by rfl) (x_move (v := .bool (decide ((-1024) ≤ a0))) (by rfl)) ?_
 obtain ⟨b1, hmS, hm⟩ := bind_some hm
 refine RL_cut 3 (fun r' w' => Agr [(8, .bool b1)] r' ∧ Sep ok w w' [] []) ?_ ?_
 ·cases hbS : (decide ((-1024) ≤ a0))
  ·have hm := cond_f hbS hmS
   refine RL_cons (OpR_off (by exact wn2 rfl rfl rfl rfl) (by rfl) (by rfl) ?_)
   refine RL_cons (OpR_off (by exact wn2 rfl rfl rfl rfl) (by rfl) (by rfl) ?_)
   refine RL_pure (by exact wn0 rfl) (by rfl) (by rfl) (x_pick_f (v := .bool false) (by rfl) (by rfl)) ?_
   refine RL_nil ?_
   exact ⟨⟨congrArg Value.bool (Option.some.inj hm), trivial⟩, H⟩
  ·have hm := cond_t hbS hmS
   refine RL_pure (by exact wn1 rfl rfl rfl rfl) (by rfl) (by rfl) (x_move (v := .int .i64 a0) (by rfl)) ?_
   refine RL_pure (by exact wn1 rfl rfl rfl rfl) (by rfl) (by rfl) (x_leq (by rfl) (by rfl)) ?_
   refine RL_pure (by exact wn0 rfl) (by rfl) (by rfl) (x_pick_t (v := .bool (decide (a0 ≤ 66560))) (by rfl) (by rfl)) ?_
   refine RL_nil ?_
   exact ⟨⟨congrArg Value.bool (Option.some.inj hm), trivial⟩, H⟩
 ·rintro r' w' ⟨hA, H⟩
  obtain ⟨r2, rfl⟩ := regen _ hA; clear hA
  obtain ⟨w3, rfl⟩ : ∃ W : World, W = w' := ⟨_, rfl⟩
  show RL _ _ _ _ _ _ _
  refine RL_pure (by exact wn0 rfl) (by rfl) (by rfl) (x_assign (v := .bool b1) (by rfl)) ?_
  refine RL_nil ?_
  refine W_ret ?_
  obtain rfl := Option.some.inj hm
  exact ⟨[.bool b1], (.tmp (by rfl) rfl), rfl, H.none_⟩
end Go.Proofs.YtobkigllalbkiaaV.M

/- A plain Lean function that answers as the Go function does (none: not told), and the proof that a call answers so. Written by program. -/
set_option linter.unusedVariables false
namespace Go.Proofs.YtobkigllalbkiaaV.M
open Go.RowKit Go.Proofs.YtobkigllalbkiaaV
/-- diorama/frame.somebody -/
def m75 (K : Nat) (a0 : Int) (a1 : Int) (a2 : Int) : Option (Bool) :=
 ((m70 K a0).bind fun v2 => ((bif v2 then some (decide (0 ≤ a1)) else some false).bind fun b4 => ((bif b4 then some (decide (a1 < 256)) else some false).bind fun b7 => ((bif b7 then some (decide (0 ≤ a2)) else some false).bind fun b10 => ((bif b10 then some (decide (a2 < 64)) else some false).bind fun b13 => some b13)))))
set_option maxRecDepth 100000 in
set_option maxHeartbeats 4000000 in
theorem c75 (ok : Nat → Prop) (K : Nat) (w : World) (a0 : Int) (a1 : Int) (a2 : Int)  (res : Bool) (hm : m75 K a0 a1 a2 = some res) :
  Calls Try.prog 75 #[.int .i64 a0, .int .i64 a1, .int .i64 a2] w (fun e w' => e = .returned (tup [.bool res]) ∧ Sep ok w w' [] []) := by
 refine calls_W (args := [.int .i64 a0, .int .i64 a1, .int .i64 a2]) Try.func75 rfl Try.ntmps75 Try.results75 rfl fun r hr => ?_
 obtain ⟨r1, rfl⟩ := regen (r := r) [(0, .int .i64 a0), (1, .int .i64 a1), (2, .int .i64 a2)] ⟨hr 0 _ rfl, hr 1 _ rfl, hr 2 _ rfl, trivial⟩
 have H : Sep ok w w [] [] := Sep.start ok w
 unfold m75 at hm
 refine W_seq ?_
 refine W_region ?_
 refine RL_pure (by exact wn0 rfl) (by rfl) (by rfl) (x_assign (v := .bool false) (by rfl)) ?_
 refine RL_nil ?_
 refine W_seq ?_
 refine W_region ?_
 refine RL_pure (by exact wn0 rfl) (by rfl) (by rfl) (x_move (v := .int .i64 a0) (by rfl)) ?_
 obtain ⟨v2, hv1, hm⟩ := bind_some hm
 refine RL_cons (O_call (by exact wn0 rfl) (by rfl) (by rfl) (x_callL (by rfl) (args := [.int .i64 a0]) (by rfl) (cf70 _ _)) (c70 (fun _ => True) K w a0  v2 hv1) ?_)
 rintro e w3 ⟨rfl, H2⟩
 have H : Sep ok w w3 [] [] := H.below H2.base
 clear H2
 refine ⟨_, rfl, ?_⟩
 show RL _ _ _ _ _ _ _
 refine RL_pure (by exact wn0 rfl) (by rfl) (by rfl) (x_move (v := .bool v2) (by rfl)) ?_
 obtain ⟨b4, hmS, hm⟩ := bind_some hm
 refine RL_cut 3 (fun r' w' => Agr [(12, .bool b4), (1, .int .i64 a1), (2, .int .i64 a2)] r' ∧ Sep ok w w' [] []) ?_ ?_
 ·cases hbS : v2
  ·have hm := cond_f hbS hmS
   refine RL_cons (OpR_off (by exact wn2 rfl rfl rfl rfl) (by rfl) (by rfl) ?_)
   refine RL_cons (OpR_off (by exact wn2 rfl rfl rfl rfl) (by rfl) (by rfl) ?_)
   refine RL_pure (by exact wn0 rfl) (by rfl) (by rfl) (x_pick_f (v := .bool false) (by rfl) (by rfl)) ?_
   refine RL_nil ?_
   exact ⟨⟨congrArg Value.bool (Option.some.inj hm), rfl, rfl, trivial⟩, H⟩
  ·have hm := cond_t hbS hmS
   refine RL_pure (by exact wn1 rfl rfl rfl rfl) (by rfl) (by rfl) (x_move (v := .int .i64 a1) (by rfl)) ?_
   refine RL_pure (by exact wn1 rfl rfl rfl rfl) (by rfl) (by rfl) (x_geq (by rfl) (by rfl)) ?_
   refine RL_pure (by exact wn0 rfl) (by rfl) (by rfl) (x_pick_t (v := .bool (decide (0 ≤ a1))) (by rfl) (by rfl)) ?_
   refine RL_nil ?_
   exact ⟨⟨congrArg Value.bool (Option.some.inj hm), rfl, rfl, trivial⟩, H⟩
 ·rintro r' w' ⟨hA, H⟩
  obtain ⟨r5, rfl⟩ := regen _ hA; clear hA
  obtain ⟨w6, rfl⟩ : ∃ W : World, W = w' := ⟨_, rfl⟩
  show RL _ _ _ _ _ _ _
  refine RL_pure (by exact wn0 rfl) (by rfl) (by rfl) (x_move (v := .bool b4) (by rfl)) ?_
  obtain ⟨b7, hmS, hm⟩ := bind_some hm
  refine RL_cut 3 (fun r' w' => Agr [(16, .bool b7), (2, .int .i64 a2)] r' ∧ Sep ok w w' [] []) ?_ ?_
  ·cases hbS : b4
   ·have hm := cond_f hbS hmS
    refine RL_cons (OpR_off (by exact wn2 rfl rfl rfl rfl) (by rfl) (by rfl) ?_)
    refine RL_cons (OpR_off (by exact wn2 rfl rfl rfl rfl) (by rfl) (by rfl) ?_)
    refine RL_pure (by exact wn0 rfl) (by rfl) (by rfl) (x_pick_f (v := .bool false) (by rfl) (by rfl)) ?_
    refine RL_nil ?_
    exact ⟨⟨congrArg Value.bool (Option.some.inj hm), rfl, trivial⟩, H⟩
   ·have hm := cond_t hbS hmS
    refine RL_pure (by exact wn1 rfl rfl rfl rfl) (by rfl) (by rfl) (x_move (v := .int .i64 a1) (by rfl)) ?_
    refine RL_pure (by exact wn1 rfl rfl rfl rfl) (by rfl) (by rfl) (x_lss (by rfl) (by rfl)) ?_
    refine RL_pure (by exact wn0 rfl) (by rfl) (by rfl) (x_pick_t (v := .bool (decide (a1 < 256))) (by rfl) (by rfl)) ?_
    refine RL_nil ?_
    exact ⟨⟨congrArg Value.bool (Option.some.inj hm), rfl, trivial⟩, H⟩
  ·rintro r' w' ⟨hA, H⟩
   obtain ⟨r8, rfl⟩ := regen _ hA; clear hA
   obtain ⟨w9, rfl⟩ : ∃ W : World, W = w' := ⟨_, rfl⟩
   show RL _ _ _ _ _ _ _
   refine RL_pure (by exact wn0 rfl) (by rfl) (by rfl) (x_move (v := .bool b7) (by rfl)) ?_
   obtain ⟨b10, hmS, hm⟩ := bind_some hm
   refine RL_cut 3 (fun r' w' => Agr [(20, .bool b10), (2, .int .i64 a2)] r' ∧ Sep ok w w' [] []) ?_ ?_
   ·cases hbS : b7
    ·have hm := cond_f hbS hmS
     refine RL_cons (OpR_off (by exact wn2 rfl rfl rfl rfl) (by rfl) (by rfl) ?_)
     refine RL_cons (OpR_off (by exact wn2 rfl rfl rfl rfl) (by rfl) (by rfl) ?_)
     refine RL_pure (by exact wn0 rfl) (by rfl) (by rfl) (x_pick_f (v := .bool false) (by rfl) (by rfl)) ?_
     refine RL_nil ?_
     exact ⟨⟨congrArg Value.bool (Option.some.inj hm), rfl, trivial⟩, H⟩
    ·have hm := cond_t hbS hmS
     refine RL_pure (by exact wn1 rfl rfl rfl rfl) (by rfl) (by rfl) (x_move (v := .int .i64 a2) (by rfl)) ?_
     refine RL_pure (by exact wn1 rfl rfl rfl rfl) (by rfl) (by rfl) (x_geq (by rfl) (by rfl)) ?_
     refine RL_pure (by exact wn0 rfl) (by rfl) (by rfl) (x_pick_t (v := .bool (decide (0 ≤ a2))) (by rfl) (by rfl)) ?_
     refine RL_nil ?_
     exact ⟨⟨congrArg Value.bool (Option.some.inj hm), rfl, trivial⟩, H⟩
   ·rintro r' w' ⟨hA, H⟩
    obtain ⟨r11, rfl⟩ := regen _ hA; clear hA
    obtain ⟨w12, rfl⟩ : ∃ W : World, W = w' := ⟨_, rfl⟩
    show RL _ _ _ _ _ _ _
    refine RL_pure (by exact wn0 rfl) (by rfl) (by rfl) (x_move (v := .bool b10) (by rfl)) ?_
    obtain ⟨b13, hmS, hm⟩ := bind_some hm
    refine RL_cut 3 (fun r' w' => Agr [(24, .bool b13)] r' ∧ Sep ok w w' [] []) ?_ ?_
    ·cases hbS : b10
     ·have hm := cond_f hbS hmS
      refine RL_cons (OpR_off (by exact wn2 rfl rfl rfl rfl) (by rfl) (by rfl) ?_)
      refine RL_cons (OpR_off (by exact wn2 rfl rfl rfl rfl) (by rfl) (by rfl) ?_)
      refine RL_pure (by exact wn0 rfl) (by rfl) (by rfl) (x_pick_f (v := .bool false) (by rfl) (by rfl)) ?_
      refine RL_nil ?_
      exact ⟨⟨congrArg Value.bool (Option.some.inj hm), trivial⟩, H⟩
     ·have hm := cond_t hbS hmS
      refine RL_pure (by exact wn1 rfl rfl rfl rfl) (by rfl) (by rfl) (x_move (v := .int .i64 a2) (by rfl)) ?_
      refine RL_pure (by exact wn1 rfl rfl rfl rfl) (by rfl) (by rfl) (x_lss (by rfl) (by rfl)) ?_
      refine RL_pure (by exact wn0 rfl) (by rfl) (by rfl) (x_pick_t (v := .bool (decide (a2 < 64))) (by rfl) (by rfl)) ?_
      refine RL_nil ?_
      exact ⟨⟨congrArg Value.bool (Option.some.inj hm), trivial⟩, H⟩
    ·rintro r' w' ⟨hA, H⟩
     obtain ⟨r14, rfl⟩ := regen _ hA; clear hA
     obtain ⟨w15, rfl⟩ : ∃ W : World, W = w' := ⟨_, rfl⟩
     show RL _ _ _ _ _ _ _
     refine RL_pure (by exact wn0 rfl) (by rfl) (by rfl) (x_assign (v := .bool b13) (by rfl)) ?_
     refine RL_nil ?_
     refine W_ret ?_
     obtain rfl := Option.some.inj hm
     exact ⟨[.bool b13], (.tmp (by rfl) rfl), rfl, H.none_⟩
end Go.Proofs.YtobkigllalbkiaaV.M

/- A plain Lean function that answers as the Go function does (none: not told), and the proof that a call answers so. Written by program. -/
set_option linter.unusedVariables false
namespace Go.Proofs.YtobkigllalbkiaaV.M
open Go.RowKit Go.Proofs.YtobkigllalbkiaaV
def m33_l1b (K : Nat) (a0 : S_Frame) (rec1 : Int → Option (Int)) (y55_1 : Int) : Option (Int) :=
 (bif (decide (y55_1 < (a0.Depth.length : Int))) then (idx a0.Depth y55_1 fun el34 => ((bif (el34 == (-2048)) then (idx a0.Item y55_1 fun el42 => some (el42 == (-1))) else some false).bind fun b41 => ((bif b41 then (idx a0.Tri y55_1 fun el52 => some (el52 == (-1))) else some false).bind fun b51 => ((bif (!b51) then (idx a0.Item y55_1 fun el63 => (idx a0.Tri y55_1 fun el70 => ((m75 K el34 el63 el70).bind fun v78 => some (!v78)))) else some false).bind fun b62 => (bif b62 then some 8 else (ck (y55_1 + 1) fun x82 => (rec1 x82))))))) else some 0)
def m33_l1 (K : Nat) (a0 : S_Frame) : Nat → Int → Option (Int)
 | 0 => fun _ => none
 | k + 1 => m33_l1b K a0 (m33_l1 K a0 k)
/-- diorama/frame.Check -/
def m33 (K : Nat) (a0 : S_Frame) : Option (Int) :=
 ((bif (decide ((mn a0.W a0.H) < 1)) then some true else some (decide (64 < (mx a0.W a0.H)))).bind fun b19 => (bif b19 then some 8 else (ck (a0.W * a0.H) fun x22 => ((bif ((a0.Color.length : Int) != x22) then some true else some ((a0.Depth.length : Int) != x22)).bind fun b23 => ((bif b23 then some true else some ((a0.Item.length : Int) != x22)).bind fun b26 => ((bif b26 then some true else some ((a0.Tri.length : Int) != x22)).bind fun b29 => (bif b29 then some 8 else m33_l1 K a0 K 0)))))))
set_option maxRecDepth 100000 in
set_option maxHeartbeats 4000000 in
theorem c33 (ok : Nat → Prop) (K : Nat) (w : World) (a0 : S_Frame) (A1 : Option Addr) (cp2 : Nat) (A5 : Option Addr) (cp6 : Nat) (A9 : Option Addr) (cp10 : Nat) (A13 : Option Addr) (cp14 : Nat) (hR3 : Rd k_Ar4_Int w ok A1 cp2 a0.Color) (hR7 : Rd kInt w ok A5 cp6 a0.Depth) (hR11 : Rd kInt w ok A9 cp10 a0.Item) (hR15 : Rd kInt w ok A13 cp14 a0.Tri) (res : Int) (hm : m33 K a0 = some res) :
  Calls Try.prog 33 #[.agg #[.int .i64 a0.W, .int .i64 a0.H, .slice A1 a0.Color.length cp2, .slice A5 a0.Depth.length cp6, .slice A9 a0.Item.length cp10, .slice A13 a0.Tri.length cp14]] w (fun e w' => e = .returned (tup [.int .i64 res]) ∧ Sep ok w w' [] []) := by
 refine calls_W (args := [.agg #[.int .i64 a0.W, .int .i64 a0.H, .slice A1 a0.Color.length cp2, .slice A5 a0.Depth.length cp6, .slice A9 a0.Item.length cp10, .slice A13 a0.Tri.length cp14]]) Try.func33 rfl Try.ntmps33 Try.results33 rfl fun r hr => ?_
 obtain ⟨r1, rfl⟩ := regen (r := r) [(0, .agg #[.int .i64 a0.W, .int .i64 a0.H, .slice A1 a0.Color.length cp2, .slice A5 a0.Depth.length cp6, .slice A9 a0.Item.length cp10, .slice A13 a0.Tri.length cp14])] ⟨hr 0 _ rfl, trivial⟩
 have H : Sep ok w w [] [RE.rd k_Ar4_Int A1 cp2 a0.Color, RE.rd kInt A5 cp6 a0.Depth, RE.rd kInt A9 cp10 a0.Item, RE.rd kInt A13 cp14 a0.Tri] := Sep.arg (Sep.arg (Sep.arg (Sep.arg (Sep.start ok w) (re := RE.rd k_Ar4_Int A1 cp2 a0.Color) rfl rfl hR3) (re := RE.rd kInt A5 cp6 a0.Depth) rfl rfl hR7) (re := RE.rd kInt A9 cp10 a0.Item) rfl rfl hR11) (re := RE.rd kInt A13 cp14 a0.Tri) rfl rfl hR15
 unfold m33 at hm
 refine W_seq ?_
 refine W_region ?_
 refine RL_cons (O_box (by exact wn0 rfl) (by rfl) (by rfl) (by rfl) H (fun w18 b17 (H : Sep ok w w18 [.blk b17 25 [.int .i64 a0.W, .int .i64 a0.H, .slice A1 a0.Color.length cp2, .slice A5 a0.Depth.length cp6, .slice A9 a0.Item.length cp10, .slice A13 a0.Tri.length cp14]] [RE.rd k_Ar4_Int A1 cp2 a0.Color, RE.rd kInt A5 cp6 a0.Depth, RE.rd kInt A9 cp10 a0.Item, RE.rd kInt A13 cp14 a0.Tri]) => ?_))
 refine RL_pure (by exact wn0 rfl) (by rfl) (by rfl) (x_assign (v := .int .i64 0) (by rfl)) ?_
 refine RL_nil ?_
 refine W_seq ?_
 refine W_seq ?_
 refine W_region ?_
 refine RL_pure (by exact wn0 rfl) (by rfl) (by rfl) (x_fieldAddr fo25_0 (by rfl)) ?_
 refine RL_pure (by exact wn0 rfl) (by rfl) (by rfl) (x_load (j := 0) (v := .int .i64 a0.W) sc3 (by rfl) (H.cells (i := 0) (by rfl)) (by rfl)) ?_
 refine RL_pure (by exact wn0 rfl) (by rfl) (by rfl) (x_fieldAddr fo25_1 (by rfl)) ?_
 refine RL_pure (by exact wn0 rfl) (by rfl) (by rfl) (x_load (j := 1) (v := .int .i64 a0.H) sc3 (by rfl) (H.cells (i := 0) (by rfl)) (by rfl)) ?_
 refine RL_pure (by exact wn0 rfl) (by rfl) (by rfl) (x_min2 (by rfl) (by rfl)) ?_
 refine RL_pure (by exact wn0 rfl) (by rfl) (by rfl) (x_lss (by rfl) (by rfl)) ?_
 refine RL_pure (by exact wn0 rfl) (by rfl) (by rfl) (x_move (v := .bool (decide ((mn a0.W a0.H) < 1))) (by rfl)) ?_
 obtain ⟨b19, hmS, hm⟩ := bind_some hm
 refine RL_cut 7 (fun r' w' => Agr [(20, .bool b19), (1, .pointer (some ⟨b17, 0, none⟩))] r' ∧ Sep ok w w' [.blk b17 25 [.int .i64 a0.W, .int .i64 a0.H, .slice A1 a0.Color.length cp2, .slice A5 a0.Depth.length cp6, .slice A9 a0.Item.length cp10, .slice A13 a0.Tri.length cp14]] [RE.rd k_Ar4_Int A1 cp2 a0.Color, RE.rd kInt A5 cp6 a0.Depth, RE.rd kInt A9 cp10 a0.Item, RE.rd kInt A13 cp14 a0.Tri]) ?_ ?_
 ·cases hbS : (decide ((mn a0.W a0.H) < 1))
  ·have hm := cond_f hbS hmS
   refine RL_pure (by exact wn1 rfl rfl rfl rfl) (by rfl) (by rfl) (x_fieldAddr fo25_0 (by rfl)) ?_
   refine RL_pure (by exact wn1 rfl rfl rfl rfl) (by rfl) (by rfl) (x_load (j := 0) (v := .int .i64 a0.W) sc3 (by rfl) (H.cells (i := 0) (by rfl)) (by rfl)) ?_
   refine RL_pure (by exact wn1 rfl rfl rfl rfl) (by rfl) (by rfl) (x_fieldAddr fo25_1 (by rfl)) ?_
   refine RL_pure (by exact wn1 rfl rfl rfl rfl) (by rfl) (by rfl) (x_load (j := 1) (v := .int .i64 a0.H) sc3 (by rfl) (H.cells (i := 0) (by rfl)) (by rfl)) ?_
   refine RL_pure (by exact wn1 rfl rfl rfl rfl) (by rfl) (by rfl) (x_max2 (by rfl) (by rfl)) ?_
   refine RL_pure (by exact wn1 rfl rfl rfl rfl) (by rfl) (by rfl) (x_gtr (by rfl) (by rfl)) ?_
   refine RL_pure (by exact wn0 rfl) (by rfl) (by rfl) (x_pick_f (v := .bool (decide (64 < (mx a0.W a0.H)))) (by rfl) (by rfl)) ?_
   refine RL_nil ?_
   exact ⟨⟨congrArg Value.bool (Option.some.inj hm), rfl, trivial⟩, H⟩
  ·have hm := cond_t hbS hmS
   refine RL_cons (OpR_off (by exact wn2 rfl rfl rfl rfl) (by rfl) (by rfl) ?_)
   refine RL_cons (OpR_off (by exact wn2 rfl rfl rfl rfl) (by rfl) (by rfl) ?_)
   refine RL_cons (OpR_off (by exact wn2 rfl rfl rfl rfl) (by rfl) (by rfl) ?_)
   refine RL_cons (OpR_off (by exact wn2 rfl rfl rfl rfl) (by rfl) (by rfl) ?_)
   refine RL_cons (OpR_off (by exact wn2 rfl rfl rfl rfl) (by rfl) (by rfl) ?_)
   refine RL_cons (OpR_off (by exact wn2 rfl rfl rfl rfl) (by rfl) (by rfl) ?_)
   refine RL_pure (by exact wn0 rfl) (by rfl) (by rfl) (x_pick_t (v := .bool true) (by rfl) (by rfl)) ?_
   refine RL_nil ?_
   exact ⟨⟨congrArg Value.bool (Option.some.inj hm), rfl, trivial⟩, H⟩
 ·rintro r' w' ⟨hA, H⟩
  obtain ⟨r20, rfl⟩ := regen _ hA; clear hA
  obtain ⟨w21, rfl⟩ : ∃ W : World, W = w' := ⟨_, rfl⟩
  show RL _ _ _ _ _ _ _
  refine RL_nil ?_
  refine W_cond (by rfl) (fun hb => ?_) (fun hb => ?_)
  ·have hm := cond_t hb hm
   refine W_seq ?_
   refine W_region ?_
   refine RL_pure (by exact wn0 rfl) (by rfl) (by rfl) (x_assign (v := .int .i64 8) (by rfl)) ?_
   refine RL_nil ?_
   refine W_ret ?_
   obtain rfl := Option.some.inj hm
   exact ⟨[.int .i64 8], (.tmp (by rfl) rfl), rfl, H.none_⟩
  ·have hm := cond_f hb hm
   refine W_skip ?_
   refine W_seq ?_
   refine W_region ?_
   refine RL_pure (by exact wn0 rfl) (by rfl) (by rfl) (x_fieldAddr fo25_0 (by rfl)) ?_
   refine RL_pure (by exact wn0 rfl) (by rfl) (by rfl) (x_load (j := 0) (v := .int .i64 a0.W) sc3 (by rfl) (H.cells (i := 0) (by rfl)) (by rfl)) ?_
   refine RL_pure (by exact wn0 rfl) (by rfl) (by rfl) (x_fieldAddr fo25_1 (by rfl)) ?_
   refine RL_pure (by exact wn0 rfl) (by rfl) (by rfl) (x_load (j := 1) (v := .int .i64 a0.H) sc3 (by rfl) (H.cells (i := 0) (by rfl)) (by rfl)) ?_
   obtain ⟨x22, ex22, qx22, ux22, hm⟩ := ck_some hm
   refine RL_pure (by exact wn0 rfl) (by rfl) (by rfl) (x_mul (by rfl) (by rfl) ux22) ?_
   refine RL_pure (by exact wn0 rfl) (by rfl) (by rfl) (x_assign (v := .int .i64 x22) (by rfl)) ?_
   refine RL_nil ?_
   refine W_seq ?_
   refine W_seq ?_
   refine W_region ?_
   refine RL_pure (by exact wn0 rfl) (by rfl) (by rfl) (x_fieldAddr fo25_2 (by rfl)) ?_
   refine RL_pure (by exact wn0 rfl) (by rfl) (by rfl) (x_load (j := 2) (v := .slice A1 a0.Color.length cp2) sc22 (by rfl) (H.cells (i := 0) (by rfl)) (by rfl)) ?_
   refine RL_pure (by exact wn0 rfl) (by rfl) (by rfl) (x_len sl22 (by rfl)) ?_
   refine RL_pure (by exact wn0 rfl) (by rfl) (by rfl) (x_move (v := .int .i64 x22) (by rfl)) ?_
   refine RL_pure (by exact wn0 rfl) (by rfl) (by rfl) (x_neq (by rfl) (by rfl)) ?_
   refine RL_pure (by exact wn0 rfl) (by rfl) (by rfl) (x_move (v := .bool ((a0.Color.length : Int) != x22)) (by rfl)) ?_
   obtain ⟨b23, hmS, hm⟩ := bind_some hm
   refine RL_cut 6 (fun r' w' => Agr [(37, .bool b23), (1, .pointer (some ⟨b17, 0, none⟩)), (3, .int .i64 x22)] r' ∧ Sep ok w w' [.blk b17 25 [.int .i64 a0.W, .int .i64 a0.H, .slice A1 a0.Color.length cp2, .slice A5 a0.Depth.length cp6, .slice A9 a0.Item.length cp10, .slice A13 a0.Tri.length cp14]] [RE.rd k_Ar4_Int A1 cp2 a0.Color, RE.rd kInt A5 cp6 a0.Depth, RE.rd kInt A9 cp10 a0.Item, RE.rd kInt A13 cp14 a0.Tri]) ?_ ?_
   ·cases hbS : ((a0.Color.length : Int) != x22)
    ·have hm := cond_f hbS hmS
     refine RL_pure (by exact wn1 rfl rfl rfl rfl) (by rfl) (by rfl) (x_fieldAddr fo25_3 (by rfl)) ?_
     refine RL_pure (by exact wn1 rfl rfl rfl rfl) (by rfl) (by rfl) (x_load (j := 3) (v := .slice A5 a0.Depth.length cp6) sc23 (by rfl) (H.cells (i := 0) (by rfl)) (by rfl)) ?_
     refine RL_pure (by exact wn1 rfl rfl rfl rfl) (by rfl) (by rfl) (x_len sl23 (by rfl)) ?_
     refine RL_pure (by exact wn1 rfl rfl rfl rfl) (by rfl) (by rfl) (x_move (v := .int .i64 x22) (by rfl)) ?_
     refine RL_pure (by exact wn1 rfl rfl rfl rfl) (by rfl) (by rfl) (x_neq (by rfl) (by rfl)) ?_
     refine RL_pure (by exact wn0 rfl) (by rfl) (by rfl) (x_pick_f (v := .bool ((a0.Depth.length : Int) != x22)) (by rfl) (by rfl)) ?_
     refine RL_nil ?_
     exact ⟨⟨congrArg Value.bool (Option.some.inj hm), rfl, rfl, trivial⟩, H⟩
    ·have hm := cond_t hbS hmS
     refine RL_cons (OpR_off (by exact wn2 rfl rfl rfl rfl) (by rfl) (by rfl) ?_)
     refine RL_cons (OpR_off (by exact wn2 rfl rfl rfl rfl) (by rfl) (by rfl) ?_)
     refine RL_cons (OpR_off (by exact wn2 rfl rfl rfl rfl) (by rfl) (by rfl) ?_)
     refine RL_cons (OpR_off (by exact wn2 rfl rfl rfl rfl) (by rfl) (by rfl) ?_)
     refine RL_cons (OpR_off (by exact wn2 rfl rfl rfl rfl) (by rfl) (by rfl) ?_)
     refine RL_pure (by exact wn0 rfl) (by rfl) (by rfl) (x_pick_t (v := .bool true) (by rfl) (by rfl)) ?_
     refine RL_nil ?_
     exact ⟨⟨congrArg Value.bool (Option.some.inj hm), rfl, rfl, trivial⟩, H⟩
   ·rintro r' w' ⟨hA, H⟩
    obtain ⟨r24, rfl⟩ := regen _ hA; clear hA
    obtain ⟨w25, rfl⟩ : ∃ W : World, W = w' := ⟨_, rfl⟩
    show RL _ _ _ _ _ _ _
    refine RL_pure (by exact wn0 rfl) (by rfl) (by rfl) (x_move (v := .bool b23) (by rfl)) ?_
    obtain ⟨b26, hmS, hm⟩ := bind_some hm
    refine RL_cut 6 (fun r' w' => Agr [(44, .bool b26), (1, .pointer (some ⟨b17, 0, none⟩)), (3, .int .i64 x22)] r' ∧ Sep ok w w' [.blk b17 25 [.int .i64 a0.W, .int .i64 a0.H, .slice A1 a0.Color.length cp2, .slice A5 a0.Depth.length cp6, .slice A9 a0.Item.length cp10, .slice A13 a0.Tri.length cp14]] [RE.rd k_Ar4_Int A1 cp2 a0.Color, RE.rd kInt A5 cp6 a0.Depth, RE.rd kInt A9 cp10 a0.Item, RE.rd kInt A13 cp14 a0.Tri]) ?_ ?_
    ·cases hbS : b23
     ·have hm := cond_f hbS hmS
      refine RL_pure (by exact wn1 rfl rfl rfl rfl) (by rfl) (by rfl) (x_fieldAddr fo25_4 (by rfl)) ?_
      refine RL_pure (by exact wn1 rfl rfl rfl rfl) (by rfl) (by rfl) (x_load (j := 4) (v := .slice A9 a0.Item.length cp10) sc23 (by rfl) (H.cells (i := 0) (by rfl)) (by rfl)) ?_
      refine RL_pure (by exact wn1 rfl rfl rfl rfl) (by rfl) (by rfl) (x_len sl23 (by rfl)) ?_
      refine RL_pure (by exact wn1 rfl rfl rfl rfl) (by rfl) (by rfl) (x_move (v := .int .i64 x22) (by rfl)) ?_
      refine RL_pure (by exact wn1 rfl rfl rfl rfl) (by rfl) (by rfl) (x_neq (by rfl) (by rfl)) ?_
      refine RL_pure (by exact wn0 rfl) (by rfl) (by rfl) (x_pick_f (v := .bool ((a0.Item.length : Int) != x22)) (by rfl) (by rfl)) ?_
      refine RL_nil ?_
      exact ⟨⟨congrArg Value.bool (Option.some.inj hm), rfl, rfl, trivial⟩, H⟩
     ·have hm := cond_t hbS hmS
      refine RL_cons (OpR_off (by exact wn2 rfl rfl rfl rfl) (by rfl) (by rfl) ?_)
      refine RL_cons (OpR_off (by exact wn2 rfl rfl rfl rfl) (by rfl) (by rfl) ?_)
      refine RL_cons (OpR_off (by exact wn2 rfl rfl rfl rfl) (by rfl) (by rfl) ?_)
      refine RL_cons (OpR_off (by exact wn2 rfl rfl rfl rfl) (by rfl) (by rfl) ?_)
      refine RL_cons (OpR_off (by exact wn2 rfl rfl rfl rfl) (by rfl) (by rfl) ?_)
      refine RL_pure (by exact wn0 rfl) (by rfl) (by rfl) (x_pick_t (v := .bool true) (by rfl) (by rfl)) ?_
      refine RL_nil ?_
      exact ⟨⟨congrArg Value.bool (Option.some.inj hm), rfl, rfl, trivial⟩, H⟩
    ·rintro r' w' ⟨hA, H⟩
     obtain ⟨r27, rfl⟩ := regen _ hA; clear hA
     obtain ⟨w28, rfl⟩ : ∃ W : World, W = w' := ⟨_, rfl⟩
     show RL _ _ _ _ _ _ _
     refine RL_pure (by exact wn0 rfl) (by rfl) (by rfl) (x_move (v := .bool b26) (by rfl)) ?_
     obtain ⟨b29, hmS, hm⟩ := bind_some hm
     refine RL_cut 6 (fun r' w' => Agr [(51, .bool b29), (1, .pointer (some ⟨b17, 0, none⟩))] r' ∧ Sep ok w w' [.blk b17 25 [.int .i64 a0.W, .int .i64 a0.H, .slice A1 a0.Color.length cp2, .slice A5 a0.Depth.length cp6, .slice A9 a0.Item.length cp10, .slice A13 a0.Tri.length cp14]] [RE.rd k_Ar4_Int A1 cp2 a0.Color, RE.rd kInt A5 cp6 a0.Depth, RE.rd kInt A9 cp10 a0.Item, RE.rd kInt A13 cp14 a0.Tri]) ?_ ?_
     ·cases hbS : b26
      ·have hm := cond_f hbS hmS
       refine RL_pure (by exact wn1 rfl rfl rfl rfl) (by rfl) (by rfl) (x_fieldAddr fo25_5 (by rfl)) ?_
       refine RL_pure (by exact wn1 rfl rfl rfl rfl) (by rfl) (by rfl) (x_load (j := 5) (v := .slice A13 a0.Tri.length cp14) sc23 (by rfl) (H.cells (i := 0) (by rfl)) (by rfl)) ?_
       refine RL_pure (by exact wn1 rfl rfl rfl rfl) (by rfl) (by rfl) (x_len sl23 (by rfl)) ?_
       refine RL_pure (by exact wn1 rfl rfl rfl rfl) (by rfl) (by rfl) (x_move (v := .int .i64 x22) (by rfl)) ?_
       refine RL_pure (by exact wn1 rfl rfl rfl rfl) (by rfl) (by rfl) (x_neq (by rfl) (by rfl)) ?_
       refine RL_pure (by exact wn0 rfl) (by rfl) (by rfl) (x_pick_f (v := .bool ((a0.Tri.length : Int) != x22)) (by rfl) (by rfl)) ?_
       refine RL_nil ?_
       exact ⟨⟨congrArg Value.bool (Option.some.inj hm), rfl, trivial⟩, H⟩
      ·have hm := cond_t hbS hmS
       refine RL_cons (OpR_off (by exact wn2 rfl rfl rfl rfl) (by rfl) (by rfl) ?_)
       refine RL_cons (OpR_off (by exact wn2 rfl rfl rfl rfl) (by rfl) (by rfl) ?_)
       refine RL_cons (OpR_off (by exact wn2 rfl rfl rfl rfl) (by rfl) (by rfl) ?_)
       refine RL_cons (OpR_off (by exact wn2 rfl rfl rfl rfl) (by rfl) (by rfl) ?_)
       refine RL_cons (OpR_off (by exact wn2 rfl rfl rfl rfl) (by rfl) (by rfl) ?_)
       refine RL_pure (by exact wn0 rfl) (by rfl) (by rfl) (x_pick_t (v := .bool true) (by rfl) (by rfl)) ?_
       refine RL_nil ?_
       exact ⟨⟨congrArg Value.bool (Option.some.inj hm), rfl, trivial⟩, H⟩
     ·rintro r' w' ⟨hA, H⟩
      obtain ⟨r30, rfl⟩ := regen _ hA; clear hA
      obtain ⟨w31, rfl⟩ : ∃ W : World, W = w' := ⟨_, rfl⟩
      show RL _ _ _ _ _ _ _
      refine RL_nil ?_
      refine W_cond (by rfl) (fun hb => ?_) (fun hb => ?_)
      ·have hm := cond_t hb hm
       refine W_seq ?_
       refine W_region ?_
       refine RL_pure (by exact wn0 rfl) (by rfl) (by rfl) (x_assign (v := .int .i64 8) (by rfl)) ?_
       refine RL_nil ?_
       refine W_ret ?_
       obtain rfl := Option.some.inj hm
       exact ⟨[.int .i64 8], (.tmp (by rfl) rfl), rfl, H.none_⟩
      ·have hm := cond_f hb hm
       refine W_skip ?_
       refine W_seq ?_
       refine W_seq ?_
       refine W_region ?_
       refine RL_pure (by exact wn0 rfl) (by rfl) (by rfl) (x_fieldAddr fo25_3 (by rfl)) ?_
       refine RL_pure (by exact wn0 rfl) (by rfl) (by rfl) (x_load (j := 3) (v := .slice A5 a0.Depth.length cp6) sc23 (by rfl) (H.cells (i := 0) (by rfl)) (by rfl)) ?_
       refine RL_pure (by exact wn0 rfl) (by rfl) (by rfl) (x_len sl23 (by rfl)) ?_
       refine RL_pure (by exact wn0 rfl) (by rfl) (by rfl) (x_move (v := .int .i64 0) (by rfl)) ?_
       refine RL_nil ?_
       refine W_block ?_
       refine W_loop (fun k1 r' w' => ∃ (y55_1 : Int), m33_l1 K a0 k1 y55_1 = some res ∧ Agr [(1, .pointer (some ⟨b17, 0, none⟩)), (53, .slice A5 a0.Depth.length cp6), (54, .int .i64 (a0.Depth.length : Int)), (55, .int .i64 y55_1)] r' ∧ Sep ok w w' [.blk b17 25 [.int .i64 a0.W, .int .i64 a0.H, .slice A1 a0.Color.length cp2, .slice A5 a0.Depth.length cp6, .slice A9 a0.Item.length cp10, .slice A13 a0.Tri.length cp14]] [RE.rd k_Ar4_Int A1 cp2 a0.Color, RE.rd kInt A5 cp6 a0.Depth, RE.rd kInt A9 cp10 a0.Item, RE.rd kInt A13 cp14 a0.Tri]) K ?_ ?_
       ·exact ⟨0, hm, ⟨rfl, rfl, rfl, rfl, trivial⟩, H⟩
       ·rintro k1 r' w' ⟨y55_1, hm, hA, H⟩
        obtain ⟨r32, rfl⟩ := regen _ hA; clear hA
        obtain ⟨w33, rfl⟩ : ∃ W : World, W = w' := ⟨_, rfl⟩
        cases k1 with
        | zero => exact (none_some hm).elim
        | succ k1 =>
         have hm : m33_l1b K a0 (m33_l1 K a0 k1) y55_1 = some res := hm
         unfold m33_l1b at hm
         obtain ⟨rec1, hrec1⟩ : ∃ f, m33_l1 K a0 k1 = f := ⟨_, rfl⟩
         rw [hrec1] at hm
         refine W_seq ?_
         refine W_region ?_
         refine RL_pure (by exact wn0 rfl) (by rfl) (by rfl) (x_lss (by rfl) (by rfl)) ?_
         refine RL_nil ?_
         refine W_seq ?_
         refine W_cond (by rfl) (fun hb => ?_) (fun hb => ?_)
         ·have hm := cond_t hb hm
          refine W_skip ?_
          refine W_seq ?_
          refine W_block ?_
          refine W_seq ?_
          refine W_region ?_
          refine RL_pure (by exact wn0 rfl) (by rfl) (by rfl) (x_move (v := .int .i64 y55_1) (by rfl)) ?_
          obtain ⟨el34, h35, h36, he37, hm⟩ := idx_some hm
          obtain ⟨g39, o40, hA38⟩ := (H.rd (i := 1) (by rfl)).addr he37
          refine RL_pure (by exact wn0 rfl) (by rfl) (by rfl) (x_indexAddr sl23 sz3 (by rfl) (by rfl) hA38 h35 h36) ?_
          refine RL_pure (by exact wn0 rfl) (by rfl) (by rfl) (x_load (j := 0) (v := .int .i64 el34) sc3 (by rfl) (Rd.flatAt (n := 1) (H.rd (i := 1) (by rfl)) hA38 he37) (by rfl)) ?_
          refine RL_pure (by exact wn0 rfl) (by rfl) (by rfl) (x_assign (v := .int .i64 y55_1) (by rfl)) ?_
          refine RL_pure (by exact wn0 rfl) (by rfl) (by rfl) (x_assign (v := .int .i64 el34) (by rfl)) ?_
          refine RL_nil ?_
          refine W_seq ?_
          refine W_region ?_
          refine RL_pure (by exact wn0 rfl) (by rfl) (by rfl) (x_move (v := .int .i64 el34) (by rfl)) ?_
          refine RL_pure (by exact wn0 rfl) (by rfl) (by rfl) (x_eql (by rfl) (by rfl)) ?_
          refine RL_pure (by exact wn0 rfl) (by rfl) (by rfl) (x_move (v := .bool (el34 == (-2048))) (by rfl)) ?_
          obtain ⟨b41, hmS, hm⟩ := bind_some hm
          refine RL_cut 7 (fun r' w' => Agr [(69, .bool b41), (1, .pointer (some ⟨b17, 0, none⟩)), (4, .int .i64 y55_1), (5, .int .i64 el34), (53, .slice A5 a0.Depth.length cp6), (54, .int .i64 (a0.Depth.length : Int)), (55, .int .i64 y55_1)] r' ∧ Sep ok w w' [.blk b17 25 [.int .i64 a0.W, .int .i64 a0.H, .slice A1 a0.Color.length cp2, .slice A5 a0.Depth.length cp6, .slice A9 a0.Item.length cp10, .slice A13 a0.Tri.length cp14]] [RE.rd k_Ar4_Int A1 cp2 a0.Color, RE.rd kInt A5 cp6 a0.Depth, RE.rd kInt A9 cp10 a0.Item, RE.rd kInt A13 cp14 a0.Tri]) ?_ ?_
          ·cases hbS : (el34 == (-2048))
           ·have hm := cond_f hbS hmS
            refine RL_cons (OpR_off (by exact wn2 rfl rfl rfl rfl) (by rfl) (by rfl) ?_)
            refine RL_cons (OpR_off (by exact wn2 rfl rfl rfl rfl) (by rfl) (by rfl) ?_)
            refine RL_cons (OpR_off (by exact wn2 rfl rfl rfl rfl) (by rfl) (by rfl) ?_)
            refine RL_cons (OpR_off (by exact wn2 rfl rfl rfl rfl) (by rfl) (by rfl) ?_)
            refine RL_cons (OpR_off (by exact wn2 rfl rfl rfl rfl) (by rfl) (by rfl) ?_)
            refine RL_cons (OpR_off (by exact wn2 rfl rfl rfl rfl) (by rfl) (by rfl) ?_)
            refine RL_pure (by exact wn0 rfl) (by rfl) (by rfl) (x_pick_f (v := .bool false) (by rfl) (by rfl)) ?_
            refine RL_nil ?_
            exact ⟨⟨congrArg Value.bool (Option.some.inj hm), rfl, rfl, rfl, rfl, rfl, rfl, trivial⟩, H⟩
           ·have hm := cond_t hbS hmS
            refine RL_pure (by exact wn1 rfl rfl rfl rfl) (by rfl) (by rfl) (x_fieldAddr fo25_4 (by rfl)) ?_
            refine RL_pure (by exact wn1 rfl rfl rfl rfl) (by rfl) (by rfl) (x_load (j := 4) (v := .slice A9 a0.Item.length cp10) sc23 (by rfl) (H.cells (i := 0) (by rfl)) (by rfl)) ?_
            refine RL_pure (by exact wn1 rfl rfl rfl rfl) (by rfl) (by rfl) (x_move (v := .int .i64 y55_1) (by rfl)) ?_
            obtain ⟨el42, h43, h44, he45, hm⟩ := idx_some hm
            obtain ⟨g47, o48, hA46⟩ := (H.rd (i := 2) (by rfl)).addr he45
            refine RL_pure (by exact wn1 rfl rfl rfl rfl) (by rfl) (by rfl) (x_indexAddr sl23 sz3 (by rfl) (by rfl) hA46 h43 h44) ?_
            refine RL_pure (by exact wn1 rfl rfl rfl rfl) (by rfl) (by rfl) (x_load (j := 0) (v := .int .i64 el42) sc3 (by rfl) (Rd.flatAt (n := 1) (H.rd (i := 2) (by rfl)) hA46 he45) (by rfl)) ?_
            refine RL_pure (by exact wn1 rfl rfl rfl rfl) (by rfl) (by rfl) (x_eql (by rfl) (by rfl)) ?_
            refine RL_pure (by exact wn0 rfl) (by rfl) (by rfl) (x_pick_t (v := .bool (el42 == (-1))) (by rfl) (by rfl)) ?_
            refine RL_nil ?_
            exact ⟨⟨congrArg Value.bool (Option.some.inj hm), rfl, rfl, rfl, rfl, rfl, rfl, trivial⟩, H⟩
          ·rintro r' w' ⟨hA, H⟩
           obtain ⟨r49, rfl⟩ := regen _ hA; clear hA
           obtain ⟨w50, rfl⟩ : ∃ W : World, W = w' := ⟨_, rfl⟩
           show RL _ _ _ _ _ _ _
           refine RL_pure (by exact wn0 rfl) (by rfl) (by rfl) (x_move (v := .bool b41) (by rfl)) ?_
           obtain ⟨b51, hmS, hm⟩ := bind_some hm
           refine RL_cut 7 (fun r' w' => Agr [(77, .bool b51), (1, .pointer (some ⟨b17, 0, none⟩)), (4, .int .i64 y55_1), (5, .int .i64 el34), (53, .slice A5 a0.Depth.length cp6), (54, .int .i64 (a0.Depth.length : Int)), (55, .int .i64 y55_1)] r' ∧ Sep ok w w' [.blk b17 25 [.int .i64 a0.W, .int .i64 a0.H, .slice A1 a0.Color.length cp2, .slice A5 a0.Depth.length cp6, .slice A9 a0.Item.length cp10, .slice A13 a0.Tri.length cp14]] [RE.rd k_Ar4_Int A1 cp2 a0.Color, RE.rd kInt A5 cp6 a0.Depth, RE.rd kInt A9 cp10 a0.Item, RE.rd kInt A13 cp14 a0.Tri]) ?_ ?_
           ·cases hbS : b41
            ·have hm := cond_f hbS hmS
             refine RL_cons (OpR_off (by exact wn2 rfl rfl rfl rfl) (by rfl) (by rfl) ?_)
             refine RL_cons (OpR_off (by exact wn2 rfl rfl rfl rfl) (by rfl) (by rfl) ?_)
             refine RL_cons (OpR_off (by exact wn2 rfl rfl rfl rfl) (by rfl) (by rfl) ?_)
             refine RL_cons (OpR_off (by exact wn2 rfl rfl rfl rfl) (by rfl) (by rfl) ?_)
             refine RL_cons (OpR_off (by exact wn2 rfl rfl rfl rfl) (by rfl) (by rfl) ?_)
             refine RL_cons (OpR_off (by exact wn2 rfl rfl rfl rfl) (by rfl) (by rfl) ?_)
             refine RL_pure (by exact wn0 rfl) (by rfl) (by rfl) (x_pick_f (v := .bool false) (by rfl) (by rfl)) ?_
             refine RL_nil ?_
             exact ⟨⟨congrArg Value.bool (Option.some.inj hm), rfl, rfl, rfl, rfl, rfl, rfl, trivial⟩, H⟩
            ·have hm := cond_t hbS hmS
             refine RL_pure (by exact wn1 rfl rfl rfl rfl) (by rfl) (by rfl) (x_fieldAddr fo25_5 (by rfl)) ?_
             refine RL_pure (by exact wn1 rfl rfl rfl rfl) (by rfl) (by rfl) (x_load (j := 5) (v := .slice A13 a0.Tri.length cp14) sc23 (by rfl) (H.cells (i := 0) (by rfl)) (by rfl)) ?_
             refine RL_pure (by exact wn1 rfl rfl rfl rfl) (by rfl) (by rfl) (x_move (v := .int .i64 y55_1) (by rfl)) ?_
             obtain ⟨el52, h53, h54, he55, hm⟩ := idx_some hm
             obtain ⟨g57, o58, hA56⟩ := (H.rd (i := 3) (by rfl)).addr he55
             refine RL_pure (by exact wn1 rfl rfl rfl rfl) (by rfl) (by rfl) (x_indexAddr sl23 sz3 (by rfl) (by rfl) hA56 h53 h54) ?_
             refine RL_pure (by exact wn1 rfl rfl rfl rfl) (by rfl) (by rfl) (x_load (j := 0) (v := .int .i64 el52) sc3 (by rfl) (Rd.flatAt (n := 1) (H.rd (i := 3) (by rfl)) hA56 he55) (by rfl)) ?_
             refine RL_pure (by exact wn1 rfl rfl rfl rfl) (by rfl) (by rfl) (x_eql (by rfl) (by rfl)) ?_
             refine RL_pure (by exact wn0 rfl) (by rfl) (by rfl) (x_pick_t (v := .bool (el52 == (-1))) (by rfl) (by rfl)) ?_
             refine RL_nil ?_
             exact ⟨⟨congrArg Value.bool (Option.some.inj hm), rfl, rfl, rfl, rfl, rfl, rfl, trivial⟩, H⟩
           ·rintro r' w' ⟨hA, H⟩
            obtain ⟨r59, rfl⟩ := regen _ hA; clear hA
            obtain ⟨w60, rfl⟩ : ∃ W : World, W = w' := ⟨_, rfl⟩
            show RL _ _ _ _ _ _ _
            refine RL_pure (by exact wn0 rfl) (by rfl) (by rfl) (x_assign (v := .bool b51) (by rfl)) ?_
            refine RL_nil ?_
            refine W_seq ?_
            refine W_draw [.free 0, .free 1, .free 2, .free 3, .free 4, .take 5, .free 6, .free 7, .take 8, .free 9, .take 10, .free 11, .free 12, .take 13, .run 14, .free 15, .free 16] (fun wS => Sep ok w wS [.blk b17 25 [.int .i64 a0.W, .int .i64 a0.H, .slice A1 a0.Color.length cp2, .slice A5 a0.Depth.length cp6, .slice A9 a0.Item.length cp10, .slice A13 a0.Tri.length cp14]] [RE.rd k_Ar4_Int A1 cp2 a0.Color, RE.rd kInt A5 cp6 a0.Depth, RE.rd kInt A9 cp10 a0.Item, RE.rd kInt A13 cp14 a0.Tri]) [] [0, 1, 2, 3, 4, 6, 7, 9, 11, 12, 15, 16] mixed0 (by kernel_rfl) (by kernel_rfl) (by kernel_rfl) (by rfl) (by exact H.drew) ?_
            obtain ⟨w61, hW⟩ : ∃ W : World, W = { w60 with drawn := w60.drawn + 1 } := ⟨_, rfl⟩
            rw [← hW]
            have H : Sep ok w w61 [.blk b17 25 [.int .i64 a0.W, .int .i64 a0.H, .slice A1 a0.Color.length cp2, .slice A5 a0.Depth.length cp6, .slice A9 a0.Item.length cp10, .slice A13 a0.Tri.length cp14]] [RE.rd k_Ar4_Int A1 cp2 a0.Color, RE.rd kInt A5 cp6 a0.Depth, RE.rd kInt A9 cp10 a0.Item, RE.rd kInt A13 cp14 a0.Tri] := by rw [hW]; exact H.drew
            clear hW
            refine PR_free (by rfl) (by rfl) (by rfl) (by exact wn0 rfl) (fun wS => (x_move (v := .bool b51) (by rfl))) ?_
            refine PR_free (by rfl) (by rfl) (by rfl) (by exact wn0 rfl) (fun wS => (x_not (by rfl))) ?_
            refine PR_free (by rfl) (by rfl) (by rfl) (by exact wn0 rfl) (fun wS => (x_move (v := .bool (!b51)) (by rfl))) ?_
            obtain ⟨b62, hmS, hm⟩ := bind_some hm
            refine PR_cut 14 (fun r' w' => Agr [(94, .bool b62), (1, .pointer (some ⟨b17, 0, none⟩)), (53, .slice A5 a0.Depth.length cp6), (54, .int .i64 (a0.Depth.length : Int)), (55, .int .i64 y55_1)] r' ∧ Sep ok w w' [.blk b17 25 [.int .i64 a0.W, .int .i64 a0.H, .slice A1 a0.Color.length cp2, .slice A5 a0.Depth.length cp6, .slice A9 a0.Item.length cp10, .slice A13 a0.Tri.length cp14]] [RE.rd k_Ar4_Int A1 cp2 a0.Color, RE.rd kInt A5 cp6 a0.Depth, RE.rd kInt A9 cp10 a0.Item, RE.rd kInt A13 cp14 a0.Tri]) ?_ ?_
            ·cases hbS : (!b51)
             ·have hm := cond_f hbS hmS
              refine PR_offF (by rfl) (by rfl) (by rfl) (by exact wn2 rfl rfl rfl rfl) ?_
              refine PR_offF (by rfl) (by rfl) (by rfl) (by exact wn2 rfl rfl rfl rfl) ?_
              refine PR_off (by rfl) (by rfl) (by rfl) (by exact wn2 rfl rfl rfl rfl) ?_
              refine PR_offF (by rfl) (by rfl) (by rfl) (by exact wn2 rfl rfl rfl rfl) ?_
              refine PR_offF (by rfl) (by rfl) (by rfl) (by exact wn2 rfl rfl rfl rfl) ?_
              refine PR_off (by rfl) (by rfl) (by rfl) (by exact wn2 rfl rfl rfl rfl) ?_
              refine PR_offF (by rfl) (by rfl) (by rfl) (by exact wn2 rfl rfl rfl rfl) ?_
              refine PR_off (by rfl) (by rfl) (by rfl) (by exact wn2 rfl rfl rfl rfl) ?_
              refine PR_offF (by rfl) (by rfl) (by rfl) (by exact wn2 rfl rfl rfl rfl) ?_
              refine PR_offF (by rfl) (by rfl) (by rfl) (by exact wn2 rfl rfl rfl rfl) ?_
              refine PR_off (by rfl) (by rfl) (by rfl) (by exact wn2 rfl rfl rfl rfl) ?_
              refine PR_run (by rfl) (OpR_off (by exact wn2 rfl rfl rfl rfl) (by rfl) (by rfl) ⟨H, ?_⟩)
              refine PR_offF (by rfl) (by rfl) (by rfl) (by exact wn2 rfl rfl rfl rfl) ?_
              refine PR_free (by rfl) (by rfl) (by rfl) (by exact wn0 rfl) (fun wS => (x_pick_f (v := .bool false) (by rfl) (by rfl))) ?_
              refine PR_nil ?_
              exact ⟨⟨congrArg Value.bool (Option.some.inj hm), rfl, rfl, rfl, rfl, trivial⟩, H⟩
             ·have hm := cond_t hbS hmS
              refine PR_free (by rfl) (by rfl) (by rfl) (by exact wn1 rfl rfl rfl rfl) (fun wS => (x_move (v := .int .i64 el34) (by rfl))) ?_
              refine PR_free (by rfl) (by rfl) (by rfl) (by exact wn1 rfl rfl rfl rfl) (fun wS => (x_fieldAddr fo25_4 (by rfl))) ?_
              refine PR_take (by rfl) (by rfl) (by rfl) (by exact wn1 rfl rfl rfl rfl) (fun wS (H : Sep ok w wS [.blk b17 25 [.int .i64 a0.W, .int .i64 a0.H, .slice A1 a0.Color.length cp2, .slice A5 a0.Depth.length cp6, .slice A9 a0.Item.length cp10, .slice A13 a0.Tri.length cp14]] [RE.rd k_Ar4_Int A1 cp2 a0.Color, RE.rd kInt A5 cp6 a0.Depth, RE.rd kInt A9 cp10 a0.Item, RE.rd kInt A13 cp14 a0.Tri]) => (x_load (j := 4) (v := .slice A9 a0.Item.length cp10) sc23 (by rfl) (H.cells (i := 0) (by rfl)) (by rfl))) ?_
              refine PR_free (by rfl) (by rfl) (by rfl) (by exact wn1 rfl rfl rfl rfl) (fun wS => (x_move (v := .int .i64 y55_1) (by rfl))) ?_
              obtain ⟨el63, h64, h65, he66, hm⟩ := idx_some hm
              obtain ⟨g68, o69, hA67⟩ := (H.rd (i := 2) (by rfl)).addr he66
              refine PR_free (by rfl) (by rfl) (by rfl) (by exact wn1 rfl rfl rfl rfl) (fun wS => (x_indexAddr sl23 sz3 (by rfl) (by rfl) hA67 h64 h65)) ?_
              refine PR_take (by rfl) (by rfl) (by rfl) (by exact wn1 rfl rfl rfl rfl) (fun wS (H : Sep ok w wS [.blk b17 25 [.int .i64 a0.W, .int .i64 a0.H, .slice A1 a0.Color.length cp2, .slice A5 a0.Depth.length cp6, .slice A9 a0.Item.length cp10, .slice A13 a0.Tri.length cp14]] [RE.rd k_Ar4_Int A1 cp2 a0.Color, RE.rd kInt A5 cp6 a0.Depth, RE.rd kInt A9 cp10 a0.Item, RE.rd kInt A13 cp14 a0.Tri]) => (x_load (j := 0) (v := .int .i64 el63) sc3 (by rfl) (Rd.flatAt (n := 1) (H.rd (i := 2) (by rfl)) hA67 he66) (by rfl))) ?_
              refine PR_free (by rfl) (by rfl) (by rfl) (by exact wn1 rfl rfl rfl rfl) (fun wS => (x_fieldAddr fo25_5 (by rfl))) ?_
              refine PR_take (by rfl) (by rfl) (by rfl) (by exact wn1 rfl rfl rfl rfl) (fun wS (H : Sep ok w wS [.blk b17 25 [.int .i64 a0.W, .int .i64 a0.H, .slice A1 a0.Color.length cp2, .slice A5 a0.Depth.length cp6, .slice A9 a0.Item.length cp10, .slice A13 a0.Tri.length cp14]] [RE.rd k_Ar4_Int A1 cp2 a0.Color, RE.rd kInt A5 cp6 a0.Depth, RE.rd kInt A9 cp10 a0.Item, RE.rd kInt A13 cp14 a0.Tri]) => (x_load (j := 5) (v := .slice A13 a0.Tri.length cp14) sc23 (by rfl) (H.cells (i := 0) (by rfl)) (by rfl))) ?_
              refine PR_free (by rfl) (by rfl) (by rfl) (by exact wn1 rfl rfl rfl rfl) (fun wS => (x_move (v := .int .i64 y55_1) (by rfl))) ?_
              obtain ⟨el70, h71, h72, he73, hm⟩ := idx_some hm
              obtain ⟨g75, o76, hA74⟩ := (H.rd (i := 3) (by rfl)).addr he73
              refine PR_free (by rfl) (by rfl) (by rfl) (by exact wn1 rfl rfl rfl rfl) (fun wS => (x_indexAddr sl23 sz3 (by rfl) (by rfl) hA74 h71 h72)) ?_
              refine PR_take (by rfl) (by rfl) (by rfl) (by exact wn1 rfl rfl rfl rfl) (fun wS (H : Sep ok w wS [.blk b17 25 [.int .i64 a0.W, .int .i64 a0.H, .slice A1 a0.Color.length cp2, .slice A5 a0.Depth.length cp6, .slice A9 a0.Item.length cp10, .slice A13 a0.Tri.length cp14]] [RE.rd k_Ar4_Int A1 cp2 a0.Color, RE.rd kInt A5 cp6 a0.Depth, RE.rd kInt A9 cp10 a0.Item, RE.rd kInt A13 cp14 a0.Tri]) => (x_load (j := 0) (v := .int .i64 el70) sc3 (by rfl) (Rd.flatAt (n := 1) (H.rd (i := 3) (by rfl)) hA74 he73) (by rfl))) ?_
              obtain ⟨v78, hv77, hm⟩ := bind_some hm
              refine PR_run (by rfl) (O_call (by exact wn1 rfl rfl rfl rfl) (by rfl) (by rfl) (x_callL (by rfl) (args := [.int .i64 el34, .int .i64 el63, .int .i64 el70]) (by rfl) (cf75 _ _)) (c75 (fun _ => True) K w61 el34 el63 el70  v78 hv77) ?_)
              rintro e w79 ⟨rfl, H2⟩
              have H : Sep ok w w79 [.blk b17 25 [.int .i64 a0.W, .int .i64 a0.H, .slice A1 a0.Color.length cp2, .slice A5 a0.Depth.length cp6, .slice A9 a0.Item.length cp10, .slice A13 a0.Tri.length cp14]] [RE.rd k_Ar4_Int A1 cp2 a0.Color, RE.rd kInt A5 cp6 a0.Depth, RE.rd kInt A9 cp10 a0.Item, RE.rd kInt A13 cp14 a0.Tri] := H.below H2.base
              clear H2
              refine ⟨_, rfl, H, ?_⟩
              show PR _ _ _ _ _ _ _ _
              refine PR_free (by rfl) (by rfl) (by rfl) (by exact wn1 rfl rfl rfl rfl) (fun wS => (x_not (by rfl))) ?_
              refine PR_free (by rfl) (by rfl) (by rfl) (by exact wn0 rfl) (fun wS => (x_pick_t (v := .bool (!v78)) (by rfl) (by rfl))) ?_
              refine PR_nil ?_
              exact ⟨⟨congrArg Value.bool (Option.some.inj hm), rfl, rfl, rfl, rfl, trivial⟩, H⟩
            ·rintro r' w' ⟨hA, H⟩
             obtain ⟨r80, rfl⟩ := regen _ hA; clear hA
             obtain ⟨w81, rfl⟩ : ∃ W : World, W = w' := ⟨_, rfl⟩
             show PR _ _ _ _ _ _ _ _
             refine PR_nil ?_
             refine W_cond (by rfl) (fun hb => ?_) (fun hb => ?_)
             ·have hm := cond_t hb hm
              refine W_seq ?_
              refine W_region ?_
              refine RL_pure (by exact wn0 rfl) (by rfl) (by rfl) (x_assign (v := .int .i64 8) (by rfl)) ?_
              refine RL_nil ?_
              refine W_ret ?_
              obtain rfl := Option.some.inj hm
              exact ⟨[.int .i64 8], (.tmp (by rfl) rfl), rfl, H.none_⟩
             ·have hm := cond_f hb hm
              refine W_skip ?_
              refine W_region ?_
              obtain ⟨x82, ex82, qx82, ux82, hm⟩ := ck_some hm
              refine RL_pure (by exact wn0 rfl) (by rfl) (by rfl) (x_add (by rfl) (by rfl) ux82) ?_
              refine RL_pure (by exact wn0 rfl) (by rfl) (by rfl) (x_move (v := .int .i64 x82) (by rfl)) ?_
              refine RL_nil ?_
              subst hrec1
              exact ⟨k1, Nat.lt_succ_self k1, x82, hm, ⟨rfl, rfl, rfl, rfl, trivial⟩, H⟩
         ·have hm := cond_f hb hm
          refine W_exit ?_
          refine W_seq ?_
          refine W_region ?_
          refine RL_pure (by exact wn0 rfl) (by rfl) (by rfl) (x_assign (v := .int .i64 0) (by rfl)) ?_
          refine RL_nil ?_
          refine W_ret ?_
          obtain rfl := Option.some.inj hm
          exact ⟨[.int .i64 0], (.tmp (by rfl) rfl), rfl, H.none_⟩
end Go.Proofs.YtobkigllalbkiaaV.M

/- A plain Lean function that answers as the Go function does (none: not told), and the proof that a call answers so. Written by program. -/
set_option linter.unusedVariables false
namespace Go.Proofs.YtobkigllalbkiaaV.M
open Go.RowKit Go.Proofs.YtobkigllalbkiaaV

/-- slices.Clone -/
def m59 (K : Nat) (a0 : List Int) : Option (List Int) := apds 8 ([] : List Int) a0 fun l => some l
set_option maxRecDepth 100000 in
set_option maxHeartbeats 4000000 in
theorem c59 (ok : Nat → Prop) (K : Nat) (w : World) (a0 : List Int) (A1 : Option Addr) (c2 : Nat) (hR3 : Rd kInt w ok A1 c2 a0) (res : List Int) (hm : m59 K a0 = some res) :
  Calls Try.prog 59 #[.slice A1 a0.length c2] w (fun e w' => ∃ (A0_ : Option Addr) (c0_ : Nat) (sA0_ : List Value), e = .returned (tup [.slice A0_ res.length c0_]) ∧ Sep ok w w' [.row (.slice A0_ res.length c0_) 3 kInt.sz res.length sA0_] [RE.chunks kInt sA0_ res]) := by
 refine calls_W (args := [.slice A1 a0.length c2]) Try.func59 rfl Try.ntmps59 Try.results59 rfl fun r hr => ?_
 obtain ⟨r1, rfl⟩ := regen (r := r) [(0, .slice A1 a0.length c2)] ⟨hr 0 _ rfl, trivial⟩
 have H : Sep ok w w [] [RE.rd kInt A1 c2 a0] := Sep.arg (Sep.start ok w) (re := RE.rd kInt A1 c2 a0) rfl rfl hR3
 unfold m59 at hm
 obtain ⟨ys, hys, hbb, hm⟩ := apds_some hm
 obtain rfl := Option.some.inj hm
 refine W_seq ?_
 refine W_region ?_
 refine RL_pure (by exact wn0 rfl) (by rfl) (by rfl) (x_assign (v := .slice none 0 0) (by rfl)) ?_
 refine RL_nil ?_
 refine W_seq ?_
 refine W_seq ?_
 refine W_region ?_
 refine RL_pure (by exact wn0 rfl) (by rfl) (by rfl) (x_move (v := .slice A1 a0.length c2) (by rfl)) ?_
 refine RL_pure (by exact wn0 rfl) (by rfl) (by rfl) (x_eqnil sl23 (by rfl)) ?_
 refine RL_nil ?_
 refine W_cond (by rfl) (fun hb => ?_) (fun hb => ?_)
 ·have hnil : a0 = [] := by
   by_cases hne : a0 = []
   ·exact hne
   ·obtain ⟨g, o, hA, _⟩ := hR3.2.2 hne
    rw [hA] at hb; cases hb
  refine W_seq ?_
  refine W_region ?_
  refine RL_pure (by exact wn0 rfl) (by rfl) (by rfl) (x_assign (v := .slice none 0 0) (by rfl)) ?_
  refine RL_nil ?_
  refine W_ret ?_
  subst hnil
  obtain rfl : [] = ys := hys
  have H := H.nilRowK 3 kInt
  exact ⟨[.slice none 0 0], (.tmp (by rfl) rfl), none, 0, [], rfl, H.pick [1]⟩
 ·refine W_skip ?_
  refine W_seq ?_
  refine W_region ?_
  refine RL_cons (O_buildSlice0 (D := kInt) (by exact wn0 rfl) (by rfl) sl23 sz3 H (fun w4 b5 (H : Sep ok w w4 [.row (.slice (some ⟨b5, 0, none⟩) 0 0) 3 kInt.sz 0 []] [RE.rd kInt A1 c2 a0, RE.chunks kInt [] []]) => ?_))
  refine RL_pure (by exact wn0 rfl) (by rfl) (by rfl) (x_move (v := .slice A1 a0.length c2) (by rfl)) ?_
  refine RL_cons (O_appendAll (D := kInt) (xs := ([] : List Int)) (i := 0) (j := 1) (zs := a0) (by exact wn0 rfl) (by rfl) (by rfl) (by rfl) H (by rfl) (by rfl) (H.rd (i := 0) (by rfl)) hys sl23 sz3 by3 ze3 (by rfl) (by rfl) hbb (by rfl) (fun w6 A7 c8 cs9 (H : Sep ok w w6 [.row (.slice A7 ys.length c8) 3 kInt.sz ys.length cs9] [RE.rd kInt A1 c2 a0, RE.chunks kInt cs9 ys]) => ?_))
  refine RL_pure (by exact wn0 rfl) (by rfl) (by rfl) (x_assign (v := .slice A7 ys.length c8) (by rfl)) ?_
  refine RL_nil ?_
  refine W_ret ?_
  exact ⟨[.slice A7 ys.length c8], (.tmp (by rfl) rfl), A7, c8, cs9, rfl, H.pick [1]⟩
end Go.Proofs.YtobkigllalbkiaaV.M

/- A plain Lean function that answers as the Go function does (none: not told), and the proof that a call answers so. Written by program. -/
set_option linter.unusedVariables false
namespace Go.Proofs.YtobkigllalbkiaaV.M
open Go.RowKit Go.Proofs.YtobkigllalbkiaaV
/-- diorama/pyramid.Build -/
def m15 (K : Nat) (a0 : S_Frame) : Option (S_Pyramid × Int) :=
 ((m33 K a0).bind fun v22 => (bif (v22 != 0) then some ((⟨[]⟩ : S_Pyramid), v22) else ((m59 K a0.Depth).bind fun v28 => ((m58 K (⟨a0.W, a0.H, v28⟩ : S_Level)).bind fun v36 => some (v36, 0)))))
set_option maxRecDepth 100000 in
set_option maxHeartbeats 4000000 in
theorem c15 (ok : Nat → Prop) (K : Nat) (w : World) (a0 : S_Frame) (A1 : Option Addr) (cp2 : Nat) (A5 : Option Addr) (cp6 : Nat) (A9 : Option Addr) (cp10 : Nat) (A13 : Option Addr) (cp14 : Nat) (hR3 : Rd k_Ar4_Int w ok A1 cp2 a0.Color) (hR7 : Rd kInt w ok A5 cp6 a0.Depth) (hR11 : Rd kInt w ok A9 cp10 a0.Item) (hR15 : Rd kInt w ok A13 cp14 a0.Tri) (res : S_Pyramid × Int) (hm : m15 K a0 = some res) :
  Calls Try.prog 15 #[.agg #[.int .i64 a0.W, .int .i64 a0.H, .slice A1 a0.Color.length cp2, .slice A5 a0.Depth.length cp6, .slice A9 a0.Item.length cp10, .slice A13 a0.Tri.length cp14]] w (fun e w' => ∃ (A0_ : Option Addr) (c0_ : Nat), e = .returned (tup [.agg #[.slice A0_ res.1.Levels.length c0_], .int .i64 res.2]) ∧ Sep ok w w' [] [RE.rd k_Level A0_ c0_ res.1.Levels]) := by
 refine calls_W (args := [.agg #[.int .i64 a0.W, .int .i64 a0.H, .slice A1 a0.Color.length cp2, .slice A5 a0.Depth.length cp6, .slice A9 a0.Item.length cp10, .slice A13 a0.Tri.length cp14]]) Try.func15 rfl Try.ntmps15 Try.results15 rfl fun r hr => ?_
 obtain ⟨r1, rfl⟩ := regen (r := r) [(0, .agg #[.int .i64 a0.W, .int .i64 a0.H, .slice A1 a0.Color.length cp2, .slice A5 a0.Depth.length cp6, .slice A9 a0.Item.length cp10, .slice A13 a0.Tri.length cp14])] ⟨hr 0 _ rfl, trivial⟩
 have H : Sep ok w w [] [RE.rd k_Ar4_Int A1 cp2 a0.Color, RE.rd kInt A5 cp6 a0.Depth, RE.rd kInt A9 cp10 a0.Item, RE.rd kInt A13 cp14 a0.Tri] := Sep.arg (Sep.arg (Sep.arg (Sep.arg (Sep.start ok w) (re := RE.rd k_Ar4_Int A1 cp2 a0.Color) rfl rfl hR3) (re := RE.rd kInt A5 cp6 a0.Depth) rfl rfl hR7) (re := RE.rd kInt A9 cp10 a0.Item) rfl rfl hR11) (re := RE.rd kInt A13 cp14 a0.Tri) rfl rfl hR15
 unfold m15 at hm
 refine W_seq ?_
 refine W_region ?_
 refine RL_cons (O_box (by exact wn0 rfl) (by rfl) (by rfl) (by rfl) H (fun w18 b17 (H : Sep ok w w18 [.blk b17 25 [.int .i64 a0.W, .int .i64 a0.H, .slice A1 a0.Color.length cp2, .slice A5 a0.Depth.length cp6, .slice A9 a0.Item.length cp10, .slice A13 a0.Tri.length cp14]] [RE.rd k_Ar4_Int A1 cp2 a0.Color, RE.rd kInt A5 cp6 a0.Depth, RE.rd kInt A9 cp10 a0.Item, RE.rd kInt A13 cp14 a0.Tri]) => ?_))
 refine RL_cons (O_alloc (by exact wn0 rfl) (by rfl) ze28 (by rfl) H (fun w20 b19 (H : Sep ok w w20 [.blk b17 25 [.int .i64 a0.W, .int .i64 a0.H, .slice A1 a0.Color.length cp2, .slice A5 a0.Depth.length cp6, .slice A9 a0.Item.length cp10, .slice A13 a0.Tri.length cp14], .blk b19 28 [.slice none 0 0]] [RE.rd k_Ar4_Int A1 cp2 a0.Color, RE.rd kInt A5 cp6 a0.Depth, RE.rd kInt A9 cp10 a0.Item, RE.rd kInt A13 cp14 a0.Tri]) => ?_))
 refine RL_pure (by exact wn0 rfl) (by rfl) (by rfl) (x_assign (v := .int .i64 0) (by rfl)) ?_
 refine RL_nil ?_
 refine W_seq ?_
 refine W_seq ?_
 refine W_region ?_
 refine RL_pure (by exact wn0 rfl) (by rfl) (by rfl) (x_loadA (j := 0) (vs := [.int .i64 a0.W, .int .i64 a0.H, .slice A1 a0.Color.length cp2, .slice A5 a0.Depth.length cp6, .slice A9 a0.Item.length cp10, .slice A13 a0.Tri.length cp14]) ag25 (by rfl) (H.cells (i := 0) (by rfl)) (by rfl) (by rfl)) ?_
 obtain ⟨v22, hv21, hm⟩ := bind_some hm
 refine RL_cons (O_call (by exact wn0 rfl) (by rfl) (by rfl) (x_callL (by rfl) (args := [.agg #[.int .i64 a0.W, .int .i64 a0.H, .slice A1 a0.Color.length cp2, .slice A5 a0.Depth.length cp6, .slice A9 a0.Item.length cp10, .slice A13 a0.Tri.length cp14]]) (by rfl) (cf33 _ _)) (c33 (fun _ => True) K w20 a0 A1 cp2 A5 cp6 A9 cp10 A13 cp14 (H.rd (i := 0) (by rfl)).any (H.rd (i := 1) (by rfl)).any (H.rd (i := 2) (by rfl)).any (H.rd (i := 3) (by rfl)).any v22 hv21) ?_)
 rintro e w23 ⟨rfl, H2⟩
 have H : Sep ok w w23 [.blk b17 25 [.int .i64 a0.W, .int .i64 a0.H, .slice A1 a0.Color.length cp2, .slice A5 a0.Depth.length cp6, .slice A9 a0.Item.length cp10, .slice A13 a0.Tri.length cp14], .blk b19 28 [.slice none 0 0]] [RE.rd k_Ar4_Int A1 cp2 a0.Color, RE.rd kInt A5 cp6 a0.Depth, RE.rd kInt A9 cp10 a0.Item, RE.rd kInt A13 cp14 a0.Tri] := H.below H2.base
 clear H2
 refine ⟨_, rfl, ?_⟩
 show RL _ _ _ _ _ _ _
 refine RL_pure (by exact wn0 rfl) (by rfl) (by rfl) (x_assign (v := .int .i64 v22) (by rfl)) ?_
 refine RL_nil ?_
 refine W_seq ?_
 refine W_region ?_
 refine RL_pure (by exact wn0 rfl) (by rfl) (by rfl) (x_move (v := .int .i64 v22) (by rfl)) ?_
 refine RL_pure (by exact wn0 rfl) (by rfl) (by rfl) (x_neq (by rfl) (by rfl)) ?_
 refine RL_nil ?_
 refine W_cond (by rfl) (fun hb => ?_) (fun hb => ?_)
 ·have hm := cond_t hb hm
  refine W_seq ?_
  refine W_region ?_
  refine RL_pure (by exact wn0 rfl) (by rfl) (by rfl) (x_build (vs := []) (cs := [.slice none 0 0]) (by rfl) (by kernel_rfl)) ?_
  refine RL_pure (by exact wn0 rfl) (by rfl) (by rfl) (x_move (v := .int .i64 v22) (by rfl)) ?_
  refine RL_cons (O_store (i := 1) (off := 0) (by exact wn0 rfl) (by rfl) (by rfl) H (by rfl) (vs := [.slice none 0 0]) (by rfl) sz28 (by rfl) (by rfl) (by rfl) (fun w24 (H : Sep ok w w24 [.blk b17 25 [.int .i64 a0.W, .int .i64 a0.H, .slice A1 a0.Color.length cp2, .slice A5 a0.Depth.length cp6, .slice A9 a0.Item.length cp10, .slice A13 a0.Tri.length cp14], .blk b19 28 [.slice none 0 0]] [RE.rd k_Ar4_Int A1 cp2 a0.Color, RE.rd kInt A5 cp6 a0.Depth, RE.rd kInt A9 cp10 a0.Item, RE.rd kInt A13 cp14 a0.Tri]) => ?_))
  refine RL_pure (by exact wn0 rfl) (by rfl) (by rfl) (x_assign (v := .int .i64 v22) (by rfl)) ?_
  refine RL_nil ?_
  refine W_ret ?_
  have H : Sep ok w w24 [.blk b17 25 [.int .i64 a0.W, .int .i64 a0.H, .slice A1 a0.Color.length cp2, .slice A5 a0.Depth.length cp6, .slice A9 a0.Item.length cp10, .slice A13 a0.Tri.length cp14], .blk b19 28 [.slice none 0 0]] [RE.rd k_Ar4_Int A1 cp2 a0.Color, RE.rd kInt A5 cp6 a0.Depth, RE.rd kInt A9 cp10 a0.Item, RE.rd kInt A13 cp14 a0.Tri, RE.rd k_Level none 0 ([])] := Sep.also H (re := RE.rd k_Level none 0 ([])) (Rd.nil (by decide))
  obtain rfl := Option.some.inj hm
  exact ⟨[.agg #[.slice none 0 0], .int .i64 v22], (.cellA (by rfl) ag28 (H.cells (i := 1) (by rfl)) (by rfl) (.tmp (by rfl) rfl)), none, 0, rfl, (H.forgetAll).pick [4]⟩
 ·have hm := cond_f hb hm
  refine W_skip ?_
  refine W_seq ?_
  refine W_draw [.free 0, .take 1, .free 2, .take 3, .free 4, .take 5, .run 6, .free 7, .run 8, .tail 9, .free 10] (fun wS => Sep ok w wS [.blk b17 25 [.int .i64 a0.W, .int .i64 a0.H, .slice A1 a0.Color.length cp2, .slice A5 a0.Depth.length cp6, .slice A9 a0.Item.length cp10, .slice A13 a0.Tri.length cp14], .blk b19 28 [.slice none 0 0]] [RE.rd k_Ar4_Int A1 cp2 a0.Color, RE.rd kInt A5 cp6 a0.Depth, RE.rd kInt A9 cp10 a0.Item, RE.rd kInt A13 cp14 a0.Tri]) [9] [0, 2, 4, 7, 10] mixed0 (by kernel_rfl) (by kernel_rfl) (by kernel_rfl) (by rfl) (by exact H.drew) ?_
  obtain ⟨w26, hW⟩ : ∃ W : World, W = { w23 with drawn := w23.drawn + 1 } := ⟨_, rfl⟩
  rw [← hW]
  have H : Sep ok w w26 [.blk b17 25 [.int .i64 a0.W, .int .i64 a0.H, .slice A1 a0.Color.length cp2, .slice A5 a0.Depth.length cp6, .slice A9 a0.Item.length cp10, .slice A13 a0.Tri.length cp14], .blk b19 28 [.slice none 0 0]] [RE.rd k_Ar4_Int A1 cp2 a0.Color, RE.rd kInt A5 cp6 a0.Depth, RE.rd kInt A9 cp10 a0.Item, RE.rd kInt A13 cp14 a0.Tri] := by rw [hW]; exact H.drew
  clear hW
  refine PR_free (by rfl) (by rfl) (by rfl) (by exact wn0 rfl) (fun wS => (x_fieldAddr fo25_0 (by rfl))) ?_
  refine PR_take (by rfl) (by rfl) (by rfl) (by exact wn0 rfl) (fun wS (H : Sep ok w wS [.blk b17 25 [.int .i64 a0.W, .int .i64 a0.H, .slice A1 a0.Color.length cp2, .slice A5 a0.Depth.length cp6, .slice A9 a0.Item.length cp10, .slice A13 a0.Tri.length cp14], .blk b19 28 [.slice none 0 0]] [RE.rd k_Ar4_Int A1 cp2 a0.Color, RE.rd kInt A5 cp6 a0.Depth, RE.rd kInt A9 cp10 a0.Item, RE.rd kInt A13 cp14 a0.Tri]) => (x_load (j := 0) (v := .int .i64 a0.W) sc3 (by rfl) (H.cells (i := 0) (by rfl)) (by rfl))) ?_
  refine PR_free (by rfl) (by rfl) (by rfl) (by exact wn0 rfl) (fun wS => (x_fieldAddr fo25_1 (by rfl))) ?_
  refine PR_take (by rfl) (by rfl) (by rfl) (by exact wn0 rfl) (fun wS (H : Sep ok w wS [.blk b17 25 [.int .i64 a0.W, .int .i64 a0.H, .slice A1 a0.Color.length cp2, .slice A5 a0.Depth.length cp6, .slice A9 a0.Item.length cp10, .slice A13 a0.Tri.length cp14], .blk b19 28 [.slice none 0 0]] [RE.rd k_Ar4_Int A1 cp2 a0.Color, RE.rd kInt A5 cp6 a0.Depth, RE.rd kInt A9 cp10 a0.Item, RE.rd kInt A13 cp14 a0.Tri]) => (x_load (j := 1) (v := .int .i64 a0.H) sc3 (by rfl) (H.cells (i := 0) (by rfl)) (by rfl))) ?_
  refine PR_free (by rfl) (by rfl) (by rfl) (by exact wn0 rfl) (fun wS => (x_fieldAddr fo25_3 (by rfl))) ?_
  refine PR_take (by rfl) (by rfl) (by rfl) (by exact wn0 rfl) (fun wS (H : Sep ok w wS [.blk b17 25 [.int .i64 a0.W, .int .i64 a0.H, .slice A1 a0.Color.length cp2, .slice A5 a0.Depth.length cp6, .slice A9 a0.Item.length cp10, .slice A13 a0.Tri.length cp14], .blk b19 28 [.slice none 0 0]] [RE.rd k_Ar4_Int A1 cp2 a0.Color, RE.rd kInt A5 cp6 a0.Depth, RE.rd kInt A9 cp10 a0.Item, RE.rd kInt A13 cp14 a0.Tri]) => (x_load (j := 3) (v := .slice A5 a0.Depth.length cp6) sc23 (by rfl) (H.cells (i := 0) (by rfl)) (by rfl))) ?_
  obtain ⟨v28, hv27, hm⟩ := bind_some hm
  refine PR_run (by rfl) (O_call (by exact wn0 rfl) (by rfl) (by rfl) (x_callL (by rfl) (args := [.slice A5 a0.Depth.length cp6]) (by rfl) (cf59 _ _)) (c59 (okS ok w [.blk b17 25 [.int .i64 a0.W, .int .i64 a0.H, .slice A1 a0.Color.length cp2, .slice A5 a0.Depth.length cp6, .slice A9 a0.Item.length cp10, .slice A13 a0.Tri.length cp14], .blk b19 28 [.slice none 0 0]]) K w26 a0.Depth A5 cp6 (H.rd (i := 1) (by rfl)) v28 hv27) ?_)
  rintro e w29 ⟨A30, cp31, cs32, rfl, H2⟩
  have H : Sep ok w w29 [.blk b17 25 [.int .i64 a0.W, .int .i64 a0.H, .slice A1 a0.Color.length cp2, .slice A5 a0.Depth.length cp6, .slice A9 a0.Item.length cp10, .slice A13 a0.Tri.length cp14], .blk b19 28 [.slice none 0 0], .row (.slice A30 v28.length cp31) 3 kInt.sz v28.length cs32] [RE.rd k_Ar4_Int A1 cp2 a0.Color, RE.rd kInt A5 cp6 a0.Depth, RE.rd kInt A9 cp10 a0.Item, RE.rd kInt A13 cp14 a0.Tri, RE.chunks kInt cs32 v28] := H.call H2
  clear H2
  refine ⟨_, rfl, (Sep.takeR (Sep.takeL H 2) 4), ?_⟩
  show PR _ _ _ _ _ _ _ _
  refine PR_free (by rfl) (by rfl) (by rfl) (by exact wn0 rfl) (fun wS => (x_build (vs := [(0, .int .i64 a0.W), (1, .int .i64 a0.H), (2, .slice A30 v28.length cp31)]) (cs := [.int .i64 a0.W, .int .i64 a0.H, .slice A30 v28.length cp31]) (by rfl) (by kernel_rfl))) ?_
  obtain ⟨v36, hv35, hm⟩ := bind_some hm
  have H : Sep ok w w29 [.blk b17 25 [.int .i64 a0.W, .int .i64 a0.H, .slice A1 a0.Color.length cp2, .slice A5 a0.Depth.length cp6, .slice A9 a0.Item.length cp10, .slice A13 a0.Tri.length cp14], .blk b19 28 [.slice none 0 0], .hole] [RE.rd k_Ar4_Int A1 cp2 a0.Color, RE.rd kInt A5 cp6 a0.Depth, RE.rd kInt A9 cp10 a0.Item, RE.rd kInt A13 cp14 a0.Tri, RE.rd kInt A30 cp31 v28] := H.frozen (i := 2) (j := 4) (by rfl) (by rfl)
  refine PR_run (by rfl) (O_call (by exact wn0 rfl) (by rfl) (by rfl) (x_callL (by rfl) (args := [.agg #[.int .i64 a0.W, .int .i64 a0.H, .slice A30 v28.length cp31]]) (by rfl) (cf58 _ _)) (c58 (okS ok w [.blk b17 25 [.int .i64 a0.W, .int .i64 a0.H, .slice A1 a0.Color.length cp2, .slice A5 a0.Depth.length cp6, .slice A9 a0.Item.length cp10, .slice A13 a0.Tri.length cp14], .blk b19 28 [.slice none 0 0], .hole]) K w29 (⟨a0.W, a0.H, v28⟩ : S_Level) A30 cp31 (H.rd (i := 4) (by rfl)) v36 hv35) ?_)
  rintro e w37 ⟨A38, cp39, rfl, H2⟩
  have H : Sep ok w w37 [.blk b17 25 [.int .i64 a0.W, .int .i64 a0.H, .slice A1 a0.Color.length cp2, .slice A5 a0.Depth.length cp6, .slice A9 a0.Item.length cp10, .slice A13 a0.Tri.length cp14], .blk b19 28 [.slice none 0 0], .hole] [RE.rd k_Ar4_Int A1 cp2 a0.Color, RE.rd kInt A5 cp6 a0.Depth, RE.rd kInt A9 cp10 a0.Item, RE.rd kInt A13 cp14 a0.Tri, RE.rd kInt A30 cp31 v28, RE.rd k_Level A38 cp39 v36.Levels] := H.call H2
  clear H2
  refine ⟨_, rfl, (Sep.takeR (Sep.takeL H 2) 4), ?_⟩
  show PR _ _ _ _ _ _ _ _
  refine PR_tail (by rfl) (O_store (i := 1) (off := 0) (by exact wn0 rfl) (by rfl) (by rfl) H (by rfl) (vs := [.slice A38 v36.Levels.length cp39]) (by rfl) sz28 (by rfl) (by rfl) (by rfl) (fun w41 (H : Sep ok w w41 [.blk b17 25 [.int .i64 a0.W, .int .i64 a0.H, .slice A1 a0.Color.length cp2, .slice A5 a0.Depth.length cp6, .slice A9 a0.Item.length cp10, .slice A13 a0.Tri.length cp14], .blk b19 28 [.slice A38 v36.Levels.length cp39], .hole] [RE.rd k_Ar4_Int A1 cp2 a0.Color, RE.rd kInt A5 cp6 a0.Depth, RE.rd kInt A9 cp10 a0.Item, RE.rd kInt A13 cp14 a0.Tri, RE.rd kInt A30 cp31 v28, RE.rd k_Level A38 cp39 v36.Levels]) => ?_))
  refine PR_free (by rfl) (by rfl) (by rfl) (by exact wn0 rfl) (fun wS => (x_assign (v := .int .i64 0) (by rfl))) ?_
  refine PR_nil ?_
  refine W_ret ?_
  obtain rfl := Option.some.inj hm
  exact ⟨[.agg #[.slice A38 v36.Levels.length cp39], .int .i64 0], (.cellA (by rfl) ag28 (H.cells (i := 1) (by rfl)) (by rfl) (.tmp (by rfl) rfl)), A38, cp39, rfl, (H.forgetAll).pick [5]⟩
end Go.Proofs.YtobkigllalbkiaaV.M

/- A plain Lean function that answers as the Go function does (none: not told), and the proof that a call answers so. Written by program. -/
set_option linter.unusedVariables false
namespace Go.Proofs.YtobkigllalbkiaaV.M
open Go.RowKit Go.Proofs.YtobkigllalbkiaaV

/-- slices.Clone -/
def m113 (K : Nat) (a0 : List (Ar4 Int)) : Option (List (Ar4 Int)) := apds 4 ([] : List (Ar4 Int)) a0 fun l => some l
set_option maxRecDepth 100000 in
set_option maxHeartbeats 4000000 in
theorem c113 (ok : Nat → Prop) (K : Nat) (w : World) (a0 : List (Ar4 Int)) (A1 : Option Addr) (c2 : Nat) (hR3 : Rd k_Ar4_Int w ok A1 c2 a0) (res : List (Ar4 Int)) (hm : m113 K a0 = some res) :
  Calls Try.prog 113 #[.slice A1 a0.length c2] w (fun e w' => ∃ (A0_ : Option Addr) (c0_ : Nat) (sA0_ : List Value), e = .returned (tup [.slice A0_ res.length c0_]) ∧ Sep ok w w' [.row (.slice A0_ res.length c0_) 61 k_Ar4_Int.sz res.length sA0_] [RE.chunks k_Ar4_Int sA0_ res]) := by
 refine calls_W (args := [.slice A1 a0.length c2]) Try.func113 rfl Try.ntmps113 Try.results113 rfl fun r hr => ?_
 obtain ⟨r1, rfl⟩ := regen (r := r) [(0, .slice A1 a0.length c2)] ⟨hr 0 _ rfl, trivial⟩
 have H : Sep ok w w [] [RE.rd k_Ar4_Int A1 c2 a0] := Sep.arg (Sep.start ok w) (re := RE.rd k_Ar4_Int A1 c2 a0) rfl rfl hR3
 unfold m113 at hm
 obtain ⟨ys, hys, hbb, hm⟩ := apds_some hm
 obtain rfl := Option.some.inj hm
 refine W_seq ?_
 refine W_region ?_
 refine RL_pure (by exact wn0 rfl) (by rfl) (by rfl) (x_assign (v := .slice none 0 0) (by rfl)) ?_
 refine RL_nil ?_
 refine W_seq ?_
 refine W_seq ?_
 refine W_region ?_
 refine RL_pure (by exact wn0 rfl) (by rfl) (by rfl) (x_move (v := .slice A1 a0.length c2) (by rfl)) ?_
 refine RL_pure (by exact wn0 rfl) (by rfl) (by rfl) (x_eqnil sl22 (by rfl)) ?_
 refine RL_nil ?_
 refine W_cond (by rfl) (fun hb => ?_) (fun hb => ?_)
 ·have hnil : a0 = [] := by
   by_cases hne : a0 = []
   ·exact hne
   ·obtain ⟨g, o, hA, _⟩ := hR3.2.2 hne
    rw [hA] at hb; cases hb
  refine W_seq ?_
  refine W_region ?_
  refine RL_pure (by exact wn0 rfl) (by rfl) (by rfl) (x_assign (v := .slice none 0 0) (by rfl)) ?_
  refine RL_nil ?_
  refine W_ret ?_
  subst hnil
  obtain rfl : [] = ys := hys
  have H := H.nilRowK 61 k_Ar4_Int
  exact ⟨[.slice none 0 0], (.tmp (by rfl) rfl), none, 0, [], rfl, H.pick [1]⟩
 ·refine W_skip ?_
  refine W_seq ?_
  refine W_region ?_
  refine RL_cons (O_buildSlice0 (D := k_Ar4_Int) (by exact wn0 rfl) (by rfl) sl22 sz61 H (fun w4 b5 (H : Sep ok w w4 [.row (.slice (some ⟨b5, 0, none⟩) 0 0) 61 k_Ar4_Int.sz 0 []] [RE.rd k_Ar4_Int A1 c2 a0, RE.chunks k_Ar4_Int [] []]) => ?_))
  refine RL_pure (by exact wn0 rfl) (by rfl) (by rfl) (x_move (v := .slice A1 a0.length c2) (by rfl)) ?_
  refine RL_cons (O_appendAll (D := k_Ar4_Int) (xs := ([] : List (Ar4 Int))) (i := 0) (j := 1) (zs := a0) (by exact wn0 rfl) (by rfl) (by rfl) (by rfl) H (by rfl) (by rfl) (H.rd (i := 0) (by rfl)) hys sl22 sz61 by61 ze61 (by rfl) (by rfl) hbb (by rfl) (fun w6 A7 c8 cs9 (H : Sep ok w w6 [.row (.slice A7 ys.length c8) 61 k_Ar4_Int.sz ys.length cs9] [RE.rd k_Ar4_Int A1 c2 a0, RE.chunks k_Ar4_Int cs9 ys]) => ?_))
  refine RL_pure (by exact wn0 rfl) (by rfl) (by rfl) (x_assign (v := .slice A7 ys.length c8) (by rfl)) ?_
  refine RL_nil ?_
  refine W_ret ?_
  exact ⟨[.slice A7 ys.length c8], (.tmp (by rfl) rfl), A7, c8, cs9, rfl, H.pick [1]⟩
end Go.Proofs.YtobkigllalbkiaaV.M

/- A plain Lean function that answers as the Go function does (none: not told), and the proof that a call answers so. Written by program. -/
set_option linter.unusedVariables false
namespace Go.Proofs.YtobkigllalbkiaaV.M
open Go.RowKit Go.Proofs.YtobkigllalbkiaaV
/-- diorama/frame.twin -/
def m69 (K : Nat) (a0 : S_Frame) (a1 : Int) (a2 : Int) : Option (S_open × Int × Int) :=
 ((m33 K a0).bind fun v22 => (bif (v22 != 0) then some ((⟨(⟨0, 0, [], [], [], []⟩ : S_Frame)⟩ : S_open), 0, v22) else ((bif (decide (a1 < 0)) then some true else some (decide (a0.W ≤ a1))).bind fun b33 => ((bif b33 then some true else some (decide (a2 < 0))).bind fun b36 => ((bif b36 then some true else some (decide (a0.H ≤ a2))).bind fun b39 => (bif b39 then some ((⟨(⟨0, 0, [], [], [], []⟩ : S_Frame)⟩ : S_open), 0, 2) else (ck (a2 * a0.W) fun x52 => (ck (x52 + a1) fun x53 => ((m113 K a0.Color).bind fun v55 => ((m59 K a0.Depth).bind fun v63 => ((m59 K a0.Item).bind fun v71 => ((m59 K a0.Tri).bind fun v79 => some ((⟨(⟨a0.W, a0.H, v55, v63, v71, v79⟩ : S_Frame)⟩ : S_open), x53, 0)))))))))))))
set_option maxRecDepth 100000 in
set_option maxHeartbeats 4000000 in
theorem c69 (ok : Nat → Prop) (K : Nat) (w : World) (a0 : S_Frame) (A1 : Option Addr) (cp2 : Nat) (A5 : Option Addr) (cp6 : Nat) (A9 : Option Addr) (cp10 : Nat) (A13 : Option Addr) (cp14 : Nat) (a1 : Int) (a2 : Int) (hR3 : Rd k_Ar4_Int w ok A1 cp2 a0.Color) (hR7 : Rd kInt w ok A5 cp6 a0.Depth) (hR11 : Rd kInt w ok A9 cp10 a0.Item) (hR15 : Rd kInt w ok A13 cp14 a0.Tri) (res : S_open × Int × Int) (hm : m69 K a0 a1 a2 = some res) :
  Calls Try.prog 69 #[.agg #[.int .i64 a0.W, .int .i64 a0.H, .slice A1 a0.Color.length cp2, .slice A5 a0.Depth.length cp6, .slice A9 a0.Item.length cp10, .slice A13 a0.Tri.length cp14], .int .i64 a1, .int .i64 a2] w (fun e w' => ∃ (A0_ : Option Addr) (c0_ : Nat) (sA0_ : List Value), ∃ (A1_ : Option Addr) (c1_ : Nat) (sA1_ : List Value), ∃ (A2_ : Option Addr) (c2_ : Nat) (sA2_ : List Value), ∃ (A3_ : Option Addr) (c3_ : Nat) (sA3_ : List Value), e = .returned (tup [.agg #[.int .i64 res.1.Frame.W, .int .i64 res.1.Frame.H, .slice A0_ res.1.Frame.Color.length c0_, .slice A1_ res.1.Frame.Depth.length c1_, .slice A2_ res.1.Frame.Item.length c2_, .slice A3_ res.1.Frame.Tri.length c3_], .int .i64 res.2.1, .int .i64 res.2.2]) ∧ Sep ok w w' [.row (.slice A0_ res.1.Frame.Color.length c0_) 61 k_Ar4_Int.sz res.1.Frame.Color.length sA0_, .row (.slice A1_ res.1.Frame.Depth.length c1_) 3 kInt.sz res.1.Frame.Depth.length sA1_, .row (.slice A2_ res.1.Frame.Item.length c2_) 3 kInt.sz res.1.Frame.Item.length sA2_, .row (.slice A3_ res.1.Frame.Tri.length c3_) 3 kInt.sz res.1.Frame.Tri.length sA3_] [RE.chunks k_Ar4_Int sA0_ res.1.Frame.Color, RE.chunks kInt sA1_ res.1.Frame.Depth, RE.chunks kInt sA2_ res.1.Frame.Item, RE.chunks kInt sA3_ res.1.Frame.Tri]) := by
 refine calls_W (args := [.agg #[.int .i64 a0.W, .int .i64 a0.H, .slice A1 a0.Color.length cp2, .slice A5 a0.Depth.length cp6, .slice A9 a0.Item.length cp10, .slice A13 a0.Tri.length cp14], .int .i64 a1, .int .i64 a2]) Try.func69 rfl Try.ntmps69 Try.results69 rfl fun r hr => ?_
 obtain ⟨r1, rfl⟩ := regen (r := r) [(0, .agg #[.int .i64 a0.W, .int .i64 a0.H, .slice A1 a0.Color.length cp2, .slice A5 a0.Depth.length cp6, .slice A9 a0.Item.length cp10, .slice A13 a0.Tri.length cp14]), (1, .int .i64 a1), (2, .int .i64 a2)] ⟨hr 0 _ rfl, hr 1 _ rfl, hr 2 _ rfl, trivial⟩
 have H : Sep ok w w [] [RE.rd k_Ar4_Int A1 cp2 a0.Color, RE.rd kInt A5 cp6 a0.Depth, RE.rd kInt A9 cp10 a0.Item, RE.rd kInt A13 cp14 a0.Tri] := Sep.arg (Sep.arg (Sep.arg (Sep.arg (Sep.start ok w) (re := RE.rd k_Ar4_Int A1 cp2 a0.Color) rfl rfl hR3) (re := RE.rd kInt A5 cp6 a0.Depth) rfl rfl hR7) (re := RE.rd kInt A9 cp10 a0.Item) rfl rfl hR11) (re := RE.rd kInt A13 cp14 a0.Tri) rfl rfl hR15
 unfold m69 at hm
 refine W_seq ?_
 refine W_region ?_
 refine RL_cons (O_box (by exact wn0 rfl) (by rfl) (by rfl) (by rfl) H (fun w18 b17 (H : Sep ok w w18 [.blk b17 25 [.int .i64 a0.W, .int .i64 a0.H, .slice A1 a0.Color.length cp2, .slice A5 a0.Depth.length cp6, .slice A9 a0.Item.length cp10, .slice A13 a0.Tri.length cp14]] [RE.rd k_Ar4_Int A1 cp2 a0.Color, RE.rd kInt A5 cp6 a0.Depth, RE.rd kInt A9 cp10 a0.Item, RE.rd kInt A13 cp14 a0.Tri]) => ?_))
 refine RL_cons (O_alloc (by exact wn0 rfl) (by rfl) ze121 (by rfl) H (fun w20 b19 (H : Sep ok w w20 [.blk b17 25 [.int .i64 a0.W, .int .i64 a0.H, .slice A1 a0.Color.length cp2, .slice A5 a0.Depth.length cp6, .slice A9 a0.Item.length cp10, .slice A13 a0.Tri.length cp14], .blk b19 121 [.int .i64 0, .int .i64 0, .slice none 0 0, .slice none 0 0, .slice none 0 0, .slice none 0 0]] [RE.rd k_Ar4_Int A1 cp2 a0.Color, RE.rd kInt A5 cp6 a0.Depth, RE.rd kInt A9 cp10 a0.Item, RE.rd kInt A13 cp14 a0.Tri]) => ?_))
 refine RL_pure (by exact wn0 rfl) (by rfl) (by rfl) (x_assign (v := .int .i64 0) (by rfl)) ?_
 refine RL_pure (by exact wn0 rfl) (by rfl) (by rfl) (x_assign (v := .int .i64 0) (by rfl)) ?_
 refine RL_nil ?_
 refine W_seq ?_
 refine W_seq ?_
 refine W_region ?_
 refine RL_pure (by exact wn0 rfl) (by rfl) (by rfl) (x_loadA (j := 0) (vs := [.int .i64 a0.W, .int .i64 a0.H, .slice A1 a0.Color.length cp2, .slice A5 a0.Depth.length cp6, .slice A9 a0.Item.length cp10, .slice A13 a0.Tri.length cp14]) ag25 (by rfl) (H.cells (i := 0) (by rfl)) (by rfl) (by rfl)) ?_
 obtain ⟨v22, hv21, hm⟩ := bind_some hm
 refine RL_cons (O_call (by exact wn0 rfl) (by rfl) (by rfl) (x_callL (by rfl) (args := [.agg #[.int .i64 a0.W, .int .i64 a0.H, .slice A1 a0.Color.length cp2, .slice A5 a0.Depth.length cp6, .slice A9 a0.Item.length cp10, .slice A13 a0.Tri.length cp14]]) (by rfl) (cf33 _ _)) (c33 (fun _ => True) K w20 a0 A1 cp2 A5 cp6 A9 cp10 A13 cp14 (H.rd (i := 0) (by rfl)).any (H.rd (i := 1) (by rfl)).any (H.rd (i := 2) (by rfl)).any (H.rd (i := 3) (by rfl)).any v22 hv21) ?_)
 rintro e w23 ⟨rfl, H2⟩
 have H : Sep ok w w23 [.blk b17 25 [.int .i64 a0.W, .int .i64 a0.H, .slice A1 a0.Color.length cp2, .slice A5 a0.Depth.length cp6, .slice A9 a0.Item.length cp10, .slice A13 a0.Tri.length cp14], .blk b19 121 [.int .i64 0, .int .i64 0, .slice none 0 0, .slice none 0 0, .slice none 0 0, .slice none 0 0]] [RE.rd k_Ar4_Int A1 cp2 a0.Color, RE.rd kInt A5 cp6 a0.Depth, RE.rd kInt A9 cp10 a0.Item, RE.rd kInt A13 cp14 a0.Tri] := H.below H2.base
 clear H2
 refine ⟨_, rfl, ?_⟩
 show RL _ _ _ _ _ _ _
 refine RL_pure (by exact wn0 rfl) (by rfl) (by rfl) (x_assign (v := .int .i64 v22) (by rfl)) ?_
 refine RL_nil ?_
 refine W_seq ?_
 refine W_region ?_
 refine RL_pure (by exact wn0 rfl) (by rfl) (by rfl) (x_move (v := .int .i64 v22) (by rfl)) ?_
 refine RL_pure (by exact wn0 rfl) (by rfl) (by rfl) (x_neq (by rfl) (by rfl)) ?_
 refine RL_nil ?_
 refine W_cond (by rfl) (fun hb => ?_) (fun hb => ?_)
 ·have hm := cond_t hb hm
  refine W_seq ?_
  refine W_region ?_
  refine RL_pure (by exact wn0 rfl) (by rfl) (by rfl) (x_build (vs := []) (cs := [.int .i64 0, .int .i64 0, .slice none 0 0, .slice none 0 0, .slice none 0 0, .slice none 0 0]) (by rfl) (by kernel_rfl)) ?_
  refine RL_pure (by exact wn0 rfl) (by rfl) (by rfl) (x_move (v := .int .i64 v22) (by rfl)) ?_
  refine RL_cons (O_store (i := 1) (off := 0) (by exact wn0 rfl) (by rfl) (by rfl) H (by rfl) (vs := [.int .i64 0, .int .i64 0, .slice none 0 0, .slice none 0 0, .slice none 0 0, .slice none 0 0]) (by rfl) sz121 (by rfl) (by rfl) (by rfl) (fun w24 (H : Sep ok w w24 [.blk b17 25 [.int .i64 a0.W, .int .i64 a0.H, .slice A1 a0.Color.length cp2, .slice A5 a0.Depth.length cp6, .slice A9 a0.Item.length cp10, .slice A13 a0.Tri.length cp14], .blk b19 121 [.int .i64 0, .int .i64 0, .slice none 0 0, .slice none 0 0, .slice none 0 0, .slice none 0 0]] [RE.rd k_Ar4_Int A1 cp2 a0.Color, RE.rd kInt A5 cp6 a0.Depth, RE.rd kInt A9 cp10 a0.Item, RE.rd kInt A13 cp14 a0.Tri]) => ?_))
  refine RL_pure (by exact wn0 rfl) (by rfl) (by rfl) (x_assign (v := .int .i64 0) (by rfl)) ?_
  refine RL_pure (by exact wn0 rfl) (by rfl) (by rfl) (x_assign (v := .int .i64 v22) (by rfl)) ?_
  refine RL_nil ?_
  refine W_ret ?_
  have H : Sep ok w w24 [.blk b17 25 [.int .i64 a0.W, .int .i64 a0.H, .slice A1 a0.Color.length cp2, .slice A5 a0.Depth.length cp6, .slice A9 a0.Item.length cp10, .slice A13 a0.Tri.length cp14], .blk b19 121 [.int .i64 0, .int .i64 0, .slice none 0 0, .slice none 0 0, .slice none 0 0, .slice none 0 0], .row (.slice none 0 0) 61 k_Ar4_Int.sz 0 []] [RE.rd k_Ar4_Int A1 cp2 a0.Color, RE.rd kInt A5 cp6 a0.Depth, RE.rd kInt A9 cp10 a0.Item, RE.rd kInt A13 cp14 a0.Tri, RE.chunks k_Ar4_Int [] ([])] := H.nilRowK 61 k_Ar4_Int
  have H : Sep ok w w24 [.blk b17 25 [.int .i64 a0.W, .int .i64 a0.H, .slice A1 a0.Color.length cp2, .slice A5 a0.Depth.length cp6, .slice A9 a0.Item.length cp10, .slice A13 a0.Tri.length cp14], .blk b19 121 [.int .i64 0, .int .i64 0, .slice none 0 0, .slice none 0 0, .slice none 0 0, .slice none 0 0], .row (.slice none 0 0) 61 k_Ar4_Int.sz 0 [], .row (.slice none 0 0) 3 kInt.sz 0 []] [RE.rd k_Ar4_Int A1 cp2 a0.Color, RE.rd kInt A5 cp6 a0.Depth, RE.rd kInt A9 cp10 a0.Item, RE.rd kInt A13 cp14 a0.Tri, RE.chunks k_Ar4_Int [] ([]), RE.chunks kInt [] ([])] := H.nilRowK 3 kInt
  have H : Sep ok w w24 [.blk b17 25 [.int .i64 a0.W, .int .i64 a0.H, .slice A1 a0.Color.length cp2, .slice A5 a0.Depth.length cp6, .slice A9 a0.Item.length cp10, .slice A13 a0.Tri.length cp14], .blk b19 121 [.int .i64 0, .int .i64 0, .slice none 0 0, .slice none 0 0, .slice none 0 0, .slice none 0 0], .row (.slice none 0 0) 61 k_Ar4_Int.sz 0 [], .row (.slice none 0 0) 3 kInt.sz 0 [], .row (.slice none 0 0) 3 kInt.sz 0 []] [RE.rd k_Ar4_Int A1 cp2 a0.Color, RE.rd kInt A5 cp6 a0.Depth, RE.rd kInt A9 cp10 a0.Item, RE.rd kInt A13 cp14 a0.Tri, RE.chunks k_Ar4_Int [] ([]), RE.chunks kInt [] ([]), RE.chunks kInt [] ([])] := H.nilRowK 3 kInt
  have H : Sep ok w w24 [.blk b17 25 [.int .i64 a0.W, .int .i64 a0.H, .slice A1 a0.Color.length cp2, .slice A5 a0.Depth.length cp6, .slice A9 a0.Item.length cp10, .slice A13 a0.Tri.length cp14], .blk b19 121 [.int .i64 0, .int .i64 0, .slice none 0 0, .slice none 0 0, .slice none 0 0, .slice none 0 0], .row (.slice none 0 0) 61 k_Ar4_Int.sz 0 [], .row (.slice none 0 0) 3 kInt.sz 0 [], .row (.slice none 0 0) 3 kInt.sz 0 [], .row (.slice none 0 0) 3 kInt.sz 0 []] [RE.rd k_Ar4_Int A1 cp2 a0.Color, RE.rd kInt A5 cp6 a0.Depth, RE.rd kInt A9 cp10 a0.Item, RE.rd kInt A13 cp14 a0.Tri, RE.chunks k_Ar4_Int [] ([]), RE.chunks kInt [] ([]), RE.chunks kInt [] ([]), RE.chunks kInt [] ([])] := H.nilRowK 3 kInt
  obtain rfl := Option.some.inj hm
  exact ⟨[.agg #[.int .i64 0, .int .i64 0, .slice none 0 0, .slice none 0 0, .slice none 0 0, .slice none 0 0], .int .i64 0, .int .i64 v22], (.cellA (by rfl) ag121 (H.cells (i := 1) (by rfl)) (by rfl) (.tmp (by rfl) (.tmp (by rfl) rfl))), none, 0, [], none, 0, [], none, 0, [], none, 0, [], rfl, (H.pickL [2, 3, 4, 5] (by decide)).pick [4, 5, 6, 7]⟩
 ·have hm := cond_f hb hm
  refine W_skip ?_
  refine W_seq ?_
  refine W_seq ?_
  refine W_region ?_
  refine RL_pure (by exact wn0 rfl) (by rfl) (by rfl) (x_move (v := .int .i64 a1) (by rfl)) ?_
  refine RL_pure (by exact wn0 rfl) (by rfl) (by rfl) (x_lss (by rfl) (by rfl)) ?_
  refine RL_pure (by exact wn0 rfl) (by rfl) (by rfl) (x_move (v := .bool (decide (a1 < 0))) (by rfl)) ?_
  obtain ⟨b33, hmS, hm⟩ := bind_some hm
  refine RL_cut 5 (fun r' w' => Agr [(23, .bool b33), (1, .int .i64 a1), (2, .int .i64 a2), (3, .pointer (some ⟨b17, 0, none⟩)), (6, .pointer (some ⟨b19, 0, none⟩))] r' ∧ Sep ok w w' [.blk b17 25 [.int .i64 a0.W, .int .i64 a0.H, .slice A1 a0.Color.length cp2, .slice A5 a0.Depth.length cp6, .slice A9 a0.Item.length cp10, .slice A13 a0.Tri.length cp14], .blk b19 121 [.int .i64 0, .int .i64 0, .slice none 0 0, .slice none 0 0, .slice none 0 0, .slice none 0 0]] [RE.rd k_Ar4_Int A1 cp2 a0.Color, RE.rd kInt A5 cp6 a0.Depth, RE.rd kInt A9 cp10 a0.Item, RE.rd kInt A13 cp14 a0.Tri]) ?_ ?_
  ·cases hbS : (decide (a1 < 0))
   ·have hm := cond_f hbS hmS
    refine RL_pure (by exact wn1 rfl rfl rfl rfl) (by rfl) (by rfl) (x_move (v := .int .i64 a1) (by rfl)) ?_
    refine RL_pure (by exact wn1 rfl rfl rfl rfl) (by rfl) (by rfl) (x_fieldAddr fo25_0 (by rfl)) ?_
    refine RL_pure (by exact wn1 rfl rfl rfl rfl) (by rfl) (by rfl) (x_load (j := 0) (v := .int .i64 a0.W) sc3 (by rfl) (H.cells (i := 0) (by rfl)) (by rfl)) ?_
    refine RL_pure (by exact wn1 rfl rfl rfl rfl) (by rfl) (by rfl) (x_geq (by rfl) (by rfl)) ?_
    refine RL_pure (by exact wn0 rfl) (by rfl) (by rfl) (x_pick_f (v := .bool (decide (a0.W ≤ a1))) (by rfl) (by rfl)) ?_
    refine RL_nil ?_
    exact ⟨⟨congrArg Value.bool (Option.some.inj hm), rfl, rfl, rfl, rfl, trivial⟩, H⟩
   ·have hm := cond_t hbS hmS
    refine RL_cons (OpR_off (by exact wn2 rfl rfl rfl rfl) (by rfl) (by rfl) ?_)
    refine RL_cons (OpR_off (by exact wn2 rfl rfl rfl rfl) (by rfl) (by rfl) ?_)
    refine RL_cons (OpR_off (by exact wn2 rfl rfl rfl rfl) (by rfl) (by rfl) ?_)
    refine RL_cons (OpR_off (by exact wn2 rfl rfl rfl rfl) (by rfl) (by rfl) ?_)
    refine RL_pure (by exact wn0 rfl) (by rfl) (by rfl) (x_pick_t (v := .bool true) (by rfl) (by rfl)) ?_
    refine RL_nil ?_
    exact ⟨⟨congrArg Value.bool (Option.some.inj hm), rfl, rfl, rfl, rfl, trivial⟩, H⟩
  ·rintro r' w' ⟨hA, H⟩
   obtain ⟨r34, rfl⟩ := regen _ hA; clear hA
   obtain ⟨w35, rfl⟩ : ∃ W : World, W = w' := ⟨_, rfl⟩
   show RL _ _ _ _ _ _ _
   refine RL_pure (by exact wn0 rfl) (by rfl) (by rfl) (x_move (v := .bool b33) (by rfl)) ?_
   obtain ⟨b36, hmS, hm⟩ := bind_some hm
   refine RL_cut 3 (fun r' w' => Agr [(27, .bool b36), (1, .int .i64 a1), (2, .int .i64 a2), (3, .pointer (some ⟨b17, 0, none⟩)), (6, .pointer (some ⟨b19, 0, none⟩))] r' ∧ Sep ok w w' [.blk b17 25 [.int .i64 a0.W, .int .i64 a0.H, .slice A1 a0.Color.length cp2, .slice A5 a0.Depth.length cp6, .slice A9 a0.Item.length cp10, .slice A13 a0.Tri.length cp14], .blk b19 121 [.int .i64 0, .int .i64 0, .slice none 0 0, .slice none 0 0, .slice none 0 0, .slice none 0 0]] [RE.rd k_Ar4_Int A1 cp2 a0.Color, RE.rd kInt A5 cp6 a0.Depth, RE.rd kInt A9 cp10 a0.Item, RE.rd kInt A13 cp14 a0.Tri]) ?_ ?_
   ·cases hbS : b33
    ·have hm := cond_f hbS hmS
     refine RL_pure (by exact wn1 rfl rfl rfl rfl) (by rfl) (by rfl) (x_move (v := .int .i64 a2) (by rfl)) ?_
     refine RL_pure (by exact wn1 rfl rfl rfl rfl) (by rfl) (by rfl) (x_lss (by rfl) (by rfl)) ?_
     refine RL_pure (by exact wn0 rfl) (by rfl) (by rfl) (x_pick_f (v := .bool (decide (a2 < 0))) (by rfl) (by rfl)) ?_
     refine RL_nil ?_
     exact ⟨⟨congrArg Value.bool (Option.some.inj hm), rfl, rfl, rfl, rfl, trivial⟩, H⟩
    ·have hm := cond_t hbS hmS
     refine RL_cons (OpR_off (by exact wn2 rfl rfl rfl rfl) (by rfl) (by rfl) ?_)
     refine RL_cons (OpR_off (by exact wn2 rfl rfl rfl rfl) (by rfl) (by rfl) ?_)
     refine RL_pure (by exact wn0 rfl) (by rfl) (by rfl) (x_pick_t (v := .bool true) (by rfl) (by rfl)) ?_
     refine RL_nil ?_
     exact ⟨⟨congrArg Value.bool (Option.some.inj hm), rfl, rfl, rfl, rfl, trivial⟩, H⟩
   ·rintro r' w' ⟨hA, H⟩
    obtain ⟨r37, rfl⟩ := regen _ hA; clear hA
    obtain ⟨w38, rfl⟩ : ∃ W : World, W = w' := ⟨_, rfl⟩
    show RL _ _ _ _ _ _ _
    refine RL_pure (by exact wn0 rfl) (by rfl) (by rfl) (x_move (v := .bool b36) (by rfl)) ?_
    obtain ⟨b39, hmS, hm⟩ := bind_some hm
    refine RL_cut 5 (fun r' w' => Agr [(33, .bool b39), (1, .int .i64 a1), (2, .int .i64 a2), (3, .pointer (some ⟨b17, 0, none⟩)), (6, .pointer (some ⟨b19, 0, none⟩))] r' ∧ Sep ok w w' [.blk b17 25 [.int .i64 a0.W, .int .i64 a0.H, .slice A1 a0.Color.length cp2, .slice A5 a0.Depth.length cp6, .slice A9 a0.Item.length cp10, .slice A13 a0.Tri.length cp14], .blk b19 121 [.int .i64 0, .int .i64 0, .slice none 0 0, .slice none 0 0, .slice none 0 0, .slice none 0 0]] [RE.rd k_Ar4_Int A1 cp2 a0.Color, RE.rd kInt A5 cp6 a0.Depth, RE.rd kInt A9 cp10 a0.Item, RE.rd kInt A13 cp14 a0.Tri]) ?_ ?_
    ·cases hbS : b36
     ·have hm := cond_f hbS hmS
      refine RL_pure (by exact wn1 rfl rfl rfl rfl) (by rfl) (by rfl) (x_move (v := .int .i64 a2) (by rfl)) ?_
      refine RL_pure (by exact wn1 rfl rfl rfl rfl) (by rfl) (by rfl) (x_fieldAddr fo25_1 (by rfl)) ?_
      refine RL_pure (by exact wn1 rfl rfl rfl rfl) (by rfl) (by rfl) (x_load (j := 1) (v := .int .i64 a0.H) sc3 (by rfl) (H.cells (i := 0) (by rfl)) (by rfl)) ?_
      refine RL_pure (by exact wn1 rfl rfl rfl rfl) (by rfl) (by rfl) (x_geq (by rfl) (by rfl)) ?_
      refine RL_pure (by exact wn0 rfl) (by rfl) (by rfl) (x_pick_f (v := .bool (decide (a0.H ≤ a2))) (by rfl) (by rfl)) ?_
      refine RL_nil ?_
      exact ⟨⟨congrArg Value.bool (Option.some.inj hm), rfl, rfl, rfl, rfl, trivial⟩, H⟩
     ·have hm := cond_t hbS hmS
      refine RL_cons (OpR_off (by exact wn2 rfl rfl rfl rfl) (by rfl) (by rfl) ?_)
      refine RL_cons (OpR_off (by exact wn2 rfl rfl rfl rfl) (by rfl) (by rfl) ?_)
      refine RL_cons (OpR_off (by exact wn2 rfl rfl rfl rfl) (by rfl) (by rfl) ?_)
      refine RL_cons (OpR_off (by exact wn2 rfl rfl rfl rfl) (by rfl) (by rfl) ?_)
      refine RL_pure (by exact wn0 rfl) (by rfl) (by rfl) (x_pick_t (v := .bool true) (by rfl) (by rfl)) ?_
      refine RL_nil ?_
      exact ⟨⟨congrArg Value.bool (Option.some.inj hm), rfl, rfl, rfl, rfl, trivial⟩, H⟩
    ·rintro r' w' ⟨hA, H⟩
     obtain ⟨r40, rfl⟩ := regen _ hA; clear hA
     obtain ⟨w41, rfl⟩ : ∃ W : World, W = w' := ⟨_, rfl⟩
     show RL _ _ _ _ _ _ _
     refine RL_nil ?_
     refine W_cond (by rfl) (fun hb => ?_) (fun hb => ?_)
     ·have hm := cond_t hb hm
      refine W_seq ?_
      refine W_region ?_
      refine RL_pure (by exact wn0 rfl) (by rfl) (by rfl) (x_build (vs := []) (cs := [.int .i64 0, .int .i64 0, .slice none 0 0, .slice none 0 0, .slice none 0 0, .slice none 0 0]) (by rfl) (by kernel_rfl)) ?_
      refine RL_cons (O_store (i := 1) (off := 0) (by exact wn0 rfl) (by rfl) (by rfl) H (by rfl) (vs := [.int .i64 0, .int .i64 0, .slice none 0 0, .slice none 0 0, .slice none 0 0, .slice none 0 0]) (by rfl) sz121 (by rfl) (by rfl) (by rfl) (fun w42 (H : Sep ok w w42 [.blk b17 25 [.int .i64 a0.W, .int .i64 a0.H, .slice A1 a0.Color.length cp2, .slice A5 a0.Depth.length cp6, .slice A9 a0.Item.length cp10, .slice A13 a0.Tri.length cp14], .blk b19 121 [.int .i64 0, .int .i64 0, .slice none 0 0, .slice none 0 0, .slice none 0 0, .slice none 0 0]] [RE.rd k_Ar4_Int A1 cp2 a0.Color, RE.rd kInt A5 cp6 a0.Depth, RE.rd kInt A9 cp10 a0.Item, RE.rd kInt A13 cp14 a0.Tri]) => ?_))
      refine RL_pure (by exact wn0 rfl) (by rfl) (by rfl) (x_assign (v := .int .i64 0) (by rfl)) ?_
      refine RL_pure (by exact wn0 rfl) (by rfl) (by rfl) (x_assign (v := .int .i64 2) (by rfl)) ?_
      refine RL_nil ?_
      refine W_ret ?_
      have H : Sep ok w w42 [.blk b17 25 [.int .i64 a0.W, .int .i64 a0.H, .slice A1 a0.Color.length cp2, .slice A5 a0.Depth.length cp6, .slice A9 a0.Item.length cp10, .slice A13 a0.Tri.length cp14], .blk b19 121 [.int .i64 0, .int .i64 0, .slice none 0 0, .slice none 0 0, .slice none 0 0, .slice none 0 0], .row (.slice none 0 0) 61 k_Ar4_Int.sz 0 []] [RE.rd k_Ar4_Int A1 cp2 a0.Color, RE.rd kInt A5 cp6 a0.Depth, RE.rd kInt A9 cp10 a0.Item, RE.rd kInt A13 cp14 a0.Tri, RE.chunks k_Ar4_Int [] ([])] := H.nilRowK 61 k_Ar4_Int
      have H : Sep ok w w42 [.blk b17 25 [.int .i64 a0.W, .int .i64 a0.H, .slice A1 a0.Color.length cp2, .slice A5 a0.Depth.length cp6, .slice A9 a0.Item.length cp10, .slice A13 a0.Tri.length cp14], .blk b19 121 [.int .i64 0, .int .i64 0, .slice none 0 0, .slice none 0 0, .slice none 0 0, .slice none 0 0], .row (.slice none 0 0) 61 k_Ar4_Int.sz 0 [], .row (.slice none 0 0) 3 kInt.sz 0 []] [RE.rd k_Ar4_Int A1 cp2 a0.Color, RE.rd kInt A5 cp6 a0.Depth, RE.rd kInt A9 cp10 a0.Item, RE.rd kInt A13 cp14 a0.Tri, RE.chunks k_Ar4_Int [] ([]), RE.chunks kInt [] ([])] := H.nilRowK 3 kInt
      have H : Sep ok w w42 [.blk b17 25 [.int .i64 a0.W, .int .i64 a0.H, .slice A1 a0.Color.length cp2, .slice A5 a0.Depth.length cp6, .slice A9 a0.Item.length cp10, .slice A13 a0.Tri.length cp14], .blk b19 121 [.int .i64 0, .int .i64 0, .slice none 0 0, .slice none 0 0, .slice none 0 0, .slice none 0 0], .row (.slice none 0 0) 61 k_Ar4_Int.sz 0 [], .row (.slice none 0 0) 3 kInt.sz 0 [], .row (.slice none 0 0) 3 kInt.sz 0 []] [RE.rd k_Ar4_Int A1 cp2 a0.Color, RE.rd kInt A5 cp6 a0.Depth, RE.rd kInt A9 cp10 a0.Item, RE.rd kInt A13 cp14 a0.Tri, RE.chunks k_Ar4_Int [] ([]), RE.chunks kInt [] ([]), RE.chunks kInt [] ([])] := H.nilRowK 3 kInt
      have H : Sep ok w w42 [.blk b17 25 [.int .i64 a0.W, .int .i64 a0.H, .slice A1 a0.Color.length cp2, .slice A5 a0.Depth.length cp6, .slice A9 a0.Item.length cp10, .slice A13 a0.Tri.length cp14], .blk b19 121 [.int .i64 0, .int .i64 0, .slice none 0 0, .slice none 0 0, .slice none 0 0, .slice none 0 0], .row (.slice none 0 0) 61 k_Ar4_Int.sz 0 [], .row (.slice none 0 0) 3 kInt.sz 0 [], .row (.slice none 0 0) 3 kInt.sz 0 [], .row (.slice none 0 0) 3 kInt.sz 0 []] [RE.rd k_Ar4_Int A1 cp2 a0.Color, RE.rd kInt A5 cp6 a0.Depth, RE.rd kInt A9 cp10 a0.Item, RE.rd kInt A13 cp14 a0.Tri, RE.chunks k_Ar4_Int [] ([]), RE.chunks kInt [] ([]), RE.chunks kInt [] ([]), RE.chunks kInt [] ([])] := H.nilRowK 3 kInt
      obtain rfl := Option.some.inj hm
      exact ⟨[.agg #[.int .i64 0, .int .i64 0, .slice none 0 0, .slice none 0 0, .slice none 0 0, .slice none 0 0], .int .i64 0, .int .i64 2], (.cellA (by rfl) ag121 (H.cells (i := 1) (by rfl)) (by rfl) (.tmp (by rfl) (.tmp (by rfl) rfl))), none, 0, [], none, 0, [], none, 0, [], none, 0, [], rfl, (H.pickL [2, 3, 4, 5] (by decide)).pick [4, 5, 6, 7]⟩
     ·have hm := cond_f hb hm
      refine W_skip ?_
      refine W_seq ?_
      refine W_draw [.free 0, .take 1, .free 2, .take 3, .free 4, .take 5, .free 7, .take 8, .free 10, .take 11, .free 13, .take 14, .free 18, .free 19, .take 20, .free 21, .free 22, .free 23, .run 6, .run 9, .run 12, .run 15, .free 16, .free 17, .run 24, .free 25, .free 26] (fun wS => Sep ok w wS [.blk b17 25 [.int .i64 a0.W, .int .i64 a0.H, .slice A1 a0.Color.length cp2, .slice A5 a0.Depth.length cp6, .slice A9 a0.Item.length cp10, .slice A13 a0.Tri.length cp14], .hole] [RE.rd k_Ar4_Int A1 cp2 a0.Color, RE.rd kInt A5 cp6 a0.Depth, RE.rd kInt A9 cp10 a0.Item, RE.rd kInt A13 cp14 a0.Tri]) [] [0, 2, 4, 7, 10, 13, 16, 17, 18, 19, 21, 22, 23, 25, 26] mixed0 (by kernel_rfl) (by kernel_rfl) (by kernel_rfl) (by rfl) (by exact (Sep.holeL H.drew 1)) ?_
      obtain ⟨w51, hW⟩ : ∃ W : World, W = { w41 with drawn := w41.drawn + 1 } := ⟨_, rfl⟩
      rw [← hW]
      have H : Sep ok w w51 [.blk b17 25 [.int .i64 a0.W, .int .i64 a0.H, .slice A1 a0.Color.length cp2, .slice A5 a0.Depth.length cp6, .slice A9 a0.Item.length cp10, .slice A13 a0.Tri.length cp14], .blk b19 121 [.int .i64 0, .int .i64 0, .slice none 0 0, .slice none 0 0, .slice none 0 0, .slice none 0 0]] [RE.rd k_Ar4_Int A1 cp2 a0.Color, RE.rd kInt A5 cp6 a0.Depth, RE.rd kInt A9 cp10 a0.Item, RE.rd kInt A13 cp14 a0.Tri] := by rw [hW]; exact H.drew
      clear hW
      refine PR_free (by rfl) (by rfl) (by rfl) (by exact wn0 rfl) (fun wS => (x_fieldAddr fo25_0 (by rfl))) ?_
      refine PR_take (by rfl) (by rfl) (by rfl) (by exact wn0 rfl) (fun wS (H : Sep ok w wS [.blk b17 25 [.int .i64 a0.W, .int .i64 a0.H, .slice A1 a0.Color.length cp2, .slice A5 a0.Depth.length cp6, .slice A9 a0.Item.length cp10, .slice A13 a0.Tri.length cp14], .hole] [RE.rd k_Ar4_Int A1 cp2 a0.Color, RE.rd kInt A5 cp6 a0.Depth, RE.rd kInt A9 cp10 a0.Item, RE.rd kInt A13 cp14 a0.Tri]) => (x_load (j := 0) (v := .int .i64 a0.W) sc3 (by rfl) (H.cells (i := 0) (by rfl)) (by rfl))) ?_
      refine PR_free (by rfl) (by rfl) (by rfl) (by exact wn0 rfl) (fun wS => (x_fieldAddr fo25_1 (by rfl))) ?_
      refine PR_take (by rfl) (by rfl) (by rfl) (by exact wn0 rfl) (fun wS (H : Sep ok w wS [.blk b17 25 [.int .i64 a0.W, .int .i64 a0.H, .slice A1 a0.Color.length cp2, .slice A5 a0.Depth.length cp6, .slice A9 a0.Item.length cp10, .slice A13 a0.Tri.length cp14], .hole] [RE.rd k_Ar4_Int A1 cp2 a0.Color, RE.rd kInt A5 cp6 a0.Depth, RE.rd kInt A9 cp10 a0.Item, RE.rd kInt A13 cp14 a0.Tri]) => (x_load (j := 1) (v := .int .i64 a0.H) sc3 (by rfl) (H.cells (i := 0) (by rfl)) (by rfl))) ?_
      refine PR_free (by rfl) (by rfl) (by rfl) (by exact wn0 rfl) (fun wS => (x_fieldAddr fo25_2 (by rfl))) ?_
      refine PR_take (by rfl) (by rfl) (by rfl) (by exact wn0 rfl) (fun wS (H : Sep ok w wS [.blk b17 25 [.int .i64 a0.W, .int .i64 a0.H, .slice A1 a0.Color.length cp2, .slice A5 a0.Depth.length cp6, .slice A9 a0.Item.length cp10, .slice A13 a0.Tri.length cp14], .hole] [RE.rd k_Ar4_Int A1 cp2 a0.Color, RE.rd kInt A5 cp6 a0.Depth, RE.rd kInt A9 cp10 a0.Item, RE.rd kInt A13 cp14 a0.Tri]) => (x_load (j := 2) (v := .slice A1 a0.Color.length cp2) sc22 (by rfl) (H.cells (i := 0) (by rfl)) (by rfl))) ?_
      refine PR_free (by rfl) (by rfl) (by rfl) (by exact wn0 rfl) (fun wS => (x_fieldAddr fo25_3 (by rfl))) ?_
      refine PR_take (by rfl) (by rfl) (by rfl) (by exact wn0 rfl) (fun wS (H : Sep ok w wS [.blk b17 25 [.int .i64 a0.W, .int .i64 a0.H, .slice A1 a0.Color.length cp2, .slice A5 a0.Depth.length cp6, .slice A9 a0.Item.length cp10, .slice A13 a0.Tri.length cp14], .hole] [RE.rd k_Ar4_Int A1 cp2 a0.Color, RE.rd kInt A5 cp6 a0.Depth, RE.rd kInt A9 cp10 a0.Item, RE.rd kInt A13 cp14 a0.Tri]) => (x_load (j := 3) (v := .slice A5 a0.Depth.length cp6) sc23 (by rfl) (H.cells (i := 0) (by rfl)) (by rfl))) ?_
      refine PR_free (by rfl) (by rfl) (by rfl) (by exact wn0 rfl) (fun wS => (x_fieldAddr fo25_4 (by rfl))) ?_
      refine PR_take (by rfl) (by rfl) (by rfl) (by exact wn0 rfl) (fun wS (H : Sep ok w wS [.blk b17 25 [.int .i64 a0.W, .int .i64 a0.H, .slice A1 a0.Color.length cp2, .slice A5 a0.Depth.length cp6, .slice A9 a0.Item.length cp10, .slice A13 a0.Tri.length cp14], .hole] [RE.rd k_Ar4_Int A1 cp2 a0.Color, RE.rd kInt A5 cp6 a0.Depth, RE.rd kInt A9 cp10 a0.Item, RE.rd kInt A13 cp14 a0.Tri]) => (x_load (j := 4) (v := .slice A9 a0.Item.length cp10) sc23 (by rfl) (H.cells (i := 0) (by rfl)) (by rfl))) ?_
      refine PR_free (by rfl) (by rfl) (by rfl) (by exact wn0 rfl) (fun wS => (x_fieldAddr fo25_5 (by rfl))) ?_
      refine PR_take (by rfl) (by rfl) (by rfl) (by exact wn0 rfl) (fun wS (H : Sep ok w wS [.blk b17 25 [.int .i64 a0.W, .int .i64 a0.H, .slice A1 a0.Color.length cp2, .slice A5 a0.Depth.length cp6, .slice A9 a0.Item.length cp10, .slice A13 a0.Tri.length cp14], .hole] [RE.rd k_Ar4_Int A1 cp2 a0.Color, RE.rd kInt A5 cp6 a0.Depth, RE.rd kInt A9 cp10 a0.Item, RE.rd kInt A13 cp14 a0.Tri]) => (x_load (j := 5) (v := .slice A13 a0.Tri.length cp14) sc23 (by rfl) (H.cells (i := 0) (by rfl)) (by rfl))) ?_
      refine PR_free (by rfl) (by rfl) (by rfl) (by exact wn0 rfl) (fun wS => (x_move (v := .int .i64 a2) (by rfl))) ?_
      refine PR_free (by rfl) (by rfl) (by rfl) (by exact wn0 rfl) (fun wS => (x_fieldAddr fo25_0 (by rfl))) ?_
      refine PR_take (by rfl) (by rfl) (by rfl) (by exact wn0 rfl) (fun wS (H : Sep ok w wS [.blk b17 25 [.int .i64 a0.W, .int .i64 a0.H, .slice A1 a0.Color.length cp2, .slice A5 a0.Depth.length cp6, .slice A9 a0.Item.length cp10, .slice A13 a0.Tri.length cp14], .hole] [RE.rd k_Ar4_Int A1 cp2 a0.Color, RE.rd kInt A5 cp6 a0.Depth, RE.rd kInt A9 cp10 a0.Item, RE.rd kInt A13 cp14 a0.Tri]) => (x_load (j := 0) (v := .int .i64 a0.W) sc3 (by rfl) (H.cells (i := 0) (by rfl)) (by rfl))) ?_
      obtain ⟨x52, ex52, qx52, ux52, hm⟩ := ck_some hm
      refine PR_free (by rfl) (by rfl) (by rfl) (by exact wn0 rfl) (fun wS => (x_mul (by rfl) (by rfl) ux52)) ?_
      refine PR_free (by rfl) (by rfl) (by rfl) (by exact wn0 rfl) (fun wS => (x_move (v := .int .i64 a1) (by rfl))) ?_
      obtain ⟨x53, ex53, qx53, ux53, hm⟩ := ck_some hm
      refine PR_free (by rfl) (by rfl) (by rfl) (by exact wn0 rfl) (fun wS => (x_add (by rfl) (by rfl) ux53)) ?_
      obtain ⟨v55, hv54, hm⟩ := bind_some hm
      refine PR_run (by rfl) (O_call (by exact wn0 rfl) (by rfl) (by rfl) (x_callL (by rfl) (args := [.slice A1 a0.Color.length cp2]) (by rfl) (cf113 _ _)) (c113 (okS ok w [.blk b17 25 [.int .i64 a0.W, .int .i64 a0.H, .slice A1 a0.Color.length cp2, .slice A5 a0.Depth.length cp6, .slice A9 a0.Item.length cp10, .slice A13 a0.Tri.length cp14], .blk b19 121 [.int .i64 0, .int .i64 0, .slice none 0 0, .slice none 0 0, .slice none 0 0, .slice none 0 0]]) K w51 a0.Color A1 cp2 (H.rd (i := 0) (by rfl)) v55 hv54) ?_)
      rintro e w56 ⟨A57, cp58, cs59, rfl, H2⟩
      have H : Sep ok w w56 [.blk b17 25 [.int .i64 a0.W, .int .i64 a0.H, .slice A1 a0.Color.length cp2, .slice A5 a0.Depth.length cp6, .slice A9 a0.Item.length cp10, .slice A13 a0.Tri.length cp14], .blk b19 121 [.int .i64 0, .int .i64 0, .slice none 0 0, .slice none 0 0, .slice none 0 0, .slice none 0 0], .row (.slice A57 v55.length cp58) 61 k_Ar4_Int.sz v55.length cs59] [RE.rd k_Ar4_Int A1 cp2 a0.Color, RE.rd kInt A5 cp6 a0.Depth, RE.rd kInt A9 cp10 a0.Item, RE.rd kInt A13 cp14 a0.Tri, RE.chunks k_Ar4_Int cs59 v55] := H.call H2
      clear H2
      refine ⟨_, rfl, (Sep.holeL (Sep.takeR (Sep.takeL H 2) 4) 1), ?_⟩
      show PR _ _ _ _ _ _ _ _
      obtain ⟨v63, hv62, hm⟩ := bind_some hm
      refine PR_run (by rfl) (O_call (by exact wn0 rfl) (by rfl) (by rfl) (x_callL (by rfl) (args := [.slice A5 a0.Depth.length cp6]) (by rfl) (cf59 _ _)) (c59 (okS ok w [.blk b17 25 [.int .i64 a0.W, .int .i64 a0.H, .slice A1 a0.Color.length cp2, .slice A5 a0.Depth.length cp6, .slice A9 a0.Item.length cp10, .slice A13 a0.Tri.length cp14], .blk b19 121 [.int .i64 0, .int .i64 0, .slice none 0 0, .slice none 0 0, .slice none 0 0, .slice none 0 0], .row (.slice A57 v55.length cp58) 61 k_Ar4_Int.sz v55.length cs59]) K w56 a0.Depth A5 cp6 (H.rd (i := 1) (by rfl)) v63 hv62) ?_)
      rintro e w64 ⟨A65, cp66, cs67, rfl, H2⟩
      have H : Sep ok w w64 [.blk b17 25 [.int .i64 a0.W, .int .i64 a0.H, .slice A1 a0.Color.length cp2, .slice A5 a0.Depth.length cp6, .slice A9 a0.Item.length cp10, .slice A13 a0.Tri.length cp14], .blk b19 121 [.int .i64 0, .int .i64 0, .slice none 0 0, .slice none 0 0, .slice none 0 0, .slice none 0 0], .row (.slice A57 v55.length cp58) 61 k_Ar4_Int.sz v55.length cs59, .row (.slice A65 v63.length cp66) 3 kInt.sz v63.length cs67] [RE.rd k_Ar4_Int A1 cp2 a0.Color, RE.rd kInt A5 cp6 a0.Depth, RE.rd kInt A9 cp10 a0.Item, RE.rd kInt A13 cp14 a0.Tri, RE.chunks k_Ar4_Int cs59 v55, RE.chunks kInt cs67 v63] := H.call H2
      clear H2
      refine ⟨_, rfl, (Sep.holeL (Sep.takeR (Sep.takeL H 2) 4) 1), ?_⟩
      show PR _ _ _ _ _ _ _ _
      obtain ⟨v71, hv70, hm⟩ := bind_some hm
      refine PR_run (by rfl) (O_call (by exact wn0 rfl) (by rfl) (by rfl) (x_callL (by rfl) (args := [.slice A9 a0.Item.length cp10]) (by rfl) (cf59 _ _)) (c59 (okS ok w [.blk b17 25 [.int .i64 a0.W, .int .i64 a0.H, .slice A1 a0.Color.length cp2, .slice A5 a0.Depth.length cp6, .slice A9 a0.Item.length cp10, .slice A13 a0.Tri.length cp14], .blk b19 121 [.int .i64 0, .int .i64 0, .slice none 0 0, .slice none 0 0, .slice none 0 0, .slice none 0 0], .row (.slice A57 v55.length cp58) 61 k_Ar4_Int.sz v55.length cs59, .row (.slice A65 v63.length cp66) 3 kInt.sz v63.length cs67]) K w64 a0.Item A9 cp10 (H.rd (i := 2) (by rfl)) v71 hv70) ?_)
      rintro e w72 ⟨A73, cp74, cs75, rfl, H2⟩
      have H : Sep ok w w72 [.blk b17 25 [.int .i64 a0.W, .int .i64 a0.H, .slice A1 a0.Color.length cp2, .slice A5 a0.Depth.length cp6, .slice A9 a0.Item.length cp10, .slice A13 a0.Tri.length cp14], .blk b19 121 [.int .i64 0, .int .i64 0, .slice none 0 0, .slice none 0 0, .slice none 0 0, .slice none 0 0], .row (.slice A57 v55.length cp58) 61 k_Ar4_Int.sz v55.length cs59, .row (.slice A65 v63.length cp66) 3 kInt.sz v63.length cs67, .row (.slice A73 v71.length cp74) 3 kInt.sz v71.length cs75] [RE.rd k_Ar4_Int A1 cp2 a0.Color, RE.rd kInt A5 cp6 a0.Depth, RE.rd kInt A9 cp10 a0.Item, RE.rd kInt A13 cp14 a0.Tri, RE.chunks k_Ar4_Int cs59 v55, RE.chunks kInt cs67 v63, RE.chunks kInt cs75 v71] := H.call H2
      clear H2
      refine ⟨_, rfl, (Sep.holeL (Sep.takeR (Sep.takeL H 2) 4) 1), ?_⟩
      show PR _ _ _ _ _ _ _ _
      obtain ⟨v79, hv78, hm⟩ := bind_some hm
      refine PR_run (by rfl) (O_call (by exact wn0 rfl) (by rfl) (by rfl) (x_callL (by rfl) (args := [.slice A13 a0.Tri.length cp14]) (by rfl) (cf59 _ _)) (c59 (okS ok w [.blk b17 25 [.int .i64 a0.W, .int .i64 a0.H, .slice A1 a0.Color.length cp2, .slice A5 a0.Depth.length cp6, .slice A9 a0.Item.length cp10, .slice A13 a0.Tri.length cp14], .blk b19 121 [.int .i64 0, .int .i64 0, .slice none 0 0, .slice none 0 0, .slice none 0 0, .slice none 0 0], .row (.slice A57 v55.length cp58) 61 k_Ar4_Int.sz v55.length cs59, .row (.slice A65 v63.length cp66) 3 kInt.sz v63.length cs67, .row (.slice A73 v71.length cp74) 3 kInt.sz v71.length cs75]) K w72 a0.Tri A13 cp14 (H.rd (i := 3) (by rfl)) v79 hv78) ?_)
      rintro e w80 ⟨A81, cp82, cs83, rfl, H2⟩
      have H : Sep ok w w80 [.blk b17 25 [.int .i64 a0.W, .int .i64 a0.H, .slice A1 a0.Color.length cp2, .slice A5 a0.Depth.length cp6, .slice A9 a0.Item.length cp10, .slice A13 a0.Tri.length cp14], .blk b19 121 [.int .i64 0, .int .i64 0, .slice none 0 0, .slice none 0 0, .slice none 0 0, .slice none 0 0], .row (.slice A57 v55.length cp58) 61 k_Ar4_Int.sz v55.length cs59, .row (.slice A65 v63.length cp66) 3 kInt.sz v63.length cs67, .row (.slice A73 v71.length cp74) 3 kInt.sz v71.length cs75, .row (.slice A81 v79.length cp82) 3 kInt.sz v79.length cs83] [RE.rd k_Ar4_Int A1 cp2 a0.Color, RE.rd kInt A5 cp6 a0.Depth, RE.rd kInt A9 cp10 a0.Item, RE.rd kInt A13 cp14 a0.Tri, RE.chunks k_Ar4_Int cs59 v55, RE.chunks kInt cs67 v63, RE.chunks kInt cs75 v71, RE.chunks kInt cs83 v79] := H.call H2
      clear H2
      refine ⟨_, rfl, (Sep.holeL (Sep.takeR (Sep.takeL H 2) 4) 1), ?_⟩
      show PR _ _ _ _ _ _ _ _
      refine PR_free (by rfl) (by rfl) (by rfl) (by exact wn0 rfl) (fun wS => (x_build (vs := [(0, .int .i64 a0.W), (1, .int .i64 a0.H), (2, .slice A57 v55.length cp58), (3, .slice A65 v63.length cp66), (4, .slice A73 v71.length cp74), (5, .slice A81 v79.length cp82)]) (cs := [.int .i64 a0.W, .int .i64 a0.H, .slice A57 v55.length cp58, .slice A65 v63.length cp66, .slice A73 v71.length cp74, .slice A81 v79.length cp82]) (by rfl) (by kernel_rfl))) ?_
      refine PR_free (by rfl) (by rfl) (by rfl) (by exact wn0 rfl) (fun wS => (x_build (vs := [(0, .agg #[.int .i64 a0.W, .int .i64 a0.H, .slice A57 v55.length cp58, .slice A65 v63.length cp66, .slice A73 v71.length cp74, .slice A81 v79.length cp82])]) (cs := [.int .i64 a0.W, .int .i64 a0.H, .slice A57 v55.length cp58, .slice A65 v63.length cp66, .slice A73 v71.length cp74, .slice A81 v79.length cp82]) (by rfl) (by kernel_rfl))) ?_
      refine PR_run (by rfl) (O_store (i := 1) (off := 0) (by exact wn0 rfl) (by rfl) (by rfl) H (by rfl) (vs := [.int .i64 a0.W, .int .i64 a0.H, .slice A57 v55.length cp58, .slice A65 v63.length cp66, .slice A73 v71.length cp74, .slice A81 v79.length cp82]) (by rfl) sz121 (by rfl) (by rfl) (by rfl) (fun w86 (H : Sep ok w w86 [.blk b17 25 [.int .i64 a0.W, .int .i64 a0.H, .slice A1 a0.Color.length cp2, .slice A5 a0.Depth.length cp6, .slice A9 a0.Item.length cp10, .slice A13 a0.Tri.length cp14], .blk b19 121 [.int .i64 a0.W, .int .i64 a0.H, .slice A57 v55.length cp58, .slice A65 v63.length cp66, .slice A73 v71.length cp74, .slice A81 v79.length cp82], .row (.slice A57 v55.length cp58) 61 k_Ar4_Int.sz v55.length cs59, .row (.slice A65 v63.length cp66) 3 kInt.sz v63.length cs67, .row (.slice A73 v71.length cp74) 3 kInt.sz v71.length cs75, .row (.slice A81 v79.length cp82) 3 kInt.sz v79.length cs83] [RE.rd k_Ar4_Int A1 cp2 a0.Color, RE.rd kInt A5 cp6 a0.Depth, RE.rd kInt A9 cp10 a0.Item, RE.rd kInt A13 cp14 a0.Tri, RE.chunks k_Ar4_Int cs59 v55, RE.chunks kInt cs67 v63, RE.chunks kInt cs75 v71, RE.chunks kInt cs83 v79]) => ⟨(Sep.holeL (Sep.takeR (Sep.takeL H 2) 4) 1), ?_⟩))
      refine PR_free (by rfl) (by rfl) (by rfl) (by exact wn0 rfl) (fun wS => (x_assign (v := .int .i64 x53) (by rfl))) ?_
      refine PR_free (by rfl) (by rfl) (by rfl) (by exact wn0 rfl) (fun wS => (x_assign (v := .int .i64 0) (by rfl))) ?_
      refine PR_nil ?_
      refine W_ret ?_
      obtain rfl := Option.some.inj hm
      exact ⟨[.agg #[.int .i64 a0.W, .int .i64 a0.H, .slice A57 v55.length cp58, .slice A65 v63.length cp66, .slice A73 v71.length cp74, .slice A81 v79.length cp82], .int .i64 x53, .int .i64 0], (.cellA (by rfl) ag121 (H.cells (i := 1) (by rfl)) (by rfl) (.tmp (by rfl) (.tmp (by rfl) rfl))), A57, cp58, cs59, A65, cp66, cs67, A73, cp74, cs75, A81, cp82, cs83, rfl, (H.pickL [2, 3, 4, 5] (by decide)).pick [4, 5, 6, 7]⟩
end Go.Proofs.YtobkigllalbkiaaV.M

/- A plain Lean function that answers as the Go function does (none: not told), and the proof that a call answers so. Written by program. -/
set_option linter.unusedVariables false
namespace Go.Proofs.YtobkigllalbkiaaV.M
open Go.RowKit Go.Proofs.YtobkigllalbkiaaV
/-- (diorama/frame.open).nobody -/
def m71 (K : Nat) (a0 : S_open) (a1 : Int) : Option (Bool) :=
 (idx a0.Frame.Item a1 fun el19 => some (decide (el19 < 0)))
set_option maxRecDepth 100000 in
set_option maxHeartbeats 4000000 in
theorem c71 (ok : Nat → Prop) (K : Nat) (w : World) (a0 : S_open) (A1 : Option Addr) (cp2 : Nat) (A5 : Option Addr) (cp6 : Nat) (A9 : Option Addr) (cp10 : Nat) (A13 : Option Addr) (cp14 : Nat) (a1 : Int) (hR3 : Rd k_Ar4_Int w ok A1 cp2 a0.Frame.Color) (hR7 : Rd kInt w ok A5 cp6 a0.Frame.Depth) (hR11 : Rd kInt w ok A9 cp10 a0.Frame.Item) (hR15 : Rd kInt w ok A13 cp14 a0.Frame.Tri) (res : Bool) (hm : m71 K a0 a1 = some res) :
  Calls Try.prog 71 #[.agg #[.int .i64 a0.Frame.W, .int .i64 a0.Frame.H, .slice A1 a0.Frame.Color.length cp2, .slice A5 a0.Frame.Depth.length cp6, .slice A9 a0.Frame.Item.length cp10, .slice A13 a0.Frame.Tri.length cp14], .int .i64 a1] w (fun e w' => e = .returned (tup [.bool res]) ∧ Sep ok w w' [] []) := by
 refine calls_W (args := [.agg #[.int .i64 a0.Frame.W, .int .i64 a0.Frame.H, .slice A1 a0.Frame.Color.length cp2, .slice A5 a0.Frame.Depth.length cp6, .slice A9 a0.Frame.Item.length cp10, .slice A13 a0.Frame.Tri.length cp14], .int .i64 a1]) Try.func71 rfl Try.ntmps71 Try.results71 rfl fun r hr => ?_
 obtain ⟨r1, rfl⟩ := regen (r := r) [(0, .agg #[.int .i64 a0.Frame.W, .int .i64 a0.Frame.H, .slice A1 a0.Frame.Color.length cp2, .slice A5 a0.Frame.Depth.length cp6, .slice A9 a0.Frame.Item.length cp10, .slice A13 a0.Frame.Tri.length cp14]), (1, .int .i64 a1)] ⟨hr 0 _ rfl, hr 1 _ rfl, trivial⟩
 have H : Sep ok w w [] [RE.rd k_Ar4_Int A1 cp2 a0.Frame.Color, RE.rd kInt A5 cp6 a0.Frame.Depth, RE.rd kInt A9 cp10 a0.Frame.Item, RE.rd kInt A13 cp14 a0.Frame.Tri] := Sep.arg (Sep.arg (Sep.arg (Sep.arg (Sep.start ok w) (re := RE.rd k_Ar4_Int A1 cp2 a0.Frame.Color) rfl rfl hR3) (re := RE.rd kInt A5 cp6 a0.Frame.Depth) rfl rfl hR7) (re := RE.rd kInt A9 cp10 a0.Frame.Item) rfl rfl hR11) (re := RE.rd kInt A13 cp14 a0.Frame.Tri) rfl rfl hR15
 unfold m71 at hm
 refine W_seq ?_
 refine W_region ?_
 refine RL_cons (O_box (by exact wn0 rfl) (by rfl) (by rfl) (by rfl) H (fun w18 b17 (H : Sep ok w w18 [.blk b17 121 [.int .i64 a0.Frame.W, .int .i64 a0.Frame.H, .slice A1 a0.Frame.Color.length cp2, .slice A5 a0.Frame.Depth.length cp6, .slice A9 a0.Frame.Item.length cp10, .slice A13 a0.Frame.Tri.length cp14]] [RE.rd k_Ar4_Int A1 cp2 a0.Frame.Color, RE.rd kInt A5 cp6 a0.Frame.Depth, RE.rd kInt A9 cp10 a0.Frame.Item, RE.rd kInt A13 cp14 a0.Frame.Tri]) => ?_))
 refine RL_pure (by exact wn0 rfl) (by rfl) (by rfl) (x_assign (v := .bool false) (by rfl)) ?_
 refine RL_nil ?_
 refine W_seq ?_
 refine W_region ?_
 refine RL_pure (by exact wn0 rfl) (by rfl) (by rfl) (x_fieldAddr fo121_0 (by rfl)) ?_
 refine RL_pure (by exact wn0 rfl) (by rfl) (by rfl) (x_fieldAddr fo25_4 (by rfl)) ?_
 refine RL_pure (by exact wn0 rfl) (by rfl) (by rfl) (x_load (j := 4) (v := .slice A9 a0.Frame.Item.length cp10) sc23 (by rfl) (H.cells (i := 0) (by rfl)) (by rfl)) ?_
 refine RL_pure (by exact wn0 rfl) (by rfl) (by rfl) (x_move (v := .int .i64 a1) (by rfl)) ?_
 obtain ⟨el19, h20, h21, he22, hm⟩ := idx_some hm
 obtain ⟨g24, o25, hA23⟩ := (H.rd (i := 2) (by rfl)).addr he22
 refine RL_pure (by exact wn0 rfl) (by rfl) (by rfl) (x_indexAddr sl23 sz3 (by rfl) (by rfl) hA23 h20 h21) ?_
 refine RL_pure (by exact wn0 rfl) (by rfl) (by rfl) (x_load (j := 0) (v := .int .i64 el19) sc3 (by rfl) (Rd.flatAt (n := 1) (H.rd (i := 2) (by rfl)) hA23 he22) (by rfl)) ?_
 refine RL_pure (by exact wn0 rfl) (by rfl) (by rfl) (x_lss (by rfl) (by rfl)) ?_
 refine RL_pure (by exact wn0 rfl) (by rfl) (by rfl) (x_assign (v := .bool (decide (el19 < 0))) (by rfl)) ?_
 refine RL_nil ?_
 refine W_ret ?_
 obtain rfl := Option.some.inj hm
 exact ⟨[.bool (decide (el19 < 0))], (.tmp (by rfl) rfl), rfl, H.none_⟩
end Go.Proofs.YtobkigllalbkiaaV.M

/- A plain Lean function that answers as the Go function does (none: not told), and the proof that a call answers so. Written by program. -/
set_option linter.unusedVariables false
namespace Go.Proofs.YtobkigllalbkiaaV.M
open Go.RowKit Go.Proofs.YtobkigllalbkiaaV
def m116_l1b (K : Nat) (a0 : (List Int)) (rec1 : Int → Option (Int)) (y8_1 : Int) : Option (Int) :=
 (bif (decide (y8_1 < (a0.length : Int))) then (idx a0 y8_1 fun el7 => (bif (el7 != 0) then some el7 else (ck (y8_1 + 1) fun x14 => (rec1 x14)))) else some 0)
def m116_l1 (K : Nat) (a0 : (List Int)) : Nat → Int → Option (Int)
 | 0 => fun _ => none
 | k + 1 => m116_l1b K a0 (m116_l1 K a0 k)
/-- cmp.Or(int) -/
def m116 (K : Nat) (a0 : (List Int)) : Option (Int) :=
 m116_l1 K a0 K 0
set_option maxRecDepth 100000 in
set_option maxHeartbeats 4000000 in
theorem c116 (ok : Nat → Prop) (K : Nat) (w : World) (a0 : (List Int)) (A1 : Option Addr) (cp2 : Nat) (hR3 : Rd kInt w ok A1 cp2 a0) (res : Int) (hm : m116 K a0 = some res) :
  Calls Try.prog 116 #[.slice A1 a0.length cp2] w (fun e w' => e = .returned (tup [.int .i64 res]) ∧ Sep ok w w' [] []) := by
 refine calls_W (args := [.slice A1 a0.length cp2]) Try.func116 rfl Try.ntmps116 Try.results116 rfl fun r hr => ?_
 obtain ⟨r1, rfl⟩ := regen (r := r) [(0, .slice A1 a0.length cp2)] ⟨hr 0 _ rfl, trivial⟩
 have H : Sep ok w w [] [RE.rd kInt A1 cp2 a0] := Sep.arg (Sep.start ok w) (re := RE.rd kInt A1 cp2 a0) rfl rfl hR3
 unfold m116 at hm
 refine W_seq ?_
 refine W_region ?_
 refine RL_pure (by exact wn0 rfl) (by rfl) (by rfl) (x_assign (v := .int .i64 0) (by rfl)) ?_
 refine RL_nil ?_
 refine W_seq ?_
 refine W_region ?_
 refine RL_pure (by exact wn0 rfl) (by rfl) (by rfl) (x_assign (v := .int .i64 0) (by rfl)) ?_
 refine RL_nil ?_
 refine W_seq ?_
 refine W_seq ?_
 refine W_region ?_
 refine RL_pure (by exact wn0 rfl) (by rfl) (by rfl) (x_move (v := .slice A1 a0.length cp2) (by rfl)) ?_
 refine RL_pure (by exact wn0 rfl) (by rfl) (by rfl) (x_len sl23 (by rfl)) ?_
 refine RL_pure (by exact wn0 rfl) (by rfl) (by rfl) (x_move (v := .int .i64 0) (by rfl)) ?_
 refine RL_nil ?_
 refine W_block ?_
 refine W_loop (fun k1 r' w' => ∃ (y8_1 : Int), m116_l1 K a0 k1 y8_1 = some res ∧ Agr [(3, .int .i64 0), (6, .slice A1 a0.length cp2), (7, .int .i64 (a0.length : Int)), (8, .int .i64 y8_1)] r' ∧ Sep ok w w' [] [RE.rd kInt A1 cp2 a0]) K ?_ ?_
 ·exact ⟨0, hm, ⟨rfl, rfl, rfl, rfl, trivial⟩, H⟩
 ·rintro k1 r' w' ⟨y8_1, hm, hA, H⟩
  obtain ⟨r5, rfl⟩ := regen _ hA; clear hA
  obtain ⟨w6, rfl⟩ : ∃ W : World, W = w' := ⟨_, rfl⟩
  cases k1 with
  | zero => exact (none_some hm).elim
  | succ k1 =>
   have hm : m116_l1b K a0 (m116_l1 K a0 k1) y8_1 = some res := hm
   unfold m116_l1b at hm
   obtain ⟨rec1, hrec1⟩ : ∃ f, m116_l1 K a0 k1 = f := ⟨_, rfl⟩
   rw [hrec1] at hm
   refine W_seq ?_
   refine W_region ?_
   refine RL_pure (by exact wn0 rfl) (by rfl) (by rfl) (x_lss (by rfl) (by rfl)) ?_
   refine RL_nil ?_
   refine W_seq ?_
   refine W_cond (by rfl) (fun hb => ?_) (fun hb => ?_)
   ·have hm := cond_t hb hm
    refine W_skip ?_
    refine W_seq ?_
    refine W_block ?_
    refine W_seq ?_
    refine W_region ?_
    obtain ⟨el7, h8, h9, he10, hm⟩ := idx_some hm
    obtain ⟨g12, o13, hA11⟩ := (H.rd (i := 0) (by rfl)).addr he10
    refine RL_pure (by exact wn0 rfl) (by rfl) (by rfl) (x_indexAddr sl23 sz3 (by rfl) (by rfl) hA11 h8 h9) ?_
    refine RL_pure (by exact wn0 rfl) (by rfl) (by rfl) (x_load (j := 0) (v := .int .i64 el7) sc3 (by rfl) (Rd.flatAt (n := 1) (H.rd (i := 0) (by rfl)) hA11 he10) (by rfl)) ?_
    refine RL_pure (by exact wn0 rfl) (by rfl) (by rfl) (x_assign (v := .int .i64 el7) (by rfl)) ?_
    refine RL_nil ?_
    refine W_seq ?_
    refine W_region ?_
    refine RL_pure (by exact wn0 rfl) (by rfl) (by rfl) (x_move (v := .int .i64 el7) (by rfl)) ?_
    refine RL_pure (by exact wn0 rfl) (by rfl) (by rfl) (x_move (v := .int .i64 0) (by rfl)) ?_
    refine RL_pure (by exact wn0 rfl) (by rfl) (by rfl) (x_neq (by rfl) (by rfl)) ?_
    refine RL_nil ?_
    refine W_cond (by rfl) (fun hb => ?_) (fun hb => ?_)
    ·have hm := cond_t hb hm
     refine W_seq ?_
     refine W_region ?_
     refine RL_pure (by exact wn0 rfl) (by rfl) (by rfl) (x_move (v := .int .i64 el7) (by rfl)) ?_
     refine RL_pure (by exact wn0 rfl) (by rfl) (by rfl) (x_assign (v := .int .i64 el7) (by rfl)) ?_
     refine RL_nil ?_
     refine W_ret ?_
     obtain rfl := Option.some.inj hm
     exact ⟨[.int .i64 el7], (.tmp (by rfl) rfl), rfl, H.none_⟩
    ·have hm := cond_f hb hm
     refine W_skip ?_
     refine W_region ?_
     obtain ⟨x14, ex14, qx14, ux14, hm⟩ := ck_some hm
     refine RL_pure (by exact wn0 rfl) (by rfl) (by rfl) (x_add (by rfl) (by rfl) ux14) ?_
     refine RL_pure (by exact wn0 rfl) (by rfl) (by rfl) (x_move (v := .int .i64 x14) (by rfl)) ?_
     refine RL_nil ?_
     subst hrec1
     exact ⟨k1, Nat.lt_succ_self k1, x14, hm, ⟨rfl, rfl, rfl, rfl, trivial⟩, H⟩
   ·have hm := cond_f hb hm
    refine W_exit ?_
    refine W_seq ?_
    refine W_region ?_
    refine RL_pure (by exact wn0 rfl) (by rfl) (by rfl) (x_move (v := .int .i64 0) (by rfl)) ?_
    refine RL_pure (by exact wn0 rfl) (by rfl) (by rfl) (x_assign (v := .int .i64 0) (by rfl)) ?_
    refine RL_nil ?_
    refine W_ret ?_
    obtain rfl := Option.some.inj hm
    exact ⟨[.int .i64 0], (.tmp (by rfl) rfl), rfl, H.none_⟩
end Go.Proofs.YtobkigllalbkiaaV.M

/- A plain Lean function that answers as the Go function does (none: not told), and the proof that a call answers so. Written by program. -/
set_option linter.unusedVariables false
namespace Go.Proofs.YtobkigllalbkiaaV.M
open Go.RowKit Go.Proofs.YtobkigllalbkiaaV
/-- cmp.isNaN(int) -/
def m134 (K : Nat) (a0 : Int) : Option (Bool) :=
 some (a0 != a0)
set_option maxRecDepth 100000 in
set_option maxHeartbeats 4000000 in
theorem c134 (ok : Nat → Prop) (K : Nat) (w : World) (a0 : Int)  (res : Bool) (hm : m134 K a0 = some res) :
  Calls Try.prog 134 #[.int .i64 a0] w (fun e w' => e = .returned (tup [.bool res]) ∧ Sep ok w w' [] []) := by
 refine calls_W (args := [.int .i64 a0]) Try.func134 rfl Try.ntmps134 Try.results134 rfl fun r hr => ?_
 obtain ⟨r1, rfl⟩ := regen (r := r) [(0, .int .i64 a0)] ⟨hr 0 _ rfl, trivial⟩
 have H : Sep ok w w [] [] := Sep.start ok w
 unfold m134 at hm
 refine W_seq ?_
 refine W_region ?_
 refine RL_pure (by exact wn0 rfl) (by rfl) (by rfl) (x_assign (v := .bool false) (by rfl)) ?_
 refine RL_nil ?_
 refine W_seq ?_
 refine W_region ?_
 refine RL_pure (by exact wn0 rfl) (by rfl) (by rfl) (x_move (v := .int .i64 a0) (by rfl)) ?_
 refine RL_pure (by exact wn0 rfl) (by rfl) (by rfl) (x_move (v := .int .i64 a0) (by rfl)) ?_
 refine RL_pure (by exact wn0 rfl) (by rfl) (by rfl) (x_neq (by rfl) (by rfl)) ?_
 refine RL_pure (by exact wn0 rfl) (by rfl) (by rfl) (x_assign (v := .bool (a0 != a0)) (by rfl)) ?_
 refine RL_nil ?_
 refine W_ret ?_
 obtain rfl := Option.some.inj hm
 exact ⟨[.bool (a0 != a0)], (.tmp (by rfl) rfl), rfl, H.none_⟩
end Go.Proofs.YtobkigllalbkiaaV.M

/- A plain Lean function that answers as the Go function does (none: not told), and the proof that a call answers so. Written by program. -/
set_option linter.unusedVariables false
namespace Go.Proofs.YtobkigllalbkiaaV.M
open Go.RowKit Go.Proofs.YtobkigllalbkiaaV
/-- cmp.Compare(int) -/
def m117 (K : Nat) (a0 : Int) (a1 : Int) : Option (Int) :=
 ((m134 K a0).bind fun v2 => ((m134 K a1).bind fun v5 => (bif v2 then (bif v5 then some 0 else some (-1)) else (bif v5 then some 1 else (bif (decide (a0 < a1)) then some (-1) else (bif (decide (a1 < a0)) then some 1 else some 0))))))
set_option maxRecDepth 100000 in
set_option maxHeartbeats 4000000 in
theorem c117 (ok : Nat → Prop) (K : Nat) (w : World) (a0 : Int) (a1 : Int)  (res : Int) (hm : m117 K a0 a1 = some res) :
  Calls Try.prog 117 #[.int .i64 a0, .int .i64 a1] w (fun e w' => e = .returned (tup [.int .i64 res]) ∧ Sep ok w w' [] []) := by
 refine calls_W (args := [.int .i64 a0, .int .i64 a1]) Try.func117 rfl Try.ntmps117 Try.results117 rfl fun r hr => ?_
 obtain ⟨r1, rfl⟩ := regen (r := r) [(0, .int .i64 a0), (1, .int .i64 a1)] ⟨hr 0 _ rfl, hr 1 _ rfl, trivial⟩
 have H : Sep ok w w [] [] := Sep.start ok w
 unfold m117 at hm
 refine W_seq ?_
 refine W_region ?_
 refine RL_pure (by exact wn0 rfl) (by rfl) (by rfl) (x_assign (v := .int .i64 0) (by rfl)) ?_
 refine RL_nil ?_
 refine W_seq ?_
 refine W_region ?_
 refine RL_pure (by exact wn0 rfl) (by rfl) (by rfl) (x_move (v := .int .i64 a0) (by rfl)) ?_
 obtain ⟨v2, hv1, hm⟩ := bind_some hm
 refine RL_cons (O_call (by exact wn0 rfl) (by rfl) (by rfl) (x_callL (by rfl) (args := [.int .i64 a0]) (by rfl) (cf134 _ _)) (c134 (fun _ => True) K w a0  v2 hv1) ?_)
 rintro e w3 ⟨rfl, H2⟩
 have H : Sep ok w w3 [] [] := H.below H2.base
 clear H2
 refine ⟨_, rfl, ?_⟩
 show RL _ _ _ _ _ _ _
 refine RL_pure (by exact wn0 rfl) (by rfl) (by rfl) (x_assign (v := .bool v2) (by rfl)) ?_
 refine RL_nil ?_
 refine W_seq ?_
 refine W_region ?_
 refine RL_pure (by exact wn0 rfl) (by rfl) (by rfl) (x_move (v := .int .i64 a1) (by rfl)) ?_
 obtain ⟨v5, hv4, hm⟩ := bind_some hm
 refine RL_cons (O_call (by exact wn0 rfl) (by rfl) (by rfl) (x_callL (by rfl) (args := [.int .i64 a1]) (by rfl) (cf134 _ _)) (c134 (fun _ => True) K w3 a1  v5 hv4) ?_)
 rintro e w6 ⟨rfl, H2⟩
 have H : Sep ok w w6 [] [] := H.below H2.base
 clear H2
 refine ⟨_, rfl, ?_⟩
 show RL _ _ _ _ _ _ _
 refine RL_pure (by exact wn0 rfl) (by rfl) (by rfl) (x_assign (v := .bool v5) (by rfl)) ?_
 refine RL_nil ?_
 refine W_seq ?_
 refine W_seq ?_
 refine W_region ?_
 refine RL_pure (by exact wn0 rfl) (by rfl) (by rfl) (x_move (v := .bool v2) (by rfl)) ?_
 refine RL_nil ?_
 refine W_cond (by rfl) (fun hb => ?_) (fun hb => ?_)
 ·have hm := cond_t hb hm
  refine W_seq ?_
  refine W_seq ?_
  refine W_region ?_
  refine RL_pure (by exact wn0 rfl) (by rfl) (by rfl) (x_move (v := .bool v5) (by rfl)) ?_
  refine RL_nil ?_
  refine W_cond (by rfl) (fun hb => ?_) (fun hb => ?_)
  ·have hm := cond_t hb hm
   refine W_seq ?_
   refine W_region ?_
   refine RL_pure (by exact wn0 rfl) (by rfl) (by rfl) (x_assign (v := .int .i64 0) (by rfl)) ?_
   refine RL_nil ?_
   refine W_ret ?_
   obtain rfl := Option.some.inj hm
   exact ⟨[.int .i64 0], (.tmp (by rfl) rfl), rfl, H.none_⟩
  ·have hm := cond_f hb hm
   refine W_skip ?_
   refine W_seq ?_
   refine W_region ?_
   refine RL_pure (by exact wn0 rfl) (by rfl) (by rfl) (x_assign (v := .int .i64 (-1)) (by rfl)) ?_
   refine RL_nil ?_
   refine W_ret ?_
   obtain rfl := Option.some.inj hm
   exact ⟨[.int .i64 (-1)], (.tmp (by rfl) rfl), rfl, H.none_⟩
 ·have hm := cond_f hb hm
  refine W_skip ?_
  refine W_seq ?_
  refine W_seq ?_
  refine W_region ?_
  refine RL_pure (by exact wn0 rfl) (by rfl) (by rfl) (x_move (v := .bool v5) (by rfl)) ?_
  refine RL_nil ?_
  refine W_cond (by rfl) (fun hb => ?_) (fun hb => ?_)
  ·have hm := cond_t hb hm
   refine W_seq ?_
   refine W_region ?_
   refine RL_pure (by exact wn0 rfl) (by rfl) (by rfl) (x_assign (v := .int .i64 1) (by rfl)) ?_
   refine RL_nil ?_
   refine W_ret ?_
   obtain rfl := Option.some.inj hm
   exact ⟨[.int .i64 1], (.tmp (by rfl) rfl), rfl, H.none_⟩
  ·have hm := cond_f hb hm
   refine W_skip ?_
   refine W_seq ?_
   refine W_seq ?_
   refine W_region ?_
   refine RL_pure (by exact wn0 rfl) (by rfl) (by rfl) (x_move (v := .int .i64 a0) (by rfl)) ?_
   refine RL_pure (by exact wn0 rfl) (by rfl) (by rfl) (x_move (v := .int .i64 a1) (by rfl)) ?_
   refine RL_pure (by exact wn0 rfl) (by rfl) (by rfl) (x_lss (by rfl) (by rfl)) ?_
   refine RL_nil ?_
   refine W_cond (by rfl) (fun hb => ?_) (fun hb => ?_)
   ·have hm := cond_t hb hm
    refine W_seq ?_
    refine W_region ?_
    refine RL_pure (by exact wn0 rfl) (by rfl) (by rfl) (x_assign (v := .int .i64 (-1)) (by rfl)) ?_
    refine RL_nil ?_
    refine W_ret ?_
    obtain rfl := Option.some.inj hm
    exact ⟨[.int .i64 (-1)], (.tmp (by rfl) rfl), rfl, H.none_⟩
   ·have hm := cond_f hb hm
    refine W_skip ?_
    refine W_seq ?_
    refine W_seq ?_
    refine W_region ?_
    refine RL_pure (by exact wn0 rfl) (by rfl) (by rfl) (x_move (v := .int .i64 a0) (by rfl)) ?_
    refine RL_pure (by exact wn0 rfl) (by rfl) (by rfl) (x_move (v := .int .i64 a1) (by rfl)) ?_
    refine RL_pure (by exact wn0 rfl) (by rfl) (by rfl) (x_gtr (by rfl) (by rfl)) ?_
    refine RL_nil ?_
    refine W_cond (by rfl) (fun hb => ?_) (fun hb => ?_)
    ·have hm := cond_t hb hm
     refine W_seq ?_
     refine W_region ?_
     refine RL_pure (by exact wn0 rfl) (by rfl) (by rfl) (x_assign (v := .int .i64 1) (by rfl)) ?_
     refine RL_nil ?_
     refine W_ret ?_
     obtain rfl := Option.some.inj hm
     exact ⟨[.int .i64 1], (.tmp (by rfl) rfl), rfl, H.none_⟩
    ·have hm := cond_f hb hm
     refine W_skip ?_
     refine W_seq ?_
     refine W_region ?_
     refine RL_pure (by exact wn0 rfl) (by rfl) (by rfl) (x_assign (v := .int .i64 0) (by rfl)) ?_
     refine RL_nil ?_
     refine W_ret ?_
     obtain rfl := Option.some.inj hm
     exact ⟨[.int .i64 0], (.tmp (by rfl) rfl), rfl, H.none_⟩
end Go.Proofs.YtobkigllalbkiaaV.M

/- A plain Lean function that answers as the Go function does (none: not told), and the proof that a call answers so. Written by program. -/
set_option linter.unusedVariables false
namespace Go.Proofs.YtobkigllalbkiaaV.M
open Go.RowKit Go.Proofs.YtobkigllalbkiaaV
/-- diorama/frame.Nearer -/
def m76 (K : Nat) (a0 : S_Frag) (a1 : S_Frag) : Option (Bool) :=
 ((m117 K a1.D a0.D).bind fun v7 => ((m117 K a0.Item a1.Item).bind fun v10 => ((m117 K a0.Tri a1.Tri).bind fun v13 => ((m117 K a0.Part a1.Part).bind fun v16 => ((m116 K ([v7, v10, v13, v16])).bind fun v23 => some (decide (v23 < 0)))))))
set_option maxRecDepth 100000 in
set_option maxHeartbeats 4000000 in
theorem c76 (ok : Nat → Prop) (K : Nat) (w : World) (a0 : S_Frag) (a1 : S_Frag)  (res : Bool) (hm : m76 K a0 a1 = some res) :
  Calls Try.prog 76 #[.agg #[.int .i64 a0.D, .int .i64 a0.Item, .int .i64 a0.Tri, .int .i64 a0.Part, .int .i64 a0.U, .int .i64 a0.V], .agg #[.int .i64 a1.D, .int .i64 a1.Item, .int .i64 a1.Tri, .int .i64 a1.Part, .int .i64 a1.U, .int .i64 a1.V]] w (fun e w' => e = .returned (tup [.bool res]) ∧ Sep ok w w' [] []) := by
 refine calls_W (args := [.agg #[.int .i64 a0.D, .int .i64 a0.Item, .int .i64 a0.Tri, .int .i64 a0.Part, .int .i64 a0.U, .int .i64 a0.V], .agg #[.int .i64 a1.D, .int .i64 a1.Item, .int .i64 a1.Tri, .int .i64 a1.Part, .int .i64 a1.U, .int .i64 a1.V]]) Try.func76 rfl Try.ntmps76 Try.results76 rfl fun r hr => ?_
 obtain ⟨r1, rfl⟩ := regen (r := r) [(0, .agg #[.int .i64 a0.D, .int .i64 a0.Item, .int .i64 a0.Tri, .int .i64 a0.Part, .int .i64 a0.U, .int .i64 a0.V]), (1, .agg #[.int .i64 a1.D, .int .i64 a1.Item, .int .i64 a1.Tri, .int .i64 a1.Part, .int .i64 a1.U, .int .i64 a1.V])] ⟨hr 0 _ rfl, hr 1 _ rfl, trivial⟩
 have H : Sep ok w w [] [] := Sep.start ok w
 unfold m76 at hm
 refine W_seq ?_
 refine W_region ?_
 refine RL_cons (O_box (by exact wn0 rfl) (by rfl) (by rfl) (by rfl) H (fun w2 b1 (H : Sep ok w w2 [.blk b1 68 [.int .i64 a0.D, .int .i64 a0.Item, .int .i64 a0.Tri, .int .i64 a0.Part, .int .i64 a0.U, .int .i64 a0.V]] []) => ?_))
 refine RL_cons (O_box (by exact wn0 rfl) (by rfl) (by rfl) (by rfl) H (fun w4 b3 (H : Sep ok w w4 [.blk b1 68 [.int .i64 a0.D, .int .i64 a0.Item, .int .i64 a0.Tri, .int .i64 a0.Part, .int .i64 a0.U, .int .i64 a0.V], .blk b3 68 [.int .i64 a1.D, .int .i64 a1.Item, .int .i64 a1.Tri, .int .i64 a1.Part, .int .i64 a1.U, .int .i64 a1.V]] []) => ?_))
 refine RL_pure (by exact wn0 rfl) (by rfl) (by rfl) (x_assign (v := .bool false) (by rfl)) ?_
 refine RL_nil ?_
 refine W_seq ?_
 refine W_draw [.free 0, .take 1, .free 2, .take 3, .free 5, .take 6, .free 7, .take 8, .free 10, .take 11, .free 12, .take 13, .free 15, .take 16, .free 17, .take 18, .run 4, .run 9, .run 14, .run 19, .run 20, .run 21, .free 22, .free 23] (fun wS => Sep ok w wS [.blk b1 68 [.int .i64 a0.D, .int .i64 a0.Item, .int .i64 a0.Tri, .int .i64 a0.Part, .int .i64 a0.U, .int .i64 a0.V], .blk b3 68 [.int .i64 a1.D, .int .i64 a1.Item, .int .i64 a1.Tri, .int .i64 a1.Part, .int .i64 a1.U, .int .i64 a1.V]] []) [] [0, 2, 5, 7, 10, 12, 15, 17, 22, 23] mixed0 (by kernel_rfl) (by kernel_rfl) (by kernel_rfl) (by rfl) (by exact H.drew) ?_
 obtain ⟨w5, hW⟩ : ∃ W : World, W = { w4 with drawn := w4.drawn + 1 } := ⟨_, rfl⟩
 rw [← hW]
 have H : Sep ok w w5 [.blk b1 68 [.int .i64 a0.D, .int .i64 a0.Item, .int .i64 a0.Tri, .int .i64 a0.Part, .int .i64 a0.U, .int .i64 a0.V], .blk b3 68 [.int .i64 a1.D, .int .i64 a1.Item, .int .i64 a1.Tri, .int .i64 a1.Part, .int .i64 a1.U, .int .i64 a1.V]] [] := by rw [hW]; exact H.drew
 clear hW
 refine PR_free (by rfl) (by rfl) (by rfl) (by exact wn0 rfl) (fun wS => (x_fieldAddr fo68_0 (by rfl))) ?_
 refine PR_take (by rfl) (by rfl) (by rfl) (by exact wn0 rfl) (fun wS (H : Sep ok w wS [.blk b1 68 [.int .i64 a0.D, .int .i64 a0.Item, .int .i64 a0.Tri, .int .i64 a0.Part, .int .i64 a0.U, .int .i64 a0.V], .blk b3 68 [.int .i64 a1.D, .int .i64 a1.Item, .int .i64 a1.Tri, .int .i64 a1.Part, .int .i64 a1.U, .int .i64 a1.V]] []) => (x_load (j := 0) (v := .int .i64 a1.D) sc3 (by rfl) (H.cells (i := 1) (by rfl)) (by rfl))) ?_
 refine PR_free (by rfl) (by rfl) (by rfl) (by exact wn0 rfl) (fun wS => (x_fieldAddr fo68_0 (by rfl))) ?_
 refine PR_take (by rfl) (by rfl) (by rfl) (by exact wn0 rfl) (fun wS (H : Sep ok w wS [.blk b1 68 [.int .i64 a0.D, .int .i64 a0.Item, .int .i64 a0.Tri, .int .i64 a0.Part, .int .i64 a0.U, .int .i64 a0.V], .blk b3 68 [.int .i64 a1.D, .int .i64 a1.Item, .int .i64 a1.Tri, .int .i64 a1.Part, .int .i64 a1.U, .int .i64 a1.V]] []) => (x_load (j := 0) (v := .int .i64 a0.D) sc3 (by rfl) (H.cells (i := 0) (by rfl)) (by rfl))) ?_
 refine PR_free (by rfl) (by rfl) (by rfl) (by exact wn0 rfl) (fun wS => (x_fieldAddr fo68_1 (by rfl))) ?_
 refine PR_take (by rfl) (by rfl) (by rfl) (by exact wn0 rfl) (fun wS (H : Sep ok w wS [.blk b1 68 [.int .i64 a0.D, .int .i64 a0.Item, .int .i64 a0.Tri, .int .i64 a0.Part, .int .i64 a0.U, .int .i64 a0.V], .blk b3 68 [.int .i64 a1.D, .int .i64 a1.Item, .int .i64 a1.Tri, .int .i64 a1.Part, .int .i64 a1.U, .int .i64 a1.V]] []) => (x_load (j := 1) (v := .int .i64 a0.Item) sc3 (by rfl) (H.cells (i := 0) (by rfl)) (by rfl))) ?_
 refine PR_free (by rfl) (by rfl) (by rfl) (by exact wn0 rfl) (fun wS => (x_fieldAddr fo68_1 (by rfl))) ?_
 refine PR_take (by rfl) (by rfl) (by rfl) (by exact wn0 rfl) (fun wS (H : Sep ok w wS [.blk b1 68 [.int .i64 a0.D, .int .i64 a0.Item, .int .i64 a0.Tri, .int .i64 a0.Part, .int .i64 a0.U, .int .i64 a0.V], .blk b3 68 [.int .i64 a1.D, .int .i64 a1.Item, .int .i64 a1.Tri, .int .i64 a1.Part, .int .i64 a1.U, .int .i64 a1.V]] []) => (x_load (j := 1) (v := .int .i64 a1.Item) sc3 (by rfl) (H.cells (i := 1) (by rfl)) (by rfl))) ?_
 refine PR_free (by rfl) (by rfl) (by rfl) (by exact wn0 rfl) (fun wS => (x_fieldAddr fo68_2 (by rfl))) ?_
 refine PR_take (by rfl) (by rfl) (by rfl) (by exact wn0 rfl) (fun wS (H : Sep ok w wS [.blk b1 68 [.int .i64 a0.D, .int .i64 a0.Item, .int .i64 a0.Tri, .int .i64 a0.Part, .int .i64 a0.U, .int .i64 a0.V], .blk b3 68 [.int .i64 a1.D, .int .i64 a1.Item, .int .i64 a1.Tri, .int .i64 a1.Part, .int .i64 a1.U, .int .i64 a1.V]] []) => (x_load (j := 2) (v := .int .i64 a0.Tri) sc3 (by rfl) (H.cells (i := 0) (by rfl)) (by rfl))) ?_
 refine PR_free (by rfl) (by rfl) (by rfl) (by exact wn0 rfl) (fun wS => (x_fieldAddr fo68_2 (by rfl))) ?_
 refine PR_take (by rfl) (by rfl) (by rfl) (by exact wn0 rfl) (fun wS (H : Sep ok w wS [.blk b1 68 [.int .i64 a0.D, .int .i64 a0.Item, .int .i64 a0.Tri, .int .i64 a0.Part, .int .i64 a0.U, .int .i64 a0.V], .blk b3 68 [.int .i64 a1.D, .int .i64 a1.Item, .int .i64 a1.Tri, .int .i64 a1.Part, .int .i64 a1.U, .int .i64 a1.V]] []) => (x_load (j := 2) (v := .int .i64 a1.Tri) sc3 (by rfl) (H.cells (i := 1) (by rfl)) (by rfl))) ?_
 refine PR_free (by rfl) (by rfl) (by rfl) (by exact wn0 rfl) (fun wS => (x_fieldAddr fo68_3 (by rfl))) ?_
 refine PR_take (by rfl) (by rfl) (by rfl) (by exact wn0 rfl) (fun wS (H : Sep ok w wS [.blk b1 68 [.int .i64 a0.D, .int .i64 a0.Item, .int .i64 a0.Tri, .int .i64 a0.Part, .int .i64 a0.U, .int .i64 a0.V], .blk b3 68 [.int .i64 a1.D, .int .i64 a1.Item, .int .i64 a1.Tri, .int .i64 a1.Part, .int .i64 a1.U, .int .i64 a1.V]] []) => (x_load (j := 3) (v := .int .i64 a0.Part) sc3 (by rfl) (H.cells (i := 0) (by rfl)) (by rfl))) ?_
 refine PR_free (by rfl) (by rfl) (by rfl) (by exact wn0 rfl) (fun wS => (x_fieldAddr fo68_3 (by rfl))) ?_
 refine PR_take (by rfl) (by rfl) (by rfl) (by exact wn0 rfl) (fun wS (H : Sep ok w wS [.blk b1 68 [.int .i64 a0.D, .int .i64 a0.Item, .int .i64 a0.Tri, .int .i64 a0.Part, .int .i64 a0.U, .int .i64 a0.V], .blk b3 68 [.int .i64 a1.D, .int .i64 a1.Item, .int .i64 a1.Tri, .int .i64 a1.Part, .int .i64 a1.U, .int .i64 a1.V]] []) => (x_load (j := 3) (v := .int .i64 a1.Part) sc3 (by rfl) (H.cells (i := 1) (by rfl)) (by rfl))) ?_
 obtain ⟨v7, hv6, hm⟩ := bind_some hm
 refine PR_run (by rfl) (O_call (by exact wn0 rfl) (by rfl) (by rfl) (x_callL (by rfl) (args := [.int .i64 a1.D, .int .i64 a0.D]) (by rfl) (cf117 _ _)) (c117 (fun _ => True) K w5 a1.D a0.D  v7 hv6) ?_)
 rintro e w8 ⟨rfl, H2⟩
 have H : Sep ok w w8 [.blk b1 68 [.int .i64 a0.D, .int .i64 a0.Item, .int .i64 a0.Tri, .int .i64 a0.Part, .int .i64 a0.U, .int .i64 a0.V], .blk b3 68 [.int .i64 a1.D, .int .i64 a1.Item, .int .i64 a1.Tri, .int .i64 a1.Part, .int .i64 a1.U, .int .i64 a1.V]] [] := H.below H2.base
 clear H2
 refine ⟨_, rfl, H, ?_⟩
 show PR _ _ _ _ _ _ _ _
 obtain ⟨v10, hv9, hm⟩ := bind_some hm
 refine PR_run (by rfl) (O_call (by exact wn0 rfl) (by rfl) (by rfl) (x_callL (by rfl) (args := [.int .i64 a0.Item, .int .i64 a1.Item]) (by rfl) (cf117 _ _)) (c117 (fun _ => True) K w8 a0.Item a1.Item  v10 hv9) ?_)
 rintro e w11 ⟨rfl, H2⟩
 have H : Sep ok w w11 [.blk b1 68 [.int .i64 a0.D, .int .i64 a0.Item, .int .i64 a0.Tri, .int .i64 a0.Part, .int .i64 a0.U, .int .i64 a0.V], .blk b3 68 [.int .i64 a1.D, .int .i64 a1.Item, .int .i64 a1.Tri, .int .i64 a1.Part, .int .i64 a1.U, .int .i64 a1.V]] [] := H.below H2.base
 clear H2
 refine ⟨_, rfl, H, ?_⟩
 show PR _ _ _ _ _ _ _ _
 obtain ⟨v13, hv12, hm⟩ := bind_some hm
 refine PR_run (by rfl) (O_call (by exact wn0 rfl) (by rfl) (by rfl) (x_callL (by rfl) (args := [.int .i64 a0.Tri, .int .i64 a1.Tri]) (by rfl) (cf117 _ _)) (c117 (fun _ => True) K w11 a0.Tri a1.Tri  v13 hv12) ?_)
 rintro e w14 ⟨rfl, H2⟩
 have H : Sep ok w w14 [.blk b1 68 [.int .i64 a0.D, .int .i64 a0.Item, .int .i64 a0.Tri, .int .i64 a0.Part, .int .i64 a0.U, .int .i64 a0.V], .blk b3 68 [.int .i64 a1.D, .int .i64 a1.Item, .int .i64 a1.Tri, .int .i64 a1.Part, .int .i64 a1.U, .int .i64 a1.V]] [] := H.below H2.base
 clear H2
 refine ⟨_, rfl, H, ?_⟩
 show PR _ _ _ _ _ _ _ _
 obtain ⟨v16, hv15, hm⟩ := bind_some hm
 refine PR_run (by rfl) (O_call (by exact wn0 rfl) (by rfl) (by rfl) (x_callL (by rfl) (args := [.int .i64 a0.Part, .int .i64 a1.Part]) (by rfl) (cf117 _ _)) (c117 (fun _ => True) K w14 a0.Part a1.Part  v16 hv15) ?_)
 rintro e w17 ⟨rfl, H2⟩
 have H : Sep ok w w17 [.blk b1 68 [.int .i64 a0.D, .int .i64 a0.Item, .int .i64 a0.Tri, .int .i64 a0.Part, .int .i64 a0.U, .int .i64 a0.V], .blk b3 68 [.int .i64 a1.D, .int .i64 a1.Item, .int .i64 a1.Tri, .int .i64 a1.Part, .int .i64 a1.U, .int .i64 a1.V]] [] := H.below H2.base
 clear H2
 refine ⟨_, rfl, H, ?_⟩
 show PR _ _ _ _ _ _ _ _
 refine PR_run (by rfl) (O_buildSlice (vs := [(0, .int .i64 v7), (1, .int .i64 v10), (2, .int .i64 v13), (3, .int .i64 v16)]) (cs := [.int .i64 v7, .int .i64 v10, .int .i64 v13, .int .i64 v16]) (by exact wn0 rfl) (by rfl) sl23 sz3 ze3 (by rfl) (by rfl) (by rfl) (by kernel_rfl) H (fun w19 b18 (H : Sep ok w w19 [.blk b1 68 [.int .i64 a0.D, .int .i64 a0.Item, .int .i64 a0.Tri, .int .i64 a0.Part, .int .i64 a0.U, .int .i64 a0.V], .blk b3 68 [.int .i64 a1.D, .int .i64 a1.Item, .int .i64 a1.Tri, .int .i64 a1.Part, .int .i64 a1.U, .int .i64 a1.V], .blk b18 3 [.int .i64 v7, .int .i64 v10, .int .i64 v13, .int .i64 v16]] []) => ⟨(Sep.takeL H 2), ?_⟩))
 have H : Sep ok w w19 [.blk b1 68 [.int .i64 a0.D, .int .i64 a0.Item, .int .i64 a0.Tri, .int .i64 a0.Part, .int .i64 a0.U, .int .i64 a0.V], .blk b3 68 [.int .i64 a1.D, .int .i64 a1.Item, .int .i64 a1.Tri, .int .i64 a1.Part, .int .i64 a1.U, .int .i64 a1.V], .row (.slice (some ⟨b18, 0, none⟩) ([v7, v10, v13, v16]).length 4) 3 kInt.sz ([v7, v10, v13, v16]).length [.int .i64 v7, .int .i64 v10, .int .i64 v13, .int .i64 v16]] [RE.chunks kInt [.int .i64 v7, .int .i64 v10, .int .i64 v13, .int .i64 v16] ([v7, v10, v13, v16])] := H.rowOf (i := 2) (D := kInt) (xs := [v7, v10, v13, v16]) (by rfl) (by exact ⟨rfl, rfl, rfl, rfl, rfl⟩) (by rfl)
 obtain ⟨v23, hv22, hm⟩ := bind_some hm
 refine PR_run (by rfl) (O_call (by exact wn0 rfl) (by rfl) (by rfl) (x_callL (by rfl) (args := [.slice (some ⟨b18, 0, none⟩) ([v7, v10, v13, v16]).length 4]) (by rfl) (cf116 _ _)) (c116 (fun _ => True) K w19 ([v7, v10, v13, v16]) (some ⟨b18, 0, none⟩) 4 (H.rowRd (i := 2) (j := 0) (by rfl) (by rfl)) v23 hv22) ?_)
 rintro e w24 ⟨rfl, H2⟩
 have H : Sep ok w w24 [.blk b1 68 [.int .i64 a0.D, .int .i64 a0.Item, .int .i64 a0.Tri, .int .i64 a0.Part, .int .i64 a0.U, .int .i64 a0.V], .blk b3 68 [.int .i64 a1.D, .int .i64 a1.Item, .int .i64 a1.Tri, .int .i64 a1.Part, .int .i64 a1.U, .int .i64 a1.V], .row (.slice (some ⟨b18, 0, none⟩) ([v7, v10, v13, v16]).length 4) 3 kInt.sz ([v7, v10, v13, v16]).length [.int .i64 v7, .int .i64 v10, .int .i64 v13, .int .i64 v16]] [RE.chunks kInt [.int .i64 v7, .int .i64 v10, .int .i64 v13, .int .i64 v16] ([v7, v10, v13, v16])] := H.below H2.base
 clear H2
 refine ⟨_, rfl, (Sep.takeR (Sep.takeL H 2) 0), ?_⟩
 show PR _ _ _ _ _ _ _ _
 refine PR_free (by rfl) (by rfl) (by rfl) (by exact wn0 rfl) (fun wS => (x_lss (by rfl) (by rfl))) ?_
 refine PR_free (by rfl) (by rfl) (by rfl) (by exact wn0 rfl) (fun wS => (x_assign (v := .bool (decide (v23 < 0))) (by rfl))) ?_
 refine PR_nil ?_
 refine W_ret ?_
 obtain rfl := Option.some.inj hm
 exact ⟨[.bool (decide (v23 < 0))], (.tmp (by rfl) rfl), rfl, H.none_⟩
end Go.Proofs.YtobkigllalbkiaaV.M
