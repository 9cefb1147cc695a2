/- Pyramids, in plain Lean: the least within a rectangle. -/
import Derived.Test.YtobkigllalbkiaaVPyr
set_option linter.unusedVariables false
set_option linter.unusedSimpArgs false
namespace Go.Proofs.YtobkigllalbkiaaV.M
/-- The least of a bound and of what some pixels have. -/
structure MinB (w h : Nat) (v : Nat → Nat → Int) (bound m : Int) (S : Nat → Nat → Prop) : Prop where
  le : m ≤ bound
  all : ∀ px py, px < w → py < h → S px py → m ≤ v px py
  at_ : m = bound ∨ ∃ px py, px < w ∧ py < h ∧ S px py ∧ m = v px py
def inR (r : S_Rect) (px py : Nat) : Prop := r.X0 ≤ px ∧ (px : Int) ≤ r.X1 ∧ r.Y0 ≤ py ∧ (py : Int) ≤ r.Y1
def below (r : S_Rect) (lev x y : Nat) (px py : Nat) : Prop := inR r px py ∧ px / 2 ^ lev = x ∧ py / 2 ^ lev = y
theorem shl_eq {lev : Nat} (h : lev ≤ 6) : shlV .i64 1 (lev : Int) = ((2 ^ lev : Nat) : Int) := by
  have : lev = 0 ∨ lev = 1 ∨ lev = 2 ∨ lev = 3 ∨ lev = 4 ∨ lev = 5 ∨ lev = 6 := by omega
  rcases this with rfl | rfl | rfl | rfl | rfl | rfl | rfl <;> decide
theorem pow_le {lev : Nat} (h : lev ≤ 6) : 1 ≤ 2 ^ lev ∧ 2 ^ lev ≤ 64 := by
  have : lev = 0 ∨ lev = 1 ∨ lev = 2 ∨ lev = 3 ∨ lev = 4 ∨ lev = 5 ∨ lev = 6 := by omega
  rcases this with rfl | rfl | rfl | rfl | rfl | rfl | rfl <;> decide
/-- One step of 'low', its words read. -/
theorem m62_step {K : Nat} {self : S_Pyramid → Int → Int → Int → S_Rect → Int → Option Int} {p : S_Pyramid} {r : S_Rect} {a b lev x y s : Nat} {u : Nat → Nat → Int} {bound : Int}
    (hl : p.Levels[lev]? = some (mkL a b u)) (ha : a ≤ 64) (hb : b ≤ 64) (hs : shlV .i64 1 (lev : Int) = (s : Int)) (hs64 : s ≤ 64) (hx : x ≤ 200) (hy : y ≤ 200) (hlev : lev ≤ 6) :
    m62b K self p lev x y r bound =
      if a ≤ x ∨ b ≤ y ∨ r.X1 < (x * s : Nat) ∨ (((x + 1) * s : Nat) : Int) ≤ r.X0 ∨ r.Y1 < (y * s : Nat) ∨ (((y + 1) * s : Nat) : Int) ≤ r.Y0 ∨ bound ≤ atL a b u x y then some bound
      else if r.X0 ≤ (x * s : Nat) ∧ (((x + 1) * s : Nat) : Int) - 1 ≤ r.X1 ∧ r.Y0 ≤ (y * s : Nat) ∧ (((y + 1) * s : Nat) : Int) - 1 ≤ r.Y1 then some (atL a b u x y)
      else (self p ((lev : Int) - 1) (2 * x : Nat) (2 * y : Nat) r bound).bind fun b1 => (self p ((lev : Int) - 1) (2 * x + 1 : Nat) (2 * y : Nat) r b1).bind fun b2 =>
        (self p ((lev : Int) - 1) (2 * x : Nat) (2 * y + 1 : Nat) r b2).bind fun b3 => self p ((lev : Int) - 1) (2 * x + 1 : Nat) (2 * y + 1 : Nat) r b3 := by
  have hxs : x * s ≤ 200 * 64 := Nat.mul_le_mul hx hs64
  have hys : y * s ≤ 200 * 64 := Nat.mul_le_mul hy hs64
  have hxs1 : (x + 1) * s ≤ 201 * 64 := Nat.mul_le_mul (by omega) hs64
  have hys1 : (y + 1) * s ≤ 201 * 64 := Nat.mul_le_mul (by omega) hs64
  have e1 : (x : Int) * (s : Int) = ((x * s : Nat) : Int) := by push_cast; rfl
  have e2 : (y : Int) * (s : Int) = ((y * s : Nat) : Int) := by push_cast; rfl
  have e3 : (x : Int) + 1 = ((x + 1 : Nat) : Int) := by push_cast; rfl
  have e4 : (y : Int) + 1 = ((y + 1 : Nat) : Int) := by push_cast; rfl
  have e5 : ((x + 1 : Nat) : Int) * (s : Int) = (((x + 1) * s : Nat) : Int) := by push_cast; rfl
  have e6 : ((y + 1 : Nat) : Int) * (s : Int) = (((y + 1) * s : Nat) : Int) := by push_cast; rfl
  have c1 : ∀ {α : Type} (k : Int → Option α), ck ((x * s : Nat) : Int) k = k ((x * s : Nat) : Int) := fun k => ck_in (by omega) (by omega)
  have c2 : ∀ {α : Type} (k : Int → Option α), ck ((y * s : Nat) : Int) k = k ((y * s : Nat) : Int) := fun k => ck_in (by omega) (by omega)
  have c3 : ∀ {α : Type} (k : Int → Option α), ck ((x + 1 : Nat) : Int) k = k ((x + 1 : Nat) : Int) := fun k => ck_in (by omega) (by omega)
  have c4 : ∀ {α : Type} (k : Int → Option α), ck ((y + 1 : Nat) : Int) k = k ((y + 1 : Nat) : Int) := fun k => ck_in (by omega) (by omega)
  have c5 : ∀ {α : Type} (k : Int → Option α), ck (((x + 1) * s : Nat) : Int) k = k (((x + 1) * s : Nat) : Int) := fun k => ck_in (by omega) (by omega)
  have c6 : ∀ {α : Type} (k : Int → Option α), ck (((y + 1) * s : Nat) : Int) k = k (((y + 1) * s : Nat) : Int) := fun k => ck_in (by omega) (by omega)
  have c7 : ∀ {α : Type} (k : Int → Option α), ck ((((x + 1) * s : Nat) : Int) - 1) k = k ((((x + 1) * s : Nat) : Int) - 1) := fun k => ck_in (by omega) (by omega)
  have c8 : ∀ {α : Type} (k : Int → Option α), ck ((((y + 1) * s : Nat) : Int) - 1) k = k ((((y + 1) * s : Nat) : Int) - 1) := fun k => ck_in (by omega) (by omega)
  have c9 : ∀ {α : Type} (k : Int → Option α), ck ((lev : Int) - 1) k = k ((lev : Int) - 1) := fun k => ck_in (by omega) (by omega)
  have f1 : (2 : Int) * (x : Int) = ((2 * x : Nat) : Int) := by push_cast; rfl
  have f2 : (2 : Int) * (y : Int) = ((2 * y : Nat) : Int) := by push_cast; rfl
  have d1 : ∀ {α : Type} (k : Int → Option α), ck ((2 * x : Nat) : Int) k = k ((2 * x : Nat) : Int) := fun k => ck_in (by omega) (by omega)
  have d2 : ∀ {α : Type} (k : Int → Option α), ck ((2 * y : Nat) : Int) k = k ((2 * y : Nat) : Int) := fun k => ck_in (by omega) (by omega)
  have d3 : ∀ {α : Type} (k : Int → Option α), ck (((2 * x : Nat) : Int) + 1) k = k ((2 * x + 1 : Nat) : Int) := fun k => ck_in (by omega) (by omega)
  have d4 : ∀ {α : Type} (k : Int → Option α), ck (((2 * y : Nat) : Int) + 1) k = k ((2 * y + 1 : Nat) : Int) := fun k => ck_in (by omega) (by omega)
  have d5 : ∀ {α : Type} (k : Int → Option α), ck (((2 * x : Nat) : Int) + 0) k = k ((2 * x : Nat) : Int) := fun k => ck_in (by omega) (by omega)
  have d6 : ∀ {α : Type} (k : Int → Option α), ck (((2 * y : Nat) : Int) + 0) k = k ((2 * y : Nat) : Int) := fun k => ck_in (by omega) (by omega)
  have z0 : ∀ {α : Type} (k : Int → Option α), ck 0 k = k 0 := fun k => ck_in (by omega) (by omega)
  have z1 : ∀ {α : Type} (k : Int → Option α), ck 1 k = k 1 := fun k => ck_in (by omega) (by omega)
  have t0 : Int.tmod 0 2 = 0 := rfl
  have t1 : Int.tmod 1 2 = 1 := rfl
  have t2 : Int.tmod 2 2 = 0 := rfl
  have t3 : Int.tmod 3 2 = 1 := rfl
  have u0 : Int.tdiv 0 2 = 0 := rfl
  have u1 : Int.tdiv 1 2 = 0 := rfl
  have u2 : Int.tdiv 2 2 = 1 := rfl
  have u3 : Int.tdiv 3 2 = 1 := rfl
  have hW : (mkL a b u).W = (a : Int) := rfl
  have hH : (mkL a b u).H = (b : Int) := rfl
  unfold m62b
  rw [idx_nat hl, ge0_in (by omega), hs]
  simp only [hW, hH, e1, e2, e3, e4, e5, e6, c1, c2, c3, c4, c5, c6, c7, c8, c9, f1, f2, d1, d2, d3, d4, d5, d6, z0, z1, t0, t1, t2, t3, u0, u1, u2, u3, m109_eq ha hb, Option.bind_some]
  by_cases h1 : a ≤ x
  · simp [h1]
  by_cases h2 : b ≤ y
  · simp [h1, h2]
  have g1 : ¬ (a : Int) ≤ (x : Int) := by omega
  have g2 : ¬ (b : Int) ≤ (y : Int) := by omega
  by_cases h3 : r.X1 < ((x * s : Nat) : Int)
  · rw [if_pos (.inr (.inr (.inl h3)))]
    simp only [g1, g2, h3, decide_true, decide_false, cond_true, cond_false, Option.bind_some]
  by_cases h4 : (((x + 1) * s : Nat) : Int) ≤ r.X0
  · rw [if_pos (.inr (.inr (.inr (.inl h4))))]
    simp only [g1, g2, h3, h4, decide_true, decide_false, cond_true, cond_false, Option.bind_some]
  by_cases h5 : r.Y1 < ((y * s : Nat) : Int)
  · rw [if_pos (.inr (.inr (.inr (.inr (.inl h5)))))]
    simp only [g1, g2, h3, h4, h5, decide_true, decide_false, cond_true, cond_false, Option.bind_some]
  by_cases h6 : (((y + 1) * s : Nat) : Int) ≤ r.Y0
  · rw [if_pos (.inr (.inr (.inr (.inr (.inr (.inl h6))))))]
    simp only [g1, g2, h3, h4, h5, h6, decide_true, decide_false, cond_true, cond_false, Option.bind_some]
  by_cases h7 : bound ≤ atL a b u x y
  · rw [if_pos (.inr (.inr (.inr (.inr (.inr (.inr h7))))))]
    simp only [g1, g2, h3, h4, h5, h6, h7, decide_true, decide_false, cond_true, cond_false, Option.bind_some]
  have hn : ¬ (a ≤ x ∨ b ≤ y ∨ r.X1 < (x * s : Nat) ∨ (((x + 1) * s : Nat) : Int) ≤ r.X0 ∨ r.Y1 < (y * s : Nat) ∨ (((y + 1) * s : Nat) : Int) ≤ r.Y0 ∨ bound ≤ atL a b u x y) := by
    rintro (h | h | h | h | h | h | h) <;> contradiction
  rw [if_neg hn]
  simp only [g1, g2, h3, h4, h5, h6, h7, decide_false, cond_false, Option.bind_some]
  by_cases i1 : r.X0 ≤ ((x * s : Nat) : Int)
  · by_cases i2 : (((x + 1) * s : Nat) : Int) - 1 ≤ r.X1
    · by_cases i3 : r.Y0 ≤ ((y * s : Nat) : Int)
      · by_cases i4 : (((y + 1) * s : Nat) : Int) - 1 ≤ r.Y1
        · rw [if_pos ⟨i1, i2, i3, i4⟩]
          simp only [i1, i2, i3, i4, decide_true, cond_true, Option.bind_some]
        · rw [if_neg (fun h => i4 h.2.2.2)]
          simp only [i1, i2, i3, i4, decide_true, decide_false, cond_true, cond_false, Option.bind_some, Option.bind_fun_some]
      · rw [if_neg (fun h => i3 h.2.2.1)]
        simp only [i1, i2, i3, decide_true, decide_false, cond_true, cond_false, Option.bind_some, Option.bind_fun_some]
    · rw [if_neg (fun h => i2 h.2.1)]
      simp only [i1, i2, decide_true, decide_false, cond_true, cond_false, Option.bind_some, Option.bind_fun_some]
  · rw [if_neg (fun h => i1 h.1)]
    simp only [i1, decide_true, decide_false, cond_true, cond_false, Option.bind_some, Option.bind_fun_some]
theorem MinB.none_ {w h : Nat} {v : Nat → Nat → Int} {bound : Int} {S : Nat → Nat → Prop} (hS : ∀ px py, px < w → py < h → S px py → bound ≤ v px py) : MinB w h v bound bound S := ⟨Int.le_refl _, hS, .inl rfl⟩
theorem MinB.or {w h : Nat} {v : Nat → Nat → Int} {bound m1 m2 : Int} {S1 S2 : Nat → Nat → Prop} (h1 : MinB w h v bound m1 S1) (h2 : MinB w h v m1 m2 S2) : MinB w h v bound m2 (fun px py => S1 px py ∨ S2 px py) := by
  refine ⟨Int.le_trans h2.le h1.le, fun px py hx hy hs => ?_, ?_⟩
  · rcases hs with hs | hs
    · exact Int.le_trans h2.le (h1.all px py hx hy hs)
    · exact h2.all px py hx hy hs
  · rcases h2.at_ with e | ⟨px, py, hx, hy, hs, e⟩
    · rcases h1.at_ with e1 | ⟨px, py, hx, hy, hs, e1⟩
      · exact .inl (e.trans e1)
      · exact .inr ⟨px, py, hx, hy, .inl hs, e.trans e1⟩
    · exact .inr ⟨px, py, hx, hy, .inr hs, e⟩
theorem MinB.iff {w h : Nat} {v : Nat → Nat → Int} {bound m : Int} {S1 S2 : Nat → Nat → Prop} (h1 : MinB w h v bound m S1) (hs : ∀ px py, S1 px py ↔ S2 px py) : MinB w h v bound m S2 :=
  ⟨h1.le, fun px py hx hy h => h1.all px py hx hy ((hs px py).2 h), h1.at_.imp id fun ⟨px, py, hx, hy, h, e⟩ => ⟨px, py, hx, hy, (hs px py).1 h, e⟩⟩
theorem MinB.same {w h : Nat} {v : Nat → Nat → Int} {bound m m' : Int} {S : Nat → Nat → Prop} (h1 : MinB w h v bound m S) (h2 : MinB w h v bound m' S) : m = m' := by
  have a : m ≤ m' := by
    rcases h2.at_ with e | ⟨px, py, hx, hy, hs, e⟩
    · rw [e]; exact h1.le
    · rw [e]; exact h1.all px py hx hy hs
  have b : m' ≤ m := by
    rcases h1.at_ with e | ⟨px, py, hx, hy, hs, e⟩
    · rw [e]; exact h2.le
    · rw [e]; exact h2.all px py hx hy hs
  omega
theorem div_bounds {p s x : Nat} (hs : 1 ≤ s) (h : p / s = x) : x * s ≤ p ∧ p < (x + 1) * s := by
  subst h
  refine ⟨Nat.div_mul_le_self _ _, ?_⟩
  have := Nat.lt_div_mul_add (a := p) hs
  rw [Nat.add_mul, Nat.one_mul]; exact this
theorem below_split {r : S_Rect} {l x y px py : Nat} : (((below r l (2 * x) (2 * y) px py ∨ below r l (2 * x + 1) (2 * y) px py) ∨ below r l (2 * x) (2 * y + 1) px py) ∨ below r l (2 * x + 1) (2 * y + 1) px py) ↔ below r (l + 1) x y px py := by
  unfold below
  rw [div_succ, div_succ]
  generalize px / 2 ^ l = a
  generalize py / 2 ^ l = b
  constructor
  · rintro (((⟨h, h1, h2⟩ | ⟨h, h1, h2⟩) | ⟨h, h1, h2⟩) | ⟨h, h1, h2⟩) <;> exact ⟨h, by omega, by omega⟩
  · rintro ⟨h, h1, h2⟩
    have c1 : a = 2 * x ∨ a = 2 * x + 1 := by omega
    have c2 : b = 2 * y ∨ b = 2 * y + 1 := by omega
    rcases c1 with c1 | c1 <;> rcases c2 with c2 | c2
    · exact .inl (.inl (.inl ⟨h, c1, c2⟩))
    · exact .inl (.inr ⟨h, c1, c2⟩)
    · exact .inl (.inl (.inr ⟨h, c1, c2⟩))
    · exact .inr ⟨h, c1, c2⟩
theorem low_eq {K w h top : Nat} {v : Nat → Nat → Int} {p : S_Pyramid} {r : S_Rect} (hw : w ≤ 64) (hh : h ≤ 64) (hv : ∀ x y, x < w → y < h → v x y ≤ 66560) (htop : top ≤ 6)
    (hp : ∀ i, i ≤ top → p.Levels[i]? = some (mkL (wi w i) (wi h i) (vi w h v i))) :
    ∀ (n lev : Nat), lev < n → lev ≤ top → ∀ (x y : Nat) (bound : Int), x ≤ 200 → y ≤ 200 → ∃ m, m62f K n p lev x y r bound = some m ∧ MinB w h v bound m (below r lev x y) := by
  intro n
  induction n with
  | zero => intro lev hl; exact absurd hl (Nat.not_lt_zero _)
  | succ n ih =>
    intro lev hl hlt x y bound hx hy
    have hlev : lev ≤ 6 := by omega
    obtain ⟨hs1, hs64⟩ := pow_le hlev
    have ha := wi_le hw lev
    have hb := wi_le hh lev
    have hstep := m62_step (K := K) (self := m62f K n) (r := r) (bound := bound) (hp lev hlt) ha hb (shl_eq hlev) hs64 hx hy hlev
    have hbase : m62f K (n + 1) p lev x y r bound = m62b K (m62f K n) p lev x y r bound := rfl
    rw [hbase, hstep]
    clear hbase hstep
    have hblk : ∀ px py, below r lev x y px py → (x * 2 ^ lev ≤ px ∧ px < (x + 1) * 2 ^ lev) ∧ (y * 2 ^ lev ≤ py ∧ py < (y + 1) * 2 ^ lev) := fun px py hbl => ⟨div_bounds hs1 hbl.2.1, div_bounds hs1 hbl.2.2⟩
    split
    · rename_i hout
      refine ⟨bound, rfl, MinB.none_ fun px py hpx hpy hbl => ?_⟩
      obtain ⟨⟨b1, b2⟩, b3, b4⟩ := hblk px py hbl
      obtain ⟨⟨r1, r2, r3, r4⟩, d1, d2⟩ := hbl
      have l1 := lt_wi hpx lev
      have l2 := lt_wi hpy lev
      rw [d1] at l1
      rw [d2] at l2
      rcases hout with q | q | q | q | q | q | q
      · omega
      · omega
      · omega
      · omega
      · omega
      · omega
      · have hle := (vi_least hv lev x y l1 l2).2 px py hpx hpy d1 d2
        have : atL (wi w lev) (wi h lev) (vi w h v lev) x y = vi w h v lev x y := by unfold atL; rw [if_neg (by omega)]
        rw [this] at q
        exact Int.le_trans q hle
    · rename_i hout
      have o1 : x < wi w lev := Nat.lt_of_not_le fun h => hout (.inl h)
      have o2 : y < wi h lev := Nat.lt_of_not_le fun h => hout (.inr (.inl h))
      have hat : atL (wi w lev) (wi h lev) (vi w h v lev) x y = vi w h v lev x y := by unfold atL; rw [if_neg (by omega)]
      have hlst := vi_least hv lev x y o1 o2
      split
      · rename_i hin
        refine ⟨_, rfl, ⟨?_, fun px py hpx hpy hbl => ?_, .inr ?_⟩⟩
        · have : ¬ bound ≤ atL (wi w lev) (wi h lev) (vi w h v lev) x y := fun q => hout (.inr (.inr (.inr (.inr (.inr (.inr q))))))
          omega
        · rw [hat]; exact hlst.2 px py hpx hpy hbl.2.1 hbl.2.2
        · obtain ⟨px, py, hpx, hpy, d1, d2, e⟩ := hlst.1
          obtain ⟨b1, b2⟩ := div_bounds hs1 d1
          obtain ⟨b3, b4⟩ := div_bounds hs1 d2
          refine ⟨px, py, hpx, hpy, ⟨⟨?_, ?_, ?_, ?_⟩, d1, d2⟩, by rw [hat, e]⟩
          · have := hin.1; omega
          · have := hin.2.1; omega
          · have := hin.2.2.1; omega
          · have := hin.2.2.2; omega
      · rename_i hin
        cases lev with
        | zero =>
          exfalso
          apply hin
          have q1 : ¬ r.X1 < ((x * 2 ^ 0 : Nat) : Int) := fun h => hout (.inr (.inr (.inl h)))
          have q2 : ¬ (((x + 1) * 2 ^ 0 : Nat) : Int) ≤ r.X0 := fun h => hout (.inr (.inr (.inr (.inl h))))
          have q3 : ¬ r.Y1 < ((y * 2 ^ 0 : Nat) : Int) := fun h => hout (.inr (.inr (.inr (.inr (.inl h)))))
          have q4 : ¬ (((y + 1) * 2 ^ 0 : Nat) : Int) ≤ r.Y0 := fun h => hout (.inr (.inr (.inr (.inr (.inr (.inl h))))))
          simp only [Nat.pow_zero, Nat.mul_one] at q1 q2 q3 q4 ⊢
          refine ⟨?_, ?_, ?_, ?_⟩ <;> omega
        | succ l =>
          have e1 : ((l + 1 : Nat) : Int) - 1 = ((l : Nat) : Int) := by omega
          rw [e1]
          obtain ⟨m1, k1, M1⟩ := ih l (by omega) (by omega) (2 * x) (2 * y) bound (by omega) (by omega)
          obtain ⟨m2, k2, M2⟩ := ih l (by omega) (by omega) (2 * x + 1) (2 * y) m1 (by omega) (by omega)
          obtain ⟨m3, k3, M3⟩ := ih l (by omega) (by omega) (2 * x) (2 * y + 1) m2 (by omega) (by omega)
          obtain ⟨m4, k4, M4⟩ := ih l (by omega) (by omega) (2 * x + 1) (2 * y + 1) m3 (by omega) (by omega)
          refine ⟨m4, ?_, (((M1.or M2).or M3).or M4).iff fun px py => below_split⟩
          rw [k1, Option.bind_some, k2, Option.bind_some, k3, Option.bind_some, k4]
end Go.Proofs.YtobkigllalbkiaaV.M
