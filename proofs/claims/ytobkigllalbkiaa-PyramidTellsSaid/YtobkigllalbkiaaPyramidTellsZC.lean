/- Part 3 of the texts that the proof of PyramidTells stands on. -/
import Derived.Test.YtobkigllalbkiaaPyramidTellsZB
/- Pyramids, in plain Lean: what the models of 'build' and 'low' compute. -/
set_option linter.unusedVariables false
set_option linter.unusedSimpArgs false
namespace Go.Proofs.YtobkigllalbkiaaV
section words
variable {α β : Type}
theorem ck_in {x : Int} {k : Int → Option α} (h0 : -9223372036854775808 ≤ x) (h1 : x ≤ 9223372036854775807) : ck x k = k x := if_pos ⟨h0, h1⟩
theorem idx_in {l : List α} {i : Int} {a : α} {k : α → Option β} (h0 : 0 ≤ i) (h : l[i.toNat]? = some a) : idx l i k = k a := by simp [idx, h0, h]
theorem idx_nat {l : List α} {i : Nat} {a : α} {k : α → Option β} (h : l[i]? = some a) : idx l (i : Int) k = k a := idx_in (by omega) (by simpa using h)
theorem nz_in {b : Int} {k : Option α} (h : b ≠ 0) : nz b k = k := if_pos h
theorem ge0_in {b : Int} {k : Option α} (h : 0 ≤ b) : ge0 b k = k := if_pos h
theorem apd_in {bytes : Nat} {l : List α} {x : α} {k : List α → Option β} (h : (l.length + 1) * bytes ≤ 140737488355328) : apd bytes l x k = k (l ++ [x]) := if_pos h
theorem apds_in {bytes : Nat} {l m : List α} {k : List α → Option β} (h : (l.length + m.length) * bytes ≤ 140737488355328) : apds bytes l m k = k (l ++ m) := if_pos h
theorem mks_in {bytes : Nat} {n : Int} {z : α} {k : List α → Option β} (h0 : 0 ≤ n) (h : n * bytes ≤ 140737488355328) : mks bytes n z k = k (List.replicate n.toNat z) := if_pos ⟨h0, h⟩
theorem mn_eq (a b : Int) : mn a b = min a b := by unfold mn; split <;> omega
theorem mx_eq (a b : Int) : mx a b = max a b := by unfold mx; split <;> omega
end words
namespace M
/-- A level that a function tells. -/
def mkL (w h : Nat) (v : Nat → Nat → Int) : S_Level := ⟨w, h, (List.range (w * h)).map fun i => v (i % w) (i / w)⟩
def atL (w h : Nat) (v : Nat → Nat → Int) (x y : Nat) : Int := if w ≤ x ∨ h ≤ y then 66560 else v x y
theorem place_lt {w h x y : Nat} (hx : x < w) (hy : y < h) : y * w + x < w * h := by
  have : (y + 1) * w ≤ h * w := Nat.mul_le_mul_right _ hy
  rw [Nat.add_mul, Nat.one_mul] at this
  rw [Nat.mul_comm w h]; omega
theorem place_mod {w x y : Nat} (hx : x < w) : (y * w + x) % w = x := by rw [Nat.mul_comm, Nat.mul_add_mod, Nat.mod_eq_of_lt hx]
theorem place_div {w x y : Nat} (hx : x < w) : (y * w + x) / w = y := by
  rw [Nat.mul_comm, Nat.mul_add_div (by omega), Nat.div_eq_of_lt hx, Nat.add_zero]
theorem mkL_get {w h x y : Nat} {v : Nat → Nat → Int} (hx : x < w) (hy : y < h) : (mkL w h v).Low[y * w + x]? = some (v x y) := by
  have h1 := place_lt hx hy
  simp [mkL, h1, place_mod hx, place_div hx]
theorem m109_eq {K w h x y : Nat} {v : Nat → Nat → Int} (hw : w ≤ 64) (hh : h ≤ 64) : m109 K (mkL w h v) x y = some (atL w h v x y) := by
  unfold m109 atL
  by_cases hx : w ≤ x
  · have h1 : (mkL w h v).W ≤ (x : Int) := by show (w : Int) ≤ x; omega
    simp [h1, hx]
  · by_cases hy : h ≤ y
    · have h1 : ¬ (mkL w h v).W ≤ (x : Int) := by show ¬ (w : Int) ≤ x; omega
      have h2 : (mkL w h v).H ≤ (y : Int) := by show (h : Int) ≤ y; omega
      simp [h1, h2, hx, hy]
    · have h1 : ¬ (mkL w h v).W ≤ (x : Int) := by show ¬ (w : Int) ≤ x; omega
      have h2 : ¬ (mkL w h v).H ≤ (y : Int) := by show ¬ (h : Int) ≤ y; omega
      have hlt : y * w ≤ 64 * 64 := Nat.mul_le_mul (by omega) (by omega)
      have e1 : (y : Int) * (mkL w h v).W = ((y * w : Nat) : Int) := by show (y : Int) * (w : Int) = _; push_cast; rfl
      have e2 : ((y * w : Nat) : Int) + (x : Int) = ((y * w + x : Nat) : Int) := by push_cast; rfl
      simp only [h1, h2, decide_false, cond_false, Option.bind_some, hx, hy, or_self, if_false]
      rw [e1, ck_in (by omega) (by omega), e2, ck_in (by omega) (by omega), idx_nat (mkL_get (by omega) (by omega))]
/-- The level behind one. -/
def nxt (w h : Nat) (v : Nat → Nat → Int) (x y : Nat) : Int := mn (mn (mn (atL w h v (2 * x) (2 * y)) (atL w h v (2 * x + 1) (2 * y))) (atL w h v (2 * x) (2 * y + 1))) (atL w h v (2 * x + 1) (2 * y + 1))
def half (w : Nat) : Nat := (w + 1) / 2
theorem m58_inner {K w h a : Nat} {v : Nat → Nat → Int} {row : List S_Level} {rec1 : List S_Level → Int → Int → List Int → Option S_Pyramid} (hw : w ≤ 64) (hh : h ≤ 64) (ha : 0 < a) (ha2 : a ≤ 64) {b : Nat} (hb2 : b ≤ 64) (hrow : row.length ≤ 100) :
    ∀ (k i : Nat), i ≤ a * b → a * b < i + k → m58_l2 K row w h (mkL w h v).Low rec1 a b (a * b : Nat) k ((List.range i).map fun j => nxt w h v (j % a) (j / a)) i = rec1 (row ++ [mkL a b (nxt w h v)]) a b (mkL a b (nxt w h v)).Low := by
  have hab : a * b ≤ 64 * 64 := Nat.mul_le_mul ha2 hb2
  intro k
  induction k with
  | zero => intro i h1 h2; omega
  | succ k ih =>
    intro i h1 h2
    show m58_l2b K row w h (mkL w h v).Low rec1 a b (a * b : Nat) (m58_l2 K row w h (mkL w h v).Low rec1 a b (a * b : Nat) k) _ i = _
    unfold m58_l2b
    by_cases hi : i < a * b
    · have h3 : (i : Int) < ((a * b : Nat) : Int) := by omega
      have hm : i % a < a := Nat.mod_lt _ ha
      have hd : i / a < b := Nat.div_lt_of_lt_mul hi
      have ne : (a : Int) ≠ 0 := by omega
      have e1 : Int.tmod (i : Int) (a : Int) = ((i % a : Nat) : Int) := rfl
      have e2 : Int.tdiv (i : Int) (a : Int) = ((i / a : Nat) : Int) := rfl
      have e3 : (2 : Int) * ((i % a : Nat) : Int) = ((2 * (i % a) : Nat) : Int) := by push_cast; rfl
      have e4 : (2 : Int) * ((i / a : Nat) : Int) = ((2 * (i / a) : Nat) : Int) := by push_cast; rfl
      have e5 : ((2 * (i % a) : Nat) : Int) + 1 = ((2 * (i % a) + 1 : Nat) : Int) := by push_cast; rfl
      have e6 : ((2 * (i / a) : Nat) : Int) + 1 = ((2 * (i / a) + 1 : Nat) : Int) := by push_cast; rfl
      have e7 : (i : Int) + 1 = ((i + 1 : Nat) : Int) := by push_cast; rfl
      have e8 : (⟨(w : Int), (h : Int), (mkL w h v).Low⟩ : S_Level) = mkL w h v := rfl
      have hl : (((List.range i).map fun j => nxt w h v (j % a) (j / a)).length + 1) * 8 ≤ 140737488355328 := by simp; omega
      simp only [h3, decide_true, cond_true, nz_in ne, e1, e2, e3, e4]
      rw [ck_in (by omega) (by omega), ck_in (by omega) (by omega), e4, ck_in (by omega) (by omega)]
      simp only [e5, e6]
      rw [ck_in (by omega) (by omega), ck_in (by omega) (by omega), ck_in (by omega) (by omega), ck_in (by omega) (by omega)]
      simp only [e8, m109_eq hw hh, Option.bind_some]
      rw [apd_in hl, e7, ck_in (by omega) (by omega)]
      have := ih (i + 1) (by omega) (by omega)
      rw [← this, List.range_succ, List.map_append]
      rfl
    · have h3 : ¬ (i : Int) < ((a * b : Nat) : Int) := by omega
      obtain rfl : i = a * b := by omega
      simp only [h3, decide_false, cond_false]
      rw [apd_in (by omega)]
      rfl
/-! ### all levels -/
def lvls : Nat → Nat → Nat → (Nat → Nat → Int) → List S_Level
  | 0, _, _, _ => []
  | n + 1, w, h, v => if w * h ≤ 1 then [] else mkL (half w) (half h) (nxt w h v) :: lvls n (half w) (half h) (nxt w h v)
theorem half_le {w n : Nat} (h : w ≤ 2 ^ (n + 1)) : half w ≤ 2 ^ n := by rw [Nat.pow_succ] at h; unfold half; omega
theorem half_pos {w : Nat} (h : 1 ≤ w) : 1 ≤ half w := by unfold half; omega
theorem half_le64 {w : Nat} (h : w ≤ 64) : half w ≤ 64 := by unfold half; omega
theorem tdiv_half (w : Nat) : Int.tdiv ((w + 1 : Nat) : Int) 2 = ((half w : Nat) : Int) := rfl
theorem m58_start {K w h a : Nat} {v : Nat → Nat → Int} {row : List S_Level} {rec1 : List S_Level → Int → Int → List Int → Option S_Pyramid} (hK : 5000 ≤ K) (hw : w ≤ 64) (hh : h ≤ 64) (ha : 0 < a) (ha2 : a ≤ 64) {b : Nat} (hb2 : b ≤ 64) (hrow : row.length ≤ 100) :
    m58_l2 K row w h (mkL w h v).Low rec1 a b (a * b : Nat) K [] 0 = rec1 (row ++ [mkL a b (nxt w h v)]) a b (mkL a b (nxt w h v)).Low := by
  have hab : a * b ≤ 64 * 64 := Nat.mul_le_mul ha2 hb2
  exact m58_inner (K := K) (w := w) (h := h) (v := v) (row := row) (rec1 := rec1) hw hh ha ha2 hb2 hrow K 0 (Nat.zero_le _) (by omega)
theorem m58_outer {K : Nat} (hK : 5000 ≤ K) : ∀ (n w h : Nat) (v : Nat → Nat → Int) (row : List S_Level) (k : Nat), w ≤ 2 ^ n → h ≤ 2 ^ n → w ≤ 64 → h ≤ 64 → 1 ≤ w → 1 ≤ h → n < k → row.length + n ≤ 100 →
    m58_l1 K k row w h (mkL w h v).Low = some ⟨row ++ lvls n w h v⟩ := by
  have hs := fun (w h a : Nat) (v : Nat → Nat → Int) (row : List S_Level) (rec1 : List S_Level → Int → Int → List Int → Option S_Pyramid) => @m58_start K w h a v row rec1 hK
  clear hK
  intro n w h v row k
  induction k generalizing n w h v row with
  | zero => intro _ _ _ _ _ _ hk _; exact absurd hk (Nat.not_lt_zero _)
  | succ k ihk =>
    intro hw hh hw64 hh64 hw1 hh1 hk hrow
    show m58_l1b K (m58_l1 K k) row w h (mkL w h v).Low = _
    unfold m58_l1b
    have hwh : w * h ≤ 64 * 64 := Nat.mul_le_mul hw64 hh64
    have e1 : (w : Int) * (h : Int) = ((w * h : Nat) : Int) := by push_cast; rfl
    rw [e1, ck_in (by omega) (by omega)]
    by_cases h1 : w * h ≤ 1
    · have h2 : ¬ (1 : Int) < ((w * h : Nat) : Int) := by omega
      simp only [h2, decide_false, cond_false]
      cases n with
      | zero => simp [lvls]
      | succ n => simp [lvls, h1]
    · have h2 : (1 : Int) < ((w * h : Nat) : Int) := by omega
      have e2 : (w : Int) + 1 = ((w + 1 : Nat) : Int) := by push_cast; rfl
      have e3 : (h : Int) + 1 = ((h + 1 : Nat) : Int) := by push_cast; rfl
      have hp : half w * half h ≤ 64 * 64 := Nat.mul_le_mul (half_le64 hw64) (half_le64 hh64)
      have hw2 := half_le64 hw64
      have hh2 := half_le64 hh64
      have e4 : ((half w : Nat) : Int) * ((half h : Nat) : Int) = ((half w * half h : Nat) : Int) := by push_cast; rfl
      rw [decide_eq_true h2, cond_true]
      rw [e2, ck_in (by omega) (by omega), tdiv_half, ck_in (by omega) (by omega), e3, ck_in (by omega) (by omega), tdiv_half, ck_in (by omega) (by omega), e4, ck_in (by omega) (by omega)]
      have hin' := hs w h (half w) v row (m58_l1 K k) hw64 hh64 (half_pos hw1) hw2 hh2 (by omega)
      rw [hin']
      cases n with
      | zero =>
        have : w = 1 := by simp at hw; omega
        have : h = 1 := by simp at hh; omega
        subst_vars; simp at h1
      | succ n =>
        have ih := ihk n (half w) (half h) (nxt w h v) (row ++ [mkL (half w) (half h) (nxt w h v)]) (half_le hw) (half_le hh) hw2 hh2 (half_pos hw1) (half_pos hh1) (by omega) (by simp; omega)
        rw [ih]
        simp [lvls, h1]
/-- build: the first level and those behind it. -/
def pyr (w h : Nat) (v : Nat → Nat → Int) : List S_Level := mkL w h v :: lvls 6 w h v
theorem m58_eq {K w h : Nat} {v : Nat → Nat → Int} (hK : 5000 ≤ K) (hw : w ≤ 64) (hh : h ≤ 64) (hw1 : 1 ≤ w) (hh1 : 1 ≤ h) : m58 K (mkL w h v) = some ⟨pyr w h v⟩ := by
  unfold m58
  rw [apd_in (by simp)]
  exact m58_outer hK 6 w h v [mkL w h v] K (by simpa using hw) (by simpa using hh) hw hh hw1 hh1 (by omega) (by simp)
/-! ### the levels by number -/
def wi (w : Nat) : Nat → Nat
  | 0 => w
  | i + 1 => half (wi w i)
def vi (w h : Nat) (v : Nat → Nat → Int) : Nat → Nat → Nat → Int
  | 0 => v
  | i + 1 => nxt (wi w i) (wi h i) (vi w h v i)
theorem wi_half (w : Nat) : ∀ i, wi (half w) i = wi w (i + 1)
  | 0 => rfl
  | i + 1 => by show half (wi (half w) i) = half (wi w (i + 1)); rw [wi_half w i]
theorem vi_half (w h : Nat) (v : Nat → Nat → Int) : ∀ i, vi (half w) (half h) (nxt w h v) i = vi w h v (i + 1)
  | 0 => rfl
  | i + 1 => by
    show nxt (wi (half w) i) (wi (half h) i) (vi (half w) (half h) (nxt w h v) i) = nxt (wi w (i + 1)) (wi h (i + 1)) (vi w h v (i + 1))
    rw [wi_half, wi_half, vi_half w h v i]
theorem lvls_get : ∀ (n w h : Nat) (v : Nat → Nat → Int) (i : Nat), i < (lvls n w h v).length → (lvls n w h v)[i]? = some (mkL (wi w (i + 1)) (wi h (i + 1)) (vi w h v (i + 1)))
  | 0, w, h, v, i, hi => by simp [lvls] at hi
  | n + 1, w, h, v, i, hi => by
    by_cases h1 : w * h ≤ 1
    · simp [lvls, h1] at hi
    · simp only [lvls, h1, if_false, List.length_cons] at hi ⊢
      cases i with
      | zero => rfl
      | succ i =>
        rw [List.getElem?_cons_succ, lvls_get n (half w) (half h) (nxt w h v) i (by omega), wi_half, wi_half, vi_half]
theorem lvls_last : ∀ (n w h : Nat) (v : Nat → Nat → Int), w ≤ 2 ^ n → h ≤ 2 ^ n → 1 ≤ w → 1 ≤ h → ∀ i, i ≤ (lvls n w h v).length → (wi w i = 1 ∧ wi h i = 1 ↔ i = (lvls n w h v).length)
  | 0, w, h, v, hw, hh, hw1, hh1, i, hi => by
    simp [lvls] at hi ⊢; subst hi; simp at hw hh; simp [wi]; omega
  | n + 1, w, h, v, hw, hh, hw1, hh1, i, hi => by
    by_cases h1 : w * h ≤ 1
    · simp only [lvls, h1, if_true, List.length_nil] at hi ⊢
      obtain rfl : i = 0 := by omega
      have : w = 1 := by
        have := Nat.mul_le_mul_left w hh1
        omega
      have : h = 1 := by
        have := Nat.mul_le_mul_right h hw1
        omega
      subst_vars; simp [wi]
    · simp only [lvls, h1, if_false, List.length_cons] at hi ⊢
      cases i with
      | zero =>
        simp only [wi]
        constructor
        · rintro ⟨rfl, rfl⟩; simp at h1
        · intro h; omega
      | succ i =>
        have := lvls_last n (half w) (half h) (nxt w h v) (half_le hw) (half_le hh) (half_pos hw1) (half_pos hh1) i (by omega)
        rw [wi_half, wi_half] at this
        rw [this]; omega
theorem lvls_len : ∀ (n w h : Nat) (v : Nat → Nat → Int), (lvls n w h v).length ≤ n
  | 0, _, _, _ => by simp [lvls]
  | n + 1, w, h, v => by
    by_cases h1 : w * h ≤ 1
    · simp [lvls, h1]
    · have := lvls_len n (half w) (half h) (nxt w h v)
      simp [lvls, h1]; omega
theorem pyr_get {w h : Nat} {v : Nat → Nat → Int} {i : Nat} (hi : i ≤ (lvls 6 w h v).length) : (pyr w h v)[i]? = some (mkL (wi w i) (wi h i) (vi w h v i)) := by
  cases i with
  | zero => rfl
  | succ i => rw [pyr, List.getElem?_cons_succ, lvls_get _ _ _ _ _ (by omega)]
theorem wi_pos {w : Nat} (h : 1 ≤ w) : ∀ i, 1 ≤ wi w i
  | 0 => h
  | i + 1 => half_pos (wi_pos h i)
theorem wi_le {w : Nat} (h : w ≤ 64) : ∀ i, wi w i ≤ 64
  | 0 => h
  | i + 1 => half_le64 (wi_le h i)
theorem div_succ (p i : Nat) : p / 2 ^ (i + 1) = p / 2 ^ i / 2 := by rw [Nat.pow_succ, Nat.div_div_eq_div_mul]
theorem lt_wi {w p : Nat} (hp : p < w) : ∀ i, p / 2 ^ i < wi w i
  | 0 => by simpa [wi] using hp
  | i + 1 => by
    have := lt_wi hp i
    rw [div_succ]; show _ < half _; unfold half; omega
/-- Each level's number is the least below it. -/
theorem vi_least {w h : Nat} {v : Nat → Nat → Int} (hv : ∀ x y, x < w → y < h → v x y ≤ 66560) : ∀ (i x y : Nat), x < wi w i → y < wi h i →
    (∃ px py, px < w ∧ py < h ∧ px / 2 ^ i = x ∧ py / 2 ^ i = y ∧ vi w h v i x y = v px py) ∧ ∀ px py, px < w → py < h → px / 2 ^ i = x → py / 2 ^ i = y → vi w h v i x y ≤ v px py
  | 0, x, y, hx, hy => by
    refine ⟨⟨x, y, hx, hy, by simp, by simp, rfl⟩, fun px py _ _ h1 h2 => ?_⟩
    simp at h1 h2; subst h1; subst h2; exact Int.le_refl _
  | i + 1, x, y, hx, hy => by
    have hx' : 2 * x < wi w i := by have : x < half (wi w i) := hx; unfold half at this; omega
    have hy' : 2 * y < wi h i := by have : y < half (wi h i) := hy; unfold half at this; omega
    have ih := vi_least hv i
    have hle : ∀ a b, a < wi w i → b < wi h i → vi w h v i a b ≤ 66560 := fun a b ha hb => by
      obtain ⟨px, py, h1, h2, _, _, e⟩ := (ih a b ha hb).1
      rw [e]; exact hv px py h1 h2
    have hat : ∀ a b, atL (wi w i) (wi h i) (vi w h v i) a b = if a < wi w i ∧ b < wi h i then vi w h v i a b else 66560 := fun a b => by
      unfold atL
      by_cases h : a < wi w i ∧ b < wi h i
      · rw [if_pos h, if_neg (by omega)]
      · rw [if_neg h, if_pos (by omega)]
    -- the four below it
    have hm : vi w h v (i + 1) x y = min (min (min (atL (wi w i) (wi h i) (vi w h v i) (2 * x) (2 * y)) (atL (wi w i) (wi h i) (vi w h v i) (2 * x + 1) (2 * y))) (atL (wi w i) (wi h i) (vi w h v i) (2 * x) (2 * y + 1))) (atL (wi w i) (wi h i) (vi w h v i) (2 * x + 1) (2 * y + 1)) := by
      show nxt _ _ _ x y = _
      unfold nxt; rw [mn_eq, mn_eq, mn_eq]
    have h00 : atL (wi w i) (wi h i) (vi w h v i) (2 * x) (2 * y) = vi w h v i (2 * x) (2 * y) := by rw [hat, if_pos ⟨hx', hy'⟩]
    have hb := hle _ _ hx' hy'
    have key : ∃ a b, a < wi w i ∧ b < wi h i ∧ a / 2 = x ∧ b / 2 = y ∧ vi w h v (i + 1) x y = vi w h v i a b := by
      have hd : ∀ (a b : Nat), a / 2 = x → b / 2 = y → vi w h v (i + 1) x y = atL (wi w i) (wi h i) (vi w h v i) a b → ∃ a b, a < wi w i ∧ b < wi h i ∧ a / 2 = x ∧ b / 2 = y ∧ vi w h v (i + 1) x y = vi w h v i a b := by
        intro a b ha hb' e
        rw [hat] at e
        split at e
        · rename_i hin; exact ⟨a, b, hin.1, hin.2, ha, hb', e⟩
        · refine ⟨2 * x, 2 * y, hx', hy', by omega, by omega, ?_⟩
          have : vi w h v (i + 1) x y ≤ vi w h v i (2 * x) (2 * y) := by rw [hm, h00]; omega
          omega
      have h4 : vi w h v (i + 1) x y = atL (wi w i) (wi h i) (vi w h v i) (2 * x) (2 * y) ∨ vi w h v (i + 1) x y = atL (wi w i) (wi h i) (vi w h v i) (2 * x + 1) (2 * y) ∨ vi w h v (i + 1) x y = atL (wi w i) (wi h i) (vi w h v i) (2 * x) (2 * y + 1) ∨ vi w h v (i + 1) x y = atL (wi w i) (wi h i) (vi w h v i) (2 * x + 1) (2 * y + 1) := by rw [hm]; omega
      rcases h4 with h | h | h | h
      · exact hd _ _ (by omega) (by omega) h
      · exact hd _ _ (by omega) (by omega) h
      · exact hd _ _ (by omega) (by omega) h
      · exact hd _ _ (by omega) (by omega) h
    refine ⟨?_, fun px py hpx hpy h1 h2 => ?_⟩
    · obtain ⟨a, b, ha, hb, hax, hby, e⟩ := key
      obtain ⟨px, py, h1, h2, h3, h4, e2⟩ := (ih a b ha hb).1
      exact ⟨px, py, h1, h2, by rw [div_succ, h3, hax], by rw [div_succ, h4, hby], by rw [e, e2]⟩
    · rw [div_succ] at h1 h2
      have hpx' := lt_wi hpx i
      have hpy' := lt_wi hpy i
      have h3 := (ih _ _ hpx' hpy').2 px py hpx hpy rfl rfl
      have hatp : atL (wi w i) (wi h i) (vi w h v i) (px / 2 ^ i) (py / 2 ^ i) = vi w h v i (px / 2 ^ i) (py / 2 ^ i) := by rw [hat, if_pos ⟨hpx', hpy'⟩]
      have hc1 : px / 2 ^ i = 2 * x ∨ px / 2 ^ i = 2 * x + 1 := by omega
      have hc2 : py / 2 ^ i = 2 * y ∨ py / 2 ^ i = 2 * y + 1 := by omega
      refine Int.le_trans ?_ h3
      rw [← hatp, hm]
      rcases hc1 with c1 | c1 <;> rcases hc2 with c2 | c2 <;> rw [c1, c2] <;> omega
end M
end Go.Proofs.YtobkigllalbkiaaV

/- Pyramids, in plain Lean: the least within a rectangle. -/
set_option linter.unusedVariables false
set_option linter.unusedSimpArgs false
namespace Go.Proofs.YtobkigllalbkiaaV.M
/-- The least of a bound and of what some pixels have. -/
structure MinB (w h : Nat) (v : Nat → Nat → Int) (bound m : Int) (S : Nat → Nat → Prop) : Prop where
  le : m ≤ bound
  all : ∀ px py, px < w → py < h → S px py → m ≤ v px py
  at_ : m = bound ∨ ∃ px py, px < w ∧ py < h ∧ S px py ∧ m = v px py
def inR (r : S_Rect) (px py : Nat) : Prop := r.X0 ≤ px ∧ (px : Int) ≤ r.X1 ∧ r.Y0 ≤ py ∧ (py : Int) ≤ r.Y1
def below (r : S_Rect) (lev x y : Nat) (px py : Nat) : Prop := inR r px py ∧ px / 2 ^ lev = x ∧ py / 2 ^ lev = y
theorem shl_eq {lev : Nat} (h : lev ≤ 6) : shlV .i64 1 (lev : Int) = ((2 ^ lev : Nat) : Int) := by
  have : lev = 0 ∨ lev = 1 ∨ lev = 2 ∨ lev = 3 ∨ lev = 4 ∨ lev = 5 ∨ lev = 6 := by omega
  rcases this with rfl | rfl | rfl | rfl | rfl | rfl | rfl <;> decide
theorem pow_le {lev : Nat} (h : lev ≤ 6) : 1 ≤ 2 ^ lev ∧ 2 ^ lev ≤ 64 := by
  have : lev = 0 ∨ lev = 1 ∨ lev = 2 ∨ lev = 3 ∨ lev = 4 ∨ lev = 5 ∨ lev = 6 := by omega
  rcases this with rfl | rfl | rfl | rfl | rfl | rfl | rfl <;> decide
/-- One step of 'low', its words read. -/
theorem m62_step {K : Nat} {self : S_Pyramid → Int → Int → Int → S_Rect → Int → Option Int} {p : S_Pyramid} {r : S_Rect} {a b lev x y s : Nat} {u : Nat → Nat → Int} {bound : Int}
    (hl : p.Levels[lev]? = some (mkL a b u)) (ha : a ≤ 64) (hb : b ≤ 64) (hs : shlV .i64 1 (lev : Int) = (s : Int)) (hs64 : s ≤ 64) (hx : x ≤ 200) (hy : y ≤ 200) (hlev : lev ≤ 6) :
    m62b K self p lev x y r bound =
      if a ≤ x ∨ b ≤ y ∨ r.X1 < (x * s : Nat) ∨ (((x + 1) * s : Nat) : Int) ≤ r.X0 ∨ r.Y1 < (y * s : Nat) ∨ (((y + 1) * s : Nat) : Int) ≤ r.Y0 ∨ bound ≤ atL a b u x y then some bound
      else if r.X0 ≤ (x * s : Nat) ∧ (((x + 1) * s : Nat) : Int) - 1 ≤ r.X1 ∧ r.Y0 ≤ (y * s : Nat) ∧ (((y + 1) * s : Nat) : Int) - 1 ≤ r.Y1 then some (atL a b u x y)
      else (self p ((lev : Int) - 1) (2 * x : Nat) (2 * y : Nat) r bound).bind fun b1 => (self p ((lev : Int) - 1) (2 * x + 1 : Nat) (2 * y : Nat) r b1).bind fun b2 =>
        (self p ((lev : Int) - 1) (2 * x : Nat) (2 * y + 1 : Nat) r b2).bind fun b3 => self p ((lev : Int) - 1) (2 * x + 1 : Nat) (2 * y + 1 : Nat) r b3 := by
  have hxs : x * s ≤ 200 * 64 := Nat.mul_le_mul hx hs64
  have hys : y * s ≤ 200 * 64 := Nat.mul_le_mul hy hs64
  have hxs1 : (x + 1) * s ≤ 201 * 64 := Nat.mul_le_mul (by omega) hs64
  have hys1 : (y + 1) * s ≤ 201 * 64 := Nat.mul_le_mul (by omega) hs64
  have e1 : (x : Int) * (s : Int) = ((x * s : Nat) : Int) := by push_cast; rfl
  have e2 : (y : Int) * (s : Int) = ((y * s : Nat) : Int) := by push_cast; rfl
  have e3 : (x : Int) + 1 = ((x + 1 : Nat) : Int) := by push_cast; rfl
  have e4 : (y : Int) + 1 = ((y + 1 : Nat) : Int) := by push_cast; rfl
  have e5 : ((x + 1 : Nat) : Int) * (s : Int) = (((x + 1) * s : Nat) : Int) := by push_cast; rfl
  have e6 : ((y + 1 : Nat) : Int) * (s : Int) = (((y + 1) * s : Nat) : Int) := by push_cast; rfl
  have c1 : ∀ {α : Type} (k : Int → Option α), ck ((x * s : Nat) : Int) k = k ((x * s : Nat) : Int) := fun k => ck_in (by omega) (by omega)
  have c2 : ∀ {α : Type} (k : Int → Option α), ck ((y * s : Nat) : Int) k = k ((y * s : Nat) : Int) := fun k => ck_in (by omega) (by omega)
  have c3 : ∀ {α : Type} (k : Int → Option α), ck ((x + 1 : Nat) : Int) k = k ((x + 1 : Nat) : Int) := fun k => ck_in (by omega) (by omega)
  have c4 : ∀ {α : Type} (k : Int → Option α), ck ((y + 1 : Nat) : Int) k = k ((y + 1 : Nat) : Int) := fun k => ck_in (by omega) (by omega)
  have c5 : ∀ {α : Type} (k : Int → Option α), ck (((x + 1) * s : Nat) : Int) k = k (((x + 1) * s : Nat) : Int) := fun k => ck_in (by omega) (by omega)
  have c6 : ∀ {α : Type} (k : Int → Option α), ck (((y + 1) * s : Nat) : Int) k = k (((y + 1) * s : Nat) : Int) := fun k => ck_in (by omega) (by omega)
  have c7 : ∀ {α : Type} (k : Int → Option α), ck ((((x + 1) * s : Nat) : Int) - 1) k = k ((((x + 1) * s : Nat) : Int) - 1) := fun k => ck_in (by omega) (by omega)
  have c8 : ∀ {α : Type} (k : Int → Option α), ck ((((y + 1) * s : Nat) : Int) - 1) k = k ((((y + 1) * s : Nat) : Int) - 1) := fun k => ck_in (by omega) (by omega)
  have c9 : ∀ {α : Type} (k : Int → Option α), ck ((lev : Int) - 1) k = k ((lev : Int) - 1) := fun k => ck_in (by omega) (by omega)
  have f1 : (2 : Int) * (x : Int) = ((2 * x : Nat) : Int) := by push_cast; rfl
  have f2 : (2 : Int) * (y : Int) = ((2 * y : Nat) : Int) := by push_cast; rfl
  have d1 : ∀ {α : Type} (k : Int → Option α), ck ((2 * x : Nat) : Int) k = k ((2 * x : Nat) : Int) := fun k => ck_in (by omega) (by omega)
  have d2 : ∀ {α : Type} (k : Int → Option α), ck ((2 * y : Nat) : Int) k = k ((2 * y : Nat) : Int) := fun k => ck_in (by omega) (by omega)
  have d3 : ∀ {α : Type} (k : Int → Option α), ck (((2 * x : Nat) : Int) + 1) k = k ((2 * x + 1 : Nat) : Int) := fun k => ck_in (by omega) (by omega)
  have d4 : ∀ {α : Type} (k : Int → Option α), ck (((2 * y : Nat) : Int) + 1) k = k ((2 * y + 1 : Nat) : Int) := fun k => ck_in (by omega) (by omega)
  have d5 : ∀ {α : Type} (k : Int → Option α), ck (((2 * x : Nat) : Int) + 0) k = k ((2 * x : Nat) : Int) := fun k => ck_in (by omega) (by omega)
  have d6 : ∀ {α : Type} (k : Int → Option α), ck (((2 * y : Nat) : Int) + 0) k = k ((2 * y : Nat) : Int) := fun k => ck_in (by omega) (by omega)
  have z0 : ∀ {α : Type} (k : Int → Option α), ck 0 k = k 0 := fun k => ck_in (by omega) (by omega)
  have z1 : ∀ {α : Type} (k : Int → Option α), ck 1 k = k 1 := fun k => ck_in (by omega) (by omega)
  have t0 : Int.tmod 0 2 = 0 := rfl
  have t1 : Int.tmod 1 2 = 1 := rfl
  have t2 : Int.tmod 2 2 = 0 := rfl
  have t3 : Int.tmod 3 2 = 1 := rfl
  have u0 : Int.tdiv 0 2 = 0 := rfl
  have u1 : Int.tdiv 1 2 = 0 := rfl
  have u2 : Int.tdiv 2 2 = 1 := rfl
  have u3 : Int.tdiv 3 2 = 1 := rfl
  have hW : (mkL a b u).W = (a : Int) := rfl
  have hH : (mkL a b u).H = (b : Int) := rfl
  unfold m62b
  rw [idx_nat hl, ge0_in (by omega), hs]
  simp only [hW, hH, e1, e2, e3, e4, e5, e6, c1, c2, c3, c4, c5, c6, c7, c8, c9, f1, f2, d1, d2, d3, d4, d5, d6, z0, z1, t0, t1, t2, t3, u0, u1, u2, u3, m109_eq ha hb, Option.bind_some]
  by_cases h1 : a ≤ x
  · simp [h1]
  by_cases h2 : b ≤ y
  · simp [h1, h2]
  have g1 : ¬ (a : Int) ≤ (x : Int) := by omega
  have g2 : ¬ (b : Int) ≤ (y : Int) := by omega
  by_cases h3 : r.X1 < ((x * s : Nat) : Int)
  · rw [if_pos (.inr (.inr (.inl h3)))]
    simp only [g1, g2, h3, decide_true, decide_false, cond_true, cond_false, Option.bind_some]
  by_cases h4 : (((x + 1) * s : Nat) : Int) ≤ r.X0
  · rw [if_pos (.inr (.inr (.inr (.inl h4))))]
    simp only [g1, g2, h3, h4, decide_true, decide_false, cond_true, cond_false, Option.bind_some]
  by_cases h5 : r.Y1 < ((y * s : Nat) : Int)
  · rw [if_pos (.inr (.inr (.inr (.inr (.inl h5)))))]
    simp only [g1, g2, h3, h4, h5, decide_true, decide_false, cond_true, cond_false, Option.bind_some]
  by_cases h6 : (((y + 1) * s : Nat) : Int) ≤ r.Y0
  · rw [if_pos (.inr (.inr (.inr (.inr (.inr (.inl h6))))))]
    simp only [g1, g2, h3, h4, h5, h6, decide_true, decide_false, cond_true, cond_false, Option.bind_some]
  by_cases h7 : bound ≤ atL a b u x y
  · rw [if_pos (.inr (.inr (.inr (.inr (.inr (.inr h7))))))]
    simp only [g1, g2, h3, h4, h5, h6, h7, decide_true, decide_false, cond_true, cond_false, Option.bind_some]
  have hn : ¬ (a ≤ x ∨ b ≤ y ∨ r.X1 < (x * s : Nat) ∨ (((x + 1) * s : Nat) : Int) ≤ r.X0 ∨ r.Y1 < (y * s : Nat) ∨ (((y + 1) * s : Nat) : Int) ≤ r.Y0 ∨ bound ≤ atL a b u x y) := by
    rintro (h | h | h | h | h | h | h) <;> contradiction
  rw [if_neg hn]
  simp only [g1, g2, h3, h4, h5, h6, h7, decide_false, cond_false, Option.bind_some]
  by_cases i1 : r.X0 ≤ ((x * s : Nat) : Int)
  · by_cases i2 : (((x + 1) * s : Nat) : Int) - 1 ≤ r.X1
    · by_cases i3 : r.Y0 ≤ ((y * s : Nat) : Int)
      · by_cases i4 : (((y + 1) * s : Nat) : Int) - 1 ≤ r.Y1
        · rw [if_pos ⟨i1, i2, i3, i4⟩]
          simp only [i1, i2, i3, i4, decide_true, cond_true, Option.bind_some]
        · rw [if_neg (fun h => i4 h.2.2.2)]
          simp only [i1, i2, i3, i4, decide_true, decide_false, cond_true, cond_false, Option.bind_some, Option.bind_fun_some]
      · rw [if_neg (fun h => i3 h.2.2.1)]
        simp only [i1, i2, i3, decide_true, decide_false, cond_true, cond_false, Option.bind_some, Option.bind_fun_some]
    · rw [if_neg (fun h => i2 h.2.1)]
      simp only [i1, i2, decide_true, decide_false, cond_true, cond_false, Option.bind_some, Option.bind_fun_some]
  · rw [if_neg (fun h => i1 h.1)]
    simp only [i1, decide_true, decide_false, cond_true, cond_false, Option.bind_some, Option.bind_fun_some]
theorem MinB.none_ {w h : Nat} {v : Nat → Nat → Int} {bound : Int} {S : Nat → Nat → Prop} (hS : ∀ px py, px < w → py < h → S px py → bound ≤ v px py) : MinB w h v bound bound S := ⟨Int.le_refl _, hS, .inl rfl⟩
theorem MinB.or {w h : Nat} {v : Nat → Nat → Int} {bound m1 m2 : Int} {S1 S2 : Nat → Nat → Prop} (h1 : MinB w h v bound m1 S1) (h2 : MinB w h v m1 m2 S2) : MinB w h v bound m2 (fun px py => S1 px py ∨ S2 px py) := by
  refine ⟨Int.le_trans h2.le h1.le, fun px py hx hy hs => ?_, ?_⟩
  · rcases hs with hs | hs
    · exact Int.le_trans h2.le (h1.all px py hx hy hs)
    · exact h2.all px py hx hy hs
  · rcases h2.at_ with e | ⟨px, py, hx, hy, hs, e⟩
    · rcases h1.at_ with e1 | ⟨px, py, hx, hy, hs, e1⟩
      · exact .inl (e.trans e1)
      · exact .inr ⟨px, py, hx, hy, .inl hs, e.trans e1⟩
    · exact .inr ⟨px, py, hx, hy, .inr hs, e⟩
theorem MinB.iff {w h : Nat} {v : Nat → Nat → Int} {bound m : Int} {S1 S2 : Nat → Nat → Prop} (h1 : MinB w h v bound m S1) (hs : ∀ px py, S1 px py ↔ S2 px py) : MinB w h v bound m S2 :=
  ⟨h1.le, fun px py hx hy h => h1.all px py hx hy ((hs px py).2 h), h1.at_.imp id fun ⟨px, py, hx, hy, h, e⟩ => ⟨px, py, hx, hy, (hs px py).1 h, e⟩⟩
theorem MinB.same {w h : Nat} {v : Nat → Nat → Int} {bound m m' : Int} {S : Nat → Nat → Prop} (h1 : MinB w h v bound m S) (h2 : MinB w h v bound m' S) : m = m' := by
  have a : m ≤ m' := by
    rcases h2.at_ with e | ⟨px, py, hx, hy, hs, e⟩
    · rw [e]; exact h1.le
    · rw [e]; exact h1.all px py hx hy hs
  have b : m' ≤ m := by
    rcases h1.at_ with e | ⟨px, py, hx, hy, hs, e⟩
    · rw [e]; exact h2.le
    · rw [e]; exact h2.all px py hx hy hs
  omega
theorem div_bounds {p s x : Nat} (hs : 1 ≤ s) (h : p / s = x) : x * s ≤ p ∧ p < (x + 1) * s := by
  subst h
  refine ⟨Nat.div_mul_le_self _ _, ?_⟩
  have := Nat.lt_div_mul_add (a := p) hs
  rw [Nat.add_mul, Nat.one_mul]; exact this
theorem below_split {r : S_Rect} {l x y px py : Nat} : (((below r l (2 * x) (2 * y) px py ∨ below r l (2 * x + 1) (2 * y) px py) ∨ below r l (2 * x) (2 * y + 1) px py) ∨ below r l (2 * x + 1) (2 * y + 1) px py) ↔ below r (l + 1) x y px py := by
  unfold below
  rw [div_succ, div_succ]
  generalize px / 2 ^ l = a
  generalize py / 2 ^ l = b
  constructor
  · rintro (((⟨h, h1, h2⟩ | ⟨h, h1, h2⟩) | ⟨h, h1, h2⟩) | ⟨h, h1, h2⟩) <;> exact ⟨h, by omega, by omega⟩
  · rintro ⟨h, h1, h2⟩
    have c1 : a = 2 * x ∨ a = 2 * x + 1 := by omega
    have c2 : b = 2 * y ∨ b = 2 * y + 1 := by omega
    rcases c1 with c1 | c1 <;> rcases c2 with c2 | c2
    · exact .inl (.inl (.inl ⟨h, c1, c2⟩))
    · exact .inl (.inr ⟨h, c1, c2⟩)
    · exact .inl (.inl (.inr ⟨h, c1, c2⟩))
    · exact .inr ⟨h, c1, c2⟩
theorem low_eq {K w h top : Nat} {v : Nat → Nat → Int} {p : S_Pyramid} {r : S_Rect} (hw : w ≤ 64) (hh : h ≤ 64) (hv : ∀ x y, x < w → y < h → v x y ≤ 66560) (htop : top ≤ 6)
    (hp : ∀ i, i ≤ top → p.Levels[i]? = some (mkL (wi w i) (wi h i) (vi w h v i))) :
    ∀ (n lev : Nat), lev < n → lev ≤ top → ∀ (x y : Nat) (bound : Int), x ≤ 200 → y ≤ 200 → ∃ m, m62f K n p lev x y r bound = some m ∧ MinB w h v bound m (below r lev x y) := by
  intro n
  induction n with
  | zero => intro lev hl; exact absurd hl (Nat.not_lt_zero _)
  | succ n ih =>
    intro lev hl hlt x y bound hx hy
    have hlev : lev ≤ 6 := by omega
    obtain ⟨hs1, hs64⟩ := pow_le hlev
    have ha := wi_le hw lev
    have hb := wi_le hh lev
    have hstep := m62_step (K := K) (self := m62f K n) (r := r) (bound := bound) (hp lev hlt) ha hb (shl_eq hlev) hs64 hx hy hlev
    have hbase : m62f K (n + 1) p lev x y r bound = m62b K (m62f K n) p lev x y r bound := rfl
    rw [hbase, hstep]
    clear hbase hstep
    have hblk : ∀ px py, below r lev x y px py → (x * 2 ^ lev ≤ px ∧ px < (x + 1) * 2 ^ lev) ∧ (y * 2 ^ lev ≤ py ∧ py < (y + 1) * 2 ^ lev) := fun px py hbl => ⟨div_bounds hs1 hbl.2.1, div_bounds hs1 hbl.2.2⟩
    split
    · rename_i hout
      refine ⟨bound, rfl, MinB.none_ fun px py hpx hpy hbl => ?_⟩
      obtain ⟨⟨b1, b2⟩, b3, b4⟩ := hblk px py hbl
      obtain ⟨⟨r1, r2, r3, r4⟩, d1, d2⟩ := hbl
      have l1 := lt_wi hpx lev
      have l2 := lt_wi hpy lev
      rw [d1] at l1
      rw [d2] at l2
      rcases hout with q | q | q | q | q | q | q
      · omega
      · omega
      · omega
      · omega
      · omega
      · omega
      · have hle := (vi_least hv lev x y l1 l2).2 px py hpx hpy d1 d2
        have : atL (wi w lev) (wi h lev) (vi w h v lev) x y = vi w h v lev x y := by unfold atL; rw [if_neg (by omega)]
        rw [this] at q
        exact Int.le_trans q hle
    · rename_i hout
      have o1 : x < wi w lev := Nat.lt_of_not_le fun h => hout (.inl h)
      have o2 : y < wi h lev := Nat.lt_of_not_le fun h => hout (.inr (.inl h))
      have hat : atL (wi w lev) (wi h lev) (vi w h v lev) x y = vi w h v lev x y := by unfold atL; rw [if_neg (by omega)]
      have hlst := vi_least hv lev x y o1 o2
      split
      · rename_i hin
        refine ⟨_, rfl, ⟨?_, fun px py hpx hpy hbl => ?_, .inr ?_⟩⟩
        · have : ¬ bound ≤ atL (wi w lev) (wi h lev) (vi w h v lev) x y := fun q => hout (.inr (.inr (.inr (.inr (.inr (.inr q))))))
          omega
        · rw [hat]; exact hlst.2 px py hpx hpy hbl.2.1 hbl.2.2
        · obtain ⟨px, py, hpx, hpy, d1, d2, e⟩ := hlst.1
          obtain ⟨b1, b2⟩ := div_bounds hs1 d1
          obtain ⟨b3, b4⟩ := div_bounds hs1 d2
          refine ⟨px, py, hpx, hpy, ⟨⟨?_, ?_, ?_, ?_⟩, d1, d2⟩, by rw [hat, e]⟩
          · have := hin.1; omega
          · have := hin.2.1; omega
          · have := hin.2.2.1; omega
          · have := hin.2.2.2; omega
      · rename_i hin
        cases lev with
        | zero =>
          exfalso
          apply hin
          have q1 : ¬ r.X1 < ((x * 2 ^ 0 : Nat) : Int) := fun h => hout (.inr (.inr (.inl h)))
          have q2 : ¬ (((x + 1) * 2 ^ 0 : Nat) : Int) ≤ r.X0 := fun h => hout (.inr (.inr (.inr (.inl h))))
          have q3 : ¬ r.Y1 < ((y * 2 ^ 0 : Nat) : Int) := fun h => hout (.inr (.inr (.inr (.inr (.inl h)))))
          have q4 : ¬ (((y + 1) * 2 ^ 0 : Nat) : Int) ≤ r.Y0 := fun h => hout (.inr (.inr (.inr (.inr (.inr (.inl h))))))
          simp only [Nat.pow_zero, Nat.mul_one] at q1 q2 q3 q4 ⊢
          refine ⟨?_, ?_, ?_, ?_⟩ <;> omega
        | succ l =>
          have e1 : ((l + 1 : Nat) : Int) - 1 = ((l : Nat) : Int) := by omega
          rw [e1]
          obtain ⟨m1, k1, M1⟩ := ih l (by omega) (by omega) (2 * x) (2 * y) bound (by omega) (by omega)
          obtain ⟨m2, k2, M2⟩ := ih l (by omega) (by omega) (2 * x + 1) (2 * y) m1 (by omega) (by omega)
          obtain ⟨m3, k3, M3⟩ := ih l (by omega) (by omega) (2 * x) (2 * y + 1) m2 (by omega) (by omega)
          obtain ⟨m4, k4, M4⟩ := ih l (by omega) (by omega) (2 * x + 1) (2 * y + 1) m3 (by omega) (by omega)
          refine ⟨m4, ?_, (((M1.or M2).or M3).or M4).iff fun px py => below_split⟩
          rw [k1, Option.bind_some, k2, Option.bind_some, k3, Option.bind_some, k4]
end Go.Proofs.YtobkigllalbkiaaV.M

/- Pyramids, in plain Lean: lists compared, least and greatest, 'Check' and 'Low'. -/
set_option linter.unusedVariables false
set_option linter.unusedSimpArgs false
namespace Go.Proofs.YtobkigllalbkiaaV.M
theorem cast_succ (i : Nat) : (i : Int) + 1 = ((i + 1 : Nat) : Int) := by push_cast; rfl
/-- slices.Equal of ints. -/
theorem m78_loop {K : Nat} {a b : List Int} (hl : a.length = b.length) (hs : a.length ≤ 1000000) : ∀ (k i : Nat), i ≤ a.length → a.length < i + k → (∀ j, j < i → a[j]? = b[j]?) → ∃ r, m78_l1 K a b k i = some r ∧ (r = true ↔ a = b) := by
  intro k
  induction k with
  | zero => intro i h1 h2; omega
  | succ k ih =>
    intro i h1 h2 hpre
    show ∃ r, m78_l1b K a b (m78_l1 K a b k) i = some r ∧ _
    unfold m78_l1b
    by_cases hi : i < a.length
    · have h3 : (i : Int) < (a.length : Int) := by omega
      have ga : a[i]? = some a[i] := List.getElem?_eq_getElem hi
      have gb : b[i]? = some (b[i]'(by omega)) := List.getElem?_eq_getElem (by omega)
      rw [decide_eq_true h3, cond_true, idx_nat ga, idx_nat gb]
      by_cases he : a[i] = b[i]'(by omega)
      · rw [show (a[i] != b[i]'(by omega)) = false by simp [he], cond_false, cast_succ, ck_in (by omega) (by omega)]
        refine ih (i + 1) (by omega) (by omega) fun j hj => ?_
        by_cases hji : j = i
        · subst hji; rw [ga, gb, he]
        · exact hpre j (by omega)
      · rw [show (a[i] != b[i]'(by omega)) = true by simp [he], cond_true]
        refine ⟨false, rfl, ?_⟩
        constructor
        · intro h; cases h
        · intro h; exfalso; apply he; subst h; rfl
    · have h3 : ¬ (i : Int) < (a.length : Int) := by omega
      rw [decide_eq_false h3, cond_false]
      refine ⟨true, rfl, ?_⟩
      simp only [true_iff]
      apply List.ext_getElem?
      intro j
      by_cases hj : j < i
      · exact hpre j hj
      · rw [List.getElem?_eq_none (by omega), List.getElem?_eq_none (by omega)]
theorem m78_eq {K : Nat} {a b : List Int} (hs : a.length ≤ 1000000) (hK : a.length < K) : ∃ r, m78 K a b = some r ∧ (r = true ↔ a = b) := by
  unfold m78
  by_cases hl : a.length = b.length
  · have : ((a.length : Int) != (b.length : Int)) = false := by simp [hl]
    rw [this, cond_false]
    exact m78_loop hl hs K 0 (by omega) (by omega) (fun j hj => by omega)
  · have : ((a.length : Int) != (b.length : Int)) = true := by simp; omega
    rw [this, cond_true]
    exact ⟨false, rfl, by constructor <;> intro h; cases h; exact absurd (congrArg List.length h) hl⟩
theorem level_ext {x y : S_Level} (h1 : x.W = y.W) (h2 : x.H = y.H) (h3 : x.Low = y.Low) : x = y := by cases x; cases y; simp_all
theorem m66_eq {K : Nat} {x y : S_Level} (hs : x.Low.length ≤ 1000000) (hK : x.Low.length < K) : ∃ r, m66 K x y = some r ∧ (r = true ↔ x = y) := by
  unfold m66
  by_cases h1 : x.W = y.W
  · by_cases h2 : x.H = y.H
    · obtain ⟨r, e, hr⟩ := m78_eq (K := K) (a := x.Low) (b := y.Low) hs hK
      refine ⟨r, by simp [h1, h2, e], ?_⟩
      rw [hr]
      exact ⟨fun h => level_ext h1 h2 h, fun h => by rw [h]⟩
    · exact ⟨false, by rw [show (x.W == y.W) = true by simp [h1], show (x.H == y.H) = false by simp [h2]]; rfl, by constructor <;> intro h; cases h; exact absurd (by rw [h]) h2⟩
  · exact ⟨false, by rw [show (x.W == y.W) = false by simp [h1]]; rfl, by constructor <;> intro h; cases h; exact absurd (by rw [h]) h1⟩
theorem m65_loop {K : Nat} {a b : List S_Level} (hl : a.length = b.length) (hs : a.length ≤ 1000000) (hin : ∀ x ∈ a, x.Low.length ≤ 1000000 ∧ x.Low.length < K) : ∀ (k i : Nat), i ≤ a.length → a.length < i + k → (∀ j, j < i → a[j]? = b[j]?) → ∃ r, m65_l1 K a b k i = some r ∧ (r = true ↔ a = b) := by
  intro k
  induction k with
  | zero => intro i h1 h2; omega
  | succ k ih =>
    intro i h1 h2 hpre
    show ∃ r, m65_l1b K a b (m65_l1 K a b k) i = some r ∧ _
    unfold m65_l1b
    by_cases hi : i < a.length
    · have h3 : (i : Int) < (a.length : Int) := by omega
      have ga : a[i]? = some a[i] := List.getElem?_eq_getElem hi
      have gb : b[i]? = some (b[i]'(by omega)) := List.getElem?_eq_getElem (by omega)
      obtain ⟨q1, q2⟩ := hin a[i] (List.getElem_mem hi)
      obtain ⟨r, e, hr⟩ := m66_eq (K := K) (x := a[i]) (y := b[i]'(by omega)) q1 q2
      rw [decide_eq_true h3, cond_true, idx_nat ga, idx_nat gb, e, Option.bind_some]
      cases r with
      | true =>
        have he := hr.1 rfl
        rw [Bool.not_true, cond_false, cast_succ, ck_in (by omega) (by omega)]
        refine ih (i + 1) (by omega) (by omega) fun j hj => ?_
        by_cases hji : j = i
        · subst hji; rw [ga, gb, he]
        · exact hpre j (by omega)
      | false =>
        rw [Bool.not_false, cond_true]
        refine ⟨false, rfl, ?_⟩
        constructor
        · intro h; cases h
        · intro h; exfalso
          have : (false : Bool) = true := hr.2 (by subst h; rfl)
          cases this
    · have h3 : ¬ (i : Int) < (a.length : Int) := by omega
      rw [decide_eq_false h3, cond_false]
      refine ⟨true, rfl, ?_⟩
      simp only [true_iff]
      apply List.ext_getElem?
      intro j
      by_cases hj : j < i
      · exact hpre j hj
      · rw [List.getElem?_eq_none (by omega), List.getElem?_eq_none (by omega)]
theorem m65_eq {K : Nat} {a b : List S_Level} (hs : a.length ≤ 1000000) (hK : a.length < K) (hin : ∀ x ∈ a, x.Low.length ≤ 1000000 ∧ x.Low.length < K) : ∃ r, m65 K a b = some r ∧ (r = true ↔ a = b) := by
  unfold m65
  by_cases hl : a.length = b.length
  · have : ((a.length : Int) != (b.length : Int)) = false := by simp [hl]
    rw [this, cond_false]
    exact m65_loop hl hs hin K 0 (by omega) (by omega) (fun j hj => by omega)
  · have : ((a.length : Int) != (b.length : Int)) = true := by simp; omega
    rw [this, cond_true]
    exact ⟨false, rfl, by constructor <;> intro h; cases h; exact absurd (congrArg List.length h) hl⟩
/-- slices.Min: the least. -/
theorem m63_loop {K : Nat} {a : List Int} (hs : a.length ≤ 1000000) : ∀ (k i : Nat) (m : Int), i ≤ a.length → a.length < i + k → m ∈ a → (∀ j, j < i → ∀ x, a[j]? = some x → m ≤ x) → ∃ r, m63_l1 K a k m i = some r ∧ r ∈ a ∧ ∀ x ∈ a, r ≤ x := by
  intro k
  induction k with
  | zero => intro i m h1 h2; omega
  | succ k ih =>
    intro i m h1 h2 hm hpre
    show ∃ r, m63_l1b K a (m63_l1 K a k) m i = some r ∧ _
    unfold m63_l1b
    by_cases hi : i < a.length
    · have h3 : (i : Int) < (a.length : Int) := by omega
      have ga : a[i]? = some a[i] := List.getElem?_eq_getElem hi
      rw [decide_eq_true h3, cond_true, idx_nat ga, cast_succ, ck_in (by omega) (by omega), mn_eq]
      refine ih (i + 1) _ (by omega) (by omega) ?_ fun j hj x hx => ?_
      · rcases (by omega : min m a[i] = m ∨ min m a[i] = a[i]) with h | h <;> rw [h]
        · exact hm
        · exact List.getElem_mem hi
      · by_cases hji : j = i
        · subst hji; rw [ga] at hx; cases hx; omega
        · have := hpre j (by omega) x hx; omega
    · have h3 : ¬ (i : Int) < (a.length : Int) := by omega
      rw [decide_eq_false h3, cond_false]
      refine ⟨m, rfl, hm, fun x hx => ?_⟩
      obtain ⟨j, hj, e⟩ := List.getElem_of_mem hx
      exact hpre j (by omega) x (by rw [List.getElem?_eq_getElem hj, e])
theorem m63_eq {K : Nat} {a : List Int} (h1 : 1 ≤ a.length) (hs : a.length ≤ 1000000) (hK : a.length < K) : ∃ r, m63 K a = some r ∧ r ∈ a ∧ ∀ x ∈ a, r ≤ x := by
  unfold m63
  have h3 : ¬ (a.length : Int) < 1 := by omega
  have ga : a[0]? = some (a[0]'(by omega)) := List.getElem?_eq_getElem (by omega)
  rw [decide_eq_false h3, cond_false, idx_in (i := 0) (by omega) ga]
  exact m63_loop hs K 1 _ h1 (by omega) (List.getElem_mem (by omega)) fun j hj x hx => by
    obtain rfl : j = 0 := by omega
    rw [ga] at hx; cases hx; omega
theorem m64_loop {K : Nat} {a : List Int} (hs : a.length ≤ 1000000) : ∀ (k i : Nat) (m : Int), i ≤ a.length → a.length < i + k → m ∈ a → (∀ j, j < i → ∀ x, a[j]? = some x → x ≤ m) → ∃ r, m64_l1 K a k m i = some r ∧ r ∈ a ∧ ∀ x ∈ a, x ≤ r := by
  intro k
  induction k with
  | zero => intro i m h1 h2; omega
  | succ k ih =>
    intro i m h1 h2 hm hpre
    show ∃ r, m64_l1b K a (m64_l1 K a k) m i = some r ∧ _
    unfold m64_l1b
    by_cases hi : i < a.length
    · have h3 : (i : Int) < (a.length : Int) := by omega
      have ga : a[i]? = some a[i] := List.getElem?_eq_getElem hi
      rw [decide_eq_true h3, cond_true, idx_nat ga, cast_succ, ck_in (by omega) (by omega), mx_eq]
      refine ih (i + 1) _ (by omega) (by omega) ?_ fun j hj x hx => ?_
      · rcases (by omega : max m a[i] = m ∨ max m a[i] = a[i]) with h | h <;> rw [h]
        · exact hm
        · exact List.getElem_mem hi
      · by_cases hji : j = i
        · subst hji; rw [ga] at hx; cases hx; omega
        · have := hpre j (by omega) x hx; omega
    · have h3 : ¬ (i : Int) < (a.length : Int) := by omega
      rw [decide_eq_false h3, cond_false]
      refine ⟨m, rfl, hm, fun x hx => ?_⟩
      obtain ⟨j, hj, e⟩ := List.getElem_of_mem hx
      exact hpre j (by omega) x (by rw [List.getElem?_eq_getElem hj, e])
theorem m64_eq {K : Nat} {a : List Int} (h1 : 1 ≤ a.length) (hs : a.length ≤ 1000000) (hK : a.length < K) : ∃ r, m64 K a = some r ∧ r ∈ a ∧ ∀ x ∈ a, x ≤ r := by
  unfold m64
  have h3 : ¬ (a.length : Int) < 1 := by omega
  have ga : a[0]? = some (a[0]'(by omega)) := List.getElem?_eq_getElem (by omega)
  rw [decide_eq_false h3, cond_false, idx_in (i := 0) (by omega) ga]
  exact m64_loop hs K 1 _ h1 (by omega) (List.getElem_mem (by omega)) fun j hj x hx => by
    obtain rfl : j = 0 := by omega
    rw [ga] at hx; cases hx; omega
end Go.Proofs.YtobkigllalbkiaaV.M

/- Pyramids, in plain Lean: 'Check' and 'Low' of a built one. -/
set_option linter.unusedVariables false
set_option linter.unusedSimpArgs false
namespace Go.Proofs.YtobkigllalbkiaaV.M
theorem MinB.iff' {w h : Nat} {v : Nat → Nat → Int} {bound m : Int} {S1 S2 : Nat → Nat → Prop} (h1 : MinB w h v bound m S1) (hs : ∀ px py, px < w → py < h → (S1 px py ↔ S2 px py)) : MinB w h v bound m S2 :=
  ⟨h1.le, fun px py hx hy h => h1.all px py hx hy ((hs px py hx hy).2 h), h1.at_.imp id fun ⟨px, py, hx, hy, h, e⟩ => ⟨px, py, hx, hy, (hs px py hx hy).1 h, e⟩⟩
theorem mkL_mem {w h : Nat} {v : Nat → Nat → Int} {a : Int} : a ∈ (mkL w h v).Low ↔ ∃ px py, px < w ∧ py < h ∧ a = v px py := by
  simp only [mkL, List.mem_map, List.mem_range]
  constructor
  · rintro ⟨i, hi, rfl⟩
    have hw : 0 < w := by
      rcases Nat.eq_zero_or_pos w with h0 | h0
      · subst h0; simp at hi
      · exact h0
    exact ⟨i % w, i / w, Nat.mod_lt _ hw, Nat.div_lt_of_lt_mul hi, rfl⟩
  · rintro ⟨px, py, hx, hy, rfl⟩
    exact ⟨py * w + px, place_lt hx hy, by rw [place_mod hx, place_div hx]⟩
theorem mkL_len (w h : Nat) (v : Nat → Nat → Int) : (mkL w h v).Low.length = w * h := by simp [mkL]
structure Dom (w h : Nat) (v : Nat → Nat → Int) : Prop where
  w1 : 1 ≤ w
  w64 : w ≤ 64
  h1 : 1 ≤ h
  h64 : h ≤ 64
  lo : ∀ x y, x < w → y < h → -2048 ≤ v x y
  hi : ∀ x y, x < w → y < h → v x y ≤ 66560
theorem Dom.prod {w h : Nat} {v : Nat → Nat → Int} (d : Dom w h v) : 1 ≤ w * h ∧ w * h ≤ 4096 :=
  ⟨Nat.mul_pos d.w1 d.h1, Nat.mul_le_mul d.w64 d.h64⟩
theorem pyr_len {w h : Nat} {v : Nat → Nat → Int} : (pyr w h v).length = (lvls 6 w h v).length + 1 := by simp [pyr]
theorem pyr_mem {w h : Nat} {v : Nat → Nat → Int} (d : Dom w h v) {l : S_Level} (hl : l ∈ pyr w h v) : l.Low.length ≤ 4096 := by
  obtain ⟨i, hi, rfl⟩ := List.getElem_of_mem hl
  rw [pyr_len] at hi
  have := pyr_get (w := w) (h := h) (v := v) (i := i) (by omega)
  rw [List.getElem?_eq_getElem (by rw [pyr_len]; omega)] at this
  rw [Option.some.inj this, mkL_len]
  exact Nat.mul_le_mul (wi_le d.w64 i) (wi_le d.h64 i)
/-- The tests of 'Check' of a first level that may be. -/
theorem m22_first {K w h : Nat} {v : Nat → Nat → Int} (hK : 10000 ≤ K) (d : Dom w h v) {p : S_Pyramid} (hp : p.Levels[0]? = some (mkL w h v)) :
    ∃ b, m65 K (pyr w h v) p.Levels = some b ∧ (b = true ↔ pyr w h v = p.Levels) ∧ m22 K p = some (if b then 0 else 8) := by
  obtain ⟨p1, p2⟩ := d.prod
  have hlen : 0 < p.Levels.length := by
    have := (List.getElem?_eq_some_iff.1 hp).1
    omega
  have hll := lvls_len 6 w h v
  obtain ⟨b, e, hb⟩ := m65_eq (K := K) (a := pyr w h v) (b := p.Levels) (by rw [pyr_len]; omega) (by rw [pyr_len]; omega) fun x hx => by have := pyr_mem d hx; omega
  refine ⟨b, e, hb, ?_⟩
  unfold m22
  have c0 : ((p.Levels.length : Int) == 0) = false := by simp; intro h; rw [h] at hlen; simp at hlen
  have hw1 := d.w1
  have hw64 := d.w64
  have hh1 := d.h1
  have hh64 := d.h64
  have hW : (mkL w h v).W = (w : Int) := rfl
  have hH : (mkL w h v).H = (h : Int) := rfl
  have c1 : ¬ mn (w : Int) (h : Int) < 1 := by rw [mn_eq]; omega
  have c2 : ¬ 64 < mx (w : Int) (h : Int) := by rw [mx_eq]; omega
  have e1 : (w : Int) * (h : Int) = ((w * h : Nat) : Int) := by push_cast; rfl
  have c3 : (((mkL w h v).Low.length : Int) != ((w * h : Nat) : Int)) = false := by rw [mkL_len]; simp
  rw [c0, cond_false, idx_in (i := 0) (by omega) hp, hW, hH, decide_eq_false c1, cond_false, decide_eq_false c2, Option.bind_some, cond_false, e1, ck_in (by omega) (by omega), c3, Option.bind_some, cond_false]
  obtain ⟨mi, k1, q1, _⟩ := m63_eq (K := K) (a := (mkL w h v).Low) (by rw [mkL_len]; omega) (by rw [mkL_len]; omega) (by rw [mkL_len]; omega)
  obtain ⟨ma, k2, q2, _⟩ := m64_eq (K := K) (a := (mkL w h v).Low) (by rw [mkL_len]; omega) (by rw [mkL_len]; omega) (by rw [mkL_len]; omega)
  obtain ⟨x1, y1, g1, g2, rfl⟩ := mkL_mem.1 q1
  obtain ⟨x2, y2, g3, g4, rfl⟩ := mkL_mem.1 q2
  have r1 : ¬ v x1 y1 < -2048 := by have := d.lo x1 y1 g1 g2; omega
  have r2 : ¬ 66560 < v x2 y2 := by have := d.hi x2 y2 g3 g4; omega
  rw [k1, Option.bind_some, decide_eq_false r1, cond_false, k2, Option.bind_some, decide_eq_false r2, Option.bind_some, cond_false, m58_eq (by omega) hw64 hh64 hw1 hh1, Option.bind_some]
  show ((m65 K (pyr w h v) p.Levels).bind fun v52 => some (!v52)).bind _ = _
  rw [e]
  cases b <;> rfl
theorem m22_pyr {K w h : Nat} {v : Nat → Nat → Int} (hK : 10000 ≤ K) (d : Dom w h v) : m22 K ⟨pyr w h v⟩ = some 0 := by
  obtain ⟨b, _, hb, e⟩ := m22_first hK d (p := ⟨pyr w h v⟩) rfl
  rw [e, hb.2 rfl]; rfl
/-- May a rectangle be asked? -/
def okR (w h : Nat) (r : S_Rect) : Prop := 0 ≤ r.X0 ∧ 0 ≤ r.Y0 ∧ r.X0 ≤ r.X1 ∧ r.X1 < w ∧ r.Y0 ≤ r.Y1 ∧ r.Y1 < h
theorem m17_pyr {K w h : Nat} {v : Nat → Nat → Int} (hK : 10000 ≤ K) (d : Dom w h v) (r : S_Rect) :
    (¬ okR w h r ∧ m17 K ⟨pyr w h v⟩ r = some (0, 2)) ∨ (okR w h r ∧ ∃ m, m17 K ⟨pyr w h v⟩ r = some (m, 0) ∧ MinB w h v 66560 m (inR r)) := by
  have h22 := m22_pyr hK d
  have hW : (mkL w h v).W = (w : Int) := rfl
  have hH : (mkL w h v).H = (h : Int) := rfl
  have g0 : (pyr w h v)[0]? = some (mkL w h v) := rfl
  unfold m17
  rw [h22, Option.bind_some, show ((0 : Int) != 0) = false from rfl, cond_false, idx_in (i := 0) (by omega) g0, hW, hH]
  by_cases c1 : mn r.X0 r.Y0 < 0
  · refine .inl ⟨fun hr => ?_, by rw [decide_eq_true c1]; rfl⟩
    rw [mn_eq] at c1; have := hr.1; have := hr.2.1; omega
  by_cases c2 : r.X1 < r.X0
  · exact .inl ⟨fun hr => by have := hr.2.2.1; omega, by rw [decide_eq_false c1, decide_eq_true c2]; rfl⟩
  by_cases c3 : (w : Int) ≤ r.X1
  · exact .inl ⟨fun hr => by have := hr.2.2.2.1; omega, by rw [decide_eq_false c1, decide_eq_false c2, decide_eq_true c3]; rfl⟩
  by_cases c4 : r.Y1 < r.Y0
  · exact .inl ⟨fun hr => by have := hr.2.2.2.2.1; omega, by rw [decide_eq_false c1, decide_eq_false c2, decide_eq_false c3, decide_eq_true c4]; rfl⟩
  by_cases c5 : (h : Int) ≤ r.Y1
  · exact .inl ⟨fun hr => by have := hr.2.2.2.2.2; omega, by rw [decide_eq_false c1, decide_eq_false c2, decide_eq_false c3, decide_eq_false c4, decide_eq_true c5]; rfl⟩
  have hll := lvls_len 6 w h v
  have hlast := (lvls_last 6 w h v (by have := d.w64; simpa using this) (by have := d.h64; simpa using this) d.w1 d.h1 (lvls 6 w h v).length (Nat.le_refl _)).2 rfl
  obtain ⟨m, em, hm⟩ := low_eq (K := K) (top := (lvls 6 w h v).length) (p := ⟨pyr w h v⟩) (r := r) d.w64 d.h64 d.hi hll (fun i hi => pyr_get hi) K (lvls 6 w h v).length (by omega) (Nat.le_refl _) 0 0 66560 (by omega) (by omega)
  have e1 : (((⟨pyr w h v⟩ : S_Pyramid).Levels.length : Nat) : Int) - 1 = ((lvls 6 w h v).length : Int) := by
    show ((pyr w h v).length : Int) - 1 = _
    rw [pyr_len]; omega
  refine .inr ⟨⟨by rw [mn_eq] at c1; omega, by rw [mn_eq] at c1; omega, by omega, by omega, by omega, by omega⟩, m, ?_, hm.iff' fun px py hx hy => ?_⟩
  · rw [decide_eq_false c1, cond_false, decide_eq_false c2, Option.bind_some, cond_false, decide_eq_false c3, Option.bind_some, cond_false, decide_eq_false c4, Option.bind_some, cond_false, decide_eq_false c5, Option.bind_some, cond_false, e1, ck_in (by omega) (by omega)]
    have : m62 K ⟨pyr w h v⟩ ((lvls 6 w h v).length : Int) 0 0 r 66560 = some m := em
    rw [this]; rfl
  · unfold below
    have a1 := lt_wi hx (lvls 6 w h v).length
    have a2 := lt_wi hy (lvls 6 w h v).length
    rw [hlast.1] at a1
    rw [hlast.2] at a2
    exact ⟨fun q => q.1, fun q => ⟨q, Nat.lt_one_iff.1 a1, Nat.lt_one_iff.1 a2⟩⟩
end Go.Proofs.YtobkigllalbkiaaV.M

/- A plain Lean function that answers as the Go function does (none: not told), and the proof that a call answers so. Written by program. -/
set_option linter.unusedVariables false
namespace Go.Proofs.YtobkigllalbkiaaV.M
open Go.RowKit Go.Proofs.YtobkigllalbkiaaV
/-- diorama/frame.deep -/
def m70 (K : Nat) (a0 : Int) : Option (Bool) :=
 ((bif (decide ((-1024) ≤ a0)) then some (decide (a0 ≤ 66560)) else some false).bind fun b1 => some b1)
set_option maxRecDepth 100000 in
set_option maxHeartbeats 4000000 in
theorem c70 (ok : Okp) (K : Nat) (w : World) (a0 : Int)  (res : Bool) (hm : m70 K a0 = some res) :
  Calls Try.prog 70 #[.int .i64 a0] w (fun e w' => e = .returned (tup [.bool res]) ∧ Sep ok w w' [] []) := by
 refine calls_W (args := [.int .i64 a0]) Try.func70 rfl Try.ntmps70 Try.results70 rfl fun r hr => ?_
 obtain ⟨r1, rfl⟩ := regen (r := r) [(0, .int .i64 a0)] ⟨hr 0 _ rfl, trivial⟩
 have H : Sep ok w w [] [] := Sep.start ok w
 unfold m70 at hm
 refine W_seq ?_
 refine W_region ?_
 refine RL_pure (by exact wn0 rfl) (by rfl) (by rfl) (x_assign (v := .bool false) (by rfl)) ?_
 refine RL_nil ?_
 refine W_seq ?_
 refine W_region ?_
 refine RL_pure (by exact wn0 rfl) (by rfl) (by rfl) (x_move (v := .int .i64 a0) (by rfl)) ?_
 refine RL_pure (by exact wn0 rfl) (by rfl) (by rfl) (x_geq (by rfl) (by rfl)) ?_
 refine RL_pure (by exact wn0 rfl) (by rfl) (by rfl) (x_move (v := .bool (decide ((-1024) ≤ a0))) (by rfl)) ?_
 obtain ⟨b1, hmS, hm⟩ := bind_some hm
 refine RL_cut 3 (fun r' w' => Agr [(8, .bool b1)] r' ∧ Sep ok w w' [] []) ?_ ?_
 ·cases hbS : (decide ((-1024) ≤ a0))
  ·have hm := cond_f hbS hmS
   refine RL_cons (OpR_off (by exact wn2 rfl rfl rfl rfl) (by rfl) (by rfl) ?_)
   refine RL_cons (OpR_off (by exact wn2 rfl rfl rfl rfl) (by rfl) (by rfl) ?_)
   refine RL_pure (by exact wn0 rfl) (by rfl) (by rfl) (x_pick_f (v := .bool false) (by rfl) (by rfl)) ?_
   refine RL_nil ?_
   exact ⟨⟨congrArg Value.bool (Option.some.inj hm), trivial⟩, H⟩
  ·have hm := cond_t hbS hmS
   refine RL_pure (by exact wn1 rfl rfl rfl rfl) (by rfl) (by rfl) (x_move (v := .int .i64 a0) (by rfl)) ?_
   refine RL_pure (by exact wn1 rfl rfl rfl rfl) (by rfl) (by rfl) (x_leq (by rfl) (by rfl)) ?_
   refine RL_pure (by exact wn0 rfl) (by rfl) (by rfl) (x_pick_t (v := .bool (decide (a0 ≤ 66560))) (by rfl) (by rfl)) ?_
   refine RL_nil ?_
   exact ⟨⟨congrArg Value.bool (Option.some.inj hm), trivial⟩, H⟩
 ·rintro r' w' ⟨hA, H⟩
  obtain ⟨r2, rfl⟩ := regen _ hA; clear hA
  obtain ⟨w3, rfl⟩ : ∃ W : World, W = w' := ⟨_, rfl⟩
  show RL _ _ _ _ _ _ _
  refine RL_pure (by exact wn0 rfl) (by rfl) (by rfl) (x_assign (v := .bool b1) (by rfl)) ?_
  refine RL_nil ?_
  refine W_ret ?_
  obtain rfl := Option.some.inj hm
  exact ⟨[.bool b1], (.tmp (by rfl) rfl), rfl, H.none_⟩
end Go.Proofs.YtobkigllalbkiaaV.M

/- A plain Lean function that answers as the Go function does (none: not told), and the proof that a call answers so. Written by program. -/
set_option linter.unusedVariables false
namespace Go.Proofs.YtobkigllalbkiaaV.M
open Go.RowKit Go.Proofs.YtobkigllalbkiaaV
/-- diorama/frame.somebody -/
def m75 (K : Nat) (a0 : Int) (a1 : Int) (a2 : Int) : Option (Bool) :=
 ((m70 K a0).bind fun v2 => ((bif v2 then some (decide (0 ≤ a1)) else some false).bind fun b4 => ((bif b4 then some (decide (a1 < 256)) else some false).bind fun b7 => ((bif b7 then some (decide (0 ≤ a2)) else some false).bind fun b10 => ((bif b10 then some (decide (a2 < 64)) else some false).bind fun b13 => some b13)))))
set_option maxRecDepth 100000 in
set_option maxHeartbeats 4000000 in
theorem c75 (ok : Okp) (K : Nat) (w : World) (a0 : Int) (a1 : Int) (a2 : Int)  (res : Bool) (hm : m75 K a0 a1 a2 = some res) :
  Calls Try.prog 75 #[.int .i64 a0, .int .i64 a1, .int .i64 a2] w (fun e w' => e = .returned (tup [.bool res]) ∧ Sep ok w w' [] []) := by
 refine calls_W (args := [.int .i64 a0, .int .i64 a1, .int .i64 a2]) Try.func75 rfl Try.ntmps75 Try.results75 rfl fun r hr => ?_
 obtain ⟨r1, rfl⟩ := regen (r := r) [(0, .int .i64 a0), (1, .int .i64 a1), (2, .int .i64 a2)] ⟨hr 0 _ rfl, hr 1 _ rfl, hr 2 _ rfl, trivial⟩
 have H : Sep ok w w [] [] := Sep.start ok w
 unfold m75 at hm
 refine W_seq ?_
 refine W_region ?_
 refine RL_pure (by exact wn0 rfl) (by rfl) (by rfl) (x_assign (v := .bool false) (by rfl)) ?_
 refine RL_nil ?_
 refine W_seq ?_
 refine W_region ?_
 refine RL_pure (by exact wn0 rfl) (by rfl) (by rfl) (x_move (v := .int .i64 a0) (by rfl)) ?_
 obtain ⟨v2, hv1, hm⟩ := bind_some hm
 refine RL_cons (O_call (by exact wn0 rfl) (by rfl) (by rfl) (x_callL (by rfl) (args := [.int .i64 a0]) (by rfl) (cf70 _ _)) (c70 okT K w a0  v2 hv1) ?_)
 rintro e w3 ⟨rfl, H2⟩
 have H : Sep ok w w3 [] [] := H.below H2.base
 clear H2
 refine ⟨_, rfl, ?_⟩
 show RL _ _ _ _ _ _ _
 refine RL_pure (by exact wn0 rfl) (by rfl) (by rfl) (x_move (v := .bool v2) (by rfl)) ?_
 obtain ⟨b4, hmS, hm⟩ := bind_some hm
 refine RL_cut 3 (fun r' w' => Agr [(12, .bool b4), (1, .int .i64 a1), (2, .int .i64 a2)] r' ∧ Sep ok w w' [] []) ?_ ?_
 ·cases hbS : v2
  ·have hm := cond_f hbS hmS
   refine RL_cons (OpR_off (by exact wn2 rfl rfl rfl rfl) (by rfl) (by rfl) ?_)
   refine RL_cons (OpR_off (by exact wn2 rfl rfl rfl rfl) (by rfl) (by rfl) ?_)
   refine RL_pure (by exact wn0 rfl) (by rfl) (by rfl) (x_pick_f (v := .bool false) (by rfl) (by rfl)) ?_
   refine RL_nil ?_
   exact ⟨⟨congrArg Value.bool (Option.some.inj hm), rfl, rfl, trivial⟩, H⟩
  ·have hm := cond_t hbS hmS
   refine RL_pure (by exact wn1 rfl rfl rfl rfl) (by rfl) (by rfl) (x_move (v := .int .i64 a1) (by rfl)) ?_
   refine RL_pure (by exact wn1 rfl rfl rfl rfl) (by rfl) (by rfl) (x_geq (by rfl) (by rfl)) ?_
   refine RL_pure (by exact wn0 rfl) (by rfl) (by rfl) (x_pick_t (v := .bool (decide (0 ≤ a1))) (by rfl) (by rfl)) ?_
   refine RL_nil ?_
   exact ⟨⟨congrArg Value.bool (Option.some.inj hm), rfl, rfl, trivial⟩, H⟩
 ·rintro r' w' ⟨hA, H⟩
  obtain ⟨r5, rfl⟩ := regen _ hA; clear hA
  obtain ⟨w6, rfl⟩ : ∃ W : World, W = w' := ⟨_, rfl⟩
  show RL _ _ _ _ _ _ _
  refine RL_pure (by exact wn0 rfl) (by rfl) (by rfl) (x_move (v := .bool b4) (by rfl)) ?_
  obtain ⟨b7, hmS, hm⟩ := bind_some hm
  refine RL_cut 3 (fun r' w' => Agr [(16, .bool b7), (2, .int .i64 a2)] r' ∧ Sep ok w w' [] []) ?_ ?_
  ·cases hbS : b4
   ·have hm := cond_f hbS hmS
    refine RL_cons (OpR_off (by exact wn2 rfl rfl rfl rfl) (by rfl) (by rfl) ?_)
    refine RL_cons (OpR_off (by exact wn2 rfl rfl rfl rfl) (by rfl) (by rfl) ?_)
    refine RL_pure (by exact wn0 rfl) (by rfl) (by rfl) (x_pick_f (v := .bool false) (by rfl) (by rfl)) ?_
    refine RL_nil ?_
    exact ⟨⟨congrArg Value.bool (Option.some.inj hm), rfl, trivial⟩, H⟩
   ·have hm := cond_t hbS hmS
    refine RL_pure (by exact wn1 rfl rfl rfl rfl) (by rfl) (by rfl) (x_move (v := .int .i64 a1) (by rfl)) ?_
    refine RL_pure (by exact wn1 rfl rfl rfl rfl) (by rfl) (by rfl) (x_lss (by rfl) (by rfl)) ?_
    refine RL_pure (by exact wn0 rfl) (by rfl) (by rfl) (x_pick_t (v := .bool (decide (a1 < 256))) (by rfl) (by rfl)) ?_
    refine RL_nil ?_
    exact ⟨⟨congrArg Value.bool (Option.some.inj hm), rfl, trivial⟩, H⟩
  ·rintro r' w' ⟨hA, H⟩
   obtain ⟨r8, rfl⟩ := regen _ hA; clear hA
   obtain ⟨w9, rfl⟩ : ∃ W : World, W = w' := ⟨_, rfl⟩
   show RL _ _ _ _ _ _ _
   refine RL_pure (by exact wn0 rfl) (by rfl) (by rfl) (x_move (v := .bool b7) (by rfl)) ?_
   obtain ⟨b10, hmS, hm⟩ := bind_some hm
   refine RL_cut 3 (fun r' w' => Agr [(20, .bool b10), (2, .int .i64 a2)] r' ∧ Sep ok w w' [] []) ?_ ?_
   ·cases hbS : b7
    ·have hm := cond_f hbS hmS
     refine RL_cons (OpR_off (by exact wn2 rfl rfl rfl rfl) (by rfl) (by rfl) ?_)
     refine RL_cons (OpR_off (by exact wn2 rfl rfl rfl rfl) (by rfl) (by rfl) ?_)
     refine RL_pure (by exact wn0 rfl) (by rfl) (by rfl) (x_pick_f (v := .bool false) (by rfl) (by rfl)) ?_
     refine RL_nil ?_
     exact ⟨⟨congrArg Value.bool (Option.some.inj hm), rfl, trivial⟩, H⟩
    ·have hm := cond_t hbS hmS
     refine RL_pure (by exact wn1 rfl rfl rfl rfl) (by rfl) (by rfl) (x_move (v := .int .i64 a2) (by rfl)) ?_
     refine RL_pure (by exact wn1 rfl rfl rfl rfl) (by rfl) (by rfl) (x_geq (by rfl) (by rfl)) ?_
     refine RL_pure (by exact wn0 rfl) (by rfl) (by rfl) (x_pick_t (v := .bool (decide (0 ≤ a2))) (by rfl) (by rfl)) ?_
     refine RL_nil ?_
     exact ⟨⟨congrArg Value.bool (Option.some.inj hm), rfl, trivial⟩, H⟩
   ·rintro r' w' ⟨hA, H⟩
    obtain ⟨r11, rfl⟩ := regen _ hA; clear hA
    obtain ⟨w12, rfl⟩ : ∃ W : World, W = w' := ⟨_, rfl⟩
    show RL _ _ _ _ _ _ _
    refine RL_pure (by exact wn0 rfl) (by rfl) (by rfl) (x_move (v := .bool b10) (by rfl)) ?_
    obtain ⟨b13, hmS, hm⟩ := bind_some hm
    refine RL_cut 3 (fun r' w' => Agr [(24, .bool b13)] r' ∧ Sep ok w w' [] []) ?_ ?_
    ·cases hbS : b10
     ·have hm := cond_f hbS hmS
      refine RL_cons (OpR_off (by exact wn2 rfl rfl rfl rfl) (by rfl) (by rfl) ?_)
      refine RL_cons (OpR_off (by exact wn2 rfl rfl rfl rfl) (by rfl) (by rfl) ?_)
      refine RL_pure (by exact wn0 rfl) (by rfl) (by rfl) (x_pick_f (v := .bool false) (by rfl) (by rfl)) ?_
      refine RL_nil ?_
      exact ⟨⟨congrArg Value.bool (Option.some.inj hm), trivial⟩, H⟩
     ·have hm := cond_t hbS hmS
      refine RL_pure (by exact wn1 rfl rfl rfl rfl) (by rfl) (by rfl) (x_move (v := .int .i64 a2) (by rfl)) ?_
      refine RL_pure (by exact wn1 rfl rfl rfl rfl) (by rfl) (by rfl) (x_lss (by rfl) (by rfl)) ?_
      refine RL_pure (by exact wn0 rfl) (by rfl) (by rfl) (x_pick_t (v := .bool (decide (a2 < 64))) (by rfl) (by rfl)) ?_
      refine RL_nil ?_
      exact ⟨⟨congrArg Value.bool (Option.some.inj hm), trivial⟩, H⟩
    ·rintro r' w' ⟨hA, H⟩
     obtain ⟨r14, rfl⟩ := regen _ hA; clear hA
     obtain ⟨w15, rfl⟩ : ∃ W : World, W = w' := ⟨_, rfl⟩
     show RL _ _ _ _ _ _ _
     refine RL_pure (by exact wn0 rfl) (by rfl) (by rfl) (x_assign (v := .bool b13) (by rfl)) ?_
     refine RL_nil ?_
     refine W_ret ?_
     obtain rfl := Option.some.inj hm
     exact ⟨[.bool b13], (.tmp (by rfl) rfl), rfl, H.none_⟩
end Go.Proofs.YtobkigllalbkiaaV.M

/- A plain Lean function that answers as the Go function does (none: not told), and the proof that a call answers so. Written by program. -/
set_option linter.unusedVariables false
namespace Go.Proofs.YtobkigllalbkiaaV.M
open Go.RowKit Go.Proofs.YtobkigllalbkiaaV
def m33_l1b (K : Nat) (a0 : S_Frame) (rec1 : Int → Option (Int)) (y55_1 : Int) : Option (Int) :=
 (bif (decide (y55_1 < (a0.Depth.length : Int))) then (idx a0.Depth y55_1 fun el34 => ((bif (el34 == (-2048)) then (idx a0.Item y55_1 fun el42 => some (el42 == (-1))) else some false).bind fun b41 => ((bif b41 then (idx a0.Tri y55_1 fun el52 => some (el52 == (-1))) else some false).bind fun b51 => ((bif (!b51) then (idx a0.Item y55_1 fun el63 => (idx a0.Tri y55_1 fun el70 => ((m75 K el34 el63 el70).bind fun v78 => some (!v78)))) else some false).bind fun b62 => (bif b62 then some 8 else (ck (y55_1 + 1) fun x82 => (rec1 x82))))))) else some 0)
def m33_l1 (K : Nat) (a0 : S_Frame) : Nat → Int → Option (Int)
 | 0 => fun _ => none
 | k + 1 => m33_l1b K a0 (m33_l1 K a0 k)
/-- diorama/frame.Check -/
def m33 (K : Nat) (a0 : S_Frame) : Option (Int) :=
 ((bif (decide ((mn a0.W a0.H) < 1)) then some true else some (decide (64 < (mx a0.W a0.H)))).bind fun b19 => (bif b19 then some 8 else (ck (a0.W * a0.H) fun x22 => ((bif ((a0.Color.length : Int) != x22) then some true else some ((a0.Depth.length : Int) != x22)).bind fun b23 => ((bif b23 then some true else some ((a0.Item.length : Int) != x22)).bind fun b26 => ((bif b26 then some true else some ((a0.Tri.length : Int) != x22)).bind fun b29 => (bif b29 then some 8 else m33_l1 K a0 K 0)))))))
set_option maxRecDepth 100000 in
set_option maxHeartbeats 4000000 in
theorem c33 (ok : Okp) (K : Nat) (w : World) (a0 : S_Frame) (A1 : Option Addr) (cp2 : Nat) (A5 : Option Addr) (cp6 : Nat) (A9 : Option Addr) (cp10 : Nat) (A13 : Option Addr) (cp14 : Nat) (hR3 : Rd k_Ar4_Int w ok A1 cp2 a0.Color) (hR7 : Rd kInt w ok A5 cp6 a0.Depth) (hR11 : Rd kInt w ok A9 cp10 a0.Item) (hR15 : Rd kInt w ok A13 cp14 a0.Tri) (res : Int) (hm : m33 K a0 = some res) :
  Calls Try.prog 33 #[.agg #[.int .i64 a0.W, .int .i64 a0.H, .slice A1 a0.Color.length cp2, .slice A5 a0.Depth.length cp6, .slice A9 a0.Item.length cp10, .slice A13 a0.Tri.length cp14]] w (fun e w' => e = .returned (tup [.int .i64 res]) ∧ Sep ok w w' [] []) := by
 refine calls_W (args := [.agg #[.int .i64 a0.W, .int .i64 a0.H, .slice A1 a0.Color.length cp2, .slice A5 a0.Depth.length cp6, .slice A9 a0.Item.length cp10, .slice A13 a0.Tri.length cp14]]) Try.func33 rfl Try.ntmps33 Try.results33 rfl fun r hr => ?_
 obtain ⟨r1, rfl⟩ := regen (r := r) [(0, .agg #[.int .i64 a0.W, .int .i64 a0.H, .slice A1 a0.Color.length cp2, .slice A5 a0.Depth.length cp6, .slice A9 a0.Item.length cp10, .slice A13 a0.Tri.length cp14])] ⟨hr 0 _ rfl, trivial⟩
 have H : Sep ok w w [] [RE.rd k_Ar4_Int A1 cp2 a0.Color, RE.rd kInt A5 cp6 a0.Depth, RE.rd kInt A9 cp10 a0.Item, RE.rd kInt A13 cp14 a0.Tri] := Sep.arg (Sep.arg (Sep.arg (Sep.arg (Sep.start ok w) (re := RE.rd k_Ar4_Int A1 cp2 a0.Color) rfl rfl hR3) (re := RE.rd kInt A5 cp6 a0.Depth) rfl rfl hR7) (re := RE.rd kInt A9 cp10 a0.Item) rfl rfl hR11) (re := RE.rd kInt A13 cp14 a0.Tri) rfl rfl hR15
 unfold m33 at hm
 refine W_seq ?_
 refine W_region ?_
 refine RL_cons (O_box (by exact wn0 rfl) (by rfl) (by rfl) (by rfl) H (fun w18 b17 (H : Sep ok w w18 [.blk b17 25 [.int .i64 a0.W, .int .i64 a0.H, .slice A1 a0.Color.length cp2, .slice A5 a0.Depth.length cp6, .slice A9 a0.Item.length cp10, .slice A13 a0.Tri.length cp14]] [RE.rd k_Ar4_Int A1 cp2 a0.Color, RE.rd kInt A5 cp6 a0.Depth, RE.rd kInt A9 cp10 a0.Item, RE.rd kInt A13 cp14 a0.Tri]) => ?_))
 refine RL_pure (by exact wn0 rfl) (by rfl) (by rfl) (x_assign (v := .int .i64 0) (by rfl)) ?_
 refine RL_nil ?_
 refine W_seq ?_
 refine W_seq ?_
 refine W_region ?_
 refine RL_pure (by exact wn0 rfl) (by rfl) (by rfl) (x_fieldAddr fo25_0 (by rfl)) ?_
 refine RL_pure (by exact wn0 rfl) (by rfl) (by rfl) (x_load (j := 0) (v := .int .i64 a0.W) sc3 (by rfl) (H.cells (i := 0) (by rfl)) (by rfl)) ?_
 refine RL_pure (by exact wn0 rfl) (by rfl) (by rfl) (x_fieldAddr fo25_1 (by rfl)) ?_
 refine RL_pure (by exact wn0 rfl) (by rfl) (by rfl) (x_load (j := 1) (v := .int .i64 a0.H) sc3 (by rfl) (H.cells (i := 0) (by rfl)) (by rfl)) ?_
 refine RL_pure (by exact wn0 rfl) (by rfl) (by rfl) (x_min2 (by rfl) (by rfl)) ?_
 refine RL_pure (by exact wn0 rfl) (by rfl) (by rfl) (x_lss (by rfl) (by rfl)) ?_
 refine RL_pure (by exact wn0 rfl) (by rfl) (by rfl) (x_move (v := .bool (decide ((mn a0.W a0.H) < 1))) (by rfl)) ?_
 obtain ⟨b19, hmS, hm⟩ := bind_some hm
 refine RL_cut 7 (fun r' w' => Agr [(20, .bool b19), (1, .pointer (some ⟨b17, 0, none⟩))] r' ∧ Sep ok w w' [.blk b17 25 [.int .i64 a0.W, .int .i64 a0.H, .slice A1 a0.Color.length cp2, .slice A5 a0.Depth.length cp6, .slice A9 a0.Item.length cp10, .slice A13 a0.Tri.length cp14]] [RE.rd k_Ar4_Int A1 cp2 a0.Color, RE.rd kInt A5 cp6 a0.Depth, RE.rd kInt A9 cp10 a0.Item, RE.rd kInt A13 cp14 a0.Tri]) ?_ ?_
 ·cases hbS : (decide ((mn a0.W a0.H) < 1))
  ·have hm := cond_f hbS hmS
   refine RL_pure (by exact wn1 rfl rfl rfl rfl) (by rfl) (by rfl) (x_fieldAddr fo25_0 (by rfl)) ?_
   refine RL_pure (by exact wn1 rfl rfl rfl rfl) (by rfl) (by rfl) (x_load (j := 0) (v := .int .i64 a0.W) sc3 (by rfl) (H.cells (i := 0) (by rfl)) (by rfl)) ?_
   refine RL_pure (by exact wn1 rfl rfl rfl rfl) (by rfl) (by rfl) (x_fieldAddr fo25_1 (by rfl)) ?_
   refine RL_pure (by exact wn1 rfl rfl rfl rfl) (by rfl) (by rfl) (x_load (j := 1) (v := .int .i64 a0.H) sc3 (by rfl) (H.cells (i := 0) (by rfl)) (by rfl)) ?_
   refine RL_pure (by exact wn1 rfl rfl rfl rfl) (by rfl) (by rfl) (x_max2 (by rfl) (by rfl)) ?_
   refine RL_pure (by exact wn1 rfl rfl rfl rfl) (by rfl) (by rfl) (x_gtr (by rfl) (by rfl)) ?_
   refine RL_pure (by exact wn0 rfl) (by rfl) (by rfl) (x_pick_f (v := .bool (decide (64 < (mx a0.W a0.H)))) (by rfl) (by rfl)) ?_
   refine RL_nil ?_
   exact ⟨⟨congrArg Value.bool (Option.some.inj hm), rfl, trivial⟩, H⟩
  ·have hm := cond_t hbS hmS
   refine RL_cons (OpR_off (by exact wn2 rfl rfl rfl rfl) (by rfl) (by rfl) ?_)
   refine RL_cons (OpR_off (by exact wn2 rfl rfl rfl rfl) (by rfl) (by rfl) ?_)
   refine RL_cons (OpR_off (by exact wn2 rfl rfl rfl rfl) (by rfl) (by rfl) ?_)
   refine RL_cons (OpR_off (by exact wn2 rfl rfl rfl rfl) (by rfl) (by rfl) ?_)
   refine RL_cons (OpR_off (by exact wn2 rfl rfl rfl rfl) (by rfl) (by rfl) ?_)
   refine RL_cons (OpR_off (by exact wn2 rfl rfl rfl rfl) (by rfl) (by rfl) ?_)
   refine RL_pure (by exact wn0 rfl) (by rfl) (by rfl) (x_pick_t (v := .bool true) (by rfl) (by rfl)) ?_
   refine RL_nil ?_
   exact ⟨⟨congrArg Value.bool (Option.some.inj hm), rfl, trivial⟩, H⟩
 ·rintro r' w' ⟨hA, H⟩
  obtain ⟨r20, rfl⟩ := regen _ hA; clear hA
  obtain ⟨w21, rfl⟩ : ∃ W : World, W = w' := ⟨_, rfl⟩
  show RL _ _ _ _ _ _ _
  refine RL_nil ?_
  refine W_cond (by rfl) (fun hb => ?_) (fun hb => ?_)
  ·have hm := cond_t hb hm
   refine W_seq ?_
   refine W_region ?_
   refine RL_pure (by exact wn0 rfl) (by rfl) (by rfl) (x_assign (v := .int .i64 8) (by rfl)) ?_
   refine RL_nil ?_
   refine W_ret ?_
   obtain rfl := Option.some.inj hm
   exact ⟨[.int .i64 8], (.tmp (by rfl) rfl), rfl, H.none_⟩
  ·have hm := cond_f hb hm
   refine W_skip ?_
   refine W_seq ?_
   refine W_region ?_
   refine RL_pure (by exact wn0 rfl) (by rfl) (by rfl) (x_fieldAddr fo25_0 (by rfl)) ?_
   refine RL_pure (by exact wn0 rfl) (by rfl) (by rfl) (x_load (j := 0) (v := .int .i64 a0.W) sc3 (by rfl) (H.cells (i := 0) (by rfl)) (by rfl)) ?_
   refine RL_pure (by exact wn0 rfl) (by rfl) (by rfl) (x_fieldAddr fo25_1 (by rfl)) ?_
   refine RL_pure (by exact wn0 rfl) (by rfl) (by rfl) (x_load (j := 1) (v := .int .i64 a0.H) sc3 (by rfl) (H.cells (i := 0) (by rfl)) (by rfl)) ?_
   obtain ⟨x22, ex22, qx22, ux22, hm⟩ := ck_some hm
   refine RL_pure (by exact wn0 rfl) (by rfl) (by rfl) (x_mul (by rfl) (by rfl) ux22) ?_
   refine RL_pure (by exact wn0 rfl) (by rfl) (by rfl) (x_assign (v := .int .i64 x22) (by rfl)) ?_
   refine RL_nil ?_
   refine W_seq ?_
   refine W_seq ?_
   refine W_region ?_
   refine RL_pure (by exact wn0 rfl) (by rfl) (by rfl) (x_fieldAddr fo25_2 (by rfl)) ?_
   refine RL_pure (by exact wn0 rfl) (by rfl) (by rfl) (x_load (j := 2) (v := .slice A1 a0.Color.length cp2) sc22 (by rfl) (H.cells (i := 0) (by rfl)) (by rfl)) ?_
   refine RL_pure (by exact wn0 rfl) (by rfl) (by rfl) (x_len sl22 (by rfl)) ?_
   refine RL_pure (by exact wn0 rfl) (by rfl) (by rfl) (x_move (v := .int .i64 x22) (by rfl)) ?_
   refine RL_pure (by exact wn0 rfl) (by rfl) (by rfl) (x_neq (by rfl) (by rfl)) ?_
   refine RL_pure (by exact wn0 rfl) (by rfl) (by rfl) (x_move (v := .bool ((a0.Color.length : Int) != x22)) (by rfl)) ?_
   obtain ⟨b23, hmS, hm⟩ := bind_some hm
   refine RL_cut 6 (fun r' w' => Agr [(37, .bool b23), (1, .pointer (some ⟨b17, 0, none⟩)), (3, .int .i64 x22)] r' ∧ Sep ok w w' [.blk b17 25 [.int .i64 a0.W, .int .i64 a0.H, .slice A1 a0.Color.length cp2, .slice A5 a0.Depth.length cp6, .slice A9 a0.Item.length cp10, .slice A13 a0.Tri.length cp14]] [RE.rd k_Ar4_Int A1 cp2 a0.Color, RE.rd kInt A5 cp6 a0.Depth, RE.rd kInt A9 cp10 a0.Item, RE.rd kInt A13 cp14 a0.Tri]) ?_ ?_
   ·cases hbS : ((a0.Color.length : Int) != x22)
    ·have hm := cond_f hbS hmS
     refine RL_pure (by exact wn1 rfl rfl rfl rfl) (by rfl) (by rfl) (x_fieldAddr fo25_3 (by rfl)) ?_
     refine RL_pure (by exact wn1 rfl rfl rfl rfl) (by rfl) (by rfl) (x_load (j := 3) (v := .slice A5 a0.Depth.length cp6) sc23 (by rfl) (H.cells (i := 0) (by rfl)) (by rfl)) ?_
     refine RL_pure (by exact wn1 rfl rfl rfl rfl) (by rfl) (by rfl) (x_len sl23 (by rfl)) ?_
     refine RL_pure (by exact wn1 rfl rfl rfl rfl) (by rfl) (by rfl) (x_move (v := .int .i64 x22) (by rfl)) ?_
     refine RL_pure (by exact wn1 rfl rfl rfl rfl) (by rfl) (by rfl) (x_neq (by rfl) (by rfl)) ?_
     refine RL_pure (by exact wn0 rfl) (by rfl) (by rfl) (x_pick_f (v := .bool ((a0.Depth.length : Int) != x22)) (by rfl) (by rfl)) ?_
     refine RL_nil ?_
     exact ⟨⟨congrArg Value.bool (Option.some.inj hm), rfl, rfl, trivial⟩, H⟩
    ·have hm := cond_t hbS hmS
     refine RL_cons (OpR_off (by exact wn2 rfl rfl rfl rfl) (by rfl) (by rfl) ?_)
     refine RL_cons (OpR_off (by exact wn2 rfl rfl rfl rfl) (by rfl) (by rfl) ?_)
     refine RL_cons (OpR_off (by exact wn2 rfl rfl rfl rfl) (by rfl) (by rfl) ?_)
     refine RL_cons (OpR_off (by exact wn2 rfl rfl rfl rfl) (by rfl) (by rfl) ?_)
     refine RL_cons (OpR_off (by exact wn2 rfl rfl rfl rfl) (by rfl) (by rfl) ?_)
     refine RL_pure (by exact wn0 rfl) (by rfl) (by rfl) (x_pick_t (v := .bool true) (by rfl) (by rfl)) ?_
     refine RL_nil ?_
     exact ⟨⟨congrArg Value.bool (Option.some.inj hm), rfl, rfl, trivial⟩, H⟩
   ·rintro r' w' ⟨hA, H⟩
    obtain ⟨r24, rfl⟩ := regen _ hA; clear hA
    obtain ⟨w25, rfl⟩ : ∃ W : World, W = w' := ⟨_, rfl⟩
    show RL _ _ _ _ _ _ _
    refine RL_pure (by exact wn0 rfl) (by rfl) (by rfl) (x_move (v := .bool b23) (by rfl)) ?_
    obtain ⟨b26, hmS, hm⟩ := bind_some hm
    refine RL_cut 6 (fun r' w' => Agr [(44, .bool b26), (1, .pointer (some ⟨b17, 0, none⟩)), (3, .int .i64 x22)] r' ∧ Sep ok w w' [.blk b17 25 [.int .i64 a0.W, .int .i64 a0.H, .slice A1 a0.Color.length cp2, .slice A5 a0.Depth.length cp6, .slice A9 a0.Item.length cp10, .slice A13 a0.Tri.length cp14]] [RE.rd k_Ar4_Int A1 cp2 a0.Color, RE.rd kInt A5 cp6 a0.Depth, RE.rd kInt A9 cp10 a0.Item, RE.rd kInt A13 cp14 a0.Tri]) ?_ ?_
    ·cases hbS : b23
     ·have hm := cond_f hbS hmS
      refine RL_pure (by exact wn1 rfl rfl rfl rfl) (by rfl) (by rfl) (x_fieldAddr fo25_4 (by rfl)) ?_
      refine RL_pure (by exact wn1 rfl rfl rfl rfl) (by rfl) (by rfl) (x_load (j := 4) (v := .slice A9 a0.Item.length cp10) sc23 (by rfl) (H.cells (i := 0) (by rfl)) (by rfl)) ?_
      refine RL_pure (by exact wn1 rfl rfl rfl rfl) (by rfl) (by rfl) (x_len sl23 (by rfl)) ?_
      refine RL_pure (by exact wn1 rfl rfl rfl rfl) (by rfl) (by rfl) (x_move (v := .int .i64 x22) (by rfl)) ?_
      refine RL_pure (by exact wn1 rfl rfl rfl rfl) (by rfl) (by rfl) (x_neq (by rfl) (by rfl)) ?_
      refine RL_pure (by exact wn0 rfl) (by rfl) (by rfl) (x_pick_f (v := .bool ((a0.Item.length : Int) != x22)) (by rfl) (by rfl)) ?_
      refine RL_nil ?_
      exact ⟨⟨congrArg Value.bool (Option.some.inj hm), rfl, rfl, trivial⟩, H⟩
     ·have hm := cond_t hbS hmS
      refine RL_cons (OpR_off (by exact wn2 rfl rfl rfl rfl) (by rfl) (by rfl) ?_)
      refine RL_cons (OpR_off (by exact wn2 rfl rfl rfl rfl) (by rfl) (by rfl) ?_)
      refine RL_cons (OpR_off (by exact wn2 rfl rfl rfl rfl) (by rfl) (by rfl) ?_)
      refine RL_cons (OpR_off (by exact wn2 rfl rfl rfl rfl) (by rfl) (by rfl) ?_)
      refine RL_cons (OpR_off (by exact wn2 rfl rfl rfl rfl) (by rfl) (by rfl) ?_)
      refine RL_pure (by exact wn0 rfl) (by rfl) (by rfl) (x_pick_t (v := .bool true) (by rfl) (by rfl)) ?_
      refine RL_nil ?_
      exact ⟨⟨congrArg Value.bool (Option.some.inj hm), rfl, rfl, trivial⟩, H⟩
    ·rintro r' w' ⟨hA, H⟩
     obtain ⟨r27, rfl⟩ := regen _ hA; clear hA
     obtain ⟨w28, rfl⟩ : ∃ W : World, W = w' := ⟨_, rfl⟩
     show RL _ _ _ _ _ _ _
     refine RL_pure (by exact wn0 rfl) (by rfl) (by rfl) (x_move (v := .bool b26) (by rfl)) ?_
     obtain ⟨b29, hmS, hm⟩ := bind_some hm
     refine RL_cut 6 (fun r' w' => Agr [(51, .bool b29), (1, .pointer (some ⟨b17, 0, none⟩))] r' ∧ Sep ok w w' [.blk b17 25 [.int .i64 a0.W, .int .i64 a0.H, .slice A1 a0.Color.length cp2, .slice A5 a0.Depth.length cp6, .slice A9 a0.Item.length cp10, .slice A13 a0.Tri.length cp14]] [RE.rd k_Ar4_Int A1 cp2 a0.Color, RE.rd kInt A5 cp6 a0.Depth, RE.rd kInt A9 cp10 a0.Item, RE.rd kInt A13 cp14 a0.Tri]) ?_ ?_
     ·cases hbS : b26
      ·have hm := cond_f hbS hmS
       refine RL_pure (by exact wn1 rfl rfl rfl rfl) (by rfl) (by rfl) (x_fieldAddr fo25_5 (by rfl)) ?_
       refine RL_pure (by exact wn1 rfl rfl rfl rfl) (by rfl) (by rfl) (x_load (j := 5) (v := .slice A13 a0.Tri.length cp14) sc23 (by rfl) (H.cells (i := 0) (by rfl)) (by rfl)) ?_
       refine RL_pure (by exact wn1 rfl rfl rfl rfl) (by rfl) (by rfl) (x_len sl23 (by rfl)) ?_
       refine RL_pure (by exact wn1 rfl rfl rfl rfl) (by rfl) (by rfl) (x_move (v := .int .i64 x22) (by rfl)) ?_
       refine RL_pure (by exact wn1 rfl rfl rfl rfl) (by rfl) (by rfl) (x_neq (by rfl) (by rfl)) ?_
       refine RL_pure (by exact wn0 rfl) (by rfl) (by rfl) (x_pick_f (v := .bool ((a0.Tri.length : Int) != x22)) (by rfl) (by rfl)) ?_
       refine RL_nil ?_
       exact ⟨⟨congrArg Value.bool (Option.some.inj hm), rfl, trivial⟩, H⟩
      ·have hm := cond_t hbS hmS
       refine RL_cons (OpR_off (by exact wn2 rfl rfl rfl rfl) (by rfl) (by rfl) ?_)
       refine RL_cons (OpR_off (by exact wn2 rfl rfl rfl rfl) (by rfl) (by rfl) ?_)
       refine RL_cons (OpR_off (by exact wn2 rfl rfl rfl rfl) (by rfl) (by rfl) ?_)
       refine RL_cons (OpR_off (by exact wn2 rfl rfl rfl rfl) (by rfl) (by rfl) ?_)
       refine RL_cons (OpR_off (by exact wn2 rfl rfl rfl rfl) (by rfl) (by rfl) ?_)
       refine RL_pure (by exact wn0 rfl) (by rfl) (by rfl) (x_pick_t (v := .bool true) (by rfl) (by rfl)) ?_
       refine RL_nil ?_
       exact ⟨⟨congrArg Value.bool (Option.some.inj hm), rfl, trivial⟩, H⟩
     ·rintro r' w' ⟨hA, H⟩
      obtain ⟨r30, rfl⟩ := regen _ hA; clear hA
      obtain ⟨w31, rfl⟩ : ∃ W : World, W = w' := ⟨_, rfl⟩
      show RL _ _ _ _ _ _ _
      refine RL_nil ?_
      refine W_cond (by rfl) (fun hb => ?_) (fun hb => ?_)
      ·have hm := cond_t hb hm
       refine W_seq ?_
       refine W_region ?_
       refine RL_pure (by exact wn0 rfl) (by rfl) (by rfl) (x_assign (v := .int .i64 8) (by rfl)) ?_
       refine RL_nil ?_
       refine W_ret ?_
       obtain rfl := Option.some.inj hm
       exact ⟨[.int .i64 8], (.tmp (by rfl) rfl), rfl, H.none_⟩
      ·have hm := cond_f hb hm
       refine W_skip ?_
       refine W_seq ?_
       refine W_seq ?_
       refine W_region ?_
       refine RL_pure (by exact wn0 rfl) (by rfl) (by rfl) (x_fieldAddr fo25_3 (by rfl)) ?_
       refine RL_pure (by exact wn0 rfl) (by rfl) (by rfl) (x_load (j := 3) (v := .slice A5 a0.Depth.length cp6) sc23 (by rfl) (H.cells (i := 0) (by rfl)) (by rfl)) ?_
       refine RL_pure (by exact wn0 rfl) (by rfl) (by rfl) (x_len sl23 (by rfl)) ?_
       refine RL_pure (by exact wn0 rfl) (by rfl) (by rfl) (x_move (v := .int .i64 0) (by rfl)) ?_
       refine RL_nil ?_
       refine W_block ?_
       refine W_loop (fun k1 r' w' => ∃ (y55_1 : Int), m33_l1 K a0 k1 y55_1 = some res ∧ Agr [(1, .pointer (some ⟨b17, 0, none⟩)), (53, .slice A5 a0.Depth.length cp6), (54, .int .i64 (a0.Depth.length : Int)), (55, .int .i64 y55_1)] r' ∧ Sep ok w w' [.blk b17 25 [.int .i64 a0.W, .int .i64 a0.H, .slice A1 a0.Color.length cp2, .slice A5 a0.Depth.length cp6, .slice A9 a0.Item.length cp10, .slice A13 a0.Tri.length cp14]] [RE.rd k_Ar4_Int A1 cp2 a0.Color, RE.rd kInt A5 cp6 a0.Depth, RE.rd kInt A9 cp10 a0.Item, RE.rd kInt A13 cp14 a0.Tri]) K ?_ ?_
       ·exact ⟨0, hm, ⟨rfl, rfl, rfl, rfl, trivial⟩, H⟩
       ·rintro k1 r' w' ⟨y55_1, hm, hA, H⟩
        obtain ⟨r32, rfl⟩ := regen _ hA; clear hA
        obtain ⟨w33, rfl⟩ : ∃ W : World, W = w' := ⟨_, rfl⟩
        cases k1 with
        | zero => exact (none_some hm).elim
        | succ k1 =>
         have hm : m33_l1b K a0 (m33_l1 K a0 k1) y55_1 = some res := hm
         unfold m33_l1b at hm
         obtain ⟨rec1, hrec1⟩ : ∃ f, m33_l1 K a0 k1 = f := ⟨_, rfl⟩
         rw [hrec1] at hm
         refine W_seq ?_
         refine W_region ?_
         refine RL_pure (by exact wn0 rfl) (by rfl) (by rfl) (x_lss (by rfl) (by rfl)) ?_
         refine RL_nil ?_
         refine W_seq ?_
         refine W_cond (by rfl) (fun hb => ?_) (fun hb => ?_)
         ·have hm := cond_t hb hm
          refine W_skip ?_
          refine W_seq ?_
          refine W_block ?_
          refine W_seq ?_
          refine W_region ?_
          refine RL_pure (by exact wn0 rfl) (by rfl) (by rfl) (x_move (v := .int .i64 y55_1) (by rfl)) ?_
          obtain ⟨el34, h35, h36, he37, hm⟩ := idx_some hm
          obtain ⟨g39, o40, hA38⟩ := (H.rd (i := 1) (by rfl)).addr he37
          refine RL_pure (by exact wn0 rfl) (by rfl) (by rfl) (x_indexAddr sl23 sz3 (by rfl) (by rfl) hA38 h35 h36) ?_
          refine RL_pure (by exact wn0 rfl) (by rfl) (by rfl) (x_load (j := 0) (v := .int .i64 el34) sc3 (by rfl) (Rd.flatAt (n := 1) (H.rd (i := 1) (by rfl)) hA38 he37) (by rfl)) ?_
          refine RL_pure (by exact wn0 rfl) (by rfl) (by rfl) (x_assign (v := .int .i64 y55_1) (by rfl)) ?_
          refine RL_pure (by exact wn0 rfl) (by rfl) (by rfl) (x_assign (v := .int .i64 el34) (by rfl)) ?_
          refine RL_nil ?_
          refine W_seq ?_
          refine W_region ?_
          refine RL_pure (by exact wn0 rfl) (by rfl) (by rfl) (x_move (v := .int .i64 el34) (by rfl)) ?_
          refine RL_pure (by exact wn0 rfl) (by rfl) (by rfl) (x_eql (by rfl) (by rfl)) ?_
          refine RL_pure (by exact wn0 rfl) (by rfl) (by rfl) (x_move (v := .bool (el34 == (-2048))) (by rfl)) ?_
          obtain ⟨b41, hmS, hm⟩ := bind_some hm
          refine RL_cut 7 (fun r' w' => Agr [(69, .bool b41), (1, .pointer (some ⟨b17, 0, none⟩)), (4, .int .i64 y55_1), (5, .int .i64 el34), (53, .slice A5 a0.Depth.length cp6), (54, .int .i64 (a0.Depth.length : Int)), (55, .int .i64 y55_1)] r' ∧ Sep ok w w' [.blk b17 25 [.int .i64 a0.W, .int .i64 a0.H, .slice A1 a0.Color.length cp2, .slice A5 a0.Depth.length cp6, .slice A9 a0.Item.length cp10, .slice A13 a0.Tri.length cp14]] [RE.rd k_Ar4_Int A1 cp2 a0.Color, RE.rd kInt A5 cp6 a0.Depth, RE.rd kInt A9 cp10 a0.Item, RE.rd kInt A13 cp14 a0.Tri]) ?_ ?_
          ·cases hbS : (el34 == (-2048))
           ·have hm := cond_f hbS hmS
            refine RL_cons (OpR_off (by exact wn2 rfl rfl rfl rfl) (by rfl) (by rfl) ?_)
            refine RL_cons (OpR_off (by exact wn2 rfl rfl rfl rfl) (by rfl) (by rfl) ?_)
            refine RL_cons (OpR_off (by exact wn2 rfl rfl rfl rfl) (by rfl) (by rfl) ?_)
            refine RL_cons (OpR_off (by exact wn2 rfl rfl rfl rfl) (by rfl) (by rfl) ?_)
            refine RL_cons (OpR_off (by exact wn2 rfl rfl rfl rfl) (by rfl) (by rfl) ?_)
            refine RL_cons (OpR_off (by exact wn2 rfl rfl rfl rfl) (by rfl) (by rfl) ?_)
            refine RL_pure (by exact wn0 rfl) (by rfl) (by rfl) (x_pick_f (v := .bool false) (by rfl) (by rfl)) ?_
            refine RL_nil ?_
            exact ⟨⟨congrArg Value.bool (Option.some.inj hm), rfl, rfl, rfl, rfl, rfl, rfl, trivial⟩, H⟩
           ·have hm := cond_t hbS hmS
            refine RL_pure (by exact wn1 rfl rfl rfl rfl) (by rfl) (by rfl) (x_fieldAddr fo25_4 (by rfl)) ?_
            refine RL_pure (by exact wn1 rfl rfl rfl rfl) (by rfl) (by rfl) (x_load (j := 4) (v := .slice A9 a0.Item.length cp10) sc23 (by rfl) (H.cells (i := 0) (by rfl)) (by rfl)) ?_
            refine RL_pure (by exact wn1 rfl rfl rfl rfl) (by rfl) (by rfl) (x_move (v := .int .i64 y55_1) (by rfl)) ?_
            obtain ⟨el42, h43, h44, he45, hm⟩ := idx_some hm
            obtain ⟨g47, o48, hA46⟩ := (H.rd (i := 2) (by rfl)).addr he45
            refine RL_pure (by exact wn1 rfl rfl rfl rfl) (by rfl) (by rfl) (x_indexAddr sl23 sz3 (by rfl) (by rfl) hA46 h43 h44) ?_
            refine RL_pure (by exact wn1 rfl rfl rfl rfl) (by rfl) (by rfl) (x_load (j := 0) (v := .int .i64 el42) sc3 (by rfl) (Rd.flatAt (n := 1) (H.rd (i := 2) (by rfl)) hA46 he45) (by rfl)) ?_
            refine RL_pure (by exact wn1 rfl rfl rfl rfl) (by rfl) (by rfl) (x_eql (by rfl) (by rfl)) ?_
            refine RL_pure (by exact wn0 rfl) (by rfl) (by rfl) (x_pick_t (v := .bool (el42 == (-1))) (by rfl) (by rfl)) ?_
            refine RL_nil ?_
            exact ⟨⟨congrArg Value.bool (Option.some.inj hm), rfl, rfl, rfl, rfl, rfl, rfl, trivial⟩, H⟩
          ·rintro r' w' ⟨hA, H⟩
           obtain ⟨r49, rfl⟩ := regen _ hA; clear hA
           obtain ⟨w50, rfl⟩ : ∃ W : World, W = w' := ⟨_, rfl⟩
           show RL _ _ _ _ _ _ _
           refine RL_pure (by exact wn0 rfl) (by rfl) (by rfl) (x_move (v := .bool b41) (by rfl)) ?_
           obtain ⟨b51, hmS, hm⟩ := bind_some hm
           refine RL_cut 7 (fun r' w' => Agr [(77, .bool b51), (1, .pointer (some ⟨b17, 0, none⟩)), (4, .int .i64 y55_1), (5, .int .i64 el34), (53, .slice A5 a0.Depth.length cp6), (54, .int .i64 (a0.Depth.length : Int)), (55, .int .i64 y55_1)] r' ∧ Sep ok w w' [.blk b17 25 [.int .i64 a0.W, .int .i64 a0.H, .slice A1 a0.Color.length cp2, .slice A5 a0.Depth.length cp6, .slice A9 a0.Item.length cp10, .slice A13 a0.Tri.length cp14]] [RE.rd k_Ar4_Int A1 cp2 a0.Color, RE.rd kInt A5 cp6 a0.Depth, RE.rd kInt A9 cp10 a0.Item, RE.rd kInt A13 cp14 a0.Tri]) ?_ ?_
           ·cases hbS : b41
            ·have hm := cond_f hbS hmS
             refine RL_cons (OpR_off (by exact wn2 rfl rfl rfl rfl) (by rfl) (by rfl) ?_)
             refine RL_cons (OpR_off (by exact wn2 rfl rfl rfl rfl) (by rfl) (by rfl) ?_)
             refine RL_cons (OpR_off (by exact wn2 rfl rfl rfl rfl) (by rfl) (by rfl) ?_)
             refine RL_cons (OpR_off (by exact wn2 rfl rfl rfl rfl) (by rfl) (by rfl) ?_)
             refine RL_cons (OpR_off (by exact wn2 rfl rfl rfl rfl) (by rfl) (by rfl) ?_)
             refine RL_cons (OpR_off (by exact wn2 rfl rfl rfl rfl) (by rfl) (by rfl) ?_)
             refine RL_pure (by exact wn0 rfl) (by rfl) (by rfl) (x_pick_f (v := .bool false) (by rfl) (by rfl)) ?_
             refine RL_nil ?_
             exact ⟨⟨congrArg Value.bool (Option.some.inj hm), rfl, rfl, rfl, rfl, rfl, rfl, trivial⟩, H⟩
            ·have hm := cond_t hbS hmS
             refine RL_pure (by exact wn1 rfl rfl rfl rfl) (by rfl) (by rfl) (x_fieldAddr fo25_5 (by rfl)) ?_
             refine RL_pure (by exact wn1 rfl rfl rfl rfl) (by rfl) (by rfl) (x_load (j := 5) (v := .slice A13 a0.Tri.length cp14) sc23 (by rfl) (H.cells (i := 0) (by rfl)) (by rfl)) ?_
             refine RL_pure (by exact wn1 rfl rfl rfl rfl) (by rfl) (by rfl) (x_move (v := .int .i64 y55_1) (by rfl)) ?_
             obtain ⟨el52, h53, h54, he55, hm⟩ := idx_some hm
             obtain ⟨g57, o58, hA56⟩ := (H.rd (i := 3) (by rfl)).addr he55
             refine RL_pure (by exact wn1 rfl rfl rfl rfl) (by rfl) (by rfl) (x_indexAddr sl23 sz3 (by rfl) (by rfl) hA56 h53 h54) ?_
             refine RL_pure (by exact wn1 rfl rfl rfl rfl) (by rfl) (by rfl) (x_load (j := 0) (v := .int .i64 el52) sc3 (by rfl) (Rd.flatAt (n := 1) (H.rd (i := 3) (by rfl)) hA56 he55) (by rfl)) ?_
             refine RL_pure (by exact wn1 rfl rfl rfl rfl) (by rfl) (by rfl) (x_eql (by rfl) (by rfl)) ?_
             refine RL_pure (by exact wn0 rfl) (by rfl) (by rfl) (x_pick_t (v := .bool (el52 == (-1))) (by rfl) (by rfl)) ?_
             refine RL_nil ?_
             exact ⟨⟨congrArg Value.bool (Option.some.inj hm), rfl, rfl, rfl, rfl, rfl, rfl, trivial⟩, H⟩
           ·rintro r' w' ⟨hA, H⟩
            obtain ⟨r59, rfl⟩ := regen _ hA; clear hA
            obtain ⟨w60, rfl⟩ : ∃ W : World, W = w' := ⟨_, rfl⟩
            show RL _ _ _ _ _ _ _
            refine RL_pure (by exact wn0 rfl) (by rfl) (by rfl) (x_assign (v := .bool b51) (by rfl)) ?_
            refine RL_nil ?_
            refine W_seq ?_
            refine W_draw [.free 0, .free 1, .free 2, .free 3, .free 4, .take 5, .free 6, .free 7, .take 8, .free 9, .take 10, .free 11, .free 12, .take 13, .run 14, .free 15, .free 16] (fun wS => Sep ok w wS [.blk b17 25 [.int .i64 a0.W, .int .i64 a0.H, .slice A1 a0.Color.length cp2, .slice A5 a0.Depth.length cp6, .slice A9 a0.Item.length cp10, .slice A13 a0.Tri.length cp14]] [RE.rd k_Ar4_Int A1 cp2 a0.Color, RE.rd kInt A5 cp6 a0.Depth, RE.rd kInt A9 cp10 a0.Item, RE.rd kInt A13 cp14 a0.Tri]) [] [0, 1, 2, 3, 4, 6, 7, 9, 11, 12, 15, 16] mixed0 (by kernel_rfl) (by kernel_rfl) (by kernel_rfl) (by rfl) (by exact H.drew) ?_
            obtain ⟨w61, hW⟩ : ∃ W : World, W = { w60 with drawn := w60.drawn + 1 } := ⟨_, rfl⟩
            rw [← hW]
            have H : Sep ok w w61 [.blk b17 25 [.int .i64 a0.W, .int .i64 a0.H, .slice A1 a0.Color.length cp2, .slice A5 a0.Depth.length cp6, .slice A9 a0.Item.length cp10, .slice A13 a0.Tri.length cp14]] [RE.rd k_Ar4_Int A1 cp2 a0.Color, RE.rd kInt A5 cp6 a0.Depth, RE.rd kInt A9 cp10 a0.Item, RE.rd kInt A13 cp14 a0.Tri] := by rw [hW]; exact H.drew
            clear hW
            refine PR_free (by rfl) (by rfl) (by rfl) (by exact wn0 rfl) (fun wS => (x_move (v := .bool b51) (by rfl))) ?_
            refine PR_free (by rfl) (by rfl) (by rfl) (by exact wn0 rfl) (fun wS => (x_not (by rfl))) ?_
            refine PR_free (by rfl) (by rfl) (by rfl) (by exact wn0 rfl) (fun wS => (x_move (v := .bool (!b51)) (by rfl))) ?_
            obtain ⟨b62, hmS, hm⟩ := bind_some hm
            refine PR_cut 14 (fun r' w' => Agr [(94, .bool b62), (1, .pointer (some ⟨b17, 0, none⟩)), (53, .slice A5 a0.Depth.length cp6), (54, .int .i64 (a0.Depth.length : Int)), (55, .int .i64 y55_1)] r' ∧ Sep ok w w' [.blk b17 25 [.int .i64 a0.W, .int .i64 a0.H, .slice A1 a0.Color.length cp2, .slice A5 a0.Depth.length cp6, .slice A9 a0.Item.length cp10, .slice A13 a0.Tri.length cp14]] [RE.rd k_Ar4_Int A1 cp2 a0.Color, RE.rd kInt A5 cp6 a0.Depth, RE.rd kInt A9 cp10 a0.Item, RE.rd kInt A13 cp14 a0.Tri]) ?_ ?_
            ·cases hbS : (!b51)
             ·have hm := cond_f hbS hmS
              refine PR_offF (by rfl) (by rfl) (by rfl) (by exact wn2 rfl rfl rfl rfl) ?_
              refine PR_offF (by rfl) (by rfl) (by rfl) (by exact wn2 rfl rfl rfl rfl) ?_
              refine PR_off (by rfl) (by rfl) (by rfl) (by exact wn2 rfl rfl rfl rfl) ?_
              refine PR_offF (by rfl) (by rfl) (by rfl) (by exact wn2 rfl rfl rfl rfl) ?_
              refine PR_offF (by rfl) (by rfl) (by rfl) (by exact wn2 rfl rfl rfl rfl) ?_
              refine PR_off (by rfl) (by rfl) (by rfl) (by exact wn2 rfl rfl rfl rfl) ?_
              refine PR_offF (by rfl) (by rfl) (by rfl) (by exact wn2 rfl rfl rfl rfl) ?_
              refine PR_off (by rfl) (by rfl) (by rfl) (by exact wn2 rfl rfl rfl rfl) ?_
              refine PR_offF (by rfl) (by rfl) (by rfl) (by exact wn2 rfl rfl rfl rfl) ?_
              refine PR_offF (by rfl) (by rfl) (by rfl) (by exact wn2 rfl rfl rfl rfl) ?_
              refine PR_off (by rfl) (by rfl) (by rfl) (by exact wn2 rfl rfl rfl rfl) ?_
              refine PR_run (by rfl) (OpR_off (by exact wn2 rfl rfl rfl rfl) (by rfl) (by rfl) ⟨H, ?_⟩)
              refine PR_offF (by rfl) (by rfl) (by rfl) (by exact wn2 rfl rfl rfl rfl) ?_
              refine PR_free (by rfl) (by rfl) (by rfl) (by exact wn0 rfl) (fun wS => (x_pick_f (v := .bool false) (by rfl) (by rfl))) ?_
              refine PR_nil ?_
              exact ⟨⟨congrArg Value.bool (Option.some.inj hm), rfl, rfl, rfl, rfl, trivial⟩, H⟩
             ·have hm := cond_t hbS hmS
              refine PR_free (by rfl) (by rfl) (by rfl) (by exact wn1 rfl rfl rfl rfl) (fun wS => (x_move (v := .int .i64 el34) (by rfl))) ?_
              refine PR_free (by rfl) (by rfl) (by rfl) (by exact wn1 rfl rfl rfl rfl) (fun wS => (x_fieldAddr fo25_4 (by rfl))) ?_
              refine PR_take (by rfl) (by rfl) (by rfl) (by exact wn1 rfl rfl rfl rfl) (fun wS (H : Sep ok w wS [.blk b17 25 [.int .i64 a0.W, .int .i64 a0.H, .slice A1 a0.Color.length cp2, .slice A5 a0.Depth.length cp6, .slice A9 a0.Item.length cp10, .slice A13 a0.Tri.length cp14]] [RE.rd k_Ar4_Int A1 cp2 a0.Color, RE.rd kInt A5 cp6 a0.Depth, RE.rd kInt A9 cp10 a0.Item, RE.rd kInt A13 cp14 a0.Tri]) => (x_load (j := 4) (v := .slice A9 a0.Item.length cp10) sc23 (by rfl) (H.cells (i := 0) (by rfl)) (by rfl))) ?_
              refine PR_free (by rfl) (by rfl) (by rfl) (by exact wn1 rfl rfl rfl rfl) (fun wS => (x_move (v := .int .i64 y55_1) (by rfl))) ?_
              obtain ⟨el63, h64, h65, he66, hm⟩ := idx_some hm
              obtain ⟨g68, o69, hA67⟩ := (H.rd (i := 2) (by rfl)).addr he66
              refine PR_free (by rfl) (by rfl) (by rfl) (by exact wn1 rfl rfl rfl rfl) (fun wS => (x_indexAddr sl23 sz3 (by rfl) (by rfl) hA67 h64 h65)) ?_
              refine PR_take (by rfl) (by rfl) (by rfl) (by exact wn1 rfl rfl rfl rfl) (fun wS (H : Sep ok w wS [.blk b17 25 [.int .i64 a0.W, .int .i64 a0.H, .slice A1 a0.Color.length cp2, .slice A5 a0.Depth.length cp6, .slice A9 a0.Item.length cp10, .slice A13 a0.Tri.length cp14]] [RE.rd k_Ar4_Int A1 cp2 a0.Color, RE.rd kInt A5 cp6 a0.Depth, RE.rd kInt A9 cp10 a0.Item, RE.rd kInt A13 cp14 a0.Tri]) => (x_load (j := 0) (v := .int .i64 el63) sc3 (by rfl) (Rd.flatAt (n := 1) (H.rd (i := 2) (by rfl)) hA67 he66) (by rfl))) ?_
              refine PR_free (by rfl) (by rfl) (by rfl) (by exact wn1 rfl rfl rfl rfl) (fun wS => (x_fieldAddr fo25_5 (by rfl))) ?_
              refine PR_take (by rfl) (by rfl) (by rfl) (by exact wn1 rfl rfl rfl rfl) (fun wS (H : Sep ok w wS [.blk b17 25 [.int .i64 a0.W, .int .i64 a0.H, .slice A1 a0.Color.length cp2, .slice A5 a0.Depth.length cp6, .slice A9 a0.Item.length cp10, .slice A13 a0.Tri.length cp14]] [RE.rd k_Ar4_Int A1 cp2 a0.Color, RE.rd kInt A5 cp6 a0.Depth, RE.rd kInt A9 cp10 a0.Item, RE.rd kInt A13 cp14 a0.Tri]) => (x_load (j := 5) (v := .slice A13 a0.Tri.length cp14) sc23 (by rfl) (H.cells (i := 0) (by rfl)) (by rfl))) ?_
              refine PR_free (by rfl) (by rfl) (by rfl) (by exact wn1 rfl rfl rfl rfl) (fun wS => (x_move (v := .int .i64 y55_1) (by rfl))) ?_
              obtain ⟨el70, h71, h72, he73, hm⟩ := idx_some hm
              obtain ⟨g75, o76, hA74⟩ := (H.rd (i := 3) (by rfl)).addr he73
              refine PR_free (by rfl) (by rfl) (by rfl) (by exact wn1 rfl rfl rfl rfl) (fun wS => (x_indexAddr sl23 sz3 (by rfl) (by rfl) hA74 h71 h72)) ?_
              refine PR_take (by rfl) (by rfl) (by rfl) (by exact wn1 rfl rfl rfl rfl) (fun wS (H : Sep ok w wS [.blk b17 25 [.int .i64 a0.W, .int .i64 a0.H, .slice A1 a0.Color.length cp2, .slice A5 a0.Depth.length cp6, .slice A9 a0.Item.length cp10, .slice A13 a0.Tri.length cp14]] [RE.rd k_Ar4_Int A1 cp2 a0.Color, RE.rd kInt A5 cp6 a0.Depth, RE.rd kInt A9 cp10 a0.Item, RE.rd kInt A13 cp14 a0.Tri]) => (x_load (j := 0) (v := .int .i64 el70) sc3 (by rfl) (Rd.flatAt (n := 1) (H.rd (i := 3) (by rfl)) hA74 he73) (by rfl))) ?_
              obtain ⟨v78, hv77, hm⟩ := bind_some hm
              refine PR_run (by rfl) (O_call (by exact wn1 rfl rfl rfl rfl) (by rfl) (by rfl) (x_callL (by rfl) (args := [.int .i64 el34, .int .i64 el63, .int .i64 el70]) (by rfl) (cf75 _ _)) (c75 okT K w61 el34 el63 el70  v78 hv77) ?_)
              rintro e w79 ⟨rfl, H2⟩
              have H : Sep ok w w79 [.blk b17 25 [.int .i64 a0.W, .int .i64 a0.H, .slice A1 a0.Color.length cp2, .slice A5 a0.Depth.length cp6, .slice A9 a0.Item.length cp10, .slice A13 a0.Tri.length cp14]] [RE.rd k_Ar4_Int A1 cp2 a0.Color, RE.rd kInt A5 cp6 a0.Depth, RE.rd kInt A9 cp10 a0.Item, RE.rd kInt A13 cp14 a0.Tri] := H.below H2.base
              clear H2
              refine ⟨_, rfl, H, ?_⟩
              show PR _ _ _ _ _ _ _ _
              refine PR_free (by rfl) (by rfl) (by rfl) (by exact wn1 rfl rfl rfl rfl) (fun wS => (x_not (by rfl))) ?_
              refine PR_free (by rfl) (by rfl) (by rfl) (by exact wn0 rfl) (fun wS => (x_pick_t (v := .bool (!v78)) (by rfl) (by rfl))) ?_
              refine PR_nil ?_
              exact ⟨⟨congrArg Value.bool (Option.some.inj hm), rfl, rfl, rfl, rfl, trivial⟩, H⟩
            ·rintro r' w' ⟨hA, H⟩
             obtain ⟨r80, rfl⟩ := regen _ hA; clear hA
             obtain ⟨w81, rfl⟩ : ∃ W : World, W = w' := ⟨_, rfl⟩
             show PR _ _ _ _ _ _ _ _
             refine PR_nil ?_
             refine W_cond (by rfl) (fun hb => ?_) (fun hb => ?_)
             ·have hm := cond_t hb hm
              refine W_seq ?_
              refine W_region ?_
              refine RL_pure (by exact wn0 rfl) (by rfl) (by rfl) (x_assign (v := .int .i64 8) (by rfl)) ?_
              refine RL_nil ?_
              refine W_ret ?_
              obtain rfl := Option.some.inj hm
              exact ⟨[.int .i64 8], (.tmp (by rfl) rfl), rfl, H.none_⟩
             ·have hm := cond_f hb hm
              refine W_skip ?_
              refine W_region ?_
              obtain ⟨x82, ex82, qx82, ux82, hm⟩ := ck_some hm
              refine RL_pure (by exact wn0 rfl) (by rfl) (by rfl) (x_add (by rfl) (by rfl) ux82) ?_
              refine RL_pure (by exact wn0 rfl) (by rfl) (by rfl) (x_move (v := .int .i64 x82) (by rfl)) ?_
              refine RL_nil ?_
              subst hrec1
              exact ⟨k1, Nat.lt_succ_self k1, x82, hm, ⟨rfl, rfl, rfl, rfl, trivial⟩, H⟩
         ·have hm := cond_f hb hm
          refine W_exit ?_
          refine W_seq ?_
          refine W_region ?_
          refine RL_pure (by exact wn0 rfl) (by rfl) (by rfl) (x_assign (v := .int .i64 0) (by rfl)) ?_
          refine RL_nil ?_
          refine W_ret ?_
          obtain rfl := Option.some.inj hm
          exact ⟨[.int .i64 0], (.tmp (by rfl) rfl), rfl, H.none_⟩
end Go.Proofs.YtobkigllalbkiaaV.M

/- Frames, in plain Lean: what 'Check', 'Put', 'Lay' and 'Same' answer. -/
set_option linter.unusedVariables false
set_option linter.unusedSimpArgs false
namespace Go.Proofs.YtobkigllalbkiaaV.M
/-- May a pixel's depth, item and triangle be? -/
def some1 (d it tr : Int) : Prop := -1024 ≤ d ∧ d ≤ 66560 ∧ 0 ≤ it ∧ it < 256 ∧ 0 ≤ tr ∧ tr < 64
def pixOK (d it tr : Int) : Prop := (d = -2048 ∧ it = -1 ∧ tr = -1) ∨ some1 d it tr
instance (d it tr : Int) : Decidable (some1 d it tr) := by unfold some1; infer_instance
instance (d it tr : Int) : Decidable (pixOK d it tr) := by unfold pixOK; infer_instance
theorem m70_eq (K : Nat) (d : Int) : ∃ b, m70 K d = some b ∧ (b = true ↔ -1024 ≤ d ∧ d ≤ 66560) := by
  unfold m70
  by_cases h1 : -1024 ≤ d
  · refine ⟨decide (d ≤ 66560), by rw [decide_eq_true h1]; rfl, ?_⟩
    simp [h1]
  · exact ⟨false, by rw [decide_eq_false h1]; rfl, by simp; omega⟩
theorem m75_eq (K : Nat) (d it tr : Int) : ∃ b, m75 K d it tr = some b ∧ (b = true ↔ some1 d it tr) := by
  obtain ⟨b, e, hb⟩ := m70_eq K d
  unfold m75 some1
  rw [e, Option.bind_some]
  cases b with
  | false =>
    refine ⟨false, rfl, ?_⟩
    constructor
    · intro h; cases h
    · rintro ⟨h1, h2, _⟩; exact absurd (hb.2 ⟨h1, h2⟩) (by simp)
  | true =>
    have hd := hb.1 rfl
    rw [cond_true, Option.bind_some]
    by_cases h1 : 0 ≤ it
    · rw [decide_eq_true h1, cond_true, Option.bind_some]
      by_cases h2 : it < 256
      · rw [decide_eq_true h2, cond_true, Option.bind_some]
        by_cases h3 : 0 ≤ tr
        · rw [decide_eq_true h3, cond_true, Option.bind_some]
          refine ⟨decide (tr < 64), rfl, ?_⟩
          simp [hd, h1, h2, h3]
        · rw [decide_eq_false h3]; exact ⟨false, rfl, by simp; omega⟩
      · rw [decide_eq_false h2]; exact ⟨false, rfl, by simp; omega⟩
    · rw [decide_eq_false h1]; exact ⟨false, rfl, by simp; omega⟩
/-- A frame's pixels, one by one. -/
theorem m33_loop {K : Nat} {f : S_Frame} {n : Nat} (hd : f.Depth.length = n) (hi : f.Item.length = n) (ht : f.Tri.length = n) (hn : n ≤ 100000) : ∀ (k i : Nat), i ≤ n → n < i + k →
    (∀ (j : Nat) (d it tr : Int), j < i → f.Depth[j]? = some d → f.Item[j]? = some it → f.Tri[j]? = some tr → pixOK d it tr) →
    ∃ e, m33_l1 K f k i = some e ∧ (e = 0 ∨ e = 8) ∧ (e = 0 ↔ ∀ (j : Nat) (d it tr : Int), f.Depth[j]? = some d → f.Item[j]? = some it → f.Tri[j]? = some tr → pixOK d it tr) := by
  intro k
  induction k with
  | zero => intro i h1 h2; omega
  | succ k ih =>
    intro i h1 h2 hpre
    show ∃ e, m33_l1b K f (m33_l1 K f k) i = some e ∧ _
    unfold m33_l1b
    by_cases hlt : i < n
    · have h3 : (i : Int) < (f.Depth.length : Int) := by omega
      have g1 : f.Depth[i]? = some (f.Depth[i]'(by omega)) := List.getElem?_eq_getElem (by omega)
      have g2 : f.Item[i]? = some (f.Item[i]'(by omega)) := List.getElem?_eq_getElem (by omega)
      have g3 : f.Tri[i]? = some (f.Tri[i]'(by omega)) := List.getElem?_eq_getElem (by omega)
      generalize f.Depth[i]'(by omega) = d at g1
      generalize f.Item[i]'(by omega) = it at g2
      generalize f.Tri[i]'(by omega) = tr at g3
      rw [decide_eq_true h3, cond_true, idx_nat g1]
      have key : ∀ (R : Bool → Option Int), ((bif (d == (-2048)) then (idx f.Item (i : Int) fun el42 => some (el42 == (-1))) else some false).bind fun b41 => ((bif b41 then (idx f.Tri (i : Int) fun el52 => some (el52 == (-1))) else some false).bind fun b51 => ((bif (!b51) then (idx f.Item (i : Int) fun el63 => (idx f.Tri (i : Int) fun el70 => ((m75 K d el63 el70).bind fun v78 => some (!v78)))) else some false).bind R))) = R (decide (¬ pixOK d it tr)) := by
        intro R
        obtain ⟨b, eb, hb⟩ := m75_eq K d it tr
        rw [idx_nat g2, idx_nat g3, idx_nat g2]
        simp only [idx_nat g3, eb, Option.bind_some]
        unfold pixOK
        by_cases q1 : d = -2048
        · by_cases q2 : it = -1
          · by_cases q3 : tr = -1
            · simp [q1, q2, q3]
            · have : ¬ some1 d it tr := by unfold some1; omega
              have hbf : b = false := by cases b; rfl; exact absurd (hb.1 rfl) this
              subst hbf
              rw [show (d == (-2048)) = true by simp [q1], show (it == (-1)) = true by simp [q2], show (tr == (-1)) = false by simp [q3]]
              simp [q3, this]
          · have : ¬ some1 d it tr := by unfold some1; omega
            have hbf : b = false := by cases b; rfl; exact absurd (hb.1 rfl) this
            subst hbf
            rw [show (d == (-2048)) = true by simp [q1], show (it == (-1)) = false by simp [q2]]
            simp [q2, this]
        · rw [show (d == (-2048)) = false by simp [q1]]
          cases b with
          | true => have := hb.1 rfl; simp [q1, this]
          | false =>
            have : ¬ some1 d it tr := fun h => absurd (hb.2 h) (by simp)
            simp [q1, this]
      rw [key]
      by_cases hp : pixOK d it tr
      · rw [decide_eq_false (fun h => h hp), cond_false, cast_succ, ck_in (by omega) (by omega)]
        refine ih (i + 1) (by omega) (by omega) fun j d' it' tr' hj k1 k2 k3 => ?_
        by_cases hji : j = i
        · subst hji
          rw [g1] at k1; rw [g2] at k2; rw [g3] at k3
          cases k1; cases k2; cases k3; exact hp
        · exact hpre j d' it' tr' (by omega) k1 k2 k3
      · rw [decide_eq_true hp, cond_true]
        refine ⟨8, rfl, .inr rfl, ?_⟩
        constructor
        · intro h; cases h
        · intro h; exact absurd (h i d it tr g1 g2 g3) hp
    · have h3 : ¬ (i : Int) < (f.Depth.length : Int) := by omega
      rw [decide_eq_false h3, cond_false]
      refine ⟨0, rfl, .inl rfl, ?_⟩
      simp only [true_iff]
      intro j d it tr k1 k2 k3
      have := (List.getElem?_eq_some_iff.1 k1).1
      exact hpre j d it tr (by omega) k1 k2 k3
/-- May a frame be? -/
structure FOK (f : S_Frame) (w h : Nat) : Prop where
  W : f.W = w
  H : f.H = h
  w1 : 1 ≤ w
  w64 : w ≤ 64
  h1 : 1 ≤ h
  h64 : h ≤ 64
  c : f.Color.length = w * h
  d : f.Depth.length = w * h
  i : f.Item.length = w * h
  t : f.Tri.length = w * h
  pix : ∀ (j : Nat) (d it tr : Int), f.Depth[j]? = some d → f.Item[j]? = some it → f.Tri[j]? = some tr → pixOK d it tr
theorem m33_eq {K : Nat} (hK : 10000 ≤ K) (f : S_Frame) : ∃ e, m33 K f = some e ∧ (e = 0 ∨ e = 8) ∧ (e = 0 ↔ ∃ w h, FOK f w h) := by
  have no : ∀ {e : Int}, e = 8 → ¬ (∃ w h, FOK f w h) → (e = 0 ↔ ∃ w h, FOK f w h) := fun he hn => by subst he; constructor; intro h; cases h; intro h; exact absurd h hn
  unfold m33
  by_cases c1 : mn f.W f.H < 1
  · refine ⟨8, by rw [decide_eq_true c1]; rfl, .inr rfl, no rfl ?_⟩
    rintro ⟨w, h, q⟩
    rw [mn_eq, q.W, q.H] at c1
    have := q.w1; have := q.h1; omega
  by_cases c2 : 64 < mx f.W f.H
  · refine ⟨8, by rw [decide_eq_false c1, decide_eq_true c2]; rfl, .inr rfl, no rfl ?_⟩
    rintro ⟨w, h, q⟩
    rw [mx_eq, q.W, q.H] at c2
    have := q.w64; have := q.h64; omega
  rw [mn_eq] at c1
  rw [mx_eq] at c2
  obtain ⟨w, hw⟩ : ∃ w : Nat, f.W = (w : Int) := ⟨f.W.toNat, by omega⟩
  obtain ⟨h, hh⟩ : ∃ h : Nat, f.H = (h : Int) := ⟨f.H.toNat, by omega⟩
  have w1 : 1 ≤ w := by omega
  have w64 : w ≤ 64 := by omega
  have h1 : 1 ≤ h := by omega
  have h64 : h ≤ 64 := by omega
  have hp : w * h ≤ 4096 := Nat.mul_le_mul w64 h64
  have e1 : (w : Int) * (h : Int) = ((w * h : Nat) : Int) := by push_cast; rfl
  have uniq : ∀ {a b : Nat}, FOK f a b → a * b = w * h := fun {a b} q => by
    have q1 := q.W
    have q2 := q.H
    have e1 : a = w := by omega
    have e2 : b = h := by omega
    subst e1; subst e2; rfl
  rw [decide_eq_false (by rw [mn_eq]; exact c1), cond_false, decide_eq_false (by rw [mx_eq]; exact c2), Option.bind_some, cond_false, hw, hh, e1, ck_in (by omega) (by omega)]
  by_cases l1 : f.Color.length = w * h
  · by_cases l2 : f.Depth.length = w * h
    · by_cases l3 : f.Item.length = w * h
      · by_cases l4 : f.Tri.length = w * h
        · obtain ⟨e, k1, k2, k3⟩ := m33_loop (K := K) (f := f) l2 l3 l4 (by omega) K 0 (by omega) (by omega) (fun j d it tr hj => absurd hj (Nat.not_lt_zero _))
          refine ⟨e, ?_, k2, ?_⟩
          · rw [l1, l2, l3, l4]
            simp only [bne_self_eq_false, cond_false, Option.bind_some]
            exact k1
          · rw [k3]
            exact ⟨fun q => ⟨w, h, hw, hh, w1, w64, h1, h64, l1, l2, l3, l4, q⟩, fun ⟨_, _, q⟩ => q.pix⟩
        · refine ⟨8, ?_, .inr rfl, no rfl fun ⟨a, b, q⟩ => l4 (by rw [← uniq q]; exact q.t)⟩
          rw [l1, l2, l3, show ((f.Tri.length : Int) != ((w * h : Nat) : Int)) = true by simp; omega]
          simp
      · refine ⟨8, ?_, .inr rfl, no rfl fun ⟨a, b, q⟩ => l3 (by rw [← uniq q]; exact q.i)⟩
        rw [l1, l2, show ((f.Item.length : Int) != ((w * h : Nat) : Int)) = true by simp; omega]
        simp
    · refine ⟨8, ?_, .inr rfl, no rfl fun ⟨a, b, q⟩ => l2 (by rw [← uniq q]; exact q.d)⟩
      rw [l1, show ((f.Depth.length : Int) != ((w * h : Nat) : Int)) = true by simp; omega]
      simp
  · refine ⟨8, ?_, .inr rfl, no rfl fun ⟨a, b, q⟩ => l1 (by rw [← uniq q]; exact q.c)⟩
    rw [show ((f.Color.length : Int) != ((w * h : Nat) : Int)) = true by simp; omega]
    simp
end Go.Proofs.YtobkigllalbkiaaV.M

/- A plain Lean function that answers as the Go function does (none: not told), and the proof that a call answers so. Written by program. -/
set_option linter.unusedVariables false
namespace Go.Proofs.YtobkigllalbkiaaV.M
open Go.RowKit Go.Proofs.YtobkigllalbkiaaV

/-- slices.Clone -/
def m59 (K : Nat) (a0 : List Int) : Option (List Int) := apds 8 ([] : List Int) a0 fun l => some l
set_option maxRecDepth 100000 in
set_option maxHeartbeats 4000000 in
theorem c59 (ok : Okp) (K : Nat) (w : World) (a0 : List Int) (A1 : Option Addr) (c2 : Nat) (hR3 : Rd kInt w ok A1 c2 a0) (res : List Int) (hm : m59 K a0 = some res) :
  Calls Try.prog 59 #[.slice A1 a0.length c2] w (fun e w' => ∃ (A0_ : Option Addr) (c0_ : Nat) (sA0_ : List Value), e = .returned (tup [.slice A0_ res.length c0_]) ∧ Sep ok w w' [.row (.slice A0_ res.length c0_) 3 kInt.sz res.length sA0_] [RE.chunks kInt sA0_ res]) := by
 refine calls_W (args := [.slice A1 a0.length c2]) Try.func59 rfl Try.ntmps59 Try.results59 rfl fun r hr => ?_
 obtain ⟨r1, rfl⟩ := regen (r := r) [(0, .slice A1 a0.length c2)] ⟨hr 0 _ rfl, trivial⟩
 have H : Sep ok w w [] [RE.rd kInt A1 c2 a0] := Sep.arg (Sep.start ok w) (re := RE.rd kInt A1 c2 a0) rfl rfl hR3
 unfold m59 at hm
 obtain ⟨ys, hys, hbb, hm⟩ := apds_some hm
 obtain rfl := Option.some.inj hm
 refine W_seq ?_
 refine W_region ?_
 refine RL_pure (by exact wn0 rfl) (by rfl) (by rfl) (x_assign (v := .slice none 0 0) (by rfl)) ?_
 refine RL_nil ?_
 refine W_seq ?_
 refine W_seq ?_
 refine W_region ?_
 refine RL_pure (by exact wn0 rfl) (by rfl) (by rfl) (x_move (v := .slice A1 a0.length c2) (by rfl)) ?_
 refine RL_pure (by exact wn0 rfl) (by rfl) (by rfl) (x_eqnil sl23 (by rfl)) ?_
 refine RL_nil ?_
 refine W_cond (by rfl) (fun hb => ?_) (fun hb => ?_)
 ·have hnil : a0 = [] := by
   by_cases hne : a0 = []
   ·exact hne
   ·obtain ⟨g, o, hA, _⟩ := hR3.2.2 hne
    rw [hA] at hb; cases hb
  refine W_seq ?_
  refine W_region ?_
  refine RL_pure (by exact wn0 rfl) (by rfl) (by rfl) (x_assign (v := .slice none 0 0) (by rfl)) ?_
  refine RL_nil ?_
  refine W_ret ?_
  subst hnil
  obtain rfl : [] = ys := hys
  have H := H.nilRowK 3 kInt
  exact ⟨[.slice none 0 0], (.tmp (by rfl) rfl), none, 0, [], rfl, H.pick [1]⟩
 ·refine W_skip ?_
  refine W_seq ?_
  refine W_region ?_
  refine RL_cons (O_buildSlice0 (D := kInt) (by exact wn0 rfl) (by rfl) sl23 sz3 H (fun w4 b5 (H : Sep ok w w4 [.row (.slice (some ⟨b5, 0, none⟩) 0 0) 3 kInt.sz 0 []] [RE.rd kInt A1 c2 a0, RE.chunks kInt [] []]) => ?_))
  refine RL_pure (by exact wn0 rfl) (by rfl) (by rfl) (x_move (v := .slice A1 a0.length c2) (by rfl)) ?_
  refine RL_cons (O_appendAll (D := kInt) (xs := ([] : List Int)) (i := 0) (j := 1) (zs := a0) (by exact wn0 rfl) (by rfl) (by rfl) (by rfl) H (by rfl) (by rfl) (H.rd (i := 0) (by rfl)) hys sl23 sz3 by3 ze3 (by rfl) (by rfl) hbb (by rfl) (fun w6 A7 c8 cs9 (H : Sep ok w w6 [.row (.slice A7 ys.length c8) 3 kInt.sz ys.length cs9] [RE.rd kInt A1 c2 a0, RE.chunks kInt cs9 ys]) => ?_))
  refine RL_pure (by exact wn0 rfl) (by rfl) (by rfl) (x_assign (v := .slice A7 ys.length c8) (by rfl)) ?_
  refine RL_nil ?_
  refine W_ret ?_
  exact ⟨[.slice A7 ys.length c8], (.tmp (by rfl) rfl), A7, c8, cs9, rfl, H.pick [1]⟩
end Go.Proofs.YtobkigllalbkiaaV.M

/- A plain Lean function that answers as the Go function does (none: not told), and the proof that a call answers so. Written by program. -/
set_option linter.unusedVariables false
namespace Go.Proofs.YtobkigllalbkiaaV.M
open Go.RowKit Go.Proofs.YtobkigllalbkiaaV
/-- diorama/pyramid.Build -/
def m15 (K : Nat) (a0 : S_Frame) : Option (S_Pyramid × Int) :=
 ((m33 K a0).bind fun v22 => (bif (v22 != 0) then some ((⟨[]⟩ : S_Pyramid), v22) else ((m59 K a0.Depth).bind fun v28 => ((m58 K (⟨a0.W, a0.H, v28⟩ : S_Level)).bind fun v36 => some (v36, 0)))))
set_option maxRecDepth 100000 in
set_option maxHeartbeats 4000000 in
theorem c15 (ok : Okp) (K : Nat) (w : World) (a0 : S_Frame) (A1 : Option Addr) (cp2 : Nat) (A5 : Option Addr) (cp6 : Nat) (A9 : Option Addr) (cp10 : Nat) (A13 : Option Addr) (cp14 : Nat) (hR3 : Rd k_Ar4_Int w ok A1 cp2 a0.Color) (hR7 : Rd kInt w ok A5 cp6 a0.Depth) (hR11 : Rd kInt w ok A9 cp10 a0.Item) (hR15 : Rd kInt w ok A13 cp14 a0.Tri) (res : S_Pyramid × Int) (hm : m15 K a0 = some res) :
  Calls Try.prog 15 #[.agg #[.int .i64 a0.W, .int .i64 a0.H, .slice A1 a0.Color.length cp2, .slice A5 a0.Depth.length cp6, .slice A9 a0.Item.length cp10, .slice A13 a0.Tri.length cp14]] w (fun e w' => ∃ (A0_ : Option Addr) (c0_ : Nat), e = .returned (tup [.agg #[.slice A0_ res.1.Levels.length c0_], .int .i64 res.2]) ∧ Sep ok w w' [] [RE.rd k_Level A0_ c0_ res.1.Levels]) := by
 refine calls_W (args := [.agg #[.int .i64 a0.W, .int .i64 a0.H, .slice A1 a0.Color.length cp2, .slice A5 a0.Depth.length cp6, .slice A9 a0.Item.length cp10, .slice A13 a0.Tri.length cp14]]) Try.func15 rfl Try.ntmps15 Try.results15 rfl fun r hr => ?_
 obtain ⟨r1, rfl⟩ := regen (r := r) [(0, .agg #[.int .i64 a0.W, .int .i64 a0.H, .slice A1 a0.Color.length cp2, .slice A5 a0.Depth.length cp6, .slice A9 a0.Item.length cp10, .slice A13 a0.Tri.length cp14])] ⟨hr 0 _ rfl, trivial⟩
 have H : Sep ok w w [] [RE.rd k_Ar4_Int A1 cp2 a0.Color, RE.rd kInt A5 cp6 a0.Depth, RE.rd kInt A9 cp10 a0.Item, RE.rd kInt A13 cp14 a0.Tri] := Sep.arg (Sep.arg (Sep.arg (Sep.arg (Sep.start ok w) (re := RE.rd k_Ar4_Int A1 cp2 a0.Color) rfl rfl hR3) (re := RE.rd kInt A5 cp6 a0.Depth) rfl rfl hR7) (re := RE.rd kInt A9 cp10 a0.Item) rfl rfl hR11) (re := RE.rd kInt A13 cp14 a0.Tri) rfl rfl hR15
 unfold m15 at hm
 refine W_seq ?_
 refine W_region ?_
 refine RL_cons (O_box (by exact wn0 rfl) (by rfl) (by rfl) (by rfl) H (fun w18 b17 (H : Sep ok w w18 [.blk b17 25 [.int .i64 a0.W, .int .i64 a0.H, .slice A1 a0.Color.length cp2, .slice A5 a0.Depth.length cp6, .slice A9 a0.Item.length cp10, .slice A13 a0.Tri.length cp14]] [RE.rd k_Ar4_Int A1 cp2 a0.Color, RE.rd kInt A5 cp6 a0.Depth, RE.rd kInt A9 cp10 a0.Item, RE.rd kInt A13 cp14 a0.Tri]) => ?_))
 refine RL_cons (O_alloc (by exact wn0 rfl) (by rfl) ze28 (by rfl) H (fun w20 b19 (H : Sep ok w w20 [.blk b17 25 [.int .i64 a0.W, .int .i64 a0.H, .slice A1 a0.Color.length cp2, .slice A5 a0.Depth.length cp6, .slice A9 a0.Item.length cp10, .slice A13 a0.Tri.length cp14], .blk b19 28 [.slice none 0 0]] [RE.rd k_Ar4_Int A1 cp2 a0.Color, RE.rd kInt A5 cp6 a0.Depth, RE.rd kInt A9 cp10 a0.Item, RE.rd kInt A13 cp14 a0.Tri]) => ?_))
 refine RL_pure (by exact wn0 rfl) (by rfl) (by rfl) (x_assign (v := .int .i64 0) (by rfl)) ?_
 refine RL_nil ?_
 refine W_seq ?_
 refine W_seq ?_
 refine W_region ?_
 refine RL_pure (by exact wn0 rfl) (by rfl) (by rfl) (x_loadA (j := 0) (vs := [.int .i64 a0.W, .int .i64 a0.H, .slice A1 a0.Color.length cp2, .slice A5 a0.Depth.length cp6, .slice A9 a0.Item.length cp10, .slice A13 a0.Tri.length cp14]) ag25 (by rfl) (H.cells (i := 0) (by rfl)) (by rfl) (by rfl)) ?_
 obtain ⟨v22, hv21, hm⟩ := bind_some hm
 refine RL_cons (O_call (by exact wn0 rfl) (by rfl) (by rfl) (x_callL (by rfl) (args := [.agg #[.int .i64 a0.W, .int .i64 a0.H, .slice A1 a0.Color.length cp2, .slice A5 a0.Depth.length cp6, .slice A9 a0.Item.length cp10, .slice A13 a0.Tri.length cp14]]) (by rfl) (cf33 _ _)) (c33 okT K w20 a0 A1 cp2 A5 cp6 A9 cp10 A13 cp14 (H.rd (i := 0) (by rfl)).any (H.rd (i := 1) (by rfl)).any (H.rd (i := 2) (by rfl)).any (H.rd (i := 3) (by rfl)).any v22 hv21) ?_)
 rintro e w23 ⟨rfl, H2⟩
 have H : Sep ok w w23 [.blk b17 25 [.int .i64 a0.W, .int .i64 a0.H, .slice A1 a0.Color.length cp2, .slice A5 a0.Depth.length cp6, .slice A9 a0.Item.length cp10, .slice A13 a0.Tri.length cp14], .blk b19 28 [.slice none 0 0]] [RE.rd k_Ar4_Int A1 cp2 a0.Color, RE.rd kInt A5 cp6 a0.Depth, RE.rd kInt A9 cp10 a0.Item, RE.rd kInt A13 cp14 a0.Tri] := H.below H2.base
 clear H2
 refine ⟨_, rfl, ?_⟩
 show RL _ _ _ _ _ _ _
 refine RL_pure (by exact wn0 rfl) (by rfl) (by rfl) (x_assign (v := .int .i64 v22) (by rfl)) ?_
 refine RL_nil ?_
 refine W_seq ?_
 refine W_region ?_
 refine RL_pure (by exact wn0 rfl) (by rfl) (by rfl) (x_move (v := .int .i64 v22) (by rfl)) ?_
 refine RL_pure (by exact wn0 rfl) (by rfl) (by rfl) (x_neq (by rfl) (by rfl)) ?_
 refine RL_nil ?_
 refine W_cond (by rfl) (fun hb => ?_) (fun hb => ?_)
 ·have hm := cond_t hb hm
  refine W_seq ?_
  refine W_region ?_
  refine RL_pure (by exact wn0 rfl) (by rfl) (by rfl) (x_build (vs := []) (cs := [.slice none 0 0]) (by rfl) (by kernel_rfl)) ?_
  refine RL_pure (by exact wn0 rfl) (by rfl) (by rfl) (x_move (v := .int .i64 v22) (by rfl)) ?_
  refine RL_cons (O_store (i := 1) (off := 0) (by exact wn0 rfl) (by rfl) (by rfl) H (by rfl) (vs := [.slice none 0 0]) (by rfl) sz28 (by rfl) (by rfl) (by rfl) (fun w24 (H : Sep ok w w24 [.blk b17 25 [.int .i64 a0.W, .int .i64 a0.H, .slice A1 a0.Color.length cp2, .slice A5 a0.Depth.length cp6, .slice A9 a0.Item.length cp10, .slice A13 a0.Tri.length cp14], .blk b19 28 [.slice none 0 0]] [RE.rd k_Ar4_Int A1 cp2 a0.Color, RE.rd kInt A5 cp6 a0.Depth, RE.rd kInt A9 cp10 a0.Item, RE.rd kInt A13 cp14 a0.Tri]) => ?_))
  refine RL_pure (by exact wn0 rfl) (by rfl) (by rfl) (x_assign (v := .int .i64 v22) (by rfl)) ?_
  refine RL_nil ?_
  refine W_ret ?_
  have H : Sep ok w w24 [.blk b17 25 [.int .i64 a0.W, .int .i64 a0.H, .slice A1 a0.Color.length cp2, .slice A5 a0.Depth.length cp6, .slice A9 a0.Item.length cp10, .slice A13 a0.Tri.length cp14], .blk b19 28 [.slice none 0 0]] [RE.rd k_Ar4_Int A1 cp2 a0.Color, RE.rd kInt A5 cp6 a0.Depth, RE.rd kInt A9 cp10 a0.Item, RE.rd kInt A13 cp14 a0.Tri, RE.rd k_Level none 0 ([])] := Sep.also H (re := RE.rd k_Level none 0 ([])) (Rd.nil (by decide))
  obtain rfl := Option.some.inj hm
  exact ⟨[.agg #[.slice none 0 0], .int .i64 v22], (.cellA (by rfl) ag28 (H.cells (i := 1) (by rfl)) (by rfl) (.tmp (by rfl) rfl)), none, 0, rfl, (H.forgetAll).pick [4]⟩
 ·have hm := cond_f hb hm
  refine W_skip ?_
  refine W_seq ?_
  refine W_draw [.free 0, .take 1, .free 2, .take 3, .free 4, .take 5, .run 6, .free 7, .run 8, .tail 9, .free 10] (fun wS => Sep ok w wS [.blk b17 25 [.int .i64 a0.W, .int .i64 a0.H, .slice A1 a0.Color.length cp2, .slice A5 a0.Depth.length cp6, .slice A9 a0.Item.length cp10, .slice A13 a0.Tri.length cp14], .blk b19 28 [.slice none 0 0]] [RE.rd k_Ar4_Int A1 cp2 a0.Color, RE.rd kInt A5 cp6 a0.Depth, RE.rd kInt A9 cp10 a0.Item, RE.rd kInt A13 cp14 a0.Tri]) [9] [0, 2, 4, 7, 10] mixed0 (by kernel_rfl) (by kernel_rfl) (by kernel_rfl) (by rfl) (by exact H.drew) ?_
  obtain ⟨w26, hW⟩ : ∃ W : World, W = { w23 with drawn := w23.drawn + 1 } := ⟨_, rfl⟩
  rw [← hW]
  have H : Sep ok w w26 [.blk b17 25 [.int .i64 a0.W, .int .i64 a0.H, .slice A1 a0.Color.length cp2, .slice A5 a0.Depth.length cp6, .slice A9 a0.Item.length cp10, .slice A13 a0.Tri.length cp14], .blk b19 28 [.slice none 0 0]] [RE.rd k_Ar4_Int A1 cp2 a0.Color, RE.rd kInt A5 cp6 a0.Depth, RE.rd kInt A9 cp10 a0.Item, RE.rd kInt A13 cp14 a0.Tri] := by rw [hW]; exact H.drew
  clear hW
  refine PR_free (by rfl) (by rfl) (by rfl) (by exact wn0 rfl) (fun wS => (x_fieldAddr fo25_0 (by rfl))) ?_
  refine PR_take (by rfl) (by rfl) (by rfl) (by exact wn0 rfl) (fun wS (H : Sep ok w wS [.blk b17 25 [.int .i64 a0.W, .int .i64 a0.H, .slice A1 a0.Color.length cp2, .slice A5 a0.Depth.length cp6, .slice A9 a0.Item.length cp10, .slice A13 a0.Tri.length cp14], .blk b19 28 [.slice none 0 0]] [RE.rd k_Ar4_Int A1 cp2 a0.Color, RE.rd kInt A5 cp6 a0.Depth, RE.rd kInt A9 cp10 a0.Item, RE.rd kInt A13 cp14 a0.Tri]) => (x_load (j := 0) (v := .int .i64 a0.W) sc3 (by rfl) (H.cells (i := 0) (by rfl)) (by rfl))) ?_
  refine PR_free (by rfl) (by rfl) (by rfl) (by exact wn0 rfl) (fun wS => (x_fieldAddr fo25_1 (by rfl))) ?_
  refine PR_take (by rfl) (by rfl) (by rfl) (by exact wn0 rfl) (fun wS (H : Sep ok w wS [.blk b17 25 [.int .i64 a0.W, .int .i64 a0.H, .slice A1 a0.Color.length cp2, .slice A5 a0.Depth.length cp6, .slice A9 a0.Item.length cp10, .slice A13 a0.Tri.length cp14], .blk b19 28 [.slice none 0 0]] [RE.rd k_Ar4_Int A1 cp2 a0.Color, RE.rd kInt A5 cp6 a0.Depth, RE.rd kInt A9 cp10 a0.Item, RE.rd kInt A13 cp14 a0.Tri]) => (x_load (j := 1) (v := .int .i64 a0.H) sc3 (by rfl) (H.cells (i := 0) (by rfl)) (by rfl))) ?_
  refine PR_free (by rfl) (by rfl) (by rfl) (by exact wn0 rfl) (fun wS => (x_fieldAddr fo25_3 (by rfl))) ?_
  refine PR_take (by rfl) (by rfl) (by rfl) (by exact wn0 rfl) (fun wS (H : Sep ok w wS [.blk b17 25 [.int .i64 a0.W, .int .i64 a0.H, .slice A1 a0.Color.length cp2, .slice A5 a0.Depth.length cp6, .slice A9 a0.Item.length cp10, .slice A13 a0.Tri.length cp14], .blk b19 28 [.slice none 0 0]] [RE.rd k_Ar4_Int A1 cp2 a0.Color, RE.rd kInt A5 cp6 a0.Depth, RE.rd kInt A9 cp10 a0.Item, RE.rd kInt A13 cp14 a0.Tri]) => (x_load (j := 3) (v := .slice A5 a0.Depth.length cp6) sc23 (by rfl) (H.cells (i := 0) (by rfl)) (by rfl))) ?_
  obtain ⟨v28, hv27, hm⟩ := bind_some hm
  refine PR_run (by rfl) (O_call (by exact wn0 rfl) (by rfl) (by rfl) (x_callL (by rfl) (args := [.slice A5 a0.Depth.length cp6]) (by rfl) (cf59 _ _)) (c59 (okS ok w [.blk b17 25 [.int .i64 a0.W, .int .i64 a0.H, .slice A1 a0.Color.length cp2, .slice A5 a0.Depth.length cp6, .slice A9 a0.Item.length cp10, .slice A13 a0.Tri.length cp14], .blk b19 28 [.slice none 0 0]]) K w26 a0.Depth A5 cp6 (H.rd (i := 1) (by rfl)) v28 hv27) ?_)
  rintro e w29 ⟨A30, cp31, cs32, rfl, H2⟩
  have H : Sep ok w w29 [.blk b17 25 [.int .i64 a0.W, .int .i64 a0.H, .slice A1 a0.Color.length cp2, .slice A5 a0.Depth.length cp6, .slice A9 a0.Item.length cp10, .slice A13 a0.Tri.length cp14], .blk b19 28 [.slice none 0 0], .row (.slice A30 v28.length cp31) 3 kInt.sz v28.length cs32] [RE.rd k_Ar4_Int A1 cp2 a0.Color, RE.rd kInt A5 cp6 a0.Depth, RE.rd kInt A9 cp10 a0.Item, RE.rd kInt A13 cp14 a0.Tri, RE.chunks kInt cs32 v28] := H.call H2
  clear H2
  refine ⟨_, rfl, (Sep.takeR (Sep.takeL H 2) 4), ?_⟩
  show PR _ _ _ _ _ _ _ _
  refine PR_free (by rfl) (by rfl) (by rfl) (by exact wn0 rfl) (fun wS => (x_build (vs := [(0, .int .i64 a0.W), (1, .int .i64 a0.H), (2, .slice A30 v28.length cp31)]) (cs := [.int .i64 a0.W, .int .i64 a0.H, .slice A30 v28.length cp31]) (by rfl) (by kernel_rfl))) ?_
  obtain ⟨v36, hv35, hm⟩ := bind_some hm
  have H : Sep ok w w29 [.blk b17 25 [.int .i64 a0.W, .int .i64 a0.H, .slice A1 a0.Color.length cp2, .slice A5 a0.Depth.length cp6, .slice A9 a0.Item.length cp10, .slice A13 a0.Tri.length cp14], .blk b19 28 [.slice none 0 0], .hole] [RE.rd k_Ar4_Int A1 cp2 a0.Color, RE.rd kInt A5 cp6 a0.Depth, RE.rd kInt A9 cp10 a0.Item, RE.rd kInt A13 cp14 a0.Tri, RE.rd kInt A30 cp31 v28] := H.frozen (i := 2) (j := 4) (by rfl) (by rfl)
  refine PR_run (by rfl) (O_call (by exact wn0 rfl) (by rfl) (by rfl) (x_callL (by rfl) (args := [.agg #[.int .i64 a0.W, .int .i64 a0.H, .slice A30 v28.length cp31]]) (by rfl) (cf58 _ _)) (c58 (okS ok w [.blk b17 25 [.int .i64 a0.W, .int .i64 a0.H, .slice A1 a0.Color.length cp2, .slice A5 a0.Depth.length cp6, .slice A9 a0.Item.length cp10, .slice A13 a0.Tri.length cp14], .blk b19 28 [.slice none 0 0], .hole]) K w29 (⟨a0.W, a0.H, v28⟩ : S_Level) A30 cp31 (H.rd (i := 4) (by rfl)) v36 hv35) ?_)
  rintro e w37 ⟨A38, cp39, rfl, H2⟩
  have H : Sep ok w w37 [.blk b17 25 [.int .i64 a0.W, .int .i64 a0.H, .slice A1 a0.Color.length cp2, .slice A5 a0.Depth.length cp6, .slice A9 a0.Item.length cp10, .slice A13 a0.Tri.length cp14], .blk b19 28 [.slice none 0 0], .hole] [RE.rd k_Ar4_Int A1 cp2 a0.Color, RE.rd kInt A5 cp6 a0.Depth, RE.rd kInt A9 cp10 a0.Item, RE.rd kInt A13 cp14 a0.Tri, RE.rd kInt A30 cp31 v28, RE.rd k_Level A38 cp39 v36.Levels] := H.call H2
  clear H2
  refine ⟨_, rfl, (Sep.takeR (Sep.takeL H 2) 4), ?_⟩
  show PR _ _ _ _ _ _ _ _
  refine PR_tail (by rfl) (O_store (i := 1) (off := 0) (by exact wn0 rfl) (by rfl) (by rfl) H (by rfl) (vs := [.slice A38 v36.Levels.length cp39]) (by rfl) sz28 (by rfl) (by rfl) (by rfl) (fun w41 (H : Sep ok w w41 [.blk b17 25 [.int .i64 a0.W, .int .i64 a0.H, .slice A1 a0.Color.length cp2, .slice A5 a0.Depth.length cp6, .slice A9 a0.Item.length cp10, .slice A13 a0.Tri.length cp14], .blk b19 28 [.slice A38 v36.Levels.length cp39], .hole] [RE.rd k_Ar4_Int A1 cp2 a0.Color, RE.rd kInt A5 cp6 a0.Depth, RE.rd kInt A9 cp10 a0.Item, RE.rd kInt A13 cp14 a0.Tri, RE.rd kInt A30 cp31 v28, RE.rd k_Level A38 cp39 v36.Levels]) => ?_))
  refine PR_free (by rfl) (by rfl) (by rfl) (by exact wn0 rfl) (fun wS => (x_assign (v := .int .i64 0) (by rfl))) ?_
  refine PR_nil ?_
  refine W_ret ?_
  obtain rfl := Option.some.inj hm
  exact ⟨[.agg #[.slice A38 v36.Levels.length cp39], .int .i64 0], (.cellA (by rfl) ag28 (H.cells (i := 1) (by rfl)) (by rfl) (.tmp (by rfl) rfl)), A38, cp39, rfl, (H.forgetAll).pick [5]⟩
set_option maxRecDepth 100000 in
set_option maxHeartbeats 4000000 in
theorem c15n (ok : Okp) (hno : ∀ k, ¬ ok.wr k) (K : Nat) (w : World) (a0 : S_Frame) (A1 : Option Addr) (cp2 : Nat) (A5 : Option Addr) (cp6 : Nat) (A9 : Option Addr) (cp10 : Nat) (A13 : Option Addr) (cp14 : Nat) (hR3 : Rd k_Ar4_Int w ok A1 cp2 a0.Color) (hR7 : Rd kInt w ok A5 cp6 a0.Depth) (hR11 : Rd kInt w ok A9 cp10 a0.Item) (hR15 : Rd kInt w ok A13 cp14 a0.Tri) (res : S_Pyramid × Int) (hm : m15 K a0 = some res) :
  Calls Try.prog 15 #[.agg #[.int .i64 a0.W, .int .i64 a0.H, .slice A1 a0.Color.length cp2, .slice A5 a0.Depth.length cp6, .slice A9 a0.Item.length cp10, .slice A13 a0.Tri.length cp14]] w (fun e w' => ∃ (A0_ : Option Addr) (c0_ : Nat), e = .returned (tup [.agg #[.slice A0_ res.1.Levels.length c0_], .int .i64 res.2]) ∧ Sep ok w w' [] [RE.fr w.heap.size k_Level A0_ c0_ res.1.Levels]) := by
 refine calls_W (args := [.agg #[.int .i64 a0.W, .int .i64 a0.H, .slice A1 a0.Color.length cp2, .slice A5 a0.Depth.length cp6, .slice A9 a0.Item.length cp10, .slice A13 a0.Tri.length cp14]]) Try.func15 rfl Try.ntmps15 Try.results15 rfl fun r hr => ?_
 obtain ⟨r1, rfl⟩ := regen (r := r) [(0, .agg #[.int .i64 a0.W, .int .i64 a0.H, .slice A1 a0.Color.length cp2, .slice A5 a0.Depth.length cp6, .slice A9 a0.Item.length cp10, .slice A13 a0.Tri.length cp14])] ⟨hr 0 _ rfl, trivial⟩
 have H : Sep ok w w [] [RE.rd k_Ar4_Int A1 cp2 a0.Color, RE.rd kInt A5 cp6 a0.Depth, RE.rd kInt A9 cp10 a0.Item, RE.rd kInt A13 cp14 a0.Tri] := Sep.arg (Sep.arg (Sep.arg (Sep.arg (Sep.start ok w) (re := RE.rd k_Ar4_Int A1 cp2 a0.Color) rfl rfl hR3) (re := RE.rd kInt A5 cp6 a0.Depth) rfl rfl hR7) (re := RE.rd kInt A9 cp10 a0.Item) rfl rfl hR11) (re := RE.rd kInt A13 cp14 a0.Tri) rfl rfl hR15
 unfold m15 at hm
 refine W_seq ?_
 refine W_region ?_
 refine RL_cons (O_box (by exact wn0 rfl) (by rfl) (by rfl) (by rfl) H (fun w18 b17 (H : Sep ok w w18 [.blk b17 25 [.int .i64 a0.W, .int .i64 a0.H, .slice A1 a0.Color.length cp2, .slice A5 a0.Depth.length cp6, .slice A9 a0.Item.length cp10, .slice A13 a0.Tri.length cp14]] [RE.rd k_Ar4_Int A1 cp2 a0.Color, RE.rd kInt A5 cp6 a0.Depth, RE.rd kInt A9 cp10 a0.Item, RE.rd kInt A13 cp14 a0.Tri]) => ?_))
 refine RL_cons (O_alloc (by exact wn0 rfl) (by rfl) ze28 (by rfl) H (fun w20 b19 (H : Sep ok w w20 [.blk b17 25 [.int .i64 a0.W, .int .i64 a0.H, .slice A1 a0.Color.length cp2, .slice A5 a0.Depth.length cp6, .slice A9 a0.Item.length cp10, .slice A13 a0.Tri.length cp14], .blk b19 28 [.slice none 0 0]] [RE.rd k_Ar4_Int A1 cp2 a0.Color, RE.rd kInt A5 cp6 a0.Depth, RE.rd kInt A9 cp10 a0.Item, RE.rd kInt A13 cp14 a0.Tri]) => ?_))
 refine RL_pure (by exact wn0 rfl) (by rfl) (by rfl) (x_assign (v := .int .i64 0) (by rfl)) ?_
 refine RL_nil ?_
 refine W_seq ?_
 refine W_seq ?_
 refine W_region ?_
 refine RL_pure (by exact wn0 rfl) (by rfl) (by rfl) (x_loadA (j := 0) (vs := [.int .i64 a0.W, .int .i64 a0.H, .slice A1 a0.Color.length cp2, .slice A5 a0.Depth.length cp6, .slice A9 a0.Item.length cp10, .slice A13 a0.Tri.length cp14]) ag25 (by rfl) (H.cells (i := 0) (by rfl)) (by rfl) (by rfl)) ?_
 obtain ⟨v22, hv21, hm⟩ := bind_some hm
 refine RL_cons (O_call (by exact wn0 rfl) (by rfl) (by rfl) (x_callL (by rfl) (args := [.agg #[.int .i64 a0.W, .int .i64 a0.H, .slice A1 a0.Color.length cp2, .slice A5 a0.Depth.length cp6, .slice A9 a0.Item.length cp10, .slice A13 a0.Tri.length cp14]]) (by rfl) (cf33 _ _)) (c33 okT K w20 a0 A1 cp2 A5 cp6 A9 cp10 A13 cp14 (H.rd (i := 0) (by rfl)).any (H.rd (i := 1) (by rfl)).any (H.rd (i := 2) (by rfl)).any (H.rd (i := 3) (by rfl)).any v22 hv21) ?_)
 rintro e w23 ⟨rfl, H2⟩
 have H : Sep ok w w23 [.blk b17 25 [.int .i64 a0.W, .int .i64 a0.H, .slice A1 a0.Color.length cp2, .slice A5 a0.Depth.length cp6, .slice A9 a0.Item.length cp10, .slice A13 a0.Tri.length cp14], .blk b19 28 [.slice none 0 0]] [RE.rd k_Ar4_Int A1 cp2 a0.Color, RE.rd kInt A5 cp6 a0.Depth, RE.rd kInt A9 cp10 a0.Item, RE.rd kInt A13 cp14 a0.Tri] := H.below H2.base
 clear H2
 refine ⟨_, rfl, ?_⟩
 show RL _ _ _ _ _ _ _
 refine RL_pure (by exact wn0 rfl) (by rfl) (by rfl) (x_assign (v := .int .i64 v22) (by rfl)) ?_
 refine RL_nil ?_
 refine W_seq ?_
 refine W_region ?_
 refine RL_pure (by exact wn0 rfl) (by rfl) (by rfl) (x_move (v := .int .i64 v22) (by rfl)) ?_
 refine RL_pure (by exact wn0 rfl) (by rfl) (by rfl) (x_neq (by rfl) (by rfl)) ?_
 refine RL_nil ?_
 refine W_cond (by rfl) (fun hb => ?_) (fun hb => ?_)
 ·have hm := cond_t hb hm
  refine W_seq ?_
  refine W_region ?_
  refine RL_pure (by exact wn0 rfl) (by rfl) (by rfl) (x_build (vs := []) (cs := [.slice none 0 0]) (by rfl) (by kernel_rfl)) ?_
  refine RL_pure (by exact wn0 rfl) (by rfl) (by rfl) (x_move (v := .int .i64 v22) (by rfl)) ?_
  refine RL_cons (O_store (i := 1) (off := 0) (by exact wn0 rfl) (by rfl) (by rfl) H (by rfl) (vs := [.slice none 0 0]) (by rfl) sz28 (by rfl) (by rfl) (by rfl) (fun w24 (H : Sep ok w w24 [.blk b17 25 [.int .i64 a0.W, .int .i64 a0.H, .slice A1 a0.Color.length cp2, .slice A5 a0.Depth.length cp6, .slice A9 a0.Item.length cp10, .slice A13 a0.Tri.length cp14], .blk b19 28 [.slice none 0 0]] [RE.rd k_Ar4_Int A1 cp2 a0.Color, RE.rd kInt A5 cp6 a0.Depth, RE.rd kInt A9 cp10 a0.Item, RE.rd kInt A13 cp14 a0.Tri]) => ?_))
  refine RL_pure (by exact wn0 rfl) (by rfl) (by rfl) (x_assign (v := .int .i64 v22) (by rfl)) ?_
  refine RL_nil ?_
  refine W_ret ?_
  have H : Sep ok w w24 [.blk b17 25 [.int .i64 a0.W, .int .i64 a0.H, .slice A1 a0.Color.length cp2, .slice A5 a0.Depth.length cp6, .slice A9 a0.Item.length cp10, .slice A13 a0.Tri.length cp14], .blk b19 28 [.slice none 0 0]] [RE.rd k_Ar4_Int A1 cp2 a0.Color, RE.rd kInt A5 cp6 a0.Depth, RE.rd kInt A9 cp10 a0.Item, RE.rd kInt A13 cp14 a0.Tri, RE.fr w.heap.size k_Level none 0 ([])] := Sep.also H (re := RE.fr w.heap.size k_Level none 0 ([])) (Rd.nil (by decide))
  obtain rfl := Option.some.inj hm
  exact ⟨[.agg #[.slice none 0 0], .int .i64 v22], (.cellA (by rfl) ag28 (H.cells (i := 1) (by rfl)) (by rfl) (.tmp (by rfl) rfl)), none, 0, rfl, (H.forgetAll).pick [4]⟩
 ·have hm := cond_f hb hm
  refine W_skip ?_
  refine W_seq ?_
  refine W_draw [.free 0, .take 1, .free 2, .take 3, .free 4, .take 5, .run 6, .free 7, .run 8, .tail 9, .free 10] (fun wS => Sep ok w wS [.blk b17 25 [.int .i64 a0.W, .int .i64 a0.H, .slice A1 a0.Color.length cp2, .slice A5 a0.Depth.length cp6, .slice A9 a0.Item.length cp10, .slice A13 a0.Tri.length cp14], .blk b19 28 [.slice none 0 0]] [RE.rd k_Ar4_Int A1 cp2 a0.Color, RE.rd kInt A5 cp6 a0.Depth, RE.rd kInt A9 cp10 a0.Item, RE.rd kInt A13 cp14 a0.Tri]) [9] [0, 2, 4, 7, 10] mixed0 (by kernel_rfl) (by kernel_rfl) (by kernel_rfl) (by rfl) (by exact H.drew) ?_
  obtain ⟨w26, hW⟩ : ∃ W : World, W = { w23 with drawn := w23.drawn + 1 } := ⟨_, rfl⟩
  rw [← hW]
  have H : Sep ok w w26 [.blk b17 25 [.int .i64 a0.W, .int .i64 a0.H, .slice A1 a0.Color.length cp2, .slice A5 a0.Depth.length cp6, .slice A9 a0.Item.length cp10, .slice A13 a0.Tri.length cp14], .blk b19 28 [.slice none 0 0]] [RE.rd k_Ar4_Int A1 cp2 a0.Color, RE.rd kInt A5 cp6 a0.Depth, RE.rd kInt A9 cp10 a0.Item, RE.rd kInt A13 cp14 a0.Tri] := by rw [hW]; exact H.drew
  clear hW
  refine PR_free (by rfl) (by rfl) (by rfl) (by exact wn0 rfl) (fun wS => (x_fieldAddr fo25_0 (by rfl))) ?_
  refine PR_take (by rfl) (by rfl) (by rfl) (by exact wn0 rfl) (fun wS (H : Sep ok w wS [.blk b17 25 [.int .i64 a0.W, .int .i64 a0.H, .slice A1 a0.Color.length cp2, .slice A5 a0.Depth.length cp6, .slice A9 a0.Item.length cp10, .slice A13 a0.Tri.length cp14], .blk b19 28 [.slice none 0 0]] [RE.rd k_Ar4_Int A1 cp2 a0.Color, RE.rd kInt A5 cp6 a0.Depth, RE.rd kInt A9 cp10 a0.Item, RE.rd kInt A13 cp14 a0.Tri]) => (x_load (j := 0) (v := .int .i64 a0.W) sc3 (by rfl) (H.cells (i := 0) (by rfl)) (by rfl))) ?_
  refine PR_free (by rfl) (by rfl) (by rfl) (by exact wn0 rfl) (fun wS => (x_fieldAddr fo25_1 (by rfl))) ?_
  refine PR_take (by rfl) (by rfl) (by rfl) (by exact wn0 rfl) (fun wS (H : Sep ok w wS [.blk b17 25 [.int .i64 a0.W, .int .i64 a0.H, .slice A1 a0.Color.length cp2, .slice A5 a0.Depth.length cp6, .slice A9 a0.Item.length cp10, .slice A13 a0.Tri.length cp14], .blk b19 28 [.slice none 0 0]] [RE.rd k_Ar4_Int A1 cp2 a0.Color, RE.rd kInt A5 cp6 a0.Depth, RE.rd kInt A9 cp10 a0.Item, RE.rd kInt A13 cp14 a0.Tri]) => (x_load (j := 1) (v := .int .i64 a0.H) sc3 (by rfl) (H.cells (i := 0) (by rfl)) (by rfl))) ?_
  refine PR_free (by rfl) (by rfl) (by rfl) (by exact wn0 rfl) (fun wS => (x_fieldAddr fo25_3 (by rfl))) ?_
  refine PR_take (by rfl) (by rfl) (by rfl) (by exact wn0 rfl) (fun wS (H : Sep ok w wS [.blk b17 25 [.int .i64 a0.W, .int .i64 a0.H, .slice A1 a0.Color.length cp2, .slice A5 a0.Depth.length cp6, .slice A9 a0.Item.length cp10, .slice A13 a0.Tri.length cp14], .blk b19 28 [.slice none 0 0]] [RE.rd k_Ar4_Int A1 cp2 a0.Color, RE.rd kInt A5 cp6 a0.Depth, RE.rd kInt A9 cp10 a0.Item, RE.rd kInt A13 cp14 a0.Tri]) => (x_load (j := 3) (v := .slice A5 a0.Depth.length cp6) sc23 (by rfl) (H.cells (i := 0) (by rfl)) (by rfl))) ?_
  obtain ⟨v28, hv27, hm⟩ := bind_some hm
  refine PR_run (by rfl) (O_call (by exact wn0 rfl) (by rfl) (by rfl) (x_callL (by rfl) (args := [.slice A5 a0.Depth.length cp6]) (by rfl) (cf59 _ _)) (c59 (okS ok w [.blk b17 25 [.int .i64 a0.W, .int .i64 a0.H, .slice A1 a0.Color.length cp2, .slice A5 a0.Depth.length cp6, .slice A9 a0.Item.length cp10, .slice A13 a0.Tri.length cp14], .blk b19 28 [.slice none 0 0]]) K w26 a0.Depth A5 cp6 (H.rd (i := 1) (by rfl)) v28 hv27) ?_)
  rintro e w29 ⟨A30, cp31, cs32, rfl, H2⟩
  have H : Sep ok w w29 [.blk b17 25 [.int .i64 a0.W, .int .i64 a0.H, .slice A1 a0.Color.length cp2, .slice A5 a0.Depth.length cp6, .slice A9 a0.Item.length cp10, .slice A13 a0.Tri.length cp14], .blk b19 28 [.slice none 0 0], .row (.slice A30 v28.length cp31) 3 kInt.sz v28.length cs32] [RE.rd k_Ar4_Int A1 cp2 a0.Color, RE.rd kInt A5 cp6 a0.Depth, RE.rd kInt A9 cp10 a0.Item, RE.rd kInt A13 cp14 a0.Tri, RE.chunks kInt cs32 v28] := H.call H2
  clear H2
  refine ⟨_, rfl, (Sep.takeR (Sep.takeL H 2) 4), ?_⟩
  show PR _ _ _ _ _ _ _ _
  refine PR_free (by rfl) (by rfl) (by rfl) (by exact wn0 rfl) (fun wS => (x_build (vs := [(0, .int .i64 a0.W), (1, .int .i64 a0.H), (2, .slice A30 v28.length cp31)]) (cs := [.int .i64 a0.W, .int .i64 a0.H, .slice A30 v28.length cp31]) (by rfl) (by kernel_rfl))) ?_
  obtain ⟨v36, hv35, hm⟩ := bind_some hm
  have H : Sep ok w w29 [.blk b17 25 [.int .i64 a0.W, .int .i64 a0.H, .slice A1 a0.Color.length cp2, .slice A5 a0.Depth.length cp6, .slice A9 a0.Item.length cp10, .slice A13 a0.Tri.length cp14], .blk b19 28 [.slice none 0 0], .hole] [RE.rd k_Ar4_Int A1 cp2 a0.Color, RE.rd kInt A5 cp6 a0.Depth, RE.rd kInt A9 cp10 a0.Item, RE.rd kInt A13 cp14 a0.Tri, RE.fr w.heap.size kInt A30 cp31 v28] := H.frozenF hno flatK_int (i := 2) (j := 4) (by rfl) (by rfl)
  refine PR_run (by rfl) (O_call (by exact wn0 rfl) (by rfl) (by rfl) (x_callL (by rfl) (args := [.agg #[.int .i64 a0.W, .int .i64 a0.H, .slice A30 v28.length cp31]]) (by rfl) (cf58 _ _)) (c58 ((okS ok w [.blk b17 25 [.int .i64 a0.W, .int .i64 a0.H, .slice A1 a0.Color.length cp2, .slice A5 a0.Depth.length cp6, .slice A9 a0.Item.length cp10, .slice A13 a0.Tri.length cp14], .blk b19 28 [.slice none 0 0], .hole]).fr w.heap.size) K w29 (⟨a0.W, a0.H, v28⟩ : S_Level) A30 cp31 (H.frRd (i := 4) (by rfl)) v36 hv35) ?_)
  rintro e w37 ⟨A38, cp39, rfl, H2⟩
  have H : Sep ok w w37 [.blk b17 25 [.int .i64 a0.W, .int .i64 a0.H, .slice A1 a0.Color.length cp2, .slice A5 a0.Depth.length cp6, .slice A9 a0.Item.length cp10, .slice A13 a0.Tri.length cp14], .blk b19 28 [.slice none 0 0], .hole] [RE.rd k_Ar4_Int A1 cp2 a0.Color, RE.rd kInt A5 cp6 a0.Depth, RE.rd kInt A9 cp10 a0.Item, RE.rd kInt A13 cp14 a0.Tri, RE.fr w.heap.size kInt A30 cp31 v28, RE.fr w.heap.size k_Level A38 cp39 v36.Levels] := H.callFr (Nat.le_refl _) H.le H2
  clear H2
  refine ⟨_, rfl, (Sep.takeR (Sep.takeL H 2) 4), ?_⟩
  show PR _ _ _ _ _ _ _ _
  refine PR_tail (by rfl) (O_store (i := 1) (off := 0) (by exact wn0 rfl) (by rfl) (by rfl) H (by rfl) (vs := [.slice A38 v36.Levels.length cp39]) (by rfl) sz28 (by rfl) (by rfl) (by rfl) (fun w41 (H : Sep ok w w41 [.blk b17 25 [.int .i64 a0.W, .int .i64 a0.H, .slice A1 a0.Color.length cp2, .slice A5 a0.Depth.length cp6, .slice A9 a0.Item.length cp10, .slice A13 a0.Tri.length cp14], .blk b19 28 [.slice A38 v36.Levels.length cp39], .hole] [RE.rd k_Ar4_Int A1 cp2 a0.Color, RE.rd kInt A5 cp6 a0.Depth, RE.rd kInt A9 cp10 a0.Item, RE.rd kInt A13 cp14 a0.Tri, RE.fr w.heap.size kInt A30 cp31 v28, RE.fr w.heap.size k_Level A38 cp39 v36.Levels]) => ?_))
  refine PR_free (by rfl) (by rfl) (by rfl) (by exact wn0 rfl) (fun wS => (x_assign (v := .int .i64 0) (by rfl))) ?_
  refine PR_nil ?_
  refine W_ret ?_
  obtain rfl := Option.some.inj hm
  exact ⟨[.agg #[.slice A38 v36.Levels.length cp39], .int .i64 0], (.cellA (by rfl) ag28 (H.cells (i := 1) (by rfl)) (by rfl) (.tmp (by rfl) rfl)), A38, cp39, rfl, (H.forgetAll).pick [5]⟩
end Go.Proofs.YtobkigllalbkiaaV.M

/- Frames, in plain Lean: 'Build' of a frame, 'Same', 'Put' and 'Lay' of what is nearer already. -/
set_option linter.unusedVariables false
set_option linter.unusedSimpArgs false
namespace Go.Proofs.YtobkigllalbkiaaV.M
/-- A frame's depths by place. -/
def dv (f : S_Frame) (w : Nat) (x y : Nat) : Int := f.Depth.getD (y * w + x) 0
theorem FOK.lvl {f : S_Frame} {w h : Nat} (q : FOK f w h) : (⟨f.W, f.H, f.Depth⟩ : S_Level) = mkL w h (dv f w) := by
  refine level_ext q.W q.H ?_
  show f.Depth = (List.range (w * h)).map fun i => f.Depth.getD (i / w * w + i % w) 0
  apply List.ext_getElem?
  intro i
  by_cases hi : i < w * h
  · have e1 : i / w * w + i % w = i := by rw [Nat.mul_comm]; exact Nat.div_add_mod i w
    have e2 : i < f.Depth.length := by rw [q.d]; exact hi
    simp [hi, e1, e2]
  · rw [List.getElem?_eq_none (by rw [q.d]; omega), List.getElem?_eq_none (by simp; omega)]
theorem FOK.at_ {f : S_Frame} {w h x y : Nat} (q : FOK f w h) (hx : x < w) (hy : y < h) : ∃ d it tr, f.Depth[y * w + x]? = some d ∧ f.Item[y * w + x]? = some it ∧ f.Tri[y * w + x]? = some tr ∧ dv f w x y = d ∧ pixOK d it tr := by
  have hlt := place_lt hx hy
  have g1 : f.Depth[y * w + x]? = some (f.Depth[y * w + x]'(by rw [q.d]; exact hlt)) := List.getElem?_eq_getElem _
  have g2 : f.Item[y * w + x]? = some (f.Item[y * w + x]'(by rw [q.i]; exact hlt)) := List.getElem?_eq_getElem _
  have g3 : f.Tri[y * w + x]? = some (f.Tri[y * w + x]'(by rw [q.t]; exact hlt)) := List.getElem?_eq_getElem _
  exact ⟨_, _, _, g1, g2, g3, by unfold dv; rw [List.getD_eq_getElem?_getD, g1]; rfl, q.pix _ _ _ _ g1 g2 g3⟩
theorem pixOK.range {d it tr : Int} (h : pixOK d it tr) : -2048 ≤ d ∧ d ≤ 66560 := by
  rcases h with ⟨h, _⟩ | ⟨h1, h2, _⟩ <;> omega
theorem FOK.dom {f : S_Frame} {w h : Nat} (q : FOK f w h) : Dom w h (dv f w) :=
  ⟨q.w1, q.w64, q.h1, q.h64, fun x y hx hy => by obtain ⟨d, it, tr, _, _, _, e, hp⟩ := q.at_ hx hy; rw [e]; exact hp.range.1,
    fun x y hx hy => by obtain ⟨d, it, tr, _, _, _, e, hp⟩ := q.at_ hx hy; rw [e]; exact hp.range.2⟩
theorem m15_eq {K : Nat} (hK : 10000 ≤ K) (f : S_Frame) : (∃ w h, FOK f w h ∧ m15 K f = some (⟨pyr w h (dv f w)⟩, 0)) ∨ ((¬ ∃ w h, FOK f w h) ∧ m15 K f = some (⟨[]⟩, 8)) := by
  obtain ⟨e, k1, k2, k3⟩ := m33_eq hK f
  unfold m15
  rw [k1, Option.bind_some]
  rcases k2 with rfl | rfl
  · obtain ⟨w, h, q⟩ := k3.1 rfl
    refine .inl ⟨w, h, q, ?_⟩
    have hp : w * h ≤ 4096 := Nat.mul_le_mul q.w64 q.h64
    rw [show ((0 : Int) != 0) = false from rfl, cond_false]
    have : m59 K f.Depth = some f.Depth := by unfold m59; rw [apds_in (by simp [q.d]; omega)]; rfl
    rw [this, Option.bind_some, q.lvl, m58_eq (by omega) q.w64 q.h64 q.w1 q.h1]; rfl
  · refine .inr ⟨fun q => absurd (k3.2 q) (by decide), ?_⟩
    rw [show ((8 : Int) != 0) = true from rfl, cond_true]
end Go.Proofs.YtobkigllalbkiaaV.M

/- Small words on models and frames, in plain Lean. -/
set_option linter.unusedVariables false
set_option linter.unusedSimpArgs false
namespace Go.Proofs.YtobkigllalbkiaaV.M
theorem ck_nat {α : Type} {n : Nat} {k : Int → Option α} (h : n ≤ 9223372036854775807) : ck (n : Int) k = k n := ck_in (by omega) (by omega)
theorem lete_in {α β : Type} {x : α} {k : α → Option β} : lete x k = k x := rfl
theorem FOK.prodle {f : S_Frame} {w h : Nat} (q : FOK f w h) : w * h ≤ 4096 := Nat.mul_le_mul q.w64 q.h64
theorem split_place {w h k : Nat} (hw : 0 < w) (hk : k < w * h) : k % w < w ∧ k / w < h ∧ k / w * w + k % w = k :=
  ⟨Nat.mod_lt _ hw, Nat.div_lt_of_lt_mul hk, by rw [Nat.mul_comm]; exact Nat.div_add_mod k w⟩
end Go.Proofs.YtobkigllalbkiaaV.M

/- A plain Lean function that answers as the Go function does (none: not told), and the proof that a call answers so. Written by program. -/
set_option linter.unusedVariables false
namespace Go.Proofs.YtobkigllalbkiaaV.M
open Go.RowKit Go.Proofs.YtobkigllalbkiaaV
def m21_l2b (K : Nat) (y5_1 : Int) (rec1 : Int → Option (Bool)) (el15 : S_Level) (el32 : S_Level) (rec2 : Int → Option (Bool)) (y8_2 : Int) : Option (Bool) :=
 (bif (decide (y8_2 < (el15.Low.length : Int))) then (idx el15.Low y8_2 fun el122 => (idx el32.Low y8_2 fun el129 => (bif (el122 != el129) then some false else (ck (y8_2 + 1) fun x136 => (rec2 x136))))) else (ck (y5_1 + 1) fun x137 => (rec1 x137)))
def m21_l2 (K : Nat) (y5_1 : Int) (rec1 : Int → Option (Bool)) (el15 : S_Level) (el32 : S_Level) : Nat → Int → Option (Bool)
 | 0 => fun _ => none
 | k + 1 => m21_l2b K y5_1 rec1 el15 el32 (m21_l2 K y5_1 rec1 el15 el32 k)
def m21_l1b (K : Nat) (a0 : S_Pyramid) (a1 : S_Pyramid) (rec1 : Int → Option (Bool)) (y5_1 : Int) : Option (Bool) :=
 (bif (decide (y5_1 < (a0.Levels.length : Int))) then (idx a0.Levels y5_1 fun el15 => (idx a1.Levels y5_1 fun el32 => ((bif (el15.W != el32.W) then some true else some (el15.H != el32.H)).bind fun b113 => ((bif b113 then some true else some ((el15.Low.length : Int) != (el32.Low.length : Int))).bind fun b116 => (bif b116 then some false else m21_l2 K y5_1 rec1 el15 el32 K 0))))) else some true)
def m21_l1 (K : Nat) (a0 : S_Pyramid) (a1 : S_Pyramid) : Nat → Int → Option (Bool)
 | 0 => fun _ => none
 | k + 1 => m21_l1b K a0 a1 (m21_l1 K a0 a1 k)
/-- diorama/dioramaref27.Same -/
def m21 (K : Nat) (a0 : S_Pyramid) (a1 : S_Pyramid) : Option (Bool) :=
 (bif ((a0.Levels.length : Int) != (a1.Levels.length : Int)) then some false else m21_l1 K a0 a1 K 0)
set_option maxRecDepth 100000 in
set_option maxHeartbeats 4000000 in
theorem c21 (ok : Okp) (K : Nat) (w : World) (a0 : S_Pyramid) (A1 : Option Addr) (cp2 : Nat) (a1 : S_Pyramid) (A5 : Option Addr) (cp6 : Nat) (hR3 : Rd k_Level w ok A1 cp2 a0.Levels) (hR7 : Rd k_Level w ok A5 cp6 a1.Levels) (res : Bool) (hm : m21 K a0 a1 = some res) :
  Calls Try.prog 21 #[.agg #[.slice A1 a0.Levels.length cp2], .agg #[.slice A5 a1.Levels.length cp6]] w (fun e w' => e = .returned (tup [.bool res]) ∧ Sep ok w w' [] []) := by
 refine calls_W (args := [.agg #[.slice A1 a0.Levels.length cp2], .agg #[.slice A5 a1.Levels.length cp6]]) Try.func21 rfl Try.ntmps21 Try.results21 rfl fun r hr => ?_
 obtain ⟨r1, rfl⟩ := regen (r := r) [(0, .agg #[.slice A1 a0.Levels.length cp2]), (1, .agg #[.slice A5 a1.Levels.length cp6])] ⟨hr 0 _ rfl, hr 1 _ rfl, trivial⟩
 have H : Sep ok w w [] [RE.rd k_Level A1 cp2 a0.Levels, RE.rd k_Level A5 cp6 a1.Levels] := Sep.arg (Sep.arg (Sep.start ok w) (re := RE.rd k_Level A1 cp2 a0.Levels) rfl rfl hR3) (re := RE.rd k_Level A5 cp6 a1.Levels) rfl rfl hR7
 unfold m21 at hm
 refine W_seq ?_
 refine W_region ?_
 refine RL_cons (O_box (by exact wn0 rfl) (by rfl) (by rfl) (by rfl) H (fun w10 b9 (H : Sep ok w w10 [.blk b9 28 [.slice A1 a0.Levels.length cp2]] [RE.rd k_Level A1 cp2 a0.Levels, RE.rd k_Level A5 cp6 a1.Levels]) => ?_))
 refine RL_cons (O_box (by exact wn0 rfl) (by rfl) (by rfl) (by rfl) H (fun w12 b11 (H : Sep ok w w12 [.blk b9 28 [.slice A1 a0.Levels.length cp2], .blk b11 28 [.slice A5 a1.Levels.length cp6]] [RE.rd k_Level A1 cp2 a0.Levels, RE.rd k_Level A5 cp6 a1.Levels]) => ?_))
 refine RL_pure (by exact wn0 rfl) (by rfl) (by rfl) (x_assign (v := .bool false) (by rfl)) ?_
 refine RL_nil ?_
 refine W_seq ?_
 refine W_seq ?_
 refine W_region ?_
 refine RL_pure (by exact wn0 rfl) (by rfl) (by rfl) (x_fieldAddr fo28_0 (by rfl)) ?_
 refine RL_pure (by exact wn0 rfl) (by rfl) (by rfl) (x_load (j := 0) (v := .slice A1 a0.Levels.length cp2) sc26 (by rfl) (H.cells (i := 0) (by rfl)) (by rfl)) ?_
 refine RL_pure (by exact wn0 rfl) (by rfl) (by rfl) (x_len sl26 (by rfl)) ?_
 refine RL_pure (by exact wn0 rfl) (by rfl) (by rfl) (x_fieldAddr fo28_0 (by rfl)) ?_
 refine RL_pure (by exact wn0 rfl) (by rfl) (by rfl) (x_load (j := 0) (v := .slice A5 a1.Levels.length cp6) sc26 (by rfl) (H.cells (i := 1) (by rfl)) (by rfl)) ?_
 refine RL_pure (by exact wn0 rfl) (by rfl) (by rfl) (x_len sl26 (by rfl)) ?_
 refine RL_pure (by exact wn0 rfl) (by rfl) (by rfl) (x_neq (by rfl) (by rfl)) ?_
 refine RL_nil ?_
 refine W_cond (by rfl) (fun hb => ?_) (fun hb => ?_)
 ·have hm := cond_t hb hm
  refine W_seq ?_
  refine W_region ?_
  refine RL_pure (by exact wn0 rfl) (by rfl) (by rfl) (x_assign (v := .bool false) (by rfl)) ?_
  refine RL_nil ?_
  refine W_ret ?_
  obtain rfl := Option.some.inj hm
  exact ⟨[.bool false], (.tmp (by rfl) rfl), rfl, H.none_⟩
 ·have hm := cond_f hb hm
  refine W_skip ?_
  refine W_seq ?_
  refine W_seq ?_
  refine W_region ?_
  refine RL_pure (by exact wn0 rfl) (by rfl) (by rfl) (x_assign (v := .int .i64 0) (by rfl)) ?_
  refine RL_nil ?_
  refine W_block ?_
  refine W_loop (fun k1 r' w' => ∃ (y5_1 : Int), m21_l1 K a0 a1 k1 y5_1 = some res ∧ Agr [(2, .pointer (some ⟨b9, 0, none⟩)), (3, .pointer (some ⟨b11, 0, none⟩)), (5, .int .i64 y5_1)] r' ∧ Sep ok w w' [.blk b9 28 [.slice A1 a0.Levels.length cp2], .blk b11 28 [.slice A5 a1.Levels.length cp6]] [RE.rd k_Level A1 cp2 a0.Levels, RE.rd k_Level A5 cp6 a1.Levels]) K ?_ ?_
  ·exact ⟨0, hm, ⟨rfl, rfl, rfl, trivial⟩, H⟩
  ·rintro k1 r' w' ⟨y5_1, hm, hA, H⟩
   obtain ⟨r13, rfl⟩ := regen _ hA; clear hA
   obtain ⟨w14, rfl⟩ : ∃ W : World, W = w' := ⟨_, rfl⟩
   cases k1 with
   | zero => exact (none_some hm).elim
   | succ k1 =>
    have hm : m21_l1b K a0 a1 (m21_l1 K a0 a1 k1) y5_1 = some res := hm
    unfold m21_l1b at hm
    obtain ⟨rec1, hrec1⟩ : ∃ f, m21_l1 K a0 a1 k1 = f := ⟨_, rfl⟩
    rw [hrec1] at hm
    refine W_seq ?_
    refine W_seq ?_
    refine W_region ?_
    refine RL_pure (by exact wn0 rfl) (by rfl) (by rfl) (x_move (v := .int .i64 y5_1) (by rfl)) ?_
    refine RL_pure (by exact wn0 rfl) (by rfl) (by rfl) (x_fieldAddr fo28_0 (by rfl)) ?_
    refine RL_pure (by exact wn0 rfl) (by rfl) (by rfl) (x_load (j := 0) (v := .slice A1 a0.Levels.length cp2) sc26 (by rfl) (H.cells (i := 0) (by rfl)) (by rfl)) ?_
    refine RL_pure (by exact wn0 rfl) (by rfl) (by rfl) (x_len sl26 (by rfl)) ?_
    refine RL_pure (by exact wn0 rfl) (by rfl) (by rfl) (x_lss (by rfl) (by rfl)) ?_
    refine RL_nil ?_
    refine W_cond (by rfl) (fun hb => ?_) (fun hb => ?_)
    ·have hm := cond_t hb hm
     refine W_skip ?_
     refine W_seq ?_
     refine W_block ?_
     refine W_seq ?_
     obtain ⟨el15, h16, h17, he18, hm⟩ := idx_some hm
     obtain ⟨g20, o21, hA19⟩ := (H.rd (i := 0) (by rfl)).addr he18
     obtain ⟨cs22, hk23, hat24, hg_cs22⟩ := (H.rd (i := 0) (by rfl)).openAt hA19 he18
     obtain ⟨A27, cp28, rfl, hR30⟩ := hk23
     have H : Sep ok w w14 [.blk b9 28 [.slice A1 a0.Levels.length cp2], .blk b11 28 [.slice A5 a1.Levels.length cp6]] [RE.rd k_Level A1 cp2 a0.Levels, RE.rd k_Level A5 cp6 a1.Levels, RE.cells g20 (o21 + (y5_1).toNat * 3) [.int .i64 el15.W, .int .i64 el15.H, .slice A27 el15.Low.length cp28]] := Sep.also H (re := RE.cells g20 (o21 + (y5_1).toNat * 3) [.int .i64 el15.W, .int .i64 el15.H, .slice A27 el15.Low.length cp28]) ⟨hg_cs22, hat24⟩
     have H : Sep ok w w14 [.blk b9 28 [.slice A1 a0.Levels.length cp2], .blk b11 28 [.slice A5 a1.Levels.length cp6]] [RE.rd k_Level A1 cp2 a0.Levels, RE.rd k_Level A5 cp6 a1.Levels, RE.cells g20 (o21 + (y5_1).toNat * 3) [.int .i64 el15.W, .int .i64 el15.H, .slice A27 el15.Low.length cp28], RE.rd kInt A27 cp28 el15.Low] := Sep.also H (re := RE.rd kInt A27 cp28 el15.Low) hR30
     obtain ⟨el32, h33, h34, he35, hm⟩ := idx_some hm
     obtain ⟨g37, o38, hA36⟩ := (H.rd (i := 1) (by rfl)).addr he35
     obtain ⟨cs39, hk40, hat41, hg_cs39⟩ := (H.rd (i := 1) (by rfl)).openAt hA36 he35
     obtain ⟨A44, cp45, rfl, hR47⟩ := hk40
     have H : Sep ok w w14 [.blk b9 28 [.slice A1 a0.Levels.length cp2], .blk b11 28 [.slice A5 a1.Levels.length cp6]] [RE.rd k_Level A1 cp2 a0.Levels, RE.rd k_Level A5 cp6 a1.Levels, RE.cells g20 (o21 + (y5_1).toNat * 3) [.int .i64 el15.W, .int .i64 el15.H, .slice A27 el15.Low.length cp28], RE.rd kInt A27 cp28 el15.Low, RE.cells g37 (o38 + (y5_1).toNat * 3) [.int .i64 el32.W, .int .i64 el32.H, .slice A44 el32.Low.length cp45]] := Sep.also H (re := RE.cells g37 (o38 + (y5_1).toNat * 3) [.int .i64 el32.W, .int .i64 el32.H, .slice A44 el32.Low.length cp45]) ⟨hg_cs39, hat41⟩
     have H : Sep ok w w14 [.blk b9 28 [.slice A1 a0.Levels.length cp2], .blk b11 28 [.slice A5 a1.Levels.length cp6]] [RE.rd k_Level A1 cp2 a0.Levels, RE.rd k_Level A5 cp6 a1.Levels, RE.cells g20 (o21 + (y5_1).toNat * 3) [.int .i64 el15.W, .int .i64 el15.H, .slice A27 el15.Low.length cp28], RE.rd kInt A27 cp28 el15.Low, RE.cells g37 (o38 + (y5_1).toNat * 3) [.int .i64 el32.W, .int .i64 el32.H, .slice A44 el32.Low.length cp45], RE.rd kInt A44 cp45 el32.Low] := Sep.also H (re := RE.rd kInt A44 cp45 el32.Low) hR47
     refine W_drawT (.free 0 (.take 1 (.free 2 (.free 3 (.take 4 (.free 5 (.take 6 (.free 7 (.free 8 (.take 9 (.all (.br 10 (.all (.br 11 (.all (.br 12 (.lin [.tail 13]) (.stop))) (.stop))) (.br 11 (.all (.br 10 (.all (.br 12 (.lin [.tail 13]) (.stop))) (.stop))) (.stop)))))))))))))) (fun wS => Sep ok w wS [.blk b9 28 [.slice A1 a0.Levels.length cp2], .blk b11 28 [.slice A5 a1.Levels.length cp6]] [RE.rd k_Level A1 cp2 a0.Levels, RE.rd k_Level A5 cp6 a1.Levels, RE.cells g20 (o21 + (y5_1).toNat * 3) [.int .i64 el15.W, .int .i64 el15.H, .slice A27 el15.Low.length cp28], RE.rd kInt A27 cp28 el15.Low, RE.cells g37 (o38 + (y5_1).toNat * 3) [.int .i64 el32.W, .int .i64 el32.H, .slice A44 el32.Low.length cp45], RE.rd kInt A44 cp45 el32.Low]) [13] [0, 2, 3, 5, 7, 8] mixed0 (by kernel_rfl) (by kernel_rfl) (by kernel_rfl) (by kernel_rfl) (by exact H.drew) ?_
     obtain ⟨w54, hW⟩ : ∃ W : World, W = { w14 with drawn := w14.drawn + 1 } := ⟨_, rfl⟩
     rw [← hW]
     have H : Sep ok w w54 [.blk b9 28 [.slice A1 a0.Levels.length cp2], .blk b11 28 [.slice A5 a1.Levels.length cp6]] [RE.rd k_Level A1 cp2 a0.Levels, RE.rd k_Level A5 cp6 a1.Levels, RE.cells g20 (o21 + (y5_1).toNat * 3) [.int .i64 el15.W, .int .i64 el15.H, .slice A27 el15.Low.length cp28], RE.rd kInt A27 cp28 el15.Low, RE.cells g37 (o38 + (y5_1).toNat * 3) [.int .i64 el32.W, .int .i64 el32.H, .slice A44 el32.Low.length cp45], RE.rd kInt A44 cp45 el32.Low] := by rw [hW]; exact H.drew
     clear hW
     refine PRT_free (by rfl) (by rfl) (by rfl) (by exact wn0 rfl) (fun wS => (x_fieldAddr fo28_0 (by rfl))) ?_
     refine PRT_take (by rfl) (by rfl) (by rfl) (by exact wn0 rfl) (fun wS (H : Sep ok w wS [.blk b9 28 [.slice A1 a0.Levels.length cp2], .blk b11 28 [.slice A5 a1.Levels.length cp6]] [RE.rd k_Level A1 cp2 a0.Levels, RE.rd k_Level A5 cp6 a1.Levels, RE.cells g20 (o21 + (y5_1).toNat * 3) [.int .i64 el15.W, .int .i64 el15.H, .slice A27 el15.Low.length cp28], RE.rd kInt A27 cp28 el15.Low, RE.cells g37 (o38 + (y5_1).toNat * 3) [.int .i64 el32.W, .int .i64 el32.H, .slice A44 el32.Low.length cp45], RE.rd kInt A44 cp45 el32.Low]) => (x_load (j := 0) (v := .slice A1 a0.Levels.length cp2) sc26 (by rfl) (H.cells (i := 0) (by rfl)) (by rfl))) ?_
     refine PRT_free (by rfl) (by rfl) (by rfl) (by exact wn0 rfl) (fun wS => (x_move (v := .int .i64 y5_1) (by rfl))) ?_
     refine PRT_free (by rfl) (by rfl) (by rfl) (by exact wn0 rfl) (fun wS => (x_indexAddr sl26 sz54 (by rfl) (by rfl) hA19 h16 h17)) ?_
     refine PRT_take (by rfl) (by rfl) (by rfl) (by exact wn0 rfl) (fun wS (H : Sep ok w wS [.blk b9 28 [.slice A1 a0.Levels.length cp2], .blk b11 28 [.slice A5 a1.Levels.length cp6]] [RE.rd k_Level A1 cp2 a0.Levels, RE.rd k_Level A5 cp6 a1.Levels, RE.cells g20 (o21 + (y5_1).toNat * 3) [.int .i64 el15.W, .int .i64 el15.H, .slice A27 el15.Low.length cp28], RE.rd kInt A27 cp28 el15.Low, RE.cells g37 (o38 + (y5_1).toNat * 3) [.int .i64 el32.W, .int .i64 el32.H, .slice A44 el32.Low.length cp45], RE.rd kInt A44 cp45 el32.Low]) => (x_loadA (j := 0) (vs := [.int .i64 el15.W, .int .i64 el15.H, .slice A27 el15.Low.length cp28]) ag54 (by rfl) (H.cellsR (i := 2) (by rfl)) (by rfl) (by rfl))) ?_
     refine PRT_free (by rfl) (by rfl) (by rfl) (by exact wn0 rfl) (fun wS => (x_fieldAddr fo28_0 (by rfl))) ?_
     refine PRT_take (by rfl) (by rfl) (by rfl) (by exact wn0 rfl) (fun wS (H : Sep ok w wS [.blk b9 28 [.slice A1 a0.Levels.length cp2], .blk b11 28 [.slice A5 a1.Levels.length cp6]] [RE.rd k_Level A1 cp2 a0.Levels, RE.rd k_Level A5 cp6 a1.Levels, RE.cells g20 (o21 + (y5_1).toNat * 3) [.int .i64 el15.W, .int .i64 el15.H, .slice A27 el15.Low.length cp28], RE.rd kInt A27 cp28 el15.Low, RE.cells g37 (o38 + (y5_1).toNat * 3) [.int .i64 el32.W, .int .i64 el32.H, .slice A44 el32.Low.length cp45], RE.rd kInt A44 cp45 el32.Low]) => (x_load (j := 0) (v := .slice A5 a1.Levels.length cp6) sc26 (by rfl) (H.cells (i := 1) (by rfl)) (by rfl))) ?_
     refine PRT_free (by rfl) (by rfl) (by rfl) (by exact wn0 rfl) (fun wS => (x_move (v := .int .i64 y5_1) (by rfl))) ?_
     refine PRT_free (by rfl) (by rfl) (by rfl) (by exact wn0 rfl) (fun wS => (x_indexAddr sl26 sz54 (by rfl) (by rfl) hA36 h33 h34)) ?_
     refine PRT_take (by rfl) (by rfl) (by rfl) (by exact wn0 rfl) (fun wS (H : Sep ok w wS [.blk b9 28 [.slice A1 a0.Levels.length cp2], .blk b11 28 [.slice A5 a1.Levels.length cp6]] [RE.rd k_Level A1 cp2 a0.Levels, RE.rd k_Level A5 cp6 a1.Levels, RE.cells g20 (o21 + (y5_1).toNat * 3) [.int .i64 el15.W, .int .i64 el15.H, .slice A27 el15.Low.length cp28], RE.rd kInt A27 cp28 el15.Low, RE.cells g37 (o38 + (y5_1).toNat * 3) [.int .i64 el32.W, .int .i64 el32.H, .slice A44 el32.Low.length cp45], RE.rd kInt A44 cp45 el32.Low]) => (x_loadA (j := 0) (vs := [.int .i64 el32.W, .int .i64 el32.H, .slice A44 el32.Low.length cp45]) ag54 (by rfl) (H.cellsR (i := 4) (by rfl)) (by rfl) (by rfl))) ?_
     refine PRT_meet (fun r' w' => ∃ (b49 : Nat), ∃ (b51 : Nat), Agr [(2, .pointer (some ⟨b9, 0, none⟩)), (3, .pointer (some ⟨b11, 0, none⟩)), (5, .int .i64 y5_1), (6, .pointer (some ⟨b49, 0, none⟩)), (7, .pointer (some ⟨b51, 0, none⟩)), (32, .agg #[.int .i64 el32.W, .int .i64 el32.H, .slice A44 el32.Low.length cp45])] r' ∧ Sep ok w w' [.blk b9 28 [.slice A1 a0.Levels.length cp2], .blk b11 28 [.slice A5 a1.Levels.length cp6], .blk b49 54 [.int .i64 el15.W, .int .i64 el15.H, .slice A27 el15.Low.length cp28], .blk b51 54 [.int .i64 0, .int .i64 0, .slice none 0 0]] [RE.rd k_Level A1 cp2 a0.Levels, RE.rd k_Level A5 cp6 a1.Levels, RE.cells g20 (o21 + (y5_1).toNat * 3) [.int .i64 el15.W, .int .i64 el15.H, .slice A27 el15.Low.length cp28], RE.rd kInt A27 cp28 el15.Low, RE.cells g37 (o38 + (y5_1).toNat * 3) [.int .i64 el32.W, .int .i64 el32.H, .slice A44 el32.Low.length cp45], RE.rd kInt A44 cp45 el32.Low]) (.lin [.tail 13]) ?_ ?_
     ·intro hJ10_11_12
      refine PRT_meet (fun r' w' => ∃ (b49 : Nat), ∃ (b51 : Nat), Agr [(2, .pointer (some ⟨b9, 0, none⟩)), (3, .pointer (some ⟨b11, 0, none⟩)), (5, .int .i64 y5_1), (6, .pointer (some ⟨b49, 0, none⟩)), (7, .pointer (some ⟨b51, 0, none⟩)), (27, .agg #[.int .i64 el15.W, .int .i64 el15.H, .slice A27 el15.Low.length cp28]), (32, .agg #[.int .i64 el32.W, .int .i64 el32.H, .slice A44 el32.Low.length cp45])] r' ∧ Sep ok w w' [.blk b9 28 [.slice A1 a0.Levels.length cp2], .blk b11 28 [.slice A5 a1.Levels.length cp6], .blk b49 54 [.int .i64 0, .int .i64 0, .slice none 0 0], .blk b51 54 [.int .i64 0, .int .i64 0, .slice none 0 0]] [RE.rd k_Level A1 cp2 a0.Levels, RE.rd k_Level A5 cp6 a1.Levels, RE.cells g20 (o21 + (y5_1).toNat * 3) [.int .i64 el15.W, .int .i64 el15.H, .slice A27 el15.Low.length cp28], RE.rd kInt A27 cp28 el15.Low, RE.cells g37 (o38 + (y5_1).toNat * 3) [.int .i64 el32.W, .int .i64 el32.H, .slice A44 el32.Low.length cp45], RE.rd kInt A44 cp45 el32.Low]) (.all (.br 12 (.lin [.tail 13]) (.stop))) ?_ ?_
      ·intro hJ10_11
       refine PRT_meet (fun r' w' => ∃ (b49 : Nat), Agr [(2, .pointer (some ⟨b9, 0, none⟩)), (3, .pointer (some ⟨b11, 0, none⟩)), (5, .int .i64 y5_1), (6, .pointer (some ⟨b49, 0, none⟩)), (27, .agg #[.int .i64 el15.W, .int .i64 el15.H, .slice A27 el15.Low.length cp28]), (32, .agg #[.int .i64 el32.W, .int .i64 el32.H, .slice A44 el32.Low.length cp45])] r' ∧ Sep ok w w' [.blk b9 28 [.slice A1 a0.Levels.length cp2], .blk b11 28 [.slice A5 a1.Levels.length cp6], .blk b49 54 [.int .i64 0, .int .i64 0, .slice none 0 0], .hole] [RE.rd k_Level A1 cp2 a0.Levels, RE.rd k_Level A5 cp6 a1.Levels, RE.cells g20 (o21 + (y5_1).toNat * 3) [.int .i64 el15.W, .int .i64 el15.H, .slice A27 el15.Low.length cp28], RE.rd kInt A27 cp28 el15.Low, RE.cells g37 (o38 + (y5_1).toNat * 3) [.int .i64 el32.W, .int .i64 el32.H, .slice A44 el32.Low.length cp45], RE.rd kInt A44 cp45 el32.Low]) (.all (.br 11 (.all (.br 12 (.lin [.tail 13]) (.stop))) (.stop))) ?_ ?_
       ·intro hJ10
        refine PRT_meet (fun r' w' => ∃ (b51 : Nat), Agr [(2, .pointer (some ⟨b9, 0, none⟩)), (3, .pointer (some ⟨b11, 0, none⟩)), (5, .int .i64 y5_1), (7, .pointer (some ⟨b51, 0, none⟩)), (27, .agg #[.int .i64 el15.W, .int .i64 el15.H, .slice A27 el15.Low.length cp28]), (32, .agg #[.int .i64 el32.W, .int .i64 el32.H, .slice A44 el32.Low.length cp45])] r' ∧ Sep ok w w' [.blk b9 28 [.slice A1 a0.Levels.length cp2], .blk b11 28 [.slice A5 a1.Levels.length cp6], .hole, .blk b51 54 [.int .i64 0, .int .i64 0, .slice none 0 0]] [RE.rd k_Level A1 cp2 a0.Levels, RE.rd k_Level A5 cp6 a1.Levels, RE.cells g20 (o21 + (y5_1).toNat * 3) [.int .i64 el15.W, .int .i64 el15.H, .slice A27 el15.Low.length cp28], RE.rd kInt A27 cp28 el15.Low, RE.cells g37 (o38 + (y5_1).toNat * 3) [.int .i64 el32.W, .int .i64 el32.H, .slice A44 el32.Low.length cp45], RE.rd kInt A44 cp45 el32.Low]) (.all (.br 10 (.all (.br 12 (.lin [.tail 13]) (.stop))) (.stop))) ?_ ?_
        ·intro hJ11
         have H : Sep ok w w54 [.blk b9 28 [.slice A1 a0.Levels.length cp2], .blk b11 28 [.slice A5 a1.Levels.length cp6], .hole, .hole] [RE.rd k_Level A1 cp2 a0.Levels, RE.rd k_Level A5 cp6 a1.Levels, RE.cells g20 (o21 + (y5_1).toNat * 3) [.int .i64 el15.W, .int .i64 el15.H, .slice A27 el15.Low.length cp28], RE.rd kInt A27 cp28 el15.Low, RE.cells g37 (o38 + (y5_1).toNat * 3) [.int .i64 el32.W, .int .i64 el32.H, .slice A44 el32.Low.length cp45], RE.rd kInt A44 cp45 el32.Low] := ((H).nilHole).nilHole
         refine PRT_all ?_
         refine PRT_br (by rfl) ?_ ?_
         ·show OpR _ _ _ _ _ _ _
          refine O_alloc (by exact wn0 rfl) (by rfl) ze54 (by rfl) H (fun w50 b49 (H : Sep ok w w50 [.blk b9 28 [.slice A1 a0.Levels.length cp2], .blk b11 28 [.slice A5 a1.Levels.length cp6], .hole, .hole, .blk b49 54 [.int .i64 0, .int .i64 0, .slice none 0 0]] [RE.rd k_Level A1 cp2 a0.Levels, RE.rd k_Level A5 cp6 a1.Levels, RE.cells g20 (o21 + (y5_1).toNat * 3) [.int .i64 el15.W, .int .i64 el15.H, .slice A27 el15.Low.length cp28], RE.rd kInt A27 cp28 el15.Low, RE.cells g37 (o38 + (y5_1).toNat * 3) [.int .i64 el32.W, .int .i64 el32.H, .slice A44 el32.Low.length cp45], RE.rd kInt A44 cp45 el32.Low]) => ⟨(Sep.takeL H 2), ?_⟩)
          exact hJ10 _ _ ⟨b49, ⟨rfl, rfl, rfl, rfl, rfl, rfl, trivial⟩, (H).pickL [0, 1, 4, 3] (by decide)⟩
         refine PRT_br (by rfl) ?_ ?_
         ·show OpR _ _ _ _ _ _ _
          refine O_alloc (by exact wn0 rfl) (by rfl) ze54 (by rfl) H (fun w52 b51 (H : Sep ok w w52 [.blk b9 28 [.slice A1 a0.Levels.length cp2], .blk b11 28 [.slice A5 a1.Levels.length cp6], .hole, .hole, .blk b51 54 [.int .i64 0, .int .i64 0, .slice none 0 0]] [RE.rd k_Level A1 cp2 a0.Levels, RE.rd k_Level A5 cp6 a1.Levels, RE.cells g20 (o21 + (y5_1).toNat * 3) [.int .i64 el15.W, .int .i64 el15.H, .slice A27 el15.Low.length cp28], RE.rd kInt A27 cp28 el15.Low, RE.cells g37 (o38 + (y5_1).toNat * 3) [.int .i64 el32.W, .int .i64 el32.H, .slice A44 el32.Low.length cp45], RE.rd kInt A44 cp45 el32.Low]) => ⟨(Sep.takeL H 2), ?_⟩)
          exact hJ11 _ _ ⟨b51, ⟨rfl, rfl, rfl, rfl, rfl, rfl, trivial⟩, (H).pickL [0, 1, 2, 4] (by decide)⟩
         exact PRT_stop
        ·show ∀ r w, _ → _
         rintro r' w' ⟨b51, hA, H⟩
         obtain ⟨r104, rfl⟩ := regen _ hA; clear hA
         obtain ⟨w105, rfl⟩ : ∃ W : World, W = w' := ⟨_, rfl⟩
         refine PRT_all ?_
         refine PRT_br (by rfl) ?_ ?_
         ·show OpR _ _ _ _ _ _ _
          refine O_alloc (by exact wn0 rfl) (by rfl) ze54 (by rfl) H (fun w50 b49 (H : Sep ok w w50 [.blk b9 28 [.slice A1 a0.Levels.length cp2], .blk b11 28 [.slice A5 a1.Levels.length cp6], .hole, .blk b51 54 [.int .i64 0, .int .i64 0, .slice none 0 0], .blk b49 54 [.int .i64 0, .int .i64 0, .slice none 0 0]] [RE.rd k_Level A1 cp2 a0.Levels, RE.rd k_Level A5 cp6 a1.Levels, RE.cells g20 (o21 + (y5_1).toNat * 3) [.int .i64 el15.W, .int .i64 el15.H, .slice A27 el15.Low.length cp28], RE.rd kInt A27 cp28 el15.Low, RE.cells g37 (o38 + (y5_1).toNat * 3) [.int .i64 el32.W, .int .i64 el32.H, .slice A44 el32.Low.length cp45], RE.rd kInt A44 cp45 el32.Low]) => ⟨(Sep.takeL H 2), ?_⟩)
          exact hJ10_11 _ _ ⟨b49, b51, ⟨rfl, rfl, rfl, rfl, rfl, rfl, rfl, trivial⟩, (H).pickL [0, 1, 4, 3] (by decide)⟩
         exact PRT_stop
       ·show ∀ r w, _ → _
        rintro r' w' ⟨b49, hA, H⟩
        obtain ⟨r106, rfl⟩ := regen _ hA; clear hA
        obtain ⟨w107, rfl⟩ : ∃ W : World, W = w' := ⟨_, rfl⟩
        refine PRT_all ?_
        refine PRT_br (by rfl) ?_ ?_
        ·show OpR _ _ _ _ _ _ _
         refine O_alloc (by exact wn0 rfl) (by rfl) ze54 (by rfl) H (fun w52 b51 (H : Sep ok w w52 [.blk b9 28 [.slice A1 a0.Levels.length cp2], .blk b11 28 [.slice A5 a1.Levels.length cp6], .blk b49 54 [.int .i64 0, .int .i64 0, .slice none 0 0], .hole, .blk b51 54 [.int .i64 0, .int .i64 0, .slice none 0 0]] [RE.rd k_Level A1 cp2 a0.Levels, RE.rd k_Level A5 cp6 a1.Levels, RE.cells g20 (o21 + (y5_1).toNat * 3) [.int .i64 el15.W, .int .i64 el15.H, .slice A27 el15.Low.length cp28], RE.rd kInt A27 cp28 el15.Low, RE.cells g37 (o38 + (y5_1).toNat * 3) [.int .i64 el32.W, .int .i64 el32.H, .slice A44 el32.Low.length cp45], RE.rd kInt A44 cp45 el32.Low]) => ⟨(Sep.takeL H 2), ?_⟩)
         exact hJ10_11 _ _ ⟨b49, b51, ⟨rfl, rfl, rfl, rfl, rfl, rfl, rfl, trivial⟩, (H).pickL [0, 1, 2, 4] (by decide)⟩
        exact PRT_stop
      ·show ∀ r w, _ → _
       rintro r' w' ⟨b49, b51, hA, H⟩
       obtain ⟨r108, rfl⟩ := regen _ hA; clear hA
       obtain ⟨w109, rfl⟩ : ∃ W : World, W = w' := ⟨_, rfl⟩
       refine PRT_all ?_
       refine PRT_br (by rfl) ?_ ?_
       ·show OpR _ _ _ _ _ _ _
        refine O_store (i := 2) (off := 0) (by exact wn0 rfl) (by rfl) (by rfl) H (by rfl) (vs := [.int .i64 el15.W, .int .i64 el15.H, .slice A27 el15.Low.length cp28]) (by rfl) sz54 (by rfl) (by rfl) (by rfl) (fun w53 (H : Sep ok w w53 [.blk b9 28 [.slice A1 a0.Levels.length cp2], .blk b11 28 [.slice A5 a1.Levels.length cp6], .blk b49 54 [.int .i64 el15.W, .int .i64 el15.H, .slice A27 el15.Low.length cp28], .blk b51 54 [.int .i64 0, .int .i64 0, .slice none 0 0]] [RE.rd k_Level A1 cp2 a0.Levels, RE.rd k_Level A5 cp6 a1.Levels, RE.cells g20 (o21 + (y5_1).toNat * 3) [.int .i64 el15.W, .int .i64 el15.H, .slice A27 el15.Low.length cp28], RE.rd kInt A27 cp28 el15.Low, RE.cells g37 (o38 + (y5_1).toNat * 3) [.int .i64 el32.W, .int .i64 el32.H, .slice A44 el32.Low.length cp45], RE.rd kInt A44 cp45 el32.Low]) => ⟨(Sep.takeL H 2), ?_⟩)
        exact hJ10_11_12 _ _ ⟨b49, b51, ⟨rfl, rfl, rfl, rfl, rfl, rfl, trivial⟩, H⟩
       exact PRT_stop
     ·show ∀ r w, _ → _
      rintro r' w' ⟨b49, b51, hA, H⟩
      obtain ⟨r110, rfl⟩ := regen _ hA; clear hA
      obtain ⟨w111, rfl⟩ : ∃ W : World, W = w' := ⟨_, rfl⟩
      refine PRT_lin ?_
      refine PR_tail (by rfl) (O_store (i := 3) (off := 0) (by exact wn0 rfl) (by rfl) (by rfl) H (by rfl) (vs := [.int .i64 el32.W, .int .i64 el32.H, .slice A44 el32.Low.length cp45]) (by rfl) sz54 (by rfl) (by rfl) (by rfl) (fun w112 (H : Sep ok w w112 [.blk b9 28 [.slice A1 a0.Levels.length cp2], .blk b11 28 [.slice A5 a1.Levels.length cp6], .blk b49 54 [.int .i64 el15.W, .int .i64 el15.H, .slice A27 el15.Low.length cp28], .blk b51 54 [.int .i64 el32.W, .int .i64 el32.H, .slice A44 el32.Low.length cp45]] [RE.rd k_Level A1 cp2 a0.Levels, RE.rd k_Level A5 cp6 a1.Levels, RE.cells g20 (o21 + (y5_1).toNat * 3) [.int .i64 el15.W, .int .i64 el15.H, .slice A27 el15.Low.length cp28], RE.rd kInt A27 cp28 el15.Low, RE.cells g37 (o38 + (y5_1).toNat * 3) [.int .i64 el32.W, .int .i64 el32.H, .slice A44 el32.Low.length cp45], RE.rd kInt A44 cp45 el32.Low]) => ?_))
      refine PR_nil ?_
      refine W_seq ?_
      refine W_seq ?_
      refine W_region ?_
      refine RL_pure (by exact wn0 rfl) (by rfl) (by rfl) (x_fieldAddr fo54_0 (by rfl)) ?_
      refine RL_pure (by exact wn0 rfl) (by rfl) (by rfl) (x_load (j := 0) (v := .int .i64 el15.W) sc3 (by rfl) (H.cells (i := 2) (by rfl)) (by rfl)) ?_
      refine RL_pure (by exact wn0 rfl) (by rfl) (by rfl) (x_fieldAddr fo54_0 (by rfl)) ?_
      refine RL_pure (by exact wn0 rfl) (by rfl) (by rfl) (x_load (j := 0) (v := .int .i64 el32.W) sc3 (by rfl) (H.cells (i := 3) (by rfl)) (by rfl)) ?_
      refine RL_pure (by exact wn0 rfl) (by rfl) (by rfl) (x_neq (by rfl) (by rfl)) ?_
      refine RL_pure (by exact wn0 rfl) (by rfl) (by rfl) (x_move (v := .bool (el15.W != el32.W)) (by rfl)) ?_
      obtain ⟨b113, hmS, hm⟩ := bind_some hm
      refine RL_cut 6 (fun r' w' => Agr [(44, .bool b113), (2, .pointer (some ⟨b9, 0, none⟩)), (3, .pointer (some ⟨b11, 0, none⟩)), (5, .int .i64 y5_1), (6, .pointer (some ⟨b49, 0, none⟩)), (7, .pointer (some ⟨b51, 0, none⟩))] r' ∧ Sep ok w w' [.blk b9 28 [.slice A1 a0.Levels.length cp2], .blk b11 28 [.slice A5 a1.Levels.length cp6], .blk b49 54 [.int .i64 el15.W, .int .i64 el15.H, .slice A27 el15.Low.length cp28], .blk b51 54 [.int .i64 el32.W, .int .i64 el32.H, .slice A44 el32.Low.length cp45]] [RE.rd k_Level A1 cp2 a0.Levels, RE.rd k_Level A5 cp6 a1.Levels, RE.cells g20 (o21 + (y5_1).toNat * 3) [.int .i64 el15.W, .int .i64 el15.H, .slice A27 el15.Low.length cp28], RE.rd kInt A27 cp28 el15.Low, RE.cells g37 (o38 + (y5_1).toNat * 3) [.int .i64 el32.W, .int .i64 el32.H, .slice A44 el32.Low.length cp45], RE.rd kInt A44 cp45 el32.Low]) ?_ ?_
      ·cases hbS : (el15.W != el32.W)
       ·have hm := cond_f hbS hmS
        refine RL_pure (by exact wn1 rfl rfl rfl rfl) (by rfl) (by rfl) (x_fieldAddr fo54_1 (by rfl)) ?_
        refine RL_pure (by exact wn1 rfl rfl rfl rfl) (by rfl) (by rfl) (x_load (j := 1) (v := .int .i64 el15.H) sc3 (by rfl) (H.cells (i := 2) (by rfl)) (by rfl)) ?_
        refine RL_pure (by exact wn1 rfl rfl rfl rfl) (by rfl) (by rfl) (x_fieldAddr fo54_1 (by rfl)) ?_
        refine RL_pure (by exact wn1 rfl rfl rfl rfl) (by rfl) (by rfl) (x_load (j := 1) (v := .int .i64 el32.H) sc3 (by rfl) (H.cells (i := 3) (by rfl)) (by rfl)) ?_
        refine RL_pure (by exact wn1 rfl rfl rfl rfl) (by rfl) (by rfl) (x_neq (by rfl) (by rfl)) ?_
        refine RL_pure (by exact wn0 rfl) (by rfl) (by rfl) (x_pick_f (v := .bool (el15.H != el32.H)) (by rfl) (by rfl)) ?_
        refine RL_nil ?_
        exact ⟨⟨congrArg Value.bool (Option.some.inj hm), rfl, rfl, rfl, rfl, rfl, trivial⟩, H⟩
       ·have hm := cond_t hbS hmS
        refine RL_cons (OpR_off (by exact wn2 rfl rfl rfl rfl) (by rfl) (by rfl) ?_)
        refine RL_cons (OpR_off (by exact wn2 rfl rfl rfl rfl) (by rfl) (by rfl) ?_)
        refine RL_cons (OpR_off (by exact wn2 rfl rfl rfl rfl) (by rfl) (by rfl) ?_)
        refine RL_cons (OpR_off (by exact wn2 rfl rfl rfl rfl) (by rfl) (by rfl) ?_)
        refine RL_cons (OpR_off (by exact wn2 rfl rfl rfl rfl) (by rfl) (by rfl) ?_)
        refine RL_pure (by exact wn0 rfl) (by rfl) (by rfl) (x_pick_t (v := .bool true) (by rfl) (by rfl)) ?_
        refine RL_nil ?_
        exact ⟨⟨congrArg Value.bool (Option.some.inj hm), rfl, rfl, rfl, rfl, rfl, trivial⟩, H⟩
      ·rintro r' w' ⟨hA, H⟩
       obtain ⟨r114, rfl⟩ := regen _ hA; clear hA
       obtain ⟨w115, rfl⟩ : ∃ W : World, W = w' := ⟨_, rfl⟩
       show RL _ _ _ _ _ _ _
       refine RL_pure (by exact wn0 rfl) (by rfl) (by rfl) (x_move (v := .bool b113) (by rfl)) ?_
       obtain ⟨b116, hmS, hm⟩ := bind_some hm
       refine RL_cut 8 (fun r' w' => Agr [(53, .bool b116), (2, .pointer (some ⟨b9, 0, none⟩)), (3, .pointer (some ⟨b11, 0, none⟩)), (5, .int .i64 y5_1), (6, .pointer (some ⟨b49, 0, none⟩)), (7, .pointer (some ⟨b51, 0, none⟩))] r' ∧ Sep ok w w' [.blk b9 28 [.slice A1 a0.Levels.length cp2], .blk b11 28 [.slice A5 a1.Levels.length cp6], .blk b49 54 [.int .i64 el15.W, .int .i64 el15.H, .slice A27 el15.Low.length cp28], .blk b51 54 [.int .i64 el32.W, .int .i64 el32.H, .slice A44 el32.Low.length cp45]] [RE.rd k_Level A1 cp2 a0.Levels, RE.rd k_Level A5 cp6 a1.Levels, RE.cells g20 (o21 + (y5_1).toNat * 3) [.int .i64 el15.W, .int .i64 el15.H, .slice A27 el15.Low.length cp28], RE.rd kInt A27 cp28 el15.Low, RE.cells g37 (o38 + (y5_1).toNat * 3) [.int .i64 el32.W, .int .i64 el32.H, .slice A44 el32.Low.length cp45], RE.rd kInt A44 cp45 el32.Low]) ?_ ?_
       ·cases hbS : b113
        ·have hm := cond_f hbS hmS
         refine RL_pure (by exact wn1 rfl rfl rfl rfl) (by rfl) (by rfl) (x_fieldAddr fo54_2 (by rfl)) ?_
         refine RL_pure (by exact wn1 rfl rfl rfl rfl) (by rfl) (by rfl) (x_load (j := 2) (v := .slice A27 el15.Low.length cp28) sc23 (by rfl) (H.cells (i := 2) (by rfl)) (by rfl)) ?_
         refine RL_pure (by exact wn1 rfl rfl rfl rfl) (by rfl) (by rfl) (x_len sl23 (by rfl)) ?_
         refine RL_pure (by exact wn1 rfl rfl rfl rfl) (by rfl) (by rfl) (x_fieldAddr fo54_2 (by rfl)) ?_
         refine RL_pure (by exact wn1 rfl rfl rfl rfl) (by rfl) (by rfl) (x_load (j := 2) (v := .slice A44 el32.Low.length cp45) sc23 (by rfl) (H.cells (i := 3) (by rfl)) (by rfl)) ?_
         refine RL_pure (by exact wn1 rfl rfl rfl rfl) (by rfl) (by rfl) (x_len sl23 (by rfl)) ?_
         refine RL_pure (by exact wn1 rfl rfl rfl rfl) (by rfl) (by rfl) (x_neq (by rfl) (by rfl)) ?_
         refine RL_pure (by exact wn0 rfl) (by rfl) (by rfl) (x_pick_f (v := .bool ((el15.Low.length : Int) != (el32.Low.length : Int))) (by rfl) (by rfl)) ?_
         refine RL_nil ?_
         exact ⟨⟨congrArg Value.bool (Option.some.inj hm), rfl, rfl, rfl, rfl, rfl, trivial⟩, H⟩
        ·have hm := cond_t hbS hmS
         refine RL_cons (OpR_off (by exact wn2 rfl rfl rfl rfl) (by rfl) (by rfl) ?_)
         refine RL_cons (OpR_off (by exact wn2 rfl rfl rfl rfl) (by rfl) (by rfl) ?_)
         refine RL_cons (OpR_off (by exact wn2 rfl rfl rfl rfl) (by rfl) (by rfl) ?_)
         refine RL_cons (OpR_off (by exact wn2 rfl rfl rfl rfl) (by rfl) (by rfl) ?_)
         refine RL_cons (OpR_off (by exact wn2 rfl rfl rfl rfl) (by rfl) (by rfl) ?_)
         refine RL_cons (OpR_off (by exact wn2 rfl rfl rfl rfl) (by rfl) (by rfl) ?_)
         refine RL_cons (OpR_off (by exact wn2 rfl rfl rfl rfl) (by rfl) (by rfl) ?_)
         refine RL_pure (by exact wn0 rfl) (by rfl) (by rfl) (x_pick_t (v := .bool true) (by rfl) (by rfl)) ?_
         refine RL_nil ?_
         exact ⟨⟨congrArg Value.bool (Option.some.inj hm), rfl, rfl, rfl, rfl, rfl, trivial⟩, H⟩
       ·rintro r' w' ⟨hA, H⟩
        obtain ⟨r117, rfl⟩ := regen _ hA; clear hA
        obtain ⟨w118, rfl⟩ : ∃ W : World, W = w' := ⟨_, rfl⟩
        show RL _ _ _ _ _ _ _
        refine RL_nil ?_
        refine W_cond (by rfl) (fun hb => ?_) (fun hb => ?_)
        ·have hm := cond_t hb hm
         refine W_seq ?_
         refine W_region ?_
         refine RL_pure (by exact wn0 rfl) (by rfl) (by rfl) (x_assign (v := .bool false) (by rfl)) ?_
         refine RL_nil ?_
         refine W_ret ?_
         obtain rfl := Option.some.inj hm
         exact ⟨[.bool false], (.tmp (by rfl) rfl), rfl, H.none_⟩
        ·have hm := cond_f hb hm
         refine W_skip ?_
         refine W_seq ?_
         refine W_region ?_
         refine RL_pure (by exact wn0 rfl) (by rfl) (by rfl) (x_assign (v := .int .i64 0) (by rfl)) ?_
         refine RL_nil ?_
         refine W_block ?_
         refine W_loop (fun k2 r' w' => ∃ (y8_2 : Int), m21_l2 K y5_1 rec1 el15 el32 k2 y8_2 = some res ∧ Agr [(2, .pointer (some ⟨b9, 0, none⟩)), (3, .pointer (some ⟨b11, 0, none⟩)), (5, .int .i64 y5_1), (6, .pointer (some ⟨b49, 0, none⟩)), (7, .pointer (some ⟨b51, 0, none⟩)), (8, .int .i64 y8_2)] r' ∧ Sep ok w w' [.blk b9 28 [.slice A1 a0.Levels.length cp2], .blk b11 28 [.slice A5 a1.Levels.length cp6], .blk b49 54 [.int .i64 el15.W, .int .i64 el15.H, .slice A27 el15.Low.length cp28], .blk b51 54 [.int .i64 el32.W, .int .i64 el32.H, .slice A44 el32.Low.length cp45]] [RE.rd k_Level A1 cp2 a0.Levels, RE.rd k_Level A5 cp6 a1.Levels, RE.cells g20 (o21 + (y5_1).toNat * 3) [.int .i64 el15.W, .int .i64 el15.H, .slice A27 el15.Low.length cp28], RE.rd kInt A27 cp28 el15.Low, RE.cells g37 (o38 + (y5_1).toNat * 3) [.int .i64 el32.W, .int .i64 el32.H, .slice A44 el32.Low.length cp45], RE.rd kInt A44 cp45 el32.Low]) K ?_ ?_
         ·exact ⟨0, hm, ⟨rfl, rfl, rfl, rfl, rfl, rfl, trivial⟩, H⟩
         ·rintro k2 r' w' ⟨y8_2, hm, hA, H⟩
          obtain ⟨r119, rfl⟩ := regen _ hA; clear hA
          obtain ⟨w120, rfl⟩ : ∃ W : World, W = w' := ⟨_, rfl⟩
          cases k2 with
          | zero => exact (none_some hm).elim
          | succ k2 =>
           have hm : m21_l2b K y5_1 rec1 el15 el32 (m21_l2 K y5_1 rec1 el15 el32 k2) y8_2 = some res := hm
           unfold m21_l2b at hm
           obtain ⟨rec2, hrec2⟩ : ∃ f, m21_l2 K y5_1 rec1 el15 el32 k2 = f := ⟨_, rfl⟩
           rw [hrec2] at hm
           refine W_seq ?_
           refine W_seq ?_
           refine W_region ?_
           refine RL_pure (by exact wn0 rfl) (by rfl) (by rfl) (x_move (v := .int .i64 y8_2) (by rfl)) ?_
           refine RL_pure (by exact wn0 rfl) (by rfl) (by rfl) (x_fieldAddr fo54_2 (by rfl)) ?_
           refine RL_pure (by exact wn0 rfl) (by rfl) (by rfl) (x_load (j := 2) (v := .slice A27 el15.Low.length cp28) sc23 (by rfl) (H.cells (i := 2) (by rfl)) (by rfl)) ?_
           refine RL_pure (by exact wn0 rfl) (by rfl) (by rfl) (x_len sl23 (by rfl)) ?_
           refine RL_pure (by exact wn0 rfl) (by rfl) (by rfl) (x_lss (by rfl) (by rfl)) ?_
           refine RL_nil ?_
           refine W_cond (by rfl) (fun hb => ?_) (fun hb => ?_)
           ·have hm := cond_t hb hm
            refine W_skip ?_
            refine W_seq ?_
            refine W_block ?_
            refine W_seq ?_
            refine W_draw [.free 0, .take 1, .free 2, .free 3, .take 4, .free 5, .take 6, .free 7, .free 8, .take 9, .free 10] (fun wS => Sep ok w wS [.blk b9 28 [.slice A1 a0.Levels.length cp2], .blk b11 28 [.slice A5 a1.Levels.length cp6], .blk b49 54 [.int .i64 el15.W, .int .i64 el15.H, .slice A27 el15.Low.length cp28], .blk b51 54 [.int .i64 el32.W, .int .i64 el32.H, .slice A44 el32.Low.length cp45]] [RE.rd k_Level A1 cp2 a0.Levels, RE.rd k_Level A5 cp6 a1.Levels, RE.cells g20 (o21 + (y5_1).toNat * 3) [.int .i64 el15.W, .int .i64 el15.H, .slice A27 el15.Low.length cp28], RE.rd kInt A27 cp28 el15.Low, RE.cells g37 (o38 + (y5_1).toNat * 3) [.int .i64 el32.W, .int .i64 el32.H, .slice A44 el32.Low.length cp45], RE.rd kInt A44 cp45 el32.Low]) [] [0, 2, 3, 5, 7, 8, 10] mixed0 (by kernel_rfl) (by kernel_rfl) (by kernel_rfl) (by rfl) (by exact H.drew) ?_
            obtain ⟨w121, hW⟩ : ∃ W : World, W = { w120 with drawn := w120.drawn + 1 } := ⟨_, rfl⟩
            rw [← hW]
            have H : Sep ok w w121 [.blk b9 28 [.slice A1 a0.Levels.length cp2], .blk b11 28 [.slice A5 a1.Levels.length cp6], .blk b49 54 [.int .i64 el15.W, .int .i64 el15.H, .slice A27 el15.Low.length cp28], .blk b51 54 [.int .i64 el32.W, .int .i64 el32.H, .slice A44 el32.Low.length cp45]] [RE.rd k_Level A1 cp2 a0.Levels, RE.rd k_Level A5 cp6 a1.Levels, RE.cells g20 (o21 + (y5_1).toNat * 3) [.int .i64 el15.W, .int .i64 el15.H, .slice A27 el15.Low.length cp28], RE.rd kInt A27 cp28 el15.Low, RE.cells g37 (o38 + (y5_1).toNat * 3) [.int .i64 el32.W, .int .i64 el32.H, .slice A44 el32.Low.length cp45], RE.rd kInt A44 cp45 el32.Low] := by rw [hW]; exact H.drew
            clear hW
            refine PR_free (by rfl) (by rfl) (by rfl) (by exact wn0 rfl) (fun wS => (x_fieldAddr fo54_2 (by rfl))) ?_
            refine PR_take (by rfl) (by rfl) (by rfl) (by exact wn0 rfl) (fun wS (H : Sep ok w wS [.blk b9 28 [.slice A1 a0.Levels.length cp2], .blk b11 28 [.slice A5 a1.Levels.length cp6], .blk b49 54 [.int .i64 el15.W, .int .i64 el15.H, .slice A27 el15.Low.length cp28], .blk b51 54 [.int .i64 el32.W, .int .i64 el32.H, .slice A44 el32.Low.length cp45]] [RE.rd k_Level A1 cp2 a0.Levels, RE.rd k_Level A5 cp6 a1.Levels, RE.cells g20 (o21 + (y5_1).toNat * 3) [.int .i64 el15.W, .int .i64 el15.H, .slice A27 el15.Low.length cp28], RE.rd kInt A27 cp28 el15.Low, RE.cells g37 (o38 + (y5_1).toNat * 3) [.int .i64 el32.W, .int .i64 el32.H, .slice A44 el32.Low.length cp45], RE.rd kInt A44 cp45 el32.Low]) => (x_load (j := 2) (v := .slice A27 el15.Low.length cp28) sc23 (by rfl) (H.cells (i := 2) (by rfl)) (by rfl))) ?_
            refine PR_free (by rfl) (by rfl) (by rfl) (by exact wn0 rfl) (fun wS => (x_move (v := .int .i64 y8_2) (by rfl))) ?_
            obtain ⟨el122, h123, h124, he125, hm⟩ := idx_some hm
            obtain ⟨g127, o128, hA126⟩ := (H.rd (i := 3) (by rfl)).addr he125
            refine PR_free (by rfl) (by rfl) (by rfl) (by exact wn0 rfl) (fun wS => (x_indexAddr sl23 sz3 (by rfl) (by rfl) hA126 h123 h124)) ?_
            refine PR_take (by rfl) (by rfl) (by rfl) (by exact wn0 rfl) (fun wS (H : Sep ok w wS [.blk b9 28 [.slice A1 a0.Levels.length cp2], .blk b11 28 [.slice A5 a1.Levels.length cp6], .blk b49 54 [.int .i64 el15.W, .int .i64 el15.H, .slice A27 el15.Low.length cp28], .blk b51 54 [.int .i64 el32.W, .int .i64 el32.H, .slice A44 el32.Low.length cp45]] [RE.rd k_Level A1 cp2 a0.Levels, RE.rd k_Level A5 cp6 a1.Levels, RE.cells g20 (o21 + (y5_1).toNat * 3) [.int .i64 el15.W, .int .i64 el15.H, .slice A27 el15.Low.length cp28], RE.rd kInt A27 cp28 el15.Low, RE.cells g37 (o38 + (y5_1).toNat * 3) [.int .i64 el32.W, .int .i64 el32.H, .slice A44 el32.Low.length cp45], RE.rd kInt A44 cp45 el32.Low]) => (x_load (j := 0) (v := .int .i64 el122) sc3 (by rfl) (Rd.flatAt (n := 1) (H.rd (i := 3) (by rfl)) hA126 he125) (by rfl))) ?_
            refine PR_free (by rfl) (by rfl) (by rfl) (by exact wn0 rfl) (fun wS => (x_fieldAddr fo54_2 (by rfl))) ?_
            refine PR_take (by rfl) (by rfl) (by rfl) (by exact wn0 rfl) (fun wS (H : Sep ok w wS [.blk b9 28 [.slice A1 a0.Levels.length cp2], .blk b11 28 [.slice A5 a1.Levels.length cp6], .blk b49 54 [.int .i64 el15.W, .int .i64 el15.H, .slice A27 el15.Low.length cp28], .blk b51 54 [.int .i64 el32.W, .int .i64 el32.H, .slice A44 el32.Low.length cp45]] [RE.rd k_Level A1 cp2 a0.Levels, RE.rd k_Level A5 cp6 a1.Levels, RE.cells g20 (o21 + (y5_1).toNat * 3) [.int .i64 el15.W, .int .i64 el15.H, .slice A27 el15.Low.length cp28], RE.rd kInt A27 cp28 el15.Low, RE.cells g37 (o38 + (y5_1).toNat * 3) [.int .i64 el32.W, .int .i64 el32.H, .slice A44 el32.Low.length cp45], RE.rd kInt A44 cp45 el32.Low]) => (x_load (j := 2) (v := .slice A44 el32.Low.length cp45) sc23 (by rfl) (H.cells (i := 3) (by rfl)) (by rfl))) ?_
            refine PR_free (by rfl) (by rfl) (by rfl) (by exact wn0 rfl) (fun wS => (x_move (v := .int .i64 y8_2) (by rfl))) ?_
            obtain ⟨el129, h130, h131, he132, hm⟩ := idx_some hm
            obtain ⟨g134, o135, hA133⟩ := (H.rd (i := 5) (by rfl)).addr he132
            refine PR_free (by rfl) (by rfl) (by rfl) (by exact wn0 rfl) (fun wS => (x_indexAddr sl23 sz3 (by rfl) (by rfl) hA133 h130 h131)) ?_
            refine PR_take (by rfl) (by rfl) (by rfl) (by exact wn0 rfl) (fun wS (H : Sep ok w wS [.blk b9 28 [.slice A1 a0.Levels.length cp2], .blk b11 28 [.slice A5 a1.Levels.length cp6], .blk b49 54 [.int .i64 el15.W, .int .i64 el15.H, .slice A27 el15.Low.length cp28], .blk b51 54 [.int .i64 el32.W, .int .i64 el32.H, .slice A44 el32.Low.length cp45]] [RE.rd k_Level A1 cp2 a0.Levels, RE.rd k_Level A5 cp6 a1.Levels, RE.cells g20 (o21 + (y5_1).toNat * 3) [.int .i64 el15.W, .int .i64 el15.H, .slice A27 el15.Low.length cp28], RE.rd kInt A27 cp28 el15.Low, RE.cells g37 (o38 + (y5_1).toNat * 3) [.int .i64 el32.W, .int .i64 el32.H, .slice A44 el32.Low.length cp45], RE.rd kInt A44 cp45 el32.Low]) => (x_load (j := 0) (v := .int .i64 el129) sc3 (by rfl) (Rd.flatAt (n := 1) (H.rd (i := 5) (by rfl)) hA133 he132) (by rfl))) ?_
            refine PR_free (by rfl) (by rfl) (by rfl) (by exact wn0 rfl) (fun wS => (x_neq (by rfl) (by rfl))) ?_
            refine PR_nil ?_
            refine W_cond (by rfl) (fun hb => ?_) (fun hb => ?_)
            ·have hm := cond_t hb hm
             refine W_seq ?_
             refine W_region ?_
             refine RL_pure (by exact wn0 rfl) (by rfl) (by rfl) (x_assign (v := .bool false) (by rfl)) ?_
             refine RL_nil ?_
             refine W_ret ?_
             obtain rfl := Option.some.inj hm
             exact ⟨[.bool false], (.tmp (by rfl) rfl), rfl, H.none_⟩
            ·have hm := cond_f hb hm
             refine W_skip ?_
             refine W_region ?_
             refine RL_pure (by exact wn0 rfl) (by rfl) (by rfl) (x_move (v := .int .i64 y8_2) (by rfl)) ?_
             obtain ⟨x136, ex136, qx136, ux136, hm⟩ := ck_some hm
             refine RL_pure (by exact wn0 rfl) (by rfl) (by rfl) (x_add (by rfl) (by rfl) ux136) ?_
             refine RL_pure (by exact wn0 rfl) (by rfl) (by rfl) (x_assign (v := .int .i64 x136) (by rfl)) ?_
             refine RL_nil ?_
             subst hrec2
             exact ⟨k2, Nat.lt_succ_self k2, x136, hm, ⟨rfl, rfl, rfl, rfl, rfl, rfl, trivial⟩, H⟩
           ·have hm := cond_f hb hm
            refine W_exit ?_
            refine W_region ?_
            refine RL_pure (by exact wn0 rfl) (by rfl) (by rfl) (x_move (v := .int .i64 y5_1) (by rfl)) ?_
            obtain ⟨x137, ex137, qx137, ux137, hm⟩ := ck_some hm
            refine RL_pure (by exact wn0 rfl) (by rfl) (by rfl) (x_add (by rfl) (by rfl) ux137) ?_
            refine RL_pure (by exact wn0 rfl) (by rfl) (by rfl) (x_assign (v := .int .i64 x137) (by rfl)) ?_
            refine RL_nil ?_
            subst hrec1
            exact ⟨k1, Nat.lt_succ_self k1, x137, hm, ⟨rfl, rfl, rfl, trivial⟩, ((H).takeL 2).pick [0, 1]⟩
    ·have hm := cond_f hb hm
     refine W_exit ?_
     refine W_seq ?_
     refine W_region ?_
     refine RL_pure (by exact wn0 rfl) (by rfl) (by rfl) (x_assign (v := .bool true) (by rfl)) ?_
     refine RL_nil ?_
     refine W_ret ?_
     obtain rfl := Option.some.inj hm
     exact ⟨[.bool true], (.tmp (by rfl) rfl), rfl, H.none_⟩
end Go.Proofs.YtobkigllalbkiaaV.M
