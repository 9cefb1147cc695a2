/- Pyramids, in plain Lean: what the models of 'build' and 'low' compute. -/
import Derived.Test.YtobkigllalbkiaaVMF17
set_option linter.unusedVariables false
set_option linter.unusedSimpArgs false
namespace Go.Proofs.YtobkigllalbkiaaV
section words
variable {α β : Type}
theorem ck_in {x : Int} {k : Int → Option α} (h0 : -9223372036854775808 ≤ x) (h1 : x ≤ 9223372036854775807) : ck x k = k x := if_pos ⟨h0, h1⟩
theorem idx_in {l : List α} {i : Int} {a : α} {k : α → Option β} (h0 : 0 ≤ i) (h : l[i.toNat]? = some a) : idx l i k = k a := by simp [idx, h0, h]
theorem idx_nat {l : List α} {i : Nat} {a : α} {k : α → Option β} (h : l[i]? = some a) : idx l (i : Int) k = k a := idx_in (by omega) (by simpa using h)
theorem nz_in {b : Int} {k : Option α} (h : b ≠ 0) : nz b k = k := if_pos h
theorem ge0_in {b : Int} {k : Option α} (h : 0 ≤ b) : ge0 b k = k := if_pos h
theorem apd_in {bytes : Nat} {l : List α} {x : α} {k : List α → Option β} (h : (l.length + 1) * bytes ≤ 140737488355328) : apd bytes l x k = k (l ++ [x]) := if_pos h
theorem apds_in {bytes : Nat} {l m : List α} {k : List α → Option β} (h : (l.length + m.length) * bytes ≤ 140737488355328) : apds bytes l m k = k (l ++ m) := if_pos h
theorem mks_in {bytes : Nat} {n : Int} {z : α} {k : List α → Option β} (h0 : 0 ≤ n) (h : n * bytes ≤ 140737488355328) : mks bytes n z k = k (List.replicate n.toNat z) := if_pos ⟨h0, h⟩
theorem mn_eq (a b : Int) : mn a b = min a b := by unfold mn; split <;> omega
theorem mx_eq (a b : Int) : mx a b = max a b := by unfold mx; split <;> omega
end words
namespace M
/-- A level that a function tells. -/
def mkL (w h : Nat) (v : Nat → Nat → Int) : S_Level := ⟨w, h, (List.range (w * h)).map fun i => v (i % w) (i / w)⟩
def atL (w h : Nat) (v : Nat → Nat → Int) (x y : Nat) : Int := if w ≤ x ∨ h ≤ y then 66560 else v x y
theorem place_lt {w h x y : Nat} (hx : x < w) (hy : y < h) : y * w + x < w * h := by
  have : (y + 1) * w ≤ h * w := Nat.mul_le_mul_right _ hy
  rw [Nat.add_mul, Nat.one_mul] at this
  rw [Nat.mul_comm w h]; omega
theorem place_mod {w x y : Nat} (hx : x < w) : (y * w + x) % w = x := by rw [Nat.mul_comm, Nat.mul_add_mod, Nat.mod_eq_of_lt hx]
theorem place_div {w x y : Nat} (hx : x < w) : (y * w + x) / w = y := by
  rw [Nat.mul_comm, Nat.mul_add_div (by omega), Nat.div_eq_of_lt hx, Nat.add_zero]
theorem mkL_get {w h x y : Nat} {v : Nat → Nat → Int} (hx : x < w) (hy : y < h) : (mkL w h v).Low[y * w + x]? = some (v x y) := by
  have h1 := place_lt hx hy
  simp [mkL, h1, place_mod hx, place_div hx]
theorem m109_eq {K w h x y : Nat} {v : Nat → Nat → Int} (hw : w ≤ 64) (hh : h ≤ 64) : m109 K (mkL w h v) x y = some (atL w h v x y) := by
  unfold m109 atL
  by_cases hx : w ≤ x
  · have h1 : (mkL w h v).W ≤ (x : Int) := by show (w : Int) ≤ x; omega
    simp [h1, hx]
  · by_cases hy : h ≤ y
    · have h1 : ¬ (mkL w h v).W ≤ (x : Int) := by show ¬ (w : Int) ≤ x; omega
      have h2 : (mkL w h v).H ≤ (y : Int) := by show (h : Int) ≤ y; omega
      simp [h1, h2, hx, hy]
    · have h1 : ¬ (mkL w h v).W ≤ (x : Int) := by show ¬ (w : Int) ≤ x; omega
      have h2 : ¬ (mkL w h v).H ≤ (y : Int) := by show ¬ (h : Int) ≤ y; omega
      have hlt : y * w ≤ 64 * 64 := Nat.mul_le_mul (by omega) (by omega)
      have e1 : (y : Int) * (mkL w h v).W = ((y * w : Nat) : Int) := by show (y : Int) * (w : Int) = _; push_cast; rfl
      have e2 : ((y * w : Nat) : Int) + (x : Int) = ((y * w + x : Nat) : Int) := by push_cast; rfl
      simp only [h1, h2, decide_false, cond_false, Option.bind_some, hx, hy, or_self, if_false]
      rw [e1, ck_in (by omega) (by omega), e2, ck_in (by omega) (by omega), idx_nat (mkL_get (by omega) (by omega))]
/-- The level behind one. -/
def nxt (w h : Nat) (v : Nat → Nat → Int) (x y : Nat) : Int := mn (mn (mn (atL w h v (2 * x) (2 * y)) (atL w h v (2 * x + 1) (2 * y))) (atL w h v (2 * x) (2 * y + 1))) (atL w h v (2 * x + 1) (2 * y + 1))
def half (w : Nat) : Nat := (w + 1) / 2
theorem m58_inner {K w h a : Nat} {v : Nat → Nat → Int} {row : List S_Level} {rec1 : List S_Level → Int → Int → List Int → Option S_Pyramid} (hw : w ≤ 64) (hh : h ≤ 64) (ha : 0 < a) (ha2 : a ≤ 64) {b : Nat} (hb2 : b ≤ 64) (hrow : row.length ≤ 100) :
    ∀ (k i : Nat), i ≤ a * b → a * b < i + k → m58_l2 K row w h (mkL w h v).Low rec1 a b (a * b : Nat) k ((List.range i).map fun j => nxt w h v (j % a) (j / a)) i = rec1 (row ++ [mkL a b (nxt w h v)]) a b (mkL a b (nxt w h v)).Low := by
  have hab : a * b ≤ 64 * 64 := Nat.mul_le_mul ha2 hb2
  intro k
  induction k with
  | zero => intro i h1 h2; omega
  | succ k ih =>
    intro i h1 h2
    show m58_l2b K row w h (mkL w h v).Low rec1 a b (a * b : Nat) (m58_l2 K row w h (mkL w h v).Low rec1 a b (a * b : Nat) k) _ i = _
    unfold m58_l2b
    by_cases hi : i < a * b
    · have h3 : (i : Int) < ((a * b : Nat) : Int) := by omega
      have hm : i % a < a := Nat.mod_lt _ ha
      have hd : i / a < b := Nat.div_lt_of_lt_mul hi
      have ne : (a : Int) ≠ 0 := by omega
      have e1 : Int.tmod (i : Int) (a : Int) = ((i % a : Nat) : Int) := rfl
      have e2 : Int.tdiv (i : Int) (a : Int) = ((i / a : Nat) : Int) := rfl
      have e3 : (2 : Int) * ((i % a : Nat) : Int) = ((2 * (i % a) : Nat) : Int) := by push_cast; rfl
      have e4 : (2 : Int) * ((i / a : Nat) : Int) = ((2 * (i / a) : Nat) : Int) := by push_cast; rfl
      have e5 : ((2 * (i % a) : Nat) : Int) + 1 = ((2 * (i % a) + 1 : Nat) : Int) := by push_cast; rfl
      have e6 : ((2 * (i / a) : Nat) : Int) + 1 = ((2 * (i / a) + 1 : Nat) : Int) := by push_cast; rfl
      have e7 : (i : Int) + 1 = ((i + 1 : Nat) : Int) := by push_cast; rfl
      have e8 : (⟨(w : Int), (h : Int), (mkL w h v).Low⟩ : S_Level) = mkL w h v := rfl
      have hl : (((List.range i).map fun j => nxt w h v (j % a) (j / a)).length + 1) * 8 ≤ 140737488355328 := by simp; omega
      simp only [h3, decide_true, cond_true, nz_in ne, e1, e2, e3, e4]
      rw [ck_in (by omega) (by omega), ck_in (by omega) (by omega), e4, ck_in (by omega) (by omega)]
      simp only [e5, e6]
      rw [ck_in (by omega) (by omega), ck_in (by omega) (by omega), ck_in (by omega) (by omega), ck_in (by omega) (by omega)]
      simp only [e8, m109_eq hw hh, Option.bind_some]
      rw [apd_in hl, e7, ck_in (by omega) (by omega)]
      have := ih (i + 1) (by omega) (by omega)
      rw [← this, List.range_succ, List.map_append]
      rfl
    · have h3 : ¬ (i : Int) < ((a * b : Nat) : Int) := by omega
      obtain rfl : i = a * b := by omega
      simp only [h3, decide_false, cond_false]
      rw [apd_in (by omega)]
      rfl
/-! ### all levels -/
def lvls : Nat → Nat → Nat → (Nat → Nat → Int) → List S_Level
  | 0, _, _, _ => []
  | n + 1, w, h, v => if w * h ≤ 1 then [] else mkL (half w) (half h) (nxt w h v) :: lvls n (half w) (half h) (nxt w h v)
theorem half_le {w n : Nat} (h : w ≤ 2 ^ (n + 1)) : half w ≤ 2 ^ n := by rw [Nat.pow_succ] at h; unfold half; omega
theorem half_pos {w : Nat} (h : 1 ≤ w) : 1 ≤ half w := by unfold half; omega
theorem half_le64 {w : Nat} (h : w ≤ 64) : half w ≤ 64 := by unfold half; omega
theorem tdiv_half (w : Nat) : Int.tdiv ((w + 1 : Nat) : Int) 2 = ((half w : Nat) : Int) := rfl
theorem m58_start {K w h a : Nat} {v : Nat → Nat → Int} {row : List S_Level} {rec1 : List S_Level → Int → Int → List Int → Option S_Pyramid} (hK : 5000 ≤ K) (hw : w ≤ 64) (hh : h ≤ 64) (ha : 0 < a) (ha2 : a ≤ 64) {b : Nat} (hb2 : b ≤ 64) (hrow : row.length ≤ 100) :
    m58_l2 K row w h (mkL w h v).Low rec1 a b (a * b : Nat) K [] 0 = rec1 (row ++ [mkL a b (nxt w h v)]) a b (mkL a b (nxt w h v)).Low := by
  have hab : a * b ≤ 64 * 64 := Nat.mul_le_mul ha2 hb2
  exact m58_inner (K := K) (w := w) (h := h) (v := v) (row := row) (rec1 := rec1) hw hh ha ha2 hb2 hrow K 0 (Nat.zero_le _) (by omega)
theorem m58_outer {K : Nat} (hK : 5000 ≤ K) : ∀ (n w h : Nat) (v : Nat → Nat → Int) (row : List S_Level) (k : Nat), w ≤ 2 ^ n → h ≤ 2 ^ n → w ≤ 64 → h ≤ 64 → 1 ≤ w → 1 ≤ h → n < k → row.length + n ≤ 100 →
    m58_l1 K k row w h (mkL w h v).Low = some ⟨row ++ lvls n w h v⟩ := by
  have hs := fun (w h a : Nat) (v : Nat → Nat → Int) (row : List S_Level) (rec1 : List S_Level → Int → Int → List Int → Option S_Pyramid) => @m58_start K w h a v row rec1 hK
  clear hK
  intro n w h v row k
  induction k generalizing n w h v row with
  | zero => intro _ _ _ _ _ _ hk _; exact absurd hk (Nat.not_lt_zero _)
  | succ k ihk =>
    intro hw hh hw64 hh64 hw1 hh1 hk hrow
    show m58_l1b K (m58_l1 K k) row w h (mkL w h v).Low = _
    unfold m58_l1b
    have hwh : w * h ≤ 64 * 64 := Nat.mul_le_mul hw64 hh64
    have e1 : (w : Int) * (h : Int) = ((w * h : Nat) : Int) := by push_cast; rfl
    rw [e1, ck_in (by omega) (by omega)]
    by_cases h1 : w * h ≤ 1
    · have h2 : ¬ (1 : Int) < ((w * h : Nat) : Int) := by omega
      simp only [h2, decide_false, cond_false]
      cases n with
      | zero => simp [lvls]
      | succ n => simp [lvls, h1]
    · have h2 : (1 : Int) < ((w * h : Nat) : Int) := by omega
      have e2 : (w : Int) + 1 = ((w + 1 : Nat) : Int) := by push_cast; rfl
      have e3 : (h : Int) + 1 = ((h + 1 : Nat) : Int) := by push_cast; rfl
      have hp : half w * half h ≤ 64 * 64 := Nat.mul_le_mul (half_le64 hw64) (half_le64 hh64)
      have hw2 := half_le64 hw64
      have hh2 := half_le64 hh64
      have e4 : ((half w : Nat) : Int) * ((half h : Nat) : Int) = ((half w * half h : Nat) : Int) := by push_cast; rfl
      rw [decide_eq_true h2, cond_true]
      rw [e2, ck_in (by omega) (by omega), tdiv_half, ck_in (by omega) (by omega), e3, ck_in (by omega) (by omega), tdiv_half, ck_in (by omega) (by omega), e4, ck_in (by omega) (by omega)]
      have hin' := hs w h (half w) v row (m58_l1 K k) hw64 hh64 (half_pos hw1) hw2 hh2 (by omega)
      rw [hin']
      cases n with
      | zero =>
        have : w = 1 := by simp at hw; omega
        have : h = 1 := by simp at hh; omega
        subst_vars; simp at h1
      | succ n =>
        have ih := ihk n (half w) (half h) (nxt w h v) (row ++ [mkL (half w) (half h) (nxt w h v)]) (half_le hw) (half_le hh) hw2 hh2 (half_pos hw1) (half_pos hh1) (by omega) (by simp; omega)
        rw [ih]
        simp [lvls, h1]
/-- build: the first level and those behind it. -/
def pyr (w h : Nat) (v : Nat → Nat → Int) : List S_Level := mkL w h v :: lvls 6 w h v
theorem m58_eq {K w h : Nat} {v : Nat → Nat → Int} (hK : 5000 ≤ K) (hw : w ≤ 64) (hh : h ≤ 64) (hw1 : 1 ≤ w) (hh1 : 1 ≤ h) : m58 K (mkL w h v) = some ⟨pyr w h v⟩ := by
  unfold m58
  rw [apd_in (by simp)]
  exact m58_outer hK 6 w h v [mkL w h v] K (by simpa using hw) (by simpa using hh) hw hh hw1 hh1 (by omega) (by simp)
/-! ### the levels by number -/
def wi (w : Nat) : Nat → Nat
  | 0 => w
  | i + 1 => half (wi w i)
def vi (w h : Nat) (v : Nat → Nat → Int) : Nat → Nat → Nat → Int
  | 0 => v
  | i + 1 => nxt (wi w i) (wi h i) (vi w h v i)
theorem wi_half (w : Nat) : ∀ i, wi (half w) i = wi w (i + 1)
  | 0 => rfl
  | i + 1 => by show half (wi (half w) i) = half (wi w (i + 1)); rw [wi_half w i]
theorem vi_half (w h : Nat) (v : Nat → Nat → Int) : ∀ i, vi (half w) (half h) (nxt w h v) i = vi w h v (i + 1)
  | 0 => rfl
  | i + 1 => by
    show nxt (wi (half w) i) (wi (half h) i) (vi (half w) (half h) (nxt w h v) i) = nxt (wi w (i + 1)) (wi h (i + 1)) (vi w h v (i + 1))
    rw [wi_half, wi_half, vi_half w h v i]
theorem lvls_get : ∀ (n w h : Nat) (v : Nat → Nat → Int) (i : Nat), i < (lvls n w h v).length → (lvls n w h v)[i]? = some (mkL (wi w (i + 1)) (wi h (i + 1)) (vi w h v (i + 1)))
  | 0, w, h, v, i, hi => by simp [lvls] at hi
  | n + 1, w, h, v, i, hi => by
    by_cases h1 : w * h ≤ 1
    · simp [lvls, h1] at hi
    · simp only [lvls, h1, if_false, List.length_cons] at hi ⊢
      cases i with
      | zero => rfl
      | succ i =>
        rw [List.getElem?_cons_succ, lvls_get n (half w) (half h) (nxt w h v) i (by omega), wi_half, wi_half, vi_half]
theorem lvls_last : ∀ (n w h : Nat) (v : Nat → Nat → Int), w ≤ 2 ^ n → h ≤ 2 ^ n → 1 ≤ w → 1 ≤ h → ∀ i, i ≤ (lvls n w h v).length → (wi w i = 1 ∧ wi h i = 1 ↔ i = (lvls n w h v).length)
  | 0, w, h, v, hw, hh, hw1, hh1, i, hi => by
    simp [lvls] at hi ⊢; subst hi; simp at hw hh; simp [wi]; omega
  | n + 1, w, h, v, hw, hh, hw1, hh1, i, hi => by
    by_cases h1 : w * h ≤ 1
    · simp only [lvls, h1, if_true, List.length_nil] at hi ⊢
      obtain rfl : i = 0 := by omega
      have : w = 1 := by
        have := Nat.mul_le_mul_left w hh1
        omega
      have : h = 1 := by
        have := Nat.mul_le_mul_right h hw1
        omega
      subst_vars; simp [wi]
    · simp only [lvls, h1, if_false, List.length_cons] at hi ⊢
      cases i with
      | zero =>
        simp only [wi]
        constructor
        · rintro ⟨rfl, rfl⟩; simp at h1
        · intro h; omega
      | succ i =>
        have := lvls_last n (half w) (half h) (nxt w h v) (half_le hw) (half_le hh) (half_pos hw1) (half_pos hh1) i (by omega)
        rw [wi_half, wi_half] at this
        rw [this]; omega
theorem lvls_len : ∀ (n w h : Nat) (v : Nat → Nat → Int), (lvls n w h v).length ≤ n
  | 0, _, _, _ => by simp [lvls]
  | n + 1, w, h, v => by
    by_cases h1 : w * h ≤ 1
    · simp [lvls, h1]
    · have := lvls_len n (half w) (half h) (nxt w h v)
      simp [lvls, h1]; omega
theorem pyr_get {w h : Nat} {v : Nat → Nat → Int} {i : Nat} (hi : i ≤ (lvls 6 w h v).length) : (pyr w h v)[i]? = some (mkL (wi w i) (wi h i) (vi w h v i)) := by
  cases i with
  | zero => rfl
  | succ i => rw [pyr, List.getElem?_cons_succ, lvls_get _ _ _ _ _ (by omega)]
theorem wi_pos {w : Nat} (h : 1 ≤ w) : ∀ i, 1 ≤ wi w i
  | 0 => h
  | i + 1 => half_pos (wi_pos h i)
theorem wi_le {w : Nat} (h : w ≤ 64) : ∀ i, wi w i ≤ 64
  | 0 => h
  | i + 1 => half_le64 (wi_le h i)
theorem div_succ (p i : Nat) : p / 2 ^ (i + 1) = p / 2 ^ i / 2 := by rw [Nat.pow_succ, Nat.div_div_eq_div_mul]
theorem lt_wi {w p : Nat} (hp : p < w) : ∀ i, p / 2 ^ i < wi w i
  | 0 => by simpa [wi] using hp
  | i + 1 => by
    have := lt_wi hp i
    rw [div_succ]; show _ < half _; unfold half; omega
/-- Each level's number is the least below it. -/
theorem vi_least {w h : Nat} {v : Nat → Nat → Int} (hv : ∀ x y, x < w → y < h → v x y ≤ 66560) : ∀ (i x y : Nat), x < wi w i → y < wi h i →
    (∃ px py, px < w ∧ py < h ∧ px / 2 ^ i = x ∧ py / 2 ^ i = y ∧ vi w h v i x y = v px py) ∧ ∀ px py, px < w → py < h → px / 2 ^ i = x → py / 2 ^ i = y → vi w h v i x y ≤ v px py
  | 0, x, y, hx, hy => by
    refine ⟨⟨x, y, hx, hy, by simp, by simp, rfl⟩, fun px py _ _ h1 h2 => ?_⟩
    simp at h1 h2; subst h1; subst h2; exact Int.le_refl _
  | i + 1, x, y, hx, hy => by
    have hx' : 2 * x < wi w i := by have : x < half (wi w i) := hx; unfold half at this; omega
    have hy' : 2 * y < wi h i := by have : y < half (wi h i) := hy; unfold half at this; omega
    have ih := vi_least hv i
    have hle : ∀ a b, a < wi w i → b < wi h i → vi w h v i a b ≤ 66560 := fun a b ha hb => by
      obtain ⟨px, py, h1, h2, _, _, e⟩ := (ih a b ha hb).1
      rw [e]; exact hv px py h1 h2
    have hat : ∀ a b, atL (wi w i) (wi h i) (vi w h v i) a b = if a < wi w i ∧ b < wi h i then vi w h v i a b else 66560 := fun a b => by
      unfold atL
      by_cases h : a < wi w i ∧ b < wi h i
      · rw [if_pos h, if_neg (by omega)]
      · rw [if_neg h, if_pos (by omega)]
    -- the four below it
    have hm : vi w h v (i + 1) x y = min (min (min (atL (wi w i) (wi h i) (vi w h v i) (2 * x) (2 * y)) (atL (wi w i) (wi h i) (vi w h v i) (2 * x + 1) (2 * y))) (atL (wi w i) (wi h i) (vi w h v i) (2 * x) (2 * y + 1))) (atL (wi w i) (wi h i) (vi w h v i) (2 * x + 1) (2 * y + 1)) := by
      show nxt _ _ _ x y = _
      unfold nxt; rw [mn_eq, mn_eq, mn_eq]
    have h00 : atL (wi w i) (wi h i) (vi w h v i) (2 * x) (2 * y) = vi w h v i (2 * x) (2 * y) := by rw [hat, if_pos ⟨hx', hy'⟩]
    have hb := hle _ _ hx' hy'
    have key : ∃ a b, a < wi w i ∧ b < wi h i ∧ a / 2 = x ∧ b / 2 = y ∧ vi w h v (i + 1) x y = vi w h v i a b := by
      have hd : ∀ (a b : Nat), a / 2 = x → b / 2 = y → vi w h v (i + 1) x y = atL (wi w i) (wi h i) (vi w h v i) a b → ∃ a b, a < wi w i ∧ b < wi h i ∧ a / 2 = x ∧ b / 2 = y ∧ vi w h v (i + 1) x y = vi w h v i a b := by
        intro a b ha hb' e
        rw [hat] at e
        split at e
        · rename_i hin; exact ⟨a, b, hin.1, hin.2, ha, hb', e⟩
        · refine ⟨2 * x, 2 * y, hx', hy', by omega, by omega, ?_⟩
          have : vi w h v (i + 1) x y ≤ vi w h v i (2 * x) (2 * y) := by rw [hm, h00]; omega
          omega
      have h4 : vi w h v (i + 1) x y = atL (wi w i) (wi h i) (vi w h v i) (2 * x) (2 * y) ∨ vi w h v (i + 1) x y = atL (wi w i) (wi h i) (vi w h v i) (2 * x + 1) (2 * y) ∨ vi w h v (i + 1) x y = atL (wi w i) (wi h i) (vi w h v i) (2 * x) (2 * y + 1) ∨ vi w h v (i + 1) x y = atL (wi w i) (wi h i) (vi w h v i) (2 * x + 1) (2 * y + 1) := by rw [hm]; omega
      rcases h4 with h | h | h | h
      · exact hd _ _ (by omega) (by omega) h
      · exact hd _ _ (by omega) (by omega) h
      · exact hd _ _ (by omega) (by omega) h
      · exact hd _ _ (by omega) (by omega) h
    refine ⟨?_, fun px py hpx hpy h1 h2 => ?_⟩
    · obtain ⟨a, b, ha, hb, hax, hby, e⟩ := key
      obtain ⟨px, py, h1, h2, h3, h4, e2⟩ := (ih a b ha hb).1
      exact ⟨px, py, h1, h2, by rw [div_succ, h3, hax], by rw [div_succ, h4, hby], by rw [e, e2]⟩
    · rw [div_succ] at h1 h2
      have hpx' := lt_wi hpx i
      have hpy' := lt_wi hpy i
      have h3 := (ih _ _ hpx' hpy').2 px py hpx hpy rfl rfl
      have hatp : atL (wi w i) (wi h i) (vi w h v i) (px / 2 ^ i) (py / 2 ^ i) = vi w h v i (px / 2 ^ i) (py / 2 ^ i) := by rw [hat, if_pos ⟨hpx', hpy'⟩]
      have hc1 : px / 2 ^ i = 2 * x ∨ px / 2 ^ i = 2 * x + 1 := by omega
      have hc2 : py / 2 ^ i = 2 * y ∨ py / 2 ^ i = 2 * y + 1 := by omega
      refine Int.le_trans ?_ h3
      rw [← hatp, hm]
      rcases hc1 with c1 | c1 <;> rcases hc2 with c2 | c2 <;> rw [c1, c2] <;> omega
end M
end Go.Proofs.YtobkigllalbkiaaV
