/- PyramidLeast, in plain Lean: its model answers true. -/
import Derived.Test.YtobkigllalbkiaaVFrn
import Derived.Test.YtobkigllalbkiaaVMF5
set_option linter.unusedVariables false
set_option linter.unusedSimpArgs false
namespace Go.Proofs.YtobkigllalbkiaaV.M
theorem ck_nat {α : Type} {n : Nat} {k : Int → Option α} (h : n ≤ 9223372036854775807) : ck (n : Int) k = k n := ck_in (by omega) (by omega)
theorem lete_in {α β : Type} {x : α} {k : α → Option β} : lete x k = k x := rfl
theorem FOK.prodle {f : S_Frame} {w h : Nat} (q : FOK f w h) : w * h ≤ 4096 := Nat.mul_le_mul q.w64 q.h64
theorem MinB.bounds {w h : Nat} {v : Nat → Nat → Int} {b1 b2 m1 m2 : Int} {S : Nat → Nat → Prop} (h1 : MinB w h v b1 m1 S) (h2 : MinB w h v b2 m2 S) (hS : ∃ px py, px < w ∧ py < h ∧ S px py ∧ v px py ≤ b1 ∧ v px py ≤ b2) : m1 = m2 := by
  obtain ⟨px, py, hx, hy, hs, l1, l2⟩ := hS
  have a1 := h1.all px py hx hy hs
  have a2 := h2.all px py hx hy hs
  have c1 : ∃ qx qy, qx < w ∧ qy < h ∧ S qx qy ∧ m1 = v qx qy := by
    rcases h1.at_ with e | e
    · exact ⟨px, py, hx, hy, hs, by omega⟩
    · exact e
  have c2 : ∃ qx qy, qx < w ∧ qy < h ∧ S qx qy ∧ m2 = v qx qy := by
    rcases h2.at_ with e | e
    · exact ⟨px, py, hx, hy, hs, by omega⟩
    · exact e
  obtain ⟨ax, ay, q1, q2, q3, e1⟩ := c1
  obtain ⟨bx, by_, q4, q5, q6, e2⟩ := c2
  have := h1.all bx by_ q4 q5 q6
  have := h2.all ax ay q1 q2 q3
  omega
/-- One more pixel. -/
theorem MinB.step {w h k : Nat} {v : Nat → Nat → Int} {b m : Int} {S : Nat → Nat → Prop} (h1 : MinB w h v b m (fun px py => py * w + px < k ∧ S px py)) {x y : Nat} (hx : x < w) (hy : y < h) (hk : y * w + x = k) (hs : S x y) :
    MinB w h v b (min m (v x y)) (fun px py => py * w + px < k + 1 ∧ S px py) := by
  have hle := h1.le
  refine ⟨by omega, fun px py hpx hpy ⟨h2, h3⟩ => ?_, ?_⟩
  · by_cases he : py * w + px = k
    · have hw : 0 < w := by omega
      have e1 : px = x := by
        have a := place_mod (y := py) hpx
        have b := place_mod (y := y) hx
        rw [he] at a; rw [hk] at b; omega
      have e2 : py = y := by
        have a := place_div (y := py) hpx
        have b := place_div (y := y) hx
        rw [he] at a; rw [hk] at b; omega
      subst e1; subst e2; omega
    · have := h1.all px py hpx hpy ⟨by omega, h3⟩; omega
  · rcases (by omega : min m (v x y) = m ∨ min m (v x y) = v x y) with e | e
    · rcases h1.at_ with e1 | ⟨px, py, q1, q2, ⟨q3, q4⟩, e1⟩
      · exact .inl (e.trans e1)
      · exact .inr ⟨px, py, q1, q2, ⟨by omega, q4⟩, e.trans e1⟩
    · exact .inr ⟨x, y, hx, hy, ⟨by omega, hs⟩, e⟩
theorem MinB.skip {w h k : Nat} {v : Nat → Nat → Int} {b m : Int} {S : Nat → Nat → Prop} (h1 : MinB w h v b m (fun px py => py * w + px < k ∧ S px py)) (hw : 0 < w) (hs : ¬ S (k % w) (k / w)) :
    MinB w h v b m (fun px py => py * w + px < k + 1 ∧ S px py) := by
  refine h1.iff' fun px py hpx hpy => ?_
  constructor
  · rintro ⟨a, b⟩; exact ⟨by omega, b⟩
  · rintro ⟨a, c⟩
    refine ⟨?_, c⟩
    by_cases he : py * w + px = k
    · exfalso; apply hs
      rw [← he, place_mod hpx, place_div hpx]; exact c
    · omega
theorem MinB.start {w h : Nat} {v : Nat → Nat → Int} {b : Int} {S : Nat → Nat → Prop} : MinB w h v b b (fun px py => py * w + px < 0 ∧ S px py) := ⟨Int.le_refl _, fun px py _ _ ⟨h, _⟩ => absurd h (Nat.not_lt_zero _), .inl rfl⟩
theorem MinB.done {w h : Nat} {v : Nat → Nat → Int} {b m : Int} {S : Nat → Nat → Prop} (h1 : MinB w h v b m (fun px py => py * w + px < w * h ∧ S px py)) : MinB w h v b m S :=
  h1.iff' fun px py hpx hpy => ⟨fun q => q.2, fun q => ⟨place_lt hpx hpy, q⟩⟩
theorem split_place {w h k : Nat} (hw : 0 < w) (hk : k < w * h) : k % w < w ∧ k / w < h ∧ k / w * w + k % w = k :=
  ⟨Nat.mod_lt _ hw, Nat.div_lt_of_lt_mul hk, by rw [Nat.mul_comm]; exact Nat.div_add_mod k w⟩
/-- The last loop: the least of the rectangle. -/
theorem m5_l4_eq {K : Nat} {f : S_Frame} {w h : Nat} (q : FOK f w h) {r : S_Rect} {ok : Bool} {n : Int × Int} {m : Int} (hend : MinB w h (dv f w) 1048576 m (inR r)) : ∀ (k i : Nat) (x : Int), i ≤ w * h → w * h < i + k → MinB w h (dv f w) 1048576 x (fun px py => py * w + px < i ∧ inR r px py) →
    m5_l4 K f r ok n k x i = some (ok && (n.1 == m)) := by
  have hp : w * h ≤ 4096 := Nat.mul_le_mul q.w64 q.h64
  have hw1 := q.w1
  intro k
  induction k with
  | zero => intro i x h1 h2; omega
  | succ k ih =>
    intro i x h1 h2 hx
    show m5_l4b K f r ok n (m5_l4 K f r ok n k) x i = _
    unfold m5_l4b
    by_cases hi : i < w * h
    · have h3 : (i : Int) < (f.Depth.length : Int) := by rw [q.d]; omega
      obtain ⟨s1, s2, s3⟩ := split_place (by omega) hi
      obtain ⟨d, it, tr, g1, _, _, e, _⟩ := q.at_ s1 s2
      rw [s3] at g1
      have ne : (w : Int) ≠ 0 := by omega
      have hd64 : i / w ≤ 64 := by have := q.h64; omega
      have c2 : ∀ {α : Type} (k : Int → Option α), ck ((i / w : Nat) : Int) k = k ((i / w : Nat) : Int) := fun k => ck_nat (Nat.le_trans hd64 (by decide))
      have c3 : ∀ {α : Type} (k : Int → Option α), ck ((i : Int) + 1) k = k ((i + 1 : Nat) : Int) := fun k => ck_in (by omega) (by omega)
      have e1 : Int.tmod (i : Int) (w : Int) = ((i % w : Nat) : Int) := rfl
      have e2 : Int.tdiv (i : Int) (w : Int) = ((i / w : Nat) : Int) := rfl
      rw [decide_eq_true h3, cond_true, q.W, nz_in ne, nz_in ne, nz_in ne, nz_in ne, e1, e2, c2, c2]
      by_cases hr : inR r (i % w) (i / w)
      · have := hr
        obtain ⟨r1, r2, r3, r4⟩ := this
        rw [decide_eq_true r1, cond_true, Option.bind_some, decide_eq_true r2, cond_true, Option.bind_some, decide_eq_true r3, cond_true, Option.bind_some, decide_eq_true r4, cond_true, idx_nat g1, c3, mn_eq, ← e]
        exact ih (i + 1) _ (by omega) (by omega) (hx.step s1 s2 s3 hr)
      · have key : ∀ (R : Bool → Option Bool), ((bif (decide (r.X0 ≤ ((i % w : Nat) : Int))) then (some (decide (((i % w : Nat) : Int) ≤ r.X1))) else some false).bind fun b154 => ((bif b154 then (some (decide (r.Y0 ≤ ((i / w : Nat) : Int)))) else some false).bind fun b158 => ((bif b158 then (some (decide (((i / w : Nat) : Int) ≤ r.Y1))) else some false).bind R))) = R false := by
          intro R
          unfold inR at hr
          by_cases r1 : r.X0 ≤ ((i % w : Nat) : Int)
          · by_cases r2 : ((i % w : Nat) : Int) ≤ r.X1
            · by_cases r3 : r.Y0 ≤ ((i / w : Nat) : Int)
              · have r4 : ¬ ((i / w : Nat) : Int) ≤ r.Y1 := fun r4 => hr ⟨r1, r2, r3, r4⟩
                rw [decide_eq_true r1, decide_eq_true r2, decide_eq_true r3, decide_eq_false r4]; rfl
              · rw [decide_eq_true r1, decide_eq_true r2, decide_eq_false r3]; rfl
            · rw [decide_eq_true r1, decide_eq_false r2]; rfl
          · rw [decide_eq_false r1]; rfl
        rw [key, cond_false, c3]
        exact ih (i + 1) x (by omega) (by omega) (hx.skip (by omega) hr)
    · have h3 : ¬ (i : Int) < (f.Depth.length : Int) := by rw [q.d]; omega
      obtain rfl : i = w * h := by omega
      have : x = m := hx.done.same hend
      subst this
      rw [decide_eq_false h3, cond_false]
      cases ok <;> rfl
theorem place_inj {w x y x' y' : Nat} (hx : x < w) (hx' : x' < w) (h : y * w + x = y' * w + x') : x = x' ∧ y = y' := by
  have a := place_mod (y := y) hx
  have b := place_mod (y := y') hx'
  have c := place_div (y := y) hx
  have d := place_div (y := y') hx'
  rw [h] at a c
  exact ⟨by omega, by omega⟩
/-- The level's own numbers, held against the least. -/
theorem m5_l3_eq {K s lev : Nat} {rec1 : Int → Int → Option Bool} {el : S_Level} {L : List Int} (hn : L.length ≤ 100000) (hs : s ≤ 1000) (hlev : lev ≤ 1000)
    (hall : ∀ (j : Nat) (c : Int), L[j]? = some c → -100000 ≤ c ∧ c ≤ 0 ∧ el.Low[j]? = some (c + 70000)) : ∀ (k i : Nat), i ≤ L.length → L.length < i + k → m5_l3 K s lev rec1 el L k i = rec1 (2 * s : Nat) (lev + 1 : Nat) := by
  intro k
  induction k with
  | zero => intro i h1 h2; omega
  | succ k ih =>
    intro i h1 h2
    show m5_l3b K s lev rec1 el L (m5_l3 K s lev rec1 el L k) i = _
    unfold m5_l3b
    by_cases hi : i < L.length
    · have h3 : (i : Int) < (L.length : Int) := by omega
      have g1 : L[i]? = some L[i] := List.getElem?_eq_getElem hi
      obtain ⟨c1, c2, g2⟩ := hall i _ g1
      rw [decide_eq_true h3, cond_true, idx_nat g1, ck_in (by omega) (by omega), idx_nat g2, show ((L[i] + 70000) != (L[i] + 70000)) = false by simp, cond_false, cast_succ, ck_nat (by omega)]
      exact ih (i + 1) (by omega) (by omega)
    · have h3 : ¬ (i : Int) < (L.length : Int) := by omega
      have e1 : (2 : Int) * (s : Int) = ((2 * s : Nat) : Int) := by push_cast; rfl
      rw [decide_eq_false h3, cond_false, e1, ck_nat (by omega), cast_succ, ck_nat (by omega)]
/-- The least below each place of a level. -/
def Lst (w h a b s k : Nat) (v : Nat → Nat → Int) (L : List Int) : Prop :=
  L.length = a * b ∧ ∀ x y, x < a → y < b → ∃ c, L[y * a + x]? = some c ∧ MinB w h (fun px py => v px py - 70000) 0 c (fun px py => py * w + px < k ∧ (px / s = x ∧ py / s = y))
theorem m5_l2_eq {K : Nat} {f : S_Frame} {w h a b s lev : Nat} (q : FOK f w h) {rec1 : Int → Int → Option Bool} {u : Nat → Nat → Int} (hs1 : 1 ≤ s) (hs : s ≤ 64) (ha64 : a ≤ 64) (hb64 : b ≤ 64) (ha : ∀ px, px < w → px / s < a) (hb : ∀ py, py < h → py / s < b) {res : Option Bool}
    (hend : ∀ L, Lst w h a b s (w * h) (dv f w) L → m5_l3 K s lev rec1 (mkL a b u) L K 0 = res) : ∀ (k i : Nat) (L : List Int), i ≤ w * h → w * h < i + k → Lst w h a b s i (dv f w) L → m5_l2 K f s lev rec1 (mkL a b u) k L i = res := by
  have hp : w * h ≤ 4096 := Nat.mul_le_mul q.w64 q.h64
  have hab : a * b ≤ 4096 := Nat.mul_le_mul ha64 hb64
  have hw1 := q.w1
  intro k
  induction k with
  | zero => intro i L h1 h2; omega
  | succ k ih =>
    intro i L h1 h2 hL
    show m5_l2b K f s lev rec1 (mkL a b u) (m5_l2 K f s lev rec1 (mkL a b u) k) L i = _
    unfold m5_l2b
    by_cases hi : i < w * h
    · have h3 : (i : Int) < (f.Depth.length : Int) := by rw [q.d]; omega
      obtain ⟨s1, s2, s3⟩ := split_place (by omega) hi
      obtain ⟨d, it, tr, g1, _, _, e, hpix⟩ := q.at_ s1 s2
      rw [s3] at g1
      have hrange := hpix.range
      have hx := ha _ s1
      have hy := hb _ s2
      have hh64 := q.h64
      have b1 : i / w ≤ 64 := by have := s2; exact Nat.le_trans (Nat.le_of_lt this) hh64
      have b2 : i / w / s ≤ 64 := Nat.le_trans (Nat.le_of_lt hy) hb64
      have b3 : i % w / s ≤ 64 := Nat.le_trans (Nat.le_of_lt hx) ha64
      have hlt := place_lt hx hy
      obtain ⟨c, gc, hc⟩ := hL.2 _ _ hx hy
      have ne : (w : Int) ≠ 0 := by omega
      have ne2 : (s : Int) ≠ 0 := by omega
      have b4 : i / w / s * a ≤ 64 * 64 := Nat.mul_le_mul b2 ha64
      have k1 : ∀ {α : Type} (k : Int → Option α), ck ((i / w : Nat) : Int) k = k ((i / w : Nat) : Int) := fun k => ck_nat (Nat.le_trans b1 (by decide))
      have k2 : ∀ {α : Type} (k : Int → Option α), ck ((i / w / s : Nat) : Int) k = k ((i / w / s : Nat) : Int) := fun k => ck_nat (Nat.le_trans b2 (by decide))
      have k3 : ∀ {α : Type} (k : Int → Option α), ck ((i / w / s * a : Nat) : Int) k = k ((i / w / s * a : Nat) : Int) := fun k => ck_nat (Nat.le_trans b4 (by decide))
      have k4 : ∀ {α : Type} (k : Int → Option α), ck ((i % w / s : Nat) : Int) k = k ((i % w / s : Nat) : Int) := fun k => ck_nat (Nat.le_trans b3 (by decide))
      have k5 : ∀ {α : Type} (k : Int → Option α), ck ((i / w / s * a + i % w / s : Nat) : Int) k = k ((i / w / s * a + i % w / s : Nat) : Int) := fun k => ck_nat (Nat.le_trans (Nat.add_le_add b4 b3) (by decide))
      have e1 : Int.tdiv (i : Int) (w : Int) = ((i / w : Nat) : Int) := rfl
      have e2 : Int.tdiv ((i / w : Nat) : Int) (s : Int) = ((i / w / s : Nat) : Int) := rfl
      have e3 : Int.tmod (i : Int) (w : Int) = ((i % w : Nat) : Int) := rfl
      have e4 : Int.tdiv ((i % w : Nat) : Int) (s : Int) = ((i % w / s : Nat) : Int) := rfl
      have e5 : ((i / w / s : Nat) : Int) * (mkL a b u).W = ((i / w / s * a : Nat) : Int) := by show ((i / w / s : Nat) : Int) * (a : Int) = _; push_cast; rfl
      have e6 : ((i / w / s * a : Nat) : Int) + ((i % w / s : Nat) : Int) = ((i / w / s * a + i % w / s : Nat) : Int) := by push_cast; rfl
      have h4 : ¬ (L.length : Int) ≤ ((i / w / s * a + i % w / s : Nat) : Int) := by
        rw [hL.1]; exact Int.not_le.2 (by exact_mod_cast hlt)
      rw [decide_eq_true h3, cond_true, q.W, nz_in ne, e1, k1, nz_in ne2, e2, k2, e5, k3, nz_in ne, nz_in ne2, e3, e4, k4, e6, k5, decide_eq_false h4, cond_false, idx_nat gc, idx_nat g1, ck_in (by omega) (by omega), idx_nat gc]
      rw [lete_in, cast_succ, ck_nat (by have := q.prodle; omega), mn_eq]
      refine ih (i + 1) _ (by omega) (by omega) ⟨by rw [List.length_set]; exact hL.1, fun x y hx' hy' => ?_⟩
      by_cases hxy : x = i % w / s ∧ y = i / w / s
      · obtain ⟨rfl, rfl⟩ := hxy
        refine ⟨min c (d - 70000), ?_, ?_⟩
        · rw [Int.toNat_natCast, List.getElem?_set_self (by rw [hL.1]; exact hlt)]
        · have := hc.step (x := i % w) (y := i / w) s1 s2 s3 ⟨rfl, rfl⟩
          rw [e] at this
          exact this
      · obtain ⟨c', gc', hc'⟩ := hL.2 x y hx' hy'
        refine ⟨c', ?_, hc'.skip (by omega) fun hS => hxy ⟨hS.1.symm, hS.2.symm⟩⟩
        rw [Int.toNat_natCast, List.getElem?_set_ne]
        · exact gc'
        · intro he
          obtain ⟨z1, z2⟩ := place_inj hx hx' he
          exact hxy ⟨z1.symm, z2.symm⟩
    · have h3 : ¬ (i : Int) < (f.Depth.length : Int) := by rw [q.d]; omega
      obtain rfl : i = w * h := by omega
      rw [decide_eq_false h3, cond_false]
      exact hend L hL
theorem Lst.start {w h a b s : Nat} {v : Nat → Nat → Int} : Lst w h a b s 0 v (List.replicate (a * b) 0) := by
  refine ⟨List.length_replicate, fun x y hx hy => ⟨0, ?_, MinB.start⟩⟩
  rw [List.getElem?_replicate, if_pos (place_lt hx hy)]
/-- What the loop found is what the level says. -/
theorem Lst.level {w h i : Nat} {v : Nat → Nat → Int} {L : List Int} (d : Dom w h v) (hL : Lst w h (wi w i) (wi h i) (2 ^ i) (w * h) v L) :
    ∀ (j : Nat) (c : Int), L[j]? = some c → -100000 ≤ c ∧ c ≤ 0 ∧ (mkL (wi w i) (wi h i) (vi w h v i)).Low[j]? = some (c + 70000) := by
  intro j c hc
  have hj : j < wi w i * wi h i := by
    have := (List.getElem?_eq_some_iff.1 hc).1
    rw [hL.1] at this; exact this
  obtain ⟨s1, s2, s3⟩ := split_place (wi_pos d.w1 i) hj
  obtain ⟨c', g, hm⟩ := hL.2 _ _ s1 s2
  rw [s3] at g
  rw [hc] at g
  obtain rfl := Option.some.inj g
  have hl := vi_least d.hi i _ _ s1 s2
  obtain ⟨px, py, hpx, hpy, e1, e2, ev⟩ := hl.1
  have hlo := d.lo px py hpx hpy
  have hhi := d.hi px py hpx hpy
  have hm' := hm.done
  have hv : MinB w h (fun px py => v px py - 70000) 0 (vi w h v i (j % wi w i) (j / wi w i) - 70000) (fun px py => px / 2 ^ i = j % wi w i ∧ py / 2 ^ i = j / wi w i) := by
    refine ⟨by omega, fun qx qy hqx hqy hq => ?_, .inr ⟨px, py, hpx, hpy, ⟨e1, e2⟩, by rw [ev]⟩⟩
    have := hl.2 qx qy hqx hqy hq.1 hq.2
    show _ ≤ v qx qy - 70000
    omega
  have := hm'.same hv
  refine ⟨by omega, by omega, ?_⟩
  have g2 := mkL_get (v := vi w h v i) s1 s2
  rw [s3] at g2
  rw [g2]
  congr 1; omega
theorem two_pow_cast (i : Nat) : (2 : Int) * ((2 ^ i : Nat) : Int) = ((2 ^ (i + 1) : Nat) : Int) := by rw [Nat.pow_succ]; push_cast; omega
theorem m5_l1_eq {K : Nat} (hK : 10000 ≤ K) {f : S_Frame} {w h : Nat} {r : S_Rect} (q : FOK f w h) : ∀ (k i : Nat), i ≤ (lvls 6 w h (dv f w)).length + 1 → (lvls 6 w h (dv f w)).length + 1 < i + k →
    m5_l1 K f r true (⟨pyr w h (dv f w)⟩, 0) k (2 ^ i : Nat) i = some true := by
  have d := q.dom
  have hll := lvls_len 6 w h (dv f w)
  have hlast := lvls_last 6 w h (dv f w) (by have := q.w64; simpa using this) (by have := q.h64; simpa using this) q.w1 q.h1
  intro k
  induction k with
  | zero => intro i h1 h2; omega
  | succ k ih =>
    intro i h1 h2
    show m5_l1b K f r true (⟨pyr w h (dv f w)⟩, 0) (m5_l1 K f r true (⟨pyr w h (dv f w)⟩, 0) k) (2 ^ i : Nat) i = _
    unfold m5_l1b
    have hlen : (((⟨pyr w h (dv f w)⟩ : S_Pyramid), (0 : Int)).1.Levels.length : Nat) = (lvls 6 w h (dv f w)).length + 1 := pyr_len
    by_cases hi : i ≤ (lvls 6 w h (dv f w)).length
    · have h3 : (i : Int) < ((((⟨pyr w h (dv f w)⟩ : S_Pyramid), (0 : Int)).1.Levels.length : Nat) : Int) := by rw [hlen]; omega
      have hi6 : i ≤ 6 := by omega
      have g := pyr_get (w := w) (h := h) (v := dv f w) hi
      have a1 := wi_pos q.w1 i
      have b1 := wi_pos q.h1 i
      have a64 := wi_le q.w64 i
      have b64 := wi_le q.h64 i
      obtain ⟨s1, s64⟩ := pow_le hi6
      have hl := hlast i hi
      have hlt1 : ∀ px, px < w → px / 2 ^ i < wi w i := fun px hp => lt_wi hp i
      have hlt2 : ∀ py, py < h → py / 2 ^ i < wi h i := fun py hp => lt_wi hp i
      have hlv := fun L (hL : Lst w h (wi w i) (wi h i) (2 ^ i) (w * h) (dv f w) L) => Lst.level d hL
      have hab : wi w i * wi h i ≤ 4096 := Nat.mul_le_mul a64 b64
      have e2 : (wi w i : Int) * (wi h i : Int) = ((wi w i * wi h i : Nat) : Int) := by push_cast; rfl
      have eW : (mkL (wi w i) (wi h i) (vi w h (dv f w) i)).W = (wi w i : Int) := rfl
      have eH : (mkL (wi w i) (wi h i) (vi w h (dv f w) i)).H = (wi h i : Int) := rfl
      have c1 : ¬ ((wi w i : Nat) : Int) < 1 := by omega
      have c2 : ¬ ((wi h i : Nat) : Int) < 1 := by omega
      have hb : ((bif ((wi w i : Int) == 1) then some ((wi h i : Int) == 1) else some false).bind fun b69 => (ck (((((⟨pyr w h (dv f w)⟩ : S_Pyramid), (0 : Int)).1.Levels.length : Nat) : Int) - 1) fun x72 => some (!(b69 == ((i : Int) == x72))))) = some false := by
        have e1 : (((((⟨pyr w h (dv f w)⟩ : S_Pyramid), (0 : Int)).1.Levels.length : Nat) : Int) - 1) = ((lvls 6 w h (dv f w)).length : Int) := by rw [hlen]; omega
        have ckn : ∀ {α : Type} (k : Int → Option α), ck ((lvls 6 w h (dv f w)).length : Int) k = k ((lvls 6 w h (dv f w)).length : Int) := fun k => ck_nat (by omega)
        rw [e1]
        simp only [ckn]
        by_cases p1 : wi w i = 1 ∧ wi h i = 1
        · have := hl.1 p1
          rw [show ((wi w i : Int) == 1) = true by simp; omega, show ((wi h i : Int) == 1) = true by simp; omega, show ((i : Int) == ((lvls 6 w h (dv f w)).length : Int)) = true by simp; omega]; rfl
        · have p2 : ¬ i = (lvls 6 w h (dv f w)).length := fun e => p1 (hl.2 e)
          rw [show ((i : Int) == ((lvls 6 w h (dv f w)).length : Int)) = false by simp; omega]
          by_cases p3 : wi w i = 1
          · rw [show ((wi w i : Int) == 1) = true by simp; omega, show ((wi h i : Int) == 1) = false by simp; omega]; rfl
          · rw [show ((wi w i : Int) == 1) = false by simp; omega]; rfl
      rw [decide_eq_true h3, cond_true, idx_nat g, eW, eH, decide_eq_false c1, cond_false, decide_eq_false c2, Option.bind_some, cond_false, e2, ck_nat (by omega), mkL_len, bne_self_eq_false, Option.bind_some, cond_false, hb, Option.bind_some, cond_false, mks_in (by omega) (by omega)]
      have hst : List.replicate (((wi w i * wi h i : Nat) : Int)).toNat (0 : Int) = List.replicate (wi w i * wi h i) 0 := by rw [Int.toNat_natCast]
      rw [hst]
      have key := m5_l2_eq (K := K) (f := f) (w := w) (h := h) (a := wi w i) (b := wi h i) (s := 2 ^ i) (lev := i) q (rec1 := m5_l1 K f r true (⟨pyr w h (dv f w)⟩, 0) k) (u := vi w h (dv f w) i) s1 s64 a64 b64 hlt1 hlt2 (res := some true) (fun L hL => ?_) K 0 (List.replicate (wi w i * wi h i) 0) (Nat.zero_le _) (by have := q.prodle; omega) Lst.start
      · exact key
      · have e3 : m5_l3 K (2 ^ i : Nat) i (m5_l1 K f r true (⟨pyr w h (dv f w)⟩, 0) k) (mkL (wi w i) (wi h i) (vi w h (dv f w) i)) L K 0 = _ := m5_l3_eq (K := K) (s := 2 ^ i) (lev := i) (rec1 := m5_l1 K f r true (⟨pyr w h (dv f w)⟩, 0) k) (by rw [hL.1]; omega) (by omega) (by omega) (hlv L hL) K 0 (Nat.zero_le _) (by rw [hL.1]; omega)
        rw [e3]
        rw [show 2 * 2 ^ i = 2 ^ (i + 1) by rw [Nat.pow_succ, Nat.mul_comm]]
        exact ih (i + 1) (by omega) (by omega)
    · have h3 : ¬ (i : Int) < ((((⟨pyr w h (dv f w)⟩ : S_Pyramid), (0 : Int)).1.Levels.length : Nat) : Int) := by rw [hlen]; omega
      rw [decide_eq_false h3, cond_false]
      have eP : (((⟨pyr w h (dv f w)⟩ : S_Pyramid), (0 : Int))).1 = ⟨pyr w h (dv f w)⟩ := rfl
      rw [eP]
      rcases m17_pyr hK d r with ⟨_, e⟩ | ⟨hr, m, e, hm⟩
      · rw [e]; rfl
      · rw [e, Option.bind_some, show (((m, (0 : Int)) : Int × Int).2 != 0) = false from rfl, cond_false]
        obtain ⟨r1, r2, r3, r4, r5, r6⟩ := hr
        obtain ⟨x, hx⟩ : ∃ x : Nat, r.X0 = (x : Int) := ⟨r.X0.toNat, by omega⟩
        obtain ⟨y, hy⟩ : ∃ y : Nat, r.Y0 = (y : Int) := ⟨r.Y0.toNat, by omega⟩
        have hxw : x < w := by omega
        have hyh : y < h := by omega
        have hin : inR r x y := ⟨by omega, by omega, by omega, by omega⟩
        have hend : MinB w h (dv f w) 1048576 m (inR r) := by
          have hle := hm.le
          refine ⟨by omega, hm.all, .inr ?_⟩
          rcases hm.at_ with e | e
          · have := hm.all x y hxw hyh hin
            have := d.hi x y hxw hyh
            exact ⟨x, y, hxw, hyh, hin, by omega⟩
          · exact e
        have e4 : m5_l4 K f r true (m, 0) K 1048576 0 = _ := m5_l4_eq (r := r) (ok := true) (n := (m, 0)) q hend K 0 1048576 (Nat.zero_le _) (by have := q.prodle; omega) MinB.start
        rw [e4]
        simp
/-- PyramidLeast's model says true. -/
theorem m5_true {K : Nat} (hK : 10000 ≤ K) (hal : m34 K = some true) (f : S_Frame) (r : S_Rect) : m5 K f r = some true := by
  unfold m5
  rw [hal, Option.bind_some, show (!true) = false from rfl, cond_false]
  obtain ⟨b, hb⟩ : ∃ b, m11 K f = some b := by
    unfold m11
    cases decide (5000 < (f.Color.length : Int)) <;> cases decide (5000 < (f.Depth.length : Int)) <;> cases decide (5000 < (f.Item.length : Int)) <;> cases decide (5000 < (f.Tri.length : Int)) <;> exact ⟨_, rfl⟩
  rw [hb, Option.bind_some]
  cases b with
  | true => rfl
  | false =>
    rw [cond_false]
    rcases m15_eq hK f with ⟨w, h, q, e⟩ | ⟨_, e⟩
    · rw [e, Option.bind_some, show ((((⟨pyr w h (dv f w)⟩ : S_Pyramid), (0 : Int))).2 != 0) = false from rfl, cond_false]
      have hll := lvls_len 6 w h (dv f w)
      exact m5_l1_eq hK q K 0 (by omega) (by omega)
    · rw [e]; rfl
end Go.Proofs.YtobkigllalbkiaaV.M
