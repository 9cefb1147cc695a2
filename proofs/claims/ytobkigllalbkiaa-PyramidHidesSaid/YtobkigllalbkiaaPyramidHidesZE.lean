/- Part 5 of the texts that the proof of PyramidHides stands on. -/
import Derived.Test.YtobkigllalbkiaaPyramidHidesZD
/- Frames, in plain Lean: 'Build' of a frame, 'Same', 'Put' and 'Lay' of what is nearer already. -/
set_option linter.unusedVariables false
set_option linter.unusedSimpArgs false
namespace Go.Proofs.YtobkigllalbkiaaV.M
/-- A frame's depths by place. -/
def dv (f : S_Frame) (w : Nat) (x y : Nat) : Int := f.Depth.getD (y * w + x) 0
theorem FOK.lvl {f : S_Frame} {w h : Nat} (q : FOK f w h) : (⟨f.W, f.H, f.Depth⟩ : S_Level) = mkL w h (dv f w) := by
  refine level_ext q.W q.H ?_
  show f.Depth = (List.range (w * h)).map fun i => f.Depth.getD (i / w * w + i % w) 0
  apply List.ext_getElem?
  intro i
  by_cases hi : i < w * h
  · have e1 : i / w * w + i % w = i := by rw [Nat.mul_comm]; exact Nat.div_add_mod i w
    have e2 : i < f.Depth.length := by rw [q.d]; exact hi
    simp [hi, e1, e2]
  · rw [List.getElem?_eq_none (by rw [q.d]; omega), List.getElem?_eq_none (by simp; omega)]
theorem FOK.at_ {f : S_Frame} {w h x y : Nat} (q : FOK f w h) (hx : x < w) (hy : y < h) : ∃ d it tr, f.Depth[y * w + x]? = some d ∧ f.Item[y * w + x]? = some it ∧ f.Tri[y * w + x]? = some tr ∧ dv f w x y = d ∧ pixOK d it tr := by
  have hlt := place_lt hx hy
  have g1 : f.Depth[y * w + x]? = some (f.Depth[y * w + x]'(by rw [q.d]; exact hlt)) := List.getElem?_eq_getElem _
  have g2 : f.Item[y * w + x]? = some (f.Item[y * w + x]'(by rw [q.i]; exact hlt)) := List.getElem?_eq_getElem _
  have g3 : f.Tri[y * w + x]? = some (f.Tri[y * w + x]'(by rw [q.t]; exact hlt)) := List.getElem?_eq_getElem _
  exact ⟨_, _, _, g1, g2, g3, by unfold dv; rw [List.getD_eq_getElem?_getD, g1]; rfl, q.pix _ _ _ _ g1 g2 g3⟩
theorem pixOK.range {d it tr : Int} (h : pixOK d it tr) : -2048 ≤ d ∧ d ≤ 66560 := by
  rcases h with ⟨h, _⟩ | ⟨h1, h2, _⟩ <;> omega
theorem FOK.dom {f : S_Frame} {w h : Nat} (q : FOK f w h) : Dom w h (dv f w) :=
  ⟨q.w1, q.w64, q.h1, q.h64, fun x y hx hy => by obtain ⟨d, it, tr, _, _, _, e, hp⟩ := q.at_ hx hy; rw [e]; exact hp.range.1,
    fun x y hx hy => by obtain ⟨d, it, tr, _, _, _, e, hp⟩ := q.at_ hx hy; rw [e]; exact hp.range.2⟩
theorem m15_eq {K : Nat} (hK : 10000 ≤ K) (f : S_Frame) : (∃ w h, FOK f w h ∧ m15 K f = some (⟨pyr w h (dv f w)⟩, 0)) ∨ ((¬ ∃ w h, FOK f w h) ∧ m15 K f = some (⟨[]⟩, 8)) := by
  obtain ⟨e, k1, k2, k3⟩ := m33_eq hK f
  unfold m15
  rw [k1, Option.bind_some]
  rcases k2 with rfl | rfl
  · obtain ⟨w, h, q⟩ := k3.1 rfl
    refine .inl ⟨w, h, q, ?_⟩
    have hp : w * h ≤ 4096 := Nat.mul_le_mul q.w64 q.h64
    rw [show ((0 : Int) != 0) = false from rfl, cond_false]
    have : m59 K f.Depth = some f.Depth := by unfold m59; rw [apds_in (by simp [q.d]; omega)]; rfl
    rw [this, Option.bind_some, q.lvl, m58_eq (by omega) q.w64 q.h64 q.w1 q.h1]; rfl
  · refine .inr ⟨fun q => absurd (k3.2 q) (by decide), ?_⟩
    rw [show ((8 : Int) != 0) = true from rfl, cond_true]
/-! ### Same -/
theorem m77_refl {K : Nat} {a : List (Ar4 Int)} (hs : a.length ≤ 1000000) (hK : a.length < K) : m77 K a a = some true := by
  unfold m77
  rw [show ((a.length : Int) != (a.length : Int)) = false by simp, cond_false]
  have key : ∀ (k i : Nat), i ≤ a.length → a.length < i + k → m77_l1 K a a k i = some true := by
    intro k
    induction k with
    | zero => intro i h1 h2; omega
    | succ k ih =>
      intro i h1 h2
      show m77_l1b K a a (m77_l1 K a a k) i = _
      unfold m77_l1b
      by_cases hi : i < a.length
      · have h3 : (i : Int) < (a.length : Int) := by omega
        have ga : a[i]? = some a[i] := List.getElem?_eq_getElem hi
        rw [decide_eq_true h3, cond_true, idx_nat ga, idx_nat ga]
        have hb : (!((a[i].a0 == a[i].a0) && ((a[i].a1 == a[i].a1) && ((a[i].a2 == a[i].a2) && (a[i].a3 == a[i].a3))))) = false := by simp
        rw [hb, cond_false, cast_succ, ck_in (by omega) (by omega)]
        exact ih (i + 1) (by omega) (by omega)
      · have h3 : ¬ (i : Int) < (a.length : Int) := by omega
        rw [decide_eq_false h3, cond_false]
  exact key K 0 (by omega) (by omega)
theorem m78_refl {K : Nat} {a : List Int} (hs : a.length ≤ 1000000) (hK : a.length < K) : m78 K a a = some true := by
  obtain ⟨r, e, hr⟩ := m78_eq (b := a) hs hK
  rw [e, hr.2 rfl]
theorem m32_refl {K : Nat} {f : S_Frame} (hK : 10000 ≤ K) (h1 : f.Color.length ≤ 9000) (h2 : f.Depth.length ≤ 9000) (h3 : f.Item.length ≤ 9000) (h4 : f.Tri.length ≤ 9000) : m32 K f f = some true := by
  unfold m32
  rw [m77_refl (by omega) (by omega), m78_refl (by omega) (by omega), m78_refl (by omega) (by omega), m78_refl (by omega) (by omega)]
  simp
end Go.Proofs.YtobkigllalbkiaaV.M

/- A plain Lean function that answers as the Go function does (none: not told), and the proof that a call answers so. Written by program. -/
set_option linter.unusedVariables false
namespace Go.Proofs.YtobkigllalbkiaaV.M
open Go.RowKit Go.Proofs.YtobkigllalbkiaaV
/-- diorama/dioramaref25.Great -/
def m11 (K : Nat) (a0 : S_Frame) : Option (Bool) :=
 ((bif (decide (5000 < (a0.Color.length : Int))) then some true else some (decide (5000 < (a0.Depth.length : Int)))).bind fun b19 => ((bif b19 then some true else some (decide (5000 < (a0.Item.length : Int)))).bind fun b22 => ((bif b22 then some true else some (decide (5000 < (a0.Tri.length : Int)))).bind fun b25 => some b25)))
set_option maxRecDepth 100000 in
set_option maxHeartbeats 4000000 in
theorem c11 (ok : Nat → Prop) (K : Nat) (w : World) (a0 : S_Frame) (A1 : Option Addr) (cp2 : Nat) (A5 : Option Addr) (cp6 : Nat) (A9 : Option Addr) (cp10 : Nat) (A13 : Option Addr) (cp14 : Nat) (hR3 : Rd k_Ar4_Int w ok A1 cp2 a0.Color) (hR7 : Rd kInt w ok A5 cp6 a0.Depth) (hR11 : Rd kInt w ok A9 cp10 a0.Item) (hR15 : Rd kInt w ok A13 cp14 a0.Tri) (res : Bool) (hm : m11 K a0 = some res) :
  Calls Try.prog 11 #[.agg #[.int .i64 a0.W, .int .i64 a0.H, .slice A1 a0.Color.length cp2, .slice A5 a0.Depth.length cp6, .slice A9 a0.Item.length cp10, .slice A13 a0.Tri.length cp14]] w (fun e w' => e = .returned (tup [.bool res]) ∧ Sep ok w w' [] []) := by
 refine calls_W (args := [.agg #[.int .i64 a0.W, .int .i64 a0.H, .slice A1 a0.Color.length cp2, .slice A5 a0.Depth.length cp6, .slice A9 a0.Item.length cp10, .slice A13 a0.Tri.length cp14]]) Try.func11 rfl Try.ntmps11 Try.results11 rfl fun r hr => ?_
 obtain ⟨r1, rfl⟩ := regen (r := r) [(0, .agg #[.int .i64 a0.W, .int .i64 a0.H, .slice A1 a0.Color.length cp2, .slice A5 a0.Depth.length cp6, .slice A9 a0.Item.length cp10, .slice A13 a0.Tri.length cp14])] ⟨hr 0 _ rfl, trivial⟩
 have H : Sep ok w w [] [RE.rd k_Ar4_Int A1 cp2 a0.Color, RE.rd kInt A5 cp6 a0.Depth, RE.rd kInt A9 cp10 a0.Item, RE.rd kInt A13 cp14 a0.Tri] := Sep.arg (Sep.arg (Sep.arg (Sep.arg (Sep.start ok w) (re := RE.rd k_Ar4_Int A1 cp2 a0.Color) rfl rfl hR3) (re := RE.rd kInt A5 cp6 a0.Depth) rfl rfl hR7) (re := RE.rd kInt A9 cp10 a0.Item) rfl rfl hR11) (re := RE.rd kInt A13 cp14 a0.Tri) rfl rfl hR15
 unfold m11 at hm
 refine W_seq ?_
 refine W_region ?_
 refine RL_cons (O_box (by exact wn0 rfl) (by rfl) (by rfl) (by rfl) H (fun w18 b17 (H : Sep ok w w18 [.blk b17 25 [.int .i64 a0.W, .int .i64 a0.H, .slice A1 a0.Color.length cp2, .slice A5 a0.Depth.length cp6, .slice A9 a0.Item.length cp10, .slice A13 a0.Tri.length cp14]] [RE.rd k_Ar4_Int A1 cp2 a0.Color, RE.rd kInt A5 cp6 a0.Depth, RE.rd kInt A9 cp10 a0.Item, RE.rd kInt A13 cp14 a0.Tri]) => ?_))
 refine RL_pure (by exact wn0 rfl) (by rfl) (by rfl) (x_assign (v := .bool false) (by rfl)) ?_
 refine RL_nil ?_
 refine W_seq ?_
 refine W_region ?_
 refine RL_pure (by exact wn0 rfl) (by rfl) (by rfl) (x_fieldAddr fo25_2 (by rfl)) ?_
 refine RL_pure (by exact wn0 rfl) (by rfl) (by rfl) (x_load (j := 2) (v := .slice A1 a0.Color.length cp2) sc22 (by rfl) (H.cells (i := 0) (by rfl)) (by rfl)) ?_
 refine RL_pure (by exact wn0 rfl) (by rfl) (by rfl) (x_len sl22 (by rfl)) ?_
 refine RL_pure (by exact wn0 rfl) (by rfl) (by rfl) (x_gtr (by rfl) (by rfl)) ?_
 refine RL_pure (by exact wn0 rfl) (by rfl) (by rfl) (x_move (v := .bool (decide (5000 < (a0.Color.length : Int)))) (by rfl)) ?_
 obtain ⟨b19, hmS, hm⟩ := bind_some hm
 refine RL_cut 5 (fun r' w' => Agr [(12, .bool b19), (1, .pointer (some ⟨b17, 0, none⟩))] r' ∧ Sep ok w w' [.blk b17 25 [.int .i64 a0.W, .int .i64 a0.H, .slice A1 a0.Color.length cp2, .slice A5 a0.Depth.length cp6, .slice A9 a0.Item.length cp10, .slice A13 a0.Tri.length cp14]] [RE.rd k_Ar4_Int A1 cp2 a0.Color, RE.rd kInt A5 cp6 a0.Depth, RE.rd kInt A9 cp10 a0.Item, RE.rd kInt A13 cp14 a0.Tri]) ?_ ?_
 ·cases hbS : (decide (5000 < (a0.Color.length : Int)))
  ·have hm := cond_f hbS hmS
   refine RL_pure (by exact wn1 rfl rfl rfl rfl) (by rfl) (by rfl) (x_fieldAddr fo25_3 (by rfl)) ?_
   refine RL_pure (by exact wn1 rfl rfl rfl rfl) (by rfl) (by rfl) (x_load (j := 3) (v := .slice A5 a0.Depth.length cp6) sc23 (by rfl) (H.cells (i := 0) (by rfl)) (by rfl)) ?_
   refine RL_pure (by exact wn1 rfl rfl rfl rfl) (by rfl) (by rfl) (x_len sl23 (by rfl)) ?_
   refine RL_pure (by exact wn1 rfl rfl rfl rfl) (by rfl) (by rfl) (x_gtr (by rfl) (by rfl)) ?_
   refine RL_pure (by exact wn0 rfl) (by rfl) (by rfl) (x_pick_f (v := .bool (decide (5000 < (a0.Depth.length : Int)))) (by rfl) (by rfl)) ?_
   refine RL_nil ?_
   exact ⟨⟨congrArg Value.bool (Option.some.inj hm), rfl, trivial⟩, H⟩
  ·have hm := cond_t hbS hmS
   refine RL_cons (OpR_off (by exact wn2 rfl rfl rfl rfl) (by rfl) (by rfl) ?_)
   refine RL_cons (OpR_off (by exact wn2 rfl rfl rfl rfl) (by rfl) (by rfl) ?_)
   refine RL_cons (OpR_off (by exact wn2 rfl rfl rfl rfl) (by rfl) (by rfl) ?_)
   refine RL_cons (OpR_off (by exact wn2 rfl rfl rfl rfl) (by rfl) (by rfl) ?_)
   refine RL_pure (by exact wn0 rfl) (by rfl) (by rfl) (x_pick_t (v := .bool true) (by rfl) (by rfl)) ?_
   refine RL_nil ?_
   exact ⟨⟨congrArg Value.bool (Option.some.inj hm), rfl, trivial⟩, H⟩
 ·rintro r' w' ⟨hA, H⟩
  obtain ⟨r20, rfl⟩ := regen _ hA; clear hA
  obtain ⟨w21, rfl⟩ : ∃ W : World, W = w' := ⟨_, rfl⟩
  show RL _ _ _ _ _ _ _
  refine RL_pure (by exact wn0 rfl) (by rfl) (by rfl) (x_move (v := .bool b19) (by rfl)) ?_
  obtain ⟨b22, hmS, hm⟩ := bind_some hm
  refine RL_cut 5 (fun r' w' => Agr [(18, .bool b22), (1, .pointer (some ⟨b17, 0, none⟩))] r' ∧ Sep ok w w' [.blk b17 25 [.int .i64 a0.W, .int .i64 a0.H, .slice A1 a0.Color.length cp2, .slice A5 a0.Depth.length cp6, .slice A9 a0.Item.length cp10, .slice A13 a0.Tri.length cp14]] [RE.rd k_Ar4_Int A1 cp2 a0.Color, RE.rd kInt A5 cp6 a0.Depth, RE.rd kInt A9 cp10 a0.Item, RE.rd kInt A13 cp14 a0.Tri]) ?_ ?_
  ·cases hbS : b19
   ·have hm := cond_f hbS hmS
    refine RL_pure (by exact wn1 rfl rfl rfl rfl) (by rfl) (by rfl) (x_fieldAddr fo25_4 (by rfl)) ?_
    refine RL_pure (by exact wn1 rfl rfl rfl rfl) (by rfl) (by rfl) (x_load (j := 4) (v := .slice A9 a0.Item.length cp10) sc23 (by rfl) (H.cells (i := 0) (by rfl)) (by rfl)) ?_
    refine RL_pure (by exact wn1 rfl rfl rfl rfl) (by rfl) (by rfl) (x_len sl23 (by rfl)) ?_
    refine RL_pure (by exact wn1 rfl rfl rfl rfl) (by rfl) (by rfl) (x_gtr (by rfl) (by rfl)) ?_
    refine RL_pure (by exact wn0 rfl) (by rfl) (by rfl) (x_pick_f (v := .bool (decide (5000 < (a0.Item.length : Int)))) (by rfl) (by rfl)) ?_
    refine RL_nil ?_
    exact ⟨⟨congrArg Value.bool (Option.some.inj hm), rfl, trivial⟩, H⟩
   ·have hm := cond_t hbS hmS
    refine RL_cons (OpR_off (by exact wn2 rfl rfl rfl rfl) (by rfl) (by rfl) ?_)
    refine RL_cons (OpR_off (by exact wn2 rfl rfl rfl rfl) (by rfl) (by rfl) ?_)
    refine RL_cons (OpR_off (by exact wn2 rfl rfl rfl rfl) (by rfl) (by rfl) ?_)
    refine RL_cons (OpR_off (by exact wn2 rfl rfl rfl rfl) (by rfl) (by rfl) ?_)
    refine RL_pure (by exact wn0 rfl) (by rfl) (by rfl) (x_pick_t (v := .bool true) (by rfl) (by rfl)) ?_
    refine RL_nil ?_
    exact ⟨⟨congrArg Value.bool (Option.some.inj hm), rfl, trivial⟩, H⟩
  ·rintro r' w' ⟨hA, H⟩
   obtain ⟨r23, rfl⟩ := regen _ hA; clear hA
   obtain ⟨w24, rfl⟩ : ∃ W : World, W = w' := ⟨_, rfl⟩
   show RL _ _ _ _ _ _ _
   refine RL_pure (by exact wn0 rfl) (by rfl) (by rfl) (x_move (v := .bool b22) (by rfl)) ?_
   obtain ⟨b25, hmS, hm⟩ := bind_some hm
   refine RL_cut 5 (fun r' w' => Agr [(24, .bool b25)] r' ∧ Sep ok w w' [.blk b17 25 [.int .i64 a0.W, .int .i64 a0.H, .slice A1 a0.Color.length cp2, .slice A5 a0.Depth.length cp6, .slice A9 a0.Item.length cp10, .slice A13 a0.Tri.length cp14]] [RE.rd k_Ar4_Int A1 cp2 a0.Color, RE.rd kInt A5 cp6 a0.Depth, RE.rd kInt A9 cp10 a0.Item, RE.rd kInt A13 cp14 a0.Tri]) ?_ ?_
   ·cases hbS : b22
    ·have hm := cond_f hbS hmS
     refine RL_pure (by exact wn1 rfl rfl rfl rfl) (by rfl) (by rfl) (x_fieldAddr fo25_5 (by rfl)) ?_
     refine RL_pure (by exact wn1 rfl rfl rfl rfl) (by rfl) (by rfl) (x_load (j := 5) (v := .slice A13 a0.Tri.length cp14) sc23 (by rfl) (H.cells (i := 0) (by rfl)) (by rfl)) ?_
     refine RL_pure (by exact wn1 rfl rfl rfl rfl) (by rfl) (by rfl) (x_len sl23 (by rfl)) ?_
     refine RL_pure (by exact wn1 rfl rfl rfl rfl) (by rfl) (by rfl) (x_gtr (by rfl) (by rfl)) ?_
     refine RL_pure (by exact wn0 rfl) (by rfl) (by rfl) (x_pick_f (v := .bool (decide (5000 < (a0.Tri.length : Int)))) (by rfl) (by rfl)) ?_
     refine RL_nil ?_
     exact ⟨⟨congrArg Value.bool (Option.some.inj hm), trivial⟩, H⟩
    ·have hm := cond_t hbS hmS
     refine RL_cons (OpR_off (by exact wn2 rfl rfl rfl rfl) (by rfl) (by rfl) ?_)
     refine RL_cons (OpR_off (by exact wn2 rfl rfl rfl rfl) (by rfl) (by rfl) ?_)
     refine RL_cons (OpR_off (by exact wn2 rfl rfl rfl rfl) (by rfl) (by rfl) ?_)
     refine RL_cons (OpR_off (by exact wn2 rfl rfl rfl rfl) (by rfl) (by rfl) ?_)
     refine RL_pure (by exact wn0 rfl) (by rfl) (by rfl) (x_pick_t (v := .bool true) (by rfl) (by rfl)) ?_
     refine RL_nil ?_
     exact ⟨⟨congrArg Value.bool (Option.some.inj hm), trivial⟩, H⟩
   ·rintro r' w' ⟨hA, H⟩
    obtain ⟨r26, rfl⟩ := regen _ hA; clear hA
    obtain ⟨w27, rfl⟩ : ∃ W : World, W = w' := ⟨_, rfl⟩
    show RL _ _ _ _ _ _ _
    refine RL_pure (by exact wn0 rfl) (by rfl) (by rfl) (x_assign (v := .bool b25) (by rfl)) ?_
    refine RL_nil ?_
    refine W_ret ?_
    obtain rfl := Option.some.inj hm
    exact ⟨[.bool b25], (.tmp (by rfl) rfl), rfl, H.none_⟩
end Go.Proofs.YtobkigllalbkiaaV.M

/- A plain Lean function that answers as the Go function does (none: not told), and the proof that a call answers so. Written by program. -/
set_option linter.unusedVariables false
namespace Go.Proofs.YtobkigllalbkiaaV.M
open Go.RowKit Go.Proofs.YtobkigllalbkiaaV
/-- math/bits.Mul64 -/
def m133 (K : Nat) (a0 : Int) (a1 : Int) : Option (Int × Int) :=
 (lete (andV .u64 a0 4294967295) fun x1 => (lete (shrV .u64 a0 32) fun x2 => (lete (andV .u64 a1 4294967295) fun x3 => (lete (shrV .u64 a1 32) fun x4 => (lete (IntKind.u64.wrap (x1 * x3)) fun x5 => (lete (IntKind.u64.wrap (x2 * x3)) fun x6 => (lete (shrV .u64 x5 32) fun x7 => (lete (IntKind.u64.wrap (x6 + x7)) fun x8 => (lete (andV .u64 x8 4294967295) fun x9 => (lete (shrV .u64 x8 32) fun x10 => (lete (IntKind.u64.wrap (x1 * x4)) fun x11 => (lete (IntKind.u64.wrap (x9 + x11)) fun x12 => (lete (IntKind.u64.wrap (x2 * x4)) fun x13 => (lete (IntKind.u64.wrap (x13 + x10)) fun x14 => (lete (shrV .u64 x12 32) fun x15 => (lete (IntKind.u64.wrap (x14 + x15)) fun x16 => (lete (IntKind.u64.wrap (a0 * a1)) fun x17 => some (x16, x17))))))))))))))))))
set_option maxRecDepth 100000 in
set_option maxHeartbeats 4000000 in
theorem c133 (ok : Nat → Prop) (K : Nat) (w : World) (a0 : Int) (a1 : Int)  (res : Int × Int) (hm : m133 K a0 a1 = some res) :
  Calls Try.prog 133 #[.int .u64 a0, .int .u64 a1] w (fun e w' => e = .returned (tup [.int .u64 res.1, .int .u64 res.2]) ∧ Sep ok w w' [] []) := by
 refine calls_W (args := [.int .u64 a0, .int .u64 a1]) Try.func133 rfl Try.ntmps133 Try.results133 rfl fun r hr => ?_
 obtain ⟨r1, rfl⟩ := regen (r := r) [(0, .int .u64 a0), (1, .int .u64 a1)] ⟨hr 0 _ rfl, hr 1 _ rfl, trivial⟩
 have H : Sep ok w w [] [] := Sep.start ok w
 unfold m133 at hm
 refine W_seq ?_
 refine W_region ?_
 refine RL_pure (by exact wn0 rfl) (by rfl) (by rfl) (x_assign (v := .int .u64 0) (by rfl)) ?_
 refine RL_pure (by exact wn0 rfl) (by rfl) (by rfl) (x_assign (v := .int .u64 0) (by rfl)) ?_
 refine RL_nil ?_
 refine W_seq ?_
 refine W_region ?_
 refine RL_pure (by exact wn0 rfl) (by rfl) (by rfl) (x_move (v := .int .u64 a0) (by rfl)) ?_
 obtain ⟨x1, ex1, hm⟩ := lete_some hm
 refine RL_pure (by exact wn0 rfl) (by rfl) (by rfl) (x_and (by rfl) (by rfl) ex1) ?_
 refine RL_pure (by exact wn0 rfl) (by rfl) (by rfl) (x_assign (v := .int .u64 x1) (by rfl)) ?_
 refine RL_nil ?_
 refine W_seq ?_
 refine W_region ?_
 refine RL_pure (by exact wn0 rfl) (by rfl) (by rfl) (x_move (v := .int .u64 a0) (by rfl)) ?_
 obtain ⟨x2, ex2, hm⟩ := lete_some hm
 refine RL_pure (by exact wn0 rfl) (by rfl) (by rfl) (x_shr (by rfl) (by rfl) (by decide) ex2) ?_
 refine RL_pure (by exact wn0 rfl) (by rfl) (by rfl) (x_assign (v := .int .u64 x2) (by rfl)) ?_
 refine RL_nil ?_
 refine W_seq ?_
 refine W_region ?_
 refine RL_pure (by exact wn0 rfl) (by rfl) (by rfl) (x_move (v := .int .u64 a1) (by rfl)) ?_
 obtain ⟨x3, ex3, hm⟩ := lete_some hm
 refine RL_pure (by exact wn0 rfl) (by rfl) (by rfl) (x_and (by rfl) (by rfl) ex3) ?_
 refine RL_pure (by exact wn0 rfl) (by rfl) (by rfl) (x_assign (v := .int .u64 x3) (by rfl)) ?_
 refine RL_nil ?_
 refine W_seq ?_
 refine W_region ?_
 refine RL_pure (by exact wn0 rfl) (by rfl) (by rfl) (x_move (v := .int .u64 a1) (by rfl)) ?_
 obtain ⟨x4, ex4, hm⟩ := lete_some hm
 refine RL_pure (by exact wn0 rfl) (by rfl) (by rfl) (x_shr (by rfl) (by rfl) (by decide) ex4) ?_
 refine RL_pure (by exact wn0 rfl) (by rfl) (by rfl) (x_assign (v := .int .u64 x4) (by rfl)) ?_
 refine RL_nil ?_
 refine W_seq ?_
 refine W_region ?_
 refine RL_pure (by exact wn0 rfl) (by rfl) (by rfl) (x_move (v := .int .u64 x1) (by rfl)) ?_
 refine RL_pure (by exact wn0 rfl) (by rfl) (by rfl) (x_move (v := .int .u64 x3) (by rfl)) ?_
 obtain ⟨x5, ex5, hm⟩ := lete_some hm
 refine RL_pure (by exact wn0 rfl) (by rfl) (by rfl) (x_mul (by rfl) (by rfl) ex5) ?_
 refine RL_pure (by exact wn0 rfl) (by rfl) (by rfl) (x_assign (v := .int .u64 x5) (by rfl)) ?_
 refine RL_nil ?_
 refine W_seq ?_
 refine W_region ?_
 refine RL_pure (by exact wn0 rfl) (by rfl) (by rfl) (x_move (v := .int .u64 x2) (by rfl)) ?_
 refine RL_pure (by exact wn0 rfl) (by rfl) (by rfl) (x_move (v := .int .u64 x3) (by rfl)) ?_
 obtain ⟨x6, ex6, hm⟩ := lete_some hm
 refine RL_pure (by exact wn0 rfl) (by rfl) (by rfl) (x_mul (by rfl) (by rfl) ex6) ?_
 refine RL_pure (by exact wn0 rfl) (by rfl) (by rfl) (x_move (v := .int .u64 x5) (by rfl)) ?_
 obtain ⟨x7, ex7, hm⟩ := lete_some hm
 refine RL_pure (by exact wn0 rfl) (by rfl) (by rfl) (x_shr (by rfl) (by rfl) (by decide) ex7) ?_
 obtain ⟨x8, ex8, hm⟩ := lete_some hm
 refine RL_pure (by exact wn0 rfl) (by rfl) (by rfl) (x_add (by rfl) (by rfl) ex8) ?_
 refine RL_pure (by exact wn0 rfl) (by rfl) (by rfl) (x_assign (v := .int .u64 x8) (by rfl)) ?_
 refine RL_nil ?_
 refine W_seq ?_
 refine W_region ?_
 refine RL_pure (by exact wn0 rfl) (by rfl) (by rfl) (x_move (v := .int .u64 x8) (by rfl)) ?_
 obtain ⟨x9, ex9, hm⟩ := lete_some hm
 refine RL_pure (by exact wn0 rfl) (by rfl) (by rfl) (x_and (by rfl) (by rfl) ex9) ?_
 refine RL_pure (by exact wn0 rfl) (by rfl) (by rfl) (x_assign (v := .int .u64 x9) (by rfl)) ?_
 refine RL_nil ?_
 refine W_seq ?_
 refine W_region ?_
 refine RL_pure (by exact wn0 rfl) (by rfl) (by rfl) (x_move (v := .int .u64 x8) (by rfl)) ?_
 obtain ⟨x10, ex10, hm⟩ := lete_some hm
 refine RL_pure (by exact wn0 rfl) (by rfl) (by rfl) (x_shr (by rfl) (by rfl) (by decide) ex10) ?_
 refine RL_pure (by exact wn0 rfl) (by rfl) (by rfl) (x_assign (v := .int .u64 x10) (by rfl)) ?_
 refine RL_nil ?_
 refine W_seq ?_
 refine W_region ?_
 refine RL_pure (by exact wn0 rfl) (by rfl) (by rfl) (x_move (v := .int .u64 x9) (by rfl)) ?_
 refine RL_pure (by exact wn0 rfl) (by rfl) (by rfl) (x_move (v := .int .u64 x1) (by rfl)) ?_
 refine RL_pure (by exact wn0 rfl) (by rfl) (by rfl) (x_move (v := .int .u64 x4) (by rfl)) ?_
 obtain ⟨x11, ex11, hm⟩ := lete_some hm
 refine RL_pure (by exact wn0 rfl) (by rfl) (by rfl) (x_mul (by rfl) (by rfl) ex11) ?_
 obtain ⟨x12, ex12, hm⟩ := lete_some hm
 refine RL_pure (by exact wn0 rfl) (by rfl) (by rfl) (x_add (by rfl) (by rfl) ex12) ?_
 refine RL_pure (by exact wn0 rfl) (by rfl) (by rfl) (x_assign (v := .int .u64 x12) (by rfl)) ?_
 refine RL_nil ?_
 refine W_seq ?_
 refine W_region ?_
 refine RL_pure (by exact wn0 rfl) (by rfl) (by rfl) (x_move (v := .int .u64 x2) (by rfl)) ?_
 refine RL_pure (by exact wn0 rfl) (by rfl) (by rfl) (x_move (v := .int .u64 x4) (by rfl)) ?_
 obtain ⟨x13, ex13, hm⟩ := lete_some hm
 refine RL_pure (by exact wn0 rfl) (by rfl) (by rfl) (x_mul (by rfl) (by rfl) ex13) ?_
 refine RL_pure (by exact wn0 rfl) (by rfl) (by rfl) (x_move (v := .int .u64 x10) (by rfl)) ?_
 obtain ⟨x14, ex14, hm⟩ := lete_some hm
 refine RL_pure (by exact wn0 rfl) (by rfl) (by rfl) (x_add (by rfl) (by rfl) ex14) ?_
 refine RL_pure (by exact wn0 rfl) (by rfl) (by rfl) (x_move (v := .int .u64 x12) (by rfl)) ?_
 obtain ⟨x15, ex15, hm⟩ := lete_some hm
 refine RL_pure (by exact wn0 rfl) (by rfl) (by rfl) (x_shr (by rfl) (by rfl) (by decide) ex15) ?_
 obtain ⟨x16, ex16, hm⟩ := lete_some hm
 refine RL_pure (by exact wn0 rfl) (by rfl) (by rfl) (x_add (by rfl) (by rfl) ex16) ?_
 refine RL_pure (by exact wn0 rfl) (by rfl) (by rfl) (x_assign (v := .int .u64 x16) (by rfl)) ?_
 refine RL_nil ?_
 refine W_seq ?_
 refine W_region ?_
 refine RL_pure (by exact wn0 rfl) (by rfl) (by rfl) (x_move (v := .int .u64 a0) (by rfl)) ?_
 refine RL_pure (by exact wn0 rfl) (by rfl) (by rfl) (x_move (v := .int .u64 a1) (by rfl)) ?_
 obtain ⟨x17, ex17, hm⟩ := lete_some hm
 refine RL_pure (by exact wn0 rfl) (by rfl) (by rfl) (x_mul (by rfl) (by rfl) ex17) ?_
 refine RL_pure (by exact wn0 rfl) (by rfl) (by rfl) (x_assign (v := .int .u64 x17) (by rfl)) ?_
 refine RL_nil ?_
 refine W_ret ?_
 obtain rfl := Option.some.inj hm
 exact ⟨[.int .u64 x16, .int .u64 x17], (.tmp (by rfl) (.tmp (by rfl) rfl)), rfl, H.none_⟩
end Go.Proofs.YtobkigllalbkiaaV.M

/- A plain Lean function that answers as the Go function does (none: not told), and the proof that a call answers so. Written by program. -/
set_option linter.unusedVariables false
namespace Go.Proofs.YtobkigllalbkiaaV.M
open Go.RowKit Go.Proofs.YtobkigllalbkiaaV
/-- math/bits.Mul -/
def m115 (K : Nat) (a0 : Int) (a1 : Int) : Option (Int × Int) :=
 ((m133 K a0 a1).bind fun v2 => some (v2.1, v2.2))
set_option maxRecDepth 100000 in
set_option maxHeartbeats 4000000 in
theorem c115 (ok : Nat → Prop) (K : Nat) (w : World) (a0 : Int) (a1 : Int)  (res : Int × Int) (hm : m115 K a0 a1 = some res) :
  Calls Try.prog 115 #[.int .u64 a0, .int .u64 a1] w (fun e w' => e = .returned (tup [.int .u64 res.1, .int .u64 res.2]) ∧ Sep ok w w' [] []) := by
 refine calls_W (args := [.int .u64 a0, .int .u64 a1]) Try.func115 rfl Try.ntmps115 Try.results115 rfl fun r hr => ?_
 obtain ⟨r1, rfl⟩ := regen (r := r) [(0, .int .u64 a0), (1, .int .u64 a1)] ⟨hr 0 _ rfl, hr 1 _ rfl, trivial⟩
 have H : Sep ok w w [] [] := Sep.start ok w
 unfold m115 at hm
 refine W_seq ?_
 refine W_region ?_
 refine RL_pure (by exact wn0 rfl) (by rfl) (by rfl) (x_assign (v := .int .u64 0) (by rfl)) ?_
 refine RL_pure (by exact wn0 rfl) (by rfl) (by rfl) (x_assign (v := .int .u64 0) (by rfl)) ?_
 refine RL_nil ?_
 refine W_seq ?_
 refine W_cond (t := false) (by first | rfl | decide) (fun hb => by cases hb) (fun _ => ?_)
 refine W_skip ?_
 refine W_seq ?_
 refine W_region ?_
 refine RL_pure (by exact wn0 rfl) (by rfl) (by rfl) (x_move (v := .int .u64 a0) (by rfl)) ?_
 refine RL_pure (by exact wn0 rfl) (by rfl) (by rfl) (x_move (v := .int .u64 a1) (by rfl)) ?_
 obtain ⟨v2, hv1, hm⟩ := bind_some hm
 refine RL_cons (O_call (by exact wn0 rfl) (by rfl) (by rfl) (x_callL (by rfl) (args := [.int .u64 a0, .int .u64 a1]) (by rfl) (cf133 _ _)) (c133 (fun _ => True) K w a0 a1  v2 hv1) ?_)
 rintro e w3 ⟨rfl, H2⟩
 have H : Sep ok w w3 [] [] := H.below H2.base
 clear H2
 refine ⟨_, rfl, ?_⟩
 show RL _ _ _ _ _ _ _
 refine RL_pure (by exact wn0 rfl) (by rfl) (by rfl) (x_move (v := tup [.int .u64 v2.1, .int .u64 v2.2]) (by rfl)) ?_
 refine RL_pure (by exact wn0 rfl) (by rfl) (by rfl) (x_extract (v := .int .u64 v2.1) (by rfl) (by rfl)) ?_
 refine RL_pure (by exact wn0 rfl) (by rfl) (by rfl) (x_extract (v := .int .u64 v2.2) (by rfl) (by rfl)) ?_
 refine RL_pure (by exact wn0 rfl) (by rfl) (by rfl) (x_assign (v := .int .u64 v2.1) (by rfl)) ?_
 refine RL_pure (by exact wn0 rfl) (by rfl) (by rfl) (x_assign (v := .int .u64 v2.2) (by rfl)) ?_
 refine RL_nil ?_
 refine W_seq ?_
 refine W_region ?_
 refine RL_pure (by exact wn0 rfl) (by rfl) (by rfl) (x_move (v := .int .u64 v2.1) (by rfl)) ?_
 refine RL_pure (by exact wn0 rfl) (by rfl) (by rfl) (x_move (v := .int .u64 v2.2) (by rfl)) ?_
 refine RL_pure (by exact wn0 rfl) (by rfl) (by rfl) (x_assign (v := .int .u64 v2.1) (by rfl)) ?_
 refine RL_pure (by exact wn0 rfl) (by rfl) (by rfl) (x_assign (v := .int .u64 v2.2) (by rfl)) ?_
 refine RL_nil ?_
 refine W_ret ?_
 obtain rfl := Option.some.inj hm
 exact ⟨[.int .u64 v2.1, .int .u64 v2.2], (.tmp (by rfl) (.tmp (by rfl) rfl)), rfl, H.none_⟩
end Go.Proofs.YtobkigllalbkiaaV.M

/- A plain Lean function that answers as the Go function does (none: not told), and the proof that a call answers so. Written by program. -/
set_option linter.unusedVariables false
namespace Go.Proofs.YtobkigllalbkiaaV.M
open Go.RowKit Go.Proofs.YtobkigllalbkiaaV
def m73_l1b (K : Nat)  (rec1 : (List Int) → Int → Option ((List Int))) (l_row19_1 : (List Int)) (y8_1 : Int) : Option ((List Int)) :=
 (bif (decide (y8_1 < (l_row19_1.length : Int))) then (slg y8_1 (l_row19_1.length : Int) (slg y8_1 (l_row19_1.length : Int) (lete (cpyV l_row19_1 ((y8_1).toNat) (l_row19_1.drop ((y8_1).toNat)).length (l_row19_1.take ((y8_1).toNat))) fun l36 => (ck (y8_1 + ((min (l_row19_1.take ((y8_1).toNat)).length (l_row19_1.drop ((y8_1).toNat)).length : Nat) : Int)) fun x40 => (rec1 l36 x40))))) else some l_row19_1)
def m73_l1 (K : Nat)  : Nat → (List Int) → Int → Option ((List Int))
 | 0 => fun _ _ => none
 | k + 1 => m73_l1b K  (m73_l1 K  k)
/-- slices.Repeat(()int,int) -/
def m73 (K : Nat) (a0 : (List Int)) (a1 : Int) : Option ((List Int)) :=
 (bif (decide (a1 < 0)) then none else ((m115 K (IntKind.u64.wrap (a0.length : Int)) (IntKind.u64.wrap a1)).bind fun v6 => ((bif (decide (0 < v6.1)) then some true else some (decide (9223372036854775807 < v6.2))).bind fun b8 => (bif b8 then none else (ck v6.2 fun x11 => (mks 8 x11 0 fun l15 => (lete (cpyV l15 0 l15.length a0) fun l21 => m73_l1 K K l21 ((min a0.length l15.length : Nat) : Int))))))))
set_option maxRecDepth 100000 in
set_option maxHeartbeats 4000000 in
theorem c73 (ok : Nat → Prop) (K : Nat) (w : World) (a0 : (List Int)) (A1 : Option Addr) (cp2 : Nat) (a1 : Int) (hR3 : Rd kInt w ok A1 cp2 a0) (res : (List Int)) (hm : m73 K a0 a1 = some res) :
  Calls Try.prog 73 #[.slice A1 a0.length cp2, .int .i64 a1] w (fun e w' => ∃ (A0_ : Option Addr) (c0_ : Nat), e = .returned (tup [.slice A0_ res.length c0_]) ∧ Sep ok w w' [] [RE.rd kInt A0_ c0_ res]) := by
 refine calls_W (args := [.slice A1 a0.length cp2, .int .i64 a1]) Try.func73 rfl Try.ntmps73 Try.results73 rfl fun r hr => ?_
 obtain ⟨r1, rfl⟩ := regen (r := r) [(0, .slice A1 a0.length cp2), (1, .int .i64 a1)] ⟨hr 0 _ rfl, hr 1 _ rfl, trivial⟩
 have H : Sep ok w w [] [RE.rd kInt A1 cp2 a0] := Sep.arg (Sep.start ok w) (re := RE.rd kInt A1 cp2 a0) rfl rfl hR3
 unfold m73 at hm
 refine W_seq ?_
 refine W_region ?_
 refine RL_pure (by exact wn0 rfl) (by rfl) (by rfl) (x_assign (v := .slice none 0 0) (by rfl)) ?_
 refine RL_nil ?_
 refine W_seq ?_
 refine W_seq ?_
 refine W_region ?_
 refine RL_pure (by exact wn0 rfl) (by rfl) (by rfl) (x_move (v := .int .i64 a1) (by rfl)) ?_
 refine RL_pure (by exact wn0 rfl) (by rfl) (by rfl) (x_lss (by rfl) (by rfl)) ?_
 refine RL_nil ?_
 refine W_cond (by rfl) (fun hb => ?_) (fun hb => ?_)
 ·have hm := cond_t hb hm
  exact (none_some hm).elim
 ·have hm := cond_f hb hm
  refine W_skip ?_
  refine W_seq ?_
  refine W_region ?_
  refine RL_pure (by exact wn0 rfl) (by rfl) (by rfl) (x_move (v := .slice A1 a0.length cp2) (by rfl)) ?_
  refine RL_pure (by exact wn0 rfl) (by rfl) (by rfl) (x_len sl23 (by rfl)) ?_
  refine RL_pure (by exact wn0 rfl) (by rfl) (by rfl) (x_conv is3 un164 (by rfl) rfl) ?_
  refine RL_pure (by exact wn0 rfl) (by rfl) (by rfl) (x_move (v := .int .i64 a1) (by rfl)) ?_
  refine RL_pure (by exact wn0 rfl) (by rfl) (by rfl) (x_conv is3 un164 (by rfl) rfl) ?_
  obtain ⟨v6, hv5, hm⟩ := bind_some hm
  refine RL_cons (O_call (by exact wn0 rfl) (by rfl) (by rfl) (x_callL (by rfl) (args := [.int .u64 (IntKind.u64.wrap (a0.length : Int)), .int .u64 (IntKind.u64.wrap a1)]) (by rfl) (cf115 _ _)) (c115 (fun _ => True) K w (IntKind.u64.wrap (a0.length : Int)) (IntKind.u64.wrap a1)  v6 hv5) ?_)
  rintro e w7 ⟨rfl, H2⟩
  have H : Sep ok w w7 [] [RE.rd kInt A1 cp2 a0] := H.below H2.base
  clear H2
  refine ⟨_, rfl, ?_⟩
  show RL _ _ _ _ _ _ _
  refine RL_pure (by exact wn0 rfl) (by rfl) (by rfl) (x_move (v := tup [.int .u64 v6.1, .int .u64 v6.2]) (by rfl)) ?_
  refine RL_pure (by exact wn0 rfl) (by rfl) (by rfl) (x_extract (v := .int .u64 v6.1) (by rfl) (by rfl)) ?_
  refine RL_pure (by exact wn0 rfl) (by rfl) (by rfl) (x_extract (v := .int .u64 v6.2) (by rfl) (by rfl)) ?_
  refine RL_pure (by exact wn0 rfl) (by rfl) (by rfl) (x_assign (v := .int .u64 v6.1) (by rfl)) ?_
  refine RL_pure (by exact wn0 rfl) (by rfl) (by rfl) (x_assign (v := .int .u64 v6.2) (by rfl)) ?_
  refine RL_nil ?_
  refine W_seq ?_
  refine W_seq ?_
  refine W_region ?_
  refine RL_pure (by exact wn0 rfl) (by rfl) (by rfl) (x_move (v := .int .u64 v6.1) (by rfl)) ?_
  refine RL_pure (by exact wn0 rfl) (by rfl) (by rfl) (x_gtr (by rfl) (by rfl)) ?_
  refine RL_pure (by exact wn0 rfl) (by rfl) (by rfl) (x_move (v := .bool (decide (0 < v6.1))) (by rfl)) ?_
  obtain ⟨b8, hmS, hm⟩ := bind_some hm
  refine RL_cut 3 (fun r' w' => Agr [(26, .bool b8), (0, .slice A1 a0.length cp2), (6, .int .u64 v6.2)] r' ∧ Sep ok w w' [] [RE.rd kInt A1 cp2 a0]) ?_ ?_
  ·cases hbS : (decide (0 < v6.1))
   ·have hm := cond_f hbS hmS
    refine RL_pure (by exact wn1 rfl rfl rfl rfl) (by rfl) (by rfl) (x_move (v := .int .u64 v6.2) (by rfl)) ?_
    refine RL_pure (by exact wn1 rfl rfl rfl rfl) (by rfl) (by rfl) (x_gtr (by rfl) (by rfl)) ?_
    refine RL_pure (by exact wn0 rfl) (by rfl) (by rfl) (x_pick_f (v := .bool (decide (9223372036854775807 < v6.2))) (by rfl) (by rfl)) ?_
    refine RL_nil ?_
    exact ⟨⟨congrArg Value.bool (Option.some.inj hm), rfl, rfl, trivial⟩, H⟩
   ·have hm := cond_t hbS hmS
    refine RL_cons (OpR_off (by exact wn2 rfl rfl rfl rfl) (by rfl) (by rfl) ?_)
    refine RL_cons (OpR_off (by exact wn2 rfl rfl rfl rfl) (by rfl) (by rfl) ?_)
    refine RL_pure (by exact wn0 rfl) (by rfl) (by rfl) (x_pick_t (v := .bool true) (by rfl) (by rfl)) ?_
    refine RL_nil ?_
    exact ⟨⟨congrArg Value.bool (Option.some.inj hm), rfl, rfl, trivial⟩, H⟩
  ·rintro r' w' ⟨hA, H⟩
   obtain ⟨r9, rfl⟩ := regen _ hA; clear hA
   obtain ⟨w10, rfl⟩ : ∃ W : World, W = w' := ⟨_, rfl⟩
   show RL _ _ _ _ _ _ _
   refine RL_nil ?_
   refine W_cond (by rfl) (fun hb => ?_) (fun hb => ?_)
   ·have hm := cond_t hb hm
    exact (none_some hm).elim
   ·have hm := cond_f hb hm
    refine W_skip ?_
    refine W_seq ?_
    refine W_region ?_
    refine RL_pure (by exact wn0 rfl) (by rfl) (by rfl) (x_move (v := .int .u64 v6.2) (by rfl)) ?_
    obtain ⟨x11, ex11, qx11, ux11, hm⟩ := ck_some hm
    refine RL_pure (by exact wn0 rfl) (by rfl) (by rfl) (x_conv is164 un3 (by rfl) ux11) ?_
    obtain ⟨l15, h17, hl16, hb18, hm⟩ := mks_some hm
    refine RL_cons (O_makeSlice (D := kInt) (x0 := 0) (by exact wn0 rfl) (by rfl) (by rfl) (by rfl) sl23 sz3 by3 ze3 (by rfl) (by intro w ok; exact rfl) h17 hl16 hb18 H (by rfl) (fun w12 b13 cs14 (H : Sep ok w w12 [.row (.slice (some ⟨b13, 0, none⟩) l15.length l15.length) 3 kInt.sz l15.length cs14] [RE.rd kInt A1 cp2 a0, RE.chunks kInt cs14 l15]) => ?_))
    refine RL_pure (by exact wn0 rfl) (by rfl) (by rfl) (x_assign (v := .slice (some ⟨b13, 0, none⟩) l15.length l15.length) (by rfl)) ?_
    refine RL_nil ?_
    refine W_seq ?_
    refine W_region ?_
    refine RL_pure (by exact wn0 rfl) (by rfl) (by rfl) (x_move (v := .slice (some ⟨b13, 0, none⟩) l15.length l15.length) (by rfl)) ?_
    refine RL_pure (by exact wn0 rfl) (by rfl) (by rfl) (x_move (v := .slice A1 a0.length cp2) (by rfl)) ?_
    obtain ⟨l21, hl22, hm⟩ := lete_some hm
    refine RL_cons (O_copy (D := kInt) (i := 0) (j := 1) (lo := 0) (dn := l15.length) (zs := a0) (by exact wn0 rfl) (by rfl) (by rfl) (H.rowA0 (i := 0) (by rfl)) (by rfl) (by rfl) H (by rfl) (by rfl) (Nat.le_of_eq (Nat.zero_add _)) (H.rd (i := 0) (by rfl)).src sl23 sz3 hl22 (fun w23 cs24 (H : Sep ok w w23 [.row (.slice (some ⟨b13, 0, none⟩) l21.length l15.length) 3 kInt.sz l21.length cs24] [RE.rd kInt A1 cp2 a0, RE.chunks kInt cs24 l21]) => ?_))
    refine RL_pure (by exact wn0 rfl) (by rfl) (by rfl) (x_assign (v := .int .i64 ((min a0.length l15.length : Nat) : Int)) (by rfl)) ?_
    refine RL_nil ?_
    have hn25 : l15.length = l21.length := by rw [← hl22]; exact (length_cpyV (Nat.le_of_eq (Nat.zero_add _))).symm
    have H : Sep ok w w23 [.row (.slice (some ⟨b13, 0, none⟩) l21.length l21.length) 3 kInt.sz l21.length cs24] [RE.rd kInt A1 cp2 a0, RE.chunks kInt cs24 l21] := by (try rw [hn25] at H); exact H
    refine W_regen (l := [(7, .slice (some ⟨b13, 0, none⟩) l21.length l21.length), (8, .int .i64 ((min a0.length l15.length : Nat) : Int))]) ⟨(by (try rw [← hn25]); rfl), rfl, trivial⟩ fun r26 => ?_
    refine W_seq ?_
    refine W_block ?_
    refine W_loop (fun k1 r' w' => ∃ (l_row19_1 : (List Int)), ∃ (y8_1 : Int), ∃ (A_row19_1 : Option Addr), ∃ (c_row19_1 : Nat), ∃ (cs_row19_1 : List Value), m73_l1 K k1 l_row19_1 y8_1 = some res ∧ Agr [(7, .slice A_row19_1 l_row19_1.length c_row19_1), (8, .int .i64 y8_1)] r' ∧ Sep ok w w' [.row (.slice A_row19_1 l_row19_1.length c_row19_1) 3 kInt.sz l_row19_1.length cs_row19_1] [RE.rd kInt A1 cp2 a0, RE.chunks kInt cs_row19_1 l_row19_1]) K ?_ ?_
    ·exact ⟨l21, ((min a0.length l15.length : Nat) : Int), (some ⟨b13, 0, none⟩), l21.length, cs24, hm, ⟨(by (try rw [← hn39]); rfl), (by (try rw [← hn39]); rfl), trivial⟩, H⟩
    ·rintro k1 r' w' ⟨l_row19_1, y8_1, A_row19_1, c_row19_1, cs_row19_1, hm, hA, H⟩
     obtain ⟨r27, rfl⟩ := regen _ hA; clear hA
     obtain ⟨w28, rfl⟩ : ∃ W : World, W = w' := ⟨_, rfl⟩
     cases k1 with
     | zero => exact (none_some hm).elim
     | succ k1 =>
      have hm : m73_l1b K (m73_l1 K k1) l_row19_1 y8_1 = some res := hm
      unfold m73_l1b at hm
      obtain ⟨rec1, hrec1⟩ : ∃ f, m73_l1 K k1 = f := ⟨_, rfl⟩
      rw [hrec1] at hm
      refine W_seq ?_
      refine W_seq ?_
      refine W_region ?_
      refine RL_pure (by exact wn0 rfl) (by rfl) (by rfl) (x_move (v := .int .i64 y8_1) (by rfl)) ?_
      refine RL_pure (by exact wn0 rfl) (by rfl) (by rfl) (x_move (v := .slice A_row19_1 l_row19_1.length c_row19_1) (by rfl)) ?_
      refine RL_pure (by exact wn0 rfl) (by rfl) (by rfl) (x_len sl23 (by rfl)) ?_
      refine RL_pure (by exact wn0 rfl) (by rfl) (by rfl) (x_lss (by rfl) (by rfl)) ?_
      refine RL_nil ?_
      refine W_cond (by rfl) (fun hb => ?_) (fun hb => ?_)
      ·have hm := cond_t hb hm
       refine W_skip ?_
       refine W_block ?_
       refine W_draw [.free 0, .free 1, .free 2, .free 3, .free 4, .free 5, .free 6, .tail 7, .free 8, .free 9] (fun wS => Sep ok w wS [.row (.slice A_row19_1 l_row19_1.length c_row19_1) 3 kInt.sz l_row19_1.length cs_row19_1] [RE.rd kInt A1 cp2 a0, RE.chunks kInt cs_row19_1 l_row19_1]) [7] [0, 1, 2, 3, 4, 5, 6, 8, 9] mixed0 (by kernel_rfl) (by kernel_rfl) (by kernel_rfl) (by rfl) (by exact H.drew) ?_
       obtain ⟨w29, hW⟩ : ∃ W : World, W = { w28 with drawn := w28.drawn + 1 } := ⟨_, rfl⟩
       rw [← hW]
       have H : Sep ok w w29 [.row (.slice A_row19_1 l_row19_1.length c_row19_1) 3 kInt.sz l_row19_1.length cs_row19_1] [RE.rd kInt A1 cp2 a0, RE.chunks kInt cs_row19_1 l_row19_1] := by rw [hW]; exact H.drew
       clear hW
       refine PR_free (by rfl) (by rfl) (by rfl) (by exact wn0 rfl) (fun wS => (x_move (v := .int .i64 y8_1) (by rfl))) ?_
       refine PR_free (by rfl) (by rfl) (by rfl) (by exact wn0 rfl) (fun wS => (x_move (v := .slice A_row19_1 l_row19_1.length c_row19_1) (by rfl))) ?_
       refine PR_free (by rfl) (by rfl) (by rfl) (by exact wn0 rfl) (fun wS => (x_move (v := .int .i64 y8_1) (by rfl))) ?_
       obtain ⟨h30, h31, hm⟩ := slg_some hm
       refine PR_free (by rfl) (by rfl) (by rfl) (by exact wn0 rfl) (fun wS => (x_slice_loL sl23 sz3 (by rfl) (by rfl) h30 h31)) ?_
       refine PR_free (by rfl) (by rfl) (by rfl) (by exact wn0 rfl) (fun wS => (x_move (v := .slice A_row19_1 l_row19_1.length c_row19_1) (by rfl))) ?_
       refine PR_free (by rfl) (by rfl) (by rfl) (by exact wn0 rfl) (fun wS => (x_move (v := .int .i64 y8_1) (by rfl))) ?_
       obtain ⟨h33, h34, hm⟩ := slg_some hm
       have h35 := (H.rowForm (i := 0) (by rfl)).1
       refine PR_free (by rfl) (by rfl) (by rfl) (by exact wn0 rfl) (fun wS => (x_slice_hiL sl23 sz3 (by rfl) (by rfl) h33 h34 h35)) ?_
       obtain ⟨l36, hl37, hm⟩ := lete_some hm
       refine PR_tail (by rfl) (O_copy (D := kInt) (i := 0) (j := 1) (lo := (y8_1).toNat) (dn := (l_row19_1.drop ((y8_1).toNat)).length) (zs := (l_row19_1.take ((y8_1).toNat))) (by exact wn0 rfl) (by rfl) (by rfl) (by rfl) (by rfl) (by rfl) H (by rfl) (by rfl) (drop_le h30 h31) (SrcAt.takeN (H.rowSrc (lo := 0) (i := 0) (j := 1) (by rfl) (by rfl)) _) sl23 sz3 hl37 (fun w38 cs39 (H : Sep ok w w38 [.row (.slice A_row19_1 l36.length c_row19_1) 3 kInt.sz l36.length cs39] [RE.rd kInt A1 cp2 a0, RE.chunks kInt cs39 l36]) => ?_))
       obtain ⟨x40, ex40, qx40, ux40, hm⟩ := ck_some hm
       refine PR_free (by rfl) (by rfl) (by rfl) (by exact wn0 rfl) (fun wS => (x_add (by rfl) (by rfl) ux40)) ?_
       refine PR_free (by rfl) (by rfl) (by rfl) (by exact wn0 rfl) (fun wS => (x_assign (v := .int .i64 x40) (by rfl))) ?_
       refine PR_nil ?_
       have hn41 : l_row19_1.length = l36.length := by rw [← hl37]; exact (length_cpyV (drop_le h30 h31)).symm
       have H : Sep ok w w38 [.row (.slice A_row19_1 l36.length c_row19_1) 3 kInt.sz l36.length cs39] [RE.rd kInt A1 cp2 a0, RE.chunks kInt cs39 l36] := by (try rw [hn41] at H); exact H
       subst hrec1
       exact ⟨k1, Nat.lt_succ_self k1, l36, x40, A_row19_1, c_row19_1, cs39, hm, ⟨(by (try rw [← hn41]); rfl), rfl, trivial⟩, H⟩
      ·have hm := cond_f hb hm
       refine W_exit ?_
       refine W_seq ?_
       refine W_region ?_
       refine RL_pure (by exact wn0 rfl) (by rfl) (by rfl) (x_move (v := .slice A_row19_1 l_row19_1.length c_row19_1) (by rfl)) ?_
       refine RL_pure (by exact wn0 rfl) (by rfl) (by rfl) (x_assign (v := .slice A_row19_1 l_row19_1.length c_row19_1) (by rfl)) ?_
       refine RL_nil ?_
       refine W_ret ?_
       have H : Sep ok w w28 [.hole] [RE.rd kInt A1 cp2 a0, RE.rd kInt A_row19_1 c_row19_1 l_row19_1] := H.frozen (i := 0) (j := 1) (by rfl) (by rfl)
       obtain rfl := Option.some.inj hm
       exact ⟨[.slice A_row19_1 l_row19_1.length c_row19_1], (.tmp (by rfl) rfl), A_row19_1, c_row19_1, rfl, (H.forgetAll).pick [1]⟩
end Go.Proofs.YtobkigllalbkiaaV.M

/- A plain Lean function that answers as the Go function does (none: not told), and the proof that a call answers so. Written by program. -/
set_option linter.unusedVariables false
namespace Go.Proofs.YtobkigllalbkiaaV.M
open Go.RowKit Go.Proofs.YtobkigllalbkiaaV
def m74_l1b (K : Nat)  (rec1 : (List (Ar4 Int)) → Int → Option ((List (Ar4 Int)))) (l_row19_1 : (List (Ar4 Int))) (y8_1 : Int) : Option ((List (Ar4 Int))) :=
 (bif (decide (y8_1 < (l_row19_1.length : Int))) then (slg y8_1 (l_row19_1.length : Int) (slg y8_1 (l_row19_1.length : Int) (lete (cpyV l_row19_1 ((y8_1).toNat) (l_row19_1.drop ((y8_1).toNat)).length (l_row19_1.take ((y8_1).toNat))) fun l36 => (ck (y8_1 + ((min (l_row19_1.take ((y8_1).toNat)).length (l_row19_1.drop ((y8_1).toNat)).length : Nat) : Int)) fun x40 => (rec1 l36 x40))))) else some l_row19_1)
def m74_l1 (K : Nat)  : Nat → (List (Ar4 Int)) → Int → Option ((List (Ar4 Int)))
 | 0 => fun _ _ => none
 | k + 1 => m74_l1b K  (m74_l1 K  k)
/-- slices.Repeat(()diorama/api.Color,diorama/api.Color) -/
def m74 (K : Nat) (a0 : (List (Ar4 Int))) (a1 : Int) : Option ((List (Ar4 Int))) :=
 (bif (decide (a1 < 0)) then none else ((m115 K (IntKind.u64.wrap (a0.length : Int)) (IntKind.u64.wrap a1)).bind fun v6 => ((bif (decide (0 < v6.1)) then some true else some (decide (9223372036854775807 < v6.2))).bind fun b8 => (bif b8 then none else (ck v6.2 fun x11 => (mks 4 x11 (⟨0, 0, 0, 0⟩ : (Ar4 Int)) fun l15 => (lete (cpyV l15 0 l15.length a0) fun l21 => m74_l1 K K l21 ((min a0.length l15.length : Nat) : Int))))))))
set_option maxRecDepth 100000 in
set_option maxHeartbeats 4000000 in
theorem c74 (ok : Nat → Prop) (K : Nat) (w : World) (a0 : (List (Ar4 Int))) (A1 : Option Addr) (cp2 : Nat) (a1 : Int) (hR3 : Rd k_Ar4_Int w ok A1 cp2 a0) (res : (List (Ar4 Int))) (hm : m74 K a0 a1 = some res) :
  Calls Try.prog 74 #[.slice A1 a0.length cp2, .int .i64 a1] w (fun e w' => ∃ (A0_ : Option Addr) (c0_ : Nat), e = .returned (tup [.slice A0_ res.length c0_]) ∧ Sep ok w w' [] [RE.rd k_Ar4_Int A0_ c0_ res]) := by
 refine calls_W (args := [.slice A1 a0.length cp2, .int .i64 a1]) Try.func74 rfl Try.ntmps74 Try.results74 rfl fun r hr => ?_
 obtain ⟨r1, rfl⟩ := regen (r := r) [(0, .slice A1 a0.length cp2), (1, .int .i64 a1)] ⟨hr 0 _ rfl, hr 1 _ rfl, trivial⟩
 have H : Sep ok w w [] [RE.rd k_Ar4_Int A1 cp2 a0] := Sep.arg (Sep.start ok w) (re := RE.rd k_Ar4_Int A1 cp2 a0) rfl rfl hR3
 unfold m74 at hm
 refine W_seq ?_
 refine W_region ?_
 refine RL_pure (by exact wn0 rfl) (by rfl) (by rfl) (x_assign (v := .slice none 0 0) (by rfl)) ?_
 refine RL_nil ?_
 refine W_seq ?_
 refine W_seq ?_
 refine W_region ?_
 refine RL_pure (by exact wn0 rfl) (by rfl) (by rfl) (x_move (v := .int .i64 a1) (by rfl)) ?_
 refine RL_pure (by exact wn0 rfl) (by rfl) (by rfl) (x_lss (by rfl) (by rfl)) ?_
 refine RL_nil ?_
 refine W_cond (by rfl) (fun hb => ?_) (fun hb => ?_)
 ·have hm := cond_t hb hm
  exact (none_some hm).elim
 ·have hm := cond_f hb hm
  refine W_skip ?_
  refine W_seq ?_
  refine W_region ?_
  refine RL_pure (by exact wn0 rfl) (by rfl) (by rfl) (x_move (v := .slice A1 a0.length cp2) (by rfl)) ?_
  refine RL_pure (by exact wn0 rfl) (by rfl) (by rfl) (x_len sl22 (by rfl)) ?_
  refine RL_pure (by exact wn0 rfl) (by rfl) (by rfl) (x_conv is3 un164 (by rfl) rfl) ?_
  refine RL_pure (by exact wn0 rfl) (by rfl) (by rfl) (x_move (v := .int .i64 a1) (by rfl)) ?_
  refine RL_pure (by exact wn0 rfl) (by rfl) (by rfl) (x_conv is3 un164 (by rfl) rfl) ?_
  obtain ⟨v6, hv5, hm⟩ := bind_some hm
  refine RL_cons (O_call (by exact wn0 rfl) (by rfl) (by rfl) (x_callL (by rfl) (args := [.int .u64 (IntKind.u64.wrap (a0.length : Int)), .int .u64 (IntKind.u64.wrap a1)]) (by rfl) (cf115 _ _)) (c115 (fun _ => True) K w (IntKind.u64.wrap (a0.length : Int)) (IntKind.u64.wrap a1)  v6 hv5) ?_)
  rintro e w7 ⟨rfl, H2⟩
  have H : Sep ok w w7 [] [RE.rd k_Ar4_Int A1 cp2 a0] := H.below H2.base
  clear H2
  refine ⟨_, rfl, ?_⟩
  show RL _ _ _ _ _ _ _
  refine RL_pure (by exact wn0 rfl) (by rfl) (by rfl) (x_move (v := tup [.int .u64 v6.1, .int .u64 v6.2]) (by rfl)) ?_
  refine RL_pure (by exact wn0 rfl) (by rfl) (by rfl) (x_extract (v := .int .u64 v6.1) (by rfl) (by rfl)) ?_
  refine RL_pure (by exact wn0 rfl) (by rfl) (by rfl) (x_extract (v := .int .u64 v6.2) (by rfl) (by rfl)) ?_
  refine RL_pure (by exact wn0 rfl) (by rfl) (by rfl) (x_assign (v := .int .u64 v6.1) (by rfl)) ?_
  refine RL_pure (by exact wn0 rfl) (by rfl) (by rfl) (x_assign (v := .int .u64 v6.2) (by rfl)) ?_
  refine RL_nil ?_
  refine W_seq ?_
  refine W_seq ?_
  refine W_region ?_
  refine RL_pure (by exact wn0 rfl) (by rfl) (by rfl) (x_move (v := .int .u64 v6.1) (by rfl)) ?_
  refine RL_pure (by exact wn0 rfl) (by rfl) (by rfl) (x_gtr (by rfl) (by rfl)) ?_
  refine RL_pure (by exact wn0 rfl) (by rfl) (by rfl) (x_move (v := .bool (decide (0 < v6.1))) (by rfl)) ?_
  obtain ⟨b8, hmS, hm⟩ := bind_some hm
  refine RL_cut 3 (fun r' w' => Agr [(26, .bool b8), (0, .slice A1 a0.length cp2), (6, .int .u64 v6.2)] r' ∧ Sep ok w w' [] [RE.rd k_Ar4_Int A1 cp2 a0]) ?_ ?_
  ·cases hbS : (decide (0 < v6.1))
   ·have hm := cond_f hbS hmS
    refine RL_pure (by exact wn1 rfl rfl rfl rfl) (by rfl) (by rfl) (x_move (v := .int .u64 v6.2) (by rfl)) ?_
    refine RL_pure (by exact wn1 rfl rfl rfl rfl) (by rfl) (by rfl) (x_gtr (by rfl) (by rfl)) ?_
    refine RL_pure (by exact wn0 rfl) (by rfl) (by rfl) (x_pick_f (v := .bool (decide (9223372036854775807 < v6.2))) (by rfl) (by rfl)) ?_
    refine RL_nil ?_
    exact ⟨⟨congrArg Value.bool (Option.some.inj hm), rfl, rfl, trivial⟩, H⟩
   ·have hm := cond_t hbS hmS
    refine RL_cons (OpR_off (by exact wn2 rfl rfl rfl rfl) (by rfl) (by rfl) ?_)
    refine RL_cons (OpR_off (by exact wn2 rfl rfl rfl rfl) (by rfl) (by rfl) ?_)
    refine RL_pure (by exact wn0 rfl) (by rfl) (by rfl) (x_pick_t (v := .bool true) (by rfl) (by rfl)) ?_
    refine RL_nil ?_
    exact ⟨⟨congrArg Value.bool (Option.some.inj hm), rfl, rfl, trivial⟩, H⟩
  ·rintro r' w' ⟨hA, H⟩
   obtain ⟨r9, rfl⟩ := regen _ hA; clear hA
   obtain ⟨w10, rfl⟩ : ∃ W : World, W = w' := ⟨_, rfl⟩
   show RL _ _ _ _ _ _ _
   refine RL_nil ?_
   refine W_cond (by rfl) (fun hb => ?_) (fun hb => ?_)
   ·have hm := cond_t hb hm
    exact (none_some hm).elim
   ·have hm := cond_f hb hm
    refine W_skip ?_
    refine W_seq ?_
    refine W_region ?_
    refine RL_pure (by exact wn0 rfl) (by rfl) (by rfl) (x_move (v := .int .u64 v6.2) (by rfl)) ?_
    obtain ⟨x11, ex11, qx11, ux11, hm⟩ := ck_some hm
    refine RL_pure (by exact wn0 rfl) (by rfl) (by rfl) (x_conv is164 un3 (by rfl) ux11) ?_
    obtain ⟨l15, h17, hl16, hb18, hm⟩ := mks_some hm
    refine RL_cons (O_makeSlice (D := k_Ar4_Int) (x0 := (⟨0, 0, 0, 0⟩ : (Ar4 Int))) (by exact wn0 rfl) (by rfl) (by rfl) (by rfl) sl22 sz61 by61 ze61 (by rfl) (by intro w ok; exact rfl) h17 hl16 hb18 H (by rfl) (fun w12 b13 cs14 (H : Sep ok w w12 [.row (.slice (some ⟨b13, 0, none⟩) l15.length l15.length) 61 k_Ar4_Int.sz l15.length cs14] [RE.rd k_Ar4_Int A1 cp2 a0, RE.chunks k_Ar4_Int cs14 l15]) => ?_))
    refine RL_pure (by exact wn0 rfl) (by rfl) (by rfl) (x_assign (v := .slice (some ⟨b13, 0, none⟩) l15.length l15.length) (by rfl)) ?_
    refine RL_nil ?_
    refine W_seq ?_
    refine W_region ?_
    refine RL_pure (by exact wn0 rfl) (by rfl) (by rfl) (x_move (v := .slice (some ⟨b13, 0, none⟩) l15.length l15.length) (by rfl)) ?_
    refine RL_pure (by exact wn0 rfl) (by rfl) (by rfl) (x_move (v := .slice A1 a0.length cp2) (by rfl)) ?_
    obtain ⟨l21, hl22, hm⟩ := lete_some hm
    refine RL_cons (O_copy (D := k_Ar4_Int) (i := 0) (j := 1) (lo := 0) (dn := l15.length) (zs := a0) (by exact wn0 rfl) (by rfl) (by rfl) (H.rowA0 (i := 0) (by rfl)) (by rfl) (by rfl) H (by rfl) (by rfl) (Nat.le_of_eq (Nat.zero_add _)) (H.rd (i := 0) (by rfl)).src sl22 sz61 hl22 (fun w23 cs24 (H : Sep ok w w23 [.row (.slice (some ⟨b13, 0, none⟩) l21.length l15.length) 61 k_Ar4_Int.sz l21.length cs24] [RE.rd k_Ar4_Int A1 cp2 a0, RE.chunks k_Ar4_Int cs24 l21]) => ?_))
    refine RL_pure (by exact wn0 rfl) (by rfl) (by rfl) (x_assign (v := .int .i64 ((min a0.length l15.length : Nat) : Int)) (by rfl)) ?_
    refine RL_nil ?_
    have hn25 : l15.length = l21.length := by rw [← hl22]; exact (length_cpyV (Nat.le_of_eq (Nat.zero_add _))).symm
    have H : Sep ok w w23 [.row (.slice (some ⟨b13, 0, none⟩) l21.length l21.length) 61 k_Ar4_Int.sz l21.length cs24] [RE.rd k_Ar4_Int A1 cp2 a0, RE.chunks k_Ar4_Int cs24 l21] := by (try rw [hn25] at H); exact H
    refine W_regen (l := [(7, .slice (some ⟨b13, 0, none⟩) l21.length l21.length), (8, .int .i64 ((min a0.length l15.length : Nat) : Int))]) ⟨(by (try rw [← hn25]); rfl), rfl, trivial⟩ fun r26 => ?_
    refine W_seq ?_
    refine W_block ?_
    refine W_loop (fun k1 r' w' => ∃ (l_row19_1 : (List (Ar4 Int))), ∃ (y8_1 : Int), ∃ (A_row19_1 : Option Addr), ∃ (c_row19_1 : Nat), ∃ (cs_row19_1 : List Value), m74_l1 K k1 l_row19_1 y8_1 = some res ∧ Agr [(7, .slice A_row19_1 l_row19_1.length c_row19_1), (8, .int .i64 y8_1)] r' ∧ Sep ok w w' [.row (.slice A_row19_1 l_row19_1.length c_row19_1) 61 k_Ar4_Int.sz l_row19_1.length cs_row19_1] [RE.rd k_Ar4_Int A1 cp2 a0, RE.chunks k_Ar4_Int cs_row19_1 l_row19_1]) K ?_ ?_
    ·exact ⟨l21, ((min a0.length l15.length : Nat) : Int), (some ⟨b13, 0, none⟩), l21.length, cs24, hm, ⟨(by (try rw [← hn39]); rfl), (by (try rw [← hn39]); rfl), trivial⟩, H⟩
    ·rintro k1 r' w' ⟨l_row19_1, y8_1, A_row19_1, c_row19_1, cs_row19_1, hm, hA, H⟩
     obtain ⟨r27, rfl⟩ := regen _ hA; clear hA
     obtain ⟨w28, rfl⟩ : ∃ W : World, W = w' := ⟨_, rfl⟩
     cases k1 with
     | zero => exact (none_some hm).elim
     | succ k1 =>
      have hm : m74_l1b K (m74_l1 K k1) l_row19_1 y8_1 = some res := hm
      unfold m74_l1b at hm
      obtain ⟨rec1, hrec1⟩ : ∃ f, m74_l1 K k1 = f := ⟨_, rfl⟩
      rw [hrec1] at hm
      refine W_seq ?_
      refine W_seq ?_
      refine W_region ?_
      refine RL_pure (by exact wn0 rfl) (by rfl) (by rfl) (x_move (v := .int .i64 y8_1) (by rfl)) ?_
      refine RL_pure (by exact wn0 rfl) (by rfl) (by rfl) (x_move (v := .slice A_row19_1 l_row19_1.length c_row19_1) (by rfl)) ?_
      refine RL_pure (by exact wn0 rfl) (by rfl) (by rfl) (x_len sl22 (by rfl)) ?_
      refine RL_pure (by exact wn0 rfl) (by rfl) (by rfl) (x_lss (by rfl) (by rfl)) ?_
      refine RL_nil ?_
      refine W_cond (by rfl) (fun hb => ?_) (fun hb => ?_)
      ·have hm := cond_t hb hm
       refine W_skip ?_
       refine W_block ?_
       refine W_draw [.free 0, .free 1, .free 2, .free 3, .free 4, .free 5, .free 6, .tail 7, .free 8, .free 9] (fun wS => Sep ok w wS [.row (.slice A_row19_1 l_row19_1.length c_row19_1) 61 k_Ar4_Int.sz l_row19_1.length cs_row19_1] [RE.rd k_Ar4_Int A1 cp2 a0, RE.chunks k_Ar4_Int cs_row19_1 l_row19_1]) [7] [0, 1, 2, 3, 4, 5, 6, 8, 9] mixed0 (by kernel_rfl) (by kernel_rfl) (by kernel_rfl) (by rfl) (by exact H.drew) ?_
       obtain ⟨w29, hW⟩ : ∃ W : World, W = { w28 with drawn := w28.drawn + 1 } := ⟨_, rfl⟩
       rw [← hW]
       have H : Sep ok w w29 [.row (.slice A_row19_1 l_row19_1.length c_row19_1) 61 k_Ar4_Int.sz l_row19_1.length cs_row19_1] [RE.rd k_Ar4_Int A1 cp2 a0, RE.chunks k_Ar4_Int cs_row19_1 l_row19_1] := by rw [hW]; exact H.drew
       clear hW
       refine PR_free (by rfl) (by rfl) (by rfl) (by exact wn0 rfl) (fun wS => (x_move (v := .int .i64 y8_1) (by rfl))) ?_
       refine PR_free (by rfl) (by rfl) (by rfl) (by exact wn0 rfl) (fun wS => (x_move (v := .slice A_row19_1 l_row19_1.length c_row19_1) (by rfl))) ?_
       refine PR_free (by rfl) (by rfl) (by rfl) (by exact wn0 rfl) (fun wS => (x_move (v := .int .i64 y8_1) (by rfl))) ?_
       obtain ⟨h30, h31, hm⟩ := slg_some hm
       refine PR_free (by rfl) (by rfl) (by rfl) (by exact wn0 rfl) (fun wS => (x_slice_loL sl22 sz61 (by rfl) (by rfl) h30 h31)) ?_
       refine PR_free (by rfl) (by rfl) (by rfl) (by exact wn0 rfl) (fun wS => (x_move (v := .slice A_row19_1 l_row19_1.length c_row19_1) (by rfl))) ?_
       refine PR_free (by rfl) (by rfl) (by rfl) (by exact wn0 rfl) (fun wS => (x_move (v := .int .i64 y8_1) (by rfl))) ?_
       obtain ⟨h33, h34, hm⟩ := slg_some hm
       have h35 := (H.rowForm (i := 0) (by rfl)).1
       refine PR_free (by rfl) (by rfl) (by rfl) (by exact wn0 rfl) (fun wS => (x_slice_hiL sl22 sz61 (by rfl) (by rfl) h33 h34 h35)) ?_
       obtain ⟨l36, hl37, hm⟩ := lete_some hm
       refine PR_tail (by rfl) (O_copy (D := k_Ar4_Int) (i := 0) (j := 1) (lo := (y8_1).toNat) (dn := (l_row19_1.drop ((y8_1).toNat)).length) (zs := (l_row19_1.take ((y8_1).toNat))) (by exact wn0 rfl) (by rfl) (by rfl) (by rfl) (by rfl) (by rfl) H (by rfl) (by rfl) (drop_le h30 h31) (SrcAt.takeN (H.rowSrc (lo := 0) (i := 0) (j := 1) (by rfl) (by rfl)) _) sl22 sz61 hl37 (fun w38 cs39 (H : Sep ok w w38 [.row (.slice A_row19_1 l36.length c_row19_1) 61 k_Ar4_Int.sz l36.length cs39] [RE.rd k_Ar4_Int A1 cp2 a0, RE.chunks k_Ar4_Int cs39 l36]) => ?_))
       obtain ⟨x40, ex40, qx40, ux40, hm⟩ := ck_some hm
       refine PR_free (by rfl) (by rfl) (by rfl) (by exact wn0 rfl) (fun wS => (x_add (by rfl) (by rfl) ux40)) ?_
       refine PR_free (by rfl) (by rfl) (by rfl) (by exact wn0 rfl) (fun wS => (x_assign (v := .int .i64 x40) (by rfl))) ?_
       refine PR_nil ?_
       have hn41 : l_row19_1.length = l36.length := by rw [← hl37]; exact (length_cpyV (drop_le h30 h31)).symm
       have H : Sep ok w w38 [.row (.slice A_row19_1 l36.length c_row19_1) 61 k_Ar4_Int.sz l36.length cs39] [RE.rd k_Ar4_Int A1 cp2 a0, RE.chunks k_Ar4_Int cs39 l36] := by (try rw [hn41] at H); exact H
       subst hrec1
       exact ⟨k1, Nat.lt_succ_self k1, l36, x40, A_row19_1, c_row19_1, cs39, hm, ⟨(by (try rw [← hn41]); rfl), rfl, trivial⟩, H⟩
      ·have hm := cond_f hb hm
       refine W_exit ?_
       refine W_seq ?_
       refine W_region ?_
       refine RL_pure (by exact wn0 rfl) (by rfl) (by rfl) (x_move (v := .slice A_row19_1 l_row19_1.length c_row19_1) (by rfl)) ?_
       refine RL_pure (by exact wn0 rfl) (by rfl) (by rfl) (x_assign (v := .slice A_row19_1 l_row19_1.length c_row19_1) (by rfl)) ?_
       refine RL_nil ?_
       refine W_ret ?_
       have H : Sep ok w w28 [.hole] [RE.rd k_Ar4_Int A1 cp2 a0, RE.rd k_Ar4_Int A_row19_1 c_row19_1 l_row19_1] := H.frozen (i := 0) (j := 1) (by rfl) (by rfl)
       obtain rfl := Option.some.inj hm
       exact ⟨[.slice A_row19_1 l_row19_1.length c_row19_1], (.tmp (by rfl) rfl), A_row19_1, c_row19_1, rfl, (H.forgetAll).pick [1]⟩
end Go.Proofs.YtobkigllalbkiaaV.M

/- A plain Lean function that answers as the Go function does (none: not told), and the proof that a call answers so. Written by program. -/
set_option linter.unusedVariables false
namespace Go.Proofs.YtobkigllalbkiaaV.M
open Go.RowKit Go.Proofs.YtobkigllalbkiaaV
/-- diorama/frame.New -/
def m28 (K : Nat) (a0 : Int) (a1 : Int) (a2 : (Ar4 Int)) : Option (S_Frame × Int) :=
 ((bif (decide ((mn a0 a1) < 1)) then some true else some (decide (64 < (mx a0 a1)))).bind fun b5 => (bif b5 then some ((⟨0, 0, [], [], [], []⟩ : S_Frame), 2) else (ck (a0 * a1) fun x17 => ((m73 K ([(-1)]) x17).bind fun v19 => (ck (a0 * a1) fun x28 => ((m74 K ([a2]) x28).bind fun v30 => (ck (a0 * a1) fun x39 => ((m73 K ([(-2048)]) x39).bind fun v41 => ((m59 K v19).bind fun v47 => some ((⟨a0, a1, v30, v41, v19, v47⟩ : S_Frame), 0))))))))))
set_option maxRecDepth 100000 in
set_option maxHeartbeats 4000000 in
theorem c28 (ok : Nat → Prop) (K : Nat) (w : World) (a0 : Int) (a1 : Int) (a2 : (Ar4 Int))  (res : S_Frame × Int) (hm : m28 K a0 a1 a2 = some res) :
  Calls Try.prog 28 #[.int .i64 a0, .int .i64 a1, .agg #[.int .u8 a2.a0, .int .u8 a2.a1, .int .u8 a2.a2, .int .u8 a2.a3]] w (fun e w' => ∃ (A0_ : Option Addr) (c0_ : Nat), ∃ (A1_ : Option Addr) (c1_ : Nat), ∃ (A2_ : Option Addr) (c2_ : Nat), ∃ (A3_ : Option Addr) (c3_ : Nat), e = .returned (tup [.agg #[.int .i64 res.1.W, .int .i64 res.1.H, .slice A0_ res.1.Color.length c0_, .slice A1_ res.1.Depth.length c1_, .slice A2_ res.1.Item.length c2_, .slice A3_ res.1.Tri.length c3_], .int .i64 res.2]) ∧ Sep ok w w' [] [RE.rd k_Ar4_Int A0_ c0_ res.1.Color, RE.rd kInt A1_ c1_ res.1.Depth, RE.rd kInt A2_ c2_ res.1.Item, RE.rd kInt A3_ c3_ res.1.Tri]) := by
 refine calls_W (args := [.int .i64 a0, .int .i64 a1, .agg #[.int .u8 a2.a0, .int .u8 a2.a1, .int .u8 a2.a2, .int .u8 a2.a3]]) Try.func28 rfl Try.ntmps28 Try.results28 rfl fun r hr => ?_
 obtain ⟨r1, rfl⟩ := regen (r := r) [(0, .int .i64 a0), (1, .int .i64 a1), (2, .agg #[.int .u8 a2.a0, .int .u8 a2.a1, .int .u8 a2.a2, .int .u8 a2.a3])] ⟨hr 0 _ rfl, hr 1 _ rfl, hr 2 _ rfl, trivial⟩
 have H : Sep ok w w [] [] := Sep.start ok w
 unfold m28 at hm
 refine W_seq ?_
 refine W_region ?_
 refine RL_cons (O_box (by exact wn0 rfl) (by rfl) (by rfl) (by rfl) H (fun w2 b1 (H : Sep ok w w2 [.blk b1 61 [.int .u8 a2.a0, .int .u8 a2.a1, .int .u8 a2.a2, .int .u8 a2.a3]] []) => ?_))
 refine RL_cons (O_alloc (by exact wn0 rfl) (by rfl) ze25 (by rfl) H (fun w4 b3 (H : Sep ok w w4 [.blk b1 61 [.int .u8 a2.a0, .int .u8 a2.a1, .int .u8 a2.a2, .int .u8 a2.a3], .blk b3 25 [.int .i64 0, .int .i64 0, .slice none 0 0, .slice none 0 0, .slice none 0 0, .slice none 0 0]] []) => ?_))
 refine RL_pure (by exact wn0 rfl) (by rfl) (by rfl) (x_assign (v := .int .i64 0) (by rfl)) ?_
 refine RL_nil ?_
 refine W_seq ?_
 refine W_seq ?_
 refine W_region ?_
 refine RL_pure (by exact wn0 rfl) (by rfl) (by rfl) (x_move (v := .int .i64 a0) (by rfl)) ?_
 refine RL_pure (by exact wn0 rfl) (by rfl) (by rfl) (x_move (v := .int .i64 a1) (by rfl)) ?_
 refine RL_pure (by exact wn0 rfl) (by rfl) (by rfl) (x_min2 (by rfl) (by rfl)) ?_
 refine RL_pure (by exact wn0 rfl) (by rfl) (by rfl) (x_lss (by rfl) (by rfl)) ?_
 refine RL_pure (by exact wn0 rfl) (by rfl) (by rfl) (x_move (v := .bool (decide ((mn a0 a1) < 1))) (by rfl)) ?_
 obtain ⟨b5, hmS, hm⟩ := bind_some hm
 refine RL_cut 5 (fun r' w' => Agr [(18, .bool b5), (0, .int .i64 a0), (1, .int .i64 a1), (5, .pointer (some ⟨b1, 0, none⟩)), (6, .pointer (some ⟨b3, 0, none⟩))] r' ∧ Sep ok w w' [.blk b1 61 [.int .u8 a2.a0, .int .u8 a2.a1, .int .u8 a2.a2, .int .u8 a2.a3], .blk b3 25 [.int .i64 0, .int .i64 0, .slice none 0 0, .slice none 0 0, .slice none 0 0, .slice none 0 0]] []) ?_ ?_
 ·cases hbS : (decide ((mn a0 a1) < 1))
  ·have hm := cond_f hbS hmS
   refine RL_pure (by exact wn1 rfl rfl rfl rfl) (by rfl) (by rfl) (x_move (v := .int .i64 a0) (by rfl)) ?_
   refine RL_pure (by exact wn1 rfl rfl rfl rfl) (by rfl) (by rfl) (x_move (v := .int .i64 a1) (by rfl)) ?_
   refine RL_pure (by exact wn1 rfl rfl rfl rfl) (by rfl) (by rfl) (x_max2 (by rfl) (by rfl)) ?_
   refine RL_pure (by exact wn1 rfl rfl rfl rfl) (by rfl) (by rfl) (x_gtr (by rfl) (by rfl)) ?_
   refine RL_pure (by exact wn0 rfl) (by rfl) (by rfl) (x_pick_f (v := .bool (decide (64 < (mx a0 a1)))) (by rfl) (by rfl)) ?_
   refine RL_nil ?_
   exact ⟨⟨congrArg Value.bool (Option.some.inj hm), rfl, rfl, rfl, rfl, trivial⟩, H⟩
  ·have hm := cond_t hbS hmS
   refine RL_cons (OpR_off (by exact wn2 rfl rfl rfl rfl) (by rfl) (by rfl) ?_)
   refine RL_cons (OpR_off (by exact wn2 rfl rfl rfl rfl) (by rfl) (by rfl) ?_)
   refine RL_cons (OpR_off (by exact wn2 rfl rfl rfl rfl) (by rfl) (by rfl) ?_)
   refine RL_cons (OpR_off (by exact wn2 rfl rfl rfl rfl) (by rfl) (by rfl) ?_)
   refine RL_pure (by exact wn0 rfl) (by rfl) (by rfl) (x_pick_t (v := .bool true) (by rfl) (by rfl)) ?_
   refine RL_nil ?_
   exact ⟨⟨congrArg Value.bool (Option.some.inj hm), rfl, rfl, rfl, rfl, trivial⟩, H⟩
 ·rintro r' w' ⟨hA, H⟩
  obtain ⟨r6, rfl⟩ := regen _ hA; clear hA
  obtain ⟨w7, rfl⟩ : ∃ W : World, W = w' := ⟨_, rfl⟩
  show RL _ _ _ _ _ _ _
  refine RL_nil ?_
  refine W_cond (by rfl) (fun hb => ?_) (fun hb => ?_)
  ·have hm := cond_t hb hm
   refine W_seq ?_
   refine W_region ?_
   refine RL_pure (by exact wn0 rfl) (by rfl) (by rfl) (x_build (vs := []) (cs := [.int .i64 0, .int .i64 0, .slice none 0 0, .slice none 0 0, .slice none 0 0, .slice none 0 0]) (by rfl) (by kernel_rfl)) ?_
   refine RL_cons (O_store (i := 1) (off := 0) (by exact wn0 rfl) (by rfl) (by rfl) H (by rfl) (vs := [.int .i64 0, .int .i64 0, .slice none 0 0, .slice none 0 0, .slice none 0 0, .slice none 0 0]) (by rfl) sz25 (by rfl) (by rfl) (by rfl) (fun w8 (H : Sep ok w w8 [.blk b1 61 [.int .u8 a2.a0, .int .u8 a2.a1, .int .u8 a2.a2, .int .u8 a2.a3], .blk b3 25 [.int .i64 0, .int .i64 0, .slice none 0 0, .slice none 0 0, .slice none 0 0, .slice none 0 0]] []) => ?_))
   refine RL_pure (by exact wn0 rfl) (by rfl) (by rfl) (x_assign (v := .int .i64 2) (by rfl)) ?_
   refine RL_nil ?_
   refine W_ret ?_
   have H : Sep ok w w8 [.blk b1 61 [.int .u8 a2.a0, .int .u8 a2.a1, .int .u8 a2.a2, .int .u8 a2.a3], .blk b3 25 [.int .i64 0, .int .i64 0, .slice none 0 0, .slice none 0 0, .slice none 0 0, .slice none 0 0]] [RE.rd k_Ar4_Int none 0 ([])] := Sep.also H (re := RE.rd k_Ar4_Int none 0 ([])) (Rd.nil (by decide))
   have H : Sep ok w w8 [.blk b1 61 [.int .u8 a2.a0, .int .u8 a2.a1, .int .u8 a2.a2, .int .u8 a2.a3], .blk b3 25 [.int .i64 0, .int .i64 0, .slice none 0 0, .slice none 0 0, .slice none 0 0, .slice none 0 0]] [RE.rd k_Ar4_Int none 0 ([]), RE.rd kInt none 0 ([])] := Sep.also H (re := RE.rd kInt none 0 ([])) (Rd.nil (by decide))
   have H : Sep ok w w8 [.blk b1 61 [.int .u8 a2.a0, .int .u8 a2.a1, .int .u8 a2.a2, .int .u8 a2.a3], .blk b3 25 [.int .i64 0, .int .i64 0, .slice none 0 0, .slice none 0 0, .slice none 0 0, .slice none 0 0]] [RE.rd k_Ar4_Int none 0 ([]), RE.rd kInt none 0 ([]), RE.rd kInt none 0 ([])] := Sep.also H (re := RE.rd kInt none 0 ([])) (Rd.nil (by decide))
   have H : Sep ok w w8 [.blk b1 61 [.int .u8 a2.a0, .int .u8 a2.a1, .int .u8 a2.a2, .int .u8 a2.a3], .blk b3 25 [.int .i64 0, .int .i64 0, .slice none 0 0, .slice none 0 0, .slice none 0 0, .slice none 0 0]] [RE.rd k_Ar4_Int none 0 ([]), RE.rd kInt none 0 ([]), RE.rd kInt none 0 ([]), RE.rd kInt none 0 ([])] := Sep.also H (re := RE.rd kInt none 0 ([])) (Rd.nil (by decide))
   obtain rfl := Option.some.inj hm
   exact ⟨[.agg #[.int .i64 0, .int .i64 0, .slice none 0 0, .slice none 0 0, .slice none 0 0, .slice none 0 0], .int .i64 2], (.cellA (by rfl) ag25 (H.cells (i := 1) (by rfl)) (by rfl) (.tmp (by rfl) rfl)), none, 0, none, 0, none, 0, none, 0, rfl, (H.forgetAll).pick [0, 1, 2, 3]⟩
  ·have hm := cond_f hb hm
   refine W_skip ?_
   refine W_seq ?_
   refine W_region ?_
   refine RL_cons (O_buildSlice (vs := [(0, .int .i64 (-1))]) (cs := [.int .i64 (-1)]) (by exact wn0 rfl) (by rfl) sl23 sz3 ze3 (by rfl) (by rfl) (by rfl) (by kernel_rfl) H (fun w14 b13 (H : Sep ok w w14 [.blk b1 61 [.int .u8 a2.a0, .int .u8 a2.a1, .int .u8 a2.a2, .int .u8 a2.a3], .blk b3 25 [.int .i64 0, .int .i64 0, .slice none 0 0, .slice none 0 0, .slice none 0 0, .slice none 0 0], .blk b13 3 [.int .i64 (-1)]] []) => ?_))
   have H : Sep ok w w14 [.blk b1 61 [.int .u8 a2.a0, .int .u8 a2.a1, .int .u8 a2.a2, .int .u8 a2.a3], .blk b3 25 [.int .i64 0, .int .i64 0, .slice none 0 0, .slice none 0 0, .slice none 0 0, .slice none 0 0], .row (.slice (some ⟨b13, 0, none⟩) ([(-1)]).length 1) 3 kInt.sz ([(-1)]).length [.int .i64 (-1)]] [RE.chunks kInt [.int .i64 (-1)] ([(-1)])] := H.rowOf (i := 2) (D := kInt) (xs := [(-1)]) (by rfl) (by exact ⟨rfl, rfl⟩) (by rfl)
   refine RL_pure (by exact wn0 rfl) (by rfl) (by rfl) (x_move (v := .int .i64 a0) (by rfl)) ?_
   refine RL_pure (by exact wn0 rfl) (by rfl) (by rfl) (x_move (v := .int .i64 a1) (by rfl)) ?_
   obtain ⟨x17, ex17, qx17, ux17, hm⟩ := ck_some hm
   refine RL_pure (by exact wn0 rfl) (by rfl) (by rfl) (x_mul (by rfl) (by rfl) ux17) ?_
   obtain ⟨v19, hv18, hm⟩ := bind_some hm
   have H : Sep ok w w14 [.blk b1 61 [.int .u8 a2.a0, .int .u8 a2.a1, .int .u8 a2.a2, .int .u8 a2.a3], .blk b3 25 [.int .i64 0, .int .i64 0, .slice none 0 0, .slice none 0 0, .slice none 0 0, .slice none 0 0], .hole] [RE.rd kInt (some ⟨b13, 0, none⟩) 1 ([(-1)])] := H.frozen (i := 2) (j := 0) (by rfl) (by rfl)
   refine RL_cons (O_call (by exact wn0 rfl) (by rfl) (by rfl) (x_callL (by rfl) (args := [.slice (some ⟨b13, 0, none⟩) ([(-1)]).length 1, .int .i64 x17]) (by rfl) (cf73 _ _)) (c73 (okS ok w [.blk b1 61 [.int .u8 a2.a0, .int .u8 a2.a1, .int .u8 a2.a2, .int .u8 a2.a3], .blk b3 25 [.int .i64 0, .int .i64 0, .slice none 0 0, .slice none 0 0, .slice none 0 0, .slice none 0 0], .hole]) K w14 ([(-1)]) (some ⟨b13, 0, none⟩) 1 x17 (H.rd (i := 0) (by rfl)) v19 hv18) ?_)
   rintro e w20 ⟨A21, cp22, rfl, H2⟩
   have H : Sep ok w w20 [.blk b1 61 [.int .u8 a2.a0, .int .u8 a2.a1, .int .u8 a2.a2, .int .u8 a2.a3], .blk b3 25 [.int .i64 0, .int .i64 0, .slice none 0 0, .slice none 0 0, .slice none 0 0, .slice none 0 0], .hole] [RE.rd kInt (some ⟨b13, 0, none⟩) 1 ([(-1)]), RE.rd kInt A21 cp22 v19] := H.call H2
   clear H2
   refine ⟨_, rfl, ?_⟩
   show RL _ _ _ _ _ _ _
   refine RL_pure (by exact wn0 rfl) (by rfl) (by rfl) (x_assign (v := .slice A21 v19.length cp22) (by rfl)) ?_
   refine RL_nil ?_
   refine W_seq ?_
   refine W_region ?_
   refine RL_pure (by exact wn0 rfl) (by rfl) (by rfl) (x_move (v := .int .i64 a0) (by rfl)) ?_
   refine RL_pure (by exact wn0 rfl) (by rfl) (by rfl) (x_move (v := .int .i64 a1) (by rfl)) ?_
   refine RL_pure (by exact wn0 rfl) (by rfl) (by rfl) (x_loadA (j := 0) (vs := [.int .u8 a2.a0, .int .u8 a2.a1, .int .u8 a2.a2, .int .u8 a2.a3]) ag61 (by rfl) (H.cells (i := 0) (by rfl)) (by rfl) (by rfl)) ?_
   refine RL_cons (O_buildSlice (vs := [(0, .agg #[.int .u8 a2.a0, .int .u8 a2.a1, .int .u8 a2.a2, .int .u8 a2.a3])]) (cs := [.int .u8 a2.a0, .int .u8 a2.a1, .int .u8 a2.a2, .int .u8 a2.a3]) (by exact wn0 rfl) (by rfl) sl22 sz61 ze61 (by rfl) (by rfl) (by rfl) (by kernel_rfl) H (fun w25 b24 (H : Sep ok w w25 [.blk b1 61 [.int .u8 a2.a0, .int .u8 a2.a1, .int .u8 a2.a2, .int .u8 a2.a3], .blk b3 25 [.int .i64 0, .int .i64 0, .slice none 0 0, .slice none 0 0, .slice none 0 0, .slice none 0 0], .hole, .blk b24 61 [.int .u8 a2.a0, .int .u8 a2.a1, .int .u8 a2.a2, .int .u8 a2.a3]] [RE.rd kInt (some ⟨b13, 0, none⟩) 1 ([(-1)]), RE.rd kInt A21 cp22 v19]) => ?_))
   have H : Sep ok w w25 [.blk b1 61 [.int .u8 a2.a0, .int .u8 a2.a1, .int .u8 a2.a2, .int .u8 a2.a3], .blk b3 25 [.int .i64 0, .int .i64 0, .slice none 0 0, .slice none 0 0, .slice none 0 0, .slice none 0 0], .hole, .row (.slice (some ⟨b24, 0, none⟩) ([a2]).length 1) 61 k_Ar4_Int.sz ([a2]).length [.int .u8 a2.a0, .int .u8 a2.a1, .int .u8 a2.a2, .int .u8 a2.a3]] [RE.rd kInt (some ⟨b13, 0, none⟩) 1 ([(-1)]), RE.rd kInt A21 cp22 v19, RE.chunks k_Ar4_Int [.int .u8 a2.a0, .int .u8 a2.a1, .int .u8 a2.a2, .int .u8 a2.a3] ([a2])] := H.rowOf (i := 3) (D := k_Ar4_Int) (xs := [a2]) (by rfl) (by exact ⟨rfl, rfl⟩) (by rfl)
   refine RL_pure (by exact wn0 rfl) (by rfl) (by rfl) (x_move (v := .int .i64 a0) (by rfl)) ?_
   refine RL_pure (by exact wn0 rfl) (by rfl) (by rfl) (x_move (v := .int .i64 a1) (by rfl)) ?_
   obtain ⟨x28, ex28, qx28, ux28, hm⟩ := ck_some hm
   refine RL_pure (by exact wn0 rfl) (by rfl) (by rfl) (x_mul (by rfl) (by rfl) ux28) ?_
   obtain ⟨v30, hv29, hm⟩ := bind_some hm
   have H : Sep ok w w25 [.blk b1 61 [.int .u8 a2.a0, .int .u8 a2.a1, .int .u8 a2.a2, .int .u8 a2.a3], .blk b3 25 [.int .i64 0, .int .i64 0, .slice none 0 0, .slice none 0 0, .slice none 0 0, .slice none 0 0], .hole, .hole] [RE.rd kInt (some ⟨b13, 0, none⟩) 1 ([(-1)]), RE.rd kInt A21 cp22 v19, RE.rd k_Ar4_Int (some ⟨b24, 0, none⟩) 1 ([a2])] := H.frozen (i := 3) (j := 2) (by rfl) (by rfl)
   refine RL_cons (O_call (by exact wn0 rfl) (by rfl) (by rfl) (x_callL (by rfl) (args := [.slice (some ⟨b24, 0, none⟩) ([a2]).length 1, .int .i64 x28]) (by rfl) (cf74 _ _)) (c74 (okS ok w [.blk b1 61 [.int .u8 a2.a0, .int .u8 a2.a1, .int .u8 a2.a2, .int .u8 a2.a3], .blk b3 25 [.int .i64 0, .int .i64 0, .slice none 0 0, .slice none 0 0, .slice none 0 0, .slice none 0 0], .hole, .hole]) K w25 ([a2]) (some ⟨b24, 0, none⟩) 1 x28 (H.rd (i := 2) (by rfl)) v30 hv29) ?_)
   rintro e w31 ⟨A32, cp33, rfl, H2⟩
   have H : Sep ok w w31 [.blk b1 61 [.int .u8 a2.a0, .int .u8 a2.a1, .int .u8 a2.a2, .int .u8 a2.a3], .blk b3 25 [.int .i64 0, .int .i64 0, .slice none 0 0, .slice none 0 0, .slice none 0 0, .slice none 0 0], .hole, .hole] [RE.rd kInt (some ⟨b13, 0, none⟩) 1 ([(-1)]), RE.rd kInt A21 cp22 v19, RE.rd k_Ar4_Int (some ⟨b24, 0, none⟩) 1 ([a2]), RE.rd k_Ar4_Int A32 cp33 v30] := H.call H2
   clear H2
   refine ⟨_, rfl, ?_⟩
   show RL _ _ _ _ _ _ _
   refine RL_cons (O_buildSlice (vs := [(0, .int .i64 (-2048))]) (cs := [.int .i64 (-2048)]) (by exact wn0 rfl) (by rfl) sl23 sz3 ze3 (by rfl) (by rfl) (by rfl) (by kernel_rfl) H (fun w36 b35 (H : Sep ok w w36 [.blk b1 61 [.int .u8 a2.a0, .int .u8 a2.a1, .int .u8 a2.a2, .int .u8 a2.a3], .blk b3 25 [.int .i64 0, .int .i64 0, .slice none 0 0, .slice none 0 0, .slice none 0 0, .slice none 0 0], .hole, .hole, .blk b35 3 [.int .i64 (-2048)]] [RE.rd kInt (some ⟨b13, 0, none⟩) 1 ([(-1)]), RE.rd kInt A21 cp22 v19, RE.rd k_Ar4_Int (some ⟨b24, 0, none⟩) 1 ([a2]), RE.rd k_Ar4_Int A32 cp33 v30]) => ?_))
   have H : Sep ok w w36 [.blk b1 61 [.int .u8 a2.a0, .int .u8 a2.a1, .int .u8 a2.a2, .int .u8 a2.a3], .blk b3 25 [.int .i64 0, .int .i64 0, .slice none 0 0, .slice none 0 0, .slice none 0 0, .slice none 0 0], .hole, .hole, .row (.slice (some ⟨b35, 0, none⟩) ([(-2048)]).length 1) 3 kInt.sz ([(-2048)]).length [.int .i64 (-2048)]] [RE.rd kInt (some ⟨b13, 0, none⟩) 1 ([(-1)]), RE.rd kInt A21 cp22 v19, RE.rd k_Ar4_Int (some ⟨b24, 0, none⟩) 1 ([a2]), RE.rd k_Ar4_Int A32 cp33 v30, RE.chunks kInt [.int .i64 (-2048)] ([(-2048)])] := H.rowOf (i := 4) (D := kInt) (xs := [(-2048)]) (by rfl) (by exact ⟨rfl, rfl⟩) (by rfl)
   refine RL_pure (by exact wn0 rfl) (by rfl) (by rfl) (x_move (v := .int .i64 a0) (by rfl)) ?_
   refine RL_pure (by exact wn0 rfl) (by rfl) (by rfl) (x_move (v := .int .i64 a1) (by rfl)) ?_
   obtain ⟨x39, ex39, qx39, ux39, hm⟩ := ck_some hm
   refine RL_pure (by exact wn0 rfl) (by rfl) (by rfl) (x_mul (by rfl) (by rfl) ux39) ?_
   obtain ⟨v41, hv40, hm⟩ := bind_some hm
   have H : Sep ok w w36 [.blk b1 61 [.int .u8 a2.a0, .int .u8 a2.a1, .int .u8 a2.a2, .int .u8 a2.a3], .blk b3 25 [.int .i64 0, .int .i64 0, .slice none 0 0, .slice none 0 0, .slice none 0 0, .slice none 0 0], .hole, .hole, .hole] [RE.rd kInt (some ⟨b13, 0, none⟩) 1 ([(-1)]), RE.rd kInt A21 cp22 v19, RE.rd k_Ar4_Int (some ⟨b24, 0, none⟩) 1 ([a2]), RE.rd k_Ar4_Int A32 cp33 v30, RE.rd kInt (some ⟨b35, 0, none⟩) 1 ([(-2048)])] := H.frozen (i := 4) (j := 4) (by rfl) (by rfl)
   refine RL_cons (O_call (by exact wn0 rfl) (by rfl) (by rfl) (x_callL (by rfl) (args := [.slice (some ⟨b35, 0, none⟩) ([(-2048)]).length 1, .int .i64 x39]) (by rfl) (cf73 _ _)) (c73 (okS ok w [.blk b1 61 [.int .u8 a2.a0, .int .u8 a2.a1, .int .u8 a2.a2, .int .u8 a2.a3], .blk b3 25 [.int .i64 0, .int .i64 0, .slice none 0 0, .slice none 0 0, .slice none 0 0, .slice none 0 0], .hole, .hole, .hole]) K w36 ([(-2048)]) (some ⟨b35, 0, none⟩) 1 x39 (H.rd (i := 4) (by rfl)) v41 hv40) ?_)
   rintro e w42 ⟨A43, cp44, rfl, H2⟩
   have H : Sep ok w w42 [.blk b1 61 [.int .u8 a2.a0, .int .u8 a2.a1, .int .u8 a2.a2, .int .u8 a2.a3], .blk b3 25 [.int .i64 0, .int .i64 0, .slice none 0 0, .slice none 0 0, .slice none 0 0, .slice none 0 0], .hole, .hole, .hole] [RE.rd kInt (some ⟨b13, 0, none⟩) 1 ([(-1)]), RE.rd kInt A21 cp22 v19, RE.rd k_Ar4_Int (some ⟨b24, 0, none⟩) 1 ([a2]), RE.rd k_Ar4_Int A32 cp33 v30, RE.rd kInt (some ⟨b35, 0, none⟩) 1 ([(-2048)]), RE.rd kInt A43 cp44 v41] := H.call H2
   clear H2
   refine ⟨_, rfl, ?_⟩
   show RL _ _ _ _ _ _ _
   refine RL_pure (by exact wn0 rfl) (by rfl) (by rfl) (x_move (v := .slice A21 v19.length cp22) (by rfl)) ?_
   refine RL_pure (by exact wn0 rfl) (by rfl) (by rfl) (x_move (v := .slice A21 v19.length cp22) (by rfl)) ?_
   obtain ⟨v47, hv46, hm⟩ := bind_some hm
   refine RL_cons (O_call (by exact wn0 rfl) (by rfl) (by rfl) (x_callL (by rfl) (args := [.slice A21 v19.length cp22]) (by rfl) (cf59 _ _)) (c59 (okS ok w [.blk b1 61 [.int .u8 a2.a0, .int .u8 a2.a1, .int .u8 a2.a2, .int .u8 a2.a3], .blk b3 25 [.int .i64 0, .int .i64 0, .slice none 0 0, .slice none 0 0, .slice none 0 0, .slice none 0 0], .hole, .hole, .hole]) K w42 v19 A21 cp22 (H.rd (i := 1) (by rfl)) v47 hv46) ?_)
   rintro e w48 ⟨A49, cp50, cs51, rfl, H2⟩
   have H : Sep ok w w48 [.blk b1 61 [.int .u8 a2.a0, .int .u8 a2.a1, .int .u8 a2.a2, .int .u8 a2.a3], .blk b3 25 [.int .i64 0, .int .i64 0, .slice none 0 0, .slice none 0 0, .slice none 0 0, .slice none 0 0], .hole, .hole, .hole, .row (.slice A49 v47.length cp50) 3 kInt.sz v47.length cs51] [RE.rd kInt (some ⟨b13, 0, none⟩) 1 ([(-1)]), RE.rd kInt A21 cp22 v19, RE.rd k_Ar4_Int (some ⟨b24, 0, none⟩) 1 ([a2]), RE.rd k_Ar4_Int A32 cp33 v30, RE.rd kInt (some ⟨b35, 0, none⟩) 1 ([(-2048)]), RE.rd kInt A43 cp44 v41, RE.chunks kInt cs51 v47] := H.call H2
   clear H2
   refine ⟨_, rfl, ?_⟩
   show RL _ _ _ _ _ _ _
   refine RL_pure (by exact wn0 rfl) (by rfl) (by rfl) (x_build (vs := [(0, .int .i64 a0), (1, .int .i64 a1), (2, .slice A32 v30.length cp33), (3, .slice A43 v41.length cp44), (4, .slice A21 v19.length cp22), (5, .slice A49 v47.length cp50)]) (cs := [.int .i64 a0, .int .i64 a1, .slice A32 v30.length cp33, .slice A43 v41.length cp44, .slice A21 v19.length cp22, .slice A49 v47.length cp50]) (by rfl) (by kernel_rfl)) ?_
   refine RL_cons (O_store (i := 1) (off := 0) (by exact wn0 rfl) (by rfl) (by rfl) H (by rfl) (vs := [.int .i64 a0, .int .i64 a1, .slice A32 v30.length cp33, .slice A43 v41.length cp44, .slice A21 v19.length cp22, .slice A49 v47.length cp50]) (by rfl) sz25 (by rfl) (by rfl) (by rfl) (fun w54 (H : Sep ok w w54 [.blk b1 61 [.int .u8 a2.a0, .int .u8 a2.a1, .int .u8 a2.a2, .int .u8 a2.a3], .blk b3 25 [.int .i64 a0, .int .i64 a1, .slice A32 v30.length cp33, .slice A43 v41.length cp44, .slice A21 v19.length cp22, .slice A49 v47.length cp50], .hole, .hole, .hole, .row (.slice A49 v47.length cp50) 3 kInt.sz v47.length cs51] [RE.rd kInt (some ⟨b13, 0, none⟩) 1 ([(-1)]), RE.rd kInt A21 cp22 v19, RE.rd k_Ar4_Int (some ⟨b24, 0, none⟩) 1 ([a2]), RE.rd k_Ar4_Int A32 cp33 v30, RE.rd kInt (some ⟨b35, 0, none⟩) 1 ([(-2048)]), RE.rd kInt A43 cp44 v41, RE.chunks kInt cs51 v47]) => ?_))
   refine RL_pure (by exact wn0 rfl) (by rfl) (by rfl) (x_assign (v := .int .i64 0) (by rfl)) ?_
   refine RL_nil ?_
   refine W_ret ?_
   have H : Sep ok w w54 [.blk b1 61 [.int .u8 a2.a0, .int .u8 a2.a1, .int .u8 a2.a2, .int .u8 a2.a3], .blk b3 25 [.int .i64 a0, .int .i64 a1, .slice A32 v30.length cp33, .slice A43 v41.length cp44, .slice A21 v19.length cp22, .slice A49 v47.length cp50], .hole, .hole, .hole, .hole] [RE.rd kInt (some ⟨b13, 0, none⟩) 1 ([(-1)]), RE.rd kInt A21 cp22 v19, RE.rd k_Ar4_Int (some ⟨b24, 0, none⟩) 1 ([a2]), RE.rd k_Ar4_Int A32 cp33 v30, RE.rd kInt (some ⟨b35, 0, none⟩) 1 ([(-2048)]), RE.rd kInt A43 cp44 v41, RE.rd kInt A49 cp50 v47] := H.frozen (i := 5) (j := 6) (by rfl) (by rfl)
   obtain rfl := Option.some.inj hm
   exact ⟨[.agg #[.int .i64 a0, .int .i64 a1, .slice A32 v30.length cp33, .slice A43 v41.length cp44, .slice A21 v19.length cp22, .slice A49 v47.length cp50], .int .i64 0], (.cellA (by rfl) ag25 (H.cells (i := 1) (by rfl)) (by rfl) (.tmp (by rfl) rfl)), A32, cp33, A43, cp44, A21, cp22, A49, cp50, rfl, (H.forgetAll).pick [3, 5, 1, 6]⟩
end Go.Proofs.YtobkigllalbkiaaV.M

/- A plain Lean function that answers as the Go function does (none: not told), and the proof that a call answers so. Written by program. -/
set_option linter.unusedVariables false
namespace Go.Proofs.YtobkigllalbkiaaV.M
open Go.RowKit Go.Proofs.YtobkigllalbkiaaV
/-- diorama/dioramalaw27.three -/
def m35 (K : Nat)  : Option (S_Frame × Bool) :=
 ((m28 K 3 2 (⟨0, 0, 0, 0⟩ : (Ar4 Int))).bind fun v4 => ((m30 K v4.1 0 0 (⟨600, 0, 0, 0, 0, 0⟩ : S_Frag) (⟨0, 0, 0, 0⟩ : (Ar4 Int))).bind fun v22 => ((m30 K v22.1 1 0 (⟨700, 0, 0, 0, 0, 0⟩ : S_Frag) (⟨0, 0, 0, 0⟩ : (Ar4 Int))).bind fun v38 => ((bif (v4.2 == 0) then some (v22.2 == 0) else some false).bind fun b53 => ((bif b53 then some (v38.2 == 0) else some false).bind fun b56 => some (v38.1, b56))))))
set_option maxRecDepth 100000 in
set_option maxHeartbeats 4000000 in
theorem c35 (ok : Nat → Prop) (K : Nat) (w : World)  (res : S_Frame × Bool) (hm : m35 K  = some res) :
  Calls Try.prog 35 #[] w (fun e w' => ∃ (A0_ : Option Addr) (c0_ : Nat), ∃ (A1_ : Option Addr) (c1_ : Nat), ∃ (A2_ : Option Addr) (c2_ : Nat), ∃ (A3_ : Option Addr) (c3_ : Nat), e = .returned (tup [.agg #[.int .i64 res.1.W, .int .i64 res.1.H, .slice A0_ res.1.Color.length c0_, .slice A1_ res.1.Depth.length c1_, .slice A2_ res.1.Item.length c2_, .slice A3_ res.1.Tri.length c3_], .bool res.2]) ∧ Sep ok w w' [] [RE.rd k_Ar4_Int A0_ c0_ res.1.Color, RE.rd kInt A1_ c1_ res.1.Depth, RE.rd kInt A2_ c2_ res.1.Item, RE.rd kInt A3_ c3_ res.1.Tri]) := by
 refine calls_W (args := []) Try.func35 rfl Try.ntmps35 Try.results35 rfl fun r hr => ?_
 obtain ⟨r1, rfl⟩ : ∃ R, R = r := ⟨_, rfl⟩
 have H : Sep ok w w [] [] := Sep.start ok w
 unfold m35 at hm
 refine W_seq ?_
 refine W_region ?_
 refine RL_cons (O_alloc (by exact wn0 rfl) (by rfl) ze25 (by rfl) H (fun w2 b1 (H : Sep ok w w2 [.blk b1 25 [.int .i64 0, .int .i64 0, .slice none 0 0, .slice none 0 0, .slice none 0 0, .slice none 0 0]] []) => ?_))
 refine RL_pure (by exact wn0 rfl) (by rfl) (by rfl) (x_assign (v := .bool false) (by rfl)) ?_
 refine RL_nil ?_
 refine W_seq ?_
 refine W_region ?_
 refine RL_pure (by exact wn0 rfl) (by rfl) (by rfl) (x_build (vs := []) (cs := [.int .u8 0, .int .u8 0, .int .u8 0, .int .u8 0]) (by rfl) (by kernel_rfl)) ?_
 obtain ⟨v4, hv3, hm⟩ := bind_some hm
 refine RL_cons (O_call (by exact wn0 rfl) (by rfl) (by rfl) (x_callL (by rfl) (args := [.int .i64 3, .int .i64 2, .agg #[.int .u8 0, .int .u8 0, .int .u8 0, .int .u8 0]]) (by rfl) (cf28 _ _)) (c28 (okS ok w [.blk b1 25 [.int .i64 0, .int .i64 0, .slice none 0 0, .slice none 0 0, .slice none 0 0, .slice none 0 0]]) K w2 3 2 (⟨0, 0, 0, 0⟩ : (Ar4 Int))  v4 hv3) ?_)
 rintro e w5 ⟨A6, cp7, A9, cp10, A12, cp13, A15, cp16, rfl, H2⟩
 have H : Sep ok w w5 [.blk b1 25 [.int .i64 0, .int .i64 0, .slice none 0 0, .slice none 0 0, .slice none 0 0, .slice none 0 0]] [RE.rd k_Ar4_Int A6 cp7 v4.1.Color, RE.rd kInt A9 cp10 v4.1.Depth, RE.rd kInt A12 cp13 v4.1.Item, RE.rd kInt A15 cp16 v4.1.Tri] := H.call H2
 clear H2
 refine ⟨_, rfl, ?_⟩
 show RL _ _ _ _ _ _ _
 refine RL_pure (by exact wn0 rfl) (by rfl) (by rfl) (x_move (v := tup [.agg #[.int .i64 v4.1.W, .int .i64 v4.1.H, .slice A6 v4.1.Color.length cp7, .slice A9 v4.1.Depth.length cp10, .slice A12 v4.1.Item.length cp13, .slice A15 v4.1.Tri.length cp16], .int .i64 v4.2]) (by rfl)) ?_
 refine RL_pure (by exact wn0 rfl) (by rfl) (by rfl) (x_extract (v := .agg #[.int .i64 v4.1.W, .int .i64 v4.1.H, .slice A6 v4.1.Color.length cp7, .slice A9 v4.1.Depth.length cp10, .slice A12 v4.1.Item.length cp13, .slice A15 v4.1.Tri.length cp16]) (by rfl) (by rfl)) ?_
 refine RL_pure (by exact wn0 rfl) (by rfl) (by rfl) (x_extract (v := .int .i64 v4.2) (by rfl) (by rfl)) ?_
 refine RL_cons (O_alloc (by exact wn0 rfl) (by rfl) ze25 (by rfl) H (fun w19 b18 (H : Sep ok w w19 [.blk b1 25 [.int .i64 0, .int .i64 0, .slice none 0 0, .slice none 0 0, .slice none 0 0, .slice none 0 0], .blk b18 25 [.int .i64 0, .int .i64 0, .slice none 0 0, .slice none 0 0, .slice none 0 0, .slice none 0 0]] [RE.rd k_Ar4_Int A6 cp7 v4.1.Color, RE.rd kInt A9 cp10 v4.1.Depth, RE.rd kInt A12 cp13 v4.1.Item, RE.rd kInt A15 cp16 v4.1.Tri]) => ?_))
 refine RL_cons (O_store (i := 1) (off := 0) (by exact wn0 rfl) (by rfl) (by rfl) H (by rfl) (vs := [.int .i64 v4.1.W, .int .i64 v4.1.H, .slice A6 v4.1.Color.length cp7, .slice A9 v4.1.Depth.length cp10, .slice A12 v4.1.Item.length cp13, .slice A15 v4.1.Tri.length cp16]) (by rfl) sz25 (by rfl) (by rfl) (by rfl) (fun w20 (H : Sep ok w w20 [.blk b1 25 [.int .i64 0, .int .i64 0, .slice none 0 0, .slice none 0 0, .slice none 0 0, .slice none 0 0], .blk b18 25 [.int .i64 v4.1.W, .int .i64 v4.1.H, .slice A6 v4.1.Color.length cp7, .slice A9 v4.1.Depth.length cp10, .slice A12 v4.1.Item.length cp13, .slice A15 v4.1.Tri.length cp16]] [RE.rd k_Ar4_Int A6 cp7 v4.1.Color, RE.rd kInt A9 cp10 v4.1.Depth, RE.rd kInt A12 cp13 v4.1.Item, RE.rd kInt A15 cp16 v4.1.Tri]) => ?_))
 refine RL_pure (by exact wn0 rfl) (by rfl) (by rfl) (x_assign (v := .int .i64 v4.2) (by rfl)) ?_
 refine RL_nil ?_
 refine W_seq ?_
 refine W_region ?_
 refine RL_pure (by exact wn0 rfl) (by rfl) (by rfl) (x_loadA (j := 0) (vs := [.int .i64 v4.1.W, .int .i64 v4.1.H, .slice A6 v4.1.Color.length cp7, .slice A9 v4.1.Depth.length cp10, .slice A12 v4.1.Item.length cp13, .slice A15 v4.1.Tri.length cp16]) ag25 (by rfl) (H.cells (i := 1) (by rfl)) (by rfl) (by rfl)) ?_
 refine RL_pure (by exact wn0 rfl) (by rfl) (by rfl) (x_build (vs := [(0, .int .i64 600)]) (cs := [.int .i64 600, .int .i64 0, .int .i64 0, .int .i64 0, .int .i64 0, .int .i64 0]) (by rfl) (by kernel_rfl)) ?_
 refine RL_pure (by exact wn0 rfl) (by rfl) (by rfl) (x_build (vs := []) (cs := [.int .u8 0, .int .u8 0, .int .u8 0, .int .u8 0]) (by rfl) (by kernel_rfl)) ?_
 obtain ⟨v22, hv21, hm⟩ := bind_some hm
 refine RL_cons (O_call (by exact wn0 rfl) (by rfl) (by rfl) (x_callL (by rfl) (args := [.agg #[.int .i64 v4.1.W, .int .i64 v4.1.H, .slice A6 v4.1.Color.length cp7, .slice A9 v4.1.Depth.length cp10, .slice A12 v4.1.Item.length cp13, .slice A15 v4.1.Tri.length cp16], .int .i64 0, .int .i64 0, .agg #[.int .i64 600, .int .i64 0, .int .i64 0, .int .i64 0, .int .i64 0, .int .i64 0], .agg #[.int .u8 0, .int .u8 0, .int .u8 0, .int .u8 0]]) (by rfl) (cf30 _ _)) (c30 (okS ok w [.blk b1 25 [.int .i64 0, .int .i64 0, .slice none 0 0, .slice none 0 0, .slice none 0 0, .slice none 0 0], .blk b18 25 [.int .i64 v4.1.W, .int .i64 v4.1.H, .slice A6 v4.1.Color.length cp7, .slice A9 v4.1.Depth.length cp10, .slice A12 v4.1.Item.length cp13, .slice A15 v4.1.Tri.length cp16]]) K w20 v4.1 A6 cp7 A9 cp10 A12 cp13 A15 cp16 0 0 (⟨600, 0, 0, 0, 0, 0⟩ : S_Frag) (⟨0, 0, 0, 0⟩ : (Ar4 Int)) (H.rd (i := 0) (by rfl)) (H.rd (i := 1) (by rfl)) (H.rd (i := 2) (by rfl)) (H.rd (i := 3) (by rfl)) v22 hv21) ?_)
 rintro e w23 ⟨A24, cp25, A27, cp28, A30, cp31, A33, cp34, rfl, H2⟩
 have H : Sep ok w w23 [.blk b1 25 [.int .i64 0, .int .i64 0, .slice none 0 0, .slice none 0 0, .slice none 0 0, .slice none 0 0], .blk b18 25 [.int .i64 v4.1.W, .int .i64 v4.1.H, .slice A6 v4.1.Color.length cp7, .slice A9 v4.1.Depth.length cp10, .slice A12 v4.1.Item.length cp13, .slice A15 v4.1.Tri.length cp16]] [RE.rd k_Ar4_Int A6 cp7 v4.1.Color, RE.rd kInt A9 cp10 v4.1.Depth, RE.rd kInt A12 cp13 v4.1.Item, RE.rd kInt A15 cp16 v4.1.Tri, RE.rd k_Ar4_Int A24 cp25 v22.1.Color, RE.rd kInt A27 cp28 v22.1.Depth, RE.rd kInt A30 cp31 v22.1.Item, RE.rd kInt A33 cp34 v22.1.Tri] := H.call H2
 clear H2
 refine ⟨_, rfl, ?_⟩
 show RL _ _ _ _ _ _ _
 refine RL_pure (by exact wn0 rfl) (by rfl) (by rfl) (x_move (v := tup [.agg #[.int .i64 v22.1.W, .int .i64 v22.1.H, .slice A24 v22.1.Color.length cp25, .slice A27 v22.1.Depth.length cp28, .slice A30 v22.1.Item.length cp31, .slice A33 v22.1.Tri.length cp34], .int .i64 v22.2]) (by rfl)) ?_
 refine RL_pure (by exact wn0 rfl) (by rfl) (by rfl) (x_extract (v := .agg #[.int .i64 v22.1.W, .int .i64 v22.1.H, .slice A24 v22.1.Color.length cp25, .slice A27 v22.1.Depth.length cp28, .slice A30 v22.1.Item.length cp31, .slice A33 v22.1.Tri.length cp34]) (by rfl) (by rfl)) ?_
 refine RL_pure (by exact wn0 rfl) (by rfl) (by rfl) (x_extract (v := .int .i64 v22.2) (by rfl) (by rfl)) ?_
 refine RL_cons (O_store (i := 1) (off := 0) (by exact wn0 rfl) (by rfl) (by rfl) H (by rfl) (vs := [.int .i64 v22.1.W, .int .i64 v22.1.H, .slice A24 v22.1.Color.length cp25, .slice A27 v22.1.Depth.length cp28, .slice A30 v22.1.Item.length cp31, .slice A33 v22.1.Tri.length cp34]) (by rfl) sz25 (by rfl) (by rfl) (by rfl) (fun w36 (H : Sep ok w w36 [.blk b1 25 [.int .i64 0, .int .i64 0, .slice none 0 0, .slice none 0 0, .slice none 0 0, .slice none 0 0], .blk b18 25 [.int .i64 v22.1.W, .int .i64 v22.1.H, .slice A24 v22.1.Color.length cp25, .slice A27 v22.1.Depth.length cp28, .slice A30 v22.1.Item.length cp31, .slice A33 v22.1.Tri.length cp34]] [RE.rd k_Ar4_Int A6 cp7 v4.1.Color, RE.rd kInt A9 cp10 v4.1.Depth, RE.rd kInt A12 cp13 v4.1.Item, RE.rd kInt A15 cp16 v4.1.Tri, RE.rd k_Ar4_Int A24 cp25 v22.1.Color, RE.rd kInt A27 cp28 v22.1.Depth, RE.rd kInt A30 cp31 v22.1.Item, RE.rd kInt A33 cp34 v22.1.Tri]) => ?_))
 refine RL_pure (by exact wn0 rfl) (by rfl) (by rfl) (x_assign (v := .int .i64 v22.2) (by rfl)) ?_
 refine RL_nil ?_
 refine W_seq ?_
 refine W_region ?_
 refine RL_pure (by exact wn0 rfl) (by rfl) (by rfl) (x_loadA (j := 0) (vs := [.int .i64 v22.1.W, .int .i64 v22.1.H, .slice A24 v22.1.Color.length cp25, .slice A27 v22.1.Depth.length cp28, .slice A30 v22.1.Item.length cp31, .slice A33 v22.1.Tri.length cp34]) ag25 (by rfl) (H.cells (i := 1) (by rfl)) (by rfl) (by rfl)) ?_
 refine RL_pure (by exact wn0 rfl) (by rfl) (by rfl) (x_build (vs := [(0, .int .i64 700)]) (cs := [.int .i64 700, .int .i64 0, .int .i64 0, .int .i64 0, .int .i64 0, .int .i64 0]) (by rfl) (by kernel_rfl)) ?_
 refine RL_pure (by exact wn0 rfl) (by rfl) (by rfl) (x_build (vs := []) (cs := [.int .u8 0, .int .u8 0, .int .u8 0, .int .u8 0]) (by rfl) (by kernel_rfl)) ?_
 obtain ⟨v38, hv37, hm⟩ := bind_some hm
 refine RL_cons (O_call (by exact wn0 rfl) (by rfl) (by rfl) (x_callL (by rfl) (args := [.agg #[.int .i64 v22.1.W, .int .i64 v22.1.H, .slice A24 v22.1.Color.length cp25, .slice A27 v22.1.Depth.length cp28, .slice A30 v22.1.Item.length cp31, .slice A33 v22.1.Tri.length cp34], .int .i64 1, .int .i64 0, .agg #[.int .i64 700, .int .i64 0, .int .i64 0, .int .i64 0, .int .i64 0, .int .i64 0], .agg #[.int .u8 0, .int .u8 0, .int .u8 0, .int .u8 0]]) (by rfl) (cf30 _ _)) (c30 (okS ok w [.blk b1 25 [.int .i64 0, .int .i64 0, .slice none 0 0, .slice none 0 0, .slice none 0 0, .slice none 0 0], .blk b18 25 [.int .i64 v22.1.W, .int .i64 v22.1.H, .slice A24 v22.1.Color.length cp25, .slice A27 v22.1.Depth.length cp28, .slice A30 v22.1.Item.length cp31, .slice A33 v22.1.Tri.length cp34]]) K w36 v22.1 A24 cp25 A27 cp28 A30 cp31 A33 cp34 1 0 (⟨700, 0, 0, 0, 0, 0⟩ : S_Frag) (⟨0, 0, 0, 0⟩ : (Ar4 Int)) (H.rd (i := 4) (by rfl)) (H.rd (i := 5) (by rfl)) (H.rd (i := 6) (by rfl)) (H.rd (i := 7) (by rfl)) v38 hv37) ?_)
 rintro e w39 ⟨A40, cp41, A43, cp44, A46, cp47, A49, cp50, rfl, H2⟩
 have H : Sep ok w w39 [.blk b1 25 [.int .i64 0, .int .i64 0, .slice none 0 0, .slice none 0 0, .slice none 0 0, .slice none 0 0], .blk b18 25 [.int .i64 v22.1.W, .int .i64 v22.1.H, .slice A24 v22.1.Color.length cp25, .slice A27 v22.1.Depth.length cp28, .slice A30 v22.1.Item.length cp31, .slice A33 v22.1.Tri.length cp34]] [RE.rd k_Ar4_Int A6 cp7 v4.1.Color, RE.rd kInt A9 cp10 v4.1.Depth, RE.rd kInt A12 cp13 v4.1.Item, RE.rd kInt A15 cp16 v4.1.Tri, RE.rd k_Ar4_Int A24 cp25 v22.1.Color, RE.rd kInt A27 cp28 v22.1.Depth, RE.rd kInt A30 cp31 v22.1.Item, RE.rd kInt A33 cp34 v22.1.Tri, RE.rd k_Ar4_Int A40 cp41 v38.1.Color, RE.rd kInt A43 cp44 v38.1.Depth, RE.rd kInt A46 cp47 v38.1.Item, RE.rd kInt A49 cp50 v38.1.Tri] := H.call H2
 clear H2
 refine ⟨_, rfl, ?_⟩
 show RL _ _ _ _ _ _ _
 refine RL_pure (by exact wn0 rfl) (by rfl) (by rfl) (x_move (v := tup [.agg #[.int .i64 v38.1.W, .int .i64 v38.1.H, .slice A40 v38.1.Color.length cp41, .slice A43 v38.1.Depth.length cp44, .slice A46 v38.1.Item.length cp47, .slice A49 v38.1.Tri.length cp50], .int .i64 v38.2]) (by rfl)) ?_
 refine RL_pure (by exact wn0 rfl) (by rfl) (by rfl) (x_extract (v := .agg #[.int .i64 v38.1.W, .int .i64 v38.1.H, .slice A40 v38.1.Color.length cp41, .slice A43 v38.1.Depth.length cp44, .slice A46 v38.1.Item.length cp47, .slice A49 v38.1.Tri.length cp50]) (by rfl) (by rfl)) ?_
 refine RL_pure (by exact wn0 rfl) (by rfl) (by rfl) (x_extract (v := .int .i64 v38.2) (by rfl) (by rfl)) ?_
 refine RL_cons (O_store (i := 1) (off := 0) (by exact wn0 rfl) (by rfl) (by rfl) H (by rfl) (vs := [.int .i64 v38.1.W, .int .i64 v38.1.H, .slice A40 v38.1.Color.length cp41, .slice A43 v38.1.Depth.length cp44, .slice A46 v38.1.Item.length cp47, .slice A49 v38.1.Tri.length cp50]) (by rfl) sz25 (by rfl) (by rfl) (by rfl) (fun w52 (H : Sep ok w w52 [.blk b1 25 [.int .i64 0, .int .i64 0, .slice none 0 0, .slice none 0 0, .slice none 0 0, .slice none 0 0], .blk b18 25 [.int .i64 v38.1.W, .int .i64 v38.1.H, .slice A40 v38.1.Color.length cp41, .slice A43 v38.1.Depth.length cp44, .slice A46 v38.1.Item.length cp47, .slice A49 v38.1.Tri.length cp50]] [RE.rd k_Ar4_Int A6 cp7 v4.1.Color, RE.rd kInt A9 cp10 v4.1.Depth, RE.rd kInt A12 cp13 v4.1.Item, RE.rd kInt A15 cp16 v4.1.Tri, RE.rd k_Ar4_Int A24 cp25 v22.1.Color, RE.rd kInt A27 cp28 v22.1.Depth, RE.rd kInt A30 cp31 v22.1.Item, RE.rd kInt A33 cp34 v22.1.Tri, RE.rd k_Ar4_Int A40 cp41 v38.1.Color, RE.rd kInt A43 cp44 v38.1.Depth, RE.rd kInt A46 cp47 v38.1.Item, RE.rd kInt A49 cp50 v38.1.Tri]) => ?_))
 refine RL_pure (by exact wn0 rfl) (by rfl) (by rfl) (x_assign (v := .int .i64 v38.2) (by rfl)) ?_
 refine RL_nil ?_
 refine W_seq ?_
 refine W_region ?_
 refine RL_pure (by exact wn0 rfl) (by rfl) (by rfl) (x_loadA (j := 0) (vs := [.int .i64 v38.1.W, .int .i64 v38.1.H, .slice A40 v38.1.Color.length cp41, .slice A43 v38.1.Depth.length cp44, .slice A46 v38.1.Item.length cp47, .slice A49 v38.1.Tri.length cp50]) ag25 (by rfl) (H.cells (i := 1) (by rfl)) (by rfl) (by rfl)) ?_
 refine RL_pure (by exact wn0 rfl) (by rfl) (by rfl) (x_move (v := .int .i64 v4.2) (by rfl)) ?_
 refine RL_pure (by exact wn0 rfl) (by rfl) (by rfl) (x_eql (by rfl) (by rfl)) ?_
 refine RL_pure (by exact wn0 rfl) (by rfl) (by rfl) (x_move (v := .bool (v4.2 == 0)) (by rfl)) ?_
 obtain ⟨b53, hmS, hm⟩ := bind_some hm
 refine RL_cut 3 (fun r' w' => Agr [(31, .bool b53), (0, .pointer (some ⟨b1, 0, none⟩)), (5, .int .i64 v38.2), (25, .agg #[.int .i64 v38.1.W, .int .i64 v38.1.H, .slice A40 v38.1.Color.length cp41, .slice A43 v38.1.Depth.length cp44, .slice A46 v38.1.Item.length cp47, .slice A49 v38.1.Tri.length cp50])] r' ∧ Sep ok w w' [.blk b1 25 [.int .i64 0, .int .i64 0, .slice none 0 0, .slice none 0 0, .slice none 0 0, .slice none 0 0], .blk b18 25 [.int .i64 v38.1.W, .int .i64 v38.1.H, .slice A40 v38.1.Color.length cp41, .slice A43 v38.1.Depth.length cp44, .slice A46 v38.1.Item.length cp47, .slice A49 v38.1.Tri.length cp50]] [RE.rd k_Ar4_Int A6 cp7 v4.1.Color, RE.rd kInt A9 cp10 v4.1.Depth, RE.rd kInt A12 cp13 v4.1.Item, RE.rd kInt A15 cp16 v4.1.Tri, RE.rd k_Ar4_Int A24 cp25 v22.1.Color, RE.rd kInt A27 cp28 v22.1.Depth, RE.rd kInt A30 cp31 v22.1.Item, RE.rd kInt A33 cp34 v22.1.Tri, RE.rd k_Ar4_Int A40 cp41 v38.1.Color, RE.rd kInt A43 cp44 v38.1.Depth, RE.rd kInt A46 cp47 v38.1.Item, RE.rd kInt A49 cp50 v38.1.Tri]) ?_ ?_
 ·cases hbS : (v4.2 == 0)
  ·have hm := cond_f hbS hmS
   refine RL_cons (OpR_off (by exact wn2 rfl rfl rfl rfl) (by rfl) (by rfl) ?_)
   refine RL_cons (OpR_off (by exact wn2 rfl rfl rfl rfl) (by rfl) (by rfl) ?_)
   refine RL_pure (by exact wn0 rfl) (by rfl) (by rfl) (x_pick_f (v := .bool false) (by rfl) (by rfl)) ?_
   refine RL_nil ?_
   exact ⟨⟨congrArg Value.bool (Option.some.inj hm), rfl, rfl, rfl, trivial⟩, H⟩
  ·have hm := cond_t hbS hmS
   refine RL_pure (by exact wn1 rfl rfl rfl rfl) (by rfl) (by rfl) (x_move (v := .int .i64 v22.2) (by rfl)) ?_
   refine RL_pure (by exact wn1 rfl rfl rfl rfl) (by rfl) (by rfl) (x_eql (by rfl) (by rfl)) ?_
   refine RL_pure (by exact wn0 rfl) (by rfl) (by rfl) (x_pick_t (v := .bool (v22.2 == 0)) (by rfl) (by rfl)) ?_
   refine RL_nil ?_
   exact ⟨⟨congrArg Value.bool (Option.some.inj hm), rfl, rfl, rfl, trivial⟩, H⟩
 ·rintro r' w' ⟨hA, H⟩
  obtain ⟨r54, rfl⟩ := regen _ hA; clear hA
  obtain ⟨w55, rfl⟩ : ∃ W : World, W = w' := ⟨_, rfl⟩
  show RL _ _ _ _ _ _ _
  refine RL_pure (by exact wn0 rfl) (by rfl) (by rfl) (x_move (v := .bool b53) (by rfl)) ?_
  obtain ⟨b56, hmS, hm⟩ := bind_some hm
  refine RL_cut 3 (fun r' w' => Agr [(35, .bool b56), (0, .pointer (some ⟨b1, 0, none⟩)), (25, .agg #[.int .i64 v38.1.W, .int .i64 v38.1.H, .slice A40 v38.1.Color.length cp41, .slice A43 v38.1.Depth.length cp44, .slice A46 v38.1.Item.length cp47, .slice A49 v38.1.Tri.length cp50])] r' ∧ Sep ok w w' [.blk b1 25 [.int .i64 0, .int .i64 0, .slice none 0 0, .slice none 0 0, .slice none 0 0, .slice none 0 0], .blk b18 25 [.int .i64 v38.1.W, .int .i64 v38.1.H, .slice A40 v38.1.Color.length cp41, .slice A43 v38.1.Depth.length cp44, .slice A46 v38.1.Item.length cp47, .slice A49 v38.1.Tri.length cp50]] [RE.rd k_Ar4_Int A6 cp7 v4.1.Color, RE.rd kInt A9 cp10 v4.1.Depth, RE.rd kInt A12 cp13 v4.1.Item, RE.rd kInt A15 cp16 v4.1.Tri, RE.rd k_Ar4_Int A24 cp25 v22.1.Color, RE.rd kInt A27 cp28 v22.1.Depth, RE.rd kInt A30 cp31 v22.1.Item, RE.rd kInt A33 cp34 v22.1.Tri, RE.rd k_Ar4_Int A40 cp41 v38.1.Color, RE.rd kInt A43 cp44 v38.1.Depth, RE.rd kInt A46 cp47 v38.1.Item, RE.rd kInt A49 cp50 v38.1.Tri]) ?_ ?_
  ·cases hbS : b53
   ·have hm := cond_f hbS hmS
    refine RL_cons (OpR_off (by exact wn2 rfl rfl rfl rfl) (by rfl) (by rfl) ?_)
    refine RL_cons (OpR_off (by exact wn2 rfl rfl rfl rfl) (by rfl) (by rfl) ?_)
    refine RL_pure (by exact wn0 rfl) (by rfl) (by rfl) (x_pick_f (v := .bool false) (by rfl) (by rfl)) ?_
    refine RL_nil ?_
    exact ⟨⟨congrArg Value.bool (Option.some.inj hm), rfl, rfl, trivial⟩, H⟩
   ·have hm := cond_t hbS hmS
    refine RL_pure (by exact wn1 rfl rfl rfl rfl) (by rfl) (by rfl) (x_move (v := .int .i64 v38.2) (by rfl)) ?_
    refine RL_pure (by exact wn1 rfl rfl rfl rfl) (by rfl) (by rfl) (x_eql (by rfl) (by rfl)) ?_
    refine RL_pure (by exact wn0 rfl) (by rfl) (by rfl) (x_pick_t (v := .bool (v38.2 == 0)) (by rfl) (by rfl)) ?_
    refine RL_nil ?_
    exact ⟨⟨congrArg Value.bool (Option.some.inj hm), rfl, rfl, trivial⟩, H⟩
  ·rintro r' w' ⟨hA, H⟩
   obtain ⟨r57, rfl⟩ := regen _ hA; clear hA
   obtain ⟨w58, rfl⟩ : ∃ W : World, W = w' := ⟨_, rfl⟩
   show RL _ _ _ _ _ _ _
   refine RL_cons (O_store (i := 0) (off := 0) (by exact wn0 rfl) (by rfl) (by rfl) H (by rfl) (vs := [.int .i64 v38.1.W, .int .i64 v38.1.H, .slice A40 v38.1.Color.length cp41, .slice A43 v38.1.Depth.length cp44, .slice A46 v38.1.Item.length cp47, .slice A49 v38.1.Tri.length cp50]) (by rfl) sz25 (by rfl) (by rfl) (by rfl) (fun w59 (H : Sep ok w w59 [.blk b1 25 [.int .i64 v38.1.W, .int .i64 v38.1.H, .slice A40 v38.1.Color.length cp41, .slice A43 v38.1.Depth.length cp44, .slice A46 v38.1.Item.length cp47, .slice A49 v38.1.Tri.length cp50], .blk b18 25 [.int .i64 v38.1.W, .int .i64 v38.1.H, .slice A40 v38.1.Color.length cp41, .slice A43 v38.1.Depth.length cp44, .slice A46 v38.1.Item.length cp47, .slice A49 v38.1.Tri.length cp50]] [RE.rd k_Ar4_Int A6 cp7 v4.1.Color, RE.rd kInt A9 cp10 v4.1.Depth, RE.rd kInt A12 cp13 v4.1.Item, RE.rd kInt A15 cp16 v4.1.Tri, RE.rd k_Ar4_Int A24 cp25 v22.1.Color, RE.rd kInt A27 cp28 v22.1.Depth, RE.rd kInt A30 cp31 v22.1.Item, RE.rd kInt A33 cp34 v22.1.Tri, RE.rd k_Ar4_Int A40 cp41 v38.1.Color, RE.rd kInt A43 cp44 v38.1.Depth, RE.rd kInt A46 cp47 v38.1.Item, RE.rd kInt A49 cp50 v38.1.Tri]) => ?_))
   refine RL_pure (by exact wn0 rfl) (by rfl) (by rfl) (x_assign (v := .bool b56) (by rfl)) ?_
   refine RL_nil ?_
   refine W_ret ?_
   obtain rfl := Option.some.inj hm
   exact ⟨[.agg #[.int .i64 v38.1.W, .int .i64 v38.1.H, .slice A40 v38.1.Color.length cp41, .slice A43 v38.1.Depth.length cp44, .slice A46 v38.1.Item.length cp47, .slice A49 v38.1.Tri.length cp50], .bool b56], (.cellA (by rfl) ag25 (H.cells (i := 0) (by rfl)) (by rfl) (.tmp (by rfl) rfl)), A40, cp41, A43, cp44, A46, cp47, A49, cp50, rfl, (H.forgetAll).pick [8, 9, 10, 11]⟩
end Go.Proofs.YtobkigllalbkiaaV.M

/- A plain Lean function that answers as the Go function does (none: not told), and the proof that a call answers so. Written by program. -/
set_option linter.unusedVariables false
namespace Go.Proofs.YtobkigllalbkiaaV.M
open Go.RowKit Go.Proofs.YtobkigllalbkiaaV
/-- diorama/dioramalaw27.row -/
def m36 (K : Nat) (a0 : Int) : Option (S_Rect) :=
 some (⟨0, 0, a0, 0⟩ : S_Rect)
set_option maxRecDepth 100000 in
set_option maxHeartbeats 4000000 in
theorem c36 (ok : Nat → Prop) (K : Nat) (w : World) (a0 : Int)  (res : S_Rect) (hm : m36 K a0 = some res) :
  Calls Try.prog 36 #[.int .i64 a0] w (fun e w' => e = .returned (tup [.agg #[.int .i64 res.X0, .int .i64 res.Y0, .int .i64 res.X1, .int .i64 res.Y1]]) ∧ Sep ok w w' [] []) := by
 refine calls_W (args := [.int .i64 a0]) Try.func36 rfl Try.ntmps36 Try.results36 rfl fun r hr => ?_
 obtain ⟨r1, rfl⟩ := regen (r := r) [(0, .int .i64 a0)] ⟨hr 0 _ rfl, trivial⟩
 have H : Sep ok w w [] [] := Sep.start ok w
 unfold m36 at hm
 refine W_seq ?_
 refine W_region ?_
 refine RL_cons (O_alloc (by exact wn0 rfl) (by rfl) ze30 (by rfl) H (fun w2 b1 (H : Sep ok w w2 [.blk b1 30 [.int .i64 0, .int .i64 0, .int .i64 0, .int .i64 0]] []) => ?_))
 refine RL_nil ?_
 refine W_seq ?_
 refine W_region ?_
 refine RL_pure (by exact wn0 rfl) (by rfl) (by rfl) (x_move (v := .int .i64 a0) (by rfl)) ?_
 refine RL_pure (by exact wn0 rfl) (by rfl) (by rfl) (x_build (vs := [(2, .int .i64 a0)]) (cs := [.int .i64 0, .int .i64 0, .int .i64 a0, .int .i64 0]) (by rfl) (by kernel_rfl)) ?_
 refine RL_cons (O_store (i := 0) (off := 0) (by exact wn0 rfl) (by rfl) (by rfl) H (by rfl) (vs := [.int .i64 0, .int .i64 0, .int .i64 a0, .int .i64 0]) (by rfl) sz30 (by rfl) (by rfl) (by rfl) (fun w3 (H : Sep ok w w3 [.blk b1 30 [.int .i64 0, .int .i64 0, .int .i64 a0, .int .i64 0]] []) => ?_))
 refine RL_nil ?_
 refine W_ret ?_
 obtain rfl := Option.some.inj hm
 exact ⟨[.agg #[.int .i64 0, .int .i64 0, .int .i64 a0, .int .i64 0]], (.cellA (by rfl) ag30 (H.cells (i := 0) (by rfl)) (by rfl) rfl), rfl, H.none_⟩
end Go.Proofs.YtobkigllalbkiaaV.M

/- A plain Lean function that answers as the Go function does (none: not told), and the proof that a call answers so. Written by program. -/
set_option linter.unusedVariables false
namespace Go.Proofs.YtobkigllalbkiaaV.M
open Go.RowKit Go.Proofs.YtobkigllalbkiaaV
/-- diorama/dioramalaw27.alive -/
def m34 (K : Nat)  : Option (Bool) :=
 ((m35 K ).bind fun v2 => ((m15 K v2.1).bind fun v20 => ((m36 K 1).bind fun v30 => ((m17 K v20.1 v30).bind fun v33 => ((m36 K 2).bind fun v37 => ((m17 K v20.1 v37).bind fun v40 => ((bif v2.2 then some (v20.2 == 0) else some false).bind fun b42 => ((bif b42 then some ((v20.1.Levels.length : Int) == 3) else some false).bind fun b45 => ((bif b45 then some (v33.2 == 0) else some false).bind fun b48 => ((bif b48 then some (v33.1 == 600) else some false).bind fun b51 => ((bif b51 then some (v40.2 == 0) else some false).bind fun b54 => ((bif b54 then some (v40.1 == (-2048)) else some false).bind fun b57 => some b57))))))))))))
set_option maxRecDepth 100000 in
set_option maxHeartbeats 4000000 in
theorem c34 (ok : Nat → Prop) (K : Nat) (w : World)  (res : Bool) (hm : m34 K  = some res) :
  Calls Try.prog 34 #[] w (fun e w' => e = .returned (tup [.bool res]) ∧ Sep ok w w' [] []) := by
 refine calls_W (args := []) Try.func34 rfl Try.ntmps34 Try.results34 rfl fun r hr => ?_
 obtain ⟨r1, rfl⟩ : ∃ R, R = r := ⟨_, rfl⟩
 have H : Sep ok w w [] [] := Sep.start ok w
 unfold m34 at hm
 refine W_seq ?_
 refine W_region ?_
 refine RL_pure (by exact wn0 rfl) (by rfl) (by rfl) (x_assign (v := .bool false) (by rfl)) ?_
 refine RL_nil ?_
 refine W_seq ?_
 refine W_region ?_
 obtain ⟨v2, hv1, hm⟩ := bind_some hm
 refine RL_cons (O_call (by exact wn0 rfl) (by rfl) (by rfl) (x_callL (by rfl) (args := []) (by rfl) (cf35 _ _)) (c35 (okS ok w []) K w   v2 hv1) ?_)
 rintro e w3 ⟨A4, cp5, A7, cp8, A10, cp11, A13, cp14, rfl, H2⟩
 have H : Sep ok w w3 [] [RE.rd k_Ar4_Int A4 cp5 v2.1.Color, RE.rd kInt A7 cp8 v2.1.Depth, RE.rd kInt A10 cp11 v2.1.Item, RE.rd kInt A13 cp14 v2.1.Tri] := H.call H2
 clear H2
 refine ⟨_, rfl, ?_⟩
 show RL _ _ _ _ _ _ _
 refine RL_pure (by exact wn0 rfl) (by rfl) (by rfl) (x_move (v := tup [.agg #[.int .i64 v2.1.W, .int .i64 v2.1.H, .slice A4 v2.1.Color.length cp5, .slice A7 v2.1.Depth.length cp8, .slice A10 v2.1.Item.length cp11, .slice A13 v2.1.Tri.length cp14], .bool v2.2]) (by rfl)) ?_
 refine RL_pure (by exact wn0 rfl) (by rfl) (by rfl) (x_extract (v := .agg #[.int .i64 v2.1.W, .int .i64 v2.1.H, .slice A4 v2.1.Color.length cp5, .slice A7 v2.1.Depth.length cp8, .slice A10 v2.1.Item.length cp11, .slice A13 v2.1.Tri.length cp14]) (by rfl) (by rfl)) ?_
 refine RL_pure (by exact wn0 rfl) (by rfl) (by rfl) (x_extract (v := .bool v2.2) (by rfl) (by rfl)) ?_
 refine RL_cons (O_alloc (by exact wn0 rfl) (by rfl) ze25 (by rfl) H (fun w17 b16 (H : Sep ok w w17 [.blk b16 25 [.int .i64 0, .int .i64 0, .slice none 0 0, .slice none 0 0, .slice none 0 0, .slice none 0 0]] [RE.rd k_Ar4_Int A4 cp5 v2.1.Color, RE.rd kInt A7 cp8 v2.1.Depth, RE.rd kInt A10 cp11 v2.1.Item, RE.rd kInt A13 cp14 v2.1.Tri]) => ?_))
 refine RL_cons (O_store (i := 0) (off := 0) (by exact wn0 rfl) (by rfl) (by rfl) H (by rfl) (vs := [.int .i64 v2.1.W, .int .i64 v2.1.H, .slice A4 v2.1.Color.length cp5, .slice A7 v2.1.Depth.length cp8, .slice A10 v2.1.Item.length cp11, .slice A13 v2.1.Tri.length cp14]) (by rfl) sz25 (by rfl) (by rfl) (by rfl) (fun w18 (H : Sep ok w w18 [.blk b16 25 [.int .i64 v2.1.W, .int .i64 v2.1.H, .slice A4 v2.1.Color.length cp5, .slice A7 v2.1.Depth.length cp8, .slice A10 v2.1.Item.length cp11, .slice A13 v2.1.Tri.length cp14]] [RE.rd k_Ar4_Int A4 cp5 v2.1.Color, RE.rd kInt A7 cp8 v2.1.Depth, RE.rd kInt A10 cp11 v2.1.Item, RE.rd kInt A13 cp14 v2.1.Tri]) => ?_))
 refine RL_pure (by exact wn0 rfl) (by rfl) (by rfl) (x_assign (v := .bool v2.2) (by rfl)) ?_
 refine RL_nil ?_
 refine W_seq ?_
 refine W_region ?_
 refine RL_pure (by exact wn0 rfl) (by rfl) (by rfl) (x_loadA (j := 0) (vs := [.int .i64 v2.1.W, .int .i64 v2.1.H, .slice A4 v2.1.Color.length cp5, .slice A7 v2.1.Depth.length cp8, .slice A10 v2.1.Item.length cp11, .slice A13 v2.1.Tri.length cp14]) ag25 (by rfl) (H.cells (i := 0) (by rfl)) (by rfl) (by rfl)) ?_
 obtain ⟨v20, hv19, hm⟩ := bind_some hm
 refine RL_cons (O_call (by exact wn0 rfl) (by rfl) (by rfl) (x_callL (by rfl) (args := [.agg #[.int .i64 v2.1.W, .int .i64 v2.1.H, .slice A4 v2.1.Color.length cp5, .slice A7 v2.1.Depth.length cp8, .slice A10 v2.1.Item.length cp11, .slice A13 v2.1.Tri.length cp14]]) (by rfl) (cf15 _ _)) (c15 (okS ok w [.blk b16 25 [.int .i64 v2.1.W, .int .i64 v2.1.H, .slice A4 v2.1.Color.length cp5, .slice A7 v2.1.Depth.length cp8, .slice A10 v2.1.Item.length cp11, .slice A13 v2.1.Tri.length cp14]]) K w18 v2.1 A4 cp5 A7 cp8 A10 cp11 A13 cp14 (H.rd (i := 0) (by rfl)) (H.rd (i := 1) (by rfl)) (H.rd (i := 2) (by rfl)) (H.rd (i := 3) (by rfl)) v20 hv19) ?_)
 rintro e w21 ⟨A22, cp23, rfl, H2⟩
 have H : Sep ok w w21 [.blk b16 25 [.int .i64 v2.1.W, .int .i64 v2.1.H, .slice A4 v2.1.Color.length cp5, .slice A7 v2.1.Depth.length cp8, .slice A10 v2.1.Item.length cp11, .slice A13 v2.1.Tri.length cp14]] [RE.rd k_Ar4_Int A4 cp5 v2.1.Color, RE.rd kInt A7 cp8 v2.1.Depth, RE.rd kInt A10 cp11 v2.1.Item, RE.rd kInt A13 cp14 v2.1.Tri, RE.rd k_Level A22 cp23 v20.1.Levels] := H.call H2
 clear H2
 refine ⟨_, rfl, ?_⟩
 show RL _ _ _ _ _ _ _
 refine RL_pure (by exact wn0 rfl) (by rfl) (by rfl) (x_move (v := tup [.agg #[.slice A22 v20.1.Levels.length cp23], .int .i64 v20.2]) (by rfl)) ?_
 refine RL_pure (by exact wn0 rfl) (by rfl) (by rfl) (x_extract (v := .agg #[.slice A22 v20.1.Levels.length cp23]) (by rfl) (by rfl)) ?_
 refine RL_pure (by exact wn0 rfl) (by rfl) (by rfl) (x_extract (v := .int .i64 v20.2) (by rfl) (by rfl)) ?_
 refine RL_cons (O_alloc (by exact wn0 rfl) (by rfl) ze28 (by rfl) H (fun w26 b25 (H : Sep ok w w26 [.blk b16 25 [.int .i64 v2.1.W, .int .i64 v2.1.H, .slice A4 v2.1.Color.length cp5, .slice A7 v2.1.Depth.length cp8, .slice A10 v2.1.Item.length cp11, .slice A13 v2.1.Tri.length cp14], .blk b25 28 [.slice none 0 0]] [RE.rd k_Ar4_Int A4 cp5 v2.1.Color, RE.rd kInt A7 cp8 v2.1.Depth, RE.rd kInt A10 cp11 v2.1.Item, RE.rd kInt A13 cp14 v2.1.Tri, RE.rd k_Level A22 cp23 v20.1.Levels]) => ?_))
 refine RL_cons (O_store (i := 1) (off := 0) (by exact wn0 rfl) (by rfl) (by rfl) H (by rfl) (vs := [.slice A22 v20.1.Levels.length cp23]) (by rfl) sz28 (by rfl) (by rfl) (by rfl) (fun w27 (H : Sep ok w w27 [.blk b16 25 [.int .i64 v2.1.W, .int .i64 v2.1.H, .slice A4 v2.1.Color.length cp5, .slice A7 v2.1.Depth.length cp8, .slice A10 v2.1.Item.length cp11, .slice A13 v2.1.Tri.length cp14], .blk b25 28 [.slice A22 v20.1.Levels.length cp23]] [RE.rd k_Ar4_Int A4 cp5 v2.1.Color, RE.rd kInt A7 cp8 v2.1.Depth, RE.rd kInt A10 cp11 v2.1.Item, RE.rd kInt A13 cp14 v2.1.Tri, RE.rd k_Level A22 cp23 v20.1.Levels]) => ?_))
 refine RL_pure (by exact wn0 rfl) (by rfl) (by rfl) (x_assign (v := .int .i64 v20.2) (by rfl)) ?_
 refine RL_nil ?_
 refine W_seq ?_
 refine W_draw [.take 0, .run 1, .tail 2, .free 3, .free 4, .free 5, .free 6, .free 7] (fun wS => Sep ok w wS [.blk b16 25 [.int .i64 v2.1.W, .int .i64 v2.1.H, .slice A4 v2.1.Color.length cp5, .slice A7 v2.1.Depth.length cp8, .slice A10 v2.1.Item.length cp11, .slice A13 v2.1.Tri.length cp14], .blk b25 28 [.slice A22 v20.1.Levels.length cp23]] [RE.rd k_Ar4_Int A4 cp5 v2.1.Color, RE.rd kInt A7 cp8 v2.1.Depth, RE.rd kInt A10 cp11 v2.1.Item, RE.rd kInt A13 cp14 v2.1.Tri, RE.rd k_Level A22 cp23 v20.1.Levels]) [2] [3, 4, 5, 6, 7] mixed0 (by kernel_rfl) (by kernel_rfl) (by kernel_rfl) (by rfl) (by exact H.drew) ?_
 obtain ⟨w28, hW⟩ : ∃ W : World, W = { w27 with drawn := w27.drawn + 1 } := ⟨_, rfl⟩
 rw [← hW]
 have H : Sep ok w w28 [.blk b16 25 [.int .i64 v2.1.W, .int .i64 v2.1.H, .slice A4 v2.1.Color.length cp5, .slice A7 v2.1.Depth.length cp8, .slice A10 v2.1.Item.length cp11, .slice A13 v2.1.Tri.length cp14], .blk b25 28 [.slice A22 v20.1.Levels.length cp23]] [RE.rd k_Ar4_Int A4 cp5 v2.1.Color, RE.rd kInt A7 cp8 v2.1.Depth, RE.rd kInt A10 cp11 v2.1.Item, RE.rd kInt A13 cp14 v2.1.Tri, RE.rd k_Level A22 cp23 v20.1.Levels] := by rw [hW]; exact H.drew
 clear hW
 refine PR_take (by rfl) (by rfl) (by rfl) (by exact wn0 rfl) (fun wS (H : Sep ok w wS [.blk b16 25 [.int .i64 v2.1.W, .int .i64 v2.1.H, .slice A4 v2.1.Color.length cp5, .slice A7 v2.1.Depth.length cp8, .slice A10 v2.1.Item.length cp11, .slice A13 v2.1.Tri.length cp14], .blk b25 28 [.slice A22 v20.1.Levels.length cp23]] [RE.rd k_Ar4_Int A4 cp5 v2.1.Color, RE.rd kInt A7 cp8 v2.1.Depth, RE.rd kInt A10 cp11 v2.1.Item, RE.rd kInt A13 cp14 v2.1.Tri, RE.rd k_Level A22 cp23 v20.1.Levels]) => (x_loadA (j := 0) (vs := [.slice A22 v20.1.Levels.length cp23]) ag28 (by rfl) (H.cells (i := 1) (by rfl)) (by rfl) (by rfl))) ?_
 obtain ⟨v30, hv29, hm⟩ := bind_some hm
 refine PR_run (by rfl) (O_call (by exact wn0 rfl) (by rfl) (by rfl) (x_callL (by rfl) (args := [.int .i64 1]) (by rfl) (cf36 _ _)) (c36 (fun _ => True) K w28 1  v30 hv29) ?_)
 rintro e w31 ⟨rfl, H2⟩
 have H : Sep ok w w31 [.blk b16 25 [.int .i64 v2.1.W, .int .i64 v2.1.H, .slice A4 v2.1.Color.length cp5, .slice A7 v2.1.Depth.length cp8, .slice A10 v2.1.Item.length cp11, .slice A13 v2.1.Tri.length cp14], .blk b25 28 [.slice A22 v20.1.Levels.length cp23]] [RE.rd k_Ar4_Int A4 cp5 v2.1.Color, RE.rd kInt A7 cp8 v2.1.Depth, RE.rd kInt A10 cp11 v2.1.Item, RE.rd kInt A13 cp14 v2.1.Tri, RE.rd k_Level A22 cp23 v20.1.Levels] := H.below H2.base
 clear H2
 refine ⟨_, rfl, H, ?_⟩
 show PR _ _ _ _ _ _ _ _
 obtain ⟨v33, hv32, hm⟩ := bind_some hm
 refine PR_tail (by rfl) (O_call (by exact wn0 rfl) (by rfl) (by rfl) (x_callL (by rfl) (args := [.agg #[.slice A22 v20.1.Levels.length cp23], .agg #[.int .i64 v30.X0, .int .i64 v30.Y0, .int .i64 v30.X1, .int .i64 v30.Y1]]) (by rfl) (cf17 _ _)) (c17 (fun _ => True) K w31 v20.1 A22 cp23 v30 (H.rd (i := 4) (by rfl)).any v33 hv32) ?_)
 rintro e w34 ⟨rfl, H2⟩
 have H : Sep ok w w34 [.blk b16 25 [.int .i64 v2.1.W, .int .i64 v2.1.H, .slice A4 v2.1.Color.length cp5, .slice A7 v2.1.Depth.length cp8, .slice A10 v2.1.Item.length cp11, .slice A13 v2.1.Tri.length cp14], .blk b25 28 [.slice A22 v20.1.Levels.length cp23]] [RE.rd k_Ar4_Int A4 cp5 v2.1.Color, RE.rd kInt A7 cp8 v2.1.Depth, RE.rd kInt A10 cp11 v2.1.Item, RE.rd kInt A13 cp14 v2.1.Tri, RE.rd k_Level A22 cp23 v20.1.Levels] := H.below H2.base
 clear H2
 refine ⟨_, rfl, ?_⟩
 show PR _ _ _ _ _ _ _ _
 refine PR_free (by rfl) (by rfl) (by rfl) (by exact wn0 rfl) (fun wS => (x_move (v := tup [.int .i64 v33.1, .int .i64 v33.2]) (by rfl))) ?_
 refine PR_free (by rfl) (by rfl) (by rfl) (by exact wn0 rfl) (fun wS => (x_extract (v := .int .i64 v33.1) (by rfl) (by rfl))) ?_
 refine PR_free (by rfl) (by rfl) (by rfl) (by exact wn0 rfl) (fun wS => (x_extract (v := .int .i64 v33.2) (by rfl) (by rfl))) ?_
 refine PR_free (by rfl) (by rfl) (by rfl) (by exact wn0 rfl) (fun wS => (x_assign (v := .int .i64 v33.1) (by rfl))) ?_
 refine PR_free (by rfl) (by rfl) (by rfl) (by exact wn0 rfl) (fun wS => (x_assign (v := .int .i64 v33.2) (by rfl))) ?_
 refine PR_nil ?_
 refine W_seq ?_
 refine W_draw [.take 0, .run 1, .tail 2, .free 3, .free 4, .free 5, .free 6, .free 7] (fun wS => Sep ok w wS [.blk b16 25 [.int .i64 v2.1.W, .int .i64 v2.1.H, .slice A4 v2.1.Color.length cp5, .slice A7 v2.1.Depth.length cp8, .slice A10 v2.1.Item.length cp11, .slice A13 v2.1.Tri.length cp14], .blk b25 28 [.slice A22 v20.1.Levels.length cp23]] [RE.rd k_Ar4_Int A4 cp5 v2.1.Color, RE.rd kInt A7 cp8 v2.1.Depth, RE.rd kInt A10 cp11 v2.1.Item, RE.rd kInt A13 cp14 v2.1.Tri, RE.rd k_Level A22 cp23 v20.1.Levels]) [2] [3, 4, 5, 6, 7] mixed0 (by kernel_rfl) (by kernel_rfl) (by kernel_rfl) (by rfl) (by exact H.drew) ?_
 obtain ⟨w35, hW⟩ : ∃ W : World, W = { w34 with drawn := w34.drawn + 1 } := ⟨_, rfl⟩
 rw [← hW]
 have H : Sep ok w w35 [.blk b16 25 [.int .i64 v2.1.W, .int .i64 v2.1.H, .slice A4 v2.1.Color.length cp5, .slice A7 v2.1.Depth.length cp8, .slice A10 v2.1.Item.length cp11, .slice A13 v2.1.Tri.length cp14], .blk b25 28 [.slice A22 v20.1.Levels.length cp23]] [RE.rd k_Ar4_Int A4 cp5 v2.1.Color, RE.rd kInt A7 cp8 v2.1.Depth, RE.rd kInt A10 cp11 v2.1.Item, RE.rd kInt A13 cp14 v2.1.Tri, RE.rd k_Level A22 cp23 v20.1.Levels] := by rw [hW]; exact H.drew
 clear hW
 refine PR_take (by rfl) (by rfl) (by rfl) (by exact wn0 rfl) (fun wS (H : Sep ok w wS [.blk b16 25 [.int .i64 v2.1.W, .int .i64 v2.1.H, .slice A4 v2.1.Color.length cp5, .slice A7 v2.1.Depth.length cp8, .slice A10 v2.1.Item.length cp11, .slice A13 v2.1.Tri.length cp14], .blk b25 28 [.slice A22 v20.1.Levels.length cp23]] [RE.rd k_Ar4_Int A4 cp5 v2.1.Color, RE.rd kInt A7 cp8 v2.1.Depth, RE.rd kInt A10 cp11 v2.1.Item, RE.rd kInt A13 cp14 v2.1.Tri, RE.rd k_Level A22 cp23 v20.1.Levels]) => (x_loadA (j := 0) (vs := [.slice A22 v20.1.Levels.length cp23]) ag28 (by rfl) (H.cells (i := 1) (by rfl)) (by rfl) (by rfl))) ?_
 obtain ⟨v37, hv36, hm⟩ := bind_some hm
 refine PR_run (by rfl) (O_call (by exact wn0 rfl) (by rfl) (by rfl) (x_callL (by rfl) (args := [.int .i64 2]) (by rfl) (cf36 _ _)) (c36 (fun _ => True) K w35 2  v37 hv36) ?_)
 rintro e w38 ⟨rfl, H2⟩
 have H : Sep ok w w38 [.blk b16 25 [.int .i64 v2.1.W, .int .i64 v2.1.H, .slice A4 v2.1.Color.length cp5, .slice A7 v2.1.Depth.length cp8, .slice A10 v2.1.Item.length cp11, .slice A13 v2.1.Tri.length cp14], .blk b25 28 [.slice A22 v20.1.Levels.length cp23]] [RE.rd k_Ar4_Int A4 cp5 v2.1.Color, RE.rd kInt A7 cp8 v2.1.Depth, RE.rd kInt A10 cp11 v2.1.Item, RE.rd kInt A13 cp14 v2.1.Tri, RE.rd k_Level A22 cp23 v20.1.Levels] := H.below H2.base
 clear H2
 refine ⟨_, rfl, H, ?_⟩
 show PR _ _ _ _ _ _ _ _
 obtain ⟨v40, hv39, hm⟩ := bind_some hm
 refine PR_tail (by rfl) (O_call (by exact wn0 rfl) (by rfl) (by rfl) (x_callL (by rfl) (args := [.agg #[.slice A22 v20.1.Levels.length cp23], .agg #[.int .i64 v37.X0, .int .i64 v37.Y0, .int .i64 v37.X1, .int .i64 v37.Y1]]) (by rfl) (cf17 _ _)) (c17 (fun _ => True) K w38 v20.1 A22 cp23 v37 (H.rd (i := 4) (by rfl)).any v40 hv39) ?_)
 rintro e w41 ⟨rfl, H2⟩
 have H : Sep ok w w41 [.blk b16 25 [.int .i64 v2.1.W, .int .i64 v2.1.H, .slice A4 v2.1.Color.length cp5, .slice A7 v2.1.Depth.length cp8, .slice A10 v2.1.Item.length cp11, .slice A13 v2.1.Tri.length cp14], .blk b25 28 [.slice A22 v20.1.Levels.length cp23]] [RE.rd k_Ar4_Int A4 cp5 v2.1.Color, RE.rd kInt A7 cp8 v2.1.Depth, RE.rd kInt A10 cp11 v2.1.Item, RE.rd kInt A13 cp14 v2.1.Tri, RE.rd k_Level A22 cp23 v20.1.Levels] := H.below H2.base
 clear H2
 refine ⟨_, rfl, ?_⟩
 show PR _ _ _ _ _ _ _ _
 refine PR_free (by rfl) (by rfl) (by rfl) (by exact wn0 rfl) (fun wS => (x_move (v := tup [.int .i64 v40.1, .int .i64 v40.2]) (by rfl))) ?_
 refine PR_free (by rfl) (by rfl) (by rfl) (by exact wn0 rfl) (fun wS => (x_extract (v := .int .i64 v40.1) (by rfl) (by rfl))) ?_
 refine PR_free (by rfl) (by rfl) (by rfl) (by exact wn0 rfl) (fun wS => (x_extract (v := .int .i64 v40.2) (by rfl) (by rfl))) ?_
 refine PR_free (by rfl) (by rfl) (by rfl) (by exact wn0 rfl) (fun wS => (x_assign (v := .int .i64 v40.1) (by rfl))) ?_
 refine PR_free (by rfl) (by rfl) (by rfl) (by exact wn0 rfl) (fun wS => (x_assign (v := .int .i64 v40.2) (by rfl))) ?_
 refine PR_nil ?_
 refine W_seq ?_
 refine W_region ?_
 refine RL_pure (by exact wn0 rfl) (by rfl) (by rfl) (x_move (v := .bool v2.2) (by rfl)) ?_
 refine RL_pure (by exact wn0 rfl) (by rfl) (by rfl) (x_move (v := .bool v2.2) (by rfl)) ?_
 obtain ⟨b42, hmS, hm⟩ := bind_some hm
 refine RL_cut 3 (fun r' w' => Agr [(34, .bool b42), (3, .pointer (some ⟨b25, 0, none⟩)), (5, .int .i64 v33.1), (6, .int .i64 v33.2), (7, .int .i64 v40.1), (8, .int .i64 v40.2)] r' ∧ Sep ok w w' [.blk b16 25 [.int .i64 v2.1.W, .int .i64 v2.1.H, .slice A4 v2.1.Color.length cp5, .slice A7 v2.1.Depth.length cp8, .slice A10 v2.1.Item.length cp11, .slice A13 v2.1.Tri.length cp14], .blk b25 28 [.slice A22 v20.1.Levels.length cp23]] [RE.rd k_Ar4_Int A4 cp5 v2.1.Color, RE.rd kInt A7 cp8 v2.1.Depth, RE.rd kInt A10 cp11 v2.1.Item, RE.rd kInt A13 cp14 v2.1.Tri, RE.rd k_Level A22 cp23 v20.1.Levels]) ?_ ?_
 ·cases hbS : v2.2
  ·have hm := cond_f hbS hmS
   refine RL_cons (OpR_off (by exact wn2 rfl rfl rfl rfl) (by rfl) (by rfl) ?_)
   refine RL_cons (OpR_off (by exact wn2 rfl rfl rfl rfl) (by rfl) (by rfl) ?_)
   refine RL_pure (by exact wn0 rfl) (by rfl) (by rfl) (x_pick_f (v := .bool false) (by rfl) (by rfl)) ?_
   refine RL_nil ?_
   exact ⟨⟨congrArg Value.bool (Option.some.inj hm), rfl, rfl, rfl, rfl, rfl, trivial⟩, H⟩
  ·have hm := cond_t hbS hmS
   refine RL_pure (by exact wn1 rfl rfl rfl rfl) (by rfl) (by rfl) (x_move (v := .int .i64 v20.2) (by rfl)) ?_
   refine RL_pure (by exact wn1 rfl rfl rfl rfl) (by rfl) (by rfl) (x_eql (by rfl) (by rfl)) ?_
   refine RL_pure (by exact wn0 rfl) (by rfl) (by rfl) (x_pick_t (v := .bool (v20.2 == 0)) (by rfl) (by rfl)) ?_
   refine RL_nil ?_
   exact ⟨⟨congrArg Value.bool (Option.some.inj hm), rfl, rfl, rfl, rfl, rfl, trivial⟩, H⟩
 ·rintro r' w' ⟨hA, H⟩
  obtain ⟨r43, rfl⟩ := regen _ hA; clear hA
  obtain ⟨w44, rfl⟩ : ∃ W : World, W = w' := ⟨_, rfl⟩
  show RL _ _ _ _ _ _ _
  refine RL_pure (by exact wn0 rfl) (by rfl) (by rfl) (x_move (v := .bool b42) (by rfl)) ?_
  obtain ⟨b45, hmS, hm⟩ := bind_some hm
  refine RL_cut 5 (fun r' w' => Agr [(40, .bool b45), (5, .int .i64 v33.1), (6, .int .i64 v33.2), (7, .int .i64 v40.1), (8, .int .i64 v40.2)] r' ∧ Sep ok w w' [.blk b16 25 [.int .i64 v2.1.W, .int .i64 v2.1.H, .slice A4 v2.1.Color.length cp5, .slice A7 v2.1.Depth.length cp8, .slice A10 v2.1.Item.length cp11, .slice A13 v2.1.Tri.length cp14], .blk b25 28 [.slice A22 v20.1.Levels.length cp23]] [RE.rd k_Ar4_Int A4 cp5 v2.1.Color, RE.rd kInt A7 cp8 v2.1.Depth, RE.rd kInt A10 cp11 v2.1.Item, RE.rd kInt A13 cp14 v2.1.Tri, RE.rd k_Level A22 cp23 v20.1.Levels]) ?_ ?_
  ·cases hbS : b42
   ·have hm := cond_f hbS hmS
    refine RL_cons (OpR_off (by exact wn2 rfl rfl rfl rfl) (by rfl) (by rfl) ?_)
    refine RL_cons (OpR_off (by exact wn2 rfl rfl rfl rfl) (by rfl) (by rfl) ?_)
    refine RL_cons (OpR_off (by exact wn2 rfl rfl rfl rfl) (by rfl) (by rfl) ?_)
    refine RL_cons (OpR_off (by exact wn2 rfl rfl rfl rfl) (by rfl) (by rfl) ?_)
    refine RL_pure (by exact wn0 rfl) (by rfl) (by rfl) (x_pick_f (v := .bool false) (by rfl) (by rfl)) ?_
    refine RL_nil ?_
    exact ⟨⟨congrArg Value.bool (Option.some.inj hm), rfl, rfl, rfl, rfl, trivial⟩, H⟩
   ·have hm := cond_t hbS hmS
    refine RL_pure (by exact wn1 rfl rfl rfl rfl) (by rfl) (by rfl) (x_fieldAddr fo28_0 (by rfl)) ?_
    refine RL_pure (by exact wn1 rfl rfl rfl rfl) (by rfl) (by rfl) (x_load (j := 0) (v := .slice A22 v20.1.Levels.length cp23) sc26 (by rfl) (H.cells (i := 1) (by rfl)) (by rfl)) ?_
    refine RL_pure (by exact wn1 rfl rfl rfl rfl) (by rfl) (by rfl) (x_len sl26 (by rfl)) ?_
    refine RL_pure (by exact wn1 rfl rfl rfl rfl) (by rfl) (by rfl) (x_eql (by rfl) (by rfl)) ?_
    refine RL_pure (by exact wn0 rfl) (by rfl) (by rfl) (x_pick_t (v := .bool ((v20.1.Levels.length : Int) == 3)) (by rfl) (by rfl)) ?_
    refine RL_nil ?_
    exact ⟨⟨congrArg Value.bool (Option.some.inj hm), rfl, rfl, rfl, rfl, trivial⟩, H⟩
  ·rintro r' w' ⟨hA, H⟩
   obtain ⟨r46, rfl⟩ := regen _ hA; clear hA
   obtain ⟨w47, rfl⟩ : ∃ W : World, W = w' := ⟨_, rfl⟩
   show RL _ _ _ _ _ _ _
   refine RL_pure (by exact wn0 rfl) (by rfl) (by rfl) (x_move (v := .bool b45) (by rfl)) ?_
   obtain ⟨b48, hmS, hm⟩ := bind_some hm
   refine RL_cut 3 (fun r' w' => Agr [(44, .bool b48), (5, .int .i64 v33.1), (7, .int .i64 v40.1), (8, .int .i64 v40.2)] r' ∧ Sep ok w w' [.blk b16 25 [.int .i64 v2.1.W, .int .i64 v2.1.H, .slice A4 v2.1.Color.length cp5, .slice A7 v2.1.Depth.length cp8, .slice A10 v2.1.Item.length cp11, .slice A13 v2.1.Tri.length cp14], .blk b25 28 [.slice A22 v20.1.Levels.length cp23]] [RE.rd k_Ar4_Int A4 cp5 v2.1.Color, RE.rd kInt A7 cp8 v2.1.Depth, RE.rd kInt A10 cp11 v2.1.Item, RE.rd kInt A13 cp14 v2.1.Tri, RE.rd k_Level A22 cp23 v20.1.Levels]) ?_ ?_
   ·cases hbS : b45
    ·have hm := cond_f hbS hmS
     refine RL_cons (OpR_off (by exact wn2 rfl rfl rfl rfl) (by rfl) (by rfl) ?_)
     refine RL_cons (OpR_off (by exact wn2 rfl rfl rfl rfl) (by rfl) (by rfl) ?_)
     refine RL_pure (by exact wn0 rfl) (by rfl) (by rfl) (x_pick_f (v := .bool false) (by rfl) (by rfl)) ?_
     refine RL_nil ?_
     exact ⟨⟨congrArg Value.bool (Option.some.inj hm), rfl, rfl, rfl, trivial⟩, H⟩
    ·have hm := cond_t hbS hmS
     refine RL_pure (by exact wn1 rfl rfl rfl rfl) (by rfl) (by rfl) (x_move (v := .int .i64 v33.2) (by rfl)) ?_
     refine RL_pure (by exact wn1 rfl rfl rfl rfl) (by rfl) (by rfl) (x_eql (by rfl) (by rfl)) ?_
     refine RL_pure (by exact wn0 rfl) (by rfl) (by rfl) (x_pick_t (v := .bool (v33.2 == 0)) (by rfl) (by rfl)) ?_
     refine RL_nil ?_
     exact ⟨⟨congrArg Value.bool (Option.some.inj hm), rfl, rfl, rfl, trivial⟩, H⟩
   ·rintro r' w' ⟨hA, H⟩
    obtain ⟨r49, rfl⟩ := regen _ hA; clear hA
    obtain ⟨w50, rfl⟩ : ∃ W : World, W = w' := ⟨_, rfl⟩
    show RL _ _ _ _ _ _ _
    refine RL_pure (by exact wn0 rfl) (by rfl) (by rfl) (x_move (v := .bool b48) (by rfl)) ?_
    obtain ⟨b51, hmS, hm⟩ := bind_some hm
    refine RL_cut 3 (fun r' w' => Agr [(48, .bool b51), (7, .int .i64 v40.1), (8, .int .i64 v40.2)] r' ∧ Sep ok w w' [.blk b16 25 [.int .i64 v2.1.W, .int .i64 v2.1.H, .slice A4 v2.1.Color.length cp5, .slice A7 v2.1.Depth.length cp8, .slice A10 v2.1.Item.length cp11, .slice A13 v2.1.Tri.length cp14], .blk b25 28 [.slice A22 v20.1.Levels.length cp23]] [RE.rd k_Ar4_Int A4 cp5 v2.1.Color, RE.rd kInt A7 cp8 v2.1.Depth, RE.rd kInt A10 cp11 v2.1.Item, RE.rd kInt A13 cp14 v2.1.Tri, RE.rd k_Level A22 cp23 v20.1.Levels]) ?_ ?_
    ·cases hbS : b48
     ·have hm := cond_f hbS hmS
      refine RL_cons (OpR_off (by exact wn2 rfl rfl rfl rfl) (by rfl) (by rfl) ?_)
      refine RL_cons (OpR_off (by exact wn2 rfl rfl rfl rfl) (by rfl) (by rfl) ?_)
      refine RL_pure (by exact wn0 rfl) (by rfl) (by rfl) (x_pick_f (v := .bool false) (by rfl) (by rfl)) ?_
      refine RL_nil ?_
      exact ⟨⟨congrArg Value.bool (Option.some.inj hm), rfl, rfl, trivial⟩, H⟩
     ·have hm := cond_t hbS hmS
      refine RL_pure (by exact wn1 rfl rfl rfl rfl) (by rfl) (by rfl) (x_move (v := .int .i64 v33.1) (by rfl)) ?_
      refine RL_pure (by exact wn1 rfl rfl rfl rfl) (by rfl) (by rfl) (x_eql (by rfl) (by rfl)) ?_
      refine RL_pure (by exact wn0 rfl) (by rfl) (by rfl) (x_pick_t (v := .bool (v33.1 == 600)) (by rfl) (by rfl)) ?_
      refine RL_nil ?_
      exact ⟨⟨congrArg Value.bool (Option.some.inj hm), rfl, rfl, trivial⟩, H⟩
    ·rintro r' w' ⟨hA, H⟩
     obtain ⟨r52, rfl⟩ := regen _ hA; clear hA
     obtain ⟨w53, rfl⟩ : ∃ W : World, W = w' := ⟨_, rfl⟩
     show RL _ _ _ _ _ _ _
     refine RL_pure (by exact wn0 rfl) (by rfl) (by rfl) (x_move (v := .bool b51) (by rfl)) ?_
     obtain ⟨b54, hmS, hm⟩ := bind_some hm
     refine RL_cut 3 (fun r' w' => Agr [(52, .bool b54), (7, .int .i64 v40.1)] r' ∧ Sep ok w w' [.blk b16 25 [.int .i64 v2.1.W, .int .i64 v2.1.H, .slice A4 v2.1.Color.length cp5, .slice A7 v2.1.Depth.length cp8, .slice A10 v2.1.Item.length cp11, .slice A13 v2.1.Tri.length cp14], .blk b25 28 [.slice A22 v20.1.Levels.length cp23]] [RE.rd k_Ar4_Int A4 cp5 v2.1.Color, RE.rd kInt A7 cp8 v2.1.Depth, RE.rd kInt A10 cp11 v2.1.Item, RE.rd kInt A13 cp14 v2.1.Tri, RE.rd k_Level A22 cp23 v20.1.Levels]) ?_ ?_
     ·cases hbS : b51
      ·have hm := cond_f hbS hmS
       refine RL_cons (OpR_off (by exact wn2 rfl rfl rfl rfl) (by rfl) (by rfl) ?_)
       refine RL_cons (OpR_off (by exact wn2 rfl rfl rfl rfl) (by rfl) (by rfl) ?_)
       refine RL_pure (by exact wn0 rfl) (by rfl) (by rfl) (x_pick_f (v := .bool false) (by rfl) (by rfl)) ?_
       refine RL_nil ?_
       exact ⟨⟨congrArg Value.bool (Option.some.inj hm), rfl, trivial⟩, H⟩
      ·have hm := cond_t hbS hmS
       refine RL_pure (by exact wn1 rfl rfl rfl rfl) (by rfl) (by rfl) (x_move (v := .int .i64 v40.2) (by rfl)) ?_
       refine RL_pure (by exact wn1 rfl rfl rfl rfl) (by rfl) (by rfl) (x_eql (by rfl) (by rfl)) ?_
       refine RL_pure (by exact wn0 rfl) (by rfl) (by rfl) (x_pick_t (v := .bool (v40.2 == 0)) (by rfl) (by rfl)) ?_
       refine RL_nil ?_
       exact ⟨⟨congrArg Value.bool (Option.some.inj hm), rfl, trivial⟩, H⟩
     ·rintro r' w' ⟨hA, H⟩
      obtain ⟨r55, rfl⟩ := regen _ hA; clear hA
      obtain ⟨w56, rfl⟩ : ∃ W : World, W = w' := ⟨_, rfl⟩
      show RL _ _ _ _ _ _ _
      refine RL_pure (by exact wn0 rfl) (by rfl) (by rfl) (x_move (v := .bool b54) (by rfl)) ?_
      obtain ⟨b57, hmS, hm⟩ := bind_some hm
      refine RL_cut 3 (fun r' w' => Agr [(56, .bool b57)] r' ∧ Sep ok w w' [.blk b16 25 [.int .i64 v2.1.W, .int .i64 v2.1.H, .slice A4 v2.1.Color.length cp5, .slice A7 v2.1.Depth.length cp8, .slice A10 v2.1.Item.length cp11, .slice A13 v2.1.Tri.length cp14], .blk b25 28 [.slice A22 v20.1.Levels.length cp23]] [RE.rd k_Ar4_Int A4 cp5 v2.1.Color, RE.rd kInt A7 cp8 v2.1.Depth, RE.rd kInt A10 cp11 v2.1.Item, RE.rd kInt A13 cp14 v2.1.Tri, RE.rd k_Level A22 cp23 v20.1.Levels]) ?_ ?_
      ·cases hbS : b54
       ·have hm := cond_f hbS hmS
        refine RL_cons (OpR_off (by exact wn2 rfl rfl rfl rfl) (by rfl) (by rfl) ?_)
        refine RL_cons (OpR_off (by exact wn2 rfl rfl rfl rfl) (by rfl) (by rfl) ?_)
        refine RL_pure (by exact wn0 rfl) (by rfl) (by rfl) (x_pick_f (v := .bool false) (by rfl) (by rfl)) ?_
        refine RL_nil ?_
        exact ⟨⟨congrArg Value.bool (Option.some.inj hm), trivial⟩, H⟩
       ·have hm := cond_t hbS hmS
        refine RL_pure (by exact wn1 rfl rfl rfl rfl) (by rfl) (by rfl) (x_move (v := .int .i64 v40.1) (by rfl)) ?_
        refine RL_pure (by exact wn1 rfl rfl rfl rfl) (by rfl) (by rfl) (x_eql (by rfl) (by rfl)) ?_
        refine RL_pure (by exact wn0 rfl) (by rfl) (by rfl) (x_pick_t (v := .bool (v40.1 == (-2048))) (by rfl) (by rfl)) ?_
        refine RL_nil ?_
        exact ⟨⟨congrArg Value.bool (Option.some.inj hm), trivial⟩, H⟩
      ·rintro r' w' ⟨hA, H⟩
       obtain ⟨r58, rfl⟩ := regen _ hA; clear hA
       obtain ⟨w59, rfl⟩ : ∃ W : World, W = w' := ⟨_, rfl⟩
       show RL _ _ _ _ _ _ _
       refine RL_pure (by exact wn0 rfl) (by rfl) (by rfl) (x_assign (v := .bool b57) (by rfl)) ?_
       refine RL_nil ?_
       refine W_ret ?_
       obtain rfl := Option.some.inj hm
       exact ⟨[.bool b57], (.tmp (by rfl) rfl), rfl, H.none_⟩
end Go.Proofs.YtobkigllalbkiaaV.M
