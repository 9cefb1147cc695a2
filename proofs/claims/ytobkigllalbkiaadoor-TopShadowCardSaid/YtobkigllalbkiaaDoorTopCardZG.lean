/- Proved: the tied card of TopShadow: the row's statement, with the variable that it lists tied to the program's text by the given tie. -/
import Derived.Test.YtobkigllalbkiaaDoorTopCardZF
/- A plain Lean function that answers as the Go function does (none: not told), and the proof that a call answers so. Written by program. -/
set_option linter.unusedVariables false
set_option maxRecDepth 100000
set_option maxHeartbeats 4000000
namespace Go.Proofs.YtobkigllalbkiaaV.D
open Go.RowKit Go.Proofs.YtobkigllalbkiaaV
abbrev L18_0 (q0 : S_way) : List Value := [ii q0.grows, ii q0.middle, ii q0.near, ii q0.far]
def m18_j1 (K : Nat) (a0 : S_way) (a1 : Int) (y7_1 : Int) : Option (Int) :=
 (ck (a0.grows * a1) fun x5 => ((m29 K x5 y7_1).bind fun v7 => some v7.1))
def m18 (K : Nat) (a0 : S_way) (a1 : Int) (a2 : Bool) : Option (Int) :=
 (bif ((decide (0 ≤ a1)) == a2) then (m18_j1 K a0 a1 a0.near) else (m18_j1 K a0 a1 a0.far))
theorem c18 (ok : Okp) (K : Nat) (w : World) (a0 : S_way) (a1 : Int) (a2 : Bool)  (res : Int) (hm : m18 K a0 a1 a2 = some res) :
  Calls Tryd.prog 18 #[.agg (L18_0 a0).toArray, ii a1, .bool a2] w (fun e w' => e = .returned (tup [ii res]) ∧ Sep ok w w' [] []) := by
 refine calls_W (args := [.agg (L18_0 a0).toArray, ii a1, .bool a2]) Tryd.func18 rfl Tryd.ntmps18 Tryd.results18 rfl fun r hr => ?_
 obtain ⟨r1, rfl⟩ := regen (r := r) [(0, .agg (L18_0 a0).toArray), (1, ii a1), (2, .bool a2)] ⟨hr 0 _ rfl, hr 1 _ rfl, hr 2 _ rfl, trivial⟩
 have H : Sep ok w w [] [] := Sep.start ok w
 unfold m18 at hm
 refine Wr ?_
 refine RL_cons (OB H (fun w2 b1 (H : Sep ok w w2 [.blk b1 77 (L18_0 a0)] []) => ?_))
 refine RL_p (xa (ii 0)) ?_
 refine Wr ?_
 refine RL_p (xf fo77_3) ?_
 refine RL_p (xl 3 (ii a0.far) sc3 (H.c 0)) ?_
 refine RL_p (xa (ii a0.far)) ?_
 refine W_join (fun r' w' => ∃ (y7_1 : Int), m18_j1 K a0 a1 y7_1 = some res ∧ Agr [(1, ii a1), (3, pp b1), (7, ii y7_1)] r' ∧ Sep ok w w' [.blk b1 77 (L18_0 a0)] []) ?_ ?_
 ·show W _ _ _ _ _ _
  refine Wr ?_
  refine RL_p (xm (ii a1)) ?_
  refine RL_p (x_geq (by rfl) (by rfl)) ?_
  refine RL_p (xm (.bool a2)) ?_
  refine RL_p (x_eqlb un4 (by rfl) (by rfl)) ?_
  refine Wc (fun hb => ?_) (fun hb => ?_)
  ·have hm := cond_t hb hm
   refine W_region ?_
   refine RL_p (xf fo77_2) ?_
   refine RL_p (xl 2 (ii a0.near) sc3 (H.c 0)) ?_
   refine RL_p (xa (ii a0.near)) ?_
   refine RL_nil ?_
   exact ⟨a0.near, hm, ⟨rfl, rfl, rfl, trivial⟩, H⟩
  have hm := cond_f hb hm
  refine W_skip ?_
  exact ⟨a0.far, hm, ⟨rfl, rfl, rfl, trivial⟩, H⟩
 rintro r' w' ⟨y7_1, hm, hA, H⟩
 obtain ⟨r3, rfl⟩ := regen _ hA; clear hA
 obtain ⟨w4, rfl⟩ := wld w'
 unfold m18_j1 at hm
 refine Wr ?_
 refine RL_p (xf fo77_0) ?_
 refine RL_p (xl 0 (ii a0.grows) sc3 (H.c 0)) ?_
 refine RL_p (xm (ii a1)) ?_
 obtain ⟨x5, ex5, qx5, ux5, hm⟩ := ck_some hm
 refine RL_p (xX ux5) ?_
 refine RL_p (xm (ii y7_1)) ?_
 obtain ⟨v7, hv6, hm⟩ := bind_some hm
 refine RL_cons (OC (xc [ii x5, ii y7_1] (cf29 _ _)) (c29 okT K w4 x5 y7_1  v7 hv6) ?_)
 rintro e w8 ⟨rfl, H2⟩
 have H : Sep ok w w8 [.blk b1 77 (L18_0 a0)] [] := H.below H2.base
 clear H2
 refine ⟨_, rfl, ?_⟩
 refine RL_p (xm (tup [ii v7.1, ii v7.2])) ?_
 refine RL_p (xe (ii v7.1)) ?_
 refine RL_p (xe (ii v7.2)) ?_
 refine RL_p (xa (ii v7.1)) ?_
 refine RL_p (xa (ii v7.2)) ?_
 refine Wr ?_
 refine RL_p (xm (ii v7.1)) ?_
 refine RL_p (xa (ii v7.1)) ?_
 refine W_ret ?_
 obtain rfl := Option.some.inj hm
 exact ⟨[ii v7.1], (.tmp (by rfl) rfl), rfl, H.none_⟩
end Go.Proofs.YtobkigllalbkiaaV.D

/- A plain Lean function that answers as the Go function does (none: not told), and the proof that a call answers so. Written by program. -/
set_option linter.unusedVariables false
set_option maxRecDepth 100000
set_option maxHeartbeats 4000000
namespace Go.Proofs.YtobkigllalbkiaaV.D
open Go.RowKit Go.Proofs.YtobkigllalbkiaaV
abbrev L9_0  : List Value := [ii (-4096), ii (-4096), ii (-4096), ii 4096, ii 4096, ii 4096]
abbrev L9_1 (q0 : S_Camera) : List Value := [ii q0.Pos.X, ii q0.Pos.Y, ii q0.Pos.Z, ii q0.M.a0.a0, ii q0.M.a0.a1, ii q0.M.a0.a2, ii q0.M.a1.a0, ii q0.M.a1.a1, ii q0.M.a1.a2, ii q0.M.a2.a0, ii q0.M.a2.a1, ii q0.M.a2.a2, ii q0.Focal, ii q0.Near, ii q0.W, ii q0.H]
abbrev L9_2 (q0 : S_Box) : List Value := [ii q0.Low.X, ii q0.Low.Y, ii q0.Low.Z, ii q0.High.X, ii q0.High.Y, ii q0.High.Z]
abbrev L9_3 (q0 : S_Rect) : List Value := [ii q0.X0, ii q0.Y0, ii q0.X1, ii q0.Y1]
abbrev L9_4  : List Value := [ii 0, ii 0, ii 0, ii 0, ii 0]
abbrev L9_5 (q0 : S_Box × Int) : List Value := [ii q0.1.Low.X, ii q0.1.Low.Y, ii q0.1.Low.Z, ii q0.1.High.X, ii q0.1.High.Y, ii q0.1.High.Z]
abbrev L9_6  : List Value := [ii 0, ii 0, ii 0, ii 0, ii 0, ii 0]
abbrev L9_7 (q0 : Int) (q1 : Int) (q2 : S_Box × Int) (q3 : S_Camera) : List Value := [ii q0, ii q1, ii (mx q2.1.Low.Z q3.Near), ii q2.1.High.Z]
abbrev L9_8  : List Value := [ii 0, ii 0, ii 0, ii 0]
abbrev L9_9 (q0 : Int × Int × Bool) (q1 : Int × Int × Bool) : List Value := [ii q0.1, ii q1.1, ii q0.2.1, ii q1.2.1]
abbrev L9_10 (q0 : Int × Int × Bool) (q1 : Int × Int × Bool) (q2 : Int) : List Value := [ii q0.1, ii q1.1, ii q0.2.1, ii q1.2.1, ii q2]
abbrev L9_11 (q0 : S_Shade × Bool × Int) : List Value := [ii q0.1.Rect.X0, ii q0.1.Rect.Y0, ii q0.1.Rect.X1, ii q0.1.Rect.Y1, ii q0.1.D]
def m9 (K : Nat) (a0 : S_Camera) (a1 : S_Box) (a2 : S_Rect) : Option (S_Shade × Bool × Int) :=
 ((m16 K a0 a1).bind fun v10 => (bif (v10.2 != 0) then some ((⟨(⟨0, 0, 0, 0⟩ : S_Rect), 0⟩ : S_Shade), false, v10.2) else ((m8 K a0 a2).bind fun v17 => (bif (v17 != 0) then some ((⟨(⟨0, 0, 0, 0⟩ : S_Rect), 0⟩ : S_Shade), false, v17) else (bif (decide (v10.1.High.Z < (mx v10.1.Low.Z a0.Near))) then some ((⟨(⟨0, 0, 0, 0⟩ : S_Rect), 0⟩ : S_Shade), false, 0) else (ck (8 * a0.Focal) fun x22 => (ck (4 * a0.W) fun x23 => (ck (8 * a0.Focal) fun x27 => (ck (4 * a0.H) fun x28 => ((m18 K (⟨x22, x23, (mx v10.1.Low.Z a0.Near), v10.1.High.Z⟩ : S_way) v10.1.Low.X false).bind fun v34 => (ck (v34 + x23) fun x36 => ((m18 K (⟨x22, x23, (mx v10.1.Low.Z a0.Near), v10.1.High.Z⟩ : S_way) v10.1.High.X true).bind fun v38 => (ck (v38 + x23) fun x40 => ((m17 K (⟨x22, x23, (mx v10.1.Low.Z a0.Near), v10.1.High.Z⟩ : S_way) x36 x40 a2.X0 a2.X1).bind fun v42 => ((m18 K (⟨x27, x28, (mx v10.1.Low.Z a0.Near), v10.1.High.Z⟩ : S_way) v10.1.High.Y true).bind fun v46 => (ck (x28 - v46) fun x48 => ((m18 K (⟨x27, x28, (mx v10.1.Low.Z a0.Near), v10.1.High.Z⟩ : S_way) v10.1.Low.Y false).bind fun v50 => (ck (x28 - v50) fun x52 => ((m17 K (⟨x27, x28, (mx v10.1.Low.Z a0.Near), v10.1.High.Z⟩ : S_way) x48 x52 a2.Y0 a2.Y1).bind fun v54 => ((bif (!v42.2.2) then some true else some (!v54.2.2)).bind fun b56 => (bif b56 then some ((⟨(⟨0, 0, 0, 0⟩ : S_Rect), 0⟩ : S_Shade), false, 0) else (nz (mx v10.1.Low.Z a0.Near) (ck (Int.tdiv 16777216 (mx v10.1.Low.Z a0.Near)) fun x60 => some ((⟨(⟨v42.1, v54.1, v42.2.1, v54.2.1⟩ : S_Rect), x60⟩ : S_Shade), true, 0))))))))))))))))))))))))
abbrev S9_0 (q0 : Okp) (q1 q2 : World) (q3 : Nat) (q4 : S_Camera) (q5 : Nat) (q6 : S_Box) (q7 : Nat) (q8 : S_Rect) (q9 q10 : Nat) (q11 : S_Box × Int) : Prop := Sep q0 q1 q2 [.blk q3 31 (L9_1 q4), .blk q5 50 (L9_2 q6), .blk q7 33 (L9_3 q8), .blk q9 56 L9_4, .blk q10 50 (L9_5 q11)] [RE.cells 0 (0) L9_0]
abbrev S9_1 (q0 : Okp) (q1 q2 : World) (q3 : Nat) : Prop := Sep q0 q1 q2 [.blk q3 56 L9_4] [RE.cells 0 (0) L9_0]
abbrev S9_2 (q0 : Okp) (q1 q2 : World) (q3 : Nat) (q4 : S_Camera) (q5 : Nat) (q6 : S_Box) (q7 : Nat) (q8 : S_Rect) (q9 q10 : Nat) (q11 : S_Box × Int) (q12 : Nat) (q13 q14 : Int) (q15 : Nat) (q16 q17 : Int) : Prop := Sep q0 q1 q2 [.blk q3 31 (L9_1 q4), .blk q5 50 (L9_2 q6), .blk q7 33 (L9_3 q8), .blk q9 56 L9_4, .blk q10 50 (L9_5 q11), .blk q12 77 (L9_7 q13 q14 q11 q4), .blk q15 77 (L9_7 q16 q17 q11 q4)] [RE.cells 0 (0) L9_0]
abbrev S9_3 (q0 : Okp) (q1 q2 : World) (q3 : Nat) (q4 : S_Rect) (q5 q6 : Nat) (q7 : S_Box × Int) (q8 : Nat) (q9 q10 : Int) (q11 : S_Camera) : Prop := Sep q0 q1 q2 [.blk q3 33 (L9_3 q4), .blk q5 56 L9_4, .blk q6 50 (L9_5 q7), .blk q8 77 (L9_7 q9 q10 q7 q11)] [RE.cells 0 (0) L9_0]
theorem c9 (ok : Okp) (K : Nat) (w : World) (a0 : S_Camera) (a1 : S_Box) (a2 : S_Rect) (hG : (RE.cells 0 (0) L9_0).rel w ok) (res : S_Shade × Bool × Int) (hm : m9 K a0 a1 a2 = some res) :
  Calls Tryd.prog 9 #[.agg (L9_1 a0).toArray, .agg (L9_2 a1).toArray, .agg (L9_3 a2).toArray] w (fun e w' => e = .returned (tup [.agg (L9_11 res).toArray, .bool res.2.1, ii res.2.2]) ∧ Sep ok w w' [] []) := by
 refine calls_W (args := [.agg (L9_1 a0).toArray, .agg (L9_2 a1).toArray, .agg (L9_3 a2).toArray]) Tryd.func9 rfl Tryd.ntmps9 Tryd.results9 rfl fun r hr => ?_
 obtain ⟨r1, rfl⟩ := regen (r := r) [(0, .agg (L9_1 a0).toArray), (1, .agg (L9_2 a1).toArray), (2, .agg (L9_3 a2).toArray)] ⟨hr 0 _ rfl, hr 1 _ rfl, hr 2 _ rfl, trivial⟩
 have H : Sep ok w w [] [RE.cells 0 (0) L9_0] := Sep.arg (Sep.start ok w) (re := RE.cells 0 (0) L9_0) rfl rfl hG
 unfold m9 at hm
 refine Wr ?_
 refine RL_cons (OB H (fun w2 b1 (H : Sep ok w w2 [.blk b1 31 (L9_1 a0)] [RE.cells 0 (0) L9_0]) => ?_))
 refine RL_cons (OB H (fun w4 b3 (H : Sep ok w w4 [.blk b1 31 (L9_1 a0), .blk b3 50 (L9_2 a1)] [RE.cells 0 (0) L9_0]) => ?_))
 refine RL_cons (OB H (fun w6 b5 (H : Sep ok w w6 [.blk b1 31 (L9_1 a0), .blk b3 50 (L9_2 a1), .blk b5 33 (L9_3 a2)] [RE.cells 0 (0) L9_0]) => ?_))
 refine RL_cons (OA ze56 H (fun w8 b7 (H : Sep ok w w8 [.blk b1 31 (L9_1 a0), .blk b3 50 (L9_2 a1), .blk b5 33 (L9_3 a2), .blk b7 56 L9_4] [RE.cells 0 (0) L9_0]) => ?_))
 refine RL_p (xa (.bool false)) ?_
 refine RL_p (xa (ii 0)) ?_
 refine Wr ?_
 refine RL_p (xA 0 (L9_1 a0) ag31 (H.c 0)) ?_
 refine RL_p (xA 0 (L9_2 a1) ag50 (H.c 1)) ?_
 obtain ⟨v10, hv9, hm⟩ := bind_some hm
 refine RL_cons (OC (xc [.agg (L9_1 a0).toArray, .agg (L9_2 a1).toArray] (cf16 _ _)) (c16 okT K w8 a0 a1 (H.cellsT (i := 0) (by rfl)) v10 hv9) ?_)
 rintro e w11 ⟨rfl, H2⟩
 have H : Sep ok w w11 [.blk b1 31 (L9_1 a0), .blk b3 50 (L9_2 a1), .blk b5 33 (L9_3 a2), .blk b7 56 L9_4] [RE.cells 0 (0) L9_0] := H.below H2.base
 clear H2
 refine ⟨_, rfl, ?_⟩
 refine RL_p (xm (tup [.agg (L9_5 v10).toArray, ii v10.2])) ?_
 refine RL_p (xe (.agg (L9_5 v10).toArray)) ?_
 refine RL_p (xe (ii v10.2)) ?_
 refine RL_cons (OA ze50 H (fun w13 b12 (H : Sep ok w w13 [.blk b1 31 (L9_1 a0), .blk b3 50 (L9_2 a1), .blk b5 33 (L9_3 a2), .blk b7 56 L9_4, .blk b12 50 L9_6] [RE.cells 0 (0) L9_0]) => ?_))
 refine RL_cons (OS 4 0 (L9_5 v10) sz50 H (fun w14 (H : S9_0 ok w w14 b1 a0 b3 a1 b5 a2 b7 b12 v10) => ?_))
 refine RL_p (xa (ii v10.2)) ?_
 refine W_seq ?_
 refine Wr ?_
 refine RL_p (xm (ii v10.2)) ?_
 refine RL_p (xN) ?_
 refine Wc (fun hb => ?_) (fun hb => ?_)
 ·have hm := cond_t hb hm
  refine W_seq ?_
  have H : S9_1 ok w w14 b7 := (H.pickL [3] (by decide))
  refine W_region ?_
  refine RL_p (xA 0 L9_4 ag56 (H.c 0)) ?_
  refine RL_p (xm (ii v10.2)) ?_
  refine RL_cons (OS 0 0 L9_4 sz56 H (fun w15 (H : S9_1 ok w w15 b7) => ?_))
  refine RL_p (xa (.bool false)) ?_
  refine RL_p (xa (ii v10.2)) ?_
  refine W_ret ?_
  obtain rfl := Option.some.inj hm
  exact ⟨[.agg L9_4.toArray, .bool false, ii v10.2], (.cellA (by rfl) ag56 (H.c 0) (by rfl) (.tmp (by rfl) (.tmp (by rfl) rfl))), rfl, H.none_⟩
 have hm := cond_f hb hm
 refine W_skip ?_
 refine W_seq ?_
 refine Wr ?_
 refine RL_p (xA 0 (L9_1 a0) ag31 (H.c 0)) ?_
 refine RL_p (xA 0 (L9_3 a2) ag33 (H.c 2)) ?_
 obtain ⟨v17, hv16, hm⟩ := bind_some hm
 refine RL_cons (OC (xc [.agg (L9_1 a0).toArray, .agg (L9_3 a2).toArray] (cf8 _ _)) (c8 okT K w14 a0 a2  v17 hv16) ?_)
 rintro e w18 ⟨rfl, H2⟩
 have H : S9_0 ok w w18 b1 a0 b3 a1 b5 a2 b7 b12 v10 := H.below H2.base
 clear H2
 refine ⟨_, rfl, ?_⟩
 refine RL_p (xa (ii v17)) ?_
 refine Wr ?_
 refine RL_p (xm (ii v17)) ?_
 refine RL_p (xN) ?_
 refine Wc (fun hb => ?_) (fun hb => ?_)
 ·have hm := cond_t hb hm
  refine W_seq ?_
  have H : S9_1 ok w w18 b7 := (H.pickL [3] (by decide))
  refine W_region ?_
  refine RL_p (xA 0 L9_4 ag56 (H.c 0)) ?_
  refine RL_p (xm (ii v17)) ?_
  refine RL_cons (OS 0 0 L9_4 sz56 H (fun w19 (H : S9_1 ok w w19 b7) => ?_))
  refine RL_p (xa (.bool false)) ?_
  refine RL_p (xa (ii v17)) ?_
  refine W_ret ?_
  obtain rfl := Option.some.inj hm
  exact ⟨[.agg L9_4.toArray, .bool false, ii v17], (.cellA (by rfl) ag56 (H.c 0) (by rfl) (.tmp (by rfl) (.tmp (by rfl) rfl))), rfl, H.none_⟩
 have hm := cond_f hb hm
 refine W_skip ?_
 refine W_seq ?_
 refine W_draw [.free 0, .free 1, .take 2, .free 3, .take 4, .free 5, .free 6, .free 7, .take 8, .free 9, .free 10] (fun wS => S9_0 ok w wS b1 a0 b3 a1 b5 a2 b7 b12 v10) [] [0, 1, 3, 5, 6, 7, 9, 10] mixed0 (by kernel_rfl) (by kernel_rfl) (by kernel_rfl) (by rfl) (by exact H.drew) ?_
 obtain ⟨w20, hW⟩ : ∃ W : World, W = { w18 with drawn := w18.drawn + 1 } := ⟨_, rfl⟩
 rw [← hW]
 have H : S9_0 ok w w20 b1 a0 b3 a1 b5 a2 b7 b12 v10 := by rw [hW]; exact H.drew
 clear hW
 refine PF (a := xf fo50_0) (b := ?_)
 refine PF (a := xf fo27_2) (b := ?_)
 refine PT' (a := fun H => xl 2 (ii v10.1.Low.Z) sc3 (H.c 4)) (b := ?_)
 refine PF (a := xf fo31_3) (b := ?_)
 refine PT' (a := fun H => xl 13 (ii a0.Near) sc3 (H.c 0)) (b := ?_)
 refine PF (a := x_max2 (by rfl) (by rfl)) (b := ?_)
 refine PF (a := xf fo50_1) (b := ?_)
 refine PF (a := xf fo27_2) (b := ?_)
 refine PT' (a := fun H => xl 5 (ii v10.1.High.Z) sc3 (H.c 4)) (b := ?_)
 refine PF (a := xa (ii (mx v10.1.Low.Z a0.Near))) (b := ?_)
 refine PF (a := xa (ii v10.1.High.Z)) (b := ?_)
 refine PR_nil ?_
 refine W_seq ?_
 refine Wr ?_
 refine RL_p (xm (ii v10.1.High.Z)) ?_
 refine RL_p (xm (ii (mx v10.1.Low.Z a0.Near))) ?_
 refine RL_p (xL) ?_
 refine Wc (fun hb => ?_) (fun hb => ?_)
 ·have hm := cond_t hb hm
  refine W_seq ?_
  have H : S9_1 ok w w20 b7 := (H.pickL [3] (by decide))
  refine W_region ?_
  refine RL_p (xA 0 L9_4 ag56 (H.c 0)) ?_
  refine RL_cons (OS 0 0 L9_4 sz56 H (fun w21 (H : S9_1 ok w w21 b7) => ?_))
  refine RL_p (xa (.bool false)) ?_
  refine RL_p (xa (ii 0)) ?_
  refine W_ret ?_
  obtain rfl := Option.some.inj hm
  exact ⟨[.agg L9_4.toArray, .bool false, ii 0], (.cellA (by rfl) ag56 (H.c 0) (by rfl) (.tmp (by rfl) (.tmp (by rfl) rfl))), rfl, H.none_⟩
 have hm := cond_f hb hm
 refine W_skip ?_
 refine Wr ?_
 refine RL_p (xf fo31_2) ?_
 refine RL_p (xl 12 (ii a0.Focal) sc3 (H.c 0)) ?_
 obtain ⟨x22, ex22, qx22, ux22, hm⟩ := ck_some hm
 refine RL_p (xX ux22) ?_
 refine RL_p (xf fo31_4) ?_
 refine RL_p (xl 14 (ii a0.W) sc3 (H.c 0)) ?_
 obtain ⟨x23, ex23, qx23, ux23, hm⟩ := ck_some hm
 refine RL_p (xX ux23) ?_
 refine RL_p (xm (ii (mx v10.1.Low.Z a0.Near))) ?_
 refine RL_p (xm (ii v10.1.High.Z)) ?_
 refine RL_p (x_build (vs := [(0, ii x22), (1, ii x23), (2, ii (mx v10.1.Low.Z a0.Near)), (3, ii v10.1.High.Z)]) (cs := (L9_7 x22 x23 v10 a0)) (by rfl) (by kernel_rfl)) ?_
 refine RL_cons (OA ze77 H (fun w25 b24 (H : Sep ok w w25 [.blk b1 31 (L9_1 a0), .blk b3 50 (L9_2 a1), .blk b5 33 (L9_3 a2), .blk b7 56 L9_4, .blk b12 50 (L9_5 v10), .blk b24 77 L9_8] [RE.cells 0 (0) L9_0]) => ?_))
 refine RL_cons (OS 5 0 (L9_7 x22 x23 v10 a0) sz77 H (fun w26 (H : Sep ok w w26 [.blk b1 31 (L9_1 a0), .blk b3 50 (L9_2 a1), .blk b5 33 (L9_3 a2), .blk b7 56 L9_4, .blk b12 50 (L9_5 v10), .blk b24 77 (L9_7 x22 x23 v10 a0)] [RE.cells 0 (0) L9_0]) => ?_))
 refine Wr ?_
 refine RL_p (xf fo31_2) ?_
 refine RL_p (xl 12 (ii a0.Focal) sc3 (H.c 0)) ?_
 obtain ⟨x27, ex27, qx27, ux27, hm⟩ := ck_some hm
 refine RL_p (xX ux27) ?_
 refine RL_p (xf fo31_5) ?_
 refine RL_p (xl 15 (ii a0.H) sc3 (H.c 0)) ?_
 obtain ⟨x28, ex28, qx28, ux28, hm⟩ := ck_some hm
 refine RL_p (xX ux28) ?_
 refine RL_p (xm (ii (mx v10.1.Low.Z a0.Near))) ?_
 refine RL_p (xm (ii v10.1.High.Z)) ?_
 refine RL_p (x_build (vs := [(0, ii x27), (1, ii x28), (2, ii (mx v10.1.Low.Z a0.Near)), (3, ii v10.1.High.Z)]) (cs := (L9_7 x27 x28 v10 a0)) (by rfl) (by kernel_rfl)) ?_
 refine RL_cons (OA ze77 H (fun w30 b29 (H : Sep ok w w30 [.blk b1 31 (L9_1 a0), .blk b3 50 (L9_2 a1), .blk b5 33 (L9_3 a2), .blk b7 56 L9_4, .blk b12 50 (L9_5 v10), .blk b24 77 (L9_7 x22 x23 v10 a0), .blk b29 77 L9_8] [RE.cells 0 (0) L9_0]) => ?_))
 refine RL_cons (OS 6 0 (L9_7 x27 x28 v10 a0) sz77 H (fun w31 (H : S9_2 ok w w31 b1 a0 b3 a1 b5 a2 b7 b12 v10 b24 x22 x23 b29 x27 x28) => ?_))
 refine W_seq ?_
 refine W_draw [.take 0, .take 1, .free 2, .free 3, .take 4, .free 6, .take 7, .take 9, .free 10, .free 11, .take 12, .free 14, .take 15, .free 17, .take 18, .free 19, .take 20, .run 5, .free 8, .run 13, .free 16, .run 21, .free 22, .free 23, .free 24, .free 25, .free 26, .free 27, .free 28] (fun wS => S9_2 ok w wS b1 a0 b3 a1 b5 a2 b7 b12 v10 b24 x22 x23 b29 x27 x28) [] [2, 3, 6, 8, 10, 11, 14, 16, 17, 19, 22, 23, 24, 25, 26, 27, 28] mixed0 (by kernel_rfl) (by kernel_rfl) (by kernel_rfl) (by rfl) (by exact H.drew) ?_
 obtain ⟨w32, hW⟩ : ∃ W : World, W = { w31 with drawn := w31.drawn + 1 } := ⟨_, rfl⟩
 rw [← hW]
 have H : S9_2 ok w w32 b1 a0 b3 a1 b5 a2 b7 b12 v10 b24 x22 x23 b29 x27 x28 := by rw [hW]; exact H.drew
 clear hW
 refine PT' (a := fun H => xA 0 (L9_7 x22 x23 v10 a0) ag77 (H.c 5)) (b := ?_)
 refine PT' (a := fun H => xA 0 (L9_7 x22 x23 v10 a0) ag77 (H.c 5)) (b := ?_)
 refine PF (a := xf fo50_0) (b := ?_)
 refine PF (a := xf fo27_0) (b := ?_)
 refine PT' (a := fun H => xl 0 (ii v10.1.Low.X) sc3 (H.c 4)) (b := ?_)
 refine PF (a := xf fo77_1) (b := ?_)
 refine PT' (a := fun H => xl 1 (ii x23) sc3 (H.c 5)) (b := ?_)
 refine PT' (a := fun H => xA 0 (L9_7 x22 x23 v10 a0) ag77 (H.c 5)) (b := ?_)
 refine PF (a := xf fo50_1) (b := ?_)
 refine PF (a := xf fo27_0) (b := ?_)
 refine PT' (a := fun H => xl 3 (ii v10.1.High.X) sc3 (H.c 4)) (b := ?_)
 refine PF (a := xf fo77_1) (b := ?_)
 refine PT' (a := fun H => xl 1 (ii x23) sc3 (H.c 5)) (b := ?_)
 refine PF (a := xf fo33_0) (b := ?_)
 refine PT' (a := fun H => xl 0 (ii a2.X0) sc3 (H.c 2)) (b := ?_)
 refine PF (a := xf fo33_2) (b := ?_)
 refine PT' (a := fun H => xl 2 (ii a2.X1) sc3 (H.c 2)) (b := ?_)
 obtain ⟨v34, hv33, hm⟩ := bind_some hm
 refine PU (a := OC (xc [.agg (L9_7 x22 x23 v10 a0).toArray, ii v10.1.Low.X, .bool false] (cf18 _ _)) (c18 okT K w32 (⟨x22, x23, (mx v10.1.Low.Z a0.Near), v10.1.High.Z⟩ : S_way) v10.1.Low.X false  v34 hv33) ?_)
 rintro e w35 ⟨rfl, H2⟩
 have H : S9_2 ok w w35 b1 a0 b3 a1 b5 a2 b7 b12 v10 b24 x22 x23 b29 x27 x28 := H.below H2.base
 clear H2
 refine ⟨_, rfl, H, ?_⟩
 show PR _ _ _ _ _ _ _ _
 obtain ⟨x36, ex36, qx36, ux36, hm⟩ := ck_some hm
 refine PF (a := xP ux36) (b := ?_)
 obtain ⟨v38, hv37, hm⟩ := bind_some hm
 refine PU (a := OC (xc [.agg (L9_7 x22 x23 v10 a0).toArray, ii v10.1.High.X, .bool true] (cf18 _ _)) (c18 okT K w35 (⟨x22, x23, (mx v10.1.Low.Z a0.Near), v10.1.High.Z⟩ : S_way) v10.1.High.X true  v38 hv37) ?_)
 rintro e w39 ⟨rfl, H2⟩
 have H : S9_2 ok w w39 b1 a0 b3 a1 b5 a2 b7 b12 v10 b24 x22 x23 b29 x27 x28 := H.below H2.base
 clear H2
 refine ⟨_, rfl, H, ?_⟩
 show PR _ _ _ _ _ _ _ _
 obtain ⟨x40, ex40, qx40, ux40, hm⟩ := ck_some hm
 refine PF (a := xP ux40) (b := ?_)
 obtain ⟨v42, hv41, hm⟩ := bind_some hm
 refine PU (a := OC (xc [.agg (L9_7 x22 x23 v10 a0).toArray, ii x36, ii x40, ii a2.X0, ii a2.X1] (cf17 _ _)) (c17 okT K w39 (⟨x22, x23, (mx v10.1.Low.Z a0.Near), v10.1.High.Z⟩ : S_way) x36 x40 a2.X0 a2.X1  v42 hv41) ?_)
 rintro e w43 ⟨rfl, H2⟩
 have H : S9_2 ok w w43 b1 a0 b3 a1 b5 a2 b7 b12 v10 b24 x22 x23 b29 x27 x28 := H.below H2.base
 clear H2
 refine ⟨_, rfl, H, ?_⟩
 show PR _ _ _ _ _ _ _ _
 refine PF (a := xm (tup [ii v42.1, ii v42.2.1, .bool v42.2.2])) (b := ?_)
 refine PF (a := xe (ii v42.1)) (b := ?_)
 refine PF (a := xe (ii v42.2.1)) (b := ?_)
 refine PF (a := xe (.bool v42.2.2)) (b := ?_)
 refine PF (a := xa (ii v42.1)) (b := ?_)
 refine PF (a := xa (ii v42.2.1)) (b := ?_)
 refine PF (a := xa (.bool v42.2.2)) (b := ?_)
 refine PR_nil ?_
 refine W_seq ?_
 have H : S9_3 ok w w43 b5 a2 b7 b12 v10 b29 x27 x28 a0 := (H.pickL [2, 3, 4, 6] (by decide))
 refine W_draw [.take 0, .free 1, .take 2, .take 3, .free 4, .free 5, .take 6, .free 9, .take 10, .take 11, .free 12, .free 13, .take 14, .free 17, .take 18, .free 19, .take 20, .run 7, .free 8, .run 15, .free 16, .run 21, .free 22, .free 23, .free 24, .free 25, .free 26, .free 27, .free 28] (fun wS => S9_3 ok w wS b5 a2 b7 b12 v10 b29 x27 x28 a0) [] [1, 4, 5, 8, 9, 12, 13, 16, 17, 19, 22, 23, 24, 25, 26, 27, 28] mixed0 (by kernel_rfl) (by kernel_rfl) (by kernel_rfl) (by rfl) (by exact H.drew) ?_
 obtain ⟨w44, hW⟩ : ∃ W : World, W = { w43 with drawn := w43.drawn + 1 } := ⟨_, rfl⟩
 rw [← hW]
 have H : S9_3 ok w w44 b5 a2 b7 b12 v10 b29 x27 x28 a0 := by rw [hW]; exact H.drew
 clear hW
 refine PT' (a := fun H => xA 0 (L9_7 x27 x28 v10 a0) ag77 (H.c 3)) (b := ?_)
 refine PF (a := xf fo77_1) (b := ?_)
 refine PT' (a := fun H => xl 1 (ii x28) sc3 (H.c 3)) (b := ?_)
 refine PT' (a := fun H => xA 0 (L9_7 x27 x28 v10 a0) ag77 (H.c 3)) (b := ?_)
 refine PF (a := xf fo50_1) (b := ?_)
 refine PF (a := xf fo27_1) (b := ?_)
 refine PT' (a := fun H => xl 4 (ii v10.1.High.Y) sc3 (H.c 2)) (b := ?_)
 refine PF (a := xf fo77_1) (b := ?_)
 refine PT' (a := fun H => xl 1 (ii x28) sc3 (H.c 3)) (b := ?_)
 refine PT' (a := fun H => xA 0 (L9_7 x27 x28 v10 a0) ag77 (H.c 3)) (b := ?_)
 refine PF (a := xf fo50_0) (b := ?_)
 refine PF (a := xf fo27_1) (b := ?_)
 refine PT' (a := fun H => xl 1 (ii v10.1.Low.Y) sc3 (H.c 2)) (b := ?_)
 refine PF (a := xf fo33_1) (b := ?_)
 refine PT' (a := fun H => xl 1 (ii a2.Y0) sc3 (H.c 0)) (b := ?_)
 refine PF (a := xf fo33_3) (b := ?_)
 refine PT' (a := fun H => xl 3 (ii a2.Y1) sc3 (H.c 0)) (b := ?_)
 obtain ⟨v46, hv45, hm⟩ := bind_some hm
 refine PU (a := OC (xc [.agg (L9_7 x27 x28 v10 a0).toArray, ii v10.1.High.Y, .bool true] (cf18 _ _)) (c18 okT K w44 (⟨x27, x28, (mx v10.1.Low.Z a0.Near), v10.1.High.Z⟩ : S_way) v10.1.High.Y true  v46 hv45) ?_)
 rintro e w47 ⟨rfl, H2⟩
 have H : S9_3 ok w w47 b5 a2 b7 b12 v10 b29 x27 x28 a0 := H.below H2.base
 clear H2
 refine ⟨_, rfl, H, ?_⟩
 show PR _ _ _ _ _ _ _ _
 obtain ⟨x48, ex48, qx48, ux48, hm⟩ := ck_some hm
 refine PF (a := xM ux48) (b := ?_)
 obtain ⟨v50, hv49, hm⟩ := bind_some hm
 refine PU (a := OC (xc [.agg (L9_7 x27 x28 v10 a0).toArray, ii v10.1.Low.Y, .bool false] (cf18 _ _)) (c18 okT K w47 (⟨x27, x28, (mx v10.1.Low.Z a0.Near), v10.1.High.Z⟩ : S_way) v10.1.Low.Y false  v50 hv49) ?_)
 rintro e w51 ⟨rfl, H2⟩
 have H : S9_3 ok w w51 b5 a2 b7 b12 v10 b29 x27 x28 a0 := H.below H2.base
 clear H2
 refine ⟨_, rfl, H, ?_⟩
 show PR _ _ _ _ _ _ _ _
 obtain ⟨x52, ex52, qx52, ux52, hm⟩ := ck_some hm
 refine PF (a := xM ux52) (b := ?_)
 obtain ⟨v54, hv53, hm⟩ := bind_some hm
 refine PU (a := OC (xc [.agg (L9_7 x27 x28 v10 a0).toArray, ii x48, ii x52, ii a2.Y0, ii a2.Y1] (cf17 _ _)) (c17 okT K w51 (⟨x27, x28, (mx v10.1.Low.Z a0.Near), v10.1.High.Z⟩ : S_way) x48 x52 a2.Y0 a2.Y1  v54 hv53) ?_)
 rintro e w55 ⟨rfl, H2⟩
 have H : S9_3 ok w w55 b5 a2 b7 b12 v10 b29 x27 x28 a0 := H.below H2.base
 clear H2
 refine ⟨_, rfl, H, ?_⟩
 show PR _ _ _ _ _ _ _ _
 refine PF (a := xm (tup [ii v54.1, ii v54.2.1, .bool v54.2.2])) (b := ?_)
 refine PF (a := xe (ii v54.1)) (b := ?_)
 refine PF (a := xe (ii v54.2.1)) (b := ?_)
 refine PF (a := xe (.bool v54.2.2)) (b := ?_)
 refine PF (a := xa (ii v54.1)) (b := ?_)
 refine PF (a := xa (ii v54.2.1)) (b := ?_)
 refine PF (a := xa (.bool v54.2.2)) (b := ?_)
 refine PR_nil ?_
 refine W_seq ?_
 refine W_seq ?_
 have H : S9_1 ok w w55 b7 := (H.pickL [1] (by decide))
 refine W_region ?_
 refine RL_p (xm (.bool v42.2.2)) ?_
 refine RL_p (x_not (by rfl)) ?_
 refine RL_p (xm (.bool (!v42.2.2))) ?_
 obtain ⟨b56, hmS, hm⟩ := bind_some hm
 refine RL_cut 3 (fun r' w' => Agr [(126, .bool b56), (6, pp b7), (11, ii (mx v10.1.Low.Z a0.Near)), (15, ii v42.1), (16, ii v42.2.1), (18, ii v54.1), (19, ii v54.2.1)] r' ∧ S9_1 ok w w' b7) ?_ ?_
 ·cases hbS : (!v42.2.2)
  ·have hm := cond_f hbS hmS
   refine RQ (xm (.bool v54.2.2)) ?_
   refine RQ (x_not (by rfl)) ?_
   refine RL_p (xF (.bool (!v54.2.2))) ?_
   refine RL_nil ?_
   exact ⟨⟨congrArg Value.bool (Option.some.inj hm), rfl, rfl, rfl, rfl, rfl, rfl, trivial⟩, H⟩
  have hm := cond_t hbS hmS
  refine RO ?_
  refine RO ?_
  refine RL_p (xT (.bool true)) ?_
  refine RL_nil ?_
  exact ⟨⟨congrArg Value.bool (Option.some.inj hm), rfl, rfl, rfl, rfl, rfl, rfl, trivial⟩, H⟩
 rintro r' w' ⟨hA, H⟩
 obtain ⟨r57, rfl⟩ := regen _ hA; clear hA
 obtain ⟨w58, rfl⟩ := wld w'
 show RL _ _ _ _ _ _ _
 refine Wc (fun hb => ?_) (fun hb => ?_)
 ·have hm := cond_t hb hm
  refine Wr ?_
  refine RL_p (xA 0 L9_4 ag56 (H.c 0)) ?_
  refine RL_cons (OS 0 0 L9_4 sz56 H (fun w59 (H : S9_1 ok w w59 b7) => ?_))
  refine RL_p (xa (.bool false)) ?_
  refine RL_p (xa (ii 0)) ?_
  refine W_ret ?_
  obtain rfl := Option.some.inj hm
  exact ⟨[.agg L9_4.toArray, .bool false, ii 0], (.cellA (by rfl) ag56 (H.c 0) (by rfl) (.tmp (by rfl) (.tmp (by rfl) rfl))), rfl, H.none_⟩
 have hm := cond_f hb hm
 refine W_skip ?_
 refine Wr ?_
 refine RL_p (xm (ii v42.1)) ?_
 refine RL_p (xm (ii v54.1)) ?_
 refine RL_p (xm (ii v42.2.1)) ?_
 refine RL_p (xm (ii v54.2.1)) ?_
 refine RL_p (x_build (vs := [(0, ii v42.1), (1, ii v54.1), (2, ii v42.2.1), (3, ii v54.2.1)]) (cs := (L9_9 v42 v54)) (by rfl) (by kernel_rfl)) ?_
 refine RL_p (xm (ii (mx v10.1.Low.Z a0.Near))) ?_
 obtain ⟨nx60, hm⟩ := nz_some hm
 obtain ⟨x60, ex60, qx60, ux60, hm⟩ := ck_some hm
 refine RL_p (x_quo (by rfl) (by rfl) nx60 ux60) ?_
 refine RL_p (x_build (vs := [(0, .agg (L9_9 v42 v54).toArray), (1, ii x60)]) (cs := (L9_10 v42 v54 x60)) (by rfl) (by kernel_rfl)) ?_
 refine RL_cons (OS 0 0 (L9_10 v42 v54 x60) sz56 H (fun w61 (H : Sep ok w w61 [.blk b7 56 (L9_10 v42 v54 x60)] [RE.cells 0 (0) L9_0]) => ?_))
 refine RL_p (xa (.bool true)) ?_
 refine RL_p (xa (ii 0)) ?_
 refine W_ret ?_
 obtain rfl := Option.some.inj hm
 exact ⟨[.agg (L9_10 v42 v54 x60).toArray, .bool true, ii 0], (.cellA (by rfl) ag56 (H.c 0) (by rfl) (.tmp (by rfl) (.tmp (by rfl) rfl))), rfl, H.none_⟩
end Go.Proofs.YtobkigllalbkiaaV.D

/- A plain Lean function that answers as the Go function does (none: not told), and the proof that a call answers so. Written by program. -/
set_option linter.unusedVariables false
set_option maxRecDepth 100000
set_option maxHeartbeats 4000000
namespace Go.Proofs.YtobkigllalbkiaaV.D
open Go.RowKit Go.Proofs.YtobkigllalbkiaaV
abbrev L3_0  : List Value := [ii (-4096), ii (-4096), ii (-4096), ii 4096, ii 4096, ii 4096]
abbrev L3_1 (q0 : Option Addr) (q1 : S_Show) (q2 : Nat) (q3 : Option Addr) (q4 : Nat) : List Value := [.slice q0 q1.Items.length q2, .slice q3 q1.Textures.length q4]
abbrev L3_2 (q0 : S_Camera) : List Value := [ii q0.Pos.X, ii q0.Pos.Y, ii q0.Pos.Z, ii q0.M.a0.a0, ii q0.M.a0.a1, ii q0.M.a0.a2, ii q0.M.a1.a0, ii q0.M.a1.a1, ii q0.M.a1.a2, ii q0.M.a2.a0, ii q0.M.a2.a1, ii q0.M.a2.a2, ii q0.Focal, ii q0.Near, ii q0.W, ii q0.H]
abbrev L3_3 (q0 : S_Rect) : List Value := [ii q0.X0, ii q0.Y0, ii q0.X1, ii q0.Y1]
abbrev L3_4 (q0 : Option Addr) (q1 : S_Item) (q2 : Nat) (q3 : Option Addr) (q4 : Nat) (q5 : Option Addr) (q6 : Nat) : List Value := [.slice q0 q1.Verts.length q2, .slice q3 q1.UV.length q4, .slice q5 q1.Tris.length q6, .int .u8 q1.Look.Color.a0, .int .u8 q1.Look.Color.a1, .int .u8 q1.Look.Color.a2, .int .u8 q1.Look.Color.a3, ii q1.Look.Texture, .int .u8 q1.Look.Cull, ii q1.Look.Bias, .bool q1.Look.Blend, ii q1.Look.Bin, ii q1.Box.Low.X, ii q1.Box.Low.Y, ii q1.Box.Low.Z, ii q1.Box.High.X, ii q1.Box.High.Y, ii q1.Box.High.Z]
abbrev L3_5  : List Value := [.slice none 0 0, .slice none 0 0, .slice none 0 0, .int .u8 0, .int .u8 0, .int .u8 0, .int .u8 0, ii 0, .int .u8 0, ii 0, .bool false, ii 0, ii 0, ii 0, ii 0, ii 0, ii 0, ii 0]
abbrev L3_6 (q0 : S_Item) : List Value := [ii q0.Box.Low.X, ii q0.Box.Low.Y, ii q0.Box.Low.Z, ii q0.Box.High.X, ii q0.Box.High.Y, ii q0.Box.High.Z]
abbrev L3_7 (q0 : S_Shade × Bool × Int) : List Value := [ii q0.1.Rect.X0, ii q0.1.Rect.Y0, ii q0.1.Rect.X1, ii q0.1.Rect.Y1, ii q0.1.D]
abbrev L3_8  : List Value := [ii 0, ii 0, ii 0, ii 0, ii 0]
abbrev L3_9 (q0 : S_Shade × Bool × Int) : List Value := [ii q0.1.Rect.X0, ii q0.1.Rect.Y0, ii q0.1.Rect.X1, ii q0.1.Rect.Y1]
def m3_l1b (K : Nat) (a0 : S_Show) (a1 : S_Camera) (a2 : S_Rect) (a3 : Int) (a4 : Int) (v16 : Bool) (v25 : (List S_Frag) × Int) (rec1 : Int → Option (Bool)) (y14_1 : Int) : Option (Bool) :=
 (bif (decide (y14_1 < (v25.1.length : Int))) then (idx v25.1 y14_1 fun el44 => (idx a0.Items el44.Item fun el51 => ((m9 K a1 el51.Box a2).bind fun v81 => ((bif (v81.2.2 != 0) then some true else some (!v81.2.1)).bind fun b87 => ((bif b87 then some true else ((m7 K v81.1.Rect a3 a4).bind fun v92 => some (!v92))).bind fun b90 => ((bif b90 then some true else (idx v25.1 y14_1 fun el97 => (ck (el97.D - el51.Look.Bias) fun x104 => some (decide (v81.1.D < x104))))).bind fun b96 => (bif b96 then some false else (ck (y14_1 + 1) fun x107 => (rec1 x107))))))))) else some v16)
def m3_l1 (K : Nat) (a0 : S_Show) (a1 : S_Camera) (a2 : S_Rect) (a3 : Int) (a4 : Int) (v16 : Bool) (v25 : (List S_Frag) × Int) : Nat → Int → Option (Bool)
 | 0 => fun _ => none
 | k + 1 => m3_l1b K a0 a1 a2 a3 a4 v16 v25 (m3_l1 K a0 a1 a2 a3 a4 v16 v25 k)
def m3 (K : Nat) (a0 : S_Show) (a1 : S_Camera) (a2 : S_Rect) (a3 : Int) (a4 : Int) : Option (Bool) :=
 ((m4 K ).bind fun v16 => ((bif (!v16) then some true else ((m5 K a0).bind fun v20 => some v20)).bind fun b18 => (bif b18 then some v16 else ((m6 K a0 a1 a3 a4).bind fun v25 => ((bif (v25.2 != 0) then some true else ((m7 K a2 a3 a4).bind fun v32 => some (!v32))).bind fun b30 => ((bif b30 then some true else ((m8 K a1 a2).bind fun v38 => some (v38 != 0))).bind fun b36 => (bif b36 then some v16 else m3_l1 K a0 a1 a2 a3 a4 v16 v25 K 0)))))))
abbrev S3_0 (q0 : Okp) (q1 q2 : World) (q3 : Nat) (q4 : Option Addr) (q5 : S_Show) (q6 : Nat) (q7 : Option Addr) (q8 q9 : Nat) (q10 : S_Camera) (q11 : Nat) (q12 : S_Rect) : Prop := Sep q0 q1 q2 [.blk q3 25 (L3_1 q4 q5 q6 q7 q8), .blk q9 31 (L3_2 q10), .blk q11 33 (L3_3 q12)] [RE.rd k_Item q4 q6 q5.Items, RE.rd k_Texture q7 q8 q5.Textures, RE.cells 0 (0) L3_0]
abbrev S3_1 (q0 : Okp) (q1 q2 : World) (q3 : Nat) (q4 : Option Addr) (q5 : S_Show) (q6 : Nat) (q7 : Option Addr) (q8 q9 : Nat) (q10 : S_Camera) (q11 : Nat) (q12 : S_Rect) (q13 : Option Addr) (q14 : Nat) (q15 : (List S_Frag) × Int) : Prop := Sep q0 q1 q2 [.blk q3 25 (L3_1 q4 q5 q6 q7 q8), .blk q9 31 (L3_2 q10), .blk q11 33 (L3_3 q12)] [RE.rd k_Item q4 q6 q5.Items, RE.rd k_Texture q7 q8 q5.Textures, RE.cells 0 (0) L3_0, RE.rd k_Frag q13 q14 q15.1]
abbrev S3_2 (q0 : Okp) (q1 q2 : World) (q3 : Nat) (q4 : Option Addr) (q5 : S_Show) (q6 : Nat) (q7 : Option Addr) (q8 q9 : Nat) (q10 : S_Camera) (q11 : Nat) (q12 : S_Rect) (q13 : Option Addr) (q14 : Nat) (q15 : (List S_Frag) × Int) (q16 q17 : Nat) (q18 : S_Frag) (q19 : Option Addr) (q20 : S_Item) (q21 : Nat) (q22 : Option Addr) (q23 : Nat) (q24 : Option Addr) (q25 : Nat) : Prop := Sep q0 q1 q2 [.blk q3 25 (L3_1 q4 q5 q6 q7 q8), .blk q9 31 (L3_2 q10), .blk q11 33 (L3_3 q12)] [RE.rd k_Item q4 q6 q5.Items, RE.rd k_Texture q7 q8 q5.Textures, RE.cells 0 (0) L3_0, RE.rd k_Frag q13 q14 q15.1, RE.cells q16 (q17 + (q18.Item).toNat * 18) (L3_4 q19 q20 q21 q22 q23 q24 q25), RE.rd k_Vec q19 q21 q20.Verts, RE.rd k_Ar2_Int q22 q23 q20.UV, RE.rd k_Ar3_Int q24 q25 q20.Tris]
abbrev S3_3 (q0 : Okp) (q1 q2 : World) (q3 : Nat) (q4 : Option Addr) (q5 : S_Show) (q6 : Nat) (q7 : Option Addr) (q8 q9 : Nat) (q10 : S_Camera) (q11 : Nat) (q12 : S_Rect) (q13 : Nat) (q14 : Option Addr) (q15 : S_Item) (q16 : Nat) (q17 : Option Addr) (q18 : Nat) (q19 : Option Addr) (q20 q21 : Nat) (q22 : S_Shade × Bool × Int) (q23 : Option Addr) (q24 : Nat) (q25 : (List S_Frag) × Int) (q26 q27 : Nat) (q28 : S_Frag) : Prop := Sep q0 q1 q2 [.blk q3 25 (L3_1 q4 q5 q6 q7 q8), .blk q9 31 (L3_2 q10), .blk q11 33 (L3_3 q12), .blk q13 52 (L3_4 q14 q15 q16 q17 q18 q19 q20), .blk q21 56 (L3_7 q22)] [RE.rd k_Item q4 q6 q5.Items, RE.rd k_Texture q7 q8 q5.Textures, RE.cells 0 (0) L3_0, RE.rd k_Frag q23 q24 q25.1, RE.cells q26 (q27 + (q28.Item).toNat * 18) (L3_4 q14 q15 q16 q17 q18 q19 q20), RE.rd k_Vec q14 q16 q15.Verts, RE.rd k_Ar2_Int q17 q18 q15.UV, RE.rd k_Ar3_Int q19 q20 q15.Tris]
theorem c3 (ok : Okp) (K : Nat) (w : World) (a0 : S_Show) (A1 : Option Addr) (cp2 : Nat) (A5 : Option Addr) (cp6 : Nat) (a1 : S_Camera) (a2 : S_Rect) (a3 : Int) (a4 : Int) (hR3 : Rd k_Item w ok A1 cp2 a0.Items) (hR7 : Rd k_Texture w ok A5 cp6 a0.Textures) (hG : (RE.cells 0 (0) L3_0).rel w ok) (res : Bool) (hm : m3 K a0 a1 a2 a3 a4 = some res) :
  Calls Tryd.prog 3 #[.agg (L3_1 A1 a0 cp2 A5 cp6).toArray, .agg (L3_2 a1).toArray, .agg (L3_3 a2).toArray, ii a3, ii a4] w (fun e w' => e = .returned (tup [.bool res]) ∧ Sep ok w w' [] []) := by
 refine calls_W (args := [.agg (L3_1 A1 a0 cp2 A5 cp6).toArray, .agg (L3_2 a1).toArray, .agg (L3_3 a2).toArray, ii a3, ii a4]) Tryd.func3 rfl Tryd.ntmps3 Tryd.results3 rfl fun r hr => ?_
 obtain ⟨r1, rfl⟩ := regen (r := r) [(0, .agg (L3_1 A1 a0 cp2 A5 cp6).toArray), (1, .agg (L3_2 a1).toArray), (2, .agg (L3_3 a2).toArray), (3, ii a3), (4, ii a4)] ⟨hr 0 _ rfl, hr 1 _ rfl, hr 2 _ rfl, hr 3 _ rfl, hr 4 _ rfl, trivial⟩
 have H : Sep ok w w [] [RE.rd k_Item A1 cp2 a0.Items, RE.rd k_Texture A5 cp6 a0.Textures, RE.cells 0 (0) L3_0] := Sep.arg (Sep.arg (Sep.arg (Sep.start ok w) (re := RE.rd k_Item A1 cp2 a0.Items) rfl rfl hR3) (re := RE.rd k_Texture A5 cp6 a0.Textures) rfl rfl hR7) (re := RE.cells 0 (0) L3_0) rfl rfl hG
 unfold m3 at hm
 refine Wr ?_
 refine RL_cons (OB H (fun w10 b9 (H : Sep ok w w10 [.blk b9 25 (L3_1 A1 a0 cp2 A5 cp6)] [RE.rd k_Item A1 cp2 a0.Items, RE.rd k_Texture A5 cp6 a0.Textures, RE.cells 0 (0) L3_0]) => ?_))
 refine RL_cons (OB H (fun w12 b11 (H : Sep ok w w12 [.blk b9 25 (L3_1 A1 a0 cp2 A5 cp6), .blk b11 31 (L3_2 a1)] [RE.rd k_Item A1 cp2 a0.Items, RE.rd k_Texture A5 cp6 a0.Textures, RE.cells 0 (0) L3_0]) => ?_))
 refine RL_cons (OB H (fun w14 b13 (H : S3_0 ok w w14 b9 A1 a0 cp2 A5 cp6 b11 a1 b13 a2) => ?_))
 refine RL_p (xa (.bool false)) ?_
 refine Wr ?_
 obtain ⟨v16, hv15, hm⟩ := bind_some hm
 refine RL_cons (OC (xc [] (cf4 _ _)) (c4 okT K w14   v16 hv15) ?_)
 rintro e w17 ⟨rfl, H2⟩
 have H : S3_0 ok w w17 b9 A1 a0 cp2 A5 cp6 b11 a1 b13 a2 := H.below H2.base
 clear H2
 refine ⟨_, rfl, ?_⟩
 refine RL_p (xa (.bool v16)) ?_
 refine W_seq ?_
 refine Wr ?_
 refine RL_p (xm (.bool v16)) ?_
 refine RL_p (x_not (by rfl)) ?_
 refine RL_p (xm (.bool (!v16))) ?_
 obtain ⟨b18, hmS, hm⟩ := bind_some hm
 refine RL_cut 3 (fun r' w' => Agr [(25, .bool b18), (3, ii a3), (4, ii a4), (5, pp b9), (6, pp b11), (7, pp b13), (11, .bool v16)] r' ∧ S3_0 ok w w' b9 A1 a0 cp2 A5 cp6 b11 a1 b13 a2) ?_ ?_
 ·cases hbS : (!v16)
  ·have hm := cond_f hbS hmS
   refine RQ (xA 0 (L3_1 A1 a0 cp2 A5 cp6) ag25 (H.c 0)) ?_
   obtain ⟨v20, hv19, hm⟩ := bind_some hm
   refine RL_cons (O_call (by exact wn1 rfl rfl rfl rfl) (by rfl) (by rfl) (xc [.agg (L3_1 A1 a0 cp2 A5 cp6).toArray] (cf5 _ _)) (c5 okT K w17 a0 A1 cp2 A5 cp6 (H.rd (i := 0) (by rfl)).any (H.rd (i := 1) (by rfl)).any v20 hv19) ?_)
   rintro e w21 ⟨rfl, H2⟩
   have H : S3_0 ok w w21 b9 A1 a0 cp2 A5 cp6 b11 a1 b13 a2 := H.below H2.base
   clear H2
   refine ⟨_, rfl, ?_⟩
   refine RL_p (xF (.bool v20)) ?_
   refine RL_nil ?_
   exact ⟨⟨congrArg Value.bool (Option.some.inj hm), rfl, rfl, rfl, rfl, rfl, rfl, trivial⟩, H⟩
  have hm := cond_t hbS hmS
  refine RO ?_
  refine RO ?_
  refine RL_p (xT (.bool true)) ?_
  refine RL_nil ?_
  exact ⟨⟨congrArg Value.bool (Option.some.inj hm), rfl, rfl, rfl, rfl, rfl, rfl, trivial⟩, H⟩
 rintro r' w' ⟨hA, H⟩
 obtain ⟨r22, rfl⟩ := regen _ hA; clear hA
 obtain ⟨w23, rfl⟩ := wld w'
 show RL _ _ _ _ _ _ _
 refine Wc (fun hb => ?_) (fun hb => ?_)
 ·have hm := cond_t hb hm
  refine W_seq ?_
  have H : Sep ok w w23 [] [RE.cells 0 (0) L3_0] := ((H.takeL 0).pick [2])
  refine W_region ?_
  refine RL_p (xm (.bool v16)) ?_
  refine RL_p (xa (.bool v16)) ?_
  refine W_ret ?_
  obtain rfl := Option.some.inj hm
  exact ⟨[.bool v16], (.tmp (by rfl) rfl), rfl, H.none_⟩
 have hm := cond_f hb hm
 refine W_skip ?_
 refine Wr ?_
 refine RL_p (xA 0 (L3_1 A1 a0 cp2 A5 cp6) ag25 (H.c 0)) ?_
 refine RL_p (xA 0 (L3_2 a1) ag31 (H.c 1)) ?_
 refine RL_p (xm (ii a3)) ?_
 refine RL_p (xm (ii a4)) ?_
 obtain ⟨v25, hv24, hm⟩ := bind_some hm
 refine RL_cons (OC (xc [.agg (L3_1 A1 a0 cp2 A5 cp6).toArray, .agg (L3_2 a1).toArray, ii a3, ii a4] (cf6 _ _)) (c6 (okS ok w [.blk b9 25 (L3_1 A1 a0 cp2 A5 cp6), .blk b11 31 (L3_2 a1), .blk b13 33 (L3_3 a2)]) K w23 a0 A1 cp2 A5 cp6 a1 a3 a4 (H.rd (i := 0) (by rfl)) (H.rd (i := 1) (by rfl)) v25 hv24) ?_)
 rintro e w26 ⟨A27, cp28, rfl, H2⟩
 have H : S3_1 ok w w26 b9 A1 a0 cp2 A5 cp6 b11 a1 b13 a2 A27 cp28 v25 := H.call H2
 clear H2
 refine ⟨_, rfl, ?_⟩
 refine RL_p (xm (tup [.slice A27 v25.1.length cp28, ii v25.2])) ?_
 refine RL_p (xe (.slice A27 v25.1.length cp28)) ?_
 refine RL_p (xe (ii v25.2)) ?_
 refine RL_p (xa (.slice A27 v25.1.length cp28)) ?_
 refine RL_p (xa (ii v25.2)) ?_
 refine W_seq ?_
 refine Wr ?_
 refine RL_p (xm (ii v25.2)) ?_
 refine RL_p (xN) ?_
 refine RL_p (xm (.bool (v25.2 != 0))) ?_
 obtain ⟨b30, hmS, hm⟩ := bind_some hm
 refine RL_cut 6 (fun r' w' => Agr [(43, .bool b30), (3, ii a3), (4, ii a4), (5, pp b9), (6, pp b11), (7, pp b13), (11, .bool v16), (12, .slice A27 v25.1.length cp28)] r' ∧ S3_1 ok w w' b9 A1 a0 cp2 A5 cp6 b11 a1 b13 a2 A27 cp28 v25) ?_ ?_
 ·cases hbS : (v25.2 != 0)
  ·have hm := cond_f hbS hmS
   refine RQ (xA 0 (L3_3 a2) ag33 (H.c 2)) ?_
   refine RQ (xm (ii a3)) ?_
   refine RQ (xm (ii a4)) ?_
   obtain ⟨v32, hv31, hm⟩ := bind_some hm
   refine RL_cons (O_call (by exact wn1 rfl rfl rfl rfl) (by rfl) (by rfl) (xc [.agg (L3_3 a2).toArray, ii a3, ii a4] (cf7 _ _)) (c7 okT K w26 a2 a3 a4  v32 hv31) ?_)
   rintro e w33 ⟨rfl, H2⟩
   have H : S3_1 ok w w33 b9 A1 a0 cp2 A5 cp6 b11 a1 b13 a2 A27 cp28 v25 := H.below H2.base
   clear H2
   refine ⟨_, rfl, ?_⟩
   refine RQ (x_not (by rfl)) ?_
   refine RL_p (xF (.bool (!v32))) ?_
   refine RL_nil ?_
   exact ⟨⟨congrArg Value.bool (Option.some.inj hm), rfl, rfl, rfl, rfl, rfl, rfl, rfl, trivial⟩, H⟩
  have hm := cond_t hbS hmS
  refine RO ?_
  refine RO ?_
  refine RO ?_
  refine RO ?_
  refine RO ?_
  refine RL_p (xT (.bool true)) ?_
  refine RL_nil ?_
  exact ⟨⟨congrArg Value.bool (Option.some.inj hm), rfl, rfl, rfl, rfl, rfl, rfl, rfl, trivial⟩, H⟩
 rintro r' w' ⟨hA, H⟩
 obtain ⟨r34, rfl⟩ := regen _ hA; clear hA
 obtain ⟨w35, rfl⟩ := wld w'
 refine RL_p (xm (.bool b30)) ?_
 obtain ⟨b36, hmS, hm⟩ := bind_some hm
 refine RL_cut 5 (fun r' w' => Agr [(49, .bool b36), (3, ii a3), (4, ii a4), (5, pp b9), (6, pp b11), (7, pp b13), (11, .bool v16), (12, .slice A27 v25.1.length cp28)] r' ∧ S3_1 ok w w' b9 A1 a0 cp2 A5 cp6 b11 a1 b13 a2 A27 cp28 v25) ?_ ?_
 ·cases hbS : b30
  ·have hm := cond_f hbS hmS
   refine RQ (xA 0 (L3_2 a1) ag31 (H.c 1)) ?_
   refine RQ (xA 0 (L3_3 a2) ag33 (H.c 2)) ?_
   obtain ⟨v38, hv37, hm⟩ := bind_some hm
   refine RL_cons (O_call (by exact wn1 rfl rfl rfl rfl) (by rfl) (by rfl) (xc [.agg (L3_2 a1).toArray, .agg (L3_3 a2).toArray] (cf8 _ _)) (c8 okT K w35 a1 a2  v38 hv37) ?_)
   rintro e w39 ⟨rfl, H2⟩
   have H : S3_1 ok w w39 b9 A1 a0 cp2 A5 cp6 b11 a1 b13 a2 A27 cp28 v25 := H.below H2.base
   clear H2
   refine ⟨_, rfl, ?_⟩
   refine RQ (xN) ?_
   refine RL_p (xF (.bool (v38 != 0))) ?_
   refine RL_nil ?_
   exact ⟨⟨congrArg Value.bool (Option.some.inj hm), rfl, rfl, rfl, rfl, rfl, rfl, rfl, trivial⟩, H⟩
  have hm := cond_t hbS hmS
  refine RO ?_
  refine RO ?_
  refine RO ?_
  refine RO ?_
  refine RL_p (xT (.bool true)) ?_
  refine RL_nil ?_
  exact ⟨⟨congrArg Value.bool (Option.some.inj hm), rfl, rfl, rfl, rfl, rfl, rfl, rfl, trivial⟩, H⟩
 rintro r' w' ⟨hA, H⟩
 obtain ⟨r40, rfl⟩ := regen _ hA; clear hA
 obtain ⟨w41, rfl⟩ := wld w'
 show RL _ _ _ _ _ _ _
 refine Wc (fun hb => ?_) (fun hb => ?_)
 ·have hm := cond_t hb hm
  refine W_seq ?_
  have H : Sep ok w w41 [] [RE.cells 0 (0) L3_0] := ((H.takeL 0).pick [2])
  refine W_region ?_
  refine RL_p (xm (.bool v16)) ?_
  refine RL_p (xa (.bool v16)) ?_
  refine W_ret ?_
  obtain rfl := Option.some.inj hm
  exact ⟨[.bool v16], (.tmp (by rfl) rfl), rfl, H.none_⟩
 have hm := cond_f hb hm
 refine W_skip ?_
 refine W_seq ?_
 refine Wr ?_
 refine RL_p (xa (ii 0)) ?_
 refine W_block ?_
 refine W_loop (fun k1 r' w' => ∃ (y14_1 : Int), m3_l1 K a0 a1 a2 a3 a4 v16 v25 k1 y14_1 = some res ∧ Agr [(3, ii a3), (4, ii a4), (5, pp b9), (6, pp b11), (7, pp b13), (11, .bool v16), (12, .slice A27 v25.1.length cp28), (14, ii y14_1)] r' ∧ S3_1 ok w w' b9 A1 a0 cp2 A5 cp6 b11 a1 b13 a2 A27 cp28 v25) K ?_ ?_
 ·exact ⟨0, hm, ⟨rfl, rfl, rfl, rfl, rfl, rfl, rfl, rfl, trivial⟩, H⟩
 rintro k1 r' w' ⟨y14_1, hm, hA, H⟩
 obtain ⟨r42, rfl⟩ := regen _ hA; clear hA
 obtain ⟨w43, rfl⟩ := wld w'
 cases k1 with
 | zero => exact (none_some hm).elim
 | succ k1 =>
  have hm : m3_l1b K a0 a1 a2 a3 a4 v16 v25 (m3_l1 K a0 a1 a2 a3 a4 v16 v25 k1) y14_1 = some res := hm
  unfold m3_l1b at hm
  obtain ⟨rec1, hrec1⟩ : ∃ f, m3_l1 K a0 a1 a2 a3 a4 v16 v25 k1 = f := ⟨_, rfl⟩
  rw [hrec1] at hm
  refine W_seq ?_
  refine Wr ?_
  refine RL_p (xm (ii y14_1)) ?_
  refine RL_p (xm (.slice A27 v25.1.length cp28)) ?_
  refine RL_p (x_len sl36 (by rfl)) ?_
  refine RL_p (xL) ?_
  refine Wc (fun hb => ?_) (fun hb => ?_)
  ·have hm := cond_t hb hm
   refine W_skip ?_
   refine W_seq ?_
   refine W_block ?_
   refine W_seq ?_
   obtain ⟨el44, h45, h46, he47, hm⟩ := idx_some hm
   obtain ⟨g49, o50, hA48⟩ := (H.rd (i := 3) (by rfl)).addr he47
   obtain ⟨el51, h52, h53, he54, hm⟩ := idx_some hm
   obtain ⟨g56, o57, hA55⟩ := (H.rd (i := 0) (by rfl)).addr he54
   obtain ⟨cs58, hk59, hat60, hg_cs58⟩ := (H.rd (i := 0) (by rfl)).openAt hA55 he54
   obtain ⟨A63, cp64, A66, cp67, A69, cp70, rfl, hR72, hR73, hR74⟩ := hk59
   have H : Sep ok w w43 [.blk b9 25 (L3_1 A1 a0 cp2 A5 cp6), .blk b11 31 (L3_2 a1), .blk b13 33 (L3_3 a2)] [RE.rd k_Item A1 cp2 a0.Items, RE.rd k_Texture A5 cp6 a0.Textures, RE.cells 0 (0) L3_0, RE.rd k_Frag A27 cp28 v25.1, RE.cells g56 (o57 + (el44.Item).toNat * 18) (L3_4 A63 el51 cp64 A66 cp67 A69 cp70)] := Sep.also H (re := RE.cells g56 (o57 + (el44.Item).toNat * 18) (L3_4 A63 el51 cp64 A66 cp67 A69 cp70)) ⟨hg_cs58, hat60⟩
   have H : Sep ok w w43 [.blk b9 25 (L3_1 A1 a0 cp2 A5 cp6), .blk b11 31 (L3_2 a1), .blk b13 33 (L3_3 a2)] [RE.rd k_Item A1 cp2 a0.Items, RE.rd k_Texture A5 cp6 a0.Textures, RE.cells 0 (0) L3_0, RE.rd k_Frag A27 cp28 v25.1, RE.cells g56 (o57 + (el44.Item).toNat * 18) (L3_4 A63 el51 cp64 A66 cp67 A69 cp70), RE.rd k_Vec A63 cp64 el51.Verts] := Sep.also H (re := RE.rd k_Vec A63 cp64 el51.Verts) hR72
   have H : Sep ok w w43 [.blk b9 25 (L3_1 A1 a0 cp2 A5 cp6), .blk b11 31 (L3_2 a1), .blk b13 33 (L3_3 a2)] [RE.rd k_Item A1 cp2 a0.Items, RE.rd k_Texture A5 cp6 a0.Textures, RE.cells 0 (0) L3_0, RE.rd k_Frag A27 cp28 v25.1, RE.cells g56 (o57 + (el44.Item).toNat * 18) (L3_4 A63 el51 cp64 A66 cp67 A69 cp70), RE.rd k_Vec A63 cp64 el51.Verts, RE.rd k_Ar2_Int A66 cp67 el51.UV] := Sep.also H (re := RE.rd k_Ar2_Int A66 cp67 el51.UV) hR73
   have H : S3_2 ok w w43 b9 A1 a0 cp2 A5 cp6 b11 a1 b13 a2 A27 cp28 v25 g56 o57 el44 A63 el51 cp64 A66 cp67 A69 cp70 := Sep.also H (re := RE.rd k_Ar3_Int A69 cp70 el51.Tris) hR74
   refine W_draw [.free 0, .take 1, .free 2, .free 3, .free 4, .free 5, .take 6, .free 7, .take 8, .run 9, .tail 10] (fun wS => S3_2 ok w wS b9 A1 a0 cp2 A5 cp6 b11 a1 b13 a2 A27 cp28 v25 g56 o57 el44 A63 el51 cp64 A66 cp67 A69 cp70) [10] [0, 2, 3, 4, 5, 7] mixed0 (by kernel_rfl) (by kernel_rfl) (by kernel_rfl) (by rfl) (by exact H.drew) ?_
   obtain ⟨w76, hW⟩ : ∃ W : World, W = { w43 with drawn := w43.drawn + 1 } := ⟨_, rfl⟩
   rw [← hW]
   have H : S3_2 ok w w76 b9 A1 a0 cp2 A5 cp6 b11 a1 b13 a2 A27 cp28 v25 g56 o57 el44 A63 el51 cp64 A66 cp67 A69 cp70 := by rw [hW]; exact H.drew
   clear hW
   refine PF (a := xf fo25_0) (b := ?_)
   refine PT' (a := fun H => xl 0 (.slice A1 a0.Items.length cp2) sc22 (H.c 0)) (b := ?_)
   refine PF (a := xm (.slice A27 v25.1.length cp28)) (b := ?_)
   refine PF (a := xm (ii y14_1)) (b := ?_)
   refine PF (a := x_indexAddr sl36 sz54 (by rfl) (by rfl) hA48 h45 h46) (b := ?_)
   refine PF (a := xf fo54_1) (b := ?_)
   refine PT' (a := fun H => xl 1 (ii el44.Item) sc3 (Rd.flatAt (n := 6) (H.rd (i := 3) (by rfl)) hA48 he47)) (b := ?_)
   refine PF (a := x_indexAddr sl22 sz52 (by rfl) (by rfl) hA55 h52 h53) (b := ?_)
   refine PT' (a := fun H => xA 0 (L3_4 A63 el51 cp64 A66 cp67 A69 cp70) ag52 (H.cellsR (i := 4) (by rfl))) (b := ?_)
   refine PU (a := OA ze52 H (fun w78 b77 (H : Sep ok w w78 [.blk b9 25 (L3_1 A1 a0 cp2 A5 cp6), .blk b11 31 (L3_2 a1), .blk b13 33 (L3_3 a2), .blk b77 52 L3_5] [RE.rd k_Item A1 cp2 a0.Items, RE.rd k_Texture A5 cp6 a0.Textures, RE.cells 0 (0) L3_0, RE.rd k_Frag A27 cp28 v25.1, RE.cells g56 (o57 + (el44.Item).toNat * 18) (L3_4 A63 el51 cp64 A66 cp67 A69 cp70), RE.rd k_Vec A63 cp64 el51.Verts, RE.rd k_Ar2_Int A66 cp67 el51.UV, RE.rd k_Ar3_Int A69 cp70 el51.Tris]) => ⟨(Sep.takeL H 3), ?_⟩))
   refine PL (a := OS 3 0 (L3_4 A63 el51 cp64 A66 cp67 A69 cp70) sz52 H (fun w79 (H : Sep ok w w79 [.blk b9 25 (L3_1 A1 a0 cp2 A5 cp6), .blk b11 31 (L3_2 a1), .blk b13 33 (L3_3 a2), .blk b77 52 (L3_4 A63 el51 cp64 A66 cp67 A69 cp70)] [RE.rd k_Item A1 cp2 a0.Items, RE.rd k_Texture A5 cp6 a0.Textures, RE.cells 0 (0) L3_0, RE.rd k_Frag A27 cp28 v25.1, RE.cells g56 (o57 + (el44.Item).toNat * 18) (L3_4 A63 el51 cp64 A66 cp67 A69 cp70), RE.rd k_Vec A63 cp64 el51.Verts, RE.rd k_Ar2_Int A66 cp67 el51.UV, RE.rd k_Ar3_Int A69 cp70 el51.Tris]) => ?_))
   refine PR_nil ?_
   refine Wr ?_
   refine RL_p (xA 0 (L3_2 a1) ag31 (H.c 1)) ?_
   refine RL_p (xf fo52_4) ?_
   refine RL_p (xA 12 (L3_6 el51) ag50 (H.c 3)) ?_
   refine RL_p (xA 0 (L3_3 a2) ag33 (H.c 2)) ?_
   obtain ⟨v81, hv80, hm⟩ := bind_some hm
   refine RL_cons (OC (xc [.agg (L3_2 a1).toArray, .agg (L3_6 el51).toArray, .agg (L3_3 a2).toArray] (cf9 _ _)) (c9 okT K w79 a1 el51.Box a2 (H.cellsT (i := 2) (by rfl)) v81 hv80) ?_)
   rintro e w82 ⟨rfl, H2⟩
   have H : Sep ok w w82 [.blk b9 25 (L3_1 A1 a0 cp2 A5 cp6), .blk b11 31 (L3_2 a1), .blk b13 33 (L3_3 a2), .blk b77 52 (L3_4 A63 el51 cp64 A66 cp67 A69 cp70)] [RE.rd k_Item A1 cp2 a0.Items, RE.rd k_Texture A5 cp6 a0.Textures, RE.cells 0 (0) L3_0, RE.rd k_Frag A27 cp28 v25.1, RE.cells g56 (o57 + (el44.Item).toNat * 18) (L3_4 A63 el51 cp64 A66 cp67 A69 cp70), RE.rd k_Vec A63 cp64 el51.Verts, RE.rd k_Ar2_Int A66 cp67 el51.UV, RE.rd k_Ar3_Int A69 cp70 el51.Tris] := H.below H2.base
   clear H2
   refine ⟨_, rfl, ?_⟩
   refine RL_p (xm (tup [.agg (L3_7 v81).toArray, .bool v81.2.1, ii v81.2.2])) ?_
   refine RL_p (xe (.agg (L3_7 v81).toArray)) ?_
   refine RL_p (xe (.bool v81.2.1)) ?_
   refine RL_p (xe (ii v81.2.2)) ?_
   refine RL_cons (OA ze56 H (fun w84 b83 (H : Sep ok w w84 [.blk b9 25 (L3_1 A1 a0 cp2 A5 cp6), .blk b11 31 (L3_2 a1), .blk b13 33 (L3_3 a2), .blk b77 52 (L3_4 A63 el51 cp64 A66 cp67 A69 cp70), .blk b83 56 L3_8] [RE.rd k_Item A1 cp2 a0.Items, RE.rd k_Texture A5 cp6 a0.Textures, RE.cells 0 (0) L3_0, RE.rd k_Frag A27 cp28 v25.1, RE.cells g56 (o57 + (el44.Item).toNat * 18) (L3_4 A63 el51 cp64 A66 cp67 A69 cp70), RE.rd k_Vec A63 cp64 el51.Verts, RE.rd k_Ar2_Int A66 cp67 el51.UV, RE.rd k_Ar3_Int A69 cp70 el51.Tris]) => ?_))
   refine RL_cons (OS 4 0 (L3_7 v81) sz56 H (fun w85 (H : S3_3 ok w w85 b9 A1 a0 cp2 A5 cp6 b11 a1 b13 a2 b77 A63 el51 cp64 A66 cp67 A69 cp70 b83 v81 A27 cp28 v25 g56 o57 el44) => ?_))
   refine RL_p (xa (.bool v81.2.1)) ?_
   refine RL_p (xa (ii v81.2.2)) ?_
   refine W_seq ?_
   refine W_draw [.free 0, .free 1, .free 2, .free 3, .free 4, .free 5, .free 6, .free 7, .take 8, .free 9, .free 10, .run 11, .free 12, .free 13, .free 14, .free 15, .free 16, .free 17, .free 18, .take 19, .free 20, .free 21, .take 22, .free 23, .free 24, .take 25, .free 26, .free 27] (fun wS => S3_3 ok w wS b9 A1 a0 cp2 A5 cp6 b11 a1 b13 a2 b77 A63 el51 cp64 A66 cp67 A69 cp70 b83 v81 A27 cp28 v25 g56 o57 el44) [] [0, 1, 2, 3, 4, 5, 6, 7, 9, 10, 12, 13, 14, 15, 16, 17, 18, 20, 21, 23, 24, 26, 27] mixed0 (by kernel_rfl) (by kernel_rfl) (by kernel_rfl) (by rfl) (by exact H.drew) ?_
   obtain ⟨w86, hW⟩ : ∃ W : World, W = { w85 with drawn := w85.drawn + 1 } := ⟨_, rfl⟩
   rw [← hW]
   have H : S3_3 ok w w86 b9 A1 a0 cp2 A5 cp6 b11 a1 b13 a2 b77 A63 el51 cp64 A66 cp67 A69 cp70 b83 v81 A27 cp28 v25 g56 o57 el44 := by rw [hW]; exact H.drew
   clear hW
   refine PF (a := xm (ii v81.2.2)) (b := ?_)
   refine PF (a := xN) (b := ?_)
   refine PF (a := xm (.bool (v81.2.2 != 0))) (b := ?_)
   obtain ⟨b87, hmS, hm⟩ := bind_some hm
   refine PR_cut 3 (fun r' w' => Agr [(80, .bool b87), (3, ii a3), (4, ii a4), (5, pp b9), (6, pp b11), (7, pp b13), (11, .bool v16), (12, .slice A27 v25.1.length cp28), (14, ii y14_1), (15, pp b77), (16, pp b83)] r' ∧ S3_3 ok w w' b9 A1 a0 cp2 A5 cp6 b11 a1 b13 a2 b77 A63 el51 cp64 A66 cp67 A69 cp70 b83 v81 A27 cp28 v25 g56 o57 el44) ?_ ?_
   ·cases hbS : (v81.2.2 != 0)
    ·have hm := cond_f hbS hmS
     refine PF1 (a := xm (.bool v81.2.1)) (b := ?_)
     refine PF1 (a := x_not (by rfl)) (b := ?_)
     refine PF (a := xF (.bool (!v81.2.1))) (b := ?_)
     refine PR_nil ?_
     exact ⟨⟨congrArg Value.bool (Option.some.inj hm), rfl, rfl, rfl, rfl, rfl, rfl, rfl, rfl, rfl, rfl, trivial⟩, H⟩
    have hm := cond_t hbS hmS
    refine PG ?_
    refine PG ?_
    refine PF (a := xT (.bool true)) (b := ?_)
    refine PR_nil ?_
    exact ⟨⟨congrArg Value.bool (Option.some.inj hm), rfl, rfl, rfl, rfl, rfl, rfl, rfl, rfl, rfl, rfl, trivial⟩, H⟩
   rintro r' w' ⟨hA, H⟩
   obtain ⟨r88, rfl⟩ := regen _ hA; clear hA
   obtain ⟨w89, rfl⟩ := wld w'
   show PR _ _ _ _ _ _ _ _
   refine PF (a := xm (.bool b87)) (b := ?_)
   obtain ⟨b90, hmS, hm⟩ := bind_some hm
   refine PR_cut 7 (fun r' w' => Agr [(88, .bool b90), (3, ii a3), (4, ii a4), (5, pp b9), (6, pp b11), (7, pp b13), (11, .bool v16), (12, .slice A27 v25.1.length cp28), (14, ii y14_1), (15, pp b77), (16, pp b83)] r' ∧ S3_3 ok w w' b9 A1 a0 cp2 A5 cp6 b11 a1 b13 a2 b77 A63 el51 cp64 A66 cp67 A69 cp70 b83 v81 A27 cp28 v25 g56 o57 el44) ?_ ?_
   ·cases hbS : b87
    ·have hm := cond_f hbS hmS
     refine PF1 (a := xf fo56_0) (b := ?_)
     refine PT1 (a := fun H => xA 0 (L3_9 v81) ag33 (H.c 4)) (b := ?_)
     refine PF1 (a := xm (ii a3)) (b := ?_)
     refine PF1 (a := xm (ii a4)) (b := ?_)
     obtain ⟨v92, hv91, hm⟩ := bind_some hm
     refine PU (a := O_call (by exact wn1 rfl rfl rfl rfl) (by rfl) (by rfl) (xc [.agg (L3_9 v81).toArray, ii a3, ii a4] (cf7 _ _)) (c7 okT K w89 v81.1.Rect a3 a4  v92 hv91) ?_)
     rintro e w93 ⟨rfl, H2⟩
     have H : S3_3 ok w w93 b9 A1 a0 cp2 A5 cp6 b11 a1 b13 a2 b77 A63 el51 cp64 A66 cp67 A69 cp70 b83 v81 A27 cp28 v25 g56 o57 el44 := H.below H2.base
     clear H2
     refine ⟨_, rfl, H, ?_⟩
     show PR _ _ _ _ _ _ _ _
     refine PF1 (a := x_not (by rfl)) (b := ?_)
     refine PF (a := xF (.bool (!v92))) (b := ?_)
     refine PR_nil ?_
     exact ⟨⟨congrArg Value.bool (Option.some.inj hm), rfl, rfl, rfl, rfl, rfl, rfl, rfl, rfl, rfl, rfl, trivial⟩, H⟩
    have hm := cond_t hbS hmS
    refine PG ?_
    refine PO ?_
    refine PG ?_
    refine PG ?_
    refine PU (a := OpR_off (by exact wn2 rfl rfl rfl rfl) (by rfl) (by rfl) ⟨H, ?_⟩)
    refine PG ?_
    refine PF (a := xT (.bool true)) (b := ?_)
    refine PR_nil ?_
    exact ⟨⟨congrArg Value.bool (Option.some.inj hm), rfl, rfl, rfl, rfl, rfl, rfl, rfl, rfl, rfl, rfl, trivial⟩, H⟩
   rintro r' w' ⟨hA, H⟩
   obtain ⟨r94, rfl⟩ := regen _ hA; clear hA
   obtain ⟨w95, rfl⟩ := wld w'
   show PR _ _ _ _ _ _ _ _
   refine PF (a := xm (.bool b90)) (b := ?_)
   obtain ⟨b96, hmS, hm⟩ := bind_some hm
   refine PR_cut 13 (fun r' w' => Agr [(102, .bool b96), (3, ii a3), (4, ii a4), (5, pp b9), (6, pp b11), (7, pp b13), (11, .bool v16), (12, .slice A27 v25.1.length cp28), (14, ii y14_1)] r' ∧ S3_3 ok w w' b9 A1 a0 cp2 A5 cp6 b11 a1 b13 a2 b77 A63 el51 cp64 A66 cp67 A69 cp70 b83 v81 A27 cp28 v25 g56 o57 el44) ?_ ?_
   ·cases hbS : b90
    ·have hm := cond_f hbS hmS
     refine PF1 (a := xm (.slice A27 v25.1.length cp28)) (b := ?_)
     refine PF1 (a := xm (ii y14_1)) (b := ?_)
     obtain ⟨el97, h98, h99, he100, hm⟩ := idx_some hm
     obtain ⟨g102, o103, hA101⟩ := (H.rd (i := 3) (by rfl)).addr he100
     refine PF1 (a := x_indexAddr sl36 sz54 (by rfl) (by rfl) hA101 h98 h99) (b := ?_)
     refine PF1 (a := xf fo54_0) (b := ?_)
     refine PT1 (a := fun H => xl 0 (ii el97.D) sc3 (Rd.flatAt (n := 6) (H.rd (i := 3) (by rfl)) hA101 he100)) (b := ?_)
     refine PF1 (a := xf fo52_3) (b := ?_)
     refine PF1 (a := xf fo48_3) (b := ?_)
     refine PT1 (a := fun H => xl 9 (ii el51.Look.Bias) sc3 (H.c 3)) (b := ?_)
     obtain ⟨x104, ex104, qx104, ux104, hm⟩ := ck_some hm
     refine PF1 (a := xM ux104) (b := ?_)
     refine PF1 (a := xf fo56_1) (b := ?_)
     refine PT1 (a := fun H => xl 4 (ii v81.1.D) sc3 (H.c 4)) (b := ?_)
     refine PF1 (a := xG) (b := ?_)
     refine PF (a := xF (.bool (decide (v81.1.D < x104)))) (b := ?_)
     refine PR_nil ?_
     exact ⟨⟨congrArg Value.bool (Option.some.inj hm), rfl, rfl, rfl, rfl, rfl, rfl, rfl, rfl, trivial⟩, H⟩
    have hm := cond_t hbS hmS
    refine PG ?_
    refine PG ?_
    refine PG ?_
    refine PG ?_
    refine PO ?_
    refine PG ?_
    refine PG ?_
    refine PO ?_
    refine PG ?_
    refine PG ?_
    refine PO ?_
    refine PG ?_
    refine PF (a := xT (.bool true)) (b := ?_)
    refine PR_nil ?_
    exact ⟨⟨congrArg Value.bool (Option.some.inj hm), rfl, rfl, rfl, rfl, rfl, rfl, rfl, rfl, trivial⟩, H⟩
   rintro r' w' ⟨hA, H⟩
   obtain ⟨r105, rfl⟩ := regen _ hA; clear hA
   obtain ⟨w106, rfl⟩ := wld w'
   show PR _ _ _ _ _ _ _ _
   refine PR_nil ?_
   refine Wc (fun hb => ?_) (fun hb => ?_)
   ·have hm := cond_t hb hm
    refine W_seq ?_
    have H : S3_1 ok w w106 b9 A1 a0 cp2 A5 cp6 b11 a1 b13 a2 A27 cp28 v25 := ((H.takeL 3).pick [0, 1, 2, 3])
    refine W_region ?_
    refine RL_p (xa (.bool false)) ?_
    refine W_ret ?_
    obtain rfl := Option.some.inj hm
    exact ⟨[.bool false], (.tmp (by rfl) rfl), rfl, H.none_⟩
   have hm := cond_f hb hm
   refine W_skip ?_
   have H : S3_1 ok w w106 b9 A1 a0 cp2 A5 cp6 b11 a1 b13 a2 A27 cp28 v25 := ((H.takeL 3).pick [0, 1, 2, 3])
   refine W_region ?_
   refine RL_p (xm (ii y14_1)) ?_
   obtain ⟨x107, ex107, qx107, ux107, hm⟩ := ck_some hm
   refine RL_p (xP ux107) ?_
   refine RL_p (xa (ii x107)) ?_
   refine RL_nil ?_
   subst hrec1
   exact ⟨k1, Nat.lt_succ_self k1, x107, hm, ⟨rfl, rfl, rfl, rfl, rfl, rfl, rfl, rfl, trivial⟩, H⟩
  have hm := cond_f hb hm
  refine W_exit ?_
  refine W_seq ?_
  have H : Sep ok w w43 [] [RE.cells 0 (0) L3_0] := ((H.takeL 0).pick [2])
  refine W_region ?_
  refine RL_p (xm (.bool v16)) ?_
  refine RL_p (xa (.bool v16)) ?_
  refine W_ret ?_
  obtain rfl := Option.some.inj hm
  exact ⟨[.bool v16], (.tmp (by rfl) rfl), rfl, H.none_⟩
end Go.Proofs.YtobkigllalbkiaaV.D

/- The door's plain law: words on numbers, spans and boxes. -/
set_option linter.unusedVariables false
set_option linter.unusedSimpArgs false
namespace Go.Proofs.YtobkigllalbkiaaV.D
open Go.RowKit Go.Proofs.YtobkigllalbkiaaV
theorem fl_uniq {a b q r : Int} (hb : 1 ≤ b) (e : b * q + r = a) (h0 : 0 ≤ r) (h1 : r < b) : a / b = q := by
  have h2 : q ≤ a / b := Int.le_ediv_of_mul_le (by omega) (by rw [Int.mul_comm]; omega)
  have h3 : a / b < q + 1 := Int.ediv_lt_of_lt_mul (by omega) (by rw [Int.mul_comm, Int.mul_add]; omega)
  omega
theorem m29_eq (K : Nat) (a b : Int) (hb : 1 ≤ b) (h0 : -9223372036854775806 ≤ a) (h1 : a ≤ 9223372036854775806) : m29 K a b = some (a / b, 0) := by
  have e := Int.mul_tdiv_add_tmod a b
  have l1 := Int.tmod_lt_of_pos a (show 0 < b by omega)
  have l2 : -b < Int.tmod a b := Int.lt_tmod_of_pos a (by omega)
  have hd := divb hb h0 h1
  unfold m29
  apply T.eq
  refine T.f (decide_eq_false (by omega)) (T.nz (by omega) ?_)
  by_cases h : Int.tmod a b < 0
  · have u : a / b = Int.tdiv a b - 1 := fl_uniq hb (r := Int.tmod a b + b) (by rw [Int.mul_sub]; omega) (by omega) (by omega)
    refine T.ck (by omega) (by omega) (T.nz (by omega) (T.t (decide_eq_true h) (T.ck (by omega) (by omega) (T.some ?_))))
    rw [u]
  · have u : a / b = Int.tdiv a b := fl_uniq hb (r := Int.tmod a b) (by omega) (by omega) (by omega)
    refine T.ck (by omega) (by omega) (T.nz (by omega) (T.f (decide_eq_false h) (T.some ?_)))
    rw [u]
theorem m29_bad (K : Nat) (a b : Int) (hb : b < 1) : m29 K a b = some (0, 2) := by
  unfold m29
  exact T.eq (T.t (decide_eq_true hb) (T.some rfl))
/-- Up to the next eighth. -/
theorem m28_8 (K : Nat) (a : Int) (h0 : -9223372036854775800 ≤ a) (h1 : a ≤ 9223372036854775800) : m28 K a 8 = some ((a + 7) / 8, 0) := by
  have e := Int.mul_tdiv_add_tmod a 8
  have l1 := Int.tmod_lt_of_pos a (show (0 : Int) < 8 by omega)
  have l2 : -8 < Int.tmod a 8 := Int.lt_tmod_of_pos a (by omega)
  unfold m28
  apply T.eq
  refine T.f (decide_eq_false (by omega)) (T.nz (by omega) (T.ck (by omega) (by omega) (T.nz (by omega) ?_)))
  by_cases h : 0 < Int.tmod a 8
  · refine T.t (decide_eq_true h) (T.ck (by omega) (by omega) (T.some ?_))
    rw [Prod.mk.injEq]; exact ⟨by omega, rfl⟩
  · refine T.f (decide_eq_false h) (T.some ?_)
    rw [Prod.mk.injEq]; exact ⟨by omega, rfl⟩
theorem m15_eq (K : Nat) (a b c : Int) : m15 K a b c = some (decide (b ≤ a) && decide (a ≤ c)) := by
  unfold m15; rw [and_some]; rfl
/-- The camera's numbers. -/
structure Cam (c : S_Camera) : Prop where
  x0 : -4096 ≤ c.Pos.X
  x1 : c.Pos.X ≤ 4096
  y0 : -4096 ≤ c.Pos.Y
  y1 : c.Pos.Y ≤ 4096
  z0 : -4096 ≤ c.Pos.Z
  z1 : c.Pos.Z ≤ 4096
  f0 : 1 ≤ c.Focal
  f1 : c.Focal ≤ 64
  n0 : 256 ≤ c.Near
  n1 : c.Near ≤ 4096
  w0 : 1 ≤ c.W
  w1 : c.W ≤ 64
  h0 : 1 ≤ c.H
  h1 : c.H ≤ 64
  m00 : -256 ≤ c.M.a0.a0
  M00 : c.M.a0.a0 ≤ 256
  m01 : -256 ≤ c.M.a0.a1
  M01 : c.M.a0.a1 ≤ 256
  m02 : -256 ≤ c.M.a0.a2
  M02 : c.M.a0.a2 ≤ 256
  m10 : -256 ≤ c.M.a1.a0
  M10 : c.M.a1.a0 ≤ 256
  m11 : -256 ≤ c.M.a1.a1
  M11 : c.M.a1.a1 ≤ 256
  m12 : -256 ≤ c.M.a1.a2
  M12 : c.M.a1.a2 ≤ 256
  m20 : -256 ≤ c.M.a2.a0
  M20 : c.M.a2.a0 ≤ 256
  m21 : -256 ≤ c.M.a2.a1
  M21 : c.M.a2.a1 ≤ 256
  m22 : -256 ≤ c.M.a2.a2
  M22 : c.M.a2.a2 ≤ 256
/-- All numbers of a list of three lie between -b and b. -/
theorem m36_3 (K : Nat) (hK : 4 ≤ K) (b x y z : Int) (hb0 : 0 ≤ b) (hb : b ≤ 1000000) : T (m36 K b [x, y, z]) fun r => r = true ↔ (-b ≤ x ∧ x ≤ b) ∧ (-b ≤ y ∧ y ≤ b) ∧ (-b ≤ z ∧ z ≤ b) := by
  obtain ⟨k, rfl⟩ : ∃ k, K = k + 4 := ⟨K - 4, by omega⟩
  unfold m36
  have st : ∀ (i : Int) (v : Int) (rec : Int → Option Bool) (Q : Bool → Prop), 0 ≤ i → i < 3 → [x, y, z][i.toNat]? = some v → ((¬ (-b ≤ v ∧ v ≤ b)) → Q false) → ((-b ≤ v ∧ v ≤ b) → T (rec (i + 1)) Q) → T (m36_l1b (k + 4) b [x, y, z] rec i) Q := by
    intro i v rec Q h0 h3 hv hf ht
    unfold m36_l1b
    refine T.t (decide_eq_true (by simp; omega)) (T.idx h0 (by simp; omega) fun a ha _ => ?_)
    obtain rfl : v = a := by rw [hv] at ha; exact Option.some.inj ha
    refine T.ck (by omega) (by omega) ?_
    rw [or_some]
    refine T.bns (T.ite (fun h => T.some (hf ?_)) fun h => T.ck (by omega) (by omega) (ht ?_))
    · rw [Bool.or_eq_true, decide_eq_true_iff, decide_eq_true_iff] at h; omega
    · rw [Bool.or_eq_false_iff, decide_eq_false_iff_not, decide_eq_false_iff_not] at h; omega
  refine st 0 x _ _ (by omega) (by omega) rfl (fun h => by simp [h]) fun hx => st 1 y _ _ (by omega) (by omega) rfl (fun h => by simp [h]) fun hy => st 2 z _ _ (by omega) (by omega) rfl (fun h => by simp [h]) fun hz => ?_
  show T (m36_l1b _ _ _ _ _) _
  unfold m36_l1b
  exact T.f (decide_eq_false (by simp)) (T.some (by simp [hx, hy, hz]))
theorem m23_sp (K : Nat) (hK : 4 ≤ K) (v : S_Vec) : T (m23 K v) fun r => (r = 0 ↔ (-4096 ≤ v.X ∧ v.X ≤ 4096) ∧ (-4096 ≤ v.Y ∧ v.Y ≤ 4096) ∧ (-4096 ≤ v.Z ∧ v.Z ≤ 4096)) := by
  unfold m23
  refine T.bnd (m36_3 K hK 4096 v.X v.Y v.Z (by omega) (by omega)) fun r hr => ?_
  refine T.ite (fun h => T.some ?_) fun h => T.some ?_
  · have : r = false := by simpa using h
    subst this
    simp at hr ⊢
    omega
  · have : r = true := by simpa using h
    subst this
    exact ⟨fun _ => hr.1 rfl, fun _ => rfl⟩
theorem m14_sp (K : Nat) (hK : 4 ≤ K) (c : S_Camera) : T (m14 K c) fun r => (r = 0 → Cam c) := by
  have step : ∀ (p : Bool) (a lo hi : Int), (bif p then ((m15 K a lo hi).bind fun v => some v) else some false) = some (p && (decide (lo ≤ a) && decide (a ≤ hi))) := by
    intro p a lo hi; rw [m15_eq, Option.bind_some]; exact and_some ..
  unfold m14
  refine T.bnd (m23_sp K hK c.Pos) fun r hr => ?_
  iterate 13 (refine T.bne (step ..) ?_)
  refine T.ite (fun h => T.some (fun h => by omega)) fun h => T.some fun _ => ?_
  simp only [Bool.not_eq_false', Bool.and_eq_true, decide_eq_true_eq, beq_iff_eq] at h
  obtain ⟨⟨⟨⟨⟨⟨⟨⟨⟨⟨⟨⟨⟨k, k1⟩, k2⟩, k3⟩, k4⟩, k5⟩, k6⟩, k7⟩, k8⟩, k9⟩, k10⟩, k11⟩, k12⟩, k13⟩ := h
  have k0 := hr.1 k
  exact ⟨k0.1.1, k0.1.2, k0.2.1.1, k0.2.1.2, k0.2.2.1, k0.2.2.2, k1.1, k1.2, k2.1, k2.2, k3.1, k3.2, k4.1, k4.2, k5.1, k5.2, k6.1, k6.2, k7.1, k7.2, k8.1, k8.2, k9.1, k9.2, k10.1, k10.2, k11.1, k11.2, k12.1, k12.2, k13.1, k13.2⟩
end Go.Proofs.YtobkigllalbkiaaV.D

/- The door's plain law: boxes in view. -/
set_option linter.unusedVariables false
set_option linter.unusedSimpArgs false
namespace Go.Proofs.YtobkigllalbkiaaV.D
open Go.RowKit Go.Proofs.YtobkigllalbkiaaV
theorem nor {p q : Prop} [Decidable p] [Decidable q] (h : ¬ p) (h2 : ¬ q) : (decide p || decide q) = false := by simp [h, h2]
theorem nand {p q : Prop} [Decidable p] [Decidable q] (h : p) (h2 : q) : (decide p && decide q) = true := by simp [h, h2]
theorem m38_eq (K : Nat) (a : Int) : m38 K a = some (decide (-32768 ≤ a) && decide (a ≤ 32768)) := by
  unfold m38; rw [and_some]; rfl
structure BoxOk (b : S_Box) (n : Int) : Prop where
  x0 : -n ≤ b.Low.X
  x : b.Low.X ≤ b.High.X
  x1 : b.High.X ≤ n
  y0 : -n ≤ b.Low.Y
  y : b.Low.Y ≤ b.High.Y
  y1 : b.High.Y ≤ n
  z0 : -n ≤ b.Low.Z
  z : b.Low.Z ≤ b.High.Z
  z1 : b.High.Z ≤ n
structure InBox (v : S_Vec) (b : S_Box) : Prop where
  x0 : b.Low.X ≤ v.X
  x1 : v.X ≤ b.High.X
  y0 : b.Low.Y ≤ v.Y
  y1 : v.Y ≤ b.High.Y
  z0 : b.Low.Z ≤ v.Z
  z1 : v.Z ≤ b.High.Z
theorem m24_ok (K : Nat) (b : S_Box) (n : Int) (hn : n ≤ 32768) (h : BoxOk b n) : m24 K b = some 0 := by
  obtain ⟨x0, x, x1, y0, y, y1, z0, z, z1⟩ := h
  have one : ∀ (lo hi : Int) (f : Bool → Option Int), -n ≤ lo → lo ≤ hi → hi ≤ n → T (f false) (· = 0) →
      T ((m38 K lo).bind fun v => ((bif (!v) then some true else ((m38 K hi).bind fun v' => some (!v'))).bind fun b => ((bif b then some true else some (decide (hi < lo))).bind f))) (· = 0) := by
    intro lo hi f h1 h2 h3 h4
    refine T.bne (m38_eq ..) ?_
    rw [nand (by omega) (by omega)]
    refine T.bne (v := false) ?_ ?_
    · show ((m38 K hi).bind fun v' => some (!v')) = _
      rw [m38_eq, nand (by omega) (by omega)]; rfl
    · exact T.bne (v := false) (by rw [decide_eq_false (by omega)]; rfl) h4
  apply T.eq
  unfold m24
  refine T.bne rfl ?_
  refine one _ _ _ x0 x x1 ?_
  refine one _ _ _ y0 y y1 ?_
  refine one _ _ _ z0 z z1 ?_
  exact T.some rfl
theorem m25_ok (K : Nat) (b : S_Box) (h : BoxOk b 4096) : m25 K b ⟨⟨-4096, -4096, -4096⟩, ⟨4096, 4096, 4096⟩⟩ = some true := by
  obtain ⟨x0, x, x1, y0, y, y1, z0, z, z1⟩ := h
  apply T.eq
  unfold m25
  refine T.bne rfl (T.bne rfl ?_)
  refine T.bne (or_some ..) (T.f (nor (by dsimp only; omega) (by dsimp only; omega)) ?_)
  refine T.bne (or_some ..) (T.f (nor (by dsimp only; omega) (by dsimp only; omega)) ?_)
  refine T.bne (or_some ..) (T.f (nor (by dsimp only; omega) (by dsimp only; omega)) ?_)
  exact T.some rfl
theorem m58_ok (K : Nat) (a b : Int) (h0 : -1099511627776 ≤ a) (h1 : a ≤ b) (h2 : b ≤ 1099511627776) : m58 K ⟨a, b⟩ = some 0 := by
  apply T.eq
  unfold m58
  refine T.bne (or_some ..) (T.bne (or_some ..) (T.f ?_ (T.some rfl)))
  rw [nor (by dsimp only; omega) (by dsimp only; omega)]
  exact decide_eq_false (by dsimp only; omega)
theorem m59_ok (K : Nat) (a b : Int) (h0 : -1099511627776 ≤ a) (h1 : a ≤ b) (h2 : b ≤ 1099511627776) : m59 K a b = some (⟨a, b⟩, 0) := by
  apply T.eq
  unfold m59
  exact T.bne (m58_ok K a b h0 h1 h2) (T.f rfl (T.some rfl))
theorem m40_ok (K : Nat) (a b c d : Int) (h0 : -1000000000 ≤ a) (h1 : a ≤ b) (h2 : b ≤ 1000000000) (g0 : -1000000000 ≤ c) (g1 : c ≤ d) (g2 : d ≤ 1000000000) : m40 K ⟨a, b⟩ ⟨c, d⟩ = some (⟨a + c, b + d⟩, 0) := by
  apply T.eq
  unfold m40
  refine T.bne (v := 0) ?_ (T.f rfl ?_)
  · apply T.eq
    unfold m60
    exact T.bne (m58_ok K a b (by omega) h1 (by omega)) (T.f rfl (T.bne (m58_ok K c d (by omega) g1 (by omega)) (T.some rfl)))
  refine T.ck (by dsimp only; omega) (by dsimp only; omega) (T.ck (by dsimp only; omega) (by dsimp only; omega) ?_)
  exact T.bne (m59_ok K _ _ (by dsimp only; omega) (by dsimp only; omega) (by dsimp only; omega)) (T.some rfl)
theorem m41_ok (K : Nat) (a b : Int) (h0 : -1000000000 ≤ a) (h1 : a ≤ b) (h2 : b ≤ 1000000000) : m41 K ⟨a, b⟩ 256 = some (⟨a / 256, b / 256⟩, 0) := by
  apply T.eq
  unfold m41
  refine T.bne (m58_ok K a b (by omega) h1 (by omega)) (T.f rfl (T.bne (v := false) rfl (T.f rfl ?_)))
  exact T.bne (m29_eq K _ _ (by omega) (by dsimp only; omega) (by dsimp only; omega)) (T.bne (m29_eq K _ _ (by omega) (by dsimp only; omega) (by dsimp only; omega)) (T.some rfl))
/-- A span scaled: every number of it, scaled, lies in it. -/
theorem m39_ok (K : Nat) (s : S_Span) (m : Int) (h0 : -8192 ≤ s.Low) (h1 : s.Low ≤ s.High) (h2 : s.High ≤ 8192) (g0 : -256 ≤ m) (g1 : m ≤ 256) :
    ∃ lo hi, m39 K s m = some (⟨lo, hi⟩, 0) ∧ -2097152 ≤ lo ∧ lo ≤ hi ∧ hi ≤ 2097152 ∧ ∀ a, s.Low ≤ a → a ≤ s.High → lo ≤ m * a ∧ m * a ≤ hi := by
  have b1 := mulb g0 g1 h0 (show s.Low ≤ 8192 by omega)
  have b2 := mulb g0 g1 (show -8192 ≤ s.High by omega) h2
  have e : m58 K s = some 0 := m58_ok K s.Low s.High (by omega) h1 (by omega)
  have nn : (decide (m < -1048576) || decide (1048576 < m)) = false := nor (by omega) (by omega)
  by_cases hm : m < 0
  · refine ⟨m * s.High, m * s.Low, ?_, by omega, ((mul_bt (m := m) (Int.le_refl s.Low) h1).2 (by omega)).1, by omega, fun a ha hb => (mul_bt ha hb).2 (by omega)⟩
    apply T.eq
    unfold m39
    refine T.bne e (T.f rfl (T.bne (or_some ..) (T.f nn ?_)))
    refine T.ck (by omega) (by omega) (T.ck (by omega) (by omega) (T.t (decide_eq_true hm) ?_))
    unfold m39_j1
    exact T.bne (m59_ok K _ _ (by omega) ((mul_bt (m := m) (Int.le_refl s.Low) h1).2 (by omega)).1 (by omega)) (T.some rfl)
  · refine ⟨m * s.Low, m * s.High, ?_, by omega, ((mul_bt (m := m) (Int.le_refl s.Low) h1).1 (by omega)).2, by omega, fun a ha hb => (mul_bt ha hb).1 (by omega)⟩
    apply T.eq
    unfold m39
    refine T.bne e (T.f rfl (T.bne (or_some ..) (T.f nn ?_)))
    refine T.ck (by omega) (by omega) (T.ck (by omega) (by omega) (T.f (decide_eq_false hm) ?_))
    unfold m39_j1
    exact T.bne (m59_ok K _ _ (by omega) ((mul_bt (m := m) (Int.le_refl s.Low) h1).1 (by omega)).2 (by omega)) (T.some rfl)
/-- A vector turned by the camera's rows. -/
def trn (M : Ar3 (Ar3 Int)) (v : S_Vec) : S_Vec :=
  ⟨(0 + M.a0.a0 * v.X + M.a0.a1 * v.Y + M.a0.a2 * v.Z) / 256, (0 + M.a1.a0 * v.X + M.a1.a1 * v.Y + M.a1.a2 * v.Z) / 256, (0 + M.a2.a0 * v.X + M.a2.a1 * v.Y + M.a2.a2 * v.Z) / 256⟩
/-- One row of the box in view. -/
theorem axis (K : Nat) {α : Type} (s0 s1 s2 : S_Span) (m0 m1 m2 : Int) (f : S_Span × Int → Option α) (z1 z2 z3 z4 z5 z6 z7 : Int → α) (Q : α → Prop)
    (a0 : -8192 ≤ s0.Low) (b0 : s0.Low ≤ s0.High) (c0 : s0.High ≤ 8192) (d0 : -256 ≤ m0) (e0 : m0 ≤ 256)
    (a1 : -8192 ≤ s1.Low) (b1 : s1.Low ≤ s1.High) (c1 : s1.High ≤ 8192) (d1 : -256 ≤ m1) (e1 : m1 ≤ 256)
    (a2 : -8192 ≤ s2.Low) (b2 : s2.Low ≤ s2.High) (c2 : s2.High ≤ 8192) (d2 : -256 ≤ m2) (e2 : m2 ≤ 256)
    (h : ∀ lo hi, -24576 ≤ lo → lo ≤ hi → hi ≤ 24576 → (∀ x y z, s0.Low ≤ x → x ≤ s0.High → s1.Low ≤ y → y ≤ s1.High → s2.Low ≤ z → z ≤ s2.High → lo ≤ (0 + m0 * x + m1 * y + m2 * z) / 256 ∧ (0 + m0 * x + m1 * y + m2 * z) / 256 ≤ hi) → T (f (⟨lo, hi⟩, 0)) Q) :
    T ((m39 K s0 m0).bind fun v68 => (bif (v68.2 != 0) then some (z1 v68.2) else ((m40 K (⟨0, 0⟩ : S_Span) v68.1).bind fun v76 => (bif (v76.2 != 0) then some (z2 v76.2) else ((m39 K s1 m1).bind fun v81 => (bif (v81.2 != 0) then some (z3 v81.2) else ((m40 K v76.1 v81.1).bind fun v89 => (bif (v89.2 != 0) then some (z4 v89.2) else ((m39 K s2 m2).bind fun v94 => (bif (v94.2 != 0) then some (z5 v94.2) else ((m40 K v89.1 v94.1).bind fun v102 => (bif (v102.2 != 0) then some (z6 v102.2) else ((m41 K v102.1 256).bind fun v107 => (bif (v107.2 != 0) then some (z7 v107.2) else f v107)))))))))))))) Q := by
  obtain ⟨l0, h0, q0, p0, r0, t0, u0⟩ := m39_ok K s0 m0 a0 b0 c0 d0 e0
  obtain ⟨l1, h1, q1, p1, r1, t1, u1⟩ := m39_ok K s1 m1 a1 b1 c1 d1 e1
  obtain ⟨l2, h2, q2, p2, r2, t2, u2⟩ := m39_ok K s2 m2 a2 b2 c2 d2 e2
  refine T.bne q0 (T.f rfl ?_)
  refine T.bne (m40_ok K 0 0 l0 h0 (by omega) (by omega) (by omega) (by omega) (by omega) (by omega)) (T.f rfl ?_)
  refine T.bne q1 (T.f rfl ?_)
  refine T.bne (m40_ok K _ _ l1 h1 (by omega) (by omega) (by omega) (by omega) (by omega) (by omega)) (T.f rfl ?_)
  refine T.bne q2 (T.f rfl ?_)
  refine T.bne (m40_ok K _ _ l2 h2 (by omega) (by omega) (by omega) (by omega) (by omega) (by omega)) (T.f rfl ?_)
  refine T.bne (m41_ok K _ _ (by omega) (by omega) (by omega)) (T.f rfl ?_)
  refine h _ _ (by omega) (by omega) (by omega) fun x y z x0 x1 y0 y1 z0 z1 => ?_
  have k0 := u0 x x0 x1
  have k1 := u1 y y0 y1
  have k2 := u2 z z0 z1
  omega
theorem m26_sp (K : Nat) (c : S_Camera) (hc : Cam c) (b : S_Box) (hb : BoxOk b 8192) :
    T (m26 K c.M b) fun r => r.2 = 0 ∧ BoxOk r.1 24576 ∧ ∀ v, InBox v b → InBox (trn c.M v) r.1 := by
  have e24 := m24_ok K b 8192 (by omega) hb
  obtain ⟨x0, x, x1, y0, y, y1, z0, z, z1⟩ := hb
  unfold m26
  iterate 9 refine T.bne (or_some ..) (T.f (nor (by have := hc; cases this; omega) (by have := hc; cases this; omega)) ?_)
  refine T.bne e24 (T.f rfl (T.bne rfl ?_))
  refine axis K _ _ _ _ _ _ _ (fun e => _) (fun e => _) (fun e => _) (fun e => _) (fun e => _) (fun e => _) (fun e => _) _ x0 x x1 hc.m00 hc.M00 y0 y y1 hc.m01 hc.M01 z0 z z1 hc.m02 hc.M02 fun lx ux p0 p1 p2 p => ?_
  refine axis K _ _ _ _ _ _ _ (fun e => _) (fun e => _) (fun e => _) (fun e => _) (fun e => _) (fun e => _) (fun e => _) _ x0 x x1 hc.m10 hc.M10 y0 y y1 hc.m11 hc.M11 z0 z z1 hc.m12 hc.M12 fun ly uy q0 q1 q2 q => ?_
  refine axis K _ _ _ _ _ _ _ (fun e => _) (fun e => _) (fun e => _) (fun e => _) (fun e => _) (fun e => _) (fun e => _) _ x0 x x1 hc.m20 hc.M20 y0 y y1 hc.m21 hc.M21 z0 z z1 hc.m22 hc.M22 fun lz uz r0 r1 r2 r => ?_
  have ok : BoxOk ⟨⟨lx, ly, lz⟩, ⟨ux, uy, uz⟩⟩ 24576 := ⟨p0, p1, p2, q0, q1, q2, r0, r1, r2⟩
  refine T.bne rfl ?_
  refine T.bne (m24_ok K ⟨⟨lx, ly, lz⟩, ⟨ux, uy, uz⟩⟩ 24576 (by omega) ok) (T.f rfl (T.some ⟨rfl, ok, fun v hv => ?_⟩))
  obtain ⟨g0, g1, g2, g3, g4, g5⟩ := hv
  have j0 := p v.X v.Y v.Z g0 g1 g2 g3 g4 g5
  have j1 := q v.X v.Y v.Z g0 g1 g2 g3 g4 g5
  have j2 := r v.X v.Y v.Z g0 g1 g2 g3 g4 g5
  exact ⟨j0.1, j0.2, j1.1, j1.2, j2.1, j2.2⟩
/-- A place less the camera's. -/
def les (a b : S_Vec) : S_Vec := ⟨a.X - b.X, a.Y - b.Y, a.Z - b.Z⟩
theorem m27_ok (K : Nat) (a b : S_Vec) (h : -4096 ≤ a.X ∧ a.X ≤ 4096 ∧ -4096 ≤ a.Y ∧ a.Y ≤ 4096 ∧ -4096 ≤ a.Z ∧ a.Z ≤ 4096) (c : S_Camera) (hc : Cam c) (e : b = c.Pos) : m27 K a b = some (les a b) := by
  subst e
  obtain ⟨h0, h1, h2, h3, h4, h5⟩ := h
  have := hc.x0; have := hc.x1; have := hc.y0; have := hc.y1; have := hc.z0; have := hc.z1
  apply T.eq
  unfold m27
  refine T.ck (by omega) (by omega) (T.ck (by omega) (by omega) (T.ck (by omega) (by omega) (T.some rfl)))
/-- The box in view of a box in the world. -/
theorem m16_sp (K : Nat) (c : S_Camera) (hc : Cam c) (e14 : m14 K c = some 0) (b : S_Box) (hb : BoxOk b 4096) :
    T (m16 K c b) fun r => r.2 = 0 ∧ BoxOk r.1 24576 ∧ ∀ v, InBox v b → InBox (trn c.M (les v c.Pos)) r.1 := by
  have hb' := hb
  obtain ⟨x0, x, x1, y0, y, y1, z0, z, z1⟩ := hb'
  have := hc.x0; have := hc.x1; have := hc.y0; have := hc.y1; have := hc.z0; have := hc.z1
  unfold m16
  refine T.bne e14 (T.f rfl (T.bne (m24_ok K b 4096 (by omega) hb) ?_))
  refine T.bne (v := false) ?_ (T.f rfl ?_)
  · show ((m25 K b _).bind fun v16 => some (!v16)) = _
    rw [m25_ok K b hb]; rfl
  refine T.bne (m27_ok K b.Low c.Pos (by omega) c hc rfl) (T.bne (m27_ok K b.High c.Pos (by omega) c hc rfl) ?_)
  refine T.bnd (m26_sp K c hc ⟨les b.Low c.Pos, les b.High c.Pos⟩ (by unfold les; constructor <;> dsimp only <;> omega)) fun r hr => T.some ⟨hr.1, hr.2.1, fun v hv => hr.2.2 _ ?_⟩
  obtain ⟨g0, g1, g2, g3, g4, g5⟩ := hv
  unfold les
  constructor <;> dsimp only <;> omega
end Go.Proofs.YtobkigllalbkiaaV.D

/- The door's plain law: corners in view, cut at near. -/
set_option linter.unusedVariables false
set_option linter.unusedSimpArgs false
namespace Go.Proofs.YtobkigllalbkiaaV.D
open Go.RowKit Go.Proofs.YtobkigllalbkiaaV
theorem m36_t (K : Nat) (hK : 4 ≤ K) (b x y z : Int) (hb0 : 0 ≤ b) (hb : b ≤ 1000000) (hx0 : -b ≤ x) (hx : x ≤ b) (hy0 : -b ≤ y) (hy : y ≤ b) (hz0 : -b ≤ z) (hz : z ≤ b) : m36 K b [x, y, z] = some true :=
  T.eq ((m36_3 K hK b x y z hb0 hb).imp fun v hv => hv.2 ⟨⟨hx0, hx⟩, ⟨hy0, hy⟩, ⟨hz0, hz⟩⟩)
def vw (c : S_Camera) (v : S_Vec) : S_Vec := trn c.M (les v c.Pos)
theorem m78_ok (K : Nat) (c : S_Camera) (hc : Cam c) (v : S_Vec) (h : -8192 ≤ v.X ∧ v.X ≤ 8192 ∧ -8192 ≤ v.Y ∧ v.Y ≤ 8192 ∧ -8192 ≤ v.Z ∧ v.Z ≤ 8192) :
    m78 K c.M ⟨v.X, v.Y, v.Z⟩ = some ⟨(trn c.M v).X, (trn c.M v).Y, (trn c.M v).Z⟩ := by
  obtain ⟨h0, h1, h2, h3, h4, h5⟩ := h
  have a0 := mulb hc.m00 hc.M00 h0 h1
  have a1 := mulb hc.m01 hc.M01 h2 h3
  have a2 := mulb hc.m02 hc.M02 h4 h5
  have b0 := mulb hc.m10 hc.M10 h0 h1
  have b1 := mulb hc.m11 hc.M11 h2 h3
  have b2 := mulb hc.m12 hc.M12 h4 h5
  have c0 := mulb hc.m20 hc.M20 h0 h1
  have c1 := mulb hc.m21 hc.M21 h2 h3
  have c2 := mulb hc.m22 hc.M22 h4 h5
  apply T.eq
  unfold m78
  dsimp only
  iterate 6 refine T.ck (by omega) (by omega) ?_
  refine T.bne (m29_eq K _ _ (by omega) (by omega) (by omega)) ?_
  iterate 6 refine T.ck (by omega) (by omega) ?_
  refine T.bne (m29_eq K _ _ (by omega) (by omega) (by omega)) ?_
  iterate 6 refine T.ck (by omega) (by omega) ?_
  refine T.bne (m29_eq K _ _ (by omega) (by omega) (by omega)) ?_
  exact T.some rfl
theorem m49_ok (K : Nat) (hK : 4 ≤ K) (c : S_Camera) (hc : Cam c) (e14 : m14 K c = some 0) (v : S_Vec)
    (h : (-4096 ≤ v.X ∧ v.X ≤ 4096) ∧ (-4096 ≤ v.Y ∧ v.Y ≤ 4096) ∧ (-4096 ≤ v.Z ∧ v.Z ≤ 4096)) : m49 K c v = some (vw c v, 0) := by
  have := hc.x0; have := hc.x1; have := hc.y0; have := hc.y1; have := hc.z0; have := hc.z1
  apply T.eq
  unfold m49
  refine T.bne e14 (T.f rfl (T.bne (v := 0) (T.eq ((m23_sp K hK v).imp fun r hr => hr.2 h)) (T.f rfl ?_)))
  refine T.ck (by omega) (by omega) (T.ck (by omega) (by omega) (T.ck (by omega) (by omega) ?_))
  refine T.bne (v := (vw c v, 0)) ?_ (T.some rfl)
  apply T.eq
  unfold m69
  refine T.bne (v := true) ?_ ?_
  · apply T.eq
    unfold m76
    refine T.bne (m36_t K hK 1024 _ _ _ (by omega) (by omega) ?_ ?_ ?_ ?_ ?_ ?_) (T.f rfl (T.bne (m36_t K hK 1024 _ _ _ (by omega) (by omega) ?_ ?_ ?_ ?_ ?_ ?_) (T.f rfl (T.bne (m36_t K hK 1024 _ _ _ (by omega) (by omega) ?_ ?_ ?_ ?_ ?_ ?_) (T.f rfl (T.some rfl)))))) <;> (cases hc; omega)
  refine T.bne (v := false) ?_ (T.f rfl ?_)
  · show ((m36 K 32768 _).bind fun v16 => some (!v16)) = _
    rw [m36_t K hK 32768 _ _ _ (by omega) (by omega) (by dsimp only; omega) (by dsimp only; omega) (by dsimp only; omega) (by dsimp only; omega) (by dsimp only; omega) (by dsimp only; omega)]
    rfl
  refine T.bne (v := ⟨v.X - c.Pos.X, v.Y - c.Pos.Y, v.Z - c.Pos.Z⟩) rfl ?_
  refine T.bne (m78_ok K c hc ⟨v.X - c.Pos.X, v.Y - c.Pos.Y, v.Z - c.Pos.Z⟩ (by dsimp only; omega)) ?_
  exact T.bne rfl (T.some rfl)
/-- A corner inside a box, with its place in the picture's bounds. -/
structure PIn (p : S_Point) (b : S_Box) : Prop where
  i : InBox p.P b
  u0 : 0 ≤ p.U
  u1 : p.U ≤ 255
  v0 : 0 ≤ p.V
  v1 : p.V ≤ 255
theorem m72_ok (K : Nat) (p : S_Point) (b : S_Box) (hb : BoxOk b 24576) (hp : PIn p b) : m72 K p = some 0 := by
  obtain ⟨⟨x0, x1, y0, y1, z0, z1⟩, u0, u1, v0, v1⟩ := hp
  obtain ⟨bx0, bx, bx1, by0, by_, by1, bz0, bz, bz1⟩ := hb
  apply T.eq
  unfold m72
  iterate 5 refine T.bne (or_some ..) (T.f (nor (by omega) (by omega)) ?_)
  exact T.some rfl
theorem m70_ok (K : Nat) (hK : 4 ≤ K) (n : Int) (hn0 : 256 ≤ n) (hn : n ≤ 4096) (l : List S_Point) (hl : l.length ≤ 3) (b : S_Box) (hb : BoxOk b 24576) (h : ∀ p ∈ l, PIn p b) : m70 K n l = some 0 := by
  apply T.eq
  unfold m70
  refine T.bne (or_some ..) (T.f (nor (by omega) (by omega)) ?_)
  refine T.loop l.length (m70_l1 K l) (m70_l1b K l) (fun _ => rfl) (fun i s => s = (i : Int)) _ ?_ ?_ K 0 (by omega) rfl
  · rintro i _ rec hi rfl hr
    unfold m70_l1b
    refine T.t (decide_eq_true (by omega)) (T.idx (by omega) (by omega) fun a _ ha => ?_)
    refine T.bne (m72_ok K a b hb (h a ha)) (T.f rfl (T.ck (by omega) (by omega) (hr _ (by omega))))
  · rintro _ rec rfl
    unfold m70_l1b
    exact T.f (decide_eq_false (by omega)) (T.some rfl)
/-- Between a and b, by t of d. -/
theorem itp {a b t d lo hi : Int} (hd : 1 ≤ d) (ht : 0 ≤ t) (htd : t ≤ d) (a0 : lo ≤ a) (a1 : a ≤ hi) (b0 : lo ≤ b) (b1 : b ≤ hi) : lo ≤ a + (b - a) * t / d ∧ a + (b - a) * t / d ≤ hi := by
  by_cases h : a ≤ b
  · have k := (mul_bt (m := b - a) ht htd).1 (by omega)
    have : 0 ≤ (b - a) * t / d := Int.ediv_nonneg (by omega) (by omega)
    have : (b - a) * t / d ≤ b - a := Int.ediv_le_of_le_mul (by omega) k.2
    omega
  · have k := (mul_bt (m := b - a) ht htd).2 (by omega)
    have : (b - a) * t / d ≤ 0 := Int.ediv_le_of_le_mul (by omega) (by omega)
    have : b - a ≤ (b - a) * t / d := Int.le_ediv_of_mul_le (by omega) k.1
    omega
theorem m71_ok (K : Nat) (hK : 4 ≤ K) (n : Int) (hn0 : 256 ≤ n) (hn : n ≤ 4096) (b : S_Box) (hb : BoxOk b 24576) (p q : S_Point) (hp : PIn p b) (hq : PIn q b) (h1 : p.P.Z < n) (h2 : n ≤ q.P.Z) :
    T (m71 K n p q) fun r => PIn r.1 b ∧ n ≤ r.1.P.Z := by
  have e70 := m70_ok K hK n hn0 hn [p, q] (by simp) b hb (by intro x hx; simp at hx; rcases hx with rfl | rfl <;> assumption)
  obtain ⟨⟨x0, x1, y0, y1, z0, z1⟩, u0, u1, v0, v1⟩ := hp
  obtain ⟨⟨X0, X1, Y0, Y1, Z0, Z1⟩, U0, U1, V0, V1⟩ := hq
  obtain ⟨bx0, bx, bx1, by0, by_, by1, bz0, bz, bz1⟩ := hb
  have i0 := itp (d := q.P.Z - p.P.Z) (t := n - p.P.Z) (by omega) (by omega) (by omega) x0 x1 X0 X1
  have i1 := itp (d := q.P.Z - p.P.Z) (t := n - p.P.Z) (by omega) (by omega) (by omega) y0 y1 Y0 Y1
  have i2 := itp (d := q.P.Z - p.P.Z) (t := n - p.P.Z) (by omega) (by omega) (by omega) u0 u1 U0 U1
  have i3 := itp (d := q.P.Z - p.P.Z) (t := n - p.P.Z) (by omega) (by omega) (by omega) v0 v1 V0 V1
  have k0 := mulb (a := q.P.X - p.P.X) (b := n - p.P.Z) (A := 65536) (B := 65536) (by omega) (by omega) (by omega) (by omega)
  have k1 := mulb (a := q.P.Y - p.P.Y) (b := n - p.P.Z) (A := 65536) (B := 65536) (by omega) (by omega) (by omega) (by omega)
  have k2 := mulb (a := q.U - p.U) (b := n - p.P.Z) (A := 65536) (B := 65536) (by omega) (by omega) (by omega) (by omega)
  have k3 := mulb (a := q.V - p.V) (b := n - p.P.Z) (A := 65536) (B := 65536) (by omega) (by omega) (by omega) (by omega)
  unfold m71
  refine T.bne e70 (T.f rfl (T.bne (or_some ..) (T.f (nor (by omega) (by omega)) ?_)))
  refine T.bne (v := ⟨p.P.X, p.P.Y, p.U, p.V⟩) rfl (T.bne (v := ⟨q.P.X, q.P.Y, q.U, q.V⟩) rfl ?_)
  dsimp only
  iterate 4
    iterate 4 refine T.ck (by omega) (by omega) ?_
    refine T.bne (m29_eq K _ _ (by omega) (by omega) (by omega)) (T.ck (by dsimp only; omega) (by dsimp only; omega) ?_)
  refine T.some ⟨⟨⟨i0.1, i0.2, i1.1, i1.2, ?_, ?_⟩, i2.1, i2.2, i3.1, i3.2⟩, Int.le_refl n⟩
  · dsimp only; omega
  · dsimp only; omega
structure Gd (p : S_Point) (n : Int) (b : S_Box) : Prop where
  i : PIn p b
  z : n ≤ p.P.Z
def Fan (n : Int) (b : S_Box) (r : List (Ar3 S_Point) × Int) : Prop := r.1.length ≤ 6 ∧ ∀ t ∈ r.1, Gd t.a0 n b ∧ Gd t.a1 n b ∧ Gd t.a2 n b
theorem fan (K : Nat) (hK : 10 ≤ K) (n : Int) (b : S_Box) (l : List S_Point) (hl : l.length ≤ 6) (h : ∀ p ∈ l, Gd p n b) : T (m50_l10 K l K [] 2) (Fan n b) := by
  refine T.loop (l.length - 2) (fun k s => m50_l10 K l k s.1 s.2) (fun rec s => m50_l10b K l (fun a b => rec (a, b)) s.1 s.2) (fun _ => rfl) (fun i s => s.2 = (i : Int) + 2 ∧ s.1.length = i ∧ ∀ t ∈ s.1, Gd t.a0 n b ∧ Gd t.a1 n b ∧ Gd t.a2 n b) _ ?_ ?_ K ([], 2) (by omega) ⟨rfl, rfl, by simp⟩
  · rintro i ⟨row, y⟩ rec hi ⟨hy, hlen, hrow⟩ hr
    dsimp only at hy hlen hrow
    unfold m50_l10b
    dsimp only
    refine T.t (decide_eq_true (by omega)) (T.idx (by omega) (by omega) fun p _ hp => T.ck (by omega) (by omega) (T.idx (by omega) (by omega) fun q _ hq => T.idx (by omega) (by omega) fun s _ hs => ?_))
    refine T.apd (by omega) (T.ck (by omega) (by omega) (hr _ ⟨by dsimp only; omega, by simp [hlen], ?_⟩))
    intro t ht
    rcases List.mem_append.1 ht with ht | ht
    · exact hrow t ht
    · simp at ht; subst ht; exact ⟨h p hp, h q hq, h s hs⟩
  · rintro ⟨row, y⟩ rec ⟨hy, hlen, hrow⟩
    dsimp only at hy hlen hrow
    unfold m50_l10b
    dsimp only
    exact T.f (decide_eq_false (by omega)) (T.some ⟨by dsimp only; omega, hrow⟩)
theorem push {n : Int} {b : S_Box} {l : List S_Point} {p : S_Point} (h : ∀ p ∈ l, Gd p n b) (hp : Gd p n b) : ∀ q ∈ l ++ [p], Gd q n b := by
  intro q hq
  rcases List.mem_append.1 hq with hq | hq
  · exact h q hq
  · simp at hq; subst hq; exact hp
theorem beq_dec {p q : Prop} [Decidable p] [Decidable q] (h : (decide p == decide q) = false) : (p → ¬ q) ∧ (¬ p → q) := by
  by_cases hp : p <;> by_cases hq : q <;> simp_all
theorem m50_ok (K : Nat) (hK : 10 ≤ K) (n : Int) (hn0 : 256 ≤ n) (hn : n ≤ 4096) (b : S_Box) (hb : BoxOk b 24576) (t : Ar3 S_Point) (h0 : PIn t.a0 b) (h1 : PIn t.a1 b) (h2 : PIn t.a2 b) :
    T (m50 K n t) (Fan n b) := by
  have e70 := m70_ok K (by omega) n hn0 hn [t.a0, t.a1, t.a2] (by simp) b hb (by intro x hx; simp at hx; rcases hx with rfl | rfl | rfl <;> assumption)
  have cut : ∀ (p q : S_Point), PIn p b → PIn q b → p.P.Z < n → n ≤ q.P.Z → T (m71 K n p q) fun r => Gd r.1 n b := fun p q hp hq h1 h2 => (m71_ok K (by omega) n hn0 hn b hb p q hp hq h1 h2).imp fun v hv => ⟨hv.1, hv.2⟩
  have j7 : ∀ (l : List S_Point), l.length ≤ 6 → (∀ p ∈ l, Gd p n b) → T (m50_j7 K l) (Fan n b) := fun l hl h => fan K hK n b l hl h
  have j9 : ∀ (l : List S_Point) (p q : S_Point), l.length ≤ 5 → (∀ p ∈ l, Gd p n b) → PIn p b → PIn q b → p.P.Z < n → n ≤ q.P.Z → T (m50_j9 K n l p.P.X p.P.Y p.P.Z p.U p.V q.P.X q.P.Y q.P.Z q.U q.V) (Fan n b) := by
    intro l p q hl h hp hq h1 h2
    unfold m50_j9
    exact T.bnd (cut p q hp hq h1 h2) fun v hv => T.apd (by omega) (j7 _ (by simp; omega) (push h hv))
  have j8 : ∀ (l : List S_Point), l.length ≤ 5 → (∀ p ∈ l, Gd p n b) → T (m50_j8 K n t l) (Fan n b) := by
    intro l hl h
    unfold m50_j8
    refine T.ite (fun _ => j7 l (by omega) h) fun e => ?_
    have e' := beq_dec e
    refine T.ite (fun g => ?_) fun g => ?_
    · have g' := of_decide_eq_true g
      exact j9 l t.a0 t.a2 hl h h0 h2 (by have := e'.1 g'; omega) g'
    · have g' := of_decide_eq_false g
      exact j9 l t.a2 t.a0 hl h h2 h0 (by omega) (e'.2 g')
  have j4 : ∀ (l : List S_Point), l.length ≤ 4 → (∀ p ∈ l, Gd p n b) → T (m50_j4 K n t l) (Fan n b) := by
    intro l hl h
    unfold m50_j4
    exact T.ite (fun g => T.apd (by omega) (j8 _ (by simp; omega) (push h ⟨h2, of_decide_eq_true g⟩))) fun g => j8 l (by omega) h
  have j6 : ∀ (l : List S_Point) (p q : S_Point), l.length ≤ 3 → (∀ p ∈ l, Gd p n b) → PIn p b → PIn q b → p.P.Z < n → n ≤ q.P.Z → T (m50_j6 K n t l p.P.X p.P.Y p.P.Z p.U p.V q.P.X q.P.Y q.P.Z q.U q.V) (Fan n b) := by
    intro l p q hl h hp hq h1 h2
    unfold m50_j6
    exact T.bnd (cut p q hp hq h1 h2) fun v hv => T.apd (by omega) (j4 _ (by simp; omega) (push h hv))
  have j5 : ∀ (l : List S_Point), l.length ≤ 3 → (∀ p ∈ l, Gd p n b) → T (m50_j5 K n t l) (Fan n b) := by
    intro l hl h
    unfold m50_j5
    refine T.ite (fun _ => j4 l (by omega) h) fun e => ?_
    have e' := beq_dec e
    refine T.ite (fun g => ?_) fun g => ?_
    · have g' := of_decide_eq_true g
      exact j6 l t.a2 t.a1 hl h h2 h1 (by have := e'.1 g'; omega) g'
    · have g' := of_decide_eq_false g
      exact j6 l t.a1 t.a2 hl h h1 h2 (by omega) (e'.2 g')
  have j1 : ∀ (l : List S_Point), l.length ≤ 2 → (∀ p ∈ l, Gd p n b) → T (m50_j1 K n t l) (Fan n b) := by
    intro l hl h
    unfold m50_j1
    exact T.ite (fun g => T.apd (by omega) (j5 _ (by simp; omega) (push h ⟨h1, of_decide_eq_true g⟩))) fun g => j5 l (by omega) h
  have j3 : ∀ (l : List S_Point) (p q : S_Point), l.length ≤ 1 → (∀ p ∈ l, Gd p n b) → PIn p b → PIn q b → p.P.Z < n → n ≤ q.P.Z → T (m50_j3 K n t l q.P.X q.P.Y q.P.Z q.U q.V p.P.X p.P.Y p.P.Z p.U p.V) (Fan n b) := by
    intro l p q hl h hp hq h1 h2
    unfold m50_j3
    exact T.bnd (cut p q hp hq h1 h2) fun v hv => T.apd (by omega) (j1 _ (by simp; omega) (push h hv))
  have j2 : ∀ (l : List S_Point), l.length ≤ 1 → (∀ p ∈ l, Gd p n b) → T (m50_j2 K n t l) (Fan n b) := by
    intro l hl h
    unfold m50_j2
    refine T.ite (fun _ => j1 l (by omega) h) fun e => ?_
    have e' := beq_dec e
    refine T.ite (fun g => ?_) fun g => ?_
    · have g' := of_decide_eq_true g
      exact j3 l t.a1 t.a0 hl h h1 h0 (by have := e'.1 g'; omega) g'
    · have g' := of_decide_eq_false g
      exact j3 l t.a0 t.a1 hl h h0 h1 (by omega) (e'.2 g')
  unfold m50
  refine T.bne e70 (T.f rfl (T.ite (fun g => T.apd (by simp) (j2 _ (by simp) ?_)) fun g => j2 [] (by simp) (by simp)))
  intro q hq
  simp at hq; subst hq
  exact ⟨h0, of_decide_eq_true g⟩
end Go.Proofs.YtobkigllalbkiaaV.D

/- The door's plain law: places in the picture, triangles to be drawn. -/
set_option linter.unusedVariables false
set_option linter.unusedSimpArgs false
namespace Go.Proofs.YtobkigllalbkiaaV.D
open Go.RowKit Go.Proofs.YtobkigllalbkiaaV
structure Rg where
  xl : Int
  xh : Int
  yl : Int
  yh : Int
  dm : Int
  nr : Int
  fr : Int
structure SpIn (s : S_Spot) (r : Rg) : Prop where
  x0 : r.xl ≤ s.X
  x1 : s.X ≤ r.xh
  y0 : r.yl ≤ s.Y
  y1 : s.Y ≤ r.yh
  d1 : s.D ≤ r.dm
  X0 : -131072 ≤ s.X
  X1 : s.X ≤ 131072
  Y0 : -131072 ≤ s.Y
  Y1 : s.Y ≤ 131072
  D0 : 1 ≤ s.D
  D1 : s.D ≤ 65536
  u0 : 0 ≤ s.U
  u1 : s.U ≤ 255
  v0 : 0 ≤ s.V
  v1 : s.V ≤ 255
  nf : r.nr ≤ r.fr
/-- What Shadow computes of a box in view. -/
def rng (c : S_Camera) (b : S_Box) : Rg where
  xl := 8 * c.Focal * b.Low.X / (if 0 ≤ b.Low.X then b.High.Z else mx b.Low.Z c.Near) + 4 * c.W
  xh := 8 * c.Focal * b.High.X / (if 0 ≤ b.High.X then mx b.Low.Z c.Near else b.High.Z) + 4 * c.W
  yl := 4 * c.H - 8 * c.Focal * b.High.Y / (if 0 ≤ b.High.Y then mx b.Low.Z c.Near else b.High.Z)
  yh := 4 * c.H - 8 * c.Focal * b.Low.Y / (if 0 ≤ b.Low.Y then b.High.Z else mx b.Low.Z c.Near)
  dm := 16777216 / mx b.Low.Z c.Near
  nr := mx b.Low.Z c.Near
  fr := b.High.Z
theorem div49 {a z : Int} (hz : 256 ≤ z) (h0 : -12582912 ≤ a) (h1 : a ≤ 12582912) : -49152 ≤ a / z ∧ a / z ≤ 49152 :=
  ⟨Int.le_ediv_of_mul_le (by omega) (by omega), Int.ediv_le_of_le_mul (by omega) (by omega)⟩
theorem div_mono2 {a b z' z : Int} (hz' : 1 ≤ z') (hz : 1 ≤ z) (h : a ≤ b) (h1 : b < 0 → z' ≤ z) (h2 : 0 ≤ b → z ≤ z') : a / z' ≤ b / z :=
  Int.le_trans (Int.ediv_le_ediv (by omega) h) (div_mono hz' hz (Int.le_refl b) h1 h2)
/-- A place lies behind the place of the low end .. -/
theorem plo {g l x z nr fr : Int} (hg : 1 ≤ g) (hx : l ≤ x) (hn : 256 ≤ nr) (h1 : nr ≤ z) (h2 : z ≤ fr) : g * l / (if 0 ≤ l then fr else nr) ≤ g * x / z := by
  have m := Int.mul_le_mul_of_nonneg_left hx (show 0 ≤ g by omega)
  by_cases h : 0 ≤ l
  · rw [if_pos h]
    have := Int.mul_nonneg (show 0 ≤ g by omega) h
    exact div_mono (by omega) (by omega) m (by omega) (by omega)
  · rw [if_neg h]
    have := Int.mul_neg_of_pos_of_neg (show 0 < g by omega) (show l < 0 by omega)
    exact div_mono (by omega) (by omega) m (by omega) (by omega)
/-- .. and ahead of the place of the high end. -/
theorem phi {g l x z nr fr : Int} (hg : 1 ≤ g) (hx : x ≤ l) (hn : 256 ≤ nr) (h1 : nr ≤ z) (h2 : z ≤ fr) : g * x / z ≤ g * l / (if 0 ≤ l then nr else fr) := by
  have m := Int.mul_le_mul_of_nonneg_left hx (show 0 ≤ g by omega)
  by_cases h : 0 ≤ l
  · rw [if_pos h]
    have := Int.mul_nonneg (show 0 ≤ g by omega) h
    exact div_mono2 (by omega) (by omega) m (by omega) (by omega)
  · rw [if_neg h]
    have := Int.mul_neg_of_pos_of_neg (show 0 < g by omega) (show l < 0 by omega)
    exact div_mono2 (by omega) (by omega) m (by omega) (by omega)
theorem m51_ok (K : Nat) (hK : 4 ≤ K) (c : S_Camera) (hc : Cam c) (e14 : m14 K c = some 0) (b : S_Box) (hb : BoxOk b 24576) (p : S_Point) (hp : Gd p c.Near b) :
    T (m51 K c p) fun r => SpIn r.1 (rng c b) := by
  have e72 := m72_ok K p b hb hp.i
  obtain ⟨⟨⟨x0, x1, y0, y1, z0, z1⟩, u0, u1, v0, v1⟩, hz⟩ := hp
  obtain ⟨bx0, bx, bx1, by0, by_, by1, bz0, bz, bz1⟩ := hb
  have f0 := hc.f0; have f1 := hc.f1; have n0 := hc.n0; have n1 := hc.n1; have w0 := hc.w0; have w1 := hc.w1; have h0 := hc.h0; have h1 := hc.h1
  have kx := mulb (a := 8 * c.Focal) (b := p.P.X) (A := 512) (B := 24576) (by omega) (by omega) (by omega) (by omega)
  have ky := mulb (a := 8 * c.Focal) (b := p.P.Y) (A := 512) (B := 24576) (by omega) (by omega) (by omega) (by omega)
  have dx := div49 (a := 8 * c.Focal * p.P.X) (z := p.P.Z) (by omega) (by omega) (by omega)
  have dy := div49 (a := 8 * c.Focal * p.P.Y) (z := p.P.Z) (by omega) (by omega) (by omega)
  have mz := mx_le b.Low.Z c.Near
  have nr : 256 ≤ mx b.Low.Z c.Near := by omega
  have nz : mx b.Low.Z c.Near ≤ p.P.Z := by omega
  have xl := plo (g := 8 * c.Focal) (by omega) x0 nr nz z1
  have xh := phi (g := 8 * c.Focal) (by omega) x1 nr nz z1
  have yl := plo (g := 8 * c.Focal) (by omega) y0 nr nz z1
  have yh := phi (g := 8 * c.Focal) (by omega) y1 nr nz z1
  have td : Int.tdiv 16777216 p.P.Z = 16777216 / p.P.Z := Int.tdiv_eq_ediv_of_nonneg (by omega)
  have d0 : 1 ≤ 16777216 / p.P.Z := Int.le_ediv_of_mul_le (by omega) (by omega)
  have d1 : 16777216 / p.P.Z ≤ 65536 := Int.ediv_le_of_le_mul (by omega) (by omega)
  have dm : 16777216 / p.P.Z ≤ 16777216 / mx b.Low.Z c.Near := div_mono (by omega) (by omega) (Int.le_refl _) (by omega) (by omega)
  unfold m51
  refine T.bne e14 (T.f rfl (T.bne e72 (T.f rfl (T.f (decide_eq_false (by omega)) ?_))))
  refine T.ck (by omega) (by omega) (T.ck (by omega) (by omega) (T.bne (m29_eq K _ _ (by omega) (by omega) (by omega)) ?_))
  refine T.ck (by omega) (by omega) (T.ck (by omega) (by omega) (T.bne (m29_eq K _ _ (by omega) (by omega) (by omega)) ?_))
  dsimp only
  iterate 4 refine T.ck (by omega) (by omega) ?_
  refine T.nz (by omega) ?_
  rw [td]
  refine T.ck (by omega) (by omega) (T.some ?_)
  unfold rng
  constructor <;> dsimp only <;> omega
theorem m82_ok (K : Nat) (hK : 4 ≤ K) (lo hi : Int) (l : List Int) (hl : l.length ≤ 3) (h : ∀ x ∈ l, lo ≤ x ∧ x ≤ hi) : m82 K lo hi l = some true := by
  apply T.eq
  unfold m82
  refine T.loop l.length (m82_l1 K lo hi l) (m82_l1b K lo hi l) (fun _ => rfl) (fun i s => s = (i : Int)) _ ?_ ?_ K 0 (by omega) rfl
  · rintro i _ rec hi' rfl hr
    unfold m82_l1b
    refine T.t (decide_eq_true (by omega)) (T.idx (by omega) (by omega) fun a _ ha => ?_)
    have k := h a ha
    refine T.bne (or_some ..) (T.f (nor (by omega) (by omega)) (T.ck (by omega) (by omega) (hr _ (by omega))))
  · rintro _ rec rfl
    unfold m82_l1b
    exact T.f (decide_eq_false (by omega)) (T.some rfl)
theorem m81_ok (K : Nat) (hK : 4 ≤ K) (s : S_Spot) (r : Rg) (h : SpIn s r) : m81 K s = some 0 := by
  obtain ⟨_, _, _, _, _, X0, X1, Y0, Y1, D0, D1, u0, u1, v0, v1, _⟩ := h
  apply T.eq
  unfold m81
  refine T.bne (m82_ok K hK _ _ _ (by simp) (by intro x hx; simp at hx; rcases hx with rfl | rfl <;> omega)) ?_
  refine T.bne (v := false) ?_ (T.bne (v := false) ?_ (T.f rfl (T.some rfl)))
  · show ((m82 K 1 65536 [s.D]).bind fun v16 => some (!v16)) = _
    rw [m82_ok K hK _ _ _ (by simp) (by intro x hx; simp at hx; subst hx; omega)]; rfl
  · show ((m82 K 0 255 [s.U, s.V]).bind fun v16 => some (!v16)) = _
    rw [m82_ok K hK _ _ _ (by simp) (by intro x hx; simp at hx; rcases hx with rfl | rfl <;> omega)]; rfl
def Tri (t : Ar3 S_Spot) (r : Rg) : Prop := SpIn t.a0 r ∧ SpIn t.a1 r ∧ SpIn t.a2 r
def area (t : Ar3 S_Spot) : Int := (t.a1.X - t.a0.X) * (t.a2.Y - t.a0.Y) - (t.a2.X - t.a0.X) * (t.a1.Y - t.a0.Y)
theorem m73_ok (K : Nat) (hK : 4 ≤ K) (t : Ar3 S_Spot) (r : Rg) (h : Tri t r) : m73 K t = some (area t, 0) := by
  obtain ⟨h0, h1, h2⟩ := h
  have := h0.X0; have := h0.X1; have := h0.Y0; have := h0.Y1
  have := h1.X0; have := h1.X1; have := h1.Y0; have := h1.Y1
  have := h2.X0; have := h2.X1; have := h2.Y0; have := h2.Y1
  have k0 := mulb (a := t.a1.X - t.a0.X) (b := t.a2.Y - t.a0.Y) (A := 262144) (B := 262144) (by omega) (by omega) (by omega) (by omega)
  have k1 := mulb (a := t.a2.X - t.a0.X) (b := t.a1.Y - t.a0.Y) (A := 262144) (B := 262144) (by omega) (by omega) (by omega) (by omega)
  apply T.eq
  unfold m73
  refine T.bne (m81_ok K hK _ r h0) (T.f rfl (T.bne (m81_ok K hK _ r h1) (T.f rfl (T.bne (m81_ok K hK _ r h2) (T.f rfl ?_)))))
  iterate 7 refine T.ck (by omega) (by omega) ?_
  exact T.some rfl
theorem m52_ok (K : Nat) (hK : 4 ≤ K) (t : Ar3 S_Spot) (r : Rg) (h : Tri t r) (cull : Int) : T (m52 K t cull) fun v => v.1 = true → area t ≠ 0 := by
  unfold m52
  refine T.bne (m73_ok K hK t r h) (T.f rfl ?_)
  dsimp only
  refine T.ite (fun _ => T.some fun h => by simpa using h) fun _ => T.ite (fun _ => T.some fun h => by have := of_decide_eq_true h; omega) fun _ => T.ite (fun _ => T.some fun h => by have := of_decide_eq_true h; omega) fun _ => T.some fun h => by simp at h
theorem m53_ok (K : Nat) (hK : 4 ≤ K) (t : Ar3 S_Spot) (r : Rg) (h : Tri t r) (ha : area t ≠ 0) : T (m53 K t) fun v => Tri v.1 r := by
  unfold m53
  refine T.bne (m73_ok K hK t r h) (T.f rfl (T.f (by simpa using ha) ?_))
  exact T.ite (fun _ => T.some ⟨h.1, h.2.2, h.2.1⟩) fun _ => T.some h
/-- What the items of a show that may be drawn keep to. -/
structure ItemOk (it : S_Item) : Prop where
  verts : ∀ v ∈ it.Verts, ((-4096 ≤ v.X ∧ v.X ≤ 4096) ∧ (-4096 ≤ v.Y ∧ v.Y ≤ 4096) ∧ (-4096 ≤ v.Z ∧ v.Z ≤ 4096)) ∧ InBox v it.Box
  uvl : it.UV.length = it.Verts.length
  uv : ∀ u ∈ it.UV, (0 ≤ u.a0 ∧ u.a0 ≤ 255) ∧ (0 ≤ u.a1 ∧ u.a1 ≤ 255)
  tris : ∀ t ∈ it.Tris, (0 ≤ t.a0 ∧ t.a0 < (it.Verts.length : Int)) ∧ (0 ≤ t.a1 ∧ t.a1 < (it.Verts.length : Int)) ∧ (0 ≤ t.a2 ∧ t.a2 < (it.Verts.length : Int))
  tril : it.Tris.length ≤ 64
  b0 : -1024 ≤ it.Look.Bias
  b1 : it.Look.Bias ≤ 1024
  box : BoxOk it.Box 4096
theorem m33_ok (K : Nat) (hK : 10 ≤ K) (s : S_Show) (c : S_Camera) (hc : Cam c) (e14 : m14 K c = some 0) (i j : Nat) (it : S_Item) (hi : s.Items[i]? = some it) (ho : ItemOk it) (hj : j < it.Tris.length)
    (b : S_Box) (hb : BoxOk b 24576) (hv : ∀ v, InBox v it.Box → InBox (vw c v) b) :
    T (m33 K s c (i : Int) (j : Int)) fun ps => ps.length ≤ 6 ∧ ∀ t ∈ ps, Tri t (rng c b) := by
  have hi' : i < s.Items.length := by
    rcases Nat.lt_or_ge i s.Items.length with h | h
    · exact h
    · rw [List.getElem?_eq_none h] at hi; exact absurd hi (by simp)
  have pin : ∀ (v : S_Vec) (u u' : Ar2 Int), v ∈ it.Verts → u ∈ it.UV → u' ∈ it.UV → PIn ⟨vw c v, u.a0, u'.a1⟩ b := fun v u u' h1 h2 h3 => ⟨hv v (ho.verts v h1).2, (ho.uv u h2).1.1, (ho.uv u h2).1.2, (ho.uv u' h3).2.1, (ho.uv u' h3).2.2⟩
  have ul := ho.uvl
  unfold m33
  refine T.idx (by omega) (by omega) fun el hel _ => ?_
  obtain rfl : it = el := by rw [show ((i : Int).toNat) = i by omega, hi] at hel; exact Option.some.inj hel
  refine T.idx (by omega) (by omega) fun t _ ht => ?_
  have tb := ho.tris t ht
  refine T.idx (by omega) (by omega) fun va _ hva => T.bne (m49_ok K (by omega) c hc e14 va (ho.verts va hva).1) ?_
  refine T.idx (by omega) (by omega) fun ua _ hua => T.idx (by omega) (by omega) fun ua' _ hua' => ?_
  refine T.idx (by omega) (by omega) fun vb _ hvb => T.bne (m49_ok K (by omega) c hc e14 vb (ho.verts vb hvb).1) ?_
  refine T.idx (by omega) (by omega) fun ub _ hub => T.idx (by omega) (by omega) fun ub' _ hub' => ?_
  refine T.idx (by omega) (by omega) fun vc _ hvc => T.bne (m49_ok K (by omega) c hc e14 vc (ho.verts vc hvc).1) ?_
  refine T.idx (by omega) (by omega) fun uc _ huc => T.idx (by omega) (by omega) fun uc' _ huc' => ?_
  refine T.bnd (m50_ok K hK c.Near hc.n0 hc.n1 b hb _ (pin va ua ua' hva hua hua') (pin vb ub ub' hvb hub hub') (pin vc uc uc' hvc huc huc')) fun l hl => ?_
  obtain ⟨hl6, hg⟩ := hl
  refine T.loop l.1.length (fun k s' => m33_l1 K s c (i : Int) it l k s'.1 s'.2) (fun rec s' => m33_l1b K s c (i : Int) it l (fun a b => rec (a, b)) s'.1 s'.2) (fun _ => rfl) (fun n s' => s'.2 = (n : Int) ∧ s'.1.length ≤ n ∧ ∀ t ∈ s'.1, Tri t (rng c b)) _ ?_ ?_ K ([], 0) (by omega) ⟨rfl, by simp, by simp⟩
  · rintro n ⟨row, y⟩ rec hn ⟨hy, hlen, hrow⟩ hr
    dsimp only at hy hlen hrow
    unfold m33_l1b
    dsimp only
    refine T.t (decide_eq_true (by omega)) (T.idx (by omega) (by omega) fun p _ hp => ?_)
    have gp := hg p hp
    refine T.bnd (m51_ok K (by omega) c hc e14 b hb _ gp.1) fun q0 h0 => T.bnd (m51_ok K (by omega) c hc e14 b hb _ gp.2.1) fun q1 h1 => T.bnd (m51_ok K (by omega) c hc e14 b hb _ gp.2.2) fun q2 h2 => ?_
    have tri : Tri ⟨q0.1, q1.1, q2.1⟩ (rng c b) := ⟨h0, h1, h2⟩
    refine T.bnd (m52_ok K (by omega) _ _ tri _) fun sh hsh => T.ite (fun g => ?_) fun _ => T.ck (by omega) (by omega) (hr _ ⟨by dsimp only; omega, by dsimp only; omega, hrow⟩)
    refine T.bnd (m53_ok K (by omega) _ _ tri (hsh g)) fun fr hfr => T.apd (by omega) (T.ck (by omega) (by omega) (hr _ ⟨by dsimp only; omega, by simp; omega, ?_⟩))
    intro t' ht'
    rcases List.mem_append.1 ht' with ht' | ht'
    · exact hrow t' ht'
    · simp at ht'; subst ht'; exact hfr
  · rintro ⟨row, y⟩ rec ⟨hy, hlen, hrow⟩
    dsimp only at hy hlen hrow
    unfold m33_l1b
    exact T.f (decide_eq_false (by dsimp only; omega)) (T.some ⟨by dsimp only; omega, hrow⟩)
end Go.Proofs.YtobkigllalbkiaaV.D

/- The door's plain law: what a pixel shows of a triangle. -/
set_option linter.unusedVariables false
set_option linter.unusedSimpArgs false
namespace Go.Proofs.YtobkigllalbkiaaV.D
open Go.RowKit Go.Proofs.YtobkigllalbkiaaV
def wt (p q : S_Spot) (x y : Int) : Int := (q.X - p.X) * (8 * y + 4 - p.Y) - (8 * x + 4 - p.X) * (q.Y - p.Y)
theorem wt_eq (p q : S_Spot) (x y : Int) : wt p q x y = (p.X - (8 * x + 4)) * (q.Y - (8 * y + 4)) - (q.X - (8 * x + 4)) * (p.Y - (8 * y + 4)) := by
  unfold wt
  generalize 8 * x + 4 = a
  generalize 8 * y + 4 = b
  simp only [Int.sub_mul, Int.mul_sub]
  have h1 := Int.mul_comm p.X p.Y
  have h2 := Int.mul_comm q.X p.Y
  have h3 := Int.mul_comm p.X b
  have h4 := Int.mul_comm q.X b
  have h5 := Int.mul_comm a q.Y
  have h6 := Int.mul_comm a p.Y
  omega
theorem wt_sum (t : Ar3 S_Spot) (x y : Int) : wt t.a1 t.a2 x y + wt t.a2 t.a0 x y + wt t.a0 t.a1 x y = area t := by
  rw [wt_eq, wt_eq, wt_eq]
  unfold area
  generalize 8 * x + 4 = a
  generalize 8 * y + 4 = b
  simp only [Int.sub_mul, Int.mul_sub]
  have h1 := Int.mul_comm t.a0.X b
  have h2 := Int.mul_comm t.a1.X b
  have h3 := Int.mul_comm t.a2.X b
  omega
theorem lin3 (a b c d e f : Int) : (a * d - b * e) * c = a * d * c - b * e * c := by rw [Int.sub_mul]
theorem wt_x (p0 p1 p2 : S_Spot) (x y : Int) :
    wt p1 p2 x y * (p0.X - (8 * x + 4)) + wt p2 p0 x y * (p1.X - (8 * x + 4)) + wt p0 p1 x y * (p2.X - (8 * x + 4)) = 0 := by
  rw [wt_eq, wt_eq, wt_eq]
  generalize p0.X - (8 * x + 4) = a0
  generalize p1.X - (8 * x + 4) = a1
  generalize p2.X - (8 * x + 4) = a2
  generalize p0.Y - (8 * y + 4) = b0
  generalize p1.Y - (8 * y + 4) = b1
  generalize p2.Y - (8 * y + 4) = b2
  simp only [Int.sub_mul]
  have e1 : a1 * b2 * a0 = a0 * b2 * a1 := by rw [Int.mul_comm (a1 * b2) a0, ← Int.mul_assoc, Int.mul_comm a0 a1, Int.mul_assoc, Int.mul_comm]
  have e2 : a2 * b1 * a0 = a0 * b1 * a2 := by rw [Int.mul_comm (a2 * b1) a0, ← Int.mul_assoc, Int.mul_comm a0 a2, Int.mul_assoc, Int.mul_comm]
  have e3 : a2 * b0 * a1 = a1 * b0 * a2 := by rw [Int.mul_comm (a2 * b0) a1, ← Int.mul_assoc, Int.mul_comm a1 a2, Int.mul_assoc, Int.mul_comm]
  omega
theorem wt_y (p0 p1 p2 : S_Spot) (x y : Int) :
    wt p1 p2 x y * (p0.Y - (8 * y + 4)) + wt p2 p0 x y * (p1.Y - (8 * y + 4)) + wt p0 p1 x y * (p2.Y - (8 * y + 4)) = 0 := by
  rw [wt_eq, wt_eq, wt_eq]
  generalize p0.X - (8 * x + 4) = a0
  generalize p1.X - (8 * x + 4) = a1
  generalize p2.X - (8 * x + 4) = a2
  generalize p0.Y - (8 * y + 4) = b0
  generalize p1.Y - (8 * y + 4) = b1
  generalize p2.Y - (8 * y + 4) = b2
  simp only [Int.sub_mul]
  have e1 : a1 * b2 * b0 = a1 * b0 * b2 := by rw [Int.mul_assoc, Int.mul_comm b2 b0, Int.mul_assoc]
  have e2 : a2 * b1 * b0 = a2 * b0 * b1 := by rw [Int.mul_assoc, Int.mul_comm b1 b0, Int.mul_assoc]
  have e3 : a0 * b2 * b1 = a0 * b1 * b2 := by rw [Int.mul_assoc, Int.mul_comm b2 b1, Int.mul_assoc]
  omega
theorem orb (p q r : Bool) : (bif p then some true else ((bif q then some r else some false).bind fun b => some b)) = some (p || (q && r)) := by
  cases p <;> cases q <;> rfl
theorem m57_ok (K : Nat) (a : Int) (h0 : 0 ≤ a) (h1 : a < 64) : m57 K a = some (8 * a + 4) := by
  apply T.eq
  unfold m57
  exact T.ck (by omega) (by omega) (T.ck (by omega) (by omega) (T.some rfl))
theorem m35_ok (K : Nat) (hK : 4 ≤ K) (t : Ar3 S_Spot) (r : Rg) (h : Tri t r) (x y : Int) (hx0 : 0 ≤ x) (hx : x < 64) (hy0 : 0 ≤ y) (hy : y < 64) :
    m35 K t x y = if 0 < area t then some (⟨wt t.a1 t.a2 x y, wt t.a2 t.a0 x y, wt t.a0 t.a1 x y⟩, 0) else some (⟨0, 0, 0⟩, 6) := by
  have e55 : m55 K t = some (if 0 < area t then 0 else 6) := by
    apply T.eq
    unfold m55
    refine T.bne (m73_ok K hK t r h) (T.bne (v := decide (area t ≤ 0)) rfl ?_)
    by_cases ha : 0 < area t
    · rw [if_pos ha]; exact T.f (decide_eq_false (by omega)) (T.some rfl)
    · rw [if_neg ha]; exact T.t (decide_eq_true (by omega)) (T.some rfl)
  by_cases ha : 0 < area t
  · rw [if_pos ha] at e55 ⊢
    obtain ⟨h0, h1, h2⟩ := h
    have := h0.X0; have := h0.X1; have := h0.Y0; have := h0.Y1
    have := h1.X0; have := h1.X1; have := h1.Y0; have := h1.Y1
    have := h2.X0; have := h2.X1; have := h2.Y0; have := h2.Y1
    have b : ∀ p q : S_Spot, -131072 ≤ p.X → p.X ≤ 131072 → -131072 ≤ p.Y → p.Y ≤ 131072 → -131072 ≤ q.X → q.X ≤ 131072 → -131072 ≤ q.Y → q.Y ≤ 131072 →
        (-68719476736 ≤ (q.X - p.X) * (8 * y + 4 - p.Y) ∧ (q.X - p.X) * (8 * y + 4 - p.Y) ≤ 68719476736) ∧ (-68719476736 ≤ (8 * x + 4 - p.X) * (q.Y - p.Y) ∧ (8 * x + 4 - p.X) * (q.Y - p.Y) ≤ 68719476736) := by
      intro p q _ _ _ _ _ _ _ _
      have k0 := mulb (a := q.X - p.X) (b := 8 * y + 4 - p.Y) (A := 262144) (B := 262144) (by omega) (by omega) (by omega) (by omega)
      have k1 := mulb (a := 8 * x + 4 - p.X) (b := q.Y - p.Y) (A := 262144) (B := 262144) (by omega) (by omega) (by omega) (by omega)
      omega
    have k0 := b t.a1 t.a2 (by omega) (by omega) (by omega) (by omega) (by omega) (by omega) (by omega) (by omega)
    have k1 := b t.a2 t.a0 (by omega) (by omega) (by omega) (by omega) (by omega) (by omega) (by omega) (by omega)
    have k2 := b t.a0 t.a1 (by omega) (by omega) (by omega) (by omega) (by omega) (by omega) (by omega) (by omega)
    have e56 : m56 K x y = some true := by
      apply T.eq
      unfold m56
      have a1 := mn_le x y
      have a2 := mx_le x y
      exact T.bne (v := true) (by rw [and_some, nand (by omega) (by omega)]) (T.some rfl)
    apply T.eq
    unfold m35
    refine T.bne e55 (T.f rfl (T.bne e56 (T.f rfl ?_)))
    refine T.bne (v := (t.a1, t.a2)) rfl ?_
    dsimp only
    refine T.ck (by omega) (by omega) (T.ck (by omega) (by omega) (T.bne (m57_ok K y hy0 hy) (T.ck (by omega) (by omega) (T.ck (by omega) (by omega) (T.bne (m57_ok K x hx0 hx) (T.ck (by omega) (by omega) (T.ck (by omega) (by omega) (T.ck (by omega) (by omega) ?_))))))))
    refine T.bne (v := (t.a2, t.a0)) rfl ?_
    dsimp only
    refine T.ck (by omega) (by omega) (T.ck (by omega) (by omega) (T.bne (m57_ok K y hy0 hy) (T.ck (by omega) (by omega) (T.ck (by omega) (by omega) (T.bne (m57_ok K x hx0 hx) (T.ck (by omega) (by omega) (T.ck (by omega) (by omega) (T.ck (by omega) (by omega) ?_))))))))
    refine T.bne (v := (t.a0, t.a1)) rfl ?_
    dsimp only
    refine T.ck (by omega) (by omega) (T.ck (by omega) (by omega) (T.bne (m57_ok K y hy0 hy) (T.ck (by omega) (by omega) (T.ck (by omega) (by omega) (T.bne (m57_ok K x hx0 hx) (T.ck (by omega) (by omega) (T.ck (by omega) (by omega) (T.ck (by omega) (by omega) ?_))))))))
    exact T.some rfl
  · rw [if_neg ha] at e55 ⊢
    apply T.eq
    unfold m35
    exact T.bne e55 (T.t rfl (T.some rfl))
theorem m34_ok (K : Nat) (hK : 4 ≤ K) (t : Ar3 S_Spot) (r : Rg) (h : Tri t r) (x y : Int) (hx0 : 0 ≤ x) (hx : x < 64) (hy0 : 0 ≤ y) (hy : y < 64) :
    T (m34 K t x y) fun v => v.2 = 0 → v.1 = true → 0 < area t ∧ 0 ≤ wt t.a1 t.a2 x y ∧ 0 ≤ wt t.a2 t.a0 x y ∧ 0 ≤ wt t.a0 t.a1 x y := by
  have e := m35_ok K hK t r h x y hx0 hx hy0 hy
  unfold m34
  by_cases ha : 0 < area t
  · rw [if_pos ha] at e
    refine T.bne e (T.f rfl ?_)
    refine T.bne (v := (t.a1, t.a2)) rfl (T.bne (orb ..) (T.bne (orb ..) (T.ite (fun _ => T.some fun _ h => by simp at h) fun g0 => ?_)))
    refine T.bne (v := (t.a2, t.a0)) rfl (T.bne (orb ..) (T.bne (orb ..) (T.ite (fun _ => T.some fun _ h => by simp at h) fun g1 => ?_)))
    refine T.bne (v := (t.a0, t.a1)) rfl (T.bne (orb ..) (T.bne (orb ..) (T.ite (fun _ => T.some fun _ h => by simp at h) fun g2 => ?_)))
    have a0 := of_decide_eq_false (Bool.or_eq_false_iff.1 g0).1
    have a1 := of_decide_eq_false (Bool.or_eq_false_iff.1 g1).1
    have a2 := of_decide_eq_false (Bool.or_eq_false_iff.1 g2).1
    dsimp only at a0 a1 a2
    exact T.some fun _ _ => ⟨ha, by omega, by omega, by omega⟩
  · rw [if_neg ha] at e
    exact T.bne e (T.t rfl (T.some fun _ h => by simp at h))
/-- The middle of weighted numbers lies between their ends. -/
theorem mid_lo {w0 w1 w2 d0 d1 d2 l : Int} (h0 : 0 ≤ w0) (h1 : 0 ≤ w1) (h2 : 0 ≤ w2) (hs : 0 < w0 + w1 + w2) (e : w0 * d0 + w1 * d1 + w2 * d2 = 0) (l0 : l ≤ d0) (l1 : l ≤ d1) (l2 : l ≤ d2) : l ≤ 0 := by
  rcases Int.lt_or_le 0 l with h | h
  · have k0 := Int.mul_le_mul_of_nonneg_left (show 1 ≤ d0 by omega) h0
    have k1 := Int.mul_le_mul_of_nonneg_left (show 1 ≤ d1 by omega) h1
    have k2 := Int.mul_le_mul_of_nonneg_left (show 1 ≤ d2 by omega) h2
    omega
  · exact h
theorem mid_hi {w0 w1 w2 d0 d1 d2 l : Int} (h0 : 0 ≤ w0) (h1 : 0 ≤ w1) (h2 : 0 ≤ w2) (hs : 0 < w0 + w1 + w2) (e : w0 * d0 + w1 * d1 + w2 * d2 = 0) (l0 : d0 ≤ l) (l1 : d1 ≤ l) (l2 : d2 ≤ l) : 0 ≤ l := by
  rcases Int.lt_or_le l 0 with h | h
  · have k0 := Int.mul_le_mul_of_nonneg_left (show d0 ≤ -1 by omega) h0
    have k1 := Int.mul_le_mul_of_nonneg_left (show d1 ≤ -1 by omega) h1
    have k2 := Int.mul_le_mul_of_nonneg_left (show d2 ≤ -1 by omega) h2
    omega
  · exact h
theorem m22_ok (K : Nat) (hK : 4 ≤ K) (t : Ar3 S_Spot) (r : Rg) (h : Tri t r) (x y : Int) (hx0 : 0 ≤ x) (hx : x < 64) (hy0 : 0 ≤ y) (hy : y < 64) :
    T (m22 K t x y) fun v => v.2 = 0 → (r.xl ≤ 8 * x + 4 ∧ 8 * x + 4 ≤ r.xh) ∧ (r.yl ≤ 8 * y + 4 ∧ 8 * y + 4 ≤ r.yh) ∧ 0 ≤ v.1.D ∧ v.1.D ≤ 65536 ∧ v.1.D ≤ r.dm ∧ r.nr ≤ r.fr := by
  have e := m35_ok K hK t r h x y hx0 hx hy0 hy
  have ex := wt_x t.a0 t.a1 t.a2 x y
  have ey := wt_y t.a0 t.a1 t.a2 x y
  have es := wt_sum t x y
  unfold m22
  refine T.bnd (m34_ok K hK t r h x y hx0 hx hy0 hy) fun cv hcv => T.ite (fun g => T.some fun hz => ?_) fun g => ?_
  · dsimp only at hz; rw [hz] at g; simp at g
  refine T.ite (fun _ => T.some fun hz => by simp at hz) fun g' => ?_
  obtain ⟨ha, q0, q1, q2⟩ := hcv (by simpa using g) (by simpa using g')
  rw [if_pos ha] at e
  refine T.bne e (T.f rfl ?_)
  have har : area t ≤ 137438953472 := by
    obtain ⟨h0, h1, h2⟩ := h
    have := h0.X0; have := h0.X1; have := h0.Y0; have := h0.Y1
    have := h1.X0; have := h1.X1; have := h1.Y0; have := h1.Y1
    have := h2.X0; have := h2.X1; have := h2.Y0; have := h2.Y1
    have k0 := mulb (a := t.a1.X - t.a0.X) (b := t.a2.Y - t.a0.Y) (A := 262144) (B := 262144) (by omega) (by omega) (by omega) (by omega)
    have k1 := mulb (a := t.a2.X - t.a0.X) (b := t.a1.Y - t.a0.Y) (A := 262144) (B := 262144) (by omega) (by omega) (by omega) (by omega)
    unfold area; omega
  dsimp only
  generalize wt t.a1 t.a2 x y = w0 at *
  generalize wt t.a2 t.a0 x y = w1 at *
  generalize wt t.a0 t.a1 x y = w2 at *
  obtain ⟨h0, h1, h2⟩ := h
  have X : r.xl ≤ 8 * x + 4 ∧ 8 * x + 4 ≤ r.xh := by
    have := h0.x0; have := h0.x1; have := h1.x0; have := h1.x1; have := h2.x0; have := h2.x1
    have lo := mid_lo (l := r.xl - (8 * x + 4)) q0 q1 q2 (by omega) ex (by omega) (by omega) (by omega)
    have hi := mid_hi (l := r.xh - (8 * x + 4)) q0 q1 q2 (by omega) ex (by omega) (by omega) (by omega)
    omega
  have Y : r.yl ≤ 8 * y + 4 ∧ 8 * y + 4 ≤ r.yh := by
    have := h0.y0; have := h0.y1; have := h1.y0; have := h1.y1; have := h2.y0; have := h2.y1
    have lo := mid_lo (l := r.yl - (8 * y + 4)) q0 q1 q2 (by omega) ey (by omega) (by omega) (by omega)
    have hi := mid_hi (l := r.yh - (8 * y + 4)) q0 q1 q2 (by omega) ey (by omega) (by omega) (by omega)
    omega
  have k0 := mul_bt (m := w0) h0.D0 h0.D1
  have k1 := mul_bt (m := w1) h1.D0 h1.D1
  have k2 := mul_bt (m := w2) h2.D0 h2.D1
  have k0 := k0.1 q0
  have k1 := k1.1 q1
  have k2 := k2.1 q2
  have u0 := mulb (a := w0 * t.a0.D) (b := t.a0.U) (A := 9007199254740992) (B := 255) (by omega) (by omega) (by have := h0.u0; omega) h0.u1
  have u1 := mulb (a := w1 * t.a1.D) (b := t.a1.U) (A := 9007199254740992) (B := 255) (by omega) (by omega) (by have := h1.u0; omega) h1.u1
  have u2 := mulb (a := w2 * t.a2.D) (b := t.a2.U) (A := 9007199254740992) (B := 255) (by omega) (by omega) (by have := h2.u0; omega) h2.u1
  have v0 := mulb (a := w0 * t.a0.D) (b := t.a0.V) (A := 9007199254740992) (B := 255) (by omega) (by omega) (by have := h0.v0; omega) h0.v1
  have v1 := mulb (a := w1 * t.a1.D) (b := t.a1.V) (A := 9007199254740992) (B := 255) (by omega) (by omega) (by have := h1.v0; omega) h1.v1
  have v2 := mulb (a := w2 * t.a2.D) (b := t.a2.V) (A := 9007199254740992) (B := 255) (by omega) (by omega) (by have := h2.v0; omega) h2.v1
  have m0 := Int.mul_le_mul_of_nonneg_left h0.d1 q0
  have m1 := Int.mul_le_mul_of_nonneg_left h1.d1 q1
  have m2 := Int.mul_le_mul_of_nonneg_left h2.d1 q2
  have ed : r.dm * (0 + w0 + w1 + w2) = w0 * r.dm + w1 * r.dm + w2 * r.dm := by rw [Int.zero_add, Int.mul_comm, Int.add_mul, Int.add_mul]
  have d0 : 0 ≤ (0 + w0 * t.a0.D * 1 + w1 * t.a1.D * 1 + w2 * t.a2.D * 1) / (0 + w0 + w1 + w2) := Int.ediv_nonneg (by omega) (by omega)
  have d1 : (0 + w0 * t.a0.D * 1 + w1 * t.a1.D * 1 + w2 * t.a2.D * 1) / (0 + w0 + w1 + w2) ≤ 65536 := Int.ediv_le_of_le_mul (by omega) (by omega)
  have dm : (0 + w0 * t.a0.D * 1 + w1 * t.a1.D * 1 + w2 * t.a2.D * 1) / (0 + w0 + w1 + w2) ≤ r.dm := Int.ediv_le_of_le_mul (by omega) (by omega)
  iterate 34 refine T.ck (by omega) (by omega) ?_
  refine T.bne (m29_eq K _ _ (by omega) (by omega) (by omega)) ?_
  refine T.bne (m29_eq K _ _ (by omega) (by omega) (by omega)) ?_
  refine T.bne (m29_eq K _ _ (by omega) (by omega) (by omega)) ?_
  exact T.some fun _ => ⟨X, Y, d0, d1, dm, h0.nf⟩
end Go.Proofs.YtobkigllalbkiaaV.D

/- The door's plain law: the test of a show. -/
set_option linter.unusedVariables false
set_option linter.unusedSimpArgs false
namespace Go.Proofs.YtobkigllalbkiaaV.D
open Go.RowKit Go.Proofs.YtobkigllalbkiaaV
def V4 (v : S_Vec) : Prop := (-4096 ≤ v.X ∧ v.X ≤ 4096) ∧ (-4096 ≤ v.Y ∧ v.Y ≤ 4096) ∧ (-4096 ≤ v.Z ∧ v.Z ≤ 4096)
theorem m67_ok (K : Nat) (l : S_Look) (n : Int) : T (m67 K l n) fun r => r = 0 → -1024 ≤ l.Bias ∧ l.Bias ≤ 1024 := by
  unfold m67
  refine T.bne (or_some ..) (T.ite (fun _ => T.some fun h => by omega) fun _ => ?_)
  refine T.bne (or_some ..) (T.ite (fun g => T.t g (T.some fun h => by omega)) fun _ => ?_)
  refine T.ite (fun g => T.t g (T.some fun h => by omega)) fun _ => ?_
  refine T.bne (or_some ..) (T.ite (fun g => T.t g (T.some fun h => by omega)) fun g => ?_)
  have g' := Bool.or_eq_false_iff.1 g
  have g0 := of_decide_eq_false g'.1
  have g1 := of_decide_eq_false g'.2
  exact T.bne (or_some ..) (T.ite (fun _ => T.some fun _ => by omega) fun _ => T.some fun _ => by omega)
theorem m75_eq (K : Nat) (a b : S_Box) : m75 K a b = some ⟨⟨mn a.Low.X b.Low.X, mn a.Low.Y b.Low.Y, mn a.Low.Z b.Low.Z⟩, ⟨mx a.High.X b.High.X, mx a.High.Y b.High.Y, mx a.High.Z b.High.Z⟩⟩ := rfl
def bx (s : Int × Int × Int × Int × Int × Int × Int) : S_Box := ⟨⟨s.1, s.2.1, s.2.2.1⟩, ⟨s.2.2.2.1, s.2.2.2.2.1, s.2.2.2.2.2.1⟩⟩
theorem m68_ok (K : Nat) (l : List S_Vec) (hl : l.length ≤ 64) (hK : 70 ≤ K) (h : ∀ v ∈ l, V4 v) : T (m68 K l) fun r => (∀ v ∈ l, InBox v r.1) ∧ BoxOk r.1 4096 := by
  unfold m68
  refine T.bne (or_some ..) (T.ite (fun g => T.some ⟨?_, ?_⟩) fun g => ?_)
  · intro v hv
    have := List.length_pos_of_mem hv
    rw [Bool.or_eq_true, beq_iff_eq, decide_eq_true_iff] at g; omega
  · constructor <;> dsimp only <;> omega
  have g0 := (Bool.or_eq_false_iff.1 g).1
  have hn : 0 < l.length := by
    rcases Nat.eq_zero_or_pos l.length with e | e
    · rw [e] at g0; simp at g0
    · exact e
  refine T.loop l.length (m68_l1 K l) (m68_l1b K l) (fun _ => rfl) (fun i s => s = (i : Int)) _ ?_ ?_ K 0 (by omega) rfl
  · rintro i _ rec hi rfl hr
    unfold m68_l1b
    refine T.t (decide_eq_true (by omega)) (T.idx (by omega) (by omega) fun v _ hv => ?_)
    obtain ⟨⟨a0, a1⟩, ⟨b0, b1⟩, ⟨c0, c1⟩⟩ := h v hv
    refine T.bne (m38_eq ..) ?_
    rw [nand (by omega) (by omega)]
    refine T.bne (v := false) ?_ (T.bne (v := false) ?_ (T.f rfl (T.ck (by omega) (by omega) (hr _ (by omega)))))
    · show ((m38 K v.Y).bind fun v' => some (!v')) = _
      rw [m38_eq, nand (by omega) (by omega)]; rfl
    · show ((m38 K v.Z).bind fun v' => some (!v')) = _
      rw [m38_eq, nand (by omega) (by omega)]; rfl
  · rintro _ rec rfl
    unfold m68_l1b
    refine T.f (decide_eq_false (by omega)) (T.idx (by omega) (by omega) fun v hv0 hv => T.idx (by omega) (by omega) fun v' hv0' hv' => ?_)
    obtain rfl : v = v' := by rw [hv0] at hv0'; exact Option.some.inj hv0'
    rw [L.slg_in (by omega) (by omega)]
    have e1 : ((1 : Int).toNat) = 1 := rfl
    have v4 := h v hv
    refine T.loop (l.length - 1) (fun k s => m68_l2 K l k s.1 s.2.1 s.2.2.1 s.2.2.2.1 s.2.2.2.2.1 s.2.2.2.2.2.1 s.2.2.2.2.2.2) (fun rec s => m68_l2b K l (fun a b c d e f g => rec (a, b, c, d, e, f, g)) s.1 s.2.1 s.2.2.1 s.2.2.2.1 s.2.2.2.2.1 s.2.2.2.2.2.1 s.2.2.2.2.2.2) (fun _ => rfl)
      (fun i s => s.2.2.2.2.2.2 = (i : Int) ∧ BoxOk (bx s) 4096 ∧ ∀ j v, j ≤ i → l[j]? = some v → InBox v (bx s)) _ ?_ ?_ K (v.X, v.Y, v.Z, v.X, v.Y, v.Z, 0) (by omega) ⟨rfl, ?_, ?_⟩
    · rintro i ⟨b0, b1, b2, b3, b4, b5, y⟩ rec hi ⟨hy, hb, hin⟩ hr
      dsimp only at hy
      unfold m68_l2b
      dsimp only
      rw [e1]
      refine T.t (decide_eq_true (by rw [List.length_drop]; omega)) (T.idx (by omega) (by rw [List.length_drop]; omega) fun u hu hu' => ?_)
      have hm : u ∈ l := List.mem_of_mem_drop hu'
      have u4 := h u hm
      refine T.bne (m75_eq ..) (T.ck (by omega) (by omega) (hr _ ⟨?_, ?_, ?_⟩))
      · dsimp only; omega
      · obtain ⟨q0, q1, q2, q3, q4, q5, q6, q7, q8⟩ := hb
        unfold bx at q0 q1 q2 q3 q4 q5 q6 q7 q8 ⊢
        dsimp only at q0 q1 q2 q3 q4 q5 q6 q7 q8 ⊢
        unfold V4 at u4
        have p0 := mn_le b0 u.X; have p1 := mn_le b1 u.Y; have p2 := mn_le b2 u.Z
        have p3 := mx_le b3 u.X; have p4 := mx_le b4 u.Y; have p5 := mx_le b5 u.Z
        constructor <;> dsimp only <;> omega
      · intro j x hj hx
        unfold bx
        dsimp only
        have p0 := mn_le b0 u.X; have p1 := mn_le b1 u.Y; have p2 := mn_le b2 u.Z
        have p3 := mx_le b3 u.X; have p4 := mx_le b4 u.Y; have p5 := mx_le b5 u.Z
        by_cases hji : j ≤ i
        · obtain ⟨q0, q1, q2, q3, q4, q5⟩ := hin j x hji hx
          unfold bx at q0 q1 q2 q3 q4 q5
          dsimp only at q0 q1 q2 q3 q4 q5
          constructor <;> dsimp only <;> omega
        · obtain rfl : j = i + 1 := by omega
          obtain rfl : u = x := by
            rw [List.getElem?_drop, hy, show 1 + (i : Int).toNat = i + 1 by omega, hx] at hu
            exact (Option.some.inj hu).symm
          constructor <;> dsimp only <;> omega
    · rintro ⟨b0, b1, b2, b3, b4, b5, y⟩ rec ⟨hy, hb, hin⟩
      dsimp only at hy
      unfold m68_l2b
      dsimp only
      rw [e1]
      refine T.f (decide_eq_false (by rw [List.length_drop]; omega)) (T.some ⟨fun x hx => ?_, hb⟩)
      obtain ⟨j, hj, e⟩ := List.mem_iff_getElem.1 hx
      exact hin j x (by omega) (by rw [List.getElem?_eq_getElem hj, e])
    · unfold V4 at v4
      unfold bx
      constructor <;> dsimp only <;> omega
    · intro j x hj hx
      obtain rfl : j = 0 := by omega
      obtain rfl : v = x := by
        rw [show ((0 : Int).toNat) = 0 from rfl, hx] at hv0
        exact (Option.some.inj hv0).symm
      unfold bx
      constructor <;> exact Int.le_refl _
theorem m48_ok (K : Nat) (hK : 70 ≤ K) (it : S_Item) (n : Int) : T (m48 K it n) fun r => r = true → ItemOk it := by
  unfold m48
  refine T.bne (or_some ..) (T.bne (or_some ..) (T.bnd (P := fun b => b = false → it.Verts.length ≤ 64 ∧ it.UV.length = it.Verts.length ∧ it.Tris.length ≤ 64 ∧ -1024 ≤ it.Look.Bias ∧ it.Look.Bias ≤ 1024) ?_ fun b hb => T.ite (fun _ => T.some fun h => by simp at h) fun g => ?_))
  · refine T.ite (fun _ => T.some fun h => by simp at h) fun g => T.bnd (m67_ok K it.Look n) fun v hv => T.some fun h => ?_
    simp only [Bool.or_eq_false_iff, decide_eq_false_iff_not, bne_eq_false_iff_eq] at g h
    have := hv h
    omega
  obtain ⟨h1, h2, h3, h4, h5⟩ := hb g
  refine T.loop it.Verts.length (m48_l1 K it n) (m48_l1b K it n) (fun _ => rfl) (fun i s => s = (i : Int) ∧ ∀ j v u, j < i → it.Verts[j]? = some v → it.UV[j]? = some u → V4 v ∧ (0 ≤ u.a0 ∧ u.a0 ≤ 255) ∧ (0 ≤ u.a1 ∧ u.a1 ≤ 255)) _ ?_ ?_ K 0 (by omega) ⟨rfl, by omega⟩
  · rintro i _ rec hi ⟨rfl, hI⟩ hr
    unfold m48_l1b
    refine T.t (decide_eq_true (by omega)) (T.idx (by omega) (by omega) fun v hv _ => ?_)
    refine T.bnd (m23_sp K (by omega) v) fun e he => ?_
    obtain ⟨u, hu⟩ : ∃ u, it.UV[i]? = some u := ⟨_, List.getElem?_eq_getElem (by omega)⟩
    have ei : ((i : Int).toNat) = i := by omega
    rw [ei] at hv
    refine T.bnd (P := fun b => b = false → e = 0 ∧ 0 ≤ u.a0 ∧ 0 ≤ u.a1) ?_ fun b43 h43 => T.bnd (P := fun b => b = false → b43 = false ∧ u.a0 ≤ 255 ∧ u.a1 ≤ 255) ?_ fun b60 h60 => T.ite (fun _ => T.some fun h => by simp at h) fun g => T.ck (by omega) (by omega) (hr _ ⟨by omega, ?_⟩)
    · refine T.ite (fun _ => T.some fun h => by simp at h) fun g => T.idx (by omega) (by omega) fun u1 hu1 _ => T.idx (by omega) (by omega) fun u2 hu2 _ => T.some fun h => ?_
      rw [ei, hu] at hu1 hu2
      cases Option.some.inj hu1; cases Option.some.inj hu2
      have k := mn_le u.a0 u.a1
      have k2 := of_decide_eq_false h
      exact ⟨by simpa using g, by omega, by omega⟩
    · refine T.ite (fun _ => T.some fun h => by simp at h) fun g => T.idx (by omega) (by omega) fun u1 hu1 _ => T.idx (by omega) (by omega) fun u2 hu2 _ => T.some fun h => ?_
      rw [ei, hu] at hu1 hu2
      cases Option.some.inj hu1; cases Option.some.inj hu2
      have k := mx_le u.a0 u.a1
      have k2 := of_decide_eq_false h
      exact ⟨g, by omega, by omega⟩
    · intro j v' u' hj hv' hu'
      by_cases hji : j < i
      · exact hI j v' u' hji hv' hu'
      · obtain rfl : j = i := by omega
        rw [hv] at hv'; rw [hu] at hu'
        cases Option.some.inj hv'; cases Option.some.inj hu'
        have k1 := h60 g
        have k2 := h43 k1.1
        exact ⟨he.1 k2.1, ⟨k2.2.1, k1.2.1⟩, ⟨k2.2.2, k1.2.2⟩⟩
  · rintro _ rec ⟨rfl, hI⟩
    unfold m48_l1b
    refine T.f (decide_eq_false (by omega)) ?_
    have hverts : ∀ v ∈ it.Verts, V4 v := by
      intro v hv
      obtain ⟨j, hj, e⟩ := List.mem_iff_getElem.1 hv
      exact (hI j v _ hj (by rw [List.getElem?_eq_getElem hj, e]) (List.getElem?_eq_getElem (by omega))).1
    have huv : ∀ u ∈ it.UV, (0 ≤ u.a0 ∧ u.a0 ≤ 255) ∧ (0 ≤ u.a1 ∧ u.a1 ≤ 255) := by
      intro u hu
      obtain ⟨j, hj, e⟩ := List.mem_iff_getElem.1 hu
      exact (hI j _ u (by omega) (List.getElem?_eq_getElem (by omega)) (by rw [List.getElem?_eq_getElem hj, e])).2
    refine T.loop it.Tris.length (m48_l2 K it n) (m48_l2b K it n) (fun _ => rfl) (fun i s => s = (i : Int) ∧ ∀ j (t : Ar3 Int), j < i → it.Tris[j]? = some t → (0 ≤ t.a0 ∧ t.a0 < (it.Verts.length : Int)) ∧ (0 ≤ t.a1 ∧ t.a1 < (it.Verts.length : Int)) ∧ (0 ≤ t.a2 ∧ t.a2 < (it.Verts.length : Int))) _ ?_ ?_ K 0 (by omega) ⟨rfl, by omega⟩
    · rintro i _ rec hi ⟨rfl, hT⟩ hr
      unfold m48_l2b
      refine T.t (decide_eq_true (by omega)) (T.idx (by omega) (by omega) fun t ht _ => ?_)
      refine T.bne (or_some ..) (T.ite (fun _ => T.some fun h => by simp at h) fun g => T.ck (by omega) (by omega) (hr _ ⟨by omega, ?_⟩))
      have g' := Bool.or_eq_false_iff.1 g
      have g0 := of_decide_eq_false g'.1
      have g1 := of_decide_eq_false g'.2
      have k0 := mn_le (mn t.a0 t.a1) t.a2
      have k1 := mn_le t.a0 t.a1
      have k2 := mx_le (mx t.a0 t.a1) t.a2
      have k3 := mx_le t.a0 t.a1
      intro j t' hj ht'
      by_cases hji : j < i
      · exact hT j t' hji ht'
      · obtain rfl : j = i := by omega
        rw [show ((j : Int).toNat) = j by omega, ht'] at ht
        cases Option.some.inj ht
        omega
    · rintro _ rec ⟨rfl, hT⟩
      unfold m48_l2b
      refine T.f (decide_eq_false (by omega)) (T.bnd (m68_ok K it.Verts h1 hK hverts) fun v hv => ?_)
      have ht : ∀ t ∈ it.Tris, (0 ≤ t.a0 ∧ t.a0 < (it.Verts.length : Int)) ∧ (0 ≤ t.a1 ∧ t.a1 < (it.Verts.length : Int)) ∧ (0 ≤ t.a2 ∧ t.a2 < (it.Verts.length : Int)) := by
        intro t ht
        obtain ⟨j, hj, e⟩ := List.mem_iff_getElem.1 ht
        exact hT j t hj (by rw [List.getElem?_eq_getElem hj, e])
      refine T.bnd (P := fun b => b = true → v.1 = it.Box) (T.ite (fun g => ?_) fun _ => T.some fun h => by simp at h) fun b hb => T.some fun h => ?_
      · have eb : v.1 = it.Box := by
          simp only [Bool.and_eq_true, beq_iff_eq] at g
          obtain ⟨⟨e0, e1, e2⟩, e3, e4, e5⟩ := g
          revert e0 e1 e2 e3 e4 e5
          obtain ⟨⟨⟨a0, a1, a2⟩, ⟨a3, a4, a5⟩⟩, err⟩ := v
          generalize it.Box = B
          obtain ⟨⟨c0, c1, c2⟩, ⟨c3, c4, c5⟩⟩ := B
          dsimp only
          rintro rfl rfl rfl rfl rfl rfl
          rfl
        exact T.bnd (P := fun _ => True) (T.ite (fun _ => T.some trivial) fun _ => T.some trivial) fun b _ => T.some fun _ => eb
      · have eb := hb h
        rw [eb] at hv
        exact ⟨fun v hv' => ⟨hverts v hv', hv.1 v hv'⟩, h2, huv, ht, h3, h4, h5, hv.2⟩
theorem m65_ok (K : Nat) (x : S_Texture) : T (m65 K x) fun _ => True := by
  have e : ∀ a : Int, m74 K a = some (decide (0 < a) && decide (a ≤ 16)) := by intro a; unfold m74; rw [and_some]; rfl
  unfold m65
  refine T.bne (e _) (T.bnd (P := fun b => b = false → (0 < x.W ∧ x.W ≤ 16) ∧ (0 < x.H ∧ x.H ≤ 16)) (T.ite (fun _ => T.some fun h => by simp at h) fun g => T.bne (e _) (T.some fun h => ?_)) fun b hb => ?_)
  · simp only [Bool.not_eq_false', Bool.and_eq_true, decide_eq_true_eq] at g h
    omega
  · refine T.bnd (P := fun _ => True) (T.ite (fun _ => T.some trivial) fun g => ?_) fun b _ => T.ite (fun _ => T.some trivial) fun _ => T.some trivial
    obtain ⟨⟨a, b⟩, c, d⟩ := hb g
    have k := mulb (a := x.W) (b := x.H) (A := 16) (B := 16) (by omega) (by omega) (by omega) (by omega)
    exact T.ck (by omega) (by omega) (T.some trivial)
theorem m45_ok (K : Nat) (hK : 70 ≤ K) (l : List S_Texture) : T (m45 K l) fun _ => True := by
  unfold m45
  refine T.ite (fun _ => T.some trivial) fun g => ?_
  have g' := of_decide_eq_false g
  refine T.loop l.length (m45_l1 K l) (m45_l1b K l) (fun _ => rfl) (fun i s => s = (i : Int)) _ ?_ ?_ K 0 (by omega) rfl
  · rintro i _ rec hi rfl hr
    unfold m45_l1b
    exact T.t (decide_eq_true (by omega)) (T.idx (by omega) (by omega) fun a _ ha => T.bnd (m65_ok K a) fun v _ => T.ite (fun _ => T.some trivial) fun _ => T.ck (by omega) (by omega) (hr _ (by omega)))
  · rintro _ rec rfl
    unfold m45_l1b
    exact T.f (decide_eq_false (by omega)) (T.some trivial)
theorem m32_ok (K : Nat) (hK : 70 ≤ K) (s : S_Show) : T (m32 K s) fun r => r = 0 → s.Items.length ≤ 256 ∧ ∀ it ∈ s.Items, ItemOk it := by
  unfold m32
  refine T.bne (or_some ..) (T.ite (fun _ => T.some fun h => by omega) fun g => T.bnd (m45_ok K hK _) fun v _ => ?_)
  have hl : s.Items.length ≤ 256 := by
    have := of_decide_eq_false (Bool.or_eq_false_iff.1 g).1
    omega
  have h47 : ∀ it ∈ s.Items, m47 K it s = some ((m47 K it s).getD true) ∧ ((m47 K it s).getD true = false → ItemOk it) := by
    intro it _
    obtain ⟨r, e, hr⟩ := m48_ok K hK it (s.Textures.length : Int)
    have e47 : m47 K it s = some (!r) := by unfold m47; rw [e]; rfl
    rw [e47]
    exact ⟨rfl, fun h => hr (by simpa using h)⟩
  have ea := L.any_some (f := fun it => m47 K it s) (p := fun it => (m47 K it s).getD true) s.Items fun it hit => (h47 it hit).1
  refine T.bnd (P := fun b => b = false → ∀ it ∈ s.Items, ItemOk it) (T.ite (fun _ => T.some fun h => by simp at h) fun _ => ?_) fun b hb => T.ite (fun _ => T.some fun h => by omega) fun g => T.some fun _ => ⟨hl, hb g⟩
  refine ⟨_, ea, fun h it hit => (h47 it hit).2 ?_⟩
  have := List.any_eq_false.1 h it hit
  simpa using this
end Go.Proofs.YtobkigllalbkiaaV.D

/- The door's plain law: TopShadow answers true. -/
set_option linter.unusedVariables false
set_option linter.unusedSimpArgs false
namespace Go.Proofs.YtobkigllalbkiaaV.D
open Go.RowKit Go.Proofs.YtobkigllalbkiaaV
/-- What is known of a triangle's item and of its box in view. -/
structure Of (K : Nat) (s : S_Show) (c : S_Camera) (n : Int) (d : Int) (r : Rg) : Prop where
  ex : ∃ (i : Nat) (it : S_Item) (b : S_Box), n = (i : Int) ∧ s.Items[i]? = some it ∧ d = it.Look.Bias ∧ m16 K c it.Box = some (b, 0) ∧ BoxOk b 24576 ∧ r = rng c b
def PartOk (K : Nat) (s : S_Show) (c : S_Camera) (p : S_part) : Prop := ∃ r, Of K s c p.frag.Item p.frag.D r ∧ Tri p.t r
theorem grow6 {a i j n : Nat} (h : a ≤ 384 * i + 6 * j + n) (hn : n ≤ 6) : a ≤ 384 * i + 6 * (j + 1) := by omega
theorem m21_ok (K : Nat) (hK : 1000 ≤ K) (s : S_Show) (c : S_Camera) (hc : Cam c) (e14 : m14 K c = some 0) (hl : s.Items.length ≤ 256) (h : ∀ it ∈ s.Items, ItemOk it) :
    T (m21 K s c) fun r => r.parts.length ≤ 98304 ∧ ∀ p ∈ r.parts, PartOk K s c p := by
  unfold m21
  refine T.loop s.Items.length (fun k st => m21_l1 K s c k st.1 st.2) (fun rec st => m21_l1b K s c (fun a b => rec (a, b)) st.1 st.2) (fun _ => rfl) (fun i st => st.2 = (i : Int) ∧ st.1.length ≤ 384 * i ∧ ∀ p ∈ st.1, PartOk K s c p) _ ?_ ?_ K ([], 0) (by omega) ⟨rfl, by simp, by simp⟩
  · rintro i ⟨row, y⟩ rec hi ⟨hy, hlen, hrow⟩ hr
    dsimp only at hy hlen hrow
    unfold m21_l1b
    dsimp only
    refine T.t (decide_eq_true (by omega)) (T.idx (by omega) (by omega) fun it hit him => ?_)
    rw [hy, show ((i : Int).toNat) = i by omega] at hit
    have ho := h it him
    obtain ⟨⟨b, err⟩, e16, herr, hb, hv⟩ := m16_sp K c hc e14 it.Box ho.box
    dsimp only at herr hb hv
    subst herr
    refine T.loop it.Tris.length (fun k st => m21_l2 K s c y (fun a b => rec (a, b)) it k st.1 st.2) (fun rec2 st => m21_l2b K s c y (fun a b => rec (a, b)) it (fun a b => rec2 (a, b)) st.1 st.2) (fun _ => rfl) (fun j st => st.2 = (j : Int) ∧ st.1.length ≤ 384 * i + 6 * j ∧ ∀ p ∈ st.1, PartOk K s c p) _ ?_ ?_ K (row, 0) (by have := ho.tril; omega) ⟨rfl, hlen, hrow⟩
    · rintro j ⟨row2, y2⟩ rec2 hj ⟨hy2, hlen2, hrow2⟩ hr2
      dsimp only at hy2 hlen2 hrow2
      unfold m21_l2b
      dsimp only
      have tl := ho.tril
      refine T.t (decide_eq_true (by omega)) ?_
      rw [hy, hy2]
      refine T.bnd (m33_ok K (by omega) s c hc e14 i j it hit ho hj b hb hv) fun ps hps => ?_
      obtain ⟨hp6, hpt⟩ := hps
      refine T.loop ps.length (fun k st => m21_l3 K (i : Int) it (j : Int) (fun a b => rec2 (a, b)) ps k st.1 st.2) (fun rec3 st => m21_l3b K (i : Int) it (j : Int) (fun a b => rec2 (a, b)) ps (fun a b => rec3 (a, b)) st.1 st.2) (fun _ => rfl) (fun n st => st.2 = (n : Int) ∧ st.1.length ≤ 384 * i + 6 * j + n ∧ ∀ p ∈ st.1, PartOk K s c p) _ ?_ ?_ K (row2, 0) (by omega) ⟨rfl, hlen2, hrow2⟩
      · rintro n ⟨row3, y3⟩ rec3 hn ⟨hy3, hlen3, hrow3⟩ hr3
        dsimp only at hy3 hlen3 hrow3
        unfold m21_l3b
        dsimp only
        refine T.t (decide_eq_true (by omega)) (T.idx (by omega) (by omega) fun t _ ht => T.apd (by omega) (T.ck (by omega) (by omega) (hr3 _ ⟨by dsimp only; omega, by simp; omega, ?_⟩)))
        intro p hp
        rcases List.mem_append.1 hp with hp | hp
        · exact hrow3 p hp
        · simp at hp; subst hp
          exact ⟨_, ⟨i, it, b, rfl, hit, rfl, e16, hb, rfl⟩, hpt t ht⟩
      · rintro ⟨row3, y3⟩ rec3 ⟨hy3, hlen3, hrow3⟩
        dsimp only at hy3 hlen3 hrow3
        unfold m21_l3b
        dsimp only
        refine T.f (decide_eq_false (by omega)) (T.ck (by omega) (by omega) (hr2 _ ⟨by dsimp only; omega, grow6 hlen3 hp6, hrow3⟩))
    · rintro ⟨row2, y2⟩ rec2 ⟨hy2, hlen2, hrow2⟩
      dsimp only at hy2 hlen2 hrow2
      have tl := ho.tril
      unfold m21_l2b
      dsimp only
      refine T.f (decide_eq_false (by omega)) (T.ck (by omega) (by omega) (hr _ ⟨by dsimp only; omega, by dsimp only; omega, hrow2⟩))
  · rintro ⟨row, y⟩ rec ⟨hy, hlen, hrow⟩
    dsimp only at hy hlen hrow
    unfold m21_l1b
    dsimp only
    exact T.f (decide_eq_false (by omega)) (T.some ⟨by dsimp only; omega, hrow⟩)
/-- What is known of a fragment of the pixel (x, y). -/
structure FragOk (K : Nat) (s : S_Show) (c : S_Camera) (x y : Int) (f : S_Frag) : Prop where
  ex : ∃ (r : Rg) (d0 d : Int), Of K s c f.Item d0 r ∧ f.D = d0 + d ∧ ((r.xl ≤ 8 * x + 4 ∧ 8 * x + 4 ≤ r.xh) ∧ (r.yl ≤ 8 * y + 4 ∧ 8 * y + 4 ≤ r.yh) ∧ 0 ≤ d ∧ d ≤ 65536 ∧ d ≤ r.dm ∧ r.nr ≤ r.fr)
theorem m12_ok (K : Nat) (hK : 4 ≤ K) (s : S_Show) (c : S_Camera) (h : ∀ it ∈ s.Items, ItemOk it) (x y : Int) (hx0 : 0 ≤ x) (hx : x < 64) (hy0 : 0 ≤ y) (hy : y < 64) :
    ∀ (ps : List S_part) (l : List S_Frag), (∀ p ∈ ps, PartOk K s c p) → (∀ f ∈ l, FragOk K s c x y f) → l.length + ps.length ≤ 98304 →
      T (m12 K (fun l f => m13 K f l) x y ps l) fun r => r.length ≤ 98304 ∧ ∀ f ∈ r, FragOk K s c x y f
  | [], l, _, hl, hn => T.some ⟨by simpa using hn, hl⟩
  | p :: ps, l, hp, hl, hn => by
    obtain ⟨r, ho, ht⟩ := hp p (by simp)
    have ho' := ho
    obtain ⟨i, it, b, e1, e2, e3, e4, e5, e6⟩ := ho'.ex
    have io := h it (List.mem_of_getElem? e2)
    have := io.b0; have := io.b1
    simp only [List.length_cons] at hn
    unfold m12
    refine T.bnd (m22_ok K hK p.t r ht x y hx0 hx hy0 hy) fun v hv => T.ite (fun g => ?_) fun _ => m12_ok K hK s c h x y hx0 hx hy0 hy ps l (fun q hq => hp q (by simp [hq])) hl (by omega)
    have hv' := hv (by simpa using g)
    refine T.ck (by omega) (by omega) ?_
    refine T.bnd (P := fun l' => l' = l ++ [⟨p.frag.D + v.1.D, p.frag.Item, p.frag.Tri, p.frag.Part, v.1.U, v.1.V⟩]) ?_ fun l' hl' => ?_
    · unfold m13
      exact T.apd (by omega) (T.some rfl)
    · subst hl'
      refine m12_ok K hK s c h x y hx0 hx hy0 hy ps _ (fun q hq => hp q (by simp [hq])) ?_ (by simp; omega)
      intro f hf
      rcases List.mem_append.1 hf with hf | hf
      · exact hl f hf
      · simp at hf; subst hf
        exact ⟨r, p.frag.D, v.1.D, ho, rfl, hv'⟩
structure Asked (K : Nat) (s : S_Show) (c : S_Camera) (x y : Int) : Prop where
  cam : Cam c
  e14 : m14 K c = some 0
  len : s.Items.length ≤ 256
  items : ∀ it ∈ s.Items, ItemOk it
  x0 : 0 ≤ x
  x1 : x < 64
  y0 : 0 ≤ y
  y1 : y < 64
theorem m6_ok (K : Nat) (hK : 1000 ≤ K) (s : S_Show) (c : S_Camera) (x y : Int) :
    T (m6 K s c x y) fun r => r.2 = 0 → Asked K s c x y ∧ r.1.length ≤ 98304 ∧ ∀ f ∈ r.1, FragOk K s c x y f := by
  unfold m6
  refine T.bnd (P := fun r => r.2 = 0 → Asked K s c x y ∧ r.1.parts.length ≤ 98304 ∧ ∀ p ∈ r.1.parts, PartOk K s c p) ?_ fun v hv => T.ite (fun g => ?_) fun g => T.some fun h => ?_
  · unfold m11
    refine T.bnd (P := fun e => e = 0 → (s.Items.length ≤ 256 ∧ ∀ it ∈ s.Items, ItemOk it) ∧ m14 K c = some 0 ∧ Cam c) ?_ fun e he => T.ite (fun g => T.some fun h => ?_) fun g => ?_
    · unfold m20
      refine T.bnd (m32_ok K (by omega) s) fun v hv => T.ite (fun g => T.some fun h => ?_) fun g => ?_
      · rw [h] at g; simp at g
      · obtain ⟨r, e, hr⟩ := m14_sp K (by omega) c
        refine T.bne e (T.some fun h => ?_)
        subst h
        exact ⟨hv (by simpa using g), e, hr rfl⟩
    · dsimp only at h; rw [h] at g; simp at g
    · obtain ⟨hs, e14, hc⟩ := he (by simpa using g)
      refine T.bne (or_some ..) (T.bne (or_some ..) (T.bne (or_some ..) (T.ite (fun _ => T.some fun h => by dsimp only at h; omega) fun g => ?_)))
      simp only [Bool.or_eq_false_iff, decide_eq_false_iff_not] at g
      have := hc.w1; have := hc.h1
      exact T.bnd (m21_ok K hK s c hc e14 hs.1 hs.2) fun r hr => T.some fun _ => ⟨⟨hc, e14, hs.1, hs.2, by omega, by omega, by omega, by omega⟩, hr⟩
  · have g' : v.2 = 0 := by simpa using g
    obtain ⟨ha, hn, hp⟩ := hv g'
    exact T.bnd (m12_ok K (by omega) s c ha.items x y ha.x0 ha.x1 ha.y0 ha.y1 v.1.parts [] hp (by simp) (by simpa using hn)) fun l hl => T.some fun _ => ⟨ha, hl⟩
  · dsimp only at h; rw [h] at g; simp at g
theorem m5_ok (K : Nat) (hK : 1000 ≤ K) (s : S_Show) : T (m5 K s) fun _ => True := by
  have hm : ∀ n : Nat, 0 ≤ mn (n : Int) 10000 ∧ mn (n : Int) 10000 ≤ 10000 := by
    intro n; have := mn_le (n : Int) 10000; omega
  unfold m5
  refine T.loop (min s.Items.length 300) (fun k st => m5_l1 K s k st.1 st.2) (fun rec st => m5_l1b K s (fun a b => rec (a, b)) st.1 st.2) (fun _ => rfl) (fun i st => st.2 = (i : Int) ∧ 0 ≤ st.1 ∧ st.1 ≤ (i : Int) * 40000) _ ?_ ?_ K (0, 0) (by omega) ⟨rfl, by simp, by simp⟩
  · rintro i ⟨n, y⟩ rec hi ⟨hy, h0, h1⟩ hr
    dsimp only at hy h0 h1
    unfold m5_l1b
    dsimp only
    refine T.bne (v := true) ?_ ?_
    · rw [and_some, nand (by omega) (by omega)]
    refine T.t rfl (T.idx (by omega) (by omega) fun a _ _ => T.idx (by omega) (by omega) fun a' _ _ => ?_)
    have k1 := hm a.Verts.length
    have k2 := hm a'.UV.length
    refine T.ck (by omega) (by omega) (T.idx (by omega) (by omega) fun a'' _ _ => ?_)
    have k3 := hm a''.Tris.length
    exact T.ck (by omega) (by omega) (T.ck (by omega) (by omega) (T.ck (by omega) (by omega) (T.ck (by omega) (by omega) (hr _ ⟨by dsimp only; omega, by dsimp only; omega, by dsimp only; omega⟩))))
  · rintro ⟨n, y⟩ rec ⟨hy, h0, h1⟩
    dsimp only at hy h0 h1
    unfold m5_l1b
    dsimp only
    refine T.bne (v := false) ?_ (T.f rfl ?_)
    · rw [and_some]
      by_cases h : y < (s.Items.length : Int)
      · rw [decide_eq_false (p := y < 300) (by omega), Bool.and_false]
      · rw [decide_eq_false h]; rfl
    refine T.loop (min s.Textures.length 100) (fun k st => m5_l2 K s k st.1 st.2) (fun rec st => m5_l2b K s (fun a b => rec (a, b)) st.1 st.2) (fun _ => rfl) (fun i st => st.2 = (i : Int) ∧ 0 ≤ st.1 ∧ st.1 ≤ 12000000 + (i : Int) * 10000) _ ?_ ?_ K (n, 0) (by omega) ⟨rfl, h0, by dsimp only; omega⟩
    · rintro i ⟨n, y⟩ rec hi ⟨hy, h0, h1⟩ hr
      dsimp only at hy h0 h1
      unfold m5_l2b
      dsimp only
      refine T.bne (v := true) ?_ ?_
      · rw [and_some, nand (by omega) (by omega)]
      refine T.t rfl (T.idx (by omega) (by omega) fun a _ _ => ?_)
      have k1 := hm a.Texels.length
      rw [show Int.tdiv (mn (a.Texels.length : Int) 10000) 20 = mn (a.Texels.length : Int) 10000 / 20 from Int.tdiv_eq_ediv_of_nonneg k1.1]
      exact T.ck (by omega) (by omega) (T.ck (by omega) (by omega) (T.ck (by omega) (by omega) (hr _ ⟨by dsimp only; omega, by dsimp only; omega, by dsimp only; omega⟩)))
    · rintro ⟨n, y⟩ rec ⟨hy, h0, h1⟩
      dsimp only at hy h0 h1
      unfold m5_l2b
      dsimp only
      refine T.bne (v := false) ?_ (T.f rfl ?_)
      · rw [and_some]
        by_cases h : y < (s.Textures.length : Int)
        · rw [decide_eq_false (p := y < 100) (by omega), Bool.and_false]
        · rw [decide_eq_false h]; rfl
      exact T.bne (or_some ..) (T.bne (or_some ..) (T.some trivial))
theorem m7_ok (K : Nat) (r : S_Rect) (x y : Int) : T (m7 K r x y) fun b => b = true ↔ (r.X0 ≤ x ∧ x ≤ r.X1) ∧ (r.Y0 ≤ y ∧ y ≤ r.Y1) := by
  unfold m7
  refine T.bne (and_some ..) (T.bne (and_some ..) (T.bne (and_some ..) (T.some ?_)))
  simp only [Bool.and_eq_true, decide_eq_true_eq]
  omega
theorem m8_ok (K : Nat) (hK : 4 ≤ K) (c : S_Camera) (r : S_Rect) : T (m8 K c r) fun _ => True := by
  unfold m8
  refine T.bnd (m14_sp K hK c) fun v hv => T.ite (fun _ => T.some trivial) fun g => ?_
  have hc := hv (by simpa using g)
  have := hc.w0; have := hc.w1; have := hc.h0; have := hc.h1
  refine T.ck (by omega) (by omega) (T.bne (m15_eq ..) (T.bnd (P := fun _ => True) (T.ite (fun _ => T.some trivial) fun _ => T.ck (by omega) (by omega) (T.bne (m15_eq ..) (T.some trivial))) fun b _ => T.bne (or_some ..) (T.bne (or_some ..) (T.ite (fun _ => T.some trivial) fun _ => T.some trivial))))
theorem m18_f (K : Nat) (g m nr fr a : Int) (hg0 : 1 ≤ g) (hg : g ≤ 512) (hn : 256 ≤ nr) (hf : 256 ≤ fr) (h0 : -24576 ≤ a) (h1 : a ≤ 24576) :
    m18 K ⟨g, m, nr, fr⟩ a false = some (g * a / (if 0 ≤ a then fr else nr)) := by
  have k := mulb (a := g) (b := a) (A := 512) (B := 24576) (by omega) (by omega) (by omega) (by omega)
  apply T.eq
  unfold m18
  dsimp only
  by_cases h : 0 ≤ a
  · rw [if_pos h]
    refine T.f (by rw [decide_eq_true h]; rfl) ?_
    unfold m18_j1
    dsimp only
    exact T.ck (by omega) (by omega) (T.bne (m29_eq K _ _ (by omega) (by omega) (by omega)) (T.some rfl))
  · rw [if_neg h]
    refine T.t (by rw [decide_eq_false h]; rfl) ?_
    unfold m18_j1
    dsimp only
    exact T.ck (by omega) (by omega) (T.bne (m29_eq K _ _ (by omega) (by omega) (by omega)) (T.some rfl))
theorem m18_t (K : Nat) (g m nr fr a : Int) (hg0 : 1 ≤ g) (hg : g ≤ 512) (hn : 256 ≤ nr) (hf : 256 ≤ fr) (h0 : -24576 ≤ a) (h1 : a ≤ 24576) :
    m18 K ⟨g, m, nr, fr⟩ a true = some (g * a / (if 0 ≤ a then nr else fr)) := by
  have k := mulb (a := g) (b := a) (A := 512) (B := 24576) (by omega) (by omega) (by omega) (by omega)
  apply T.eq
  unfold m18
  dsimp only
  by_cases h : 0 ≤ a
  · rw [if_pos h]
    refine T.t (by rw [decide_eq_true h]; rfl) ?_
    unfold m18_j1
    dsimp only
    exact T.ck (by omega) (by omega) (T.bne (m29_eq K _ _ (by omega) (by omega) (by omega)) (T.some rfl))
  · rw [if_neg h]
    refine T.f (by rw [decide_eq_false h]; rfl) ?_
    unfold m18_j1
    dsimp only
    exact T.ck (by omega) (by omega) (T.bne (m29_eq K _ _ (by omega) (by omega) (by omega)) (T.some rfl))
theorem m17_ok (K : Nat) (w : S_way) (a b lo hi x : Int) (ha0 : -1000000 ≤ a) (hb1 : b ≤ 1000000) (h0 : a ≤ 8 * x + 4) (h1 : 8 * x + 4 ≤ b) (h2 : lo ≤ x) (h3 : x ≤ hi) (hx0 : 0 ≤ x) (hx : x < 64) :
    T (m17 K w a b lo hi) fun r => r.1 ≤ x ∧ x ≤ r.2.1 ∧ r.2.2 = true := by
  unfold m17
  refine T.ck (by omega) (by omega) (T.bne (m28_8 K _ (by omega) (by omega)) (T.ck (by omega) (by omega) (T.bne (m29_eq K _ _ (by omega) (by omega) (by omega)) ?_)))
  have k := mx_le ((a - 4 + 7) / 8) lo
  have k2 := mn_le ((b - 4) / 8) hi
  exact T.some ⟨by dsimp only; omega, by dsimp only; omega, decide_eq_true (by dsimp only; omega)⟩
theorem m9_ok (K : Nat) (c : S_Camera) (hc : Cam c) (b v : S_Box) (w : S_Rect) (e16 : m16 K c b = some (v, 0)) (hv : BoxOk v 24576) (e8 : m8 K c w = some 0) (x y : Int) (hx0 : 0 ≤ x) (hx : x < 64) (hy0 : 0 ≤ y) (hy : y < 64)
    (h1 : (rng c v).xl ≤ 8 * x + 4) (h2 : 8 * x + 4 ≤ (rng c v).xh) (h3 : (rng c v).yl ≤ 8 * y + 4) (h4 : 8 * y + 4 ≤ (rng c v).yh) (h5 : (rng c v).nr ≤ (rng c v).fr)
    (w0 : w.X0 ≤ x) (w1 : x ≤ w.X1) (w2 : w.Y0 ≤ y) (w3 : y ≤ w.Y1) :
    T (m9 K c b w) fun r => r.2.1 = true ∧ r.2.2 = 0 ∧ r.1.D = (rng c v).dm ∧ (r.1.Rect.X0 ≤ x ∧ x ≤ r.1.Rect.X1) ∧ (r.1.Rect.Y0 ≤ y ∧ y ≤ r.1.Rect.Y1) := by
  obtain ⟨bx0, bx, bx1, by0, by_, by1, bz0, bz, bz1⟩ := hv
  have f0 := hc.f0; have f1 := hc.f1; have n0 := hc.n0; have n1 := hc.n1; have cw0 := hc.w0; have cw1 := hc.w1; have ch0 := hc.h0; have ch1 := hc.h1
  have mz := mx_le v.Low.Z c.Near
  unfold rng at h1 h2 h3 h4 h5 ⊢
  dsimp only at h1 h2 h3 h4 h5 ⊢
  have nr : 256 ≤ mx v.Low.Z c.Near := by omega
  have fr : 256 ≤ v.High.Z := by omega
  have bd : ∀ (a z : Int), -24576 ≤ a → a ≤ 24576 → 256 ≤ z → -49152 ≤ 8 * c.Focal * a / z ∧ 8 * c.Focal * a / z ≤ 49152 := by
    intro a z ha0 ha1 hz
    have k := mulb (a := 8 * c.Focal) (b := a) (A := 512) (B := 24576) (by omega) (by omega) (by omega) (by omega)
    exact div49 hz (by omega) (by omega)
  have b1 := bd v.Low.X (if 0 ≤ v.Low.X then v.High.Z else mx v.Low.Z c.Near) (by omega) (by omega) (by split <;> omega)
  have b2 := bd v.High.X (if 0 ≤ v.High.X then mx v.Low.Z c.Near else v.High.Z) (by omega) (by omega) (by split <;> omega)
  have b3 := bd v.High.Y (if 0 ≤ v.High.Y then mx v.Low.Z c.Near else v.High.Z) (by omega) (by omega) (by split <;> omega)
  have b4 := bd v.Low.Y (if 0 ≤ v.Low.Y then v.High.Z else mx v.Low.Z c.Near) (by omega) (by omega) (by split <;> omega)
  have td : Int.tdiv 16777216 (mx v.Low.Z c.Near) = 16777216 / mx v.Low.Z c.Near := Int.tdiv_eq_ediv_of_nonneg (by omega)
  have tb := divb (a := 16777216) (b := mx v.Low.Z c.Near) (A := 16777216) (by omega) (by omega) (by omega)
  unfold m9
  refine T.bne e16 (T.f rfl (T.bne e8 (T.f rfl (T.f (decide_eq_false (by dsimp only; omega)) ?_))))
  dsimp only
  iterate 4 refine T.ck (by omega) (by omega) ?_
  refine T.bne (m18_f K _ _ _ _ _ (by omega) (by omega) nr fr (by omega) (by omega)) (T.ck (by omega) (by omega) ?_)
  refine T.bne (m18_t K _ _ _ _ _ (by omega) (by omega) nr fr (by omega) (by omega)) (T.ck (by omega) (by omega) ?_)
  refine T.bnd (m17_ok K _ _ _ _ _ x (by omega) (by omega) h1 h2 w0 w1 hx0 hx) fun u hu => ?_
  refine T.bne (m18_t K _ _ _ _ _ (by omega) (by omega) nr fr (by omega) (by omega)) (T.ck (by omega) (by omega) ?_)
  refine T.bne (m18_f K _ _ _ _ _ (by omega) (by omega) nr fr (by omega) (by omega)) (T.ck (by omega) (by omega) ?_)
  refine T.bnd (m17_ok K _ _ _ _ _ y (by omega) (by omega) h3 h4 w2 w3 hy0 hy) fun u' hu' => ?_
  refine T.bne (v := false) ?_ (T.f rfl (T.nz (by omega) ?_))
  · rw [hu.2.2, hu'.2.2]; rfl
  rw [td]
  exact T.ck (by omega) (by omega) (T.some ⟨rfl, rfl, rfl, ⟨hu.1, hu.2.1⟩, ⟨hu'.1, hu'.2.1⟩⟩)
theorem m3_true (K : Nat) (hK : 100000 ≤ K) (h4 : m4 K = some true) (s : S_Show) (c : S_Camera) (w : S_Rect) (x y : Int) : m3 K s c w x y = some true := by
  apply T.eq
  unfold m3
  refine T.bne h4 (T.bnd (P := fun _ => True) (T.f rfl (T.bnd (m5_ok K (by omega) s) fun _ _ => T.some trivial)) fun _ _ => T.ite (fun _ => T.some rfl) fun _ => ?_)
  refine T.bnd (m6_ok K (by omega) s c x y) fun v hv => ?_
  obtain ⟨wi, e7, h7⟩ := m7_ok K w x y
  obtain ⟨we, e8, _⟩ := m8_ok K (by omega) c w
  refine T.bnd (P := fun b => b = false → v.2 = 0 ∧ wi = true) (T.ite (fun _ => T.some fun h => by simp at h) fun g => T.bne e7 (T.some fun h => ⟨by simpa using g, by simpa using h⟩)) fun b30 h30 => ?_
  refine T.bnd (P := fun b => b = false → b30 = false ∧ we = 0) (T.ite (fun _ => T.some fun h => by simp at h) fun g => T.bne e8 (T.some fun h => ⟨g, by simpa using h⟩)) fun b36 h36 => T.ite (fun _ => T.some rfl) fun g => ?_
  obtain ⟨g30, rfl⟩ := h36 g
  obtain ⟨g2, rfl⟩ := h30 g30
  obtain ⟨ha, hn, hf⟩ := hv g2
  obtain ⟨⟨w0, w1⟩, w2, w3⟩ := h7.1 rfl
  refine T.loop v.1.length (m3_l1 K s c w x y true v) (m3_l1b K s c w x y true v) (fun _ => rfl) (fun i st => st = (i : Int)) _ ?_ ?_ K 0 (by omega) rfl
  · rintro i _ rec hi rfl hr
    unfold m3_l1b
    refine T.t (decide_eq_true (by omega)) (T.idx (by omega) (by omega) fun f hfi hfm => ?_)
    obtain ⟨r, d0, d, ⟨j, it, b, rfl', hit, rfl, e16, hb, rfl⟩, hD, ⟨x0, x1⟩, ⟨y0, y1⟩, k0, k1, k2, k3⟩ := hf f hfm
    have hj : j < s.Items.length := by
      rcases Nat.lt_or_ge j s.Items.length with h | h
      · exact h
      · rw [List.getElem?_eq_none h] at hit; exact absurd hit (by simp)
    refine T.idx (by omega) (by omega) fun it' hit' _ => ?_
    obtain rfl : it = it' := by rw [rfl', show ((j : Int).toNat) = j by omega, hit] at hit'; exact Option.some.inj hit'
    refine T.bnd (m9_ok K c ha.cam it.Box b w e16 hb e8 x y ha.x0 ha.x1 ha.y0 ha.y1 x0 x1 y0 y1 k3 w0 w1 w2 w3) fun sh hsh => ?_
    obtain ⟨s1, s2, s3, s4, s5⟩ := hsh
    refine T.bne (v := false) (by rw [s1, s2]; rfl) ?_
    obtain ⟨bi, ei, hbi⟩ := m7_ok K sh.1.Rect x y
    have hbt : bi = true := hbi.2 ⟨s4, s5⟩
    subst hbt
    refine T.bne (v := false) (by rw [ei]; rfl) ?_
    refine T.bnd (P := fun b => b = false) (T.f rfl (T.idx (by omega) (by omega) fun f' hf' _ => ?_)) fun b96 h96 => T.f h96 (T.ck (by omega) (by omega) (hr _ (by omega)))
    rw [hfi] at hf'
    cases Option.some.inj hf'
    rw [hD, show it.Look.Bias + d - it.Look.Bias = d by omega]
    refine T.ck (by omega) (by omega) (T.some (decide_eq_false ?_))
    rw [s3]; omega
  · rintro _ rec rfl
    unfold m3_l1b
    exact T.f (decide_eq_false (by omega)) (T.some rfl)
end Go.Proofs.YtobkigllalbkiaaV.D

/- Proved: TopShadow returns true, whatever its arguments and the memory that it is called in, and each argument reads behind the call as it did before. No condition. -/
set_option linter.unusedVariables false
namespace Go.Proofs.YtobkigllalbkiaaDoor.TopShadowLaw
open Go.ChangeShapes Go.WideShapes Go.ChangeAt Go.RowKit Go.Proofs.YtobkigllalbkiaaV Go.Proofs.YtobkigllalbkiaaV.D

theorem op3 : Opn Tryd.prog 3 kInt := Opn.int (by kernel_rfl) (by kernel_rfl)
theorem op27 : Opn Tryd.prog 27 k_Vec where
  sz := by kernel_rfl
  down := fun {H enc w fuel cs x} h => by
    have hlen := trod_len (n := 3) (by kernel_rfl) (by kernel_rfl) h
    match cs, hlen, h with
    | [v0, v1, v2], _, h =>
      obtain ⟨n0, y0, t0⟩ := trod_field (i := 0) (T := 3) (off := 0) (sz := 1) (by kernel_rfl) h
      obtain ⟨a0, h0⟩ := op3.down t0
      have h0 : [v0] = [.int .i64 a0] := h0
      simp only [List.cons.injEq, and_true] at h0
      obtain rfl := h0
      obtain ⟨n1, y1, t1⟩ := trod_field (i := 1) (T := 3) (off := 1) (sz := 1) (by kernel_rfl) h
      obtain ⟨a1, h1⟩ := op3.down t1
      have h1 : [v1] = [.int .i64 a1] := h1
      simp only [List.cons.injEq, and_true] at h1
      obtain rfl := h1
      obtain ⟨n2, y2, t2⟩ := trod_field (i := 2) (T := 3) (off := 2) (sz := 1) (by kernel_rfl) h
      obtain ⟨a2, h2⟩ := op3.down t2
      have h2 : [v2] = [.int .i64 a2] := h2
      simp only [List.cons.injEq, and_true] at h2
      obtain rfl := h2
      exact ⟨(⟨a0, a1, a2⟩ : S_Vec), rfl⟩
theorem op42 : Opn Tryd.prog 42 (Kd.slice k_Vec) := Opn.slice (by kernel_rfl) (by kernel_rfl) op27 (by show 0 < 3; omega)
theorem op128 : Opn Tryd.prog 128 k_Ar2_Int where
  sz := by kernel_rfl
  down := fun {H enc w fuel cs x} h => by
    have hlen := trod_len (n := 2) (by kernel_rfl) (by kernel_rfl) h
    match cs, hlen, h with
    | [v0, v1], _, h =>
      obtain ⟨n0, y0, t0⟩ := trod_part (len := 2) (e := 3) (by kernel_rfl) (sz := 1) (by kernel_rfl) 0 (by rfl) h
      obtain ⟨a0, h0⟩ := op3.down t0
      have h0 : [v0] = [.int .i64 a0] := h0
      simp only [List.cons.injEq, and_true] at h0
      obtain rfl := h0
      obtain ⟨n1, y1, t1⟩ := trod_part (len := 2) (e := 3) (by kernel_rfl) (sz := 1) (by kernel_rfl) 1 (by rfl) h
      obtain ⟨a1, h1⟩ := op3.down t1
      have h1 : [v1] = [.int .i64 a1] := h1
      simp only [List.cons.injEq, and_true] at h1
      obtain rfl := h1
      exact ⟨(⟨a0, a1⟩ : (Ar2 Int)), rfl⟩
theorem op43 : Opn Tryd.prog 43 (Kd.slice k_Ar2_Int) := Opn.slice (by kernel_rfl) (by kernel_rfl) op128 (by show 0 < 2; omega)
theorem op28 : Opn Tryd.prog 28 k_Ar3_Int where
  sz := by kernel_rfl
  down := fun {H enc w fuel cs x} h => by
    have hlen := trod_len (n := 3) (by kernel_rfl) (by kernel_rfl) h
    match cs, hlen, h with
    | [v0, v1, v2], _, h =>
      obtain ⟨n0, y0, t0⟩ := trod_part (len := 3) (e := 3) (by kernel_rfl) (sz := 1) (by kernel_rfl) 0 (by rfl) h
      obtain ⟨a0, h0⟩ := op3.down t0
      have h0 : [v0] = [.int .i64 a0] := h0
      simp only [List.cons.injEq, and_true] at h0
      obtain rfl := h0
      obtain ⟨n1, y1, t1⟩ := trod_part (len := 3) (e := 3) (by kernel_rfl) (sz := 1) (by kernel_rfl) 1 (by rfl) h
      obtain ⟨a1, h1⟩ := op3.down t1
      have h1 : [v1] = [.int .i64 a1] := h1
      simp only [List.cons.injEq, and_true] at h1
      obtain rfl := h1
      obtain ⟨n2, y2, t2⟩ := trod_part (len := 3) (e := 3) (by kernel_rfl) (sz := 1) (by kernel_rfl) 2 (by rfl) h
      obtain ⟨a2, h2⟩ := op3.down t2
      have h2 : [v2] = [.int .i64 a2] := h2
      simp only [List.cons.injEq, and_true] at h2
      obtain rfl := h2
      exact ⟨(⟨a0, a1, a2⟩ : (Ar3 Int)), rfl⟩
theorem op44 : Opn Tryd.prog 44 (Kd.slice k_Ar3_Int) := Opn.slice (by kernel_rfl) (by kernel_rfl) op28 (by show 0 < 3; omega)
theorem op5 : Opn Tryd.prog 5 kI_u8 := Opn.int (by kernel_rfl) (by kernel_rfl)
theorem op46 : Opn Tryd.prog 46 k_Ar4_Int where
  sz := by kernel_rfl
  down := fun {H enc w fuel cs x} h => by
    have hlen := trod_len (n := 4) (by kernel_rfl) (by kernel_rfl) h
    match cs, hlen, h with
    | [v0, v1, v2, v3], _, h =>
      obtain ⟨n0, y0, t0⟩ := trod_part (len := 4) (e := 5) (by kernel_rfl) (sz := 1) (by kernel_rfl) 0 (by rfl) h
      obtain ⟨a0, h0⟩ := op5.down t0
      have h0 : [v0] = [.int .u8 a0] := h0
      simp only [List.cons.injEq, and_true] at h0
      obtain rfl := h0
      obtain ⟨n1, y1, t1⟩ := trod_part (len := 4) (e := 5) (by kernel_rfl) (sz := 1) (by kernel_rfl) 1 (by rfl) h
      obtain ⟨a1, h1⟩ := op5.down t1
      have h1 : [v1] = [.int .u8 a1] := h1
      simp only [List.cons.injEq, and_true] at h1
      obtain rfl := h1
      obtain ⟨n2, y2, t2⟩ := trod_part (len := 4) (e := 5) (by kernel_rfl) (sz := 1) (by kernel_rfl) 2 (by rfl) h
      obtain ⟨a2, h2⟩ := op5.down t2
      have h2 : [v2] = [.int .u8 a2] := h2
      simp only [List.cons.injEq, and_true] at h2
      obtain rfl := h2
      obtain ⟨n3, y3, t3⟩ := trod_part (len := 4) (e := 5) (by kernel_rfl) (sz := 1) (by kernel_rfl) 3 (by rfl) h
      obtain ⟨a3, h3⟩ := op5.down t3
      have h3 : [v3] = [.int .u8 a3] := h3
      simp only [List.cons.injEq, and_true] at h3
      obtain rfl := h3
      exact ⟨(⟨a0, a1, a2, a3⟩ : (Ar4 Int)), rfl⟩
theorem op4 : Opn Tryd.prog 4 kBool := Opn.bool (by kernel_rfl) (by kernel_rfl)
theorem op48 : Opn Tryd.prog 48 k_Look where
  sz := by kernel_rfl
  down := fun {H enc w fuel cs x} h => by
    have hlen := trod_len (n := 9) (by kernel_rfl) (by kernel_rfl) h
    match cs, hlen, h with
    | [v0, v1, v2, v3, v4, v5, v6, v7, v8], _, h =>
      obtain ⟨n0, y0, t0⟩ := trod_field (i := 0) (T := 46) (off := 0) (sz := 4) (by kernel_rfl) h
      obtain ⟨a0, h0⟩ := op46.down t0
      have h0 : [v0, v1, v2, v3] = [.int .u8 a0.a0, .int .u8 a0.a1, .int .u8 a0.a2, .int .u8 a0.a3] := h0
      simp only [List.cons.injEq, and_true] at h0
      obtain ⟨rfl, rfl, rfl, rfl⟩ := h0
      obtain ⟨n1, y1, t1⟩ := trod_field (i := 1) (T := 3) (off := 4) (sz := 1) (by kernel_rfl) h
      obtain ⟨a1, h1⟩ := op3.down t1
      have h1 : [v4] = [.int .i64 a1] := h1
      simp only [List.cons.injEq, and_true] at h1
      obtain rfl := h1
      obtain ⟨n2, y2, t2⟩ := trod_field (i := 2) (T := 5) (off := 5) (sz := 1) (by kernel_rfl) h
      obtain ⟨a2, h2⟩ := op5.down t2
      have h2 : [v5] = [.int .u8 a2] := h2
      simp only [List.cons.injEq, and_true] at h2
      obtain rfl := h2
      obtain ⟨n3, y3, t3⟩ := trod_field (i := 3) (T := 3) (off := 6) (sz := 1) (by kernel_rfl) h
      obtain ⟨a3, h3⟩ := op3.down t3
      have h3 : [v6] = [.int .i64 a3] := h3
      simp only [List.cons.injEq, and_true] at h3
      obtain rfl := h3
      obtain ⟨n4, y4, t4⟩ := trod_field (i := 4) (T := 4) (off := 7) (sz := 1) (by kernel_rfl) h
      obtain ⟨a4, h4⟩ := op4.down t4
      have h4 : [v7] = [.bool a4] := h4
      simp only [List.cons.injEq, and_true] at h4
      obtain rfl := h4
      obtain ⟨n5, y5, t5⟩ := trod_field (i := 5) (T := 3) (off := 8) (sz := 1) (by kernel_rfl) h
      obtain ⟨a5, h5⟩ := op3.down t5
      have h5 : [v8] = [.int .i64 a5] := h5
      simp only [List.cons.injEq, and_true] at h5
      obtain rfl := h5
      exact ⟨(⟨a0, a1, a2, a3, a4, a5⟩ : S_Look), rfl⟩
theorem op50 : Opn Tryd.prog 50 k_Box where
  sz := by kernel_rfl
  down := fun {H enc w fuel cs x} h => by
    have hlen := trod_len (n := 6) (by kernel_rfl) (by kernel_rfl) h
    match cs, hlen, h with
    | [v0, v1, v2, v3, v4, v5], _, h =>
      obtain ⟨n0, y0, t0⟩ := trod_field (i := 0) (T := 27) (off := 0) (sz := 3) (by kernel_rfl) h
      obtain ⟨a0, h0⟩ := op27.down t0
      have h0 : [v0, v1, v2] = [.int .i64 a0.X, .int .i64 a0.Y, .int .i64 a0.Z] := h0
      simp only [List.cons.injEq, and_true] at h0
      obtain ⟨rfl, rfl, rfl⟩ := h0
      obtain ⟨n1, y1, t1⟩ := trod_field (i := 1) (T := 27) (off := 3) (sz := 3) (by kernel_rfl) h
      obtain ⟨a1, h1⟩ := op27.down t1
      have h1 : [v3, v4, v5] = [.int .i64 a1.X, .int .i64 a1.Y, .int .i64 a1.Z] := h1
      simp only [List.cons.injEq, and_true] at h1
      obtain ⟨rfl, rfl, rfl⟩ := h1
      exact ⟨(⟨a0, a1⟩ : S_Box), rfl⟩
theorem op52 : Opn Tryd.prog 52 k_Item where
  sz := by kernel_rfl
  down := fun {H enc w fuel cs x} h => by
    have hlen := trod_len (n := 18) (by kernel_rfl) (by kernel_rfl) h
    match cs, hlen, h with
    | [v0, v1, v2, v3, v4, v5, v6, v7, v8, v9, v10, v11, v12, v13, v14, v15, v16, v17], _, h =>
      obtain ⟨n0, y0, t0⟩ := trod_field (i := 0) (T := 42) (off := 0) (sz := 1) (by kernel_rfl) h
      obtain ⟨a0, h0⟩ := op42.down t0
      obtain ⟨A0_0, c0_0, h0, hR0_0⟩ := h0
      have h0 : [v0] = [.slice A0_0 a0.length c0_0] := h0
      simp only [List.cons.injEq, and_true] at h0
      obtain rfl := h0
      obtain ⟨n1, y1, t1⟩ := trod_field (i := 1) (T := 43) (off := 1) (sz := 1) (by kernel_rfl) h
      obtain ⟨a1, h1⟩ := op43.down t1
      obtain ⟨A1_0, c1_0, h1, hR1_0⟩ := h1
      have h1 : [v1] = [.slice A1_0 a1.length c1_0] := h1
      simp only [List.cons.injEq, and_true] at h1
      obtain rfl := h1
      obtain ⟨n2, y2, t2⟩ := trod_field (i := 2) (T := 44) (off := 2) (sz := 1) (by kernel_rfl) h
      obtain ⟨a2, h2⟩ := op44.down t2
      obtain ⟨A2_0, c2_0, h2, hR2_0⟩ := h2
      have h2 : [v2] = [.slice A2_0 a2.length c2_0] := h2
      simp only [List.cons.injEq, and_true] at h2
      obtain rfl := h2
      obtain ⟨n3, y3, t3⟩ := trod_field (i := 3) (T := 48) (off := 3) (sz := 9) (by kernel_rfl) h
      obtain ⟨a3, h3⟩ := op48.down t3
      have h3 : [v3, v4, v5, v6, v7, v8, v9, v10, v11] = [.int .u8 a3.Color.a0, .int .u8 a3.Color.a1, .int .u8 a3.Color.a2, .int .u8 a3.Color.a3, .int .i64 a3.Texture, .int .u8 a3.Cull, .int .i64 a3.Bias, .bool a3.Blend, .int .i64 a3.Bin] := h3
      simp only [List.cons.injEq, and_true] at h3
      obtain ⟨rfl, rfl, rfl, rfl, rfl, rfl, rfl, rfl, rfl⟩ := h3
      obtain ⟨n4, y4, t4⟩ := trod_field (i := 4) (T := 50) (off := 12) (sz := 6) (by kernel_rfl) h
      obtain ⟨a4, h4⟩ := op50.down t4
      have h4 : [v12, v13, v14, v15, v16, v17] = [.int .i64 a4.Low.X, .int .i64 a4.Low.Y, .int .i64 a4.Low.Z, .int .i64 a4.High.X, .int .i64 a4.High.Y, .int .i64 a4.High.Z] := h4
      simp only [List.cons.injEq, and_true] at h4
      obtain ⟨rfl, rfl, rfl, rfl, rfl, rfl⟩ := h4
      exact ⟨(⟨a0, a1, a2, a3, a4⟩ : S_Item), A0_0, c0_0, A1_0, c1_0, A2_0, c2_0, rfl, hR0_0, hR1_0, hR2_0⟩
theorem op22 : Opn Tryd.prog 22 (Kd.slice k_Item) := Opn.slice (by kernel_rfl) (by kernel_rfl) op52 (by show 0 < 18; omega)
theorem op62 : Opn Tryd.prog 62 (Kd.slice k_Ar4_Int) := Opn.slice (by kernel_rfl) (by kernel_rfl) op46 (by show 0 < 4; omega)
theorem op64 : Opn Tryd.prog 64 k_Texture where
  sz := by kernel_rfl
  down := fun {H enc w fuel cs x} h => by
    have hlen := trod_len (n := 3) (by kernel_rfl) (by kernel_rfl) h
    match cs, hlen, h with
    | [v0, v1, v2], _, h =>
      obtain ⟨n0, y0, t0⟩ := trod_field (i := 0) (T := 3) (off := 0) (sz := 1) (by kernel_rfl) h
      obtain ⟨a0, h0⟩ := op3.down t0
      have h0 : [v0] = [.int .i64 a0] := h0
      simp only [List.cons.injEq, and_true] at h0
      obtain rfl := h0
      obtain ⟨n1, y1, t1⟩ := trod_field (i := 1) (T := 3) (off := 1) (sz := 1) (by kernel_rfl) h
      obtain ⟨a1, h1⟩ := op3.down t1
      have h1 : [v1] = [.int .i64 a1] := h1
      simp only [List.cons.injEq, and_true] at h1
      obtain rfl := h1
      obtain ⟨n2, y2, t2⟩ := trod_field (i := 2) (T := 62) (off := 2) (sz := 1) (by kernel_rfl) h
      obtain ⟨a2, h2⟩ := op62.down t2
      obtain ⟨A2_0, c2_0, h2, hR2_0⟩ := h2
      have h2 : [v2] = [.slice A2_0 a2.length c2_0] := h2
      simp only [List.cons.injEq, and_true] at h2
      obtain rfl := h2
      exact ⟨(⟨a0, a1, a2⟩ : S_Texture), A2_0, c2_0, rfl, hR2_0⟩
theorem op23 : Opn Tryd.prog 23 (Kd.slice k_Texture) := Opn.slice (by kernel_rfl) (by kernel_rfl) op64 (by show 0 < 3; omega)
theorem op25 : Opn Tryd.prog 25 k_Show where
  sz := by kernel_rfl
  down := fun {H enc w fuel cs x} h => by
    have hlen := trod_len (n := 2) (by kernel_rfl) (by kernel_rfl) h
    match cs, hlen, h with
    | [v0, v1], _, h =>
      obtain ⟨n0, y0, t0⟩ := trod_field (i := 0) (T := 22) (off := 0) (sz := 1) (by kernel_rfl) h
      obtain ⟨a0, h0⟩ := op22.down t0
      obtain ⟨A0_0, c0_0, h0, hR0_0⟩ := h0
      have h0 : [v0] = [.slice A0_0 a0.length c0_0] := h0
      simp only [List.cons.injEq, and_true] at h0
      obtain rfl := h0
      obtain ⟨n1, y1, t1⟩ := trod_field (i := 1) (T := 23) (off := 1) (sz := 1) (by kernel_rfl) h
      obtain ⟨a1, h1⟩ := op23.down t1
      obtain ⟨A1_0, c1_0, h1, hR1_0⟩ := h1
      have h1 : [v1] = [.slice A1_0 a1.length c1_0] := h1
      simp only [List.cons.injEq, and_true] at h1
      obtain rfl := h1
      exact ⟨(⟨a0, a1⟩ : S_Show), A0_0, c0_0, A1_0, c1_0, rfl, hR0_0, hR1_0⟩
theorem op29 : Opn Tryd.prog 29 k_Ar3_Ar3Int where
  sz := by kernel_rfl
  down := fun {H enc w fuel cs x} h => by
    have hlen := trod_len (n := 9) (by kernel_rfl) (by kernel_rfl) h
    match cs, hlen, h with
    | [v0, v1, v2, v3, v4, v5, v6, v7, v8], _, h =>
      obtain ⟨n0, y0, t0⟩ := trod_part (len := 3) (e := 28) (by kernel_rfl) (sz := 3) (by kernel_rfl) 0 (by rfl) h
      obtain ⟨a0, h0⟩ := op28.down t0
      have h0 : [v0, v1, v2] = [.int .i64 a0.a0, .int .i64 a0.a1, .int .i64 a0.a2] := h0
      simp only [List.cons.injEq, and_true] at h0
      obtain ⟨rfl, rfl, rfl⟩ := h0
      obtain ⟨n1, y1, t1⟩ := trod_part (len := 3) (e := 28) (by kernel_rfl) (sz := 3) (by kernel_rfl) 1 (by rfl) h
      obtain ⟨a1, h1⟩ := op28.down t1
      have h1 : [v3, v4, v5] = [.int .i64 a1.a0, .int .i64 a1.a1, .int .i64 a1.a2] := h1
      simp only [List.cons.injEq, and_true] at h1
      obtain ⟨rfl, rfl, rfl⟩ := h1
      obtain ⟨n2, y2, t2⟩ := trod_part (len := 3) (e := 28) (by kernel_rfl) (sz := 3) (by kernel_rfl) 2 (by rfl) h
      obtain ⟨a2, h2⟩ := op28.down t2
      have h2 : [v6, v7, v8] = [.int .i64 a2.a0, .int .i64 a2.a1, .int .i64 a2.a2] := h2
      simp only [List.cons.injEq, and_true] at h2
      obtain ⟨rfl, rfl, rfl⟩ := h2
      exact ⟨(⟨a0, a1, a2⟩ : (Ar3 (Ar3 Int))), rfl⟩
theorem op31 : Opn Tryd.prog 31 k_Camera where
  sz := by kernel_rfl
  down := fun {H enc w fuel cs x} h => by
    have hlen := trod_len (n := 16) (by kernel_rfl) (by kernel_rfl) h
    match cs, hlen, h with
    | [v0, v1, v2, v3, v4, v5, v6, v7, v8, v9, v10, v11, v12, v13, v14, v15], _, h =>
      obtain ⟨n0, y0, t0⟩ := trod_field (i := 0) (T := 27) (off := 0) (sz := 3) (by kernel_rfl) h
      obtain ⟨a0, h0⟩ := op27.down t0
      have h0 : [v0, v1, v2] = [.int .i64 a0.X, .int .i64 a0.Y, .int .i64 a0.Z] := h0
      simp only [List.cons.injEq, and_true] at h0
      obtain ⟨rfl, rfl, rfl⟩ := h0
      obtain ⟨n1, y1, t1⟩ := trod_field (i := 1) (T := 29) (off := 3) (sz := 9) (by kernel_rfl) h
      obtain ⟨a1, h1⟩ := op29.down t1
      have h1 : [v3, v4, v5, v6, v7, v8, v9, v10, v11] = [.int .i64 a1.a0.a0, .int .i64 a1.a0.a1, .int .i64 a1.a0.a2, .int .i64 a1.a1.a0, .int .i64 a1.a1.a1, .int .i64 a1.a1.a2, .int .i64 a1.a2.a0, .int .i64 a1.a2.a1, .int .i64 a1.a2.a2] := h1
      simp only [List.cons.injEq, and_true] at h1
      obtain ⟨rfl, rfl, rfl, rfl, rfl, rfl, rfl, rfl, rfl⟩ := h1
      obtain ⟨n2, y2, t2⟩ := trod_field (i := 2) (T := 3) (off := 12) (sz := 1) (by kernel_rfl) h
      obtain ⟨a2, h2⟩ := op3.down t2
      have h2 : [v12] = [.int .i64 a2] := h2
      simp only [List.cons.injEq, and_true] at h2
      obtain rfl := h2
      obtain ⟨n3, y3, t3⟩ := trod_field (i := 3) (T := 3) (off := 13) (sz := 1) (by kernel_rfl) h
      obtain ⟨a3, h3⟩ := op3.down t3
      have h3 : [v13] = [.int .i64 a3] := h3
      simp only [List.cons.injEq, and_true] at h3
      obtain rfl := h3
      obtain ⟨n4, y4, t4⟩ := trod_field (i := 4) (T := 3) (off := 14) (sz := 1) (by kernel_rfl) h
      obtain ⟨a4, h4⟩ := op3.down t4
      have h4 : [v14] = [.int .i64 a4] := h4
      simp only [List.cons.injEq, and_true] at h4
      obtain rfl := h4
      obtain ⟨n5, y5, t5⟩ := trod_field (i := 5) (T := 3) (off := 15) (sz := 1) (by kernel_rfl) h
      obtain ⟨a5, h5⟩ := op3.down t5
      have h5 : [v15] = [.int .i64 a5] := h5
      simp only [List.cons.injEq, and_true] at h5
      obtain rfl := h5
      exact ⟨(⟨a0, a1, a2, a3, a4, a5⟩ : S_Camera), rfl⟩
theorem op33 : Opn Tryd.prog 33 k_Rect where
  sz := by kernel_rfl
  down := fun {H enc w fuel cs x} h => by
    have hlen := trod_len (n := 4) (by kernel_rfl) (by kernel_rfl) h
    match cs, hlen, h with
    | [v0, v1, v2, v3], _, h =>
      obtain ⟨n0, y0, t0⟩ := trod_field (i := 0) (T := 3) (off := 0) (sz := 1) (by kernel_rfl) h
      obtain ⟨a0, h0⟩ := op3.down t0
      have h0 : [v0] = [.int .i64 a0] := h0
      simp only [List.cons.injEq, and_true] at h0
      obtain rfl := h0
      obtain ⟨n1, y1, t1⟩ := trod_field (i := 1) (T := 3) (off := 1) (sz := 1) (by kernel_rfl) h
      obtain ⟨a1, h1⟩ := op3.down t1
      have h1 : [v1] = [.int .i64 a1] := h1
      simp only [List.cons.injEq, and_true] at h1
      obtain rfl := h1
      obtain ⟨n2, y2, t2⟩ := trod_field (i := 2) (T := 3) (off := 2) (sz := 1) (by kernel_rfl) h
      obtain ⟨a2, h2⟩ := op3.down t2
      have h2 : [v2] = [.int .i64 a2] := h2
      simp only [List.cons.injEq, and_true] at h2
      obtain rfl := h2
      obtain ⟨n3, y3, t3⟩ := trod_field (i := 3) (T := 3) (off := 3) (sz := 1) (by kernel_rfl) h
      obtain ⟨a3, h3⟩ := op3.down t3
      have h3 : [v3] = [.int .i64 a3] := h3
      simp only [List.cons.injEq, and_true] at h3
      obtain rfl := h3
      exact ⟨(⟨a0, a1, a2, a3⟩ : S_Rect), rfl⟩
theorem own : ownKnob Tryd.prog.godebug = none := by kernel_rfl
theorem laidOut : laidOutB Tryd.prog = true := by kernel_rfl
theorem said (a0 : S_Show) (a1 : S_Camera) (a2 : S_Rect) (a3 : Int) (a4 : Int) : m3 100000 a0 a1 a2 a3 a4 = some true := (m3_true 100000 (by decide) (by kernel_rfl) a0 a1 a2 a3 a4)
theorem readable : ∀ t ∈ Tryd.f3.params.toList, Tryd.prog.readableRec t = true ∧ t < Tryd.prog.types.size := by
  rw [Tryd.params3]
  intro t ht
  simp only [List.mem_cons, List.not_mem_nil, or_false] at ht
  rcases ht with rfl | rfl | rfl | rfl | rfl <;> exact ⟨by kernel_rfl, of_decide_eq_true (by kernel_rfl)⟩
/-- The heap that the door's own run leaves meets the condition. -/
theorem door_met (os : Os) (args : Array Value) : laidMetH Tryd.prog Rows.topShadowRow.laid ((World.doorLaid Tryd.prog 16 os).forCall (fun _ _ => 0) ⟨#[], args, []⟩).memory :=
  laidMetH_of_parts3 (fuel := 8) (laidMet_of_run' 8 (by kernel_rfl) (by kernel_rfl)) (by kernel_rfl) (by kernel_rfl)
theorem gN : Tryd.prog.globalNamed "diorama/frustum.world" = some 0 := by kernel_rfl
theorem gT : (Tryd.prog.globals[0]?).map (·.type) = some 50 := by kernel_rfl
theorem three {l : List Value} {a b c : Value} (hl : l.length = 3) (h0 : (l.drop 0).take 1 = [a]) (h1 : (l.drop 1).take 1 = [b]) (h2 : (l.drop 2).take 1 = [c]) : l = [a, b, c] := by
  match l, hl with
  | [v0, v1, v2], _ => simp_all
/-- Three numbers that read as known. -/
theorem vec_of {W : World} {n : Nat} {cs : List Value} {x : DataW Unit × List MemPlace} {a b c : Int} (h : DataW.trod (fun _ => ()) Tryd.prog W 0 (fun _ => true) false n 27 cs = some x)
    (hx : x.1 = .agg [.lit (.int .i64 a), .lit (.int .i64 b), .lit (.int .i64 c)]) : cs = [.int .i64 a, .int .i64 b, .int .i64 c] := by
  obtain ⟨y0, y1, y2, n', rfl, hl, h0, h1, h2⟩ := Go.Deep.trod_struct3 Tryd.underlying27 h
  have c3 : Tryd.prog.cellsOf 3 = 1 := by kernel_rfl
  have c27 : Tryd.prog.cellsOf 27 = 3 := by kernel_rfl
  rw [c27] at hl
  obtain ⟨s0, e0, rfl, _⟩ := DataW.trod_int Tryd.underlying3 h0
  obtain ⟨s1, e1, rfl, _⟩ := DataW.trod_int Tryd.underlying3 h1
  obtain ⟨s2, e2, rfl, _⟩ := DataW.trod_int Tryd.underlying3 h2
  rw [c3] at e0 e1 e2
  have e := three hl e0 e1 e2
  simp only [DataW.agg.injEq, DataW.lit.injEq, Lit.int.injEq, List.cons.injEq, and_true, true_and] at hx
  obtain ⟨rfl, rfl, rfl⟩ := hx
  exact e
theorem six {l : List Value} {a b c d e f : Value} (hl : l.length = 6) (h0 : (l.drop 0).take 3 = [a, b, c]) (h1 : (l.drop 3).take 3 = [d, e, f]) : l = [a, b, c, d, e, f] := by
  match l, hl with
  | [v0, v1, v2, v3, v4, v5], _ => simp_all
/-- What the listed variable gives the walk: its six cells. -/
theorem of_laid {W : World} (h : laidMetH Tryd.prog Rows.topShadowRow.laid W) : (RE.cells 0 0 L3_0).rel W okT := by
  rw [MakeChecks.laidMetH_plain _ _ _ (by kernel_rfl)] at h
  obtain ⟨ps, ⟨g, t, cs, f, p, q, hg, ht, hv, hd, _, _⟩, _, _⟩ := h
  obtain rfl := Option.some.inj (gN.symm.trans hg)
  obtain rfl := Option.some.inj (gT.symm.trans ht)
  obtain ⟨y0, y1, n', hx, hl, h0, h1⟩ := trod_struct2 Tryd.underlying50 hd
  have c27 : Tryd.prog.cellsOf 27 = 3 := by kernel_rfl
  have c50 : Tryd.prog.cellsOf 50 = 6 := by kernel_rfl
  rw [c50] at hl
  rw [Prod.mk.injEq] at hx
  have hx1 := hx.1
  unfold Rows.laid_diorama_frustum_world at hx1
  simp only [DataW.agg.injEq, List.cons.injEq, and_true] at hx1
  have k0 := vec_of h0 hx1.1.symm
  have k1 := vec_of h1 hx1.2.symm
  rw [c27] at k0 k1
  have e6 := six hl k0 k1
  have hc := World.var?_cell hg hv
  refine ⟨?_, ?_⟩
  · have h0 := hc 0
    simp only [World.cell?] at h0
    cases hb : W.heap[0]? with
    | none =>
      have e0 : cs[0]? = some (.int .i64 (-4096)) := by rw [← Array.getElem?_toList, e6]; rfl
      rw [e0] at h0
      simp [hb] at h0
    | some o => exact ⟨o, hb, trivial⟩
  · intro j v hj
    rw [Nat.zero_add, hc j, ← Array.getElem?_toList, e6]
    exact hj

set_option maxRecDepth 100000 in
theorem lifted (os : Os) (started : os.Started) (H : Type) (enc : TypeId × Value → H) :
    ReturnsInHanded {} Tryd.checked os 3 .any (fun w args => (Rows.topShadowSpec.pre enc Tryd.prog Tryd.f3 Rows.topShadowRow.domain false w args ∧ laidMetH Tryd.prog Rows.topShadowRow.laid w) ∧ sizedMet enc Tryd.prog Tryd.f3 (OpenSpec.ofChange Rows.topShadowSpec) false w args)
      (Rows.topShadowSpec.post enc Tryd.prog Tryd.f3 false true false false) := by
  refine returnsInHanded_of_change_and (C := Tryd.checked) (X := fun w _ => laidMetH Tryd.prog Rows.topShadowRow.laid w) (fun _ _ _ hh h => h.of_heap hh) own started (by kernel_rfl) Tryd.func3
    (ChangeSpec.witness_shaped (enc := enc) (C := Tryd.checked) (os := os) (X := fun w _ => laidMetH Tryd.prog Rows.topShadowRow.laid w) false (World.doorLaid Tryd.prog 16 os) #[.agg #[.slice none 0 0, .slice none 0 0], .agg #[.int .i64 0, .int .i64 0, .int .i64 0, .int .i64 0, .int .i64 0, .int .i64 0, .int .i64 0, .int .i64 0, .int .i64 0, .int .i64 0, .int .i64 0, .int .i64 0, .int .i64 0, .int .i64 0, .int .i64 0, .int .i64 0], .agg #[.int .i64 0, .int .i64 0, .int .i64 0, .int .i64 0], .int .i64 0, .int .i64 0] 8 rfl (World.shaped_of_RefB (by kernel_rfl) (by kernel_rfl)) (by kernel_rfl) (by kernel_rfl) (by kernel_rfl) (door_met os _)) ?_
  intro W base args ds gs before hval0 hW hcnd _ hL _
  have hW' := hW
  obtain ⟨p, q, hA0, hV, rfl, hfz, hnd⟩ := hW
  have hA : DataW.TrodAll enc Tryd.prog W 0 (fun _ => true) true Tryd.f3.params.toList args.toList ds p := hA0
  have hlt : ∀ x ∈ p, x.block < W.heap.size := fun x hx => hW'.lt x (List.mem_append.2 (.inl hx))
  rw [Tryd.params3] at hA
  obtain ⟨v0, vs0, d0, ds0, p0, q0, e0, rfl, rfl, h0, hA⟩ := trodAll_cons hA
  obtain ⟨v1, vs1, d1, ds1, p1, q1, e1, rfl, rfl, h1, hA⟩ := trodAll_cons hA
  obtain ⟨v2, vs2, d2, ds2, p2, q2, e2, rfl, rfl, h2, hA⟩ := trodAll_cons hA
  obtain ⟨v3, vs3, d3, ds3, p3, q3, e3, rfl, rfl, h3, hA⟩ := trodAll_cons hA
  obtain ⟨v4, vs4, d4, ds4, p4, q4, e4, rfl, rfl, h4, hA⟩ := trodAll_cons hA
  obtain ⟨rfl, rfl, rfl⟩ := trodAll_nil hA
  subst e4
  subst e3
  subst e2
  subst e1
  obtain rfl : args = #[v0, v1, v2, v3, v4] := by cases args; simp_all
  obtain ⟨cs0, a0, rfl, k0⟩ := arg_agg op25 (by kernel_rfl) (hval0 0 25 v0 rfl rfl) h0
  obtain ⟨A0_0, c0_0, A0_1, c0_1, k0, hR0_0, hR0_1⟩ := k0
  have k0 : cs0 = [.slice A0_0 a0.Items.length c0_0, .slice A0_1 a0.Textures.length c0_1] := k0
  subst k0
  obtain ⟨cs1, a1, rfl, k1⟩ := arg_agg op31 (by kernel_rfl) (hval0 1 31 v1 rfl rfl) h1
  have k1 : cs1 = [.int .i64 a1.Pos.X, .int .i64 a1.Pos.Y, .int .i64 a1.Pos.Z, .int .i64 a1.M.a0.a0, .int .i64 a1.M.a0.a1, .int .i64 a1.M.a0.a2, .int .i64 a1.M.a1.a0, .int .i64 a1.M.a1.a1, .int .i64 a1.M.a1.a2, .int .i64 a1.M.a2.a0, .int .i64 a1.M.a2.a1, .int .i64 a1.M.a2.a2, .int .i64 a1.Focal, .int .i64 a1.Near, .int .i64 a1.W, .int .i64 a1.H] := k1
  subst k1
  obtain ⟨cs2, a2, rfl, k2⟩ := arg_agg op33 (by kernel_rfl) (hval0 2 33 v2 rfl rfl) h2
  have k2 : cs2 = [.int .i64 a2.X0, .int .i64 a2.Y0, .int .i64 a2.X1, .int .i64 a2.Y1] := k2
  subst k2
  obtain ⟨a3, rfl, wf3⟩ := arg_int (k := .i64) Tryd.underlying3 (hval0 3 3 v3 rfl rfl) h3
  obtain ⟨a4, rfl, wf4⟩ := arg_int (k := .i64) Tryd.underlying3 (hval0 4 3 v4 rfl rfl) h4
  obtain ⟨rfl, rfl⟩ := trodVars_none hV
  simp only [List.append_nil] at hW' hlt
  refine (c3 okT 100000 W a0 A0_0 c0_0 A0_1 c0_1 a1 a2 a3 a4 hR0_0 hR0_1 (of_laid hL) true (said a0 a1 a2 a3 a4)).mono fun e W' ⟨he, hg⟩ => ?_
  subst he
  exact ⟨_, rfl, post_below (pv := []) hW' (fun _ _ _ => (trodAll_cons_mk (shut_bool Tryd.underlying4 _) trodAll_mk0)) (fun sp hsp => trodAll_stays laidOut hg.base readable hA0 (by simpa using hlt) (fun x hx => hsp x (by simpa using hx))) (fun _ _ => rfl) (by simp) hg.base
    (ok_one (by kernel_rfl) rfl (okWide_bool_mk Tryd.underlying4 _))⟩
theorem over : Rows.topShadowRow.holds Tryd.pinned (OpenSpec.ofChange Rows.topShadowSpec) :=
  OpenClaim.holds_of_wide 3 Tryd.f3 rfl rfl rfl rfl rfl rfl rfl ⟨rfl, rfl, rfl, rfl, rfl⟩ rfl rfl rfl rfl rfl (by kernel_rfl) Tryd.func3 (by kernel_rfl)
    (of_decide_eq_true (by kernel_rfl)) (by unfold Func.isWrapper; first | (rw [if_pos (by decide +kernel)]; kernel_rfl) | (rw [if_neg (by decide +kernel)]; exact ⟨rfl, rfl⟩))
    (fun os started H enc _ => lifted os started H enc)
end Go.Proofs.YtobkigllalbkiaaDoor.TopShadowLaw
namespace Go.Proofs.YtobkigllalbkiaaDoor
/-- The statement. -/
theorem topShadow_proved : Rows.TopShadowSaid := TopShadowLaw.over
#print axioms topShadow_proved
end Go.Proofs.YtobkigllalbkiaaDoor

namespace Go.Proofs.YtobkigllalbkiaaDoor
open Go
/-- The statement. -/
theorem topShadowCard_proved : Rows.TopShadowCardSaid :=
  Claim7.holds_tied_plain_at .later [] [.data] true (true, "1ada826be9b957d93ee0261e7e473f67cb496b71e85988394c841c4d81ffd2ee") false
    topShadow_proved (fun _ h => by cases h) (by kernel_rfl) (fun _ h => by cases h) topShadow_row_tie rfl ⟨rfl, rfl⟩ (by kernel_rfl) rfl
    (fun f fn hf hfn => by
      obtain rfl : f = 3 := Option.some.inj ((show Tryd.prog.funcNamed "diorama/dioramatop.TopShadow" = some 3 by kernel_rfl).symm.trans hf) |>.symm
      obtain rfl : fn = Tryd.f3 := (Option.some.inj (Tryd.func3.symm.trans hfn)).symm
      exact ⟨by kernel_rfl, fun j t ht => by
        rw [Tryd.params3] at ht
        have hm : t ∈ [25, 31, 33, 3, 3] := by simpa using Array.mem_of_getElem? ht
        have hall : ([25, 31, 33, 3, 3].all fun u => !Tryd.prog.wantsStandIn u) = true := by kernel_rfl
        exact (show Tryd.prog.wantsStandIn t = false by simpa using List.all_eq_true.1 hall t hm)⟩)
    (by kernel_rfl)
#print axioms topShadowCard_proved
end Go.Proofs.YtobkigllalbkiaaDoor
