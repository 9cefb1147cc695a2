/- Part 5 of the texts that the proof of TopCard stands on. -/
import Derived.Test.YtobkigllalbkiaaDoorTopCardZD
/- A plain Lean function that answers as the Go function does (none: not told), and the proof that a call answers so. Written by program. -/
set_option linter.unusedVariables false
set_option maxRecDepth 100000
set_option maxHeartbeats 4000000
namespace Go.Proofs.YtobkigllalbkiaaV.D
open Go.RowKit Go.Proofs.YtobkigllalbkiaaV
abbrev L54_0 (q0 : (Ar3 S_Spot)) : List Value := [ii q0.a0.X, ii q0.a0.Y, ii q0.a0.D, ii q0.a0.U, ii q0.a0.V, ii q0.a1.X, ii q0.a1.Y, ii q0.a1.D, ii q0.a1.U, ii q0.a1.V, ii q0.a2.X, ii q0.a2.Y, ii q0.a2.D, ii q0.a2.U, ii q0.a2.V]
abbrev L54_1  : List Value := [ii 0, ii 0, ii 0, ii 0, ii 0]
abbrev L54_2 (q0 : (Ar3 S_Spot)) : List Value := [ii q0.a1.X, ii q0.a1.Y, ii q0.a1.D, ii q0.a1.U, ii q0.a1.V]
abbrev L54_3 (q0 : (Ar3 S_Spot)) : List Value := [ii q0.a2.X, ii q0.a2.Y, ii q0.a2.D, ii q0.a2.U, ii q0.a2.V]
abbrev L54_4 (q0 : (Ar3 S_Spot)) : List Value := [ii q0.a0.X, ii q0.a0.Y, ii q0.a0.D, ii q0.a0.U, ii q0.a0.V]
abbrev L54_5 (q0 : S_Spot × S_Spot) : List Value := [ii q0.1.X, ii q0.1.Y, ii q0.1.D, ii q0.1.U, ii q0.1.V]
abbrev L54_6 (q0 : S_Spot × S_Spot) : List Value := [ii q0.2.X, ii q0.2.Y, ii q0.2.D, ii q0.2.U, ii q0.2.V]
def m54 (K : Nat) (a0 : (Ar3 S_Spot)) (a1 : Int) : Option (S_Spot × S_Spot) :=
 if a1 = 0 then some (a0.a1, a0.a2) else if a1 = 1 then some (a0.a2, a0.a0) else if a1 = 2 then some (a0.a0, a0.a1) else none
abbrev S54_0 (q0 : Okp) (q1 q2 : World) (q3 : Nat) (q4 : (Ar3 S_Spot)) (q5 q6 : Nat) : Prop := Sep q0 q1 q2 [.blk q3 87 (L54_0 q4), .blk q5 86 L54_1, .blk q6 86 L54_1] []
theorem c54 (ok : Okp) (K : Nat) (w : World) (a0 : (Ar3 S_Spot)) (a1 : Int)  (res : S_Spot × S_Spot) (hm : m54 K a0 a1 = some res) :
  Calls Tryd.prog 54 #[.agg (L54_0 a0).toArray, ii a1] w (fun e w' => e = .returned (tup [.agg (L54_5 res).toArray, .agg (L54_6 res).toArray]) ∧ Sep ok w w' [] []) := by
 refine calls_W (args := [.agg (L54_0 a0).toArray, ii a1]) Tryd.func54 rfl Tryd.ntmps54 Tryd.results54 rfl fun r hr => ?_
 obtain ⟨r1, rfl⟩ := regen (r := r) [(0, .agg (L54_0 a0).toArray), (1, ii a1)] ⟨hr 0 _ rfl, hr 1 _ rfl, trivial⟩
 have H : Sep ok w w [] [] := Sep.start ok w
 unfold m54 at hm
 by_cases e0 : a1 = 0
 ·subst e0
  rw [if_pos rfl] at hm
  refine Wr ?_
  refine RL_cons (OB H (fun w2 b1 (H : Sep ok w w2 [.blk b1 87 (L54_0 a0)] []) => ?_))
  refine RL_cons (OA ze86 H (fun w4 b3 (H : Sep ok w w4 [.blk b1 87 (L54_0 a0), .blk b3 86 L54_1] []) => ?_))
  refine RL_cons (OA ze86 H (fun w6 b5 (H : S54_0 ok w w6 b1 a0 b3 b5) => ?_))
  refine W_seq ?_
  refine W_draw [.free 0, .free 1, .free 2, .free 3, .take 4, .free 5, .free 6, .free 7, .free 8, .take 9, .run 10, .tail 11] (fun wS => Sep ok w wS [.blk b1 87 (L54_0 a0), .hole, .blk b5 86 L54_1] []) [11] [0, 1, 2, 3, 5, 6, 7, 8] mixed0 (by kernel_rfl) (by kernel_rfl) (by kernel_rfl) (by rfl) (by exact (Sep.holeL H.drew 1)) ?_
  obtain ⟨w7, hW⟩ : ∃ W : World, W = { w6 with drawn := w6.drawn + 1 } := ⟨_, rfl⟩
  rw [← hW]
  have H : S54_0 ok w w7 b1 a0 b3 b5 := by rw [hW]; exact H.drew
  clear hW
  refine PF (a := xm (ii 0)) (b := ?_)
  refine PF (a := xp 1) (b := ?_)
  refine PF (a := x_rem (by rfl) (by rfl) (by decide)) (b := ?_)
  refine PF (a := xI ar87 sz86) (b := ?_)
  refine PT' (a := fun H => xA 5 (L54_2 a0) ag86 (H.c 0)) (b := ?_)
  refine PF (a := xm (ii 0)) (b := ?_)
  refine PF (a := xp 2) (b := ?_)
  refine PF (a := x_rem (by rfl) (by rfl) (by decide)) (b := ?_)
  refine PF (a := xI ar87 sz86) (b := ?_)
  refine PT' (a := fun H => xA 10 (L54_3 a0) ag86 (H.c 0)) (b := ?_)
  refine PU (a := OS 1 0 (L54_2 a0) sz86 H (fun w8 (H : Sep ok w w8 [.blk b1 87 (L54_0 a0), .blk b3 86 (L54_2 a0), .blk b5 86 L54_1] []) => ⟨(Sep.holeL H 1), ?_⟩))
  refine PL (a := OS 2 0 (L54_3 a0) sz86 H (fun w9 (H : Sep ok w w9 [.blk b1 87 (L54_0 a0), .blk b3 86 (L54_2 a0), .blk b5 86 (L54_3 a0)] []) => ?_))
  refine PR_nil ?_
  refine W_ret ?_
  obtain rfl := Option.some.inj hm
  exact ⟨[.agg (L54_2 a0).toArray, .agg (L54_3 a0).toArray], (.cellA (by rfl) ag86 (H.c 1) (by rfl) (.cellA (by rfl) ag86 (H.c 2) (by rfl) rfl)), rfl, H.none_⟩
 rw [if_neg e0] at hm
 by_cases e1 : a1 = 1
 ·subst e1
  rw [if_pos rfl] at hm
  refine Wr ?_
  refine RL_cons (OB H (fun w11 b10 (H : Sep ok w w11 [.blk b10 87 (L54_0 a0)] []) => ?_))
  refine RL_cons (OA ze86 H (fun w13 b12 (H : Sep ok w w13 [.blk b10 87 (L54_0 a0), .blk b12 86 L54_1] []) => ?_))
  refine RL_cons (OA ze86 H (fun w15 b14 (H : S54_0 ok w w15 b10 a0 b12 b14) => ?_))
  refine W_seq ?_
  refine W_draw [.free 0, .free 1, .free 2, .free 3, .take 4, .free 5, .free 6, .free 7, .free 8, .take 9, .run 10, .tail 11] (fun wS => Sep ok w wS [.blk b10 87 (L54_0 a0), .hole, .blk b14 86 L54_1] []) [11] [0, 1, 2, 3, 5, 6, 7, 8] mixed0 (by kernel_rfl) (by kernel_rfl) (by kernel_rfl) (by rfl) (by exact (Sep.holeL H.drew 1)) ?_
  obtain ⟨w16, hW⟩ : ∃ W : World, W = { w15 with drawn := w15.drawn + 1 } := ⟨_, rfl⟩
  rw [← hW]
  have H : S54_0 ok w w16 b10 a0 b12 b14 := by rw [hW]; exact H.drew
  clear hW
  refine PF (a := xm (ii 1)) (b := ?_)
  refine PF (a := xp 2) (b := ?_)
  refine PF (a := x_rem (by rfl) (by rfl) (by decide)) (b := ?_)
  refine PF (a := xI ar87 sz86) (b := ?_)
  refine PT' (a := fun H => xA 10 (L54_3 a0) ag86 (H.c 0)) (b := ?_)
  refine PF (a := xm (ii 1)) (b := ?_)
  refine PF (a := xp 3) (b := ?_)
  refine PF (a := x_rem (by rfl) (by rfl) (by decide)) (b := ?_)
  refine PF (a := xI ar87 sz86) (b := ?_)
  refine PT' (a := fun H => xA 0 (L54_4 a0) ag86 (H.c 0)) (b := ?_)
  refine PU (a := OS 1 0 (L54_3 a0) sz86 H (fun w17 (H : Sep ok w w17 [.blk b10 87 (L54_0 a0), .blk b12 86 (L54_3 a0), .blk b14 86 L54_1] []) => ⟨(Sep.holeL H 1), ?_⟩))
  refine PL (a := OS 2 0 (L54_4 a0) sz86 H (fun w18 (H : Sep ok w w18 [.blk b10 87 (L54_0 a0), .blk b12 86 (L54_3 a0), .blk b14 86 (L54_4 a0)] []) => ?_))
  refine PR_nil ?_
  refine W_ret ?_
  obtain rfl := Option.some.inj hm
  exact ⟨[.agg (L54_3 a0).toArray, .agg (L54_4 a0).toArray], (.cellA (by rfl) ag86 (H.c 1) (by rfl) (.cellA (by rfl) ag86 (H.c 2) (by rfl) rfl)), rfl, H.none_⟩
 rw [if_neg e1] at hm
 by_cases e2 : a1 = 2
 ·subst e2
  rw [if_pos rfl] at hm
  refine Wr ?_
  refine RL_cons (OB H (fun w20 b19 (H : Sep ok w w20 [.blk b19 87 (L54_0 a0)] []) => ?_))
  refine RL_cons (OA ze86 H (fun w22 b21 (H : Sep ok w w22 [.blk b19 87 (L54_0 a0), .blk b21 86 L54_1] []) => ?_))
  refine RL_cons (OA ze86 H (fun w24 b23 (H : S54_0 ok w w24 b19 a0 b21 b23) => ?_))
  refine W_seq ?_
  refine W_draw [.free 0, .free 1, .free 2, .free 3, .take 4, .free 5, .free 6, .free 7, .free 8, .take 9, .run 10, .tail 11] (fun wS => Sep ok w wS [.blk b19 87 (L54_0 a0), .hole, .blk b23 86 L54_1] []) [11] [0, 1, 2, 3, 5, 6, 7, 8] mixed0 (by kernel_rfl) (by kernel_rfl) (by kernel_rfl) (by rfl) (by exact (Sep.holeL H.drew 1)) ?_
  obtain ⟨w25, hW⟩ : ∃ W : World, W = { w24 with drawn := w24.drawn + 1 } := ⟨_, rfl⟩
  rw [← hW]
  have H : S54_0 ok w w25 b19 a0 b21 b23 := by rw [hW]; exact H.drew
  clear hW
  refine PF (a := xm (ii 2)) (b := ?_)
  refine PF (a := xp 3) (b := ?_)
  refine PF (a := x_rem (by rfl) (by rfl) (by decide)) (b := ?_)
  refine PF (a := xI ar87 sz86) (b := ?_)
  refine PT' (a := fun H => xA 0 (L54_4 a0) ag86 (H.c 0)) (b := ?_)
  refine PF (a := xm (ii 2)) (b := ?_)
  refine PF (a := xp 4) (b := ?_)
  refine PF (a := x_rem (by rfl) (by rfl) (by decide)) (b := ?_)
  refine PF (a := xI ar87 sz86) (b := ?_)
  refine PT' (a := fun H => xA 5 (L54_2 a0) ag86 (H.c 0)) (b := ?_)
  refine PU (a := OS 1 0 (L54_4 a0) sz86 H (fun w26 (H : Sep ok w w26 [.blk b19 87 (L54_0 a0), .blk b21 86 (L54_4 a0), .blk b23 86 L54_1] []) => ⟨(Sep.holeL H 1), ?_⟩))
  refine PL (a := OS 2 0 (L54_2 a0) sz86 H (fun w27 (H : Sep ok w w27 [.blk b19 87 (L54_0 a0), .blk b21 86 (L54_4 a0), .blk b23 86 (L54_2 a0)] []) => ?_))
  refine PR_nil ?_
  refine W_ret ?_
  obtain rfl := Option.some.inj hm
  exact ⟨[.agg (L54_4 a0).toArray, .agg (L54_2 a0).toArray], (.cellA (by rfl) ag86 (H.c 1) (by rfl) (.cellA (by rfl) ag86 (H.c 2) (by rfl) rfl)), rfl, H.none_⟩
 rw [if_neg e2] at hm
 exact (none_some hm).elim
end Go.Proofs.YtobkigllalbkiaaV.D

/- A plain Lean function that answers as the Go function does (none: not told), and the proof that a call answers so. Written by program. -/
set_option linter.unusedVariables false
set_option maxRecDepth 100000
set_option maxHeartbeats 4000000
namespace Go.Proofs.YtobkigllalbkiaaV.D
open Go.RowKit Go.Proofs.YtobkigllalbkiaaV
abbrev L55_0 (q0 : (Ar3 S_Spot)) : List Value := [ii q0.a0.X, ii q0.a0.Y, ii q0.a0.D, ii q0.a0.U, ii q0.a0.V, ii q0.a1.X, ii q0.a1.Y, ii q0.a1.D, ii q0.a1.U, ii q0.a1.V, ii q0.a2.X, ii q0.a2.Y, ii q0.a2.D, ii q0.a2.U, ii q0.a2.V]
def m55 (K : Nat) (a0 : (Ar3 S_Spot)) : Option (Int) :=
 ((m73 K a0).bind fun v4 => ((bif (v4.2 == 0) then some (decide (v4.1 ≤ 0)) else some false).bind fun b6 => (bif b6 then some 6 else some v4.2)))
theorem c55 (ok : Okp) (K : Nat) (w : World) (a0 : (Ar3 S_Spot))  (res : Int) (hm : m55 K a0 = some res) :
  Calls Tryd.prog 55 #[.agg (L55_0 a0).toArray] w (fun e w' => e = .returned (tup [ii res]) ∧ Sep ok w w' [] []) := by
 refine calls_W (args := [.agg (L55_0 a0).toArray]) Tryd.func55 rfl Tryd.ntmps55 Tryd.results55 rfl fun r hr => ?_
 obtain ⟨r1, rfl⟩ := regen (r := r) [(0, .agg (L55_0 a0).toArray)] ⟨hr 0 _ rfl, trivial⟩
 have H : Sep ok w w [] [] := Sep.start ok w
 unfold m55 at hm
 refine Wr ?_
 refine RL_cons (OB H (fun w2 b1 (H : Sep ok w w2 [.blk b1 87 (L55_0 a0)] []) => ?_))
 refine RL_p (xa (ii 0)) ?_
 refine Wr ?_
 refine RL_p (xA 0 (L55_0 a0) ag87 (H.c 0)) ?_
 obtain ⟨v4, hv3, hm⟩ := bind_some hm
 refine RL_cons (OC (xc [.agg (L55_0 a0).toArray] (cf73 _ _)) (c73 okT K w2 a0  v4 hv3) ?_)
 rintro e w5 ⟨rfl, H2⟩
 have H : Sep ok w w5 [.blk b1 87 (L55_0 a0)] [] := H.below H2.base
 clear H2
 refine ⟨_, rfl, ?_⟩
 refine RL_p (xm (tup [ii v4.1, ii v4.2])) ?_
 refine RL_p (xe (ii v4.1)) ?_
 refine RL_p (xe (ii v4.2)) ?_
 refine RL_p (xa (ii v4.1)) ?_
 refine RL_p (xa (ii v4.2)) ?_
 refine W_seq ?_
 refine Wr ?_
 refine RL_p (xm (ii v4.2)) ?_
 refine RL_p (x_eql (by rfl) (by rfl)) ?_
 refine RL_p (xm (.bool (v4.2 == 0))) ?_
 obtain ⟨b6, hmS, hm⟩ := bind_some hm
 refine RL_cut 3 (fun r' w' => Agr [(15, .bool b6), (4, ii v4.2)] r' ∧ Sep ok w w' [.blk b1 87 (L55_0 a0)] []) ?_ ?_
 ·cases hbS : (v4.2 == 0)
  ·have hm := cond_f hbS hmS
   refine RO ?_
   refine RO ?_
   refine RL_p (xF (.bool false)) ?_
   refine RL_nil ?_
   exact ⟨⟨congrArg Value.bool (Option.some.inj hm), rfl, trivial⟩, H⟩
  have hm := cond_t hbS hmS
  refine RQ (xm (ii v4.1)) ?_
  refine RQ (x_leq (by rfl) (by rfl)) ?_
  refine RL_p (xT (.bool (decide (v4.1 ≤ 0)))) ?_
  refine RL_nil ?_
  exact ⟨⟨congrArg Value.bool (Option.some.inj hm), rfl, trivial⟩, H⟩
 rintro r' w' ⟨hA, H⟩
 obtain ⟨r7, rfl⟩ := regen _ hA; clear hA
 obtain ⟨w8, rfl⟩ := wld w'
 show RL _ _ _ _ _ _ _
 refine Wc (fun hb => ?_) (fun hb => ?_)
 ·have hm := cond_t hb hm
  refine Wr ?_
  refine RL_p (xa (ii 6)) ?_
  refine W_ret ?_
  obtain rfl := Option.some.inj hm
  exact ⟨[ii 6], (.tmp (by rfl) rfl), rfl, H.none_⟩
 have hm := cond_f hb hm
 refine W_skip ?_
 refine Wr ?_
 refine RL_p (xm (ii v4.2)) ?_
 refine RL_p (xa (ii v4.2)) ?_
 refine W_ret ?_
 obtain rfl := Option.some.inj hm
 exact ⟨[ii v4.2], (.tmp (by rfl) rfl), rfl, H.none_⟩
end Go.Proofs.YtobkigllalbkiaaV.D

/- A plain Lean function that answers as the Go function does (none: not told), and the proof that a call answers so. Written by program. -/
set_option linter.unusedVariables false
set_option maxRecDepth 100000
set_option maxHeartbeats 4000000
namespace Go.Proofs.YtobkigllalbkiaaV.D
open Go.RowKit Go.Proofs.YtobkigllalbkiaaV
def m56 (K : Nat) (a0 : Int) (a1 : Int) : Option (Bool) :=
 ((bif (decide (0 ≤ (mn a0 a1))) then some (decide ((mx a0 a1) < 64)) else some false).bind fun b1 => some b1)
theorem c56 (ok : Okp) (K : Nat) (w : World) (a0 : Int) (a1 : Int)  (res : Bool) (hm : m56 K a0 a1 = some res) :
  Calls Tryd.prog 56 #[ii a0, ii a1] w (fun e w' => e = .returned (tup [.bool res]) ∧ Sep ok w w' [] []) := by
 refine calls_W (args := [ii a0, ii a1]) Tryd.func56 rfl Tryd.ntmps56 Tryd.results56 rfl fun r hr => ?_
 obtain ⟨r1, rfl⟩ := regen (r := r) [(0, ii a0), (1, ii a1)] ⟨hr 0 _ rfl, hr 1 _ rfl, trivial⟩
 have H : Sep ok w w [] [] := Sep.start ok w
 unfold m56 at hm
 refine Wr ?_
 refine RL_p (xa (.bool false)) ?_
 refine Wr ?_
 refine RL_p (xm (ii a0)) ?_
 refine RL_p (xm (ii a1)) ?_
 refine RL_p (x_min2 (by rfl) (by rfl)) ?_
 refine RL_p (x_geq (by rfl) (by rfl)) ?_
 refine RL_p (xm (.bool (decide (0 ≤ (mn a0 a1))))) ?_
 obtain ⟨b1, hmS, hm⟩ := bind_some hm
 refine RL_cut 5 (fun r' w' => Agr [(14, .bool b1)] r' ∧ Sep ok w w' [] []) ?_ ?_
 ·cases hbS : (decide (0 ≤ (mn a0 a1)))
  ·have hm := cond_f hbS hmS
   refine RO ?_
   refine RO ?_
   refine RO ?_
   refine RO ?_
   refine RL_p (xF (.bool false)) ?_
   refine RL_nil ?_
   exact ⟨⟨congrArg Value.bool (Option.some.inj hm), trivial⟩, H⟩
  have hm := cond_t hbS hmS
  refine RQ (xm (ii a0)) ?_
  refine RQ (xm (ii a1)) ?_
  refine RQ (x_max2 (by rfl) (by rfl)) ?_
  refine RQ (xL) ?_
  refine RL_p (xT (.bool (decide ((mx a0 a1) < 64)))) ?_
  refine RL_nil ?_
  exact ⟨⟨congrArg Value.bool (Option.some.inj hm), trivial⟩, H⟩
 rintro r' w' ⟨hA, H⟩
 obtain ⟨r2, rfl⟩ := regen _ hA; clear hA
 obtain ⟨w3, rfl⟩ := wld w'
 refine RL_p (xa (.bool b1)) ?_
 refine W_ret ?_
 obtain rfl := Option.some.inj hm
 exact ⟨[.bool b1], (.tmp (by rfl) rfl), rfl, H.none_⟩
end Go.Proofs.YtobkigllalbkiaaV.D

/- A plain Lean function that answers as the Go function does (none: not told), and the proof that a call answers so. Written by program. -/
set_option linter.unusedVariables false
set_option maxRecDepth 100000
set_option maxHeartbeats 4000000
namespace Go.Proofs.YtobkigllalbkiaaV.D
open Go.RowKit Go.Proofs.YtobkigllalbkiaaV
def m57 (K : Nat) (a0 : Int) : Option (Int) :=
 (ck (8 * a0) fun x1 => (ck (x1 + 4) fun x2 => some x2))
theorem c57 (ok : Okp) (K : Nat) (w : World) (a0 : Int)  (res : Int) (hm : m57 K a0 = some res) :
  Calls Tryd.prog 57 #[ii a0] w (fun e w' => e = .returned (tup [ii res]) ∧ Sep ok w w' [] []) := by
 refine calls_W (args := [ii a0]) Tryd.func57 rfl Tryd.ntmps57 Tryd.results57 rfl fun r hr => ?_
 obtain ⟨r1, rfl⟩ := regen (r := r) [(0, ii a0)] ⟨hr 0 _ rfl, trivial⟩
 have H : Sep ok w w [] [] := Sep.start ok w
 unfold m57 at hm
 refine Wr ?_
 refine RL_p (xa (ii 0)) ?_
 refine Wr ?_
 refine RL_p (xm (ii a0)) ?_
 obtain ⟨x1, ex1, qx1, ux1, hm⟩ := ck_some hm
 refine RL_p (xX ux1) ?_
 obtain ⟨x2, ex2, qx2, ux2, hm⟩ := ck_some hm
 refine RL_p (xP ux2) ?_
 refine RL_p (xa (ii x2)) ?_
 refine W_ret ?_
 obtain rfl := Option.some.inj hm
 exact ⟨[ii x2], (.tmp (by rfl) rfl), rfl, H.none_⟩
end Go.Proofs.YtobkigllalbkiaaV.D

/- A plain Lean function that answers as the Go function does (none: not told), and the proof that a call answers so. Written by program. -/
set_option linter.unusedVariables false
set_option maxRecDepth 100000
set_option maxHeartbeats 4000000
namespace Go.Proofs.YtobkigllalbkiaaV.D
open Go.RowKit Go.Proofs.YtobkigllalbkiaaV
abbrev L35_0 (q0 : (Ar3 S_Spot)) : List Value := [ii q0.a0.X, ii q0.a0.Y, ii q0.a0.D, ii q0.a0.U, ii q0.a0.V, ii q0.a1.X, ii q0.a1.Y, ii q0.a1.D, ii q0.a1.U, ii q0.a1.V, ii q0.a2.X, ii q0.a2.Y, ii q0.a2.D, ii q0.a2.U, ii q0.a2.V]
abbrev L35_1 (q0 : S_Spot × S_Spot) : List Value := [ii q0.1.X, ii q0.1.Y, ii q0.1.D, ii q0.1.U, ii q0.1.V]
abbrev L35_2 (q0 : S_Spot × S_Spot) : List Value := [ii q0.2.X, ii q0.2.Y, ii q0.2.D, ii q0.2.U, ii q0.2.V]
abbrev L35_3  : List Value := [ii 0, ii 0, ii 0, ii 0, ii 0]
abbrev L35_4 (q0 : Int) (q1 : Int) (q2 : Int) : List Value := [ii q0, ii q1, ii q2]
abbrev L35_5 (q0 : (Ar3 Int) × Int) : List Value := [ii q0.1.a0, ii q0.1.a1, ii q0.1.a2]
def m35 (K : Nat) (a0 : (Ar3 S_Spot)) (a1 : Int) (a2 : Int) : Option ((Ar3 Int) × Int) :=
 ((m55 K a0).bind fun v6 => (bif (v6 != 0) then some ((⟨0, 0, 0⟩ : (Ar3 Int)), v6) else ((m56 K a1 a2).bind fun v10 => (bif (!v10) then some ((⟨0, 0, 0⟩ : (Ar3 Int)), 2) else ((m54 K a0 0).bind fun v14 => (ck (v14.2.X - v14.1.X) fun x23 => (ck (v14.2.Y - v14.1.Y) fun x24 => ((m57 K a2).bind fun v26 => (ck (v26 - v14.1.Y) fun x28 => (ck (x23 * x28) fun x29 => ((m57 K a1).bind fun v31 => (ck (v31 - v14.1.X) fun x33 => (ck (x33 * x24) fun x34 => (ck (x29 - x34) fun x35 => ((m54 K a0 1).bind fun v38 => (ck (v38.2.X - v38.1.X) fun x47 => (ck (v38.2.Y - v38.1.Y) fun x48 => ((m57 K a2).bind fun v50 => (ck (v50 - v38.1.Y) fun x52 => (ck (x47 * x52) fun x53 => ((m57 K a1).bind fun v55 => (ck (v55 - v38.1.X) fun x57 => (ck (x57 * x48) fun x58 => (ck (x53 - x58) fun x59 => ((m54 K a0 2).bind fun v62 => (ck (v62.2.X - v62.1.X) fun x71 => (ck (v62.2.Y - v62.1.Y) fun x72 => ((m57 K a2).bind fun v74 => (ck (v74 - v62.1.Y) fun x76 => (ck (x71 * x76) fun x77 => ((m57 K a1).bind fun v79 => (ck (v79 - v62.1.X) fun x81 => (ck (x81 * x72) fun x82 => (ck (x77 - x82) fun x83 => some ((⟨x35, x59, x83⟩ : (Ar3 Int)), 0)))))))))))))))))))))))))))))))))))
abbrev S35_0 (q0 : Okp) (q1 q2 : World) (q3 : Nat) (q4 : (Ar3 S_Spot)) (q5 : Nat) : Prop := Sep q0 q1 q2 [.blk q3 87 (L35_0 q4), .blk q5 28 [ii 0, ii 0, ii 0]] []
abbrev S35_1 (q0 : Okp) (q1 q2 : World) (q3 : Nat) (q4 : (Ar3 S_Spot)) (q5 q6 : Nat) (q7 : S_Spot × S_Spot) (q8 : Nat) : Prop := Sep q0 q1 q2 [.blk q3 87 (L35_0 q4), .blk q5 28 [ii 0, ii 0, ii 0], .blk q6 86 (L35_1 q7), .blk q8 86 (L35_2 q7)] []
abbrev S35_2 (q0 : Okp) (q1 q2 : World) (q3 : Nat) (q4 : (Ar3 S_Spot)) (q5 : Nat) (q6 : Int) (q7 : Nat) (q8 : S_Spot × S_Spot) (q9 q10 : Nat) (q11 : S_Spot × S_Spot) (q12 : Nat) : Prop := Sep q0 q1 q2 [.blk q3 87 (L35_0 q4), .blk q5 28 [ii q6, ii 0, ii 0], .blk q7 86 (L35_1 q8), .blk q9 86 (L35_2 q8), .blk q10 86 (L35_1 q11), .blk q12 86 (L35_2 q11)] []
abbrev S35_3 (q0 : Okp) (q1 q2 : World) (q3 : Nat) (q4 : (Ar3 S_Spot)) (q5 : Nat) (q6 q7 : Int) (q8 : Nat) (q9 : S_Spot × S_Spot) (q10 : Nat) : Prop := Sep q0 q1 q2 [.blk q3 87 (L35_0 q4), .blk q5 28 [ii q6, ii q7, ii 0], .blk q8 86 (L35_1 q9), .blk q10 86 (L35_2 q9)] []
theorem c35 (ok : Okp) (K : Nat) (w : World) (a0 : (Ar3 S_Spot)) (a1 : Int) (a2 : Int)  (res : (Ar3 Int) × Int) (hm : m35 K a0 a1 a2 = some res) :
  Calls Tryd.prog 35 #[.agg (L35_0 a0).toArray, ii a1, ii a2] w (fun e w' => e = .returned (tup [.agg (L35_5 res).toArray, ii res.2]) ∧ Sep ok w w' [] []) := by
 refine calls_W (args := [.agg (L35_0 a0).toArray, ii a1, ii a2]) Tryd.func35 rfl Tryd.ntmps35 Tryd.results35 rfl fun r hr => ?_
 obtain ⟨r1, rfl⟩ := regen (r := r) [(0, .agg (L35_0 a0).toArray), (1, ii a1), (2, ii a2)] ⟨hr 0 _ rfl, hr 1 _ rfl, hr 2 _ rfl, trivial⟩
 have H : Sep ok w w [] [] := Sep.start ok w
 unfold m35 at hm
 refine Wr ?_
 refine RL_cons (OB H (fun w2 b1 (H : Sep ok w w2 [.blk b1 87 (L35_0 a0)] []) => ?_))
 refine RL_cons (OA ze28 H (fun w4 b3 (H : S35_0 ok w w4 b1 a0 b3) => ?_))
 refine RL_p (xa (ii 0)) ?_
 refine W_seq ?_
 refine Wr ?_
 refine RL_p (xA 0 (L35_0 a0) ag87 (H.c 0)) ?_
 obtain ⟨v6, hv5, hm⟩ := bind_some hm
 refine RL_cons (OC (xc [.agg (L35_0 a0).toArray] (cf55 _ _)) (c55 okT K w4 a0  v6 hv5) ?_)
 rintro e w7 ⟨rfl, H2⟩
 have H : S35_0 ok w w7 b1 a0 b3 := H.below H2.base
 clear H2
 refine ⟨_, rfl, ?_⟩
 refine RL_p (xa (ii v6)) ?_
 refine Wr ?_
 refine RL_p (xm (ii v6)) ?_
 refine RL_p (xN) ?_
 refine Wc (fun hb => ?_) (fun hb => ?_)
 ·have hm := cond_t hb hm
  refine Wr ?_
  refine RL_p (xA 0 [ii 0, ii 0, ii 0] ag28 (H.c 1)) ?_
  refine RL_p (xm (ii v6)) ?_
  refine RL_cons (OS 1 0 [ii 0, ii 0, ii 0] sz28 H (fun w8 (H : S35_0 ok w w8 b1 a0 b3) => ?_))
  refine RL_p (xa (ii v6)) ?_
  refine W_ret ?_
  obtain rfl := Option.some.inj hm
  exact ⟨[.agg #[ii 0, ii 0, ii 0], ii v6], (.cellA (by rfl) ag28 (H.c 1) (by rfl) (.tmp (by rfl) rfl)), rfl, H.none_⟩
 have hm := cond_f hb hm
 refine W_skip ?_
 refine W_seq ?_
 refine Wr ?_
 refine RL_p (xm (ii a1)) ?_
 refine RL_p (xm (ii a2)) ?_
 obtain ⟨v10, hv9, hm⟩ := bind_some hm
 refine RL_cons (OC (xc [ii a1, ii a2] (cf56 _ _)) (c56 okT K w7 a1 a2  v10 hv9) ?_)
 rintro e w11 ⟨rfl, H2⟩
 have H : S35_0 ok w w11 b1 a0 b3 := H.below H2.base
 clear H2
 refine ⟨_, rfl, ?_⟩
 refine RL_p (x_not (by rfl)) ?_
 refine Wc (fun hb => ?_) (fun hb => ?_)
 ·have hm := cond_t hb hm
  refine Wr ?_
  refine RL_p (xA 0 [ii 0, ii 0, ii 0] ag28 (H.c 1)) ?_
  refine RL_cons (OS 1 0 [ii 0, ii 0, ii 0] sz28 H (fun w12 (H : S35_0 ok w w12 b1 a0 b3) => ?_))
  refine RL_p (xa (ii 2)) ?_
  refine W_ret ?_
  obtain rfl := Option.some.inj hm
  exact ⟨[.agg #[ii 0, ii 0, ii 0], ii 2], (.cellA (by rfl) ag28 (H.c 1) (by rfl) (.tmp (by rfl) rfl)), rfl, H.none_⟩
 have hm := cond_f hb hm
 refine W_skip ?_
 refine W_seq ?_
 refine Wr ?_
 refine RL_p (xm (ii 0)) ?_
 refine W_block ?_
 refine W_unroll 40 ?_
 refine WU_succ ?_
 refine Wr ?_
 refine RL_p (xL) ?_
 refine W_seq ?_
 refine Wt ?_
 refine W_skip ?_
 refine W_seq ?_
 refine W_block ?_
 refine Wr ?_
 refine RL_p (xm (ii 0)) ?_
 refine RL_p (xa (ii 0)) ?_
 refine Wr ?_
 refine RL_p (xA 0 (L35_0 a0) ag87 (H.c 0)) ?_
 refine RL_p (xm (ii 0)) ?_
 obtain ⟨v14, hv13, hm⟩ := bind_some hm
 refine RL_cons (OC (xc [.agg (L35_0 a0).toArray, ii 0] (cf54 _ _)) (c54 okT K w11 a0 0  v14 hv13) ?_)
 rintro e w15 ⟨rfl, H2⟩
 have H : S35_0 ok w w15 b1 a0 b3 := H.below H2.base
 clear H2
 refine ⟨_, rfl, ?_⟩
 refine RL_p (xm (tup [.agg (L35_1 v14).toArray, .agg (L35_2 v14).toArray])) ?_
 refine RL_p (xe (.agg (L35_1 v14).toArray)) ?_
 refine RL_p (xe (.agg (L35_2 v14).toArray)) ?_
 refine RL_cons (OA ze86 H (fun w17 b16 (H : Sep ok w w17 [.blk b1 87 (L35_0 a0), .blk b3 28 [ii 0, ii 0, ii 0], .blk b16 86 L35_3] []) => ?_))
 refine RL_cons (OA ze86 H (fun w19 b18 (H : Sep ok w w19 [.blk b1 87 (L35_0 a0), .blk b3 28 [ii 0, ii 0, ii 0], .blk b16 86 L35_3, .blk b18 86 L35_3] []) => ?_))
 refine RL_cons (OS 2 0 (L35_1 v14) sz86 H (fun w20 (H : Sep ok w w20 [.blk b1 87 (L35_0 a0), .blk b3 28 [ii 0, ii 0, ii 0], .blk b16 86 (L35_1 v14), .blk b18 86 L35_3] []) => ?_))
 refine RL_cons (OS 3 0 (L35_2 v14) sz86 H (fun w21 (H : S35_1 ok w w21 b1 a0 b3 b16 v14 b18) => ?_))
 refine W_draw [.free 0, .free 1, .take 2, .free 3, .take 4, .free 5, .free 6, .free 8, .take 9, .free 12, .free 14, .take 15, .free 17, .take 18, .free 19, .take 20, .free 21, .run 7, .free 10, .free 11, .run 13, .free 16, .free 22, .free 23, .free 24, .tail 25] (fun wS => S35_1 ok w wS b1 a0 b3 b16 v14 b18) [25] [0, 1, 3, 5, 6, 8, 10, 11, 12, 14, 16, 17, 19, 21, 22, 23, 24] mixed0 (by kernel_rfl) (by kernel_rfl) (by kernel_rfl) (by rfl) (by exact H.drew) ?_
 obtain ⟨w22, hW⟩ : ∃ W : World, W = { w21 with drawn := w21.drawn + 1 } := ⟨_, rfl⟩
 rw [← hW]
 have H : S35_1 ok w w22 b1 a0 b3 b16 v14 b18 := by rw [hW]; exact H.drew
 clear hW
 refine PF (a := xm (ii 0)) (b := ?_)
 refine PF (a := xf fo86_0) (b := ?_)
 refine PT' (a := fun H => xl 0 (ii v14.2.X) sc3 (H.c 3)) (b := ?_)
 refine PF (a := xf fo86_0) (b := ?_)
 refine PT' (a := fun H => xl 0 (ii v14.1.X) sc3 (H.c 2)) (b := ?_)
 obtain ⟨x23, ex23, qx23, ux23, hm⟩ := ck_some hm
 refine PF (a := xM ux23) (b := ?_)
 refine PF (a := xm (ii a2)) (b := ?_)
 refine PF (a := xf fo86_1) (b := ?_)
 refine PT' (a := fun H => xl 1 (ii v14.1.Y) sc3 (H.c 2)) (b := ?_)
 refine PF (a := xm (ii a1)) (b := ?_)
 refine PF (a := xf fo86_0) (b := ?_)
 refine PT' (a := fun H => xl 0 (ii v14.1.X) sc3 (H.c 2)) (b := ?_)
 refine PF (a := xf fo86_1) (b := ?_)
 refine PT' (a := fun H => xl 1 (ii v14.2.Y) sc3 (H.c 3)) (b := ?_)
 refine PF (a := xf fo86_1) (b := ?_)
 refine PT' (a := fun H => xl 1 (ii v14.1.Y) sc3 (H.c 2)) (b := ?_)
 obtain ⟨x24, ex24, qx24, ux24, hm⟩ := ck_some hm
 refine PF (a := xM ux24) (b := ?_)
 obtain ⟨v26, hv25, hm⟩ := bind_some hm
 refine PU (a := OC (xc [ii a2] (cf57 _ _)) (c57 okT K w22 a2  v26 hv25) ?_)
 rintro e w27 ⟨rfl, H2⟩
 have H : S35_1 ok w w27 b1 a0 b3 b16 v14 b18 := H.below H2.base
 clear H2
 refine ⟨_, rfl, H, ?_⟩
 show PR _ _ _ _ _ _ _ _
 obtain ⟨x28, ex28, qx28, ux28, hm⟩ := ck_some hm
 refine PF (a := xM ux28) (b := ?_)
 obtain ⟨x29, ex29, qx29, ux29, hm⟩ := ck_some hm
 refine PF (a := xX ux29) (b := ?_)
 obtain ⟨v31, hv30, hm⟩ := bind_some hm
 refine PU (a := OC (xc [ii a1] (cf57 _ _)) (c57 okT K w27 a1  v31 hv30) ?_)
 rintro e w32 ⟨rfl, H2⟩
 have H : S35_1 ok w w32 b1 a0 b3 b16 v14 b18 := H.below H2.base
 clear H2
 refine ⟨_, rfl, H, ?_⟩
 show PR _ _ _ _ _ _ _ _
 obtain ⟨x33, ex33, qx33, ux33, hm⟩ := ck_some hm
 refine PF (a := xM ux33) (b := ?_)
 obtain ⟨x34, ex34, qx34, ux34, hm⟩ := ck_some hm
 refine PF (a := xX ux34) (b := ?_)
 obtain ⟨x35, ex35, qx35, ux35, hm⟩ := ck_some hm
 refine PF (a := xM ux35) (b := ?_)
 refine PF (a := xI ar28 sz3) (b := ?_)
 refine PL (a := OS 1 0 [ii x35] sz3 H (fun w36 (H : Sep ok w w36 [.blk b1 87 (L35_0 a0), .blk b3 28 [ii x35, ii 0, ii 0], .blk b16 86 (L35_1 v14), .blk b18 86 (L35_2 v14)] []) => ?_))
 refine PR_nil ?_
 refine W_region ?_
 refine RL_p (xp 1) ?_
 refine RL_p (xm (ii 1)) ?_
 refine WU_succ ?_
 refine Wr ?_
 refine RL_p (xL) ?_
 refine W_seq ?_
 refine Wt ?_
 refine W_skip ?_
 refine W_seq ?_
 refine W_block ?_
 refine Wr ?_
 refine RL_p (xm (ii 1)) ?_
 refine RL_p (xa (ii 1)) ?_
 refine Wr ?_
 refine RL_p (xA 0 (L35_0 a0) ag87 (H.c 0)) ?_
 refine RL_p (xm (ii 1)) ?_
 obtain ⟨v38, hv37, hm⟩ := bind_some hm
 refine RL_cons (OC (xc [.agg (L35_0 a0).toArray, ii 1] (cf54 _ _)) (c54 okT K w36 a0 1  v38 hv37) ?_)
 rintro e w39 ⟨rfl, H2⟩
 have H : Sep ok w w39 [.blk b1 87 (L35_0 a0), .blk b3 28 [ii x35, ii 0, ii 0], .blk b16 86 (L35_1 v14), .blk b18 86 (L35_2 v14)] [] := H.below H2.base
 clear H2
 refine ⟨_, rfl, ?_⟩
 refine RL_p (xm (tup [.agg (L35_1 v38).toArray, .agg (L35_2 v38).toArray])) ?_
 refine RL_p (xe (.agg (L35_1 v38).toArray)) ?_
 refine RL_p (xe (.agg (L35_2 v38).toArray)) ?_
 refine RL_cons (OA ze86 H (fun w41 b40 (H : Sep ok w w41 [.blk b1 87 (L35_0 a0), .blk b3 28 [ii x35, ii 0, ii 0], .blk b16 86 (L35_1 v14), .blk b18 86 (L35_2 v14), .blk b40 86 L35_3] []) => ?_))
 refine RL_cons (OA ze86 H (fun w43 b42 (H : Sep ok w w43 [.blk b1 87 (L35_0 a0), .blk b3 28 [ii x35, ii 0, ii 0], .blk b16 86 (L35_1 v14), .blk b18 86 (L35_2 v14), .blk b40 86 L35_3, .blk b42 86 L35_3] []) => ?_))
 refine RL_cons (OS 4 0 (L35_1 v38) sz86 H (fun w44 (H : Sep ok w w44 [.blk b1 87 (L35_0 a0), .blk b3 28 [ii x35, ii 0, ii 0], .blk b16 86 (L35_1 v14), .blk b18 86 (L35_2 v14), .blk b40 86 (L35_1 v38), .blk b42 86 L35_3] []) => ?_))
 refine RL_cons (OS 5 0 (L35_2 v38) sz86 H (fun w45 (H : S35_2 ok w w45 b1 a0 b3 x35 b16 v14 b18 b40 v38 b42) => ?_))
 refine W_draw [.free 0, .free 1, .take 2, .free 3, .take 4, .free 5, .free 6, .free 8, .take 9, .free 12, .free 14, .take 15, .free 17, .take 18, .free 19, .take 20, .free 21, .run 7, .free 10, .free 11, .run 13, .free 16, .free 22, .free 23, .free 24, .tail 25] (fun wS => S35_2 ok w wS b1 a0 b3 x35 b16 v14 b18 b40 v38 b42) [25] [0, 1, 3, 5, 6, 8, 10, 11, 12, 14, 16, 17, 19, 21, 22, 23, 24] mixed0 (by kernel_rfl) (by kernel_rfl) (by kernel_rfl) (by rfl) (by exact H.drew) ?_
 obtain ⟨w46, hW⟩ : ∃ W : World, W = { w45 with drawn := w45.drawn + 1 } := ⟨_, rfl⟩
 rw [← hW]
 have H : S35_2 ok w w46 b1 a0 b3 x35 b16 v14 b18 b40 v38 b42 := by rw [hW]; exact H.drew
 clear hW
 refine PF (a := xm (ii 1)) (b := ?_)
 refine PF (a := xf fo86_0) (b := ?_)
 refine PT' (a := fun H => xl 0 (ii v38.2.X) sc3 (H.c 5)) (b := ?_)
 refine PF (a := xf fo86_0) (b := ?_)
 refine PT' (a := fun H => xl 0 (ii v38.1.X) sc3 (H.c 4)) (b := ?_)
 obtain ⟨x47, ex47, qx47, ux47, hm⟩ := ck_some hm
 refine PF (a := xM ux47) (b := ?_)
 refine PF (a := xm (ii a2)) (b := ?_)
 refine PF (a := xf fo86_1) (b := ?_)
 refine PT' (a := fun H => xl 1 (ii v38.1.Y) sc3 (H.c 4)) (b := ?_)
 refine PF (a := xm (ii a1)) (b := ?_)
 refine PF (a := xf fo86_0) (b := ?_)
 refine PT' (a := fun H => xl 0 (ii v38.1.X) sc3 (H.c 4)) (b := ?_)
 refine PF (a := xf fo86_1) (b := ?_)
 refine PT' (a := fun H => xl 1 (ii v38.2.Y) sc3 (H.c 5)) (b := ?_)
 refine PF (a := xf fo86_1) (b := ?_)
 refine PT' (a := fun H => xl 1 (ii v38.1.Y) sc3 (H.c 4)) (b := ?_)
 obtain ⟨x48, ex48, qx48, ux48, hm⟩ := ck_some hm
 refine PF (a := xM ux48) (b := ?_)
 obtain ⟨v50, hv49, hm⟩ := bind_some hm
 refine PU (a := OC (xc [ii a2] (cf57 _ _)) (c57 okT K w46 a2  v50 hv49) ?_)
 rintro e w51 ⟨rfl, H2⟩
 have H : S35_2 ok w w51 b1 a0 b3 x35 b16 v14 b18 b40 v38 b42 := H.below H2.base
 clear H2
 refine ⟨_, rfl, H, ?_⟩
 show PR _ _ _ _ _ _ _ _
 obtain ⟨x52, ex52, qx52, ux52, hm⟩ := ck_some hm
 refine PF (a := xM ux52) (b := ?_)
 obtain ⟨x53, ex53, qx53, ux53, hm⟩ := ck_some hm
 refine PF (a := xX ux53) (b := ?_)
 obtain ⟨v55, hv54, hm⟩ := bind_some hm
 refine PU (a := OC (xc [ii a1] (cf57 _ _)) (c57 okT K w51 a1  v55 hv54) ?_)
 rintro e w56 ⟨rfl, H2⟩
 have H : S35_2 ok w w56 b1 a0 b3 x35 b16 v14 b18 b40 v38 b42 := H.below H2.base
 clear H2
 refine ⟨_, rfl, H, ?_⟩
 show PR _ _ _ _ _ _ _ _
 obtain ⟨x57, ex57, qx57, ux57, hm⟩ := ck_some hm
 refine PF (a := xM ux57) (b := ?_)
 obtain ⟨x58, ex58, qx58, ux58, hm⟩ := ck_some hm
 refine PF (a := xX ux58) (b := ?_)
 obtain ⟨x59, ex59, qx59, ux59, hm⟩ := ck_some hm
 refine PF (a := xM ux59) (b := ?_)
 refine PF (a := xI ar28 sz3) (b := ?_)
 refine PL (a := OS 1 1 [ii x59] sz3 H (fun w60 (H : Sep ok w w60 [.blk b1 87 (L35_0 a0), .blk b3 28 [ii x35, ii x59, ii 0], .blk b16 86 (L35_1 v14), .blk b18 86 (L35_2 v14), .blk b40 86 (L35_1 v38), .blk b42 86 (L35_2 v38)] []) => ?_))
 refine PR_nil ?_
 have H : Sep ok w w60 [.blk b1 87 (L35_0 a0), .blk b3 28 [ii x35, ii x59, ii 0]] [] := (H.takeL 2)
 refine W_region ?_
 refine RL_p (xp 2) ?_
 refine RL_p (xm (ii 2)) ?_
 refine WU_succ ?_
 refine Wr ?_
 refine RL_p (xL) ?_
 refine W_seq ?_
 refine Wt ?_
 refine W_skip ?_
 refine W_seq ?_
 refine W_block ?_
 refine Wr ?_
 refine RL_p (xm (ii 2)) ?_
 refine RL_p (xa (ii 2)) ?_
 refine Wr ?_
 refine RL_p (xA 0 (L35_0 a0) ag87 (H.c 0)) ?_
 refine RL_p (xm (ii 2)) ?_
 obtain ⟨v62, hv61, hm⟩ := bind_some hm
 refine RL_cons (OC (xc [.agg (L35_0 a0).toArray, ii 2] (cf54 _ _)) (c54 okT K w60 a0 2  v62 hv61) ?_)
 rintro e w63 ⟨rfl, H2⟩
 have H : Sep ok w w63 [.blk b1 87 (L35_0 a0), .blk b3 28 [ii x35, ii x59, ii 0]] [] := H.below H2.base
 clear H2
 refine ⟨_, rfl, ?_⟩
 refine RL_p (xm (tup [.agg (L35_1 v62).toArray, .agg (L35_2 v62).toArray])) ?_
 refine RL_p (xe (.agg (L35_1 v62).toArray)) ?_
 refine RL_p (xe (.agg (L35_2 v62).toArray)) ?_
 refine RL_cons (OA ze86 H (fun w65 b64 (H : Sep ok w w65 [.blk b1 87 (L35_0 a0), .blk b3 28 [ii x35, ii x59, ii 0], .blk b64 86 L35_3] []) => ?_))
 refine RL_cons (OA ze86 H (fun w67 b66 (H : Sep ok w w67 [.blk b1 87 (L35_0 a0), .blk b3 28 [ii x35, ii x59, ii 0], .blk b64 86 L35_3, .blk b66 86 L35_3] []) => ?_))
 refine RL_cons (OS 2 0 (L35_1 v62) sz86 H (fun w68 (H : Sep ok w w68 [.blk b1 87 (L35_0 a0), .blk b3 28 [ii x35, ii x59, ii 0], .blk b64 86 (L35_1 v62), .blk b66 86 L35_3] []) => ?_))
 refine RL_cons (OS 3 0 (L35_2 v62) sz86 H (fun w69 (H : S35_3 ok w w69 b1 a0 b3 x35 x59 b64 v62 b66) => ?_))
 refine W_draw [.free 0, .free 1, .take 2, .free 3, .take 4, .free 5, .free 6, .free 8, .take 9, .free 12, .free 14, .take 15, .free 17, .take 18, .free 19, .take 20, .free 21, .run 7, .free 10, .free 11, .run 13, .free 16, .free 22, .free 23, .free 24, .tail 25] (fun wS => S35_3 ok w wS b1 a0 b3 x35 x59 b64 v62 b66) [25] [0, 1, 3, 5, 6, 8, 10, 11, 12, 14, 16, 17, 19, 21, 22, 23, 24] mixed0 (by kernel_rfl) (by kernel_rfl) (by kernel_rfl) (by rfl) (by exact H.drew) ?_
 obtain ⟨w70, hW⟩ : ∃ W : World, W = { w69 with drawn := w69.drawn + 1 } := ⟨_, rfl⟩
 rw [← hW]
 have H : S35_3 ok w w70 b1 a0 b3 x35 x59 b64 v62 b66 := by rw [hW]; exact H.drew
 clear hW
 refine PF (a := xm (ii 2)) (b := ?_)
 refine PF (a := xf fo86_0) (b := ?_)
 refine PT' (a := fun H => xl 0 (ii v62.2.X) sc3 (H.c 3)) (b := ?_)
 refine PF (a := xf fo86_0) (b := ?_)
 refine PT' (a := fun H => xl 0 (ii v62.1.X) sc3 (H.c 2)) (b := ?_)
 obtain ⟨x71, ex71, qx71, ux71, hm⟩ := ck_some hm
 refine PF (a := xM ux71) (b := ?_)
 refine PF (a := xm (ii a2)) (b := ?_)
 refine PF (a := xf fo86_1) (b := ?_)
 refine PT' (a := fun H => xl 1 (ii v62.1.Y) sc3 (H.c 2)) (b := ?_)
 refine PF (a := xm (ii a1)) (b := ?_)
 refine PF (a := xf fo86_0) (b := ?_)
 refine PT' (a := fun H => xl 0 (ii v62.1.X) sc3 (H.c 2)) (b := ?_)
 refine PF (a := xf fo86_1) (b := ?_)
 refine PT' (a := fun H => xl 1 (ii v62.2.Y) sc3 (H.c 3)) (b := ?_)
 refine PF (a := xf fo86_1) (b := ?_)
 refine PT' (a := fun H => xl 1 (ii v62.1.Y) sc3 (H.c 2)) (b := ?_)
 obtain ⟨x72, ex72, qx72, ux72, hm⟩ := ck_some hm
 refine PF (a := xM ux72) (b := ?_)
 obtain ⟨v74, hv73, hm⟩ := bind_some hm
 refine PU (a := OC (xc [ii a2] (cf57 _ _)) (c57 okT K w70 a2  v74 hv73) ?_)
 rintro e w75 ⟨rfl, H2⟩
 have H : S35_3 ok w w75 b1 a0 b3 x35 x59 b64 v62 b66 := H.below H2.base
 clear H2
 refine ⟨_, rfl, H, ?_⟩
 show PR _ _ _ _ _ _ _ _
 obtain ⟨x76, ex76, qx76, ux76, hm⟩ := ck_some hm
 refine PF (a := xM ux76) (b := ?_)
 obtain ⟨x77, ex77, qx77, ux77, hm⟩ := ck_some hm
 refine PF (a := xX ux77) (b := ?_)
 obtain ⟨v79, hv78, hm⟩ := bind_some hm
 refine PU (a := OC (xc [ii a1] (cf57 _ _)) (c57 okT K w75 a1  v79 hv78) ?_)
 rintro e w80 ⟨rfl, H2⟩
 have H : S35_3 ok w w80 b1 a0 b3 x35 x59 b64 v62 b66 := H.below H2.base
 clear H2
 refine ⟨_, rfl, H, ?_⟩
 show PR _ _ _ _ _ _ _ _
 obtain ⟨x81, ex81, qx81, ux81, hm⟩ := ck_some hm
 refine PF (a := xM ux81) (b := ?_)
 obtain ⟨x82, ex82, qx82, ux82, hm⟩ := ck_some hm
 refine PF (a := xX ux82) (b := ?_)
 obtain ⟨x83, ex83, qx83, ux83, hm⟩ := ck_some hm
 refine PF (a := xM ux83) (b := ?_)
 refine PF (a := xI ar28 sz3) (b := ?_)
 refine PL (a := OS 1 2 [ii x83] sz3 H (fun w84 (H : Sep ok w w84 [.blk b1 87 (L35_0 a0), .blk b3 28 (L35_4 x35 x59 x83), .blk b64 86 (L35_1 v62), .blk b66 86 (L35_2 v62)] []) => ?_))
 refine PR_nil ?_
 refine W_region ?_
 refine RL_p (xp 3) ?_
 refine RL_p (xm (ii 3)) ?_
 refine WU_succ ?_
 refine Wr ?_
 refine RL_p (xL) ?_
 refine W_seq ?_
 refine Wf ?_
 refine W_exit ?_
 refine W_seq ?_
 have H : Sep ok w w84 [.blk b3 28 (L35_4 x35 x59 x83)] [] := (H.pickL [1] (by decide))
 refine W_region ?_
 refine RL_p (xA 0 (L35_4 x35 x59 x83) ag28 (H.c 0)) ?_
 refine RL_cons (OS 0 0 (L35_4 x35 x59 x83) sz28 H (fun w85 (H : Sep ok w w85 [.blk b3 28 (L35_4 x35 x59 x83)] []) => ?_))
 refine RL_p (xa (ii 0)) ?_
 refine W_ret ?_
 obtain rfl := Option.some.inj hm
 exact ⟨[.agg (L35_4 x35 x59 x83).toArray, ii 0], (.cellA (by rfl) ag28 (H.c 0) (by rfl) (.tmp (by rfl) rfl)), rfl, H.none_⟩
end Go.Proofs.YtobkigllalbkiaaV.D

/- A plain Lean function that answers as the Go function does (none: not told), and the proof that a call answers so. Written by program. -/
set_option linter.unusedVariables false
set_option maxRecDepth 100000
set_option maxHeartbeats 4000000
namespace Go.Proofs.YtobkigllalbkiaaV.D
open Go.RowKit Go.Proofs.YtobkigllalbkiaaV
abbrev L34_0 (q0 : (Ar3 S_Spot)) : List Value := [ii q0.a0.X, ii q0.a0.Y, ii q0.a0.D, ii q0.a0.U, ii q0.a0.V, ii q0.a1.X, ii q0.a1.Y, ii q0.a1.D, ii q0.a1.U, ii q0.a1.V, ii q0.a2.X, ii q0.a2.Y, ii q0.a2.D, ii q0.a2.U, ii q0.a2.V]
abbrev L34_1 (q0 : (Ar3 Int) × Int) : List Value := [ii q0.1.a0, ii q0.1.a1, ii q0.1.a2]
abbrev L34_2 (q0 : S_Spot × S_Spot) : List Value := [ii q0.1.X, ii q0.1.Y, ii q0.1.D, ii q0.1.U, ii q0.1.V]
abbrev L34_3 (q0 : S_Spot × S_Spot) : List Value := [ii q0.2.X, ii q0.2.Y, ii q0.2.D, ii q0.2.U, ii q0.2.V]
abbrev L34_4  : List Value := [ii 0, ii 0, ii 0, ii 0, ii 0]
def m34 (K : Nat) (a0 : (Ar3 S_Spot)) (a1 : Int) (a2 : Int) : Option (Bool × Int) :=
 ((m35 K a0 a1 a2).bind fun v4 => (bif (v4.2 != 0) then some (false, v4.2) else ((m54 K a0 0).bind fun v10 => ((bif (decide (v10.2.Y < v10.1.Y)) then some true else ((bif (v10.2.Y == v10.1.Y) then some (decide (v10.1.X < v10.2.X)) else some false).bind fun b19 => some b19)).bind fun b18 => ((bif (decide (v4.1.a0 < 0)) then some true else ((bif (v4.1.a0 == 0) then some (!b18) else some false).bind fun b25 => some b25)).bind fun b24 => (bif b24 then some (false, 0) else ((m54 K a0 1).bind fun v31 => ((bif (decide (v31.2.Y < v31.1.Y)) then some true else ((bif (v31.2.Y == v31.1.Y) then some (decide (v31.1.X < v31.2.X)) else some false).bind fun b40 => some b40)).bind fun b39 => ((bif (decide (v4.1.a1 < 0)) then some true else ((bif (v4.1.a1 == 0) then some (!b39) else some false).bind fun b46 => some b46)).bind fun b45 => (bif b45 then some (false, 0) else ((m54 K a0 2).bind fun v52 => ((bif (decide (v52.2.Y < v52.1.Y)) then some true else ((bif (v52.2.Y == v52.1.Y) then some (decide (v52.1.X < v52.2.X)) else some false).bind fun b61 => some b61)).bind fun b60 => ((bif (decide (v4.1.a2 < 0)) then some true else ((bif (v4.1.a2 == 0) then some (!b60) else some false).bind fun b67 => some b67)).bind fun b66 => (bif b66 then some (false, 0) else some (true, 0)))))))))))))))
abbrev S34_0 (q0 : Okp) (q1 q2 : World) (q3 : Nat) (q4 : (Ar3 S_Spot)) : Prop := Sep q0 q1 q2 [.blk q3 87 (L34_0 q4)] []
abbrev S34_1 (q0 : Okp) (q1 q2 : World) (q3 : Nat) (q4 : (Ar3 S_Spot)) (q5 : Nat) (q6 : S_Spot × S_Spot) (q7 : Nat) : Prop := Sep q0 q1 q2 [.blk q3 87 (L34_0 q4), .blk q5 86 (L34_2 q6), .blk q7 86 (L34_3 q6)] []
theorem c34 (ok : Okp) (K : Nat) (w : World) (a0 : (Ar3 S_Spot)) (a1 : Int) (a2 : Int)  (res : Bool × Int) (hm : m34 K a0 a1 a2 = some res) :
  Calls Tryd.prog 34 #[.agg (L34_0 a0).toArray, ii a1, ii a2] w (fun e w' => e = .returned (tup [.bool res.1, ii res.2]) ∧ Sep ok w w' [] []) := by
 refine calls_W (args := [.agg (L34_0 a0).toArray, ii a1, ii a2]) Tryd.func34 rfl Tryd.ntmps34 Tryd.results34 rfl fun r hr => ?_
 obtain ⟨r1, rfl⟩ := regen (r := r) [(0, .agg (L34_0 a0).toArray), (1, ii a1), (2, ii a2)] ⟨hr 0 _ rfl, hr 1 _ rfl, hr 2 _ rfl, trivial⟩
 have H : Sep ok w w [] [] := Sep.start ok w
 unfold m34 at hm
 refine Wr ?_
 refine RL_cons (OB H (fun w2 b1 (H : S34_0 ok w w2 b1 a0) => ?_))
 refine RL_p (xa (.bool false)) ?_
 refine RL_p (xa (ii 0)) ?_
 refine Wr ?_
 refine RL_p (xA 0 (L34_0 a0) ag87 (H.c 0)) ?_
 refine RL_p (xm (ii a1)) ?_
 refine RL_p (xm (ii a2)) ?_
 obtain ⟨v4, hv3, hm⟩ := bind_some hm
 refine RL_cons (OC (xc [.agg (L34_0 a0).toArray, ii a1, ii a2] (cf35 _ _)) (c35 okT K w2 a0 a1 a2  v4 hv3) ?_)
 rintro e w5 ⟨rfl, H2⟩
 have H : S34_0 ok w w5 b1 a0 := H.below H2.base
 clear H2
 refine ⟨_, rfl, ?_⟩
 refine RL_p (xm (tup [.agg (L34_1 v4).toArray, ii v4.2])) ?_
 refine RL_p (xe (.agg (L34_1 v4).toArray)) ?_
 refine RL_p (xe (ii v4.2)) ?_
 refine RL_cons (OA ze28 H (fun w7 b6 (H : Sep ok w w7 [.blk b1 87 (L34_0 a0), .blk b6 28 [ii 0, ii 0, ii 0]] []) => ?_))
 refine RL_cons (OS 1 0 (L34_1 v4) sz28 H (fun w8 (H : Sep ok w w8 [.blk b1 87 (L34_0 a0), .blk b6 28 (L34_1 v4)] []) => ?_))
 refine RL_p (xa (ii v4.2)) ?_
 refine W_seq ?_
 refine Wr ?_
 refine RL_p (xm (ii v4.2)) ?_
 refine RL_p (xN) ?_
 refine Wc (fun hb => ?_) (fun hb => ?_)
 ·have hm := cond_t hb hm
  refine Wr ?_
  refine RL_p (xm (ii v4.2)) ?_
  refine RL_p (xa (.bool false)) ?_
  refine RL_p (xa (ii v4.2)) ?_
  refine W_ret ?_
  obtain rfl := Option.some.inj hm
  exact ⟨[.bool false, ii v4.2], (.tmp (by rfl) (.tmp (by rfl) rfl)), rfl, H.none_⟩
 have hm := cond_f hb hm
 refine W_skip ?_
 refine W_seq ?_
 refine Wr ?_
 refine RL_p (xA 0 (L34_1 v4) ag28 (H.c 1)) ?_
 refine RL_p (xm (ii 0)) ?_
 refine W_block ?_
 refine W_unroll 40 ?_
 refine WU_succ ?_
 refine Wr ?_
 refine RL_p (xL) ?_
 refine W_seq ?_
 refine Wt ?_
 refine W_skip ?_
 refine W_seq ?_
 refine W_block ?_
 refine Wr ?_
 refine RL_p (xm (ii 0)) ?_
 refine RL_p (xi ar28 sz3 sc3) ?_
 refine RL_p (xa (ii 0)) ?_
 refine RL_p (xa (ii v4.1.a0)) ?_
 refine Wr ?_
 refine RL_p (xA 0 (L34_0 a0) ag87 (H.c 0)) ?_
 refine RL_p (xm (ii 0)) ?_
 obtain ⟨v10, hv9, hm⟩ := bind_some hm
 refine RL_cons (OC (xc [.agg (L34_0 a0).toArray, ii 0] (cf54 _ _)) (c54 okT K w8 a0 0  v10 hv9) ?_)
 rintro e w11 ⟨rfl, H2⟩
 have H : Sep ok w w11 [.blk b1 87 (L34_0 a0), .blk b6 28 (L34_1 v4)] [] := H.below H2.base
 clear H2
 refine ⟨_, rfl, ?_⟩
 refine RL_p (xm (tup [.agg (L34_2 v10).toArray, .agg (L34_3 v10).toArray])) ?_
 refine RL_p (xe (.agg (L34_2 v10).toArray)) ?_
 refine RL_p (xe (.agg (L34_3 v10).toArray)) ?_
 refine RL_cons (OA ze86 H (fun w13 b12 (H : Sep ok w w13 [.blk b1 87 (L34_0 a0), .blk b6 28 (L34_1 v4), .blk b12 86 L34_4] []) => ?_))
 refine RL_cons (OA ze86 H (fun w15 b14 (H : Sep ok w w15 [.blk b1 87 (L34_0 a0), .blk b6 28 (L34_1 v4), .blk b12 86 L34_4, .blk b14 86 L34_4] []) => ?_))
 refine RL_cons (OS 2 0 (L34_2 v10) sz86 H (fun w16 (H : Sep ok w w16 [.blk b1 87 (L34_0 a0), .blk b6 28 (L34_1 v4), .blk b12 86 (L34_2 v10), .blk b14 86 L34_4] []) => ?_))
 refine RL_cons (OS 3 0 (L34_3 v10) sz86 H (fun w17 (H : Sep ok w w17 [.blk b1 87 (L34_0 a0), .blk b6 28 (L34_1 v4), .blk b12 86 (L34_2 v10), .blk b14 86 (L34_3 v10)] []) => ?_))
 refine Wr ?_
 refine RL_p (xf fo86_1) ?_
 refine RL_p (xl 1 (ii v10.2.Y) sc3 (H.c 3)) ?_
 refine RL_p (xf fo86_1) ?_
 refine RL_p (xl 1 (ii v10.1.Y) sc3 (H.c 2)) ?_
 refine RL_p (xL) ?_
 refine RL_p (xm (.bool (decide (v10.2.Y < v10.1.Y)))) ?_
 obtain ⟨b18, hmS, hm⟩ := bind_some hm
 refine RL_cut 13 (fun r' w' => Agr [(54, .bool b18), (3, pp b1), (11, ii v4.1.a0), (25, .agg (L34_1 v4).toArray), (26, ii 0)] r' ∧ Sep ok w w' [.blk b1 87 (L34_0 a0), .blk b6 28 (L34_1 v4), .blk b12 86 (L34_2 v10), .blk b14 86 (L34_3 v10)] []) ?_ ?_
 ·cases hbS : (decide (v10.2.Y < v10.1.Y))
  ·have hm := cond_f hbS hmS
   refine RQ (xf fo86_1) ?_
   refine RQ (xl 1 (ii v10.2.Y) sc3 (H.c 3)) ?_
   refine RQ (xf fo86_1) ?_
   refine RQ (xl 1 (ii v10.1.Y) sc3 (H.c 2)) ?_
   refine RQ (x_eql (by rfl) (by rfl)) ?_
   refine RQ (xm (.bool (v10.2.Y == v10.1.Y))) ?_
   obtain ⟨b19, hmS, hm⟩ := bind_some hm
   refine RL_cut 6 (fun r' w' => Agr [(53, .bool b19), (3, pp b1), (11, ii v4.1.a0), (25, .agg (L34_1 v4).toArray), (26, ii 0), (41, .bool false)] r' ∧ Sep ok w w' [.blk b1 87 (L34_0 a0), .blk b6 28 (L34_1 v4), .blk b12 86 (L34_2 v10), .blk b14 86 (L34_3 v10)] []) ?_ ?_
   ·cases hbS : (v10.2.Y == v10.1.Y)
    ·have hm := cond_f hbS hmS
     refine RO ?_
     refine RO ?_
     refine RO ?_
     refine RO ?_
     refine RO ?_
     refine RQ (xF (.bool false)) ?_
     refine RL_nil ?_
     exact ⟨⟨congrArg Value.bool (Option.some.inj hm), rfl, rfl, rfl, rfl, rfl, trivial⟩, H⟩
    have hm := cond_t hbS hmS
    refine RQ (xf fo86_0) ?_
    refine RQ (xl 0 (ii v10.2.X) sc3 (H.c 3)) ?_
    refine RQ (xf fo86_0) ?_
    refine RQ (xl 0 (ii v10.1.X) sc3 (H.c 2)) ?_
    refine RQ (xG) ?_
    refine RQ (xT (.bool (decide (v10.1.X < v10.2.X)))) ?_
    refine RL_nil ?_
    exact ⟨⟨congrArg Value.bool (Option.some.inj hm), rfl, rfl, rfl, rfl, rfl, trivial⟩, H⟩
   rintro r' w' ⟨hA, H⟩
   obtain ⟨r20, rfl⟩ := regen _ hA; clear hA
   obtain ⟨w21, rfl⟩ := wld w'
   refine RL_p (xF (.bool b19)) ?_
   refine RL_nil ?_
   exact ⟨⟨congrArg Value.bool (Option.some.inj hm), rfl, rfl, rfl, rfl, trivial⟩, H⟩
  have hm := cond_t hbS hmS
  refine RO ?_
  refine RO ?_
  refine RO ?_
  refine RO ?_
  refine RO ?_
  refine RO ?_
  refine RL_cons (OpR_off (by exact wn3 rfl rfl rfl) (by rfl) (by rfl) ?_)
  refine RL_cons (OpR_off (by exact wn3 rfl rfl rfl) (by rfl) (by rfl) ?_)
  refine RL_cons (OpR_off (by exact wn3 rfl rfl rfl) (by rfl) (by rfl) ?_)
  refine RL_cons (OpR_off (by exact wn3 rfl rfl rfl) (by rfl) (by rfl) ?_)
  refine RL_cons (OpR_off (by exact wn3 rfl rfl rfl) (by rfl) (by rfl) ?_)
  refine RO ?_
  refine RL_p (xT (.bool true)) ?_
  refine RL_nil ?_
  exact ⟨⟨congrArg Value.bool (Option.some.inj hm), rfl, rfl, rfl, rfl, trivial⟩, H⟩
 rintro r' w' ⟨hA, H⟩
 obtain ⟨r22, rfl⟩ := regen _ hA; clear hA
 obtain ⟨w23, rfl⟩ := wld w'
 refine RL_p (xa (.bool b18)) ?_
 refine W_seq ?_
 have H : S34_0 ok w w23 b1 a0 := (H.takeL 1)
 refine W_region ?_
 refine RL_p (xm (ii v4.1.a0)) ?_
 refine RL_p (xL) ?_
 refine RL_p (xm (.bool (decide (v4.1.a0 < 0)))) ?_
 obtain ⟨b24, hmS, hm⟩ := bind_some hm
 refine RL_cut 7 (fun r' w' => Agr [(64, .bool b24), (3, pp b1), (25, .agg (L34_1 v4).toArray), (26, ii 0)] r' ∧ S34_0 ok w w' b1 a0) ?_ ?_
 ·cases hbS : (decide (v4.1.a0 < 0))
  ·have hm := cond_f hbS hmS
   refine RQ (xm (ii v4.1.a0)) ?_
   refine RQ (x_eql (by rfl) (by rfl)) ?_
   refine RQ (xm (.bool (v4.1.a0 == 0))) ?_
   obtain ⟨b25, hmS, hm⟩ := bind_some hm
   refine RL_cut 3 (fun r' w' => Agr [(63, .bool b25), (3, pp b1), (25, .agg (L34_1 v4).toArray), (26, ii 0), (57, .bool false)] r' ∧ S34_0 ok w w' b1 a0) ?_ ?_
   ·cases hbS : (v4.1.a0 == 0)
    ·have hm := cond_f hbS hmS
     refine RO ?_
     refine RO ?_
     refine RQ (xF (.bool false)) ?_
     refine RL_nil ?_
     exact ⟨⟨congrArg Value.bool (Option.some.inj hm), rfl, rfl, rfl, rfl, trivial⟩, H⟩
    have hm := cond_t hbS hmS
    refine RQ (xm (.bool b18)) ?_
    refine RQ (x_not (by rfl)) ?_
    refine RQ (xT (.bool (!b18))) ?_
    refine RL_nil ?_
    exact ⟨⟨congrArg Value.bool (Option.some.inj hm), rfl, rfl, rfl, rfl, trivial⟩, H⟩
   rintro r' w' ⟨hA, H⟩
   obtain ⟨r26, rfl⟩ := regen _ hA; clear hA
   obtain ⟨w27, rfl⟩ := wld w'
   refine RL_p (xF (.bool b25)) ?_
   refine RL_nil ?_
   exact ⟨⟨congrArg Value.bool (Option.some.inj hm), rfl, rfl, rfl, trivial⟩, H⟩
  have hm := cond_t hbS hmS
  refine RO ?_
  refine RO ?_
  refine RO ?_
  refine RL_cons (OpR_off (by exact wn3 rfl rfl rfl) (by rfl) (by rfl) ?_)
  refine RL_cons (OpR_off (by exact wn3 rfl rfl rfl) (by rfl) (by rfl) ?_)
  refine RO ?_
  refine RL_p (xT (.bool true)) ?_
  refine RL_nil ?_
  exact ⟨⟨congrArg Value.bool (Option.some.inj hm), rfl, rfl, rfl, trivial⟩, H⟩
 rintro r' w' ⟨hA, H⟩
 obtain ⟨r28, rfl⟩ := regen _ hA; clear hA
 obtain ⟨w29, rfl⟩ := wld w'
 show RL _ _ _ _ _ _ _
 refine Wc (fun hb => ?_) (fun hb => ?_)
 ·have hm := cond_t hb hm
  refine Wr ?_
  refine RL_p (xa (.bool false)) ?_
  refine RL_p (xa (ii 0)) ?_
  refine W_ret ?_
  obtain rfl := Option.some.inj hm
  exact ⟨[.bool false, ii 0], (.tmp (by rfl) (.tmp (by rfl) rfl)), rfl, H.none_⟩
 have hm := cond_f hb hm
 refine W_skip ?_
 refine W_region ?_
 refine RL_p (xp 1) ?_
 refine RL_p (xm (ii 1)) ?_
 refine WU_succ ?_
 refine Wr ?_
 refine RL_p (xL) ?_
 refine W_seq ?_
 refine Wt ?_
 refine W_skip ?_
 refine W_seq ?_
 refine W_block ?_
 refine Wr ?_
 refine RL_p (xm (ii 1)) ?_
 refine RL_p (xi ar28 sz3 sc3) ?_
 refine RL_p (xa (ii 1)) ?_
 refine RL_p (xa (ii v4.1.a1)) ?_
 refine Wr ?_
 refine RL_p (xA 0 (L34_0 a0) ag87 (H.c 0)) ?_
 refine RL_p (xm (ii 1)) ?_
 obtain ⟨v31, hv30, hm⟩ := bind_some hm
 refine RL_cons (OC (xc [.agg (L34_0 a0).toArray, ii 1] (cf54 _ _)) (c54 okT K w29 a0 1  v31 hv30) ?_)
 rintro e w32 ⟨rfl, H2⟩
 have H : S34_0 ok w w32 b1 a0 := H.below H2.base
 clear H2
 refine ⟨_, rfl, ?_⟩
 refine RL_p (xm (tup [.agg (L34_2 v31).toArray, .agg (L34_3 v31).toArray])) ?_
 refine RL_p (xe (.agg (L34_2 v31).toArray)) ?_
 refine RL_p (xe (.agg (L34_3 v31).toArray)) ?_
 refine RL_cons (OA ze86 H (fun w34 b33 (H : Sep ok w w34 [.blk b1 87 (L34_0 a0), .blk b33 86 L34_4] []) => ?_))
 refine RL_cons (OA ze86 H (fun w36 b35 (H : Sep ok w w36 [.blk b1 87 (L34_0 a0), .blk b33 86 L34_4, .blk b35 86 L34_4] []) => ?_))
 refine RL_cons (OS 1 0 (L34_2 v31) sz86 H (fun w37 (H : Sep ok w w37 [.blk b1 87 (L34_0 a0), .blk b33 86 (L34_2 v31), .blk b35 86 L34_4] []) => ?_))
 refine RL_cons (OS 2 0 (L34_3 v31) sz86 H (fun w38 (H : S34_1 ok w w38 b1 a0 b33 v31 b35) => ?_))
 refine Wr ?_
 refine RL_p (xf fo86_1) ?_
 refine RL_p (xl 1 (ii v31.2.Y) sc3 (H.c 2)) ?_
 refine RL_p (xf fo86_1) ?_
 refine RL_p (xl 1 (ii v31.1.Y) sc3 (H.c 1)) ?_
 refine RL_p (xL) ?_
 refine RL_p (xm (.bool (decide (v31.2.Y < v31.1.Y)))) ?_
 obtain ⟨b39, hmS, hm⟩ := bind_some hm
 refine RL_cut 13 (fun r' w' => Agr [(54, .bool b39), (3, pp b1), (11, ii v4.1.a1), (25, .agg (L34_1 v4).toArray), (26, ii 1)] r' ∧ S34_1 ok w w' b1 a0 b33 v31 b35) ?_ ?_
 ·cases hbS : (decide (v31.2.Y < v31.1.Y))
  ·have hm := cond_f hbS hmS
   refine RQ (xf fo86_1) ?_
   refine RQ (xl 1 (ii v31.2.Y) sc3 (H.c 2)) ?_
   refine RQ (xf fo86_1) ?_
   refine RQ (xl 1 (ii v31.1.Y) sc3 (H.c 1)) ?_
   refine RQ (x_eql (by rfl) (by rfl)) ?_
   refine RQ (xm (.bool (v31.2.Y == v31.1.Y))) ?_
   obtain ⟨b40, hmS, hm⟩ := bind_some hm
   refine RL_cut 6 (fun r' w' => Agr [(53, .bool b40), (3, pp b1), (11, ii v4.1.a1), (25, .agg (L34_1 v4).toArray), (26, ii 1), (41, .bool false)] r' ∧ S34_1 ok w w' b1 a0 b33 v31 b35) ?_ ?_
   ·cases hbS : (v31.2.Y == v31.1.Y)
    ·have hm := cond_f hbS hmS
     refine RO ?_
     refine RO ?_
     refine RO ?_
     refine RO ?_
     refine RO ?_
     refine RQ (xF (.bool false)) ?_
     refine RL_nil ?_
     exact ⟨⟨congrArg Value.bool (Option.some.inj hm), rfl, rfl, rfl, rfl, rfl, trivial⟩, H⟩
    have hm := cond_t hbS hmS
    refine RQ (xf fo86_0) ?_
    refine RQ (xl 0 (ii v31.2.X) sc3 (H.c 2)) ?_
    refine RQ (xf fo86_0) ?_
    refine RQ (xl 0 (ii v31.1.X) sc3 (H.c 1)) ?_
    refine RQ (xG) ?_
    refine RQ (xT (.bool (decide (v31.1.X < v31.2.X)))) ?_
    refine RL_nil ?_
    exact ⟨⟨congrArg Value.bool (Option.some.inj hm), rfl, rfl, rfl, rfl, rfl, trivial⟩, H⟩
   rintro r' w' ⟨hA, H⟩
   obtain ⟨r41, rfl⟩ := regen _ hA; clear hA
   obtain ⟨w42, rfl⟩ := wld w'
   refine RL_p (xF (.bool b40)) ?_
   refine RL_nil ?_
   exact ⟨⟨congrArg Value.bool (Option.some.inj hm), rfl, rfl, rfl, rfl, trivial⟩, H⟩
  have hm := cond_t hbS hmS
  refine RO ?_
  refine RO ?_
  refine RO ?_
  refine RO ?_
  refine RO ?_
  refine RO ?_
  refine RL_cons (OpR_off (by exact wn3 rfl rfl rfl) (by rfl) (by rfl) ?_)
  refine RL_cons (OpR_off (by exact wn3 rfl rfl rfl) (by rfl) (by rfl) ?_)
  refine RL_cons (OpR_off (by exact wn3 rfl rfl rfl) (by rfl) (by rfl) ?_)
  refine RL_cons (OpR_off (by exact wn3 rfl rfl rfl) (by rfl) (by rfl) ?_)
  refine RL_cons (OpR_off (by exact wn3 rfl rfl rfl) (by rfl) (by rfl) ?_)
  refine RO ?_
  refine RL_p (xT (.bool true)) ?_
  refine RL_nil ?_
  exact ⟨⟨congrArg Value.bool (Option.some.inj hm), rfl, rfl, rfl, rfl, trivial⟩, H⟩
 rintro r' w' ⟨hA, H⟩
 obtain ⟨r43, rfl⟩ := regen _ hA; clear hA
 obtain ⟨w44, rfl⟩ := wld w'
 refine RL_p (xa (.bool b39)) ?_
 refine Wr ?_
 refine RL_p (xm (ii v4.1.a1)) ?_
 refine RL_p (xL) ?_
 refine RL_p (xm (.bool (decide (v4.1.a1 < 0)))) ?_
 obtain ⟨b45, hmS, hm⟩ := bind_some hm
 refine RL_cut 7 (fun r' w' => Agr [(64, .bool b45), (3, pp b1), (25, .agg (L34_1 v4).toArray), (26, ii 1)] r' ∧ S34_1 ok w w' b1 a0 b33 v31 b35) ?_ ?_
 ·cases hbS : (decide (v4.1.a1 < 0))
  ·have hm := cond_f hbS hmS
   refine RQ (xm (ii v4.1.a1)) ?_
   refine RQ (x_eql (by rfl) (by rfl)) ?_
   refine RQ (xm (.bool (v4.1.a1 == 0))) ?_
   obtain ⟨b46, hmS, hm⟩ := bind_some hm
   refine RL_cut 3 (fun r' w' => Agr [(63, .bool b46), (3, pp b1), (25, .agg (L34_1 v4).toArray), (26, ii 1), (57, .bool false)] r' ∧ S34_1 ok w w' b1 a0 b33 v31 b35) ?_ ?_
   ·cases hbS : (v4.1.a1 == 0)
    ·have hm := cond_f hbS hmS
     refine RO ?_
     refine RO ?_
     refine RQ (xF (.bool false)) ?_
     refine RL_nil ?_
     exact ⟨⟨congrArg Value.bool (Option.some.inj hm), rfl, rfl, rfl, rfl, trivial⟩, H⟩
    have hm := cond_t hbS hmS
    refine RQ (xm (.bool b39)) ?_
    refine RQ (x_not (by rfl)) ?_
    refine RQ (xT (.bool (!b39))) ?_
    refine RL_nil ?_
    exact ⟨⟨congrArg Value.bool (Option.some.inj hm), rfl, rfl, rfl, rfl, trivial⟩, H⟩
   rintro r' w' ⟨hA, H⟩
   obtain ⟨r47, rfl⟩ := regen _ hA; clear hA
   obtain ⟨w48, rfl⟩ := wld w'
   refine RL_p (xF (.bool b46)) ?_
   refine RL_nil ?_
   exact ⟨⟨congrArg Value.bool (Option.some.inj hm), rfl, rfl, rfl, trivial⟩, H⟩
  have hm := cond_t hbS hmS
  refine RO ?_
  refine RO ?_
  refine RO ?_
  refine RL_cons (OpR_off (by exact wn3 rfl rfl rfl) (by rfl) (by rfl) ?_)
  refine RL_cons (OpR_off (by exact wn3 rfl rfl rfl) (by rfl) (by rfl) ?_)
  refine RO ?_
  refine RL_p (xT (.bool true)) ?_
  refine RL_nil ?_
  exact ⟨⟨congrArg Value.bool (Option.some.inj hm), rfl, rfl, rfl, trivial⟩, H⟩
 rintro r' w' ⟨hA, H⟩
 obtain ⟨r49, rfl⟩ := regen _ hA; clear hA
 obtain ⟨w50, rfl⟩ := wld w'
 show RL _ _ _ _ _ _ _
 refine Wc (fun hb => ?_) (fun hb => ?_)
 ·have hm := cond_t hb hm
  refine W_seq ?_
  have H : Sep ok w w50 [] [] := (H.takeL 0)
  refine W_region ?_
  refine RL_p (xa (.bool false)) ?_
  refine RL_p (xa (ii 0)) ?_
  refine W_ret ?_
  obtain rfl := Option.some.inj hm
  exact ⟨[.bool false, ii 0], (.tmp (by rfl) (.tmp (by rfl) rfl)), rfl, H.none_⟩
 have hm := cond_f hb hm
 refine W_skip ?_
 refine W_region ?_
 refine RL_p (xp 2) ?_
 refine RL_p (xm (ii 2)) ?_
 refine WU_succ ?_
 refine Wr ?_
 refine RL_p (xL) ?_
 refine W_seq ?_
 refine Wt ?_
 refine W_skip ?_
 refine W_seq ?_
 refine W_block ?_
 refine Wr ?_
 refine RL_p (xm (ii 2)) ?_
 refine RL_p (xi ar28 sz3 sc3) ?_
 refine RL_p (xa (ii 2)) ?_
 refine RL_p (xa (ii v4.1.a2)) ?_
 refine Wr ?_
 refine RL_p (xA 0 (L34_0 a0) ag87 (H.c 0)) ?_
 refine RL_p (xm (ii 2)) ?_
 obtain ⟨v52, hv51, hm⟩ := bind_some hm
 refine RL_cons (OC (xc [.agg (L34_0 a0).toArray, ii 2] (cf54 _ _)) (c54 okT K w50 a0 2  v52 hv51) ?_)
 rintro e w53 ⟨rfl, H2⟩
 have H : S34_1 ok w w53 b1 a0 b33 v31 b35 := H.below H2.base
 clear H2
 refine ⟨_, rfl, ?_⟩
 refine RL_p (xm (tup [.agg (L34_2 v52).toArray, .agg (L34_3 v52).toArray])) ?_
 refine RL_p (xe (.agg (L34_2 v52).toArray)) ?_
 refine RL_p (xe (.agg (L34_3 v52).toArray)) ?_
 refine RL_cons (OA ze86 H (fun w55 b54 (H : Sep ok w w55 [.blk b1 87 (L34_0 a0), .blk b33 86 (L34_2 v31), .blk b35 86 (L34_3 v31), .blk b54 86 L34_4] []) => ?_))
 refine RL_cons (OA ze86 H (fun w57 b56 (H : Sep ok w w57 [.blk b1 87 (L34_0 a0), .blk b33 86 (L34_2 v31), .blk b35 86 (L34_3 v31), .blk b54 86 L34_4, .blk b56 86 L34_4] []) => ?_))
 refine RL_cons (OS 3 0 (L34_2 v52) sz86 H (fun w58 (H : Sep ok w w58 [.blk b1 87 (L34_0 a0), .blk b33 86 (L34_2 v31), .blk b35 86 (L34_3 v31), .blk b54 86 (L34_2 v52), .blk b56 86 L34_4] []) => ?_))
 refine RL_cons (OS 4 0 (L34_3 v52) sz86 H (fun w59 (H : Sep ok w w59 [.blk b1 87 (L34_0 a0), .blk b33 86 (L34_2 v31), .blk b35 86 (L34_3 v31), .blk b54 86 (L34_2 v52), .blk b56 86 (L34_3 v52)] []) => ?_))
 refine Wr ?_
 refine RL_p (xf fo86_1) ?_
 refine RL_p (xl 1 (ii v52.2.Y) sc3 (H.c 4)) ?_
 refine RL_p (xf fo86_1) ?_
 refine RL_p (xl 1 (ii v52.1.Y) sc3 (H.c 3)) ?_
 refine RL_p (xL) ?_
 refine RL_p (xm (.bool (decide (v52.2.Y < v52.1.Y)))) ?_
 obtain ⟨b60, hmS, hm⟩ := bind_some hm
 refine RL_cut 13 (fun r' w' => Agr [(54, .bool b60), (3, pp b1), (11, ii v4.1.a2), (25, .agg (L34_1 v4).toArray), (26, ii 2)] r' ∧ Sep ok w w' [.blk b1 87 (L34_0 a0), .blk b33 86 (L34_2 v31), .blk b35 86 (L34_3 v31), .blk b54 86 (L34_2 v52), .blk b56 86 (L34_3 v52)] []) ?_ ?_
 ·cases hbS : (decide (v52.2.Y < v52.1.Y))
  ·have hm := cond_f hbS hmS
   refine RQ (xf fo86_1) ?_
   refine RQ (xl 1 (ii v52.2.Y) sc3 (H.c 4)) ?_
   refine RQ (xf fo86_1) ?_
   refine RQ (xl 1 (ii v52.1.Y) sc3 (H.c 3)) ?_
   refine RQ (x_eql (by rfl) (by rfl)) ?_
   refine RQ (xm (.bool (v52.2.Y == v52.1.Y))) ?_
   obtain ⟨b61, hmS, hm⟩ := bind_some hm
   refine RL_cut 6 (fun r' w' => Agr [(53, .bool b61), (3, pp b1), (11, ii v4.1.a2), (25, .agg (L34_1 v4).toArray), (26, ii 2), (41, .bool false)] r' ∧ Sep ok w w' [.blk b1 87 (L34_0 a0), .blk b33 86 (L34_2 v31), .blk b35 86 (L34_3 v31), .blk b54 86 (L34_2 v52), .blk b56 86 (L34_3 v52)] []) ?_ ?_
   ·cases hbS : (v52.2.Y == v52.1.Y)
    ·have hm := cond_f hbS hmS
     refine RO ?_
     refine RO ?_
     refine RO ?_
     refine RO ?_
     refine RO ?_
     refine RQ (xF (.bool false)) ?_
     refine RL_nil ?_
     exact ⟨⟨congrArg Value.bool (Option.some.inj hm), rfl, rfl, rfl, rfl, rfl, trivial⟩, H⟩
    have hm := cond_t hbS hmS
    refine RQ (xf fo86_0) ?_
    refine RQ (xl 0 (ii v52.2.X) sc3 (H.c 4)) ?_
    refine RQ (xf fo86_0) ?_
    refine RQ (xl 0 (ii v52.1.X) sc3 (H.c 3)) ?_
    refine RQ (xG) ?_
    refine RQ (xT (.bool (decide (v52.1.X < v52.2.X)))) ?_
    refine RL_nil ?_
    exact ⟨⟨congrArg Value.bool (Option.some.inj hm), rfl, rfl, rfl, rfl, rfl, trivial⟩, H⟩
   rintro r' w' ⟨hA, H⟩
   obtain ⟨r62, rfl⟩ := regen _ hA; clear hA
   obtain ⟨w63, rfl⟩ := wld w'
   refine RL_p (xF (.bool b61)) ?_
   refine RL_nil ?_
   exact ⟨⟨congrArg Value.bool (Option.some.inj hm), rfl, rfl, rfl, rfl, trivial⟩, H⟩
  have hm := cond_t hbS hmS
  refine RO ?_
  refine RO ?_
  refine RO ?_
  refine RO ?_
  refine RO ?_
  refine RO ?_
  refine RL_cons (OpR_off (by exact wn3 rfl rfl rfl) (by rfl) (by rfl) ?_)
  refine RL_cons (OpR_off (by exact wn3 rfl rfl rfl) (by rfl) (by rfl) ?_)
  refine RL_cons (OpR_off (by exact wn3 rfl rfl rfl) (by rfl) (by rfl) ?_)
  refine RL_cons (OpR_off (by exact wn3 rfl rfl rfl) (by rfl) (by rfl) ?_)
  refine RL_cons (OpR_off (by exact wn3 rfl rfl rfl) (by rfl) (by rfl) ?_)
  refine RO ?_
  refine RL_p (xT (.bool true)) ?_
  refine RL_nil ?_
  exact ⟨⟨congrArg Value.bool (Option.some.inj hm), rfl, rfl, rfl, rfl, trivial⟩, H⟩
 rintro r' w' ⟨hA, H⟩
 obtain ⟨r64, rfl⟩ := regen _ hA; clear hA
 obtain ⟨w65, rfl⟩ := wld w'
 refine RL_p (xa (.bool b60)) ?_
 refine W_seq ?_
 have H : S34_0 ok w w65 b1 a0 := (H.takeL 1)
 refine W_region ?_
 refine RL_p (xm (ii v4.1.a2)) ?_
 refine RL_p (xL) ?_
 refine RL_p (xm (.bool (decide (v4.1.a2 < 0)))) ?_
 obtain ⟨b66, hmS, hm⟩ := bind_some hm
 refine RL_cut 7 (fun r' w' => Agr [(64, .bool b66), (3, pp b1), (25, .agg (L34_1 v4).toArray), (26, ii 2)] r' ∧ S34_0 ok w w' b1 a0) ?_ ?_
 ·cases hbS : (decide (v4.1.a2 < 0))
  ·have hm := cond_f hbS hmS
   refine RQ (xm (ii v4.1.a2)) ?_
   refine RQ (x_eql (by rfl) (by rfl)) ?_
   refine RQ (xm (.bool (v4.1.a2 == 0))) ?_
   obtain ⟨b67, hmS, hm⟩ := bind_some hm
   refine RL_cut 3 (fun r' w' => Agr [(63, .bool b67), (3, pp b1), (25, .agg (L34_1 v4).toArray), (26, ii 2), (57, .bool false)] r' ∧ S34_0 ok w w' b1 a0) ?_ ?_
   ·cases hbS : (v4.1.a2 == 0)
    ·have hm := cond_f hbS hmS
     refine RO ?_
     refine RO ?_
     refine RQ (xF (.bool false)) ?_
     refine RL_nil ?_
     exact ⟨⟨congrArg Value.bool (Option.some.inj hm), rfl, rfl, rfl, rfl, trivial⟩, H⟩
    have hm := cond_t hbS hmS
    refine RQ (xm (.bool b60)) ?_
    refine RQ (x_not (by rfl)) ?_
    refine RQ (xT (.bool (!b60))) ?_
    refine RL_nil ?_
    exact ⟨⟨congrArg Value.bool (Option.some.inj hm), rfl, rfl, rfl, rfl, trivial⟩, H⟩
   rintro r' w' ⟨hA, H⟩
   obtain ⟨r68, rfl⟩ := regen _ hA; clear hA
   obtain ⟨w69, rfl⟩ := wld w'
   refine RL_p (xF (.bool b67)) ?_
   refine RL_nil ?_
   exact ⟨⟨congrArg Value.bool (Option.some.inj hm), rfl, rfl, rfl, trivial⟩, H⟩
  have hm := cond_t hbS hmS
  refine RO ?_
  refine RO ?_
  refine RO ?_
  refine RL_cons (OpR_off (by exact wn3 rfl rfl rfl) (by rfl) (by rfl) ?_)
  refine RL_cons (OpR_off (by exact wn3 rfl rfl rfl) (by rfl) (by rfl) ?_)
  refine RO ?_
  refine RL_p (xT (.bool true)) ?_
  refine RL_nil ?_
  exact ⟨⟨congrArg Value.bool (Option.some.inj hm), rfl, rfl, rfl, trivial⟩, H⟩
 rintro r' w' ⟨hA, H⟩
 obtain ⟨r70, rfl⟩ := regen _ hA; clear hA
 obtain ⟨w71, rfl⟩ := wld w'
 show RL _ _ _ _ _ _ _
 refine Wc (fun hb => ?_) (fun hb => ?_)
 ·have hm := cond_t hb hm
  refine Wr ?_
  refine RL_p (xa (.bool false)) ?_
  refine RL_p (xa (ii 0)) ?_
  refine W_ret ?_
  obtain rfl := Option.some.inj hm
  exact ⟨[.bool false, ii 0], (.tmp (by rfl) (.tmp (by rfl) rfl)), rfl, H.none_⟩
 have hm := cond_f hb hm
 refine W_skip ?_
 refine W_region ?_
 refine RL_p (xp 3) ?_
 refine RL_p (xm (ii 3)) ?_
 refine WU_succ ?_
 refine Wr ?_
 refine RL_p (xL) ?_
 refine W_seq ?_
 refine Wf ?_
 refine W_exit ?_
 refine Wr ?_
 refine RL_p (xa (.bool true)) ?_
 refine RL_p (xa (ii 0)) ?_
 refine W_ret ?_
 obtain rfl := Option.some.inj hm
 exact ⟨[.bool true, ii 0], (.tmp (by rfl) (.tmp (by rfl) rfl)), rfl, H.none_⟩
end Go.Proofs.YtobkigllalbkiaaV.D

/- A plain Lean function that answers as the Go function does (none: not told), and the proof that a call answers so. Written by program. -/
set_option linter.unusedVariables false
set_option maxRecDepth 100000
set_option maxHeartbeats 4000000
namespace Go.Proofs.YtobkigllalbkiaaV.D
open Go.RowKit Go.Proofs.YtobkigllalbkiaaV
abbrev L22_0 (q0 : (Ar3 S_Spot)) : List Value := [ii q0.a0.X, ii q0.a0.Y, ii q0.a0.D, ii q0.a0.U, ii q0.a0.V, ii q0.a1.X, ii q0.a1.Y, ii q0.a1.D, ii q0.a1.U, ii q0.a1.V, ii q0.a2.X, ii q0.a2.Y, ii q0.a2.D, ii q0.a2.U, ii q0.a2.V]
abbrev L22_1  : List Value := [ii 0, ii 0, ii 0, ii 0, ii 0]
abbrev L22_2 (q0 : (Ar3 Int) × Int) : List Value := [ii q0.1.a0, ii q0.1.a1, ii q0.1.a2]
abbrev L22_3 (q0 : (Ar3 S_Spot)) : List Value := [ii q0.a0.X, ii q0.a0.Y, ii q0.a0.D, ii q0.a0.U, ii q0.a0.V]
abbrev L22_4 (q0 : (Ar3 S_Spot)) : List Value := [ii 1, ii q0.a0.U, ii q0.a0.V]
abbrev L22_5 (q0 : Int) (q1 : Int) (q2 : Int) : List Value := [ii q0, ii q1, ii q2]
abbrev L22_6 (q0 : (Ar3 S_Spot)) : List Value := [ii q0.a1.X, ii q0.a1.Y, ii q0.a1.D, ii q0.a1.U, ii q0.a1.V]
abbrev L22_7 (q0 : (Ar3 S_Spot)) : List Value := [ii 1, ii q0.a1.U, ii q0.a1.V]
abbrev L22_8 (q0 : (Ar3 S_Spot)) : List Value := [ii q0.a2.X, ii q0.a2.Y, ii q0.a2.D, ii q0.a2.U, ii q0.a2.V]
abbrev L22_9 (q0 : (Ar3 S_Spot)) : List Value := [ii 1, ii q0.a2.U, ii q0.a2.V]
abbrev L22_10 (q0 : Int) (q1 : Int) : List Value := [ii q0, ii q1, ii 0, ii 0, ii 0]
abbrev L22_11 (q0 : Int) (q1 : Int) (q2 : Int × Int) : List Value := [ii q0, ii q1, ii q2.1, ii 0, ii 0]
abbrev L22_12 (q0 : Int) (q1 : Int) (q2 : Int × Int) (q3 : Int × Int) : List Value := [ii q0, ii q1, ii q2.1, ii q3.1, ii 0]
abbrev L22_13 (q0 : Int) (q1 : Int) (q2 : Int × Int) (q3 : Int × Int) (q4 : Int × Int) : List Value := [ii q0, ii q1, ii q2.1, ii q3.1, ii q4.1]
abbrev L22_14 (q0 : S_Spot × Int) : List Value := [ii q0.1.X, ii q0.1.Y, ii q0.1.D, ii q0.1.U, ii q0.1.V]
def m22 (K : Nat) (a0 : (Ar3 S_Spot)) (a1 : Int) (a2 : Int) : Option (S_Spot × Int) :=
 ((m34 K a0 a1 a2).bind fun v6 => (bif (v6.2 != 0) then some ((⟨0, 0, 0, 0, 0⟩ : S_Spot), v6.2) else (bif (!v6.1) then some ((⟨0, 0, 0, 0, 0⟩ : S_Spot), 6) else ((m35 K a0 a1 a2).bind fun v11 => (bif (v11.2 != 0) then some ((⟨0, 0, 0, 0, 0⟩ : S_Spot), v11.2) else (ck (0 + v11.1.a0) fun x23 => (ck (v11.1.a0 * a0.a0.D) fun x25 => (ck (x25 * 1) fun x26 => (ck (0 + x26) fun x27 => (ck (v11.1.a0 * a0.a0.D) fun x30 => (ck (x30 * a0.a0.U) fun x31 => (ck (0 + x31) fun x32 => (ck (v11.1.a0 * a0.a0.D) fun x35 => (ck (x35 * a0.a0.V) fun x36 => (ck (0 + x36) fun x37 => (ck (x23 + v11.1.a1) fun x42 => (ck (v11.1.a1 * a0.a1.D) fun x44 => (ck (x44 * 1) fun x45 => (ck (x27 + x45) fun x46 => (ck (v11.1.a1 * a0.a1.D) fun x49 => (ck (x49 * a0.a1.U) fun x50 => (ck (x32 + x50) fun x51 => (ck (v11.1.a1 * a0.a1.D) fun x54 => (ck (x54 * a0.a1.V) fun x55 => (ck (x37 + x55) fun x56 => (ck (x42 + v11.1.a2) fun x61 => (ck (v11.1.a2 * a0.a2.D) fun x63 => (ck (x63 * 1) fun x64 => (ck (x46 + x64) fun x65 => (ck (v11.1.a2 * a0.a2.D) fun x68 => (ck (x68 * a0.a2.U) fun x69 => (ck (x51 + x69) fun x70 => (ck (v11.1.a2 * a0.a2.D) fun x73 => (ck (x73 * a0.a2.V) fun x74 => (ck (x56 + x74) fun x75 => (ck (8 * a1) fun x77 => (ck (x77 + 4) fun x78 => (ck (8 * a2) fun x79 => (ck (x79 + 4) fun x80 => ((m29 K x65 x61).bind fun v85 => ((m29 K x70 x65).bind fun v89 => ((m29 K x75 x65).bind fun v93 => some ((⟨x78, x80, v85.1, v89.1, v93.1⟩ : S_Spot), 0)))))))))))))))))))))))))))))))))))))))))))
abbrev S22_0 (q0 : Okp) (q1 q2 : World) (q3 : Nat) (q4 : (Ar3 S_Spot)) (q5 : Nat) : Prop := Sep q0 q1 q2 [.blk q3 87 (L22_0 q4), .blk q5 86 L22_1] []
abbrev S22_1 (q0 : Okp) (q1 q2 : World) (q3 : Nat) (q4 : (Ar3 S_Spot)) (q5 q6 : Nat) (q7 : (Ar3 Int) × Int) (q8 q9 : Nat) : Prop := Sep q0 q1 q2 [.blk q3 87 (L22_0 q4), .blk q5 86 L22_1, .blk q6 28 (L22_2 q7), .blk q8 28 [ii 0, ii 0, ii 0], .blk q9 86 (L22_3 q4)] []
abbrev S22_2 (q0 : Okp) (q1 q2 : World) (q3 : Nat) (q4 : (Ar3 S_Spot)) (q5 q6 : Nat) (q7 : (Ar3 Int) × Int) (q8 : Nat) (q9 : Int) (q10 : Nat) : Prop := Sep q0 q1 q2 [.blk q3 87 (L22_0 q4), .blk q5 86 L22_1, .blk q6 28 (L22_2 q7), .blk q8 28 [ii q9, ii 0, ii 0], .blk q10 86 (L22_3 q4)] []
abbrev S22_3 (q0 : Okp) (q1 q2 : World) (q3 : Nat) (q4 : (Ar3 S_Spot)) (q5 q6 : Nat) (q7 : (Ar3 Int) × Int) (q8 : Nat) (q9 q10 : Int) (q11 : Nat) : Prop := Sep q0 q1 q2 [.blk q3 87 (L22_0 q4), .blk q5 86 L22_1, .blk q6 28 (L22_2 q7), .blk q8 28 [ii q9, ii q10, ii 0], .blk q11 86 (L22_3 q4)] []
abbrev S22_4 (q0 : Okp) (q1 q2 : World) (q3 : Nat) (q4 : (Ar3 S_Spot)) (q5 q6 : Nat) (q7 : (Ar3 Int) × Int) (q8 : Nat) (q9 q10 q11 : Int) (q12 q13 : Nat) : Prop := Sep q0 q1 q2 [.blk q3 87 (L22_0 q4), .blk q5 86 L22_1, .blk q6 28 (L22_2 q7), .blk q8 28 (L22_5 q9 q10 q11), .blk q12 86 (L22_3 q4), .blk q13 86 (L22_6 q4)] []
abbrev S22_5 (q0 : Okp) (q1 q2 : World) (q3 q4 : Nat) (q5 : (Ar3 Int) × Int) (q6 : Nat) (q7 q8 q9 : Int) (q10 : Nat) (q11 : (Ar3 S_Spot)) : Prop := Sep q0 q1 q2 [.blk q3 86 L22_1, .blk q4 28 (L22_2 q5), .blk q6 28 (L22_5 q7 q8 q9), .blk q10 86 (L22_8 q11)] []
theorem c22 (ok : Okp) (K : Nat) (w : World) (a0 : (Ar3 S_Spot)) (a1 : Int) (a2 : Int)  (res : S_Spot × Int) (hm : m22 K a0 a1 a2 = some res) :
  Calls Tryd.prog 22 #[.agg (L22_0 a0).toArray, ii a1, ii a2] w (fun e w' => e = .returned (tup [.agg (L22_14 res).toArray, ii res.2]) ∧ Sep ok w w' [] []) := by
 refine calls_W (args := [.agg (L22_0 a0).toArray, ii a1, ii a2]) Tryd.func22 rfl Tryd.ntmps22 Tryd.results22 rfl fun r hr => ?_
 obtain ⟨r1, rfl⟩ := regen (r := r) [(0, .agg (L22_0 a0).toArray), (1, ii a1), (2, ii a2)] ⟨hr 0 _ rfl, hr 1 _ rfl, hr 2 _ rfl, trivial⟩
 have H : Sep ok w w [] [] := Sep.start ok w
 unfold m22 at hm
 refine Wr ?_
 refine RL_cons (OB H (fun w2 b1 (H : Sep ok w w2 [.blk b1 87 (L22_0 a0)] []) => ?_))
 refine RL_cons (OA ze86 H (fun w4 b3 (H : S22_0 ok w w4 b1 a0 b3) => ?_))
 refine RL_p (xa (ii 0)) ?_
 refine Wr ?_
 refine RL_p (xA 0 (L22_0 a0) ag87 (H.c 0)) ?_
 refine RL_p (xm (ii a1)) ?_
 refine RL_p (xm (ii a2)) ?_
 obtain ⟨v6, hv5, hm⟩ := bind_some hm
 refine RL_cons (OC (xc [.agg (L22_0 a0).toArray, ii a1, ii a2] (cf34 _ _)) (c34 okT K w4 a0 a1 a2  v6 hv5) ?_)
 rintro e w7 ⟨rfl, H2⟩
 have H : S22_0 ok w w7 b1 a0 b3 := H.below H2.base
 clear H2
 refine ⟨_, rfl, ?_⟩
 refine RL_p (xm (tup [.bool v6.1, ii v6.2])) ?_
 refine RL_p (xe (.bool v6.1)) ?_
 refine RL_p (xe (ii v6.2)) ?_
 refine RL_p (xa (.bool v6.1)) ?_
 refine RL_p (xa (ii v6.2)) ?_
 refine W_seq ?_
 refine Wr ?_
 refine RL_p (xm (ii v6.2)) ?_
 refine RL_p (xN) ?_
 refine Wc (fun hb => ?_) (fun hb => ?_)
 ·have hm := cond_t hb hm
  refine Wr ?_
  refine RL_p (x_build (vs := []) (cs := L22_1) (by rfl) (by kernel_rfl)) ?_
  refine RL_p (xm (ii v6.2)) ?_
  refine RL_cons (OS 1 0 L22_1 sz86 H (fun w8 (H : S22_0 ok w w8 b1 a0 b3) => ?_))
  refine RL_p (xa (ii v6.2)) ?_
  refine W_ret ?_
  obtain rfl := Option.some.inj hm
  exact ⟨[.agg L22_1.toArray, ii v6.2], (.cellA (by rfl) ag86 (H.c 1) (by rfl) (.tmp (by rfl) rfl)), rfl, H.none_⟩
 have hm := cond_f hb hm
 refine W_skip ?_
 refine W_seq ?_
 refine Wr ?_
 refine RL_p (xm (.bool v6.1)) ?_
 refine RL_p (x_not (by rfl)) ?_
 refine Wc (fun hb => ?_) (fun hb => ?_)
 ·have hm := cond_t hb hm
  refine Wr ?_
  refine RL_p (x_build (vs := []) (cs := L22_1) (by rfl) (by kernel_rfl)) ?_
  refine RL_cons (OS 1 0 L22_1 sz86 H (fun w9 (H : S22_0 ok w w9 b1 a0 b3) => ?_))
  refine RL_p (xa (ii 6)) ?_
  refine W_ret ?_
  obtain rfl := Option.some.inj hm
  exact ⟨[.agg L22_1.toArray, ii 6], (.cellA (by rfl) ag86 (H.c 1) (by rfl) (.tmp (by rfl) rfl)), rfl, H.none_⟩
 have hm := cond_f hb hm
 refine W_skip ?_
 refine Wr ?_
 refine RL_p (xA 0 (L22_0 a0) ag87 (H.c 0)) ?_
 refine RL_p (xm (ii a1)) ?_
 refine RL_p (xm (ii a2)) ?_
 obtain ⟨v11, hv10, hm⟩ := bind_some hm
 refine RL_cons (OC (xc [.agg (L22_0 a0).toArray, ii a1, ii a2] (cf35 _ _)) (c35 okT K w7 a0 a1 a2  v11 hv10) ?_)
 rintro e w12 ⟨rfl, H2⟩
 have H : S22_0 ok w w12 b1 a0 b3 := H.below H2.base
 clear H2
 refine ⟨_, rfl, ?_⟩
 refine RL_p (xm (tup [.agg (L22_2 v11).toArray, ii v11.2])) ?_
 refine RL_p (xe (.agg (L22_2 v11).toArray)) ?_
 refine RL_p (xe (ii v11.2)) ?_
 refine RL_cons (OA ze28 H (fun w14 b13 (H : Sep ok w w14 [.blk b1 87 (L22_0 a0), .blk b3 86 L22_1, .blk b13 28 [ii 0, ii 0, ii 0]] []) => ?_))
 refine RL_cons (OS 2 0 (L22_2 v11) sz28 H (fun w15 (H : Sep ok w w15 [.blk b1 87 (L22_0 a0), .blk b3 86 L22_1, .blk b13 28 (L22_2 v11)] []) => ?_))
 refine RL_p (xa (ii v11.2)) ?_
 refine W_seq ?_
 refine Wr ?_
 refine RL_p (xm (ii v11.2)) ?_
 refine RL_p (xN) ?_
 refine Wc (fun hb => ?_) (fun hb => ?_)
 ·have hm := cond_t hb hm
  refine Wr ?_
  refine RL_p (x_build (vs := []) (cs := L22_1) (by rfl) (by kernel_rfl)) ?_
  refine RL_p (xm (ii v11.2)) ?_
  refine RL_cons (OS 1 0 L22_1 sz86 H (fun w16 (H : Sep ok w w16 [.blk b1 87 (L22_0 a0), .blk b3 86 L22_1, .blk b13 28 (L22_2 v11)] []) => ?_))
  refine RL_p (xa (ii v11.2)) ?_
  refine W_ret ?_
  obtain rfl := Option.some.inj hm
  exact ⟨[.agg L22_1.toArray, ii v11.2], (.cellA (by rfl) ag86 (H.c 1) (by rfl) (.tmp (by rfl) rfl)), rfl, H.none_⟩
 have hm := cond_f hb hm
 refine W_skip ?_
 refine Wr ?_
 refine RL_p (x_build (vs := []) (cs := [ii 0, ii 0, ii 0]) (by rfl) (by kernel_rfl)) ?_
 refine RL_cons (OA ze28 H (fun w18 b17 (H : Sep ok w w18 [.blk b1 87 (L22_0 a0), .blk b3 86 L22_1, .blk b13 28 (L22_2 v11), .blk b17 28 [ii 0, ii 0, ii 0]] []) => ?_))
 refine RL_p (xa (ii 0)) ?_
 refine RL_cons (OS 3 0 [ii 0, ii 0, ii 0] sz28 H (fun w19 (H : Sep ok w w19 [.blk b1 87 (L22_0 a0), .blk b3 86 L22_1, .blk b13 28 (L22_2 v11), .blk b17 28 [ii 0, ii 0, ii 0]] []) => ?_))
 refine W_seq ?_
 refine Wr ?_
 refine RL_p (xA 0 (L22_0 a0) ag87 (H.c 0)) ?_
 refine RL_p (xm (ii 0)) ?_
 refine W_block ?_
 refine W_unroll 40 ?_
 refine WU_succ ?_
 refine Wr ?_
 refine RL_p (xL) ?_
 refine W_seq ?_
 refine Wt ?_
 refine W_skip ?_
 refine W_seq ?_
 refine W_block ?_
 refine Wr ?_
 refine RL_p (xm (ii 0)) ?_
 refine RL_p (xJ (L22_3 a0) ar87 ag86) ?_
 refine RL_cons (OA ze86 H (fun w21 b20 (H : Sep ok w w21 [.blk b1 87 (L22_0 a0), .blk b3 86 L22_1, .blk b13 28 (L22_2 v11), .blk b17 28 [ii 0, ii 0, ii 0], .blk b20 86 L22_1] []) => ?_))
 refine RL_p (xa (ii 0)) ?_
 refine RL_cons (OS 4 0 (L22_3 a0) sz86 H (fun w22 (H : S22_1 ok w w22 b1 a0 b3 b13 v11 b17 b20) => ?_))
 refine Wr ?_
 refine RL_p (xm (ii 0)) ?_
 refine RL_p (xm (ii 0)) ?_
 refine RL_p (xI ar28 sz3) ?_
 refine RL_p (xl 0 (ii v11.1.a0) sc3 (H.c 2)) ?_
 obtain ⟨x23, ex23, qx23, ux23, hm⟩ := ck_some hm
 refine RL_p (xP ux23) ?_
 refine RL_p (xa (ii x23)) ?_
 refine Wr ?_
 refine RL_p (xf fo86_3) ?_
 refine RL_p (xl 3 (ii a0.a0.U) sc3 (H.c 4)) ?_
 refine RL_p (xf fo86_4) ?_
 refine RL_p (xl 4 (ii a0.a0.V) sc3 (H.c 4)) ?_
 refine RL_p (x_build (vs := [(0, ii 1), (1, ii a0.a0.U), (2, ii a0.a0.V)]) (cs := (L22_4 a0)) (by rfl) (by kernel_rfl)) ?_
 refine RL_p (xm (ii 0)) ?_
 refine W_block ?_
 refine W_unroll 40 ?_
 refine WU_succ ?_
 refine Wr ?_
 refine RL_p (xL) ?_
 refine W_seq ?_
 refine Wt ?_
 refine W_skip ?_
 refine W_seq ?_
 refine W_block ?_
 refine Wr ?_
 refine RL_p (xm (ii 0)) ?_
 refine RL_p (xi ar28 sz3 sc3) ?_
 refine RL_p (xa (ii 0)) ?_
 refine RL_p (xa (ii 1)) ?_
 refine W_draw [.free 0, .free 1, .take 2, .free 3, .free 4, .take 5, .free 6, .take 7, .free 8, .free 9, .free 10, .free 11, .free 12, .tail 13] (fun wS => S22_1 ok w wS b1 a0 b3 b13 v11 b17 b20) [13] [0, 1, 3, 4, 6, 8, 9, 10, 11, 12] mixed0 (by kernel_rfl) (by kernel_rfl) (by kernel_rfl) (by rfl) (by exact H.drew) ?_
 obtain ⟨w24, hW⟩ : ∃ W : World, W = { w22 with drawn := w22.drawn + 1 } := ⟨_, rfl⟩
 rw [← hW]
 have H : S22_1 ok w w24 b1 a0 b3 b13 v11 b17 b20 := by rw [hW]; exact H.drew
 clear hW
 refine PF (a := xm (ii 0)) (b := ?_)
 refine PF (a := xI ar28 sz3) (b := ?_)
 refine PT' (a := fun H => xl 0 (ii 0) sc3 (H.c 3)) (b := ?_)
 refine PF (a := xm (ii 0)) (b := ?_)
 refine PF (a := xI ar28 sz3) (b := ?_)
 refine PT' (a := fun H => xl 0 (ii v11.1.a0) sc3 (H.c 2)) (b := ?_)
 refine PF (a := xf fo86_2) (b := ?_)
 refine PT' (a := fun H => xl 2 (ii a0.a0.D) sc3 (H.c 4)) (b := ?_)
 obtain ⟨x25, ex25, qx25, ux25, hm⟩ := ck_some hm
 refine PF (a := xX ux25) (b := ?_)
 refine PF (a := xm (ii 1)) (b := ?_)
 obtain ⟨x26, ex26, qx26, ux26, hm⟩ := ck_some hm
 refine PF (a := xX ux26) (b := ?_)
 obtain ⟨x27, ex27, qx27, ux27, hm⟩ := ck_some hm
 refine PF (a := xP ux27) (b := ?_)
 refine PF (a := xI ar28 sz3) (b := ?_)
 refine PL (a := OS 3 0 [ii x27] sz3 H (fun w28 (H : S22_2 ok w w28 b1 a0 b3 b13 v11 b17 x27 b20) => ?_))
 refine PR_nil ?_
 refine W_region ?_
 refine RL_p (xp 1) ?_
 refine RL_p (xm (ii 1)) ?_
 refine WU_succ ?_
 refine Wr ?_
 refine RL_p (xL) ?_
 refine W_seq ?_
 refine Wt ?_
 refine W_skip ?_
 refine W_seq ?_
 refine W_block ?_
 refine Wr ?_
 refine RL_p (xm (ii 1)) ?_
 refine RL_p (xi ar28 sz3 sc3) ?_
 refine RL_p (xa (ii 1)) ?_
 refine RL_p (xa (ii a0.a0.U)) ?_
 refine W_draw [.free 0, .free 1, .take 2, .free 3, .free 4, .take 5, .free 6, .take 7, .free 8, .free 9, .free 10, .free 11, .free 12, .tail 13] (fun wS => S22_2 ok w wS b1 a0 b3 b13 v11 b17 x27 b20) [13] [0, 1, 3, 4, 6, 8, 9, 10, 11, 12] mixed0 (by kernel_rfl) (by kernel_rfl) (by kernel_rfl) (by rfl) (by exact H.drew) ?_
 obtain ⟨w29, hW⟩ : ∃ W : World, W = { w28 with drawn := w28.drawn + 1 } := ⟨_, rfl⟩
 rw [← hW]
 have H : S22_2 ok w w29 b1 a0 b3 b13 v11 b17 x27 b20 := by rw [hW]; exact H.drew
 clear hW
 refine PF (a := xm (ii 1)) (b := ?_)
 refine PF (a := xI ar28 sz3) (b := ?_)
 refine PT' (a := fun H => xl 1 (ii 0) sc3 (H.c 3)) (b := ?_)
 refine PF (a := xm (ii 0)) (b := ?_)
 refine PF (a := xI ar28 sz3) (b := ?_)
 refine PT' (a := fun H => xl 0 (ii v11.1.a0) sc3 (H.c 2)) (b := ?_)
 refine PF (a := xf fo86_2) (b := ?_)
 refine PT' (a := fun H => xl 2 (ii a0.a0.D) sc3 (H.c 4)) (b := ?_)
 obtain ⟨x30, ex30, qx30, ux30, hm⟩ := ck_some hm
 refine PF (a := xX ux30) (b := ?_)
 refine PF (a := xm (ii a0.a0.U)) (b := ?_)
 obtain ⟨x31, ex31, qx31, ux31, hm⟩ := ck_some hm
 refine PF (a := xX ux31) (b := ?_)
 obtain ⟨x32, ex32, qx32, ux32, hm⟩ := ck_some hm
 refine PF (a := xP ux32) (b := ?_)
 refine PF (a := xI ar28 sz3) (b := ?_)
 refine PL (a := OS 3 1 [ii x32] sz3 H (fun w33 (H : S22_3 ok w w33 b1 a0 b3 b13 v11 b17 x27 x32 b20) => ?_))
 refine PR_nil ?_
 refine W_region ?_
 refine RL_p (xp 2) ?_
 refine RL_p (xm (ii 2)) ?_
 refine WU_succ ?_
 refine Wr ?_
 refine RL_p (xL) ?_
 refine W_seq ?_
 refine Wt ?_
 refine W_skip ?_
 refine W_seq ?_
 refine W_block ?_
 refine Wr ?_
 refine RL_p (xm (ii 2)) ?_
 refine RL_p (xi ar28 sz3 sc3) ?_
 refine RL_p (xa (ii 2)) ?_
 refine RL_p (xa (ii a0.a0.V)) ?_
 refine W_draw [.free 0, .free 1, .take 2, .free 3, .free 4, .take 5, .free 6, .take 7, .free 8, .free 9, .free 10, .free 11, .free 12, .tail 13] (fun wS => S22_3 ok w wS b1 a0 b3 b13 v11 b17 x27 x32 b20) [13] [0, 1, 3, 4, 6, 8, 9, 10, 11, 12] mixed0 (by kernel_rfl) (by kernel_rfl) (by kernel_rfl) (by rfl) (by exact H.drew) ?_
 obtain ⟨w34, hW⟩ : ∃ W : World, W = { w33 with drawn := w33.drawn + 1 } := ⟨_, rfl⟩
 rw [← hW]
 have H : S22_3 ok w w34 b1 a0 b3 b13 v11 b17 x27 x32 b20 := by rw [hW]; exact H.drew
 clear hW
 refine PF (a := xm (ii 2)) (b := ?_)
 refine PF (a := xI ar28 sz3) (b := ?_)
 refine PT' (a := fun H => xl 2 (ii 0) sc3 (H.c 3)) (b := ?_)
 refine PF (a := xm (ii 0)) (b := ?_)
 refine PF (a := xI ar28 sz3) (b := ?_)
 refine PT' (a := fun H => xl 0 (ii v11.1.a0) sc3 (H.c 2)) (b := ?_)
 refine PF (a := xf fo86_2) (b := ?_)
 refine PT' (a := fun H => xl 2 (ii a0.a0.D) sc3 (H.c 4)) (b := ?_)
 obtain ⟨x35, ex35, qx35, ux35, hm⟩ := ck_some hm
 refine PF (a := xX ux35) (b := ?_)
 refine PF (a := xm (ii a0.a0.V)) (b := ?_)
 obtain ⟨x36, ex36, qx36, ux36, hm⟩ := ck_some hm
 refine PF (a := xX ux36) (b := ?_)
 obtain ⟨x37, ex37, qx37, ux37, hm⟩ := ck_some hm
 refine PF (a := xP ux37) (b := ?_)
 refine PF (a := xI ar28 sz3) (b := ?_)
 refine PL (a := OS 3 2 [ii x37] sz3 H (fun w38 (H : Sep ok w w38 [.blk b1 87 (L22_0 a0), .blk b3 86 L22_1, .blk b13 28 (L22_2 v11), .blk b17 28 (L22_5 x27 x32 x37), .blk b20 86 (L22_3 a0)] []) => ?_))
 refine PR_nil ?_
 refine W_region ?_
 refine RL_p (xp 3) ?_
 refine RL_p (xm (ii 3)) ?_
 refine WU_succ ?_
 refine Wr ?_
 refine RL_p (xL) ?_
 refine W_seq ?_
 refine Wf ?_
 refine W_exit ?_
 refine W_region ?_
 refine RL_p (xp 1) ?_
 refine RL_p (xm (ii 1)) ?_
 refine WU_succ ?_
 refine Wr ?_
 refine RL_p (xL) ?_
 refine W_seq ?_
 refine Wt ?_
 refine W_skip ?_
 refine W_seq ?_
 refine W_block ?_
 refine Wr ?_
 refine RL_p (xm (ii 1)) ?_
 refine RL_p (xJ (L22_6 a0) ar87 ag86) ?_
 refine RL_cons (OA ze86 H (fun w40 b39 (H : Sep ok w w40 [.blk b1 87 (L22_0 a0), .blk b3 86 L22_1, .blk b13 28 (L22_2 v11), .blk b17 28 (L22_5 x27 x32 x37), .blk b20 86 (L22_3 a0), .blk b39 86 L22_1] []) => ?_))
 refine RL_p (xa (ii 1)) ?_
 refine RL_cons (OS 5 0 (L22_6 a0) sz86 H (fun w41 (H : S22_4 ok w w41 b1 a0 b3 b13 v11 b17 x27 x32 x37 b20 b39) => ?_))
 refine Wr ?_
 refine RL_p (xm (ii x23)) ?_
 refine RL_p (xm (ii 1)) ?_
 refine RL_p (xI ar28 sz3) ?_
 refine RL_p (xl 1 (ii v11.1.a1) sc3 (H.c 2)) ?_
 obtain ⟨x42, ex42, qx42, ux42, hm⟩ := ck_some hm
 refine RL_p (xP ux42) ?_
 refine RL_p (xa (ii x42)) ?_
 refine Wr ?_
 refine RL_p (xf fo86_3) ?_
 refine RL_p (xl 3 (ii a0.a1.U) sc3 (H.c 5)) ?_
 refine RL_p (xf fo86_4) ?_
 refine RL_p (xl 4 (ii a0.a1.V) sc3 (H.c 5)) ?_
 refine RL_p (x_build (vs := [(0, ii 1), (1, ii a0.a1.U), (2, ii a0.a1.V)]) (cs := (L22_7 a0)) (by rfl) (by kernel_rfl)) ?_
 refine RL_p (xm (ii 0)) ?_
 refine W_block ?_
 refine W_unroll 40 ?_
 refine WU_succ ?_
 refine Wr ?_
 refine RL_p (xL) ?_
 refine W_seq ?_
 refine Wt ?_
 refine W_skip ?_
 refine W_seq ?_
 refine W_block ?_
 refine Wr ?_
 refine RL_p (xm (ii 0)) ?_
 refine RL_p (xi ar28 sz3 sc3) ?_
 refine RL_p (xa (ii 0)) ?_
 refine RL_p (xa (ii 1)) ?_
 refine W_draw [.free 0, .free 1, .take 2, .free 3, .free 4, .take 5, .free 6, .take 7, .free 8, .free 9, .free 10, .free 11, .free 12, .tail 13] (fun wS => S22_4 ok w wS b1 a0 b3 b13 v11 b17 x27 x32 x37 b20 b39) [13] [0, 1, 3, 4, 6, 8, 9, 10, 11, 12] mixed0 (by kernel_rfl) (by kernel_rfl) (by kernel_rfl) (by rfl) (by exact H.drew) ?_
 obtain ⟨w43, hW⟩ : ∃ W : World, W = { w41 with drawn := w41.drawn + 1 } := ⟨_, rfl⟩
 rw [← hW]
 have H : S22_4 ok w w43 b1 a0 b3 b13 v11 b17 x27 x32 x37 b20 b39 := by rw [hW]; exact H.drew
 clear hW
 refine PF (a := xm (ii 0)) (b := ?_)
 refine PF (a := xI ar28 sz3) (b := ?_)
 refine PT' (a := fun H => xl 0 (ii x27) sc3 (H.c 3)) (b := ?_)
 refine PF (a := xm (ii 1)) (b := ?_)
 refine PF (a := xI ar28 sz3) (b := ?_)
 refine PT' (a := fun H => xl 1 (ii v11.1.a1) sc3 (H.c 2)) (b := ?_)
 refine PF (a := xf fo86_2) (b := ?_)
 refine PT' (a := fun H => xl 2 (ii a0.a1.D) sc3 (H.c 5)) (b := ?_)
 obtain ⟨x44, ex44, qx44, ux44, hm⟩ := ck_some hm
 refine PF (a := xX ux44) (b := ?_)
 refine PF (a := xm (ii 1)) (b := ?_)
 obtain ⟨x45, ex45, qx45, ux45, hm⟩ := ck_some hm
 refine PF (a := xX ux45) (b := ?_)
 obtain ⟨x46, ex46, qx46, ux46, hm⟩ := ck_some hm
 refine PF (a := xP ux46) (b := ?_)
 refine PF (a := xI ar28 sz3) (b := ?_)
 refine PL (a := OS 3 0 [ii x46] sz3 H (fun w47 (H : S22_4 ok w w47 b1 a0 b3 b13 v11 b17 x46 x32 x37 b20 b39) => ?_))
 refine PR_nil ?_
 refine W_region ?_
 refine RL_p (xp 1) ?_
 refine RL_p (xm (ii 1)) ?_
 refine WU_succ ?_
 refine Wr ?_
 refine RL_p (xL) ?_
 refine W_seq ?_
 refine Wt ?_
 refine W_skip ?_
 refine W_seq ?_
 refine W_block ?_
 refine Wr ?_
 refine RL_p (xm (ii 1)) ?_
 refine RL_p (xi ar28 sz3 sc3) ?_
 refine RL_p (xa (ii 1)) ?_
 refine RL_p (xa (ii a0.a1.U)) ?_
 refine W_draw [.free 0, .free 1, .take 2, .free 3, .free 4, .take 5, .free 6, .take 7, .free 8, .free 9, .free 10, .free 11, .free 12, .tail 13] (fun wS => S22_4 ok w wS b1 a0 b3 b13 v11 b17 x46 x32 x37 b20 b39) [13] [0, 1, 3, 4, 6, 8, 9, 10, 11, 12] mixed0 (by kernel_rfl) (by kernel_rfl) (by kernel_rfl) (by rfl) (by exact H.drew) ?_
 obtain ⟨w48, hW⟩ : ∃ W : World, W = { w47 with drawn := w47.drawn + 1 } := ⟨_, rfl⟩
 rw [← hW]
 have H : S22_4 ok w w48 b1 a0 b3 b13 v11 b17 x46 x32 x37 b20 b39 := by rw [hW]; exact H.drew
 clear hW
 refine PF (a := xm (ii 1)) (b := ?_)
 refine PF (a := xI ar28 sz3) (b := ?_)
 refine PT' (a := fun H => xl 1 (ii x32) sc3 (H.c 3)) (b := ?_)
 refine PF (a := xm (ii 1)) (b := ?_)
 refine PF (a := xI ar28 sz3) (b := ?_)
 refine PT' (a := fun H => xl 1 (ii v11.1.a1) sc3 (H.c 2)) (b := ?_)
 refine PF (a := xf fo86_2) (b := ?_)
 refine PT' (a := fun H => xl 2 (ii a0.a1.D) sc3 (H.c 5)) (b := ?_)
 obtain ⟨x49, ex49, qx49, ux49, hm⟩ := ck_some hm
 refine PF (a := xX ux49) (b := ?_)
 refine PF (a := xm (ii a0.a1.U)) (b := ?_)
 obtain ⟨x50, ex50, qx50, ux50, hm⟩ := ck_some hm
 refine PF (a := xX ux50) (b := ?_)
 obtain ⟨x51, ex51, qx51, ux51, hm⟩ := ck_some hm
 refine PF (a := xP ux51) (b := ?_)
 refine PF (a := xI ar28 sz3) (b := ?_)
 refine PL (a := OS 3 1 [ii x51] sz3 H (fun w52 (H : S22_4 ok w w52 b1 a0 b3 b13 v11 b17 x46 x51 x37 b20 b39) => ?_))
 refine PR_nil ?_
 refine W_region ?_
 refine RL_p (xp 2) ?_
 refine RL_p (xm (ii 2)) ?_
 refine WU_succ ?_
 refine Wr ?_
 refine RL_p (xL) ?_
 refine W_seq ?_
 refine Wt ?_
 refine W_skip ?_
 refine W_seq ?_
 refine W_block ?_
 refine Wr ?_
 refine RL_p (xm (ii 2)) ?_
 refine RL_p (xi ar28 sz3 sc3) ?_
 refine RL_p (xa (ii 2)) ?_
 refine RL_p (xa (ii a0.a1.V)) ?_
 refine W_draw [.free 0, .free 1, .take 2, .free 3, .free 4, .take 5, .free 6, .take 7, .free 8, .free 9, .free 10, .free 11, .free 12, .tail 13] (fun wS => S22_4 ok w wS b1 a0 b3 b13 v11 b17 x46 x51 x37 b20 b39) [13] [0, 1, 3, 4, 6, 8, 9, 10, 11, 12] mixed0 (by kernel_rfl) (by kernel_rfl) (by kernel_rfl) (by rfl) (by exact H.drew) ?_
 obtain ⟨w53, hW⟩ : ∃ W : World, W = { w52 with drawn := w52.drawn + 1 } := ⟨_, rfl⟩
 rw [← hW]
 have H : S22_4 ok w w53 b1 a0 b3 b13 v11 b17 x46 x51 x37 b20 b39 := by rw [hW]; exact H.drew
 clear hW
 refine PF (a := xm (ii 2)) (b := ?_)
 refine PF (a := xI ar28 sz3) (b := ?_)
 refine PT' (a := fun H => xl 2 (ii x37) sc3 (H.c 3)) (b := ?_)
 refine PF (a := xm (ii 1)) (b := ?_)
 refine PF (a := xI ar28 sz3) (b := ?_)
 refine PT' (a := fun H => xl 1 (ii v11.1.a1) sc3 (H.c 2)) (b := ?_)
 refine PF (a := xf fo86_2) (b := ?_)
 refine PT' (a := fun H => xl 2 (ii a0.a1.D) sc3 (H.c 5)) (b := ?_)
 obtain ⟨x54, ex54, qx54, ux54, hm⟩ := ck_some hm
 refine PF (a := xX ux54) (b := ?_)
 refine PF (a := xm (ii a0.a1.V)) (b := ?_)
 obtain ⟨x55, ex55, qx55, ux55, hm⟩ := ck_some hm
 refine PF (a := xX ux55) (b := ?_)
 obtain ⟨x56, ex56, qx56, ux56, hm⟩ := ck_some hm
 refine PF (a := xP ux56) (b := ?_)
 refine PF (a := xI ar28 sz3) (b := ?_)
 refine PL (a := OS 3 2 [ii x56] sz3 H (fun w57 (H : S22_4 ok w w57 b1 a0 b3 b13 v11 b17 x46 x51 x56 b20 b39) => ?_))
 refine PR_nil ?_
 refine W_region ?_
 refine RL_p (xp 3) ?_
 refine RL_p (xm (ii 3)) ?_
 refine WU_succ ?_
 refine Wr ?_
 refine RL_p (xL) ?_
 refine W_seq ?_
 refine Wf ?_
 refine W_exit ?_
 have H : Sep ok w w57 [.blk b3 86 L22_1, .blk b13 28 (L22_2 v11), .blk b17 28 (L22_5 x46 x51 x56)] [] := (H.pickL [1, 2, 3] (by decide))
 refine W_region ?_
 refine RL_p (xp 2) ?_
 refine RL_p (xm (ii 2)) ?_
 refine WU_succ ?_
 refine Wr ?_
 refine RL_p (xL) ?_
 refine W_seq ?_
 refine Wt ?_
 refine W_skip ?_
 refine W_seq ?_
 refine W_block ?_
 refine Wr ?_
 refine RL_p (xm (ii 2)) ?_
 refine RL_p (xJ (L22_8 a0) ar87 ag86) ?_
 refine RL_cons (OA ze86 H (fun w59 b58 (H : Sep ok w w59 [.blk b3 86 L22_1, .blk b13 28 (L22_2 v11), .blk b17 28 (L22_5 x46 x51 x56), .blk b58 86 L22_1] []) => ?_))
 refine RL_p (xa (ii 2)) ?_
 refine RL_cons (OS 3 0 (L22_8 a0) sz86 H (fun w60 (H : S22_5 ok w w60 b3 b13 v11 b17 x46 x51 x56 b58 a0) => ?_))
 refine Wr ?_
 refine RL_p (xm (ii x42)) ?_
 refine RL_p (xm (ii 2)) ?_
 refine RL_p (xI ar28 sz3) ?_
 refine RL_p (xl 2 (ii v11.1.a2) sc3 (H.c 1)) ?_
 obtain ⟨x61, ex61, qx61, ux61, hm⟩ := ck_some hm
 refine RL_p (xP ux61) ?_
 refine RL_p (xa (ii x61)) ?_
 refine Wr ?_
 refine RL_p (xf fo86_3) ?_
 refine RL_p (xl 3 (ii a0.a2.U) sc3 (H.c 3)) ?_
 refine RL_p (xf fo86_4) ?_
 refine RL_p (xl 4 (ii a0.a2.V) sc3 (H.c 3)) ?_
 refine RL_p (x_build (vs := [(0, ii 1), (1, ii a0.a2.U), (2, ii a0.a2.V)]) (cs := (L22_9 a0)) (by rfl) (by kernel_rfl)) ?_
 refine RL_p (xm (ii 0)) ?_
 refine W_block ?_
 refine W_unroll 40 ?_
 refine WU_succ ?_
 refine Wr ?_
 refine RL_p (xL) ?_
 refine W_seq ?_
 refine Wt ?_
 refine W_skip ?_
 refine W_seq ?_
 refine W_block ?_
 refine Wr ?_
 refine RL_p (xm (ii 0)) ?_
 refine RL_p (xi ar28 sz3 sc3) ?_
 refine RL_p (xa (ii 0)) ?_
 refine RL_p (xa (ii 1)) ?_
 refine W_draw [.free 0, .free 1, .take 2, .free 3, .free 4, .take 5, .free 6, .take 7, .free 8, .free 9, .free 10, .free 11, .free 12, .tail 13] (fun wS => S22_5 ok w wS b3 b13 v11 b17 x46 x51 x56 b58 a0) [13] [0, 1, 3, 4, 6, 8, 9, 10, 11, 12] mixed0 (by kernel_rfl) (by kernel_rfl) (by kernel_rfl) (by rfl) (by exact H.drew) ?_
 obtain ⟨w62, hW⟩ : ∃ W : World, W = { w60 with drawn := w60.drawn + 1 } := ⟨_, rfl⟩
 rw [← hW]
 have H : S22_5 ok w w62 b3 b13 v11 b17 x46 x51 x56 b58 a0 := by rw [hW]; exact H.drew
 clear hW
 refine PF (a := xm (ii 0)) (b := ?_)
 refine PF (a := xI ar28 sz3) (b := ?_)
 refine PT' (a := fun H => xl 0 (ii x46) sc3 (H.c 2)) (b := ?_)
 refine PF (a := xm (ii 2)) (b := ?_)
 refine PF (a := xI ar28 sz3) (b := ?_)
 refine PT' (a := fun H => xl 2 (ii v11.1.a2) sc3 (H.c 1)) (b := ?_)
 refine PF (a := xf fo86_2) (b := ?_)
 refine PT' (a := fun H => xl 2 (ii a0.a2.D) sc3 (H.c 3)) (b := ?_)
 obtain ⟨x63, ex63, qx63, ux63, hm⟩ := ck_some hm
 refine PF (a := xX ux63) (b := ?_)
 refine PF (a := xm (ii 1)) (b := ?_)
 obtain ⟨x64, ex64, qx64, ux64, hm⟩ := ck_some hm
 refine PF (a := xX ux64) (b := ?_)
 obtain ⟨x65, ex65, qx65, ux65, hm⟩ := ck_some hm
 refine PF (a := xP ux65) (b := ?_)
 refine PF (a := xI ar28 sz3) (b := ?_)
 refine PL (a := OS 2 0 [ii x65] sz3 H (fun w66 (H : S22_5 ok w w66 b3 b13 v11 b17 x65 x51 x56 b58 a0) => ?_))
 refine PR_nil ?_
 refine W_region ?_
 refine RL_p (xp 1) ?_
 refine RL_p (xm (ii 1)) ?_
 refine WU_succ ?_
 refine Wr ?_
 refine RL_p (xL) ?_
 refine W_seq ?_
 refine Wt ?_
 refine W_skip ?_
 refine W_seq ?_
 refine W_block ?_
 refine Wr ?_
 refine RL_p (xm (ii 1)) ?_
 refine RL_p (xi ar28 sz3 sc3) ?_
 refine RL_p (xa (ii 1)) ?_
 refine RL_p (xa (ii a0.a2.U)) ?_
 refine W_draw [.free 0, .free 1, .take 2, .free 3, .free 4, .take 5, .free 6, .take 7, .free 8, .free 9, .free 10, .free 11, .free 12, .tail 13] (fun wS => S22_5 ok w wS b3 b13 v11 b17 x65 x51 x56 b58 a0) [13] [0, 1, 3, 4, 6, 8, 9, 10, 11, 12] mixed0 (by kernel_rfl) (by kernel_rfl) (by kernel_rfl) (by rfl) (by exact H.drew) ?_
 obtain ⟨w67, hW⟩ : ∃ W : World, W = { w66 with drawn := w66.drawn + 1 } := ⟨_, rfl⟩
 rw [← hW]
 have H : S22_5 ok w w67 b3 b13 v11 b17 x65 x51 x56 b58 a0 := by rw [hW]; exact H.drew
 clear hW
 refine PF (a := xm (ii 1)) (b := ?_)
 refine PF (a := xI ar28 sz3) (b := ?_)
 refine PT' (a := fun H => xl 1 (ii x51) sc3 (H.c 2)) (b := ?_)
 refine PF (a := xm (ii 2)) (b := ?_)
 refine PF (a := xI ar28 sz3) (b := ?_)
 refine PT' (a := fun H => xl 2 (ii v11.1.a2) sc3 (H.c 1)) (b := ?_)
 refine PF (a := xf fo86_2) (b := ?_)
 refine PT' (a := fun H => xl 2 (ii a0.a2.D) sc3 (H.c 3)) (b := ?_)
 obtain ⟨x68, ex68, qx68, ux68, hm⟩ := ck_some hm
 refine PF (a := xX ux68) (b := ?_)
 refine PF (a := xm (ii a0.a2.U)) (b := ?_)
 obtain ⟨x69, ex69, qx69, ux69, hm⟩ := ck_some hm
 refine PF (a := xX ux69) (b := ?_)
 obtain ⟨x70, ex70, qx70, ux70, hm⟩ := ck_some hm
 refine PF (a := xP ux70) (b := ?_)
 refine PF (a := xI ar28 sz3) (b := ?_)
 refine PL (a := OS 2 1 [ii x70] sz3 H (fun w71 (H : S22_5 ok w w71 b3 b13 v11 b17 x65 x70 x56 b58 a0) => ?_))
 refine PR_nil ?_
 refine W_region ?_
 refine RL_p (xp 2) ?_
 refine RL_p (xm (ii 2)) ?_
 refine WU_succ ?_
 refine Wr ?_
 refine RL_p (xL) ?_
 refine W_seq ?_
 refine Wt ?_
 refine W_skip ?_
 refine W_seq ?_
 refine W_block ?_
 refine Wr ?_
 refine RL_p (xm (ii 2)) ?_
 refine RL_p (xi ar28 sz3 sc3) ?_
 refine RL_p (xa (ii 2)) ?_
 refine RL_p (xa (ii a0.a2.V)) ?_
 refine W_draw [.free 0, .free 1, .take 2, .free 3, .free 4, .take 5, .free 6, .take 7, .free 8, .free 9, .free 10, .free 11, .free 12, .tail 13] (fun wS => S22_5 ok w wS b3 b13 v11 b17 x65 x70 x56 b58 a0) [13] [0, 1, 3, 4, 6, 8, 9, 10, 11, 12] mixed0 (by kernel_rfl) (by kernel_rfl) (by kernel_rfl) (by rfl) (by exact H.drew) ?_
 obtain ⟨w72, hW⟩ : ∃ W : World, W = { w71 with drawn := w71.drawn + 1 } := ⟨_, rfl⟩
 rw [← hW]
 have H : S22_5 ok w w72 b3 b13 v11 b17 x65 x70 x56 b58 a0 := by rw [hW]; exact H.drew
 clear hW
 refine PF (a := xm (ii 2)) (b := ?_)
 refine PF (a := xI ar28 sz3) (b := ?_)
 refine PT' (a := fun H => xl 2 (ii x56) sc3 (H.c 2)) (b := ?_)
 refine PF (a := xm (ii 2)) (b := ?_)
 refine PF (a := xI ar28 sz3) (b := ?_)
 refine PT' (a := fun H => xl 2 (ii v11.1.a2) sc3 (H.c 1)) (b := ?_)
 refine PF (a := xf fo86_2) (b := ?_)
 refine PT' (a := fun H => xl 2 (ii a0.a2.D) sc3 (H.c 3)) (b := ?_)
 obtain ⟨x73, ex73, qx73, ux73, hm⟩ := ck_some hm
 refine PF (a := xX ux73) (b := ?_)
 refine PF (a := xm (ii a0.a2.V)) (b := ?_)
 obtain ⟨x74, ex74, qx74, ux74, hm⟩ := ck_some hm
 refine PF (a := xX ux74) (b := ?_)
 obtain ⟨x75, ex75, qx75, ux75, hm⟩ := ck_some hm
 refine PF (a := xP ux75) (b := ?_)
 refine PF (a := xI ar28 sz3) (b := ?_)
 refine PL (a := OS 2 2 [ii x75] sz3 H (fun w76 (H : S22_5 ok w w76 b3 b13 v11 b17 x65 x70 x75 b58 a0) => ?_))
 refine PR_nil ?_
 refine W_region ?_
 refine RL_p (xp 3) ?_
 refine RL_p (xm (ii 3)) ?_
 refine WU_succ ?_
 refine Wr ?_
 refine RL_p (xL) ?_
 refine W_seq ?_
 refine Wf ?_
 refine W_exit ?_
 refine W_region ?_
 refine RL_p (xp 3) ?_
 refine RL_p (xm (ii 3)) ?_
 refine WU_succ ?_
 refine Wr ?_
 refine RL_p (xL) ?_
 refine W_seq ?_
 refine Wf ?_
 refine W_exit ?_
 refine Wr ?_
 refine RL_p (xm (ii a1)) ?_
 obtain ⟨x77, ex77, qx77, ux77, hm⟩ := ck_some hm
 refine RL_p (xX ux77) ?_
 obtain ⟨x78, ex78, qx78, ux78, hm⟩ := ck_some hm
 refine RL_p (xP ux78) ?_
 refine RL_p (xm (ii a2)) ?_
 obtain ⟨x79, ex79, qx79, ux79, hm⟩ := ck_some hm
 refine RL_p (xX ux79) ?_
 obtain ⟨x80, ex80, qx80, ux80, hm⟩ := ck_some hm
 refine RL_p (xP ux80) ?_
 refine RL_p (x_build (vs := [(0, ii x78), (1, ii x80)]) (cs := (L22_10 x78 x80)) (by rfl) (by kernel_rfl)) ?_
 refine RL_cons (OA ze86 H (fun w82 b81 (H : Sep ok w w82 [.blk b3 86 L22_1, .blk b13 28 (L22_2 v11), .blk b17 28 (L22_5 x65 x70 x75), .blk b58 86 (L22_8 a0), .blk b81 86 L22_1] []) => ?_))
 refine RL_cons (OS 4 0 (L22_10 x78 x80) sz86 H (fun w83 (H : Sep ok w w83 [.blk b3 86 L22_1, .blk b13 28 (L22_2 v11), .blk b17 28 (L22_5 x65 x70 x75), .blk b58 86 (L22_8 a0), .blk b81 86 (L22_10 x78 x80)] []) => ?_))
 refine Wr ?_
 refine RL_p (xI ar28 sz3) ?_
 refine RL_p (xl 0 (ii x65) sc3 (H.c 2)) ?_
 refine RL_p (xm (ii x61)) ?_
 obtain ⟨v85, hv84, hm⟩ := bind_some hm
 refine RL_cons (OC (xc [ii x65, ii x61] (cf29 _ _)) (c29 okT K w83 x65 x61  v85 hv84) ?_)
 rintro e w86 ⟨rfl, H2⟩
 have H : Sep ok w w86 [.blk b3 86 L22_1, .blk b13 28 (L22_2 v11), .blk b17 28 (L22_5 x65 x70 x75), .blk b58 86 (L22_8 a0), .blk b81 86 (L22_10 x78 x80)] [] := H.below H2.base
 clear H2
 refine ⟨_, rfl, ?_⟩
 refine RL_p (xm (tup [ii v85.1, ii v85.2])) ?_
 refine RL_p (xe (ii v85.1)) ?_
 refine RL_p (xe (ii v85.2)) ?_
 refine RL_p (xf fo86_2) ?_
 refine RL_cons (OS 4 2 [ii v85.1] sz3 H (fun w87 (H : Sep ok w w87 [.blk b3 86 L22_1, .blk b13 28 (L22_2 v11), .blk b17 28 (L22_5 x65 x70 x75), .blk b58 86 (L22_8 a0), .blk b81 86 (L22_11 x78 x80 v85)] []) => ?_))
 refine Wr ?_
 refine RL_p (xI ar28 sz3) ?_
 refine RL_p (xl 1 (ii x70) sc3 (H.c 2)) ?_
 refine RL_p (xI ar28 sz3) ?_
 refine RL_p (xl 0 (ii x65) sc3 (H.c 2)) ?_
 obtain ⟨v89, hv88, hm⟩ := bind_some hm
 refine RL_cons (OC (xc [ii x70, ii x65] (cf29 _ _)) (c29 okT K w87 x70 x65  v89 hv88) ?_)
 rintro e w90 ⟨rfl, H2⟩
 have H : Sep ok w w90 [.blk b3 86 L22_1, .blk b13 28 (L22_2 v11), .blk b17 28 (L22_5 x65 x70 x75), .blk b58 86 (L22_8 a0), .blk b81 86 (L22_11 x78 x80 v85)] [] := H.below H2.base
 clear H2
 refine ⟨_, rfl, ?_⟩
 refine RL_p (xm (tup [ii v89.1, ii v89.2])) ?_
 refine RL_p (xe (ii v89.1)) ?_
 refine RL_p (xe (ii v89.2)) ?_
 refine RL_p (xf fo86_3) ?_
 refine RL_cons (OS 4 3 [ii v89.1] sz3 H (fun w91 (H : Sep ok w w91 [.blk b3 86 L22_1, .blk b13 28 (L22_2 v11), .blk b17 28 (L22_5 x65 x70 x75), .blk b58 86 (L22_8 a0), .blk b81 86 (L22_12 x78 x80 v85 v89)] []) => ?_))
 refine Wr ?_
 refine RL_p (xI ar28 sz3) ?_
 refine RL_p (xl 2 (ii x75) sc3 (H.c 2)) ?_
 refine RL_p (xI ar28 sz3) ?_
 refine RL_p (xl 0 (ii x65) sc3 (H.c 2)) ?_
 obtain ⟨v93, hv92, hm⟩ := bind_some hm
 refine RL_cons (OC (xc [ii x75, ii x65] (cf29 _ _)) (c29 okT K w91 x75 x65  v93 hv92) ?_)
 rintro e w94 ⟨rfl, H2⟩
 have H : Sep ok w w94 [.blk b3 86 L22_1, .blk b13 28 (L22_2 v11), .blk b17 28 (L22_5 x65 x70 x75), .blk b58 86 (L22_8 a0), .blk b81 86 (L22_12 x78 x80 v85 v89)] [] := H.below H2.base
 clear H2
 refine ⟨_, rfl, ?_⟩
 refine RL_p (xm (tup [ii v93.1, ii v93.2])) ?_
 refine RL_p (xe (ii v93.1)) ?_
 refine RL_p (xe (ii v93.2)) ?_
 refine RL_p (xf fo86_4) ?_
 refine RL_cons (OS 4 4 [ii v93.1] sz3 H (fun w95 (H : Sep ok w w95 [.blk b3 86 L22_1, .blk b13 28 (L22_2 v11), .blk b17 28 (L22_5 x65 x70 x75), .blk b58 86 (L22_8 a0), .blk b81 86 (L22_13 x78 x80 v85 v89 v93)] []) => ?_))
 refine W_seq ?_
 have H : Sep ok w w95 [.blk b3 86 L22_1, .blk b81 86 (L22_13 x78 x80 v85 v89 v93)] [] := (H.pickL [0, 4] (by decide))
 refine W_region ?_
 refine RL_p (xA 0 (L22_13 x78 x80 v85 v89 v93) ag86 (H.c 1)) ?_
 refine RL_cons (OS 0 0 (L22_13 x78 x80 v85 v89 v93) sz86 H (fun w96 (H : Sep ok w w96 [.blk b3 86 (L22_13 x78 x80 v85 v89 v93), .blk b81 86 (L22_13 x78 x80 v85 v89 v93)] []) => ?_))
 refine RL_p (xa (ii 0)) ?_
 refine W_ret ?_
 obtain rfl := Option.some.inj hm
 exact ⟨[.agg (L22_13 x78 x80 v85 v89 v93).toArray, ii 0], (.cellA (by rfl) ag86 (H.c 0) (by rfl) (.tmp (by rfl) rfl)), rfl, H.none_⟩
end Go.Proofs.YtobkigllalbkiaaV.D

/- A plain Lean function that answers as the Go function does (none: not told), and the proof that a call answers so. Written by program. -/
set_option linter.unusedVariables false
set_option maxRecDepth 100000
set_option maxHeartbeats 4000000
namespace Go.Proofs.YtobkigllalbkiaaV.D
open Go.RowKit Go.Proofs.YtobkigllalbkiaaV
abbrev FRc (f : S_Frag) : List Value := [ii f.D, ii f.Item, ii f.Tri, ii f.Part, ii f.U, ii f.V]
abbrev SPc (q0 : S_Spot) : List Value := [ii q0.X, ii q0.Y, ii q0.D, ii q0.U, ii q0.V]
abbrev T3c (q0 : Ar3 S_Spot) : List Value := [ii q0.a0.X, ii q0.a0.Y, ii q0.a0.D, ii q0.a0.U, ii q0.a0.V, ii q0.a1.X, ii q0.a1.Y, ii q0.a1.D, ii q0.a1.U, ii q0.a1.V, ii q0.a2.X, ii q0.a2.Y, ii q0.a2.D, ii q0.a2.U, ii q0.a2.V]
abbrev PTc (q0 : S_part) : List Value := [ii q0.t.a0.X, ii q0.t.a0.Y, ii q0.t.a0.D, ii q0.t.a0.U, ii q0.t.a0.V, ii q0.t.a1.X, ii q0.t.a1.Y, ii q0.t.a1.D, ii q0.t.a1.U, ii q0.t.a1.V, ii q0.t.a2.X, ii q0.t.a2.Y, ii q0.t.a2.D, ii q0.t.a2.U, ii q0.t.a2.V, ii q0.frag.D, ii q0.frag.Item, ii q0.frag.Tri, ii q0.frag.Part, ii q0.frag.U, ii q0.frag.V]
def m12 (K : Nat) {σ : Type} (q : σ → S_Frag → Option σ) (x y : Int) : List S_part → σ → Option σ
 | [], st => some st
 | p :: l, st => (m22 K p.t x y).bind fun v => bif v.2 == 0 then ck (p.frag.D + v.1.D) fun d => (q st ⟨d, p.frag.Item, p.frag.Tri, p.frag.Part, v.1.U, v.1.V⟩).bind fun st' => m12 K q x y l st' else m12 K q x y l st
theorem c12 {σ : Type} (S : σ → World → Prop) (q : σ → S_Frag → Option σ) (fid : Nat) (caps : List Value) (K : Nat) (A1 : Option Addr) (cp2 n1 : Nat) (A5 : Option Addr) (cp6 n5 : Nat) (A9 : Option Addr) (cp10 : Nat) (ps : List S_part) (x y : Int)
  (hR : ∀ st w, S st w → Rd k_part w okT A9 cp10 ps) (hS : ∀ st w w', S st w → Below w.heap.size w w' → S st w') (hcf : ∀ (args : Array Value) (w : World), (callFunc fid args).run Tryd.prog w = .ok (.enter fid args) w)
  (hf : ∀ (st : σ) (w : World) (f : S_Frag) (st' : σ), S st w → q st f = some st' → Calls Tryd.prog fid ([Value.agg (FRc f).toArray] ++ caps).toArray w (fun e w' => e = .returned (tup []) ∧ S st' w'))
  (st0 : σ) (w : World) (h0 : S st0 w) (res : σ) (hm : m12 K q x y ps st0 = some res) :
  Calls Tryd.prog 12 #[.agg #[.slice A1 n1 cp2, .slice A5 n5 cp6, .slice A9 ps.length cp10], ii x, ii y, .func (.func fid) #[] caps.toArray] w (fun e w' => e = .returned (tup []) ∧ S res w') := by
 refine calls_W (args := [.agg #[.slice A1 n1 cp2, .slice A5 n5 cp6, .slice A9 ps.length cp10], ii x, ii y, .func (.func fid) #[] caps.toArray]) Tryd.func12 rfl Tryd.ntmps12 Tryd.results12 rfl fun r hr => ?_
 obtain ⟨r1, rfl⟩ := regen (r := r) [(0, .agg #[.slice A1 n1 cp2, .slice A5 n5 cp6, .slice A9 ps.length cp10]), (1, ii x), (2, ii y), (3, .func (.func fid) #[] caps.toArray)] ⟨hr 0 _ rfl, hr 1 _ rfl, hr 2 _ rfl, hr 3 _ rfl, trivial⟩
 have hlen : (ps.length : Int) ≤ 9223372036854775807 := by have h1 := (hR _ _ h0).1; have h2 := (hR _ _ h0).2.1; omega
 refine Wr ?_
 refine RL_cons (OB (Sep.start okT w) (fun w14 b13 (H : Sep okT w w14 [.blk b13 67 [.slice A1 n1 cp2, .slice A5 n5 cp6, .slice A9 ps.length cp10]] []) => ?_))
 refine Wr ?_
 refine RL_p (xf fo67_1) ?_
 refine RL_p (xl 2 (.slice A9 ps.length cp10) sc65 (H.c 0)) ?_
 refine RL_p (x_len sl65 (by rfl)) ?_
 refine RL_p (xm (ii 0)) ?_
 refine W_block ?_
 refine W_loop (fun k1 r' w' => ∃ (i : Nat) (st : σ), i ≤ ps.length ∧ ps.length < i + k1 ∧ m12 K q x y (ps.drop i) st = some res ∧ Agr [(1, ii x), (2, ii y), (3, .func (.func fid) #[] caps.toArray), (14, .slice A9 ps.length cp10), (15, ii (ps.length : Int)), (16, ii (i : Int))] r' ∧ S st w') (ps.length + 1) ?_ ?_
 ·exact ⟨0, st0, Nat.zero_le _, by omega, hm, ⟨rfl, rfl, rfl, rfl, rfl, rfl, trivial⟩, hS _ _ _ h0 H.base⟩
 clear hm h0 H
 rintro k1 r' w' ⟨i, st, hi1, hi2, hm, hA, h0⟩
 obtain ⟨r15, rfl⟩ := regen _ hA; clear hA
 obtain ⟨w16, rfl⟩ := wld w'
 have hR0 := hR _ _ h0
 have hw1 : i < ps.length → IntKind.i64.wrap ((i : Int) + 1) = ((i + 1 : Nat) : Int) := fun h => by rw [wrap_i64_in (by omega)]; push_cast; rfl
 refine Wr ?_
 refine RL_p (xL) ?_
 refine W_seq ?_
 refine Wc (fun hb => ?_) (fun hb => ?_)
 ·have hlt : i < ps.length := by have := of_decide_eq_true hb; omega
  have he : ps[((i : Nat) : Int).toNat]? = some ps[i] := by rw [Int.toNat_natCast]; exact List.getElem?_eq_getElem hlt
  rw [List.drop_eq_getElem_cons hlt] at hm
  generalize ps[i] = el at he hm
  unfold m12 at hm
  obtain ⟨g20, o21, hA19⟩ := hR0.addr he
  refine W_skip ?_
  refine W_seq ?_
  refine W_block ?_
  refine Wr ?_
  refine RL_p (x_indexAddr sl65 sz89 (by rfl) (by rfl) hA19 (by omega) (by omega)) ?_
  refine RL_p (xA 0 (PTc el) ag89 (Rd.flatAt (n := 21) hR0 hA19 he)) ?_
  refine RL_cons (OA ze89 (Sep.start okT w16) (fun w25 b24 (H : Sep okT w16 w25 [.blk b24 89 _] []) => ?_))
  refine RL_cons (OS 0 0 (PTc el) sz89 H (fun w26 (H : Sep okT w16 w26 [.blk b24 89 (PTc el)] []) => ?_))
  refine Wr ?_
  refine RL_p (xf fo89_0) ?_
  refine RL_p (xA 0 (T3c el.t) ag87 (H.c 0)) ?_
  refine RL_p (xm (ii x)) ?_
  refine RL_p (xm (ii y)) ?_
  obtain ⟨v28, hv27, hm⟩ := bind_some hm
  refine RL_cons (OC (xc [.agg (T3c el.t).toArray, ii x, ii y] (cf22 _ _)) (c22 okT K w26 el.t x y v28 hv27) ?_)
  rintro e w29 ⟨rfl, H2⟩
  have H : Sep okT w16 w29 [.blk b24 89 (PTc el)] [] := H.below H2.base
  clear H2
  refine ⟨_, rfl, ?_⟩
  refine RL_p (xm (tup [.agg (SPc v28.1).toArray, ii v28.2])) ?_
  refine RL_p (xe (.agg (SPc v28.1).toArray)) ?_
  refine RL_p (xe (ii v28.2)) ?_
  refine RL_cons (OA ze86 H (fun w31 b30 (H : Sep okT w16 w31 [.blk b24 89 (PTc el), .blk b30 86 _] []) => ?_))
  refine RL_cons (OS 1 0 (SPc v28.1) sz86 H (fun w32 (H : Sep okT w16 w32 [.blk b24 89 (PTc el), .blk b30 86 (SPc v28.1)] []) => ?_))
  refine RL_p (xa (ii v28.2)) ?_
  refine Wr ?_
  refine RL_p (xm (ii v28.2)) ?_
  refine RL_p (x_eql (by rfl) (by rfl)) ?_
  refine Wc (fun hb => ?_) (fun hb => ?_)
  ·have hm := cond_t hb hm
   refine Wr ?_
   refine RL_p (xf fo89_1) ?_
   refine RL_p (xA 15 (FRc el.frag) ag54 (H.c 0)) ?_
   refine RL_cons (OA ze54 H (fun w34 b33 (H : Sep okT w16 w34 [.blk b24 89 (PTc el), .blk b30 86 (SPc v28.1), .blk b33 54 _] []) => ?_))
   refine RL_cons (OS 2 0 (FRc el.frag) sz54 H (fun w35 (H : Sep okT w16 w35 [.blk b24 89 (PTc el), .blk b30 86 (SPc v28.1), .blk b33 54 (FRc el.frag)] []) => ?_))
   refine Wr ?_
   refine RL_p (xf fo54_0) ?_
   refine RL_p (xl 0 (ii el.frag.D) sc3 (H.c 2)) ?_
   refine RL_p (xf fo86_2) ?_
   refine RL_p (xl 2 (ii v28.1.D) sc3 (H.c 1)) ?_
   obtain ⟨x36, ex36, qx36, ux36, hm⟩ := ck_some hm
   refine RL_p (xP ux36) ?_
   refine RL_p (xf fo54_0) ?_
   refine RL_cons (OS 2 0 [ii x36] sz3 H (fun w37 (H : Sep okT w16 w37 [.blk b24 89 (PTc el), .blk b30 86 (SPc v28.1), .blk b33 54 (FRc ⟨x36, el.frag.Item, el.frag.Tri, el.frag.Part, el.frag.U, el.frag.V⟩)] []) => ?_))
   refine W_seq ?_
   refine W_draw [.free 0, .take 1, .free 2, .take 3, .free 4, .run 5, .free 6, .tail 7] (fun wS => Sep okT w16 wS [.blk b24 89 (PTc el), .blk b30 86 (SPc v28.1), .hole] []) [7] [0, 2, 4, 6] mixed0 (by kernel_rfl) (by kernel_rfl) (by kernel_rfl) (by rfl) (by exact (Sep.holeL H.drew 2)) ?_
   obtain ⟨w38, hW⟩ : ∃ W : World, W = { w37 with drawn := w37.drawn + 1 } := ⟨_, rfl⟩
   rw [← hW]
   have H : Sep okT w16 w38 [.blk b24 89 (PTc el), .blk b30 86 (SPc v28.1), .blk b33 54 (FRc ⟨x36, el.frag.Item, el.frag.Tri, el.frag.Part, el.frag.U, el.frag.V⟩)] [] := by rw [hW]; exact H.drew
   clear hW
   refine PF (a := xf fo86_3) (b := ?_)
   refine PT' (a := fun H => xl 3 (ii v28.1.U) sc3 (H.c 1)) (b := ?_)
   refine PF (a := xf fo86_4) (b := ?_)
   refine PT' (a := fun H => xl 4 (ii v28.1.V) sc3 (H.c 1)) (b := ?_)
   refine PF (a := xf fo54_4) (b := ?_)
   refine PU (a := OS 2 4 [ii v28.1.U] sz3 H (fun w39 (H : Sep okT w16 w39 [.blk b24 89 (PTc el), .blk b30 86 (SPc v28.1), .blk b33 54 (FRc ⟨x36, el.frag.Item, el.frag.Tri, el.frag.Part, v28.1.U, el.frag.V⟩)] []) => ⟨(Sep.holeL H 2), ?_⟩))
   refine PF (a := xf fo54_5) (b := ?_)
   refine PL (a := OS 2 5 [ii v28.1.V] sz3 H (fun w40 (H : Sep okT w16 w40 [.blk b24 89 (PTc el), .blk b30 86 (SPc v28.1), .blk b33 54 (FRc ⟨x36, el.frag.Item, el.frag.Tri, el.frag.Part, v28.1.U, v28.1.V⟩)] []) => ?_))
   refine PR_nil ?_
   have H : Sep okT w16 w40 [.blk b24 89 (PTc el), .blk b30 86 (SPc v28.1), .blk b33 54 (FRc ⟨x36, el.frag.Item, el.frag.Tri, el.frag.Part, v28.1.U, v28.1.V⟩)] [] := H
   obtain ⟨fr, hfr⟩ : ∃ fr : S_Frag, fr = ⟨x36, el.frag.Item, el.frag.Tri, el.frag.Part, v28.1.U, v28.1.V⟩ := ⟨_, rfl⟩
   rw [← hfr] at H hm
   refine W_region ?_
   refine RL_p (xm (.func (.func fid) #[] caps.toArray)) ?_
   refine RL_p (xA 0 (FRc fr) ag54 (H.c 2)) ?_
   obtain ⟨st', hq, hm⟩ := bind_some hm
   refine RL_cons (OC (xc ([Value.agg (FRc fr).toArray] ++ caps) (hcf _ _)) (hf st w40 fr st' (hS _ _ _ h0 H.base) hq) ?_)
   rintro e w43 ⟨rfl, h1⟩
   refine ⟨_, rfl, ?_⟩
   show RL _ _ _ _ _ _ _
   refine W_region ?_
   refine RL_p (xP (hw1 hlt)) ?_
   refine RL_p (xm (ii ((i + 1 : Nat) : Int))) ?_
   refine RL_nil ?_
   exact ⟨k1 - 1, by omega, i + 1, st', by omega, by omega, hm, ⟨rfl, rfl, rfl, rfl, rfl, rfl, trivial⟩, h1⟩
  ·have hm := cond_f hb hm
   refine W_skip ?_
   refine W_region ?_
   refine RL_p (xP (hw1 hlt)) ?_
   refine RL_p (xm (ii ((i + 1 : Nat) : Int))) ?_
   refine RL_nil ?_
   exact ⟨k1 - 1, by omega, i + 1, st, by omega, by omega, hm, ⟨rfl, rfl, rfl, rfl, rfl, rfl, trivial⟩, hS _ _ _ h0 H.base⟩
 ·have hge : ¬ i < ps.length := by have := of_decide_eq_false hb; omega
  rw [List.drop_eq_nil_of_le (by omega)] at hm
  refine W_exit ?_
  obtain rfl := Option.some.inj hm
  exact ⟨[], rfl, rfl, h0⟩
end Go.Proofs.YtobkigllalbkiaaV.D

/- A plain Lean function that answers as the Go function does (none: not told), and the proof that a call answers so. Written by program. -/
set_option linter.unusedVariables false
set_option maxRecDepth 100000
set_option maxHeartbeats 4000000
namespace Go.Proofs.YtobkigllalbkiaaV.D
open Go.RowKit Go.Proofs.YtobkigllalbkiaaV
def m43_l1b (K : Nat) (a0 : (List Int)) (rec1 : Int → Option (Int)) (y8_1 : Int) : Option (Int) :=
 (bif (decide (y8_1 < (a0.length : Int))) then (idx a0 y8_1 fun el7 => (bif (el7 != 0) then some el7 else (ck (y8_1 + 1) fun x14 => (rec1 x14)))) else some 0)
def m43_l1 (K : Nat) (a0 : (List Int)) : Nat → Int → Option (Int)
 | 0 => fun _ => none
 | k + 1 => m43_l1b K a0 (m43_l1 K a0 k)
def m43 (K : Nat) (a0 : (List Int)) : Option (Int) :=
 m43_l1 K a0 K 0
theorem c43 (ok : Okp) (K : Nat) (w : World) (a0 : (List Int)) (A1 : Option Addr) (cp2 : Nat) (hR3 : Rd kInt w ok A1 cp2 a0) (res : Int) (hm : m43 K a0 = some res) :
  Calls Tryd.prog 43 #[.slice A1 a0.length cp2] w (fun e w' => e = .returned (tup [ii res]) ∧ Sep ok w w' [] []) := by
 refine calls_W (args := [.slice A1 a0.length cp2]) Tryd.func43 rfl Tryd.ntmps43 Tryd.results43 rfl fun r hr => ?_
 obtain ⟨r1, rfl⟩ := regen (r := r) [(0, .slice A1 a0.length cp2)] ⟨hr 0 _ rfl, trivial⟩
 have H : Sep ok w w [] [RE.rd kInt A1 cp2 a0] := Sep.arg (Sep.start ok w) (re := RE.rd kInt A1 cp2 a0) rfl rfl hR3
 unfold m43 at hm
 refine Wr ?_
 refine RL_p (xa (ii 0)) ?_
 refine Wr ?_
 refine RL_p (xa (ii 0)) ?_
 refine W_seq ?_
 refine Wr ?_
 refine RL_p (xm (.slice A1 a0.length cp2)) ?_
 refine RL_p (x_len sl141 (by rfl)) ?_
 refine RL_p (xm (ii 0)) ?_
 refine W_block ?_
 refine W_loop (fun k1 r' w' => ∃ (y8_1 : Int), m43_l1 K a0 k1 y8_1 = some res ∧ Agr [(3, ii 0), (6, .slice A1 a0.length cp2), (7, ii (a0.length : Int)), (8, ii y8_1)] r' ∧ Sep ok w w' [] [RE.rd kInt A1 cp2 a0]) K ?_ ?_
 ·exact ⟨0, hm, ⟨rfl, rfl, rfl, rfl, trivial⟩, H⟩
 rintro k1 r' w' ⟨y8_1, hm, hA, H⟩
 obtain ⟨r5, rfl⟩ := regen _ hA; clear hA
 obtain ⟨w6, rfl⟩ := wld w'
 cases k1 with
 | zero => exact (none_some hm).elim
 | succ k1 =>
  have hm : m43_l1b K a0 (m43_l1 K a0 k1) y8_1 = some res := hm
  unfold m43_l1b at hm
  obtain ⟨rec1, hrec1⟩ : ∃ f, m43_l1 K a0 k1 = f := ⟨_, rfl⟩
  rw [hrec1] at hm
  refine Wr ?_
  refine RL_p (xL) ?_
  refine W_seq ?_
  refine Wc (fun hb => ?_) (fun hb => ?_)
  ·have hm := cond_t hb hm
   refine W_skip ?_
   refine W_seq ?_
   refine W_block ?_
   refine Wr ?_
   obtain ⟨el7, h8, h9, he10, hm⟩ := idx_some hm
   obtain ⟨g12, o13, hA11⟩ := (H.rd (i := 0) (by rfl)).addr he10
   refine RL_p (x_indexAddr sl141 sz3 (by rfl) (by rfl) hA11 h8 h9) ?_
   refine RL_p (xl 0 (ii el7) sc3 (Rd.flatAt (n := 1) (H.rd (i := 0) (by rfl)) hA11 he10)) ?_
   refine RL_p (xa (ii el7)) ?_
   refine Wr ?_
   refine RL_p (xm (ii el7)) ?_
   refine RL_p (xm (ii 0)) ?_
   refine RL_p (xN) ?_
   refine Wc (fun hb => ?_) (fun hb => ?_)
   ·have hm := cond_t hb hm
    refine Wr ?_
    refine RL_p (xm (ii el7)) ?_
    refine RL_p (xa (ii el7)) ?_
    refine W_ret ?_
    obtain rfl := Option.some.inj hm
    exact ⟨[ii el7], (.tmp (by rfl) rfl), rfl, H.none_⟩
   have hm := cond_f hb hm
   refine W_skip ?_
   refine W_region ?_
   obtain ⟨x14, ex14, qx14, ux14, hm⟩ := ck_some hm
   refine RL_p (xP ux14) ?_
   refine RL_p (xm (ii x14)) ?_
   refine RL_nil ?_
   subst hrec1
   exact ⟨k1, Nat.lt_succ_self k1, x14, hm, ⟨rfl, rfl, rfl, rfl, trivial⟩, H⟩
  have hm := cond_f hb hm
  refine W_exit ?_
  refine Wr ?_
  refine RL_p (xm (ii 0)) ?_
  refine RL_p (xa (ii 0)) ?_
  refine W_ret ?_
  obtain rfl := Option.some.inj hm
  exact ⟨[ii 0], (.tmp (by rfl) rfl), rfl, H.none_⟩
end Go.Proofs.YtobkigllalbkiaaV.D

/- A plain Lean function that answers as the Go function does (none: not told), and the proof that a call answers so. Written by program. -/
set_option linter.unusedVariables false
set_option maxRecDepth 100000
set_option maxHeartbeats 4000000
namespace Go.Proofs.YtobkigllalbkiaaV.D
open Go.RowKit Go.Proofs.YtobkigllalbkiaaV
def m64 (K : Nat) (a0 : Int) : Option (Bool) :=
 some (a0 != a0)
theorem c64 (ok : Okp) (K : Nat) (w : World) (a0 : Int)  (res : Bool) (hm : m64 K a0 = some res) :
  Calls Tryd.prog 64 #[ii a0] w (fun e w' => e = .returned (tup [.bool res]) ∧ Sep ok w w' [] []) := by
 refine calls_W (args := [ii a0]) Tryd.func64 rfl Tryd.ntmps64 Tryd.results64 rfl fun r hr => ?_
 obtain ⟨r1, rfl⟩ := regen (r := r) [(0, ii a0)] ⟨hr 0 _ rfl, trivial⟩
 have H : Sep ok w w [] [] := Sep.start ok w
 unfold m64 at hm
 refine Wr ?_
 refine RL_p (xa (.bool false)) ?_
 refine Wr ?_
 refine RL_p (xm (ii a0)) ?_
 refine RL_p (xm (ii a0)) ?_
 refine RL_p (xN) ?_
 refine RL_p (xa (.bool (a0 != a0))) ?_
 refine W_ret ?_
 obtain rfl := Option.some.inj hm
 exact ⟨[.bool (a0 != a0)], (.tmp (by rfl) rfl), rfl, H.none_⟩
end Go.Proofs.YtobkigllalbkiaaV.D

/- A plain Lean function that answers as the Go function does (none: not told), and the proof that a call answers so. Written by program. -/
set_option linter.unusedVariables false
set_option maxRecDepth 100000
set_option maxHeartbeats 4000000
namespace Go.Proofs.YtobkigllalbkiaaV.D
open Go.RowKit Go.Proofs.YtobkigllalbkiaaV
def m44 (K : Nat) (a0 : Int) (a1 : Int) : Option (Int) :=
 ((m64 K a0).bind fun v2 => ((m64 K a1).bind fun v5 => (bif v2 then (bif v5 then some 0 else some (-1)) else (bif v5 then some 1 else (bif (decide (a0 < a1)) then some (-1) else (bif (decide (a1 < a0)) then some 1 else some 0))))))
theorem c44 (ok : Okp) (K : Nat) (w : World) (a0 : Int) (a1 : Int)  (res : Int) (hm : m44 K a0 a1 = some res) :
  Calls Tryd.prog 44 #[ii a0, ii a1] w (fun e w' => e = .returned (tup [ii res]) ∧ Sep ok w w' [] []) := by
 refine calls_W (args := [ii a0, ii a1]) Tryd.func44 rfl Tryd.ntmps44 Tryd.results44 rfl fun r hr => ?_
 obtain ⟨r1, rfl⟩ := regen (r := r) [(0, ii a0), (1, ii a1)] ⟨hr 0 _ rfl, hr 1 _ rfl, trivial⟩
 have H : Sep ok w w [] [] := Sep.start ok w
 unfold m44 at hm
 refine Wr ?_
 refine RL_p (xa (ii 0)) ?_
 refine Wr ?_
 refine RL_p (xm (ii a0)) ?_
 obtain ⟨v2, hv1, hm⟩ := bind_some hm
 refine RL_cons (OC (xc [ii a0] (cf64 _ _)) (c64 okT K w a0  v2 hv1) ?_)
 rintro e w3 ⟨rfl, H2⟩
 have H : Sep ok w w3 [] [] := H.below H2.base
 clear H2
 refine ⟨_, rfl, ?_⟩
 refine RL_p (xa (.bool v2)) ?_
 refine Wr ?_
 refine RL_p (xm (ii a1)) ?_
 obtain ⟨v5, hv4, hm⟩ := bind_some hm
 refine RL_cons (OC (xc [ii a1] (cf64 _ _)) (c64 okT K w3 a1  v5 hv4) ?_)
 rintro e w6 ⟨rfl, H2⟩
 have H : Sep ok w w6 [] [] := H.below H2.base
 clear H2
 refine ⟨_, rfl, ?_⟩
 refine RL_p (xa (.bool v5)) ?_
 refine W_seq ?_
 refine Wr ?_
 refine RL_p (xm (.bool v2)) ?_
 refine Wc (fun hb => ?_) (fun hb => ?_)
 ·have hm := cond_t hb hm
  refine W_seq ?_
  refine Wr ?_
  refine RL_p (xm (.bool v5)) ?_
  refine Wc (fun hb => ?_) (fun hb => ?_)
  ·have hm := cond_t hb hm
   refine Wr ?_
   refine RL_p (xa (ii 0)) ?_
   refine W_ret ?_
   obtain rfl := Option.some.inj hm
   exact ⟨[ii 0], (.tmp (by rfl) rfl), rfl, H.none_⟩
  have hm := cond_f hb hm
  refine W_skip ?_
  refine Wr ?_
  refine RL_p (xa (ii (-1))) ?_
  refine W_ret ?_
  obtain rfl := Option.some.inj hm
  exact ⟨[ii (-1)], (.tmp (by rfl) rfl), rfl, H.none_⟩
 have hm := cond_f hb hm
 refine W_skip ?_
 refine W_seq ?_
 refine Wr ?_
 refine RL_p (xm (.bool v5)) ?_
 refine Wc (fun hb => ?_) (fun hb => ?_)
 ·have hm := cond_t hb hm
  refine Wr ?_
  refine RL_p (xa (ii 1)) ?_
  refine W_ret ?_
  obtain rfl := Option.some.inj hm
  exact ⟨[ii 1], (.tmp (by rfl) rfl), rfl, H.none_⟩
 have hm := cond_f hb hm
 refine W_skip ?_
 refine W_seq ?_
 refine Wr ?_
 refine RL_p (xm (ii a0)) ?_
 refine RL_p (xm (ii a1)) ?_
 refine RL_p (xL) ?_
 refine Wc (fun hb => ?_) (fun hb => ?_)
 ·have hm := cond_t hb hm
  refine Wr ?_
  refine RL_p (xa (ii (-1))) ?_
  refine W_ret ?_
  obtain rfl := Option.some.inj hm
  exact ⟨[ii (-1)], (.tmp (by rfl) rfl), rfl, H.none_⟩
 have hm := cond_f hb hm
 refine W_skip ?_
 refine W_seq ?_
 refine Wr ?_
 refine RL_p (xm (ii a0)) ?_
 refine RL_p (xm (ii a1)) ?_
 refine RL_p (xG) ?_
 refine Wc (fun hb => ?_) (fun hb => ?_)
 ·have hm := cond_t hb hm
  refine Wr ?_
  refine RL_p (xa (ii 1)) ?_
  refine W_ret ?_
  obtain rfl := Option.some.inj hm
  exact ⟨[ii 1], (.tmp (by rfl) rfl), rfl, H.none_⟩
 have hm := cond_f hb hm
 refine W_skip ?_
 refine Wr ?_
 refine RL_p (xa (ii 0)) ?_
 refine W_ret ?_
 obtain rfl := Option.some.inj hm
 exact ⟨[ii 0], (.tmp (by rfl) rfl), rfl, H.none_⟩
end Go.Proofs.YtobkigllalbkiaaV.D

/- A plain Lean function that answers as the Go function does (none: not told), and the proof that a call answers so. Written by program. -/
set_option linter.unusedVariables false
set_option maxRecDepth 100000
set_option maxHeartbeats 4000000
namespace Go.Proofs.YtobkigllalbkiaaV.D
open Go.RowKit Go.Proofs.YtobkigllalbkiaaV
abbrev L31_0 (q0 : S_Frag) : List Value := [ii q0.D, ii q0.Item, ii q0.Tri, ii q0.Part, ii q0.U, ii q0.V]
abbrev L31_1 (q0 : Int) (q1 : Int) (q2 : Int) (q3 : Int) : List Value := [ii q0, ii q1, ii q2, ii q3]
def m31 (K : Nat) (a0 : S_Frag) (a1 : S_Frag) : Option (Bool) :=
 ((m44 K a1.D a0.D).bind fun v7 => ((m44 K a0.Item a1.Item).bind fun v10 => ((m44 K a0.Tri a1.Tri).bind fun v13 => ((m44 K a0.Part a1.Part).bind fun v16 => ((m43 K ([v7, v10, v13, v16])).bind fun v23 => some (decide (v23 < 0)))))))
abbrev S31_0 (q0 : Okp) (q1 q2 : World) (q3 : Nat) (q4 : S_Frag) (q5 : Nat) (q6 : S_Frag) : Prop := Sep q0 q1 q2 [.blk q3 54 (L31_0 q4), .blk q5 54 (L31_0 q6)] []
abbrev S31_1 (q0 : Okp) (q1 q2 : World) (q3 : Nat) (q4 : S_Frag) (q5 : Nat) (q6 : S_Frag) (q7 : Nat) (q8 q9 q10 q11 : Int) : Prop := Sep q0 q1 q2 [.blk q3 54 (L31_0 q4), .blk q5 54 (L31_0 q6), .row (.slice (some ⟨q7, 0, none⟩) ([q8, q9, q10, q11]).length 4) 3 kInt.sz ([q8, q9, q10, q11]).length [ii q8, ii q9, ii q10, ii q11]] [RE.chunks kInt [ii q8, ii q9, ii q10, ii q11] ([q8, q9, q10, q11])]
theorem c31 (ok : Okp) (K : Nat) (w : World) (a0 : S_Frag) (a1 : S_Frag)  (res : Bool) (hm : m31 K a0 a1 = some res) :
  Calls Tryd.prog 31 #[.agg (L31_0 a0).toArray, .agg (L31_0 a1).toArray] w (fun e w' => e = .returned (tup [.bool res]) ∧ Sep ok w w' [] []) := by
 refine calls_W (args := [.agg (L31_0 a0).toArray, .agg (L31_0 a1).toArray]) Tryd.func31 rfl Tryd.ntmps31 Tryd.results31 rfl fun r hr => ?_
 obtain ⟨r1, rfl⟩ := regen (r := r) [(0, .agg (L31_0 a0).toArray), (1, .agg (L31_0 a1).toArray)] ⟨hr 0 _ rfl, hr 1 _ rfl, trivial⟩
 have H : Sep ok w w [] [] := Sep.start ok w
 unfold m31 at hm
 refine Wr ?_
 refine RL_cons (OB H (fun w2 b1 (H : Sep ok w w2 [.blk b1 54 (L31_0 a0)] []) => ?_))
 refine RL_cons (OB H (fun w4 b3 (H : S31_0 ok w w4 b1 a0 b3 a1) => ?_))
 refine RL_p (xa (.bool false)) ?_
 refine W_seq ?_
 refine W_draw [.free 0, .take 1, .free 2, .take 3, .free 5, .take 6, .free 7, .take 8, .free 10, .take 11, .free 12, .take 13, .free 15, .take 16, .free 17, .take 18, .run 4, .run 9, .run 14, .run 19, .run 20, .run 21, .free 22, .free 23] (fun wS => S31_0 ok w wS b1 a0 b3 a1) [] [0, 2, 5, 7, 10, 12, 15, 17, 22, 23] mixed0 (by kernel_rfl) (by kernel_rfl) (by kernel_rfl) (by rfl) (by exact H.drew) ?_
 obtain ⟨w5, hW⟩ : ∃ W : World, W = { w4 with drawn := w4.drawn + 1 } := ⟨_, rfl⟩
 rw [← hW]
 have H : S31_0 ok w w5 b1 a0 b3 a1 := by rw [hW]; exact H.drew
 clear hW
 refine PF (a := xf fo54_0) (b := ?_)
 refine PT' (a := fun H => xl 0 (ii a1.D) sc3 (H.c 1)) (b := ?_)
 refine PF (a := xf fo54_0) (b := ?_)
 refine PT' (a := fun H => xl 0 (ii a0.D) sc3 (H.c 0)) (b := ?_)
 refine PF (a := xf fo54_1) (b := ?_)
 refine PT' (a := fun H => xl 1 (ii a0.Item) sc3 (H.c 0)) (b := ?_)
 refine PF (a := xf fo54_1) (b := ?_)
 refine PT' (a := fun H => xl 1 (ii a1.Item) sc3 (H.c 1)) (b := ?_)
 refine PF (a := xf fo54_2) (b := ?_)
 refine PT' (a := fun H => xl 2 (ii a0.Tri) sc3 (H.c 0)) (b := ?_)
 refine PF (a := xf fo54_2) (b := ?_)
 refine PT' (a := fun H => xl 2 (ii a1.Tri) sc3 (H.c 1)) (b := ?_)
 refine PF (a := xf fo54_3) (b := ?_)
 refine PT' (a := fun H => xl 3 (ii a0.Part) sc3 (H.c 0)) (b := ?_)
 refine PF (a := xf fo54_3) (b := ?_)
 refine PT' (a := fun H => xl 3 (ii a1.Part) sc3 (H.c 1)) (b := ?_)
 obtain ⟨v7, hv6, hm⟩ := bind_some hm
 refine PU (a := OC (xc [ii a1.D, ii a0.D] (cf44 _ _)) (c44 okT K w5 a1.D a0.D  v7 hv6) ?_)
 rintro e w8 ⟨rfl, H2⟩
 have H : S31_0 ok w w8 b1 a0 b3 a1 := H.below H2.base
 clear H2
 refine ⟨_, rfl, H, ?_⟩
 show PR _ _ _ _ _ _ _ _
 obtain ⟨v10, hv9, hm⟩ := bind_some hm
 refine PU (a := OC (xc [ii a0.Item, ii a1.Item] (cf44 _ _)) (c44 okT K w8 a0.Item a1.Item  v10 hv9) ?_)
 rintro e w11 ⟨rfl, H2⟩
 have H : S31_0 ok w w11 b1 a0 b3 a1 := H.below H2.base
 clear H2
 refine ⟨_, rfl, H, ?_⟩
 show PR _ _ _ _ _ _ _ _
 obtain ⟨v13, hv12, hm⟩ := bind_some hm
 refine PU (a := OC (xc [ii a0.Tri, ii a1.Tri] (cf44 _ _)) (c44 okT K w11 a0.Tri a1.Tri  v13 hv12) ?_)
 rintro e w14 ⟨rfl, H2⟩
 have H : S31_0 ok w w14 b1 a0 b3 a1 := H.below H2.base
 clear H2
 refine ⟨_, rfl, H, ?_⟩
 show PR _ _ _ _ _ _ _ _
 obtain ⟨v16, hv15, hm⟩ := bind_some hm
 refine PU (a := OC (xc [ii a0.Part, ii a1.Part] (cf44 _ _)) (c44 okT K w14 a0.Part a1.Part  v16 hv15) ?_)
 rintro e w17 ⟨rfl, H2⟩
 have H : S31_0 ok w w17 b1 a0 b3 a1 := H.below H2.base
 clear H2
 refine ⟨_, rfl, H, ?_⟩
 show PR _ _ _ _ _ _ _ _
 refine PU (a := O_buildSlice (vs := [(0, ii v7), (1, ii v10), (2, ii v13), (3, ii v16)]) (cs := [ii v7, ii v10, ii v13, ii v16]) (by exact wn0 rfl) (by rfl) sl141 sz3 ze3 (by rfl) (by rfl) (by rfl) (by kernel_rfl) H (fun w19 b18 (H : Sep ok w w19 [.blk b1 54 (L31_0 a0), .blk b3 54 (L31_0 a1), .blk b18 3 (L31_1 v7 v10 v13 v16)] []) => ⟨(Sep.takeL H 2), ?_⟩))
 have H : S31_1 ok w w19 b1 a0 b3 a1 b18 v7 v10 v13 v16 := H.rowOf (i := 2) (D := kInt) (xs := [v7, v10, v13, v16]) (by rfl) (by exact ⟨rfl, rfl, rfl, rfl, rfl⟩) (by rfl)
 obtain ⟨v23, hv22, hm⟩ := bind_some hm
 refine PU (a := OC (xc [.slice (some ⟨b18, 0, none⟩) ([v7, v10, v13, v16]).length 4] (cf43 _ _)) (c43 okT K w19 ([v7, v10, v13, v16]) (some ⟨b18, 0, none⟩) 4 (H.rowRd (i := 2) (j := 0) (by rfl) (by rfl)) v23 hv22) ?_)
 rintro e w24 ⟨rfl, H2⟩
 have H : S31_1 ok w w24 b1 a0 b3 a1 b18 v7 v10 v13 v16 := H.below H2.base
 clear H2
 refine ⟨_, rfl, (Sep.takeR (Sep.takeL H 2) 0), ?_⟩
 show PR _ _ _ _ _ _ _ _
 refine PF (a := xL) (b := ?_)
 refine PF (a := xa (.bool (decide (v23 < 0)))) (b := ?_)
 refine PR_nil ?_
 refine W_ret ?_
 obtain rfl := Option.some.inj hm
 exact ⟨[.bool (decide (v23 < 0))], (.tmp (by rfl) rfl), rfl, H.none_⟩
end Go.Proofs.YtobkigllalbkiaaV.D

/- A plain Lean function that answers as the Go function does (none: not told), and the proof that a call answers so. Written by program. -/
set_option linter.unusedVariables false
set_option maxRecDepth 100000
set_option maxHeartbeats 4000000
namespace Go.Proofs.YtobkigllalbkiaaV.D
open Go.RowKit Go.Proofs.YtobkigllalbkiaaV
abbrev L30_0 (q0 : Option Addr) (q1 : S_scene) (q2 : Nat) (q3 : Option Addr) (q4 : Nat) (q5 : Option Addr) (q6 : Nat) : List Value := [.slice q0 q1.Show.Items.length q2, .slice q3 q1.Show.Textures.length q4, .slice q5 q1.parts.length q6]
abbrev L30_1 (q0 : S_Frag) : List Value := [ii q0.D, ii q0.Item, ii q0.Tri, ii q0.Part, ii q0.U, ii q0.V]
abbrev L30_2 (q0 : Option Addr) (q1 : S_Item) (q2 : Nat) (q3 : Option Addr) (q4 : Nat) (q5 : Option Addr) (q6 : Nat) : List Value := [.slice q0 q1.Verts.length q2, .slice q3 q1.UV.length q4, .slice q5 q1.Tris.length q6, .int .u8 q1.Look.Color.a0, .int .u8 q1.Look.Color.a1, .int .u8 q1.Look.Color.a2, .int .u8 q1.Look.Color.a3, ii q1.Look.Texture, .int .u8 q1.Look.Cull, ii q1.Look.Bias, .bool q1.Look.Blend, ii q1.Look.Bin, ii q1.Box.Low.X, ii q1.Box.Low.Y, ii q1.Box.Low.Z, ii q1.Box.High.X, ii q1.Box.High.Y, ii q1.Box.High.Z]
abbrev L30_3 (q0 : Bool × S_Frag) : List Value := [ii q0.2.D, ii q0.2.Item, ii q0.2.Tri, ii q0.2.Part, ii q0.2.U, ii q0.2.V]
def m30 (K : Nat) (a0 : S_Frag) (f0 : S_scene) (f1 : Bool) (f2 : S_Frag) : Option (Bool × S_Frag) :=
 (idx f0.Show.Items a0.Item fun el20 => ((bif (!el20.Look.Blend) then ((bif (!f1) then some true else ((m31 K a0 f2).bind fun v48 => some v48)).bind fun b46 => some b46) else some false).bind fun b45 => (bif b45 then some (true, a0) else some (f1, f2))))
abbrev S30_0 (q0 : Okp) (q1 q2 : World) (q3 : Nat) (q4 : Bool) (q5 : Nat) (q6 : S_Frag) (q7 : Nat) (q8 : S_Frag) (q9 : Option Addr) (q10 : Nat) (q11 : S_scene) (q12 : Option Addr) (q13 : Nat) (q14 : Option Addr) (q15 q16 q17 q18 : Nat) (q19 : Option Addr) (q20 : S_Item) (q21 : Nat) (q22 : Option Addr) (q23 : Nat) (q24 : Option Addr) (q25 : Nat) : Prop := Sep q0 q1 q2 [.blk q3 4 [.bool q4], .blk q5 54 (L30_1 q6), .blk q7 54 (L30_1 q8)] [RE.rd k_Item q9 q10 q11.Show.Items, RE.rd k_Texture q12 q13 q11.Show.Textures, RE.rd k_part q14 q15 q11.parts, RE.cells q16 (0) (L30_0 q9 q11 q10 q12 q13 q14 q15), RE.cells q17 (q18 + (q8.Item).toNat * 18) (L30_2 q19 q20 q21 q22 q23 q24 q25), RE.rd k_Vec q19 q21 q20.Verts, RE.rd k_Ar2_Int q22 q23 q20.UV, RE.rd k_Ar3_Int q24 q25 q20.Tris]
theorem c30 (ok : Okp) (K : Nat) (w0 w : World) (a0 : S_Frag) (f0 : S_scene) (A1 : Option Addr) (cp2 : Nat) (A5 : Option Addr) (cp6 : Nat) (A9 : Option Addr) (cp10 : Nat) (g13 : Nat) (f1 : Bool) (g16 : Nat) (f2 : S_Frag) (g17 : Nat) (H : Sep ok w0 w [.blk g16 4 [.bool f1], .blk g17 54 (L30_1 f2)] [RE.rd k_Item A1 cp2 f0.Show.Items, RE.rd k_Texture A5 cp6 f0.Show.Textures, RE.rd k_part A9 cp10 f0.parts, RE.cells g13 (0) (L30_0 A1 f0 cp2 A5 cp6 A9 cp10)]) (res : Bool × S_Frag) (hm : m30 K a0 f0 f1 f2 = some res) :
  Calls Tryd.prog 30 #[.agg (L30_1 a0).toArray, pp g13, pp g16, pp g17] w (fun e w' => e = .returned (tup []) ∧ Sep ok w0 w' [.blk g16 4 [.bool res.1], .blk g17 54 (L30_3 res)] [RE.rd k_Item A1 cp2 f0.Show.Items, RE.rd k_Texture A5 cp6 f0.Show.Textures, RE.rd k_part A9 cp10 f0.parts, RE.cells g13 (0) (L30_0 A1 f0 cp2 A5 cp6 A9 cp10)]) := by
 refine calls_W (args := [.agg (L30_1 a0).toArray, pp g13, pp g16, pp g17]) Tryd.func30 rfl Tryd.ntmps30 Tryd.results30 rfl fun r hr => ?_
 obtain ⟨r1, rfl⟩ := regen (r := r) [(0, .agg (L30_1 a0).toArray), (1, pp g13), (2, pp g16), (3, pp g17)] ⟨hr 0 _ rfl, hr 1 _ rfl, hr 2 _ rfl, hr 3 _ rfl, trivial⟩
 unfold m30 at hm
 refine Wr ?_
 refine RL_cons (OB H (fun w19 b18 (H : Sep ok w0 w19 [.blk g16 4 [.bool f1], .blk g17 54 (L30_1 f2), .blk b18 54 (L30_1 a0)] [RE.rd k_Item A1 cp2 f0.Show.Items, RE.rd k_Texture A5 cp6 f0.Show.Textures, RE.rd k_part A9 cp10 f0.parts, RE.cells g13 (0) (L30_0 A1 f0 cp2 A5 cp6 A9 cp10)]) => ?_))
 refine Wr ?_
 refine RL_p (xf fo67_0) ?_
 refine RL_p (xf fo25_0) ?_
 refine RL_p (xl 0 (.slice A1 f0.Show.Items.length cp2) sc22 (H.cellsR (i := 3) (by rfl))) ?_
 refine RL_p (xf fo54_1) ?_
 refine RL_p (xl 1 (ii a0.Item) sc3 (H.c 2)) ?_
 obtain ⟨el20, h21, h22, he23, hm⟩ := idx_some hm
 obtain ⟨g25, o26, hA24⟩ := (H.rd (i := 0) (by rfl)).addr he23
 obtain ⟨cs27, hk28, hat29, hg_cs27⟩ := (H.rd (i := 0) (by rfl)).openAt hA24 he23
 obtain ⟨A32, cp33, A35, cp36, A38, cp39, rfl, hR41, hR42, hR43⟩ := hk28
 have H : Sep ok w0 w19 [.blk g16 4 [.bool f1], .blk g17 54 (L30_1 f2), .blk b18 54 (L30_1 a0)] [RE.rd k_Item A1 cp2 f0.Show.Items, RE.rd k_Texture A5 cp6 f0.Show.Textures, RE.rd k_part A9 cp10 f0.parts, RE.cells g13 (0) (L30_0 A1 f0 cp2 A5 cp6 A9 cp10), RE.cells g25 (o26 + (a0.Item).toNat * 18) (L30_2 A32 el20 cp33 A35 cp36 A38 cp39)] := Sep.also H (re := RE.cells g25 (o26 + (a0.Item).toNat * 18) (L30_2 A32 el20 cp33 A35 cp36 A38 cp39)) ⟨hg_cs27, hat29⟩
 have H : Sep ok w0 w19 [.blk g16 4 [.bool f1], .blk g17 54 (L30_1 f2), .blk b18 54 (L30_1 a0)] [RE.rd k_Item A1 cp2 f0.Show.Items, RE.rd k_Texture A5 cp6 f0.Show.Textures, RE.rd k_part A9 cp10 f0.parts, RE.cells g13 (0) (L30_0 A1 f0 cp2 A5 cp6 A9 cp10), RE.cells g25 (o26 + (a0.Item).toNat * 18) (L30_2 A32 el20 cp33 A35 cp36 A38 cp39), RE.rd k_Vec A32 cp33 el20.Verts] := Sep.also H (re := RE.rd k_Vec A32 cp33 el20.Verts) hR41
 have H : Sep ok w0 w19 [.blk g16 4 [.bool f1], .blk g17 54 (L30_1 f2), .blk b18 54 (L30_1 a0)] [RE.rd k_Item A1 cp2 f0.Show.Items, RE.rd k_Texture A5 cp6 f0.Show.Textures, RE.rd k_part A9 cp10 f0.parts, RE.cells g13 (0) (L30_0 A1 f0 cp2 A5 cp6 A9 cp10), RE.cells g25 (o26 + (a0.Item).toNat * 18) (L30_2 A32 el20 cp33 A35 cp36 A38 cp39), RE.rd k_Vec A32 cp33 el20.Verts, RE.rd k_Ar2_Int A35 cp36 el20.UV] := Sep.also H (re := RE.rd k_Ar2_Int A35 cp36 el20.UV) hR42
 have H : S30_0 ok w0 w19 g16 f1 g17 f2 b18 a0 A1 cp2 f0 A5 cp6 A9 cp10 g13 g25 o26 A32 el20 cp33 A35 cp36 A38 cp39 := Sep.also H (re := RE.rd k_Ar3_Int A38 cp39 el20.Tris) hR43
 refine RL_p (x_indexAddr sl22 sz52 (by rfl) (by rfl) hA24 h21 h22) ?_
 refine RL_p (xf fo52_3) ?_
 refine RL_p (xf fo48_4) ?_
 refine RL_p (xl 10 (.bool el20.Look.Blend) sc4 (H.cellsR (i := 4) (by rfl))) ?_
 refine RL_p (x_not (by rfl)) ?_
 refine RL_p (xm (.bool (!el20.Look.Blend))) ?_
 obtain ⟨b45, hmS, hm⟩ := bind_some hm
 refine RL_cut 8 (fun r' w' => Agr [(23, .bool b45), (2, pp g16), (3, pp g17), (4, pp b18)] r' ∧ S30_0 ok w0 w' g16 f1 g17 f2 b18 a0 A1 cp2 f0 A5 cp6 A9 cp10 g13 g25 o26 A32 el20 cp33 A35 cp36 A38 cp39) ?_ ?_
 ·cases hbS : (!el20.Look.Blend)
  ·have hm := cond_f hbS hmS
   refine RO ?_
   refine RO ?_
   refine RO ?_
   refine RL_cons (OpR_off (by exact wn3 rfl rfl rfl) (by rfl) (by rfl) ?_)
   refine RL_cons (OpR_off (by exact wn3 rfl rfl rfl) (by rfl) (by rfl) ?_)
   refine RL_cons (OpR_off (by exact wn3 rfl rfl rfl) (by rfl) (by rfl) ?_)
   refine RO ?_
   refine RL_p (xF (.bool false)) ?_
   refine RL_nil ?_
   exact ⟨⟨congrArg Value.bool (Option.some.inj hm), rfl, rfl, rfl, trivial⟩, H⟩
  have hm := cond_t hbS hmS
  refine RQ (xl 0 (.bool f1) sc4 (H.c 0)) ?_
  refine RQ (x_not (by rfl)) ?_
  refine RQ (xm (.bool (!f1))) ?_
  obtain ⟨b46, hmS, hm⟩ := bind_some hm
  refine RL_cut 4 (fun r' w' => Agr [(22, .bool b46), (2, pp g16), (3, pp g17), (4, pp b18), (15, .bool true)] r' ∧ S30_0 ok w0 w' g16 f1 g17 f2 b18 a0 A1 cp2 f0 A5 cp6 A9 cp10 g13 g25 o26 A32 el20 cp33 A35 cp36 A38 cp39) ?_ ?_
  ·cases hbS : (!f1)
   ·have hm := cond_f hbS hmS
    refine RQ (xA 0 (L30_1 a0) ag54 (H.c 2)) ?_
    refine RQ (xA 0 (L30_1 f2) ag54 (H.c 1)) ?_
    obtain ⟨v48, hv47, hm⟩ := bind_some hm
    refine RL_cons (O_call (by exact wn1 rfl rfl rfl rfl) (by rfl) (by rfl) (xc [.agg (L30_1 a0).toArray, .agg (L30_1 f2).toArray] (cf31 _ _)) (c31 okT K w19 a0 f2  v48 hv47) ?_)
    rintro e w49 ⟨rfl, H2⟩
    have H : S30_0 ok w0 w49 g16 f1 g17 f2 b18 a0 A1 cp2 f0 A5 cp6 A9 cp10 g13 g25 o26 A32 el20 cp33 A35 cp36 A38 cp39 := H.below H2.base
    clear H2
    refine ⟨_, rfl, ?_⟩
    refine RQ (xF (.bool v48)) ?_
    refine RL_nil ?_
    exact ⟨⟨congrArg Value.bool (Option.some.inj hm), rfl, rfl, rfl, rfl, trivial⟩, H⟩
   have hm := cond_t hbS hmS
   refine RO ?_
   refine RO ?_
   refine RO ?_
   refine RQ (xT (.bool true)) ?_
   refine RL_nil ?_
   exact ⟨⟨congrArg Value.bool (Option.some.inj hm), rfl, rfl, rfl, rfl, trivial⟩, H⟩
  rintro r' w' ⟨hA, H⟩
  obtain ⟨r50, rfl⟩ := regen _ hA; clear hA
  obtain ⟨w51, rfl⟩ := wld w'
  refine RL_p (xT (.bool b46)) ?_
  refine RL_nil ?_
  exact ⟨⟨congrArg Value.bool (Option.some.inj hm), rfl, rfl, rfl, trivial⟩, H⟩
 rintro r' w' ⟨hA, H⟩
 obtain ⟨r52, rfl⟩ := regen _ hA; clear hA
 obtain ⟨w53, rfl⟩ := wld w'
 show RL _ _ _ _ _ _ _
 refine Wc (fun hb => ?_) (fun hb => ?_)
 ·have hm := cond_t hb hm
  refine W_region ?_
  refine RL_p (xA 0 (L30_1 a0) ag54 (H.c 2)) ?_
  refine RL_cons (OS 1 0 (L30_1 a0) sz54 H (fun w54 (H : Sep ok w0 w54 [.blk g16 4 [.bool f1], .blk g17 54 (L30_1 a0), .blk b18 54 (L30_1 a0)] [RE.rd k_Item A1 cp2 f0.Show.Items, RE.rd k_Texture A5 cp6 f0.Show.Textures, RE.rd k_part A9 cp10 f0.parts, RE.cells g13 (0) (L30_0 A1 f0 cp2 A5 cp6 A9 cp10), RE.cells g25 (o26 + (a0.Item).toNat * 18) (L30_2 A32 el20 cp33 A35 cp36 A38 cp39), RE.rd k_Vec A32 cp33 el20.Verts, RE.rd k_Ar2_Int A35 cp36 el20.UV, RE.rd k_Ar3_Int A38 cp39 el20.Tris]) => ?_))
  refine RL_cons (OS 0 0 [.bool true] sz4 H (fun w55 (H : Sep ok w0 w55 [.blk g16 4 [.bool true], .blk g17 54 (L30_1 a0), .blk b18 54 (L30_1 a0)] [RE.rd k_Item A1 cp2 f0.Show.Items, RE.rd k_Texture A5 cp6 f0.Show.Textures, RE.rd k_part A9 cp10 f0.parts, RE.cells g13 (0) (L30_0 A1 f0 cp2 A5 cp6 A9 cp10), RE.cells g25 (o26 + (a0.Item).toNat * 18) (L30_2 A32 el20 cp33 A35 cp36 A38 cp39), RE.rd k_Vec A32 cp33 el20.Verts, RE.rd k_Ar2_Int A35 cp36 el20.UV, RE.rd k_Ar3_Int A38 cp39 el20.Tris]) => ?_))
  refine RL_nil ?_
  obtain rfl := Option.some.inj hm
  exact ⟨[], rfl, rfl, (H.pickL [0, 1] (by decide)).pick [0, 1, 2, 3]⟩
 have hm := cond_f hb hm
 refine W_skip ?_
 obtain rfl := Option.some.inj hm
 exact ⟨[], rfl, rfl, (H.pickL [0, 1] (by decide)).pick [0, 1, 2, 3]⟩
end Go.Proofs.YtobkigllalbkiaaV.D

/- A plain Lean function that answers as the Go function does (none: not told), and the proof that a call answers so. Written by program. -/
set_option linter.unusedVariables false
set_option maxRecDepth 100000
set_option maxHeartbeats 4000000
namespace Go.Proofs.YtobkigllalbkiaaV.D
open Go.RowKit Go.Proofs.YtobkigllalbkiaaV
abbrev L19_0 (q0 : Option Addr) (q1 : S_scene) (q2 : Nat) (q3 : Option Addr) (q4 : Nat) (q5 : Option Addr) (q6 : Nat) : List Value := [.slice q0 q1.Show.Items.length q2, .slice q3 q1.Show.Textures.length q4, .slice q5 q1.parts.length q6]
abbrev L19_1  : List Value := [ii 0, ii 0, ii 0, ii 0, ii 0, ii 0]
abbrev L19_2  : List Value := [ii (-2048), ii (-1), ii (-1), ii 0, ii 0, ii 0]
abbrev L19_3 (q0 : S_Frag × Bool) : List Value := [ii q0.1.D, ii q0.1.Item, ii q0.1.Tri, ii q0.1.Part, ii q0.1.U, ii q0.1.V]
def m19 (K : Nat) (a0 : S_scene) (a1 : Int) (a2 : Int) : Option (S_Frag × Bool) :=
 ((m12 K (fun (st : Bool × S_Frag) f => m30 K f a0 st.1 st.2) a1 a2 a0.parts (false, (⟨-2048, -1, -1, 0, 0, 0⟩ : S_Frag))).bind fun st => some (st.2, st.1))
theorem c19 (ok : Okp) (K : Nat) (w : World) (a0 : S_scene) (A1 : Option Addr) (cp2 : Nat) (A5 : Option Addr) (cp6 : Nat) (A9 : Option Addr) (cp10 : Nat) (a1 : Int) (a2 : Int) (hR3 : Rd k_Item w ok A1 cp2 a0.Show.Items) (hR7 : Rd k_Texture w ok A5 cp6 a0.Show.Textures) (hR11 : Rd k_part w ok A9 cp10 a0.parts) (res : S_Frag × Bool) (hm : m19 K a0 a1 a2 = some res) :
  Calls Tryd.prog 19 #[.agg (L19_0 A1 a0 cp2 A5 cp6 A9 cp10).toArray, ii a1, ii a2] w (fun e w' => e = .returned (tup [.agg (L19_3 res).toArray, .bool res.2]) ∧ Sep ok w w' [] []) := by
 refine calls_W (args := [.agg (L19_0 A1 a0 cp2 A5 cp6 A9 cp10).toArray, ii a1, ii a2]) Tryd.func19 rfl Tryd.ntmps19 Tryd.results19 rfl fun r hr => ?_
 obtain ⟨r1, rfl⟩ := regen (r := r) [(0, .agg (L19_0 A1 a0 cp2 A5 cp6 A9 cp10).toArray), (1, ii a1), (2, ii a2)] ⟨hr 0 _ rfl, hr 1 _ rfl, hr 2 _ rfl, trivial⟩
 have H : Sep ok w w [] [RE.rd k_Item A1 cp2 a0.Show.Items, RE.rd k_Texture A5 cp6 a0.Show.Textures, RE.rd k_part A9 cp10 a0.parts] := Sep.arg (Sep.arg (Sep.arg (Sep.start ok w) (re := RE.rd k_Item A1 cp2 a0.Show.Items) rfl rfl hR3) (re := RE.rd k_Texture A5 cp6 a0.Show.Textures) rfl rfl hR7) (re := RE.rd k_part A9 cp10 a0.parts) rfl rfl hR11
 unfold m19 at hm
 refine Wr ?_
 refine RL_cons (OB H (fun w14 b13 (H : Sep ok w w14 [.blk b13 67 (L19_0 A1 a0 cp2 A5 cp6 A9 cp10)] [RE.rd k_Item A1 cp2 a0.Show.Items, RE.rd k_Texture A5 cp6 a0.Show.Textures, RE.rd k_part A9 cp10 a0.parts]) => ?_))
 refine RL_cons (OA ze54 H (fun w16 b15 (H : Sep ok w w16 [.blk b13 67 (L19_0 A1 a0 cp2 A5 cp6 A9 cp10), .blk b15 54 L19_1] [RE.rd k_Item A1 cp2 a0.Show.Items, RE.rd k_Texture A5 cp6 a0.Show.Textures, RE.rd k_part A9 cp10 a0.parts]) => ?_))
 refine RL_cons (OA ze4 H (fun w18 b17 (H : Sep ok w w18 [.blk b13 67 (L19_0 A1 a0 cp2 A5 cp6 A9 cp10), .blk b15 54 L19_1, .blk b17 4 [.bool false]] [RE.rd k_Item A1 cp2 a0.Show.Items, RE.rd k_Texture A5 cp6 a0.Show.Textures, RE.rd k_part A9 cp10 a0.parts]) => ?_))
 refine Wr ?_
 refine RL_p (x_build (vs := [(0, ii (-2048)), (1, ii (-1)), (2, ii (-1))]) (cs := L19_2) (by rfl) (by kernel_rfl)) ?_
 refine RL_cons (OS 1 0 L19_2 sz54 H (fun w19 (H : Sep ok w w19 [.blk b13 67 (L19_0 A1 a0 cp2 A5 cp6 A9 cp10), .blk b15 54 L19_2, .blk b17 4 [.bool false]] [RE.rd k_Item A1 cp2 a0.Show.Items, RE.rd k_Texture A5 cp6 a0.Show.Textures, RE.rd k_part A9 cp10 a0.parts]) => ?_))
 refine Wr ?_
 refine RL_p (xA 0 (L19_0 A1 a0 cp2 A5 cp6 A9 cp10) ag67 (H.c 0)) ?_
 refine RL_p (xm (ii a1)) ?_
 refine RL_p (xm (ii a2)) ?_
 refine RL_p (x_makeFunc (vs := [pp b13, pp b17, pp b15]) (by rfl)) ?_
 obtain ⟨st, hl, hm⟩ := bind_some hm
 have H0 := (H.blkOpen (i := 0) (by rfl)).pickL [2, 1] (by decide)
 refine RL_cons (OC (xc [.agg (L19_0 A1 a0 cp2 A5 cp6 A9 cp10).toArray, ii a1, ii a2, .func (.func 30) #[] #[pp b13, pp b17, pp b15]] (cf12 _ _)) (c12 (fun (st : Bool × S_Frag) (wS : World) => Sep ok w wS [.blk b17 4 [.bool st.1], .blk b15 54 (FRc st.2)] [RE.rd k_Item A1 cp2 a0.Show.Items, RE.rd k_Texture A5 cp6 a0.Show.Textures, RE.rd k_part A9 cp10 a0.parts, RE.cells b13 0 (L19_0 A1 a0 cp2 A5 cp6 A9 cp10)]) (fun (st : Bool × S_Frag) f => m30 K f a0 st.1 st.2) 30 [pp b13, pp b17, pp b15] K A1 cp2 _ A5 cp6 _ A9 cp10 a0.parts a1 a2 (fun st wS h => (h.rd (i := 2) (by rfl)).any) (fun st wS w2 h hw => h.below hw) cf30 (fun st wS f st2 h hq => (c30 ok K w wS f a0 A1 cp2 A5 cp6 A9 cp10 b13 st.1 b17 st.2 b15 h st2 hq).mono fun e w2 h2 => h2) (false, (⟨-2048, -1, -1, 0, 0, 0⟩ : S_Frag)) w19 H0 st hl) ?_)
 rintro e w20 ⟨rfl, H⟩
 have H : Sep ok w w20 [.blk b17 4 [.bool st.1], .blk b15 54 (FRc st.2)] [RE.rd k_Item A1 cp2 a0.Show.Items, RE.rd k_Texture A5 cp6 a0.Show.Textures, RE.rd k_part A9 cp10 a0.parts, RE.cells b13 0 (L19_0 A1 a0 cp2 A5 cp6 A9 cp10)] := H
 refine ⟨_, rfl, ?_⟩
 show RL _ _ _ _ _ _ _
 refine W_seq ?_
 refine W_draw [.take 0, .take 1, .run 2, .tail 3] (fun wS => Sep ok w wS [.blk b17 4 [.bool st.1], .blk b15 54 (FRc st.2)] []) [3] [] mixed0 (by kernel_rfl) (by kernel_rfl) (by kernel_rfl) (by rfl) (by exact (H.drew.pick [])) ?_
 obtain ⟨w21, hW⟩ : ∃ W : World, W = { w20 with drawn := w20.drawn + 1 } := ⟨_, rfl⟩
 rw [← hW]
 have H : Sep ok w w21 [.blk b17 4 [.bool st.1], .blk b15 54 (FRc st.2)] [] := by rw [hW]; exact H.drew.pick []
 clear hW
 refine PT' (a := fun H => xA 0 (FRc st.2) ag54 (H.c 1)) (b := ?_)
 refine PT' (a := fun H => xl 0 (.bool st.1) sc4 (H.c 0)) (b := ?_)
 refine PU (a := OS 1 0 (FRc st.2) sz54 H (fun w22 (H : Sep ok w w22 [.blk b17 4 [.bool st.1], .blk b15 54 (FRc st.2)] []) => ⟨H, ?_⟩))
 refine PL (a := OS 0 0 [.bool st.1] sz4 H (fun w23 (H : Sep ok w w23 [.blk b17 4 [.bool st.1], .blk b15 54 (FRc st.2)] []) => ?_))
 refine PR_nil ?_
 refine W_ret ?_
 obtain rfl := Option.some.inj hm
 exact ⟨[.agg (FRc st.2).toArray, .bool st.1], (.cellA (by rfl) ag54 (H.c 1) (by rfl) (.cellS (by rfl) sc4 (H.c 0) rfl)), rfl, H.none_⟩
end Go.Proofs.YtobkigllalbkiaaV.D

/- A plain Lean function that answers as the Go function does (none: not told), and the proof that a call answers so. Written by program. -/
set_option linter.unusedVariables false
set_option maxRecDepth 100000
set_option maxHeartbeats 4000000
namespace Go.Proofs.YtobkigllalbkiaaV.D
open Go.RowKit Go.Proofs.YtobkigllalbkiaaV
abbrev L10_0 (q0 : Option Addr) (q1 : S_Show) (q2 : Nat) (q3 : Option Addr) (q4 : Nat) : List Value := [.slice q0 q1.Items.length q2, .slice q3 q1.Textures.length q4]
abbrev L10_1 (q0 : S_Camera) : List Value := [ii q0.Pos.X, ii q0.Pos.Y, ii q0.Pos.Z, ii q0.M.a0.a0, ii q0.M.a0.a1, ii q0.M.a0.a2, ii q0.M.a1.a0, ii q0.M.a1.a1, ii q0.M.a1.a2, ii q0.M.a2.a0, ii q0.M.a2.a1, ii q0.M.a2.a2, ii q0.Focal, ii q0.Near, ii q0.W, ii q0.H]
abbrev L10_2  : List Value := [ii 0, ii 0, ii 0, ii 0, ii 0, ii 0]
abbrev L10_3 (q0 : Option Addr) (q1 : S_scene × Int) (q2 : Nat) (q3 : Option Addr) (q4 : Nat) (q5 : Option Addr) (q6 : Nat) : List Value := [.slice q0 q1.1.Show.Items.length q2, .slice q3 q1.1.Show.Textures.length q4, .slice q5 q1.1.parts.length q6]
abbrev L10_4  : List Value := [.slice none 0 0, .slice none 0 0, .slice none 0 0]
abbrev L10_5 (q0 : S_Frag × Bool) : List Value := [ii q0.1.D, ii q0.1.Item, ii q0.1.Tri, ii q0.1.Part, ii q0.1.U, ii q0.1.V]
abbrev L10_6 (q0 : S_Frag × Bool × Int) : List Value := [ii q0.1.D, ii q0.1.Item, ii q0.1.Tri, ii q0.1.Part, ii q0.1.U, ii q0.1.V]
def m10 (K : Nat) (a0 : S_Show) (a1 : S_Camera) (a2 : Int) (a3 : Int) : Option (S_Frag × Bool × Int) :=
 ((m11 K a0 a1 a2 a3).bind fun v16 => (bif (v16.2 != 0) then some ((⟨0, 0, 0, 0, 0, 0⟩ : S_Frag), false, v16.2) else ((m19 K v16.1 a2 a3).bind fun v32 => (bif (!v32.2) then some ((⟨0, 0, 0, 0, 0, 0⟩ : S_Frag), false, 0) else some (v32.1, true, 0)))))
theorem c10 (ok : Okp) (K : Nat) (w : World) (a0 : S_Show) (A1 : Option Addr) (cp2 : Nat) (A5 : Option Addr) (cp6 : Nat) (a1 : S_Camera) (a2 : Int) (a3 : Int) (hR3 : Rd k_Item w ok A1 cp2 a0.Items) (hR7 : Rd k_Texture w ok A5 cp6 a0.Textures) (res : S_Frag × Bool × Int) (hm : m10 K a0 a1 a2 a3 = some res) :
  Calls Tryd.prog 10 #[.agg (L10_0 A1 a0 cp2 A5 cp6).toArray, .agg (L10_1 a1).toArray, ii a2, ii a3] w (fun e w' => e = .returned (tup [.agg (L10_6 res).toArray, .bool res.2.1, ii res.2.2]) ∧ Sep ok w w' [] []) := by
 refine calls_W (args := [.agg (L10_0 A1 a0 cp2 A5 cp6).toArray, .agg (L10_1 a1).toArray, ii a2, ii a3]) Tryd.func10 rfl Tryd.ntmps10 Tryd.results10 rfl fun r hr => ?_
 obtain ⟨r1, rfl⟩ := regen (r := r) [(0, .agg (L10_0 A1 a0 cp2 A5 cp6).toArray), (1, .agg (L10_1 a1).toArray), (2, ii a2), (3, ii a3)] ⟨hr 0 _ rfl, hr 1 _ rfl, hr 2 _ rfl, hr 3 _ rfl, trivial⟩
 have H : Sep ok w w [] [RE.rd k_Item A1 cp2 a0.Items, RE.rd k_Texture A5 cp6 a0.Textures] := Sep.arg (Sep.arg (Sep.start ok w) (re := RE.rd k_Item A1 cp2 a0.Items) rfl rfl hR3) (re := RE.rd k_Texture A5 cp6 a0.Textures) rfl rfl hR7
 unfold m10 at hm
 refine Wr ?_
 refine RL_cons (OB H (fun w10 b9 (H : Sep ok w w10 [.blk b9 25 (L10_0 A1 a0 cp2 A5 cp6)] [RE.rd k_Item A1 cp2 a0.Items, RE.rd k_Texture A5 cp6 a0.Textures]) => ?_))
 refine RL_cons (OB H (fun w12 b11 (H : Sep ok w w12 [.blk b9 25 (L10_0 A1 a0 cp2 A5 cp6), .blk b11 31 (L10_1 a1)] [RE.rd k_Item A1 cp2 a0.Items, RE.rd k_Texture A5 cp6 a0.Textures]) => ?_))
 refine RL_cons (OA ze54 H (fun w14 b13 (H : Sep ok w w14 [.blk b9 25 (L10_0 A1 a0 cp2 A5 cp6), .blk b11 31 (L10_1 a1), .blk b13 54 L10_2] [RE.rd k_Item A1 cp2 a0.Items, RE.rd k_Texture A5 cp6 a0.Textures]) => ?_))
 refine RL_p (xa (.bool false)) ?_
 refine RL_p (xa (ii 0)) ?_
 refine Wr ?_
 refine RL_p (xA 0 (L10_0 A1 a0 cp2 A5 cp6) ag25 (H.c 0)) ?_
 refine RL_p (xA 0 (L10_1 a1) ag31 (H.c 1)) ?_
 refine RL_p (xm (ii a2)) ?_
 refine RL_p (xm (ii a3)) ?_
 obtain ⟨v16, hv15, hm⟩ := bind_some hm
 refine RL_cons (OC (xc [.agg (L10_0 A1 a0 cp2 A5 cp6).toArray, .agg (L10_1 a1).toArray, ii a2, ii a3] (cf11 _ _)) (c11 (okS ok w [.blk b9 25 (L10_0 A1 a0 cp2 A5 cp6), .blk b11 31 (L10_1 a1), .blk b13 54 L10_2]) K w14 a0 A1 cp2 A5 cp6 a1 a2 a3 (H.rd (i := 0) (by rfl)) (H.rd (i := 1) (by rfl)) v16 hv15) ?_)
 rintro e w17 ⟨A18, cp19, A21, cp22, A24, cp25, rfl, H2⟩
 have H : Sep ok w w17 [.blk b9 25 (L10_0 A1 a0 cp2 A5 cp6), .blk b11 31 (L10_1 a1), .blk b13 54 L10_2] [RE.rd k_Item A1 cp2 a0.Items, RE.rd k_Texture A5 cp6 a0.Textures, RE.rd k_Item A18 cp19 v16.1.Show.Items, RE.rd k_Texture A21 cp22 v16.1.Show.Textures, RE.rd k_part A24 cp25 v16.1.parts] := H.call H2
 clear H2
 refine ⟨_, rfl, ?_⟩
 refine RL_p (xm (tup [.agg (L10_3 A18 v16 cp19 A21 cp22 A24 cp25).toArray, ii v16.2])) ?_
 refine RL_p (xe (.agg (L10_3 A18 v16 cp19 A21 cp22 A24 cp25).toArray)) ?_
 refine RL_p (xe (ii v16.2)) ?_
 refine RL_cons (OA ze67 H (fun w28 b27 (H : Sep ok w w28 [.blk b9 25 (L10_0 A1 a0 cp2 A5 cp6), .blk b11 31 (L10_1 a1), .blk b13 54 L10_2, .blk b27 67 L10_4] [RE.rd k_Item A1 cp2 a0.Items, RE.rd k_Texture A5 cp6 a0.Textures, RE.rd k_Item A18 cp19 v16.1.Show.Items, RE.rd k_Texture A21 cp22 v16.1.Show.Textures, RE.rd k_part A24 cp25 v16.1.parts]) => ?_))
 refine RL_cons (OS 3 0 (L10_3 A18 v16 cp19 A21 cp22 A24 cp25) sz67 H (fun w29 (H : Sep ok w w29 [.blk b9 25 (L10_0 A1 a0 cp2 A5 cp6), .blk b11 31 (L10_1 a1), .blk b13 54 L10_2, .blk b27 67 (L10_3 A18 v16 cp19 A21 cp22 A24 cp25)] [RE.rd k_Item A1 cp2 a0.Items, RE.rd k_Texture A5 cp6 a0.Textures, RE.rd k_Item A18 cp19 v16.1.Show.Items, RE.rd k_Texture A21 cp22 v16.1.Show.Textures, RE.rd k_part A24 cp25 v16.1.parts]) => ?_))
 refine RL_p (xa (ii v16.2)) ?_
 refine W_seq ?_
 refine W_seq ?_
 have H : Sep ok w w29 [.blk b13 54 L10_2, .blk b27 67 (L10_3 A18 v16 cp19 A21 cp22 A24 cp25)] [RE.rd k_Item A18 cp19 v16.1.Show.Items, RE.rd k_Texture A21 cp22 v16.1.Show.Textures, RE.rd k_part A24 cp25 v16.1.parts] := ((H.pickL [2, 3] (by decide)).pick [2, 3, 4])
 refine W_region ?_
 refine RL_p (xm (ii v16.2)) ?_
 refine RL_p (xN) ?_
 refine Wc (fun hb => ?_) (fun hb => ?_)
 ·have hm := cond_t hb hm
  refine W_seq ?_
  have H : Sep ok w w29 [.blk b13 54 L10_2] [] := ((H.takeL 1).pick [])
  refine W_region ?_
  refine RL_p (x_build (vs := []) (cs := L10_2) (by rfl) (by kernel_rfl)) ?_
  refine RL_p (xm (ii v16.2)) ?_
  refine RL_cons (OS 0 0 L10_2 sz54 H (fun w30 (H : Sep ok w w30 [.blk b13 54 L10_2] []) => ?_))
  refine RL_p (xa (.bool false)) ?_
  refine RL_p (xa (ii v16.2)) ?_
  refine W_ret ?_
  obtain rfl := Option.some.inj hm
  exact ⟨[.agg L10_2.toArray, .bool false, ii v16.2], (.cellA (by rfl) ag54 (H.c 0) (by rfl) (.tmp (by rfl) (.tmp (by rfl) rfl))), rfl, H.none_⟩
 have hm := cond_f hb hm
 refine W_skip ?_
 refine Wr ?_
 refine RL_p (xA 0 (L10_3 A18 v16 cp19 A21 cp22 A24 cp25) ag67 (H.c 1)) ?_
 refine RL_p (xm (ii a2)) ?_
 refine RL_p (xm (ii a3)) ?_
 obtain ⟨v32, hv31, hm⟩ := bind_some hm
 refine RL_cons (OC (xc [.agg (L10_3 A18 v16 cp19 A21 cp22 A24 cp25).toArray, ii a2, ii a3] (cf19 _ _)) (c19 okT K w29 v16.1 A18 cp19 A21 cp22 A24 cp25 a2 a3 (H.rd (i := 0) (by rfl)).any (H.rd (i := 1) (by rfl)).any (H.rd (i := 2) (by rfl)).any v32 hv31) ?_)
 rintro e w33 ⟨rfl, H2⟩
 have H : Sep ok w w33 [.blk b13 54 L10_2, .blk b27 67 (L10_3 A18 v16 cp19 A21 cp22 A24 cp25)] [RE.rd k_Item A18 cp19 v16.1.Show.Items, RE.rd k_Texture A21 cp22 v16.1.Show.Textures, RE.rd k_part A24 cp25 v16.1.parts] := H.below H2.base
 clear H2
 refine ⟨_, rfl, ?_⟩
 refine RL_p (xm (tup [.agg (L10_5 v32).toArray, .bool v32.2])) ?_
 refine RL_p (xe (.agg (L10_5 v32).toArray)) ?_
 refine RL_p (xe (.bool v32.2)) ?_
 refine RL_cons (OA ze54 H (fun w35 b34 (H : Sep ok w w35 [.blk b13 54 L10_2, .blk b27 67 (L10_3 A18 v16 cp19 A21 cp22 A24 cp25), .blk b34 54 L10_2] [RE.rd k_Item A18 cp19 v16.1.Show.Items, RE.rd k_Texture A21 cp22 v16.1.Show.Textures, RE.rd k_part A24 cp25 v16.1.parts]) => ?_))
 refine RL_cons (OS 2 0 (L10_5 v32) sz54 H (fun w36 (H : Sep ok w w36 [.blk b13 54 L10_2, .blk b27 67 (L10_3 A18 v16 cp19 A21 cp22 A24 cp25), .blk b34 54 (L10_5 v32)] [RE.rd k_Item A18 cp19 v16.1.Show.Items, RE.rd k_Texture A21 cp22 v16.1.Show.Textures, RE.rd k_part A24 cp25 v16.1.parts]) => ?_))
 refine RL_p (xa (.bool v32.2)) ?_
 refine W_seq ?_
 refine W_seq ?_
 have H : Sep ok w w36 [.blk b13 54 L10_2, .blk b34 54 (L10_5 v32)] [] := ((H.pickL [0, 2] (by decide)).pick [])
 refine W_region ?_
 refine RL_p (xm (.bool v32.2)) ?_
 refine RL_p (x_not (by rfl)) ?_
 refine Wc (fun hb => ?_) (fun hb => ?_)
 ·have hm := cond_t hb hm
  refine Wr ?_
  refine RL_p (x_build (vs := []) (cs := L10_2) (by rfl) (by kernel_rfl)) ?_
  refine RL_cons (OS 0 0 L10_2 sz54 H (fun w37 (H : Sep ok w w37 [.blk b13 54 L10_2, .blk b34 54 (L10_5 v32)] []) => ?_))
  refine RL_p (xa (.bool false)) ?_
  refine RL_p (xa (ii 0)) ?_
  refine W_ret ?_
  obtain rfl := Option.some.inj hm
  exact ⟨[.agg L10_2.toArray, .bool false, ii 0], (.cellA (by rfl) ag54 (H.c 0) (by rfl) (.tmp (by rfl) (.tmp (by rfl) rfl))), rfl, H.none_⟩
 have hm := cond_f hb hm
 refine W_skip ?_
 refine Wr ?_
 refine RL_p (xA 0 (L10_5 v32) ag54 (H.c 1)) ?_
 refine RL_cons (OS 0 0 (L10_5 v32) sz54 H (fun w38 (H : Sep ok w w38 [.blk b13 54 (L10_5 v32), .blk b34 54 (L10_5 v32)] []) => ?_))
 refine RL_p (xa (.bool true)) ?_
 refine RL_p (xa (ii 0)) ?_
 refine W_ret ?_
 obtain rfl := Option.some.inj hm
 exact ⟨[.agg (L10_5 v32).toArray, .bool true, ii 0], (.cellA (by rfl) ag54 (H.c 0) (by rfl) (.tmp (by rfl) (.tmp (by rfl) rfl))), rfl, H.none_⟩
end Go.Proofs.YtobkigllalbkiaaV.D

/- A plain Lean function that answers as the Go function does (none: not told), and the proof that a call answers so. Written by program. -/
set_option linter.unusedVariables false
set_option maxRecDepth 100000
set_option maxHeartbeats 4000000
namespace Go.Proofs.YtobkigllalbkiaaV.D
open Go.RowKit Go.Proofs.YtobkigllalbkiaaV
abbrev L4_0  : List Value := [ii 256, ii 0, ii 0, ii 0, ii 256, ii 0, ii 0, ii 0, ii 256]
abbrev L4_1  : List Value := [ii 0, ii 0, ii 0, ii 256, ii 0, ii 0, ii 0, ii 256, ii 0, ii 0, ii 0, ii 256, ii 64, ii 256, ii 4, ii 4]
abbrev L4_2  : List Value := [ii 0, ii 0, ii 0, ii 0, ii 0, ii 0, ii 0, ii 0, ii 0, ii 0, ii 0, ii 0, ii 0, ii 0, ii 0, ii 0]
abbrev L4_3  : List Value := [ii (-40), ii (-40), ii 512]
abbrev L4_4  : List Value := [ii 40, ii (-40), ii 512]
abbrev L4_5  : List Value := [ii (-40), ii 40, ii 512]
abbrev L4_6  : List Value := [ii (-40), ii (-40), ii 512, ii 40, ii (-40), ii 512, ii (-40), ii 40, ii 512]
abbrev L4_7  : List Value := [.int .u8 0, .int .u8 0, .int .u8 0, .int .u8 0, ii (-1), .int .u8 0, ii 0, .bool false, ii 0]
abbrev L4_8 (q0 : S_Vec) : List Value := [ii q0.X, ii q0.Y, ii q0.Z]
abbrev L4_9 (q0 : S_Vec) : List Value := [ii q0.X, ii q0.Y, ii q0.Z, ii 40, ii 40, ii 512]
abbrev L4_10 (q0 : S_Frag × Bool × Int) : List Value := [ii q0.1.D, ii q0.1.Item, ii q0.1.Tri, ii q0.1.Part, ii q0.1.U, ii q0.1.V]
abbrev L4_11  : List Value := [ii 0, ii 0, ii 0, ii 0, ii 0, ii 0]
def m4 (K : Nat)  : Option (Bool) :=
 (idx ([(⟨(-40), (-40), 512⟩ : S_Vec), (⟨40, (-40), 512⟩ : S_Vec), (⟨(-40), 40, 512⟩ : S_Vec)]) 0 fun el8 => (mks 16 3 (⟨0, 0⟩ : (Ar2 Int)) fun l18 => ((m10 K (⟨[(⟨[(⟨(-40), (-40), 512⟩ : S_Vec), (⟨40, (-40), 512⟩ : S_Vec), (⟨(-40), 40, 512⟩ : S_Vec)], l18, [(⟨0, 2, 1⟩ : (Ar3 Int))], (⟨(⟨0, 0, 0, 0⟩ : (Ar4 Int)), (-1), 0, 0, false, 0⟩ : S_Look), (⟨el8, (⟨40, 40, 512⟩ : S_Vec)⟩ : S_Box)⟩ : S_Item)], []⟩ : S_Show) (⟨(⟨0, 0, 0⟩ : S_Vec), (⟨(⟨256, 0, 0⟩ : (Ar3 Int)), (⟨0, 256, 0⟩ : (Ar3 Int)), (⟨0, 0, 256⟩ : (Ar3 Int))⟩ : (Ar3 (Ar3 Int))), 64, 256, 4, 4⟩ : S_Camera) 0 2).bind fun v104 => ((bif (v104.2.2 == 0) then some v104.2.1 else some false).bind fun b109 => ((bif b109 then some (v104.1.D == 32768) else some false).bind fun b112 => some b112)))))
abbrev S4_0 (q0 : Okp) (q1 q2 : World) (q3 q4 : Nat) : Prop := Sep q0 q1 q2 [.blk q3 31 L4_1, .hole] [RE.rd k_Vec (some ⟨q4, 0, none⟩) 3 ([(⟨(-40), (-40), 512⟩ : S_Vec), (⟨40, (-40), 512⟩ : S_Vec), (⟨(-40), 40, 512⟩ : S_Vec)])]
abbrev S4_1 (q0 : Okp) (q1 q2 : World) (q3 q4 : Nat) (q5 : (List (Ar2 Int))) (q6 : S_Vec) (q7 q8 q9 q10 : Nat) : Prop := Sep q0 q1 q2 [.blk q3 31 L4_1, .row (.slice (some ⟨q4, 0, none⟩) ([(⟨[(⟨(-40), (-40), 512⟩ : S_Vec), (⟨40, (-40), 512⟩ : S_Vec), (⟨(-40), 40, 512⟩ : S_Vec)], q5, [(⟨0, 2, 1⟩ : (Ar3 Int))], (⟨(⟨0, 0, 0, 0⟩ : (Ar4 Int)), (-1), 0, 0, false, 0⟩ : S_Look), (⟨q6, (⟨40, 40, 512⟩ : S_Vec)⟩ : S_Box)⟩ : S_Item)]).length 1) 52 k_Item.sz ([(⟨[(⟨(-40), (-40), 512⟩ : S_Vec), (⟨40, (-40), 512⟩ : S_Vec), (⟨(-40), 40, 512⟩ : S_Vec)], q5, [(⟨0, 2, 1⟩ : (Ar3 Int))], (⟨(⟨0, 0, 0, 0⟩ : (Ar4 Int)), (-1), 0, 0, false, 0⟩ : S_Look), (⟨q6, (⟨40, 40, 512⟩ : S_Vec)⟩ : S_Box)⟩ : S_Item)]).length [.slice (some ⟨q7, 0, none⟩) ([(⟨(-40), (-40), 512⟩ : S_Vec), (⟨40, (-40), 512⟩ : S_Vec), (⟨(-40), 40, 512⟩ : S_Vec)]).length 3, .slice (some ⟨q8, 0, none⟩) q5.length q5.length, .slice (some ⟨q9, 0, none⟩) ([(⟨0, 2, 1⟩ : (Ar3 Int))]).length 1, .int .u8 0, .int .u8 0, .int .u8 0, .int .u8 0, ii (-1), .int .u8 0, ii 0, .bool false, ii 0, ii q6.X, ii q6.Y, ii q6.Z, ii 40, ii 40, ii 512], .blk q10 25 [.slice (some ⟨q4, 0, none⟩) ([(⟨[(⟨(-40), (-40), 512⟩ : S_Vec), (⟨40, (-40), 512⟩ : S_Vec), (⟨(-40), 40, 512⟩ : S_Vec)], q5, [(⟨0, 2, 1⟩ : (Ar3 Int))], (⟨(⟨0, 0, 0, 0⟩ : (Ar4 Int)), (-1), 0, 0, false, 0⟩ : S_Look), (⟨q6, (⟨40, 40, 512⟩ : S_Vec)⟩ : S_Box)⟩ : S_Item)]).length 1, .slice none 0 0]] [RE.chunks k_Item [.slice (some ⟨q7, 0, none⟩) ([(⟨(-40), (-40), 512⟩ : S_Vec), (⟨40, (-40), 512⟩ : S_Vec), (⟨(-40), 40, 512⟩ : S_Vec)]).length 3, .slice (some ⟨q8, 0, none⟩) q5.length q5.length, .slice (some ⟨q9, 0, none⟩) ([(⟨0, 2, 1⟩ : (Ar3 Int))]).length 1, .int .u8 0, .int .u8 0, .int .u8 0, .int .u8 0, ii (-1), .int .u8 0, ii 0, .bool false, ii 0, ii q6.X, ii q6.Y, ii q6.Z, ii 40, ii 40, ii 512] ([(⟨[(⟨(-40), (-40), 512⟩ : S_Vec), (⟨40, (-40), 512⟩ : S_Vec), (⟨(-40), 40, 512⟩ : S_Vec)], q5, [(⟨0, 2, 1⟩ : (Ar3 Int))], (⟨(⟨0, 0, 0, 0⟩ : (Ar4 Int)), (-1), 0, 0, false, 0⟩ : S_Look), (⟨q6, (⟨40, 40, 512⟩ : S_Vec)⟩ : S_Box)⟩ : S_Item)])]
theorem c4 (ok : Okp) (K : Nat) (w : World)  (res : Bool) (hm : m4 K  = some res) :
  Calls Tryd.prog 4 #[] w (fun e w' => e = .returned (tup [.bool res]) ∧ Sep ok w w' [] []) := by
 refine calls_W (args := []) Tryd.func4 rfl Tryd.ntmps4 Tryd.results4 rfl fun r hr => ?_
 obtain ⟨r1, rfl⟩ : ∃ R, R = r := ⟨_, rfl⟩
 have H : Sep ok w w [] [] := Sep.start ok w
 unfold m4 at hm
 refine Wr ?_
 refine RL_p (xa (.bool false)) ?_
 refine Wr ?_
 refine RL_p (x_build (vs := [(0, ii 256), (1, ii 0), (2, ii 0)]) (cs := [ii 256, ii 0, ii 0]) (by rfl) (by kernel_rfl)) ?_
 refine RL_p (x_build (vs := [(0, ii 0), (1, ii 256), (2, ii 0)]) (cs := [ii 0, ii 256, ii 0]) (by rfl) (by kernel_rfl)) ?_
 refine RL_p (x_build (vs := [(0, ii 0), (1, ii 0), (2, ii 256)]) (cs := [ii 0, ii 0, ii 256]) (by rfl) (by kernel_rfl)) ?_
 refine RL_p (x_build (vs := [(0, .agg #[ii 256, ii 0, ii 0]), (1, .agg #[ii 0, ii 256, ii 0]), (2, .agg #[ii 0, ii 0, ii 256])]) (cs := L4_0) (by rfl) (by kernel_rfl)) ?_
 refine RL_p (x_build (vs := [(1, .agg L4_0.toArray), (2, ii 64), (3, ii 256), (4, ii 4), (5, ii 4)]) (cs := L4_1) (by rfl) (by kernel_rfl)) ?_
 refine RL_cons (OA ze31 H (fun w2 b1 (H : Sep ok w w2 [.blk b1 31 L4_2] []) => ?_))
 refine RL_cons (OS 0 0 L4_1 sz31 H (fun w3 (H : Sep ok w w3 [.blk b1 31 L4_1] []) => ?_))
 refine Wr ?_
 refine RL_p (x_build (vs := [(0, ii (-40)), (1, ii (-40)), (2, ii 512)]) (cs := L4_3) (by rfl) (by kernel_rfl)) ?_
 refine RL_p (x_build (vs := [(0, ii 40), (1, ii (-40)), (2, ii 512)]) (cs := L4_4) (by rfl) (by kernel_rfl)) ?_
 refine RL_p (x_build (vs := [(0, ii (-40)), (1, ii 40), (2, ii 512)]) (cs := L4_5) (by rfl) (by kernel_rfl)) ?_
 refine RL_cons (O_buildSlice (vs := [(0, .agg L4_3.toArray), (1, .agg L4_4.toArray), (2, .agg L4_5.toArray)]) (cs := [ii (-40), ii (-40), ii 512, ii 40, ii (-40), ii 512, ii (-40), ii 40, ii 512]) (by exact wn0 rfl) (by rfl) sl42 sz27 ze27 (by rfl) (by rfl) (by rfl) (by kernel_rfl) H (fun w5 b4 (H : Sep ok w w5 [.blk b1 31 L4_1, .blk b4 27 L4_6] []) => ?_))
 have H : Sep ok w w5 [.blk b1 31 L4_1, .row (.slice (some ⟨b4, 0, none⟩) ([(⟨(-40), (-40), 512⟩ : S_Vec), (⟨40, (-40), 512⟩ : S_Vec), (⟨(-40), 40, 512⟩ : S_Vec)]).length 3) 27 k_Vec.sz ([(⟨(-40), (-40), 512⟩ : S_Vec), (⟨40, (-40), 512⟩ : S_Vec), (⟨(-40), 40, 512⟩ : S_Vec)]).length [ii (-40), ii (-40), ii 512, ii 40, ii (-40), ii 512, ii (-40), ii 40, ii 512]] [RE.chunks k_Vec [ii (-40), ii (-40), ii 512, ii 40, ii (-40), ii 512, ii (-40), ii 40, ii 512] ([(⟨(-40), (-40), 512⟩ : S_Vec), (⟨40, (-40), 512⟩ : S_Vec), (⟨(-40), 40, 512⟩ : S_Vec)])] := H.rowOf (i := 1) (D := k_Vec) (xs := [(⟨(-40), (-40), 512⟩ : S_Vec), (⟨40, (-40), 512⟩ : S_Vec), (⟨(-40), 40, 512⟩ : S_Vec)]) (by rfl) (by exact ⟨rfl, rfl, rfl, rfl⟩) (by rfl)
 refine RL_p (xa (.slice (some ⟨b4, 0, none⟩) ([(⟨(-40), (-40), 512⟩ : S_Vec), (⟨40, (-40), 512⟩ : S_Vec), (⟨(-40), 40, 512⟩ : S_Vec)]).length 3)) ?_
 refine W_seq ?_
 have H : S4_0 ok w w5 b1 b4 := H.frozen (i := 1) (j := 0) (by rfl) (by rfl)
 obtain ⟨el8, h9, h10, he11, hm⟩ := idx_some hm
 obtain ⟨g13, o14, hA12⟩ := (H.rd (i := 0) (by rfl)).addr he11
 obtain ⟨l18, h20, hl19, hb21, hm⟩ := mks_some hm
 refine W_drawT (.free 0 (.free 2 (.free 4 (.free 5 (.free 6 (.take 7 (.free 8 (.free 9 (.all (.br 1 (.all (.br 3 (.free 10 (.all (.br 11 (.free 12 (.all (.br 13 (.lin [.tail 14]) (.stop)))) (.br 13 (.all (.br 11 (.free 12 (.lin [.tail 14])) (.stop))) (.stop))))) (.br 13 (.all (.br 3 (.free 10 (.all (.br 11 (.free 12 (.lin [.tail 14])) (.stop)))) (.stop))) (.stop)))) (.br 3 (.all (.br 1 (.free 10 (.all (.br 11 (.free 12 (.all (.br 13 (.lin [.tail 14]) (.stop)))) (.br 13 (.all (.br 11 (.free 12 (.lin [.tail 14])) (.stop))) (.stop))))) (.br 13 (.all (.br 1 (.free 10 (.all (.br 11 (.free 12 (.lin [.tail 14])) (.stop)))) (.stop))) (.stop)))) (.br 13 (.all (.br 1 (.all (.br 3 (.free 10 (.all (.br 11 (.free 12 (.lin [.tail 14])) (.stop)))) (.stop))) (.br 3 (.all (.br 1 (.free 10 (.all (.br 11 (.free 12 (.lin [.tail 14])) (.stop)))) (.stop))) (.stop)))) (.stop))))))))))))) (fun wS => S4_0 ok w wS b1 b4) [14] [0, 2, 4, 5, 6, 8, 9, 10, 12] mixed0 (by kernel_rfl) (by kernel_rfl) (by kernel_rfl) (by kernel_rfl) (by exact H.drew) ?_
 obtain ⟨w34, hW⟩ : ∃ W : World, W = { w5 with drawn := w5.drawn + 1 } := ⟨_, rfl⟩
 rw [← hW]
 have H : S4_0 ok w w34 b1 b4 := by rw [hW]; exact H.drew
 clear hW
 refine TF (a := xm (.slice (some ⟨b4, 0, none⟩) ([(⟨(-40), (-40), 512⟩ : S_Vec), (⟨40, (-40), 512⟩ : S_Vec), (⟨(-40), 40, 512⟩ : S_Vec)]).length 3)) (b := ?_)
 refine TF (a := x_build (vs := [(0, ii 0), (1, ii 2), (2, ii 1)]) (cs := [ii 0, ii 2, ii 1]) (by rfl) (by kernel_rfl)) (b := ?_)
 refine TF (a := x_build (vs := [(1, ii (-1))]) (cs := L4_7) (by rfl) (by kernel_rfl)) (b := ?_)
 refine TF (a := xm (.slice (some ⟨b4, 0, none⟩) ([(⟨(-40), (-40), 512⟩ : S_Vec), (⟨40, (-40), 512⟩ : S_Vec), (⟨(-40), 40, 512⟩ : S_Vec)]).length 3)) (b := ?_)
 refine TF (a := x_indexAddr sl42 sz27 (by rfl) (by rfl) hA12 h9 h10) (b := ?_)
 refine TT (a := fun H => xA 0 (L4_8 el8) ag27 (Rd.flatAt (n := 3) (H.rd (i := 0) (by rfl)) hA12 he11)) (b := ?_)
 refine TF (a := x_build (vs := [(0, ii 40), (1, ii 40), (2, ii 512)]) (cs := [ii 40, ii 40, ii 512]) (by rfl) (by kernel_rfl)) (b := ?_)
 refine TF (a := x_build (vs := [(0, .agg (L4_8 el8).toArray), (1, .agg #[ii 40, ii 40, ii 512])]) (cs := (L4_9 el8)) (by rfl) (by kernel_rfl)) (b := ?_)
 refine PRT_meet (fun r' w' => ∃ (b28 : Nat), ∃ (b32 : Nat), ∃ (b16 : Nat), ∃ (b24 : Nat), Agr [(1, pp b1), (3, pp b32), (28, .agg #[.slice (some ⟨b28, 0, none⟩) ([(⟨[(⟨(-40), (-40), 512⟩ : S_Vec), (⟨40, (-40), 512⟩ : S_Vec), (⟨(-40), 40, 512⟩ : S_Vec)], l18, [(⟨0, 2, 1⟩ : (Ar3 Int))], (⟨(⟨0, 0, 0, 0⟩ : (Ar4 Int)), (-1), 0, 0, false, 0⟩ : S_Look), (⟨el8, (⟨40, 40, 512⟩ : S_Vec)⟩ : S_Box)⟩ : S_Item)]).length 1, .slice none 0 0])] r' ∧ Sep ok w w' [.blk b1 31 L4_1, .hole, .hole, .hole, .row (.slice (some ⟨b28, 0, none⟩) ([(⟨[(⟨(-40), (-40), 512⟩ : S_Vec), (⟨40, (-40), 512⟩ : S_Vec), (⟨(-40), 40, 512⟩ : S_Vec)], l18, [(⟨0, 2, 1⟩ : (Ar3 Int))], (⟨(⟨0, 0, 0, 0⟩ : (Ar4 Int)), (-1), 0, 0, false, 0⟩ : S_Look), (⟨el8, (⟨40, 40, 512⟩ : S_Vec)⟩ : S_Box)⟩ : S_Item)]).length 1) 52 k_Item.sz ([(⟨[(⟨(-40), (-40), 512⟩ : S_Vec), (⟨40, (-40), 512⟩ : S_Vec), (⟨(-40), 40, 512⟩ : S_Vec)], l18, [(⟨0, 2, 1⟩ : (Ar3 Int))], (⟨(⟨0, 0, 0, 0⟩ : (Ar4 Int)), (-1), 0, 0, false, 0⟩ : S_Look), (⟨el8, (⟨40, 40, 512⟩ : S_Vec)⟩ : S_Box)⟩ : S_Item)]).length [.slice (some ⟨b4, 0, none⟩) ([(⟨(-40), (-40), 512⟩ : S_Vec), (⟨40, (-40), 512⟩ : S_Vec), (⟨(-40), 40, 512⟩ : S_Vec)]).length 3, .slice (some ⟨b16, 0, none⟩) l18.length l18.length, .slice (some ⟨b24, 0, none⟩) ([(⟨0, 2, 1⟩ : (Ar3 Int))]).length 1, .int .u8 0, .int .u8 0, .int .u8 0, .int .u8 0, ii (-1), .int .u8 0, ii 0, .bool false, ii 0, ii el8.X, ii el8.Y, ii el8.Z, ii 40, ii 40, ii 512], .blk b32 25 [.slice none 0 0, .slice none 0 0]] [RE.rd k_Vec (some ⟨b4, 0, none⟩) 3 ([(⟨(-40), (-40), 512⟩ : S_Vec), (⟨40, (-40), 512⟩ : S_Vec), (⟨(-40), 40, 512⟩ : S_Vec)]), RE.rd k_Ar2_Int (some ⟨b16, 0, none⟩) l18.length l18, RE.rd k_Ar3_Int (some ⟨b24, 0, none⟩) 1 ([(⟨0, 2, 1⟩ : (Ar3 Int))]), RE.chunks k_Item [.slice (some ⟨b4, 0, none⟩) ([(⟨(-40), (-40), 512⟩ : S_Vec), (⟨40, (-40), 512⟩ : S_Vec), (⟨(-40), 40, 512⟩ : S_Vec)]).length 3, .slice (some ⟨b16, 0, none⟩) l18.length l18.length, .slice (some ⟨b24, 0, none⟩) ([(⟨0, 2, 1⟩ : (Ar3 Int))]).length 1, .int .u8 0, .int .u8 0, .int .u8 0, .int .u8 0, ii (-1), .int .u8 0, ii 0, .bool false, ii 0, ii el8.X, ii el8.Y, ii el8.Z, ii 40, ii 40, ii 512] ([(⟨[(⟨(-40), (-40), 512⟩ : S_Vec), (⟨40, (-40), 512⟩ : S_Vec), (⟨(-40), 40, 512⟩ : S_Vec)], l18, [(⟨0, 2, 1⟩ : (Ar3 Int))], (⟨(⟨0, 0, 0, 0⟩ : (Ar4 Int)), (-1), 0, 0, false, 0⟩ : S_Look), (⟨el8, (⟨40, 40, 512⟩ : S_Vec)⟩ : S_Box)⟩ : S_Item)])]) (.lin [.tail 14]) ?_ ?_
 ·intro hJ1_3_11_13
  refine PRT_meet (fun r' w' => ∃ (b28 : Nat), ∃ (b16 : Nat), ∃ (b24 : Nat), Agr [(1, pp b1), (28, .agg #[.slice (some ⟨b28, 0, none⟩) ([(⟨[(⟨(-40), (-40), 512⟩ : S_Vec), (⟨40, (-40), 512⟩ : S_Vec), (⟨(-40), 40, 512⟩ : S_Vec)], l18, [(⟨0, 2, 1⟩ : (Ar3 Int))], (⟨(⟨0, 0, 0, 0⟩ : (Ar4 Int)), (-1), 0, 0, false, 0⟩ : S_Look), (⟨el8, (⟨40, 40, 512⟩ : S_Vec)⟩ : S_Box)⟩ : S_Item)]).length 1, .slice none 0 0])] r' ∧ Sep ok w w' [.blk b1 31 L4_1, .hole, .hole, .hole, .row (.slice (some ⟨b28, 0, none⟩) ([(⟨[(⟨(-40), (-40), 512⟩ : S_Vec), (⟨40, (-40), 512⟩ : S_Vec), (⟨(-40), 40, 512⟩ : S_Vec)], l18, [(⟨0, 2, 1⟩ : (Ar3 Int))], (⟨(⟨0, 0, 0, 0⟩ : (Ar4 Int)), (-1), 0, 0, false, 0⟩ : S_Look), (⟨el8, (⟨40, 40, 512⟩ : S_Vec)⟩ : S_Box)⟩ : S_Item)]).length 1) 52 k_Item.sz ([(⟨[(⟨(-40), (-40), 512⟩ : S_Vec), (⟨40, (-40), 512⟩ : S_Vec), (⟨(-40), 40, 512⟩ : S_Vec)], l18, [(⟨0, 2, 1⟩ : (Ar3 Int))], (⟨(⟨0, 0, 0, 0⟩ : (Ar4 Int)), (-1), 0, 0, false, 0⟩ : S_Look), (⟨el8, (⟨40, 40, 512⟩ : S_Vec)⟩ : S_Box)⟩ : S_Item)]).length [.slice (some ⟨b4, 0, none⟩) ([(⟨(-40), (-40), 512⟩ : S_Vec), (⟨40, (-40), 512⟩ : S_Vec), (⟨(-40), 40, 512⟩ : S_Vec)]).length 3, .slice (some ⟨b16, 0, none⟩) l18.length l18.length, .slice (some ⟨b24, 0, none⟩) ([(⟨0, 2, 1⟩ : (Ar3 Int))]).length 1, .int .u8 0, .int .u8 0, .int .u8 0, .int .u8 0, ii (-1), .int .u8 0, ii 0, .bool false, ii 0, ii el8.X, ii el8.Y, ii el8.Z, ii 40, ii 40, ii 512], .hole] [RE.rd k_Vec (some ⟨b4, 0, none⟩) 3 ([(⟨(-40), (-40), 512⟩ : S_Vec), (⟨40, (-40), 512⟩ : S_Vec), (⟨(-40), 40, 512⟩ : S_Vec)]), RE.rd k_Ar2_Int (some ⟨b16, 0, none⟩) l18.length l18, RE.rd k_Ar3_Int (some ⟨b24, 0, none⟩) 1 ([(⟨0, 2, 1⟩ : (Ar3 Int))]), RE.chunks k_Item [.slice (some ⟨b4, 0, none⟩) ([(⟨(-40), (-40), 512⟩ : S_Vec), (⟨40, (-40), 512⟩ : S_Vec), (⟨(-40), 40, 512⟩ : S_Vec)]).length 3, .slice (some ⟨b16, 0, none⟩) l18.length l18.length, .slice (some ⟨b24, 0, none⟩) ([(⟨0, 2, 1⟩ : (Ar3 Int))]).length 1, .int .u8 0, .int .u8 0, .int .u8 0, .int .u8 0, ii (-1), .int .u8 0, ii 0, .bool false, ii 0, ii el8.X, ii el8.Y, ii el8.Z, ii 40, ii 40, ii 512] ([(⟨[(⟨(-40), (-40), 512⟩ : S_Vec), (⟨40, (-40), 512⟩ : S_Vec), (⟨(-40), 40, 512⟩ : S_Vec)], l18, [(⟨0, 2, 1⟩ : (Ar3 Int))], (⟨(⟨0, 0, 0, 0⟩ : (Ar4 Int)), (-1), 0, 0, false, 0⟩ : S_Look), (⟨el8, (⟨40, 40, 512⟩ : S_Vec)⟩ : S_Box)⟩ : S_Item)])]) (.all (.br 13 (.lin [.tail 14]) (.stop))) ?_ ?_
  ·intro hJ1_3_11
   refine PRT_meet (fun r' w' => ∃ (b16 : Nat), ∃ (cs17 : List Value), ∃ (b24 : Nat), ∃ (b32 : Nat), Agr [(1, pp b1), (3, pp b32), (26, .agg #[.slice (some ⟨b4, 0, none⟩) ([(⟨(-40), (-40), 512⟩ : S_Vec), (⟨40, (-40), 512⟩ : S_Vec), (⟨(-40), 40, 512⟩ : S_Vec)]).length 3, .slice (some ⟨b16, 0, none⟩) l18.length l18.length, .slice (some ⟨b24, 0, none⟩) ([(⟨0, 2, 1⟩ : (Ar3 Int))]).length 1, .int .u8 0, .int .u8 0, .int .u8 0, .int .u8 0, ii (-1), .int .u8 0, ii 0, .bool false, ii 0, ii el8.X, ii el8.Y, ii el8.Z, ii 40, ii 40, ii 512])] r' ∧ Sep ok w w' [.blk b1 31 L4_1, .hole, .row (.slice (some ⟨b16, 0, none⟩) l18.length l18.length) 128 k_Ar2_Int.sz l18.length cs17, .row (.slice (some ⟨b24, 0, none⟩) ([(⟨0, 2, 1⟩ : (Ar3 Int))]).length 1) 28 k_Ar3_Int.sz ([(⟨0, 2, 1⟩ : (Ar3 Int))]).length [ii 0, ii 2, ii 1], .hole, .blk b32 25 [.slice none 0 0, .slice none 0 0]] [RE.rd k_Vec (some ⟨b4, 0, none⟩) 3 ([(⟨(-40), (-40), 512⟩ : S_Vec), (⟨40, (-40), 512⟩ : S_Vec), (⟨(-40), 40, 512⟩ : S_Vec)]), RE.chunks k_Ar2_Int cs17 l18, RE.chunks k_Ar3_Int [ii 0, ii 2, ii 1] ([(⟨0, 2, 1⟩ : (Ar3 Int))]), RE.hole]) (.all (.br 11 (.free 12 (.lin [.tail 14])) (.stop))) ?_ ?_
   ·intro hJ1_3_13
    refine PRT_meet (fun r' w' => ∃ (b16 : Nat), ∃ (cs17 : List Value), ∃ (b24 : Nat), Agr [(1, pp b1), (26, .agg #[.slice (some ⟨b4, 0, none⟩) ([(⟨(-40), (-40), 512⟩ : S_Vec), (⟨40, (-40), 512⟩ : S_Vec), (⟨(-40), 40, 512⟩ : S_Vec)]).length 3, .slice (some ⟨b16, 0, none⟩) l18.length l18.length, .slice (some ⟨b24, 0, none⟩) ([(⟨0, 2, 1⟩ : (Ar3 Int))]).length 1, .int .u8 0, .int .u8 0, .int .u8 0, .int .u8 0, ii (-1), .int .u8 0, ii 0, .bool false, ii 0, ii el8.X, ii el8.Y, ii el8.Z, ii 40, ii 40, ii 512])] r' ∧ Sep ok w w' [.blk b1 31 L4_1, .hole, .row (.slice (some ⟨b16, 0, none⟩) l18.length l18.length) 128 k_Ar2_Int.sz l18.length cs17, .row (.slice (some ⟨b24, 0, none⟩) ([(⟨0, 2, 1⟩ : (Ar3 Int))]).length 1) 28 k_Ar3_Int.sz ([(⟨0, 2, 1⟩ : (Ar3 Int))]).length [ii 0, ii 2, ii 1], .hole, .hole] [RE.rd k_Vec (some ⟨b4, 0, none⟩) 3 ([(⟨(-40), (-40), 512⟩ : S_Vec), (⟨40, (-40), 512⟩ : S_Vec), (⟨(-40), 40, 512⟩ : S_Vec)]), RE.chunks k_Ar2_Int cs17 l18, RE.chunks k_Ar3_Int [ii 0, ii 2, ii 1] ([(⟨0, 2, 1⟩ : (Ar3 Int))]), RE.hole]) (.all (.br 11 (.free 12 (.all (.br 13 (.lin [.tail 14]) (.stop)))) (.br 13 (.all (.br 11 (.free 12 (.lin [.tail 14])) (.stop))) (.stop)))) ?_ ?_
    ·intro hJ1_3
     refine PRT_meet (fun r' w' => ∃ (b16 : Nat), ∃ (cs17 : List Value), ∃ (b32 : Nat), Agr [(1, pp b1), (3, pp b32), (16, .slice (some ⟨b4, 0, none⟩) ([(⟨(-40), (-40), 512⟩ : S_Vec), (⟨40, (-40), 512⟩ : S_Vec), (⟨(-40), 40, 512⟩ : S_Vec)]).length 3), (17, .slice (some ⟨b16, 0, none⟩) l18.length l18.length), (18, .agg #[ii 0, ii 2, ii 1]), (20, .agg L4_7.toArray), (25, .agg (L4_9 el8).toArray)] r' ∧ Sep ok w w' [.blk b1 31 L4_1, .hole, .row (.slice (some ⟨b16, 0, none⟩) l18.length l18.length) 128 k_Ar2_Int.sz l18.length cs17, .hole, .hole, .blk b32 25 [.slice none 0 0, .slice none 0 0]] [RE.rd k_Vec (some ⟨b4, 0, none⟩) 3 ([(⟨(-40), (-40), 512⟩ : S_Vec), (⟨40, (-40), 512⟩ : S_Vec), (⟨(-40), 40, 512⟩ : S_Vec)]), RE.chunks k_Ar2_Int cs17 l18, RE.hole, RE.hole]) (.all (.br 3 (.free 10 (.all (.br 11 (.free 12 (.lin [.tail 14])) (.stop)))) (.stop))) ?_ ?_
     ·intro hJ1_13
      refine PRT_meet (fun r' w' => ∃ (b24 : Nat), ∃ (b32 : Nat), Agr [(1, pp b1), (3, pp b32), (16, .slice (some ⟨b4, 0, none⟩) ([(⟨(-40), (-40), 512⟩ : S_Vec), (⟨40, (-40), 512⟩ : S_Vec), (⟨(-40), 40, 512⟩ : S_Vec)]).length 3), (19, .slice (some ⟨b24, 0, none⟩) ([(⟨0, 2, 1⟩ : (Ar3 Int))]).length 1), (20, .agg L4_7.toArray), (25, .agg (L4_9 el8).toArray)] r' ∧ Sep ok w w' [.blk b1 31 L4_1, .hole, .hole, .row (.slice (some ⟨b24, 0, none⟩) ([(⟨0, 2, 1⟩ : (Ar3 Int))]).length 1) 28 k_Ar3_Int.sz ([(⟨0, 2, 1⟩ : (Ar3 Int))]).length [ii 0, ii 2, ii 1], .hole, .blk b32 25 [.slice none 0 0, .slice none 0 0]] [RE.rd k_Vec (some ⟨b4, 0, none⟩) 3 ([(⟨(-40), (-40), 512⟩ : S_Vec), (⟨40, (-40), 512⟩ : S_Vec), (⟨(-40), 40, 512⟩ : S_Vec)]), RE.hole, RE.chunks k_Ar3_Int [ii 0, ii 2, ii 1] ([(⟨0, 2, 1⟩ : (Ar3 Int))]), RE.hole]) (.all (.br 1 (.free 10 (.all (.br 11 (.free 12 (.lin [.tail 14])) (.stop)))) (.stop))) ?_ ?_
      ·intro hJ3_13
       refine PRT_meet (fun r' w' => ∃ (b16 : Nat), ∃ (cs17 : List Value), Agr [(1, pp b1), (16, .slice (some ⟨b4, 0, none⟩) ([(⟨(-40), (-40), 512⟩ : S_Vec), (⟨40, (-40), 512⟩ : S_Vec), (⟨(-40), 40, 512⟩ : S_Vec)]).length 3), (17, .slice (some ⟨b16, 0, none⟩) l18.length l18.length), (18, .agg #[ii 0, ii 2, ii 1]), (20, .agg L4_7.toArray), (25, .agg (L4_9 el8).toArray)] r' ∧ Sep ok w w' [.blk b1 31 L4_1, .hole, .row (.slice (some ⟨b16, 0, none⟩) l18.length l18.length) 128 k_Ar2_Int.sz l18.length cs17, .hole, .hole, .hole] [RE.rd k_Vec (some ⟨b4, 0, none⟩) 3 ([(⟨(-40), (-40), 512⟩ : S_Vec), (⟨40, (-40), 512⟩ : S_Vec), (⟨(-40), 40, 512⟩ : S_Vec)]), RE.chunks k_Ar2_Int cs17 l18, RE.hole, RE.hole]) (.all (.br 3 (.free 10 (.all (.br 11 (.free 12 (.all (.br 13 (.lin [.tail 14]) (.stop)))) (.br 13 (.all (.br 11 (.free 12 (.lin [.tail 14])) (.stop))) (.stop))))) (.br 13 (.all (.br 3 (.free 10 (.all (.br 11 (.free 12 (.lin [.tail 14])) (.stop)))) (.stop))) (.stop)))) ?_ ?_
       ·intro hJ1
        refine PRT_meet (fun r' w' => ∃ (b24 : Nat), Agr [(1, pp b1), (16, .slice (some ⟨b4, 0, none⟩) ([(⟨(-40), (-40), 512⟩ : S_Vec), (⟨40, (-40), 512⟩ : S_Vec), (⟨(-40), 40, 512⟩ : S_Vec)]).length 3), (19, .slice (some ⟨b24, 0, none⟩) ([(⟨0, 2, 1⟩ : (Ar3 Int))]).length 1), (20, .agg L4_7.toArray), (25, .agg (L4_9 el8).toArray)] r' ∧ Sep ok w w' [.blk b1 31 L4_1, .hole, .hole, .row (.slice (some ⟨b24, 0, none⟩) ([(⟨0, 2, 1⟩ : (Ar3 Int))]).length 1) 28 k_Ar3_Int.sz ([(⟨0, 2, 1⟩ : (Ar3 Int))]).length [ii 0, ii 2, ii 1], .hole, .hole] [RE.rd k_Vec (some ⟨b4, 0, none⟩) 3 ([(⟨(-40), (-40), 512⟩ : S_Vec), (⟨40, (-40), 512⟩ : S_Vec), (⟨(-40), 40, 512⟩ : S_Vec)]), RE.hole, RE.chunks k_Ar3_Int [ii 0, ii 2, ii 1] ([(⟨0, 2, 1⟩ : (Ar3 Int))]), RE.hole]) (.all (.br 1 (.free 10 (.all (.br 11 (.free 12 (.all (.br 13 (.lin [.tail 14]) (.stop)))) (.br 13 (.all (.br 11 (.free 12 (.lin [.tail 14])) (.stop))) (.stop))))) (.br 13 (.all (.br 1 (.free 10 (.all (.br 11 (.free 12 (.lin [.tail 14])) (.stop)))) (.stop))) (.stop)))) ?_ ?_
        ·intro hJ3
         refine PRT_meet (fun r' w' => ∃ (b32 : Nat), Agr [(1, pp b1), (3, pp b32), (16, .slice (some ⟨b4, 0, none⟩) ([(⟨(-40), (-40), 512⟩ : S_Vec), (⟨40, (-40), 512⟩ : S_Vec), (⟨(-40), 40, 512⟩ : S_Vec)]).length 3), (18, .agg #[ii 0, ii 2, ii 1]), (20, .agg L4_7.toArray), (25, .agg (L4_9 el8).toArray)] r' ∧ Sep ok w w' [.blk b1 31 L4_1, .hole, .hole, .hole, .hole, .blk b32 25 [.slice none 0 0, .slice none 0 0]] [RE.rd k_Vec (some ⟨b4, 0, none⟩) 3 ([(⟨(-40), (-40), 512⟩ : S_Vec), (⟨40, (-40), 512⟩ : S_Vec), (⟨(-40), 40, 512⟩ : S_Vec)]), RE.hole, RE.hole, RE.hole]) (.all (.br 1 (.all (.br 3 (.free 10 (.all (.br 11 (.free 12 (.lin [.tail 14])) (.stop)))) (.stop))) (.br 3 (.all (.br 1 (.free 10 (.all (.br 11 (.free 12 (.lin [.tail 14])) (.stop)))) (.stop))) (.stop)))) ?_ ?_
         ·intro hJ13
          have H : Sep ok w w34 [.blk b1 31 L4_1, .hole, .hole, .hole, .hole, .hole] [RE.rd k_Vec (some ⟨b4, 0, none⟩) 3 ([(⟨(-40), (-40), 512⟩ : S_Vec), (⟨40, (-40), 512⟩ : S_Vec), (⟨(-40), 40, 512⟩ : S_Vec)]), RE.hole, RE.hole, RE.hole] := (((((((H).nilHole).nilHole).nilHole).nilHole).also (re := RE.hole) trivial).also (re := RE.hole) trivial).also (re := RE.hole) trivial
          refine PRT_all ?_
          refine PB ?_ ?_
          ·show OpR _ _ _ _ _ _ _
           refine O_makeSlice (D := k_Ar2_Int) (x0 := (⟨0, 0⟩ : (Ar2 Int))) (by exact wn0 rfl) (by rfl) (by rfl) (by rfl) sl43 sz128 by128 ze128 (by rfl) (by intro w ok; exact rfl) h20 hl19 hb21 H (by rfl) (fun w15 b16 cs17 (H : Sep ok w w15 [.blk b1 31 L4_1, .hole, .hole, .hole, .hole, .hole, .row (.slice (some ⟨b16, 0, none⟩) l18.length l18.length) 128 k_Ar2_Int.sz l18.length cs17] [RE.rd k_Vec (some ⟨b4, 0, none⟩) 3 ([(⟨(-40), (-40), 512⟩ : S_Vec), (⟨40, (-40), 512⟩ : S_Vec), (⟨(-40), 40, 512⟩ : S_Vec)]), RE.hole, RE.hole, RE.hole, RE.chunks k_Ar2_Int cs17 l18]) => ⟨(Sep.takeR (Sep.takeL H 2) 1), ?_⟩)
           exact hJ1 _ _ ⟨b16, cs17, ⟨rfl, rfl, rfl, rfl, rfl, rfl, trivial⟩, ((H).pickL [0, 1, 6, 3, 4, 5] (by decide)).pick [0, 4, 2, 3]⟩
          refine PB ?_ ?_
          ·show OpR _ _ _ _ _ _ _
           refine O_buildSlice (vs := [(0, .agg #[ii 0, ii 2, ii 1])]) (cs := [ii 0, ii 2, ii 1]) (by exact wn0 rfl) (by rfl) sl44 sz28 ze28 (by rfl) (by rfl) (by rfl) (by kernel_rfl) H (fun w25 b24 (H : Sep ok w w25 [.blk b1 31 L4_1, .hole, .hole, .hole, .hole, .hole, .blk b24 28 [ii 0, ii 2, ii 1]] [RE.rd k_Vec (some ⟨b4, 0, none⟩) 3 ([(⟨(-40), (-40), 512⟩ : S_Vec), (⟨40, (-40), 512⟩ : S_Vec), (⟨(-40), 40, 512⟩ : S_Vec)]), RE.hole, RE.hole, RE.hole]) => ⟨(Sep.takeR (Sep.takeL H 2) 1), ?_⟩)
           have H : Sep ok w w25 [.blk b1 31 L4_1, .hole, .hole, .hole, .hole, .hole, .row (.slice (some ⟨b24, 0, none⟩) ([(⟨0, 2, 1⟩ : (Ar3 Int))]).length 1) 28 k_Ar3_Int.sz ([(⟨0, 2, 1⟩ : (Ar3 Int))]).length [ii 0, ii 2, ii 1]] [RE.rd k_Vec (some ⟨b4, 0, none⟩) 3 ([(⟨(-40), (-40), 512⟩ : S_Vec), (⟨40, (-40), 512⟩ : S_Vec), (⟨(-40), 40, 512⟩ : S_Vec)]), RE.hole, RE.hole, RE.hole, RE.chunks k_Ar3_Int [ii 0, ii 2, ii 1] ([(⟨0, 2, 1⟩ : (Ar3 Int))])] := H.rowOf (i := 6) (D := k_Ar3_Int) (xs := [(⟨0, 2, 1⟩ : (Ar3 Int))]) (by rfl) (by exact ⟨rfl, rfl⟩) (by rfl)
           exact hJ3 _ _ ⟨b24, ⟨rfl, rfl, rfl, rfl, rfl, trivial⟩, ((H).pickL [0, 1, 2, 6, 4, 5] (by decide)).pick [0, 1, 4, 3]⟩
          refine PB ?_ ?_
          ·show OpR _ _ _ _ _ _ _
           refine OA ze25 H (fun w33 b32 (H : Sep ok w w33 [.blk b1 31 L4_1, .hole, .hole, .hole, .hole, .hole, .blk b32 25 [.slice none 0 0, .slice none 0 0]] [RE.rd k_Vec (some ⟨b4, 0, none⟩) 3 ([(⟨(-40), (-40), 512⟩ : S_Vec), (⟨40, (-40), 512⟩ : S_Vec), (⟨(-40), 40, 512⟩ : S_Vec)]), RE.hole, RE.hole, RE.hole]) => ⟨(Sep.takeR (Sep.takeL H 2) 1), ?_⟩)
           exact hJ13 _ _ ⟨b32, ⟨rfl, rfl, rfl, rfl, rfl, rfl, trivial⟩, (H).pickL [0, 1, 2, 3, 4, 6] (by decide)⟩
          exact PRT_stop
         show ∀ r w, _ → _
         rintro r' w' ⟨b32, hA, H⟩
         obtain ⟨r84, rfl⟩ := regen _ hA; clear hA
         obtain ⟨w85, rfl⟩ := wld w'
         refine PRT_all ?_
         refine PB ?_ ?_
         ·show OpR _ _ _ _ _ _ _
          refine O_makeSlice (D := k_Ar2_Int) (x0 := (⟨0, 0⟩ : (Ar2 Int))) (by exact wn0 rfl) (by rfl) (by rfl) (by rfl) sl43 sz128 by128 ze128 (by rfl) (by intro w ok; exact rfl) h20 hl19 hb21 H (by rfl) (fun w15 b16 cs17 (H : Sep ok w w15 [.blk b1 31 L4_1, .hole, .hole, .hole, .hole, .blk b32 25 [.slice none 0 0, .slice none 0 0], .row (.slice (some ⟨b16, 0, none⟩) l18.length l18.length) 128 k_Ar2_Int.sz l18.length cs17] [RE.rd k_Vec (some ⟨b4, 0, none⟩) 3 ([(⟨(-40), (-40), 512⟩ : S_Vec), (⟨40, (-40), 512⟩ : S_Vec), (⟨(-40), 40, 512⟩ : S_Vec)]), RE.hole, RE.hole, RE.hole, RE.chunks k_Ar2_Int cs17 l18]) => ⟨(Sep.takeR (Sep.takeL H 2) 1), ?_⟩)
          exact hJ1_13 _ _ ⟨b16, cs17, b32, ⟨rfl, rfl, rfl, rfl, rfl, rfl, rfl, trivial⟩, ((H).pickL [0, 1, 6, 3, 4, 5] (by decide)).pick [0, 4, 2, 3]⟩
         refine PB ?_ ?_
         ·show OpR _ _ _ _ _ _ _
          refine O_buildSlice (vs := [(0, .agg #[ii 0, ii 2, ii 1])]) (cs := [ii 0, ii 2, ii 1]) (by exact wn0 rfl) (by rfl) sl44 sz28 ze28 (by rfl) (by rfl) (by rfl) (by kernel_rfl) H (fun w25 b24 (H : Sep ok w w25 [.blk b1 31 L4_1, .hole, .hole, .hole, .hole, .blk b32 25 [.slice none 0 0, .slice none 0 0], .blk b24 28 [ii 0, ii 2, ii 1]] [RE.rd k_Vec (some ⟨b4, 0, none⟩) 3 ([(⟨(-40), (-40), 512⟩ : S_Vec), (⟨40, (-40), 512⟩ : S_Vec), (⟨(-40), 40, 512⟩ : S_Vec)]), RE.hole, RE.hole, RE.hole]) => ⟨(Sep.takeR (Sep.takeL H 2) 1), ?_⟩)
          have H : Sep ok w w25 [.blk b1 31 L4_1, .hole, .hole, .hole, .hole, .blk b32 25 [.slice none 0 0, .slice none 0 0], .row (.slice (some ⟨b24, 0, none⟩) ([(⟨0, 2, 1⟩ : (Ar3 Int))]).length 1) 28 k_Ar3_Int.sz ([(⟨0, 2, 1⟩ : (Ar3 Int))]).length [ii 0, ii 2, ii 1]] [RE.rd k_Vec (some ⟨b4, 0, none⟩) 3 ([(⟨(-40), (-40), 512⟩ : S_Vec), (⟨40, (-40), 512⟩ : S_Vec), (⟨(-40), 40, 512⟩ : S_Vec)]), RE.hole, RE.hole, RE.hole, RE.chunks k_Ar3_Int [ii 0, ii 2, ii 1] ([(⟨0, 2, 1⟩ : (Ar3 Int))])] := H.rowOf (i := 6) (D := k_Ar3_Int) (xs := [(⟨0, 2, 1⟩ : (Ar3 Int))]) (by rfl) (by exact ⟨rfl, rfl⟩) (by rfl)
          exact hJ3_13 _ _ ⟨b24, b32, ⟨rfl, rfl, rfl, rfl, rfl, rfl, trivial⟩, ((H).pickL [0, 1, 2, 6, 4, 5] (by decide)).pick [0, 1, 4, 3]⟩
         exact PRT_stop
        show ∀ r w, _ → _
        rintro r' w' ⟨b24, hA, H⟩
        obtain ⟨r86, rfl⟩ := regen _ hA; clear hA
        obtain ⟨w87, rfl⟩ := wld w'
        refine PRT_all ?_
        refine PB ?_ ?_
        ·show OpR _ _ _ _ _ _ _
         refine O_makeSlice (D := k_Ar2_Int) (x0 := (⟨0, 0⟩ : (Ar2 Int))) (by exact wn0 rfl) (by rfl) (by rfl) (by rfl) sl43 sz128 by128 ze128 (by rfl) (by intro w ok; exact rfl) h20 hl19 hb21 H (by rfl) (fun w15 b16 cs17 (H : Sep ok w w15 [.blk b1 31 L4_1, .hole, .hole, .row (.slice (some ⟨b24, 0, none⟩) ([(⟨0, 2, 1⟩ : (Ar3 Int))]).length 1) 28 k_Ar3_Int.sz ([(⟨0, 2, 1⟩ : (Ar3 Int))]).length [ii 0, ii 2, ii 1], .hole, .hole, .row (.slice (some ⟨b16, 0, none⟩) l18.length l18.length) 128 k_Ar2_Int.sz l18.length cs17] [RE.rd k_Vec (some ⟨b4, 0, none⟩) 3 ([(⟨(-40), (-40), 512⟩ : S_Vec), (⟨40, (-40), 512⟩ : S_Vec), (⟨(-40), 40, 512⟩ : S_Vec)]), RE.hole, RE.chunks k_Ar3_Int [ii 0, ii 2, ii 1] ([(⟨0, 2, 1⟩ : (Ar3 Int))]), RE.hole, RE.chunks k_Ar2_Int cs17 l18]) => ⟨(Sep.takeR (Sep.takeL H 2) 1), ?_⟩)
         refine TF (a := x_build (vs := [(0, .slice (some ⟨b4, 0, none⟩) ([(⟨(-40), (-40), 512⟩ : S_Vec), (⟨40, (-40), 512⟩ : S_Vec), (⟨(-40), 40, 512⟩ : S_Vec)]).length 3), (1, .slice (some ⟨b16, 0, none⟩) l18.length l18.length), (2, .slice (some ⟨b24, 0, none⟩) ([(⟨0, 2, 1⟩ : (Ar3 Int))]).length 1), (3, .agg L4_7.toArray), (4, .agg (L4_9 el8).toArray)]) (cs := [.slice (some ⟨b4, 0, none⟩) ([(⟨(-40), (-40), 512⟩ : S_Vec), (⟨40, (-40), 512⟩ : S_Vec), (⟨(-40), 40, 512⟩ : S_Vec)]).length 3, .slice (some ⟨b16, 0, none⟩) l18.length l18.length, .slice (some ⟨b24, 0, none⟩) ([(⟨0, 2, 1⟩ : (Ar3 Int))]).length 1, .int .u8 0, .int .u8 0, .int .u8 0, .int .u8 0, ii (-1), .int .u8 0, ii 0, .bool false, ii 0, ii el8.X, ii el8.Y, ii el8.Z, ii 40, ii 40, ii 512]) (by rfl) (by kernel_rfl)) (b := ?_)
         exact hJ1_3 _ _ ⟨b16, cs17, b24, ⟨rfl, rfl, trivial⟩, ((H).pickL [0, 1, 6, 3, 4, 5] (by decide)).pick [0, 4, 2, 3]⟩
        refine PB ?_ ?_
        ·show OpR _ _ _ _ _ _ _
         refine OA ze25 H (fun w33 b32 (H : Sep ok w w33 [.blk b1 31 L4_1, .hole, .hole, .row (.slice (some ⟨b24, 0, none⟩) ([(⟨0, 2, 1⟩ : (Ar3 Int))]).length 1) 28 k_Ar3_Int.sz ([(⟨0, 2, 1⟩ : (Ar3 Int))]).length [ii 0, ii 2, ii 1], .hole, .hole, .blk b32 25 [.slice none 0 0, .slice none 0 0]] [RE.rd k_Vec (some ⟨b4, 0, none⟩) 3 ([(⟨(-40), (-40), 512⟩ : S_Vec), (⟨40, (-40), 512⟩ : S_Vec), (⟨(-40), 40, 512⟩ : S_Vec)]), RE.hole, RE.chunks k_Ar3_Int [ii 0, ii 2, ii 1] ([(⟨0, 2, 1⟩ : (Ar3 Int))]), RE.hole]) => ⟨(Sep.takeR (Sep.takeL H 2) 1), ?_⟩)
         exact hJ3_13 _ _ ⟨b24, b32, ⟨rfl, rfl, rfl, rfl, rfl, rfl, trivial⟩, (H).pickL [0, 1, 2, 3, 4, 6] (by decide)⟩
        exact PRT_stop
       show ∀ r w, _ → _
       rintro r' w' ⟨b16, cs17, hA, H⟩
       obtain ⟨r88, rfl⟩ := regen _ hA; clear hA
       obtain ⟨w89, rfl⟩ := wld w'
       refine PRT_all ?_
       refine PB ?_ ?_
       ·show OpR _ _ _ _ _ _ _
        refine O_buildSlice (vs := [(0, .agg #[ii 0, ii 2, ii 1])]) (cs := [ii 0, ii 2, ii 1]) (by exact wn0 rfl) (by rfl) sl44 sz28 ze28 (by rfl) (by rfl) (by rfl) (by kernel_rfl) H (fun w25 b24 (H : Sep ok w w25 [.blk b1 31 L4_1, .hole, .row (.slice (some ⟨b16, 0, none⟩) l18.length l18.length) 128 k_Ar2_Int.sz l18.length cs17, .hole, .hole, .hole, .blk b24 28 [ii 0, ii 2, ii 1]] [RE.rd k_Vec (some ⟨b4, 0, none⟩) 3 ([(⟨(-40), (-40), 512⟩ : S_Vec), (⟨40, (-40), 512⟩ : S_Vec), (⟨(-40), 40, 512⟩ : S_Vec)]), RE.chunks k_Ar2_Int cs17 l18, RE.hole, RE.hole]) => ⟨(Sep.takeR (Sep.takeL H 2) 1), ?_⟩)
        have H : Sep ok w w25 [.blk b1 31 L4_1, .hole, .row (.slice (some ⟨b16, 0, none⟩) l18.length l18.length) 128 k_Ar2_Int.sz l18.length cs17, .hole, .hole, .hole, .row (.slice (some ⟨b24, 0, none⟩) ([(⟨0, 2, 1⟩ : (Ar3 Int))]).length 1) 28 k_Ar3_Int.sz ([(⟨0, 2, 1⟩ : (Ar3 Int))]).length [ii 0, ii 2, ii 1]] [RE.rd k_Vec (some ⟨b4, 0, none⟩) 3 ([(⟨(-40), (-40), 512⟩ : S_Vec), (⟨40, (-40), 512⟩ : S_Vec), (⟨(-40), 40, 512⟩ : S_Vec)]), RE.chunks k_Ar2_Int cs17 l18, RE.hole, RE.hole, RE.chunks k_Ar3_Int [ii 0, ii 2, ii 1] ([(⟨0, 2, 1⟩ : (Ar3 Int))])] := H.rowOf (i := 6) (D := k_Ar3_Int) (xs := [(⟨0, 2, 1⟩ : (Ar3 Int))]) (by rfl) (by exact ⟨rfl, rfl⟩) (by rfl)
        refine TF (a := x_build (vs := [(0, .slice (some ⟨b4, 0, none⟩) ([(⟨(-40), (-40), 512⟩ : S_Vec), (⟨40, (-40), 512⟩ : S_Vec), (⟨(-40), 40, 512⟩ : S_Vec)]).length 3), (1, .slice (some ⟨b16, 0, none⟩) l18.length l18.length), (2, .slice (some ⟨b24, 0, none⟩) ([(⟨0, 2, 1⟩ : (Ar3 Int))]).length 1), (3, .agg L4_7.toArray), (4, .agg (L4_9 el8).toArray)]) (cs := [.slice (some ⟨b4, 0, none⟩) ([(⟨(-40), (-40), 512⟩ : S_Vec), (⟨40, (-40), 512⟩ : S_Vec), (⟨(-40), 40, 512⟩ : S_Vec)]).length 3, .slice (some ⟨b16, 0, none⟩) l18.length l18.length, .slice (some ⟨b24, 0, none⟩) ([(⟨0, 2, 1⟩ : (Ar3 Int))]).length 1, .int .u8 0, .int .u8 0, .int .u8 0, .int .u8 0, ii (-1), .int .u8 0, ii 0, .bool false, ii 0, ii el8.X, ii el8.Y, ii el8.Z, ii 40, ii 40, ii 512]) (by rfl) (by kernel_rfl)) (b := ?_)
        exact hJ1_3 _ _ ⟨b16, cs17, b24, ⟨rfl, rfl, trivial⟩, ((H).pickL [0, 1, 2, 6, 4, 5] (by decide)).pick [0, 1, 4, 3]⟩
       refine PB ?_ ?_
       ·show OpR _ _ _ _ _ _ _
        refine OA ze25 H (fun w33 b32 (H : Sep ok w w33 [.blk b1 31 L4_1, .hole, .row (.slice (some ⟨b16, 0, none⟩) l18.length l18.length) 128 k_Ar2_Int.sz l18.length cs17, .hole, .hole, .hole, .blk b32 25 [.slice none 0 0, .slice none 0 0]] [RE.rd k_Vec (some ⟨b4, 0, none⟩) 3 ([(⟨(-40), (-40), 512⟩ : S_Vec), (⟨40, (-40), 512⟩ : S_Vec), (⟨(-40), 40, 512⟩ : S_Vec)]), RE.chunks k_Ar2_Int cs17 l18, RE.hole, RE.hole]) => ⟨(Sep.takeR (Sep.takeL H 2) 1), ?_⟩)
        exact hJ1_13 _ _ ⟨b16, cs17, b32, ⟨rfl, rfl, rfl, rfl, rfl, rfl, rfl, trivial⟩, (H).pickL [0, 1, 2, 3, 4, 6] (by decide)⟩
       exact PRT_stop
      show ∀ r w, _ → _
      rintro r' w' ⟨b24, b32, hA, H⟩
      obtain ⟨r90, rfl⟩ := regen _ hA; clear hA
      obtain ⟨w91, rfl⟩ := wld w'
      refine PRT_all ?_
      refine PB ?_ ?_
      ·show OpR _ _ _ _ _ _ _
       refine O_makeSlice (D := k_Ar2_Int) (x0 := (⟨0, 0⟩ : (Ar2 Int))) (by exact wn0 rfl) (by rfl) (by rfl) (by rfl) sl43 sz128 by128 ze128 (by rfl) (by intro w ok; exact rfl) h20 hl19 hb21 H (by rfl) (fun w15 b16 cs17 (H : Sep ok w w15 [.blk b1 31 L4_1, .hole, .hole, .row (.slice (some ⟨b24, 0, none⟩) ([(⟨0, 2, 1⟩ : (Ar3 Int))]).length 1) 28 k_Ar3_Int.sz ([(⟨0, 2, 1⟩ : (Ar3 Int))]).length [ii 0, ii 2, ii 1], .hole, .blk b32 25 [.slice none 0 0, .slice none 0 0], .row (.slice (some ⟨b16, 0, none⟩) l18.length l18.length) 128 k_Ar2_Int.sz l18.length cs17] [RE.rd k_Vec (some ⟨b4, 0, none⟩) 3 ([(⟨(-40), (-40), 512⟩ : S_Vec), (⟨40, (-40), 512⟩ : S_Vec), (⟨(-40), 40, 512⟩ : S_Vec)]), RE.hole, RE.chunks k_Ar3_Int [ii 0, ii 2, ii 1] ([(⟨0, 2, 1⟩ : (Ar3 Int))]), RE.hole, RE.chunks k_Ar2_Int cs17 l18]) => ⟨(Sep.takeR (Sep.takeL H 2) 1), ?_⟩)
       refine TF (a := x_build (vs := [(0, .slice (some ⟨b4, 0, none⟩) ([(⟨(-40), (-40), 512⟩ : S_Vec), (⟨40, (-40), 512⟩ : S_Vec), (⟨(-40), 40, 512⟩ : S_Vec)]).length 3), (1, .slice (some ⟨b16, 0, none⟩) l18.length l18.length), (2, .slice (some ⟨b24, 0, none⟩) ([(⟨0, 2, 1⟩ : (Ar3 Int))]).length 1), (3, .agg L4_7.toArray), (4, .agg (L4_9 el8).toArray)]) (cs := [.slice (some ⟨b4, 0, none⟩) ([(⟨(-40), (-40), 512⟩ : S_Vec), (⟨40, (-40), 512⟩ : S_Vec), (⟨(-40), 40, 512⟩ : S_Vec)]).length 3, .slice (some ⟨b16, 0, none⟩) l18.length l18.length, .slice (some ⟨b24, 0, none⟩) ([(⟨0, 2, 1⟩ : (Ar3 Int))]).length 1, .int .u8 0, .int .u8 0, .int .u8 0, .int .u8 0, ii (-1), .int .u8 0, ii 0, .bool false, ii 0, ii el8.X, ii el8.Y, ii el8.Z, ii 40, ii 40, ii 512]) (by rfl) (by kernel_rfl)) (b := ?_)
       exact hJ1_3_13 _ _ ⟨b16, cs17, b24, b32, ⟨rfl, rfl, rfl, trivial⟩, ((H).pickL [0, 1, 6, 3, 4, 5] (by decide)).pick [0, 4, 2, 3]⟩
      exact PRT_stop
     show ∀ r w, _ → _
     rintro r' w' ⟨b16, cs17, b32, hA, H⟩
     obtain ⟨r92, rfl⟩ := regen _ hA; clear hA
     obtain ⟨w93, rfl⟩ := wld w'
     refine PRT_all ?_
     refine PB ?_ ?_
     ·show OpR _ _ _ _ _ _ _
      refine O_buildSlice (vs := [(0, .agg #[ii 0, ii 2, ii 1])]) (cs := [ii 0, ii 2, ii 1]) (by exact wn0 rfl) (by rfl) sl44 sz28 ze28 (by rfl) (by rfl) (by rfl) (by kernel_rfl) H (fun w25 b24 (H : Sep ok w w25 [.blk b1 31 L4_1, .hole, .row (.slice (some ⟨b16, 0, none⟩) l18.length l18.length) 128 k_Ar2_Int.sz l18.length cs17, .hole, .hole, .blk b32 25 [.slice none 0 0, .slice none 0 0], .blk b24 28 [ii 0, ii 2, ii 1]] [RE.rd k_Vec (some ⟨b4, 0, none⟩) 3 ([(⟨(-40), (-40), 512⟩ : S_Vec), (⟨40, (-40), 512⟩ : S_Vec), (⟨(-40), 40, 512⟩ : S_Vec)]), RE.chunks k_Ar2_Int cs17 l18, RE.hole, RE.hole]) => ⟨(Sep.takeR (Sep.takeL H 2) 1), ?_⟩)
      have H : Sep ok w w25 [.blk b1 31 L4_1, .hole, .row (.slice (some ⟨b16, 0, none⟩) l18.length l18.length) 128 k_Ar2_Int.sz l18.length cs17, .hole, .hole, .blk b32 25 [.slice none 0 0, .slice none 0 0], .row (.slice (some ⟨b24, 0, none⟩) ([(⟨0, 2, 1⟩ : (Ar3 Int))]).length 1) 28 k_Ar3_Int.sz ([(⟨0, 2, 1⟩ : (Ar3 Int))]).length [ii 0, ii 2, ii 1]] [RE.rd k_Vec (some ⟨b4, 0, none⟩) 3 ([(⟨(-40), (-40), 512⟩ : S_Vec), (⟨40, (-40), 512⟩ : S_Vec), (⟨(-40), 40, 512⟩ : S_Vec)]), RE.chunks k_Ar2_Int cs17 l18, RE.hole, RE.hole, RE.chunks k_Ar3_Int [ii 0, ii 2, ii 1] ([(⟨0, 2, 1⟩ : (Ar3 Int))])] := H.rowOf (i := 6) (D := k_Ar3_Int) (xs := [(⟨0, 2, 1⟩ : (Ar3 Int))]) (by rfl) (by exact ⟨rfl, rfl⟩) (by rfl)
      refine TF (a := x_build (vs := [(0, .slice (some ⟨b4, 0, none⟩) ([(⟨(-40), (-40), 512⟩ : S_Vec), (⟨40, (-40), 512⟩ : S_Vec), (⟨(-40), 40, 512⟩ : S_Vec)]).length 3), (1, .slice (some ⟨b16, 0, none⟩) l18.length l18.length), (2, .slice (some ⟨b24, 0, none⟩) ([(⟨0, 2, 1⟩ : (Ar3 Int))]).length 1), (3, .agg L4_7.toArray), (4, .agg (L4_9 el8).toArray)]) (cs := [.slice (some ⟨b4, 0, none⟩) ([(⟨(-40), (-40), 512⟩ : S_Vec), (⟨40, (-40), 512⟩ : S_Vec), (⟨(-40), 40, 512⟩ : S_Vec)]).length 3, .slice (some ⟨b16, 0, none⟩) l18.length l18.length, .slice (some ⟨b24, 0, none⟩) ([(⟨0, 2, 1⟩ : (Ar3 Int))]).length 1, .int .u8 0, .int .u8 0, .int .u8 0, .int .u8 0, ii (-1), .int .u8 0, ii 0, .bool false, ii 0, ii el8.X, ii el8.Y, ii el8.Z, ii 40, ii 40, ii 512]) (by rfl) (by kernel_rfl)) (b := ?_)
      exact hJ1_3_13 _ _ ⟨b16, cs17, b24, b32, ⟨rfl, rfl, rfl, trivial⟩, ((H).pickL [0, 1, 2, 6, 4, 5] (by decide)).pick [0, 1, 4, 3]⟩
     exact PRT_stop
    show ∀ r w, _ → _
    rintro r' w' ⟨b16, cs17, b24, hA, H⟩
    obtain ⟨r94, rfl⟩ := regen _ hA; clear hA
    obtain ⟨w95, rfl⟩ := wld w'
    refine PRT_all ?_
    refine PB ?_ ?_
    ·show OpR _ _ _ _ _ _ _
     refine O_buildSlice (vs := [(0, .agg #[.slice (some ⟨b4, 0, none⟩) ([(⟨(-40), (-40), 512⟩ : S_Vec), (⟨40, (-40), 512⟩ : S_Vec), (⟨(-40), 40, 512⟩ : S_Vec)]).length 3, .slice (some ⟨b16, 0, none⟩) l18.length l18.length, .slice (some ⟨b24, 0, none⟩) ([(⟨0, 2, 1⟩ : (Ar3 Int))]).length 1, .int .u8 0, .int .u8 0, .int .u8 0, .int .u8 0, ii (-1), .int .u8 0, ii 0, .bool false, ii 0, ii el8.X, ii el8.Y, ii el8.Z, ii 40, ii 40, ii 512])]) (cs := [.slice (some ⟨b4, 0, none⟩) ([(⟨(-40), (-40), 512⟩ : S_Vec), (⟨40, (-40), 512⟩ : S_Vec), (⟨(-40), 40, 512⟩ : S_Vec)]).length 3, .slice (some ⟨b16, 0, none⟩) l18.length l18.length, .slice (some ⟨b24, 0, none⟩) ([(⟨0, 2, 1⟩ : (Ar3 Int))]).length 1, .int .u8 0, .int .u8 0, .int .u8 0, .int .u8 0, ii (-1), .int .u8 0, ii 0, .bool false, ii 0, ii el8.X, ii el8.Y, ii el8.Z, ii 40, ii 40, ii 512]) (by exact wn0 rfl) (by rfl) sl22 sz52 ze52 (by rfl) (by rfl) (by rfl) (by kernel_rfl) H (fun w29 b28 (H : Sep ok w w29 [.blk b1 31 L4_1, .hole, .row (.slice (some ⟨b16, 0, none⟩) l18.length l18.length) 128 k_Ar2_Int.sz l18.length cs17, .row (.slice (some ⟨b24, 0, none⟩) ([(⟨0, 2, 1⟩ : (Ar3 Int))]).length 1) 28 k_Ar3_Int.sz ([(⟨0, 2, 1⟩ : (Ar3 Int))]).length [ii 0, ii 2, ii 1], .hole, .hole, .blk b28 52 [.slice (some ⟨b4, 0, none⟩) ([(⟨(-40), (-40), 512⟩ : S_Vec), (⟨40, (-40), 512⟩ : S_Vec), (⟨(-40), 40, 512⟩ : S_Vec)]).length 3, .slice (some ⟨b16, 0, none⟩) l18.length l18.length, .slice (some ⟨b24, 0, none⟩) ([(⟨0, 2, 1⟩ : (Ar3 Int))]).length 1, .int .u8 0, .int .u8 0, .int .u8 0, .int .u8 0, ii (-1), .int .u8 0, ii 0, .bool false, ii 0, ii el8.X, ii el8.Y, ii el8.Z, ii 40, ii 40, ii 512]] [RE.rd k_Vec (some ⟨b4, 0, none⟩) 3 ([(⟨(-40), (-40), 512⟩ : S_Vec), (⟨40, (-40), 512⟩ : S_Vec), (⟨(-40), 40, 512⟩ : S_Vec)]), RE.chunks k_Ar2_Int cs17 l18, RE.chunks k_Ar3_Int [ii 0, ii 2, ii 1] ([(⟨0, 2, 1⟩ : (Ar3 Int))]), RE.hole]) => ⟨(Sep.takeR (Sep.takeL H 2) 1), ?_⟩)
     have H : Sep ok w w29 [.blk b1 31 L4_1, .hole, .hole, .row (.slice (some ⟨b24, 0, none⟩) ([(⟨0, 2, 1⟩ : (Ar3 Int))]).length 1) 28 k_Ar3_Int.sz ([(⟨0, 2, 1⟩ : (Ar3 Int))]).length [ii 0, ii 2, ii 1], .hole, .hole, .blk b28 52 [.slice (some ⟨b4, 0, none⟩) ([(⟨(-40), (-40), 512⟩ : S_Vec), (⟨40, (-40), 512⟩ : S_Vec), (⟨(-40), 40, 512⟩ : S_Vec)]).length 3, .slice (some ⟨b16, 0, none⟩) l18.length l18.length, .slice (some ⟨b24, 0, none⟩) ([(⟨0, 2, 1⟩ : (Ar3 Int))]).length 1, .int .u8 0, .int .u8 0, .int .u8 0, .int .u8 0, ii (-1), .int .u8 0, ii 0, .bool false, ii 0, ii el8.X, ii el8.Y, ii el8.Z, ii 40, ii 40, ii 512]] [RE.rd k_Vec (some ⟨b4, 0, none⟩) 3 ([(⟨(-40), (-40), 512⟩ : S_Vec), (⟨40, (-40), 512⟩ : S_Vec), (⟨(-40), 40, 512⟩ : S_Vec)]), RE.rd k_Ar2_Int (some ⟨b16, 0, none⟩) l18.length l18, RE.chunks k_Ar3_Int [ii 0, ii 2, ii 1] ([(⟨0, 2, 1⟩ : (Ar3 Int))]), RE.hole] := H.frozen (i := 2) (j := 1) (by rfl) (by rfl)
     have H : Sep ok w w29 [.blk b1 31 L4_1, .hole, .hole, .hole, .hole, .hole, .blk b28 52 [.slice (some ⟨b4, 0, none⟩) ([(⟨(-40), (-40), 512⟩ : S_Vec), (⟨40, (-40), 512⟩ : S_Vec), (⟨(-40), 40, 512⟩ : S_Vec)]).length 3, .slice (some ⟨b16, 0, none⟩) l18.length l18.length, .slice (some ⟨b24, 0, none⟩) ([(⟨0, 2, 1⟩ : (Ar3 Int))]).length 1, .int .u8 0, .int .u8 0, .int .u8 0, .int .u8 0, ii (-1), .int .u8 0, ii 0, .bool false, ii 0, ii el8.X, ii el8.Y, ii el8.Z, ii 40, ii 40, ii 512]] [RE.rd k_Vec (some ⟨b4, 0, none⟩) 3 ([(⟨(-40), (-40), 512⟩ : S_Vec), (⟨40, (-40), 512⟩ : S_Vec), (⟨(-40), 40, 512⟩ : S_Vec)]), RE.rd k_Ar2_Int (some ⟨b16, 0, none⟩) l18.length l18, RE.rd k_Ar3_Int (some ⟨b24, 0, none⟩) 1 ([(⟨0, 2, 1⟩ : (Ar3 Int))]), RE.hole] := H.frozen (i := 3) (j := 2) (by rfl) (by rfl)
     have H : Sep ok w w29 [.blk b1 31 L4_1, .hole, .hole, .hole, .hole, .hole, .row (.slice (some ⟨b28, 0, none⟩) ([(⟨[(⟨(-40), (-40), 512⟩ : S_Vec), (⟨40, (-40), 512⟩ : S_Vec), (⟨(-40), 40, 512⟩ : S_Vec)], l18, [(⟨0, 2, 1⟩ : (Ar3 Int))], (⟨(⟨0, 0, 0, 0⟩ : (Ar4 Int)), (-1), 0, 0, false, 0⟩ : S_Look), (⟨el8, (⟨40, 40, 512⟩ : S_Vec)⟩ : S_Box)⟩ : S_Item)]).length 1) 52 k_Item.sz ([(⟨[(⟨(-40), (-40), 512⟩ : S_Vec), (⟨40, (-40), 512⟩ : S_Vec), (⟨(-40), 40, 512⟩ : S_Vec)], l18, [(⟨0, 2, 1⟩ : (Ar3 Int))], (⟨(⟨0, 0, 0, 0⟩ : (Ar4 Int)), (-1), 0, 0, false, 0⟩ : S_Look), (⟨el8, (⟨40, 40, 512⟩ : S_Vec)⟩ : S_Box)⟩ : S_Item)]).length [.slice (some ⟨b4, 0, none⟩) ([(⟨(-40), (-40), 512⟩ : S_Vec), (⟨40, (-40), 512⟩ : S_Vec), (⟨(-40), 40, 512⟩ : S_Vec)]).length 3, .slice (some ⟨b16, 0, none⟩) l18.length l18.length, .slice (some ⟨b24, 0, none⟩) ([(⟨0, 2, 1⟩ : (Ar3 Int))]).length 1, .int .u8 0, .int .u8 0, .int .u8 0, .int .u8 0, ii (-1), .int .u8 0, ii 0, .bool false, ii 0, ii el8.X, ii el8.Y, ii el8.Z, ii 40, ii 40, ii 512]] [RE.rd k_Vec (some ⟨b4, 0, none⟩) 3 ([(⟨(-40), (-40), 512⟩ : S_Vec), (⟨40, (-40), 512⟩ : S_Vec), (⟨(-40), 40, 512⟩ : S_Vec)]), RE.rd k_Ar2_Int (some ⟨b16, 0, none⟩) l18.length l18, RE.rd k_Ar3_Int (some ⟨b24, 0, none⟩) 1 ([(⟨0, 2, 1⟩ : (Ar3 Int))]), RE.hole, RE.chunks k_Item [.slice (some ⟨b4, 0, none⟩) ([(⟨(-40), (-40), 512⟩ : S_Vec), (⟨40, (-40), 512⟩ : S_Vec), (⟨(-40), 40, 512⟩ : S_Vec)]).length 3, .slice (some ⟨b16, 0, none⟩) l18.length l18.length, .slice (some ⟨b24, 0, none⟩) ([(⟨0, 2, 1⟩ : (Ar3 Int))]).length 1, .int .u8 0, .int .u8 0, .int .u8 0, .int .u8 0, ii (-1), .int .u8 0, ii 0, .bool false, ii 0, ii el8.X, ii el8.Y, ii el8.Z, ii 40, ii 40, ii 512] ([(⟨[(⟨(-40), (-40), 512⟩ : S_Vec), (⟨40, (-40), 512⟩ : S_Vec), (⟨(-40), 40, 512⟩ : S_Vec)], l18, [(⟨0, 2, 1⟩ : (Ar3 Int))], (⟨(⟨0, 0, 0, 0⟩ : (Ar4 Int)), (-1), 0, 0, false, 0⟩ : S_Look), (⟨el8, (⟨40, 40, 512⟩ : S_Vec)⟩ : S_Box)⟩ : S_Item)])] := H.rowOf (i := 6) (D := k_Item) (xs := [(⟨[(⟨(-40), (-40), 512⟩ : S_Vec), (⟨40, (-40), 512⟩ : S_Vec), (⟨(-40), 40, 512⟩ : S_Vec)], l18, [(⟨0, 2, 1⟩ : (Ar3 Int))], (⟨(⟨0, 0, 0, 0⟩ : (Ar4 Int)), (-1), 0, 0, false, 0⟩ : S_Look), (⟨el8, (⟨40, 40, 512⟩ : S_Vec)⟩ : S_Box)⟩ : S_Item)]) (by rfl) (by exact ⟨(by exact ⟨(some ⟨b4, 0, none⟩), 3, (some ⟨b16, 0, none⟩), l18.length, (some ⟨b24, 0, none⟩), 1, rfl, H.rd (i := 0) (by rfl), H.rd (i := 1) (by rfl), H.rd (i := 2) (by rfl)⟩), rfl⟩) (by rfl)
     refine TF (a := x_build (vs := [(0, .slice (some ⟨b28, 0, none⟩) ([(⟨[(⟨(-40), (-40), 512⟩ : S_Vec), (⟨40, (-40), 512⟩ : S_Vec), (⟨(-40), 40, 512⟩ : S_Vec)], l18, [(⟨0, 2, 1⟩ : (Ar3 Int))], (⟨(⟨0, 0, 0, 0⟩ : (Ar4 Int)), (-1), 0, 0, false, 0⟩ : S_Look), (⟨el8, (⟨40, 40, 512⟩ : S_Vec)⟩ : S_Box)⟩ : S_Item)]).length 1)]) (cs := [.slice (some ⟨b28, 0, none⟩) ([(⟨[(⟨(-40), (-40), 512⟩ : S_Vec), (⟨40, (-40), 512⟩ : S_Vec), (⟨(-40), 40, 512⟩ : S_Vec)], l18, [(⟨0, 2, 1⟩ : (Ar3 Int))], (⟨(⟨0, 0, 0, 0⟩ : (Ar4 Int)), (-1), 0, 0, false, 0⟩ : S_Look), (⟨el8, (⟨40, 40, 512⟩ : S_Vec)⟩ : S_Box)⟩ : S_Item)]).length 1, .slice none 0 0]) (by rfl) (by kernel_rfl)) (b := ?_)
     exact hJ1_3_11 _ _ ⟨b28, b16, b24, ⟨rfl, rfl, trivial⟩, ((H).pickL [0, 1, 2, 3, 6, 5] (by decide)).pick [0, 1, 2, 4]⟩
    refine PB ?_ ?_
    ·show OpR _ _ _ _ _ _ _
     refine OA ze25 H (fun w33 b32 (H : Sep ok w w33 [.blk b1 31 L4_1, .hole, .row (.slice (some ⟨b16, 0, none⟩) l18.length l18.length) 128 k_Ar2_Int.sz l18.length cs17, .row (.slice (some ⟨b24, 0, none⟩) ([(⟨0, 2, 1⟩ : (Ar3 Int))]).length 1) 28 k_Ar3_Int.sz ([(⟨0, 2, 1⟩ : (Ar3 Int))]).length [ii 0, ii 2, ii 1], .hole, .hole, .blk b32 25 [.slice none 0 0, .slice none 0 0]] [RE.rd k_Vec (some ⟨b4, 0, none⟩) 3 ([(⟨(-40), (-40), 512⟩ : S_Vec), (⟨40, (-40), 512⟩ : S_Vec), (⟨(-40), 40, 512⟩ : S_Vec)]), RE.chunks k_Ar2_Int cs17 l18, RE.chunks k_Ar3_Int [ii 0, ii 2, ii 1] ([(⟨0, 2, 1⟩ : (Ar3 Int))]), RE.hole]) => ⟨(Sep.takeR (Sep.takeL H 2) 1), ?_⟩)
     exact hJ1_3_13 _ _ ⟨b16, cs17, b24, b32, ⟨rfl, rfl, rfl, trivial⟩, (H).pickL [0, 1, 2, 3, 4, 6] (by decide)⟩
    exact PRT_stop
   show ∀ r w, _ → _
   rintro r' w' ⟨b16, cs17, b24, b32, hA, H⟩
   obtain ⟨r96, rfl⟩ := regen _ hA; clear hA
   obtain ⟨w97, rfl⟩ := wld w'
   refine PRT_all ?_
   refine PB ?_ ?_
   ·show OpR _ _ _ _ _ _ _
    refine O_buildSlice (vs := [(0, .agg #[.slice (some ⟨b4, 0, none⟩) ([(⟨(-40), (-40), 512⟩ : S_Vec), (⟨40, (-40), 512⟩ : S_Vec), (⟨(-40), 40, 512⟩ : S_Vec)]).length 3, .slice (some ⟨b16, 0, none⟩) l18.length l18.length, .slice (some ⟨b24, 0, none⟩) ([(⟨0, 2, 1⟩ : (Ar3 Int))]).length 1, .int .u8 0, .int .u8 0, .int .u8 0, .int .u8 0, ii (-1), .int .u8 0, ii 0, .bool false, ii 0, ii el8.X, ii el8.Y, ii el8.Z, ii 40, ii 40, ii 512])]) (cs := [.slice (some ⟨b4, 0, none⟩) ([(⟨(-40), (-40), 512⟩ : S_Vec), (⟨40, (-40), 512⟩ : S_Vec), (⟨(-40), 40, 512⟩ : S_Vec)]).length 3, .slice (some ⟨b16, 0, none⟩) l18.length l18.length, .slice (some ⟨b24, 0, none⟩) ([(⟨0, 2, 1⟩ : (Ar3 Int))]).length 1, .int .u8 0, .int .u8 0, .int .u8 0, .int .u8 0, ii (-1), .int .u8 0, ii 0, .bool false, ii 0, ii el8.X, ii el8.Y, ii el8.Z, ii 40, ii 40, ii 512]) (by exact wn0 rfl) (by rfl) sl22 sz52 ze52 (by rfl) (by rfl) (by rfl) (by kernel_rfl) H (fun w29 b28 (H : Sep ok w w29 [.blk b1 31 L4_1, .hole, .row (.slice (some ⟨b16, 0, none⟩) l18.length l18.length) 128 k_Ar2_Int.sz l18.length cs17, .row (.slice (some ⟨b24, 0, none⟩) ([(⟨0, 2, 1⟩ : (Ar3 Int))]).length 1) 28 k_Ar3_Int.sz ([(⟨0, 2, 1⟩ : (Ar3 Int))]).length [ii 0, ii 2, ii 1], .hole, .blk b32 25 [.slice none 0 0, .slice none 0 0], .blk b28 52 [.slice (some ⟨b4, 0, none⟩) ([(⟨(-40), (-40), 512⟩ : S_Vec), (⟨40, (-40), 512⟩ : S_Vec), (⟨(-40), 40, 512⟩ : S_Vec)]).length 3, .slice (some ⟨b16, 0, none⟩) l18.length l18.length, .slice (some ⟨b24, 0, none⟩) ([(⟨0, 2, 1⟩ : (Ar3 Int))]).length 1, .int .u8 0, .int .u8 0, .int .u8 0, .int .u8 0, ii (-1), .int .u8 0, ii 0, .bool false, ii 0, ii el8.X, ii el8.Y, ii el8.Z, ii 40, ii 40, ii 512]] [RE.rd k_Vec (some ⟨b4, 0, none⟩) 3 ([(⟨(-40), (-40), 512⟩ : S_Vec), (⟨40, (-40), 512⟩ : S_Vec), (⟨(-40), 40, 512⟩ : S_Vec)]), RE.chunks k_Ar2_Int cs17 l18, RE.chunks k_Ar3_Int [ii 0, ii 2, ii 1] ([(⟨0, 2, 1⟩ : (Ar3 Int))]), RE.hole]) => ⟨(Sep.takeR (Sep.takeL H 2) 1), ?_⟩)
    have H : Sep ok w w29 [.blk b1 31 L4_1, .hole, .hole, .row (.slice (some ⟨b24, 0, none⟩) ([(⟨0, 2, 1⟩ : (Ar3 Int))]).length 1) 28 k_Ar3_Int.sz ([(⟨0, 2, 1⟩ : (Ar3 Int))]).length [ii 0, ii 2, ii 1], .hole, .blk b32 25 [.slice none 0 0, .slice none 0 0], .blk b28 52 [.slice (some ⟨b4, 0, none⟩) ([(⟨(-40), (-40), 512⟩ : S_Vec), (⟨40, (-40), 512⟩ : S_Vec), (⟨(-40), 40, 512⟩ : S_Vec)]).length 3, .slice (some ⟨b16, 0, none⟩) l18.length l18.length, .slice (some ⟨b24, 0, none⟩) ([(⟨0, 2, 1⟩ : (Ar3 Int))]).length 1, .int .u8 0, .int .u8 0, .int .u8 0, .int .u8 0, ii (-1), .int .u8 0, ii 0, .bool false, ii 0, ii el8.X, ii el8.Y, ii el8.Z, ii 40, ii 40, ii 512]] [RE.rd k_Vec (some ⟨b4, 0, none⟩) 3 ([(⟨(-40), (-40), 512⟩ : S_Vec), (⟨40, (-40), 512⟩ : S_Vec), (⟨(-40), 40, 512⟩ : S_Vec)]), RE.rd k_Ar2_Int (some ⟨b16, 0, none⟩) l18.length l18, RE.chunks k_Ar3_Int [ii 0, ii 2, ii 1] ([(⟨0, 2, 1⟩ : (Ar3 Int))]), RE.hole] := H.frozen (i := 2) (j := 1) (by rfl) (by rfl)
    have H : Sep ok w w29 [.blk b1 31 L4_1, .hole, .hole, .hole, .hole, .blk b32 25 [.slice none 0 0, .slice none 0 0], .blk b28 52 [.slice (some ⟨b4, 0, none⟩) ([(⟨(-40), (-40), 512⟩ : S_Vec), (⟨40, (-40), 512⟩ : S_Vec), (⟨(-40), 40, 512⟩ : S_Vec)]).length 3, .slice (some ⟨b16, 0, none⟩) l18.length l18.length, .slice (some ⟨b24, 0, none⟩) ([(⟨0, 2, 1⟩ : (Ar3 Int))]).length 1, .int .u8 0, .int .u8 0, .int .u8 0, .int .u8 0, ii (-1), .int .u8 0, ii 0, .bool false, ii 0, ii el8.X, ii el8.Y, ii el8.Z, ii 40, ii 40, ii 512]] [RE.rd k_Vec (some ⟨b4, 0, none⟩) 3 ([(⟨(-40), (-40), 512⟩ : S_Vec), (⟨40, (-40), 512⟩ : S_Vec), (⟨(-40), 40, 512⟩ : S_Vec)]), RE.rd k_Ar2_Int (some ⟨b16, 0, none⟩) l18.length l18, RE.rd k_Ar3_Int (some ⟨b24, 0, none⟩) 1 ([(⟨0, 2, 1⟩ : (Ar3 Int))]), RE.hole] := H.frozen (i := 3) (j := 2) (by rfl) (by rfl)
    have H : Sep ok w w29 [.blk b1 31 L4_1, .hole, .hole, .hole, .hole, .blk b32 25 [.slice none 0 0, .slice none 0 0], .row (.slice (some ⟨b28, 0, none⟩) ([(⟨[(⟨(-40), (-40), 512⟩ : S_Vec), (⟨40, (-40), 512⟩ : S_Vec), (⟨(-40), 40, 512⟩ : S_Vec)], l18, [(⟨0, 2, 1⟩ : (Ar3 Int))], (⟨(⟨0, 0, 0, 0⟩ : (Ar4 Int)), (-1), 0, 0, false, 0⟩ : S_Look), (⟨el8, (⟨40, 40, 512⟩ : S_Vec)⟩ : S_Box)⟩ : S_Item)]).length 1) 52 k_Item.sz ([(⟨[(⟨(-40), (-40), 512⟩ : S_Vec), (⟨40, (-40), 512⟩ : S_Vec), (⟨(-40), 40, 512⟩ : S_Vec)], l18, [(⟨0, 2, 1⟩ : (Ar3 Int))], (⟨(⟨0, 0, 0, 0⟩ : (Ar4 Int)), (-1), 0, 0, false, 0⟩ : S_Look), (⟨el8, (⟨40, 40, 512⟩ : S_Vec)⟩ : S_Box)⟩ : S_Item)]).length [.slice (some ⟨b4, 0, none⟩) ([(⟨(-40), (-40), 512⟩ : S_Vec), (⟨40, (-40), 512⟩ : S_Vec), (⟨(-40), 40, 512⟩ : S_Vec)]).length 3, .slice (some ⟨b16, 0, none⟩) l18.length l18.length, .slice (some ⟨b24, 0, none⟩) ([(⟨0, 2, 1⟩ : (Ar3 Int))]).length 1, .int .u8 0, .int .u8 0, .int .u8 0, .int .u8 0, ii (-1), .int .u8 0, ii 0, .bool false, ii 0, ii el8.X, ii el8.Y, ii el8.Z, ii 40, ii 40, ii 512]] [RE.rd k_Vec (some ⟨b4, 0, none⟩) 3 ([(⟨(-40), (-40), 512⟩ : S_Vec), (⟨40, (-40), 512⟩ : S_Vec), (⟨(-40), 40, 512⟩ : S_Vec)]), RE.rd k_Ar2_Int (some ⟨b16, 0, none⟩) l18.length l18, RE.rd k_Ar3_Int (some ⟨b24, 0, none⟩) 1 ([(⟨0, 2, 1⟩ : (Ar3 Int))]), RE.hole, RE.chunks k_Item [.slice (some ⟨b4, 0, none⟩) ([(⟨(-40), (-40), 512⟩ : S_Vec), (⟨40, (-40), 512⟩ : S_Vec), (⟨(-40), 40, 512⟩ : S_Vec)]).length 3, .slice (some ⟨b16, 0, none⟩) l18.length l18.length, .slice (some ⟨b24, 0, none⟩) ([(⟨0, 2, 1⟩ : (Ar3 Int))]).length 1, .int .u8 0, .int .u8 0, .int .u8 0, .int .u8 0, ii (-1), .int .u8 0, ii 0, .bool false, ii 0, ii el8.X, ii el8.Y, ii el8.Z, ii 40, ii 40, ii 512] ([(⟨[(⟨(-40), (-40), 512⟩ : S_Vec), (⟨40, (-40), 512⟩ : S_Vec), (⟨(-40), 40, 512⟩ : S_Vec)], l18, [(⟨0, 2, 1⟩ : (Ar3 Int))], (⟨(⟨0, 0, 0, 0⟩ : (Ar4 Int)), (-1), 0, 0, false, 0⟩ : S_Look), (⟨el8, (⟨40, 40, 512⟩ : S_Vec)⟩ : S_Box)⟩ : S_Item)])] := H.rowOf (i := 6) (D := k_Item) (xs := [(⟨[(⟨(-40), (-40), 512⟩ : S_Vec), (⟨40, (-40), 512⟩ : S_Vec), (⟨(-40), 40, 512⟩ : S_Vec)], l18, [(⟨0, 2, 1⟩ : (Ar3 Int))], (⟨(⟨0, 0, 0, 0⟩ : (Ar4 Int)), (-1), 0, 0, false, 0⟩ : S_Look), (⟨el8, (⟨40, 40, 512⟩ : S_Vec)⟩ : S_Box)⟩ : S_Item)]) (by rfl) (by exact ⟨(by exact ⟨(some ⟨b4, 0, none⟩), 3, (some ⟨b16, 0, none⟩), l18.length, (some ⟨b24, 0, none⟩), 1, rfl, H.rd (i := 0) (by rfl), H.rd (i := 1) (by rfl), H.rd (i := 2) (by rfl)⟩), rfl⟩) (by rfl)
    refine TF (a := x_build (vs := [(0, .slice (some ⟨b28, 0, none⟩) ([(⟨[(⟨(-40), (-40), 512⟩ : S_Vec), (⟨40, (-40), 512⟩ : S_Vec), (⟨(-40), 40, 512⟩ : S_Vec)], l18, [(⟨0, 2, 1⟩ : (Ar3 Int))], (⟨(⟨0, 0, 0, 0⟩ : (Ar4 Int)), (-1), 0, 0, false, 0⟩ : S_Look), (⟨el8, (⟨40, 40, 512⟩ : S_Vec)⟩ : S_Box)⟩ : S_Item)]).length 1)]) (cs := [.slice (some ⟨b28, 0, none⟩) ([(⟨[(⟨(-40), (-40), 512⟩ : S_Vec), (⟨40, (-40), 512⟩ : S_Vec), (⟨(-40), 40, 512⟩ : S_Vec)], l18, [(⟨0, 2, 1⟩ : (Ar3 Int))], (⟨(⟨0, 0, 0, 0⟩ : (Ar4 Int)), (-1), 0, 0, false, 0⟩ : S_Look), (⟨el8, (⟨40, 40, 512⟩ : S_Vec)⟩ : S_Box)⟩ : S_Item)]).length 1, .slice none 0 0]) (by rfl) (by kernel_rfl)) (b := ?_)
    exact hJ1_3_11_13 _ _ ⟨b28, b32, b16, b24, ⟨rfl, rfl, rfl, trivial⟩, ((H).pickL [0, 1, 2, 3, 6, 5] (by decide)).pick [0, 1, 2, 4]⟩
   exact PRT_stop
  show ∀ r w, _ → _
  rintro r' w' ⟨b28, b16, b24, hA, H⟩
  obtain ⟨r98, rfl⟩ := regen _ hA; clear hA
  obtain ⟨w99, rfl⟩ := wld w'
  refine PRT_all ?_
  refine PB ?_ ?_
  ·show OpR _ _ _ _ _ _ _
   refine OA ze25 H (fun w33 b32 (H : Sep ok w w33 [.blk b1 31 L4_1, .hole, .hole, .hole, .row (.slice (some ⟨b28, 0, none⟩) ([(⟨[(⟨(-40), (-40), 512⟩ : S_Vec), (⟨40, (-40), 512⟩ : S_Vec), (⟨(-40), 40, 512⟩ : S_Vec)], l18, [(⟨0, 2, 1⟩ : (Ar3 Int))], (⟨(⟨0, 0, 0, 0⟩ : (Ar4 Int)), (-1), 0, 0, false, 0⟩ : S_Look), (⟨el8, (⟨40, 40, 512⟩ : S_Vec)⟩ : S_Box)⟩ : S_Item)]).length 1) 52 k_Item.sz ([(⟨[(⟨(-40), (-40), 512⟩ : S_Vec), (⟨40, (-40), 512⟩ : S_Vec), (⟨(-40), 40, 512⟩ : S_Vec)], l18, [(⟨0, 2, 1⟩ : (Ar3 Int))], (⟨(⟨0, 0, 0, 0⟩ : (Ar4 Int)), (-1), 0, 0, false, 0⟩ : S_Look), (⟨el8, (⟨40, 40, 512⟩ : S_Vec)⟩ : S_Box)⟩ : S_Item)]).length [.slice (some ⟨b4, 0, none⟩) ([(⟨(-40), (-40), 512⟩ : S_Vec), (⟨40, (-40), 512⟩ : S_Vec), (⟨(-40), 40, 512⟩ : S_Vec)]).length 3, .slice (some ⟨b16, 0, none⟩) l18.length l18.length, .slice (some ⟨b24, 0, none⟩) ([(⟨0, 2, 1⟩ : (Ar3 Int))]).length 1, .int .u8 0, .int .u8 0, .int .u8 0, .int .u8 0, ii (-1), .int .u8 0, ii 0, .bool false, ii 0, ii el8.X, ii el8.Y, ii el8.Z, ii 40, ii 40, ii 512], .hole, .blk b32 25 [.slice none 0 0, .slice none 0 0]] [RE.rd k_Vec (some ⟨b4, 0, none⟩) 3 ([(⟨(-40), (-40), 512⟩ : S_Vec), (⟨40, (-40), 512⟩ : S_Vec), (⟨(-40), 40, 512⟩ : S_Vec)]), RE.rd k_Ar2_Int (some ⟨b16, 0, none⟩) l18.length l18, RE.rd k_Ar3_Int (some ⟨b24, 0, none⟩) 1 ([(⟨0, 2, 1⟩ : (Ar3 Int))]), RE.chunks k_Item [.slice (some ⟨b4, 0, none⟩) ([(⟨(-40), (-40), 512⟩ : S_Vec), (⟨40, (-40), 512⟩ : S_Vec), (⟨(-40), 40, 512⟩ : S_Vec)]).length 3, .slice (some ⟨b16, 0, none⟩) l18.length l18.length, .slice (some ⟨b24, 0, none⟩) ([(⟨0, 2, 1⟩ : (Ar3 Int))]).length 1, .int .u8 0, .int .u8 0, .int .u8 0, .int .u8 0, ii (-1), .int .u8 0, ii 0, .bool false, ii 0, ii el8.X, ii el8.Y, ii el8.Z, ii 40, ii 40, ii 512] ([(⟨[(⟨(-40), (-40), 512⟩ : S_Vec), (⟨40, (-40), 512⟩ : S_Vec), (⟨(-40), 40, 512⟩ : S_Vec)], l18, [(⟨0, 2, 1⟩ : (Ar3 Int))], (⟨(⟨0, 0, 0, 0⟩ : (Ar4 Int)), (-1), 0, 0, false, 0⟩ : S_Look), (⟨el8, (⟨40, 40, 512⟩ : S_Vec)⟩ : S_Box)⟩ : S_Item)])]) => ⟨(Sep.takeR (Sep.takeL H 2) 1), ?_⟩)
   exact hJ1_3_11_13 _ _ ⟨b28, b32, b16, b24, ⟨rfl, rfl, rfl, trivial⟩, (H).pickL [0, 1, 2, 3, 4, 6] (by decide)⟩
  exact PRT_stop
 show ∀ r w, _ → _
 rintro r' w' ⟨b28, b32, b16, b24, hA, H⟩
 obtain ⟨r100, rfl⟩ := regen _ hA; clear hA
 obtain ⟨w101, rfl⟩ := wld w'
 refine PRT_lin ?_
 refine PL (a := OS 5 0 [.slice (some ⟨b28, 0, none⟩) ([(⟨[(⟨(-40), (-40), 512⟩ : S_Vec), (⟨40, (-40), 512⟩ : S_Vec), (⟨(-40), 40, 512⟩ : S_Vec)], l18, [(⟨0, 2, 1⟩ : (Ar3 Int))], (⟨(⟨0, 0, 0, 0⟩ : (Ar4 Int)), (-1), 0, 0, false, 0⟩ : S_Look), (⟨el8, (⟨40, 40, 512⟩ : S_Vec)⟩ : S_Box)⟩ : S_Item)]).length 1, .slice none 0 0] sz25 H (fun w102 (H : Sep ok w w102 [.blk b1 31 L4_1, .hole, .hole, .hole, .row (.slice (some ⟨b28, 0, none⟩) ([(⟨[(⟨(-40), (-40), 512⟩ : S_Vec), (⟨40, (-40), 512⟩ : S_Vec), (⟨(-40), 40, 512⟩ : S_Vec)], l18, [(⟨0, 2, 1⟩ : (Ar3 Int))], (⟨(⟨0, 0, 0, 0⟩ : (Ar4 Int)), (-1), 0, 0, false, 0⟩ : S_Look), (⟨el8, (⟨40, 40, 512⟩ : S_Vec)⟩ : S_Box)⟩ : S_Item)]).length 1) 52 k_Item.sz ([(⟨[(⟨(-40), (-40), 512⟩ : S_Vec), (⟨40, (-40), 512⟩ : S_Vec), (⟨(-40), 40, 512⟩ : S_Vec)], l18, [(⟨0, 2, 1⟩ : (Ar3 Int))], (⟨(⟨0, 0, 0, 0⟩ : (Ar4 Int)), (-1), 0, 0, false, 0⟩ : S_Look), (⟨el8, (⟨40, 40, 512⟩ : S_Vec)⟩ : S_Box)⟩ : S_Item)]).length [.slice (some ⟨b4, 0, none⟩) ([(⟨(-40), (-40), 512⟩ : S_Vec), (⟨40, (-40), 512⟩ : S_Vec), (⟨(-40), 40, 512⟩ : S_Vec)]).length 3, .slice (some ⟨b16, 0, none⟩) l18.length l18.length, .slice (some ⟨b24, 0, none⟩) ([(⟨0, 2, 1⟩ : (Ar3 Int))]).length 1, .int .u8 0, .int .u8 0, .int .u8 0, .int .u8 0, ii (-1), .int .u8 0, ii 0, .bool false, ii 0, ii el8.X, ii el8.Y, ii el8.Z, ii 40, ii 40, ii 512], .blk b32 25 [.slice (some ⟨b28, 0, none⟩) ([(⟨[(⟨(-40), (-40), 512⟩ : S_Vec), (⟨40, (-40), 512⟩ : S_Vec), (⟨(-40), 40, 512⟩ : S_Vec)], l18, [(⟨0, 2, 1⟩ : (Ar3 Int))], (⟨(⟨0, 0, 0, 0⟩ : (Ar4 Int)), (-1), 0, 0, false, 0⟩ : S_Look), (⟨el8, (⟨40, 40, 512⟩ : S_Vec)⟩ : S_Box)⟩ : S_Item)]).length 1, .slice none 0 0]] [RE.rd k_Vec (some ⟨b4, 0, none⟩) 3 ([(⟨(-40), (-40), 512⟩ : S_Vec), (⟨40, (-40), 512⟩ : S_Vec), (⟨(-40), 40, 512⟩ : S_Vec)]), RE.rd k_Ar2_Int (some ⟨b16, 0, none⟩) l18.length l18, RE.rd k_Ar3_Int (some ⟨b24, 0, none⟩) 1 ([(⟨0, 2, 1⟩ : (Ar3 Int))]), RE.chunks k_Item [.slice (some ⟨b4, 0, none⟩) ([(⟨(-40), (-40), 512⟩ : S_Vec), (⟨40, (-40), 512⟩ : S_Vec), (⟨(-40), 40, 512⟩ : S_Vec)]).length 3, .slice (some ⟨b16, 0, none⟩) l18.length l18.length, .slice (some ⟨b24, 0, none⟩) ([(⟨0, 2, 1⟩ : (Ar3 Int))]).length 1, .int .u8 0, .int .u8 0, .int .u8 0, .int .u8 0, ii (-1), .int .u8 0, ii 0, .bool false, ii 0, ii el8.X, ii el8.Y, ii el8.Z, ii 40, ii 40, ii 512] ([(⟨[(⟨(-40), (-40), 512⟩ : S_Vec), (⟨40, (-40), 512⟩ : S_Vec), (⟨(-40), 40, 512⟩ : S_Vec)], l18, [(⟨0, 2, 1⟩ : (Ar3 Int))], (⟨(⟨0, 0, 0, 0⟩ : (Ar4 Int)), (-1), 0, 0, false, 0⟩ : S_Look), (⟨el8, (⟨40, 40, 512⟩ : S_Vec)⟩ : S_Box)⟩ : S_Item)])]) => ?_))
 refine PR_nil ?_
 refine W_seq ?_
 have H : S4_1 ok w w102 b1 b28 l18 el8 b4 b16 b24 b32 := ((H.pickL [0, 4, 5] (by decide)).pick [3])
 refine W_region ?_
 refine RL_p (xA 0 [.slice (some ⟨b28, 0, none⟩) ([(⟨[(⟨(-40), (-40), 512⟩ : S_Vec), (⟨40, (-40), 512⟩ : S_Vec), (⟨(-40), 40, 512⟩ : S_Vec)], l18, [(⟨0, 2, 1⟩ : (Ar3 Int))], (⟨(⟨0, 0, 0, 0⟩ : (Ar4 Int)), (-1), 0, 0, false, 0⟩ : S_Look), (⟨el8, (⟨40, 40, 512⟩ : S_Vec)⟩ : S_Box)⟩ : S_Item)]).length 1, .slice none 0 0] ag25 (H.c 2)) ?_
 refine RL_p (xA 0 L4_1 ag31 (H.c 0)) ?_
 obtain ⟨v104, hv103, hm⟩ := bind_some hm
 refine RL_cons (OC (xc [.agg #[.slice (some ⟨b28, 0, none⟩) ([(⟨[(⟨(-40), (-40), 512⟩ : S_Vec), (⟨40, (-40), 512⟩ : S_Vec), (⟨(-40), 40, 512⟩ : S_Vec)], l18, [(⟨0, 2, 1⟩ : (Ar3 Int))], (⟨(⟨0, 0, 0, 0⟩ : (Ar4 Int)), (-1), 0, 0, false, 0⟩ : S_Look), (⟨el8, (⟨40, 40, 512⟩ : S_Vec)⟩ : S_Box)⟩ : S_Item)]).length 1, .slice none 0 0], .agg L4_1.toArray, ii 0, ii 2] (cf10 _ _)) (c10 okT K w102 (⟨[(⟨[(⟨(-40), (-40), 512⟩ : S_Vec), (⟨40, (-40), 512⟩ : S_Vec), (⟨(-40), 40, 512⟩ : S_Vec)], l18, [(⟨0, 2, 1⟩ : (Ar3 Int))], (⟨(⟨0, 0, 0, 0⟩ : (Ar4 Int)), (-1), 0, 0, false, 0⟩ : S_Look), (⟨el8, (⟨40, 40, 512⟩ : S_Vec)⟩ : S_Box)⟩ : S_Item)], []⟩ : S_Show) (some ⟨b28, 0, none⟩) 1 none 0 (⟨(⟨0, 0, 0⟩ : S_Vec), (⟨(⟨256, 0, 0⟩ : (Ar3 Int)), (⟨0, 256, 0⟩ : (Ar3 Int)), (⟨0, 0, 256⟩ : (Ar3 Int))⟩ : (Ar3 (Ar3 Int))), 64, 256, 4, 4⟩ : S_Camera) 0 2 (H.rowRd (i := 1) (j := 0) (by rfl) (by rfl)) (Rd.nil (by decide)) v104 hv103) ?_)
 rintro e w105 ⟨rfl, H2⟩
 have H : S4_1 ok w w105 b1 b28 l18 el8 b4 b16 b24 b32 := H.below H2.base
 clear H2
 refine ⟨_, rfl, ?_⟩
 refine RL_p (xm (tup [.agg (L4_10 v104).toArray, .bool v104.2.1, ii v104.2.2])) ?_
 refine RL_p (xe (.agg (L4_10 v104).toArray)) ?_
 refine RL_p (xe (.bool v104.2.1)) ?_
 refine RL_p (xe (ii v104.2.2)) ?_
 refine RL_cons (OA ze54 H (fun w107 b106 (H : Sep ok w w107 [.blk b1 31 L4_1, .row (.slice (some ⟨b28, 0, none⟩) ([(⟨[(⟨(-40), (-40), 512⟩ : S_Vec), (⟨40, (-40), 512⟩ : S_Vec), (⟨(-40), 40, 512⟩ : S_Vec)], l18, [(⟨0, 2, 1⟩ : (Ar3 Int))], (⟨(⟨0, 0, 0, 0⟩ : (Ar4 Int)), (-1), 0, 0, false, 0⟩ : S_Look), (⟨el8, (⟨40, 40, 512⟩ : S_Vec)⟩ : S_Box)⟩ : S_Item)]).length 1) 52 k_Item.sz ([(⟨[(⟨(-40), (-40), 512⟩ : S_Vec), (⟨40, (-40), 512⟩ : S_Vec), (⟨(-40), 40, 512⟩ : S_Vec)], l18, [(⟨0, 2, 1⟩ : (Ar3 Int))], (⟨(⟨0, 0, 0, 0⟩ : (Ar4 Int)), (-1), 0, 0, false, 0⟩ : S_Look), (⟨el8, (⟨40, 40, 512⟩ : S_Vec)⟩ : S_Box)⟩ : S_Item)]).length [.slice (some ⟨b4, 0, none⟩) ([(⟨(-40), (-40), 512⟩ : S_Vec), (⟨40, (-40), 512⟩ : S_Vec), (⟨(-40), 40, 512⟩ : S_Vec)]).length 3, .slice (some ⟨b16, 0, none⟩) l18.length l18.length, .slice (some ⟨b24, 0, none⟩) ([(⟨0, 2, 1⟩ : (Ar3 Int))]).length 1, .int .u8 0, .int .u8 0, .int .u8 0, .int .u8 0, ii (-1), .int .u8 0, ii 0, .bool false, ii 0, ii el8.X, ii el8.Y, ii el8.Z, ii 40, ii 40, ii 512], .blk b32 25 [.slice (some ⟨b28, 0, none⟩) ([(⟨[(⟨(-40), (-40), 512⟩ : S_Vec), (⟨40, (-40), 512⟩ : S_Vec), (⟨(-40), 40, 512⟩ : S_Vec)], l18, [(⟨0, 2, 1⟩ : (Ar3 Int))], (⟨(⟨0, 0, 0, 0⟩ : (Ar4 Int)), (-1), 0, 0, false, 0⟩ : S_Look), (⟨el8, (⟨40, 40, 512⟩ : S_Vec)⟩ : S_Box)⟩ : S_Item)]).length 1, .slice none 0 0], .blk b106 54 L4_11] [RE.chunks k_Item [.slice (some ⟨b4, 0, none⟩) ([(⟨(-40), (-40), 512⟩ : S_Vec), (⟨40, (-40), 512⟩ : S_Vec), (⟨(-40), 40, 512⟩ : S_Vec)]).length 3, .slice (some ⟨b16, 0, none⟩) l18.length l18.length, .slice (some ⟨b24, 0, none⟩) ([(⟨0, 2, 1⟩ : (Ar3 Int))]).length 1, .int .u8 0, .int .u8 0, .int .u8 0, .int .u8 0, ii (-1), .int .u8 0, ii 0, .bool false, ii 0, ii el8.X, ii el8.Y, ii el8.Z, ii 40, ii 40, ii 512] ([(⟨[(⟨(-40), (-40), 512⟩ : S_Vec), (⟨40, (-40), 512⟩ : S_Vec), (⟨(-40), 40, 512⟩ : S_Vec)], l18, [(⟨0, 2, 1⟩ : (Ar3 Int))], (⟨(⟨0, 0, 0, 0⟩ : (Ar4 Int)), (-1), 0, 0, false, 0⟩ : S_Look), (⟨el8, (⟨40, 40, 512⟩ : S_Vec)⟩ : S_Box)⟩ : S_Item)])]) => ?_))
 refine RL_cons (OS 3 0 (L4_10 v104) sz54 H (fun w108 (H : Sep ok w w108 [.blk b1 31 L4_1, .row (.slice (some ⟨b28, 0, none⟩) ([(⟨[(⟨(-40), (-40), 512⟩ : S_Vec), (⟨40, (-40), 512⟩ : S_Vec), (⟨(-40), 40, 512⟩ : S_Vec)], l18, [(⟨0, 2, 1⟩ : (Ar3 Int))], (⟨(⟨0, 0, 0, 0⟩ : (Ar4 Int)), (-1), 0, 0, false, 0⟩ : S_Look), (⟨el8, (⟨40, 40, 512⟩ : S_Vec)⟩ : S_Box)⟩ : S_Item)]).length 1) 52 k_Item.sz ([(⟨[(⟨(-40), (-40), 512⟩ : S_Vec), (⟨40, (-40), 512⟩ : S_Vec), (⟨(-40), 40, 512⟩ : S_Vec)], l18, [(⟨0, 2, 1⟩ : (Ar3 Int))], (⟨(⟨0, 0, 0, 0⟩ : (Ar4 Int)), (-1), 0, 0, false, 0⟩ : S_Look), (⟨el8, (⟨40, 40, 512⟩ : S_Vec)⟩ : S_Box)⟩ : S_Item)]).length [.slice (some ⟨b4, 0, none⟩) ([(⟨(-40), (-40), 512⟩ : S_Vec), (⟨40, (-40), 512⟩ : S_Vec), (⟨(-40), 40, 512⟩ : S_Vec)]).length 3, .slice (some ⟨b16, 0, none⟩) l18.length l18.length, .slice (some ⟨b24, 0, none⟩) ([(⟨0, 2, 1⟩ : (Ar3 Int))]).length 1, .int .u8 0, .int .u8 0, .int .u8 0, .int .u8 0, ii (-1), .int .u8 0, ii 0, .bool false, ii 0, ii el8.X, ii el8.Y, ii el8.Z, ii 40, ii 40, ii 512], .blk b32 25 [.slice (some ⟨b28, 0, none⟩) ([(⟨[(⟨(-40), (-40), 512⟩ : S_Vec), (⟨40, (-40), 512⟩ : S_Vec), (⟨(-40), 40, 512⟩ : S_Vec)], l18, [(⟨0, 2, 1⟩ : (Ar3 Int))], (⟨(⟨0, 0, 0, 0⟩ : (Ar4 Int)), (-1), 0, 0, false, 0⟩ : S_Look), (⟨el8, (⟨40, 40, 512⟩ : S_Vec)⟩ : S_Box)⟩ : S_Item)]).length 1, .slice none 0 0], .blk b106 54 (L4_10 v104)] [RE.chunks k_Item [.slice (some ⟨b4, 0, none⟩) ([(⟨(-40), (-40), 512⟩ : S_Vec), (⟨40, (-40), 512⟩ : S_Vec), (⟨(-40), 40, 512⟩ : S_Vec)]).length 3, .slice (some ⟨b16, 0, none⟩) l18.length l18.length, .slice (some ⟨b24, 0, none⟩) ([(⟨0, 2, 1⟩ : (Ar3 Int))]).length 1, .int .u8 0, .int .u8 0, .int .u8 0, .int .u8 0, ii (-1), .int .u8 0, ii 0, .bool false, ii 0, ii el8.X, ii el8.Y, ii el8.Z, ii 40, ii 40, ii 512] ([(⟨[(⟨(-40), (-40), 512⟩ : S_Vec), (⟨40, (-40), 512⟩ : S_Vec), (⟨(-40), 40, 512⟩ : S_Vec)], l18, [(⟨0, 2, 1⟩ : (Ar3 Int))], (⟨(⟨0, 0, 0, 0⟩ : (Ar4 Int)), (-1), 0, 0, false, 0⟩ : S_Look), (⟨el8, (⟨40, 40, 512⟩ : S_Vec)⟩ : S_Box)⟩ : S_Item)])]) => ?_))
 refine RL_p (xa (.bool v104.2.1)) ?_
 refine RL_p (xa (ii v104.2.2)) ?_
 refine W_seq ?_
 have H : Sep ok w w108 [.blk b106 54 (L4_10 v104)] [] := ((H.pickL [3] (by decide)).pick [])
 refine W_region ?_
 refine RL_p (xm (ii v104.2.2)) ?_
 refine RL_p (x_eql (by rfl) (by rfl)) ?_
 refine RL_p (xm (.bool (v104.2.2 == 0))) ?_
 obtain ⟨b109, hmS, hm⟩ := bind_some hm
 refine RL_cut 2 (fun r' w' => Agr [(40, .bool b109), (4, pp b106)] r' ∧ Sep ok w w' [.blk b106 54 (L4_10 v104)] []) ?_ ?_
 ·cases hbS : (v104.2.2 == 0)
  ·have hm := cond_f hbS hmS
   refine RO ?_
   refine RL_p (xF (.bool false)) ?_
   refine RL_nil ?_
   exact ⟨⟨congrArg Value.bool (Option.some.inj hm), rfl, trivial⟩, H⟩
  have hm := cond_t hbS hmS
  refine RQ (xm (.bool v104.2.1)) ?_
  refine RL_p (xT (.bool v104.2.1)) ?_
  refine RL_nil ?_
  exact ⟨⟨congrArg Value.bool (Option.some.inj hm), rfl, trivial⟩, H⟩
 rintro r' w' ⟨hA, H⟩
 obtain ⟨r110, rfl⟩ := regen _ hA; clear hA
 obtain ⟨w111, rfl⟩ := wld w'
 refine RL_p (xm (.bool b109)) ?_
 obtain ⟨b112, hmS, hm⟩ := bind_some hm
 refine RL_cut 4 (fun r' w' => Agr [(45, .bool b112)] r' ∧ Sep ok w w' [.blk b106 54 (L4_10 v104)] []) ?_ ?_
 ·cases hbS : b109
  ·have hm := cond_f hbS hmS
   refine RO ?_
   refine RO ?_
   refine RO ?_
   refine RL_p (xF (.bool false)) ?_
   refine RL_nil ?_
   exact ⟨⟨congrArg Value.bool (Option.some.inj hm), trivial⟩, H⟩
  have hm := cond_t hbS hmS
  refine RQ (xf fo54_0) ?_
  refine RQ (xl 0 (ii v104.1.D) sc3 (H.c 0)) ?_
  refine RQ (x_eql (by rfl) (by rfl)) ?_
  refine RL_p (xT (.bool (v104.1.D == 32768))) ?_
  refine RL_nil ?_
  exact ⟨⟨congrArg Value.bool (Option.some.inj hm), trivial⟩, H⟩
 rintro r' w' ⟨hA, H⟩
 obtain ⟨r113, rfl⟩ := regen _ hA; clear hA
 obtain ⟨w114, rfl⟩ := wld w'
 refine RL_p (xa (.bool b112)) ?_
 refine W_ret ?_
 obtain rfl := Option.some.inj hm
 exact ⟨[.bool b112], (.tmp (by rfl) rfl), rfl, H.none_⟩
end Go.Proofs.YtobkigllalbkiaaV.D
