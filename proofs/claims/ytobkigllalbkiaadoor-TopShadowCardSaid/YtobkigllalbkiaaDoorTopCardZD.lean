/- Part 4 of the texts that the proof of TopCard stands on. -/
import Derived.Test.YtobkigllalbkiaaDoorTopCardZC
/- A plain Lean function that answers as the Go function does (none: not told), and the proof that a call answers so. Written by program. -/
set_option linter.unusedVariables false
set_option maxRecDepth 100000
set_option maxHeartbeats 4000000
namespace Go.Proofs.YtobkigllalbkiaaV.D
open Go.RowKit Go.Proofs.YtobkigllalbkiaaV
abbrev L50_0 (q0 : (Ar3 S_Point)) : List Value := [ii q0.a0.P.X, ii q0.a0.P.Y, ii q0.a0.P.Z, ii q0.a0.U, ii q0.a0.V, ii q0.a1.P.X, ii q0.a1.P.Y, ii q0.a1.P.Z, ii q0.a1.U, ii q0.a1.V, ii q0.a2.P.X, ii q0.a2.P.Y, ii q0.a2.P.Z, ii q0.a2.U, ii q0.a2.V]
abbrev L50_1 (q0 : (Ar3 S_Point)) : List Value := [ii q0.a0.P.X, ii q0.a0.P.Y, ii q0.a0.P.Z, ii q0.a0.U, ii q0.a0.V]
abbrev L50_2  : List Value := [ii 0, ii 0, ii 0, ii 0, ii 0]
abbrev L50_3 (q0 : (Ar3 S_Point)) : List Value := [ii q0.a1.P.X, ii q0.a1.P.Y, ii q0.a1.P.Z, ii q0.a1.U, ii q0.a1.V]
abbrev L50_4 (q0 : Int) (q1 : Int) (q2 : Int) (q3 : Int) (q4 : Int) : List Value := [ii q0, ii q1, ii q2, ii q3, ii q4]
abbrev L50_5 (q0 : S_Point × Int) : List Value := [ii q0.1.P.X, ii q0.1.P.Y, ii q0.1.P.Z, ii q0.1.U, ii q0.1.V]
abbrev L50_6 (q0 : (Ar3 S_Point)) : List Value := [ii q0.a2.P.X, ii q0.a2.P.Y, ii q0.a2.P.Z, ii q0.a2.U, ii q0.a2.V]
abbrev L50_7 (q0 : S_Point) : List Value := [ii q0.P.X, ii q0.P.Y, ii q0.P.Z, ii q0.U, ii q0.V]
abbrev L50_8 (q0 : S_Point) (q1 : S_Point) (q2 : S_Point) : List Value := [ii q0.P.X, ii q0.P.Y, ii q0.P.Z, ii q0.U, ii q0.V, ii q1.P.X, ii q1.P.Y, ii q1.P.Z, ii q1.U, ii q1.V, ii q2.P.X, ii q2.P.Y, ii q2.P.Z, ii q2.U, ii q2.V]
def m50_l10b (K : Nat) (l_row16_7 : (List S_Point)) (rec10 : (List (Ar3 S_Point)) → Int → Option ((List (Ar3 S_Point)) × Int)) (l_row150_10 : (List (Ar3 S_Point))) (y15_10 : Int) : Option ((List (Ar3 S_Point)) × Int) :=
 (bif (decide (y15_10 < (l_row16_7.length : Int))) then (idx l_row16_7 0 fun el129 => (ck (y15_10 - 1) fun x136 => (idx l_row16_7 x136 fun el137 => (idx l_row16_7 y15_10 fun el144 => (apd 120 l_row150_10 (⟨el129, el137, el144⟩ : (Ar3 S_Point)) fun l157 => (ck (y15_10 + 1) fun x160 => (rec10 l157 x160))))))) else some (l_row150_10, 0))
def m50_l10 (K : Nat) (l_row16_7 : (List S_Point)) : Nat → (List (Ar3 S_Point)) → Int → Option ((List (Ar3 S_Point)) × Int)
 | 0 => fun _ _ => none
 | k + 1 => m50_l10b K l_row16_7 (m50_l10 K l_row16_7 k)
def m50_j7 (K : Nat)  (l_row16_7 : (List S_Point)) : Option ((List (Ar3 S_Point)) × Int) :=
 m50_l10 K l_row16_7 K ([]) 2
def m50_j9 (K : Nat) (a0 : Int) (l_row16_8 : (List S_Point)) (b87_0_9 : Int) (b87_1_9 : Int) (b87_2_9 : Int) (b87_3_9 : Int) (b87_4_9 : Int) (b90_0_9 : Int) (b90_1_9 : Int) (b90_2_9 : Int) (b90_3_9 : Int) (b90_4_9 : Int) : Option ((List (Ar3 S_Point)) × Int) :=
 ((m71 K a0 (⟨(⟨b87_0_9, b87_1_9, b87_2_9⟩ : S_Vec), b87_3_9, b87_4_9⟩ : S_Point) (⟨(⟨b90_0_9, b90_1_9, b90_2_9⟩ : S_Vec), b90_3_9, b90_4_9⟩ : S_Point)).bind fun v110 => (apd 40 l_row16_8 v110.1 fun l121 => (m50_j7 K l121)))
def m50_j8 (K : Nat) (a0 : Int) (a1 : (Ar3 S_Point)) (l_row16_8 : (List S_Point)) : Option ((List (Ar3 S_Point)) × Int) :=
 (bif ((decide (a0 ≤ a1.a2.P.Z)) == (decide (a0 ≤ a1.a0.P.Z))) then (m50_j7 K l_row16_8) else (bif (decide (a0 ≤ a1.a2.P.Z)) then (m50_j9 K a0 l_row16_8 a1.a0.P.X a1.a0.P.Y a1.a0.P.Z a1.a0.U a1.a0.V a1.a2.P.X a1.a2.P.Y a1.a2.P.Z a1.a2.U a1.a2.V) else (m50_j9 K a0 l_row16_8 a1.a2.P.X a1.a2.P.Y a1.a2.P.Z a1.a2.U a1.a2.V a1.a0.P.X a1.a0.P.Y a1.a0.P.Z a1.a0.U a1.a0.V)))
def m50_j4 (K : Nat) (a0 : Int) (a1 : (Ar3 S_Point)) (l_row16_4 : (List S_Point)) : Option ((List (Ar3 S_Point)) × Int) :=
 (bif (decide (a0 ≤ a1.a2.P.Z)) then (apd 40 l_row16_4 a1.a2 fun l100 => (m50_j8 K a0 a1 l100)) else (m50_j8 K a0 a1 l_row16_4))
def m50_j6 (K : Nat) (a0 : Int) (a1 : (Ar3 S_Point)) (l_row16_5 : (List S_Point)) (b48_0_6 : Int) (b48_1_6 : Int) (b48_2_6 : Int) (b48_3_6 : Int) (b48_4_6 : Int) (b51_0_6 : Int) (b51_1_6 : Int) (b51_2_6 : Int) (b51_3_6 : Int) (b51_4_6 : Int) : Option ((List (Ar3 S_Point)) × Int) :=
 ((m71 K a0 (⟨(⟨b48_0_6, b48_1_6, b48_2_6⟩ : S_Vec), b48_3_6, b48_4_6⟩ : S_Point) (⟨(⟨b51_0_6, b51_1_6, b51_2_6⟩ : S_Vec), b51_3_6, b51_4_6⟩ : S_Point)).bind fun v71 => (apd 40 l_row16_5 v71.1 fun l82 => (m50_j4 K a0 a1 l82)))
def m50_j5 (K : Nat) (a0 : Int) (a1 : (Ar3 S_Point)) (l_row16_5 : (List S_Point)) : Option ((List (Ar3 S_Point)) × Int) :=
 (bif ((decide (a0 ≤ a1.a1.P.Z)) == (decide (a0 ≤ a1.a2.P.Z))) then (m50_j4 K a0 a1 l_row16_5) else (bif (decide (a0 ≤ a1.a1.P.Z)) then (m50_j6 K a0 a1 l_row16_5 a1.a2.P.X a1.a2.P.Y a1.a2.P.Z a1.a2.U a1.a2.V a1.a1.P.X a1.a1.P.Y a1.a1.P.Z a1.a1.U a1.a1.V) else (m50_j6 K a0 a1 l_row16_5 a1.a1.P.X a1.a1.P.Y a1.a1.P.Z a1.a1.U a1.a1.V a1.a2.P.X a1.a2.P.Y a1.a2.P.Z a1.a2.U a1.a2.V)))
def m50_j1 (K : Nat) (a0 : Int) (a1 : (Ar3 S_Point)) (l_row16_1 : (List S_Point)) : Option ((List (Ar3 S_Point)) × Int) :=
 (bif (decide (a0 ≤ a1.a1.P.Z)) then (apd 40 l_row16_1 a1.a1 fun l61 => (m50_j5 K a0 a1 l61)) else (m50_j5 K a0 a1 l_row16_1))
def m50_j3 (K : Nat) (a0 : Int) (a1 : (Ar3 S_Point)) (l_row16_2 : (List S_Point)) (b10_0_3 : Int) (b10_1_3 : Int) (b10_2_3 : Int) (b10_3_3 : Int) (b10_4_3 : Int) (b7_0_3 : Int) (b7_1_3 : Int) (b7_2_3 : Int) (b7_3_3 : Int) (b7_4_3 : Int) : Option ((List (Ar3 S_Point)) × Int) :=
 ((m71 K a0 (⟨(⟨b7_0_3, b7_1_3, b7_2_3⟩ : S_Vec), b7_3_3, b7_4_3⟩ : S_Point) (⟨(⟨b10_0_3, b10_1_3, b10_2_3⟩ : S_Vec), b10_3_3, b10_4_3⟩ : S_Point)).bind fun v32 => (apd 40 l_row16_2 v32.1 fun l43 => (m50_j1 K a0 a1 l43)))
def m50_j2 (K : Nat) (a0 : Int) (a1 : (Ar3 S_Point)) (l_row16_2 : (List S_Point)) : Option ((List (Ar3 S_Point)) × Int) :=
 (bif ((decide (a0 ≤ a1.a0.P.Z)) == (decide (a0 ≤ a1.a1.P.Z))) then (m50_j1 K a0 a1 l_row16_2) else (bif (decide (a0 ≤ a1.a0.P.Z)) then (m50_j3 K a0 a1 l_row16_2 a1.a0.P.X a1.a0.P.Y a1.a0.P.Z a1.a0.U a1.a0.V a1.a1.P.X a1.a1.P.Y a1.a1.P.Z a1.a1.U a1.a1.V) else (m50_j3 K a0 a1 l_row16_2 a1.a1.P.X a1.a1.P.Y a1.a1.P.Z a1.a1.U a1.a1.V a1.a0.P.X a1.a0.P.Y a1.a0.P.Z a1.a0.U a1.a0.V)))
def m50 (K : Nat) (a0 : Int) (a1 : (Ar3 S_Point)) : Option ((List (Ar3 S_Point)) × Int) :=
 ((m70 K a0 ([a1.a0, a1.a1, a1.a2])).bind fun v4 => (bif (v4 != 0) then some ([], v4) else (bif (decide (a0 ≤ a1.a0.P.Z)) then (apd 40 ([] : List S_Point) a1.a0 fun l22 => (m50_j2 K a0 a1 l22)) else (m50_j2 K a0 a1 ([])))))
abbrev S50_0 (q0 : Okp) (q1 q2 : World) (q3 : Nat) (q4 : (Ar3 S_Point)) (q5 q6 : Nat) : Prop := Sep q0 q1 q2 [.blk q3 125 (L50_0 q4), .blk q5 124 (L50_1 q4), .blk q6 124 (L50_3 q4)] []
abbrev S50_1 (q0 : Okp) (q1 q2 : World) (q3 : Nat) (q4 : (Ar3 S_Point)) (q5 : Option Addr) (q6 : (List S_Point)) (q7 : Nat) (q8 : List Value) (q9 : Nat) (q10 : S_Point × Int) : Prop := Sep q0 q1 q2 [.blk q3 125 (L50_0 q4), .row (.slice q5 q6.length q7) 124 k_Point.sz q6.length q8, .blk q9 124 (L50_5 q10)] [RE.chunks k_Point q8 q6]
abbrev S50_2 (q0 : Okp) (q1 q2 : World) (q3 : Nat) (q4 : (Ar3 S_Point)) (q5 : Option Addr) (q6 : (List S_Point)) (q7 : Nat) (q8 : List Value) (q9 : Nat) (q10 : S_Point × Int) (q11 : Nat) : Prop := Sep q0 q1 q2 [.blk q3 125 (L50_0 q4), .row (.slice q5 q6.length q7) 124 k_Point.sz q6.length q8, .blk q9 124 (L50_5 q10), .blk q11 124 (L50_5 q10)] [RE.chunks k_Point q8 q6]
abbrev S50_3 (q0 : Okp) (q1 q2 : World) (q3 : Nat) (q4 : (Ar3 S_Point)) (q5 : Option Addr) (q6 : (List S_Point)) (q7 : Nat) (q8 : List Value) (q9 q10 : Nat) : Prop := Sep q0 q1 q2 [.blk q3 125 (L50_0 q4), .row (.slice q5 q6.length q7) 124 k_Point.sz q6.length q8, .blk q9 124 (L50_3 q4), .blk q10 124 (L50_6 q4)] [RE.chunks k_Point q8 q6]
abbrev S50_4 (q0 : Okp) (q1 q2 : World) (q3 : Nat) (q4 : (Ar3 S_Point)) (q5 : Option Addr) (q6 : (List S_Point)) (q7 : Nat) (q8 : List Value) (q9 q10 : Nat) : Prop := Sep q0 q1 q2 [.blk q3 125 (L50_0 q4), .row (.slice q5 q6.length q7) 124 k_Point.sz q6.length q8, .blk q9 124 (L50_6 q4), .blk q10 124 (L50_1 q4)] [RE.chunks k_Point q8 q6]
theorem c50 (ok : Okp) (K : Nat) (w : World) (a0 : Int) (a1 : (Ar3 S_Point))  (res : (List (Ar3 S_Point)) × Int) (hm : m50 K a0 a1 = some res) :
  Calls Tryd.prog 50 #[ii a0, .agg (L50_0 a1).toArray] w (fun e w' => ∃ (A0_ : Option Addr) (c0_ : Nat), e = .returned (tup [.slice A0_ res.1.length c0_, ii res.2]) ∧ Sep ok w w' [] [RE.rd k_Ar3_S_Point A0_ c0_ res.1]) := by
 refine calls_W (args := [ii a0, .agg (L50_0 a1).toArray]) Tryd.func50 rfl Tryd.ntmps50 Tryd.results50 rfl fun r hr => ?_
 obtain ⟨r1, rfl⟩ := regen (r := r) [(0, ii a0), (1, .agg (L50_0 a1).toArray)] ⟨hr 0 _ rfl, hr 1 _ rfl, trivial⟩
 have H : Sep ok w w [] [] := Sep.start ok w
 unfold m50 at hm
 refine Wr ?_
 refine RL_cons (OB H (fun w2 b1 (H : Sep ok w w2 [.blk b1 125 (L50_0 a1)] []) => ?_))
 refine RL_p (xa (.slice none 0 0)) ?_
 refine RL_p (xa (ii 0)) ?_
 refine W_seq ?_
 refine Wr ?_
 refine RL_p (xm (ii a0)) ?_
 refine RL_p (x_sliceArr ar125 sz124 (by rfl)) ?_
 obtain ⟨v4, hv3, hm⟩ := bind_some hm
 refine RL_cons (OC (xc [ii a0, .slice (some ⟨b1, 0, none⟩) 3 3] (cf70 _ _)) (c70 okT K w2 a0 ([a1.a0, a1.a1, a1.a2]) (some ⟨b1, 0, none⟩) 3 (H.litRd (i := 0) (by rfl) (D := k_Point) (xs := [a1.a0, a1.a1, a1.a2]) (by exact ⟨rfl, rfl, rfl, rfl⟩) (by rfl)) v4 hv3) ?_)
 rintro e w5 ⟨rfl, H2⟩
 have H : Sep ok w w5 [.blk b1 125 (L50_0 a1)] [] := H.below H2.base
 clear H2
 refine ⟨_, rfl, ?_⟩
 refine RL_p (xa (ii v4)) ?_
 refine Wr ?_
 refine RL_p (xm (ii v4)) ?_
 refine RL_p (xN) ?_
 refine Wc (fun hb => ?_) (fun hb => ?_)
 ·have hm := cond_t hb hm
  refine Wr ?_
  refine RL_p (xm (ii v4)) ?_
  refine RL_p (xa (.slice none 0 0)) ?_
  refine RL_p (xa (ii v4)) ?_
  refine W_ret ?_
  have H : Sep ok w w5 [.blk b1 125 (L50_0 a1)] [RE.rd k_Ar3_S_Point none 0 ([])] := Sep.also H (re := RE.rd k_Ar3_S_Point none 0 ([])) (Rd.nil (by decide))
  obtain rfl := Option.some.inj hm
  exact ⟨[.slice none 0 0, ii v4], (.tmp (by rfl) (.tmp (by rfl) rfl)), none, 0, rfl, (H.forgetAll).pick [0]⟩
 have hm := cond_f hb hm
 refine W_skip ?_
 refine Wr ?_
 refine RL_p (xa (.slice none 0 0)) ?_
 refine W_seq ?_
 refine Wr ?_
 refine RL_p (xA 0 (L50_0 a1) ag125 (H.c 0)) ?_
 refine RL_p (xm (ii 0)) ?_
 refine W_block ?_
 refine W_unroll 40 ?_
 refine WU_succ ?_
 refine Wr ?_
 refine RL_p (xL) ?_
 refine W_seq ?_
 refine Wt ?_
 refine W_skip ?_
 refine W_join (fun r' w' => ∃ (l_row16_1 : (List S_Point)), ∃ (A_row16_1 : Option Addr), ∃ (c_row16_1 : Nat), ∃ (cs_row16_1 : List Value), m50_j1 K a0 a1 l_row16_1 = some res ∧ Agr [(0, ii a0), (3, pp b1), (4, .slice none 0 0), (7, .slice A_row16_1 l_row16_1.length c_row16_1), (22, .agg (L50_0 a1).toArray), (23, ii 0)] r' ∧ Sep ok w w' [.blk b1 125 (L50_0 a1), .row (.slice A_row16_1 l_row16_1.length c_row16_1) 124 k_Point.sz l_row16_1.length cs_row16_1] [RE.chunks k_Point cs_row16_1 l_row16_1]) ?_ ?_
 ·show W _ _ _ _ _ _
  refine W_block ?_
  refine Wr ?_
  refine RL_p (xm (ii 0)) ?_
  refine RL_p (xJ (L50_1 a1) ar125 ag124) ?_
  refine RL_cons (OA ze124 H (fun w8 b7 (H : Sep ok w w8 [.blk b1 125 (L50_0 a1), .blk b7 124 L50_2] []) => ?_))
  refine RL_p (xa (ii 0)) ?_
  refine RL_cons (OS 1 0 (L50_1 a1) sz124 H (fun w9 (H : Sep ok w w9 [.blk b1 125 (L50_0 a1), .blk b7 124 (L50_1 a1)] []) => ?_))
  refine Wr ?_
  refine RL_p (xm (ii 0)) ?_
  refine RL_p (xp 1) ?_
  refine RL_p (x_rem (by rfl) (by rfl) (by decide)) ?_
  refine RL_p (xI ar125 sz124) ?_
  refine RL_p (xA 5 (L50_3 a1) ag124 (H.c 0)) ?_
  refine RL_cons (OA ze124 H (fun w11 b10 (H : Sep ok w w11 [.blk b1 125 (L50_0 a1), .blk b7 124 (L50_1 a1), .blk b10 124 L50_2] []) => ?_))
  refine RL_cons (OS 2 0 (L50_3 a1) sz124 H (fun w12 (H : S50_0 ok w w12 b1 a1 b7 b10) => ?_))
  refine W_seq ?_
  refine W_draw [.free 0, .free 1, .take 2, .free 3, .free 4, .free 5, .free 6, .take 7, .free 8, .free 9, .free 10, .free 11] (fun wS => S50_0 ok w wS b1 a1 b7 b10) [] [0, 1, 3, 4, 5, 6, 8, 9, 10, 11] mixed0 (by kernel_rfl) (by kernel_rfl) (by kernel_rfl) (by rfl) (by exact H.drew) ?_
  obtain ⟨w13, hW⟩ : ∃ W : World, W = { w12 with drawn := w12.drawn + 1 } := ⟨_, rfl⟩
  rw [← hW]
  have H : S50_0 ok w w13 b1 a1 b7 b10 := by rw [hW]; exact H.drew
  clear hW
  refine PF (a := xf fo124_0) (b := ?_)
  refine PF (a := xf fo27_2) (b := ?_)
  refine PT' (a := fun H => xl 2 (ii a1.a0.P.Z) sc3 (H.c 1)) (b := ?_)
  refine PF (a := xm (ii a0)) (b := ?_)
  refine PF (a := x_geq (by rfl) (by rfl)) (b := ?_)
  refine PF (a := xf fo124_0) (b := ?_)
  refine PF (a := xf fo27_2) (b := ?_)
  refine PT' (a := fun H => xl 2 (ii a1.a1.P.Z) sc3 (H.c 2)) (b := ?_)
  refine PF (a := xm (ii a0)) (b := ?_)
  refine PF (a := x_geq (by rfl) (by rfl)) (b := ?_)
  refine PF (a := xa (.bool (decide (a0 ≤ a1.a0.P.Z)))) (b := ?_)
  refine PF (a := xa (.bool (decide (a0 ≤ a1.a1.P.Z)))) (b := ?_)
  refine PR_nil ?_
  refine W_join (fun r' w' => ∃ (l_row16_2 : (List S_Point)), ∃ (A_row16_2 : Option Addr), ∃ (c_row16_2 : Nat), ∃ (cs_row16_2 : List Value), m50_j2 K a0 a1 l_row16_2 = some res ∧ Agr [(0, ii a0), (3, pp b1), (4, .slice none 0 0), (7, .slice A_row16_2 l_row16_2.length c_row16_2), (9, pp b7), (10, pp b10), (11, .bool (decide (a0 ≤ a1.a0.P.Z))), (12, .bool (decide (a0 ≤ a1.a1.P.Z))), (22, .agg (L50_0 a1).toArray), (23, ii 0)] r' ∧ Sep ok w w' [.blk b1 125 (L50_0 a1), .blk b7 124 (L50_1 a1), .blk b10 124 (L50_3 a1), .row (.slice A_row16_2 l_row16_2.length c_row16_2) 124 k_Point.sz l_row16_2.length cs_row16_2] [RE.chunks k_Point cs_row16_2 l_row16_2]) ?_ ?_
  ·show W _ _ _ _ _ _
   refine Wr ?_
   refine RL_p (xm (.bool (decide (a0 ≤ a1.a0.P.Z)))) ?_
   refine Wc (fun hb => ?_) (fun hb => ?_)
   ·have hm := cond_t hb hm
    refine W_region ?_
    refine RL_p (xm (.slice none 0 0)) ?_
    refine RL_p (xA 0 (L50_1 a1) ag124 (H.c 1)) ?_
    refine RL_cons (O_buildSlice (vs := [(0, .agg (L50_1 a1).toArray)]) (cs := [ii a1.a0.P.X, ii a1.a0.P.Y, ii a1.a0.P.Z, ii a1.a0.U, ii a1.a0.V]) (by exact wn0 rfl) (by rfl) sl153 sz124 ze124 (by rfl) (by rfl) (by rfl) (by kernel_rfl) H (fun w15 b14 (H : Sep ok w w15 [.blk b1 125 (L50_0 a1), .blk b7 124 (L50_1 a1), .blk b10 124 (L50_3 a1), .blk b14 124 (L50_1 a1)] []) => ?_))
    have H : Sep ok w w15 [.blk b1 125 (L50_0 a1), .blk b7 124 (L50_1 a1), .blk b10 124 (L50_3 a1), .blk b14 124 (L50_1 a1), .row (.slice none 0 0) 124 k_Point.sz 0 []] [RE.chunks k_Point [] ([])] := H.nilRowK 124 k_Point
    obtain ⟨l22, hl23, hb24, hm⟩ := apd_some hm
    refine RL_cons (O_append (D := k_Point) (xs := ([] : List S_Point)) (i := 4) (j := 0) (o := 0) (y := a1.a0) (by exact wn0 rfl) (by rfl) (by rfl) (by rfl) H (by rfl) (by rfl) (H.c 3) rfl hl23 sl153 sz124 by124 ze124 (by rfl) (by rfl) hb24 (by rfl) (fun w18 A19 cp20 cs21 (H : Sep ok w w18 [.blk b1 125 (L50_0 a1), .blk b7 124 (L50_1 a1), .blk b10 124 (L50_3 a1), .blk b14 124 (L50_1 a1), .row (.slice A19 l22.length cp20) 124 k_Point.sz l22.length cs21] [RE.chunks k_Point cs21 l22]) => ?_))
    refine RL_p (xa (.slice A19 l22.length cp20)) ?_
    refine RL_nil ?_
    exact ⟨l22, A19, cp20, cs21, hm, ⟨rfl, rfl, rfl, rfl, rfl, rfl, rfl, rfl, rfl, rfl, trivial⟩, (H).pickL [0, 1, 2, 4] (by decide)⟩
   have hm := cond_f hb hm
   refine W_skip ?_
   exact ⟨[], none, 0, [], hm, ⟨rfl, rfl, rfl, rfl, rfl, rfl, rfl, rfl, rfl, rfl, trivial⟩, (H).nilRowK 124 k_Point⟩
  rintro r' w' ⟨l_row16_2, A_row16_2, c_row16_2, cs_row16_2, hm, hA, H⟩
  obtain ⟨r25, rfl⟩ := regen _ hA; clear hA
  obtain ⟨w26, rfl⟩ := wld w'
  unfold m50_j2 at hm
  refine W_seq ?_
  refine Wr ?_
  refine RL_p (xm (.bool (decide (a0 ≤ a1.a0.P.Z)))) ?_
  refine RL_p (xm (.bool (decide (a0 ≤ a1.a1.P.Z)))) ?_
  refine RL_p (x_eqlb un4 (by rfl) (by rfl)) ?_
  refine Wc (fun hb => ?_) (fun hb => ?_)
  ·have hm := cond_t hb hm
   refine W_exit ?_
   exact ⟨l_row16_2, A_row16_2, c_row16_2, cs_row16_2, hm, ⟨rfl, rfl, rfl, rfl, rfl, rfl, trivial⟩, (H).pickL [0, 3] (by decide)⟩
  have hm := cond_f hb hm
  refine W_skip ?_
  refine W_join (fun r' w' => ∃ (b10_0_3 : Int), ∃ (b10_1_3 : Int), ∃ (b10_2_3 : Int), ∃ (b10_3_3 : Int), ∃ (b10_4_3 : Int), ∃ (b7_0_3 : Int), ∃ (b7_1_3 : Int), ∃ (b7_2_3 : Int), ∃ (b7_3_3 : Int), ∃ (b7_4_3 : Int), ∃ (A_row16_2 : Option Addr), ∃ (c_row16_2 : Nat), ∃ (cs_row16_2 : List Value), m50_j3 K a0 a1 l_row16_2 b10_0_3 b10_1_3 b10_2_3 b10_3_3 b10_4_3 b7_0_3 b7_1_3 b7_2_3 b7_3_3 b7_4_3 = some res ∧ Agr [(0, ii a0), (3, pp b1), (4, .slice none 0 0), (7, .slice A_row16_2 l_row16_2.length c_row16_2), (9, pp b7), (10, pp b10), (22, .agg (L50_0 a1).toArray), (23, ii 0)] r' ∧ Sep ok w w' [.blk b1 125 (L50_0 a1), .blk b7 124 [ii b7_0_3, ii b7_1_3, ii b7_2_3, ii b7_3_3, ii b7_4_3], .blk b10 124 [ii b10_0_3, ii b10_1_3, ii b10_2_3, ii b10_3_3, ii b10_4_3], .row (.slice A_row16_2 l_row16_2.length c_row16_2) 124 k_Point.sz l_row16_2.length cs_row16_2] [RE.chunks k_Point cs_row16_2 l_row16_2]) ?_ ?_
  ·show W _ _ _ _ _ _
   refine Wr ?_
   refine RL_p (xm (.bool (decide (a0 ≤ a1.a0.P.Z)))) ?_
   refine Wc (fun hb => ?_) (fun hb => ?_)
   ·have hm := cond_t hb hm
    refine W_region ?_
    refine RL_p (xA 0 (L50_3 a1) ag124 (H.c 2)) ?_
    refine RL_p (xA 0 (L50_1 a1) ag124 (H.c 1)) ?_
    refine RL_cons (OS 1 0 (L50_3 a1) sz124 H (fun w27 (H : Sep ok w w27 [.blk b1 125 (L50_0 a1), .blk b7 124 (L50_3 a1), .blk b10 124 (L50_3 a1), .row (.slice A_row16_2 l_row16_2.length c_row16_2) 124 k_Point.sz l_row16_2.length cs_row16_2] [RE.chunks k_Point cs_row16_2 l_row16_2]) => ?_))
    refine RL_cons (OS 2 0 (L50_1 a1) sz124 H (fun w28 (H : Sep ok w w28 [.blk b1 125 (L50_0 a1), .blk b7 124 (L50_3 a1), .blk b10 124 (L50_1 a1), .row (.slice A_row16_2 l_row16_2.length c_row16_2) 124 k_Point.sz l_row16_2.length cs_row16_2] [RE.chunks k_Point cs_row16_2 l_row16_2]) => ?_))
    refine RL_nil ?_
    exact ⟨a1.a0.P.X, a1.a0.P.Y, a1.a0.P.Z, a1.a0.U, a1.a0.V, a1.a1.P.X, a1.a1.P.Y, a1.a1.P.Z, a1.a1.U, a1.a1.V, A_row16_2, c_row16_2, cs_row16_2, hm, ⟨rfl, rfl, rfl, rfl, rfl, rfl, rfl, rfl, trivial⟩, H⟩
   have hm := cond_f hb hm
   refine W_skip ?_
   exact ⟨a1.a1.P.X, a1.a1.P.Y, a1.a1.P.Z, a1.a1.U, a1.a1.V, a1.a0.P.X, a1.a0.P.Y, a1.a0.P.Z, a1.a0.U, a1.a0.V, A_row16_2, c_row16_2, cs_row16_2, hm, ⟨rfl, rfl, rfl, rfl, rfl, rfl, rfl, rfl, trivial⟩, H⟩
  rintro r' w' ⟨b10_0_3, b10_1_3, b10_2_3, b10_3_3, b10_4_3, b7_0_3, b7_1_3, b7_2_3, b7_3_3, b7_4_3, A_row16_2, c_row16_2, cs_row16_2, hm, hA, H⟩
  obtain ⟨r29, rfl⟩ := regen _ hA; clear hA
  obtain ⟨w30, rfl⟩ := wld w'
  unfold m50_j3 at hm
  refine Wr ?_
  refine RL_p (xm (ii a0)) ?_
  refine RL_p (xA 0 (L50_4 b7_0_3 b7_1_3 b7_2_3 b7_3_3 b7_4_3) ag124 (H.c 1)) ?_
  refine RL_p (xA 0 (L50_4 b10_0_3 b10_1_3 b10_2_3 b10_3_3 b10_4_3) ag124 (H.c 2)) ?_
  obtain ⟨v32, hv31, hm⟩ := bind_some hm
  refine RL_cons (OC (xc [ii a0, .agg (L50_4 b7_0_3 b7_1_3 b7_2_3 b7_3_3 b7_4_3).toArray, .agg (L50_4 b10_0_3 b10_1_3 b10_2_3 b10_3_3 b10_4_3).toArray] (cf71 _ _)) (c71 okT K w30 a0 (⟨(⟨b7_0_3, b7_1_3, b7_2_3⟩ : S_Vec), b7_3_3, b7_4_3⟩ : S_Point) (⟨(⟨b10_0_3, b10_1_3, b10_2_3⟩ : S_Vec), b10_3_3, b10_4_3⟩ : S_Point)  v32 hv31) ?_)
  rintro e w33 ⟨rfl, H2⟩
  have H : Sep ok w w33 [.blk b1 125 (L50_0 a1), .blk b7 124 (L50_4 b7_0_3 b7_1_3 b7_2_3 b7_3_3 b7_4_3), .blk b10 124 (L50_4 b10_0_3 b10_1_3 b10_2_3 b10_3_3 b10_4_3), .row (.slice A_row16_2 l_row16_2.length c_row16_2) 124 k_Point.sz l_row16_2.length cs_row16_2] [RE.chunks k_Point cs_row16_2 l_row16_2] := H.below H2.base
  clear H2
  refine ⟨_, rfl, ?_⟩
  refine RL_p (xm (tup [.agg (L50_5 v32).toArray, ii v32.2])) ?_
  refine RL_p (xe (.agg (L50_5 v32).toArray)) ?_
  refine RL_p (xe (ii v32.2)) ?_
  refine RL_cons (OA ze124 H (fun w35 b34 (H : Sep ok w w35 [.blk b1 125 (L50_0 a1), .blk b7 124 (L50_4 b7_0_3 b7_1_3 b7_2_3 b7_3_3 b7_4_3), .blk b10 124 (L50_4 b10_0_3 b10_1_3 b10_2_3 b10_3_3 b10_4_3), .row (.slice A_row16_2 l_row16_2.length c_row16_2) 124 k_Point.sz l_row16_2.length cs_row16_2, .blk b34 124 L50_2] [RE.chunks k_Point cs_row16_2 l_row16_2]) => ?_))
  refine RL_cons (OS 4 0 (L50_5 v32) sz124 H (fun w36 (H : Sep ok w w36 [.blk b1 125 (L50_0 a1), .blk b7 124 (L50_4 b7_0_3 b7_1_3 b7_2_3 b7_3_3 b7_4_3), .blk b10 124 (L50_4 b10_0_3 b10_1_3 b10_2_3 b10_3_3 b10_4_3), .row (.slice A_row16_2 l_row16_2.length c_row16_2) 124 k_Point.sz l_row16_2.length cs_row16_2, .blk b34 124 (L50_5 v32)] [RE.chunks k_Point cs_row16_2 l_row16_2]) => ?_))
  refine RL_p (xa (ii v32.2)) ?_
  refine RL_nil ?_
  have H : S50_1 ok w w36 b1 a1 A_row16_2 l_row16_2 c_row16_2 cs_row16_2 b34 v32 := (H.pickL [0, 3, 4] (by decide))
  refine W_region ?_
  refine RL_p (xm (.slice A_row16_2 l_row16_2.length c_row16_2)) ?_
  refine RL_p (xA 0 (L50_5 v32) ag124 (H.c 2)) ?_
  refine RL_cons (O_buildSlice (vs := [(0, .agg (L50_5 v32).toArray)]) (cs := [ii v32.1.P.X, ii v32.1.P.Y, ii v32.1.P.Z, ii v32.1.U, ii v32.1.V]) (by exact wn0 rfl) (by rfl) sl153 sz124 ze124 (by rfl) (by rfl) (by rfl) (by kernel_rfl) H (fun w38 b37 (H : S50_2 ok w w38 b1 a1 A_row16_2 l_row16_2 c_row16_2 cs_row16_2 b34 v32 b37) => ?_))
  obtain ⟨l43, hl44, hb45, hm⟩ := apd_some hm
  refine RL_cons (O_append (D := k_Point) (i := 1) (j := 0) (o := 0) (y := v32.1) (by exact wn0 rfl) (by rfl) (by rfl) (by rfl) H (by rfl) (by rfl) (H.c 3) rfl hl44 sl153 sz124 by124 ze124 (by rfl) (by rfl) hb45 (by rfl) (fun w39 A40 cp41 cs42 (H : Sep ok w w39 [.blk b1 125 (L50_0 a1), .row (.slice A40 l43.length cp41) 124 k_Point.sz l43.length cs42, .blk b34 124 (L50_5 v32), .blk b37 124 (L50_5 v32)] [RE.chunks k_Point cs42 l43]) => ?_))
  refine RL_p (xa (.slice A40 l43.length cp41)) ?_
  refine RL_nil ?_
  exact ⟨l43, A40, cp41, cs42, hm, ⟨rfl, rfl, rfl, rfl, rfl, rfl, trivial⟩, (H).takeL 2⟩
 rintro r' w' ⟨l_row16_1, A_row16_1, c_row16_1, cs_row16_1, hm, hA, H⟩
 obtain ⟨r46, rfl⟩ := regen _ hA; clear hA
 obtain ⟨w47, rfl⟩ := wld w'
 unfold m50_j1 at hm
 refine W_region ?_
 refine RL_p (xp 1) ?_
 refine RL_p (xm (ii 1)) ?_
 refine WU_succ ?_
 refine Wr ?_
 refine RL_p (xL) ?_
 refine W_seq ?_
 refine Wt ?_
 refine W_skip ?_
 refine W_join (fun r' w' => ∃ (l_row16_4 : (List S_Point)), ∃ (A_row16_4 : Option Addr), ∃ (c_row16_4 : Nat), ∃ (cs_row16_4 : List Value), m50_j4 K a0 a1 l_row16_4 = some res ∧ Agr [(0, ii a0), (3, pp b1), (4, .slice none 0 0), (7, .slice A_row16_4 l_row16_4.length c_row16_4), (22, .agg (L50_0 a1).toArray), (23, ii 1)] r' ∧ Sep ok w w' [.blk b1 125 (L50_0 a1), .row (.slice A_row16_4 l_row16_4.length c_row16_4) 124 k_Point.sz l_row16_4.length cs_row16_4] [RE.chunks k_Point cs_row16_4 l_row16_4]) ?_ ?_
 ·show W _ _ _ _ _ _
  refine W_block ?_
  refine Wr ?_
  refine RL_p (xm (ii 1)) ?_
  refine RL_p (xJ (L50_3 a1) ar125 ag124) ?_
  refine RL_cons (OA ze124 H (fun w49 b48 (H : Sep ok w w49 [.blk b1 125 (L50_0 a1), .row (.slice A_row16_1 l_row16_1.length c_row16_1) 124 k_Point.sz l_row16_1.length cs_row16_1, .blk b48 124 L50_2] [RE.chunks k_Point cs_row16_1 l_row16_1]) => ?_))
  refine RL_p (xa (ii 1)) ?_
  refine RL_cons (OS 2 0 (L50_3 a1) sz124 H (fun w50 (H : Sep ok w w50 [.blk b1 125 (L50_0 a1), .row (.slice A_row16_1 l_row16_1.length c_row16_1) 124 k_Point.sz l_row16_1.length cs_row16_1, .blk b48 124 (L50_3 a1)] [RE.chunks k_Point cs_row16_1 l_row16_1]) => ?_))
  refine Wr ?_
  refine RL_p (xm (ii 1)) ?_
  refine RL_p (xp 2) ?_
  refine RL_p (x_rem (by rfl) (by rfl) (by decide)) ?_
  refine RL_p (xI ar125 sz124) ?_
  refine RL_p (xA 10 (L50_6 a1) ag124 (H.c 0)) ?_
  refine RL_cons (OA ze124 H (fun w52 b51 (H : Sep ok w w52 [.blk b1 125 (L50_0 a1), .row (.slice A_row16_1 l_row16_1.length c_row16_1) 124 k_Point.sz l_row16_1.length cs_row16_1, .blk b48 124 (L50_3 a1), .blk b51 124 L50_2] [RE.chunks k_Point cs_row16_1 l_row16_1]) => ?_))
  refine RL_cons (OS 3 0 (L50_6 a1) sz124 H (fun w53 (H : S50_3 ok w w53 b1 a1 A_row16_1 l_row16_1 c_row16_1 cs_row16_1 b48 b51) => ?_))
  refine W_seq ?_
  refine W_draw [.free 0, .free 1, .take 2, .free 3, .free 4, .free 5, .free 6, .take 7, .free 8, .free 9, .free 10, .free 11] (fun wS => S50_3 ok w wS b1 a1 A_row16_1 l_row16_1 c_row16_1 cs_row16_1 b48 b51) [] [0, 1, 3, 4, 5, 6, 8, 9, 10, 11] mixed0 (by kernel_rfl) (by kernel_rfl) (by kernel_rfl) (by rfl) (by exact H.drew) ?_
  obtain ⟨w54, hW⟩ : ∃ W : World, W = { w53 with drawn := w53.drawn + 1 } := ⟨_, rfl⟩
  rw [← hW]
  have H : S50_3 ok w w54 b1 a1 A_row16_1 l_row16_1 c_row16_1 cs_row16_1 b48 b51 := by rw [hW]; exact H.drew
  clear hW
  refine PF (a := xf fo124_0) (b := ?_)
  refine PF (a := xf fo27_2) (b := ?_)
  refine PT' (a := fun H => xl 2 (ii a1.a1.P.Z) sc3 (H.c 2)) (b := ?_)
  refine PF (a := xm (ii a0)) (b := ?_)
  refine PF (a := x_geq (by rfl) (by rfl)) (b := ?_)
  refine PF (a := xf fo124_0) (b := ?_)
  refine PF (a := xf fo27_2) (b := ?_)
  refine PT' (a := fun H => xl 2 (ii a1.a2.P.Z) sc3 (H.c 3)) (b := ?_)
  refine PF (a := xm (ii a0)) (b := ?_)
  refine PF (a := x_geq (by rfl) (by rfl)) (b := ?_)
  refine PF (a := xa (.bool (decide (a0 ≤ a1.a1.P.Z)))) (b := ?_)
  refine PF (a := xa (.bool (decide (a0 ≤ a1.a2.P.Z)))) (b := ?_)
  refine PR_nil ?_
  refine W_join (fun r' w' => ∃ (l_row16_5 : (List S_Point)), ∃ (A_row16_5 : Option Addr), ∃ (c_row16_5 : Nat), ∃ (cs_row16_5 : List Value), m50_j5 K a0 a1 l_row16_5 = some res ∧ Agr [(0, ii a0), (3, pp b1), (4, .slice none 0 0), (7, .slice A_row16_5 l_row16_5.length c_row16_5), (9, pp b48), (10, pp b51), (11, .bool (decide (a0 ≤ a1.a1.P.Z))), (12, .bool (decide (a0 ≤ a1.a2.P.Z))), (22, .agg (L50_0 a1).toArray), (23, ii 1)] r' ∧ Sep ok w w' [.blk b1 125 (L50_0 a1), .row (.slice A_row16_5 l_row16_5.length c_row16_5) 124 k_Point.sz l_row16_5.length cs_row16_5, .blk b48 124 (L50_3 a1), .blk b51 124 (L50_6 a1)] [RE.chunks k_Point cs_row16_5 l_row16_5]) ?_ ?_
  ·show W _ _ _ _ _ _
   refine Wr ?_
   refine RL_p (xm (.bool (decide (a0 ≤ a1.a1.P.Z)))) ?_
   refine Wc (fun hb => ?_) (fun hb => ?_)
   ·have hm := cond_t hb hm
    refine W_region ?_
    refine RL_p (xm (.slice A_row16_1 l_row16_1.length c_row16_1)) ?_
    refine RL_p (xA 0 (L50_3 a1) ag124 (H.c 2)) ?_
    refine RL_cons (O_buildSlice (vs := [(0, .agg (L50_3 a1).toArray)]) (cs := [ii a1.a1.P.X, ii a1.a1.P.Y, ii a1.a1.P.Z, ii a1.a1.U, ii a1.a1.V]) (by exact wn0 rfl) (by rfl) sl153 sz124 ze124 (by rfl) (by rfl) (by rfl) (by kernel_rfl) H (fun w56 b55 (H : Sep ok w w56 [.blk b1 125 (L50_0 a1), .row (.slice A_row16_1 l_row16_1.length c_row16_1) 124 k_Point.sz l_row16_1.length cs_row16_1, .blk b48 124 (L50_3 a1), .blk b51 124 (L50_6 a1), .blk b55 124 (L50_3 a1)] [RE.chunks k_Point cs_row16_1 l_row16_1]) => ?_))
    obtain ⟨l61, hl62, hb63, hm⟩ := apd_some hm
    refine RL_cons (O_append (D := k_Point) (i := 1) (j := 0) (o := 0) (y := a1.a1) (by exact wn0 rfl) (by rfl) (by rfl) (by rfl) H (by rfl) (by rfl) (H.c 4) rfl hl62 sl153 sz124 by124 ze124 (by rfl) (by rfl) hb63 (by rfl) (fun w57 A58 cp59 cs60 (H : Sep ok w w57 [.blk b1 125 (L50_0 a1), .row (.slice A58 l61.length cp59) 124 k_Point.sz l61.length cs60, .blk b48 124 (L50_3 a1), .blk b51 124 (L50_6 a1), .blk b55 124 (L50_3 a1)] [RE.chunks k_Point cs60 l61]) => ?_))
    refine RL_p (xa (.slice A58 l61.length cp59)) ?_
    refine RL_nil ?_
    exact ⟨l61, A58, cp59, cs60, hm, ⟨rfl, rfl, rfl, rfl, rfl, rfl, rfl, rfl, rfl, rfl, trivial⟩, (H).takeL 4⟩
   have hm := cond_f hb hm
   refine W_skip ?_
   exact ⟨l_row16_1, A_row16_1, c_row16_1, cs_row16_1, hm, ⟨rfl, rfl, rfl, rfl, rfl, rfl, rfl, rfl, rfl, rfl, trivial⟩, H⟩
  rintro r' w' ⟨l_row16_5, A_row16_5, c_row16_5, cs_row16_5, hm, hA, H⟩
  obtain ⟨r64, rfl⟩ := regen _ hA; clear hA
  obtain ⟨w65, rfl⟩ := wld w'
  unfold m50_j5 at hm
  refine W_seq ?_
  refine Wr ?_
  refine RL_p (xm (.bool (decide (a0 ≤ a1.a1.P.Z)))) ?_
  refine RL_p (xm (.bool (decide (a0 ≤ a1.a2.P.Z)))) ?_
  refine RL_p (x_eqlb un4 (by rfl) (by rfl)) ?_
  refine Wc (fun hb => ?_) (fun hb => ?_)
  ·have hm := cond_t hb hm
   refine W_exit ?_
   exact ⟨l_row16_5, A_row16_5, c_row16_5, cs_row16_5, hm, ⟨rfl, rfl, rfl, rfl, rfl, rfl, trivial⟩, (H).takeL 2⟩
  have hm := cond_f hb hm
  refine W_skip ?_
  refine W_join (fun r' w' => ∃ (b48_0_6 : Int), ∃ (b48_1_6 : Int), ∃ (b48_2_6 : Int), ∃ (b48_3_6 : Int), ∃ (b48_4_6 : Int), ∃ (b51_0_6 : Int), ∃ (b51_1_6 : Int), ∃ (b51_2_6 : Int), ∃ (b51_3_6 : Int), ∃ (b51_4_6 : Int), ∃ (A_row16_5 : Option Addr), ∃ (c_row16_5 : Nat), ∃ (cs_row16_5 : List Value), m50_j6 K a0 a1 l_row16_5 b48_0_6 b48_1_6 b48_2_6 b48_3_6 b48_4_6 b51_0_6 b51_1_6 b51_2_6 b51_3_6 b51_4_6 = some res ∧ Agr [(0, ii a0), (3, pp b1), (4, .slice none 0 0), (7, .slice A_row16_5 l_row16_5.length c_row16_5), (9, pp b48), (10, pp b51), (22, .agg (L50_0 a1).toArray), (23, ii 1)] r' ∧ Sep ok w w' [.blk b1 125 (L50_0 a1), .row (.slice A_row16_5 l_row16_5.length c_row16_5) 124 k_Point.sz l_row16_5.length cs_row16_5, .blk b48 124 [ii b48_0_6, ii b48_1_6, ii b48_2_6, ii b48_3_6, ii b48_4_6], .blk b51 124 [ii b51_0_6, ii b51_1_6, ii b51_2_6, ii b51_3_6, ii b51_4_6]] [RE.chunks k_Point cs_row16_5 l_row16_5]) ?_ ?_
  ·show W _ _ _ _ _ _
   refine Wr ?_
   refine RL_p (xm (.bool (decide (a0 ≤ a1.a1.P.Z)))) ?_
   refine Wc (fun hb => ?_) (fun hb => ?_)
   ·have hm := cond_t hb hm
    refine W_region ?_
    refine RL_p (xA 0 (L50_6 a1) ag124 (H.c 3)) ?_
    refine RL_p (xA 0 (L50_3 a1) ag124 (H.c 2)) ?_
    refine RL_cons (OS 2 0 (L50_6 a1) sz124 H (fun w66 (H : Sep ok w w66 [.blk b1 125 (L50_0 a1), .row (.slice A_row16_5 l_row16_5.length c_row16_5) 124 k_Point.sz l_row16_5.length cs_row16_5, .blk b48 124 (L50_6 a1), .blk b51 124 (L50_6 a1)] [RE.chunks k_Point cs_row16_5 l_row16_5]) => ?_))
    refine RL_cons (OS 3 0 (L50_3 a1) sz124 H (fun w67 (H : Sep ok w w67 [.blk b1 125 (L50_0 a1), .row (.slice A_row16_5 l_row16_5.length c_row16_5) 124 k_Point.sz l_row16_5.length cs_row16_5, .blk b48 124 (L50_6 a1), .blk b51 124 (L50_3 a1)] [RE.chunks k_Point cs_row16_5 l_row16_5]) => ?_))
    refine RL_nil ?_
    exact ⟨a1.a2.P.X, a1.a2.P.Y, a1.a2.P.Z, a1.a2.U, a1.a2.V, a1.a1.P.X, a1.a1.P.Y, a1.a1.P.Z, a1.a1.U, a1.a1.V, A_row16_5, c_row16_5, cs_row16_5, hm, ⟨rfl, rfl, rfl, rfl, rfl, rfl, rfl, rfl, trivial⟩, H⟩
   have hm := cond_f hb hm
   refine W_skip ?_
   exact ⟨a1.a1.P.X, a1.a1.P.Y, a1.a1.P.Z, a1.a1.U, a1.a1.V, a1.a2.P.X, a1.a2.P.Y, a1.a2.P.Z, a1.a2.U, a1.a2.V, A_row16_5, c_row16_5, cs_row16_5, hm, ⟨rfl, rfl, rfl, rfl, rfl, rfl, rfl, rfl, trivial⟩, H⟩
  rintro r' w' ⟨b48_0_6, b48_1_6, b48_2_6, b48_3_6, b48_4_6, b51_0_6, b51_1_6, b51_2_6, b51_3_6, b51_4_6, A_row16_5, c_row16_5, cs_row16_5, hm, hA, H⟩
  obtain ⟨r68, rfl⟩ := regen _ hA; clear hA
  obtain ⟨w69, rfl⟩ := wld w'
  unfold m50_j6 at hm
  refine Wr ?_
  refine RL_p (xm (ii a0)) ?_
  refine RL_p (xA 0 (L50_4 b48_0_6 b48_1_6 b48_2_6 b48_3_6 b48_4_6) ag124 (H.c 2)) ?_
  refine RL_p (xA 0 (L50_4 b51_0_6 b51_1_6 b51_2_6 b51_3_6 b51_4_6) ag124 (H.c 3)) ?_
  obtain ⟨v71, hv70, hm⟩ := bind_some hm
  refine RL_cons (OC (xc [ii a0, .agg (L50_4 b48_0_6 b48_1_6 b48_2_6 b48_3_6 b48_4_6).toArray, .agg (L50_4 b51_0_6 b51_1_6 b51_2_6 b51_3_6 b51_4_6).toArray] (cf71 _ _)) (c71 okT K w69 a0 (⟨(⟨b48_0_6, b48_1_6, b48_2_6⟩ : S_Vec), b48_3_6, b48_4_6⟩ : S_Point) (⟨(⟨b51_0_6, b51_1_6, b51_2_6⟩ : S_Vec), b51_3_6, b51_4_6⟩ : S_Point)  v71 hv70) ?_)
  rintro e w72 ⟨rfl, H2⟩
  have H : Sep ok w w72 [.blk b1 125 (L50_0 a1), .row (.slice A_row16_5 l_row16_5.length c_row16_5) 124 k_Point.sz l_row16_5.length cs_row16_5, .blk b48 124 (L50_4 b48_0_6 b48_1_6 b48_2_6 b48_3_6 b48_4_6), .blk b51 124 (L50_4 b51_0_6 b51_1_6 b51_2_6 b51_3_6 b51_4_6)] [RE.chunks k_Point cs_row16_5 l_row16_5] := H.below H2.base
  clear H2
  refine ⟨_, rfl, ?_⟩
  refine RL_p (xm (tup [.agg (L50_5 v71).toArray, ii v71.2])) ?_
  refine RL_p (xe (.agg (L50_5 v71).toArray)) ?_
  refine RL_p (xe (ii v71.2)) ?_
  refine RL_cons (OA ze124 H (fun w74 b73 (H : Sep ok w w74 [.blk b1 125 (L50_0 a1), .row (.slice A_row16_5 l_row16_5.length c_row16_5) 124 k_Point.sz l_row16_5.length cs_row16_5, .blk b48 124 (L50_4 b48_0_6 b48_1_6 b48_2_6 b48_3_6 b48_4_6), .blk b51 124 (L50_4 b51_0_6 b51_1_6 b51_2_6 b51_3_6 b51_4_6), .blk b73 124 L50_2] [RE.chunks k_Point cs_row16_5 l_row16_5]) => ?_))
  refine RL_cons (OS 4 0 (L50_5 v71) sz124 H (fun w75 (H : Sep ok w w75 [.blk b1 125 (L50_0 a1), .row (.slice A_row16_5 l_row16_5.length c_row16_5) 124 k_Point.sz l_row16_5.length cs_row16_5, .blk b48 124 (L50_4 b48_0_6 b48_1_6 b48_2_6 b48_3_6 b48_4_6), .blk b51 124 (L50_4 b51_0_6 b51_1_6 b51_2_6 b51_3_6 b51_4_6), .blk b73 124 (L50_5 v71)] [RE.chunks k_Point cs_row16_5 l_row16_5]) => ?_))
  refine RL_p (xa (ii v71.2)) ?_
  refine RL_nil ?_
  have H : S50_1 ok w w75 b1 a1 A_row16_5 l_row16_5 c_row16_5 cs_row16_5 b73 v71 := (H.pickL [0, 1, 4] (by decide))
  refine W_region ?_
  refine RL_p (xm (.slice A_row16_5 l_row16_5.length c_row16_5)) ?_
  refine RL_p (xA 0 (L50_5 v71) ag124 (H.c 2)) ?_
  refine RL_cons (O_buildSlice (vs := [(0, .agg (L50_5 v71).toArray)]) (cs := [ii v71.1.P.X, ii v71.1.P.Y, ii v71.1.P.Z, ii v71.1.U, ii v71.1.V]) (by exact wn0 rfl) (by rfl) sl153 sz124 ze124 (by rfl) (by rfl) (by rfl) (by kernel_rfl) H (fun w77 b76 (H : S50_2 ok w w77 b1 a1 A_row16_5 l_row16_5 c_row16_5 cs_row16_5 b73 v71 b76) => ?_))
  obtain ⟨l82, hl83, hb84, hm⟩ := apd_some hm
  refine RL_cons (O_append (D := k_Point) (i := 1) (j := 0) (o := 0) (y := v71.1) (by exact wn0 rfl) (by rfl) (by rfl) (by rfl) H (by rfl) (by rfl) (H.c 3) rfl hl83 sl153 sz124 by124 ze124 (by rfl) (by rfl) hb84 (by rfl) (fun w78 A79 cp80 cs81 (H : Sep ok w w78 [.blk b1 125 (L50_0 a1), .row (.slice A79 l82.length cp80) 124 k_Point.sz l82.length cs81, .blk b73 124 (L50_5 v71), .blk b76 124 (L50_5 v71)] [RE.chunks k_Point cs81 l82]) => ?_))
  refine RL_p (xa (.slice A79 l82.length cp80)) ?_
  refine RL_nil ?_
  exact ⟨l82, A79, cp80, cs81, hm, ⟨rfl, rfl, rfl, rfl, rfl, rfl, trivial⟩, (H).takeL 2⟩
 rintro r' w' ⟨l_row16_4, A_row16_4, c_row16_4, cs_row16_4, hm, hA, H⟩
 obtain ⟨r85, rfl⟩ := regen _ hA; clear hA
 obtain ⟨w86, rfl⟩ := wld w'
 unfold m50_j4 at hm
 refine W_region ?_
 refine RL_p (xp 2) ?_
 refine RL_p (xm (ii 2)) ?_
 refine WU_succ ?_
 refine Wr ?_
 refine RL_p (xL) ?_
 refine W_seq ?_
 refine Wt ?_
 refine W_skip ?_
 refine W_join (fun r' w' => ∃ (l_row16_7 : (List S_Point)), ∃ (A_row16_7 : Option Addr), ∃ (c_row16_7 : Nat), ∃ (cs_row16_7 : List Value), m50_j7 K l_row16_7 = some res ∧ Agr [(0, ii a0), (3, pp b1), (4, .slice none 0 0), (7, .slice A_row16_7 l_row16_7.length c_row16_7), (22, .agg (L50_0 a1).toArray), (23, ii 2)] r' ∧ Sep ok w w' [.blk b1 125 (L50_0 a1), .row (.slice A_row16_7 l_row16_7.length c_row16_7) 124 k_Point.sz l_row16_7.length cs_row16_7] [RE.chunks k_Point cs_row16_7 l_row16_7]) ?_ ?_
 ·show W _ _ _ _ _ _
  refine W_block ?_
  refine Wr ?_
  refine RL_p (xm (ii 2)) ?_
  refine RL_p (xJ (L50_6 a1) ar125 ag124) ?_
  refine RL_cons (OA ze124 H (fun w88 b87 (H : Sep ok w w88 [.blk b1 125 (L50_0 a1), .row (.slice A_row16_4 l_row16_4.length c_row16_4) 124 k_Point.sz l_row16_4.length cs_row16_4, .blk b87 124 L50_2] [RE.chunks k_Point cs_row16_4 l_row16_4]) => ?_))
  refine RL_p (xa (ii 2)) ?_
  refine RL_cons (OS 2 0 (L50_6 a1) sz124 H (fun w89 (H : Sep ok w w89 [.blk b1 125 (L50_0 a1), .row (.slice A_row16_4 l_row16_4.length c_row16_4) 124 k_Point.sz l_row16_4.length cs_row16_4, .blk b87 124 (L50_6 a1)] [RE.chunks k_Point cs_row16_4 l_row16_4]) => ?_))
  refine Wr ?_
  refine RL_p (xm (ii 2)) ?_
  refine RL_p (xp 3) ?_
  refine RL_p (x_rem (by rfl) (by rfl) (by decide)) ?_
  refine RL_p (xI ar125 sz124) ?_
  refine RL_p (xA 0 (L50_1 a1) ag124 (H.c 0)) ?_
  refine RL_cons (OA ze124 H (fun w91 b90 (H : Sep ok w w91 [.blk b1 125 (L50_0 a1), .row (.slice A_row16_4 l_row16_4.length c_row16_4) 124 k_Point.sz l_row16_4.length cs_row16_4, .blk b87 124 (L50_6 a1), .blk b90 124 L50_2] [RE.chunks k_Point cs_row16_4 l_row16_4]) => ?_))
  refine RL_cons (OS 3 0 (L50_1 a1) sz124 H (fun w92 (H : S50_4 ok w w92 b1 a1 A_row16_4 l_row16_4 c_row16_4 cs_row16_4 b87 b90) => ?_))
  refine W_seq ?_
  refine W_draw [.free 0, .free 1, .take 2, .free 3, .free 4, .free 5, .free 6, .take 7, .free 8, .free 9, .free 10, .free 11] (fun wS => S50_4 ok w wS b1 a1 A_row16_4 l_row16_4 c_row16_4 cs_row16_4 b87 b90) [] [0, 1, 3, 4, 5, 6, 8, 9, 10, 11] mixed0 (by kernel_rfl) (by kernel_rfl) (by kernel_rfl) (by rfl) (by exact H.drew) ?_
  obtain ⟨w93, hW⟩ : ∃ W : World, W = { w92 with drawn := w92.drawn + 1 } := ⟨_, rfl⟩
  rw [← hW]
  have H : S50_4 ok w w93 b1 a1 A_row16_4 l_row16_4 c_row16_4 cs_row16_4 b87 b90 := by rw [hW]; exact H.drew
  clear hW
  refine PF (a := xf fo124_0) (b := ?_)
  refine PF (a := xf fo27_2) (b := ?_)
  refine PT' (a := fun H => xl 2 (ii a1.a2.P.Z) sc3 (H.c 2)) (b := ?_)
  refine PF (a := xm (ii a0)) (b := ?_)
  refine PF (a := x_geq (by rfl) (by rfl)) (b := ?_)
  refine PF (a := xf fo124_0) (b := ?_)
  refine PF (a := xf fo27_2) (b := ?_)
  refine PT' (a := fun H => xl 2 (ii a1.a0.P.Z) sc3 (H.c 3)) (b := ?_)
  refine PF (a := xm (ii a0)) (b := ?_)
  refine PF (a := x_geq (by rfl) (by rfl)) (b := ?_)
  refine PF (a := xa (.bool (decide (a0 ≤ a1.a2.P.Z)))) (b := ?_)
  refine PF (a := xa (.bool (decide (a0 ≤ a1.a0.P.Z)))) (b := ?_)
  refine PR_nil ?_
  refine W_join (fun r' w' => ∃ (l_row16_8 : (List S_Point)), ∃ (A_row16_8 : Option Addr), ∃ (c_row16_8 : Nat), ∃ (cs_row16_8 : List Value), m50_j8 K a0 a1 l_row16_8 = some res ∧ Agr [(0, ii a0), (3, pp b1), (4, .slice none 0 0), (7, .slice A_row16_8 l_row16_8.length c_row16_8), (9, pp b87), (10, pp b90), (11, .bool (decide (a0 ≤ a1.a2.P.Z))), (12, .bool (decide (a0 ≤ a1.a0.P.Z))), (22, .agg (L50_0 a1).toArray), (23, ii 2)] r' ∧ Sep ok w w' [.blk b1 125 (L50_0 a1), .row (.slice A_row16_8 l_row16_8.length c_row16_8) 124 k_Point.sz l_row16_8.length cs_row16_8, .blk b87 124 (L50_6 a1), .blk b90 124 (L50_1 a1)] [RE.chunks k_Point cs_row16_8 l_row16_8]) ?_ ?_
  ·show W _ _ _ _ _ _
   refine Wr ?_
   refine RL_p (xm (.bool (decide (a0 ≤ a1.a2.P.Z)))) ?_
   refine Wc (fun hb => ?_) (fun hb => ?_)
   ·have hm := cond_t hb hm
    refine W_region ?_
    refine RL_p (xm (.slice A_row16_4 l_row16_4.length c_row16_4)) ?_
    refine RL_p (xA 0 (L50_6 a1) ag124 (H.c 2)) ?_
    refine RL_cons (O_buildSlice (vs := [(0, .agg (L50_6 a1).toArray)]) (cs := [ii a1.a2.P.X, ii a1.a2.P.Y, ii a1.a2.P.Z, ii a1.a2.U, ii a1.a2.V]) (by exact wn0 rfl) (by rfl) sl153 sz124 ze124 (by rfl) (by rfl) (by rfl) (by kernel_rfl) H (fun w95 b94 (H : Sep ok w w95 [.blk b1 125 (L50_0 a1), .row (.slice A_row16_4 l_row16_4.length c_row16_4) 124 k_Point.sz l_row16_4.length cs_row16_4, .blk b87 124 (L50_6 a1), .blk b90 124 (L50_1 a1), .blk b94 124 (L50_6 a1)] [RE.chunks k_Point cs_row16_4 l_row16_4]) => ?_))
    obtain ⟨l100, hl101, hb102, hm⟩ := apd_some hm
    refine RL_cons (O_append (D := k_Point) (i := 1) (j := 0) (o := 0) (y := a1.a2) (by exact wn0 rfl) (by rfl) (by rfl) (by rfl) H (by rfl) (by rfl) (H.c 4) rfl hl101 sl153 sz124 by124 ze124 (by rfl) (by rfl) hb102 (by rfl) (fun w96 A97 cp98 cs99 (H : Sep ok w w96 [.blk b1 125 (L50_0 a1), .row (.slice A97 l100.length cp98) 124 k_Point.sz l100.length cs99, .blk b87 124 (L50_6 a1), .blk b90 124 (L50_1 a1), .blk b94 124 (L50_6 a1)] [RE.chunks k_Point cs99 l100]) => ?_))
    refine RL_p (xa (.slice A97 l100.length cp98)) ?_
    refine RL_nil ?_
    exact ⟨l100, A97, cp98, cs99, hm, ⟨rfl, rfl, rfl, rfl, rfl, rfl, rfl, rfl, rfl, rfl, trivial⟩, (H).takeL 4⟩
   have hm := cond_f hb hm
   refine W_skip ?_
   exact ⟨l_row16_4, A_row16_4, c_row16_4, cs_row16_4, hm, ⟨rfl, rfl, rfl, rfl, rfl, rfl, rfl, rfl, rfl, rfl, trivial⟩, H⟩
  rintro r' w' ⟨l_row16_8, A_row16_8, c_row16_8, cs_row16_8, hm, hA, H⟩
  obtain ⟨r103, rfl⟩ := regen _ hA; clear hA
  obtain ⟨w104, rfl⟩ := wld w'
  unfold m50_j8 at hm
  refine W_seq ?_
  refine Wr ?_
  refine RL_p (xm (.bool (decide (a0 ≤ a1.a2.P.Z)))) ?_
  refine RL_p (xm (.bool (decide (a0 ≤ a1.a0.P.Z)))) ?_
  refine RL_p (x_eqlb un4 (by rfl) (by rfl)) ?_
  refine Wc (fun hb => ?_) (fun hb => ?_)
  ·have hm := cond_t hb hm
   refine W_exit ?_
   exact ⟨l_row16_8, A_row16_8, c_row16_8, cs_row16_8, hm, ⟨rfl, rfl, rfl, rfl, rfl, rfl, trivial⟩, (H).takeL 2⟩
  have hm := cond_f hb hm
  refine W_skip ?_
  refine W_join (fun r' w' => ∃ (b87_0_9 : Int), ∃ (b87_1_9 : Int), ∃ (b87_2_9 : Int), ∃ (b87_3_9 : Int), ∃ (b87_4_9 : Int), ∃ (b90_0_9 : Int), ∃ (b90_1_9 : Int), ∃ (b90_2_9 : Int), ∃ (b90_3_9 : Int), ∃ (b90_4_9 : Int), ∃ (A_row16_8 : Option Addr), ∃ (c_row16_8 : Nat), ∃ (cs_row16_8 : List Value), m50_j9 K a0 l_row16_8 b87_0_9 b87_1_9 b87_2_9 b87_3_9 b87_4_9 b90_0_9 b90_1_9 b90_2_9 b90_3_9 b90_4_9 = some res ∧ Agr [(0, ii a0), (3, pp b1), (4, .slice none 0 0), (7, .slice A_row16_8 l_row16_8.length c_row16_8), (9, pp b87), (10, pp b90), (22, .agg (L50_0 a1).toArray), (23, ii 2)] r' ∧ Sep ok w w' [.blk b1 125 (L50_0 a1), .row (.slice A_row16_8 l_row16_8.length c_row16_8) 124 k_Point.sz l_row16_8.length cs_row16_8, .blk b87 124 [ii b87_0_9, ii b87_1_9, ii b87_2_9, ii b87_3_9, ii b87_4_9], .blk b90 124 [ii b90_0_9, ii b90_1_9, ii b90_2_9, ii b90_3_9, ii b90_4_9]] [RE.chunks k_Point cs_row16_8 l_row16_8]) ?_ ?_
  ·show W _ _ _ _ _ _
   refine Wr ?_
   refine RL_p (xm (.bool (decide (a0 ≤ a1.a2.P.Z)))) ?_
   refine Wc (fun hb => ?_) (fun hb => ?_)
   ·have hm := cond_t hb hm
    refine W_region ?_
    refine RL_p (xA 0 (L50_1 a1) ag124 (H.c 3)) ?_
    refine RL_p (xA 0 (L50_6 a1) ag124 (H.c 2)) ?_
    refine RL_cons (OS 2 0 (L50_1 a1) sz124 H (fun w105 (H : Sep ok w w105 [.blk b1 125 (L50_0 a1), .row (.slice A_row16_8 l_row16_8.length c_row16_8) 124 k_Point.sz l_row16_8.length cs_row16_8, .blk b87 124 (L50_1 a1), .blk b90 124 (L50_1 a1)] [RE.chunks k_Point cs_row16_8 l_row16_8]) => ?_))
    refine RL_cons (OS 3 0 (L50_6 a1) sz124 H (fun w106 (H : Sep ok w w106 [.blk b1 125 (L50_0 a1), .row (.slice A_row16_8 l_row16_8.length c_row16_8) 124 k_Point.sz l_row16_8.length cs_row16_8, .blk b87 124 (L50_1 a1), .blk b90 124 (L50_6 a1)] [RE.chunks k_Point cs_row16_8 l_row16_8]) => ?_))
    refine RL_nil ?_
    exact ⟨a1.a0.P.X, a1.a0.P.Y, a1.a0.P.Z, a1.a0.U, a1.a0.V, a1.a2.P.X, a1.a2.P.Y, a1.a2.P.Z, a1.a2.U, a1.a2.V, A_row16_8, c_row16_8, cs_row16_8, hm, ⟨rfl, rfl, rfl, rfl, rfl, rfl, rfl, rfl, trivial⟩, H⟩
   have hm := cond_f hb hm
   refine W_skip ?_
   exact ⟨a1.a2.P.X, a1.a2.P.Y, a1.a2.P.Z, a1.a2.U, a1.a2.V, a1.a0.P.X, a1.a0.P.Y, a1.a0.P.Z, a1.a0.U, a1.a0.V, A_row16_8, c_row16_8, cs_row16_8, hm, ⟨rfl, rfl, rfl, rfl, rfl, rfl, rfl, rfl, trivial⟩, H⟩
  rintro r' w' ⟨b87_0_9, b87_1_9, b87_2_9, b87_3_9, b87_4_9, b90_0_9, b90_1_9, b90_2_9, b90_3_9, b90_4_9, A_row16_8, c_row16_8, cs_row16_8, hm, hA, H⟩
  obtain ⟨r107, rfl⟩ := regen _ hA; clear hA
  obtain ⟨w108, rfl⟩ := wld w'
  unfold m50_j9 at hm
  refine Wr ?_
  refine RL_p (xm (ii a0)) ?_
  refine RL_p (xA 0 (L50_4 b87_0_9 b87_1_9 b87_2_9 b87_3_9 b87_4_9) ag124 (H.c 2)) ?_
  refine RL_p (xA 0 (L50_4 b90_0_9 b90_1_9 b90_2_9 b90_3_9 b90_4_9) ag124 (H.c 3)) ?_
  obtain ⟨v110, hv109, hm⟩ := bind_some hm
  refine RL_cons (OC (xc [ii a0, .agg (L50_4 b87_0_9 b87_1_9 b87_2_9 b87_3_9 b87_4_9).toArray, .agg (L50_4 b90_0_9 b90_1_9 b90_2_9 b90_3_9 b90_4_9).toArray] (cf71 _ _)) (c71 okT K w108 a0 (⟨(⟨b87_0_9, b87_1_9, b87_2_9⟩ : S_Vec), b87_3_9, b87_4_9⟩ : S_Point) (⟨(⟨b90_0_9, b90_1_9, b90_2_9⟩ : S_Vec), b90_3_9, b90_4_9⟩ : S_Point)  v110 hv109) ?_)
  rintro e w111 ⟨rfl, H2⟩
  have H : Sep ok w w111 [.blk b1 125 (L50_0 a1), .row (.slice A_row16_8 l_row16_8.length c_row16_8) 124 k_Point.sz l_row16_8.length cs_row16_8, .blk b87 124 (L50_4 b87_0_9 b87_1_9 b87_2_9 b87_3_9 b87_4_9), .blk b90 124 (L50_4 b90_0_9 b90_1_9 b90_2_9 b90_3_9 b90_4_9)] [RE.chunks k_Point cs_row16_8 l_row16_8] := H.below H2.base
  clear H2
  refine ⟨_, rfl, ?_⟩
  refine RL_p (xm (tup [.agg (L50_5 v110).toArray, ii v110.2])) ?_
  refine RL_p (xe (.agg (L50_5 v110).toArray)) ?_
  refine RL_p (xe (ii v110.2)) ?_
  refine RL_cons (OA ze124 H (fun w113 b112 (H : Sep ok w w113 [.blk b1 125 (L50_0 a1), .row (.slice A_row16_8 l_row16_8.length c_row16_8) 124 k_Point.sz l_row16_8.length cs_row16_8, .blk b87 124 (L50_4 b87_0_9 b87_1_9 b87_2_9 b87_3_9 b87_4_9), .blk b90 124 (L50_4 b90_0_9 b90_1_9 b90_2_9 b90_3_9 b90_4_9), .blk b112 124 L50_2] [RE.chunks k_Point cs_row16_8 l_row16_8]) => ?_))
  refine RL_cons (OS 4 0 (L50_5 v110) sz124 H (fun w114 (H : Sep ok w w114 [.blk b1 125 (L50_0 a1), .row (.slice A_row16_8 l_row16_8.length c_row16_8) 124 k_Point.sz l_row16_8.length cs_row16_8, .blk b87 124 (L50_4 b87_0_9 b87_1_9 b87_2_9 b87_3_9 b87_4_9), .blk b90 124 (L50_4 b90_0_9 b90_1_9 b90_2_9 b90_3_9 b90_4_9), .blk b112 124 (L50_5 v110)] [RE.chunks k_Point cs_row16_8 l_row16_8]) => ?_))
  refine RL_p (xa (ii v110.2)) ?_
  refine RL_nil ?_
  have H : S50_1 ok w w114 b1 a1 A_row16_8 l_row16_8 c_row16_8 cs_row16_8 b112 v110 := (H.pickL [0, 1, 4] (by decide))
  refine W_region ?_
  refine RL_p (xm (.slice A_row16_8 l_row16_8.length c_row16_8)) ?_
  refine RL_p (xA 0 (L50_5 v110) ag124 (H.c 2)) ?_
  refine RL_cons (O_buildSlice (vs := [(0, .agg (L50_5 v110).toArray)]) (cs := [ii v110.1.P.X, ii v110.1.P.Y, ii v110.1.P.Z, ii v110.1.U, ii v110.1.V]) (by exact wn0 rfl) (by rfl) sl153 sz124 ze124 (by rfl) (by rfl) (by rfl) (by kernel_rfl) H (fun w116 b115 (H : S50_2 ok w w116 b1 a1 A_row16_8 l_row16_8 c_row16_8 cs_row16_8 b112 v110 b115) => ?_))
  obtain ⟨l121, hl122, hb123, hm⟩ := apd_some hm
  refine RL_cons (O_append (D := k_Point) (i := 1) (j := 0) (o := 0) (y := v110.1) (by exact wn0 rfl) (by rfl) (by rfl) (by rfl) H (by rfl) (by rfl) (H.c 3) rfl hl122 sl153 sz124 by124 ze124 (by rfl) (by rfl) hb123 (by rfl) (fun w117 A118 cp119 cs120 (H : Sep ok w w117 [.blk b1 125 (L50_0 a1), .row (.slice A118 l121.length cp119) 124 k_Point.sz l121.length cs120, .blk b112 124 (L50_5 v110), .blk b115 124 (L50_5 v110)] [RE.chunks k_Point cs120 l121]) => ?_))
  refine RL_p (xa (.slice A118 l121.length cp119)) ?_
  refine RL_nil ?_
  exact ⟨l121, A118, cp119, cs120, hm, ⟨rfl, rfl, rfl, rfl, rfl, rfl, trivial⟩, (H).takeL 2⟩
 rintro r' w' ⟨l_row16_7, A_row16_7, c_row16_7, cs_row16_7, hm, hA, H⟩
 obtain ⟨r124, rfl⟩ := regen _ hA; clear hA
 obtain ⟨w125, rfl⟩ := wld w'
 unfold m50_j7 at hm
 refine W_region ?_
 refine RL_p (xp 3) ?_
 refine RL_p (xm (ii 3)) ?_
 refine WU_succ ?_
 refine Wr ?_
 refine RL_p (xL) ?_
 refine W_seq ?_
 refine Wf ?_
 refine W_exit ?_
 refine W_seq ?_
 refine Wr ?_
 refine RL_p (xa (ii 2)) ?_
 refine W_block ?_
 refine W_loop (fun k10 r' w' => ∃ (l_row150_10 : (List (Ar3 S_Point))), ∃ (y15_10 : Int), ∃ (A_row16_7 : Option Addr), ∃ (c_row16_7 : Nat), ∃ (cs_row16_7 : List Value), ∃ (A_row150_10 : Option Addr), ∃ (c_row150_10 : Nat), ∃ (cs_row150_10 : List Value), m50_l10 K l_row16_7 k10 l_row150_10 y15_10 = some res ∧ Agr [(4, .slice A_row150_10 l_row150_10.length c_row150_10), (7, .slice A_row16_7 l_row16_7.length c_row16_7), (15, ii y15_10)] r' ∧ Sep ok w w' [.blk b1 125 (L50_0 a1), .row (.slice A_row16_7 l_row16_7.length c_row16_7) 124 k_Point.sz l_row16_7.length cs_row16_7, .row (.slice A_row150_10 l_row150_10.length c_row150_10) 125 k_Ar3_S_Point.sz l_row150_10.length cs_row150_10] [RE.chunks k_Point cs_row16_7 l_row16_7, RE.chunks k_Ar3_S_Point cs_row150_10 l_row150_10]) K ?_ ?_
 ·exact ⟨[], 2, A_row16_7, c_row16_7, cs_row16_7, none, 0, [], hm, ⟨rfl, rfl, rfl, trivial⟩, (H).nilRowK 125 k_Ar3_S_Point⟩
 rintro k10 r' w' ⟨l_row150_10, y15_10, A_row16_7, c_row16_7, cs_row16_7, A_row150_10, c_row150_10, cs_row150_10, hm, hA, H⟩
 obtain ⟨r126, rfl⟩ := regen _ hA; clear hA
 obtain ⟨w127, rfl⟩ := wld w'
 cases k10 with
 | zero => exact (none_some hm).elim
 | succ k10 =>
  have hm : m50_l10b K l_row16_7 (m50_l10 K l_row16_7 k10) l_row150_10 y15_10 = some res := hm
  unfold m50_l10b at hm
  obtain ⟨rec10, hrec10⟩ : ∃ f, m50_l10 K l_row16_7 k10 = f := ⟨_, rfl⟩
  rw [hrec10] at hm
  refine W_seq ?_
  refine Wr ?_
  refine RL_p (xm (ii y15_10)) ?_
  refine RL_p (xm (.slice A_row16_7 l_row16_7.length c_row16_7)) ?_
  refine RL_p (x_len sl153 (by rfl)) ?_
  refine RL_p (xL) ?_
  refine Wc (fun hb => ?_) (fun hb => ?_)
  ·have hm := cond_t hb hm
   refine W_skip ?_
   refine W_seq ?_
   refine W_block ?_
   refine W_draw [.free 0, .free 1, .free 2, .take 3, .free 4, .free 5, .free 6, .free 7, .take 8, .free 9, .free 10, .free 11, .take 12, .free 13, .run 14, .run 15, .free 16] (fun wS => Sep ok w wS [.blk b1 125 (L50_0 a1), .row (.slice A_row16_7 l_row16_7.length c_row16_7) 124 k_Point.sz l_row16_7.length cs_row16_7, .hole] [RE.chunks k_Point cs_row16_7 l_row16_7, RE.hole]) [] [0, 1, 2, 4, 5, 6, 7, 9, 10, 11, 13, 16] mixed0 (by kernel_rfl) (by kernel_rfl) (by kernel_rfl) (by rfl) (by exact (Sep.holeR (Sep.holeL H.drew 2) 1)) ?_
   obtain ⟨w128, hW⟩ : ∃ W : World, W = { w127 with drawn := w127.drawn + 1 } := ⟨_, rfl⟩
   rw [← hW]
   have H : Sep ok w w128 [.blk b1 125 (L50_0 a1), .row (.slice A_row16_7 l_row16_7.length c_row16_7) 124 k_Point.sz l_row16_7.length cs_row16_7, .row (.slice A_row150_10 l_row150_10.length c_row150_10) 125 k_Ar3_S_Point.sz l_row150_10.length cs_row150_10] [RE.chunks k_Point cs_row16_7 l_row16_7, RE.chunks k_Ar3_S_Point cs_row150_10 l_row150_10] := by rw [hW]; exact H.drew
   clear hW
   refine PF (a := xm (.slice A_row150_10 l_row150_10.length c_row150_10)) (b := ?_)
   refine PF (a := xm (.slice A_row16_7 l_row16_7.length c_row16_7)) (b := ?_)
   obtain ⟨el129, h130, h131, he132, hm⟩ := idx_some hm
   obtain ⟨g134, _, hA133, _, _⟩ := H.rowIdx (i := 1) (j := 0) (by rfl) (by rfl) he132
   refine PF (a := x_indexAddr sl153 sz124 (by rfl) (by rfl) hA133 h130 h131) (b := ?_)
   refine PT' (a := fun H => xA 0 (L50_7 el129) ag124 (H.rowFlatAt (n := 5) (i := 1) (j := 0) (by rfl) (by rfl) hA133 he132)) (b := ?_)
   refine PF (a := xm (.slice A_row16_7 l_row16_7.length c_row16_7)) (b := ?_)
   refine PF (a := xm (ii y15_10)) (b := ?_)
   obtain ⟨x136, ex136, qx136, ux136, hm⟩ := ck_some hm
   refine PF (a := xM ux136) (b := ?_)
   obtain ⟨el137, h138, h139, he140, hm⟩ := idx_some hm
   obtain ⟨g142, _, hA141, _, _⟩ := H.rowIdx (i := 1) (j := 0) (by rfl) (by rfl) he140
   refine PF (a := x_indexAddr sl153 sz124 (by rfl) (by rfl) hA141 h138 h139) (b := ?_)
   refine PT' (a := fun H => xA 0 (L50_7 el137) ag124 (H.rowFlatAt (n := 5) (i := 1) (j := 0) (by rfl) (by rfl) hA141 he140)) (b := ?_)
   refine PF (a := xm (.slice A_row16_7 l_row16_7.length c_row16_7)) (b := ?_)
   refine PF (a := xm (ii y15_10)) (b := ?_)
   obtain ⟨el144, h145, h146, he147, hm⟩ := idx_some hm
   obtain ⟨g149, _, hA148, _, _⟩ := H.rowIdx (i := 1) (j := 0) (by rfl) (by rfl) he147
   refine PF (a := x_indexAddr sl153 sz124 (by rfl) (by rfl) hA148 h145 h146) (b := ?_)
   refine PT' (a := fun H => xA 0 (L50_7 el144) ag124 (H.rowFlatAt (n := 5) (i := 1) (j := 0) (by rfl) (by rfl) hA148 he147)) (b := ?_)
   refine PF (a := x_build (vs := [(0, .agg (L50_7 el129).toArray), (1, .agg (L50_7 el137).toArray), (2, .agg (L50_7 el144).toArray)]) (cs := (L50_8 el129 el137 el144)) (by rfl) (by kernel_rfl)) (b := ?_)
   refine PU (a := O_buildSlice (vs := [(0, .agg (L50_8 el129 el137 el144).toArray)]) (cs := [ii el129.P.X, ii el129.P.Y, ii el129.P.Z, ii el129.U, ii el129.V, ii el137.P.X, ii el137.P.Y, ii el137.P.Z, ii el137.U, ii el137.V, ii el144.P.X, ii el144.P.Y, ii el144.P.Z, ii el144.U, ii el144.V]) (by exact wn0 rfl) (by rfl) sl129 sz125 ze125 (by rfl) (by rfl) (by rfl) (by kernel_rfl) H (fun w152 b151 (H : Sep ok w w152 [.blk b1 125 (L50_0 a1), .row (.slice A_row16_7 l_row16_7.length c_row16_7) 124 k_Point.sz l_row16_7.length cs_row16_7, .row (.slice A_row150_10 l_row150_10.length c_row150_10) 125 k_Ar3_S_Point.sz l_row150_10.length cs_row150_10, .blk b151 125 (L50_8 el129 el137 el144)] [RE.chunks k_Point cs_row16_7 l_row16_7, RE.chunks k_Ar3_S_Point cs_row150_10 l_row150_10]) => ⟨(Sep.holeR (Sep.holeL (Sep.takeL H 3) 2) 1), ?_⟩))
   obtain ⟨l157, hl158, hb159, hm⟩ := apd_some hm
   refine PU (a := O_append (D := k_Ar3_S_Point) (i := 2) (j := 1) (o := 0) (y := (⟨el129, el137, el144⟩ : (Ar3 S_Point))) (by exact wn0 rfl) (by rfl) (by rfl) (by rfl) H (by rfl) (by rfl) (H.c 3) rfl hl158 sl129 sz125 by125 ze125 (by rfl) (by rfl) hb159 (by rfl) (fun w153 A154 cp155 cs156 (H : Sep ok w w153 [.blk b1 125 (L50_0 a1), .row (.slice A_row16_7 l_row16_7.length c_row16_7) 124 k_Point.sz l_row16_7.length cs_row16_7, .row (.slice A154 l157.length cp155) 125 k_Ar3_S_Point.sz l157.length cs156, .blk b151 125 (L50_8 el129 el137 el144)] [RE.chunks k_Point cs_row16_7 l_row16_7, RE.chunks k_Ar3_S_Point cs156 l157]) => ⟨(Sep.holeR (Sep.holeL (Sep.takeL H 3) 2) 1), ?_⟩))
   refine PF (a := xa (.slice A154 l157.length cp155)) (b := ?_)
   refine PR_nil ?_
   refine W_region ?_
   refine RL_p (xm (ii y15_10)) ?_
   obtain ⟨x160, ex160, qx160, ux160, hm⟩ := ck_some hm
   refine RL_p (xP ux160) ?_
   refine RL_p (xa (ii x160)) ?_
   refine RL_nil ?_
   subst hrec10
   exact ⟨k10, Nat.lt_succ_self k10, l157, x160, A_row16_7, c_row16_7, cs_row16_7, A154, cp155, cs156, hm, ⟨rfl, rfl, rfl, trivial⟩, (H).takeL 3⟩
  have hm := cond_f hb hm
  refine W_exit ?_
  refine W_seq ?_
  have H : Sep ok w w127 [.row (.slice A_row150_10 l_row150_10.length c_row150_10) 125 k_Ar3_S_Point.sz l_row150_10.length cs_row150_10] [RE.chunks k_Ar3_S_Point cs_row150_10 l_row150_10] := ((H.pickL [2] (by decide)).pick [1])
  refine W_region ?_
  refine RL_p (xm (.slice A_row150_10 l_row150_10.length c_row150_10)) ?_
  refine RL_p (xa (.slice A_row150_10 l_row150_10.length c_row150_10)) ?_
  refine RL_p (xa (ii 0)) ?_
  refine W_ret ?_
  have H : Sep ok w w127 [.hole] [RE.rd k_Ar3_S_Point A_row150_10 c_row150_10 l_row150_10] := H.frozen (i := 0) (j := 0) (by rfl) (by rfl)
  obtain rfl := Option.some.inj hm
  exact ⟨[.slice A_row150_10 l_row150_10.length c_row150_10, ii 0], (.tmp (by rfl) (.tmp (by rfl) rfl)), A_row150_10, c_row150_10, rfl, (H.forgetAll).pick [0]⟩
end Go.Proofs.YtobkigllalbkiaaV.D

/- A plain Lean function that answers as the Go function does (none: not told), and the proof that a call answers so. Written by program. -/
set_option linter.unusedVariables false
set_option maxRecDepth 100000
set_option maxHeartbeats 4000000
namespace Go.Proofs.YtobkigllalbkiaaV.D
open Go.RowKit Go.Proofs.YtobkigllalbkiaaV
abbrev L51_0 (q0 : S_Camera) : List Value := [ii q0.Pos.X, ii q0.Pos.Y, ii q0.Pos.Z, ii q0.M.a0.a0, ii q0.M.a0.a1, ii q0.M.a0.a2, ii q0.M.a1.a0, ii q0.M.a1.a1, ii q0.M.a1.a2, ii q0.M.a2.a0, ii q0.M.a2.a1, ii q0.M.a2.a2, ii q0.Focal, ii q0.Near, ii q0.W, ii q0.H]
abbrev L51_1 (q0 : S_Point) : List Value := [ii q0.P.X, ii q0.P.Y, ii q0.P.Z, ii q0.U, ii q0.V]
abbrev L51_2  : List Value := [ii 0, ii 0, ii 0, ii 0, ii 0]
abbrev L51_3 (q0 : Int) (q1 : Int) (q2 : Int) (q3 : S_Point) : List Value := [ii q0, ii q1, ii q2, ii q3.U, ii q3.V]
abbrev L51_4 (q0 : S_Spot × Int) : List Value := [ii q0.1.X, ii q0.1.Y, ii q0.1.D, ii q0.1.U, ii q0.1.V]
def m51 (K : Nat) (a0 : S_Camera) (a1 : S_Point) : Option (S_Spot × Int) :=
 ((m14 K a0).bind fun v8 => (bif (v8 != 0) then some ((⟨0, 0, 0, 0, 0⟩ : S_Spot), v8) else ((m72 K a1).bind fun v12 => (bif (v12 != 0) then some ((⟨0, 0, 0, 0, 0⟩ : S_Spot), v12) else (bif (decide (a1.P.Z < a0.Near)) then some ((⟨0, 0, 0, 0, 0⟩ : S_Spot), 6) else (ck (8 * a0.Focal) fun x16 => (ck (x16 * a1.P.X) fun x17 => ((m29 K x17 a1.P.Z).bind fun v19 => (ck (8 * a0.Focal) fun x21 => (ck (x21 * a1.P.Y) fun x22 => ((m29 K x22 a1.P.Z).bind fun v24 => (ck (4 * a0.W) fun x27 => (ck (v19.1 + x27) fun x28 => (ck (4 * a0.H) fun x29 => (ck (x29 - v24.1) fun x30 => (nz a1.P.Z (ck (Int.tdiv 16777216 a1.P.Z) fun x31 => some ((⟨x28, x30, x31, a1.U, a1.V⟩ : S_Spot), 0))))))))))))))))))
abbrev S51_0 (q0 : Okp) (q1 q2 : World) (q3 : Nat) (q4 : S_Camera) (q5 : Nat) (q6 : S_Point) (q7 : Nat) : Prop := Sep q0 q1 q2 [.blk q3 31 (L51_0 q4), .blk q5 124 (L51_1 q6), .blk q7 86 L51_2] []
theorem c51 (ok : Okp) (K : Nat) (w : World) (a0 : S_Camera) (a1 : S_Point)  (res : S_Spot × Int) (hm : m51 K a0 a1 = some res) :
  Calls Tryd.prog 51 #[.agg (L51_0 a0).toArray, .agg (L51_1 a1).toArray] w (fun e w' => e = .returned (tup [.agg (L51_4 res).toArray, ii res.2]) ∧ Sep ok w w' [] []) := by
 refine calls_W (args := [.agg (L51_0 a0).toArray, .agg (L51_1 a1).toArray]) Tryd.func51 rfl Tryd.ntmps51 Tryd.results51 rfl fun r hr => ?_
 obtain ⟨r1, rfl⟩ := regen (r := r) [(0, .agg (L51_0 a0).toArray), (1, .agg (L51_1 a1).toArray)] ⟨hr 0 _ rfl, hr 1 _ rfl, trivial⟩
 have H : Sep ok w w [] [] := Sep.start ok w
 unfold m51 at hm
 refine Wr ?_
 refine RL_cons (OB H (fun w2 b1 (H : Sep ok w w2 [.blk b1 31 (L51_0 a0)] []) => ?_))
 refine RL_cons (OB H (fun w4 b3 (H : Sep ok w w4 [.blk b1 31 (L51_0 a0), .blk b3 124 (L51_1 a1)] []) => ?_))
 refine RL_cons (OA ze86 H (fun w6 b5 (H : S51_0 ok w w6 b1 a0 b3 a1 b5) => ?_))
 refine RL_p (xa (ii 0)) ?_
 refine W_seq ?_
 refine Wr ?_
 refine RL_p (xA 0 (L51_0 a0) ag31 (H.c 0)) ?_
 obtain ⟨v8, hv7, hm⟩ := bind_some hm
 refine RL_cons (OC (xc [.agg (L51_0 a0).toArray] (cf14 _ _)) (c14 okT K w6 a0  v8 hv7) ?_)
 rintro e w9 ⟨rfl, H2⟩
 have H : S51_0 ok w w9 b1 a0 b3 a1 b5 := H.below H2.base
 clear H2
 refine ⟨_, rfl, ?_⟩
 refine RL_p (xa (ii v8)) ?_
 refine Wr ?_
 refine RL_p (xm (ii v8)) ?_
 refine RL_p (xN) ?_
 refine Wc (fun hb => ?_) (fun hb => ?_)
 ·have hm := cond_t hb hm
  refine Wr ?_
  refine RL_p (x_build (vs := []) (cs := L51_2) (by rfl) (by kernel_rfl)) ?_
  refine RL_p (xm (ii v8)) ?_
  refine RL_cons (OS 2 0 L51_2 sz86 H (fun w10 (H : S51_0 ok w w10 b1 a0 b3 a1 b5) => ?_))
  refine RL_p (xa (ii v8)) ?_
  refine W_ret ?_
  obtain rfl := Option.some.inj hm
  exact ⟨[.agg L51_2.toArray, ii v8], (.cellA (by rfl) ag86 (H.c 2) (by rfl) (.tmp (by rfl) rfl)), rfl, H.none_⟩
 have hm := cond_f hb hm
 refine W_skip ?_
 refine W_seq ?_
 refine Wr ?_
 refine RL_p (xA 0 (L51_1 a1) ag124 (H.c 1)) ?_
 obtain ⟨v12, hv11, hm⟩ := bind_some hm
 refine RL_cons (OC (xc [.agg (L51_1 a1).toArray] (cf72 _ _)) (c72 okT K w9 a1  v12 hv11) ?_)
 rintro e w13 ⟨rfl, H2⟩
 have H : S51_0 ok w w13 b1 a0 b3 a1 b5 := H.below H2.base
 clear H2
 refine ⟨_, rfl, ?_⟩
 refine RL_p (xa (ii v12)) ?_
 refine Wr ?_
 refine RL_p (xm (ii v12)) ?_
 refine RL_p (xN) ?_
 refine Wc (fun hb => ?_) (fun hb => ?_)
 ·have hm := cond_t hb hm
  refine Wr ?_
  refine RL_p (x_build (vs := []) (cs := L51_2) (by rfl) (by kernel_rfl)) ?_
  refine RL_p (xm (ii v12)) ?_
  refine RL_cons (OS 2 0 L51_2 sz86 H (fun w14 (H : S51_0 ok w w14 b1 a0 b3 a1 b5) => ?_))
  refine RL_p (xa (ii v12)) ?_
  refine W_ret ?_
  obtain rfl := Option.some.inj hm
  exact ⟨[.agg L51_2.toArray, ii v12], (.cellA (by rfl) ag86 (H.c 2) (by rfl) (.tmp (by rfl) rfl)), rfl, H.none_⟩
 have hm := cond_f hb hm
 refine W_skip ?_
 refine W_seq ?_
 refine Wr ?_
 refine RL_p (xf fo124_0) ?_
 refine RL_p (xf fo27_2) ?_
 refine RL_p (xl 2 (ii a1.P.Z) sc3 (H.c 1)) ?_
 refine RL_p (xf fo31_3) ?_
 refine RL_p (xl 13 (ii a0.Near) sc3 (H.c 0)) ?_
 refine RL_p (xL) ?_
 refine Wc (fun hb => ?_) (fun hb => ?_)
 ·have hm := cond_t hb hm
  refine Wr ?_
  refine RL_p (x_build (vs := []) (cs := L51_2) (by rfl) (by kernel_rfl)) ?_
  refine RL_cons (OS 2 0 L51_2 sz86 H (fun w15 (H : S51_0 ok w w15 b1 a0 b3 a1 b5) => ?_))
  refine RL_p (xa (ii 6)) ?_
  refine W_ret ?_
  obtain rfl := Option.some.inj hm
  exact ⟨[.agg L51_2.toArray, ii 6], (.cellA (by rfl) ag86 (H.c 2) (by rfl) (.tmp (by rfl) rfl)), rfl, H.none_⟩
 have hm := cond_f hb hm
 refine W_skip ?_
 refine Wr ?_
 refine RL_p (xf fo31_2) ?_
 refine RL_p (xl 12 (ii a0.Focal) sc3 (H.c 0)) ?_
 obtain ⟨x16, ex16, qx16, ux16, hm⟩ := ck_some hm
 refine RL_p (xX ux16) ?_
 refine RL_p (xf fo124_0) ?_
 refine RL_p (xf fo27_0) ?_
 refine RL_p (xl 0 (ii a1.P.X) sc3 (H.c 1)) ?_
 obtain ⟨x17, ex17, qx17, ux17, hm⟩ := ck_some hm
 refine RL_p (xX ux17) ?_
 refine RL_p (xf fo124_0) ?_
 refine RL_p (xf fo27_2) ?_
 refine RL_p (xl 2 (ii a1.P.Z) sc3 (H.c 1)) ?_
 obtain ⟨v19, hv18, hm⟩ := bind_some hm
 refine RL_cons (OC (xc [ii x17, ii a1.P.Z] (cf29 _ _)) (c29 okT K w13 x17 a1.P.Z  v19 hv18) ?_)
 rintro e w20 ⟨rfl, H2⟩
 have H : S51_0 ok w w20 b1 a0 b3 a1 b5 := H.below H2.base
 clear H2
 refine ⟨_, rfl, ?_⟩
 refine RL_p (xm (tup [ii v19.1, ii v19.2])) ?_
 refine RL_p (xe (ii v19.1)) ?_
 refine RL_p (xe (ii v19.2)) ?_
 refine RL_p (xa (ii v19.1)) ?_
 refine RL_p (xa (ii v19.2)) ?_
 refine Wr ?_
 refine RL_p (xf fo31_2) ?_
 refine RL_p (xl 12 (ii a0.Focal) sc3 (H.c 0)) ?_
 obtain ⟨x21, ex21, qx21, ux21, hm⟩ := ck_some hm
 refine RL_p (xX ux21) ?_
 refine RL_p (xf fo124_0) ?_
 refine RL_p (xf fo27_1) ?_
 refine RL_p (xl 1 (ii a1.P.Y) sc3 (H.c 1)) ?_
 obtain ⟨x22, ex22, qx22, ux22, hm⟩ := ck_some hm
 refine RL_p (xX ux22) ?_
 refine RL_p (xf fo124_0) ?_
 refine RL_p (xf fo27_2) ?_
 refine RL_p (xl 2 (ii a1.P.Z) sc3 (H.c 1)) ?_
 obtain ⟨v24, hv23, hm⟩ := bind_some hm
 refine RL_cons (OC (xc [ii x22, ii a1.P.Z] (cf29 _ _)) (c29 okT K w20 x22 a1.P.Z  v24 hv23) ?_)
 rintro e w25 ⟨rfl, H2⟩
 have H : S51_0 ok w w25 b1 a0 b3 a1 b5 := H.below H2.base
 clear H2
 refine ⟨_, rfl, ?_⟩
 refine RL_p (xm (tup [ii v24.1, ii v24.2])) ?_
 refine RL_p (xe (ii v24.1)) ?_
 refine RL_p (xe (ii v24.2)) ?_
 refine RL_p (xa (ii v24.1)) ?_
 refine RL_p (xa (ii v24.2)) ?_
 refine W_seq ?_
 refine W_draw [.free 0, .free 1, .take 2, .free 3, .free 4, .free 5, .take 6, .free 7, .free 8, .free 9, .free 10, .free 11, .take 12, .free 13, .free 14, .take 15, .free 16, .take 17, .free 18, .tail 19, .free 20] (fun wS => S51_0 ok w wS b1 a0 b3 a1 b5) [19] [0, 1, 3, 4, 5, 7, 8, 9, 10, 11, 13, 14, 16, 18, 20] mixed0 (by kernel_rfl) (by kernel_rfl) (by kernel_rfl) (by rfl) (by exact H.drew) ?_
 obtain ⟨w26, hW⟩ : ∃ W : World, W = { w25 with drawn := w25.drawn + 1 } := ⟨_, rfl⟩
 rw [← hW]
 have H : S51_0 ok w w26 b1 a0 b3 a1 b5 := by rw [hW]; exact H.drew
 clear hW
 refine PF (a := xm (ii v19.1)) (b := ?_)
 refine PF (a := xf fo31_4) (b := ?_)
 refine PT' (a := fun H => xl 14 (ii a0.W) sc3 (H.c 0)) (b := ?_)
 obtain ⟨x27, ex27, qx27, ux27, hm⟩ := ck_some hm
 refine PF (a := xX ux27) (b := ?_)
 obtain ⟨x28, ex28, qx28, ux28, hm⟩ := ck_some hm
 refine PF (a := xP ux28) (b := ?_)
 refine PF (a := xf fo31_5) (b := ?_)
 refine PT' (a := fun H => xl 15 (ii a0.H) sc3 (H.c 0)) (b := ?_)
 obtain ⟨x29, ex29, qx29, ux29, hm⟩ := ck_some hm
 refine PF (a := xX ux29) (b := ?_)
 refine PF (a := xm (ii v24.1)) (b := ?_)
 obtain ⟨x30, ex30, qx30, ux30, hm⟩ := ck_some hm
 refine PF (a := xM ux30) (b := ?_)
 refine PF (a := xf fo124_0) (b := ?_)
 refine PF (a := xf fo27_2) (b := ?_)
 refine PT' (a := fun H => xl 2 (ii a1.P.Z) sc3 (H.c 1)) (b := ?_)
 obtain ⟨nx31, hm⟩ := nz_some hm
 obtain ⟨x31, ex31, qx31, ux31, hm⟩ := ck_some hm
 refine PF (a := x_quo (by rfl) (by rfl) nx31 ux31) (b := ?_)
 refine PF (a := xf fo124_1) (b := ?_)
 refine PT' (a := fun H => xl 3 (ii a1.U) sc3 (H.c 1)) (b := ?_)
 refine PF (a := xf fo124_2) (b := ?_)
 refine PT' (a := fun H => xl 4 (ii a1.V) sc3 (H.c 1)) (b := ?_)
 refine PF (a := x_build (vs := [(0, ii x28), (1, ii x30), (2, ii x31), (3, ii a1.U), (4, ii a1.V)]) (cs := (L51_3 x28 x30 x31 a1)) (by rfl) (by kernel_rfl)) (b := ?_)
 refine PL (a := OS 2 0 (L51_3 x28 x30 x31 a1) sz86 H (fun w32 (H : Sep ok w w32 [.blk b1 31 (L51_0 a0), .blk b3 124 (L51_1 a1), .blk b5 86 (L51_3 x28 x30 x31 a1)] []) => ?_))
 refine PF (a := xa (ii 0)) (b := ?_)
 refine PR_nil ?_
 refine W_ret ?_
 obtain rfl := Option.some.inj hm
 exact ⟨[.agg (L51_3 x28 x30 x31 a1).toArray, ii 0], (.cellA (by rfl) ag86 (H.c 2) (by rfl) (.tmp (by rfl) rfl)), rfl, H.none_⟩
end Go.Proofs.YtobkigllalbkiaaV.D

/- A plain Lean function that answers as the Go function does (none: not told), and the proof that a call answers so. Written by program. -/
set_option linter.unusedVariables false
set_option maxRecDepth 100000
set_option maxHeartbeats 4000000
namespace Go.Proofs.YtobkigllalbkiaaV.D
open Go.RowKit Go.Proofs.YtobkigllalbkiaaV
def m82_l1b (K : Nat) (a0 : Int) (a1 : Int) (a2 : (List Int)) (rec1 : Int → Option (Bool)) (y11_1 : Int) : Option (Bool) :=
 (bif (decide (y11_1 < (a2.length : Int))) then (idx a2 y11_1 fun el7 => ((bif (decide (el7 < a0)) then some true else some (decide (a1 < el7))).bind fun b14 => (bif b14 then some false else (ck (y11_1 + 1) fun x17 => (rec1 x17))))) else some true)
def m82_l1 (K : Nat) (a0 : Int) (a1 : Int) (a2 : (List Int)) : Nat → Int → Option (Bool)
 | 0 => fun _ => none
 | k + 1 => m82_l1b K a0 a1 a2 (m82_l1 K a0 a1 a2 k)
def m82 (K : Nat) (a0 : Int) (a1 : Int) (a2 : (List Int)) : Option (Bool) :=
 m82_l1 K a0 a1 a2 K 0
theorem c82 (ok : Okp) (K : Nat) (w : World) (a0 : Int) (a1 : Int) (a2 : (List Int)) (A1 : Option Addr) (cp2 : Nat) (hR3 : Rd kInt w ok A1 cp2 a2) (res : Bool) (hm : m82 K a0 a1 a2 = some res) :
  Calls Tryd.prog 82 #[ii a0, ii a1, .slice A1 a2.length cp2] w (fun e w' => e = .returned (tup [.bool res]) ∧ Sep ok w w' [] []) := by
 refine calls_W (args := [ii a0, ii a1, .slice A1 a2.length cp2]) Tryd.func82 rfl Tryd.ntmps82 Tryd.results82 rfl fun r hr => ?_
 obtain ⟨r1, rfl⟩ := regen (r := r) [(0, ii a0), (1, ii a1), (2, .slice A1 a2.length cp2)] ⟨hr 0 _ rfl, hr 1 _ rfl, hr 2 _ rfl, trivial⟩
 have H : Sep ok w w [] [RE.rd kInt A1 cp2 a2] := Sep.arg (Sep.start ok w) (re := RE.rd kInt A1 cp2 a2) rfl rfl hR3
 unfold m82 at hm
 refine Wr ?_
 refine RL_p (xa (.bool false)) ?_
 refine W_seq ?_
 refine Wr ?_
 refine RL_p (xm (.slice A1 a2.length cp2)) ?_
 refine RL_p (x_len sl141 (by rfl)) ?_
 refine RL_p (xm (ii 0)) ?_
 refine W_block ?_
 refine W_loop (fun k1 r' w' => ∃ (y11_1 : Int), m82_l1 K a0 a1 a2 k1 y11_1 = some res ∧ Agr [(0, ii a0), (1, ii a1), (9, .slice A1 a2.length cp2), (10, ii (a2.length : Int)), (11, ii y11_1)] r' ∧ Sep ok w w' [] [RE.rd kInt A1 cp2 a2]) K ?_ ?_
 ·exact ⟨0, hm, ⟨rfl, rfl, rfl, rfl, rfl, trivial⟩, H⟩
 rintro k1 r' w' ⟨y11_1, hm, hA, H⟩
 obtain ⟨r5, rfl⟩ := regen _ hA; clear hA
 obtain ⟨w6, rfl⟩ := wld w'
 cases k1 with
 | zero => exact (none_some hm).elim
 | succ k1 =>
  have hm : m82_l1b K a0 a1 a2 (m82_l1 K a0 a1 a2 k1) y11_1 = some res := hm
  unfold m82_l1b at hm
  obtain ⟨rec1, hrec1⟩ : ∃ f, m82_l1 K a0 a1 a2 k1 = f := ⟨_, rfl⟩
  rw [hrec1] at hm
  refine Wr ?_
  refine RL_p (xL) ?_
  refine W_seq ?_
  refine Wc (fun hb => ?_) (fun hb => ?_)
  ·have hm := cond_t hb hm
   refine W_skip ?_
   refine W_seq ?_
   refine W_block ?_
   refine Wr ?_
   obtain ⟨el7, h8, h9, he10, hm⟩ := idx_some hm
   obtain ⟨g12, o13, hA11⟩ := (H.rd (i := 0) (by rfl)).addr he10
   refine RL_p (x_indexAddr sl141 sz3 (by rfl) (by rfl) hA11 h8 h9) ?_
   refine RL_p (xl 0 (ii el7) sc3 (Rd.flatAt (n := 1) (H.rd (i := 0) (by rfl)) hA11 he10)) ?_
   refine RL_p (xa (ii el7)) ?_
   refine Wr ?_
   refine RL_p (xm (ii el7)) ?_
   refine RL_p (xm (ii a0)) ?_
   refine RL_p (xL) ?_
   refine RL_p (xm (.bool (decide (el7 < a0)))) ?_
   obtain ⟨b14, hmS, hm⟩ := bind_some hm
   refine RL_cut 4 (fun r' w' => Agr [(22, .bool b14), (0, ii a0), (1, ii a1), (9, .slice A1 a2.length cp2), (10, ii (a2.length : Int)), (11, ii y11_1)] r' ∧ Sep ok w w' [] [RE.rd kInt A1 cp2 a2]) ?_ ?_
   ·cases hbS : (decide (el7 < a0))
    ·have hm := cond_f hbS hmS
     refine RQ (xm (ii el7)) ?_
     refine RQ (xm (ii a1)) ?_
     refine RQ (xG) ?_
     refine RL_p (xF (.bool (decide (a1 < el7)))) ?_
     refine RL_nil ?_
     exact ⟨⟨congrArg Value.bool (Option.some.inj hm), rfl, rfl, rfl, rfl, rfl, trivial⟩, H⟩
    have hm := cond_t hbS hmS
    refine RO ?_
    refine RO ?_
    refine RO ?_
    refine RL_p (xT (.bool true)) ?_
    refine RL_nil ?_
    exact ⟨⟨congrArg Value.bool (Option.some.inj hm), rfl, rfl, rfl, rfl, rfl, trivial⟩, H⟩
   rintro r' w' ⟨hA, H⟩
   obtain ⟨r15, rfl⟩ := regen _ hA; clear hA
   obtain ⟨w16, rfl⟩ := wld w'
   show RL _ _ _ _ _ _ _
   refine Wc (fun hb => ?_) (fun hb => ?_)
   ·have hm := cond_t hb hm
    refine Wr ?_
    refine RL_p (xa (.bool false)) ?_
    refine W_ret ?_
    obtain rfl := Option.some.inj hm
    exact ⟨[.bool false], (.tmp (by rfl) rfl), rfl, H.none_⟩
   have hm := cond_f hb hm
   refine W_skip ?_
   refine W_region ?_
   obtain ⟨x17, ex17, qx17, ux17, hm⟩ := ck_some hm
   refine RL_p (xP ux17) ?_
   refine RL_p (xm (ii x17)) ?_
   refine RL_nil ?_
   subst hrec1
   exact ⟨k1, Nat.lt_succ_self k1, x17, hm, ⟨rfl, rfl, rfl, rfl, rfl, trivial⟩, H⟩
  have hm := cond_f hb hm
  refine W_exit ?_
  refine Wr ?_
  refine RL_p (xa (.bool true)) ?_
  refine W_ret ?_
  obtain rfl := Option.some.inj hm
  exact ⟨[.bool true], (.tmp (by rfl) rfl), rfl, H.none_⟩
end Go.Proofs.YtobkigllalbkiaaV.D

/- A plain Lean function that answers as the Go function does (none: not told), and the proof that a call answers so. Written by program. -/
set_option linter.unusedVariables false
set_option maxRecDepth 100000
set_option maxHeartbeats 4000000
namespace Go.Proofs.YtobkigllalbkiaaV.D
open Go.RowKit Go.Proofs.YtobkigllalbkiaaV
abbrev L81_0 (q0 : S_Spot) : List Value := [ii q0.X, ii q0.Y, ii q0.D, ii q0.U, ii q0.V]
def m81 (K : Nat) (a0 : S_Spot) : Option (Int) :=
 ((m82 K (-131072) 131072 ([a0.X, a0.Y])).bind fun v8 => ((bif (!v8) then some true else ((m82 K 1 65536 ([a0.D])).bind fun v16 => some (!v16))).bind fun b10 => ((bif b10 then some true else ((m82 K 0 255 ([a0.U, a0.V])).bind fun v26 => some (!v26))).bind fun b20 => (bif b20 then some 8 else some 0))))
abbrev S81_0 (q0 : Okp) (q1 q2 : World) (q3 : Nat) (q4 : S_Spot) (q5 : Nat) : Prop := Sep q0 q1 q2 [.blk q3 86 (L81_0 q4), .row (.slice (some ⟨q5, 0, none⟩) ([q4.X, q4.Y]).length 2) 3 kInt.sz ([q4.X, q4.Y]).length [ii q4.X, ii q4.Y]] [RE.chunks kInt [ii q4.X, ii q4.Y] ([q4.X, q4.Y])]
abbrev S81_1 (q0 : Okp) (q1 q2 : World) (q3 : Nat) (q4 : S_Spot) (q5 q6 : Nat) : Prop := Sep q0 q1 q2 [.blk q3 86 (L81_0 q4), .row (.slice (some ⟨q5, 0, none⟩) ([q4.X, q4.Y]).length 2) 3 kInt.sz ([q4.X, q4.Y]).length [ii q4.X, ii q4.Y], .row (.slice (some ⟨q6, 0, none⟩) ([q4.D]).length 1) 3 kInt.sz ([q4.D]).length [ii q4.D]] [RE.chunks kInt [ii q4.X, ii q4.Y] ([q4.X, q4.Y]), RE.chunks kInt [ii q4.D] ([q4.D])]
abbrev S81_2 (q0 : Okp) (q1 q2 : World) (q3 : Nat) (q4 : S_Spot) (q5 q6 : Nat) : Prop := Sep q0 q1 q2 [.blk q3 86 (L81_0 q4), .row (.slice (some ⟨q5, 0, none⟩) ([q4.X, q4.Y]).length 2) 3 kInt.sz ([q4.X, q4.Y]).length [ii q4.X, ii q4.Y], .row (.slice (some ⟨q6, 0, none⟩) ([q4.U, q4.V]).length 2) 3 kInt.sz ([q4.U, q4.V]).length [ii q4.U, ii q4.V]] [RE.chunks kInt [ii q4.X, ii q4.Y] ([q4.X, q4.Y]), RE.chunks kInt [ii q4.U, ii q4.V] ([q4.U, q4.V])]
theorem c81 (ok : Okp) (K : Nat) (w : World) (a0 : S_Spot)  (res : Int) (hm : m81 K a0 = some res) :
  Calls Tryd.prog 81 #[.agg (L81_0 a0).toArray] w (fun e w' => e = .returned (tup [ii res]) ∧ Sep ok w w' [] []) := by
 refine calls_W (args := [.agg (L81_0 a0).toArray]) Tryd.func81 rfl Tryd.ntmps81 Tryd.results81 rfl fun r hr => ?_
 obtain ⟨r1, rfl⟩ := regen (r := r) [(0, .agg (L81_0 a0).toArray)] ⟨hr 0 _ rfl, trivial⟩
 have H : Sep ok w w [] [] := Sep.start ok w
 unfold m81 at hm
 refine Wr ?_
 refine RL_cons (OB H (fun w2 b1 (H : Sep ok w w2 [.blk b1 86 (L81_0 a0)] []) => ?_))
 refine RL_p (xa (ii 0)) ?_
 refine W_seq ?_
 refine Wr ?_
 refine RL_p (xf fo86_0) ?_
 refine RL_p (xl 0 (ii a0.X) sc3 (H.c 0)) ?_
 refine RL_p (xf fo86_1) ?_
 refine RL_p (xl 1 (ii a0.Y) sc3 (H.c 0)) ?_
 refine RL_cons (O_buildSlice (vs := [(0, ii a0.X), (1, ii a0.Y)]) (cs := [ii a0.X, ii a0.Y]) (by exact wn0 rfl) (by rfl) sl141 sz3 ze3 (by rfl) (by rfl) (by rfl) (by kernel_rfl) H (fun w4 b3 (H : Sep ok w w4 [.blk b1 86 (L81_0 a0), .blk b3 3 [ii a0.X, ii a0.Y]] []) => ?_))
 have H : S81_0 ok w w4 b1 a0 b3 := H.rowOf (i := 1) (D := kInt) (xs := [a0.X, a0.Y]) (by rfl) (by exact ⟨rfl, rfl, rfl⟩) (by rfl)
 obtain ⟨v8, hv7, hm⟩ := bind_some hm
 refine RL_cons (OC (xc [ii (-131072), ii 131072, .slice (some ⟨b3, 0, none⟩) ([a0.X, a0.Y]).length 2] (cf82 _ _)) (c82 okT K w4 (-131072) 131072 ([a0.X, a0.Y]) (some ⟨b3, 0, none⟩) 2 (H.rowRd (i := 1) (j := 0) (by rfl) (by rfl)) v8 hv7) ?_)
 rintro e w9 ⟨rfl, H2⟩
 have H : S81_0 ok w w9 b1 a0 b3 := H.below H2.base
 clear H2
 refine ⟨_, rfl, ?_⟩
 refine RL_p (x_not (by rfl)) ?_
 refine RL_p (xm (.bool (!v8))) ?_
 obtain ⟨b10, hmS, hm⟩ := bind_some hm
 refine RL_cut 6 (fun r' w' => Agr [(16, .bool b10), (1, pp b1)] r' ∧ S81_0 ok w w' b1 a0 b3) ?_ ?_
 ·cases hbS : (!v8)
  ·have hm := cond_f hbS hmS
   refine RQ (xf fo86_2) ?_
   refine RQ (xl 2 (ii a0.D) sc3 (H.c 0)) ?_
   refine RL_cons (O_buildSlice (vs := [(0, ii a0.D)]) (cs := [ii a0.D]) (by exact wn1 rfl rfl rfl rfl) (by rfl) sl141 sz3 ze3 (by rfl) (by rfl) (by rfl) (by kernel_rfl) H (fun w12 b11 (H : Sep ok w w12 [.blk b1 86 (L81_0 a0), .row (.slice (some ⟨b3, 0, none⟩) ([a0.X, a0.Y]).length 2) 3 kInt.sz ([a0.X, a0.Y]).length [ii a0.X, ii a0.Y], .blk b11 3 [ii a0.D]] [RE.chunks kInt [ii a0.X, ii a0.Y] ([a0.X, a0.Y])]) => ?_))
   have H : S81_1 ok w w12 b1 a0 b3 b11 := H.rowOf (i := 2) (D := kInt) (xs := [a0.D]) (by rfl) (by exact ⟨rfl, rfl⟩) (by rfl)
   obtain ⟨v16, hv15, hm⟩ := bind_some hm
   refine RL_cons (O_call (by exact wn1 rfl rfl rfl rfl) (by rfl) (by rfl) (xc [ii 1, ii 65536, .slice (some ⟨b11, 0, none⟩) ([a0.D]).length 1] (cf82 _ _)) (c82 okT K w12 1 65536 ([a0.D]) (some ⟨b11, 0, none⟩) 1 (H.rowRd (i := 2) (j := 1) (by rfl) (by rfl)) v16 hv15) ?_)
   rintro e w17 ⟨rfl, H2⟩
   have H : S81_1 ok w w17 b1 a0 b3 b11 := H.below H2.base
   clear H2
   refine ⟨_, rfl, ?_⟩
   refine RQ (x_not (by rfl)) ?_
   refine RL_p (xF (.bool (!v16))) ?_
   refine RL_nil ?_
   exact ⟨⟨congrArg Value.bool (Option.some.inj hm), rfl, trivial⟩, (H.takeL 2).takeR 1⟩
  have hm := cond_t hbS hmS
  refine RO ?_
  refine RO ?_
  refine RO ?_
  refine RO ?_
  refine RO ?_
  refine RL_p (xT (.bool true)) ?_
  refine RL_nil ?_
  exact ⟨⟨congrArg Value.bool (Option.some.inj hm), rfl, trivial⟩, H⟩
 rintro r' w' ⟨hA, H⟩
 obtain ⟨r18, rfl⟩ := regen _ hA; clear hA
 obtain ⟨w19, rfl⟩ := wld w'
 refine RL_p (xm (.bool b10)) ?_
 obtain ⟨b20, hmS, hm⟩ := bind_some hm
 refine RL_cut 8 (fun r' w' => Agr [(25, .bool b20)] r' ∧ S81_0 ok w w' b1 a0 b3) ?_ ?_
 ·cases hbS : b10
  ·have hm := cond_f hbS hmS
   refine RQ (xf fo86_3) ?_
   refine RQ (xl 3 (ii a0.U) sc3 (H.c 0)) ?_
   refine RQ (xf fo86_4) ?_
   refine RQ (xl 4 (ii a0.V) sc3 (H.c 0)) ?_
   refine RL_cons (O_buildSlice (vs := [(0, ii a0.U), (1, ii a0.V)]) (cs := [ii a0.U, ii a0.V]) (by exact wn1 rfl rfl rfl rfl) (by rfl) sl141 sz3 ze3 (by rfl) (by rfl) (by rfl) (by kernel_rfl) H (fun w22 b21 (H : Sep ok w w22 [.blk b1 86 (L81_0 a0), .row (.slice (some ⟨b3, 0, none⟩) ([a0.X, a0.Y]).length 2) 3 kInt.sz ([a0.X, a0.Y]).length [ii a0.X, ii a0.Y], .blk b21 3 [ii a0.U, ii a0.V]] [RE.chunks kInt [ii a0.X, ii a0.Y] ([a0.X, a0.Y])]) => ?_))
   have H : S81_2 ok w w22 b1 a0 b3 b21 := H.rowOf (i := 2) (D := kInt) (xs := [a0.U, a0.V]) (by rfl) (by exact ⟨rfl, rfl, rfl⟩) (by rfl)
   obtain ⟨v26, hv25, hm⟩ := bind_some hm
   refine RL_cons (O_call (by exact wn1 rfl rfl rfl rfl) (by rfl) (by rfl) (xc [ii 0, ii 255, .slice (some ⟨b21, 0, none⟩) ([a0.U, a0.V]).length 2] (cf82 _ _)) (c82 okT K w22 0 255 ([a0.U, a0.V]) (some ⟨b21, 0, none⟩) 2 (H.rowRd (i := 2) (j := 1) (by rfl) (by rfl)) v26 hv25) ?_)
   rintro e w27 ⟨rfl, H2⟩
   have H : S81_2 ok w w27 b1 a0 b3 b21 := H.below H2.base
   clear H2
   refine ⟨_, rfl, ?_⟩
   refine RQ (x_not (by rfl)) ?_
   refine RL_p (xF (.bool (!v26))) ?_
   refine RL_nil ?_
   exact ⟨⟨congrArg Value.bool (Option.some.inj hm), trivial⟩, (H.takeL 2).takeR 1⟩
  have hm := cond_t hbS hmS
  refine RO ?_
  refine RO ?_
  refine RO ?_
  refine RO ?_
  refine RO ?_
  refine RO ?_
  refine RO ?_
  refine RL_p (xT (.bool true)) ?_
  refine RL_nil ?_
  exact ⟨⟨congrArg Value.bool (Option.some.inj hm), trivial⟩, H⟩
 rintro r' w' ⟨hA, H⟩
 obtain ⟨r28, rfl⟩ := regen _ hA; clear hA
 obtain ⟨w29, rfl⟩ := wld w'
 show RL _ _ _ _ _ _ _
 refine Wc (fun hb => ?_) (fun hb => ?_)
 ·have hm := cond_t hb hm
  refine W_seq ?_
  have H : Sep ok w w29 [] [] := ((H.takeL 0).pick [])
  refine W_region ?_
  refine RL_p (xa (ii 8)) ?_
  refine W_ret ?_
  obtain rfl := Option.some.inj hm
  exact ⟨[ii 8], (.tmp (by rfl) rfl), rfl, H.none_⟩
 have hm := cond_f hb hm
 refine W_skip ?_
 refine W_seq ?_
 have H : Sep ok w w29 [] [] := ((H.takeL 0).pick [])
 refine W_region ?_
 refine RL_p (xa (ii 0)) ?_
 refine W_ret ?_
 obtain rfl := Option.some.inj hm
 exact ⟨[ii 0], (.tmp (by rfl) rfl), rfl, H.none_⟩
end Go.Proofs.YtobkigllalbkiaaV.D

/- A plain Lean function that answers as the Go function does (none: not told), and the proof that a call answers so. Written by program. -/
set_option linter.unusedVariables false
set_option maxRecDepth 100000
set_option maxHeartbeats 4000000
namespace Go.Proofs.YtobkigllalbkiaaV.D
open Go.RowKit Go.Proofs.YtobkigllalbkiaaV
abbrev L73_0 (q0 : (Ar3 S_Spot)) : List Value := [ii q0.a0.X, ii q0.a0.Y, ii q0.a0.D, ii q0.a0.U, ii q0.a0.V, ii q0.a1.X, ii q0.a1.Y, ii q0.a1.D, ii q0.a1.U, ii q0.a1.V, ii q0.a2.X, ii q0.a2.Y, ii q0.a2.D, ii q0.a2.U, ii q0.a2.V]
abbrev L73_1 (q0 : (Ar3 S_Spot)) : List Value := [ii q0.a0.X, ii q0.a0.Y, ii q0.a0.D, ii q0.a0.U, ii q0.a0.V]
abbrev L73_2  : List Value := [ii 0, ii 0, ii 0, ii 0, ii 0]
abbrev L73_3 (q0 : (Ar3 S_Spot)) : List Value := [ii q0.a1.X, ii q0.a1.Y, ii q0.a1.D, ii q0.a1.U, ii q0.a1.V]
abbrev L73_4 (q0 : (Ar3 S_Spot)) : List Value := [ii q0.a2.X, ii q0.a2.Y, ii q0.a2.D, ii q0.a2.U, ii q0.a2.V]
def m73 (K : Nat) (a0 : (Ar3 S_Spot)) : Option (Int × Int) :=
 ((m81 K a0.a0).bind fun v7 => (bif (v7 != 0) then some (0, v7) else ((m81 K a0.a1).bind fun v13 => (bif (v13 != 0) then some (0, v13) else ((m81 K a0.a2).bind fun v19 => (bif (v19 != 0) then some (0, v19) else (ck (a0.a1.X - a0.a0.X) fun x98 => (ck (a0.a2.Y - a0.a0.Y) fun x99 => (ck (x98 * x99) fun x100 => (ck (a0.a2.X - a0.a0.X) fun x101 => (ck (a0.a1.Y - a0.a0.Y) fun x102 => (ck (x101 * x102) fun x103 => (ck (x100 - x103) fun x104 => some (x104, 0))))))))))))))
abbrev S73_0 (q0 : Okp) (q1 q2 : World) (q3 : Nat) (q4 : (Ar3 S_Spot)) (q5 q6 q7 : Nat) : Prop := Sep q0 q1 q2 [.blk q3 87 (L73_0 q4), .blk q5 86 (L73_1 q4), .blk q6 86 (L73_3 q4), .blk q7 86 L73_2] []
abbrev S73_1 (q0 : Okp) (q1 q2 : World) (q3 : Nat) (q4 : (Ar3 S_Spot)) (q5 q6 q7 : Nat) : Prop := Sep q0 q1 q2 [.blk q3 87 (L73_0 q4), .blk q5 86 (L73_1 q4), .blk q6 86 (L73_3 q4), .blk q7 86 (L73_4 q4)] []
theorem c73 (ok : Okp) (K : Nat) (w : World) (a0 : (Ar3 S_Spot))  (res : Int × Int) (hm : m73 K a0 = some res) :
  Calls Tryd.prog 73 #[.agg (L73_0 a0).toArray] w (fun e w' => e = .returned (tup [ii res.1, ii res.2]) ∧ Sep ok w w' [] []) := by
 refine calls_W (args := [.agg (L73_0 a0).toArray]) Tryd.func73 rfl Tryd.ntmps73 Tryd.results73 rfl fun r hr => ?_
 obtain ⟨r1, rfl⟩ := regen (r := r) [(0, .agg (L73_0 a0).toArray)] ⟨hr 0 _ rfl, trivial⟩
 have H : Sep ok w w [] [] := Sep.start ok w
 unfold m73 at hm
 refine Wr ?_
 refine RL_cons (OB H (fun w2 b1 (H : Sep ok w w2 [.blk b1 87 (L73_0 a0)] []) => ?_))
 refine RL_p (xa (ii 0)) ?_
 refine RL_p (xa (ii 0)) ?_
 refine W_seq ?_
 refine Wr ?_
 refine RL_p (xA 0 (L73_0 a0) ag87 (H.c 0)) ?_
 refine RL_p (xm (ii 0)) ?_
 refine W_block ?_
 refine W_unroll 40 ?_
 refine WU_succ ?_
 refine Wr ?_
 refine RL_p (xL) ?_
 refine W_seq ?_
 refine Wt ?_
 refine W_skip ?_
 refine W_seq ?_
 refine W_block ?_
 refine Wr ?_
 refine RL_p (xJ (L73_1 a0) ar87 ag86) ?_
 refine RL_cons (OA ze86 H (fun w4 b3 (H : Sep ok w w4 [.blk b1 87 (L73_0 a0), .blk b3 86 L73_2] []) => ?_))
 refine RL_cons (OS 1 0 (L73_1 a0) sz86 H (fun w5 (H : Sep ok w w5 [.blk b1 87 (L73_0 a0), .blk b3 86 (L73_1 a0)] []) => ?_))
 refine Wr ?_
 refine RL_p (xA 0 (L73_1 a0) ag86 (H.c 1)) ?_
 obtain ⟨v7, hv6, hm⟩ := bind_some hm
 refine RL_cons (OC (xc [.agg (L73_1 a0).toArray] (cf81 _ _)) (c81 okT K w5 a0.a0  v7 hv6) ?_)
 rintro e w8 ⟨rfl, H2⟩
 have H : Sep ok w w8 [.blk b1 87 (L73_0 a0), .blk b3 86 (L73_1 a0)] [] := H.below H2.base
 clear H2
 refine ⟨_, rfl, ?_⟩
 refine RL_p (xa (ii v7)) ?_
 refine Wr ?_
 refine RL_p (xm (ii v7)) ?_
 refine RL_p (xN) ?_
 refine Wc (fun hb => ?_) (fun hb => ?_)
 ·have hm := cond_t hb hm
  refine Wr ?_
  refine RL_p (xm (ii v7)) ?_
  refine RL_p (xa (ii 0)) ?_
  refine RL_p (xa (ii v7)) ?_
  refine W_ret ?_
  obtain rfl := Option.some.inj hm
  exact ⟨[ii 0, ii v7], (.tmp (by rfl) (.tmp (by rfl) rfl)), rfl, H.none_⟩
 have hm := cond_f hb hm
 refine W_skip ?_
 refine W_region ?_
 refine RL_p (xp 1) ?_
 refine RL_p (xm (ii 1)) ?_
 refine WU_succ ?_
 refine Wr ?_
 refine RL_p (xL) ?_
 refine W_seq ?_
 refine Wt ?_
 refine W_skip ?_
 refine W_seq ?_
 refine W_block ?_
 refine Wr ?_
 refine RL_p (xJ (L73_3 a0) ar87 ag86) ?_
 refine RL_cons (OA ze86 H (fun w10 b9 (H : Sep ok w w10 [.blk b1 87 (L73_0 a0), .blk b3 86 (L73_1 a0), .blk b9 86 L73_2] []) => ?_))
 refine RL_cons (OS 2 0 (L73_3 a0) sz86 H (fun w11 (H : Sep ok w w11 [.blk b1 87 (L73_0 a0), .blk b3 86 (L73_1 a0), .blk b9 86 (L73_3 a0)] []) => ?_))
 refine Wr ?_
 refine RL_p (xA 0 (L73_3 a0) ag86 (H.c 2)) ?_
 obtain ⟨v13, hv12, hm⟩ := bind_some hm
 refine RL_cons (OC (xc [.agg (L73_3 a0).toArray] (cf81 _ _)) (c81 okT K w11 a0.a1  v13 hv12) ?_)
 rintro e w14 ⟨rfl, H2⟩
 have H : Sep ok w w14 [.blk b1 87 (L73_0 a0), .blk b3 86 (L73_1 a0), .blk b9 86 (L73_3 a0)] [] := H.below H2.base
 clear H2
 refine ⟨_, rfl, ?_⟩
 refine RL_p (xa (ii v13)) ?_
 refine Wr ?_
 refine RL_p (xm (ii v13)) ?_
 refine RL_p (xN) ?_
 refine Wc (fun hb => ?_) (fun hb => ?_)
 ·have hm := cond_t hb hm
  refine W_seq ?_
  have H : Sep ok w w14 [] [] := (H.takeL 0)
  refine W_region ?_
  refine RL_p (xm (ii v13)) ?_
  refine RL_p (xa (ii 0)) ?_
  refine RL_p (xa (ii v13)) ?_
  refine W_ret ?_
  obtain rfl := Option.some.inj hm
  exact ⟨[ii 0, ii v13], (.tmp (by rfl) (.tmp (by rfl) rfl)), rfl, H.none_⟩
 have hm := cond_f hb hm
 refine W_skip ?_
 refine W_region ?_
 refine RL_p (xp 2) ?_
 refine RL_p (xm (ii 2)) ?_
 refine WU_succ ?_
 refine Wr ?_
 refine RL_p (xL) ?_
 refine W_seq ?_
 refine Wt ?_
 refine W_skip ?_
 refine W_seq ?_
 refine W_block ?_
 refine Wr ?_
 refine RL_p (xJ (L73_4 a0) ar87 ag86) ?_
 refine RL_cons (OA ze86 H (fun w16 b15 (H : S73_0 ok w w16 b1 a0 b3 b9 b15) => ?_))
 refine RL_cons (OS 3 0 (L73_4 a0) sz86 H (fun w17 (H : S73_1 ok w w17 b1 a0 b3 b9 b15) => ?_))
 refine Wr ?_
 refine RL_p (xA 0 (L73_4 a0) ag86 (H.c 3)) ?_
 obtain ⟨v19, hv18, hm⟩ := bind_some hm
 refine RL_cons (OC (xc [.agg (L73_4 a0).toArray] (cf81 _ _)) (c81 okT K w17 a0.a2  v19 hv18) ?_)
 rintro e w20 ⟨rfl, H2⟩
 have H : S73_1 ok w w20 b1 a0 b3 b9 b15 := H.below H2.base
 clear H2
 refine ⟨_, rfl, ?_⟩
 refine RL_p (xa (ii v19)) ?_
 refine W_seq ?_
 have H : Sep ok w w20 [.blk b1 87 (L73_0 a0)] [] := (H.takeL 1)
 refine W_region ?_
 refine RL_p (xm (ii v19)) ?_
 refine RL_p (xN) ?_
 refine Wc (fun hb => ?_) (fun hb => ?_)
 ·have hm := cond_t hb hm
  refine Wr ?_
  refine RL_p (xm (ii v19)) ?_
  refine RL_p (xa (ii 0)) ?_
  refine RL_p (xa (ii v19)) ?_
  refine W_ret ?_
  obtain rfl := Option.some.inj hm
  exact ⟨[ii 0, ii v19], (.tmp (by rfl) (.tmp (by rfl) rfl)), rfl, H.none_⟩
 have hm := cond_f hb hm
 refine W_skip ?_
 refine W_region ?_
 refine RL_p (xp 3) ?_
 refine RL_p (xm (ii 3)) ?_
 refine WU_succ ?_
 refine Wr ?_
 refine RL_p (xL) ?_
 refine W_seq ?_
 refine Wf ?_
 refine W_exit ?_
 refine W_seq ?_
 refine W_drawT (.free 0 (.take 1 (.free 2 (.take 3 (.free 4 (.take 5 (.all (.br 6 (.all (.br 7 (.all (.br 8 (.all (.br 9 (.all (.br 10 (.lin [.tail 11]) (.stop))) (.stop))) (.stop))) (.br 8 (.all (.br 7 (.all (.br 9 (.all (.br 10 (.lin [.tail 11]) (.stop))) (.stop))) (.stop))) (.stop)))) (.br 7 (.all (.br 6 (.all (.br 8 (.all (.br 9 (.all (.br 10 (.lin [.tail 11]) (.stop))) (.stop))) (.stop))) (.br 8 (.all (.br 6 (.all (.br 9 (.all (.br 10 (.lin [.tail 11]) (.stop))) (.stop))) (.stop))) (.stop)))) (.br 8 (.all (.br 6 (.all (.br 7 (.all (.br 9 (.all (.br 10 (.lin [.tail 11]) (.stop))) (.stop))) (.stop))) (.br 7 (.all (.br 6 (.all (.br 9 (.all (.br 10 (.lin [.tail 11]) (.stop))) (.stop))) (.stop))) (.stop)))) (.stop))))))))))) (fun wS => Sep ok w wS [.blk b1 87 (L73_0 a0)] []) [11] [0, 2, 4] mixed0 (by kernel_rfl) (by kernel_rfl) (by kernel_rfl) (by kernel_rfl) (by exact H.drew) ?_
 obtain ⟨w29, hW⟩ : ∃ W : World, W = { w20 with drawn := w20.drawn + 1 } := ⟨_, rfl⟩
 rw [← hW]
 have H : Sep ok w w29 [.blk b1 87 (L73_0 a0)] [] := by rw [hW]; exact H.drew
 clear hW
 refine TF (a := xI ar87 sz86) (b := ?_)
 refine TT (a := fun H => xA 0 (L73_1 a0) ag86 (H.c 0)) (b := ?_)
 refine TF (a := xI ar87 sz86) (b := ?_)
 refine TT (a := fun H => xA 5 (L73_3 a0) ag86 (H.c 0)) (b := ?_)
 refine TF (a := xI ar87 sz86) (b := ?_)
 refine TT (a := fun H => xA 10 (L73_4 a0) ag86 (H.c 0)) (b := ?_)
 refine PRT_meet (fun r' w' => ∃ (b21 : Nat), ∃ (b23 : Nat), ∃ (b25 : Nat), Agr [(7, pp b21), (8, pp b23), (9, pp b25), (25, .agg (L73_4 a0).toArray)] r' ∧ S73_0 ok w w' b1 a0 b21 b23 b25) (.lin [.tail 11]) ?_ ?_
 ·intro hJ6_7_8_9_10
  refine PRT_meet (fun r' w' => ∃ (b21 : Nat), ∃ (b23 : Nat), ∃ (b25 : Nat), Agr [(7, pp b21), (8, pp b23), (9, pp b25), (23, .agg (L73_3 a0).toArray), (25, .agg (L73_4 a0).toArray)] r' ∧ Sep ok w w' [.blk b1 87 (L73_0 a0), .blk b21 86 (L73_1 a0), .blk b23 86 L73_2, .blk b25 86 L73_2] []) (.all (.br 10 (.lin [.tail 11]) (.stop))) ?_ ?_
  ·intro hJ6_7_8_9
   refine PRT_meet (fun r' w' => ∃ (b21 : Nat), ∃ (b23 : Nat), ∃ (b25 : Nat), Agr [(7, pp b21), (8, pp b23), (9, pp b25), (21, .agg (L73_1 a0).toArray), (23, .agg (L73_3 a0).toArray), (25, .agg (L73_4 a0).toArray)] r' ∧ Sep ok w w' [.blk b1 87 (L73_0 a0), .blk b21 86 L73_2, .blk b23 86 L73_2, .blk b25 86 L73_2] []) (.all (.br 9 (.all (.br 10 (.lin [.tail 11]) (.stop))) (.stop))) ?_ ?_
   ·intro hJ6_7_8
    refine PRT_meet (fun r' w' => ∃ (b21 : Nat), ∃ (b23 : Nat), Agr [(7, pp b21), (8, pp b23), (21, .agg (L73_1 a0).toArray), (23, .agg (L73_3 a0).toArray), (25, .agg (L73_4 a0).toArray)] r' ∧ Sep ok w w' [.blk b1 87 (L73_0 a0), .blk b21 86 L73_2, .blk b23 86 L73_2, .hole] []) (.all (.br 8 (.all (.br 9 (.all (.br 10 (.lin [.tail 11]) (.stop))) (.stop))) (.stop))) ?_ ?_
    ·intro hJ6_7
     refine PRT_meet (fun r' w' => ∃ (b21 : Nat), ∃ (b25 : Nat), Agr [(7, pp b21), (9, pp b25), (21, .agg (L73_1 a0).toArray), (23, .agg (L73_3 a0).toArray), (25, .agg (L73_4 a0).toArray)] r' ∧ Sep ok w w' [.blk b1 87 (L73_0 a0), .blk b21 86 L73_2, .hole, .blk b25 86 L73_2] []) (.all (.br 7 (.all (.br 9 (.all (.br 10 (.lin [.tail 11]) (.stop))) (.stop))) (.stop))) ?_ ?_
     ·intro hJ6_8
      refine PRT_meet (fun r' w' => ∃ (b23 : Nat), ∃ (b25 : Nat), Agr [(8, pp b23), (9, pp b25), (21, .agg (L73_1 a0).toArray), (23, .agg (L73_3 a0).toArray), (25, .agg (L73_4 a0).toArray)] r' ∧ Sep ok w w' [.blk b1 87 (L73_0 a0), .hole, .blk b23 86 L73_2, .blk b25 86 L73_2] []) (.all (.br 6 (.all (.br 9 (.all (.br 10 (.lin [.tail 11]) (.stop))) (.stop))) (.stop))) ?_ ?_
      ·intro hJ7_8
       refine PRT_meet (fun r' w' => ∃ (b21 : Nat), Agr [(7, pp b21), (21, .agg (L73_1 a0).toArray), (23, .agg (L73_3 a0).toArray), (25, .agg (L73_4 a0).toArray)] r' ∧ Sep ok w w' [.blk b1 87 (L73_0 a0), .blk b21 86 L73_2, .hole, .hole] []) (.all (.br 7 (.all (.br 8 (.all (.br 9 (.all (.br 10 (.lin [.tail 11]) (.stop))) (.stop))) (.stop))) (.br 8 (.all (.br 7 (.all (.br 9 (.all (.br 10 (.lin [.tail 11]) (.stop))) (.stop))) (.stop))) (.stop)))) ?_ ?_
       ·intro hJ6
        refine PRT_meet (fun r' w' => ∃ (b23 : Nat), Agr [(8, pp b23), (21, .agg (L73_1 a0).toArray), (23, .agg (L73_3 a0).toArray), (25, .agg (L73_4 a0).toArray)] r' ∧ Sep ok w w' [.blk b1 87 (L73_0 a0), .hole, .blk b23 86 L73_2, .hole] []) (.all (.br 6 (.all (.br 8 (.all (.br 9 (.all (.br 10 (.lin [.tail 11]) (.stop))) (.stop))) (.stop))) (.br 8 (.all (.br 6 (.all (.br 9 (.all (.br 10 (.lin [.tail 11]) (.stop))) (.stop))) (.stop))) (.stop)))) ?_ ?_
        ·intro hJ7
         refine PRT_meet (fun r' w' => ∃ (b25 : Nat), Agr [(9, pp b25), (21, .agg (L73_1 a0).toArray), (23, .agg (L73_3 a0).toArray), (25, .agg (L73_4 a0).toArray)] r' ∧ Sep ok w w' [.blk b1 87 (L73_0 a0), .hole, .hole, .blk b25 86 L73_2] []) (.all (.br 6 (.all (.br 7 (.all (.br 9 (.all (.br 10 (.lin [.tail 11]) (.stop))) (.stop))) (.stop))) (.br 7 (.all (.br 6 (.all (.br 9 (.all (.br 10 (.lin [.tail 11]) (.stop))) (.stop))) (.stop))) (.stop)))) ?_ ?_
         ·intro hJ8
          have H : Sep ok w w29 [.blk b1 87 (L73_0 a0), .hole, .hole, .hole] [] := (((H).nilHole).nilHole).nilHole
          refine PRT_all ?_
          refine PB ?_ ?_
          ·show OpR _ _ _ _ _ _ _
           refine OA ze86 H (fun w22 b21 (H : Sep ok w w22 [.blk b1 87 (L73_0 a0), .hole, .hole, .hole, .blk b21 86 L73_2] []) => ⟨(Sep.takeL H 1), ?_⟩)
           exact hJ6 _ _ ⟨b21, ⟨rfl, rfl, rfl, rfl, trivial⟩, (H).pickL [0, 4, 2, 3] (by decide)⟩
          refine PB ?_ ?_
          ·show OpR _ _ _ _ _ _ _
           refine OA ze86 H (fun w24 b23 (H : Sep ok w w24 [.blk b1 87 (L73_0 a0), .hole, .hole, .hole, .blk b23 86 L73_2] []) => ⟨(Sep.takeL H 1), ?_⟩)
           exact hJ7 _ _ ⟨b23, ⟨rfl, rfl, rfl, rfl, trivial⟩, (H).pickL [0, 1, 4, 3] (by decide)⟩
          refine PB ?_ ?_
          ·show OpR _ _ _ _ _ _ _
           refine OA ze86 H (fun w26 b25 (H : Sep ok w w26 [.blk b1 87 (L73_0 a0), .hole, .hole, .hole, .blk b25 86 L73_2] []) => ⟨(Sep.takeL H 1), ?_⟩)
           exact hJ8 _ _ ⟨b25, ⟨rfl, rfl, rfl, rfl, trivial⟩, (H).pickL [0, 1, 2, 4] (by decide)⟩
          exact PRT_stop
         show ∀ r w, _ → _
         rintro r' w' ⟨b25, hA, H⟩
         obtain ⟨r79, rfl⟩ := regen _ hA; clear hA
         obtain ⟨w80, rfl⟩ := wld w'
         refine PRT_all ?_
         refine PB ?_ ?_
         ·show OpR _ _ _ _ _ _ _
          refine OA ze86 H (fun w22 b21 (H : Sep ok w w22 [.blk b1 87 (L73_0 a0), .hole, .hole, .blk b25 86 L73_2, .blk b21 86 L73_2] []) => ⟨(Sep.takeL H 1), ?_⟩)
          exact hJ6_8 _ _ ⟨b21, b25, ⟨rfl, rfl, rfl, rfl, rfl, trivial⟩, (H).pickL [0, 4, 2, 3] (by decide)⟩
         refine PB ?_ ?_
         ·show OpR _ _ _ _ _ _ _
          refine OA ze86 H (fun w24 b23 (H : Sep ok w w24 [.blk b1 87 (L73_0 a0), .hole, .hole, .blk b25 86 L73_2, .blk b23 86 L73_2] []) => ⟨(Sep.takeL H 1), ?_⟩)
          exact hJ7_8 _ _ ⟨b23, b25, ⟨rfl, rfl, rfl, rfl, rfl, trivial⟩, (H).pickL [0, 1, 4, 3] (by decide)⟩
         exact PRT_stop
        show ∀ r w, _ → _
        rintro r' w' ⟨b23, hA, H⟩
        obtain ⟨r81, rfl⟩ := regen _ hA; clear hA
        obtain ⟨w82, rfl⟩ := wld w'
        refine PRT_all ?_
        refine PB ?_ ?_
        ·show OpR _ _ _ _ _ _ _
         refine OA ze86 H (fun w22 b21 (H : Sep ok w w22 [.blk b1 87 (L73_0 a0), .hole, .blk b23 86 L73_2, .hole, .blk b21 86 L73_2] []) => ⟨(Sep.takeL H 1), ?_⟩)
         exact hJ6_7 _ _ ⟨b21, b23, ⟨rfl, rfl, rfl, rfl, rfl, trivial⟩, (H).pickL [0, 4, 2, 3] (by decide)⟩
        refine PB ?_ ?_
        ·show OpR _ _ _ _ _ _ _
         refine OA ze86 H (fun w26 b25 (H : Sep ok w w26 [.blk b1 87 (L73_0 a0), .hole, .blk b23 86 L73_2, .hole, .blk b25 86 L73_2] []) => ⟨(Sep.takeL H 1), ?_⟩)
         exact hJ7_8 _ _ ⟨b23, b25, ⟨rfl, rfl, rfl, rfl, rfl, trivial⟩, (H).pickL [0, 1, 2, 4] (by decide)⟩
        exact PRT_stop
       show ∀ r w, _ → _
       rintro r' w' ⟨b21, hA, H⟩
       obtain ⟨r83, rfl⟩ := regen _ hA; clear hA
       obtain ⟨w84, rfl⟩ := wld w'
       refine PRT_all ?_
       refine PB ?_ ?_
       ·show OpR _ _ _ _ _ _ _
        refine OA ze86 H (fun w24 b23 (H : Sep ok w w24 [.blk b1 87 (L73_0 a0), .blk b21 86 L73_2, .hole, .hole, .blk b23 86 L73_2] []) => ⟨(Sep.takeL H 1), ?_⟩)
        exact hJ6_7 _ _ ⟨b21, b23, ⟨rfl, rfl, rfl, rfl, rfl, trivial⟩, (H).pickL [0, 1, 4, 3] (by decide)⟩
       refine PB ?_ ?_
       ·show OpR _ _ _ _ _ _ _
        refine OA ze86 H (fun w26 b25 (H : Sep ok w w26 [.blk b1 87 (L73_0 a0), .blk b21 86 L73_2, .hole, .hole, .blk b25 86 L73_2] []) => ⟨(Sep.takeL H 1), ?_⟩)
        exact hJ6_8 _ _ ⟨b21, b25, ⟨rfl, rfl, rfl, rfl, rfl, trivial⟩, (H).pickL [0, 1, 2, 4] (by decide)⟩
       exact PRT_stop
      show ∀ r w, _ → _
      rintro r' w' ⟨b23, b25, hA, H⟩
      obtain ⟨r85, rfl⟩ := regen _ hA; clear hA
      obtain ⟨w86, rfl⟩ := wld w'
      refine PRT_all ?_
      refine PB ?_ ?_
      ·show OpR _ _ _ _ _ _ _
       refine OA ze86 H (fun w22 b21 (H : Sep ok w w22 [.blk b1 87 (L73_0 a0), .hole, .blk b23 86 L73_2, .blk b25 86 L73_2, .blk b21 86 L73_2] []) => ⟨(Sep.takeL H 1), ?_⟩)
       exact hJ6_7_8 _ _ ⟨b21, b23, b25, ⟨rfl, rfl, rfl, rfl, rfl, rfl, trivial⟩, (H).pickL [0, 4, 2, 3] (by decide)⟩
      exact PRT_stop
     show ∀ r w, _ → _
     rintro r' w' ⟨b21, b25, hA, H⟩
     obtain ⟨r87, rfl⟩ := regen _ hA; clear hA
     obtain ⟨w88, rfl⟩ := wld w'
     refine PRT_all ?_
     refine PB ?_ ?_
     ·show OpR _ _ _ _ _ _ _
      refine OA ze86 H (fun w24 b23 (H : Sep ok w w24 [.blk b1 87 (L73_0 a0), .blk b21 86 L73_2, .hole, .blk b25 86 L73_2, .blk b23 86 L73_2] []) => ⟨(Sep.takeL H 1), ?_⟩)
      exact hJ6_7_8 _ _ ⟨b21, b23, b25, ⟨rfl, rfl, rfl, rfl, rfl, rfl, trivial⟩, (H).pickL [0, 1, 4, 3] (by decide)⟩
     exact PRT_stop
    show ∀ r w, _ → _
    rintro r' w' ⟨b21, b23, hA, H⟩
    obtain ⟨r89, rfl⟩ := regen _ hA; clear hA
    obtain ⟨w90, rfl⟩ := wld w'
    refine PRT_all ?_
    refine PB ?_ ?_
    ·show OpR _ _ _ _ _ _ _
     refine OA ze86 H (fun w26 b25 (H : Sep ok w w26 [.blk b1 87 (L73_0 a0), .blk b21 86 L73_2, .blk b23 86 L73_2, .hole, .blk b25 86 L73_2] []) => ⟨(Sep.takeL H 1), ?_⟩)
     exact hJ6_7_8 _ _ ⟨b21, b23, b25, ⟨rfl, rfl, rfl, rfl, rfl, rfl, trivial⟩, (H).pickL [0, 1, 2, 4] (by decide)⟩
    exact PRT_stop
   show ∀ r w, _ → _
   rintro r' w' ⟨b21, b23, b25, hA, H⟩
   obtain ⟨r91, rfl⟩ := regen _ hA; clear hA
   obtain ⟨w92, rfl⟩ := wld w'
   refine PRT_all ?_
   refine PB ?_ ?_
   ·show OpR _ _ _ _ _ _ _
    refine OS 1 0 (L73_1 a0) sz86 H (fun w27 (H : Sep ok w w27 [.blk b1 87 (L73_0 a0), .blk b21 86 (L73_1 a0), .blk b23 86 L73_2, .blk b25 86 L73_2] []) => ⟨(Sep.takeL H 1), ?_⟩)
    exact hJ6_7_8_9 _ _ ⟨b21, b23, b25, ⟨rfl, rfl, rfl, rfl, rfl, trivial⟩, H⟩
   exact PRT_stop
  show ∀ r w, _ → _
  rintro r' w' ⟨b21, b23, b25, hA, H⟩
  obtain ⟨r93, rfl⟩ := regen _ hA; clear hA
  obtain ⟨w94, rfl⟩ := wld w'
  refine PRT_all ?_
  refine PB ?_ ?_
  ·show OpR _ _ _ _ _ _ _
   refine OS 2 0 (L73_3 a0) sz86 H (fun w28 (H : S73_0 ok w w28 b1 a0 b21 b23 b25) => ⟨(Sep.takeL H 1), ?_⟩)
   exact hJ6_7_8_9_10 _ _ ⟨b21, b23, b25, ⟨rfl, rfl, rfl, rfl, trivial⟩, H⟩
  exact PRT_stop
 show ∀ r w, _ → _
 rintro r' w' ⟨b21, b23, b25, hA, H⟩
 obtain ⟨r95, rfl⟩ := regen _ hA; clear hA
 obtain ⟨w96, rfl⟩ := wld w'
 refine PRT_lin ?_
 refine PL (a := OS 3 0 (L73_4 a0) sz86 H (fun w97 (H : S73_1 ok w w97 b1 a0 b21 b23 b25) => ?_))
 refine PR_nil ?_
 refine Wr ?_
 refine RL_p (xf fo86_0) ?_
 refine RL_p (xl 0 (ii a0.a1.X) sc3 (H.c 2)) ?_
 refine RL_p (xf fo86_0) ?_
 refine RL_p (xl 0 (ii a0.a0.X) sc3 (H.c 1)) ?_
 obtain ⟨x98, ex98, qx98, ux98, hm⟩ := ck_some hm
 refine RL_p (xM ux98) ?_
 refine RL_p (xf fo86_1) ?_
 refine RL_p (xl 1 (ii a0.a2.Y) sc3 (H.c 3)) ?_
 refine RL_p (xf fo86_1) ?_
 refine RL_p (xl 1 (ii a0.a0.Y) sc3 (H.c 1)) ?_
 obtain ⟨x99, ex99, qx99, ux99, hm⟩ := ck_some hm
 refine RL_p (xM ux99) ?_
 obtain ⟨x100, ex100, qx100, ux100, hm⟩ := ck_some hm
 refine RL_p (xX ux100) ?_
 refine RL_p (xf fo86_0) ?_
 refine RL_p (xl 0 (ii a0.a2.X) sc3 (H.c 3)) ?_
 refine RL_p (xf fo86_0) ?_
 refine RL_p (xl 0 (ii a0.a0.X) sc3 (H.c 1)) ?_
 obtain ⟨x101, ex101, qx101, ux101, hm⟩ := ck_some hm
 refine RL_p (xM ux101) ?_
 refine RL_p (xf fo86_1) ?_
 refine RL_p (xl 1 (ii a0.a1.Y) sc3 (H.c 2)) ?_
 refine RL_p (xf fo86_1) ?_
 refine RL_p (xl 1 (ii a0.a0.Y) sc3 (H.c 1)) ?_
 obtain ⟨x102, ex102, qx102, ux102, hm⟩ := ck_some hm
 refine RL_p (xM ux102) ?_
 obtain ⟨x103, ex103, qx103, ux103, hm⟩ := ck_some hm
 refine RL_p (xX ux103) ?_
 obtain ⟨x104, ex104, qx104, ux104, hm⟩ := ck_some hm
 refine RL_p (xM ux104) ?_
 refine RL_p (xa (ii x104)) ?_
 refine RL_p (xa (ii 0)) ?_
 refine W_ret ?_
 obtain rfl := Option.some.inj hm
 exact ⟨[ii x104, ii 0], (.tmp (by rfl) (.tmp (by rfl) rfl)), rfl, H.none_⟩
end Go.Proofs.YtobkigllalbkiaaV.D

/- A plain Lean function that answers as the Go function does (none: not told), and the proof that a call answers so. Written by program. -/
set_option linter.unusedVariables false
set_option maxRecDepth 100000
set_option maxHeartbeats 4000000
namespace Go.Proofs.YtobkigllalbkiaaV.D
open Go.RowKit Go.Proofs.YtobkigllalbkiaaV
abbrev L52_0 (q0 : (Ar3 S_Spot)) : List Value := [ii q0.a0.X, ii q0.a0.Y, ii q0.a0.D, ii q0.a0.U, ii q0.a0.V, ii q0.a1.X, ii q0.a1.Y, ii q0.a1.D, ii q0.a1.U, ii q0.a1.V, ii q0.a2.X, ii q0.a2.Y, ii q0.a2.D, ii q0.a2.U, ii q0.a2.V]
def m52 (K : Nat) (a0 : (Ar3 S_Spot)) (a1 : Int) : Option (Bool × Int) :=
 ((m73 K a0).bind fun v4 => (bif (v4.2 != 0) then some (false, v4.2) else (bif (a1 == 0) then some ((v4.1 != 0), 0) else (bif (a1 == 1) then some ((decide (0 < v4.1)), 0) else (bif (a1 == 2) then some ((decide (v4.1 < 0)), 0) else some (false, 2))))))
theorem c52 (ok : Okp) (K : Nat) (w : World) (a0 : (Ar3 S_Spot)) (a1 : Int)  (res : Bool × Int) (hm : m52 K a0 a1 = some res) :
  Calls Tryd.prog 52 #[.agg (L52_0 a0).toArray, .int .u8 a1] w (fun e w' => e = .returned (tup [.bool res.1, ii res.2]) ∧ Sep ok w w' [] []) := by
 refine calls_W (args := [.agg (L52_0 a0).toArray, .int .u8 a1]) Tryd.func52 rfl Tryd.ntmps52 Tryd.results52 rfl fun r hr => ?_
 obtain ⟨r1, rfl⟩ := regen (r := r) [(0, .agg (L52_0 a0).toArray), (1, .int .u8 a1)] ⟨hr 0 _ rfl, hr 1 _ rfl, trivial⟩
 have H : Sep ok w w [] [] := Sep.start ok w
 unfold m52 at hm
 refine Wr ?_
 refine RL_cons (OB H (fun w2 b1 (H : Sep ok w w2 [.blk b1 87 (L52_0 a0)] []) => ?_))
 refine RL_p (xa (.bool false)) ?_
 refine RL_p (xa (ii 0)) ?_
 refine Wr ?_
 refine RL_p (xA 0 (L52_0 a0) ag87 (H.c 0)) ?_
 obtain ⟨v4, hv3, hm⟩ := bind_some hm
 refine RL_cons (OC (xc [.agg (L52_0 a0).toArray] (cf73 _ _)) (c73 okT K w2 a0  v4 hv3) ?_)
 rintro e w5 ⟨rfl, H2⟩
 have H : Sep ok w w5 [.blk b1 87 (L52_0 a0)] [] := H.below H2.base
 clear H2
 refine ⟨_, rfl, ?_⟩
 refine RL_p (xm (tup [ii v4.1, ii v4.2])) ?_
 refine RL_p (xe (ii v4.1)) ?_
 refine RL_p (xe (ii v4.2)) ?_
 refine RL_p (xa (ii v4.1)) ?_
 refine RL_p (xa (ii v4.2)) ?_
 refine W_seq ?_
 refine Wr ?_
 refine RL_p (xm (ii v4.2)) ?_
 refine RL_p (xN) ?_
 refine Wc (fun hb => ?_) (fun hb => ?_)
 ·have hm := cond_t hb hm
  refine Wr ?_
  refine RL_p (xm (ii v4.2)) ?_
  refine RL_p (xa (.bool false)) ?_
  refine RL_p (xa (ii v4.2)) ?_
  refine W_ret ?_
  obtain rfl := Option.some.inj hm
  exact ⟨[.bool false, ii v4.2], (.tmp (by rfl) (.tmp (by rfl) rfl)), rfl, H.none_⟩
 have hm := cond_f hb hm
 refine W_skip ?_
 refine W_seq ?_
 refine Wr ?_
 refine RL_p (xm (.int .u8 a1)) ?_
 refine W_block ?_
 refine Wr ?_
 refine RL_p (x_eql (by rfl) (by rfl)) ?_
 refine RL_p (xa (.bool (a1 == 0))) ?_
 refine Wc (fun hb => ?_) (fun hb => ?_)
 ·have hm := cond_t hb hm
  refine Wr ?_
  refine RL_p (xm (ii v4.1)) ?_
  refine RL_p (xN) ?_
  refine RL_p (xa (.bool (v4.1 != 0))) ?_
  refine RL_p (xa (ii 0)) ?_
  refine W_ret ?_
  obtain rfl := Option.some.inj hm
  exact ⟨[.bool (v4.1 != 0), ii 0], (.tmp (by rfl) (.tmp (by rfl) rfl)), rfl, H.none_⟩
 have hm := cond_f hb hm
 refine Wr ?_
 refine RL_p (x_eql (by rfl) (by rfl)) ?_
 refine RL_p (xa (.bool (a1 == 1))) ?_
 refine Wc (fun hb => ?_) (fun hb => ?_)
 ·have hm := cond_t hb hm
  refine Wr ?_
  refine RL_p (xm (ii v4.1)) ?_
  refine RL_p (xG) ?_
  refine RL_p (xa (.bool (decide (0 < v4.1)))) ?_
  refine RL_p (xa (ii 0)) ?_
  refine W_ret ?_
  obtain rfl := Option.some.inj hm
  exact ⟨[.bool (decide (0 < v4.1)), ii 0], (.tmp (by rfl) (.tmp (by rfl) rfl)), rfl, H.none_⟩
 have hm := cond_f hb hm
 refine Wr ?_
 refine RL_p (x_eql (by rfl) (by rfl)) ?_
 refine RL_p (xa (.bool (a1 == 2))) ?_
 refine Wc (fun hb => ?_) (fun hb => ?_)
 ·have hm := cond_t hb hm
  refine Wr ?_
  refine RL_p (xm (ii v4.1)) ?_
  refine RL_p (xL) ?_
  refine RL_p (xa (.bool (decide (v4.1 < 0)))) ?_
  refine RL_p (xa (ii 0)) ?_
  refine W_ret ?_
  obtain rfl := Option.some.inj hm
  exact ⟨[.bool (decide (v4.1 < 0)), ii 0], (.tmp (by rfl) (.tmp (by rfl) rfl)), rfl, H.none_⟩
 have hm := cond_f hb hm
 refine W_skip ?_
 refine Wr ?_
 refine RL_p (xa (.bool false)) ?_
 refine RL_p (xa (ii 2)) ?_
 refine W_ret ?_
 obtain rfl := Option.some.inj hm
 exact ⟨[.bool false, ii 2], (.tmp (by rfl) (.tmp (by rfl) rfl)), rfl, H.none_⟩
end Go.Proofs.YtobkigllalbkiaaV.D

/- A plain Lean function that answers as the Go function does (none: not told), and the proof that a call answers so. Written by program. -/
set_option linter.unusedVariables false
set_option maxRecDepth 100000
set_option maxHeartbeats 4000000
namespace Go.Proofs.YtobkigllalbkiaaV.D
open Go.RowKit Go.Proofs.YtobkigllalbkiaaV
abbrev L53_0 (q0 : (Ar3 S_Spot)) : List Value := [ii q0.a0.X, ii q0.a0.Y, ii q0.a0.D, ii q0.a0.U, ii q0.a0.V, ii q0.a1.X, ii q0.a1.Y, ii q0.a1.D, ii q0.a1.U, ii q0.a1.V, ii q0.a2.X, ii q0.a2.Y, ii q0.a2.D, ii q0.a2.U, ii q0.a2.V]
abbrev L53_1  : List Value := [ii 0, ii 0, ii 0, ii 0, ii 0, ii 0, ii 0, ii 0, ii 0, ii 0, ii 0, ii 0, ii 0, ii 0, ii 0]
abbrev L53_2 (q0 : (Ar3 S_Spot)) : List Value := [ii q0.a2.X, ii q0.a2.Y, ii q0.a2.D, ii q0.a2.U, ii q0.a2.V]
abbrev L53_3 (q0 : (Ar3 S_Spot)) : List Value := [ii q0.a1.X, ii q0.a1.Y, ii q0.a1.D, ii q0.a1.U, ii q0.a1.V]
abbrev L53_4 (q0 : (Ar3 S_Spot)) : List Value := [ii q0.a0.X, ii q0.a0.Y, ii q0.a0.D, ii q0.a0.U, ii q0.a0.V, ii q0.a2.X, ii q0.a2.Y, ii q0.a2.D, ii q0.a2.U, ii q0.a2.V, ii q0.a2.X, ii q0.a2.Y, ii q0.a2.D, ii q0.a2.U, ii q0.a2.V]
abbrev L53_5 (q0 : (Ar3 S_Spot)) : List Value := [ii q0.a0.X, ii q0.a0.Y, ii q0.a0.D, ii q0.a0.U, ii q0.a0.V, ii q0.a2.X, ii q0.a2.Y, ii q0.a2.D, ii q0.a2.U, ii q0.a2.V, ii q0.a1.X, ii q0.a1.Y, ii q0.a1.D, ii q0.a1.U, ii q0.a1.V]
abbrev L53_6 (q0 : (Ar3 S_Spot) × Int) : List Value := [ii q0.1.a0.X, ii q0.1.a0.Y, ii q0.1.a0.D, ii q0.1.a0.U, ii q0.1.a0.V, ii q0.1.a1.X, ii q0.1.a1.Y, ii q0.1.a1.D, ii q0.1.a1.U, ii q0.1.a1.V, ii q0.1.a2.X, ii q0.1.a2.Y, ii q0.1.a2.D, ii q0.1.a2.U, ii q0.1.a2.V]
def m53 (K : Nat) (a0 : (Ar3 S_Spot)) : Option ((Ar3 S_Spot) × Int) :=
 ((m73 K a0).bind fun v6 => (bif (v6.2 != 0) then some ((⟨(⟨0, 0, 0, 0, 0⟩ : S_Spot), (⟨0, 0, 0, 0, 0⟩ : S_Spot), (⟨0, 0, 0, 0, 0⟩ : S_Spot)⟩ : (Ar3 S_Spot)), v6.2) else (bif (v6.1 == 0) then some ((⟨(⟨0, 0, 0, 0, 0⟩ : S_Spot), (⟨0, 0, 0, 0, 0⟩ : S_Spot), (⟨0, 0, 0, 0, 0⟩ : S_Spot)⟩ : (Ar3 S_Spot)), 6) else (bif (decide (v6.1 < 0)) then some ((⟨a0.a0, a0.a2, a0.a1⟩ : (Ar3 S_Spot)), 0) else some (a0, 0)))))
theorem c53 (ok : Okp) (K : Nat) (w : World) (a0 : (Ar3 S_Spot))  (res : (Ar3 S_Spot) × Int) (hm : m53 K a0 = some res) :
  Calls Tryd.prog 53 #[.agg (L53_0 a0).toArray] w (fun e w' => e = .returned (tup [.agg (L53_6 res).toArray, ii res.2]) ∧ Sep ok w w' [] []) := by
 refine calls_W (args := [.agg (L53_0 a0).toArray]) Tryd.func53 rfl Tryd.ntmps53 Tryd.results53 rfl fun r hr => ?_
 obtain ⟨r1, rfl⟩ := regen (r := r) [(0, .agg (L53_0 a0).toArray)] ⟨hr 0 _ rfl, trivial⟩
 have H : Sep ok w w [] [] := Sep.start ok w
 unfold m53 at hm
 refine Wr ?_
 refine RL_cons (OB H (fun w2 b1 (H : Sep ok w w2 [.blk b1 87 (L53_0 a0)] []) => ?_))
 refine RL_cons (OA ze87 H (fun w4 b3 (H : Sep ok w w4 [.blk b1 87 (L53_0 a0), .blk b3 87 L53_1] []) => ?_))
 refine RL_p (xa (ii 0)) ?_
 refine Wr ?_
 refine RL_p (xA 0 (L53_0 a0) ag87 (H.c 0)) ?_
 obtain ⟨v6, hv5, hm⟩ := bind_some hm
 refine RL_cons (OC (xc [.agg (L53_0 a0).toArray] (cf73 _ _)) (c73 okT K w4 a0  v6 hv5) ?_)
 rintro e w7 ⟨rfl, H2⟩
 have H : Sep ok w w7 [.blk b1 87 (L53_0 a0), .blk b3 87 L53_1] [] := H.below H2.base
 clear H2
 refine ⟨_, rfl, ?_⟩
 refine RL_p (xm (tup [ii v6.1, ii v6.2])) ?_
 refine RL_p (xe (ii v6.1)) ?_
 refine RL_p (xe (ii v6.2)) ?_
 refine RL_p (xa (ii v6.1)) ?_
 refine RL_p (xa (ii v6.2)) ?_
 refine W_seq ?_
 refine W_block ?_
 refine Wr ?_
 refine RL_p (xm (ii v6.2)) ?_
 refine RL_p (xN) ?_
 refine RL_p (xa (.bool (v6.2 != 0))) ?_
 refine Wc (fun hb => ?_) (fun hb => ?_)
 ·have hm := cond_t hb hm
  refine Wr ?_
  refine RL_p (x_build (vs := []) (cs := L53_1) (by rfl) (by kernel_rfl)) ?_
  refine RL_p (xm (ii v6.2)) ?_
  refine RL_cons (OS 1 0 L53_1 sz87 H (fun w8 (H : Sep ok w w8 [.blk b1 87 (L53_0 a0), .blk b3 87 L53_1] []) => ?_))
  refine RL_p (xa (ii v6.2)) ?_
  refine W_ret ?_
  obtain rfl := Option.some.inj hm
  exact ⟨[.agg L53_1.toArray, ii v6.2], (.cellA (by rfl) ag87 (H.c 1) (by rfl) (.tmp (by rfl) rfl)), rfl, H.none_⟩
 have hm := cond_f hb hm
 refine Wr ?_
 refine RL_p (xm (ii v6.1)) ?_
 refine RL_p (x_eql (by rfl) (by rfl)) ?_
 refine RL_p (xa (.bool (v6.1 == 0))) ?_
 refine Wc (fun hb => ?_) (fun hb => ?_)
 ·have hm := cond_t hb hm
  refine Wr ?_
  refine RL_p (x_build (vs := []) (cs := L53_1) (by rfl) (by kernel_rfl)) ?_
  refine RL_cons (OS 1 0 L53_1 sz87 H (fun w9 (H : Sep ok w w9 [.blk b1 87 (L53_0 a0), .blk b3 87 L53_1] []) => ?_))
  refine RL_p (xa (ii 6)) ?_
  refine W_ret ?_
  obtain rfl := Option.some.inj hm
  exact ⟨[.agg L53_1.toArray, ii 6], (.cellA (by rfl) ag87 (H.c 1) (by rfl) (.tmp (by rfl) rfl)), rfl, H.none_⟩
 have hm := cond_f hb hm
 refine Wr ?_
 refine RL_p (xm (ii v6.1)) ?_
 refine RL_p (xL) ?_
 refine RL_p (xa (.bool (decide (v6.1 < 0)))) ?_
 refine Wc (fun hb => ?_) (fun hb => ?_)
 ·have hm := cond_t hb hm
  refine W_region ?_
  refine RL_p (xI ar87 sz86) ?_
  refine RL_p (xA 10 (L53_2 a0) ag86 (H.c 0)) ?_
  refine RL_p (xI ar87 sz86) ?_
  refine RL_p (xA 5 (L53_3 a0) ag86 (H.c 0)) ?_
  refine RL_p (xI ar87 sz86) ?_
  refine RL_cons (OS 0 5 (L53_2 a0) sz86 H (fun w10 (H : Sep ok w w10 [.blk b1 87 (L53_4 a0), .blk b3 87 L53_1] []) => ?_))
  refine RL_p (xI ar87 sz86) ?_
  refine RL_cons (OS 0 10 (L53_3 a0) sz86 H (fun w11 (H : Sep ok w w11 [.blk b1 87 (L53_5 a0), .blk b3 87 L53_1] []) => ?_))
  refine Wr ?_
  refine RL_p (xA 0 (L53_5 a0) ag87 (H.c 0)) ?_
  refine RL_cons (OS 1 0 (L53_5 a0) sz87 H (fun w12 (H : Sep ok w w12 [.blk b1 87 (L53_5 a0), .blk b3 87 (L53_5 a0)] []) => ?_))
  refine RL_p (xa (ii 0)) ?_
  refine W_ret ?_
  obtain rfl := Option.some.inj hm
  exact ⟨[.agg (L53_5 a0).toArray, ii 0], (.cellA (by rfl) ag87 (H.c 1) (by rfl) (.tmp (by rfl) rfl)), rfl, H.none_⟩
 have hm := cond_f hb hm
 refine W_skip ?_
 refine Wr ?_
 refine RL_p (xA 0 (L53_0 a0) ag87 (H.c 0)) ?_
 refine RL_cons (OS 1 0 (L53_0 a0) sz87 H (fun w13 (H : Sep ok w w13 [.blk b1 87 (L53_0 a0), .blk b3 87 (L53_0 a0)] []) => ?_))
 refine RL_p (xa (ii 0)) ?_
 refine W_ret ?_
 obtain rfl := Option.some.inj hm
 exact ⟨[.agg (L53_0 a0).toArray, ii 0], (.cellA (by rfl) ag87 (H.c 1) (by rfl) (.tmp (by rfl) rfl)), rfl, H.none_⟩
end Go.Proofs.YtobkigllalbkiaaV.D

/- A plain Lean function that answers as the Go function does (none: not told), and the proof that a call answers so. Written by program. -/
set_option linter.unusedVariables false
set_option maxRecDepth 100000
set_option maxHeartbeats 4000000
namespace Go.Proofs.YtobkigllalbkiaaV.D
open Go.RowKit Go.Proofs.YtobkigllalbkiaaV
abbrev L33_0 (q0 : Option Addr) (q1 : S_Show) (q2 : Nat) (q3 : Option Addr) (q4 : Nat) : List Value := [.slice q0 q1.Items.length q2, .slice q3 q1.Textures.length q4]
abbrev L33_1 (q0 : S_Camera) : List Value := [ii q0.Pos.X, ii q0.Pos.Y, ii q0.Pos.Z, ii q0.M.a0.a0, ii q0.M.a0.a1, ii q0.M.a0.a2, ii q0.M.a1.a0, ii q0.M.a1.a1, ii q0.M.a1.a2, ii q0.M.a2.a0, ii q0.M.a2.a1, ii q0.M.a2.a2, ii q0.Focal, ii q0.Near, ii q0.W, ii q0.H]
abbrev L33_2 (q0 : Option Addr) (q1 : S_Item) (q2 : Nat) (q3 : Option Addr) (q4 : Nat) (q5 : Option Addr) (q6 : Nat) : List Value := [.slice q0 q1.Verts.length q2, .slice q3 q1.UV.length q4, .slice q5 q1.Tris.length q6, .int .u8 q1.Look.Color.a0, .int .u8 q1.Look.Color.a1, .int .u8 q1.Look.Color.a2, .int .u8 q1.Look.Color.a3, ii q1.Look.Texture, .int .u8 q1.Look.Cull, ii q1.Look.Bias, .bool q1.Look.Blend, ii q1.Look.Bin, ii q1.Box.Low.X, ii q1.Box.Low.Y, ii q1.Box.Low.Z, ii q1.Box.High.X, ii q1.Box.High.Y, ii q1.Box.High.Z]
abbrev L33_3  : List Value := [.slice none 0 0, .slice none 0 0, .slice none 0 0, .int .u8 0, .int .u8 0, .int .u8 0, .int .u8 0, ii 0, .int .u8 0, ii 0, .bool false, ii 0, ii 0, ii 0, ii 0, ii 0, ii 0, ii 0]
abbrev L33_4  : List Value := [ii 0, ii 0, ii 0, ii 0, ii 0, ii 0, ii 0, ii 0, ii 0, ii 0, ii 0, ii 0, ii 0, ii 0, ii 0]
abbrev L33_5 (q0 : (Ar3 Int)) : List Value := [ii q0.a0, ii q0.a1, ii q0.a2]
abbrev L33_6 (q0 : S_Vec) : List Value := [ii q0.X, ii q0.Y, ii q0.Z]
abbrev L33_7 (q0 : S_Vec × Int) : List Value := [ii q0.1.X, ii q0.1.Y, ii q0.1.Z]
abbrev L33_8 (q0 : S_Vec × Int) (q1 : (Ar2 Int)) (q2 : (Ar2 Int)) : List Value := [ii q0.1.X, ii q0.1.Y, ii q0.1.Z, ii q1.a0, ii q2.a1]
abbrev L33_9 (q0 : S_Vec × Int) (q1 : (Ar2 Int)) (q2 : (Ar2 Int)) : List Value := [ii q0.1.X, ii q0.1.Y, ii q0.1.Z, ii q1.a0, ii q2.a1, ii 0, ii 0, ii 0, ii 0, ii 0, ii 0, ii 0, ii 0, ii 0, ii 0]
abbrev L33_10 (q0 : S_Vec × Int) (q1 : (Ar2 Int)) (q2 : (Ar2 Int)) (q3 : S_Vec × Int) (q4 : (Ar2 Int)) (q5 : (Ar2 Int)) : List Value := [ii q0.1.X, ii q0.1.Y, ii q0.1.Z, ii q1.a0, ii q2.a1, ii q3.1.X, ii q3.1.Y, ii q3.1.Z, ii q4.a0, ii q5.a1, ii 0, ii 0, ii 0, ii 0, ii 0]
abbrev L33_11 (q0 : S_Vec × Int) (q1 : (Ar2 Int)) (q2 : (Ar2 Int)) (q3 : S_Vec × Int) (q4 : (Ar2 Int)) (q5 : (Ar2 Int)) (q6 : S_Vec × Int) (q7 : (Ar2 Int)) (q8 : (Ar2 Int)) : List Value := [ii q0.1.X, ii q0.1.Y, ii q0.1.Z, ii q1.a0, ii q2.a1, ii q3.1.X, ii q3.1.Y, ii q3.1.Z, ii q4.a0, ii q5.a1, ii q6.1.X, ii q6.1.Y, ii q6.1.Z, ii q7.a0, ii q8.a1]
abbrev L33_12 (q0 : (Ar3 S_Point)) : List Value := [ii q0.a0.P.X, ii q0.a0.P.Y, ii q0.a0.P.Z, ii q0.a0.U, ii q0.a0.V, ii q0.a1.P.X, ii q0.a1.P.Y, ii q0.a1.P.Z, ii q0.a1.U, ii q0.a1.V, ii q0.a2.P.X, ii q0.a2.P.Y, ii q0.a2.P.Z, ii q0.a2.U, ii q0.a2.V]
abbrev L33_13 (q0 : (Ar3 S_Point)) : List Value := [ii q0.a0.P.X, ii q0.a0.P.Y, ii q0.a0.P.Z, ii q0.a0.U, ii q0.a0.V]
abbrev L33_14  : List Value := [ii 0, ii 0, ii 0, ii 0, ii 0]
abbrev L33_15 (q0 : S_Spot × Int) : List Value := [ii q0.1.X, ii q0.1.Y, ii q0.1.D, ii q0.1.U, ii q0.1.V]
abbrev L33_16 (q0 : S_Spot × Int) : List Value := [ii q0.1.X, ii q0.1.Y, ii q0.1.D, ii q0.1.U, ii q0.1.V, ii 0, ii 0, ii 0, ii 0, ii 0, ii 0, ii 0, ii 0, ii 0, ii 0]
abbrev L33_17 (q0 : (Ar3 S_Point)) : List Value := [ii q0.a1.P.X, ii q0.a1.P.Y, ii q0.a1.P.Z, ii q0.a1.U, ii q0.a1.V]
abbrev L33_18 (q0 : S_Spot × Int) (q1 : S_Spot × Int) : List Value := [ii q0.1.X, ii q0.1.Y, ii q0.1.D, ii q0.1.U, ii q0.1.V, ii q1.1.X, ii q1.1.Y, ii q1.1.D, ii q1.1.U, ii q1.1.V, ii 0, ii 0, ii 0, ii 0, ii 0]
abbrev L33_19 (q0 : (Ar3 S_Point)) : List Value := [ii q0.a2.P.X, ii q0.a2.P.Y, ii q0.a2.P.Z, ii q0.a2.U, ii q0.a2.V]
abbrev L33_20 (q0 : S_Spot × Int) (q1 : S_Spot × Int) (q2 : S_Spot × Int) : List Value := [ii q0.1.X, ii q0.1.Y, ii q0.1.D, ii q0.1.U, ii q0.1.V, ii q1.1.X, ii q1.1.Y, ii q1.1.D, ii q1.1.U, ii q1.1.V, ii q2.1.X, ii q2.1.Y, ii q2.1.D, ii q2.1.U, ii q2.1.V]
abbrev L33_21 (q0 : (Ar3 S_Spot) × Int) : List Value := [ii q0.1.a0.X, ii q0.1.a0.Y, ii q0.1.a0.D, ii q0.1.a0.U, ii q0.1.a0.V, ii q0.1.a1.X, ii q0.1.a1.Y, ii q0.1.a1.D, ii q0.1.a1.U, ii q0.1.a1.V, ii q0.1.a2.X, ii q0.1.a2.Y, ii q0.1.a2.D, ii q0.1.a2.U, ii q0.1.a2.V]
def m33_l1b (K : Nat) (a0 : S_Show) (a1 : S_Camera) (a2 : Int) (el13 : S_Item) (v306 : (List (Ar3 S_Point)) × Int) (rec1 : (List (Ar3 S_Spot)) → Int → Option ((List (Ar3 S_Spot)))) (l_row353_1 : (List (Ar3 S_Spot))) (y74_1 : Int) : Option ((List (Ar3 S_Spot))) :=
 (bif (decide (y74_1 < (v306.1.length : Int))) then (idx v306.1 y74_1 fun el313 => ((m51 K a1 el313.a0).bind fun v329 => ((m51 K a1 el313.a1).bind fun v336 => ((m51 K a1 el313.a2).bind fun v343 => ((m52 K (⟨v329.1, v336.1, v343.1⟩ : (Ar3 S_Spot)) el13.Look.Cull).bind fun v347 => (bif v347.1 then ((m53 K (⟨v329.1, v336.1, v343.1⟩ : (Ar3 S_Spot))).bind fun v350 => (apd 120 l_row353_1 v350.1 fun l359 => (ck (y74_1 + 1) fun x362 => (rec1 l359 x362)))) else (ck (y74_1 + 1) fun x363 => (rec1 l_row353_1 x363)))))))) else some l_row353_1)
def m33_l1 (K : Nat) (a0 : S_Show) (a1 : S_Camera) (a2 : Int) (el13 : S_Item) (v306 : (List (Ar3 S_Point)) × Int) : Nat → (List (Ar3 S_Spot)) → Int → Option ((List (Ar3 S_Spot)))
 | 0 => fun _ _ => none
 | k + 1 => m33_l1b K a0 a1 a2 el13 v306 (m33_l1 K a0 a1 a2 el13 v306 k)
def m33 (K : Nat) (a0 : S_Show) (a1 : S_Camera) (a2 : Int) (a3 : Int) : Option ((List (Ar3 S_Spot))) :=
 (idx a0.Items a2 fun el13 => (idx el13.Tris a3 fun el43 => (idx el13.Verts el43.a0 fun el50 => ((m49 K a1 el50).bind fun v58 => (idx el13.UV el43.a0 fun el120 => (idx el13.UV el43.a0 fun el127 => (idx el13.Verts el43.a1 fun el135 => ((m49 K a1 el135).bind fun v143 => (idx el13.UV el43.a1 fun el205 => (idx el13.UV el43.a1 fun el212 => (idx el13.Verts el43.a2 fun el220 => ((m49 K a1 el220).bind fun v228 => (idx el13.UV el43.a2 fun el290 => (idx el13.UV el43.a2 fun el297 => ((m50 K a1.Near (⟨(⟨v58.1, el120.a0, el127.a1⟩ : S_Point), (⟨v143.1, el205.a0, el212.a1⟩ : S_Point), (⟨v228.1, el290.a0, el297.a1⟩ : S_Point)⟩ : (Ar3 S_Point))).bind fun v306 => m33_l1 K a0 a1 a2 el13 v306 K ([]) 0)))))))))))))))
abbrev S33_0 (q0 : Okp) (q1 q2 : World) (q3 : Nat) (q4 : S_Camera) (q5 : Nat) (q6 : Option Addr) (q7 : S_Item) (q8 : Nat) (q9 : Option Addr) (q10 : Nat) (q11 : Option Addr) (q12 q13 q14 q15 : Nat) (q16 : Int) : Prop := Sep q0 q1 q2 [.blk q3 31 (L33_1 q4), .blk q5 52 (L33_2 q6 q7 q8 q9 q10 q11 q12), .blk q13 125 L33_4] [RE.cells q14 (q15 + (q16).toNat * 18) (L33_2 q6 q7 q8 q9 q10 q11 q12), RE.rd k_Vec q6 q8 q7.Verts, RE.rd k_Ar2_Int q9 q10 q7.UV, RE.rd k_Ar3_Int q11 q12 q7.Tris]
abbrev S33_1 (q0 : Okp) (q1 q2 : World) (q3 : Nat) (q4 : S_Camera) (q5 : Nat) (q6 : Option Addr) (q7 : S_Item) (q8 : Nat) (q9 : Option Addr) (q10 : Nat) (q11 : Option Addr) (q12 q13 q14 q15 q16 : Nat) (q17 : Int) : Prop := Sep q0 q1 q2 [.blk q3 31 (L33_1 q4), .blk q5 52 (L33_2 q6 q7 q8 q9 q10 q11 q12), .blk q13 125 L33_4, .blk q14 27 [ii 0, ii 0, ii 0]] [RE.cells q15 (q16 + (q17).toNat * 18) (L33_2 q6 q7 q8 q9 q10 q11 q12), RE.rd k_Vec q6 q8 q7.Verts, RE.rd k_Ar2_Int q9 q10 q7.UV, RE.rd k_Ar3_Int q11 q12 q7.Tris]
abbrev S33_2 (q0 : Okp) (q1 q2 : World) (q3 : Nat) (q4 : S_Camera) (q5 : Nat) (q6 : Option Addr) (q7 : S_Item) (q8 : Nat) (q9 : Option Addr) (q10 : Nat) (q11 : Option Addr) (q12 q13 q14 q15 : Nat) (q16 : Int) : Prop := Sep q0 q1 q2 [.blk q3 31 (L33_1 q4), .blk q5 52 (L33_2 q6 q7 q8 q9 q10 q11 q12), .blk q13 125 L33_4, .hole] [RE.cells q14 (q15 + (q16).toNat * 18) (L33_2 q6 q7 q8 q9 q10 q11 q12), RE.rd k_Vec q6 q8 q7.Verts, RE.rd k_Ar2_Int q9 q10 q7.UV, RE.rd k_Ar3_Int q11 q12 q7.Tris]
abbrev S33_3 (q0 : Okp) (q1 q2 : World) (q3 : Nat) (q4 : S_Camera) (q5 : Nat) (q6 : Option Addr) (q7 : S_Item) (q8 : Nat) (q9 : Option Addr) (q10 : Nat) (q11 : Option Addr) (q12 q13 q14 q15 q16 : Nat) (q17 : Int) : Prop := Sep q0 q1 q2 [.blk q3 31 (L33_1 q4), .blk q5 52 (L33_2 q6 q7 q8 q9 q10 q11 q12), .blk q13 125 L33_4, .hole, .blk q14 27 [ii 0, ii 0, ii 0]] [RE.cells q15 (q16 + (q17).toNat * 18) (L33_2 q6 q7 q8 q9 q10 q11 q12), RE.rd k_Vec q6 q8 q7.Verts, RE.rd k_Ar2_Int q9 q10 q7.UV, RE.rd k_Ar3_Int q11 q12 q7.Tris]
abbrev S33_4 (q0 : Okp) (q1 q2 : World) (q3 : Nat) (q4 : S_Camera) (q5 : Nat) (q6 : Option Addr) (q7 : S_Item) (q8 : Nat) (q9 : Option Addr) (q10 : Nat) (q11 : Option Addr) (q12 q13 q14 : Nat) (q15 : S_Vec × Int) (q16 q17 : Nat) (q18 : Int) : Prop := Sep q0 q1 q2 [.blk q3 31 (L33_1 q4), .blk q5 52 (L33_2 q6 q7 q8 q9 q10 q11 q12), .blk q13 125 L33_4, .blk q14 27 (L33_7 q15)] [RE.cells q16 (q17 + (q18).toNat * 18) (L33_2 q6 q7 q8 q9 q10 q11 q12), RE.rd k_Vec q6 q8 q7.Verts, RE.rd k_Ar2_Int q9 q10 q7.UV, RE.rd k_Ar3_Int q11 q12 q7.Tris]
abbrev S33_5 (q0 : Okp) (q1 q2 : World) (q3 : Nat) (q4 : S_Camera) (q5 : Nat) (q6 : Option Addr) (q7 : S_Item) (q8 : Nat) (q9 : Option Addr) (q10 : Nat) (q11 : Option Addr) (q12 q13 : Nat) (q14 : S_Vec × Int) (q15 q16 : (Ar2 Int)) (q17 q18 q19 : Nat) (q20 : Int) : Prop := Sep q0 q1 q2 [.blk q3 31 (L33_1 q4), .blk q5 52 (L33_2 q6 q7 q8 q9 q10 q11 q12), .blk q13 125 (L33_9 q14 q15 q16), .blk q17 27 (L33_7 q14)] [RE.cells q18 (q19 + (q20).toNat * 18) (L33_2 q6 q7 q8 q9 q10 q11 q12), RE.rd k_Vec q6 q8 q7.Verts, RE.rd k_Ar2_Int q9 q10 q7.UV, RE.rd k_Ar3_Int q11 q12 q7.Tris]
abbrev S33_6 (q0 : Okp) (q1 q2 : World) (q3 : Nat) (q4 : S_Camera) (q5 : Nat) (q6 : Option Addr) (q7 : S_Item) (q8 : Nat) (q9 : Option Addr) (q10 : Nat) (q11 : Option Addr) (q12 q13 : Nat) (q14 : S_Vec × Int) (q15 q16 : (Ar2 Int)) (q17 q18 q19 q20 : Nat) (q21 : Int) : Prop := Sep q0 q1 q2 [.blk q3 31 (L33_1 q4), .blk q5 52 (L33_2 q6 q7 q8 q9 q10 q11 q12), .blk q13 125 (L33_9 q14 q15 q16), .blk q17 27 (L33_7 q14), .blk q18 27 [ii 0, ii 0, ii 0]] [RE.cells q19 (q20 + (q21).toNat * 18) (L33_2 q6 q7 q8 q9 q10 q11 q12), RE.rd k_Vec q6 q8 q7.Verts, RE.rd k_Ar2_Int q9 q10 q7.UV, RE.rd k_Ar3_Int q11 q12 q7.Tris]
abbrev S33_7 (q0 : Okp) (q1 q2 : World) (q3 : Nat) (q4 : S_Camera) (q5 : Nat) (q6 : Option Addr) (q7 : S_Item) (q8 : Nat) (q9 : Option Addr) (q10 : Nat) (q11 : Option Addr) (q12 q13 : Nat) (q14 : S_Vec × Int) (q15 q16 : (Ar2 Int)) (q17 q18 q19 : Nat) (q20 : Int) : Prop := Sep q0 q1 q2 [.blk q3 31 (L33_1 q4), .blk q5 52 (L33_2 q6 q7 q8 q9 q10 q11 q12), .blk q13 125 (L33_9 q14 q15 q16), .blk q17 27 (L33_7 q14), .hole] [RE.cells q18 (q19 + (q20).toNat * 18) (L33_2 q6 q7 q8 q9 q10 q11 q12), RE.rd k_Vec q6 q8 q7.Verts, RE.rd k_Ar2_Int q9 q10 q7.UV, RE.rd k_Ar3_Int q11 q12 q7.Tris]
abbrev S33_8 (q0 : Okp) (q1 q2 : World) (q3 : Nat) (q4 : S_Camera) (q5 : Nat) (q6 : Option Addr) (q7 : S_Item) (q8 : Nat) (q9 : Option Addr) (q10 : Nat) (q11 : Option Addr) (q12 q13 : Nat) (q14 : S_Vec × Int) (q15 q16 : (Ar2 Int)) (q17 q18 : Nat) (q19 : S_Vec × Int) (q20 q21 : Nat) (q22 : Int) : Prop := Sep q0 q1 q2 [.blk q3 31 (L33_1 q4), .blk q5 52 (L33_2 q6 q7 q8 q9 q10 q11 q12), .blk q13 125 (L33_9 q14 q15 q16), .blk q17 27 (L33_7 q14), .blk q18 27 (L33_7 q19)] [RE.cells q20 (q21 + (q22).toNat * 18) (L33_2 q6 q7 q8 q9 q10 q11 q12), RE.rd k_Vec q6 q8 q7.Verts, RE.rd k_Ar2_Int q9 q10 q7.UV, RE.rd k_Ar3_Int q11 q12 q7.Tris]
abbrev S33_9 (q0 : Okp) (q1 q2 : World) (q3 : Nat) (q4 : S_Camera) (q5 : Nat) (q6 : Option Addr) (q7 : S_Item) (q8 : Nat) (q9 : Option Addr) (q10 : Nat) (q11 : Option Addr) (q12 q13 : Nat) (q14 : S_Vec × Int) (q15 q16 : (Ar2 Int)) (q17 : S_Vec × Int) (q18 q19 : (Ar2 Int)) (q20 q21 q22 q23 : Nat) (q24 : Int) : Prop := Sep q0 q1 q2 [.blk q3 31 (L33_1 q4), .blk q5 52 (L33_2 q6 q7 q8 q9 q10 q11 q12), .blk q13 125 (L33_10 q14 q15 q16 q17 q18 q19), .blk q20 27 (L33_7 q14), .blk q21 27 (L33_7 q17)] [RE.cells q22 (q23 + (q24).toNat * 18) (L33_2 q6 q7 q8 q9 q10 q11 q12), RE.rd k_Vec q6 q8 q7.Verts, RE.rd k_Ar2_Int q9 q10 q7.UV, RE.rd k_Ar3_Int q11 q12 q7.Tris]
abbrev S33_10 (q0 : Okp) (q1 q2 : World) (q3 : Nat) (q4 : S_Camera) (q5 : Nat) (q6 : Option Addr) (q7 : S_Item) (q8 : Nat) (q9 : Option Addr) (q10 : Nat) (q11 : Option Addr) (q12 q13 : Nat) (q14 : S_Vec × Int) (q15 q16 : (Ar2 Int)) (q17 : S_Vec × Int) (q18 q19 : (Ar2 Int)) (q20 q21 q22 q23 q24 : Nat) (q25 : Int) : Prop := Sep q0 q1 q2 [.blk q3 31 (L33_1 q4), .blk q5 52 (L33_2 q6 q7 q8 q9 q10 q11 q12), .blk q13 125 (L33_10 q14 q15 q16 q17 q18 q19), .blk q20 27 (L33_7 q14), .blk q21 27 (L33_7 q17), .blk q22 27 [ii 0, ii 0, ii 0]] [RE.cells q23 (q24 + (q25).toNat * 18) (L33_2 q6 q7 q8 q9 q10 q11 q12), RE.rd k_Vec q6 q8 q7.Verts, RE.rd k_Ar2_Int q9 q10 q7.UV, RE.rd k_Ar3_Int q11 q12 q7.Tris]
abbrev S33_11 (q0 : Okp) (q1 q2 : World) (q3 : Nat) (q4 : S_Camera) (q5 : Nat) (q6 : Option Addr) (q7 : S_Item) (q8 : Nat) (q9 : Option Addr) (q10 : Nat) (q11 : Option Addr) (q12 q13 : Nat) (q14 : S_Vec × Int) (q15 q16 : (Ar2 Int)) (q17 : S_Vec × Int) (q18 q19 : (Ar2 Int)) (q20 q21 q22 q23 : Nat) (q24 : Int) : Prop := Sep q0 q1 q2 [.blk q3 31 (L33_1 q4), .blk q5 52 (L33_2 q6 q7 q8 q9 q10 q11 q12), .blk q13 125 (L33_10 q14 q15 q16 q17 q18 q19), .blk q20 27 (L33_7 q14), .blk q21 27 (L33_7 q17), .hole] [RE.cells q22 (q23 + (q24).toNat * 18) (L33_2 q6 q7 q8 q9 q10 q11 q12), RE.rd k_Vec q6 q8 q7.Verts, RE.rd k_Ar2_Int q9 q10 q7.UV, RE.rd k_Ar3_Int q11 q12 q7.Tris]
abbrev S33_12 (q0 : Okp) (q1 q2 : World) (q3 : Nat) (q4 : S_Camera) (q5 : Nat) (q6 : Option Addr) (q7 : S_Item) (q8 : Nat) (q9 : Option Addr) (q10 : Nat) (q11 : Option Addr) (q12 q13 : Nat) (q14 : S_Vec × Int) (q15 q16 : (Ar2 Int)) (q17 : S_Vec × Int) (q18 q19 : (Ar2 Int)) (q20 q21 q22 : Nat) (q23 : S_Vec × Int) (q24 q25 : Nat) (q26 : Int) : Prop := Sep q0 q1 q2 [.blk q3 31 (L33_1 q4), .blk q5 52 (L33_2 q6 q7 q8 q9 q10 q11 q12), .blk q13 125 (L33_10 q14 q15 q16 q17 q18 q19), .blk q20 27 (L33_7 q14), .blk q21 27 (L33_7 q17), .blk q22 27 (L33_7 q23)] [RE.cells q24 (q25 + (q26).toNat * 18) (L33_2 q6 q7 q8 q9 q10 q11 q12), RE.rd k_Vec q6 q8 q7.Verts, RE.rd k_Ar2_Int q9 q10 q7.UV, RE.rd k_Ar3_Int q11 q12 q7.Tris]
abbrev S33_13 (q0 : Okp) (q1 q2 : World) (q3 : Nat) (q4 : S_Camera) (q5 : Nat) (q6 : Option Addr) (q7 : S_Item) (q8 : Nat) (q9 : Option Addr) (q10 : Nat) (q11 : Option Addr) (q12 : Nat) (q13 : Option Addr) (q14 : (List (Ar3 S_Spot))) (q15 : Nat) (q16 : List Value) (q17 : Nat) (q18 q19 q20 : S_Spot × Int) (q21 : Nat) (q22 : (Ar3 S_Point)) (q23 q24 : Nat) (q25 : Int) (q26 : Option Addr) (q27 : Nat) (q28 : (List (Ar3 S_Point)) × Int) : Prop := Sep q0 q1 q2 [.blk q3 31 (L33_1 q4), .blk q5 52 (L33_2 q6 q7 q8 q9 q10 q11 q12), .row (.slice q13 q14.length q15) 87 k_Ar3_S_Spot.sz q14.length q16, .blk q17 87 (L33_20 q18 q19 q20), .blk q21 124 (L33_19 q22)] [RE.cells q23 (q24 + (q25).toNat * 18) (L33_2 q6 q7 q8 q9 q10 q11 q12), RE.rd k_Vec q6 q8 q7.Verts, RE.rd k_Ar2_Int q9 q10 q7.UV, RE.rd k_Ar3_Int q11 q12 q7.Tris, RE.rd k_Ar3_S_Point q26 q27 q28.1, RE.chunks k_Ar3_S_Spot q16 q14]
theorem c33 (ok : Okp) (K : Nat) (w : World) (a0 : S_Show) (A1 : Option Addr) (cp2 : Nat) (A5 : Option Addr) (cp6 : Nat) (a1 : S_Camera) (a2 : Int) (a3 : Int) (hR3 : Rd k_Item w ok A1 cp2 a0.Items) (hR7 : Rd k_Texture w ok A5 cp6 a0.Textures) (res : (List (Ar3 S_Spot))) (hm : m33 K a0 a1 a2 a3 = some res) :
  Calls Tryd.prog 33 #[.agg (L33_0 A1 a0 cp2 A5 cp6).toArray, .agg (L33_1 a1).toArray, ii a2, ii a3] w (fun e w' => ∃ (A0_ : Option Addr) (c0_ : Nat), e = .returned (tup [.slice A0_ res.length c0_]) ∧ Sep ok w w' [] [RE.rd k_Ar3_S_Spot A0_ c0_ res]) := by
 refine calls_W (args := [.agg (L33_0 A1 a0 cp2 A5 cp6).toArray, .agg (L33_1 a1).toArray, ii a2, ii a3]) Tryd.func33 rfl Tryd.ntmps33 Tryd.results33 rfl fun r hr => ?_
 obtain ⟨r1, rfl⟩ := regen (r := r) [(0, .agg (L33_0 A1 a0 cp2 A5 cp6).toArray), (1, .agg (L33_1 a1).toArray), (2, ii a2), (3, ii a3)] ⟨hr 0 _ rfl, hr 1 _ rfl, hr 2 _ rfl, hr 3 _ rfl, trivial⟩
 have H : Sep ok w w [] [RE.rd k_Item A1 cp2 a0.Items, RE.rd k_Texture A5 cp6 a0.Textures] := Sep.arg (Sep.arg (Sep.start ok w) (re := RE.rd k_Item A1 cp2 a0.Items) rfl rfl hR3) (re := RE.rd k_Texture A5 cp6 a0.Textures) rfl rfl hR7
 unfold m33 at hm
 refine Wr ?_
 refine RL_cons (OB H (fun w10 b9 (H : Sep ok w w10 [.blk b9 25 (L33_0 A1 a0 cp2 A5 cp6)] [RE.rd k_Item A1 cp2 a0.Items, RE.rd k_Texture A5 cp6 a0.Textures]) => ?_))
 refine RL_cons (OB H (fun w12 b11 (H : Sep ok w w12 [.blk b9 25 (L33_0 A1 a0 cp2 A5 cp6), .blk b11 31 (L33_1 a1)] [RE.rd k_Item A1 cp2 a0.Items, RE.rd k_Texture A5 cp6 a0.Textures]) => ?_))
 refine RL_p (xa (.slice none 0 0)) ?_
 refine Wr ?_
 refine RL_p (xf fo25_0) ?_
 refine RL_p (xl 0 (.slice A1 a0.Items.length cp2) sc22 (H.c 0)) ?_
 refine RL_p (xm (ii a2)) ?_
 obtain ⟨el13, h14, h15, he16, hm⟩ := idx_some hm
 obtain ⟨g18, o19, hA17⟩ := (H.rd (i := 0) (by rfl)).addr he16
 obtain ⟨cs20, hk21, hat22, hg_cs20⟩ := (H.rd (i := 0) (by rfl)).openAt hA17 he16
 obtain ⟨A25, cp26, A28, cp29, A31, cp32, rfl, hR34, hR35, hR36⟩ := hk21
 have H : Sep ok w w12 [.blk b9 25 (L33_0 A1 a0 cp2 A5 cp6), .blk b11 31 (L33_1 a1)] [RE.rd k_Item A1 cp2 a0.Items, RE.rd k_Texture A5 cp6 a0.Textures, RE.cells g18 (o19 + (a2).toNat * 18) (L33_2 A25 el13 cp26 A28 cp29 A31 cp32)] := Sep.also H (re := RE.cells g18 (o19 + (a2).toNat * 18) (L33_2 A25 el13 cp26 A28 cp29 A31 cp32)) ⟨hg_cs20, hat22⟩
 have H : Sep ok w w12 [.blk b9 25 (L33_0 A1 a0 cp2 A5 cp6), .blk b11 31 (L33_1 a1)] [RE.rd k_Item A1 cp2 a0.Items, RE.rd k_Texture A5 cp6 a0.Textures, RE.cells g18 (o19 + (a2).toNat * 18) (L33_2 A25 el13 cp26 A28 cp29 A31 cp32), RE.rd k_Vec A25 cp26 el13.Verts] := Sep.also H (re := RE.rd k_Vec A25 cp26 el13.Verts) hR34
 have H : Sep ok w w12 [.blk b9 25 (L33_0 A1 a0 cp2 A5 cp6), .blk b11 31 (L33_1 a1)] [RE.rd k_Item A1 cp2 a0.Items, RE.rd k_Texture A5 cp6 a0.Textures, RE.cells g18 (o19 + (a2).toNat * 18) (L33_2 A25 el13 cp26 A28 cp29 A31 cp32), RE.rd k_Vec A25 cp26 el13.Verts, RE.rd k_Ar2_Int A28 cp29 el13.UV] := Sep.also H (re := RE.rd k_Ar2_Int A28 cp29 el13.UV) hR35
 have H : Sep ok w w12 [.blk b9 25 (L33_0 A1 a0 cp2 A5 cp6), .blk b11 31 (L33_1 a1)] [RE.rd k_Item A1 cp2 a0.Items, RE.rd k_Texture A5 cp6 a0.Textures, RE.cells g18 (o19 + (a2).toNat * 18) (L33_2 A25 el13 cp26 A28 cp29 A31 cp32), RE.rd k_Vec A25 cp26 el13.Verts, RE.rd k_Ar2_Int A28 cp29 el13.UV, RE.rd k_Ar3_Int A31 cp32 el13.Tris] := Sep.also H (re := RE.rd k_Ar3_Int A31 cp32 el13.Tris) hR36
 refine RL_p (x_indexAddr sl22 sz52 (by rfl) (by rfl) hA17 h14 h15) ?_
 refine RL_p (xA 0 (L33_2 A25 el13 cp26 A28 cp29 A31 cp32) ag52 (H.cellsR (i := 2) (by rfl))) ?_
 refine RL_cons (OA ze52 H (fun w39 b38 (H : Sep ok w w39 [.blk b9 25 (L33_0 A1 a0 cp2 A5 cp6), .blk b11 31 (L33_1 a1), .blk b38 52 L33_3] [RE.rd k_Item A1 cp2 a0.Items, RE.rd k_Texture A5 cp6 a0.Textures, RE.cells g18 (o19 + (a2).toNat * 18) (L33_2 A25 el13 cp26 A28 cp29 A31 cp32), RE.rd k_Vec A25 cp26 el13.Verts, RE.rd k_Ar2_Int A28 cp29 el13.UV, RE.rd k_Ar3_Int A31 cp32 el13.Tris]) => ?_))
 refine RL_cons (OS 2 0 (L33_2 A25 el13 cp26 A28 cp29 A31 cp32) sz52 H (fun w40 (H : Sep ok w w40 [.blk b9 25 (L33_0 A1 a0 cp2 A5 cp6), .blk b11 31 (L33_1 a1), .blk b38 52 (L33_2 A25 el13 cp26 A28 cp29 A31 cp32)] [RE.rd k_Item A1 cp2 a0.Items, RE.rd k_Texture A5 cp6 a0.Textures, RE.cells g18 (o19 + (a2).toNat * 18) (L33_2 A25 el13 cp26 A28 cp29 A31 cp32), RE.rd k_Vec A25 cp26 el13.Verts, RE.rd k_Ar2_Int A28 cp29 el13.UV, RE.rd k_Ar3_Int A31 cp32 el13.Tris]) => ?_))
 refine W_seq ?_
 have H : Sep ok w w40 [.blk b11 31 (L33_1 a1), .blk b38 52 (L33_2 A25 el13 cp26 A28 cp29 A31 cp32)] [RE.cells g18 (o19 + (a2).toNat * 18) (L33_2 A25 el13 cp26 A28 cp29 A31 cp32), RE.rd k_Vec A25 cp26 el13.Verts, RE.rd k_Ar2_Int A28 cp29 el13.UV, RE.rd k_Ar3_Int A31 cp32 el13.Tris] := ((H.pickL [1, 2] (by decide)).pick [2, 3, 4, 5])
 refine W_region ?_
 refine RL_cons (OA ze125 H (fun w42 b41 (H : S33_0 ok w w42 b11 a1 b38 A25 el13 cp26 A28 cp29 A31 cp32 b41 g18 o19 a2) => ?_))
 refine W_seq ?_
 refine Wr ?_
 refine RL_p (xf fo52_2) ?_
 refine RL_p (xl 2 (.slice A31 el13.Tris.length cp32) sc44 (H.c 1)) ?_
 refine RL_p (xm (ii a3)) ?_
 obtain ⟨el43, h44, h45, he46, hm⟩ := idx_some hm
 obtain ⟨g48, o49, hA47⟩ := (H.rd (i := 3) (by rfl)).addr he46
 refine RL_p (x_indexAddr sl44 sz28 (by rfl) (by rfl) hA47 h44 h45) ?_
 refine RL_p (xA 0 (L33_5 el43) ag28 (Rd.flatAt (n := 3) (H.rd (i := 3) (by rfl)) hA47 he46)) ?_
 refine RL_p (xm (ii 0)) ?_
 refine W_block ?_
 refine W_unroll 40 ?_
 refine WU_succ ?_
 refine Wr ?_
 refine RL_p (xL) ?_
 refine W_seq ?_
 refine Wt ?_
 refine W_skip ?_
 refine W_seq ?_
 refine W_block ?_
 refine Wr ?_
 refine RL_p (xm (ii 0)) ?_
 refine RL_p (xi ar28 sz3 sc3) ?_
 refine RL_p (xa (ii 0)) ?_
 refine RL_p (xa (ii el43.a0)) ?_
 refine W_seq ?_
 obtain ⟨el50, h51, h52, he53, hm⟩ := idx_some hm
 obtain ⟨g55, o56, hA54⟩ := (H.rd (i := 1) (by rfl)).addr he53
 obtain ⟨v58, hv57, hm⟩ := bind_some hm
 refine W_drawT (.take 0 (.free 1 (.take 2 (.free 3 (.free 4 (.take 5 (.all (.br 6 (.free 7 (.free 8 (.free 9 (.all (.br 10 (.lin [.tail 11, .free 12]) (.stop)))))) (.br 10 (.all (.br 6 (.free 7 (.free 8 (.free 9 (.lin [.tail 11, .free 12])))) (.stop))) (.stop)))))))))) (fun wS => S33_0 ok w wS b11 a1 b38 A25 el13 cp26 A28 cp29 A31 cp32 b41 g18 o19 a2) [11] [1, 3, 4, 7, 8, 9, 12] mixed0 (by kernel_rfl) (by kernel_rfl) (by kernel_rfl) (by kernel_rfl) (by exact H.drew) ?_
 obtain ⟨w62, hW⟩ : ∃ W : World, W = { w42 with drawn := w42.drawn + 1 } := ⟨_, rfl⟩
 rw [← hW]
 have H : S33_0 ok w w62 b11 a1 b38 A25 el13 cp26 A28 cp29 A31 cp32 b41 g18 o19 a2 := by rw [hW]; exact H.drew
 clear hW
 refine TT (a := fun H => xA 0 (L33_1 a1) ag31 (H.c 0)) (b := ?_)
 refine TF (a := xf fo52_0) (b := ?_)
 refine TT (a := fun H => xl 0 (.slice A25 el13.Verts.length cp26) sc42 (H.c 1)) (b := ?_)
 refine TF (a := xm (ii el43.a0)) (b := ?_)
 refine TF (a := x_indexAddr sl42 sz27 (by rfl) (by rfl) hA54 h51 h52) (b := ?_)
 refine TT (a := fun H => xA 0 (L33_6 el50) ag27 (Rd.flatAt (n := 3) (H.rd (i := 1) (by rfl)) hA54 he53)) (b := ?_)
 refine PRT_meet (fun r' w' => ∃ (b60 : Nat), Agr [(5, pp b11), (8, .slice none 0 0), (9, pp b38), (10, pp b41), (11, ii 0), (12, ii el43.a0), (13, pp b60), (33, .agg (L33_5 el43).toArray), (34, ii 0), (46, .agg (L33_7 v58).toArray), (47, ii v58.2)] r' ∧ S33_1 ok w w' b11 a1 b38 A25 el13 cp26 A28 cp29 A31 cp32 b41 b60 g18 o19 a2) (.lin [.tail 11, .free 12]) ?_ ?_
 ·intro hJ6_10
  refine PRT_meet (fun r' w' => Agr [(5, pp b11), (8, .slice none 0 0), (9, pp b38), (10, pp b41), (11, ii 0), (12, ii el43.a0), (33, .agg (L33_5 el43).toArray), (34, ii 0), (46, .agg (L33_7 v58).toArray), (47, ii v58.2)] r' ∧ S33_2 ok w w' b11 a1 b38 A25 el13 cp26 A28 cp29 A31 cp32 b41 g18 o19 a2) (.all (.br 10 (.lin [.tail 11, .free 12]) (.stop))) ?_ ?_
  ·intro hJ6
   refine PRT_meet (fun r' w' => ∃ (b60 : Nat), Agr [(5, pp b11), (8, .slice none 0 0), (9, pp b38), (10, pp b41), (11, ii 0), (12, ii el43.a0), (13, pp b60), (33, .agg (L33_5 el43).toArray), (34, ii 0), (39, .agg (L33_1 a1).toArray), (44, .agg (L33_6 el50).toArray)] r' ∧ S33_1 ok w w' b11 a1 b38 A25 el13 cp26 A28 cp29 A31 cp32 b41 b60 g18 o19 a2) (.all (.br 6 (.free 7 (.free 8 (.free 9 (.lin [.tail 11, .free 12])))) (.stop))) ?_ ?_
   ·intro hJ10
    have H : S33_2 ok w w62 b11 a1 b38 A25 el13 cp26 A28 cp29 A31 cp32 b41 g18 o19 a2 := (H).nilHole
    refine PRT_all ?_
    refine PB ?_ ?_
    ·show OpR _ _ _ _ _ _ _
     refine OC (xc [.agg (L33_1 a1).toArray, .agg (L33_6 el50).toArray] (cf49 _ _)) (c49 okT K w62 a1 el50  v58 hv57) ?_
     rintro e w59 ⟨rfl, H2⟩
     have H : S33_2 ok w w59 b11 a1 b38 A25 el13 cp26 A28 cp29 A31 cp32 b41 g18 o19 a2 := H.below H2.base
     clear H2
     refine ⟨_, rfl, (Sep.takeL H 3), ?_⟩
     show PRT _ _ _ _ _ _ _ _
     refine TF (a := xm (tup [.agg (L33_7 v58).toArray, ii v58.2])) (b := ?_)
     refine TF (a := xe (.agg (L33_7 v58).toArray)) (b := ?_)
     refine TF (a := xe (ii v58.2)) (b := ?_)
     exact hJ6 _ _ ⟨⟨rfl, rfl, rfl, rfl, rfl, rfl, rfl, rfl, rfl, rfl, trivial⟩, H⟩
    refine PB ?_ ?_
    ·show OpR _ _ _ _ _ _ _
     refine OA ze27 H (fun w61 b60 (H : S33_3 ok w w61 b11 a1 b38 A25 el13 cp26 A28 cp29 A31 cp32 b41 b60 g18 o19 a2) => ⟨(Sep.takeL H 3), ?_⟩)
     exact hJ10 _ _ ⟨b60, ⟨rfl, rfl, rfl, rfl, rfl, rfl, rfl, rfl, rfl, rfl, rfl, trivial⟩, (H).pickL [0, 1, 2, 4] (by decide)⟩
    exact PRT_stop
   show ∀ r w, _ → _
   rintro r' w' ⟨b60, hA, H⟩
   obtain ⟨r112, rfl⟩ := regen _ hA; clear hA
   obtain ⟨w113, rfl⟩ := wld w'
   refine PRT_all ?_
   refine PB ?_ ?_
   ·show OpR _ _ _ _ _ _ _
    refine OC (xc [.agg (L33_1 a1).toArray, .agg (L33_6 el50).toArray] (cf49 _ _)) (c49 okT K w113 a1 el50  v58 hv57) ?_
    rintro e w59 ⟨rfl, H2⟩
    have H : S33_1 ok w w59 b11 a1 b38 A25 el13 cp26 A28 cp29 A31 cp32 b41 b60 g18 o19 a2 := H.below H2.base
    clear H2
    refine ⟨_, rfl, (Sep.takeL H 3), ?_⟩
    show PRT _ _ _ _ _ _ _ _
    refine TF (a := xm (tup [.agg (L33_7 v58).toArray, ii v58.2])) (b := ?_)
    refine TF (a := xe (.agg (L33_7 v58).toArray)) (b := ?_)
    refine TF (a := xe (ii v58.2)) (b := ?_)
    exact hJ6_10 _ _ ⟨b60, ⟨rfl, rfl, rfl, rfl, rfl, rfl, rfl, rfl, rfl, rfl, rfl, trivial⟩, H⟩
   exact PRT_stop
  show ∀ r w, _ → _
  rintro r' w' ⟨hA, H⟩
  obtain ⟨r114, rfl⟩ := regen _ hA; clear hA
  obtain ⟨w115, rfl⟩ := wld w'
  refine PRT_all ?_
  refine PB ?_ ?_
  ·show OpR _ _ _ _ _ _ _
   refine OA ze27 H (fun w61 b60 (H : S33_3 ok w w61 b11 a1 b38 A25 el13 cp26 A28 cp29 A31 cp32 b41 b60 g18 o19 a2) => ⟨(Sep.takeL H 3), ?_⟩)
   exact hJ6_10 _ _ ⟨b60, ⟨rfl, rfl, rfl, rfl, rfl, rfl, rfl, rfl, rfl, rfl, rfl, trivial⟩, (H).pickL [0, 1, 2, 4] (by decide)⟩
  exact PRT_stop
 show ∀ r w, _ → _
 rintro r' w' ⟨b60, hA, H⟩
 obtain ⟨r116, rfl⟩ := regen _ hA; clear hA
 obtain ⟨w117, rfl⟩ := wld w'
 refine PRT_lin ?_
 refine PL (a := OS 3 0 (L33_7 v58) sz27 H (fun w118 (H : S33_4 ok w w118 b11 a1 b38 A25 el13 cp26 A28 cp29 A31 cp32 b41 b60 v58 g18 o19 a2) => ?_))
 refine PF (a := xa (ii v58.2)) (b := ?_)
 refine PR_nil ?_
 refine W_draw [.free 0, .take 1, .free 2, .take 3, .free 4, .free 5, .free 6, .take 7, .free 8, .take 9, .free 10, .free 11, .free 12, .take 13, .free 14, .free 15, .tail 16] (fun wS => S33_4 ok w wS b11 a1 b38 A25 el13 cp26 A28 cp29 A31 cp32 b41 b60 v58 g18 o19 a2) [16] [0, 2, 4, 5, 6, 8, 10, 11, 12, 14, 15] mixed0 (by kernel_rfl) (by kernel_rfl) (by kernel_rfl) (by rfl) (by exact H.drew) ?_
 obtain ⟨w119, hW⟩ : ∃ W : World, W = { w118 with drawn := w118.drawn + 1 } := ⟨_, rfl⟩
 rw [← hW]
 have H : S33_4 ok w w119 b11 a1 b38 A25 el13 cp26 A28 cp29 A31 cp32 b41 b60 v58 g18 o19 a2 := by rw [hW]; exact H.drew
 clear hW
 refine PF (a := xm (ii 0)) (b := ?_)
 refine PT' (a := fun H => xA 0 (L33_7 v58) ag27 (H.c 3)) (b := ?_)
 refine PF (a := xf fo52_1) (b := ?_)
 refine PT' (a := fun H => xl 1 (.slice A28 el13.UV.length cp29) sc43 (H.c 1)) (b := ?_)
 refine PF (a := xm (ii el43.a0)) (b := ?_)
 obtain ⟨el120, h121, h122, he123, hm⟩ := idx_some hm
 obtain ⟨g125, o126, hA124⟩ := (H.rd (i := 2) (by rfl)).addr he123
 refine PF (a := x_indexAddr sl43 sz128 (by rfl) (by rfl) hA124 h121 h122) (b := ?_)
 refine PF (a := xI ar128 sz3) (b := ?_)
 refine PT' (a := fun H => xl 0 (ii el120.a0) sc3 (Rd.flatAt (n := 2) (H.rd (i := 2) (by rfl)) hA124 he123)) (b := ?_)
 refine PF (a := xf fo52_1) (b := ?_)
 refine PT' (a := fun H => xl 1 (.slice A28 el13.UV.length cp29) sc43 (H.c 1)) (b := ?_)
 refine PF (a := xm (ii el43.a0)) (b := ?_)
 obtain ⟨el127, h128, h129, he130, hm⟩ := idx_some hm
 obtain ⟨g132, o133, hA131⟩ := (H.rd (i := 2) (by rfl)).addr he130
 refine PF (a := x_indexAddr sl43 sz128 (by rfl) (by rfl) hA131 h128 h129) (b := ?_)
 refine PF (a := xI ar128 sz3) (b := ?_)
 refine PT' (a := fun H => xl 1 (ii el127.a1) sc3 (Rd.flatAt (n := 2) (H.rd (i := 2) (by rfl)) hA131 he130)) (b := ?_)
 refine PF (a := x_build (vs := [(0, .agg (L33_7 v58).toArray), (1, ii el120.a0), (2, ii el127.a1)]) (cs := (L33_8 v58 el120 el127)) (by rfl) (by kernel_rfl)) (b := ?_)
 refine PF (a := xI ar125 sz124) (b := ?_)
 refine PL (a := OS 2 0 (L33_8 v58 el120 el127) sz124 H (fun w134 (H : S33_5 ok w w134 b11 a1 b38 A25 el13 cp26 A28 cp29 A31 cp32 b41 v58 el120 el127 b60 g18 o19 a2) => ?_))
 refine PR_nil ?_
 refine W_region ?_
 refine RL_p (xp 1) ?_
 refine RL_p (xm (ii 1)) ?_
 refine WU_succ ?_
 refine Wr ?_
 refine RL_p (xL) ?_
 refine W_seq ?_
 refine Wt ?_
 refine W_skip ?_
 refine W_seq ?_
 refine W_block ?_
 refine Wr ?_
 refine RL_p (xm (ii 1)) ?_
 refine RL_p (xi ar28 sz3 sc3) ?_
 refine RL_p (xa (ii 1)) ?_
 refine RL_p (xa (ii el43.a1)) ?_
 refine W_seq ?_
 obtain ⟨el135, h136, h137, he138, hm⟩ := idx_some hm
 obtain ⟨g140, o141, hA139⟩ := (H.rd (i := 1) (by rfl)).addr he138
 obtain ⟨v143, hv142, hm⟩ := bind_some hm
 refine W_drawT (.take 0 (.free 1 (.take 2 (.free 3 (.free 4 (.take 5 (.all (.br 6 (.free 7 (.free 8 (.free 9 (.all (.br 10 (.lin [.tail 11, .free 12]) (.stop)))))) (.br 10 (.all (.br 6 (.free 7 (.free 8 (.free 9 (.lin [.tail 11, .free 12])))) (.stop))) (.stop)))))))))) (fun wS => S33_5 ok w wS b11 a1 b38 A25 el13 cp26 A28 cp29 A31 cp32 b41 v58 el120 el127 b60 g18 o19 a2) [11] [1, 3, 4, 7, 8, 9, 12] mixed0 (by kernel_rfl) (by kernel_rfl) (by kernel_rfl) (by kernel_rfl) (by exact H.drew) ?_
 obtain ⟨w147, hW⟩ : ∃ W : World, W = { w134 with drawn := w134.drawn + 1 } := ⟨_, rfl⟩
 rw [← hW]
 have H : S33_5 ok w w147 b11 a1 b38 A25 el13 cp26 A28 cp29 A31 cp32 b41 v58 el120 el127 b60 g18 o19 a2 := by rw [hW]; exact H.drew
 clear hW
 refine TT (a := fun H => xA 0 (L33_1 a1) ag31 (H.c 0)) (b := ?_)
 refine TF (a := xf fo52_0) (b := ?_)
 refine TT (a := fun H => xl 0 (.slice A25 el13.Verts.length cp26) sc42 (H.c 1)) (b := ?_)
 refine TF (a := xm (ii el43.a1)) (b := ?_)
 refine TF (a := x_indexAddr sl42 sz27 (by rfl) (by rfl) hA139 h136 h137) (b := ?_)
 refine TT (a := fun H => xA 0 (L33_6 el135) ag27 (Rd.flatAt (n := 3) (H.rd (i := 1) (by rfl)) hA139 he138)) (b := ?_)
 refine PRT_meet (fun r' w' => ∃ (b145 : Nat), Agr [(5, pp b11), (8, .slice none 0 0), (9, pp b38), (10, pp b41), (11, ii 1), (12, ii el43.a1), (13, pp b145), (33, .agg (L33_5 el43).toArray), (34, ii 1), (46, .agg (L33_7 v143).toArray), (47, ii v143.2)] r' ∧ S33_6 ok w w' b11 a1 b38 A25 el13 cp26 A28 cp29 A31 cp32 b41 v58 el120 el127 b60 b145 g18 o19 a2) (.lin [.tail 11, .free 12]) ?_ ?_
 ·intro hJ6_10
  refine PRT_meet (fun r' w' => Agr [(5, pp b11), (8, .slice none 0 0), (9, pp b38), (10, pp b41), (11, ii 1), (12, ii el43.a1), (13, pp b60), (33, .agg (L33_5 el43).toArray), (34, ii 1), (46, .agg (L33_7 v143).toArray), (47, ii v143.2)] r' ∧ S33_7 ok w w' b11 a1 b38 A25 el13 cp26 A28 cp29 A31 cp32 b41 v58 el120 el127 b60 g18 o19 a2) (.all (.br 10 (.lin [.tail 11, .free 12]) (.stop))) ?_ ?_
  ·intro hJ6
   refine PRT_meet (fun r' w' => ∃ (b145 : Nat), Agr [(5, pp b11), (8, .slice none 0 0), (9, pp b38), (10, pp b41), (11, ii 1), (12, ii el43.a1), (13, pp b145), (33, .agg (L33_5 el43).toArray), (34, ii 1), (39, .agg (L33_1 a1).toArray), (44, .agg (L33_6 el135).toArray), (46, .agg (L33_7 v58).toArray), (47, ii v58.2)] r' ∧ S33_6 ok w w' b11 a1 b38 A25 el13 cp26 A28 cp29 A31 cp32 b41 v58 el120 el127 b60 b145 g18 o19 a2) (.all (.br 6 (.free 7 (.free 8 (.free 9 (.lin [.tail 11, .free 12])))) (.stop))) ?_ ?_
   ·intro hJ10
    have H : S33_7 ok w w147 b11 a1 b38 A25 el13 cp26 A28 cp29 A31 cp32 b41 v58 el120 el127 b60 g18 o19 a2 := (H).nilHole
    refine PRT_all ?_
    refine PB ?_ ?_
    ·show OpR _ _ _ _ _ _ _
     refine OC (xc [.agg (L33_1 a1).toArray, .agg (L33_6 el135).toArray] (cf49 _ _)) (c49 okT K w147 a1 el135  v143 hv142) ?_
     rintro e w144 ⟨rfl, H2⟩
     have H : S33_7 ok w w144 b11 a1 b38 A25 el13 cp26 A28 cp29 A31 cp32 b41 v58 el120 el127 b60 g18 o19 a2 := H.below H2.base
     clear H2
     refine ⟨_, rfl, (Sep.takeL H 4), ?_⟩
     show PRT _ _ _ _ _ _ _ _
     refine TF (a := xm (tup [.agg (L33_7 v143).toArray, ii v143.2])) (b := ?_)
     refine TF (a := xe (.agg (L33_7 v143).toArray)) (b := ?_)
     refine TF (a := xe (ii v143.2)) (b := ?_)
     exact hJ6 _ _ ⟨⟨rfl, rfl, rfl, rfl, rfl, rfl, rfl, rfl, rfl, rfl, rfl, trivial⟩, H⟩
    refine PB ?_ ?_
    ·show OpR _ _ _ _ _ _ _
     refine OA ze27 H (fun w146 b145 (H : Sep ok w w146 [.blk b11 31 (L33_1 a1), .blk b38 52 (L33_2 A25 el13 cp26 A28 cp29 A31 cp32), .blk b41 125 (L33_9 v58 el120 el127), .blk b60 27 (L33_7 v58), .hole, .blk b145 27 [ii 0, ii 0, ii 0]] [RE.cells g18 (o19 + (a2).toNat * 18) (L33_2 A25 el13 cp26 A28 cp29 A31 cp32), RE.rd k_Vec A25 cp26 el13.Verts, RE.rd k_Ar2_Int A28 cp29 el13.UV, RE.rd k_Ar3_Int A31 cp32 el13.Tris]) => ⟨(Sep.takeL H 4), ?_⟩)
     exact hJ10 _ _ ⟨b145, ⟨rfl, rfl, rfl, rfl, rfl, rfl, rfl, rfl, rfl, rfl, rfl, rfl, rfl, trivial⟩, (H).pickL [0, 1, 2, 3, 5] (by decide)⟩
    exact PRT_stop
   show ∀ r w, _ → _
   rintro r' w' ⟨b145, hA, H⟩
   obtain ⟨r197, rfl⟩ := regen _ hA; clear hA
   obtain ⟨w198, rfl⟩ := wld w'
   refine PRT_all ?_
   refine PB ?_ ?_
   ·show OpR _ _ _ _ _ _ _
    refine OC (xc [.agg (L33_1 a1).toArray, .agg (L33_6 el135).toArray] (cf49 _ _)) (c49 okT K w198 a1 el135  v143 hv142) ?_
    rintro e w144 ⟨rfl, H2⟩
    have H : S33_6 ok w w144 b11 a1 b38 A25 el13 cp26 A28 cp29 A31 cp32 b41 v58 el120 el127 b60 b145 g18 o19 a2 := H.below H2.base
    clear H2
    refine ⟨_, rfl, (Sep.takeL H 4), ?_⟩
    show PRT _ _ _ _ _ _ _ _
    refine TF (a := xm (tup [.agg (L33_7 v143).toArray, ii v143.2])) (b := ?_)
    refine TF (a := xe (.agg (L33_7 v143).toArray)) (b := ?_)
    refine TF (a := xe (ii v143.2)) (b := ?_)
    exact hJ6_10 _ _ ⟨b145, ⟨rfl, rfl, rfl, rfl, rfl, rfl, rfl, rfl, rfl, rfl, rfl, trivial⟩, H⟩
   exact PRT_stop
  show ∀ r w, _ → _
  rintro r' w' ⟨hA, H⟩
  obtain ⟨r199, rfl⟩ := regen _ hA; clear hA
  obtain ⟨w200, rfl⟩ := wld w'
  refine PRT_all ?_
  refine PB ?_ ?_
  ·show OpR _ _ _ _ _ _ _
   refine OA ze27 H (fun w146 b145 (H : Sep ok w w146 [.blk b11 31 (L33_1 a1), .blk b38 52 (L33_2 A25 el13 cp26 A28 cp29 A31 cp32), .blk b41 125 (L33_9 v58 el120 el127), .blk b60 27 (L33_7 v58), .hole, .blk b145 27 [ii 0, ii 0, ii 0]] [RE.cells g18 (o19 + (a2).toNat * 18) (L33_2 A25 el13 cp26 A28 cp29 A31 cp32), RE.rd k_Vec A25 cp26 el13.Verts, RE.rd k_Ar2_Int A28 cp29 el13.UV, RE.rd k_Ar3_Int A31 cp32 el13.Tris]) => ⟨(Sep.takeL H 4), ?_⟩)
   exact hJ6_10 _ _ ⟨b145, ⟨rfl, rfl, rfl, rfl, rfl, rfl, rfl, rfl, rfl, rfl, rfl, trivial⟩, (H).pickL [0, 1, 2, 3, 5] (by decide)⟩
  exact PRT_stop
 show ∀ r w, _ → _
 rintro r' w' ⟨b145, hA, H⟩
 obtain ⟨r201, rfl⟩ := regen _ hA; clear hA
 obtain ⟨w202, rfl⟩ := wld w'
 refine PRT_lin ?_
 refine PL (a := OS 4 0 (L33_7 v143) sz27 H (fun w203 (H : S33_8 ok w w203 b11 a1 b38 A25 el13 cp26 A28 cp29 A31 cp32 b41 v58 el120 el127 b60 b145 v143 g18 o19 a2) => ?_))
 refine PF (a := xa (ii v143.2)) (b := ?_)
 refine PR_nil ?_
 refine W_draw [.free 0, .take 1, .free 2, .take 3, .free 4, .free 5, .free 6, .take 7, .free 8, .take 9, .free 10, .free 11, .free 12, .take 13, .free 14, .free 15, .tail 16] (fun wS => S33_8 ok w wS b11 a1 b38 A25 el13 cp26 A28 cp29 A31 cp32 b41 v58 el120 el127 b60 b145 v143 g18 o19 a2) [16] [0, 2, 4, 5, 6, 8, 10, 11, 12, 14, 15] mixed0 (by kernel_rfl) (by kernel_rfl) (by kernel_rfl) (by rfl) (by exact H.drew) ?_
 obtain ⟨w204, hW⟩ : ∃ W : World, W = { w203 with drawn := w203.drawn + 1 } := ⟨_, rfl⟩
 rw [← hW]
 have H : S33_8 ok w w204 b11 a1 b38 A25 el13 cp26 A28 cp29 A31 cp32 b41 v58 el120 el127 b60 b145 v143 g18 o19 a2 := by rw [hW]; exact H.drew
 clear hW
 refine PF (a := xm (ii 1)) (b := ?_)
 refine PT' (a := fun H => xA 0 (L33_7 v143) ag27 (H.c 4)) (b := ?_)
 refine PF (a := xf fo52_1) (b := ?_)
 refine PT' (a := fun H => xl 1 (.slice A28 el13.UV.length cp29) sc43 (H.c 1)) (b := ?_)
 refine PF (a := xm (ii el43.a1)) (b := ?_)
 obtain ⟨el205, h206, h207, he208, hm⟩ := idx_some hm
 obtain ⟨g210, o211, hA209⟩ := (H.rd (i := 2) (by rfl)).addr he208
 refine PF (a := x_indexAddr sl43 sz128 (by rfl) (by rfl) hA209 h206 h207) (b := ?_)
 refine PF (a := xI ar128 sz3) (b := ?_)
 refine PT' (a := fun H => xl 0 (ii el205.a0) sc3 (Rd.flatAt (n := 2) (H.rd (i := 2) (by rfl)) hA209 he208)) (b := ?_)
 refine PF (a := xf fo52_1) (b := ?_)
 refine PT' (a := fun H => xl 1 (.slice A28 el13.UV.length cp29) sc43 (H.c 1)) (b := ?_)
 refine PF (a := xm (ii el43.a1)) (b := ?_)
 obtain ⟨el212, h213, h214, he215, hm⟩ := idx_some hm
 obtain ⟨g217, o218, hA216⟩ := (H.rd (i := 2) (by rfl)).addr he215
 refine PF (a := x_indexAddr sl43 sz128 (by rfl) (by rfl) hA216 h213 h214) (b := ?_)
 refine PF (a := xI ar128 sz3) (b := ?_)
 refine PT' (a := fun H => xl 1 (ii el212.a1) sc3 (Rd.flatAt (n := 2) (H.rd (i := 2) (by rfl)) hA216 he215)) (b := ?_)
 refine PF (a := x_build (vs := [(0, .agg (L33_7 v143).toArray), (1, ii el205.a0), (2, ii el212.a1)]) (cs := (L33_8 v143 el205 el212)) (by rfl) (by kernel_rfl)) (b := ?_)
 refine PF (a := xI ar125 sz124) (b := ?_)
 refine PL (a := OS 2 5 (L33_8 v143 el205 el212) sz124 H (fun w219 (H : S33_9 ok w w219 b11 a1 b38 A25 el13 cp26 A28 cp29 A31 cp32 b41 v58 el120 el127 v143 el205 el212 b60 b145 g18 o19 a2) => ?_))
 refine PR_nil ?_
 refine W_region ?_
 refine RL_p (xp 2) ?_
 refine RL_p (xm (ii 2)) ?_
 refine WU_succ ?_
 refine Wr ?_
 refine RL_p (xL) ?_
 refine W_seq ?_
 refine Wt ?_
 refine W_skip ?_
 refine W_seq ?_
 refine W_block ?_
 refine Wr ?_
 refine RL_p (xm (ii 2)) ?_
 refine RL_p (xi ar28 sz3 sc3) ?_
 refine RL_p (xa (ii 2)) ?_
 refine RL_p (xa (ii el43.a2)) ?_
 refine W_seq ?_
 obtain ⟨el220, h221, h222, he223, hm⟩ := idx_some hm
 obtain ⟨g225, o226, hA224⟩ := (H.rd (i := 1) (by rfl)).addr he223
 obtain ⟨v228, hv227, hm⟩ := bind_some hm
 refine W_drawT (.take 0 (.free 1 (.take 2 (.free 3 (.free 4 (.take 5 (.all (.br 6 (.free 7 (.free 8 (.free 9 (.all (.br 10 (.lin [.tail 11, .free 12]) (.stop)))))) (.br 10 (.all (.br 6 (.free 7 (.free 8 (.free 9 (.lin [.tail 11, .free 12])))) (.stop))) (.stop)))))))))) (fun wS => S33_9 ok w wS b11 a1 b38 A25 el13 cp26 A28 cp29 A31 cp32 b41 v58 el120 el127 v143 el205 el212 b60 b145 g18 o19 a2) [11] [1, 3, 4, 7, 8, 9, 12] mixed0 (by kernel_rfl) (by kernel_rfl) (by kernel_rfl) (by kernel_rfl) (by exact H.drew) ?_
 obtain ⟨w232, hW⟩ : ∃ W : World, W = { w219 with drawn := w219.drawn + 1 } := ⟨_, rfl⟩
 rw [← hW]
 have H : S33_9 ok w w232 b11 a1 b38 A25 el13 cp26 A28 cp29 A31 cp32 b41 v58 el120 el127 v143 el205 el212 b60 b145 g18 o19 a2 := by rw [hW]; exact H.drew
 clear hW
 refine TT (a := fun H => xA 0 (L33_1 a1) ag31 (H.c 0)) (b := ?_)
 refine TF (a := xf fo52_0) (b := ?_)
 refine TT (a := fun H => xl 0 (.slice A25 el13.Verts.length cp26) sc42 (H.c 1)) (b := ?_)
 refine TF (a := xm (ii el43.a2)) (b := ?_)
 refine TF (a := x_indexAddr sl42 sz27 (by rfl) (by rfl) hA224 h221 h222) (b := ?_)
 refine TT (a := fun H => xA 0 (L33_6 el220) ag27 (Rd.flatAt (n := 3) (H.rd (i := 1) (by rfl)) hA224 he223)) (b := ?_)
 refine PRT_meet (fun r' w' => ∃ (b230 : Nat), Agr [(5, pp b11), (8, .slice none 0 0), (9, pp b38), (10, pp b41), (11, ii 2), (12, ii el43.a2), (13, pp b230), (33, .agg (L33_5 el43).toArray), (34, ii 2), (46, .agg (L33_7 v228).toArray), (47, ii v228.2)] r' ∧ S33_10 ok w w' b11 a1 b38 A25 el13 cp26 A28 cp29 A31 cp32 b41 v58 el120 el127 v143 el205 el212 b60 b145 b230 g18 o19 a2) (.lin [.tail 11, .free 12]) ?_ ?_
 ·intro hJ6_10
  refine PRT_meet (fun r' w' => Agr [(5, pp b11), (8, .slice none 0 0), (9, pp b38), (10, pp b41), (11, ii 2), (12, ii el43.a2), (13, pp b145), (33, .agg (L33_5 el43).toArray), (34, ii 2), (46, .agg (L33_7 v228).toArray), (47, ii v228.2)] r' ∧ S33_11 ok w w' b11 a1 b38 A25 el13 cp26 A28 cp29 A31 cp32 b41 v58 el120 el127 v143 el205 el212 b60 b145 g18 o19 a2) (.all (.br 10 (.lin [.tail 11, .free 12]) (.stop))) ?_ ?_
  ·intro hJ6
   refine PRT_meet (fun r' w' => ∃ (b230 : Nat), Agr [(5, pp b11), (8, .slice none 0 0), (9, pp b38), (10, pp b41), (11, ii 2), (12, ii el43.a2), (13, pp b230), (33, .agg (L33_5 el43).toArray), (34, ii 2), (39, .agg (L33_1 a1).toArray), (44, .agg (L33_6 el220).toArray), (46, .agg (L33_7 v143).toArray), (47, ii v143.2)] r' ∧ S33_10 ok w w' b11 a1 b38 A25 el13 cp26 A28 cp29 A31 cp32 b41 v58 el120 el127 v143 el205 el212 b60 b145 b230 g18 o19 a2) (.all (.br 6 (.free 7 (.free 8 (.free 9 (.lin [.tail 11, .free 12])))) (.stop))) ?_ ?_
   ·intro hJ10
    have H : S33_11 ok w w232 b11 a1 b38 A25 el13 cp26 A28 cp29 A31 cp32 b41 v58 el120 el127 v143 el205 el212 b60 b145 g18 o19 a2 := (H).nilHole
    refine PRT_all ?_
    refine PB ?_ ?_
    ·show OpR _ _ _ _ _ _ _
     refine OC (xc [.agg (L33_1 a1).toArray, .agg (L33_6 el220).toArray] (cf49 _ _)) (c49 okT K w232 a1 el220  v228 hv227) ?_
     rintro e w229 ⟨rfl, H2⟩
     have H : S33_11 ok w w229 b11 a1 b38 A25 el13 cp26 A28 cp29 A31 cp32 b41 v58 el120 el127 v143 el205 el212 b60 b145 g18 o19 a2 := H.below H2.base
     clear H2
     refine ⟨_, rfl, (Sep.takeL H 5), ?_⟩
     show PRT _ _ _ _ _ _ _ _
     refine TF (a := xm (tup [.agg (L33_7 v228).toArray, ii v228.2])) (b := ?_)
     refine TF (a := xe (.agg (L33_7 v228).toArray)) (b := ?_)
     refine TF (a := xe (ii v228.2)) (b := ?_)
     exact hJ6 _ _ ⟨⟨rfl, rfl, rfl, rfl, rfl, rfl, rfl, rfl, rfl, rfl, rfl, trivial⟩, H⟩
    refine PB ?_ ?_
    ·show OpR _ _ _ _ _ _ _
     refine OA ze27 H (fun w231 b230 (H : Sep ok w w231 [.blk b11 31 (L33_1 a1), .blk b38 52 (L33_2 A25 el13 cp26 A28 cp29 A31 cp32), .blk b41 125 (L33_10 v58 el120 el127 v143 el205 el212), .blk b60 27 (L33_7 v58), .blk b145 27 (L33_7 v143), .hole, .blk b230 27 [ii 0, ii 0, ii 0]] [RE.cells g18 (o19 + (a2).toNat * 18) (L33_2 A25 el13 cp26 A28 cp29 A31 cp32), RE.rd k_Vec A25 cp26 el13.Verts, RE.rd k_Ar2_Int A28 cp29 el13.UV, RE.rd k_Ar3_Int A31 cp32 el13.Tris]) => ⟨(Sep.takeL H 5), ?_⟩)
     exact hJ10 _ _ ⟨b230, ⟨rfl, rfl, rfl, rfl, rfl, rfl, rfl, rfl, rfl, rfl, rfl, rfl, rfl, trivial⟩, (H).pickL [0, 1, 2, 3, 4, 6] (by decide)⟩
    exact PRT_stop
   show ∀ r w, _ → _
   rintro r' w' ⟨b230, hA, H⟩
   obtain ⟨r282, rfl⟩ := regen _ hA; clear hA
   obtain ⟨w283, rfl⟩ := wld w'
   refine PRT_all ?_
   refine PB ?_ ?_
   ·show OpR _ _ _ _ _ _ _
    refine OC (xc [.agg (L33_1 a1).toArray, .agg (L33_6 el220).toArray] (cf49 _ _)) (c49 okT K w283 a1 el220  v228 hv227) ?_
    rintro e w229 ⟨rfl, H2⟩
    have H : S33_10 ok w w229 b11 a1 b38 A25 el13 cp26 A28 cp29 A31 cp32 b41 v58 el120 el127 v143 el205 el212 b60 b145 b230 g18 o19 a2 := H.below H2.base
    clear H2
    refine ⟨_, rfl, (Sep.takeL H 5), ?_⟩
    show PRT _ _ _ _ _ _ _ _
    refine TF (a := xm (tup [.agg (L33_7 v228).toArray, ii v228.2])) (b := ?_)
    refine TF (a := xe (.agg (L33_7 v228).toArray)) (b := ?_)
    refine TF (a := xe (ii v228.2)) (b := ?_)
    exact hJ6_10 _ _ ⟨b230, ⟨rfl, rfl, rfl, rfl, rfl, rfl, rfl, rfl, rfl, rfl, rfl, trivial⟩, H⟩
   exact PRT_stop
  show ∀ r w, _ → _
  rintro r' w' ⟨hA, H⟩
  obtain ⟨r284, rfl⟩ := regen _ hA; clear hA
  obtain ⟨w285, rfl⟩ := wld w'
  refine PRT_all ?_
  refine PB ?_ ?_
  ·show OpR _ _ _ _ _ _ _
   refine OA ze27 H (fun w231 b230 (H : Sep ok w w231 [.blk b11 31 (L33_1 a1), .blk b38 52 (L33_2 A25 el13 cp26 A28 cp29 A31 cp32), .blk b41 125 (L33_10 v58 el120 el127 v143 el205 el212), .blk b60 27 (L33_7 v58), .blk b145 27 (L33_7 v143), .hole, .blk b230 27 [ii 0, ii 0, ii 0]] [RE.cells g18 (o19 + (a2).toNat * 18) (L33_2 A25 el13 cp26 A28 cp29 A31 cp32), RE.rd k_Vec A25 cp26 el13.Verts, RE.rd k_Ar2_Int A28 cp29 el13.UV, RE.rd k_Ar3_Int A31 cp32 el13.Tris]) => ⟨(Sep.takeL H 5), ?_⟩)
   exact hJ6_10 _ _ ⟨b230, ⟨rfl, rfl, rfl, rfl, rfl, rfl, rfl, rfl, rfl, rfl, rfl, trivial⟩, (H).pickL [0, 1, 2, 3, 4, 6] (by decide)⟩
  exact PRT_stop
 show ∀ r w, _ → _
 rintro r' w' ⟨b230, hA, H⟩
 obtain ⟨r286, rfl⟩ := regen _ hA; clear hA
 obtain ⟨w287, rfl⟩ := wld w'
 refine PRT_lin ?_
 refine PL (a := OS 5 0 (L33_7 v228) sz27 H (fun w288 (H : S33_12 ok w w288 b11 a1 b38 A25 el13 cp26 A28 cp29 A31 cp32 b41 v58 el120 el127 v143 el205 el212 b60 b145 b230 v228 g18 o19 a2) => ?_))
 refine PF (a := xa (ii v228.2)) (b := ?_)
 refine PR_nil ?_
 refine W_draw [.free 0, .take 1, .free 2, .take 3, .free 4, .free 5, .free 6, .take 7, .free 8, .take 9, .free 10, .free 11, .free 12, .take 13, .free 14, .free 15, .tail 16] (fun wS => S33_12 ok w wS b11 a1 b38 A25 el13 cp26 A28 cp29 A31 cp32 b41 v58 el120 el127 v143 el205 el212 b60 b145 b230 v228 g18 o19 a2) [16] [0, 2, 4, 5, 6, 8, 10, 11, 12, 14, 15] mixed0 (by kernel_rfl) (by kernel_rfl) (by kernel_rfl) (by rfl) (by exact H.drew) ?_
 obtain ⟨w289, hW⟩ : ∃ W : World, W = { w288 with drawn := w288.drawn + 1 } := ⟨_, rfl⟩
 rw [← hW]
 have H : S33_12 ok w w289 b11 a1 b38 A25 el13 cp26 A28 cp29 A31 cp32 b41 v58 el120 el127 v143 el205 el212 b60 b145 b230 v228 g18 o19 a2 := by rw [hW]; exact H.drew
 clear hW
 refine PF (a := xm (ii 2)) (b := ?_)
 refine PT' (a := fun H => xA 0 (L33_7 v228) ag27 (H.c 5)) (b := ?_)
 refine PF (a := xf fo52_1) (b := ?_)
 refine PT' (a := fun H => xl 1 (.slice A28 el13.UV.length cp29) sc43 (H.c 1)) (b := ?_)
 refine PF (a := xm (ii el43.a2)) (b := ?_)
 obtain ⟨el290, h291, h292, he293, hm⟩ := idx_some hm
 obtain ⟨g295, o296, hA294⟩ := (H.rd (i := 2) (by rfl)).addr he293
 refine PF (a := x_indexAddr sl43 sz128 (by rfl) (by rfl) hA294 h291 h292) (b := ?_)
 refine PF (a := xI ar128 sz3) (b := ?_)
 refine PT' (a := fun H => xl 0 (ii el290.a0) sc3 (Rd.flatAt (n := 2) (H.rd (i := 2) (by rfl)) hA294 he293)) (b := ?_)
 refine PF (a := xf fo52_1) (b := ?_)
 refine PT' (a := fun H => xl 1 (.slice A28 el13.UV.length cp29) sc43 (H.c 1)) (b := ?_)
 refine PF (a := xm (ii el43.a2)) (b := ?_)
 obtain ⟨el297, h298, h299, he300, hm⟩ := idx_some hm
 obtain ⟨g302, o303, hA301⟩ := (H.rd (i := 2) (by rfl)).addr he300
 refine PF (a := x_indexAddr sl43 sz128 (by rfl) (by rfl) hA301 h298 h299) (b := ?_)
 refine PF (a := xI ar128 sz3) (b := ?_)
 refine PT' (a := fun H => xl 1 (ii el297.a1) sc3 (Rd.flatAt (n := 2) (H.rd (i := 2) (by rfl)) hA301 he300)) (b := ?_)
 refine PF (a := x_build (vs := [(0, .agg (L33_7 v228).toArray), (1, ii el290.a0), (2, ii el297.a1)]) (cs := (L33_8 v228 el290 el297)) (by rfl) (by kernel_rfl)) (b := ?_)
 refine PF (a := xI ar125 sz124) (b := ?_)
 refine PL (a := OS 2 10 (L33_8 v228 el290 el297) sz124 H (fun w304 (H : Sep ok w w304 [.blk b11 31 (L33_1 a1), .blk b38 52 (L33_2 A25 el13 cp26 A28 cp29 A31 cp32), .blk b41 125 (L33_11 v58 el120 el127 v143 el205 el212 v228 el290 el297), .blk b60 27 (L33_7 v58), .blk b145 27 (L33_7 v143), .blk b230 27 (L33_7 v228)] [RE.cells g18 (o19 + (a2).toNat * 18) (L33_2 A25 el13 cp26 A28 cp29 A31 cp32), RE.rd k_Vec A25 cp26 el13.Verts, RE.rd k_Ar2_Int A28 cp29 el13.UV, RE.rd k_Ar3_Int A31 cp32 el13.Tris]) => ?_))
 refine PR_nil ?_
 have H : Sep ok w w304 [.blk b11 31 (L33_1 a1), .blk b38 52 (L33_2 A25 el13 cp26 A28 cp29 A31 cp32), .blk b41 125 (L33_11 v58 el120 el127 v143 el205 el212 v228 el290 el297)] [RE.cells g18 (o19 + (a2).toNat * 18) (L33_2 A25 el13 cp26 A28 cp29 A31 cp32), RE.rd k_Vec A25 cp26 el13.Verts, RE.rd k_Ar2_Int A28 cp29 el13.UV, RE.rd k_Ar3_Int A31 cp32 el13.Tris] := (H.takeL 3)
 refine W_region ?_
 refine RL_p (xp 3) ?_
 refine RL_p (xm (ii 3)) ?_
 refine WU_succ ?_
 refine Wr ?_
 refine RL_p (xL) ?_
 refine W_seq ?_
 refine Wf ?_
 refine W_exit ?_
 refine Wr ?_
 refine RL_p (xf fo31_3) ?_
 refine RL_p (xl 13 (ii a1.Near) sc3 (H.c 0)) ?_
 refine RL_p (xA 0 (L33_11 v58 el120 el127 v143 el205 el212 v228 el290 el297) ag125 (H.c 2)) ?_
 obtain ⟨v306, hv305, hm⟩ := bind_some hm
 refine RL_cons (OC (xc [ii a1.Near, .agg (L33_11 v58 el120 el127 v143 el205 el212 v228 el290 el297).toArray] (cf50 _ _)) (c50 (okS ok w [.blk b11 31 (L33_1 a1), .blk b38 52 (L33_2 A25 el13 cp26 A28 cp29 A31 cp32), .blk b41 125 (L33_11 v58 el120 el127 v143 el205 el212 v228 el290 el297)]) K w304 a1.Near (⟨(⟨v58.1, el120.a0, el127.a1⟩ : S_Point), (⟨v143.1, el205.a0, el212.a1⟩ : S_Point), (⟨v228.1, el290.a0, el297.a1⟩ : S_Point)⟩ : (Ar3 S_Point))  v306 hv305) ?_)
 rintro e w307 ⟨A308, cp309, rfl, H2⟩
 have H : Sep ok w w307 [.blk b11 31 (L33_1 a1), .blk b38 52 (L33_2 A25 el13 cp26 A28 cp29 A31 cp32), .blk b41 125 (L33_11 v58 el120 el127 v143 el205 el212 v228 el290 el297)] [RE.cells g18 (o19 + (a2).toNat * 18) (L33_2 A25 el13 cp26 A28 cp29 A31 cp32), RE.rd k_Vec A25 cp26 el13.Verts, RE.rd k_Ar2_Int A28 cp29 el13.UV, RE.rd k_Ar3_Int A31 cp32 el13.Tris, RE.rd k_Ar3_S_Point A308 cp309 v306.1] := H.call H2
 clear H2
 refine ⟨_, rfl, ?_⟩
 refine RL_p (xm (tup [.slice A308 v306.1.length cp309, ii v306.2])) ?_
 refine RL_p (xe (.slice A308 v306.1.length cp309)) ?_
 refine RL_p (xe (ii v306.2)) ?_
 refine RL_p (xa (.slice A308 v306.1.length cp309)) ?_
 refine RL_p (xa (ii v306.2)) ?_
 refine W_seq ?_
 refine W_seq ?_
 have H : Sep ok w w307 [.blk b11 31 (L33_1 a1), .blk b38 52 (L33_2 A25 el13 cp26 A28 cp29 A31 cp32)] [RE.cells g18 (o19 + (a2).toNat * 18) (L33_2 A25 el13 cp26 A28 cp29 A31 cp32), RE.rd k_Vec A25 cp26 el13.Verts, RE.rd k_Ar2_Int A28 cp29 el13.UV, RE.rd k_Ar3_Int A31 cp32 el13.Tris, RE.rd k_Ar3_S_Point A308 cp309 v306.1] := (H.takeL 2)
 refine W_region ?_
 refine RL_p (xm (.slice A308 v306.1.length cp309)) ?_
 refine RL_p (x_len sl129 (by rfl)) ?_
 refine RL_p (xm (ii 0)) ?_
 refine W_block ?_
 refine W_loop (fun k1 r' w' => ∃ (l_row353_1 : (List (Ar3 S_Spot))), ∃ (y74_1 : Int), ∃ (A_row353_1 : Option Addr), ∃ (c_row353_1 : Nat), ∃ (cs_row353_1 : List Value), m33_l1 K a0 a1 a2 el13 v306 k1 l_row353_1 y74_1 = some res ∧ Agr [(5, pp b11), (8, .slice A_row353_1 l_row353_1.length c_row353_1), (9, pp b38), (72, .slice A308 v306.1.length cp309), (73, ii (v306.1.length : Int)), (74, ii y74_1)] r' ∧ Sep ok w w' [.blk b11 31 (L33_1 a1), .blk b38 52 (L33_2 A25 el13 cp26 A28 cp29 A31 cp32), .row (.slice A_row353_1 l_row353_1.length c_row353_1) 87 k_Ar3_S_Spot.sz l_row353_1.length cs_row353_1] [RE.cells g18 (o19 + (a2).toNat * 18) (L33_2 A25 el13 cp26 A28 cp29 A31 cp32), RE.rd k_Vec A25 cp26 el13.Verts, RE.rd k_Ar2_Int A28 cp29 el13.UV, RE.rd k_Ar3_Int A31 cp32 el13.Tris, RE.rd k_Ar3_S_Point A308 cp309 v306.1, RE.chunks k_Ar3_S_Spot cs_row353_1 l_row353_1]) K ?_ ?_
 ·exact ⟨[], 0, none, 0, [], hm, ⟨rfl, rfl, rfl, rfl, rfl, rfl, trivial⟩, (H).nilRowK 87 k_Ar3_S_Spot⟩
 rintro k1 r' w' ⟨l_row353_1, y74_1, A_row353_1, c_row353_1, cs_row353_1, hm, hA, H⟩
 obtain ⟨r311, rfl⟩ := regen _ hA; clear hA
 obtain ⟨w312, rfl⟩ := wld w'
 cases k1 with
 | zero => exact (none_some hm).elim
 | succ k1 =>
  have hm : m33_l1b K a0 a1 a2 el13 v306 (m33_l1 K a0 a1 a2 el13 v306 k1) l_row353_1 y74_1 = some res := hm
  unfold m33_l1b at hm
  obtain ⟨rec1, hrec1⟩ : ∃ f, m33_l1 K a0 a1 a2 el13 v306 k1 = f := ⟨_, rfl⟩
  rw [hrec1] at hm
  refine Wr ?_
  refine RL_p (xL) ?_
  refine W_seq ?_
  refine Wc (fun hb => ?_) (fun hb => ?_)
  ·have hm := cond_t hb hm
   refine W_skip ?_
   refine W_seq ?_
   refine W_block ?_
   refine Wr ?_
   obtain ⟨el313, h314, h315, he316, hm⟩ := idx_some hm
   obtain ⟨g318, o319, hA317⟩ := (H.rd (i := 4) (by rfl)).addr he316
   refine RL_p (x_indexAddr sl129 sz125 (by rfl) (by rfl) hA317 h314 h315) ?_
   refine RL_p (xA 0 (L33_12 el313) ag125 (Rd.flatAt (n := 15) (H.rd (i := 4) (by rfl)) hA317 he316)) ?_
   refine RL_cons (OA ze125 H (fun w321 b320 (H : Sep ok w w321 [.blk b11 31 (L33_1 a1), .blk b38 52 (L33_2 A25 el13 cp26 A28 cp29 A31 cp32), .row (.slice A_row353_1 l_row353_1.length c_row353_1) 87 k_Ar3_S_Spot.sz l_row353_1.length cs_row353_1, .blk b320 125 L33_4] [RE.cells g18 (o19 + (a2).toNat * 18) (L33_2 A25 el13 cp26 A28 cp29 A31 cp32), RE.rd k_Vec A25 cp26 el13.Verts, RE.rd k_Ar2_Int A28 cp29 el13.UV, RE.rd k_Ar3_Int A31 cp32 el13.Tris, RE.rd k_Ar3_S_Point A308 cp309 v306.1, RE.chunks k_Ar3_S_Spot cs_row353_1 l_row353_1]) => ?_))
   refine RL_cons (OS 3 0 (L33_12 el313) sz125 H (fun w322 (H : Sep ok w w322 [.blk b11 31 (L33_1 a1), .blk b38 52 (L33_2 A25 el13 cp26 A28 cp29 A31 cp32), .row (.slice A_row353_1 l_row353_1.length c_row353_1) 87 k_Ar3_S_Spot.sz l_row353_1.length cs_row353_1, .blk b320 125 (L33_12 el313)] [RE.cells g18 (o19 + (a2).toNat * 18) (L33_2 A25 el13 cp26 A28 cp29 A31 cp32), RE.rd k_Vec A25 cp26 el13.Verts, RE.rd k_Ar2_Int A28 cp29 el13.UV, RE.rd k_Ar3_Int A31 cp32 el13.Tris, RE.rd k_Ar3_S_Point A308 cp309 v306.1, RE.chunks k_Ar3_S_Spot cs_row353_1 l_row353_1]) => ?_))
   refine Wr ?_
   refine RL_cons (OA ze87 H (fun w324 b323 (H : Sep ok w w324 [.blk b11 31 (L33_1 a1), .blk b38 52 (L33_2 A25 el13 cp26 A28 cp29 A31 cp32), .row (.slice A_row353_1 l_row353_1.length c_row353_1) 87 k_Ar3_S_Spot.sz l_row353_1.length cs_row353_1, .blk b320 125 (L33_12 el313), .blk b323 87 L33_4] [RE.cells g18 (o19 + (a2).toNat * 18) (L33_2 A25 el13 cp26 A28 cp29 A31 cp32), RE.rd k_Vec A25 cp26 el13.Verts, RE.rd k_Ar2_Int A28 cp29 el13.UV, RE.rd k_Ar3_Int A31 cp32 el13.Tris, RE.rd k_Ar3_S_Point A308 cp309 v306.1, RE.chunks k_Ar3_S_Spot cs_row353_1 l_row353_1]) => ?_))
   refine W_seq ?_
   refine Wr ?_
   refine RL_p (xA 0 (L33_12 el313) ag125 (H.c 3)) ?_
   refine RL_p (xm (ii 0)) ?_
   refine W_block ?_
   refine W_unroll 40 ?_
   refine WU_succ ?_
   refine Wr ?_
   refine RL_p (xL) ?_
   refine W_seq ?_
   refine Wt ?_
   refine W_skip ?_
   refine W_seq ?_
   refine W_block ?_
   refine Wr ?_
   refine RL_p (xm (ii 0)) ?_
   refine RL_p (xJ (L33_13 el313) ar125 ag124) ?_
   refine RL_cons (OA ze124 H (fun w326 b325 (H : Sep ok w w326 [.blk b11 31 (L33_1 a1), .blk b38 52 (L33_2 A25 el13 cp26 A28 cp29 A31 cp32), .row (.slice A_row353_1 l_row353_1.length c_row353_1) 87 k_Ar3_S_Spot.sz l_row353_1.length cs_row353_1, .blk b320 125 (L33_12 el313), .blk b323 87 L33_4, .blk b325 124 L33_14] [RE.cells g18 (o19 + (a2).toNat * 18) (L33_2 A25 el13 cp26 A28 cp29 A31 cp32), RE.rd k_Vec A25 cp26 el13.Verts, RE.rd k_Ar2_Int A28 cp29 el13.UV, RE.rd k_Ar3_Int A31 cp32 el13.Tris, RE.rd k_Ar3_S_Point A308 cp309 v306.1, RE.chunks k_Ar3_S_Spot cs_row353_1 l_row353_1]) => ?_))
   refine RL_p (xa (ii 0)) ?_
   refine RL_cons (OS 5 0 (L33_13 el313) sz124 H (fun w327 (H : Sep ok w w327 [.blk b11 31 (L33_1 a1), .blk b38 52 (L33_2 A25 el13 cp26 A28 cp29 A31 cp32), .row (.slice A_row353_1 l_row353_1.length c_row353_1) 87 k_Ar3_S_Spot.sz l_row353_1.length cs_row353_1, .blk b320 125 (L33_12 el313), .blk b323 87 L33_4, .blk b325 124 (L33_13 el313)] [RE.cells g18 (o19 + (a2).toNat * 18) (L33_2 A25 el13 cp26 A28 cp29 A31 cp32), RE.rd k_Vec A25 cp26 el13.Verts, RE.rd k_Ar2_Int A28 cp29 el13.UV, RE.rd k_Ar3_Int A31 cp32 el13.Tris, RE.rd k_Ar3_S_Point A308 cp309 v306.1, RE.chunks k_Ar3_S_Spot cs_row353_1 l_row353_1]) => ?_))
   refine W_region ?_
   refine RL_p (xm (ii 0)) ?_
   refine RL_p (xA 0 (L33_1 a1) ag31 (H.c 0)) ?_
   refine RL_p (xA 0 (L33_13 el313) ag124 (H.c 5)) ?_
   obtain ⟨v329, hv328, hm⟩ := bind_some hm
   refine RL_cons (OC (xc [.agg (L33_1 a1).toArray, .agg (L33_13 el313).toArray] (cf51 _ _)) (c51 okT K w327 a1 el313.a0  v329 hv328) ?_)
   rintro e w330 ⟨rfl, H2⟩
   have H : Sep ok w w330 [.blk b11 31 (L33_1 a1), .blk b38 52 (L33_2 A25 el13 cp26 A28 cp29 A31 cp32), .row (.slice A_row353_1 l_row353_1.length c_row353_1) 87 k_Ar3_S_Spot.sz l_row353_1.length cs_row353_1, .blk b320 125 (L33_12 el313), .blk b323 87 L33_4, .blk b325 124 (L33_13 el313)] [RE.cells g18 (o19 + (a2).toNat * 18) (L33_2 A25 el13 cp26 A28 cp29 A31 cp32), RE.rd k_Vec A25 cp26 el13.Verts, RE.rd k_Ar2_Int A28 cp29 el13.UV, RE.rd k_Ar3_Int A31 cp32 el13.Tris, RE.rd k_Ar3_S_Point A308 cp309 v306.1, RE.chunks k_Ar3_S_Spot cs_row353_1 l_row353_1] := H.below H2.base
   clear H2
   refine ⟨_, rfl, ?_⟩
   refine RL_p (xm (tup [.agg (L33_15 v329).toArray, ii v329.2])) ?_
   refine RL_p (xe (.agg (L33_15 v329).toArray)) ?_
   refine RL_p (xe (ii v329.2)) ?_
   refine RL_p (xI ar87 sz86) ?_
   refine RL_cons (OS 4 0 (L33_15 v329) sz86 H (fun w331 (H : Sep ok w w331 [.blk b11 31 (L33_1 a1), .blk b38 52 (L33_2 A25 el13 cp26 A28 cp29 A31 cp32), .row (.slice A_row353_1 l_row353_1.length c_row353_1) 87 k_Ar3_S_Spot.sz l_row353_1.length cs_row353_1, .blk b320 125 (L33_12 el313), .blk b323 87 (L33_16 v329), .blk b325 124 (L33_13 el313)] [RE.cells g18 (o19 + (a2).toNat * 18) (L33_2 A25 el13 cp26 A28 cp29 A31 cp32), RE.rd k_Vec A25 cp26 el13.Verts, RE.rd k_Ar2_Int A28 cp29 el13.UV, RE.rd k_Ar3_Int A31 cp32 el13.Tris, RE.rd k_Ar3_S_Point A308 cp309 v306.1, RE.chunks k_Ar3_S_Spot cs_row353_1 l_row353_1]) => ?_))
   refine W_region ?_
   refine RL_p (xp 1) ?_
   refine RL_p (xm (ii 1)) ?_
   refine WU_succ ?_
   refine Wr ?_
   refine RL_p (xL) ?_
   refine W_seq ?_
   refine Wt ?_
   refine W_skip ?_
   refine W_seq ?_
   refine W_block ?_
   refine Wr ?_
   refine RL_p (xm (ii 1)) ?_
   refine RL_p (xJ (L33_17 el313) ar125 ag124) ?_
   refine RL_cons (OA ze124 H (fun w333 b332 (H : Sep ok w w333 [.blk b11 31 (L33_1 a1), .blk b38 52 (L33_2 A25 el13 cp26 A28 cp29 A31 cp32), .row (.slice A_row353_1 l_row353_1.length c_row353_1) 87 k_Ar3_S_Spot.sz l_row353_1.length cs_row353_1, .blk b320 125 (L33_12 el313), .blk b323 87 (L33_16 v329), .blk b325 124 (L33_13 el313), .blk b332 124 L33_14] [RE.cells g18 (o19 + (a2).toNat * 18) (L33_2 A25 el13 cp26 A28 cp29 A31 cp32), RE.rd k_Vec A25 cp26 el13.Verts, RE.rd k_Ar2_Int A28 cp29 el13.UV, RE.rd k_Ar3_Int A31 cp32 el13.Tris, RE.rd k_Ar3_S_Point A308 cp309 v306.1, RE.chunks k_Ar3_S_Spot cs_row353_1 l_row353_1]) => ?_))
   refine RL_p (xa (ii 1)) ?_
   refine RL_cons (OS 6 0 (L33_17 el313) sz124 H (fun w334 (H : Sep ok w w334 [.blk b11 31 (L33_1 a1), .blk b38 52 (L33_2 A25 el13 cp26 A28 cp29 A31 cp32), .row (.slice A_row353_1 l_row353_1.length c_row353_1) 87 k_Ar3_S_Spot.sz l_row353_1.length cs_row353_1, .blk b320 125 (L33_12 el313), .blk b323 87 (L33_16 v329), .blk b325 124 (L33_13 el313), .blk b332 124 (L33_17 el313)] [RE.cells g18 (o19 + (a2).toNat * 18) (L33_2 A25 el13 cp26 A28 cp29 A31 cp32), RE.rd k_Vec A25 cp26 el13.Verts, RE.rd k_Ar2_Int A28 cp29 el13.UV, RE.rd k_Ar3_Int A31 cp32 el13.Tris, RE.rd k_Ar3_S_Point A308 cp309 v306.1, RE.chunks k_Ar3_S_Spot cs_row353_1 l_row353_1]) => ?_))
   refine W_region ?_
   refine RL_p (xm (ii 1)) ?_
   refine RL_p (xA 0 (L33_1 a1) ag31 (H.c 0)) ?_
   refine RL_p (xA 0 (L33_17 el313) ag124 (H.c 6)) ?_
   obtain ⟨v336, hv335, hm⟩ := bind_some hm
   refine RL_cons (OC (xc [.agg (L33_1 a1).toArray, .agg (L33_17 el313).toArray] (cf51 _ _)) (c51 okT K w334 a1 el313.a1  v336 hv335) ?_)
   rintro e w337 ⟨rfl, H2⟩
   have H : Sep ok w w337 [.blk b11 31 (L33_1 a1), .blk b38 52 (L33_2 A25 el13 cp26 A28 cp29 A31 cp32), .row (.slice A_row353_1 l_row353_1.length c_row353_1) 87 k_Ar3_S_Spot.sz l_row353_1.length cs_row353_1, .blk b320 125 (L33_12 el313), .blk b323 87 (L33_16 v329), .blk b325 124 (L33_13 el313), .blk b332 124 (L33_17 el313)] [RE.cells g18 (o19 + (a2).toNat * 18) (L33_2 A25 el13 cp26 A28 cp29 A31 cp32), RE.rd k_Vec A25 cp26 el13.Verts, RE.rd k_Ar2_Int A28 cp29 el13.UV, RE.rd k_Ar3_Int A31 cp32 el13.Tris, RE.rd k_Ar3_S_Point A308 cp309 v306.1, RE.chunks k_Ar3_S_Spot cs_row353_1 l_row353_1] := H.below H2.base
   clear H2
   refine ⟨_, rfl, ?_⟩
   refine RL_p (xm (tup [.agg (L33_15 v336).toArray, ii v336.2])) ?_
   refine RL_p (xe (.agg (L33_15 v336).toArray)) ?_
   refine RL_p (xe (ii v336.2)) ?_
   refine RL_p (xI ar87 sz86) ?_
   refine RL_cons (OS 4 5 (L33_15 v336) sz86 H (fun w338 (H : Sep ok w w338 [.blk b11 31 (L33_1 a1), .blk b38 52 (L33_2 A25 el13 cp26 A28 cp29 A31 cp32), .row (.slice A_row353_1 l_row353_1.length c_row353_1) 87 k_Ar3_S_Spot.sz l_row353_1.length cs_row353_1, .blk b320 125 (L33_12 el313), .blk b323 87 (L33_18 v329 v336), .blk b325 124 (L33_13 el313), .blk b332 124 (L33_17 el313)] [RE.cells g18 (o19 + (a2).toNat * 18) (L33_2 A25 el13 cp26 A28 cp29 A31 cp32), RE.rd k_Vec A25 cp26 el13.Verts, RE.rd k_Ar2_Int A28 cp29 el13.UV, RE.rd k_Ar3_Int A31 cp32 el13.Tris, RE.rd k_Ar3_S_Point A308 cp309 v306.1, RE.chunks k_Ar3_S_Spot cs_row353_1 l_row353_1]) => ?_))
   refine RL_nil ?_
   have H : Sep ok w w338 [.blk b11 31 (L33_1 a1), .blk b38 52 (L33_2 A25 el13 cp26 A28 cp29 A31 cp32), .row (.slice A_row353_1 l_row353_1.length c_row353_1) 87 k_Ar3_S_Spot.sz l_row353_1.length cs_row353_1, .blk b323 87 (L33_18 v329 v336)] [RE.cells g18 (o19 + (a2).toNat * 18) (L33_2 A25 el13 cp26 A28 cp29 A31 cp32), RE.rd k_Vec A25 cp26 el13.Verts, RE.rd k_Ar2_Int A28 cp29 el13.UV, RE.rd k_Ar3_Int A31 cp32 el13.Tris, RE.rd k_Ar3_S_Point A308 cp309 v306.1, RE.chunks k_Ar3_S_Spot cs_row353_1 l_row353_1] := (H.pickL [0, 1, 2, 4] (by decide))
   refine W_region ?_
   refine RL_p (xp 2) ?_
   refine RL_p (xm (ii 2)) ?_
   refine WU_succ ?_
   refine Wr ?_
   refine RL_p (xL) ?_
   refine W_seq ?_
   refine Wt ?_
   refine W_skip ?_
   refine W_seq ?_
   refine W_block ?_
   refine Wr ?_
   refine RL_p (xm (ii 2)) ?_
   refine RL_p (xJ (L33_19 el313) ar125 ag124) ?_
   refine RL_cons (OA ze124 H (fun w340 b339 (H : Sep ok w w340 [.blk b11 31 (L33_1 a1), .blk b38 52 (L33_2 A25 el13 cp26 A28 cp29 A31 cp32), .row (.slice A_row353_1 l_row353_1.length c_row353_1) 87 k_Ar3_S_Spot.sz l_row353_1.length cs_row353_1, .blk b323 87 (L33_18 v329 v336), .blk b339 124 L33_14] [RE.cells g18 (o19 + (a2).toNat * 18) (L33_2 A25 el13 cp26 A28 cp29 A31 cp32), RE.rd k_Vec A25 cp26 el13.Verts, RE.rd k_Ar2_Int A28 cp29 el13.UV, RE.rd k_Ar3_Int A31 cp32 el13.Tris, RE.rd k_Ar3_S_Point A308 cp309 v306.1, RE.chunks k_Ar3_S_Spot cs_row353_1 l_row353_1]) => ?_))
   refine RL_p (xa (ii 2)) ?_
   refine RL_cons (OS 4 0 (L33_19 el313) sz124 H (fun w341 (H : Sep ok w w341 [.blk b11 31 (L33_1 a1), .blk b38 52 (L33_2 A25 el13 cp26 A28 cp29 A31 cp32), .row (.slice A_row353_1 l_row353_1.length c_row353_1) 87 k_Ar3_S_Spot.sz l_row353_1.length cs_row353_1, .blk b323 87 (L33_18 v329 v336), .blk b339 124 (L33_19 el313)] [RE.cells g18 (o19 + (a2).toNat * 18) (L33_2 A25 el13 cp26 A28 cp29 A31 cp32), RE.rd k_Vec A25 cp26 el13.Verts, RE.rd k_Ar2_Int A28 cp29 el13.UV, RE.rd k_Ar3_Int A31 cp32 el13.Tris, RE.rd k_Ar3_S_Point A308 cp309 v306.1, RE.chunks k_Ar3_S_Spot cs_row353_1 l_row353_1]) => ?_))
   refine W_region ?_
   refine RL_p (xm (ii 2)) ?_
   refine RL_p (xA 0 (L33_1 a1) ag31 (H.c 0)) ?_
   refine RL_p (xA 0 (L33_19 el313) ag124 (H.c 4)) ?_
   obtain ⟨v343, hv342, hm⟩ := bind_some hm
   refine RL_cons (OC (xc [.agg (L33_1 a1).toArray, .agg (L33_19 el313).toArray] (cf51 _ _)) (c51 okT K w341 a1 el313.a2  v343 hv342) ?_)
   rintro e w344 ⟨rfl, H2⟩
   have H : Sep ok w w344 [.blk b11 31 (L33_1 a1), .blk b38 52 (L33_2 A25 el13 cp26 A28 cp29 A31 cp32), .row (.slice A_row353_1 l_row353_1.length c_row353_1) 87 k_Ar3_S_Spot.sz l_row353_1.length cs_row353_1, .blk b323 87 (L33_18 v329 v336), .blk b339 124 (L33_19 el313)] [RE.cells g18 (o19 + (a2).toNat * 18) (L33_2 A25 el13 cp26 A28 cp29 A31 cp32), RE.rd k_Vec A25 cp26 el13.Verts, RE.rd k_Ar2_Int A28 cp29 el13.UV, RE.rd k_Ar3_Int A31 cp32 el13.Tris, RE.rd k_Ar3_S_Point A308 cp309 v306.1, RE.chunks k_Ar3_S_Spot cs_row353_1 l_row353_1] := H.below H2.base
   clear H2
   refine ⟨_, rfl, ?_⟩
   refine RL_p (xm (tup [.agg (L33_15 v343).toArray, ii v343.2])) ?_
   refine RL_p (xe (.agg (L33_15 v343).toArray)) ?_
   refine RL_p (xe (ii v343.2)) ?_
   refine RL_p (xI ar87 sz86) ?_
   refine RL_cons (OS 3 10 (L33_15 v343) sz86 H (fun w345 (H : S33_13 ok w w345 b11 a1 b38 A25 el13 cp26 A28 cp29 A31 cp32 A_row353_1 l_row353_1 c_row353_1 cs_row353_1 b323 v329 v336 v343 b339 el313 g18 o19 a2 A308 cp309 v306) => ?_))
   refine W_region ?_
   refine RL_p (xp 3) ?_
   refine RL_p (xm (ii 3)) ?_
   refine WU_succ ?_
   refine Wr ?_
   refine RL_p (xL) ?_
   refine W_seq ?_
   refine Wf ?_
   refine W_exit ?_
   refine Wr ?_
   refine RL_p (xA 0 (L33_20 v329 v336 v343) ag87 (H.c 3)) ?_
   refine RL_p (xf fo52_3) ?_
   refine RL_p (xf fo48_2) ?_
   refine RL_p (xl 8 (.int .u8 el13.Look.Cull) sc5 (H.c 1)) ?_
   obtain ⟨v347, hv346, hm⟩ := bind_some hm
   refine RL_cons (OC (xc [.agg (L33_20 v329 v336 v343).toArray, .int .u8 el13.Look.Cull] (cf52 _ _)) (c52 okT K w345 (⟨v329.1, v336.1, v343.1⟩ : (Ar3 S_Spot)) el13.Look.Cull  v347 hv346) ?_)
   rintro e w348 ⟨rfl, H2⟩
   have H : S33_13 ok w w348 b11 a1 b38 A25 el13 cp26 A28 cp29 A31 cp32 A_row353_1 l_row353_1 c_row353_1 cs_row353_1 b323 v329 v336 v343 b339 el313 g18 o19 a2 A308 cp309 v306 := H.below H2.base
   clear H2
   refine ⟨_, rfl, ?_⟩
   refine RL_p (xm (tup [.bool v347.1, ii v347.2])) ?_
   refine RL_p (xe (.bool v347.1)) ?_
   refine RL_p (xe (ii v347.2)) ?_
   refine RL_p (xa (.bool v347.1)) ?_
   refine RL_p (xa (ii v347.2)) ?_
   refine Wr ?_
   refine RL_p (xm (.bool v347.1)) ?_
   refine Wc (fun hb => ?_) (fun hb => ?_)
   ·have hm := cond_t hb hm
    refine Wr ?_
    refine RL_p (xA 0 (L33_20 v329 v336 v343) ag87 (H.c 3)) ?_
    obtain ⟨v350, hv349, hm⟩ := bind_some hm
    refine RL_cons (OC (xc [.agg (L33_20 v329 v336 v343).toArray] (cf53 _ _)) (c53 okT K w348 (⟨v329.1, v336.1, v343.1⟩ : (Ar3 S_Spot))  v350 hv349) ?_)
    rintro e w351 ⟨rfl, H2⟩
    have H : S33_13 ok w w351 b11 a1 b38 A25 el13 cp26 A28 cp29 A31 cp32 A_row353_1 l_row353_1 c_row353_1 cs_row353_1 b323 v329 v336 v343 b339 el313 g18 o19 a2 A308 cp309 v306 := H.below H2.base
    clear H2
    refine ⟨_, rfl, ?_⟩
    refine RL_p (xm (tup [.agg (L33_21 v350).toArray, ii v350.2])) ?_
    refine RL_p (xe (.agg (L33_21 v350).toArray)) ?_
    refine RL_p (xe (ii v350.2)) ?_
    refine RL_cons (OS 3 0 (L33_21 v350) sz87 H (fun w352 (H : Sep ok w w352 [.blk b11 31 (L33_1 a1), .blk b38 52 (L33_2 A25 el13 cp26 A28 cp29 A31 cp32), .row (.slice A_row353_1 l_row353_1.length c_row353_1) 87 k_Ar3_S_Spot.sz l_row353_1.length cs_row353_1, .blk b323 87 (L33_21 v350), .blk b339 124 (L33_19 el313)] [RE.cells g18 (o19 + (a2).toNat * 18) (L33_2 A25 el13 cp26 A28 cp29 A31 cp32), RE.rd k_Vec A25 cp26 el13.Verts, RE.rd k_Ar2_Int A28 cp29 el13.UV, RE.rd k_Ar3_Int A31 cp32 el13.Tris, RE.rd k_Ar3_S_Point A308 cp309 v306.1, RE.chunks k_Ar3_S_Spot cs_row353_1 l_row353_1]) => ?_))
    refine W_region ?_
    refine RL_p (xm (.slice A_row353_1 l_row353_1.length c_row353_1)) ?_
    refine RL_p (xA 0 (L33_21 v350) ag87 (H.c 3)) ?_
    refine RL_cons (O_buildSlice (vs := [(0, .agg (L33_21 v350).toArray)]) (cs := [ii v350.1.a0.X, ii v350.1.a0.Y, ii v350.1.a0.D, ii v350.1.a0.U, ii v350.1.a0.V, ii v350.1.a1.X, ii v350.1.a1.Y, ii v350.1.a1.D, ii v350.1.a1.U, ii v350.1.a1.V, ii v350.1.a2.X, ii v350.1.a2.Y, ii v350.1.a2.D, ii v350.1.a2.U, ii v350.1.a2.V]) (by exact wn0 rfl) (by rfl) sl101 sz87 ze87 (by rfl) (by rfl) (by rfl) (by kernel_rfl) H (fun w354 b353 (H : Sep ok w w354 [.blk b11 31 (L33_1 a1), .blk b38 52 (L33_2 A25 el13 cp26 A28 cp29 A31 cp32), .row (.slice A_row353_1 l_row353_1.length c_row353_1) 87 k_Ar3_S_Spot.sz l_row353_1.length cs_row353_1, .blk b323 87 (L33_21 v350), .blk b339 124 (L33_19 el313), .blk b353 87 (L33_21 v350)] [RE.cells g18 (o19 + (a2).toNat * 18) (L33_2 A25 el13 cp26 A28 cp29 A31 cp32), RE.rd k_Vec A25 cp26 el13.Verts, RE.rd k_Ar2_Int A28 cp29 el13.UV, RE.rd k_Ar3_Int A31 cp32 el13.Tris, RE.rd k_Ar3_S_Point A308 cp309 v306.1, RE.chunks k_Ar3_S_Spot cs_row353_1 l_row353_1]) => ?_))
    obtain ⟨l359, hl360, hb361, hm⟩ := apd_some hm
    refine RL_cons (O_append (D := k_Ar3_S_Spot) (i := 2) (j := 5) (o := 0) (y := v350.1) (by exact wn0 rfl) (by rfl) (by rfl) (by rfl) H (by rfl) (by rfl) (H.c 5) rfl hl360 sl101 sz87 by87 ze87 (by rfl) (by rfl) hb361 (by rfl) (fun w355 A356 cp357 cs358 (H : Sep ok w w355 [.blk b11 31 (L33_1 a1), .blk b38 52 (L33_2 A25 el13 cp26 A28 cp29 A31 cp32), .row (.slice A356 l359.length cp357) 87 k_Ar3_S_Spot.sz l359.length cs358, .blk b323 87 (L33_21 v350), .blk b339 124 (L33_19 el313), .blk b353 87 (L33_21 v350)] [RE.cells g18 (o19 + (a2).toNat * 18) (L33_2 A25 el13 cp26 A28 cp29 A31 cp32), RE.rd k_Vec A25 cp26 el13.Verts, RE.rd k_Ar2_Int A28 cp29 el13.UV, RE.rd k_Ar3_Int A31 cp32 el13.Tris, RE.rd k_Ar3_S_Point A308 cp309 v306.1, RE.chunks k_Ar3_S_Spot cs358 l359]) => ?_))
    refine RL_p (xa (.slice A356 l359.length cp357)) ?_
    refine RL_nil ?_
    have H : Sep ok w w355 [.blk b11 31 (L33_1 a1), .blk b38 52 (L33_2 A25 el13 cp26 A28 cp29 A31 cp32), .row (.slice A356 l359.length cp357) 87 k_Ar3_S_Spot.sz l359.length cs358] [RE.cells g18 (o19 + (a2).toNat * 18) (L33_2 A25 el13 cp26 A28 cp29 A31 cp32), RE.rd k_Vec A25 cp26 el13.Verts, RE.rd k_Ar2_Int A28 cp29 el13.UV, RE.rd k_Ar3_Int A31 cp32 el13.Tris, RE.rd k_Ar3_S_Point A308 cp309 v306.1, RE.chunks k_Ar3_S_Spot cs358 l359] := (H.takeL 3)
    refine W_region ?_
    obtain ⟨x362, ex362, qx362, ux362, hm⟩ := ck_some hm
    refine RL_p (xP ux362) ?_
    refine RL_p (xm (ii x362)) ?_
    refine RL_nil ?_
    subst hrec1
    exact ⟨k1, Nat.lt_succ_self k1, l359, x362, A356, cp357, cs358, hm, ⟨rfl, rfl, rfl, rfl, rfl, rfl, trivial⟩, H⟩
   have hm := cond_f hb hm
   refine W_skip ?_
   have H : Sep ok w w348 [.blk b11 31 (L33_1 a1), .blk b38 52 (L33_2 A25 el13 cp26 A28 cp29 A31 cp32), .row (.slice A_row353_1 l_row353_1.length c_row353_1) 87 k_Ar3_S_Spot.sz l_row353_1.length cs_row353_1] [RE.cells g18 (o19 + (a2).toNat * 18) (L33_2 A25 el13 cp26 A28 cp29 A31 cp32), RE.rd k_Vec A25 cp26 el13.Verts, RE.rd k_Ar2_Int A28 cp29 el13.UV, RE.rd k_Ar3_Int A31 cp32 el13.Tris, RE.rd k_Ar3_S_Point A308 cp309 v306.1, RE.chunks k_Ar3_S_Spot cs_row353_1 l_row353_1] := (H.takeL 3)
   refine W_region ?_
   obtain ⟨x363, ex363, qx363, ux363, hm⟩ := ck_some hm
   refine RL_p (xP ux363) ?_
   refine RL_p (xm (ii x363)) ?_
   refine RL_nil ?_
   subst hrec1
   exact ⟨k1, Nat.lt_succ_self k1, l_row353_1, x363, A_row353_1, c_row353_1, cs_row353_1, hm, ⟨rfl, rfl, rfl, rfl, rfl, rfl, trivial⟩, H⟩
  have hm := cond_f hb hm
  refine W_exit ?_
  refine W_seq ?_
  have H : Sep ok w w312 [.row (.slice A_row353_1 l_row353_1.length c_row353_1) 87 k_Ar3_S_Spot.sz l_row353_1.length cs_row353_1] [RE.chunks k_Ar3_S_Spot cs_row353_1 l_row353_1] := ((H.pickL [2] (by decide)).pick [5])
  refine W_region ?_
  refine RL_p (xm (.slice A_row353_1 l_row353_1.length c_row353_1)) ?_
  refine RL_p (xa (.slice A_row353_1 l_row353_1.length c_row353_1)) ?_
  refine W_ret ?_
  have H : Sep ok w w312 [.hole] [RE.rd k_Ar3_S_Spot A_row353_1 c_row353_1 l_row353_1] := H.frozen (i := 0) (j := 0) (by rfl) (by rfl)
  obtain rfl := Option.some.inj hm
  exact ⟨[.slice A_row353_1 l_row353_1.length c_row353_1], (.tmp (by rfl) rfl), A_row353_1, c_row353_1, rfl, (H.forgetAll).pick [0]⟩
end Go.Proofs.YtobkigllalbkiaaV.D

/- A plain Lean function that answers as the Go function does (none: not told), and the proof that a call answers so. Written by program. -/
set_option linter.unusedVariables false
set_option maxRecDepth 100000
set_option maxHeartbeats 4000000
namespace Go.Proofs.YtobkigllalbkiaaV.D
open Go.RowKit Go.Proofs.YtobkigllalbkiaaV
abbrev L21_0 (q0 : Option Addr) (q1 : S_Show) (q2 : Nat) (q3 : Option Addr) (q4 : Nat) : List Value := [.slice q0 q1.Items.length q2, .slice q3 q1.Textures.length q4]
abbrev L21_1 (q0 : S_Camera) : List Value := [ii q0.Pos.X, ii q0.Pos.Y, ii q0.Pos.Z, ii q0.M.a0.a0, ii q0.M.a0.a1, ii q0.M.a0.a2, ii q0.M.a1.a0, ii q0.M.a1.a1, ii q0.M.a1.a2, ii q0.M.a2.a0, ii q0.M.a2.a1, ii q0.M.a2.a2, ii q0.Focal, ii q0.Near, ii q0.W, ii q0.H]
abbrev L21_2  : List Value := [.slice none 0 0, .slice none 0 0, .slice none 0 0]
abbrev L21_3 (q0 : Option Addr) (q1 : S_Show) (q2 : Nat) (q3 : Option Addr) (q4 : Nat) : List Value := [.slice q0 q1.Items.length q2, .slice q3 q1.Textures.length q4, .slice none 0 0]
abbrev L21_4 (q0 : Option Addr) (q1 : S_Show) (q2 : Nat) (q3 : Option Addr) (q4 : Nat) (q5 : Option Addr) (q6 : (List S_part)) (q7 : Nat) : List Value := [.slice q0 q1.Items.length q2, .slice q3 q1.Textures.length q4, .slice q5 q6.length q7]
abbrev L21_5 (q0 : Option Addr) (q1 : S_Item) (q2 : Nat) (q3 : Option Addr) (q4 : Nat) (q5 : Option Addr) (q6 : Nat) : List Value := [.slice q0 q1.Verts.length q2, .slice q3 q1.UV.length q4, .slice q5 q1.Tris.length q6, .int .u8 q1.Look.Color.a0, .int .u8 q1.Look.Color.a1, .int .u8 q1.Look.Color.a2, .int .u8 q1.Look.Color.a3, ii q1.Look.Texture, .int .u8 q1.Look.Cull, ii q1.Look.Bias, .bool q1.Look.Blend, ii q1.Look.Bin, ii q1.Box.Low.X, ii q1.Box.Low.Y, ii q1.Box.Low.Z, ii q1.Box.High.X, ii q1.Box.High.Y, ii q1.Box.High.Z]
abbrev L21_6  : List Value := [.slice none 0 0, .slice none 0 0, .slice none 0 0, .int .u8 0, .int .u8 0, .int .u8 0, .int .u8 0, ii 0, .int .u8 0, ii 0, .bool false, ii 0, ii 0, ii 0, ii 0, ii 0, ii 0, ii 0]
abbrev L21_7 (q0 : (Ar3 S_Spot)) : List Value := [ii q0.a0.X, ii q0.a0.Y, ii q0.a0.D, ii q0.a0.U, ii q0.a0.V, ii q0.a1.X, ii q0.a1.Y, ii q0.a1.D, ii q0.a1.U, ii q0.a1.V, ii q0.a2.X, ii q0.a2.Y, ii q0.a2.D, ii q0.a2.U, ii q0.a2.V]
abbrev L21_8  : List Value := [ii 0, ii 0, ii 0, ii 0, ii 0, ii 0, ii 0, ii 0, ii 0, ii 0, ii 0, ii 0, ii 0, ii 0, ii 0]
abbrev L21_9 (q0 : S_Item) (q1 : Int) (q2 : Int) (q3 : Int) : List Value := [ii q0.Look.Bias, ii q1, ii q2, ii q3, ii 0, ii 0]
abbrev L21_10 (q0 : (Ar3 S_Spot)) (q1 : S_Item) (q2 : Int) (q3 : Int) (q4 : Int) : List Value := [ii q0.a0.X, ii q0.a0.Y, ii q0.a0.D, ii q0.a0.U, ii q0.a0.V, ii q0.a1.X, ii q0.a1.Y, ii q0.a1.D, ii q0.a1.U, ii q0.a1.V, ii q0.a2.X, ii q0.a2.Y, ii q0.a2.D, ii q0.a2.U, ii q0.a2.V, ii q1.Look.Bias, ii q2, ii q3, ii q4, ii 0, ii 0]
def m21_l3b (K : Nat) (y16_1 : Int) (el20 : S_Item) (y24_2 : Int) (rec2 : (List S_part) → Int → Option (S_scene)) (v51 : (List (Ar3 S_Spot))) (rec3 : (List S_part) → Int → Option (S_scene)) (l_row64_3 : (List S_part)) (y33_3 : Int) : Option (S_scene) :=
 (bif (decide (y33_3 < (v51.length : Int))) then (idx v51 y33_3 fun el58 => (apd 168 l_row64_3 (⟨el58, (⟨el20.Look.Bias, y16_1, y24_2, y33_3, 0, 0⟩ : S_Frag)⟩ : S_part) fun l74 => (ck (y33_3 + 1) fun x78 => (rec3 l74 x78)))) else (ck (y24_2 + 1) fun x79 => (rec2 l_row64_3 x79)))
def m21_l3 (K : Nat) (y16_1 : Int) (el20 : S_Item) (y24_2 : Int) (rec2 : (List S_part) → Int → Option (S_scene)) (v51 : (List (Ar3 S_Spot))) : Nat → (List S_part) → Int → Option (S_scene)
 | 0 => fun _ _ => none
 | k + 1 => m21_l3b K y16_1 el20 y24_2 rec2 v51 (m21_l3 K y16_1 el20 y24_2 rec2 v51 k)
def m21_l2b (K : Nat) (a0 : S_Show) (a1 : S_Camera) (y16_1 : Int) (rec1 : (List S_part) → Int → Option (S_scene)) (el20 : S_Item) (rec2 : (List S_part) → Int → Option (S_scene)) (l_row64_2 : (List S_part)) (y24_2 : Int) : Option (S_scene) :=
 (bif (decide (y24_2 < (el20.Tris.length : Int))) then ((m33 K a0 a1 y16_1 y24_2).bind fun v51 => m21_l3 K y16_1 el20 y24_2 rec2 v51 K l_row64_2 0) else (ck (y16_1 + 1) fun x80 => (rec1 l_row64_2 x80)))
def m21_l2 (K : Nat) (a0 : S_Show) (a1 : S_Camera) (y16_1 : Int) (rec1 : (List S_part) → Int → Option (S_scene)) (el20 : S_Item) : Nat → (List S_part) → Int → Option (S_scene)
 | 0 => fun _ _ => none
 | k + 1 => m21_l2b K a0 a1 y16_1 rec1 el20 (m21_l2 K a0 a1 y16_1 rec1 el20 k)
def m21_l1b (K : Nat) (a0 : S_Show) (a1 : S_Camera) (rec1 : (List S_part) → Int → Option (S_scene)) (l_row64_1 : (List S_part)) (y16_1 : Int) : Option (S_scene) :=
 (bif (decide (y16_1 < (a0.Items.length : Int))) then (idx a0.Items y16_1 fun el20 => m21_l2 K a0 a1 y16_1 rec1 el20 K l_row64_1 0) else some (⟨a0, l_row64_1⟩ : S_scene))
def m21_l1 (K : Nat) (a0 : S_Show) (a1 : S_Camera) : Nat → (List S_part) → Int → Option (S_scene)
 | 0 => fun _ _ => none
 | k + 1 => m21_l1b K a0 a1 (m21_l1 K a0 a1 k)
def m21 (K : Nat) (a0 : S_Show) (a1 : S_Camera) : Option (S_scene) :=
 m21_l1 K a0 a1 K ([]) 0
theorem c21 (ok : Okp) (K : Nat) (w : World) (a0 : S_Show) (A1 : Option Addr) (cp2 : Nat) (A5 : Option Addr) (cp6 : Nat) (a1 : S_Camera) (hR3 : Rd k_Item w ok A1 cp2 a0.Items) (hR7 : Rd k_Texture w ok A5 cp6 a0.Textures) (res : S_scene) (hm : m21 K a0 a1 = some res) :
  Calls Tryd.prog 21 #[.agg (L21_0 A1 a0 cp2 A5 cp6).toArray, .agg (L21_1 a1).toArray] w (fun e w' => ∃ (A0_ : Option Addr) (c0_ : Nat), ∃ (A1_ : Option Addr) (c1_ : Nat), ∃ (A2_ : Option Addr) (c2_ : Nat), e = .returned (tup [.agg #[.slice A0_ res.Show.Items.length c0_, .slice A1_ res.Show.Textures.length c1_, .slice A2_ res.parts.length c2_]]) ∧ Sep ok w w' [] [RE.rd k_Item A0_ c0_ res.Show.Items, RE.rd k_Texture A1_ c1_ res.Show.Textures, RE.rd k_part A2_ c2_ res.parts]) := by
 refine calls_W (args := [.agg (L21_0 A1 a0 cp2 A5 cp6).toArray, .agg (L21_1 a1).toArray]) Tryd.func21 rfl Tryd.ntmps21 Tryd.results21 rfl fun r hr => ?_
 obtain ⟨r1, rfl⟩ := regen (r := r) [(0, .agg (L21_0 A1 a0 cp2 A5 cp6).toArray), (1, .agg (L21_1 a1).toArray)] ⟨hr 0 _ rfl, hr 1 _ rfl, trivial⟩
 have H : Sep ok w w [] [RE.rd k_Item A1 cp2 a0.Items, RE.rd k_Texture A5 cp6 a0.Textures] := Sep.arg (Sep.arg (Sep.start ok w) (re := RE.rd k_Item A1 cp2 a0.Items) rfl rfl hR3) (re := RE.rd k_Texture A5 cp6 a0.Textures) rfl rfl hR7
 unfold m21 at hm
 refine Wr ?_
 refine RL_cons (OB H (fun w10 b9 (H : Sep ok w w10 [.blk b9 25 (L21_0 A1 a0 cp2 A5 cp6)] [RE.rd k_Item A1 cp2 a0.Items, RE.rd k_Texture A5 cp6 a0.Textures]) => ?_))
 refine RL_cons (OB H (fun w12 b11 (H : Sep ok w w12 [.blk b9 25 (L21_0 A1 a0 cp2 A5 cp6), .blk b11 31 (L21_1 a1)] [RE.rd k_Item A1 cp2 a0.Items, RE.rd k_Texture A5 cp6 a0.Textures]) => ?_))
 refine RL_cons (OA ze67 H (fun w14 b13 (H : Sep ok w w14 [.blk b9 25 (L21_0 A1 a0 cp2 A5 cp6), .blk b11 31 (L21_1 a1), .blk b13 67 L21_2] [RE.rd k_Item A1 cp2 a0.Items, RE.rd k_Texture A5 cp6 a0.Textures]) => ?_))
 refine Wr ?_
 refine RL_p (xA 0 (L21_0 A1 a0 cp2 A5 cp6) ag25 (H.c 0)) ?_
 refine RL_p (x_build (vs := [(0, .agg (L21_0 A1 a0 cp2 A5 cp6).toArray)]) (cs := (L21_3 A1 a0 cp2 A5 cp6)) (by rfl) (by kernel_rfl)) ?_
 refine RL_cons (OA ze67 H (fun w16 b15 (H : Sep ok w w16 [.blk b9 25 (L21_0 A1 a0 cp2 A5 cp6), .blk b11 31 (L21_1 a1), .blk b13 67 L21_2, .blk b15 67 L21_2] [RE.rd k_Item A1 cp2 a0.Items, RE.rd k_Texture A5 cp6 a0.Textures]) => ?_))
 refine RL_cons (OS 3 0 (L21_3 A1 a0 cp2 A5 cp6) sz67 H (fun w17 (H : Sep ok w w17 [.blk b9 25 (L21_0 A1 a0 cp2 A5 cp6), .blk b11 31 (L21_1 a1), .blk b13 67 L21_2, .blk b15 67 (L21_3 A1 a0 cp2 A5 cp6)] [RE.rd k_Item A1 cp2 a0.Items, RE.rd k_Texture A5 cp6 a0.Textures]) => ?_))
 refine W_seq ?_
 refine Wr ?_
 refine RL_p (xf fo25_0) ?_
 refine RL_p (xl 0 (.slice A1 a0.Items.length cp2) sc22 (H.c 0)) ?_
 refine RL_p (x_len sl22 (by rfl)) ?_
 refine RL_p (xm (ii 0)) ?_
 refine W_block ?_
 refine W_loop (fun k1 r' w' => ∃ (l_row64_1 : (List S_part)), ∃ (y16_1 : Int), ∃ (A_row64_1 : Option Addr), ∃ (c_row64_1 : Nat), ∃ (cs_row64_1 : List Value), m21_l1 K a0 a1 k1 l_row64_1 y16_1 = some res ∧ Agr [(2, pp b9), (3, pp b11), (4, pp b13), (5, pp b15), (14, .slice A1 a0.Items.length cp2), (15, ii (a0.Items.length : Int)), (16, ii y16_1)] r' ∧ Sep ok w w' [.blk b9 25 (L21_0 A1 a0 cp2 A5 cp6), .blk b11 31 (L21_1 a1), .blk b13 67 L21_2, .blk b15 67 [.slice A1 a0.Items.length cp2, .slice A5 a0.Textures.length cp6, .slice A_row64_1 l_row64_1.length c_row64_1], .row (.slice A_row64_1 l_row64_1.length c_row64_1) 89 k_part.sz l_row64_1.length cs_row64_1] [RE.rd k_Item A1 cp2 a0.Items, RE.rd k_Texture A5 cp6 a0.Textures, RE.chunks k_part cs_row64_1 l_row64_1]) K ?_ ?_
 ·exact ⟨[], 0, none, 0, [], hm, ⟨rfl, rfl, rfl, rfl, rfl, rfl, rfl, trivial⟩, (H).nilRowK 89 k_part⟩
 rintro k1 r' w' ⟨l_row64_1, y16_1, A_row64_1, c_row64_1, cs_row64_1, hm, hA, H⟩
 obtain ⟨r18, rfl⟩ := regen _ hA; clear hA
 obtain ⟨w19, rfl⟩ := wld w'
 cases k1 with
 | zero => exact (none_some hm).elim
 | succ k1 =>
  have hm : m21_l1b K a0 a1 (m21_l1 K a0 a1 k1) l_row64_1 y16_1 = some res := hm
  unfold m21_l1b at hm
  obtain ⟨rec1, hrec1⟩ : ∃ f, m21_l1 K a0 a1 k1 = f := ⟨_, rfl⟩
  rw [hrec1] at hm
  refine Wr ?_
  refine RL_p (xL) ?_
  refine W_seq ?_
  refine Wc (fun hb => ?_) (fun hb => ?_)
  ·have hm := cond_t hb hm
   refine W_skip ?_
   refine W_seq ?_
   refine W_block ?_
   refine Wr ?_
   refine RL_p (xm (ii y16_1)) ?_
   obtain ⟨el20, h21, h22, he23, hm⟩ := idx_some hm
   obtain ⟨g25, o26, hA24⟩ := (H.rd (i := 0) (by rfl)).addr he23
   obtain ⟨cs27, hk28, hat29, hg_cs27⟩ := (H.rd (i := 0) (by rfl)).openAt hA24 he23
   obtain ⟨A32, cp33, A35, cp36, A38, cp39, rfl, hR41, hR42, hR43⟩ := hk28
   have H : Sep ok w w19 [.blk b9 25 (L21_0 A1 a0 cp2 A5 cp6), .blk b11 31 (L21_1 a1), .blk b13 67 L21_2, .blk b15 67 (L21_4 A1 a0 cp2 A5 cp6 A_row64_1 l_row64_1 c_row64_1), .row (.slice A_row64_1 l_row64_1.length c_row64_1) 89 k_part.sz l_row64_1.length cs_row64_1] [RE.rd k_Item A1 cp2 a0.Items, RE.rd k_Texture A5 cp6 a0.Textures, RE.chunks k_part cs_row64_1 l_row64_1, RE.cells g25 (o26 + (y16_1).toNat * 18) (L21_5 A32 el20 cp33 A35 cp36 A38 cp39)] := Sep.also H (re := RE.cells g25 (o26 + (y16_1).toNat * 18) (L21_5 A32 el20 cp33 A35 cp36 A38 cp39)) ⟨hg_cs27, hat29⟩
   have H : Sep ok w w19 [.blk b9 25 (L21_0 A1 a0 cp2 A5 cp6), .blk b11 31 (L21_1 a1), .blk b13 67 L21_2, .blk b15 67 (L21_4 A1 a0 cp2 A5 cp6 A_row64_1 l_row64_1 c_row64_1), .row (.slice A_row64_1 l_row64_1.length c_row64_1) 89 k_part.sz l_row64_1.length cs_row64_1] [RE.rd k_Item A1 cp2 a0.Items, RE.rd k_Texture A5 cp6 a0.Textures, RE.chunks k_part cs_row64_1 l_row64_1, RE.cells g25 (o26 + (y16_1).toNat * 18) (L21_5 A32 el20 cp33 A35 cp36 A38 cp39), RE.rd k_Vec A32 cp33 el20.Verts] := Sep.also H (re := RE.rd k_Vec A32 cp33 el20.Verts) hR41
   have H : Sep ok w w19 [.blk b9 25 (L21_0 A1 a0 cp2 A5 cp6), .blk b11 31 (L21_1 a1), .blk b13 67 L21_2, .blk b15 67 (L21_4 A1 a0 cp2 A5 cp6 A_row64_1 l_row64_1 c_row64_1), .row (.slice A_row64_1 l_row64_1.length c_row64_1) 89 k_part.sz l_row64_1.length cs_row64_1] [RE.rd k_Item A1 cp2 a0.Items, RE.rd k_Texture A5 cp6 a0.Textures, RE.chunks k_part cs_row64_1 l_row64_1, RE.cells g25 (o26 + (y16_1).toNat * 18) (L21_5 A32 el20 cp33 A35 cp36 A38 cp39), RE.rd k_Vec A32 cp33 el20.Verts, RE.rd k_Ar2_Int A35 cp36 el20.UV] := Sep.also H (re := RE.rd k_Ar2_Int A35 cp36 el20.UV) hR42
   have H : Sep ok w w19 [.blk b9 25 (L21_0 A1 a0 cp2 A5 cp6), .blk b11 31 (L21_1 a1), .blk b13 67 L21_2, .blk b15 67 (L21_4 A1 a0 cp2 A5 cp6 A_row64_1 l_row64_1 c_row64_1), .row (.slice A_row64_1 l_row64_1.length c_row64_1) 89 k_part.sz l_row64_1.length cs_row64_1] [RE.rd k_Item A1 cp2 a0.Items, RE.rd k_Texture A5 cp6 a0.Textures, RE.chunks k_part cs_row64_1 l_row64_1, RE.cells g25 (o26 + (y16_1).toNat * 18) (L21_5 A32 el20 cp33 A35 cp36 A38 cp39), RE.rd k_Vec A32 cp33 el20.Verts, RE.rd k_Ar2_Int A35 cp36 el20.UV, RE.rd k_Ar3_Int A38 cp39 el20.Tris] := Sep.also H (re := RE.rd k_Ar3_Int A38 cp39 el20.Tris) hR43
   refine RL_p (x_indexAddr sl22 sz52 (by rfl) (by rfl) hA24 h21 h22) ?_
   refine RL_p (xA 0 (L21_5 A32 el20 cp33 A35 cp36 A38 cp39) ag52 (H.cellsR (i := 3) (by rfl))) ?_
   refine RL_cons (OA ze52 H (fun w46 b45 (H : Sep ok w w46 [.blk b9 25 (L21_0 A1 a0 cp2 A5 cp6), .blk b11 31 (L21_1 a1), .blk b13 67 L21_2, .blk b15 67 (L21_4 A1 a0 cp2 A5 cp6 A_row64_1 l_row64_1 c_row64_1), .row (.slice A_row64_1 l_row64_1.length c_row64_1) 89 k_part.sz l_row64_1.length cs_row64_1, .blk b45 52 L21_6] [RE.rd k_Item A1 cp2 a0.Items, RE.rd k_Texture A5 cp6 a0.Textures, RE.chunks k_part cs_row64_1 l_row64_1, RE.cells g25 (o26 + (y16_1).toNat * 18) (L21_5 A32 el20 cp33 A35 cp36 A38 cp39), RE.rd k_Vec A32 cp33 el20.Verts, RE.rd k_Ar2_Int A35 cp36 el20.UV, RE.rd k_Ar3_Int A38 cp39 el20.Tris]) => ?_))
   refine RL_p (xa (ii y16_1)) ?_
   refine RL_cons (OS 5 0 (L21_5 A32 el20 cp33 A35 cp36 A38 cp39) sz52 H (fun w47 (H : Sep ok w w47 [.blk b9 25 (L21_0 A1 a0 cp2 A5 cp6), .blk b11 31 (L21_1 a1), .blk b13 67 L21_2, .blk b15 67 (L21_4 A1 a0 cp2 A5 cp6 A_row64_1 l_row64_1 c_row64_1), .row (.slice A_row64_1 l_row64_1.length c_row64_1) 89 k_part.sz l_row64_1.length cs_row64_1, .blk b45 52 (L21_5 A32 el20 cp33 A35 cp36 A38 cp39)] [RE.rd k_Item A1 cp2 a0.Items, RE.rd k_Texture A5 cp6 a0.Textures, RE.chunks k_part cs_row64_1 l_row64_1, RE.cells g25 (o26 + (y16_1).toNat * 18) (L21_5 A32 el20 cp33 A35 cp36 A38 cp39), RE.rd k_Vec A32 cp33 el20.Verts, RE.rd k_Ar2_Int A35 cp36 el20.UV, RE.rd k_Ar3_Int A38 cp39 el20.Tris]) => ?_))
   refine Wr ?_
   refine RL_p (xf fo52_2) ?_
   refine RL_p (xl 2 (.slice A38 el20.Tris.length cp39) sc44 (H.c 5)) ?_
   refine RL_p (x_len sl44 (by rfl)) ?_
   refine RL_p (xm (ii 0)) ?_
   refine W_block ?_
   refine W_loop (fun k2 r' w' => ∃ (l_row64_2 : (List S_part)), ∃ (y24_2 : Int), ∃ (A_row64_2 : Option Addr), ∃ (c_row64_2 : Nat), ∃ (cs_row64_2 : List Value), m21_l2 K a0 a1 y16_1 rec1 el20 k2 l_row64_2 y24_2 = some res ∧ Agr [(2, pp b9), (3, pp b11), (4, pp b13), (5, pp b15), (6, ii y16_1), (7, pp b45), (14, .slice A1 a0.Items.length cp2), (15, ii (a0.Items.length : Int)), (16, ii y16_1), (23, ii (el20.Tris.length : Int)), (24, ii y24_2)] r' ∧ Sep ok w w' [.blk b9 25 (L21_0 A1 a0 cp2 A5 cp6), .blk b11 31 (L21_1 a1), .blk b13 67 L21_2, .blk b15 67 [.slice A1 a0.Items.length cp2, .slice A5 a0.Textures.length cp6, .slice A_row64_2 l_row64_2.length c_row64_2], .row (.slice A_row64_2 l_row64_2.length c_row64_2) 89 k_part.sz l_row64_2.length cs_row64_2, .blk b45 52 (L21_5 A32 el20 cp33 A35 cp36 A38 cp39)] [RE.rd k_Item A1 cp2 a0.Items, RE.rd k_Texture A5 cp6 a0.Textures, RE.chunks k_part cs_row64_2 l_row64_2, RE.cells g25 (o26 + (y16_1).toNat * 18) (L21_5 A32 el20 cp33 A35 cp36 A38 cp39), RE.rd k_Vec A32 cp33 el20.Verts, RE.rd k_Ar2_Int A35 cp36 el20.UV, RE.rd k_Ar3_Int A38 cp39 el20.Tris]) K ?_ ?_
   ·exact ⟨l_row64_1, 0, A_row64_1, c_row64_1, cs_row64_1, hm, ⟨rfl, rfl, rfl, rfl, rfl, rfl, rfl, rfl, rfl, rfl, rfl, trivial⟩, H⟩
   rintro k2 r' w' ⟨l_row64_2, y24_2, A_row64_2, c_row64_2, cs_row64_2, hm, hA, H⟩
   obtain ⟨r48, rfl⟩ := regen _ hA; clear hA
   obtain ⟨w49, rfl⟩ := wld w'
   cases k2 with
   | zero => exact (none_some hm).elim
   | succ k2 =>
    have hm : m21_l2b K a0 a1 y16_1 rec1 el20 (m21_l2 K a0 a1 y16_1 rec1 el20 k2) l_row64_2 y24_2 = some res := hm
    unfold m21_l2b at hm
    obtain ⟨rec2, hrec2⟩ : ∃ f, m21_l2 K a0 a1 y16_1 rec1 el20 k2 = f := ⟨_, rfl⟩
    rw [hrec2] at hm
    refine Wr ?_
    refine RL_p (xL) ?_
    refine W_seq ?_
    refine Wc (fun hb => ?_) (fun hb => ?_)
    ·have hm := cond_t hb hm
     refine W_skip ?_
     refine W_seq ?_
     refine W_block ?_
     refine Wr ?_
     refine RL_p (xm (ii y24_2)) ?_
     refine RL_p (xa (ii y24_2)) ?_
     refine Wr ?_
     refine RL_p (xA 0 (L21_0 A1 a0 cp2 A5 cp6) ag25 (H.c 0)) ?_
     refine RL_p (xA 0 (L21_1 a1) ag31 (H.c 1)) ?_
     refine RL_p (xm (ii y16_1)) ?_
     refine RL_p (xm (ii y24_2)) ?_
     obtain ⟨v51, hv50, hm⟩ := bind_some hm
     refine RL_cons (OC (xc [.agg (L21_0 A1 a0 cp2 A5 cp6).toArray, .agg (L21_1 a1).toArray, ii y16_1, ii y24_2] (cf33 _ _)) (c33 (okS ok w [.blk b9 25 (L21_0 A1 a0 cp2 A5 cp6), .blk b11 31 (L21_1 a1), .blk b13 67 L21_2, .blk b15 67 (L21_4 A1 a0 cp2 A5 cp6 A_row64_2 l_row64_2 c_row64_2), .row (.slice A_row64_2 l_row64_2.length c_row64_2) 89 k_part.sz l_row64_2.length cs_row64_2, .blk b45 52 (L21_5 A32 el20 cp33 A35 cp36 A38 cp39)]) K w49 a0 A1 cp2 A5 cp6 a1 y16_1 y24_2 (H.rd (i := 0) (by rfl)) (H.rd (i := 1) (by rfl)) v51 hv50) ?_)
     rintro e w52 ⟨A53, cp54, rfl, H2⟩
     have H : Sep ok w w52 [.blk b9 25 (L21_0 A1 a0 cp2 A5 cp6), .blk b11 31 (L21_1 a1), .blk b13 67 L21_2, .blk b15 67 (L21_4 A1 a0 cp2 A5 cp6 A_row64_2 l_row64_2 c_row64_2), .row (.slice A_row64_2 l_row64_2.length c_row64_2) 89 k_part.sz l_row64_2.length cs_row64_2, .blk b45 52 (L21_5 A32 el20 cp33 A35 cp36 A38 cp39)] [RE.rd k_Item A1 cp2 a0.Items, RE.rd k_Texture A5 cp6 a0.Textures, RE.chunks k_part cs_row64_2 l_row64_2, RE.cells g25 (o26 + (y16_1).toNat * 18) (L21_5 A32 el20 cp33 A35 cp36 A38 cp39), RE.rd k_Vec A32 cp33 el20.Verts, RE.rd k_Ar2_Int A35 cp36 el20.UV, RE.rd k_Ar3_Int A38 cp39 el20.Tris, RE.rd k_Ar3_S_Spot A53 cp54 v51] := H.call H2
     clear H2
     refine ⟨_, rfl, ?_⟩
     refine RL_p (x_len sl101 (by rfl)) ?_
     refine RL_p (xm (ii 0)) ?_
     refine W_block ?_
     refine W_loop (fun k3 r' w' => ∃ (l_row64_3 : (List S_part)), ∃ (y33_3 : Int), ∃ (A_row64_3 : Option Addr), ∃ (c_row64_3 : Nat), ∃ (cs_row64_3 : List Value), m21_l3 K y16_1 el20 y24_2 rec2 v51 k3 l_row64_3 y33_3 = some res ∧ Agr [(2, pp b9), (3, pp b11), (4, pp b13), (5, pp b15), (6, ii y16_1), (7, pp b45), (8, ii y24_2), (14, .slice A1 a0.Items.length cp2), (15, ii (a0.Items.length : Int)), (16, ii y16_1), (23, ii (el20.Tris.length : Int)), (24, ii y24_2), (31, .slice A53 v51.length cp54), (32, ii (v51.length : Int)), (33, ii y33_3)] r' ∧ Sep ok w w' [.blk b9 25 (L21_0 A1 a0 cp2 A5 cp6), .blk b11 31 (L21_1 a1), .blk b13 67 L21_2, .blk b15 67 [.slice A1 a0.Items.length cp2, .slice A5 a0.Textures.length cp6, .slice A_row64_3 l_row64_3.length c_row64_3], .row (.slice A_row64_3 l_row64_3.length c_row64_3) 89 k_part.sz l_row64_3.length cs_row64_3, .blk b45 52 (L21_5 A32 el20 cp33 A35 cp36 A38 cp39)] [RE.rd k_Item A1 cp2 a0.Items, RE.rd k_Texture A5 cp6 a0.Textures, RE.chunks k_part cs_row64_3 l_row64_3, RE.cells g25 (o26 + (y16_1).toNat * 18) (L21_5 A32 el20 cp33 A35 cp36 A38 cp39), RE.rd k_Vec A32 cp33 el20.Verts, RE.rd k_Ar2_Int A35 cp36 el20.UV, RE.rd k_Ar3_Int A38 cp39 el20.Tris, RE.rd k_Ar3_S_Spot A53 cp54 v51]) K ?_ ?_
     ·exact ⟨l_row64_2, 0, A_row64_2, c_row64_2, cs_row64_2, hm, ⟨rfl, rfl, rfl, rfl, rfl, rfl, rfl, rfl, rfl, rfl, rfl, rfl, rfl, rfl, rfl, trivial⟩, H⟩
     rintro k3 r' w' ⟨l_row64_3, y33_3, A_row64_3, c_row64_3, cs_row64_3, hm, hA, H⟩
     obtain ⟨r56, rfl⟩ := regen _ hA; clear hA
     obtain ⟨w57, rfl⟩ := wld w'
     cases k3 with
     | zero => exact (none_some hm).elim
     | succ k3 =>
      have hm : m21_l3b K y16_1 el20 y24_2 rec2 v51 (m21_l3 K y16_1 el20 y24_2 rec2 v51 k3) l_row64_3 y33_3 = some res := hm
      unfold m21_l3b at hm
      obtain ⟨rec3, hrec3⟩ : ∃ f, m21_l3 K y16_1 el20 y24_2 rec2 v51 k3 = f := ⟨_, rfl⟩
      rw [hrec3] at hm
      refine Wr ?_
      refine RL_p (xL) ?_
      refine W_seq ?_
      refine Wc (fun hb => ?_) (fun hb => ?_)
      ·have hm := cond_t hb hm
       refine W_skip ?_
       refine W_seq ?_
       refine W_block ?_
       refine Wr ?_
       refine RL_p (xm (ii y33_3)) ?_
       obtain ⟨el58, h59, h60, he61, hm⟩ := idx_some hm
       obtain ⟨g63, o64, hA62⟩ := (H.rd (i := 7) (by rfl)).addr he61
       refine RL_p (x_indexAddr sl101 sz87 (by rfl) (by rfl) hA62 h59 h60) ?_
       refine RL_p (xA 0 (L21_7 el58) ag87 (Rd.flatAt (n := 15) (H.rd (i := 7) (by rfl)) hA62 he61)) ?_
       refine RL_cons (OA ze87 H (fun w66 b65 (H : Sep ok w w66 [.blk b9 25 (L21_0 A1 a0 cp2 A5 cp6), .blk b11 31 (L21_1 a1), .blk b13 67 L21_2, .blk b15 67 (L21_4 A1 a0 cp2 A5 cp6 A_row64_3 l_row64_3 c_row64_3), .row (.slice A_row64_3 l_row64_3.length c_row64_3) 89 k_part.sz l_row64_3.length cs_row64_3, .blk b45 52 (L21_5 A32 el20 cp33 A35 cp36 A38 cp39), .blk b65 87 L21_8] [RE.rd k_Item A1 cp2 a0.Items, RE.rd k_Texture A5 cp6 a0.Textures, RE.chunks k_part cs_row64_3 l_row64_3, RE.cells g25 (o26 + (y16_1).toNat * 18) (L21_5 A32 el20 cp33 A35 cp36 A38 cp39), RE.rd k_Vec A32 cp33 el20.Verts, RE.rd k_Ar2_Int A35 cp36 el20.UV, RE.rd k_Ar3_Int A38 cp39 el20.Tris, RE.rd k_Ar3_S_Spot A53 cp54 v51]) => ?_))
       refine RL_p (xa (ii y33_3)) ?_
       refine RL_cons (OS 6 0 (L21_7 el58) sz87 H (fun w67 (H : Sep ok w w67 [.blk b9 25 (L21_0 A1 a0 cp2 A5 cp6), .blk b11 31 (L21_1 a1), .blk b13 67 L21_2, .blk b15 67 (L21_4 A1 a0 cp2 A5 cp6 A_row64_3 l_row64_3 c_row64_3), .row (.slice A_row64_3 l_row64_3.length c_row64_3) 89 k_part.sz l_row64_3.length cs_row64_3, .blk b45 52 (L21_5 A32 el20 cp33 A35 cp36 A38 cp39), .blk b65 87 (L21_7 el58)] [RE.rd k_Item A1 cp2 a0.Items, RE.rd k_Texture A5 cp6 a0.Textures, RE.chunks k_part cs_row64_3 l_row64_3, RE.cells g25 (o26 + (y16_1).toNat * 18) (L21_5 A32 el20 cp33 A35 cp36 A38 cp39), RE.rd k_Vec A32 cp33 el20.Verts, RE.rd k_Ar2_Int A35 cp36 el20.UV, RE.rd k_Ar3_Int A38 cp39 el20.Tris, RE.rd k_Ar3_S_Spot A53 cp54 v51]) => ?_))
       refine W_region ?_
       refine RL_p (xf fo67_1) ?_
       refine RL_p (xl 2 (.slice A_row64_3 l_row64_3.length c_row64_3) sc65 (H.c 3)) ?_
       refine RL_p (xA 0 (L21_7 el58) ag87 (H.c 6)) ?_
       refine RL_p (xf fo52_3) ?_
       refine RL_p (xf fo48_3) ?_
       refine RL_p (xl 9 (ii el20.Look.Bias) sc3 (H.c 5)) ?_
       refine RL_p (xm (ii y16_1)) ?_
       refine RL_p (xm (ii y24_2)) ?_
       refine RL_p (xm (ii y33_3)) ?_
       refine RL_p (x_build (vs := [(0, ii el20.Look.Bias), (1, ii y16_1), (2, ii y24_2), (3, ii y33_3)]) (cs := (L21_9 el20 y16_1 y24_2 y33_3)) (by rfl) (by kernel_rfl)) ?_
       refine RL_p (x_build (vs := [(0, .agg (L21_7 el58).toArray), (1, .agg (L21_9 el20 y16_1 y24_2 y33_3).toArray)]) (cs := (L21_10 el58 el20 y16_1 y24_2 y33_3)) (by rfl) (by kernel_rfl)) ?_
       refine RL_cons (O_buildSlice (vs := [(0, .agg (L21_10 el58 el20 y16_1 y24_2 y33_3).toArray)]) (cs := [ii el58.a0.X, ii el58.a0.Y, ii el58.a0.D, ii el58.a0.U, ii el58.a0.V, ii el58.a1.X, ii el58.a1.Y, ii el58.a1.D, ii el58.a1.U, ii el58.a1.V, ii el58.a2.X, ii el58.a2.Y, ii el58.a2.D, ii el58.a2.U, ii el58.a2.V, ii el20.Look.Bias, ii y16_1, ii y24_2, ii y33_3, ii 0, ii 0]) (by exact wn0 rfl) (by rfl) sl65 sz89 ze89 (by rfl) (by rfl) (by rfl) (by kernel_rfl) H (fun w69 b68 (H : Sep ok w w69 [.blk b9 25 (L21_0 A1 a0 cp2 A5 cp6), .blk b11 31 (L21_1 a1), .blk b13 67 L21_2, .blk b15 67 (L21_4 A1 a0 cp2 A5 cp6 A_row64_3 l_row64_3 c_row64_3), .row (.slice A_row64_3 l_row64_3.length c_row64_3) 89 k_part.sz l_row64_3.length cs_row64_3, .blk b45 52 (L21_5 A32 el20 cp33 A35 cp36 A38 cp39), .blk b65 87 (L21_7 el58), .blk b68 89 (L21_10 el58 el20 y16_1 y24_2 y33_3)] [RE.rd k_Item A1 cp2 a0.Items, RE.rd k_Texture A5 cp6 a0.Textures, RE.chunks k_part cs_row64_3 l_row64_3, RE.cells g25 (o26 + (y16_1).toNat * 18) (L21_5 A32 el20 cp33 A35 cp36 A38 cp39), RE.rd k_Vec A32 cp33 el20.Verts, RE.rd k_Ar2_Int A35 cp36 el20.UV, RE.rd k_Ar3_Int A38 cp39 el20.Tris, RE.rd k_Ar3_S_Spot A53 cp54 v51]) => ?_))
       obtain ⟨l74, hl75, hb76, hm⟩ := apd_some hm
       refine RL_cons (O_append (D := k_part) (i := 4) (j := 2) (o := 0) (y := (⟨el58, (⟨el20.Look.Bias, y16_1, y24_2, y33_3, 0, 0⟩ : S_Frag)⟩ : S_part)) (by exact wn0 rfl) (by rfl) (by rfl) (by rfl) H (by rfl) (by rfl) (H.c 7) rfl hl75 sl65 sz89 by89 ze89 (by rfl) (by rfl) hb76 (by rfl) (fun w70 A71 cp72 cs73 (H : Sep ok w w70 [.blk b9 25 (L21_0 A1 a0 cp2 A5 cp6), .blk b11 31 (L21_1 a1), .blk b13 67 L21_2, .blk b15 67 (L21_4 A1 a0 cp2 A5 cp6 A_row64_3 l_row64_3 c_row64_3), .row (.slice A71 l74.length cp72) 89 k_part.sz l74.length cs73, .blk b45 52 (L21_5 A32 el20 cp33 A35 cp36 A38 cp39), .blk b65 87 (L21_7 el58), .blk b68 89 (L21_10 el58 el20 y16_1 y24_2 y33_3)] [RE.rd k_Item A1 cp2 a0.Items, RE.rd k_Texture A5 cp6 a0.Textures, RE.chunks k_part cs73 l74, RE.cells g25 (o26 + (y16_1).toNat * 18) (L21_5 A32 el20 cp33 A35 cp36 A38 cp39), RE.rd k_Vec A32 cp33 el20.Verts, RE.rd k_Ar2_Int A35 cp36 el20.UV, RE.rd k_Ar3_Int A38 cp39 el20.Tris, RE.rd k_Ar3_S_Spot A53 cp54 v51]) => ?_))
       refine RL_p (xf fo67_1) ?_
       refine RL_cons (OS 3 2 [.slice A71 l74.length cp72] sz65 H (fun w77 (H : Sep ok w w77 [.blk b9 25 (L21_0 A1 a0 cp2 A5 cp6), .blk b11 31 (L21_1 a1), .blk b13 67 L21_2, .blk b15 67 (L21_4 A1 a0 cp2 A5 cp6 A71 l74 cp72), .row (.slice A71 l74.length cp72) 89 k_part.sz l74.length cs73, .blk b45 52 (L21_5 A32 el20 cp33 A35 cp36 A38 cp39), .blk b65 87 (L21_7 el58), .blk b68 89 (L21_10 el58 el20 y16_1 y24_2 y33_3)] [RE.rd k_Item A1 cp2 a0.Items, RE.rd k_Texture A5 cp6 a0.Textures, RE.chunks k_part cs73 l74, RE.cells g25 (o26 + (y16_1).toNat * 18) (L21_5 A32 el20 cp33 A35 cp36 A38 cp39), RE.rd k_Vec A32 cp33 el20.Verts, RE.rd k_Ar2_Int A35 cp36 el20.UV, RE.rd k_Ar3_Int A38 cp39 el20.Tris, RE.rd k_Ar3_S_Spot A53 cp54 v51]) => ?_))
       refine RL_nil ?_
       have H : Sep ok w w77 [.blk b9 25 (L21_0 A1 a0 cp2 A5 cp6), .blk b11 31 (L21_1 a1), .blk b13 67 L21_2, .blk b15 67 (L21_4 A1 a0 cp2 A5 cp6 A71 l74 cp72), .row (.slice A71 l74.length cp72) 89 k_part.sz l74.length cs73, .blk b45 52 (L21_5 A32 el20 cp33 A35 cp36 A38 cp39)] [RE.rd k_Item A1 cp2 a0.Items, RE.rd k_Texture A5 cp6 a0.Textures, RE.chunks k_part cs73 l74, RE.cells g25 (o26 + (y16_1).toNat * 18) (L21_5 A32 el20 cp33 A35 cp36 A38 cp39), RE.rd k_Vec A32 cp33 el20.Verts, RE.rd k_Ar2_Int A35 cp36 el20.UV, RE.rd k_Ar3_Int A38 cp39 el20.Tris, RE.rd k_Ar3_S_Spot A53 cp54 v51] := (H.takeL 6)
       refine W_region ?_
       obtain ⟨x78, ex78, qx78, ux78, hm⟩ := ck_some hm
       refine RL_p (xP ux78) ?_
       refine RL_p (xm (ii x78)) ?_
       refine RL_nil ?_
       subst hrec3
       exact ⟨k3, Nat.lt_succ_self k3, l74, x78, A71, cp72, cs73, hm, ⟨rfl, rfl, rfl, rfl, rfl, rfl, rfl, rfl, rfl, rfl, rfl, rfl, rfl, rfl, rfl, trivial⟩, H⟩
      have hm := cond_f hb hm
      refine W_exit ?_
      refine W_region ?_
      obtain ⟨x79, ex79, qx79, ux79, hm⟩ := ck_some hm
      refine RL_p (xP ux79) ?_
      refine RL_p (xm (ii x79)) ?_
      refine RL_nil ?_
      subst hrec2
      exact ⟨k2, Nat.lt_succ_self k2, l_row64_3, x79, A_row64_3, c_row64_3, cs_row64_3, hm, ⟨rfl, rfl, rfl, rfl, rfl, rfl, rfl, rfl, rfl, rfl, rfl, trivial⟩, (H).pick [0, 1, 2, 3, 4, 5, 6]⟩
    have hm := cond_f hb hm
    refine W_exit ?_
    have H : Sep ok w w49 [.blk b9 25 (L21_0 A1 a0 cp2 A5 cp6), .blk b11 31 (L21_1 a1), .blk b13 67 L21_2, .blk b15 67 (L21_4 A1 a0 cp2 A5 cp6 A_row64_2 l_row64_2 c_row64_2), .row (.slice A_row64_2 l_row64_2.length c_row64_2) 89 k_part.sz l_row64_2.length cs_row64_2] [RE.rd k_Item A1 cp2 a0.Items, RE.rd k_Texture A5 cp6 a0.Textures, RE.chunks k_part cs_row64_2 l_row64_2] := ((H.takeL 5).pick [0, 1, 2])
    refine W_region ?_
    obtain ⟨x80, ex80, qx80, ux80, hm⟩ := ck_some hm
    refine RL_p (xP ux80) ?_
    refine RL_p (xm (ii x80)) ?_
    refine RL_nil ?_
    subst hrec1
    exact ⟨k1, Nat.lt_succ_self k1, l_row64_2, x80, A_row64_2, c_row64_2, cs_row64_2, hm, ⟨rfl, rfl, rfl, rfl, rfl, rfl, rfl, trivial⟩, H⟩
  have hm := cond_f hb hm
  refine W_exit ?_
  refine Wr ?_
  refine RL_p (xA 0 (L21_4 A1 a0 cp2 A5 cp6 A_row64_1 l_row64_1 c_row64_1) ag67 (H.c 3)) ?_
  refine RL_cons (OS 2 0 (L21_4 A1 a0 cp2 A5 cp6 A_row64_1 l_row64_1 c_row64_1) sz67 H (fun w81 (H : Sep ok w w81 [.blk b9 25 (L21_0 A1 a0 cp2 A5 cp6), .blk b11 31 (L21_1 a1), .blk b13 67 (L21_4 A1 a0 cp2 A5 cp6 A_row64_1 l_row64_1 c_row64_1), .blk b15 67 (L21_4 A1 a0 cp2 A5 cp6 A_row64_1 l_row64_1 c_row64_1), .row (.slice A_row64_1 l_row64_1.length c_row64_1) 89 k_part.sz l_row64_1.length cs_row64_1] [RE.rd k_Item A1 cp2 a0.Items, RE.rd k_Texture A5 cp6 a0.Textures, RE.chunks k_part cs_row64_1 l_row64_1]) => ?_))
  refine W_ret ?_
  have H : Sep ok w w81 [.blk b9 25 (L21_0 A1 a0 cp2 A5 cp6), .blk b11 31 (L21_1 a1), .blk b13 67 (L21_4 A1 a0 cp2 A5 cp6 A_row64_1 l_row64_1 c_row64_1), .blk b15 67 (L21_4 A1 a0 cp2 A5 cp6 A_row64_1 l_row64_1 c_row64_1), .hole] [RE.rd k_Item A1 cp2 a0.Items, RE.rd k_Texture A5 cp6 a0.Textures, RE.rd k_part A_row64_1 c_row64_1 l_row64_1] := H.frozen (i := 4) (j := 2) (by rfl) (by rfl)
  obtain rfl := Option.some.inj hm
  exact ⟨[.agg (L21_4 A1 a0 cp2 A5 cp6 A_row64_1 l_row64_1 c_row64_1).toArray], (.cellA (by rfl) ag67 (H.c 2) (by rfl) rfl), A1, cp2, A5, cp6, A_row64_1, c_row64_1, rfl, (H.forgetAll).pick [0, 1, 2]⟩
end Go.Proofs.YtobkigllalbkiaaV.D

/- A plain Lean function that answers as the Go function does (none: not told), and the proof that a call answers so. Written by program. -/
set_option linter.unusedVariables false
set_option maxRecDepth 100000
set_option maxHeartbeats 4000000
namespace Go.Proofs.YtobkigllalbkiaaV.D
open Go.RowKit Go.Proofs.YtobkigllalbkiaaV
abbrev L11_0 (q0 : Option Addr) (q1 : S_Show) (q2 : Nat) (q3 : Option Addr) (q4 : Nat) : List Value := [.slice q0 q1.Items.length q2, .slice q3 q1.Textures.length q4]
abbrev L11_1 (q0 : S_Camera) : List Value := [ii q0.Pos.X, ii q0.Pos.Y, ii q0.Pos.Z, ii q0.M.a0.a0, ii q0.M.a0.a1, ii q0.M.a0.a2, ii q0.M.a1.a0, ii q0.M.a1.a1, ii q0.M.a1.a2, ii q0.M.a2.a0, ii q0.M.a2.a1, ii q0.M.a2.a2, ii q0.Focal, ii q0.Near, ii q0.W, ii q0.H]
abbrev L11_2  : List Value := [.slice none 0 0, .slice none 0 0, .slice none 0 0]
abbrev L11_3 (q0 : Option Addr) (q1 : S_scene) (q2 : Nat) (q3 : Option Addr) (q4 : Nat) (q5 : Option Addr) (q6 : Nat) : List Value := [.slice q0 q1.Show.Items.length q2, .slice q3 q1.Show.Textures.length q4, .slice q5 q1.parts.length q6]
def m11 (K : Nat) (a0 : S_Show) (a1 : S_Camera) (a2 : Int) (a3 : Int) : Option (S_scene × Int) :=
 ((m20 K a0 a1).bind fun v16 => (bif (v16 != 0) then some ((⟨(⟨[], []⟩ : S_Show), []⟩ : S_scene), v16) else ((bif (decide (a2 < 0)) then some true else some (decide (a1.W ≤ a2))).bind fun b22 => ((bif b22 then some true else some (decide (a3 < 0))).bind fun b25 => ((bif b25 then some true else some (decide (a1.H ≤ a3))).bind fun b28 => (bif b28 then some ((⟨(⟨[], []⟩ : S_Show), []⟩ : S_scene), 2) else ((m21 K a0 a1).bind fun v36 => some (v36, 0))))))))
abbrev S11_0 (q0 : Okp) (q1 q2 : World) (q3 : Nat) (q4 : Option Addr) (q5 : S_Show) (q6 : Nat) (q7 : Option Addr) (q8 q9 : Nat) (q10 : S_Camera) (q11 : Nat) : Prop := Sep q0 q1 q2 [.blk q3 25 (L11_0 q4 q5 q6 q7 q8), .blk q9 31 (L11_1 q10), .blk q11 67 L11_2] [RE.rd k_Item q4 q6 q5.Items, RE.rd k_Texture q7 q8 q5.Textures]
theorem c11 (ok : Okp) (K : Nat) (w : World) (a0 : S_Show) (A1 : Option Addr) (cp2 : Nat) (A5 : Option Addr) (cp6 : Nat) (a1 : S_Camera) (a2 : Int) (a3 : Int) (hR3 : Rd k_Item w ok A1 cp2 a0.Items) (hR7 : Rd k_Texture w ok A5 cp6 a0.Textures) (res : S_scene × Int) (hm : m11 K a0 a1 a2 a3 = some res) :
  Calls Tryd.prog 11 #[.agg (L11_0 A1 a0 cp2 A5 cp6).toArray, .agg (L11_1 a1).toArray, ii a2, ii a3] w (fun e w' => ∃ (A0_ : Option Addr) (c0_ : Nat), ∃ (A1_ : Option Addr) (c1_ : Nat), ∃ (A2_ : Option Addr) (c2_ : Nat), e = .returned (tup [.agg #[.slice A0_ res.1.Show.Items.length c0_, .slice A1_ res.1.Show.Textures.length c1_, .slice A2_ res.1.parts.length c2_], ii res.2]) ∧ Sep ok w w' [] [RE.rd k_Item A0_ c0_ res.1.Show.Items, RE.rd k_Texture A1_ c1_ res.1.Show.Textures, RE.rd k_part A2_ c2_ res.1.parts]) := by
 refine calls_W (args := [.agg (L11_0 A1 a0 cp2 A5 cp6).toArray, .agg (L11_1 a1).toArray, ii a2, ii a3]) Tryd.func11 rfl Tryd.ntmps11 Tryd.results11 rfl fun r hr => ?_
 obtain ⟨r1, rfl⟩ := regen (r := r) [(0, .agg (L11_0 A1 a0 cp2 A5 cp6).toArray), (1, .agg (L11_1 a1).toArray), (2, ii a2), (3, ii a3)] ⟨hr 0 _ rfl, hr 1 _ rfl, hr 2 _ rfl, hr 3 _ rfl, trivial⟩
 have H : Sep ok w w [] [RE.rd k_Item A1 cp2 a0.Items, RE.rd k_Texture A5 cp6 a0.Textures] := Sep.arg (Sep.arg (Sep.start ok w) (re := RE.rd k_Item A1 cp2 a0.Items) rfl rfl hR3) (re := RE.rd k_Texture A5 cp6 a0.Textures) rfl rfl hR7
 unfold m11 at hm
 refine Wr ?_
 refine RL_cons (OB H (fun w10 b9 (H : Sep ok w w10 [.blk b9 25 (L11_0 A1 a0 cp2 A5 cp6)] [RE.rd k_Item A1 cp2 a0.Items, RE.rd k_Texture A5 cp6 a0.Textures]) => ?_))
 refine RL_cons (OB H (fun w12 b11 (H : Sep ok w w12 [.blk b9 25 (L11_0 A1 a0 cp2 A5 cp6), .blk b11 31 (L11_1 a1)] [RE.rd k_Item A1 cp2 a0.Items, RE.rd k_Texture A5 cp6 a0.Textures]) => ?_))
 refine RL_cons (OA ze67 H (fun w14 b13 (H : S11_0 ok w w14 b9 A1 a0 cp2 A5 cp6 b11 a1 b13) => ?_))
 refine RL_p (xa (ii 0)) ?_
 refine W_seq ?_
 refine Wr ?_
 refine RL_p (xA 0 (L11_0 A1 a0 cp2 A5 cp6) ag25 (H.c 0)) ?_
 refine RL_p (xA 0 (L11_1 a1) ag31 (H.c 1)) ?_
 obtain ⟨v16, hv15, hm⟩ := bind_some hm
 refine RL_cons (OC (xc [.agg (L11_0 A1 a0 cp2 A5 cp6).toArray, .agg (L11_1 a1).toArray] (cf20 _ _)) (c20 okT K w14 a0 A1 cp2 A5 cp6 a1 (H.rd (i := 0) (by rfl)).any (H.rd (i := 1) (by rfl)).any v16 hv15) ?_)
 rintro e w17 ⟨rfl, H2⟩
 have H : S11_0 ok w w17 b9 A1 a0 cp2 A5 cp6 b11 a1 b13 := H.below H2.base
 clear H2
 refine ⟨_, rfl, ?_⟩
 refine RL_p (xa (ii v16)) ?_
 refine Wr ?_
 refine RL_p (xm (ii v16)) ?_
 refine RL_p (xN) ?_
 refine Wc (fun hb => ?_) (fun hb => ?_)
 ·have hm := cond_t hb hm
  refine W_seq ?_
  have H : Sep ok w w17 [.blk b13 67 L11_2] [] := ((H.pickL [2] (by decide)).pick [])
  refine W_region ?_
  refine RL_p (x_build (vs := []) (cs := L11_2) (by rfl) (by kernel_rfl)) ?_
  refine RL_p (xm (ii v16)) ?_
  refine RL_cons (OS 0 0 L11_2 sz67 H (fun w18 (H : Sep ok w w18 [.blk b13 67 L11_2] []) => ?_))
  refine RL_p (xa (ii v16)) ?_
  refine W_ret ?_
  have H : Sep ok w w18 [.blk b13 67 L11_2] [RE.rd k_Item none 0 ([])] := Sep.also H (re := RE.rd k_Item none 0 ([])) (Rd.nil (by decide))
  have H : Sep ok w w18 [.blk b13 67 L11_2] [RE.rd k_Item none 0 ([]), RE.rd k_Texture none 0 ([])] := Sep.also H (re := RE.rd k_Texture none 0 ([])) (Rd.nil (by decide))
  have H : Sep ok w w18 [.blk b13 67 L11_2] [RE.rd k_Item none 0 ([]), RE.rd k_Texture none 0 ([]), RE.rd k_part none 0 ([])] := Sep.also H (re := RE.rd k_part none 0 ([])) (Rd.nil (by decide))
  obtain rfl := Option.some.inj hm
  exact ⟨[.agg L11_2.toArray, ii v16], (.cellA (by rfl) ag67 (H.c 0) (by rfl) (.tmp (by rfl) rfl)), none, 0, none, 0, none, 0, rfl, (H.forgetAll).pick [0, 1, 2]⟩
 have hm := cond_f hb hm
 refine W_skip ?_
 refine W_seq ?_
 refine Wr ?_
 refine RL_p (xm (ii a2)) ?_
 refine RL_p (xL) ?_
 refine RL_p (xm (.bool (decide (a2 < 0)))) ?_
 obtain ⟨b22, hmS, hm⟩ := bind_some hm
 refine RL_cut 5 (fun r' w' => Agr [(25, .bool b22), (3, ii a3), (4, pp b9), (5, pp b11), (8, pp b13)] r' ∧ S11_0 ok w w' b9 A1 a0 cp2 A5 cp6 b11 a1 b13) ?_ ?_
 ·cases hbS : (decide (a2 < 0))
  ·have hm := cond_f hbS hmS
   refine RQ (xm (ii a2)) ?_
   refine RQ (xf fo31_4) ?_
   refine RQ (xl 14 (ii a1.W) sc3 (H.c 1)) ?_
   refine RQ (x_geq (by rfl) (by rfl)) ?_
   refine RL_p (xF (.bool (decide (a1.W ≤ a2)))) ?_
   refine RL_nil ?_
   exact ⟨⟨congrArg Value.bool (Option.some.inj hm), rfl, rfl, rfl, rfl, trivial⟩, H⟩
  have hm := cond_t hbS hmS
  refine RO ?_
  refine RO ?_
  refine RO ?_
  refine RO ?_
  refine RL_p (xT (.bool true)) ?_
  refine RL_nil ?_
  exact ⟨⟨congrArg Value.bool (Option.some.inj hm), rfl, rfl, rfl, rfl, trivial⟩, H⟩
 rintro r' w' ⟨hA, H⟩
 obtain ⟨r23, rfl⟩ := regen _ hA; clear hA
 obtain ⟨w24, rfl⟩ := wld w'
 refine RL_p (xm (.bool b22)) ?_
 obtain ⟨b25, hmS, hm⟩ := bind_some hm
 refine RL_cut 3 (fun r' w' => Agr [(29, .bool b25), (3, ii a3), (4, pp b9), (5, pp b11), (8, pp b13)] r' ∧ S11_0 ok w w' b9 A1 a0 cp2 A5 cp6 b11 a1 b13) ?_ ?_
 ·cases hbS : b22
  ·have hm := cond_f hbS hmS
   refine RQ (xm (ii a3)) ?_
   refine RQ (xL) ?_
   refine RL_p (xF (.bool (decide (a3 < 0)))) ?_
   refine RL_nil ?_
   exact ⟨⟨congrArg Value.bool (Option.some.inj hm), rfl, rfl, rfl, rfl, trivial⟩, H⟩
  have hm := cond_t hbS hmS
  refine RO ?_
  refine RO ?_
  refine RL_p (xT (.bool true)) ?_
  refine RL_nil ?_
  exact ⟨⟨congrArg Value.bool (Option.some.inj hm), rfl, rfl, rfl, rfl, trivial⟩, H⟩
 rintro r' w' ⟨hA, H⟩
 obtain ⟨r26, rfl⟩ := regen _ hA; clear hA
 obtain ⟨w27, rfl⟩ := wld w'
 refine RL_p (xm (.bool b25)) ?_
 obtain ⟨b28, hmS, hm⟩ := bind_some hm
 refine RL_cut 5 (fun r' w' => Agr [(35, .bool b28), (4, pp b9), (5, pp b11), (8, pp b13)] r' ∧ S11_0 ok w w' b9 A1 a0 cp2 A5 cp6 b11 a1 b13) ?_ ?_
 ·cases hbS : b25
  ·have hm := cond_f hbS hmS
   refine RQ (xm (ii a3)) ?_
   refine RQ (xf fo31_5) ?_
   refine RQ (xl 15 (ii a1.H) sc3 (H.c 1)) ?_
   refine RQ (x_geq (by rfl) (by rfl)) ?_
   refine RL_p (xF (.bool (decide (a1.H ≤ a3)))) ?_
   refine RL_nil ?_
   exact ⟨⟨congrArg Value.bool (Option.some.inj hm), rfl, rfl, rfl, trivial⟩, H⟩
  have hm := cond_t hbS hmS
  refine RO ?_
  refine RO ?_
  refine RO ?_
  refine RO ?_
  refine RL_p (xT (.bool true)) ?_
  refine RL_nil ?_
  exact ⟨⟨congrArg Value.bool (Option.some.inj hm), rfl, rfl, rfl, trivial⟩, H⟩
 rintro r' w' ⟨hA, H⟩
 obtain ⟨r29, rfl⟩ := regen _ hA; clear hA
 obtain ⟨w30, rfl⟩ := wld w'
 show RL _ _ _ _ _ _ _
 refine Wc (fun hb => ?_) (fun hb => ?_)
 ·have hm := cond_t hb hm
  refine W_seq ?_
  have H : Sep ok w w30 [.blk b13 67 L11_2] [] := ((H.pickL [2] (by decide)).pick [])
  refine W_region ?_
  refine RL_p (x_build (vs := []) (cs := L11_2) (by rfl) (by kernel_rfl)) ?_
  refine RL_cons (OS 0 0 L11_2 sz67 H (fun w31 (H : Sep ok w w31 [.blk b13 67 L11_2] []) => ?_))
  refine RL_p (xa (ii 2)) ?_
  refine W_ret ?_
  have H : Sep ok w w31 [.blk b13 67 L11_2] [RE.rd k_Item none 0 ([])] := Sep.also H (re := RE.rd k_Item none 0 ([])) (Rd.nil (by decide))
  have H : Sep ok w w31 [.blk b13 67 L11_2] [RE.rd k_Item none 0 ([]), RE.rd k_Texture none 0 ([])] := Sep.also H (re := RE.rd k_Texture none 0 ([])) (Rd.nil (by decide))
  have H : Sep ok w w31 [.blk b13 67 L11_2] [RE.rd k_Item none 0 ([]), RE.rd k_Texture none 0 ([]), RE.rd k_part none 0 ([])] := Sep.also H (re := RE.rd k_part none 0 ([])) (Rd.nil (by decide))
  obtain rfl := Option.some.inj hm
  exact ⟨[.agg L11_2.toArray, ii 2], (.cellA (by rfl) ag67 (H.c 0) (by rfl) (.tmp (by rfl) rfl)), none, 0, none, 0, none, 0, rfl, (H.forgetAll).pick [0, 1, 2]⟩
 have hm := cond_f hb hm
 refine W_skip ?_
 refine Wr ?_
 refine RL_p (xA 0 (L11_0 A1 a0 cp2 A5 cp6) ag25 (H.c 0)) ?_
 refine RL_p (xA 0 (L11_1 a1) ag31 (H.c 1)) ?_
 obtain ⟨v36, hv35, hm⟩ := bind_some hm
 refine RL_cons (OC (xc [.agg (L11_0 A1 a0 cp2 A5 cp6).toArray, .agg (L11_1 a1).toArray] (cf21 _ _)) (c21 (okS ok w [.blk b9 25 (L11_0 A1 a0 cp2 A5 cp6), .blk b11 31 (L11_1 a1), .blk b13 67 L11_2]) K w30 a0 A1 cp2 A5 cp6 a1 (H.rd (i := 0) (by rfl)) (H.rd (i := 1) (by rfl)) v36 hv35) ?_)
 rintro e w37 ⟨A38, cp39, A41, cp42, A44, cp45, rfl, H2⟩
 have H : Sep ok w w37 [.blk b9 25 (L11_0 A1 a0 cp2 A5 cp6), .blk b11 31 (L11_1 a1), .blk b13 67 L11_2] [RE.rd k_Item A1 cp2 a0.Items, RE.rd k_Texture A5 cp6 a0.Textures, RE.rd k_Item A38 cp39 v36.Show.Items, RE.rd k_Texture A41 cp42 v36.Show.Textures, RE.rd k_part A44 cp45 v36.parts] := H.call H2
 clear H2
 refine ⟨_, rfl, ?_⟩
 refine RL_cons (OS 2 0 (L11_3 A38 v36 cp39 A41 cp42 A44 cp45) sz67 H (fun w47 (H : Sep ok w w47 [.blk b9 25 (L11_0 A1 a0 cp2 A5 cp6), .blk b11 31 (L11_1 a1), .blk b13 67 (L11_3 A38 v36 cp39 A41 cp42 A44 cp45)] [RE.rd k_Item A1 cp2 a0.Items, RE.rd k_Texture A5 cp6 a0.Textures, RE.rd k_Item A38 cp39 v36.Show.Items, RE.rd k_Texture A41 cp42 v36.Show.Textures, RE.rd k_part A44 cp45 v36.parts]) => ?_))
 refine RL_p (xa (ii 0)) ?_
 refine W_ret ?_
 obtain rfl := Option.some.inj hm
 exact ⟨[.agg (L11_3 A38 v36 cp39 A41 cp42 A44 cp45).toArray, ii 0], (.cellA (by rfl) ag67 (H.c 2) (by rfl) (.tmp (by rfl) rfl)), A38, cp39, A41, cp42, A44, cp45, rfl, (H.forgetAll).pick [2, 3, 4]⟩
end Go.Proofs.YtobkigllalbkiaaV.D
