/- Part 3 of the texts that the proof of TopCard stands on. -/
import Derived.Test.YtobkigllalbkiaaDoorTopCardZB
/- A plain Lean function that answers as the Go function does (none: not told), and the proof that a call answers so. Written by program. -/
set_option linter.unusedVariables false
set_option maxRecDepth 100000
set_option maxHeartbeats 4000000
namespace Go.Proofs.YtobkigllalbkiaaV.D
open Go.RowKit Go.Proofs.YtobkigllalbkiaaV
abbrev L75_0 (q0 : S_Box) : List Value := [ii q0.Low.X, ii q0.Low.Y, ii q0.Low.Z, ii q0.High.X, ii q0.High.Y, ii q0.High.Z]
abbrev L75_1  : List Value := [ii 0, ii 0, ii 0, ii 0, ii 0, ii 0]
abbrev L75_2 (q0 : (Ar3 S_Span)) : List Value := [ii q0.a0.Low, ii q0.a0.High, ii q0.a1.Low, ii q0.a1.High, ii q0.a2.Low, ii q0.a2.High]
abbrev L75_3 (q0 : (Ar3 S_Span)) (q1 : (Ar3 S_Span)) : List Value := [ii (mn q0.a0.Low q1.a0.Low), ii (mx q0.a0.High q1.a0.High)]
abbrev L75_4 (q0 : (Ar3 S_Span)) (q1 : (Ar3 S_Span)) : List Value := [ii (mn q0.a0.Low q1.a0.Low), ii (mx q0.a0.High q1.a0.High), ii q0.a1.Low, ii q0.a1.High, ii q0.a2.Low, ii q0.a2.High]
abbrev L75_5 (q0 : (Ar3 S_Span)) (q1 : (Ar3 S_Span)) : List Value := [ii (mn q0.a1.Low q1.a1.Low), ii (mx q0.a1.High q1.a1.High)]
abbrev L75_6 (q0 : (Ar3 S_Span)) (q1 : (Ar3 S_Span)) : List Value := [ii (mn q0.a0.Low q1.a0.Low), ii (mx q0.a0.High q1.a0.High), ii (mn q0.a1.Low q1.a1.Low), ii (mx q0.a1.High q1.a1.High), ii q0.a2.Low, ii q0.a2.High]
abbrev L75_7 (q0 : (Ar3 S_Span)) (q1 : (Ar3 S_Span)) : List Value := [ii (mn q0.a2.Low q1.a2.Low), ii (mx q0.a2.High q1.a2.High)]
abbrev L75_8 (q0 : (Ar3 S_Span)) (q1 : (Ar3 S_Span)) : List Value := [ii (mn q0.a0.Low q1.a0.Low), ii (mx q0.a0.High q1.a0.High), ii (mn q0.a1.Low q1.a1.Low), ii (mx q0.a1.High q1.a1.High), ii (mn q0.a2.Low q1.a2.Low), ii (mx q0.a2.High q1.a2.High)]
def m75 (K : Nat) (a0 : S_Box) (a1 : S_Box) : Option (S_Box) :=
 ((m37 K a0).bind fun v8 => ((m37 K a1).bind fun v11 => ((m42 K (⟨(⟨(mn v8.a0.Low v11.a0.Low), (mx v8.a0.High v11.a0.High)⟩ : S_Span), (⟨(mn v8.a1.Low v11.a1.Low), (mx v8.a1.High v11.a1.High)⟩ : S_Span), (⟨(mn v8.a2.Low v11.a2.Low), (mx v8.a2.High v11.a2.High)⟩ : S_Span)⟩ : (Ar3 S_Span))).bind fun v100 => some v100)))
abbrev S75_0 (q0 : Okp) (q1 q2 : World) (q3 : Nat) (q4 : S_Box) (q5 : Nat) (q6 : S_Box) (q7 q8 q9 : Nat) : Prop := Sep q0 q1 q2 [.blk q3 50 (L75_0 q4), .blk q5 50 (L75_0 q6), .blk q7 50 L75_1, .blk q8 110 L75_1, .blk q9 110 L75_1] []
abbrev S75_1 (q0 : Okp) (q1 q2 : World) (q3 : Nat) (q4 : S_Box) (q5 : Nat) (q6 : S_Box) (q7 q8 : Nat) : Prop := Sep q0 q1 q2 [.blk q3 50 (L75_0 q4), .blk q5 50 (L75_0 q6), .blk q7 50 L75_1, .blk q8 110 L75_1, .hole] []
abbrev S75_2 (q0 : Okp) (q1 q2 : World) (q3 : Nat) (q4 : S_Box) (q5 : Nat) (q6 : S_Box) (q7 q8 : Nat) : Prop := Sep q0 q1 q2 [.blk q3 50 (L75_0 q4), .blk q5 50 (L75_0 q6), .blk q7 50 L75_1, .hole, .blk q8 110 L75_1] []
abbrev S75_3 (q0 : Okp) (q1 q2 : World) (q3 : Nat) (q4 : S_Box) (q5 : Nat) (q6 : S_Box) (q7 : Nat) : Prop := Sep q0 q1 q2 [.blk q3 50 (L75_0 q4), .blk q5 50 (L75_0 q6), .blk q7 50 L75_1, .hole, .hole] []
abbrev S75_4 (q0 : Okp) (q1 q2 : World) (q3 : Nat) (q4 : S_Box) (q5 : Nat) (q6 : S_Box) (q7 q8 : Nat) : Prop := Sep q0 q1 q2 [.blk q3 50 (L75_0 q4), .blk q5 50 (L75_0 q6), .blk q7 50 L75_1, .hole, .hole, .blk q8 110 L75_1] []
abbrev S75_5 (q0 : Okp) (q1 q2 : World) (q3 : Nat) (q4 : S_Box) (q5 : Nat) (q6 : S_Box) (q7 q8 q9 : Nat) : Prop := Sep q0 q1 q2 [.blk q3 50 (L75_0 q4), .blk q5 50 (L75_0 q6), .blk q7 50 L75_1, .hole, .blk q8 110 L75_1, .blk q9 110 L75_1] []
abbrev S75_6 (q0 : Okp) (q1 q2 : World) (q3 : Nat) (q4 : S_Box) (q5 : Nat) (q6 : S_Box) (q7 q8 q9 : Nat) : Prop := Sep q0 q1 q2 [.blk q3 50 (L75_0 q4), .blk q5 50 (L75_0 q6), .blk q7 50 L75_1, .blk q8 110 L75_1, .hole, .blk q9 110 L75_1] []
theorem c75 (ok : Okp) (K : Nat) (w : World) (a0 : S_Box) (a1 : S_Box)  (res : S_Box) (hm : m75 K a0 a1 = some res) :
  Calls Tryd.prog 75 #[.agg (L75_0 a0).toArray, .agg (L75_0 a1).toArray] w (fun e w' => e = .returned (tup [.agg (L75_0 res).toArray]) ∧ Sep ok w w' [] []) := by
 refine calls_W (args := [.agg (L75_0 a0).toArray, .agg (L75_0 a1).toArray]) Tryd.func75 rfl Tryd.ntmps75 Tryd.results75 rfl fun r hr => ?_
 obtain ⟨r1, rfl⟩ := regen (r := r) [(0, .agg (L75_0 a0).toArray), (1, .agg (L75_0 a1).toArray)] ⟨hr 0 _ rfl, hr 1 _ rfl, trivial⟩
 have H : Sep ok w w [] [] := Sep.start ok w
 unfold m75 at hm
 refine Wr ?_
 refine RL_cons (OB H (fun w2 b1 (H : Sep ok w w2 [.blk b1 50 (L75_0 a0)] []) => ?_))
 refine RL_cons (OB H (fun w4 b3 (H : Sep ok w w4 [.blk b1 50 (L75_0 a0), .blk b3 50 (L75_0 a1)] []) => ?_))
 refine RL_cons (OA ze50 H (fun w6 b5 (H : Sep ok w w6 [.blk b1 50 (L75_0 a0), .blk b3 50 (L75_0 a1), .blk b5 50 L75_1] []) => ?_))
 refine W_seq ?_
 obtain ⟨v8, hv7, hm⟩ := bind_some hm
 obtain ⟨v11, hv10, hm⟩ := bind_some hm
 refine W_drawT (.take 0 (.take 2 (.all (.br 1 (.all (.br 3 (.all (.br 4 (.all (.br 5 (.all (.br 6 (.lin [.tail 7]) (.stop))) (.stop))) (.br 5 (.all (.br 4 (.all (.br 6 (.lin [.tail 7]) (.stop))) (.stop))) (.stop)))) (.br 4 (.all (.br 3 (.all (.br 5 (.all (.br 6 (.lin [.tail 7]) (.stop))) (.stop))) (.br 5 (.all (.br 3 (.all (.br 6 (.lin [.tail 7]) (.stop))) (.stop))) (.stop)))) (.br 5 (.all (.br 3 (.all (.br 4 (.all (.br 6 (.lin [.tail 7]) (.stop))) (.stop))) (.br 4 (.all (.br 3 (.all (.br 6 (.lin [.tail 7]) (.stop))) (.stop))) (.stop)))) (.stop))))) (.br 4 (.all (.br 1 (.all (.br 3 (.all (.br 5 (.all (.br 6 (.lin [.tail 7]) (.stop))) (.stop))) (.br 5 (.all (.br 3 (.all (.br 6 (.lin [.tail 7]) (.stop))) (.stop))) (.stop)))) (.br 5 (.all (.br 1 (.all (.br 3 (.all (.br 6 (.lin [.tail 7]) (.stop))) (.stop))) (.stop))) (.stop)))) (.br 5 (.all (.br 1 (.all (.br 3 (.all (.br 4 (.all (.br 6 (.lin [.tail 7]) (.stop))) (.stop))) (.br 4 (.all (.br 3 (.all (.br 6 (.lin [.tail 7]) (.stop))) (.stop))) (.stop)))) (.br 4 (.all (.br 1 (.all (.br 3 (.all (.br 6 (.lin [.tail 7]) (.stop))) (.stop))) (.stop))) (.stop)))) (.stop))))))) (fun wS => Sep ok w wS [.blk b1 50 (L75_0 a0), .blk b3 50 (L75_0 a1), .blk b5 50 L75_1] []) [7] [] mixed0 (by kernel_rfl) (by kernel_rfl) (by kernel_rfl) (by kernel_rfl) (by exact H.drew) ?_
 obtain ⟨w18, hW⟩ : ∃ W : World, W = { w6 with drawn := w6.drawn + 1 } := ⟨_, rfl⟩
 rw [← hW]
 have H : Sep ok w w18 [.blk b1 50 (L75_0 a0), .blk b3 50 (L75_0 a1), .blk b5 50 L75_1] [] := by rw [hW]; exact H.drew
 clear hW
 refine TT (a := fun H => xA 0 (L75_0 a0) ag50 (H.c 0)) (b := ?_)
 refine TT (a := fun H => xA 0 (L75_0 a1) ag50 (H.c 1)) (b := ?_)
 refine PRT_meet (fun r' w' => ∃ (b13 : Nat), ∃ (b15 : Nat), Agr [(4, pp b5), (5, pp b13), (6, pp b15), (11, .agg (L75_2 v11).toArray)] r' ∧ Sep ok w w' [.blk b1 50 (L75_0 a0), .blk b3 50 (L75_0 a1), .blk b5 50 L75_1, .blk b13 110 (L75_2 v8), .blk b15 110 L75_1] []) (.lin [.tail 7]) ?_ ?_
 ·intro hJ1_3_4_5_6
  refine PRT_meet (fun r' w' => ∃ (b13 : Nat), ∃ (b15 : Nat), Agr [(4, pp b5), (5, pp b13), (6, pp b15), (9, .agg (L75_2 v8).toArray), (11, .agg (L75_2 v11).toArray)] r' ∧ S75_0 ok w w' b1 a0 b3 a1 b5 b13 b15) (.all (.br 6 (.lin [.tail 7]) (.stop))) ?_ ?_
  ·intro hJ1_3_4_5
   refine PRT_meet (fun r' w' => ∃ (b13 : Nat), Agr [(4, pp b5), (5, pp b13), (9, .agg (L75_2 v8).toArray), (11, .agg (L75_2 v11).toArray)] r' ∧ S75_1 ok w w' b1 a0 b3 a1 b5 b13) (.all (.br 5 (.all (.br 6 (.lin [.tail 7]) (.stop))) (.stop))) ?_ ?_
   ·intro hJ1_3_4
    refine PRT_meet (fun r' w' => ∃ (b15 : Nat), Agr [(4, pp b5), (6, pp b15), (9, .agg (L75_2 v8).toArray), (11, .agg (L75_2 v11).toArray)] r' ∧ S75_2 ok w w' b1 a0 b3 a1 b5 b15) (.all (.br 4 (.all (.br 6 (.lin [.tail 7]) (.stop))) (.stop))) ?_ ?_
    ·intro hJ1_3_5
     refine PRT_meet (fun r' w' => ∃ (b13 : Nat), ∃ (b15 : Nat), Agr [(4, pp b5), (5, pp b13), (6, pp b15), (9, .agg (L75_2 v8).toArray), (10, .agg (L75_0 a1).toArray)] r' ∧ S75_0 ok w w' b1 a0 b3 a1 b5 b13 b15) (.all (.br 3 (.all (.br 6 (.lin [.tail 7]) (.stop))) (.stop))) ?_ ?_
     ·intro hJ1_4_5
      refine PRT_meet (fun r' w' => Agr [(4, pp b5), (9, .agg (L75_2 v8).toArray), (11, .agg (L75_2 v11).toArray)] r' ∧ S75_3 ok w w' b1 a0 b3 a1 b5) (.all (.br 4 (.all (.br 5 (.all (.br 6 (.lin [.tail 7]) (.stop))) (.stop))) (.br 5 (.all (.br 4 (.all (.br 6 (.lin [.tail 7]) (.stop))) (.stop))) (.stop)))) ?_ ?_
      ·intro hJ1_3
       refine PRT_meet (fun r' w' => ∃ (b13 : Nat), Agr [(4, pp b5), (5, pp b13), (9, .agg (L75_2 v8).toArray), (10, .agg (L75_0 a1).toArray)] r' ∧ S75_1 ok w w' b1 a0 b3 a1 b5 b13) (.all (.br 3 (.all (.br 5 (.all (.br 6 (.lin [.tail 7]) (.stop))) (.stop))) (.br 5 (.all (.br 3 (.all (.br 6 (.lin [.tail 7]) (.stop))) (.stop))) (.stop)))) ?_ ?_
       ·intro hJ1_4
        refine PRT_meet (fun r' w' => ∃ (b15 : Nat), Agr [(4, pp b5), (6, pp b15), (9, .agg (L75_2 v8).toArray), (10, .agg (L75_0 a1).toArray)] r' ∧ S75_2 ok w w' b1 a0 b3 a1 b5 b15) (.all (.br 3 (.all (.br 4 (.all (.br 6 (.lin [.tail 7]) (.stop))) (.stop))) (.br 4 (.all (.br 3 (.all (.br 6 (.lin [.tail 7]) (.stop))) (.stop))) (.stop)))) ?_ ?_
        ·intro hJ1_5
         refine PRT_meet (fun r' w' => ∃ (b13 : Nat), ∃ (b15 : Nat), Agr [(4, pp b5), (5, pp b13), (6, pp b15), (8, .agg (L75_0 a0).toArray), (10, .agg (L75_0 a1).toArray)] r' ∧ S75_0 ok w w' b1 a0 b3 a1 b5 b13 b15) (.all (.br 1 (.all (.br 3 (.all (.br 6 (.lin [.tail 7]) (.stop))) (.stop))) (.stop))) ?_ ?_
         ·intro hJ4_5
          refine PRT_meet (fun r' w' => Agr [(4, pp b5), (9, .agg (L75_2 v8).toArray), (10, .agg (L75_0 a1).toArray)] r' ∧ S75_3 ok w w' b1 a0 b3 a1 b5) (.all (.br 3 (.all (.br 4 (.all (.br 5 (.all (.br 6 (.lin [.tail 7]) (.stop))) (.stop))) (.br 5 (.all (.br 4 (.all (.br 6 (.lin [.tail 7]) (.stop))) (.stop))) (.stop)))) (.br 4 (.all (.br 3 (.all (.br 5 (.all (.br 6 (.lin [.tail 7]) (.stop))) (.stop))) (.br 5 (.all (.br 3 (.all (.br 6 (.lin [.tail 7]) (.stop))) (.stop))) (.stop)))) (.br 5 (.all (.br 3 (.all (.br 4 (.all (.br 6 (.lin [.tail 7]) (.stop))) (.stop))) (.br 4 (.all (.br 3 (.all (.br 6 (.lin [.tail 7]) (.stop))) (.stop))) (.stop)))) (.stop))))) ?_ ?_
          ·intro hJ1
           refine PRT_meet (fun r' w' => ∃ (b13 : Nat), Agr [(4, pp b5), (5, pp b13), (8, .agg (L75_0 a0).toArray), (10, .agg (L75_0 a1).toArray)] r' ∧ S75_1 ok w w' b1 a0 b3 a1 b5 b13) (.all (.br 1 (.all (.br 3 (.all (.br 5 (.all (.br 6 (.lin [.tail 7]) (.stop))) (.stop))) (.br 5 (.all (.br 3 (.all (.br 6 (.lin [.tail 7]) (.stop))) (.stop))) (.stop)))) (.br 5 (.all (.br 1 (.all (.br 3 (.all (.br 6 (.lin [.tail 7]) (.stop))) (.stop))) (.stop))) (.stop)))) ?_ ?_
           ·intro hJ4
            refine PRT_meet (fun r' w' => ∃ (b15 : Nat), Agr [(4, pp b5), (6, pp b15), (8, .agg (L75_0 a0).toArray), (10, .agg (L75_0 a1).toArray)] r' ∧ S75_2 ok w w' b1 a0 b3 a1 b5 b15) (.all (.br 1 (.all (.br 3 (.all (.br 4 (.all (.br 6 (.lin [.tail 7]) (.stop))) (.stop))) (.br 4 (.all (.br 3 (.all (.br 6 (.lin [.tail 7]) (.stop))) (.stop))) (.stop)))) (.br 4 (.all (.br 1 (.all (.br 3 (.all (.br 6 (.lin [.tail 7]) (.stop))) (.stop))) (.stop))) (.stop)))) ?_ ?_
            ·intro hJ5
             have H : S75_3 ok w w18 b1 a0 b3 a1 b5 := ((H).nilHole).nilHole
             refine PRT_all ?_
             refine PB ?_ ?_
             ·show OpR _ _ _ _ _ _ _
              refine OC (xc [.agg (L75_0 a0).toArray] (cf37 _ _)) (c37 okT K w18 a0  v8 hv7) ?_
              rintro e w9 ⟨rfl, H2⟩
              have H : S75_3 ok w w9 b1 a0 b3 a1 b5 := H.below H2.base
              clear H2
              refine ⟨_, rfl, (Sep.takeL H 3), ?_⟩
              show PRT _ _ _ _ _ _ _ _
              exact hJ1 _ _ ⟨⟨rfl, rfl, rfl, trivial⟩, H⟩
             refine PB ?_ ?_
             ·show OpR _ _ _ _ _ _ _
              refine OA ze110 H (fun w14 b13 (H : S75_4 ok w w14 b1 a0 b3 a1 b5 b13) => ⟨(Sep.takeL H 3), ?_⟩)
              exact hJ4 _ _ ⟨b13, ⟨rfl, rfl, rfl, rfl, trivial⟩, (H).pickL [0, 1, 2, 5, 4] (by decide)⟩
             refine PB ?_ ?_
             ·show OpR _ _ _ _ _ _ _
              refine OA ze110 H (fun w16 b15 (H : S75_4 ok w w16 b1 a0 b3 a1 b5 b15) => ⟨(Sep.takeL H 3), ?_⟩)
              exact hJ5 _ _ ⟨b15, ⟨rfl, rfl, rfl, rfl, trivial⟩, (H).pickL [0, 1, 2, 3, 5] (by decide)⟩
             exact PRT_stop
            show ∀ r w, _ → _
            rintro r' w' ⟨b15, hA, H⟩
            obtain ⟨r68, rfl⟩ := regen _ hA; clear hA
            obtain ⟨w69, rfl⟩ := wld w'
            refine PRT_all ?_
            refine PB ?_ ?_
            ·show OpR _ _ _ _ _ _ _
             refine OC (xc [.agg (L75_0 a0).toArray] (cf37 _ _)) (c37 okT K w69 a0  v8 hv7) ?_
             rintro e w9 ⟨rfl, H2⟩
             have H : S75_2 ok w w9 b1 a0 b3 a1 b5 b15 := H.below H2.base
             clear H2
             refine ⟨_, rfl, (Sep.takeL H 3), ?_⟩
             show PRT _ _ _ _ _ _ _ _
             exact hJ1_5 _ _ ⟨b15, ⟨rfl, rfl, rfl, rfl, trivial⟩, H⟩
            refine PB ?_ ?_
            ·show OpR _ _ _ _ _ _ _
             refine OA ze110 H (fun w14 b13 (H : S75_5 ok w w14 b1 a0 b3 a1 b5 b15 b13) => ⟨(Sep.takeL H 3), ?_⟩)
             exact hJ4_5 _ _ ⟨b13, b15, ⟨rfl, rfl, rfl, rfl, rfl, trivial⟩, (H).pickL [0, 1, 2, 5, 4] (by decide)⟩
            exact PRT_stop
           show ∀ r w, _ → _
           rintro r' w' ⟨b13, hA, H⟩
           obtain ⟨r70, rfl⟩ := regen _ hA; clear hA
           obtain ⟨w71, rfl⟩ := wld w'
           refine PRT_all ?_
           refine PB ?_ ?_
           ·show OpR _ _ _ _ _ _ _
            refine OC (xc [.agg (L75_0 a0).toArray] (cf37 _ _)) (c37 okT K w71 a0  v8 hv7) ?_
            rintro e w9 ⟨rfl, H2⟩
            have H : S75_1 ok w w9 b1 a0 b3 a1 b5 b13 := H.below H2.base
            clear H2
            refine ⟨_, rfl, (Sep.takeL H 3), ?_⟩
            show PRT _ _ _ _ _ _ _ _
            exact hJ1_4 _ _ ⟨b13, ⟨rfl, rfl, rfl, rfl, trivial⟩, H⟩
           refine PB ?_ ?_
           ·show OpR _ _ _ _ _ _ _
            refine OA ze110 H (fun w16 b15 (H : S75_6 ok w w16 b1 a0 b3 a1 b5 b13 b15) => ⟨(Sep.takeL H 3), ?_⟩)
            exact hJ4_5 _ _ ⟨b13, b15, ⟨rfl, rfl, rfl, rfl, rfl, trivial⟩, (H).pickL [0, 1, 2, 3, 5] (by decide)⟩
           exact PRT_stop
          show ∀ r w, _ → _
          rintro r' w' ⟨hA, H⟩
          obtain ⟨r72, rfl⟩ := regen _ hA; clear hA
          obtain ⟨w73, rfl⟩ := wld w'
          refine PRT_all ?_
          refine PB ?_ ?_
          ·show OpR _ _ _ _ _ _ _
           refine OC (xc [.agg (L75_0 a1).toArray] (cf37 _ _)) (c37 okT K w73 a1  v11 hv10) ?_
           rintro e w12 ⟨rfl, H2⟩
           have H : S75_3 ok w w12 b1 a0 b3 a1 b5 := H.below H2.base
           clear H2
           refine ⟨_, rfl, (Sep.takeL H 3), ?_⟩
           show PRT _ _ _ _ _ _ _ _
           exact hJ1_3 _ _ ⟨⟨rfl, rfl, rfl, trivial⟩, H⟩
          refine PB ?_ ?_
          ·show OpR _ _ _ _ _ _ _
           refine OA ze110 H (fun w14 b13 (H : S75_4 ok w w14 b1 a0 b3 a1 b5 b13) => ⟨(Sep.takeL H 3), ?_⟩)
           exact hJ1_4 _ _ ⟨b13, ⟨rfl, rfl, rfl, rfl, trivial⟩, (H).pickL [0, 1, 2, 5, 4] (by decide)⟩
          refine PB ?_ ?_
          ·show OpR _ _ _ _ _ _ _
           refine OA ze110 H (fun w16 b15 (H : S75_4 ok w w16 b1 a0 b3 a1 b5 b15) => ⟨(Sep.takeL H 3), ?_⟩)
           exact hJ1_5 _ _ ⟨b15, ⟨rfl, rfl, rfl, rfl, trivial⟩, (H).pickL [0, 1, 2, 3, 5] (by decide)⟩
          exact PRT_stop
         show ∀ r w, _ → _
         rintro r' w' ⟨b13, b15, hA, H⟩
         obtain ⟨r74, rfl⟩ := regen _ hA; clear hA
         obtain ⟨w75, rfl⟩ := wld w'
         refine PRT_all ?_
         refine PB ?_ ?_
         ·show OpR _ _ _ _ _ _ _
          refine OC (xc [.agg (L75_0 a0).toArray] (cf37 _ _)) (c37 okT K w75 a0  v8 hv7) ?_
          rintro e w9 ⟨rfl, H2⟩
          have H : S75_0 ok w w9 b1 a0 b3 a1 b5 b13 b15 := H.below H2.base
          clear H2
          refine ⟨_, rfl, (Sep.takeL H 3), ?_⟩
          show PRT _ _ _ _ _ _ _ _
          exact hJ1_4_5 _ _ ⟨b13, b15, ⟨rfl, rfl, rfl, rfl, rfl, trivial⟩, H⟩
         exact PRT_stop
        show ∀ r w, _ → _
        rintro r' w' ⟨b15, hA, H⟩
        obtain ⟨r76, rfl⟩ := regen _ hA; clear hA
        obtain ⟨w77, rfl⟩ := wld w'
        refine PRT_all ?_
        refine PB ?_ ?_
        ·show OpR _ _ _ _ _ _ _
         refine OC (xc [.agg (L75_0 a1).toArray] (cf37 _ _)) (c37 okT K w77 a1  v11 hv10) ?_
         rintro e w12 ⟨rfl, H2⟩
         have H : S75_2 ok w w12 b1 a0 b3 a1 b5 b15 := H.below H2.base
         clear H2
         refine ⟨_, rfl, (Sep.takeL H 3), ?_⟩
         show PRT _ _ _ _ _ _ _ _
         exact hJ1_3_5 _ _ ⟨b15, ⟨rfl, rfl, rfl, rfl, trivial⟩, H⟩
        refine PB ?_ ?_
        ·show OpR _ _ _ _ _ _ _
         refine OA ze110 H (fun w14 b13 (H : S75_5 ok w w14 b1 a0 b3 a1 b5 b15 b13) => ⟨(Sep.takeL H 3), ?_⟩)
         exact hJ1_4_5 _ _ ⟨b13, b15, ⟨rfl, rfl, rfl, rfl, rfl, trivial⟩, (H).pickL [0, 1, 2, 5, 4] (by decide)⟩
        exact PRT_stop
       show ∀ r w, _ → _
       rintro r' w' ⟨b13, hA, H⟩
       obtain ⟨r78, rfl⟩ := regen _ hA; clear hA
       obtain ⟨w79, rfl⟩ := wld w'
       refine PRT_all ?_
       refine PB ?_ ?_
       ·show OpR _ _ _ _ _ _ _
        refine OC (xc [.agg (L75_0 a1).toArray] (cf37 _ _)) (c37 okT K w79 a1  v11 hv10) ?_
        rintro e w12 ⟨rfl, H2⟩
        have H : S75_1 ok w w12 b1 a0 b3 a1 b5 b13 := H.below H2.base
        clear H2
        refine ⟨_, rfl, (Sep.takeL H 3), ?_⟩
        show PRT _ _ _ _ _ _ _ _
        exact hJ1_3_4 _ _ ⟨b13, ⟨rfl, rfl, rfl, rfl, trivial⟩, H⟩
       refine PB ?_ ?_
       ·show OpR _ _ _ _ _ _ _
        refine OA ze110 H (fun w16 b15 (H : S75_6 ok w w16 b1 a0 b3 a1 b5 b13 b15) => ⟨(Sep.takeL H 3), ?_⟩)
        exact hJ1_4_5 _ _ ⟨b13, b15, ⟨rfl, rfl, rfl, rfl, rfl, trivial⟩, (H).pickL [0, 1, 2, 3, 5] (by decide)⟩
       exact PRT_stop
      show ∀ r w, _ → _
      rintro r' w' ⟨hA, H⟩
      obtain ⟨r80, rfl⟩ := regen _ hA; clear hA
      obtain ⟨w81, rfl⟩ := wld w'
      refine PRT_all ?_
      refine PB ?_ ?_
      ·show OpR _ _ _ _ _ _ _
       refine OA ze110 H (fun w14 b13 (H : S75_4 ok w w14 b1 a0 b3 a1 b5 b13) => ⟨(Sep.takeL H 3), ?_⟩)
       exact hJ1_3_4 _ _ ⟨b13, ⟨rfl, rfl, rfl, rfl, trivial⟩, (H).pickL [0, 1, 2, 5, 4] (by decide)⟩
      refine PB ?_ ?_
      ·show OpR _ _ _ _ _ _ _
       refine OA ze110 H (fun w16 b15 (H : S75_4 ok w w16 b1 a0 b3 a1 b5 b15) => ⟨(Sep.takeL H 3), ?_⟩)
       exact hJ1_3_5 _ _ ⟨b15, ⟨rfl, rfl, rfl, rfl, trivial⟩, (H).pickL [0, 1, 2, 3, 5] (by decide)⟩
      exact PRT_stop
     show ∀ r w, _ → _
     rintro r' w' ⟨b13, b15, hA, H⟩
     obtain ⟨r82, rfl⟩ := regen _ hA; clear hA
     obtain ⟨w83, rfl⟩ := wld w'
     refine PRT_all ?_
     refine PB ?_ ?_
     ·show OpR _ _ _ _ _ _ _
      refine OC (xc [.agg (L75_0 a1).toArray] (cf37 _ _)) (c37 okT K w83 a1  v11 hv10) ?_
      rintro e w12 ⟨rfl, H2⟩
      have H : S75_0 ok w w12 b1 a0 b3 a1 b5 b13 b15 := H.below H2.base
      clear H2
      refine ⟨_, rfl, (Sep.takeL H 3), ?_⟩
      show PRT _ _ _ _ _ _ _ _
      exact hJ1_3_4_5 _ _ ⟨b13, b15, ⟨rfl, rfl, rfl, rfl, rfl, trivial⟩, H⟩
     exact PRT_stop
    show ∀ r w, _ → _
    rintro r' w' ⟨b15, hA, H⟩
    obtain ⟨r84, rfl⟩ := regen _ hA; clear hA
    obtain ⟨w85, rfl⟩ := wld w'
    refine PRT_all ?_
    refine PB ?_ ?_
    ·show OpR _ _ _ _ _ _ _
     refine OA ze110 H (fun w14 b13 (H : S75_5 ok w w14 b1 a0 b3 a1 b5 b15 b13) => ⟨(Sep.takeL H 3), ?_⟩)
     exact hJ1_3_4_5 _ _ ⟨b13, b15, ⟨rfl, rfl, rfl, rfl, rfl, trivial⟩, (H).pickL [0, 1, 2, 5, 4] (by decide)⟩
    exact PRT_stop
   show ∀ r w, _ → _
   rintro r' w' ⟨b13, hA, H⟩
   obtain ⟨r86, rfl⟩ := regen _ hA; clear hA
   obtain ⟨w87, rfl⟩ := wld w'
   refine PRT_all ?_
   refine PB ?_ ?_
   ·show OpR _ _ _ _ _ _ _
    refine OA ze110 H (fun w16 b15 (H : S75_6 ok w w16 b1 a0 b3 a1 b5 b13 b15) => ⟨(Sep.takeL H 3), ?_⟩)
    exact hJ1_3_4_5 _ _ ⟨b13, b15, ⟨rfl, rfl, rfl, rfl, rfl, trivial⟩, (H).pickL [0, 1, 2, 3, 5] (by decide)⟩
   exact PRT_stop
  show ∀ r w, _ → _
  rintro r' w' ⟨b13, b15, hA, H⟩
  obtain ⟨r88, rfl⟩ := regen _ hA; clear hA
  obtain ⟨w89, rfl⟩ := wld w'
  refine PRT_all ?_
  refine PB ?_ ?_
  ·show OpR _ _ _ _ _ _ _
   refine OS 3 0 (L75_2 v8) sz110 H (fun w17 (H : Sep ok w w17 [.blk b1 50 (L75_0 a0), .blk b3 50 (L75_0 a1), .blk b5 50 L75_1, .blk b13 110 (L75_2 v8), .blk b15 110 L75_1] []) => ⟨(Sep.takeL H 3), ?_⟩)
   exact hJ1_3_4_5_6 _ _ ⟨b13, b15, ⟨rfl, rfl, rfl, rfl, trivial⟩, H⟩
  exact PRT_stop
 show ∀ r w, _ → _
 rintro r' w' ⟨b13, b15, hA, H⟩
 obtain ⟨r90, rfl⟩ := regen _ hA; clear hA
 obtain ⟨w91, rfl⟩ := wld w'
 refine PRT_lin ?_
 refine PL (a := OS 4 0 (L75_2 v11) sz110 H (fun w92 (H : Sep ok w w92 [.blk b1 50 (L75_0 a0), .blk b3 50 (L75_0 a1), .blk b5 50 L75_1, .blk b13 110 (L75_2 v8), .blk b15 110 (L75_2 v11)] []) => ?_))
 refine PR_nil ?_
 refine W_seq ?_
 refine Wr ?_
 refine RL_p (xm (ii 0)) ?_
 refine W_block ?_
 refine W_unroll 40 ?_
 refine WU_succ ?_
 refine Wr ?_
 refine RL_p (xL) ?_
 refine W_seq ?_
 refine Wt ?_
 refine W_skip ?_
 refine W_seq ?_
 refine W_block ?_
 refine Wr ?_
 refine RL_p (xm (ii 0)) ?_
 refine RL_p (xa (ii 0)) ?_
 refine W_draw [.free 0, .free 1, .free 2, .free 3, .take 4, .free 5, .free 6, .free 7, .take 8, .free 9, .free 10, .free 11, .free 12, .take 13, .free 14, .free 15, .free 16, .take 17, .free 18, .free 19, .free 20, .tail 21] (fun wS => Sep ok w wS [.blk b1 50 (L75_0 a0), .blk b3 50 (L75_0 a1), .blk b5 50 L75_1, .blk b13 110 (L75_2 v8), .blk b15 110 (L75_2 v11)] []) [21] [0, 1, 2, 3, 5, 6, 7, 9, 10, 11, 12, 14, 15, 16, 18, 19, 20] mixed0 (by kernel_rfl) (by kernel_rfl) (by kernel_rfl) (by rfl) (by exact H.drew) ?_
 obtain ⟨w93, hW⟩ : ∃ W : World, W = { w92 with drawn := w92.drawn + 1 } := ⟨_, rfl⟩
 rw [← hW]
 have H : Sep ok w w93 [.blk b1 50 (L75_0 a0), .blk b3 50 (L75_0 a1), .blk b5 50 L75_1, .blk b13 110 (L75_2 v8), .blk b15 110 (L75_2 v11)] [] := by rw [hW]; exact H.drew
 clear hW
 refine PF (a := xm (ii 0)) (b := ?_)
 refine PF (a := xm (ii 0)) (b := ?_)
 refine PF (a := xI ar110 sz109) (b := ?_)
 refine PF (a := xf fo109_0) (b := ?_)
 refine PT' (a := fun H => xl 0 (ii v8.a0.Low) sc3 (H.c 3)) (b := ?_)
 refine PF (a := xm (ii 0)) (b := ?_)
 refine PF (a := xI ar110 sz109) (b := ?_)
 refine PF (a := xf fo109_0) (b := ?_)
 refine PT' (a := fun H => xl 0 (ii v11.a0.Low) sc3 (H.c 4)) (b := ?_)
 refine PF (a := x_min2 (by rfl) (by rfl)) (b := ?_)
 refine PF (a := xm (ii 0)) (b := ?_)
 refine PF (a := xI ar110 sz109) (b := ?_)
 refine PF (a := xf fo109_1) (b := ?_)
 refine PT' (a := fun H => xl 1 (ii v8.a0.High) sc3 (H.c 3)) (b := ?_)
 refine PF (a := xm (ii 0)) (b := ?_)
 refine PF (a := xI ar110 sz109) (b := ?_)
 refine PF (a := xf fo109_1) (b := ?_)
 refine PT' (a := fun H => xl 1 (ii v11.a0.High) sc3 (H.c 4)) (b := ?_)
 refine PF (a := x_max2 (by rfl) (by rfl)) (b := ?_)
 refine PF (a := x_build (vs := [(0, ii (mn v8.a0.Low v11.a0.Low)), (1, ii (mx v8.a0.High v11.a0.High))]) (cs := (L75_3 v8 v11)) (by rfl) (by kernel_rfl)) (b := ?_)
 refine PF (a := xI ar110 sz109) (b := ?_)
 refine PL (a := OS 3 0 (L75_3 v8 v11) sz109 H (fun w94 (H : Sep ok w w94 [.blk b1 50 (L75_0 a0), .blk b3 50 (L75_0 a1), .blk b5 50 L75_1, .blk b13 110 (L75_4 v8 v11), .blk b15 110 (L75_2 v11)] []) => ?_))
 refine PR_nil ?_
 refine W_region ?_
 refine RL_p (xp 1) ?_
 refine RL_p (xm (ii 1)) ?_
 refine WU_succ ?_
 refine Wr ?_
 refine RL_p (xL) ?_
 refine W_seq ?_
 refine Wt ?_
 refine W_skip ?_
 refine W_seq ?_
 refine W_block ?_
 refine Wr ?_
 refine RL_p (xm (ii 1)) ?_
 refine RL_p (xa (ii 1)) ?_
 refine W_draw [.free 0, .free 1, .free 2, .free 3, .take 4, .free 5, .free 6, .free 7, .take 8, .free 9, .free 10, .free 11, .free 12, .take 13, .free 14, .free 15, .free 16, .take 17, .free 18, .free 19, .free 20, .tail 21] (fun wS => Sep ok w wS [.blk b1 50 (L75_0 a0), .blk b3 50 (L75_0 a1), .blk b5 50 L75_1, .blk b13 110 (L75_4 v8 v11), .blk b15 110 (L75_2 v11)] []) [21] [0, 1, 2, 3, 5, 6, 7, 9, 10, 11, 12, 14, 15, 16, 18, 19, 20] mixed0 (by kernel_rfl) (by kernel_rfl) (by kernel_rfl) (by rfl) (by exact H.drew) ?_
 obtain ⟨w95, hW⟩ : ∃ W : World, W = { w94 with drawn := w94.drawn + 1 } := ⟨_, rfl⟩
 rw [← hW]
 have H : Sep ok w w95 [.blk b1 50 (L75_0 a0), .blk b3 50 (L75_0 a1), .blk b5 50 L75_1, .blk b13 110 (L75_4 v8 v11), .blk b15 110 (L75_2 v11)] [] := by rw [hW]; exact H.drew
 clear hW
 refine PF (a := xm (ii 1)) (b := ?_)
 refine PF (a := xm (ii 1)) (b := ?_)
 refine PF (a := xI ar110 sz109) (b := ?_)
 refine PF (a := xf fo109_0) (b := ?_)
 refine PT' (a := fun H => xl 2 (ii v8.a1.Low) sc3 (H.c 3)) (b := ?_)
 refine PF (a := xm (ii 1)) (b := ?_)
 refine PF (a := xI ar110 sz109) (b := ?_)
 refine PF (a := xf fo109_0) (b := ?_)
 refine PT' (a := fun H => xl 2 (ii v11.a1.Low) sc3 (H.c 4)) (b := ?_)
 refine PF (a := x_min2 (by rfl) (by rfl)) (b := ?_)
 refine PF (a := xm (ii 1)) (b := ?_)
 refine PF (a := xI ar110 sz109) (b := ?_)
 refine PF (a := xf fo109_1) (b := ?_)
 refine PT' (a := fun H => xl 3 (ii v8.a1.High) sc3 (H.c 3)) (b := ?_)
 refine PF (a := xm (ii 1)) (b := ?_)
 refine PF (a := xI ar110 sz109) (b := ?_)
 refine PF (a := xf fo109_1) (b := ?_)
 refine PT' (a := fun H => xl 3 (ii v11.a1.High) sc3 (H.c 4)) (b := ?_)
 refine PF (a := x_max2 (by rfl) (by rfl)) (b := ?_)
 refine PF (a := x_build (vs := [(0, ii (mn v8.a1.Low v11.a1.Low)), (1, ii (mx v8.a1.High v11.a1.High))]) (cs := (L75_5 v8 v11)) (by rfl) (by kernel_rfl)) (b := ?_)
 refine PF (a := xI ar110 sz109) (b := ?_)
 refine PL (a := OS 3 2 (L75_5 v8 v11) sz109 H (fun w96 (H : Sep ok w w96 [.blk b1 50 (L75_0 a0), .blk b3 50 (L75_0 a1), .blk b5 50 L75_1, .blk b13 110 (L75_6 v8 v11), .blk b15 110 (L75_2 v11)] []) => ?_))
 refine PR_nil ?_
 refine W_region ?_
 refine RL_p (xp 2) ?_
 refine RL_p (xm (ii 2)) ?_
 refine WU_succ ?_
 refine Wr ?_
 refine RL_p (xL) ?_
 refine W_seq ?_
 refine Wt ?_
 refine W_skip ?_
 refine W_seq ?_
 refine W_block ?_
 refine Wr ?_
 refine RL_p (xm (ii 2)) ?_
 refine RL_p (xa (ii 2)) ?_
 refine W_draw [.free 0, .free 1, .free 2, .free 3, .take 4, .free 5, .free 6, .free 7, .take 8, .free 9, .free 10, .free 11, .free 12, .take 13, .free 14, .free 15, .free 16, .take 17, .free 18, .free 19, .free 20, .tail 21] (fun wS => Sep ok w wS [.blk b1 50 (L75_0 a0), .blk b3 50 (L75_0 a1), .blk b5 50 L75_1, .blk b13 110 (L75_6 v8 v11), .blk b15 110 (L75_2 v11)] []) [21] [0, 1, 2, 3, 5, 6, 7, 9, 10, 11, 12, 14, 15, 16, 18, 19, 20] mixed0 (by kernel_rfl) (by kernel_rfl) (by kernel_rfl) (by rfl) (by exact H.drew) ?_
 obtain ⟨w97, hW⟩ : ∃ W : World, W = { w96 with drawn := w96.drawn + 1 } := ⟨_, rfl⟩
 rw [← hW]
 have H : Sep ok w w97 [.blk b1 50 (L75_0 a0), .blk b3 50 (L75_0 a1), .blk b5 50 L75_1, .blk b13 110 (L75_6 v8 v11), .blk b15 110 (L75_2 v11)] [] := by rw [hW]; exact H.drew
 clear hW
 refine PF (a := xm (ii 2)) (b := ?_)
 refine PF (a := xm (ii 2)) (b := ?_)
 refine PF (a := xI ar110 sz109) (b := ?_)
 refine PF (a := xf fo109_0) (b := ?_)
 refine PT' (a := fun H => xl 4 (ii v8.a2.Low) sc3 (H.c 3)) (b := ?_)
 refine PF (a := xm (ii 2)) (b := ?_)
 refine PF (a := xI ar110 sz109) (b := ?_)
 refine PF (a := xf fo109_0) (b := ?_)
 refine PT' (a := fun H => xl 4 (ii v11.a2.Low) sc3 (H.c 4)) (b := ?_)
 refine PF (a := x_min2 (by rfl) (by rfl)) (b := ?_)
 refine PF (a := xm (ii 2)) (b := ?_)
 refine PF (a := xI ar110 sz109) (b := ?_)
 refine PF (a := xf fo109_1) (b := ?_)
 refine PT' (a := fun H => xl 5 (ii v8.a2.High) sc3 (H.c 3)) (b := ?_)
 refine PF (a := xm (ii 2)) (b := ?_)
 refine PF (a := xI ar110 sz109) (b := ?_)
 refine PF (a := xf fo109_1) (b := ?_)
 refine PT' (a := fun H => xl 5 (ii v11.a2.High) sc3 (H.c 4)) (b := ?_)
 refine PF (a := x_max2 (by rfl) (by rfl)) (b := ?_)
 refine PF (a := x_build (vs := [(0, ii (mn v8.a2.Low v11.a2.Low)), (1, ii (mx v8.a2.High v11.a2.High))]) (cs := (L75_7 v8 v11)) (by rfl) (by kernel_rfl)) (b := ?_)
 refine PF (a := xI ar110 sz109) (b := ?_)
 refine PL (a := OS 3 4 (L75_7 v8 v11) sz109 H (fun w98 (H : Sep ok w w98 [.blk b1 50 (L75_0 a0), .blk b3 50 (L75_0 a1), .blk b5 50 L75_1, .blk b13 110 (L75_8 v8 v11), .blk b15 110 (L75_2 v11)] []) => ?_))
 refine PR_nil ?_
 refine W_region ?_
 refine RL_p (xp 3) ?_
 refine RL_p (xm (ii 3)) ?_
 refine WU_succ ?_
 refine Wr ?_
 refine RL_p (xL) ?_
 refine W_seq ?_
 refine Wf ?_
 refine W_exit ?_
 refine W_seq ?_
 have H : Sep ok w w98 [.blk b5 50 L75_1, .blk b13 110 (L75_8 v8 v11)] [] := (H.pickL [2, 3] (by decide))
 refine W_region ?_
 refine RL_p (xA 0 (L75_8 v8 v11) ag110 (H.c 1)) ?_
 obtain ⟨v100, hv99, hm⟩ := bind_some hm
 refine RL_cons (OC (xc [.agg (L75_8 v8 v11).toArray] (cf42 _ _)) (c42 okT K w98 (⟨(⟨(mn v8.a0.Low v11.a0.Low), (mx v8.a0.High v11.a0.High)⟩ : S_Span), (⟨(mn v8.a1.Low v11.a1.Low), (mx v8.a1.High v11.a1.High)⟩ : S_Span), (⟨(mn v8.a2.Low v11.a2.Low), (mx v8.a2.High v11.a2.High)⟩ : S_Span)⟩ : (Ar3 S_Span))  v100 hv99) ?_)
 rintro e w101 ⟨rfl, H2⟩
 have H : Sep ok w w101 [.blk b5 50 L75_1, .blk b13 110 (L75_8 v8 v11)] [] := H.below H2.base
 clear H2
 refine ⟨_, rfl, ?_⟩
 refine RL_cons (OS 0 0 (L75_0 v100) sz50 H (fun w102 (H : Sep ok w w102 [.blk b5 50 (L75_0 v100), .blk b13 110 (L75_8 v8 v11)] []) => ?_))
 refine W_ret ?_
 obtain rfl := Option.some.inj hm
 exact ⟨[.agg (L75_0 v100).toArray], (.cellA (by rfl) ag50 (H.c 0) (by rfl) rfl), rfl, H.none_⟩
end Go.Proofs.YtobkigllalbkiaaV.D

/- A plain Lean function that answers as the Go function does (none: not told), and the proof that a call answers so. Written by program. -/
set_option linter.unusedVariables false
set_option maxRecDepth 100000
set_option maxHeartbeats 4000000
namespace Go.Proofs.YtobkigllalbkiaaV.D
open Go.RowKit Go.Proofs.YtobkigllalbkiaaV
abbrev L68_0  : List Value := [ii 0, ii 0, ii 0, ii 0, ii 0, ii 0]
abbrev L68_1 (q0 : S_Vec) : List Value := [ii q0.X, ii q0.Y, ii q0.Z]
abbrev L68_2 (q0 : S_Vec) (q1 : S_Vec) : List Value := [ii q0.X, ii q0.Y, ii q0.Z, ii q1.X, ii q1.Y, ii q1.Z]
abbrev L68_3 (q0 : Int) (q1 : Int) (q2 : Int) (q3 : Int) (q4 : Int) (q5 : Int) : List Value := [ii q0, ii q1, ii q2, ii q3, ii q4, ii q5]
abbrev L68_4 (q0 : S_Vec) : List Value := [ii q0.X, ii q0.Y, ii q0.Z, ii q0.X, ii q0.Y, ii q0.Z]
abbrev L68_5 (q0 : S_Box) : List Value := [ii q0.Low.X, ii q0.Low.Y, ii q0.Low.Z, ii q0.High.X, ii q0.High.Y, ii q0.High.Z]
abbrev L68_6 (q0 : S_Box × Int) : List Value := [ii q0.1.Low.X, ii q0.1.Low.Y, ii q0.1.Low.Z, ii q0.1.High.X, ii q0.1.High.Y, ii q0.1.High.Z]
def m68_l2b (K : Nat) (a0 : (List S_Vec)) (rec2 : Int → Int → Int → Int → Int → Int → Int → Option (S_Box × Int)) (b5_0_2 : Int) (b5_1_2 : Int) (b5_2_2 : Int) (b5_3_2 : Int) (b5_4_2 : Int) (b5_5_2 : Int) (y51_2 : Int) : Option (S_Box × Int) :=
 (bif (decide (y51_2 < ((a0.drop ((1 : Int).toNat)).length : Int))) then (idx (a0.drop ((1 : Int).toNat)) y51_2 fun el62 => ((m75 K (⟨(⟨b5_0_2, b5_1_2, b5_2_2⟩ : S_Vec), (⟨b5_3_2, b5_4_2, b5_5_2⟩ : S_Vec)⟩ : S_Box) (⟨el62, el62⟩ : S_Box)).bind fun v73 => (ck (y51_2 + 1) fun x76 => (rec2 v73.Low.X v73.Low.Y v73.Low.Z v73.High.X v73.High.Y v73.High.Z x76)))) else some ((⟨(⟨b5_0_2, b5_1_2, b5_2_2⟩ : S_Vec), (⟨b5_3_2, b5_4_2, b5_5_2⟩ : S_Vec)⟩ : S_Box), 0))
def m68_l2 (K : Nat) (a0 : (List S_Vec)) : Nat → Int → Int → Int → Int → Int → Int → Int → Option (S_Box × Int)
 | 0 => fun _ _ _ _ _ _ _ => none
 | k + 1 => m68_l2b K a0 (m68_l2 K a0 k)
def m68_l1b (K : Nat) (a0 : (List S_Vec)) (rec1 : Int → Option (S_Box × Int)) (y19_1 : Int) : Option (S_Box × Int) :=
 (bif (decide (y19_1 < (a0.length : Int))) then (idx a0 y19_1 fun el13 => ((m38 K el13.X).bind fun v24 => ((bif (!v24) then some true else ((m38 K el13.Y).bind fun v28 => some (!v28))).bind fun b26 => ((bif b26 then some true else ((m38 K el13.Z).bind fun v34 => some (!v34))).bind fun b32 => (bif b32 then some ((⟨(⟨0, 0, 0⟩ : S_Vec), (⟨0, 0, 0⟩ : S_Vec)⟩ : S_Box), 20) else (ck (y19_1 + 1) fun x39 => (rec1 x39))))))) else (idx a0 0 fun el41 => (idx a0 0 fun el48 => (slg 1 (a0.length : Int) (m68_l2 K a0 K el41.X el41.Y el41.Z el48.X el48.Y el48.Z 0)))))
def m68_l1 (K : Nat) (a0 : (List S_Vec)) : Nat → Int → Option (S_Box × Int)
 | 0 => fun _ => none
 | k + 1 => m68_l1b K a0 (m68_l1 K a0 k)
def m68 (K : Nat) (a0 : (List S_Vec)) : Option (S_Box × Int) :=
 ((bif ((a0.length : Int) == 0) then some true else some (decide (4096 < (a0.length : Int)))).bind fun b7 => (bif b7 then some ((⟨(⟨0, 0, 0⟩ : S_Vec), (⟨0, 0, 0⟩ : S_Vec)⟩ : S_Box), 4) else m68_l1 K a0 K 0))
abbrev S68_0 (q0 : Okp) (q1 q2 : World) (q3 : Nat) (q4 : Option Addr) (q5 : Nat) (q6 : (List S_Vec)) : Prop := Sep q0 q1 q2 [.blk q3 50 L68_0] [RE.rd k_Vec q4 q5 q6]
abbrev S68_1 (q0 : Okp) (q1 q2 : World) (q3 q4 : Nat) (q5 : S_Vec) (q6 : Option Addr) (q7 : Nat) (q8 : (List S_Vec)) : Prop := Sep q0 q1 q2 [.blk q3 50 L68_0, .blk q4 27 (L68_1 q5)] [RE.rd k_Vec q6 q7 q8]
theorem c68 (ok : Okp) (K : Nat) (w : World) (a0 : (List S_Vec)) (A1 : Option Addr) (cp2 : Nat) (hR3 : Rd k_Vec w ok A1 cp2 a0) (res : S_Box × Int) (hm : m68 K a0 = some res) :
  Calls Tryd.prog 68 #[.slice A1 a0.length cp2] w (fun e w' => e = .returned (tup [.agg (L68_6 res).toArray, ii res.2]) ∧ Sep ok w w' [] []) := by
 refine calls_W (args := [.slice A1 a0.length cp2]) Tryd.func68 rfl Tryd.ntmps68 Tryd.results68 rfl fun r hr => ?_
 obtain ⟨r1, rfl⟩ := regen (r := r) [(0, .slice A1 a0.length cp2)] ⟨hr 0 _ rfl, trivial⟩
 have H : Sep ok w w [] [RE.rd k_Vec A1 cp2 a0] := Sep.arg (Sep.start ok w) (re := RE.rd k_Vec A1 cp2 a0) rfl rfl hR3
 unfold m68 at hm
 refine Wr ?_
 refine RL_cons (OA ze50 H (fun w6 b5 (H : S68_0 ok w w6 b5 A1 cp2 a0) => ?_))
 refine RL_p (xa (ii 0)) ?_
 refine W_seq ?_
 refine Wr ?_
 refine RL_p (xm (.slice A1 a0.length cp2)) ?_
 refine RL_p (x_len sl42 (by rfl)) ?_
 refine RL_p (x_eql (by rfl) (by rfl)) ?_
 refine RL_p (xm (.bool ((a0.length : Int) == 0))) ?_
 obtain ⟨b7, hmS, hm⟩ := bind_some hm
 refine RL_cut 4 (fun r' w' => Agr [(15, .bool b7), (0, .slice A1 a0.length cp2), (2, pp b5)] r' ∧ S68_0 ok w w' b5 A1 cp2 a0) ?_ ?_
 ·cases hbS : ((a0.length : Int) == 0)
  ·have hm := cond_f hbS hmS
   refine RQ (xm (.slice A1 a0.length cp2)) ?_
   refine RQ (x_len sl42 (by rfl)) ?_
   refine RQ (xG) ?_
   refine RL_p (xF (.bool (decide (4096 < (a0.length : Int))))) ?_
   refine RL_nil ?_
   exact ⟨⟨congrArg Value.bool (Option.some.inj hm), rfl, rfl, trivial⟩, H⟩
  have hm := cond_t hbS hmS
  refine RO ?_
  refine RO ?_
  refine RO ?_
  refine RL_p (xT (.bool true)) ?_
  refine RL_nil ?_
  exact ⟨⟨congrArg Value.bool (Option.some.inj hm), rfl, rfl, trivial⟩, H⟩
 rintro r' w' ⟨hA, H⟩
 obtain ⟨r8, rfl⟩ := regen _ hA; clear hA
 obtain ⟨w9, rfl⟩ := wld w'
 show RL _ _ _ _ _ _ _
 refine Wc (fun hb => ?_) (fun hb => ?_)
 ·have hm := cond_t hb hm
  refine Wr ?_
  refine RL_p (xA 0 L68_0 ag50 (H.c 0)) ?_
  refine RL_cons (OS 0 0 L68_0 sz50 H (fun w10 (H : S68_0 ok w w10 b5 A1 cp2 a0) => ?_))
  refine RL_p (xa (ii 4)) ?_
  refine W_ret ?_
  obtain rfl := Option.some.inj hm
  exact ⟨[.agg L68_0.toArray, ii 4], (.cellA (by rfl) ag50 (H.c 0) (by rfl) (.tmp (by rfl) rfl)), rfl, H.none_⟩
 have hm := cond_f hb hm
 refine W_skip ?_
 refine W_seq ?_
 refine Wr ?_
 refine RL_p (xm (.slice A1 a0.length cp2)) ?_
 refine RL_p (x_len sl42 (by rfl)) ?_
 refine RL_p (xm (ii 0)) ?_
 refine W_block ?_
 refine W_loop (fun k1 r' w' => ∃ (y19_1 : Int), m68_l1 K a0 k1 y19_1 = some res ∧ Agr [(0, .slice A1 a0.length cp2), (2, pp b5), (17, .slice A1 a0.length cp2), (18, ii (a0.length : Int)), (19, ii y19_1)] r' ∧ S68_0 ok w w' b5 A1 cp2 a0) K ?_ ?_
 ·exact ⟨0, hm, ⟨rfl, rfl, rfl, rfl, rfl, trivial⟩, H⟩
 rintro k1 r' w' ⟨y19_1, hm, hA, H⟩
 obtain ⟨r11, rfl⟩ := regen _ hA; clear hA
 obtain ⟨w12, rfl⟩ := wld w'
 cases k1 with
 | zero => exact (none_some hm).elim
 | succ k1 =>
  have hm : m68_l1b K a0 (m68_l1 K a0 k1) y19_1 = some res := hm
  unfold m68_l1b at hm
  obtain ⟨rec1, hrec1⟩ : ∃ f, m68_l1 K a0 k1 = f := ⟨_, rfl⟩
  rw [hrec1] at hm
  refine Wr ?_
  refine RL_p (xL) ?_
  refine W_seq ?_
  refine Wc (fun hb => ?_) (fun hb => ?_)
  ·have hm := cond_t hb hm
   refine W_skip ?_
   refine W_seq ?_
   refine W_block ?_
   refine Wr ?_
   obtain ⟨el13, h14, h15, he16, hm⟩ := idx_some hm
   obtain ⟨g18, o19, hA17⟩ := (H.rd (i := 0) (by rfl)).addr he16
   refine RL_p (x_indexAddr sl42 sz27 (by rfl) (by rfl) hA17 h14 h15) ?_
   refine RL_p (xA 0 (L68_1 el13) ag27 (Rd.flatAt (n := 3) (H.rd (i := 0) (by rfl)) hA17 he16)) ?_
   refine RL_cons (OA ze27 H (fun w21 b20 (H : Sep ok w w21 [.blk b5 50 L68_0, .blk b20 27 [ii 0, ii 0, ii 0]] [RE.rd k_Vec A1 cp2 a0]) => ?_))
   refine RL_cons (OS 1 0 (L68_1 el13) sz27 H (fun w22 (H : S68_1 ok w w22 b5 b20 el13 A1 cp2 a0) => ?_))
   refine Wr ?_
   refine RL_p (xf fo27_0) ?_
   refine RL_p (xl 0 (ii el13.X) sc3 (H.c 1)) ?_
   obtain ⟨v24, hv23, hm⟩ := bind_some hm
   refine RL_cons (OC (xc [ii el13.X] (cf38 _ _)) (c38 okT K w22 el13.X  v24 hv23) ?_)
   rintro e w25 ⟨rfl, H2⟩
   have H : S68_1 ok w w25 b5 b20 el13 A1 cp2 a0 := H.below H2.base
   clear H2
   refine ⟨_, rfl, ?_⟩
   refine RL_p (x_not (by rfl)) ?_
   refine RL_p (xm (.bool (!v24))) ?_
   obtain ⟨b26, hmS, hm⟩ := bind_some hm
   refine RL_cut 5 (fun r' w' => Agr [(32, .bool b26), (0, .slice A1 a0.length cp2), (2, pp b5), (5, pp b20), (17, .slice A1 a0.length cp2), (18, ii (a0.length : Int)), (19, ii y19_1)] r' ∧ S68_1 ok w w' b5 b20 el13 A1 cp2 a0) ?_ ?_
   ·cases hbS : (!v24)
    ·have hm := cond_f hbS hmS
     refine RQ (xf fo27_1) ?_
     refine RQ (xl 1 (ii el13.Y) sc3 (H.c 1)) ?_
     obtain ⟨v28, hv27, hm⟩ := bind_some hm
     refine RL_cons (O_call (by exact wn1 rfl rfl rfl rfl) (by rfl) (by rfl) (xc [ii el13.Y] (cf38 _ _)) (c38 okT K w25 el13.Y  v28 hv27) ?_)
     rintro e w29 ⟨rfl, H2⟩
     have H : S68_1 ok w w29 b5 b20 el13 A1 cp2 a0 := H.below H2.base
     clear H2
     refine ⟨_, rfl, ?_⟩
     refine RQ (x_not (by rfl)) ?_
     refine RL_p (xF (.bool (!v28))) ?_
     refine RL_nil ?_
     exact ⟨⟨congrArg Value.bool (Option.some.inj hm), rfl, rfl, rfl, rfl, rfl, rfl, trivial⟩, H⟩
    have hm := cond_t hbS hmS
    refine RO ?_
    refine RO ?_
    refine RO ?_
    refine RO ?_
    refine RL_p (xT (.bool true)) ?_
    refine RL_nil ?_
    exact ⟨⟨congrArg Value.bool (Option.some.inj hm), rfl, rfl, rfl, rfl, rfl, rfl, trivial⟩, H⟩
   rintro r' w' ⟨hA, H⟩
   obtain ⟨r30, rfl⟩ := regen _ hA; clear hA
   obtain ⟨w31, rfl⟩ := wld w'
   refine RL_p (xm (.bool b26)) ?_
   obtain ⟨b32, hmS, hm⟩ := bind_some hm
   refine RL_cut 5 (fun r' w' => Agr [(38, .bool b32), (0, .slice A1 a0.length cp2), (2, pp b5), (17, .slice A1 a0.length cp2), (18, ii (a0.length : Int)), (19, ii y19_1)] r' ∧ S68_1 ok w w' b5 b20 el13 A1 cp2 a0) ?_ ?_
   ·cases hbS : b26
    ·have hm := cond_f hbS hmS
     refine RQ (xf fo27_2) ?_
     refine RQ (xl 2 (ii el13.Z) sc3 (H.c 1)) ?_
     obtain ⟨v34, hv33, hm⟩ := bind_some hm
     refine RL_cons (O_call (by exact wn1 rfl rfl rfl rfl) (by rfl) (by rfl) (xc [ii el13.Z] (cf38 _ _)) (c38 okT K w31 el13.Z  v34 hv33) ?_)
     rintro e w35 ⟨rfl, H2⟩
     have H : S68_1 ok w w35 b5 b20 el13 A1 cp2 a0 := H.below H2.base
     clear H2
     refine ⟨_, rfl, ?_⟩
     refine RQ (x_not (by rfl)) ?_
     refine RL_p (xF (.bool (!v34))) ?_
     refine RL_nil ?_
     exact ⟨⟨congrArg Value.bool (Option.some.inj hm), rfl, rfl, rfl, rfl, rfl, trivial⟩, H⟩
    have hm := cond_t hbS hmS
    refine RO ?_
    refine RO ?_
    refine RO ?_
    refine RO ?_
    refine RL_p (xT (.bool true)) ?_
    refine RL_nil ?_
    exact ⟨⟨congrArg Value.bool (Option.some.inj hm), rfl, rfl, rfl, rfl, rfl, trivial⟩, H⟩
   rintro r' w' ⟨hA, H⟩
   obtain ⟨r36, rfl⟩ := regen _ hA; clear hA
   obtain ⟨w37, rfl⟩ := wld w'
   show RL _ _ _ _ _ _ _
   refine Wc (fun hb => ?_) (fun hb => ?_)
   ·have hm := cond_t hb hm
    refine Wr ?_
    refine RL_p (x_build (vs := []) (cs := L68_0) (by rfl) (by kernel_rfl)) ?_
    refine RL_cons (OS 0 0 L68_0 sz50 H (fun w38 (H : S68_1 ok w w38 b5 b20 el13 A1 cp2 a0) => ?_))
    refine RL_p (xa (ii 20)) ?_
    refine W_ret ?_
    obtain rfl := Option.some.inj hm
    exact ⟨[.agg L68_0.toArray, ii 20], (.cellA (by rfl) ag50 (H.c 0) (by rfl) (.tmp (by rfl) rfl)), rfl, H.none_⟩
   have hm := cond_f hb hm
   refine W_skip ?_
   refine W_region ?_
   obtain ⟨x39, ex39, qx39, ux39, hm⟩ := ck_some hm
   refine RL_p (xP ux39) ?_
   refine RL_p (xm (ii x39)) ?_
   refine RL_nil ?_
   subst hrec1
   exact ⟨k1, Nat.lt_succ_self k1, x39, hm, ⟨rfl, rfl, rfl, rfl, rfl, trivial⟩, (H).takeL 1⟩
  have hm := cond_f hb hm
  refine W_exit ?_
  refine W_seq ?_
  refine W_draw [.free 0, .free 1, .take 2, .free 3, .free 4, .take 5, .free 6, .tail 7] (fun wS => S68_0 ok w wS b5 A1 cp2 a0) [7] [0, 1, 3, 4, 6] mixed0 (by kernel_rfl) (by kernel_rfl) (by kernel_rfl) (by rfl) (by exact H.drew) ?_
  obtain ⟨w40, hW⟩ : ∃ W : World, W = { w12 with drawn := w12.drawn + 1 } := ⟨_, rfl⟩
  rw [← hW]
  have H : S68_0 ok w w40 b5 A1 cp2 a0 := by rw [hW]; exact H.drew
  clear hW
  refine PF (a := xm (.slice A1 a0.length cp2)) (b := ?_)
  obtain ⟨el41, h42, h43, he44, hm⟩ := idx_some hm
  obtain ⟨g46, o47, hA45⟩ := (H.rd (i := 0) (by rfl)).addr he44
  refine PF (a := x_indexAddr sl42 sz27 (by rfl) (by rfl) hA45 h42 h43) (b := ?_)
  refine PT' (a := fun H => xA 0 (L68_1 el41) ag27 (Rd.flatAt (n := 3) (H.rd (i := 0) (by rfl)) hA45 he44)) (b := ?_)
  refine PF (a := xm (.slice A1 a0.length cp2)) (b := ?_)
  obtain ⟨el48, h49, h50, he51, hm⟩ := idx_some hm
  obtain ⟨g53, o54, hA52⟩ := (H.rd (i := 0) (by rfl)).addr he51
  refine PF (a := x_indexAddr sl42 sz27 (by rfl) (by rfl) hA52 h49 h50) (b := ?_)
  refine PT' (a := fun H => xA 0 (L68_1 el48) ag27 (Rd.flatAt (n := 3) (H.rd (i := 0) (by rfl)) hA52 he51)) (b := ?_)
  refine PF (a := x_build (vs := [(0, .agg (L68_1 el41).toArray), (1, .agg (L68_1 el48).toArray)]) (cs := (L68_2 el41 el48)) (by rfl) (by kernel_rfl)) (b := ?_)
  refine PL (a := OS 0 0 (L68_2 el41 el48) sz50 H (fun w55 (H : Sep ok w w55 [.blk b5 50 (L68_2 el41 el48)] [RE.rd k_Vec A1 cp2 a0]) => ?_))
  refine PR_nil ?_
  refine W_seq ?_
  refine Wr ?_
  refine RL_p (xm (.slice A1 a0.length cp2)) ?_
  obtain ⟨h56, h57, hm⟩ := slg_some hm
  have H : Sep ok w w55 [.blk b5 50 (L68_2 el41 el48)] [RE.rd k_Vec A1 cp2 a0, RE.rd k_Vec (slA A1 cp2 ((1 : Int).toNat) 3) (cp2 - (1 : Int).toNat) (a0.drop ((1 : Int).toNat))] := Sep.also H (re := RE.rd k_Vec (slA A1 cp2 ((1 : Int).toNat) 3) (cp2 - (1 : Int).toNat) (a0.drop ((1 : Int).toNat))) (Rd.dropN (K := k_Vec) (H.rd (i := 0) (by rfl)))
  refine RL_p (x_slice_loL sl42 sz27 (by rfl) (by rfl) h56 h57) ?_
  refine RL_p (x_len sl42 (by rfl)) ?_
  refine RL_p (xm (ii 0)) ?_
  refine W_block ?_
  refine W_loop (fun k2 r' w' => ∃ (b5_0_2 : Int), ∃ (b5_1_2 : Int), ∃ (b5_2_2 : Int), ∃ (b5_3_2 : Int), ∃ (b5_4_2 : Int), ∃ (b5_5_2 : Int), ∃ (y51_2 : Int), m68_l2 K a0 k2 b5_0_2 b5_1_2 b5_2_2 b5_3_2 b5_4_2 b5_5_2 y51_2 = some res ∧ Agr [(2, pp b5), (49, .slice (slA A1 cp2 ((1 : Int).toNat) 3) (a0.drop ((1 : Int).toNat)).length (cp2 - (1 : Int).toNat)), (50, ii ((a0.drop ((1 : Int).toNat)).length : Int)), (51, ii y51_2)] r' ∧ Sep ok w w' [.blk b5 50 [ii b5_0_2, ii b5_1_2, ii b5_2_2, ii b5_3_2, ii b5_4_2, ii b5_5_2]] [RE.rd k_Vec A1 cp2 a0, RE.rd k_Vec (slA A1 cp2 ((1 : Int).toNat) 3) (cp2 - (1 : Int).toNat) (a0.drop ((1 : Int).toNat))]) K ?_ ?_
  ·exact ⟨el41.X, el41.Y, el41.Z, el48.X, el48.Y, el48.Z, 0, hm, ⟨rfl, rfl, rfl, rfl, trivial⟩, H⟩
  rintro k2 r' w' ⟨b5_0_2, b5_1_2, b5_2_2, b5_3_2, b5_4_2, b5_5_2, y51_2, hm, hA, H⟩
  obtain ⟨r60, rfl⟩ := regen _ hA; clear hA
  obtain ⟨w61, rfl⟩ := wld w'
  cases k2 with
  | zero => exact (none_some hm).elim
  | succ k2 =>
   have hm : m68_l2b K a0 (m68_l2 K a0 k2) b5_0_2 b5_1_2 b5_2_2 b5_3_2 b5_4_2 b5_5_2 y51_2 = some res := hm
   unfold m68_l2b at hm
   obtain ⟨rec2, hrec2⟩ : ∃ f, m68_l2 K a0 k2 = f := ⟨_, rfl⟩
   rw [hrec2] at hm
   refine Wr ?_
   refine RL_p (xL) ?_
   refine W_seq ?_
   refine Wc (fun hb => ?_) (fun hb => ?_)
   ·have hm := cond_t hb hm
    refine W_skip ?_
    refine W_seq ?_
    refine W_block ?_
    refine Wr ?_
    obtain ⟨el62, h63, h64, he65, hm⟩ := idx_some hm
    obtain ⟨g67, o68, hA66⟩ := (H.rd (i := 1) (by rfl)).addr he65
    refine RL_p (x_indexAddr sl42 sz27 (by rfl) (by rfl) hA66 h63 h64) ?_
    refine RL_p (xA 0 (L68_1 el62) ag27 (Rd.flatAt (n := 3) (H.rd (i := 1) (by rfl)) hA66 he65)) ?_
    refine RL_cons (OA ze27 H (fun w70 b69 (H : Sep ok w w70 [.blk b5 50 (L68_3 b5_0_2 b5_1_2 b5_2_2 b5_3_2 b5_4_2 b5_5_2), .blk b69 27 [ii 0, ii 0, ii 0]] [RE.rd k_Vec A1 cp2 a0, RE.rd k_Vec (slA A1 cp2 ((1 : Int).toNat) 3) (cp2 - (1 : Int).toNat) (a0.drop ((1 : Int).toNat))]) => ?_))
    refine RL_cons (OS 1 0 (L68_1 el62) sz27 H (fun w71 (H : Sep ok w w71 [.blk b5 50 (L68_3 b5_0_2 b5_1_2 b5_2_2 b5_3_2 b5_4_2 b5_5_2), .blk b69 27 (L68_1 el62)] [RE.rd k_Vec A1 cp2 a0, RE.rd k_Vec (slA A1 cp2 ((1 : Int).toNat) 3) (cp2 - (1 : Int).toNat) (a0.drop ((1 : Int).toNat))]) => ?_))
    refine W_region ?_
    refine RL_p (xA 0 (L68_3 b5_0_2 b5_1_2 b5_2_2 b5_3_2 b5_4_2 b5_5_2) ag50 (H.c 0)) ?_
    refine RL_p (xA 0 (L68_1 el62) ag27 (H.c 1)) ?_
    refine RL_p (xA 0 (L68_1 el62) ag27 (H.c 1)) ?_
    refine RL_p (x_build (vs := [(0, .agg (L68_1 el62).toArray), (1, .agg (L68_1 el62).toArray)]) (cs := (L68_4 el62)) (by rfl) (by kernel_rfl)) ?_
    obtain ⟨v73, hv72, hm⟩ := bind_some hm
    refine RL_cons (OC (xc [.agg (L68_3 b5_0_2 b5_1_2 b5_2_2 b5_3_2 b5_4_2 b5_5_2).toArray, .agg (L68_4 el62).toArray] (cf75 _ _)) (c75 okT K w71 (⟨(⟨b5_0_2, b5_1_2, b5_2_2⟩ : S_Vec), (⟨b5_3_2, b5_4_2, b5_5_2⟩ : S_Vec)⟩ : S_Box) (⟨el62, el62⟩ : S_Box)  v73 hv72) ?_)
    rintro e w74 ⟨rfl, H2⟩
    have H : Sep ok w w74 [.blk b5 50 (L68_3 b5_0_2 b5_1_2 b5_2_2 b5_3_2 b5_4_2 b5_5_2), .blk b69 27 (L68_1 el62)] [RE.rd k_Vec A1 cp2 a0, RE.rd k_Vec (slA A1 cp2 ((1 : Int).toNat) 3) (cp2 - (1 : Int).toNat) (a0.drop ((1 : Int).toNat))] := H.below H2.base
    clear H2
    refine ⟨_, rfl, ?_⟩
    refine RL_cons (OS 0 0 (L68_5 v73) sz50 H (fun w75 (H : Sep ok w w75 [.blk b5 50 (L68_5 v73), .blk b69 27 (L68_1 el62)] [RE.rd k_Vec A1 cp2 a0, RE.rd k_Vec (slA A1 cp2 ((1 : Int).toNat) 3) (cp2 - (1 : Int).toNat) (a0.drop ((1 : Int).toNat))]) => ?_))
    refine W_region ?_
    obtain ⟨x76, ex76, qx76, ux76, hm⟩ := ck_some hm
    refine RL_p (xP ux76) ?_
    refine RL_p (xm (ii x76)) ?_
    refine RL_nil ?_
    subst hrec2
    exact ⟨k2, Nat.lt_succ_self k2, v73.Low.X, v73.Low.Y, v73.Low.Z, v73.High.X, v73.High.Y, v73.High.Z, x76, hm, ⟨rfl, rfl, rfl, rfl, trivial⟩, (H).takeL 1⟩
   have hm := cond_f hb hm
   refine W_exit ?_
   refine W_seq ?_
   have H : Sep ok w w61 [.blk b5 50 (L68_3 b5_0_2 b5_1_2 b5_2_2 b5_3_2 b5_4_2 b5_5_2)] [] := (H.pick [])
   refine W_region ?_
   refine RL_p (xA 0 (L68_3 b5_0_2 b5_1_2 b5_2_2 b5_3_2 b5_4_2 b5_5_2) ag50 (H.c 0)) ?_
   refine RL_cons (OS 0 0 (L68_3 b5_0_2 b5_1_2 b5_2_2 b5_3_2 b5_4_2 b5_5_2) sz50 H (fun w77 (H : Sep ok w w77 [.blk b5 50 (L68_3 b5_0_2 b5_1_2 b5_2_2 b5_3_2 b5_4_2 b5_5_2)] []) => ?_))
   refine RL_p (xa (ii 0)) ?_
   refine W_ret ?_
   obtain rfl := Option.some.inj hm
   exact ⟨[.agg (L68_3 b5_0_2 b5_1_2 b5_2_2 b5_3_2 b5_4_2 b5_5_2).toArray, ii 0], (.cellA (by rfl) ag50 (H.c 0) (by rfl) (.tmp (by rfl) rfl)), rfl, H.none_⟩
end Go.Proofs.YtobkigllalbkiaaV.D

/- A plain Lean function that answers as the Go function does (none: not told), and the proof that a call answers so. Written by program. -/
set_option linter.unusedVariables false
set_option maxRecDepth 100000
set_option maxHeartbeats 4000000
namespace Go.Proofs.YtobkigllalbkiaaV.D
open Go.RowKit Go.Proofs.YtobkigllalbkiaaV
abbrev L48_0 (q0 : Option Addr) (q1 : S_Item) (q2 : Nat) (q3 : Option Addr) (q4 : Nat) (q5 : Option Addr) (q6 : Nat) : List Value := [.slice q0 q1.Verts.length q2, .slice q3 q1.UV.length q4, .slice q5 q1.Tris.length q6, .int .u8 q1.Look.Color.a0, .int .u8 q1.Look.Color.a1, .int .u8 q1.Look.Color.a2, .int .u8 q1.Look.Color.a3, ii q1.Look.Texture, .int .u8 q1.Look.Cull, ii q1.Look.Bias, .bool q1.Look.Blend, ii q1.Look.Bin, ii q1.Box.Low.X, ii q1.Box.Low.Y, ii q1.Box.Low.Z, ii q1.Box.High.X, ii q1.Box.High.Y, ii q1.Box.High.Z]
abbrev L48_1 (q0 : S_Item) : List Value := [.int .u8 q0.Look.Color.a0, .int .u8 q0.Look.Color.a1, .int .u8 q0.Look.Color.a2, .int .u8 q0.Look.Color.a3, ii q0.Look.Texture, .int .u8 q0.Look.Cull, ii q0.Look.Bias, .bool q0.Look.Blend, ii q0.Look.Bin]
abbrev L48_2 (q0 : S_Vec) : List Value := [ii q0.X, ii q0.Y, ii q0.Z]
abbrev L48_3 (q0 : (Ar3 Int)) : List Value := [ii q0.a0, ii q0.a1, ii q0.a2]
abbrev L48_4 (q0 : S_Box × Int) : List Value := [ii q0.1.Low.X, ii q0.1.Low.Y, ii q0.1.Low.Z, ii q0.1.High.X, ii q0.1.High.Y, ii q0.1.High.Z]
abbrev L48_5  : List Value := [ii 0, ii 0, ii 0, ii 0, ii 0, ii 0]
abbrev L48_6 (q0 : S_Item) : List Value := [ii q0.Box.Low.X, ii q0.Box.Low.Y, ii q0.Box.Low.Z, ii q0.Box.High.X, ii q0.Box.High.Y, ii q0.Box.High.Z]
def m48_l2b (K : Nat) (a0 : S_Item) (a1 : Int) (rec2 : Int → Option (Bool)) (y84_2 : Int) : Option (Bool) :=
 (bif (decide (y84_2 < (a0.Tris.length : Int))) then (idx a0.Tris y84_2 fun el80 => ((bif (decide ((mn (mn el80.a0 el80.a1) el80.a2) < 0)) then some true else some (decide ((a0.Verts.length : Int) ≤ (mx (mx el80.a0 el80.a1) el80.a2)))).bind fun b90 => (bif b90 then some false else (ck (y84_2 + 1) fun x93 => (rec2 x93))))) else ((m68 K a0.Verts).bind fun v95 => ((bif (((v95.1.Low.X == a0.Box.Low.X) && ((v95.1.Low.Y == a0.Box.Low.Y) && (v95.1.Low.Z == a0.Box.Low.Z))) && ((v95.1.High.X == a0.Box.High.X) && ((v95.1.High.Y == a0.Box.High.Y) && (v95.1.High.Z == a0.Box.High.Z)))) then ((bif (v95.2 == 0) then some true else some ((a0.Verts.length : Int) == 0)).bind fun b101 => some b101) else some false).bind fun b100 => some b100)))
def m48_l2 (K : Nat) (a0 : S_Item) (a1 : Int) : Nat → Int → Option (Bool)
 | 0 => fun _ => none
 | k + 1 => m48_l2b K a0 a1 (m48_l2 K a0 a1 k)
def m48_l1b (K : Nat) (a0 : S_Item) (a1 : Int) (rec1 : Int → Option (Bool)) (y40_1 : Int) : Option (Bool) :=
 (bif (decide (y40_1 < (a0.Verts.length : Int))) then (idx a0.Verts y40_1 fun el29 => ((m23 K el29).bind fun v41 => ((bif (v41 != 0) then some true else (idx a0.UV y40_1 fun el44 => (idx a0.UV y40_1 fun el51 => some (decide ((mn el44.a0 el51.a1) < 0))))).bind fun b43 => ((bif b43 then some true else (idx a0.UV y40_1 fun el61 => (idx a0.UV y40_1 fun el68 => some (decide (255 < (mx el61.a0 el68.a1)))))).bind fun b60 => (bif b60 then some false else (ck (y40_1 + 1) fun x77 => (rec1 x77))))))) else m48_l2 K a0 a1 K 0)
def m48_l1 (K : Nat) (a0 : S_Item) (a1 : Int) : Nat → Int → Option (Bool)
 | 0 => fun _ => none
 | k + 1 => m48_l1b K a0 a1 (m48_l1 K a0 a1 k)
def m48 (K : Nat) (a0 : S_Item) (a1 : Int) : Option (Bool) :=
 ((bif (decide (64 < (a0.Verts.length : Int))) then some true else some ((a0.UV.length : Int) != (a0.Verts.length : Int))).bind fun b15 => ((bif b15 then some true else some (decide (64 < (a0.Tris.length : Int)))).bind fun b18 => ((bif b18 then some true else ((m67 K a0.Look a1).bind fun v23 => some (v23 != 0))).bind fun b21 => (bif b21 then some false else m48_l1 K a0 a1 K 0))))
abbrev S48_0 (q0 : Okp) (q1 q2 : World) (q3 : Nat) (q4 : Option Addr) (q5 : S_Item) (q6 : Nat) (q7 : Option Addr) (q8 : Nat) (q9 : Option Addr) (q10 : Nat) : Prop := Sep q0 q1 q2 [.blk q3 52 (L48_0 q4 q5 q6 q7 q8 q9 q10)] [RE.rd k_Vec q4 q6 q5.Verts, RE.rd k_Ar2_Int q7 q8 q5.UV, RE.rd k_Ar3_Int q9 q10 q5.Tris]
abbrev S48_1 (q0 : Okp) (q1 q2 : World) (q3 : Nat) (q4 : Option Addr) (q5 : S_Item) (q6 : Nat) (q7 : Option Addr) (q8 : Nat) (q9 : Option Addr) (q10 q11 : Nat) (q12 : S_Vec) : Prop := Sep q0 q1 q2 [.blk q3 52 (L48_0 q4 q5 q6 q7 q8 q9 q10), .blk q11 27 (L48_2 q12)] [RE.rd k_Vec q4 q6 q5.Verts, RE.rd k_Ar2_Int q7 q8 q5.UV, RE.rd k_Ar3_Int q9 q10 q5.Tris]
abbrev S48_2 (q0 : Okp) (q1 q2 : World) (q3 : Nat) (q4 : Option Addr) (q5 : S_Item) (q6 : Nat) (q7 : Option Addr) (q8 : Nat) (q9 : Option Addr) (q10 q11 : Nat) (q12 : S_Box × Int) : Prop := Sep q0 q1 q2 [.blk q3 52 (L48_0 q4 q5 q6 q7 q8 q9 q10), .blk q11 50 (L48_4 q12)] [RE.rd k_Vec q4 q6 q5.Verts, RE.rd k_Ar2_Int q7 q8 q5.UV, RE.rd k_Ar3_Int q9 q10 q5.Tris]
theorem c48 (ok : Okp) (K : Nat) (w : World) (a0 : S_Item) (A1 : Option Addr) (cp2 : Nat) (A5 : Option Addr) (cp6 : Nat) (A9 : Option Addr) (cp10 : Nat) (a1 : Int) (hR3 : Rd k_Vec w ok A1 cp2 a0.Verts) (hR7 : Rd k_Ar2_Int w ok A5 cp6 a0.UV) (hR11 : Rd k_Ar3_Int w ok A9 cp10 a0.Tris) (res : Bool) (hm : m48 K a0 a1 = some res) :
  Calls Tryd.prog 48 #[.agg (L48_0 A1 a0 cp2 A5 cp6 A9 cp10).toArray, ii a1] w (fun e w' => e = .returned (tup [.bool res]) ∧ Sep ok w w' [] []) := by
 refine calls_W (args := [.agg (L48_0 A1 a0 cp2 A5 cp6 A9 cp10).toArray, ii a1]) Tryd.func48 rfl Tryd.ntmps48 Tryd.results48 rfl fun r hr => ?_
 obtain ⟨r1, rfl⟩ := regen (r := r) [(0, .agg (L48_0 A1 a0 cp2 A5 cp6 A9 cp10).toArray), (1, ii a1)] ⟨hr 0 _ rfl, hr 1 _ rfl, trivial⟩
 have H : Sep ok w w [] [RE.rd k_Vec A1 cp2 a0.Verts, RE.rd k_Ar2_Int A5 cp6 a0.UV, RE.rd k_Ar3_Int A9 cp10 a0.Tris] := Sep.arg (Sep.arg (Sep.arg (Sep.start ok w) (re := RE.rd k_Vec A1 cp2 a0.Verts) rfl rfl hR3) (re := RE.rd k_Ar2_Int A5 cp6 a0.UV) rfl rfl hR7) (re := RE.rd k_Ar3_Int A9 cp10 a0.Tris) rfl rfl hR11
 unfold m48 at hm
 refine Wr ?_
 refine RL_cons (OB H (fun w14 b13 (H : S48_0 ok w w14 b13 A1 a0 cp2 A5 cp6 A9 cp10) => ?_))
 refine RL_p (xa (.bool false)) ?_
 refine Wr ?_
 refine RL_p (xf fo52_0) ?_
 refine RL_p (xl 0 (.slice A1 a0.Verts.length cp2) sc42 (H.c 0)) ?_
 refine RL_p (x_len sl42 (by rfl)) ?_
 refine RL_p (xa (ii (a0.Verts.length : Int))) ?_
 refine W_seq ?_
 refine Wr ?_
 refine RL_p (xm (ii (a0.Verts.length : Int))) ?_
 refine RL_p (xG) ?_
 refine RL_p (xm (.bool (decide (64 < (a0.Verts.length : Int))))) ?_
 obtain ⟨b15, hmS, hm⟩ := bind_some hm
 refine RL_cut 6 (fun r' w' => Agr [(23, .bool b15), (1, ii a1), (2, pp b13), (5, ii (a0.Verts.length : Int))] r' ∧ S48_0 ok w w' b13 A1 a0 cp2 A5 cp6 A9 cp10) ?_ ?_
 ·cases hbS : (decide (64 < (a0.Verts.length : Int)))
  ·have hm := cond_f hbS hmS
   refine RQ (xf fo52_1) ?_
   refine RQ (xl 1 (.slice A5 a0.UV.length cp6) sc43 (H.c 0)) ?_
   refine RQ (x_len sl43 (by rfl)) ?_
   refine RQ (xm (ii (a0.Verts.length : Int))) ?_
   refine RQ (xN) ?_
   refine RL_p (xF (.bool ((a0.UV.length : Int) != (a0.Verts.length : Int)))) ?_
   refine RL_nil ?_
   exact ⟨⟨congrArg Value.bool (Option.some.inj hm), rfl, rfl, rfl, trivial⟩, H⟩
  have hm := cond_t hbS hmS
  refine RO ?_
  refine RO ?_
  refine RO ?_
  refine RO ?_
  refine RO ?_
  refine RL_p (xT (.bool true)) ?_
  refine RL_nil ?_
  exact ⟨⟨congrArg Value.bool (Option.some.inj hm), rfl, rfl, rfl, trivial⟩, H⟩
 rintro r' w' ⟨hA, H⟩
 obtain ⟨r16, rfl⟩ := regen _ hA; clear hA
 obtain ⟨w17, rfl⟩ := wld w'
 refine RL_p (xm (.bool b15)) ?_
 obtain ⟨b18, hmS, hm⟩ := bind_some hm
 refine RL_cut 5 (fun r' w' => Agr [(29, .bool b18), (1, ii a1), (2, pp b13), (5, ii (a0.Verts.length : Int))] r' ∧ S48_0 ok w w' b13 A1 a0 cp2 A5 cp6 A9 cp10) ?_ ?_
 ·cases hbS : b15
  ·have hm := cond_f hbS hmS
   refine RQ (xf fo52_2) ?_
   refine RQ (xl 2 (.slice A9 a0.Tris.length cp10) sc44 (H.c 0)) ?_
   refine RQ (x_len sl44 (by rfl)) ?_
   refine RQ (xG) ?_
   refine RL_p (xF (.bool (decide (64 < (a0.Tris.length : Int))))) ?_
   refine RL_nil ?_
   exact ⟨⟨congrArg Value.bool (Option.some.inj hm), rfl, rfl, rfl, trivial⟩, H⟩
  have hm := cond_t hbS hmS
  refine RO ?_
  refine RO ?_
  refine RO ?_
  refine RO ?_
  refine RL_p (xT (.bool true)) ?_
  refine RL_nil ?_
  exact ⟨⟨congrArg Value.bool (Option.some.inj hm), rfl, rfl, rfl, trivial⟩, H⟩
 rintro r' w' ⟨hA, H⟩
 obtain ⟨r19, rfl⟩ := regen _ hA; clear hA
 obtain ⟨w20, rfl⟩ := wld w'
 refine RL_p (xm (.bool b18)) ?_
 obtain ⟨b21, hmS, hm⟩ := bind_some hm
 refine RL_cut 6 (fun r' w' => Agr [(36, .bool b21), (2, pp b13), (5, ii (a0.Verts.length : Int))] r' ∧ S48_0 ok w w' b13 A1 a0 cp2 A5 cp6 A9 cp10) ?_ ?_
 ·cases hbS : b18
  ·have hm := cond_f hbS hmS
   refine RQ (xf fo52_3) ?_
   refine RQ (xA 3 (L48_1 a0) ag48 (H.c 0)) ?_
   refine RQ (xm (ii a1)) ?_
   obtain ⟨v23, hv22, hm⟩ := bind_some hm
   refine RL_cons (O_call (by exact wn1 rfl rfl rfl rfl) (by rfl) (by rfl) (xc [.agg (L48_1 a0).toArray, ii a1] (cf67 _ _)) (c67 okT K w20 a0.Look a1  v23 hv22) ?_)
   rintro e w24 ⟨rfl, H2⟩
   have H : S48_0 ok w w24 b13 A1 a0 cp2 A5 cp6 A9 cp10 := H.below H2.base
   clear H2
   refine ⟨_, rfl, ?_⟩
   refine RQ (xN) ?_
   refine RL_p (xF (.bool (v23 != 0))) ?_
   refine RL_nil ?_
   exact ⟨⟨congrArg Value.bool (Option.some.inj hm), rfl, rfl, trivial⟩, H⟩
  have hm := cond_t hbS hmS
  refine RO ?_
  refine RO ?_
  refine RO ?_
  refine RO ?_
  refine RO ?_
  refine RL_p (xT (.bool true)) ?_
  refine RL_nil ?_
  exact ⟨⟨congrArg Value.bool (Option.some.inj hm), rfl, rfl, trivial⟩, H⟩
 rintro r' w' ⟨hA, H⟩
 obtain ⟨r25, rfl⟩ := regen _ hA; clear hA
 obtain ⟨w26, rfl⟩ := wld w'
 show RL _ _ _ _ _ _ _
 refine Wc (fun hb => ?_) (fun hb => ?_)
 ·have hm := cond_t hb hm
  refine W_seq ?_
  have H : Sep ok w w26 [] [] := ((H.takeL 0).pick [])
  refine W_region ?_
  refine RL_p (xa (.bool false)) ?_
  refine W_ret ?_
  obtain rfl := Option.some.inj hm
  exact ⟨[.bool false], (.tmp (by rfl) rfl), rfl, H.none_⟩
 have hm := cond_f hb hm
 refine W_skip ?_
 refine W_seq ?_
 refine Wr ?_
 refine RL_p (xf fo52_0) ?_
 refine RL_p (xl 0 (.slice A1 a0.Verts.length cp2) sc42 (H.c 0)) ?_
 refine RL_p (x_len sl42 (by rfl)) ?_
 refine RL_p (xm (ii 0)) ?_
 refine W_block ?_
 refine W_loop (fun k1 r' w' => ∃ (y40_1 : Int), m48_l1 K a0 a1 k1 y40_1 = some res ∧ Agr [(2, pp b13), (5, ii (a0.Verts.length : Int)), (38, .slice A1 a0.Verts.length cp2), (39, ii (a0.Verts.length : Int)), (40, ii y40_1)] r' ∧ S48_0 ok w w' b13 A1 a0 cp2 A5 cp6 A9 cp10) K ?_ ?_
 ·exact ⟨0, hm, ⟨rfl, rfl, rfl, rfl, rfl, trivial⟩, H⟩
 rintro k1 r' w' ⟨y40_1, hm, hA, H⟩
 obtain ⟨r27, rfl⟩ := regen _ hA; clear hA
 obtain ⟨w28, rfl⟩ := wld w'
 cases k1 with
 | zero => exact (none_some hm).elim
 | succ k1 =>
  have hm : m48_l1b K a0 a1 (m48_l1 K a0 a1 k1) y40_1 = some res := hm
  unfold m48_l1b at hm
  obtain ⟨rec1, hrec1⟩ : ∃ f, m48_l1 K a0 a1 k1 = f := ⟨_, rfl⟩
  rw [hrec1] at hm
  refine Wr ?_
  refine RL_p (xL) ?_
  refine W_seq ?_
  refine Wc (fun hb => ?_) (fun hb => ?_)
  ·have hm := cond_t hb hm
   refine W_skip ?_
   refine W_seq ?_
   refine W_block ?_
   refine Wr ?_
   refine RL_p (xm (ii y40_1)) ?_
   obtain ⟨el29, h30, h31, he32, hm⟩ := idx_some hm
   obtain ⟨g34, o35, hA33⟩ := (H.rd (i := 0) (by rfl)).addr he32
   refine RL_p (x_indexAddr sl42 sz27 (by rfl) (by rfl) hA33 h30 h31) ?_
   refine RL_p (xA 0 (L48_2 el29) ag27 (Rd.flatAt (n := 3) (H.rd (i := 0) (by rfl)) hA33 he32)) ?_
   refine RL_cons (OA ze27 H (fun w37 b36 (H : Sep ok w w37 [.blk b13 52 (L48_0 A1 a0 cp2 A5 cp6 A9 cp10), .blk b36 27 [ii 0, ii 0, ii 0]] [RE.rd k_Vec A1 cp2 a0.Verts, RE.rd k_Ar2_Int A5 cp6 a0.UV, RE.rd k_Ar3_Int A9 cp10 a0.Tris]) => ?_))
   refine RL_p (xa (ii y40_1)) ?_
   refine RL_cons (OS 1 0 (L48_2 el29) sz27 H (fun w38 (H : S48_1 ok w w38 b13 A1 a0 cp2 A5 cp6 A9 cp10 b36 el29) => ?_))
   refine W_seq ?_
   refine W_draw [.take 0, .run 1, .free 2, .free 3, .free 4, .take 5, .free 6, .free 7, .free 8, .take 9, .free 10, .take 11, .free 12, .free 13, .free 14, .take 15, .free 16, .free 17, .free 18, .free 19, .free 20, .take 21, .free 22, .free 23, .free 24, .take 25, .free 26, .take 27, .free 28, .free 29, .free 30, .take 31, .free 32, .free 33, .free 34] (fun wS => S48_1 ok w wS b13 A1 a0 cp2 A5 cp6 A9 cp10 b36 el29) [] [2, 3, 4, 6, 7, 8, 10, 12, 13, 14, 16, 17, 18, 19, 20, 22, 23, 24, 26, 28, 29, 30, 32, 33, 34] mixed0 (by kernel_rfl) (by kernel_rfl) (by kernel_rfl) (by rfl) (by exact H.drew) ?_
   obtain ⟨w39, hW⟩ : ∃ W : World, W = { w38 with drawn := w38.drawn + 1 } := ⟨_, rfl⟩
   rw [← hW]
   have H : S48_1 ok w w39 b13 A1 a0 cp2 A5 cp6 A9 cp10 b36 el29 := by rw [hW]; exact H.drew
   clear hW
   refine PT' (a := fun H => xA 0 (L48_2 el29) ag27 (H.c 1)) (b := ?_)
   obtain ⟨v41, hv40, hm⟩ := bind_some hm
   refine PU (a := OC (xc [.agg (L48_2 el29).toArray] (cf23 _ _)) (c23 okT K w39 el29  v41 hv40) ?_)
   rintro e w42 ⟨rfl, H2⟩
   have H : S48_1 ok w w42 b13 A1 a0 cp2 A5 cp6 A9 cp10 b36 el29 := H.below H2.base
   clear H2
   refine ⟨_, rfl, H, ?_⟩
   show PR _ _ _ _ _ _ _ _
   refine PF (a := xN) (b := ?_)
   refine PF (a := xm (.bool (v41 != 0))) (b := ?_)
   obtain ⟨b43, hmS, hm⟩ := bind_some hm
   refine PR_cut 15 (fun r' w' => Agr [(63, .bool b43), (2, pp b13), (5, ii (a0.Verts.length : Int)), (6, ii y40_1), (38, .slice A1 a0.Verts.length cp2), (39, ii (a0.Verts.length : Int)), (40, ii y40_1)] r' ∧ S48_1 ok w w' b13 A1 a0 cp2 A5 cp6 A9 cp10 b36 el29) ?_ ?_
   ·cases hbS : (v41 != 0)
    ·have hm := cond_f hbS hmS
     refine PF1 (a := xf fo52_1) (b := ?_)
     refine PT1 (a := fun H => xl 1 (.slice A5 a0.UV.length cp6) sc43 (H.c 0)) (b := ?_)
     refine PF1 (a := xm (ii y40_1)) (b := ?_)
     obtain ⟨el44, h45, h46, he47, hm⟩ := idx_some hm
     obtain ⟨g49, o50, hA48⟩ := (H.rd (i := 1) (by rfl)).addr he47
     refine PF1 (a := x_indexAddr sl43 sz128 (by rfl) (by rfl) hA48 h45 h46) (b := ?_)
     refine PF1 (a := xI ar128 sz3) (b := ?_)
     refine PT1 (a := fun H => xl 0 (ii el44.a0) sc3 (Rd.flatAt (n := 2) (H.rd (i := 1) (by rfl)) hA48 he47)) (b := ?_)
     refine PF1 (a := xf fo52_1) (b := ?_)
     refine PT1 (a := fun H => xl 1 (.slice A5 a0.UV.length cp6) sc43 (H.c 0)) (b := ?_)
     refine PF1 (a := xm (ii y40_1)) (b := ?_)
     obtain ⟨el51, h52, h53, he54, hm⟩ := idx_some hm
     obtain ⟨g56, o57, hA55⟩ := (H.rd (i := 1) (by rfl)).addr he54
     refine PF1 (a := x_indexAddr sl43 sz128 (by rfl) (by rfl) hA55 h52 h53) (b := ?_)
     refine PF1 (a := xI ar128 sz3) (b := ?_)
     refine PT1 (a := fun H => xl 1 (ii el51.a1) sc3 (Rd.flatAt (n := 2) (H.rd (i := 1) (by rfl)) hA55 he54)) (b := ?_)
     refine PF1 (a := x_min2 (by rfl) (by rfl)) (b := ?_)
     refine PF1 (a := xL) (b := ?_)
     refine PF (a := xF (.bool (decide ((mn el44.a0 el51.a1) < 0)))) (b := ?_)
     refine PR_nil ?_
     exact ⟨⟨congrArg Value.bool (Option.some.inj hm), rfl, rfl, rfl, rfl, rfl, rfl, trivial⟩, H⟩
    have hm := cond_t hbS hmS
    refine PG ?_
    refine PO ?_
    refine PG ?_
    refine PG ?_
    refine PG ?_
    refine PO ?_
    refine PG ?_
    refine PO ?_
    refine PG ?_
    refine PG ?_
    refine PG ?_
    refine PO ?_
    refine PG ?_
    refine PG ?_
    refine PF (a := xT (.bool true)) (b := ?_)
    refine PR_nil ?_
    exact ⟨⟨congrArg Value.bool (Option.some.inj hm), rfl, rfl, rfl, rfl, rfl, rfl, trivial⟩, H⟩
   rintro r' w' ⟨hA, H⟩
   obtain ⟨r58, rfl⟩ := regen _ hA; clear hA
   obtain ⟨w59, rfl⟩ := wld w'
   show PR _ _ _ _ _ _ _ _
   refine PF (a := xm (.bool b43)) (b := ?_)
   obtain ⟨b60, hmS, hm⟩ := bind_some hm
   refine PR_cut 15 (fun r' w' => Agr [(79, .bool b60), (2, pp b13), (5, ii (a0.Verts.length : Int)), (38, .slice A1 a0.Verts.length cp2), (39, ii (a0.Verts.length : Int)), (40, ii y40_1)] r' ∧ S48_1 ok w w' b13 A1 a0 cp2 A5 cp6 A9 cp10 b36 el29) ?_ ?_
   ·cases hbS : b43
    ·have hm := cond_f hbS hmS
     refine PF1 (a := xf fo52_1) (b := ?_)
     refine PT1 (a := fun H => xl 1 (.slice A5 a0.UV.length cp6) sc43 (H.c 0)) (b := ?_)
     refine PF1 (a := xm (ii y40_1)) (b := ?_)
     obtain ⟨el61, h62, h63, he64, hm⟩ := idx_some hm
     obtain ⟨g66, o67, hA65⟩ := (H.rd (i := 1) (by rfl)).addr he64
     refine PF1 (a := x_indexAddr sl43 sz128 (by rfl) (by rfl) hA65 h62 h63) (b := ?_)
     refine PF1 (a := xI ar128 sz3) (b := ?_)
     refine PT1 (a := fun H => xl 0 (ii el61.a0) sc3 (Rd.flatAt (n := 2) (H.rd (i := 1) (by rfl)) hA65 he64)) (b := ?_)
     refine PF1 (a := xf fo52_1) (b := ?_)
     refine PT1 (a := fun H => xl 1 (.slice A5 a0.UV.length cp6) sc43 (H.c 0)) (b := ?_)
     refine PF1 (a := xm (ii y40_1)) (b := ?_)
     obtain ⟨el68, h69, h70, he71, hm⟩ := idx_some hm
     obtain ⟨g73, o74, hA72⟩ := (H.rd (i := 1) (by rfl)).addr he71
     refine PF1 (a := x_indexAddr sl43 sz128 (by rfl) (by rfl) hA72 h69 h70) (b := ?_)
     refine PF1 (a := xI ar128 sz3) (b := ?_)
     refine PT1 (a := fun H => xl 1 (ii el68.a1) sc3 (Rd.flatAt (n := 2) (H.rd (i := 1) (by rfl)) hA72 he71)) (b := ?_)
     refine PF1 (a := x_max2 (by rfl) (by rfl)) (b := ?_)
     refine PF1 (a := xG) (b := ?_)
     refine PF (a := xF (.bool (decide (255 < (mx el61.a0 el68.a1))))) (b := ?_)
     refine PR_nil ?_
     exact ⟨⟨congrArg Value.bool (Option.some.inj hm), rfl, rfl, rfl, rfl, rfl, trivial⟩, H⟩
    have hm := cond_t hbS hmS
    refine PG ?_
    refine PO ?_
    refine PG ?_
    refine PG ?_
    refine PG ?_
    refine PO ?_
    refine PG ?_
    refine PO ?_
    refine PG ?_
    refine PG ?_
    refine PG ?_
    refine PO ?_
    refine PG ?_
    refine PG ?_
    refine PF (a := xT (.bool true)) (b := ?_)
    refine PR_nil ?_
    exact ⟨⟨congrArg Value.bool (Option.some.inj hm), rfl, rfl, rfl, rfl, rfl, trivial⟩, H⟩
   rintro r' w' ⟨hA, H⟩
   obtain ⟨r75, rfl⟩ := regen _ hA; clear hA
   obtain ⟨w76, rfl⟩ := wld w'
   show PR _ _ _ _ _ _ _ _
   refine PR_nil ?_
   refine Wc (fun hb => ?_) (fun hb => ?_)
   ·have hm := cond_t hb hm
    refine Wr ?_
    refine RL_p (xa (.bool false)) ?_
    refine W_ret ?_
    obtain rfl := Option.some.inj hm
    exact ⟨[.bool false], (.tmp (by rfl) rfl), rfl, H.none_⟩
   have hm := cond_f hb hm
   refine W_skip ?_
   refine W_region ?_
   obtain ⟨x77, ex77, qx77, ux77, hm⟩ := ck_some hm
   refine RL_p (xP ux77) ?_
   refine RL_p (xm (ii x77)) ?_
   refine RL_nil ?_
   subst hrec1
   exact ⟨k1, Nat.lt_succ_self k1, x77, hm, ⟨rfl, rfl, rfl, rfl, rfl, trivial⟩, (H).takeL 1⟩
  have hm := cond_f hb hm
  refine W_exit ?_
  refine W_seq ?_
  refine Wr ?_
  refine RL_p (xf fo52_2) ?_
  refine RL_p (xl 2 (.slice A9 a0.Tris.length cp10) sc44 (H.c 0)) ?_
  refine RL_p (x_len sl44 (by rfl)) ?_
  refine RL_p (xm (ii 0)) ?_
  refine W_block ?_
  refine W_loop (fun k2 r' w' => ∃ (y84_2 : Int), m48_l2 K a0 a1 k2 y84_2 = some res ∧ Agr [(2, pp b13), (5, ii (a0.Verts.length : Int)), (82, .slice A9 a0.Tris.length cp10), (83, ii (a0.Tris.length : Int)), (84, ii y84_2)] r' ∧ S48_0 ok w w' b13 A1 a0 cp2 A5 cp6 A9 cp10) K ?_ ?_
  ·exact ⟨0, hm, ⟨rfl, rfl, rfl, rfl, rfl, trivial⟩, H⟩
  rintro k2 r' w' ⟨y84_2, hm, hA, H⟩
  obtain ⟨r78, rfl⟩ := regen _ hA; clear hA
  obtain ⟨w79, rfl⟩ := wld w'
  cases k2 with
  | zero => exact (none_some hm).elim
  | succ k2 =>
   have hm : m48_l2b K a0 a1 (m48_l2 K a0 a1 k2) y84_2 = some res := hm
   unfold m48_l2b at hm
   obtain ⟨rec2, hrec2⟩ : ∃ f, m48_l2 K a0 a1 k2 = f := ⟨_, rfl⟩
   rw [hrec2] at hm
   refine Wr ?_
   refine RL_p (xL) ?_
   refine W_seq ?_
   refine Wc (fun hb => ?_) (fun hb => ?_)
   ·have hm := cond_t hb hm
    refine W_skip ?_
    refine W_seq ?_
    refine W_block ?_
    refine Wr ?_
    obtain ⟨el80, h81, h82, he83, hm⟩ := idx_some hm
    obtain ⟨g85, o86, hA84⟩ := (H.rd (i := 2) (by rfl)).addr he83
    refine RL_p (x_indexAddr sl44 sz28 (by rfl) (by rfl) hA84 h81 h82) ?_
    refine RL_p (xA 0 (L48_3 el80) ag28 (Rd.flatAt (n := 3) (H.rd (i := 2) (by rfl)) hA84 he83)) ?_
    refine RL_cons (OA ze28 H (fun w88 b87 (H : Sep ok w w88 [.blk b13 52 (L48_0 A1 a0 cp2 A5 cp6 A9 cp10), .blk b87 28 [ii 0, ii 0, ii 0]] [RE.rd k_Vec A1 cp2 a0.Verts, RE.rd k_Ar2_Int A5 cp6 a0.UV, RE.rd k_Ar3_Int A9 cp10 a0.Tris]) => ?_))
    refine RL_cons (OS 1 0 (L48_3 el80) sz28 H (fun w89 (H : Sep ok w w89 [.blk b13 52 (L48_0 A1 a0 cp2 A5 cp6 A9 cp10), .blk b87 28 (L48_3 el80)] [RE.rd k_Vec A1 cp2 a0.Verts, RE.rd k_Ar2_Int A5 cp6 a0.UV, RE.rd k_Ar3_Int A9 cp10 a0.Tris]) => ?_))
    refine Wr ?_
    refine RL_p (xI ar28 sz3) ?_
    refine RL_p (xl 0 (ii el80.a0) sc3 (H.c 1)) ?_
    refine RL_p (xI ar28 sz3) ?_
    refine RL_p (xl 1 (ii el80.a1) sc3 (H.c 1)) ?_
    refine RL_p (xI ar28 sz3) ?_
    refine RL_p (xl 2 (ii el80.a2) sc3 (H.c 1)) ?_
    refine RL_p (x_min3 (by rfl) (by rfl) (by rfl)) ?_
    refine RL_p (xL) ?_
    refine RL_p (xm (.bool (decide ((mn (mn el80.a0 el80.a1) el80.a2) < 0)))) ?_
    obtain ⟨b90, hmS, hm⟩ := bind_some hm
    refine RL_cut 10 (fun r' w' => Agr [(106, .bool b90), (2, pp b13), (5, ii (a0.Verts.length : Int)), (82, .slice A9 a0.Tris.length cp10), (83, ii (a0.Tris.length : Int)), (84, ii y84_2)] r' ∧ Sep ok w w' [.blk b13 52 (L48_0 A1 a0 cp2 A5 cp6 A9 cp10), .blk b87 28 (L48_3 el80)] [RE.rd k_Vec A1 cp2 a0.Verts, RE.rd k_Ar2_Int A5 cp6 a0.UV, RE.rd k_Ar3_Int A9 cp10 a0.Tris]) ?_ ?_
    ·cases hbS : (decide ((mn (mn el80.a0 el80.a1) el80.a2) < 0))
     ·have hm := cond_f hbS hmS
      refine RQ (xI ar28 sz3) ?_
      refine RQ (xl 0 (ii el80.a0) sc3 (H.c 1)) ?_
      refine RQ (xI ar28 sz3) ?_
      refine RQ (xl 1 (ii el80.a1) sc3 (H.c 1)) ?_
      refine RQ (xI ar28 sz3) ?_
      refine RQ (xl 2 (ii el80.a2) sc3 (H.c 1)) ?_
      refine RQ (x_max3 (by rfl) (by rfl) (by rfl)) ?_
      refine RQ (xm (ii (a0.Verts.length : Int))) ?_
      refine RQ (x_geq (by rfl) (by rfl)) ?_
      refine RL_p (xF (.bool (decide ((a0.Verts.length : Int) ≤ (mx (mx el80.a0 el80.a1) el80.a2))))) ?_
      refine RL_nil ?_
      exact ⟨⟨congrArg Value.bool (Option.some.inj hm), rfl, rfl, rfl, rfl, rfl, trivial⟩, H⟩
     have hm := cond_t hbS hmS
     refine RO ?_
     refine RO ?_
     refine RO ?_
     refine RO ?_
     refine RO ?_
     refine RO ?_
     refine RO ?_
     refine RO ?_
     refine RO ?_
     refine RL_p (xT (.bool true)) ?_
     refine RL_nil ?_
     exact ⟨⟨congrArg Value.bool (Option.some.inj hm), rfl, rfl, rfl, rfl, rfl, trivial⟩, H⟩
    rintro r' w' ⟨hA, H⟩
    obtain ⟨r91, rfl⟩ := regen _ hA; clear hA
    obtain ⟨w92, rfl⟩ := wld w'
    show RL _ _ _ _ _ _ _
    refine Wc (fun hb => ?_) (fun hb => ?_)
    ·have hm := cond_t hb hm
     refine Wr ?_
     refine RL_p (xa (.bool false)) ?_
     refine W_ret ?_
     obtain rfl := Option.some.inj hm
     exact ⟨[.bool false], (.tmp (by rfl) rfl), rfl, H.none_⟩
    have hm := cond_f hb hm
    refine W_skip ?_
    refine W_region ?_
    obtain ⟨x93, ex93, qx93, ux93, hm⟩ := ck_some hm
    refine RL_p (xP ux93) ?_
    refine RL_p (xm (ii x93)) ?_
    refine RL_nil ?_
    subst hrec2
    exact ⟨k2, Nat.lt_succ_self k2, x93, hm, ⟨rfl, rfl, rfl, rfl, rfl, trivial⟩, (H).takeL 1⟩
   have hm := cond_f hb hm
   refine W_exit ?_
   refine Wr ?_
   refine RL_p (xf fo52_0) ?_
   refine RL_p (xl 0 (.slice A1 a0.Verts.length cp2) sc42 (H.c 0)) ?_
   obtain ⟨v95, hv94, hm⟩ := bind_some hm
   refine RL_cons (OC (xc [.slice A1 a0.Verts.length cp2] (cf68 _ _)) (c68 okT K w79 a0.Verts A1 cp2 (H.rd (i := 0) (by rfl)).any v95 hv94) ?_)
   rintro e w96 ⟨rfl, H2⟩
   have H : S48_0 ok w w96 b13 A1 a0 cp2 A5 cp6 A9 cp10 := H.below H2.base
   clear H2
   refine ⟨_, rfl, ?_⟩
   refine RL_p (xm (tup [.agg (L48_4 v95).toArray, ii v95.2])) ?_
   refine RL_p (xe (.agg (L48_4 v95).toArray)) ?_
   refine RL_p (xe (ii v95.2)) ?_
   refine RL_cons (OA ze50 H (fun w98 b97 (H : Sep ok w w98 [.blk b13 52 (L48_0 A1 a0 cp2 A5 cp6 A9 cp10), .blk b97 50 L48_5] [RE.rd k_Vec A1 cp2 a0.Verts, RE.rd k_Ar2_Int A5 cp6 a0.UV, RE.rd k_Ar3_Int A9 cp10 a0.Tris]) => ?_))
   refine RL_cons (OS 1 0 (L48_4 v95) sz50 H (fun w99 (H : S48_2 ok w w99 b13 A1 a0 cp2 A5 cp6 A9 cp10 b97 v95) => ?_))
   refine RL_p (xa (ii v95.2)) ?_
   refine Wr ?_
   refine RL_p (xA 0 (L48_4 v95) ag50 (H.c 1)) ?_
   refine RL_p (xf fo52_4) ?_
   refine RL_p (xA 12 (L48_6 a0) ag50 (H.c 0)) ?_
   refine RL_p (x_eqls2 ep50 eg50 (by rfl) (by rfl) (b := (((v95.1.Low.X == a0.Box.Low.X) && ((v95.1.Low.Y == a0.Box.Low.Y) && (v95.1.Low.Z == a0.Box.Low.Z))) && ((v95.1.High.X == a0.Box.High.X) && ((v95.1.High.Y == a0.Box.High.Y) && (v95.1.High.Z == a0.Box.High.Z))))) (by rfl)) ?_
   refine RL_p (xm (.bool (((v95.1.Low.X == a0.Box.Low.X) && ((v95.1.Low.Y == a0.Box.Low.Y) && (v95.1.Low.Z == a0.Box.Low.Z))) && ((v95.1.High.X == a0.Box.High.X) && ((v95.1.High.Y == a0.Box.High.Y) && (v95.1.High.Z == a0.Box.High.Z)))))) ?_
   obtain ⟨b100, hmS, hm⟩ := bind_some hm
   refine RL_cut 7 (fun r' w' => Agr [(125, .bool b100)] r' ∧ S48_2 ok w w' b13 A1 a0 cp2 A5 cp6 A9 cp10 b97 v95) ?_ ?_
   ·cases hbS : (((v95.1.Low.X == a0.Box.Low.X) && ((v95.1.Low.Y == a0.Box.Low.Y) && (v95.1.Low.Z == a0.Box.Low.Z))) && ((v95.1.High.X == a0.Box.High.X) && ((v95.1.High.Y == a0.Box.High.Y) && (v95.1.High.Z == a0.Box.High.Z))))
    ·have hm := cond_f hbS hmS
     refine RO ?_
     refine RO ?_
     refine RO ?_
     refine RL_cons (OpR_off (by exact wn3 rfl rfl rfl) (by rfl) (by rfl) ?_)
     refine RL_cons (OpR_off (by exact wn3 rfl rfl rfl) (by rfl) (by rfl) ?_)
     refine RO ?_
     refine RL_p (xF (.bool false)) ?_
     refine RL_nil ?_
     exact ⟨⟨congrArg Value.bool (Option.some.inj hm), trivial⟩, H⟩
    have hm := cond_t hbS hmS
    refine RQ (xm (ii v95.2)) ?_
    refine RQ (x_eql (by rfl) (by rfl)) ?_
    refine RQ (xm (.bool (v95.2 == 0))) ?_
    obtain ⟨b101, hmS, hm⟩ := bind_some hm
    refine RL_cut 3 (fun r' w' => Agr [(124, .bool b101), (118, .bool true)] r' ∧ S48_2 ok w w' b13 A1 a0 cp2 A5 cp6 A9 cp10 b97 v95) ?_ ?_
    ·cases hbS : (v95.2 == 0)
     ·have hm := cond_f hbS hmS
      refine RQ (xm (ii (a0.Verts.length : Int))) ?_
      refine RQ (x_eql (by rfl) (by rfl)) ?_
      refine RQ (xF (.bool ((a0.Verts.length : Int) == 0))) ?_
      refine RL_nil ?_
      exact ⟨⟨congrArg Value.bool (Option.some.inj hm), rfl, trivial⟩, H⟩
     have hm := cond_t hbS hmS
     refine RO ?_
     refine RO ?_
     refine RQ (xT (.bool true)) ?_
     refine RL_nil ?_
     exact ⟨⟨congrArg Value.bool (Option.some.inj hm), rfl, trivial⟩, H⟩
    rintro r' w' ⟨hA, H⟩
    obtain ⟨r102, rfl⟩ := regen _ hA; clear hA
    obtain ⟨w103, rfl⟩ := wld w'
    refine RL_p (xT (.bool b101)) ?_
    refine RL_nil ?_
    exact ⟨⟨congrArg Value.bool (Option.some.inj hm), trivial⟩, H⟩
   rintro r' w' ⟨hA, H⟩
   obtain ⟨r104, rfl⟩ := regen _ hA; clear hA
   obtain ⟨w105, rfl⟩ := wld w'
   refine RL_p (xa (.bool b100)) ?_
   refine W_ret ?_
   obtain rfl := Option.some.inj hm
   exact ⟨[.bool b100], (.tmp (by rfl) rfl), rfl, H.none_⟩
end Go.Proofs.YtobkigllalbkiaaV.D

/- A plain Lean function that answers as the Go function does (none: not told), and the proof that a call answers so. Written by program. -/
set_option linter.unusedVariables false
set_option maxRecDepth 100000
set_option maxHeartbeats 4000000
namespace Go.Proofs.YtobkigllalbkiaaV.D
open Go.RowKit Go.Proofs.YtobkigllalbkiaaV
abbrev L47_0 (q0 : Option Addr) (q1 : S_Show) (q2 : Nat) (q3 : Option Addr) (q4 : Nat) : List Value := [.slice q0 q1.Items.length q2, .slice q3 q1.Textures.length q4]
abbrev L47_1 (q0 : Option Addr) (q1 : S_Item) (q2 : Nat) (q3 : Option Addr) (q4 : Nat) (q5 : Option Addr) (q6 : Nat) : List Value := [.slice q0 q1.Verts.length q2, .slice q3 q1.UV.length q4, .slice q5 q1.Tris.length q6, .int .u8 q1.Look.Color.a0, .int .u8 q1.Look.Color.a1, .int .u8 q1.Look.Color.a2, .int .u8 q1.Look.Color.a3, ii q1.Look.Texture, .int .u8 q1.Look.Cull, ii q1.Look.Bias, .bool q1.Look.Blend, ii q1.Look.Bin, ii q1.Box.Low.X, ii q1.Box.Low.Y, ii q1.Box.Low.Z, ii q1.Box.High.X, ii q1.Box.High.Y, ii q1.Box.High.Z]
def m47 (K : Nat) (a0 : S_Item) (f0 : S_Show) : Option (Bool) :=
 ((m48 K a0 (f0.Textures.length : Int)).bind fun v27 => some (!v27))
theorem c47 (ok : Okp) (K : Nat) (w : World) (a0 : S_Item) (A1 : Option Addr) (cp2 : Nat) (A5 : Option Addr) (cp6 : Nat) (A9 : Option Addr) (cp10 : Nat) (f0 : S_Show) (A13 : Option Addr) (cp14 : Nat) (A17 : Option Addr) (cp18 : Nat) (g21 : Nat) (hR3 : Rd k_Vec w ok A1 cp2 a0.Verts) (hR7 : Rd k_Ar2_Int w ok A5 cp6 a0.UV) (hR11 : Rd k_Ar3_Int w ok A9 cp10 a0.Tris) (hR15 : Rd k_Item w ok A13 cp14 f0.Items) (hR19 : Rd k_Texture w ok A17 cp18 f0.Textures) (hF22 : (RE.cells g21 (0) (L47_0 A13 f0 cp14 A17 cp18)).rel w ok) (res : Bool) (hm : m47 K a0 f0 = some res) :
  Calls Tryd.prog 47 #[.agg (L47_1 A1 a0 cp2 A5 cp6 A9 cp10).toArray, pp g21] w (fun e w' => e = .returned (tup [.bool res]) ∧ Sep ok w w' [] []) := by
 refine calls_W (args := [.agg (L47_1 A1 a0 cp2 A5 cp6 A9 cp10).toArray, pp g21]) Tryd.func47 rfl Tryd.ntmps47 Tryd.results47 rfl fun r hr => ?_
 obtain ⟨r1, rfl⟩ := regen (r := r) [(0, .agg (L47_1 A1 a0 cp2 A5 cp6 A9 cp10).toArray), (1, pp g21)] ⟨hr 0 _ rfl, hr 1 _ rfl, trivial⟩
 have H : Sep ok w w [] [RE.rd k_Vec A1 cp2 a0.Verts, RE.rd k_Ar2_Int A5 cp6 a0.UV, RE.rd k_Ar3_Int A9 cp10 a0.Tris, RE.rd k_Item A13 cp14 f0.Items, RE.rd k_Texture A17 cp18 f0.Textures, RE.cells g21 (0) (L47_0 A13 f0 cp14 A17 cp18)] := Sep.arg (Sep.arg (Sep.arg (Sep.arg (Sep.arg (Sep.arg (Sep.start ok w) (re := RE.rd k_Vec A1 cp2 a0.Verts) rfl rfl hR3) (re := RE.rd k_Ar2_Int A5 cp6 a0.UV) rfl rfl hR7) (re := RE.rd k_Ar3_Int A9 cp10 a0.Tris) rfl rfl hR11) (re := RE.rd k_Item A13 cp14 f0.Items) rfl rfl hR15) (re := RE.rd k_Texture A17 cp18 f0.Textures) rfl rfl hR19) (re := RE.cells g21 (0) (L47_0 A13 f0 cp14 A17 cp18)) rfl rfl hF22
 unfold m47 at hm
 refine Wr ?_
 refine RL_cons (OB H (fun w25 b24 (H : Sep ok w w25 [.blk b24 52 (L47_1 A1 a0 cp2 A5 cp6 A9 cp10)] [RE.rd k_Vec A1 cp2 a0.Verts, RE.rd k_Ar2_Int A5 cp6 a0.UV, RE.rd k_Ar3_Int A9 cp10 a0.Tris, RE.rd k_Item A13 cp14 f0.Items, RE.rd k_Texture A17 cp18 f0.Textures, RE.cells g21 (0) (L47_0 A13 f0 cp14 A17 cp18)]) => ?_))
 refine RL_p (xa (.bool false)) ?_
 refine Wr ?_
 refine RL_p (xA 0 (L47_1 A1 a0 cp2 A5 cp6 A9 cp10) ag52 (H.c 0)) ?_
 refine RL_p (xf fo25_1) ?_
 refine RL_p (xl 1 (.slice A17 f0.Textures.length cp18) sc23 (H.cellsR (i := 5) (by rfl))) ?_
 refine RL_p (x_len sl23 (by rfl)) ?_
 obtain ⟨v27, hv26, hm⟩ := bind_some hm
 refine RL_cons (OC (xc [.agg (L47_1 A1 a0 cp2 A5 cp6 A9 cp10).toArray, ii (f0.Textures.length : Int)] (cf48 _ _)) (c48 okT K w25 a0 A1 cp2 A5 cp6 A9 cp10 (f0.Textures.length : Int) (H.rd (i := 0) (by rfl)).any (H.rd (i := 1) (by rfl)).any (H.rd (i := 2) (by rfl)).any v27 hv26) ?_)
 rintro e w28 ⟨rfl, H2⟩
 have H : Sep ok w w28 [.blk b24 52 (L47_1 A1 a0 cp2 A5 cp6 A9 cp10)] [RE.rd k_Vec A1 cp2 a0.Verts, RE.rd k_Ar2_Int A5 cp6 a0.UV, RE.rd k_Ar3_Int A9 cp10 a0.Tris, RE.rd k_Item A13 cp14 f0.Items, RE.rd k_Texture A17 cp18 f0.Textures, RE.cells g21 (0) (L47_0 A13 f0 cp14 A17 cp18)] := H.below H2.base
 clear H2
 refine ⟨_, rfl, ?_⟩
 refine RL_p (x_not (by rfl)) ?_
 refine RL_p (xa (.bool (!v27))) ?_
 refine W_ret ?_
 obtain rfl := Option.some.inj hm
 exact ⟨[.bool (!v27)], (.tmp (by rfl) rfl), rfl, H.none_⟩
end Go.Proofs.YtobkigllalbkiaaV.D

/- A plain Lean function that answers as the Go function does (none: not told), and the proof that a call answers so. Written by program. -/
set_option linter.unusedVariables false
set_option maxRecDepth 100000
set_option maxHeartbeats 4000000
namespace Go.Proofs.YtobkigllalbkiaaV.D
open Go.RowKit Go.Proofs.YtobkigllalbkiaaV
abbrev L32_0 (q0 : Option Addr) (q1 : S_Show) (q2 : Nat) (q3 : Option Addr) (q4 : Nat) : List Value := [.slice q0 q1.Items.length q2, .slice q3 q1.Textures.length q4]
def m32 (K : Nat) (a0 : S_Show) : Option (Int) :=
 ((bif (decide (256 < (a0.Items.length : Int))) then some true else some (decide (16 < (a0.Textures.length : Int)))).bind fun b11 => (bif b11 then some 4 else ((m45 K a0.Textures).bind fun v15 => ((bif (v15 != 0) then some true else ((anyS (fun (_ : Unit) (x : S_Item) => (m47 K x a0).map fun b => (b, ())) () 0 a0.Items).bind fun v19 => some (decide (0 ≤ v19.1)))).bind fun b17 => (bif b17 then some 8 else some 0)))))
abbrev S32_0 (q0 : Okp) (q1 q2 : World) (q3 : Nat) (q4 : Option Addr) (q5 : S_Show) (q6 : Nat) (q7 : Option Addr) (q8 : Nat) : Prop := Sep q0 q1 q2 [.blk q3 25 (L32_0 q4 q5 q6 q7 q8)] [RE.rd k_Item q4 q6 q5.Items, RE.rd k_Texture q7 q8 q5.Textures]
theorem c32 (ok : Okp) (K : Nat) (w : World) (a0 : S_Show) (A1 : Option Addr) (cp2 : Nat) (A5 : Option Addr) (cp6 : Nat) (hR3 : Rd k_Item w ok A1 cp2 a0.Items) (hR7 : Rd k_Texture w ok A5 cp6 a0.Textures) (res : Int) (hm : m32 K a0 = some res) :
  Calls Tryd.prog 32 #[.agg (L32_0 A1 a0 cp2 A5 cp6).toArray] w (fun e w' => e = .returned (tup [ii res]) ∧ Sep ok w w' [] []) := by
 refine calls_W (args := [.agg (L32_0 A1 a0 cp2 A5 cp6).toArray]) Tryd.func32 rfl Tryd.ntmps32 Tryd.results32 rfl fun r hr => ?_
 obtain ⟨r1, rfl⟩ := regen (r := r) [(0, .agg (L32_0 A1 a0 cp2 A5 cp6).toArray)] ⟨hr 0 _ rfl, trivial⟩
 have H : Sep ok w w [] [RE.rd k_Item A1 cp2 a0.Items, RE.rd k_Texture A5 cp6 a0.Textures] := Sep.arg (Sep.arg (Sep.start ok w) (re := RE.rd k_Item A1 cp2 a0.Items) rfl rfl hR3) (re := RE.rd k_Texture A5 cp6 a0.Textures) rfl rfl hR7
 unfold m32 at hm
 refine Wr ?_
 refine RL_cons (OB H (fun w10 b9 (H : S32_0 ok w w10 b9 A1 a0 cp2 A5 cp6) => ?_))
 refine RL_p (xa (ii 0)) ?_
 refine W_seq ?_
 refine Wr ?_
 refine RL_p (xf fo25_0) ?_
 refine RL_p (xl 0 (.slice A1 a0.Items.length cp2) sc22 (H.c 0)) ?_
 refine RL_p (x_len sl22 (by rfl)) ?_
 refine RL_p (xG) ?_
 refine RL_p (xm (.bool (decide (256 < (a0.Items.length : Int))))) ?_
 obtain ⟨b11, hmS, hm⟩ := bind_some hm
 refine RL_cut 5 (fun r' w' => Agr [(12, .bool b11), (1, pp b9)] r' ∧ S32_0 ok w w' b9 A1 a0 cp2 A5 cp6) ?_ ?_
 ·cases hbS : (decide (256 < (a0.Items.length : Int)))
  ·have hm := cond_f hbS hmS
   refine RQ (xf fo25_1) ?_
   refine RQ (xl 1 (.slice A5 a0.Textures.length cp6) sc23 (H.c 0)) ?_
   refine RQ (x_len sl23 (by rfl)) ?_
   refine RQ (xG) ?_
   refine RL_p (xF (.bool (decide (16 < (a0.Textures.length : Int))))) ?_
   refine RL_nil ?_
   exact ⟨⟨congrArg Value.bool (Option.some.inj hm), rfl, trivial⟩, H⟩
  have hm := cond_t hbS hmS
  refine RO ?_
  refine RO ?_
  refine RO ?_
  refine RO ?_
  refine RL_p (xT (.bool true)) ?_
  refine RL_nil ?_
  exact ⟨⟨congrArg Value.bool (Option.some.inj hm), rfl, trivial⟩, H⟩
 rintro r' w' ⟨hA, H⟩
 obtain ⟨r12, rfl⟩ := regen _ hA; clear hA
 obtain ⟨w13, rfl⟩ := wld w'
 show RL _ _ _ _ _ _ _
 refine Wc (fun hb => ?_) (fun hb => ?_)
 ·have hm := cond_t hb hm
  refine W_seq ?_
  have H : Sep ok w w13 [] [] := ((H.takeL 0).pick [])
  refine W_region ?_
  refine RL_p (xa (ii 4)) ?_
  refine W_ret ?_
  obtain rfl := Option.some.inj hm
  exact ⟨[ii 4], (.tmp (by rfl) rfl), rfl, H.none_⟩
 have hm := cond_f hb hm
 refine W_skip ?_
 refine W_seq ?_
 refine Wr ?_
 refine RL_p (xf fo25_1) ?_
 refine RL_p (xl 1 (.slice A5 a0.Textures.length cp6) sc23 (H.c 0)) ?_
 obtain ⟨v15, hv14, hm⟩ := bind_some hm
 refine RL_cons (OC (xc [.slice A5 a0.Textures.length cp6] (cf45 _ _)) (c45 okT K w13 a0.Textures A5 cp6 (H.rd (i := 1) (by rfl)).any v15 hv14) ?_)
 rintro e w16 ⟨rfl, H2⟩
 have H : S32_0 ok w w16 b9 A1 a0 cp2 A5 cp6 := H.below H2.base
 clear H2
 refine ⟨_, rfl, ?_⟩
 refine RL_p (xN) ?_
 refine RL_p (xm (.bool (v15 != 0))) ?_
 obtain ⟨b17, hmS, hm⟩ := bind_some hm
 refine RL_cut 5 (fun r' w' => Agr [(22, .bool b17)] r' ∧ S32_0 ok w w' b9 A1 a0 cp2 A5 cp6) ?_ ?_
 ·cases hbS : (v15 != 0)
  ·have hm := cond_f hbS hmS
   refine RQ (xf fo25_0) ?_
   refine RQ (xl 0 (.slice A1 a0.Items.length cp2) sc22 (H.c 0)) ?_
   refine RQ (x_makeFunc (vs := [pp b9]) (by rfl)) ?_
   obtain ⟨v19, hv18, hm⟩ := bind_some hm
   refine RL_cons (O_call (by exact wn1 rfl rfl rfl rfl) (by rfl) (by rfl) (xc [.slice A1 a0.Items.length cp2, .func (.func 47) #[] #[pp b9]] (cf46 _ _)) (c46 (fun (_ : Unit) wS => S32_0 ok w wS b9 A1 a0 cp2 A5 cp6) (fun (_ : Unit) (x : S_Item) => (m47 K x a0).map fun b => (b, ())) 47 [] [pp b9] a0.Items A1 cp2 (fun _ wS (H : S32_0 ok w wS b9 A1 a0 cp2 A5 cp6) => (H.rd (i := 0) (by rfl)).any) cf47 (fun _ wS x xcs q (H : S32_0 ok w wS b9 A1 a0 cp2 A5 cp6) hk hq => by obtain ⟨xA0, xc0, xA1, xc1, xA2, xc2, rfl, xh0, xh1, xh2⟩ := hk; obtain ⟨b, hb, rfl⟩ := Option.map_eq_some_iff.1 hq; exact (c47 okT K wS x xA0 xc0 xA1 xc1 xA2 xc2 a0 A1 cp2 A5 cp6 b9 xh0 xh1 xh2 (H.rd (i := 0) (by rfl)).any (H.rd (i := 1) (by rfl)).any (H.blkRd (i := 0) (by rfl)) b hb).mono fun e w_ h => ⟨h.1, H.below h.2.base⟩) () w16 H v19 hv18) ?_)
   rintro e w20 ⟨rfl, H⟩
   have H : S32_0 ok w w20 b9 A1 a0 cp2 A5 cp6 := H
   refine ⟨_, rfl, ?_⟩
   refine RL_p (xF (.bool (decide (0 ≤ v19.1)))) ?_
   refine RL_nil ?_
   exact ⟨⟨congrArg Value.bool (Option.some.inj hm), trivial⟩, H⟩
  have hm := cond_t hbS hmS
  refine RO ?_
  refine RO ?_
  refine RO ?_
  refine RO ?_
  refine RL_p (xT (.bool true)) ?_
  refine RL_nil ?_
  exact ⟨⟨congrArg Value.bool (Option.some.inj hm), trivial⟩, H⟩
 rintro r' w' ⟨hA, H⟩
 obtain ⟨r21, rfl⟩ := regen _ hA; clear hA
 obtain ⟨w22, rfl⟩ := wld w'
 show RL _ _ _ _ _ _ _
 refine Wc (fun hb => ?_) (fun hb => ?_)
 ·have hm := cond_t hb hm
  refine W_seq ?_
  have H : Sep ok w w22 [] [] := ((H.takeL 0).pick [])
  refine W_region ?_
  refine RL_p (xa (ii 8)) ?_
  refine W_ret ?_
  obtain rfl := Option.some.inj hm
  exact ⟨[ii 8], (.tmp (by rfl) rfl), rfl, H.none_⟩
 have hm := cond_f hb hm
 refine W_skip ?_
 refine W_seq ?_
 have H : Sep ok w w22 [] [] := ((H.takeL 0).pick [])
 refine W_region ?_
 refine RL_p (xa (ii 0)) ?_
 refine W_ret ?_
 obtain rfl := Option.some.inj hm
 exact ⟨[ii 0], (.tmp (by rfl) rfl), rfl, H.none_⟩
end Go.Proofs.YtobkigllalbkiaaV.D

/- A plain Lean function that answers as the Go function does (none: not told), and the proof that a call answers so. Written by program. -/
set_option linter.unusedVariables false
set_option maxRecDepth 100000
set_option maxHeartbeats 4000000
namespace Go.Proofs.YtobkigllalbkiaaV.D
open Go.RowKit Go.Proofs.YtobkigllalbkiaaV
abbrev L20_0 (q0 : Option Addr) (q1 : S_Show) (q2 : Nat) (q3 : Option Addr) (q4 : Nat) : List Value := [.slice q0 q1.Items.length q2, .slice q3 q1.Textures.length q4]
abbrev L20_1 (q0 : S_Camera) : List Value := [ii q0.Pos.X, ii q0.Pos.Y, ii q0.Pos.Z, ii q0.M.a0.a0, ii q0.M.a0.a1, ii q0.M.a0.a2, ii q0.M.a1.a0, ii q0.M.a1.a1, ii q0.M.a1.a2, ii q0.M.a2.a0, ii q0.M.a2.a1, ii q0.M.a2.a2, ii q0.Focal, ii q0.Near, ii q0.W, ii q0.H]
def m20 (K : Nat) (a0 : S_Show) (a1 : S_Camera) : Option (Int) :=
 ((m32 K a0).bind fun v14 => (bif (v14 != 0) then some v14 else ((m14 K a1).bind fun v17 => some v17)))
theorem c20 (ok : Okp) (K : Nat) (w : World) (a0 : S_Show) (A1 : Option Addr) (cp2 : Nat) (A5 : Option Addr) (cp6 : Nat) (a1 : S_Camera) (hR3 : Rd k_Item w ok A1 cp2 a0.Items) (hR7 : Rd k_Texture w ok A5 cp6 a0.Textures) (res : Int) (hm : m20 K a0 a1 = some res) :
  Calls Tryd.prog 20 #[.agg (L20_0 A1 a0 cp2 A5 cp6).toArray, .agg (L20_1 a1).toArray] w (fun e w' => e = .returned (tup [ii res]) ∧ Sep ok w w' [] []) := by
 refine calls_W (args := [.agg (L20_0 A1 a0 cp2 A5 cp6).toArray, .agg (L20_1 a1).toArray]) Tryd.func20 rfl Tryd.ntmps20 Tryd.results20 rfl fun r hr => ?_
 obtain ⟨r1, rfl⟩ := regen (r := r) [(0, .agg (L20_0 A1 a0 cp2 A5 cp6).toArray), (1, .agg (L20_1 a1).toArray)] ⟨hr 0 _ rfl, hr 1 _ rfl, trivial⟩
 have H : Sep ok w w [] [RE.rd k_Item A1 cp2 a0.Items, RE.rd k_Texture A5 cp6 a0.Textures] := Sep.arg (Sep.arg (Sep.start ok w) (re := RE.rd k_Item A1 cp2 a0.Items) rfl rfl hR3) (re := RE.rd k_Texture A5 cp6 a0.Textures) rfl rfl hR7
 unfold m20 at hm
 refine Wr ?_
 refine RL_cons (OB H (fun w10 b9 (H : Sep ok w w10 [.blk b9 25 (L20_0 A1 a0 cp2 A5 cp6)] [RE.rd k_Item A1 cp2 a0.Items, RE.rd k_Texture A5 cp6 a0.Textures]) => ?_))
 refine RL_cons (OB H (fun w12 b11 (H : Sep ok w w12 [.blk b9 25 (L20_0 A1 a0 cp2 A5 cp6), .blk b11 31 (L20_1 a1)] [RE.rd k_Item A1 cp2 a0.Items, RE.rd k_Texture A5 cp6 a0.Textures]) => ?_))
 refine RL_p (xa (ii 0)) ?_
 refine W_seq ?_
 refine Wr ?_
 refine RL_p (xA 0 (L20_0 A1 a0 cp2 A5 cp6) ag25 (H.c 0)) ?_
 obtain ⟨v14, hv13, hm⟩ := bind_some hm
 refine RL_cons (OC (xc [.agg (L20_0 A1 a0 cp2 A5 cp6).toArray] (cf32 _ _)) (c32 okT K w12 a0 A1 cp2 A5 cp6 (H.rd (i := 0) (by rfl)).any (H.rd (i := 1) (by rfl)).any v14 hv13) ?_)
 rintro e w15 ⟨rfl, H2⟩
 have H : Sep ok w w15 [.blk b9 25 (L20_0 A1 a0 cp2 A5 cp6), .blk b11 31 (L20_1 a1)] [RE.rd k_Item A1 cp2 a0.Items, RE.rd k_Texture A5 cp6 a0.Textures] := H.below H2.base
 clear H2
 refine ⟨_, rfl, ?_⟩
 refine RL_p (xa (ii v14)) ?_
 refine W_seq ?_
 have H : Sep ok w w15 [.blk b11 31 (L20_1 a1)] [] := ((H.pickL [1] (by decide)).pick [])
 refine W_region ?_
 refine RL_p (xm (ii v14)) ?_
 refine RL_p (xN) ?_
 refine Wc (fun hb => ?_) (fun hb => ?_)
 ·have hm := cond_t hb hm
  refine Wr ?_
  refine RL_p (xm (ii v14)) ?_
  refine RL_p (xa (ii v14)) ?_
  refine W_ret ?_
  obtain rfl := Option.some.inj hm
  exact ⟨[ii v14], (.tmp (by rfl) rfl), rfl, H.none_⟩
 have hm := cond_f hb hm
 refine W_skip ?_
 refine Wr ?_
 refine RL_p (xA 0 (L20_1 a1) ag31 (H.c 0)) ?_
 obtain ⟨v17, hv16, hm⟩ := bind_some hm
 refine RL_cons (OC (xc [.agg (L20_1 a1).toArray] (cf14 _ _)) (c14 okT K w15 a1  v17 hv16) ?_)
 rintro e w18 ⟨rfl, H2⟩
 have H : Sep ok w w18 [.blk b11 31 (L20_1 a1)] [] := H.below H2.base
 clear H2
 refine ⟨_, rfl, ?_⟩
 refine RL_p (xa (ii v17)) ?_
 refine W_ret ?_
 obtain rfl := Option.some.inj hm
 exact ⟨[ii v17], (.tmp (by rfl) rfl), rfl, H.none_⟩
end Go.Proofs.YtobkigllalbkiaaV.D

/- A plain Lean function that answers as the Go function does (none: not told), and the proof that a call answers so. Written by program. -/
set_option linter.unusedVariables false
set_option maxRecDepth 100000
set_option maxHeartbeats 4000000
namespace Go.Proofs.YtobkigllalbkiaaV.D
open Go.RowKit Go.Proofs.YtobkigllalbkiaaV
abbrev L76_0 (q0 : (Ar3 (Ar3 Int))) : List Value := [ii q0.a0.a0, ii q0.a0.a1, ii q0.a0.a2, ii q0.a1.a0, ii q0.a1.a1, ii q0.a1.a2, ii q0.a2.a0, ii q0.a2.a1, ii q0.a2.a2]
abbrev L76_1 (q0 : (Ar3 (Ar3 Int))) : List Value := [ii q0.a0.a0, ii q0.a0.a1, ii q0.a0.a2]
abbrev L76_2 (q0 : (Ar3 (Ar3 Int))) : List Value := [ii q0.a1.a0, ii q0.a1.a1, ii q0.a1.a2]
abbrev L76_3 (q0 : (Ar3 (Ar3 Int))) : List Value := [ii q0.a2.a0, ii q0.a2.a1, ii q0.a2.a2]
def m76 (K : Nat) (a0 : (Ar3 (Ar3 Int))) : Option (Bool) :=
 ((m36 K 1024 ([a0.a0.a0, a0.a0.a1, a0.a0.a2])).bind fun v7 => (bif (!v7) then some false else ((m36 K 1024 ([a0.a1.a0, a0.a1.a1, a0.a1.a2])).bind fun v13 => (bif (!v13) then some false else ((m36 K 1024 ([a0.a2.a0, a0.a2.a1, a0.a2.a2])).bind fun v19 => (bif (!v19) then some false else some true))))))
theorem c76 (ok : Okp) (K : Nat) (w : World) (a0 : (Ar3 (Ar3 Int)))  (res : Bool) (hm : m76 K a0 = some res) :
  Calls Tryd.prog 76 #[.agg (L76_0 a0).toArray] w (fun e w' => e = .returned (tup [.bool res]) ∧ Sep ok w w' [] []) := by
 refine calls_W (args := [.agg (L76_0 a0).toArray]) Tryd.func76 rfl Tryd.ntmps76 Tryd.results76 rfl fun r hr => ?_
 obtain ⟨r1, rfl⟩ := regen (r := r) [(0, .agg (L76_0 a0).toArray)] ⟨hr 0 _ rfl, trivial⟩
 have H : Sep ok w w [] [] := Sep.start ok w
 unfold m76 at hm
 refine Wr ?_
 refine RL_cons (OB H (fun w2 b1 (H : Sep ok w w2 [.blk b1 29 (L76_0 a0)] []) => ?_))
 refine RL_p (xa (.bool false)) ?_
 refine W_seq ?_
 refine Wr ?_
 refine RL_p (xA 0 (L76_0 a0) ag29 (H.c 0)) ?_
 refine RL_p (xm (ii 0)) ?_
 refine W_block ?_
 refine W_unroll 40 ?_
 refine WU_succ ?_
 refine Wr ?_
 refine RL_p (xL) ?_
 refine W_seq ?_
 refine Wt ?_
 refine W_skip ?_
 refine W_seq ?_
 refine W_block ?_
 refine Wr ?_
 refine RL_p (xJ (L76_1 a0) ar29 ag28) ?_
 refine RL_cons (OA ze28 H (fun w4 b3 (H : Sep ok w w4 [.blk b1 29 (L76_0 a0), .blk b3 28 [ii 0, ii 0, ii 0]] []) => ?_))
 refine RL_cons (OS 1 0 (L76_1 a0) sz28 H (fun w5 (H : Sep ok w w5 [.blk b1 29 (L76_0 a0), .blk b3 28 (L76_1 a0)] []) => ?_))
 refine Wr ?_
 refine RL_p (x_sliceArr ar28 sz3 (by rfl)) ?_
 obtain ⟨v7, hv6, hm⟩ := bind_some hm
 refine RL_cons (OC (xc [ii 1024, .slice (some ⟨b3, 0, none⟩) 3 3] (cf36 _ _)) (c36 okT K w5 1024 ([a0.a0.a0, a0.a0.a1, a0.a0.a2]) (some ⟨b3, 0, none⟩) 3 (H.litRd (i := 1) (by rfl) (D := kInt) (xs := [a0.a0.a0, a0.a0.a1, a0.a0.a2]) (by exact ⟨rfl, rfl, rfl, rfl⟩) (by rfl)) v7 hv6) ?_)
 rintro e w8 ⟨rfl, H2⟩
 have H : Sep ok w w8 [.blk b1 29 (L76_0 a0), .blk b3 28 (L76_1 a0)] [] := H.below H2.base
 clear H2
 refine ⟨_, rfl, ?_⟩
 refine RL_p (x_not (by rfl)) ?_
 refine Wc (fun hb => ?_) (fun hb => ?_)
 ·have hm := cond_t hb hm
  refine Wr ?_
  refine RL_p (xa (.bool false)) ?_
  refine W_ret ?_
  obtain rfl := Option.some.inj hm
  exact ⟨[.bool false], (.tmp (by rfl) rfl), rfl, H.none_⟩
 have hm := cond_f hb hm
 refine W_skip ?_
 refine W_region ?_
 refine RL_p (xp 1) ?_
 refine RL_p (xm (ii 1)) ?_
 refine WU_succ ?_
 refine Wr ?_
 refine RL_p (xL) ?_
 refine W_seq ?_
 refine Wt ?_
 refine W_skip ?_
 refine W_seq ?_
 refine W_block ?_
 refine Wr ?_
 refine RL_p (xJ (L76_2 a0) ar29 ag28) ?_
 refine RL_cons (OA ze28 H (fun w10 b9 (H : Sep ok w w10 [.blk b1 29 (L76_0 a0), .blk b3 28 (L76_1 a0), .blk b9 28 [ii 0, ii 0, ii 0]] []) => ?_))
 refine RL_cons (OS 2 0 (L76_2 a0) sz28 H (fun w11 (H : Sep ok w w11 [.blk b1 29 (L76_0 a0), .blk b3 28 (L76_1 a0), .blk b9 28 (L76_2 a0)] []) => ?_))
 refine Wr ?_
 refine RL_p (x_sliceArr ar28 sz3 (by rfl)) ?_
 obtain ⟨v13, hv12, hm⟩ := bind_some hm
 refine RL_cons (OC (xc [ii 1024, .slice (some ⟨b9, 0, none⟩) 3 3] (cf36 _ _)) (c36 okT K w11 1024 ([a0.a1.a0, a0.a1.a1, a0.a1.a2]) (some ⟨b9, 0, none⟩) 3 (H.litRd (i := 2) (by rfl) (D := kInt) (xs := [a0.a1.a0, a0.a1.a1, a0.a1.a2]) (by exact ⟨rfl, rfl, rfl, rfl⟩) (by rfl)) v13 hv12) ?_)
 rintro e w14 ⟨rfl, H2⟩
 have H : Sep ok w w14 [.blk b1 29 (L76_0 a0), .blk b3 28 (L76_1 a0), .blk b9 28 (L76_2 a0)] [] := H.below H2.base
 clear H2
 refine ⟨_, rfl, ?_⟩
 refine RL_p (x_not (by rfl)) ?_
 refine Wc (fun hb => ?_) (fun hb => ?_)
 ·have hm := cond_t hb hm
  refine W_seq ?_
  have H : Sep ok w w14 [] [] := (H.takeL 0)
  refine W_region ?_
  refine RL_p (xa (.bool false)) ?_
  refine W_ret ?_
  obtain rfl := Option.some.inj hm
  exact ⟨[.bool false], (.tmp (by rfl) rfl), rfl, H.none_⟩
 have hm := cond_f hb hm
 refine W_skip ?_
 have H : Sep ok w w14 [] [] := (H.takeL 0)
 refine W_region ?_
 refine RL_p (xp 2) ?_
 refine RL_p (xm (ii 2)) ?_
 refine WU_succ ?_
 refine Wr ?_
 refine RL_p (xL) ?_
 refine W_seq ?_
 refine Wt ?_
 refine W_skip ?_
 refine W_seq ?_
 refine W_block ?_
 refine Wr ?_
 refine RL_p (xJ (L76_3 a0) ar29 ag28) ?_
 refine RL_cons (OA ze28 H (fun w16 b15 (H : Sep ok w w16 [.blk b15 28 [ii 0, ii 0, ii 0]] []) => ?_))
 refine RL_cons (OS 0 0 (L76_3 a0) sz28 H (fun w17 (H : Sep ok w w17 [.blk b15 28 (L76_3 a0)] []) => ?_))
 refine Wr ?_
 refine RL_p (x_sliceArr ar28 sz3 (by rfl)) ?_
 obtain ⟨v19, hv18, hm⟩ := bind_some hm
 refine RL_cons (OC (xc [ii 1024, .slice (some ⟨b15, 0, none⟩) 3 3] (cf36 _ _)) (c36 okT K w17 1024 ([a0.a2.a0, a0.a2.a1, a0.a2.a2]) (some ⟨b15, 0, none⟩) 3 (H.litRd (i := 0) (by rfl) (D := kInt) (xs := [a0.a2.a0, a0.a2.a1, a0.a2.a2]) (by exact ⟨rfl, rfl, rfl, rfl⟩) (by rfl)) v19 hv18) ?_)
 rintro e w20 ⟨rfl, H2⟩
 have H : Sep ok w w20 [.blk b15 28 (L76_3 a0)] [] := H.below H2.base
 clear H2
 refine ⟨_, rfl, ?_⟩
 refine RL_p (x_not (by rfl)) ?_
 refine Wc (fun hb => ?_) (fun hb => ?_)
 ·have hm := cond_t hb hm
  refine Wr ?_
  refine RL_p (xa (.bool false)) ?_
  refine W_ret ?_
  obtain rfl := Option.some.inj hm
  exact ⟨[.bool false], (.tmp (by rfl) rfl), rfl, H.none_⟩
 have hm := cond_f hb hm
 refine W_skip ?_
 refine W_region ?_
 refine RL_p (xp 3) ?_
 refine RL_p (xm (ii 3)) ?_
 refine WU_succ ?_
 refine Wr ?_
 refine RL_p (xL) ?_
 refine W_seq ?_
 refine Wf ?_
 refine W_exit ?_
 refine Wr ?_
 refine RL_p (xa (.bool true)) ?_
 refine W_ret ?_
 obtain rfl := Option.some.inj hm
 exact ⟨[.bool true], (.tmp (by rfl) rfl), rfl, H.none_⟩
end Go.Proofs.YtobkigllalbkiaaV.D

/- A plain Lean function that answers as the Go function does (none: not told), and the proof that a call answers so. Written by program. -/
set_option linter.unusedVariables false
set_option maxRecDepth 100000
set_option maxHeartbeats 4000000
namespace Go.Proofs.YtobkigllalbkiaaV.D
open Go.RowKit Go.Proofs.YtobkigllalbkiaaV
abbrev L77_0 (q0 : (Ar3 Int)) : List Value := [ii q0.a0, ii q0.a1, ii q0.a2]
abbrev L77_1 (q0 : S_Vec) : List Value := [ii q0.X, ii q0.Y, ii q0.Z]
def m77 (K : Nat) (a0 : (Ar3 Int)) : Option (S_Vec) :=
 some (⟨a0.a0, a0.a1, a0.a2⟩ : S_Vec)
theorem c77 (ok : Okp) (K : Nat) (w : World) (a0 : (Ar3 Int))  (res : S_Vec) (hm : m77 K a0 = some res) :
  Calls Tryd.prog 77 #[.agg (L77_0 a0).toArray] w (fun e w' => e = .returned (tup [.agg (L77_1 res).toArray]) ∧ Sep ok w w' [] []) := by
 refine calls_W (args := [.agg (L77_0 a0).toArray]) Tryd.func77 rfl Tryd.ntmps77 Tryd.results77 rfl fun r hr => ?_
 obtain ⟨r1, rfl⟩ := regen (r := r) [(0, .agg (L77_0 a0).toArray)] ⟨hr 0 _ rfl, trivial⟩
 have H : Sep ok w w [] [] := Sep.start ok w
 unfold m77 at hm
 refine Wr ?_
 refine RL_cons (OB H (fun w2 b1 (H : Sep ok w w2 [.blk b1 28 (L77_0 a0)] []) => ?_))
 refine RL_cons (OA ze27 H (fun w4 b3 (H : Sep ok w w4 [.blk b1 28 (L77_0 a0), .blk b3 27 [ii 0, ii 0, ii 0]] []) => ?_))
 refine Wr ?_
 refine RL_p (xI ar28 sz3) ?_
 refine RL_p (xl 0 (ii a0.a0) sc3 (H.c 0)) ?_
 refine RL_p (xI ar28 sz3) ?_
 refine RL_p (xl 1 (ii a0.a1) sc3 (H.c 0)) ?_
 refine RL_p (xI ar28 sz3) ?_
 refine RL_p (xl 2 (ii a0.a2) sc3 (H.c 0)) ?_
 refine RL_p (x_build (vs := [(0, ii a0.a0), (1, ii a0.a1), (2, ii a0.a2)]) (cs := (L77_0 a0)) (by rfl) (by kernel_rfl)) ?_
 refine RL_cons (OS 1 0 (L77_0 a0) sz27 H (fun w5 (H : Sep ok w w5 [.blk b1 28 (L77_0 a0), .blk b3 27 (L77_0 a0)] []) => ?_))
 refine W_ret ?_
 obtain rfl := Option.some.inj hm
 exact ⟨[.agg (L77_0 a0).toArray], (.cellA (by rfl) ag27 (H.c 1) (by rfl) rfl), rfl, H.none_⟩
end Go.Proofs.YtobkigllalbkiaaV.D

/- A plain Lean function that answers as the Go function does (none: not told), and the proof that a call answers so. Written by program. -/
set_option linter.unusedVariables false
set_option maxRecDepth 100000
set_option maxHeartbeats 4000000
namespace Go.Proofs.YtobkigllalbkiaaV.D
open Go.RowKit Go.Proofs.YtobkigllalbkiaaV
def m29 (K : Nat) (a0 : Int) (a1 : Int) : Option (Int × Int) :=
 (bif (decide (a1 < 1)) then some (0, 2) else (nz a1 (ck (Int.tdiv a0 a1) fun x2 => (nz a1 (bif (decide ((Int.tmod a0 a1) < 0)) then (ck (x2 - 1) fun x4 => some (x4, 0)) else some (x2, 0))))))
theorem c29 (ok : Okp) (K : Nat) (w : World) (a0 : Int) (a1 : Int)  (res : Int × Int) (hm : m29 K a0 a1 = some res) :
  Calls Tryd.prog 29 #[ii a0, ii a1] w (fun e w' => e = .returned (tup [ii res.1, ii res.2]) ∧ Sep ok w w' [] []) := by
 refine calls_W (args := [ii a0, ii a1]) Tryd.func29 rfl Tryd.ntmps29 Tryd.results29 rfl fun r hr => ?_
 obtain ⟨r1, rfl⟩ := regen (r := r) [(0, ii a0), (1, ii a1)] ⟨hr 0 _ rfl, hr 1 _ rfl, trivial⟩
 have H : Sep ok w w [] [] := Sep.start ok w
 unfold m29 at hm
 refine Wr ?_
 refine RL_p (xa (ii 0)) ?_
 refine RL_p (xa (ii 0)) ?_
 refine W_seq ?_
 refine Wr ?_
 refine RL_p (xm (ii a1)) ?_
 refine RL_p (xL) ?_
 refine Wc (fun hb => ?_) (fun hb => ?_)
 ·have hm := cond_t hb hm
  refine Wr ?_
  refine RL_p (xa (ii 0)) ?_
  refine RL_p (xa (ii 2)) ?_
  refine W_ret ?_
  obtain rfl := Option.some.inj hm
  exact ⟨[ii 0, ii 2], (.tmp (by rfl) (.tmp (by rfl) rfl)), rfl, H.none_⟩
 have hm := cond_f hb hm
 refine W_skip ?_
 refine W_seq ?_
 refine W_draw [.free 0, .free 1, .free 2, .free 3, .free 4, .free 5, .free 6, .free 7] (fun wS => Sep ok w wS [] []) [] [0, 1, 2, 3, 4, 5, 6, 7] mixed0 (by kernel_rfl) (by kernel_rfl) (by kernel_rfl) (by rfl) (by exact H.drew) ?_
 obtain ⟨w1, hW⟩ : ∃ W : World, W = { w with drawn := w.drawn + 1 } := ⟨_, rfl⟩
 rw [← hW]
 have H : Sep ok w w1 [] [] := by rw [hW]; exact H.drew
 clear hW
 refine PF (a := xm (ii a0)) (b := ?_)
 refine PF (a := xm (ii a1)) (b := ?_)
 obtain ⟨nx2, hm⟩ := nz_some hm
 obtain ⟨x2, ex2, qx2, ux2, hm⟩ := ck_some hm
 refine PF (a := x_quo (by rfl) (by rfl) nx2 ux2) (b := ?_)
 refine PF (a := xm (ii a0)) (b := ?_)
 refine PF (a := xm (ii a1)) (b := ?_)
 obtain ⟨nx3, hm⟩ := nz_some hm
 refine PF (a := x_rem (by rfl) (by rfl) nx3) (b := ?_)
 refine PF (a := xa (ii x2)) (b := ?_)
 refine PF (a := xa (ii (Int.tmod a0 a1))) (b := ?_)
 refine PR_nil ?_
 refine W_seq ?_
 refine Wr ?_
 refine RL_p (xm (ii (Int.tmod a0 a1))) ?_
 refine RL_p (xL) ?_
 refine Wc (fun hb => ?_) (fun hb => ?_)
 ·have hm := cond_t hb hm
  refine W_region ?_
  refine RL_p (xm (ii x2)) ?_
  obtain ⟨x4, ex4, qx4, ux4, hm⟩ := ck_some hm
  refine RL_p (xM ux4) ?_
  refine RL_p (xa (ii x4)) ?_
  refine Wr ?_
  refine RL_p (xm (ii x4)) ?_
  refine RL_p (xa (ii x4)) ?_
  refine RL_p (xa (ii 0)) ?_
  refine W_ret ?_
  obtain rfl := Option.some.inj hm
  exact ⟨[ii x4, ii 0], (.tmp (by rfl) (.tmp (by rfl) rfl)), rfl, H.none_⟩
 have hm := cond_f hb hm
 refine W_skip ?_
 refine Wr ?_
 refine RL_p (xm (ii x2)) ?_
 refine RL_p (xa (ii x2)) ?_
 refine RL_p (xa (ii 0)) ?_
 refine W_ret ?_
 obtain rfl := Option.some.inj hm
 exact ⟨[ii x2, ii 0], (.tmp (by rfl) (.tmp (by rfl) rfl)), rfl, H.none_⟩
end Go.Proofs.YtobkigllalbkiaaV.D

/- A plain Lean function that answers as the Go function does (none: not told), and the proof that a call answers so. Written by program. -/
set_option linter.unusedVariables false
set_option maxRecDepth 100000
set_option maxHeartbeats 4000000
namespace Go.Proofs.YtobkigllalbkiaaV.D
open Go.RowKit Go.Proofs.YtobkigllalbkiaaV
abbrev L78_0 (q0 : (Ar3 (Ar3 Int))) : List Value := [ii q0.a0.a0, ii q0.a0.a1, ii q0.a0.a2, ii q0.a1.a0, ii q0.a1.a1, ii q0.a1.a2, ii q0.a2.a0, ii q0.a2.a1, ii q0.a2.a2]
abbrev L78_1 (q0 : (Ar3 Int)) : List Value := [ii q0.a0, ii q0.a1, ii q0.a2]
abbrev L78_2 (q0 : (Ar3 (Ar3 Int))) : List Value := [ii q0.a0.a0, ii q0.a0.a1, ii q0.a0.a2]
abbrev L78_3 (q0 : (Ar3 (Ar3 Int))) : List Value := [ii q0.a1.a0, ii q0.a1.a1, ii q0.a1.a2]
abbrev L78_4 (q0 : Int × Int) (q1 : Int × Int) : List Value := [ii q0.1, ii q1.1, ii 0]
abbrev L78_5 (q0 : (Ar3 (Ar3 Int))) : List Value := [ii q0.a2.a0, ii q0.a2.a1, ii q0.a2.a2]
abbrev L78_6 (q0 : Int × Int) (q1 : Int × Int) (q2 : Int × Int) : List Value := [ii q0.1, ii q1.1, ii q2.1]
def m78 (K : Nat) (a0 : (Ar3 (Ar3 Int))) (a1 : (Ar3 Int)) : Option ((Ar3 Int)) :=
 (ck (a0.a0.a0 * a1.a0) fun x10 => (ck (0 + x10) fun x11 => (ck (a0.a0.a1 * a1.a1) fun x12 => (ck (x11 + x12) fun x13 => (ck (a0.a0.a2 * a1.a2) fun x14 => (ck (x13 + x14) fun x15 => ((m29 K x15 256).bind fun v17 => (ck (a0.a1.a0 * a1.a0) fun x23 => (ck (0 + x23) fun x24 => (ck (a0.a1.a1 * a1.a1) fun x25 => (ck (x24 + x25) fun x26 => (ck (a0.a1.a2 * a1.a2) fun x27 => (ck (x26 + x27) fun x28 => ((m29 K x28 256).bind fun v30 => (ck (a0.a2.a0 * a1.a0) fun x36 => (ck (0 + x36) fun x37 => (ck (a0.a2.a1 * a1.a1) fun x38 => (ck (x37 + x38) fun x39 => (ck (a0.a2.a2 * a1.a2) fun x40 => (ck (x39 + x40) fun x41 => ((m29 K x41 256).bind fun v43 => some (⟨v17.1, v30.1, v43.1⟩ : (Ar3 Int)))))))))))))))))))))))
theorem c78 (ok : Okp) (K : Nat) (w : World) (a0 : (Ar3 (Ar3 Int))) (a1 : (Ar3 Int))  (res : (Ar3 Int)) (hm : m78 K a0 a1 = some res) :
  Calls Tryd.prog 78 #[.agg (L78_0 a0).toArray, .agg (L78_1 a1).toArray] w (fun e w' => e = .returned (tup [.agg (L78_1 res).toArray]) ∧ Sep ok w w' [] []) := by
 refine calls_W (args := [.agg (L78_0 a0).toArray, .agg (L78_1 a1).toArray]) Tryd.func78 rfl Tryd.ntmps78 Tryd.results78 rfl fun r hr => ?_
 obtain ⟨r1, rfl⟩ := regen (r := r) [(0, .agg (L78_0 a0).toArray), (1, .agg (L78_1 a1).toArray)] ⟨hr 0 _ rfl, hr 1 _ rfl, trivial⟩
 have H : Sep ok w w [] [] := Sep.start ok w
 unfold m78 at hm
 refine Wr ?_
 refine RL_cons (OB H (fun w2 b1 (H : Sep ok w w2 [.blk b1 29 (L78_0 a0)] []) => ?_))
 refine RL_cons (OB H (fun w4 b3 (H : Sep ok w w4 [.blk b1 29 (L78_0 a0), .blk b3 28 (L78_1 a1)] []) => ?_))
 refine RL_cons (OA ze28 H (fun w6 b5 (H : Sep ok w w6 [.blk b1 29 (L78_0 a0), .blk b3 28 (L78_1 a1), .blk b5 28 [ii 0, ii 0, ii 0]] []) => ?_))
 refine W_seq ?_
 refine Wr ?_
 refine RL_p (xA 0 (L78_0 a0) ag29 (H.c 0)) ?_
 refine RL_p (xm (ii 0)) ?_
 refine W_block ?_
 refine W_unroll 40 ?_
 refine WU_succ ?_
 refine Wr ?_
 refine RL_p (xL) ?_
 refine W_seq ?_
 refine Wt ?_
 refine W_skip ?_
 refine W_seq ?_
 refine W_block ?_
 refine Wr ?_
 refine RL_p (xm (ii 0)) ?_
 refine RL_p (xJ (L78_2 a0) ar29 ag28) ?_
 refine RL_cons (OA ze28 H (fun w8 b7 (H : Sep ok w w8 [.blk b1 29 (L78_0 a0), .blk b3 28 (L78_1 a1), .blk b5 28 [ii 0, ii 0, ii 0], .blk b7 28 [ii 0, ii 0, ii 0]] []) => ?_))
 refine RL_p (xa (ii 0)) ?_
 refine RL_cons (OS 3 0 (L78_2 a0) sz28 H (fun w9 (H : Sep ok w w9 [.blk b1 29 (L78_0 a0), .blk b3 28 (L78_1 a1), .blk b5 28 [ii 0, ii 0, ii 0], .blk b7 28 (L78_2 a0)] []) => ?_))
 refine Wr ?_
 refine RL_p (xa (ii 0)) ?_
 refine W_seq ?_
 refine Wr ?_
 refine RL_p (xA 0 (L78_2 a0) ag28 (H.c 3)) ?_
 refine RL_p (xm (ii 0)) ?_
 refine W_block ?_
 refine W_unroll 40 ?_
 refine WU_succ ?_
 refine Wr ?_
 refine RL_p (xL) ?_
 refine W_seq ?_
 refine Wt ?_
 refine W_skip ?_
 refine W_seq ?_
 refine W_block ?_
 refine Wr ?_
 refine RL_p (xm (ii 0)) ?_
 refine RL_p (xi ar28 sz3 sc3) ?_
 refine RL_p (xa (ii 0)) ?_
 refine RL_p (xa (ii a0.a0.a0)) ?_
 refine W_region ?_
 refine RL_p (xm (ii 0)) ?_
 refine RL_p (xm (ii a0.a0.a0)) ?_
 refine RL_p (xm (ii 0)) ?_
 refine RL_p (xI ar28 sz3) ?_
 refine RL_p (xl 0 (ii a1.a0) sc3 (H.c 1)) ?_
 obtain ⟨x10, ex10, qx10, ux10, hm⟩ := ck_some hm
 refine RL_p (xX ux10) ?_
 obtain ⟨x11, ex11, qx11, ux11, hm⟩ := ck_some hm
 refine RL_p (xP ux11) ?_
 refine RL_p (xa (ii x11)) ?_
 refine W_region ?_
 refine RL_p (xp 1) ?_
 refine RL_p (xm (ii 1)) ?_
 refine WU_succ ?_
 refine Wr ?_
 refine RL_p (xL) ?_
 refine W_seq ?_
 refine Wt ?_
 refine W_skip ?_
 refine W_seq ?_
 refine W_block ?_
 refine Wr ?_
 refine RL_p (xm (ii 1)) ?_
 refine RL_p (xi ar28 sz3 sc3) ?_
 refine RL_p (xa (ii 1)) ?_
 refine RL_p (xa (ii a0.a0.a1)) ?_
 refine W_region ?_
 refine RL_p (xm (ii x11)) ?_
 refine RL_p (xm (ii a0.a0.a1)) ?_
 refine RL_p (xm (ii 1)) ?_
 refine RL_p (xI ar28 sz3) ?_
 refine RL_p (xl 1 (ii a1.a1) sc3 (H.c 1)) ?_
 obtain ⟨x12, ex12, qx12, ux12, hm⟩ := ck_some hm
 refine RL_p (xX ux12) ?_
 obtain ⟨x13, ex13, qx13, ux13, hm⟩ := ck_some hm
 refine RL_p (xP ux13) ?_
 refine RL_p (xa (ii x13)) ?_
 refine W_region ?_
 refine RL_p (xp 2) ?_
 refine RL_p (xm (ii 2)) ?_
 refine WU_succ ?_
 refine Wr ?_
 refine RL_p (xL) ?_
 refine W_seq ?_
 refine Wt ?_
 refine W_skip ?_
 refine W_seq ?_
 refine W_block ?_
 refine Wr ?_
 refine RL_p (xm (ii 2)) ?_
 refine RL_p (xi ar28 sz3 sc3) ?_
 refine RL_p (xa (ii 2)) ?_
 refine RL_p (xa (ii a0.a0.a2)) ?_
 refine W_region ?_
 refine RL_p (xm (ii x13)) ?_
 refine RL_p (xm (ii a0.a0.a2)) ?_
 refine RL_p (xm (ii 2)) ?_
 refine RL_p (xI ar28 sz3) ?_
 refine RL_p (xl 2 (ii a1.a2) sc3 (H.c 1)) ?_
 obtain ⟨x14, ex14, qx14, ux14, hm⟩ := ck_some hm
 refine RL_p (xX ux14) ?_
 obtain ⟨x15, ex15, qx15, ux15, hm⟩ := ck_some hm
 refine RL_p (xP ux15) ?_
 refine RL_p (xa (ii x15)) ?_
 refine W_region ?_
 refine RL_p (xp 3) ?_
 refine RL_p (xm (ii 3)) ?_
 refine WU_succ ?_
 refine Wr ?_
 refine RL_p (xL) ?_
 refine W_seq ?_
 refine Wf ?_
 refine W_exit ?_
 refine W_region ?_
 refine RL_p (xm (ii 0)) ?_
 refine RL_p (xm (ii x15)) ?_
 obtain ⟨v17, hv16, hm⟩ := bind_some hm
 refine RL_cons (OC (xc [ii x15, ii 256] (cf29 _ _)) (c29 okT K w9 x15 256  v17 hv16) ?_)
 rintro e w18 ⟨rfl, H2⟩
 have H : Sep ok w w18 [.blk b1 29 (L78_0 a0), .blk b3 28 (L78_1 a1), .blk b5 28 [ii 0, ii 0, ii 0], .blk b7 28 (L78_2 a0)] [] := H.below H2.base
 clear H2
 refine ⟨_, rfl, ?_⟩
 refine RL_p (xm (tup [ii v17.1, ii v17.2])) ?_
 refine RL_p (xe (ii v17.1)) ?_
 refine RL_p (xe (ii v17.2)) ?_
 refine RL_p (xI ar28 sz3) ?_
 refine RL_cons (OS 2 0 [ii v17.1] sz3 H (fun w19 (H : Sep ok w w19 [.blk b1 29 (L78_0 a0), .blk b3 28 (L78_1 a1), .blk b5 28 [ii v17.1, ii 0, ii 0], .blk b7 28 (L78_2 a0)] []) => ?_))
 refine W_region ?_
 refine RL_p (xp 1) ?_
 refine RL_p (xm (ii 1)) ?_
 refine WU_succ ?_
 refine Wr ?_
 refine RL_p (xL) ?_
 refine W_seq ?_
 refine Wt ?_
 refine W_skip ?_
 refine W_seq ?_
 refine W_block ?_
 refine Wr ?_
 refine RL_p (xm (ii 1)) ?_
 refine RL_p (xJ (L78_3 a0) ar29 ag28) ?_
 refine RL_cons (OA ze28 H (fun w21 b20 (H : Sep ok w w21 [.blk b1 29 (L78_0 a0), .blk b3 28 (L78_1 a1), .blk b5 28 [ii v17.1, ii 0, ii 0], .blk b7 28 (L78_2 a0), .blk b20 28 [ii 0, ii 0, ii 0]] []) => ?_))
 refine RL_p (xa (ii 1)) ?_
 refine RL_cons (OS 4 0 (L78_3 a0) sz28 H (fun w22 (H : Sep ok w w22 [.blk b1 29 (L78_0 a0), .blk b3 28 (L78_1 a1), .blk b5 28 [ii v17.1, ii 0, ii 0], .blk b7 28 (L78_2 a0), .blk b20 28 (L78_3 a0)] []) => ?_))
 refine Wr ?_
 refine RL_p (xa (ii 0)) ?_
 refine W_seq ?_
 refine Wr ?_
 refine RL_p (xA 0 (L78_3 a0) ag28 (H.c 4)) ?_
 refine RL_p (xm (ii 0)) ?_
 refine W_block ?_
 refine W_unroll 40 ?_
 refine WU_succ ?_
 refine W_seq ?_
 have H : Sep ok w w22 [.blk b3 28 (L78_1 a1), .blk b5 28 [ii v17.1, ii 0, ii 0]] [] := (H.pickL [1, 2] (by decide))
 refine W_region ?_
 refine RL_p (xL) ?_
 refine W_seq ?_
 refine Wt ?_
 refine W_skip ?_
 refine W_seq ?_
 refine W_block ?_
 refine Wr ?_
 refine RL_p (xm (ii 0)) ?_
 refine RL_p (xi ar28 sz3 sc3) ?_
 refine RL_p (xa (ii 0)) ?_
 refine RL_p (xa (ii a0.a1.a0)) ?_
 refine W_region ?_
 refine RL_p (xm (ii 0)) ?_
 refine RL_p (xm (ii a0.a1.a0)) ?_
 refine RL_p (xm (ii 0)) ?_
 refine RL_p (xI ar28 sz3) ?_
 refine RL_p (xl 0 (ii a1.a0) sc3 (H.c 0)) ?_
 obtain ⟨x23, ex23, qx23, ux23, hm⟩ := ck_some hm
 refine RL_p (xX ux23) ?_
 obtain ⟨x24, ex24, qx24, ux24, hm⟩ := ck_some hm
 refine RL_p (xP ux24) ?_
 refine RL_p (xa (ii x24)) ?_
 refine W_region ?_
 refine RL_p (xp 1) ?_
 refine RL_p (xm (ii 1)) ?_
 refine WU_succ ?_
 refine Wr ?_
 refine RL_p (xL) ?_
 refine W_seq ?_
 refine Wt ?_
 refine W_skip ?_
 refine W_seq ?_
 refine W_block ?_
 refine Wr ?_
 refine RL_p (xm (ii 1)) ?_
 refine RL_p (xi ar28 sz3 sc3) ?_
 refine RL_p (xa (ii 1)) ?_
 refine RL_p (xa (ii a0.a1.a1)) ?_
 refine W_region ?_
 refine RL_p (xm (ii x24)) ?_
 refine RL_p (xm (ii a0.a1.a1)) ?_
 refine RL_p (xm (ii 1)) ?_
 refine RL_p (xI ar28 sz3) ?_
 refine RL_p (xl 1 (ii a1.a1) sc3 (H.c 0)) ?_
 obtain ⟨x25, ex25, qx25, ux25, hm⟩ := ck_some hm
 refine RL_p (xX ux25) ?_
 obtain ⟨x26, ex26, qx26, ux26, hm⟩ := ck_some hm
 refine RL_p (xP ux26) ?_
 refine RL_p (xa (ii x26)) ?_
 refine W_region ?_
 refine RL_p (xp 2) ?_
 refine RL_p (xm (ii 2)) ?_
 refine WU_succ ?_
 refine Wr ?_
 refine RL_p (xL) ?_
 refine W_seq ?_
 refine Wt ?_
 refine W_skip ?_
 refine W_seq ?_
 refine W_block ?_
 refine Wr ?_
 refine RL_p (xm (ii 2)) ?_
 refine RL_p (xi ar28 sz3 sc3) ?_
 refine RL_p (xa (ii 2)) ?_
 refine RL_p (xa (ii a0.a1.a2)) ?_
 refine W_region ?_
 refine RL_p (xm (ii x26)) ?_
 refine RL_p (xm (ii a0.a1.a2)) ?_
 refine RL_p (xm (ii 2)) ?_
 refine RL_p (xI ar28 sz3) ?_
 refine RL_p (xl 2 (ii a1.a2) sc3 (H.c 0)) ?_
 obtain ⟨x27, ex27, qx27, ux27, hm⟩ := ck_some hm
 refine RL_p (xX ux27) ?_
 obtain ⟨x28, ex28, qx28, ux28, hm⟩ := ck_some hm
 refine RL_p (xP ux28) ?_
 refine RL_p (xa (ii x28)) ?_
 refine W_region ?_
 refine RL_p (xp 3) ?_
 refine RL_p (xm (ii 3)) ?_
 refine WU_succ ?_
 refine Wr ?_
 refine RL_p (xL) ?_
 refine W_seq ?_
 refine Wf ?_
 refine W_exit ?_
 refine W_region ?_
 refine RL_p (xm (ii 1)) ?_
 refine RL_p (xm (ii x28)) ?_
 obtain ⟨v30, hv29, hm⟩ := bind_some hm
 refine RL_cons (OC (xc [ii x28, ii 256] (cf29 _ _)) (c29 okT K w22 x28 256  v30 hv29) ?_)
 rintro e w31 ⟨rfl, H2⟩
 have H : Sep ok w w31 [.blk b3 28 (L78_1 a1), .blk b5 28 [ii v17.1, ii 0, ii 0]] [] := H.below H2.base
 clear H2
 refine ⟨_, rfl, ?_⟩
 refine RL_p (xm (tup [ii v30.1, ii v30.2])) ?_
 refine RL_p (xe (ii v30.1)) ?_
 refine RL_p (xe (ii v30.2)) ?_
 refine RL_p (xI ar28 sz3) ?_
 refine RL_cons (OS 1 1 [ii v30.1] sz3 H (fun w32 (H : Sep ok w w32 [.blk b3 28 (L78_1 a1), .blk b5 28 (L78_4 v17 v30)] []) => ?_))
 refine W_region ?_
 refine RL_p (xp 2) ?_
 refine RL_p (xm (ii 2)) ?_
 refine WU_succ ?_
 refine Wr ?_
 refine RL_p (xL) ?_
 refine W_seq ?_
 refine Wt ?_
 refine W_skip ?_
 refine W_seq ?_
 refine W_block ?_
 refine Wr ?_
 refine RL_p (xm (ii 2)) ?_
 refine RL_p (xJ (L78_5 a0) ar29 ag28) ?_
 refine RL_cons (OA ze28 H (fun w34 b33 (H : Sep ok w w34 [.blk b3 28 (L78_1 a1), .blk b5 28 (L78_4 v17 v30), .blk b33 28 [ii 0, ii 0, ii 0]] []) => ?_))
 refine RL_p (xa (ii 2)) ?_
 refine RL_cons (OS 2 0 (L78_5 a0) sz28 H (fun w35 (H : Sep ok w w35 [.blk b3 28 (L78_1 a1), .blk b5 28 (L78_4 v17 v30), .blk b33 28 (L78_5 a0)] []) => ?_))
 refine Wr ?_
 refine RL_p (xa (ii 0)) ?_
 refine W_seq ?_
 refine Wr ?_
 refine RL_p (xA 0 (L78_5 a0) ag28 (H.c 2)) ?_
 refine RL_p (xm (ii 0)) ?_
 refine W_block ?_
 refine W_unroll 40 ?_
 refine WU_succ ?_
 refine Wr ?_
 refine RL_p (xL) ?_
 refine W_seq ?_
 refine Wt ?_
 refine W_skip ?_
 refine W_seq ?_
 refine W_block ?_
 refine Wr ?_
 refine RL_p (xm (ii 0)) ?_
 refine RL_p (xi ar28 sz3 sc3) ?_
 refine RL_p (xa (ii 0)) ?_
 refine RL_p (xa (ii a0.a2.a0)) ?_
 refine W_region ?_
 refine RL_p (xm (ii 0)) ?_
 refine RL_p (xm (ii a0.a2.a0)) ?_
 refine RL_p (xm (ii 0)) ?_
 refine RL_p (xI ar28 sz3) ?_
 refine RL_p (xl 0 (ii a1.a0) sc3 (H.c 0)) ?_
 obtain ⟨x36, ex36, qx36, ux36, hm⟩ := ck_some hm
 refine RL_p (xX ux36) ?_
 obtain ⟨x37, ex37, qx37, ux37, hm⟩ := ck_some hm
 refine RL_p (xP ux37) ?_
 refine RL_p (xa (ii x37)) ?_
 refine W_region ?_
 refine RL_p (xp 1) ?_
 refine RL_p (xm (ii 1)) ?_
 refine WU_succ ?_
 refine Wr ?_
 refine RL_p (xL) ?_
 refine W_seq ?_
 refine Wt ?_
 refine W_skip ?_
 refine W_seq ?_
 refine W_block ?_
 refine Wr ?_
 refine RL_p (xm (ii 1)) ?_
 refine RL_p (xi ar28 sz3 sc3) ?_
 refine RL_p (xa (ii 1)) ?_
 refine RL_p (xa (ii a0.a2.a1)) ?_
 refine W_region ?_
 refine RL_p (xm (ii x37)) ?_
 refine RL_p (xm (ii a0.a2.a1)) ?_
 refine RL_p (xm (ii 1)) ?_
 refine RL_p (xI ar28 sz3) ?_
 refine RL_p (xl 1 (ii a1.a1) sc3 (H.c 0)) ?_
 obtain ⟨x38, ex38, qx38, ux38, hm⟩ := ck_some hm
 refine RL_p (xX ux38) ?_
 obtain ⟨x39, ex39, qx39, ux39, hm⟩ := ck_some hm
 refine RL_p (xP ux39) ?_
 refine RL_p (xa (ii x39)) ?_
 refine W_region ?_
 refine RL_p (xp 2) ?_
 refine RL_p (xm (ii 2)) ?_
 refine WU_succ ?_
 refine Wr ?_
 refine RL_p (xL) ?_
 refine W_seq ?_
 refine Wt ?_
 refine W_skip ?_
 refine W_seq ?_
 refine W_block ?_
 refine Wr ?_
 refine RL_p (xm (ii 2)) ?_
 refine RL_p (xi ar28 sz3 sc3) ?_
 refine RL_p (xa (ii 2)) ?_
 refine RL_p (xa (ii a0.a2.a2)) ?_
 refine W_region ?_
 refine RL_p (xm (ii x39)) ?_
 refine RL_p (xm (ii a0.a2.a2)) ?_
 refine RL_p (xm (ii 2)) ?_
 refine RL_p (xI ar28 sz3) ?_
 refine RL_p (xl 2 (ii a1.a2) sc3 (H.c 0)) ?_
 obtain ⟨x40, ex40, qx40, ux40, hm⟩ := ck_some hm
 refine RL_p (xX ux40) ?_
 obtain ⟨x41, ex41, qx41, ux41, hm⟩ := ck_some hm
 refine RL_p (xP ux41) ?_
 refine RL_p (xa (ii x41)) ?_
 refine W_region ?_
 refine RL_p (xp 3) ?_
 refine RL_p (xm (ii 3)) ?_
 refine WU_succ ?_
 refine Wr ?_
 refine RL_p (xL) ?_
 refine W_seq ?_
 refine Wf ?_
 refine W_exit ?_
 refine W_region ?_
 refine RL_p (xm (ii 2)) ?_
 refine RL_p (xm (ii x41)) ?_
 obtain ⟨v43, hv42, hm⟩ := bind_some hm
 refine RL_cons (OC (xc [ii x41, ii 256] (cf29 _ _)) (c29 okT K w35 x41 256  v43 hv42) ?_)
 rintro e w44 ⟨rfl, H2⟩
 have H : Sep ok w w44 [.blk b3 28 (L78_1 a1), .blk b5 28 (L78_4 v17 v30), .blk b33 28 (L78_5 a0)] [] := H.below H2.base
 clear H2
 refine ⟨_, rfl, ?_⟩
 refine RL_p (xm (tup [ii v43.1, ii v43.2])) ?_
 refine RL_p (xe (ii v43.1)) ?_
 refine RL_p (xe (ii v43.2)) ?_
 refine RL_p (xI ar28 sz3) ?_
 refine RL_cons (OS 1 2 [ii v43.1] sz3 H (fun w45 (H : Sep ok w w45 [.blk b3 28 (L78_1 a1), .blk b5 28 (L78_6 v17 v30 v43), .blk b33 28 (L78_5 a0)] []) => ?_))
 refine W_region ?_
 refine RL_p (xp 3) ?_
 refine RL_p (xm (ii 3)) ?_
 refine WU_succ ?_
 refine Wr ?_
 refine RL_p (xL) ?_
 refine W_seq ?_
 refine Wf ?_
 refine W_exit ?_
 refine Wr ?_
 refine RL_p (xA 0 (L78_6 v17 v30 v43) ag28 (H.c 1)) ?_
 refine RL_cons (OS 1 0 (L78_6 v17 v30 v43) sz28 H (fun w46 (H : Sep ok w w46 [.blk b3 28 (L78_1 a1), .blk b5 28 (L78_6 v17 v30 v43), .blk b33 28 (L78_5 a0)] []) => ?_))
 refine W_ret ?_
 obtain rfl := Option.some.inj hm
 exact ⟨[.agg (L78_6 v17 v30 v43).toArray], (.cellA (by rfl) ag28 (H.c 1) (by rfl) rfl), rfl, H.none_⟩
end Go.Proofs.YtobkigllalbkiaaV.D

/- A plain Lean function that answers as the Go function does (none: not told), and the proof that a call answers so. Written by program. -/
set_option linter.unusedVariables false
set_option maxRecDepth 100000
set_option maxHeartbeats 4000000
namespace Go.Proofs.YtobkigllalbkiaaV.D
open Go.RowKit Go.Proofs.YtobkigllalbkiaaV
abbrev L79_0 (q0 : S_Vec) : List Value := [ii q0.X, ii q0.Y, ii q0.Z]
abbrev L79_1 (q0 : (Ar3 Int)) : List Value := [ii q0.a0, ii q0.a1, ii q0.a2]
def m79 (K : Nat) (a0 : S_Vec) : Option ((Ar3 Int)) :=
 some (⟨a0.X, a0.Y, a0.Z⟩ : (Ar3 Int))
theorem c79 (ok : Okp) (K : Nat) (w : World) (a0 : S_Vec)  (res : (Ar3 Int)) (hm : m79 K a0 = some res) :
  Calls Tryd.prog 79 #[.agg (L79_0 a0).toArray] w (fun e w' => e = .returned (tup [.agg (L79_1 res).toArray]) ∧ Sep ok w w' [] []) := by
 refine calls_W (args := [.agg (L79_0 a0).toArray]) Tryd.func79 rfl Tryd.ntmps79 Tryd.results79 rfl fun r hr => ?_
 obtain ⟨r1, rfl⟩ := regen (r := r) [(0, .agg (L79_0 a0).toArray)] ⟨hr 0 _ rfl, trivial⟩
 have H : Sep ok w w [] [] := Sep.start ok w
 unfold m79 at hm
 refine Wr ?_
 refine RL_cons (OB H (fun w2 b1 (H : Sep ok w w2 [.blk b1 27 (L79_0 a0)] []) => ?_))
 refine RL_cons (OA ze28 H (fun w4 b3 (H : Sep ok w w4 [.blk b1 27 (L79_0 a0), .blk b3 28 [ii 0, ii 0, ii 0]] []) => ?_))
 refine Wr ?_
 refine RL_p (xf fo27_0) ?_
 refine RL_p (xl 0 (ii a0.X) sc3 (H.c 0)) ?_
 refine RL_p (xf fo27_1) ?_
 refine RL_p (xl 1 (ii a0.Y) sc3 (H.c 0)) ?_
 refine RL_p (xf fo27_2) ?_
 refine RL_p (xl 2 (ii a0.Z) sc3 (H.c 0)) ?_
 refine RL_p (x_build (vs := [(0, ii a0.X), (1, ii a0.Y), (2, ii a0.Z)]) (cs := (L79_0 a0)) (by rfl) (by kernel_rfl)) ?_
 refine RL_cons (OS 1 0 (L79_0 a0) sz28 H (fun w5 (H : Sep ok w w5 [.blk b1 27 (L79_0 a0), .blk b3 28 (L79_0 a0)] []) => ?_))
 refine W_ret ?_
 obtain rfl := Option.some.inj hm
 exact ⟨[.agg (L79_0 a0).toArray], (.cellA (by rfl) ag28 (H.c 1) (by rfl) rfl), rfl, H.none_⟩
end Go.Proofs.YtobkigllalbkiaaV.D

/- A plain Lean function that answers as the Go function does (none: not told), and the proof that a call answers so. Written by program. -/
set_option linter.unusedVariables false
set_option maxRecDepth 100000
set_option maxHeartbeats 4000000
namespace Go.Proofs.YtobkigllalbkiaaV.D
open Go.RowKit Go.Proofs.YtobkigllalbkiaaV
abbrev L69_0 (q0 : (Ar3 (Ar3 Int))) : List Value := [ii q0.a0.a0, ii q0.a0.a1, ii q0.a0.a2, ii q0.a1.a0, ii q0.a1.a1, ii q0.a1.a2, ii q0.a2.a0, ii q0.a2.a1, ii q0.a2.a2]
abbrev L69_1 (q0 : S_Vec) : List Value := [ii q0.X, ii q0.Y, ii q0.Z]
abbrev L69_2 (q0 : (Ar3 Int)) : List Value := [ii q0.a0, ii q0.a1, ii q0.a2]
abbrev L69_3 (q0 : S_Vec × Int) : List Value := [ii q0.1.X, ii q0.1.Y, ii q0.1.Z]
def m69 (K : Nat) (a0 : (Ar3 (Ar3 Int))) (a1 : S_Vec) : Option (S_Vec × Int) :=
 ((m76 K a0).bind fun v8 => ((bif (!v8) then some true else ((m36 K 32768 ([a1.X, a1.Y, a1.Z])).bind fun v16 => some (!v16))).bind fun b10 => (bif b10 then some ((⟨0, 0, 0⟩ : S_Vec), 2) else ((m79 K a1).bind fun v23 => ((m78 K a0 v23).bind fun v26 => ((m77 K v26).bind fun v29 => some (v29, 0)))))))
abbrev S69_0 (q0 : Okp) (q1 q2 : World) (q3 : Nat) (q4 : (Ar3 (Ar3 Int))) (q5 : Nat) (q6 : S_Vec) (q7 : Nat) : Prop := Sep q0 q1 q2 [.blk q3 29 (L69_0 q4), .blk q5 27 (L69_1 q6), .blk q7 27 [ii 0, ii 0, ii 0]] []
abbrev S69_1 (q0 : Okp) (q1 q2 : World) (q3 : Nat) (q4 : (Ar3 (Ar3 Int))) (q5 : Nat) (q6 : S_Vec) (q7 q8 : Nat) : Prop := Sep q0 q1 q2 [.blk q3 29 (L69_0 q4), .blk q5 27 (L69_1 q6), .blk q7 27 [ii 0, ii 0, ii 0], .row (.slice (some ⟨q8, 0, none⟩) ([q6.X, q6.Y, q6.Z]).length 3) 3 kInt.sz ([q6.X, q6.Y, q6.Z]).length [ii q6.X, ii q6.Y, ii q6.Z]] [RE.chunks kInt [ii q6.X, ii q6.Y, ii q6.Z] ([q6.X, q6.Y, q6.Z])]
theorem c69 (ok : Okp) (K : Nat) (w : World) (a0 : (Ar3 (Ar3 Int))) (a1 : S_Vec)  (res : S_Vec × Int) (hm : m69 K a0 a1 = some res) :
  Calls Tryd.prog 69 #[.agg (L69_0 a0).toArray, .agg (L69_1 a1).toArray] w (fun e w' => e = .returned (tup [.agg (L69_3 res).toArray, ii res.2]) ∧ Sep ok w w' [] []) := by
 refine calls_W (args := [.agg (L69_0 a0).toArray, .agg (L69_1 a1).toArray]) Tryd.func69 rfl Tryd.ntmps69 Tryd.results69 rfl fun r hr => ?_
 obtain ⟨r1, rfl⟩ := regen (r := r) [(0, .agg (L69_0 a0).toArray), (1, .agg (L69_1 a1).toArray)] ⟨hr 0 _ rfl, hr 1 _ rfl, trivial⟩
 have H : Sep ok w w [] [] := Sep.start ok w
 unfold m69 at hm
 refine Wr ?_
 refine RL_cons (OB H (fun w2 b1 (H : Sep ok w w2 [.blk b1 29 (L69_0 a0)] []) => ?_))
 refine RL_cons (OB H (fun w4 b3 (H : Sep ok w w4 [.blk b1 29 (L69_0 a0), .blk b3 27 (L69_1 a1)] []) => ?_))
 refine RL_cons (OA ze27 H (fun w6 b5 (H : S69_0 ok w w6 b1 a0 b3 a1 b5) => ?_))
 refine RL_p (xa (ii 0)) ?_
 refine W_seq ?_
 refine Wr ?_
 refine RL_p (xA 0 (L69_0 a0) ag29 (H.c 0)) ?_
 obtain ⟨v8, hv7, hm⟩ := bind_some hm
 refine RL_cons (OC (xc [.agg (L69_0 a0).toArray] (cf76 _ _)) (c76 okT K w6 a0  v8 hv7) ?_)
 rintro e w9 ⟨rfl, H2⟩
 have H : S69_0 ok w w9 b1 a0 b3 a1 b5 := H.below H2.base
 clear H2
 refine ⟨_, rfl, ?_⟩
 refine RL_p (x_not (by rfl)) ?_
 refine RL_p (xm (.bool (!v8))) ?_
 obtain ⟨b10, hmS, hm⟩ := bind_some hm
 refine RL_cut 10 (fun r' w' => Agr [(19, .bool b10), (2, pp b1), (3, pp b3), (4, pp b5)] r' ∧ S69_0 ok w w' b1 a0 b3 a1 b5) ?_ ?_
 ·cases hbS : (!v8)
  ·have hm := cond_f hbS hmS
   refine RQ (xf fo27_0) ?_
   refine RQ (xl 0 (ii a1.X) sc3 (H.c 1)) ?_
   refine RQ (xf fo27_1) ?_
   refine RQ (xl 1 (ii a1.Y) sc3 (H.c 1)) ?_
   refine RQ (xf fo27_2) ?_
   refine RQ (xl 2 (ii a1.Z) sc3 (H.c 1)) ?_
   refine RL_cons (O_buildSlice (vs := [(0, ii a1.X), (1, ii a1.Y), (2, ii a1.Z)]) (cs := [ii a1.X, ii a1.Y, ii a1.Z]) (by exact wn1 rfl rfl rfl rfl) (by rfl) sl141 sz3 ze3 (by rfl) (by rfl) (by rfl) (by kernel_rfl) H (fun w12 b11 (H : Sep ok w w12 [.blk b1 29 (L69_0 a0), .blk b3 27 (L69_1 a1), .blk b5 27 [ii 0, ii 0, ii 0], .blk b11 3 (L69_1 a1)] []) => ?_))
   have H : S69_1 ok w w12 b1 a0 b3 a1 b5 b11 := H.rowOf (i := 3) (D := kInt) (xs := [a1.X, a1.Y, a1.Z]) (by rfl) (by exact ⟨rfl, rfl, rfl, rfl⟩) (by rfl)
   obtain ⟨v16, hv15, hm⟩ := bind_some hm
   refine RL_cons (O_call (by exact wn1 rfl rfl rfl rfl) (by rfl) (by rfl) (xc [ii 32768, .slice (some ⟨b11, 0, none⟩) ([a1.X, a1.Y, a1.Z]).length 3] (cf36 _ _)) (c36 okT K w12 32768 ([a1.X, a1.Y, a1.Z]) (some ⟨b11, 0, none⟩) 3 (H.rowRd (i := 3) (j := 0) (by rfl) (by rfl)) v16 hv15) ?_)
   rintro e w17 ⟨rfl, H2⟩
   have H : S69_1 ok w w17 b1 a0 b3 a1 b5 b11 := H.below H2.base
   clear H2
   refine ⟨_, rfl, ?_⟩
   refine RQ (x_not (by rfl)) ?_
   refine RL_p (xF (.bool (!v16))) ?_
   refine RL_nil ?_
   exact ⟨⟨congrArg Value.bool (Option.some.inj hm), rfl, rfl, rfl, trivial⟩, (H.takeL 3).takeR 0⟩
  have hm := cond_t hbS hmS
  refine RO ?_
  refine RO ?_
  refine RO ?_
  refine RO ?_
  refine RO ?_
  refine RO ?_
  refine RO ?_
  refine RO ?_
  refine RO ?_
  refine RL_p (xT (.bool true)) ?_
  refine RL_nil ?_
  exact ⟨⟨congrArg Value.bool (Option.some.inj hm), rfl, rfl, rfl, trivial⟩, H⟩
 rintro r' w' ⟨hA, H⟩
 obtain ⟨r18, rfl⟩ := regen _ hA; clear hA
 obtain ⟨w19, rfl⟩ := wld w'
 show RL _ _ _ _ _ _ _
 refine Wc (fun hb => ?_) (fun hb => ?_)
 ·have hm := cond_t hb hm
  refine Wr ?_
  refine RL_p (x_build (vs := []) (cs := [ii 0, ii 0, ii 0]) (by rfl) (by kernel_rfl)) ?_
  refine RL_cons (OS 2 0 [ii 0, ii 0, ii 0] sz27 H (fun w20 (H : S69_0 ok w w20 b1 a0 b3 a1 b5) => ?_))
  refine RL_p (xa (ii 2)) ?_
  refine W_ret ?_
  obtain rfl := Option.some.inj hm
  exact ⟨[.agg #[ii 0, ii 0, ii 0], ii 2], (.cellA (by rfl) ag27 (H.c 2) (by rfl) (.tmp (by rfl) rfl)), rfl, H.none_⟩
 have hm := cond_f hb hm
 refine W_skip ?_
 refine W_seq ?_
 refine W_draw [.take 0, .take 1, .run 2, .run 3, .run 4, .tail 5, .free 6] (fun wS => S69_0 ok w wS b1 a0 b3 a1 b5) [5] [6] mixed0 (by kernel_rfl) (by kernel_rfl) (by kernel_rfl) (by rfl) (by exact H.drew) ?_
 obtain ⟨w21, hW⟩ : ∃ W : World, W = { w19 with drawn := w19.drawn + 1 } := ⟨_, rfl⟩
 rw [← hW]
 have H : S69_0 ok w w21 b1 a0 b3 a1 b5 := by rw [hW]; exact H.drew
 clear hW
 refine PT' (a := fun H => xA 0 (L69_0 a0) ag29 (H.c 0)) (b := ?_)
 refine PT' (a := fun H => xA 0 (L69_1 a1) ag27 (H.c 1)) (b := ?_)
 obtain ⟨v23, hv22, hm⟩ := bind_some hm
 refine PU (a := OC (xc [.agg (L69_1 a1).toArray] (cf79 _ _)) (c79 okT K w21 a1  v23 hv22) ?_)
 rintro e w24 ⟨rfl, H2⟩
 have H : S69_0 ok w w24 b1 a0 b3 a1 b5 := H.below H2.base
 clear H2
 refine ⟨_, rfl, H, ?_⟩
 show PR _ _ _ _ _ _ _ _
 obtain ⟨v26, hv25, hm⟩ := bind_some hm
 refine PU (a := OC (xc [.agg (L69_0 a0).toArray, .agg (L69_2 v23).toArray] (cf78 _ _)) (c78 okT K w24 a0 v23  v26 hv25) ?_)
 rintro e w27 ⟨rfl, H2⟩
 have H : S69_0 ok w w27 b1 a0 b3 a1 b5 := H.below H2.base
 clear H2
 refine ⟨_, rfl, H, ?_⟩
 show PR _ _ _ _ _ _ _ _
 obtain ⟨v29, hv28, hm⟩ := bind_some hm
 refine PU (a := OC (xc [.agg (L69_2 v26).toArray] (cf77 _ _)) (c77 okT K w27 v26  v29 hv28) ?_)
 rintro e w30 ⟨rfl, H2⟩
 have H : S69_0 ok w w30 b1 a0 b3 a1 b5 := H.below H2.base
 clear H2
 refine ⟨_, rfl, H, ?_⟩
 show PR _ _ _ _ _ _ _ _
 refine PL (a := OS 2 0 (L69_1 v29) sz27 H (fun w31 (H : Sep ok w w31 [.blk b1 29 (L69_0 a0), .blk b3 27 (L69_1 a1), .blk b5 27 (L69_1 v29)] []) => ?_))
 refine PF (a := xa (ii 0)) (b := ?_)
 refine PR_nil ?_
 refine W_ret ?_
 obtain rfl := Option.some.inj hm
 exact ⟨[.agg (L69_1 v29).toArray, ii 0], (.cellA (by rfl) ag27 (H.c 2) (by rfl) (.tmp (by rfl) rfl)), rfl, H.none_⟩
end Go.Proofs.YtobkigllalbkiaaV.D

/- A plain Lean function that answers as the Go function does (none: not told), and the proof that a call answers so. Written by program. -/
set_option linter.unusedVariables false
set_option maxRecDepth 100000
set_option maxHeartbeats 4000000
namespace Go.Proofs.YtobkigllalbkiaaV.D
open Go.RowKit Go.Proofs.YtobkigllalbkiaaV
abbrev L49_0 (q0 : S_Camera) : List Value := [ii q0.Pos.X, ii q0.Pos.Y, ii q0.Pos.Z, ii q0.M.a0.a0, ii q0.M.a0.a1, ii q0.M.a0.a2, ii q0.M.a1.a0, ii q0.M.a1.a1, ii q0.M.a1.a2, ii q0.M.a2.a0, ii q0.M.a2.a1, ii q0.M.a2.a2, ii q0.Focal, ii q0.Near, ii q0.W, ii q0.H]
abbrev L49_1 (q0 : S_Vec) : List Value := [ii q0.X, ii q0.Y, ii q0.Z]
abbrev L49_2 (q0 : S_Camera) : List Value := [ii q0.M.a0.a0, ii q0.M.a0.a1, ii q0.M.a0.a2, ii q0.M.a1.a0, ii q0.M.a1.a1, ii q0.M.a1.a2, ii q0.M.a2.a0, ii q0.M.a2.a1, ii q0.M.a2.a2]
abbrev L49_3 (q0 : Int) (q1 : Int) (q2 : Int) : List Value := [ii q0, ii q1, ii q2]
abbrev L49_4 (q0 : S_Vec × Int) : List Value := [ii q0.1.X, ii q0.1.Y, ii q0.1.Z]
def m49 (K : Nat) (a0 : S_Camera) (a1 : S_Vec) : Option (S_Vec × Int) :=
 ((m14 K a0).bind fun v8 => (bif (v8 != 0) then some ((⟨0, 0, 0⟩ : S_Vec), v8) else ((m23 K a1).bind fun v12 => (bif (v12 != 0) then some ((⟨0, 0, 0⟩ : S_Vec), v12) else (ck (a1.X - a0.Pos.X) fun x15 => (ck (a1.Y - a0.Pos.Y) fun x16 => (ck (a1.Z - a0.Pos.Z) fun x17 => ((m69 K a0.M (⟨x15, x16, x17⟩ : S_Vec)).bind fun v19 => some (v19.1, v19.2)))))))))
abbrev S49_0 (q0 : Okp) (q1 q2 : World) (q3 : Nat) (q4 : S_Camera) (q5 : Nat) (q6 : S_Vec) (q7 : Nat) : Prop := Sep q0 q1 q2 [.blk q3 31 (L49_0 q4), .blk q5 27 (L49_1 q6), .blk q7 27 [ii 0, ii 0, ii 0]] []
theorem c49 (ok : Okp) (K : Nat) (w : World) (a0 : S_Camera) (a1 : S_Vec)  (res : S_Vec × Int) (hm : m49 K a0 a1 = some res) :
  Calls Tryd.prog 49 #[.agg (L49_0 a0).toArray, .agg (L49_1 a1).toArray] w (fun e w' => e = .returned (tup [.agg (L49_4 res).toArray, ii res.2]) ∧ Sep ok w w' [] []) := by
 refine calls_W (args := [.agg (L49_0 a0).toArray, .agg (L49_1 a1).toArray]) Tryd.func49 rfl Tryd.ntmps49 Tryd.results49 rfl fun r hr => ?_
 obtain ⟨r1, rfl⟩ := regen (r := r) [(0, .agg (L49_0 a0).toArray), (1, .agg (L49_1 a1).toArray)] ⟨hr 0 _ rfl, hr 1 _ rfl, trivial⟩
 have H : Sep ok w w [] [] := Sep.start ok w
 unfold m49 at hm
 refine Wr ?_
 refine RL_cons (OB H (fun w2 b1 (H : Sep ok w w2 [.blk b1 31 (L49_0 a0)] []) => ?_))
 refine RL_cons (OB H (fun w4 b3 (H : Sep ok w w4 [.blk b1 31 (L49_0 a0), .blk b3 27 (L49_1 a1)] []) => ?_))
 refine RL_cons (OA ze27 H (fun w6 b5 (H : S49_0 ok w w6 b1 a0 b3 a1 b5) => ?_))
 refine RL_p (xa (ii 0)) ?_
 refine W_seq ?_
 refine Wr ?_
 refine RL_p (xA 0 (L49_0 a0) ag31 (H.c 0)) ?_
 obtain ⟨v8, hv7, hm⟩ := bind_some hm
 refine RL_cons (OC (xc [.agg (L49_0 a0).toArray] (cf14 _ _)) (c14 okT K w6 a0  v8 hv7) ?_)
 rintro e w9 ⟨rfl, H2⟩
 have H : S49_0 ok w w9 b1 a0 b3 a1 b5 := H.below H2.base
 clear H2
 refine ⟨_, rfl, ?_⟩
 refine RL_p (xa (ii v8)) ?_
 refine Wr ?_
 refine RL_p (xm (ii v8)) ?_
 refine RL_p (xN) ?_
 refine Wc (fun hb => ?_) (fun hb => ?_)
 ·have hm := cond_t hb hm
  refine Wr ?_
  refine RL_p (x_build (vs := []) (cs := [ii 0, ii 0, ii 0]) (by rfl) (by kernel_rfl)) ?_
  refine RL_p (xm (ii v8)) ?_
  refine RL_cons (OS 2 0 [ii 0, ii 0, ii 0] sz27 H (fun w10 (H : S49_0 ok w w10 b1 a0 b3 a1 b5) => ?_))
  refine RL_p (xa (ii v8)) ?_
  refine W_ret ?_
  obtain rfl := Option.some.inj hm
  exact ⟨[.agg #[ii 0, ii 0, ii 0], ii v8], (.cellA (by rfl) ag27 (H.c 2) (by rfl) (.tmp (by rfl) rfl)), rfl, H.none_⟩
 have hm := cond_f hb hm
 refine W_skip ?_
 refine W_seq ?_
 refine Wr ?_
 refine RL_p (xA 0 (L49_1 a1) ag27 (H.c 1)) ?_
 obtain ⟨v12, hv11, hm⟩ := bind_some hm
 refine RL_cons (OC (xc [.agg (L49_1 a1).toArray] (cf23 _ _)) (c23 okT K w9 a1  v12 hv11) ?_)
 rintro e w13 ⟨rfl, H2⟩
 have H : S49_0 ok w w13 b1 a0 b3 a1 b5 := H.below H2.base
 clear H2
 refine ⟨_, rfl, ?_⟩
 refine RL_p (xa (ii v12)) ?_
 refine Wr ?_
 refine RL_p (xm (ii v12)) ?_
 refine RL_p (xN) ?_
 refine Wc (fun hb => ?_) (fun hb => ?_)
 ·have hm := cond_t hb hm
  refine Wr ?_
  refine RL_p (x_build (vs := []) (cs := [ii 0, ii 0, ii 0]) (by rfl) (by kernel_rfl)) ?_
  refine RL_p (xm (ii v12)) ?_
  refine RL_cons (OS 2 0 [ii 0, ii 0, ii 0] sz27 H (fun w14 (H : S49_0 ok w w14 b1 a0 b3 a1 b5) => ?_))
  refine RL_p (xa (ii v12)) ?_
  refine W_ret ?_
  obtain rfl := Option.some.inj hm
  exact ⟨[.agg #[ii 0, ii 0, ii 0], ii v12], (.cellA (by rfl) ag27 (H.c 2) (by rfl) (.tmp (by rfl) rfl)), rfl, H.none_⟩
 have hm := cond_f hb hm
 refine W_skip ?_
 refine Wr ?_
 refine RL_p (xf fo31_1) ?_
 refine RL_p (xA 3 (L49_2 a0) ag29 (H.c 0)) ?_
 refine RL_p (xf fo27_0) ?_
 refine RL_p (xl 0 (ii a1.X) sc3 (H.c 1)) ?_
 refine RL_p (xf fo31_0) ?_
 refine RL_p (xf fo27_0) ?_
 refine RL_p (xl 0 (ii a0.Pos.X) sc3 (H.c 0)) ?_
 obtain ⟨x15, ex15, qx15, ux15, hm⟩ := ck_some hm
 refine RL_p (xM ux15) ?_
 refine RL_p (xf fo27_1) ?_
 refine RL_p (xl 1 (ii a1.Y) sc3 (H.c 1)) ?_
 refine RL_p (xf fo31_0) ?_
 refine RL_p (xf fo27_1) ?_
 refine RL_p (xl 1 (ii a0.Pos.Y) sc3 (H.c 0)) ?_
 obtain ⟨x16, ex16, qx16, ux16, hm⟩ := ck_some hm
 refine RL_p (xM ux16) ?_
 refine RL_p (xf fo27_2) ?_
 refine RL_p (xl 2 (ii a1.Z) sc3 (H.c 1)) ?_
 refine RL_p (xf fo31_0) ?_
 refine RL_p (xf fo27_2) ?_
 refine RL_p (xl 2 (ii a0.Pos.Z) sc3 (H.c 0)) ?_
 obtain ⟨x17, ex17, qx17, ux17, hm⟩ := ck_some hm
 refine RL_p (xM ux17) ?_
 refine RL_p (x_build (vs := [(0, ii x15), (1, ii x16), (2, ii x17)]) (cs := (L49_3 x15 x16 x17)) (by rfl) (by kernel_rfl)) ?_
 obtain ⟨v19, hv18, hm⟩ := bind_some hm
 refine RL_cons (OC (xc [.agg (L49_2 a0).toArray, .agg (L49_3 x15 x16 x17).toArray] (cf69 _ _)) (c69 okT K w13 a0.M (⟨x15, x16, x17⟩ : S_Vec)  v19 hv18) ?_)
 rintro e w20 ⟨rfl, H2⟩
 have H : S49_0 ok w w20 b1 a0 b3 a1 b5 := H.below H2.base
 clear H2
 refine ⟨_, rfl, ?_⟩
 refine RL_p (xe (.agg (L49_4 v19).toArray)) ?_
 refine RL_p (xe (ii v19.2)) ?_
 refine RL_cons (OS 2 0 (L49_4 v19) sz27 H (fun w21 (H : Sep ok w w21 [.blk b1 31 (L49_0 a0), .blk b3 27 (L49_1 a1), .blk b5 27 (L49_4 v19)] []) => ?_))
 refine RL_p (xa (ii v19.2)) ?_
 refine W_ret ?_
 obtain rfl := Option.some.inj hm
 exact ⟨[.agg (L49_4 v19).toArray, ii v19.2], (.cellA (by rfl) ag27 (H.c 2) (by rfl) (.tmp (by rfl) rfl)), rfl, H.none_⟩
end Go.Proofs.YtobkigllalbkiaaV.D

/- A plain Lean function that answers as the Go function does (none: not told), and the proof that a call answers so. Written by program. -/
set_option linter.unusedVariables false
set_option maxRecDepth 100000
set_option maxHeartbeats 4000000
namespace Go.Proofs.YtobkigllalbkiaaV.D
open Go.RowKit Go.Proofs.YtobkigllalbkiaaV
abbrev L72_0 (q0 : S_Point) : List Value := [ii q0.P.X, ii q0.P.Y, ii q0.P.Z, ii q0.U, ii q0.V]
abbrev L72_1 (q0 : S_Point) : List Value := [ii q0.P.X, ii q0.P.Y, ii q0.P.Z]
def m72 (K : Nat) (a0 : S_Point) : Option (Int) :=
 ((bif (decide (a0.P.X < (-32768))) then some true else some (decide (32768 < a0.P.X))).bind fun b3 => (bif b3 then some 8 else ((bif (decide (a0.P.Y < (-32768))) then some true else some (decide (32768 < a0.P.Y))).bind fun b6 => (bif b6 then some 8 else ((bif (decide (a0.P.Z < (-32768))) then some true else some (decide (32768 < a0.P.Z))).bind fun b9 => (bif b9 then some 8 else ((bif (decide (a0.U < 0)) then some true else some (decide (255 < a0.U))).bind fun b12 => (bif b12 then some 8 else ((bif (decide (a0.V < 0)) then some true else some (decide (255 < a0.V))).bind fun b15 => (bif b15 then some 8 else some 0))))))))))
abbrev S72_0 (q0 : Okp) (q1 q2 : World) (q3 : Nat) (q4 : S_Point) : Prop := Sep q0 q1 q2 [.blk q3 124 (L72_0 q4)] []
theorem c72 (ok : Okp) (K : Nat) (w : World) (a0 : S_Point)  (res : Int) (hm : m72 K a0 = some res) :
  Calls Tryd.prog 72 #[.agg (L72_0 a0).toArray] w (fun e w' => e = .returned (tup [ii res]) ∧ Sep ok w w' [] []) := by
 refine calls_W (args := [.agg (L72_0 a0).toArray]) Tryd.func72 rfl Tryd.ntmps72 Tryd.results72 rfl fun r hr => ?_
 obtain ⟨r1, rfl⟩ := regen (r := r) [(0, .agg (L72_0 a0).toArray)] ⟨hr 0 _ rfl, trivial⟩
 have H : Sep ok w w [] [] := Sep.start ok w
 unfold m72 at hm
 refine Wr ?_
 refine RL_cons (OB H (fun w2 b1 (H : S72_0 ok w w2 b1 a0) => ?_))
 refine RL_p (xa (ii 0)) ?_
 refine W_seq ?_
 refine Wr ?_
 refine RL_p (xf fo124_0) ?_
 refine RL_p (xf fo27_0) ?_
 refine RL_p (xl 0 (ii a0.P.X) sc3 (H.c 0)) ?_
 refine RL_p (xf fo124_0) ?_
 refine RL_p (xf fo27_1) ?_
 refine RL_p (xl 1 (ii a0.P.Y) sc3 (H.c 0)) ?_
 refine RL_p (xf fo124_0) ?_
 refine RL_p (xf fo27_2) ?_
 refine RL_p (xl 2 (ii a0.P.Z) sc3 (H.c 0)) ?_
 refine RL_p (x_build (vs := [(0, ii a0.P.X), (1, ii a0.P.Y), (2, ii a0.P.Z)]) (cs := (L72_1 a0)) (by rfl) (by kernel_rfl)) ?_
 refine RL_p (xm (ii 0)) ?_
 refine W_block ?_
 refine W_unroll 40 ?_
 refine WU_succ ?_
 refine Wr ?_
 refine RL_p (xL) ?_
 refine W_seq ?_
 refine Wt ?_
 refine W_skip ?_
 refine W_seq ?_
 refine W_block ?_
 refine Wr ?_
 refine RL_p (xi ar28 sz3 sc3) ?_
 refine RL_p (xa (ii a0.P.X)) ?_
 refine Wr ?_
 refine RL_p (xm (ii a0.P.X)) ?_
 refine RL_p (xL) ?_
 refine RL_p (xm (.bool (decide (a0.P.X < (-32768))))) ?_
 obtain ⟨b3, hmS, hm⟩ := bind_some hm
 refine RL_cut 3 (fun r' w' => Agr [(25, .bool b3), (1, pp b1), (16, .agg (L72_1 a0).toArray), (17, ii 0)] r' ∧ S72_0 ok w w' b1 a0) ?_ ?_
 ·cases hbS : (decide (a0.P.X < (-32768)))
  ·have hm := cond_f hbS hmS
   refine RQ (xm (ii a0.P.X)) ?_
   refine RQ (xG) ?_
   refine RL_p (xF (.bool (decide (32768 < a0.P.X)))) ?_
   refine RL_nil ?_
   exact ⟨⟨congrArg Value.bool (Option.some.inj hm), rfl, rfl, rfl, trivial⟩, H⟩
  have hm := cond_t hbS hmS
  refine RO ?_
  refine RO ?_
  refine RL_p (xT (.bool true)) ?_
  refine RL_nil ?_
  exact ⟨⟨congrArg Value.bool (Option.some.inj hm), rfl, rfl, rfl, trivial⟩, H⟩
 rintro r' w' ⟨hA, H⟩
 obtain ⟨r4, rfl⟩ := regen _ hA; clear hA
 obtain ⟨w5, rfl⟩ := wld w'
 show RL _ _ _ _ _ _ _
 refine Wc (fun hb => ?_) (fun hb => ?_)
 ·have hm := cond_t hb hm
  refine Wr ?_
  refine RL_p (xa (ii 8)) ?_
  refine W_ret ?_
  obtain rfl := Option.some.inj hm
  exact ⟨[ii 8], (.tmp (by rfl) rfl), rfl, H.none_⟩
 have hm := cond_f hb hm
 refine W_skip ?_
 refine W_region ?_
 refine RL_p (xp 1) ?_
 refine RL_p (xm (ii 1)) ?_
 refine WU_succ ?_
 refine Wr ?_
 refine RL_p (xL) ?_
 refine W_seq ?_
 refine Wt ?_
 refine W_skip ?_
 refine W_seq ?_
 refine W_block ?_
 refine Wr ?_
 refine RL_p (xi ar28 sz3 sc3) ?_
 refine RL_p (xa (ii a0.P.Y)) ?_
 refine Wr ?_
 refine RL_p (xm (ii a0.P.Y)) ?_
 refine RL_p (xL) ?_
 refine RL_p (xm (.bool (decide (a0.P.Y < (-32768))))) ?_
 obtain ⟨b6, hmS, hm⟩ := bind_some hm
 refine RL_cut 3 (fun r' w' => Agr [(25, .bool b6), (1, pp b1), (16, .agg (L72_1 a0).toArray), (17, ii 1)] r' ∧ S72_0 ok w w' b1 a0) ?_ ?_
 ·cases hbS : (decide (a0.P.Y < (-32768)))
  ·have hm := cond_f hbS hmS
   refine RQ (xm (ii a0.P.Y)) ?_
   refine RQ (xG) ?_
   refine RL_p (xF (.bool (decide (32768 < a0.P.Y)))) ?_
   refine RL_nil ?_
   exact ⟨⟨congrArg Value.bool (Option.some.inj hm), rfl, rfl, rfl, trivial⟩, H⟩
  have hm := cond_t hbS hmS
  refine RO ?_
  refine RO ?_
  refine RL_p (xT (.bool true)) ?_
  refine RL_nil ?_
  exact ⟨⟨congrArg Value.bool (Option.some.inj hm), rfl, rfl, rfl, trivial⟩, H⟩
 rintro r' w' ⟨hA, H⟩
 obtain ⟨r7, rfl⟩ := regen _ hA; clear hA
 obtain ⟨w8, rfl⟩ := wld w'
 show RL _ _ _ _ _ _ _
 refine Wc (fun hb => ?_) (fun hb => ?_)
 ·have hm := cond_t hb hm
  refine Wr ?_
  refine RL_p (xa (ii 8)) ?_
  refine W_ret ?_
  obtain rfl := Option.some.inj hm
  exact ⟨[ii 8], (.tmp (by rfl) rfl), rfl, H.none_⟩
 have hm := cond_f hb hm
 refine W_skip ?_
 refine W_region ?_
 refine RL_p (xp 2) ?_
 refine RL_p (xm (ii 2)) ?_
 refine WU_succ ?_
 refine Wr ?_
 refine RL_p (xL) ?_
 refine W_seq ?_
 refine Wt ?_
 refine W_skip ?_
 refine W_seq ?_
 refine W_block ?_
 refine Wr ?_
 refine RL_p (xi ar28 sz3 sc3) ?_
 refine RL_p (xa (ii a0.P.Z)) ?_
 refine Wr ?_
 refine RL_p (xm (ii a0.P.Z)) ?_
 refine RL_p (xL) ?_
 refine RL_p (xm (.bool (decide (a0.P.Z < (-32768))))) ?_
 obtain ⟨b9, hmS, hm⟩ := bind_some hm
 refine RL_cut 3 (fun r' w' => Agr [(25, .bool b9), (1, pp b1), (16, .agg (L72_1 a0).toArray), (17, ii 2)] r' ∧ S72_0 ok w w' b1 a0) ?_ ?_
 ·cases hbS : (decide (a0.P.Z < (-32768)))
  ·have hm := cond_f hbS hmS
   refine RQ (xm (ii a0.P.Z)) ?_
   refine RQ (xG) ?_
   refine RL_p (xF (.bool (decide (32768 < a0.P.Z)))) ?_
   refine RL_nil ?_
   exact ⟨⟨congrArg Value.bool (Option.some.inj hm), rfl, rfl, rfl, trivial⟩, H⟩
  have hm := cond_t hbS hmS
  refine RO ?_
  refine RO ?_
  refine RL_p (xT (.bool true)) ?_
  refine RL_nil ?_
  exact ⟨⟨congrArg Value.bool (Option.some.inj hm), rfl, rfl, rfl, trivial⟩, H⟩
 rintro r' w' ⟨hA, H⟩
 obtain ⟨r10, rfl⟩ := regen _ hA; clear hA
 obtain ⟨w11, rfl⟩ := wld w'
 show RL _ _ _ _ _ _ _
 refine Wc (fun hb => ?_) (fun hb => ?_)
 ·have hm := cond_t hb hm
  refine Wr ?_
  refine RL_p (xa (ii 8)) ?_
  refine W_ret ?_
  obtain rfl := Option.some.inj hm
  exact ⟨[ii 8], (.tmp (by rfl) rfl), rfl, H.none_⟩
 have hm := cond_f hb hm
 refine W_skip ?_
 refine W_region ?_
 refine RL_p (xp 3) ?_
 refine RL_p (xm (ii 3)) ?_
 refine WU_succ ?_
 refine Wr ?_
 refine RL_p (xL) ?_
 refine W_seq ?_
 refine Wf ?_
 refine W_exit ?_
 refine W_seq ?_
 refine Wr ?_
 refine RL_p (xf fo124_1) ?_
 refine RL_p (xl 3 (ii a0.U) sc3 (H.c 0)) ?_
 refine RL_p (xf fo124_2) ?_
 refine RL_p (xl 4 (ii a0.V) sc3 (H.c 0)) ?_
 refine RL_p (x_build (vs := [(0, ii a0.U), (1, ii a0.V)]) (cs := [ii a0.U, ii a0.V]) (by rfl) (by kernel_rfl)) ?_
 refine RL_p (xm (ii 0)) ?_
 refine W_block ?_
 refine W_unroll 40 ?_
 refine WU_succ ?_
 refine Wr ?_
 refine RL_p (xL) ?_
 refine W_seq ?_
 refine Wt ?_
 refine W_skip ?_
 refine W_seq ?_
 refine W_block ?_
 refine Wr ?_
 refine RL_p (xi ar128 sz3 sc3) ?_
 refine RL_p (xa (ii a0.U)) ?_
 refine Wr ?_
 refine RL_p (xm (ii a0.U)) ?_
 refine RL_p (xL) ?_
 refine RL_p (xm (.bool (decide (a0.U < 0)))) ?_
 obtain ⟨b12, hmS, hm⟩ := bind_some hm
 refine RL_cut 3 (fun r' w' => Agr [(40, .bool b12), (31, .agg #[ii a0.U, ii a0.V]), (32, ii 0)] r' ∧ S72_0 ok w w' b1 a0) ?_ ?_
 ·cases hbS : (decide (a0.U < 0))
  ·have hm := cond_f hbS hmS
   refine RQ (xm (ii a0.U)) ?_
   refine RQ (xG) ?_
   refine RL_p (xF (.bool (decide (255 < a0.U)))) ?_
   refine RL_nil ?_
   exact ⟨⟨congrArg Value.bool (Option.some.inj hm), rfl, rfl, trivial⟩, H⟩
  have hm := cond_t hbS hmS
  refine RO ?_
  refine RO ?_
  refine RL_p (xT (.bool true)) ?_
  refine RL_nil ?_
  exact ⟨⟨congrArg Value.bool (Option.some.inj hm), rfl, rfl, trivial⟩, H⟩
 rintro r' w' ⟨hA, H⟩
 obtain ⟨r13, rfl⟩ := regen _ hA; clear hA
 obtain ⟨w14, rfl⟩ := wld w'
 show RL _ _ _ _ _ _ _
 refine Wc (fun hb => ?_) (fun hb => ?_)
 ·have hm := cond_t hb hm
  refine Wr ?_
  refine RL_p (xa (ii 8)) ?_
  refine W_ret ?_
  obtain rfl := Option.some.inj hm
  exact ⟨[ii 8], (.tmp (by rfl) rfl), rfl, H.none_⟩
 have hm := cond_f hb hm
 refine W_skip ?_
 refine W_region ?_
 refine RL_p (xp 1) ?_
 refine RL_p (xm (ii 1)) ?_
 refine WU_succ ?_
 refine Wr ?_
 refine RL_p (xL) ?_
 refine W_seq ?_
 refine Wt ?_
 refine W_skip ?_
 refine W_seq ?_
 refine W_block ?_
 refine Wr ?_
 refine RL_p (xi ar128 sz3 sc3) ?_
 refine RL_p (xa (ii a0.V)) ?_
 refine Wr ?_
 refine RL_p (xm (ii a0.V)) ?_
 refine RL_p (xL) ?_
 refine RL_p (xm (.bool (decide (a0.V < 0)))) ?_
 obtain ⟨b15, hmS, hm⟩ := bind_some hm
 refine RL_cut 3 (fun r' w' => Agr [(40, .bool b15), (31, .agg #[ii a0.U, ii a0.V]), (32, ii 1)] r' ∧ S72_0 ok w w' b1 a0) ?_ ?_
 ·cases hbS : (decide (a0.V < 0))
  ·have hm := cond_f hbS hmS
   refine RQ (xm (ii a0.V)) ?_
   refine RQ (xG) ?_
   refine RL_p (xF (.bool (decide (255 < a0.V)))) ?_
   refine RL_nil ?_
   exact ⟨⟨congrArg Value.bool (Option.some.inj hm), rfl, rfl, trivial⟩, H⟩
  have hm := cond_t hbS hmS
  refine RO ?_
  refine RO ?_
  refine RL_p (xT (.bool true)) ?_
  refine RL_nil ?_
  exact ⟨⟨congrArg Value.bool (Option.some.inj hm), rfl, rfl, trivial⟩, H⟩
 rintro r' w' ⟨hA, H⟩
 obtain ⟨r16, rfl⟩ := regen _ hA; clear hA
 obtain ⟨w17, rfl⟩ := wld w'
 show RL _ _ _ _ _ _ _
 refine Wc (fun hb => ?_) (fun hb => ?_)
 ·have hm := cond_t hb hm
  refine Wr ?_
  refine RL_p (xa (ii 8)) ?_
  refine W_ret ?_
  obtain rfl := Option.some.inj hm
  exact ⟨[ii 8], (.tmp (by rfl) rfl), rfl, H.none_⟩
 have hm := cond_f hb hm
 refine W_skip ?_
 refine W_region ?_
 refine RL_p (xp 2) ?_
 refine RL_p (xm (ii 2)) ?_
 refine WU_succ ?_
 refine Wr ?_
 refine RL_p (xL) ?_
 refine W_seq ?_
 refine Wf ?_
 refine W_exit ?_
 refine Wr ?_
 refine RL_p (xa (ii 0)) ?_
 refine W_ret ?_
 obtain rfl := Option.some.inj hm
 exact ⟨[ii 0], (.tmp (by rfl) rfl), rfl, H.none_⟩
end Go.Proofs.YtobkigllalbkiaaV.D

/- A plain Lean function that answers as the Go function does (none: not told), and the proof that a call answers so. Written by program. -/
set_option linter.unusedVariables false
set_option maxRecDepth 100000
set_option maxHeartbeats 4000000
namespace Go.Proofs.YtobkigllalbkiaaV.D
open Go.RowKit Go.Proofs.YtobkigllalbkiaaV
abbrev L70_0 (q0 : S_Point) : List Value := [ii q0.P.X, ii q0.P.Y, ii q0.P.Z, ii q0.U, ii q0.V]
abbrev L70_1  : List Value := [ii 0, ii 0, ii 0, ii 0, ii 0]
def m70_l1b (K : Nat) (a1 : (List S_Point)) (rec1 : Int → Option (Int)) (y16_1 : Int) : Option (Int) :=
 (bif (decide (y16_1 < (a1.length : Int))) then (idx a1 y16_1 fun el10 => ((m72 K el10).bind fun v21 => (bif (v21 != 0) then some v21 else (ck (y16_1 + 1) fun x23 => (rec1 x23))))) else some 0)
def m70_l1 (K : Nat) (a1 : (List S_Point)) : Nat → Int → Option (Int)
 | 0 => fun _ => none
 | k + 1 => m70_l1b K a1 (m70_l1 K a1 k)
def m70 (K : Nat) (a0 : Int) (a1 : (List S_Point)) : Option (Int) :=
 ((bif (decide (a0 < 256)) then some true else some (decide (4096 < a0))).bind fun b5 => (bif b5 then some 2 else m70_l1 K a1 K 0))
theorem c70 (ok : Okp) (K : Nat) (w : World) (a0 : Int) (a1 : (List S_Point)) (A1 : Option Addr) (cp2 : Nat) (hR3 : Rd k_Point w ok A1 cp2 a1) (res : Int) (hm : m70 K a0 a1 = some res) :
  Calls Tryd.prog 70 #[ii a0, .slice A1 a1.length cp2] w (fun e w' => e = .returned (tup [ii res]) ∧ Sep ok w w' [] []) := by
 refine calls_W (args := [ii a0, .slice A1 a1.length cp2]) Tryd.func70 rfl Tryd.ntmps70 Tryd.results70 rfl fun r hr => ?_
 obtain ⟨r1, rfl⟩ := regen (r := r) [(0, ii a0), (1, .slice A1 a1.length cp2)] ⟨hr 0 _ rfl, hr 1 _ rfl, trivial⟩
 have H : Sep ok w w [] [RE.rd k_Point A1 cp2 a1] := Sep.arg (Sep.start ok w) (re := RE.rd k_Point A1 cp2 a1) rfl rfl hR3
 unfold m70 at hm
 refine Wr ?_
 refine RL_p (xa (ii 0)) ?_
 refine W_seq ?_
 refine Wr ?_
 refine RL_p (xm (ii a0)) ?_
 refine RL_p (xL) ?_
 refine RL_p (xm (.bool (decide (a0 < 256)))) ?_
 obtain ⟨b5, hmS, hm⟩ := bind_some hm
 refine RL_cut 3 (fun r' w' => Agr [(13, .bool b5), (1, .slice A1 a1.length cp2)] r' ∧ Sep ok w w' [] [RE.rd k_Point A1 cp2 a1]) ?_ ?_
 ·cases hbS : (decide (a0 < 256))
  ·have hm := cond_f hbS hmS
   refine RQ (xm (ii a0)) ?_
   refine RQ (xG) ?_
   refine RL_p (xF (.bool (decide (4096 < a0)))) ?_
   refine RL_nil ?_
   exact ⟨⟨congrArg Value.bool (Option.some.inj hm), rfl, trivial⟩, H⟩
  have hm := cond_t hbS hmS
  refine RO ?_
  refine RO ?_
  refine RL_p (xT (.bool true)) ?_
  refine RL_nil ?_
  exact ⟨⟨congrArg Value.bool (Option.some.inj hm), rfl, trivial⟩, H⟩
 rintro r' w' ⟨hA, H⟩
 obtain ⟨r6, rfl⟩ := regen _ hA; clear hA
 obtain ⟨w7, rfl⟩ := wld w'
 show RL _ _ _ _ _ _ _
 refine Wc (fun hb => ?_) (fun hb => ?_)
 ·have hm := cond_t hb hm
  refine Wr ?_
  refine RL_p (xa (ii 2)) ?_
  refine W_ret ?_
  obtain rfl := Option.some.inj hm
  exact ⟨[ii 2], (.tmp (by rfl) rfl), rfl, H.none_⟩
 have hm := cond_f hb hm
 refine W_skip ?_
 refine W_seq ?_
 refine Wr ?_
 refine RL_p (xm (.slice A1 a1.length cp2)) ?_
 refine RL_p (x_len sl153 (by rfl)) ?_
 refine RL_p (xm (ii 0)) ?_
 refine W_block ?_
 refine W_loop (fun k1 r' w' => ∃ (y16_1 : Int), m70_l1 K a1 k1 y16_1 = some res ∧ Agr [(14, .slice A1 a1.length cp2), (15, ii (a1.length : Int)), (16, ii y16_1)] r' ∧ Sep ok w w' [] [RE.rd k_Point A1 cp2 a1]) K ?_ ?_
 ·exact ⟨0, hm, ⟨rfl, rfl, rfl, trivial⟩, H⟩
 rintro k1 r' w' ⟨y16_1, hm, hA, H⟩
 obtain ⟨r8, rfl⟩ := regen _ hA; clear hA
 obtain ⟨w9, rfl⟩ := wld w'
 cases k1 with
 | zero => exact (none_some hm).elim
 | succ k1 =>
  have hm : m70_l1b K a1 (m70_l1 K a1 k1) y16_1 = some res := hm
  unfold m70_l1b at hm
  obtain ⟨rec1, hrec1⟩ : ∃ f, m70_l1 K a1 k1 = f := ⟨_, rfl⟩
  rw [hrec1] at hm
  refine Wr ?_
  refine RL_p (xL) ?_
  refine W_seq ?_
  refine Wc (fun hb => ?_) (fun hb => ?_)
  ·have hm := cond_t hb hm
   refine W_skip ?_
   refine W_seq ?_
   refine W_block ?_
   refine Wr ?_
   obtain ⟨el10, h11, h12, he13, hm⟩ := idx_some hm
   obtain ⟨g15, o16, hA14⟩ := (H.rd (i := 0) (by rfl)).addr he13
   refine RL_p (x_indexAddr sl153 sz124 (by rfl) (by rfl) hA14 h11 h12) ?_
   refine RL_p (xA 0 (L70_0 el10) ag124 (Rd.flatAt (n := 5) (H.rd (i := 0) (by rfl)) hA14 he13)) ?_
   refine RL_cons (OA ze124 H (fun w18 b17 (H : Sep ok w w18 [.blk b17 124 L70_1] [RE.rd k_Point A1 cp2 a1]) => ?_))
   refine RL_cons (OS 0 0 (L70_0 el10) sz124 H (fun w19 (H : Sep ok w w19 [.blk b17 124 (L70_0 el10)] [RE.rd k_Point A1 cp2 a1]) => ?_))
   refine Wr ?_
   refine RL_p (xA 0 (L70_0 el10) ag124 (H.c 0)) ?_
   obtain ⟨v21, hv20, hm⟩ := bind_some hm
   refine RL_cons (OC (xc [.agg (L70_0 el10).toArray] (cf72 _ _)) (c72 okT K w19 el10  v21 hv20) ?_)
   rintro e w22 ⟨rfl, H2⟩
   have H : Sep ok w w22 [.blk b17 124 (L70_0 el10)] [RE.rd k_Point A1 cp2 a1] := H.below H2.base
   clear H2
   refine ⟨_, rfl, ?_⟩
   refine RL_p (xa (ii v21)) ?_
   refine Wr ?_
   refine RL_p (xm (ii v21)) ?_
   refine RL_p (xN) ?_
   refine Wc (fun hb => ?_) (fun hb => ?_)
   ·have hm := cond_t hb hm
    refine Wr ?_
    refine RL_p (xm (ii v21)) ?_
    refine RL_p (xa (ii v21)) ?_
    refine W_ret ?_
    obtain rfl := Option.some.inj hm
    exact ⟨[ii v21], (.tmp (by rfl) rfl), rfl, H.none_⟩
   have hm := cond_f hb hm
   refine W_skip ?_
   refine W_region ?_
   obtain ⟨x23, ex23, qx23, ux23, hm⟩ := ck_some hm
   refine RL_p (xP ux23) ?_
   refine RL_p (xm (ii x23)) ?_
   refine RL_nil ?_
   subst hrec1
   exact ⟨k1, Nat.lt_succ_self k1, x23, hm, ⟨rfl, rfl, rfl, trivial⟩, (H).takeL 0⟩
  have hm := cond_f hb hm
  refine W_exit ?_
  refine Wr ?_
  refine RL_p (xa (ii 0)) ?_
  refine W_ret ?_
  obtain rfl := Option.some.inj hm
  exact ⟨[ii 0], (.tmp (by rfl) rfl), rfl, H.none_⟩
end Go.Proofs.YtobkigllalbkiaaV.D

/- A plain Lean function that answers as the Go function does (none: not told), and the proof that a call answers so. Written by program. -/
set_option linter.unusedVariables false
set_option maxRecDepth 100000
set_option maxHeartbeats 4000000
namespace Go.Proofs.YtobkigllalbkiaaV.D
open Go.RowKit Go.Proofs.YtobkigllalbkiaaV
abbrev L80_0 (q0 : S_Point) : List Value := [ii q0.P.X, ii q0.P.Y, ii q0.P.Z, ii q0.U, ii q0.V]
abbrev L80_1  : List Value := [ii 0, ii 0, ii 0, ii 0]
abbrev L80_2 (q0 : S_Point) : List Value := [ii q0.P.X, ii q0.P.Y, ii q0.U, ii q0.V]
abbrev L80_3 (q0 : (Ar4 Int)) : List Value := [ii q0.a0, ii q0.a1, ii q0.a2, ii q0.a3]
def m80 (K : Nat) (a0 : S_Point) : Option ((Ar4 Int)) :=
 some (⟨a0.P.X, a0.P.Y, a0.U, a0.V⟩ : (Ar4 Int))
theorem c80 (ok : Okp) (K : Nat) (w : World) (a0 : S_Point)  (res : (Ar4 Int)) (hm : m80 K a0 = some res) :
  Calls Tryd.prog 80 #[.agg (L80_0 a0).toArray] w (fun e w' => e = .returned (tup [.agg (L80_3 res).toArray]) ∧ Sep ok w w' [] []) := by
 refine calls_W (args := [.agg (L80_0 a0).toArray]) Tryd.func80 rfl Tryd.ntmps80 Tryd.results80 rfl fun r hr => ?_
 obtain ⟨r1, rfl⟩ := regen (r := r) [(0, .agg (L80_0 a0).toArray)] ⟨hr 0 _ rfl, trivial⟩
 have H : Sep ok w w [] [] := Sep.start ok w
 unfold m80 at hm
 refine Wr ?_
 refine RL_cons (OB H (fun w2 b1 (H : Sep ok w w2 [.blk b1 124 (L80_0 a0)] []) => ?_))
 refine RL_cons (OA ze163 H (fun w4 b3 (H : Sep ok w w4 [.blk b1 124 (L80_0 a0), .blk b3 163 L80_1] []) => ?_))
 refine Wr ?_
 refine RL_p (xf fo124_0) ?_
 refine RL_p (xf fo27_0) ?_
 refine RL_p (xl 0 (ii a0.P.X) sc3 (H.c 0)) ?_
 refine RL_p (xf fo124_0) ?_
 refine RL_p (xf fo27_1) ?_
 refine RL_p (xl 1 (ii a0.P.Y) sc3 (H.c 0)) ?_
 refine RL_p (xf fo124_1) ?_
 refine RL_p (xl 3 (ii a0.U) sc3 (H.c 0)) ?_
 refine RL_p (xf fo124_2) ?_
 refine RL_p (xl 4 (ii a0.V) sc3 (H.c 0)) ?_
 refine RL_p (x_build (vs := [(0, ii a0.P.X), (1, ii a0.P.Y), (2, ii a0.U), (3, ii a0.V)]) (cs := (L80_2 a0)) (by rfl) (by kernel_rfl)) ?_
 refine RL_cons (OS 1 0 (L80_2 a0) sz163 H (fun w5 (H : Sep ok w w5 [.blk b1 124 (L80_0 a0), .blk b3 163 (L80_2 a0)] []) => ?_))
 refine W_ret ?_
 obtain rfl := Option.some.inj hm
 exact ⟨[.agg (L80_2 a0).toArray], (.cellA (by rfl) ag163 (H.c 1) (by rfl) rfl), rfl, H.none_⟩
end Go.Proofs.YtobkigllalbkiaaV.D

/- A plain Lean function that answers as the Go function does (none: not told), and the proof that a call answers so. Written by program. -/
set_option linter.unusedVariables false
set_option maxRecDepth 100000
set_option maxHeartbeats 4000000
namespace Go.Proofs.YtobkigllalbkiaaV.D
open Go.RowKit Go.Proofs.YtobkigllalbkiaaV
abbrev L71_0 (q0 : S_Point) : List Value := [ii q0.P.X, ii q0.P.Y, ii q0.P.Z, ii q0.U, ii q0.V]
abbrev L71_1  : List Value := [ii 0, ii 0, ii 0, ii 0, ii 0]
abbrev L71_2 (q0 : S_Point) (q1 : S_Point) : List Value := [ii q0.P.X, ii q0.P.Y, ii q0.P.Z, ii q0.U, ii q0.V, ii q1.P.X, ii q1.P.Y, ii q1.P.Z, ii q1.U, ii q1.V]
abbrev L71_3  : List Value := [ii 0, ii 0, ii 0, ii 0]
abbrev L71_4 (q0 : (Ar4 Int)) : List Value := [ii q0.a0, ii q0.a1, ii q0.a2, ii q0.a3]
abbrev L71_5 (q0 : Int) (q1 : (Ar4 Int)) : List Value := [ii q0, ii q1.a1, ii q1.a2, ii q1.a3]
abbrev L71_6 (q0 : Int) (q1 : Int) (q2 : (Ar4 Int)) : List Value := [ii q0, ii q1, ii q2.a2, ii q2.a3]
abbrev L71_7 (q0 : Int) (q1 : Int) (q2 : Int) (q3 : (Ar4 Int)) : List Value := [ii q0, ii q1, ii q2, ii q3.a3]
abbrev L71_8 (q0 : Int) (q1 : Int) (q2 : Int) (q3 : Int) : List Value := [ii q0, ii q1, ii q2, ii q3]
abbrev L71_9 (q0 : Int) (q1 : Int) (q2 : Int) : List Value := [ii q0, ii q1, ii q2]
abbrev L71_10 (q0 : Int) (q1 : Int) (q2 : Int) (q3 : Int) (q4 : Int) : List Value := [ii q0, ii q1, ii q2, ii q3, ii q4]
abbrev L71_11 (q0 : S_Point × Int) : List Value := [ii q0.1.P.X, ii q0.1.P.Y, ii q0.1.P.Z, ii q0.1.U, ii q0.1.V]
def m71 (K : Nat) (a0 : Int) (a1 : S_Point) (a2 : S_Point) : Option (S_Point × Int) :=
 ((m70 K a0 ([a1, a2])).bind fun v12 => (bif (v12 != 0) then some ((⟨(⟨0, 0, 0⟩ : S_Vec), 0, 0⟩ : S_Point), v12) else ((bif (decide (a0 ≤ a1.P.Z)) then some true else some (decide (a2.P.Z < a0))).bind fun b15 => (bif b15 then some ((⟨(⟨0, 0, 0⟩ : S_Vec), 0, 0⟩ : S_Point), 6) else ((m80 K a1).bind fun v20 => ((m80 K a2).bind fun v23 => (ck (v23.a0 - v20.a0) fun x106 => (ck (a0 - a1.P.Z) fun x107 => (ck (x106 * x107) fun x108 => (ck (a2.P.Z - a1.P.Z) fun x109 => ((m29 K x108 x109).bind fun v111 => (ck (v20.a0 + v111.1) fun x113 => (ck (v23.a1 - v20.a1) fun x116 => (ck (a0 - a1.P.Z) fun x117 => (ck (x116 * x117) fun x118 => (ck (a2.P.Z - a1.P.Z) fun x119 => ((m29 K x118 x119).bind fun v121 => (ck (v20.a1 + v121.1) fun x123 => (ck (v23.a2 - v20.a2) fun x126 => (ck (a0 - a1.P.Z) fun x127 => (ck (x126 * x127) fun x128 => (ck (a2.P.Z - a1.P.Z) fun x129 => ((m29 K x128 x129).bind fun v131 => (ck (v20.a2 + v131.1) fun x133 => (ck (v23.a3 - v20.a3) fun x136 => (ck (a0 - a1.P.Z) fun x137 => (ck (x136 * x137) fun x138 => (ck (a2.P.Z - a1.P.Z) fun x139 => ((m29 K x138 x139).bind fun v141 => (ck (v20.a3 + v141.1) fun x143 => some ((⟨(⟨x113, x123, a0⟩ : S_Vec), x133, x143⟩ : S_Point), 0)))))))))))))))))))))))))))))))
abbrev S71_0 (q0 : Okp) (q1 q2 : World) (q3 : Nat) (q4 : S_Point) (q5 : Nat) (q6 : S_Point) (q7 : Nat) : Prop := Sep q0 q1 q2 [.blk q3 124 (L71_0 q4), .blk q5 124 (L71_0 q6), .blk q7 124 L71_1] []
abbrev S71_1 (q0 : Okp) (q1 q2 : World) (q3 : Nat) (q4 : S_Point) (q5 : Nat) (q6 : S_Point) (q7 q8 : Nat) : Prop := Sep q0 q1 q2 [.blk q3 124 (L71_0 q4), .blk q5 124 (L71_0 q6), .blk q7 124 L71_1, .row (.slice (some ⟨q8, 0, none⟩) ([q4, q6]).length 2) 124 k_Point.sz ([q4, q6]).length [ii q4.P.X, ii q4.P.Y, ii q4.P.Z, ii q4.U, ii q4.V, ii q6.P.X, ii q6.P.Y, ii q6.P.Z, ii q6.U, ii q6.V]] [RE.chunks k_Point [ii q4.P.X, ii q4.P.Y, ii q4.P.Z, ii q4.U, ii q4.V, ii q6.P.X, ii q6.P.Y, ii q6.P.Z, ii q6.U, ii q6.V] ([q4, q6])]
abbrev S71_2 (q0 : Okp) (q1 q2 : World) (q3 : Nat) (q4 : S_Point) (q5 : Nat) (q6 : S_Point) (q7 q8 q9 : Nat) : Prop := Sep q0 q1 q2 [.blk q3 124 (L71_0 q4), .blk q5 124 (L71_0 q6), .blk q7 124 L71_1, .blk q8 163 L71_3, .blk q9 163 L71_3] []
abbrev S71_3 (q0 : Okp) (q1 q2 : World) (q3 : Nat) (q4 : S_Point) (q5 : Nat) (q6 : S_Point) (q7 q8 : Nat) : Prop := Sep q0 q1 q2 [.blk q3 124 (L71_0 q4), .blk q5 124 (L71_0 q6), .blk q7 124 L71_1, .blk q8 163 L71_3, .hole] []
abbrev S71_4 (q0 : Okp) (q1 q2 : World) (q3 : Nat) (q4 : S_Point) (q5 : Nat) (q6 : S_Point) (q7 q8 : Nat) : Prop := Sep q0 q1 q2 [.blk q3 124 (L71_0 q4), .blk q5 124 (L71_0 q6), .blk q7 124 L71_1, .hole, .blk q8 163 L71_3] []
abbrev S71_5 (q0 : Okp) (q1 q2 : World) (q3 : Nat) (q4 : S_Point) (q5 : Nat) (q6 : S_Point) (q7 : Nat) : Prop := Sep q0 q1 q2 [.blk q3 124 (L71_0 q4), .blk q5 124 (L71_0 q6), .blk q7 124 L71_1, .hole, .hole] []
abbrev S71_6 (q0 : Okp) (q1 q2 : World) (q3 : Nat) (q4 : S_Point) (q5 : Nat) (q6 : S_Point) (q7 q8 : Nat) : Prop := Sep q0 q1 q2 [.blk q3 124 (L71_0 q4), .blk q5 124 (L71_0 q6), .blk q7 124 L71_1, .hole, .hole, .blk q8 163 L71_3] []
abbrev S71_7 (q0 : Okp) (q1 q2 : World) (q3 : Nat) (q4 : S_Point) (q5 : Nat) (q6 : S_Point) (q7 q8 q9 : Nat) : Prop := Sep q0 q1 q2 [.blk q3 124 (L71_0 q4), .blk q5 124 (L71_0 q6), .blk q7 124 L71_1, .hole, .blk q8 163 L71_3, .blk q9 163 L71_3] []
abbrev S71_8 (q0 : Okp) (q1 q2 : World) (q3 : Nat) (q4 : S_Point) (q5 : Nat) (q6 : S_Point) (q7 q8 q9 : Nat) : Prop := Sep q0 q1 q2 [.blk q3 124 (L71_0 q4), .blk q5 124 (L71_0 q6), .blk q7 124 L71_1, .blk q8 163 L71_3, .hole, .blk q9 163 L71_3] []
abbrev S71_9 (q0 : Okp) (q1 q2 : World) (q3 : Nat) (q4 : S_Point) (q5 : Nat) (q6 : S_Point) (q7 q8 : Nat) (q9 : (Ar4 Int)) (q10 : Nat) (q11 : (Ar4 Int)) : Prop := Sep q0 q1 q2 [.blk q3 124 (L71_0 q4), .blk q5 124 (L71_0 q6), .blk q7 124 L71_1, .blk q8 163 (L71_4 q9), .blk q10 163 (L71_4 q11)] []
abbrev S71_10 (q0 : Okp) (q1 q2 : World) (q3 : Nat) (q4 : S_Point) (q5 : Nat) (q6 : S_Point) (q7 q8 : Nat) (q9 : Int) (q10 : (Ar4 Int)) (q11 : Nat) (q12 : (Ar4 Int)) : Prop := Sep q0 q1 q2 [.blk q3 124 (L71_0 q4), .blk q5 124 (L71_0 q6), .blk q7 124 L71_1, .blk q8 163 (L71_5 q9 q10), .blk q11 163 (L71_4 q12)] []
abbrev S71_11 (q0 : Okp) (q1 q2 : World) (q3 : Nat) (q4 : S_Point) (q5 : Nat) (q6 : S_Point) (q7 q8 : Nat) (q9 q10 : Int) (q11 : (Ar4 Int)) (q12 : Nat) (q13 : (Ar4 Int)) : Prop := Sep q0 q1 q2 [.blk q3 124 (L71_0 q4), .blk q5 124 (L71_0 q6), .blk q7 124 L71_1, .blk q8 163 (L71_6 q9 q10 q11), .blk q12 163 (L71_4 q13)] []
abbrev S71_12 (q0 : Okp) (q1 q2 : World) (q3 : Nat) (q4 : S_Point) (q5 : Nat) (q6 : S_Point) (q7 q8 : Nat) (q9 q10 q11 : Int) (q12 : (Ar4 Int)) (q13 : Nat) (q14 : (Ar4 Int)) : Prop := Sep q0 q1 q2 [.blk q3 124 (L71_0 q4), .blk q5 124 (L71_0 q6), .blk q7 124 L71_1, .blk q8 163 (L71_7 q9 q10 q11 q12), .blk q13 163 (L71_4 q14)] []
theorem c71 (ok : Okp) (K : Nat) (w : World) (a0 : Int) (a1 : S_Point) (a2 : S_Point)  (res : S_Point × Int) (hm : m71 K a0 a1 a2 = some res) :
  Calls Tryd.prog 71 #[ii a0, .agg (L71_0 a1).toArray, .agg (L71_0 a2).toArray] w (fun e w' => e = .returned (tup [.agg (L71_11 res).toArray, ii res.2]) ∧ Sep ok w w' [] []) := by
 refine calls_W (args := [ii a0, .agg (L71_0 a1).toArray, .agg (L71_0 a2).toArray]) Tryd.func71 rfl Tryd.ntmps71 Tryd.results71 rfl fun r hr => ?_
 obtain ⟨r1, rfl⟩ := regen (r := r) [(0, ii a0), (1, .agg (L71_0 a1).toArray), (2, .agg (L71_0 a2).toArray)] ⟨hr 0 _ rfl, hr 1 _ rfl, hr 2 _ rfl, trivial⟩
 have H : Sep ok w w [] [] := Sep.start ok w
 unfold m71 at hm
 refine Wr ?_
 refine RL_cons (OB H (fun w2 b1 (H : Sep ok w w2 [.blk b1 124 (L71_0 a1)] []) => ?_))
 refine RL_cons (OB H (fun w4 b3 (H : Sep ok w w4 [.blk b1 124 (L71_0 a1), .blk b3 124 (L71_0 a2)] []) => ?_))
 refine RL_cons (OA ze124 H (fun w6 b5 (H : S71_0 ok w w6 b1 a1 b3 a2 b5) => ?_))
 refine RL_p (xa (ii 0)) ?_
 refine W_seq ?_
 refine Wr ?_
 refine RL_p (xm (ii a0)) ?_
 refine RL_p (xA 0 (L71_0 a1) ag124 (H.c 0)) ?_
 refine RL_p (xA 0 (L71_0 a2) ag124 (H.c 1)) ?_
 refine RL_cons (O_buildSlice (vs := [(0, .agg (L71_0 a1).toArray), (1, .agg (L71_0 a2).toArray)]) (cs := [ii a1.P.X, ii a1.P.Y, ii a1.P.Z, ii a1.U, ii a1.V, ii a2.P.X, ii a2.P.Y, ii a2.P.Z, ii a2.U, ii a2.V]) (by exact wn0 rfl) (by rfl) sl153 sz124 ze124 (by rfl) (by rfl) (by rfl) (by kernel_rfl) H (fun w8 b7 (H : Sep ok w w8 [.blk b1 124 (L71_0 a1), .blk b3 124 (L71_0 a2), .blk b5 124 L71_1, .blk b7 124 (L71_2 a1 a2)] []) => ?_))
 have H : S71_1 ok w w8 b1 a1 b3 a2 b5 b7 := H.rowOf (i := 3) (D := k_Point) (xs := [a1, a2]) (by rfl) (by exact ⟨rfl, rfl, rfl⟩) (by rfl)
 obtain ⟨v12, hv11, hm⟩ := bind_some hm
 refine RL_cons (OC (xc [ii a0, .slice (some ⟨b7, 0, none⟩) ([a1, a2]).length 2] (cf70 _ _)) (c70 okT K w8 a0 ([a1, a2]) (some ⟨b7, 0, none⟩) 2 (H.rowRd (i := 3) (j := 0) (by rfl) (by rfl)) v12 hv11) ?_)
 rintro e w13 ⟨rfl, H2⟩
 have H : S71_1 ok w w13 b1 a1 b3 a2 b5 b7 := H.below H2.base
 clear H2
 refine ⟨_, rfl, ?_⟩
 refine RL_p (xa (ii v12)) ?_
 refine W_seq ?_
 have H : S71_0 ok w w13 b1 a1 b3 a2 b5 := ((H.takeL 3).pick [])
 refine W_region ?_
 refine RL_p (xm (ii v12)) ?_
 refine RL_p (xN) ?_
 refine Wc (fun hb => ?_) (fun hb => ?_)
 ·have hm := cond_t hb hm
  refine Wr ?_
  refine RL_p (x_build (vs := []) (cs := L71_1) (by rfl) (by kernel_rfl)) ?_
  refine RL_p (xm (ii v12)) ?_
  refine RL_cons (OS 2 0 L71_1 sz124 H (fun w14 (H : S71_0 ok w w14 b1 a1 b3 a2 b5) => ?_))
  refine RL_p (xa (ii v12)) ?_
  refine W_ret ?_
  obtain rfl := Option.some.inj hm
  exact ⟨[.agg L71_1.toArray, ii v12], (.cellA (by rfl) ag124 (H.c 2) (by rfl) (.tmp (by rfl) rfl)), rfl, H.none_⟩
 have hm := cond_f hb hm
 refine W_skip ?_
 refine W_seq ?_
 refine Wr ?_
 refine RL_p (xf fo124_0) ?_
 refine RL_p (xf fo27_2) ?_
 refine RL_p (xl 2 (ii a1.P.Z) sc3 (H.c 0)) ?_
 refine RL_p (xm (ii a0)) ?_
 refine RL_p (x_geq (by rfl) (by rfl)) ?_
 refine RL_p (xm (.bool (decide (a0 ≤ a1.P.Z)))) ?_
 obtain ⟨b15, hmS, hm⟩ := bind_some hm
 refine RL_cut 6 (fun r' w' => Agr [(35, .bool b15), (0, ii a0), (4, pp b1), (5, pp b3), (6, pp b5)] r' ∧ S71_0 ok w w' b1 a1 b3 a2 b5) ?_ ?_
 ·cases hbS : (decide (a0 ≤ a1.P.Z))
  ·have hm := cond_f hbS hmS
   refine RQ (xf fo124_0) ?_
   refine RQ (xf fo27_2) ?_
   refine RQ (xl 2 (ii a2.P.Z) sc3 (H.c 1)) ?_
   refine RQ (xm (ii a0)) ?_
   refine RQ (xL) ?_
   refine RL_p (xF (.bool (decide (a2.P.Z < a0)))) ?_
   refine RL_nil ?_
   exact ⟨⟨congrArg Value.bool (Option.some.inj hm), rfl, rfl, rfl, rfl, trivial⟩, H⟩
  have hm := cond_t hbS hmS
  refine RO ?_
  refine RO ?_
  refine RO ?_
  refine RO ?_
  refine RO ?_
  refine RL_p (xT (.bool true)) ?_
  refine RL_nil ?_
  exact ⟨⟨congrArg Value.bool (Option.some.inj hm), rfl, rfl, rfl, rfl, trivial⟩, H⟩
 rintro r' w' ⟨hA, H⟩
 obtain ⟨r16, rfl⟩ := regen _ hA; clear hA
 obtain ⟨w17, rfl⟩ := wld w'
 show RL _ _ _ _ _ _ _
 refine Wc (fun hb => ?_) (fun hb => ?_)
 ·have hm := cond_t hb hm
  refine Wr ?_
  refine RL_p (x_build (vs := []) (cs := L71_1) (by rfl) (by kernel_rfl)) ?_
  refine RL_cons (OS 2 0 L71_1 sz124 H (fun w18 (H : S71_0 ok w w18 b1 a1 b3 a2 b5) => ?_))
  refine RL_p (xa (ii 6)) ?_
  refine W_ret ?_
  obtain rfl := Option.some.inj hm
  exact ⟨[.agg L71_1.toArray, ii 6], (.cellA (by rfl) ag124 (H.c 2) (by rfl) (.tmp (by rfl) rfl)), rfl, H.none_⟩
 have hm := cond_f hb hm
 refine W_skip ?_
 refine Wr ?_
 refine RL_p (xa (.func (.func 80) #[] #[])) ?_
 refine W_seq ?_
 obtain ⟨v20, hv19, hm⟩ := bind_some hm
 obtain ⟨v23, hv22, hm⟩ := bind_some hm
 refine W_drawT (.free 0 (.take 1 (.free 3 (.take 4 (.all (.br 2 (.all (.br 5 (.all (.br 6 (.all (.br 7 (.all (.br 8 (.lin [.tail 9]) (.stop))) (.stop))) (.br 7 (.all (.br 6 (.all (.br 8 (.lin [.tail 9]) (.stop))) (.stop))) (.stop)))) (.br 6 (.all (.br 5 (.all (.br 7 (.all (.br 8 (.lin [.tail 9]) (.stop))) (.stop))) (.br 7 (.all (.br 5 (.all (.br 8 (.lin [.tail 9]) (.stop))) (.stop))) (.stop)))) (.br 7 (.all (.br 5 (.all (.br 6 (.all (.br 8 (.lin [.tail 9]) (.stop))) (.stop))) (.br 6 (.all (.br 5 (.all (.br 8 (.lin [.tail 9]) (.stop))) (.stop))) (.stop)))) (.stop))))) (.br 6 (.all (.br 2 (.all (.br 5 (.all (.br 7 (.all (.br 8 (.lin [.tail 9]) (.stop))) (.stop))) (.br 7 (.all (.br 5 (.all (.br 8 (.lin [.tail 9]) (.stop))) (.stop))) (.stop)))) (.br 7 (.all (.br 2 (.all (.br 5 (.all (.br 8 (.lin [.tail 9]) (.stop))) (.stop))) (.stop))) (.stop)))) (.br 7 (.all (.br 2 (.all (.br 5 (.all (.br 6 (.all (.br 8 (.lin [.tail 9]) (.stop))) (.stop))) (.br 6 (.all (.br 5 (.all (.br 8 (.lin [.tail 9]) (.stop))) (.stop))) (.stop)))) (.br 6 (.all (.br 2 (.all (.br 5 (.all (.br 8 (.lin [.tail 9]) (.stop))) (.stop))) (.stop))) (.stop)))) (.stop))))))))) (fun wS => S71_0 ok w wS b1 a1 b3 a2 b5) [9] [0, 3] mixed0 (by kernel_rfl) (by kernel_rfl) (by kernel_rfl) (by kernel_rfl) (by exact H.drew) ?_
 obtain ⟨w30, hW⟩ : ∃ W : World, W = { w17 with drawn := w17.drawn + 1 } := ⟨_, rfl⟩
 rw [← hW]
 have H : S71_0 ok w w30 b1 a1 b3 a2 b5 := by rw [hW]; exact H.drew
 clear hW
 refine TF (a := xm (.func (.func 80) #[] #[])) (b := ?_)
 refine TT (a := fun H => xA 0 (L71_0 a1) ag124 (H.c 0)) (b := ?_)
 refine TF (a := xm (.func (.func 80) #[] #[])) (b := ?_)
 refine TT (a := fun H => xA 0 (L71_0 a2) ag124 (H.c 1)) (b := ?_)
 refine PRT_meet (fun r' w' => ∃ (b25 : Nat), ∃ (b27 : Nat), Agr [(0, ii a0), (4, pp b1), (5, pp b3), (6, pp b5), (10, pp b25), (11, pp b27), (42, .agg (L71_4 v23).toArray)] r' ∧ Sep ok w w' [.blk b1 124 (L71_0 a1), .blk b3 124 (L71_0 a2), .blk b5 124 L71_1, .blk b25 163 (L71_4 v20), .blk b27 163 L71_3] []) (.lin [.tail 9]) ?_ ?_
 ·intro hJ2_5_6_7_8
  refine PRT_meet (fun r' w' => ∃ (b25 : Nat), ∃ (b27 : Nat), Agr [(0, ii a0), (4, pp b1), (5, pp b3), (6, pp b5), (10, pp b25), (11, pp b27), (39, .agg (L71_4 v20).toArray), (42, .agg (L71_4 v23).toArray)] r' ∧ S71_2 ok w w' b1 a1 b3 a2 b5 b25 b27) (.all (.br 8 (.lin [.tail 9]) (.stop))) ?_ ?_
  ·intro hJ2_5_6_7
   refine PRT_meet (fun r' w' => ∃ (b25 : Nat), Agr [(0, ii a0), (4, pp b1), (5, pp b3), (6, pp b5), (10, pp b25), (39, .agg (L71_4 v20).toArray), (42, .agg (L71_4 v23).toArray)] r' ∧ S71_3 ok w w' b1 a1 b3 a2 b5 b25) (.all (.br 7 (.all (.br 8 (.lin [.tail 9]) (.stop))) (.stop))) ?_ ?_
   ·intro hJ2_5_6
    refine PRT_meet (fun r' w' => ∃ (b27 : Nat), Agr [(0, ii a0), (4, pp b1), (5, pp b3), (6, pp b5), (11, pp b27), (39, .agg (L71_4 v20).toArray), (42, .agg (L71_4 v23).toArray)] r' ∧ S71_4 ok w w' b1 a1 b3 a2 b5 b27) (.all (.br 6 (.all (.br 8 (.lin [.tail 9]) (.stop))) (.stop))) ?_ ?_
    ·intro hJ2_5_7
     refine PRT_meet (fun r' w' => ∃ (b25 : Nat), ∃ (b27 : Nat), Agr [(0, ii a0), (4, pp b1), (5, pp b3), (6, pp b5), (10, pp b25), (11, pp b27), (39, .agg (L71_4 v20).toArray), (40, .func (.func 80) #[] #[]), (41, .agg (L71_0 a2).toArray)] r' ∧ S71_2 ok w w' b1 a1 b3 a2 b5 b25 b27) (.all (.br 5 (.all (.br 8 (.lin [.tail 9]) (.stop))) (.stop))) ?_ ?_
     ·intro hJ2_6_7
      refine PRT_meet (fun r' w' => Agr [(0, ii a0), (4, pp b1), (5, pp b3), (6, pp b5), (39, .agg (L71_4 v20).toArray), (42, .agg (L71_4 v23).toArray)] r' ∧ S71_5 ok w w' b1 a1 b3 a2 b5) (.all (.br 6 (.all (.br 7 (.all (.br 8 (.lin [.tail 9]) (.stop))) (.stop))) (.br 7 (.all (.br 6 (.all (.br 8 (.lin [.tail 9]) (.stop))) (.stop))) (.stop)))) ?_ ?_
      ·intro hJ2_5
       refine PRT_meet (fun r' w' => ∃ (b25 : Nat), Agr [(0, ii a0), (4, pp b1), (5, pp b3), (6, pp b5), (10, pp b25), (39, .agg (L71_4 v20).toArray), (40, .func (.func 80) #[] #[]), (41, .agg (L71_0 a2).toArray)] r' ∧ S71_3 ok w w' b1 a1 b3 a2 b5 b25) (.all (.br 5 (.all (.br 7 (.all (.br 8 (.lin [.tail 9]) (.stop))) (.stop))) (.br 7 (.all (.br 5 (.all (.br 8 (.lin [.tail 9]) (.stop))) (.stop))) (.stop)))) ?_ ?_
       ·intro hJ2_6
        refine PRT_meet (fun r' w' => ∃ (b27 : Nat), Agr [(0, ii a0), (4, pp b1), (5, pp b3), (6, pp b5), (11, pp b27), (39, .agg (L71_4 v20).toArray), (40, .func (.func 80) #[] #[]), (41, .agg (L71_0 a2).toArray)] r' ∧ S71_4 ok w w' b1 a1 b3 a2 b5 b27) (.all (.br 5 (.all (.br 6 (.all (.br 8 (.lin [.tail 9]) (.stop))) (.stop))) (.br 6 (.all (.br 5 (.all (.br 8 (.lin [.tail 9]) (.stop))) (.stop))) (.stop)))) ?_ ?_
        ·intro hJ2_7
         refine PRT_meet (fun r' w' => ∃ (b25 : Nat), ∃ (b27 : Nat), Agr [(0, ii a0), (4, pp b1), (5, pp b3), (6, pp b5), (10, pp b25), (11, pp b27), (37, .func (.func 80) #[] #[]), (38, .agg (L71_0 a1).toArray), (40, .func (.func 80) #[] #[]), (41, .agg (L71_0 a2).toArray)] r' ∧ S71_2 ok w w' b1 a1 b3 a2 b5 b25 b27) (.all (.br 2 (.all (.br 5 (.all (.br 8 (.lin [.tail 9]) (.stop))) (.stop))) (.stop))) ?_ ?_
         ·intro hJ6_7
          refine PRT_meet (fun r' w' => Agr [(0, ii a0), (4, pp b1), (5, pp b3), (6, pp b5), (39, .agg (L71_4 v20).toArray), (40, .func (.func 80) #[] #[]), (41, .agg (L71_0 a2).toArray)] r' ∧ S71_5 ok w w' b1 a1 b3 a2 b5) (.all (.br 5 (.all (.br 6 (.all (.br 7 (.all (.br 8 (.lin [.tail 9]) (.stop))) (.stop))) (.br 7 (.all (.br 6 (.all (.br 8 (.lin [.tail 9]) (.stop))) (.stop))) (.stop)))) (.br 6 (.all (.br 5 (.all (.br 7 (.all (.br 8 (.lin [.tail 9]) (.stop))) (.stop))) (.br 7 (.all (.br 5 (.all (.br 8 (.lin [.tail 9]) (.stop))) (.stop))) (.stop)))) (.br 7 (.all (.br 5 (.all (.br 6 (.all (.br 8 (.lin [.tail 9]) (.stop))) (.stop))) (.br 6 (.all (.br 5 (.all (.br 8 (.lin [.tail 9]) (.stop))) (.stop))) (.stop)))) (.stop))))) ?_ ?_
          ·intro hJ2
           refine PRT_meet (fun r' w' => ∃ (b25 : Nat), Agr [(0, ii a0), (4, pp b1), (5, pp b3), (6, pp b5), (10, pp b25), (37, .func (.func 80) #[] #[]), (38, .agg (L71_0 a1).toArray), (40, .func (.func 80) #[] #[]), (41, .agg (L71_0 a2).toArray)] r' ∧ S71_3 ok w w' b1 a1 b3 a2 b5 b25) (.all (.br 2 (.all (.br 5 (.all (.br 7 (.all (.br 8 (.lin [.tail 9]) (.stop))) (.stop))) (.br 7 (.all (.br 5 (.all (.br 8 (.lin [.tail 9]) (.stop))) (.stop))) (.stop)))) (.br 7 (.all (.br 2 (.all (.br 5 (.all (.br 8 (.lin [.tail 9]) (.stop))) (.stop))) (.stop))) (.stop)))) ?_ ?_
           ·intro hJ6
            refine PRT_meet (fun r' w' => ∃ (b27 : Nat), Agr [(0, ii a0), (4, pp b1), (5, pp b3), (6, pp b5), (11, pp b27), (37, .func (.func 80) #[] #[]), (38, .agg (L71_0 a1).toArray), (40, .func (.func 80) #[] #[]), (41, .agg (L71_0 a2).toArray)] r' ∧ S71_4 ok w w' b1 a1 b3 a2 b5 b27) (.all (.br 2 (.all (.br 5 (.all (.br 6 (.all (.br 8 (.lin [.tail 9]) (.stop))) (.stop))) (.br 6 (.all (.br 5 (.all (.br 8 (.lin [.tail 9]) (.stop))) (.stop))) (.stop)))) (.br 6 (.all (.br 2 (.all (.br 5 (.all (.br 8 (.lin [.tail 9]) (.stop))) (.stop))) (.stop))) (.stop)))) ?_ ?_
            ·intro hJ7
             have H : S71_5 ok w w30 b1 a1 b3 a2 b5 := ((H).nilHole).nilHole
             refine PRT_all ?_
             refine PB ?_ ?_
             ·show OpR _ _ _ _ _ _ _
              refine OC (xc [.agg (L71_0 a1).toArray] (cf80 _ _)) (c80 okT K w30 a1  v20 hv19) ?_
              rintro e w21 ⟨rfl, H2⟩
              have H : S71_5 ok w w21 b1 a1 b3 a2 b5 := H.below H2.base
              clear H2
              refine ⟨_, rfl, (Sep.takeL H 3), ?_⟩
              show PRT _ _ _ _ _ _ _ _
              exact hJ2 _ _ ⟨⟨rfl, rfl, rfl, rfl, rfl, rfl, rfl, trivial⟩, H⟩
             refine PB ?_ ?_
             ·show OpR _ _ _ _ _ _ _
              refine OA ze163 H (fun w26 b25 (H : S71_6 ok w w26 b1 a1 b3 a2 b5 b25) => ⟨(Sep.takeL H 3), ?_⟩)
              exact hJ6 _ _ ⟨b25, ⟨rfl, rfl, rfl, rfl, rfl, rfl, rfl, rfl, rfl, trivial⟩, (H).pickL [0, 1, 2, 5, 4] (by decide)⟩
             refine PB ?_ ?_
             ·show OpR _ _ _ _ _ _ _
              refine OA ze163 H (fun w28 b27 (H : S71_6 ok w w28 b1 a1 b3 a2 b5 b27) => ⟨(Sep.takeL H 3), ?_⟩)
              exact hJ7 _ _ ⟨b27, ⟨rfl, rfl, rfl, rfl, rfl, rfl, rfl, rfl, rfl, trivial⟩, (H).pickL [0, 1, 2, 3, 5] (by decide)⟩
             exact PRT_stop
            show ∀ r w, _ → _
            rintro r' w' ⟨b27, hA, H⟩
            obtain ⟨r80, rfl⟩ := regen _ hA; clear hA
            obtain ⟨w81, rfl⟩ := wld w'
            refine PRT_all ?_
            refine PB ?_ ?_
            ·show OpR _ _ _ _ _ _ _
             refine OC (xc [.agg (L71_0 a1).toArray] (cf80 _ _)) (c80 okT K w81 a1  v20 hv19) ?_
             rintro e w21 ⟨rfl, H2⟩
             have H : S71_4 ok w w21 b1 a1 b3 a2 b5 b27 := H.below H2.base
             clear H2
             refine ⟨_, rfl, (Sep.takeL H 3), ?_⟩
             show PRT _ _ _ _ _ _ _ _
             exact hJ2_7 _ _ ⟨b27, ⟨rfl, rfl, rfl, rfl, rfl, rfl, rfl, rfl, trivial⟩, H⟩
            refine PB ?_ ?_
            ·show OpR _ _ _ _ _ _ _
             refine OA ze163 H (fun w26 b25 (H : S71_7 ok w w26 b1 a1 b3 a2 b5 b27 b25) => ⟨(Sep.takeL H 3), ?_⟩)
             exact hJ6_7 _ _ ⟨b25, b27, ⟨rfl, rfl, rfl, rfl, rfl, rfl, rfl, rfl, rfl, rfl, trivial⟩, (H).pickL [0, 1, 2, 5, 4] (by decide)⟩
            exact PRT_stop
           show ∀ r w, _ → _
           rintro r' w' ⟨b25, hA, H⟩
           obtain ⟨r82, rfl⟩ := regen _ hA; clear hA
           obtain ⟨w83, rfl⟩ := wld w'
           refine PRT_all ?_
           refine PB ?_ ?_
           ·show OpR _ _ _ _ _ _ _
            refine OC (xc [.agg (L71_0 a1).toArray] (cf80 _ _)) (c80 okT K w83 a1  v20 hv19) ?_
            rintro e w21 ⟨rfl, H2⟩
            have H : S71_3 ok w w21 b1 a1 b3 a2 b5 b25 := H.below H2.base
            clear H2
            refine ⟨_, rfl, (Sep.takeL H 3), ?_⟩
            show PRT _ _ _ _ _ _ _ _
            exact hJ2_6 _ _ ⟨b25, ⟨rfl, rfl, rfl, rfl, rfl, rfl, rfl, rfl, trivial⟩, H⟩
           refine PB ?_ ?_
           ·show OpR _ _ _ _ _ _ _
            refine OA ze163 H (fun w28 b27 (H : S71_8 ok w w28 b1 a1 b3 a2 b5 b25 b27) => ⟨(Sep.takeL H 3), ?_⟩)
            exact hJ6_7 _ _ ⟨b25, b27, ⟨rfl, rfl, rfl, rfl, rfl, rfl, rfl, rfl, rfl, rfl, trivial⟩, (H).pickL [0, 1, 2, 3, 5] (by decide)⟩
           exact PRT_stop
          show ∀ r w, _ → _
          rintro r' w' ⟨hA, H⟩
          obtain ⟨r84, rfl⟩ := regen _ hA; clear hA
          obtain ⟨w85, rfl⟩ := wld w'
          refine PRT_all ?_
          refine PB ?_ ?_
          ·show OpR _ _ _ _ _ _ _
           refine OC (xc [.agg (L71_0 a2).toArray] (cf80 _ _)) (c80 okT K w85 a2  v23 hv22) ?_
           rintro e w24 ⟨rfl, H2⟩
           have H : S71_5 ok w w24 b1 a1 b3 a2 b5 := H.below H2.base
           clear H2
           refine ⟨_, rfl, (Sep.takeL H 3), ?_⟩
           show PRT _ _ _ _ _ _ _ _
           exact hJ2_5 _ _ ⟨⟨rfl, rfl, rfl, rfl, rfl, rfl, trivial⟩, H⟩
          refine PB ?_ ?_
          ·show OpR _ _ _ _ _ _ _
           refine OA ze163 H (fun w26 b25 (H : S71_6 ok w w26 b1 a1 b3 a2 b5 b25) => ⟨(Sep.takeL H 3), ?_⟩)
           exact hJ2_6 _ _ ⟨b25, ⟨rfl, rfl, rfl, rfl, rfl, rfl, rfl, rfl, trivial⟩, (H).pickL [0, 1, 2, 5, 4] (by decide)⟩
          refine PB ?_ ?_
          ·show OpR _ _ _ _ _ _ _
           refine OA ze163 H (fun w28 b27 (H : S71_6 ok w w28 b1 a1 b3 a2 b5 b27) => ⟨(Sep.takeL H 3), ?_⟩)
           exact hJ2_7 _ _ ⟨b27, ⟨rfl, rfl, rfl, rfl, rfl, rfl, rfl, rfl, trivial⟩, (H).pickL [0, 1, 2, 3, 5] (by decide)⟩
          exact PRT_stop
         show ∀ r w, _ → _
         rintro r' w' ⟨b25, b27, hA, H⟩
         obtain ⟨r86, rfl⟩ := regen _ hA; clear hA
         obtain ⟨w87, rfl⟩ := wld w'
         refine PRT_all ?_
         refine PB ?_ ?_
         ·show OpR _ _ _ _ _ _ _
          refine OC (xc [.agg (L71_0 a1).toArray] (cf80 _ _)) (c80 okT K w87 a1  v20 hv19) ?_
          rintro e w21 ⟨rfl, H2⟩
          have H : S71_2 ok w w21 b1 a1 b3 a2 b5 b25 b27 := H.below H2.base
          clear H2
          refine ⟨_, rfl, (Sep.takeL H 3), ?_⟩
          show PRT _ _ _ _ _ _ _ _
          exact hJ2_6_7 _ _ ⟨b25, b27, ⟨rfl, rfl, rfl, rfl, rfl, rfl, rfl, rfl, rfl, trivial⟩, H⟩
         exact PRT_stop
        show ∀ r w, _ → _
        rintro r' w' ⟨b27, hA, H⟩
        obtain ⟨r88, rfl⟩ := regen _ hA; clear hA
        obtain ⟨w89, rfl⟩ := wld w'
        refine PRT_all ?_
        refine PB ?_ ?_
        ·show OpR _ _ _ _ _ _ _
         refine OC (xc [.agg (L71_0 a2).toArray] (cf80 _ _)) (c80 okT K w89 a2  v23 hv22) ?_
         rintro e w24 ⟨rfl, H2⟩
         have H : S71_4 ok w w24 b1 a1 b3 a2 b5 b27 := H.below H2.base
         clear H2
         refine ⟨_, rfl, (Sep.takeL H 3), ?_⟩
         show PRT _ _ _ _ _ _ _ _
         exact hJ2_5_7 _ _ ⟨b27, ⟨rfl, rfl, rfl, rfl, rfl, rfl, rfl, trivial⟩, H⟩
        refine PB ?_ ?_
        ·show OpR _ _ _ _ _ _ _
         refine OA ze163 H (fun w26 b25 (H : S71_7 ok w w26 b1 a1 b3 a2 b5 b27 b25) => ⟨(Sep.takeL H 3), ?_⟩)
         exact hJ2_6_7 _ _ ⟨b25, b27, ⟨rfl, rfl, rfl, rfl, rfl, rfl, rfl, rfl, rfl, trivial⟩, (H).pickL [0, 1, 2, 5, 4] (by decide)⟩
        exact PRT_stop
       show ∀ r w, _ → _
       rintro r' w' ⟨b25, hA, H⟩
       obtain ⟨r90, rfl⟩ := regen _ hA; clear hA
       obtain ⟨w91, rfl⟩ := wld w'
       refine PRT_all ?_
       refine PB ?_ ?_
       ·show OpR _ _ _ _ _ _ _
        refine OC (xc [.agg (L71_0 a2).toArray] (cf80 _ _)) (c80 okT K w91 a2  v23 hv22) ?_
        rintro e w24 ⟨rfl, H2⟩
        have H : S71_3 ok w w24 b1 a1 b3 a2 b5 b25 := H.below H2.base
        clear H2
        refine ⟨_, rfl, (Sep.takeL H 3), ?_⟩
        show PRT _ _ _ _ _ _ _ _
        exact hJ2_5_6 _ _ ⟨b25, ⟨rfl, rfl, rfl, rfl, rfl, rfl, rfl, trivial⟩, H⟩
       refine PB ?_ ?_
       ·show OpR _ _ _ _ _ _ _
        refine OA ze163 H (fun w28 b27 (H : S71_8 ok w w28 b1 a1 b3 a2 b5 b25 b27) => ⟨(Sep.takeL H 3), ?_⟩)
        exact hJ2_6_7 _ _ ⟨b25, b27, ⟨rfl, rfl, rfl, rfl, rfl, rfl, rfl, rfl, rfl, trivial⟩, (H).pickL [0, 1, 2, 3, 5] (by decide)⟩
       exact PRT_stop
      show ∀ r w, _ → _
      rintro r' w' ⟨hA, H⟩
      obtain ⟨r92, rfl⟩ := regen _ hA; clear hA
      obtain ⟨w93, rfl⟩ := wld w'
      refine PRT_all ?_
      refine PB ?_ ?_
      ·show OpR _ _ _ _ _ _ _
       refine OA ze163 H (fun w26 b25 (H : S71_6 ok w w26 b1 a1 b3 a2 b5 b25) => ⟨(Sep.takeL H 3), ?_⟩)
       exact hJ2_5_6 _ _ ⟨b25, ⟨rfl, rfl, rfl, rfl, rfl, rfl, rfl, trivial⟩, (H).pickL [0, 1, 2, 5, 4] (by decide)⟩
      refine PB ?_ ?_
      ·show OpR _ _ _ _ _ _ _
       refine OA ze163 H (fun w28 b27 (H : S71_6 ok w w28 b1 a1 b3 a2 b5 b27) => ⟨(Sep.takeL H 3), ?_⟩)
       exact hJ2_5_7 _ _ ⟨b27, ⟨rfl, rfl, rfl, rfl, rfl, rfl, rfl, trivial⟩, (H).pickL [0, 1, 2, 3, 5] (by decide)⟩
      exact PRT_stop
     show ∀ r w, _ → _
     rintro r' w' ⟨b25, b27, hA, H⟩
     obtain ⟨r94, rfl⟩ := regen _ hA; clear hA
     obtain ⟨w95, rfl⟩ := wld w'
     refine PRT_all ?_
     refine PB ?_ ?_
     ·show OpR _ _ _ _ _ _ _
      refine OC (xc [.agg (L71_0 a2).toArray] (cf80 _ _)) (c80 okT K w95 a2  v23 hv22) ?_
      rintro e w24 ⟨rfl, H2⟩
      have H : S71_2 ok w w24 b1 a1 b3 a2 b5 b25 b27 := H.below H2.base
      clear H2
      refine ⟨_, rfl, (Sep.takeL H 3), ?_⟩
      show PRT _ _ _ _ _ _ _ _
      exact hJ2_5_6_7 _ _ ⟨b25, b27, ⟨rfl, rfl, rfl, rfl, rfl, rfl, rfl, rfl, trivial⟩, H⟩
     exact PRT_stop
    show ∀ r w, _ → _
    rintro r' w' ⟨b27, hA, H⟩
    obtain ⟨r96, rfl⟩ := regen _ hA; clear hA
    obtain ⟨w97, rfl⟩ := wld w'
    refine PRT_all ?_
    refine PB ?_ ?_
    ·show OpR _ _ _ _ _ _ _
     refine OA ze163 H (fun w26 b25 (H : S71_7 ok w w26 b1 a1 b3 a2 b5 b27 b25) => ⟨(Sep.takeL H 3), ?_⟩)
     exact hJ2_5_6_7 _ _ ⟨b25, b27, ⟨rfl, rfl, rfl, rfl, rfl, rfl, rfl, rfl, trivial⟩, (H).pickL [0, 1, 2, 5, 4] (by decide)⟩
    exact PRT_stop
   show ∀ r w, _ → _
   rintro r' w' ⟨b25, hA, H⟩
   obtain ⟨r98, rfl⟩ := regen _ hA; clear hA
   obtain ⟨w99, rfl⟩ := wld w'
   refine PRT_all ?_
   refine PB ?_ ?_
   ·show OpR _ _ _ _ _ _ _
    refine OA ze163 H (fun w28 b27 (H : S71_8 ok w w28 b1 a1 b3 a2 b5 b25 b27) => ⟨(Sep.takeL H 3), ?_⟩)
    exact hJ2_5_6_7 _ _ ⟨b25, b27, ⟨rfl, rfl, rfl, rfl, rfl, rfl, rfl, rfl, trivial⟩, (H).pickL [0, 1, 2, 3, 5] (by decide)⟩
   exact PRT_stop
  show ∀ r w, _ → _
  rintro r' w' ⟨b25, b27, hA, H⟩
  obtain ⟨r100, rfl⟩ := regen _ hA; clear hA
  obtain ⟨w101, rfl⟩ := wld w'
  refine PRT_all ?_
  refine PB ?_ ?_
  ·show OpR _ _ _ _ _ _ _
   refine OS 3 0 (L71_4 v20) sz163 H (fun w29 (H : Sep ok w w29 [.blk b1 124 (L71_0 a1), .blk b3 124 (L71_0 a2), .blk b5 124 L71_1, .blk b25 163 (L71_4 v20), .blk b27 163 L71_3] []) => ⟨(Sep.takeL H 3), ?_⟩)
   exact hJ2_5_6_7_8 _ _ ⟨b25, b27, ⟨rfl, rfl, rfl, rfl, rfl, rfl, rfl, trivial⟩, H⟩
  exact PRT_stop
 show ∀ r w, _ → _
 rintro r' w' ⟨b25, b27, hA, H⟩
 obtain ⟨r102, rfl⟩ := regen _ hA; clear hA
 obtain ⟨w103, rfl⟩ := wld w'
 refine PRT_lin ?_
 refine PL (a := OS 4 0 (L71_4 v23) sz163 H (fun w104 (H : S71_9 ok w w104 b1 a1 b3 a2 b5 b25 v20 b27 v23) => ?_))
 refine PR_nil ?_
 refine W_seq ?_
 refine Wr ?_
 refine RL_p (xm (ii 0)) ?_
 refine W_block ?_
 refine W_unroll 40 ?_
 refine WU_succ ?_
 refine Wr ?_
 refine RL_p (xL) ?_
 refine W_seq ?_
 refine Wt ?_
 refine W_skip ?_
 refine W_seq ?_
 refine W_block ?_
 refine Wr ?_
 refine RL_p (xm (ii 0)) ?_
 refine RL_p (xa (ii 0)) ?_
 refine W_seq ?_
 refine W_draw [.free 0, .free 1, .take 2, .free 3, .free 4, .take 5, .free 6, .free 7, .free 8, .free 9, .take 10, .free 11, .free 12, .free 13, .free 14, .take 15, .free 16, .free 17, .take 18, .free 19, .run 20, .free 21, .free 22, .free 23, .free 24, .free 25] (fun wS => S71_9 ok w wS b1 a1 b3 a2 b5 b25 v20 b27 v23) [] [0, 1, 3, 4, 6, 7, 8, 9, 11, 12, 13, 14, 16, 17, 19, 21, 22, 23, 24, 25] mixed0 (by kernel_rfl) (by kernel_rfl) (by kernel_rfl) (by rfl) (by exact H.drew) ?_
 obtain ⟨w105, hW⟩ : ∃ W : World, W = { w104 with drawn := w104.drawn + 1 } := ⟨_, rfl⟩
 rw [← hW]
 have H : S71_9 ok w w105 b1 a1 b3 a2 b5 b25 v20 b27 v23 := by rw [hW]; exact H.drew
 clear hW
 refine PF (a := xm (ii 0)) (b := ?_)
 refine PF (a := xI ar163 sz3) (b := ?_)
 refine PT' (a := fun H => xl 0 (ii v23.a0) sc3 (H.c 4)) (b := ?_)
 refine PF (a := xm (ii 0)) (b := ?_)
 refine PF (a := xI ar163 sz3) (b := ?_)
 refine PT' (a := fun H => xl 0 (ii v20.a0) sc3 (H.c 3)) (b := ?_)
 obtain ⟨x106, ex106, qx106, ux106, hm⟩ := ck_some hm
 refine PF (a := xM ux106) (b := ?_)
 refine PF (a := xm (ii a0)) (b := ?_)
 refine PF (a := xf fo124_0) (b := ?_)
 refine PF (a := xf fo27_2) (b := ?_)
 refine PT' (a := fun H => xl 2 (ii a1.P.Z) sc3 (H.c 0)) (b := ?_)
 obtain ⟨x107, ex107, qx107, ux107, hm⟩ := ck_some hm
 refine PF (a := xM ux107) (b := ?_)
 obtain ⟨x108, ex108, qx108, ux108, hm⟩ := ck_some hm
 refine PF (a := xX ux108) (b := ?_)
 refine PF (a := xf fo124_0) (b := ?_)
 refine PF (a := xf fo27_2) (b := ?_)
 refine PT' (a := fun H => xl 2 (ii a2.P.Z) sc3 (H.c 1)) (b := ?_)
 refine PF (a := xf fo124_0) (b := ?_)
 refine PF (a := xf fo27_2) (b := ?_)
 refine PT' (a := fun H => xl 2 (ii a1.P.Z) sc3 (H.c 0)) (b := ?_)
 obtain ⟨x109, ex109, qx109, ux109, hm⟩ := ck_some hm
 refine PF (a := xM ux109) (b := ?_)
 obtain ⟨v111, hv110, hm⟩ := bind_some hm
 refine PU (a := OC (xc [ii x108, ii x109] (cf29 _ _)) (c29 okT K w105 x108 x109  v111 hv110) ?_)
 rintro e w112 ⟨rfl, H2⟩
 have H : S71_9 ok w w112 b1 a1 b3 a2 b5 b25 v20 b27 v23 := H.below H2.base
 clear H2
 refine ⟨_, rfl, H, ?_⟩
 show PR _ _ _ _ _ _ _ _
 refine PF (a := xm (tup [ii v111.1, ii v111.2])) (b := ?_)
 refine PF (a := xe (ii v111.1)) (b := ?_)
 refine PF (a := xe (ii v111.2)) (b := ?_)
 refine PF (a := xa (ii v111.1)) (b := ?_)
 refine PF (a := xa (ii v111.2)) (b := ?_)
 refine PR_nil ?_
 refine W_region ?_
 refine RL_p (xm (ii 0)) ?_
 refine RL_p (xI ar163 sz3) ?_
 refine RL_p (xl 0 (ii v20.a0) sc3 (H.c 3)) ?_
 refine RL_p (xm (ii v111.1)) ?_
 obtain ⟨x113, ex113, qx113, ux113, hm⟩ := ck_some hm
 refine RL_p (xP ux113) ?_
 refine RL_p (xI ar163 sz3) ?_
 refine RL_cons (OS 3 0 [ii x113] sz3 H (fun w114 (H : S71_10 ok w w114 b1 a1 b3 a2 b5 b25 x113 v20 b27 v23) => ?_))
 refine W_region ?_
 refine RL_p (xp 1) ?_
 refine RL_p (xm (ii 1)) ?_
 refine WU_succ ?_
 refine Wr ?_
 refine RL_p (xL) ?_
 refine W_seq ?_
 refine Wt ?_
 refine W_skip ?_
 refine W_seq ?_
 refine W_block ?_
 refine Wr ?_
 refine RL_p (xm (ii 1)) ?_
 refine RL_p (xa (ii 1)) ?_
 refine W_seq ?_
 refine W_draw [.free 0, .free 1, .take 2, .free 3, .free 4, .take 5, .free 6, .free 7, .free 8, .free 9, .take 10, .free 11, .free 12, .free 13, .free 14, .take 15, .free 16, .free 17, .take 18, .free 19, .run 20, .free 21, .free 22, .free 23, .free 24, .free 25] (fun wS => S71_10 ok w wS b1 a1 b3 a2 b5 b25 x113 v20 b27 v23) [] [0, 1, 3, 4, 6, 7, 8, 9, 11, 12, 13, 14, 16, 17, 19, 21, 22, 23, 24, 25] mixed0 (by kernel_rfl) (by kernel_rfl) (by kernel_rfl) (by rfl) (by exact H.drew) ?_
 obtain ⟨w115, hW⟩ : ∃ W : World, W = { w114 with drawn := w114.drawn + 1 } := ⟨_, rfl⟩
 rw [← hW]
 have H : S71_10 ok w w115 b1 a1 b3 a2 b5 b25 x113 v20 b27 v23 := by rw [hW]; exact H.drew
 clear hW
 refine PF (a := xm (ii 1)) (b := ?_)
 refine PF (a := xI ar163 sz3) (b := ?_)
 refine PT' (a := fun H => xl 1 (ii v23.a1) sc3 (H.c 4)) (b := ?_)
 refine PF (a := xm (ii 1)) (b := ?_)
 refine PF (a := xI ar163 sz3) (b := ?_)
 refine PT' (a := fun H => xl 1 (ii v20.a1) sc3 (H.c 3)) (b := ?_)
 obtain ⟨x116, ex116, qx116, ux116, hm⟩ := ck_some hm
 refine PF (a := xM ux116) (b := ?_)
 refine PF (a := xm (ii a0)) (b := ?_)
 refine PF (a := xf fo124_0) (b := ?_)
 refine PF (a := xf fo27_2) (b := ?_)
 refine PT' (a := fun H => xl 2 (ii a1.P.Z) sc3 (H.c 0)) (b := ?_)
 obtain ⟨x117, ex117, qx117, ux117, hm⟩ := ck_some hm
 refine PF (a := xM ux117) (b := ?_)
 obtain ⟨x118, ex118, qx118, ux118, hm⟩ := ck_some hm
 refine PF (a := xX ux118) (b := ?_)
 refine PF (a := xf fo124_0) (b := ?_)
 refine PF (a := xf fo27_2) (b := ?_)
 refine PT' (a := fun H => xl 2 (ii a2.P.Z) sc3 (H.c 1)) (b := ?_)
 refine PF (a := xf fo124_0) (b := ?_)
 refine PF (a := xf fo27_2) (b := ?_)
 refine PT' (a := fun H => xl 2 (ii a1.P.Z) sc3 (H.c 0)) (b := ?_)
 obtain ⟨x119, ex119, qx119, ux119, hm⟩ := ck_some hm
 refine PF (a := xM ux119) (b := ?_)
 obtain ⟨v121, hv120, hm⟩ := bind_some hm
 refine PU (a := OC (xc [ii x118, ii x119] (cf29 _ _)) (c29 okT K w115 x118 x119  v121 hv120) ?_)
 rintro e w122 ⟨rfl, H2⟩
 have H : S71_10 ok w w122 b1 a1 b3 a2 b5 b25 x113 v20 b27 v23 := H.below H2.base
 clear H2
 refine ⟨_, rfl, H, ?_⟩
 show PR _ _ _ _ _ _ _ _
 refine PF (a := xm (tup [ii v121.1, ii v121.2])) (b := ?_)
 refine PF (a := xe (ii v121.1)) (b := ?_)
 refine PF (a := xe (ii v121.2)) (b := ?_)
 refine PF (a := xa (ii v121.1)) (b := ?_)
 refine PF (a := xa (ii v121.2)) (b := ?_)
 refine PR_nil ?_
 refine W_region ?_
 refine RL_p (xm (ii 1)) ?_
 refine RL_p (xI ar163 sz3) ?_
 refine RL_p (xl 1 (ii v20.a1) sc3 (H.c 3)) ?_
 refine RL_p (xm (ii v121.1)) ?_
 obtain ⟨x123, ex123, qx123, ux123, hm⟩ := ck_some hm
 refine RL_p (xP ux123) ?_
 refine RL_p (xI ar163 sz3) ?_
 refine RL_cons (OS 3 1 [ii x123] sz3 H (fun w124 (H : S71_11 ok w w124 b1 a1 b3 a2 b5 b25 x113 x123 v20 b27 v23) => ?_))
 refine W_region ?_
 refine RL_p (xp 2) ?_
 refine RL_p (xm (ii 2)) ?_
 refine WU_succ ?_
 refine Wr ?_
 refine RL_p (xL) ?_
 refine W_seq ?_
 refine Wt ?_
 refine W_skip ?_
 refine W_seq ?_
 refine W_block ?_
 refine Wr ?_
 refine RL_p (xm (ii 2)) ?_
 refine RL_p (xa (ii 2)) ?_
 refine W_seq ?_
 refine W_draw [.free 0, .free 1, .take 2, .free 3, .free 4, .take 5, .free 6, .free 7, .free 8, .free 9, .take 10, .free 11, .free 12, .free 13, .free 14, .take 15, .free 16, .free 17, .take 18, .free 19, .run 20, .free 21, .free 22, .free 23, .free 24, .free 25] (fun wS => S71_11 ok w wS b1 a1 b3 a2 b5 b25 x113 x123 v20 b27 v23) [] [0, 1, 3, 4, 6, 7, 8, 9, 11, 12, 13, 14, 16, 17, 19, 21, 22, 23, 24, 25] mixed0 (by kernel_rfl) (by kernel_rfl) (by kernel_rfl) (by rfl) (by exact H.drew) ?_
 obtain ⟨w125, hW⟩ : ∃ W : World, W = { w124 with drawn := w124.drawn + 1 } := ⟨_, rfl⟩
 rw [← hW]
 have H : S71_11 ok w w125 b1 a1 b3 a2 b5 b25 x113 x123 v20 b27 v23 := by rw [hW]; exact H.drew
 clear hW
 refine PF (a := xm (ii 2)) (b := ?_)
 refine PF (a := xI ar163 sz3) (b := ?_)
 refine PT' (a := fun H => xl 2 (ii v23.a2) sc3 (H.c 4)) (b := ?_)
 refine PF (a := xm (ii 2)) (b := ?_)
 refine PF (a := xI ar163 sz3) (b := ?_)
 refine PT' (a := fun H => xl 2 (ii v20.a2) sc3 (H.c 3)) (b := ?_)
 obtain ⟨x126, ex126, qx126, ux126, hm⟩ := ck_some hm
 refine PF (a := xM ux126) (b := ?_)
 refine PF (a := xm (ii a0)) (b := ?_)
 refine PF (a := xf fo124_0) (b := ?_)
 refine PF (a := xf fo27_2) (b := ?_)
 refine PT' (a := fun H => xl 2 (ii a1.P.Z) sc3 (H.c 0)) (b := ?_)
 obtain ⟨x127, ex127, qx127, ux127, hm⟩ := ck_some hm
 refine PF (a := xM ux127) (b := ?_)
 obtain ⟨x128, ex128, qx128, ux128, hm⟩ := ck_some hm
 refine PF (a := xX ux128) (b := ?_)
 refine PF (a := xf fo124_0) (b := ?_)
 refine PF (a := xf fo27_2) (b := ?_)
 refine PT' (a := fun H => xl 2 (ii a2.P.Z) sc3 (H.c 1)) (b := ?_)
 refine PF (a := xf fo124_0) (b := ?_)
 refine PF (a := xf fo27_2) (b := ?_)
 refine PT' (a := fun H => xl 2 (ii a1.P.Z) sc3 (H.c 0)) (b := ?_)
 obtain ⟨x129, ex129, qx129, ux129, hm⟩ := ck_some hm
 refine PF (a := xM ux129) (b := ?_)
 obtain ⟨v131, hv130, hm⟩ := bind_some hm
 refine PU (a := OC (xc [ii x128, ii x129] (cf29 _ _)) (c29 okT K w125 x128 x129  v131 hv130) ?_)
 rintro e w132 ⟨rfl, H2⟩
 have H : S71_11 ok w w132 b1 a1 b3 a2 b5 b25 x113 x123 v20 b27 v23 := H.below H2.base
 clear H2
 refine ⟨_, rfl, H, ?_⟩
 show PR _ _ _ _ _ _ _ _
 refine PF (a := xm (tup [ii v131.1, ii v131.2])) (b := ?_)
 refine PF (a := xe (ii v131.1)) (b := ?_)
 refine PF (a := xe (ii v131.2)) (b := ?_)
 refine PF (a := xa (ii v131.1)) (b := ?_)
 refine PF (a := xa (ii v131.2)) (b := ?_)
 refine PR_nil ?_
 refine W_region ?_
 refine RL_p (xm (ii 2)) ?_
 refine RL_p (xI ar163 sz3) ?_
 refine RL_p (xl 2 (ii v20.a2) sc3 (H.c 3)) ?_
 refine RL_p (xm (ii v131.1)) ?_
 obtain ⟨x133, ex133, qx133, ux133, hm⟩ := ck_some hm
 refine RL_p (xP ux133) ?_
 refine RL_p (xI ar163 sz3) ?_
 refine RL_cons (OS 3 2 [ii x133] sz3 H (fun w134 (H : S71_12 ok w w134 b1 a1 b3 a2 b5 b25 x113 x123 x133 v20 b27 v23) => ?_))
 refine W_region ?_
 refine RL_p (xp 3) ?_
 refine RL_p (xm (ii 3)) ?_
 refine WU_succ ?_
 refine Wr ?_
 refine RL_p (xL) ?_
 refine W_seq ?_
 refine Wt ?_
 refine W_skip ?_
 refine W_seq ?_
 refine W_block ?_
 refine Wr ?_
 refine RL_p (xm (ii 3)) ?_
 refine RL_p (xa (ii 3)) ?_
 refine W_seq ?_
 refine W_draw [.free 0, .free 1, .take 2, .free 3, .free 4, .take 5, .free 6, .free 7, .free 8, .free 9, .take 10, .free 11, .free 12, .free 13, .free 14, .take 15, .free 16, .free 17, .take 18, .free 19, .run 20, .free 21, .free 22, .free 23, .free 24, .free 25] (fun wS => S71_12 ok w wS b1 a1 b3 a2 b5 b25 x113 x123 x133 v20 b27 v23) [] [0, 1, 3, 4, 6, 7, 8, 9, 11, 12, 13, 14, 16, 17, 19, 21, 22, 23, 24, 25] mixed0 (by kernel_rfl) (by kernel_rfl) (by kernel_rfl) (by rfl) (by exact H.drew) ?_
 obtain ⟨w135, hW⟩ : ∃ W : World, W = { w134 with drawn := w134.drawn + 1 } := ⟨_, rfl⟩
 rw [← hW]
 have H : S71_12 ok w w135 b1 a1 b3 a2 b5 b25 x113 x123 x133 v20 b27 v23 := by rw [hW]; exact H.drew
 clear hW
 refine PF (a := xm (ii 3)) (b := ?_)
 refine PF (a := xI ar163 sz3) (b := ?_)
 refine PT' (a := fun H => xl 3 (ii v23.a3) sc3 (H.c 4)) (b := ?_)
 refine PF (a := xm (ii 3)) (b := ?_)
 refine PF (a := xI ar163 sz3) (b := ?_)
 refine PT' (a := fun H => xl 3 (ii v20.a3) sc3 (H.c 3)) (b := ?_)
 obtain ⟨x136, ex136, qx136, ux136, hm⟩ := ck_some hm
 refine PF (a := xM ux136) (b := ?_)
 refine PF (a := xm (ii a0)) (b := ?_)
 refine PF (a := xf fo124_0) (b := ?_)
 refine PF (a := xf fo27_2) (b := ?_)
 refine PT' (a := fun H => xl 2 (ii a1.P.Z) sc3 (H.c 0)) (b := ?_)
 obtain ⟨x137, ex137, qx137, ux137, hm⟩ := ck_some hm
 refine PF (a := xM ux137) (b := ?_)
 obtain ⟨x138, ex138, qx138, ux138, hm⟩ := ck_some hm
 refine PF (a := xX ux138) (b := ?_)
 refine PF (a := xf fo124_0) (b := ?_)
 refine PF (a := xf fo27_2) (b := ?_)
 refine PT' (a := fun H => xl 2 (ii a2.P.Z) sc3 (H.c 1)) (b := ?_)
 refine PF (a := xf fo124_0) (b := ?_)
 refine PF (a := xf fo27_2) (b := ?_)
 refine PT' (a := fun H => xl 2 (ii a1.P.Z) sc3 (H.c 0)) (b := ?_)
 obtain ⟨x139, ex139, qx139, ux139, hm⟩ := ck_some hm
 refine PF (a := xM ux139) (b := ?_)
 obtain ⟨v141, hv140, hm⟩ := bind_some hm
 refine PU (a := OC (xc [ii x138, ii x139] (cf29 _ _)) (c29 okT K w135 x138 x139  v141 hv140) ?_)
 rintro e w142 ⟨rfl, H2⟩
 have H : S71_12 ok w w142 b1 a1 b3 a2 b5 b25 x113 x123 x133 v20 b27 v23 := H.below H2.base
 clear H2
 refine ⟨_, rfl, H, ?_⟩
 show PR _ _ _ _ _ _ _ _
 refine PF (a := xm (tup [ii v141.1, ii v141.2])) (b := ?_)
 refine PF (a := xe (ii v141.1)) (b := ?_)
 refine PF (a := xe (ii v141.2)) (b := ?_)
 refine PF (a := xa (ii v141.1)) (b := ?_)
 refine PF (a := xa (ii v141.2)) (b := ?_)
 refine PR_nil ?_
 refine W_region ?_
 refine RL_p (xm (ii 3)) ?_
 refine RL_p (xI ar163 sz3) ?_
 refine RL_p (xl 3 (ii v20.a3) sc3 (H.c 3)) ?_
 refine RL_p (xm (ii v141.1)) ?_
 obtain ⟨x143, ex143, qx143, ux143, hm⟩ := ck_some hm
 refine RL_p (xP ux143) ?_
 refine RL_p (xI ar163 sz3) ?_
 refine RL_cons (OS 3 3 [ii x143] sz3 H (fun w144 (H : Sep ok w w144 [.blk b1 124 (L71_0 a1), .blk b3 124 (L71_0 a2), .blk b5 124 L71_1, .blk b25 163 (L71_8 x113 x123 x133 x143), .blk b27 163 (L71_4 v23)] []) => ?_))
 refine W_region ?_
 refine RL_p (xp 4) ?_
 refine RL_p (xm (ii 4)) ?_
 refine WU_succ ?_
 refine Wr ?_
 refine RL_p (xL) ?_
 refine W_seq ?_
 refine Wf ?_
 refine W_exit ?_
 refine W_seq ?_
 have H : Sep ok w w144 [.blk b5 124 L71_1, .blk b25 163 (L71_8 x113 x123 x133 x143)] [] := (H.pickL [2, 3] (by decide))
 refine W_region ?_
 refine RL_p (xI ar163 sz3) ?_
 refine RL_p (xl 0 (ii x113) sc3 (H.c 1)) ?_
 refine RL_p (xI ar163 sz3) ?_
 refine RL_p (xl 1 (ii x123) sc3 (H.c 1)) ?_
 refine RL_p (xm (ii a0)) ?_
 refine RL_p (x_build (vs := [(0, ii x113), (1, ii x123), (2, ii a0)]) (cs := (L71_9 x113 x123 a0)) (by rfl) (by kernel_rfl)) ?_
 refine RL_p (xI ar163 sz3) ?_
 refine RL_p (xl 2 (ii x133) sc3 (H.c 1)) ?_
 refine RL_p (xI ar163 sz3) ?_
 refine RL_p (xl 3 (ii x143) sc3 (H.c 1)) ?_
 refine RL_p (x_build (vs := [(0, .agg (L71_9 x113 x123 a0).toArray), (1, ii x133), (2, ii x143)]) (cs := (L71_10 x113 x123 a0 x133 x143)) (by rfl) (by kernel_rfl)) ?_
 refine RL_cons (OS 0 0 (L71_10 x113 x123 a0 x133 x143) sz124 H (fun w145 (H : Sep ok w w145 [.blk b5 124 (L71_10 x113 x123 a0 x133 x143), .blk b25 163 (L71_8 x113 x123 x133 x143)] []) => ?_))
 refine RL_p (xa (ii 0)) ?_
 refine W_ret ?_
 obtain rfl := Option.some.inj hm
 exact ⟨[.agg (L71_10 x113 x123 a0 x133 x143).toArray, ii 0], (.cellA (by rfl) ag124 (H.c 0) (by rfl) (.tmp (by rfl) rfl)), rfl, H.none_⟩
end Go.Proofs.YtobkigllalbkiaaV.D
