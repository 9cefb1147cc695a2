/- A plain Lean function that answers as the Go function does (none: not told), and the proof that a call answers so. Written by program. -/
import Derived.Test.YtobkigllalbkiaaVMTy
import Derived.Test.YtobkigllalbkiaaVMF26
import Derived.Test.YtobkigllalbkiaaVMF68
set_option linter.unusedVariables false
namespace Go.Proofs.YtobkigllalbkiaaV.M
open Go.RowKit Go.Proofs.YtobkigllalbkiaaV
/-- diorama/dioramalaw25.alive -/
def m25 (K : Nat)  : Option (Bool) :=
  ((m26 K false).bind fun v2 => ((bif v2.2 then some ((v2.1.Color.length : Int) == 2) else some false).bind fun b20 => ((bif b20 then some ((v2.1.Depth.length : Int) == 2) else some false).bind fun b23 => ((bif b23 then some ((v2.1.Item.length : Int) == 2) else some false).bind fun b26 => ((bif b26 then (idx v2.1.Color 1 fun el30 => ((m68 K ).bind fun v38 => some ((el30.a0 == v38.a0) && ((el30.a1 == v38.a1) && ((el30.a2 == v38.a2) && (el30.a3 == v38.a3)))))) else some false).bind fun b29 => ((bif b29 then (idx v2.1.Depth 1 fun el43 => some (el43 == 600)) else some false).bind fun b42 => ((bif b42 then (idx v2.1.Item 1 fun el53 => some (el53 == 2)) else some false).bind fun b52 => ((bif b52 then (idx v2.1.Item 0 fun el63 => some (el63 == (-1))) else some false).bind fun b62 => some b62))))))))
set_option maxRecDepth 100000 in
set_option maxHeartbeats 4000000 in
theorem c25 (ok : Nat → Prop) (K : Nat) (w : World)  (res : Bool) (hm : m25 K  = some res) :
    Calls Try.prog 25 #[] w (fun e w' => e = .returned (tup [.bool res]) ∧ Sep ok w w' [] []) := by
  refine calls_W (args := []) Try.func25 rfl Try.ntmps25 Try.results25 rfl fun r hr => ?_
  obtain ⟨r1, rfl⟩ : ∃ R, R = r := ⟨_, rfl⟩
  have H : Sep ok w w [] [] := Sep.start ok w
  unfold m25 at hm
  refine W_seq ?_
  refine W_region ?_
  refine RL_pure (by exact wn0 rfl) (by rfl) (by rfl) (x_assign (v := .bool false) (by rfl)) ?_
  refine RL_nil ?_
  refine W_seq ?_
  refine W_region ?_
  obtain ⟨v2, hv1, hm⟩ := bind_some hm
  refine RL_cons (O_call (by exact wn0 rfl) (by rfl) (by rfl) (x_callL (by rfl) (args := [.bool false]) (by rfl) (cf26 _ _)) (c26 (okS ok w []) K w false  v2 hv1) ?_)
  rintro e w3 ⟨A4, cp5, A7, cp8, A10, cp11, A13, cp14, rfl, H2⟩
  have H : Sep ok w w3 [] [RE.rd k_Ar4_Int A4 cp5 v2.1.Color, RE.rd kInt A7 cp8 v2.1.Depth, RE.rd kInt A10 cp11 v2.1.Item, RE.rd kInt A13 cp14 v2.1.Tri] := H.call H2
  clear H2
  refine ⟨_, rfl, ?_⟩
  show RL _ _ _ _ _ _ _
  refine RL_pure (by exact wn0 rfl) (by rfl) (by rfl) (x_move (v := tup [.agg #[.int .i64 v2.1.W, .int .i64 v2.1.H, .slice A4 v2.1.Color.length cp5, .slice A7 v2.1.Depth.length cp8, .slice A10 v2.1.Item.length cp11, .slice A13 v2.1.Tri.length cp14], .bool v2.2]) (by rfl)) ?_
  refine RL_pure (by exact wn0 rfl) (by rfl) (by rfl) (x_extract (v := .agg #[.int .i64 v2.1.W, .int .i64 v2.1.H, .slice A4 v2.1.Color.length cp5, .slice A7 v2.1.Depth.length cp8, .slice A10 v2.1.Item.length cp11, .slice A13 v2.1.Tri.length cp14]) (by rfl) (by rfl)) ?_
  refine RL_pure (by exact wn0 rfl) (by rfl) (by rfl) (x_extract (v := .bool v2.2) (by rfl) (by rfl)) ?_
  refine RL_cons (O_alloc (by exact wn0 rfl) (by rfl) ze25 (by rfl) H (fun w17 b16 (H : Sep ok w w17 [.blk b16 25 [.int .i64 0, .int .i64 0, .slice none 0 0, .slice none 0 0, .slice none 0 0, .slice none 0 0]] [RE.rd k_Ar4_Int A4 cp5 v2.1.Color, RE.rd kInt A7 cp8 v2.1.Depth, RE.rd kInt A10 cp11 v2.1.Item, RE.rd kInt A13 cp14 v2.1.Tri]) => ?_))
  refine RL_cons (O_store (i := 0) (off := 0) (by exact wn0 rfl) (by rfl) (by rfl) H (by rfl) (vs := [.int .i64 v2.1.W, .int .i64 v2.1.H, .slice A4 v2.1.Color.length cp5, .slice A7 v2.1.Depth.length cp8, .slice A10 v2.1.Item.length cp11, .slice A13 v2.1.Tri.length cp14]) (by rfl) sz25 (by rfl) (by rfl) (by rfl) (fun w18 (H : Sep ok w w18 [.blk b16 25 [.int .i64 v2.1.W, .int .i64 v2.1.H, .slice A4 v2.1.Color.length cp5, .slice A7 v2.1.Depth.length cp8, .slice A10 v2.1.Item.length cp11, .slice A13 v2.1.Tri.length cp14]] [RE.rd k_Ar4_Int A4 cp5 v2.1.Color, RE.rd kInt A7 cp8 v2.1.Depth, RE.rd kInt A10 cp11 v2.1.Item, RE.rd kInt A13 cp14 v2.1.Tri]) => ?_))
  refine RL_pure (by exact wn0 rfl) (by rfl) (by rfl) (x_assign (v := .bool v2.2) (by rfl)) ?_
  refine RL_nil ?_
  refine W_seq ?_
  refine W_draw [.free 0, .free 1, .free 2, .take 3, .free 4, .free 5, .free 6, .free 7, .free 8, .take 9, .free 10, .free 11, .free 12, .free 13, .free 14, .take 15, .free 16, .free 17, .free 18, .free 19, .free 20, .take 21, .free 22, .take 23, .run 24, .free 25, .free 26, .free 27, .free 28, .take 29, .free 30, .take 31, .free 32, .free 33, .free 34, .free 35, .take 36, .free 37, .take 38, .free 39, .free 40, .free 41, .free 42, .take 43, .free 44, .take 45, .free 46, .free 47, .free 48] (fun wS => Sep ok w wS [.blk b16 25 [.int .i64 v2.1.W, .int .i64 v2.1.H, .slice A4 v2.1.Color.length cp5, .slice A7 v2.1.Depth.length cp8, .slice A10 v2.1.Item.length cp11, .slice A13 v2.1.Tri.length cp14]] [RE.rd k_Ar4_Int A4 cp5 v2.1.Color, RE.rd kInt A7 cp8 v2.1.Depth, RE.rd kInt A10 cp11 v2.1.Item, RE.rd kInt A13 cp14 v2.1.Tri]) [] [0, 1, 2, 4, 5, 6, 7, 8, 10, 11, 12, 13, 14, 16, 17, 18, 19, 20, 22, 25, 26, 27, 28, 30, 32, 33, 34, 35, 37, 39, 40, 41, 42, 44, 46, 47, 48] mixed0 (by kernel_rfl) (by kernel_rfl) (by kernel_rfl) (by rfl) (by exact H.drew) ?_
  obtain ⟨w19, hW⟩ : ∃ W : World, W = { w18 with drawn := w18.drawn + 1 } := ⟨_, rfl⟩
  rw [← hW]
  have H : Sep ok w w19 [.blk b16 25 [.int .i64 v2.1.W, .int .i64 v2.1.H, .slice A4 v2.1.Color.length cp5, .slice A7 v2.1.Depth.length cp8, .slice A10 v2.1.Item.length cp11, .slice A13 v2.1.Tri.length cp14]] [RE.rd k_Ar4_Int A4 cp5 v2.1.Color, RE.rd kInt A7 cp8 v2.1.Depth, RE.rd kInt A10 cp11 v2.1.Item, RE.rd kInt A13 cp14 v2.1.Tri] := by rw [hW]; exact H.drew
  clear hW
  refine PR_free (by rfl) (by rfl) (by rfl) (by exact wn0 rfl) (fun wS => (x_move (v := .bool v2.2) (by rfl))) ?_
  refine PR_free (by rfl) (by rfl) (by rfl) (by exact wn0 rfl) (fun wS => (x_move (v := .bool v2.2) (by rfl))) ?_
  obtain ⟨b20, hmS, hm⟩ := bind_some hm
  refine PR_cut 5 (fun r' w' => Agr [(13, .bool b20), (1, .pointer (some ⟨b16, 0, none⟩))] r' ∧ Sep ok w w' [.blk b16 25 [.int .i64 v2.1.W, .int .i64 v2.1.H, .slice A4 v2.1.Color.length cp5, .slice A7 v2.1.Depth.length cp8, .slice A10 v2.1.Item.length cp11, .slice A13 v2.1.Tri.length cp14]] [RE.rd k_Ar4_Int A4 cp5 v2.1.Color, RE.rd kInt A7 cp8 v2.1.Depth, RE.rd kInt A10 cp11 v2.1.Item, RE.rd kInt A13 cp14 v2.1.Tri]) ?_ ?_
  · cases hbS : v2.2
    · have hm := cond_f hbS hmS
      refine PR_offF (by rfl) (by rfl) (by rfl) (by exact wn2 rfl rfl rfl rfl) ?_
      refine PR_off (by rfl) (by rfl) (by rfl) (by exact wn2 rfl rfl rfl rfl) ?_
      refine PR_offF (by rfl) (by rfl) (by rfl) (by exact wn2 rfl rfl rfl rfl) ?_
      refine PR_offF (by rfl) (by rfl) (by rfl) (by exact wn2 rfl rfl rfl rfl) ?_
      refine PR_free (by rfl) (by rfl) (by rfl) (by exact wn0 rfl) (fun wS => (x_pick_f (v := .bool false) (by rfl) (by rfl))) ?_
      refine PR_nil ?_
      exact ⟨⟨congrArg Value.bool (Option.some.inj hm), rfl, trivial⟩, H⟩
    · have hm := cond_t hbS hmS
      refine PR_free (by rfl) (by rfl) (by rfl) (by exact wn1 rfl rfl rfl rfl) (fun wS => (x_fieldAddr fo25_2 (by rfl))) ?_
      refine PR_take (by rfl) (by rfl) (by rfl) (by exact wn1 rfl rfl rfl rfl) (fun wS (H : Sep ok w wS [.blk b16 25 [.int .i64 v2.1.W, .int .i64 v2.1.H, .slice A4 v2.1.Color.length cp5, .slice A7 v2.1.Depth.length cp8, .slice A10 v2.1.Item.length cp11, .slice A13 v2.1.Tri.length cp14]] [RE.rd k_Ar4_Int A4 cp5 v2.1.Color, RE.rd kInt A7 cp8 v2.1.Depth, RE.rd kInt A10 cp11 v2.1.Item, RE.rd kInt A13 cp14 v2.1.Tri]) => (x_load (j := 2) (v := .slice A4 v2.1.Color.length cp5) sc22 (by rfl) (H.cells (i := 0) (by rfl)) (by rfl))) ?_
      refine PR_free (by rfl) (by rfl) (by rfl) (by exact wn1 rfl rfl rfl rfl) (fun wS => (x_len sl22 (by rfl))) ?_
      refine PR_free (by rfl) (by rfl) (by rfl) (by exact wn1 rfl rfl rfl rfl) (fun wS => (x_eql (by rfl) (by rfl))) ?_
      refine PR_free (by rfl) (by rfl) (by rfl) (by exact wn0 rfl) (fun wS => (x_pick_t (v := .bool ((v2.1.Color.length : Int) == 2)) (by rfl) (by rfl))) ?_
      refine PR_nil ?_
      exact ⟨⟨congrArg Value.bool (Option.some.inj hm), rfl, trivial⟩, H⟩
  · rintro r' w' ⟨hA, H⟩
    obtain ⟨r21, rfl⟩ := regen _ hA; clear hA
    obtain ⟨w22, rfl⟩ : ∃ W : World, W = w' := ⟨_, rfl⟩
    show PR _ _ _ _ _ _ _ _
    refine PR_free (by rfl) (by rfl) (by rfl) (by exact wn0 rfl) (fun wS => (x_move (v := .bool b20) (by rfl))) ?_
    obtain ⟨b23, hmS, hm⟩ := bind_some hm
    refine PR_cut 5 (fun r' w' => Agr [(19, .bool b23), (1, .pointer (some ⟨b16, 0, none⟩))] r' ∧ Sep ok w w' [.blk b16 25 [.int .i64 v2.1.W, .int .i64 v2.1.H, .slice A4 v2.1.Color.length cp5, .slice A7 v2.1.Depth.length cp8, .slice A10 v2.1.Item.length cp11, .slice A13 v2.1.Tri.length cp14]] [RE.rd k_Ar4_Int A4 cp5 v2.1.Color, RE.rd kInt A7 cp8 v2.1.Depth, RE.rd kInt A10 cp11 v2.1.Item, RE.rd kInt A13 cp14 v2.1.Tri]) ?_ ?_
    · cases hbS : b20
      · have hm := cond_f hbS hmS
        refine PR_offF (by rfl) (by rfl) (by rfl) (by exact wn2 rfl rfl rfl rfl) ?_
        refine PR_off (by rfl) (by rfl) (by rfl) (by exact wn2 rfl rfl rfl rfl) ?_
        refine PR_offF (by rfl) (by rfl) (by rfl) (by exact wn2 rfl rfl rfl rfl) ?_
        refine PR_offF (by rfl) (by rfl) (by rfl) (by exact wn2 rfl rfl rfl rfl) ?_
        refine PR_free (by rfl) (by rfl) (by rfl) (by exact wn0 rfl) (fun wS => (x_pick_f (v := .bool false) (by rfl) (by rfl))) ?_
        refine PR_nil ?_
        exact ⟨⟨congrArg Value.bool (Option.some.inj hm), rfl, trivial⟩, H⟩
      · have hm := cond_t hbS hmS
        refine PR_free (by rfl) (by rfl) (by rfl) (by exact wn1 rfl rfl rfl rfl) (fun wS => (x_fieldAddr fo25_3 (by rfl))) ?_
        refine PR_take (by rfl) (by rfl) (by rfl) (by exact wn1 rfl rfl rfl rfl) (fun wS (H : Sep ok w wS [.blk b16 25 [.int .i64 v2.1.W, .int .i64 v2.1.H, .slice A4 v2.1.Color.length cp5, .slice A7 v2.1.Depth.length cp8, .slice A10 v2.1.Item.length cp11, .slice A13 v2.1.Tri.length cp14]] [RE.rd k_Ar4_Int A4 cp5 v2.1.Color, RE.rd kInt A7 cp8 v2.1.Depth, RE.rd kInt A10 cp11 v2.1.Item, RE.rd kInt A13 cp14 v2.1.Tri]) => (x_load (j := 3) (v := .slice A7 v2.1.Depth.length cp8) sc23 (by rfl) (H.cells (i := 0) (by rfl)) (by rfl))) ?_
        refine PR_free (by rfl) (by rfl) (by rfl) (by exact wn1 rfl rfl rfl rfl) (fun wS => (x_len sl23 (by rfl))) ?_
        refine PR_free (by rfl) (by rfl) (by rfl) (by exact wn1 rfl rfl rfl rfl) (fun wS => (x_eql (by rfl) (by rfl))) ?_
        refine PR_free (by rfl) (by rfl) (by rfl) (by exact wn0 rfl) (fun wS => (x_pick_t (v := .bool ((v2.1.Depth.length : Int) == 2)) (by rfl) (by rfl))) ?_
        refine PR_nil ?_
        exact ⟨⟨congrArg Value.bool (Option.some.inj hm), rfl, trivial⟩, H⟩
    · rintro r' w' ⟨hA, H⟩
      obtain ⟨r24, rfl⟩ := regen _ hA; clear hA
      obtain ⟨w25, rfl⟩ : ∃ W : World, W = w' := ⟨_, rfl⟩
      show PR _ _ _ _ _ _ _ _
      refine PR_free (by rfl) (by rfl) (by rfl) (by exact wn0 rfl) (fun wS => (x_move (v := .bool b23) (by rfl))) ?_
      obtain ⟨b26, hmS, hm⟩ := bind_some hm
      refine PR_cut 5 (fun r' w' => Agr [(25, .bool b26), (1, .pointer (some ⟨b16, 0, none⟩))] r' ∧ Sep ok w w' [.blk b16 25 [.int .i64 v2.1.W, .int .i64 v2.1.H, .slice A4 v2.1.Color.length cp5, .slice A7 v2.1.Depth.length cp8, .slice A10 v2.1.Item.length cp11, .slice A13 v2.1.Tri.length cp14]] [RE.rd k_Ar4_Int A4 cp5 v2.1.Color, RE.rd kInt A7 cp8 v2.1.Depth, RE.rd kInt A10 cp11 v2.1.Item, RE.rd kInt A13 cp14 v2.1.Tri]) ?_ ?_
      · cases hbS : b23
        · have hm := cond_f hbS hmS
          refine PR_offF (by rfl) (by rfl) (by rfl) (by exact wn2 rfl rfl rfl rfl) ?_
          refine PR_off (by rfl) (by rfl) (by rfl) (by exact wn2 rfl rfl rfl rfl) ?_
          refine PR_offF (by rfl) (by rfl) (by rfl) (by exact wn2 rfl rfl rfl rfl) ?_
          refine PR_offF (by rfl) (by rfl) (by rfl) (by exact wn2 rfl rfl rfl rfl) ?_
          refine PR_free (by rfl) (by rfl) (by rfl) (by exact wn0 rfl) (fun wS => (x_pick_f (v := .bool false) (by rfl) (by rfl))) ?_
          refine PR_nil ?_
          exact ⟨⟨congrArg Value.bool (Option.some.inj hm), rfl, trivial⟩, H⟩
        · have hm := cond_t hbS hmS
          refine PR_free (by rfl) (by rfl) (by rfl) (by exact wn1 rfl rfl rfl rfl) (fun wS => (x_fieldAddr fo25_4 (by rfl))) ?_
          refine PR_take (by rfl) (by rfl) (by rfl) (by exact wn1 rfl rfl rfl rfl) (fun wS (H : Sep ok w wS [.blk b16 25 [.int .i64 v2.1.W, .int .i64 v2.1.H, .slice A4 v2.1.Color.length cp5, .slice A7 v2.1.Depth.length cp8, .slice A10 v2.1.Item.length cp11, .slice A13 v2.1.Tri.length cp14]] [RE.rd k_Ar4_Int A4 cp5 v2.1.Color, RE.rd kInt A7 cp8 v2.1.Depth, RE.rd kInt A10 cp11 v2.1.Item, RE.rd kInt A13 cp14 v2.1.Tri]) => (x_load (j := 4) (v := .slice A10 v2.1.Item.length cp11) sc23 (by rfl) (H.cells (i := 0) (by rfl)) (by rfl))) ?_
          refine PR_free (by rfl) (by rfl) (by rfl) (by exact wn1 rfl rfl rfl rfl) (fun wS => (x_len sl23 (by rfl))) ?_
          refine PR_free (by rfl) (by rfl) (by rfl) (by exact wn1 rfl rfl rfl rfl) (fun wS => (x_eql (by rfl) (by rfl))) ?_
          refine PR_free (by rfl) (by rfl) (by rfl) (by exact wn0 rfl) (fun wS => (x_pick_t (v := .bool ((v2.1.Item.length : Int) == 2)) (by rfl) (by rfl))) ?_
          refine PR_nil ?_
          exact ⟨⟨congrArg Value.bool (Option.some.inj hm), rfl, trivial⟩, H⟩
      · rintro r' w' ⟨hA, H⟩
        obtain ⟨r27, rfl⟩ := regen _ hA; clear hA
        obtain ⟨w28, rfl⟩ : ∃ W : World, W = w' := ⟨_, rfl⟩
        show PR _ _ _ _ _ _ _ _
        refine PR_free (by rfl) (by rfl) (by rfl) (by exact wn0 rfl) (fun wS => (x_move (v := .bool b26) (by rfl))) ?_
        obtain ⟨b29, hmS, hm⟩ := bind_some hm
        refine PR_cut 7 (fun r' w' => Agr [(33, .bool b29), (1, .pointer (some ⟨b16, 0, none⟩))] r' ∧ Sep ok w w' [.blk b16 25 [.int .i64 v2.1.W, .int .i64 v2.1.H, .slice A4 v2.1.Color.length cp5, .slice A7 v2.1.Depth.length cp8, .slice A10 v2.1.Item.length cp11, .slice A13 v2.1.Tri.length cp14]] [RE.rd k_Ar4_Int A4 cp5 v2.1.Color, RE.rd kInt A7 cp8 v2.1.Depth, RE.rd kInt A10 cp11 v2.1.Item, RE.rd kInt A13 cp14 v2.1.Tri]) ?_ ?_
        · cases hbS : b26
          · have hm := cond_f hbS hmS
            refine PR_offF (by rfl) (by rfl) (by rfl) (by exact wn2 rfl rfl rfl rfl) ?_
            refine PR_off (by rfl) (by rfl) (by rfl) (by exact wn2 rfl rfl rfl rfl) ?_
            refine PR_offF (by rfl) (by rfl) (by rfl) (by exact wn2 rfl rfl rfl rfl) ?_
            refine PR_off (by rfl) (by rfl) (by rfl) (by exact wn2 rfl rfl rfl rfl) ?_
            refine PR_run (by rfl) (OpR_off (by exact wn2 rfl rfl rfl rfl) (by rfl) (by rfl) ⟨H, ?_⟩)
            refine PR_offF (by rfl) (by rfl) (by rfl) (by exact wn2 rfl rfl rfl rfl) ?_
            refine PR_free (by rfl) (by rfl) (by rfl) (by exact wn0 rfl) (fun wS => (x_pick_f (v := .bool false) (by rfl) (by rfl))) ?_
            refine PR_nil ?_
            exact ⟨⟨congrArg Value.bool (Option.some.inj hm), rfl, trivial⟩, H⟩
          · have hm := cond_t hbS hmS
            refine PR_free (by rfl) (by rfl) (by rfl) (by exact wn1 rfl rfl rfl rfl) (fun wS => (x_fieldAddr fo25_2 (by rfl))) ?_
            refine PR_take (by rfl) (by rfl) (by rfl) (by exact wn1 rfl rfl rfl rfl) (fun wS (H : Sep ok w wS [.blk b16 25 [.int .i64 v2.1.W, .int .i64 v2.1.H, .slice A4 v2.1.Color.length cp5, .slice A7 v2.1.Depth.length cp8, .slice A10 v2.1.Item.length cp11, .slice A13 v2.1.Tri.length cp14]] [RE.rd k_Ar4_Int A4 cp5 v2.1.Color, RE.rd kInt A7 cp8 v2.1.Depth, RE.rd kInt A10 cp11 v2.1.Item, RE.rd kInt A13 cp14 v2.1.Tri]) => (x_load (j := 2) (v := .slice A4 v2.1.Color.length cp5) sc22 (by rfl) (H.cells (i := 0) (by rfl)) (by rfl))) ?_
            obtain ⟨el30, h31, h32, he33, hm⟩ := idx_some hm
            obtain ⟨g35, o36, hA34⟩ := (H.rd (i := 0) (by rfl)).addr he33
            refine PR_free (by rfl) (by rfl) (by rfl) (by exact wn1 rfl rfl rfl rfl) (fun wS => (x_indexAddr sl22 sz61 (by rfl) (by rfl) hA34 h31 h32)) ?_
            refine PR_take (by rfl) (by rfl) (by rfl) (by exact wn1 rfl rfl rfl rfl) (fun wS (H : Sep ok w wS [.blk b16 25 [.int .i64 v2.1.W, .int .i64 v2.1.H, .slice A4 v2.1.Color.length cp5, .slice A7 v2.1.Depth.length cp8, .slice A10 v2.1.Item.length cp11, .slice A13 v2.1.Tri.length cp14]] [RE.rd k_Ar4_Int A4 cp5 v2.1.Color, RE.rd kInt A7 cp8 v2.1.Depth, RE.rd kInt A10 cp11 v2.1.Item, RE.rd kInt A13 cp14 v2.1.Tri]) => (x_loadA (j := 0) (vs := [.int .u8 el30.a0, .int .u8 el30.a1, .int .u8 el30.a2, .int .u8 el30.a3]) ag61 (by rfl) (Rd.flatAt (n := 4) (H.rd (i := 0) (by rfl)) hA34 he33) (by rfl) (by rfl))) ?_
            obtain ⟨v38, hv37, hm⟩ := bind_some hm
            refine PR_run (by rfl) (O_call (by exact wn1 rfl rfl rfl rfl) (by rfl) (by rfl) (x_callL (by rfl) (args := []) (by rfl) (cf68 _ _)) (c68 (fun _ => True) K w28   v38 hv37) ?_)
            rintro e w39 ⟨rfl, H2⟩
            have H : Sep ok w w39 [.blk b16 25 [.int .i64 v2.1.W, .int .i64 v2.1.H, .slice A4 v2.1.Color.length cp5, .slice A7 v2.1.Depth.length cp8, .slice A10 v2.1.Item.length cp11, .slice A13 v2.1.Tri.length cp14]] [RE.rd k_Ar4_Int A4 cp5 v2.1.Color, RE.rd kInt A7 cp8 v2.1.Depth, RE.rd kInt A10 cp11 v2.1.Item, RE.rd kInt A13 cp14 v2.1.Tri] := H.below H2.base
            clear H2
            refine ⟨_, rfl, H, ?_⟩
            show PR _ _ _ _ _ _ _ _
            refine PR_free (by rfl) (by rfl) (by rfl) (by exact wn1 rfl rfl rfl rfl) (fun wS => (x_eqlsArr ep61 eg61 (by rfl) (by rfl) (b := ((el30.a0 == v38.a0) && ((el30.a1 == v38.a1) && ((el30.a2 == v38.a2) && (el30.a3 == v38.a3))))) (by rfl))) ?_
            refine PR_free (by rfl) (by rfl) (by rfl) (by exact wn0 rfl) (fun wS => (x_pick_t (v := .bool ((el30.a0 == v38.a0) && ((el30.a1 == v38.a1) && ((el30.a2 == v38.a2) && (el30.a3 == v38.a3))))) (by rfl) (by rfl))) ?_
            refine PR_nil ?_
            exact ⟨⟨congrArg Value.bool (Option.some.inj hm), rfl, trivial⟩, H⟩
        · rintro r' w' ⟨hA, H⟩
          obtain ⟨r40, rfl⟩ := regen _ hA; clear hA
          obtain ⟨w41, rfl⟩ : ∃ W : World, W = w' := ⟨_, rfl⟩
          show PR _ _ _ _ _ _ _ _
          refine PR_free (by rfl) (by rfl) (by rfl) (by exact wn0 rfl) (fun wS => (x_move (v := .bool b29) (by rfl))) ?_
          obtain ⟨b42, hmS, hm⟩ := bind_some hm
          refine PR_cut 6 (fun r' w' => Agr [(40, .bool b42), (1, .pointer (some ⟨b16, 0, none⟩))] r' ∧ Sep ok w w' [.blk b16 25 [.int .i64 v2.1.W, .int .i64 v2.1.H, .slice A4 v2.1.Color.length cp5, .slice A7 v2.1.Depth.length cp8, .slice A10 v2.1.Item.length cp11, .slice A13 v2.1.Tri.length cp14]] [RE.rd k_Ar4_Int A4 cp5 v2.1.Color, RE.rd kInt A7 cp8 v2.1.Depth, RE.rd kInt A10 cp11 v2.1.Item, RE.rd kInt A13 cp14 v2.1.Tri]) ?_ ?_
          · cases hbS : b29
            · have hm := cond_f hbS hmS
              refine PR_offF (by rfl) (by rfl) (by rfl) (by exact wn2 rfl rfl rfl rfl) ?_
              refine PR_off (by rfl) (by rfl) (by rfl) (by exact wn2 rfl rfl rfl rfl) ?_
              refine PR_offF (by rfl) (by rfl) (by rfl) (by exact wn2 rfl rfl rfl rfl) ?_
              refine PR_off (by rfl) (by rfl) (by rfl) (by exact wn2 rfl rfl rfl rfl) ?_
              refine PR_offF (by rfl) (by rfl) (by rfl) (by exact wn2 rfl rfl rfl rfl) ?_
              refine PR_free (by rfl) (by rfl) (by rfl) (by exact wn0 rfl) (fun wS => (x_pick_f (v := .bool false) (by rfl) (by rfl))) ?_
              refine PR_nil ?_
              exact ⟨⟨congrArg Value.bool (Option.some.inj hm), rfl, trivial⟩, H⟩
            · have hm := cond_t hbS hmS
              refine PR_free (by rfl) (by rfl) (by rfl) (by exact wn1 rfl rfl rfl rfl) (fun wS => (x_fieldAddr fo25_3 (by rfl))) ?_
              refine PR_take (by rfl) (by rfl) (by rfl) (by exact wn1 rfl rfl rfl rfl) (fun wS (H : Sep ok w wS [.blk b16 25 [.int .i64 v2.1.W, .int .i64 v2.1.H, .slice A4 v2.1.Color.length cp5, .slice A7 v2.1.Depth.length cp8, .slice A10 v2.1.Item.length cp11, .slice A13 v2.1.Tri.length cp14]] [RE.rd k_Ar4_Int A4 cp5 v2.1.Color, RE.rd kInt A7 cp8 v2.1.Depth, RE.rd kInt A10 cp11 v2.1.Item, RE.rd kInt A13 cp14 v2.1.Tri]) => (x_load (j := 3) (v := .slice A7 v2.1.Depth.length cp8) sc23 (by rfl) (H.cells (i := 0) (by rfl)) (by rfl))) ?_
              obtain ⟨el43, h44, h45, he46, hm⟩ := idx_some hm
              obtain ⟨g48, o49, hA47⟩ := (H.rd (i := 1) (by rfl)).addr he46
              refine PR_free (by rfl) (by rfl) (by rfl) (by exact wn1 rfl rfl rfl rfl) (fun wS => (x_indexAddr sl23 sz3 (by rfl) (by rfl) hA47 h44 h45)) ?_
              refine PR_take (by rfl) (by rfl) (by rfl) (by exact wn1 rfl rfl rfl rfl) (fun wS (H : Sep ok w wS [.blk b16 25 [.int .i64 v2.1.W, .int .i64 v2.1.H, .slice A4 v2.1.Color.length cp5, .slice A7 v2.1.Depth.length cp8, .slice A10 v2.1.Item.length cp11, .slice A13 v2.1.Tri.length cp14]] [RE.rd k_Ar4_Int A4 cp5 v2.1.Color, RE.rd kInt A7 cp8 v2.1.Depth, RE.rd kInt A10 cp11 v2.1.Item, RE.rd kInt A13 cp14 v2.1.Tri]) => (x_load (j := 0) (v := .int .i64 el43) sc3 (by rfl) (Rd.flatAt (n := 1) (H.rd (i := 1) (by rfl)) hA47 he46) (by rfl))) ?_
              refine PR_free (by rfl) (by rfl) (by rfl) (by exact wn1 rfl rfl rfl rfl) (fun wS => (x_eql (by rfl) (by rfl))) ?_
              refine PR_free (by rfl) (by rfl) (by rfl) (by exact wn0 rfl) (fun wS => (x_pick_t (v := .bool (el43 == 600)) (by rfl) (by rfl))) ?_
              refine PR_nil ?_
              exact ⟨⟨congrArg Value.bool (Option.some.inj hm), rfl, trivial⟩, H⟩
          · rintro r' w' ⟨hA, H⟩
            obtain ⟨r50, rfl⟩ := regen _ hA; clear hA
            obtain ⟨w51, rfl⟩ : ∃ W : World, W = w' := ⟨_, rfl⟩
            show PR _ _ _ _ _ _ _ _
            refine PR_free (by rfl) (by rfl) (by rfl) (by exact wn0 rfl) (fun wS => (x_move (v := .bool b42) (by rfl))) ?_
            obtain ⟨b52, hmS, hm⟩ := bind_some hm
            refine PR_cut 6 (fun r' w' => Agr [(47, .bool b52), (1, .pointer (some ⟨b16, 0, none⟩))] r' ∧ Sep ok w w' [.blk b16 25 [.int .i64 v2.1.W, .int .i64 v2.1.H, .slice A4 v2.1.Color.length cp5, .slice A7 v2.1.Depth.length cp8, .slice A10 v2.1.Item.length cp11, .slice A13 v2.1.Tri.length cp14]] [RE.rd k_Ar4_Int A4 cp5 v2.1.Color, RE.rd kInt A7 cp8 v2.1.Depth, RE.rd kInt A10 cp11 v2.1.Item, RE.rd kInt A13 cp14 v2.1.Tri]) ?_ ?_
            · cases hbS : b42
              · have hm := cond_f hbS hmS
                refine PR_offF (by rfl) (by rfl) (by rfl) (by exact wn2 rfl rfl rfl rfl) ?_
                refine PR_off (by rfl) (by rfl) (by rfl) (by exact wn2 rfl rfl rfl rfl) ?_
                refine PR_offF (by rfl) (by rfl) (by rfl) (by exact wn2 rfl rfl rfl rfl) ?_
                refine PR_off (by rfl) (by rfl) (by rfl) (by exact wn2 rfl rfl rfl rfl) ?_
                refine PR_offF (by rfl) (by rfl) (by rfl) (by exact wn2 rfl rfl rfl rfl) ?_
                refine PR_free (by rfl) (by rfl) (by rfl) (by exact wn0 rfl) (fun wS => (x_pick_f (v := .bool false) (by rfl) (by rfl))) ?_
                refine PR_nil ?_
                exact ⟨⟨congrArg Value.bool (Option.some.inj hm), rfl, trivial⟩, H⟩
              · have hm := cond_t hbS hmS
                refine PR_free (by rfl) (by rfl) (by rfl) (by exact wn1 rfl rfl rfl rfl) (fun wS => (x_fieldAddr fo25_4 (by rfl))) ?_
                refine PR_take (by rfl) (by rfl) (by rfl) (by exact wn1 rfl rfl rfl rfl) (fun wS (H : Sep ok w wS [.blk b16 25 [.int .i64 v2.1.W, .int .i64 v2.1.H, .slice A4 v2.1.Color.length cp5, .slice A7 v2.1.Depth.length cp8, .slice A10 v2.1.Item.length cp11, .slice A13 v2.1.Tri.length cp14]] [RE.rd k_Ar4_Int A4 cp5 v2.1.Color, RE.rd kInt A7 cp8 v2.1.Depth, RE.rd kInt A10 cp11 v2.1.Item, RE.rd kInt A13 cp14 v2.1.Tri]) => (x_load (j := 4) (v := .slice A10 v2.1.Item.length cp11) sc23 (by rfl) (H.cells (i := 0) (by rfl)) (by rfl))) ?_
                obtain ⟨el53, h54, h55, he56, hm⟩ := idx_some hm
                obtain ⟨g58, o59, hA57⟩ := (H.rd (i := 2) (by rfl)).addr he56
                refine PR_free (by rfl) (by rfl) (by rfl) (by exact wn1 rfl rfl rfl rfl) (fun wS => (x_indexAddr sl23 sz3 (by rfl) (by rfl) hA57 h54 h55)) ?_
                refine PR_take (by rfl) (by rfl) (by rfl) (by exact wn1 rfl rfl rfl rfl) (fun wS (H : Sep ok w wS [.blk b16 25 [.int .i64 v2.1.W, .int .i64 v2.1.H, .slice A4 v2.1.Color.length cp5, .slice A7 v2.1.Depth.length cp8, .slice A10 v2.1.Item.length cp11, .slice A13 v2.1.Tri.length cp14]] [RE.rd k_Ar4_Int A4 cp5 v2.1.Color, RE.rd kInt A7 cp8 v2.1.Depth, RE.rd kInt A10 cp11 v2.1.Item, RE.rd kInt A13 cp14 v2.1.Tri]) => (x_load (j := 0) (v := .int .i64 el53) sc3 (by rfl) (Rd.flatAt (n := 1) (H.rd (i := 2) (by rfl)) hA57 he56) (by rfl))) ?_
                refine PR_free (by rfl) (by rfl) (by rfl) (by exact wn1 rfl rfl rfl rfl) (fun wS => (x_eql (by rfl) (by rfl))) ?_
                refine PR_free (by rfl) (by rfl) (by rfl) (by exact wn0 rfl) (fun wS => (x_pick_t (v := .bool (el53 == 2)) (by rfl) (by rfl))) ?_
                refine PR_nil ?_
                exact ⟨⟨congrArg Value.bool (Option.some.inj hm), rfl, trivial⟩, H⟩
            · rintro r' w' ⟨hA, H⟩
              obtain ⟨r60, rfl⟩ := regen _ hA; clear hA
              obtain ⟨w61, rfl⟩ : ∃ W : World, W = w' := ⟨_, rfl⟩
              show PR _ _ _ _ _ _ _ _
              refine PR_free (by rfl) (by rfl) (by rfl) (by exact wn0 rfl) (fun wS => (x_move (v := .bool b52) (by rfl))) ?_
              obtain ⟨b62, hmS, hm⟩ := bind_some hm
              refine PR_cut 6 (fun r' w' => Agr [(54, .bool b62)] r' ∧ Sep ok w w' [.blk b16 25 [.int .i64 v2.1.W, .int .i64 v2.1.H, .slice A4 v2.1.Color.length cp5, .slice A7 v2.1.Depth.length cp8, .slice A10 v2.1.Item.length cp11, .slice A13 v2.1.Tri.length cp14]] [RE.rd k_Ar4_Int A4 cp5 v2.1.Color, RE.rd kInt A7 cp8 v2.1.Depth, RE.rd kInt A10 cp11 v2.1.Item, RE.rd kInt A13 cp14 v2.1.Tri]) ?_ ?_
              · cases hbS : b52
                · have hm := cond_f hbS hmS
                  refine PR_offF (by rfl) (by rfl) (by rfl) (by exact wn2 rfl rfl rfl rfl) ?_
                  refine PR_off (by rfl) (by rfl) (by rfl) (by exact wn2 rfl rfl rfl rfl) ?_
                  refine PR_offF (by rfl) (by rfl) (by rfl) (by exact wn2 rfl rfl rfl rfl) ?_
                  refine PR_off (by rfl) (by rfl) (by rfl) (by exact wn2 rfl rfl rfl rfl) ?_
                  refine PR_offF (by rfl) (by rfl) (by rfl) (by exact wn2 rfl rfl rfl rfl) ?_
                  refine PR_free (by rfl) (by rfl) (by rfl) (by exact wn0 rfl) (fun wS => (x_pick_f (v := .bool false) (by rfl) (by rfl))) ?_
                  refine PR_nil ?_
                  exact ⟨⟨congrArg Value.bool (Option.some.inj hm), trivial⟩, H⟩
                · have hm := cond_t hbS hmS
                  refine PR_free (by rfl) (by rfl) (by rfl) (by exact wn1 rfl rfl rfl rfl) (fun wS => (x_fieldAddr fo25_4 (by rfl))) ?_
                  refine PR_take (by rfl) (by rfl) (by rfl) (by exact wn1 rfl rfl rfl rfl) (fun wS (H : Sep ok w wS [.blk b16 25 [.int .i64 v2.1.W, .int .i64 v2.1.H, .slice A4 v2.1.Color.length cp5, .slice A7 v2.1.Depth.length cp8, .slice A10 v2.1.Item.length cp11, .slice A13 v2.1.Tri.length cp14]] [RE.rd k_Ar4_Int A4 cp5 v2.1.Color, RE.rd kInt A7 cp8 v2.1.Depth, RE.rd kInt A10 cp11 v2.1.Item, RE.rd kInt A13 cp14 v2.1.Tri]) => (x_load (j := 4) (v := .slice A10 v2.1.Item.length cp11) sc23 (by rfl) (H.cells (i := 0) (by rfl)) (by rfl))) ?_
                  obtain ⟨el63, h64, h65, he66, hm⟩ := idx_some hm
                  obtain ⟨g68, o69, hA67⟩ := (H.rd (i := 2) (by rfl)).addr he66
                  refine PR_free (by rfl) (by rfl) (by rfl) (by exact wn1 rfl rfl rfl rfl) (fun wS => (x_indexAddr sl23 sz3 (by rfl) (by rfl) hA67 h64 h65)) ?_
                  refine PR_take (by rfl) (by rfl) (by rfl) (by exact wn1 rfl rfl rfl rfl) (fun wS (H : Sep ok w wS [.blk b16 25 [.int .i64 v2.1.W, .int .i64 v2.1.H, .slice A4 v2.1.Color.length cp5, .slice A7 v2.1.Depth.length cp8, .slice A10 v2.1.Item.length cp11, .slice A13 v2.1.Tri.length cp14]] [RE.rd k_Ar4_Int A4 cp5 v2.1.Color, RE.rd kInt A7 cp8 v2.1.Depth, RE.rd kInt A10 cp11 v2.1.Item, RE.rd kInt A13 cp14 v2.1.Tri]) => (x_load (j := 0) (v := .int .i64 el63) sc3 (by rfl) (Rd.flatAt (n := 1) (H.rd (i := 2) (by rfl)) hA67 he66) (by rfl))) ?_
                  refine PR_free (by rfl) (by rfl) (by rfl) (by exact wn1 rfl rfl rfl rfl) (fun wS => (x_eql (by rfl) (by rfl))) ?_
                  refine PR_free (by rfl) (by rfl) (by rfl) (by exact wn0 rfl) (fun wS => (x_pick_t (v := .bool (el63 == (-1))) (by rfl) (by rfl))) ?_
                  refine PR_nil ?_
                  exact ⟨⟨congrArg Value.bool (Option.some.inj hm), trivial⟩, H⟩
              · rintro r' w' ⟨hA, H⟩
                obtain ⟨r70, rfl⟩ := regen _ hA; clear hA
                obtain ⟨w71, rfl⟩ : ∃ W : World, W = w' := ⟨_, rfl⟩
                show PR _ _ _ _ _ _ _ _
                refine PR_free (by rfl) (by rfl) (by rfl) (by exact wn0 rfl) (fun wS => (x_assign (v := .bool b62) (by rfl))) ?_
                refine PR_nil ?_
                refine W_ret ?_
                obtain rfl := Option.some.inj hm
                exact ⟨[.bool b62], (.tmp (by rfl) rfl), rfl, H.none_⟩
end Go.Proofs.YtobkigllalbkiaaV.M
