/- A plain Lean function that answers as the Go function does (none: not told), and the proof that a call answers so. Written by program. -/
import Derived.Test.YtobkigllalbkiaaVMTy
import Derived.Test.YtobkigllalbkiaaVMF15
import Derived.Test.YtobkigllalbkiaaVMF17
import Derived.Test.YtobkigllalbkiaaVMF35
import Derived.Test.YtobkigllalbkiaaVMF36
set_option linter.unusedVariables false
namespace Go.Proofs.YtobkigllalbkiaaV.M
open Go.RowKit Go.Proofs.YtobkigllalbkiaaV
/-- diorama/dioramalaw27.alive -/
def m34 (K : Nat)  : Option (Bool) :=
  ((m35 K ).bind fun v2 => ((m15 K v2.1).bind fun v20 => ((m36 K 1).bind fun v30 => ((m17 K v20.1 v30).bind fun v33 => ((m36 K 2).bind fun v37 => ((m17 K v20.1 v37).bind fun v40 => ((bif v2.2 then some (v20.2 == 0) else some false).bind fun b42 => ((bif b42 then some ((v20.1.Levels.length : Int) == 3) else some false).bind fun b45 => ((bif b45 then some (v33.2 == 0) else some false).bind fun b48 => ((bif b48 then some (v33.1 == 600) else some false).bind fun b51 => ((bif b51 then some (v40.2 == 0) else some false).bind fun b54 => ((bif b54 then some (v40.1 == (-2048)) else some false).bind fun b57 => some b57))))))))))))
set_option maxRecDepth 100000 in
set_option maxHeartbeats 4000000 in
theorem c34 (ok : Nat → Prop) (K : Nat) (w : World)  (res : Bool) (hm : m34 K  = some res) :
    Calls Try.prog 34 #[] w (fun e w' => e = .returned (tup [.bool res]) ∧ Sep ok w w' [] []) := by
  refine calls_W (args := []) Try.func34 rfl Try.ntmps34 Try.results34 rfl fun r hr => ?_
  obtain ⟨r1, rfl⟩ : ∃ R, R = r := ⟨_, rfl⟩
  have H : Sep ok w w [] [] := Sep.start ok w
  unfold m34 at hm
  refine W_seq ?_
  refine W_region ?_
  refine RL_pure (by exact wn0 rfl) (by rfl) (by rfl) (x_assign (v := .bool false) (by rfl)) ?_
  refine RL_nil ?_
  refine W_seq ?_
  refine W_region ?_
  obtain ⟨v2, hv1, hm⟩ := bind_some hm
  refine RL_cons (O_call (by exact wn0 rfl) (by rfl) (by rfl) (x_callL (by rfl) (args := []) (by rfl) (cf35 _ _)) (c35 (okS ok w []) K w   v2 hv1) ?_)
  rintro e w3 ⟨A4, cp5, A7, cp8, A10, cp11, A13, cp14, rfl, H2⟩
  have H : Sep ok w w3 [] [RE.rd k_Ar4_Int A4 cp5 v2.1.Color, RE.rd kInt A7 cp8 v2.1.Depth, RE.rd kInt A10 cp11 v2.1.Item, RE.rd kInt A13 cp14 v2.1.Tri] := H.call H2
  clear H2
  refine ⟨_, rfl, ?_⟩
  show RL _ _ _ _ _ _ _
  refine RL_pure (by exact wn0 rfl) (by rfl) (by rfl) (x_move (v := tup [.agg #[.int .i64 v2.1.W, .int .i64 v2.1.H, .slice A4 v2.1.Color.length cp5, .slice A7 v2.1.Depth.length cp8, .slice A10 v2.1.Item.length cp11, .slice A13 v2.1.Tri.length cp14], .bool v2.2]) (by rfl)) ?_
  refine RL_pure (by exact wn0 rfl) (by rfl) (by rfl) (x_extract (v := .agg #[.int .i64 v2.1.W, .int .i64 v2.1.H, .slice A4 v2.1.Color.length cp5, .slice A7 v2.1.Depth.length cp8, .slice A10 v2.1.Item.length cp11, .slice A13 v2.1.Tri.length cp14]) (by rfl) (by rfl)) ?_
  refine RL_pure (by exact wn0 rfl) (by rfl) (by rfl) (x_extract (v := .bool v2.2) (by rfl) (by rfl)) ?_
  refine RL_cons (O_alloc (by exact wn0 rfl) (by rfl) ze25 (by rfl) H (fun w17 b16 (H : Sep ok w w17 [.blk b16 25 [.int .i64 0, .int .i64 0, .slice none 0 0, .slice none 0 0, .slice none 0 0, .slice none 0 0]] [RE.rd k_Ar4_Int A4 cp5 v2.1.Color, RE.rd kInt A7 cp8 v2.1.Depth, RE.rd kInt A10 cp11 v2.1.Item, RE.rd kInt A13 cp14 v2.1.Tri]) => ?_))
  refine RL_cons (O_store (i := 0) (off := 0) (by exact wn0 rfl) (by rfl) (by rfl) H (by rfl) (vs := [.int .i64 v2.1.W, .int .i64 v2.1.H, .slice A4 v2.1.Color.length cp5, .slice A7 v2.1.Depth.length cp8, .slice A10 v2.1.Item.length cp11, .slice A13 v2.1.Tri.length cp14]) (by rfl) sz25 (by rfl) (by rfl) (by rfl) (fun w18 (H : Sep ok w w18 [.blk b16 25 [.int .i64 v2.1.W, .int .i64 v2.1.H, .slice A4 v2.1.Color.length cp5, .slice A7 v2.1.Depth.length cp8, .slice A10 v2.1.Item.length cp11, .slice A13 v2.1.Tri.length cp14]] [RE.rd k_Ar4_Int A4 cp5 v2.1.Color, RE.rd kInt A7 cp8 v2.1.Depth, RE.rd kInt A10 cp11 v2.1.Item, RE.rd kInt A13 cp14 v2.1.Tri]) => ?_))
  refine RL_pure (by exact wn0 rfl) (by rfl) (by rfl) (x_assign (v := .bool v2.2) (by rfl)) ?_
  refine RL_nil ?_
  refine W_seq ?_
  refine W_region ?_
  refine RL_pure (by exact wn0 rfl) (by rfl) (by rfl) (x_loadA (j := 0) (vs := [.int .i64 v2.1.W, .int .i64 v2.1.H, .slice A4 v2.1.Color.length cp5, .slice A7 v2.1.Depth.length cp8, .slice A10 v2.1.Item.length cp11, .slice A13 v2.1.Tri.length cp14]) ag25 (by rfl) (H.cells (i := 0) (by rfl)) (by rfl) (by rfl)) ?_
  obtain ⟨v20, hv19, hm⟩ := bind_some hm
  refine RL_cons (O_call (by exact wn0 rfl) (by rfl) (by rfl) (x_callL (by rfl) (args := [.agg #[.int .i64 v2.1.W, .int .i64 v2.1.H, .slice A4 v2.1.Color.length cp5, .slice A7 v2.1.Depth.length cp8, .slice A10 v2.1.Item.length cp11, .slice A13 v2.1.Tri.length cp14]]) (by rfl) (cf15 _ _)) (c15 (okS ok w [.blk b16 25 [.int .i64 v2.1.W, .int .i64 v2.1.H, .slice A4 v2.1.Color.length cp5, .slice A7 v2.1.Depth.length cp8, .slice A10 v2.1.Item.length cp11, .slice A13 v2.1.Tri.length cp14]]) K w18 v2.1 A4 cp5 A7 cp8 A10 cp11 A13 cp14 (H.rd (i := 0) (by rfl)) (H.rd (i := 1) (by rfl)) (H.rd (i := 2) (by rfl)) (H.rd (i := 3) (by rfl)) v20 hv19) ?_)
  rintro e w21 ⟨A22, cp23, rfl, H2⟩
  have H : Sep ok w w21 [.blk b16 25 [.int .i64 v2.1.W, .int .i64 v2.1.H, .slice A4 v2.1.Color.length cp5, .slice A7 v2.1.Depth.length cp8, .slice A10 v2.1.Item.length cp11, .slice A13 v2.1.Tri.length cp14]] [RE.rd k_Ar4_Int A4 cp5 v2.1.Color, RE.rd kInt A7 cp8 v2.1.Depth, RE.rd kInt A10 cp11 v2.1.Item, RE.rd kInt A13 cp14 v2.1.Tri, RE.rd k_Level A22 cp23 v20.1.Levels] := H.call H2
  clear H2
  refine ⟨_, rfl, ?_⟩
  show RL _ _ _ _ _ _ _
  refine RL_pure (by exact wn0 rfl) (by rfl) (by rfl) (x_move (v := tup [.agg #[.slice A22 v20.1.Levels.length cp23], .int .i64 v20.2]) (by rfl)) ?_
  refine RL_pure (by exact wn0 rfl) (by rfl) (by rfl) (x_extract (v := .agg #[.slice A22 v20.1.Levels.length cp23]) (by rfl) (by rfl)) ?_
  refine RL_pure (by exact wn0 rfl) (by rfl) (by rfl) (x_extract (v := .int .i64 v20.2) (by rfl) (by rfl)) ?_
  refine RL_cons (O_alloc (by exact wn0 rfl) (by rfl) ze28 (by rfl) H (fun w26 b25 (H : Sep ok w w26 [.blk b16 25 [.int .i64 v2.1.W, .int .i64 v2.1.H, .slice A4 v2.1.Color.length cp5, .slice A7 v2.1.Depth.length cp8, .slice A10 v2.1.Item.length cp11, .slice A13 v2.1.Tri.length cp14], .blk b25 28 [.slice none 0 0]] [RE.rd k_Ar4_Int A4 cp5 v2.1.Color, RE.rd kInt A7 cp8 v2.1.Depth, RE.rd kInt A10 cp11 v2.1.Item, RE.rd kInt A13 cp14 v2.1.Tri, RE.rd k_Level A22 cp23 v20.1.Levels]) => ?_))
  refine RL_cons (O_store (i := 1) (off := 0) (by exact wn0 rfl) (by rfl) (by rfl) H (by rfl) (vs := [.slice A22 v20.1.Levels.length cp23]) (by rfl) sz28 (by rfl) (by rfl) (by rfl) (fun w27 (H : Sep ok w w27 [.blk b16 25 [.int .i64 v2.1.W, .int .i64 v2.1.H, .slice A4 v2.1.Color.length cp5, .slice A7 v2.1.Depth.length cp8, .slice A10 v2.1.Item.length cp11, .slice A13 v2.1.Tri.length cp14], .blk b25 28 [.slice A22 v20.1.Levels.length cp23]] [RE.rd k_Ar4_Int A4 cp5 v2.1.Color, RE.rd kInt A7 cp8 v2.1.Depth, RE.rd kInt A10 cp11 v2.1.Item, RE.rd kInt A13 cp14 v2.1.Tri, RE.rd k_Level A22 cp23 v20.1.Levels]) => ?_))
  refine RL_pure (by exact wn0 rfl) (by rfl) (by rfl) (x_assign (v := .int .i64 v20.2) (by rfl)) ?_
  refine RL_nil ?_
  refine W_seq ?_
  refine W_draw [.take 0, .run 1, .tail 2, .free 3, .free 4, .free 5, .free 6, .free 7] (fun wS => Sep ok w wS [.blk b16 25 [.int .i64 v2.1.W, .int .i64 v2.1.H, .slice A4 v2.1.Color.length cp5, .slice A7 v2.1.Depth.length cp8, .slice A10 v2.1.Item.length cp11, .slice A13 v2.1.Tri.length cp14], .blk b25 28 [.slice A22 v20.1.Levels.length cp23]] [RE.rd k_Ar4_Int A4 cp5 v2.1.Color, RE.rd kInt A7 cp8 v2.1.Depth, RE.rd kInt A10 cp11 v2.1.Item, RE.rd kInt A13 cp14 v2.1.Tri, RE.rd k_Level A22 cp23 v20.1.Levels]) [2] [3, 4, 5, 6, 7] mixed0 (by kernel_rfl) (by kernel_rfl) (by kernel_rfl) (by rfl) (by exact H.drew) ?_
  obtain ⟨w28, hW⟩ : ∃ W : World, W = { w27 with drawn := w27.drawn + 1 } := ⟨_, rfl⟩
  rw [← hW]
  have H : Sep ok w w28 [.blk b16 25 [.int .i64 v2.1.W, .int .i64 v2.1.H, .slice A4 v2.1.Color.length cp5, .slice A7 v2.1.Depth.length cp8, .slice A10 v2.1.Item.length cp11, .slice A13 v2.1.Tri.length cp14], .blk b25 28 [.slice A22 v20.1.Levels.length cp23]] [RE.rd k_Ar4_Int A4 cp5 v2.1.Color, RE.rd kInt A7 cp8 v2.1.Depth, RE.rd kInt A10 cp11 v2.1.Item, RE.rd kInt A13 cp14 v2.1.Tri, RE.rd k_Level A22 cp23 v20.1.Levels] := by rw [hW]; exact H.drew
  clear hW
  refine PR_take (by rfl) (by rfl) (by rfl) (by exact wn0 rfl) (fun wS (H : Sep ok w wS [.blk b16 25 [.int .i64 v2.1.W, .int .i64 v2.1.H, .slice A4 v2.1.Color.length cp5, .slice A7 v2.1.Depth.length cp8, .slice A10 v2.1.Item.length cp11, .slice A13 v2.1.Tri.length cp14], .blk b25 28 [.slice A22 v20.1.Levels.length cp23]] [RE.rd k_Ar4_Int A4 cp5 v2.1.Color, RE.rd kInt A7 cp8 v2.1.Depth, RE.rd kInt A10 cp11 v2.1.Item, RE.rd kInt A13 cp14 v2.1.Tri, RE.rd k_Level A22 cp23 v20.1.Levels]) => (x_loadA (j := 0) (vs := [.slice A22 v20.1.Levels.length cp23]) ag28 (by rfl) (H.cells (i := 1) (by rfl)) (by rfl) (by rfl))) ?_
  obtain ⟨v30, hv29, hm⟩ := bind_some hm
  refine PR_run (by rfl) (O_call (by exact wn0 rfl) (by rfl) (by rfl) (x_callL (by rfl) (args := [.int .i64 1]) (by rfl) (cf36 _ _)) (c36 (fun _ => True) K w28 1  v30 hv29) ?_)
  rintro e w31 ⟨rfl, H2⟩
  have H : Sep ok w w31 [.blk b16 25 [.int .i64 v2.1.W, .int .i64 v2.1.H, .slice A4 v2.1.Color.length cp5, .slice A7 v2.1.Depth.length cp8, .slice A10 v2.1.Item.length cp11, .slice A13 v2.1.Tri.length cp14], .blk b25 28 [.slice A22 v20.1.Levels.length cp23]] [RE.rd k_Ar4_Int A4 cp5 v2.1.Color, RE.rd kInt A7 cp8 v2.1.Depth, RE.rd kInt A10 cp11 v2.1.Item, RE.rd kInt A13 cp14 v2.1.Tri, RE.rd k_Level A22 cp23 v20.1.Levels] := H.below H2.base
  clear H2
  refine ⟨_, rfl, H, ?_⟩
  show PR _ _ _ _ _ _ _ _
  obtain ⟨v33, hv32, hm⟩ := bind_some hm
  refine PR_tail (by rfl) (O_call (by exact wn0 rfl) (by rfl) (by rfl) (x_callL (by rfl) (args := [.agg #[.slice A22 v20.1.Levels.length cp23], .agg #[.int .i64 v30.X0, .int .i64 v30.Y0, .int .i64 v30.X1, .int .i64 v30.Y1]]) (by rfl) (cf17 _ _)) (c17 (fun _ => True) K w31 v20.1 A22 cp23 v30 (H.rd (i := 4) (by rfl)).any v33 hv32) ?_)
  rintro e w34 ⟨rfl, H2⟩
  have H : Sep ok w w34 [.blk b16 25 [.int .i64 v2.1.W, .int .i64 v2.1.H, .slice A4 v2.1.Color.length cp5, .slice A7 v2.1.Depth.length cp8, .slice A10 v2.1.Item.length cp11, .slice A13 v2.1.Tri.length cp14], .blk b25 28 [.slice A22 v20.1.Levels.length cp23]] [RE.rd k_Ar4_Int A4 cp5 v2.1.Color, RE.rd kInt A7 cp8 v2.1.Depth, RE.rd kInt A10 cp11 v2.1.Item, RE.rd kInt A13 cp14 v2.1.Tri, RE.rd k_Level A22 cp23 v20.1.Levels] := H.below H2.base
  clear H2
  refine ⟨_, rfl, ?_⟩
  show PR _ _ _ _ _ _ _ _
  refine PR_free (by rfl) (by rfl) (by rfl) (by exact wn0 rfl) (fun wS => (x_move (v := tup [.int .i64 v33.1, .int .i64 v33.2]) (by rfl))) ?_
  refine PR_free (by rfl) (by rfl) (by rfl) (by exact wn0 rfl) (fun wS => (x_extract (v := .int .i64 v33.1) (by rfl) (by rfl))) ?_
  refine PR_free (by rfl) (by rfl) (by rfl) (by exact wn0 rfl) (fun wS => (x_extract (v := .int .i64 v33.2) (by rfl) (by rfl))) ?_
  refine PR_free (by rfl) (by rfl) (by rfl) (by exact wn0 rfl) (fun wS => (x_assign (v := .int .i64 v33.1) (by rfl))) ?_
  refine PR_free (by rfl) (by rfl) (by rfl) (by exact wn0 rfl) (fun wS => (x_assign (v := .int .i64 v33.2) (by rfl))) ?_
  refine PR_nil ?_
  refine W_seq ?_
  refine W_draw [.take 0, .run 1, .tail 2, .free 3, .free 4, .free 5, .free 6, .free 7] (fun wS => Sep ok w wS [.blk b16 25 [.int .i64 v2.1.W, .int .i64 v2.1.H, .slice A4 v2.1.Color.length cp5, .slice A7 v2.1.Depth.length cp8, .slice A10 v2.1.Item.length cp11, .slice A13 v2.1.Tri.length cp14], .blk b25 28 [.slice A22 v20.1.Levels.length cp23]] [RE.rd k_Ar4_Int A4 cp5 v2.1.Color, RE.rd kInt A7 cp8 v2.1.Depth, RE.rd kInt A10 cp11 v2.1.Item, RE.rd kInt A13 cp14 v2.1.Tri, RE.rd k_Level A22 cp23 v20.1.Levels]) [2] [3, 4, 5, 6, 7] mixed0 (by kernel_rfl) (by kernel_rfl) (by kernel_rfl) (by rfl) (by exact H.drew) ?_
  obtain ⟨w35, hW⟩ : ∃ W : World, W = { w34 with drawn := w34.drawn + 1 } := ⟨_, rfl⟩
  rw [← hW]
  have H : Sep ok w w35 [.blk b16 25 [.int .i64 v2.1.W, .int .i64 v2.1.H, .slice A4 v2.1.Color.length cp5, .slice A7 v2.1.Depth.length cp8, .slice A10 v2.1.Item.length cp11, .slice A13 v2.1.Tri.length cp14], .blk b25 28 [.slice A22 v20.1.Levels.length cp23]] [RE.rd k_Ar4_Int A4 cp5 v2.1.Color, RE.rd kInt A7 cp8 v2.1.Depth, RE.rd kInt A10 cp11 v2.1.Item, RE.rd kInt A13 cp14 v2.1.Tri, RE.rd k_Level A22 cp23 v20.1.Levels] := by rw [hW]; exact H.drew
  clear hW
  refine PR_take (by rfl) (by rfl) (by rfl) (by exact wn0 rfl) (fun wS (H : Sep ok w wS [.blk b16 25 [.int .i64 v2.1.W, .int .i64 v2.1.H, .slice A4 v2.1.Color.length cp5, .slice A7 v2.1.Depth.length cp8, .slice A10 v2.1.Item.length cp11, .slice A13 v2.1.Tri.length cp14], .blk b25 28 [.slice A22 v20.1.Levels.length cp23]] [RE.rd k_Ar4_Int A4 cp5 v2.1.Color, RE.rd kInt A7 cp8 v2.1.Depth, RE.rd kInt A10 cp11 v2.1.Item, RE.rd kInt A13 cp14 v2.1.Tri, RE.rd k_Level A22 cp23 v20.1.Levels]) => (x_loadA (j := 0) (vs := [.slice A22 v20.1.Levels.length cp23]) ag28 (by rfl) (H.cells (i := 1) (by rfl)) (by rfl) (by rfl))) ?_
  obtain ⟨v37, hv36, hm⟩ := bind_some hm
  refine PR_run (by rfl) (O_call (by exact wn0 rfl) (by rfl) (by rfl) (x_callL (by rfl) (args := [.int .i64 2]) (by rfl) (cf36 _ _)) (c36 (fun _ => True) K w35 2  v37 hv36) ?_)
  rintro e w38 ⟨rfl, H2⟩
  have H : Sep ok w w38 [.blk b16 25 [.int .i64 v2.1.W, .int .i64 v2.1.H, .slice A4 v2.1.Color.length cp5, .slice A7 v2.1.Depth.length cp8, .slice A10 v2.1.Item.length cp11, .slice A13 v2.1.Tri.length cp14], .blk b25 28 [.slice A22 v20.1.Levels.length cp23]] [RE.rd k_Ar4_Int A4 cp5 v2.1.Color, RE.rd kInt A7 cp8 v2.1.Depth, RE.rd kInt A10 cp11 v2.1.Item, RE.rd kInt A13 cp14 v2.1.Tri, RE.rd k_Level A22 cp23 v20.1.Levels] := H.below H2.base
  clear H2
  refine ⟨_, rfl, H, ?_⟩
  show PR _ _ _ _ _ _ _ _
  obtain ⟨v40, hv39, hm⟩ := bind_some hm
  refine PR_tail (by rfl) (O_call (by exact wn0 rfl) (by rfl) (by rfl) (x_callL (by rfl) (args := [.agg #[.slice A22 v20.1.Levels.length cp23], .agg #[.int .i64 v37.X0, .int .i64 v37.Y0, .int .i64 v37.X1, .int .i64 v37.Y1]]) (by rfl) (cf17 _ _)) (c17 (fun _ => True) K w38 v20.1 A22 cp23 v37 (H.rd (i := 4) (by rfl)).any v40 hv39) ?_)
  rintro e w41 ⟨rfl, H2⟩
  have H : Sep ok w w41 [.blk b16 25 [.int .i64 v2.1.W, .int .i64 v2.1.H, .slice A4 v2.1.Color.length cp5, .slice A7 v2.1.Depth.length cp8, .slice A10 v2.1.Item.length cp11, .slice A13 v2.1.Tri.length cp14], .blk b25 28 [.slice A22 v20.1.Levels.length cp23]] [RE.rd k_Ar4_Int A4 cp5 v2.1.Color, RE.rd kInt A7 cp8 v2.1.Depth, RE.rd kInt A10 cp11 v2.1.Item, RE.rd kInt A13 cp14 v2.1.Tri, RE.rd k_Level A22 cp23 v20.1.Levels] := H.below H2.base
  clear H2
  refine ⟨_, rfl, ?_⟩
  show PR _ _ _ _ _ _ _ _
  refine PR_free (by rfl) (by rfl) (by rfl) (by exact wn0 rfl) (fun wS => (x_move (v := tup [.int .i64 v40.1, .int .i64 v40.2]) (by rfl))) ?_
  refine PR_free (by rfl) (by rfl) (by rfl) (by exact wn0 rfl) (fun wS => (x_extract (v := .int .i64 v40.1) (by rfl) (by rfl))) ?_
  refine PR_free (by rfl) (by rfl) (by rfl) (by exact wn0 rfl) (fun wS => (x_extract (v := .int .i64 v40.2) (by rfl) (by rfl))) ?_
  refine PR_free (by rfl) (by rfl) (by rfl) (by exact wn0 rfl) (fun wS => (x_assign (v := .int .i64 v40.1) (by rfl))) ?_
  refine PR_free (by rfl) (by rfl) (by rfl) (by exact wn0 rfl) (fun wS => (x_assign (v := .int .i64 v40.2) (by rfl))) ?_
  refine PR_nil ?_
  refine W_seq ?_
  refine W_region ?_
  refine RL_pure (by exact wn0 rfl) (by rfl) (by rfl) (x_move (v := .bool v2.2) (by rfl)) ?_
  refine RL_pure (by exact wn0 rfl) (by rfl) (by rfl) (x_move (v := .bool v2.2) (by rfl)) ?_
  obtain ⟨b42, hmS, hm⟩ := bind_some hm
  refine RL_cut 3 (fun r' w' => Agr [(34, .bool b42), (3, .pointer (some ⟨b25, 0, none⟩)), (5, .int .i64 v33.1), (6, .int .i64 v33.2), (7, .int .i64 v40.1), (8, .int .i64 v40.2)] r' ∧ Sep ok w w' [.blk b16 25 [.int .i64 v2.1.W, .int .i64 v2.1.H, .slice A4 v2.1.Color.length cp5, .slice A7 v2.1.Depth.length cp8, .slice A10 v2.1.Item.length cp11, .slice A13 v2.1.Tri.length cp14], .blk b25 28 [.slice A22 v20.1.Levels.length cp23]] [RE.rd k_Ar4_Int A4 cp5 v2.1.Color, RE.rd kInt A7 cp8 v2.1.Depth, RE.rd kInt A10 cp11 v2.1.Item, RE.rd kInt A13 cp14 v2.1.Tri, RE.rd k_Level A22 cp23 v20.1.Levels]) ?_ ?_
  · cases hbS : v2.2
    · have hm := cond_f hbS hmS
      refine RL_cons (OpR_off (by exact wn2 rfl rfl rfl rfl) (by rfl) (by rfl) ?_)
      refine RL_cons (OpR_off (by exact wn2 rfl rfl rfl rfl) (by rfl) (by rfl) ?_)
      refine RL_pure (by exact wn0 rfl) (by rfl) (by rfl) (x_pick_f (v := .bool false) (by rfl) (by rfl)) ?_
      refine RL_nil ?_
      exact ⟨⟨congrArg Value.bool (Option.some.inj hm), rfl, rfl, rfl, rfl, rfl, trivial⟩, H⟩
    · have hm := cond_t hbS hmS
      refine RL_pure (by exact wn1 rfl rfl rfl rfl) (by rfl) (by rfl) (x_move (v := .int .i64 v20.2) (by rfl)) ?_
      refine RL_pure (by exact wn1 rfl rfl rfl rfl) (by rfl) (by rfl) (x_eql (by rfl) (by rfl)) ?_
      refine RL_pure (by exact wn0 rfl) (by rfl) (by rfl) (x_pick_t (v := .bool (v20.2 == 0)) (by rfl) (by rfl)) ?_
      refine RL_nil ?_
      exact ⟨⟨congrArg Value.bool (Option.some.inj hm), rfl, rfl, rfl, rfl, rfl, trivial⟩, H⟩
  · rintro r' w' ⟨hA, H⟩
    obtain ⟨r43, rfl⟩ := regen _ hA; clear hA
    obtain ⟨w44, rfl⟩ : ∃ W : World, W = w' := ⟨_, rfl⟩
    show RL _ _ _ _ _ _ _
    refine RL_pure (by exact wn0 rfl) (by rfl) (by rfl) (x_move (v := .bool b42) (by rfl)) ?_
    obtain ⟨b45, hmS, hm⟩ := bind_some hm
    refine RL_cut 5 (fun r' w' => Agr [(40, .bool b45), (5, .int .i64 v33.1), (6, .int .i64 v33.2), (7, .int .i64 v40.1), (8, .int .i64 v40.2)] r' ∧ Sep ok w w' [.blk b16 25 [.int .i64 v2.1.W, .int .i64 v2.1.H, .slice A4 v2.1.Color.length cp5, .slice A7 v2.1.Depth.length cp8, .slice A10 v2.1.Item.length cp11, .slice A13 v2.1.Tri.length cp14], .blk b25 28 [.slice A22 v20.1.Levels.length cp23]] [RE.rd k_Ar4_Int A4 cp5 v2.1.Color, RE.rd kInt A7 cp8 v2.1.Depth, RE.rd kInt A10 cp11 v2.1.Item, RE.rd kInt A13 cp14 v2.1.Tri, RE.rd k_Level A22 cp23 v20.1.Levels]) ?_ ?_
    · cases hbS : b42
      · have hm := cond_f hbS hmS
        refine RL_cons (OpR_off (by exact wn2 rfl rfl rfl rfl) (by rfl) (by rfl) ?_)
        refine RL_cons (OpR_off (by exact wn2 rfl rfl rfl rfl) (by rfl) (by rfl) ?_)
        refine RL_cons (OpR_off (by exact wn2 rfl rfl rfl rfl) (by rfl) (by rfl) ?_)
        refine RL_cons (OpR_off (by exact wn2 rfl rfl rfl rfl) (by rfl) (by rfl) ?_)
        refine RL_pure (by exact wn0 rfl) (by rfl) (by rfl) (x_pick_f (v := .bool false) (by rfl) (by rfl)) ?_
        refine RL_nil ?_
        exact ⟨⟨congrArg Value.bool (Option.some.inj hm), rfl, rfl, rfl, rfl, trivial⟩, H⟩
      · have hm := cond_t hbS hmS
        refine RL_pure (by exact wn1 rfl rfl rfl rfl) (by rfl) (by rfl) (x_fieldAddr fo28_0 (by rfl)) ?_
        refine RL_pure (by exact wn1 rfl rfl rfl rfl) (by rfl) (by rfl) (x_load (j := 0) (v := .slice A22 v20.1.Levels.length cp23) sc26 (by rfl) (H.cells (i := 1) (by rfl)) (by rfl)) ?_
        refine RL_pure (by exact wn1 rfl rfl rfl rfl) (by rfl) (by rfl) (x_len sl26 (by rfl)) ?_
        refine RL_pure (by exact wn1 rfl rfl rfl rfl) (by rfl) (by rfl) (x_eql (by rfl) (by rfl)) ?_
        refine RL_pure (by exact wn0 rfl) (by rfl) (by rfl) (x_pick_t (v := .bool ((v20.1.Levels.length : Int) == 3)) (by rfl) (by rfl)) ?_
        refine RL_nil ?_
        exact ⟨⟨congrArg Value.bool (Option.some.inj hm), rfl, rfl, rfl, rfl, trivial⟩, H⟩
    · rintro r' w' ⟨hA, H⟩
      obtain ⟨r46, rfl⟩ := regen _ hA; clear hA
      obtain ⟨w47, rfl⟩ : ∃ W : World, W = w' := ⟨_, rfl⟩
      show RL _ _ _ _ _ _ _
      refine RL_pure (by exact wn0 rfl) (by rfl) (by rfl) (x_move (v := .bool b45) (by rfl)) ?_
      obtain ⟨b48, hmS, hm⟩ := bind_some hm
      refine RL_cut 3 (fun r' w' => Agr [(44, .bool b48), (5, .int .i64 v33.1), (7, .int .i64 v40.1), (8, .int .i64 v40.2)] r' ∧ Sep ok w w' [.blk b16 25 [.int .i64 v2.1.W, .int .i64 v2.1.H, .slice A4 v2.1.Color.length cp5, .slice A7 v2.1.Depth.length cp8, .slice A10 v2.1.Item.length cp11, .slice A13 v2.1.Tri.length cp14], .blk b25 28 [.slice A22 v20.1.Levels.length cp23]] [RE.rd k_Ar4_Int A4 cp5 v2.1.Color, RE.rd kInt A7 cp8 v2.1.Depth, RE.rd kInt A10 cp11 v2.1.Item, RE.rd kInt A13 cp14 v2.1.Tri, RE.rd k_Level A22 cp23 v20.1.Levels]) ?_ ?_
      · cases hbS : b45
        · have hm := cond_f hbS hmS
          refine RL_cons (OpR_off (by exact wn2 rfl rfl rfl rfl) (by rfl) (by rfl) ?_)
          refine RL_cons (OpR_off (by exact wn2 rfl rfl rfl rfl) (by rfl) (by rfl) ?_)
          refine RL_pure (by exact wn0 rfl) (by rfl) (by rfl) (x_pick_f (v := .bool false) (by rfl) (by rfl)) ?_
          refine RL_nil ?_
          exact ⟨⟨congrArg Value.bool (Option.some.inj hm), rfl, rfl, rfl, trivial⟩, H⟩
        · have hm := cond_t hbS hmS
          refine RL_pure (by exact wn1 rfl rfl rfl rfl) (by rfl) (by rfl) (x_move (v := .int .i64 v33.2) (by rfl)) ?_
          refine RL_pure (by exact wn1 rfl rfl rfl rfl) (by rfl) (by rfl) (x_eql (by rfl) (by rfl)) ?_
          refine RL_pure (by exact wn0 rfl) (by rfl) (by rfl) (x_pick_t (v := .bool (v33.2 == 0)) (by rfl) (by rfl)) ?_
          refine RL_nil ?_
          exact ⟨⟨congrArg Value.bool (Option.some.inj hm), rfl, rfl, rfl, trivial⟩, H⟩
      · rintro r' w' ⟨hA, H⟩
        obtain ⟨r49, rfl⟩ := regen _ hA; clear hA
        obtain ⟨w50, rfl⟩ : ∃ W : World, W = w' := ⟨_, rfl⟩
        show RL _ _ _ _ _ _ _
        refine RL_pure (by exact wn0 rfl) (by rfl) (by rfl) (x_move (v := .bool b48) (by rfl)) ?_
        obtain ⟨b51, hmS, hm⟩ := bind_some hm
        refine RL_cut 3 (fun r' w' => Agr [(48, .bool b51), (7, .int .i64 v40.1), (8, .int .i64 v40.2)] r' ∧ Sep ok w w' [.blk b16 25 [.int .i64 v2.1.W, .int .i64 v2.1.H, .slice A4 v2.1.Color.length cp5, .slice A7 v2.1.Depth.length cp8, .slice A10 v2.1.Item.length cp11, .slice A13 v2.1.Tri.length cp14], .blk b25 28 [.slice A22 v20.1.Levels.length cp23]] [RE.rd k_Ar4_Int A4 cp5 v2.1.Color, RE.rd kInt A7 cp8 v2.1.Depth, RE.rd kInt A10 cp11 v2.1.Item, RE.rd kInt A13 cp14 v2.1.Tri, RE.rd k_Level A22 cp23 v20.1.Levels]) ?_ ?_
        · cases hbS : b48
          · have hm := cond_f hbS hmS
            refine RL_cons (OpR_off (by exact wn2 rfl rfl rfl rfl) (by rfl) (by rfl) ?_)
            refine RL_cons (OpR_off (by exact wn2 rfl rfl rfl rfl) (by rfl) (by rfl) ?_)
            refine RL_pure (by exact wn0 rfl) (by rfl) (by rfl) (x_pick_f (v := .bool false) (by rfl) (by rfl)) ?_
            refine RL_nil ?_
            exact ⟨⟨congrArg Value.bool (Option.some.inj hm), rfl, rfl, trivial⟩, H⟩
          · have hm := cond_t hbS hmS
            refine RL_pure (by exact wn1 rfl rfl rfl rfl) (by rfl) (by rfl) (x_move (v := .int .i64 v33.1) (by rfl)) ?_
            refine RL_pure (by exact wn1 rfl rfl rfl rfl) (by rfl) (by rfl) (x_eql (by rfl) (by rfl)) ?_
            refine RL_pure (by exact wn0 rfl) (by rfl) (by rfl) (x_pick_t (v := .bool (v33.1 == 600)) (by rfl) (by rfl)) ?_
            refine RL_nil ?_
            exact ⟨⟨congrArg Value.bool (Option.some.inj hm), rfl, rfl, trivial⟩, H⟩
        · rintro r' w' ⟨hA, H⟩
          obtain ⟨r52, rfl⟩ := regen _ hA; clear hA
          obtain ⟨w53, rfl⟩ : ∃ W : World, W = w' := ⟨_, rfl⟩
          show RL _ _ _ _ _ _ _
          refine RL_pure (by exact wn0 rfl) (by rfl) (by rfl) (x_move (v := .bool b51) (by rfl)) ?_
          obtain ⟨b54, hmS, hm⟩ := bind_some hm
          refine RL_cut 3 (fun r' w' => Agr [(52, .bool b54), (7, .int .i64 v40.1)] r' ∧ Sep ok w w' [.blk b16 25 [.int .i64 v2.1.W, .int .i64 v2.1.H, .slice A4 v2.1.Color.length cp5, .slice A7 v2.1.Depth.length cp8, .slice A10 v2.1.Item.length cp11, .slice A13 v2.1.Tri.length cp14], .blk b25 28 [.slice A22 v20.1.Levels.length cp23]] [RE.rd k_Ar4_Int A4 cp5 v2.1.Color, RE.rd kInt A7 cp8 v2.1.Depth, RE.rd kInt A10 cp11 v2.1.Item, RE.rd kInt A13 cp14 v2.1.Tri, RE.rd k_Level A22 cp23 v20.1.Levels]) ?_ ?_
          · cases hbS : b51
            · have hm := cond_f hbS hmS
              refine RL_cons (OpR_off (by exact wn2 rfl rfl rfl rfl) (by rfl) (by rfl) ?_)
              refine RL_cons (OpR_off (by exact wn2 rfl rfl rfl rfl) (by rfl) (by rfl) ?_)
              refine RL_pure (by exact wn0 rfl) (by rfl) (by rfl) (x_pick_f (v := .bool false) (by rfl) (by rfl)) ?_
              refine RL_nil ?_
              exact ⟨⟨congrArg Value.bool (Option.some.inj hm), rfl, trivial⟩, H⟩
            · have hm := cond_t hbS hmS
              refine RL_pure (by exact wn1 rfl rfl rfl rfl) (by rfl) (by rfl) (x_move (v := .int .i64 v40.2) (by rfl)) ?_
              refine RL_pure (by exact wn1 rfl rfl rfl rfl) (by rfl) (by rfl) (x_eql (by rfl) (by rfl)) ?_
              refine RL_pure (by exact wn0 rfl) (by rfl) (by rfl) (x_pick_t (v := .bool (v40.2 == 0)) (by rfl) (by rfl)) ?_
              refine RL_nil ?_
              exact ⟨⟨congrArg Value.bool (Option.some.inj hm), rfl, trivial⟩, H⟩
          · rintro r' w' ⟨hA, H⟩
            obtain ⟨r55, rfl⟩ := regen _ hA; clear hA
            obtain ⟨w56, rfl⟩ : ∃ W : World, W = w' := ⟨_, rfl⟩
            show RL _ _ _ _ _ _ _
            refine RL_pure (by exact wn0 rfl) (by rfl) (by rfl) (x_move (v := .bool b54) (by rfl)) ?_
            obtain ⟨b57, hmS, hm⟩ := bind_some hm
            refine RL_cut 3 (fun r' w' => Agr [(56, .bool b57)] r' ∧ Sep ok w w' [.blk b16 25 [.int .i64 v2.1.W, .int .i64 v2.1.H, .slice A4 v2.1.Color.length cp5, .slice A7 v2.1.Depth.length cp8, .slice A10 v2.1.Item.length cp11, .slice A13 v2.1.Tri.length cp14], .blk b25 28 [.slice A22 v20.1.Levels.length cp23]] [RE.rd k_Ar4_Int A4 cp5 v2.1.Color, RE.rd kInt A7 cp8 v2.1.Depth, RE.rd kInt A10 cp11 v2.1.Item, RE.rd kInt A13 cp14 v2.1.Tri, RE.rd k_Level A22 cp23 v20.1.Levels]) ?_ ?_
            · cases hbS : b54
              · have hm := cond_f hbS hmS
                refine RL_cons (OpR_off (by exact wn2 rfl rfl rfl rfl) (by rfl) (by rfl) ?_)
                refine RL_cons (OpR_off (by exact wn2 rfl rfl rfl rfl) (by rfl) (by rfl) ?_)
                refine RL_pure (by exact wn0 rfl) (by rfl) (by rfl) (x_pick_f (v := .bool false) (by rfl) (by rfl)) ?_
                refine RL_nil ?_
                exact ⟨⟨congrArg Value.bool (Option.some.inj hm), trivial⟩, H⟩
              · have hm := cond_t hbS hmS
                refine RL_pure (by exact wn1 rfl rfl rfl rfl) (by rfl) (by rfl) (x_move (v := .int .i64 v40.1) (by rfl)) ?_
                refine RL_pure (by exact wn1 rfl rfl rfl rfl) (by rfl) (by rfl) (x_eql (by rfl) (by rfl)) ?_
                refine RL_pure (by exact wn0 rfl) (by rfl) (by rfl) (x_pick_t (v := .bool (v40.1 == (-2048))) (by rfl) (by rfl)) ?_
                refine RL_nil ?_
                exact ⟨⟨congrArg Value.bool (Option.some.inj hm), trivial⟩, H⟩
            · rintro r' w' ⟨hA, H⟩
              obtain ⟨r58, rfl⟩ := regen _ hA; clear hA
              obtain ⟨w59, rfl⟩ : ∃ W : World, W = w' := ⟨_, rfl⟩
              show RL _ _ _ _ _ _ _
              refine RL_pure (by exact wn0 rfl) (by rfl) (by rfl) (x_assign (v := .bool b57) (by rfl)) ?_
              refine RL_nil ?_
              refine W_ret ?_
              obtain rfl := Option.some.inj hm
              exact ⟨[.bool b57], (.tmp (by rfl) rfl), rfl, H.none_⟩
end Go.Proofs.YtobkigllalbkiaaV.M
