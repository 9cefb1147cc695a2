/- A plain Lean function that answers as the Go function does (none: not told), and the proof that a call answers so. Written by program. -/
import Derived.Test.YtobkigllalbkiaaVMTy
import Derived.Test.YtobkigllalbkiaaVMF15
import Derived.Test.YtobkigllalbkiaaVMF17
import Derived.Test.YtobkigllalbkiaaVMF19
import Derived.Test.YtobkigllalbkiaaVMF22
import Derived.Test.YtobkigllalbkiaaVMF34
import Derived.Test.YtobkigllalbkiaaVMF35
import Derived.Test.YtobkigllalbkiaaVMF36
set_option linter.unusedVariables false
namespace Go.Proofs.YtobkigllalbkiaaV.M
open Go.RowKit Go.Proofs.YtobkigllalbkiaaV
/-- diorama/dioramalaw27.PyramidNames -/
def m6 (K : Nat)  : Option (Bool) :=
  ((m34 K ).bind fun v2 => (bif (!v2) then some false else ((m35 K ).bind fun v5 => ((m15 K v5.1).bind fun v23 => ((m36 K 1).bind fun v33 => ((m19 K v23.1 (⟨v33, 599⟩ : S_Shade)).bind fun v36 => ((m36 K 1).bind fun v40 => ((m19 K v23.1 (⟨v40, 600⟩ : S_Shade)).bind fun v43 => ((m36 K 3).bind fun v47 => ((m17 K v23.1 v47).bind fun v50 => ((m19 K v23.1 (⟨(⟨0, 0, 0, 0⟩ : S_Rect), 66561⟩ : S_Shade)).bind fun v53 => (idx v23.1.Levels 0 fun el55 => ((bif ((el55.Low.length : Int) == 6) then (idx v23.1.Levels 0 fun el73 => (idx el73.Low 1 fun el90 => some (el90 == 700))) else some false).bind fun b72 => ((bif b72 then (idx v23.1.Levels 1 fun el100 => some (el100.W == 2)) else some false).bind fun b99 => ((bif b99 then (idx v23.1.Levels 1 fun el120 => some (el120.H == 1)) else some false).bind fun b119 => ((bif b119 then (idx v23.1.Levels 1 fun el140 => some ((el140.Low.length : Int) == 2)) else some false).bind fun b139 => ((bif b139 then (idx v23.1.Levels 1 fun el160 => (idx el160.Low 0 fun el177 => some (el177 == (-2048)))) else some false).bind fun b159 => ((bif b159 then (idx v23.1.Levels 2 fun el187 => some ((el187.Low.length : Int) == 1)) else some false).bind fun b186 => ((bif b186 then some v36.1 else some false).bind fun b206 => ((bif b206 then some (v36.2 == 0) else some false).bind fun b209 => ((bif b209 then some (!v43.1) else some false).bind fun b212 => ((bif b212 then some (v43.2 == 0) else some false).bind fun b215 => ((bif b215 then some (v50.2 == 2) else some false).bind fun b218 => ((bif b218 then ((m22 K (⟨[]⟩ : S_Pyramid)).bind fun v223 => some (v223 == 8)) else some false).bind fun b221 => ((bif b221 then some (v53.2 == 2) else some false).bind fun b227 => ((bif b227 then ((m22 K v23.1).bind fun v232 => some (v232 == 0)) else some false).bind fun b230 => some b230))))))))))))))))))))))))))
set_option maxRecDepth 100000 in
set_option maxHeartbeats 4000000 in
theorem c6 (ok : Nat → Prop) (K : Nat) (w : World)  (res : Bool) (hm : m6 K  = some res) :
    Calls Try.prog 6 #[] w (fun e w' => e = .returned (tup [.bool res]) ∧ Sep ok w w' [] []) := by
  refine calls_W (args := []) Try.func6 rfl Try.ntmps6 Try.results6 rfl fun r hr => ?_
  obtain ⟨r1, rfl⟩ : ∃ R, R = r := ⟨_, rfl⟩
  have H : Sep ok w w [] [] := Sep.start ok w
  unfold m6 at hm
  refine W_seq ?_
  refine W_region ?_
  refine RL_pure (by exact wn0 rfl) (by rfl) (by rfl) (x_assign (v := .bool false) (by rfl)) ?_
  refine RL_nil ?_
  refine W_seq ?_
  refine W_seq ?_
  refine W_region ?_
  obtain ⟨v2, hv1, hm⟩ := bind_some hm
  refine RL_cons (O_call (by exact wn0 rfl) (by rfl) (by rfl) (x_callL (by rfl) (args := []) (by rfl) (cf34 _ _)) (c34 (fun _ => True) K w   v2 hv1) ?_)
  rintro e w3 ⟨rfl, H2⟩
  have H : Sep ok w w3 [] [] := H.below H2.base
  clear H2
  refine ⟨_, rfl, ?_⟩
  show RL _ _ _ _ _ _ _
  refine RL_pure (by exact wn0 rfl) (by rfl) (by rfl) (x_not (by rfl)) ?_
  refine RL_nil ?_
  refine W_cond (by rfl) (fun hb => ?_) (fun hb => ?_)
  · have hm := cond_t hb hm
    refine W_seq ?_
    refine W_region ?_
    refine RL_pure (by exact wn0 rfl) (by rfl) (by rfl) (x_assign (v := .bool false) (by rfl)) ?_
    refine RL_nil ?_
    refine W_ret ?_
    obtain rfl := Option.some.inj hm
    exact ⟨[.bool false], (.tmp (by rfl) rfl), rfl, H.none_⟩
  · have hm := cond_f hb hm
    refine W_skip ?_
    refine W_seq ?_
    refine W_region ?_
    obtain ⟨v5, hv4, hm⟩ := bind_some hm
    refine RL_cons (O_call (by exact wn0 rfl) (by rfl) (by rfl) (x_callL (by rfl) (args := []) (by rfl) (cf35 _ _)) (c35 (okS ok w []) K w3   v5 hv4) ?_)
    rintro e w6 ⟨A7, cp8, A10, cp11, A13, cp14, A16, cp17, rfl, H2⟩
    have H : Sep ok w w6 [] [RE.rd k_Ar4_Int A7 cp8 v5.1.Color, RE.rd kInt A10 cp11 v5.1.Depth, RE.rd kInt A13 cp14 v5.1.Item, RE.rd kInt A16 cp17 v5.1.Tri] := H.call H2
    clear H2
    refine ⟨_, rfl, ?_⟩
    show RL _ _ _ _ _ _ _
    refine RL_pure (by exact wn0 rfl) (by rfl) (by rfl) (x_move (v := tup [.agg #[.int .i64 v5.1.W, .int .i64 v5.1.H, .slice A7 v5.1.Color.length cp8, .slice A10 v5.1.Depth.length cp11, .slice A13 v5.1.Item.length cp14, .slice A16 v5.1.Tri.length cp17], .bool v5.2]) (by rfl)) ?_
    refine RL_pure (by exact wn0 rfl) (by rfl) (by rfl) (x_extract (v := .agg #[.int .i64 v5.1.W, .int .i64 v5.1.H, .slice A7 v5.1.Color.length cp8, .slice A10 v5.1.Depth.length cp11, .slice A13 v5.1.Item.length cp14, .slice A16 v5.1.Tri.length cp17]) (by rfl) (by rfl)) ?_
    refine RL_pure (by exact wn0 rfl) (by rfl) (by rfl) (x_extract (v := .bool v5.2) (by rfl) (by rfl)) ?_
    refine RL_cons (O_alloc (by exact wn0 rfl) (by rfl) ze25 (by rfl) H (fun w20 b19 (H : Sep ok w w20 [.blk b19 25 [.int .i64 0, .int .i64 0, .slice none 0 0, .slice none 0 0, .slice none 0 0, .slice none 0 0]] [RE.rd k_Ar4_Int A7 cp8 v5.1.Color, RE.rd kInt A10 cp11 v5.1.Depth, RE.rd kInt A13 cp14 v5.1.Item, RE.rd kInt A16 cp17 v5.1.Tri]) => ?_))
    refine RL_cons (O_store (i := 0) (off := 0) (by exact wn0 rfl) (by rfl) (by rfl) H (by rfl) (vs := [.int .i64 v5.1.W, .int .i64 v5.1.H, .slice A7 v5.1.Color.length cp8, .slice A10 v5.1.Depth.length cp11, .slice A13 v5.1.Item.length cp14, .slice A16 v5.1.Tri.length cp17]) (by rfl) sz25 (by rfl) (by rfl) (by rfl) (fun w21 (H : Sep ok w w21 [.blk b19 25 [.int .i64 v5.1.W, .int .i64 v5.1.H, .slice A7 v5.1.Color.length cp8, .slice A10 v5.1.Depth.length cp11, .slice A13 v5.1.Item.length cp14, .slice A16 v5.1.Tri.length cp17]] [RE.rd k_Ar4_Int A7 cp8 v5.1.Color, RE.rd kInt A10 cp11 v5.1.Depth, RE.rd kInt A13 cp14 v5.1.Item, RE.rd kInt A16 cp17 v5.1.Tri]) => ?_))
    refine RL_pure (by exact wn0 rfl) (by rfl) (by rfl) (x_assign (v := .bool v5.2) (by rfl)) ?_
    refine RL_nil ?_
    refine W_seq ?_
    refine W_region ?_
    refine RL_pure (by exact wn0 rfl) (by rfl) (by rfl) (x_loadA (j := 0) (vs := [.int .i64 v5.1.W, .int .i64 v5.1.H, .slice A7 v5.1.Color.length cp8, .slice A10 v5.1.Depth.length cp11, .slice A13 v5.1.Item.length cp14, .slice A16 v5.1.Tri.length cp17]) ag25 (by rfl) (H.cells (i := 0) (by rfl)) (by rfl) (by rfl)) ?_
    obtain ⟨v23, hv22, hm⟩ := bind_some hm
    refine RL_cons (O_call (by exact wn0 rfl) (by rfl) (by rfl) (x_callL (by rfl) (args := [.agg #[.int .i64 v5.1.W, .int .i64 v5.1.H, .slice A7 v5.1.Color.length cp8, .slice A10 v5.1.Depth.length cp11, .slice A13 v5.1.Item.length cp14, .slice A16 v5.1.Tri.length cp17]]) (by rfl) (cf15 _ _)) (c15 (okS ok w [.blk b19 25 [.int .i64 v5.1.W, .int .i64 v5.1.H, .slice A7 v5.1.Color.length cp8, .slice A10 v5.1.Depth.length cp11, .slice A13 v5.1.Item.length cp14, .slice A16 v5.1.Tri.length cp17]]) K w21 v5.1 A7 cp8 A10 cp11 A13 cp14 A16 cp17 (H.rd (i := 0) (by rfl)) (H.rd (i := 1) (by rfl)) (H.rd (i := 2) (by rfl)) (H.rd (i := 3) (by rfl)) v23 hv22) ?_)
    rintro e w24 ⟨A25, cp26, rfl, H2⟩
    have H : Sep ok w w24 [.blk b19 25 [.int .i64 v5.1.W, .int .i64 v5.1.H, .slice A7 v5.1.Color.length cp8, .slice A10 v5.1.Depth.length cp11, .slice A13 v5.1.Item.length cp14, .slice A16 v5.1.Tri.length cp17]] [RE.rd k_Ar4_Int A7 cp8 v5.1.Color, RE.rd kInt A10 cp11 v5.1.Depth, RE.rd kInt A13 cp14 v5.1.Item, RE.rd kInt A16 cp17 v5.1.Tri, RE.rd k_Level A25 cp26 v23.1.Levels] := H.call H2
    clear H2
    refine ⟨_, rfl, ?_⟩
    show RL _ _ _ _ _ _ _
    refine RL_pure (by exact wn0 rfl) (by rfl) (by rfl) (x_move (v := tup [.agg #[.slice A25 v23.1.Levels.length cp26], .int .i64 v23.2]) (by rfl)) ?_
    refine RL_pure (by exact wn0 rfl) (by rfl) (by rfl) (x_extract (v := .agg #[.slice A25 v23.1.Levels.length cp26]) (by rfl) (by rfl)) ?_
    refine RL_pure (by exact wn0 rfl) (by rfl) (by rfl) (x_extract (v := .int .i64 v23.2) (by rfl) (by rfl)) ?_
    refine RL_cons (O_alloc (by exact wn0 rfl) (by rfl) ze28 (by rfl) H (fun w29 b28 (H : Sep ok w w29 [.blk b19 25 [.int .i64 v5.1.W, .int .i64 v5.1.H, .slice A7 v5.1.Color.length cp8, .slice A10 v5.1.Depth.length cp11, .slice A13 v5.1.Item.length cp14, .slice A16 v5.1.Tri.length cp17], .blk b28 28 [.slice none 0 0]] [RE.rd k_Ar4_Int A7 cp8 v5.1.Color, RE.rd kInt A10 cp11 v5.1.Depth, RE.rd kInt A13 cp14 v5.1.Item, RE.rd kInt A16 cp17 v5.1.Tri, RE.rd k_Level A25 cp26 v23.1.Levels]) => ?_))
    refine RL_cons (O_store (i := 1) (off := 0) (by exact wn0 rfl) (by rfl) (by rfl) H (by rfl) (vs := [.slice A25 v23.1.Levels.length cp26]) (by rfl) sz28 (by rfl) (by rfl) (by rfl) (fun w30 (H : Sep ok w w30 [.blk b19 25 [.int .i64 v5.1.W, .int .i64 v5.1.H, .slice A7 v5.1.Color.length cp8, .slice A10 v5.1.Depth.length cp11, .slice A13 v5.1.Item.length cp14, .slice A16 v5.1.Tri.length cp17], .blk b28 28 [.slice A25 v23.1.Levels.length cp26]] [RE.rd k_Ar4_Int A7 cp8 v5.1.Color, RE.rd kInt A10 cp11 v5.1.Depth, RE.rd kInt A13 cp14 v5.1.Item, RE.rd kInt A16 cp17 v5.1.Tri, RE.rd k_Level A25 cp26 v23.1.Levels]) => ?_))
    refine RL_pure (by exact wn0 rfl) (by rfl) (by rfl) (x_assign (v := .int .i64 v23.2) (by rfl)) ?_
    refine RL_nil ?_
    refine W_seq ?_
    refine W_draw [.take 0, .run 1, .free 2, .tail 3, .free 4, .free 5, .free 6, .free 7, .free 8] (fun wS => Sep ok w wS [.blk b19 25 [.int .i64 v5.1.W, .int .i64 v5.1.H, .slice A7 v5.1.Color.length cp8, .slice A10 v5.1.Depth.length cp11, .slice A13 v5.1.Item.length cp14, .slice A16 v5.1.Tri.length cp17], .blk b28 28 [.slice A25 v23.1.Levels.length cp26]] [RE.rd k_Ar4_Int A7 cp8 v5.1.Color, RE.rd kInt A10 cp11 v5.1.Depth, RE.rd kInt A13 cp14 v5.1.Item, RE.rd kInt A16 cp17 v5.1.Tri, RE.rd k_Level A25 cp26 v23.1.Levels]) [3] [2, 4, 5, 6, 7, 8] mixed0 (by kernel_rfl) (by kernel_rfl) (by kernel_rfl) (by rfl) (by exact H.drew) ?_
    obtain ⟨w31, hW⟩ : ∃ W : World, W = { w30 with drawn := w30.drawn + 1 } := ⟨_, rfl⟩
    rw [← hW]
    have H : Sep ok w w31 [.blk b19 25 [.int .i64 v5.1.W, .int .i64 v5.1.H, .slice A7 v5.1.Color.length cp8, .slice A10 v5.1.Depth.length cp11, .slice A13 v5.1.Item.length cp14, .slice A16 v5.1.Tri.length cp17], .blk b28 28 [.slice A25 v23.1.Levels.length cp26]] [RE.rd k_Ar4_Int A7 cp8 v5.1.Color, RE.rd kInt A10 cp11 v5.1.Depth, RE.rd kInt A13 cp14 v5.1.Item, RE.rd kInt A16 cp17 v5.1.Tri, RE.rd k_Level A25 cp26 v23.1.Levels] := by rw [hW]; exact H.drew
    clear hW
    refine PR_take (by rfl) (by rfl) (by rfl) (by exact wn0 rfl) (fun wS (H : Sep ok w wS [.blk b19 25 [.int .i64 v5.1.W, .int .i64 v5.1.H, .slice A7 v5.1.Color.length cp8, .slice A10 v5.1.Depth.length cp11, .slice A13 v5.1.Item.length cp14, .slice A16 v5.1.Tri.length cp17], .blk b28 28 [.slice A25 v23.1.Levels.length cp26]] [RE.rd k_Ar4_Int A7 cp8 v5.1.Color, RE.rd kInt A10 cp11 v5.1.Depth, RE.rd kInt A13 cp14 v5.1.Item, RE.rd kInt A16 cp17 v5.1.Tri, RE.rd k_Level A25 cp26 v23.1.Levels]) => (x_loadA (j := 0) (vs := [.slice A25 v23.1.Levels.length cp26]) ag28 (by rfl) (H.cells (i := 1) (by rfl)) (by rfl) (by rfl))) ?_
    obtain ⟨v33, hv32, hm⟩ := bind_some hm
    refine PR_run (by rfl) (O_call (by exact wn0 rfl) (by rfl) (by rfl) (x_callL (by rfl) (args := [.int .i64 1]) (by rfl) (cf36 _ _)) (c36 (fun _ => True) K w31 1  v33 hv32) ?_)
    rintro e w34 ⟨rfl, H2⟩
    have H : Sep ok w w34 [.blk b19 25 [.int .i64 v5.1.W, .int .i64 v5.1.H, .slice A7 v5.1.Color.length cp8, .slice A10 v5.1.Depth.length cp11, .slice A13 v5.1.Item.length cp14, .slice A16 v5.1.Tri.length cp17], .blk b28 28 [.slice A25 v23.1.Levels.length cp26]] [RE.rd k_Ar4_Int A7 cp8 v5.1.Color, RE.rd kInt A10 cp11 v5.1.Depth, RE.rd kInt A13 cp14 v5.1.Item, RE.rd kInt A16 cp17 v5.1.Tri, RE.rd k_Level A25 cp26 v23.1.Levels] := H.below H2.base
    clear H2
    refine ⟨_, rfl, H, ?_⟩
    show PR _ _ _ _ _ _ _ _
    refine PR_free (by rfl) (by rfl) (by rfl) (by exact wn0 rfl) (fun wS => (x_build (vs := [(0, .agg #[.int .i64 v33.X0, .int .i64 v33.Y0, .int .i64 v33.X1, .int .i64 v33.Y1]), (1, .int .i64 599)]) (cs := [.int .i64 v33.X0, .int .i64 v33.Y0, .int .i64 v33.X1, .int .i64 v33.Y1, .int .i64 599]) (by rfl) (by kernel_rfl))) ?_
    obtain ⟨v36, hv35, hm⟩ := bind_some hm
    refine PR_tail (by rfl) (O_call (by exact wn0 rfl) (by rfl) (by rfl) (x_callL (by rfl) (args := [.agg #[.slice A25 v23.1.Levels.length cp26], .agg #[.int .i64 v33.X0, .int .i64 v33.Y0, .int .i64 v33.X1, .int .i64 v33.Y1, .int .i64 599]]) (by rfl) (cf19 _ _)) (c19 (fun _ => True) K w34 v23.1 A25 cp26 (⟨v33, 599⟩ : S_Shade) (H.rd (i := 4) (by rfl)).any v36 hv35) ?_)
    rintro e w37 ⟨rfl, H2⟩
    have H : Sep ok w w37 [.blk b19 25 [.int .i64 v5.1.W, .int .i64 v5.1.H, .slice A7 v5.1.Color.length cp8, .slice A10 v5.1.Depth.length cp11, .slice A13 v5.1.Item.length cp14, .slice A16 v5.1.Tri.length cp17], .blk b28 28 [.slice A25 v23.1.Levels.length cp26]] [RE.rd k_Ar4_Int A7 cp8 v5.1.Color, RE.rd kInt A10 cp11 v5.1.Depth, RE.rd kInt A13 cp14 v5.1.Item, RE.rd kInt A16 cp17 v5.1.Tri, RE.rd k_Level A25 cp26 v23.1.Levels] := H.below H2.base
    clear H2
    refine ⟨_, rfl, ?_⟩
    show PR _ _ _ _ _ _ _ _
    refine PR_free (by rfl) (by rfl) (by rfl) (by exact wn0 rfl) (fun wS => (x_move (v := tup [.bool v36.1, .int .i64 v36.2]) (by rfl))) ?_
    refine PR_free (by rfl) (by rfl) (by rfl) (by exact wn0 rfl) (fun wS => (x_extract (v := .bool v36.1) (by rfl) (by rfl))) ?_
    refine PR_free (by rfl) (by rfl) (by rfl) (by exact wn0 rfl) (fun wS => (x_extract (v := .int .i64 v36.2) (by rfl) (by rfl))) ?_
    refine PR_free (by rfl) (by rfl) (by rfl) (by exact wn0 rfl) (fun wS => (x_assign (v := .bool v36.1) (by rfl))) ?_
    refine PR_free (by rfl) (by rfl) (by rfl) (by exact wn0 rfl) (fun wS => (x_assign (v := .int .i64 v36.2) (by rfl))) ?_
    refine PR_nil ?_
    refine W_seq ?_
    refine W_draw [.take 0, .run 1, .free 2, .tail 3, .free 4, .free 5, .free 6, .free 7, .free 8] (fun wS => Sep ok w wS [.blk b19 25 [.int .i64 v5.1.W, .int .i64 v5.1.H, .slice A7 v5.1.Color.length cp8, .slice A10 v5.1.Depth.length cp11, .slice A13 v5.1.Item.length cp14, .slice A16 v5.1.Tri.length cp17], .blk b28 28 [.slice A25 v23.1.Levels.length cp26]] [RE.rd k_Ar4_Int A7 cp8 v5.1.Color, RE.rd kInt A10 cp11 v5.1.Depth, RE.rd kInt A13 cp14 v5.1.Item, RE.rd kInt A16 cp17 v5.1.Tri, RE.rd k_Level A25 cp26 v23.1.Levels]) [3] [2, 4, 5, 6, 7, 8] mixed0 (by kernel_rfl) (by kernel_rfl) (by kernel_rfl) (by rfl) (by exact H.drew) ?_
    obtain ⟨w38, hW⟩ : ∃ W : World, W = { w37 with drawn := w37.drawn + 1 } := ⟨_, rfl⟩
    rw [← hW]
    have H : Sep ok w w38 [.blk b19 25 [.int .i64 v5.1.W, .int .i64 v5.1.H, .slice A7 v5.1.Color.length cp8, .slice A10 v5.1.Depth.length cp11, .slice A13 v5.1.Item.length cp14, .slice A16 v5.1.Tri.length cp17], .blk b28 28 [.slice A25 v23.1.Levels.length cp26]] [RE.rd k_Ar4_Int A7 cp8 v5.1.Color, RE.rd kInt A10 cp11 v5.1.Depth, RE.rd kInt A13 cp14 v5.1.Item, RE.rd kInt A16 cp17 v5.1.Tri, RE.rd k_Level A25 cp26 v23.1.Levels] := by rw [hW]; exact H.drew
    clear hW
    refine PR_take (by rfl) (by rfl) (by rfl) (by exact wn0 rfl) (fun wS (H : Sep ok w wS [.blk b19 25 [.int .i64 v5.1.W, .int .i64 v5.1.H, .slice A7 v5.1.Color.length cp8, .slice A10 v5.1.Depth.length cp11, .slice A13 v5.1.Item.length cp14, .slice A16 v5.1.Tri.length cp17], .blk b28 28 [.slice A25 v23.1.Levels.length cp26]] [RE.rd k_Ar4_Int A7 cp8 v5.1.Color, RE.rd kInt A10 cp11 v5.1.Depth, RE.rd kInt A13 cp14 v5.1.Item, RE.rd kInt A16 cp17 v5.1.Tri, RE.rd k_Level A25 cp26 v23.1.Levels]) => (x_loadA (j := 0) (vs := [.slice A25 v23.1.Levels.length cp26]) ag28 (by rfl) (H.cells (i := 1) (by rfl)) (by rfl) (by rfl))) ?_
    obtain ⟨v40, hv39, hm⟩ := bind_some hm
    refine PR_run (by rfl) (O_call (by exact wn0 rfl) (by rfl) (by rfl) (x_callL (by rfl) (args := [.int .i64 1]) (by rfl) (cf36 _ _)) (c36 (fun _ => True) K w38 1  v40 hv39) ?_)
    rintro e w41 ⟨rfl, H2⟩
    have H : Sep ok w w41 [.blk b19 25 [.int .i64 v5.1.W, .int .i64 v5.1.H, .slice A7 v5.1.Color.length cp8, .slice A10 v5.1.Depth.length cp11, .slice A13 v5.1.Item.length cp14, .slice A16 v5.1.Tri.length cp17], .blk b28 28 [.slice A25 v23.1.Levels.length cp26]] [RE.rd k_Ar4_Int A7 cp8 v5.1.Color, RE.rd kInt A10 cp11 v5.1.Depth, RE.rd kInt A13 cp14 v5.1.Item, RE.rd kInt A16 cp17 v5.1.Tri, RE.rd k_Level A25 cp26 v23.1.Levels] := H.below H2.base
    clear H2
    refine ⟨_, rfl, H, ?_⟩
    show PR _ _ _ _ _ _ _ _
    refine PR_free (by rfl) (by rfl) (by rfl) (by exact wn0 rfl) (fun wS => (x_build (vs := [(0, .agg #[.int .i64 v40.X0, .int .i64 v40.Y0, .int .i64 v40.X1, .int .i64 v40.Y1]), (1, .int .i64 600)]) (cs := [.int .i64 v40.X0, .int .i64 v40.Y0, .int .i64 v40.X1, .int .i64 v40.Y1, .int .i64 600]) (by rfl) (by kernel_rfl))) ?_
    obtain ⟨v43, hv42, hm⟩ := bind_some hm
    refine PR_tail (by rfl) (O_call (by exact wn0 rfl) (by rfl) (by rfl) (x_callL (by rfl) (args := [.agg #[.slice A25 v23.1.Levels.length cp26], .agg #[.int .i64 v40.X0, .int .i64 v40.Y0, .int .i64 v40.X1, .int .i64 v40.Y1, .int .i64 600]]) (by rfl) (cf19 _ _)) (c19 (fun _ => True) K w41 v23.1 A25 cp26 (⟨v40, 600⟩ : S_Shade) (H.rd (i := 4) (by rfl)).any v43 hv42) ?_)
    rintro e w44 ⟨rfl, H2⟩
    have H : Sep ok w w44 [.blk b19 25 [.int .i64 v5.1.W, .int .i64 v5.1.H, .slice A7 v5.1.Color.length cp8, .slice A10 v5.1.Depth.length cp11, .slice A13 v5.1.Item.length cp14, .slice A16 v5.1.Tri.length cp17], .blk b28 28 [.slice A25 v23.1.Levels.length cp26]] [RE.rd k_Ar4_Int A7 cp8 v5.1.Color, RE.rd kInt A10 cp11 v5.1.Depth, RE.rd kInt A13 cp14 v5.1.Item, RE.rd kInt A16 cp17 v5.1.Tri, RE.rd k_Level A25 cp26 v23.1.Levels] := H.below H2.base
    clear H2
    refine ⟨_, rfl, ?_⟩
    show PR _ _ _ _ _ _ _ _
    refine PR_free (by rfl) (by rfl) (by rfl) (by exact wn0 rfl) (fun wS => (x_move (v := tup [.bool v43.1, .int .i64 v43.2]) (by rfl))) ?_
    refine PR_free (by rfl) (by rfl) (by rfl) (by exact wn0 rfl) (fun wS => (x_extract (v := .bool v43.1) (by rfl) (by rfl))) ?_
    refine PR_free (by rfl) (by rfl) (by rfl) (by exact wn0 rfl) (fun wS => (x_extract (v := .int .i64 v43.2) (by rfl) (by rfl))) ?_
    refine PR_free (by rfl) (by rfl) (by rfl) (by exact wn0 rfl) (fun wS => (x_assign (v := .bool v43.1) (by rfl))) ?_
    refine PR_free (by rfl) (by rfl) (by rfl) (by exact wn0 rfl) (fun wS => (x_assign (v := .int .i64 v43.2) (by rfl))) ?_
    refine PR_nil ?_
    refine W_seq ?_
    refine W_draw [.take 0, .run 1, .tail 2, .free 3, .free 4, .free 5, .free 6, .free 7] (fun wS => Sep ok w wS [.blk b19 25 [.int .i64 v5.1.W, .int .i64 v5.1.H, .slice A7 v5.1.Color.length cp8, .slice A10 v5.1.Depth.length cp11, .slice A13 v5.1.Item.length cp14, .slice A16 v5.1.Tri.length cp17], .blk b28 28 [.slice A25 v23.1.Levels.length cp26]] [RE.rd k_Ar4_Int A7 cp8 v5.1.Color, RE.rd kInt A10 cp11 v5.1.Depth, RE.rd kInt A13 cp14 v5.1.Item, RE.rd kInt A16 cp17 v5.1.Tri, RE.rd k_Level A25 cp26 v23.1.Levels]) [2] [3, 4, 5, 6, 7] mixed0 (by kernel_rfl) (by kernel_rfl) (by kernel_rfl) (by rfl) (by exact H.drew) ?_
    obtain ⟨w45, hW⟩ : ∃ W : World, W = { w44 with drawn := w44.drawn + 1 } := ⟨_, rfl⟩
    rw [← hW]
    have H : Sep ok w w45 [.blk b19 25 [.int .i64 v5.1.W, .int .i64 v5.1.H, .slice A7 v5.1.Color.length cp8, .slice A10 v5.1.Depth.length cp11, .slice A13 v5.1.Item.length cp14, .slice A16 v5.1.Tri.length cp17], .blk b28 28 [.slice A25 v23.1.Levels.length cp26]] [RE.rd k_Ar4_Int A7 cp8 v5.1.Color, RE.rd kInt A10 cp11 v5.1.Depth, RE.rd kInt A13 cp14 v5.1.Item, RE.rd kInt A16 cp17 v5.1.Tri, RE.rd k_Level A25 cp26 v23.1.Levels] := by rw [hW]; exact H.drew
    clear hW
    refine PR_take (by rfl) (by rfl) (by rfl) (by exact wn0 rfl) (fun wS (H : Sep ok w wS [.blk b19 25 [.int .i64 v5.1.W, .int .i64 v5.1.H, .slice A7 v5.1.Color.length cp8, .slice A10 v5.1.Depth.length cp11, .slice A13 v5.1.Item.length cp14, .slice A16 v5.1.Tri.length cp17], .blk b28 28 [.slice A25 v23.1.Levels.length cp26]] [RE.rd k_Ar4_Int A7 cp8 v5.1.Color, RE.rd kInt A10 cp11 v5.1.Depth, RE.rd kInt A13 cp14 v5.1.Item, RE.rd kInt A16 cp17 v5.1.Tri, RE.rd k_Level A25 cp26 v23.1.Levels]) => (x_loadA (j := 0) (vs := [.slice A25 v23.1.Levels.length cp26]) ag28 (by rfl) (H.cells (i := 1) (by rfl)) (by rfl) (by rfl))) ?_
    obtain ⟨v47, hv46, hm⟩ := bind_some hm
    refine PR_run (by rfl) (O_call (by exact wn0 rfl) (by rfl) (by rfl) (x_callL (by rfl) (args := [.int .i64 3]) (by rfl) (cf36 _ _)) (c36 (fun _ => True) K w45 3  v47 hv46) ?_)
    rintro e w48 ⟨rfl, H2⟩
    have H : Sep ok w w48 [.blk b19 25 [.int .i64 v5.1.W, .int .i64 v5.1.H, .slice A7 v5.1.Color.length cp8, .slice A10 v5.1.Depth.length cp11, .slice A13 v5.1.Item.length cp14, .slice A16 v5.1.Tri.length cp17], .blk b28 28 [.slice A25 v23.1.Levels.length cp26]] [RE.rd k_Ar4_Int A7 cp8 v5.1.Color, RE.rd kInt A10 cp11 v5.1.Depth, RE.rd kInt A13 cp14 v5.1.Item, RE.rd kInt A16 cp17 v5.1.Tri, RE.rd k_Level A25 cp26 v23.1.Levels] := H.below H2.base
    clear H2
    refine ⟨_, rfl, H, ?_⟩
    show PR _ _ _ _ _ _ _ _
    obtain ⟨v50, hv49, hm⟩ := bind_some hm
    refine PR_tail (by rfl) (O_call (by exact wn0 rfl) (by rfl) (by rfl) (x_callL (by rfl) (args := [.agg #[.slice A25 v23.1.Levels.length cp26], .agg #[.int .i64 v47.X0, .int .i64 v47.Y0, .int .i64 v47.X1, .int .i64 v47.Y1]]) (by rfl) (cf17 _ _)) (c17 (fun _ => True) K w48 v23.1 A25 cp26 v47 (H.rd (i := 4) (by rfl)).any v50 hv49) ?_)
    rintro e w51 ⟨rfl, H2⟩
    have H : Sep ok w w51 [.blk b19 25 [.int .i64 v5.1.W, .int .i64 v5.1.H, .slice A7 v5.1.Color.length cp8, .slice A10 v5.1.Depth.length cp11, .slice A13 v5.1.Item.length cp14, .slice A16 v5.1.Tri.length cp17], .blk b28 28 [.slice A25 v23.1.Levels.length cp26]] [RE.rd k_Ar4_Int A7 cp8 v5.1.Color, RE.rd kInt A10 cp11 v5.1.Depth, RE.rd kInt A13 cp14 v5.1.Item, RE.rd kInt A16 cp17 v5.1.Tri, RE.rd k_Level A25 cp26 v23.1.Levels] := H.below H2.base
    clear H2
    refine ⟨_, rfl, ?_⟩
    show PR _ _ _ _ _ _ _ _
    refine PR_free (by rfl) (by rfl) (by rfl) (by exact wn0 rfl) (fun wS => (x_move (v := tup [.int .i64 v50.1, .int .i64 v50.2]) (by rfl))) ?_
    refine PR_free (by rfl) (by rfl) (by rfl) (by exact wn0 rfl) (fun wS => (x_extract (v := .int .i64 v50.1) (by rfl) (by rfl))) ?_
    refine PR_free (by rfl) (by rfl) (by rfl) (by exact wn0 rfl) (fun wS => (x_extract (v := .int .i64 v50.2) (by rfl) (by rfl))) ?_
    refine PR_free (by rfl) (by rfl) (by rfl) (by exact wn0 rfl) (fun wS => (x_assign (v := .int .i64 v50.1) (by rfl))) ?_
    refine PR_free (by rfl) (by rfl) (by rfl) (by exact wn0 rfl) (fun wS => (x_assign (v := .int .i64 v50.2) (by rfl))) ?_
    refine PR_nil ?_
    refine W_seq ?_
    refine W_region ?_
    refine RL_pure (by exact wn0 rfl) (by rfl) (by rfl) (x_loadA (j := 0) (vs := [.slice A25 v23.1.Levels.length cp26]) ag28 (by rfl) (H.cells (i := 1) (by rfl)) (by rfl) (by rfl)) ?_
    refine RL_pure (by exact wn0 rfl) (by rfl) (by rfl) (x_build (vs := [(1, .int .i64 66561)]) (cs := [.int .i64 0, .int .i64 0, .int .i64 0, .int .i64 0, .int .i64 66561]) (by rfl) (by kernel_rfl)) ?_
    obtain ⟨v53, hv52, hm⟩ := bind_some hm
    refine RL_cons (O_call (by exact wn0 rfl) (by rfl) (by rfl) (x_callL (by rfl) (args := [.agg #[.slice A25 v23.1.Levels.length cp26], .agg #[.int .i64 0, .int .i64 0, .int .i64 0, .int .i64 0, .int .i64 66561]]) (by rfl) (cf19 _ _)) (c19 (fun _ => True) K w51 v23.1 A25 cp26 (⟨(⟨0, 0, 0, 0⟩ : S_Rect), 66561⟩ : S_Shade) (H.rd (i := 4) (by rfl)).any v53 hv52) ?_)
    rintro e w54 ⟨rfl, H2⟩
    have H : Sep ok w w54 [.blk b19 25 [.int .i64 v5.1.W, .int .i64 v5.1.H, .slice A7 v5.1.Color.length cp8, .slice A10 v5.1.Depth.length cp11, .slice A13 v5.1.Item.length cp14, .slice A16 v5.1.Tri.length cp17], .blk b28 28 [.slice A25 v23.1.Levels.length cp26]] [RE.rd k_Ar4_Int A7 cp8 v5.1.Color, RE.rd kInt A10 cp11 v5.1.Depth, RE.rd kInt A13 cp14 v5.1.Item, RE.rd kInt A16 cp17 v5.1.Tri, RE.rd k_Level A25 cp26 v23.1.Levels] := H.below H2.base
    clear H2
    refine ⟨_, rfl, ?_⟩
    show RL _ _ _ _ _ _ _
    refine RL_pure (by exact wn0 rfl) (by rfl) (by rfl) (x_move (v := tup [.bool v53.1, .int .i64 v53.2]) (by rfl)) ?_
    refine RL_pure (by exact wn0 rfl) (by rfl) (by rfl) (x_extract (v := .bool v53.1) (by rfl) (by rfl)) ?_
    refine RL_pure (by exact wn0 rfl) (by rfl) (by rfl) (x_extract (v := .int .i64 v53.2) (by rfl) (by rfl)) ?_
    refine RL_pure (by exact wn0 rfl) (by rfl) (by rfl) (x_assign (v := .bool v53.1) (by rfl)) ?_
    refine RL_pure (by exact wn0 rfl) (by rfl) (by rfl) (x_assign (v := .int .i64 v53.2) (by rfl)) ?_
    refine RL_nil ?_
    refine W_seq ?_
    refine W_region ?_
    refine RL_pure (by exact wn0 rfl) (by rfl) (by rfl) (x_fieldAddr fo28_0 (by rfl)) ?_
    refine RL_pure (by exact wn0 rfl) (by rfl) (by rfl) (x_load (j := 0) (v := .slice A25 v23.1.Levels.length cp26) sc26 (by rfl) (H.cells (i := 1) (by rfl)) (by rfl)) ?_
    obtain ⟨el55, h56, h57, he58, hm⟩ := idx_some hm
    obtain ⟨g60, o61, hA59⟩ := (H.rd (i := 4) (by rfl)).addr he58
    obtain ⟨cs62, hk63, hat64, hg_cs62⟩ := (H.rd (i := 4) (by rfl)).openAt hA59 he58
    obtain ⟨A67, cp68, rfl, hR70⟩ := hk63
    have H : Sep ok w w54 [.blk b19 25 [.int .i64 v5.1.W, .int .i64 v5.1.H, .slice A7 v5.1.Color.length cp8, .slice A10 v5.1.Depth.length cp11, .slice A13 v5.1.Item.length cp14, .slice A16 v5.1.Tri.length cp17], .blk b28 28 [.slice A25 v23.1.Levels.length cp26]] [RE.rd k_Ar4_Int A7 cp8 v5.1.Color, RE.rd kInt A10 cp11 v5.1.Depth, RE.rd kInt A13 cp14 v5.1.Item, RE.rd kInt A16 cp17 v5.1.Tri, RE.rd k_Level A25 cp26 v23.1.Levels, RE.cells g60 (o61 + (0 : Int).toNat * 3) [.int .i64 el55.W, .int .i64 el55.H, .slice A67 el55.Low.length cp68]] := Sep.also H (re := RE.cells g60 (o61 + (0 : Int).toNat * 3) [.int .i64 el55.W, .int .i64 el55.H, .slice A67 el55.Low.length cp68]) ⟨hg_cs62.1, hg_cs62.2, hat64⟩
    have H : Sep ok w w54 [.blk b19 25 [.int .i64 v5.1.W, .int .i64 v5.1.H, .slice A7 v5.1.Color.length cp8, .slice A10 v5.1.Depth.length cp11, .slice A13 v5.1.Item.length cp14, .slice A16 v5.1.Tri.length cp17], .blk b28 28 [.slice A25 v23.1.Levels.length cp26]] [RE.rd k_Ar4_Int A7 cp8 v5.1.Color, RE.rd kInt A10 cp11 v5.1.Depth, RE.rd kInt A13 cp14 v5.1.Item, RE.rd kInt A16 cp17 v5.1.Tri, RE.rd k_Level A25 cp26 v23.1.Levels, RE.cells g60 (o61 + (0 : Int).toNat * 3) [.int .i64 el55.W, .int .i64 el55.H, .slice A67 el55.Low.length cp68], RE.rd kInt A67 cp68 el55.Low] := Sep.also H (re := RE.rd kInt A67 cp68 el55.Low) hR70
    refine RL_pure (by exact wn0 rfl) (by rfl) (by rfl) (x_indexAddr sl26 sz54 (by rfl) (by rfl) hA59 h56 h57) ?_
    refine RL_pure (by exact wn0 rfl) (by rfl) (by rfl) (x_fieldAddr fo54_2 (by rfl)) ?_
    refine RL_pure (by exact wn0 rfl) (by rfl) (by rfl) (x_load (j := 2) (v := .slice A67 el55.Low.length cp68) sc23 (by rfl) (H.cellsR (i := 5) (by rfl)) (by rfl)) ?_
    refine RL_pure (by exact wn0 rfl) (by rfl) (by rfl) (x_len sl23 (by rfl)) ?_
    refine RL_pure (by exact wn0 rfl) (by rfl) (by rfl) (x_eql (by rfl) (by rfl)) ?_
    refine RL_pure (by exact wn0 rfl) (by rfl) (by rfl) (x_move (v := .bool ((el55.Low.length : Int) == 6)) (by rfl)) ?_
    obtain ⟨b72, hmS, hm⟩ := bind_some hm
    refine RL_cut 9 (fun r' w' => Agr [(67, .bool b72), (3, .pointer (some ⟨b28, 0, none⟩)), (5, .bool v36.1), (6, .int .i64 v36.2), (7, .bool v43.1), (8, .int .i64 v43.2), (10, .int .i64 v50.2), (12, .int .i64 v53.2)] r' ∧ Sep ok w w' [.blk b19 25 [.int .i64 v5.1.W, .int .i64 v5.1.H, .slice A7 v5.1.Color.length cp8, .slice A10 v5.1.Depth.length cp11, .slice A13 v5.1.Item.length cp14, .slice A16 v5.1.Tri.length cp17], .blk b28 28 [.slice A25 v23.1.Levels.length cp26]] [RE.rd k_Ar4_Int A7 cp8 v5.1.Color, RE.rd kInt A10 cp11 v5.1.Depth, RE.rd kInt A13 cp14 v5.1.Item, RE.rd kInt A16 cp17 v5.1.Tri, RE.rd k_Level A25 cp26 v23.1.Levels, RE.cells g60 (o61 + (0 : Int).toNat * 3) [.int .i64 el55.W, .int .i64 el55.H, .slice A67 el55.Low.length cp68], RE.rd kInt A67 cp68 el55.Low]) ?_ ?_
    · cases hbS : ((el55.Low.length : Int) == 6)
      · have hm := cond_f hbS hmS
        refine RL_cons (OpR_off (by exact wn2 rfl rfl rfl rfl) (by rfl) (by rfl) ?_)
        refine RL_cons (OpR_off (by exact wn2 rfl rfl rfl rfl) (by rfl) (by rfl) ?_)
        refine RL_cons (OpR_off (by exact wn2 rfl rfl rfl rfl) (by rfl) (by rfl) ?_)
        refine RL_cons (OpR_off (by exact wn2 rfl rfl rfl rfl) (by rfl) (by rfl) ?_)
        refine RL_cons (OpR_off (by exact wn2 rfl rfl rfl rfl) (by rfl) (by rfl) ?_)
        refine RL_cons (OpR_off (by exact wn2 rfl rfl rfl rfl) (by rfl) (by rfl) ?_)
        refine RL_cons (OpR_off (by exact wn2 rfl rfl rfl rfl) (by rfl) (by rfl) ?_)
        refine RL_cons (OpR_off (by exact wn2 rfl rfl rfl rfl) (by rfl) (by rfl) ?_)
        refine RL_pure (by exact wn0 rfl) (by rfl) (by rfl) (x_pick_f (v := .bool false) (by rfl) (by rfl)) ?_
        refine RL_nil ?_
        exact ⟨⟨congrArg Value.bool (Option.some.inj hm), rfl, rfl, rfl, rfl, rfl, rfl, rfl, trivial⟩, H⟩
      · have hm := cond_t hbS hmS
        refine RL_pure (by exact wn1 rfl rfl rfl rfl) (by rfl) (by rfl) (x_fieldAddr fo28_0 (by rfl)) ?_
        refine RL_pure (by exact wn1 rfl rfl rfl rfl) (by rfl) (by rfl) (x_load (j := 0) (v := .slice A25 v23.1.Levels.length cp26) sc26 (by rfl) (H.cells (i := 1) (by rfl)) (by rfl)) ?_
        obtain ⟨el73, h74, h75, he76, hm⟩ := idx_some hm
        obtain ⟨g78, o79, hA77⟩ := (H.rd (i := 4) (by rfl)).addr he76
        obtain ⟨cs80, hk81, hat82, hg_cs80⟩ := (H.rd (i := 4) (by rfl)).openAt hA77 he76
        obtain ⟨A85, cp86, rfl, hR88⟩ := hk81
        have H : Sep ok w w54 [.blk b19 25 [.int .i64 v5.1.W, .int .i64 v5.1.H, .slice A7 v5.1.Color.length cp8, .slice A10 v5.1.Depth.length cp11, .slice A13 v5.1.Item.length cp14, .slice A16 v5.1.Tri.length cp17], .blk b28 28 [.slice A25 v23.1.Levels.length cp26]] [RE.rd k_Ar4_Int A7 cp8 v5.1.Color, RE.rd kInt A10 cp11 v5.1.Depth, RE.rd kInt A13 cp14 v5.1.Item, RE.rd kInt A16 cp17 v5.1.Tri, RE.rd k_Level A25 cp26 v23.1.Levels, RE.cells g60 (o61 + (0 : Int).toNat * 3) [.int .i64 el55.W, .int .i64 el55.H, .slice A67 el55.Low.length cp68], RE.rd kInt A67 cp68 el55.Low, RE.cells g78 (o79 + (0 : Int).toNat * 3) [.int .i64 el73.W, .int .i64 el73.H, .slice A85 el73.Low.length cp86]] := Sep.also H (re := RE.cells g78 (o79 + (0 : Int).toNat * 3) [.int .i64 el73.W, .int .i64 el73.H, .slice A85 el73.Low.length cp86]) ⟨hg_cs80.1, hg_cs80.2, hat82⟩
        have H : Sep ok w w54 [.blk b19 25 [.int .i64 v5.1.W, .int .i64 v5.1.H, .slice A7 v5.1.Color.length cp8, .slice A10 v5.1.Depth.length cp11, .slice A13 v5.1.Item.length cp14, .slice A16 v5.1.Tri.length cp17], .blk b28 28 [.slice A25 v23.1.Levels.length cp26]] [RE.rd k_Ar4_Int A7 cp8 v5.1.Color, RE.rd kInt A10 cp11 v5.1.Depth, RE.rd kInt A13 cp14 v5.1.Item, RE.rd kInt A16 cp17 v5.1.Tri, RE.rd k_Level A25 cp26 v23.1.Levels, RE.cells g60 (o61 + (0 : Int).toNat * 3) [.int .i64 el55.W, .int .i64 el55.H, .slice A67 el55.Low.length cp68], RE.rd kInt A67 cp68 el55.Low, RE.cells g78 (o79 + (0 : Int).toNat * 3) [.int .i64 el73.W, .int .i64 el73.H, .slice A85 el73.Low.length cp86], RE.rd kInt A85 cp86 el73.Low] := Sep.also H (re := RE.rd kInt A85 cp86 el73.Low) hR88
        refine RL_pure (by exact wn1 rfl rfl rfl rfl) (by rfl) (by rfl) (x_indexAddr sl26 sz54 (by rfl) (by rfl) hA77 h74 h75) ?_
        refine RL_pure (by exact wn1 rfl rfl rfl rfl) (by rfl) (by rfl) (x_fieldAddr fo54_2 (by rfl)) ?_
        refine RL_pure (by exact wn1 rfl rfl rfl rfl) (by rfl) (by rfl) (x_load (j := 2) (v := .slice A85 el73.Low.length cp86) sc23 (by rfl) (H.cellsR (i := 7) (by rfl)) (by rfl)) ?_
        obtain ⟨el90, h91, h92, he93, hm⟩ := idx_some hm
        obtain ⟨g95, o96, hA94⟩ := (H.rd (i := 8) (by rfl)).addr he93
        refine RL_pure (by exact wn1 rfl rfl rfl rfl) (by rfl) (by rfl) (x_indexAddr sl23 sz3 (by rfl) (by rfl) hA94 h91 h92) ?_
        refine RL_pure (by exact wn1 rfl rfl rfl rfl) (by rfl) (by rfl) (x_load (j := 0) (v := .int .i64 el90) sc3 (by rfl) (Rd.flatAt (n := 1) (H.rd (i := 8) (by rfl)) hA94 he93) (by rfl)) ?_
        refine RL_pure (by exact wn1 rfl rfl rfl rfl) (by rfl) (by rfl) (x_eql (by rfl) (by rfl)) ?_
        refine RL_pure (by exact wn0 rfl) (by rfl) (by rfl) (x_pick_t (v := .bool (el90 == 700)) (by rfl) (by rfl)) ?_
        refine RL_nil ?_
        exact ⟨⟨congrArg Value.bool (Option.some.inj hm), rfl, rfl, rfl, rfl, rfl, rfl, rfl, trivial⟩, (H.takeL 2).takeR 7⟩
    · rintro r' w' ⟨hA, H⟩
      obtain ⟨r97, rfl⟩ := regen _ hA; clear hA
      obtain ⟨w98, rfl⟩ : ∃ W : World, W = w' := ⟨_, rfl⟩
      show RL _ _ _ _ _ _ _
      refine RL_pure (by exact wn0 rfl) (by rfl) (by rfl) (x_move (v := .bool b72) (by rfl)) ?_
      obtain ⟨b99, hmS, hm⟩ := bind_some hm
      refine RL_cut 7 (fun r' w' => Agr [(75, .bool b99), (3, .pointer (some ⟨b28, 0, none⟩)), (5, .bool v36.1), (6, .int .i64 v36.2), (7, .bool v43.1), (8, .int .i64 v43.2), (10, .int .i64 v50.2), (12, .int .i64 v53.2)] r' ∧ Sep ok w w' [.blk b19 25 [.int .i64 v5.1.W, .int .i64 v5.1.H, .slice A7 v5.1.Color.length cp8, .slice A10 v5.1.Depth.length cp11, .slice A13 v5.1.Item.length cp14, .slice A16 v5.1.Tri.length cp17], .blk b28 28 [.slice A25 v23.1.Levels.length cp26]] [RE.rd k_Ar4_Int A7 cp8 v5.1.Color, RE.rd kInt A10 cp11 v5.1.Depth, RE.rd kInt A13 cp14 v5.1.Item, RE.rd kInt A16 cp17 v5.1.Tri, RE.rd k_Level A25 cp26 v23.1.Levels, RE.cells g60 (o61 + (0 : Int).toNat * 3) [.int .i64 el55.W, .int .i64 el55.H, .slice A67 el55.Low.length cp68], RE.rd kInt A67 cp68 el55.Low]) ?_ ?_
      · cases hbS : b72
        · have hm := cond_f hbS hmS
          refine RL_cons (OpR_off (by exact wn2 rfl rfl rfl rfl) (by rfl) (by rfl) ?_)
          refine RL_cons (OpR_off (by exact wn2 rfl rfl rfl rfl) (by rfl) (by rfl) ?_)
          refine RL_cons (OpR_off (by exact wn2 rfl rfl rfl rfl) (by rfl) (by rfl) ?_)
          refine RL_cons (OpR_off (by exact wn2 rfl rfl rfl rfl) (by rfl) (by rfl) ?_)
          refine RL_cons (OpR_off (by exact wn2 rfl rfl rfl rfl) (by rfl) (by rfl) ?_)
          refine RL_cons (OpR_off (by exact wn2 rfl rfl rfl rfl) (by rfl) (by rfl) ?_)
          refine RL_pure (by exact wn0 rfl) (by rfl) (by rfl) (x_pick_f (v := .bool false) (by rfl) (by rfl)) ?_
          refine RL_nil ?_
          exact ⟨⟨congrArg Value.bool (Option.some.inj hm), rfl, rfl, rfl, rfl, rfl, rfl, rfl, trivial⟩, H⟩
        · have hm := cond_t hbS hmS
          refine RL_pure (by exact wn1 rfl rfl rfl rfl) (by rfl) (by rfl) (x_fieldAddr fo28_0 (by rfl)) ?_
          refine RL_pure (by exact wn1 rfl rfl rfl rfl) (by rfl) (by rfl) (x_load (j := 0) (v := .slice A25 v23.1.Levels.length cp26) sc26 (by rfl) (H.cells (i := 1) (by rfl)) (by rfl)) ?_
          obtain ⟨el100, h101, h102, he103, hm⟩ := idx_some hm
          obtain ⟨g105, o106, hA104⟩ := (H.rd (i := 4) (by rfl)).addr he103
          obtain ⟨cs107, hk108, hat109, hg_cs107⟩ := (H.rd (i := 4) (by rfl)).openAt hA104 he103
          obtain ⟨A112, cp113, rfl, hR115⟩ := hk108
          have H : Sep ok w w98 [.blk b19 25 [.int .i64 v5.1.W, .int .i64 v5.1.H, .slice A7 v5.1.Color.length cp8, .slice A10 v5.1.Depth.length cp11, .slice A13 v5.1.Item.length cp14, .slice A16 v5.1.Tri.length cp17], .blk b28 28 [.slice A25 v23.1.Levels.length cp26]] [RE.rd k_Ar4_Int A7 cp8 v5.1.Color, RE.rd kInt A10 cp11 v5.1.Depth, RE.rd kInt A13 cp14 v5.1.Item, RE.rd kInt A16 cp17 v5.1.Tri, RE.rd k_Level A25 cp26 v23.1.Levels, RE.cells g60 (o61 + (0 : Int).toNat * 3) [.int .i64 el55.W, .int .i64 el55.H, .slice A67 el55.Low.length cp68], RE.rd kInt A67 cp68 el55.Low, RE.cells g105 (o106 + (1 : Int).toNat * 3) [.int .i64 el100.W, .int .i64 el100.H, .slice A112 el100.Low.length cp113]] := Sep.also H (re := RE.cells g105 (o106 + (1 : Int).toNat * 3) [.int .i64 el100.W, .int .i64 el100.H, .slice A112 el100.Low.length cp113]) ⟨hg_cs107.1, hg_cs107.2, hat109⟩
          have H : Sep ok w w98 [.blk b19 25 [.int .i64 v5.1.W, .int .i64 v5.1.H, .slice A7 v5.1.Color.length cp8, .slice A10 v5.1.Depth.length cp11, .slice A13 v5.1.Item.length cp14, .slice A16 v5.1.Tri.length cp17], .blk b28 28 [.slice A25 v23.1.Levels.length cp26]] [RE.rd k_Ar4_Int A7 cp8 v5.1.Color, RE.rd kInt A10 cp11 v5.1.Depth, RE.rd kInt A13 cp14 v5.1.Item, RE.rd kInt A16 cp17 v5.1.Tri, RE.rd k_Level A25 cp26 v23.1.Levels, RE.cells g60 (o61 + (0 : Int).toNat * 3) [.int .i64 el55.W, .int .i64 el55.H, .slice A67 el55.Low.length cp68], RE.rd kInt A67 cp68 el55.Low, RE.cells g105 (o106 + (1 : Int).toNat * 3) [.int .i64 el100.W, .int .i64 el100.H, .slice A112 el100.Low.length cp113], RE.rd kInt A112 cp113 el100.Low] := Sep.also H (re := RE.rd kInt A112 cp113 el100.Low) hR115
          refine RL_pure (by exact wn1 rfl rfl rfl rfl) (by rfl) (by rfl) (x_indexAddr sl26 sz54 (by rfl) (by rfl) hA104 h101 h102) ?_
          refine RL_pure (by exact wn1 rfl rfl rfl rfl) (by rfl) (by rfl) (x_fieldAddr fo54_0 (by rfl)) ?_
          refine RL_pure (by exact wn1 rfl rfl rfl rfl) (by rfl) (by rfl) (x_load (j := 0) (v := .int .i64 el100.W) sc3 (by rfl) (H.cellsR (i := 7) (by rfl)) (by rfl)) ?_
          refine RL_pure (by exact wn1 rfl rfl rfl rfl) (by rfl) (by rfl) (x_eql (by rfl) (by rfl)) ?_
          refine RL_pure (by exact wn0 rfl) (by rfl) (by rfl) (x_pick_t (v := .bool (el100.W == 2)) (by rfl) (by rfl)) ?_
          refine RL_nil ?_
          exact ⟨⟨congrArg Value.bool (Option.some.inj hm), rfl, rfl, rfl, rfl, rfl, rfl, rfl, trivial⟩, (H.takeL 2).takeR 7⟩
      · rintro r' w' ⟨hA, H⟩
        obtain ⟨r117, rfl⟩ := regen _ hA; clear hA
        obtain ⟨w118, rfl⟩ : ∃ W : World, W = w' := ⟨_, rfl⟩
        show RL _ _ _ _ _ _ _
        refine RL_pure (by exact wn0 rfl) (by rfl) (by rfl) (x_move (v := .bool b99) (by rfl)) ?_
        obtain ⟨b119, hmS, hm⟩ := bind_some hm
        refine RL_cut 7 (fun r' w' => Agr [(83, .bool b119), (3, .pointer (some ⟨b28, 0, none⟩)), (5, .bool v36.1), (6, .int .i64 v36.2), (7, .bool v43.1), (8, .int .i64 v43.2), (10, .int .i64 v50.2), (12, .int .i64 v53.2)] r' ∧ Sep ok w w' [.blk b19 25 [.int .i64 v5.1.W, .int .i64 v5.1.H, .slice A7 v5.1.Color.length cp8, .slice A10 v5.1.Depth.length cp11, .slice A13 v5.1.Item.length cp14, .slice A16 v5.1.Tri.length cp17], .blk b28 28 [.slice A25 v23.1.Levels.length cp26]] [RE.rd k_Ar4_Int A7 cp8 v5.1.Color, RE.rd kInt A10 cp11 v5.1.Depth, RE.rd kInt A13 cp14 v5.1.Item, RE.rd kInt A16 cp17 v5.1.Tri, RE.rd k_Level A25 cp26 v23.1.Levels, RE.cells g60 (o61 + (0 : Int).toNat * 3) [.int .i64 el55.W, .int .i64 el55.H, .slice A67 el55.Low.length cp68], RE.rd kInt A67 cp68 el55.Low]) ?_ ?_
        · cases hbS : b99
          · have hm := cond_f hbS hmS
            refine RL_cons (OpR_off (by exact wn2 rfl rfl rfl rfl) (by rfl) (by rfl) ?_)
            refine RL_cons (OpR_off (by exact wn2 rfl rfl rfl rfl) (by rfl) (by rfl) ?_)
            refine RL_cons (OpR_off (by exact wn2 rfl rfl rfl rfl) (by rfl) (by rfl) ?_)
            refine RL_cons (OpR_off (by exact wn2 rfl rfl rfl rfl) (by rfl) (by rfl) ?_)
            refine RL_cons (OpR_off (by exact wn2 rfl rfl rfl rfl) (by rfl) (by rfl) ?_)
            refine RL_cons (OpR_off (by exact wn2 rfl rfl rfl rfl) (by rfl) (by rfl) ?_)
            refine RL_pure (by exact wn0 rfl) (by rfl) (by rfl) (x_pick_f (v := .bool false) (by rfl) (by rfl)) ?_
            refine RL_nil ?_
            exact ⟨⟨congrArg Value.bool (Option.some.inj hm), rfl, rfl, rfl, rfl, rfl, rfl, rfl, trivial⟩, H⟩
          · have hm := cond_t hbS hmS
            refine RL_pure (by exact wn1 rfl rfl rfl rfl) (by rfl) (by rfl) (x_fieldAddr fo28_0 (by rfl)) ?_
            refine RL_pure (by exact wn1 rfl rfl rfl rfl) (by rfl) (by rfl) (x_load (j := 0) (v := .slice A25 v23.1.Levels.length cp26) sc26 (by rfl) (H.cells (i := 1) (by rfl)) (by rfl)) ?_
            obtain ⟨el120, h121, h122, he123, hm⟩ := idx_some hm
            obtain ⟨g125, o126, hA124⟩ := (H.rd (i := 4) (by rfl)).addr he123
            obtain ⟨cs127, hk128, hat129, hg_cs127⟩ := (H.rd (i := 4) (by rfl)).openAt hA124 he123
            obtain ⟨A132, cp133, rfl, hR135⟩ := hk128
            have H : Sep ok w w118 [.blk b19 25 [.int .i64 v5.1.W, .int .i64 v5.1.H, .slice A7 v5.1.Color.length cp8, .slice A10 v5.1.Depth.length cp11, .slice A13 v5.1.Item.length cp14, .slice A16 v5.1.Tri.length cp17], .blk b28 28 [.slice A25 v23.1.Levels.length cp26]] [RE.rd k_Ar4_Int A7 cp8 v5.1.Color, RE.rd kInt A10 cp11 v5.1.Depth, RE.rd kInt A13 cp14 v5.1.Item, RE.rd kInt A16 cp17 v5.1.Tri, RE.rd k_Level A25 cp26 v23.1.Levels, RE.cells g60 (o61 + (0 : Int).toNat * 3) [.int .i64 el55.W, .int .i64 el55.H, .slice A67 el55.Low.length cp68], RE.rd kInt A67 cp68 el55.Low, RE.cells g125 (o126 + (1 : Int).toNat * 3) [.int .i64 el120.W, .int .i64 el120.H, .slice A132 el120.Low.length cp133]] := Sep.also H (re := RE.cells g125 (o126 + (1 : Int).toNat * 3) [.int .i64 el120.W, .int .i64 el120.H, .slice A132 el120.Low.length cp133]) ⟨hg_cs127.1, hg_cs127.2, hat129⟩
            have H : Sep ok w w118 [.blk b19 25 [.int .i64 v5.1.W, .int .i64 v5.1.H, .slice A7 v5.1.Color.length cp8, .slice A10 v5.1.Depth.length cp11, .slice A13 v5.1.Item.length cp14, .slice A16 v5.1.Tri.length cp17], .blk b28 28 [.slice A25 v23.1.Levels.length cp26]] [RE.rd k_Ar4_Int A7 cp8 v5.1.Color, RE.rd kInt A10 cp11 v5.1.Depth, RE.rd kInt A13 cp14 v5.1.Item, RE.rd kInt A16 cp17 v5.1.Tri, RE.rd k_Level A25 cp26 v23.1.Levels, RE.cells g60 (o61 + (0 : Int).toNat * 3) [.int .i64 el55.W, .int .i64 el55.H, .slice A67 el55.Low.length cp68], RE.rd kInt A67 cp68 el55.Low, RE.cells g125 (o126 + (1 : Int).toNat * 3) [.int .i64 el120.W, .int .i64 el120.H, .slice A132 el120.Low.length cp133], RE.rd kInt A132 cp133 el120.Low] := Sep.also H (re := RE.rd kInt A132 cp133 el120.Low) hR135
            refine RL_pure (by exact wn1 rfl rfl rfl rfl) (by rfl) (by rfl) (x_indexAddr sl26 sz54 (by rfl) (by rfl) hA124 h121 h122) ?_
            refine RL_pure (by exact wn1 rfl rfl rfl rfl) (by rfl) (by rfl) (x_fieldAddr fo54_1 (by rfl)) ?_
            refine RL_pure (by exact wn1 rfl rfl rfl rfl) (by rfl) (by rfl) (x_load (j := 1) (v := .int .i64 el120.H) sc3 (by rfl) (H.cellsR (i := 7) (by rfl)) (by rfl)) ?_
            refine RL_pure (by exact wn1 rfl rfl rfl rfl) (by rfl) (by rfl) (x_eql (by rfl) (by rfl)) ?_
            refine RL_pure (by exact wn0 rfl) (by rfl) (by rfl) (x_pick_t (v := .bool (el120.H == 1)) (by rfl) (by rfl)) ?_
            refine RL_nil ?_
            exact ⟨⟨congrArg Value.bool (Option.some.inj hm), rfl, rfl, rfl, rfl, rfl, rfl, rfl, trivial⟩, (H.takeL 2).takeR 7⟩
        · rintro r' w' ⟨hA, H⟩
          obtain ⟨r137, rfl⟩ := regen _ hA; clear hA
          obtain ⟨w138, rfl⟩ : ∃ W : World, W = w' := ⟨_, rfl⟩
          show RL _ _ _ _ _ _ _
          refine RL_pure (by exact wn0 rfl) (by rfl) (by rfl) (x_move (v := .bool b119) (by rfl)) ?_
          obtain ⟨b139, hmS, hm⟩ := bind_some hm
          refine RL_cut 8 (fun r' w' => Agr [(92, .bool b139), (3, .pointer (some ⟨b28, 0, none⟩)), (5, .bool v36.1), (6, .int .i64 v36.2), (7, .bool v43.1), (8, .int .i64 v43.2), (10, .int .i64 v50.2), (12, .int .i64 v53.2)] r' ∧ Sep ok w w' [.blk b19 25 [.int .i64 v5.1.W, .int .i64 v5.1.H, .slice A7 v5.1.Color.length cp8, .slice A10 v5.1.Depth.length cp11, .slice A13 v5.1.Item.length cp14, .slice A16 v5.1.Tri.length cp17], .blk b28 28 [.slice A25 v23.1.Levels.length cp26]] [RE.rd k_Ar4_Int A7 cp8 v5.1.Color, RE.rd kInt A10 cp11 v5.1.Depth, RE.rd kInt A13 cp14 v5.1.Item, RE.rd kInt A16 cp17 v5.1.Tri, RE.rd k_Level A25 cp26 v23.1.Levels, RE.cells g60 (o61 + (0 : Int).toNat * 3) [.int .i64 el55.W, .int .i64 el55.H, .slice A67 el55.Low.length cp68], RE.rd kInt A67 cp68 el55.Low]) ?_ ?_
          · cases hbS : b119
            · have hm := cond_f hbS hmS
              refine RL_cons (OpR_off (by exact wn2 rfl rfl rfl rfl) (by rfl) (by rfl) ?_)
              refine RL_cons (OpR_off (by exact wn2 rfl rfl rfl rfl) (by rfl) (by rfl) ?_)
              refine RL_cons (OpR_off (by exact wn2 rfl rfl rfl rfl) (by rfl) (by rfl) ?_)
              refine RL_cons (OpR_off (by exact wn2 rfl rfl rfl rfl) (by rfl) (by rfl) ?_)
              refine RL_cons (OpR_off (by exact wn2 rfl rfl rfl rfl) (by rfl) (by rfl) ?_)
              refine RL_cons (OpR_off (by exact wn2 rfl rfl rfl rfl) (by rfl) (by rfl) ?_)
              refine RL_cons (OpR_off (by exact wn2 rfl rfl rfl rfl) (by rfl) (by rfl) ?_)
              refine RL_pure (by exact wn0 rfl) (by rfl) (by rfl) (x_pick_f (v := .bool false) (by rfl) (by rfl)) ?_
              refine RL_nil ?_
              exact ⟨⟨congrArg Value.bool (Option.some.inj hm), rfl, rfl, rfl, rfl, rfl, rfl, rfl, trivial⟩, H⟩
            · have hm := cond_t hbS hmS
              refine RL_pure (by exact wn1 rfl rfl rfl rfl) (by rfl) (by rfl) (x_fieldAddr fo28_0 (by rfl)) ?_
              refine RL_pure (by exact wn1 rfl rfl rfl rfl) (by rfl) (by rfl) (x_load (j := 0) (v := .slice A25 v23.1.Levels.length cp26) sc26 (by rfl) (H.cells (i := 1) (by rfl)) (by rfl)) ?_
              obtain ⟨el140, h141, h142, he143, hm⟩ := idx_some hm
              obtain ⟨g145, o146, hA144⟩ := (H.rd (i := 4) (by rfl)).addr he143
              obtain ⟨cs147, hk148, hat149, hg_cs147⟩ := (H.rd (i := 4) (by rfl)).openAt hA144 he143
              obtain ⟨A152, cp153, rfl, hR155⟩ := hk148
              have H : Sep ok w w138 [.blk b19 25 [.int .i64 v5.1.W, .int .i64 v5.1.H, .slice A7 v5.1.Color.length cp8, .slice A10 v5.1.Depth.length cp11, .slice A13 v5.1.Item.length cp14, .slice A16 v5.1.Tri.length cp17], .blk b28 28 [.slice A25 v23.1.Levels.length cp26]] [RE.rd k_Ar4_Int A7 cp8 v5.1.Color, RE.rd kInt A10 cp11 v5.1.Depth, RE.rd kInt A13 cp14 v5.1.Item, RE.rd kInt A16 cp17 v5.1.Tri, RE.rd k_Level A25 cp26 v23.1.Levels, RE.cells g60 (o61 + (0 : Int).toNat * 3) [.int .i64 el55.W, .int .i64 el55.H, .slice A67 el55.Low.length cp68], RE.rd kInt A67 cp68 el55.Low, RE.cells g145 (o146 + (1 : Int).toNat * 3) [.int .i64 el140.W, .int .i64 el140.H, .slice A152 el140.Low.length cp153]] := Sep.also H (re := RE.cells g145 (o146 + (1 : Int).toNat * 3) [.int .i64 el140.W, .int .i64 el140.H, .slice A152 el140.Low.length cp153]) ⟨hg_cs147.1, hg_cs147.2, hat149⟩
              have H : Sep ok w w138 [.blk b19 25 [.int .i64 v5.1.W, .int .i64 v5.1.H, .slice A7 v5.1.Color.length cp8, .slice A10 v5.1.Depth.length cp11, .slice A13 v5.1.Item.length cp14, .slice A16 v5.1.Tri.length cp17], .blk b28 28 [.slice A25 v23.1.Levels.length cp26]] [RE.rd k_Ar4_Int A7 cp8 v5.1.Color, RE.rd kInt A10 cp11 v5.1.Depth, RE.rd kInt A13 cp14 v5.1.Item, RE.rd kInt A16 cp17 v5.1.Tri, RE.rd k_Level A25 cp26 v23.1.Levels, RE.cells g60 (o61 + (0 : Int).toNat * 3) [.int .i64 el55.W, .int .i64 el55.H, .slice A67 el55.Low.length cp68], RE.rd kInt A67 cp68 el55.Low, RE.cells g145 (o146 + (1 : Int).toNat * 3) [.int .i64 el140.W, .int .i64 el140.H, .slice A152 el140.Low.length cp153], RE.rd kInt A152 cp153 el140.Low] := Sep.also H (re := RE.rd kInt A152 cp153 el140.Low) hR155
              refine RL_pure (by exact wn1 rfl rfl rfl rfl) (by rfl) (by rfl) (x_indexAddr sl26 sz54 (by rfl) (by rfl) hA144 h141 h142) ?_
              refine RL_pure (by exact wn1 rfl rfl rfl rfl) (by rfl) (by rfl) (x_fieldAddr fo54_2 (by rfl)) ?_
              refine RL_pure (by exact wn1 rfl rfl rfl rfl) (by rfl) (by rfl) (x_load (j := 2) (v := .slice A152 el140.Low.length cp153) sc23 (by rfl) (H.cellsR (i := 7) (by rfl)) (by rfl)) ?_
              refine RL_pure (by exact wn1 rfl rfl rfl rfl) (by rfl) (by rfl) (x_len sl23 (by rfl)) ?_
              refine RL_pure (by exact wn1 rfl rfl rfl rfl) (by rfl) (by rfl) (x_eql (by rfl) (by rfl)) ?_
              refine RL_pure (by exact wn0 rfl) (by rfl) (by rfl) (x_pick_t (v := .bool ((el140.Low.length : Int) == 2)) (by rfl) (by rfl)) ?_
              refine RL_nil ?_
              exact ⟨⟨congrArg Value.bool (Option.some.inj hm), rfl, rfl, rfl, rfl, rfl, rfl, rfl, trivial⟩, (H.takeL 2).takeR 7⟩
          · rintro r' w' ⟨hA, H⟩
            obtain ⟨r157, rfl⟩ := regen _ hA; clear hA
            obtain ⟨w158, rfl⟩ : ∃ W : World, W = w' := ⟨_, rfl⟩
            show RL _ _ _ _ _ _ _
            refine RL_pure (by exact wn0 rfl) (by rfl) (by rfl) (x_move (v := .bool b139) (by rfl)) ?_
            obtain ⟨b159, hmS, hm⟩ := bind_some hm
            refine RL_cut 9 (fun r' w' => Agr [(102, .bool b159), (3, .pointer (some ⟨b28, 0, none⟩)), (5, .bool v36.1), (6, .int .i64 v36.2), (7, .bool v43.1), (8, .int .i64 v43.2), (10, .int .i64 v50.2), (12, .int .i64 v53.2)] r' ∧ Sep ok w w' [.blk b19 25 [.int .i64 v5.1.W, .int .i64 v5.1.H, .slice A7 v5.1.Color.length cp8, .slice A10 v5.1.Depth.length cp11, .slice A13 v5.1.Item.length cp14, .slice A16 v5.1.Tri.length cp17], .blk b28 28 [.slice A25 v23.1.Levels.length cp26]] [RE.rd k_Ar4_Int A7 cp8 v5.1.Color, RE.rd kInt A10 cp11 v5.1.Depth, RE.rd kInt A13 cp14 v5.1.Item, RE.rd kInt A16 cp17 v5.1.Tri, RE.rd k_Level A25 cp26 v23.1.Levels, RE.cells g60 (o61 + (0 : Int).toNat * 3) [.int .i64 el55.W, .int .i64 el55.H, .slice A67 el55.Low.length cp68], RE.rd kInt A67 cp68 el55.Low]) ?_ ?_
            · cases hbS : b139
              · have hm := cond_f hbS hmS
                refine RL_cons (OpR_off (by exact wn2 rfl rfl rfl rfl) (by rfl) (by rfl) ?_)
                refine RL_cons (OpR_off (by exact wn2 rfl rfl rfl rfl) (by rfl) (by rfl) ?_)
                refine RL_cons (OpR_off (by exact wn2 rfl rfl rfl rfl) (by rfl) (by rfl) ?_)
                refine RL_cons (OpR_off (by exact wn2 rfl rfl rfl rfl) (by rfl) (by rfl) ?_)
                refine RL_cons (OpR_off (by exact wn2 rfl rfl rfl rfl) (by rfl) (by rfl) ?_)
                refine RL_cons (OpR_off (by exact wn2 rfl rfl rfl rfl) (by rfl) (by rfl) ?_)
                refine RL_cons (OpR_off (by exact wn2 rfl rfl rfl rfl) (by rfl) (by rfl) ?_)
                refine RL_cons (OpR_off (by exact wn2 rfl rfl rfl rfl) (by rfl) (by rfl) ?_)
                refine RL_pure (by exact wn0 rfl) (by rfl) (by rfl) (x_pick_f (v := .bool false) (by rfl) (by rfl)) ?_
                refine RL_nil ?_
                exact ⟨⟨congrArg Value.bool (Option.some.inj hm), rfl, rfl, rfl, rfl, rfl, rfl, rfl, trivial⟩, H⟩
              · have hm := cond_t hbS hmS
                refine RL_pure (by exact wn1 rfl rfl rfl rfl) (by rfl) (by rfl) (x_fieldAddr fo28_0 (by rfl)) ?_
                refine RL_pure (by exact wn1 rfl rfl rfl rfl) (by rfl) (by rfl) (x_load (j := 0) (v := .slice A25 v23.1.Levels.length cp26) sc26 (by rfl) (H.cells (i := 1) (by rfl)) (by rfl)) ?_
                obtain ⟨el160, h161, h162, he163, hm⟩ := idx_some hm
                obtain ⟨g165, o166, hA164⟩ := (H.rd (i := 4) (by rfl)).addr he163
                obtain ⟨cs167, hk168, hat169, hg_cs167⟩ := (H.rd (i := 4) (by rfl)).openAt hA164 he163
                obtain ⟨A172, cp173, rfl, hR175⟩ := hk168
                have H : Sep ok w w158 [.blk b19 25 [.int .i64 v5.1.W, .int .i64 v5.1.H, .slice A7 v5.1.Color.length cp8, .slice A10 v5.1.Depth.length cp11, .slice A13 v5.1.Item.length cp14, .slice A16 v5.1.Tri.length cp17], .blk b28 28 [.slice A25 v23.1.Levels.length cp26]] [RE.rd k_Ar4_Int A7 cp8 v5.1.Color, RE.rd kInt A10 cp11 v5.1.Depth, RE.rd kInt A13 cp14 v5.1.Item, RE.rd kInt A16 cp17 v5.1.Tri, RE.rd k_Level A25 cp26 v23.1.Levels, RE.cells g60 (o61 + (0 : Int).toNat * 3) [.int .i64 el55.W, .int .i64 el55.H, .slice A67 el55.Low.length cp68], RE.rd kInt A67 cp68 el55.Low, RE.cells g165 (o166 + (1 : Int).toNat * 3) [.int .i64 el160.W, .int .i64 el160.H, .slice A172 el160.Low.length cp173]] := Sep.also H (re := RE.cells g165 (o166 + (1 : Int).toNat * 3) [.int .i64 el160.W, .int .i64 el160.H, .slice A172 el160.Low.length cp173]) ⟨hg_cs167.1, hg_cs167.2, hat169⟩
                have H : Sep ok w w158 [.blk b19 25 [.int .i64 v5.1.W, .int .i64 v5.1.H, .slice A7 v5.1.Color.length cp8, .slice A10 v5.1.Depth.length cp11, .slice A13 v5.1.Item.length cp14, .slice A16 v5.1.Tri.length cp17], .blk b28 28 [.slice A25 v23.1.Levels.length cp26]] [RE.rd k_Ar4_Int A7 cp8 v5.1.Color, RE.rd kInt A10 cp11 v5.1.Depth, RE.rd kInt A13 cp14 v5.1.Item, RE.rd kInt A16 cp17 v5.1.Tri, RE.rd k_Level A25 cp26 v23.1.Levels, RE.cells g60 (o61 + (0 : Int).toNat * 3) [.int .i64 el55.W, .int .i64 el55.H, .slice A67 el55.Low.length cp68], RE.rd kInt A67 cp68 el55.Low, RE.cells g165 (o166 + (1 : Int).toNat * 3) [.int .i64 el160.W, .int .i64 el160.H, .slice A172 el160.Low.length cp173], RE.rd kInt A172 cp173 el160.Low] := Sep.also H (re := RE.rd kInt A172 cp173 el160.Low) hR175
                refine RL_pure (by exact wn1 rfl rfl rfl rfl) (by rfl) (by rfl) (x_indexAddr sl26 sz54 (by rfl) (by rfl) hA164 h161 h162) ?_
                refine RL_pure (by exact wn1 rfl rfl rfl rfl) (by rfl) (by rfl) (x_fieldAddr fo54_2 (by rfl)) ?_
                refine RL_pure (by exact wn1 rfl rfl rfl rfl) (by rfl) (by rfl) (x_load (j := 2) (v := .slice A172 el160.Low.length cp173) sc23 (by rfl) (H.cellsR (i := 7) (by rfl)) (by rfl)) ?_
                obtain ⟨el177, h178, h179, he180, hm⟩ := idx_some hm
                obtain ⟨g182, o183, hA181⟩ := (H.rd (i := 8) (by rfl)).addr he180
                refine RL_pure (by exact wn1 rfl rfl rfl rfl) (by rfl) (by rfl) (x_indexAddr sl23 sz3 (by rfl) (by rfl) hA181 h178 h179) ?_
                refine RL_pure (by exact wn1 rfl rfl rfl rfl) (by rfl) (by rfl) (x_load (j := 0) (v := .int .i64 el177) sc3 (by rfl) (Rd.flatAt (n := 1) (H.rd (i := 8) (by rfl)) hA181 he180) (by rfl)) ?_
                refine RL_pure (by exact wn1 rfl rfl rfl rfl) (by rfl) (by rfl) (x_eql (by rfl) (by rfl)) ?_
                refine RL_pure (by exact wn0 rfl) (by rfl) (by rfl) (x_pick_t (v := .bool (el177 == (-2048))) (by rfl) (by rfl)) ?_
                refine RL_nil ?_
                exact ⟨⟨congrArg Value.bool (Option.some.inj hm), rfl, rfl, rfl, rfl, rfl, rfl, rfl, trivial⟩, (H.takeL 2).takeR 7⟩
            · rintro r' w' ⟨hA, H⟩
              obtain ⟨r184, rfl⟩ := regen _ hA; clear hA
              obtain ⟨w185, rfl⟩ : ∃ W : World, W = w' := ⟨_, rfl⟩
              show RL _ _ _ _ _ _ _
              refine RL_pure (by exact wn0 rfl) (by rfl) (by rfl) (x_move (v := .bool b159) (by rfl)) ?_
              obtain ⟨b186, hmS, hm⟩ := bind_some hm
              refine RL_cut 8 (fun r' w' => Agr [(111, .bool b186), (3, .pointer (some ⟨b28, 0, none⟩)), (5, .bool v36.1), (6, .int .i64 v36.2), (7, .bool v43.1), (8, .int .i64 v43.2), (10, .int .i64 v50.2), (12, .int .i64 v53.2)] r' ∧ Sep ok w w' [.blk b19 25 [.int .i64 v5.1.W, .int .i64 v5.1.H, .slice A7 v5.1.Color.length cp8, .slice A10 v5.1.Depth.length cp11, .slice A13 v5.1.Item.length cp14, .slice A16 v5.1.Tri.length cp17], .blk b28 28 [.slice A25 v23.1.Levels.length cp26]] [RE.rd k_Ar4_Int A7 cp8 v5.1.Color, RE.rd kInt A10 cp11 v5.1.Depth, RE.rd kInt A13 cp14 v5.1.Item, RE.rd kInt A16 cp17 v5.1.Tri, RE.rd k_Level A25 cp26 v23.1.Levels, RE.cells g60 (o61 + (0 : Int).toNat * 3) [.int .i64 el55.W, .int .i64 el55.H, .slice A67 el55.Low.length cp68], RE.rd kInt A67 cp68 el55.Low]) ?_ ?_
              · cases hbS : b159
                · have hm := cond_f hbS hmS
                  refine RL_cons (OpR_off (by exact wn2 rfl rfl rfl rfl) (by rfl) (by rfl) ?_)
                  refine RL_cons (OpR_off (by exact wn2 rfl rfl rfl rfl) (by rfl) (by rfl) ?_)
                  refine RL_cons (OpR_off (by exact wn2 rfl rfl rfl rfl) (by rfl) (by rfl) ?_)
                  refine RL_cons (OpR_off (by exact wn2 rfl rfl rfl rfl) (by rfl) (by rfl) ?_)
                  refine RL_cons (OpR_off (by exact wn2 rfl rfl rfl rfl) (by rfl) (by rfl) ?_)
                  refine RL_cons (OpR_off (by exact wn2 rfl rfl rfl rfl) (by rfl) (by rfl) ?_)
                  refine RL_cons (OpR_off (by exact wn2 rfl rfl rfl rfl) (by rfl) (by rfl) ?_)
                  refine RL_pure (by exact wn0 rfl) (by rfl) (by rfl) (x_pick_f (v := .bool false) (by rfl) (by rfl)) ?_
                  refine RL_nil ?_
                  exact ⟨⟨congrArg Value.bool (Option.some.inj hm), rfl, rfl, rfl, rfl, rfl, rfl, rfl, trivial⟩, H⟩
                · have hm := cond_t hbS hmS
                  refine RL_pure (by exact wn1 rfl rfl rfl rfl) (by rfl) (by rfl) (x_fieldAddr fo28_0 (by rfl)) ?_
                  refine RL_pure (by exact wn1 rfl rfl rfl rfl) (by rfl) (by rfl) (x_load (j := 0) (v := .slice A25 v23.1.Levels.length cp26) sc26 (by rfl) (H.cells (i := 1) (by rfl)) (by rfl)) ?_
                  obtain ⟨el187, h188, h189, he190, hm⟩ := idx_some hm
                  obtain ⟨g192, o193, hA191⟩ := (H.rd (i := 4) (by rfl)).addr he190
                  obtain ⟨cs194, hk195, hat196, hg_cs194⟩ := (H.rd (i := 4) (by rfl)).openAt hA191 he190
                  obtain ⟨A199, cp200, rfl, hR202⟩ := hk195
                  have H : Sep ok w w185 [.blk b19 25 [.int .i64 v5.1.W, .int .i64 v5.1.H, .slice A7 v5.1.Color.length cp8, .slice A10 v5.1.Depth.length cp11, .slice A13 v5.1.Item.length cp14, .slice A16 v5.1.Tri.length cp17], .blk b28 28 [.slice A25 v23.1.Levels.length cp26]] [RE.rd k_Ar4_Int A7 cp8 v5.1.Color, RE.rd kInt A10 cp11 v5.1.Depth, RE.rd kInt A13 cp14 v5.1.Item, RE.rd kInt A16 cp17 v5.1.Tri, RE.rd k_Level A25 cp26 v23.1.Levels, RE.cells g60 (o61 + (0 : Int).toNat * 3) [.int .i64 el55.W, .int .i64 el55.H, .slice A67 el55.Low.length cp68], RE.rd kInt A67 cp68 el55.Low, RE.cells g192 (o193 + (2 : Int).toNat * 3) [.int .i64 el187.W, .int .i64 el187.H, .slice A199 el187.Low.length cp200]] := Sep.also H (re := RE.cells g192 (o193 + (2 : Int).toNat * 3) [.int .i64 el187.W, .int .i64 el187.H, .slice A199 el187.Low.length cp200]) ⟨hg_cs194.1, hg_cs194.2, hat196⟩
                  have H : Sep ok w w185 [.blk b19 25 [.int .i64 v5.1.W, .int .i64 v5.1.H, .slice A7 v5.1.Color.length cp8, .slice A10 v5.1.Depth.length cp11, .slice A13 v5.1.Item.length cp14, .slice A16 v5.1.Tri.length cp17], .blk b28 28 [.slice A25 v23.1.Levels.length cp26]] [RE.rd k_Ar4_Int A7 cp8 v5.1.Color, RE.rd kInt A10 cp11 v5.1.Depth, RE.rd kInt A13 cp14 v5.1.Item, RE.rd kInt A16 cp17 v5.1.Tri, RE.rd k_Level A25 cp26 v23.1.Levels, RE.cells g60 (o61 + (0 : Int).toNat * 3) [.int .i64 el55.W, .int .i64 el55.H, .slice A67 el55.Low.length cp68], RE.rd kInt A67 cp68 el55.Low, RE.cells g192 (o193 + (2 : Int).toNat * 3) [.int .i64 el187.W, .int .i64 el187.H, .slice A199 el187.Low.length cp200], RE.rd kInt A199 cp200 el187.Low] := Sep.also H (re := RE.rd kInt A199 cp200 el187.Low) hR202
                  refine RL_pure (by exact wn1 rfl rfl rfl rfl) (by rfl) (by rfl) (x_indexAddr sl26 sz54 (by rfl) (by rfl) hA191 h188 h189) ?_
                  refine RL_pure (by exact wn1 rfl rfl rfl rfl) (by rfl) (by rfl) (x_fieldAddr fo54_2 (by rfl)) ?_
                  refine RL_pure (by exact wn1 rfl rfl rfl rfl) (by rfl) (by rfl) (x_load (j := 2) (v := .slice A199 el187.Low.length cp200) sc23 (by rfl) (H.cellsR (i := 7) (by rfl)) (by rfl)) ?_
                  refine RL_pure (by exact wn1 rfl rfl rfl rfl) (by rfl) (by rfl) (x_len sl23 (by rfl)) ?_
                  refine RL_pure (by exact wn1 rfl rfl rfl rfl) (by rfl) (by rfl) (x_eql (by rfl) (by rfl)) ?_
                  refine RL_pure (by exact wn0 rfl) (by rfl) (by rfl) (x_pick_t (v := .bool ((el187.Low.length : Int) == 1)) (by rfl) (by rfl)) ?_
                  refine RL_nil ?_
                  exact ⟨⟨congrArg Value.bool (Option.some.inj hm), rfl, rfl, rfl, rfl, rfl, rfl, rfl, trivial⟩, (H.takeL 2).takeR 7⟩
              · rintro r' w' ⟨hA, H⟩
                obtain ⟨r204, rfl⟩ := regen _ hA; clear hA
                obtain ⟨w205, rfl⟩ : ∃ W : World, W = w' := ⟨_, rfl⟩
                show RL _ _ _ _ _ _ _
                refine RL_pure (by exact wn0 rfl) (by rfl) (by rfl) (x_assign (v := .bool b186) (by rfl)) ?_
                refine RL_nil ?_
                refine W_seq ?_
                refine W_region ?_
                refine RL_pure (by exact wn0 rfl) (by rfl) (by rfl) (x_move (v := .bool true) (by rfl)) ?_
                refine RL_pure (by exact wn1 rfl rfl rfl rfl) (by rfl) (by rfl) (x_move (v := .bool b186) (by rfl)) ?_
                refine RL_pure (by exact wn0 rfl) (by rfl) (by rfl) (x_pick_t (v := .bool b186) (by rfl) (by rfl)) ?_
                refine RL_pure (by exact wn0 rfl) (by rfl) (by rfl) (x_move (v := .bool b186) (by rfl)) ?_
                obtain ⟨b206, hmS, hm⟩ := bind_some hm
                refine RL_cut 2 (fun r' w' => Agr [(117, .bool b206), (3, .pointer (some ⟨b28, 0, none⟩)), (6, .int .i64 v36.2), (7, .bool v43.1), (8, .int .i64 v43.2), (10, .int .i64 v50.2), (12, .int .i64 v53.2)] r' ∧ Sep ok w w' [.blk b19 25 [.int .i64 v5.1.W, .int .i64 v5.1.H, .slice A7 v5.1.Color.length cp8, .slice A10 v5.1.Depth.length cp11, .slice A13 v5.1.Item.length cp14, .slice A16 v5.1.Tri.length cp17], .blk b28 28 [.slice A25 v23.1.Levels.length cp26]] [RE.rd k_Ar4_Int A7 cp8 v5.1.Color, RE.rd kInt A10 cp11 v5.1.Depth, RE.rd kInt A13 cp14 v5.1.Item, RE.rd kInt A16 cp17 v5.1.Tri, RE.rd k_Level A25 cp26 v23.1.Levels, RE.cells g60 (o61 + (0 : Int).toNat * 3) [.int .i64 el55.W, .int .i64 el55.H, .slice A67 el55.Low.length cp68], RE.rd kInt A67 cp68 el55.Low]) ?_ ?_
                · cases hbS : b186
                  · have hm := cond_f hbS hmS
                    refine RL_cons (OpR_off (by exact wn2 rfl rfl rfl rfl) (by rfl) (by rfl) ?_)
                    refine RL_pure (by exact wn0 rfl) (by rfl) (by rfl) (x_pick_f (v := .bool false) (by rfl) (by rfl)) ?_
                    refine RL_nil ?_
                    exact ⟨⟨congrArg Value.bool (Option.some.inj hm), rfl, rfl, rfl, rfl, rfl, rfl, trivial⟩, H⟩
                  · have hm := cond_t hbS hmS
                    refine RL_pure (by exact wn1 rfl rfl rfl rfl) (by rfl) (by rfl) (x_move (v := .bool v36.1) (by rfl)) ?_
                    refine RL_pure (by exact wn0 rfl) (by rfl) (by rfl) (x_pick_t (v := .bool v36.1) (by rfl) (by rfl)) ?_
                    refine RL_nil ?_
                    exact ⟨⟨congrArg Value.bool (Option.some.inj hm), rfl, rfl, rfl, rfl, rfl, rfl, trivial⟩, H⟩
                · rintro r' w' ⟨hA, H⟩
                  obtain ⟨r207, rfl⟩ := regen _ hA; clear hA
                  obtain ⟨w208, rfl⟩ : ∃ W : World, W = w' := ⟨_, rfl⟩
                  show RL _ _ _ _ _ _ _
                  refine RL_pure (by exact wn0 rfl) (by rfl) (by rfl) (x_move (v := .bool b206) (by rfl)) ?_
                  obtain ⟨b209, hmS, hm⟩ := bind_some hm
                  refine RL_cut 3 (fun r' w' => Agr [(121, .bool b209), (3, .pointer (some ⟨b28, 0, none⟩)), (7, .bool v43.1), (8, .int .i64 v43.2), (10, .int .i64 v50.2), (12, .int .i64 v53.2)] r' ∧ Sep ok w w' [.blk b19 25 [.int .i64 v5.1.W, .int .i64 v5.1.H, .slice A7 v5.1.Color.length cp8, .slice A10 v5.1.Depth.length cp11, .slice A13 v5.1.Item.length cp14, .slice A16 v5.1.Tri.length cp17], .blk b28 28 [.slice A25 v23.1.Levels.length cp26]] [RE.rd k_Ar4_Int A7 cp8 v5.1.Color, RE.rd kInt A10 cp11 v5.1.Depth, RE.rd kInt A13 cp14 v5.1.Item, RE.rd kInt A16 cp17 v5.1.Tri, RE.rd k_Level A25 cp26 v23.1.Levels, RE.cells g60 (o61 + (0 : Int).toNat * 3) [.int .i64 el55.W, .int .i64 el55.H, .slice A67 el55.Low.length cp68], RE.rd kInt A67 cp68 el55.Low]) ?_ ?_
                  · cases hbS : b206
                    · have hm := cond_f hbS hmS
                      refine RL_cons (OpR_off (by exact wn2 rfl rfl rfl rfl) (by rfl) (by rfl) ?_)
                      refine RL_cons (OpR_off (by exact wn2 rfl rfl rfl rfl) (by rfl) (by rfl) ?_)
                      refine RL_pure (by exact wn0 rfl) (by rfl) (by rfl) (x_pick_f (v := .bool false) (by rfl) (by rfl)) ?_
                      refine RL_nil ?_
                      exact ⟨⟨congrArg Value.bool (Option.some.inj hm), rfl, rfl, rfl, rfl, rfl, trivial⟩, H⟩
                    · have hm := cond_t hbS hmS
                      refine RL_pure (by exact wn1 rfl rfl rfl rfl) (by rfl) (by rfl) (x_move (v := .int .i64 v36.2) (by rfl)) ?_
                      refine RL_pure (by exact wn1 rfl rfl rfl rfl) (by rfl) (by rfl) (x_eql (by rfl) (by rfl)) ?_
                      refine RL_pure (by exact wn0 rfl) (by rfl) (by rfl) (x_pick_t (v := .bool (v36.2 == 0)) (by rfl) (by rfl)) ?_
                      refine RL_nil ?_
                      exact ⟨⟨congrArg Value.bool (Option.some.inj hm), rfl, rfl, rfl, rfl, rfl, trivial⟩, H⟩
                  · rintro r' w' ⟨hA, H⟩
                    obtain ⟨r210, rfl⟩ := regen _ hA; clear hA
                    obtain ⟨w211, rfl⟩ : ∃ W : World, W = w' := ⟨_, rfl⟩
                    show RL _ _ _ _ _ _ _
                    refine RL_pure (by exact wn0 rfl) (by rfl) (by rfl) (x_move (v := .bool b209) (by rfl)) ?_
                    obtain ⟨b212, hmS, hm⟩ := bind_some hm
                    refine RL_cut 3 (fun r' w' => Agr [(125, .bool b212), (3, .pointer (some ⟨b28, 0, none⟩)), (8, .int .i64 v43.2), (10, .int .i64 v50.2), (12, .int .i64 v53.2)] r' ∧ Sep ok w w' [.blk b19 25 [.int .i64 v5.1.W, .int .i64 v5.1.H, .slice A7 v5.1.Color.length cp8, .slice A10 v5.1.Depth.length cp11, .slice A13 v5.1.Item.length cp14, .slice A16 v5.1.Tri.length cp17], .blk b28 28 [.slice A25 v23.1.Levels.length cp26]] [RE.rd k_Ar4_Int A7 cp8 v5.1.Color, RE.rd kInt A10 cp11 v5.1.Depth, RE.rd kInt A13 cp14 v5.1.Item, RE.rd kInt A16 cp17 v5.1.Tri, RE.rd k_Level A25 cp26 v23.1.Levels, RE.cells g60 (o61 + (0 : Int).toNat * 3) [.int .i64 el55.W, .int .i64 el55.H, .slice A67 el55.Low.length cp68], RE.rd kInt A67 cp68 el55.Low]) ?_ ?_
                    · cases hbS : b209
                      · have hm := cond_f hbS hmS
                        refine RL_cons (OpR_off (by exact wn2 rfl rfl rfl rfl) (by rfl) (by rfl) ?_)
                        refine RL_cons (OpR_off (by exact wn2 rfl rfl rfl rfl) (by rfl) (by rfl) ?_)
                        refine RL_pure (by exact wn0 rfl) (by rfl) (by rfl) (x_pick_f (v := .bool false) (by rfl) (by rfl)) ?_
                        refine RL_nil ?_
                        exact ⟨⟨congrArg Value.bool (Option.some.inj hm), rfl, rfl, rfl, rfl, trivial⟩, H⟩
                      · have hm := cond_t hbS hmS
                        refine RL_pure (by exact wn1 rfl rfl rfl rfl) (by rfl) (by rfl) (x_move (v := .bool v43.1) (by rfl)) ?_
                        refine RL_pure (by exact wn1 rfl rfl rfl rfl) (by rfl) (by rfl) (x_not (by rfl)) ?_
                        refine RL_pure (by exact wn0 rfl) (by rfl) (by rfl) (x_pick_t (v := .bool (!v43.1)) (by rfl) (by rfl)) ?_
                        refine RL_nil ?_
                        exact ⟨⟨congrArg Value.bool (Option.some.inj hm), rfl, rfl, rfl, rfl, trivial⟩, H⟩
                    · rintro r' w' ⟨hA, H⟩
                      obtain ⟨r213, rfl⟩ := regen _ hA; clear hA
                      obtain ⟨w214, rfl⟩ : ∃ W : World, W = w' := ⟨_, rfl⟩
                      show RL _ _ _ _ _ _ _
                      refine RL_pure (by exact wn0 rfl) (by rfl) (by rfl) (x_move (v := .bool b212) (by rfl)) ?_
                      obtain ⟨b215, hmS, hm⟩ := bind_some hm
                      refine RL_cut 3 (fun r' w' => Agr [(129, .bool b215), (3, .pointer (some ⟨b28, 0, none⟩)), (10, .int .i64 v50.2), (12, .int .i64 v53.2)] r' ∧ Sep ok w w' [.blk b19 25 [.int .i64 v5.1.W, .int .i64 v5.1.H, .slice A7 v5.1.Color.length cp8, .slice A10 v5.1.Depth.length cp11, .slice A13 v5.1.Item.length cp14, .slice A16 v5.1.Tri.length cp17], .blk b28 28 [.slice A25 v23.1.Levels.length cp26]] [RE.rd k_Ar4_Int A7 cp8 v5.1.Color, RE.rd kInt A10 cp11 v5.1.Depth, RE.rd kInt A13 cp14 v5.1.Item, RE.rd kInt A16 cp17 v5.1.Tri, RE.rd k_Level A25 cp26 v23.1.Levels, RE.cells g60 (o61 + (0 : Int).toNat * 3) [.int .i64 el55.W, .int .i64 el55.H, .slice A67 el55.Low.length cp68], RE.rd kInt A67 cp68 el55.Low]) ?_ ?_
                      · cases hbS : b212
                        · have hm := cond_f hbS hmS
                          refine RL_cons (OpR_off (by exact wn2 rfl rfl rfl rfl) (by rfl) (by rfl) ?_)
                          refine RL_cons (OpR_off (by exact wn2 rfl rfl rfl rfl) (by rfl) (by rfl) ?_)
                          refine RL_pure (by exact wn0 rfl) (by rfl) (by rfl) (x_pick_f (v := .bool false) (by rfl) (by rfl)) ?_
                          refine RL_nil ?_
                          exact ⟨⟨congrArg Value.bool (Option.some.inj hm), rfl, rfl, rfl, trivial⟩, H⟩
                        · have hm := cond_t hbS hmS
                          refine RL_pure (by exact wn1 rfl rfl rfl rfl) (by rfl) (by rfl) (x_move (v := .int .i64 v43.2) (by rfl)) ?_
                          refine RL_pure (by exact wn1 rfl rfl rfl rfl) (by rfl) (by rfl) (x_eql (by rfl) (by rfl)) ?_
                          refine RL_pure (by exact wn0 rfl) (by rfl) (by rfl) (x_pick_t (v := .bool (v43.2 == 0)) (by rfl) (by rfl)) ?_
                          refine RL_nil ?_
                          exact ⟨⟨congrArg Value.bool (Option.some.inj hm), rfl, rfl, rfl, trivial⟩, H⟩
                      · rintro r' w' ⟨hA, H⟩
                        obtain ⟨r216, rfl⟩ := regen _ hA; clear hA
                        obtain ⟨w217, rfl⟩ : ∃ W : World, W = w' := ⟨_, rfl⟩
                        show RL _ _ _ _ _ _ _
                        refine RL_pure (by exact wn0 rfl) (by rfl) (by rfl) (x_move (v := .bool b215) (by rfl)) ?_
                        obtain ⟨b218, hmS, hm⟩ := bind_some hm
                        refine RL_cut 3 (fun r' w' => Agr [(133, .bool b218), (3, .pointer (some ⟨b28, 0, none⟩)), (12, .int .i64 v53.2)] r' ∧ Sep ok w w' [.blk b19 25 [.int .i64 v5.1.W, .int .i64 v5.1.H, .slice A7 v5.1.Color.length cp8, .slice A10 v5.1.Depth.length cp11, .slice A13 v5.1.Item.length cp14, .slice A16 v5.1.Tri.length cp17], .blk b28 28 [.slice A25 v23.1.Levels.length cp26]] [RE.rd k_Ar4_Int A7 cp8 v5.1.Color, RE.rd kInt A10 cp11 v5.1.Depth, RE.rd kInt A13 cp14 v5.1.Item, RE.rd kInt A16 cp17 v5.1.Tri, RE.rd k_Level A25 cp26 v23.1.Levels, RE.cells g60 (o61 + (0 : Int).toNat * 3) [.int .i64 el55.W, .int .i64 el55.H, .slice A67 el55.Low.length cp68], RE.rd kInt A67 cp68 el55.Low]) ?_ ?_
                        · cases hbS : b215
                          · have hm := cond_f hbS hmS
                            refine RL_cons (OpR_off (by exact wn2 rfl rfl rfl rfl) (by rfl) (by rfl) ?_)
                            refine RL_cons (OpR_off (by exact wn2 rfl rfl rfl rfl) (by rfl) (by rfl) ?_)
                            refine RL_pure (by exact wn0 rfl) (by rfl) (by rfl) (x_pick_f (v := .bool false) (by rfl) (by rfl)) ?_
                            refine RL_nil ?_
                            exact ⟨⟨congrArg Value.bool (Option.some.inj hm), rfl, rfl, trivial⟩, H⟩
                          · have hm := cond_t hbS hmS
                            refine RL_pure (by exact wn1 rfl rfl rfl rfl) (by rfl) (by rfl) (x_move (v := .int .i64 v50.2) (by rfl)) ?_
                            refine RL_pure (by exact wn1 rfl rfl rfl rfl) (by rfl) (by rfl) (x_eql (by rfl) (by rfl)) ?_
                            refine RL_pure (by exact wn0 rfl) (by rfl) (by rfl) (x_pick_t (v := .bool (v50.2 == 2)) (by rfl) (by rfl)) ?_
                            refine RL_nil ?_
                            exact ⟨⟨congrArg Value.bool (Option.some.inj hm), rfl, rfl, trivial⟩, H⟩
                        · rintro r' w' ⟨hA, H⟩
                          obtain ⟨r219, rfl⟩ := regen _ hA; clear hA
                          obtain ⟨w220, rfl⟩ : ∃ W : World, W = w' := ⟨_, rfl⟩
                          show RL _ _ _ _ _ _ _
                          refine RL_pure (by exact wn0 rfl) (by rfl) (by rfl) (x_move (v := .bool b218) (by rfl)) ?_
                          obtain ⟨b221, hmS, hm⟩ := bind_some hm
                          refine RL_cut 4 (fun r' w' => Agr [(138, .bool b221), (3, .pointer (some ⟨b28, 0, none⟩)), (12, .int .i64 v53.2)] r' ∧ Sep ok w w' [.blk b19 25 [.int .i64 v5.1.W, .int .i64 v5.1.H, .slice A7 v5.1.Color.length cp8, .slice A10 v5.1.Depth.length cp11, .slice A13 v5.1.Item.length cp14, .slice A16 v5.1.Tri.length cp17], .blk b28 28 [.slice A25 v23.1.Levels.length cp26]] [RE.rd k_Ar4_Int A7 cp8 v5.1.Color, RE.rd kInt A10 cp11 v5.1.Depth, RE.rd kInt A13 cp14 v5.1.Item, RE.rd kInt A16 cp17 v5.1.Tri, RE.rd k_Level A25 cp26 v23.1.Levels, RE.cells g60 (o61 + (0 : Int).toNat * 3) [.int .i64 el55.W, .int .i64 el55.H, .slice A67 el55.Low.length cp68], RE.rd kInt A67 cp68 el55.Low]) ?_ ?_
                          · cases hbS : b218
                            · have hm := cond_f hbS hmS
                              refine RL_cons (OpR_off (by exact wn2 rfl rfl rfl rfl) (by rfl) (by rfl) ?_)
                              refine RL_cons (OpR_off (by exact wn2 rfl rfl rfl rfl) (by rfl) (by rfl) ?_)
                              refine RL_cons (OpR_off (by exact wn2 rfl rfl rfl rfl) (by rfl) (by rfl) ?_)
                              refine RL_pure (by exact wn0 rfl) (by rfl) (by rfl) (x_pick_f (v := .bool false) (by rfl) (by rfl)) ?_
                              refine RL_nil ?_
                              exact ⟨⟨congrArg Value.bool (Option.some.inj hm), rfl, rfl, trivial⟩, H⟩
                            · have hm := cond_t hbS hmS
                              refine RL_pure (by exact wn1 rfl rfl rfl rfl) (by rfl) (by rfl) (x_build (vs := []) (cs := [.slice none 0 0]) (by rfl) (by kernel_rfl)) ?_
                              obtain ⟨v223, hv222, hm⟩ := bind_some hm
                              refine RL_cons (O_call (by exact wn1 rfl rfl rfl rfl) (by rfl) (by rfl) (x_callL (by rfl) (args := [.agg #[.slice none 0 0]]) (by rfl) (cf22 _ _)) (c22 (fun _ => True) K w220 (⟨[]⟩ : S_Pyramid) none 0 (Rd.nil (by decide)) v223 hv222) ?_)
                              rintro e w224 ⟨rfl, H2⟩
                              have H : Sep ok w w224 [.blk b19 25 [.int .i64 v5.1.W, .int .i64 v5.1.H, .slice A7 v5.1.Color.length cp8, .slice A10 v5.1.Depth.length cp11, .slice A13 v5.1.Item.length cp14, .slice A16 v5.1.Tri.length cp17], .blk b28 28 [.slice A25 v23.1.Levels.length cp26]] [RE.rd k_Ar4_Int A7 cp8 v5.1.Color, RE.rd kInt A10 cp11 v5.1.Depth, RE.rd kInt A13 cp14 v5.1.Item, RE.rd kInt A16 cp17 v5.1.Tri, RE.rd k_Level A25 cp26 v23.1.Levels, RE.cells g60 (o61 + (0 : Int).toNat * 3) [.int .i64 el55.W, .int .i64 el55.H, .slice A67 el55.Low.length cp68], RE.rd kInt A67 cp68 el55.Low] := H.below H2.base
                              clear H2
                              refine ⟨_, rfl, ?_⟩
                              show RL _ _ _ _ _ _ _
                              refine RL_pure (by exact wn1 rfl rfl rfl rfl) (by rfl) (by rfl) (x_eql (by rfl) (by rfl)) ?_
                              refine RL_pure (by exact wn0 rfl) (by rfl) (by rfl) (x_pick_t (v := .bool (v223 == 8)) (by rfl) (by rfl)) ?_
                              refine RL_nil ?_
                              exact ⟨⟨congrArg Value.bool (Option.some.inj hm), rfl, rfl, trivial⟩, H⟩
                          · rintro r' w' ⟨hA, H⟩
                            obtain ⟨r225, rfl⟩ := regen _ hA; clear hA
                            obtain ⟨w226, rfl⟩ : ∃ W : World, W = w' := ⟨_, rfl⟩
                            show RL _ _ _ _ _ _ _
                            refine RL_pure (by exact wn0 rfl) (by rfl) (by rfl) (x_move (v := .bool b221) (by rfl)) ?_
                            obtain ⟨b227, hmS, hm⟩ := bind_some hm
                            refine RL_cut 3 (fun r' w' => Agr [(142, .bool b227), (3, .pointer (some ⟨b28, 0, none⟩))] r' ∧ Sep ok w w' [.blk b19 25 [.int .i64 v5.1.W, .int .i64 v5.1.H, .slice A7 v5.1.Color.length cp8, .slice A10 v5.1.Depth.length cp11, .slice A13 v5.1.Item.length cp14, .slice A16 v5.1.Tri.length cp17], .blk b28 28 [.slice A25 v23.1.Levels.length cp26]] [RE.rd k_Ar4_Int A7 cp8 v5.1.Color, RE.rd kInt A10 cp11 v5.1.Depth, RE.rd kInt A13 cp14 v5.1.Item, RE.rd kInt A16 cp17 v5.1.Tri, RE.rd k_Level A25 cp26 v23.1.Levels, RE.cells g60 (o61 + (0 : Int).toNat * 3) [.int .i64 el55.W, .int .i64 el55.H, .slice A67 el55.Low.length cp68], RE.rd kInt A67 cp68 el55.Low]) ?_ ?_
                            · cases hbS : b221
                              · have hm := cond_f hbS hmS
                                refine RL_cons (OpR_off (by exact wn2 rfl rfl rfl rfl) (by rfl) (by rfl) ?_)
                                refine RL_cons (OpR_off (by exact wn2 rfl rfl rfl rfl) (by rfl) (by rfl) ?_)
                                refine RL_pure (by exact wn0 rfl) (by rfl) (by rfl) (x_pick_f (v := .bool false) (by rfl) (by rfl)) ?_
                                refine RL_nil ?_
                                exact ⟨⟨congrArg Value.bool (Option.some.inj hm), rfl, trivial⟩, H⟩
                              · have hm := cond_t hbS hmS
                                refine RL_pure (by exact wn1 rfl rfl rfl rfl) (by rfl) (by rfl) (x_move (v := .int .i64 v53.2) (by rfl)) ?_
                                refine RL_pure (by exact wn1 rfl rfl rfl rfl) (by rfl) (by rfl) (x_eql (by rfl) (by rfl)) ?_
                                refine RL_pure (by exact wn0 rfl) (by rfl) (by rfl) (x_pick_t (v := .bool (v53.2 == 2)) (by rfl) (by rfl)) ?_
                                refine RL_nil ?_
                                exact ⟨⟨congrArg Value.bool (Option.some.inj hm), rfl, trivial⟩, H⟩
                            · rintro r' w' ⟨hA, H⟩
                              obtain ⟨r228, rfl⟩ := regen _ hA; clear hA
                              obtain ⟨w229, rfl⟩ : ∃ W : World, W = w' := ⟨_, rfl⟩
                              show RL _ _ _ _ _ _ _
                              refine RL_pure (by exact wn0 rfl) (by rfl) (by rfl) (x_move (v := .bool b227) (by rfl)) ?_
                              obtain ⟨b230, hmS, hm⟩ := bind_some hm
                              refine RL_cut 4 (fun r' w' => Agr [(147, .bool b230)] r' ∧ Sep ok w w' [.blk b19 25 [.int .i64 v5.1.W, .int .i64 v5.1.H, .slice A7 v5.1.Color.length cp8, .slice A10 v5.1.Depth.length cp11, .slice A13 v5.1.Item.length cp14, .slice A16 v5.1.Tri.length cp17], .blk b28 28 [.slice A25 v23.1.Levels.length cp26]] [RE.rd k_Ar4_Int A7 cp8 v5.1.Color, RE.rd kInt A10 cp11 v5.1.Depth, RE.rd kInt A13 cp14 v5.1.Item, RE.rd kInt A16 cp17 v5.1.Tri, RE.rd k_Level A25 cp26 v23.1.Levels, RE.cells g60 (o61 + (0 : Int).toNat * 3) [.int .i64 el55.W, .int .i64 el55.H, .slice A67 el55.Low.length cp68], RE.rd kInt A67 cp68 el55.Low]) ?_ ?_
                              · cases hbS : b227
                                · have hm := cond_f hbS hmS
                                  refine RL_cons (OpR_off (by exact wn2 rfl rfl rfl rfl) (by rfl) (by rfl) ?_)
                                  refine RL_cons (OpR_off (by exact wn2 rfl rfl rfl rfl) (by rfl) (by rfl) ?_)
                                  refine RL_cons (OpR_off (by exact wn2 rfl rfl rfl rfl) (by rfl) (by rfl) ?_)
                                  refine RL_pure (by exact wn0 rfl) (by rfl) (by rfl) (x_pick_f (v := .bool false) (by rfl) (by rfl)) ?_
                                  refine RL_nil ?_
                                  exact ⟨⟨congrArg Value.bool (Option.some.inj hm), trivial⟩, H⟩
                                · have hm := cond_t hbS hmS
                                  refine RL_pure (by exact wn1 rfl rfl rfl rfl) (by rfl) (by rfl) (x_loadA (j := 0) (vs := [.slice A25 v23.1.Levels.length cp26]) ag28 (by rfl) (H.cells (i := 1) (by rfl)) (by rfl) (by rfl)) ?_
                                  obtain ⟨v232, hv231, hm⟩ := bind_some hm
                                  refine RL_cons (O_call (by exact wn1 rfl rfl rfl rfl) (by rfl) (by rfl) (x_callL (by rfl) (args := [.agg #[.slice A25 v23.1.Levels.length cp26]]) (by rfl) (cf22 _ _)) (c22 (fun _ => True) K w229 v23.1 A25 cp26 (H.rd (i := 4) (by rfl)).any v232 hv231) ?_)
                                  rintro e w233 ⟨rfl, H2⟩
                                  have H : Sep ok w w233 [.blk b19 25 [.int .i64 v5.1.W, .int .i64 v5.1.H, .slice A7 v5.1.Color.length cp8, .slice A10 v5.1.Depth.length cp11, .slice A13 v5.1.Item.length cp14, .slice A16 v5.1.Tri.length cp17], .blk b28 28 [.slice A25 v23.1.Levels.length cp26]] [RE.rd k_Ar4_Int A7 cp8 v5.1.Color, RE.rd kInt A10 cp11 v5.1.Depth, RE.rd kInt A13 cp14 v5.1.Item, RE.rd kInt A16 cp17 v5.1.Tri, RE.rd k_Level A25 cp26 v23.1.Levels, RE.cells g60 (o61 + (0 : Int).toNat * 3) [.int .i64 el55.W, .int .i64 el55.H, .slice A67 el55.Low.length cp68], RE.rd kInt A67 cp68 el55.Low] := H.below H2.base
                                  clear H2
                                  refine ⟨_, rfl, ?_⟩
                                  show RL _ _ _ _ _ _ _
                                  refine RL_pure (by exact wn1 rfl rfl rfl rfl) (by rfl) (by rfl) (x_eql (by rfl) (by rfl)) ?_
                                  refine RL_pure (by exact wn0 rfl) (by rfl) (by rfl) (x_pick_t (v := .bool (v232 == 0)) (by rfl) (by rfl)) ?_
                                  refine RL_nil ?_
                                  exact ⟨⟨congrArg Value.bool (Option.some.inj hm), trivial⟩, H⟩
                              · rintro r' w' ⟨hA, H⟩
                                obtain ⟨r234, rfl⟩ := regen _ hA; clear hA
                                obtain ⟨w235, rfl⟩ : ∃ W : World, W = w' := ⟨_, rfl⟩
                                show RL _ _ _ _ _ _ _
                                refine RL_pure (by exact wn0 rfl) (by rfl) (by rfl) (x_assign (v := .bool b230) (by rfl)) ?_
                                refine RL_nil ?_
                                refine W_ret ?_
                                obtain rfl := Option.some.inj hm
                                exact ⟨[.bool b230], (.tmp (by rfl) rfl), rfl, H.none_⟩
end Go.Proofs.YtobkigllalbkiaaV.M
