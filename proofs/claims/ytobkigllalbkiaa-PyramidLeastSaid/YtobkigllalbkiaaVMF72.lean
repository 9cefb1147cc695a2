/- A plain Lean function that answers as the Go function does (none: not told), and the proof that a call answers so. Written by program. -/
import Derived.Test.YtobkigllalbkiaaVMTy
import Derived.Test.YtobkigllalbkiaaVMF114
set_option linter.unusedVariables false
namespace Go.Proofs.YtobkigllalbkiaaV.M
open Go.RowKit Go.Proofs.YtobkigllalbkiaaV
/-- diorama/shade.Over -/
def m72 (K : Nat) (a0 : (Ar4 Int)) (a1 : (Ar4 Int)) : Option ((Ar4 Int)) :=
  (ck a0.a3 fun x7 => ((m114 K a0.a0 a1.a0 x7).bind fun v13 => ((m114 K a0.a1 a1.a1 x7).bind fun v18 => ((m114 K a0.a2 a1.a2 x7).bind fun v23 => ((m114 K 255 a1.a3 x7).bind fun v27 => some (⟨v13, v18, v23, v27⟩ : (Ar4 Int)))))))
set_option maxRecDepth 100000 in
set_option maxHeartbeats 4000000 in
theorem c72 (ok : Nat → Prop) (K : Nat) (w : World) (a0 : (Ar4 Int)) (a1 : (Ar4 Int))  (res : (Ar4 Int)) (hm : m72 K a0 a1 = some res) :
    Calls Try.prog 72 #[.agg #[.int .u8 a0.a0, .int .u8 a0.a1, .int .u8 a0.a2, .int .u8 a0.a3], .agg #[.int .u8 a1.a0, .int .u8 a1.a1, .int .u8 a1.a2, .int .u8 a1.a3]] w (fun e w' => e = .returned (tup [.agg #[.int .u8 res.a0, .int .u8 res.a1, .int .u8 res.a2, .int .u8 res.a3]]) ∧ Sep ok w w' [] []) := by
  refine calls_W (args := [.agg #[.int .u8 a0.a0, .int .u8 a0.a1, .int .u8 a0.a2, .int .u8 a0.a3], .agg #[.int .u8 a1.a0, .int .u8 a1.a1, .int .u8 a1.a2, .int .u8 a1.a3]]) Try.func72 rfl Try.ntmps72 Try.results72 rfl fun r hr => ?_
  obtain ⟨r1, rfl⟩ := regen (r := r) [(0, .agg #[.int .u8 a0.a0, .int .u8 a0.a1, .int .u8 a0.a2, .int .u8 a0.a3]), (1, .agg #[.int .u8 a1.a0, .int .u8 a1.a1, .int .u8 a1.a2, .int .u8 a1.a3])] ⟨hr 0 _ rfl, hr 1 _ rfl, trivial⟩
  have H : Sep ok w w [] [] := Sep.start ok w
  unfold m72 at hm
  refine W_seq ?_
  refine W_region ?_
  refine RL_cons (O_box (by exact wn0 rfl) (by rfl) (by rfl) (by rfl) H (fun w2 b1 (H : Sep ok w w2 [.blk b1 61 [.int .u8 a0.a0, .int .u8 a0.a1, .int .u8 a0.a2, .int .u8 a0.a3]] []) => ?_))
  refine RL_cons (O_box (by exact wn0 rfl) (by rfl) (by rfl) (by rfl) H (fun w4 b3 (H : Sep ok w w4 [.blk b1 61 [.int .u8 a0.a0, .int .u8 a0.a1, .int .u8 a0.a2, .int .u8 a0.a3], .blk b3 61 [.int .u8 a1.a0, .int .u8 a1.a1, .int .u8 a1.a2, .int .u8 a1.a3]] []) => ?_))
  refine RL_cons (O_alloc (by exact wn0 rfl) (by rfl) ze61 (by rfl) H (fun w6 b5 (H : Sep ok w w6 [.blk b1 61 [.int .u8 a0.a0, .int .u8 a0.a1, .int .u8 a0.a2, .int .u8 a0.a3], .blk b3 61 [.int .u8 a1.a0, .int .u8 a1.a1, .int .u8 a1.a2, .int .u8 a1.a3], .blk b5 61 [.int .u8 0, .int .u8 0, .int .u8 0, .int .u8 0]] []) => ?_))
  refine RL_nil ?_
  refine W_seq ?_
  refine W_region ?_
  refine RL_pure (by exact wn0 rfl) (by rfl) (by rfl) (x_indexArr ar61 sz5 (by rfl) (by rfl) (by decide) (by decide)) ?_
  refine RL_pure (by exact wn0 rfl) (by rfl) (by rfl) (x_load (j := 3) (v := .int .u8 a0.a3) sc5 (by rfl) (H.cells (i := 0) (by rfl)) (by rfl)) ?_
  obtain ⟨x7, ex7, qx7, ux7, hm⟩ := ck_some hm
  refine RL_pure (by exact wn0 rfl) (by rfl) (by rfl) (x_conv is5 un3 (by rfl) ux7) ?_
  refine RL_cons (O_alloc (by exact wn0 rfl) (by rfl) ze3 (by rfl) H (fun w9 b8 (H : Sep ok w w9 [.blk b1 61 [.int .u8 a0.a0, .int .u8 a0.a1, .int .u8 a0.a2, .int .u8 a0.a3], .blk b3 61 [.int .u8 a1.a0, .int .u8 a1.a1, .int .u8 a1.a2, .int .u8 a1.a3], .blk b5 61 [.int .u8 0, .int .u8 0, .int .u8 0, .int .u8 0], .blk b8 3 [.int .i64 0]] []) => ?_))
  refine RL_cons (O_store (i := 3) (off := 0) (by exact wn0 rfl) (by rfl) (by rfl) H (by rfl) (vs := [.int .i64 x7]) (by rfl) sz3 (by rfl) (by rfl) (by rfl) (fun w10 (H : Sep ok w w10 [.blk b1 61 [.int .u8 a0.a0, .int .u8 a0.a1, .int .u8 a0.a2, .int .u8 a0.a3], .blk b3 61 [.int .u8 a1.a0, .int .u8 a1.a1, .int .u8 a1.a2, .int .u8 a1.a3], .blk b5 61 [.int .u8 0, .int .u8 0, .int .u8 0, .int .u8 0], .blk b8 3 [.int .i64 x7]] []) => ?_))
  refine RL_nil ?_
  refine W_seq ?_
  refine W_region ?_
  refine RL_pure (by exact wn0 rfl) (by rfl) (by rfl) (x_makeFunc (vs := [.pointer (some ⟨b8, 0, none⟩)]) (by rfl)) ?_
  refine RL_pure (by exact wn0 rfl) (by rfl) (by rfl) (x_assign (v := .func (.func 114) #[] #[.pointer (some ⟨b8, 0, none⟩)]) (by rfl)) ?_
  refine RL_nil ?_
  refine W_seq ?_
  refine W_seq ?_
  refine W_region ?_
  refine RL_pure (by exact wn0 rfl) (by rfl) (by rfl) (x_move (v := .int .i64 0) (by rfl)) ?_
  refine RL_nil ?_
  refine W_block ?_
  refine W_unroll 40 ?_
  refine WU_succ ?_
  refine W_seq ?_
  refine W_region ?_
  refine RL_pure (by exact wn0 rfl) (by rfl) (by rfl) (x_lss (by rfl) (by rfl)) ?_
  refine RL_nil ?_
  refine W_seq ?_
  refine W_cond (t := true) (by first | rfl | decide) (fun _ => ?_) (fun hb => by cases hb)
  refine W_skip ?_
  refine W_seq ?_
  refine W_block ?_
  refine W_seq ?_
  refine W_region ?_
  refine RL_pure (by exact wn0 rfl) (by rfl) (by rfl) (x_move (v := .int .i64 0) (by rfl)) ?_
  refine RL_pure (by exact wn0 rfl) (by rfl) (by rfl) (x_assign (v := .int .i64 0) (by rfl)) ?_
  refine RL_nil ?_
  refine W_draw [.free 0, .free 1, .free 2, .free 3, .take 4, .free 5, .free 6, .take 7, .tail 8, .free 9, .tail 10] (fun wS => Sep ok w wS [.blk b1 61 [.int .u8 a0.a0, .int .u8 a0.a1, .int .u8 a0.a2, .int .u8 a0.a3], .blk b3 61 [.int .u8 a1.a0, .int .u8 a1.a1, .int .u8 a1.a2, .int .u8 a1.a3], .blk b5 61 [.int .u8 0, .int .u8 0, .int .u8 0, .int .u8 0], .blk b8 3 [.int .i64 x7]] []) [8, 10] [0, 1, 2, 3, 5, 6, 9] mixed0 (by kernel_rfl) (by kernel_rfl) (by kernel_rfl) (by rfl) (by exact H.drew) ?_
  obtain ⟨w11, hW⟩ : ∃ W : World, W = { w10 with drawn := w10.drawn + 1 } := ⟨_, rfl⟩
  rw [← hW]
  have H : Sep ok w w11 [.blk b1 61 [.int .u8 a0.a0, .int .u8 a0.a1, .int .u8 a0.a2, .int .u8 a0.a3], .blk b3 61 [.int .u8 a1.a0, .int .u8 a1.a1, .int .u8 a1.a2, .int .u8 a1.a3], .blk b5 61 [.int .u8 0, .int .u8 0, .int .u8 0, .int .u8 0], .blk b8 3 [.int .i64 x7]] [] := by rw [hW]; exact H.drew
  clear hW
  refine PR_free (by rfl) (by rfl) (by rfl) (by exact wn0 rfl) (fun wS => (x_move (v := .int .i64 0) (by rfl))) ?_
  refine PR_free (by rfl) (by rfl) (by rfl) (by exact wn0 rfl) (fun wS => (x_move (v := .func (.func 114) #[] #[.pointer (some ⟨b8, 0, none⟩)]) (by rfl))) ?_
  refine PR_free (by rfl) (by rfl) (by rfl) (by exact wn0 rfl) (fun wS => (x_move (v := .int .i64 0) (by rfl))) ?_
  refine PR_free (by rfl) (by rfl) (by rfl) (by exact wn0 rfl) (fun wS => (x_indexArr ar61 sz5 (by rfl) (by rfl) (by decide) (by decide))) ?_
  refine PR_take (by rfl) (by rfl) (by rfl) (by exact wn0 rfl) (fun wS (H : Sep ok w wS [.blk b1 61 [.int .u8 a0.a0, .int .u8 a0.a1, .int .u8 a0.a2, .int .u8 a0.a3], .blk b3 61 [.int .u8 a1.a0, .int .u8 a1.a1, .int .u8 a1.a2, .int .u8 a1.a3], .blk b5 61 [.int .u8 0, .int .u8 0, .int .u8 0, .int .u8 0], .blk b8 3 [.int .i64 x7]] []) => (x_load (j := 0) (v := .int .u8 a0.a0) sc5 (by rfl) (H.cells (i := 0) (by rfl)) (by rfl))) ?_
  refine PR_free (by rfl) (by rfl) (by rfl) (by exact wn0 rfl) (fun wS => (x_move (v := .int .i64 0) (by rfl))) ?_
  refine PR_free (by rfl) (by rfl) (by rfl) (by exact wn0 rfl) (fun wS => (x_indexArr ar61 sz5 (by rfl) (by rfl) (by decide) (by decide))) ?_
  refine PR_take (by rfl) (by rfl) (by rfl) (by exact wn0 rfl) (fun wS (H : Sep ok w wS [.blk b1 61 [.int .u8 a0.a0, .int .u8 a0.a1, .int .u8 a0.a2, .int .u8 a0.a3], .blk b3 61 [.int .u8 a1.a0, .int .u8 a1.a1, .int .u8 a1.a2, .int .u8 a1.a3], .blk b5 61 [.int .u8 0, .int .u8 0, .int .u8 0, .int .u8 0], .blk b8 3 [.int .i64 x7]] []) => (x_load (j := 0) (v := .int .u8 a1.a0) sc5 (by rfl) (H.cells (i := 1) (by rfl)) (by rfl))) ?_
  obtain ⟨v13, hv12, hm⟩ := bind_some hm
  refine PR_tail (by rfl) (O_call (by exact wn0 rfl) (by rfl) (by rfl) (x_callL (by rfl) (args := [.int .u8 a0.a0, .int .u8 a1.a0, .pointer (some ⟨b8, 0, none⟩)]) (by rfl) (cf114 _ _)) (c114 (fun _ => True) K w11 a0.a0 a1.a0 x7 b8 (H.blkRd (i := 3) (by rfl)) v13 hv12) ?_)
  rintro e w14 ⟨rfl, H2⟩
  have H : Sep ok w w14 [.blk b1 61 [.int .u8 a0.a0, .int .u8 a0.a1, .int .u8 a0.a2, .int .u8 a0.a3], .blk b3 61 [.int .u8 a1.a0, .int .u8 a1.a1, .int .u8 a1.a2, .int .u8 a1.a3], .blk b5 61 [.int .u8 0, .int .u8 0, .int .u8 0, .int .u8 0], .blk b8 3 [.int .i64 x7]] [] := H.below H2.base
  clear H2
  refine ⟨_, rfl, ?_⟩
  show PR _ _ _ _ _ _ _ _
  refine PR_free (by rfl) (by rfl) (by rfl) (by exact wn0 rfl) (fun wS => (x_indexArr ar61 sz5 (by rfl) (by rfl) (by decide) (by decide))) ?_
  refine PR_tail (by rfl) (O_store (i := 2) (off := 0) (by exact wn0 rfl) (by rfl) (by rfl) H (by rfl) (vs := [.int .u8 v13]) (by rfl) sz5 (by rfl) (by rfl) (by rfl) (fun w15 (H : Sep ok w w15 [.blk b1 61 [.int .u8 a0.a0, .int .u8 a0.a1, .int .u8 a0.a2, .int .u8 a0.a3], .blk b3 61 [.int .u8 a1.a0, .int .u8 a1.a1, .int .u8 a1.a2, .int .u8 a1.a3], .blk b5 61 [.int .u8 v13, .int .u8 0, .int .u8 0, .int .u8 0], .blk b8 3 [.int .i64 x7]] []) => ?_))
  refine PR_nil ?_
  refine W_region ?_
  refine RL_pure (by exact wn0 rfl) (by rfl) (by rfl) (x_add (c := 1) (by rfl) (by rfl) (by decide)) ?_
  refine RL_pure (by exact wn0 rfl) (by rfl) (by rfl) (x_move (v := .int .i64 1) (by rfl)) ?_
  refine RL_nil ?_
  refine WU_succ ?_
  refine W_seq ?_
  refine W_region ?_
  refine RL_pure (by exact wn0 rfl) (by rfl) (by rfl) (x_lss (by rfl) (by rfl)) ?_
  refine RL_nil ?_
  refine W_seq ?_
  refine W_cond (t := true) (by first | rfl | decide) (fun _ => ?_) (fun hb => by cases hb)
  refine W_skip ?_
  refine W_seq ?_
  refine W_block ?_
  refine W_seq ?_
  refine W_region ?_
  refine RL_pure (by exact wn0 rfl) (by rfl) (by rfl) (x_move (v := .int .i64 1) (by rfl)) ?_
  refine RL_pure (by exact wn0 rfl) (by rfl) (by rfl) (x_assign (v := .int .i64 1) (by rfl)) ?_
  refine RL_nil ?_
  refine W_draw [.free 0, .free 1, .free 2, .free 3, .take 4, .free 5, .free 6, .take 7, .tail 8, .free 9, .tail 10] (fun wS => Sep ok w wS [.blk b1 61 [.int .u8 a0.a0, .int .u8 a0.a1, .int .u8 a0.a2, .int .u8 a0.a3], .blk b3 61 [.int .u8 a1.a0, .int .u8 a1.a1, .int .u8 a1.a2, .int .u8 a1.a3], .blk b5 61 [.int .u8 v13, .int .u8 0, .int .u8 0, .int .u8 0], .blk b8 3 [.int .i64 x7]] []) [8, 10] [0, 1, 2, 3, 5, 6, 9] mixed0 (by kernel_rfl) (by kernel_rfl) (by kernel_rfl) (by rfl) (by exact H.drew) ?_
  obtain ⟨w16, hW⟩ : ∃ W : World, W = { w15 with drawn := w15.drawn + 1 } := ⟨_, rfl⟩
  rw [← hW]
  have H : Sep ok w w16 [.blk b1 61 [.int .u8 a0.a0, .int .u8 a0.a1, .int .u8 a0.a2, .int .u8 a0.a3], .blk b3 61 [.int .u8 a1.a0, .int .u8 a1.a1, .int .u8 a1.a2, .int .u8 a1.a3], .blk b5 61 [.int .u8 v13, .int .u8 0, .int .u8 0, .int .u8 0], .blk b8 3 [.int .i64 x7]] [] := by rw [hW]; exact H.drew
  clear hW
  refine PR_free (by rfl) (by rfl) (by rfl) (by exact wn0 rfl) (fun wS => (x_move (v := .int .i64 1) (by rfl))) ?_
  refine PR_free (by rfl) (by rfl) (by rfl) (by exact wn0 rfl) (fun wS => (x_move (v := .func (.func 114) #[] #[.pointer (some ⟨b8, 0, none⟩)]) (by rfl))) ?_
  refine PR_free (by rfl) (by rfl) (by rfl) (by exact wn0 rfl) (fun wS => (x_move (v := .int .i64 1) (by rfl))) ?_
  refine PR_free (by rfl) (by rfl) (by rfl) (by exact wn0 rfl) (fun wS => (x_indexArr ar61 sz5 (by rfl) (by rfl) (by decide) (by decide))) ?_
  refine PR_take (by rfl) (by rfl) (by rfl) (by exact wn0 rfl) (fun wS (H : Sep ok w wS [.blk b1 61 [.int .u8 a0.a0, .int .u8 a0.a1, .int .u8 a0.a2, .int .u8 a0.a3], .blk b3 61 [.int .u8 a1.a0, .int .u8 a1.a1, .int .u8 a1.a2, .int .u8 a1.a3], .blk b5 61 [.int .u8 v13, .int .u8 0, .int .u8 0, .int .u8 0], .blk b8 3 [.int .i64 x7]] []) => (x_load (j := 1) (v := .int .u8 a0.a1) sc5 (by rfl) (H.cells (i := 0) (by rfl)) (by rfl))) ?_
  refine PR_free (by rfl) (by rfl) (by rfl) (by exact wn0 rfl) (fun wS => (x_move (v := .int .i64 1) (by rfl))) ?_
  refine PR_free (by rfl) (by rfl) (by rfl) (by exact wn0 rfl) (fun wS => (x_indexArr ar61 sz5 (by rfl) (by rfl) (by decide) (by decide))) ?_
  refine PR_take (by rfl) (by rfl) (by rfl) (by exact wn0 rfl) (fun wS (H : Sep ok w wS [.blk b1 61 [.int .u8 a0.a0, .int .u8 a0.a1, .int .u8 a0.a2, .int .u8 a0.a3], .blk b3 61 [.int .u8 a1.a0, .int .u8 a1.a1, .int .u8 a1.a2, .int .u8 a1.a3], .blk b5 61 [.int .u8 v13, .int .u8 0, .int .u8 0, .int .u8 0], .blk b8 3 [.int .i64 x7]] []) => (x_load (j := 1) (v := .int .u8 a1.a1) sc5 (by rfl) (H.cells (i := 1) (by rfl)) (by rfl))) ?_
  obtain ⟨v18, hv17, hm⟩ := bind_some hm
  refine PR_tail (by rfl) (O_call (by exact wn0 rfl) (by rfl) (by rfl) (x_callL (by rfl) (args := [.int .u8 a0.a1, .int .u8 a1.a1, .pointer (some ⟨b8, 0, none⟩)]) (by rfl) (cf114 _ _)) (c114 (fun _ => True) K w16 a0.a1 a1.a1 x7 b8 (H.blkRd (i := 3) (by rfl)) v18 hv17) ?_)
  rintro e w19 ⟨rfl, H2⟩
  have H : Sep ok w w19 [.blk b1 61 [.int .u8 a0.a0, .int .u8 a0.a1, .int .u8 a0.a2, .int .u8 a0.a3], .blk b3 61 [.int .u8 a1.a0, .int .u8 a1.a1, .int .u8 a1.a2, .int .u8 a1.a3], .blk b5 61 [.int .u8 v13, .int .u8 0, .int .u8 0, .int .u8 0], .blk b8 3 [.int .i64 x7]] [] := H.below H2.base
  clear H2
  refine ⟨_, rfl, ?_⟩
  show PR _ _ _ _ _ _ _ _
  refine PR_free (by rfl) (by rfl) (by rfl) (by exact wn0 rfl) (fun wS => (x_indexArr ar61 sz5 (by rfl) (by rfl) (by decide) (by decide))) ?_
  refine PR_tail (by rfl) (O_store (i := 2) (off := 1) (by exact wn0 rfl) (by rfl) (by rfl) H (by rfl) (vs := [.int .u8 v18]) (by rfl) sz5 (by rfl) (by rfl) (by rfl) (fun w20 (H : Sep ok w w20 [.blk b1 61 [.int .u8 a0.a0, .int .u8 a0.a1, .int .u8 a0.a2, .int .u8 a0.a3], .blk b3 61 [.int .u8 a1.a0, .int .u8 a1.a1, .int .u8 a1.a2, .int .u8 a1.a3], .blk b5 61 [.int .u8 v13, .int .u8 v18, .int .u8 0, .int .u8 0], .blk b8 3 [.int .i64 x7]] []) => ?_))
  refine PR_nil ?_
  refine W_region ?_
  refine RL_pure (by exact wn0 rfl) (by rfl) (by rfl) (x_add (c := 2) (by rfl) (by rfl) (by decide)) ?_
  refine RL_pure (by exact wn0 rfl) (by rfl) (by rfl) (x_move (v := .int .i64 2) (by rfl)) ?_
  refine RL_nil ?_
  refine WU_succ ?_
  refine W_seq ?_
  refine W_region ?_
  refine RL_pure (by exact wn0 rfl) (by rfl) (by rfl) (x_lss (by rfl) (by rfl)) ?_
  refine RL_nil ?_
  refine W_seq ?_
  refine W_cond (t := true) (by first | rfl | decide) (fun _ => ?_) (fun hb => by cases hb)
  refine W_skip ?_
  refine W_seq ?_
  refine W_block ?_
  refine W_seq ?_
  refine W_region ?_
  refine RL_pure (by exact wn0 rfl) (by rfl) (by rfl) (x_move (v := .int .i64 2) (by rfl)) ?_
  refine RL_pure (by exact wn0 rfl) (by rfl) (by rfl) (x_assign (v := .int .i64 2) (by rfl)) ?_
  refine RL_nil ?_
  refine W_draw [.free 0, .free 1, .free 2, .free 3, .take 4, .free 5, .free 6, .take 7, .tail 8, .free 9, .tail 10] (fun wS => Sep ok w wS [.blk b1 61 [.int .u8 a0.a0, .int .u8 a0.a1, .int .u8 a0.a2, .int .u8 a0.a3], .blk b3 61 [.int .u8 a1.a0, .int .u8 a1.a1, .int .u8 a1.a2, .int .u8 a1.a3], .blk b5 61 [.int .u8 v13, .int .u8 v18, .int .u8 0, .int .u8 0], .blk b8 3 [.int .i64 x7]] []) [8, 10] [0, 1, 2, 3, 5, 6, 9] mixed0 (by kernel_rfl) (by kernel_rfl) (by kernel_rfl) (by rfl) (by exact H.drew) ?_
  obtain ⟨w21, hW⟩ : ∃ W : World, W = { w20 with drawn := w20.drawn + 1 } := ⟨_, rfl⟩
  rw [← hW]
  have H : Sep ok w w21 [.blk b1 61 [.int .u8 a0.a0, .int .u8 a0.a1, .int .u8 a0.a2, .int .u8 a0.a3], .blk b3 61 [.int .u8 a1.a0, .int .u8 a1.a1, .int .u8 a1.a2, .int .u8 a1.a3], .blk b5 61 [.int .u8 v13, .int .u8 v18, .int .u8 0, .int .u8 0], .blk b8 3 [.int .i64 x7]] [] := by rw [hW]; exact H.drew
  clear hW
  refine PR_free (by rfl) (by rfl) (by rfl) (by exact wn0 rfl) (fun wS => (x_move (v := .int .i64 2) (by rfl))) ?_
  refine PR_free (by rfl) (by rfl) (by rfl) (by exact wn0 rfl) (fun wS => (x_move (v := .func (.func 114) #[] #[.pointer (some ⟨b8, 0, none⟩)]) (by rfl))) ?_
  refine PR_free (by rfl) (by rfl) (by rfl) (by exact wn0 rfl) (fun wS => (x_move (v := .int .i64 2) (by rfl))) ?_
  refine PR_free (by rfl) (by rfl) (by rfl) (by exact wn0 rfl) (fun wS => (x_indexArr ar61 sz5 (by rfl) (by rfl) (by decide) (by decide))) ?_
  refine PR_take (by rfl) (by rfl) (by rfl) (by exact wn0 rfl) (fun wS (H : Sep ok w wS [.blk b1 61 [.int .u8 a0.a0, .int .u8 a0.a1, .int .u8 a0.a2, .int .u8 a0.a3], .blk b3 61 [.int .u8 a1.a0, .int .u8 a1.a1, .int .u8 a1.a2, .int .u8 a1.a3], .blk b5 61 [.int .u8 v13, .int .u8 v18, .int .u8 0, .int .u8 0], .blk b8 3 [.int .i64 x7]] []) => (x_load (j := 2) (v := .int .u8 a0.a2) sc5 (by rfl) (H.cells (i := 0) (by rfl)) (by rfl))) ?_
  refine PR_free (by rfl) (by rfl) (by rfl) (by exact wn0 rfl) (fun wS => (x_move (v := .int .i64 2) (by rfl))) ?_
  refine PR_free (by rfl) (by rfl) (by rfl) (by exact wn0 rfl) (fun wS => (x_indexArr ar61 sz5 (by rfl) (by rfl) (by decide) (by decide))) ?_
  refine PR_take (by rfl) (by rfl) (by rfl) (by exact wn0 rfl) (fun wS (H : Sep ok w wS [.blk b1 61 [.int .u8 a0.a0, .int .u8 a0.a1, .int .u8 a0.a2, .int .u8 a0.a3], .blk b3 61 [.int .u8 a1.a0, .int .u8 a1.a1, .int .u8 a1.a2, .int .u8 a1.a3], .blk b5 61 [.int .u8 v13, .int .u8 v18, .int .u8 0, .int .u8 0], .blk b8 3 [.int .i64 x7]] []) => (x_load (j := 2) (v := .int .u8 a1.a2) sc5 (by rfl) (H.cells (i := 1) (by rfl)) (by rfl))) ?_
  obtain ⟨v23, hv22, hm⟩ := bind_some hm
  refine PR_tail (by rfl) (O_call (by exact wn0 rfl) (by rfl) (by rfl) (x_callL (by rfl) (args := [.int .u8 a0.a2, .int .u8 a1.a2, .pointer (some ⟨b8, 0, none⟩)]) (by rfl) (cf114 _ _)) (c114 (fun _ => True) K w21 a0.a2 a1.a2 x7 b8 (H.blkRd (i := 3) (by rfl)) v23 hv22) ?_)
  rintro e w24 ⟨rfl, H2⟩
  have H : Sep ok w w24 [.blk b1 61 [.int .u8 a0.a0, .int .u8 a0.a1, .int .u8 a0.a2, .int .u8 a0.a3], .blk b3 61 [.int .u8 a1.a0, .int .u8 a1.a1, .int .u8 a1.a2, .int .u8 a1.a3], .blk b5 61 [.int .u8 v13, .int .u8 v18, .int .u8 0, .int .u8 0], .blk b8 3 [.int .i64 x7]] [] := H.below H2.base
  clear H2
  refine ⟨_, rfl, ?_⟩
  show PR _ _ _ _ _ _ _ _
  refine PR_free (by rfl) (by rfl) (by rfl) (by exact wn0 rfl) (fun wS => (x_indexArr ar61 sz5 (by rfl) (by rfl) (by decide) (by decide))) ?_
  refine PR_tail (by rfl) (O_store (i := 2) (off := 2) (by exact wn0 rfl) (by rfl) (by rfl) H (by rfl) (vs := [.int .u8 v23]) (by rfl) sz5 (by rfl) (by rfl) (by rfl) (fun w25 (H : Sep ok w w25 [.blk b1 61 [.int .u8 a0.a0, .int .u8 a0.a1, .int .u8 a0.a2, .int .u8 a0.a3], .blk b3 61 [.int .u8 a1.a0, .int .u8 a1.a1, .int .u8 a1.a2, .int .u8 a1.a3], .blk b5 61 [.int .u8 v13, .int .u8 v18, .int .u8 v23, .int .u8 0], .blk b8 3 [.int .i64 x7]] []) => ?_))
  refine PR_nil ?_
  refine W_region ?_
  refine RL_pure (by exact wn0 rfl) (by rfl) (by rfl) (x_add (c := 3) (by rfl) (by rfl) (by decide)) ?_
  refine RL_pure (by exact wn0 rfl) (by rfl) (by rfl) (x_move (v := .int .i64 3) (by rfl)) ?_
  refine RL_nil ?_
  refine WU_succ ?_
  refine W_seq ?_
  refine W_region ?_
  refine RL_pure (by exact wn0 rfl) (by rfl) (by rfl) (x_lss (by rfl) (by rfl)) ?_
  refine RL_nil ?_
  refine W_seq ?_
  refine W_cond (t := false) (by first | rfl | decide) (fun hb => by cases hb) (fun _ => ?_)
  refine W_exit ?_
  refine W_seq ?_
  refine W_region ?_
  refine RL_pure (by exact wn0 rfl) (by rfl) (by rfl) (x_move (v := .func (.func 114) #[] #[.pointer (some ⟨b8, 0, none⟩)]) (by rfl)) ?_
  refine RL_pure (by exact wn0 rfl) (by rfl) (by rfl) (x_indexArr ar61 sz5 (by rfl) (by rfl) (by decide) (by decide)) ?_
  refine RL_pure (by exact wn0 rfl) (by rfl) (by rfl) (x_load (j := 3) (v := .int .u8 a1.a3) sc5 (by rfl) (H.cells (i := 1) (by rfl)) (by rfl)) ?_
  obtain ⟨v27, hv26, hm⟩ := bind_some hm
  refine RL_cons (O_call (by exact wn0 rfl) (by rfl) (by rfl) (x_callL (by rfl) (args := [.int .u8 255, .int .u8 a1.a3, .pointer (some ⟨b8, 0, none⟩)]) (by rfl) (cf114 _ _)) (c114 (fun _ => True) K w25 255 a1.a3 x7 b8 (H.blkRd (i := 3) (by rfl)) v27 hv26) ?_)
  rintro e w28 ⟨rfl, H2⟩
  have H : Sep ok w w28 [.blk b1 61 [.int .u8 a0.a0, .int .u8 a0.a1, .int .u8 a0.a2, .int .u8 a0.a3], .blk b3 61 [.int .u8 a1.a0, .int .u8 a1.a1, .int .u8 a1.a2, .int .u8 a1.a3], .blk b5 61 [.int .u8 v13, .int .u8 v18, .int .u8 v23, .int .u8 0], .blk b8 3 [.int .i64 x7]] [] := H.below H2.base
  clear H2
  refine ⟨_, rfl, ?_⟩
  show RL _ _ _ _ _ _ _
  refine RL_pure (by exact wn0 rfl) (by rfl) (by rfl) (x_indexArr ar61 sz5 (by rfl) (by rfl) (by decide) (by decide)) ?_
  refine RL_cons (O_store (i := 2) (off := 3) (by exact wn0 rfl) (by rfl) (by rfl) H (by rfl) (vs := [.int .u8 v27]) (by rfl) sz5 (by rfl) (by rfl) (by rfl) (fun w29 (H : Sep ok w w29 [.blk b1 61 [.int .u8 a0.a0, .int .u8 a0.a1, .int .u8 a0.a2, .int .u8 a0.a3], .blk b3 61 [.int .u8 a1.a0, .int .u8 a1.a1, .int .u8 a1.a2, .int .u8 a1.a3], .blk b5 61 [.int .u8 v13, .int .u8 v18, .int .u8 v23, .int .u8 v27], .blk b8 3 [.int .i64 x7]] []) => ?_))
  refine RL_nil ?_
  refine W_seq ?_
  refine W_region ?_
  refine RL_pure (by exact wn0 rfl) (by rfl) (by rfl) (x_loadA (j := 0) (vs := [.int .u8 v13, .int .u8 v18, .int .u8 v23, .int .u8 v27]) ag61 (by rfl) (H.cells (i := 2) (by rfl)) (by rfl) (by rfl)) ?_
  refine RL_cons (O_store (i := 2) (off := 0) (by exact wn0 rfl) (by rfl) (by rfl) H (by rfl) (vs := [.int .u8 v13, .int .u8 v18, .int .u8 v23, .int .u8 v27]) (by rfl) sz61 (by rfl) (by rfl) (by rfl) (fun w30 (H : Sep ok w w30 [.blk b1 61 [.int .u8 a0.a0, .int .u8 a0.a1, .int .u8 a0.a2, .int .u8 a0.a3], .blk b3 61 [.int .u8 a1.a0, .int .u8 a1.a1, .int .u8 a1.a2, .int .u8 a1.a3], .blk b5 61 [.int .u8 v13, .int .u8 v18, .int .u8 v23, .int .u8 v27], .blk b8 3 [.int .i64 x7]] []) => ?_))
  refine RL_nil ?_
  refine W_ret ?_
  obtain rfl := Option.some.inj hm
  exact ⟨[.agg #[.int .u8 v13, .int .u8 v18, .int .u8 v23, .int .u8 v27]], (.cellA (by rfl) ag61 (H.cells (i := 2) (by rfl)) (by rfl) rfl), rfl, H.none_⟩
end Go.Proofs.YtobkigllalbkiaaV.M
