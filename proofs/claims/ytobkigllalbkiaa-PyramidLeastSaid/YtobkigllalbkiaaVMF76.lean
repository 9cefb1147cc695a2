/- A plain Lean function that answers as the Go function does (none: not told), and the proof that a call answers so. Written by program. -/
import Derived.Test.YtobkigllalbkiaaVMTy
import Derived.Test.YtobkigllalbkiaaVMF116
import Derived.Test.YtobkigllalbkiaaVMF117
set_option linter.unusedVariables false
namespace Go.Proofs.YtobkigllalbkiaaV.M
open Go.RowKit Go.Proofs.YtobkigllalbkiaaV
/-- diorama/frame.Nearer -/
def m76 (K : Nat) (a0 : S_Frag) (a1 : S_Frag) : Option (Bool) :=
  ((m117 K a1.D a0.D).bind fun v7 => ((m117 K a0.Item a1.Item).bind fun v10 => ((m117 K a0.Tri a1.Tri).bind fun v13 => ((m117 K a0.Part a1.Part).bind fun v16 => ((m116 K ([v7, v10, v13, v16])).bind fun v23 => some (decide (v23 < 0)))))))
set_option maxRecDepth 100000 in
set_option maxHeartbeats 4000000 in
theorem c76 (ok : Nat → Prop) (K : Nat) (w : World) (a0 : S_Frag) (a1 : S_Frag)  (res : Bool) (hm : m76 K a0 a1 = some res) :
    Calls Try.prog 76 #[.agg #[.int .i64 a0.D, .int .i64 a0.Item, .int .i64 a0.Tri, .int .i64 a0.Part, .int .i64 a0.U, .int .i64 a0.V], .agg #[.int .i64 a1.D, .int .i64 a1.Item, .int .i64 a1.Tri, .int .i64 a1.Part, .int .i64 a1.U, .int .i64 a1.V]] w (fun e w' => e = .returned (tup [.bool res]) ∧ Sep ok w w' [] []) := by
  refine calls_W (args := [.agg #[.int .i64 a0.D, .int .i64 a0.Item, .int .i64 a0.Tri, .int .i64 a0.Part, .int .i64 a0.U, .int .i64 a0.V], .agg #[.int .i64 a1.D, .int .i64 a1.Item, .int .i64 a1.Tri, .int .i64 a1.Part, .int .i64 a1.U, .int .i64 a1.V]]) Try.func76 rfl Try.ntmps76 Try.results76 rfl fun r hr => ?_
  obtain ⟨r1, rfl⟩ := regen (r := r) [(0, .agg #[.int .i64 a0.D, .int .i64 a0.Item, .int .i64 a0.Tri, .int .i64 a0.Part, .int .i64 a0.U, .int .i64 a0.V]), (1, .agg #[.int .i64 a1.D, .int .i64 a1.Item, .int .i64 a1.Tri, .int .i64 a1.Part, .int .i64 a1.U, .int .i64 a1.V])] ⟨hr 0 _ rfl, hr 1 _ rfl, trivial⟩
  have H : Sep ok w w [] [] := Sep.start ok w
  unfold m76 at hm
  refine W_seq ?_
  refine W_region ?_
  refine RL_cons (O_box (by exact wn0 rfl) (by rfl) (by rfl) (by rfl) H (fun w2 b1 (H : Sep ok w w2 [.blk b1 68 [.int .i64 a0.D, .int .i64 a0.Item, .int .i64 a0.Tri, .int .i64 a0.Part, .int .i64 a0.U, .int .i64 a0.V]] []) => ?_))
  refine RL_cons (O_box (by exact wn0 rfl) (by rfl) (by rfl) (by rfl) H (fun w4 b3 (H : Sep ok w w4 [.blk b1 68 [.int .i64 a0.D, .int .i64 a0.Item, .int .i64 a0.Tri, .int .i64 a0.Part, .int .i64 a0.U, .int .i64 a0.V], .blk b3 68 [.int .i64 a1.D, .int .i64 a1.Item, .int .i64 a1.Tri, .int .i64 a1.Part, .int .i64 a1.U, .int .i64 a1.V]] []) => ?_))
  refine RL_pure (by exact wn0 rfl) (by rfl) (by rfl) (x_assign (v := .bool false) (by rfl)) ?_
  refine RL_nil ?_
  refine W_seq ?_
  refine W_draw [.free 0, .take 1, .free 2, .take 3, .free 5, .take 6, .free 7, .take 8, .free 10, .take 11, .free 12, .take 13, .free 15, .take 16, .free 17, .take 18, .run 4, .run 9, .run 14, .run 19, .run 20, .run 21, .free 22, .free 23] (fun wS => Sep ok w wS [.blk b1 68 [.int .i64 a0.D, .int .i64 a0.Item, .int .i64 a0.Tri, .int .i64 a0.Part, .int .i64 a0.U, .int .i64 a0.V], .blk b3 68 [.int .i64 a1.D, .int .i64 a1.Item, .int .i64 a1.Tri, .int .i64 a1.Part, .int .i64 a1.U, .int .i64 a1.V]] []) [] [0, 2, 5, 7, 10, 12, 15, 17, 22, 23] mixed0 (by kernel_rfl) (by kernel_rfl) (by kernel_rfl) (by rfl) (by exact H.drew) ?_
  obtain ⟨w5, hW⟩ : ∃ W : World, W = { w4 with drawn := w4.drawn + 1 } := ⟨_, rfl⟩
  rw [← hW]
  have H : Sep ok w w5 [.blk b1 68 [.int .i64 a0.D, .int .i64 a0.Item, .int .i64 a0.Tri, .int .i64 a0.Part, .int .i64 a0.U, .int .i64 a0.V], .blk b3 68 [.int .i64 a1.D, .int .i64 a1.Item, .int .i64 a1.Tri, .int .i64 a1.Part, .int .i64 a1.U, .int .i64 a1.V]] [] := by rw [hW]; exact H.drew
  clear hW
  refine PR_free (by rfl) (by rfl) (by rfl) (by exact wn0 rfl) (fun wS => (x_fieldAddr fo68_0 (by rfl))) ?_
  refine PR_take (by rfl) (by rfl) (by rfl) (by exact wn0 rfl) (fun wS (H : Sep ok w wS [.blk b1 68 [.int .i64 a0.D, .int .i64 a0.Item, .int .i64 a0.Tri, .int .i64 a0.Part, .int .i64 a0.U, .int .i64 a0.V], .blk b3 68 [.int .i64 a1.D, .int .i64 a1.Item, .int .i64 a1.Tri, .int .i64 a1.Part, .int .i64 a1.U, .int .i64 a1.V]] []) => (x_load (j := 0) (v := .int .i64 a1.D) sc3 (by rfl) (H.cells (i := 1) (by rfl)) (by rfl))) ?_
  refine PR_free (by rfl) (by rfl) (by rfl) (by exact wn0 rfl) (fun wS => (x_fieldAddr fo68_0 (by rfl))) ?_
  refine PR_take (by rfl) (by rfl) (by rfl) (by exact wn0 rfl) (fun wS (H : Sep ok w wS [.blk b1 68 [.int .i64 a0.D, .int .i64 a0.Item, .int .i64 a0.Tri, .int .i64 a0.Part, .int .i64 a0.U, .int .i64 a0.V], .blk b3 68 [.int .i64 a1.D, .int .i64 a1.Item, .int .i64 a1.Tri, .int .i64 a1.Part, .int .i64 a1.U, .int .i64 a1.V]] []) => (x_load (j := 0) (v := .int .i64 a0.D) sc3 (by rfl) (H.cells (i := 0) (by rfl)) (by rfl))) ?_
  refine PR_free (by rfl) (by rfl) (by rfl) (by exact wn0 rfl) (fun wS => (x_fieldAddr fo68_1 (by rfl))) ?_
  refine PR_take (by rfl) (by rfl) (by rfl) (by exact wn0 rfl) (fun wS (H : Sep ok w wS [.blk b1 68 [.int .i64 a0.D, .int .i64 a0.Item, .int .i64 a0.Tri, .int .i64 a0.Part, .int .i64 a0.U, .int .i64 a0.V], .blk b3 68 [.int .i64 a1.D, .int .i64 a1.Item, .int .i64 a1.Tri, .int .i64 a1.Part, .int .i64 a1.U, .int .i64 a1.V]] []) => (x_load (j := 1) (v := .int .i64 a0.Item) sc3 (by rfl) (H.cells (i := 0) (by rfl)) (by rfl))) ?_
  refine PR_free (by rfl) (by rfl) (by rfl) (by exact wn0 rfl) (fun wS => (x_fieldAddr fo68_1 (by rfl))) ?_
  refine PR_take (by rfl) (by rfl) (by rfl) (by exact wn0 rfl) (fun wS (H : Sep ok w wS [.blk b1 68 [.int .i64 a0.D, .int .i64 a0.Item, .int .i64 a0.Tri, .int .i64 a0.Part, .int .i64 a0.U, .int .i64 a0.V], .blk b3 68 [.int .i64 a1.D, .int .i64 a1.Item, .int .i64 a1.Tri, .int .i64 a1.Part, .int .i64 a1.U, .int .i64 a1.V]] []) => (x_load (j := 1) (v := .int .i64 a1.Item) sc3 (by rfl) (H.cells (i := 1) (by rfl)) (by rfl))) ?_
  refine PR_free (by rfl) (by rfl) (by rfl) (by exact wn0 rfl) (fun wS => (x_fieldAddr fo68_2 (by rfl))) ?_
  refine PR_take (by rfl) (by rfl) (by rfl) (by exact wn0 rfl) (fun wS (H : Sep ok w wS [.blk b1 68 [.int .i64 a0.D, .int .i64 a0.Item, .int .i64 a0.Tri, .int .i64 a0.Part, .int .i64 a0.U, .int .i64 a0.V], .blk b3 68 [.int .i64 a1.D, .int .i64 a1.Item, .int .i64 a1.Tri, .int .i64 a1.Part, .int .i64 a1.U, .int .i64 a1.V]] []) => (x_load (j := 2) (v := .int .i64 a0.Tri) sc3 (by rfl) (H.cells (i := 0) (by rfl)) (by rfl))) ?_
  refine PR_free (by rfl) (by rfl) (by rfl) (by exact wn0 rfl) (fun wS => (x_fieldAddr fo68_2 (by rfl))) ?_
  refine PR_take (by rfl) (by rfl) (by rfl) (by exact wn0 rfl) (fun wS (H : Sep ok w wS [.blk b1 68 [.int .i64 a0.D, .int .i64 a0.Item, .int .i64 a0.Tri, .int .i64 a0.Part, .int .i64 a0.U, .int .i64 a0.V], .blk b3 68 [.int .i64 a1.D, .int .i64 a1.Item, .int .i64 a1.Tri, .int .i64 a1.Part, .int .i64 a1.U, .int .i64 a1.V]] []) => (x_load (j := 2) (v := .int .i64 a1.Tri) sc3 (by rfl) (H.cells (i := 1) (by rfl)) (by rfl))) ?_
  refine PR_free (by rfl) (by rfl) (by rfl) (by exact wn0 rfl) (fun wS => (x_fieldAddr fo68_3 (by rfl))) ?_
  refine PR_take (by rfl) (by rfl) (by rfl) (by exact wn0 rfl) (fun wS (H : Sep ok w wS [.blk b1 68 [.int .i64 a0.D, .int .i64 a0.Item, .int .i64 a0.Tri, .int .i64 a0.Part, .int .i64 a0.U, .int .i64 a0.V], .blk b3 68 [.int .i64 a1.D, .int .i64 a1.Item, .int .i64 a1.Tri, .int .i64 a1.Part, .int .i64 a1.U, .int .i64 a1.V]] []) => (x_load (j := 3) (v := .int .i64 a0.Part) sc3 (by rfl) (H.cells (i := 0) (by rfl)) (by rfl))) ?_
  refine PR_free (by rfl) (by rfl) (by rfl) (by exact wn0 rfl) (fun wS => (x_fieldAddr fo68_3 (by rfl))) ?_
  refine PR_take (by rfl) (by rfl) (by rfl) (by exact wn0 rfl) (fun wS (H : Sep ok w wS [.blk b1 68 [.int .i64 a0.D, .int .i64 a0.Item, .int .i64 a0.Tri, .int .i64 a0.Part, .int .i64 a0.U, .int .i64 a0.V], .blk b3 68 [.int .i64 a1.D, .int .i64 a1.Item, .int .i64 a1.Tri, .int .i64 a1.Part, .int .i64 a1.U, .int .i64 a1.V]] []) => (x_load (j := 3) (v := .int .i64 a1.Part) sc3 (by rfl) (H.cells (i := 1) (by rfl)) (by rfl))) ?_
  obtain ⟨v7, hv6, hm⟩ := bind_some hm
  refine PR_run (by rfl) (O_call (by exact wn0 rfl) (by rfl) (by rfl) (x_callL (by rfl) (args := [.int .i64 a1.D, .int .i64 a0.D]) (by rfl) (cf117 _ _)) (c117 (fun _ => True) K w5 a1.D a0.D  v7 hv6) ?_)
  rintro e w8 ⟨rfl, H2⟩
  have H : Sep ok w w8 [.blk b1 68 [.int .i64 a0.D, .int .i64 a0.Item, .int .i64 a0.Tri, .int .i64 a0.Part, .int .i64 a0.U, .int .i64 a0.V], .blk b3 68 [.int .i64 a1.D, .int .i64 a1.Item, .int .i64 a1.Tri, .int .i64 a1.Part, .int .i64 a1.U, .int .i64 a1.V]] [] := H.below H2.base
  clear H2
  refine ⟨_, rfl, H, ?_⟩
  show PR _ _ _ _ _ _ _ _
  obtain ⟨v10, hv9, hm⟩ := bind_some hm
  refine PR_run (by rfl) (O_call (by exact wn0 rfl) (by rfl) (by rfl) (x_callL (by rfl) (args := [.int .i64 a0.Item, .int .i64 a1.Item]) (by rfl) (cf117 _ _)) (c117 (fun _ => True) K w8 a0.Item a1.Item  v10 hv9) ?_)
  rintro e w11 ⟨rfl, H2⟩
  have H : Sep ok w w11 [.blk b1 68 [.int .i64 a0.D, .int .i64 a0.Item, .int .i64 a0.Tri, .int .i64 a0.Part, .int .i64 a0.U, .int .i64 a0.V], .blk b3 68 [.int .i64 a1.D, .int .i64 a1.Item, .int .i64 a1.Tri, .int .i64 a1.Part, .int .i64 a1.U, .int .i64 a1.V]] [] := H.below H2.base
  clear H2
  refine ⟨_, rfl, H, ?_⟩
  show PR _ _ _ _ _ _ _ _
  obtain ⟨v13, hv12, hm⟩ := bind_some hm
  refine PR_run (by rfl) (O_call (by exact wn0 rfl) (by rfl) (by rfl) (x_callL (by rfl) (args := [.int .i64 a0.Tri, .int .i64 a1.Tri]) (by rfl) (cf117 _ _)) (c117 (fun _ => True) K w11 a0.Tri a1.Tri  v13 hv12) ?_)
  rintro e w14 ⟨rfl, H2⟩
  have H : Sep ok w w14 [.blk b1 68 [.int .i64 a0.D, .int .i64 a0.Item, .int .i64 a0.Tri, .int .i64 a0.Part, .int .i64 a0.U, .int .i64 a0.V], .blk b3 68 [.int .i64 a1.D, .int .i64 a1.Item, .int .i64 a1.Tri, .int .i64 a1.Part, .int .i64 a1.U, .int .i64 a1.V]] [] := H.below H2.base
  clear H2
  refine ⟨_, rfl, H, ?_⟩
  show PR _ _ _ _ _ _ _ _
  obtain ⟨v16, hv15, hm⟩ := bind_some hm
  refine PR_run (by rfl) (O_call (by exact wn0 rfl) (by rfl) (by rfl) (x_callL (by rfl) (args := [.int .i64 a0.Part, .int .i64 a1.Part]) (by rfl) (cf117 _ _)) (c117 (fun _ => True) K w14 a0.Part a1.Part  v16 hv15) ?_)
  rintro e w17 ⟨rfl, H2⟩
  have H : Sep ok w w17 [.blk b1 68 [.int .i64 a0.D, .int .i64 a0.Item, .int .i64 a0.Tri, .int .i64 a0.Part, .int .i64 a0.U, .int .i64 a0.V], .blk b3 68 [.int .i64 a1.D, .int .i64 a1.Item, .int .i64 a1.Tri, .int .i64 a1.Part, .int .i64 a1.U, .int .i64 a1.V]] [] := H.below H2.base
  clear H2
  refine ⟨_, rfl, H, ?_⟩
  show PR _ _ _ _ _ _ _ _
  refine PR_run (by rfl) (O_buildSlice (vs := [(0, .int .i64 v7), (1, .int .i64 v10), (2, .int .i64 v13), (3, .int .i64 v16)]) (cs := [.int .i64 v7, .int .i64 v10, .int .i64 v13, .int .i64 v16]) (by exact wn0 rfl) (by rfl) sl23 sz3 ze3 (by rfl) (by rfl) (by rfl) (by kernel_rfl) H (fun w19 b18 (H : Sep ok w w19 [.blk b1 68 [.int .i64 a0.D, .int .i64 a0.Item, .int .i64 a0.Tri, .int .i64 a0.Part, .int .i64 a0.U, .int .i64 a0.V], .blk b3 68 [.int .i64 a1.D, .int .i64 a1.Item, .int .i64 a1.Tri, .int .i64 a1.Part, .int .i64 a1.U, .int .i64 a1.V], .blk b18 3 [.int .i64 v7, .int .i64 v10, .int .i64 v13, .int .i64 v16]] []) => ⟨(Sep.takeL H 2), ?_⟩))
  have H : Sep ok w w19 [.blk b1 68 [.int .i64 a0.D, .int .i64 a0.Item, .int .i64 a0.Tri, .int .i64 a0.Part, .int .i64 a0.U, .int .i64 a0.V], .blk b3 68 [.int .i64 a1.D, .int .i64 a1.Item, .int .i64 a1.Tri, .int .i64 a1.Part, .int .i64 a1.U, .int .i64 a1.V], .row (.slice (some ⟨b18, 0, none⟩) ([v7, v10, v13, v16]).length 4) 3 kInt.sz ([v7, v10, v13, v16]).length [.int .i64 v7, .int .i64 v10, .int .i64 v13, .int .i64 v16]] [RE.chunks kInt [.int .i64 v7, .int .i64 v10, .int .i64 v13, .int .i64 v16] ([v7, v10, v13, v16])] := H.rowOf (i := 2) (D := kInt) (xs := [v7, v10, v13, v16]) (by rfl) (by exact ⟨rfl, rfl, rfl, rfl, rfl⟩) (by rfl)
  obtain ⟨v23, hv22, hm⟩ := bind_some hm
  refine PR_run (by rfl) (O_call (by exact wn0 rfl) (by rfl) (by rfl) (x_callL (by rfl) (args := [.slice (some ⟨b18, 0, none⟩) ([v7, v10, v13, v16]).length 4]) (by rfl) (cf116 _ _)) (c116 (fun _ => True) K w19 ([v7, v10, v13, v16]) (some ⟨b18, 0, none⟩) 4 (H.rowRd (i := 2) (j := 0) (by rfl) (by rfl)) v23 hv22) ?_)
  rintro e w24 ⟨rfl, H2⟩
  have H : Sep ok w w24 [.blk b1 68 [.int .i64 a0.D, .int .i64 a0.Item, .int .i64 a0.Tri, .int .i64 a0.Part, .int .i64 a0.U, .int .i64 a0.V], .blk b3 68 [.int .i64 a1.D, .int .i64 a1.Item, .int .i64 a1.Tri, .int .i64 a1.Part, .int .i64 a1.U, .int .i64 a1.V], .row (.slice (some ⟨b18, 0, none⟩) ([v7, v10, v13, v16]).length 4) 3 kInt.sz ([v7, v10, v13, v16]).length [.int .i64 v7, .int .i64 v10, .int .i64 v13, .int .i64 v16]] [RE.chunks kInt [.int .i64 v7, .int .i64 v10, .int .i64 v13, .int .i64 v16] ([v7, v10, v13, v16])] := H.below H2.base
  clear H2
  refine ⟨_, rfl, (Sep.takeR (Sep.takeL H 2) 0), ?_⟩
  show PR _ _ _ _ _ _ _ _
  refine PR_free (by rfl) (by rfl) (by rfl) (by exact wn0 rfl) (fun wS => (x_lss (by rfl) (by rfl))) ?_
  refine PR_free (by rfl) (by rfl) (by rfl) (by exact wn0 rfl) (fun wS => (x_assign (v := .bool (decide (v23 < 0))) (by rfl))) ?_
  refine PR_nil ?_
  refine W_ret ?_
  obtain rfl := Option.some.inj hm
  exact ⟨[.bool (decide (v23 < 0))], (.tmp (by rfl) rfl), rfl, H.none_⟩
end Go.Proofs.YtobkigllalbkiaaV.M
