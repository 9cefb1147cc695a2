/- A plain Lean function that answers as the Go function does (none: not told), and the proof that a call answers so. Written by program. -/
import Derived.Test.YtobkigllalbkiaaVMTy
set_option linter.unusedVariables false
namespace Go.Proofs.YtobkigllalbkiaaV.M
open Go.RowKit Go.Proofs.YtobkigllalbkiaaV
/-- diorama/dioramalaw27.row -/
def m36 (K : Nat) (a0 : Int) : Option (S_Rect) :=
  some (⟨0, 0, a0, 0⟩ : S_Rect)
set_option maxRecDepth 100000 in
set_option maxHeartbeats 4000000 in
theorem c36 (ok : Nat → Prop) (K : Nat) (w : World) (a0 : Int)  (res : S_Rect) (hm : m36 K a0 = some res) :
    Calls Try.prog 36 #[.int .i64 a0] w (fun e w' => e = .returned (tup [.agg #[.int .i64 res.X0, .int .i64 res.Y0, .int .i64 res.X1, .int .i64 res.Y1]]) ∧ Sep ok w w' [] []) := by
  refine calls_W (args := [.int .i64 a0]) Try.func36 rfl Try.ntmps36 Try.results36 rfl fun r hr => ?_
  obtain ⟨r1, rfl⟩ := regen (r := r) [(0, .int .i64 a0)] ⟨hr 0 _ rfl, trivial⟩
  have H : Sep ok w w [] [] := Sep.start ok w
  unfold m36 at hm
  refine W_seq ?_
  refine W_region ?_
  refine RL_cons (O_alloc (by exact wn0 rfl) (by rfl) ze30 (by rfl) H (fun w2 b1 (H : Sep ok w w2 [.blk b1 30 [.int .i64 0, .int .i64 0, .int .i64 0, .int .i64 0]] []) => ?_))
  refine RL_nil ?_
  refine W_seq ?_
  refine W_region ?_
  refine RL_pure (by exact wn0 rfl) (by rfl) (by rfl) (x_move (v := .int .i64 a0) (by rfl)) ?_
  refine RL_pure (by exact wn0 rfl) (by rfl) (by rfl) (x_build (vs := [(2, .int .i64 a0)]) (cs := [.int .i64 0, .int .i64 0, .int .i64 a0, .int .i64 0]) (by rfl) (by kernel_rfl)) ?_
  refine RL_cons (O_store (i := 0) (off := 0) (by exact wn0 rfl) (by rfl) (by rfl) H (by rfl) (vs := [.int .i64 0, .int .i64 0, .int .i64 a0, .int .i64 0]) (by rfl) sz30 (by rfl) (by rfl) (by rfl) (fun w3 (H : Sep ok w w3 [.blk b1 30 [.int .i64 0, .int .i64 0, .int .i64 a0, .int .i64 0]] []) => ?_))
  refine RL_nil ?_
  refine W_ret ?_
  obtain rfl := Option.some.inj hm
  exact ⟨[.agg #[.int .i64 0, .int .i64 0, .int .i64 a0, .int .i64 0]], (.cellA (by rfl) ag30 (H.cells (i := 0) (by rfl)) (by rfl) rfl), rfl, H.none_⟩
end Go.Proofs.YtobkigllalbkiaaV.M
