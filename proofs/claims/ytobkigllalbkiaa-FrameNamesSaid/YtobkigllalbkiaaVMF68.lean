/- A plain Lean function that answers as the Go function does (none: not told), and the proof that a call answers so. Written by program. -/
import Derived.Test.YtobkigllalbkiaaVMTy
set_option linter.unusedVariables false
namespace Go.Proofs.YtobkigllalbkiaaV.M
open Go.RowKit Go.Proofs.YtobkigllalbkiaaV
/-- diorama/dioramalaw25.blue -/
def m68 (K : Nat)  : Option ((Ar4 Int)) :=
  some (⟨0, 0, 255, 255⟩ : (Ar4 Int))
set_option maxRecDepth 100000 in
set_option maxHeartbeats 4000000 in
theorem c68 (ok : Nat → Prop) (K : Nat) (w : World)  (res : (Ar4 Int)) (hm : m68 K  = some res) :
    Calls Try.prog 68 #[] w (fun e w' => e = .returned (tup [.agg #[.int .u8 res.a0, .int .u8 res.a1, .int .u8 res.a2, .int .u8 res.a3]]) ∧ Sep ok w w' [] []) := by
  refine calls_W (args := []) Try.func68 rfl Try.ntmps68 Try.results68 rfl fun r hr => ?_
  obtain ⟨r1, rfl⟩ : ∃ R, R = r := ⟨_, rfl⟩
  have H : Sep ok w w [] [] := Sep.start ok w
  unfold m68 at hm
  refine W_seq ?_
  refine W_region ?_
  refine RL_cons (O_alloc (by exact wn0 rfl) (by rfl) ze61 (by rfl) H (fun w2 b1 (H : Sep ok w w2 [.blk b1 61 [.int .u8 0, .int .u8 0, .int .u8 0, .int .u8 0]] []) => ?_))
  refine RL_nil ?_
  refine W_seq ?_
  refine W_region ?_
  refine RL_pure (by exact wn0 rfl) (by rfl) (by rfl) (x_build (vs := [(0, .int .u8 0), (1, .int .u8 0), (2, .int .u8 255), (3, .int .u8 255)]) (cs := [.int .u8 0, .int .u8 0, .int .u8 255, .int .u8 255]) (by rfl) (by kernel_rfl)) ?_
  refine RL_cons (O_store (i := 0) (off := 0) (by exact wn0 rfl) (by rfl) (by rfl) H (by rfl) (vs := [.int .u8 0, .int .u8 0, .int .u8 255, .int .u8 255]) (by rfl) sz61 (by rfl) (by rfl) (by rfl) (fun w3 (H : Sep ok w w3 [.blk b1 61 [.int .u8 0, .int .u8 0, .int .u8 255, .int .u8 255]] []) => ?_))
  refine RL_nil ?_
  refine W_ret ?_
  obtain rfl := Option.some.inj hm
  exact ⟨[.agg #[.int .u8 0, .int .u8 0, .int .u8 255, .int .u8 255]], (.cellA (by rfl) ag61 (H.cells (i := 0) (by rfl)) (by rfl) rfl), rfl, H.none_⟩
end Go.Proofs.YtobkigllalbkiaaV.M
