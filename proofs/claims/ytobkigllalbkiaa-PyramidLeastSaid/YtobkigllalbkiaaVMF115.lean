/- A plain Lean function that answers as the Go function does (none: not told), and the proof that a call answers so. Written by program. -/
import Derived.Test.YtobkigllalbkiaaVMTy
import Derived.Test.YtobkigllalbkiaaVMF133
set_option linter.unusedVariables false
namespace Go.Proofs.YtobkigllalbkiaaV.M
open Go.RowKit Go.Proofs.YtobkigllalbkiaaV
/-- math/bits.Mul -/
def m115 (K : Nat) (a0 : Int) (a1 : Int) : Option (Int × Int) :=
  ((m133 K a0 a1).bind fun v2 => some (v2.1, v2.2))
set_option maxRecDepth 100000 in
set_option maxHeartbeats 4000000 in
theorem c115 (ok : Nat → Prop) (K : Nat) (w : World) (a0 : Int) (a1 : Int)  (res : Int × Int) (hm : m115 K a0 a1 = some res) :
    Calls Try.prog 115 #[.int .u64 a0, .int .u64 a1] w (fun e w' => e = .returned (tup [.int .u64 res.1, .int .u64 res.2]) ∧ Sep ok w w' [] []) := by
  refine calls_W (args := [.int .u64 a0, .int .u64 a1]) Try.func115 rfl Try.ntmps115 Try.results115 rfl fun r hr => ?_
  obtain ⟨r1, rfl⟩ := regen (r := r) [(0, .int .u64 a0), (1, .int .u64 a1)] ⟨hr 0 _ rfl, hr 1 _ rfl, trivial⟩
  have H : Sep ok w w [] [] := Sep.start ok w
  unfold m115 at hm
  refine W_seq ?_
  refine W_region ?_
  refine RL_pure (by exact wn0 rfl) (by rfl) (by rfl) (x_assign (v := .int .u64 0) (by rfl)) ?_
  refine RL_pure (by exact wn0 rfl) (by rfl) (by rfl) (x_assign (v := .int .u64 0) (by rfl)) ?_
  refine RL_nil ?_
  refine W_seq ?_
  refine W_cond (t := false) (by first | rfl | decide) (fun hb => by cases hb) (fun _ => ?_)
  refine W_skip ?_
  refine W_seq ?_
  refine W_region ?_
  refine RL_pure (by exact wn0 rfl) (by rfl) (by rfl) (x_move (v := .int .u64 a0) (by rfl)) ?_
  refine RL_pure (by exact wn0 rfl) (by rfl) (by rfl) (x_move (v := .int .u64 a1) (by rfl)) ?_
  obtain ⟨v2, hv1, hm⟩ := bind_some hm
  refine RL_cons (O_call (by exact wn0 rfl) (by rfl) (by rfl) (x_callL (by rfl) (args := [.int .u64 a0, .int .u64 a1]) (by rfl) (cf133 _ _)) (c133 (fun _ => True) K w a0 a1  v2 hv1) ?_)
  rintro e w3 ⟨rfl, H2⟩
  have H : Sep ok w w3 [] [] := H.below H2.base
  clear H2
  refine ⟨_, rfl, ?_⟩
  show RL _ _ _ _ _ _ _
  refine RL_pure (by exact wn0 rfl) (by rfl) (by rfl) (x_move (v := tup [.int .u64 v2.1, .int .u64 v2.2]) (by rfl)) ?_
  refine RL_pure (by exact wn0 rfl) (by rfl) (by rfl) (x_extract (v := .int .u64 v2.1) (by rfl) (by rfl)) ?_
  refine RL_pure (by exact wn0 rfl) (by rfl) (by rfl) (x_extract (v := .int .u64 v2.2) (by rfl) (by rfl)) ?_
  refine RL_pure (by exact wn0 rfl) (by rfl) (by rfl) (x_assign (v := .int .u64 v2.1) (by rfl)) ?_
  refine RL_pure (by exact wn0 rfl) (by rfl) (by rfl) (x_assign (v := .int .u64 v2.2) (by rfl)) ?_
  refine RL_nil ?_
  refine W_seq ?_
  refine W_region ?_
  refine RL_pure (by exact wn0 rfl) (by rfl) (by rfl) (x_move (v := .int .u64 v2.1) (by rfl)) ?_
  refine RL_pure (by exact wn0 rfl) (by rfl) (by rfl) (x_move (v := .int .u64 v2.2) (by rfl)) ?_
  refine RL_pure (by exact wn0 rfl) (by rfl) (by rfl) (x_assign (v := .int .u64 v2.1) (by rfl)) ?_
  refine RL_pure (by exact wn0 rfl) (by rfl) (by rfl) (x_assign (v := .int .u64 v2.2) (by rfl)) ?_
  refine RL_nil ?_
  refine W_ret ?_
  obtain rfl := Option.some.inj hm
  exact ⟨[.int .u64 v2.1, .int .u64 v2.2], (.tmp (by rfl) (.tmp (by rfl) rfl)), rfl, H.none_⟩
end Go.Proofs.YtobkigllalbkiaaV.M
