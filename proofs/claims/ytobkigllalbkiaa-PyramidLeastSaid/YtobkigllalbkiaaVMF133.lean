/- A plain Lean function that answers as the Go function does (none: not told), and the proof that a call answers so. Written by program. -/
import Derived.Test.YtobkigllalbkiaaVMTy
set_option linter.unusedVariables false
namespace Go.Proofs.YtobkigllalbkiaaV.M
open Go.RowKit Go.Proofs.YtobkigllalbkiaaV
/-- math/bits.Mul64 -/
def m133 (K : Nat) (a0 : Int) (a1 : Int) : Option (Int × Int) :=
  (lete (andV .u64 a0 4294967295) fun x1 => (lete (shrV .u64 a0 32) fun x2 => (lete (andV .u64 a1 4294967295) fun x3 => (lete (shrV .u64 a1 32) fun x4 => (lete (IntKind.u64.wrap (x1 * x3)) fun x5 => (lete (IntKind.u64.wrap (x2 * x3)) fun x6 => (lete (shrV .u64 x5 32) fun x7 => (lete (IntKind.u64.wrap (x6 + x7)) fun x8 => (lete (andV .u64 x8 4294967295) fun x9 => (lete (shrV .u64 x8 32) fun x10 => (lete (IntKind.u64.wrap (x1 * x4)) fun x11 => (lete (IntKind.u64.wrap (x9 + x11)) fun x12 => (lete (IntKind.u64.wrap (x2 * x4)) fun x13 => (lete (IntKind.u64.wrap (x13 + x10)) fun x14 => (lete (shrV .u64 x12 32) fun x15 => (lete (IntKind.u64.wrap (x14 + x15)) fun x16 => (lete (IntKind.u64.wrap (a0 * a1)) fun x17 => some (x16, x17))))))))))))))))))
set_option maxRecDepth 100000 in
set_option maxHeartbeats 4000000 in
theorem c133 (ok : Nat → Prop) (K : Nat) (w : World) (a0 : Int) (a1 : Int)  (res : Int × Int) (hm : m133 K a0 a1 = some res) :
    Calls Try.prog 133 #[.int .u64 a0, .int .u64 a1] w (fun e w' => e = .returned (tup [.int .u64 res.1, .int .u64 res.2]) ∧ Sep ok w w' [] []) := by
  refine calls_W (args := [.int .u64 a0, .int .u64 a1]) Try.func133 rfl Try.ntmps133 Try.results133 rfl fun r hr => ?_
  obtain ⟨r1, rfl⟩ := regen (r := r) [(0, .int .u64 a0), (1, .int .u64 a1)] ⟨hr 0 _ rfl, hr 1 _ rfl, trivial⟩
  have H : Sep ok w w [] [] := Sep.start ok w
  unfold m133 at hm
  refine W_seq ?_
  refine W_region ?_
  refine RL_pure (by exact wn0 rfl) (by rfl) (by rfl) (x_assign (v := .int .u64 0) (by rfl)) ?_
  refine RL_pure (by exact wn0 rfl) (by rfl) (by rfl) (x_assign (v := .int .u64 0) (by rfl)) ?_
  refine RL_nil ?_
  refine W_seq ?_
  refine W_region ?_
  refine RL_pure (by exact wn0 rfl) (by rfl) (by rfl) (x_move (v := .int .u64 a0) (by rfl)) ?_
  obtain ⟨x1, ex1, hm⟩ := lete_some hm
  refine RL_pure (by exact wn0 rfl) (by rfl) (by rfl) (x_and (by rfl) (by rfl) ex1) ?_
  refine RL_pure (by exact wn0 rfl) (by rfl) (by rfl) (x_assign (v := .int .u64 x1) (by rfl)) ?_
  refine RL_nil ?_
  refine W_seq ?_
  refine W_region ?_
  refine RL_pure (by exact wn0 rfl) (by rfl) (by rfl) (x_move (v := .int .u64 a0) (by rfl)) ?_
  obtain ⟨x2, ex2, hm⟩ := lete_some hm
  refine RL_pure (by exact wn0 rfl) (by rfl) (by rfl) (x_shr (by rfl) (by rfl) (by decide) ex2) ?_
  refine RL_pure (by exact wn0 rfl) (by rfl) (by rfl) (x_assign (v := .int .u64 x2) (by rfl)) ?_
  refine RL_nil ?_
  refine W_seq ?_
  refine W_region ?_
  refine RL_pure (by exact wn0 rfl) (by rfl) (by rfl) (x_move (v := .int .u64 a1) (by rfl)) ?_
  obtain ⟨x3, ex3, hm⟩ := lete_some hm
  refine RL_pure (by exact wn0 rfl) (by rfl) (by rfl) (x_and (by rfl) (by rfl) ex3) ?_
  refine RL_pure (by exact wn0 rfl) (by rfl) (by rfl) (x_assign (v := .int .u64 x3) (by rfl)) ?_
  refine RL_nil ?_
  refine W_seq ?_
  refine W_region ?_
  refine RL_pure (by exact wn0 rfl) (by rfl) (by rfl) (x_move (v := .int .u64 a1) (by rfl)) ?_
  obtain ⟨x4, ex4, hm⟩ := lete_some hm
  refine RL_pure (by exact wn0 rfl) (by rfl) (by rfl) (x_shr (by rfl) (by rfl) (by decide) ex4) ?_
  refine RL_pure (by exact wn0 rfl) (by rfl) (by rfl) (x_assign (v := .int .u64 x4) (by rfl)) ?_
  refine RL_nil ?_
  refine W_seq ?_
  refine W_region ?_
  refine RL_pure (by exact wn0 rfl) (by rfl) (by rfl) (x_move (v := .int .u64 x1) (by rfl)) ?_
  refine RL_pure (by exact wn0 rfl) (by rfl) (by rfl) (x_move (v := .int .u64 x3) (by rfl)) ?_
  obtain ⟨x5, ex5, hm⟩ := lete_some hm
  refine RL_pure (by exact wn0 rfl) (by rfl) (by rfl) (x_mul (by rfl) (by rfl) ex5) ?_
  refine RL_pure (by exact wn0 rfl) (by rfl) (by rfl) (x_assign (v := .int .u64 x5) (by rfl)) ?_
  refine RL_nil ?_
  refine W_seq ?_
  refine W_region ?_
  refine RL_pure (by exact wn0 rfl) (by rfl) (by rfl) (x_move (v := .int .u64 x2) (by rfl)) ?_
  refine RL_pure (by exact wn0 rfl) (by rfl) (by rfl) (x_move (v := .int .u64 x3) (by rfl)) ?_
  obtain ⟨x6, ex6, hm⟩ := lete_some hm
  refine RL_pure (by exact wn0 rfl) (by rfl) (by rfl) (x_mul (by rfl) (by rfl) ex6) ?_
  refine RL_pure (by exact wn0 rfl) (by rfl) (by rfl) (x_move (v := .int .u64 x5) (by rfl)) ?_
  obtain ⟨x7, ex7, hm⟩ := lete_some hm
  refine RL_pure (by exact wn0 rfl) (by rfl) (by rfl) (x_shr (by rfl) (by rfl) (by decide) ex7) ?_
  obtain ⟨x8, ex8, hm⟩ := lete_some hm
  refine RL_pure (by exact wn0 rfl) (by rfl) (by rfl) (x_add (by rfl) (by rfl) ex8) ?_
  refine RL_pure (by exact wn0 rfl) (by rfl) (by rfl) (x_assign (v := .int .u64 x8) (by rfl)) ?_
  refine RL_nil ?_
  refine W_seq ?_
  refine W_region ?_
  refine RL_pure (by exact wn0 rfl) (by rfl) (by rfl) (x_move (v := .int .u64 x8) (by rfl)) ?_
  obtain ⟨x9, ex9, hm⟩ := lete_some hm
  refine RL_pure (by exact wn0 rfl) (by rfl) (by rfl) (x_and (by rfl) (by rfl) ex9) ?_
  refine RL_pure (by exact wn0 rfl) (by rfl) (by rfl) (x_assign (v := .int .u64 x9) (by rfl)) ?_
  refine RL_nil ?_
  refine W_seq ?_
  refine W_region ?_
  refine RL_pure (by exact wn0 rfl) (by rfl) (by rfl) (x_move (v := .int .u64 x8) (by rfl)) ?_
  obtain ⟨x10, ex10, hm⟩ := lete_some hm
  refine RL_pure (by exact wn0 rfl) (by rfl) (by rfl) (x_shr (by rfl) (by rfl) (by decide) ex10) ?_
  refine RL_pure (by exact wn0 rfl) (by rfl) (by rfl) (x_assign (v := .int .u64 x10) (by rfl)) ?_
  refine RL_nil ?_
  refine W_seq ?_
  refine W_region ?_
  refine RL_pure (by exact wn0 rfl) (by rfl) (by rfl) (x_move (v := .int .u64 x9) (by rfl)) ?_
  refine RL_pure (by exact wn0 rfl) (by rfl) (by rfl) (x_move (v := .int .u64 x1) (by rfl)) ?_
  refine RL_pure (by exact wn0 rfl) (by rfl) (by rfl) (x_move (v := .int .u64 x4) (by rfl)) ?_
  obtain ⟨x11, ex11, hm⟩ := lete_some hm
  refine RL_pure (by exact wn0 rfl) (by rfl) (by rfl) (x_mul (by rfl) (by rfl) ex11) ?_
  obtain ⟨x12, ex12, hm⟩ := lete_some hm
  refine RL_pure (by exact wn0 rfl) (by rfl) (by rfl) (x_add (by rfl) (by rfl) ex12) ?_
  refine RL_pure (by exact wn0 rfl) (by rfl) (by rfl) (x_assign (v := .int .u64 x12) (by rfl)) ?_
  refine RL_nil ?_
  refine W_seq ?_
  refine W_region ?_
  refine RL_pure (by exact wn0 rfl) (by rfl) (by rfl) (x_move (v := .int .u64 x2) (by rfl)) ?_
  refine RL_pure (by exact wn0 rfl) (by rfl) (by rfl) (x_move (v := .int .u64 x4) (by rfl)) ?_
  obtain ⟨x13, ex13, hm⟩ := lete_some hm
  refine RL_pure (by exact wn0 rfl) (by rfl) (by rfl) (x_mul (by rfl) (by rfl) ex13) ?_
  refine RL_pure (by exact wn0 rfl) (by rfl) (by rfl) (x_move (v := .int .u64 x10) (by rfl)) ?_
  obtain ⟨x14, ex14, hm⟩ := lete_some hm
  refine RL_pure (by exact wn0 rfl) (by rfl) (by rfl) (x_add (by rfl) (by rfl) ex14) ?_
  refine RL_pure (by exact wn0 rfl) (by rfl) (by rfl) (x_move (v := .int .u64 x12) (by rfl)) ?_
  obtain ⟨x15, ex15, hm⟩ := lete_some hm
  refine RL_pure (by exact wn0 rfl) (by rfl) (by rfl) (x_shr (by rfl) (by rfl) (by decide) ex15) ?_
  obtain ⟨x16, ex16, hm⟩ := lete_some hm
  refine RL_pure (by exact wn0 rfl) (by rfl) (by rfl) (x_add (by rfl) (by rfl) ex16) ?_
  refine RL_pure (by exact wn0 rfl) (by rfl) (by rfl) (x_assign (v := .int .u64 x16) (by rfl)) ?_
  refine RL_nil ?_
  refine W_seq ?_
  refine W_region ?_
  refine RL_pure (by exact wn0 rfl) (by rfl) (by rfl) (x_move (v := .int .u64 a0) (by rfl)) ?_
  refine RL_pure (by exact wn0 rfl) (by rfl) (by rfl) (x_move (v := .int .u64 a1) (by rfl)) ?_
  obtain ⟨x17, ex17, hm⟩ := lete_some hm
  refine RL_pure (by exact wn0 rfl) (by rfl) (by rfl) (x_mul (by rfl) (by rfl) ex17) ?_
  refine RL_pure (by exact wn0 rfl) (by rfl) (by rfl) (x_assign (v := .int .u64 x17) (by rfl)) ?_
  refine RL_nil ?_
  refine W_ret ?_
  obtain rfl := Option.some.inj hm
  exact ⟨[.int .u64 x16, .int .u64 x17], (.tmp (by rfl) (.tmp (by rfl) rfl)), rfl, H.none_⟩
end Go.Proofs.YtobkigllalbkiaaV.M
