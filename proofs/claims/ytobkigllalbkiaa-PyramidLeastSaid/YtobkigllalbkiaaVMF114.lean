/- A plain Lean function that answers as the Go function does (none: not told), and the proof that a call answers so. Written by program. -/
import Derived.Test.YtobkigllalbkiaaVMTy
set_option linter.unusedVariables false
namespace Go.Proofs.YtobkigllalbkiaaV.M
open Go.RowKit Go.Proofs.YtobkigllalbkiaaV
/-- diorama/shade.Over$1 -/
def m114 (K : Nat) (a0 : Int) (a1 : Int) (f0 : Int) : Option (Int) :=
  (ck a0 fun x4 => (ck (x4 * f0) fun x5 => (ck a1 fun x6 => (ck (255 - f0) fun x7 => (ck (x6 * x7) fun x8 => (ck (x5 + x8) fun x9 => (ck (Int.tdiv x9 255) fun x10 => some (IntKind.u8.wrap x10))))))))
set_option maxRecDepth 100000 in
set_option maxHeartbeats 4000000 in
theorem c114 (ok : Nat → Prop) (K : Nat) (w : World) (a0 : Int) (a1 : Int) (f0 : Int) (g1 : Nat) (hF2 : (RE.cells g1 (0) [.int .i64 f0]).rel w ok) (res : Int) (hm : m114 K a0 a1 f0 = some res) :
    Calls Try.prog 114 #[.int .u8 a0, .int .u8 a1, .pointer (some ⟨g1, 0, none⟩)] w (fun e w' => e = .returned (tup [.int .u8 res]) ∧ Sep ok w w' [] []) := by
  refine calls_W (args := [.int .u8 a0, .int .u8 a1, .pointer (some ⟨g1, 0, none⟩)]) Try.func114 rfl Try.ntmps114 Try.results114 rfl fun r hr => ?_
  obtain ⟨r1, rfl⟩ := regen (r := r) [(0, .int .u8 a0), (1, .int .u8 a1), (2, .pointer (some ⟨g1, 0, none⟩))] ⟨hr 0 _ rfl, hr 1 _ rfl, hr 2 _ rfl, trivial⟩
  have H : Sep ok w w [] [RE.cells g1 (0) [.int .i64 f0]] := Sep.arg (Sep.start ok w) (re := RE.cells g1 (0) [.int .i64 f0]) rfl rfl hF2
  unfold m114 at hm
  refine W_seq ?_
  refine W_region ?_
  refine RL_pure (by exact wn0 rfl) (by rfl) (by rfl) (x_assign (v := .int .u8 0) (by rfl)) ?_
  refine RL_nil ?_
  refine W_seq ?_
  refine W_region ?_
  refine RL_pure (by exact wn0 rfl) (by rfl) (by rfl) (x_move (v := .int .u8 a0) (by rfl)) ?_
  obtain ⟨x4, ex4, qx4, ux4, hm⟩ := ck_some hm
  refine RL_pure (by exact wn0 rfl) (by rfl) (by rfl) (x_conv is5 un3 (by rfl) ux4) ?_
  refine RL_pure (by exact wn0 rfl) (by rfl) (by rfl) (x_load (j := 0) (v := .int .i64 f0) sc3 (by rfl) (H.cellsR (i := 0) (by rfl)) (by rfl)) ?_
  obtain ⟨x5, ex5, qx5, ux5, hm⟩ := ck_some hm
  refine RL_pure (by exact wn0 rfl) (by rfl) (by rfl) (x_mul (by rfl) (by rfl) ux5) ?_
  refine RL_pure (by exact wn0 rfl) (by rfl) (by rfl) (x_move (v := .int .u8 a1) (by rfl)) ?_
  obtain ⟨x6, ex6, qx6, ux6, hm⟩ := ck_some hm
  refine RL_pure (by exact wn0 rfl) (by rfl) (by rfl) (x_conv is5 un3 (by rfl) ux6) ?_
  refine RL_pure (by exact wn0 rfl) (by rfl) (by rfl) (x_load (j := 0) (v := .int .i64 f0) sc3 (by rfl) (H.cellsR (i := 0) (by rfl)) (by rfl)) ?_
  obtain ⟨x7, ex7, qx7, ux7, hm⟩ := ck_some hm
  refine RL_pure (by exact wn0 rfl) (by rfl) (by rfl) (x_sub (by rfl) (by rfl) ux7) ?_
  obtain ⟨x8, ex8, qx8, ux8, hm⟩ := ck_some hm
  refine RL_pure (by exact wn0 rfl) (by rfl) (by rfl) (x_mul (by rfl) (by rfl) ux8) ?_
  obtain ⟨x9, ex9, qx9, ux9, hm⟩ := ck_some hm
  refine RL_pure (by exact wn0 rfl) (by rfl) (by rfl) (x_add (by rfl) (by rfl) ux9) ?_
  obtain ⟨x10, ex10, qx10, ux10, hm⟩ := ck_some hm
  refine RL_pure (by exact wn0 rfl) (by rfl) (by rfl) (x_quo (by rfl) (by rfl) (by decide) ux10) ?_
  refine RL_pure (by exact wn0 rfl) (by rfl) (by rfl) (x_conv is3 un5 (by rfl) rfl) ?_
  refine RL_pure (by exact wn0 rfl) (by rfl) (by rfl) (x_assign (v := .int .u8 (IntKind.u8.wrap x10)) (by rfl)) ?_
  refine RL_nil ?_
  refine W_ret ?_
  obtain rfl := Option.some.inj hm
  exact ⟨[.int .u8 (IntKind.u8.wrap x10)], (.tmp (by rfl) rfl), rfl, H.none_⟩
end Go.Proofs.YtobkigllalbkiaaV.M
