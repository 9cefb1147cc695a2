/- A plain Lean function that answers as the Go function does (none: not told), and the proof that a call answers so. Written by program. -/
import Derived.Test.YtobkigllalbkiaaVMTy
set_option linter.unusedVariables false
namespace Go.Proofs.YtobkigllalbkiaaV.M
open Go.RowKit Go.Proofs.YtobkigllalbkiaaV
/-- diorama/frame.deep -/
def m70 (K : Nat) (a0 : Int) : Option (Bool) :=
  ((bif (decide ((-1024) ≤ a0)) then some (decide (a0 ≤ 66560)) else some false).bind fun b1 => some b1)
set_option maxRecDepth 100000 in
set_option maxHeartbeats 4000000 in
theorem c70 (ok : Nat → Prop) (K : Nat) (w : World) (a0 : Int)  (res : Bool) (hm : m70 K a0 = some res) :
    Calls Try.prog 70 #[.int .i64 a0] w (fun e w' => e = .returned (tup [.bool res]) ∧ Sep ok w w' [] []) := by
  refine calls_W (args := [.int .i64 a0]) Try.func70 rfl Try.ntmps70 Try.results70 rfl fun r hr => ?_
  obtain ⟨r1, rfl⟩ := regen (r := r) [(0, .int .i64 a0)] ⟨hr 0 _ rfl, trivial⟩
  have H : Sep ok w w [] [] := Sep.start ok w
  unfold m70 at hm
  refine W_seq ?_
  refine W_region ?_
  refine RL_pure (by exact wn0 rfl) (by rfl) (by rfl) (x_assign (v := .bool false) (by rfl)) ?_
  refine RL_nil ?_
  refine W_seq ?_
  refine W_region ?_
  refine RL_pure (by exact wn0 rfl) (by rfl) (by rfl) (x_move (v := .int .i64 a0) (by rfl)) ?_
  refine RL_pure (by exact wn0 rfl) (by rfl) (by rfl) (x_geq (by rfl) (by rfl)) ?_
  refine RL_pure (by exact wn0 rfl) (by rfl) (by rfl) (x_move (v := .bool (decide ((-1024) ≤ a0))) (by rfl)) ?_
  obtain ⟨b1, hmS, hm⟩ := bind_some hm
  refine RL_cut 3 (fun r' w' => Agr [(8, .bool b1)] r' ∧ Sep ok w w' [] []) ?_ ?_
  · cases hbS : (decide ((-1024) ≤ a0))
    · have hm := cond_f hbS hmS
      refine RL_cons (OpR_off (by exact wn2 rfl rfl rfl rfl) (by rfl) (by rfl) ?_)
      refine RL_cons (OpR_off (by exact wn2 rfl rfl rfl rfl) (by rfl) (by rfl) ?_)
      refine RL_pure (by exact wn0 rfl) (by rfl) (by rfl) (x_pick_f (v := .bool false) (by rfl) (by rfl)) ?_
      refine RL_nil ?_
      exact ⟨⟨congrArg Value.bool (Option.some.inj hm), trivial⟩, H⟩
    · have hm := cond_t hbS hmS
      refine RL_pure (by exact wn1 rfl rfl rfl rfl) (by rfl) (by rfl) (x_move (v := .int .i64 a0) (by rfl)) ?_
      refine RL_pure (by exact wn1 rfl rfl rfl rfl) (by rfl) (by rfl) (x_leq (by rfl) (by rfl)) ?_
      refine RL_pure (by exact wn0 rfl) (by rfl) (by rfl) (x_pick_t (v := .bool (decide (a0 ≤ 66560))) (by rfl) (by rfl)) ?_
      refine RL_nil ?_
      exact ⟨⟨congrArg Value.bool (Option.some.inj hm), trivial⟩, H⟩
  · rintro r' w' ⟨hA, H⟩
    obtain ⟨r2, rfl⟩ := regen _ hA; clear hA
    obtain ⟨w3, rfl⟩ : ∃ W : World, W = w' := ⟨_, rfl⟩
    show RL _ _ _ _ _ _ _
    refine RL_pure (by exact wn0 rfl) (by rfl) (by rfl) (x_assign (v := .bool b1) (by rfl)) ?_
    refine RL_nil ?_
    refine W_ret ?_
    obtain rfl := Option.some.inj hm
    exact ⟨[.bool b1], (.tmp (by rfl) rfl), rfl, H.none_⟩
end Go.Proofs.YtobkigllalbkiaaV.M
