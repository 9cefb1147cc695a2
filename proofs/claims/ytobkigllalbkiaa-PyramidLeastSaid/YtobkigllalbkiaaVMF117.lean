/- A plain Lean function that answers as the Go function does (none: not told), and the proof that a call answers so. Written by program. -/
import Derived.Test.YtobkigllalbkiaaVMTy
import Derived.Test.YtobkigllalbkiaaVMF134
set_option linter.unusedVariables false
namespace Go.Proofs.YtobkigllalbkiaaV.M
open Go.RowKit Go.Proofs.YtobkigllalbkiaaV
/-- cmp.Compare(int) -/
def m117 (K : Nat) (a0 : Int) (a1 : Int) : Option (Int) :=
  ((m134 K a0).bind fun v2 => ((m134 K a1).bind fun v5 => (bif v2 then (bif v5 then some 0 else some (-1)) else (bif v5 then some 1 else (bif (decide (a0 < a1)) then some (-1) else (bif (decide (a1 < a0)) then some 1 else some 0))))))
set_option maxRecDepth 100000 in
set_option maxHeartbeats 4000000 in
theorem c117 (ok : Nat → Prop) (K : Nat) (w : World) (a0 : Int) (a1 : Int)  (res : Int) (hm : m117 K a0 a1 = some res) :
    Calls Try.prog 117 #[.int .i64 a0, .int .i64 a1] w (fun e w' => e = .returned (tup [.int .i64 res]) ∧ Sep ok w w' [] []) := by
  refine calls_W (args := [.int .i64 a0, .int .i64 a1]) Try.func117 rfl Try.ntmps117 Try.results117 rfl fun r hr => ?_
  obtain ⟨r1, rfl⟩ := regen (r := r) [(0, .int .i64 a0), (1, .int .i64 a1)] ⟨hr 0 _ rfl, hr 1 _ rfl, trivial⟩
  have H : Sep ok w w [] [] := Sep.start ok w
  unfold m117 at hm
  refine W_seq ?_
  refine W_region ?_
  refine RL_pure (by exact wn0 rfl) (by rfl) (by rfl) (x_assign (v := .int .i64 0) (by rfl)) ?_
  refine RL_nil ?_
  refine W_seq ?_
  refine W_region ?_
  refine RL_pure (by exact wn0 rfl) (by rfl) (by rfl) (x_move (v := .int .i64 a0) (by rfl)) ?_
  obtain ⟨v2, hv1, hm⟩ := bind_some hm
  refine RL_cons (O_call (by exact wn0 rfl) (by rfl) (by rfl) (x_callL (by rfl) (args := [.int .i64 a0]) (by rfl) (cf134 _ _)) (c134 (fun _ => True) K w a0  v2 hv1) ?_)
  rintro e w3 ⟨rfl, H2⟩
  have H : Sep ok w w3 [] [] := H.below H2.base
  clear H2
  refine ⟨_, rfl, ?_⟩
  show RL _ _ _ _ _ _ _
  refine RL_pure (by exact wn0 rfl) (by rfl) (by rfl) (x_assign (v := .bool v2) (by rfl)) ?_
  refine RL_nil ?_
  refine W_seq ?_
  refine W_region ?_
  refine RL_pure (by exact wn0 rfl) (by rfl) (by rfl) (x_move (v := .int .i64 a1) (by rfl)) ?_
  obtain ⟨v5, hv4, hm⟩ := bind_some hm
  refine RL_cons (O_call (by exact wn0 rfl) (by rfl) (by rfl) (x_callL (by rfl) (args := [.int .i64 a1]) (by rfl) (cf134 _ _)) (c134 (fun _ => True) K w3 a1  v5 hv4) ?_)
  rintro e w6 ⟨rfl, H2⟩
  have H : Sep ok w w6 [] [] := H.below H2.base
  clear H2
  refine ⟨_, rfl, ?_⟩
  show RL _ _ _ _ _ _ _
  refine RL_pure (by exact wn0 rfl) (by rfl) (by rfl) (x_assign (v := .bool v5) (by rfl)) ?_
  refine RL_nil ?_
  refine W_seq ?_
  refine W_seq ?_
  refine W_region ?_
  refine RL_pure (by exact wn0 rfl) (by rfl) (by rfl) (x_move (v := .bool v2) (by rfl)) ?_
  refine RL_nil ?_
  refine W_cond (by rfl) (fun hb => ?_) (fun hb => ?_)
  · have hm := cond_t hb hm
    refine W_seq ?_
    refine W_seq ?_
    refine W_region ?_
    refine RL_pure (by exact wn0 rfl) (by rfl) (by rfl) (x_move (v := .bool v5) (by rfl)) ?_
    refine RL_nil ?_
    refine W_cond (by rfl) (fun hb => ?_) (fun hb => ?_)
    · have hm := cond_t hb hm
      refine W_seq ?_
      refine W_region ?_
      refine RL_pure (by exact wn0 rfl) (by rfl) (by rfl) (x_assign (v := .int .i64 0) (by rfl)) ?_
      refine RL_nil ?_
      refine W_ret ?_
      obtain rfl := Option.some.inj hm
      exact ⟨[.int .i64 0], (.tmp (by rfl) rfl), rfl, H.none_⟩
    · have hm := cond_f hb hm
      refine W_skip ?_
      refine W_seq ?_
      refine W_region ?_
      refine RL_pure (by exact wn0 rfl) (by rfl) (by rfl) (x_assign (v := .int .i64 (-1)) (by rfl)) ?_
      refine RL_nil ?_
      refine W_ret ?_
      obtain rfl := Option.some.inj hm
      exact ⟨[.int .i64 (-1)], (.tmp (by rfl) rfl), rfl, H.none_⟩
  · have hm := cond_f hb hm
    refine W_skip ?_
    refine W_seq ?_
    refine W_seq ?_
    refine W_region ?_
    refine RL_pure (by exact wn0 rfl) (by rfl) (by rfl) (x_move (v := .bool v5) (by rfl)) ?_
    refine RL_nil ?_
    refine W_cond (by rfl) (fun hb => ?_) (fun hb => ?_)
    · have hm := cond_t hb hm
      refine W_seq ?_
      refine W_region ?_
      refine RL_pure (by exact wn0 rfl) (by rfl) (by rfl) (x_assign (v := .int .i64 1) (by rfl)) ?_
      refine RL_nil ?_
      refine W_ret ?_
      obtain rfl := Option.some.inj hm
      exact ⟨[.int .i64 1], (.tmp (by rfl) rfl), rfl, H.none_⟩
    · have hm := cond_f hb hm
      refine W_skip ?_
      refine W_seq ?_
      refine W_seq ?_
      refine W_region ?_
      refine RL_pure (by exact wn0 rfl) (by rfl) (by rfl) (x_move (v := .int .i64 a0) (by rfl)) ?_
      refine RL_pure (by exact wn0 rfl) (by rfl) (by rfl) (x_move (v := .int .i64 a1) (by rfl)) ?_
      refine RL_pure (by exact wn0 rfl) (by rfl) (by rfl) (x_lss (by rfl) (by rfl)) ?_
      refine RL_nil ?_
      refine W_cond (by rfl) (fun hb => ?_) (fun hb => ?_)
      · have hm := cond_t hb hm
        refine W_seq ?_
        refine W_region ?_
        refine RL_pure (by exact wn0 rfl) (by rfl) (by rfl) (x_assign (v := .int .i64 (-1)) (by rfl)) ?_
        refine RL_nil ?_
        refine W_ret ?_
        obtain rfl := Option.some.inj hm
        exact ⟨[.int .i64 (-1)], (.tmp (by rfl) rfl), rfl, H.none_⟩
      · have hm := cond_f hb hm
        refine W_skip ?_
        refine W_seq ?_
        refine W_seq ?_
        refine W_region ?_
        refine RL_pure (by exact wn0 rfl) (by rfl) (by rfl) (x_move (v := .int .i64 a0) (by rfl)) ?_
        refine RL_pure (by exact wn0 rfl) (by rfl) (by rfl) (x_move (v := .int .i64 a1) (by rfl)) ?_
        refine RL_pure (by exact wn0 rfl) (by rfl) (by rfl) (x_gtr (by rfl) (by rfl)) ?_
        refine RL_nil ?_
        refine W_cond (by rfl) (fun hb => ?_) (fun hb => ?_)
        · have hm := cond_t hb hm
          refine W_seq ?_
          refine W_region ?_
          refine RL_pure (by exact wn0 rfl) (by rfl) (by rfl) (x_assign (v := .int .i64 1) (by rfl)) ?_
          refine RL_nil ?_
          refine W_ret ?_
          obtain rfl := Option.some.inj hm
          exact ⟨[.int .i64 1], (.tmp (by rfl) rfl), rfl, H.none_⟩
        · have hm := cond_f hb hm
          refine W_skip ?_
          refine W_seq ?_
          refine W_region ?_
          refine RL_pure (by exact wn0 rfl) (by rfl) (by rfl) (x_assign (v := .int .i64 0) (by rfl)) ?_
          refine RL_nil ?_
          refine W_ret ?_
          obtain rfl := Option.some.inj hm
          exact ⟨[.int .i64 0], (.tmp (by rfl) rfl), rfl, H.none_⟩
end Go.Proofs.YtobkigllalbkiaaV.M
