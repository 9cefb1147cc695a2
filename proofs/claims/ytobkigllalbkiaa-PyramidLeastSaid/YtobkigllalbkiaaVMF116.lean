/- A plain Lean function that answers as the Go function does (none: not told), and the proof that a call answers so. Written by program. -/
import Derived.Test.YtobkigllalbkiaaVMTy
set_option linter.unusedVariables false
namespace Go.Proofs.YtobkigllalbkiaaV.M
open Go.RowKit Go.Proofs.YtobkigllalbkiaaV
def m116_l1b (K : Nat) (a0 : (List Int)) (rec1 : Int → Option (Int)) (y8_1 : Int) : Option (Int) :=
  (bif (decide (y8_1 < (a0.length : Int))) then (idx a0 y8_1 fun el7 => (bif (el7 != 0) then some el7 else (ck (y8_1 + 1) fun x14 => (rec1 x14)))) else some 0)
def m116_l1 (K : Nat) (a0 : (List Int)) : Nat → Int → Option (Int)
  | 0 => fun _ => none
  | k + 1 => m116_l1b K a0 (m116_l1 K a0 k)
/-- cmp.Or(int) -/
def m116 (K : Nat) (a0 : (List Int)) : Option (Int) :=
  m116_l1 K a0 K 0
set_option maxRecDepth 100000 in
set_option maxHeartbeats 4000000 in
theorem c116 (ok : Nat → Prop) (K : Nat) (w : World) (a0 : (List Int)) (A1 : Option Addr) (cp2 : Nat) (hR3 : Rd kInt w ok A1 cp2 a0) (res : Int) (hm : m116 K a0 = some res) :
    Calls Try.prog 116 #[.slice A1 a0.length cp2] w (fun e w' => e = .returned (tup [.int .i64 res]) ∧ Sep ok w w' [] []) := by
  refine calls_W (args := [.slice A1 a0.length cp2]) Try.func116 rfl Try.ntmps116 Try.results116 rfl fun r hr => ?_
  obtain ⟨r1, rfl⟩ := regen (r := r) [(0, .slice A1 a0.length cp2)] ⟨hr 0 _ rfl, trivial⟩
  have H : Sep ok w w [] [RE.rd kInt A1 cp2 a0] := Sep.arg (Sep.start ok w) (re := RE.rd kInt A1 cp2 a0) rfl rfl hR3
  unfold m116 at hm
  refine W_seq ?_
  refine W_region ?_
  refine RL_pure (by exact wn0 rfl) (by rfl) (by rfl) (x_assign (v := .int .i64 0) (by rfl)) ?_
  refine RL_nil ?_
  refine W_seq ?_
  refine W_region ?_
  refine RL_pure (by exact wn0 rfl) (by rfl) (by rfl) (x_assign (v := .int .i64 0) (by rfl)) ?_
  refine RL_nil ?_
  refine W_seq ?_
  refine W_seq ?_
  refine W_region ?_
  refine RL_pure (by exact wn0 rfl) (by rfl) (by rfl) (x_move (v := .slice A1 a0.length cp2) (by rfl)) ?_
  refine RL_pure (by exact wn0 rfl) (by rfl) (by rfl) (x_len sl23 (by rfl)) ?_
  refine RL_pure (by exact wn0 rfl) (by rfl) (by rfl) (x_move (v := .int .i64 0) (by rfl)) ?_
  refine RL_nil ?_
  refine W_block ?_
  refine W_loop (fun k1 r' w' => ∃ (y8_1 : Int), m116_l1 K a0 k1 y8_1 = some res ∧ Agr [(3, .int .i64 0), (6, .slice A1 a0.length cp2), (7, .int .i64 (a0.length : Int)), (8, .int .i64 y8_1)] r' ∧ Sep ok w w' [] [RE.rd kInt A1 cp2 a0]) K ?_ ?_
  · exact ⟨0, hm, ⟨rfl, rfl, rfl, rfl, trivial⟩, H⟩
  · rintro k1 r' w' ⟨y8_1, hm, hA, H⟩
    obtain ⟨r5, rfl⟩ := regen _ hA; clear hA
    obtain ⟨w6, rfl⟩ : ∃ W : World, W = w' := ⟨_, rfl⟩
    cases k1 with
    | zero => exact (none_some hm).elim
    | succ k1 =>
      have hm : m116_l1b K a0 (m116_l1 K a0 k1) y8_1 = some res := hm
      unfold m116_l1b at hm
      obtain ⟨rec1, hrec1⟩ : ∃ f, m116_l1 K a0 k1 = f := ⟨_, rfl⟩
      rw [hrec1] at hm
      refine W_seq ?_
      refine W_region ?_
      refine RL_pure (by exact wn0 rfl) (by rfl) (by rfl) (x_lss (by rfl) (by rfl)) ?_
      refine RL_nil ?_
      refine W_seq ?_
      refine W_cond (by rfl) (fun hb => ?_) (fun hb => ?_)
      · have hm := cond_t hb hm
        refine W_skip ?_
        refine W_seq ?_
        refine W_block ?_
        refine W_seq ?_
        refine W_region ?_
        obtain ⟨el7, h8, h9, he10, hm⟩ := idx_some hm
        obtain ⟨g12, o13, hA11⟩ := (H.rd (i := 0) (by rfl)).addr he10
        refine RL_pure (by exact wn0 rfl) (by rfl) (by rfl) (x_indexAddr sl23 sz3 (by rfl) (by rfl) hA11 h8 h9) ?_
        refine RL_pure (by exact wn0 rfl) (by rfl) (by rfl) (x_load (j := 0) (v := .int .i64 el7) sc3 (by rfl) (Rd.flatAt (n := 1) (H.rd (i := 0) (by rfl)) hA11 he10) (by rfl)) ?_
        refine RL_pure (by exact wn0 rfl) (by rfl) (by rfl) (x_assign (v := .int .i64 el7) (by rfl)) ?_
        refine RL_nil ?_
        refine W_seq ?_
        refine W_region ?_
        refine RL_pure (by exact wn0 rfl) (by rfl) (by rfl) (x_move (v := .int .i64 el7) (by rfl)) ?_
        refine RL_pure (by exact wn0 rfl) (by rfl) (by rfl) (x_move (v := .int .i64 0) (by rfl)) ?_
        refine RL_pure (by exact wn0 rfl) (by rfl) (by rfl) (x_neq (by rfl) (by rfl)) ?_
        refine RL_nil ?_
        refine W_cond (by rfl) (fun hb => ?_) (fun hb => ?_)
        · have hm := cond_t hb hm
          refine W_seq ?_
          refine W_region ?_
          refine RL_pure (by exact wn0 rfl) (by rfl) (by rfl) (x_move (v := .int .i64 el7) (by rfl)) ?_
          refine RL_pure (by exact wn0 rfl) (by rfl) (by rfl) (x_assign (v := .int .i64 el7) (by rfl)) ?_
          refine RL_nil ?_
          refine W_ret ?_
          obtain rfl := Option.some.inj hm
          exact ⟨[.int .i64 el7], (.tmp (by rfl) rfl), rfl, H.none_⟩
        · have hm := cond_f hb hm
          refine W_skip ?_
          refine W_region ?_
          obtain ⟨x14, ex14, qx14, ux14, hm⟩ := ck_some hm
          refine RL_pure (by exact wn0 rfl) (by rfl) (by rfl) (x_add (by rfl) (by rfl) ux14) ?_
          refine RL_pure (by exact wn0 rfl) (by rfl) (by rfl) (x_move (v := .int .i64 x14) (by rfl)) ?_
          refine RL_nil ?_
          subst hrec1
          exact ⟨k1, Nat.lt_succ_self k1, x14, hm, ⟨rfl, rfl, rfl, rfl, trivial⟩, H⟩
      · have hm := cond_f hb hm
        refine W_exit ?_
        refine W_seq ?_
        refine W_region ?_
        refine RL_pure (by exact wn0 rfl) (by rfl) (by rfl) (x_move (v := .int .i64 0) (by rfl)) ?_
        refine RL_pure (by exact wn0 rfl) (by rfl) (by rfl) (x_assign (v := .int .i64 0) (by rfl)) ?_
        refine RL_nil ?_
        refine W_ret ?_
        obtain rfl := Option.some.inj hm
        exact ⟨[.int .i64 0], (.tmp (by rfl) rfl), rfl, H.none_⟩
end Go.Proofs.YtobkigllalbkiaaV.M
