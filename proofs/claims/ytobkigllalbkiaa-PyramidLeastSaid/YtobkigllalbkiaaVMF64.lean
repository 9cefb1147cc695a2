/- A plain Lean function that answers as the Go function does (none: not told), and the proof that a call answers so. Written by program. -/
import Derived.Test.YtobkigllalbkiaaVMTy
set_option linter.unusedVariables false
namespace Go.Proofs.YtobkigllalbkiaaV.M
open Go.RowKit Go.Proofs.YtobkigllalbkiaaV
def m64_l1b (K : Nat) (a0 : (List Int)) (rec1 : Int → Int → Option (Int)) (y3_1 : Int) (y4_1 : Int) : Option (Int) :=
  (bif (decide (y4_1 < (a0.length : Int))) then (idx a0 y4_1 fun el14 => (ck (y4_1 + 1) fun x21 => (rec1 (mx y3_1 el14) x21))) else some y3_1)
def m64_l1 (K : Nat) (a0 : (List Int)) : Nat → Int → Int → Option (Int)
  | 0 => fun _ _ => none
  | k + 1 => m64_l1b K a0 (m64_l1 K a0 k)
/-- slices.Max(()int,int) -/
def m64 (K : Nat) (a0 : (List Int)) : Option (Int) :=
  (bif (decide ((a0.length : Int) < 1)) then none else (idx a0 0 fun el5 => m64_l1 K a0 K el5 1))
set_option maxRecDepth 100000 in
set_option maxHeartbeats 4000000 in
theorem c64 (ok : Nat → Prop) (K : Nat) (w : World) (a0 : (List Int)) (A1 : Option Addr) (cp2 : Nat) (hR3 : Rd kInt w ok A1 cp2 a0) (res : Int) (hm : m64 K a0 = some res) :
    Calls Try.prog 64 #[.slice A1 a0.length cp2] w (fun e w' => e = .returned (tup [.int .i64 res]) ∧ Sep ok w w' [] []) := by
  refine calls_W (args := [.slice A1 a0.length cp2]) Try.func64 rfl Try.ntmps64 Try.results64 rfl fun r hr => ?_
  obtain ⟨r1, rfl⟩ := regen (r := r) [(0, .slice A1 a0.length cp2)] ⟨hr 0 _ rfl, trivial⟩
  have H : Sep ok w w [] [RE.rd kInt A1 cp2 a0] := Sep.arg (Sep.start ok w) (re := RE.rd kInt A1 cp2 a0) rfl rfl hR3
  unfold m64 at hm
  refine W_seq ?_
  refine W_region ?_
  refine RL_pure (by exact wn0 rfl) (by rfl) (by rfl) (x_assign (v := .int .i64 0) (by rfl)) ?_
  refine RL_nil ?_
  refine W_seq ?_
  refine W_seq ?_
  refine W_region ?_
  refine RL_pure (by exact wn0 rfl) (by rfl) (by rfl) (x_move (v := .slice A1 a0.length cp2) (by rfl)) ?_
  refine RL_pure (by exact wn0 rfl) (by rfl) (by rfl) (x_len sl23 (by rfl)) ?_
  refine RL_pure (by exact wn0 rfl) (by rfl) (by rfl) (x_lss (by rfl) (by rfl)) ?_
  refine RL_nil ?_
  refine W_cond (by rfl) (fun hb => ?_) (fun hb => ?_)
  · have hm := cond_t hb hm
    exact (none_some hm).elim
  · have hm := cond_f hb hm
    refine W_skip ?_
    refine W_seq ?_
    refine W_region ?_
    refine RL_pure (by exact wn0 rfl) (by rfl) (by rfl) (x_move (v := .slice A1 a0.length cp2) (by rfl)) ?_
    obtain ⟨el5, h6, h7, he8, hm⟩ := idx_some hm
    obtain ⟨g10, o11, hA9⟩ := (H.rd (i := 0) (by rfl)).addr he8
    refine RL_pure (by exact wn0 rfl) (by rfl) (by rfl) (x_indexAddr sl23 sz3 (by rfl) (by rfl) hA9 h6 h7) ?_
    refine RL_pure (by exact wn0 rfl) (by rfl) (by rfl) (x_load (j := 0) (v := .int .i64 el5) sc3 (by rfl) (Rd.flatAt (n := 1) (H.rd (i := 0) (by rfl)) hA9 he8) (by rfl)) ?_
    refine RL_pure (by exact wn0 rfl) (by rfl) (by rfl) (x_assign (v := .int .i64 el5) (by rfl)) ?_
    refine RL_nil ?_
    refine W_seq ?_
    refine W_seq ?_
    refine W_region ?_
    refine RL_pure (by exact wn0 rfl) (by rfl) (by rfl) (x_assign (v := .int .i64 1) (by rfl)) ?_
    refine RL_nil ?_
    refine W_block ?_
    refine W_loop (fun k1 r' w' => ∃ (y3_1 : Int), ∃ (y4_1 : Int), m64_l1 K a0 k1 y3_1 y4_1 = some res ∧ Agr [(0, .slice A1 a0.length cp2), (3, .int .i64 y3_1), (4, .int .i64 y4_1)] r' ∧ Sep ok w w' [] [RE.rd kInt A1 cp2 a0]) K ?_ ?_
    · exact ⟨el5, 1, hm, ⟨rfl, rfl, rfl, trivial⟩, H⟩
    · rintro k1 r' w' ⟨y3_1, y4_1, hm, hA, H⟩
      obtain ⟨r12, rfl⟩ := regen _ hA; clear hA
      obtain ⟨w13, rfl⟩ : ∃ W : World, W = w' := ⟨_, rfl⟩
      cases k1 with
      | zero => exact (none_some hm).elim
      | succ k1 =>
        have hm : m64_l1b K a0 (m64_l1 K a0 k1) y3_1 y4_1 = some res := hm
        unfold m64_l1b at hm
        obtain ⟨rec1, hrec1⟩ : ∃ f, m64_l1 K a0 k1 = f := ⟨_, rfl⟩
        rw [hrec1] at hm
        refine W_seq ?_
        refine W_seq ?_
        refine W_region ?_
        refine RL_pure (by exact wn0 rfl) (by rfl) (by rfl) (x_move (v := .int .i64 y4_1) (by rfl)) ?_
        refine RL_pure (by exact wn0 rfl) (by rfl) (by rfl) (x_move (v := .slice A1 a0.length cp2) (by rfl)) ?_
        refine RL_pure (by exact wn0 rfl) (by rfl) (by rfl) (x_len sl23 (by rfl)) ?_
        refine RL_pure (by exact wn0 rfl) (by rfl) (by rfl) (x_lss (by rfl) (by rfl)) ?_
        refine RL_nil ?_
        refine W_cond (by rfl) (fun hb => ?_) (fun hb => ?_)
        · have hm := cond_t hb hm
          refine W_skip ?_
          refine W_seq ?_
          refine W_block ?_
          refine W_region ?_
          refine RL_pure (by exact wn0 rfl) (by rfl) (by rfl) (x_move (v := .int .i64 y3_1) (by rfl)) ?_
          refine RL_pure (by exact wn0 rfl) (by rfl) (by rfl) (x_move (v := .slice A1 a0.length cp2) (by rfl)) ?_
          refine RL_pure (by exact wn0 rfl) (by rfl) (by rfl) (x_move (v := .int .i64 y4_1) (by rfl)) ?_
          obtain ⟨el14, h15, h16, he17, hm⟩ := idx_some hm
          obtain ⟨g19, o20, hA18⟩ := (H.rd (i := 0) (by rfl)).addr he17
          refine RL_pure (by exact wn0 rfl) (by rfl) (by rfl) (x_indexAddr sl23 sz3 (by rfl) (by rfl) hA18 h15 h16) ?_
          refine RL_pure (by exact wn0 rfl) (by rfl) (by rfl) (x_load (j := 0) (v := .int .i64 el14) sc3 (by rfl) (Rd.flatAt (n := 1) (H.rd (i := 0) (by rfl)) hA18 he17) (by rfl)) ?_
          refine RL_pure (by exact wn0 rfl) (by rfl) (by rfl) (x_max2 (by rfl) (by rfl)) ?_
          refine RL_pure (by exact wn0 rfl) (by rfl) (by rfl) (x_assign (v := .int .i64 (mx y3_1 el14)) (by rfl)) ?_
          refine RL_nil ?_
          refine W_region ?_
          refine RL_pure (by exact wn0 rfl) (by rfl) (by rfl) (x_move (v := .int .i64 y4_1) (by rfl)) ?_
          obtain ⟨x21, ex21, qx21, ux21, hm⟩ := ck_some hm
          refine RL_pure (by exact wn0 rfl) (by rfl) (by rfl) (x_add (by rfl) (by rfl) ux21) ?_
          refine RL_pure (by exact wn0 rfl) (by rfl) (by rfl) (x_assign (v := .int .i64 x21) (by rfl)) ?_
          refine RL_nil ?_
          subst hrec1
          exact ⟨k1, Nat.lt_succ_self k1, (mx y3_1 el14), x21, hm, ⟨rfl, rfl, rfl, trivial⟩, H⟩
        · have hm := cond_f hb hm
          refine W_exit ?_
          refine W_seq ?_
          refine W_region ?_
          refine RL_pure (by exact wn0 rfl) (by rfl) (by rfl) (x_move (v := .int .i64 y3_1) (by rfl)) ?_
          refine RL_pure (by exact wn0 rfl) (by rfl) (by rfl) (x_assign (v := .int .i64 y3_1) (by rfl)) ?_
          refine RL_nil ?_
          refine W_ret ?_
          obtain rfl := Option.some.inj hm
          exact ⟨[.int .i64 y3_1], (.tmp (by rfl) rfl), rfl, H.none_⟩
end Go.Proofs.YtobkigllalbkiaaV.M
