/- A plain Lean function that answers as the Go function does (none: not told), and the proof that a call answers so. Written by program. -/
import Derived.Test.YtobkigllalbkiaaVMTy
set_option linter.unusedVariables false
namespace Go.Proofs.YtobkigllalbkiaaV.M
open Go.RowKit Go.Proofs.YtobkigllalbkiaaV
def m77_l1b (K : Nat) (a0 : (List (Ar4 Int))) (a1 : (List (Ar4 Int))) (rec1 : Int → Option (Bool)) (y13_1 : Int) : Option (Bool) :=
  (bif (decide (y13_1 < (a0.length : Int))) then (idx a0 y13_1 fun el12 => (idx a1 y13_1 fun el19 => (bif (!((el12.a0 == el19.a0) && ((el12.a1 == el19.a1) && ((el12.a2 == el19.a2) && (el12.a3 == el19.a3))))) then some false else (ck (y13_1 + 1) fun x26 => (rec1 x26))))) else some true)
def m77_l1 (K : Nat) (a0 : (List (Ar4 Int))) (a1 : (List (Ar4 Int))) : Nat → Int → Option (Bool)
  | 0 => fun _ => none
  | k + 1 => m77_l1b K a0 a1 (m77_l1 K a0 a1 k)
/-- slices.Equal(()diorama/api.Color,diorama/api.Color) -/
def m77 (K : Nat) (a0 : (List (Ar4 Int))) (a1 : (List (Ar4 Int))) : Option (Bool) :=
  (bif ((a0.length : Int) != (a1.length : Int)) then some false else m77_l1 K a0 a1 K 0)
set_option maxRecDepth 100000 in
set_option maxHeartbeats 4000000 in
theorem c77 (ok : Nat → Prop) (K : Nat) (w : World) (a0 : (List (Ar4 Int))) (A1 : Option Addr) (cp2 : Nat) (a1 : (List (Ar4 Int))) (A5 : Option Addr) (cp6 : Nat) (hR3 : Rd k_Ar4_Int w ok A1 cp2 a0) (hR7 : Rd k_Ar4_Int w ok A5 cp6 a1) (res : Bool) (hm : m77 K a0 a1 = some res) :
    Calls Try.prog 77 #[.slice A1 a0.length cp2, .slice A5 a1.length cp6] w (fun e w' => e = .returned (tup [.bool res]) ∧ Sep ok w w' [] []) := by
  refine calls_W (args := [.slice A1 a0.length cp2, .slice A5 a1.length cp6]) Try.func77 rfl Try.ntmps77 Try.results77 rfl fun r hr => ?_
  obtain ⟨r1, rfl⟩ := regen (r := r) [(0, .slice A1 a0.length cp2), (1, .slice A5 a1.length cp6)] ⟨hr 0 _ rfl, hr 1 _ rfl, trivial⟩
  have H : Sep ok w w [] [RE.rd k_Ar4_Int A1 cp2 a0, RE.rd k_Ar4_Int A5 cp6 a1] := Sep.arg (Sep.arg (Sep.start ok w) (re := RE.rd k_Ar4_Int A1 cp2 a0) rfl rfl hR3) (re := RE.rd k_Ar4_Int A5 cp6 a1) rfl rfl hR7
  unfold m77 at hm
  refine W_seq ?_
  refine W_region ?_
  refine RL_pure (by exact wn0 rfl) (by rfl) (by rfl) (x_assign (v := .bool false) (by rfl)) ?_
  refine RL_nil ?_
  refine W_seq ?_
  refine W_seq ?_
  refine W_region ?_
  refine RL_pure (by exact wn0 rfl) (by rfl) (by rfl) (x_move (v := .slice A1 a0.length cp2) (by rfl)) ?_
  refine RL_pure (by exact wn0 rfl) (by rfl) (by rfl) (x_len sl22 (by rfl)) ?_
  refine RL_pure (by exact wn0 rfl) (by rfl) (by rfl) (x_move (v := .slice A5 a1.length cp6) (by rfl)) ?_
  refine RL_pure (by exact wn0 rfl) (by rfl) (by rfl) (x_len sl22 (by rfl)) ?_
  refine RL_pure (by exact wn0 rfl) (by rfl) (by rfl) (x_neq (by rfl) (by rfl)) ?_
  refine RL_nil ?_
  refine W_cond (by rfl) (fun hb => ?_) (fun hb => ?_)
  · have hm := cond_t hb hm
    refine W_seq ?_
    refine W_region ?_
    refine RL_pure (by exact wn0 rfl) (by rfl) (by rfl) (x_assign (v := .bool false) (by rfl)) ?_
    refine RL_nil ?_
    refine W_ret ?_
    obtain rfl := Option.some.inj hm
    exact ⟨[.bool false], (.tmp (by rfl) rfl), rfl, H.none_⟩
  · have hm := cond_f hb hm
    refine W_skip ?_
    refine W_seq ?_
    refine W_seq ?_
    refine W_region ?_
    refine RL_pure (by exact wn0 rfl) (by rfl) (by rfl) (x_move (v := .slice A1 a0.length cp2) (by rfl)) ?_
    refine RL_pure (by exact wn0 rfl) (by rfl) (by rfl) (x_len sl22 (by rfl)) ?_
    refine RL_pure (by exact wn0 rfl) (by rfl) (by rfl) (x_move (v := .int .i64 0) (by rfl)) ?_
    refine RL_nil ?_
    refine W_block ?_
    refine W_loop (fun k1 r' w' => ∃ (y13_1 : Int), m77_l1 K a0 a1 k1 y13_1 = some res ∧ Agr [(0, .slice A1 a0.length cp2), (1, .slice A5 a1.length cp6), (12, .int .i64 (a0.length : Int)), (13, .int .i64 y13_1)] r' ∧ Sep ok w w' [] [RE.rd k_Ar4_Int A1 cp2 a0, RE.rd k_Ar4_Int A5 cp6 a1]) K ?_ ?_
    · exact ⟨0, hm, ⟨rfl, rfl, rfl, rfl, trivial⟩, H⟩
    · rintro k1 r' w' ⟨y13_1, hm, hA, H⟩
      obtain ⟨r9, rfl⟩ := regen _ hA; clear hA
      obtain ⟨w10, rfl⟩ : ∃ W : World, W = w' := ⟨_, rfl⟩
      cases k1 with
      | zero => exact (none_some hm).elim
      | succ k1 =>
        have hm : m77_l1b K a0 a1 (m77_l1 K a0 a1 k1) y13_1 = some res := hm
        unfold m77_l1b at hm
        obtain ⟨rec1, hrec1⟩ : ∃ f, m77_l1 K a0 a1 k1 = f := ⟨_, rfl⟩
        rw [hrec1] at hm
        refine W_seq ?_
        refine W_region ?_
        refine RL_pure (by exact wn0 rfl) (by rfl) (by rfl) (x_lss (by rfl) (by rfl)) ?_
        refine RL_nil ?_
        refine W_seq ?_
        refine W_cond (by rfl) (fun hb => ?_) (fun hb => ?_)
        · have hm := cond_t hb hm
          refine W_skip ?_
          refine W_seq ?_
          refine W_block ?_
          refine W_seq ?_
          refine W_region ?_
          refine RL_pure (by exact wn0 rfl) (by rfl) (by rfl) (x_move (v := .int .i64 y13_1) (by rfl)) ?_
          refine RL_pure (by exact wn0 rfl) (by rfl) (by rfl) (x_assign (v := .int .i64 y13_1) (by rfl)) ?_
          refine RL_nil ?_
          refine W_seq ?_
          refine W_draw [.free 0, .free 1, .free 2, .take 3, .free 4, .free 5, .free 6, .take 7, .free 8] (fun wS => Sep ok w wS [] [RE.rd k_Ar4_Int A1 cp2 a0, RE.rd k_Ar4_Int A5 cp6 a1]) [] [0, 1, 2, 4, 5, 6, 8] mixed0 (by kernel_rfl) (by kernel_rfl) (by kernel_rfl) (by rfl) (by exact H.drew) ?_
          obtain ⟨w11, hW⟩ : ∃ W : World, W = { w10 with drawn := w10.drawn + 1 } := ⟨_, rfl⟩
          rw [← hW]
          have H : Sep ok w w11 [] [RE.rd k_Ar4_Int A1 cp2 a0, RE.rd k_Ar4_Int A5 cp6 a1] := by rw [hW]; exact H.drew
          clear hW
          refine PR_free (by rfl) (by rfl) (by rfl) (by exact wn0 rfl) (fun wS => (x_move (v := .slice A1 a0.length cp2) (by rfl))) ?_
          refine PR_free (by rfl) (by rfl) (by rfl) (by exact wn0 rfl) (fun wS => (x_move (v := .int .i64 y13_1) (by rfl))) ?_
          obtain ⟨el12, h13, h14, he15, hm⟩ := idx_some hm
          obtain ⟨g17, o18, hA16⟩ := (H.rd (i := 0) (by rfl)).addr he15
          refine PR_free (by rfl) (by rfl) (by rfl) (by exact wn0 rfl) (fun wS => (x_indexAddr sl22 sz61 (by rfl) (by rfl) hA16 h13 h14)) ?_
          refine PR_take (by rfl) (by rfl) (by rfl) (by exact wn0 rfl) (fun wS (H : Sep ok w wS [] [RE.rd k_Ar4_Int A1 cp2 a0, RE.rd k_Ar4_Int A5 cp6 a1]) => (x_loadA (j := 0) (vs := [.int .u8 el12.a0, .int .u8 el12.a1, .int .u8 el12.a2, .int .u8 el12.a3]) ag61 (by rfl) (Rd.flatAt (n := 4) (H.rd (i := 0) (by rfl)) hA16 he15) (by rfl) (by rfl))) ?_
          refine PR_free (by rfl) (by rfl) (by rfl) (by exact wn0 rfl) (fun wS => (x_move (v := .slice A5 a1.length cp6) (by rfl))) ?_
          refine PR_free (by rfl) (by rfl) (by rfl) (by exact wn0 rfl) (fun wS => (x_move (v := .int .i64 y13_1) (by rfl))) ?_
          obtain ⟨el19, h20, h21, he22, hm⟩ := idx_some hm
          obtain ⟨g24, o25, hA23⟩ := (H.rd (i := 1) (by rfl)).addr he22
          refine PR_free (by rfl) (by rfl) (by rfl) (by exact wn0 rfl) (fun wS => (x_indexAddr sl22 sz61 (by rfl) (by rfl) hA23 h20 h21)) ?_
          refine PR_take (by rfl) (by rfl) (by rfl) (by exact wn0 rfl) (fun wS (H : Sep ok w wS [] [RE.rd k_Ar4_Int A1 cp2 a0, RE.rd k_Ar4_Int A5 cp6 a1]) => (x_loadA (j := 0) (vs := [.int .u8 el19.a0, .int .u8 el19.a1, .int .u8 el19.a2, .int .u8 el19.a3]) ag61 (by rfl) (Rd.flatAt (n := 4) (H.rd (i := 1) (by rfl)) hA23 he22) (by rfl) (by rfl))) ?_
          refine PR_free (by rfl) (by rfl) (by rfl) (by exact wn0 rfl) (fun wS => (x_neqsArr ep61 eg61 (by rfl) (by rfl) (b := ((el12.a0 == el19.a0) && ((el12.a1 == el19.a1) && ((el12.a2 == el19.a2) && (el12.a3 == el19.a3))))) (by rfl))) ?_
          refine PR_nil ?_
          refine W_cond (by rfl) (fun hb => ?_) (fun hb => ?_)
          · have hm := cond_t hb hm
            refine W_seq ?_
            refine W_region ?_
            refine RL_pure (by exact wn0 rfl) (by rfl) (by rfl) (x_assign (v := .bool false) (by rfl)) ?_
            refine RL_nil ?_
            refine W_ret ?_
            obtain rfl := Option.some.inj hm
            exact ⟨[.bool false], (.tmp (by rfl) rfl), rfl, H.none_⟩
          · have hm := cond_f hb hm
            refine W_skip ?_
            refine W_region ?_
            obtain ⟨x26, ex26, qx26, ux26, hm⟩ := ck_some hm
            refine RL_pure (by exact wn0 rfl) (by rfl) (by rfl) (x_add (by rfl) (by rfl) ux26) ?_
            refine RL_pure (by exact wn0 rfl) (by rfl) (by rfl) (x_move (v := .int .i64 x26) (by rfl)) ?_
            refine RL_nil ?_
            subst hrec1
            exact ⟨k1, Nat.lt_succ_self k1, x26, hm, ⟨rfl, rfl, rfl, rfl, trivial⟩, H⟩
        · have hm := cond_f hb hm
          refine W_exit ?_
          refine W_seq ?_
          refine W_region ?_
          refine RL_pure (by exact wn0 rfl) (by rfl) (by rfl) (x_assign (v := .bool true) (by rfl)) ?_
          refine RL_nil ?_
          refine W_ret ?_
          obtain rfl := Option.some.inj hm
          exact ⟨[.bool true], (.tmp (by rfl) rfl), rfl, H.none_⟩
end Go.Proofs.YtobkigllalbkiaaV.M
