/- A plain Lean function that answers as the Go function does (none: not told), and the proof that a call answers so. Written by program. -/
import Derived.Test.YtobkigllalbkiaaVMTy
set_option linter.unusedVariables false
namespace Go.Proofs.YtobkigllalbkiaaV.M
open Go.RowKit Go.Proofs.YtobkigllalbkiaaV

/-- slices.Clone -/
def m113 (K : Nat) (a0 : List (Ar4 Int)) : Option (List (Ar4 Int)) := apds 4 ([] : List (Ar4 Int)) a0 fun l => some l
set_option maxRecDepth 100000 in
set_option maxHeartbeats 4000000 in
theorem c113 (ok : Nat → Prop) (K : Nat) (w : World) (a0 : List (Ar4 Int)) (A1 : Option Addr) (c2 : Nat) (hR3 : Rd k_Ar4_Int w ok A1 c2 a0) (res : List (Ar4 Int)) (hm : m113 K a0 = some res) :
    Calls Try.prog 113 #[.slice A1 a0.length c2] w (fun e w' => ∃ (A0_ : Option Addr) (c0_ : Nat) (sA0_ : List Value), e = .returned (tup [.slice A0_ res.length c0_]) ∧ Sep ok w w' [.row (.slice A0_ res.length c0_) 61 k_Ar4_Int.sz res.length sA0_] [RE.chunks k_Ar4_Int sA0_ res]) := by
  refine calls_W (args := [.slice A1 a0.length c2]) Try.func113 rfl Try.ntmps113 Try.results113 rfl fun r hr => ?_
  obtain ⟨r1, rfl⟩ := regen (r := r) [(0, .slice A1 a0.length c2)] ⟨hr 0 _ rfl, trivial⟩
  have H : Sep ok w w [] [RE.rd k_Ar4_Int A1 c2 a0] := Sep.arg (Sep.start ok w) (re := RE.rd k_Ar4_Int A1 c2 a0) rfl rfl hR3
  unfold m113 at hm
  obtain ⟨ys, hys, hbb, hm⟩ := apds_some hm
  obtain rfl := Option.some.inj hm
  refine W_seq ?_
  refine W_region ?_
  refine RL_pure (by exact wn0 rfl) (by rfl) (by rfl) (x_assign (v := .slice none 0 0) (by rfl)) ?_
  refine RL_nil ?_
  refine W_seq ?_
  refine W_seq ?_
  refine W_region ?_
  refine RL_pure (by exact wn0 rfl) (by rfl) (by rfl) (x_move (v := .slice A1 a0.length c2) (by rfl)) ?_
  refine RL_pure (by exact wn0 rfl) (by rfl) (by rfl) (x_eqnil sl22 (by rfl)) ?_
  refine RL_nil ?_
  refine W_cond (by rfl) (fun hb => ?_) (fun hb => ?_)
  · have hnil : a0 = [] := by
      by_cases hne : a0 = []
      · exact hne
      · obtain ⟨g, o, hA, _⟩ := hR3.2.2 hne
        rw [hA] at hb; cases hb
    refine W_seq ?_
    refine W_region ?_
    refine RL_pure (by exact wn0 rfl) (by rfl) (by rfl) (x_assign (v := .slice none 0 0) (by rfl)) ?_
    refine RL_nil ?_
    refine W_ret ?_
    subst hnil
    obtain rfl : [] = ys := hys
    have H := H.nilRowK 61 k_Ar4_Int
    exact ⟨[.slice none 0 0], (.tmp (by rfl) rfl), none, 0, [], rfl, H.pick [1]⟩
  · refine W_skip ?_
    refine W_seq ?_
    refine W_region ?_
    refine RL_cons (O_buildSlice0 (D := k_Ar4_Int) (by exact wn0 rfl) (by rfl) sl22 sz61 H (fun w4 b5 (H : Sep ok w w4 [.row (.slice (some ⟨b5, 0, none⟩) 0 0) 61 k_Ar4_Int.sz 0 []] [RE.rd k_Ar4_Int A1 c2 a0, RE.chunks k_Ar4_Int [] []]) => ?_))
    refine RL_pure (by exact wn0 rfl) (by rfl) (by rfl) (x_move (v := .slice A1 a0.length c2) (by rfl)) ?_
    refine RL_cons (O_appendAll (D := k_Ar4_Int) (xs := ([] : List (Ar4 Int))) (i := 0) (j := 1) (zs := a0) (by exact wn0 rfl) (by rfl) (by rfl) (by rfl) H (by rfl) (by rfl) (H.rd (i := 0) (by rfl)) hys sl22 sz61 by61 ze61 (by rfl) (by rfl) hbb (by rfl) (fun w6 A7 c8 cs9 (H : Sep ok w w6 [.row (.slice A7 ys.length c8) 61 k_Ar4_Int.sz ys.length cs9] [RE.rd k_Ar4_Int A1 c2 a0, RE.chunks k_Ar4_Int cs9 ys]) => ?_))
    refine RL_pure (by exact wn0 rfl) (by rfl) (by rfl) (x_assign (v := .slice A7 ys.length c8) (by rfl)) ?_
    refine RL_nil ?_
    refine W_ret ?_
    exact ⟨[.slice A7 ys.length c8], (.tmp (by rfl) rfl), A7, c8, cs9, rfl, H.pick [1]⟩
end Go.Proofs.YtobkigllalbkiaaV.M
