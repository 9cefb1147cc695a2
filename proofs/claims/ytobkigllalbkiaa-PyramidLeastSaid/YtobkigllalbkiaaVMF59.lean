/- A plain Lean function that answers as the Go function does (none: not told), and the proof that a call answers so. Written by program. -/
import Derived.Test.YtobkigllalbkiaaVMTy
set_option linter.unusedVariables false
namespace Go.Proofs.YtobkigllalbkiaaV.M
open Go.RowKit Go.Proofs.YtobkigllalbkiaaV

/-- slices.Clone -/
def m59 (K : Nat) (a0 : List Int) : Option (List Int) := apds 8 ([] : List Int) a0 fun l => some l
set_option maxRecDepth 100000 in
set_option maxHeartbeats 4000000 in
theorem c59 (ok : Nat → Prop) (K : Nat) (w : World) (a0 : List Int) (A1 : Option Addr) (c2 : Nat) (hR3 : Rd kInt w ok A1 c2 a0) (res : List Int) (hm : m59 K a0 = some res) :
    Calls Try.prog 59 #[.slice A1 a0.length c2] w (fun e w' => ∃ (A0_ : Option Addr) (c0_ : Nat) (sA0_ : List Value), e = .returned (tup [.slice A0_ res.length c0_]) ∧ Sep ok w w' [.row (.slice A0_ res.length c0_) 3 kInt.sz res.length sA0_] [RE.chunks kInt sA0_ res]) := by
  refine calls_W (args := [.slice A1 a0.length c2]) Try.func59 rfl Try.ntmps59 Try.results59 rfl fun r hr => ?_
  obtain ⟨r1, rfl⟩ := regen (r := r) [(0, .slice A1 a0.length c2)] ⟨hr 0 _ rfl, trivial⟩
  have H : Sep ok w w [] [RE.rd kInt A1 c2 a0] := Sep.arg (Sep.start ok w) (re := RE.rd kInt A1 c2 a0) rfl rfl hR3
  unfold m59 at hm
  obtain ⟨ys, hys, hbb, hm⟩ := apds_some hm
  obtain rfl := Option.some.inj hm
  refine W_seq ?_
  refine W_region ?_
  refine RL_pure (by exact wn0 rfl) (by rfl) (by rfl) (x_assign (v := .slice none 0 0) (by rfl)) ?_
  refine RL_nil ?_
  refine W_seq ?_
  refine W_seq ?_
  refine W_region ?_
  refine RL_pure (by exact wn0 rfl) (by rfl) (by rfl) (x_move (v := .slice A1 a0.length c2) (by rfl)) ?_
  refine RL_pure (by exact wn0 rfl) (by rfl) (by rfl) (x_eqnil sl23 (by rfl)) ?_
  refine RL_nil ?_
  refine W_cond (by rfl) (fun hb => ?_) (fun hb => ?_)
  · have hnil : a0 = [] := by
      by_cases hne : a0 = []
      · exact hne
      · obtain ⟨g, o, hA, _⟩ := hR3.2.2 hne
        rw [hA] at hb; cases hb
    refine W_seq ?_
    refine W_region ?_
    refine RL_pure (by exact wn0 rfl) (by rfl) (by rfl) (x_assign (v := .slice none 0 0) (by rfl)) ?_
    refine RL_nil ?_
    refine W_ret ?_
    subst hnil
    obtain rfl : [] = ys := hys
    have H := H.nilRowK 3 kInt
    exact ⟨[.slice none 0 0], (.tmp (by rfl) rfl), none, 0, [], rfl, H.pick [1]⟩
  · refine W_skip ?_
    refine W_seq ?_
    refine W_region ?_
    refine RL_cons (O_buildSlice0 (D := kInt) (by exact wn0 rfl) (by rfl) sl23 sz3 H (fun w4 b5 (H : Sep ok w w4 [.row (.slice (some ⟨b5, 0, none⟩) 0 0) 3 kInt.sz 0 []] [RE.rd kInt A1 c2 a0, RE.chunks kInt [] []]) => ?_))
    refine RL_pure (by exact wn0 rfl) (by rfl) (by rfl) (x_move (v := .slice A1 a0.length c2) (by rfl)) ?_
    refine RL_cons (O_appendAll (D := kInt) (xs := ([] : List Int)) (i := 0) (j := 1) (zs := a0) (by exact wn0 rfl) (by rfl) (by rfl) (by rfl) H (by rfl) (by rfl) (H.rd (i := 0) (by rfl)) hys sl23 sz3 by3 ze3 (by rfl) (by rfl) hbb (by rfl) (fun w6 A7 c8 cs9 (H : Sep ok w w6 [.row (.slice A7 ys.length c8) 3 kInt.sz ys.length cs9] [RE.rd kInt A1 c2 a0, RE.chunks kInt cs9 ys]) => ?_))
    refine RL_pure (by exact wn0 rfl) (by rfl) (by rfl) (x_assign (v := .slice A7 ys.length c8) (by rfl)) ?_
    refine RL_nil ?_
    refine W_ret ?_
    exact ⟨[.slice A7 ys.length c8], (.tmp (by rfl) rfl), A7, c8, cs9, rfl, H.pick [1]⟩
end Go.Proofs.YtobkigllalbkiaaV.M
