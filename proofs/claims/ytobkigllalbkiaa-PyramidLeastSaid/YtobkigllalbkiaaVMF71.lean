/- A plain Lean function that answers as the Go function does (none: not told), and the proof that a call answers so. Written by program. -/
import Derived.Test.YtobkigllalbkiaaVMTy
set_option linter.unusedVariables false
namespace Go.Proofs.YtobkigllalbkiaaV.M
open Go.RowKit Go.Proofs.YtobkigllalbkiaaV
/-- (diorama/frame.open).nobody -/
def m71 (K : Nat) (a0 : S_open) (a1 : Int) : Option (Bool) :=
  (idx a0.Frame.Item a1 fun el19 => some (decide (el19 < 0)))
set_option maxRecDepth 100000 in
set_option maxHeartbeats 4000000 in
theorem c71 (ok : Nat → Prop) (K : Nat) (w : World) (a0 : S_open) (A1 : Option Addr) (cp2 : Nat) (A5 : Option Addr) (cp6 : Nat) (A9 : Option Addr) (cp10 : Nat) (A13 : Option Addr) (cp14 : Nat) (a1 : Int) (hR3 : Rd k_Ar4_Int w ok A1 cp2 a0.Frame.Color) (hR7 : Rd kInt w ok A5 cp6 a0.Frame.Depth) (hR11 : Rd kInt w ok A9 cp10 a0.Frame.Item) (hR15 : Rd kInt w ok A13 cp14 a0.Frame.Tri) (res : Bool) (hm : m71 K a0 a1 = some res) :
    Calls Try.prog 71 #[.agg #[.int .i64 a0.Frame.W, .int .i64 a0.Frame.H, .slice A1 a0.Frame.Color.length cp2, .slice A5 a0.Frame.Depth.length cp6, .slice A9 a0.Frame.Item.length cp10, .slice A13 a0.Frame.Tri.length cp14], .int .i64 a1] w (fun e w' => e = .returned (tup [.bool res]) ∧ Sep ok w w' [] []) := by
  refine calls_W (args := [.agg #[.int .i64 a0.Frame.W, .int .i64 a0.Frame.H, .slice A1 a0.Frame.Color.length cp2, .slice A5 a0.Frame.Depth.length cp6, .slice A9 a0.Frame.Item.length cp10, .slice A13 a0.Frame.Tri.length cp14], .int .i64 a1]) Try.func71 rfl Try.ntmps71 Try.results71 rfl fun r hr => ?_
  obtain ⟨r1, rfl⟩ := regen (r := r) [(0, .agg #[.int .i64 a0.Frame.W, .int .i64 a0.Frame.H, .slice A1 a0.Frame.Color.length cp2, .slice A5 a0.Frame.Depth.length cp6, .slice A9 a0.Frame.Item.length cp10, .slice A13 a0.Frame.Tri.length cp14]), (1, .int .i64 a1)] ⟨hr 0 _ rfl, hr 1 _ rfl, trivial⟩
  have H : Sep ok w w [] [RE.rd k_Ar4_Int A1 cp2 a0.Frame.Color, RE.rd kInt A5 cp6 a0.Frame.Depth, RE.rd kInt A9 cp10 a0.Frame.Item, RE.rd kInt A13 cp14 a0.Frame.Tri] := Sep.arg (Sep.arg (Sep.arg (Sep.arg (Sep.start ok w) (re := RE.rd k_Ar4_Int A1 cp2 a0.Frame.Color) rfl rfl hR3) (re := RE.rd kInt A5 cp6 a0.Frame.Depth) rfl rfl hR7) (re := RE.rd kInt A9 cp10 a0.Frame.Item) rfl rfl hR11) (re := RE.rd kInt A13 cp14 a0.Frame.Tri) rfl rfl hR15
  unfold m71 at hm
  refine W_seq ?_
  refine W_region ?_
  refine RL_cons (O_box (by exact wn0 rfl) (by rfl) (by rfl) (by rfl) H (fun w18 b17 (H : Sep ok w w18 [.blk b17 121 [.int .i64 a0.Frame.W, .int .i64 a0.Frame.H, .slice A1 a0.Frame.Color.length cp2, .slice A5 a0.Frame.Depth.length cp6, .slice A9 a0.Frame.Item.length cp10, .slice A13 a0.Frame.Tri.length cp14]] [RE.rd k_Ar4_Int A1 cp2 a0.Frame.Color, RE.rd kInt A5 cp6 a0.Frame.Depth, RE.rd kInt A9 cp10 a0.Frame.Item, RE.rd kInt A13 cp14 a0.Frame.Tri]) => ?_))
  refine RL_pure (by exact wn0 rfl) (by rfl) (by rfl) (x_assign (v := .bool false) (by rfl)) ?_
  refine RL_nil ?_
  refine W_seq ?_
  refine W_region ?_
  refine RL_pure (by exact wn0 rfl) (by rfl) (by rfl) (x_fieldAddr fo121_0 (by rfl)) ?_
  refine RL_pure (by exact wn0 rfl) (by rfl) (by rfl) (x_fieldAddr fo25_4 (by rfl)) ?_
  refine RL_pure (by exact wn0 rfl) (by rfl) (by rfl) (x_load (j := 4) (v := .slice A9 a0.Frame.Item.length cp10) sc23 (by rfl) (H.cells (i := 0) (by rfl)) (by rfl)) ?_
  refine RL_pure (by exact wn0 rfl) (by rfl) (by rfl) (x_move (v := .int .i64 a1) (by rfl)) ?_
  obtain ⟨el19, h20, h21, he22, hm⟩ := idx_some hm
  obtain ⟨g24, o25, hA23⟩ := (H.rd (i := 2) (by rfl)).addr he22
  refine RL_pure (by exact wn0 rfl) (by rfl) (by rfl) (x_indexAddr sl23 sz3 (by rfl) (by rfl) hA23 h20 h21) ?_
  refine RL_pure (by exact wn0 rfl) (by rfl) (by rfl) (x_load (j := 0) (v := .int .i64 el19) sc3 (by rfl) (Rd.flatAt (n := 1) (H.rd (i := 2) (by rfl)) hA23 he22) (by rfl)) ?_
  refine RL_pure (by exact wn0 rfl) (by rfl) (by rfl) (x_lss (by rfl) (by rfl)) ?_
  refine RL_pure (by exact wn0 rfl) (by rfl) (by rfl) (x_assign (v := .bool (decide (el19 < 0))) (by rfl)) ?_
  refine RL_nil ?_
  refine W_ret ?_
  obtain rfl := Option.some.inj hm
  exact ⟨[.bool (decide (el19 < 0))], (.tmp (by rfl) rfl), rfl, H.none_⟩
end Go.Proofs.YtobkigllalbkiaaV.M
