/- A plain Lean function that answers as the Go function does (none: not told), and the proof that a call answers so. Written by program. -/
import Derived.Test.YtobkigllalbkiaaVMTy
set_option linter.unusedVariables false
namespace Go.Proofs.YtobkigllalbkiaaV.M
open Go.RowKit Go.Proofs.YtobkigllalbkiaaV
/-- diorama/dioramaref25.Great -/
def m11 (K : Nat) (a0 : S_Frame) : Option (Bool) :=
  ((bif (decide (5000 < (a0.Color.length : Int))) then some true else some (decide (5000 < (a0.Depth.length : Int)))).bind fun b19 => ((bif b19 then some true else some (decide (5000 < (a0.Item.length : Int)))).bind fun b22 => ((bif b22 then some true else some (decide (5000 < (a0.Tri.length : Int)))).bind fun b25 => some b25)))
set_option maxRecDepth 100000 in
set_option maxHeartbeats 4000000 in
theorem c11 (ok : Nat → Prop) (K : Nat) (w : World) (a0 : S_Frame) (A1 : Option Addr) (cp2 : Nat) (A5 : Option Addr) (cp6 : Nat) (A9 : Option Addr) (cp10 : Nat) (A13 : Option Addr) (cp14 : Nat) (hR3 : Rd k_Ar4_Int w ok A1 cp2 a0.Color) (hR7 : Rd kInt w ok A5 cp6 a0.Depth) (hR11 : Rd kInt w ok A9 cp10 a0.Item) (hR15 : Rd kInt w ok A13 cp14 a0.Tri) (res : Bool) (hm : m11 K a0 = some res) :
    Calls Try.prog 11 #[.agg #[.int .i64 a0.W, .int .i64 a0.H, .slice A1 a0.Color.length cp2, .slice A5 a0.Depth.length cp6, .slice A9 a0.Item.length cp10, .slice A13 a0.Tri.length cp14]] w (fun e w' => e = .returned (tup [.bool res]) ∧ Sep ok w w' [] []) := by
  refine calls_W (args := [.agg #[.int .i64 a0.W, .int .i64 a0.H, .slice A1 a0.Color.length cp2, .slice A5 a0.Depth.length cp6, .slice A9 a0.Item.length cp10, .slice A13 a0.Tri.length cp14]]) Try.func11 rfl Try.ntmps11 Try.results11 rfl fun r hr => ?_
  obtain ⟨r1, rfl⟩ := regen (r := r) [(0, .agg #[.int .i64 a0.W, .int .i64 a0.H, .slice A1 a0.Color.length cp2, .slice A5 a0.Depth.length cp6, .slice A9 a0.Item.length cp10, .slice A13 a0.Tri.length cp14])] ⟨hr 0 _ rfl, trivial⟩
  have H : Sep ok w w [] [RE.rd k_Ar4_Int A1 cp2 a0.Color, RE.rd kInt A5 cp6 a0.Depth, RE.rd kInt A9 cp10 a0.Item, RE.rd kInt A13 cp14 a0.Tri] := Sep.arg (Sep.arg (Sep.arg (Sep.arg (Sep.start ok w) (re := RE.rd k_Ar4_Int A1 cp2 a0.Color) rfl rfl hR3) (re := RE.rd kInt A5 cp6 a0.Depth) rfl rfl hR7) (re := RE.rd kInt A9 cp10 a0.Item) rfl rfl hR11) (re := RE.rd kInt A13 cp14 a0.Tri) rfl rfl hR15
  unfold m11 at hm
  refine W_seq ?_
  refine W_region ?_
  refine RL_cons (O_box (by exact wn0 rfl) (by rfl) (by rfl) (by rfl) H (fun w18 b17 (H : Sep ok w w18 [.blk b17 25 [.int .i64 a0.W, .int .i64 a0.H, .slice A1 a0.Color.length cp2, .slice A5 a0.Depth.length cp6, .slice A9 a0.Item.length cp10, .slice A13 a0.Tri.length cp14]] [RE.rd k_Ar4_Int A1 cp2 a0.Color, RE.rd kInt A5 cp6 a0.Depth, RE.rd kInt A9 cp10 a0.Item, RE.rd kInt A13 cp14 a0.Tri]) => ?_))
  refine RL_pure (by exact wn0 rfl) (by rfl) (by rfl) (x_assign (v := .bool false) (by rfl)) ?_
  refine RL_nil ?_
  refine W_seq ?_
  refine W_region ?_
  refine RL_pure (by exact wn0 rfl) (by rfl) (by rfl) (x_fieldAddr fo25_2 (by rfl)) ?_
  refine RL_pure (by exact wn0 rfl) (by rfl) (by rfl) (x_load (j := 2) (v := .slice A1 a0.Color.length cp2) sc22 (by rfl) (H.cells (i := 0) (by rfl)) (by rfl)) ?_
  refine RL_pure (by exact wn0 rfl) (by rfl) (by rfl) (x_len sl22 (by rfl)) ?_
  refine RL_pure (by exact wn0 rfl) (by rfl) (by rfl) (x_gtr (by rfl) (by rfl)) ?_
  refine RL_pure (by exact wn0 rfl) (by rfl) (by rfl) (x_move (v := .bool (decide (5000 < (a0.Color.length : Int)))) (by rfl)) ?_
  obtain ⟨b19, hmS, hm⟩ := bind_some hm
  refine RL_cut 5 (fun r' w' => Agr [(12, .bool b19), (1, .pointer (some ⟨b17, 0, none⟩))] r' ∧ Sep ok w w' [.blk b17 25 [.int .i64 a0.W, .int .i64 a0.H, .slice A1 a0.Color.length cp2, .slice A5 a0.Depth.length cp6, .slice A9 a0.Item.length cp10, .slice A13 a0.Tri.length cp14]] [RE.rd k_Ar4_Int A1 cp2 a0.Color, RE.rd kInt A5 cp6 a0.Depth, RE.rd kInt A9 cp10 a0.Item, RE.rd kInt A13 cp14 a0.Tri]) ?_ ?_
  · cases hbS : (decide (5000 < (a0.Color.length : Int)))
    · have hm := cond_f hbS hmS
      refine RL_pure (by exact wn1 rfl rfl rfl rfl) (by rfl) (by rfl) (x_fieldAddr fo25_3 (by rfl)) ?_
      refine RL_pure (by exact wn1 rfl rfl rfl rfl) (by rfl) (by rfl) (x_load (j := 3) (v := .slice A5 a0.Depth.length cp6) sc23 (by rfl) (H.cells (i := 0) (by rfl)) (by rfl)) ?_
      refine RL_pure (by exact wn1 rfl rfl rfl rfl) (by rfl) (by rfl) (x_len sl23 (by rfl)) ?_
      refine RL_pure (by exact wn1 rfl rfl rfl rfl) (by rfl) (by rfl) (x_gtr (by rfl) (by rfl)) ?_
      refine RL_pure (by exact wn0 rfl) (by rfl) (by rfl) (x_pick_f (v := .bool (decide (5000 < (a0.Depth.length : Int)))) (by rfl) (by rfl)) ?_
      refine RL_nil ?_
      exact ⟨⟨congrArg Value.bool (Option.some.inj hm), rfl, trivial⟩, H⟩
    · have hm := cond_t hbS hmS
      refine RL_cons (OpR_off (by exact wn2 rfl rfl rfl rfl) (by rfl) (by rfl) ?_)
      refine RL_cons (OpR_off (by exact wn2 rfl rfl rfl rfl) (by rfl) (by rfl) ?_)
      refine RL_cons (OpR_off (by exact wn2 rfl rfl rfl rfl) (by rfl) (by rfl) ?_)
      refine RL_cons (OpR_off (by exact wn2 rfl rfl rfl rfl) (by rfl) (by rfl) ?_)
      refine RL_pure (by exact wn0 rfl) (by rfl) (by rfl) (x_pick_t (v := .bool true) (by rfl) (by rfl)) ?_
      refine RL_nil ?_
      exact ⟨⟨congrArg Value.bool (Option.some.inj hm), rfl, trivial⟩, H⟩
  · rintro r' w' ⟨hA, H⟩
    obtain ⟨r20, rfl⟩ := regen _ hA; clear hA
    obtain ⟨w21, rfl⟩ : ∃ W : World, W = w' := ⟨_, rfl⟩
    show RL _ _ _ _ _ _ _
    refine RL_pure (by exact wn0 rfl) (by rfl) (by rfl) (x_move (v := .bool b19) (by rfl)) ?_
    obtain ⟨b22, hmS, hm⟩ := bind_some hm
    refine RL_cut 5 (fun r' w' => Agr [(18, .bool b22), (1, .pointer (some ⟨b17, 0, none⟩))] r' ∧ Sep ok w w' [.blk b17 25 [.int .i64 a0.W, .int .i64 a0.H, .slice A1 a0.Color.length cp2, .slice A5 a0.Depth.length cp6, .slice A9 a0.Item.length cp10, .slice A13 a0.Tri.length cp14]] [RE.rd k_Ar4_Int A1 cp2 a0.Color, RE.rd kInt A5 cp6 a0.Depth, RE.rd kInt A9 cp10 a0.Item, RE.rd kInt A13 cp14 a0.Tri]) ?_ ?_
    · cases hbS : b19
      · have hm := cond_f hbS hmS
        refine RL_pure (by exact wn1 rfl rfl rfl rfl) (by rfl) (by rfl) (x_fieldAddr fo25_4 (by rfl)) ?_
        refine RL_pure (by exact wn1 rfl rfl rfl rfl) (by rfl) (by rfl) (x_load (j := 4) (v := .slice A9 a0.Item.length cp10) sc23 (by rfl) (H.cells (i := 0) (by rfl)) (by rfl)) ?_
        refine RL_pure (by exact wn1 rfl rfl rfl rfl) (by rfl) (by rfl) (x_len sl23 (by rfl)) ?_
        refine RL_pure (by exact wn1 rfl rfl rfl rfl) (by rfl) (by rfl) (x_gtr (by rfl) (by rfl)) ?_
        refine RL_pure (by exact wn0 rfl) (by rfl) (by rfl) (x_pick_f (v := .bool (decide (5000 < (a0.Item.length : Int)))) (by rfl) (by rfl)) ?_
        refine RL_nil ?_
        exact ⟨⟨congrArg Value.bool (Option.some.inj hm), rfl, trivial⟩, H⟩
      · have hm := cond_t hbS hmS
        refine RL_cons (OpR_off (by exact wn2 rfl rfl rfl rfl) (by rfl) (by rfl) ?_)
        refine RL_cons (OpR_off (by exact wn2 rfl rfl rfl rfl) (by rfl) (by rfl) ?_)
        refine RL_cons (OpR_off (by exact wn2 rfl rfl rfl rfl) (by rfl) (by rfl) ?_)
        refine RL_cons (OpR_off (by exact wn2 rfl rfl rfl rfl) (by rfl) (by rfl) ?_)
        refine RL_pure (by exact wn0 rfl) (by rfl) (by rfl) (x_pick_t (v := .bool true) (by rfl) (by rfl)) ?_
        refine RL_nil ?_
        exact ⟨⟨congrArg Value.bool (Option.some.inj hm), rfl, trivial⟩, H⟩
    · rintro r' w' ⟨hA, H⟩
      obtain ⟨r23, rfl⟩ := regen _ hA; clear hA
      obtain ⟨w24, rfl⟩ : ∃ W : World, W = w' := ⟨_, rfl⟩
      show RL _ _ _ _ _ _ _
      refine RL_pure (by exact wn0 rfl) (by rfl) (by rfl) (x_move (v := .bool b22) (by rfl)) ?_
      obtain ⟨b25, hmS, hm⟩ := bind_some hm
      refine RL_cut 5 (fun r' w' => Agr [(24, .bool b25)] r' ∧ Sep ok w w' [.blk b17 25 [.int .i64 a0.W, .int .i64 a0.H, .slice A1 a0.Color.length cp2, .slice A5 a0.Depth.length cp6, .slice A9 a0.Item.length cp10, .slice A13 a0.Tri.length cp14]] [RE.rd k_Ar4_Int A1 cp2 a0.Color, RE.rd kInt A5 cp6 a0.Depth, RE.rd kInt A9 cp10 a0.Item, RE.rd kInt A13 cp14 a0.Tri]) ?_ ?_
      · cases hbS : b22
        · have hm := cond_f hbS hmS
          refine RL_pure (by exact wn1 rfl rfl rfl rfl) (by rfl) (by rfl) (x_fieldAddr fo25_5 (by rfl)) ?_
          refine RL_pure (by exact wn1 rfl rfl rfl rfl) (by rfl) (by rfl) (x_load (j := 5) (v := .slice A13 a0.Tri.length cp14) sc23 (by rfl) (H.cells (i := 0) (by rfl)) (by rfl)) ?_
          refine RL_pure (by exact wn1 rfl rfl rfl rfl) (by rfl) (by rfl) (x_len sl23 (by rfl)) ?_
          refine RL_pure (by exact wn1 rfl rfl rfl rfl) (by rfl) (by rfl) (x_gtr (by rfl) (by rfl)) ?_
          refine RL_pure (by exact wn0 rfl) (by rfl) (by rfl) (x_pick_f (v := .bool (decide (5000 < (a0.Tri.length : Int)))) (by rfl) (by rfl)) ?_
          refine RL_nil ?_
          exact ⟨⟨congrArg Value.bool (Option.some.inj hm), trivial⟩, H⟩
        · have hm := cond_t hbS hmS
          refine RL_cons (OpR_off (by exact wn2 rfl rfl rfl rfl) (by rfl) (by rfl) ?_)
          refine RL_cons (OpR_off (by exact wn2 rfl rfl rfl rfl) (by rfl) (by rfl) ?_)
          refine RL_cons (OpR_off (by exact wn2 rfl rfl rfl rfl) (by rfl) (by rfl) ?_)
          refine RL_cons (OpR_off (by exact wn2 rfl rfl rfl rfl) (by rfl) (by rfl) ?_)
          refine RL_pure (by exact wn0 rfl) (by rfl) (by rfl) (x_pick_t (v := .bool true) (by rfl) (by rfl)) ?_
          refine RL_nil ?_
          exact ⟨⟨congrArg Value.bool (Option.some.inj hm), trivial⟩, H⟩
      · rintro r' w' ⟨hA, H⟩
        obtain ⟨r26, rfl⟩ := regen _ hA; clear hA
        obtain ⟨w27, rfl⟩ : ∃ W : World, W = w' := ⟨_, rfl⟩
        show RL _ _ _ _ _ _ _
        refine RL_pure (by exact wn0 rfl) (by rfl) (by rfl) (x_assign (v := .bool b25) (by rfl)) ?_
        refine RL_nil ?_
        refine W_ret ?_
        obtain rfl := Option.some.inj hm
        exact ⟨[.bool b25], (.tmp (by rfl) rfl), rfl, H.none_⟩
end Go.Proofs.YtobkigllalbkiaaV.M
