/- A plain Lean function that answers as the Go function does (none: not told), and the proof that a call answers so. Written by program. -/
import Derived.Test.YtobkigllalbkiaaVMTy
import Derived.Test.YtobkigllalbkiaaVMF17
set_option linter.unusedVariables false
namespace Go.Proofs.YtobkigllalbkiaaV.M
open Go.RowKit Go.Proofs.YtobkigllalbkiaaV
/-- diorama/pyramid.Hidden -/
def m19 (K : Nat) (a0 : S_Pyramid) (a1 : S_Shade) : Option (Bool × Int) :=
  ((m17 K a0 a1.Rect).bind fun v10 => (bif (v10.2 != 0) then some (false, v10.2) else ((bif (decide (a1.D < (-1024))) then some true else some (decide (66560 < a1.D))).bind fun b12 => (bif b12 then some (false, 2) else some ((decide (a1.D < v10.1)), 0)))))
set_option maxRecDepth 100000 in
set_option maxHeartbeats 4000000 in
theorem c19 (ok : Nat → Prop) (K : Nat) (w : World) (a0 : S_Pyramid) (A1 : Option Addr) (cp2 : Nat) (a1 : S_Shade) (hR3 : Rd k_Level w ok A1 cp2 a0.Levels) (res : Bool × Int) (hm : m19 K a0 a1 = some res) :
    Calls Try.prog 19 #[.agg #[.slice A1 a0.Levels.length cp2], .agg #[.int .i64 a1.Rect.X0, .int .i64 a1.Rect.Y0, .int .i64 a1.Rect.X1, .int .i64 a1.Rect.Y1, .int .i64 a1.D]] w (fun e w' => e = .returned (tup [.bool res.1, .int .i64 res.2]) ∧ Sep ok w w' [] []) := by
  refine calls_W (args := [.agg #[.slice A1 a0.Levels.length cp2], .agg #[.int .i64 a1.Rect.X0, .int .i64 a1.Rect.Y0, .int .i64 a1.Rect.X1, .int .i64 a1.Rect.Y1, .int .i64 a1.D]]) Try.func19 rfl Try.ntmps19 Try.results19 rfl fun r hr => ?_
  obtain ⟨r1, rfl⟩ := regen (r := r) [(0, .agg #[.slice A1 a0.Levels.length cp2]), (1, .agg #[.int .i64 a1.Rect.X0, .int .i64 a1.Rect.Y0, .int .i64 a1.Rect.X1, .int .i64 a1.Rect.Y1, .int .i64 a1.D])] ⟨hr 0 _ rfl, hr 1 _ rfl, trivial⟩
  have H : Sep ok w w [] [RE.rd k_Level A1 cp2 a0.Levels] := Sep.arg (Sep.start ok w) (re := RE.rd k_Level A1 cp2 a0.Levels) rfl rfl hR3
  unfold m19 at hm
  refine W_seq ?_
  refine W_region ?_
  refine RL_cons (O_box (by exact wn0 rfl) (by rfl) (by rfl) (by rfl) H (fun w6 b5 (H : Sep ok w w6 [.blk b5 28 [.slice A1 a0.Levels.length cp2]] [RE.rd k_Level A1 cp2 a0.Levels]) => ?_))
  refine RL_cons (O_box (by exact wn0 rfl) (by rfl) (by rfl) (by rfl) H (fun w8 b7 (H : Sep ok w w8 [.blk b5 28 [.slice A1 a0.Levels.length cp2], .blk b7 32 [.int .i64 a1.Rect.X0, .int .i64 a1.Rect.Y0, .int .i64 a1.Rect.X1, .int .i64 a1.Rect.Y1, .int .i64 a1.D]] [RE.rd k_Level A1 cp2 a0.Levels]) => ?_))
  refine RL_pure (by exact wn0 rfl) (by rfl) (by rfl) (x_assign (v := .bool false) (by rfl)) ?_
  refine RL_pure (by exact wn0 rfl) (by rfl) (by rfl) (x_assign (v := .int .i64 0) (by rfl)) ?_
  refine RL_nil ?_
  refine W_seq ?_
  refine W_region ?_
  refine RL_pure (by exact wn0 rfl) (by rfl) (by rfl) (x_loadA (j := 0) (vs := [.slice A1 a0.Levels.length cp2]) ag28 (by rfl) (H.cells (i := 0) (by rfl)) (by rfl) (by rfl)) ?_
  refine RL_pure (by exact wn0 rfl) (by rfl) (by rfl) (x_fieldAddr fo32_0 (by rfl)) ?_
  refine RL_pure (by exact wn0 rfl) (by rfl) (by rfl) (x_loadA (j := 0) (vs := [.int .i64 a1.Rect.X0, .int .i64 a1.Rect.Y0, .int .i64 a1.Rect.X1, .int .i64 a1.Rect.Y1]) ag30 (by rfl) (H.cells (i := 1) (by rfl)) (by rfl) (by rfl)) ?_
  obtain ⟨v10, hv9, hm⟩ := bind_some hm
  refine RL_cons (O_call (by exact wn0 rfl) (by rfl) (by rfl) (x_callL (by rfl) (args := [.agg #[.slice A1 a0.Levels.length cp2], .agg #[.int .i64 a1.Rect.X0, .int .i64 a1.Rect.Y0, .int .i64 a1.Rect.X1, .int .i64 a1.Rect.Y1]]) (by rfl) (cf17 _ _)) (c17 (fun _ => True) K w8 a0 A1 cp2 a1.Rect (H.rd (i := 0) (by rfl)).any v10 hv9) ?_)
  rintro e w11 ⟨rfl, H2⟩
  have H : Sep ok w w11 [.blk b5 28 [.slice A1 a0.Levels.length cp2], .blk b7 32 [.int .i64 a1.Rect.X0, .int .i64 a1.Rect.Y0, .int .i64 a1.Rect.X1, .int .i64 a1.Rect.Y1, .int .i64 a1.D]] [RE.rd k_Level A1 cp2 a0.Levels] := H.below H2.base
  clear H2
  refine ⟨_, rfl, ?_⟩
  show RL _ _ _ _ _ _ _
  refine RL_pure (by exact wn0 rfl) (by rfl) (by rfl) (x_move (v := tup [.int .i64 v10.1, .int .i64 v10.2]) (by rfl)) ?_
  refine RL_pure (by exact wn0 rfl) (by rfl) (by rfl) (x_extract (v := .int .i64 v10.1) (by rfl) (by rfl)) ?_
  refine RL_pure (by exact wn0 rfl) (by rfl) (by rfl) (x_extract (v := .int .i64 v10.2) (by rfl) (by rfl)) ?_
  refine RL_pure (by exact wn0 rfl) (by rfl) (by rfl) (x_assign (v := .int .i64 v10.1) (by rfl)) ?_
  refine RL_pure (by exact wn0 rfl) (by rfl) (by rfl) (x_assign (v := .int .i64 v10.2) (by rfl)) ?_
  refine RL_nil ?_
  refine W_seq ?_
  refine W_seq ?_
  refine W_region ?_
  refine RL_pure (by exact wn0 rfl) (by rfl) (by rfl) (x_move (v := .int .i64 v10.2) (by rfl)) ?_
  refine RL_pure (by exact wn0 rfl) (by rfl) (by rfl) (x_neq (by rfl) (by rfl)) ?_
  refine RL_nil ?_
  refine W_cond (by rfl) (fun hb => ?_) (fun hb => ?_)
  · have hm := cond_t hb hm
    refine W_seq ?_
    refine W_region ?_
    refine RL_pure (by exact wn0 rfl) (by rfl) (by rfl) (x_move (v := .int .i64 v10.2) (by rfl)) ?_
    refine RL_pure (by exact wn0 rfl) (by rfl) (by rfl) (x_assign (v := .bool false) (by rfl)) ?_
    refine RL_pure (by exact wn0 rfl) (by rfl) (by rfl) (x_assign (v := .int .i64 v10.2) (by rfl)) ?_
    refine RL_nil ?_
    refine W_ret ?_
    obtain rfl := Option.some.inj hm
    exact ⟨[.bool false, .int .i64 v10.2], (.tmp (by rfl) (.tmp (by rfl) rfl)), rfl, H.none_⟩
  · have hm := cond_f hb hm
    refine W_skip ?_
    refine W_seq ?_
    refine W_seq ?_
    refine W_region ?_
    refine RL_pure (by exact wn0 rfl) (by rfl) (by rfl) (x_fieldAddr fo32_1 (by rfl)) ?_
    refine RL_pure (by exact wn0 rfl) (by rfl) (by rfl) (x_load (j := 4) (v := .int .i64 a1.D) sc3 (by rfl) (H.cells (i := 1) (by rfl)) (by rfl)) ?_
    refine RL_pure (by exact wn0 rfl) (by rfl) (by rfl) (x_lss (by rfl) (by rfl)) ?_
    refine RL_pure (by exact wn0 rfl) (by rfl) (by rfl) (x_move (v := .bool (decide (a1.D < (-1024)))) (by rfl)) ?_
    obtain ⟨b12, hmS, hm⟩ := bind_some hm
    refine RL_cut 4 (fun r' w' => Agr [(25, .bool b12), (3, .pointer (some ⟨b7, 0, none⟩)), (6, .int .i64 v10.1)] r' ∧ Sep ok w w' [.blk b5 28 [.slice A1 a0.Levels.length cp2], .blk b7 32 [.int .i64 a1.Rect.X0, .int .i64 a1.Rect.Y0, .int .i64 a1.Rect.X1, .int .i64 a1.Rect.Y1, .int .i64 a1.D]] [RE.rd k_Level A1 cp2 a0.Levels]) ?_ ?_
    · cases hbS : (decide (a1.D < (-1024)))
      · have hm := cond_f hbS hmS
        refine RL_pure (by exact wn1 rfl rfl rfl rfl) (by rfl) (by rfl) (x_fieldAddr fo32_1 (by rfl)) ?_
        refine RL_pure (by exact wn1 rfl rfl rfl rfl) (by rfl) (by rfl) (x_load (j := 4) (v := .int .i64 a1.D) sc3 (by rfl) (H.cells (i := 1) (by rfl)) (by rfl)) ?_
        refine RL_pure (by exact wn1 rfl rfl rfl rfl) (by rfl) (by rfl) (x_gtr (by rfl) (by rfl)) ?_
        refine RL_pure (by exact wn0 rfl) (by rfl) (by rfl) (x_pick_f (v := .bool (decide (66560 < a1.D))) (by rfl) (by rfl)) ?_
        refine RL_nil ?_
        exact ⟨⟨congrArg Value.bool (Option.some.inj hm), rfl, rfl, trivial⟩, H⟩
      · have hm := cond_t hbS hmS
        refine RL_cons (OpR_off (by exact wn2 rfl rfl rfl rfl) (by rfl) (by rfl) ?_)
        refine RL_cons (OpR_off (by exact wn2 rfl rfl rfl rfl) (by rfl) (by rfl) ?_)
        refine RL_cons (OpR_off (by exact wn2 rfl rfl rfl rfl) (by rfl) (by rfl) ?_)
        refine RL_pure (by exact wn0 rfl) (by rfl) (by rfl) (x_pick_t (v := .bool true) (by rfl) (by rfl)) ?_
        refine RL_nil ?_
        exact ⟨⟨congrArg Value.bool (Option.some.inj hm), rfl, rfl, trivial⟩, H⟩
    · rintro r' w' ⟨hA, H⟩
      obtain ⟨r13, rfl⟩ := regen _ hA; clear hA
      obtain ⟨w14, rfl⟩ : ∃ W : World, W = w' := ⟨_, rfl⟩
      show RL _ _ _ _ _ _ _
      refine RL_nil ?_
      refine W_cond (by rfl) (fun hb => ?_) (fun hb => ?_)
      · have hm := cond_t hb hm
        refine W_seq ?_
        refine W_region ?_
        refine RL_pure (by exact wn0 rfl) (by rfl) (by rfl) (x_assign (v := .bool false) (by rfl)) ?_
        refine RL_pure (by exact wn0 rfl) (by rfl) (by rfl) (x_assign (v := .int .i64 2) (by rfl)) ?_
        refine RL_nil ?_
        refine W_ret ?_
        obtain rfl := Option.some.inj hm
        exact ⟨[.bool false, .int .i64 2], (.tmp (by rfl) (.tmp (by rfl) rfl)), rfl, H.none_⟩
      · have hm := cond_f hb hm
        refine W_skip ?_
        refine W_seq ?_
        refine W_region ?_
        refine RL_pure (by exact wn0 rfl) (by rfl) (by rfl) (x_move (v := .int .i64 v10.1) (by rfl)) ?_
        refine RL_pure (by exact wn0 rfl) (by rfl) (by rfl) (x_fieldAddr fo32_1 (by rfl)) ?_
        refine RL_pure (by exact wn0 rfl) (by rfl) (by rfl) (x_load (j := 4) (v := .int .i64 a1.D) sc3 (by rfl) (H.cells (i := 1) (by rfl)) (by rfl)) ?_
        refine RL_pure (by exact wn0 rfl) (by rfl) (by rfl) (x_gtr (by rfl) (by rfl)) ?_
        refine RL_pure (by exact wn0 rfl) (by rfl) (by rfl) (x_assign (v := .bool (decide (a1.D < v10.1))) (by rfl)) ?_
        refine RL_pure (by exact wn0 rfl) (by rfl) (by rfl) (x_assign (v := .int .i64 0) (by rfl)) ?_
        refine RL_nil ?_
        refine W_ret ?_
        obtain rfl := Option.some.inj hm
        exact ⟨[.bool (decide (a1.D < v10.1)), .int .i64 0], (.tmp (by rfl) (.tmp (by rfl) rfl)), rfl, H.none_⟩
end Go.Proofs.YtobkigllalbkiaaV.M
