/- A plain Lean function that answers as the Go function does (none: not told), and the proof that a call answers so. Written by program. -/
import Derived.Test.YtobkigllalbkiaaVMTy
import Derived.Test.YtobkigllalbkiaaVMF22
import Derived.Test.YtobkigllalbkiaaVMF62
set_option linter.unusedVariables false
namespace Go.Proofs.YtobkigllalbkiaaV.M
open Go.RowKit Go.Proofs.YtobkigllalbkiaaV
/-- diorama/pyramid.Low -/
def m17 (K : Nat) (a0 : S_Pyramid) (a1 : S_Rect) : Option (Int × Int) :=
  ((m22 K a0).bind fun v10 => (bif (v10 != 0) then some (0, v10) else (idx a0.Levels 0 fun el12 => ((bif (decide ((mn a1.X0 a1.Y0) < 0)) then some true else some (decide (a1.X1 < a1.X0))).bind fun b32 => ((bif b32 then some true else some (decide (el12.W ≤ a1.X1))).bind fun b35 => ((bif b35 then some true else some (decide (a1.Y1 < a1.Y0))).bind fun b38 => ((bif b38 then some true else some (decide (el12.H ≤ a1.Y1))).bind fun b41 => (bif b41 then some (0, 2) else (ck ((a0.Levels.length : Int) - 1) fun x44 => ((m62 K a0 x44 0 0 a1 66560).bind fun v46 => some (v46, 0)))))))))))
set_option maxRecDepth 100000 in
set_option maxHeartbeats 4000000 in
theorem c17 (ok : Nat → Prop) (K : Nat) (w : World) (a0 : S_Pyramid) (A1 : Option Addr) (cp2 : Nat) (a1 : S_Rect) (hR3 : Rd k_Level w ok A1 cp2 a0.Levels) (res : Int × Int) (hm : m17 K a0 a1 = some res) :
    Calls Try.prog 17 #[.agg #[.slice A1 a0.Levels.length cp2], .agg #[.int .i64 a1.X0, .int .i64 a1.Y0, .int .i64 a1.X1, .int .i64 a1.Y1]] w (fun e w' => e = .returned (tup [.int .i64 res.1, .int .i64 res.2]) ∧ Sep ok w w' [] []) := by
  refine calls_W (args := [.agg #[.slice A1 a0.Levels.length cp2], .agg #[.int .i64 a1.X0, .int .i64 a1.Y0, .int .i64 a1.X1, .int .i64 a1.Y1]]) Try.func17 rfl Try.ntmps17 Try.results17 rfl fun r hr => ?_
  obtain ⟨r1, rfl⟩ := regen (r := r) [(0, .agg #[.slice A1 a0.Levels.length cp2]), (1, .agg #[.int .i64 a1.X0, .int .i64 a1.Y0, .int .i64 a1.X1, .int .i64 a1.Y1])] ⟨hr 0 _ rfl, hr 1 _ rfl, trivial⟩
  have H : Sep ok w w [] [RE.rd k_Level A1 cp2 a0.Levels] := Sep.arg (Sep.start ok w) (re := RE.rd k_Level A1 cp2 a0.Levels) rfl rfl hR3
  unfold m17 at hm
  refine W_seq ?_
  refine W_region ?_
  refine RL_cons (O_box (by exact wn0 rfl) (by rfl) (by rfl) (by rfl) H (fun w6 b5 (H : Sep ok w w6 [.blk b5 28 [.slice A1 a0.Levels.length cp2]] [RE.rd k_Level A1 cp2 a0.Levels]) => ?_))
  refine RL_cons (O_box (by exact wn0 rfl) (by rfl) (by rfl) (by rfl) H (fun w8 b7 (H : Sep ok w w8 [.blk b5 28 [.slice A1 a0.Levels.length cp2], .blk b7 30 [.int .i64 a1.X0, .int .i64 a1.Y0, .int .i64 a1.X1, .int .i64 a1.Y1]] [RE.rd k_Level A1 cp2 a0.Levels]) => ?_))
  refine RL_pure (by exact wn0 rfl) (by rfl) (by rfl) (x_assign (v := .int .i64 0) (by rfl)) ?_
  refine RL_pure (by exact wn0 rfl) (by rfl) (by rfl) (x_assign (v := .int .i64 0) (by rfl)) ?_
  refine RL_nil ?_
  refine W_seq ?_
  refine W_seq ?_
  refine W_region ?_
  refine RL_pure (by exact wn0 rfl) (by rfl) (by rfl) (x_loadA (j := 0) (vs := [.slice A1 a0.Levels.length cp2]) ag28 (by rfl) (H.cells (i := 0) (by rfl)) (by rfl) (by rfl)) ?_
  obtain ⟨v10, hv9, hm⟩ := bind_some hm
  refine RL_cons (O_call (by exact wn0 rfl) (by rfl) (by rfl) (x_callL (by rfl) (args := [.agg #[.slice A1 a0.Levels.length cp2]]) (by rfl) (cf22 _ _)) (c22 (fun _ => True) K w8 a0 A1 cp2 (H.rd (i := 0) (by rfl)).any v10 hv9) ?_)
  rintro e w11 ⟨rfl, H2⟩
  have H : Sep ok w w11 [.blk b5 28 [.slice A1 a0.Levels.length cp2], .blk b7 30 [.int .i64 a1.X0, .int .i64 a1.Y0, .int .i64 a1.X1, .int .i64 a1.Y1]] [RE.rd k_Level A1 cp2 a0.Levels] := H.below H2.base
  clear H2
  refine ⟨_, rfl, ?_⟩
  show RL _ _ _ _ _ _ _
  refine RL_pure (by exact wn0 rfl) (by rfl) (by rfl) (x_assign (v := .int .i64 v10) (by rfl)) ?_
  refine RL_nil ?_
  refine W_seq ?_
  refine W_region ?_
  refine RL_pure (by exact wn0 rfl) (by rfl) (by rfl) (x_move (v := .int .i64 v10) (by rfl)) ?_
  refine RL_pure (by exact wn0 rfl) (by rfl) (by rfl) (x_neq (by rfl) (by rfl)) ?_
  refine RL_nil ?_
  refine W_cond (by rfl) (fun hb => ?_) (fun hb => ?_)
  · have hm := cond_t hb hm
    refine W_seq ?_
    refine W_region ?_
    refine RL_pure (by exact wn0 rfl) (by rfl) (by rfl) (x_move (v := .int .i64 v10) (by rfl)) ?_
    refine RL_pure (by exact wn0 rfl) (by rfl) (by rfl) (x_assign (v := .int .i64 0) (by rfl)) ?_
    refine RL_pure (by exact wn0 rfl) (by rfl) (by rfl) (x_assign (v := .int .i64 v10) (by rfl)) ?_
    refine RL_nil ?_
    refine W_ret ?_
    obtain rfl := Option.some.inj hm
    exact ⟨[.int .i64 0, .int .i64 v10], (.tmp (by rfl) (.tmp (by rfl) rfl)), rfl, H.none_⟩
  · have hm := cond_f hb hm
    refine W_skip ?_
    refine W_seq ?_
    refine W_region ?_
    refine RL_pure (by exact wn0 rfl) (by rfl) (by rfl) (x_fieldAddr fo28_0 (by rfl)) ?_
    refine RL_pure (by exact wn0 rfl) (by rfl) (by rfl) (x_load (j := 0) (v := .slice A1 a0.Levels.length cp2) sc26 (by rfl) (H.cells (i := 0) (by rfl)) (by rfl)) ?_
    obtain ⟨el12, h13, h14, he15, hm⟩ := idx_some hm
    obtain ⟨g17, o18, hA16⟩ := (H.rd (i := 0) (by rfl)).addr he15
    obtain ⟨cs19, hk20, hat21, hg_cs19⟩ := (H.rd (i := 0) (by rfl)).openAt hA16 he15
    obtain ⟨A24, cp25, rfl, hR27⟩ := hk20
    have H : Sep ok w w11 [.blk b5 28 [.slice A1 a0.Levels.length cp2], .blk b7 30 [.int .i64 a1.X0, .int .i64 a1.Y0, .int .i64 a1.X1, .int .i64 a1.Y1]] [RE.rd k_Level A1 cp2 a0.Levels, RE.cells g17 (o18 + (0 : Int).toNat * 3) [.int .i64 el12.W, .int .i64 el12.H, .slice A24 el12.Low.length cp25]] := Sep.also H (re := RE.cells g17 (o18 + (0 : Int).toNat * 3) [.int .i64 el12.W, .int .i64 el12.H, .slice A24 el12.Low.length cp25]) ⟨hg_cs19.1, hg_cs19.2, hat21⟩
    have H : Sep ok w w11 [.blk b5 28 [.slice A1 a0.Levels.length cp2], .blk b7 30 [.int .i64 a1.X0, .int .i64 a1.Y0, .int .i64 a1.X1, .int .i64 a1.Y1]] [RE.rd k_Level A1 cp2 a0.Levels, RE.cells g17 (o18 + (0 : Int).toNat * 3) [.int .i64 el12.W, .int .i64 el12.H, .slice A24 el12.Low.length cp25], RE.rd kInt A24 cp25 el12.Low] := Sep.also H (re := RE.rd kInt A24 cp25 el12.Low) hR27
    refine RL_pure (by exact wn0 rfl) (by rfl) (by rfl) (x_indexAddr sl26 sz54 (by rfl) (by rfl) hA16 h13 h14) ?_
    refine RL_pure (by exact wn0 rfl) (by rfl) (by rfl) (x_loadA (j := 0) (vs := [.int .i64 el12.W, .int .i64 el12.H, .slice A24 el12.Low.length cp25]) ag54 (by rfl) (H.cellsR (i := 1) (by rfl)) (by rfl) (by rfl)) ?_
    refine RL_cons (O_alloc (by exact wn0 rfl) (by rfl) ze54 (by rfl) H (fun w30 b29 (H : Sep ok w w30 [.blk b5 28 [.slice A1 a0.Levels.length cp2], .blk b7 30 [.int .i64 a1.X0, .int .i64 a1.Y0, .int .i64 a1.X1, .int .i64 a1.Y1], .blk b29 54 [.int .i64 0, .int .i64 0, .slice none 0 0]] [RE.rd k_Level A1 cp2 a0.Levels, RE.cells g17 (o18 + (0 : Int).toNat * 3) [.int .i64 el12.W, .int .i64 el12.H, .slice A24 el12.Low.length cp25], RE.rd kInt A24 cp25 el12.Low]) => ?_))
    refine RL_cons (O_store (i := 2) (off := 0) (by exact wn0 rfl) (by rfl) (by rfl) H (by rfl) (vs := [.int .i64 el12.W, .int .i64 el12.H, .slice A24 el12.Low.length cp25]) (by rfl) sz54 (by rfl) (by rfl) (by rfl) (fun w31 (H : Sep ok w w31 [.blk b5 28 [.slice A1 a0.Levels.length cp2], .blk b7 30 [.int .i64 a1.X0, .int .i64 a1.Y0, .int .i64 a1.X1, .int .i64 a1.Y1], .blk b29 54 [.int .i64 el12.W, .int .i64 el12.H, .slice A24 el12.Low.length cp25]] [RE.rd k_Level A1 cp2 a0.Levels, RE.cells g17 (o18 + (0 : Int).toNat * 3) [.int .i64 el12.W, .int .i64 el12.H, .slice A24 el12.Low.length cp25], RE.rd kInt A24 cp25 el12.Low]) => ?_))
    refine RL_nil ?_
    refine W_seq ?_
    refine W_seq ?_
    refine W_region ?_
    refine RL_pure (by exact wn0 rfl) (by rfl) (by rfl) (x_fieldAddr fo30_0 (by rfl)) ?_
    refine RL_pure (by exact wn0 rfl) (by rfl) (by rfl) (x_load (j := 0) (v := .int .i64 a1.X0) sc3 (by rfl) (H.cells (i := 1) (by rfl)) (by rfl)) ?_
    refine RL_pure (by exact wn0 rfl) (by rfl) (by rfl) (x_fieldAddr fo30_1 (by rfl)) ?_
    refine RL_pure (by exact wn0 rfl) (by rfl) (by rfl) (x_load (j := 1) (v := .int .i64 a1.Y0) sc3 (by rfl) (H.cells (i := 1) (by rfl)) (by rfl)) ?_
    refine RL_pure (by exact wn0 rfl) (by rfl) (by rfl) (x_min2 (by rfl) (by rfl)) ?_
    refine RL_pure (by exact wn0 rfl) (by rfl) (by rfl) (x_lss (by rfl) (by rfl)) ?_
    refine RL_pure (by exact wn0 rfl) (by rfl) (by rfl) (x_move (v := .bool (decide ((mn a1.X0 a1.Y0) < 0))) (by rfl)) ?_
    obtain ⟨b32, hmS, hm⟩ := bind_some hm
    refine RL_cut 6 (fun r' w' => Agr [(29, .bool b32), (2, .pointer (some ⟨b5, 0, none⟩)), (3, .pointer (some ⟨b7, 0, none⟩)), (7, .pointer (some ⟨b29, 0, none⟩))] r' ∧ Sep ok w w' [.blk b5 28 [.slice A1 a0.Levels.length cp2], .blk b7 30 [.int .i64 a1.X0, .int .i64 a1.Y0, .int .i64 a1.X1, .int .i64 a1.Y1], .blk b29 54 [.int .i64 el12.W, .int .i64 el12.H, .slice A24 el12.Low.length cp25]] [RE.rd k_Level A1 cp2 a0.Levels, RE.cells g17 (o18 + (0 : Int).toNat * 3) [.int .i64 el12.W, .int .i64 el12.H, .slice A24 el12.Low.length cp25], RE.rd kInt A24 cp25 el12.Low]) ?_ ?_
    · cases hbS : (decide ((mn a1.X0 a1.Y0) < 0))
      · have hm := cond_f hbS hmS
        refine RL_pure (by exact wn1 rfl rfl rfl rfl) (by rfl) (by rfl) (x_fieldAddr fo30_0 (by rfl)) ?_
        refine RL_pure (by exact wn1 rfl rfl rfl rfl) (by rfl) (by rfl) (x_load (j := 0) (v := .int .i64 a1.X0) sc3 (by rfl) (H.cells (i := 1) (by rfl)) (by rfl)) ?_
        refine RL_pure (by exact wn1 rfl rfl rfl rfl) (by rfl) (by rfl) (x_fieldAddr fo30_2 (by rfl)) ?_
        refine RL_pure (by exact wn1 rfl rfl rfl rfl) (by rfl) (by rfl) (x_load (j := 2) (v := .int .i64 a1.X1) sc3 (by rfl) (H.cells (i := 1) (by rfl)) (by rfl)) ?_
        refine RL_pure (by exact wn1 rfl rfl rfl rfl) (by rfl) (by rfl) (x_gtr (by rfl) (by rfl)) ?_
        refine RL_pure (by exact wn0 rfl) (by rfl) (by rfl) (x_pick_f (v := .bool (decide (a1.X1 < a1.X0))) (by rfl) (by rfl)) ?_
        refine RL_nil ?_
        exact ⟨⟨congrArg Value.bool (Option.some.inj hm), rfl, rfl, rfl, trivial⟩, H⟩
      · have hm := cond_t hbS hmS
        refine RL_cons (OpR_off (by exact wn2 rfl rfl rfl rfl) (by rfl) (by rfl) ?_)
        refine RL_cons (OpR_off (by exact wn2 rfl rfl rfl rfl) (by rfl) (by rfl) ?_)
        refine RL_cons (OpR_off (by exact wn2 rfl rfl rfl rfl) (by rfl) (by rfl) ?_)
        refine RL_cons (OpR_off (by exact wn2 rfl rfl rfl rfl) (by rfl) (by rfl) ?_)
        refine RL_cons (OpR_off (by exact wn2 rfl rfl rfl rfl) (by rfl) (by rfl) ?_)
        refine RL_pure (by exact wn0 rfl) (by rfl) (by rfl) (x_pick_t (v := .bool true) (by rfl) (by rfl)) ?_
        refine RL_nil ?_
        exact ⟨⟨congrArg Value.bool (Option.some.inj hm), rfl, rfl, rfl, trivial⟩, H⟩
    · rintro r' w' ⟨hA, H⟩
      obtain ⟨r33, rfl⟩ := regen _ hA; clear hA
      obtain ⟨w34, rfl⟩ : ∃ W : World, W = w' := ⟨_, rfl⟩
      show RL _ _ _ _ _ _ _
      refine RL_pure (by exact wn0 rfl) (by rfl) (by rfl) (x_move (v := .bool b32) (by rfl)) ?_
      obtain ⟨b35, hmS, hm⟩ := bind_some hm
      refine RL_cut 6 (fun r' w' => Agr [(36, .bool b35), (2, .pointer (some ⟨b5, 0, none⟩)), (3, .pointer (some ⟨b7, 0, none⟩)), (7, .pointer (some ⟨b29, 0, none⟩))] r' ∧ Sep ok w w' [.blk b5 28 [.slice A1 a0.Levels.length cp2], .blk b7 30 [.int .i64 a1.X0, .int .i64 a1.Y0, .int .i64 a1.X1, .int .i64 a1.Y1], .blk b29 54 [.int .i64 el12.W, .int .i64 el12.H, .slice A24 el12.Low.length cp25]] [RE.rd k_Level A1 cp2 a0.Levels, RE.cells g17 (o18 + (0 : Int).toNat * 3) [.int .i64 el12.W, .int .i64 el12.H, .slice A24 el12.Low.length cp25], RE.rd kInt A24 cp25 el12.Low]) ?_ ?_
      · cases hbS : b32
        · have hm := cond_f hbS hmS
          refine RL_pure (by exact wn1 rfl rfl rfl rfl) (by rfl) (by rfl) (x_fieldAddr fo30_2 (by rfl)) ?_
          refine RL_pure (by exact wn1 rfl rfl rfl rfl) (by rfl) (by rfl) (x_load (j := 2) (v := .int .i64 a1.X1) sc3 (by rfl) (H.cells (i := 1) (by rfl)) (by rfl)) ?_
          refine RL_pure (by exact wn1 rfl rfl rfl rfl) (by rfl) (by rfl) (x_fieldAddr fo54_0 (by rfl)) ?_
          refine RL_pure (by exact wn1 rfl rfl rfl rfl) (by rfl) (by rfl) (x_load (j := 0) (v := .int .i64 el12.W) sc3 (by rfl) (H.cells (i := 2) (by rfl)) (by rfl)) ?_
          refine RL_pure (by exact wn1 rfl rfl rfl rfl) (by rfl) (by rfl) (x_geq (by rfl) (by rfl)) ?_
          refine RL_pure (by exact wn0 rfl) (by rfl) (by rfl) (x_pick_f (v := .bool (decide (el12.W ≤ a1.X1))) (by rfl) (by rfl)) ?_
          refine RL_nil ?_
          exact ⟨⟨congrArg Value.bool (Option.some.inj hm), rfl, rfl, rfl, trivial⟩, H⟩
        · have hm := cond_t hbS hmS
          refine RL_cons (OpR_off (by exact wn2 rfl rfl rfl rfl) (by rfl) (by rfl) ?_)
          refine RL_cons (OpR_off (by exact wn2 rfl rfl rfl rfl) (by rfl) (by rfl) ?_)
          refine RL_cons (OpR_off (by exact wn2 rfl rfl rfl rfl) (by rfl) (by rfl) ?_)
          refine RL_cons (OpR_off (by exact wn2 rfl rfl rfl rfl) (by rfl) (by rfl) ?_)
          refine RL_cons (OpR_off (by exact wn2 rfl rfl rfl rfl) (by rfl) (by rfl) ?_)
          refine RL_pure (by exact wn0 rfl) (by rfl) (by rfl) (x_pick_t (v := .bool true) (by rfl) (by rfl)) ?_
          refine RL_nil ?_
          exact ⟨⟨congrArg Value.bool (Option.some.inj hm), rfl, rfl, rfl, trivial⟩, H⟩
      · rintro r' w' ⟨hA, H⟩
        obtain ⟨r36, rfl⟩ := regen _ hA; clear hA
        obtain ⟨w37, rfl⟩ : ∃ W : World, W = w' := ⟨_, rfl⟩
        show RL _ _ _ _ _ _ _
        refine RL_pure (by exact wn0 rfl) (by rfl) (by rfl) (x_move (v := .bool b35) (by rfl)) ?_
        obtain ⟨b38, hmS, hm⟩ := bind_some hm
        refine RL_cut 6 (fun r' w' => Agr [(43, .bool b38), (2, .pointer (some ⟨b5, 0, none⟩)), (3, .pointer (some ⟨b7, 0, none⟩)), (7, .pointer (some ⟨b29, 0, none⟩))] r' ∧ Sep ok w w' [.blk b5 28 [.slice A1 a0.Levels.length cp2], .blk b7 30 [.int .i64 a1.X0, .int .i64 a1.Y0, .int .i64 a1.X1, .int .i64 a1.Y1], .blk b29 54 [.int .i64 el12.W, .int .i64 el12.H, .slice A24 el12.Low.length cp25]] [RE.rd k_Level A1 cp2 a0.Levels, RE.cells g17 (o18 + (0 : Int).toNat * 3) [.int .i64 el12.W, .int .i64 el12.H, .slice A24 el12.Low.length cp25], RE.rd kInt A24 cp25 el12.Low]) ?_ ?_
        · cases hbS : b35
          · have hm := cond_f hbS hmS
            refine RL_pure (by exact wn1 rfl rfl rfl rfl) (by rfl) (by rfl) (x_fieldAddr fo30_1 (by rfl)) ?_
            refine RL_pure (by exact wn1 rfl rfl rfl rfl) (by rfl) (by rfl) (x_load (j := 1) (v := .int .i64 a1.Y0) sc3 (by rfl) (H.cells (i := 1) (by rfl)) (by rfl)) ?_
            refine RL_pure (by exact wn1 rfl rfl rfl rfl) (by rfl) (by rfl) (x_fieldAddr fo30_3 (by rfl)) ?_
            refine RL_pure (by exact wn1 rfl rfl rfl rfl) (by rfl) (by rfl) (x_load (j := 3) (v := .int .i64 a1.Y1) sc3 (by rfl) (H.cells (i := 1) (by rfl)) (by rfl)) ?_
            refine RL_pure (by exact wn1 rfl rfl rfl rfl) (by rfl) (by rfl) (x_gtr (by rfl) (by rfl)) ?_
            refine RL_pure (by exact wn0 rfl) (by rfl) (by rfl) (x_pick_f (v := .bool (decide (a1.Y1 < a1.Y0))) (by rfl) (by rfl)) ?_
            refine RL_nil ?_
            exact ⟨⟨congrArg Value.bool (Option.some.inj hm), rfl, rfl, rfl, trivial⟩, H⟩
          · have hm := cond_t hbS hmS
            refine RL_cons (OpR_off (by exact wn2 rfl rfl rfl rfl) (by rfl) (by rfl) ?_)
            refine RL_cons (OpR_off (by exact wn2 rfl rfl rfl rfl) (by rfl) (by rfl) ?_)
            refine RL_cons (OpR_off (by exact wn2 rfl rfl rfl rfl) (by rfl) (by rfl) ?_)
            refine RL_cons (OpR_off (by exact wn2 rfl rfl rfl rfl) (by rfl) (by rfl) ?_)
            refine RL_cons (OpR_off (by exact wn2 rfl rfl rfl rfl) (by rfl) (by rfl) ?_)
            refine RL_pure (by exact wn0 rfl) (by rfl) (by rfl) (x_pick_t (v := .bool true) (by rfl) (by rfl)) ?_
            refine RL_nil ?_
            exact ⟨⟨congrArg Value.bool (Option.some.inj hm), rfl, rfl, rfl, trivial⟩, H⟩
        · rintro r' w' ⟨hA, H⟩
          obtain ⟨r39, rfl⟩ := regen _ hA; clear hA
          obtain ⟨w40, rfl⟩ : ∃ W : World, W = w' := ⟨_, rfl⟩
          show RL _ _ _ _ _ _ _
          refine RL_pure (by exact wn0 rfl) (by rfl) (by rfl) (x_move (v := .bool b38) (by rfl)) ?_
          obtain ⟨b41, hmS, hm⟩ := bind_some hm
          refine RL_cut 6 (fun r' w' => Agr [(50, .bool b41), (2, .pointer (some ⟨b5, 0, none⟩)), (3, .pointer (some ⟨b7, 0, none⟩))] r' ∧ Sep ok w w' [.blk b5 28 [.slice A1 a0.Levels.length cp2], .blk b7 30 [.int .i64 a1.X0, .int .i64 a1.Y0, .int .i64 a1.X1, .int .i64 a1.Y1], .blk b29 54 [.int .i64 el12.W, .int .i64 el12.H, .slice A24 el12.Low.length cp25]] [RE.rd k_Level A1 cp2 a0.Levels, RE.cells g17 (o18 + (0 : Int).toNat * 3) [.int .i64 el12.W, .int .i64 el12.H, .slice A24 el12.Low.length cp25], RE.rd kInt A24 cp25 el12.Low]) ?_ ?_
          · cases hbS : b38
            · have hm := cond_f hbS hmS
              refine RL_pure (by exact wn1 rfl rfl rfl rfl) (by rfl) (by rfl) (x_fieldAddr fo30_3 (by rfl)) ?_
              refine RL_pure (by exact wn1 rfl rfl rfl rfl) (by rfl) (by rfl) (x_load (j := 3) (v := .int .i64 a1.Y1) sc3 (by rfl) (H.cells (i := 1) (by rfl)) (by rfl)) ?_
              refine RL_pure (by exact wn1 rfl rfl rfl rfl) (by rfl) (by rfl) (x_fieldAddr fo54_1 (by rfl)) ?_
              refine RL_pure (by exact wn1 rfl rfl rfl rfl) (by rfl) (by rfl) (x_load (j := 1) (v := .int .i64 el12.H) sc3 (by rfl) (H.cells (i := 2) (by rfl)) (by rfl)) ?_
              refine RL_pure (by exact wn1 rfl rfl rfl rfl) (by rfl) (by rfl) (x_geq (by rfl) (by rfl)) ?_
              refine RL_pure (by exact wn0 rfl) (by rfl) (by rfl) (x_pick_f (v := .bool (decide (el12.H ≤ a1.Y1))) (by rfl) (by rfl)) ?_
              refine RL_nil ?_
              exact ⟨⟨congrArg Value.bool (Option.some.inj hm), rfl, rfl, trivial⟩, H⟩
            · have hm := cond_t hbS hmS
              refine RL_cons (OpR_off (by exact wn2 rfl rfl rfl rfl) (by rfl) (by rfl) ?_)
              refine RL_cons (OpR_off (by exact wn2 rfl rfl rfl rfl) (by rfl) (by rfl) ?_)
              refine RL_cons (OpR_off (by exact wn2 rfl rfl rfl rfl) (by rfl) (by rfl) ?_)
              refine RL_cons (OpR_off (by exact wn2 rfl rfl rfl rfl) (by rfl) (by rfl) ?_)
              refine RL_cons (OpR_off (by exact wn2 rfl rfl rfl rfl) (by rfl) (by rfl) ?_)
              refine RL_pure (by exact wn0 rfl) (by rfl) (by rfl) (x_pick_t (v := .bool true) (by rfl) (by rfl)) ?_
              refine RL_nil ?_
              exact ⟨⟨congrArg Value.bool (Option.some.inj hm), rfl, rfl, trivial⟩, H⟩
          · rintro r' w' ⟨hA, H⟩
            obtain ⟨r42, rfl⟩ := regen _ hA; clear hA
            obtain ⟨w43, rfl⟩ : ∃ W : World, W = w' := ⟨_, rfl⟩
            show RL _ _ _ _ _ _ _
            refine RL_nil ?_
            refine W_cond (by rfl) (fun hb => ?_) (fun hb => ?_)
            · have hm := cond_t hb hm
              refine W_seq ?_
              refine W_region ?_
              refine RL_pure (by exact wn0 rfl) (by rfl) (by rfl) (x_assign (v := .int .i64 0) (by rfl)) ?_
              refine RL_pure (by exact wn0 rfl) (by rfl) (by rfl) (x_assign (v := .int .i64 2) (by rfl)) ?_
              refine RL_nil ?_
              refine W_ret ?_
              obtain rfl := Option.some.inj hm
              exact ⟨[.int .i64 0, .int .i64 2], (.tmp (by rfl) (.tmp (by rfl) rfl)), rfl, H.none_⟩
            · have hm := cond_f hb hm
              refine W_skip ?_
              refine W_seq ?_
              refine W_region ?_
              refine RL_pure (by exact wn0 rfl) (by rfl) (by rfl) (x_loadA (j := 0) (vs := [.slice A1 a0.Levels.length cp2]) ag28 (by rfl) (H.cells (i := 0) (by rfl)) (by rfl) (by rfl)) ?_
              refine RL_pure (by exact wn0 rfl) (by rfl) (by rfl) (x_fieldAddr fo28_0 (by rfl)) ?_
              refine RL_pure (by exact wn0 rfl) (by rfl) (by rfl) (x_load (j := 0) (v := .slice A1 a0.Levels.length cp2) sc26 (by rfl) (H.cells (i := 0) (by rfl)) (by rfl)) ?_
              refine RL_pure (by exact wn0 rfl) (by rfl) (by rfl) (x_len sl26 (by rfl)) ?_
              obtain ⟨x44, ex44, qx44, ux44, hm⟩ := ck_some hm
              refine RL_pure (by exact wn0 rfl) (by rfl) (by rfl) (x_sub (by rfl) (by rfl) ux44) ?_
              refine RL_pure (by exact wn0 rfl) (by rfl) (by rfl) (x_loadA (j := 0) (vs := [.int .i64 a1.X0, .int .i64 a1.Y0, .int .i64 a1.X1, .int .i64 a1.Y1]) ag30 (by rfl) (H.cells (i := 1) (by rfl)) (by rfl) (by rfl)) ?_
              obtain ⟨v46, hv45, hm⟩ := bind_some hm
              refine RL_cons (O_call (by exact wn0 rfl) (by rfl) (by rfl) (x_callL (by rfl) (args := [.agg #[.slice A1 a0.Levels.length cp2], .int .i64 x44, .int .i64 0, .int .i64 0, .agg #[.int .i64 a1.X0, .int .i64 a1.Y0, .int .i64 a1.X1, .int .i64 a1.Y1], .int .i64 66560]) (by rfl) (cf62 _ _)) (c62 (fun _ => True) K w43 a0 A1 cp2 x44 0 0 a1 66560 (H.rd (i := 0) (by rfl)).any v46 hv45) ?_)
              rintro e w47 ⟨rfl, H2⟩
              have H : Sep ok w w47 [.blk b5 28 [.slice A1 a0.Levels.length cp2], .blk b7 30 [.int .i64 a1.X0, .int .i64 a1.Y0, .int .i64 a1.X1, .int .i64 a1.Y1], .blk b29 54 [.int .i64 el12.W, .int .i64 el12.H, .slice A24 el12.Low.length cp25]] [RE.rd k_Level A1 cp2 a0.Levels, RE.cells g17 (o18 + (0 : Int).toNat * 3) [.int .i64 el12.W, .int .i64 el12.H, .slice A24 el12.Low.length cp25], RE.rd kInt A24 cp25 el12.Low] := H.below H2.base
              clear H2
              refine ⟨_, rfl, ?_⟩
              show RL _ _ _ _ _ _ _
              refine RL_pure (by exact wn0 rfl) (by rfl) (by rfl) (x_assign (v := .int .i64 v46) (by rfl)) ?_
              refine RL_pure (by exact wn0 rfl) (by rfl) (by rfl) (x_assign (v := .int .i64 0) (by rfl)) ?_
              refine RL_nil ?_
              refine W_ret ?_
              obtain rfl := Option.some.inj hm
              exact ⟨[.int .i64 v46, .int .i64 0], (.tmp (by rfl) (.tmp (by rfl) rfl)), rfl, H.none_⟩
end Go.Proofs.YtobkigllalbkiaaV.M
