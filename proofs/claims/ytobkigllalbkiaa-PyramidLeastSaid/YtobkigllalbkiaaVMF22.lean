/- A plain Lean function that answers as the Go function does (none: not told), and the proof that a call answers so. Written by program. -/
import Derived.Test.YtobkigllalbkiaaVMTy
import Derived.Test.YtobkigllalbkiaaVMF58
import Derived.Test.YtobkigllalbkiaaVMF63
import Derived.Test.YtobkigllalbkiaaVMF64
import Derived.Test.YtobkigllalbkiaaVMF65
import Derived.Test.YtobkigllalbkiaaVMF66
set_option linter.unusedVariables false
namespace Go.Proofs.YtobkigllalbkiaaV.M
open Go.RowKit Go.Proofs.YtobkigllalbkiaaV
/-- diorama/pyramid.Check -/
def m22 (K : Nat) (a0 : S_Pyramid) : Option (Int) :=
  (bif ((a0.Levels.length : Int) == 0) then some 8 else (idx a0.Levels 0 fun el7 => ((bif (decide ((mn el7.W el7.H) < 1)) then some true else some (decide (64 < (mx el7.W el7.H)))).bind fun b27 => ((bif b27 then some true else (ck (el7.W * el7.H) fun x31 => some ((el7.Low.length : Int) != x31))).bind fun b30 => (bif b30 then some 8 else ((m63 K el7.Low).bind fun v36 => ((bif (decide (v36 < (-2048))) then some true else ((m64 K el7.Low).bind fun v40 => some (decide (66560 < v40)))).bind fun b38 => ((bif b38 then some true else ((m58 K el7).bind fun v46 => ((m65 K v46.Levels a0.Levels).bind fun v52 => some (!v52)))).bind fun b44 => (bif b44 then some 8 else some 0)))))))))
set_option maxRecDepth 100000 in
set_option maxHeartbeats 4000000 in
theorem c22 (ok : Nat → Prop) (K : Nat) (w : World) (a0 : S_Pyramid) (A1 : Option Addr) (cp2 : Nat) (hR3 : Rd k_Level w ok A1 cp2 a0.Levels) (res : Int) (hm : m22 K a0 = some res) :
    Calls Try.prog 22 #[.agg #[.slice A1 a0.Levels.length cp2]] w (fun e w' => e = .returned (tup [.int .i64 res]) ∧ Sep ok w w' [] []) := by
  refine calls_W (args := [.agg #[.slice A1 a0.Levels.length cp2]]) Try.func22 rfl Try.ntmps22 Try.results22 rfl fun r hr => ?_
  obtain ⟨r1, rfl⟩ := regen (r := r) [(0, .agg #[.slice A1 a0.Levels.length cp2])] ⟨hr 0 _ rfl, trivial⟩
  have H : Sep ok w w [] [RE.rd k_Level A1 cp2 a0.Levels] := Sep.arg (Sep.start ok w) (re := RE.rd k_Level A1 cp2 a0.Levels) rfl rfl hR3
  unfold m22 at hm
  refine W_seq ?_
  refine W_region ?_
  refine RL_cons (O_box (by exact wn0 rfl) (by rfl) (by rfl) (by rfl) H (fun w6 b5 (H : Sep ok w w6 [.blk b5 28 [.slice A1 a0.Levels.length cp2]] [RE.rd k_Level A1 cp2 a0.Levels]) => ?_))
  refine RL_pure (by exact wn0 rfl) (by rfl) (by rfl) (x_assign (v := .int .i64 0) (by rfl)) ?_
  refine RL_nil ?_
  refine W_seq ?_
  refine W_seq ?_
  refine W_region ?_
  refine RL_pure (by exact wn0 rfl) (by rfl) (by rfl) (x_fieldAddr fo28_0 (by rfl)) ?_
  refine RL_pure (by exact wn0 rfl) (by rfl) (by rfl) (x_load (j := 0) (v := .slice A1 a0.Levels.length cp2) sc26 (by rfl) (H.cells (i := 0) (by rfl)) (by rfl)) ?_
  refine RL_pure (by exact wn0 rfl) (by rfl) (by rfl) (x_len sl26 (by rfl)) ?_
  refine RL_pure (by exact wn0 rfl) (by rfl) (by rfl) (x_eql (by rfl) (by rfl)) ?_
  refine RL_nil ?_
  refine W_cond (by rfl) (fun hb => ?_) (fun hb => ?_)
  · have hm := cond_t hb hm
    refine W_seq ?_
    refine W_region ?_
    refine RL_pure (by exact wn0 rfl) (by rfl) (by rfl) (x_assign (v := .int .i64 8) (by rfl)) ?_
    refine RL_nil ?_
    refine W_ret ?_
    obtain rfl := Option.some.inj hm
    exact ⟨[.int .i64 8], (.tmp (by rfl) rfl), rfl, H.none_⟩
  · have hm := cond_f hb hm
    refine W_skip ?_
    refine W_seq ?_
    refine W_region ?_
    refine RL_pure (by exact wn0 rfl) (by rfl) (by rfl) (x_fieldAddr fo28_0 (by rfl)) ?_
    refine RL_pure (by exact wn0 rfl) (by rfl) (by rfl) (x_load (j := 0) (v := .slice A1 a0.Levels.length cp2) sc26 (by rfl) (H.cells (i := 0) (by rfl)) (by rfl)) ?_
    obtain ⟨el7, h8, h9, he10, hm⟩ := idx_some hm
    obtain ⟨g12, o13, hA11⟩ := (H.rd (i := 0) (by rfl)).addr he10
    obtain ⟨cs14, hk15, hat16, hg_cs14⟩ := (H.rd (i := 0) (by rfl)).openAt hA11 he10
    obtain ⟨A19, cp20, rfl, hR22⟩ := hk15
    have H : Sep ok w w6 [.blk b5 28 [.slice A1 a0.Levels.length cp2]] [RE.rd k_Level A1 cp2 a0.Levels, RE.cells g12 (o13 + (0 : Int).toNat * 3) [.int .i64 el7.W, .int .i64 el7.H, .slice A19 el7.Low.length cp20]] := Sep.also H (re := RE.cells g12 (o13 + (0 : Int).toNat * 3) [.int .i64 el7.W, .int .i64 el7.H, .slice A19 el7.Low.length cp20]) ⟨hg_cs14.1, hg_cs14.2, hat16⟩
    have H : Sep ok w w6 [.blk b5 28 [.slice A1 a0.Levels.length cp2]] [RE.rd k_Level A1 cp2 a0.Levels, RE.cells g12 (o13 + (0 : Int).toNat * 3) [.int .i64 el7.W, .int .i64 el7.H, .slice A19 el7.Low.length cp20], RE.rd kInt A19 cp20 el7.Low] := Sep.also H (re := RE.rd kInt A19 cp20 el7.Low) hR22
    refine RL_pure (by exact wn0 rfl) (by rfl) (by rfl) (x_indexAddr sl26 sz54 (by rfl) (by rfl) hA11 h8 h9) ?_
    refine RL_pure (by exact wn0 rfl) (by rfl) (by rfl) (x_loadA (j := 0) (vs := [.int .i64 el7.W, .int .i64 el7.H, .slice A19 el7.Low.length cp20]) ag54 (by rfl) (H.cellsR (i := 1) (by rfl)) (by rfl) (by rfl)) ?_
    refine RL_cons (O_alloc (by exact wn0 rfl) (by rfl) ze54 (by rfl) H (fun w25 b24 (H : Sep ok w w25 [.blk b5 28 [.slice A1 a0.Levels.length cp2], .blk b24 54 [.int .i64 0, .int .i64 0, .slice none 0 0]] [RE.rd k_Level A1 cp2 a0.Levels, RE.cells g12 (o13 + (0 : Int).toNat * 3) [.int .i64 el7.W, .int .i64 el7.H, .slice A19 el7.Low.length cp20], RE.rd kInt A19 cp20 el7.Low]) => ?_))
    refine RL_cons (O_store (i := 1) (off := 0) (by exact wn0 rfl) (by rfl) (by rfl) H (by rfl) (vs := [.int .i64 el7.W, .int .i64 el7.H, .slice A19 el7.Low.length cp20]) (by rfl) sz54 (by rfl) (by rfl) (by rfl) (fun w26 (H : Sep ok w w26 [.blk b5 28 [.slice A1 a0.Levels.length cp2], .blk b24 54 [.int .i64 el7.W, .int .i64 el7.H, .slice A19 el7.Low.length cp20]] [RE.rd k_Level A1 cp2 a0.Levels, RE.cells g12 (o13 + (0 : Int).toNat * 3) [.int .i64 el7.W, .int .i64 el7.H, .slice A19 el7.Low.length cp20], RE.rd kInt A19 cp20 el7.Low]) => ?_))
    refine RL_nil ?_
    refine W_seq ?_
    refine W_seq ?_
    refine W_region ?_
    refine RL_pure (by exact wn0 rfl) (by rfl) (by rfl) (x_fieldAddr fo54_0 (by rfl)) ?_
    refine RL_pure (by exact wn0 rfl) (by rfl) (by rfl) (x_load (j := 0) (v := .int .i64 el7.W) sc3 (by rfl) (H.cells (i := 1) (by rfl)) (by rfl)) ?_
    refine RL_pure (by exact wn0 rfl) (by rfl) (by rfl) (x_fieldAddr fo54_1 (by rfl)) ?_
    refine RL_pure (by exact wn0 rfl) (by rfl) (by rfl) (x_load (j := 1) (v := .int .i64 el7.H) sc3 (by rfl) (H.cells (i := 1) (by rfl)) (by rfl)) ?_
    refine RL_pure (by exact wn0 rfl) (by rfl) (by rfl) (x_min2 (by rfl) (by rfl)) ?_
    refine RL_pure (by exact wn0 rfl) (by rfl) (by rfl) (x_lss (by rfl) (by rfl)) ?_
    refine RL_pure (by exact wn0 rfl) (by rfl) (by rfl) (x_move (v := .bool (decide ((mn el7.W el7.H) < 1))) (by rfl)) ?_
    obtain ⟨b27, hmS, hm⟩ := bind_some hm
    refine RL_cut 7 (fun r' w' => Agr [(25, .bool b27), (1, .pointer (some ⟨b5, 0, none⟩)), (3, .pointer (some ⟨b24, 0, none⟩))] r' ∧ Sep ok w w' [.blk b5 28 [.slice A1 a0.Levels.length cp2], .blk b24 54 [.int .i64 el7.W, .int .i64 el7.H, .slice A19 el7.Low.length cp20]] [RE.rd k_Level A1 cp2 a0.Levels, RE.cells g12 (o13 + (0 : Int).toNat * 3) [.int .i64 el7.W, .int .i64 el7.H, .slice A19 el7.Low.length cp20], RE.rd kInt A19 cp20 el7.Low]) ?_ ?_
    · cases hbS : (decide ((mn el7.W el7.H) < 1))
      · have hm := cond_f hbS hmS
        refine RL_pure (by exact wn1 rfl rfl rfl rfl) (by rfl) (by rfl) (x_fieldAddr fo54_0 (by rfl)) ?_
        refine RL_pure (by exact wn1 rfl rfl rfl rfl) (by rfl) (by rfl) (x_load (j := 0) (v := .int .i64 el7.W) sc3 (by rfl) (H.cells (i := 1) (by rfl)) (by rfl)) ?_
        refine RL_pure (by exact wn1 rfl rfl rfl rfl) (by rfl) (by rfl) (x_fieldAddr fo54_1 (by rfl)) ?_
        refine RL_pure (by exact wn1 rfl rfl rfl rfl) (by rfl) (by rfl) (x_load (j := 1) (v := .int .i64 el7.H) sc3 (by rfl) (H.cells (i := 1) (by rfl)) (by rfl)) ?_
        refine RL_pure (by exact wn1 rfl rfl rfl rfl) (by rfl) (by rfl) (x_max2 (by rfl) (by rfl)) ?_
        refine RL_pure (by exact wn1 rfl rfl rfl rfl) (by rfl) (by rfl) (x_gtr (by rfl) (by rfl)) ?_
        refine RL_pure (by exact wn0 rfl) (by rfl) (by rfl) (x_pick_f (v := .bool (decide (64 < (mx el7.W el7.H)))) (by rfl) (by rfl)) ?_
        refine RL_nil ?_
        exact ⟨⟨congrArg Value.bool (Option.some.inj hm), rfl, rfl, trivial⟩, H⟩
      · have hm := cond_t hbS hmS
        refine RL_cons (OpR_off (by exact wn2 rfl rfl rfl rfl) (by rfl) (by rfl) ?_)
        refine RL_cons (OpR_off (by exact wn2 rfl rfl rfl rfl) (by rfl) (by rfl) ?_)
        refine RL_cons (OpR_off (by exact wn2 rfl rfl rfl rfl) (by rfl) (by rfl) ?_)
        refine RL_cons (OpR_off (by exact wn2 rfl rfl rfl rfl) (by rfl) (by rfl) ?_)
        refine RL_cons (OpR_off (by exact wn2 rfl rfl rfl rfl) (by rfl) (by rfl) ?_)
        refine RL_cons (OpR_off (by exact wn2 rfl rfl rfl rfl) (by rfl) (by rfl) ?_)
        refine RL_pure (by exact wn0 rfl) (by rfl) (by rfl) (x_pick_t (v := .bool true) (by rfl) (by rfl)) ?_
        refine RL_nil ?_
        exact ⟨⟨congrArg Value.bool (Option.some.inj hm), rfl, rfl, trivial⟩, H⟩
    · rintro r' w' ⟨hA, H⟩
      obtain ⟨r28, rfl⟩ := regen _ hA; clear hA
      obtain ⟨w29, rfl⟩ : ∃ W : World, W = w' := ⟨_, rfl⟩
      show RL _ _ _ _ _ _ _
      refine RL_pure (by exact wn0 rfl) (by rfl) (by rfl) (x_move (v := .bool b27) (by rfl)) ?_
      obtain ⟨b30, hmS, hm⟩ := bind_some hm
      refine RL_cut 10 (fun r' w' => Agr [(36, .bool b30), (1, .pointer (some ⟨b5, 0, none⟩)), (3, .pointer (some ⟨b24, 0, none⟩))] r' ∧ Sep ok w w' [.blk b5 28 [.slice A1 a0.Levels.length cp2], .blk b24 54 [.int .i64 el7.W, .int .i64 el7.H, .slice A19 el7.Low.length cp20]] [RE.rd k_Level A1 cp2 a0.Levels, RE.cells g12 (o13 + (0 : Int).toNat * 3) [.int .i64 el7.W, .int .i64 el7.H, .slice A19 el7.Low.length cp20], RE.rd kInt A19 cp20 el7.Low]) ?_ ?_
      · cases hbS : b27
        · have hm := cond_f hbS hmS
          refine RL_pure (by exact wn1 rfl rfl rfl rfl) (by rfl) (by rfl) (x_fieldAddr fo54_2 (by rfl)) ?_
          refine RL_pure (by exact wn1 rfl rfl rfl rfl) (by rfl) (by rfl) (x_load (j := 2) (v := .slice A19 el7.Low.length cp20) sc23 (by rfl) (H.cells (i := 1) (by rfl)) (by rfl)) ?_
          refine RL_pure (by exact wn1 rfl rfl rfl rfl) (by rfl) (by rfl) (x_len sl23 (by rfl)) ?_
          refine RL_pure (by exact wn1 rfl rfl rfl rfl) (by rfl) (by rfl) (x_fieldAddr fo54_0 (by rfl)) ?_
          refine RL_pure (by exact wn1 rfl rfl rfl rfl) (by rfl) (by rfl) (x_load (j := 0) (v := .int .i64 el7.W) sc3 (by rfl) (H.cells (i := 1) (by rfl)) (by rfl)) ?_
          refine RL_pure (by exact wn1 rfl rfl rfl rfl) (by rfl) (by rfl) (x_fieldAddr fo54_1 (by rfl)) ?_
          refine RL_pure (by exact wn1 rfl rfl rfl rfl) (by rfl) (by rfl) (x_load (j := 1) (v := .int .i64 el7.H) sc3 (by rfl) (H.cells (i := 1) (by rfl)) (by rfl)) ?_
          obtain ⟨x31, ex31, qx31, ux31, hm⟩ := ck_some hm
          refine RL_pure (by exact wn1 rfl rfl rfl rfl) (by rfl) (by rfl) (x_mul (by rfl) (by rfl) ux31) ?_
          refine RL_pure (by exact wn1 rfl rfl rfl rfl) (by rfl) (by rfl) (x_neq (by rfl) (by rfl)) ?_
          refine RL_pure (by exact wn0 rfl) (by rfl) (by rfl) (x_pick_f (v := .bool ((el7.Low.length : Int) != x31)) (by rfl) (by rfl)) ?_
          refine RL_nil ?_
          exact ⟨⟨congrArg Value.bool (Option.some.inj hm), rfl, rfl, trivial⟩, H⟩
        · have hm := cond_t hbS hmS
          refine RL_cons (OpR_off (by exact wn2 rfl rfl rfl rfl) (by rfl) (by rfl) ?_)
          refine RL_cons (OpR_off (by exact wn2 rfl rfl rfl rfl) (by rfl) (by rfl) ?_)
          refine RL_cons (OpR_off (by exact wn2 rfl rfl rfl rfl) (by rfl) (by rfl) ?_)
          refine RL_cons (OpR_off (by exact wn2 rfl rfl rfl rfl) (by rfl) (by rfl) ?_)
          refine RL_cons (OpR_off (by exact wn2 rfl rfl rfl rfl) (by rfl) (by rfl) ?_)
          refine RL_cons (OpR_off (by exact wn2 rfl rfl rfl rfl) (by rfl) (by rfl) ?_)
          refine RL_cons (OpR_off (by exact wn2 rfl rfl rfl rfl) (by rfl) (by rfl) ?_)
          refine RL_cons (OpR_off (by exact wn2 rfl rfl rfl rfl) (by rfl) (by rfl) ?_)
          refine RL_cons (OpR_off (by exact wn2 rfl rfl rfl rfl) (by rfl) (by rfl) ?_)
          refine RL_pure (by exact wn0 rfl) (by rfl) (by rfl) (x_pick_t (v := .bool true) (by rfl) (by rfl)) ?_
          refine RL_nil ?_
          exact ⟨⟨congrArg Value.bool (Option.some.inj hm), rfl, rfl, trivial⟩, H⟩
      · rintro r' w' ⟨hA, H⟩
        obtain ⟨r32, rfl⟩ := regen _ hA; clear hA
        obtain ⟨w33, rfl⟩ : ∃ W : World, W = w' := ⟨_, rfl⟩
        show RL _ _ _ _ _ _ _
        refine RL_nil ?_
        refine W_cond (by rfl) (fun hb => ?_) (fun hb => ?_)
        · have hm := cond_t hb hm
          refine W_seq ?_
          refine W_region ?_
          refine RL_pure (by exact wn0 rfl) (by rfl) (by rfl) (x_assign (v := .int .i64 8) (by rfl)) ?_
          refine RL_nil ?_
          refine W_ret ?_
          obtain rfl := Option.some.inj hm
          exact ⟨[.int .i64 8], (.tmp (by rfl) rfl), rfl, H.none_⟩
        · have hm := cond_f hb hm
          refine W_skip ?_
          refine W_seq ?_
          refine W_seq ?_
          refine W_draw [.free 0, .take 1, .run 2, .free 3, .free 4, .free 5, .take 6, .run 7, .free 8, .free 9, .free 10, .take 11, .free 14, .take 15, .run 12, .free 13, .run 16, .free 17, .free 18] (fun wS => Sep ok w wS [.blk b5 28 [.slice A1 a0.Levels.length cp2], .blk b24 54 [.int .i64 el7.W, .int .i64 el7.H, .slice A19 el7.Low.length cp20]] [RE.rd k_Level A1 cp2 a0.Levels, RE.cells g12 (o13 + (0 : Int).toNat * 3) [.int .i64 el7.W, .int .i64 el7.H, .slice A19 el7.Low.length cp20], RE.rd kInt A19 cp20 el7.Low]) [] [0, 3, 4, 5, 8, 9, 10, 13, 14, 17, 18] mixed0 (by kernel_rfl) (by kernel_rfl) (by kernel_rfl) (by rfl) (by exact H.drew) ?_
          obtain ⟨w34, hW⟩ : ∃ W : World, W = { w33 with drawn := w33.drawn + 1 } := ⟨_, rfl⟩
          rw [← hW]
          have H : Sep ok w w34 [.blk b5 28 [.slice A1 a0.Levels.length cp2], .blk b24 54 [.int .i64 el7.W, .int .i64 el7.H, .slice A19 el7.Low.length cp20]] [RE.rd k_Level A1 cp2 a0.Levels, RE.cells g12 (o13 + (0 : Int).toNat * 3) [.int .i64 el7.W, .int .i64 el7.H, .slice A19 el7.Low.length cp20], RE.rd kInt A19 cp20 el7.Low] := by rw [hW]; exact H.drew
          clear hW
          refine PR_free (by rfl) (by rfl) (by rfl) (by exact wn0 rfl) (fun wS => (x_fieldAddr fo54_2 (by rfl))) ?_
          refine PR_take (by rfl) (by rfl) (by rfl) (by exact wn0 rfl) (fun wS (H : Sep ok w wS [.blk b5 28 [.slice A1 a0.Levels.length cp2], .blk b24 54 [.int .i64 el7.W, .int .i64 el7.H, .slice A19 el7.Low.length cp20]] [RE.rd k_Level A1 cp2 a0.Levels, RE.cells g12 (o13 + (0 : Int).toNat * 3) [.int .i64 el7.W, .int .i64 el7.H, .slice A19 el7.Low.length cp20], RE.rd kInt A19 cp20 el7.Low]) => (x_load (j := 2) (v := .slice A19 el7.Low.length cp20) sc23 (by rfl) (H.cells (i := 1) (by rfl)) (by rfl))) ?_
          obtain ⟨v36, hv35, hm⟩ := bind_some hm
          refine PR_run (by rfl) (O_call (by exact wn0 rfl) (by rfl) (by rfl) (x_callL (by rfl) (args := [.slice A19 el7.Low.length cp20]) (by rfl) (cf63 _ _)) (c63 (fun _ => True) K w34 el7.Low A19 cp20 (H.rd (i := 2) (by rfl)).any v36 hv35) ?_)
          rintro e w37 ⟨rfl, H2⟩
          have H : Sep ok w w37 [.blk b5 28 [.slice A1 a0.Levels.length cp2], .blk b24 54 [.int .i64 el7.W, .int .i64 el7.H, .slice A19 el7.Low.length cp20]] [RE.rd k_Level A1 cp2 a0.Levels, RE.cells g12 (o13 + (0 : Int).toNat * 3) [.int .i64 el7.W, .int .i64 el7.H, .slice A19 el7.Low.length cp20], RE.rd kInt A19 cp20 el7.Low] := H.below H2.base
          clear H2
          refine ⟨_, rfl, H, ?_⟩
          show PR _ _ _ _ _ _ _ _
          refine PR_free (by rfl) (by rfl) (by rfl) (by exact wn0 rfl) (fun wS => (x_lss (by rfl) (by rfl))) ?_
          refine PR_free (by rfl) (by rfl) (by rfl) (by exact wn0 rfl) (fun wS => (x_move (v := .bool (decide (v36 < (-2048)))) (by rfl))) ?_
          obtain ⟨b38, hmS, hm⟩ := bind_some hm
          refine PR_cut 5 (fun r' w' => Agr [(46, .bool b38), (1, .pointer (some ⟨b5, 0, none⟩)), (3, .pointer (some ⟨b24, 0, none⟩))] r' ∧ Sep ok w w' [.blk b5 28 [.slice A1 a0.Levels.length cp2], .blk b24 54 [.int .i64 el7.W, .int .i64 el7.H, .slice A19 el7.Low.length cp20]] [RE.rd k_Level A1 cp2 a0.Levels, RE.cells g12 (o13 + (0 : Int).toNat * 3) [.int .i64 el7.W, .int .i64 el7.H, .slice A19 el7.Low.length cp20], RE.rd kInt A19 cp20 el7.Low]) ?_ ?_
          · cases hbS : (decide (v36 < (-2048)))
            · have hm := cond_f hbS hmS
              refine PR_free (by rfl) (by rfl) (by rfl) (by exact wn1 rfl rfl rfl rfl) (fun wS => (x_fieldAddr fo54_2 (by rfl))) ?_
              refine PR_take (by rfl) (by rfl) (by rfl) (by exact wn1 rfl rfl rfl rfl) (fun wS (H : Sep ok w wS [.blk b5 28 [.slice A1 a0.Levels.length cp2], .blk b24 54 [.int .i64 el7.W, .int .i64 el7.H, .slice A19 el7.Low.length cp20]] [RE.rd k_Level A1 cp2 a0.Levels, RE.cells g12 (o13 + (0 : Int).toNat * 3) [.int .i64 el7.W, .int .i64 el7.H, .slice A19 el7.Low.length cp20], RE.rd kInt A19 cp20 el7.Low]) => (x_load (j := 2) (v := .slice A19 el7.Low.length cp20) sc23 (by rfl) (H.cells (i := 1) (by rfl)) (by rfl))) ?_
              obtain ⟨v40, hv39, hm⟩ := bind_some hm
              refine PR_run (by rfl) (O_call (by exact wn1 rfl rfl rfl rfl) (by rfl) (by rfl) (x_callL (by rfl) (args := [.slice A19 el7.Low.length cp20]) (by rfl) (cf64 _ _)) (c64 (fun _ => True) K w37 el7.Low A19 cp20 (H.rd (i := 2) (by rfl)).any v40 hv39) ?_)
              rintro e w41 ⟨rfl, H2⟩
              have H : Sep ok w w41 [.blk b5 28 [.slice A1 a0.Levels.length cp2], .blk b24 54 [.int .i64 el7.W, .int .i64 el7.H, .slice A19 el7.Low.length cp20]] [RE.rd k_Level A1 cp2 a0.Levels, RE.cells g12 (o13 + (0 : Int).toNat * 3) [.int .i64 el7.W, .int .i64 el7.H, .slice A19 el7.Low.length cp20], RE.rd kInt A19 cp20 el7.Low] := H.below H2.base
              clear H2
              refine ⟨_, rfl, H, ?_⟩
              show PR _ _ _ _ _ _ _ _
              refine PR_free (by rfl) (by rfl) (by rfl) (by exact wn1 rfl rfl rfl rfl) (fun wS => (x_gtr (by rfl) (by rfl))) ?_
              refine PR_free (by rfl) (by rfl) (by rfl) (by exact wn0 rfl) (fun wS => (x_pick_f (v := .bool (decide (66560 < v40))) (by rfl) (by rfl))) ?_
              refine PR_nil ?_
              exact ⟨⟨congrArg Value.bool (Option.some.inj hm), rfl, rfl, trivial⟩, H⟩
            · have hm := cond_t hbS hmS
              refine PR_offF (by rfl) (by rfl) (by rfl) (by exact wn2 rfl rfl rfl rfl) ?_
              refine PR_off (by rfl) (by rfl) (by rfl) (by exact wn2 rfl rfl rfl rfl) ?_
              refine PR_run (by rfl) (OpR_off (by exact wn2 rfl rfl rfl rfl) (by rfl) (by rfl) ⟨H, ?_⟩)
              refine PR_offF (by rfl) (by rfl) (by rfl) (by exact wn2 rfl rfl rfl rfl) ?_
              refine PR_free (by rfl) (by rfl) (by rfl) (by exact wn0 rfl) (fun wS => (x_pick_t (v := .bool true) (by rfl) (by rfl))) ?_
              refine PR_nil ?_
              exact ⟨⟨congrArg Value.bool (Option.some.inj hm), rfl, rfl, trivial⟩, H⟩
          · rintro r' w' ⟨hA, H⟩
            obtain ⟨r42, rfl⟩ := regen _ hA; clear hA
            obtain ⟨w43, rfl⟩ : ∃ W : World, W = w' := ⟨_, rfl⟩
            show PR _ _ _ _ _ _ _ _
            refine PR_free (by rfl) (by rfl) (by rfl) (by exact wn0 rfl) (fun wS => (x_move (v := .bool b38) (by rfl))) ?_
            obtain ⟨b44, hmS, hm⟩ := bind_some hm
            refine PR_cut 8 (fun r' w' => Agr [(55, .bool b44)] r' ∧ Sep ok w w' [.blk b5 28 [.slice A1 a0.Levels.length cp2], .blk b24 54 [.int .i64 el7.W, .int .i64 el7.H, .slice A19 el7.Low.length cp20]] [RE.rd k_Level A1 cp2 a0.Levels, RE.cells g12 (o13 + (0 : Int).toNat * 3) [.int .i64 el7.W, .int .i64 el7.H, .slice A19 el7.Low.length cp20], RE.rd kInt A19 cp20 el7.Low]) ?_ ?_
            · cases hbS : b38
              · have hm := cond_f hbS hmS
                refine PR_take (by rfl) (by rfl) (by rfl) (by exact wn1 rfl rfl rfl rfl) (fun wS (H : Sep ok w wS [.blk b5 28 [.slice A1 a0.Levels.length cp2], .blk b24 54 [.int .i64 el7.W, .int .i64 el7.H, .slice A19 el7.Low.length cp20]] [RE.rd k_Level A1 cp2 a0.Levels, RE.cells g12 (o13 + (0 : Int).toNat * 3) [.int .i64 el7.W, .int .i64 el7.H, .slice A19 el7.Low.length cp20], RE.rd kInt A19 cp20 el7.Low]) => (x_loadA (j := 0) (vs := [.int .i64 el7.W, .int .i64 el7.H, .slice A19 el7.Low.length cp20]) ag54 (by rfl) (H.cells (i := 1) (by rfl)) (by rfl) (by rfl))) ?_
                refine PR_free (by rfl) (by rfl) (by rfl) (by exact wn1 rfl rfl rfl rfl) (fun wS => (x_fieldAddr fo28_0 (by rfl))) ?_
                refine PR_take (by rfl) (by rfl) (by rfl) (by exact wn1 rfl rfl rfl rfl) (fun wS (H : Sep ok w wS [.blk b5 28 [.slice A1 a0.Levels.length cp2], .blk b24 54 [.int .i64 el7.W, .int .i64 el7.H, .slice A19 el7.Low.length cp20]] [RE.rd k_Level A1 cp2 a0.Levels, RE.cells g12 (o13 + (0 : Int).toNat * 3) [.int .i64 el7.W, .int .i64 el7.H, .slice A19 el7.Low.length cp20], RE.rd kInt A19 cp20 el7.Low]) => (x_load (j := 0) (v := .slice A1 a0.Levels.length cp2) sc26 (by rfl) (H.cells (i := 0) (by rfl)) (by rfl))) ?_
                obtain ⟨v46, hv45, hm⟩ := bind_some hm
                refine PR_run (by rfl) (O_call (by exact wn1 rfl rfl rfl rfl) (by rfl) (by rfl) (x_callL (by rfl) (args := [.agg #[.int .i64 el7.W, .int .i64 el7.H, .slice A19 el7.Low.length cp20]]) (by rfl) (cf58 _ _)) (c58 (okS ok w [.blk b5 28 [.slice A1 a0.Levels.length cp2], .blk b24 54 [.int .i64 el7.W, .int .i64 el7.H, .slice A19 el7.Low.length cp20]]) K w43 el7 A19 cp20 (H.rd (i := 2) (by rfl)) v46 hv45) ?_)
                rintro e w47 ⟨A48, cp49, rfl, H2⟩
                have H : Sep ok w w47 [.blk b5 28 [.slice A1 a0.Levels.length cp2], .blk b24 54 [.int .i64 el7.W, .int .i64 el7.H, .slice A19 el7.Low.length cp20]] [RE.rd k_Level A1 cp2 a0.Levels, RE.cells g12 (o13 + (0 : Int).toNat * 3) [.int .i64 el7.W, .int .i64 el7.H, .slice A19 el7.Low.length cp20], RE.rd kInt A19 cp20 el7.Low, RE.rd k_Level A48 cp49 v46.Levels] := H.call H2
                clear H2
                refine ⟨_, rfl, (Sep.takeR H 3), ?_⟩
                show PR _ _ _ _ _ _ _ _
                refine PR_free (by rfl) (by rfl) (by rfl) (by exact wn1 rfl rfl rfl rfl) (fun wS => (x_field fv28_0 (by rfl) (by rfl))) ?_
                obtain ⟨v52, hv51, hm⟩ := bind_some hm
                refine PR_run (by rfl) (O_call (by exact wn1 rfl rfl rfl rfl) (by rfl) (by rfl) (x_callL (by rfl) (args := [.slice A48 v46.Levels.length cp49, .slice A1 a0.Levels.length cp2, .func (.func 66) #[] #[]]) (by rfl) (cf65 _ _)) (c65 (fun _ => True) K w47 v46.Levels A48 cp49 a0.Levels A1 cp2 (H.rd (i := 3) (by rfl)).any (H.rd (i := 0) (by rfl)).any v52 hv51) ?_)
                rintro e w53 ⟨rfl, H2⟩
                have H : Sep ok w w53 [.blk b5 28 [.slice A1 a0.Levels.length cp2], .blk b24 54 [.int .i64 el7.W, .int .i64 el7.H, .slice A19 el7.Low.length cp20]] [RE.rd k_Level A1 cp2 a0.Levels, RE.cells g12 (o13 + (0 : Int).toNat * 3) [.int .i64 el7.W, .int .i64 el7.H, .slice A19 el7.Low.length cp20], RE.rd kInt A19 cp20 el7.Low, RE.rd k_Level A48 cp49 v46.Levels] := H.below H2.base
                clear H2
                refine ⟨_, rfl, (Sep.takeR H 3), ?_⟩
                show PR _ _ _ _ _ _ _ _
                refine PR_free (by rfl) (by rfl) (by rfl) (by exact wn1 rfl rfl rfl rfl) (fun wS => (x_not (by rfl))) ?_
                refine PR_free (by rfl) (by rfl) (by rfl) (by exact wn0 rfl) (fun wS => (x_pick_f (v := .bool (!v52)) (by rfl) (by rfl))) ?_
                refine PR_nil ?_
                exact ⟨⟨congrArg Value.bool (Option.some.inj hm), trivial⟩, (H.takeL 2).takeR 3⟩
              · have hm := cond_t hbS hmS
                refine PR_off (by rfl) (by rfl) (by rfl) (by exact wn2 rfl rfl rfl rfl) ?_
                refine PR_offF (by rfl) (by rfl) (by rfl) (by exact wn2 rfl rfl rfl rfl) ?_
                refine PR_off (by rfl) (by rfl) (by rfl) (by exact wn2 rfl rfl rfl rfl) ?_
                refine PR_run (by rfl) (OpR_off (by exact wn2 rfl rfl rfl rfl) (by rfl) (by rfl) ⟨H, ?_⟩)
                refine PR_offF (by rfl) (by rfl) (by rfl) (by exact wn2 rfl rfl rfl rfl) ?_
                refine PR_run (by rfl) (OpR_off (by exact wn2 rfl rfl rfl rfl) (by rfl) (by rfl) ⟨H, ?_⟩)
                refine PR_offF (by rfl) (by rfl) (by rfl) (by exact wn2 rfl rfl rfl rfl) ?_
                refine PR_free (by rfl) (by rfl) (by rfl) (by exact wn0 rfl) (fun wS => (x_pick_t (v := .bool true) (by rfl) (by rfl))) ?_
                refine PR_nil ?_
                exact ⟨⟨congrArg Value.bool (Option.some.inj hm), trivial⟩, H⟩
            · rintro r' w' ⟨hA, H⟩
              obtain ⟨r54, rfl⟩ := regen _ hA; clear hA
              obtain ⟨w55, rfl⟩ : ∃ W : World, W = w' := ⟨_, rfl⟩
              show PR _ _ _ _ _ _ _ _
              refine PR_nil ?_
              refine W_cond (by rfl) (fun hb => ?_) (fun hb => ?_)
              · have hm := cond_t hb hm
                refine W_seq ?_
                refine W_region ?_
                refine RL_pure (by exact wn0 rfl) (by rfl) (by rfl) (x_assign (v := .int .i64 8) (by rfl)) ?_
                refine RL_nil ?_
                refine W_ret ?_
                obtain rfl := Option.some.inj hm
                exact ⟨[.int .i64 8], (.tmp (by rfl) rfl), rfl, H.none_⟩
              · have hm := cond_f hb hm
                refine W_skip ?_
                refine W_seq ?_
                refine W_region ?_
                refine RL_pure (by exact wn0 rfl) (by rfl) (by rfl) (x_assign (v := .int .i64 0) (by rfl)) ?_
                refine RL_nil ?_
                refine W_ret ?_
                obtain rfl := Option.some.inj hm
                exact ⟨[.int .i64 0], (.tmp (by rfl) rfl), rfl, H.none_⟩
end Go.Proofs.YtobkigllalbkiaaV.M
