/- A plain Lean function that answers as the Go function does (none: not told), and the proof that a call answers so. Written by program. -/
import Derived.Test.YtobkigllalbkiaaVMTy
import Derived.Test.YtobkigllalbkiaaVMF109
set_option linter.unusedVariables false
namespace Go.Proofs.YtobkigllalbkiaaV.M
open Go.RowKit Go.Proofs.YtobkigllalbkiaaV
/-- diorama/pyramid.low -/
def m62b (K : Nat) (self : S_Pyramid → Int → Int → Int → S_Rect → Int → Option (Int)) (a0 : S_Pyramid) (a1 : Int) (a2 : Int) (a3 : Int) (a4 : S_Rect) (a5 : Int) : Option (Int) :=
  (idx a0.Levels a1 fun el9 => (ge0 a1 ((bif (decide (el9.W ≤ a2)) then some true else some (decide (el9.H ≤ a3))).bind fun b31 => ((bif b31 then some true else (ck (a2 * (shlV .i64 1 a1)) fun x35 => some (decide (a4.X1 < x35)))).bind fun b34 => ((bif b34 then some true else (ck (a2 + 1) fun x39 => (ck (x39 * (shlV .i64 1 a1)) fun x40 => some (decide (x40 ≤ a4.X0))))).bind fun b38 => ((bif b38 then some true else (ck (a3 * (shlV .i64 1 a1)) fun x44 => some (decide (a4.Y1 < x44)))).bind fun b43 => ((bif b43 then some true else (ck (a3 + 1) fun x48 => (ck (x48 * (shlV .i64 1 a1)) fun x49 => some (decide (x49 ≤ a4.Y0))))).bind fun b47 => ((bif b47 then some true else ((m109 K el9 a2 a3).bind fun v54 => some (decide (a5 ≤ v54)))).bind fun b52 => (bif b52 then some a5 else (ck (a2 * (shlV .i64 1 a1)) fun x58 => ((bif (decide (a4.X0 ≤ x58)) then (ck (a2 + 1) fun x60 => (ck (x60 * (shlV .i64 1 a1)) fun x61 => (ck (x61 - 1) fun x62 => some (decide (x62 ≤ a4.X1))))) else some false).bind fun b59 => ((bif b59 then (ck (a3 * (shlV .i64 1 a1)) fun x66 => some (decide (a4.Y0 ≤ x66))) else some false).bind fun b65 => ((bif b65 then (ck (a3 + 1) fun x70 => (ck (x70 * (shlV .i64 1 a1)) fun x71 => (ck (x71 - 1) fun x72 => some (decide (x72 ≤ a4.Y1))))) else some false).bind fun b69 => (bif b69 then ((m109 K el9 a2 a3).bind fun v76 => some v76) else (ck (a1 - 1) fun x78 => (ck (2 * a2) fun x79 => (ck (x79 + (Int.tmod 0 2)) fun x80 => (ck (2 * a3) fun x81 => (ck (Int.tdiv 0 2) fun x82 => (ck (x81 + x82) fun x83 => ((self a0 x78 x80 x83 a4 a5).bind fun v85 => (ck (a1 - 1) fun x87 => (ck (2 * a2) fun x88 => (ck (x88 + (Int.tmod 1 2)) fun x89 => (ck (2 * a3) fun x90 => (ck (Int.tdiv 1 2) fun x91 => (ck (x90 + x91) fun x92 => ((self a0 x87 x89 x92 a4 v85).bind fun v94 => (ck (a1 - 1) fun x96 => (ck (2 * a2) fun x97 => (ck (x97 + (Int.tmod 2 2)) fun x98 => (ck (2 * a3) fun x99 => (ck (Int.tdiv 2 2) fun x100 => (ck (x99 + x100) fun x101 => ((self a0 x96 x98 x101 a4 v94).bind fun v103 => (ck (a1 - 1) fun x105 => (ck (2 * a2) fun x106 => (ck (x106 + (Int.tmod 3 2)) fun x107 => (ck (2 * a3) fun x108 => (ck (Int.tdiv 3 2) fun x109 => (ck (x108 + x109) fun x110 => ((self a0 x105 x107 x110 a4 v103).bind fun v112 => some v112))))))))))))))))))))))))))))))))))))))))))
def m62f (K : Nat) : Nat → S_Pyramid → Int → Int → Int → S_Rect → Int → Option (Int)
  | 0 => fun _ _ _ _ _ _ => none
  | k + 1 => m62b K (m62f K k)
def m62 (K : Nat) : S_Pyramid → Int → Int → Int → S_Rect → Int → Option (Int) := m62f K K
set_option maxRecDepth 100000 in
set_option maxHeartbeats 4000000 in
theorem c62f (K : Nat) : ∀ (n : Nat) (ok : Nat → Prop) (w : World) (a0 : S_Pyramid) (A1 : Option Addr) (cp2 : Nat) (a1 : Int) (a2 : Int) (a3 : Int) (a4 : S_Rect) (a5 : Int) (hR3 : Rd k_Level w ok A1 cp2 a0.Levels) (res : Int) (hm : m62f K n a0 a1 a2 a3 a4 a5 = some res), Calls Try.prog 62 #[.agg #[.slice A1 a0.Levels.length cp2], .int .i64 a1, .int .i64 a2, .int .i64 a3, .agg #[.int .i64 a4.X0, .int .i64 a4.Y0, .int .i64 a4.X1, .int .i64 a4.Y1], .int .i64 a5] w (fun e w' => e = .returned (tup [.int .i64 res]) ∧ Sep ok w w' [] []) := by
  intro n
  induction n with
  | zero => intro ok w a0 A1 cp2 a1 a2 a3 a4 a5 hR3 res hm; exact (none_some hm).elim
  | succ n ih =>
    intro ok w a0 A1 cp2 a1 a2 a3 a4 a5 hR3 res hm
    have hm : m62b K (m62f K n) a0 a1 a2 a3 a4 a5 = some res := hm
    unfold m62b at hm
    obtain ⟨self, hself⟩ : ∃ f, m62f K n = f := ⟨_, rfl⟩
    rw [hself] at hm ih
    clear hself
    refine calls_W (args := [.agg #[.slice A1 a0.Levels.length cp2], .int .i64 a1, .int .i64 a2, .int .i64 a3, .agg #[.int .i64 a4.X0, .int .i64 a4.Y0, .int .i64 a4.X1, .int .i64 a4.Y1], .int .i64 a5]) Try.func62 rfl Try.ntmps62 Try.results62 rfl fun r hr => ?_
    obtain ⟨r1, rfl⟩ := regen (r := r) [(0, .agg #[.slice A1 a0.Levels.length cp2]), (1, .int .i64 a1), (2, .int .i64 a2), (3, .int .i64 a3), (4, .agg #[.int .i64 a4.X0, .int .i64 a4.Y0, .int .i64 a4.X1, .int .i64 a4.Y1]), (5, .int .i64 a5)] ⟨hr 0 _ rfl, hr 1 _ rfl, hr 2 _ rfl, hr 3 _ rfl, hr 4 _ rfl, hr 5 _ rfl, trivial⟩
    have H : Sep ok w w [] [RE.rd k_Level A1 cp2 a0.Levels] := Sep.arg (Sep.start ok w) (re := RE.rd k_Level A1 cp2 a0.Levels) rfl rfl hR3
    refine W_seq ?_
    refine W_region ?_
    refine RL_cons (O_box (by exact wn0 rfl) (by rfl) (by rfl) (by rfl) H (fun w6 b5 (H : Sep ok w w6 [.blk b5 28 [.slice A1 a0.Levels.length cp2]] [RE.rd k_Level A1 cp2 a0.Levels]) => ?_))
    refine RL_cons (O_box (by exact wn0 rfl) (by rfl) (by rfl) (by rfl) H (fun w8 b7 (H : Sep ok w w8 [.blk b5 28 [.slice A1 a0.Levels.length cp2], .blk b7 30 [.int .i64 a4.X0, .int .i64 a4.Y0, .int .i64 a4.X1, .int .i64 a4.Y1]] [RE.rd k_Level A1 cp2 a0.Levels]) => ?_))
    refine RL_pure (by exact wn0 rfl) (by rfl) (by rfl) (x_assign (v := .int .i64 0) (by rfl)) ?_
    refine RL_nil ?_
    refine W_seq ?_
    obtain ⟨el9, h10, h11, he12, hm⟩ := idx_some hm
    obtain ⟨g14, o15, hA13⟩ := (H.rd (i := 0) (by rfl)).addr he12
    obtain ⟨cs16, hk17, hat18, hg_cs16⟩ := (H.rd (i := 0) (by rfl)).openAt hA13 he12
    obtain ⟨A21, cp22, rfl, hR24⟩ := hk17
    have H : Sep ok w w8 [.blk b5 28 [.slice A1 a0.Levels.length cp2], .blk b7 30 [.int .i64 a4.X0, .int .i64 a4.Y0, .int .i64 a4.X1, .int .i64 a4.Y1]] [RE.rd k_Level A1 cp2 a0.Levels, RE.cells g14 (o15 + (a1).toNat * 3) [.int .i64 el9.W, .int .i64 el9.H, .slice A21 el9.Low.length cp22]] := Sep.also H (re := RE.cells g14 (o15 + (a1).toNat * 3) [.int .i64 el9.W, .int .i64 el9.H, .slice A21 el9.Low.length cp22]) ⟨hg_cs16.1, hg_cs16.2, hat18⟩
    have H : Sep ok w w8 [.blk b5 28 [.slice A1 a0.Levels.length cp2], .blk b7 30 [.int .i64 a4.X0, .int .i64 a4.Y0, .int .i64 a4.X1, .int .i64 a4.Y1]] [RE.rd k_Level A1 cp2 a0.Levels, RE.cells g14 (o15 + (a1).toNat * 3) [.int .i64 el9.W, .int .i64 el9.H, .slice A21 el9.Low.length cp22], RE.rd kInt A21 cp22 el9.Low] := Sep.also H (re := RE.rd kInt A21 cp22 el9.Low) hR24
    obtain ⟨nx26, hm⟩ := ge0_some hm
    refine W_draw [.free 0, .take 1, .free 2, .free 3, .take 4, .free 5, .free 6, .run 7, .tail 8, .free 9] (fun wS => Sep ok w wS [.blk b5 28 [.slice A1 a0.Levels.length cp2], .blk b7 30 [.int .i64 a4.X0, .int .i64 a4.Y0, .int .i64 a4.X1, .int .i64 a4.Y1]] [RE.rd k_Level A1 cp2 a0.Levels, RE.cells g14 (o15 + (a1).toNat * 3) [.int .i64 el9.W, .int .i64 el9.H, .slice A21 el9.Low.length cp22], RE.rd kInt A21 cp22 el9.Low]) [8] [0, 2, 3, 5, 6, 9] mixed0 (by kernel_rfl) (by kernel_rfl) (by kernel_rfl) (by rfl) (by exact H.drew) ?_
    obtain ⟨w27, hW⟩ : ∃ W : World, W = { w8 with drawn := w8.drawn + 1 } := ⟨_, rfl⟩
    rw [← hW]
    have H : Sep ok w w27 [.blk b5 28 [.slice A1 a0.Levels.length cp2], .blk b7 30 [.int .i64 a4.X0, .int .i64 a4.Y0, .int .i64 a4.X1, .int .i64 a4.Y1]] [RE.rd k_Level A1 cp2 a0.Levels, RE.cells g14 (o15 + (a1).toNat * 3) [.int .i64 el9.W, .int .i64 el9.H, .slice A21 el9.Low.length cp22], RE.rd kInt A21 cp22 el9.Low] := by rw [hW]; exact H.drew
    clear hW
    refine PR_free (by rfl) (by rfl) (by rfl) (by exact wn0 rfl) (fun wS => (x_fieldAddr fo28_0 (by rfl))) ?_
    refine PR_take (by rfl) (by rfl) (by rfl) (by exact wn0 rfl) (fun wS (H : Sep ok w wS [.blk b5 28 [.slice A1 a0.Levels.length cp2], .blk b7 30 [.int .i64 a4.X0, .int .i64 a4.Y0, .int .i64 a4.X1, .int .i64 a4.Y1]] [RE.rd k_Level A1 cp2 a0.Levels, RE.cells g14 (o15 + (a1).toNat * 3) [.int .i64 el9.W, .int .i64 el9.H, .slice A21 el9.Low.length cp22], RE.rd kInt A21 cp22 el9.Low]) => (x_load (j := 0) (v := .slice A1 a0.Levels.length cp2) sc26 (by rfl) (H.cells (i := 0) (by rfl)) (by rfl))) ?_
    refine PR_free (by rfl) (by rfl) (by rfl) (by exact wn0 rfl) (fun wS => (x_move (v := .int .i64 a1) (by rfl))) ?_
    refine PR_free (by rfl) (by rfl) (by rfl) (by exact wn0 rfl) (fun wS => (x_indexAddr sl26 sz54 (by rfl) (by rfl) hA13 h10 h11)) ?_
    refine PR_take (by rfl) (by rfl) (by rfl) (by exact wn0 rfl) (fun wS (H : Sep ok w wS [.blk b5 28 [.slice A1 a0.Levels.length cp2], .blk b7 30 [.int .i64 a4.X0, .int .i64 a4.Y0, .int .i64 a4.X1, .int .i64 a4.Y1]] [RE.rd k_Level A1 cp2 a0.Levels, RE.cells g14 (o15 + (a1).toNat * 3) [.int .i64 el9.W, .int .i64 el9.H, .slice A21 el9.Low.length cp22], RE.rd kInt A21 cp22 el9.Low]) => (x_loadA (j := 0) (vs := [.int .i64 el9.W, .int .i64 el9.H, .slice A21 el9.Low.length cp22]) ag54 (by rfl) (H.cellsR (i := 1) (by rfl)) (by rfl) (by rfl))) ?_
    refine PR_free (by rfl) (by rfl) (by rfl) (by exact wn0 rfl) (fun wS => (x_move (v := .int .i64 a1) (by rfl))) ?_
    refine PR_free (by rfl) (by rfl) (by rfl) (by exact wn0 rfl) (fun wS => (x_shl (by rfl) (by rfl) nx26)) ?_
    refine PR_run (by rfl) (O_alloc (by exact wn0 rfl) (by rfl) ze54 (by rfl) H (fun w29 b28 (H : Sep ok w w29 [.blk b5 28 [.slice A1 a0.Levels.length cp2], .blk b7 30 [.int .i64 a4.X0, .int .i64 a4.Y0, .int .i64 a4.X1, .int .i64 a4.Y1], .blk b28 54 [.int .i64 0, .int .i64 0, .slice none 0 0]] [RE.rd k_Level A1 cp2 a0.Levels, RE.cells g14 (o15 + (a1).toNat * 3) [.int .i64 el9.W, .int .i64 el9.H, .slice A21 el9.Low.length cp22], RE.rd kInt A21 cp22 el9.Low]) => ⟨(Sep.takeL H 2), ?_⟩))
    refine PR_tail (by rfl) (O_store (i := 2) (off := 0) (by exact wn0 rfl) (by rfl) (by rfl) H (by rfl) (vs := [.int .i64 el9.W, .int .i64 el9.H, .slice A21 el9.Low.length cp22]) (by rfl) sz54 (by rfl) (by rfl) (by rfl) (fun w30 (H : Sep ok w w30 [.blk b5 28 [.slice A1 a0.Levels.length cp2], .blk b7 30 [.int .i64 a4.X0, .int .i64 a4.Y0, .int .i64 a4.X1, .int .i64 a4.Y1], .blk b28 54 [.int .i64 el9.W, .int .i64 el9.H, .slice A21 el9.Low.length cp22]] [RE.rd k_Level A1 cp2 a0.Levels, RE.cells g14 (o15 + (a1).toNat * 3) [.int .i64 el9.W, .int .i64 el9.H, .slice A21 el9.Low.length cp22], RE.rd kInt A21 cp22 el9.Low]) => ?_))
    refine PR_free (by rfl) (by rfl) (by rfl) (by exact wn0 rfl) (fun wS => (x_assign (v := .int .i64 (shlV .i64 1 a1)) (by rfl))) ?_
    refine PR_nil ?_
    refine W_seq ?_
    refine W_region ?_
    refine RL_pure (by exact wn0 rfl) (by rfl) (by rfl) (x_move (v := .int .i64 a2) (by rfl)) ?_
    refine RL_pure (by exact wn0 rfl) (by rfl) (by rfl) (x_fieldAddr fo54_0 (by rfl)) ?_
    refine RL_pure (by exact wn0 rfl) (by rfl) (by rfl) (x_load (j := 0) (v := .int .i64 el9.W) sc3 (by rfl) (H.cells (i := 2) (by rfl)) (by rfl)) ?_
    refine RL_pure (by exact wn0 rfl) (by rfl) (by rfl) (x_geq (by rfl) (by rfl)) ?_
    refine RL_pure (by exact wn0 rfl) (by rfl) (by rfl) (x_move (v := .bool (decide (el9.W ≤ a2))) (by rfl)) ?_
    obtain ⟨b31, hmS, hm⟩ := bind_some hm
    refine RL_cut 5 (fun r' w' => Agr [(33, .bool b31), (1, .int .i64 a1), (2, .int .i64 a2), (3, .int .i64 a3), (5, .int .i64 a5), (6, .pointer (some ⟨b5, 0, none⟩)), (10, .pointer (some ⟨b7, 0, none⟩)), (13, .pointer (some ⟨b28, 0, none⟩)), (14, .int .i64 (shlV .i64 1 a1))] r' ∧ Sep ok w w' [.blk b5 28 [.slice A1 a0.Levels.length cp2], .blk b7 30 [.int .i64 a4.X0, .int .i64 a4.Y0, .int .i64 a4.X1, .int .i64 a4.Y1], .blk b28 54 [.int .i64 el9.W, .int .i64 el9.H, .slice A21 el9.Low.length cp22]] [RE.rd k_Level A1 cp2 a0.Levels, RE.cells g14 (o15 + (a1).toNat * 3) [.int .i64 el9.W, .int .i64 el9.H, .slice A21 el9.Low.length cp22], RE.rd kInt A21 cp22 el9.Low]) ?_ ?_
    · cases hbS : (decide (el9.W ≤ a2))
      · have hm := cond_f hbS hmS
        refine RL_pure (by exact wn1 rfl rfl rfl rfl) (by rfl) (by rfl) (x_move (v := .int .i64 a3) (by rfl)) ?_
        refine RL_pure (by exact wn1 rfl rfl rfl rfl) (by rfl) (by rfl) (x_fieldAddr fo54_1 (by rfl)) ?_
        refine RL_pure (by exact wn1 rfl rfl rfl rfl) (by rfl) (by rfl) (x_load (j := 1) (v := .int .i64 el9.H) sc3 (by rfl) (H.cells (i := 2) (by rfl)) (by rfl)) ?_
        refine RL_pure (by exact wn1 rfl rfl rfl rfl) (by rfl) (by rfl) (x_geq (by rfl) (by rfl)) ?_
        refine RL_pure (by exact wn0 rfl) (by rfl) (by rfl) (x_pick_f (v := .bool (decide (el9.H ≤ a3))) (by rfl) (by rfl)) ?_
        refine RL_nil ?_
        exact ⟨⟨congrArg Value.bool (Option.some.inj hm), rfl, rfl, rfl, rfl, rfl, rfl, rfl, rfl, trivial⟩, H⟩
      · have hm := cond_t hbS hmS
        refine RL_cons (OpR_off (by exact wn2 rfl rfl rfl rfl) (by rfl) (by rfl) ?_)
        refine RL_cons (OpR_off (by exact wn2 rfl rfl rfl rfl) (by rfl) (by rfl) ?_)
        refine RL_cons (OpR_off (by exact wn2 rfl rfl rfl rfl) (by rfl) (by rfl) ?_)
        refine RL_cons (OpR_off (by exact wn2 rfl rfl rfl rfl) (by rfl) (by rfl) ?_)
        refine RL_pure (by exact wn0 rfl) (by rfl) (by rfl) (x_pick_t (v := .bool true) (by rfl) (by rfl)) ?_
        refine RL_nil ?_
        exact ⟨⟨congrArg Value.bool (Option.some.inj hm), rfl, rfl, rfl, rfl, rfl, rfl, rfl, rfl, trivial⟩, H⟩
    · rintro r' w' ⟨hA, H⟩
      obtain ⟨r32, rfl⟩ := regen _ hA; clear hA
      obtain ⟨w33, rfl⟩ : ∃ W : World, W = w' := ⟨_, rfl⟩
      show RL _ _ _ _ _ _ _
      refine RL_pure (by exact wn0 rfl) (by rfl) (by rfl) (x_move (v := .bool b31) (by rfl)) ?_
      obtain ⟨b34, hmS, hm⟩ := bind_some hm
      refine RL_cut 7 (fun r' w' => Agr [(41, .bool b34), (1, .int .i64 a1), (2, .int .i64 a2), (3, .int .i64 a3), (5, .int .i64 a5), (6, .pointer (some ⟨b5, 0, none⟩)), (10, .pointer (some ⟨b7, 0, none⟩)), (13, .pointer (some ⟨b28, 0, none⟩)), (14, .int .i64 (shlV .i64 1 a1))] r' ∧ Sep ok w w' [.blk b5 28 [.slice A1 a0.Levels.length cp2], .blk b7 30 [.int .i64 a4.X0, .int .i64 a4.Y0, .int .i64 a4.X1, .int .i64 a4.Y1], .blk b28 54 [.int .i64 el9.W, .int .i64 el9.H, .slice A21 el9.Low.length cp22]] [RE.rd k_Level A1 cp2 a0.Levels, RE.cells g14 (o15 + (a1).toNat * 3) [.int .i64 el9.W, .int .i64 el9.H, .slice A21 el9.Low.length cp22], RE.rd kInt A21 cp22 el9.Low]) ?_ ?_
      · cases hbS : b31
        · have hm := cond_f hbS hmS
          refine RL_pure (by exact wn1 rfl rfl rfl rfl) (by rfl) (by rfl) (x_move (v := .int .i64 a2) (by rfl)) ?_
          refine RL_pure (by exact wn1 rfl rfl rfl rfl) (by rfl) (by rfl) (x_move (v := .int .i64 (shlV .i64 1 a1)) (by rfl)) ?_
          obtain ⟨x35, ex35, qx35, ux35, hm⟩ := ck_some hm
          refine RL_pure (by exact wn1 rfl rfl rfl rfl) (by rfl) (by rfl) (x_mul (by rfl) (by rfl) ux35) ?_
          refine RL_pure (by exact wn1 rfl rfl rfl rfl) (by rfl) (by rfl) (x_fieldAddr fo30_2 (by rfl)) ?_
          refine RL_pure (by exact wn1 rfl rfl rfl rfl) (by rfl) (by rfl) (x_load (j := 2) (v := .int .i64 a4.X1) sc3 (by rfl) (H.cells (i := 1) (by rfl)) (by rfl)) ?_
          refine RL_pure (by exact wn1 rfl rfl rfl rfl) (by rfl) (by rfl) (x_gtr (by rfl) (by rfl)) ?_
          refine RL_pure (by exact wn0 rfl) (by rfl) (by rfl) (x_pick_f (v := .bool (decide (a4.X1 < x35))) (by rfl) (by rfl)) ?_
          refine RL_nil ?_
          exact ⟨⟨congrArg Value.bool (Option.some.inj hm), rfl, rfl, rfl, rfl, rfl, rfl, rfl, rfl, trivial⟩, H⟩
        · have hm := cond_t hbS hmS
          refine RL_cons (OpR_off (by exact wn2 rfl rfl rfl rfl) (by rfl) (by rfl) ?_)
          refine RL_cons (OpR_off (by exact wn2 rfl rfl rfl rfl) (by rfl) (by rfl) ?_)
          refine RL_cons (OpR_off (by exact wn2 rfl rfl rfl rfl) (by rfl) (by rfl) ?_)
          refine RL_cons (OpR_off (by exact wn2 rfl rfl rfl rfl) (by rfl) (by rfl) ?_)
          refine RL_cons (OpR_off (by exact wn2 rfl rfl rfl rfl) (by rfl) (by rfl) ?_)
          refine RL_cons (OpR_off (by exact wn2 rfl rfl rfl rfl) (by rfl) (by rfl) ?_)
          refine RL_pure (by exact wn0 rfl) (by rfl) (by rfl) (x_pick_t (v := .bool true) (by rfl) (by rfl)) ?_
          refine RL_nil ?_
          exact ⟨⟨congrArg Value.bool (Option.some.inj hm), rfl, rfl, rfl, rfl, rfl, rfl, rfl, rfl, trivial⟩, H⟩
      · rintro r' w' ⟨hA, H⟩
        obtain ⟨r36, rfl⟩ := regen _ hA; clear hA
        obtain ⟨w37, rfl⟩ : ∃ W : World, W = w' := ⟨_, rfl⟩
        show RL _ _ _ _ _ _ _
        refine RL_pure (by exact wn0 rfl) (by rfl) (by rfl) (x_move (v := .bool b34) (by rfl)) ?_
        obtain ⟨b38, hmS, hm⟩ := bind_some hm
        refine RL_cut 8 (fun r' w' => Agr [(50, .bool b38), (1, .int .i64 a1), (2, .int .i64 a2), (3, .int .i64 a3), (5, .int .i64 a5), (6, .pointer (some ⟨b5, 0, none⟩)), (10, .pointer (some ⟨b7, 0, none⟩)), (13, .pointer (some ⟨b28, 0, none⟩)), (14, .int .i64 (shlV .i64 1 a1))] r' ∧ Sep ok w w' [.blk b5 28 [.slice A1 a0.Levels.length cp2], .blk b7 30 [.int .i64 a4.X0, .int .i64 a4.Y0, .int .i64 a4.X1, .int .i64 a4.Y1], .blk b28 54 [.int .i64 el9.W, .int .i64 el9.H, .slice A21 el9.Low.length cp22]] [RE.rd k_Level A1 cp2 a0.Levels, RE.cells g14 (o15 + (a1).toNat * 3) [.int .i64 el9.W, .int .i64 el9.H, .slice A21 el9.Low.length cp22], RE.rd kInt A21 cp22 el9.Low]) ?_ ?_
        · cases hbS : b34
          · have hm := cond_f hbS hmS
            refine RL_pure (by exact wn1 rfl rfl rfl rfl) (by rfl) (by rfl) (x_move (v := .int .i64 a2) (by rfl)) ?_
            obtain ⟨x39, ex39, qx39, ux39, hm⟩ := ck_some hm
            refine RL_pure (by exact wn1 rfl rfl rfl rfl) (by rfl) (by rfl) (x_add (by rfl) (by rfl) ux39) ?_
            refine RL_pure (by exact wn1 rfl rfl rfl rfl) (by rfl) (by rfl) (x_move (v := .int .i64 (shlV .i64 1 a1)) (by rfl)) ?_
            obtain ⟨x40, ex40, qx40, ux40, hm⟩ := ck_some hm
            refine RL_pure (by exact wn1 rfl rfl rfl rfl) (by rfl) (by rfl) (x_mul (by rfl) (by rfl) ux40) ?_
            refine RL_pure (by exact wn1 rfl rfl rfl rfl) (by rfl) (by rfl) (x_fieldAddr fo30_0 (by rfl)) ?_
            refine RL_pure (by exact wn1 rfl rfl rfl rfl) (by rfl) (by rfl) (x_load (j := 0) (v := .int .i64 a4.X0) sc3 (by rfl) (H.cells (i := 1) (by rfl)) (by rfl)) ?_
            refine RL_pure (by exact wn1 rfl rfl rfl rfl) (by rfl) (by rfl) (x_leq (by rfl) (by rfl)) ?_
            refine RL_pure (by exact wn0 rfl) (by rfl) (by rfl) (x_pick_f (v := .bool (decide (x40 ≤ a4.X0))) (by rfl) (by rfl)) ?_
            refine RL_nil ?_
            exact ⟨⟨congrArg Value.bool (Option.some.inj hm), rfl, rfl, rfl, rfl, rfl, rfl, rfl, rfl, trivial⟩, H⟩
          · have hm := cond_t hbS hmS
            refine RL_cons (OpR_off (by exact wn2 rfl rfl rfl rfl) (by rfl) (by rfl) ?_)
            refine RL_cons (OpR_off (by exact wn2 rfl rfl rfl rfl) (by rfl) (by rfl) ?_)
            refine RL_cons (OpR_off (by exact wn2 rfl rfl rfl rfl) (by rfl) (by rfl) ?_)
            refine RL_cons (OpR_off (by exact wn2 rfl rfl rfl rfl) (by rfl) (by rfl) ?_)
            refine RL_cons (OpR_off (by exact wn2 rfl rfl rfl rfl) (by rfl) (by rfl) ?_)
            refine RL_cons (OpR_off (by exact wn2 rfl rfl rfl rfl) (by rfl) (by rfl) ?_)
            refine RL_cons (OpR_off (by exact wn2 rfl rfl rfl rfl) (by rfl) (by rfl) ?_)
            refine RL_pure (by exact wn0 rfl) (by rfl) (by rfl) (x_pick_t (v := .bool true) (by rfl) (by rfl)) ?_
            refine RL_nil ?_
            exact ⟨⟨congrArg Value.bool (Option.some.inj hm), rfl, rfl, rfl, rfl, rfl, rfl, rfl, rfl, trivial⟩, H⟩
        · rintro r' w' ⟨hA, H⟩
          obtain ⟨r41, rfl⟩ := regen _ hA; clear hA
          obtain ⟨w42, rfl⟩ : ∃ W : World, W = w' := ⟨_, rfl⟩
          show RL _ _ _ _ _ _ _
          refine RL_pure (by exact wn0 rfl) (by rfl) (by rfl) (x_move (v := .bool b38) (by rfl)) ?_
          obtain ⟨b43, hmS, hm⟩ := bind_some hm
          refine RL_cut 7 (fun r' w' => Agr [(58, .bool b43), (1, .int .i64 a1), (2, .int .i64 a2), (3, .int .i64 a3), (5, .int .i64 a5), (6, .pointer (some ⟨b5, 0, none⟩)), (10, .pointer (some ⟨b7, 0, none⟩)), (13, .pointer (some ⟨b28, 0, none⟩)), (14, .int .i64 (shlV .i64 1 a1))] r' ∧ Sep ok w w' [.blk b5 28 [.slice A1 a0.Levels.length cp2], .blk b7 30 [.int .i64 a4.X0, .int .i64 a4.Y0, .int .i64 a4.X1, .int .i64 a4.Y1], .blk b28 54 [.int .i64 el9.W, .int .i64 el9.H, .slice A21 el9.Low.length cp22]] [RE.rd k_Level A1 cp2 a0.Levels, RE.cells g14 (o15 + (a1).toNat * 3) [.int .i64 el9.W, .int .i64 el9.H, .slice A21 el9.Low.length cp22], RE.rd kInt A21 cp22 el9.Low]) ?_ ?_
          · cases hbS : b38
            · have hm := cond_f hbS hmS
              refine RL_pure (by exact wn1 rfl rfl rfl rfl) (by rfl) (by rfl) (x_move (v := .int .i64 a3) (by rfl)) ?_
              refine RL_pure (by exact wn1 rfl rfl rfl rfl) (by rfl) (by rfl) (x_move (v := .int .i64 (shlV .i64 1 a1)) (by rfl)) ?_
              obtain ⟨x44, ex44, qx44, ux44, hm⟩ := ck_some hm
              refine RL_pure (by exact wn1 rfl rfl rfl rfl) (by rfl) (by rfl) (x_mul (by rfl) (by rfl) ux44) ?_
              refine RL_pure (by exact wn1 rfl rfl rfl rfl) (by rfl) (by rfl) (x_fieldAddr fo30_3 (by rfl)) ?_
              refine RL_pure (by exact wn1 rfl rfl rfl rfl) (by rfl) (by rfl) (x_load (j := 3) (v := .int .i64 a4.Y1) sc3 (by rfl) (H.cells (i := 1) (by rfl)) (by rfl)) ?_
              refine RL_pure (by exact wn1 rfl rfl rfl rfl) (by rfl) (by rfl) (x_gtr (by rfl) (by rfl)) ?_
              refine RL_pure (by exact wn0 rfl) (by rfl) (by rfl) (x_pick_f (v := .bool (decide (a4.Y1 < x44))) (by rfl) (by rfl)) ?_
              refine RL_nil ?_
              exact ⟨⟨congrArg Value.bool (Option.some.inj hm), rfl, rfl, rfl, rfl, rfl, rfl, rfl, rfl, trivial⟩, H⟩
            · have hm := cond_t hbS hmS
              refine RL_cons (OpR_off (by exact wn2 rfl rfl rfl rfl) (by rfl) (by rfl) ?_)
              refine RL_cons (OpR_off (by exact wn2 rfl rfl rfl rfl) (by rfl) (by rfl) ?_)
              refine RL_cons (OpR_off (by exact wn2 rfl rfl rfl rfl) (by rfl) (by rfl) ?_)
              refine RL_cons (OpR_off (by exact wn2 rfl rfl rfl rfl) (by rfl) (by rfl) ?_)
              refine RL_cons (OpR_off (by exact wn2 rfl rfl rfl rfl) (by rfl) (by rfl) ?_)
              refine RL_cons (OpR_off (by exact wn2 rfl rfl rfl rfl) (by rfl) (by rfl) ?_)
              refine RL_pure (by exact wn0 rfl) (by rfl) (by rfl) (x_pick_t (v := .bool true) (by rfl) (by rfl)) ?_
              refine RL_nil ?_
              exact ⟨⟨congrArg Value.bool (Option.some.inj hm), rfl, rfl, rfl, rfl, rfl, rfl, rfl, rfl, trivial⟩, H⟩
          · rintro r' w' ⟨hA, H⟩
            obtain ⟨r45, rfl⟩ := regen _ hA; clear hA
            obtain ⟨w46, rfl⟩ : ∃ W : World, W = w' := ⟨_, rfl⟩
            show RL _ _ _ _ _ _ _
            refine RL_pure (by exact wn0 rfl) (by rfl) (by rfl) (x_move (v := .bool b43) (by rfl)) ?_
            obtain ⟨b47, hmS, hm⟩ := bind_some hm
            refine RL_cut 8 (fun r' w' => Agr [(67, .bool b47), (1, .int .i64 a1), (2, .int .i64 a2), (3, .int .i64 a3), (5, .int .i64 a5), (6, .pointer (some ⟨b5, 0, none⟩)), (10, .pointer (some ⟨b7, 0, none⟩)), (13, .pointer (some ⟨b28, 0, none⟩)), (14, .int .i64 (shlV .i64 1 a1))] r' ∧ Sep ok w w' [.blk b5 28 [.slice A1 a0.Levels.length cp2], .blk b7 30 [.int .i64 a4.X0, .int .i64 a4.Y0, .int .i64 a4.X1, .int .i64 a4.Y1], .blk b28 54 [.int .i64 el9.W, .int .i64 el9.H, .slice A21 el9.Low.length cp22]] [RE.rd k_Level A1 cp2 a0.Levels, RE.cells g14 (o15 + (a1).toNat * 3) [.int .i64 el9.W, .int .i64 el9.H, .slice A21 el9.Low.length cp22], RE.rd kInt A21 cp22 el9.Low]) ?_ ?_
            · cases hbS : b43
              · have hm := cond_f hbS hmS
                refine RL_pure (by exact wn1 rfl rfl rfl rfl) (by rfl) (by rfl) (x_move (v := .int .i64 a3) (by rfl)) ?_
                obtain ⟨x48, ex48, qx48, ux48, hm⟩ := ck_some hm
                refine RL_pure (by exact wn1 rfl rfl rfl rfl) (by rfl) (by rfl) (x_add (by rfl) (by rfl) ux48) ?_
                refine RL_pure (by exact wn1 rfl rfl rfl rfl) (by rfl) (by rfl) (x_move (v := .int .i64 (shlV .i64 1 a1)) (by rfl)) ?_
                obtain ⟨x49, ex49, qx49, ux49, hm⟩ := ck_some hm
                refine RL_pure (by exact wn1 rfl rfl rfl rfl) (by rfl) (by rfl) (x_mul (by rfl) (by rfl) ux49) ?_
                refine RL_pure (by exact wn1 rfl rfl rfl rfl) (by rfl) (by rfl) (x_fieldAddr fo30_1 (by rfl)) ?_
                refine RL_pure (by exact wn1 rfl rfl rfl rfl) (by rfl) (by rfl) (x_load (j := 1) (v := .int .i64 a4.Y0) sc3 (by rfl) (H.cells (i := 1) (by rfl)) (by rfl)) ?_
                refine RL_pure (by exact wn1 rfl rfl rfl rfl) (by rfl) (by rfl) (x_leq (by rfl) (by rfl)) ?_
                refine RL_pure (by exact wn0 rfl) (by rfl) (by rfl) (x_pick_f (v := .bool (decide (x49 ≤ a4.Y0))) (by rfl) (by rfl)) ?_
                refine RL_nil ?_
                exact ⟨⟨congrArg Value.bool (Option.some.inj hm), rfl, rfl, rfl, rfl, rfl, rfl, rfl, rfl, trivial⟩, H⟩
              · have hm := cond_t hbS hmS
                refine RL_cons (OpR_off (by exact wn2 rfl rfl rfl rfl) (by rfl) (by rfl) ?_)
                refine RL_cons (OpR_off (by exact wn2 rfl rfl rfl rfl) (by rfl) (by rfl) ?_)
                refine RL_cons (OpR_off (by exact wn2 rfl rfl rfl rfl) (by rfl) (by rfl) ?_)
                refine RL_cons (OpR_off (by exact wn2 rfl rfl rfl rfl) (by rfl) (by rfl) ?_)
                refine RL_cons (OpR_off (by exact wn2 rfl rfl rfl rfl) (by rfl) (by rfl) ?_)
                refine RL_cons (OpR_off (by exact wn2 rfl rfl rfl rfl) (by rfl) (by rfl) ?_)
                refine RL_cons (OpR_off (by exact wn2 rfl rfl rfl rfl) (by rfl) (by rfl) ?_)
                refine RL_pure (by exact wn0 rfl) (by rfl) (by rfl) (x_pick_t (v := .bool true) (by rfl) (by rfl)) ?_
                refine RL_nil ?_
                exact ⟨⟨congrArg Value.bool (Option.some.inj hm), rfl, rfl, rfl, rfl, rfl, rfl, rfl, rfl, trivial⟩, H⟩
            · rintro r' w' ⟨hA, H⟩
              obtain ⟨r50, rfl⟩ := regen _ hA; clear hA
              obtain ⟨w51, rfl⟩ : ∃ W : World, W = w' := ⟨_, rfl⟩
              show RL _ _ _ _ _ _ _
              refine RL_pure (by exact wn0 rfl) (by rfl) (by rfl) (x_assign (v := .bool b47) (by rfl)) ?_
              refine RL_nil ?_
              refine W_seq ?_
              refine W_seq ?_
              refine W_region ?_
              refine RL_pure (by exact wn0 rfl) (by rfl) (by rfl) (x_move (v := .bool b47) (by rfl)) ?_
              refine RL_pure (by exact wn0 rfl) (by rfl) (by rfl) (x_move (v := .bool b47) (by rfl)) ?_
              obtain ⟨b52, hmS, hm⟩ := bind_some hm
              refine RL_cut 7 (fun r' w' => Agr [(76, .bool b52), (1, .int .i64 a1), (2, .int .i64 a2), (3, .int .i64 a3), (5, .int .i64 a5), (6, .pointer (some ⟨b5, 0, none⟩)), (10, .pointer (some ⟨b7, 0, none⟩)), (13, .pointer (some ⟨b28, 0, none⟩)), (14, .int .i64 (shlV .i64 1 a1))] r' ∧ Sep ok w w' [.blk b5 28 [.slice A1 a0.Levels.length cp2], .blk b7 30 [.int .i64 a4.X0, .int .i64 a4.Y0, .int .i64 a4.X1, .int .i64 a4.Y1], .blk b28 54 [.int .i64 el9.W, .int .i64 el9.H, .slice A21 el9.Low.length cp22]] [RE.rd k_Level A1 cp2 a0.Levels, RE.cells g14 (o15 + (a1).toNat * 3) [.int .i64 el9.W, .int .i64 el9.H, .slice A21 el9.Low.length cp22], RE.rd kInt A21 cp22 el9.Low]) ?_ ?_
              · cases hbS : b47
                · have hm := cond_f hbS hmS
                  refine RL_pure (by exact wn1 rfl rfl rfl rfl) (by rfl) (by rfl) (x_loadA (j := 0) (vs := [.int .i64 el9.W, .int .i64 el9.H, .slice A21 el9.Low.length cp22]) ag54 (by rfl) (H.cells (i := 2) (by rfl)) (by rfl) (by rfl)) ?_
                  refine RL_pure (by exact wn1 rfl rfl rfl rfl) (by rfl) (by rfl) (x_move (v := .int .i64 a2) (by rfl)) ?_
                  refine RL_pure (by exact wn1 rfl rfl rfl rfl) (by rfl) (by rfl) (x_move (v := .int .i64 a3) (by rfl)) ?_
                  obtain ⟨v54, hv53, hm⟩ := bind_some hm
                  refine RL_cons (O_call (by exact wn1 rfl rfl rfl rfl) (by rfl) (by rfl) (x_callL (by rfl) (args := [.agg #[.int .i64 el9.W, .int .i64 el9.H, .slice A21 el9.Low.length cp22], .int .i64 a2, .int .i64 a3]) (by rfl) (cf109 _ _)) (c109 (fun _ => True) K w51 el9 A21 cp22 a2 a3 (H.rd (i := 2) (by rfl)).any v54 hv53) ?_)
                  rintro e w55 ⟨rfl, H2⟩
                  have H : Sep ok w w55 [.blk b5 28 [.slice A1 a0.Levels.length cp2], .blk b7 30 [.int .i64 a4.X0, .int .i64 a4.Y0, .int .i64 a4.X1, .int .i64 a4.Y1], .blk b28 54 [.int .i64 el9.W, .int .i64 el9.H, .slice A21 el9.Low.length cp22]] [RE.rd k_Level A1 cp2 a0.Levels, RE.cells g14 (o15 + (a1).toNat * 3) [.int .i64 el9.W, .int .i64 el9.H, .slice A21 el9.Low.length cp22], RE.rd kInt A21 cp22 el9.Low] := H.below H2.base
                  clear H2
                  refine ⟨_, rfl, ?_⟩
                  show RL _ _ _ _ _ _ _
                  refine RL_pure (by exact wn1 rfl rfl rfl rfl) (by rfl) (by rfl) (x_move (v := .int .i64 a5) (by rfl)) ?_
                  refine RL_pure (by exact wn1 rfl rfl rfl rfl) (by rfl) (by rfl) (x_geq (by rfl) (by rfl)) ?_
                  refine RL_pure (by exact wn0 rfl) (by rfl) (by rfl) (x_pick_f (v := .bool (decide (a5 ≤ v54))) (by rfl) (by rfl)) ?_
                  refine RL_nil ?_
                  exact ⟨⟨congrArg Value.bool (Option.some.inj hm), rfl, rfl, rfl, rfl, rfl, rfl, rfl, rfl, trivial⟩, H⟩
                · have hm := cond_t hbS hmS
                  refine RL_cons (OpR_off (by exact wn2 rfl rfl rfl rfl) (by rfl) (by rfl) ?_)
                  refine RL_cons (OpR_off (by exact wn2 rfl rfl rfl rfl) (by rfl) (by rfl) ?_)
                  refine RL_cons (OpR_off (by exact wn2 rfl rfl rfl rfl) (by rfl) (by rfl) ?_)
                  refine RL_cons (OpR_off (by exact wn2 rfl rfl rfl rfl) (by rfl) (by rfl) ?_)
                  refine RL_cons (OpR_off (by exact wn2 rfl rfl rfl rfl) (by rfl) (by rfl) ?_)
                  refine RL_cons (OpR_off (by exact wn2 rfl rfl rfl rfl) (by rfl) (by rfl) ?_)
                  refine RL_pure (by exact wn0 rfl) (by rfl) (by rfl) (x_pick_t (v := .bool true) (by rfl) (by rfl)) ?_
                  refine RL_nil ?_
                  exact ⟨⟨congrArg Value.bool (Option.some.inj hm), rfl, rfl, rfl, rfl, rfl, rfl, rfl, rfl, trivial⟩, H⟩
              · rintro r' w' ⟨hA, H⟩
                obtain ⟨r56, rfl⟩ := regen _ hA; clear hA
                obtain ⟨w57, rfl⟩ : ∃ W : World, W = w' := ⟨_, rfl⟩
                show RL _ _ _ _ _ _ _
                refine RL_nil ?_
                refine W_cond (by rfl) (fun hb => ?_) (fun hb => ?_)
                · have hm := cond_t hb hm
                  refine W_seq ?_
                  refine W_region ?_
                  refine RL_pure (by exact wn0 rfl) (by rfl) (by rfl) (x_move (v := .int .i64 a5) (by rfl)) ?_
                  refine RL_pure (by exact wn0 rfl) (by rfl) (by rfl) (x_assign (v := .int .i64 a5) (by rfl)) ?_
                  refine RL_nil ?_
                  refine W_ret ?_
                  obtain rfl := Option.some.inj hm
                  exact ⟨[.int .i64 a5], (.tmp (by rfl) rfl), rfl, H.none_⟩
                · have hm := cond_f hb hm
                  refine W_skip ?_
                  refine W_seq ?_
                  refine W_seq ?_
                  refine W_region ?_
                  refine RL_pure (by exact wn0 rfl) (by rfl) (by rfl) (x_move (v := .int .i64 a2) (by rfl)) ?_
                  refine RL_pure (by exact wn0 rfl) (by rfl) (by rfl) (x_move (v := .int .i64 (shlV .i64 1 a1)) (by rfl)) ?_
                  obtain ⟨x58, ex58, qx58, ux58, hm⟩ := ck_some hm
                  refine RL_pure (by exact wn0 rfl) (by rfl) (by rfl) (x_mul (by rfl) (by rfl) ux58) ?_
                  refine RL_pure (by exact wn0 rfl) (by rfl) (by rfl) (x_fieldAddr fo30_0 (by rfl)) ?_
                  refine RL_pure (by exact wn0 rfl) (by rfl) (by rfl) (x_load (j := 0) (v := .int .i64 a4.X0) sc3 (by rfl) (H.cells (i := 1) (by rfl)) (by rfl)) ?_
                  refine RL_pure (by exact wn0 rfl) (by rfl) (by rfl) (x_geq (by rfl) (by rfl)) ?_
                  refine RL_pure (by exact wn0 rfl) (by rfl) (by rfl) (x_move (v := .bool (decide (a4.X0 ≤ x58))) (by rfl)) ?_
                  obtain ⟨b59, hmS, hm⟩ := bind_some hm
                  refine RL_cut 9 (fun r' w' => Agr [(93, .bool b59), (1, .int .i64 a1), (2, .int .i64 a2), (3, .int .i64 a3), (5, .int .i64 a5), (6, .pointer (some ⟨b5, 0, none⟩)), (10, .pointer (some ⟨b7, 0, none⟩)), (13, .pointer (some ⟨b28, 0, none⟩)), (14, .int .i64 (shlV .i64 1 a1))] r' ∧ Sep ok w w' [.blk b5 28 [.slice A1 a0.Levels.length cp2], .blk b7 30 [.int .i64 a4.X0, .int .i64 a4.Y0, .int .i64 a4.X1, .int .i64 a4.Y1], .blk b28 54 [.int .i64 el9.W, .int .i64 el9.H, .slice A21 el9.Low.length cp22]] [RE.rd k_Level A1 cp2 a0.Levels, RE.cells g14 (o15 + (a1).toNat * 3) [.int .i64 el9.W, .int .i64 el9.H, .slice A21 el9.Low.length cp22], RE.rd kInt A21 cp22 el9.Low]) ?_ ?_
                  · cases hbS : (decide (a4.X0 ≤ x58))
                    · have hm := cond_f hbS hmS
                      refine RL_cons (OpR_off (by exact wn2 rfl rfl rfl rfl) (by rfl) (by rfl) ?_)
                      refine RL_cons (OpR_off (by exact wn2 rfl rfl rfl rfl) (by rfl) (by rfl) ?_)
                      refine RL_cons (OpR_off (by exact wn2 rfl rfl rfl rfl) (by rfl) (by rfl) ?_)
                      refine RL_cons (OpR_off (by exact wn2 rfl rfl rfl rfl) (by rfl) (by rfl) ?_)
                      refine RL_cons (OpR_off (by exact wn2 rfl rfl rfl rfl) (by rfl) (by rfl) ?_)
                      refine RL_cons (OpR_off (by exact wn2 rfl rfl rfl rfl) (by rfl) (by rfl) ?_)
                      refine RL_cons (OpR_off (by exact wn2 rfl rfl rfl rfl) (by rfl) (by rfl) ?_)
                      refine RL_cons (OpR_off (by exact wn2 rfl rfl rfl rfl) (by rfl) (by rfl) ?_)
                      refine RL_pure (by exact wn0 rfl) (by rfl) (by rfl) (x_pick_f (v := .bool false) (by rfl) (by rfl)) ?_
                      refine RL_nil ?_
                      exact ⟨⟨congrArg Value.bool (Option.some.inj hm), rfl, rfl, rfl, rfl, rfl, rfl, rfl, rfl, trivial⟩, H⟩
                    · have hm := cond_t hbS hmS
                      refine RL_pure (by exact wn1 rfl rfl rfl rfl) (by rfl) (by rfl) (x_move (v := .int .i64 a2) (by rfl)) ?_
                      obtain ⟨x60, ex60, qx60, ux60, hm⟩ := ck_some hm
                      refine RL_pure (by exact wn1 rfl rfl rfl rfl) (by rfl) (by rfl) (x_add (by rfl) (by rfl) ux60) ?_
                      refine RL_pure (by exact wn1 rfl rfl rfl rfl) (by rfl) (by rfl) (x_move (v := .int .i64 (shlV .i64 1 a1)) (by rfl)) ?_
                      obtain ⟨x61, ex61, qx61, ux61, hm⟩ := ck_some hm
                      refine RL_pure (by exact wn1 rfl rfl rfl rfl) (by rfl) (by rfl) (x_mul (by rfl) (by rfl) ux61) ?_
                      obtain ⟨x62, ex62, qx62, ux62, hm⟩ := ck_some hm
                      refine RL_pure (by exact wn1 rfl rfl rfl rfl) (by rfl) (by rfl) (x_sub (by rfl) (by rfl) ux62) ?_
                      refine RL_pure (by exact wn1 rfl rfl rfl rfl) (by rfl) (by rfl) (x_fieldAddr fo30_2 (by rfl)) ?_
                      refine RL_pure (by exact wn1 rfl rfl rfl rfl) (by rfl) (by rfl) (x_load (j := 2) (v := .int .i64 a4.X1) sc3 (by rfl) (H.cells (i := 1) (by rfl)) (by rfl)) ?_
                      refine RL_pure (by exact wn1 rfl rfl rfl rfl) (by rfl) (by rfl) (x_leq (by rfl) (by rfl)) ?_
                      refine RL_pure (by exact wn0 rfl) (by rfl) (by rfl) (x_pick_t (v := .bool (decide (x62 ≤ a4.X1))) (by rfl) (by rfl)) ?_
                      refine RL_nil ?_
                      exact ⟨⟨congrArg Value.bool (Option.some.inj hm), rfl, rfl, rfl, rfl, rfl, rfl, rfl, rfl, trivial⟩, H⟩
                  · rintro r' w' ⟨hA, H⟩
                    obtain ⟨r63, rfl⟩ := regen _ hA; clear hA
                    obtain ⟨w64, rfl⟩ : ∃ W : World, W = w' := ⟨_, rfl⟩
                    show RL _ _ _ _ _ _ _
                    refine RL_pure (by exact wn0 rfl) (by rfl) (by rfl) (x_move (v := .bool b59) (by rfl)) ?_
                    obtain ⟨b65, hmS, hm⟩ := bind_some hm
                    refine RL_cut 7 (fun r' w' => Agr [(101, .bool b65), (1, .int .i64 a1), (2, .int .i64 a2), (3, .int .i64 a3), (5, .int .i64 a5), (6, .pointer (some ⟨b5, 0, none⟩)), (10, .pointer (some ⟨b7, 0, none⟩)), (13, .pointer (some ⟨b28, 0, none⟩)), (14, .int .i64 (shlV .i64 1 a1))] r' ∧ Sep ok w w' [.blk b5 28 [.slice A1 a0.Levels.length cp2], .blk b7 30 [.int .i64 a4.X0, .int .i64 a4.Y0, .int .i64 a4.X1, .int .i64 a4.Y1], .blk b28 54 [.int .i64 el9.W, .int .i64 el9.H, .slice A21 el9.Low.length cp22]] [RE.rd k_Level A1 cp2 a0.Levels, RE.cells g14 (o15 + (a1).toNat * 3) [.int .i64 el9.W, .int .i64 el9.H, .slice A21 el9.Low.length cp22], RE.rd kInt A21 cp22 el9.Low]) ?_ ?_
                    · cases hbS : b59
                      · have hm := cond_f hbS hmS
                        refine RL_cons (OpR_off (by exact wn2 rfl rfl rfl rfl) (by rfl) (by rfl) ?_)
                        refine RL_cons (OpR_off (by exact wn2 rfl rfl rfl rfl) (by rfl) (by rfl) ?_)
                        refine RL_cons (OpR_off (by exact wn2 rfl rfl rfl rfl) (by rfl) (by rfl) ?_)
                        refine RL_cons (OpR_off (by exact wn2 rfl rfl rfl rfl) (by rfl) (by rfl) ?_)
                        refine RL_cons (OpR_off (by exact wn2 rfl rfl rfl rfl) (by rfl) (by rfl) ?_)
                        refine RL_cons (OpR_off (by exact wn2 rfl rfl rfl rfl) (by rfl) (by rfl) ?_)
                        refine RL_pure (by exact wn0 rfl) (by rfl) (by rfl) (x_pick_f (v := .bool false) (by rfl) (by rfl)) ?_
                        refine RL_nil ?_
                        exact ⟨⟨congrArg Value.bool (Option.some.inj hm), rfl, rfl, rfl, rfl, rfl, rfl, rfl, rfl, trivial⟩, H⟩
                      · have hm := cond_t hbS hmS
                        refine RL_pure (by exact wn1 rfl rfl rfl rfl) (by rfl) (by rfl) (x_move (v := .int .i64 a3) (by rfl)) ?_
                        refine RL_pure (by exact wn1 rfl rfl rfl rfl) (by rfl) (by rfl) (x_move (v := .int .i64 (shlV .i64 1 a1)) (by rfl)) ?_
                        obtain ⟨x66, ex66, qx66, ux66, hm⟩ := ck_some hm
                        refine RL_pure (by exact wn1 rfl rfl rfl rfl) (by rfl) (by rfl) (x_mul (by rfl) (by rfl) ux66) ?_
                        refine RL_pure (by exact wn1 rfl rfl rfl rfl) (by rfl) (by rfl) (x_fieldAddr fo30_1 (by rfl)) ?_
                        refine RL_pure (by exact wn1 rfl rfl rfl rfl) (by rfl) (by rfl) (x_load (j := 1) (v := .int .i64 a4.Y0) sc3 (by rfl) (H.cells (i := 1) (by rfl)) (by rfl)) ?_
                        refine RL_pure (by exact wn1 rfl rfl rfl rfl) (by rfl) (by rfl) (x_geq (by rfl) (by rfl)) ?_
                        refine RL_pure (by exact wn0 rfl) (by rfl) (by rfl) (x_pick_t (v := .bool (decide (a4.Y0 ≤ x66))) (by rfl) (by rfl)) ?_
                        refine RL_nil ?_
                        exact ⟨⟨congrArg Value.bool (Option.some.inj hm), rfl, rfl, rfl, rfl, rfl, rfl, rfl, rfl, trivial⟩, H⟩
                    · rintro r' w' ⟨hA, H⟩
                      obtain ⟨r67, rfl⟩ := regen _ hA; clear hA
                      obtain ⟨w68, rfl⟩ : ∃ W : World, W = w' := ⟨_, rfl⟩
                      show RL _ _ _ _ _ _ _
                      refine RL_pure (by exact wn0 rfl) (by rfl) (by rfl) (x_move (v := .bool b65) (by rfl)) ?_
                      obtain ⟨b69, hmS, hm⟩ := bind_some hm
                      refine RL_cut 9 (fun r' w' => Agr [(111, .bool b69), (1, .int .i64 a1), (2, .int .i64 a2), (3, .int .i64 a3), (5, .int .i64 a5), (6, .pointer (some ⟨b5, 0, none⟩)), (10, .pointer (some ⟨b7, 0, none⟩)), (13, .pointer (some ⟨b28, 0, none⟩))] r' ∧ Sep ok w w' [.blk b5 28 [.slice A1 a0.Levels.length cp2], .blk b7 30 [.int .i64 a4.X0, .int .i64 a4.Y0, .int .i64 a4.X1, .int .i64 a4.Y1], .blk b28 54 [.int .i64 el9.W, .int .i64 el9.H, .slice A21 el9.Low.length cp22]] [RE.rd k_Level A1 cp2 a0.Levels, RE.cells g14 (o15 + (a1).toNat * 3) [.int .i64 el9.W, .int .i64 el9.H, .slice A21 el9.Low.length cp22], RE.rd kInt A21 cp22 el9.Low]) ?_ ?_
                      · cases hbS : b65
                        · have hm := cond_f hbS hmS
                          refine RL_cons (OpR_off (by exact wn2 rfl rfl rfl rfl) (by rfl) (by rfl) ?_)
                          refine RL_cons (OpR_off (by exact wn2 rfl rfl rfl rfl) (by rfl) (by rfl) ?_)
                          refine RL_cons (OpR_off (by exact wn2 rfl rfl rfl rfl) (by rfl) (by rfl) ?_)
                          refine RL_cons (OpR_off (by exact wn2 rfl rfl rfl rfl) (by rfl) (by rfl) ?_)
                          refine RL_cons (OpR_off (by exact wn2 rfl rfl rfl rfl) (by rfl) (by rfl) ?_)
                          refine RL_cons (OpR_off (by exact wn2 rfl rfl rfl rfl) (by rfl) (by rfl) ?_)
                          refine RL_cons (OpR_off (by exact wn2 rfl rfl rfl rfl) (by rfl) (by rfl) ?_)
                          refine RL_cons (OpR_off (by exact wn2 rfl rfl rfl rfl) (by rfl) (by rfl) ?_)
                          refine RL_pure (by exact wn0 rfl) (by rfl) (by rfl) (x_pick_f (v := .bool false) (by rfl) (by rfl)) ?_
                          refine RL_nil ?_
                          exact ⟨⟨congrArg Value.bool (Option.some.inj hm), rfl, rfl, rfl, rfl, rfl, rfl, rfl, trivial⟩, H⟩
                        · have hm := cond_t hbS hmS
                          refine RL_pure (by exact wn1 rfl rfl rfl rfl) (by rfl) (by rfl) (x_move (v := .int .i64 a3) (by rfl)) ?_
                          obtain ⟨x70, ex70, qx70, ux70, hm⟩ := ck_some hm
                          refine RL_pure (by exact wn1 rfl rfl rfl rfl) (by rfl) (by rfl) (x_add (by rfl) (by rfl) ux70) ?_
                          refine RL_pure (by exact wn1 rfl rfl rfl rfl) (by rfl) (by rfl) (x_move (v := .int .i64 (shlV .i64 1 a1)) (by rfl)) ?_
                          obtain ⟨x71, ex71, qx71, ux71, hm⟩ := ck_some hm
                          refine RL_pure (by exact wn1 rfl rfl rfl rfl) (by rfl) (by rfl) (x_mul (by rfl) (by rfl) ux71) ?_
                          obtain ⟨x72, ex72, qx72, ux72, hm⟩ := ck_some hm
                          refine RL_pure (by exact wn1 rfl rfl rfl rfl) (by rfl) (by rfl) (x_sub (by rfl) (by rfl) ux72) ?_
                          refine RL_pure (by exact wn1 rfl rfl rfl rfl) (by rfl) (by rfl) (x_fieldAddr fo30_3 (by rfl)) ?_
                          refine RL_pure (by exact wn1 rfl rfl rfl rfl) (by rfl) (by rfl) (x_load (j := 3) (v := .int .i64 a4.Y1) sc3 (by rfl) (H.cells (i := 1) (by rfl)) (by rfl)) ?_
                          refine RL_pure (by exact wn1 rfl rfl rfl rfl) (by rfl) (by rfl) (x_leq (by rfl) (by rfl)) ?_
                          refine RL_pure (by exact wn0 rfl) (by rfl) (by rfl) (x_pick_t (v := .bool (decide (x72 ≤ a4.Y1))) (by rfl) (by rfl)) ?_
                          refine RL_nil ?_
                          exact ⟨⟨congrArg Value.bool (Option.some.inj hm), rfl, rfl, rfl, rfl, rfl, rfl, rfl, trivial⟩, H⟩
                      · rintro r' w' ⟨hA, H⟩
                        obtain ⟨r73, rfl⟩ := regen _ hA; clear hA
                        obtain ⟨w74, rfl⟩ : ∃ W : World, W = w' := ⟨_, rfl⟩
                        show RL _ _ _ _ _ _ _
                        refine RL_nil ?_
                        refine W_cond (by rfl) (fun hb => ?_) (fun hb => ?_)
                        · have hm := cond_t hb hm
                          refine W_seq ?_
                          refine W_region ?_
                          refine RL_pure (by exact wn0 rfl) (by rfl) (by rfl) (x_loadA (j := 0) (vs := [.int .i64 el9.W, .int .i64 el9.H, .slice A21 el9.Low.length cp22]) ag54 (by rfl) (H.cells (i := 2) (by rfl)) (by rfl) (by rfl)) ?_
                          refine RL_pure (by exact wn0 rfl) (by rfl) (by rfl) (x_move (v := .int .i64 a2) (by rfl)) ?_
                          refine RL_pure (by exact wn0 rfl) (by rfl) (by rfl) (x_move (v := .int .i64 a3) (by rfl)) ?_
                          obtain ⟨v76, hv75, hm⟩ := bind_some hm
                          refine RL_cons (O_call (by exact wn0 rfl) (by rfl) (by rfl) (x_callL (by rfl) (args := [.agg #[.int .i64 el9.W, .int .i64 el9.H, .slice A21 el9.Low.length cp22], .int .i64 a2, .int .i64 a3]) (by rfl) (cf109 _ _)) (c109 (fun _ => True) K w74 el9 A21 cp22 a2 a3 (H.rd (i := 2) (by rfl)).any v76 hv75) ?_)
                          rintro e w77 ⟨rfl, H2⟩
                          have H : Sep ok w w77 [.blk b5 28 [.slice A1 a0.Levels.length cp2], .blk b7 30 [.int .i64 a4.X0, .int .i64 a4.Y0, .int .i64 a4.X1, .int .i64 a4.Y1], .blk b28 54 [.int .i64 el9.W, .int .i64 el9.H, .slice A21 el9.Low.length cp22]] [RE.rd k_Level A1 cp2 a0.Levels, RE.cells g14 (o15 + (a1).toNat * 3) [.int .i64 el9.W, .int .i64 el9.H, .slice A21 el9.Low.length cp22], RE.rd kInt A21 cp22 el9.Low] := H.below H2.base
                          clear H2
                          refine ⟨_, rfl, ?_⟩
                          show RL _ _ _ _ _ _ _
                          refine RL_pure (by exact wn0 rfl) (by rfl) (by rfl) (x_assign (v := .int .i64 v76) (by rfl)) ?_
                          refine RL_nil ?_
                          refine W_ret ?_
                          obtain rfl := Option.some.inj hm
                          exact ⟨[.int .i64 v76], (.tmp (by rfl) rfl), rfl, H.none_⟩
                        · have hm := cond_f hb hm
                          refine W_skip ?_
                          refine W_seq ?_
                          refine W_seq ?_
                          refine W_region ?_
                          refine RL_pure (by exact wn0 rfl) (by rfl) (by rfl) (x_move (v := .int .i64 0) (by rfl)) ?_
                          refine RL_nil ?_
                          refine W_block ?_
                          refine W_unroll 40 ?_
                          refine WU_succ ?_
                          refine W_seq ?_
                          refine W_region ?_
                          refine RL_pure (by exact wn0 rfl) (by rfl) (by rfl) (x_lss (by rfl) (by rfl)) ?_
                          refine RL_nil ?_
                          refine W_seq ?_
                          refine W_cond (t := true) (by first | rfl | decide) (fun _ => ?_) (fun hb => by cases hb)
                          refine W_skip ?_
                          refine W_seq ?_
                          refine W_block ?_
                          refine W_seq ?_
                          refine W_region ?_
                          refine RL_pure (by exact wn0 rfl) (by rfl) (by rfl) (x_move (v := .int .i64 0) (by rfl)) ?_
                          refine RL_pure (by exact wn0 rfl) (by rfl) (by rfl) (x_assign (v := .int .i64 0) (by rfl)) ?_
                          refine RL_nil ?_
                          refine W_region ?_
                          refine RL_pure (by exact wn0 rfl) (by rfl) (by rfl) (x_loadA (j := 0) (vs := [.slice A1 a0.Levels.length cp2]) ag28 (by rfl) (H.cells (i := 0) (by rfl)) (by rfl) (by rfl)) ?_
                          refine RL_pure (by exact wn0 rfl) (by rfl) (by rfl) (x_move (v := .int .i64 a1) (by rfl)) ?_
                          obtain ⟨x78, ex78, qx78, ux78, hm⟩ := ck_some hm
                          refine RL_pure (by exact wn0 rfl) (by rfl) (by rfl) (x_sub (by rfl) (by rfl) ux78) ?_
                          refine RL_pure (by exact wn0 rfl) (by rfl) (by rfl) (x_move (v := .int .i64 a2) (by rfl)) ?_
                          obtain ⟨x79, ex79, qx79, ux79, hm⟩ := ck_some hm
                          refine RL_pure (by exact wn0 rfl) (by rfl) (by rfl) (x_mul (by rfl) (by rfl) ux79) ?_
                          refine RL_pure (by exact wn0 rfl) (by rfl) (by rfl) (x_move (v := .int .i64 0) (by rfl)) ?_
                          refine RL_pure (by exact wn0 rfl) (by rfl) (by rfl) (x_rem (by rfl) (by rfl) (by decide)) ?_
                          obtain ⟨x80, ex80, qx80, ux80, hm⟩ := ck_some hm
                          refine RL_pure (by exact wn0 rfl) (by rfl) (by rfl) (x_add (by rfl) (by rfl) ux80) ?_
                          refine RL_pure (by exact wn0 rfl) (by rfl) (by rfl) (x_move (v := .int .i64 a3) (by rfl)) ?_
                          obtain ⟨x81, ex81, qx81, ux81, hm⟩ := ck_some hm
                          refine RL_pure (by exact wn0 rfl) (by rfl) (by rfl) (x_mul (by rfl) (by rfl) ux81) ?_
                          refine RL_pure (by exact wn0 rfl) (by rfl) (by rfl) (x_move (v := .int .i64 0) (by rfl)) ?_
                          obtain ⟨x82, ex82, qx82, ux82, hm⟩ := ck_some hm
                          refine RL_pure (by exact wn0 rfl) (by rfl) (by rfl) (x_quo (by rfl) (by rfl) (by decide) ux82) ?_
                          obtain ⟨x83, ex83, qx83, ux83, hm⟩ := ck_some hm
                          refine RL_pure (by exact wn0 rfl) (by rfl) (by rfl) (x_add (by rfl) (by rfl) ux83) ?_
                          refine RL_pure (by exact wn0 rfl) (by rfl) (by rfl) (x_loadA (j := 0) (vs := [.int .i64 a4.X0, .int .i64 a4.Y0, .int .i64 a4.X1, .int .i64 a4.Y1]) ag30 (by rfl) (H.cells (i := 1) (by rfl)) (by rfl) (by rfl)) ?_
                          refine RL_pure (by exact wn0 rfl) (by rfl) (by rfl) (x_move (v := .int .i64 a5) (by rfl)) ?_
                          obtain ⟨v85, hv84, hm⟩ := bind_some hm
                          refine RL_cons (O_call (by exact wn0 rfl) (by rfl) (by rfl) (x_callL (by rfl) (args := [.agg #[.slice A1 a0.Levels.length cp2], .int .i64 x78, .int .i64 x80, .int .i64 x83, .agg #[.int .i64 a4.X0, .int .i64 a4.Y0, .int .i64 a4.X1, .int .i64 a4.Y1], .int .i64 a5]) (by rfl) (cf62 _ _)) (ih (fun _ => True) w74 a0 A1 cp2 x78 x80 x83 a4 a5 (H.rd (i := 0) (by rfl)).any v85 hv84) ?_)
                          rintro e w86 ⟨rfl, H2⟩
                          have H : Sep ok w w86 [.blk b5 28 [.slice A1 a0.Levels.length cp2], .blk b7 30 [.int .i64 a4.X0, .int .i64 a4.Y0, .int .i64 a4.X1, .int .i64 a4.Y1], .blk b28 54 [.int .i64 el9.W, .int .i64 el9.H, .slice A21 el9.Low.length cp22]] [RE.rd k_Level A1 cp2 a0.Levels, RE.cells g14 (o15 + (a1).toNat * 3) [.int .i64 el9.W, .int .i64 el9.H, .slice A21 el9.Low.length cp22], RE.rd kInt A21 cp22 el9.Low] := H.below H2.base
                          clear H2
                          refine ⟨_, rfl, ?_⟩
                          show RL _ _ _ _ _ _ _
                          refine RL_pure (by exact wn0 rfl) (by rfl) (by rfl) (x_assign (v := .int .i64 v85) (by rfl)) ?_
                          refine RL_nil ?_
                          refine W_region ?_
                          refine RL_pure (by exact wn0 rfl) (by rfl) (by rfl) (x_add (c := 1) (by rfl) (by rfl) (by decide)) ?_
                          refine RL_pure (by exact wn0 rfl) (by rfl) (by rfl) (x_move (v := .int .i64 1) (by rfl)) ?_
                          refine RL_nil ?_
                          refine WU_succ ?_
                          refine W_seq ?_
                          refine W_region ?_
                          refine RL_pure (by exact wn0 rfl) (by rfl) (by rfl) (x_lss (by rfl) (by rfl)) ?_
                          refine RL_nil ?_
                          refine W_seq ?_
                          refine W_cond (t := true) (by first | rfl | decide) (fun _ => ?_) (fun hb => by cases hb)
                          refine W_skip ?_
                          refine W_seq ?_
                          refine W_block ?_
                          refine W_seq ?_
                          refine W_region ?_
                          refine RL_pure (by exact wn0 rfl) (by rfl) (by rfl) (x_move (v := .int .i64 1) (by rfl)) ?_
                          refine RL_pure (by exact wn0 rfl) (by rfl) (by rfl) (x_assign (v := .int .i64 1) (by rfl)) ?_
                          refine RL_nil ?_
                          refine W_region ?_
                          refine RL_pure (by exact wn0 rfl) (by rfl) (by rfl) (x_loadA (j := 0) (vs := [.slice A1 a0.Levels.length cp2]) ag28 (by rfl) (H.cells (i := 0) (by rfl)) (by rfl) (by rfl)) ?_
                          refine RL_pure (by exact wn0 rfl) (by rfl) (by rfl) (x_move (v := .int .i64 a1) (by rfl)) ?_
                          obtain ⟨x87, ex87, qx87, ux87, hm⟩ := ck_some hm
                          refine RL_pure (by exact wn0 rfl) (by rfl) (by rfl) (x_sub (by rfl) (by rfl) ux87) ?_
                          refine RL_pure (by exact wn0 rfl) (by rfl) (by rfl) (x_move (v := .int .i64 a2) (by rfl)) ?_
                          obtain ⟨x88, ex88, qx88, ux88, hm⟩ := ck_some hm
                          refine RL_pure (by exact wn0 rfl) (by rfl) (by rfl) (x_mul (by rfl) (by rfl) ux88) ?_
                          refine RL_pure (by exact wn0 rfl) (by rfl) (by rfl) (x_move (v := .int .i64 1) (by rfl)) ?_
                          refine RL_pure (by exact wn0 rfl) (by rfl) (by rfl) (x_rem (by rfl) (by rfl) (by decide)) ?_
                          obtain ⟨x89, ex89, qx89, ux89, hm⟩ := ck_some hm
                          refine RL_pure (by exact wn0 rfl) (by rfl) (by rfl) (x_add (by rfl) (by rfl) ux89) ?_
                          refine RL_pure (by exact wn0 rfl) (by rfl) (by rfl) (x_move (v := .int .i64 a3) (by rfl)) ?_
                          obtain ⟨x90, ex90, qx90, ux90, hm⟩ := ck_some hm
                          refine RL_pure (by exact wn0 rfl) (by rfl) (by rfl) (x_mul (by rfl) (by rfl) ux90) ?_
                          refine RL_pure (by exact wn0 rfl) (by rfl) (by rfl) (x_move (v := .int .i64 1) (by rfl)) ?_
                          obtain ⟨x91, ex91, qx91, ux91, hm⟩ := ck_some hm
                          refine RL_pure (by exact wn0 rfl) (by rfl) (by rfl) (x_quo (by rfl) (by rfl) (by decide) ux91) ?_
                          obtain ⟨x92, ex92, qx92, ux92, hm⟩ := ck_some hm
                          refine RL_pure (by exact wn0 rfl) (by rfl) (by rfl) (x_add (by rfl) (by rfl) ux92) ?_
                          refine RL_pure (by exact wn0 rfl) (by rfl) (by rfl) (x_loadA (j := 0) (vs := [.int .i64 a4.X0, .int .i64 a4.Y0, .int .i64 a4.X1, .int .i64 a4.Y1]) ag30 (by rfl) (H.cells (i := 1) (by rfl)) (by rfl) (by rfl)) ?_
                          refine RL_pure (by exact wn0 rfl) (by rfl) (by rfl) (x_move (v := .int .i64 v85) (by rfl)) ?_
                          obtain ⟨v94, hv93, hm⟩ := bind_some hm
                          refine RL_cons (O_call (by exact wn0 rfl) (by rfl) (by rfl) (x_callL (by rfl) (args := [.agg #[.slice A1 a0.Levels.length cp2], .int .i64 x87, .int .i64 x89, .int .i64 x92, .agg #[.int .i64 a4.X0, .int .i64 a4.Y0, .int .i64 a4.X1, .int .i64 a4.Y1], .int .i64 v85]) (by rfl) (cf62 _ _)) (ih (fun _ => True) w86 a0 A1 cp2 x87 x89 x92 a4 v85 (H.rd (i := 0) (by rfl)).any v94 hv93) ?_)
                          rintro e w95 ⟨rfl, H2⟩
                          have H : Sep ok w w95 [.blk b5 28 [.slice A1 a0.Levels.length cp2], .blk b7 30 [.int .i64 a4.X0, .int .i64 a4.Y0, .int .i64 a4.X1, .int .i64 a4.Y1], .blk b28 54 [.int .i64 el9.W, .int .i64 el9.H, .slice A21 el9.Low.length cp22]] [RE.rd k_Level A1 cp2 a0.Levels, RE.cells g14 (o15 + (a1).toNat * 3) [.int .i64 el9.W, .int .i64 el9.H, .slice A21 el9.Low.length cp22], RE.rd kInt A21 cp22 el9.Low] := H.below H2.base
                          clear H2
                          refine ⟨_, rfl, ?_⟩
                          show RL _ _ _ _ _ _ _
                          refine RL_pure (by exact wn0 rfl) (by rfl) (by rfl) (x_assign (v := .int .i64 v94) (by rfl)) ?_
                          refine RL_nil ?_
                          refine W_region ?_
                          refine RL_pure (by exact wn0 rfl) (by rfl) (by rfl) (x_add (c := 2) (by rfl) (by rfl) (by decide)) ?_
                          refine RL_pure (by exact wn0 rfl) (by rfl) (by rfl) (x_move (v := .int .i64 2) (by rfl)) ?_
                          refine RL_nil ?_
                          refine WU_succ ?_
                          refine W_seq ?_
                          refine W_region ?_
                          refine RL_pure (by exact wn0 rfl) (by rfl) (by rfl) (x_lss (by rfl) (by rfl)) ?_
                          refine RL_nil ?_
                          refine W_seq ?_
                          refine W_cond (t := true) (by first | rfl | decide) (fun _ => ?_) (fun hb => by cases hb)
                          refine W_skip ?_
                          refine W_seq ?_
                          refine W_block ?_
                          refine W_seq ?_
                          refine W_region ?_
                          refine RL_pure (by exact wn0 rfl) (by rfl) (by rfl) (x_move (v := .int .i64 2) (by rfl)) ?_
                          refine RL_pure (by exact wn0 rfl) (by rfl) (by rfl) (x_assign (v := .int .i64 2) (by rfl)) ?_
                          refine RL_nil ?_
                          refine W_region ?_
                          refine RL_pure (by exact wn0 rfl) (by rfl) (by rfl) (x_loadA (j := 0) (vs := [.slice A1 a0.Levels.length cp2]) ag28 (by rfl) (H.cells (i := 0) (by rfl)) (by rfl) (by rfl)) ?_
                          refine RL_pure (by exact wn0 rfl) (by rfl) (by rfl) (x_move (v := .int .i64 a1) (by rfl)) ?_
                          obtain ⟨x96, ex96, qx96, ux96, hm⟩ := ck_some hm
                          refine RL_pure (by exact wn0 rfl) (by rfl) (by rfl) (x_sub (by rfl) (by rfl) ux96) ?_
                          refine RL_pure (by exact wn0 rfl) (by rfl) (by rfl) (x_move (v := .int .i64 a2) (by rfl)) ?_
                          obtain ⟨x97, ex97, qx97, ux97, hm⟩ := ck_some hm
                          refine RL_pure (by exact wn0 rfl) (by rfl) (by rfl) (x_mul (by rfl) (by rfl) ux97) ?_
                          refine RL_pure (by exact wn0 rfl) (by rfl) (by rfl) (x_move (v := .int .i64 2) (by rfl)) ?_
                          refine RL_pure (by exact wn0 rfl) (by rfl) (by rfl) (x_rem (by rfl) (by rfl) (by decide)) ?_
                          obtain ⟨x98, ex98, qx98, ux98, hm⟩ := ck_some hm
                          refine RL_pure (by exact wn0 rfl) (by rfl) (by rfl) (x_add (by rfl) (by rfl) ux98) ?_
                          refine RL_pure (by exact wn0 rfl) (by rfl) (by rfl) (x_move (v := .int .i64 a3) (by rfl)) ?_
                          obtain ⟨x99, ex99, qx99, ux99, hm⟩ := ck_some hm
                          refine RL_pure (by exact wn0 rfl) (by rfl) (by rfl) (x_mul (by rfl) (by rfl) ux99) ?_
                          refine RL_pure (by exact wn0 rfl) (by rfl) (by rfl) (x_move (v := .int .i64 2) (by rfl)) ?_
                          obtain ⟨x100, ex100, qx100, ux100, hm⟩ := ck_some hm
                          refine RL_pure (by exact wn0 rfl) (by rfl) (by rfl) (x_quo (by rfl) (by rfl) (by decide) ux100) ?_
                          obtain ⟨x101, ex101, qx101, ux101, hm⟩ := ck_some hm
                          refine RL_pure (by exact wn0 rfl) (by rfl) (by rfl) (x_add (by rfl) (by rfl) ux101) ?_
                          refine RL_pure (by exact wn0 rfl) (by rfl) (by rfl) (x_loadA (j := 0) (vs := [.int .i64 a4.X0, .int .i64 a4.Y0, .int .i64 a4.X1, .int .i64 a4.Y1]) ag30 (by rfl) (H.cells (i := 1) (by rfl)) (by rfl) (by rfl)) ?_
                          refine RL_pure (by exact wn0 rfl) (by rfl) (by rfl) (x_move (v := .int .i64 v94) (by rfl)) ?_
                          obtain ⟨v103, hv102, hm⟩ := bind_some hm
                          refine RL_cons (O_call (by exact wn0 rfl) (by rfl) (by rfl) (x_callL (by rfl) (args := [.agg #[.slice A1 a0.Levels.length cp2], .int .i64 x96, .int .i64 x98, .int .i64 x101, .agg #[.int .i64 a4.X0, .int .i64 a4.Y0, .int .i64 a4.X1, .int .i64 a4.Y1], .int .i64 v94]) (by rfl) (cf62 _ _)) (ih (fun _ => True) w95 a0 A1 cp2 x96 x98 x101 a4 v94 (H.rd (i := 0) (by rfl)).any v103 hv102) ?_)
                          rintro e w104 ⟨rfl, H2⟩
                          have H : Sep ok w w104 [.blk b5 28 [.slice A1 a0.Levels.length cp2], .blk b7 30 [.int .i64 a4.X0, .int .i64 a4.Y0, .int .i64 a4.X1, .int .i64 a4.Y1], .blk b28 54 [.int .i64 el9.W, .int .i64 el9.H, .slice A21 el9.Low.length cp22]] [RE.rd k_Level A1 cp2 a0.Levels, RE.cells g14 (o15 + (a1).toNat * 3) [.int .i64 el9.W, .int .i64 el9.H, .slice A21 el9.Low.length cp22], RE.rd kInt A21 cp22 el9.Low] := H.below H2.base
                          clear H2
                          refine ⟨_, rfl, ?_⟩
                          show RL _ _ _ _ _ _ _
                          refine RL_pure (by exact wn0 rfl) (by rfl) (by rfl) (x_assign (v := .int .i64 v103) (by rfl)) ?_
                          refine RL_nil ?_
                          refine W_region ?_
                          refine RL_pure (by exact wn0 rfl) (by rfl) (by rfl) (x_add (c := 3) (by rfl) (by rfl) (by decide)) ?_
                          refine RL_pure (by exact wn0 rfl) (by rfl) (by rfl) (x_move (v := .int .i64 3) (by rfl)) ?_
                          refine RL_nil ?_
                          refine WU_succ ?_
                          refine W_seq ?_
                          refine W_region ?_
                          refine RL_pure (by exact wn0 rfl) (by rfl) (by rfl) (x_lss (by rfl) (by rfl)) ?_
                          refine RL_nil ?_
                          refine W_seq ?_
                          refine W_cond (t := true) (by first | rfl | decide) (fun _ => ?_) (fun hb => by cases hb)
                          refine W_skip ?_
                          refine W_seq ?_
                          refine W_block ?_
                          refine W_seq ?_
                          refine W_region ?_
                          refine RL_pure (by exact wn0 rfl) (by rfl) (by rfl) (x_move (v := .int .i64 3) (by rfl)) ?_
                          refine RL_pure (by exact wn0 rfl) (by rfl) (by rfl) (x_assign (v := .int .i64 3) (by rfl)) ?_
                          refine RL_nil ?_
                          refine W_region ?_
                          refine RL_pure (by exact wn0 rfl) (by rfl) (by rfl) (x_loadA (j := 0) (vs := [.slice A1 a0.Levels.length cp2]) ag28 (by rfl) (H.cells (i := 0) (by rfl)) (by rfl) (by rfl)) ?_
                          refine RL_pure (by exact wn0 rfl) (by rfl) (by rfl) (x_move (v := .int .i64 a1) (by rfl)) ?_
                          obtain ⟨x105, ex105, qx105, ux105, hm⟩ := ck_some hm
                          refine RL_pure (by exact wn0 rfl) (by rfl) (by rfl) (x_sub (by rfl) (by rfl) ux105) ?_
                          refine RL_pure (by exact wn0 rfl) (by rfl) (by rfl) (x_move (v := .int .i64 a2) (by rfl)) ?_
                          obtain ⟨x106, ex106, qx106, ux106, hm⟩ := ck_some hm
                          refine RL_pure (by exact wn0 rfl) (by rfl) (by rfl) (x_mul (by rfl) (by rfl) ux106) ?_
                          refine RL_pure (by exact wn0 rfl) (by rfl) (by rfl) (x_move (v := .int .i64 3) (by rfl)) ?_
                          refine RL_pure (by exact wn0 rfl) (by rfl) (by rfl) (x_rem (by rfl) (by rfl) (by decide)) ?_
                          obtain ⟨x107, ex107, qx107, ux107, hm⟩ := ck_some hm
                          refine RL_pure (by exact wn0 rfl) (by rfl) (by rfl) (x_add (by rfl) (by rfl) ux107) ?_
                          refine RL_pure (by exact wn0 rfl) (by rfl) (by rfl) (x_move (v := .int .i64 a3) (by rfl)) ?_
                          obtain ⟨x108, ex108, qx108, ux108, hm⟩ := ck_some hm
                          refine RL_pure (by exact wn0 rfl) (by rfl) (by rfl) (x_mul (by rfl) (by rfl) ux108) ?_
                          refine RL_pure (by exact wn0 rfl) (by rfl) (by rfl) (x_move (v := .int .i64 3) (by rfl)) ?_
                          obtain ⟨x109, ex109, qx109, ux109, hm⟩ := ck_some hm
                          refine RL_pure (by exact wn0 rfl) (by rfl) (by rfl) (x_quo (by rfl) (by rfl) (by decide) ux109) ?_
                          obtain ⟨x110, ex110, qx110, ux110, hm⟩ := ck_some hm
                          refine RL_pure (by exact wn0 rfl) (by rfl) (by rfl) (x_add (by rfl) (by rfl) ux110) ?_
                          refine RL_pure (by exact wn0 rfl) (by rfl) (by rfl) (x_loadA (j := 0) (vs := [.int .i64 a4.X0, .int .i64 a4.Y0, .int .i64 a4.X1, .int .i64 a4.Y1]) ag30 (by rfl) (H.cells (i := 1) (by rfl)) (by rfl) (by rfl)) ?_
                          refine RL_pure (by exact wn0 rfl) (by rfl) (by rfl) (x_move (v := .int .i64 v103) (by rfl)) ?_
                          obtain ⟨v112, hv111, hm⟩ := bind_some hm
                          refine RL_cons (O_call (by exact wn0 rfl) (by rfl) (by rfl) (x_callL (by rfl) (args := [.agg #[.slice A1 a0.Levels.length cp2], .int .i64 x105, .int .i64 x107, .int .i64 x110, .agg #[.int .i64 a4.X0, .int .i64 a4.Y0, .int .i64 a4.X1, .int .i64 a4.Y1], .int .i64 v103]) (by rfl) (cf62 _ _)) (ih (fun _ => True) w104 a0 A1 cp2 x105 x107 x110 a4 v103 (H.rd (i := 0) (by rfl)).any v112 hv111) ?_)
                          rintro e w113 ⟨rfl, H2⟩
                          have H : Sep ok w w113 [.blk b5 28 [.slice A1 a0.Levels.length cp2], .blk b7 30 [.int .i64 a4.X0, .int .i64 a4.Y0, .int .i64 a4.X1, .int .i64 a4.Y1], .blk b28 54 [.int .i64 el9.W, .int .i64 el9.H, .slice A21 el9.Low.length cp22]] [RE.rd k_Level A1 cp2 a0.Levels, RE.cells g14 (o15 + (a1).toNat * 3) [.int .i64 el9.W, .int .i64 el9.H, .slice A21 el9.Low.length cp22], RE.rd kInt A21 cp22 el9.Low] := H.below H2.base
                          clear H2
                          refine ⟨_, rfl, ?_⟩
                          show RL _ _ _ _ _ _ _
                          refine RL_pure (by exact wn0 rfl) (by rfl) (by rfl) (x_assign (v := .int .i64 v112) (by rfl)) ?_
                          refine RL_nil ?_
                          refine W_region ?_
                          refine RL_pure (by exact wn0 rfl) (by rfl) (by rfl) (x_add (c := 4) (by rfl) (by rfl) (by decide)) ?_
                          refine RL_pure (by exact wn0 rfl) (by rfl) (by rfl) (x_move (v := .int .i64 4) (by rfl)) ?_
                          refine RL_nil ?_
                          refine WU_succ ?_
                          refine W_seq ?_
                          refine W_region ?_
                          refine RL_pure (by exact wn0 rfl) (by rfl) (by rfl) (x_lss (by rfl) (by rfl)) ?_
                          refine RL_nil ?_
                          refine W_seq ?_
                          refine W_cond (t := false) (by first | rfl | decide) (fun hb => by cases hb) (fun _ => ?_)
                          refine W_exit ?_
                          refine W_seq ?_
                          refine W_region ?_
                          refine RL_pure (by exact wn0 rfl) (by rfl) (by rfl) (x_move (v := .int .i64 v112) (by rfl)) ?_
                          refine RL_pure (by exact wn0 rfl) (by rfl) (by rfl) (x_assign (v := .int .i64 v112) (by rfl)) ?_
                          refine RL_nil ?_
                          refine W_ret ?_
                          obtain rfl := Option.some.inj hm
                          exact ⟨[.int .i64 v112], (.tmp (by rfl) rfl), rfl, H.none_⟩
theorem c62 (ok : Nat → Prop) (K : Nat) (w : World) (a0 : S_Pyramid) (A1 : Option Addr) (cp2 : Nat) (a1 : Int) (a2 : Int) (a3 : Int) (a4 : S_Rect) (a5 : Int) (hR3 : Rd k_Level w ok A1 cp2 a0.Levels) (res : Int) (hm : m62 K a0 a1 a2 a3 a4 a5 = some res) :
    Calls Try.prog 62 #[.agg #[.slice A1 a0.Levels.length cp2], .int .i64 a1, .int .i64 a2, .int .i64 a3, .agg #[.int .i64 a4.X0, .int .i64 a4.Y0, .int .i64 a4.X1, .int .i64 a4.Y1], .int .i64 a5] w (fun e w' => e = .returned (tup [.int .i64 res]) ∧ Sep ok w w' [] []) := c62f K K ok w a0 A1 cp2 a1 a2 a3 a4 a5 hR3 res hm
end Go.Proofs.YtobkigllalbkiaaV.M
