/- Part 5 of the texts that the proof of PyramidTells stands on. -/
import Derived.Test.YtobkigllalbkiaaPyramidTellsZD
/- A plain Lean function that answers as the Go function does (none: not told), and the proof that a call answers so. Written by program. -/
set_option linter.unusedVariables false
namespace Go.Proofs.YtobkigllalbkiaaV.M
open Go.RowKit Go.Proofs.YtobkigllalbkiaaV
def m14_l1b (K : Nat) (a0 : S_Pyramid) (rec1 : (List S_Level) → Int → Option (S_Pyramid)) (l_row43_1 : (List S_Level)) (y4_1 : Int) : Option (S_Pyramid) :=
 (bif (decide (y4_1 < (a0.Levels.length : Int))) then (idx a0.Levels y4_1 fun el13 => (apds 8 ([] : List Int) el13.Low fun l39 => (apd 40 l_row43_1 (⟨el13.W, el13.H, l39⟩ : S_Level) fun l49 => (ck (y4_1 + 1) fun x53 => (rec1 l49 x53))))) else some (⟨l_row43_1⟩ : S_Pyramid))
def m14_l1 (K : Nat) (a0 : S_Pyramid) : Nat → (List S_Level) → Int → Option (S_Pyramid)
 | 0 => fun _ _ => none
 | k + 1 => m14_l1b K a0 (m14_l1 K a0 k)
/-- diorama/dioramaref27.Twin -/
def m14 (K : Nat) (a0 : S_Pyramid) : Option (S_Pyramid) :=
 m14_l1 K a0 K ([]) 0
set_option maxRecDepth 100000 in
set_option maxHeartbeats 4000000 in
theorem c14 (ok : Okp) (K : Nat) (w : World) (a0 : S_Pyramid) (A1 : Option Addr) (cp2 : Nat) (hR3 : Rd k_Level w ok A1 cp2 a0.Levels) (res : S_Pyramid) (hm : m14 K a0 = some res) :
  Calls Try.prog 14 #[.agg #[.slice A1 a0.Levels.length cp2]] w (fun e w' => ∃ (A0_ : Option Addr) (c0_ : Nat), e = .returned (tup [.agg #[.slice A0_ res.Levels.length c0_]]) ∧ Sep ok w w' [] [RE.rd k_Level A0_ c0_ res.Levels]) := by
 refine calls_W (args := [.agg #[.slice A1 a0.Levels.length cp2]]) Try.func14 rfl Try.ntmps14 Try.results14 rfl fun r hr => ?_
 obtain ⟨r1, rfl⟩ := regen (r := r) [(0, .agg #[.slice A1 a0.Levels.length cp2])] ⟨hr 0 _ rfl, trivial⟩
 have H : Sep ok w w [] [RE.rd k_Level A1 cp2 a0.Levels] := Sep.arg (Sep.start ok w) (re := RE.rd k_Level A1 cp2 a0.Levels) rfl rfl hR3
 unfold m14 at hm
 refine W_seq ?_
 refine W_region ?_
 refine RL_cons (O_box (by exact wn0 rfl) (by rfl) (by rfl) (by rfl) H (fun w6 b5 (H : Sep ok w w6 [.blk b5 28 [.slice A1 a0.Levels.length cp2]] [RE.rd k_Level A1 cp2 a0.Levels]) => ?_))
 refine RL_cons (O_alloc (by exact wn0 rfl) (by rfl) ze28 (by rfl) H (fun w8 b7 (H : Sep ok w w8 [.blk b5 28 [.slice A1 a0.Levels.length cp2], .blk b7 28 [.slice none 0 0]] [RE.rd k_Level A1 cp2 a0.Levels]) => ?_))
 refine RL_nil ?_
 refine W_seq ?_
 refine W_region ?_
 refine RL_cons (O_alloc (by exact wn0 rfl) (by rfl) ze28 (by rfl) H (fun w10 b9 (H : Sep ok w w10 [.blk b5 28 [.slice A1 a0.Levels.length cp2], .blk b7 28 [.slice none 0 0], .blk b9 28 [.slice none 0 0]] [RE.rd k_Level A1 cp2 a0.Levels]) => ?_))
 refine RL_nil ?_
 refine W_seq ?_
 refine W_seq ?_
 refine W_region ?_
 refine RL_pure (by exact wn0 rfl) (by rfl) (by rfl) (x_assign (v := .int .i64 0) (by rfl)) ?_
 refine RL_nil ?_
 refine W_block ?_
 refine W_loop (fun k1 r' w' => ∃ (l_row43_1 : (List S_Level)), ∃ (y4_1 : Int), ∃ (A_row43_1 : Option Addr), ∃ (c_row43_1 : Nat), ∃ (cs_row43_1 : List Value), m14_l1 K a0 k1 l_row43_1 y4_1 = some res ∧ Agr [(1, .pointer (some ⟨b5, 0, none⟩)), (2, .pointer (some ⟨b7, 0, none⟩)), (3, .pointer (some ⟨b9, 0, none⟩)), (4, .int .i64 y4_1)] r' ∧ Sep ok w w' [.blk b5 28 [.slice A1 a0.Levels.length cp2], .blk b7 28 [.slice none 0 0], .blk b9 28 [.slice A_row43_1 l_row43_1.length c_row43_1], .row (.slice A_row43_1 l_row43_1.length c_row43_1) 54 k_Level.sz l_row43_1.length cs_row43_1] [RE.rd k_Level A1 cp2 a0.Levels, RE.chunks k_Level cs_row43_1 l_row43_1]) K ?_ ?_
 ·exact ⟨[], 0, none, 0, [], hm, ⟨rfl, rfl, rfl, rfl, trivial⟩, (H).nilRowK 54 k_Level⟩
 ·rintro k1 r' w' ⟨l_row43_1, y4_1, A_row43_1, c_row43_1, cs_row43_1, hm, hA, H⟩
  obtain ⟨r11, rfl⟩ := regen _ hA; clear hA
  obtain ⟨w12, rfl⟩ : ∃ W : World, W = w' := ⟨_, rfl⟩
  cases k1 with
  | zero => exact (none_some hm).elim
  | succ k1 =>
   have hm : m14_l1b K a0 (m14_l1 K a0 k1) l_row43_1 y4_1 = some res := hm
   unfold m14_l1b at hm
   obtain ⟨rec1, hrec1⟩ : ∃ f, m14_l1 K a0 k1 = f := ⟨_, rfl⟩
   rw [hrec1] at hm
   refine W_seq ?_
   refine W_seq ?_
   refine W_region ?_
   refine RL_pure (by exact wn0 rfl) (by rfl) (by rfl) (x_move (v := .int .i64 y4_1) (by rfl)) ?_
   refine RL_pure (by exact wn0 rfl) (by rfl) (by rfl) (x_fieldAddr fo28_0 (by rfl)) ?_
   refine RL_pure (by exact wn0 rfl) (by rfl) (by rfl) (x_load (j := 0) (v := .slice A1 a0.Levels.length cp2) sc26 (by rfl) (H.cells (i := 0) (by rfl)) (by rfl)) ?_
   refine RL_pure (by exact wn0 rfl) (by rfl) (by rfl) (x_len sl26 (by rfl)) ?_
   refine RL_pure (by exact wn0 rfl) (by rfl) (by rfl) (x_lss (by rfl) (by rfl)) ?_
   refine RL_nil ?_
   refine W_cond (by rfl) (fun hb => ?_) (fun hb => ?_)
   ·have hm := cond_t hb hm
    refine W_skip ?_
    refine W_seq ?_
    refine W_block ?_
    refine W_seq ?_
    refine W_region ?_
    refine RL_pure (by exact wn0 rfl) (by rfl) (by rfl) (x_fieldAddr fo28_0 (by rfl)) ?_
    refine RL_pure (by exact wn0 rfl) (by rfl) (by rfl) (x_load (j := 0) (v := .slice A1 a0.Levels.length cp2) sc26 (by rfl) (H.cells (i := 0) (by rfl)) (by rfl)) ?_
    refine RL_pure (by exact wn0 rfl) (by rfl) (by rfl) (x_move (v := .int .i64 y4_1) (by rfl)) ?_
    obtain ⟨el13, h14, h15, he16, hm⟩ := idx_some hm
    obtain ⟨g18, o19, hA17⟩ := (H.rd (i := 0) (by rfl)).addr he16
    obtain ⟨cs20, hk21, hat22, hg_cs20⟩ := (H.rd (i := 0) (by rfl)).openAt hA17 he16
    obtain ⟨A25, cp26, rfl, hR28⟩ := hk21
    have H : Sep ok w w12 [.blk b5 28 [.slice A1 a0.Levels.length cp2], .blk b7 28 [.slice none 0 0], .blk b9 28 [.slice A_row43_1 l_row43_1.length c_row43_1], .row (.slice A_row43_1 l_row43_1.length c_row43_1) 54 k_Level.sz l_row43_1.length cs_row43_1] [RE.rd k_Level A1 cp2 a0.Levels, RE.chunks k_Level cs_row43_1 l_row43_1, RE.cells g18 (o19 + (y4_1).toNat * 3) [.int .i64 el13.W, .int .i64 el13.H, .slice A25 el13.Low.length cp26]] := Sep.also H (re := RE.cells g18 (o19 + (y4_1).toNat * 3) [.int .i64 el13.W, .int .i64 el13.H, .slice A25 el13.Low.length cp26]) ⟨hg_cs20, hat22⟩
    have H : Sep ok w w12 [.blk b5 28 [.slice A1 a0.Levels.length cp2], .blk b7 28 [.slice none 0 0], .blk b9 28 [.slice A_row43_1 l_row43_1.length c_row43_1], .row (.slice A_row43_1 l_row43_1.length c_row43_1) 54 k_Level.sz l_row43_1.length cs_row43_1] [RE.rd k_Level A1 cp2 a0.Levels, RE.chunks k_Level cs_row43_1 l_row43_1, RE.cells g18 (o19 + (y4_1).toNat * 3) [.int .i64 el13.W, .int .i64 el13.H, .slice A25 el13.Low.length cp26], RE.rd kInt A25 cp26 el13.Low] := Sep.also H (re := RE.rd kInt A25 cp26 el13.Low) hR28
    refine RL_pure (by exact wn0 rfl) (by rfl) (by rfl) (x_indexAddr sl26 sz54 (by rfl) (by rfl) hA17 h14 h15) ?_
    refine RL_pure (by exact wn0 rfl) (by rfl) (by rfl) (x_loadA (j := 0) (vs := [.int .i64 el13.W, .int .i64 el13.H, .slice A25 el13.Low.length cp26]) ag54 (by rfl) (H.cellsR (i := 2) (by rfl)) (by rfl) (by rfl)) ?_
    refine RL_cons (O_alloc (by exact wn0 rfl) (by rfl) ze54 (by rfl) H (fun w31 b30 (H : Sep ok w w31 [.blk b5 28 [.slice A1 a0.Levels.length cp2], .blk b7 28 [.slice none 0 0], .blk b9 28 [.slice A_row43_1 l_row43_1.length c_row43_1], .row (.slice A_row43_1 l_row43_1.length c_row43_1) 54 k_Level.sz l_row43_1.length cs_row43_1, .blk b30 54 [.int .i64 0, .int .i64 0, .slice none 0 0]] [RE.rd k_Level A1 cp2 a0.Levels, RE.chunks k_Level cs_row43_1 l_row43_1, RE.cells g18 (o19 + (y4_1).toNat * 3) [.int .i64 el13.W, .int .i64 el13.H, .slice A25 el13.Low.length cp26], RE.rd kInt A25 cp26 el13.Low]) => ?_))
    refine RL_cons (O_store (i := 4) (off := 0) (by exact wn0 rfl) (by rfl) (by rfl) H (by rfl) (vs := [.int .i64 el13.W, .int .i64 el13.H, .slice A25 el13.Low.length cp26]) (by rfl) sz54 (by rfl) (by rfl) (by rfl) (fun w32 (H : Sep ok w w32 [.blk b5 28 [.slice A1 a0.Levels.length cp2], .blk b7 28 [.slice none 0 0], .blk b9 28 [.slice A_row43_1 l_row43_1.length c_row43_1], .row (.slice A_row43_1 l_row43_1.length c_row43_1) 54 k_Level.sz l_row43_1.length cs_row43_1, .blk b30 54 [.int .i64 el13.W, .int .i64 el13.H, .slice A25 el13.Low.length cp26]] [RE.rd k_Level A1 cp2 a0.Levels, RE.chunks k_Level cs_row43_1 l_row43_1, RE.cells g18 (o19 + (y4_1).toNat * 3) [.int .i64 el13.W, .int .i64 el13.H, .slice A25 el13.Low.length cp26], RE.rd kInt A25 cp26 el13.Low]) => ?_))
    refine RL_nil ?_
    refine W_seq ?_
    refine W_region ?_
    refine RL_pure (by exact wn0 rfl) (by rfl) (by rfl) (x_fieldAddr fo54_2 (by rfl)) ?_
    refine RL_pure (by exact wn0 rfl) (by rfl) (by rfl) (x_load (j := 2) (v := .slice A25 el13.Low.length cp26) sc23 (by rfl) (H.cells (i := 4) (by rfl)) (by rfl)) ?_
    have H : Sep ok w w32 [.blk b5 28 [.slice A1 a0.Levels.length cp2], .blk b7 28 [.slice none 0 0], .blk b9 28 [.slice A_row43_1 l_row43_1.length c_row43_1], .row (.slice A_row43_1 l_row43_1.length c_row43_1) 54 k_Level.sz l_row43_1.length cs_row43_1, .blk b30 54 [.int .i64 el13.W, .int .i64 el13.H, .slice A25 el13.Low.length cp26], .row (.slice none 0 0) 3 kInt.sz 0 []] [RE.rd k_Level A1 cp2 a0.Levels, RE.chunks k_Level cs_row43_1 l_row43_1, RE.cells g18 (o19 + (y4_1).toNat * 3) [.int .i64 el13.W, .int .i64 el13.H, .slice A25 el13.Low.length cp26], RE.rd kInt A25 cp26 el13.Low, RE.chunks kInt [] ([])] := H.nilRowK 3 kInt
    obtain ⟨l39, hl40, hb41, hm⟩ := apds_some hm
    refine RL_cons (O_appendAll (D := kInt) (xs := ([] : List Int)) (i := 5) (j := 4) (zs := el13.Low) (by exact wn0 rfl) (by rfl) (by rfl) (by rfl) H (by rfl) (by rfl) (H.rd (i := 3) (by rfl)) hl40 sl23 sz3 by3 ze3 (by rfl) (by rfl) hb41 (by rfl) (fun w35 A36 cp37 cs38 (H : Sep ok w w35 [.blk b5 28 [.slice A1 a0.Levels.length cp2], .blk b7 28 [.slice none 0 0], .blk b9 28 [.slice A_row43_1 l_row43_1.length c_row43_1], .row (.slice A_row43_1 l_row43_1.length c_row43_1) 54 k_Level.sz l_row43_1.length cs_row43_1, .blk b30 54 [.int .i64 el13.W, .int .i64 el13.H, .slice A25 el13.Low.length cp26], .row (.slice A36 l39.length cp37) 3 kInt.sz l39.length cs38] [RE.rd k_Level A1 cp2 a0.Levels, RE.chunks k_Level cs_row43_1 l_row43_1, RE.cells g18 (o19 + (y4_1).toNat * 3) [.int .i64 el13.W, .int .i64 el13.H, .slice A25 el13.Low.length cp26], RE.rd kInt A25 cp26 el13.Low, RE.chunks kInt cs38 l39]) => ?_))
    refine RL_pure (by exact wn0 rfl) (by rfl) (by rfl) (x_fieldAddr fo54_2 (by rfl)) ?_
    refine RL_cons (O_store (i := 4) (off := 2) (by exact wn0 rfl) (by rfl) (by rfl) H (by rfl) (vs := [.slice A36 l39.length cp37]) (by rfl) sz23 (by rfl) (by rfl) (by rfl) (fun w42 (H : Sep ok w w42 [.blk b5 28 [.slice A1 a0.Levels.length cp2], .blk b7 28 [.slice none 0 0], .blk b9 28 [.slice A_row43_1 l_row43_1.length c_row43_1], .row (.slice A_row43_1 l_row43_1.length c_row43_1) 54 k_Level.sz l_row43_1.length cs_row43_1, .blk b30 54 [.int .i64 el13.W, .int .i64 el13.H, .slice A36 l39.length cp37], .row (.slice A36 l39.length cp37) 3 kInt.sz l39.length cs38] [RE.rd k_Level A1 cp2 a0.Levels, RE.chunks k_Level cs_row43_1 l_row43_1, RE.cells g18 (o19 + (y4_1).toNat * 3) [.int .i64 el13.W, .int .i64 el13.H, .slice A25 el13.Low.length cp26], RE.rd kInt A25 cp26 el13.Low, RE.chunks kInt cs38 l39]) => ?_))
    refine RL_nil ?_
    refine W_region ?_
    refine RL_pure (by exact wn0 rfl) (by rfl) (by rfl) (x_fieldAddr fo28_0 (by rfl)) ?_
    refine RL_pure (by exact wn0 rfl) (by rfl) (by rfl) (x_load (j := 0) (v := .slice A_row43_1 l_row43_1.length c_row43_1) sc26 (by rfl) (H.cells (i := 2) (by rfl)) (by rfl)) ?_
    refine RL_pure (by exact wn0 rfl) (by rfl) (by rfl) (x_loadA (j := 0) (vs := [.int .i64 el13.W, .int .i64 el13.H, .slice A36 l39.length cp37]) ag54 (by rfl) (H.cells (i := 4) (by rfl)) (by rfl) (by rfl)) ?_
    refine RL_cons (O_buildSlice (vs := [(0, .agg #[.int .i64 el13.W, .int .i64 el13.H, .slice A36 l39.length cp37])]) (cs := [.int .i64 el13.W, .int .i64 el13.H, .slice A36 l39.length cp37]) (by exact wn0 rfl) (by rfl) sl26 sz54 ze54 (by rfl) (by rfl) (by rfl) (by kernel_rfl) H (fun w44 b43 (H : Sep ok w w44 [.blk b5 28 [.slice A1 a0.Levels.length cp2], .blk b7 28 [.slice none 0 0], .blk b9 28 [.slice A_row43_1 l_row43_1.length c_row43_1], .row (.slice A_row43_1 l_row43_1.length c_row43_1) 54 k_Level.sz l_row43_1.length cs_row43_1, .blk b30 54 [.int .i64 el13.W, .int .i64 el13.H, .slice A36 l39.length cp37], .row (.slice A36 l39.length cp37) 3 kInt.sz l39.length cs38, .blk b43 54 [.int .i64 el13.W, .int .i64 el13.H, .slice A36 l39.length cp37]] [RE.rd k_Level A1 cp2 a0.Levels, RE.chunks k_Level cs_row43_1 l_row43_1, RE.cells g18 (o19 + (y4_1).toNat * 3) [.int .i64 el13.W, .int .i64 el13.H, .slice A25 el13.Low.length cp26], RE.rd kInt A25 cp26 el13.Low, RE.chunks kInt cs38 l39]) => ?_))
    obtain ⟨l49, hl50, hb51, hm⟩ := apd_some hm
    have H : Sep ok w w44 [.blk b5 28 [.slice A1 a0.Levels.length cp2], .blk b7 28 [.slice none 0 0], .blk b9 28 [.slice A_row43_1 l_row43_1.length c_row43_1], .row (.slice A_row43_1 l_row43_1.length c_row43_1) 54 k_Level.sz l_row43_1.length cs_row43_1, .blk b30 54 [.int .i64 el13.W, .int .i64 el13.H, .slice A36 l39.length cp37], .hole, .blk b43 54 [.int .i64 el13.W, .int .i64 el13.H, .slice A36 l39.length cp37]] [RE.rd k_Level A1 cp2 a0.Levels, RE.chunks k_Level cs_row43_1 l_row43_1, RE.cells g18 (o19 + (y4_1).toNat * 3) [.int .i64 el13.W, .int .i64 el13.H, .slice A25 el13.Low.length cp26], RE.rd kInt A25 cp26 el13.Low, RE.rd kInt A36 cp37 l39] := H.frozen (i := 5) (j := 4) (by rfl) (by rfl)
    refine RL_cons (O_append (D := k_Level) (i := 3) (j := 1) (o := 0) (y := (⟨el13.W, el13.H, l39⟩ : S_Level)) (by exact wn0 rfl) (by rfl) (by rfl) (by rfl) H (by rfl) (by rfl) (H.cells (i := 6) (by rfl)) (by exact ⟨A36, cp37, rfl, H.rd (i := 4) (by rfl)⟩) hl50 sl26 sz54 by54 ze54 (by rfl) (by rfl) hb51 (by rfl) (fun w45 A46 cp47 cs48 (H : Sep ok w w45 [.blk b5 28 [.slice A1 a0.Levels.length cp2], .blk b7 28 [.slice none 0 0], .blk b9 28 [.slice A_row43_1 l_row43_1.length c_row43_1], .row (.slice A46 l49.length cp47) 54 k_Level.sz l49.length cs48, .blk b30 54 [.int .i64 el13.W, .int .i64 el13.H, .slice A36 l39.length cp37], .hole, .blk b43 54 [.int .i64 el13.W, .int .i64 el13.H, .slice A36 l39.length cp37]] [RE.rd k_Level A1 cp2 a0.Levels, RE.chunks k_Level cs48 l49, RE.cells g18 (o19 + (y4_1).toNat * 3) [.int .i64 el13.W, .int .i64 el13.H, .slice A25 el13.Low.length cp26], RE.rd kInt A25 cp26 el13.Low, RE.rd kInt A36 cp37 l39]) => ?_))
    refine RL_pure (by exact wn0 rfl) (by rfl) (by rfl) (x_fieldAddr fo28_0 (by rfl)) ?_
    refine RL_cons (O_store (i := 2) (off := 0) (by exact wn0 rfl) (by rfl) (by rfl) H (by rfl) (vs := [.slice A46 l49.length cp47]) (by rfl) sz26 (by rfl) (by rfl) (by rfl) (fun w52 (H : Sep ok w w52 [.blk b5 28 [.slice A1 a0.Levels.length cp2], .blk b7 28 [.slice none 0 0], .blk b9 28 [.slice A46 l49.length cp47], .row (.slice A46 l49.length cp47) 54 k_Level.sz l49.length cs48, .blk b30 54 [.int .i64 el13.W, .int .i64 el13.H, .slice A36 l39.length cp37], .hole, .blk b43 54 [.int .i64 el13.W, .int .i64 el13.H, .slice A36 l39.length cp37]] [RE.rd k_Level A1 cp2 a0.Levels, RE.chunks k_Level cs48 l49, RE.cells g18 (o19 + (y4_1).toNat * 3) [.int .i64 el13.W, .int .i64 el13.H, .slice A25 el13.Low.length cp26], RE.rd kInt A25 cp26 el13.Low, RE.rd kInt A36 cp37 l39]) => ?_))
    refine RL_nil ?_
    refine W_region ?_
    refine RL_pure (by exact wn0 rfl) (by rfl) (by rfl) (x_move (v := .int .i64 y4_1) (by rfl)) ?_
    obtain ⟨x53, ex53, qx53, ux53, hm⟩ := ck_some hm
    refine RL_pure (by exact wn0 rfl) (by rfl) (by rfl) (x_add (by rfl) (by rfl) ux53) ?_
    refine RL_pure (by exact wn0 rfl) (by rfl) (by rfl) (x_assign (v := .int .i64 x53) (by rfl)) ?_
    refine RL_nil ?_
    subst hrec1
    exact ⟨k1, Nat.lt_succ_self k1, l49, x53, A46, cp47, cs48, hm, ⟨rfl, rfl, rfl, rfl, trivial⟩, ((H).takeL 4).pick [0, 1]⟩
   ·have hm := cond_f hb hm
    refine W_exit ?_
    refine W_seq ?_
    refine W_region ?_
    refine RL_pure (by exact wn0 rfl) (by rfl) (by rfl) (x_loadA (j := 0) (vs := [.slice A_row43_1 l_row43_1.length c_row43_1]) ag28 (by rfl) (H.cells (i := 2) (by rfl)) (by rfl) (by rfl)) ?_
    refine RL_cons (O_store (i := 1) (off := 0) (by exact wn0 rfl) (by rfl) (by rfl) H (by rfl) (vs := [.slice A_row43_1 l_row43_1.length c_row43_1]) (by rfl) sz28 (by rfl) (by rfl) (by rfl) (fun w54 (H : Sep ok w w54 [.blk b5 28 [.slice A1 a0.Levels.length cp2], .blk b7 28 [.slice A_row43_1 l_row43_1.length c_row43_1], .blk b9 28 [.slice A_row43_1 l_row43_1.length c_row43_1], .row (.slice A_row43_1 l_row43_1.length c_row43_1) 54 k_Level.sz l_row43_1.length cs_row43_1] [RE.rd k_Level A1 cp2 a0.Levels, RE.chunks k_Level cs_row43_1 l_row43_1]) => ?_))
    refine RL_nil ?_
    refine W_ret ?_
    have H : Sep ok w w54 [.blk b5 28 [.slice A1 a0.Levels.length cp2], .blk b7 28 [.slice A_row43_1 l_row43_1.length c_row43_1], .blk b9 28 [.slice A_row43_1 l_row43_1.length c_row43_1], .hole] [RE.rd k_Level A1 cp2 a0.Levels, RE.rd k_Level A_row43_1 c_row43_1 l_row43_1] := H.frozen (i := 3) (j := 1) (by rfl) (by rfl)
    obtain rfl := Option.some.inj hm
    exact ⟨[.agg #[.slice A_row43_1 l_row43_1.length c_row43_1]], (.cellA (by rfl) ag28 (H.cells (i := 1) (by rfl)) (by rfl) rfl), A_row43_1, c_row43_1, rfl, (H.forgetAll).pick [1]⟩
end Go.Proofs.YtobkigllalbkiaaV.M

/- A plain Lean function that answers as the Go function does (none: not told), and the proof that a call answers so. Written by program. -/
set_option linter.unusedVariables false
namespace Go.Proofs.YtobkigllalbkiaaV.M
open Go.RowKit Go.Proofs.YtobkigllalbkiaaV
/-- diorama/dioramaref25.deep -/
def m131 (K : Nat) (a0 : Int) : Option (Bool) :=
 ((bif (decide ((-1024) ≤ a0)) then some (decide (a0 ≤ 66560)) else some false).bind fun b1 => some b1)
set_option maxRecDepth 100000 in
set_option maxHeartbeats 4000000 in
theorem c131 (ok : Okp) (K : Nat) (w : World) (a0 : Int)  (res : Bool) (hm : m131 K a0 = some res) :
  Calls Try.prog 131 #[.int .i64 a0] w (fun e w' => e = .returned (tup [.bool res]) ∧ Sep ok w w' [] []) := by
 refine calls_W (args := [.int .i64 a0]) Try.func131 rfl Try.ntmps131 Try.results131 rfl fun r hr => ?_
 obtain ⟨r1, rfl⟩ := regen (r := r) [(0, .int .i64 a0)] ⟨hr 0 _ rfl, trivial⟩
 have H : Sep ok w w [] [] := Sep.start ok w
 unfold m131 at hm
 refine W_seq ?_
 refine W_region ?_
 refine RL_pure (by exact wn0 rfl) (by rfl) (by rfl) (x_assign (v := .bool false) (by rfl)) ?_
 refine RL_nil ?_
 refine W_seq ?_
 refine W_region ?_
 refine RL_pure (by exact wn0 rfl) (by rfl) (by rfl) (x_move (v := .int .i64 a0) (by rfl)) ?_
 refine RL_pure (by exact wn0 rfl) (by rfl) (by rfl) (x_geq (by rfl) (by rfl)) ?_
 refine RL_pure (by exact wn0 rfl) (by rfl) (by rfl) (x_move (v := .bool (decide ((-1024) ≤ a0))) (by rfl)) ?_
 obtain ⟨b1, hmS, hm⟩ := bind_some hm
 refine RL_cut 3 (fun r' w' => Agr [(8, .bool b1)] r' ∧ Sep ok w w' [] []) ?_ ?_
 ·cases hbS : (decide ((-1024) ≤ a0))
  ·have hm := cond_f hbS hmS
   refine RL_cons (OpR_off (by exact wn2 rfl rfl rfl rfl) (by rfl) (by rfl) ?_)
   refine RL_cons (OpR_off (by exact wn2 rfl rfl rfl rfl) (by rfl) (by rfl) ?_)
   refine RL_pure (by exact wn0 rfl) (by rfl) (by rfl) (x_pick_f (v := .bool false) (by rfl) (by rfl)) ?_
   refine RL_nil ?_
   exact ⟨⟨congrArg Value.bool (Option.some.inj hm), trivial⟩, H⟩
  ·have hm := cond_t hbS hmS
   refine RL_pure (by exact wn1 rfl rfl rfl rfl) (by rfl) (by rfl) (x_move (v := .int .i64 a0) (by rfl)) ?_
   refine RL_pure (by exact wn1 rfl rfl rfl rfl) (by rfl) (by rfl) (x_leq (by rfl) (by rfl)) ?_
   refine RL_pure (by exact wn0 rfl) (by rfl) (by rfl) (x_pick_t (v := .bool (decide (a0 ≤ 66560))) (by rfl) (by rfl)) ?_
   refine RL_nil ?_
   exact ⟨⟨congrArg Value.bool (Option.some.inj hm), trivial⟩, H⟩
 ·rintro r' w' ⟨hA, H⟩
  obtain ⟨r2, rfl⟩ := regen _ hA; clear hA
  obtain ⟨w3, rfl⟩ : ∃ W : World, W = w' := ⟨_, rfl⟩
  show RL _ _ _ _ _ _ _
  refine RL_pure (by exact wn0 rfl) (by rfl) (by rfl) (x_assign (v := .bool b1) (by rfl)) ?_
  refine RL_nil ?_
  refine W_ret ?_
  obtain rfl := Option.some.inj hm
  exact ⟨[.bool b1], (.tmp (by rfl) rfl), rfl, H.none_⟩
end Go.Proofs.YtobkigllalbkiaaV.M

/- A plain Lean function that answers as the Go function does (none: not told), and the proof that a call answers so. Written by program. -/
set_option linter.unusedVariables false
namespace Go.Proofs.YtobkigllalbkiaaV.M
open Go.RowKit Go.Proofs.YtobkigllalbkiaaV
/-- diorama/dioramaref25.somebody -/
def m110 (K : Nat) (a0 : Int) (a1 : Int) (a2 : Int) : Option (Bool) :=
 ((m131 K a0).bind fun v2 => ((bif v2 then some (decide (0 ≤ a1)) else some false).bind fun b4 => ((bif b4 then some (decide (a1 < 256)) else some false).bind fun b7 => ((bif b7 then some (decide (0 ≤ a2)) else some false).bind fun b10 => ((bif b10 then some (decide (a2 < 64)) else some false).bind fun b13 => some b13)))))
set_option maxRecDepth 100000 in
set_option maxHeartbeats 4000000 in
theorem c110 (ok : Okp) (K : Nat) (w : World) (a0 : Int) (a1 : Int) (a2 : Int)  (res : Bool) (hm : m110 K a0 a1 a2 = some res) :
  Calls Try.prog 110 #[.int .i64 a0, .int .i64 a1, .int .i64 a2] w (fun e w' => e = .returned (tup [.bool res]) ∧ Sep ok w w' [] []) := by
 refine calls_W (args := [.int .i64 a0, .int .i64 a1, .int .i64 a2]) Try.func110 rfl Try.ntmps110 Try.results110 rfl fun r hr => ?_
 obtain ⟨r1, rfl⟩ := regen (r := r) [(0, .int .i64 a0), (1, .int .i64 a1), (2, .int .i64 a2)] ⟨hr 0 _ rfl, hr 1 _ rfl, hr 2 _ rfl, trivial⟩
 have H : Sep ok w w [] [] := Sep.start ok w
 unfold m110 at hm
 refine W_seq ?_
 refine W_region ?_
 refine RL_pure (by exact wn0 rfl) (by rfl) (by rfl) (x_assign (v := .bool false) (by rfl)) ?_
 refine RL_nil ?_
 refine W_seq ?_
 refine W_region ?_
 refine RL_pure (by exact wn0 rfl) (by rfl) (by rfl) (x_move (v := .int .i64 a0) (by rfl)) ?_
 obtain ⟨v2, hv1, hm⟩ := bind_some hm
 refine RL_cons (O_call (by exact wn0 rfl) (by rfl) (by rfl) (x_callL (by rfl) (args := [.int .i64 a0]) (by rfl) (cf131 _ _)) (c131 okT K w a0  v2 hv1) ?_)
 rintro e w3 ⟨rfl, H2⟩
 have H : Sep ok w w3 [] [] := H.below H2.base
 clear H2
 refine ⟨_, rfl, ?_⟩
 show RL _ _ _ _ _ _ _
 refine RL_pure (by exact wn0 rfl) (by rfl) (by rfl) (x_move (v := .bool v2) (by rfl)) ?_
 obtain ⟨b4, hmS, hm⟩ := bind_some hm
 refine RL_cut 3 (fun r' w' => Agr [(12, .bool b4), (1, .int .i64 a1), (2, .int .i64 a2)] r' ∧ Sep ok w w' [] []) ?_ ?_
 ·cases hbS : v2
  ·have hm := cond_f hbS hmS
   refine RL_cons (OpR_off (by exact wn2 rfl rfl rfl rfl) (by rfl) (by rfl) ?_)
   refine RL_cons (OpR_off (by exact wn2 rfl rfl rfl rfl) (by rfl) (by rfl) ?_)
   refine RL_pure (by exact wn0 rfl) (by rfl) (by rfl) (x_pick_f (v := .bool false) (by rfl) (by rfl)) ?_
   refine RL_nil ?_
   exact ⟨⟨congrArg Value.bool (Option.some.inj hm), rfl, rfl, trivial⟩, H⟩
  ·have hm := cond_t hbS hmS
   refine RL_pure (by exact wn1 rfl rfl rfl rfl) (by rfl) (by rfl) (x_move (v := .int .i64 a1) (by rfl)) ?_
   refine RL_pure (by exact wn1 rfl rfl rfl rfl) (by rfl) (by rfl) (x_geq (by rfl) (by rfl)) ?_
   refine RL_pure (by exact wn0 rfl) (by rfl) (by rfl) (x_pick_t (v := .bool (decide (0 ≤ a1))) (by rfl) (by rfl)) ?_
   refine RL_nil ?_
   exact ⟨⟨congrArg Value.bool (Option.some.inj hm), rfl, rfl, trivial⟩, H⟩
 ·rintro r' w' ⟨hA, H⟩
  obtain ⟨r5, rfl⟩ := regen _ hA; clear hA
  obtain ⟨w6, rfl⟩ : ∃ W : World, W = w' := ⟨_, rfl⟩
  show RL _ _ _ _ _ _ _
  refine RL_pure (by exact wn0 rfl) (by rfl) (by rfl) (x_move (v := .bool b4) (by rfl)) ?_
  obtain ⟨b7, hmS, hm⟩ := bind_some hm
  refine RL_cut 3 (fun r' w' => Agr [(16, .bool b7), (2, .int .i64 a2)] r' ∧ Sep ok w w' [] []) ?_ ?_
  ·cases hbS : b4
   ·have hm := cond_f hbS hmS
    refine RL_cons (OpR_off (by exact wn2 rfl rfl rfl rfl) (by rfl) (by rfl) ?_)
    refine RL_cons (OpR_off (by exact wn2 rfl rfl rfl rfl) (by rfl) (by rfl) ?_)
    refine RL_pure (by exact wn0 rfl) (by rfl) (by rfl) (x_pick_f (v := .bool false) (by rfl) (by rfl)) ?_
    refine RL_nil ?_
    exact ⟨⟨congrArg Value.bool (Option.some.inj hm), rfl, trivial⟩, H⟩
   ·have hm := cond_t hbS hmS
    refine RL_pure (by exact wn1 rfl rfl rfl rfl) (by rfl) (by rfl) (x_move (v := .int .i64 a1) (by rfl)) ?_
    refine RL_pure (by exact wn1 rfl rfl rfl rfl) (by rfl) (by rfl) (x_lss (by rfl) (by rfl)) ?_
    refine RL_pure (by exact wn0 rfl) (by rfl) (by rfl) (x_pick_t (v := .bool (decide (a1 < 256))) (by rfl) (by rfl)) ?_
    refine RL_nil ?_
    exact ⟨⟨congrArg Value.bool (Option.some.inj hm), rfl, trivial⟩, H⟩
  ·rintro r' w' ⟨hA, H⟩
   obtain ⟨r8, rfl⟩ := regen _ hA; clear hA
   obtain ⟨w9, rfl⟩ : ∃ W : World, W = w' := ⟨_, rfl⟩
   show RL _ _ _ _ _ _ _
   refine RL_pure (by exact wn0 rfl) (by rfl) (by rfl) (x_move (v := .bool b7) (by rfl)) ?_
   obtain ⟨b10, hmS, hm⟩ := bind_some hm
   refine RL_cut 3 (fun r' w' => Agr [(20, .bool b10), (2, .int .i64 a2)] r' ∧ Sep ok w w' [] []) ?_ ?_
   ·cases hbS : b7
    ·have hm := cond_f hbS hmS
     refine RL_cons (OpR_off (by exact wn2 rfl rfl rfl rfl) (by rfl) (by rfl) ?_)
     refine RL_cons (OpR_off (by exact wn2 rfl rfl rfl rfl) (by rfl) (by rfl) ?_)
     refine RL_pure (by exact wn0 rfl) (by rfl) (by rfl) (x_pick_f (v := .bool false) (by rfl) (by rfl)) ?_
     refine RL_nil ?_
     exact ⟨⟨congrArg Value.bool (Option.some.inj hm), rfl, trivial⟩, H⟩
    ·have hm := cond_t hbS hmS
     refine RL_pure (by exact wn1 rfl rfl rfl rfl) (by rfl) (by rfl) (x_move (v := .int .i64 a2) (by rfl)) ?_
     refine RL_pure (by exact wn1 rfl rfl rfl rfl) (by rfl) (by rfl) (x_geq (by rfl) (by rfl)) ?_
     refine RL_pure (by exact wn0 rfl) (by rfl) (by rfl) (x_pick_t (v := .bool (decide (0 ≤ a2))) (by rfl) (by rfl)) ?_
     refine RL_nil ?_
     exact ⟨⟨congrArg Value.bool (Option.some.inj hm), rfl, trivial⟩, H⟩
   ·rintro r' w' ⟨hA, H⟩
    obtain ⟨r11, rfl⟩ := regen _ hA; clear hA
    obtain ⟨w12, rfl⟩ : ∃ W : World, W = w' := ⟨_, rfl⟩
    show RL _ _ _ _ _ _ _
    refine RL_pure (by exact wn0 rfl) (by rfl) (by rfl) (x_move (v := .bool b10) (by rfl)) ?_
    obtain ⟨b13, hmS, hm⟩ := bind_some hm
    refine RL_cut 3 (fun r' w' => Agr [(24, .bool b13)] r' ∧ Sep ok w w' [] []) ?_ ?_
    ·cases hbS : b10
     ·have hm := cond_f hbS hmS
      refine RL_cons (OpR_off (by exact wn2 rfl rfl rfl rfl) (by rfl) (by rfl) ?_)
      refine RL_cons (OpR_off (by exact wn2 rfl rfl rfl rfl) (by rfl) (by rfl) ?_)
      refine RL_pure (by exact wn0 rfl) (by rfl) (by rfl) (x_pick_f (v := .bool false) (by rfl) (by rfl)) ?_
      refine RL_nil ?_
      exact ⟨⟨congrArg Value.bool (Option.some.inj hm), trivial⟩, H⟩
     ·have hm := cond_t hbS hmS
      refine RL_pure (by exact wn1 rfl rfl rfl rfl) (by rfl) (by rfl) (x_move (v := .int .i64 a2) (by rfl)) ?_
      refine RL_pure (by exact wn1 rfl rfl rfl rfl) (by rfl) (by rfl) (x_lss (by rfl) (by rfl)) ?_
      refine RL_pure (by exact wn0 rfl) (by rfl) (by rfl) (x_pick_t (v := .bool (decide (a2 < 64))) (by rfl) (by rfl)) ?_
      refine RL_nil ?_
      exact ⟨⟨congrArg Value.bool (Option.some.inj hm), trivial⟩, H⟩
    ·rintro r' w' ⟨hA, H⟩
     obtain ⟨r14, rfl⟩ := regen _ hA; clear hA
     obtain ⟨w15, rfl⟩ : ∃ W : World, W = w' := ⟨_, rfl⟩
     show RL _ _ _ _ _ _ _
     refine RL_pure (by exact wn0 rfl) (by rfl) (by rfl) (x_assign (v := .bool b13) (by rfl)) ?_
     refine RL_nil ?_
     refine W_ret ?_
     obtain rfl := Option.some.inj hm
     exact ⟨[.bool b13], (.tmp (by rfl) rfl), rfl, H.none_⟩
end Go.Proofs.YtobkigllalbkiaaV.M

/- A plain Lean function that answers as the Go function does (none: not told), and the proof that a call answers so. Written by program. -/
set_option linter.unusedVariables false
namespace Go.Proofs.YtobkigllalbkiaaV.M
open Go.RowKit Go.Proofs.YtobkigllalbkiaaV
def m60_l1b (K : Nat) (a0 : S_Frame) (x28 : Int) (rec1 : Int → Option (Bool)) (y4_1 : Int) : Option (Bool) :=
 (bif (decide (y4_1 < x28)) then (idx a0.Depth y4_1 fun el40 => ((bif (el40 == (-2048)) then (idx a0.Item y4_1 fun el48 => some (el48 == (-1))) else some false).bind fun b47 => ((bif b47 then (idx a0.Tri y4_1 fun el58 => some (el58 == (-1))) else some false).bind fun b57 => ((bif (!b57) then (idx a0.Depth y4_1 fun el69 => (idx a0.Item y4_1 fun el76 => (idx a0.Tri y4_1 fun el83 => ((m110 K el69 el76 el83).bind fun v91 => some (!v91))))) else some false).bind fun b68 => (bif b68 then some false else (ck (y4_1 + 1) fun x95 => (rec1 x95))))))) else some true)
def m60_l1 (K : Nat) (a0 : S_Frame) (x28 : Int) : Nat → Int → Option (Bool)
 | 0 => fun _ => none
 | k + 1 => m60_l1b K a0 x28 (m60_l1 K a0 x28 k)
/-- diorama/dioramaref25.May -/
def m60 (K : Nat) (a0 : S_Frame) : Option (Bool) :=
 ((bif (decide (a0.W < 1)) then some true else some (decide (64 < a0.W))).bind fun b19 => ((bif b19 then some true else some (decide (a0.H < 1))).bind fun b22 => ((bif b22 then some true else some (decide (64 < a0.H))).bind fun b25 => (bif b25 then some false else (ck (a0.W * a0.H) fun x28 => ((bif ((a0.Color.length : Int) != x28) then some true else some ((a0.Depth.length : Int) != x28)).bind fun b29 => ((bif b29 then some true else some ((a0.Item.length : Int) != x28)).bind fun b32 => ((bif b32 then some true else some ((a0.Tri.length : Int) != x28)).bind fun b35 => (bif b35 then some false else m60_l1 K a0 x28 K 0)))))))))
set_option maxRecDepth 100000 in
set_option maxHeartbeats 4000000 in
theorem c60 (ok : Okp) (K : Nat) (w : World) (a0 : S_Frame) (A1 : Option Addr) (cp2 : Nat) (A5 : Option Addr) (cp6 : Nat) (A9 : Option Addr) (cp10 : Nat) (A13 : Option Addr) (cp14 : Nat) (hR3 : Rd k_Ar4_Int w ok A1 cp2 a0.Color) (hR7 : Rd kInt w ok A5 cp6 a0.Depth) (hR11 : Rd kInt w ok A9 cp10 a0.Item) (hR15 : Rd kInt w ok A13 cp14 a0.Tri) (res : Bool) (hm : m60 K a0 = some res) :
  Calls Try.prog 60 #[.agg #[.int .i64 a0.W, .int .i64 a0.H, .slice A1 a0.Color.length cp2, .slice A5 a0.Depth.length cp6, .slice A9 a0.Item.length cp10, .slice A13 a0.Tri.length cp14]] w (fun e w' => e = .returned (tup [.bool res]) ∧ Sep ok w w' [] []) := by
 refine calls_W (args := [.agg #[.int .i64 a0.W, .int .i64 a0.H, .slice A1 a0.Color.length cp2, .slice A5 a0.Depth.length cp6, .slice A9 a0.Item.length cp10, .slice A13 a0.Tri.length cp14]]) Try.func60 rfl Try.ntmps60 Try.results60 rfl fun r hr => ?_
 obtain ⟨r1, rfl⟩ := regen (r := r) [(0, .agg #[.int .i64 a0.W, .int .i64 a0.H, .slice A1 a0.Color.length cp2, .slice A5 a0.Depth.length cp6, .slice A9 a0.Item.length cp10, .slice A13 a0.Tri.length cp14])] ⟨hr 0 _ rfl, trivial⟩
 have H : Sep ok w w [] [RE.rd k_Ar4_Int A1 cp2 a0.Color, RE.rd kInt A5 cp6 a0.Depth, RE.rd kInt A9 cp10 a0.Item, RE.rd kInt A13 cp14 a0.Tri] := Sep.arg (Sep.arg (Sep.arg (Sep.arg (Sep.start ok w) (re := RE.rd k_Ar4_Int A1 cp2 a0.Color) rfl rfl hR3) (re := RE.rd kInt A5 cp6 a0.Depth) rfl rfl hR7) (re := RE.rd kInt A9 cp10 a0.Item) rfl rfl hR11) (re := RE.rd kInt A13 cp14 a0.Tri) rfl rfl hR15
 unfold m60 at hm
 refine W_seq ?_
 refine W_region ?_
 refine RL_cons (O_box (by exact wn0 rfl) (by rfl) (by rfl) (by rfl) H (fun w18 b17 (H : Sep ok w w18 [.blk b17 25 [.int .i64 a0.W, .int .i64 a0.H, .slice A1 a0.Color.length cp2, .slice A5 a0.Depth.length cp6, .slice A9 a0.Item.length cp10, .slice A13 a0.Tri.length cp14]] [RE.rd k_Ar4_Int A1 cp2 a0.Color, RE.rd kInt A5 cp6 a0.Depth, RE.rd kInt A9 cp10 a0.Item, RE.rd kInt A13 cp14 a0.Tri]) => ?_))
 refine RL_pure (by exact wn0 rfl) (by rfl) (by rfl) (x_assign (v := .bool false) (by rfl)) ?_
 refine RL_nil ?_
 refine W_seq ?_
 refine W_seq ?_
 refine W_region ?_
 refine RL_pure (by exact wn0 rfl) (by rfl) (by rfl) (x_fieldAddr fo25_0 (by rfl)) ?_
 refine RL_pure (by exact wn0 rfl) (by rfl) (by rfl) (x_load (j := 0) (v := .int .i64 a0.W) sc3 (by rfl) (H.cells (i := 0) (by rfl)) (by rfl)) ?_
 refine RL_pure (by exact wn0 rfl) (by rfl) (by rfl) (x_lss (by rfl) (by rfl)) ?_
 refine RL_pure (by exact wn0 rfl) (by rfl) (by rfl) (x_move (v := .bool (decide (a0.W < 1))) (by rfl)) ?_
 obtain ⟨b19, hmS, hm⟩ := bind_some hm
 refine RL_cut 4 (fun r' w' => Agr [(13, .bool b19), (1, .pointer (some ⟨b17, 0, none⟩))] r' ∧ Sep ok w w' [.blk b17 25 [.int .i64 a0.W, .int .i64 a0.H, .slice A1 a0.Color.length cp2, .slice A5 a0.Depth.length cp6, .slice A9 a0.Item.length cp10, .slice A13 a0.Tri.length cp14]] [RE.rd k_Ar4_Int A1 cp2 a0.Color, RE.rd kInt A5 cp6 a0.Depth, RE.rd kInt A9 cp10 a0.Item, RE.rd kInt A13 cp14 a0.Tri]) ?_ ?_
 ·cases hbS : (decide (a0.W < 1))
  ·have hm := cond_f hbS hmS
   refine RL_pure (by exact wn1 rfl rfl rfl rfl) (by rfl) (by rfl) (x_fieldAddr fo25_0 (by rfl)) ?_
   refine RL_pure (by exact wn1 rfl rfl rfl rfl) (by rfl) (by rfl) (x_load (j := 0) (v := .int .i64 a0.W) sc3 (by rfl) (H.cells (i := 0) (by rfl)) (by rfl)) ?_
   refine RL_pure (by exact wn1 rfl rfl rfl rfl) (by rfl) (by rfl) (x_gtr (by rfl) (by rfl)) ?_
   refine RL_pure (by exact wn0 rfl) (by rfl) (by rfl) (x_pick_f (v := .bool (decide (64 < a0.W))) (by rfl) (by rfl)) ?_
   refine RL_nil ?_
   exact ⟨⟨congrArg Value.bool (Option.some.inj hm), rfl, trivial⟩, H⟩
  ·have hm := cond_t hbS hmS
   refine RL_cons (OpR_off (by exact wn2 rfl rfl rfl rfl) (by rfl) (by rfl) ?_)
   refine RL_cons (OpR_off (by exact wn2 rfl rfl rfl rfl) (by rfl) (by rfl) ?_)
   refine RL_cons (OpR_off (by exact wn2 rfl rfl rfl rfl) (by rfl) (by rfl) ?_)
   refine RL_pure (by exact wn0 rfl) (by rfl) (by rfl) (x_pick_t (v := .bool true) (by rfl) (by rfl)) ?_
   refine RL_nil ?_
   exact ⟨⟨congrArg Value.bool (Option.some.inj hm), rfl, trivial⟩, H⟩
 ·rintro r' w' ⟨hA, H⟩
  obtain ⟨r20, rfl⟩ := regen _ hA; clear hA
  obtain ⟨w21, rfl⟩ : ∃ W : World, W = w' := ⟨_, rfl⟩
  show RL _ _ _ _ _ _ _
  refine RL_pure (by exact wn0 rfl) (by rfl) (by rfl) (x_move (v := .bool b19) (by rfl)) ?_
  obtain ⟨b22, hmS, hm⟩ := bind_some hm
  refine RL_cut 4 (fun r' w' => Agr [(18, .bool b22), (1, .pointer (some ⟨b17, 0, none⟩))] r' ∧ Sep ok w w' [.blk b17 25 [.int .i64 a0.W, .int .i64 a0.H, .slice A1 a0.Color.length cp2, .slice A5 a0.Depth.length cp6, .slice A9 a0.Item.length cp10, .slice A13 a0.Tri.length cp14]] [RE.rd k_Ar4_Int A1 cp2 a0.Color, RE.rd kInt A5 cp6 a0.Depth, RE.rd kInt A9 cp10 a0.Item, RE.rd kInt A13 cp14 a0.Tri]) ?_ ?_
  ·cases hbS : b19
   ·have hm := cond_f hbS hmS
    refine RL_pure (by exact wn1 rfl rfl rfl rfl) (by rfl) (by rfl) (x_fieldAddr fo25_1 (by rfl)) ?_
    refine RL_pure (by exact wn1 rfl rfl rfl rfl) (by rfl) (by rfl) (x_load (j := 1) (v := .int .i64 a0.H) sc3 (by rfl) (H.cells (i := 0) (by rfl)) (by rfl)) ?_
    refine RL_pure (by exact wn1 rfl rfl rfl rfl) (by rfl) (by rfl) (x_lss (by rfl) (by rfl)) ?_
    refine RL_pure (by exact wn0 rfl) (by rfl) (by rfl) (x_pick_f (v := .bool (decide (a0.H < 1))) (by rfl) (by rfl)) ?_
    refine RL_nil ?_
    exact ⟨⟨congrArg Value.bool (Option.some.inj hm), rfl, trivial⟩, H⟩
   ·have hm := cond_t hbS hmS
    refine RL_cons (OpR_off (by exact wn2 rfl rfl rfl rfl) (by rfl) (by rfl) ?_)
    refine RL_cons (OpR_off (by exact wn2 rfl rfl rfl rfl) (by rfl) (by rfl) ?_)
    refine RL_cons (OpR_off (by exact wn2 rfl rfl rfl rfl) (by rfl) (by rfl) ?_)
    refine RL_pure (by exact wn0 rfl) (by rfl) (by rfl) (x_pick_t (v := .bool true) (by rfl) (by rfl)) ?_
    refine RL_nil ?_
    exact ⟨⟨congrArg Value.bool (Option.some.inj hm), rfl, trivial⟩, H⟩
  ·rintro r' w' ⟨hA, H⟩
   obtain ⟨r23, rfl⟩ := regen _ hA; clear hA
   obtain ⟨w24, rfl⟩ : ∃ W : World, W = w' := ⟨_, rfl⟩
   show RL _ _ _ _ _ _ _
   refine RL_pure (by exact wn0 rfl) (by rfl) (by rfl) (x_move (v := .bool b22) (by rfl)) ?_
   obtain ⟨b25, hmS, hm⟩ := bind_some hm
   refine RL_cut 4 (fun r' w' => Agr [(23, .bool b25), (1, .pointer (some ⟨b17, 0, none⟩))] r' ∧ Sep ok w w' [.blk b17 25 [.int .i64 a0.W, .int .i64 a0.H, .slice A1 a0.Color.length cp2, .slice A5 a0.Depth.length cp6, .slice A9 a0.Item.length cp10, .slice A13 a0.Tri.length cp14]] [RE.rd k_Ar4_Int A1 cp2 a0.Color, RE.rd kInt A5 cp6 a0.Depth, RE.rd kInt A9 cp10 a0.Item, RE.rd kInt A13 cp14 a0.Tri]) ?_ ?_
   ·cases hbS : b22
    ·have hm := cond_f hbS hmS
     refine RL_pure (by exact wn1 rfl rfl rfl rfl) (by rfl) (by rfl) (x_fieldAddr fo25_1 (by rfl)) ?_
     refine RL_pure (by exact wn1 rfl rfl rfl rfl) (by rfl) (by rfl) (x_load (j := 1) (v := .int .i64 a0.H) sc3 (by rfl) (H.cells (i := 0) (by rfl)) (by rfl)) ?_
     refine RL_pure (by exact wn1 rfl rfl rfl rfl) (by rfl) (by rfl) (x_gtr (by rfl) (by rfl)) ?_
     refine RL_pure (by exact wn0 rfl) (by rfl) (by rfl) (x_pick_f (v := .bool (decide (64 < a0.H))) (by rfl) (by rfl)) ?_
     refine RL_nil ?_
     exact ⟨⟨congrArg Value.bool (Option.some.inj hm), rfl, trivial⟩, H⟩
    ·have hm := cond_t hbS hmS
     refine RL_cons (OpR_off (by exact wn2 rfl rfl rfl rfl) (by rfl) (by rfl) ?_)
     refine RL_cons (OpR_off (by exact wn2 rfl rfl rfl rfl) (by rfl) (by rfl) ?_)
     refine RL_cons (OpR_off (by exact wn2 rfl rfl rfl rfl) (by rfl) (by rfl) ?_)
     refine RL_pure (by exact wn0 rfl) (by rfl) (by rfl) (x_pick_t (v := .bool true) (by rfl) (by rfl)) ?_
     refine RL_nil ?_
     exact ⟨⟨congrArg Value.bool (Option.some.inj hm), rfl, trivial⟩, H⟩
   ·rintro r' w' ⟨hA, H⟩
    obtain ⟨r26, rfl⟩ := regen _ hA; clear hA
    obtain ⟨w27, rfl⟩ : ∃ W : World, W = w' := ⟨_, rfl⟩
    show RL _ _ _ _ _ _ _
    refine RL_nil ?_
    refine W_cond (by rfl) (fun hb => ?_) (fun hb => ?_)
    ·have hm := cond_t hb hm
     refine W_seq ?_
     refine W_region ?_
     refine RL_pure (by exact wn0 rfl) (by rfl) (by rfl) (x_assign (v := .bool false) (by rfl)) ?_
     refine RL_nil ?_
     refine W_ret ?_
     obtain rfl := Option.some.inj hm
     exact ⟨[.bool false], (.tmp (by rfl) rfl), rfl, H.none_⟩
    ·have hm := cond_f hb hm
     refine W_skip ?_
     refine W_seq ?_
     refine W_region ?_
     refine RL_pure (by exact wn0 rfl) (by rfl) (by rfl) (x_fieldAddr fo25_0 (by rfl)) ?_
     refine RL_pure (by exact wn0 rfl) (by rfl) (by rfl) (x_load (j := 0) (v := .int .i64 a0.W) sc3 (by rfl) (H.cells (i := 0) (by rfl)) (by rfl)) ?_
     refine RL_pure (by exact wn0 rfl) (by rfl) (by rfl) (x_fieldAddr fo25_1 (by rfl)) ?_
     refine RL_pure (by exact wn0 rfl) (by rfl) (by rfl) (x_load (j := 1) (v := .int .i64 a0.H) sc3 (by rfl) (H.cells (i := 0) (by rfl)) (by rfl)) ?_
     obtain ⟨x28, ex28, qx28, ux28, hm⟩ := ck_some hm
     refine RL_pure (by exact wn0 rfl) (by rfl) (by rfl) (x_mul (by rfl) (by rfl) ux28) ?_
     refine RL_pure (by exact wn0 rfl) (by rfl) (by rfl) (x_assign (v := .int .i64 x28) (by rfl)) ?_
     refine RL_nil ?_
     refine W_seq ?_
     refine W_seq ?_
     refine W_region ?_
     refine RL_pure (by exact wn0 rfl) (by rfl) (by rfl) (x_fieldAddr fo25_2 (by rfl)) ?_
     refine RL_pure (by exact wn0 rfl) (by rfl) (by rfl) (x_load (j := 2) (v := .slice A1 a0.Color.length cp2) sc22 (by rfl) (H.cells (i := 0) (by rfl)) (by rfl)) ?_
     refine RL_pure (by exact wn0 rfl) (by rfl) (by rfl) (x_len sl22 (by rfl)) ?_
     refine RL_pure (by exact wn0 rfl) (by rfl) (by rfl) (x_move (v := .int .i64 x28) (by rfl)) ?_
     refine RL_pure (by exact wn0 rfl) (by rfl) (by rfl) (x_neq (by rfl) (by rfl)) ?_
     refine RL_pure (by exact wn0 rfl) (by rfl) (by rfl) (x_move (v := .bool ((a0.Color.length : Int) != x28)) (by rfl)) ?_
     obtain ⟨b29, hmS, hm⟩ := bind_some hm
     refine RL_cut 6 (fun r' w' => Agr [(40, .bool b29), (1, .pointer (some ⟨b17, 0, none⟩)), (3, .int .i64 x28)] r' ∧ Sep ok w w' [.blk b17 25 [.int .i64 a0.W, .int .i64 a0.H, .slice A1 a0.Color.length cp2, .slice A5 a0.Depth.length cp6, .slice A9 a0.Item.length cp10, .slice A13 a0.Tri.length cp14]] [RE.rd k_Ar4_Int A1 cp2 a0.Color, RE.rd kInt A5 cp6 a0.Depth, RE.rd kInt A9 cp10 a0.Item, RE.rd kInt A13 cp14 a0.Tri]) ?_ ?_
     ·cases hbS : ((a0.Color.length : Int) != x28)
      ·have hm := cond_f hbS hmS
       refine RL_pure (by exact wn1 rfl rfl rfl rfl) (by rfl) (by rfl) (x_fieldAddr fo25_3 (by rfl)) ?_
       refine RL_pure (by exact wn1 rfl rfl rfl rfl) (by rfl) (by rfl) (x_load (j := 3) (v := .slice A5 a0.Depth.length cp6) sc23 (by rfl) (H.cells (i := 0) (by rfl)) (by rfl)) ?_
       refine RL_pure (by exact wn1 rfl rfl rfl rfl) (by rfl) (by rfl) (x_len sl23 (by rfl)) ?_
       refine RL_pure (by exact wn1 rfl rfl rfl rfl) (by rfl) (by rfl) (x_move (v := .int .i64 x28) (by rfl)) ?_
       refine RL_pure (by exact wn1 rfl rfl rfl rfl) (by rfl) (by rfl) (x_neq (by rfl) (by rfl)) ?_
       refine RL_pure (by exact wn0 rfl) (by rfl) (by rfl) (x_pick_f (v := .bool ((a0.Depth.length : Int) != x28)) (by rfl) (by rfl)) ?_
       refine RL_nil ?_
       exact ⟨⟨congrArg Value.bool (Option.some.inj hm), rfl, rfl, trivial⟩, H⟩
      ·have hm := cond_t hbS hmS
       refine RL_cons (OpR_off (by exact wn2 rfl rfl rfl rfl) (by rfl) (by rfl) ?_)
       refine RL_cons (OpR_off (by exact wn2 rfl rfl rfl rfl) (by rfl) (by rfl) ?_)
       refine RL_cons (OpR_off (by exact wn2 rfl rfl rfl rfl) (by rfl) (by rfl) ?_)
       refine RL_cons (OpR_off (by exact wn2 rfl rfl rfl rfl) (by rfl) (by rfl) ?_)
       refine RL_cons (OpR_off (by exact wn2 rfl rfl rfl rfl) (by rfl) (by rfl) ?_)
       refine RL_pure (by exact wn0 rfl) (by rfl) (by rfl) (x_pick_t (v := .bool true) (by rfl) (by rfl)) ?_
       refine RL_nil ?_
       exact ⟨⟨congrArg Value.bool (Option.some.inj hm), rfl, rfl, trivial⟩, H⟩
     ·rintro r' w' ⟨hA, H⟩
      obtain ⟨r30, rfl⟩ := regen _ hA; clear hA
      obtain ⟨w31, rfl⟩ : ∃ W : World, W = w' := ⟨_, rfl⟩
      show RL _ _ _ _ _ _ _
      refine RL_pure (by exact wn0 rfl) (by rfl) (by rfl) (x_move (v := .bool b29) (by rfl)) ?_
      obtain ⟨b32, hmS, hm⟩ := bind_some hm
      refine RL_cut 6 (fun r' w' => Agr [(47, .bool b32), (1, .pointer (some ⟨b17, 0, none⟩)), (3, .int .i64 x28)] r' ∧ Sep ok w w' [.blk b17 25 [.int .i64 a0.W, .int .i64 a0.H, .slice A1 a0.Color.length cp2, .slice A5 a0.Depth.length cp6, .slice A9 a0.Item.length cp10, .slice A13 a0.Tri.length cp14]] [RE.rd k_Ar4_Int A1 cp2 a0.Color, RE.rd kInt A5 cp6 a0.Depth, RE.rd kInt A9 cp10 a0.Item, RE.rd kInt A13 cp14 a0.Tri]) ?_ ?_
      ·cases hbS : b29
       ·have hm := cond_f hbS hmS
        refine RL_pure (by exact wn1 rfl rfl rfl rfl) (by rfl) (by rfl) (x_fieldAddr fo25_4 (by rfl)) ?_
        refine RL_pure (by exact wn1 rfl rfl rfl rfl) (by rfl) (by rfl) (x_load (j := 4) (v := .slice A9 a0.Item.length cp10) sc23 (by rfl) (H.cells (i := 0) (by rfl)) (by rfl)) ?_
        refine RL_pure (by exact wn1 rfl rfl rfl rfl) (by rfl) (by rfl) (x_len sl23 (by rfl)) ?_
        refine RL_pure (by exact wn1 rfl rfl rfl rfl) (by rfl) (by rfl) (x_move (v := .int .i64 x28) (by rfl)) ?_
        refine RL_pure (by exact wn1 rfl rfl rfl rfl) (by rfl) (by rfl) (x_neq (by rfl) (by rfl)) ?_
        refine RL_pure (by exact wn0 rfl) (by rfl) (by rfl) (x_pick_f (v := .bool ((a0.Item.length : Int) != x28)) (by rfl) (by rfl)) ?_
        refine RL_nil ?_
        exact ⟨⟨congrArg Value.bool (Option.some.inj hm), rfl, rfl, trivial⟩, H⟩
       ·have hm := cond_t hbS hmS
        refine RL_cons (OpR_off (by exact wn2 rfl rfl rfl rfl) (by rfl) (by rfl) ?_)
        refine RL_cons (OpR_off (by exact wn2 rfl rfl rfl rfl) (by rfl) (by rfl) ?_)
        refine RL_cons (OpR_off (by exact wn2 rfl rfl rfl rfl) (by rfl) (by rfl) ?_)
        refine RL_cons (OpR_off (by exact wn2 rfl rfl rfl rfl) (by rfl) (by rfl) ?_)
        refine RL_cons (OpR_off (by exact wn2 rfl rfl rfl rfl) (by rfl) (by rfl) ?_)
        refine RL_pure (by exact wn0 rfl) (by rfl) (by rfl) (x_pick_t (v := .bool true) (by rfl) (by rfl)) ?_
        refine RL_nil ?_
        exact ⟨⟨congrArg Value.bool (Option.some.inj hm), rfl, rfl, trivial⟩, H⟩
      ·rintro r' w' ⟨hA, H⟩
       obtain ⟨r33, rfl⟩ := regen _ hA; clear hA
       obtain ⟨w34, rfl⟩ : ∃ W : World, W = w' := ⟨_, rfl⟩
       show RL _ _ _ _ _ _ _
       refine RL_pure (by exact wn0 rfl) (by rfl) (by rfl) (x_move (v := .bool b32) (by rfl)) ?_
       obtain ⟨b35, hmS, hm⟩ := bind_some hm
       refine RL_cut 6 (fun r' w' => Agr [(54, .bool b35), (1, .pointer (some ⟨b17, 0, none⟩)), (3, .int .i64 x28)] r' ∧ Sep ok w w' [.blk b17 25 [.int .i64 a0.W, .int .i64 a0.H, .slice A1 a0.Color.length cp2, .slice A5 a0.Depth.length cp6, .slice A9 a0.Item.length cp10, .slice A13 a0.Tri.length cp14]] [RE.rd k_Ar4_Int A1 cp2 a0.Color, RE.rd kInt A5 cp6 a0.Depth, RE.rd kInt A9 cp10 a0.Item, RE.rd kInt A13 cp14 a0.Tri]) ?_ ?_
       ·cases hbS : b32
        ·have hm := cond_f hbS hmS
         refine RL_pure (by exact wn1 rfl rfl rfl rfl) (by rfl) (by rfl) (x_fieldAddr fo25_5 (by rfl)) ?_
         refine RL_pure (by exact wn1 rfl rfl rfl rfl) (by rfl) (by rfl) (x_load (j := 5) (v := .slice A13 a0.Tri.length cp14) sc23 (by rfl) (H.cells (i := 0) (by rfl)) (by rfl)) ?_
         refine RL_pure (by exact wn1 rfl rfl rfl rfl) (by rfl) (by rfl) (x_len sl23 (by rfl)) ?_
         refine RL_pure (by exact wn1 rfl rfl rfl rfl) (by rfl) (by rfl) (x_move (v := .int .i64 x28) (by rfl)) ?_
         refine RL_pure (by exact wn1 rfl rfl rfl rfl) (by rfl) (by rfl) (x_neq (by rfl) (by rfl)) ?_
         refine RL_pure (by exact wn0 rfl) (by rfl) (by rfl) (x_pick_f (v := .bool ((a0.Tri.length : Int) != x28)) (by rfl) (by rfl)) ?_
         refine RL_nil ?_
         exact ⟨⟨congrArg Value.bool (Option.some.inj hm), rfl, rfl, trivial⟩, H⟩
        ·have hm := cond_t hbS hmS
         refine RL_cons (OpR_off (by exact wn2 rfl rfl rfl rfl) (by rfl) (by rfl) ?_)
         refine RL_cons (OpR_off (by exact wn2 rfl rfl rfl rfl) (by rfl) (by rfl) ?_)
         refine RL_cons (OpR_off (by exact wn2 rfl rfl rfl rfl) (by rfl) (by rfl) ?_)
         refine RL_cons (OpR_off (by exact wn2 rfl rfl rfl rfl) (by rfl) (by rfl) ?_)
         refine RL_cons (OpR_off (by exact wn2 rfl rfl rfl rfl) (by rfl) (by rfl) ?_)
         refine RL_pure (by exact wn0 rfl) (by rfl) (by rfl) (x_pick_t (v := .bool true) (by rfl) (by rfl)) ?_
         refine RL_nil ?_
         exact ⟨⟨congrArg Value.bool (Option.some.inj hm), rfl, rfl, trivial⟩, H⟩
       ·rintro r' w' ⟨hA, H⟩
        obtain ⟨r36, rfl⟩ := regen _ hA; clear hA
        obtain ⟨w37, rfl⟩ : ∃ W : World, W = w' := ⟨_, rfl⟩
        show RL _ _ _ _ _ _ _
        refine RL_nil ?_
        refine W_cond (by rfl) (fun hb => ?_) (fun hb => ?_)
        ·have hm := cond_t hb hm
         refine W_seq ?_
         refine W_region ?_
         refine RL_pure (by exact wn0 rfl) (by rfl) (by rfl) (x_assign (v := .bool false) (by rfl)) ?_
         refine RL_nil ?_
         refine W_ret ?_
         obtain rfl := Option.some.inj hm
         exact ⟨[.bool false], (.tmp (by rfl) rfl), rfl, H.none_⟩
        ·have hm := cond_f hb hm
         refine W_skip ?_
         refine W_seq ?_
         refine W_seq ?_
         refine W_region ?_
         refine RL_pure (by exact wn0 rfl) (by rfl) (by rfl) (x_assign (v := .int .i64 0) (by rfl)) ?_
         refine RL_nil ?_
         refine W_block ?_
         refine W_loop (fun k1 r' w' => ∃ (y4_1 : Int), m60_l1 K a0 x28 k1 y4_1 = some res ∧ Agr [(1, .pointer (some ⟨b17, 0, none⟩)), (3, .int .i64 x28), (4, .int .i64 y4_1)] r' ∧ Sep ok w w' [.blk b17 25 [.int .i64 a0.W, .int .i64 a0.H, .slice A1 a0.Color.length cp2, .slice A5 a0.Depth.length cp6, .slice A9 a0.Item.length cp10, .slice A13 a0.Tri.length cp14]] [RE.rd k_Ar4_Int A1 cp2 a0.Color, RE.rd kInt A5 cp6 a0.Depth, RE.rd kInt A9 cp10 a0.Item, RE.rd kInt A13 cp14 a0.Tri]) K ?_ ?_
         ·exact ⟨0, hm, ⟨rfl, rfl, rfl, trivial⟩, H⟩
         ·rintro k1 r' w' ⟨y4_1, hm, hA, H⟩
          obtain ⟨r38, rfl⟩ := regen _ hA; clear hA
          obtain ⟨w39, rfl⟩ : ∃ W : World, W = w' := ⟨_, rfl⟩
          cases k1 with
          | zero => exact (none_some hm).elim
          | succ k1 =>
           have hm : m60_l1b K a0 x28 (m60_l1 K a0 x28 k1) y4_1 = some res := hm
           unfold m60_l1b at hm
           obtain ⟨rec1, hrec1⟩ : ∃ f, m60_l1 K a0 x28 k1 = f := ⟨_, rfl⟩
           rw [hrec1] at hm
           refine W_seq ?_
           refine W_seq ?_
           refine W_region ?_
           refine RL_pure (by exact wn0 rfl) (by rfl) (by rfl) (x_move (v := .int .i64 y4_1) (by rfl)) ?_
           refine RL_pure (by exact wn0 rfl) (by rfl) (by rfl) (x_move (v := .int .i64 x28) (by rfl)) ?_
           refine RL_pure (by exact wn0 rfl) (by rfl) (by rfl) (x_lss (by rfl) (by rfl)) ?_
           refine RL_nil ?_
           refine W_cond (by rfl) (fun hb => ?_) (fun hb => ?_)
           ·have hm := cond_t hb hm
            refine W_skip ?_
            refine W_seq ?_
            refine W_block ?_
            refine W_seq ?_
            refine W_region ?_
            refine RL_pure (by exact wn0 rfl) (by rfl) (by rfl) (x_fieldAddr fo25_3 (by rfl)) ?_
            refine RL_pure (by exact wn0 rfl) (by rfl) (by rfl) (x_load (j := 3) (v := .slice A5 a0.Depth.length cp6) sc23 (by rfl) (H.cells (i := 0) (by rfl)) (by rfl)) ?_
            refine RL_pure (by exact wn0 rfl) (by rfl) (by rfl) (x_move (v := .int .i64 y4_1) (by rfl)) ?_
            obtain ⟨el40, h41, h42, he43, hm⟩ := idx_some hm
            obtain ⟨g45, o46, hA44⟩ := (H.rd (i := 1) (by rfl)).addr he43
            refine RL_pure (by exact wn0 rfl) (by rfl) (by rfl) (x_indexAddr sl23 sz3 (by rfl) (by rfl) hA44 h41 h42) ?_
            refine RL_pure (by exact wn0 rfl) (by rfl) (by rfl) (x_load (j := 0) (v := .int .i64 el40) sc3 (by rfl) (Rd.flatAt (n := 1) (H.rd (i := 1) (by rfl)) hA44 he43) (by rfl)) ?_
            refine RL_pure (by exact wn0 rfl) (by rfl) (by rfl) (x_eql (by rfl) (by rfl)) ?_
            refine RL_pure (by exact wn0 rfl) (by rfl) (by rfl) (x_move (v := .bool (el40 == (-2048))) (by rfl)) ?_
            obtain ⟨b47, hmS, hm⟩ := bind_some hm
            refine RL_cut 7 (fun r' w' => Agr [(73, .bool b47), (1, .pointer (some ⟨b17, 0, none⟩)), (3, .int .i64 x28), (4, .int .i64 y4_1)] r' ∧ Sep ok w w' [.blk b17 25 [.int .i64 a0.W, .int .i64 a0.H, .slice A1 a0.Color.length cp2, .slice A5 a0.Depth.length cp6, .slice A9 a0.Item.length cp10, .slice A13 a0.Tri.length cp14]] [RE.rd k_Ar4_Int A1 cp2 a0.Color, RE.rd kInt A5 cp6 a0.Depth, RE.rd kInt A9 cp10 a0.Item, RE.rd kInt A13 cp14 a0.Tri]) ?_ ?_
            ·cases hbS : (el40 == (-2048))
             ·have hm := cond_f hbS hmS
              refine RL_cons (OpR_off (by exact wn2 rfl rfl rfl rfl) (by rfl) (by rfl) ?_)
              refine RL_cons (OpR_off (by exact wn2 rfl rfl rfl rfl) (by rfl) (by rfl) ?_)
              refine RL_cons (OpR_off (by exact wn2 rfl rfl rfl rfl) (by rfl) (by rfl) ?_)
              refine RL_cons (OpR_off (by exact wn2 rfl rfl rfl rfl) (by rfl) (by rfl) ?_)
              refine RL_cons (OpR_off (by exact wn2 rfl rfl rfl rfl) (by rfl) (by rfl) ?_)
              refine RL_cons (OpR_off (by exact wn2 rfl rfl rfl rfl) (by rfl) (by rfl) ?_)
              refine RL_pure (by exact wn0 rfl) (by rfl) (by rfl) (x_pick_f (v := .bool false) (by rfl) (by rfl)) ?_
              refine RL_nil ?_
              exact ⟨⟨congrArg Value.bool (Option.some.inj hm), rfl, rfl, rfl, trivial⟩, H⟩
             ·have hm := cond_t hbS hmS
              refine RL_pure (by exact wn1 rfl rfl rfl rfl) (by rfl) (by rfl) (x_fieldAddr fo25_4 (by rfl)) ?_
              refine RL_pure (by exact wn1 rfl rfl rfl rfl) (by rfl) (by rfl) (x_load (j := 4) (v := .slice A9 a0.Item.length cp10) sc23 (by rfl) (H.cells (i := 0) (by rfl)) (by rfl)) ?_
              refine RL_pure (by exact wn1 rfl rfl rfl rfl) (by rfl) (by rfl) (x_move (v := .int .i64 y4_1) (by rfl)) ?_
              obtain ⟨el48, h49, h50, he51, hm⟩ := idx_some hm
              obtain ⟨g53, o54, hA52⟩ := (H.rd (i := 2) (by rfl)).addr he51
              refine RL_pure (by exact wn1 rfl rfl rfl rfl) (by rfl) (by rfl) (x_indexAddr sl23 sz3 (by rfl) (by rfl) hA52 h49 h50) ?_
              refine RL_pure (by exact wn1 rfl rfl rfl rfl) (by rfl) (by rfl) (x_load (j := 0) (v := .int .i64 el48) sc3 (by rfl) (Rd.flatAt (n := 1) (H.rd (i := 2) (by rfl)) hA52 he51) (by rfl)) ?_
              refine RL_pure (by exact wn1 rfl rfl rfl rfl) (by rfl) (by rfl) (x_eql (by rfl) (by rfl)) ?_
              refine RL_pure (by exact wn0 rfl) (by rfl) (by rfl) (x_pick_t (v := .bool (el48 == (-1))) (by rfl) (by rfl)) ?_
              refine RL_nil ?_
              exact ⟨⟨congrArg Value.bool (Option.some.inj hm), rfl, rfl, rfl, trivial⟩, H⟩
            ·rintro r' w' ⟨hA, H⟩
             obtain ⟨r55, rfl⟩ := regen _ hA; clear hA
             obtain ⟨w56, rfl⟩ : ∃ W : World, W = w' := ⟨_, rfl⟩
             show RL _ _ _ _ _ _ _
             refine RL_pure (by exact wn0 rfl) (by rfl) (by rfl) (x_move (v := .bool b47) (by rfl)) ?_
             obtain ⟨b57, hmS, hm⟩ := bind_some hm
             refine RL_cut 7 (fun r' w' => Agr [(81, .bool b57), (1, .pointer (some ⟨b17, 0, none⟩)), (3, .int .i64 x28), (4, .int .i64 y4_1)] r' ∧ Sep ok w w' [.blk b17 25 [.int .i64 a0.W, .int .i64 a0.H, .slice A1 a0.Color.length cp2, .slice A5 a0.Depth.length cp6, .slice A9 a0.Item.length cp10, .slice A13 a0.Tri.length cp14]] [RE.rd k_Ar4_Int A1 cp2 a0.Color, RE.rd kInt A5 cp6 a0.Depth, RE.rd kInt A9 cp10 a0.Item, RE.rd kInt A13 cp14 a0.Tri]) ?_ ?_
             ·cases hbS : b47
              ·have hm := cond_f hbS hmS
               refine RL_cons (OpR_off (by exact wn2 rfl rfl rfl rfl) (by rfl) (by rfl) ?_)
               refine RL_cons (OpR_off (by exact wn2 rfl rfl rfl rfl) (by rfl) (by rfl) ?_)
               refine RL_cons (OpR_off (by exact wn2 rfl rfl rfl rfl) (by rfl) (by rfl) ?_)
               refine RL_cons (OpR_off (by exact wn2 rfl rfl rfl rfl) (by rfl) (by rfl) ?_)
               refine RL_cons (OpR_off (by exact wn2 rfl rfl rfl rfl) (by rfl) (by rfl) ?_)
               refine RL_cons (OpR_off (by exact wn2 rfl rfl rfl rfl) (by rfl) (by rfl) ?_)
               refine RL_pure (by exact wn0 rfl) (by rfl) (by rfl) (x_pick_f (v := .bool false) (by rfl) (by rfl)) ?_
               refine RL_nil ?_
               exact ⟨⟨congrArg Value.bool (Option.some.inj hm), rfl, rfl, rfl, trivial⟩, H⟩
              ·have hm := cond_t hbS hmS
               refine RL_pure (by exact wn1 rfl rfl rfl rfl) (by rfl) (by rfl) (x_fieldAddr fo25_5 (by rfl)) ?_
               refine RL_pure (by exact wn1 rfl rfl rfl rfl) (by rfl) (by rfl) (x_load (j := 5) (v := .slice A13 a0.Tri.length cp14) sc23 (by rfl) (H.cells (i := 0) (by rfl)) (by rfl)) ?_
               refine RL_pure (by exact wn1 rfl rfl rfl rfl) (by rfl) (by rfl) (x_move (v := .int .i64 y4_1) (by rfl)) ?_
               obtain ⟨el58, h59, h60, he61, hm⟩ := idx_some hm
               obtain ⟨g63, o64, hA62⟩ := (H.rd (i := 3) (by rfl)).addr he61
               refine RL_pure (by exact wn1 rfl rfl rfl rfl) (by rfl) (by rfl) (x_indexAddr sl23 sz3 (by rfl) (by rfl) hA62 h59 h60) ?_
               refine RL_pure (by exact wn1 rfl rfl rfl rfl) (by rfl) (by rfl) (x_load (j := 0) (v := .int .i64 el58) sc3 (by rfl) (Rd.flatAt (n := 1) (H.rd (i := 3) (by rfl)) hA62 he61) (by rfl)) ?_
               refine RL_pure (by exact wn1 rfl rfl rfl rfl) (by rfl) (by rfl) (x_eql (by rfl) (by rfl)) ?_
               refine RL_pure (by exact wn0 rfl) (by rfl) (by rfl) (x_pick_t (v := .bool (el58 == (-1))) (by rfl) (by rfl)) ?_
               refine RL_nil ?_
               exact ⟨⟨congrArg Value.bool (Option.some.inj hm), rfl, rfl, rfl, trivial⟩, H⟩
             ·rintro r' w' ⟨hA, H⟩
              obtain ⟨r65, rfl⟩ := regen _ hA; clear hA
              obtain ⟨w66, rfl⟩ : ∃ W : World, W = w' := ⟨_, rfl⟩
              show RL _ _ _ _ _ _ _
              refine RL_pure (by exact wn0 rfl) (by rfl) (by rfl) (x_assign (v := .bool b57) (by rfl)) ?_
              refine RL_nil ?_
              refine W_seq ?_
              refine W_draw [.free 0, .free 1, .free 2, .free 3, .take 4, .free 5, .free 6, .take 7, .free 8, .take 9, .free 10, .free 11, .take 12, .free 13, .take 14, .free 15, .free 16, .take 17, .run 18, .free 19, .free 20] (fun wS => Sep ok w wS [.blk b17 25 [.int .i64 a0.W, .int .i64 a0.H, .slice A1 a0.Color.length cp2, .slice A5 a0.Depth.length cp6, .slice A9 a0.Item.length cp10, .slice A13 a0.Tri.length cp14]] [RE.rd k_Ar4_Int A1 cp2 a0.Color, RE.rd kInt A5 cp6 a0.Depth, RE.rd kInt A9 cp10 a0.Item, RE.rd kInt A13 cp14 a0.Tri]) [] [0, 1, 2, 3, 5, 6, 8, 10, 11, 13, 15, 16, 19, 20] mixed0 (by kernel_rfl) (by kernel_rfl) (by kernel_rfl) (by rfl) (by exact H.drew) ?_
              obtain ⟨w67, hW⟩ : ∃ W : World, W = { w66 with drawn := w66.drawn + 1 } := ⟨_, rfl⟩
              rw [← hW]
              have H : Sep ok w w67 [.blk b17 25 [.int .i64 a0.W, .int .i64 a0.H, .slice A1 a0.Color.length cp2, .slice A5 a0.Depth.length cp6, .slice A9 a0.Item.length cp10, .slice A13 a0.Tri.length cp14]] [RE.rd k_Ar4_Int A1 cp2 a0.Color, RE.rd kInt A5 cp6 a0.Depth, RE.rd kInt A9 cp10 a0.Item, RE.rd kInt A13 cp14 a0.Tri] := by rw [hW]; exact H.drew
              clear hW
              refine PR_free (by rfl) (by rfl) (by rfl) (by exact wn0 rfl) (fun wS => (x_move (v := .bool b57) (by rfl))) ?_
              refine PR_free (by rfl) (by rfl) (by rfl) (by exact wn0 rfl) (fun wS => (x_not (by rfl))) ?_
              refine PR_free (by rfl) (by rfl) (by rfl) (by exact wn0 rfl) (fun wS => (x_move (v := .bool (!b57)) (by rfl))) ?_
              obtain ⟨b68, hmS, hm⟩ := bind_some hm
              refine PR_cut 18 (fun r' w' => Agr [(102, .bool b68), (1, .pointer (some ⟨b17, 0, none⟩)), (3, .int .i64 x28), (4, .int .i64 y4_1)] r' ∧ Sep ok w w' [.blk b17 25 [.int .i64 a0.W, .int .i64 a0.H, .slice A1 a0.Color.length cp2, .slice A5 a0.Depth.length cp6, .slice A9 a0.Item.length cp10, .slice A13 a0.Tri.length cp14]] [RE.rd k_Ar4_Int A1 cp2 a0.Color, RE.rd kInt A5 cp6 a0.Depth, RE.rd kInt A9 cp10 a0.Item, RE.rd kInt A13 cp14 a0.Tri]) ?_ ?_
              ·cases hbS : (!b57)
               ·have hm := cond_f hbS hmS
                refine PR_offF (by rfl) (by rfl) (by rfl) (by exact wn2 rfl rfl rfl rfl) ?_
                refine PR_off (by rfl) (by rfl) (by rfl) (by exact wn2 rfl rfl rfl rfl) ?_
                refine PR_offF (by rfl) (by rfl) (by rfl) (by exact wn2 rfl rfl rfl rfl) ?_
                refine PR_offF (by rfl) (by rfl) (by rfl) (by exact wn2 rfl rfl rfl rfl) ?_
                refine PR_off (by rfl) (by rfl) (by rfl) (by exact wn2 rfl rfl rfl rfl) ?_
                refine PR_offF (by rfl) (by rfl) (by rfl) (by exact wn2 rfl rfl rfl rfl) ?_
                refine PR_off (by rfl) (by rfl) (by rfl) (by exact wn2 rfl rfl rfl rfl) ?_
                refine PR_offF (by rfl) (by rfl) (by rfl) (by exact wn2 rfl rfl rfl rfl) ?_
                refine PR_offF (by rfl) (by rfl) (by rfl) (by exact wn2 rfl rfl rfl rfl) ?_
                refine PR_off (by rfl) (by rfl) (by rfl) (by exact wn2 rfl rfl rfl rfl) ?_
                refine PR_offF (by rfl) (by rfl) (by rfl) (by exact wn2 rfl rfl rfl rfl) ?_
                refine PR_off (by rfl) (by rfl) (by rfl) (by exact wn2 rfl rfl rfl rfl) ?_
                refine PR_offF (by rfl) (by rfl) (by rfl) (by exact wn2 rfl rfl rfl rfl) ?_
                refine PR_offF (by rfl) (by rfl) (by rfl) (by exact wn2 rfl rfl rfl rfl) ?_
                refine PR_off (by rfl) (by rfl) (by rfl) (by exact wn2 rfl rfl rfl rfl) ?_
                refine PR_run (by rfl) (OpR_off (by exact wn2 rfl rfl rfl rfl) (by rfl) (by rfl) ⟨H, ?_⟩)
                refine PR_offF (by rfl) (by rfl) (by rfl) (by exact wn2 rfl rfl rfl rfl) ?_
                refine PR_free (by rfl) (by rfl) (by rfl) (by exact wn0 rfl) (fun wS => (x_pick_f (v := .bool false) (by rfl) (by rfl))) ?_
                refine PR_nil ?_
                exact ⟨⟨congrArg Value.bool (Option.some.inj hm), rfl, rfl, rfl, trivial⟩, H⟩
               ·have hm := cond_t hbS hmS
                refine PR_free (by rfl) (by rfl) (by rfl) (by exact wn1 rfl rfl rfl rfl) (fun wS => (x_fieldAddr fo25_3 (by rfl))) ?_
                refine PR_take (by rfl) (by rfl) (by rfl) (by exact wn1 rfl rfl rfl rfl) (fun wS (H : Sep ok w wS [.blk b17 25 [.int .i64 a0.W, .int .i64 a0.H, .slice A1 a0.Color.length cp2, .slice A5 a0.Depth.length cp6, .slice A9 a0.Item.length cp10, .slice A13 a0.Tri.length cp14]] [RE.rd k_Ar4_Int A1 cp2 a0.Color, RE.rd kInt A5 cp6 a0.Depth, RE.rd kInt A9 cp10 a0.Item, RE.rd kInt A13 cp14 a0.Tri]) => (x_load (j := 3) (v := .slice A5 a0.Depth.length cp6) sc23 (by rfl) (H.cells (i := 0) (by rfl)) (by rfl))) ?_
                refine PR_free (by rfl) (by rfl) (by rfl) (by exact wn1 rfl rfl rfl rfl) (fun wS => (x_move (v := .int .i64 y4_1) (by rfl))) ?_
                obtain ⟨el69, h70, h71, he72, hm⟩ := idx_some hm
                obtain ⟨g74, o75, hA73⟩ := (H.rd (i := 1) (by rfl)).addr he72
                refine PR_free (by rfl) (by rfl) (by rfl) (by exact wn1 rfl rfl rfl rfl) (fun wS => (x_indexAddr sl23 sz3 (by rfl) (by rfl) hA73 h70 h71)) ?_
                refine PR_take (by rfl) (by rfl) (by rfl) (by exact wn1 rfl rfl rfl rfl) (fun wS (H : Sep ok w wS [.blk b17 25 [.int .i64 a0.W, .int .i64 a0.H, .slice A1 a0.Color.length cp2, .slice A5 a0.Depth.length cp6, .slice A9 a0.Item.length cp10, .slice A13 a0.Tri.length cp14]] [RE.rd k_Ar4_Int A1 cp2 a0.Color, RE.rd kInt A5 cp6 a0.Depth, RE.rd kInt A9 cp10 a0.Item, RE.rd kInt A13 cp14 a0.Tri]) => (x_load (j := 0) (v := .int .i64 el69) sc3 (by rfl) (Rd.flatAt (n := 1) (H.rd (i := 1) (by rfl)) hA73 he72) (by rfl))) ?_
                refine PR_free (by rfl) (by rfl) (by rfl) (by exact wn1 rfl rfl rfl rfl) (fun wS => (x_fieldAddr fo25_4 (by rfl))) ?_
                refine PR_take (by rfl) (by rfl) (by rfl) (by exact wn1 rfl rfl rfl rfl) (fun wS (H : Sep ok w wS [.blk b17 25 [.int .i64 a0.W, .int .i64 a0.H, .slice A1 a0.Color.length cp2, .slice A5 a0.Depth.length cp6, .slice A9 a0.Item.length cp10, .slice A13 a0.Tri.length cp14]] [RE.rd k_Ar4_Int A1 cp2 a0.Color, RE.rd kInt A5 cp6 a0.Depth, RE.rd kInt A9 cp10 a0.Item, RE.rd kInt A13 cp14 a0.Tri]) => (x_load (j := 4) (v := .slice A9 a0.Item.length cp10) sc23 (by rfl) (H.cells (i := 0) (by rfl)) (by rfl))) ?_
                refine PR_free (by rfl) (by rfl) (by rfl) (by exact wn1 rfl rfl rfl rfl) (fun wS => (x_move (v := .int .i64 y4_1) (by rfl))) ?_
                obtain ⟨el76, h77, h78, he79, hm⟩ := idx_some hm
                obtain ⟨g81, o82, hA80⟩ := (H.rd (i := 2) (by rfl)).addr he79
                refine PR_free (by rfl) (by rfl) (by rfl) (by exact wn1 rfl rfl rfl rfl) (fun wS => (x_indexAddr sl23 sz3 (by rfl) (by rfl) hA80 h77 h78)) ?_
                refine PR_take (by rfl) (by rfl) (by rfl) (by exact wn1 rfl rfl rfl rfl) (fun wS (H : Sep ok w wS [.blk b17 25 [.int .i64 a0.W, .int .i64 a0.H, .slice A1 a0.Color.length cp2, .slice A5 a0.Depth.length cp6, .slice A9 a0.Item.length cp10, .slice A13 a0.Tri.length cp14]] [RE.rd k_Ar4_Int A1 cp2 a0.Color, RE.rd kInt A5 cp6 a0.Depth, RE.rd kInt A9 cp10 a0.Item, RE.rd kInt A13 cp14 a0.Tri]) => (x_load (j := 0) (v := .int .i64 el76) sc3 (by rfl) (Rd.flatAt (n := 1) (H.rd (i := 2) (by rfl)) hA80 he79) (by rfl))) ?_
                refine PR_free (by rfl) (by rfl) (by rfl) (by exact wn1 rfl rfl rfl rfl) (fun wS => (x_fieldAddr fo25_5 (by rfl))) ?_
                refine PR_take (by rfl) (by rfl) (by rfl) (by exact wn1 rfl rfl rfl rfl) (fun wS (H : Sep ok w wS [.blk b17 25 [.int .i64 a0.W, .int .i64 a0.H, .slice A1 a0.Color.length cp2, .slice A5 a0.Depth.length cp6, .slice A9 a0.Item.length cp10, .slice A13 a0.Tri.length cp14]] [RE.rd k_Ar4_Int A1 cp2 a0.Color, RE.rd kInt A5 cp6 a0.Depth, RE.rd kInt A9 cp10 a0.Item, RE.rd kInt A13 cp14 a0.Tri]) => (x_load (j := 5) (v := .slice A13 a0.Tri.length cp14) sc23 (by rfl) (H.cells (i := 0) (by rfl)) (by rfl))) ?_
                refine PR_free (by rfl) (by rfl) (by rfl) (by exact wn1 rfl rfl rfl rfl) (fun wS => (x_move (v := .int .i64 y4_1) (by rfl))) ?_
                obtain ⟨el83, h84, h85, he86, hm⟩ := idx_some hm
                obtain ⟨g88, o89, hA87⟩ := (H.rd (i := 3) (by rfl)).addr he86
                refine PR_free (by rfl) (by rfl) (by rfl) (by exact wn1 rfl rfl rfl rfl) (fun wS => (x_indexAddr sl23 sz3 (by rfl) (by rfl) hA87 h84 h85)) ?_
                refine PR_take (by rfl) (by rfl) (by rfl) (by exact wn1 rfl rfl rfl rfl) (fun wS (H : Sep ok w wS [.blk b17 25 [.int .i64 a0.W, .int .i64 a0.H, .slice A1 a0.Color.length cp2, .slice A5 a0.Depth.length cp6, .slice A9 a0.Item.length cp10, .slice A13 a0.Tri.length cp14]] [RE.rd k_Ar4_Int A1 cp2 a0.Color, RE.rd kInt A5 cp6 a0.Depth, RE.rd kInt A9 cp10 a0.Item, RE.rd kInt A13 cp14 a0.Tri]) => (x_load (j := 0) (v := .int .i64 el83) sc3 (by rfl) (Rd.flatAt (n := 1) (H.rd (i := 3) (by rfl)) hA87 he86) (by rfl))) ?_
                obtain ⟨v91, hv90, hm⟩ := bind_some hm
                refine PR_run (by rfl) (O_call (by exact wn1 rfl rfl rfl rfl) (by rfl) (by rfl) (x_callL (by rfl) (args := [.int .i64 el69, .int .i64 el76, .int .i64 el83]) (by rfl) (cf110 _ _)) (c110 okT K w67 el69 el76 el83  v91 hv90) ?_)
                rintro e w92 ⟨rfl, H2⟩
                have H : Sep ok w w92 [.blk b17 25 [.int .i64 a0.W, .int .i64 a0.H, .slice A1 a0.Color.length cp2, .slice A5 a0.Depth.length cp6, .slice A9 a0.Item.length cp10, .slice A13 a0.Tri.length cp14]] [RE.rd k_Ar4_Int A1 cp2 a0.Color, RE.rd kInt A5 cp6 a0.Depth, RE.rd kInt A9 cp10 a0.Item, RE.rd kInt A13 cp14 a0.Tri] := H.below H2.base
                clear H2
                refine ⟨_, rfl, H, ?_⟩
                show PR _ _ _ _ _ _ _ _
                refine PR_free (by rfl) (by rfl) (by rfl) (by exact wn1 rfl rfl rfl rfl) (fun wS => (x_not (by rfl))) ?_
                refine PR_free (by rfl) (by rfl) (by rfl) (by exact wn0 rfl) (fun wS => (x_pick_t (v := .bool (!v91)) (by rfl) (by rfl))) ?_
                refine PR_nil ?_
                exact ⟨⟨congrArg Value.bool (Option.some.inj hm), rfl, rfl, rfl, trivial⟩, H⟩
              ·rintro r' w' ⟨hA, H⟩
               obtain ⟨r93, rfl⟩ := regen _ hA; clear hA
               obtain ⟨w94, rfl⟩ : ∃ W : World, W = w' := ⟨_, rfl⟩
               show PR _ _ _ _ _ _ _ _
               refine PR_nil ?_
               refine W_cond (by rfl) (fun hb => ?_) (fun hb => ?_)
               ·have hm := cond_t hb hm
                refine W_seq ?_
                refine W_region ?_
                refine RL_pure (by exact wn0 rfl) (by rfl) (by rfl) (x_assign (v := .bool false) (by rfl)) ?_
                refine RL_nil ?_
                refine W_ret ?_
                obtain rfl := Option.some.inj hm
                exact ⟨[.bool false], (.tmp (by rfl) rfl), rfl, H.none_⟩
               ·have hm := cond_f hb hm
                refine W_skip ?_
                refine W_region ?_
                refine RL_pure (by exact wn0 rfl) (by rfl) (by rfl) (x_move (v := .int .i64 y4_1) (by rfl)) ?_
                obtain ⟨x95, ex95, qx95, ux95, hm⟩ := ck_some hm
                refine RL_pure (by exact wn0 rfl) (by rfl) (by rfl) (x_add (by rfl) (by rfl) ux95) ?_
                refine RL_pure (by exact wn0 rfl) (by rfl) (by rfl) (x_assign (v := .int .i64 x95) (by rfl)) ?_
                refine RL_nil ?_
                subst hrec1
                exact ⟨k1, Nat.lt_succ_self k1, x95, hm, ⟨rfl, rfl, rfl, trivial⟩, H⟩
           ·have hm := cond_f hb hm
            refine W_exit ?_
            refine W_seq ?_
            refine W_region ?_
            refine RL_pure (by exact wn0 rfl) (by rfl) (by rfl) (x_assign (v := .bool true) (by rfl)) ?_
            refine RL_nil ?_
            refine W_ret ?_
            obtain rfl := Option.some.inj hm
            exact ⟨[.bool true], (.tmp (by rfl) rfl), rfl, H.none_⟩
end Go.Proofs.YtobkigllalbkiaaV.M

/- A plain Lean function that answers as the Go function does (none: not told), and the proof that a call answers so. Written by program. -/
set_option linter.unusedVariables false
namespace Go.Proofs.YtobkigllalbkiaaV.M
open Go.RowKit Go.Proofs.YtobkigllalbkiaaV
/-- diorama/dioramaref27.Build -/
def m16 (K : Nat) (a0 : S_Frame) : Option (S_Pyramid × Int) :=
 ((m60 K a0).bind fun v22 => (bif (!v22) then some ((⟨[]⟩ : S_Pyramid), 8) else (apds 8 ([] : List Int) a0.Depth fun l33 => ((m61 K (⟨a0.W, a0.H, l33⟩ : S_Level)).bind fun v37 => some (v37, 0)))))
set_option maxRecDepth 100000 in
set_option maxHeartbeats 4000000 in
theorem c16 (ok : Okp) (K : Nat) (w : World) (a0 : S_Frame) (A1 : Option Addr) (cp2 : Nat) (A5 : Option Addr) (cp6 : Nat) (A9 : Option Addr) (cp10 : Nat) (A13 : Option Addr) (cp14 : Nat) (hR3 : Rd k_Ar4_Int w ok A1 cp2 a0.Color) (hR7 : Rd kInt w ok A5 cp6 a0.Depth) (hR11 : Rd kInt w ok A9 cp10 a0.Item) (hR15 : Rd kInt w ok A13 cp14 a0.Tri) (res : S_Pyramid × Int) (hm : m16 K a0 = some res) :
  Calls Try.prog 16 #[.agg #[.int .i64 a0.W, .int .i64 a0.H, .slice A1 a0.Color.length cp2, .slice A5 a0.Depth.length cp6, .slice A9 a0.Item.length cp10, .slice A13 a0.Tri.length cp14]] w (fun e w' => ∃ (A0_ : Option Addr) (c0_ : Nat), e = .returned (tup [.agg #[.slice A0_ res.1.Levels.length c0_], .int .i64 res.2]) ∧ Sep ok w w' [] [RE.rd k_Level A0_ c0_ res.1.Levels]) := by
 refine calls_W (args := [.agg #[.int .i64 a0.W, .int .i64 a0.H, .slice A1 a0.Color.length cp2, .slice A5 a0.Depth.length cp6, .slice A9 a0.Item.length cp10, .slice A13 a0.Tri.length cp14]]) Try.func16 rfl Try.ntmps16 Try.results16 rfl fun r hr => ?_
 obtain ⟨r1, rfl⟩ := regen (r := r) [(0, .agg #[.int .i64 a0.W, .int .i64 a0.H, .slice A1 a0.Color.length cp2, .slice A5 a0.Depth.length cp6, .slice A9 a0.Item.length cp10, .slice A13 a0.Tri.length cp14])] ⟨hr 0 _ rfl, trivial⟩
 have H : Sep ok w w [] [RE.rd k_Ar4_Int A1 cp2 a0.Color, RE.rd kInt A5 cp6 a0.Depth, RE.rd kInt A9 cp10 a0.Item, RE.rd kInt A13 cp14 a0.Tri] := Sep.arg (Sep.arg (Sep.arg (Sep.arg (Sep.start ok w) (re := RE.rd k_Ar4_Int A1 cp2 a0.Color) rfl rfl hR3) (re := RE.rd kInt A5 cp6 a0.Depth) rfl rfl hR7) (re := RE.rd kInt A9 cp10 a0.Item) rfl rfl hR11) (re := RE.rd kInt A13 cp14 a0.Tri) rfl rfl hR15
 unfold m16 at hm
 refine W_seq ?_
 refine W_region ?_
 refine RL_cons (O_box (by exact wn0 rfl) (by rfl) (by rfl) (by rfl) H (fun w18 b17 (H : Sep ok w w18 [.blk b17 25 [.int .i64 a0.W, .int .i64 a0.H, .slice A1 a0.Color.length cp2, .slice A5 a0.Depth.length cp6, .slice A9 a0.Item.length cp10, .slice A13 a0.Tri.length cp14]] [RE.rd k_Ar4_Int A1 cp2 a0.Color, RE.rd kInt A5 cp6 a0.Depth, RE.rd kInt A9 cp10 a0.Item, RE.rd kInt A13 cp14 a0.Tri]) => ?_))
 refine RL_cons (O_alloc (by exact wn0 rfl) (by rfl) ze28 (by rfl) H (fun w20 b19 (H : Sep ok w w20 [.blk b17 25 [.int .i64 a0.W, .int .i64 a0.H, .slice A1 a0.Color.length cp2, .slice A5 a0.Depth.length cp6, .slice A9 a0.Item.length cp10, .slice A13 a0.Tri.length cp14], .blk b19 28 [.slice none 0 0]] [RE.rd k_Ar4_Int A1 cp2 a0.Color, RE.rd kInt A5 cp6 a0.Depth, RE.rd kInt A9 cp10 a0.Item, RE.rd kInt A13 cp14 a0.Tri]) => ?_))
 refine RL_pure (by exact wn0 rfl) (by rfl) (by rfl) (x_assign (v := .int .i64 0) (by rfl)) ?_
 refine RL_nil ?_
 refine W_seq ?_
 refine W_seq ?_
 refine W_region ?_
 refine RL_pure (by exact wn0 rfl) (by rfl) (by rfl) (x_loadA (j := 0) (vs := [.int .i64 a0.W, .int .i64 a0.H, .slice A1 a0.Color.length cp2, .slice A5 a0.Depth.length cp6, .slice A9 a0.Item.length cp10, .slice A13 a0.Tri.length cp14]) ag25 (by rfl) (H.cells (i := 0) (by rfl)) (by rfl) (by rfl)) ?_
 obtain ⟨v22, hv21, hm⟩ := bind_some hm
 refine RL_cons (O_call (by exact wn0 rfl) (by rfl) (by rfl) (x_callL (by rfl) (args := [.agg #[.int .i64 a0.W, .int .i64 a0.H, .slice A1 a0.Color.length cp2, .slice A5 a0.Depth.length cp6, .slice A9 a0.Item.length cp10, .slice A13 a0.Tri.length cp14]]) (by rfl) (cf60 _ _)) (c60 okT K w20 a0 A1 cp2 A5 cp6 A9 cp10 A13 cp14 (H.rd (i := 0) (by rfl)).any (H.rd (i := 1) (by rfl)).any (H.rd (i := 2) (by rfl)).any (H.rd (i := 3) (by rfl)).any v22 hv21) ?_)
 rintro e w23 ⟨rfl, H2⟩
 have H : Sep ok w w23 [.blk b17 25 [.int .i64 a0.W, .int .i64 a0.H, .slice A1 a0.Color.length cp2, .slice A5 a0.Depth.length cp6, .slice A9 a0.Item.length cp10, .slice A13 a0.Tri.length cp14], .blk b19 28 [.slice none 0 0]] [RE.rd k_Ar4_Int A1 cp2 a0.Color, RE.rd kInt A5 cp6 a0.Depth, RE.rd kInt A9 cp10 a0.Item, RE.rd kInt A13 cp14 a0.Tri] := H.below H2.base
 clear H2
 refine ⟨_, rfl, ?_⟩
 show RL _ _ _ _ _ _ _
 refine RL_pure (by exact wn0 rfl) (by rfl) (by rfl) (x_not (by rfl)) ?_
 refine RL_nil ?_
 refine W_cond (by rfl) (fun hb => ?_) (fun hb => ?_)
 ·have hm := cond_t hb hm
  refine W_seq ?_
  refine W_region ?_
  refine RL_pure (by exact wn0 rfl) (by rfl) (by rfl) (x_build (vs := []) (cs := [.slice none 0 0]) (by rfl) (by kernel_rfl)) ?_
  refine RL_cons (O_store (i := 1) (off := 0) (by exact wn0 rfl) (by rfl) (by rfl) H (by rfl) (vs := [.slice none 0 0]) (by rfl) sz28 (by rfl) (by rfl) (by rfl) (fun w24 (H : Sep ok w w24 [.blk b17 25 [.int .i64 a0.W, .int .i64 a0.H, .slice A1 a0.Color.length cp2, .slice A5 a0.Depth.length cp6, .slice A9 a0.Item.length cp10, .slice A13 a0.Tri.length cp14], .blk b19 28 [.slice none 0 0]] [RE.rd k_Ar4_Int A1 cp2 a0.Color, RE.rd kInt A5 cp6 a0.Depth, RE.rd kInt A9 cp10 a0.Item, RE.rd kInt A13 cp14 a0.Tri]) => ?_))
  refine RL_pure (by exact wn0 rfl) (by rfl) (by rfl) (x_assign (v := .int .i64 8) (by rfl)) ?_
  refine RL_nil ?_
  refine W_ret ?_
  have H : Sep ok w w24 [.blk b17 25 [.int .i64 a0.W, .int .i64 a0.H, .slice A1 a0.Color.length cp2, .slice A5 a0.Depth.length cp6, .slice A9 a0.Item.length cp10, .slice A13 a0.Tri.length cp14], .blk b19 28 [.slice none 0 0]] [RE.rd k_Ar4_Int A1 cp2 a0.Color, RE.rd kInt A5 cp6 a0.Depth, RE.rd kInt A9 cp10 a0.Item, RE.rd kInt A13 cp14 a0.Tri, RE.rd k_Level none 0 ([])] := Sep.also H (re := RE.rd k_Level none 0 ([])) (Rd.nil (by decide))
  obtain rfl := Option.some.inj hm
  exact ⟨[.agg #[.slice none 0 0], .int .i64 8], (.cellA (by rfl) ag28 (H.cells (i := 1) (by rfl)) (by rfl) (.tmp (by rfl) rfl)), none, 0, rfl, (H.forgetAll).pick [4]⟩
 ·have hm := cond_f hb hm
  refine W_skip ?_
  refine W_seq ?_
  refine W_draw [.free 0, .take 1, .free 2, .take 3, .free 4, .take 5, .run 6, .free 7, .run 8, .tail 9, .free 10] (fun wS => Sep ok w wS [.blk b17 25 [.int .i64 a0.W, .int .i64 a0.H, .slice A1 a0.Color.length cp2, .slice A5 a0.Depth.length cp6, .slice A9 a0.Item.length cp10, .slice A13 a0.Tri.length cp14], .blk b19 28 [.slice none 0 0]] [RE.rd k_Ar4_Int A1 cp2 a0.Color, RE.rd kInt A5 cp6 a0.Depth, RE.rd kInt A9 cp10 a0.Item, RE.rd kInt A13 cp14 a0.Tri]) [9] [0, 2, 4, 7, 10] mixed0 (by kernel_rfl) (by kernel_rfl) (by kernel_rfl) (by rfl) (by exact H.drew) ?_
  obtain ⟨w26, hW⟩ : ∃ W : World, W = { w23 with drawn := w23.drawn + 1 } := ⟨_, rfl⟩
  rw [← hW]
  have H : Sep ok w w26 [.blk b17 25 [.int .i64 a0.W, .int .i64 a0.H, .slice A1 a0.Color.length cp2, .slice A5 a0.Depth.length cp6, .slice A9 a0.Item.length cp10, .slice A13 a0.Tri.length cp14], .blk b19 28 [.slice none 0 0]] [RE.rd k_Ar4_Int A1 cp2 a0.Color, RE.rd kInt A5 cp6 a0.Depth, RE.rd kInt A9 cp10 a0.Item, RE.rd kInt A13 cp14 a0.Tri] := by rw [hW]; exact H.drew
  clear hW
  refine PR_free (by rfl) (by rfl) (by rfl) (by exact wn0 rfl) (fun wS => (x_fieldAddr fo25_0 (by rfl))) ?_
  refine PR_take (by rfl) (by rfl) (by rfl) (by exact wn0 rfl) (fun wS (H : Sep ok w wS [.blk b17 25 [.int .i64 a0.W, .int .i64 a0.H, .slice A1 a0.Color.length cp2, .slice A5 a0.Depth.length cp6, .slice A9 a0.Item.length cp10, .slice A13 a0.Tri.length cp14], .blk b19 28 [.slice none 0 0]] [RE.rd k_Ar4_Int A1 cp2 a0.Color, RE.rd kInt A5 cp6 a0.Depth, RE.rd kInt A9 cp10 a0.Item, RE.rd kInt A13 cp14 a0.Tri]) => (x_load (j := 0) (v := .int .i64 a0.W) sc3 (by rfl) (H.cells (i := 0) (by rfl)) (by rfl))) ?_
  refine PR_free (by rfl) (by rfl) (by rfl) (by exact wn0 rfl) (fun wS => (x_fieldAddr fo25_1 (by rfl))) ?_
  refine PR_take (by rfl) (by rfl) (by rfl) (by exact wn0 rfl) (fun wS (H : Sep ok w wS [.blk b17 25 [.int .i64 a0.W, .int .i64 a0.H, .slice A1 a0.Color.length cp2, .slice A5 a0.Depth.length cp6, .slice A9 a0.Item.length cp10, .slice A13 a0.Tri.length cp14], .blk b19 28 [.slice none 0 0]] [RE.rd k_Ar4_Int A1 cp2 a0.Color, RE.rd kInt A5 cp6 a0.Depth, RE.rd kInt A9 cp10 a0.Item, RE.rd kInt A13 cp14 a0.Tri]) => (x_load (j := 1) (v := .int .i64 a0.H) sc3 (by rfl) (H.cells (i := 0) (by rfl)) (by rfl))) ?_
  refine PR_free (by rfl) (by rfl) (by rfl) (by exact wn0 rfl) (fun wS => (x_fieldAddr fo25_3 (by rfl))) ?_
  refine PR_take (by rfl) (by rfl) (by rfl) (by exact wn0 rfl) (fun wS (H : Sep ok w wS [.blk b17 25 [.int .i64 a0.W, .int .i64 a0.H, .slice A1 a0.Color.length cp2, .slice A5 a0.Depth.length cp6, .slice A9 a0.Item.length cp10, .slice A13 a0.Tri.length cp14], .blk b19 28 [.slice none 0 0]] [RE.rd k_Ar4_Int A1 cp2 a0.Color, RE.rd kInt A5 cp6 a0.Depth, RE.rd kInt A9 cp10 a0.Item, RE.rd kInt A13 cp14 a0.Tri]) => (x_load (j := 3) (v := .slice A5 a0.Depth.length cp6) sc23 (by rfl) (H.cells (i := 0) (by rfl)) (by rfl))) ?_
  have H : Sep ok w w26 [.blk b17 25 [.int .i64 a0.W, .int .i64 a0.H, .slice A1 a0.Color.length cp2, .slice A5 a0.Depth.length cp6, .slice A9 a0.Item.length cp10, .slice A13 a0.Tri.length cp14], .blk b19 28 [.slice none 0 0], .row (.slice none 0 0) 3 kInt.sz 0 []] [RE.rd k_Ar4_Int A1 cp2 a0.Color, RE.rd kInt A5 cp6 a0.Depth, RE.rd kInt A9 cp10 a0.Item, RE.rd kInt A13 cp14 a0.Tri, RE.chunks kInt [] ([])] := H.nilRowK 3 kInt
  obtain ⟨l33, hl34, hb35, hm⟩ := apds_some hm
  refine PR_run (by rfl) (O_appendAll (D := kInt) (xs := ([] : List Int)) (i := 2) (j := 4) (zs := a0.Depth) (by exact wn0 rfl) (by rfl) (by rfl) (by rfl) H (by rfl) (by rfl) (H.rd (i := 1) (by rfl)) hl34 sl23 sz3 by3 ze3 (by rfl) (by rfl) hb35 (by rfl) (fun w29 A30 cp31 cs32 (H : Sep ok w w29 [.blk b17 25 [.int .i64 a0.W, .int .i64 a0.H, .slice A1 a0.Color.length cp2, .slice A5 a0.Depth.length cp6, .slice A9 a0.Item.length cp10, .slice A13 a0.Tri.length cp14], .blk b19 28 [.slice none 0 0], .row (.slice A30 l33.length cp31) 3 kInt.sz l33.length cs32] [RE.rd k_Ar4_Int A1 cp2 a0.Color, RE.rd kInt A5 cp6 a0.Depth, RE.rd kInt A9 cp10 a0.Item, RE.rd kInt A13 cp14 a0.Tri, RE.chunks kInt cs32 l33]) => ⟨(Sep.takeR (Sep.takeL H 2) 4), ?_⟩))
  refine PR_free (by rfl) (by rfl) (by rfl) (by exact wn0 rfl) (fun wS => (x_build (vs := [(0, .int .i64 a0.W), (1, .int .i64 a0.H), (2, .slice A30 l33.length cp31)]) (cs := [.int .i64 a0.W, .int .i64 a0.H, .slice A30 l33.length cp31]) (by rfl) (by kernel_rfl))) ?_
  obtain ⟨v37, hv36, hm⟩ := bind_some hm
  have H : Sep ok w w29 [.blk b17 25 [.int .i64 a0.W, .int .i64 a0.H, .slice A1 a0.Color.length cp2, .slice A5 a0.Depth.length cp6, .slice A9 a0.Item.length cp10, .slice A13 a0.Tri.length cp14], .blk b19 28 [.slice none 0 0], .hole] [RE.rd k_Ar4_Int A1 cp2 a0.Color, RE.rd kInt A5 cp6 a0.Depth, RE.rd kInt A9 cp10 a0.Item, RE.rd kInt A13 cp14 a0.Tri, RE.rd kInt A30 cp31 l33] := H.frozen (i := 2) (j := 4) (by rfl) (by rfl)
  refine PR_run (by rfl) (O_call (by exact wn0 rfl) (by rfl) (by rfl) (x_callL (by rfl) (args := [.agg #[.int .i64 a0.W, .int .i64 a0.H, .slice A30 l33.length cp31]]) (by rfl) (cf61 _ _)) (c61 (okS ok w [.blk b17 25 [.int .i64 a0.W, .int .i64 a0.H, .slice A1 a0.Color.length cp2, .slice A5 a0.Depth.length cp6, .slice A9 a0.Item.length cp10, .slice A13 a0.Tri.length cp14], .blk b19 28 [.slice none 0 0], .hole]) K w29 (⟨a0.W, a0.H, l33⟩ : S_Level) A30 cp31 (H.rd (i := 4) (by rfl)) v37 hv36) ?_)
  rintro e w38 ⟨A39, cp40, rfl, H2⟩
  have H : Sep ok w w38 [.blk b17 25 [.int .i64 a0.W, .int .i64 a0.H, .slice A1 a0.Color.length cp2, .slice A5 a0.Depth.length cp6, .slice A9 a0.Item.length cp10, .slice A13 a0.Tri.length cp14], .blk b19 28 [.slice none 0 0], .hole] [RE.rd k_Ar4_Int A1 cp2 a0.Color, RE.rd kInt A5 cp6 a0.Depth, RE.rd kInt A9 cp10 a0.Item, RE.rd kInt A13 cp14 a0.Tri, RE.rd kInt A30 cp31 l33, RE.rd k_Level A39 cp40 v37.Levels] := H.call H2
  clear H2
  refine ⟨_, rfl, (Sep.takeR (Sep.takeL H 2) 4), ?_⟩
  show PR _ _ _ _ _ _ _ _
  refine PR_tail (by rfl) (O_store (i := 1) (off := 0) (by exact wn0 rfl) (by rfl) (by rfl) H (by rfl) (vs := [.slice A39 v37.Levels.length cp40]) (by rfl) sz28 (by rfl) (by rfl) (by rfl) (fun w42 (H : Sep ok w w42 [.blk b17 25 [.int .i64 a0.W, .int .i64 a0.H, .slice A1 a0.Color.length cp2, .slice A5 a0.Depth.length cp6, .slice A9 a0.Item.length cp10, .slice A13 a0.Tri.length cp14], .blk b19 28 [.slice A39 v37.Levels.length cp40], .hole] [RE.rd k_Ar4_Int A1 cp2 a0.Color, RE.rd kInt A5 cp6 a0.Depth, RE.rd kInt A9 cp10 a0.Item, RE.rd kInt A13 cp14 a0.Tri, RE.rd kInt A30 cp31 l33, RE.rd k_Level A39 cp40 v37.Levels]) => ?_))
  refine PR_free (by rfl) (by rfl) (by rfl) (by exact wn0 rfl) (fun wS => (x_assign (v := .int .i64 0) (by rfl))) ?_
  refine PR_nil ?_
  refine W_ret ?_
  obtain rfl := Option.some.inj hm
  exact ⟨[.agg #[.slice A39 v37.Levels.length cp40], .int .i64 0], (.cellA (by rfl) ag28 (H.cells (i := 1) (by rfl)) (by rfl) (.tmp (by rfl) rfl)), A39, cp40, rfl, (H.forgetAll).pick [5]⟩
end Go.Proofs.YtobkigllalbkiaaV.M

/- A plain Lean function that answers as the Go function does (none: not told), and the proof that a call answers so. Written by program. -/
set_option linter.unusedVariables false
namespace Go.Proofs.YtobkigllalbkiaaV.M
open Go.RowKit Go.Proofs.YtobkigllalbkiaaV
def m18_l2b (K : Nat) (a1 : S_Rect) (el12 : S_Level) (y9_1 : Int) (rec1 : Int → Int → Option (Int × Int)) (rec2 : Int → Int → Option (Int × Int)) (y10_2 : Int) (y8_2 : Int) : Option (Int × Int) :=
 (bif (decide (y10_2 ≤ a1.X1)) then (ck (y9_1 * el12.W) fun x51 => (ck (x51 + y10_2) fun x52 => (idx el12.Low x52 fun el53 => (ck (y10_2 + 1) fun x60 => (rec2 x60 (mn y8_2 el53)))))) else (ck (y9_1 + 1) fun x61 => (rec1 y8_2 x61)))
def m18_l2 (K : Nat) (a1 : S_Rect) (el12 : S_Level) (y9_1 : Int) (rec1 : Int → Int → Option (Int × Int)) : Nat → Int → Int → Option (Int × Int)
 | 0 => fun _ _ => none
 | k + 1 => m18_l2b K a1 el12 y9_1 rec1 (m18_l2 K a1 el12 y9_1 rec1 k)
def m18_l1b (K : Nat) (a1 : S_Rect) (el12 : S_Level) (rec1 : Int → Int → Option (Int × Int)) (y8_1 : Int) (y9_1 : Int) : Option (Int × Int) :=
 (bif (decide (y9_1 ≤ a1.Y1)) then m18_l2 K a1 el12 y9_1 rec1 K a1.X0 y8_1 else some (y8_1, 0))
def m18_l1 (K : Nat) (a1 : S_Rect) (el12 : S_Level) : Nat → Int → Int → Option (Int × Int)
 | 0 => fun _ _ => none
 | k + 1 => m18_l1b K a1 el12 (m18_l1 K a1 el12 k)
/-- diorama/dioramaref27.Low -/
def m18 (K : Nat) (a0 : S_Pyramid) (a1 : S_Rect) : Option (Int × Int) :=
 ((m23 K a0).bind fun v10 => (bif (v10 != 0) then some (0, v10) else (idx a0.Levels 0 fun el12 => ((bif (decide (a1.X0 < 0)) then some true else some (decide (a1.X1 < a1.X0))).bind fun b32 => ((bif b32 then some true else some (decide (el12.W ≤ a1.X1))).bind fun b35 => ((bif b35 then some true else some (decide (a1.Y0 < 0))).bind fun b38 => ((bif b38 then some true else some (decide (a1.Y1 < a1.Y0))).bind fun b41 => ((bif b41 then some true else some (decide (el12.H ≤ a1.Y1))).bind fun b44 => (bif b44 then some (0, 2) else m18_l1 K a1 el12 K 66560 a1.Y0)))))))))
set_option maxRecDepth 100000 in
set_option maxHeartbeats 4000000 in
theorem c18 (ok : Okp) (K : Nat) (w : World) (a0 : S_Pyramid) (A1 : Option Addr) (cp2 : Nat) (a1 : S_Rect) (hR3 : Rd k_Level w ok A1 cp2 a0.Levels) (res : Int × Int) (hm : m18 K a0 a1 = some res) :
  Calls Try.prog 18 #[.agg #[.slice A1 a0.Levels.length cp2], .agg #[.int .i64 a1.X0, .int .i64 a1.Y0, .int .i64 a1.X1, .int .i64 a1.Y1]] w (fun e w' => e = .returned (tup [.int .i64 res.1, .int .i64 res.2]) ∧ Sep ok w w' [] []) := by
 refine calls_W (args := [.agg #[.slice A1 a0.Levels.length cp2], .agg #[.int .i64 a1.X0, .int .i64 a1.Y0, .int .i64 a1.X1, .int .i64 a1.Y1]]) Try.func18 rfl Try.ntmps18 Try.results18 rfl fun r hr => ?_
 obtain ⟨r1, rfl⟩ := regen (r := r) [(0, .agg #[.slice A1 a0.Levels.length cp2]), (1, .agg #[.int .i64 a1.X0, .int .i64 a1.Y0, .int .i64 a1.X1, .int .i64 a1.Y1])] ⟨hr 0 _ rfl, hr 1 _ rfl, trivial⟩
 have H : Sep ok w w [] [RE.rd k_Level A1 cp2 a0.Levels] := Sep.arg (Sep.start ok w) (re := RE.rd k_Level A1 cp2 a0.Levels) rfl rfl hR3
 unfold m18 at hm
 refine W_seq ?_
 refine W_region ?_
 refine RL_cons (O_box (by exact wn0 rfl) (by rfl) (by rfl) (by rfl) H (fun w6 b5 (H : Sep ok w w6 [.blk b5 28 [.slice A1 a0.Levels.length cp2]] [RE.rd k_Level A1 cp2 a0.Levels]) => ?_))
 refine RL_cons (O_box (by exact wn0 rfl) (by rfl) (by rfl) (by rfl) H (fun w8 b7 (H : Sep ok w w8 [.blk b5 28 [.slice A1 a0.Levels.length cp2], .blk b7 30 [.int .i64 a1.X0, .int .i64 a1.Y0, .int .i64 a1.X1, .int .i64 a1.Y1]] [RE.rd k_Level A1 cp2 a0.Levels]) => ?_))
 refine RL_pure (by exact wn0 rfl) (by rfl) (by rfl) (x_assign (v := .int .i64 0) (by rfl)) ?_
 refine RL_pure (by exact wn0 rfl) (by rfl) (by rfl) (x_assign (v := .int .i64 0) (by rfl)) ?_
 refine RL_nil ?_
 refine W_seq ?_
 refine W_region ?_
 refine RL_pure (by exact wn0 rfl) (by rfl) (by rfl) (x_loadA (j := 0) (vs := [.slice A1 a0.Levels.length cp2]) ag28 (by rfl) (H.cells (i := 0) (by rfl)) (by rfl) (by rfl)) ?_
 obtain ⟨v10, hv9, hm⟩ := bind_some hm
 refine RL_cons (O_call (by exact wn0 rfl) (by rfl) (by rfl) (x_callL (by rfl) (args := [.agg #[.slice A1 a0.Levels.length cp2]]) (by rfl) (cf23 _ _)) (c23 okT K w8 a0 A1 cp2 (H.rd (i := 0) (by rfl)).any v10 hv9) ?_)
 rintro e w11 ⟨rfl, H2⟩
 have H : Sep ok w w11 [.blk b5 28 [.slice A1 a0.Levels.length cp2], .blk b7 30 [.int .i64 a1.X0, .int .i64 a1.Y0, .int .i64 a1.X1, .int .i64 a1.Y1]] [RE.rd k_Level A1 cp2 a0.Levels] := H.below H2.base
 clear H2
 refine ⟨_, rfl, ?_⟩
 show RL _ _ _ _ _ _ _
 refine RL_pure (by exact wn0 rfl) (by rfl) (by rfl) (x_assign (v := .int .i64 v10) (by rfl)) ?_
 refine RL_nil ?_
 refine W_seq ?_
 refine W_seq ?_
 refine W_region ?_
 refine RL_pure (by exact wn0 rfl) (by rfl) (by rfl) (x_move (v := .int .i64 v10) (by rfl)) ?_
 refine RL_pure (by exact wn0 rfl) (by rfl) (by rfl) (x_neq (by rfl) (by rfl)) ?_
 refine RL_nil ?_
 refine W_cond (by rfl) (fun hb => ?_) (fun hb => ?_)
 ·have hm := cond_t hb hm
  refine W_seq ?_
  refine W_region ?_
  refine RL_pure (by exact wn0 rfl) (by rfl) (by rfl) (x_move (v := .int .i64 v10) (by rfl)) ?_
  refine RL_pure (by exact wn0 rfl) (by rfl) (by rfl) (x_assign (v := .int .i64 0) (by rfl)) ?_
  refine RL_pure (by exact wn0 rfl) (by rfl) (by rfl) (x_assign (v := .int .i64 v10) (by rfl)) ?_
  refine RL_nil ?_
  refine W_ret ?_
  obtain rfl := Option.some.inj hm
  exact ⟨[.int .i64 0, .int .i64 v10], (.tmp (by rfl) (.tmp (by rfl) rfl)), rfl, H.none_⟩
 ·have hm := cond_f hb hm
  refine W_skip ?_
  refine W_seq ?_
  refine W_region ?_
  refine RL_pure (by exact wn0 rfl) (by rfl) (by rfl) (x_fieldAddr fo28_0 (by rfl)) ?_
  refine RL_pure (by exact wn0 rfl) (by rfl) (by rfl) (x_load (j := 0) (v := .slice A1 a0.Levels.length cp2) sc26 (by rfl) (H.cells (i := 0) (by rfl)) (by rfl)) ?_
  obtain ⟨el12, h13, h14, he15, hm⟩ := idx_some hm
  obtain ⟨g17, o18, hA16⟩ := (H.rd (i := 0) (by rfl)).addr he15
  obtain ⟨cs19, hk20, hat21, hg_cs19⟩ := (H.rd (i := 0) (by rfl)).openAt hA16 he15
  obtain ⟨A24, cp25, rfl, hR27⟩ := hk20
  have H : Sep ok w w11 [.blk b5 28 [.slice A1 a0.Levels.length cp2], .blk b7 30 [.int .i64 a1.X0, .int .i64 a1.Y0, .int .i64 a1.X1, .int .i64 a1.Y1]] [RE.rd k_Level A1 cp2 a0.Levels, RE.cells g17 (o18 + (0 : Int).toNat * 3) [.int .i64 el12.W, .int .i64 el12.H, .slice A24 el12.Low.length cp25]] := Sep.also H (re := RE.cells g17 (o18 + (0 : Int).toNat * 3) [.int .i64 el12.W, .int .i64 el12.H, .slice A24 el12.Low.length cp25]) ⟨hg_cs19, hat21⟩
  have H : Sep ok w w11 [.blk b5 28 [.slice A1 a0.Levels.length cp2], .blk b7 30 [.int .i64 a1.X0, .int .i64 a1.Y0, .int .i64 a1.X1, .int .i64 a1.Y1]] [RE.rd k_Level A1 cp2 a0.Levels, RE.cells g17 (o18 + (0 : Int).toNat * 3) [.int .i64 el12.W, .int .i64 el12.H, .slice A24 el12.Low.length cp25], RE.rd kInt A24 cp25 el12.Low] := Sep.also H (re := RE.rd kInt A24 cp25 el12.Low) hR27
  refine RL_pure (by exact wn0 rfl) (by rfl) (by rfl) (x_indexAddr sl26 sz54 (by rfl) (by rfl) hA16 h13 h14) ?_
  refine RL_pure (by exact wn0 rfl) (by rfl) (by rfl) (x_loadA (j := 0) (vs := [.int .i64 el12.W, .int .i64 el12.H, .slice A24 el12.Low.length cp25]) ag54 (by rfl) (H.cellsR (i := 1) (by rfl)) (by rfl) (by rfl)) ?_
  refine RL_cons (O_alloc (by exact wn0 rfl) (by rfl) ze54 (by rfl) H (fun w30 b29 (H : Sep ok w w30 [.blk b5 28 [.slice A1 a0.Levels.length cp2], .blk b7 30 [.int .i64 a1.X0, .int .i64 a1.Y0, .int .i64 a1.X1, .int .i64 a1.Y1], .blk b29 54 [.int .i64 0, .int .i64 0, .slice none 0 0]] [RE.rd k_Level A1 cp2 a0.Levels, RE.cells g17 (o18 + (0 : Int).toNat * 3) [.int .i64 el12.W, .int .i64 el12.H, .slice A24 el12.Low.length cp25], RE.rd kInt A24 cp25 el12.Low]) => ?_))
  refine RL_cons (O_store (i := 2) (off := 0) (by exact wn0 rfl) (by rfl) (by rfl) H (by rfl) (vs := [.int .i64 el12.W, .int .i64 el12.H, .slice A24 el12.Low.length cp25]) (by rfl) sz54 (by rfl) (by rfl) (by rfl) (fun w31 (H : Sep ok w w31 [.blk b5 28 [.slice A1 a0.Levels.length cp2], .blk b7 30 [.int .i64 a1.X0, .int .i64 a1.Y0, .int .i64 a1.X1, .int .i64 a1.Y1], .blk b29 54 [.int .i64 el12.W, .int .i64 el12.H, .slice A24 el12.Low.length cp25]] [RE.rd k_Level A1 cp2 a0.Levels, RE.cells g17 (o18 + (0 : Int).toNat * 3) [.int .i64 el12.W, .int .i64 el12.H, .slice A24 el12.Low.length cp25], RE.rd kInt A24 cp25 el12.Low]) => ?_))
  refine RL_nil ?_
  refine W_seq ?_
  refine W_seq ?_
  refine W_region ?_
  refine RL_pure (by exact wn0 rfl) (by rfl) (by rfl) (x_fieldAddr fo30_0 (by rfl)) ?_
  refine RL_pure (by exact wn0 rfl) (by rfl) (by rfl) (x_load (j := 0) (v := .int .i64 a1.X0) sc3 (by rfl) (H.cells (i := 1) (by rfl)) (by rfl)) ?_
  refine RL_pure (by exact wn0 rfl) (by rfl) (by rfl) (x_lss (by rfl) (by rfl)) ?_
  refine RL_pure (by exact wn0 rfl) (by rfl) (by rfl) (x_move (v := .bool (decide (a1.X0 < 0))) (by rfl)) ?_
  obtain ⟨b32, hmS, hm⟩ := bind_some hm
  refine RL_cut 6 (fun r' w' => Agr [(29, .bool b32), (3, .pointer (some ⟨b7, 0, none⟩)), (7, .pointer (some ⟨b29, 0, none⟩))] r' ∧ Sep ok w w' [.blk b5 28 [.slice A1 a0.Levels.length cp2], .blk b7 30 [.int .i64 a1.X0, .int .i64 a1.Y0, .int .i64 a1.X1, .int .i64 a1.Y1], .blk b29 54 [.int .i64 el12.W, .int .i64 el12.H, .slice A24 el12.Low.length cp25]] [RE.rd k_Level A1 cp2 a0.Levels, RE.cells g17 (o18 + (0 : Int).toNat * 3) [.int .i64 el12.W, .int .i64 el12.H, .slice A24 el12.Low.length cp25], RE.rd kInt A24 cp25 el12.Low]) ?_ ?_
  ·cases hbS : (decide (a1.X0 < 0))
   ·have hm := cond_f hbS hmS
    refine RL_pure (by exact wn1 rfl rfl rfl rfl) (by rfl) (by rfl) (x_fieldAddr fo30_0 (by rfl)) ?_
    refine RL_pure (by exact wn1 rfl rfl rfl rfl) (by rfl) (by rfl) (x_load (j := 0) (v := .int .i64 a1.X0) sc3 (by rfl) (H.cells (i := 1) (by rfl)) (by rfl)) ?_
    refine RL_pure (by exact wn1 rfl rfl rfl rfl) (by rfl) (by rfl) (x_fieldAddr fo30_2 (by rfl)) ?_
    refine RL_pure (by exact wn1 rfl rfl rfl rfl) (by rfl) (by rfl) (x_load (j := 2) (v := .int .i64 a1.X1) sc3 (by rfl) (H.cells (i := 1) (by rfl)) (by rfl)) ?_
    refine RL_pure (by exact wn1 rfl rfl rfl rfl) (by rfl) (by rfl) (x_gtr (by rfl) (by rfl)) ?_
    refine RL_pure (by exact wn0 rfl) (by rfl) (by rfl) (x_pick_f (v := .bool (decide (a1.X1 < a1.X0))) (by rfl) (by rfl)) ?_
    refine RL_nil ?_
    exact ⟨⟨congrArg Value.bool (Option.some.inj hm), rfl, rfl, trivial⟩, H⟩
   ·have hm := cond_t hbS hmS
    refine RL_cons (OpR_off (by exact wn2 rfl rfl rfl rfl) (by rfl) (by rfl) ?_)
    refine RL_cons (OpR_off (by exact wn2 rfl rfl rfl rfl) (by rfl) (by rfl) ?_)
    refine RL_cons (OpR_off (by exact wn2 rfl rfl rfl rfl) (by rfl) (by rfl) ?_)
    refine RL_cons (OpR_off (by exact wn2 rfl rfl rfl rfl) (by rfl) (by rfl) ?_)
    refine RL_cons (OpR_off (by exact wn2 rfl rfl rfl rfl) (by rfl) (by rfl) ?_)
    refine RL_pure (by exact wn0 rfl) (by rfl) (by rfl) (x_pick_t (v := .bool true) (by rfl) (by rfl)) ?_
    refine RL_nil ?_
    exact ⟨⟨congrArg Value.bool (Option.some.inj hm), rfl, rfl, trivial⟩, H⟩
  ·rintro r' w' ⟨hA, H⟩
   obtain ⟨r33, rfl⟩ := regen _ hA; clear hA
   obtain ⟨w34, rfl⟩ : ∃ W : World, W = w' := ⟨_, rfl⟩
   show RL _ _ _ _ _ _ _
   refine RL_pure (by exact wn0 rfl) (by rfl) (by rfl) (x_move (v := .bool b32) (by rfl)) ?_
   obtain ⟨b35, hmS, hm⟩ := bind_some hm
   refine RL_cut 6 (fun r' w' => Agr [(36, .bool b35), (3, .pointer (some ⟨b7, 0, none⟩)), (7, .pointer (some ⟨b29, 0, none⟩))] r' ∧ Sep ok w w' [.blk b5 28 [.slice A1 a0.Levels.length cp2], .blk b7 30 [.int .i64 a1.X0, .int .i64 a1.Y0, .int .i64 a1.X1, .int .i64 a1.Y1], .blk b29 54 [.int .i64 el12.W, .int .i64 el12.H, .slice A24 el12.Low.length cp25]] [RE.rd k_Level A1 cp2 a0.Levels, RE.cells g17 (o18 + (0 : Int).toNat * 3) [.int .i64 el12.W, .int .i64 el12.H, .slice A24 el12.Low.length cp25], RE.rd kInt A24 cp25 el12.Low]) ?_ ?_
   ·cases hbS : b32
    ·have hm := cond_f hbS hmS
     refine RL_pure (by exact wn1 rfl rfl rfl rfl) (by rfl) (by rfl) (x_fieldAddr fo30_2 (by rfl)) ?_
     refine RL_pure (by exact wn1 rfl rfl rfl rfl) (by rfl) (by rfl) (x_load (j := 2) (v := .int .i64 a1.X1) sc3 (by rfl) (H.cells (i := 1) (by rfl)) (by rfl)) ?_
     refine RL_pure (by exact wn1 rfl rfl rfl rfl) (by rfl) (by rfl) (x_fieldAddr fo54_0 (by rfl)) ?_
     refine RL_pure (by exact wn1 rfl rfl rfl rfl) (by rfl) (by rfl) (x_load (j := 0) (v := .int .i64 el12.W) sc3 (by rfl) (H.cells (i := 2) (by rfl)) (by rfl)) ?_
     refine RL_pure (by exact wn1 rfl rfl rfl rfl) (by rfl) (by rfl) (x_geq (by rfl) (by rfl)) ?_
     refine RL_pure (by exact wn0 rfl) (by rfl) (by rfl) (x_pick_f (v := .bool (decide (el12.W ≤ a1.X1))) (by rfl) (by rfl)) ?_
     refine RL_nil ?_
     exact ⟨⟨congrArg Value.bool (Option.some.inj hm), rfl, rfl, trivial⟩, H⟩
    ·have hm := cond_t hbS hmS
     refine RL_cons (OpR_off (by exact wn2 rfl rfl rfl rfl) (by rfl) (by rfl) ?_)
     refine RL_cons (OpR_off (by exact wn2 rfl rfl rfl rfl) (by rfl) (by rfl) ?_)
     refine RL_cons (OpR_off (by exact wn2 rfl rfl rfl rfl) (by rfl) (by rfl) ?_)
     refine RL_cons (OpR_off (by exact wn2 rfl rfl rfl rfl) (by rfl) (by rfl) ?_)
     refine RL_cons (OpR_off (by exact wn2 rfl rfl rfl rfl) (by rfl) (by rfl) ?_)
     refine RL_pure (by exact wn0 rfl) (by rfl) (by rfl) (x_pick_t (v := .bool true) (by rfl) (by rfl)) ?_
     refine RL_nil ?_
     exact ⟨⟨congrArg Value.bool (Option.some.inj hm), rfl, rfl, trivial⟩, H⟩
   ·rintro r' w' ⟨hA, H⟩
    obtain ⟨r36, rfl⟩ := regen _ hA; clear hA
    obtain ⟨w37, rfl⟩ : ∃ W : World, W = w' := ⟨_, rfl⟩
    show RL _ _ _ _ _ _ _
    refine RL_pure (by exact wn0 rfl) (by rfl) (by rfl) (x_move (v := .bool b35) (by rfl)) ?_
    obtain ⟨b38, hmS, hm⟩ := bind_some hm
    refine RL_cut 4 (fun r' w' => Agr [(41, .bool b38), (3, .pointer (some ⟨b7, 0, none⟩)), (7, .pointer (some ⟨b29, 0, none⟩))] r' ∧ Sep ok w w' [.blk b5 28 [.slice A1 a0.Levels.length cp2], .blk b7 30 [.int .i64 a1.X0, .int .i64 a1.Y0, .int .i64 a1.X1, .int .i64 a1.Y1], .blk b29 54 [.int .i64 el12.W, .int .i64 el12.H, .slice A24 el12.Low.length cp25]] [RE.rd k_Level A1 cp2 a0.Levels, RE.cells g17 (o18 + (0 : Int).toNat * 3) [.int .i64 el12.W, .int .i64 el12.H, .slice A24 el12.Low.length cp25], RE.rd kInt A24 cp25 el12.Low]) ?_ ?_
    ·cases hbS : b35
     ·have hm := cond_f hbS hmS
      refine RL_pure (by exact wn1 rfl rfl rfl rfl) (by rfl) (by rfl) (x_fieldAddr fo30_1 (by rfl)) ?_
      refine RL_pure (by exact wn1 rfl rfl rfl rfl) (by rfl) (by rfl) (x_load (j := 1) (v := .int .i64 a1.Y0) sc3 (by rfl) (H.cells (i := 1) (by rfl)) (by rfl)) ?_
      refine RL_pure (by exact wn1 rfl rfl rfl rfl) (by rfl) (by rfl) (x_lss (by rfl) (by rfl)) ?_
      refine RL_pure (by exact wn0 rfl) (by rfl) (by rfl) (x_pick_f (v := .bool (decide (a1.Y0 < 0))) (by rfl) (by rfl)) ?_
      refine RL_nil ?_
      exact ⟨⟨congrArg Value.bool (Option.some.inj hm), rfl, rfl, trivial⟩, H⟩
     ·have hm := cond_t hbS hmS
      refine RL_cons (OpR_off (by exact wn2 rfl rfl rfl rfl) (by rfl) (by rfl) ?_)
      refine RL_cons (OpR_off (by exact wn2 rfl rfl rfl rfl) (by rfl) (by rfl) ?_)
      refine RL_cons (OpR_off (by exact wn2 rfl rfl rfl rfl) (by rfl) (by rfl) ?_)
      refine RL_pure (by exact wn0 rfl) (by rfl) (by rfl) (x_pick_t (v := .bool true) (by rfl) (by rfl)) ?_
      refine RL_nil ?_
      exact ⟨⟨congrArg Value.bool (Option.some.inj hm), rfl, rfl, trivial⟩, H⟩
    ·rintro r' w' ⟨hA, H⟩
     obtain ⟨r39, rfl⟩ := regen _ hA; clear hA
     obtain ⟨w40, rfl⟩ : ∃ W : World, W = w' := ⟨_, rfl⟩
     show RL _ _ _ _ _ _ _
     refine RL_pure (by exact wn0 rfl) (by rfl) (by rfl) (x_move (v := .bool b38) (by rfl)) ?_
     obtain ⟨b41, hmS, hm⟩ := bind_some hm
     refine RL_cut 6 (fun r' w' => Agr [(48, .bool b41), (3, .pointer (some ⟨b7, 0, none⟩)), (7, .pointer (some ⟨b29, 0, none⟩))] r' ∧ Sep ok w w' [.blk b5 28 [.slice A1 a0.Levels.length cp2], .blk b7 30 [.int .i64 a1.X0, .int .i64 a1.Y0, .int .i64 a1.X1, .int .i64 a1.Y1], .blk b29 54 [.int .i64 el12.W, .int .i64 el12.H, .slice A24 el12.Low.length cp25]] [RE.rd k_Level A1 cp2 a0.Levels, RE.cells g17 (o18 + (0 : Int).toNat * 3) [.int .i64 el12.W, .int .i64 el12.H, .slice A24 el12.Low.length cp25], RE.rd kInt A24 cp25 el12.Low]) ?_ ?_
     ·cases hbS : b38
      ·have hm := cond_f hbS hmS
       refine RL_pure (by exact wn1 rfl rfl rfl rfl) (by rfl) (by rfl) (x_fieldAddr fo30_1 (by rfl)) ?_
       refine RL_pure (by exact wn1 rfl rfl rfl rfl) (by rfl) (by rfl) (x_load (j := 1) (v := .int .i64 a1.Y0) sc3 (by rfl) (H.cells (i := 1) (by rfl)) (by rfl)) ?_
       refine RL_pure (by exact wn1 rfl rfl rfl rfl) (by rfl) (by rfl) (x_fieldAddr fo30_3 (by rfl)) ?_
       refine RL_pure (by exact wn1 rfl rfl rfl rfl) (by rfl) (by rfl) (x_load (j := 3) (v := .int .i64 a1.Y1) sc3 (by rfl) (H.cells (i := 1) (by rfl)) (by rfl)) ?_
       refine RL_pure (by exact wn1 rfl rfl rfl rfl) (by rfl) (by rfl) (x_gtr (by rfl) (by rfl)) ?_
       refine RL_pure (by exact wn0 rfl) (by rfl) (by rfl) (x_pick_f (v := .bool (decide (a1.Y1 < a1.Y0))) (by rfl) (by rfl)) ?_
       refine RL_nil ?_
       exact ⟨⟨congrArg Value.bool (Option.some.inj hm), rfl, rfl, trivial⟩, H⟩
      ·have hm := cond_t hbS hmS
       refine RL_cons (OpR_off (by exact wn2 rfl rfl rfl rfl) (by rfl) (by rfl) ?_)
       refine RL_cons (OpR_off (by exact wn2 rfl rfl rfl rfl) (by rfl) (by rfl) ?_)
       refine RL_cons (OpR_off (by exact wn2 rfl rfl rfl rfl) (by rfl) (by rfl) ?_)
       refine RL_cons (OpR_off (by exact wn2 rfl rfl rfl rfl) (by rfl) (by rfl) ?_)
       refine RL_cons (OpR_off (by exact wn2 rfl rfl rfl rfl) (by rfl) (by rfl) ?_)
       refine RL_pure (by exact wn0 rfl) (by rfl) (by rfl) (x_pick_t (v := .bool true) (by rfl) (by rfl)) ?_
       refine RL_nil ?_
       exact ⟨⟨congrArg Value.bool (Option.some.inj hm), rfl, rfl, trivial⟩, H⟩
     ·rintro r' w' ⟨hA, H⟩
      obtain ⟨r42, rfl⟩ := regen _ hA; clear hA
      obtain ⟨w43, rfl⟩ : ∃ W : World, W = w' := ⟨_, rfl⟩
      show RL _ _ _ _ _ _ _
      refine RL_pure (by exact wn0 rfl) (by rfl) (by rfl) (x_move (v := .bool b41) (by rfl)) ?_
      obtain ⟨b44, hmS, hm⟩ := bind_some hm
      refine RL_cut 6 (fun r' w' => Agr [(55, .bool b44), (3, .pointer (some ⟨b7, 0, none⟩)), (7, .pointer (some ⟨b29, 0, none⟩))] r' ∧ Sep ok w w' [.blk b5 28 [.slice A1 a0.Levels.length cp2], .blk b7 30 [.int .i64 a1.X0, .int .i64 a1.Y0, .int .i64 a1.X1, .int .i64 a1.Y1], .blk b29 54 [.int .i64 el12.W, .int .i64 el12.H, .slice A24 el12.Low.length cp25]] [RE.rd k_Level A1 cp2 a0.Levels, RE.cells g17 (o18 + (0 : Int).toNat * 3) [.int .i64 el12.W, .int .i64 el12.H, .slice A24 el12.Low.length cp25], RE.rd kInt A24 cp25 el12.Low]) ?_ ?_
      ·cases hbS : b41
       ·have hm := cond_f hbS hmS
        refine RL_pure (by exact wn1 rfl rfl rfl rfl) (by rfl) (by rfl) (x_fieldAddr fo30_3 (by rfl)) ?_
        refine RL_pure (by exact wn1 rfl rfl rfl rfl) (by rfl) (by rfl) (x_load (j := 3) (v := .int .i64 a1.Y1) sc3 (by rfl) (H.cells (i := 1) (by rfl)) (by rfl)) ?_
        refine RL_pure (by exact wn1 rfl rfl rfl rfl) (by rfl) (by rfl) (x_fieldAddr fo54_1 (by rfl)) ?_
        refine RL_pure (by exact wn1 rfl rfl rfl rfl) (by rfl) (by rfl) (x_load (j := 1) (v := .int .i64 el12.H) sc3 (by rfl) (H.cells (i := 2) (by rfl)) (by rfl)) ?_
        refine RL_pure (by exact wn1 rfl rfl rfl rfl) (by rfl) (by rfl) (x_geq (by rfl) (by rfl)) ?_
        refine RL_pure (by exact wn0 rfl) (by rfl) (by rfl) (x_pick_f (v := .bool (decide (el12.H ≤ a1.Y1))) (by rfl) (by rfl)) ?_
        refine RL_nil ?_
        exact ⟨⟨congrArg Value.bool (Option.some.inj hm), rfl, rfl, trivial⟩, H⟩
       ·have hm := cond_t hbS hmS
        refine RL_cons (OpR_off (by exact wn2 rfl rfl rfl rfl) (by rfl) (by rfl) ?_)
        refine RL_cons (OpR_off (by exact wn2 rfl rfl rfl rfl) (by rfl) (by rfl) ?_)
        refine RL_cons (OpR_off (by exact wn2 rfl rfl rfl rfl) (by rfl) (by rfl) ?_)
        refine RL_cons (OpR_off (by exact wn2 rfl rfl rfl rfl) (by rfl) (by rfl) ?_)
        refine RL_cons (OpR_off (by exact wn2 rfl rfl rfl rfl) (by rfl) (by rfl) ?_)
        refine RL_pure (by exact wn0 rfl) (by rfl) (by rfl) (x_pick_t (v := .bool true) (by rfl) (by rfl)) ?_
        refine RL_nil ?_
        exact ⟨⟨congrArg Value.bool (Option.some.inj hm), rfl, rfl, trivial⟩, H⟩
      ·rintro r' w' ⟨hA, H⟩
       obtain ⟨r45, rfl⟩ := regen _ hA; clear hA
       obtain ⟨w46, rfl⟩ : ∃ W : World, W = w' := ⟨_, rfl⟩
       show RL _ _ _ _ _ _ _
       refine RL_nil ?_
       refine W_cond (by rfl) (fun hb => ?_) (fun hb => ?_)
       ·have hm := cond_t hb hm
        refine W_seq ?_
        refine W_region ?_
        refine RL_pure (by exact wn0 rfl) (by rfl) (by rfl) (x_assign (v := .int .i64 0) (by rfl)) ?_
        refine RL_pure (by exact wn0 rfl) (by rfl) (by rfl) (x_assign (v := .int .i64 2) (by rfl)) ?_
        refine RL_nil ?_
        refine W_ret ?_
        obtain rfl := Option.some.inj hm
        exact ⟨[.int .i64 0, .int .i64 2], (.tmp (by rfl) (.tmp (by rfl) rfl)), rfl, H.none_⟩
       ·have hm := cond_f hb hm
        refine W_skip ?_
        refine W_seq ?_
        refine W_region ?_
        refine RL_pure (by exact wn0 rfl) (by rfl) (by rfl) (x_assign (v := .int .i64 66560) (by rfl)) ?_
        refine RL_nil ?_
        refine W_seq ?_
        refine W_seq ?_
        refine W_region ?_
        refine RL_pure (by exact wn0 rfl) (by rfl) (by rfl) (x_fieldAddr fo30_1 (by rfl)) ?_
        refine RL_pure (by exact wn0 rfl) (by rfl) (by rfl) (x_load (j := 1) (v := .int .i64 a1.Y0) sc3 (by rfl) (H.cells (i := 1) (by rfl)) (by rfl)) ?_
        refine RL_pure (by exact wn0 rfl) (by rfl) (by rfl) (x_assign (v := .int .i64 a1.Y0) (by rfl)) ?_
        refine RL_nil ?_
        refine W_block ?_
        refine W_loop (fun k1 r' w' => ∃ (y8_1 : Int), ∃ (y9_1 : Int), m18_l1 K a1 el12 k1 y8_1 y9_1 = some res ∧ Agr [(3, .pointer (some ⟨b7, 0, none⟩)), (7, .pointer (some ⟨b29, 0, none⟩)), (8, .int .i64 y8_1), (9, .int .i64 y9_1)] r' ∧ Sep ok w w' [.blk b5 28 [.slice A1 a0.Levels.length cp2], .blk b7 30 [.int .i64 a1.X0, .int .i64 a1.Y0, .int .i64 a1.X1, .int .i64 a1.Y1], .blk b29 54 [.int .i64 el12.W, .int .i64 el12.H, .slice A24 el12.Low.length cp25]] [RE.rd k_Level A1 cp2 a0.Levels, RE.cells g17 (o18 + (0 : Int).toNat * 3) [.int .i64 el12.W, .int .i64 el12.H, .slice A24 el12.Low.length cp25], RE.rd kInt A24 cp25 el12.Low]) K ?_ ?_
        ·exact ⟨66560, a1.Y0, hm, ⟨rfl, rfl, rfl, rfl, trivial⟩, H⟩
        ·rintro k1 r' w' ⟨y8_1, y9_1, hm, hA, H⟩
         obtain ⟨r47, rfl⟩ := regen _ hA; clear hA
         obtain ⟨w48, rfl⟩ : ∃ W : World, W = w' := ⟨_, rfl⟩
         cases k1 with
         | zero => exact (none_some hm).elim
         | succ k1 =>
          have hm : m18_l1b K a1 el12 (m18_l1 K a1 el12 k1) y8_1 y9_1 = some res := hm
          unfold m18_l1b at hm
          obtain ⟨rec1, hrec1⟩ : ∃ f, m18_l1 K a1 el12 k1 = f := ⟨_, rfl⟩
          rw [hrec1] at hm
          refine W_seq ?_
          refine W_seq ?_
          refine W_region ?_
          refine RL_pure (by exact wn0 rfl) (by rfl) (by rfl) (x_move (v := .int .i64 y9_1) (by rfl)) ?_
          refine RL_pure (by exact wn0 rfl) (by rfl) (by rfl) (x_fieldAddr fo30_3 (by rfl)) ?_
          refine RL_pure (by exact wn0 rfl) (by rfl) (by rfl) (x_load (j := 3) (v := .int .i64 a1.Y1) sc3 (by rfl) (H.cells (i := 1) (by rfl)) (by rfl)) ?_
          refine RL_pure (by exact wn0 rfl) (by rfl) (by rfl) (x_leq (by rfl) (by rfl)) ?_
          refine RL_nil ?_
          refine W_cond (by rfl) (fun hb => ?_) (fun hb => ?_)
          ·have hm := cond_t hb hm
           refine W_skip ?_
           refine W_seq ?_
           refine W_block ?_
           refine W_seq ?_
           refine W_region ?_
           refine RL_pure (by exact wn0 rfl) (by rfl) (by rfl) (x_fieldAddr fo30_0 (by rfl)) ?_
           refine RL_pure (by exact wn0 rfl) (by rfl) (by rfl) (x_load (j := 0) (v := .int .i64 a1.X0) sc3 (by rfl) (H.cells (i := 1) (by rfl)) (by rfl)) ?_
           refine RL_pure (by exact wn0 rfl) (by rfl) (by rfl) (x_assign (v := .int .i64 a1.X0) (by rfl)) ?_
           refine RL_nil ?_
           refine W_block ?_
           refine W_loop (fun k2 r' w' => ∃ (y10_2 : Int), ∃ (y8_2 : Int), m18_l2 K a1 el12 y9_1 rec1 k2 y10_2 y8_2 = some res ∧ Agr [(3, .pointer (some ⟨b7, 0, none⟩)), (7, .pointer (some ⟨b29, 0, none⟩)), (8, .int .i64 y8_2), (9, .int .i64 y9_1), (10, .int .i64 y10_2)] r' ∧ Sep ok w w' [.blk b5 28 [.slice A1 a0.Levels.length cp2], .blk b7 30 [.int .i64 a1.X0, .int .i64 a1.Y0, .int .i64 a1.X1, .int .i64 a1.Y1], .blk b29 54 [.int .i64 el12.W, .int .i64 el12.H, .slice A24 el12.Low.length cp25]] [RE.rd k_Level A1 cp2 a0.Levels, RE.cells g17 (o18 + (0 : Int).toNat * 3) [.int .i64 el12.W, .int .i64 el12.H, .slice A24 el12.Low.length cp25], RE.rd kInt A24 cp25 el12.Low]) K ?_ ?_
           ·exact ⟨a1.X0, y8_1, hm, ⟨rfl, rfl, rfl, rfl, rfl, trivial⟩, H⟩
           ·rintro k2 r' w' ⟨y10_2, y8_2, hm, hA, H⟩
            obtain ⟨r49, rfl⟩ := regen _ hA; clear hA
            obtain ⟨w50, rfl⟩ : ∃ W : World, W = w' := ⟨_, rfl⟩
            cases k2 with
            | zero => exact (none_some hm).elim
            | succ k2 =>
             have hm : m18_l2b K a1 el12 y9_1 rec1 (m18_l2 K a1 el12 y9_1 rec1 k2) y10_2 y8_2 = some res := hm
             unfold m18_l2b at hm
             obtain ⟨rec2, hrec2⟩ : ∃ f, m18_l2 K a1 el12 y9_1 rec1 k2 = f := ⟨_, rfl⟩
             rw [hrec2] at hm
             refine W_seq ?_
             refine W_seq ?_
             refine W_region ?_
             refine RL_pure (by exact wn0 rfl) (by rfl) (by rfl) (x_move (v := .int .i64 y10_2) (by rfl)) ?_
             refine RL_pure (by exact wn0 rfl) (by rfl) (by rfl) (x_fieldAddr fo30_2 (by rfl)) ?_
             refine RL_pure (by exact wn0 rfl) (by rfl) (by rfl) (x_load (j := 2) (v := .int .i64 a1.X1) sc3 (by rfl) (H.cells (i := 1) (by rfl)) (by rfl)) ?_
             refine RL_pure (by exact wn0 rfl) (by rfl) (by rfl) (x_leq (by rfl) (by rfl)) ?_
             refine RL_nil ?_
             refine W_cond (by rfl) (fun hb => ?_) (fun hb => ?_)
             ·have hm := cond_t hb hm
              refine W_skip ?_
              refine W_seq ?_
              refine W_block ?_
              refine W_region ?_
              refine RL_pure (by exact wn0 rfl) (by rfl) (by rfl) (x_move (v := .int .i64 y8_2) (by rfl)) ?_
              refine RL_pure (by exact wn0 rfl) (by rfl) (by rfl) (x_fieldAddr fo54_2 (by rfl)) ?_
              refine RL_pure (by exact wn0 rfl) (by rfl) (by rfl) (x_load (j := 2) (v := .slice A24 el12.Low.length cp25) sc23 (by rfl) (H.cells (i := 2) (by rfl)) (by rfl)) ?_
              refine RL_pure (by exact wn0 rfl) (by rfl) (by rfl) (x_move (v := .int .i64 y9_1) (by rfl)) ?_
              refine RL_pure (by exact wn0 rfl) (by rfl) (by rfl) (x_fieldAddr fo54_0 (by rfl)) ?_
              refine RL_pure (by exact wn0 rfl) (by rfl) (by rfl) (x_load (j := 0) (v := .int .i64 el12.W) sc3 (by rfl) (H.cells (i := 2) (by rfl)) (by rfl)) ?_
              obtain ⟨x51, ex51, qx51, ux51, hm⟩ := ck_some hm
              refine RL_pure (by exact wn0 rfl) (by rfl) (by rfl) (x_mul (by rfl) (by rfl) ux51) ?_
              refine RL_pure (by exact wn0 rfl) (by rfl) (by rfl) (x_move (v := .int .i64 y10_2) (by rfl)) ?_
              obtain ⟨x52, ex52, qx52, ux52, hm⟩ := ck_some hm
              refine RL_pure (by exact wn0 rfl) (by rfl) (by rfl) (x_add (by rfl) (by rfl) ux52) ?_
              obtain ⟨el53, h54, h55, he56, hm⟩ := idx_some hm
              obtain ⟨g58, o59, hA57⟩ := (H.rd (i := 2) (by rfl)).addr he56
              refine RL_pure (by exact wn0 rfl) (by rfl) (by rfl) (x_indexAddr sl23 sz3 (by rfl) (by rfl) hA57 h54 h55) ?_
              refine RL_pure (by exact wn0 rfl) (by rfl) (by rfl) (x_load (j := 0) (v := .int .i64 el53) sc3 (by rfl) (Rd.flatAt (n := 1) (H.rd (i := 2) (by rfl)) hA57 he56) (by rfl)) ?_
              refine RL_pure (by exact wn0 rfl) (by rfl) (by rfl) (x_min2 (by rfl) (by rfl)) ?_
              refine RL_pure (by exact wn0 rfl) (by rfl) (by rfl) (x_assign (v := .int .i64 (mn y8_2 el53)) (by rfl)) ?_
              refine RL_nil ?_
              refine W_region ?_
              refine RL_pure (by exact wn0 rfl) (by rfl) (by rfl) (x_move (v := .int .i64 y10_2) (by rfl)) ?_
              obtain ⟨x60, ex60, qx60, ux60, hm⟩ := ck_some hm
              refine RL_pure (by exact wn0 rfl) (by rfl) (by rfl) (x_add (by rfl) (by rfl) ux60) ?_
              refine RL_pure (by exact wn0 rfl) (by rfl) (by rfl) (x_assign (v := .int .i64 x60) (by rfl)) ?_
              refine RL_nil ?_
              subst hrec2
              exact ⟨k2, Nat.lt_succ_self k2, x60, (mn y8_2 el53), hm, ⟨rfl, rfl, rfl, rfl, rfl, trivial⟩, H⟩
             ·have hm := cond_f hb hm
              refine W_exit ?_
              refine W_region ?_
              refine RL_pure (by exact wn0 rfl) (by rfl) (by rfl) (x_move (v := .int .i64 y9_1) (by rfl)) ?_
              obtain ⟨x61, ex61, qx61, ux61, hm⟩ := ck_some hm
              refine RL_pure (by exact wn0 rfl) (by rfl) (by rfl) (x_add (by rfl) (by rfl) ux61) ?_
              refine RL_pure (by exact wn0 rfl) (by rfl) (by rfl) (x_assign (v := .int .i64 x61) (by rfl)) ?_
              refine RL_nil ?_
              subst hrec1
              exact ⟨k1, Nat.lt_succ_self k1, y8_2, x61, hm, ⟨rfl, rfl, rfl, rfl, trivial⟩, H⟩
          ·have hm := cond_f hb hm
           refine W_exit ?_
           refine W_seq ?_
           refine W_region ?_
           refine RL_pure (by exact wn0 rfl) (by rfl) (by rfl) (x_move (v := .int .i64 y8_1) (by rfl)) ?_
           refine RL_pure (by exact wn0 rfl) (by rfl) (by rfl) (x_assign (v := .int .i64 y8_1) (by rfl)) ?_
           refine RL_pure (by exact wn0 rfl) (by rfl) (by rfl) (x_assign (v := .int .i64 0) (by rfl)) ?_
           refine RL_nil ?_
           refine W_ret ?_
           obtain rfl := Option.some.inj hm
           exact ⟨[.int .i64 y8_1, .int .i64 0], (.tmp (by rfl) (.tmp (by rfl) rfl)), rfl, H.none_⟩
end Go.Proofs.YtobkigllalbkiaaV.M

/- A plain Lean function that answers as the Go function does (none: not told), and the proof that a call answers so. Written by program. -/
set_option linter.unusedVariables false
namespace Go.Proofs.YtobkigllalbkiaaV.M
open Go.RowKit Go.Proofs.YtobkigllalbkiaaV
/-- diorama/pyramid.Hidden -/
def m19 (K : Nat) (a0 : S_Pyramid) (a1 : S_Shade) : Option (Bool × Int) :=
 ((m17 K a0 a1.Rect).bind fun v10 => (bif (v10.2 != 0) then some (false, v10.2) else ((bif (decide (a1.D < (-1024))) then some true else some (decide (66560 < a1.D))).bind fun b12 => (bif b12 then some (false, 2) else some ((decide (a1.D < v10.1)), 0)))))
set_option maxRecDepth 100000 in
set_option maxHeartbeats 4000000 in
theorem c19 (ok : Okp) (K : Nat) (w : World) (a0 : S_Pyramid) (A1 : Option Addr) (cp2 : Nat) (a1 : S_Shade) (hR3 : Rd k_Level w ok A1 cp2 a0.Levels) (res : Bool × Int) (hm : m19 K a0 a1 = some res) :
  Calls Try.prog 19 #[.agg #[.slice A1 a0.Levels.length cp2], .agg #[.int .i64 a1.Rect.X0, .int .i64 a1.Rect.Y0, .int .i64 a1.Rect.X1, .int .i64 a1.Rect.Y1, .int .i64 a1.D]] w (fun e w' => e = .returned (tup [.bool res.1, .int .i64 res.2]) ∧ Sep ok w w' [] []) := by
 refine calls_W (args := [.agg #[.slice A1 a0.Levels.length cp2], .agg #[.int .i64 a1.Rect.X0, .int .i64 a1.Rect.Y0, .int .i64 a1.Rect.X1, .int .i64 a1.Rect.Y1, .int .i64 a1.D]]) Try.func19 rfl Try.ntmps19 Try.results19 rfl fun r hr => ?_
 obtain ⟨r1, rfl⟩ := regen (r := r) [(0, .agg #[.slice A1 a0.Levels.length cp2]), (1, .agg #[.int .i64 a1.Rect.X0, .int .i64 a1.Rect.Y0, .int .i64 a1.Rect.X1, .int .i64 a1.Rect.Y1, .int .i64 a1.D])] ⟨hr 0 _ rfl, hr 1 _ rfl, trivial⟩
 have H : Sep ok w w [] [RE.rd k_Level A1 cp2 a0.Levels] := Sep.arg (Sep.start ok w) (re := RE.rd k_Level A1 cp2 a0.Levels) rfl rfl hR3
 unfold m19 at hm
 refine W_seq ?_
 refine W_region ?_
 refine RL_cons (O_box (by exact wn0 rfl) (by rfl) (by rfl) (by rfl) H (fun w6 b5 (H : Sep ok w w6 [.blk b5 28 [.slice A1 a0.Levels.length cp2]] [RE.rd k_Level A1 cp2 a0.Levels]) => ?_))
 refine RL_cons (O_box (by exact wn0 rfl) (by rfl) (by rfl) (by rfl) H (fun w8 b7 (H : Sep ok w w8 [.blk b5 28 [.slice A1 a0.Levels.length cp2], .blk b7 32 [.int .i64 a1.Rect.X0, .int .i64 a1.Rect.Y0, .int .i64 a1.Rect.X1, .int .i64 a1.Rect.Y1, .int .i64 a1.D]] [RE.rd k_Level A1 cp2 a0.Levels]) => ?_))
 refine RL_pure (by exact wn0 rfl) (by rfl) (by rfl) (x_assign (v := .bool false) (by rfl)) ?_
 refine RL_pure (by exact wn0 rfl) (by rfl) (by rfl) (x_assign (v := .int .i64 0) (by rfl)) ?_
 refine RL_nil ?_
 refine W_seq ?_
 refine W_region ?_
 refine RL_pure (by exact wn0 rfl) (by rfl) (by rfl) (x_loadA (j := 0) (vs := [.slice A1 a0.Levels.length cp2]) ag28 (by rfl) (H.cells (i := 0) (by rfl)) (by rfl) (by rfl)) ?_
 refine RL_pure (by exact wn0 rfl) (by rfl) (by rfl) (x_fieldAddr fo32_0 (by rfl)) ?_
 refine RL_pure (by exact wn0 rfl) (by rfl) (by rfl) (x_loadA (j := 0) (vs := [.int .i64 a1.Rect.X0, .int .i64 a1.Rect.Y0, .int .i64 a1.Rect.X1, .int .i64 a1.Rect.Y1]) ag30 (by rfl) (H.cells (i := 1) (by rfl)) (by rfl) (by rfl)) ?_
 obtain ⟨v10, hv9, hm⟩ := bind_some hm
 refine RL_cons (O_call (by exact wn0 rfl) (by rfl) (by rfl) (x_callL (by rfl) (args := [.agg #[.slice A1 a0.Levels.length cp2], .agg #[.int .i64 a1.Rect.X0, .int .i64 a1.Rect.Y0, .int .i64 a1.Rect.X1, .int .i64 a1.Rect.Y1]]) (by rfl) (cf17 _ _)) (c17 okT K w8 a0 A1 cp2 a1.Rect (H.rd (i := 0) (by rfl)).any v10 hv9) ?_)
 rintro e w11 ⟨rfl, H2⟩
 have H : Sep ok w w11 [.blk b5 28 [.slice A1 a0.Levels.length cp2], .blk b7 32 [.int .i64 a1.Rect.X0, .int .i64 a1.Rect.Y0, .int .i64 a1.Rect.X1, .int .i64 a1.Rect.Y1, .int .i64 a1.D]] [RE.rd k_Level A1 cp2 a0.Levels] := H.below H2.base
 clear H2
 refine ⟨_, rfl, ?_⟩
 show RL _ _ _ _ _ _ _
 refine RL_pure (by exact wn0 rfl) (by rfl) (by rfl) (x_move (v := tup [.int .i64 v10.1, .int .i64 v10.2]) (by rfl)) ?_
 refine RL_pure (by exact wn0 rfl) (by rfl) (by rfl) (x_extract (v := .int .i64 v10.1) (by rfl) (by rfl)) ?_
 refine RL_pure (by exact wn0 rfl) (by rfl) (by rfl) (x_extract (v := .int .i64 v10.2) (by rfl) (by rfl)) ?_
 refine RL_pure (by exact wn0 rfl) (by rfl) (by rfl) (x_assign (v := .int .i64 v10.1) (by rfl)) ?_
 refine RL_pure (by exact wn0 rfl) (by rfl) (by rfl) (x_assign (v := .int .i64 v10.2) (by rfl)) ?_
 refine RL_nil ?_
 refine W_seq ?_
 refine W_seq ?_
 refine W_region ?_
 refine RL_pure (by exact wn0 rfl) (by rfl) (by rfl) (x_move (v := .int .i64 v10.2) (by rfl)) ?_
 refine RL_pure (by exact wn0 rfl) (by rfl) (by rfl) (x_neq (by rfl) (by rfl)) ?_
 refine RL_nil ?_
 refine W_cond (by rfl) (fun hb => ?_) (fun hb => ?_)
 ·have hm := cond_t hb hm
  refine W_seq ?_
  refine W_region ?_
  refine RL_pure (by exact wn0 rfl) (by rfl) (by rfl) (x_move (v := .int .i64 v10.2) (by rfl)) ?_
  refine RL_pure (by exact wn0 rfl) (by rfl) (by rfl) (x_assign (v := .bool false) (by rfl)) ?_
  refine RL_pure (by exact wn0 rfl) (by rfl) (by rfl) (x_assign (v := .int .i64 v10.2) (by rfl)) ?_
  refine RL_nil ?_
  refine W_ret ?_
  obtain rfl := Option.some.inj hm
  exact ⟨[.bool false, .int .i64 v10.2], (.tmp (by rfl) (.tmp (by rfl) rfl)), rfl, H.none_⟩
 ·have hm := cond_f hb hm
  refine W_skip ?_
  refine W_seq ?_
  refine W_seq ?_
  refine W_region ?_
  refine RL_pure (by exact wn0 rfl) (by rfl) (by rfl) (x_fieldAddr fo32_1 (by rfl)) ?_
  refine RL_pure (by exact wn0 rfl) (by rfl) (by rfl) (x_load (j := 4) (v := .int .i64 a1.D) sc3 (by rfl) (H.cells (i := 1) (by rfl)) (by rfl)) ?_
  refine RL_pure (by exact wn0 rfl) (by rfl) (by rfl) (x_lss (by rfl) (by rfl)) ?_
  refine RL_pure (by exact wn0 rfl) (by rfl) (by rfl) (x_move (v := .bool (decide (a1.D < (-1024)))) (by rfl)) ?_
  obtain ⟨b12, hmS, hm⟩ := bind_some hm
  refine RL_cut 4 (fun r' w' => Agr [(25, .bool b12), (3, .pointer (some ⟨b7, 0, none⟩)), (6, .int .i64 v10.1)] r' ∧ Sep ok w w' [.blk b5 28 [.slice A1 a0.Levels.length cp2], .blk b7 32 [.int .i64 a1.Rect.X0, .int .i64 a1.Rect.Y0, .int .i64 a1.Rect.X1, .int .i64 a1.Rect.Y1, .int .i64 a1.D]] [RE.rd k_Level A1 cp2 a0.Levels]) ?_ ?_
  ·cases hbS : (decide (a1.D < (-1024)))
   ·have hm := cond_f hbS hmS
    refine RL_pure (by exact wn1 rfl rfl rfl rfl) (by rfl) (by rfl) (x_fieldAddr fo32_1 (by rfl)) ?_
    refine RL_pure (by exact wn1 rfl rfl rfl rfl) (by rfl) (by rfl) (x_load (j := 4) (v := .int .i64 a1.D) sc3 (by rfl) (H.cells (i := 1) (by rfl)) (by rfl)) ?_
    refine RL_pure (by exact wn1 rfl rfl rfl rfl) (by rfl) (by rfl) (x_gtr (by rfl) (by rfl)) ?_
    refine RL_pure (by exact wn0 rfl) (by rfl) (by rfl) (x_pick_f (v := .bool (decide (66560 < a1.D))) (by rfl) (by rfl)) ?_
    refine RL_nil ?_
    exact ⟨⟨congrArg Value.bool (Option.some.inj hm), rfl, rfl, trivial⟩, H⟩
   ·have hm := cond_t hbS hmS
    refine RL_cons (OpR_off (by exact wn2 rfl rfl rfl rfl) (by rfl) (by rfl) ?_)
    refine RL_cons (OpR_off (by exact wn2 rfl rfl rfl rfl) (by rfl) (by rfl) ?_)
    refine RL_cons (OpR_off (by exact wn2 rfl rfl rfl rfl) (by rfl) (by rfl) ?_)
    refine RL_pure (by exact wn0 rfl) (by rfl) (by rfl) (x_pick_t (v := .bool true) (by rfl) (by rfl)) ?_
    refine RL_nil ?_
    exact ⟨⟨congrArg Value.bool (Option.some.inj hm), rfl, rfl, trivial⟩, H⟩
  ·rintro r' w' ⟨hA, H⟩
   obtain ⟨r13, rfl⟩ := regen _ hA; clear hA
   obtain ⟨w14, rfl⟩ : ∃ W : World, W = w' := ⟨_, rfl⟩
   show RL _ _ _ _ _ _ _
   refine RL_nil ?_
   refine W_cond (by rfl) (fun hb => ?_) (fun hb => ?_)
   ·have hm := cond_t hb hm
    refine W_seq ?_
    refine W_region ?_
    refine RL_pure (by exact wn0 rfl) (by rfl) (by rfl) (x_assign (v := .bool false) (by rfl)) ?_
    refine RL_pure (by exact wn0 rfl) (by rfl) (by rfl) (x_assign (v := .int .i64 2) (by rfl)) ?_
    refine RL_nil ?_
    refine W_ret ?_
    obtain rfl := Option.some.inj hm
    exact ⟨[.bool false, .int .i64 2], (.tmp (by rfl) (.tmp (by rfl) rfl)), rfl, H.none_⟩
   ·have hm := cond_f hb hm
    refine W_skip ?_
    refine W_seq ?_
    refine W_region ?_
    refine RL_pure (by exact wn0 rfl) (by rfl) (by rfl) (x_move (v := .int .i64 v10.1) (by rfl)) ?_
    refine RL_pure (by exact wn0 rfl) (by rfl) (by rfl) (x_fieldAddr fo32_1 (by rfl)) ?_
    refine RL_pure (by exact wn0 rfl) (by rfl) (by rfl) (x_load (j := 4) (v := .int .i64 a1.D) sc3 (by rfl) (H.cells (i := 1) (by rfl)) (by rfl)) ?_
    refine RL_pure (by exact wn0 rfl) (by rfl) (by rfl) (x_gtr (by rfl) (by rfl)) ?_
    refine RL_pure (by exact wn0 rfl) (by rfl) (by rfl) (x_assign (v := .bool (decide (a1.D < v10.1))) (by rfl)) ?_
    refine RL_pure (by exact wn0 rfl) (by rfl) (by rfl) (x_assign (v := .int .i64 0) (by rfl)) ?_
    refine RL_nil ?_
    refine W_ret ?_
    obtain rfl := Option.some.inj hm
    exact ⟨[.bool (decide (a1.D < v10.1)), .int .i64 0], (.tmp (by rfl) (.tmp (by rfl) rfl)), rfl, H.none_⟩
end Go.Proofs.YtobkigllalbkiaaV.M

/- A plain Lean function that answers as the Go function does (none: not told), and the proof that a call answers so. Written by program. -/
set_option linter.unusedVariables false
namespace Go.Proofs.YtobkigllalbkiaaV.M
open Go.RowKit Go.Proofs.YtobkigllalbkiaaV
def m20_j1 (K : Nat) (a1 : S_Shade) (v10 : Int × Int) (y7_1 : Int) : Option (Bool × Int) :=
 (bif (y7_1 != 0) then some (false, y7_1) else some ((decide (a1.D < v10.1)), 0))
/-- diorama/dioramaref27.Hidden -/
def m20 (K : Nat) (a0 : S_Pyramid) (a1 : S_Shade) : Option (Bool × Int) :=
 ((m18 K a0 a1.Rect).bind fun v10 => ((bif (v10.2 == 0) then ((bif (decide (a1.D < (-1024))) then some true else some (decide (66560 < a1.D))).bind fun b13 => some b13) else some false).bind fun b12 => (bif b12 then (m20_j1 K a1 v10 2) else (m20_j1 K a1 v10 v10.2))))
set_option maxRecDepth 100000 in
set_option maxHeartbeats 4000000 in
theorem c20 (ok : Okp) (K : Nat) (w : World) (a0 : S_Pyramid) (A1 : Option Addr) (cp2 : Nat) (a1 : S_Shade) (hR3 : Rd k_Level w ok A1 cp2 a0.Levels) (res : Bool × Int) (hm : m20 K a0 a1 = some res) :
  Calls Try.prog 20 #[.agg #[.slice A1 a0.Levels.length cp2], .agg #[.int .i64 a1.Rect.X0, .int .i64 a1.Rect.Y0, .int .i64 a1.Rect.X1, .int .i64 a1.Rect.Y1, .int .i64 a1.D]] w (fun e w' => e = .returned (tup [.bool res.1, .int .i64 res.2]) ∧ Sep ok w w' [] []) := by
 refine calls_W (args := [.agg #[.slice A1 a0.Levels.length cp2], .agg #[.int .i64 a1.Rect.X0, .int .i64 a1.Rect.Y0, .int .i64 a1.Rect.X1, .int .i64 a1.Rect.Y1, .int .i64 a1.D]]) Try.func20 rfl Try.ntmps20 Try.results20 rfl fun r hr => ?_
 obtain ⟨r1, rfl⟩ := regen (r := r) [(0, .agg #[.slice A1 a0.Levels.length cp2]), (1, .agg #[.int .i64 a1.Rect.X0, .int .i64 a1.Rect.Y0, .int .i64 a1.Rect.X1, .int .i64 a1.Rect.Y1, .int .i64 a1.D])] ⟨hr 0 _ rfl, hr 1 _ rfl, trivial⟩
 have H : Sep ok w w [] [RE.rd k_Level A1 cp2 a0.Levels] := Sep.arg (Sep.start ok w) (re := RE.rd k_Level A1 cp2 a0.Levels) rfl rfl hR3
 unfold m20 at hm
 refine W_seq ?_
 refine W_region ?_
 refine RL_cons (O_box (by exact wn0 rfl) (by rfl) (by rfl) (by rfl) H (fun w6 b5 (H : Sep ok w w6 [.blk b5 28 [.slice A1 a0.Levels.length cp2]] [RE.rd k_Level A1 cp2 a0.Levels]) => ?_))
 refine RL_cons (O_box (by exact wn0 rfl) (by rfl) (by rfl) (by rfl) H (fun w8 b7 (H : Sep ok w w8 [.blk b5 28 [.slice A1 a0.Levels.length cp2], .blk b7 32 [.int .i64 a1.Rect.X0, .int .i64 a1.Rect.Y0, .int .i64 a1.Rect.X1, .int .i64 a1.Rect.Y1, .int .i64 a1.D]] [RE.rd k_Level A1 cp2 a0.Levels]) => ?_))
 refine RL_pure (by exact wn0 rfl) (by rfl) (by rfl) (x_assign (v := .bool false) (by rfl)) ?_
 refine RL_pure (by exact wn0 rfl) (by rfl) (by rfl) (x_assign (v := .int .i64 0) (by rfl)) ?_
 refine RL_nil ?_
 refine W_seq ?_
 refine W_region ?_
 refine RL_pure (by exact wn0 rfl) (by rfl) (by rfl) (x_loadA (j := 0) (vs := [.slice A1 a0.Levels.length cp2]) ag28 (by rfl) (H.cells (i := 0) (by rfl)) (by rfl) (by rfl)) ?_
 refine RL_pure (by exact wn0 rfl) (by rfl) (by rfl) (x_fieldAddr fo32_0 (by rfl)) ?_
 refine RL_pure (by exact wn0 rfl) (by rfl) (by rfl) (x_loadA (j := 0) (vs := [.int .i64 a1.Rect.X0, .int .i64 a1.Rect.Y0, .int .i64 a1.Rect.X1, .int .i64 a1.Rect.Y1]) ag30 (by rfl) (H.cells (i := 1) (by rfl)) (by rfl) (by rfl)) ?_
 obtain ⟨v10, hv9, hm⟩ := bind_some hm
 refine RL_cons (O_call (by exact wn0 rfl) (by rfl) (by rfl) (x_callL (by rfl) (args := [.agg #[.slice A1 a0.Levels.length cp2], .agg #[.int .i64 a1.Rect.X0, .int .i64 a1.Rect.Y0, .int .i64 a1.Rect.X1, .int .i64 a1.Rect.Y1]]) (by rfl) (cf18 _ _)) (c18 okT K w8 a0 A1 cp2 a1.Rect (H.rd (i := 0) (by rfl)).any v10 hv9) ?_)
 rintro e w11 ⟨rfl, H2⟩
 have H : Sep ok w w11 [.blk b5 28 [.slice A1 a0.Levels.length cp2], .blk b7 32 [.int .i64 a1.Rect.X0, .int .i64 a1.Rect.Y0, .int .i64 a1.Rect.X1, .int .i64 a1.Rect.Y1, .int .i64 a1.D]] [RE.rd k_Level A1 cp2 a0.Levels] := H.below H2.base
 clear H2
 refine ⟨_, rfl, ?_⟩
 show RL _ _ _ _ _ _ _
 refine RL_pure (by exact wn0 rfl) (by rfl) (by rfl) (x_move (v := tup [.int .i64 v10.1, .int .i64 v10.2]) (by rfl)) ?_
 refine RL_pure (by exact wn0 rfl) (by rfl) (by rfl) (x_extract (v := .int .i64 v10.1) (by rfl) (by rfl)) ?_
 refine RL_pure (by exact wn0 rfl) (by rfl) (by rfl) (x_extract (v := .int .i64 v10.2) (by rfl) (by rfl)) ?_
 refine RL_pure (by exact wn0 rfl) (by rfl) (by rfl) (x_assign (v := .int .i64 v10.1) (by rfl)) ?_
 refine RL_pure (by exact wn0 rfl) (by rfl) (by rfl) (x_assign (v := .int .i64 v10.2) (by rfl)) ?_
 refine RL_nil ?_
 refine W_join (fun r' w' => ∃ (y7_1 : Int), m20_j1 K a1 v10 y7_1 = some res ∧ Agr [(3, .pointer (some ⟨b7, 0, none⟩)), (6, .int .i64 v10.1), (7, .int .i64 y7_1)] r' ∧ Sep ok w w' [.blk b5 28 [.slice A1 a0.Levels.length cp2], .blk b7 32 [.int .i64 a1.Rect.X0, .int .i64 a1.Rect.Y0, .int .i64 a1.Rect.X1, .int .i64 a1.Rect.Y1, .int .i64 a1.D]] [RE.rd k_Level A1 cp2 a0.Levels]) ?_ ?_
 ·show W _ _ _ _ _ _
  refine W_seq ?_
  refine W_region ?_
  refine RL_pure (by exact wn0 rfl) (by rfl) (by rfl) (x_move (v := .int .i64 v10.2) (by rfl)) ?_
  refine RL_pure (by exact wn0 rfl) (by rfl) (by rfl) (x_eql (by rfl) (by rfl)) ?_
  refine RL_pure (by exact wn0 rfl) (by rfl) (by rfl) (x_move (v := .bool (v10.2 == 0)) (by rfl)) ?_
  obtain ⟨b12, hmS, hm⟩ := bind_some hm
  refine RL_cut 9 (fun r' w' => Agr [(26, .bool b12), (3, .pointer (some ⟨b7, 0, none⟩)), (6, .int .i64 v10.1), (7, .int .i64 v10.2)] r' ∧ Sep ok w w' [.blk b5 28 [.slice A1 a0.Levels.length cp2], .blk b7 32 [.int .i64 a1.Rect.X0, .int .i64 a1.Rect.Y0, .int .i64 a1.Rect.X1, .int .i64 a1.Rect.Y1, .int .i64 a1.D]] [RE.rd k_Level A1 cp2 a0.Levels]) ?_ ?_
  ·cases hbS : (v10.2 == 0)
   ·have hm := cond_f hbS hmS
    refine RL_cons (OpR_off (by exact wn2 rfl rfl rfl rfl) (by rfl) (by rfl) ?_)
    refine RL_cons (OpR_off (by exact wn2 rfl rfl rfl rfl) (by rfl) (by rfl) ?_)
    refine RL_cons (OpR_off (by exact wn2 rfl rfl rfl rfl) (by rfl) (by rfl) ?_)
    refine RL_cons (OpR_off (by exact wn2 rfl rfl rfl rfl) (by rfl) (by rfl) ?_)
    refine RL_cons (OpR_off (by exact wn3 rfl rfl rfl) (by rfl) (by rfl) ?_)
    refine RL_cons (OpR_off (by exact wn3 rfl rfl rfl) (by rfl) (by rfl) ?_)
    refine RL_cons (OpR_off (by exact wn3 rfl rfl rfl) (by rfl) (by rfl) ?_)
    refine RL_cons (OpR_off (by exact wn2 rfl rfl rfl rfl) (by rfl) (by rfl) ?_)
    refine RL_pure (by exact wn0 rfl) (by rfl) (by rfl) (x_pick_f (v := .bool false) (by rfl) (by rfl)) ?_
    refine RL_nil ?_
    exact ⟨⟨congrArg Value.bool (Option.some.inj hm), rfl, rfl, rfl, trivial⟩, H⟩
   ·have hm := cond_t hbS hmS
    refine RL_pure (by exact wn1 rfl rfl rfl rfl) (by rfl) (by rfl) (x_fieldAddr fo32_1 (by rfl)) ?_
    refine RL_pure (by exact wn1 rfl rfl rfl rfl) (by rfl) (by rfl) (x_load (j := 4) (v := .int .i64 a1.D) sc3 (by rfl) (H.cells (i := 1) (by rfl)) (by rfl)) ?_
    refine RL_pure (by exact wn1 rfl rfl rfl rfl) (by rfl) (by rfl) (x_lss (by rfl) (by rfl)) ?_
    refine RL_pure (by exact wn1 rfl rfl rfl rfl) (by rfl) (by rfl) (x_move (v := .bool (decide (a1.D < (-1024)))) (by rfl)) ?_
    obtain ⟨b13, hmS, hm⟩ := bind_some hm
    refine RL_cut 4 (fun r' w' => Agr [(25, .bool b13), (3, .pointer (some ⟨b7, 0, none⟩)), (6, .int .i64 v10.1), (7, .int .i64 v10.2), (17, .bool true)] r' ∧ Sep ok w w' [.blk b5 28 [.slice A1 a0.Levels.length cp2], .blk b7 32 [.int .i64 a1.Rect.X0, .int .i64 a1.Rect.Y0, .int .i64 a1.Rect.X1, .int .i64 a1.Rect.Y1, .int .i64 a1.D]] [RE.rd k_Level A1 cp2 a0.Levels]) ?_ ?_
    ·cases hbS : (decide (a1.D < (-1024)))
     ·have hm := cond_f hbS hmS
      refine RL_pure (by exact wn1 rfl rfl rfl rfl) (by rfl) (by rfl) (x_fieldAddr fo32_1 (by rfl)) ?_
      refine RL_pure (by exact wn1 rfl rfl rfl rfl) (by rfl) (by rfl) (x_load (j := 4) (v := .int .i64 a1.D) sc3 (by rfl) (H.cells (i := 1) (by rfl)) (by rfl)) ?_
      refine RL_pure (by exact wn1 rfl rfl rfl rfl) (by rfl) (by rfl) (x_gtr (by rfl) (by rfl)) ?_
      refine RL_pure (by exact wn1 rfl rfl rfl rfl) (by rfl) (by rfl) (x_pick_f (v := .bool (decide (66560 < a1.D))) (by rfl) (by rfl)) ?_
      refine RL_nil ?_
      exact ⟨⟨congrArg Value.bool (Option.some.inj hm), rfl, rfl, rfl, rfl, trivial⟩, H⟩
     ·have hm := cond_t hbS hmS
      refine RL_cons (OpR_off (by exact wn2 rfl rfl rfl rfl) (by rfl) (by rfl) ?_)
      refine RL_cons (OpR_off (by exact wn2 rfl rfl rfl rfl) (by rfl) (by rfl) ?_)
      refine RL_cons (OpR_off (by exact wn2 rfl rfl rfl rfl) (by rfl) (by rfl) ?_)
      refine RL_pure (by exact wn1 rfl rfl rfl rfl) (by rfl) (by rfl) (x_pick_t (v := .bool true) (by rfl) (by rfl)) ?_
      refine RL_nil ?_
      exact ⟨⟨congrArg Value.bool (Option.some.inj hm), rfl, rfl, rfl, rfl, trivial⟩, H⟩
    ·rintro r' w' ⟨hA, H⟩
     obtain ⟨r14, rfl⟩ := regen _ hA; clear hA
     obtain ⟨w15, rfl⟩ : ∃ W : World, W = w' := ⟨_, rfl⟩
     show RL _ _ _ _ _ _ _
     refine RL_pure (by exact wn0 rfl) (by rfl) (by rfl) (x_pick_t (v := .bool b13) (by rfl) (by rfl)) ?_
     refine RL_nil ?_
     exact ⟨⟨congrArg Value.bool (Option.some.inj hm), rfl, rfl, rfl, trivial⟩, H⟩
  ·rintro r' w' ⟨hA, H⟩
   obtain ⟨r16, rfl⟩ := regen _ hA; clear hA
   obtain ⟨w17, rfl⟩ : ∃ W : World, W = w' := ⟨_, rfl⟩
   show RL _ _ _ _ _ _ _
   refine RL_nil ?_
   refine W_cond (by rfl) (fun hb => ?_) (fun hb => ?_)
   ·have hm := cond_t hb hm
    refine W_region ?_
    refine RL_pure (by exact wn0 rfl) (by rfl) (by rfl) (x_assign (v := .int .i64 2) (by rfl)) ?_
    refine RL_nil ?_
    exact ⟨2, hm, ⟨rfl, rfl, rfl, trivial⟩, H⟩
   ·have hm := cond_f hb hm
    refine W_skip ?_
    exact ⟨v10.2, hm, ⟨rfl, rfl, rfl, trivial⟩, H⟩
 ·rintro r' w' ⟨y7_1, hm, hA, H⟩
  obtain ⟨r18, rfl⟩ := regen _ hA; clear hA
  obtain ⟨w19, rfl⟩ : ∃ W : World, W = w' := ⟨_, rfl⟩
  unfold m20_j1 at hm
  refine W_seq ?_
  refine W_seq ?_
  refine W_region ?_
  refine RL_pure (by exact wn0 rfl) (by rfl) (by rfl) (x_move (v := .int .i64 y7_1) (by rfl)) ?_
  refine RL_pure (by exact wn0 rfl) (by rfl) (by rfl) (x_neq (by rfl) (by rfl)) ?_
  refine RL_nil ?_
  refine W_cond (by rfl) (fun hb => ?_) (fun hb => ?_)
  ·have hm := cond_t hb hm
   refine W_seq ?_
   refine W_region ?_
   refine RL_pure (by exact wn0 rfl) (by rfl) (by rfl) (x_move (v := .int .i64 y7_1) (by rfl)) ?_
   refine RL_pure (by exact wn0 rfl) (by rfl) (by rfl) (x_assign (v := .bool false) (by rfl)) ?_
   refine RL_pure (by exact wn0 rfl) (by rfl) (by rfl) (x_assign (v := .int .i64 y7_1) (by rfl)) ?_
   refine RL_nil ?_
   refine W_ret ?_
   obtain rfl := Option.some.inj hm
   exact ⟨[.bool false, .int .i64 y7_1], (.tmp (by rfl) (.tmp (by rfl) rfl)), rfl, H.none_⟩
  ·have hm := cond_f hb hm
   refine W_skip ?_
   refine W_seq ?_
   refine W_region ?_
   refine RL_pure (by exact wn0 rfl) (by rfl) (by rfl) (x_move (v := .int .i64 v10.1) (by rfl)) ?_
   refine RL_pure (by exact wn0 rfl) (by rfl) (by rfl) (x_fieldAddr fo32_1 (by rfl)) ?_
   refine RL_pure (by exact wn0 rfl) (by rfl) (by rfl) (x_load (j := 4) (v := .int .i64 a1.D) sc3 (by rfl) (H.cells (i := 1) (by rfl)) (by rfl)) ?_
   refine RL_pure (by exact wn0 rfl) (by rfl) (by rfl) (x_gtr (by rfl) (by rfl)) ?_
   refine RL_pure (by exact wn0 rfl) (by rfl) (by rfl) (x_assign (v := .bool (decide (a1.D < v10.1))) (by rfl)) ?_
   refine RL_pure (by exact wn0 rfl) (by rfl) (by rfl) (x_assign (v := .int .i64 0) (by rfl)) ?_
   refine RL_nil ?_
   refine W_ret ?_
   obtain rfl := Option.some.inj hm
   exact ⟨[.bool (decide (a1.D < v10.1)), .int .i64 0], (.tmp (by rfl) (.tmp (by rfl) rfl)), rfl, H.none_⟩
end Go.Proofs.YtobkigllalbkiaaV.M

/- A plain Lean function that answers as the Go function does (none: not told), and the proof that a call answers so. Written by program. -/
set_option linter.unusedVariables false
namespace Go.Proofs.YtobkigllalbkiaaV.M
open Go.RowKit Go.Proofs.YtobkigllalbkiaaV
def m112_l1b (K : Nat) (a0 : (List Int)) (a1 : (List Int)) (rec1 : Int → Option (Bool)) (y5_1 : Int) : Option (Bool) :=
 (bif (decide (y5_1 < (a0.length : Int))) then (idx a0 y5_1 fun el12 => (idx a1 y5_1 fun el19 => (bif (el12 != el19) then some false else (ck (y5_1 + 1) fun x26 => (rec1 x26))))) else some true)
def m112_l1 (K : Nat) (a0 : (List Int)) (a1 : (List Int)) : Nat → Int → Option (Bool)
 | 0 => fun _ => none
 | k + 1 => m112_l1b K a0 a1 (m112_l1 K a0 a1 k)
/-- diorama/dioramaref24.SameInts -/
def m112 (K : Nat) (a0 : (List Int)) (a1 : (List Int)) : Option (Bool) :=
 (bif ((a0.length : Int) != (a1.length : Int)) then some false else m112_l1 K a0 a1 K 0)
set_option maxRecDepth 100000 in
set_option maxHeartbeats 4000000 in
theorem c112 (ok : Okp) (K : Nat) (w : World) (a0 : (List Int)) (A1 : Option Addr) (cp2 : Nat) (a1 : (List Int)) (A5 : Option Addr) (cp6 : Nat) (hR3 : Rd kInt w ok A1 cp2 a0) (hR7 : Rd kInt w ok A5 cp6 a1) (res : Bool) (hm : m112 K a0 a1 = some res) :
  Calls Try.prog 112 #[.slice A1 a0.length cp2, .slice A5 a1.length cp6] w (fun e w' => e = .returned (tup [.bool res]) ∧ Sep ok w w' [] []) := by
 refine calls_W (args := [.slice A1 a0.length cp2, .slice A5 a1.length cp6]) Try.func112 rfl Try.ntmps112 Try.results112 rfl fun r hr => ?_
 obtain ⟨r1, rfl⟩ := regen (r := r) [(0, .slice A1 a0.length cp2), (1, .slice A5 a1.length cp6)] ⟨hr 0 _ rfl, hr 1 _ rfl, trivial⟩
 have H : Sep ok w w [] [RE.rd kInt A1 cp2 a0, RE.rd kInt A5 cp6 a1] := Sep.arg (Sep.arg (Sep.start ok w) (re := RE.rd kInt A1 cp2 a0) rfl rfl hR3) (re := RE.rd kInt A5 cp6 a1) rfl rfl hR7
 unfold m112 at hm
 refine W_seq ?_
 refine W_region ?_
 refine RL_pure (by exact wn0 rfl) (by rfl) (by rfl) (x_assign (v := .bool false) (by rfl)) ?_
 refine RL_nil ?_
 refine W_seq ?_
 refine W_seq ?_
 refine W_region ?_
 refine RL_pure (by exact wn0 rfl) (by rfl) (by rfl) (x_move (v := .slice A1 a0.length cp2) (by rfl)) ?_
 refine RL_pure (by exact wn0 rfl) (by rfl) (by rfl) (x_len sl23 (by rfl)) ?_
 refine RL_pure (by exact wn0 rfl) (by rfl) (by rfl) (x_move (v := .slice A5 a1.length cp6) (by rfl)) ?_
 refine RL_pure (by exact wn0 rfl) (by rfl) (by rfl) (x_len sl23 (by rfl)) ?_
 refine RL_pure (by exact wn0 rfl) (by rfl) (by rfl) (x_neq (by rfl) (by rfl)) ?_
 refine RL_nil ?_
 refine W_cond (by rfl) (fun hb => ?_) (fun hb => ?_)
 ·have hm := cond_t hb hm
  refine W_seq ?_
  refine W_region ?_
  refine RL_pure (by exact wn0 rfl) (by rfl) (by rfl) (x_assign (v := .bool false) (by rfl)) ?_
  refine RL_nil ?_
  refine W_ret ?_
  obtain rfl := Option.some.inj hm
  exact ⟨[.bool false], (.tmp (by rfl) rfl), rfl, H.none_⟩
 ·have hm := cond_f hb hm
  refine W_skip ?_
  refine W_seq ?_
  refine W_seq ?_
  refine W_region ?_
  refine RL_pure (by exact wn0 rfl) (by rfl) (by rfl) (x_assign (v := .int .i64 0) (by rfl)) ?_
  refine RL_nil ?_
  refine W_block ?_
  refine W_loop (fun k1 r' w' => ∃ (y5_1 : Int), m112_l1 K a0 a1 k1 y5_1 = some res ∧ Agr [(0, .slice A1 a0.length cp2), (1, .slice A5 a1.length cp6), (5, .int .i64 y5_1)] r' ∧ Sep ok w w' [] [RE.rd kInt A1 cp2 a0, RE.rd kInt A5 cp6 a1]) K ?_ ?_
  ·exact ⟨0, hm, ⟨rfl, rfl, rfl, trivial⟩, H⟩
  ·rintro k1 r' w' ⟨y5_1, hm, hA, H⟩
   obtain ⟨r9, rfl⟩ := regen _ hA; clear hA
   obtain ⟨w10, rfl⟩ : ∃ W : World, W = w' := ⟨_, rfl⟩
   cases k1 with
   | zero => exact (none_some hm).elim
   | succ k1 =>
    have hm : m112_l1b K a0 a1 (m112_l1 K a0 a1 k1) y5_1 = some res := hm
    unfold m112_l1b at hm
    obtain ⟨rec1, hrec1⟩ : ∃ f, m112_l1 K a0 a1 k1 = f := ⟨_, rfl⟩
    rw [hrec1] at hm
    refine W_seq ?_
    refine W_seq ?_
    refine W_region ?_
    refine RL_pure (by exact wn0 rfl) (by rfl) (by rfl) (x_move (v := .int .i64 y5_1) (by rfl)) ?_
    refine RL_pure (by exact wn0 rfl) (by rfl) (by rfl) (x_move (v := .slice A1 a0.length cp2) (by rfl)) ?_
    refine RL_pure (by exact wn0 rfl) (by rfl) (by rfl) (x_len sl23 (by rfl)) ?_
    refine RL_pure (by exact wn0 rfl) (by rfl) (by rfl) (x_lss (by rfl) (by rfl)) ?_
    refine RL_nil ?_
    refine W_cond (by rfl) (fun hb => ?_) (fun hb => ?_)
    ·have hm := cond_t hb hm
     refine W_skip ?_
     refine W_seq ?_
     refine W_block ?_
     refine W_seq ?_
     refine W_draw [.free 0, .free 1, .free 2, .take 3, .free 4, .free 5, .free 6, .take 7, .free 8] (fun wS => Sep ok w wS [] [RE.rd kInt A1 cp2 a0, RE.rd kInt A5 cp6 a1]) [] [0, 1, 2, 4, 5, 6, 8] mixed0 (by kernel_rfl) (by kernel_rfl) (by kernel_rfl) (by rfl) (by exact H.drew) ?_
     obtain ⟨w11, hW⟩ : ∃ W : World, W = { w10 with drawn := w10.drawn + 1 } := ⟨_, rfl⟩
     rw [← hW]
     have H : Sep ok w w11 [] [RE.rd kInt A1 cp2 a0, RE.rd kInt A5 cp6 a1] := by rw [hW]; exact H.drew
     clear hW
     refine PR_free (by rfl) (by rfl) (by rfl) (by exact wn0 rfl) (fun wS => (x_move (v := .slice A1 a0.length cp2) (by rfl))) ?_
     refine PR_free (by rfl) (by rfl) (by rfl) (by exact wn0 rfl) (fun wS => (x_move (v := .int .i64 y5_1) (by rfl))) ?_
     obtain ⟨el12, h13, h14, he15, hm⟩ := idx_some hm
     obtain ⟨g17, o18, hA16⟩ := (H.rd (i := 0) (by rfl)).addr he15
     refine PR_free (by rfl) (by rfl) (by rfl) (by exact wn0 rfl) (fun wS => (x_indexAddr sl23 sz3 (by rfl) (by rfl) hA16 h13 h14)) ?_
     refine PR_take (by rfl) (by rfl) (by rfl) (by exact wn0 rfl) (fun wS (H : Sep ok w wS [] [RE.rd kInt A1 cp2 a0, RE.rd kInt A5 cp6 a1]) => (x_load (j := 0) (v := .int .i64 el12) sc3 (by rfl) (Rd.flatAt (n := 1) (H.rd (i := 0) (by rfl)) hA16 he15) (by rfl))) ?_
     refine PR_free (by rfl) (by rfl) (by rfl) (by exact wn0 rfl) (fun wS => (x_move (v := .slice A5 a1.length cp6) (by rfl))) ?_
     refine PR_free (by rfl) (by rfl) (by rfl) (by exact wn0 rfl) (fun wS => (x_move (v := .int .i64 y5_1) (by rfl))) ?_
     obtain ⟨el19, h20, h21, he22, hm⟩ := idx_some hm
     obtain ⟨g24, o25, hA23⟩ := (H.rd (i := 1) (by rfl)).addr he22
     refine PR_free (by rfl) (by rfl) (by rfl) (by exact wn0 rfl) (fun wS => (x_indexAddr sl23 sz3 (by rfl) (by rfl) hA23 h20 h21)) ?_
     refine PR_take (by rfl) (by rfl) (by rfl) (by exact wn0 rfl) (fun wS (H : Sep ok w wS [] [RE.rd kInt A1 cp2 a0, RE.rd kInt A5 cp6 a1]) => (x_load (j := 0) (v := .int .i64 el19) sc3 (by rfl) (Rd.flatAt (n := 1) (H.rd (i := 1) (by rfl)) hA23 he22) (by rfl))) ?_
     refine PR_free (by rfl) (by rfl) (by rfl) (by exact wn0 rfl) (fun wS => (x_neq (by rfl) (by rfl))) ?_
     refine PR_nil ?_
     refine W_cond (by rfl) (fun hb => ?_) (fun hb => ?_)
     ·have hm := cond_t hb hm
      refine W_seq ?_
      refine W_region ?_
      refine RL_pure (by exact wn0 rfl) (by rfl) (by rfl) (x_assign (v := .bool false) (by rfl)) ?_
      refine RL_nil ?_
      refine W_ret ?_
      obtain rfl := Option.some.inj hm
      exact ⟨[.bool false], (.tmp (by rfl) rfl), rfl, H.none_⟩
     ·have hm := cond_f hb hm
      refine W_skip ?_
      refine W_region ?_
      refine RL_pure (by exact wn0 rfl) (by rfl) (by rfl) (x_move (v := .int .i64 y5_1) (by rfl)) ?_
      obtain ⟨x26, ex26, qx26, ux26, hm⟩ := ck_some hm
      refine RL_pure (by exact wn0 rfl) (by rfl) (by rfl) (x_add (by rfl) (by rfl) ux26) ?_
      refine RL_pure (by exact wn0 rfl) (by rfl) (by rfl) (x_assign (v := .int .i64 x26) (by rfl)) ?_
      refine RL_nil ?_
      subst hrec1
      exact ⟨k1, Nat.lt_succ_self k1, x26, hm, ⟨rfl, rfl, rfl, trivial⟩, H⟩
    ·have hm := cond_f hb hm
     refine W_exit ?_
     refine W_seq ?_
     refine W_region ?_
     refine RL_pure (by exact wn0 rfl) (by rfl) (by rfl) (x_assign (v := .bool true) (by rfl)) ?_
     refine RL_nil ?_
     refine W_ret ?_
     obtain rfl := Option.some.inj hm
     exact ⟨[.bool true], (.tmp (by rfl) rfl), rfl, H.none_⟩
end Go.Proofs.YtobkigllalbkiaaV.M

/- A plain Lean function that answers as the Go function does (none: not told), and the proof that a call answers so. Written by program. -/
set_option linter.unusedVariables false
namespace Go.Proofs.YtobkigllalbkiaaV.M
open Go.RowKit Go.Proofs.YtobkigllalbkiaaV
def m67_l1b (K : Nat) (a0 : S_Frame) (a1 : S_Frame) (rec1 : Int → Option (Bool)) (y5_1 : Int) : Option (Bool) :=
 (bif (decide (y5_1 < (a0.Color.length : Int))) then (idx a0.Color y5_1 fun el46 => (idx a1.Color y5_1 fun el53 => (bif (!((el46.a0 == el53.a0) && ((el46.a1 == el53.a1) && ((el46.a2 == el53.a2) && (el46.a3 == el53.a3))))) then some false else (ck (y5_1 + 1) fun x60 => (rec1 x60))))) else ((m112 K a0.Depth a1.Depth).bind fun v62 => ((bif v62 then ((m112 K a0.Item a1.Item).bind fun v66 => some v66) else some false).bind fun b64 => ((bif b64 then ((m112 K a0.Tri a1.Tri).bind fun v72 => some v72) else some false).bind fun b70 => some b70))))
def m67_l1 (K : Nat) (a0 : S_Frame) (a1 : S_Frame) : Nat → Int → Option (Bool)
 | 0 => fun _ => none
 | k + 1 => m67_l1b K a0 a1 (m67_l1 K a0 a1 k)
/-- diorama/dioramaref24.SameFrame -/
def m67 (K : Nat) (a0 : S_Frame) (a1 : S_Frame) : Option (Bool) :=
 ((bif (a0.W != a1.W) then some true else some (a0.H != a1.H)).bind fun b37 => ((bif b37 then some true else some ((a0.Color.length : Int) != (a1.Color.length : Int))).bind fun b40 => (bif b40 then some false else m67_l1 K a0 a1 K 0)))
set_option maxRecDepth 100000 in
set_option maxHeartbeats 4000000 in
theorem c67 (ok : Okp) (K : Nat) (w : World) (a0 : S_Frame) (A1 : Option Addr) (cp2 : Nat) (A5 : Option Addr) (cp6 : Nat) (A9 : Option Addr) (cp10 : Nat) (A13 : Option Addr) (cp14 : Nat) (a1 : S_Frame) (A17 : Option Addr) (cp18 : Nat) (A21 : Option Addr) (cp22 : Nat) (A25 : Option Addr) (cp26 : Nat) (A29 : Option Addr) (cp30 : Nat) (hR3 : Rd k_Ar4_Int w ok A1 cp2 a0.Color) (hR7 : Rd kInt w ok A5 cp6 a0.Depth) (hR11 : Rd kInt w ok A9 cp10 a0.Item) (hR15 : Rd kInt w ok A13 cp14 a0.Tri) (hR19 : Rd k_Ar4_Int w ok A17 cp18 a1.Color) (hR23 : Rd kInt w ok A21 cp22 a1.Depth) (hR27 : Rd kInt w ok A25 cp26 a1.Item) (hR31 : Rd kInt w ok A29 cp30 a1.Tri) (res : Bool) (hm : m67 K a0 a1 = some res) :
  Calls Try.prog 67 #[.agg #[.int .i64 a0.W, .int .i64 a0.H, .slice A1 a0.Color.length cp2, .slice A5 a0.Depth.length cp6, .slice A9 a0.Item.length cp10, .slice A13 a0.Tri.length cp14], .agg #[.int .i64 a1.W, .int .i64 a1.H, .slice A17 a1.Color.length cp18, .slice A21 a1.Depth.length cp22, .slice A25 a1.Item.length cp26, .slice A29 a1.Tri.length cp30]] w (fun e w' => e = .returned (tup [.bool res]) ∧ Sep ok w w' [] []) := by
 refine calls_W (args := [.agg #[.int .i64 a0.W, .int .i64 a0.H, .slice A1 a0.Color.length cp2, .slice A5 a0.Depth.length cp6, .slice A9 a0.Item.length cp10, .slice A13 a0.Tri.length cp14], .agg #[.int .i64 a1.W, .int .i64 a1.H, .slice A17 a1.Color.length cp18, .slice A21 a1.Depth.length cp22, .slice A25 a1.Item.length cp26, .slice A29 a1.Tri.length cp30]]) Try.func67 rfl Try.ntmps67 Try.results67 rfl fun r hr => ?_
 obtain ⟨r1, rfl⟩ := regen (r := r) [(0, .agg #[.int .i64 a0.W, .int .i64 a0.H, .slice A1 a0.Color.length cp2, .slice A5 a0.Depth.length cp6, .slice A9 a0.Item.length cp10, .slice A13 a0.Tri.length cp14]), (1, .agg #[.int .i64 a1.W, .int .i64 a1.H, .slice A17 a1.Color.length cp18, .slice A21 a1.Depth.length cp22, .slice A25 a1.Item.length cp26, .slice A29 a1.Tri.length cp30])] ⟨hr 0 _ rfl, hr 1 _ rfl, trivial⟩
 have H : Sep ok w w [] [RE.rd k_Ar4_Int A1 cp2 a0.Color, RE.rd kInt A5 cp6 a0.Depth, RE.rd kInt A9 cp10 a0.Item, RE.rd kInt A13 cp14 a0.Tri, RE.rd k_Ar4_Int A17 cp18 a1.Color, RE.rd kInt A21 cp22 a1.Depth, RE.rd kInt A25 cp26 a1.Item, RE.rd kInt A29 cp30 a1.Tri] := Sep.arg (Sep.arg (Sep.arg (Sep.arg (Sep.arg (Sep.arg (Sep.arg (Sep.arg (Sep.start ok w) (re := RE.rd k_Ar4_Int A1 cp2 a0.Color) rfl rfl hR3) (re := RE.rd kInt A5 cp6 a0.Depth) rfl rfl hR7) (re := RE.rd kInt A9 cp10 a0.Item) rfl rfl hR11) (re := RE.rd kInt A13 cp14 a0.Tri) rfl rfl hR15) (re := RE.rd k_Ar4_Int A17 cp18 a1.Color) rfl rfl hR19) (re := RE.rd kInt A21 cp22 a1.Depth) rfl rfl hR23) (re := RE.rd kInt A25 cp26 a1.Item) rfl rfl hR27) (re := RE.rd kInt A29 cp30 a1.Tri) rfl rfl hR31
 unfold m67 at hm
 refine W_seq ?_
 refine W_region ?_
 refine RL_cons (O_box (by exact wn0 rfl) (by rfl) (by rfl) (by rfl) H (fun w34 b33 (H : Sep ok w w34 [.blk b33 25 [.int .i64 a0.W, .int .i64 a0.H, .slice A1 a0.Color.length cp2, .slice A5 a0.Depth.length cp6, .slice A9 a0.Item.length cp10, .slice A13 a0.Tri.length cp14]] [RE.rd k_Ar4_Int A1 cp2 a0.Color, RE.rd kInt A5 cp6 a0.Depth, RE.rd kInt A9 cp10 a0.Item, RE.rd kInt A13 cp14 a0.Tri, RE.rd k_Ar4_Int A17 cp18 a1.Color, RE.rd kInt A21 cp22 a1.Depth, RE.rd kInt A25 cp26 a1.Item, RE.rd kInt A29 cp30 a1.Tri]) => ?_))
 refine RL_cons (O_box (by exact wn0 rfl) (by rfl) (by rfl) (by rfl) H (fun w36 b35 (H : Sep ok w w36 [.blk b33 25 [.int .i64 a0.W, .int .i64 a0.H, .slice A1 a0.Color.length cp2, .slice A5 a0.Depth.length cp6, .slice A9 a0.Item.length cp10, .slice A13 a0.Tri.length cp14], .blk b35 25 [.int .i64 a1.W, .int .i64 a1.H, .slice A17 a1.Color.length cp18, .slice A21 a1.Depth.length cp22, .slice A25 a1.Item.length cp26, .slice A29 a1.Tri.length cp30]] [RE.rd k_Ar4_Int A1 cp2 a0.Color, RE.rd kInt A5 cp6 a0.Depth, RE.rd kInt A9 cp10 a0.Item, RE.rd kInt A13 cp14 a0.Tri, RE.rd k_Ar4_Int A17 cp18 a1.Color, RE.rd kInt A21 cp22 a1.Depth, RE.rd kInt A25 cp26 a1.Item, RE.rd kInt A29 cp30 a1.Tri]) => ?_))
 refine RL_pure (by exact wn0 rfl) (by rfl) (by rfl) (x_assign (v := .bool false) (by rfl)) ?_
 refine RL_nil ?_
 refine W_seq ?_
 refine W_seq ?_
 refine W_region ?_
 refine RL_pure (by exact wn0 rfl) (by rfl) (by rfl) (x_fieldAddr fo25_0 (by rfl)) ?_
 refine RL_pure (by exact wn0 rfl) (by rfl) (by rfl) (x_load (j := 0) (v := .int .i64 a0.W) sc3 (by rfl) (H.cells (i := 0) (by rfl)) (by rfl)) ?_
 refine RL_pure (by exact wn0 rfl) (by rfl) (by rfl) (x_fieldAddr fo25_0 (by rfl)) ?_
 refine RL_pure (by exact wn0 rfl) (by rfl) (by rfl) (x_load (j := 0) (v := .int .i64 a1.W) sc3 (by rfl) (H.cells (i := 1) (by rfl)) (by rfl)) ?_
 refine RL_pure (by exact wn0 rfl) (by rfl) (by rfl) (x_neq (by rfl) (by rfl)) ?_
 refine RL_pure (by exact wn0 rfl) (by rfl) (by rfl) (x_move (v := .bool (a0.W != a1.W)) (by rfl)) ?_
 obtain ⟨b37, hmS, hm⟩ := bind_some hm
 refine RL_cut 6 (fun r' w' => Agr [(17, .bool b37), (2, .pointer (some ⟨b33, 0, none⟩)), (3, .pointer (some ⟨b35, 0, none⟩))] r' ∧ Sep ok w w' [.blk b33 25 [.int .i64 a0.W, .int .i64 a0.H, .slice A1 a0.Color.length cp2, .slice A5 a0.Depth.length cp6, .slice A9 a0.Item.length cp10, .slice A13 a0.Tri.length cp14], .blk b35 25 [.int .i64 a1.W, .int .i64 a1.H, .slice A17 a1.Color.length cp18, .slice A21 a1.Depth.length cp22, .slice A25 a1.Item.length cp26, .slice A29 a1.Tri.length cp30]] [RE.rd k_Ar4_Int A1 cp2 a0.Color, RE.rd kInt A5 cp6 a0.Depth, RE.rd kInt A9 cp10 a0.Item, RE.rd kInt A13 cp14 a0.Tri, RE.rd k_Ar4_Int A17 cp18 a1.Color, RE.rd kInt A21 cp22 a1.Depth, RE.rd kInt A25 cp26 a1.Item, RE.rd kInt A29 cp30 a1.Tri]) ?_ ?_
 ·cases hbS : (a0.W != a1.W)
  ·have hm := cond_f hbS hmS
   refine RL_pure (by exact wn1 rfl rfl rfl rfl) (by rfl) (by rfl) (x_fieldAddr fo25_1 (by rfl)) ?_
   refine RL_pure (by exact wn1 rfl rfl rfl rfl) (by rfl) (by rfl) (x_load (j := 1) (v := .int .i64 a0.H) sc3 (by rfl) (H.cells (i := 0) (by rfl)) (by rfl)) ?_
   refine RL_pure (by exact wn1 rfl rfl rfl rfl) (by rfl) (by rfl) (x_fieldAddr fo25_1 (by rfl)) ?_
   refine RL_pure (by exact wn1 rfl rfl rfl rfl) (by rfl) (by rfl) (x_load (j := 1) (v := .int .i64 a1.H) sc3 (by rfl) (H.cells (i := 1) (by rfl)) (by rfl)) ?_
   refine RL_pure (by exact wn1 rfl rfl rfl rfl) (by rfl) (by rfl) (x_neq (by rfl) (by rfl)) ?_
   refine RL_pure (by exact wn0 rfl) (by rfl) (by rfl) (x_pick_f (v := .bool (a0.H != a1.H)) (by rfl) (by rfl)) ?_
   refine RL_nil ?_
   exact ⟨⟨congrArg Value.bool (Option.some.inj hm), rfl, rfl, trivial⟩, H⟩
  ·have hm := cond_t hbS hmS
   refine RL_cons (OpR_off (by exact wn2 rfl rfl rfl rfl) (by rfl) (by rfl) ?_)
   refine RL_cons (OpR_off (by exact wn2 rfl rfl rfl rfl) (by rfl) (by rfl) ?_)
   refine RL_cons (OpR_off (by exact wn2 rfl rfl rfl rfl) (by rfl) (by rfl) ?_)
   refine RL_cons (OpR_off (by exact wn2 rfl rfl rfl rfl) (by rfl) (by rfl) ?_)
   refine RL_cons (OpR_off (by exact wn2 rfl rfl rfl rfl) (by rfl) (by rfl) ?_)
   refine RL_pure (by exact wn0 rfl) (by rfl) (by rfl) (x_pick_t (v := .bool true) (by rfl) (by rfl)) ?_
   refine RL_nil ?_
   exact ⟨⟨congrArg Value.bool (Option.some.inj hm), rfl, rfl, trivial⟩, H⟩
 ·rintro r' w' ⟨hA, H⟩
  obtain ⟨r38, rfl⟩ := regen _ hA; clear hA
  obtain ⟨w39, rfl⟩ : ∃ W : World, W = w' := ⟨_, rfl⟩
  show RL _ _ _ _ _ _ _
  refine RL_pure (by exact wn0 rfl) (by rfl) (by rfl) (x_move (v := .bool b37) (by rfl)) ?_
  obtain ⟨b40, hmS, hm⟩ := bind_some hm
  refine RL_cut 8 (fun r' w' => Agr [(26, .bool b40), (2, .pointer (some ⟨b33, 0, none⟩)), (3, .pointer (some ⟨b35, 0, none⟩))] r' ∧ Sep ok w w' [.blk b33 25 [.int .i64 a0.W, .int .i64 a0.H, .slice A1 a0.Color.length cp2, .slice A5 a0.Depth.length cp6, .slice A9 a0.Item.length cp10, .slice A13 a0.Tri.length cp14], .blk b35 25 [.int .i64 a1.W, .int .i64 a1.H, .slice A17 a1.Color.length cp18, .slice A21 a1.Depth.length cp22, .slice A25 a1.Item.length cp26, .slice A29 a1.Tri.length cp30]] [RE.rd k_Ar4_Int A1 cp2 a0.Color, RE.rd kInt A5 cp6 a0.Depth, RE.rd kInt A9 cp10 a0.Item, RE.rd kInt A13 cp14 a0.Tri, RE.rd k_Ar4_Int A17 cp18 a1.Color, RE.rd kInt A21 cp22 a1.Depth, RE.rd kInt A25 cp26 a1.Item, RE.rd kInt A29 cp30 a1.Tri]) ?_ ?_
  ·cases hbS : b37
   ·have hm := cond_f hbS hmS
    refine RL_pure (by exact wn1 rfl rfl rfl rfl) (by rfl) (by rfl) (x_fieldAddr fo25_2 (by rfl)) ?_
    refine RL_pure (by exact wn1 rfl rfl rfl rfl) (by rfl) (by rfl) (x_load (j := 2) (v := .slice A1 a0.Color.length cp2) sc22 (by rfl) (H.cells (i := 0) (by rfl)) (by rfl)) ?_
    refine RL_pure (by exact wn1 rfl rfl rfl rfl) (by rfl) (by rfl) (x_len sl22 (by rfl)) ?_
    refine RL_pure (by exact wn1 rfl rfl rfl rfl) (by rfl) (by rfl) (x_fieldAddr fo25_2 (by rfl)) ?_
    refine RL_pure (by exact wn1 rfl rfl rfl rfl) (by rfl) (by rfl) (x_load (j := 2) (v := .slice A17 a1.Color.length cp18) sc22 (by rfl) (H.cells (i := 1) (by rfl)) (by rfl)) ?_
    refine RL_pure (by exact wn1 rfl rfl rfl rfl) (by rfl) (by rfl) (x_len sl22 (by rfl)) ?_
    refine RL_pure (by exact wn1 rfl rfl rfl rfl) (by rfl) (by rfl) (x_neq (by rfl) (by rfl)) ?_
    refine RL_pure (by exact wn0 rfl) (by rfl) (by rfl) (x_pick_f (v := .bool ((a0.Color.length : Int) != (a1.Color.length : Int))) (by rfl) (by rfl)) ?_
    refine RL_nil ?_
    exact ⟨⟨congrArg Value.bool (Option.some.inj hm), rfl, rfl, trivial⟩, H⟩
   ·have hm := cond_t hbS hmS
    refine RL_cons (OpR_off (by exact wn2 rfl rfl rfl rfl) (by rfl) (by rfl) ?_)
    refine RL_cons (OpR_off (by exact wn2 rfl rfl rfl rfl) (by rfl) (by rfl) ?_)
    refine RL_cons (OpR_off (by exact wn2 rfl rfl rfl rfl) (by rfl) (by rfl) ?_)
    refine RL_cons (OpR_off (by exact wn2 rfl rfl rfl rfl) (by rfl) (by rfl) ?_)
    refine RL_cons (OpR_off (by exact wn2 rfl rfl rfl rfl) (by rfl) (by rfl) ?_)
    refine RL_cons (OpR_off (by exact wn2 rfl rfl rfl rfl) (by rfl) (by rfl) ?_)
    refine RL_cons (OpR_off (by exact wn2 rfl rfl rfl rfl) (by rfl) (by rfl) ?_)
    refine RL_pure (by exact wn0 rfl) (by rfl) (by rfl) (x_pick_t (v := .bool true) (by rfl) (by rfl)) ?_
    refine RL_nil ?_
    exact ⟨⟨congrArg Value.bool (Option.some.inj hm), rfl, rfl, trivial⟩, H⟩
  ·rintro r' w' ⟨hA, H⟩
   obtain ⟨r41, rfl⟩ := regen _ hA; clear hA
   obtain ⟨w42, rfl⟩ : ∃ W : World, W = w' := ⟨_, rfl⟩
   show RL _ _ _ _ _ _ _
   refine RL_nil ?_
   refine W_cond (by rfl) (fun hb => ?_) (fun hb => ?_)
   ·have hm := cond_t hb hm
    refine W_seq ?_
    refine W_region ?_
    refine RL_pure (by exact wn0 rfl) (by rfl) (by rfl) (x_assign (v := .bool false) (by rfl)) ?_
    refine RL_nil ?_
    refine W_ret ?_
    obtain rfl := Option.some.inj hm
    exact ⟨[.bool false], (.tmp (by rfl) rfl), rfl, H.none_⟩
   ·have hm := cond_f hb hm
    refine W_skip ?_
    refine W_seq ?_
    refine W_seq ?_
    refine W_region ?_
    refine RL_pure (by exact wn0 rfl) (by rfl) (by rfl) (x_assign (v := .int .i64 0) (by rfl)) ?_
    refine RL_nil ?_
    refine W_block ?_
    refine W_loop (fun k1 r' w' => ∃ (y5_1 : Int), m67_l1 K a0 a1 k1 y5_1 = some res ∧ Agr [(2, .pointer (some ⟨b33, 0, none⟩)), (3, .pointer (some ⟨b35, 0, none⟩)), (5, .int .i64 y5_1)] r' ∧ Sep ok w w' [.blk b33 25 [.int .i64 a0.W, .int .i64 a0.H, .slice A1 a0.Color.length cp2, .slice A5 a0.Depth.length cp6, .slice A9 a0.Item.length cp10, .slice A13 a0.Tri.length cp14], .blk b35 25 [.int .i64 a1.W, .int .i64 a1.H, .slice A17 a1.Color.length cp18, .slice A21 a1.Depth.length cp22, .slice A25 a1.Item.length cp26, .slice A29 a1.Tri.length cp30]] [RE.rd k_Ar4_Int A1 cp2 a0.Color, RE.rd kInt A5 cp6 a0.Depth, RE.rd kInt A9 cp10 a0.Item, RE.rd kInt A13 cp14 a0.Tri, RE.rd k_Ar4_Int A17 cp18 a1.Color, RE.rd kInt A21 cp22 a1.Depth, RE.rd kInt A25 cp26 a1.Item, RE.rd kInt A29 cp30 a1.Tri]) K ?_ ?_
    ·exact ⟨0, hm, ⟨rfl, rfl, rfl, trivial⟩, H⟩
    ·rintro k1 r' w' ⟨y5_1, hm, hA, H⟩
     obtain ⟨r43, rfl⟩ := regen _ hA; clear hA
     obtain ⟨w44, rfl⟩ : ∃ W : World, W = w' := ⟨_, rfl⟩
     cases k1 with
     | zero => exact (none_some hm).elim
     | succ k1 =>
      have hm : m67_l1b K a0 a1 (m67_l1 K a0 a1 k1) y5_1 = some res := hm
      unfold m67_l1b at hm
      obtain ⟨rec1, hrec1⟩ : ∃ f, m67_l1 K a0 a1 k1 = f := ⟨_, rfl⟩
      rw [hrec1] at hm
      refine W_seq ?_
      refine W_seq ?_
      refine W_region ?_
      refine RL_pure (by exact wn0 rfl) (by rfl) (by rfl) (x_move (v := .int .i64 y5_1) (by rfl)) ?_
      refine RL_pure (by exact wn0 rfl) (by rfl) (by rfl) (x_fieldAddr fo25_2 (by rfl)) ?_
      refine RL_pure (by exact wn0 rfl) (by rfl) (by rfl) (x_load (j := 2) (v := .slice A1 a0.Color.length cp2) sc22 (by rfl) (H.cells (i := 0) (by rfl)) (by rfl)) ?_
      refine RL_pure (by exact wn0 rfl) (by rfl) (by rfl) (x_len sl22 (by rfl)) ?_
      refine RL_pure (by exact wn0 rfl) (by rfl) (by rfl) (x_lss (by rfl) (by rfl)) ?_
      refine RL_nil ?_
      refine W_cond (by rfl) (fun hb => ?_) (fun hb => ?_)
      ·have hm := cond_t hb hm
       refine W_skip ?_
       refine W_seq ?_
       refine W_block ?_
       refine W_seq ?_
       refine W_draw [.free 0, .take 1, .free 2, .free 3, .take 4, .free 5, .take 6, .free 7, .free 8, .take 9, .free 10] (fun wS => Sep ok w wS [.blk b33 25 [.int .i64 a0.W, .int .i64 a0.H, .slice A1 a0.Color.length cp2, .slice A5 a0.Depth.length cp6, .slice A9 a0.Item.length cp10, .slice A13 a0.Tri.length cp14], .blk b35 25 [.int .i64 a1.W, .int .i64 a1.H, .slice A17 a1.Color.length cp18, .slice A21 a1.Depth.length cp22, .slice A25 a1.Item.length cp26, .slice A29 a1.Tri.length cp30]] [RE.rd k_Ar4_Int A1 cp2 a0.Color, RE.rd kInt A5 cp6 a0.Depth, RE.rd kInt A9 cp10 a0.Item, RE.rd kInt A13 cp14 a0.Tri, RE.rd k_Ar4_Int A17 cp18 a1.Color, RE.rd kInt A21 cp22 a1.Depth, RE.rd kInt A25 cp26 a1.Item, RE.rd kInt A29 cp30 a1.Tri]) [] [0, 2, 3, 5, 7, 8, 10] mixed0 (by kernel_rfl) (by kernel_rfl) (by kernel_rfl) (by rfl) (by exact H.drew) ?_
       obtain ⟨w45, hW⟩ : ∃ W : World, W = { w44 with drawn := w44.drawn + 1 } := ⟨_, rfl⟩
       rw [← hW]
       have H : Sep ok w w45 [.blk b33 25 [.int .i64 a0.W, .int .i64 a0.H, .slice A1 a0.Color.length cp2, .slice A5 a0.Depth.length cp6, .slice A9 a0.Item.length cp10, .slice A13 a0.Tri.length cp14], .blk b35 25 [.int .i64 a1.W, .int .i64 a1.H, .slice A17 a1.Color.length cp18, .slice A21 a1.Depth.length cp22, .slice A25 a1.Item.length cp26, .slice A29 a1.Tri.length cp30]] [RE.rd k_Ar4_Int A1 cp2 a0.Color, RE.rd kInt A5 cp6 a0.Depth, RE.rd kInt A9 cp10 a0.Item, RE.rd kInt A13 cp14 a0.Tri, RE.rd k_Ar4_Int A17 cp18 a1.Color, RE.rd kInt A21 cp22 a1.Depth, RE.rd kInt A25 cp26 a1.Item, RE.rd kInt A29 cp30 a1.Tri] := by rw [hW]; exact H.drew
       clear hW
       refine PR_free (by rfl) (by rfl) (by rfl) (by exact wn0 rfl) (fun wS => (x_fieldAddr fo25_2 (by rfl))) ?_
       refine PR_take (by rfl) (by rfl) (by rfl) (by exact wn0 rfl) (fun wS (H : Sep ok w wS [.blk b33 25 [.int .i64 a0.W, .int .i64 a0.H, .slice A1 a0.Color.length cp2, .slice A5 a0.Depth.length cp6, .slice A9 a0.Item.length cp10, .slice A13 a0.Tri.length cp14], .blk b35 25 [.int .i64 a1.W, .int .i64 a1.H, .slice A17 a1.Color.length cp18, .slice A21 a1.Depth.length cp22, .slice A25 a1.Item.length cp26, .slice A29 a1.Tri.length cp30]] [RE.rd k_Ar4_Int A1 cp2 a0.Color, RE.rd kInt A5 cp6 a0.Depth, RE.rd kInt A9 cp10 a0.Item, RE.rd kInt A13 cp14 a0.Tri, RE.rd k_Ar4_Int A17 cp18 a1.Color, RE.rd kInt A21 cp22 a1.Depth, RE.rd kInt A25 cp26 a1.Item, RE.rd kInt A29 cp30 a1.Tri]) => (x_load (j := 2) (v := .slice A1 a0.Color.length cp2) sc22 (by rfl) (H.cells (i := 0) (by rfl)) (by rfl))) ?_
       refine PR_free (by rfl) (by rfl) (by rfl) (by exact wn0 rfl) (fun wS => (x_move (v := .int .i64 y5_1) (by rfl))) ?_
       obtain ⟨el46, h47, h48, he49, hm⟩ := idx_some hm
       obtain ⟨g51, o52, hA50⟩ := (H.rd (i := 0) (by rfl)).addr he49
       refine PR_free (by rfl) (by rfl) (by rfl) (by exact wn0 rfl) (fun wS => (x_indexAddr sl22 sz61 (by rfl) (by rfl) hA50 h47 h48)) ?_
       refine PR_take (by rfl) (by rfl) (by rfl) (by exact wn0 rfl) (fun wS (H : Sep ok w wS [.blk b33 25 [.int .i64 a0.W, .int .i64 a0.H, .slice A1 a0.Color.length cp2, .slice A5 a0.Depth.length cp6, .slice A9 a0.Item.length cp10, .slice A13 a0.Tri.length cp14], .blk b35 25 [.int .i64 a1.W, .int .i64 a1.H, .slice A17 a1.Color.length cp18, .slice A21 a1.Depth.length cp22, .slice A25 a1.Item.length cp26, .slice A29 a1.Tri.length cp30]] [RE.rd k_Ar4_Int A1 cp2 a0.Color, RE.rd kInt A5 cp6 a0.Depth, RE.rd kInt A9 cp10 a0.Item, RE.rd kInt A13 cp14 a0.Tri, RE.rd k_Ar4_Int A17 cp18 a1.Color, RE.rd kInt A21 cp22 a1.Depth, RE.rd kInt A25 cp26 a1.Item, RE.rd kInt A29 cp30 a1.Tri]) => (x_loadA (j := 0) (vs := [.int .u8 el46.a0, .int .u8 el46.a1, .int .u8 el46.a2, .int .u8 el46.a3]) ag61 (by rfl) (Rd.flatAt (n := 4) (H.rd (i := 0) (by rfl)) hA50 he49) (by rfl) (by rfl))) ?_
       refine PR_free (by rfl) (by rfl) (by rfl) (by exact wn0 rfl) (fun wS => (x_fieldAddr fo25_2 (by rfl))) ?_
       refine PR_take (by rfl) (by rfl) (by rfl) (by exact wn0 rfl) (fun wS (H : Sep ok w wS [.blk b33 25 [.int .i64 a0.W, .int .i64 a0.H, .slice A1 a0.Color.length cp2, .slice A5 a0.Depth.length cp6, .slice A9 a0.Item.length cp10, .slice A13 a0.Tri.length cp14], .blk b35 25 [.int .i64 a1.W, .int .i64 a1.H, .slice A17 a1.Color.length cp18, .slice A21 a1.Depth.length cp22, .slice A25 a1.Item.length cp26, .slice A29 a1.Tri.length cp30]] [RE.rd k_Ar4_Int A1 cp2 a0.Color, RE.rd kInt A5 cp6 a0.Depth, RE.rd kInt A9 cp10 a0.Item, RE.rd kInt A13 cp14 a0.Tri, RE.rd k_Ar4_Int A17 cp18 a1.Color, RE.rd kInt A21 cp22 a1.Depth, RE.rd kInt A25 cp26 a1.Item, RE.rd kInt A29 cp30 a1.Tri]) => (x_load (j := 2) (v := .slice A17 a1.Color.length cp18) sc22 (by rfl) (H.cells (i := 1) (by rfl)) (by rfl))) ?_
       refine PR_free (by rfl) (by rfl) (by rfl) (by exact wn0 rfl) (fun wS => (x_move (v := .int .i64 y5_1) (by rfl))) ?_
       obtain ⟨el53, h54, h55, he56, hm⟩ := idx_some hm
       obtain ⟨g58, o59, hA57⟩ := (H.rd (i := 4) (by rfl)).addr he56
       refine PR_free (by rfl) (by rfl) (by rfl) (by exact wn0 rfl) (fun wS => (x_indexAddr sl22 sz61 (by rfl) (by rfl) hA57 h54 h55)) ?_
       refine PR_take (by rfl) (by rfl) (by rfl) (by exact wn0 rfl) (fun wS (H : Sep ok w wS [.blk b33 25 [.int .i64 a0.W, .int .i64 a0.H, .slice A1 a0.Color.length cp2, .slice A5 a0.Depth.length cp6, .slice A9 a0.Item.length cp10, .slice A13 a0.Tri.length cp14], .blk b35 25 [.int .i64 a1.W, .int .i64 a1.H, .slice A17 a1.Color.length cp18, .slice A21 a1.Depth.length cp22, .slice A25 a1.Item.length cp26, .slice A29 a1.Tri.length cp30]] [RE.rd k_Ar4_Int A1 cp2 a0.Color, RE.rd kInt A5 cp6 a0.Depth, RE.rd kInt A9 cp10 a0.Item, RE.rd kInt A13 cp14 a0.Tri, RE.rd k_Ar4_Int A17 cp18 a1.Color, RE.rd kInt A21 cp22 a1.Depth, RE.rd kInt A25 cp26 a1.Item, RE.rd kInt A29 cp30 a1.Tri]) => (x_loadA (j := 0) (vs := [.int .u8 el53.a0, .int .u8 el53.a1, .int .u8 el53.a2, .int .u8 el53.a3]) ag61 (by rfl) (Rd.flatAt (n := 4) (H.rd (i := 4) (by rfl)) hA57 he56) (by rfl) (by rfl))) ?_
       refine PR_free (by rfl) (by rfl) (by rfl) (by exact wn0 rfl) (fun wS => (x_neqsArr ep61 eg61 (by rfl) (by rfl) (b := ((el46.a0 == el53.a0) && ((el46.a1 == el53.a1) && ((el46.a2 == el53.a2) && (el46.a3 == el53.a3))))) (by rfl))) ?_
       refine PR_nil ?_
       refine W_cond (by rfl) (fun hb => ?_) (fun hb => ?_)
       ·have hm := cond_t hb hm
        refine W_seq ?_
        refine W_region ?_
        refine RL_pure (by exact wn0 rfl) (by rfl) (by rfl) (x_assign (v := .bool false) (by rfl)) ?_
        refine RL_nil ?_
        refine W_ret ?_
        obtain rfl := Option.some.inj hm
        exact ⟨[.bool false], (.tmp (by rfl) rfl), rfl, H.none_⟩
       ·have hm := cond_f hb hm
        refine W_skip ?_
        refine W_region ?_
        refine RL_pure (by exact wn0 rfl) (by rfl) (by rfl) (x_move (v := .int .i64 y5_1) (by rfl)) ?_
        obtain ⟨x60, ex60, qx60, ux60, hm⟩ := ck_some hm
        refine RL_pure (by exact wn0 rfl) (by rfl) (by rfl) (x_add (by rfl) (by rfl) ux60) ?_
        refine RL_pure (by exact wn0 rfl) (by rfl) (by rfl) (x_assign (v := .int .i64 x60) (by rfl)) ?_
        refine RL_nil ?_
        subst hrec1
        exact ⟨k1, Nat.lt_succ_self k1, x60, hm, ⟨rfl, rfl, rfl, trivial⟩, H⟩
      ·have hm := cond_f hb hm
       refine W_exit ?_
       refine W_seq ?_
       refine W_region ?_
       refine RL_pure (by exact wn0 rfl) (by rfl) (by rfl) (x_fieldAddr fo25_3 (by rfl)) ?_
       refine RL_pure (by exact wn0 rfl) (by rfl) (by rfl) (x_load (j := 3) (v := .slice A5 a0.Depth.length cp6) sc23 (by rfl) (H.cells (i := 0) (by rfl)) (by rfl)) ?_
       refine RL_pure (by exact wn0 rfl) (by rfl) (by rfl) (x_fieldAddr fo25_3 (by rfl)) ?_
       refine RL_pure (by exact wn0 rfl) (by rfl) (by rfl) (x_load (j := 3) (v := .slice A21 a1.Depth.length cp22) sc23 (by rfl) (H.cells (i := 1) (by rfl)) (by rfl)) ?_
       obtain ⟨v62, hv61, hm⟩ := bind_some hm
       refine RL_cons (O_call (by exact wn0 rfl) (by rfl) (by rfl) (x_callL (by rfl) (args := [.slice A5 a0.Depth.length cp6, .slice A21 a1.Depth.length cp22]) (by rfl) (cf112 _ _)) (c112 okT K w44 a0.Depth A5 cp6 a1.Depth A21 cp22 (H.rd (i := 1) (by rfl)).any (H.rd (i := 5) (by rfl)).any v62 hv61) ?_)
       rintro e w63 ⟨rfl, H2⟩
       have H : Sep ok w w63 [.blk b33 25 [.int .i64 a0.W, .int .i64 a0.H, .slice A1 a0.Color.length cp2, .slice A5 a0.Depth.length cp6, .slice A9 a0.Item.length cp10, .slice A13 a0.Tri.length cp14], .blk b35 25 [.int .i64 a1.W, .int .i64 a1.H, .slice A17 a1.Color.length cp18, .slice A21 a1.Depth.length cp22, .slice A25 a1.Item.length cp26, .slice A29 a1.Tri.length cp30]] [RE.rd k_Ar4_Int A1 cp2 a0.Color, RE.rd kInt A5 cp6 a0.Depth, RE.rd kInt A9 cp10 a0.Item, RE.rd kInt A13 cp14 a0.Tri, RE.rd k_Ar4_Int A17 cp18 a1.Color, RE.rd kInt A21 cp22 a1.Depth, RE.rd kInt A25 cp26 a1.Item, RE.rd kInt A29 cp30 a1.Tri] := H.below H2.base
       clear H2
       refine ⟨_, rfl, ?_⟩
       show RL _ _ _ _ _ _ _
       refine RL_pure (by exact wn0 rfl) (by rfl) (by rfl) (x_move (v := .bool v62) (by rfl)) ?_
       obtain ⟨b64, hmS, hm⟩ := bind_some hm
       refine RL_cut 6 (fun r' w' => Agr [(56, .bool b64), (2, .pointer (some ⟨b33, 0, none⟩)), (3, .pointer (some ⟨b35, 0, none⟩))] r' ∧ Sep ok w w' [.blk b33 25 [.int .i64 a0.W, .int .i64 a0.H, .slice A1 a0.Color.length cp2, .slice A5 a0.Depth.length cp6, .slice A9 a0.Item.length cp10, .slice A13 a0.Tri.length cp14], .blk b35 25 [.int .i64 a1.W, .int .i64 a1.H, .slice A17 a1.Color.length cp18, .slice A21 a1.Depth.length cp22, .slice A25 a1.Item.length cp26, .slice A29 a1.Tri.length cp30]] [RE.rd k_Ar4_Int A1 cp2 a0.Color, RE.rd kInt A5 cp6 a0.Depth, RE.rd kInt A9 cp10 a0.Item, RE.rd kInt A13 cp14 a0.Tri, RE.rd k_Ar4_Int A17 cp18 a1.Color, RE.rd kInt A21 cp22 a1.Depth, RE.rd kInt A25 cp26 a1.Item, RE.rd kInt A29 cp30 a1.Tri]) ?_ ?_
       ·cases hbS : v62
        ·have hm := cond_f hbS hmS
         refine RL_cons (OpR_off (by exact wn2 rfl rfl rfl rfl) (by rfl) (by rfl) ?_)
         refine RL_cons (OpR_off (by exact wn2 rfl rfl rfl rfl) (by rfl) (by rfl) ?_)
         refine RL_cons (OpR_off (by exact wn2 rfl rfl rfl rfl) (by rfl) (by rfl) ?_)
         refine RL_cons (OpR_off (by exact wn2 rfl rfl rfl rfl) (by rfl) (by rfl) ?_)
         refine RL_cons (OpR_off (by exact wn2 rfl rfl rfl rfl) (by rfl) (by rfl) ?_)
         refine RL_pure (by exact wn0 rfl) (by rfl) (by rfl) (x_pick_f (v := .bool false) (by rfl) (by rfl)) ?_
         refine RL_nil ?_
         exact ⟨⟨congrArg Value.bool (Option.some.inj hm), rfl, rfl, trivial⟩, H⟩
        ·have hm := cond_t hbS hmS
         refine RL_pure (by exact wn1 rfl rfl rfl rfl) (by rfl) (by rfl) (x_fieldAddr fo25_4 (by rfl)) ?_
         refine RL_pure (by exact wn1 rfl rfl rfl rfl) (by rfl) (by rfl) (x_load (j := 4) (v := .slice A9 a0.Item.length cp10) sc23 (by rfl) (H.cells (i := 0) (by rfl)) (by rfl)) ?_
         refine RL_pure (by exact wn1 rfl rfl rfl rfl) (by rfl) (by rfl) (x_fieldAddr fo25_4 (by rfl)) ?_
         refine RL_pure (by exact wn1 rfl rfl rfl rfl) (by rfl) (by rfl) (x_load (j := 4) (v := .slice A25 a1.Item.length cp26) sc23 (by rfl) (H.cells (i := 1) (by rfl)) (by rfl)) ?_
         obtain ⟨v66, hv65, hm⟩ := bind_some hm
         refine RL_cons (O_call (by exact wn1 rfl rfl rfl rfl) (by rfl) (by rfl) (x_callL (by rfl) (args := [.slice A9 a0.Item.length cp10, .slice A25 a1.Item.length cp26]) (by rfl) (cf112 _ _)) (c112 okT K w63 a0.Item A9 cp10 a1.Item A25 cp26 (H.rd (i := 2) (by rfl)).any (H.rd (i := 6) (by rfl)).any v66 hv65) ?_)
         rintro e w67 ⟨rfl, H2⟩
         have H : Sep ok w w67 [.blk b33 25 [.int .i64 a0.W, .int .i64 a0.H, .slice A1 a0.Color.length cp2, .slice A5 a0.Depth.length cp6, .slice A9 a0.Item.length cp10, .slice A13 a0.Tri.length cp14], .blk b35 25 [.int .i64 a1.W, .int .i64 a1.H, .slice A17 a1.Color.length cp18, .slice A21 a1.Depth.length cp22, .slice A25 a1.Item.length cp26, .slice A29 a1.Tri.length cp30]] [RE.rd k_Ar4_Int A1 cp2 a0.Color, RE.rd kInt A5 cp6 a0.Depth, RE.rd kInt A9 cp10 a0.Item, RE.rd kInt A13 cp14 a0.Tri, RE.rd k_Ar4_Int A17 cp18 a1.Color, RE.rd kInt A21 cp22 a1.Depth, RE.rd kInt A25 cp26 a1.Item, RE.rd kInt A29 cp30 a1.Tri] := H.below H2.base
         clear H2
         refine ⟨_, rfl, ?_⟩
         show RL _ _ _ _ _ _ _
         refine RL_pure (by exact wn0 rfl) (by rfl) (by rfl) (x_pick_t (v := .bool v66) (by rfl) (by rfl)) ?_
         refine RL_nil ?_
         exact ⟨⟨congrArg Value.bool (Option.some.inj hm), rfl, rfl, trivial⟩, H⟩
       ·rintro r' w' ⟨hA, H⟩
        obtain ⟨r68, rfl⟩ := regen _ hA; clear hA
        obtain ⟨w69, rfl⟩ : ∃ W : World, W = w' := ⟨_, rfl⟩
        show RL _ _ _ _ _ _ _
        refine RL_pure (by exact wn0 rfl) (by rfl) (by rfl) (x_move (v := .bool b64) (by rfl)) ?_
        obtain ⟨b70, hmS, hm⟩ := bind_some hm
        refine RL_cut 6 (fun r' w' => Agr [(63, .bool b70)] r' ∧ Sep ok w w' [.blk b33 25 [.int .i64 a0.W, .int .i64 a0.H, .slice A1 a0.Color.length cp2, .slice A5 a0.Depth.length cp6, .slice A9 a0.Item.length cp10, .slice A13 a0.Tri.length cp14], .blk b35 25 [.int .i64 a1.W, .int .i64 a1.H, .slice A17 a1.Color.length cp18, .slice A21 a1.Depth.length cp22, .slice A25 a1.Item.length cp26, .slice A29 a1.Tri.length cp30]] [RE.rd k_Ar4_Int A1 cp2 a0.Color, RE.rd kInt A5 cp6 a0.Depth, RE.rd kInt A9 cp10 a0.Item, RE.rd kInt A13 cp14 a0.Tri, RE.rd k_Ar4_Int A17 cp18 a1.Color, RE.rd kInt A21 cp22 a1.Depth, RE.rd kInt A25 cp26 a1.Item, RE.rd kInt A29 cp30 a1.Tri]) ?_ ?_
        ·cases hbS : b64
         ·have hm := cond_f hbS hmS
          refine RL_cons (OpR_off (by exact wn2 rfl rfl rfl rfl) (by rfl) (by rfl) ?_)
          refine RL_cons (OpR_off (by exact wn2 rfl rfl rfl rfl) (by rfl) (by rfl) ?_)
          refine RL_cons (OpR_off (by exact wn2 rfl rfl rfl rfl) (by rfl) (by rfl) ?_)
          refine RL_cons (OpR_off (by exact wn2 rfl rfl rfl rfl) (by rfl) (by rfl) ?_)
          refine RL_cons (OpR_off (by exact wn2 rfl rfl rfl rfl) (by rfl) (by rfl) ?_)
          refine RL_pure (by exact wn0 rfl) (by rfl) (by rfl) (x_pick_f (v := .bool false) (by rfl) (by rfl)) ?_
          refine RL_nil ?_
          exact ⟨⟨congrArg Value.bool (Option.some.inj hm), trivial⟩, H⟩
         ·have hm := cond_t hbS hmS
          refine RL_pure (by exact wn1 rfl rfl rfl rfl) (by rfl) (by rfl) (x_fieldAddr fo25_5 (by rfl)) ?_
          refine RL_pure (by exact wn1 rfl rfl rfl rfl) (by rfl) (by rfl) (x_load (j := 5) (v := .slice A13 a0.Tri.length cp14) sc23 (by rfl) (H.cells (i := 0) (by rfl)) (by rfl)) ?_
          refine RL_pure (by exact wn1 rfl rfl rfl rfl) (by rfl) (by rfl) (x_fieldAddr fo25_5 (by rfl)) ?_
          refine RL_pure (by exact wn1 rfl rfl rfl rfl) (by rfl) (by rfl) (x_load (j := 5) (v := .slice A29 a1.Tri.length cp30) sc23 (by rfl) (H.cells (i := 1) (by rfl)) (by rfl)) ?_
          obtain ⟨v72, hv71, hm⟩ := bind_some hm
          refine RL_cons (O_call (by exact wn1 rfl rfl rfl rfl) (by rfl) (by rfl) (x_callL (by rfl) (args := [.slice A13 a0.Tri.length cp14, .slice A29 a1.Tri.length cp30]) (by rfl) (cf112 _ _)) (c112 okT K w69 a0.Tri A13 cp14 a1.Tri A29 cp30 (H.rd (i := 3) (by rfl)).any (H.rd (i := 7) (by rfl)).any v72 hv71) ?_)
          rintro e w73 ⟨rfl, H2⟩
          have H : Sep ok w w73 [.blk b33 25 [.int .i64 a0.W, .int .i64 a0.H, .slice A1 a0.Color.length cp2, .slice A5 a0.Depth.length cp6, .slice A9 a0.Item.length cp10, .slice A13 a0.Tri.length cp14], .blk b35 25 [.int .i64 a1.W, .int .i64 a1.H, .slice A17 a1.Color.length cp18, .slice A21 a1.Depth.length cp22, .slice A25 a1.Item.length cp26, .slice A29 a1.Tri.length cp30]] [RE.rd k_Ar4_Int A1 cp2 a0.Color, RE.rd kInt A5 cp6 a0.Depth, RE.rd kInt A9 cp10 a0.Item, RE.rd kInt A13 cp14 a0.Tri, RE.rd k_Ar4_Int A17 cp18 a1.Color, RE.rd kInt A21 cp22 a1.Depth, RE.rd kInt A25 cp26 a1.Item, RE.rd kInt A29 cp30 a1.Tri] := H.below H2.base
          clear H2
          refine ⟨_, rfl, ?_⟩
          show RL _ _ _ _ _ _ _
          refine RL_pure (by exact wn0 rfl) (by rfl) (by rfl) (x_pick_t (v := .bool v72) (by rfl) (by rfl)) ?_
          refine RL_nil ?_
          exact ⟨⟨congrArg Value.bool (Option.some.inj hm), trivial⟩, H⟩
        ·rintro r' w' ⟨hA, H⟩
         obtain ⟨r74, rfl⟩ := regen _ hA; clear hA
         obtain ⟨w75, rfl⟩ : ∃ W : World, W = w' := ⟨_, rfl⟩
         show RL _ _ _ _ _ _ _
         refine RL_pure (by exact wn0 rfl) (by rfl) (by rfl) (x_assign (v := .bool b70) (by rfl)) ?_
         refine RL_nil ?_
         refine W_ret ?_
         obtain rfl := Option.some.inj hm
         exact ⟨[.bool b70], (.tmp (by rfl) rfl), rfl, H.none_⟩
end Go.Proofs.YtobkigllalbkiaaV.M

/- A plain Lean function that answers as the Go function does (none: not told), and the proof that a call answers so. Written by program. -/
set_option linter.unusedVariables false
namespace Go.Proofs.YtobkigllalbkiaaV.M
open Go.RowKit Go.Proofs.YtobkigllalbkiaaV
/-- diorama/dioramaref25.Same -/
def m24 (K : Nat) (a0 : S_Frame) (a1 : S_Frame) : Option (Bool) :=
 ((m67 K a0 a1).bind fun v38 => some v38)
set_option maxRecDepth 100000 in
set_option maxHeartbeats 4000000 in
theorem c24 (ok : Okp) (K : Nat) (w : World) (a0 : S_Frame) (A1 : Option Addr) (cp2 : Nat) (A5 : Option Addr) (cp6 : Nat) (A9 : Option Addr) (cp10 : Nat) (A13 : Option Addr) (cp14 : Nat) (a1 : S_Frame) (A17 : Option Addr) (cp18 : Nat) (A21 : Option Addr) (cp22 : Nat) (A25 : Option Addr) (cp26 : Nat) (A29 : Option Addr) (cp30 : Nat) (hR3 : Rd k_Ar4_Int w ok A1 cp2 a0.Color) (hR7 : Rd kInt w ok A5 cp6 a0.Depth) (hR11 : Rd kInt w ok A9 cp10 a0.Item) (hR15 : Rd kInt w ok A13 cp14 a0.Tri) (hR19 : Rd k_Ar4_Int w ok A17 cp18 a1.Color) (hR23 : Rd kInt w ok A21 cp22 a1.Depth) (hR27 : Rd kInt w ok A25 cp26 a1.Item) (hR31 : Rd kInt w ok A29 cp30 a1.Tri) (res : Bool) (hm : m24 K a0 a1 = some res) :
  Calls Try.prog 24 #[.agg #[.int .i64 a0.W, .int .i64 a0.H, .slice A1 a0.Color.length cp2, .slice A5 a0.Depth.length cp6, .slice A9 a0.Item.length cp10, .slice A13 a0.Tri.length cp14], .agg #[.int .i64 a1.W, .int .i64 a1.H, .slice A17 a1.Color.length cp18, .slice A21 a1.Depth.length cp22, .slice A25 a1.Item.length cp26, .slice A29 a1.Tri.length cp30]] w (fun e w' => e = .returned (tup [.bool res]) ∧ Sep ok w w' [] []) := by
 refine calls_W (args := [.agg #[.int .i64 a0.W, .int .i64 a0.H, .slice A1 a0.Color.length cp2, .slice A5 a0.Depth.length cp6, .slice A9 a0.Item.length cp10, .slice A13 a0.Tri.length cp14], .agg #[.int .i64 a1.W, .int .i64 a1.H, .slice A17 a1.Color.length cp18, .slice A21 a1.Depth.length cp22, .slice A25 a1.Item.length cp26, .slice A29 a1.Tri.length cp30]]) Try.func24 rfl Try.ntmps24 Try.results24 rfl fun r hr => ?_
 obtain ⟨r1, rfl⟩ := regen (r := r) [(0, .agg #[.int .i64 a0.W, .int .i64 a0.H, .slice A1 a0.Color.length cp2, .slice A5 a0.Depth.length cp6, .slice A9 a0.Item.length cp10, .slice A13 a0.Tri.length cp14]), (1, .agg #[.int .i64 a1.W, .int .i64 a1.H, .slice A17 a1.Color.length cp18, .slice A21 a1.Depth.length cp22, .slice A25 a1.Item.length cp26, .slice A29 a1.Tri.length cp30])] ⟨hr 0 _ rfl, hr 1 _ rfl, trivial⟩
 have H : Sep ok w w [] [RE.rd k_Ar4_Int A1 cp2 a0.Color, RE.rd kInt A5 cp6 a0.Depth, RE.rd kInt A9 cp10 a0.Item, RE.rd kInt A13 cp14 a0.Tri, RE.rd k_Ar4_Int A17 cp18 a1.Color, RE.rd kInt A21 cp22 a1.Depth, RE.rd kInt A25 cp26 a1.Item, RE.rd kInt A29 cp30 a1.Tri] := Sep.arg (Sep.arg (Sep.arg (Sep.arg (Sep.arg (Sep.arg (Sep.arg (Sep.arg (Sep.start ok w) (re := RE.rd k_Ar4_Int A1 cp2 a0.Color) rfl rfl hR3) (re := RE.rd kInt A5 cp6 a0.Depth) rfl rfl hR7) (re := RE.rd kInt A9 cp10 a0.Item) rfl rfl hR11) (re := RE.rd kInt A13 cp14 a0.Tri) rfl rfl hR15) (re := RE.rd k_Ar4_Int A17 cp18 a1.Color) rfl rfl hR19) (re := RE.rd kInt A21 cp22 a1.Depth) rfl rfl hR23) (re := RE.rd kInt A25 cp26 a1.Item) rfl rfl hR27) (re := RE.rd kInt A29 cp30 a1.Tri) rfl rfl hR31
 unfold m24 at hm
 refine W_seq ?_
 refine W_region ?_
 refine RL_cons (O_box (by exact wn0 rfl) (by rfl) (by rfl) (by rfl) H (fun w34 b33 (H : Sep ok w w34 [.blk b33 25 [.int .i64 a0.W, .int .i64 a0.H, .slice A1 a0.Color.length cp2, .slice A5 a0.Depth.length cp6, .slice A9 a0.Item.length cp10, .slice A13 a0.Tri.length cp14]] [RE.rd k_Ar4_Int A1 cp2 a0.Color, RE.rd kInt A5 cp6 a0.Depth, RE.rd kInt A9 cp10 a0.Item, RE.rd kInt A13 cp14 a0.Tri, RE.rd k_Ar4_Int A17 cp18 a1.Color, RE.rd kInt A21 cp22 a1.Depth, RE.rd kInt A25 cp26 a1.Item, RE.rd kInt A29 cp30 a1.Tri]) => ?_))
 refine RL_cons (O_box (by exact wn0 rfl) (by rfl) (by rfl) (by rfl) H (fun w36 b35 (H : Sep ok w w36 [.blk b33 25 [.int .i64 a0.W, .int .i64 a0.H, .slice A1 a0.Color.length cp2, .slice A5 a0.Depth.length cp6, .slice A9 a0.Item.length cp10, .slice A13 a0.Tri.length cp14], .blk b35 25 [.int .i64 a1.W, .int .i64 a1.H, .slice A17 a1.Color.length cp18, .slice A21 a1.Depth.length cp22, .slice A25 a1.Item.length cp26, .slice A29 a1.Tri.length cp30]] [RE.rd k_Ar4_Int A1 cp2 a0.Color, RE.rd kInt A5 cp6 a0.Depth, RE.rd kInt A9 cp10 a0.Item, RE.rd kInt A13 cp14 a0.Tri, RE.rd k_Ar4_Int A17 cp18 a1.Color, RE.rd kInt A21 cp22 a1.Depth, RE.rd kInt A25 cp26 a1.Item, RE.rd kInt A29 cp30 a1.Tri]) => ?_))
 refine RL_pure (by exact wn0 rfl) (by rfl) (by rfl) (x_assign (v := .bool false) (by rfl)) ?_
 refine RL_nil ?_
 refine W_seq ?_
 refine W_region ?_
 refine RL_pure (by exact wn0 rfl) (by rfl) (by rfl) (x_loadA (j := 0) (vs := [.int .i64 a0.W, .int .i64 a0.H, .slice A1 a0.Color.length cp2, .slice A5 a0.Depth.length cp6, .slice A9 a0.Item.length cp10, .slice A13 a0.Tri.length cp14]) ag25 (by rfl) (H.cells (i := 0) (by rfl)) (by rfl) (by rfl)) ?_
 refine RL_pure (by exact wn0 rfl) (by rfl) (by rfl) (x_loadA (j := 0) (vs := [.int .i64 a1.W, .int .i64 a1.H, .slice A17 a1.Color.length cp18, .slice A21 a1.Depth.length cp22, .slice A25 a1.Item.length cp26, .slice A29 a1.Tri.length cp30]) ag25 (by rfl) (H.cells (i := 1) (by rfl)) (by rfl) (by rfl)) ?_
 obtain ⟨v38, hv37, hm⟩ := bind_some hm
 refine RL_cons (O_call (by exact wn0 rfl) (by rfl) (by rfl) (x_callL (by rfl) (args := [.agg #[.int .i64 a0.W, .int .i64 a0.H, .slice A1 a0.Color.length cp2, .slice A5 a0.Depth.length cp6, .slice A9 a0.Item.length cp10, .slice A13 a0.Tri.length cp14], .agg #[.int .i64 a1.W, .int .i64 a1.H, .slice A17 a1.Color.length cp18, .slice A21 a1.Depth.length cp22, .slice A25 a1.Item.length cp26, .slice A29 a1.Tri.length cp30]]) (by rfl) (cf67 _ _)) (c67 okT K w36 a0 A1 cp2 A5 cp6 A9 cp10 A13 cp14 a1 A17 cp18 A21 cp22 A25 cp26 A29 cp30 (H.rd (i := 0) (by rfl)).any (H.rd (i := 1) (by rfl)).any (H.rd (i := 2) (by rfl)).any (H.rd (i := 3) (by rfl)).any (H.rd (i := 4) (by rfl)).any (H.rd (i := 5) (by rfl)).any (H.rd (i := 6) (by rfl)).any (H.rd (i := 7) (by rfl)).any v38 hv37) ?_)
 rintro e w39 ⟨rfl, H2⟩
 have H : Sep ok w w39 [.blk b33 25 [.int .i64 a0.W, .int .i64 a0.H, .slice A1 a0.Color.length cp2, .slice A5 a0.Depth.length cp6, .slice A9 a0.Item.length cp10, .slice A13 a0.Tri.length cp14], .blk b35 25 [.int .i64 a1.W, .int .i64 a1.H, .slice A17 a1.Color.length cp18, .slice A21 a1.Depth.length cp22, .slice A25 a1.Item.length cp26, .slice A29 a1.Tri.length cp30]] [RE.rd k_Ar4_Int A1 cp2 a0.Color, RE.rd kInt A5 cp6 a0.Depth, RE.rd kInt A9 cp10 a0.Item, RE.rd kInt A13 cp14 a0.Tri, RE.rd k_Ar4_Int A17 cp18 a1.Color, RE.rd kInt A21 cp22 a1.Depth, RE.rd kInt A25 cp26 a1.Item, RE.rd kInt A29 cp30 a1.Tri] := H.below H2.base
 clear H2
 refine ⟨_, rfl, ?_⟩
 show RL _ _ _ _ _ _ _
 refine RL_pure (by exact wn0 rfl) (by rfl) (by rfl) (x_assign (v := .bool v38) (by rfl)) ?_
 refine RL_nil ?_
 refine W_ret ?_
 obtain rfl := Option.some.inj hm
 exact ⟨[.bool v38], (.tmp (by rfl) rfl), rfl, H.none_⟩
end Go.Proofs.YtobkigllalbkiaaV.M
