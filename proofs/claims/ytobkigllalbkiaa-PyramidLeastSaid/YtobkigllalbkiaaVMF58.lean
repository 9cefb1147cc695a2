/- A plain Lean function that answers as the Go function does (none: not told), and the proof that a call answers so. Written by program. -/
import Derived.Test.YtobkigllalbkiaaVMTy
import Derived.Test.YtobkigllalbkiaaVMF109
set_option linter.unusedVariables false
namespace Go.Proofs.YtobkigllalbkiaaV.M
open Go.RowKit Go.Proofs.YtobkigllalbkiaaV
def m58_l2b (K : Nat) (l_row11_1 : (List S_Level)) (b5_0_1 : Int) (b5_1_1 : Int) (b5_2_1 : (List Int)) (rec1 : (List S_Level) → Int → Int → (List Int) → Option (S_Pyramid)) (x25 : Int) (x27 : Int) (x31 : Int) (rec2 : (List Int) → Int → Option (S_Pyramid)) (l_row56_2 : (List Int)) (y33_2 : Int) : Option (S_Pyramid) :=
  (bif (decide (y33_2 < x31)) then (nz x25 (ck (2 * (Int.tmod y33_2 x25)) fun x36 => (nz x25 (ck (Int.tdiv y33_2 x25) fun x37 => (ck (2 * x37) fun x38 => (ck (x36 + 1) fun x40 => (ck (x38 + 1) fun x41 => (ck (x36 + 1) fun x42 => (ck (x38 + 1) fun x43 => ((m109 K (⟨b5_0_1, b5_1_1, b5_2_1⟩ : S_Level) x36 x38).bind fun v45 => ((m109 K (⟨b5_0_1, b5_1_1, b5_2_1⟩ : S_Level) x40 x38).bind fun v48 => ((m109 K (⟨b5_0_1, b5_1_1, b5_2_1⟩ : S_Level) x36 x41).bind fun v51 => ((m109 K (⟨b5_0_1, b5_1_1, b5_2_1⟩ : S_Level) x42 x43).bind fun v54 => (apd 8 l_row56_2 (mn (mn (mn v45 v48) v51) v54) fun l62 => (ck (y33_2 + 1) fun x66 => (rec2 l62 x66)))))))))))))))) else (apd 40 l_row11_1 (⟨x25, x27, l_row56_2⟩ : S_Level) fun l74 => (rec1 l74 x25 x27 l_row56_2)))
def m58_l2 (K : Nat) (l_row11_1 : (List S_Level)) (b5_0_1 : Int) (b5_1_1 : Int) (b5_2_1 : (List Int)) (rec1 : (List S_Level) → Int → Int → (List Int) → Option (S_Pyramid)) (x25 : Int) (x27 : Int) (x31 : Int) : Nat → (List Int) → Int → Option (S_Pyramid)
  | 0 => fun _ _ => none
  | k + 1 => m58_l2b K l_row11_1 b5_0_1 b5_1_1 b5_2_1 rec1 x25 x27 x31 (m58_l2 K l_row11_1 b5_0_1 b5_1_1 b5_2_1 rec1 x25 x27 x31 k)
def m58_l1b (K : Nat)  (rec1 : (List S_Level) → Int → Int → (List Int) → Option (S_Pyramid)) (l_row11_1 : (List S_Level)) (b5_0_1 : Int) (b5_1_1 : Int) (b5_2_1 : (List Int)) : Option (S_Pyramid) :=
  (ck (b5_0_1 * b5_1_1) fun x23 => (bif (decide (1 < x23)) then (ck (b5_0_1 + 1) fun x24 => (ck (Int.tdiv x24 2) fun x25 => (ck (b5_1_1 + 1) fun x26 => (ck (Int.tdiv x26 2) fun x27 => (ck (x25 * x27) fun x31 => m58_l2 K l_row11_1 b5_0_1 b5_1_1 b5_2_1 rec1 x25 x27 x31 K ([]) 0))))) else some (⟨l_row11_1⟩ : S_Pyramid)))
def m58_l1 (K : Nat)  : Nat → (List S_Level) → Int → Int → (List Int) → Option (S_Pyramid)
  | 0 => fun _ _ _ _ => none
  | k + 1 => m58_l1b K  (m58_l1 K  k)
/-- diorama/pyramid.build -/
def m58 (K : Nat) (a0 : S_Level) : Option (S_Pyramid) :=
  (apd 40 ([] : List S_Level) a0 fun l17 => m58_l1 K K l17 a0.W a0.H a0.Low)
set_option maxRecDepth 100000 in
set_option maxHeartbeats 4000000 in
theorem c58 (ok : Nat → Prop) (K : Nat) (w : World) (a0 : S_Level) (A1 : Option Addr) (cp2 : Nat) (hR3 : Rd kInt w ok A1 cp2 a0.Low) (res : S_Pyramid) (hm : m58 K a0 = some res) :
    Calls Try.prog 58 #[.agg #[.int .i64 a0.W, .int .i64 a0.H, .slice A1 a0.Low.length cp2]] w (fun e w' => ∃ (A0_ : Option Addr) (c0_ : Nat), e = .returned (tup [.agg #[.slice A0_ res.Levels.length c0_]]) ∧ Sep ok w w' [] [RE.rd k_Level A0_ c0_ res.Levels]) := by
  refine calls_W (args := [.agg #[.int .i64 a0.W, .int .i64 a0.H, .slice A1 a0.Low.length cp2]]) Try.func58 rfl Try.ntmps58 Try.results58 rfl fun r hr => ?_
  obtain ⟨r1, rfl⟩ := regen (r := r) [(0, .agg #[.int .i64 a0.W, .int .i64 a0.H, .slice A1 a0.Low.length cp2])] ⟨hr 0 _ rfl, trivial⟩
  have H : Sep ok w w [] [RE.rd kInt A1 cp2 a0.Low] := Sep.arg (Sep.start ok w) (re := RE.rd kInt A1 cp2 a0.Low) rfl rfl hR3
  unfold m58 at hm
  refine W_seq ?_
  refine W_region ?_
  refine RL_cons (O_box (by exact wn0 rfl) (by rfl) (by rfl) (by rfl) H (fun w6 b5 (H : Sep ok w w6 [.blk b5 54 [.int .i64 a0.W, .int .i64 a0.H, .slice A1 a0.Low.length cp2]] [RE.rd kInt A1 cp2 a0.Low]) => ?_))
  refine RL_cons (O_alloc (by exact wn0 rfl) (by rfl) ze28 (by rfl) H (fun w8 b7 (H : Sep ok w w8 [.blk b5 54 [.int .i64 a0.W, .int .i64 a0.H, .slice A1 a0.Low.length cp2], .blk b7 28 [.slice none 0 0]] [RE.rd kInt A1 cp2 a0.Low]) => ?_))
  refine RL_nil ?_
  refine W_seq ?_
  refine W_region ?_
  refine RL_pure (by exact wn0 rfl) (by rfl) (by rfl) (x_fieldAddr fo28_0 (by rfl)) ?_
  refine RL_pure (by exact wn0 rfl) (by rfl) (by rfl) (x_load (j := 0) (v := .slice none 0 0) sc26 (by rfl) (H.cells (i := 1) (by rfl)) (by rfl)) ?_
  refine RL_pure (by exact wn0 rfl) (by rfl) (by rfl) (x_loadA (j := 0) (vs := [.int .i64 a0.W, .int .i64 a0.H, .slice A1 a0.Low.length cp2]) ag54 (by rfl) (H.cells (i := 0) (by rfl)) (by rfl) (by rfl)) ?_
  refine RL_cons (O_buildSlice (vs := [(0, .agg #[.int .i64 a0.W, .int .i64 a0.H, .slice A1 a0.Low.length cp2])]) (cs := [.int .i64 a0.W, .int .i64 a0.H, .slice A1 a0.Low.length cp2]) (by exact wn0 rfl) (by rfl) sl26 sz54 ze54 (by rfl) (by rfl) (by rfl) (by kernel_rfl) H (fun w10 b9 (H : Sep ok w w10 [.blk b5 54 [.int .i64 a0.W, .int .i64 a0.H, .slice A1 a0.Low.length cp2], .blk b7 28 [.slice none 0 0], .blk b9 54 [.int .i64 a0.W, .int .i64 a0.H, .slice A1 a0.Low.length cp2]] [RE.rd kInt A1 cp2 a0.Low]) => ?_))
  have H : Sep ok w w10 [.blk b5 54 [.int .i64 a0.W, .int .i64 a0.H, .slice A1 a0.Low.length cp2], .blk b7 28 [.slice none 0 0], .blk b9 54 [.int .i64 a0.W, .int .i64 a0.H, .slice A1 a0.Low.length cp2], .row (.slice none 0 0) 54 k_Level.sz 0 []] [RE.rd kInt A1 cp2 a0.Low, RE.chunks k_Level [] ([])] := H.nilRowK 54 k_Level
  obtain ⟨l17, hl18, hb19, hm⟩ := apd_some hm
  refine RL_cons (O_append (D := k_Level) (xs := ([] : List S_Level)) (i := 3) (j := 1) (o := 0) (y := a0) (by exact wn0 rfl) (by rfl) (by rfl) (by rfl) H (by rfl) (by rfl) (H.cells (i := 2) (by rfl)) (by exact ⟨A1, cp2, rfl, H.rd (i := 0) (by rfl)⟩) hl18 sl26 sz54 by54 ze54 (by rfl) (by rfl) hb19 (by rfl) (fun w13 A14 cp15 cs16 (H : Sep ok w w13 [.blk b5 54 [.int .i64 a0.W, .int .i64 a0.H, .slice A1 a0.Low.length cp2], .blk b7 28 [.slice none 0 0], .blk b9 54 [.int .i64 a0.W, .int .i64 a0.H, .slice A1 a0.Low.length cp2], .row (.slice A14 l17.length cp15) 54 k_Level.sz l17.length cs16] [RE.rd kInt A1 cp2 a0.Low, RE.chunks k_Level cs16 l17]) => ?_))
  refine RL_pure (by exact wn0 rfl) (by rfl) (by rfl) (x_fieldAddr fo28_0 (by rfl)) ?_
  refine RL_cons (O_store (i := 1) (off := 0) (by exact wn0 rfl) (by rfl) (by rfl) H (by rfl) (vs := [.slice A14 l17.length cp15]) (by rfl) sz26 (by rfl) (by rfl) (by rfl) (fun w20 (H : Sep ok w w20 [.blk b5 54 [.int .i64 a0.W, .int .i64 a0.H, .slice A1 a0.Low.length cp2], .blk b7 28 [.slice A14 l17.length cp15], .blk b9 54 [.int .i64 a0.W, .int .i64 a0.H, .slice A1 a0.Low.length cp2], .row (.slice A14 l17.length cp15) 54 k_Level.sz l17.length cs16] [RE.rd kInt A1 cp2 a0.Low, RE.chunks k_Level cs16 l17]) => ?_))
  refine RL_nil ?_
  refine W_seq ?_
  refine W_block ?_
  refine W_loop (fun k1 r' w' => ∃ (l_row11_1 : (List S_Level)), ∃ (b5_0_1 : Int), ∃ (b5_1_1 : Int), ∃ (b5_2_1 : (List Int)), ∃ (A_row11_1 : Option Addr), ∃ (c_row11_1 : Nat), ∃ (cs_row11_1 : List Value), ∃ (Ab5_2_1 : Option Addr), ∃ (cb5_2_1 : Nat), m58_l1 K k1 l_row11_1 b5_0_1 b5_1_1 b5_2_1 = some res ∧ Agr [(1, .pointer (some ⟨b5, 0, none⟩)), (2, .pointer (some ⟨b7, 0, none⟩))] r' ∧ Sep ok w w' [.blk b5 54 [.int .i64 b5_0_1, .int .i64 b5_1_1, .slice Ab5_2_1 b5_2_1.length cb5_2_1], .blk b7 28 [.slice A_row11_1 l_row11_1.length c_row11_1], .blk b9 54 [.int .i64 a0.W, .int .i64 a0.H, .slice A1 a0.Low.length cp2], .row (.slice A_row11_1 l_row11_1.length c_row11_1) 54 k_Level.sz l_row11_1.length cs_row11_1] [RE.rd kInt A1 cp2 a0.Low, RE.chunks k_Level cs_row11_1 l_row11_1, RE.rd kInt Ab5_2_1 cb5_2_1 b5_2_1]) K ?_ ?_
  · exact ⟨l17, a0.W, a0.H, a0.Low, A14, cp15, cs16, A1, cp2, hm, ⟨rfl, rfl, trivial⟩, (H).pick [0, 1, 0]⟩
  · rintro k1 r' w' ⟨l_row11_1, b5_0_1, b5_1_1, b5_2_1, A_row11_1, c_row11_1, cs_row11_1, Ab5_2_1, cb5_2_1, hm, hA, H⟩
    obtain ⟨r21, rfl⟩ := regen _ hA; clear hA
    obtain ⟨w22, rfl⟩ : ∃ W : World, W = w' := ⟨_, rfl⟩
    cases k1 with
    | zero => exact (none_some hm).elim
    | succ k1 =>
      have hm : m58_l1b K (m58_l1 K k1) l_row11_1 b5_0_1 b5_1_1 b5_2_1 = some res := hm
      unfold m58_l1b at hm
      obtain ⟨rec1, hrec1⟩ : ∃ f, m58_l1 K k1 = f := ⟨_, rfl⟩
      rw [hrec1] at hm
      refine W_seq ?_
      refine W_seq ?_
      refine W_region ?_
      refine RL_pure (by exact wn0 rfl) (by rfl) (by rfl) (x_fieldAddr fo54_0 (by rfl)) ?_
      refine RL_pure (by exact wn0 rfl) (by rfl) (by rfl) (x_load (j := 0) (v := .int .i64 b5_0_1) sc3 (by rfl) (H.cells (i := 0) (by rfl)) (by rfl)) ?_
      refine RL_pure (by exact wn0 rfl) (by rfl) (by rfl) (x_fieldAddr fo54_1 (by rfl)) ?_
      refine RL_pure (by exact wn0 rfl) (by rfl) (by rfl) (x_load (j := 1) (v := .int .i64 b5_1_1) sc3 (by rfl) (H.cells (i := 0) (by rfl)) (by rfl)) ?_
      obtain ⟨x23, ex23, qx23, ux23, hm⟩ := ck_some hm
      refine RL_pure (by exact wn0 rfl) (by rfl) (by rfl) (x_mul (by rfl) (by rfl) ux23) ?_
      refine RL_pure (by exact wn0 rfl) (by rfl) (by rfl) (x_gtr (by rfl) (by rfl)) ?_
      refine RL_nil ?_
      refine W_cond (by rfl) (fun hb => ?_) (fun hb => ?_)
      · have hm := cond_t hb hm
        refine W_skip ?_
        refine W_block ?_
        refine W_seq ?_
        refine W_region ?_
        refine RL_pure (by exact wn0 rfl) (by rfl) (by rfl) (x_fieldAddr fo54_0 (by rfl)) ?_
        refine RL_pure (by exact wn0 rfl) (by rfl) (by rfl) (x_load (j := 0) (v := .int .i64 b5_0_1) sc3 (by rfl) (H.cells (i := 0) (by rfl)) (by rfl)) ?_
        obtain ⟨x24, ex24, qx24, ux24, hm⟩ := ck_some hm
        refine RL_pure (by exact wn0 rfl) (by rfl) (by rfl) (x_add (by rfl) (by rfl) ux24) ?_
        obtain ⟨x25, ex25, qx25, ux25, hm⟩ := ck_some hm
        refine RL_pure (by exact wn0 rfl) (by rfl) (by rfl) (x_quo (by rfl) (by rfl) (by decide) ux25) ?_
        refine RL_pure (by exact wn0 rfl) (by rfl) (by rfl) (x_fieldAddr fo54_1 (by rfl)) ?_
        refine RL_pure (by exact wn0 rfl) (by rfl) (by rfl) (x_load (j := 1) (v := .int .i64 b5_1_1) sc3 (by rfl) (H.cells (i := 0) (by rfl)) (by rfl)) ?_
        obtain ⟨x26, ex26, qx26, ux26, hm⟩ := ck_some hm
        refine RL_pure (by exact wn0 rfl) (by rfl) (by rfl) (x_add (by rfl) (by rfl) ux26) ?_
        obtain ⟨x27, ex27, qx27, ux27, hm⟩ := ck_some hm
        refine RL_pure (by exact wn0 rfl) (by rfl) (by rfl) (x_quo (by rfl) (by rfl) (by decide) ux27) ?_
        refine RL_pure (by exact wn0 rfl) (by rfl) (by rfl) (x_build (vs := [(0, .int .i64 x25), (1, .int .i64 x27)]) (cs := [.int .i64 x25, .int .i64 x27, .slice none 0 0]) (by rfl) (by kernel_rfl)) ?_
        refine RL_cons (O_alloc (by exact wn0 rfl) (by rfl) ze54 (by rfl) H (fun w29 b28 (H : Sep ok w w29 [.blk b5 54 [.int .i64 b5_0_1, .int .i64 b5_1_1, .slice Ab5_2_1 b5_2_1.length cb5_2_1], .blk b7 28 [.slice A_row11_1 l_row11_1.length c_row11_1], .blk b9 54 [.int .i64 a0.W, .int .i64 a0.H, .slice A1 a0.Low.length cp2], .row (.slice A_row11_1 l_row11_1.length c_row11_1) 54 k_Level.sz l_row11_1.length cs_row11_1, .blk b28 54 [.int .i64 0, .int .i64 0, .slice none 0 0]] [RE.rd kInt A1 cp2 a0.Low, RE.chunks k_Level cs_row11_1 l_row11_1, RE.rd kInt Ab5_2_1 cb5_2_1 b5_2_1]) => ?_))
        refine RL_cons (O_store (i := 4) (off := 0) (by exact wn0 rfl) (by rfl) (by rfl) H (by rfl) (vs := [.int .i64 x25, .int .i64 x27, .slice none 0 0]) (by rfl) sz54 (by rfl) (by rfl) (by rfl) (fun w30 (H : Sep ok w w30 [.blk b5 54 [.int .i64 b5_0_1, .int .i64 b5_1_1, .slice Ab5_2_1 b5_2_1.length cb5_2_1], .blk b7 28 [.slice A_row11_1 l_row11_1.length c_row11_1], .blk b9 54 [.int .i64 a0.W, .int .i64 a0.H, .slice A1 a0.Low.length cp2], .row (.slice A_row11_1 l_row11_1.length c_row11_1) 54 k_Level.sz l_row11_1.length cs_row11_1, .blk b28 54 [.int .i64 x25, .int .i64 x27, .slice none 0 0]] [RE.rd kInt A1 cp2 a0.Low, RE.chunks k_Level cs_row11_1 l_row11_1, RE.rd kInt Ab5_2_1 cb5_2_1 b5_2_1]) => ?_))
        refine RL_nil ?_
        refine W_seq ?_
        refine W_seq ?_
        refine W_region ?_
        refine RL_pure (by exact wn0 rfl) (by rfl) (by rfl) (x_fieldAddr fo54_0 (by rfl)) ?_
        refine RL_pure (by exact wn0 rfl) (by rfl) (by rfl) (x_load (j := 0) (v := .int .i64 x25) sc3 (by rfl) (H.cells (i := 4) (by rfl)) (by rfl)) ?_
        refine RL_pure (by exact wn0 rfl) (by rfl) (by rfl) (x_fieldAddr fo54_1 (by rfl)) ?_
        refine RL_pure (by exact wn0 rfl) (by rfl) (by rfl) (x_load (j := 1) (v := .int .i64 x27) sc3 (by rfl) (H.cells (i := 4) (by rfl)) (by rfl)) ?_
        obtain ⟨x31, ex31, qx31, ux31, hm⟩ := ck_some hm
        refine RL_pure (by exact wn0 rfl) (by rfl) (by rfl) (x_mul (by rfl) (by rfl) ux31) ?_
        refine RL_pure (by exact wn0 rfl) (by rfl) (by rfl) (x_move (v := .int .i64 0) (by rfl)) ?_
        refine RL_nil ?_
        refine W_block ?_
        refine W_loop (fun k2 r' w' => ∃ (l_row56_2 : (List Int)), ∃ (y33_2 : Int), ∃ (A_row11_1 : Option Addr), ∃ (c_row11_1 : Nat), ∃ (cs_row11_1 : List Value), ∃ (A_row56_2 : Option Addr), ∃ (c_row56_2 : Nat), ∃ (cs_row56_2 : List Value), ∃ (Ab5_2_1 : Option Addr), ∃ (cb5_2_1 : Nat), m58_l2 K l_row11_1 b5_0_1 b5_1_1 b5_2_1 rec1 x25 x27 x31 k2 l_row56_2 y33_2 = some res ∧ Agr [(1, .pointer (some ⟨b5, 0, none⟩)), (2, .pointer (some ⟨b7, 0, none⟩)), (3, .pointer (some ⟨b28, 0, none⟩)), (32, .int .i64 x31), (33, .int .i64 y33_2)] r' ∧ Sep ok w w' [.blk b5 54 [.int .i64 b5_0_1, .int .i64 b5_1_1, .slice Ab5_2_1 b5_2_1.length cb5_2_1], .blk b7 28 [.slice A_row11_1 l_row11_1.length c_row11_1], .blk b9 54 [.int .i64 a0.W, .int .i64 a0.H, .slice A1 a0.Low.length cp2], .row (.slice A_row11_1 l_row11_1.length c_row11_1) 54 k_Level.sz l_row11_1.length cs_row11_1, .blk b28 54 [.int .i64 x25, .int .i64 x27, .slice A_row56_2 l_row56_2.length c_row56_2], .row (.slice A_row56_2 l_row56_2.length c_row56_2) 3 kInt.sz l_row56_2.length cs_row56_2] [RE.rd kInt A1 cp2 a0.Low, RE.chunks k_Level cs_row11_1 l_row11_1, RE.rd kInt Ab5_2_1 cb5_2_1 b5_2_1, RE.chunks kInt cs_row56_2 l_row56_2]) K ?_ ?_
        · exact ⟨[], 0, A_row11_1, c_row11_1, cs_row11_1, none, 0, [], Ab5_2_1, cb5_2_1, hm, ⟨rfl, rfl, rfl, rfl, rfl, trivial⟩, (H).nilRowK 3 kInt⟩
        · rintro k2 r' w' ⟨l_row56_2, y33_2, A_row11_1, c_row11_1, cs_row11_1, A_row56_2, c_row56_2, cs_row56_2, Ab5_2_1, cb5_2_1, hm, hA, H⟩
          obtain ⟨r32, rfl⟩ := regen _ hA; clear hA
          obtain ⟨w33, rfl⟩ : ∃ W : World, W = w' := ⟨_, rfl⟩
          cases k2 with
          | zero => exact (none_some hm).elim
          | succ k2 =>
            have hm : m58_l2b K l_row11_1 b5_0_1 b5_1_1 b5_2_1 rec1 x25 x27 x31 (m58_l2 K l_row11_1 b5_0_1 b5_1_1 b5_2_1 rec1 x25 x27 x31 k2) l_row56_2 y33_2 = some res := hm
            unfold m58_l2b at hm
            obtain ⟨rec2, hrec2⟩ : ∃ f, m58_l2 K l_row11_1 b5_0_1 b5_1_1 b5_2_1 rec1 x25 x27 x31 k2 = f := ⟨_, rfl⟩
            rw [hrec2] at hm
            refine W_seq ?_
            refine W_region ?_
            refine RL_pure (by exact wn0 rfl) (by rfl) (by rfl) (x_lss (by rfl) (by rfl)) ?_
            refine RL_nil ?_
            refine W_seq ?_
            refine W_cond (by rfl) (fun hb => ?_) (fun hb => ?_)
            · have hm := cond_t hb hm
              refine W_skip ?_
              refine W_seq ?_
              refine W_block ?_
              refine W_seq ?_
              refine W_region ?_
              refine RL_pure (by exact wn0 rfl) (by rfl) (by rfl) (x_move (v := .int .i64 y33_2) (by rfl)) ?_
              refine RL_pure (by exact wn0 rfl) (by rfl) (by rfl) (x_assign (v := .int .i64 y33_2) (by rfl)) ?_
              refine RL_nil ?_
              refine W_seq ?_
              refine W_draw [.free 0, .free 1, .take 2, .free 3, .free 4, .free 5, .free 6, .take 7, .free 8, .free 9, .free 10, .free 11] (fun wS => Sep ok w wS [.blk b5 54 [.int .i64 b5_0_1, .int .i64 b5_1_1, .slice Ab5_2_1 b5_2_1.length cb5_2_1], .blk b7 28 [.slice A_row11_1 l_row11_1.length c_row11_1], .blk b9 54 [.int .i64 a0.W, .int .i64 a0.H, .slice A1 a0.Low.length cp2], .row (.slice A_row11_1 l_row11_1.length c_row11_1) 54 k_Level.sz l_row11_1.length cs_row11_1, .blk b28 54 [.int .i64 x25, .int .i64 x27, .slice A_row56_2 l_row56_2.length c_row56_2], .row (.slice A_row56_2 l_row56_2.length c_row56_2) 3 kInt.sz l_row56_2.length cs_row56_2] [RE.rd kInt A1 cp2 a0.Low, RE.chunks k_Level cs_row11_1 l_row11_1, RE.rd kInt Ab5_2_1 cb5_2_1 b5_2_1, RE.chunks kInt cs_row56_2 l_row56_2]) [] [0, 1, 3, 4, 5, 6, 8, 9, 10, 11] mixed0 (by kernel_rfl) (by kernel_rfl) (by kernel_rfl) (by rfl) (by exact H.drew) ?_
              obtain ⟨w34, hW⟩ : ∃ W : World, W = { w33 with drawn := w33.drawn + 1 } := ⟨_, rfl⟩
              rw [← hW]
              have H : Sep ok w w34 [.blk b5 54 [.int .i64 b5_0_1, .int .i64 b5_1_1, .slice Ab5_2_1 b5_2_1.length cb5_2_1], .blk b7 28 [.slice A_row11_1 l_row11_1.length c_row11_1], .blk b9 54 [.int .i64 a0.W, .int .i64 a0.H, .slice A1 a0.Low.length cp2], .row (.slice A_row11_1 l_row11_1.length c_row11_1) 54 k_Level.sz l_row11_1.length cs_row11_1, .blk b28 54 [.int .i64 x25, .int .i64 x27, .slice A_row56_2 l_row56_2.length c_row56_2], .row (.slice A_row56_2 l_row56_2.length c_row56_2) 3 kInt.sz l_row56_2.length cs_row56_2] [RE.rd kInt A1 cp2 a0.Low, RE.chunks k_Level cs_row11_1 l_row11_1, RE.rd kInt Ab5_2_1 cb5_2_1 b5_2_1, RE.chunks kInt cs_row56_2 l_row56_2] := by rw [hW]; exact H.drew
              clear hW
              refine PR_free (by rfl) (by rfl) (by rfl) (by exact wn0 rfl) (fun wS => (x_move (v := .int .i64 y33_2) (by rfl))) ?_
              refine PR_free (by rfl) (by rfl) (by rfl) (by exact wn0 rfl) (fun wS => (x_fieldAddr fo54_0 (by rfl))) ?_
              refine PR_take (by rfl) (by rfl) (by rfl) (by exact wn0 rfl) (fun wS (H : Sep ok w wS [.blk b5 54 [.int .i64 b5_0_1, .int .i64 b5_1_1, .slice Ab5_2_1 b5_2_1.length cb5_2_1], .blk b7 28 [.slice A_row11_1 l_row11_1.length c_row11_1], .blk b9 54 [.int .i64 a0.W, .int .i64 a0.H, .slice A1 a0.Low.length cp2], .row (.slice A_row11_1 l_row11_1.length c_row11_1) 54 k_Level.sz l_row11_1.length cs_row11_1, .blk b28 54 [.int .i64 x25, .int .i64 x27, .slice A_row56_2 l_row56_2.length c_row56_2], .row (.slice A_row56_2 l_row56_2.length c_row56_2) 3 kInt.sz l_row56_2.length cs_row56_2] [RE.rd kInt A1 cp2 a0.Low, RE.chunks k_Level cs_row11_1 l_row11_1, RE.rd kInt Ab5_2_1 cb5_2_1 b5_2_1, RE.chunks kInt cs_row56_2 l_row56_2]) => (x_load (j := 0) (v := .int .i64 x25) sc3 (by rfl) (H.cells (i := 4) (by rfl)) (by rfl))) ?_
              obtain ⟨nx35, hm⟩ := nz_some hm
              refine PR_free (by rfl) (by rfl) (by rfl) (by exact wn0 rfl) (fun wS => (x_rem (by rfl) (by rfl) nx35)) ?_
              obtain ⟨x36, ex36, qx36, ux36, hm⟩ := ck_some hm
              refine PR_free (by rfl) (by rfl) (by rfl) (by exact wn0 rfl) (fun wS => (x_mul (by rfl) (by rfl) ux36)) ?_
              refine PR_free (by rfl) (by rfl) (by rfl) (by exact wn0 rfl) (fun wS => (x_move (v := .int .i64 y33_2) (by rfl))) ?_
              refine PR_free (by rfl) (by rfl) (by rfl) (by exact wn0 rfl) (fun wS => (x_fieldAddr fo54_0 (by rfl))) ?_
              refine PR_take (by rfl) (by rfl) (by rfl) (by exact wn0 rfl) (fun wS (H : Sep ok w wS [.blk b5 54 [.int .i64 b5_0_1, .int .i64 b5_1_1, .slice Ab5_2_1 b5_2_1.length cb5_2_1], .blk b7 28 [.slice A_row11_1 l_row11_1.length c_row11_1], .blk b9 54 [.int .i64 a0.W, .int .i64 a0.H, .slice A1 a0.Low.length cp2], .row (.slice A_row11_1 l_row11_1.length c_row11_1) 54 k_Level.sz l_row11_1.length cs_row11_1, .blk b28 54 [.int .i64 x25, .int .i64 x27, .slice A_row56_2 l_row56_2.length c_row56_2], .row (.slice A_row56_2 l_row56_2.length c_row56_2) 3 kInt.sz l_row56_2.length cs_row56_2] [RE.rd kInt A1 cp2 a0.Low, RE.chunks k_Level cs_row11_1 l_row11_1, RE.rd kInt Ab5_2_1 cb5_2_1 b5_2_1, RE.chunks kInt cs_row56_2 l_row56_2]) => (x_load (j := 0) (v := .int .i64 x25) sc3 (by rfl) (H.cells (i := 4) (by rfl)) (by rfl))) ?_
              obtain ⟨nx37, hm⟩ := nz_some hm
              obtain ⟨x37, ex37, qx37, ux37, hm⟩ := ck_some hm
              refine PR_free (by rfl) (by rfl) (by rfl) (by exact wn0 rfl) (fun wS => (x_quo (by rfl) (by rfl) nx37 ux37)) ?_
              obtain ⟨x38, ex38, qx38, ux38, hm⟩ := ck_some hm
              refine PR_free (by rfl) (by rfl) (by rfl) (by exact wn0 rfl) (fun wS => (x_mul (by rfl) (by rfl) ux38)) ?_
              refine PR_free (by rfl) (by rfl) (by rfl) (by exact wn0 rfl) (fun wS => (x_assign (v := .int .i64 x36) (by rfl))) ?_
              refine PR_free (by rfl) (by rfl) (by rfl) (by exact wn0 rfl) (fun wS => (x_assign (v := .int .i64 x38) (by rfl))) ?_
              refine PR_nil ?_
              refine W_draw [.free 0, .take 1, .take 2, .free 3, .free 4, .take 6, .free 7, .free 8, .free 9, .take 11, .free 12, .free 13, .free 14, .take 16, .free 17, .free 18, .free 19, .free 20, .run 5, .run 10, .run 15, .run 21, .free 22, .run 23, .run 24, .free 25, .tail 26] (fun wS => Sep ok w wS [.blk b5 54 [.int .i64 b5_0_1, .int .i64 b5_1_1, .slice Ab5_2_1 b5_2_1.length cb5_2_1], .blk b7 28 [.slice A_row11_1 l_row11_1.length c_row11_1], .blk b9 54 [.int .i64 a0.W, .int .i64 a0.H, .slice A1 a0.Low.length cp2], .row (.slice A_row11_1 l_row11_1.length c_row11_1) 54 k_Level.sz l_row11_1.length cs_row11_1, .blk b28 54 [.int .i64 x25, .int .i64 x27, .slice A_row56_2 l_row56_2.length c_row56_2], .hole] [RE.rd kInt A1 cp2 a0.Low, RE.chunks k_Level cs_row11_1 l_row11_1, RE.rd kInt Ab5_2_1 cb5_2_1 b5_2_1, RE.hole]) [26] [0, 3, 4, 7, 8, 9, 12, 13, 14, 17, 18, 19, 20, 22, 25] mixed0 (by kernel_rfl) (by kernel_rfl) (by kernel_rfl) (by rfl) (by exact (Sep.holeR (Sep.holeL H.drew 5) 3)) ?_
              obtain ⟨w39, hW⟩ : ∃ W : World, W = { w34 with drawn := w34.drawn + 1 } := ⟨_, rfl⟩
              rw [← hW]
              have H : Sep ok w w39 [.blk b5 54 [.int .i64 b5_0_1, .int .i64 b5_1_1, .slice Ab5_2_1 b5_2_1.length cb5_2_1], .blk b7 28 [.slice A_row11_1 l_row11_1.length c_row11_1], .blk b9 54 [.int .i64 a0.W, .int .i64 a0.H, .slice A1 a0.Low.length cp2], .row (.slice A_row11_1 l_row11_1.length c_row11_1) 54 k_Level.sz l_row11_1.length cs_row11_1, .blk b28 54 [.int .i64 x25, .int .i64 x27, .slice A_row56_2 l_row56_2.length c_row56_2], .row (.slice A_row56_2 l_row56_2.length c_row56_2) 3 kInt.sz l_row56_2.length cs_row56_2] [RE.rd kInt A1 cp2 a0.Low, RE.chunks k_Level cs_row11_1 l_row11_1, RE.rd kInt Ab5_2_1 cb5_2_1 b5_2_1, RE.chunks kInt cs_row56_2 l_row56_2] := by rw [hW]; exact H.drew
              clear hW
              refine PR_free (by rfl) (by rfl) (by rfl) (by exact wn0 rfl) (fun wS => (x_fieldAddr fo54_2 (by rfl))) ?_
              refine PR_take (by rfl) (by rfl) (by rfl) (by exact wn0 rfl) (fun wS (H : Sep ok w wS [.blk b5 54 [.int .i64 b5_0_1, .int .i64 b5_1_1, .slice Ab5_2_1 b5_2_1.length cb5_2_1], .blk b7 28 [.slice A_row11_1 l_row11_1.length c_row11_1], .blk b9 54 [.int .i64 a0.W, .int .i64 a0.H, .slice A1 a0.Low.length cp2], .row (.slice A_row11_1 l_row11_1.length c_row11_1) 54 k_Level.sz l_row11_1.length cs_row11_1, .blk b28 54 [.int .i64 x25, .int .i64 x27, .slice A_row56_2 l_row56_2.length c_row56_2], .hole] [RE.rd kInt A1 cp2 a0.Low, RE.chunks k_Level cs_row11_1 l_row11_1, RE.rd kInt Ab5_2_1 cb5_2_1 b5_2_1, RE.hole]) => (x_load (j := 2) (v := .slice A_row56_2 l_row56_2.length c_row56_2) sc23 (by rfl) (H.cells (i := 4) (by rfl)) (by rfl))) ?_
              refine PR_take (by rfl) (by rfl) (by rfl) (by exact wn0 rfl) (fun wS (H : Sep ok w wS [.blk b5 54 [.int .i64 b5_0_1, .int .i64 b5_1_1, .slice Ab5_2_1 b5_2_1.length cb5_2_1], .blk b7 28 [.slice A_row11_1 l_row11_1.length c_row11_1], .blk b9 54 [.int .i64 a0.W, .int .i64 a0.H, .slice A1 a0.Low.length cp2], .row (.slice A_row11_1 l_row11_1.length c_row11_1) 54 k_Level.sz l_row11_1.length cs_row11_1, .blk b28 54 [.int .i64 x25, .int .i64 x27, .slice A_row56_2 l_row56_2.length c_row56_2], .hole] [RE.rd kInt A1 cp2 a0.Low, RE.chunks k_Level cs_row11_1 l_row11_1, RE.rd kInt Ab5_2_1 cb5_2_1 b5_2_1, RE.hole]) => (x_loadA (j := 0) (vs := [.int .i64 b5_0_1, .int .i64 b5_1_1, .slice Ab5_2_1 b5_2_1.length cb5_2_1]) ag54 (by rfl) (H.cells (i := 0) (by rfl)) (by rfl) (by rfl))) ?_
              refine PR_free (by rfl) (by rfl) (by rfl) (by exact wn0 rfl) (fun wS => (x_move (v := .int .i64 x36) (by rfl))) ?_
              refine PR_free (by rfl) (by rfl) (by rfl) (by exact wn0 rfl) (fun wS => (x_move (v := .int .i64 x38) (by rfl))) ?_
              refine PR_take (by rfl) (by rfl) (by rfl) (by exact wn0 rfl) (fun wS (H : Sep ok w wS [.blk b5 54 [.int .i64 b5_0_1, .int .i64 b5_1_1, .slice Ab5_2_1 b5_2_1.length cb5_2_1], .blk b7 28 [.slice A_row11_1 l_row11_1.length c_row11_1], .blk b9 54 [.int .i64 a0.W, .int .i64 a0.H, .slice A1 a0.Low.length cp2], .row (.slice A_row11_1 l_row11_1.length c_row11_1) 54 k_Level.sz l_row11_1.length cs_row11_1, .blk b28 54 [.int .i64 x25, .int .i64 x27, .slice A_row56_2 l_row56_2.length c_row56_2], .hole] [RE.rd kInt A1 cp2 a0.Low, RE.chunks k_Level cs_row11_1 l_row11_1, RE.rd kInt Ab5_2_1 cb5_2_1 b5_2_1, RE.hole]) => (x_loadA (j := 0) (vs := [.int .i64 b5_0_1, .int .i64 b5_1_1, .slice Ab5_2_1 b5_2_1.length cb5_2_1]) ag54 (by rfl) (H.cells (i := 0) (by rfl)) (by rfl) (by rfl))) ?_
              refine PR_free (by rfl) (by rfl) (by rfl) (by exact wn0 rfl) (fun wS => (x_move (v := .int .i64 x36) (by rfl))) ?_
              obtain ⟨x40, ex40, qx40, ux40, hm⟩ := ck_some hm
              refine PR_free (by rfl) (by rfl) (by rfl) (by exact wn0 rfl) (fun wS => (x_add (by rfl) (by rfl) ux40)) ?_
              refine PR_free (by rfl) (by rfl) (by rfl) (by exact wn0 rfl) (fun wS => (x_move (v := .int .i64 x38) (by rfl))) ?_
              refine PR_take (by rfl) (by rfl) (by rfl) (by exact wn0 rfl) (fun wS (H : Sep ok w wS [.blk b5 54 [.int .i64 b5_0_1, .int .i64 b5_1_1, .slice Ab5_2_1 b5_2_1.length cb5_2_1], .blk b7 28 [.slice A_row11_1 l_row11_1.length c_row11_1], .blk b9 54 [.int .i64 a0.W, .int .i64 a0.H, .slice A1 a0.Low.length cp2], .row (.slice A_row11_1 l_row11_1.length c_row11_1) 54 k_Level.sz l_row11_1.length cs_row11_1, .blk b28 54 [.int .i64 x25, .int .i64 x27, .slice A_row56_2 l_row56_2.length c_row56_2], .hole] [RE.rd kInt A1 cp2 a0.Low, RE.chunks k_Level cs_row11_1 l_row11_1, RE.rd kInt Ab5_2_1 cb5_2_1 b5_2_1, RE.hole]) => (x_loadA (j := 0) (vs := [.int .i64 b5_0_1, .int .i64 b5_1_1, .slice Ab5_2_1 b5_2_1.length cb5_2_1]) ag54 (by rfl) (H.cells (i := 0) (by rfl)) (by rfl) (by rfl))) ?_
              refine PR_free (by rfl) (by rfl) (by rfl) (by exact wn0 rfl) (fun wS => (x_move (v := .int .i64 x36) (by rfl))) ?_
              refine PR_free (by rfl) (by rfl) (by rfl) (by exact wn0 rfl) (fun wS => (x_move (v := .int .i64 x38) (by rfl))) ?_
              obtain ⟨x41, ex41, qx41, ux41, hm⟩ := ck_some hm
              refine PR_free (by rfl) (by rfl) (by rfl) (by exact wn0 rfl) (fun wS => (x_add (by rfl) (by rfl) ux41)) ?_
              refine PR_take (by rfl) (by rfl) (by rfl) (by exact wn0 rfl) (fun wS (H : Sep ok w wS [.blk b5 54 [.int .i64 b5_0_1, .int .i64 b5_1_1, .slice Ab5_2_1 b5_2_1.length cb5_2_1], .blk b7 28 [.slice A_row11_1 l_row11_1.length c_row11_1], .blk b9 54 [.int .i64 a0.W, .int .i64 a0.H, .slice A1 a0.Low.length cp2], .row (.slice A_row11_1 l_row11_1.length c_row11_1) 54 k_Level.sz l_row11_1.length cs_row11_1, .blk b28 54 [.int .i64 x25, .int .i64 x27, .slice A_row56_2 l_row56_2.length c_row56_2], .hole] [RE.rd kInt A1 cp2 a0.Low, RE.chunks k_Level cs_row11_1 l_row11_1, RE.rd kInt Ab5_2_1 cb5_2_1 b5_2_1, RE.hole]) => (x_loadA (j := 0) (vs := [.int .i64 b5_0_1, .int .i64 b5_1_1, .slice Ab5_2_1 b5_2_1.length cb5_2_1]) ag54 (by rfl) (H.cells (i := 0) (by rfl)) (by rfl) (by rfl))) ?_
              refine PR_free (by rfl) (by rfl) (by rfl) (by exact wn0 rfl) (fun wS => (x_move (v := .int .i64 x36) (by rfl))) ?_
              obtain ⟨x42, ex42, qx42, ux42, hm⟩ := ck_some hm
              refine PR_free (by rfl) (by rfl) (by rfl) (by exact wn0 rfl) (fun wS => (x_add (by rfl) (by rfl) ux42)) ?_
              refine PR_free (by rfl) (by rfl) (by rfl) (by exact wn0 rfl) (fun wS => (x_move (v := .int .i64 x38) (by rfl))) ?_
              obtain ⟨x43, ex43, qx43, ux43, hm⟩ := ck_some hm
              refine PR_free (by rfl) (by rfl) (by rfl) (by exact wn0 rfl) (fun wS => (x_add (by rfl) (by rfl) ux43)) ?_
              obtain ⟨v45, hv44, hm⟩ := bind_some hm
              refine PR_run (by rfl) (O_call (by exact wn0 rfl) (by rfl) (by rfl) (x_callL (by rfl) (args := [.agg #[.int .i64 b5_0_1, .int .i64 b5_1_1, .slice Ab5_2_1 b5_2_1.length cb5_2_1], .int .i64 x36, .int .i64 x38]) (by rfl) (cf109 _ _)) (c109 (fun _ => True) K w39 (⟨b5_0_1, b5_1_1, b5_2_1⟩ : S_Level) Ab5_2_1 cb5_2_1 x36 x38 (H.rd (i := 2) (by rfl)).any v45 hv44) ?_)
              rintro e w46 ⟨rfl, H2⟩
              have H : Sep ok w w46 [.blk b5 54 [.int .i64 b5_0_1, .int .i64 b5_1_1, .slice Ab5_2_1 b5_2_1.length cb5_2_1], .blk b7 28 [.slice A_row11_1 l_row11_1.length c_row11_1], .blk b9 54 [.int .i64 a0.W, .int .i64 a0.H, .slice A1 a0.Low.length cp2], .row (.slice A_row11_1 l_row11_1.length c_row11_1) 54 k_Level.sz l_row11_1.length cs_row11_1, .blk b28 54 [.int .i64 x25, .int .i64 x27, .slice A_row56_2 l_row56_2.length c_row56_2], .row (.slice A_row56_2 l_row56_2.length c_row56_2) 3 kInt.sz l_row56_2.length cs_row56_2] [RE.rd kInt A1 cp2 a0.Low, RE.chunks k_Level cs_row11_1 l_row11_1, RE.rd kInt Ab5_2_1 cb5_2_1 b5_2_1, RE.chunks kInt cs_row56_2 l_row56_2] := H.below H2.base
              clear H2
              refine ⟨_, rfl, (Sep.holeR (Sep.holeL H 5) 3), ?_⟩
              show PR _ _ _ _ _ _ _ _
              obtain ⟨v48, hv47, hm⟩ := bind_some hm
              refine PR_run (by rfl) (O_call (by exact wn0 rfl) (by rfl) (by rfl) (x_callL (by rfl) (args := [.agg #[.int .i64 b5_0_1, .int .i64 b5_1_1, .slice Ab5_2_1 b5_2_1.length cb5_2_1], .int .i64 x40, .int .i64 x38]) (by rfl) (cf109 _ _)) (c109 (fun _ => True) K w46 (⟨b5_0_1, b5_1_1, b5_2_1⟩ : S_Level) Ab5_2_1 cb5_2_1 x40 x38 (H.rd (i := 2) (by rfl)).any v48 hv47) ?_)
              rintro e w49 ⟨rfl, H2⟩
              have H : Sep ok w w49 [.blk b5 54 [.int .i64 b5_0_1, .int .i64 b5_1_1, .slice Ab5_2_1 b5_2_1.length cb5_2_1], .blk b7 28 [.slice A_row11_1 l_row11_1.length c_row11_1], .blk b9 54 [.int .i64 a0.W, .int .i64 a0.H, .slice A1 a0.Low.length cp2], .row (.slice A_row11_1 l_row11_1.length c_row11_1) 54 k_Level.sz l_row11_1.length cs_row11_1, .blk b28 54 [.int .i64 x25, .int .i64 x27, .slice A_row56_2 l_row56_2.length c_row56_2], .row (.slice A_row56_2 l_row56_2.length c_row56_2) 3 kInt.sz l_row56_2.length cs_row56_2] [RE.rd kInt A1 cp2 a0.Low, RE.chunks k_Level cs_row11_1 l_row11_1, RE.rd kInt Ab5_2_1 cb5_2_1 b5_2_1, RE.chunks kInt cs_row56_2 l_row56_2] := H.below H2.base
              clear H2
              refine ⟨_, rfl, (Sep.holeR (Sep.holeL H 5) 3), ?_⟩
              show PR _ _ _ _ _ _ _ _
              obtain ⟨v51, hv50, hm⟩ := bind_some hm
              refine PR_run (by rfl) (O_call (by exact wn0 rfl) (by rfl) (by rfl) (x_callL (by rfl) (args := [.agg #[.int .i64 b5_0_1, .int .i64 b5_1_1, .slice Ab5_2_1 b5_2_1.length cb5_2_1], .int .i64 x36, .int .i64 x41]) (by rfl) (cf109 _ _)) (c109 (fun _ => True) K w49 (⟨b5_0_1, b5_1_1, b5_2_1⟩ : S_Level) Ab5_2_1 cb5_2_1 x36 x41 (H.rd (i := 2) (by rfl)).any v51 hv50) ?_)
              rintro e w52 ⟨rfl, H2⟩
              have H : Sep ok w w52 [.blk b5 54 [.int .i64 b5_0_1, .int .i64 b5_1_1, .slice Ab5_2_1 b5_2_1.length cb5_2_1], .blk b7 28 [.slice A_row11_1 l_row11_1.length c_row11_1], .blk b9 54 [.int .i64 a0.W, .int .i64 a0.H, .slice A1 a0.Low.length cp2], .row (.slice A_row11_1 l_row11_1.length c_row11_1) 54 k_Level.sz l_row11_1.length cs_row11_1, .blk b28 54 [.int .i64 x25, .int .i64 x27, .slice A_row56_2 l_row56_2.length c_row56_2], .row (.slice A_row56_2 l_row56_2.length c_row56_2) 3 kInt.sz l_row56_2.length cs_row56_2] [RE.rd kInt A1 cp2 a0.Low, RE.chunks k_Level cs_row11_1 l_row11_1, RE.rd kInt Ab5_2_1 cb5_2_1 b5_2_1, RE.chunks kInt cs_row56_2 l_row56_2] := H.below H2.base
              clear H2
              refine ⟨_, rfl, (Sep.holeR (Sep.holeL H 5) 3), ?_⟩
              show PR _ _ _ _ _ _ _ _
              obtain ⟨v54, hv53, hm⟩ := bind_some hm
              refine PR_run (by rfl) (O_call (by exact wn0 rfl) (by rfl) (by rfl) (x_callL (by rfl) (args := [.agg #[.int .i64 b5_0_1, .int .i64 b5_1_1, .slice Ab5_2_1 b5_2_1.length cb5_2_1], .int .i64 x42, .int .i64 x43]) (by rfl) (cf109 _ _)) (c109 (fun _ => True) K w52 (⟨b5_0_1, b5_1_1, b5_2_1⟩ : S_Level) Ab5_2_1 cb5_2_1 x42 x43 (H.rd (i := 2) (by rfl)).any v54 hv53) ?_)
              rintro e w55 ⟨rfl, H2⟩
              have H : Sep ok w w55 [.blk b5 54 [.int .i64 b5_0_1, .int .i64 b5_1_1, .slice Ab5_2_1 b5_2_1.length cb5_2_1], .blk b7 28 [.slice A_row11_1 l_row11_1.length c_row11_1], .blk b9 54 [.int .i64 a0.W, .int .i64 a0.H, .slice A1 a0.Low.length cp2], .row (.slice A_row11_1 l_row11_1.length c_row11_1) 54 k_Level.sz l_row11_1.length cs_row11_1, .blk b28 54 [.int .i64 x25, .int .i64 x27, .slice A_row56_2 l_row56_2.length c_row56_2], .row (.slice A_row56_2 l_row56_2.length c_row56_2) 3 kInt.sz l_row56_2.length cs_row56_2] [RE.rd kInt A1 cp2 a0.Low, RE.chunks k_Level cs_row11_1 l_row11_1, RE.rd kInt Ab5_2_1 cb5_2_1 b5_2_1, RE.chunks kInt cs_row56_2 l_row56_2] := H.below H2.base
              clear H2
              refine ⟨_, rfl, (Sep.holeR (Sep.holeL H 5) 3), ?_⟩
              show PR _ _ _ _ _ _ _ _
              refine PR_free (by rfl) (by rfl) (by rfl) (by exact wn0 rfl) (fun wS => (x_min4 (by rfl) (by rfl) (by rfl) (by rfl))) ?_
              refine PR_run (by rfl) (O_buildSlice (vs := [(0, .int .i64 (mn (mn (mn v45 v48) v51) v54))]) (cs := [.int .i64 (mn (mn (mn v45 v48) v51) v54)]) (by exact wn0 rfl) (by rfl) sl23 sz3 ze3 (by rfl) (by rfl) (by rfl) (by kernel_rfl) H (fun w57 b56 (H : Sep ok w w57 [.blk b5 54 [.int .i64 b5_0_1, .int .i64 b5_1_1, .slice Ab5_2_1 b5_2_1.length cb5_2_1], .blk b7 28 [.slice A_row11_1 l_row11_1.length c_row11_1], .blk b9 54 [.int .i64 a0.W, .int .i64 a0.H, .slice A1 a0.Low.length cp2], .row (.slice A_row11_1 l_row11_1.length c_row11_1) 54 k_Level.sz l_row11_1.length cs_row11_1, .blk b28 54 [.int .i64 x25, .int .i64 x27, .slice A_row56_2 l_row56_2.length c_row56_2], .row (.slice A_row56_2 l_row56_2.length c_row56_2) 3 kInt.sz l_row56_2.length cs_row56_2, .blk b56 3 [.int .i64 (mn (mn (mn v45 v48) v51) v54)]] [RE.rd kInt A1 cp2 a0.Low, RE.chunks k_Level cs_row11_1 l_row11_1, RE.rd kInt Ab5_2_1 cb5_2_1 b5_2_1, RE.chunks kInt cs_row56_2 l_row56_2]) => ⟨(Sep.holeR (Sep.holeL (Sep.takeL H 6) 5) 3), ?_⟩))
              obtain ⟨l62, hl63, hb64, hm⟩ := apd_some hm
              refine PR_run (by rfl) (O_append (D := kInt) (i := 5) (j := 3) (o := 0) (y := (mn (mn (mn v45 v48) v51) v54)) (by exact wn0 rfl) (by rfl) (by rfl) (by rfl) H (by rfl) (by rfl) (H.cells (i := 6) (by rfl)) rfl hl63 sl23 sz3 by3 ze3 (by rfl) (by rfl) hb64 (by rfl) (fun w58 A59 cp60 cs61 (H : Sep ok w w58 [.blk b5 54 [.int .i64 b5_0_1, .int .i64 b5_1_1, .slice Ab5_2_1 b5_2_1.length cb5_2_1], .blk b7 28 [.slice A_row11_1 l_row11_1.length c_row11_1], .blk b9 54 [.int .i64 a0.W, .int .i64 a0.H, .slice A1 a0.Low.length cp2], .row (.slice A_row11_1 l_row11_1.length c_row11_1) 54 k_Level.sz l_row11_1.length cs_row11_1, .blk b28 54 [.int .i64 x25, .int .i64 x27, .slice A_row56_2 l_row56_2.length c_row56_2], .row (.slice A59 l62.length cp60) 3 kInt.sz l62.length cs61, .blk b56 3 [.int .i64 (mn (mn (mn v45 v48) v51) v54)]] [RE.rd kInt A1 cp2 a0.Low, RE.chunks k_Level cs_row11_1 l_row11_1, RE.rd kInt Ab5_2_1 cb5_2_1 b5_2_1, RE.chunks kInt cs61 l62]) => ⟨(Sep.holeR (Sep.holeL (Sep.takeL H 6) 5) 3), ?_⟩))
              refine PR_free (by rfl) (by rfl) (by rfl) (by exact wn0 rfl) (fun wS => (x_fieldAddr fo54_2 (by rfl))) ?_
              refine PR_tail (by rfl) (O_store (i := 4) (off := 2) (by exact wn0 rfl) (by rfl) (by rfl) H (by rfl) (vs := [.slice A59 l62.length cp60]) (by rfl) sz23 (by rfl) (by rfl) (by rfl) (fun w65 (H : Sep ok w w65 [.blk b5 54 [.int .i64 b5_0_1, .int .i64 b5_1_1, .slice Ab5_2_1 b5_2_1.length cb5_2_1], .blk b7 28 [.slice A_row11_1 l_row11_1.length c_row11_1], .blk b9 54 [.int .i64 a0.W, .int .i64 a0.H, .slice A1 a0.Low.length cp2], .row (.slice A_row11_1 l_row11_1.length c_row11_1) 54 k_Level.sz l_row11_1.length cs_row11_1, .blk b28 54 [.int .i64 x25, .int .i64 x27, .slice A59 l62.length cp60], .row (.slice A59 l62.length cp60) 3 kInt.sz l62.length cs61, .blk b56 3 [.int .i64 (mn (mn (mn v45 v48) v51) v54)]] [RE.rd kInt A1 cp2 a0.Low, RE.chunks k_Level cs_row11_1 l_row11_1, RE.rd kInt Ab5_2_1 cb5_2_1 b5_2_1, RE.chunks kInt cs61 l62]) => ?_))
              refine PR_nil ?_
              refine W_region ?_
              obtain ⟨x66, ex66, qx66, ux66, hm⟩ := ck_some hm
              refine RL_pure (by exact wn0 rfl) (by rfl) (by rfl) (x_add (by rfl) (by rfl) ux66) ?_
              refine RL_pure (by exact wn0 rfl) (by rfl) (by rfl) (x_move (v := .int .i64 x66) (by rfl)) ?_
              refine RL_nil ?_
              subst hrec2
              exact ⟨k2, Nat.lt_succ_self k2, l62, x66, A_row11_1, c_row11_1, cs_row11_1, A59, cp60, cs61, Ab5_2_1, cb5_2_1, hm, ⟨rfl, rfl, rfl, rfl, rfl, trivial⟩, (H).takeL 6⟩
            · have hm := cond_f hb hm
              refine W_exit ?_
              refine W_seq ?_
              refine W_region ?_
              refine RL_pure (by exact wn0 rfl) (by rfl) (by rfl) (x_loadA (j := 0) (vs := [.int .i64 x25, .int .i64 x27, .slice A_row56_2 l_row56_2.length c_row56_2]) ag54 (by rfl) (H.cells (i := 4) (by rfl)) (by rfl) (by rfl)) ?_
              refine RL_cons (O_store (i := 0) (off := 0) (by exact wn0 rfl) (by rfl) (by rfl) H (by rfl) (vs := [.int .i64 x25, .int .i64 x27, .slice A_row56_2 l_row56_2.length c_row56_2]) (by rfl) sz54 (by rfl) (by rfl) (by rfl) (fun w67 (H : Sep ok w w67 [.blk b5 54 [.int .i64 x25, .int .i64 x27, .slice A_row56_2 l_row56_2.length c_row56_2], .blk b7 28 [.slice A_row11_1 l_row11_1.length c_row11_1], .blk b9 54 [.int .i64 a0.W, .int .i64 a0.H, .slice A1 a0.Low.length cp2], .row (.slice A_row11_1 l_row11_1.length c_row11_1) 54 k_Level.sz l_row11_1.length cs_row11_1, .blk b28 54 [.int .i64 x25, .int .i64 x27, .slice A_row56_2 l_row56_2.length c_row56_2], .row (.slice A_row56_2 l_row56_2.length c_row56_2) 3 kInt.sz l_row56_2.length cs_row56_2] [RE.rd kInt A1 cp2 a0.Low, RE.chunks k_Level cs_row11_1 l_row11_1, RE.rd kInt Ab5_2_1 cb5_2_1 b5_2_1, RE.chunks kInt cs_row56_2 l_row56_2]) => ?_))
              refine RL_nil ?_
              refine W_region ?_
              refine RL_pure (by exact wn0 rfl) (by rfl) (by rfl) (x_fieldAddr fo28_0 (by rfl)) ?_
              refine RL_pure (by exact wn0 rfl) (by rfl) (by rfl) (x_load (j := 0) (v := .slice A_row11_1 l_row11_1.length c_row11_1) sc26 (by rfl) (H.cells (i := 1) (by rfl)) (by rfl)) ?_
              refine RL_pure (by exact wn0 rfl) (by rfl) (by rfl) (x_loadA (j := 0) (vs := [.int .i64 x25, .int .i64 x27, .slice A_row56_2 l_row56_2.length c_row56_2]) ag54 (by rfl) (H.cells (i := 0) (by rfl)) (by rfl) (by rfl)) ?_
              refine RL_cons (O_buildSlice (vs := [(0, .agg #[.int .i64 x25, .int .i64 x27, .slice A_row56_2 l_row56_2.length c_row56_2])]) (cs := [.int .i64 x25, .int .i64 x27, .slice A_row56_2 l_row56_2.length c_row56_2]) (by exact wn0 rfl) (by rfl) sl26 sz54 ze54 (by rfl) (by rfl) (by rfl) (by kernel_rfl) H (fun w69 b68 (H : Sep ok w w69 [.blk b5 54 [.int .i64 x25, .int .i64 x27, .slice A_row56_2 l_row56_2.length c_row56_2], .blk b7 28 [.slice A_row11_1 l_row11_1.length c_row11_1], .blk b9 54 [.int .i64 a0.W, .int .i64 a0.H, .slice A1 a0.Low.length cp2], .row (.slice A_row11_1 l_row11_1.length c_row11_1) 54 k_Level.sz l_row11_1.length cs_row11_1, .blk b28 54 [.int .i64 x25, .int .i64 x27, .slice A_row56_2 l_row56_2.length c_row56_2], .row (.slice A_row56_2 l_row56_2.length c_row56_2) 3 kInt.sz l_row56_2.length cs_row56_2, .blk b68 54 [.int .i64 x25, .int .i64 x27, .slice A_row56_2 l_row56_2.length c_row56_2]] [RE.rd kInt A1 cp2 a0.Low, RE.chunks k_Level cs_row11_1 l_row11_1, RE.rd kInt Ab5_2_1 cb5_2_1 b5_2_1, RE.chunks kInt cs_row56_2 l_row56_2]) => ?_))
              obtain ⟨l74, hl75, hb76, hm⟩ := apd_some hm
              have H : Sep ok w w69 [.blk b5 54 [.int .i64 x25, .int .i64 x27, .slice A_row56_2 l_row56_2.length c_row56_2], .blk b7 28 [.slice A_row11_1 l_row11_1.length c_row11_1], .blk b9 54 [.int .i64 a0.W, .int .i64 a0.H, .slice A1 a0.Low.length cp2], .row (.slice A_row11_1 l_row11_1.length c_row11_1) 54 k_Level.sz l_row11_1.length cs_row11_1, .blk b28 54 [.int .i64 x25, .int .i64 x27, .slice A_row56_2 l_row56_2.length c_row56_2], .hole, .blk b68 54 [.int .i64 x25, .int .i64 x27, .slice A_row56_2 l_row56_2.length c_row56_2]] [RE.rd kInt A1 cp2 a0.Low, RE.chunks k_Level cs_row11_1 l_row11_1, RE.rd kInt Ab5_2_1 cb5_2_1 b5_2_1, RE.rd kInt A_row56_2 c_row56_2 l_row56_2] := H.frozen (i := 5) (j := 3) (by rfl) (by rfl)
              refine RL_cons (O_append (D := k_Level) (i := 3) (j := 1) (o := 0) (y := (⟨x25, x27, l_row56_2⟩ : S_Level)) (by exact wn0 rfl) (by rfl) (by rfl) (by rfl) H (by rfl) (by rfl) (H.cells (i := 6) (by rfl)) (by exact ⟨A_row56_2, c_row56_2, rfl, H.rd (i := 3) (by rfl)⟩) hl75 sl26 sz54 by54 ze54 (by rfl) (by rfl) hb76 (by rfl) (fun w70 A71 cp72 cs73 (H : Sep ok w w70 [.blk b5 54 [.int .i64 x25, .int .i64 x27, .slice A_row56_2 l_row56_2.length c_row56_2], .blk b7 28 [.slice A_row11_1 l_row11_1.length c_row11_1], .blk b9 54 [.int .i64 a0.W, .int .i64 a0.H, .slice A1 a0.Low.length cp2], .row (.slice A71 l74.length cp72) 54 k_Level.sz l74.length cs73, .blk b28 54 [.int .i64 x25, .int .i64 x27, .slice A_row56_2 l_row56_2.length c_row56_2], .hole, .blk b68 54 [.int .i64 x25, .int .i64 x27, .slice A_row56_2 l_row56_2.length c_row56_2]] [RE.rd kInt A1 cp2 a0.Low, RE.chunks k_Level cs73 l74, RE.rd kInt Ab5_2_1 cb5_2_1 b5_2_1, RE.rd kInt A_row56_2 c_row56_2 l_row56_2]) => ?_))
              refine RL_pure (by exact wn0 rfl) (by rfl) (by rfl) (x_fieldAddr fo28_0 (by rfl)) ?_
              refine RL_cons (O_store (i := 1) (off := 0) (by exact wn0 rfl) (by rfl) (by rfl) H (by rfl) (vs := [.slice A71 l74.length cp72]) (by rfl) sz26 (by rfl) (by rfl) (by rfl) (fun w77 (H : Sep ok w w77 [.blk b5 54 [.int .i64 x25, .int .i64 x27, .slice A_row56_2 l_row56_2.length c_row56_2], .blk b7 28 [.slice A71 l74.length cp72], .blk b9 54 [.int .i64 a0.W, .int .i64 a0.H, .slice A1 a0.Low.length cp2], .row (.slice A71 l74.length cp72) 54 k_Level.sz l74.length cs73, .blk b28 54 [.int .i64 x25, .int .i64 x27, .slice A_row56_2 l_row56_2.length c_row56_2], .hole, .blk b68 54 [.int .i64 x25, .int .i64 x27, .slice A_row56_2 l_row56_2.length c_row56_2]] [RE.rd kInt A1 cp2 a0.Low, RE.chunks k_Level cs73 l74, RE.rd kInt Ab5_2_1 cb5_2_1 b5_2_1, RE.rd kInt A_row56_2 c_row56_2 l_row56_2]) => ?_))
              refine RL_nil ?_
              subst hrec1
              exact ⟨k1, Nat.lt_succ_self k1, l74, x25, x27, l_row56_2, A71, cp72, cs73, A_row56_2, c_row56_2, hm, ⟨rfl, rfl, trivial⟩, ((H).takeL 4).pick [0, 1, 3]⟩
      · have hm := cond_f hb hm
        refine W_exit ?_
        refine W_seq ?_
        refine W_region ?_
        refine RL_pure (by exact wn0 rfl) (by rfl) (by rfl) (x_loadA (j := 0) (vs := [.slice A_row11_1 l_row11_1.length c_row11_1]) ag28 (by rfl) (H.cells (i := 1) (by rfl)) (by rfl) (by rfl)) ?_
        refine RL_cons (O_store (i := 1) (off := 0) (by exact wn0 rfl) (by rfl) (by rfl) H (by rfl) (vs := [.slice A_row11_1 l_row11_1.length c_row11_1]) (by rfl) sz28 (by rfl) (by rfl) (by rfl) (fun w78 (H : Sep ok w w78 [.blk b5 54 [.int .i64 b5_0_1, .int .i64 b5_1_1, .slice Ab5_2_1 b5_2_1.length cb5_2_1], .blk b7 28 [.slice A_row11_1 l_row11_1.length c_row11_1], .blk b9 54 [.int .i64 a0.W, .int .i64 a0.H, .slice A1 a0.Low.length cp2], .row (.slice A_row11_1 l_row11_1.length c_row11_1) 54 k_Level.sz l_row11_1.length cs_row11_1] [RE.rd kInt A1 cp2 a0.Low, RE.chunks k_Level cs_row11_1 l_row11_1, RE.rd kInt Ab5_2_1 cb5_2_1 b5_2_1]) => ?_))
        refine RL_nil ?_
        refine W_ret ?_
        have H : Sep ok w w78 [.blk b5 54 [.int .i64 b5_0_1, .int .i64 b5_1_1, .slice Ab5_2_1 b5_2_1.length cb5_2_1], .blk b7 28 [.slice A_row11_1 l_row11_1.length c_row11_1], .blk b9 54 [.int .i64 a0.W, .int .i64 a0.H, .slice A1 a0.Low.length cp2], .hole] [RE.rd kInt A1 cp2 a0.Low, RE.rd k_Level A_row11_1 c_row11_1 l_row11_1, RE.rd kInt Ab5_2_1 cb5_2_1 b5_2_1] := H.frozen (i := 3) (j := 1) (by rfl) (by rfl)
        obtain rfl := Option.some.inj hm
        exact ⟨[.agg #[.slice A_row11_1 l_row11_1.length c_row11_1]], (.cellA (by rfl) ag28 (H.cells (i := 1) (by rfl)) (by rfl) rfl), A_row11_1, c_row11_1, rfl, (H.forgetAll).pick [1]⟩
end Go.Proofs.YtobkigllalbkiaaV.M
