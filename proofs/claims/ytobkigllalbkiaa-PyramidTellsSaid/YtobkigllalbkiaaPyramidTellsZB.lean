/- Part 2 of the texts that the proof of PyramidTells stands on. -/
import Derived.Test.YtobkigllalbkiaaPyramidTellsZA
/- A plain Lean function that answers as the Go function does (none: not told), and the proof that a call answers so. Written by program. -/
set_option linter.unusedVariables false
namespace Go.Proofs.YtobkigllalbkiaaV.M
open Go.RowKit Go.Proofs.YtobkigllalbkiaaV
/-- diorama/pyramid.at -/
def m109 (K : Nat) (a0 : S_Level) (a1 : Int) (a2 : Int) : Option (Int) :=
 ((bif (decide (a0.W ≤ a1)) then some true else some (decide (a0.H ≤ a2))).bind fun b7 => (bif b7 then some 66560 else (ck (a2 * a0.W) fun x10 => (ck (x10 + a1) fun x11 => (idx a0.Low x11 fun el12 => some el12)))))
set_option maxRecDepth 100000 in
set_option maxHeartbeats 4000000 in
theorem c109 (ok : Okp) (K : Nat) (w : World) (a0 : S_Level) (A1 : Option Addr) (cp2 : Nat) (a1 : Int) (a2 : Int) (hR3 : Rd kInt w ok A1 cp2 a0.Low) (res : Int) (hm : m109 K a0 a1 a2 = some res) :
  Calls Try.prog 109 #[.agg #[.int .i64 a0.W, .int .i64 a0.H, .slice A1 a0.Low.length cp2], .int .i64 a1, .int .i64 a2] w (fun e w' => e = .returned (tup [.int .i64 res]) ∧ Sep ok w w' [] []) := by
 refine calls_W (args := [.agg #[.int .i64 a0.W, .int .i64 a0.H, .slice A1 a0.Low.length cp2], .int .i64 a1, .int .i64 a2]) Try.func109 rfl Try.ntmps109 Try.results109 rfl fun r hr => ?_
 obtain ⟨r1, rfl⟩ := regen (r := r) [(0, .agg #[.int .i64 a0.W, .int .i64 a0.H, .slice A1 a0.Low.length cp2]), (1, .int .i64 a1), (2, .int .i64 a2)] ⟨hr 0 _ rfl, hr 1 _ rfl, hr 2 _ rfl, trivial⟩
 have H : Sep ok w w [] [RE.rd kInt A1 cp2 a0.Low] := Sep.arg (Sep.start ok w) (re := RE.rd kInt A1 cp2 a0.Low) rfl rfl hR3
 unfold m109 at hm
 refine W_seq ?_
 refine W_region ?_
 refine RL_cons (O_box (by exact wn0 rfl) (by rfl) (by rfl) (by rfl) H (fun w6 b5 (H : Sep ok w w6 [.blk b5 54 [.int .i64 a0.W, .int .i64 a0.H, .slice A1 a0.Low.length cp2]] [RE.rd kInt A1 cp2 a0.Low]) => ?_))
 refine RL_pure (by exact wn0 rfl) (by rfl) (by rfl) (x_assign (v := .int .i64 0) (by rfl)) ?_
 refine RL_nil ?_
 refine W_seq ?_
 refine W_seq ?_
 refine W_region ?_
 refine RL_pure (by exact wn0 rfl) (by rfl) (by rfl) (x_move (v := .int .i64 a1) (by rfl)) ?_
 refine RL_pure (by exact wn0 rfl) (by rfl) (by rfl) (x_fieldAddr fo54_0 (by rfl)) ?_
 refine RL_pure (by exact wn0 rfl) (by rfl) (by rfl) (x_load (j := 0) (v := .int .i64 a0.W) sc3 (by rfl) (H.cells (i := 0) (by rfl)) (by rfl)) ?_
 refine RL_pure (by exact wn0 rfl) (by rfl) (by rfl) (x_geq (by rfl) (by rfl)) ?_
 refine RL_pure (by exact wn0 rfl) (by rfl) (by rfl) (x_move (v := .bool (decide (a0.W ≤ a1))) (by rfl)) ?_
 obtain ⟨b7, hmS, hm⟩ := bind_some hm
 refine RL_cut 5 (fun r' w' => Agr [(16, .bool b7), (1, .int .i64 a1), (2, .int .i64 a2), (3, .pointer (some ⟨b5, 0, none⟩))] r' ∧ Sep ok w w' [.blk b5 54 [.int .i64 a0.W, .int .i64 a0.H, .slice A1 a0.Low.length cp2]] [RE.rd kInt A1 cp2 a0.Low]) ?_ ?_
 ·cases hbS : (decide (a0.W ≤ a1))
  ·have hm := cond_f hbS hmS
   refine RL_pure (by exact wn1 rfl rfl rfl rfl) (by rfl) (by rfl) (x_move (v := .int .i64 a2) (by rfl)) ?_
   refine RL_pure (by exact wn1 rfl rfl rfl rfl) (by rfl) (by rfl) (x_fieldAddr fo54_1 (by rfl)) ?_
   refine RL_pure (by exact wn1 rfl rfl rfl rfl) (by rfl) (by rfl) (x_load (j := 1) (v := .int .i64 a0.H) sc3 (by rfl) (H.cells (i := 0) (by rfl)) (by rfl)) ?_
   refine RL_pure (by exact wn1 rfl rfl rfl rfl) (by rfl) (by rfl) (x_geq (by rfl) (by rfl)) ?_
   refine RL_pure (by exact wn0 rfl) (by rfl) (by rfl) (x_pick_f (v := .bool (decide (a0.H ≤ a2))) (by rfl) (by rfl)) ?_
   refine RL_nil ?_
   exact ⟨⟨congrArg Value.bool (Option.some.inj hm), rfl, rfl, rfl, trivial⟩, H⟩
  ·have hm := cond_t hbS hmS
   refine RL_cons (OpR_off (by exact wn2 rfl rfl rfl rfl) (by rfl) (by rfl) ?_)
   refine RL_cons (OpR_off (by exact wn2 rfl rfl rfl rfl) (by rfl) (by rfl) ?_)
   refine RL_cons (OpR_off (by exact wn2 rfl rfl rfl rfl) (by rfl) (by rfl) ?_)
   refine RL_cons (OpR_off (by exact wn2 rfl rfl rfl rfl) (by rfl) (by rfl) ?_)
   refine RL_pure (by exact wn0 rfl) (by rfl) (by rfl) (x_pick_t (v := .bool true) (by rfl) (by rfl)) ?_
   refine RL_nil ?_
   exact ⟨⟨congrArg Value.bool (Option.some.inj hm), rfl, rfl, rfl, trivial⟩, H⟩
 ·rintro r' w' ⟨hA, H⟩
  obtain ⟨r8, rfl⟩ := regen _ hA; clear hA
  obtain ⟨w9, rfl⟩ : ∃ W : World, W = w' := ⟨_, rfl⟩
  show RL _ _ _ _ _ _ _
  refine RL_nil ?_
  refine W_cond (by rfl) (fun hb => ?_) (fun hb => ?_)
  ·have hm := cond_t hb hm
   refine W_seq ?_
   refine W_region ?_
   refine RL_pure (by exact wn0 rfl) (by rfl) (by rfl) (x_assign (v := .int .i64 66560) (by rfl)) ?_
   refine RL_nil ?_
   refine W_ret ?_
   obtain rfl := Option.some.inj hm
   exact ⟨[.int .i64 66560], (.tmp (by rfl) rfl), rfl, H.none_⟩
  ·have hm := cond_f hb hm
   refine W_skip ?_
   refine W_seq ?_
   refine W_region ?_
   refine RL_pure (by exact wn0 rfl) (by rfl) (by rfl) (x_fieldAddr fo54_2 (by rfl)) ?_
   refine RL_pure (by exact wn0 rfl) (by rfl) (by rfl) (x_load (j := 2) (v := .slice A1 a0.Low.length cp2) sc23 (by rfl) (H.cells (i := 0) (by rfl)) (by rfl)) ?_
   refine RL_pure (by exact wn0 rfl) (by rfl) (by rfl) (x_move (v := .int .i64 a2) (by rfl)) ?_
   refine RL_pure (by exact wn0 rfl) (by rfl) (by rfl) (x_fieldAddr fo54_0 (by rfl)) ?_
   refine RL_pure (by exact wn0 rfl) (by rfl) (by rfl) (x_load (j := 0) (v := .int .i64 a0.W) sc3 (by rfl) (H.cells (i := 0) (by rfl)) (by rfl)) ?_
   obtain ⟨x10, ex10, qx10, ux10, hm⟩ := ck_some hm
   refine RL_pure (by exact wn0 rfl) (by rfl) (by rfl) (x_mul (by rfl) (by rfl) ux10) ?_
   refine RL_pure (by exact wn0 rfl) (by rfl) (by rfl) (x_move (v := .int .i64 a1) (by rfl)) ?_
   obtain ⟨x11, ex11, qx11, ux11, hm⟩ := ck_some hm
   refine RL_pure (by exact wn0 rfl) (by rfl) (by rfl) (x_add (by rfl) (by rfl) ux11) ?_
   obtain ⟨el12, h13, h14, he15, hm⟩ := idx_some hm
   obtain ⟨g17, o18, hA16⟩ := (H.rd (i := 0) (by rfl)).addr he15
   refine RL_pure (by exact wn0 rfl) (by rfl) (by rfl) (x_indexAddr sl23 sz3 (by rfl) (by rfl) hA16 h13 h14) ?_
   refine RL_pure (by exact wn0 rfl) (by rfl) (by rfl) (x_load (j := 0) (v := .int .i64 el12) sc3 (by rfl) (Rd.flatAt (n := 1) (H.rd (i := 0) (by rfl)) hA16 he15) (by rfl)) ?_
   refine RL_pure (by exact wn0 rfl) (by rfl) (by rfl) (x_assign (v := .int .i64 el12) (by rfl)) ?_
   refine RL_nil ?_
   refine W_ret ?_
   obtain rfl := Option.some.inj hm
   exact ⟨[.int .i64 el12], (.tmp (by rfl) rfl), rfl, H.none_⟩
end Go.Proofs.YtobkigllalbkiaaV.M

/- A plain Lean function that answers as the Go function does (none: not told), and the proof that a call answers so. Written by program. -/
set_option linter.unusedVariables false
namespace Go.Proofs.YtobkigllalbkiaaV.M
open Go.RowKit Go.Proofs.YtobkigllalbkiaaV
def m58_l2b (K : Nat) (l_row11_1 : (List S_Level)) (b5_0_1 : Int) (b5_1_1 : Int) (b5_2_1 : (List Int)) (rec1 : (List S_Level) → Int → Int → (List Int) → Option (S_Pyramid)) (x25 : Int) (x27 : Int) (x31 : Int) (rec2 : (List Int) → Int → Option (S_Pyramid)) (l_row56_2 : (List Int)) (y33_2 : Int) : Option (S_Pyramid) :=
 (bif (decide (y33_2 < x31)) then (nz x25 (ck (2 * (Int.tmod y33_2 x25)) fun x36 => (nz x25 (ck (Int.tdiv y33_2 x25) fun x37 => (ck (2 * x37) fun x38 => (ck (x36 + 1) fun x40 => (ck (x38 + 1) fun x41 => (ck (x36 + 1) fun x42 => (ck (x38 + 1) fun x43 => ((m109 K (⟨b5_0_1, b5_1_1, b5_2_1⟩ : S_Level) x36 x38).bind fun v45 => ((m109 K (⟨b5_0_1, b5_1_1, b5_2_1⟩ : S_Level) x40 x38).bind fun v48 => ((m109 K (⟨b5_0_1, b5_1_1, b5_2_1⟩ : S_Level) x36 x41).bind fun v51 => ((m109 K (⟨b5_0_1, b5_1_1, b5_2_1⟩ : S_Level) x42 x43).bind fun v54 => (apd 8 l_row56_2 (mn (mn (mn v45 v48) v51) v54) fun l62 => (ck (y33_2 + 1) fun x66 => (rec2 l62 x66)))))))))))))))) else (apd 40 l_row11_1 (⟨x25, x27, l_row56_2⟩ : S_Level) fun l74 => (rec1 l74 x25 x27 l_row56_2)))
def m58_l2 (K : Nat) (l_row11_1 : (List S_Level)) (b5_0_1 : Int) (b5_1_1 : Int) (b5_2_1 : (List Int)) (rec1 : (List S_Level) → Int → Int → (List Int) → Option (S_Pyramid)) (x25 : Int) (x27 : Int) (x31 : Int) : Nat → (List Int) → Int → Option (S_Pyramid)
 | 0 => fun _ _ => none
 | k + 1 => m58_l2b K l_row11_1 b5_0_1 b5_1_1 b5_2_1 rec1 x25 x27 x31 (m58_l2 K l_row11_1 b5_0_1 b5_1_1 b5_2_1 rec1 x25 x27 x31 k)
def m58_l1b (K : Nat)  (rec1 : (List S_Level) → Int → Int → (List Int) → Option (S_Pyramid)) (l_row11_1 : (List S_Level)) (b5_0_1 : Int) (b5_1_1 : Int) (b5_2_1 : (List Int)) : Option (S_Pyramid) :=
 (ck (b5_0_1 * b5_1_1) fun x23 => (bif (decide (1 < x23)) then (ck (b5_0_1 + 1) fun x24 => (ck (Int.tdiv x24 2) fun x25 => (ck (b5_1_1 + 1) fun x26 => (ck (Int.tdiv x26 2) fun x27 => (ck (x25 * x27) fun x31 => m58_l2 K l_row11_1 b5_0_1 b5_1_1 b5_2_1 rec1 x25 x27 x31 K ([]) 0))))) else some (⟨l_row11_1⟩ : S_Pyramid)))
def m58_l1 (K : Nat)  : Nat → (List S_Level) → Int → Int → (List Int) → Option (S_Pyramid)
 | 0 => fun _ _ _ _ => none
 | k + 1 => m58_l1b K  (m58_l1 K  k)
/-- diorama/pyramid.build -/
def m58 (K : Nat) (a0 : S_Level) : Option (S_Pyramid) :=
 (apd 40 ([] : List S_Level) a0 fun l17 => m58_l1 K K l17 a0.W a0.H a0.Low)
set_option maxRecDepth 100000 in
set_option maxHeartbeats 4000000 in
theorem c58 (ok : Okp) (K : Nat) (w : World) (a0 : S_Level) (A1 : Option Addr) (cp2 : Nat) (hR3 : Rd kInt w ok A1 cp2 a0.Low) (res : S_Pyramid) (hm : m58 K a0 = some res) :
  Calls Try.prog 58 #[.agg #[.int .i64 a0.W, .int .i64 a0.H, .slice A1 a0.Low.length cp2]] w (fun e w' => ∃ (A0_ : Option Addr) (c0_ : Nat), e = .returned (tup [.agg #[.slice A0_ res.Levels.length c0_]]) ∧ Sep ok w w' [] [RE.rd k_Level A0_ c0_ res.Levels]) := by
 refine calls_W (args := [.agg #[.int .i64 a0.W, .int .i64 a0.H, .slice A1 a0.Low.length cp2]]) Try.func58 rfl Try.ntmps58 Try.results58 rfl fun r hr => ?_
 obtain ⟨r1, rfl⟩ := regen (r := r) [(0, .agg #[.int .i64 a0.W, .int .i64 a0.H, .slice A1 a0.Low.length cp2])] ⟨hr 0 _ rfl, trivial⟩
 have H : Sep ok w w [] [RE.rd kInt A1 cp2 a0.Low] := Sep.arg (Sep.start ok w) (re := RE.rd kInt A1 cp2 a0.Low) rfl rfl hR3
 unfold m58 at hm
 refine W_seq ?_
 refine W_region ?_
 refine RL_cons (O_box (by exact wn0 rfl) (by rfl) (by rfl) (by rfl) H (fun w6 b5 (H : Sep ok w w6 [.blk b5 54 [.int .i64 a0.W, .int .i64 a0.H, .slice A1 a0.Low.length cp2]] [RE.rd kInt A1 cp2 a0.Low]) => ?_))
 refine RL_cons (O_alloc (by exact wn0 rfl) (by rfl) ze28 (by rfl) H (fun w8 b7 (H : Sep ok w w8 [.blk b5 54 [.int .i64 a0.W, .int .i64 a0.H, .slice A1 a0.Low.length cp2], .blk b7 28 [.slice none 0 0]] [RE.rd kInt A1 cp2 a0.Low]) => ?_))
 refine RL_nil ?_
 refine W_seq ?_
 refine W_region ?_
 refine RL_pure (by exact wn0 rfl) (by rfl) (by rfl) (x_fieldAddr fo28_0 (by rfl)) ?_
 refine RL_pure (by exact wn0 rfl) (by rfl) (by rfl) (x_load (j := 0) (v := .slice none 0 0) sc26 (by rfl) (H.cells (i := 1) (by rfl)) (by rfl)) ?_
 refine RL_pure (by exact wn0 rfl) (by rfl) (by rfl) (x_loadA (j := 0) (vs := [.int .i64 a0.W, .int .i64 a0.H, .slice A1 a0.Low.length cp2]) ag54 (by rfl) (H.cells (i := 0) (by rfl)) (by rfl) (by rfl)) ?_
 refine RL_cons (O_buildSlice (vs := [(0, .agg #[.int .i64 a0.W, .int .i64 a0.H, .slice A1 a0.Low.length cp2])]) (cs := [.int .i64 a0.W, .int .i64 a0.H, .slice A1 a0.Low.length cp2]) (by exact wn0 rfl) (by rfl) sl26 sz54 ze54 (by rfl) (by rfl) (by rfl) (by kernel_rfl) H (fun w10 b9 (H : Sep ok w w10 [.blk b5 54 [.int .i64 a0.W, .int .i64 a0.H, .slice A1 a0.Low.length cp2], .blk b7 28 [.slice none 0 0], .blk b9 54 [.int .i64 a0.W, .int .i64 a0.H, .slice A1 a0.Low.length cp2]] [RE.rd kInt A1 cp2 a0.Low]) => ?_))
 have H : Sep ok w w10 [.blk b5 54 [.int .i64 a0.W, .int .i64 a0.H, .slice A1 a0.Low.length cp2], .blk b7 28 [.slice none 0 0], .blk b9 54 [.int .i64 a0.W, .int .i64 a0.H, .slice A1 a0.Low.length cp2], .row (.slice none 0 0) 54 k_Level.sz 0 []] [RE.rd kInt A1 cp2 a0.Low, RE.chunks k_Level [] ([])] := H.nilRowK 54 k_Level
 obtain ⟨l17, hl18, hb19, hm⟩ := apd_some hm
 refine RL_cons (O_append (D := k_Level) (xs := ([] : List S_Level)) (i := 3) (j := 1) (o := 0) (y := a0) (by exact wn0 rfl) (by rfl) (by rfl) (by rfl) H (by rfl) (by rfl) (H.cells (i := 2) (by rfl)) (by exact ⟨A1, cp2, rfl, H.rd (i := 0) (by rfl)⟩) hl18 sl26 sz54 by54 ze54 (by rfl) (by rfl) hb19 (by rfl) (fun w13 A14 cp15 cs16 (H : Sep ok w w13 [.blk b5 54 [.int .i64 a0.W, .int .i64 a0.H, .slice A1 a0.Low.length cp2], .blk b7 28 [.slice none 0 0], .blk b9 54 [.int .i64 a0.W, .int .i64 a0.H, .slice A1 a0.Low.length cp2], .row (.slice A14 l17.length cp15) 54 k_Level.sz l17.length cs16] [RE.rd kInt A1 cp2 a0.Low, RE.chunks k_Level cs16 l17]) => ?_))
 refine RL_pure (by exact wn0 rfl) (by rfl) (by rfl) (x_fieldAddr fo28_0 (by rfl)) ?_
 refine RL_cons (O_store (i := 1) (off := 0) (by exact wn0 rfl) (by rfl) (by rfl) H (by rfl) (vs := [.slice A14 l17.length cp15]) (by rfl) sz26 (by rfl) (by rfl) (by rfl) (fun w20 (H : Sep ok w w20 [.blk b5 54 [.int .i64 a0.W, .int .i64 a0.H, .slice A1 a0.Low.length cp2], .blk b7 28 [.slice A14 l17.length cp15], .blk b9 54 [.int .i64 a0.W, .int .i64 a0.H, .slice A1 a0.Low.length cp2], .row (.slice A14 l17.length cp15) 54 k_Level.sz l17.length cs16] [RE.rd kInt A1 cp2 a0.Low, RE.chunks k_Level cs16 l17]) => ?_))
 refine RL_nil ?_
 refine W_seq ?_
 refine W_block ?_
 refine W_loop (fun k1 r' w' => ∃ (l_row11_1 : (List S_Level)), ∃ (b5_0_1 : Int), ∃ (b5_1_1 : Int), ∃ (b5_2_1 : (List Int)), ∃ (A_row11_1 : Option Addr), ∃ (c_row11_1 : Nat), ∃ (cs_row11_1 : List Value), ∃ (Ab5_2_1 : Option Addr), ∃ (cb5_2_1 : Nat), m58_l1 K k1 l_row11_1 b5_0_1 b5_1_1 b5_2_1 = some res ∧ Agr [(1, .pointer (some ⟨b5, 0, none⟩)), (2, .pointer (some ⟨b7, 0, none⟩))] r' ∧ Sep ok w w' [.blk b5 54 [.int .i64 b5_0_1, .int .i64 b5_1_1, .slice Ab5_2_1 b5_2_1.length cb5_2_1], .blk b7 28 [.slice A_row11_1 l_row11_1.length c_row11_1], .blk b9 54 [.int .i64 a0.W, .int .i64 a0.H, .slice A1 a0.Low.length cp2], .row (.slice A_row11_1 l_row11_1.length c_row11_1) 54 k_Level.sz l_row11_1.length cs_row11_1] [RE.rd kInt A1 cp2 a0.Low, RE.chunks k_Level cs_row11_1 l_row11_1, RE.rd kInt Ab5_2_1 cb5_2_1 b5_2_1]) K ?_ ?_
 ·exact ⟨l17, a0.W, a0.H, a0.Low, A14, cp15, cs16, A1, cp2, hm, ⟨rfl, rfl, trivial⟩, (H).pick [0, 1, 0]⟩
 ·rintro k1 r' w' ⟨l_row11_1, b5_0_1, b5_1_1, b5_2_1, A_row11_1, c_row11_1, cs_row11_1, Ab5_2_1, cb5_2_1, hm, hA, H⟩
  obtain ⟨r21, rfl⟩ := regen _ hA; clear hA
  obtain ⟨w22, rfl⟩ : ∃ W : World, W = w' := ⟨_, rfl⟩
  cases k1 with
  | zero => exact (none_some hm).elim
  | succ k1 =>
   have hm : m58_l1b K (m58_l1 K k1) l_row11_1 b5_0_1 b5_1_1 b5_2_1 = some res := hm
   unfold m58_l1b at hm
   obtain ⟨rec1, hrec1⟩ : ∃ f, m58_l1 K k1 = f := ⟨_, rfl⟩
   rw [hrec1] at hm
   refine W_seq ?_
   refine W_seq ?_
   refine W_region ?_
   refine RL_pure (by exact wn0 rfl) (by rfl) (by rfl) (x_fieldAddr fo54_0 (by rfl)) ?_
   refine RL_pure (by exact wn0 rfl) (by rfl) (by rfl) (x_load (j := 0) (v := .int .i64 b5_0_1) sc3 (by rfl) (H.cells (i := 0) (by rfl)) (by rfl)) ?_
   refine RL_pure (by exact wn0 rfl) (by rfl) (by rfl) (x_fieldAddr fo54_1 (by rfl)) ?_
   refine RL_pure (by exact wn0 rfl) (by rfl) (by rfl) (x_load (j := 1) (v := .int .i64 b5_1_1) sc3 (by rfl) (H.cells (i := 0) (by rfl)) (by rfl)) ?_
   obtain ⟨x23, ex23, qx23, ux23, hm⟩ := ck_some hm
   refine RL_pure (by exact wn0 rfl) (by rfl) (by rfl) (x_mul (by rfl) (by rfl) ux23) ?_
   refine RL_pure (by exact wn0 rfl) (by rfl) (by rfl) (x_gtr (by rfl) (by rfl)) ?_
   refine RL_nil ?_
   refine W_cond (by rfl) (fun hb => ?_) (fun hb => ?_)
   ·have hm := cond_t hb hm
    refine W_skip ?_
    refine W_block ?_
    refine W_seq ?_
    refine W_region ?_
    refine RL_pure (by exact wn0 rfl) (by rfl) (by rfl) (x_fieldAddr fo54_0 (by rfl)) ?_
    refine RL_pure (by exact wn0 rfl) (by rfl) (by rfl) (x_load (j := 0) (v := .int .i64 b5_0_1) sc3 (by rfl) (H.cells (i := 0) (by rfl)) (by rfl)) ?_
    obtain ⟨x24, ex24, qx24, ux24, hm⟩ := ck_some hm
    refine RL_pure (by exact wn0 rfl) (by rfl) (by rfl) (x_add (by rfl) (by rfl) ux24) ?_
    obtain ⟨x25, ex25, qx25, ux25, hm⟩ := ck_some hm
    refine RL_pure (by exact wn0 rfl) (by rfl) (by rfl) (x_quo (by rfl) (by rfl) (by decide) ux25) ?_
    refine RL_pure (by exact wn0 rfl) (by rfl) (by rfl) (x_fieldAddr fo54_1 (by rfl)) ?_
    refine RL_pure (by exact wn0 rfl) (by rfl) (by rfl) (x_load (j := 1) (v := .int .i64 b5_1_1) sc3 (by rfl) (H.cells (i := 0) (by rfl)) (by rfl)) ?_
    obtain ⟨x26, ex26, qx26, ux26, hm⟩ := ck_some hm
    refine RL_pure (by exact wn0 rfl) (by rfl) (by rfl) (x_add (by rfl) (by rfl) ux26) ?_
    obtain ⟨x27, ex27, qx27, ux27, hm⟩ := ck_some hm
    refine RL_pure (by exact wn0 rfl) (by rfl) (by rfl) (x_quo (by rfl) (by rfl) (by decide) ux27) ?_
    refine RL_pure (by exact wn0 rfl) (by rfl) (by rfl) (x_build (vs := [(0, .int .i64 x25), (1, .int .i64 x27)]) (cs := [.int .i64 x25, .int .i64 x27, .slice none 0 0]) (by rfl) (by kernel_rfl)) ?_
    refine RL_cons (O_alloc (by exact wn0 rfl) (by rfl) ze54 (by rfl) H (fun w29 b28 (H : Sep ok w w29 [.blk b5 54 [.int .i64 b5_0_1, .int .i64 b5_1_1, .slice Ab5_2_1 b5_2_1.length cb5_2_1], .blk b7 28 [.slice A_row11_1 l_row11_1.length c_row11_1], .blk b9 54 [.int .i64 a0.W, .int .i64 a0.H, .slice A1 a0.Low.length cp2], .row (.slice A_row11_1 l_row11_1.length c_row11_1) 54 k_Level.sz l_row11_1.length cs_row11_1, .blk b28 54 [.int .i64 0, .int .i64 0, .slice none 0 0]] [RE.rd kInt A1 cp2 a0.Low, RE.chunks k_Level cs_row11_1 l_row11_1, RE.rd kInt Ab5_2_1 cb5_2_1 b5_2_1]) => ?_))
    refine RL_cons (O_store (i := 4) (off := 0) (by exact wn0 rfl) (by rfl) (by rfl) H (by rfl) (vs := [.int .i64 x25, .int .i64 x27, .slice none 0 0]) (by rfl) sz54 (by rfl) (by rfl) (by rfl) (fun w30 (H : Sep ok w w30 [.blk b5 54 [.int .i64 b5_0_1, .int .i64 b5_1_1, .slice Ab5_2_1 b5_2_1.length cb5_2_1], .blk b7 28 [.slice A_row11_1 l_row11_1.length c_row11_1], .blk b9 54 [.int .i64 a0.W, .int .i64 a0.H, .slice A1 a0.Low.length cp2], .row (.slice A_row11_1 l_row11_1.length c_row11_1) 54 k_Level.sz l_row11_1.length cs_row11_1, .blk b28 54 [.int .i64 x25, .int .i64 x27, .slice none 0 0]] [RE.rd kInt A1 cp2 a0.Low, RE.chunks k_Level cs_row11_1 l_row11_1, RE.rd kInt Ab5_2_1 cb5_2_1 b5_2_1]) => ?_))
    refine RL_nil ?_
    refine W_seq ?_
    refine W_seq ?_
    refine W_region ?_
    refine RL_pure (by exact wn0 rfl) (by rfl) (by rfl) (x_fieldAddr fo54_0 (by rfl)) ?_
    refine RL_pure (by exact wn0 rfl) (by rfl) (by rfl) (x_load (j := 0) (v := .int .i64 x25) sc3 (by rfl) (H.cells (i := 4) (by rfl)) (by rfl)) ?_
    refine RL_pure (by exact wn0 rfl) (by rfl) (by rfl) (x_fieldAddr fo54_1 (by rfl)) ?_
    refine RL_pure (by exact wn0 rfl) (by rfl) (by rfl) (x_load (j := 1) (v := .int .i64 x27) sc3 (by rfl) (H.cells (i := 4) (by rfl)) (by rfl)) ?_
    obtain ⟨x31, ex31, qx31, ux31, hm⟩ := ck_some hm
    refine RL_pure (by exact wn0 rfl) (by rfl) (by rfl) (x_mul (by rfl) (by rfl) ux31) ?_
    refine RL_pure (by exact wn0 rfl) (by rfl) (by rfl) (x_move (v := .int .i64 0) (by rfl)) ?_
    refine RL_nil ?_
    refine W_block ?_
    refine W_loop (fun k2 r' w' => ∃ (l_row56_2 : (List Int)), ∃ (y33_2 : Int), ∃ (A_row11_1 : Option Addr), ∃ (c_row11_1 : Nat), ∃ (cs_row11_1 : List Value), ∃ (A_row56_2 : Option Addr), ∃ (c_row56_2 : Nat), ∃ (cs_row56_2 : List Value), ∃ (Ab5_2_1 : Option Addr), ∃ (cb5_2_1 : Nat), m58_l2 K l_row11_1 b5_0_1 b5_1_1 b5_2_1 rec1 x25 x27 x31 k2 l_row56_2 y33_2 = some res ∧ Agr [(1, .pointer (some ⟨b5, 0, none⟩)), (2, .pointer (some ⟨b7, 0, none⟩)), (3, .pointer (some ⟨b28, 0, none⟩)), (32, .int .i64 x31), (33, .int .i64 y33_2)] r' ∧ Sep ok w w' [.blk b5 54 [.int .i64 b5_0_1, .int .i64 b5_1_1, .slice Ab5_2_1 b5_2_1.length cb5_2_1], .blk b7 28 [.slice A_row11_1 l_row11_1.length c_row11_1], .blk b9 54 [.int .i64 a0.W, .int .i64 a0.H, .slice A1 a0.Low.length cp2], .row (.slice A_row11_1 l_row11_1.length c_row11_1) 54 k_Level.sz l_row11_1.length cs_row11_1, .blk b28 54 [.int .i64 x25, .int .i64 x27, .slice A_row56_2 l_row56_2.length c_row56_2], .row (.slice A_row56_2 l_row56_2.length c_row56_2) 3 kInt.sz l_row56_2.length cs_row56_2] [RE.rd kInt A1 cp2 a0.Low, RE.chunks k_Level cs_row11_1 l_row11_1, RE.rd kInt Ab5_2_1 cb5_2_1 b5_2_1, RE.chunks kInt cs_row56_2 l_row56_2]) K ?_ ?_
    ·exact ⟨[], 0, A_row11_1, c_row11_1, cs_row11_1, none, 0, [], Ab5_2_1, cb5_2_1, hm, ⟨rfl, rfl, rfl, rfl, rfl, trivial⟩, (H).nilRowK 3 kInt⟩
    ·rintro k2 r' w' ⟨l_row56_2, y33_2, A_row11_1, c_row11_1, cs_row11_1, A_row56_2, c_row56_2, cs_row56_2, Ab5_2_1, cb5_2_1, hm, hA, H⟩
     obtain ⟨r32, rfl⟩ := regen _ hA; clear hA
     obtain ⟨w33, rfl⟩ : ∃ W : World, W = w' := ⟨_, rfl⟩
     cases k2 with
     | zero => exact (none_some hm).elim
     | succ k2 =>
      have hm : m58_l2b K l_row11_1 b5_0_1 b5_1_1 b5_2_1 rec1 x25 x27 x31 (m58_l2 K l_row11_1 b5_0_1 b5_1_1 b5_2_1 rec1 x25 x27 x31 k2) l_row56_2 y33_2 = some res := hm
      unfold m58_l2b at hm
      obtain ⟨rec2, hrec2⟩ : ∃ f, m58_l2 K l_row11_1 b5_0_1 b5_1_1 b5_2_1 rec1 x25 x27 x31 k2 = f := ⟨_, rfl⟩
      rw [hrec2] at hm
      refine W_seq ?_
      refine W_region ?_
      refine RL_pure (by exact wn0 rfl) (by rfl) (by rfl) (x_lss (by rfl) (by rfl)) ?_
      refine RL_nil ?_
      refine W_seq ?_
      refine W_cond (by rfl) (fun hb => ?_) (fun hb => ?_)
      ·have hm := cond_t hb hm
       refine W_skip ?_
       refine W_seq ?_
       refine W_block ?_
       refine W_seq ?_
       refine W_region ?_
       refine RL_pure (by exact wn0 rfl) (by rfl) (by rfl) (x_move (v := .int .i64 y33_2) (by rfl)) ?_
       refine RL_pure (by exact wn0 rfl) (by rfl) (by rfl) (x_assign (v := .int .i64 y33_2) (by rfl)) ?_
       refine RL_nil ?_
       refine W_seq ?_
       refine W_draw [.free 0, .free 1, .take 2, .free 3, .free 4, .free 5, .free 6, .take 7, .free 8, .free 9, .free 10, .free 11] (fun wS => Sep ok w wS [.blk b5 54 [.int .i64 b5_0_1, .int .i64 b5_1_1, .slice Ab5_2_1 b5_2_1.length cb5_2_1], .blk b7 28 [.slice A_row11_1 l_row11_1.length c_row11_1], .blk b9 54 [.int .i64 a0.W, .int .i64 a0.H, .slice A1 a0.Low.length cp2], .row (.slice A_row11_1 l_row11_1.length c_row11_1) 54 k_Level.sz l_row11_1.length cs_row11_1, .blk b28 54 [.int .i64 x25, .int .i64 x27, .slice A_row56_2 l_row56_2.length c_row56_2], .row (.slice A_row56_2 l_row56_2.length c_row56_2) 3 kInt.sz l_row56_2.length cs_row56_2] [RE.rd kInt A1 cp2 a0.Low, RE.chunks k_Level cs_row11_1 l_row11_1, RE.rd kInt Ab5_2_1 cb5_2_1 b5_2_1, RE.chunks kInt cs_row56_2 l_row56_2]) [] [0, 1, 3, 4, 5, 6, 8, 9, 10, 11] mixed0 (by kernel_rfl) (by kernel_rfl) (by kernel_rfl) (by rfl) (by exact H.drew) ?_
       obtain ⟨w34, hW⟩ : ∃ W : World, W = { w33 with drawn := w33.drawn + 1 } := ⟨_, rfl⟩
       rw [← hW]
       have H : Sep ok w w34 [.blk b5 54 [.int .i64 b5_0_1, .int .i64 b5_1_1, .slice Ab5_2_1 b5_2_1.length cb5_2_1], .blk b7 28 [.slice A_row11_1 l_row11_1.length c_row11_1], .blk b9 54 [.int .i64 a0.W, .int .i64 a0.H, .slice A1 a0.Low.length cp2], .row (.slice A_row11_1 l_row11_1.length c_row11_1) 54 k_Level.sz l_row11_1.length cs_row11_1, .blk b28 54 [.int .i64 x25, .int .i64 x27, .slice A_row56_2 l_row56_2.length c_row56_2], .row (.slice A_row56_2 l_row56_2.length c_row56_2) 3 kInt.sz l_row56_2.length cs_row56_2] [RE.rd kInt A1 cp2 a0.Low, RE.chunks k_Level cs_row11_1 l_row11_1, RE.rd kInt Ab5_2_1 cb5_2_1 b5_2_1, RE.chunks kInt cs_row56_2 l_row56_2] := by rw [hW]; exact H.drew
       clear hW
       refine PR_free (by rfl) (by rfl) (by rfl) (by exact wn0 rfl) (fun wS => (x_move (v := .int .i64 y33_2) (by rfl))) ?_
       refine PR_free (by rfl) (by rfl) (by rfl) (by exact wn0 rfl) (fun wS => (x_fieldAddr fo54_0 (by rfl))) ?_
       refine PR_take (by rfl) (by rfl) (by rfl) (by exact wn0 rfl) (fun wS (H : Sep ok w wS [.blk b5 54 [.int .i64 b5_0_1, .int .i64 b5_1_1, .slice Ab5_2_1 b5_2_1.length cb5_2_1], .blk b7 28 [.slice A_row11_1 l_row11_1.length c_row11_1], .blk b9 54 [.int .i64 a0.W, .int .i64 a0.H, .slice A1 a0.Low.length cp2], .row (.slice A_row11_1 l_row11_1.length c_row11_1) 54 k_Level.sz l_row11_1.length cs_row11_1, .blk b28 54 [.int .i64 x25, .int .i64 x27, .slice A_row56_2 l_row56_2.length c_row56_2], .row (.slice A_row56_2 l_row56_2.length c_row56_2) 3 kInt.sz l_row56_2.length cs_row56_2] [RE.rd kInt A1 cp2 a0.Low, RE.chunks k_Level cs_row11_1 l_row11_1, RE.rd kInt Ab5_2_1 cb5_2_1 b5_2_1, RE.chunks kInt cs_row56_2 l_row56_2]) => (x_load (j := 0) (v := .int .i64 x25) sc3 (by rfl) (H.cells (i := 4) (by rfl)) (by rfl))) ?_
       obtain ⟨nx35, hm⟩ := nz_some hm
       refine PR_free (by rfl) (by rfl) (by rfl) (by exact wn0 rfl) (fun wS => (x_rem (by rfl) (by rfl) nx35)) ?_
       obtain ⟨x36, ex36, qx36, ux36, hm⟩ := ck_some hm
       refine PR_free (by rfl) (by rfl) (by rfl) (by exact wn0 rfl) (fun wS => (x_mul (by rfl) (by rfl) ux36)) ?_
       refine PR_free (by rfl) (by rfl) (by rfl) (by exact wn0 rfl) (fun wS => (x_move (v := .int .i64 y33_2) (by rfl))) ?_
       refine PR_free (by rfl) (by rfl) (by rfl) (by exact wn0 rfl) (fun wS => (x_fieldAddr fo54_0 (by rfl))) ?_
       refine PR_take (by rfl) (by rfl) (by rfl) (by exact wn0 rfl) (fun wS (H : Sep ok w wS [.blk b5 54 [.int .i64 b5_0_1, .int .i64 b5_1_1, .slice Ab5_2_1 b5_2_1.length cb5_2_1], .blk b7 28 [.slice A_row11_1 l_row11_1.length c_row11_1], .blk b9 54 [.int .i64 a0.W, .int .i64 a0.H, .slice A1 a0.Low.length cp2], .row (.slice A_row11_1 l_row11_1.length c_row11_1) 54 k_Level.sz l_row11_1.length cs_row11_1, .blk b28 54 [.int .i64 x25, .int .i64 x27, .slice A_row56_2 l_row56_2.length c_row56_2], .row (.slice A_row56_2 l_row56_2.length c_row56_2) 3 kInt.sz l_row56_2.length cs_row56_2] [RE.rd kInt A1 cp2 a0.Low, RE.chunks k_Level cs_row11_1 l_row11_1, RE.rd kInt Ab5_2_1 cb5_2_1 b5_2_1, RE.chunks kInt cs_row56_2 l_row56_2]) => (x_load (j := 0) (v := .int .i64 x25) sc3 (by rfl) (H.cells (i := 4) (by rfl)) (by rfl))) ?_
       obtain ⟨nx37, hm⟩ := nz_some hm
       obtain ⟨x37, ex37, qx37, ux37, hm⟩ := ck_some hm
       refine PR_free (by rfl) (by rfl) (by rfl) (by exact wn0 rfl) (fun wS => (x_quo (by rfl) (by rfl) nx37 ux37)) ?_
       obtain ⟨x38, ex38, qx38, ux38, hm⟩ := ck_some hm
       refine PR_free (by rfl) (by rfl) (by rfl) (by exact wn0 rfl) (fun wS => (x_mul (by rfl) (by rfl) ux38)) ?_
       refine PR_free (by rfl) (by rfl) (by rfl) (by exact wn0 rfl) (fun wS => (x_assign (v := .int .i64 x36) (by rfl))) ?_
       refine PR_free (by rfl) (by rfl) (by rfl) (by exact wn0 rfl) (fun wS => (x_assign (v := .int .i64 x38) (by rfl))) ?_
       refine PR_nil ?_
       refine W_draw [.free 0, .take 1, .take 2, .free 3, .free 4, .take 6, .free 7, .free 8, .free 9, .take 11, .free 12, .free 13, .free 14, .take 16, .free 17, .free 18, .free 19, .free 20, .run 5, .run 10, .run 15, .run 21, .free 22, .run 23, .run 24, .free 25, .tail 26] (fun wS => Sep ok w wS [.blk b5 54 [.int .i64 b5_0_1, .int .i64 b5_1_1, .slice Ab5_2_1 b5_2_1.length cb5_2_1], .blk b7 28 [.slice A_row11_1 l_row11_1.length c_row11_1], .blk b9 54 [.int .i64 a0.W, .int .i64 a0.H, .slice A1 a0.Low.length cp2], .row (.slice A_row11_1 l_row11_1.length c_row11_1) 54 k_Level.sz l_row11_1.length cs_row11_1, .blk b28 54 [.int .i64 x25, .int .i64 x27, .slice A_row56_2 l_row56_2.length c_row56_2], .hole] [RE.rd kInt A1 cp2 a0.Low, RE.chunks k_Level cs_row11_1 l_row11_1, RE.rd kInt Ab5_2_1 cb5_2_1 b5_2_1, RE.hole]) [26] [0, 3, 4, 7, 8, 9, 12, 13, 14, 17, 18, 19, 20, 22, 25] mixed0 (by kernel_rfl) (by kernel_rfl) (by kernel_rfl) (by rfl) (by exact (Sep.holeR (Sep.holeL H.drew 5) 3)) ?_
       obtain ⟨w39, hW⟩ : ∃ W : World, W = { w34 with drawn := w34.drawn + 1 } := ⟨_, rfl⟩
       rw [← hW]
       have H : Sep ok w w39 [.blk b5 54 [.int .i64 b5_0_1, .int .i64 b5_1_1, .slice Ab5_2_1 b5_2_1.length cb5_2_1], .blk b7 28 [.slice A_row11_1 l_row11_1.length c_row11_1], .blk b9 54 [.int .i64 a0.W, .int .i64 a0.H, .slice A1 a0.Low.length cp2], .row (.slice A_row11_1 l_row11_1.length c_row11_1) 54 k_Level.sz l_row11_1.length cs_row11_1, .blk b28 54 [.int .i64 x25, .int .i64 x27, .slice A_row56_2 l_row56_2.length c_row56_2], .row (.slice A_row56_2 l_row56_2.length c_row56_2) 3 kInt.sz l_row56_2.length cs_row56_2] [RE.rd kInt A1 cp2 a0.Low, RE.chunks k_Level cs_row11_1 l_row11_1, RE.rd kInt Ab5_2_1 cb5_2_1 b5_2_1, RE.chunks kInt cs_row56_2 l_row56_2] := by rw [hW]; exact H.drew
       clear hW
       refine PR_free (by rfl) (by rfl) (by rfl) (by exact wn0 rfl) (fun wS => (x_fieldAddr fo54_2 (by rfl))) ?_
       refine PR_take (by rfl) (by rfl) (by rfl) (by exact wn0 rfl) (fun wS (H : Sep ok w wS [.blk b5 54 [.int .i64 b5_0_1, .int .i64 b5_1_1, .slice Ab5_2_1 b5_2_1.length cb5_2_1], .blk b7 28 [.slice A_row11_1 l_row11_1.length c_row11_1], .blk b9 54 [.int .i64 a0.W, .int .i64 a0.H, .slice A1 a0.Low.length cp2], .row (.slice A_row11_1 l_row11_1.length c_row11_1) 54 k_Level.sz l_row11_1.length cs_row11_1, .blk b28 54 [.int .i64 x25, .int .i64 x27, .slice A_row56_2 l_row56_2.length c_row56_2], .hole] [RE.rd kInt A1 cp2 a0.Low, RE.chunks k_Level cs_row11_1 l_row11_1, RE.rd kInt Ab5_2_1 cb5_2_1 b5_2_1, RE.hole]) => (x_load (j := 2) (v := .slice A_row56_2 l_row56_2.length c_row56_2) sc23 (by rfl) (H.cells (i := 4) (by rfl)) (by rfl))) ?_
       refine PR_take (by rfl) (by rfl) (by rfl) (by exact wn0 rfl) (fun wS (H : Sep ok w wS [.blk b5 54 [.int .i64 b5_0_1, .int .i64 b5_1_1, .slice Ab5_2_1 b5_2_1.length cb5_2_1], .blk b7 28 [.slice A_row11_1 l_row11_1.length c_row11_1], .blk b9 54 [.int .i64 a0.W, .int .i64 a0.H, .slice A1 a0.Low.length cp2], .row (.slice A_row11_1 l_row11_1.length c_row11_1) 54 k_Level.sz l_row11_1.length cs_row11_1, .blk b28 54 [.int .i64 x25, .int .i64 x27, .slice A_row56_2 l_row56_2.length c_row56_2], .hole] [RE.rd kInt A1 cp2 a0.Low, RE.chunks k_Level cs_row11_1 l_row11_1, RE.rd kInt Ab5_2_1 cb5_2_1 b5_2_1, RE.hole]) => (x_loadA (j := 0) (vs := [.int .i64 b5_0_1, .int .i64 b5_1_1, .slice Ab5_2_1 b5_2_1.length cb5_2_1]) ag54 (by rfl) (H.cells (i := 0) (by rfl)) (by rfl) (by rfl))) ?_
       refine PR_free (by rfl) (by rfl) (by rfl) (by exact wn0 rfl) (fun wS => (x_move (v := .int .i64 x36) (by rfl))) ?_
       refine PR_free (by rfl) (by rfl) (by rfl) (by exact wn0 rfl) (fun wS => (x_move (v := .int .i64 x38) (by rfl))) ?_
       refine PR_take (by rfl) (by rfl) (by rfl) (by exact wn0 rfl) (fun wS (H : Sep ok w wS [.blk b5 54 [.int .i64 b5_0_1, .int .i64 b5_1_1, .slice Ab5_2_1 b5_2_1.length cb5_2_1], .blk b7 28 [.slice A_row11_1 l_row11_1.length c_row11_1], .blk b9 54 [.int .i64 a0.W, .int .i64 a0.H, .slice A1 a0.Low.length cp2], .row (.slice A_row11_1 l_row11_1.length c_row11_1) 54 k_Level.sz l_row11_1.length cs_row11_1, .blk b28 54 [.int .i64 x25, .int .i64 x27, .slice A_row56_2 l_row56_2.length c_row56_2], .hole] [RE.rd kInt A1 cp2 a0.Low, RE.chunks k_Level cs_row11_1 l_row11_1, RE.rd kInt Ab5_2_1 cb5_2_1 b5_2_1, RE.hole]) => (x_loadA (j := 0) (vs := [.int .i64 b5_0_1, .int .i64 b5_1_1, .slice Ab5_2_1 b5_2_1.length cb5_2_1]) ag54 (by rfl) (H.cells (i := 0) (by rfl)) (by rfl) (by rfl))) ?_
       refine PR_free (by rfl) (by rfl) (by rfl) (by exact wn0 rfl) (fun wS => (x_move (v := .int .i64 x36) (by rfl))) ?_
       obtain ⟨x40, ex40, qx40, ux40, hm⟩ := ck_some hm
       refine PR_free (by rfl) (by rfl) (by rfl) (by exact wn0 rfl) (fun wS => (x_add (by rfl) (by rfl) ux40)) ?_
       refine PR_free (by rfl) (by rfl) (by rfl) (by exact wn0 rfl) (fun wS => (x_move (v := .int .i64 x38) (by rfl))) ?_
       refine PR_take (by rfl) (by rfl) (by rfl) (by exact wn0 rfl) (fun wS (H : Sep ok w wS [.blk b5 54 [.int .i64 b5_0_1, .int .i64 b5_1_1, .slice Ab5_2_1 b5_2_1.length cb5_2_1], .blk b7 28 [.slice A_row11_1 l_row11_1.length c_row11_1], .blk b9 54 [.int .i64 a0.W, .int .i64 a0.H, .slice A1 a0.Low.length cp2], .row (.slice A_row11_1 l_row11_1.length c_row11_1) 54 k_Level.sz l_row11_1.length cs_row11_1, .blk b28 54 [.int .i64 x25, .int .i64 x27, .slice A_row56_2 l_row56_2.length c_row56_2], .hole] [RE.rd kInt A1 cp2 a0.Low, RE.chunks k_Level cs_row11_1 l_row11_1, RE.rd kInt Ab5_2_1 cb5_2_1 b5_2_1, RE.hole]) => (x_loadA (j := 0) (vs := [.int .i64 b5_0_1, .int .i64 b5_1_1, .slice Ab5_2_1 b5_2_1.length cb5_2_1]) ag54 (by rfl) (H.cells (i := 0) (by rfl)) (by rfl) (by rfl))) ?_
       refine PR_free (by rfl) (by rfl) (by rfl) (by exact wn0 rfl) (fun wS => (x_move (v := .int .i64 x36) (by rfl))) ?_
       refine PR_free (by rfl) (by rfl) (by rfl) (by exact wn0 rfl) (fun wS => (x_move (v := .int .i64 x38) (by rfl))) ?_
       obtain ⟨x41, ex41, qx41, ux41, hm⟩ := ck_some hm
       refine PR_free (by rfl) (by rfl) (by rfl) (by exact wn0 rfl) (fun wS => (x_add (by rfl) (by rfl) ux41)) ?_
       refine PR_take (by rfl) (by rfl) (by rfl) (by exact wn0 rfl) (fun wS (H : Sep ok w wS [.blk b5 54 [.int .i64 b5_0_1, .int .i64 b5_1_1, .slice Ab5_2_1 b5_2_1.length cb5_2_1], .blk b7 28 [.slice A_row11_1 l_row11_1.length c_row11_1], .blk b9 54 [.int .i64 a0.W, .int .i64 a0.H, .slice A1 a0.Low.length cp2], .row (.slice A_row11_1 l_row11_1.length c_row11_1) 54 k_Level.sz l_row11_1.length cs_row11_1, .blk b28 54 [.int .i64 x25, .int .i64 x27, .slice A_row56_2 l_row56_2.length c_row56_2], .hole] [RE.rd kInt A1 cp2 a0.Low, RE.chunks k_Level cs_row11_1 l_row11_1, RE.rd kInt Ab5_2_1 cb5_2_1 b5_2_1, RE.hole]) => (x_loadA (j := 0) (vs := [.int .i64 b5_0_1, .int .i64 b5_1_1, .slice Ab5_2_1 b5_2_1.length cb5_2_1]) ag54 (by rfl) (H.cells (i := 0) (by rfl)) (by rfl) (by rfl))) ?_
       refine PR_free (by rfl) (by rfl) (by rfl) (by exact wn0 rfl) (fun wS => (x_move (v := .int .i64 x36) (by rfl))) ?_
       obtain ⟨x42, ex42, qx42, ux42, hm⟩ := ck_some hm
       refine PR_free (by rfl) (by rfl) (by rfl) (by exact wn0 rfl) (fun wS => (x_add (by rfl) (by rfl) ux42)) ?_
       refine PR_free (by rfl) (by rfl) (by rfl) (by exact wn0 rfl) (fun wS => (x_move (v := .int .i64 x38) (by rfl))) ?_
       obtain ⟨x43, ex43, qx43, ux43, hm⟩ := ck_some hm
       refine PR_free (by rfl) (by rfl) (by rfl) (by exact wn0 rfl) (fun wS => (x_add (by rfl) (by rfl) ux43)) ?_
       obtain ⟨v45, hv44, hm⟩ := bind_some hm
       refine PR_run (by rfl) (O_call (by exact wn0 rfl) (by rfl) (by rfl) (x_callL (by rfl) (args := [.agg #[.int .i64 b5_0_1, .int .i64 b5_1_1, .slice Ab5_2_1 b5_2_1.length cb5_2_1], .int .i64 x36, .int .i64 x38]) (by rfl) (cf109 _ _)) (c109 okT K w39 (⟨b5_0_1, b5_1_1, b5_2_1⟩ : S_Level) Ab5_2_1 cb5_2_1 x36 x38 (H.rd (i := 2) (by rfl)).any v45 hv44) ?_)
       rintro e w46 ⟨rfl, H2⟩
       have H : Sep ok w w46 [.blk b5 54 [.int .i64 b5_0_1, .int .i64 b5_1_1, .slice Ab5_2_1 b5_2_1.length cb5_2_1], .blk b7 28 [.slice A_row11_1 l_row11_1.length c_row11_1], .blk b9 54 [.int .i64 a0.W, .int .i64 a0.H, .slice A1 a0.Low.length cp2], .row (.slice A_row11_1 l_row11_1.length c_row11_1) 54 k_Level.sz l_row11_1.length cs_row11_1, .blk b28 54 [.int .i64 x25, .int .i64 x27, .slice A_row56_2 l_row56_2.length c_row56_2], .row (.slice A_row56_2 l_row56_2.length c_row56_2) 3 kInt.sz l_row56_2.length cs_row56_2] [RE.rd kInt A1 cp2 a0.Low, RE.chunks k_Level cs_row11_1 l_row11_1, RE.rd kInt Ab5_2_1 cb5_2_1 b5_2_1, RE.chunks kInt cs_row56_2 l_row56_2] := H.below H2.base
       clear H2
       refine ⟨_, rfl, (Sep.holeR (Sep.holeL H 5) 3), ?_⟩
       show PR _ _ _ _ _ _ _ _
       obtain ⟨v48, hv47, hm⟩ := bind_some hm
       refine PR_run (by rfl) (O_call (by exact wn0 rfl) (by rfl) (by rfl) (x_callL (by rfl) (args := [.agg #[.int .i64 b5_0_1, .int .i64 b5_1_1, .slice Ab5_2_1 b5_2_1.length cb5_2_1], .int .i64 x40, .int .i64 x38]) (by rfl) (cf109 _ _)) (c109 okT K w46 (⟨b5_0_1, b5_1_1, b5_2_1⟩ : S_Level) Ab5_2_1 cb5_2_1 x40 x38 (H.rd (i := 2) (by rfl)).any v48 hv47) ?_)
       rintro e w49 ⟨rfl, H2⟩
       have H : Sep ok w w49 [.blk b5 54 [.int .i64 b5_0_1, .int .i64 b5_1_1, .slice Ab5_2_1 b5_2_1.length cb5_2_1], .blk b7 28 [.slice A_row11_1 l_row11_1.length c_row11_1], .blk b9 54 [.int .i64 a0.W, .int .i64 a0.H, .slice A1 a0.Low.length cp2], .row (.slice A_row11_1 l_row11_1.length c_row11_1) 54 k_Level.sz l_row11_1.length cs_row11_1, .blk b28 54 [.int .i64 x25, .int .i64 x27, .slice A_row56_2 l_row56_2.length c_row56_2], .row (.slice A_row56_2 l_row56_2.length c_row56_2) 3 kInt.sz l_row56_2.length cs_row56_2] [RE.rd kInt A1 cp2 a0.Low, RE.chunks k_Level cs_row11_1 l_row11_1, RE.rd kInt Ab5_2_1 cb5_2_1 b5_2_1, RE.chunks kInt cs_row56_2 l_row56_2] := H.below H2.base
       clear H2
       refine ⟨_, rfl, (Sep.holeR (Sep.holeL H 5) 3), ?_⟩
       show PR _ _ _ _ _ _ _ _
       obtain ⟨v51, hv50, hm⟩ := bind_some hm
       refine PR_run (by rfl) (O_call (by exact wn0 rfl) (by rfl) (by rfl) (x_callL (by rfl) (args := [.agg #[.int .i64 b5_0_1, .int .i64 b5_1_1, .slice Ab5_2_1 b5_2_1.length cb5_2_1], .int .i64 x36, .int .i64 x41]) (by rfl) (cf109 _ _)) (c109 okT K w49 (⟨b5_0_1, b5_1_1, b5_2_1⟩ : S_Level) Ab5_2_1 cb5_2_1 x36 x41 (H.rd (i := 2) (by rfl)).any v51 hv50) ?_)
       rintro e w52 ⟨rfl, H2⟩
       have H : Sep ok w w52 [.blk b5 54 [.int .i64 b5_0_1, .int .i64 b5_1_1, .slice Ab5_2_1 b5_2_1.length cb5_2_1], .blk b7 28 [.slice A_row11_1 l_row11_1.length c_row11_1], .blk b9 54 [.int .i64 a0.W, .int .i64 a0.H, .slice A1 a0.Low.length cp2], .row (.slice A_row11_1 l_row11_1.length c_row11_1) 54 k_Level.sz l_row11_1.length cs_row11_1, .blk b28 54 [.int .i64 x25, .int .i64 x27, .slice A_row56_2 l_row56_2.length c_row56_2], .row (.slice A_row56_2 l_row56_2.length c_row56_2) 3 kInt.sz l_row56_2.length cs_row56_2] [RE.rd kInt A1 cp2 a0.Low, RE.chunks k_Level cs_row11_1 l_row11_1, RE.rd kInt Ab5_2_1 cb5_2_1 b5_2_1, RE.chunks kInt cs_row56_2 l_row56_2] := H.below H2.base
       clear H2
       refine ⟨_, rfl, (Sep.holeR (Sep.holeL H 5) 3), ?_⟩
       show PR _ _ _ _ _ _ _ _
       obtain ⟨v54, hv53, hm⟩ := bind_some hm
       refine PR_run (by rfl) (O_call (by exact wn0 rfl) (by rfl) (by rfl) (x_callL (by rfl) (args := [.agg #[.int .i64 b5_0_1, .int .i64 b5_1_1, .slice Ab5_2_1 b5_2_1.length cb5_2_1], .int .i64 x42, .int .i64 x43]) (by rfl) (cf109 _ _)) (c109 okT K w52 (⟨b5_0_1, b5_1_1, b5_2_1⟩ : S_Level) Ab5_2_1 cb5_2_1 x42 x43 (H.rd (i := 2) (by rfl)).any v54 hv53) ?_)
       rintro e w55 ⟨rfl, H2⟩
       have H : Sep ok w w55 [.blk b5 54 [.int .i64 b5_0_1, .int .i64 b5_1_1, .slice Ab5_2_1 b5_2_1.length cb5_2_1], .blk b7 28 [.slice A_row11_1 l_row11_1.length c_row11_1], .blk b9 54 [.int .i64 a0.W, .int .i64 a0.H, .slice A1 a0.Low.length cp2], .row (.slice A_row11_1 l_row11_1.length c_row11_1) 54 k_Level.sz l_row11_1.length cs_row11_1, .blk b28 54 [.int .i64 x25, .int .i64 x27, .slice A_row56_2 l_row56_2.length c_row56_2], .row (.slice A_row56_2 l_row56_2.length c_row56_2) 3 kInt.sz l_row56_2.length cs_row56_2] [RE.rd kInt A1 cp2 a0.Low, RE.chunks k_Level cs_row11_1 l_row11_1, RE.rd kInt Ab5_2_1 cb5_2_1 b5_2_1, RE.chunks kInt cs_row56_2 l_row56_2] := H.below H2.base
       clear H2
       refine ⟨_, rfl, (Sep.holeR (Sep.holeL H 5) 3), ?_⟩
       show PR _ _ _ _ _ _ _ _
       refine PR_free (by rfl) (by rfl) (by rfl) (by exact wn0 rfl) (fun wS => (x_min4 (by rfl) (by rfl) (by rfl) (by rfl))) ?_
       refine PR_run (by rfl) (O_buildSlice (vs := [(0, .int .i64 (mn (mn (mn v45 v48) v51) v54))]) (cs := [.int .i64 (mn (mn (mn v45 v48) v51) v54)]) (by exact wn0 rfl) (by rfl) sl23 sz3 ze3 (by rfl) (by rfl) (by rfl) (by kernel_rfl) H (fun w57 b56 (H : Sep ok w w57 [.blk b5 54 [.int .i64 b5_0_1, .int .i64 b5_1_1, .slice Ab5_2_1 b5_2_1.length cb5_2_1], .blk b7 28 [.slice A_row11_1 l_row11_1.length c_row11_1], .blk b9 54 [.int .i64 a0.W, .int .i64 a0.H, .slice A1 a0.Low.length cp2], .row (.slice A_row11_1 l_row11_1.length c_row11_1) 54 k_Level.sz l_row11_1.length cs_row11_1, .blk b28 54 [.int .i64 x25, .int .i64 x27, .slice A_row56_2 l_row56_2.length c_row56_2], .row (.slice A_row56_2 l_row56_2.length c_row56_2) 3 kInt.sz l_row56_2.length cs_row56_2, .blk b56 3 [.int .i64 (mn (mn (mn v45 v48) v51) v54)]] [RE.rd kInt A1 cp2 a0.Low, RE.chunks k_Level cs_row11_1 l_row11_1, RE.rd kInt Ab5_2_1 cb5_2_1 b5_2_1, RE.chunks kInt cs_row56_2 l_row56_2]) => ⟨(Sep.holeR (Sep.holeL (Sep.takeL H 6) 5) 3), ?_⟩))
       obtain ⟨l62, hl63, hb64, hm⟩ := apd_some hm
       refine PR_run (by rfl) (O_append (D := kInt) (i := 5) (j := 3) (o := 0) (y := (mn (mn (mn v45 v48) v51) v54)) (by exact wn0 rfl) (by rfl) (by rfl) (by rfl) H (by rfl) (by rfl) (H.cells (i := 6) (by rfl)) rfl hl63 sl23 sz3 by3 ze3 (by rfl) (by rfl) hb64 (by rfl) (fun w58 A59 cp60 cs61 (H : Sep ok w w58 [.blk b5 54 [.int .i64 b5_0_1, .int .i64 b5_1_1, .slice Ab5_2_1 b5_2_1.length cb5_2_1], .blk b7 28 [.slice A_row11_1 l_row11_1.length c_row11_1], .blk b9 54 [.int .i64 a0.W, .int .i64 a0.H, .slice A1 a0.Low.length cp2], .row (.slice A_row11_1 l_row11_1.length c_row11_1) 54 k_Level.sz l_row11_1.length cs_row11_1, .blk b28 54 [.int .i64 x25, .int .i64 x27, .slice A_row56_2 l_row56_2.length c_row56_2], .row (.slice A59 l62.length cp60) 3 kInt.sz l62.length cs61, .blk b56 3 [.int .i64 (mn (mn (mn v45 v48) v51) v54)]] [RE.rd kInt A1 cp2 a0.Low, RE.chunks k_Level cs_row11_1 l_row11_1, RE.rd kInt Ab5_2_1 cb5_2_1 b5_2_1, RE.chunks kInt cs61 l62]) => ⟨(Sep.holeR (Sep.holeL (Sep.takeL H 6) 5) 3), ?_⟩))
       refine PR_free (by rfl) (by rfl) (by rfl) (by exact wn0 rfl) (fun wS => (x_fieldAddr fo54_2 (by rfl))) ?_
       refine PR_tail (by rfl) (O_store (i := 4) (off := 2) (by exact wn0 rfl) (by rfl) (by rfl) H (by rfl) (vs := [.slice A59 l62.length cp60]) (by rfl) sz23 (by rfl) (by rfl) (by rfl) (fun w65 (H : Sep ok w w65 [.blk b5 54 [.int .i64 b5_0_1, .int .i64 b5_1_1, .slice Ab5_2_1 b5_2_1.length cb5_2_1], .blk b7 28 [.slice A_row11_1 l_row11_1.length c_row11_1], .blk b9 54 [.int .i64 a0.W, .int .i64 a0.H, .slice A1 a0.Low.length cp2], .row (.slice A_row11_1 l_row11_1.length c_row11_1) 54 k_Level.sz l_row11_1.length cs_row11_1, .blk b28 54 [.int .i64 x25, .int .i64 x27, .slice A59 l62.length cp60], .row (.slice A59 l62.length cp60) 3 kInt.sz l62.length cs61, .blk b56 3 [.int .i64 (mn (mn (mn v45 v48) v51) v54)]] [RE.rd kInt A1 cp2 a0.Low, RE.chunks k_Level cs_row11_1 l_row11_1, RE.rd kInt Ab5_2_1 cb5_2_1 b5_2_1, RE.chunks kInt cs61 l62]) => ?_))
       refine PR_nil ?_
       refine W_region ?_
       obtain ⟨x66, ex66, qx66, ux66, hm⟩ := ck_some hm
       refine RL_pure (by exact wn0 rfl) (by rfl) (by rfl) (x_add (by rfl) (by rfl) ux66) ?_
       refine RL_pure (by exact wn0 rfl) (by rfl) (by rfl) (x_move (v := .int .i64 x66) (by rfl)) ?_
       refine RL_nil ?_
       subst hrec2
       exact ⟨k2, Nat.lt_succ_self k2, l62, x66, A_row11_1, c_row11_1, cs_row11_1, A59, cp60, cs61, Ab5_2_1, cb5_2_1, hm, ⟨rfl, rfl, rfl, rfl, rfl, trivial⟩, (H).takeL 6⟩
      ·have hm := cond_f hb hm
       refine W_exit ?_
       refine W_seq ?_
       refine W_region ?_
       refine RL_pure (by exact wn0 rfl) (by rfl) (by rfl) (x_loadA (j := 0) (vs := [.int .i64 x25, .int .i64 x27, .slice A_row56_2 l_row56_2.length c_row56_2]) ag54 (by rfl) (H.cells (i := 4) (by rfl)) (by rfl) (by rfl)) ?_
       refine RL_cons (O_store (i := 0) (off := 0) (by exact wn0 rfl) (by rfl) (by rfl) H (by rfl) (vs := [.int .i64 x25, .int .i64 x27, .slice A_row56_2 l_row56_2.length c_row56_2]) (by rfl) sz54 (by rfl) (by rfl) (by rfl) (fun w67 (H : Sep ok w w67 [.blk b5 54 [.int .i64 x25, .int .i64 x27, .slice A_row56_2 l_row56_2.length c_row56_2], .blk b7 28 [.slice A_row11_1 l_row11_1.length c_row11_1], .blk b9 54 [.int .i64 a0.W, .int .i64 a0.H, .slice A1 a0.Low.length cp2], .row (.slice A_row11_1 l_row11_1.length c_row11_1) 54 k_Level.sz l_row11_1.length cs_row11_1, .blk b28 54 [.int .i64 x25, .int .i64 x27, .slice A_row56_2 l_row56_2.length c_row56_2], .row (.slice A_row56_2 l_row56_2.length c_row56_2) 3 kInt.sz l_row56_2.length cs_row56_2] [RE.rd kInt A1 cp2 a0.Low, RE.chunks k_Level cs_row11_1 l_row11_1, RE.rd kInt Ab5_2_1 cb5_2_1 b5_2_1, RE.chunks kInt cs_row56_2 l_row56_2]) => ?_))
       refine RL_nil ?_
       refine W_region ?_
       refine RL_pure (by exact wn0 rfl) (by rfl) (by rfl) (x_fieldAddr fo28_0 (by rfl)) ?_
       refine RL_pure (by exact wn0 rfl) (by rfl) (by rfl) (x_load (j := 0) (v := .slice A_row11_1 l_row11_1.length c_row11_1) sc26 (by rfl) (H.cells (i := 1) (by rfl)) (by rfl)) ?_
       refine RL_pure (by exact wn0 rfl) (by rfl) (by rfl) (x_loadA (j := 0) (vs := [.int .i64 x25, .int .i64 x27, .slice A_row56_2 l_row56_2.length c_row56_2]) ag54 (by rfl) (H.cells (i := 0) (by rfl)) (by rfl) (by rfl)) ?_
       refine RL_cons (O_buildSlice (vs := [(0, .agg #[.int .i64 x25, .int .i64 x27, .slice A_row56_2 l_row56_2.length c_row56_2])]) (cs := [.int .i64 x25, .int .i64 x27, .slice A_row56_2 l_row56_2.length c_row56_2]) (by exact wn0 rfl) (by rfl) sl26 sz54 ze54 (by rfl) (by rfl) (by rfl) (by kernel_rfl) H (fun w69 b68 (H : Sep ok w w69 [.blk b5 54 [.int .i64 x25, .int .i64 x27, .slice A_row56_2 l_row56_2.length c_row56_2], .blk b7 28 [.slice A_row11_1 l_row11_1.length c_row11_1], .blk b9 54 [.int .i64 a0.W, .int .i64 a0.H, .slice A1 a0.Low.length cp2], .row (.slice A_row11_1 l_row11_1.length c_row11_1) 54 k_Level.sz l_row11_1.length cs_row11_1, .blk b28 54 [.int .i64 x25, .int .i64 x27, .slice A_row56_2 l_row56_2.length c_row56_2], .row (.slice A_row56_2 l_row56_2.length c_row56_2) 3 kInt.sz l_row56_2.length cs_row56_2, .blk b68 54 [.int .i64 x25, .int .i64 x27, .slice A_row56_2 l_row56_2.length c_row56_2]] [RE.rd kInt A1 cp2 a0.Low, RE.chunks k_Level cs_row11_1 l_row11_1, RE.rd kInt Ab5_2_1 cb5_2_1 b5_2_1, RE.chunks kInt cs_row56_2 l_row56_2]) => ?_))
       obtain ⟨l74, hl75, hb76, hm⟩ := apd_some hm
       have H : Sep ok w w69 [.blk b5 54 [.int .i64 x25, .int .i64 x27, .slice A_row56_2 l_row56_2.length c_row56_2], .blk b7 28 [.slice A_row11_1 l_row11_1.length c_row11_1], .blk b9 54 [.int .i64 a0.W, .int .i64 a0.H, .slice A1 a0.Low.length cp2], .row (.slice A_row11_1 l_row11_1.length c_row11_1) 54 k_Level.sz l_row11_1.length cs_row11_1, .blk b28 54 [.int .i64 x25, .int .i64 x27, .slice A_row56_2 l_row56_2.length c_row56_2], .hole, .blk b68 54 [.int .i64 x25, .int .i64 x27, .slice A_row56_2 l_row56_2.length c_row56_2]] [RE.rd kInt A1 cp2 a0.Low, RE.chunks k_Level cs_row11_1 l_row11_1, RE.rd kInt Ab5_2_1 cb5_2_1 b5_2_1, RE.rd kInt A_row56_2 c_row56_2 l_row56_2] := H.frozen (i := 5) (j := 3) (by rfl) (by rfl)
       refine RL_cons (O_append (D := k_Level) (i := 3) (j := 1) (o := 0) (y := (⟨x25, x27, l_row56_2⟩ : S_Level)) (by exact wn0 rfl) (by rfl) (by rfl) (by rfl) H (by rfl) (by rfl) (H.cells (i := 6) (by rfl)) (by exact ⟨A_row56_2, c_row56_2, rfl, H.rd (i := 3) (by rfl)⟩) hl75 sl26 sz54 by54 ze54 (by rfl) (by rfl) hb76 (by rfl) (fun w70 A71 cp72 cs73 (H : Sep ok w w70 [.blk b5 54 [.int .i64 x25, .int .i64 x27, .slice A_row56_2 l_row56_2.length c_row56_2], .blk b7 28 [.slice A_row11_1 l_row11_1.length c_row11_1], .blk b9 54 [.int .i64 a0.W, .int .i64 a0.H, .slice A1 a0.Low.length cp2], .row (.slice A71 l74.length cp72) 54 k_Level.sz l74.length cs73, .blk b28 54 [.int .i64 x25, .int .i64 x27, .slice A_row56_2 l_row56_2.length c_row56_2], .hole, .blk b68 54 [.int .i64 x25, .int .i64 x27, .slice A_row56_2 l_row56_2.length c_row56_2]] [RE.rd kInt A1 cp2 a0.Low, RE.chunks k_Level cs73 l74, RE.rd kInt Ab5_2_1 cb5_2_1 b5_2_1, RE.rd kInt A_row56_2 c_row56_2 l_row56_2]) => ?_))
       refine RL_pure (by exact wn0 rfl) (by rfl) (by rfl) (x_fieldAddr fo28_0 (by rfl)) ?_
       refine RL_cons (O_store (i := 1) (off := 0) (by exact wn0 rfl) (by rfl) (by rfl) H (by rfl) (vs := [.slice A71 l74.length cp72]) (by rfl) sz26 (by rfl) (by rfl) (by rfl) (fun w77 (H : Sep ok w w77 [.blk b5 54 [.int .i64 x25, .int .i64 x27, .slice A_row56_2 l_row56_2.length c_row56_2], .blk b7 28 [.slice A71 l74.length cp72], .blk b9 54 [.int .i64 a0.W, .int .i64 a0.H, .slice A1 a0.Low.length cp2], .row (.slice A71 l74.length cp72) 54 k_Level.sz l74.length cs73, .blk b28 54 [.int .i64 x25, .int .i64 x27, .slice A_row56_2 l_row56_2.length c_row56_2], .hole, .blk b68 54 [.int .i64 x25, .int .i64 x27, .slice A_row56_2 l_row56_2.length c_row56_2]] [RE.rd kInt A1 cp2 a0.Low, RE.chunks k_Level cs73 l74, RE.rd kInt Ab5_2_1 cb5_2_1 b5_2_1, RE.rd kInt A_row56_2 c_row56_2 l_row56_2]) => ?_))
       refine RL_nil ?_
       subst hrec1
       exact ⟨k1, Nat.lt_succ_self k1, l74, x25, x27, l_row56_2, A71, cp72, cs73, A_row56_2, c_row56_2, hm, ⟨rfl, rfl, trivial⟩, ((H).takeL 4).pick [0, 1, 3]⟩
   ·have hm := cond_f hb hm
    refine W_exit ?_
    refine W_seq ?_
    refine W_region ?_
    refine RL_pure (by exact wn0 rfl) (by rfl) (by rfl) (x_loadA (j := 0) (vs := [.slice A_row11_1 l_row11_1.length c_row11_1]) ag28 (by rfl) (H.cells (i := 1) (by rfl)) (by rfl) (by rfl)) ?_
    refine RL_cons (O_store (i := 1) (off := 0) (by exact wn0 rfl) (by rfl) (by rfl) H (by rfl) (vs := [.slice A_row11_1 l_row11_1.length c_row11_1]) (by rfl) sz28 (by rfl) (by rfl) (by rfl) (fun w78 (H : Sep ok w w78 [.blk b5 54 [.int .i64 b5_0_1, .int .i64 b5_1_1, .slice Ab5_2_1 b5_2_1.length cb5_2_1], .blk b7 28 [.slice A_row11_1 l_row11_1.length c_row11_1], .blk b9 54 [.int .i64 a0.W, .int .i64 a0.H, .slice A1 a0.Low.length cp2], .row (.slice A_row11_1 l_row11_1.length c_row11_1) 54 k_Level.sz l_row11_1.length cs_row11_1] [RE.rd kInt A1 cp2 a0.Low, RE.chunks k_Level cs_row11_1 l_row11_1, RE.rd kInt Ab5_2_1 cb5_2_1 b5_2_1]) => ?_))
    refine RL_nil ?_
    refine W_ret ?_
    have H : Sep ok w w78 [.blk b5 54 [.int .i64 b5_0_1, .int .i64 b5_1_1, .slice Ab5_2_1 b5_2_1.length cb5_2_1], .blk b7 28 [.slice A_row11_1 l_row11_1.length c_row11_1], .blk b9 54 [.int .i64 a0.W, .int .i64 a0.H, .slice A1 a0.Low.length cp2], .hole] [RE.rd kInt A1 cp2 a0.Low, RE.rd k_Level A_row11_1 c_row11_1 l_row11_1, RE.rd kInt Ab5_2_1 cb5_2_1 b5_2_1] := H.frozen (i := 3) (j := 1) (by rfl) (by rfl)
    obtain rfl := Option.some.inj hm
    exact ⟨[.agg #[.slice A_row11_1 l_row11_1.length c_row11_1]], (.cellA (by rfl) ag28 (H.cells (i := 1) (by rfl)) (by rfl) rfl), A_row11_1, c_row11_1, rfl, (H.forgetAll).pick [1]⟩
end Go.Proofs.YtobkigllalbkiaaV.M

/- A plain Lean function that answers as the Go function does (none: not told), and the proof that a call answers so. Written by program. -/
set_option linter.unusedVariables false
namespace Go.Proofs.YtobkigllalbkiaaV.M
open Go.RowKit Go.Proofs.YtobkigllalbkiaaV
def m63_l1b (K : Nat) (a0 : (List Int)) (rec1 : Int → Int → Option (Int)) (y3_1 : Int) (y4_1 : Int) : Option (Int) :=
 (bif (decide (y4_1 < (a0.length : Int))) then (idx a0 y4_1 fun el14 => (ck (y4_1 + 1) fun x21 => (rec1 (mn y3_1 el14) x21))) else some y3_1)
def m63_l1 (K : Nat) (a0 : (List Int)) : Nat → Int → Int → Option (Int)
 | 0 => fun _ _ => none
 | k + 1 => m63_l1b K a0 (m63_l1 K a0 k)
/-- slices.Min(()int,int) -/
def m63 (K : Nat) (a0 : (List Int)) : Option (Int) :=
 (bif (decide ((a0.length : Int) < 1)) then none else (idx a0 0 fun el5 => m63_l1 K a0 K el5 1))
set_option maxRecDepth 100000 in
set_option maxHeartbeats 4000000 in
theorem c63 (ok : Okp) (K : Nat) (w : World) (a0 : (List Int)) (A1 : Option Addr) (cp2 : Nat) (hR3 : Rd kInt w ok A1 cp2 a0) (res : Int) (hm : m63 K a0 = some res) :
  Calls Try.prog 63 #[.slice A1 a0.length cp2] w (fun e w' => e = .returned (tup [.int .i64 res]) ∧ Sep ok w w' [] []) := by
 refine calls_W (args := [.slice A1 a0.length cp2]) Try.func63 rfl Try.ntmps63 Try.results63 rfl fun r hr => ?_
 obtain ⟨r1, rfl⟩ := regen (r := r) [(0, .slice A1 a0.length cp2)] ⟨hr 0 _ rfl, trivial⟩
 have H : Sep ok w w [] [RE.rd kInt A1 cp2 a0] := Sep.arg (Sep.start ok w) (re := RE.rd kInt A1 cp2 a0) rfl rfl hR3
 unfold m63 at hm
 refine W_seq ?_
 refine W_region ?_
 refine RL_pure (by exact wn0 rfl) (by rfl) (by rfl) (x_assign (v := .int .i64 0) (by rfl)) ?_
 refine RL_nil ?_
 refine W_seq ?_
 refine W_seq ?_
 refine W_region ?_
 refine RL_pure (by exact wn0 rfl) (by rfl) (by rfl) (x_move (v := .slice A1 a0.length cp2) (by rfl)) ?_
 refine RL_pure (by exact wn0 rfl) (by rfl) (by rfl) (x_len sl23 (by rfl)) ?_
 refine RL_pure (by exact wn0 rfl) (by rfl) (by rfl) (x_lss (by rfl) (by rfl)) ?_
 refine RL_nil ?_
 refine W_cond (by rfl) (fun hb => ?_) (fun hb => ?_)
 ·have hm := cond_t hb hm
  exact (none_some hm).elim
 ·have hm := cond_f hb hm
  refine W_skip ?_
  refine W_seq ?_
  refine W_region ?_
  refine RL_pure (by exact wn0 rfl) (by rfl) (by rfl) (x_move (v := .slice A1 a0.length cp2) (by rfl)) ?_
  obtain ⟨el5, h6, h7, he8, hm⟩ := idx_some hm
  obtain ⟨g10, o11, hA9⟩ := (H.rd (i := 0) (by rfl)).addr he8
  refine RL_pure (by exact wn0 rfl) (by rfl) (by rfl) (x_indexAddr sl23 sz3 (by rfl) (by rfl) hA9 h6 h7) ?_
  refine RL_pure (by exact wn0 rfl) (by rfl) (by rfl) (x_load (j := 0) (v := .int .i64 el5) sc3 (by rfl) (Rd.flatAt (n := 1) (H.rd (i := 0) (by rfl)) hA9 he8) (by rfl)) ?_
  refine RL_pure (by exact wn0 rfl) (by rfl) (by rfl) (x_assign (v := .int .i64 el5) (by rfl)) ?_
  refine RL_nil ?_
  refine W_seq ?_
  refine W_seq ?_
  refine W_region ?_
  refine RL_pure (by exact wn0 rfl) (by rfl) (by rfl) (x_assign (v := .int .i64 1) (by rfl)) ?_
  refine RL_nil ?_
  refine W_block ?_
  refine W_loop (fun k1 r' w' => ∃ (y3_1 : Int), ∃ (y4_1 : Int), m63_l1 K a0 k1 y3_1 y4_1 = some res ∧ Agr [(0, .slice A1 a0.length cp2), (3, .int .i64 y3_1), (4, .int .i64 y4_1)] r' ∧ Sep ok w w' [] [RE.rd kInt A1 cp2 a0]) K ?_ ?_
  ·exact ⟨el5, 1, hm, ⟨rfl, rfl, rfl, trivial⟩, H⟩
  ·rintro k1 r' w' ⟨y3_1, y4_1, hm, hA, H⟩
   obtain ⟨r12, rfl⟩ := regen _ hA; clear hA
   obtain ⟨w13, rfl⟩ : ∃ W : World, W = w' := ⟨_, rfl⟩
   cases k1 with
   | zero => exact (none_some hm).elim
   | succ k1 =>
    have hm : m63_l1b K a0 (m63_l1 K a0 k1) y3_1 y4_1 = some res := hm
    unfold m63_l1b at hm
    obtain ⟨rec1, hrec1⟩ : ∃ f, m63_l1 K a0 k1 = f := ⟨_, rfl⟩
    rw [hrec1] at hm
    refine W_seq ?_
    refine W_seq ?_
    refine W_region ?_
    refine RL_pure (by exact wn0 rfl) (by rfl) (by rfl) (x_move (v := .int .i64 y4_1) (by rfl)) ?_
    refine RL_pure (by exact wn0 rfl) (by rfl) (by rfl) (x_move (v := .slice A1 a0.length cp2) (by rfl)) ?_
    refine RL_pure (by exact wn0 rfl) (by rfl) (by rfl) (x_len sl23 (by rfl)) ?_
    refine RL_pure (by exact wn0 rfl) (by rfl) (by rfl) (x_lss (by rfl) (by rfl)) ?_
    refine RL_nil ?_
    refine W_cond (by rfl) (fun hb => ?_) (fun hb => ?_)
    ·have hm := cond_t hb hm
     refine W_skip ?_
     refine W_seq ?_
     refine W_block ?_
     refine W_region ?_
     refine RL_pure (by exact wn0 rfl) (by rfl) (by rfl) (x_move (v := .int .i64 y3_1) (by rfl)) ?_
     refine RL_pure (by exact wn0 rfl) (by rfl) (by rfl) (x_move (v := .slice A1 a0.length cp2) (by rfl)) ?_
     refine RL_pure (by exact wn0 rfl) (by rfl) (by rfl) (x_move (v := .int .i64 y4_1) (by rfl)) ?_
     obtain ⟨el14, h15, h16, he17, hm⟩ := idx_some hm
     obtain ⟨g19, o20, hA18⟩ := (H.rd (i := 0) (by rfl)).addr he17
     refine RL_pure (by exact wn0 rfl) (by rfl) (by rfl) (x_indexAddr sl23 sz3 (by rfl) (by rfl) hA18 h15 h16) ?_
     refine RL_pure (by exact wn0 rfl) (by rfl) (by rfl) (x_load (j := 0) (v := .int .i64 el14) sc3 (by rfl) (Rd.flatAt (n := 1) (H.rd (i := 0) (by rfl)) hA18 he17) (by rfl)) ?_
     refine RL_pure (by exact wn0 rfl) (by rfl) (by rfl) (x_min2 (by rfl) (by rfl)) ?_
     refine RL_pure (by exact wn0 rfl) (by rfl) (by rfl) (x_assign (v := .int .i64 (mn y3_1 el14)) (by rfl)) ?_
     refine RL_nil ?_
     refine W_region ?_
     refine RL_pure (by exact wn0 rfl) (by rfl) (by rfl) (x_move (v := .int .i64 y4_1) (by rfl)) ?_
     obtain ⟨x21, ex21, qx21, ux21, hm⟩ := ck_some hm
     refine RL_pure (by exact wn0 rfl) (by rfl) (by rfl) (x_add (by rfl) (by rfl) ux21) ?_
     refine RL_pure (by exact wn0 rfl) (by rfl) (by rfl) (x_assign (v := .int .i64 x21) (by rfl)) ?_
     refine RL_nil ?_
     subst hrec1
     exact ⟨k1, Nat.lt_succ_self k1, (mn y3_1 el14), x21, hm, ⟨rfl, rfl, rfl, trivial⟩, H⟩
    ·have hm := cond_f hb hm
     refine W_exit ?_
     refine W_seq ?_
     refine W_region ?_
     refine RL_pure (by exact wn0 rfl) (by rfl) (by rfl) (x_move (v := .int .i64 y3_1) (by rfl)) ?_
     refine RL_pure (by exact wn0 rfl) (by rfl) (by rfl) (x_assign (v := .int .i64 y3_1) (by rfl)) ?_
     refine RL_nil ?_
     refine W_ret ?_
     obtain rfl := Option.some.inj hm
     exact ⟨[.int .i64 y3_1], (.tmp (by rfl) rfl), rfl, H.none_⟩
end Go.Proofs.YtobkigllalbkiaaV.M

/- A plain Lean function that answers as the Go function does (none: not told), and the proof that a call answers so. Written by program. -/
set_option linter.unusedVariables false
namespace Go.Proofs.YtobkigllalbkiaaV.M
open Go.RowKit Go.Proofs.YtobkigllalbkiaaV
def m64_l1b (K : Nat) (a0 : (List Int)) (rec1 : Int → Int → Option (Int)) (y3_1 : Int) (y4_1 : Int) : Option (Int) :=
 (bif (decide (y4_1 < (a0.length : Int))) then (idx a0 y4_1 fun el14 => (ck (y4_1 + 1) fun x21 => (rec1 (mx y3_1 el14) x21))) else some y3_1)
def m64_l1 (K : Nat) (a0 : (List Int)) : Nat → Int → Int → Option (Int)
 | 0 => fun _ _ => none
 | k + 1 => m64_l1b K a0 (m64_l1 K a0 k)
/-- slices.Max(()int,int) -/
def m64 (K : Nat) (a0 : (List Int)) : Option (Int) :=
 (bif (decide ((a0.length : Int) < 1)) then none else (idx a0 0 fun el5 => m64_l1 K a0 K el5 1))
set_option maxRecDepth 100000 in
set_option maxHeartbeats 4000000 in
theorem c64 (ok : Okp) (K : Nat) (w : World) (a0 : (List Int)) (A1 : Option Addr) (cp2 : Nat) (hR3 : Rd kInt w ok A1 cp2 a0) (res : Int) (hm : m64 K a0 = some res) :
  Calls Try.prog 64 #[.slice A1 a0.length cp2] w (fun e w' => e = .returned (tup [.int .i64 res]) ∧ Sep ok w w' [] []) := by
 refine calls_W (args := [.slice A1 a0.length cp2]) Try.func64 rfl Try.ntmps64 Try.results64 rfl fun r hr => ?_
 obtain ⟨r1, rfl⟩ := regen (r := r) [(0, .slice A1 a0.length cp2)] ⟨hr 0 _ rfl, trivial⟩
 have H : Sep ok w w [] [RE.rd kInt A1 cp2 a0] := Sep.arg (Sep.start ok w) (re := RE.rd kInt A1 cp2 a0) rfl rfl hR3
 unfold m64 at hm
 refine W_seq ?_
 refine W_region ?_
 refine RL_pure (by exact wn0 rfl) (by rfl) (by rfl) (x_assign (v := .int .i64 0) (by rfl)) ?_
 refine RL_nil ?_
 refine W_seq ?_
 refine W_seq ?_
 refine W_region ?_
 refine RL_pure (by exact wn0 rfl) (by rfl) (by rfl) (x_move (v := .slice A1 a0.length cp2) (by rfl)) ?_
 refine RL_pure (by exact wn0 rfl) (by rfl) (by rfl) (x_len sl23 (by rfl)) ?_
 refine RL_pure (by exact wn0 rfl) (by rfl) (by rfl) (x_lss (by rfl) (by rfl)) ?_
 refine RL_nil ?_
 refine W_cond (by rfl) (fun hb => ?_) (fun hb => ?_)
 ·have hm := cond_t hb hm
  exact (none_some hm).elim
 ·have hm := cond_f hb hm
  refine W_skip ?_
  refine W_seq ?_
  refine W_region ?_
  refine RL_pure (by exact wn0 rfl) (by rfl) (by rfl) (x_move (v := .slice A1 a0.length cp2) (by rfl)) ?_
  obtain ⟨el5, h6, h7, he8, hm⟩ := idx_some hm
  obtain ⟨g10, o11, hA9⟩ := (H.rd (i := 0) (by rfl)).addr he8
  refine RL_pure (by exact wn0 rfl) (by rfl) (by rfl) (x_indexAddr sl23 sz3 (by rfl) (by rfl) hA9 h6 h7) ?_
  refine RL_pure (by exact wn0 rfl) (by rfl) (by rfl) (x_load (j := 0) (v := .int .i64 el5) sc3 (by rfl) (Rd.flatAt (n := 1) (H.rd (i := 0) (by rfl)) hA9 he8) (by rfl)) ?_
  refine RL_pure (by exact wn0 rfl) (by rfl) (by rfl) (x_assign (v := .int .i64 el5) (by rfl)) ?_
  refine RL_nil ?_
  refine W_seq ?_
  refine W_seq ?_
  refine W_region ?_
  refine RL_pure (by exact wn0 rfl) (by rfl) (by rfl) (x_assign (v := .int .i64 1) (by rfl)) ?_
  refine RL_nil ?_
  refine W_block ?_
  refine W_loop (fun k1 r' w' => ∃ (y3_1 : Int), ∃ (y4_1 : Int), m64_l1 K a0 k1 y3_1 y4_1 = some res ∧ Agr [(0, .slice A1 a0.length cp2), (3, .int .i64 y3_1), (4, .int .i64 y4_1)] r' ∧ Sep ok w w' [] [RE.rd kInt A1 cp2 a0]) K ?_ ?_
  ·exact ⟨el5, 1, hm, ⟨rfl, rfl, rfl, trivial⟩, H⟩
  ·rintro k1 r' w' ⟨y3_1, y4_1, hm, hA, H⟩
   obtain ⟨r12, rfl⟩ := regen _ hA; clear hA
   obtain ⟨w13, rfl⟩ : ∃ W : World, W = w' := ⟨_, rfl⟩
   cases k1 with
   | zero => exact (none_some hm).elim
   | succ k1 =>
    have hm : m64_l1b K a0 (m64_l1 K a0 k1) y3_1 y4_1 = some res := hm
    unfold m64_l1b at hm
    obtain ⟨rec1, hrec1⟩ : ∃ f, m64_l1 K a0 k1 = f := ⟨_, rfl⟩
    rw [hrec1] at hm
    refine W_seq ?_
    refine W_seq ?_
    refine W_region ?_
    refine RL_pure (by exact wn0 rfl) (by rfl) (by rfl) (x_move (v := .int .i64 y4_1) (by rfl)) ?_
    refine RL_pure (by exact wn0 rfl) (by rfl) (by rfl) (x_move (v := .slice A1 a0.length cp2) (by rfl)) ?_
    refine RL_pure (by exact wn0 rfl) (by rfl) (by rfl) (x_len sl23 (by rfl)) ?_
    refine RL_pure (by exact wn0 rfl) (by rfl) (by rfl) (x_lss (by rfl) (by rfl)) ?_
    refine RL_nil ?_
    refine W_cond (by rfl) (fun hb => ?_) (fun hb => ?_)
    ·have hm := cond_t hb hm
     refine W_skip ?_
     refine W_seq ?_
     refine W_block ?_
     refine W_region ?_
     refine RL_pure (by exact wn0 rfl) (by rfl) (by rfl) (x_move (v := .int .i64 y3_1) (by rfl)) ?_
     refine RL_pure (by exact wn0 rfl) (by rfl) (by rfl) (x_move (v := .slice A1 a0.length cp2) (by rfl)) ?_
     refine RL_pure (by exact wn0 rfl) (by rfl) (by rfl) (x_move (v := .int .i64 y4_1) (by rfl)) ?_
     obtain ⟨el14, h15, h16, he17, hm⟩ := idx_some hm
     obtain ⟨g19, o20, hA18⟩ := (H.rd (i := 0) (by rfl)).addr he17
     refine RL_pure (by exact wn0 rfl) (by rfl) (by rfl) (x_indexAddr sl23 sz3 (by rfl) (by rfl) hA18 h15 h16) ?_
     refine RL_pure (by exact wn0 rfl) (by rfl) (by rfl) (x_load (j := 0) (v := .int .i64 el14) sc3 (by rfl) (Rd.flatAt (n := 1) (H.rd (i := 0) (by rfl)) hA18 he17) (by rfl)) ?_
     refine RL_pure (by exact wn0 rfl) (by rfl) (by rfl) (x_max2 (by rfl) (by rfl)) ?_
     refine RL_pure (by exact wn0 rfl) (by rfl) (by rfl) (x_assign (v := .int .i64 (mx y3_1 el14)) (by rfl)) ?_
     refine RL_nil ?_
     refine W_region ?_
     refine RL_pure (by exact wn0 rfl) (by rfl) (by rfl) (x_move (v := .int .i64 y4_1) (by rfl)) ?_
     obtain ⟨x21, ex21, qx21, ux21, hm⟩ := ck_some hm
     refine RL_pure (by exact wn0 rfl) (by rfl) (by rfl) (x_add (by rfl) (by rfl) ux21) ?_
     refine RL_pure (by exact wn0 rfl) (by rfl) (by rfl) (x_assign (v := .int .i64 x21) (by rfl)) ?_
     refine RL_nil ?_
     subst hrec1
     exact ⟨k1, Nat.lt_succ_self k1, (mx y3_1 el14), x21, hm, ⟨rfl, rfl, rfl, trivial⟩, H⟩
    ·have hm := cond_f hb hm
     refine W_exit ?_
     refine W_seq ?_
     refine W_region ?_
     refine RL_pure (by exact wn0 rfl) (by rfl) (by rfl) (x_move (v := .int .i64 y3_1) (by rfl)) ?_
     refine RL_pure (by exact wn0 rfl) (by rfl) (by rfl) (x_assign (v := .int .i64 y3_1) (by rfl)) ?_
     refine RL_nil ?_
     refine W_ret ?_
     obtain rfl := Option.some.inj hm
     exact ⟨[.int .i64 y3_1], (.tmp (by rfl) rfl), rfl, H.none_⟩
end Go.Proofs.YtobkigllalbkiaaV.M

/- A plain Lean function that answers as the Go function does (none: not told), and the proof that a call answers so. Written by program. -/
set_option linter.unusedVariables false
namespace Go.Proofs.YtobkigllalbkiaaV.M
open Go.RowKit Go.Proofs.YtobkigllalbkiaaV
def m78_l1b (K : Nat) (a0 : (List Int)) (a1 : (List Int)) (rec1 : Int → Option (Bool)) (y13_1 : Int) : Option (Bool) :=
 (bif (decide (y13_1 < (a0.length : Int))) then (idx a0 y13_1 fun el12 => (idx a1 y13_1 fun el19 => (bif (el12 != el19) then some false else (ck (y13_1 + 1) fun x26 => (rec1 x26))))) else some true)
def m78_l1 (K : Nat) (a0 : (List Int)) (a1 : (List Int)) : Nat → Int → Option (Bool)
 | 0 => fun _ => none
 | k + 1 => m78_l1b K a0 a1 (m78_l1 K a0 a1 k)
/-- slices.Equal(()int,int) -/
def m78 (K : Nat) (a0 : (List Int)) (a1 : (List Int)) : Option (Bool) :=
 (bif ((a0.length : Int) != (a1.length : Int)) then some false else m78_l1 K a0 a1 K 0)
set_option maxRecDepth 100000 in
set_option maxHeartbeats 4000000 in
theorem c78 (ok : Okp) (K : Nat) (w : World) (a0 : (List Int)) (A1 : Option Addr) (cp2 : Nat) (a1 : (List Int)) (A5 : Option Addr) (cp6 : Nat) (hR3 : Rd kInt w ok A1 cp2 a0) (hR7 : Rd kInt w ok A5 cp6 a1) (res : Bool) (hm : m78 K a0 a1 = some res) :
  Calls Try.prog 78 #[.slice A1 a0.length cp2, .slice A5 a1.length cp6] w (fun e w' => e = .returned (tup [.bool res]) ∧ Sep ok w w' [] []) := by
 refine calls_W (args := [.slice A1 a0.length cp2, .slice A5 a1.length cp6]) Try.func78 rfl Try.ntmps78 Try.results78 rfl fun r hr => ?_
 obtain ⟨r1, rfl⟩ := regen (r := r) [(0, .slice A1 a0.length cp2), (1, .slice A5 a1.length cp6)] ⟨hr 0 _ rfl, hr 1 _ rfl, trivial⟩
 have H : Sep ok w w [] [RE.rd kInt A1 cp2 a0, RE.rd kInt A5 cp6 a1] := Sep.arg (Sep.arg (Sep.start ok w) (re := RE.rd kInt A1 cp2 a0) rfl rfl hR3) (re := RE.rd kInt A5 cp6 a1) rfl rfl hR7
 unfold m78 at hm
 refine W_seq ?_
 refine W_region ?_
 refine RL_pure (by exact wn0 rfl) (by rfl) (by rfl) (x_assign (v := .bool false) (by rfl)) ?_
 refine RL_nil ?_
 refine W_seq ?_
 refine W_seq ?_
 refine W_region ?_
 refine RL_pure (by exact wn0 rfl) (by rfl) (by rfl) (x_move (v := .slice A1 a0.length cp2) (by rfl)) ?_
 refine RL_pure (by exact wn0 rfl) (by rfl) (by rfl) (x_len sl23 (by rfl)) ?_
 refine RL_pure (by exact wn0 rfl) (by rfl) (by rfl) (x_move (v := .slice A5 a1.length cp6) (by rfl)) ?_
 refine RL_pure (by exact wn0 rfl) (by rfl) (by rfl) (x_len sl23 (by rfl)) ?_
 refine RL_pure (by exact wn0 rfl) (by rfl) (by rfl) (x_neq (by rfl) (by rfl)) ?_
 refine RL_nil ?_
 refine W_cond (by rfl) (fun hb => ?_) (fun hb => ?_)
 ·have hm := cond_t hb hm
  refine W_seq ?_
  refine W_region ?_
  refine RL_pure (by exact wn0 rfl) (by rfl) (by rfl) (x_assign (v := .bool false) (by rfl)) ?_
  refine RL_nil ?_
  refine W_ret ?_
  obtain rfl := Option.some.inj hm
  exact ⟨[.bool false], (.tmp (by rfl) rfl), rfl, H.none_⟩
 ·have hm := cond_f hb hm
  refine W_skip ?_
  refine W_seq ?_
  refine W_seq ?_
  refine W_region ?_
  refine RL_pure (by exact wn0 rfl) (by rfl) (by rfl) (x_move (v := .slice A1 a0.length cp2) (by rfl)) ?_
  refine RL_pure (by exact wn0 rfl) (by rfl) (by rfl) (x_len sl23 (by rfl)) ?_
  refine RL_pure (by exact wn0 rfl) (by rfl) (by rfl) (x_move (v := .int .i64 0) (by rfl)) ?_
  refine RL_nil ?_
  refine W_block ?_
  refine W_loop (fun k1 r' w' => ∃ (y13_1 : Int), m78_l1 K a0 a1 k1 y13_1 = some res ∧ Agr [(0, .slice A1 a0.length cp2), (1, .slice A5 a1.length cp6), (12, .int .i64 (a0.length : Int)), (13, .int .i64 y13_1)] r' ∧ Sep ok w w' [] [RE.rd kInt A1 cp2 a0, RE.rd kInt A5 cp6 a1]) K ?_ ?_
  ·exact ⟨0, hm, ⟨rfl, rfl, rfl, rfl, trivial⟩, H⟩
  ·rintro k1 r' w' ⟨y13_1, hm, hA, H⟩
   obtain ⟨r9, rfl⟩ := regen _ hA; clear hA
   obtain ⟨w10, rfl⟩ : ∃ W : World, W = w' := ⟨_, rfl⟩
   cases k1 with
   | zero => exact (none_some hm).elim
   | succ k1 =>
    have hm : m78_l1b K a0 a1 (m78_l1 K a0 a1 k1) y13_1 = some res := hm
    unfold m78_l1b at hm
    obtain ⟨rec1, hrec1⟩ : ∃ f, m78_l1 K a0 a1 k1 = f := ⟨_, rfl⟩
    rw [hrec1] at hm
    refine W_seq ?_
    refine W_region ?_
    refine RL_pure (by exact wn0 rfl) (by rfl) (by rfl) (x_lss (by rfl) (by rfl)) ?_
    refine RL_nil ?_
    refine W_seq ?_
    refine W_cond (by rfl) (fun hb => ?_) (fun hb => ?_)
    ·have hm := cond_t hb hm
     refine W_skip ?_
     refine W_seq ?_
     refine W_block ?_
     refine W_seq ?_
     refine W_region ?_
     refine RL_pure (by exact wn0 rfl) (by rfl) (by rfl) (x_move (v := .int .i64 y13_1) (by rfl)) ?_
     refine RL_pure (by exact wn0 rfl) (by rfl) (by rfl) (x_assign (v := .int .i64 y13_1) (by rfl)) ?_
     refine RL_nil ?_
     refine W_seq ?_
     refine W_draw [.free 0, .free 1, .free 2, .take 3, .free 4, .free 5, .free 6, .take 7, .free 8] (fun wS => Sep ok w wS [] [RE.rd kInt A1 cp2 a0, RE.rd kInt A5 cp6 a1]) [] [0, 1, 2, 4, 5, 6, 8] mixed0 (by kernel_rfl) (by kernel_rfl) (by kernel_rfl) (by rfl) (by exact H.drew) ?_
     obtain ⟨w11, hW⟩ : ∃ W : World, W = { w10 with drawn := w10.drawn + 1 } := ⟨_, rfl⟩
     rw [← hW]
     have H : Sep ok w w11 [] [RE.rd kInt A1 cp2 a0, RE.rd kInt A5 cp6 a1] := by rw [hW]; exact H.drew
     clear hW
     refine PR_free (by rfl) (by rfl) (by rfl) (by exact wn0 rfl) (fun wS => (x_move (v := .slice A1 a0.length cp2) (by rfl))) ?_
     refine PR_free (by rfl) (by rfl) (by rfl) (by exact wn0 rfl) (fun wS => (x_move (v := .int .i64 y13_1) (by rfl))) ?_
     obtain ⟨el12, h13, h14, he15, hm⟩ := idx_some hm
     obtain ⟨g17, o18, hA16⟩ := (H.rd (i := 0) (by rfl)).addr he15
     refine PR_free (by rfl) (by rfl) (by rfl) (by exact wn0 rfl) (fun wS => (x_indexAddr sl23 sz3 (by rfl) (by rfl) hA16 h13 h14)) ?_
     refine PR_take (by rfl) (by rfl) (by rfl) (by exact wn0 rfl) (fun wS (H : Sep ok w wS [] [RE.rd kInt A1 cp2 a0, RE.rd kInt A5 cp6 a1]) => (x_load (j := 0) (v := .int .i64 el12) sc3 (by rfl) (Rd.flatAt (n := 1) (H.rd (i := 0) (by rfl)) hA16 he15) (by rfl))) ?_
     refine PR_free (by rfl) (by rfl) (by rfl) (by exact wn0 rfl) (fun wS => (x_move (v := .slice A5 a1.length cp6) (by rfl))) ?_
     refine PR_free (by rfl) (by rfl) (by rfl) (by exact wn0 rfl) (fun wS => (x_move (v := .int .i64 y13_1) (by rfl))) ?_
     obtain ⟨el19, h20, h21, he22, hm⟩ := idx_some hm
     obtain ⟨g24, o25, hA23⟩ := (H.rd (i := 1) (by rfl)).addr he22
     refine PR_free (by rfl) (by rfl) (by rfl) (by exact wn0 rfl) (fun wS => (x_indexAddr sl23 sz3 (by rfl) (by rfl) hA23 h20 h21)) ?_
     refine PR_take (by rfl) (by rfl) (by rfl) (by exact wn0 rfl) (fun wS (H : Sep ok w wS [] [RE.rd kInt A1 cp2 a0, RE.rd kInt A5 cp6 a1]) => (x_load (j := 0) (v := .int .i64 el19) sc3 (by rfl) (Rd.flatAt (n := 1) (H.rd (i := 1) (by rfl)) hA23 he22) (by rfl))) ?_
     refine PR_free (by rfl) (by rfl) (by rfl) (by exact wn0 rfl) (fun wS => (x_neq (by rfl) (by rfl))) ?_
     refine PR_nil ?_
     refine W_cond (by rfl) (fun hb => ?_) (fun hb => ?_)
     ·have hm := cond_t hb hm
      refine W_seq ?_
      refine W_region ?_
      refine RL_pure (by exact wn0 rfl) (by rfl) (by rfl) (x_assign (v := .bool false) (by rfl)) ?_
      refine RL_nil ?_
      refine W_ret ?_
      obtain rfl := Option.some.inj hm
      exact ⟨[.bool false], (.tmp (by rfl) rfl), rfl, H.none_⟩
     ·have hm := cond_f hb hm
      refine W_skip ?_
      refine W_region ?_
      obtain ⟨x26, ex26, qx26, ux26, hm⟩ := ck_some hm
      refine RL_pure (by exact wn0 rfl) (by rfl) (by rfl) (x_add (by rfl) (by rfl) ux26) ?_
      refine RL_pure (by exact wn0 rfl) (by rfl) (by rfl) (x_move (v := .int .i64 x26) (by rfl)) ?_
      refine RL_nil ?_
      subst hrec1
      exact ⟨k1, Nat.lt_succ_self k1, x26, hm, ⟨rfl, rfl, rfl, rfl, trivial⟩, H⟩
    ·have hm := cond_f hb hm
     refine W_exit ?_
     refine W_seq ?_
     refine W_region ?_
     refine RL_pure (by exact wn0 rfl) (by rfl) (by rfl) (x_assign (v := .bool true) (by rfl)) ?_
     refine RL_nil ?_
     refine W_ret ?_
     obtain rfl := Option.some.inj hm
     exact ⟨[.bool true], (.tmp (by rfl) rfl), rfl, H.none_⟩
end Go.Proofs.YtobkigllalbkiaaV.M

/- A plain Lean function that answers as the Go function does (none: not told), and the proof that a call answers so. Written by program. -/
set_option linter.unusedVariables false
namespace Go.Proofs.YtobkigllalbkiaaV.M
open Go.RowKit Go.Proofs.YtobkigllalbkiaaV
/-- diorama/pyramid.same -/
def m66 (K : Nat) (a0 : S_Level) (a1 : S_Level) : Option (Bool) :=
 ((bif (a0.W == a1.W) then some (a0.H == a1.H) else some false).bind fun b13 => ((bif b13 then ((m78 K a0.Low a1.Low).bind fun v18 => some v18) else some false).bind fun b16 => some b16))
set_option maxRecDepth 100000 in
set_option maxHeartbeats 4000000 in
theorem c66 (ok : Okp) (K : Nat) (w : World) (a0 : S_Level) (A1 : Option Addr) (cp2 : Nat) (a1 : S_Level) (A5 : Option Addr) (cp6 : Nat) (hR3 : Rd kInt w ok A1 cp2 a0.Low) (hR7 : Rd kInt w ok A5 cp6 a1.Low) (res : Bool) (hm : m66 K a0 a1 = some res) :
  Calls Try.prog 66 #[.agg #[.int .i64 a0.W, .int .i64 a0.H, .slice A1 a0.Low.length cp2], .agg #[.int .i64 a1.W, .int .i64 a1.H, .slice A5 a1.Low.length cp6]] w (fun e w' => e = .returned (tup [.bool res]) ∧ Sep ok w w' [] []) := by
 refine calls_W (args := [.agg #[.int .i64 a0.W, .int .i64 a0.H, .slice A1 a0.Low.length cp2], .agg #[.int .i64 a1.W, .int .i64 a1.H, .slice A5 a1.Low.length cp6]]) Try.func66 rfl Try.ntmps66 Try.results66 rfl fun r hr => ?_
 obtain ⟨r1, rfl⟩ := regen (r := r) [(0, .agg #[.int .i64 a0.W, .int .i64 a0.H, .slice A1 a0.Low.length cp2]), (1, .agg #[.int .i64 a1.W, .int .i64 a1.H, .slice A5 a1.Low.length cp6])] ⟨hr 0 _ rfl, hr 1 _ rfl, trivial⟩
 have H : Sep ok w w [] [RE.rd kInt A1 cp2 a0.Low, RE.rd kInt A5 cp6 a1.Low] := Sep.arg (Sep.arg (Sep.start ok w) (re := RE.rd kInt A1 cp2 a0.Low) rfl rfl hR3) (re := RE.rd kInt A5 cp6 a1.Low) rfl rfl hR7
 unfold m66 at hm
 refine W_seq ?_
 refine W_region ?_
 refine RL_cons (O_box (by exact wn0 rfl) (by rfl) (by rfl) (by rfl) H (fun w10 b9 (H : Sep ok w w10 [.blk b9 54 [.int .i64 a0.W, .int .i64 a0.H, .slice A1 a0.Low.length cp2]] [RE.rd kInt A1 cp2 a0.Low, RE.rd kInt A5 cp6 a1.Low]) => ?_))
 refine RL_cons (O_box (by exact wn0 rfl) (by rfl) (by rfl) (by rfl) H (fun w12 b11 (H : Sep ok w w12 [.blk b9 54 [.int .i64 a0.W, .int .i64 a0.H, .slice A1 a0.Low.length cp2], .blk b11 54 [.int .i64 a1.W, .int .i64 a1.H, .slice A5 a1.Low.length cp6]] [RE.rd kInt A1 cp2 a0.Low, RE.rd kInt A5 cp6 a1.Low]) => ?_))
 refine RL_pure (by exact wn0 rfl) (by rfl) (by rfl) (x_assign (v := .bool false) (by rfl)) ?_
 refine RL_nil ?_
 refine W_seq ?_
 refine W_region ?_
 refine RL_pure (by exact wn0 rfl) (by rfl) (by rfl) (x_fieldAddr fo54_0 (by rfl)) ?_
 refine RL_pure (by exact wn0 rfl) (by rfl) (by rfl) (x_load (j := 0) (v := .int .i64 a0.W) sc3 (by rfl) (H.cells (i := 0) (by rfl)) (by rfl)) ?_
 refine RL_pure (by exact wn0 rfl) (by rfl) (by rfl) (x_fieldAddr fo54_0 (by rfl)) ?_
 refine RL_pure (by exact wn0 rfl) (by rfl) (by rfl) (x_load (j := 0) (v := .int .i64 a1.W) sc3 (by rfl) (H.cells (i := 1) (by rfl)) (by rfl)) ?_
 refine RL_pure (by exact wn0 rfl) (by rfl) (by rfl) (x_eql (by rfl) (by rfl)) ?_
 refine RL_pure (by exact wn0 rfl) (by rfl) (by rfl) (x_move (v := .bool (a0.W == a1.W)) (by rfl)) ?_
 obtain ⟨b13, hmS, hm⟩ := bind_some hm
 refine RL_cut 6 (fun r' w' => Agr [(16, .bool b13), (2, .pointer (some ⟨b9, 0, none⟩)), (3, .pointer (some ⟨b11, 0, none⟩))] r' ∧ Sep ok w w' [.blk b9 54 [.int .i64 a0.W, .int .i64 a0.H, .slice A1 a0.Low.length cp2], .blk b11 54 [.int .i64 a1.W, .int .i64 a1.H, .slice A5 a1.Low.length cp6]] [RE.rd kInt A1 cp2 a0.Low, RE.rd kInt A5 cp6 a1.Low]) ?_ ?_
 ·cases hbS : (a0.W == a1.W)
  ·have hm := cond_f hbS hmS
   refine RL_cons (OpR_off (by exact wn2 rfl rfl rfl rfl) (by rfl) (by rfl) ?_)
   refine RL_cons (OpR_off (by exact wn2 rfl rfl rfl rfl) (by rfl) (by rfl) ?_)
   refine RL_cons (OpR_off (by exact wn2 rfl rfl rfl rfl) (by rfl) (by rfl) ?_)
   refine RL_cons (OpR_off (by exact wn2 rfl rfl rfl rfl) (by rfl) (by rfl) ?_)
   refine RL_cons (OpR_off (by exact wn2 rfl rfl rfl rfl) (by rfl) (by rfl) ?_)
   refine RL_pure (by exact wn0 rfl) (by rfl) (by rfl) (x_pick_f (v := .bool false) (by rfl) (by rfl)) ?_
   refine RL_nil ?_
   exact ⟨⟨congrArg Value.bool (Option.some.inj hm), rfl, rfl, trivial⟩, H⟩
  ·have hm := cond_t hbS hmS
   refine RL_pure (by exact wn1 rfl rfl rfl rfl) (by rfl) (by rfl) (x_fieldAddr fo54_1 (by rfl)) ?_
   refine RL_pure (by exact wn1 rfl rfl rfl rfl) (by rfl) (by rfl) (x_load (j := 1) (v := .int .i64 a0.H) sc3 (by rfl) (H.cells (i := 0) (by rfl)) (by rfl)) ?_
   refine RL_pure (by exact wn1 rfl rfl rfl rfl) (by rfl) (by rfl) (x_fieldAddr fo54_1 (by rfl)) ?_
   refine RL_pure (by exact wn1 rfl rfl rfl rfl) (by rfl) (by rfl) (x_load (j := 1) (v := .int .i64 a1.H) sc3 (by rfl) (H.cells (i := 1) (by rfl)) (by rfl)) ?_
   refine RL_pure (by exact wn1 rfl rfl rfl rfl) (by rfl) (by rfl) (x_eql (by rfl) (by rfl)) ?_
   refine RL_pure (by exact wn0 rfl) (by rfl) (by rfl) (x_pick_t (v := .bool (a0.H == a1.H)) (by rfl) (by rfl)) ?_
   refine RL_nil ?_
   exact ⟨⟨congrArg Value.bool (Option.some.inj hm), rfl, rfl, trivial⟩, H⟩
 ·rintro r' w' ⟨hA, H⟩
  obtain ⟨r14, rfl⟩ := regen _ hA; clear hA
  obtain ⟨w15, rfl⟩ : ∃ W : World, W = w' := ⟨_, rfl⟩
  show RL _ _ _ _ _ _ _
  refine RL_pure (by exact wn0 rfl) (by rfl) (by rfl) (x_move (v := .bool b13) (by rfl)) ?_
  obtain ⟨b16, hmS, hm⟩ := bind_some hm
  refine RL_cut 6 (fun r' w' => Agr [(23, .bool b16)] r' ∧ Sep ok w w' [.blk b9 54 [.int .i64 a0.W, .int .i64 a0.H, .slice A1 a0.Low.length cp2], .blk b11 54 [.int .i64 a1.W, .int .i64 a1.H, .slice A5 a1.Low.length cp6]] [RE.rd kInt A1 cp2 a0.Low, RE.rd kInt A5 cp6 a1.Low]) ?_ ?_
  ·cases hbS : b13
   ·have hm := cond_f hbS hmS
    refine RL_cons (OpR_off (by exact wn2 rfl rfl rfl rfl) (by rfl) (by rfl) ?_)
    refine RL_cons (OpR_off (by exact wn2 rfl rfl rfl rfl) (by rfl) (by rfl) ?_)
    refine RL_cons (OpR_off (by exact wn2 rfl rfl rfl rfl) (by rfl) (by rfl) ?_)
    refine RL_cons (OpR_off (by exact wn2 rfl rfl rfl rfl) (by rfl) (by rfl) ?_)
    refine RL_cons (OpR_off (by exact wn2 rfl rfl rfl rfl) (by rfl) (by rfl) ?_)
    refine RL_pure (by exact wn0 rfl) (by rfl) (by rfl) (x_pick_f (v := .bool false) (by rfl) (by rfl)) ?_
    refine RL_nil ?_
    exact ⟨⟨congrArg Value.bool (Option.some.inj hm), trivial⟩, H⟩
   ·have hm := cond_t hbS hmS
    refine RL_pure (by exact wn1 rfl rfl rfl rfl) (by rfl) (by rfl) (x_fieldAddr fo54_2 (by rfl)) ?_
    refine RL_pure (by exact wn1 rfl rfl rfl rfl) (by rfl) (by rfl) (x_load (j := 2) (v := .slice A1 a0.Low.length cp2) sc23 (by rfl) (H.cells (i := 0) (by rfl)) (by rfl)) ?_
    refine RL_pure (by exact wn1 rfl rfl rfl rfl) (by rfl) (by rfl) (x_fieldAddr fo54_2 (by rfl)) ?_
    refine RL_pure (by exact wn1 rfl rfl rfl rfl) (by rfl) (by rfl) (x_load (j := 2) (v := .slice A5 a1.Low.length cp6) sc23 (by rfl) (H.cells (i := 1) (by rfl)) (by rfl)) ?_
    obtain ⟨v18, hv17, hm⟩ := bind_some hm
    refine RL_cons (O_call (by exact wn1 rfl rfl rfl rfl) (by rfl) (by rfl) (x_callL (by rfl) (args := [.slice A1 a0.Low.length cp2, .slice A5 a1.Low.length cp6]) (by rfl) (cf78 _ _)) (c78 okT K w15 a0.Low A1 cp2 a1.Low A5 cp6 (H.rd (i := 0) (by rfl)).any (H.rd (i := 1) (by rfl)).any v18 hv17) ?_)
    rintro e w19 ⟨rfl, H2⟩
    have H : Sep ok w w19 [.blk b9 54 [.int .i64 a0.W, .int .i64 a0.H, .slice A1 a0.Low.length cp2], .blk b11 54 [.int .i64 a1.W, .int .i64 a1.H, .slice A5 a1.Low.length cp6]] [RE.rd kInt A1 cp2 a0.Low, RE.rd kInt A5 cp6 a1.Low] := H.below H2.base
    clear H2
    refine ⟨_, rfl, ?_⟩
    show RL _ _ _ _ _ _ _
    refine RL_pure (by exact wn0 rfl) (by rfl) (by rfl) (x_pick_t (v := .bool v18) (by rfl) (by rfl)) ?_
    refine RL_nil ?_
    exact ⟨⟨congrArg Value.bool (Option.some.inj hm), trivial⟩, H⟩
  ·rintro r' w' ⟨hA, H⟩
   obtain ⟨r20, rfl⟩ := regen _ hA; clear hA
   obtain ⟨w21, rfl⟩ : ∃ W : World, W = w' := ⟨_, rfl⟩
   show RL _ _ _ _ _ _ _
   refine RL_pure (by exact wn0 rfl) (by rfl) (by rfl) (x_assign (v := .bool b16) (by rfl)) ?_
   refine RL_nil ?_
   refine W_ret ?_
   obtain rfl := Option.some.inj hm
   exact ⟨[.bool b16], (.tmp (by rfl) rfl), rfl, H.none_⟩
end Go.Proofs.YtobkigllalbkiaaV.M

/- A plain Lean function that answers as the Go function does (none: not told), and the proof that a call answers so. Written by program. -/
set_option linter.unusedVariables false
namespace Go.Proofs.YtobkigllalbkiaaV.M
open Go.RowKit Go.Proofs.YtobkigllalbkiaaV
def m65_l1b (K : Nat) (a0 : (List S_Level)) (a1 : (List S_Level)) (rec1 : Int → Option (Bool)) (y17_1 : Int) : Option (Bool) :=
 (bif (decide (y17_1 < (a0.length : Int))) then (idx a0 y17_1 fun el11 => (idx a1 y17_1 fun el31 => ((m66 K el11 el31).bind fun v52 => (bif (!v52) then some false else (ck (y17_1 + 1) fun x54 => (rec1 x54)))))) else some true)
def m65_l1 (K : Nat) (a0 : (List S_Level)) (a1 : (List S_Level)) : Nat → Int → Option (Bool)
 | 0 => fun _ => none
 | k + 1 => m65_l1b K a0 a1 (m65_l1 K a0 a1 k)
/-- slices.EqualFunc(()diorama/api.Level,()diorama/api.Level,diorama/api.Level,diorama/api.Level) -/
def m65 (K : Nat) (a0 : (List S_Level)) (a1 : (List S_Level)) : Option (Bool) :=
 (bif ((a0.length : Int) != (a1.length : Int)) then some false else m65_l1 K a0 a1 K 0)
set_option maxRecDepth 100000 in
set_option maxHeartbeats 4000000 in
theorem c65 (ok : Okp) (K : Nat) (w : World) (a0 : (List S_Level)) (A1 : Option Addr) (cp2 : Nat) (a1 : (List S_Level)) (A5 : Option Addr) (cp6 : Nat) (hR3 : Rd k_Level w ok A1 cp2 a0) (hR7 : Rd k_Level w ok A5 cp6 a1) (res : Bool) (hm : m65 K a0 a1 = some res) :
  Calls Try.prog 65 #[.slice A1 a0.length cp2, .slice A5 a1.length cp6, .func (.func 66) #[] #[]] w (fun e w' => e = .returned (tup [.bool res]) ∧ Sep ok w w' [] []) := by
 refine calls_W (args := [.slice A1 a0.length cp2, .slice A5 a1.length cp6, .func (.func 66) #[] #[]]) Try.func65 rfl Try.ntmps65 Try.results65 rfl fun r hr => ?_
 obtain ⟨r1, rfl⟩ := regen (r := r) [(0, .slice A1 a0.length cp2), (1, .slice A5 a1.length cp6), (2, .func (.func 66) #[] #[])] ⟨hr 0 _ rfl, hr 1 _ rfl, hr 2 _ rfl, trivial⟩
 have H : Sep ok w w [] [RE.rd k_Level A1 cp2 a0, RE.rd k_Level A5 cp6 a1] := Sep.arg (Sep.arg (Sep.start ok w) (re := RE.rd k_Level A1 cp2 a0) rfl rfl hR3) (re := RE.rd k_Level A5 cp6 a1) rfl rfl hR7
 unfold m65 at hm
 refine W_seq ?_
 refine W_region ?_
 refine RL_pure (by exact wn0 rfl) (by rfl) (by rfl) (x_assign (v := .bool false) (by rfl)) ?_
 refine RL_nil ?_
 refine W_seq ?_
 refine W_seq ?_
 refine W_region ?_
 refine RL_pure (by exact wn0 rfl) (by rfl) (by rfl) (x_move (v := .slice A1 a0.length cp2) (by rfl)) ?_
 refine RL_pure (by exact wn0 rfl) (by rfl) (by rfl) (x_len sl26 (by rfl)) ?_
 refine RL_pure (by exact wn0 rfl) (by rfl) (by rfl) (x_move (v := .slice A5 a1.length cp6) (by rfl)) ?_
 refine RL_pure (by exact wn0 rfl) (by rfl) (by rfl) (x_len sl26 (by rfl)) ?_
 refine RL_pure (by exact wn0 rfl) (by rfl) (by rfl) (x_neq (by rfl) (by rfl)) ?_
 refine RL_nil ?_
 refine W_cond (by rfl) (fun hb => ?_) (fun hb => ?_)
 ·have hm := cond_t hb hm
  refine W_seq ?_
  refine W_region ?_
  refine RL_pure (by exact wn0 rfl) (by rfl) (by rfl) (x_assign (v := .bool false) (by rfl)) ?_
  refine RL_nil ?_
  refine W_ret ?_
  obtain rfl := Option.some.inj hm
  exact ⟨[.bool false], (.tmp (by rfl) rfl), rfl, H.none_⟩
 ·have hm := cond_f hb hm
  refine W_skip ?_
  refine W_seq ?_
  refine W_seq ?_
  refine W_region ?_
  refine RL_pure (by exact wn0 rfl) (by rfl) (by rfl) (x_move (v := .slice A1 a0.length cp2) (by rfl)) ?_
  refine RL_pure (by exact wn0 rfl) (by rfl) (by rfl) (x_len sl26 (by rfl)) ?_
  refine RL_pure (by exact wn0 rfl) (by rfl) (by rfl) (x_move (v := .int .i64 0) (by rfl)) ?_
  refine RL_nil ?_
  refine W_block ?_
  refine W_loop (fun k1 r' w' => ∃ (y17_1 : Int), m65_l1 K a0 a1 k1 y17_1 = some res ∧ Agr [(1, .slice A5 a1.length cp6), (2, .func (.func 66) #[] #[]), (15, .slice A1 a0.length cp2), (16, .int .i64 (a0.length : Int)), (17, .int .i64 y17_1)] r' ∧ Sep ok w w' [] [RE.rd k_Level A1 cp2 a0, RE.rd k_Level A5 cp6 a1]) K ?_ ?_
  ·exact ⟨0, hm, ⟨rfl, rfl, rfl, rfl, rfl, trivial⟩, H⟩
  ·rintro k1 r' w' ⟨y17_1, hm, hA, H⟩
   obtain ⟨r9, rfl⟩ := regen _ hA; clear hA
   obtain ⟨w10, rfl⟩ : ∃ W : World, W = w' := ⟨_, rfl⟩
   cases k1 with
   | zero => exact (none_some hm).elim
   | succ k1 =>
    have hm : m65_l1b K a0 a1 (m65_l1 K a0 a1 k1) y17_1 = some res := hm
    unfold m65_l1b at hm
    obtain ⟨rec1, hrec1⟩ : ∃ f, m65_l1 K a0 a1 k1 = f := ⟨_, rfl⟩
    rw [hrec1] at hm
    refine W_seq ?_
    refine W_region ?_
    refine RL_pure (by exact wn0 rfl) (by rfl) (by rfl) (x_lss (by rfl) (by rfl)) ?_
    refine RL_nil ?_
    refine W_seq ?_
    refine W_cond (by rfl) (fun hb => ?_) (fun hb => ?_)
    ·have hm := cond_t hb hm
     refine W_skip ?_
     refine W_seq ?_
     refine W_block ?_
     refine W_seq ?_
     refine W_region ?_
     refine RL_pure (by exact wn0 rfl) (by rfl) (by rfl) (x_move (v := .int .i64 y17_1) (by rfl)) ?_
     obtain ⟨el11, h12, h13, he14, hm⟩ := idx_some hm
     obtain ⟨g16, o17, hA15⟩ := (H.rd (i := 0) (by rfl)).addr he14
     obtain ⟨cs18, hk19, hat20, hg_cs18⟩ := (H.rd (i := 0) (by rfl)).openAt hA15 he14
     obtain ⟨A23, cp24, rfl, hR26⟩ := hk19
     have H : Sep ok w w10 [] [RE.rd k_Level A1 cp2 a0, RE.rd k_Level A5 cp6 a1, RE.cells g16 (o17 + (y17_1).toNat * 3) [.int .i64 el11.W, .int .i64 el11.H, .slice A23 el11.Low.length cp24]] := Sep.also H (re := RE.cells g16 (o17 + (y17_1).toNat * 3) [.int .i64 el11.W, .int .i64 el11.H, .slice A23 el11.Low.length cp24]) ⟨hg_cs18, hat20⟩
     have H : Sep ok w w10 [] [RE.rd k_Level A1 cp2 a0, RE.rd k_Level A5 cp6 a1, RE.cells g16 (o17 + (y17_1).toNat * 3) [.int .i64 el11.W, .int .i64 el11.H, .slice A23 el11.Low.length cp24], RE.rd kInt A23 cp24 el11.Low] := Sep.also H (re := RE.rd kInt A23 cp24 el11.Low) hR26
     refine RL_pure (by exact wn0 rfl) (by rfl) (by rfl) (x_indexAddr sl26 sz54 (by rfl) (by rfl) hA15 h12 h13) ?_
     refine RL_pure (by exact wn0 rfl) (by rfl) (by rfl) (x_loadA (j := 0) (vs := [.int .i64 el11.W, .int .i64 el11.H, .slice A23 el11.Low.length cp24]) ag54 (by rfl) (H.cellsR (i := 2) (by rfl)) (by rfl) (by rfl)) ?_
     refine RL_cons (O_alloc (by exact wn0 rfl) (by rfl) ze54 (by rfl) H (fun w29 b28 (H : Sep ok w w29 [.blk b28 54 [.int .i64 0, .int .i64 0, .slice none 0 0]] [RE.rd k_Level A1 cp2 a0, RE.rd k_Level A5 cp6 a1, RE.cells g16 (o17 + (y17_1).toNat * 3) [.int .i64 el11.W, .int .i64 el11.H, .slice A23 el11.Low.length cp24], RE.rd kInt A23 cp24 el11.Low]) => ?_))
     refine RL_pure (by exact wn0 rfl) (by rfl) (by rfl) (x_assign (v := .int .i64 y17_1) (by rfl)) ?_
     refine RL_cons (O_store (i := 0) (off := 0) (by exact wn0 rfl) (by rfl) (by rfl) H (by rfl) (vs := [.int .i64 el11.W, .int .i64 el11.H, .slice A23 el11.Low.length cp24]) (by rfl) sz54 (by rfl) (by rfl) (by rfl) (fun w30 (H : Sep ok w w30 [.blk b28 54 [.int .i64 el11.W, .int .i64 el11.H, .slice A23 el11.Low.length cp24]] [RE.rd k_Level A1 cp2 a0, RE.rd k_Level A5 cp6 a1, RE.cells g16 (o17 + (y17_1).toNat * 3) [.int .i64 el11.W, .int .i64 el11.H, .slice A23 el11.Low.length cp24], RE.rd kInt A23 cp24 el11.Low]) => ?_))
     refine RL_nil ?_
     refine W_seq ?_
     refine W_region ?_
     refine RL_pure (by exact wn0 rfl) (by rfl) (by rfl) (x_move (v := .slice A5 a1.length cp6) (by rfl)) ?_
     refine RL_pure (by exact wn0 rfl) (by rfl) (by rfl) (x_move (v := .int .i64 y17_1) (by rfl)) ?_
     obtain ⟨el31, h32, h33, he34, hm⟩ := idx_some hm
     obtain ⟨g36, o37, hA35⟩ := (H.rd (i := 1) (by rfl)).addr he34
     obtain ⟨cs38, hk39, hat40, hg_cs38⟩ := (H.rd (i := 1) (by rfl)).openAt hA35 he34
     obtain ⟨A43, cp44, rfl, hR46⟩ := hk39
     have H : Sep ok w w30 [.blk b28 54 [.int .i64 el11.W, .int .i64 el11.H, .slice A23 el11.Low.length cp24]] [RE.rd k_Level A1 cp2 a0, RE.rd k_Level A5 cp6 a1, RE.cells g16 (o17 + (y17_1).toNat * 3) [.int .i64 el11.W, .int .i64 el11.H, .slice A23 el11.Low.length cp24], RE.rd kInt A23 cp24 el11.Low, RE.cells g36 (o37 + (y17_1).toNat * 3) [.int .i64 el31.W, .int .i64 el31.H, .slice A43 el31.Low.length cp44]] := Sep.also H (re := RE.cells g36 (o37 + (y17_1).toNat * 3) [.int .i64 el31.W, .int .i64 el31.H, .slice A43 el31.Low.length cp44]) ⟨hg_cs38, hat40⟩
     have H : Sep ok w w30 [.blk b28 54 [.int .i64 el11.W, .int .i64 el11.H, .slice A23 el11.Low.length cp24]] [RE.rd k_Level A1 cp2 a0, RE.rd k_Level A5 cp6 a1, RE.cells g16 (o17 + (y17_1).toNat * 3) [.int .i64 el11.W, .int .i64 el11.H, .slice A23 el11.Low.length cp24], RE.rd kInt A23 cp24 el11.Low, RE.cells g36 (o37 + (y17_1).toNat * 3) [.int .i64 el31.W, .int .i64 el31.H, .slice A43 el31.Low.length cp44], RE.rd kInt A43 cp44 el31.Low] := Sep.also H (re := RE.rd kInt A43 cp44 el31.Low) hR46
     refine RL_pure (by exact wn0 rfl) (by rfl) (by rfl) (x_indexAddr sl26 sz54 (by rfl) (by rfl) hA35 h32 h33) ?_
     refine RL_pure (by exact wn0 rfl) (by rfl) (by rfl) (x_loadA (j := 0) (vs := [.int .i64 el31.W, .int .i64 el31.H, .slice A43 el31.Low.length cp44]) ag54 (by rfl) (H.cellsR (i := 4) (by rfl)) (by rfl) (by rfl)) ?_
     refine RL_cons (O_alloc (by exact wn0 rfl) (by rfl) ze54 (by rfl) H (fun w49 b48 (H : Sep ok w w49 [.blk b28 54 [.int .i64 el11.W, .int .i64 el11.H, .slice A23 el11.Low.length cp24], .blk b48 54 [.int .i64 0, .int .i64 0, .slice none 0 0]] [RE.rd k_Level A1 cp2 a0, RE.rd k_Level A5 cp6 a1, RE.cells g16 (o17 + (y17_1).toNat * 3) [.int .i64 el11.W, .int .i64 el11.H, .slice A23 el11.Low.length cp24], RE.rd kInt A23 cp24 el11.Low, RE.cells g36 (o37 + (y17_1).toNat * 3) [.int .i64 el31.W, .int .i64 el31.H, .slice A43 el31.Low.length cp44], RE.rd kInt A43 cp44 el31.Low]) => ?_))
     refine RL_cons (O_store (i := 1) (off := 0) (by exact wn0 rfl) (by rfl) (by rfl) H (by rfl) (vs := [.int .i64 el31.W, .int .i64 el31.H, .slice A43 el31.Low.length cp44]) (by rfl) sz54 (by rfl) (by rfl) (by rfl) (fun w50 (H : Sep ok w w50 [.blk b28 54 [.int .i64 el11.W, .int .i64 el11.H, .slice A23 el11.Low.length cp24], .blk b48 54 [.int .i64 el31.W, .int .i64 el31.H, .slice A43 el31.Low.length cp44]] [RE.rd k_Level A1 cp2 a0, RE.rd k_Level A5 cp6 a1, RE.cells g16 (o17 + (y17_1).toNat * 3) [.int .i64 el11.W, .int .i64 el11.H, .slice A23 el11.Low.length cp24], RE.rd kInt A23 cp24 el11.Low, RE.cells g36 (o37 + (y17_1).toNat * 3) [.int .i64 el31.W, .int .i64 el31.H, .slice A43 el31.Low.length cp44], RE.rd kInt A43 cp44 el31.Low]) => ?_))
     refine RL_nil ?_
     refine W_seq ?_
     refine W_region ?_
     refine RL_pure (by exact wn0 rfl) (by rfl) (by rfl) (x_move (v := .func (.func 66) #[] #[]) (by rfl)) ?_
     refine RL_pure (by exact wn0 rfl) (by rfl) (by rfl) (x_loadA (j := 0) (vs := [.int .i64 el11.W, .int .i64 el11.H, .slice A23 el11.Low.length cp24]) ag54 (by rfl) (H.cells (i := 0) (by rfl)) (by rfl) (by rfl)) ?_
     refine RL_pure (by exact wn0 rfl) (by rfl) (by rfl) (x_loadA (j := 0) (vs := [.int .i64 el31.W, .int .i64 el31.H, .slice A43 el31.Low.length cp44]) ag54 (by rfl) (H.cells (i := 1) (by rfl)) (by rfl) (by rfl)) ?_
     obtain ⟨v52, hv51, hm⟩ := bind_some hm
     refine RL_cons (O_call (by exact wn0 rfl) (by rfl) (by rfl) (x_callL (by rfl) (args := [.agg #[.int .i64 el11.W, .int .i64 el11.H, .slice A23 el11.Low.length cp24], .agg #[.int .i64 el31.W, .int .i64 el31.H, .slice A43 el31.Low.length cp44]]) (by rfl) (cf66 _ _)) (c66 okT K w50 el11 A23 cp24 el31 A43 cp44 (H.rd (i := 3) (by rfl)).any (H.rd (i := 5) (by rfl)).any v52 hv51) ?_)
     rintro e w53 ⟨rfl, H2⟩
     have H : Sep ok w w53 [.blk b28 54 [.int .i64 el11.W, .int .i64 el11.H, .slice A23 el11.Low.length cp24], .blk b48 54 [.int .i64 el31.W, .int .i64 el31.H, .slice A43 el31.Low.length cp44]] [RE.rd k_Level A1 cp2 a0, RE.rd k_Level A5 cp6 a1, RE.cells g16 (o17 + (y17_1).toNat * 3) [.int .i64 el11.W, .int .i64 el11.H, .slice A23 el11.Low.length cp24], RE.rd kInt A23 cp24 el11.Low, RE.cells g36 (o37 + (y17_1).toNat * 3) [.int .i64 el31.W, .int .i64 el31.H, .slice A43 el31.Low.length cp44], RE.rd kInt A43 cp44 el31.Low] := H.below H2.base
     clear H2
     refine ⟨_, rfl, ?_⟩
     show RL _ _ _ _ _ _ _
     refine RL_pure (by exact wn0 rfl) (by rfl) (by rfl) (x_not (by rfl)) ?_
     refine RL_nil ?_
     refine W_cond (by rfl) (fun hb => ?_) (fun hb => ?_)
     ·have hm := cond_t hb hm
      refine W_seq ?_
      refine W_region ?_
      refine RL_pure (by exact wn0 rfl) (by rfl) (by rfl) (x_assign (v := .bool false) (by rfl)) ?_
      refine RL_nil ?_
      refine W_ret ?_
      obtain rfl := Option.some.inj hm
      exact ⟨[.bool false], (.tmp (by rfl) rfl), rfl, H.none_⟩
     ·have hm := cond_f hb hm
      refine W_skip ?_
      refine W_region ?_
      obtain ⟨x54, ex54, qx54, ux54, hm⟩ := ck_some hm
      refine RL_pure (by exact wn0 rfl) (by rfl) (by rfl) (x_add (by rfl) (by rfl) ux54) ?_
      refine RL_pure (by exact wn0 rfl) (by rfl) (by rfl) (x_move (v := .int .i64 x54) (by rfl)) ?_
      refine RL_nil ?_
      subst hrec1
      exact ⟨k1, Nat.lt_succ_self k1, x54, hm, ⟨rfl, rfl, rfl, rfl, rfl, trivial⟩, ((H).takeL 0).pick [0, 1]⟩
    ·have hm := cond_f hb hm
     refine W_exit ?_
     refine W_seq ?_
     refine W_region ?_
     refine RL_pure (by exact wn0 rfl) (by rfl) (by rfl) (x_assign (v := .bool true) (by rfl)) ?_
     refine RL_nil ?_
     refine W_ret ?_
     obtain rfl := Option.some.inj hm
     exact ⟨[.bool true], (.tmp (by rfl) rfl), rfl, H.none_⟩
end Go.Proofs.YtobkigllalbkiaaV.M

/- A plain Lean function that answers as the Go function does (none: not told), and the proof that a call answers so. Written by program. -/
set_option linter.unusedVariables false
namespace Go.Proofs.YtobkigllalbkiaaV.M
open Go.RowKit Go.Proofs.YtobkigllalbkiaaV
/-- diorama/pyramid.Check -/
def m22 (K : Nat) (a0 : S_Pyramid) : Option (Int) :=
 (bif ((a0.Levels.length : Int) == 0) then some 8 else (idx a0.Levels 0 fun el7 => ((bif (decide ((mn el7.W el7.H) < 1)) then some true else some (decide (64 < (mx el7.W el7.H)))).bind fun b27 => ((bif b27 then some true else (ck (el7.W * el7.H) fun x31 => some ((el7.Low.length : Int) != x31))).bind fun b30 => (bif b30 then some 8 else ((m63 K el7.Low).bind fun v36 => ((bif (decide (v36 < (-2048))) then some true else ((m64 K el7.Low).bind fun v40 => some (decide (66560 < v40)))).bind fun b38 => ((bif b38 then some true else ((m58 K el7).bind fun v46 => ((m65 K v46.Levels a0.Levels).bind fun v52 => some (!v52)))).bind fun b44 => (bif b44 then some 8 else some 0)))))))))
set_option maxRecDepth 100000 in
set_option maxHeartbeats 4000000 in
theorem c22 (ok : Okp) (K : Nat) (w : World) (a0 : S_Pyramid) (A1 : Option Addr) (cp2 : Nat) (hR3 : Rd k_Level w ok A1 cp2 a0.Levels) (res : Int) (hm : m22 K a0 = some res) :
  Calls Try.prog 22 #[.agg #[.slice A1 a0.Levels.length cp2]] w (fun e w' => e = .returned (tup [.int .i64 res]) ∧ Sep ok w w' [] []) := by
 refine calls_W (args := [.agg #[.slice A1 a0.Levels.length cp2]]) Try.func22 rfl Try.ntmps22 Try.results22 rfl fun r hr => ?_
 obtain ⟨r1, rfl⟩ := regen (r := r) [(0, .agg #[.slice A1 a0.Levels.length cp2])] ⟨hr 0 _ rfl, trivial⟩
 have H : Sep ok w w [] [RE.rd k_Level A1 cp2 a0.Levels] := Sep.arg (Sep.start ok w) (re := RE.rd k_Level A1 cp2 a0.Levels) rfl rfl hR3
 unfold m22 at hm
 refine W_seq ?_
 refine W_region ?_
 refine RL_cons (O_box (by exact wn0 rfl) (by rfl) (by rfl) (by rfl) H (fun w6 b5 (H : Sep ok w w6 [.blk b5 28 [.slice A1 a0.Levels.length cp2]] [RE.rd k_Level A1 cp2 a0.Levels]) => ?_))
 refine RL_pure (by exact wn0 rfl) (by rfl) (by rfl) (x_assign (v := .int .i64 0) (by rfl)) ?_
 refine RL_nil ?_
 refine W_seq ?_
 refine W_seq ?_
 refine W_region ?_
 refine RL_pure (by exact wn0 rfl) (by rfl) (by rfl) (x_fieldAddr fo28_0 (by rfl)) ?_
 refine RL_pure (by exact wn0 rfl) (by rfl) (by rfl) (x_load (j := 0) (v := .slice A1 a0.Levels.length cp2) sc26 (by rfl) (H.cells (i := 0) (by rfl)) (by rfl)) ?_
 refine RL_pure (by exact wn0 rfl) (by rfl) (by rfl) (x_len sl26 (by rfl)) ?_
 refine RL_pure (by exact wn0 rfl) (by rfl) (by rfl) (x_eql (by rfl) (by rfl)) ?_
 refine RL_nil ?_
 refine W_cond (by rfl) (fun hb => ?_) (fun hb => ?_)
 ·have hm := cond_t hb hm
  refine W_seq ?_
  refine W_region ?_
  refine RL_pure (by exact wn0 rfl) (by rfl) (by rfl) (x_assign (v := .int .i64 8) (by rfl)) ?_
  refine RL_nil ?_
  refine W_ret ?_
  obtain rfl := Option.some.inj hm
  exact ⟨[.int .i64 8], (.tmp (by rfl) rfl), rfl, H.none_⟩
 ·have hm := cond_f hb hm
  refine W_skip ?_
  refine W_seq ?_
  refine W_region ?_
  refine RL_pure (by exact wn0 rfl) (by rfl) (by rfl) (x_fieldAddr fo28_0 (by rfl)) ?_
  refine RL_pure (by exact wn0 rfl) (by rfl) (by rfl) (x_load (j := 0) (v := .slice A1 a0.Levels.length cp2) sc26 (by rfl) (H.cells (i := 0) (by rfl)) (by rfl)) ?_
  obtain ⟨el7, h8, h9, he10, hm⟩ := idx_some hm
  obtain ⟨g12, o13, hA11⟩ := (H.rd (i := 0) (by rfl)).addr he10
  obtain ⟨cs14, hk15, hat16, hg_cs14⟩ := (H.rd (i := 0) (by rfl)).openAt hA11 he10
  obtain ⟨A19, cp20, rfl, hR22⟩ := hk15
  have H : Sep ok w w6 [.blk b5 28 [.slice A1 a0.Levels.length cp2]] [RE.rd k_Level A1 cp2 a0.Levels, RE.cells g12 (o13 + (0 : Int).toNat * 3) [.int .i64 el7.W, .int .i64 el7.H, .slice A19 el7.Low.length cp20]] := Sep.also H (re := RE.cells g12 (o13 + (0 : Int).toNat * 3) [.int .i64 el7.W, .int .i64 el7.H, .slice A19 el7.Low.length cp20]) ⟨hg_cs14, hat16⟩
  have H : Sep ok w w6 [.blk b5 28 [.slice A1 a0.Levels.length cp2]] [RE.rd k_Level A1 cp2 a0.Levels, RE.cells g12 (o13 + (0 : Int).toNat * 3) [.int .i64 el7.W, .int .i64 el7.H, .slice A19 el7.Low.length cp20], RE.rd kInt A19 cp20 el7.Low] := Sep.also H (re := RE.rd kInt A19 cp20 el7.Low) hR22
  refine RL_pure (by exact wn0 rfl) (by rfl) (by rfl) (x_indexAddr sl26 sz54 (by rfl) (by rfl) hA11 h8 h9) ?_
  refine RL_pure (by exact wn0 rfl) (by rfl) (by rfl) (x_loadA (j := 0) (vs := [.int .i64 el7.W, .int .i64 el7.H, .slice A19 el7.Low.length cp20]) ag54 (by rfl) (H.cellsR (i := 1) (by rfl)) (by rfl) (by rfl)) ?_
  refine RL_cons (O_alloc (by exact wn0 rfl) (by rfl) ze54 (by rfl) H (fun w25 b24 (H : Sep ok w w25 [.blk b5 28 [.slice A1 a0.Levels.length cp2], .blk b24 54 [.int .i64 0, .int .i64 0, .slice none 0 0]] [RE.rd k_Level A1 cp2 a0.Levels, RE.cells g12 (o13 + (0 : Int).toNat * 3) [.int .i64 el7.W, .int .i64 el7.H, .slice A19 el7.Low.length cp20], RE.rd kInt A19 cp20 el7.Low]) => ?_))
  refine RL_cons (O_store (i := 1) (off := 0) (by exact wn0 rfl) (by rfl) (by rfl) H (by rfl) (vs := [.int .i64 el7.W, .int .i64 el7.H, .slice A19 el7.Low.length cp20]) (by rfl) sz54 (by rfl) (by rfl) (by rfl) (fun w26 (H : Sep ok w w26 [.blk b5 28 [.slice A1 a0.Levels.length cp2], .blk b24 54 [.int .i64 el7.W, .int .i64 el7.H, .slice A19 el7.Low.length cp20]] [RE.rd k_Level A1 cp2 a0.Levels, RE.cells g12 (o13 + (0 : Int).toNat * 3) [.int .i64 el7.W, .int .i64 el7.H, .slice A19 el7.Low.length cp20], RE.rd kInt A19 cp20 el7.Low]) => ?_))
  refine RL_nil ?_
  refine W_seq ?_
  refine W_seq ?_
  refine W_region ?_
  refine RL_pure (by exact wn0 rfl) (by rfl) (by rfl) (x_fieldAddr fo54_0 (by rfl)) ?_
  refine RL_pure (by exact wn0 rfl) (by rfl) (by rfl) (x_load (j := 0) (v := .int .i64 el7.W) sc3 (by rfl) (H.cells (i := 1) (by rfl)) (by rfl)) ?_
  refine RL_pure (by exact wn0 rfl) (by rfl) (by rfl) (x_fieldAddr fo54_1 (by rfl)) ?_
  refine RL_pure (by exact wn0 rfl) (by rfl) (by rfl) (x_load (j := 1) (v := .int .i64 el7.H) sc3 (by rfl) (H.cells (i := 1) (by rfl)) (by rfl)) ?_
  refine RL_pure (by exact wn0 rfl) (by rfl) (by rfl) (x_min2 (by rfl) (by rfl)) ?_
  refine RL_pure (by exact wn0 rfl) (by rfl) (by rfl) (x_lss (by rfl) (by rfl)) ?_
  refine RL_pure (by exact wn0 rfl) (by rfl) (by rfl) (x_move (v := .bool (decide ((mn el7.W el7.H) < 1))) (by rfl)) ?_
  obtain ⟨b27, hmS, hm⟩ := bind_some hm
  refine RL_cut 7 (fun r' w' => Agr [(25, .bool b27), (1, .pointer (some ⟨b5, 0, none⟩)), (3, .pointer (some ⟨b24, 0, none⟩))] r' ∧ Sep ok w w' [.blk b5 28 [.slice A1 a0.Levels.length cp2], .blk b24 54 [.int .i64 el7.W, .int .i64 el7.H, .slice A19 el7.Low.length cp20]] [RE.rd k_Level A1 cp2 a0.Levels, RE.cells g12 (o13 + (0 : Int).toNat * 3) [.int .i64 el7.W, .int .i64 el7.H, .slice A19 el7.Low.length cp20], RE.rd kInt A19 cp20 el7.Low]) ?_ ?_
  ·cases hbS : (decide ((mn el7.W el7.H) < 1))
   ·have hm := cond_f hbS hmS
    refine RL_pure (by exact wn1 rfl rfl rfl rfl) (by rfl) (by rfl) (x_fieldAddr fo54_0 (by rfl)) ?_
    refine RL_pure (by exact wn1 rfl rfl rfl rfl) (by rfl) (by rfl) (x_load (j := 0) (v := .int .i64 el7.W) sc3 (by rfl) (H.cells (i := 1) (by rfl)) (by rfl)) ?_
    refine RL_pure (by exact wn1 rfl rfl rfl rfl) (by rfl) (by rfl) (x_fieldAddr fo54_1 (by rfl)) ?_
    refine RL_pure (by exact wn1 rfl rfl rfl rfl) (by rfl) (by rfl) (x_load (j := 1) (v := .int .i64 el7.H) sc3 (by rfl) (H.cells (i := 1) (by rfl)) (by rfl)) ?_
    refine RL_pure (by exact wn1 rfl rfl rfl rfl) (by rfl) (by rfl) (x_max2 (by rfl) (by rfl)) ?_
    refine RL_pure (by exact wn1 rfl rfl rfl rfl) (by rfl) (by rfl) (x_gtr (by rfl) (by rfl)) ?_
    refine RL_pure (by exact wn0 rfl) (by rfl) (by rfl) (x_pick_f (v := .bool (decide (64 < (mx el7.W el7.H)))) (by rfl) (by rfl)) ?_
    refine RL_nil ?_
    exact ⟨⟨congrArg Value.bool (Option.some.inj hm), rfl, rfl, trivial⟩, H⟩
   ·have hm := cond_t hbS hmS
    refine RL_cons (OpR_off (by exact wn2 rfl rfl rfl rfl) (by rfl) (by rfl) ?_)
    refine RL_cons (OpR_off (by exact wn2 rfl rfl rfl rfl) (by rfl) (by rfl) ?_)
    refine RL_cons (OpR_off (by exact wn2 rfl rfl rfl rfl) (by rfl) (by rfl) ?_)
    refine RL_cons (OpR_off (by exact wn2 rfl rfl rfl rfl) (by rfl) (by rfl) ?_)
    refine RL_cons (OpR_off (by exact wn2 rfl rfl rfl rfl) (by rfl) (by rfl) ?_)
    refine RL_cons (OpR_off (by exact wn2 rfl rfl rfl rfl) (by rfl) (by rfl) ?_)
    refine RL_pure (by exact wn0 rfl) (by rfl) (by rfl) (x_pick_t (v := .bool true) (by rfl) (by rfl)) ?_
    refine RL_nil ?_
    exact ⟨⟨congrArg Value.bool (Option.some.inj hm), rfl, rfl, trivial⟩, H⟩
  ·rintro r' w' ⟨hA, H⟩
   obtain ⟨r28, rfl⟩ := regen _ hA; clear hA
   obtain ⟨w29, rfl⟩ : ∃ W : World, W = w' := ⟨_, rfl⟩
   show RL _ _ _ _ _ _ _
   refine RL_pure (by exact wn0 rfl) (by rfl) (by rfl) (x_move (v := .bool b27) (by rfl)) ?_
   obtain ⟨b30, hmS, hm⟩ := bind_some hm
   refine RL_cut 10 (fun r' w' => Agr [(36, .bool b30), (1, .pointer (some ⟨b5, 0, none⟩)), (3, .pointer (some ⟨b24, 0, none⟩))] r' ∧ Sep ok w w' [.blk b5 28 [.slice A1 a0.Levels.length cp2], .blk b24 54 [.int .i64 el7.W, .int .i64 el7.H, .slice A19 el7.Low.length cp20]] [RE.rd k_Level A1 cp2 a0.Levels, RE.cells g12 (o13 + (0 : Int).toNat * 3) [.int .i64 el7.W, .int .i64 el7.H, .slice A19 el7.Low.length cp20], RE.rd kInt A19 cp20 el7.Low]) ?_ ?_
   ·cases hbS : b27
    ·have hm := cond_f hbS hmS
     refine RL_pure (by exact wn1 rfl rfl rfl rfl) (by rfl) (by rfl) (x_fieldAddr fo54_2 (by rfl)) ?_
     refine RL_pure (by exact wn1 rfl rfl rfl rfl) (by rfl) (by rfl) (x_load (j := 2) (v := .slice A19 el7.Low.length cp20) sc23 (by rfl) (H.cells (i := 1) (by rfl)) (by rfl)) ?_
     refine RL_pure (by exact wn1 rfl rfl rfl rfl) (by rfl) (by rfl) (x_len sl23 (by rfl)) ?_
     refine RL_pure (by exact wn1 rfl rfl rfl rfl) (by rfl) (by rfl) (x_fieldAddr fo54_0 (by rfl)) ?_
     refine RL_pure (by exact wn1 rfl rfl rfl rfl) (by rfl) (by rfl) (x_load (j := 0) (v := .int .i64 el7.W) sc3 (by rfl) (H.cells (i := 1) (by rfl)) (by rfl)) ?_
     refine RL_pure (by exact wn1 rfl rfl rfl rfl) (by rfl) (by rfl) (x_fieldAddr fo54_1 (by rfl)) ?_
     refine RL_pure (by exact wn1 rfl rfl rfl rfl) (by rfl) (by rfl) (x_load (j := 1) (v := .int .i64 el7.H) sc3 (by rfl) (H.cells (i := 1) (by rfl)) (by rfl)) ?_
     obtain ⟨x31, ex31, qx31, ux31, hm⟩ := ck_some hm
     refine RL_pure (by exact wn1 rfl rfl rfl rfl) (by rfl) (by rfl) (x_mul (by rfl) (by rfl) ux31) ?_
     refine RL_pure (by exact wn1 rfl rfl rfl rfl) (by rfl) (by rfl) (x_neq (by rfl) (by rfl)) ?_
     refine RL_pure (by exact wn0 rfl) (by rfl) (by rfl) (x_pick_f (v := .bool ((el7.Low.length : Int) != x31)) (by rfl) (by rfl)) ?_
     refine RL_nil ?_
     exact ⟨⟨congrArg Value.bool (Option.some.inj hm), rfl, rfl, trivial⟩, H⟩
    ·have hm := cond_t hbS hmS
     refine RL_cons (OpR_off (by exact wn2 rfl rfl rfl rfl) (by rfl) (by rfl) ?_)
     refine RL_cons (OpR_off (by exact wn2 rfl rfl rfl rfl) (by rfl) (by rfl) ?_)
     refine RL_cons (OpR_off (by exact wn2 rfl rfl rfl rfl) (by rfl) (by rfl) ?_)
     refine RL_cons (OpR_off (by exact wn2 rfl rfl rfl rfl) (by rfl) (by rfl) ?_)
     refine RL_cons (OpR_off (by exact wn2 rfl rfl rfl rfl) (by rfl) (by rfl) ?_)
     refine RL_cons (OpR_off (by exact wn2 rfl rfl rfl rfl) (by rfl) (by rfl) ?_)
     refine RL_cons (OpR_off (by exact wn2 rfl rfl rfl rfl) (by rfl) (by rfl) ?_)
     refine RL_cons (OpR_off (by exact wn2 rfl rfl rfl rfl) (by rfl) (by rfl) ?_)
     refine RL_cons (OpR_off (by exact wn2 rfl rfl rfl rfl) (by rfl) (by rfl) ?_)
     refine RL_pure (by exact wn0 rfl) (by rfl) (by rfl) (x_pick_t (v := .bool true) (by rfl) (by rfl)) ?_
     refine RL_nil ?_
     exact ⟨⟨congrArg Value.bool (Option.some.inj hm), rfl, rfl, trivial⟩, H⟩
   ·rintro r' w' ⟨hA, H⟩
    obtain ⟨r32, rfl⟩ := regen _ hA; clear hA
    obtain ⟨w33, rfl⟩ : ∃ W : World, W = w' := ⟨_, rfl⟩
    show RL _ _ _ _ _ _ _
    refine RL_nil ?_
    refine W_cond (by rfl) (fun hb => ?_) (fun hb => ?_)
    ·have hm := cond_t hb hm
     refine W_seq ?_
     refine W_region ?_
     refine RL_pure (by exact wn0 rfl) (by rfl) (by rfl) (x_assign (v := .int .i64 8) (by rfl)) ?_
     refine RL_nil ?_
     refine W_ret ?_
     obtain rfl := Option.some.inj hm
     exact ⟨[.int .i64 8], (.tmp (by rfl) rfl), rfl, H.none_⟩
    ·have hm := cond_f hb hm
     refine W_skip ?_
     refine W_seq ?_
     refine W_seq ?_
     refine W_draw [.free 0, .take 1, .run 2, .free 3, .free 4, .free 5, .take 6, .run 7, .free 8, .free 9, .free 10, .take 11, .free 14, .take 15, .run 12, .free 13, .run 16, .free 17, .free 18] (fun wS => Sep ok w wS [.blk b5 28 [.slice A1 a0.Levels.length cp2], .blk b24 54 [.int .i64 el7.W, .int .i64 el7.H, .slice A19 el7.Low.length cp20]] [RE.rd k_Level A1 cp2 a0.Levels, RE.cells g12 (o13 + (0 : Int).toNat * 3) [.int .i64 el7.W, .int .i64 el7.H, .slice A19 el7.Low.length cp20], RE.rd kInt A19 cp20 el7.Low]) [] [0, 3, 4, 5, 8, 9, 10, 13, 14, 17, 18] mixed0 (by kernel_rfl) (by kernel_rfl) (by kernel_rfl) (by rfl) (by exact H.drew) ?_
     obtain ⟨w34, hW⟩ : ∃ W : World, W = { w33 with drawn := w33.drawn + 1 } := ⟨_, rfl⟩
     rw [← hW]
     have H : Sep ok w w34 [.blk b5 28 [.slice A1 a0.Levels.length cp2], .blk b24 54 [.int .i64 el7.W, .int .i64 el7.H, .slice A19 el7.Low.length cp20]] [RE.rd k_Level A1 cp2 a0.Levels, RE.cells g12 (o13 + (0 : Int).toNat * 3) [.int .i64 el7.W, .int .i64 el7.H, .slice A19 el7.Low.length cp20], RE.rd kInt A19 cp20 el7.Low] := by rw [hW]; exact H.drew
     clear hW
     refine PR_free (by rfl) (by rfl) (by rfl) (by exact wn0 rfl) (fun wS => (x_fieldAddr fo54_2 (by rfl))) ?_
     refine PR_take (by rfl) (by rfl) (by rfl) (by exact wn0 rfl) (fun wS (H : Sep ok w wS [.blk b5 28 [.slice A1 a0.Levels.length cp2], .blk b24 54 [.int .i64 el7.W, .int .i64 el7.H, .slice A19 el7.Low.length cp20]] [RE.rd k_Level A1 cp2 a0.Levels, RE.cells g12 (o13 + (0 : Int).toNat * 3) [.int .i64 el7.W, .int .i64 el7.H, .slice A19 el7.Low.length cp20], RE.rd kInt A19 cp20 el7.Low]) => (x_load (j := 2) (v := .slice A19 el7.Low.length cp20) sc23 (by rfl) (H.cells (i := 1) (by rfl)) (by rfl))) ?_
     obtain ⟨v36, hv35, hm⟩ := bind_some hm
     refine PR_run (by rfl) (O_call (by exact wn0 rfl) (by rfl) (by rfl) (x_callL (by rfl) (args := [.slice A19 el7.Low.length cp20]) (by rfl) (cf63 _ _)) (c63 okT K w34 el7.Low A19 cp20 (H.rd (i := 2) (by rfl)).any v36 hv35) ?_)
     rintro e w37 ⟨rfl, H2⟩
     have H : Sep ok w w37 [.blk b5 28 [.slice A1 a0.Levels.length cp2], .blk b24 54 [.int .i64 el7.W, .int .i64 el7.H, .slice A19 el7.Low.length cp20]] [RE.rd k_Level A1 cp2 a0.Levels, RE.cells g12 (o13 + (0 : Int).toNat * 3) [.int .i64 el7.W, .int .i64 el7.H, .slice A19 el7.Low.length cp20], RE.rd kInt A19 cp20 el7.Low] := H.below H2.base
     clear H2
     refine ⟨_, rfl, H, ?_⟩
     show PR _ _ _ _ _ _ _ _
     refine PR_free (by rfl) (by rfl) (by rfl) (by exact wn0 rfl) (fun wS => (x_lss (by rfl) (by rfl))) ?_
     refine PR_free (by rfl) (by rfl) (by rfl) (by exact wn0 rfl) (fun wS => (x_move (v := .bool (decide (v36 < (-2048)))) (by rfl))) ?_
     obtain ⟨b38, hmS, hm⟩ := bind_some hm
     refine PR_cut 5 (fun r' w' => Agr [(46, .bool b38), (1, .pointer (some ⟨b5, 0, none⟩)), (3, .pointer (some ⟨b24, 0, none⟩))] r' ∧ Sep ok w w' [.blk b5 28 [.slice A1 a0.Levels.length cp2], .blk b24 54 [.int .i64 el7.W, .int .i64 el7.H, .slice A19 el7.Low.length cp20]] [RE.rd k_Level A1 cp2 a0.Levels, RE.cells g12 (o13 + (0 : Int).toNat * 3) [.int .i64 el7.W, .int .i64 el7.H, .slice A19 el7.Low.length cp20], RE.rd kInt A19 cp20 el7.Low]) ?_ ?_
     ·cases hbS : (decide (v36 < (-2048)))
      ·have hm := cond_f hbS hmS
       refine PR_free (by rfl) (by rfl) (by rfl) (by exact wn1 rfl rfl rfl rfl) (fun wS => (x_fieldAddr fo54_2 (by rfl))) ?_
       refine PR_take (by rfl) (by rfl) (by rfl) (by exact wn1 rfl rfl rfl rfl) (fun wS (H : Sep ok w wS [.blk b5 28 [.slice A1 a0.Levels.length cp2], .blk b24 54 [.int .i64 el7.W, .int .i64 el7.H, .slice A19 el7.Low.length cp20]] [RE.rd k_Level A1 cp2 a0.Levels, RE.cells g12 (o13 + (0 : Int).toNat * 3) [.int .i64 el7.W, .int .i64 el7.H, .slice A19 el7.Low.length cp20], RE.rd kInt A19 cp20 el7.Low]) => (x_load (j := 2) (v := .slice A19 el7.Low.length cp20) sc23 (by rfl) (H.cells (i := 1) (by rfl)) (by rfl))) ?_
       obtain ⟨v40, hv39, hm⟩ := bind_some hm
       refine PR_run (by rfl) (O_call (by exact wn1 rfl rfl rfl rfl) (by rfl) (by rfl) (x_callL (by rfl) (args := [.slice A19 el7.Low.length cp20]) (by rfl) (cf64 _ _)) (c64 okT K w37 el7.Low A19 cp20 (H.rd (i := 2) (by rfl)).any v40 hv39) ?_)
       rintro e w41 ⟨rfl, H2⟩
       have H : Sep ok w w41 [.blk b5 28 [.slice A1 a0.Levels.length cp2], .blk b24 54 [.int .i64 el7.W, .int .i64 el7.H, .slice A19 el7.Low.length cp20]] [RE.rd k_Level A1 cp2 a0.Levels, RE.cells g12 (o13 + (0 : Int).toNat * 3) [.int .i64 el7.W, .int .i64 el7.H, .slice A19 el7.Low.length cp20], RE.rd kInt A19 cp20 el7.Low] := H.below H2.base
       clear H2
       refine ⟨_, rfl, H, ?_⟩
       show PR _ _ _ _ _ _ _ _
       refine PR_free (by rfl) (by rfl) (by rfl) (by exact wn1 rfl rfl rfl rfl) (fun wS => (x_gtr (by rfl) (by rfl))) ?_
       refine PR_free (by rfl) (by rfl) (by rfl) (by exact wn0 rfl) (fun wS => (x_pick_f (v := .bool (decide (66560 < v40))) (by rfl) (by rfl))) ?_
       refine PR_nil ?_
       exact ⟨⟨congrArg Value.bool (Option.some.inj hm), rfl, rfl, trivial⟩, H⟩
      ·have hm := cond_t hbS hmS
       refine PR_offF (by rfl) (by rfl) (by rfl) (by exact wn2 rfl rfl rfl rfl) ?_
       refine PR_off (by rfl) (by rfl) (by rfl) (by exact wn2 rfl rfl rfl rfl) ?_
       refine PR_run (by rfl) (OpR_off (by exact wn2 rfl rfl rfl rfl) (by rfl) (by rfl) ⟨H, ?_⟩)
       refine PR_offF (by rfl) (by rfl) (by rfl) (by exact wn2 rfl rfl rfl rfl) ?_
       refine PR_free (by rfl) (by rfl) (by rfl) (by exact wn0 rfl) (fun wS => (x_pick_t (v := .bool true) (by rfl) (by rfl))) ?_
       refine PR_nil ?_
       exact ⟨⟨congrArg Value.bool (Option.some.inj hm), rfl, rfl, trivial⟩, H⟩
     ·rintro r' w' ⟨hA, H⟩
      obtain ⟨r42, rfl⟩ := regen _ hA; clear hA
      obtain ⟨w43, rfl⟩ : ∃ W : World, W = w' := ⟨_, rfl⟩
      show PR _ _ _ _ _ _ _ _
      refine PR_free (by rfl) (by rfl) (by rfl) (by exact wn0 rfl) (fun wS => (x_move (v := .bool b38) (by rfl))) ?_
      obtain ⟨b44, hmS, hm⟩ := bind_some hm
      refine PR_cut 8 (fun r' w' => Agr [(55, .bool b44)] r' ∧ Sep ok w w' [.blk b5 28 [.slice A1 a0.Levels.length cp2], .blk b24 54 [.int .i64 el7.W, .int .i64 el7.H, .slice A19 el7.Low.length cp20]] [RE.rd k_Level A1 cp2 a0.Levels, RE.cells g12 (o13 + (0 : Int).toNat * 3) [.int .i64 el7.W, .int .i64 el7.H, .slice A19 el7.Low.length cp20], RE.rd kInt A19 cp20 el7.Low]) ?_ ?_
      ·cases hbS : b38
       ·have hm := cond_f hbS hmS
        refine PR_take (by rfl) (by rfl) (by rfl) (by exact wn1 rfl rfl rfl rfl) (fun wS (H : Sep ok w wS [.blk b5 28 [.slice A1 a0.Levels.length cp2], .blk b24 54 [.int .i64 el7.W, .int .i64 el7.H, .slice A19 el7.Low.length cp20]] [RE.rd k_Level A1 cp2 a0.Levels, RE.cells g12 (o13 + (0 : Int).toNat * 3) [.int .i64 el7.W, .int .i64 el7.H, .slice A19 el7.Low.length cp20], RE.rd kInt A19 cp20 el7.Low]) => (x_loadA (j := 0) (vs := [.int .i64 el7.W, .int .i64 el7.H, .slice A19 el7.Low.length cp20]) ag54 (by rfl) (H.cells (i := 1) (by rfl)) (by rfl) (by rfl))) ?_
        refine PR_free (by rfl) (by rfl) (by rfl) (by exact wn1 rfl rfl rfl rfl) (fun wS => (x_fieldAddr fo28_0 (by rfl))) ?_
        refine PR_take (by rfl) (by rfl) (by rfl) (by exact wn1 rfl rfl rfl rfl) (fun wS (H : Sep ok w wS [.blk b5 28 [.slice A1 a0.Levels.length cp2], .blk b24 54 [.int .i64 el7.W, .int .i64 el7.H, .slice A19 el7.Low.length cp20]] [RE.rd k_Level A1 cp2 a0.Levels, RE.cells g12 (o13 + (0 : Int).toNat * 3) [.int .i64 el7.W, .int .i64 el7.H, .slice A19 el7.Low.length cp20], RE.rd kInt A19 cp20 el7.Low]) => (x_load (j := 0) (v := .slice A1 a0.Levels.length cp2) sc26 (by rfl) (H.cells (i := 0) (by rfl)) (by rfl))) ?_
        obtain ⟨v46, hv45, hm⟩ := bind_some hm
        refine PR_run (by rfl) (O_call (by exact wn1 rfl rfl rfl rfl) (by rfl) (by rfl) (x_callL (by rfl) (args := [.agg #[.int .i64 el7.W, .int .i64 el7.H, .slice A19 el7.Low.length cp20]]) (by rfl) (cf58 _ _)) (c58 (okS ok w [.blk b5 28 [.slice A1 a0.Levels.length cp2], .blk b24 54 [.int .i64 el7.W, .int .i64 el7.H, .slice A19 el7.Low.length cp20]]) K w43 el7 A19 cp20 (H.rd (i := 2) (by rfl)) v46 hv45) ?_)
        rintro e w47 ⟨A48, cp49, rfl, H2⟩
        have H : Sep ok w w47 [.blk b5 28 [.slice A1 a0.Levels.length cp2], .blk b24 54 [.int .i64 el7.W, .int .i64 el7.H, .slice A19 el7.Low.length cp20]] [RE.rd k_Level A1 cp2 a0.Levels, RE.cells g12 (o13 + (0 : Int).toNat * 3) [.int .i64 el7.W, .int .i64 el7.H, .slice A19 el7.Low.length cp20], RE.rd kInt A19 cp20 el7.Low, RE.rd k_Level A48 cp49 v46.Levels] := H.call H2
        clear H2
        refine ⟨_, rfl, (Sep.takeR H 3), ?_⟩
        show PR _ _ _ _ _ _ _ _
        refine PR_free (by rfl) (by rfl) (by rfl) (by exact wn1 rfl rfl rfl rfl) (fun wS => (x_field fv28_0 (by rfl) (by rfl))) ?_
        obtain ⟨v52, hv51, hm⟩ := bind_some hm
        refine PR_run (by rfl) (O_call (by exact wn1 rfl rfl rfl rfl) (by rfl) (by rfl) (x_callL (by rfl) (args := [.slice A48 v46.Levels.length cp49, .slice A1 a0.Levels.length cp2, .func (.func 66) #[] #[]]) (by rfl) (cf65 _ _)) (c65 okT K w47 v46.Levels A48 cp49 a0.Levels A1 cp2 (H.rd (i := 3) (by rfl)).any (H.rd (i := 0) (by rfl)).any v52 hv51) ?_)
        rintro e w53 ⟨rfl, H2⟩
        have H : Sep ok w w53 [.blk b5 28 [.slice A1 a0.Levels.length cp2], .blk b24 54 [.int .i64 el7.W, .int .i64 el7.H, .slice A19 el7.Low.length cp20]] [RE.rd k_Level A1 cp2 a0.Levels, RE.cells g12 (o13 + (0 : Int).toNat * 3) [.int .i64 el7.W, .int .i64 el7.H, .slice A19 el7.Low.length cp20], RE.rd kInt A19 cp20 el7.Low, RE.rd k_Level A48 cp49 v46.Levels] := H.below H2.base
        clear H2
        refine ⟨_, rfl, (Sep.takeR H 3), ?_⟩
        show PR _ _ _ _ _ _ _ _
        refine PR_free (by rfl) (by rfl) (by rfl) (by exact wn1 rfl rfl rfl rfl) (fun wS => (x_not (by rfl))) ?_
        refine PR_free (by rfl) (by rfl) (by rfl) (by exact wn0 rfl) (fun wS => (x_pick_f (v := .bool (!v52)) (by rfl) (by rfl))) ?_
        refine PR_nil ?_
        exact ⟨⟨congrArg Value.bool (Option.some.inj hm), trivial⟩, (H.takeL 2).takeR 3⟩
       ·have hm := cond_t hbS hmS
        refine PR_off (by rfl) (by rfl) (by rfl) (by exact wn2 rfl rfl rfl rfl) ?_
        refine PR_offF (by rfl) (by rfl) (by rfl) (by exact wn2 rfl rfl rfl rfl) ?_
        refine PR_off (by rfl) (by rfl) (by rfl) (by exact wn2 rfl rfl rfl rfl) ?_
        refine PR_run (by rfl) (OpR_off (by exact wn2 rfl rfl rfl rfl) (by rfl) (by rfl) ⟨H, ?_⟩)
        refine PR_offF (by rfl) (by rfl) (by rfl) (by exact wn2 rfl rfl rfl rfl) ?_
        refine PR_run (by rfl) (OpR_off (by exact wn2 rfl rfl rfl rfl) (by rfl) (by rfl) ⟨H, ?_⟩)
        refine PR_offF (by rfl) (by rfl) (by rfl) (by exact wn2 rfl rfl rfl rfl) ?_
        refine PR_free (by rfl) (by rfl) (by rfl) (by exact wn0 rfl) (fun wS => (x_pick_t (v := .bool true) (by rfl) (by rfl))) ?_
        refine PR_nil ?_
        exact ⟨⟨congrArg Value.bool (Option.some.inj hm), trivial⟩, H⟩
      ·rintro r' w' ⟨hA, H⟩
       obtain ⟨r54, rfl⟩ := regen _ hA; clear hA
       obtain ⟨w55, rfl⟩ : ∃ W : World, W = w' := ⟨_, rfl⟩
       show PR _ _ _ _ _ _ _ _
       refine PR_nil ?_
       refine W_cond (by rfl) (fun hb => ?_) (fun hb => ?_)
       ·have hm := cond_t hb hm
        refine W_seq ?_
        refine W_region ?_
        refine RL_pure (by exact wn0 rfl) (by rfl) (by rfl) (x_assign (v := .int .i64 8) (by rfl)) ?_
        refine RL_nil ?_
        refine W_ret ?_
        obtain rfl := Option.some.inj hm
        exact ⟨[.int .i64 8], (.tmp (by rfl) rfl), rfl, H.none_⟩
       ·have hm := cond_f hb hm
        refine W_skip ?_
        refine W_seq ?_
        refine W_region ?_
        refine RL_pure (by exact wn0 rfl) (by rfl) (by rfl) (x_assign (v := .int .i64 0) (by rfl)) ?_
        refine RL_nil ?_
        refine W_ret ?_
        obtain rfl := Option.some.inj hm
        exact ⟨[.int .i64 0], (.tmp (by rfl) rfl), rfl, H.none_⟩
end Go.Proofs.YtobkigllalbkiaaV.M

/- A plain Lean function that answers as the Go function does (none: not told), and the proof that a call answers so. Written by program. -/
set_option linter.unusedVariables false
namespace Go.Proofs.YtobkigllalbkiaaV.M
open Go.RowKit Go.Proofs.YtobkigllalbkiaaV
/-- diorama/pyramid.low -/
def m62b (K : Nat) (self : S_Pyramid → Int → Int → Int → S_Rect → Int → Option (Int)) (a0 : S_Pyramid) (a1 : Int) (a2 : Int) (a3 : Int) (a4 : S_Rect) (a5 : Int) : Option (Int) :=
 (idx a0.Levels a1 fun el9 => (ge0 a1 ((bif (decide (el9.W ≤ a2)) then some true else some (decide (el9.H ≤ a3))).bind fun b31 => ((bif b31 then some true else (ck (a2 * (shlV .i64 1 a1)) fun x35 => some (decide (a4.X1 < x35)))).bind fun b34 => ((bif b34 then some true else (ck (a2 + 1) fun x39 => (ck (x39 * (shlV .i64 1 a1)) fun x40 => some (decide (x40 ≤ a4.X0))))).bind fun b38 => ((bif b38 then some true else (ck (a3 * (shlV .i64 1 a1)) fun x44 => some (decide (a4.Y1 < x44)))).bind fun b43 => ((bif b43 then some true else (ck (a3 + 1) fun x48 => (ck (x48 * (shlV .i64 1 a1)) fun x49 => some (decide (x49 ≤ a4.Y0))))).bind fun b47 => ((bif b47 then some true else ((m109 K el9 a2 a3).bind fun v54 => some (decide (a5 ≤ v54)))).bind fun b52 => (bif b52 then some a5 else (ck (a2 * (shlV .i64 1 a1)) fun x58 => ((bif (decide (a4.X0 ≤ x58)) then (ck (a2 + 1) fun x60 => (ck (x60 * (shlV .i64 1 a1)) fun x61 => (ck (x61 - 1) fun x62 => some (decide (x62 ≤ a4.X1))))) else some false).bind fun b59 => ((bif b59 then (ck (a3 * (shlV .i64 1 a1)) fun x66 => some (decide (a4.Y0 ≤ x66))) else some false).bind fun b65 => ((bif b65 then (ck (a3 + 1) fun x70 => (ck (x70 * (shlV .i64 1 a1)) fun x71 => (ck (x71 - 1) fun x72 => some (decide (x72 ≤ a4.Y1))))) else some false).bind fun b69 => (bif b69 then ((m109 K el9 a2 a3).bind fun v76 => some v76) else (ck (a1 - 1) fun x78 => (ck (2 * a2) fun x79 => (ck (x79 + (Int.tmod 0 2)) fun x80 => (ck (2 * a3) fun x81 => (ck (Int.tdiv 0 2) fun x82 => (ck (x81 + x82) fun x83 => ((self a0 x78 x80 x83 a4 a5).bind fun v85 => (ck (a1 - 1) fun x87 => (ck (2 * a2) fun x88 => (ck (x88 + (Int.tmod 1 2)) fun x89 => (ck (2 * a3) fun x90 => (ck (Int.tdiv 1 2) fun x91 => (ck (x90 + x91) fun x92 => ((self a0 x87 x89 x92 a4 v85).bind fun v94 => (ck (a1 - 1) fun x96 => (ck (2 * a2) fun x97 => (ck (x97 + (Int.tmod 2 2)) fun x98 => (ck (2 * a3) fun x99 => (ck (Int.tdiv 2 2) fun x100 => (ck (x99 + x100) fun x101 => ((self a0 x96 x98 x101 a4 v94).bind fun v103 => (ck (a1 - 1) fun x105 => (ck (2 * a2) fun x106 => (ck (x106 + (Int.tmod 3 2)) fun x107 => (ck (2 * a3) fun x108 => (ck (Int.tdiv 3 2) fun x109 => (ck (x108 + x109) fun x110 => ((self a0 x105 x107 x110 a4 v103).bind fun v112 => some v112))))))))))))))))))))))))))))))))))))))))))
def m62f (K : Nat) : Nat → S_Pyramid → Int → Int → Int → S_Rect → Int → Option (Int)
 | 0 => fun _ _ _ _ _ _ => none
 | k + 1 => m62b K (m62f K k)
def m62 (K : Nat) : S_Pyramid → Int → Int → Int → S_Rect → Int → Option (Int) := m62f K K
set_option maxRecDepth 100000 in
set_option maxHeartbeats 4000000 in
theorem c62f (K : Nat) : ∀ (n : Nat) (ok : Okp) (w : World) (a0 : S_Pyramid) (A1 : Option Addr) (cp2 : Nat) (a1 : Int) (a2 : Int) (a3 : Int) (a4 : S_Rect) (a5 : Int) (hR3 : Rd k_Level w ok A1 cp2 a0.Levels) (res : Int) (hm : m62f K n a0 a1 a2 a3 a4 a5 = some res), Calls Try.prog 62 #[.agg #[.slice A1 a0.Levels.length cp2], .int .i64 a1, .int .i64 a2, .int .i64 a3, .agg #[.int .i64 a4.X0, .int .i64 a4.Y0, .int .i64 a4.X1, .int .i64 a4.Y1], .int .i64 a5] w (fun e w' => e = .returned (tup [.int .i64 res]) ∧ Sep ok w w' [] []) := by
 intro n
 induction n with
 | zero => intro ok w a0 A1 cp2 a1 a2 a3 a4 a5 hR3 res hm; exact (none_some hm).elim
 | succ n ih =>
  intro ok w a0 A1 cp2 a1 a2 a3 a4 a5 hR3 res hm
  have hm : m62b K (m62f K n) a0 a1 a2 a3 a4 a5 = some res := hm
  unfold m62b at hm
  obtain ⟨self, hself⟩ : ∃ f, m62f K n = f := ⟨_, rfl⟩
  rw [hself] at hm ih
  clear hself
  refine calls_W (args := [.agg #[.slice A1 a0.Levels.length cp2], .int .i64 a1, .int .i64 a2, .int .i64 a3, .agg #[.int .i64 a4.X0, .int .i64 a4.Y0, .int .i64 a4.X1, .int .i64 a4.Y1], .int .i64 a5]) Try.func62 rfl Try.ntmps62 Try.results62 rfl fun r hr => ?_
  obtain ⟨r1, rfl⟩ := regen (r := r) [(0, .agg #[.slice A1 a0.Levels.length cp2]), (1, .int .i64 a1), (2, .int .i64 a2), (3, .int .i64 a3), (4, .agg #[.int .i64 a4.X0, .int .i64 a4.Y0, .int .i64 a4.X1, .int .i64 a4.Y1]), (5, .int .i64 a5)] ⟨hr 0 _ rfl, hr 1 _ rfl, hr 2 _ rfl, hr 3 _ rfl, hr 4 _ rfl, hr 5 _ rfl, trivial⟩
  have H : Sep ok w w [] [RE.rd k_Level A1 cp2 a0.Levels] := Sep.arg (Sep.start ok w) (re := RE.rd k_Level A1 cp2 a0.Levels) rfl rfl hR3
  refine W_seq ?_
  refine W_region ?_
  refine RL_cons (O_box (by exact wn0 rfl) (by rfl) (by rfl) (by rfl) H (fun w6 b5 (H : Sep ok w w6 [.blk b5 28 [.slice A1 a0.Levels.length cp2]] [RE.rd k_Level A1 cp2 a0.Levels]) => ?_))
  refine RL_cons (O_box (by exact wn0 rfl) (by rfl) (by rfl) (by rfl) H (fun w8 b7 (H : Sep ok w w8 [.blk b5 28 [.slice A1 a0.Levels.length cp2], .blk b7 30 [.int .i64 a4.X0, .int .i64 a4.Y0, .int .i64 a4.X1, .int .i64 a4.Y1]] [RE.rd k_Level A1 cp2 a0.Levels]) => ?_))
  refine RL_pure (by exact wn0 rfl) (by rfl) (by rfl) (x_assign (v := .int .i64 0) (by rfl)) ?_
  refine RL_nil ?_
  refine W_seq ?_
  obtain ⟨el9, h10, h11, he12, hm⟩ := idx_some hm
  obtain ⟨g14, o15, hA13⟩ := (H.rd (i := 0) (by rfl)).addr he12
  obtain ⟨cs16, hk17, hat18, hg_cs16⟩ := (H.rd (i := 0) (by rfl)).openAt hA13 he12
  obtain ⟨A21, cp22, rfl, hR24⟩ := hk17
  have H : Sep ok w w8 [.blk b5 28 [.slice A1 a0.Levels.length cp2], .blk b7 30 [.int .i64 a4.X0, .int .i64 a4.Y0, .int .i64 a4.X1, .int .i64 a4.Y1]] [RE.rd k_Level A1 cp2 a0.Levels, RE.cells g14 (o15 + (a1).toNat * 3) [.int .i64 el9.W, .int .i64 el9.H, .slice A21 el9.Low.length cp22]] := Sep.also H (re := RE.cells g14 (o15 + (a1).toNat * 3) [.int .i64 el9.W, .int .i64 el9.H, .slice A21 el9.Low.length cp22]) ⟨hg_cs16, hat18⟩
  have H : Sep ok w w8 [.blk b5 28 [.slice A1 a0.Levels.length cp2], .blk b7 30 [.int .i64 a4.X0, .int .i64 a4.Y0, .int .i64 a4.X1, .int .i64 a4.Y1]] [RE.rd k_Level A1 cp2 a0.Levels, RE.cells g14 (o15 + (a1).toNat * 3) [.int .i64 el9.W, .int .i64 el9.H, .slice A21 el9.Low.length cp22], RE.rd kInt A21 cp22 el9.Low] := Sep.also H (re := RE.rd kInt A21 cp22 el9.Low) hR24
  obtain ⟨nx26, hm⟩ := ge0_some hm
  refine W_draw [.free 0, .take 1, .free 2, .free 3, .take 4, .free 5, .free 6, .run 7, .tail 8, .free 9] (fun wS => Sep ok w wS [.blk b5 28 [.slice A1 a0.Levels.length cp2], .blk b7 30 [.int .i64 a4.X0, .int .i64 a4.Y0, .int .i64 a4.X1, .int .i64 a4.Y1]] [RE.rd k_Level A1 cp2 a0.Levels, RE.cells g14 (o15 + (a1).toNat * 3) [.int .i64 el9.W, .int .i64 el9.H, .slice A21 el9.Low.length cp22], RE.rd kInt A21 cp22 el9.Low]) [8] [0, 2, 3, 5, 6, 9] mixed0 (by kernel_rfl) (by kernel_rfl) (by kernel_rfl) (by rfl) (by exact H.drew) ?_
  obtain ⟨w27, hW⟩ : ∃ W : World, W = { w8 with drawn := w8.drawn + 1 } := ⟨_, rfl⟩
  rw [← hW]
  have H : Sep ok w w27 [.blk b5 28 [.slice A1 a0.Levels.length cp2], .blk b7 30 [.int .i64 a4.X0, .int .i64 a4.Y0, .int .i64 a4.X1, .int .i64 a4.Y1]] [RE.rd k_Level A1 cp2 a0.Levels, RE.cells g14 (o15 + (a1).toNat * 3) [.int .i64 el9.W, .int .i64 el9.H, .slice A21 el9.Low.length cp22], RE.rd kInt A21 cp22 el9.Low] := by rw [hW]; exact H.drew
  clear hW
  refine PR_free (by rfl) (by rfl) (by rfl) (by exact wn0 rfl) (fun wS => (x_fieldAddr fo28_0 (by rfl))) ?_
  refine PR_take (by rfl) (by rfl) (by rfl) (by exact wn0 rfl) (fun wS (H : Sep ok w wS [.blk b5 28 [.slice A1 a0.Levels.length cp2], .blk b7 30 [.int .i64 a4.X0, .int .i64 a4.Y0, .int .i64 a4.X1, .int .i64 a4.Y1]] [RE.rd k_Level A1 cp2 a0.Levels, RE.cells g14 (o15 + (a1).toNat * 3) [.int .i64 el9.W, .int .i64 el9.H, .slice A21 el9.Low.length cp22], RE.rd kInt A21 cp22 el9.Low]) => (x_load (j := 0) (v := .slice A1 a0.Levels.length cp2) sc26 (by rfl) (H.cells (i := 0) (by rfl)) (by rfl))) ?_
  refine PR_free (by rfl) (by rfl) (by rfl) (by exact wn0 rfl) (fun wS => (x_move (v := .int .i64 a1) (by rfl))) ?_
  refine PR_free (by rfl) (by rfl) (by rfl) (by exact wn0 rfl) (fun wS => (x_indexAddr sl26 sz54 (by rfl) (by rfl) hA13 h10 h11)) ?_
  refine PR_take (by rfl) (by rfl) (by rfl) (by exact wn0 rfl) (fun wS (H : Sep ok w wS [.blk b5 28 [.slice A1 a0.Levels.length cp2], .blk b7 30 [.int .i64 a4.X0, .int .i64 a4.Y0, .int .i64 a4.X1, .int .i64 a4.Y1]] [RE.rd k_Level A1 cp2 a0.Levels, RE.cells g14 (o15 + (a1).toNat * 3) [.int .i64 el9.W, .int .i64 el9.H, .slice A21 el9.Low.length cp22], RE.rd kInt A21 cp22 el9.Low]) => (x_loadA (j := 0) (vs := [.int .i64 el9.W, .int .i64 el9.H, .slice A21 el9.Low.length cp22]) ag54 (by rfl) (H.cellsR (i := 1) (by rfl)) (by rfl) (by rfl))) ?_
  refine PR_free (by rfl) (by rfl) (by rfl) (by exact wn0 rfl) (fun wS => (x_move (v := .int .i64 a1) (by rfl))) ?_
  refine PR_free (by rfl) (by rfl) (by rfl) (by exact wn0 rfl) (fun wS => (x_shl (by rfl) (by rfl) nx26)) ?_
  refine PR_run (by rfl) (O_alloc (by exact wn0 rfl) (by rfl) ze54 (by rfl) H (fun w29 b28 (H : Sep ok w w29 [.blk b5 28 [.slice A1 a0.Levels.length cp2], .blk b7 30 [.int .i64 a4.X0, .int .i64 a4.Y0, .int .i64 a4.X1, .int .i64 a4.Y1], .blk b28 54 [.int .i64 0, .int .i64 0, .slice none 0 0]] [RE.rd k_Level A1 cp2 a0.Levels, RE.cells g14 (o15 + (a1).toNat * 3) [.int .i64 el9.W, .int .i64 el9.H, .slice A21 el9.Low.length cp22], RE.rd kInt A21 cp22 el9.Low]) => ⟨(Sep.takeL H 2), ?_⟩))
  refine PR_tail (by rfl) (O_store (i := 2) (off := 0) (by exact wn0 rfl) (by rfl) (by rfl) H (by rfl) (vs := [.int .i64 el9.W, .int .i64 el9.H, .slice A21 el9.Low.length cp22]) (by rfl) sz54 (by rfl) (by rfl) (by rfl) (fun w30 (H : Sep ok w w30 [.blk b5 28 [.slice A1 a0.Levels.length cp2], .blk b7 30 [.int .i64 a4.X0, .int .i64 a4.Y0, .int .i64 a4.X1, .int .i64 a4.Y1], .blk b28 54 [.int .i64 el9.W, .int .i64 el9.H, .slice A21 el9.Low.length cp22]] [RE.rd k_Level A1 cp2 a0.Levels, RE.cells g14 (o15 + (a1).toNat * 3) [.int .i64 el9.W, .int .i64 el9.H, .slice A21 el9.Low.length cp22], RE.rd kInt A21 cp22 el9.Low]) => ?_))
  refine PR_free (by rfl) (by rfl) (by rfl) (by exact wn0 rfl) (fun wS => (x_assign (v := .int .i64 (shlV .i64 1 a1)) (by rfl))) ?_
  refine PR_nil ?_
  refine W_seq ?_
  refine W_region ?_
  refine RL_pure (by exact wn0 rfl) (by rfl) (by rfl) (x_move (v := .int .i64 a2) (by rfl)) ?_
  refine RL_pure (by exact wn0 rfl) (by rfl) (by rfl) (x_fieldAddr fo54_0 (by rfl)) ?_
  refine RL_pure (by exact wn0 rfl) (by rfl) (by rfl) (x_load (j := 0) (v := .int .i64 el9.W) sc3 (by rfl) (H.cells (i := 2) (by rfl)) (by rfl)) ?_
  refine RL_pure (by exact wn0 rfl) (by rfl) (by rfl) (x_geq (by rfl) (by rfl)) ?_
  refine RL_pure (by exact wn0 rfl) (by rfl) (by rfl) (x_move (v := .bool (decide (el9.W ≤ a2))) (by rfl)) ?_
  obtain ⟨b31, hmS, hm⟩ := bind_some hm
  refine RL_cut 5 (fun r' w' => Agr [(33, .bool b31), (1, .int .i64 a1), (2, .int .i64 a2), (3, .int .i64 a3), (5, .int .i64 a5), (6, .pointer (some ⟨b5, 0, none⟩)), (10, .pointer (some ⟨b7, 0, none⟩)), (13, .pointer (some ⟨b28, 0, none⟩)), (14, .int .i64 (shlV .i64 1 a1))] r' ∧ Sep ok w w' [.blk b5 28 [.slice A1 a0.Levels.length cp2], .blk b7 30 [.int .i64 a4.X0, .int .i64 a4.Y0, .int .i64 a4.X1, .int .i64 a4.Y1], .blk b28 54 [.int .i64 el9.W, .int .i64 el9.H, .slice A21 el9.Low.length cp22]] [RE.rd k_Level A1 cp2 a0.Levels, RE.cells g14 (o15 + (a1).toNat * 3) [.int .i64 el9.W, .int .i64 el9.H, .slice A21 el9.Low.length cp22], RE.rd kInt A21 cp22 el9.Low]) ?_ ?_
  ·cases hbS : (decide (el9.W ≤ a2))
   ·have hm := cond_f hbS hmS
    refine RL_pure (by exact wn1 rfl rfl rfl rfl) (by rfl) (by rfl) (x_move (v := .int .i64 a3) (by rfl)) ?_
    refine RL_pure (by exact wn1 rfl rfl rfl rfl) (by rfl) (by rfl) (x_fieldAddr fo54_1 (by rfl)) ?_
    refine RL_pure (by exact wn1 rfl rfl rfl rfl) (by rfl) (by rfl) (x_load (j := 1) (v := .int .i64 el9.H) sc3 (by rfl) (H.cells (i := 2) (by rfl)) (by rfl)) ?_
    refine RL_pure (by exact wn1 rfl rfl rfl rfl) (by rfl) (by rfl) (x_geq (by rfl) (by rfl)) ?_
    refine RL_pure (by exact wn0 rfl) (by rfl) (by rfl) (x_pick_f (v := .bool (decide (el9.H ≤ a3))) (by rfl) (by rfl)) ?_
    refine RL_nil ?_
    exact ⟨⟨congrArg Value.bool (Option.some.inj hm), rfl, rfl, rfl, rfl, rfl, rfl, rfl, rfl, trivial⟩, H⟩
   ·have hm := cond_t hbS hmS
    refine RL_cons (OpR_off (by exact wn2 rfl rfl rfl rfl) (by rfl) (by rfl) ?_)
    refine RL_cons (OpR_off (by exact wn2 rfl rfl rfl rfl) (by rfl) (by rfl) ?_)
    refine RL_cons (OpR_off (by exact wn2 rfl rfl rfl rfl) (by rfl) (by rfl) ?_)
    refine RL_cons (OpR_off (by exact wn2 rfl rfl rfl rfl) (by rfl) (by rfl) ?_)
    refine RL_pure (by exact wn0 rfl) (by rfl) (by rfl) (x_pick_t (v := .bool true) (by rfl) (by rfl)) ?_
    refine RL_nil ?_
    exact ⟨⟨congrArg Value.bool (Option.some.inj hm), rfl, rfl, rfl, rfl, rfl, rfl, rfl, rfl, trivial⟩, H⟩
  ·rintro r' w' ⟨hA, H⟩
   obtain ⟨r32, rfl⟩ := regen _ hA; clear hA
   obtain ⟨w33, rfl⟩ : ∃ W : World, W = w' := ⟨_, rfl⟩
   show RL _ _ _ _ _ _ _
   refine RL_pure (by exact wn0 rfl) (by rfl) (by rfl) (x_move (v := .bool b31) (by rfl)) ?_
   obtain ⟨b34, hmS, hm⟩ := bind_some hm
   refine RL_cut 7 (fun r' w' => Agr [(41, .bool b34), (1, .int .i64 a1), (2, .int .i64 a2), (3, .int .i64 a3), (5, .int .i64 a5), (6, .pointer (some ⟨b5, 0, none⟩)), (10, .pointer (some ⟨b7, 0, none⟩)), (13, .pointer (some ⟨b28, 0, none⟩)), (14, .int .i64 (shlV .i64 1 a1))] r' ∧ Sep ok w w' [.blk b5 28 [.slice A1 a0.Levels.length cp2], .blk b7 30 [.int .i64 a4.X0, .int .i64 a4.Y0, .int .i64 a4.X1, .int .i64 a4.Y1], .blk b28 54 [.int .i64 el9.W, .int .i64 el9.H, .slice A21 el9.Low.length cp22]] [RE.rd k_Level A1 cp2 a0.Levels, RE.cells g14 (o15 + (a1).toNat * 3) [.int .i64 el9.W, .int .i64 el9.H, .slice A21 el9.Low.length cp22], RE.rd kInt A21 cp22 el9.Low]) ?_ ?_
   ·cases hbS : b31
    ·have hm := cond_f hbS hmS
     refine RL_pure (by exact wn1 rfl rfl rfl rfl) (by rfl) (by rfl) (x_move (v := .int .i64 a2) (by rfl)) ?_
     refine RL_pure (by exact wn1 rfl rfl rfl rfl) (by rfl) (by rfl) (x_move (v := .int .i64 (shlV .i64 1 a1)) (by rfl)) ?_
     obtain ⟨x35, ex35, qx35, ux35, hm⟩ := ck_some hm
     refine RL_pure (by exact wn1 rfl rfl rfl rfl) (by rfl) (by rfl) (x_mul (by rfl) (by rfl) ux35) ?_
     refine RL_pure (by exact wn1 rfl rfl rfl rfl) (by rfl) (by rfl) (x_fieldAddr fo30_2 (by rfl)) ?_
     refine RL_pure (by exact wn1 rfl rfl rfl rfl) (by rfl) (by rfl) (x_load (j := 2) (v := .int .i64 a4.X1) sc3 (by rfl) (H.cells (i := 1) (by rfl)) (by rfl)) ?_
     refine RL_pure (by exact wn1 rfl rfl rfl rfl) (by rfl) (by rfl) (x_gtr (by rfl) (by rfl)) ?_
     refine RL_pure (by exact wn0 rfl) (by rfl) (by rfl) (x_pick_f (v := .bool (decide (a4.X1 < x35))) (by rfl) (by rfl)) ?_
     refine RL_nil ?_
     exact ⟨⟨congrArg Value.bool (Option.some.inj hm), rfl, rfl, rfl, rfl, rfl, rfl, rfl, rfl, trivial⟩, H⟩
    ·have hm := cond_t hbS hmS
     refine RL_cons (OpR_off (by exact wn2 rfl rfl rfl rfl) (by rfl) (by rfl) ?_)
     refine RL_cons (OpR_off (by exact wn2 rfl rfl rfl rfl) (by rfl) (by rfl) ?_)
     refine RL_cons (OpR_off (by exact wn2 rfl rfl rfl rfl) (by rfl) (by rfl) ?_)
     refine RL_cons (OpR_off (by exact wn2 rfl rfl rfl rfl) (by rfl) (by rfl) ?_)
     refine RL_cons (OpR_off (by exact wn2 rfl rfl rfl rfl) (by rfl) (by rfl) ?_)
     refine RL_cons (OpR_off (by exact wn2 rfl rfl rfl rfl) (by rfl) (by rfl) ?_)
     refine RL_pure (by exact wn0 rfl) (by rfl) (by rfl) (x_pick_t (v := .bool true) (by rfl) (by rfl)) ?_
     refine RL_nil ?_
     exact ⟨⟨congrArg Value.bool (Option.some.inj hm), rfl, rfl, rfl, rfl, rfl, rfl, rfl, rfl, trivial⟩, H⟩
   ·rintro r' w' ⟨hA, H⟩
    obtain ⟨r36, rfl⟩ := regen _ hA; clear hA
    obtain ⟨w37, rfl⟩ : ∃ W : World, W = w' := ⟨_, rfl⟩
    show RL _ _ _ _ _ _ _
    refine RL_pure (by exact wn0 rfl) (by rfl) (by rfl) (x_move (v := .bool b34) (by rfl)) ?_
    obtain ⟨b38, hmS, hm⟩ := bind_some hm
    refine RL_cut 8 (fun r' w' => Agr [(50, .bool b38), (1, .int .i64 a1), (2, .int .i64 a2), (3, .int .i64 a3), (5, .int .i64 a5), (6, .pointer (some ⟨b5, 0, none⟩)), (10, .pointer (some ⟨b7, 0, none⟩)), (13, .pointer (some ⟨b28, 0, none⟩)), (14, .int .i64 (shlV .i64 1 a1))] r' ∧ Sep ok w w' [.blk b5 28 [.slice A1 a0.Levels.length cp2], .blk b7 30 [.int .i64 a4.X0, .int .i64 a4.Y0, .int .i64 a4.X1, .int .i64 a4.Y1], .blk b28 54 [.int .i64 el9.W, .int .i64 el9.H, .slice A21 el9.Low.length cp22]] [RE.rd k_Level A1 cp2 a0.Levels, RE.cells g14 (o15 + (a1).toNat * 3) [.int .i64 el9.W, .int .i64 el9.H, .slice A21 el9.Low.length cp22], RE.rd kInt A21 cp22 el9.Low]) ?_ ?_
    ·cases hbS : b34
     ·have hm := cond_f hbS hmS
      refine RL_pure (by exact wn1 rfl rfl rfl rfl) (by rfl) (by rfl) (x_move (v := .int .i64 a2) (by rfl)) ?_
      obtain ⟨x39, ex39, qx39, ux39, hm⟩ := ck_some hm
      refine RL_pure (by exact wn1 rfl rfl rfl rfl) (by rfl) (by rfl) (x_add (by rfl) (by rfl) ux39) ?_
      refine RL_pure (by exact wn1 rfl rfl rfl rfl) (by rfl) (by rfl) (x_move (v := .int .i64 (shlV .i64 1 a1)) (by rfl)) ?_
      obtain ⟨x40, ex40, qx40, ux40, hm⟩ := ck_some hm
      refine RL_pure (by exact wn1 rfl rfl rfl rfl) (by rfl) (by rfl) (x_mul (by rfl) (by rfl) ux40) ?_
      refine RL_pure (by exact wn1 rfl rfl rfl rfl) (by rfl) (by rfl) (x_fieldAddr fo30_0 (by rfl)) ?_
      refine RL_pure (by exact wn1 rfl rfl rfl rfl) (by rfl) (by rfl) (x_load (j := 0) (v := .int .i64 a4.X0) sc3 (by rfl) (H.cells (i := 1) (by rfl)) (by rfl)) ?_
      refine RL_pure (by exact wn1 rfl rfl rfl rfl) (by rfl) (by rfl) (x_leq (by rfl) (by rfl)) ?_
      refine RL_pure (by exact wn0 rfl) (by rfl) (by rfl) (x_pick_f (v := .bool (decide (x40 ≤ a4.X0))) (by rfl) (by rfl)) ?_
      refine RL_nil ?_
      exact ⟨⟨congrArg Value.bool (Option.some.inj hm), rfl, rfl, rfl, rfl, rfl, rfl, rfl, rfl, trivial⟩, H⟩
     ·have hm := cond_t hbS hmS
      refine RL_cons (OpR_off (by exact wn2 rfl rfl rfl rfl) (by rfl) (by rfl) ?_)
      refine RL_cons (OpR_off (by exact wn2 rfl rfl rfl rfl) (by rfl) (by rfl) ?_)
      refine RL_cons (OpR_off (by exact wn2 rfl rfl rfl rfl) (by rfl) (by rfl) ?_)
      refine RL_cons (OpR_off (by exact wn2 rfl rfl rfl rfl) (by rfl) (by rfl) ?_)
      refine RL_cons (OpR_off (by exact wn2 rfl rfl rfl rfl) (by rfl) (by rfl) ?_)
      refine RL_cons (OpR_off (by exact wn2 rfl rfl rfl rfl) (by rfl) (by rfl) ?_)
      refine RL_cons (OpR_off (by exact wn2 rfl rfl rfl rfl) (by rfl) (by rfl) ?_)
      refine RL_pure (by exact wn0 rfl) (by rfl) (by rfl) (x_pick_t (v := .bool true) (by rfl) (by rfl)) ?_
      refine RL_nil ?_
      exact ⟨⟨congrArg Value.bool (Option.some.inj hm), rfl, rfl, rfl, rfl, rfl, rfl, rfl, rfl, trivial⟩, H⟩
    ·rintro r' w' ⟨hA, H⟩
     obtain ⟨r41, rfl⟩ := regen _ hA; clear hA
     obtain ⟨w42, rfl⟩ : ∃ W : World, W = w' := ⟨_, rfl⟩
     show RL _ _ _ _ _ _ _
     refine RL_pure (by exact wn0 rfl) (by rfl) (by rfl) (x_move (v := .bool b38) (by rfl)) ?_
     obtain ⟨b43, hmS, hm⟩ := bind_some hm
     refine RL_cut 7 (fun r' w' => Agr [(58, .bool b43), (1, .int .i64 a1), (2, .int .i64 a2), (3, .int .i64 a3), (5, .int .i64 a5), (6, .pointer (some ⟨b5, 0, none⟩)), (10, .pointer (some ⟨b7, 0, none⟩)), (13, .pointer (some ⟨b28, 0, none⟩)), (14, .int .i64 (shlV .i64 1 a1))] r' ∧ Sep ok w w' [.blk b5 28 [.slice A1 a0.Levels.length cp2], .blk b7 30 [.int .i64 a4.X0, .int .i64 a4.Y0, .int .i64 a4.X1, .int .i64 a4.Y1], .blk b28 54 [.int .i64 el9.W, .int .i64 el9.H, .slice A21 el9.Low.length cp22]] [RE.rd k_Level A1 cp2 a0.Levels, RE.cells g14 (o15 + (a1).toNat * 3) [.int .i64 el9.W, .int .i64 el9.H, .slice A21 el9.Low.length cp22], RE.rd kInt A21 cp22 el9.Low]) ?_ ?_
     ·cases hbS : b38
      ·have hm := cond_f hbS hmS
       refine RL_pure (by exact wn1 rfl rfl rfl rfl) (by rfl) (by rfl) (x_move (v := .int .i64 a3) (by rfl)) ?_
       refine RL_pure (by exact wn1 rfl rfl rfl rfl) (by rfl) (by rfl) (x_move (v := .int .i64 (shlV .i64 1 a1)) (by rfl)) ?_
       obtain ⟨x44, ex44, qx44, ux44, hm⟩ := ck_some hm
       refine RL_pure (by exact wn1 rfl rfl rfl rfl) (by rfl) (by rfl) (x_mul (by rfl) (by rfl) ux44) ?_
       refine RL_pure (by exact wn1 rfl rfl rfl rfl) (by rfl) (by rfl) (x_fieldAddr fo30_3 (by rfl)) ?_
       refine RL_pure (by exact wn1 rfl rfl rfl rfl) (by rfl) (by rfl) (x_load (j := 3) (v := .int .i64 a4.Y1) sc3 (by rfl) (H.cells (i := 1) (by rfl)) (by rfl)) ?_
       refine RL_pure (by exact wn1 rfl rfl rfl rfl) (by rfl) (by rfl) (x_gtr (by rfl) (by rfl)) ?_
       refine RL_pure (by exact wn0 rfl) (by rfl) (by rfl) (x_pick_f (v := .bool (decide (a4.Y1 < x44))) (by rfl) (by rfl)) ?_
       refine RL_nil ?_
       exact ⟨⟨congrArg Value.bool (Option.some.inj hm), rfl, rfl, rfl, rfl, rfl, rfl, rfl, rfl, trivial⟩, H⟩
      ·have hm := cond_t hbS hmS
       refine RL_cons (OpR_off (by exact wn2 rfl rfl rfl rfl) (by rfl) (by rfl) ?_)
       refine RL_cons (OpR_off (by exact wn2 rfl rfl rfl rfl) (by rfl) (by rfl) ?_)
       refine RL_cons (OpR_off (by exact wn2 rfl rfl rfl rfl) (by rfl) (by rfl) ?_)
       refine RL_cons (OpR_off (by exact wn2 rfl rfl rfl rfl) (by rfl) (by rfl) ?_)
       refine RL_cons (OpR_off (by exact wn2 rfl rfl rfl rfl) (by rfl) (by rfl) ?_)
       refine RL_cons (OpR_off (by exact wn2 rfl rfl rfl rfl) (by rfl) (by rfl) ?_)
       refine RL_pure (by exact wn0 rfl) (by rfl) (by rfl) (x_pick_t (v := .bool true) (by rfl) (by rfl)) ?_
       refine RL_nil ?_
       exact ⟨⟨congrArg Value.bool (Option.some.inj hm), rfl, rfl, rfl, rfl, rfl, rfl, rfl, rfl, trivial⟩, H⟩
     ·rintro r' w' ⟨hA, H⟩
      obtain ⟨r45, rfl⟩ := regen _ hA; clear hA
      obtain ⟨w46, rfl⟩ : ∃ W : World, W = w' := ⟨_, rfl⟩
      show RL _ _ _ _ _ _ _
      refine RL_pure (by exact wn0 rfl) (by rfl) (by rfl) (x_move (v := .bool b43) (by rfl)) ?_
      obtain ⟨b47, hmS, hm⟩ := bind_some hm
      refine RL_cut 8 (fun r' w' => Agr [(67, .bool b47), (1, .int .i64 a1), (2, .int .i64 a2), (3, .int .i64 a3), (5, .int .i64 a5), (6, .pointer (some ⟨b5, 0, none⟩)), (10, .pointer (some ⟨b7, 0, none⟩)), (13, .pointer (some ⟨b28, 0, none⟩)), (14, .int .i64 (shlV .i64 1 a1))] r' ∧ Sep ok w w' [.blk b5 28 [.slice A1 a0.Levels.length cp2], .blk b7 30 [.int .i64 a4.X0, .int .i64 a4.Y0, .int .i64 a4.X1, .int .i64 a4.Y1], .blk b28 54 [.int .i64 el9.W, .int .i64 el9.H, .slice A21 el9.Low.length cp22]] [RE.rd k_Level A1 cp2 a0.Levels, RE.cells g14 (o15 + (a1).toNat * 3) [.int .i64 el9.W, .int .i64 el9.H, .slice A21 el9.Low.length cp22], RE.rd kInt A21 cp22 el9.Low]) ?_ ?_
      ·cases hbS : b43
       ·have hm := cond_f hbS hmS
        refine RL_pure (by exact wn1 rfl rfl rfl rfl) (by rfl) (by rfl) (x_move (v := .int .i64 a3) (by rfl)) ?_
        obtain ⟨x48, ex48, qx48, ux48, hm⟩ := ck_some hm
        refine RL_pure (by exact wn1 rfl rfl rfl rfl) (by rfl) (by rfl) (x_add (by rfl) (by rfl) ux48) ?_
        refine RL_pure (by exact wn1 rfl rfl rfl rfl) (by rfl) (by rfl) (x_move (v := .int .i64 (shlV .i64 1 a1)) (by rfl)) ?_
        obtain ⟨x49, ex49, qx49, ux49, hm⟩ := ck_some hm
        refine RL_pure (by exact wn1 rfl rfl rfl rfl) (by rfl) (by rfl) (x_mul (by rfl) (by rfl) ux49) ?_
        refine RL_pure (by exact wn1 rfl rfl rfl rfl) (by rfl) (by rfl) (x_fieldAddr fo30_1 (by rfl)) ?_
        refine RL_pure (by exact wn1 rfl rfl rfl rfl) (by rfl) (by rfl) (x_load (j := 1) (v := .int .i64 a4.Y0) sc3 (by rfl) (H.cells (i := 1) (by rfl)) (by rfl)) ?_
        refine RL_pure (by exact wn1 rfl rfl rfl rfl) (by rfl) (by rfl) (x_leq (by rfl) (by rfl)) ?_
        refine RL_pure (by exact wn0 rfl) (by rfl) (by rfl) (x_pick_f (v := .bool (decide (x49 ≤ a4.Y0))) (by rfl) (by rfl)) ?_
        refine RL_nil ?_
        exact ⟨⟨congrArg Value.bool (Option.some.inj hm), rfl, rfl, rfl, rfl, rfl, rfl, rfl, rfl, trivial⟩, H⟩
       ·have hm := cond_t hbS hmS
        refine RL_cons (OpR_off (by exact wn2 rfl rfl rfl rfl) (by rfl) (by rfl) ?_)
        refine RL_cons (OpR_off (by exact wn2 rfl rfl rfl rfl) (by rfl) (by rfl) ?_)
        refine RL_cons (OpR_off (by exact wn2 rfl rfl rfl rfl) (by rfl) (by rfl) ?_)
        refine RL_cons (OpR_off (by exact wn2 rfl rfl rfl rfl) (by rfl) (by rfl) ?_)
        refine RL_cons (OpR_off (by exact wn2 rfl rfl rfl rfl) (by rfl) (by rfl) ?_)
        refine RL_cons (OpR_off (by exact wn2 rfl rfl rfl rfl) (by rfl) (by rfl) ?_)
        refine RL_cons (OpR_off (by exact wn2 rfl rfl rfl rfl) (by rfl) (by rfl) ?_)
        refine RL_pure (by exact wn0 rfl) (by rfl) (by rfl) (x_pick_t (v := .bool true) (by rfl) (by rfl)) ?_
        refine RL_nil ?_
        exact ⟨⟨congrArg Value.bool (Option.some.inj hm), rfl, rfl, rfl, rfl, rfl, rfl, rfl, rfl, trivial⟩, H⟩
      ·rintro r' w' ⟨hA, H⟩
       obtain ⟨r50, rfl⟩ := regen _ hA; clear hA
       obtain ⟨w51, rfl⟩ : ∃ W : World, W = w' := ⟨_, rfl⟩
       show RL _ _ _ _ _ _ _
       refine RL_pure (by exact wn0 rfl) (by rfl) (by rfl) (x_assign (v := .bool b47) (by rfl)) ?_
       refine RL_nil ?_
       refine W_seq ?_
       refine W_seq ?_
       refine W_region ?_
       refine RL_pure (by exact wn0 rfl) (by rfl) (by rfl) (x_move (v := .bool b47) (by rfl)) ?_
       refine RL_pure (by exact wn0 rfl) (by rfl) (by rfl) (x_move (v := .bool b47) (by rfl)) ?_
       obtain ⟨b52, hmS, hm⟩ := bind_some hm
       refine RL_cut 7 (fun r' w' => Agr [(76, .bool b52), (1, .int .i64 a1), (2, .int .i64 a2), (3, .int .i64 a3), (5, .int .i64 a5), (6, .pointer (some ⟨b5, 0, none⟩)), (10, .pointer (some ⟨b7, 0, none⟩)), (13, .pointer (some ⟨b28, 0, none⟩)), (14, .int .i64 (shlV .i64 1 a1))] r' ∧ Sep ok w w' [.blk b5 28 [.slice A1 a0.Levels.length cp2], .blk b7 30 [.int .i64 a4.X0, .int .i64 a4.Y0, .int .i64 a4.X1, .int .i64 a4.Y1], .blk b28 54 [.int .i64 el9.W, .int .i64 el9.H, .slice A21 el9.Low.length cp22]] [RE.rd k_Level A1 cp2 a0.Levels, RE.cells g14 (o15 + (a1).toNat * 3) [.int .i64 el9.W, .int .i64 el9.H, .slice A21 el9.Low.length cp22], RE.rd kInt A21 cp22 el9.Low]) ?_ ?_
       ·cases hbS : b47
        ·have hm := cond_f hbS hmS
         refine RL_pure (by exact wn1 rfl rfl rfl rfl) (by rfl) (by rfl) (x_loadA (j := 0) (vs := [.int .i64 el9.W, .int .i64 el9.H, .slice A21 el9.Low.length cp22]) ag54 (by rfl) (H.cells (i := 2) (by rfl)) (by rfl) (by rfl)) ?_
         refine RL_pure (by exact wn1 rfl rfl rfl rfl) (by rfl) (by rfl) (x_move (v := .int .i64 a2) (by rfl)) ?_
         refine RL_pure (by exact wn1 rfl rfl rfl rfl) (by rfl) (by rfl) (x_move (v := .int .i64 a3) (by rfl)) ?_
         obtain ⟨v54, hv53, hm⟩ := bind_some hm
         refine RL_cons (O_call (by exact wn1 rfl rfl rfl rfl) (by rfl) (by rfl) (x_callL (by rfl) (args := [.agg #[.int .i64 el9.W, .int .i64 el9.H, .slice A21 el9.Low.length cp22], .int .i64 a2, .int .i64 a3]) (by rfl) (cf109 _ _)) (c109 okT K w51 el9 A21 cp22 a2 a3 (H.rd (i := 2) (by rfl)).any v54 hv53) ?_)
         rintro e w55 ⟨rfl, H2⟩
         have H : Sep ok w w55 [.blk b5 28 [.slice A1 a0.Levels.length cp2], .blk b7 30 [.int .i64 a4.X0, .int .i64 a4.Y0, .int .i64 a4.X1, .int .i64 a4.Y1], .blk b28 54 [.int .i64 el9.W, .int .i64 el9.H, .slice A21 el9.Low.length cp22]] [RE.rd k_Level A1 cp2 a0.Levels, RE.cells g14 (o15 + (a1).toNat * 3) [.int .i64 el9.W, .int .i64 el9.H, .slice A21 el9.Low.length cp22], RE.rd kInt A21 cp22 el9.Low] := H.below H2.base
         clear H2
         refine ⟨_, rfl, ?_⟩
         show RL _ _ _ _ _ _ _
         refine RL_pure (by exact wn1 rfl rfl rfl rfl) (by rfl) (by rfl) (x_move (v := .int .i64 a5) (by rfl)) ?_
         refine RL_pure (by exact wn1 rfl rfl rfl rfl) (by rfl) (by rfl) (x_geq (by rfl) (by rfl)) ?_
         refine RL_pure (by exact wn0 rfl) (by rfl) (by rfl) (x_pick_f (v := .bool (decide (a5 ≤ v54))) (by rfl) (by rfl)) ?_
         refine RL_nil ?_
         exact ⟨⟨congrArg Value.bool (Option.some.inj hm), rfl, rfl, rfl, rfl, rfl, rfl, rfl, rfl, trivial⟩, H⟩
        ·have hm := cond_t hbS hmS
         refine RL_cons (OpR_off (by exact wn2 rfl rfl rfl rfl) (by rfl) (by rfl) ?_)
         refine RL_cons (OpR_off (by exact wn2 rfl rfl rfl rfl) (by rfl) (by rfl) ?_)
         refine RL_cons (OpR_off (by exact wn2 rfl rfl rfl rfl) (by rfl) (by rfl) ?_)
         refine RL_cons (OpR_off (by exact wn2 rfl rfl rfl rfl) (by rfl) (by rfl) ?_)
         refine RL_cons (OpR_off (by exact wn2 rfl rfl rfl rfl) (by rfl) (by rfl) ?_)
         refine RL_cons (OpR_off (by exact wn2 rfl rfl rfl rfl) (by rfl) (by rfl) ?_)
         refine RL_pure (by exact wn0 rfl) (by rfl) (by rfl) (x_pick_t (v := .bool true) (by rfl) (by rfl)) ?_
         refine RL_nil ?_
         exact ⟨⟨congrArg Value.bool (Option.some.inj hm), rfl, rfl, rfl, rfl, rfl, rfl, rfl, rfl, trivial⟩, H⟩
       ·rintro r' w' ⟨hA, H⟩
        obtain ⟨r56, rfl⟩ := regen _ hA; clear hA
        obtain ⟨w57, rfl⟩ : ∃ W : World, W = w' := ⟨_, rfl⟩
        show RL _ _ _ _ _ _ _
        refine RL_nil ?_
        refine W_cond (by rfl) (fun hb => ?_) (fun hb => ?_)
        ·have hm := cond_t hb hm
         refine W_seq ?_
         refine W_region ?_
         refine RL_pure (by exact wn0 rfl) (by rfl) (by rfl) (x_move (v := .int .i64 a5) (by rfl)) ?_
         refine RL_pure (by exact wn0 rfl) (by rfl) (by rfl) (x_assign (v := .int .i64 a5) (by rfl)) ?_
         refine RL_nil ?_
         refine W_ret ?_
         obtain rfl := Option.some.inj hm
         exact ⟨[.int .i64 a5], (.tmp (by rfl) rfl), rfl, H.none_⟩
        ·have hm := cond_f hb hm
         refine W_skip ?_
         refine W_seq ?_
         refine W_seq ?_
         refine W_region ?_
         refine RL_pure (by exact wn0 rfl) (by rfl) (by rfl) (x_move (v := .int .i64 a2) (by rfl)) ?_
         refine RL_pure (by exact wn0 rfl) (by rfl) (by rfl) (x_move (v := .int .i64 (shlV .i64 1 a1)) (by rfl)) ?_
         obtain ⟨x58, ex58, qx58, ux58, hm⟩ := ck_some hm
         refine RL_pure (by exact wn0 rfl) (by rfl) (by rfl) (x_mul (by rfl) (by rfl) ux58) ?_
         refine RL_pure (by exact wn0 rfl) (by rfl) (by rfl) (x_fieldAddr fo30_0 (by rfl)) ?_
         refine RL_pure (by exact wn0 rfl) (by rfl) (by rfl) (x_load (j := 0) (v := .int .i64 a4.X0) sc3 (by rfl) (H.cells (i := 1) (by rfl)) (by rfl)) ?_
         refine RL_pure (by exact wn0 rfl) (by rfl) (by rfl) (x_geq (by rfl) (by rfl)) ?_
         refine RL_pure (by exact wn0 rfl) (by rfl) (by rfl) (x_move (v := .bool (decide (a4.X0 ≤ x58))) (by rfl)) ?_
         obtain ⟨b59, hmS, hm⟩ := bind_some hm
         refine RL_cut 9 (fun r' w' => Agr [(93, .bool b59), (1, .int .i64 a1), (2, .int .i64 a2), (3, .int .i64 a3), (5, .int .i64 a5), (6, .pointer (some ⟨b5, 0, none⟩)), (10, .pointer (some ⟨b7, 0, none⟩)), (13, .pointer (some ⟨b28, 0, none⟩)), (14, .int .i64 (shlV .i64 1 a1))] r' ∧ Sep ok w w' [.blk b5 28 [.slice A1 a0.Levels.length cp2], .blk b7 30 [.int .i64 a4.X0, .int .i64 a4.Y0, .int .i64 a4.X1, .int .i64 a4.Y1], .blk b28 54 [.int .i64 el9.W, .int .i64 el9.H, .slice A21 el9.Low.length cp22]] [RE.rd k_Level A1 cp2 a0.Levels, RE.cells g14 (o15 + (a1).toNat * 3) [.int .i64 el9.W, .int .i64 el9.H, .slice A21 el9.Low.length cp22], RE.rd kInt A21 cp22 el9.Low]) ?_ ?_
         ·cases hbS : (decide (a4.X0 ≤ x58))
          ·have hm := cond_f hbS hmS
           refine RL_cons (OpR_off (by exact wn2 rfl rfl rfl rfl) (by rfl) (by rfl) ?_)
           refine RL_cons (OpR_off (by exact wn2 rfl rfl rfl rfl) (by rfl) (by rfl) ?_)
           refine RL_cons (OpR_off (by exact wn2 rfl rfl rfl rfl) (by rfl) (by rfl) ?_)
           refine RL_cons (OpR_off (by exact wn2 rfl rfl rfl rfl) (by rfl) (by rfl) ?_)
           refine RL_cons (OpR_off (by exact wn2 rfl rfl rfl rfl) (by rfl) (by rfl) ?_)
           refine RL_cons (OpR_off (by exact wn2 rfl rfl rfl rfl) (by rfl) (by rfl) ?_)
           refine RL_cons (OpR_off (by exact wn2 rfl rfl rfl rfl) (by rfl) (by rfl) ?_)
           refine RL_cons (OpR_off (by exact wn2 rfl rfl rfl rfl) (by rfl) (by rfl) ?_)
           refine RL_pure (by exact wn0 rfl) (by rfl) (by rfl) (x_pick_f (v := .bool false) (by rfl) (by rfl)) ?_
           refine RL_nil ?_
           exact ⟨⟨congrArg Value.bool (Option.some.inj hm), rfl, rfl, rfl, rfl, rfl, rfl, rfl, rfl, trivial⟩, H⟩
          ·have hm := cond_t hbS hmS
           refine RL_pure (by exact wn1 rfl rfl rfl rfl) (by rfl) (by rfl) (x_move (v := .int .i64 a2) (by rfl)) ?_
           obtain ⟨x60, ex60, qx60, ux60, hm⟩ := ck_some hm
           refine RL_pure (by exact wn1 rfl rfl rfl rfl) (by rfl) (by rfl) (x_add (by rfl) (by rfl) ux60) ?_
           refine RL_pure (by exact wn1 rfl rfl rfl rfl) (by rfl) (by rfl) (x_move (v := .int .i64 (shlV .i64 1 a1)) (by rfl)) ?_
           obtain ⟨x61, ex61, qx61, ux61, hm⟩ := ck_some hm
           refine RL_pure (by exact wn1 rfl rfl rfl rfl) (by rfl) (by rfl) (x_mul (by rfl) (by rfl) ux61) ?_
           obtain ⟨x62, ex62, qx62, ux62, hm⟩ := ck_some hm
           refine RL_pure (by exact wn1 rfl rfl rfl rfl) (by rfl) (by rfl) (x_sub (by rfl) (by rfl) ux62) ?_
           refine RL_pure (by exact wn1 rfl rfl rfl rfl) (by rfl) (by rfl) (x_fieldAddr fo30_2 (by rfl)) ?_
           refine RL_pure (by exact wn1 rfl rfl rfl rfl) (by rfl) (by rfl) (x_load (j := 2) (v := .int .i64 a4.X1) sc3 (by rfl) (H.cells (i := 1) (by rfl)) (by rfl)) ?_
           refine RL_pure (by exact wn1 rfl rfl rfl rfl) (by rfl) (by rfl) (x_leq (by rfl) (by rfl)) ?_
           refine RL_pure (by exact wn0 rfl) (by rfl) (by rfl) (x_pick_t (v := .bool (decide (x62 ≤ a4.X1))) (by rfl) (by rfl)) ?_
           refine RL_nil ?_
           exact ⟨⟨congrArg Value.bool (Option.some.inj hm), rfl, rfl, rfl, rfl, rfl, rfl, rfl, rfl, trivial⟩, H⟩
         ·rintro r' w' ⟨hA, H⟩
          obtain ⟨r63, rfl⟩ := regen _ hA; clear hA
          obtain ⟨w64, rfl⟩ : ∃ W : World, W = w' := ⟨_, rfl⟩
          show RL _ _ _ _ _ _ _
          refine RL_pure (by exact wn0 rfl) (by rfl) (by rfl) (x_move (v := .bool b59) (by rfl)) ?_
          obtain ⟨b65, hmS, hm⟩ := bind_some hm
          refine RL_cut 7 (fun r' w' => Agr [(101, .bool b65), (1, .int .i64 a1), (2, .int .i64 a2), (3, .int .i64 a3), (5, .int .i64 a5), (6, .pointer (some ⟨b5, 0, none⟩)), (10, .pointer (some ⟨b7, 0, none⟩)), (13, .pointer (some ⟨b28, 0, none⟩)), (14, .int .i64 (shlV .i64 1 a1))] r' ∧ Sep ok w w' [.blk b5 28 [.slice A1 a0.Levels.length cp2], .blk b7 30 [.int .i64 a4.X0, .int .i64 a4.Y0, .int .i64 a4.X1, .int .i64 a4.Y1], .blk b28 54 [.int .i64 el9.W, .int .i64 el9.H, .slice A21 el9.Low.length cp22]] [RE.rd k_Level A1 cp2 a0.Levels, RE.cells g14 (o15 + (a1).toNat * 3) [.int .i64 el9.W, .int .i64 el9.H, .slice A21 el9.Low.length cp22], RE.rd kInt A21 cp22 el9.Low]) ?_ ?_
          ·cases hbS : b59
           ·have hm := cond_f hbS hmS
            refine RL_cons (OpR_off (by exact wn2 rfl rfl rfl rfl) (by rfl) (by rfl) ?_)
            refine RL_cons (OpR_off (by exact wn2 rfl rfl rfl rfl) (by rfl) (by rfl) ?_)
            refine RL_cons (OpR_off (by exact wn2 rfl rfl rfl rfl) (by rfl) (by rfl) ?_)
            refine RL_cons (OpR_off (by exact wn2 rfl rfl rfl rfl) (by rfl) (by rfl) ?_)
            refine RL_cons (OpR_off (by exact wn2 rfl rfl rfl rfl) (by rfl) (by rfl) ?_)
            refine RL_cons (OpR_off (by exact wn2 rfl rfl rfl rfl) (by rfl) (by rfl) ?_)
            refine RL_pure (by exact wn0 rfl) (by rfl) (by rfl) (x_pick_f (v := .bool false) (by rfl) (by rfl)) ?_
            refine RL_nil ?_
            exact ⟨⟨congrArg Value.bool (Option.some.inj hm), rfl, rfl, rfl, rfl, rfl, rfl, rfl, rfl, trivial⟩, H⟩
           ·have hm := cond_t hbS hmS
            refine RL_pure (by exact wn1 rfl rfl rfl rfl) (by rfl) (by rfl) (x_move (v := .int .i64 a3) (by rfl)) ?_
            refine RL_pure (by exact wn1 rfl rfl rfl rfl) (by rfl) (by rfl) (x_move (v := .int .i64 (shlV .i64 1 a1)) (by rfl)) ?_
            obtain ⟨x66, ex66, qx66, ux66, hm⟩ := ck_some hm
            refine RL_pure (by exact wn1 rfl rfl rfl rfl) (by rfl) (by rfl) (x_mul (by rfl) (by rfl) ux66) ?_
            refine RL_pure (by exact wn1 rfl rfl rfl rfl) (by rfl) (by rfl) (x_fieldAddr fo30_1 (by rfl)) ?_
            refine RL_pure (by exact wn1 rfl rfl rfl rfl) (by rfl) (by rfl) (x_load (j := 1) (v := .int .i64 a4.Y0) sc3 (by rfl) (H.cells (i := 1) (by rfl)) (by rfl)) ?_
            refine RL_pure (by exact wn1 rfl rfl rfl rfl) (by rfl) (by rfl) (x_geq (by rfl) (by rfl)) ?_
            refine RL_pure (by exact wn0 rfl) (by rfl) (by rfl) (x_pick_t (v := .bool (decide (a4.Y0 ≤ x66))) (by rfl) (by rfl)) ?_
            refine RL_nil ?_
            exact ⟨⟨congrArg Value.bool (Option.some.inj hm), rfl, rfl, rfl, rfl, rfl, rfl, rfl, rfl, trivial⟩, H⟩
          ·rintro r' w' ⟨hA, H⟩
           obtain ⟨r67, rfl⟩ := regen _ hA; clear hA
           obtain ⟨w68, rfl⟩ : ∃ W : World, W = w' := ⟨_, rfl⟩
           show RL _ _ _ _ _ _ _
           refine RL_pure (by exact wn0 rfl) (by rfl) (by rfl) (x_move (v := .bool b65) (by rfl)) ?_
           obtain ⟨b69, hmS, hm⟩ := bind_some hm
           refine RL_cut 9 (fun r' w' => Agr [(111, .bool b69), (1, .int .i64 a1), (2, .int .i64 a2), (3, .int .i64 a3), (5, .int .i64 a5), (6, .pointer (some ⟨b5, 0, none⟩)), (10, .pointer (some ⟨b7, 0, none⟩)), (13, .pointer (some ⟨b28, 0, none⟩))] r' ∧ Sep ok w w' [.blk b5 28 [.slice A1 a0.Levels.length cp2], .blk b7 30 [.int .i64 a4.X0, .int .i64 a4.Y0, .int .i64 a4.X1, .int .i64 a4.Y1], .blk b28 54 [.int .i64 el9.W, .int .i64 el9.H, .slice A21 el9.Low.length cp22]] [RE.rd k_Level A1 cp2 a0.Levels, RE.cells g14 (o15 + (a1).toNat * 3) [.int .i64 el9.W, .int .i64 el9.H, .slice A21 el9.Low.length cp22], RE.rd kInt A21 cp22 el9.Low]) ?_ ?_
           ·cases hbS : b65
            ·have hm := cond_f hbS hmS
             refine RL_cons (OpR_off (by exact wn2 rfl rfl rfl rfl) (by rfl) (by rfl) ?_)
             refine RL_cons (OpR_off (by exact wn2 rfl rfl rfl rfl) (by rfl) (by rfl) ?_)
             refine RL_cons (OpR_off (by exact wn2 rfl rfl rfl rfl) (by rfl) (by rfl) ?_)
             refine RL_cons (OpR_off (by exact wn2 rfl rfl rfl rfl) (by rfl) (by rfl) ?_)
             refine RL_cons (OpR_off (by exact wn2 rfl rfl rfl rfl) (by rfl) (by rfl) ?_)
             refine RL_cons (OpR_off (by exact wn2 rfl rfl rfl rfl) (by rfl) (by rfl) ?_)
             refine RL_cons (OpR_off (by exact wn2 rfl rfl rfl rfl) (by rfl) (by rfl) ?_)
             refine RL_cons (OpR_off (by exact wn2 rfl rfl rfl rfl) (by rfl) (by rfl) ?_)
             refine RL_pure (by exact wn0 rfl) (by rfl) (by rfl) (x_pick_f (v := .bool false) (by rfl) (by rfl)) ?_
             refine RL_nil ?_
             exact ⟨⟨congrArg Value.bool (Option.some.inj hm), rfl, rfl, rfl, rfl, rfl, rfl, rfl, trivial⟩, H⟩
            ·have hm := cond_t hbS hmS
             refine RL_pure (by exact wn1 rfl rfl rfl rfl) (by rfl) (by rfl) (x_move (v := .int .i64 a3) (by rfl)) ?_
             obtain ⟨x70, ex70, qx70, ux70, hm⟩ := ck_some hm
             refine RL_pure (by exact wn1 rfl rfl rfl rfl) (by rfl) (by rfl) (x_add (by rfl) (by rfl) ux70) ?_
             refine RL_pure (by exact wn1 rfl rfl rfl rfl) (by rfl) (by rfl) (x_move (v := .int .i64 (shlV .i64 1 a1)) (by rfl)) ?_
             obtain ⟨x71, ex71, qx71, ux71, hm⟩ := ck_some hm
             refine RL_pure (by exact wn1 rfl rfl rfl rfl) (by rfl) (by rfl) (x_mul (by rfl) (by rfl) ux71) ?_
             obtain ⟨x72, ex72, qx72, ux72, hm⟩ := ck_some hm
             refine RL_pure (by exact wn1 rfl rfl rfl rfl) (by rfl) (by rfl) (x_sub (by rfl) (by rfl) ux72) ?_
             refine RL_pure (by exact wn1 rfl rfl rfl rfl) (by rfl) (by rfl) (x_fieldAddr fo30_3 (by rfl)) ?_
             refine RL_pure (by exact wn1 rfl rfl rfl rfl) (by rfl) (by rfl) (x_load (j := 3) (v := .int .i64 a4.Y1) sc3 (by rfl) (H.cells (i := 1) (by rfl)) (by rfl)) ?_
             refine RL_pure (by exact wn1 rfl rfl rfl rfl) (by rfl) (by rfl) (x_leq (by rfl) (by rfl)) ?_
             refine RL_pure (by exact wn0 rfl) (by rfl) (by rfl) (x_pick_t (v := .bool (decide (x72 ≤ a4.Y1))) (by rfl) (by rfl)) ?_
             refine RL_nil ?_
             exact ⟨⟨congrArg Value.bool (Option.some.inj hm), rfl, rfl, rfl, rfl, rfl, rfl, rfl, trivial⟩, H⟩
           ·rintro r' w' ⟨hA, H⟩
            obtain ⟨r73, rfl⟩ := regen _ hA; clear hA
            obtain ⟨w74, rfl⟩ : ∃ W : World, W = w' := ⟨_, rfl⟩
            show RL _ _ _ _ _ _ _
            refine RL_nil ?_
            refine W_cond (by rfl) (fun hb => ?_) (fun hb => ?_)
            ·have hm := cond_t hb hm
             refine W_seq ?_
             refine W_region ?_
             refine RL_pure (by exact wn0 rfl) (by rfl) (by rfl) (x_loadA (j := 0) (vs := [.int .i64 el9.W, .int .i64 el9.H, .slice A21 el9.Low.length cp22]) ag54 (by rfl) (H.cells (i := 2) (by rfl)) (by rfl) (by rfl)) ?_
             refine RL_pure (by exact wn0 rfl) (by rfl) (by rfl) (x_move (v := .int .i64 a2) (by rfl)) ?_
             refine RL_pure (by exact wn0 rfl) (by rfl) (by rfl) (x_move (v := .int .i64 a3) (by rfl)) ?_
             obtain ⟨v76, hv75, hm⟩ := bind_some hm
             refine RL_cons (O_call (by exact wn0 rfl) (by rfl) (by rfl) (x_callL (by rfl) (args := [.agg #[.int .i64 el9.W, .int .i64 el9.H, .slice A21 el9.Low.length cp22], .int .i64 a2, .int .i64 a3]) (by rfl) (cf109 _ _)) (c109 okT K w74 el9 A21 cp22 a2 a3 (H.rd (i := 2) (by rfl)).any v76 hv75) ?_)
             rintro e w77 ⟨rfl, H2⟩
             have H : Sep ok w w77 [.blk b5 28 [.slice A1 a0.Levels.length cp2], .blk b7 30 [.int .i64 a4.X0, .int .i64 a4.Y0, .int .i64 a4.X1, .int .i64 a4.Y1], .blk b28 54 [.int .i64 el9.W, .int .i64 el9.H, .slice A21 el9.Low.length cp22]] [RE.rd k_Level A1 cp2 a0.Levels, RE.cells g14 (o15 + (a1).toNat * 3) [.int .i64 el9.W, .int .i64 el9.H, .slice A21 el9.Low.length cp22], RE.rd kInt A21 cp22 el9.Low] := H.below H2.base
             clear H2
             refine ⟨_, rfl, ?_⟩
             show RL _ _ _ _ _ _ _
             refine RL_pure (by exact wn0 rfl) (by rfl) (by rfl) (x_assign (v := .int .i64 v76) (by rfl)) ?_
             refine RL_nil ?_
             refine W_ret ?_
             obtain rfl := Option.some.inj hm
             exact ⟨[.int .i64 v76], (.tmp (by rfl) rfl), rfl, H.none_⟩
            ·have hm := cond_f hb hm
             refine W_skip ?_
             refine W_seq ?_
             refine W_seq ?_
             refine W_region ?_
             refine RL_pure (by exact wn0 rfl) (by rfl) (by rfl) (x_move (v := .int .i64 0) (by rfl)) ?_
             refine RL_nil ?_
             refine W_block ?_
             refine W_unroll 40 ?_
             refine WU_succ ?_
             refine W_seq ?_
             refine W_region ?_
             refine RL_pure (by exact wn0 rfl) (by rfl) (by rfl) (x_lss (by rfl) (by rfl)) ?_
             refine RL_nil ?_
             refine W_seq ?_
             refine W_cond (t := true) (by first | rfl | decide) (fun _ => ?_) (fun hb => by cases hb)
             refine W_skip ?_
             refine W_seq ?_
             refine W_block ?_
             refine W_seq ?_
             refine W_region ?_
             refine RL_pure (by exact wn0 rfl) (by rfl) (by rfl) (x_move (v := .int .i64 0) (by rfl)) ?_
             refine RL_pure (by exact wn0 rfl) (by rfl) (by rfl) (x_assign (v := .int .i64 0) (by rfl)) ?_
             refine RL_nil ?_
             refine W_region ?_
             refine RL_pure (by exact wn0 rfl) (by rfl) (by rfl) (x_loadA (j := 0) (vs := [.slice A1 a0.Levels.length cp2]) ag28 (by rfl) (H.cells (i := 0) (by rfl)) (by rfl) (by rfl)) ?_
             refine RL_pure (by exact wn0 rfl) (by rfl) (by rfl) (x_move (v := .int .i64 a1) (by rfl)) ?_
             obtain ⟨x78, ex78, qx78, ux78, hm⟩ := ck_some hm
             refine RL_pure (by exact wn0 rfl) (by rfl) (by rfl) (x_sub (by rfl) (by rfl) ux78) ?_
             refine RL_pure (by exact wn0 rfl) (by rfl) (by rfl) (x_move (v := .int .i64 a2) (by rfl)) ?_
             obtain ⟨x79, ex79, qx79, ux79, hm⟩ := ck_some hm
             refine RL_pure (by exact wn0 rfl) (by rfl) (by rfl) (x_mul (by rfl) (by rfl) ux79) ?_
             refine RL_pure (by exact wn0 rfl) (by rfl) (by rfl) (x_move (v := .int .i64 0) (by rfl)) ?_
             refine RL_pure (by exact wn0 rfl) (by rfl) (by rfl) (x_rem (by rfl) (by rfl) (by decide)) ?_
             obtain ⟨x80, ex80, qx80, ux80, hm⟩ := ck_some hm
             refine RL_pure (by exact wn0 rfl) (by rfl) (by rfl) (x_add (by rfl) (by rfl) ux80) ?_
             refine RL_pure (by exact wn0 rfl) (by rfl) (by rfl) (x_move (v := .int .i64 a3) (by rfl)) ?_
             obtain ⟨x81, ex81, qx81, ux81, hm⟩ := ck_some hm
             refine RL_pure (by exact wn0 rfl) (by rfl) (by rfl) (x_mul (by rfl) (by rfl) ux81) ?_
             refine RL_pure (by exact wn0 rfl) (by rfl) (by rfl) (x_move (v := .int .i64 0) (by rfl)) ?_
             obtain ⟨x82, ex82, qx82, ux82, hm⟩ := ck_some hm
             refine RL_pure (by exact wn0 rfl) (by rfl) (by rfl) (x_quo (by rfl) (by rfl) (by decide) ux82) ?_
             obtain ⟨x83, ex83, qx83, ux83, hm⟩ := ck_some hm
             refine RL_pure (by exact wn0 rfl) (by rfl) (by rfl) (x_add (by rfl) (by rfl) ux83) ?_
             refine RL_pure (by exact wn0 rfl) (by rfl) (by rfl) (x_loadA (j := 0) (vs := [.int .i64 a4.X0, .int .i64 a4.Y0, .int .i64 a4.X1, .int .i64 a4.Y1]) ag30 (by rfl) (H.cells (i := 1) (by rfl)) (by rfl) (by rfl)) ?_
             refine RL_pure (by exact wn0 rfl) (by rfl) (by rfl) (x_move (v := .int .i64 a5) (by rfl)) ?_
             obtain ⟨v85, hv84, hm⟩ := bind_some hm
             refine RL_cons (O_call (by exact wn0 rfl) (by rfl) (by rfl) (x_callL (by rfl) (args := [.agg #[.slice A1 a0.Levels.length cp2], .int .i64 x78, .int .i64 x80, .int .i64 x83, .agg #[.int .i64 a4.X0, .int .i64 a4.Y0, .int .i64 a4.X1, .int .i64 a4.Y1], .int .i64 a5]) (by rfl) (cf62 _ _)) (ih okT w74 a0 A1 cp2 x78 x80 x83 a4 a5 (H.rd (i := 0) (by rfl)).any v85 hv84) ?_)
             rintro e w86 ⟨rfl, H2⟩
             have H : Sep ok w w86 [.blk b5 28 [.slice A1 a0.Levels.length cp2], .blk b7 30 [.int .i64 a4.X0, .int .i64 a4.Y0, .int .i64 a4.X1, .int .i64 a4.Y1], .blk b28 54 [.int .i64 el9.W, .int .i64 el9.H, .slice A21 el9.Low.length cp22]] [RE.rd k_Level A1 cp2 a0.Levels, RE.cells g14 (o15 + (a1).toNat * 3) [.int .i64 el9.W, .int .i64 el9.H, .slice A21 el9.Low.length cp22], RE.rd kInt A21 cp22 el9.Low] := H.below H2.base
             clear H2
             refine ⟨_, rfl, ?_⟩
             show RL _ _ _ _ _ _ _
             refine RL_pure (by exact wn0 rfl) (by rfl) (by rfl) (x_assign (v := .int .i64 v85) (by rfl)) ?_
             refine RL_nil ?_
             refine W_region ?_
             refine RL_pure (by exact wn0 rfl) (by rfl) (by rfl) (x_add (c := 1) (by rfl) (by rfl) (by decide)) ?_
             refine RL_pure (by exact wn0 rfl) (by rfl) (by rfl) (x_move (v := .int .i64 1) (by rfl)) ?_
             refine RL_nil ?_
             refine WU_succ ?_
             refine W_seq ?_
             refine W_region ?_
             refine RL_pure (by exact wn0 rfl) (by rfl) (by rfl) (x_lss (by rfl) (by rfl)) ?_
             refine RL_nil ?_
             refine W_seq ?_
             refine W_cond (t := true) (by first | rfl | decide) (fun _ => ?_) (fun hb => by cases hb)
             refine W_skip ?_
             refine W_seq ?_
             refine W_block ?_
             refine W_seq ?_
             refine W_region ?_
             refine RL_pure (by exact wn0 rfl) (by rfl) (by rfl) (x_move (v := .int .i64 1) (by rfl)) ?_
             refine RL_pure (by exact wn0 rfl) (by rfl) (by rfl) (x_assign (v := .int .i64 1) (by rfl)) ?_
             refine RL_nil ?_
             refine W_region ?_
             refine RL_pure (by exact wn0 rfl) (by rfl) (by rfl) (x_loadA (j := 0) (vs := [.slice A1 a0.Levels.length cp2]) ag28 (by rfl) (H.cells (i := 0) (by rfl)) (by rfl) (by rfl)) ?_
             refine RL_pure (by exact wn0 rfl) (by rfl) (by rfl) (x_move (v := .int .i64 a1) (by rfl)) ?_
             obtain ⟨x87, ex87, qx87, ux87, hm⟩ := ck_some hm
             refine RL_pure (by exact wn0 rfl) (by rfl) (by rfl) (x_sub (by rfl) (by rfl) ux87) ?_
             refine RL_pure (by exact wn0 rfl) (by rfl) (by rfl) (x_move (v := .int .i64 a2) (by rfl)) ?_
             obtain ⟨x88, ex88, qx88, ux88, hm⟩ := ck_some hm
             refine RL_pure (by exact wn0 rfl) (by rfl) (by rfl) (x_mul (by rfl) (by rfl) ux88) ?_
             refine RL_pure (by exact wn0 rfl) (by rfl) (by rfl) (x_move (v := .int .i64 1) (by rfl)) ?_
             refine RL_pure (by exact wn0 rfl) (by rfl) (by rfl) (x_rem (by rfl) (by rfl) (by decide)) ?_
             obtain ⟨x89, ex89, qx89, ux89, hm⟩ := ck_some hm
             refine RL_pure (by exact wn0 rfl) (by rfl) (by rfl) (x_add (by rfl) (by rfl) ux89) ?_
             refine RL_pure (by exact wn0 rfl) (by rfl) (by rfl) (x_move (v := .int .i64 a3) (by rfl)) ?_
             obtain ⟨x90, ex90, qx90, ux90, hm⟩ := ck_some hm
             refine RL_pure (by exact wn0 rfl) (by rfl) (by rfl) (x_mul (by rfl) (by rfl) ux90) ?_
             refine RL_pure (by exact wn0 rfl) (by rfl) (by rfl) (x_move (v := .int .i64 1) (by rfl)) ?_
             obtain ⟨x91, ex91, qx91, ux91, hm⟩ := ck_some hm
             refine RL_pure (by exact wn0 rfl) (by rfl) (by rfl) (x_quo (by rfl) (by rfl) (by decide) ux91) ?_
             obtain ⟨x92, ex92, qx92, ux92, hm⟩ := ck_some hm
             refine RL_pure (by exact wn0 rfl) (by rfl) (by rfl) (x_add (by rfl) (by rfl) ux92) ?_
             refine RL_pure (by exact wn0 rfl) (by rfl) (by rfl) (x_loadA (j := 0) (vs := [.int .i64 a4.X0, .int .i64 a4.Y0, .int .i64 a4.X1, .int .i64 a4.Y1]) ag30 (by rfl) (H.cells (i := 1) (by rfl)) (by rfl) (by rfl)) ?_
             refine RL_pure (by exact wn0 rfl) (by rfl) (by rfl) (x_move (v := .int .i64 v85) (by rfl)) ?_
             obtain ⟨v94, hv93, hm⟩ := bind_some hm
             refine RL_cons (O_call (by exact wn0 rfl) (by rfl) (by rfl) (x_callL (by rfl) (args := [.agg #[.slice A1 a0.Levels.length cp2], .int .i64 x87, .int .i64 x89, .int .i64 x92, .agg #[.int .i64 a4.X0, .int .i64 a4.Y0, .int .i64 a4.X1, .int .i64 a4.Y1], .int .i64 v85]) (by rfl) (cf62 _ _)) (ih okT w86 a0 A1 cp2 x87 x89 x92 a4 v85 (H.rd (i := 0) (by rfl)).any v94 hv93) ?_)
             rintro e w95 ⟨rfl, H2⟩
             have H : Sep ok w w95 [.blk b5 28 [.slice A1 a0.Levels.length cp2], .blk b7 30 [.int .i64 a4.X0, .int .i64 a4.Y0, .int .i64 a4.X1, .int .i64 a4.Y1], .blk b28 54 [.int .i64 el9.W, .int .i64 el9.H, .slice A21 el9.Low.length cp22]] [RE.rd k_Level A1 cp2 a0.Levels, RE.cells g14 (o15 + (a1).toNat * 3) [.int .i64 el9.W, .int .i64 el9.H, .slice A21 el9.Low.length cp22], RE.rd kInt A21 cp22 el9.Low] := H.below H2.base
             clear H2
             refine ⟨_, rfl, ?_⟩
             show RL _ _ _ _ _ _ _
             refine RL_pure (by exact wn0 rfl) (by rfl) (by rfl) (x_assign (v := .int .i64 v94) (by rfl)) ?_
             refine RL_nil ?_
             refine W_region ?_
             refine RL_pure (by exact wn0 rfl) (by rfl) (by rfl) (x_add (c := 2) (by rfl) (by rfl) (by decide)) ?_
             refine RL_pure (by exact wn0 rfl) (by rfl) (by rfl) (x_move (v := .int .i64 2) (by rfl)) ?_
             refine RL_nil ?_
             refine WU_succ ?_
             refine W_seq ?_
             refine W_region ?_
             refine RL_pure (by exact wn0 rfl) (by rfl) (by rfl) (x_lss (by rfl) (by rfl)) ?_
             refine RL_nil ?_
             refine W_seq ?_
             refine W_cond (t := true) (by first | rfl | decide) (fun _ => ?_) (fun hb => by cases hb)
             refine W_skip ?_
             refine W_seq ?_
             refine W_block ?_
             refine W_seq ?_
             refine W_region ?_
             refine RL_pure (by exact wn0 rfl) (by rfl) (by rfl) (x_move (v := .int .i64 2) (by rfl)) ?_
             refine RL_pure (by exact wn0 rfl) (by rfl) (by rfl) (x_assign (v := .int .i64 2) (by rfl)) ?_
             refine RL_nil ?_
             refine W_region ?_
             refine RL_pure (by exact wn0 rfl) (by rfl) (by rfl) (x_loadA (j := 0) (vs := [.slice A1 a0.Levels.length cp2]) ag28 (by rfl) (H.cells (i := 0) (by rfl)) (by rfl) (by rfl)) ?_
             refine RL_pure (by exact wn0 rfl) (by rfl) (by rfl) (x_move (v := .int .i64 a1) (by rfl)) ?_
             obtain ⟨x96, ex96, qx96, ux96, hm⟩ := ck_some hm
             refine RL_pure (by exact wn0 rfl) (by rfl) (by rfl) (x_sub (by rfl) (by rfl) ux96) ?_
             refine RL_pure (by exact wn0 rfl) (by rfl) (by rfl) (x_move (v := .int .i64 a2) (by rfl)) ?_
             obtain ⟨x97, ex97, qx97, ux97, hm⟩ := ck_some hm
             refine RL_pure (by exact wn0 rfl) (by rfl) (by rfl) (x_mul (by rfl) (by rfl) ux97) ?_
             refine RL_pure (by exact wn0 rfl) (by rfl) (by rfl) (x_move (v := .int .i64 2) (by rfl)) ?_
             refine RL_pure (by exact wn0 rfl) (by rfl) (by rfl) (x_rem (by rfl) (by rfl) (by decide)) ?_
             obtain ⟨x98, ex98, qx98, ux98, hm⟩ := ck_some hm
             refine RL_pure (by exact wn0 rfl) (by rfl) (by rfl) (x_add (by rfl) (by rfl) ux98) ?_
             refine RL_pure (by exact wn0 rfl) (by rfl) (by rfl) (x_move (v := .int .i64 a3) (by rfl)) ?_
             obtain ⟨x99, ex99, qx99, ux99, hm⟩ := ck_some hm
             refine RL_pure (by exact wn0 rfl) (by rfl) (by rfl) (x_mul (by rfl) (by rfl) ux99) ?_
             refine RL_pure (by exact wn0 rfl) (by rfl) (by rfl) (x_move (v := .int .i64 2) (by rfl)) ?_
             obtain ⟨x100, ex100, qx100, ux100, hm⟩ := ck_some hm
             refine RL_pure (by exact wn0 rfl) (by rfl) (by rfl) (x_quo (by rfl) (by rfl) (by decide) ux100) ?_
             obtain ⟨x101, ex101, qx101, ux101, hm⟩ := ck_some hm
             refine RL_pure (by exact wn0 rfl) (by rfl) (by rfl) (x_add (by rfl) (by rfl) ux101) ?_
             refine RL_pure (by exact wn0 rfl) (by rfl) (by rfl) (x_loadA (j := 0) (vs := [.int .i64 a4.X0, .int .i64 a4.Y0, .int .i64 a4.X1, .int .i64 a4.Y1]) ag30 (by rfl) (H.cells (i := 1) (by rfl)) (by rfl) (by rfl)) ?_
             refine RL_pure (by exact wn0 rfl) (by rfl) (by rfl) (x_move (v := .int .i64 v94) (by rfl)) ?_
             obtain ⟨v103, hv102, hm⟩ := bind_some hm
             refine RL_cons (O_call (by exact wn0 rfl) (by rfl) (by rfl) (x_callL (by rfl) (args := [.agg #[.slice A1 a0.Levels.length cp2], .int .i64 x96, .int .i64 x98, .int .i64 x101, .agg #[.int .i64 a4.X0, .int .i64 a4.Y0, .int .i64 a4.X1, .int .i64 a4.Y1], .int .i64 v94]) (by rfl) (cf62 _ _)) (ih okT w95 a0 A1 cp2 x96 x98 x101 a4 v94 (H.rd (i := 0) (by rfl)).any v103 hv102) ?_)
             rintro e w104 ⟨rfl, H2⟩
             have H : Sep ok w w104 [.blk b5 28 [.slice A1 a0.Levels.length cp2], .blk b7 30 [.int .i64 a4.X0, .int .i64 a4.Y0, .int .i64 a4.X1, .int .i64 a4.Y1], .blk b28 54 [.int .i64 el9.W, .int .i64 el9.H, .slice A21 el9.Low.length cp22]] [RE.rd k_Level A1 cp2 a0.Levels, RE.cells g14 (o15 + (a1).toNat * 3) [.int .i64 el9.W, .int .i64 el9.H, .slice A21 el9.Low.length cp22], RE.rd kInt A21 cp22 el9.Low] := H.below H2.base
             clear H2
             refine ⟨_, rfl, ?_⟩
             show RL _ _ _ _ _ _ _
             refine RL_pure (by exact wn0 rfl) (by rfl) (by rfl) (x_assign (v := .int .i64 v103) (by rfl)) ?_
             refine RL_nil ?_
             refine W_region ?_
             refine RL_pure (by exact wn0 rfl) (by rfl) (by rfl) (x_add (c := 3) (by rfl) (by rfl) (by decide)) ?_
             refine RL_pure (by exact wn0 rfl) (by rfl) (by rfl) (x_move (v := .int .i64 3) (by rfl)) ?_
             refine RL_nil ?_
             refine WU_succ ?_
             refine W_seq ?_
             refine W_region ?_
             refine RL_pure (by exact wn0 rfl) (by rfl) (by rfl) (x_lss (by rfl) (by rfl)) ?_
             refine RL_nil ?_
             refine W_seq ?_
             refine W_cond (t := true) (by first | rfl | decide) (fun _ => ?_) (fun hb => by cases hb)
             refine W_skip ?_
             refine W_seq ?_
             refine W_block ?_
             refine W_seq ?_
             refine W_region ?_
             refine RL_pure (by exact wn0 rfl) (by rfl) (by rfl) (x_move (v := .int .i64 3) (by rfl)) ?_
             refine RL_pure (by exact wn0 rfl) (by rfl) (by rfl) (x_assign (v := .int .i64 3) (by rfl)) ?_
             refine RL_nil ?_
             refine W_region ?_
             refine RL_pure (by exact wn0 rfl) (by rfl) (by rfl) (x_loadA (j := 0) (vs := [.slice A1 a0.Levels.length cp2]) ag28 (by rfl) (H.cells (i := 0) (by rfl)) (by rfl) (by rfl)) ?_
             refine RL_pure (by exact wn0 rfl) (by rfl) (by rfl) (x_move (v := .int .i64 a1) (by rfl)) ?_
             obtain ⟨x105, ex105, qx105, ux105, hm⟩ := ck_some hm
             refine RL_pure (by exact wn0 rfl) (by rfl) (by rfl) (x_sub (by rfl) (by rfl) ux105) ?_
             refine RL_pure (by exact wn0 rfl) (by rfl) (by rfl) (x_move (v := .int .i64 a2) (by rfl)) ?_
             obtain ⟨x106, ex106, qx106, ux106, hm⟩ := ck_some hm
             refine RL_pure (by exact wn0 rfl) (by rfl) (by rfl) (x_mul (by rfl) (by rfl) ux106) ?_
             refine RL_pure (by exact wn0 rfl) (by rfl) (by rfl) (x_move (v := .int .i64 3) (by rfl)) ?_
             refine RL_pure (by exact wn0 rfl) (by rfl) (by rfl) (x_rem (by rfl) (by rfl) (by decide)) ?_
             obtain ⟨x107, ex107, qx107, ux107, hm⟩ := ck_some hm
             refine RL_pure (by exact wn0 rfl) (by rfl) (by rfl) (x_add (by rfl) (by rfl) ux107) ?_
             refine RL_pure (by exact wn0 rfl) (by rfl) (by rfl) (x_move (v := .int .i64 a3) (by rfl)) ?_
             obtain ⟨x108, ex108, qx108, ux108, hm⟩ := ck_some hm
             refine RL_pure (by exact wn0 rfl) (by rfl) (by rfl) (x_mul (by rfl) (by rfl) ux108) ?_
             refine RL_pure (by exact wn0 rfl) (by rfl) (by rfl) (x_move (v := .int .i64 3) (by rfl)) ?_
             obtain ⟨x109, ex109, qx109, ux109, hm⟩ := ck_some hm
             refine RL_pure (by exact wn0 rfl) (by rfl) (by rfl) (x_quo (by rfl) (by rfl) (by decide) ux109) ?_
             obtain ⟨x110, ex110, qx110, ux110, hm⟩ := ck_some hm
             refine RL_pure (by exact wn0 rfl) (by rfl) (by rfl) (x_add (by rfl) (by rfl) ux110) ?_
             refine RL_pure (by exact wn0 rfl) (by rfl) (by rfl) (x_loadA (j := 0) (vs := [.int .i64 a4.X0, .int .i64 a4.Y0, .int .i64 a4.X1, .int .i64 a4.Y1]) ag30 (by rfl) (H.cells (i := 1) (by rfl)) (by rfl) (by rfl)) ?_
             refine RL_pure (by exact wn0 rfl) (by rfl) (by rfl) (x_move (v := .int .i64 v103) (by rfl)) ?_
             obtain ⟨v112, hv111, hm⟩ := bind_some hm
             refine RL_cons (O_call (by exact wn0 rfl) (by rfl) (by rfl) (x_callL (by rfl) (args := [.agg #[.slice A1 a0.Levels.length cp2], .int .i64 x105, .int .i64 x107, .int .i64 x110, .agg #[.int .i64 a4.X0, .int .i64 a4.Y0, .int .i64 a4.X1, .int .i64 a4.Y1], .int .i64 v103]) (by rfl) (cf62 _ _)) (ih okT w104 a0 A1 cp2 x105 x107 x110 a4 v103 (H.rd (i := 0) (by rfl)).any v112 hv111) ?_)
             rintro e w113 ⟨rfl, H2⟩
             have H : Sep ok w w113 [.blk b5 28 [.slice A1 a0.Levels.length cp2], .blk b7 30 [.int .i64 a4.X0, .int .i64 a4.Y0, .int .i64 a4.X1, .int .i64 a4.Y1], .blk b28 54 [.int .i64 el9.W, .int .i64 el9.H, .slice A21 el9.Low.length cp22]] [RE.rd k_Level A1 cp2 a0.Levels, RE.cells g14 (o15 + (a1).toNat * 3) [.int .i64 el9.W, .int .i64 el9.H, .slice A21 el9.Low.length cp22], RE.rd kInt A21 cp22 el9.Low] := H.below H2.base
             clear H2
             refine ⟨_, rfl, ?_⟩
             show RL _ _ _ _ _ _ _
             refine RL_pure (by exact wn0 rfl) (by rfl) (by rfl) (x_assign (v := .int .i64 v112) (by rfl)) ?_
             refine RL_nil ?_
             refine W_region ?_
             refine RL_pure (by exact wn0 rfl) (by rfl) (by rfl) (x_add (c := 4) (by rfl) (by rfl) (by decide)) ?_
             refine RL_pure (by exact wn0 rfl) (by rfl) (by rfl) (x_move (v := .int .i64 4) (by rfl)) ?_
             refine RL_nil ?_
             refine WU_succ ?_
             refine W_seq ?_
             refine W_region ?_
             refine RL_pure (by exact wn0 rfl) (by rfl) (by rfl) (x_lss (by rfl) (by rfl)) ?_
             refine RL_nil ?_
             refine W_seq ?_
             refine W_cond (t := false) (by first | rfl | decide) (fun hb => by cases hb) (fun _ => ?_)
             refine W_exit ?_
             refine W_seq ?_
             refine W_region ?_
             refine RL_pure (by exact wn0 rfl) (by rfl) (by rfl) (x_move (v := .int .i64 v112) (by rfl)) ?_
             refine RL_pure (by exact wn0 rfl) (by rfl) (by rfl) (x_assign (v := .int .i64 v112) (by rfl)) ?_
             refine RL_nil ?_
             refine W_ret ?_
             obtain rfl := Option.some.inj hm
             exact ⟨[.int .i64 v112], (.tmp (by rfl) rfl), rfl, H.none_⟩
theorem c62 (ok : Okp) (K : Nat) (w : World) (a0 : S_Pyramid) (A1 : Option Addr) (cp2 : Nat) (a1 : Int) (a2 : Int) (a3 : Int) (a4 : S_Rect) (a5 : Int) (hR3 : Rd k_Level w ok A1 cp2 a0.Levels) (res : Int) (hm : m62 K a0 a1 a2 a3 a4 a5 = some res) :
  Calls Try.prog 62 #[.agg #[.slice A1 a0.Levels.length cp2], .int .i64 a1, .int .i64 a2, .int .i64 a3, .agg #[.int .i64 a4.X0, .int .i64 a4.Y0, .int .i64 a4.X1, .int .i64 a4.Y1], .int .i64 a5] w (fun e w' => e = .returned (tup [.int .i64 res]) ∧ Sep ok w w' [] []) := c62f K K ok w a0 A1 cp2 a1 a2 a3 a4 a5 hR3 res hm
end Go.Proofs.YtobkigllalbkiaaV.M

/- A plain Lean function that answers as the Go function does (none: not told), and the proof that a call answers so. Written by program. -/
set_option linter.unusedVariables false
namespace Go.Proofs.YtobkigllalbkiaaV.M
open Go.RowKit Go.Proofs.YtobkigllalbkiaaV
/-- diorama/pyramid.Low -/
def m17 (K : Nat) (a0 : S_Pyramid) (a1 : S_Rect) : Option (Int × Int) :=
 ((m22 K a0).bind fun v10 => (bif (v10 != 0) then some (0, v10) else (idx a0.Levels 0 fun el12 => ((bif (decide ((mn a1.X0 a1.Y0) < 0)) then some true else some (decide (a1.X1 < a1.X0))).bind fun b32 => ((bif b32 then some true else some (decide (el12.W ≤ a1.X1))).bind fun b35 => ((bif b35 then some true else some (decide (a1.Y1 < a1.Y0))).bind fun b38 => ((bif b38 then some true else some (decide (el12.H ≤ a1.Y1))).bind fun b41 => (bif b41 then some (0, 2) else (ck ((a0.Levels.length : Int) - 1) fun x44 => ((m62 K a0 x44 0 0 a1 66560).bind fun v46 => some (v46, 0)))))))))))
set_option maxRecDepth 100000 in
set_option maxHeartbeats 4000000 in
theorem c17 (ok : Okp) (K : Nat) (w : World) (a0 : S_Pyramid) (A1 : Option Addr) (cp2 : Nat) (a1 : S_Rect) (hR3 : Rd k_Level w ok A1 cp2 a0.Levels) (res : Int × Int) (hm : m17 K a0 a1 = some res) :
  Calls Try.prog 17 #[.agg #[.slice A1 a0.Levels.length cp2], .agg #[.int .i64 a1.X0, .int .i64 a1.Y0, .int .i64 a1.X1, .int .i64 a1.Y1]] w (fun e w' => e = .returned (tup [.int .i64 res.1, .int .i64 res.2]) ∧ Sep ok w w' [] []) := by
 refine calls_W (args := [.agg #[.slice A1 a0.Levels.length cp2], .agg #[.int .i64 a1.X0, .int .i64 a1.Y0, .int .i64 a1.X1, .int .i64 a1.Y1]]) Try.func17 rfl Try.ntmps17 Try.results17 rfl fun r hr => ?_
 obtain ⟨r1, rfl⟩ := regen (r := r) [(0, .agg #[.slice A1 a0.Levels.length cp2]), (1, .agg #[.int .i64 a1.X0, .int .i64 a1.Y0, .int .i64 a1.X1, .int .i64 a1.Y1])] ⟨hr 0 _ rfl, hr 1 _ rfl, trivial⟩
 have H : Sep ok w w [] [RE.rd k_Level A1 cp2 a0.Levels] := Sep.arg (Sep.start ok w) (re := RE.rd k_Level A1 cp2 a0.Levels) rfl rfl hR3
 unfold m17 at hm
 refine W_seq ?_
 refine W_region ?_
 refine RL_cons (O_box (by exact wn0 rfl) (by rfl) (by rfl) (by rfl) H (fun w6 b5 (H : Sep ok w w6 [.blk b5 28 [.slice A1 a0.Levels.length cp2]] [RE.rd k_Level A1 cp2 a0.Levels]) => ?_))
 refine RL_cons (O_box (by exact wn0 rfl) (by rfl) (by rfl) (by rfl) H (fun w8 b7 (H : Sep ok w w8 [.blk b5 28 [.slice A1 a0.Levels.length cp2], .blk b7 30 [.int .i64 a1.X0, .int .i64 a1.Y0, .int .i64 a1.X1, .int .i64 a1.Y1]] [RE.rd k_Level A1 cp2 a0.Levels]) => ?_))
 refine RL_pure (by exact wn0 rfl) (by rfl) (by rfl) (x_assign (v := .int .i64 0) (by rfl)) ?_
 refine RL_pure (by exact wn0 rfl) (by rfl) (by rfl) (x_assign (v := .int .i64 0) (by rfl)) ?_
 refine RL_nil ?_
 refine W_seq ?_
 refine W_seq ?_
 refine W_region ?_
 refine RL_pure (by exact wn0 rfl) (by rfl) (by rfl) (x_loadA (j := 0) (vs := [.slice A1 a0.Levels.length cp2]) ag28 (by rfl) (H.cells (i := 0) (by rfl)) (by rfl) (by rfl)) ?_
 obtain ⟨v10, hv9, hm⟩ := bind_some hm
 refine RL_cons (O_call (by exact wn0 rfl) (by rfl) (by rfl) (x_callL (by rfl) (args := [.agg #[.slice A1 a0.Levels.length cp2]]) (by rfl) (cf22 _ _)) (c22 okT K w8 a0 A1 cp2 (H.rd (i := 0) (by rfl)).any v10 hv9) ?_)
 rintro e w11 ⟨rfl, H2⟩
 have H : Sep ok w w11 [.blk b5 28 [.slice A1 a0.Levels.length cp2], .blk b7 30 [.int .i64 a1.X0, .int .i64 a1.Y0, .int .i64 a1.X1, .int .i64 a1.Y1]] [RE.rd k_Level A1 cp2 a0.Levels] := H.below H2.base
 clear H2
 refine ⟨_, rfl, ?_⟩
 show RL _ _ _ _ _ _ _
 refine RL_pure (by exact wn0 rfl) (by rfl) (by rfl) (x_assign (v := .int .i64 v10) (by rfl)) ?_
 refine RL_nil ?_
 refine W_seq ?_
 refine W_region ?_
 refine RL_pure (by exact wn0 rfl) (by rfl) (by rfl) (x_move (v := .int .i64 v10) (by rfl)) ?_
 refine RL_pure (by exact wn0 rfl) (by rfl) (by rfl) (x_neq (by rfl) (by rfl)) ?_
 refine RL_nil ?_
 refine W_cond (by rfl) (fun hb => ?_) (fun hb => ?_)
 ·have hm := cond_t hb hm
  refine W_seq ?_
  refine W_region ?_
  refine RL_pure (by exact wn0 rfl) (by rfl) (by rfl) (x_move (v := .int .i64 v10) (by rfl)) ?_
  refine RL_pure (by exact wn0 rfl) (by rfl) (by rfl) (x_assign (v := .int .i64 0) (by rfl)) ?_
  refine RL_pure (by exact wn0 rfl) (by rfl) (by rfl) (x_assign (v := .int .i64 v10) (by rfl)) ?_
  refine RL_nil ?_
  refine W_ret ?_
  obtain rfl := Option.some.inj hm
  exact ⟨[.int .i64 0, .int .i64 v10], (.tmp (by rfl) (.tmp (by rfl) rfl)), rfl, H.none_⟩
 ·have hm := cond_f hb hm
  refine W_skip ?_
  refine W_seq ?_
  refine W_region ?_
  refine RL_pure (by exact wn0 rfl) (by rfl) (by rfl) (x_fieldAddr fo28_0 (by rfl)) ?_
  refine RL_pure (by exact wn0 rfl) (by rfl) (by rfl) (x_load (j := 0) (v := .slice A1 a0.Levels.length cp2) sc26 (by rfl) (H.cells (i := 0) (by rfl)) (by rfl)) ?_
  obtain ⟨el12, h13, h14, he15, hm⟩ := idx_some hm
  obtain ⟨g17, o18, hA16⟩ := (H.rd (i := 0) (by rfl)).addr he15
  obtain ⟨cs19, hk20, hat21, hg_cs19⟩ := (H.rd (i := 0) (by rfl)).openAt hA16 he15
  obtain ⟨A24, cp25, rfl, hR27⟩ := hk20
  have H : Sep ok w w11 [.blk b5 28 [.slice A1 a0.Levels.length cp2], .blk b7 30 [.int .i64 a1.X0, .int .i64 a1.Y0, .int .i64 a1.X1, .int .i64 a1.Y1]] [RE.rd k_Level A1 cp2 a0.Levels, RE.cells g17 (o18 + (0 : Int).toNat * 3) [.int .i64 el12.W, .int .i64 el12.H, .slice A24 el12.Low.length cp25]] := Sep.also H (re := RE.cells g17 (o18 + (0 : Int).toNat * 3) [.int .i64 el12.W, .int .i64 el12.H, .slice A24 el12.Low.length cp25]) ⟨hg_cs19, hat21⟩
  have H : Sep ok w w11 [.blk b5 28 [.slice A1 a0.Levels.length cp2], .blk b7 30 [.int .i64 a1.X0, .int .i64 a1.Y0, .int .i64 a1.X1, .int .i64 a1.Y1]] [RE.rd k_Level A1 cp2 a0.Levels, RE.cells g17 (o18 + (0 : Int).toNat * 3) [.int .i64 el12.W, .int .i64 el12.H, .slice A24 el12.Low.length cp25], RE.rd kInt A24 cp25 el12.Low] := Sep.also H (re := RE.rd kInt A24 cp25 el12.Low) hR27
  refine RL_pure (by exact wn0 rfl) (by rfl) (by rfl) (x_indexAddr sl26 sz54 (by rfl) (by rfl) hA16 h13 h14) ?_
  refine RL_pure (by exact wn0 rfl) (by rfl) (by rfl) (x_loadA (j := 0) (vs := [.int .i64 el12.W, .int .i64 el12.H, .slice A24 el12.Low.length cp25]) ag54 (by rfl) (H.cellsR (i := 1) (by rfl)) (by rfl) (by rfl)) ?_
  refine RL_cons (O_alloc (by exact wn0 rfl) (by rfl) ze54 (by rfl) H (fun w30 b29 (H : Sep ok w w30 [.blk b5 28 [.slice A1 a0.Levels.length cp2], .blk b7 30 [.int .i64 a1.X0, .int .i64 a1.Y0, .int .i64 a1.X1, .int .i64 a1.Y1], .blk b29 54 [.int .i64 0, .int .i64 0, .slice none 0 0]] [RE.rd k_Level A1 cp2 a0.Levels, RE.cells g17 (o18 + (0 : Int).toNat * 3) [.int .i64 el12.W, .int .i64 el12.H, .slice A24 el12.Low.length cp25], RE.rd kInt A24 cp25 el12.Low]) => ?_))
  refine RL_cons (O_store (i := 2) (off := 0) (by exact wn0 rfl) (by rfl) (by rfl) H (by rfl) (vs := [.int .i64 el12.W, .int .i64 el12.H, .slice A24 el12.Low.length cp25]) (by rfl) sz54 (by rfl) (by rfl) (by rfl) (fun w31 (H : Sep ok w w31 [.blk b5 28 [.slice A1 a0.Levels.length cp2], .blk b7 30 [.int .i64 a1.X0, .int .i64 a1.Y0, .int .i64 a1.X1, .int .i64 a1.Y1], .blk b29 54 [.int .i64 el12.W, .int .i64 el12.H, .slice A24 el12.Low.length cp25]] [RE.rd k_Level A1 cp2 a0.Levels, RE.cells g17 (o18 + (0 : Int).toNat * 3) [.int .i64 el12.W, .int .i64 el12.H, .slice A24 el12.Low.length cp25], RE.rd kInt A24 cp25 el12.Low]) => ?_))
  refine RL_nil ?_
  refine W_seq ?_
  refine W_seq ?_
  refine W_region ?_
  refine RL_pure (by exact wn0 rfl) (by rfl) (by rfl) (x_fieldAddr fo30_0 (by rfl)) ?_
  refine RL_pure (by exact wn0 rfl) (by rfl) (by rfl) (x_load (j := 0) (v := .int .i64 a1.X0) sc3 (by rfl) (H.cells (i := 1) (by rfl)) (by rfl)) ?_
  refine RL_pure (by exact wn0 rfl) (by rfl) (by rfl) (x_fieldAddr fo30_1 (by rfl)) ?_
  refine RL_pure (by exact wn0 rfl) (by rfl) (by rfl) (x_load (j := 1) (v := .int .i64 a1.Y0) sc3 (by rfl) (H.cells (i := 1) (by rfl)) (by rfl)) ?_
  refine RL_pure (by exact wn0 rfl) (by rfl) (by rfl) (x_min2 (by rfl) (by rfl)) ?_
  refine RL_pure (by exact wn0 rfl) (by rfl) (by rfl) (x_lss (by rfl) (by rfl)) ?_
  refine RL_pure (by exact wn0 rfl) (by rfl) (by rfl) (x_move (v := .bool (decide ((mn a1.X0 a1.Y0) < 0))) (by rfl)) ?_
  obtain ⟨b32, hmS, hm⟩ := bind_some hm
  refine RL_cut 6 (fun r' w' => Agr [(29, .bool b32), (2, .pointer (some ⟨b5, 0, none⟩)), (3, .pointer (some ⟨b7, 0, none⟩)), (7, .pointer (some ⟨b29, 0, none⟩))] r' ∧ Sep ok w w' [.blk b5 28 [.slice A1 a0.Levels.length cp2], .blk b7 30 [.int .i64 a1.X0, .int .i64 a1.Y0, .int .i64 a1.X1, .int .i64 a1.Y1], .blk b29 54 [.int .i64 el12.W, .int .i64 el12.H, .slice A24 el12.Low.length cp25]] [RE.rd k_Level A1 cp2 a0.Levels, RE.cells g17 (o18 + (0 : Int).toNat * 3) [.int .i64 el12.W, .int .i64 el12.H, .slice A24 el12.Low.length cp25], RE.rd kInt A24 cp25 el12.Low]) ?_ ?_
  ·cases hbS : (decide ((mn a1.X0 a1.Y0) < 0))
   ·have hm := cond_f hbS hmS
    refine RL_pure (by exact wn1 rfl rfl rfl rfl) (by rfl) (by rfl) (x_fieldAddr fo30_0 (by rfl)) ?_
    refine RL_pure (by exact wn1 rfl rfl rfl rfl) (by rfl) (by rfl) (x_load (j := 0) (v := .int .i64 a1.X0) sc3 (by rfl) (H.cells (i := 1) (by rfl)) (by rfl)) ?_
    refine RL_pure (by exact wn1 rfl rfl rfl rfl) (by rfl) (by rfl) (x_fieldAddr fo30_2 (by rfl)) ?_
    refine RL_pure (by exact wn1 rfl rfl rfl rfl) (by rfl) (by rfl) (x_load (j := 2) (v := .int .i64 a1.X1) sc3 (by rfl) (H.cells (i := 1) (by rfl)) (by rfl)) ?_
    refine RL_pure (by exact wn1 rfl rfl rfl rfl) (by rfl) (by rfl) (x_gtr (by rfl) (by rfl)) ?_
    refine RL_pure (by exact wn0 rfl) (by rfl) (by rfl) (x_pick_f (v := .bool (decide (a1.X1 < a1.X0))) (by rfl) (by rfl)) ?_
    refine RL_nil ?_
    exact ⟨⟨congrArg Value.bool (Option.some.inj hm), rfl, rfl, rfl, trivial⟩, H⟩
   ·have hm := cond_t hbS hmS
    refine RL_cons (OpR_off (by exact wn2 rfl rfl rfl rfl) (by rfl) (by rfl) ?_)
    refine RL_cons (OpR_off (by exact wn2 rfl rfl rfl rfl) (by rfl) (by rfl) ?_)
    refine RL_cons (OpR_off (by exact wn2 rfl rfl rfl rfl) (by rfl) (by rfl) ?_)
    refine RL_cons (OpR_off (by exact wn2 rfl rfl rfl rfl) (by rfl) (by rfl) ?_)
    refine RL_cons (OpR_off (by exact wn2 rfl rfl rfl rfl) (by rfl) (by rfl) ?_)
    refine RL_pure (by exact wn0 rfl) (by rfl) (by rfl) (x_pick_t (v := .bool true) (by rfl) (by rfl)) ?_
    refine RL_nil ?_
    exact ⟨⟨congrArg Value.bool (Option.some.inj hm), rfl, rfl, rfl, trivial⟩, H⟩
  ·rintro r' w' ⟨hA, H⟩
   obtain ⟨r33, rfl⟩ := regen _ hA; clear hA
   obtain ⟨w34, rfl⟩ : ∃ W : World, W = w' := ⟨_, rfl⟩
   show RL _ _ _ _ _ _ _
   refine RL_pure (by exact wn0 rfl) (by rfl) (by rfl) (x_move (v := .bool b32) (by rfl)) ?_
   obtain ⟨b35, hmS, hm⟩ := bind_some hm
   refine RL_cut 6 (fun r' w' => Agr [(36, .bool b35), (2, .pointer (some ⟨b5, 0, none⟩)), (3, .pointer (some ⟨b7, 0, none⟩)), (7, .pointer (some ⟨b29, 0, none⟩))] r' ∧ Sep ok w w' [.blk b5 28 [.slice A1 a0.Levels.length cp2], .blk b7 30 [.int .i64 a1.X0, .int .i64 a1.Y0, .int .i64 a1.X1, .int .i64 a1.Y1], .blk b29 54 [.int .i64 el12.W, .int .i64 el12.H, .slice A24 el12.Low.length cp25]] [RE.rd k_Level A1 cp2 a0.Levels, RE.cells g17 (o18 + (0 : Int).toNat * 3) [.int .i64 el12.W, .int .i64 el12.H, .slice A24 el12.Low.length cp25], RE.rd kInt A24 cp25 el12.Low]) ?_ ?_
   ·cases hbS : b32
    ·have hm := cond_f hbS hmS
     refine RL_pure (by exact wn1 rfl rfl rfl rfl) (by rfl) (by rfl) (x_fieldAddr fo30_2 (by rfl)) ?_
     refine RL_pure (by exact wn1 rfl rfl rfl rfl) (by rfl) (by rfl) (x_load (j := 2) (v := .int .i64 a1.X1) sc3 (by rfl) (H.cells (i := 1) (by rfl)) (by rfl)) ?_
     refine RL_pure (by exact wn1 rfl rfl rfl rfl) (by rfl) (by rfl) (x_fieldAddr fo54_0 (by rfl)) ?_
     refine RL_pure (by exact wn1 rfl rfl rfl rfl) (by rfl) (by rfl) (x_load (j := 0) (v := .int .i64 el12.W) sc3 (by rfl) (H.cells (i := 2) (by rfl)) (by rfl)) ?_
     refine RL_pure (by exact wn1 rfl rfl rfl rfl) (by rfl) (by rfl) (x_geq (by rfl) (by rfl)) ?_
     refine RL_pure (by exact wn0 rfl) (by rfl) (by rfl) (x_pick_f (v := .bool (decide (el12.W ≤ a1.X1))) (by rfl) (by rfl)) ?_
     refine RL_nil ?_
     exact ⟨⟨congrArg Value.bool (Option.some.inj hm), rfl, rfl, rfl, trivial⟩, H⟩
    ·have hm := cond_t hbS hmS
     refine RL_cons (OpR_off (by exact wn2 rfl rfl rfl rfl) (by rfl) (by rfl) ?_)
     refine RL_cons (OpR_off (by exact wn2 rfl rfl rfl rfl) (by rfl) (by rfl) ?_)
     refine RL_cons (OpR_off (by exact wn2 rfl rfl rfl rfl) (by rfl) (by rfl) ?_)
     refine RL_cons (OpR_off (by exact wn2 rfl rfl rfl rfl) (by rfl) (by rfl) ?_)
     refine RL_cons (OpR_off (by exact wn2 rfl rfl rfl rfl) (by rfl) (by rfl) ?_)
     refine RL_pure (by exact wn0 rfl) (by rfl) (by rfl) (x_pick_t (v := .bool true) (by rfl) (by rfl)) ?_
     refine RL_nil ?_
     exact ⟨⟨congrArg Value.bool (Option.some.inj hm), rfl, rfl, rfl, trivial⟩, H⟩
   ·rintro r' w' ⟨hA, H⟩
    obtain ⟨r36, rfl⟩ := regen _ hA; clear hA
    obtain ⟨w37, rfl⟩ : ∃ W : World, W = w' := ⟨_, rfl⟩
    show RL _ _ _ _ _ _ _
    refine RL_pure (by exact wn0 rfl) (by rfl) (by rfl) (x_move (v := .bool b35) (by rfl)) ?_
    obtain ⟨b38, hmS, hm⟩ := bind_some hm
    refine RL_cut 6 (fun r' w' => Agr [(43, .bool b38), (2, .pointer (some ⟨b5, 0, none⟩)), (3, .pointer (some ⟨b7, 0, none⟩)), (7, .pointer (some ⟨b29, 0, none⟩))] r' ∧ Sep ok w w' [.blk b5 28 [.slice A1 a0.Levels.length cp2], .blk b7 30 [.int .i64 a1.X0, .int .i64 a1.Y0, .int .i64 a1.X1, .int .i64 a1.Y1], .blk b29 54 [.int .i64 el12.W, .int .i64 el12.H, .slice A24 el12.Low.length cp25]] [RE.rd k_Level A1 cp2 a0.Levels, RE.cells g17 (o18 + (0 : Int).toNat * 3) [.int .i64 el12.W, .int .i64 el12.H, .slice A24 el12.Low.length cp25], RE.rd kInt A24 cp25 el12.Low]) ?_ ?_
    ·cases hbS : b35
     ·have hm := cond_f hbS hmS
      refine RL_pure (by exact wn1 rfl rfl rfl rfl) (by rfl) (by rfl) (x_fieldAddr fo30_1 (by rfl)) ?_
      refine RL_pure (by exact wn1 rfl rfl rfl rfl) (by rfl) (by rfl) (x_load (j := 1) (v := .int .i64 a1.Y0) sc3 (by rfl) (H.cells (i := 1) (by rfl)) (by rfl)) ?_
      refine RL_pure (by exact wn1 rfl rfl rfl rfl) (by rfl) (by rfl) (x_fieldAddr fo30_3 (by rfl)) ?_
      refine RL_pure (by exact wn1 rfl rfl rfl rfl) (by rfl) (by rfl) (x_load (j := 3) (v := .int .i64 a1.Y1) sc3 (by rfl) (H.cells (i := 1) (by rfl)) (by rfl)) ?_
      refine RL_pure (by exact wn1 rfl rfl rfl rfl) (by rfl) (by rfl) (x_gtr (by rfl) (by rfl)) ?_
      refine RL_pure (by exact wn0 rfl) (by rfl) (by rfl) (x_pick_f (v := .bool (decide (a1.Y1 < a1.Y0))) (by rfl) (by rfl)) ?_
      refine RL_nil ?_
      exact ⟨⟨congrArg Value.bool (Option.some.inj hm), rfl, rfl, rfl, trivial⟩, H⟩
     ·have hm := cond_t hbS hmS
      refine RL_cons (OpR_off (by exact wn2 rfl rfl rfl rfl) (by rfl) (by rfl) ?_)
      refine RL_cons (OpR_off (by exact wn2 rfl rfl rfl rfl) (by rfl) (by rfl) ?_)
      refine RL_cons (OpR_off (by exact wn2 rfl rfl rfl rfl) (by rfl) (by rfl) ?_)
      refine RL_cons (OpR_off (by exact wn2 rfl rfl rfl rfl) (by rfl) (by rfl) ?_)
      refine RL_cons (OpR_off (by exact wn2 rfl rfl rfl rfl) (by rfl) (by rfl) ?_)
      refine RL_pure (by exact wn0 rfl) (by rfl) (by rfl) (x_pick_t (v := .bool true) (by rfl) (by rfl)) ?_
      refine RL_nil ?_
      exact ⟨⟨congrArg Value.bool (Option.some.inj hm), rfl, rfl, rfl, trivial⟩, H⟩
    ·rintro r' w' ⟨hA, H⟩
     obtain ⟨r39, rfl⟩ := regen _ hA; clear hA
     obtain ⟨w40, rfl⟩ : ∃ W : World, W = w' := ⟨_, rfl⟩
     show RL _ _ _ _ _ _ _
     refine RL_pure (by exact wn0 rfl) (by rfl) (by rfl) (x_move (v := .bool b38) (by rfl)) ?_
     obtain ⟨b41, hmS, hm⟩ := bind_some hm
     refine RL_cut 6 (fun r' w' => Agr [(50, .bool b41), (2, .pointer (some ⟨b5, 0, none⟩)), (3, .pointer (some ⟨b7, 0, none⟩))] r' ∧ Sep ok w w' [.blk b5 28 [.slice A1 a0.Levels.length cp2], .blk b7 30 [.int .i64 a1.X0, .int .i64 a1.Y0, .int .i64 a1.X1, .int .i64 a1.Y1], .blk b29 54 [.int .i64 el12.W, .int .i64 el12.H, .slice A24 el12.Low.length cp25]] [RE.rd k_Level A1 cp2 a0.Levels, RE.cells g17 (o18 + (0 : Int).toNat * 3) [.int .i64 el12.W, .int .i64 el12.H, .slice A24 el12.Low.length cp25], RE.rd kInt A24 cp25 el12.Low]) ?_ ?_
     ·cases hbS : b38
      ·have hm := cond_f hbS hmS
       refine RL_pure (by exact wn1 rfl rfl rfl rfl) (by rfl) (by rfl) (x_fieldAddr fo30_3 (by rfl)) ?_
       refine RL_pure (by exact wn1 rfl rfl rfl rfl) (by rfl) (by rfl) (x_load (j := 3) (v := .int .i64 a1.Y1) sc3 (by rfl) (H.cells (i := 1) (by rfl)) (by rfl)) ?_
       refine RL_pure (by exact wn1 rfl rfl rfl rfl) (by rfl) (by rfl) (x_fieldAddr fo54_1 (by rfl)) ?_
       refine RL_pure (by exact wn1 rfl rfl rfl rfl) (by rfl) (by rfl) (x_load (j := 1) (v := .int .i64 el12.H) sc3 (by rfl) (H.cells (i := 2) (by rfl)) (by rfl)) ?_
       refine RL_pure (by exact wn1 rfl rfl rfl rfl) (by rfl) (by rfl) (x_geq (by rfl) (by rfl)) ?_
       refine RL_pure (by exact wn0 rfl) (by rfl) (by rfl) (x_pick_f (v := .bool (decide (el12.H ≤ a1.Y1))) (by rfl) (by rfl)) ?_
       refine RL_nil ?_
       exact ⟨⟨congrArg Value.bool (Option.some.inj hm), rfl, rfl, trivial⟩, H⟩
      ·have hm := cond_t hbS hmS
       refine RL_cons (OpR_off (by exact wn2 rfl rfl rfl rfl) (by rfl) (by rfl) ?_)
       refine RL_cons (OpR_off (by exact wn2 rfl rfl rfl rfl) (by rfl) (by rfl) ?_)
       refine RL_cons (OpR_off (by exact wn2 rfl rfl rfl rfl) (by rfl) (by rfl) ?_)
       refine RL_cons (OpR_off (by exact wn2 rfl rfl rfl rfl) (by rfl) (by rfl) ?_)
       refine RL_cons (OpR_off (by exact wn2 rfl rfl rfl rfl) (by rfl) (by rfl) ?_)
       refine RL_pure (by exact wn0 rfl) (by rfl) (by rfl) (x_pick_t (v := .bool true) (by rfl) (by rfl)) ?_
       refine RL_nil ?_
       exact ⟨⟨congrArg Value.bool (Option.some.inj hm), rfl, rfl, trivial⟩, H⟩
     ·rintro r' w' ⟨hA, H⟩
      obtain ⟨r42, rfl⟩ := regen _ hA; clear hA
      obtain ⟨w43, rfl⟩ : ∃ W : World, W = w' := ⟨_, rfl⟩
      show RL _ _ _ _ _ _ _
      refine RL_nil ?_
      refine W_cond (by rfl) (fun hb => ?_) (fun hb => ?_)
      ·have hm := cond_t hb hm
       refine W_seq ?_
       refine W_region ?_
       refine RL_pure (by exact wn0 rfl) (by rfl) (by rfl) (x_assign (v := .int .i64 0) (by rfl)) ?_
       refine RL_pure (by exact wn0 rfl) (by rfl) (by rfl) (x_assign (v := .int .i64 2) (by rfl)) ?_
       refine RL_nil ?_
       refine W_ret ?_
       obtain rfl := Option.some.inj hm
       exact ⟨[.int .i64 0, .int .i64 2], (.tmp (by rfl) (.tmp (by rfl) rfl)), rfl, H.none_⟩
      ·have hm := cond_f hb hm
       refine W_skip ?_
       refine W_seq ?_
       refine W_region ?_
       refine RL_pure (by exact wn0 rfl) (by rfl) (by rfl) (x_loadA (j := 0) (vs := [.slice A1 a0.Levels.length cp2]) ag28 (by rfl) (H.cells (i := 0) (by rfl)) (by rfl) (by rfl)) ?_
       refine RL_pure (by exact wn0 rfl) (by rfl) (by rfl) (x_fieldAddr fo28_0 (by rfl)) ?_
       refine RL_pure (by exact wn0 rfl) (by rfl) (by rfl) (x_load (j := 0) (v := .slice A1 a0.Levels.length cp2) sc26 (by rfl) (H.cells (i := 0) (by rfl)) (by rfl)) ?_
       refine RL_pure (by exact wn0 rfl) (by rfl) (by rfl) (x_len sl26 (by rfl)) ?_
       obtain ⟨x44, ex44, qx44, ux44, hm⟩ := ck_some hm
       refine RL_pure (by exact wn0 rfl) (by rfl) (by rfl) (x_sub (by rfl) (by rfl) ux44) ?_
       refine RL_pure (by exact wn0 rfl) (by rfl) (by rfl) (x_loadA (j := 0) (vs := [.int .i64 a1.X0, .int .i64 a1.Y0, .int .i64 a1.X1, .int .i64 a1.Y1]) ag30 (by rfl) (H.cells (i := 1) (by rfl)) (by rfl) (by rfl)) ?_
       obtain ⟨v46, hv45, hm⟩ := bind_some hm
       refine RL_cons (O_call (by exact wn0 rfl) (by rfl) (by rfl) (x_callL (by rfl) (args := [.agg #[.slice A1 a0.Levels.length cp2], .int .i64 x44, .int .i64 0, .int .i64 0, .agg #[.int .i64 a1.X0, .int .i64 a1.Y0, .int .i64 a1.X1, .int .i64 a1.Y1], .int .i64 66560]) (by rfl) (cf62 _ _)) (c62 okT K w43 a0 A1 cp2 x44 0 0 a1 66560 (H.rd (i := 0) (by rfl)).any v46 hv45) ?_)
       rintro e w47 ⟨rfl, H2⟩
       have H : Sep ok w w47 [.blk b5 28 [.slice A1 a0.Levels.length cp2], .blk b7 30 [.int .i64 a1.X0, .int .i64 a1.Y0, .int .i64 a1.X1, .int .i64 a1.Y1], .blk b29 54 [.int .i64 el12.W, .int .i64 el12.H, .slice A24 el12.Low.length cp25]] [RE.rd k_Level A1 cp2 a0.Levels, RE.cells g17 (o18 + (0 : Int).toNat * 3) [.int .i64 el12.W, .int .i64 el12.H, .slice A24 el12.Low.length cp25], RE.rd kInt A24 cp25 el12.Low] := H.below H2.base
       clear H2
       refine ⟨_, rfl, ?_⟩
       show RL _ _ _ _ _ _ _
       refine RL_pure (by exact wn0 rfl) (by rfl) (by rfl) (x_assign (v := .int .i64 v46) (by rfl)) ?_
       refine RL_pure (by exact wn0 rfl) (by rfl) (by rfl) (x_assign (v := .int .i64 0) (by rfl)) ?_
       refine RL_nil ?_
       refine W_ret ?_
       obtain rfl := Option.some.inj hm
       exact ⟨[.int .i64 v46, .int .i64 0], (.tmp (by rfl) (.tmp (by rfl) rfl)), rfl, H.none_⟩
end Go.Proofs.YtobkigllalbkiaaV.M
