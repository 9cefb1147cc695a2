/- Part 6 of the texts that the proof of NodesTurn stands on. -/
import Derived.Test.YtobkigllalbkiaaNodesTurnZE
/- A plain Lean function that answers as the Go function does (none: not told), and the proof that a call answers so. Written by program. -/
set_option linter.unusedVariables false
namespace Go.Proofs.YtobkigllalbkiaaV.M
open Go.RowKit Go.Proofs.YtobkigllalbkiaaV
def m50_l1b (K : Nat) (a1 : S_Handle) (v38 : S_Arena × Int) (rec1 : (List (List S_Handle)) → Int → Option (S_Graph × Int)) (l_row32_1 : (List (List S_Handle))) (y10_1 : Int) : Option (S_Graph × Int) :=
 (bif (decide (y10_1 < (l_row32_1.length : Int))) then (idx l_row32_1 y10_1 fun el49 => ((m100 K el49 a1).bind fun v63 => (idx l_row32_1 y10_1 fun el68 => (lete (l_row32_1.set ((y10_1).toNat) v63) fun l82 => (ck (y10_1 + 1) fun x86 => (rec1 l82 x86)))))) else (idx l_row32_1 a1.Slot fun el87 => (lete (l_row32_1.set ((a1.Slot).toNat) ([])) fun l101 => some ((⟨v38.1, l101⟩ : S_Graph), 0))))
def m50_l1 (K : Nat) (a1 : S_Handle) (v38 : S_Arena × Int) : Nat → (List (List S_Handle)) → Int → Option (S_Graph × Int)
 | 0 => fun _ _ => none
 | k + 1 => m50_l1b K a1 v38 (m50_l1 K a1 v38 k)
/-- diorama/dioramaref06.Kill -/
def m50 (K : Nat) (a0 : S_Graph) (a1 : S_Handle) : Option (S_Graph × Int) :=
 ((m98 K a0 a1 a1).bind fun v16 => (bif (v16 != 0) then some ((⟨(⟨[]⟩ : S_Arena), []⟩ : S_Graph), v16) else ((m48 K a0).bind fun v22 => ((m99 K v22.Arena a1).bind fun v38 => m50_l1 K a1 v38 K v22.Kids 0))))
set_option maxRecDepth 100000 in
set_option maxHeartbeats 4000000 in
theorem c50 (ok : Okp) (K : Nat) (w : World) (a0 : S_Graph) (A1 : Option Addr) (cp2 : Nat) (A5 : Option Addr) (cp6 : Nat) (a1 : S_Handle) (hR3 : Rd k_Slot w ok A1 cp2 a0.Arena.Slots) (hR7 : Rd (Kd.slice k_Handle) w ok A5 cp6 a0.Kids) (res : S_Graph × Int) (hm : m50 K a0 a1 = some res) :
  Calls Try.prog 50 #[.agg #[.slice A1 a0.Arena.Slots.length cp2, .slice A5 a0.Kids.length cp6], .agg #[.int .i64 a1.Slot, .int .i64 a1.Gen]] w (fun e w' => ∃ (A0_ : Option Addr) (c0_ : Nat), ∃ (A1_ : Option Addr) (c1_ : Nat), e = .returned (tup [.agg #[.slice A0_ res.1.Arena.Slots.length c0_, .slice A1_ res.1.Kids.length c1_], .int .i64 res.2]) ∧ Sep ok w w' [] [RE.rd k_Slot A0_ c0_ res.1.Arena.Slots, RE.rd (Kd.slice k_Handle) A1_ c1_ res.1.Kids]) := by
 refine calls_W (args := [.agg #[.slice A1 a0.Arena.Slots.length cp2, .slice A5 a0.Kids.length cp6], .agg #[.int .i64 a1.Slot, .int .i64 a1.Gen]]) Try.func50 rfl Try.ntmps50 Try.results50 rfl fun r hr => ?_
 obtain ⟨r1, rfl⟩ := regen (r := r) [(0, .agg #[.slice A1 a0.Arena.Slots.length cp2, .slice A5 a0.Kids.length cp6]), (1, .agg #[.int .i64 a1.Slot, .int .i64 a1.Gen])] ⟨hr 0 _ rfl, hr 1 _ rfl, trivial⟩
 have H : Sep ok w w [] [RE.rd k_Slot A1 cp2 a0.Arena.Slots, RE.rd (Kd.slice k_Handle) A5 cp6 a0.Kids] := Sep.arg (Sep.arg (Sep.start ok w) (re := RE.rd k_Slot A1 cp2 a0.Arena.Slots) rfl rfl hR3) (re := RE.rd (Kd.slice k_Handle) A5 cp6 a0.Kids) rfl rfl hR7
 unfold m50 at hm
 refine W_seq ?_
 refine W_region ?_
 refine RL_cons (O_box (by exact wn0 rfl) (by rfl) (by rfl) (by rfl) H (fun w10 b9 (H : Sep ok w w10 [.blk b9 79 [.slice A1 a0.Arena.Slots.length cp2, .slice A5 a0.Kids.length cp6]] [RE.rd k_Slot A1 cp2 a0.Arena.Slots, RE.rd (Kd.slice k_Handle) A5 cp6 a0.Kids]) => ?_))
 refine RL_cons (O_box (by exact wn0 rfl) (by rfl) (by rfl) (by rfl) H (fun w12 b11 (H : Sep ok w w12 [.blk b9 79 [.slice A1 a0.Arena.Slots.length cp2, .slice A5 a0.Kids.length cp6], .blk b11 81 [.int .i64 a1.Slot, .int .i64 a1.Gen]] [RE.rd k_Slot A1 cp2 a0.Arena.Slots, RE.rd (Kd.slice k_Handle) A5 cp6 a0.Kids]) => ?_))
 refine RL_cons (O_alloc (by exact wn0 rfl) (by rfl) ze79 (by rfl) H (fun w14 b13 (H : Sep ok w w14 [.blk b9 79 [.slice A1 a0.Arena.Slots.length cp2, .slice A5 a0.Kids.length cp6], .blk b11 81 [.int .i64 a1.Slot, .int .i64 a1.Gen], .blk b13 79 [.slice none 0 0, .slice none 0 0]] [RE.rd k_Slot A1 cp2 a0.Arena.Slots, RE.rd (Kd.slice k_Handle) A5 cp6 a0.Kids]) => ?_))
 refine RL_p (x_assign (v := .int .i64 0) (by rfl)) ?_
 refine RL_nil ?_
 refine W_seq ?_
 refine W_region ?_
 refine RL_p (x_loadA (j := 0) (vs := [.slice A1 a0.Arena.Slots.length cp2, .slice A5 a0.Kids.length cp6]) ag79 (by rfl) (H.cells (i := 0) (by rfl)) (by rfl) (by rfl)) ?_
 refine RL_p (x_loadA (j := 0) (vs := [.int .i64 a1.Slot, .int .i64 a1.Gen]) ag81 (by rfl) (H.cells (i := 1) (by rfl)) (by rfl) (by rfl)) ?_
 refine RL_p (x_loadA (j := 0) (vs := [.int .i64 a1.Slot, .int .i64 a1.Gen]) ag81 (by rfl) (H.cells (i := 1) (by rfl)) (by rfl) (by rfl)) ?_
 obtain ⟨v16, hv15, hm⟩ := bind_some hm
 refine RL_cons (O_call (by exact wn0 rfl) (by rfl) (by rfl) (x_callL (by rfl) (args := [.agg #[.slice A1 a0.Arena.Slots.length cp2, .slice A5 a0.Kids.length cp6], .agg #[.int .i64 a1.Slot, .int .i64 a1.Gen], .agg #[.int .i64 a1.Slot, .int .i64 a1.Gen]]) (by rfl) (cf98 _ _)) (c98 okT K w14 a0 A1 cp2 A5 cp6 a1 a1 (H.rd (i := 0) (by rfl)).any (H.rd (i := 1) (by rfl)).any v16 hv15) ?_)
 rintro e w17 ⟨rfl, H2⟩
 have H : Sep ok w w17 [.blk b9 79 [.slice A1 a0.Arena.Slots.length cp2, .slice A5 a0.Kids.length cp6], .blk b11 81 [.int .i64 a1.Slot, .int .i64 a1.Gen], .blk b13 79 [.slice none 0 0, .slice none 0 0]] [RE.rd k_Slot A1 cp2 a0.Arena.Slots, RE.rd (Kd.slice k_Handle) A5 cp6 a0.Kids] := H.below H2.base
 clear H2
 refine ⟨_, rfl, ?_⟩
 show RL _ _ _ _ _ _ _
 refine RL_p (x_assign (v := .int .i64 v16) (by rfl)) ?_
 refine RL_nil ?_
 refine W_seq ?_
 refine W_seq ?_
 refine W_region ?_
 refine RL_p (x_move (v := .int .i64 v16) (by rfl)) ?_
 refine RL_p (x_neq (by rfl) (by rfl)) ?_
 refine RL_nil ?_
 refine W_cond (by rfl) (fun hb => ?_) (fun hb => ?_)
 ·have hm := cond_t hb hm
  refine W_seq ?_
  refine W_region ?_
  refine RL_p (x_build (vs := []) (cs := [.slice none 0 0, .slice none 0 0]) (by rfl) (by kernel_rfl)) ?_
  refine RL_p (x_move (v := .int .i64 v16) (by rfl)) ?_
  refine RL_cons (O_store (i := 2) (off := 0) (by exact wn0 rfl) (by rfl) (by rfl) H (by rfl) (vs := [.slice none 0 0, .slice none 0 0]) (by rfl) sz79 (by rfl) (by rfl) (by rfl) (fun w18 (H : Sep ok w w18 [.blk b9 79 [.slice A1 a0.Arena.Slots.length cp2, .slice A5 a0.Kids.length cp6], .blk b11 81 [.int .i64 a1.Slot, .int .i64 a1.Gen], .blk b13 79 [.slice none 0 0, .slice none 0 0]] [RE.rd k_Slot A1 cp2 a0.Arena.Slots, RE.rd (Kd.slice k_Handle) A5 cp6 a0.Kids]) => ?_))
  refine RL_p (x_assign (v := .int .i64 v16) (by rfl)) ?_
  refine RL_nil ?_
  refine W_ret ?_
  have H : Sep ok w w18 [.blk b9 79 [.slice A1 a0.Arena.Slots.length cp2, .slice A5 a0.Kids.length cp6], .blk b11 81 [.int .i64 a1.Slot, .int .i64 a1.Gen], .blk b13 79 [.slice none 0 0, .slice none 0 0]] [RE.rd k_Slot A1 cp2 a0.Arena.Slots, RE.rd (Kd.slice k_Handle) A5 cp6 a0.Kids, RE.rd k_Slot none 0 ([])] := Sep.also H (re := RE.rd k_Slot none 0 ([])) (Rd.nil (by decide))
  have H : Sep ok w w18 [.blk b9 79 [.slice A1 a0.Arena.Slots.length cp2, .slice A5 a0.Kids.length cp6], .blk b11 81 [.int .i64 a1.Slot, .int .i64 a1.Gen], .blk b13 79 [.slice none 0 0, .slice none 0 0]] [RE.rd k_Slot A1 cp2 a0.Arena.Slots, RE.rd (Kd.slice k_Handle) A5 cp6 a0.Kids, RE.rd k_Slot none 0 ([]), RE.rd (Kd.slice k_Handle) none 0 ([])] := Sep.also H (re := RE.rd (Kd.slice k_Handle) none 0 ([])) (Rd.nil (by decide))
  obtain rfl := Option.some.inj hm
  exact ⟨[.agg #[.slice none 0 0, .slice none 0 0], .int .i64 v16], (.cellA (by rfl) ag79 (H.cells (i := 2) (by rfl)) (by rfl) (.tmp (by rfl) rfl)), none, 0, none, 0, rfl, (H.forgetAll).pick [2, 3]⟩
 ·have hm := cond_f hb hm
  refine W_skip ?_
  refine W_seq ?_
  refine W_region ?_
  refine RL_p (x_loadA (j := 0) (vs := [.slice A1 a0.Arena.Slots.length cp2, .slice A5 a0.Kids.length cp6]) ag79 (by rfl) (H.cells (i := 0) (by rfl)) (by rfl) (by rfl)) ?_
  obtain ⟨v22, hv21, hm⟩ := bind_some hm
  refine RL_cons (O_call (by exact wn0 rfl) (by rfl) (by rfl) (x_callL (by rfl) (args := [.agg #[.slice A1 a0.Arena.Slots.length cp2, .slice A5 a0.Kids.length cp6]]) (by rfl) (cf48 _ _)) (c48 (okS ok w [.blk b9 79 [.slice A1 a0.Arena.Slots.length cp2, .slice A5 a0.Kids.length cp6], .blk b11 81 [.int .i64 a1.Slot, .int .i64 a1.Gen], .blk b13 79 [.slice none 0 0, .slice none 0 0]]) K w17 a0 A1 cp2 A5 cp6 (H.rd (i := 0) (by rfl)) (H.rd (i := 1) (by rfl)) v22 hv21) ?_)
  rintro e w23 ⟨A24, cp25, cs26, A29, cp30, cs31, rfl, H2⟩
  have H : Sep ok w w23 [.blk b9 79 [.slice A1 a0.Arena.Slots.length cp2, .slice A5 a0.Kids.length cp6], .blk b11 81 [.int .i64 a1.Slot, .int .i64 a1.Gen], .blk b13 79 [.slice none 0 0, .slice none 0 0], .row (.slice A24 v22.Arena.Slots.length cp25) 96 k_Slot.sz v22.Arena.Slots.length cs26, .row (.slice A29 v22.Kids.length cp30) 87 (Kd.slice k_Handle).sz v22.Kids.length cs31] [RE.rd k_Slot A1 cp2 a0.Arena.Slots, RE.rd (Kd.slice k_Handle) A5 cp6 a0.Kids, RE.chunks k_Slot cs26 v22.Arena.Slots, RE.chunks (Kd.slice k_Handle) cs31 v22.Kids] := H.call H2
  clear H2
  refine ⟨_, rfl, ?_⟩
  show RL _ _ _ _ _ _ _
  refine RL_cons (O_alloc (by exact wn0 rfl) (by rfl) ze79 (by rfl) H (fun w35 b34 (H : Sep ok w w35 [.blk b9 79 [.slice A1 a0.Arena.Slots.length cp2, .slice A5 a0.Kids.length cp6], .blk b11 81 [.int .i64 a1.Slot, .int .i64 a1.Gen], .blk b13 79 [.slice none 0 0, .slice none 0 0], .row (.slice A24 v22.Arena.Slots.length cp25) 96 k_Slot.sz v22.Arena.Slots.length cs26, .row (.slice A29 v22.Kids.length cp30) 87 (Kd.slice k_Handle).sz v22.Kids.length cs31, .blk b34 79 [.slice none 0 0, .slice none 0 0]] [RE.rd k_Slot A1 cp2 a0.Arena.Slots, RE.rd (Kd.slice k_Handle) A5 cp6 a0.Kids, RE.chunks k_Slot cs26 v22.Arena.Slots, RE.chunks (Kd.slice k_Handle) cs31 v22.Kids]) => ?_))
  refine RL_cons (O_store (i := 5) (off := 0) (by exact wn0 rfl) (by rfl) (by rfl) H (by rfl) (vs := [.slice A24 v22.Arena.Slots.length cp25, .slice A29 v22.Kids.length cp30]) (by rfl) sz79 (by rfl) (by rfl) (by rfl) (fun w36 (H : Sep ok w w36 [.blk b9 79 [.slice A1 a0.Arena.Slots.length cp2, .slice A5 a0.Kids.length cp6], .blk b11 81 [.int .i64 a1.Slot, .int .i64 a1.Gen], .blk b13 79 [.slice none 0 0, .slice none 0 0], .row (.slice A24 v22.Arena.Slots.length cp25) 96 k_Slot.sz v22.Arena.Slots.length cs26, .row (.slice A29 v22.Kids.length cp30) 87 (Kd.slice k_Handle).sz v22.Kids.length cs31, .blk b34 79 [.slice A24 v22.Arena.Slots.length cp25, .slice A29 v22.Kids.length cp30]] [RE.rd k_Slot A1 cp2 a0.Arena.Slots, RE.rd (Kd.slice k_Handle) A5 cp6 a0.Kids, RE.chunks k_Slot cs26 v22.Arena.Slots, RE.chunks (Kd.slice k_Handle) cs31 v22.Kids]) => ?_))
  refine RL_nil ?_
  refine W_seq ?_
  refine W_region ?_
  refine RL_p (x_fieldAddr fo79_0 (by rfl)) ?_
  refine RL_p (x_loadA (j := 0) (vs := [.slice A24 v22.Arena.Slots.length cp25]) ag76 (by rfl) (H.cells (i := 5) (by rfl)) (by rfl) (by rfl)) ?_
  refine RL_p (x_loadA (j := 0) (vs := [.int .i64 a1.Slot, .int .i64 a1.Gen]) ag81 (by rfl) (H.cells (i := 1) (by rfl)) (by rfl) (by rfl)) ?_
  obtain ⟨v38, hv37, hm⟩ := bind_some hm
  have H : Sep ok w w36 [.blk b9 79 [.slice A1 a0.Arena.Slots.length cp2, .slice A5 a0.Kids.length cp6], .blk b11 81 [.int .i64 a1.Slot, .int .i64 a1.Gen], .blk b13 79 [.slice none 0 0, .slice none 0 0], .hole, .row (.slice A29 v22.Kids.length cp30) 87 (Kd.slice k_Handle).sz v22.Kids.length cs31, .blk b34 79 [.slice A24 v22.Arena.Slots.length cp25, .slice A29 v22.Kids.length cp30]] [RE.rd k_Slot A1 cp2 a0.Arena.Slots, RE.rd (Kd.slice k_Handle) A5 cp6 a0.Kids, RE.rd k_Slot A24 cp25 v22.Arena.Slots, RE.chunks (Kd.slice k_Handle) cs31 v22.Kids] := H.frozen (i := 3) (j := 2) (by rfl) (by rfl)
  refine RL_cons (O_call (by exact wn0 rfl) (by rfl) (by rfl) (x_callL (by rfl) (args := [.agg #[.slice A24 v22.Arena.Slots.length cp25], .agg #[.int .i64 a1.Slot, .int .i64 a1.Gen]]) (by rfl) (cf99 _ _)) (c99 (okS ok w [.blk b9 79 [.slice A1 a0.Arena.Slots.length cp2, .slice A5 a0.Kids.length cp6], .blk b11 81 [.int .i64 a1.Slot, .int .i64 a1.Gen], .blk b13 79 [.slice none 0 0, .slice none 0 0], .hole, .row (.slice A29 v22.Kids.length cp30) 87 (Kd.slice k_Handle).sz v22.Kids.length cs31, .blk b34 79 [.slice A24 v22.Arena.Slots.length cp25, .slice A29 v22.Kids.length cp30]]) K w36 v22.Arena A24 cp25 a1 (H.rd (i := 2) (by rfl)) v38 hv37) ?_)
  rintro e w39 ⟨A40, cp41, rfl, H2⟩
  have H : Sep ok w w39 [.blk b9 79 [.slice A1 a0.Arena.Slots.length cp2, .slice A5 a0.Kids.length cp6], .blk b11 81 [.int .i64 a1.Slot, .int .i64 a1.Gen], .blk b13 79 [.slice none 0 0, .slice none 0 0], .hole, .row (.slice A29 v22.Kids.length cp30) 87 (Kd.slice k_Handle).sz v22.Kids.length cs31, .blk b34 79 [.slice A24 v22.Arena.Slots.length cp25, .slice A29 v22.Kids.length cp30]] [RE.rd k_Slot A1 cp2 a0.Arena.Slots, RE.rd (Kd.slice k_Handle) A5 cp6 a0.Kids, RE.rd k_Slot A24 cp25 v22.Arena.Slots, RE.chunks (Kd.slice k_Handle) cs31 v22.Kids, RE.rd k_Slot A40 cp41 v38.1.Slots] := H.call H2
  clear H2
  refine ⟨_, rfl, ?_⟩
  show RL _ _ _ _ _ _ _
  refine RL_p (x_move (v := tup [.agg #[.slice A40 v38.1.Slots.length cp41], .int .i64 v38.2]) (by rfl)) ?_
  refine RL_p (x_extract (v := .agg #[.slice A40 v38.1.Slots.length cp41]) (by rfl) (by rfl)) ?_
  refine RL_p (x_extract (v := .int .i64 v38.2) (by rfl) (by rfl)) ?_
  refine RL_cons (O_alloc (by exact wn0 rfl) (by rfl) ze76 (by rfl) H (fun w44 b43 (H : Sep ok w w44 [.blk b9 79 [.slice A1 a0.Arena.Slots.length cp2, .slice A5 a0.Kids.length cp6], .blk b11 81 [.int .i64 a1.Slot, .int .i64 a1.Gen], .blk b13 79 [.slice none 0 0, .slice none 0 0], .hole, .row (.slice A29 v22.Kids.length cp30) 87 (Kd.slice k_Handle).sz v22.Kids.length cs31, .blk b34 79 [.slice A24 v22.Arena.Slots.length cp25, .slice A29 v22.Kids.length cp30], .blk b43 76 [.slice none 0 0]] [RE.rd k_Slot A1 cp2 a0.Arena.Slots, RE.rd (Kd.slice k_Handle) A5 cp6 a0.Kids, RE.rd k_Slot A24 cp25 v22.Arena.Slots, RE.chunks (Kd.slice k_Handle) cs31 v22.Kids, RE.rd k_Slot A40 cp41 v38.1.Slots]) => ?_))
  refine RL_cons (O_store (i := 6) (off := 0) (by exact wn0 rfl) (by rfl) (by rfl) H (by rfl) (vs := [.slice A40 v38.1.Slots.length cp41]) (by rfl) sz76 (by rfl) (by rfl) (by rfl) (fun w45 (H : Sep ok w w45 [.blk b9 79 [.slice A1 a0.Arena.Slots.length cp2, .slice A5 a0.Kids.length cp6], .blk b11 81 [.int .i64 a1.Slot, .int .i64 a1.Gen], .blk b13 79 [.slice none 0 0, .slice none 0 0], .hole, .row (.slice A29 v22.Kids.length cp30) 87 (Kd.slice k_Handle).sz v22.Kids.length cs31, .blk b34 79 [.slice A24 v22.Arena.Slots.length cp25, .slice A29 v22.Kids.length cp30], .blk b43 76 [.slice A40 v38.1.Slots.length cp41]] [RE.rd k_Slot A1 cp2 a0.Arena.Slots, RE.rd (Kd.slice k_Handle) A5 cp6 a0.Kids, RE.rd k_Slot A24 cp25 v22.Arena.Slots, RE.chunks (Kd.slice k_Handle) cs31 v22.Kids, RE.rd k_Slot A40 cp41 v38.1.Slots]) => ?_))
  refine RL_p (x_assign (v := .int .i64 v38.2) (by rfl)) ?_
  refine RL_nil ?_
  refine W_seq ?_
  refine W_region ?_
  refine RL_p (x_loadA (j := 0) (vs := [.slice A40 v38.1.Slots.length cp41]) ag76 (by rfl) (H.cells (i := 6) (by rfl)) (by rfl) (by rfl)) ?_
  refine RL_p (x_fieldAddr fo79_0 (by rfl)) ?_
  refine RL_cons (O_store (i := 5) (off := 0) (by exact wn0 rfl) (by rfl) (by rfl) H (by rfl) (vs := [.slice A40 v38.1.Slots.length cp41]) (by rfl) sz76 (by rfl) (by rfl) (by rfl) (fun w46 (H : Sep ok w w46 [.blk b9 79 [.slice A1 a0.Arena.Slots.length cp2, .slice A5 a0.Kids.length cp6], .blk b11 81 [.int .i64 a1.Slot, .int .i64 a1.Gen], .blk b13 79 [.slice none 0 0, .slice none 0 0], .hole, .row (.slice A29 v22.Kids.length cp30) 87 (Kd.slice k_Handle).sz v22.Kids.length cs31, .blk b34 79 [.slice A40 v38.1.Slots.length cp41, .slice A29 v22.Kids.length cp30], .blk b43 76 [.slice A40 v38.1.Slots.length cp41]] [RE.rd k_Slot A1 cp2 a0.Arena.Slots, RE.rd (Kd.slice k_Handle) A5 cp6 a0.Kids, RE.rd k_Slot A24 cp25 v22.Arena.Slots, RE.chunks (Kd.slice k_Handle) cs31 v22.Kids, RE.rd k_Slot A40 cp41 v38.1.Slots]) => ?_))
  refine RL_nil ?_
  refine W_seq ?_
  refine W_seq ?_
  refine W_region ?_
  refine RL_p (x_assign (v := .int .i64 0) (by rfl)) ?_
  refine RL_nil ?_
  refine W_block ?_
  refine W_loop (fun k1 r' w' => ∃ (l_row32_1 : (List (List S_Handle))), ∃ (y10_1 : Int), ∃ (A_row32_1 : Option Addr), ∃ (c_row32_1 : Nat), ∃ (cs_row32_1 : List Value), m50_l1 K a1 v38 k1 l_row32_1 y10_1 = some res ∧ Agr [(3, .pointer (some ⟨b11, 0, none⟩)), (4, .pointer (some ⟨b13, 0, none⟩)), (7, .pointer (some ⟨b34, 0, none⟩)), (10, .int .i64 y10_1)] r' ∧ Sep ok w w' [.blk b9 79 [.slice A1 a0.Arena.Slots.length cp2, .slice A5 a0.Kids.length cp6], .blk b11 81 [.int .i64 a1.Slot, .int .i64 a1.Gen], .blk b13 79 [.slice none 0 0, .slice none 0 0], .hole, .row (.slice A_row32_1 l_row32_1.length c_row32_1) 87 (Kd.slice k_Handle).sz l_row32_1.length cs_row32_1, .blk b34 79 [.slice A40 v38.1.Slots.length cp41, .slice A_row32_1 l_row32_1.length c_row32_1], .blk b43 76 [.slice A40 v38.1.Slots.length cp41]] [RE.rd k_Slot A1 cp2 a0.Arena.Slots, RE.rd (Kd.slice k_Handle) A5 cp6 a0.Kids, RE.rd k_Slot A24 cp25 v22.Arena.Slots, RE.chunks (Kd.slice k_Handle) cs_row32_1 l_row32_1, RE.rd k_Slot A40 cp41 v38.1.Slots]) K ?_ ?_
  ·exact ⟨v22.Kids, 0, A29, cp30, cs31, hm, ⟨rfl, rfl, rfl, rfl, trivial⟩, H⟩
  ·rintro k1 r' w' ⟨l_row32_1, y10_1, A_row32_1, c_row32_1, cs_row32_1, hm, hA, H⟩
   obtain ⟨r47, rfl⟩ := regen _ hA; clear hA
   obtain ⟨w48, rfl⟩ : ∃ W : World, W = w' := ⟨_, rfl⟩
   cases k1 with
   | zero => exact (none_some hm).elim
   | succ k1 =>
    have hm : m50_l1b K a1 v38 (m50_l1 K a1 v38 k1) l_row32_1 y10_1 = some res := hm
    unfold m50_l1b at hm
    obtain ⟨rec1, hrec1⟩ : ∃ f, m50_l1 K a1 v38 k1 = f := ⟨_, rfl⟩
    rw [hrec1] at hm
    refine W_seq ?_
    refine W_seq ?_
    refine W_region ?_
    refine RL_p (x_move (v := .int .i64 y10_1) (by rfl)) ?_
    refine RL_p (x_fieldAddr fo79_1 (by rfl)) ?_
    refine RL_p (x_load (j := 1) (v := .slice A_row32_1 l_row32_1.length c_row32_1) sc77 (by rfl) (H.cells (i := 5) (by rfl)) (by rfl)) ?_
    refine RL_p (x_len sl77 (by rfl)) ?_
    refine RL_p (x_lss (by rfl) (by rfl)) ?_
    refine RL_nil ?_
    refine W_cond (by rfl) (fun hb => ?_) (fun hb => ?_)
    ·have hm := cond_t hb hm
     refine W_skip ?_
     refine W_seq ?_
     refine W_block ?_
     obtain ⟨el49, h50, h51, he52, hm⟩ := idx_some hm
     obtain ⟨g54, _, hA53, _, _⟩ := H.rowIdx (i := 4) (j := 3) (by rfl) (by rfl) he52
     obtain ⟨A56, cp57, hcs58, hR59⟩ := H.rowHead (j := 3) (by rfl) he52
     have H : Sep ok w w48 [.blk b9 79 [.slice A1 a0.Arena.Slots.length cp2, .slice A5 a0.Kids.length cp6], .blk b11 81 [.int .i64 a1.Slot, .int .i64 a1.Gen], .blk b13 79 [.slice none 0 0, .slice none 0 0], .hole, .row (.slice A_row32_1 l_row32_1.length c_row32_1) 87 (Kd.slice k_Handle).sz l_row32_1.length cs_row32_1, .blk b34 79 [.slice A40 v38.1.Slots.length cp41, .slice A_row32_1 l_row32_1.length c_row32_1], .blk b43 76 [.slice A40 v38.1.Slots.length cp41]] [RE.rd k_Slot A1 cp2 a0.Arena.Slots, RE.rd (Kd.slice k_Handle) A5 cp6 a0.Kids, RE.rd k_Slot A24 cp25 v22.Arena.Slots, RE.chunks (Kd.slice k_Handle) cs_row32_1 l_row32_1, RE.rd k_Slot A40 cp41 v38.1.Slots, RE.rd k_Handle A56 cp57 el49] := Sep.also H (re := RE.rd k_Handle A56 cp57 el49) hR59
     refine W_draw [.free 0, .take 1, .free 2, .free 3, .take 4, .free 5, .free 6, .take 7, .take 8, .run 9, .free 10, .tail 11] (fun wS => Sep ok w wS [.blk b9 79 [.slice A1 a0.Arena.Slots.length cp2, .slice A5 a0.Kids.length cp6], .blk b11 81 [.int .i64 a1.Slot, .int .i64 a1.Gen], .blk b13 79 [.slice none 0 0, .slice none 0 0], .hole, .row (.slice A_row32_1 l_row32_1.length c_row32_1) 87 (Kd.slice k_Handle).sz l_row32_1.length cs_row32_1, .blk b34 79 [.slice A40 v38.1.Slots.length cp41, .slice A_row32_1 l_row32_1.length c_row32_1], .blk b43 76 [.slice A40 v38.1.Slots.length cp41]] [RE.rd k_Slot A1 cp2 a0.Arena.Slots, RE.rd (Kd.slice k_Handle) A5 cp6 a0.Kids, RE.rd k_Slot A24 cp25 v22.Arena.Slots, RE.chunks (Kd.slice k_Handle) cs_row32_1 l_row32_1, RE.rd k_Slot A40 cp41 v38.1.Slots, RE.rd k_Handle A56 cp57 el49]) [11] [0, 2, 3, 5, 6, 10] mixed0 (by kernel_rfl) (by kernel_rfl) (by kernel_rfl) (by rfl) (by exact H.drew) ?_
     obtain ⟨w61, hW⟩ : ∃ W : World, W = { w48 with drawn := w48.drawn + 1 } := ⟨_, rfl⟩
     rw [← hW]
     have H : Sep ok w w61 [.blk b9 79 [.slice A1 a0.Arena.Slots.length cp2, .slice A5 a0.Kids.length cp6], .blk b11 81 [.int .i64 a1.Slot, .int .i64 a1.Gen], .blk b13 79 [.slice none 0 0, .slice none 0 0], .hole, .row (.slice A_row32_1 l_row32_1.length c_row32_1) 87 (Kd.slice k_Handle).sz l_row32_1.length cs_row32_1, .blk b34 79 [.slice A40 v38.1.Slots.length cp41, .slice A_row32_1 l_row32_1.length c_row32_1], .blk b43 76 [.slice A40 v38.1.Slots.length cp41]] [RE.rd k_Slot A1 cp2 a0.Arena.Slots, RE.rd (Kd.slice k_Handle) A5 cp6 a0.Kids, RE.rd k_Slot A24 cp25 v22.Arena.Slots, RE.chunks (Kd.slice k_Handle) cs_row32_1 l_row32_1, RE.rd k_Slot A40 cp41 v38.1.Slots, RE.rd k_Handle A56 cp57 el49] := by rw [hW]; exact H.drew
     clear hW
     refine PR_free (by rfl) (by rfl) (by rfl) (by exact wn0 rfl) (fun wS => (x_fieldAddr fo79_1 (by rfl))) ?_
     refine PR_take (by rfl) (by rfl) (by rfl) (by exact wn0 rfl) (fun wS (H : Sep ok w wS [.blk b9 79 [.slice A1 a0.Arena.Slots.length cp2, .slice A5 a0.Kids.length cp6], .blk b11 81 [.int .i64 a1.Slot, .int .i64 a1.Gen], .blk b13 79 [.slice none 0 0, .slice none 0 0], .hole, .row (.slice A_row32_1 l_row32_1.length c_row32_1) 87 (Kd.slice k_Handle).sz l_row32_1.length cs_row32_1, .blk b34 79 [.slice A40 v38.1.Slots.length cp41, .slice A_row32_1 l_row32_1.length c_row32_1], .blk b43 76 [.slice A40 v38.1.Slots.length cp41]] [RE.rd k_Slot A1 cp2 a0.Arena.Slots, RE.rd (Kd.slice k_Handle) A5 cp6 a0.Kids, RE.rd k_Slot A24 cp25 v22.Arena.Slots, RE.chunks (Kd.slice k_Handle) cs_row32_1 l_row32_1, RE.rd k_Slot A40 cp41 v38.1.Slots, RE.rd k_Handle A56 cp57 el49]) => (x_load (j := 1) (v := .slice A_row32_1 l_row32_1.length c_row32_1) sc77 (by rfl) (H.cells (i := 5) (by rfl)) (by rfl))) ?_
     refine PR_free (by rfl) (by rfl) (by rfl) (by exact wn0 rfl) (fun wS => (x_move (v := .int .i64 y10_1) (by rfl))) ?_
     refine PR_free (by rfl) (by rfl) (by rfl) (by exact wn0 rfl) (fun wS => (x_fieldAddr fo79_1 (by rfl))) ?_
     refine PR_take (by rfl) (by rfl) (by rfl) (by exact wn0 rfl) (fun wS (H : Sep ok w wS [.blk b9 79 [.slice A1 a0.Arena.Slots.length cp2, .slice A5 a0.Kids.length cp6], .blk b11 81 [.int .i64 a1.Slot, .int .i64 a1.Gen], .blk b13 79 [.slice none 0 0, .slice none 0 0], .hole, .row (.slice A_row32_1 l_row32_1.length c_row32_1) 87 (Kd.slice k_Handle).sz l_row32_1.length cs_row32_1, .blk b34 79 [.slice A40 v38.1.Slots.length cp41, .slice A_row32_1 l_row32_1.length c_row32_1], .blk b43 76 [.slice A40 v38.1.Slots.length cp41]] [RE.rd k_Slot A1 cp2 a0.Arena.Slots, RE.rd (Kd.slice k_Handle) A5 cp6 a0.Kids, RE.rd k_Slot A24 cp25 v22.Arena.Slots, RE.chunks (Kd.slice k_Handle) cs_row32_1 l_row32_1, RE.rd k_Slot A40 cp41 v38.1.Slots, RE.rd k_Handle A56 cp57 el49]) => (x_load (j := 1) (v := .slice A_row32_1 l_row32_1.length c_row32_1) sc77 (by rfl) (H.cells (i := 5) (by rfl)) (by rfl))) ?_
     refine PR_free (by rfl) (by rfl) (by rfl) (by exact wn0 rfl) (fun wS => (x_move (v := .int .i64 y10_1) (by rfl))) ?_
     refine PR_free (by rfl) (by rfl) (by rfl) (by exact wn0 rfl) (fun wS => (x_indexAddr sl77 sz87 (by rfl) (by rfl) hA53 h50 h51)) ?_
     refine PR_take (by rfl) (by rfl) (by rfl) (by exact wn0 rfl) (fun wS (H : Sep ok w wS [.blk b9 79 [.slice A1 a0.Arena.Slots.length cp2, .slice A5 a0.Kids.length cp6], .blk b11 81 [.int .i64 a1.Slot, .int .i64 a1.Gen], .blk b13 79 [.slice none 0 0, .slice none 0 0], .hole, .row (.slice A_row32_1 l_row32_1.length c_row32_1) 87 (Kd.slice k_Handle).sz l_row32_1.length cs_row32_1, .blk b34 79 [.slice A40 v38.1.Slots.length cp41, .slice A_row32_1 l_row32_1.length c_row32_1], .blk b43 76 [.slice A40 v38.1.Slots.length cp41]] [RE.rd k_Slot A1 cp2 a0.Arena.Slots, RE.rd (Kd.slice k_Handle) A5 cp6 a0.Kids, RE.rd k_Slot A24 cp25 v22.Arena.Slots, RE.chunks (Kd.slice k_Handle) cs_row32_1 l_row32_1, RE.rd k_Slot A40 cp41 v38.1.Slots, RE.rd k_Handle A56 cp57 el49]) => (x_load (j := 0) (v := .slice A56 el49.length cp57) sc87 (by rfl) (H.rowHeadAt (i := 4) (by rfl) hA53 hcs58) (by rfl))) ?_
     refine PR_take (by rfl) (by rfl) (by rfl) (by exact wn0 rfl) (fun wS (H : Sep ok w wS [.blk b9 79 [.slice A1 a0.Arena.Slots.length cp2, .slice A5 a0.Kids.length cp6], .blk b11 81 [.int .i64 a1.Slot, .int .i64 a1.Gen], .blk b13 79 [.slice none 0 0, .slice none 0 0], .hole, .row (.slice A_row32_1 l_row32_1.length c_row32_1) 87 (Kd.slice k_Handle).sz l_row32_1.length cs_row32_1, .blk b34 79 [.slice A40 v38.1.Slots.length cp41, .slice A_row32_1 l_row32_1.length c_row32_1], .blk b43 76 [.slice A40 v38.1.Slots.length cp41]] [RE.rd k_Slot A1 cp2 a0.Arena.Slots, RE.rd (Kd.slice k_Handle) A5 cp6 a0.Kids, RE.rd k_Slot A24 cp25 v22.Arena.Slots, RE.chunks (Kd.slice k_Handle) cs_row32_1 l_row32_1, RE.rd k_Slot A40 cp41 v38.1.Slots, RE.rd k_Handle A56 cp57 el49]) => (x_loadA (j := 0) (vs := [.int .i64 a1.Slot, .int .i64 a1.Gen]) ag81 (by rfl) (H.cells (i := 1) (by rfl)) (by rfl) (by rfl))) ?_
     obtain ⟨v63, hv62, hm⟩ := bind_some hm
     refine PR_run (by rfl) (O_call (by exact wn0 rfl) (by rfl) (by rfl) (x_callL (by rfl) (args := [.slice A56 el49.length cp57, .agg #[.int .i64 a1.Slot, .int .i64 a1.Gen]]) (by rfl) (cf100 _ _)) (c100 (okS ok w [.blk b9 79 [.slice A1 a0.Arena.Slots.length cp2, .slice A5 a0.Kids.length cp6], .blk b11 81 [.int .i64 a1.Slot, .int .i64 a1.Gen], .blk b13 79 [.slice none 0 0, .slice none 0 0], .hole, .row (.slice A_row32_1 l_row32_1.length c_row32_1) 87 (Kd.slice k_Handle).sz l_row32_1.length cs_row32_1, .blk b34 79 [.slice A40 v38.1.Slots.length cp41, .slice A_row32_1 l_row32_1.length c_row32_1], .blk b43 76 [.slice A40 v38.1.Slots.length cp41]]) K w61 el49 A56 cp57 a1 (H.rd (i := 5) (by rfl)) v63 hv62) ?_)
     rintro e w64 ⟨A65, cp66, rfl, H2⟩
     have H : Sep ok w w64 [.blk b9 79 [.slice A1 a0.Arena.Slots.length cp2, .slice A5 a0.Kids.length cp6], .blk b11 81 [.int .i64 a1.Slot, .int .i64 a1.Gen], .blk b13 79 [.slice none 0 0, .slice none 0 0], .hole, .row (.slice A_row32_1 l_row32_1.length c_row32_1) 87 (Kd.slice k_Handle).sz l_row32_1.length cs_row32_1, .blk b34 79 [.slice A40 v38.1.Slots.length cp41, .slice A_row32_1 l_row32_1.length c_row32_1], .blk b43 76 [.slice A40 v38.1.Slots.length cp41]] [RE.rd k_Slot A1 cp2 a0.Arena.Slots, RE.rd (Kd.slice k_Handle) A5 cp6 a0.Kids, RE.rd k_Slot A24 cp25 v22.Arena.Slots, RE.chunks (Kd.slice k_Handle) cs_row32_1 l_row32_1, RE.rd k_Slot A40 cp41 v38.1.Slots, RE.rd k_Handle A56 cp57 el49, RE.rd k_Handle A65 cp66 v63] := H.call H2
     clear H2
     refine ⟨_, rfl, (Sep.takeR H 6), ?_⟩
     show PR _ _ _ _ _ _ _ _
     obtain ⟨el68, h69, h70, he71, hm⟩ := idx_some hm
     obtain ⟨g73, _, hA72, _, _⟩ := H.rowIdx (i := 4) (j := 3) (by rfl) (by rfl) he71
     obtain ⟨A75, cp76, hcs77, hR78⟩ := H.rowHead (j := 3) (by rfl) he71
     have H : Sep ok w w64 [.blk b9 79 [.slice A1 a0.Arena.Slots.length cp2, .slice A5 a0.Kids.length cp6], .blk b11 81 [.int .i64 a1.Slot, .int .i64 a1.Gen], .blk b13 79 [.slice none 0 0, .slice none 0 0], .hole, .row (.slice A_row32_1 l_row32_1.length c_row32_1) 87 (Kd.slice k_Handle).sz l_row32_1.length cs_row32_1, .blk b34 79 [.slice A40 v38.1.Slots.length cp41, .slice A_row32_1 l_row32_1.length c_row32_1], .blk b43 76 [.slice A40 v38.1.Slots.length cp41]] [RE.rd k_Slot A1 cp2 a0.Arena.Slots, RE.rd (Kd.slice k_Handle) A5 cp6 a0.Kids, RE.rd k_Slot A24 cp25 v22.Arena.Slots, RE.chunks (Kd.slice k_Handle) cs_row32_1 l_row32_1, RE.rd k_Slot A40 cp41 v38.1.Slots, RE.rd k_Handle A56 cp57 el49, RE.rd k_Handle A65 cp66 v63, RE.rd k_Handle A75 cp76 el68] := Sep.also H (re := RE.rd k_Handle A75 cp76 el68) hR78
     refine PR_free (by rfl) (by rfl) (by rfl) (by exact wn0 rfl) (fun wS => (x_indexAddr sl77 sz87 (by rfl) (by rfl) hA72 h69 h70)) ?_
     obtain ⟨l82, hl83, hm⟩ := lete_some hm
     refine PR_tail (by rfl) (O_storeRow (D := (Kd.slice k_Handle)) (i := 4) (j := 3) (off := 0) (m := y10_1) (a := el68) (b := v63) (vs := [.slice A65 v63.length cp66]) (by exact wn0 rfl) H (by rfl) (by rfl) hA72 (by rfl) (by rfl) he71 (by rfl) sz87 (by rfl) (by rfl) (by intro ce hce; obtain ⟨_, _, rfl, _⟩ := hce; exact ⟨A65, cp66, rfl, H.rd (i := 6) (by rfl)⟩) hl83 (fun w80 cs81 (H : Sep ok w w80 [.blk b9 79 [.slice A1 a0.Arena.Slots.length cp2, .slice A5 a0.Kids.length cp6], .blk b11 81 [.int .i64 a1.Slot, .int .i64 a1.Gen], .blk b13 79 [.slice none 0 0, .slice none 0 0], .hole, .row (.slice A_row32_1 l82.length c_row32_1) 87 (Kd.slice k_Handle).sz l82.length cs81, .blk b34 79 [.slice A40 v38.1.Slots.length cp41, .slice A_row32_1 l_row32_1.length c_row32_1], .blk b43 76 [.slice A40 v38.1.Slots.length cp41]] [RE.rd k_Slot A1 cp2 a0.Arena.Slots, RE.rd (Kd.slice k_Handle) A5 cp6 a0.Kids, RE.rd k_Slot A24 cp25 v22.Arena.Slots, RE.chunks (Kd.slice k_Handle) cs81 l82, RE.rd k_Slot A40 cp41 v38.1.Slots, RE.rd k_Handle A56 cp57 el49, RE.rd k_Handle A65 cp66 v63, RE.rd k_Handle A75 cp76 el68]) => ?_))
     refine PR_nil ?_
     have hn84 : l_row32_1.length = l82.length := by rw [← hl83]; exact (List.length_set ..).symm
     have H : Sep ok w w80 [.blk b9 79 [.slice A1 a0.Arena.Slots.length cp2, .slice A5 a0.Kids.length cp6], .blk b11 81 [.int .i64 a1.Slot, .int .i64 a1.Gen], .blk b13 79 [.slice none 0 0, .slice none 0 0], .hole, .row (.slice A_row32_1 l82.length c_row32_1) 87 (Kd.slice k_Handle).sz l82.length cs81, .blk b34 79 [.slice A40 v38.1.Slots.length cp41, .slice A_row32_1 l82.length c_row32_1], .blk b43 76 [.slice A40 v38.1.Slots.length cp41]] [RE.rd k_Slot A1 cp2 a0.Arena.Slots, RE.rd (Kd.slice k_Handle) A5 cp6 a0.Kids, RE.rd k_Slot A24 cp25 v22.Arena.Slots, RE.chunks (Kd.slice k_Handle) cs81 l82, RE.rd k_Slot A40 cp41 v38.1.Slots, RE.rd k_Handle A56 cp57 el49, RE.rd k_Handle A65 cp66 v63, RE.rd k_Handle A75 cp76 el68] := by (try rw [hn84] at H); exact H
     refine W_regen (l := [(3, .pointer (some ⟨b11, 0, none⟩)), (4, .pointer (some ⟨b13, 0, none⟩)), (7, .pointer (some ⟨b34, 0, none⟩)), (10, .int .i64 y10_1)]) ⟨rfl, rfl, rfl, rfl, trivial⟩ fun r85 => ?_
     refine W_region ?_
     refine RL_p (x_move (v := .int .i64 y10_1) (by rfl)) ?_
     obtain ⟨x86, ex86, qx86, ux86, hm⟩ := ck_some hm
     refine RL_p (x_add (by rfl) (by rfl) ux86) ?_
     refine RL_p (x_assign (v := .int .i64 x86) (by rfl)) ?_
     refine RL_nil ?_
     subst hrec1
     exact ⟨k1, Nat.lt_succ_self k1, l82, x86, A_row32_1, c_row32_1, cs81, hm, ⟨rfl, rfl, rfl, rfl, trivial⟩, (H).pick [0, 1, 2, 3, 4]⟩
    ·have hm := cond_f hb hm
     refine W_exit ?_
     refine W_seq ?_
     refine W_region ?_
     refine RL_p (x_fieldAddr fo79_1 (by rfl)) ?_
     refine RL_p (x_load (j := 1) (v := .slice A_row32_1 l_row32_1.length c_row32_1) sc77 (by rfl) (H.cells (i := 5) (by rfl)) (by rfl)) ?_
     refine RL_p (x_fieldAddr fo81_0 (by rfl)) ?_
     refine RL_p (x_load (j := 0) (v := .int .i64 a1.Slot) sc3 (by rfl) (H.cells (i := 1) (by rfl)) (by rfl)) ?_
     obtain ⟨el87, h88, h89, he90, hm⟩ := idx_some hm
     obtain ⟨g92, _, hA91, _, _⟩ := H.rowIdx (i := 4) (j := 3) (by rfl) (by rfl) he90
     obtain ⟨A94, cp95, hcs96, hR97⟩ := H.rowHead (j := 3) (by rfl) he90
     have H : Sep ok w w48 [.blk b9 79 [.slice A1 a0.Arena.Slots.length cp2, .slice A5 a0.Kids.length cp6], .blk b11 81 [.int .i64 a1.Slot, .int .i64 a1.Gen], .blk b13 79 [.slice none 0 0, .slice none 0 0], .hole, .row (.slice A_row32_1 l_row32_1.length c_row32_1) 87 (Kd.slice k_Handle).sz l_row32_1.length cs_row32_1, .blk b34 79 [.slice A40 v38.1.Slots.length cp41, .slice A_row32_1 l_row32_1.length c_row32_1], .blk b43 76 [.slice A40 v38.1.Slots.length cp41]] [RE.rd k_Slot A1 cp2 a0.Arena.Slots, RE.rd (Kd.slice k_Handle) A5 cp6 a0.Kids, RE.rd k_Slot A24 cp25 v22.Arena.Slots, RE.chunks (Kd.slice k_Handle) cs_row32_1 l_row32_1, RE.rd k_Slot A40 cp41 v38.1.Slots, RE.rd k_Handle A94 cp95 el87] := Sep.also H (re := RE.rd k_Handle A94 cp95 el87) hR97
     refine RL_p (x_indexAddr sl77 sz87 (by rfl) (by rfl) hA91 h88 h89) ?_
     obtain ⟨l101, hl102, hm⟩ := lete_some hm
     refine RL_cons (O_storeRow (D := (Kd.slice k_Handle)) (i := 4) (j := 3) (off := 0) (m := a1.Slot) (a := el87) (b := ([] : (List S_Handle))) (vs := [.slice none 0 0]) (by exact wn0 rfl) H (by rfl) (by rfl) hA91 (by rfl) (by rfl) he90 (by rfl) sz87 (by rfl) (by rfl) (by intro ce hce; obtain ⟨_, _, rfl, _⟩ := hce; exact ⟨none, 0, rfl, Rd.nil (by decide)⟩) hl102 (fun w99 cs100 (H : Sep ok w w99 [.blk b9 79 [.slice A1 a0.Arena.Slots.length cp2, .slice A5 a0.Kids.length cp6], .blk b11 81 [.int .i64 a1.Slot, .int .i64 a1.Gen], .blk b13 79 [.slice none 0 0, .slice none 0 0], .hole, .row (.slice A_row32_1 l101.length c_row32_1) 87 (Kd.slice k_Handle).sz l101.length cs100, .blk b34 79 [.slice A40 v38.1.Slots.length cp41, .slice A_row32_1 l_row32_1.length c_row32_1], .blk b43 76 [.slice A40 v38.1.Slots.length cp41]] [RE.rd k_Slot A1 cp2 a0.Arena.Slots, RE.rd (Kd.slice k_Handle) A5 cp6 a0.Kids, RE.rd k_Slot A24 cp25 v22.Arena.Slots, RE.chunks (Kd.slice k_Handle) cs100 l101, RE.rd k_Slot A40 cp41 v38.1.Slots, RE.rd k_Handle A94 cp95 el87]) => ?_))
     refine RL_nil ?_
     have hn103 : l_row32_1.length = l101.length := by rw [← hl102]; exact (List.length_set ..).symm
     have H : Sep ok w w99 [.blk b9 79 [.slice A1 a0.Arena.Slots.length cp2, .slice A5 a0.Kids.length cp6], .blk b11 81 [.int .i64 a1.Slot, .int .i64 a1.Gen], .blk b13 79 [.slice none 0 0, .slice none 0 0], .hole, .row (.slice A_row32_1 l101.length c_row32_1) 87 (Kd.slice k_Handle).sz l101.length cs100, .blk b34 79 [.slice A40 v38.1.Slots.length cp41, .slice A_row32_1 l101.length c_row32_1], .blk b43 76 [.slice A40 v38.1.Slots.length cp41]] [RE.rd k_Slot A1 cp2 a0.Arena.Slots, RE.rd (Kd.slice k_Handle) A5 cp6 a0.Kids, RE.rd k_Slot A24 cp25 v22.Arena.Slots, RE.chunks (Kd.slice k_Handle) cs100 l101, RE.rd k_Slot A40 cp41 v38.1.Slots, RE.rd k_Handle A94 cp95 el87] := by (try rw [hn103] at H); exact H
     refine W_regen (l := [(4, .pointer (some ⟨b13, 0, none⟩)), (7, .pointer (some ⟨b34, 0, none⟩))]) ⟨rfl, rfl, trivial⟩ fun r104 => ?_
     refine W_seq ?_
     refine W_region ?_
     refine RL_p (x_loadA (j := 0) (vs := [.slice A40 v38.1.Slots.length cp41, .slice A_row32_1 l101.length c_row32_1]) ag79 (by rfl) (H.cells (i := 5) (by rfl)) (by rfl) (by rfl)) ?_
     refine RL_cons (O_store (i := 2) (off := 0) (by exact wn0 rfl) (by rfl) (by rfl) H (by rfl) (vs := [.slice A40 v38.1.Slots.length cp41, .slice A_row32_1 l101.length c_row32_1]) (by rfl) sz79 (by rfl) (by rfl) (by rfl) (fun w105 (H : Sep ok w w105 [.blk b9 79 [.slice A1 a0.Arena.Slots.length cp2, .slice A5 a0.Kids.length cp6], .blk b11 81 [.int .i64 a1.Slot, .int .i64 a1.Gen], .blk b13 79 [.slice A40 v38.1.Slots.length cp41, .slice A_row32_1 l101.length c_row32_1], .hole, .row (.slice A_row32_1 l101.length c_row32_1) 87 (Kd.slice k_Handle).sz l101.length cs100, .blk b34 79 [.slice A40 v38.1.Slots.length cp41, .slice A_row32_1 l101.length c_row32_1], .blk b43 76 [.slice A40 v38.1.Slots.length cp41]] [RE.rd k_Slot A1 cp2 a0.Arena.Slots, RE.rd (Kd.slice k_Handle) A5 cp6 a0.Kids, RE.rd k_Slot A24 cp25 v22.Arena.Slots, RE.chunks (Kd.slice k_Handle) cs100 l101, RE.rd k_Slot A40 cp41 v38.1.Slots, RE.rd k_Handle A94 cp95 el87]) => ?_))
     refine RL_p (x_assign (v := .int .i64 0) (by rfl)) ?_
     refine RL_nil ?_
     refine W_ret ?_
     have H : Sep ok w w105 [.blk b9 79 [.slice A1 a0.Arena.Slots.length cp2, .slice A5 a0.Kids.length cp6], .blk b11 81 [.int .i64 a1.Slot, .int .i64 a1.Gen], .blk b13 79 [.slice A40 v38.1.Slots.length cp41, .slice A_row32_1 l101.length c_row32_1], .hole, .hole, .blk b34 79 [.slice A40 v38.1.Slots.length cp41, .slice A_row32_1 l101.length c_row32_1], .blk b43 76 [.slice A40 v38.1.Slots.length cp41]] [RE.rd k_Slot A1 cp2 a0.Arena.Slots, RE.rd (Kd.slice k_Handle) A5 cp6 a0.Kids, RE.rd k_Slot A24 cp25 v22.Arena.Slots, RE.rd (Kd.slice k_Handle) A_row32_1 c_row32_1 l101, RE.rd k_Slot A40 cp41 v38.1.Slots, RE.rd k_Handle A94 cp95 el87] := H.frozen (i := 4) (j := 3) (by rfl) (by rfl)
     obtain rfl := Option.some.inj hm
     exact ⟨[.agg #[.slice A40 v38.1.Slots.length cp41, .slice A_row32_1 l101.length c_row32_1], .int .i64 0], (.cellA (by rfl) ag79 (H.cells (i := 2) (by rfl)) (by rfl) (.tmp (by rfl) rfl)), A40, cp41, A_row32_1, c_row32_1, rfl, (H.forgetAll).pick [4, 3]⟩
end Go.Proofs.YtobkigllalbkiaaV.M

/- A plain Lean function that answers as the Go function does (none: not told), and the proof that a call answers so. Written by program. -/
set_option linter.unusedVariables false
namespace Go.Proofs.YtobkigllalbkiaaV.M
open Go.RowKit Go.Proofs.YtobkigllalbkiaaV
/-- diorama/dioramaref06.Link -/
def m51 (K : Nat) (a0 : S_Graph) (a1 : S_Handle) (a2 : S_Handle) (a3 : Int) : Option (S_Graph × Int) :=
 ((m98 K a0 a1 a2).bind fun v18 => (bif (v18 != 0) then some ((⟨(⟨[]⟩ : S_Arena), []⟩ : S_Graph), v18) else (idx a0.Kids a1.Slot fun el23 => ((bif (decide (a3 < 0)) then some true else some (decide ((el23.length : Int) < a3))).bind fun b40 => (bif b40 then some ((⟨(⟨[]⟩ : S_Arena), []⟩ : S_Graph), 2) else (bif (decide (16 ≤ (el23.length : Int))) then some ((⟨(⟨[]⟩ : S_Arena), []⟩ : S_Graph), 9) else ((m101 K a0 a2.Slot).bind fun v50 => (idx v50 a1.Slot fun el55 => (bif el55 then some ((⟨(⟨[]⟩ : S_Arena), []⟩ : S_Graph), 60) else ((m48 K a0).bind fun v66 => (slg a3 (el23.length : Int) (apds 16 ([] : List S_Handle) (el23.take ((a3).toNat)) fun l91 => (apd 16 l91 a2 fun l100 => (slg a3 (el23.length : Int) (apds 16 l100 (el23.drop ((a3).toNat)) fun l111 => (idx v66.Kids a1.Slot fun el114 => (lete (v66.Kids.set ((a1.Slot).toNat) l111) fun l128 => some ((⟨v66.Arena, l128⟩ : S_Graph), 0))))))))))))))))))
set_option maxRecDepth 100000 in
set_option maxHeartbeats 4000000 in
theorem c51 (ok : Okp) (K : Nat) (w : World) (a0 : S_Graph) (A1 : Option Addr) (cp2 : Nat) (A5 : Option Addr) (cp6 : Nat) (a1 : S_Handle) (a2 : S_Handle) (a3 : Int) (hR3 : Rd k_Slot w ok A1 cp2 a0.Arena.Slots) (hR7 : Rd (Kd.slice k_Handle) w ok A5 cp6 a0.Kids) (res : S_Graph × Int) (hm : m51 K a0 a1 a2 a3 = some res) :
  Calls Try.prog 51 #[.agg #[.slice A1 a0.Arena.Slots.length cp2, .slice A5 a0.Kids.length cp6], .agg #[.int .i64 a1.Slot, .int .i64 a1.Gen], .agg #[.int .i64 a2.Slot, .int .i64 a2.Gen], .int .i64 a3] w (fun e w' => ∃ (A0_ : Option Addr) (c0_ : Nat), ∃ (A1_ : Option Addr) (c1_ : Nat), e = .returned (tup [.agg #[.slice A0_ res.1.Arena.Slots.length c0_, .slice A1_ res.1.Kids.length c1_], .int .i64 res.2]) ∧ Sep ok w w' [] [RE.rd k_Slot A0_ c0_ res.1.Arena.Slots, RE.rd (Kd.slice k_Handle) A1_ c1_ res.1.Kids]) := by
 refine calls_W (args := [.agg #[.slice A1 a0.Arena.Slots.length cp2, .slice A5 a0.Kids.length cp6], .agg #[.int .i64 a1.Slot, .int .i64 a1.Gen], .agg #[.int .i64 a2.Slot, .int .i64 a2.Gen], .int .i64 a3]) Try.func51 rfl Try.ntmps51 Try.results51 rfl fun r hr => ?_
 obtain ⟨r1, rfl⟩ := regen (r := r) [(0, .agg #[.slice A1 a0.Arena.Slots.length cp2, .slice A5 a0.Kids.length cp6]), (1, .agg #[.int .i64 a1.Slot, .int .i64 a1.Gen]), (2, .agg #[.int .i64 a2.Slot, .int .i64 a2.Gen]), (3, .int .i64 a3)] ⟨hr 0 _ rfl, hr 1 _ rfl, hr 2 _ rfl, hr 3 _ rfl, trivial⟩
 have H : Sep ok w w [] [RE.rd k_Slot A1 cp2 a0.Arena.Slots, RE.rd (Kd.slice k_Handle) A5 cp6 a0.Kids] := Sep.arg (Sep.arg (Sep.start ok w) (re := RE.rd k_Slot A1 cp2 a0.Arena.Slots) rfl rfl hR3) (re := RE.rd (Kd.slice k_Handle) A5 cp6 a0.Kids) rfl rfl hR7
 unfold m51 at hm
 refine W_seq ?_
 refine W_region ?_
 refine RL_cons (O_box (by exact wn0 rfl) (by rfl) (by rfl) (by rfl) H (fun w10 b9 (H : Sep ok w w10 [.blk b9 79 [.slice A1 a0.Arena.Slots.length cp2, .slice A5 a0.Kids.length cp6]] [RE.rd k_Slot A1 cp2 a0.Arena.Slots, RE.rd (Kd.slice k_Handle) A5 cp6 a0.Kids]) => ?_))
 refine RL_cons (O_box (by exact wn0 rfl) (by rfl) (by rfl) (by rfl) H (fun w12 b11 (H : Sep ok w w12 [.blk b9 79 [.slice A1 a0.Arena.Slots.length cp2, .slice A5 a0.Kids.length cp6], .blk b11 81 [.int .i64 a1.Slot, .int .i64 a1.Gen]] [RE.rd k_Slot A1 cp2 a0.Arena.Slots, RE.rd (Kd.slice k_Handle) A5 cp6 a0.Kids]) => ?_))
 refine RL_cons (O_box (by exact wn0 rfl) (by rfl) (by rfl) (by rfl) H (fun w14 b13 (H : Sep ok w w14 [.blk b9 79 [.slice A1 a0.Arena.Slots.length cp2, .slice A5 a0.Kids.length cp6], .blk b11 81 [.int .i64 a1.Slot, .int .i64 a1.Gen], .blk b13 81 [.int .i64 a2.Slot, .int .i64 a2.Gen]] [RE.rd k_Slot A1 cp2 a0.Arena.Slots, RE.rd (Kd.slice k_Handle) A5 cp6 a0.Kids]) => ?_))
 refine RL_cons (O_alloc (by exact wn0 rfl) (by rfl) ze79 (by rfl) H (fun w16 b15 (H : Sep ok w w16 [.blk b9 79 [.slice A1 a0.Arena.Slots.length cp2, .slice A5 a0.Kids.length cp6], .blk b11 81 [.int .i64 a1.Slot, .int .i64 a1.Gen], .blk b13 81 [.int .i64 a2.Slot, .int .i64 a2.Gen], .blk b15 79 [.slice none 0 0, .slice none 0 0]] [RE.rd k_Slot A1 cp2 a0.Arena.Slots, RE.rd (Kd.slice k_Handle) A5 cp6 a0.Kids]) => ?_))
 refine RL_p (x_assign (v := .int .i64 0) (by rfl)) ?_
 refine RL_nil ?_
 refine W_seq ?_
 refine W_region ?_
 refine RL_p (x_loadA (j := 0) (vs := [.slice A1 a0.Arena.Slots.length cp2, .slice A5 a0.Kids.length cp6]) ag79 (by rfl) (H.cells (i := 0) (by rfl)) (by rfl) (by rfl)) ?_
 refine RL_p (x_loadA (j := 0) (vs := [.int .i64 a1.Slot, .int .i64 a1.Gen]) ag81 (by rfl) (H.cells (i := 1) (by rfl)) (by rfl) (by rfl)) ?_
 refine RL_p (x_loadA (j := 0) (vs := [.int .i64 a2.Slot, .int .i64 a2.Gen]) ag81 (by rfl) (H.cells (i := 2) (by rfl)) (by rfl) (by rfl)) ?_
 obtain ⟨v18, hv17, hm⟩ := bind_some hm
 refine RL_cons (O_call (by exact wn0 rfl) (by rfl) (by rfl) (x_callL (by rfl) (args := [.agg #[.slice A1 a0.Arena.Slots.length cp2, .slice A5 a0.Kids.length cp6], .agg #[.int .i64 a1.Slot, .int .i64 a1.Gen], .agg #[.int .i64 a2.Slot, .int .i64 a2.Gen]]) (by rfl) (cf98 _ _)) (c98 okT K w16 a0 A1 cp2 A5 cp6 a1 a2 (H.rd (i := 0) (by rfl)).any (H.rd (i := 1) (by rfl)).any v18 hv17) ?_)
 rintro e w19 ⟨rfl, H2⟩
 have H : Sep ok w w19 [.blk b9 79 [.slice A1 a0.Arena.Slots.length cp2, .slice A5 a0.Kids.length cp6], .blk b11 81 [.int .i64 a1.Slot, .int .i64 a1.Gen], .blk b13 81 [.int .i64 a2.Slot, .int .i64 a2.Gen], .blk b15 79 [.slice none 0 0, .slice none 0 0]] [RE.rd k_Slot A1 cp2 a0.Arena.Slots, RE.rd (Kd.slice k_Handle) A5 cp6 a0.Kids] := H.below H2.base
 clear H2
 refine ⟨_, rfl, ?_⟩
 show RL _ _ _ _ _ _ _
 refine RL_p (x_assign (v := .int .i64 v18) (by rfl)) ?_
 refine RL_nil ?_
 refine W_seq ?_
 refine W_seq ?_
 refine W_region ?_
 refine RL_p (x_move (v := .int .i64 v18) (by rfl)) ?_
 refine RL_p (x_neq (by rfl) (by rfl)) ?_
 refine RL_nil ?_
 refine W_cond (by rfl) (fun hb => ?_) (fun hb => ?_)
 ·have hm := cond_t hb hm
  refine W_seq ?_
  refine W_region ?_
  refine RL_p (x_build (vs := []) (cs := [.slice none 0 0, .slice none 0 0]) (by rfl) (by kernel_rfl)) ?_
  refine RL_p (x_move (v := .int .i64 v18) (by rfl)) ?_
  refine RL_cons (O_store (i := 3) (off := 0) (by exact wn0 rfl) (by rfl) (by rfl) H (by rfl) (vs := [.slice none 0 0, .slice none 0 0]) (by rfl) sz79 (by rfl) (by rfl) (by rfl) (fun w20 (H : Sep ok w w20 [.blk b9 79 [.slice A1 a0.Arena.Slots.length cp2, .slice A5 a0.Kids.length cp6], .blk b11 81 [.int .i64 a1.Slot, .int .i64 a1.Gen], .blk b13 81 [.int .i64 a2.Slot, .int .i64 a2.Gen], .blk b15 79 [.slice none 0 0, .slice none 0 0]] [RE.rd k_Slot A1 cp2 a0.Arena.Slots, RE.rd (Kd.slice k_Handle) A5 cp6 a0.Kids]) => ?_))
  refine RL_p (x_assign (v := .int .i64 v18) (by rfl)) ?_
  refine RL_nil ?_
  refine W_ret ?_
  have H : Sep ok w w20 [.blk b9 79 [.slice A1 a0.Arena.Slots.length cp2, .slice A5 a0.Kids.length cp6], .blk b11 81 [.int .i64 a1.Slot, .int .i64 a1.Gen], .blk b13 81 [.int .i64 a2.Slot, .int .i64 a2.Gen], .blk b15 79 [.slice none 0 0, .slice none 0 0]] [RE.rd k_Slot A1 cp2 a0.Arena.Slots, RE.rd (Kd.slice k_Handle) A5 cp6 a0.Kids, RE.rd k_Slot none 0 ([])] := Sep.also H (re := RE.rd k_Slot none 0 ([])) (Rd.nil (by decide))
  have H : Sep ok w w20 [.blk b9 79 [.slice A1 a0.Arena.Slots.length cp2, .slice A5 a0.Kids.length cp6], .blk b11 81 [.int .i64 a1.Slot, .int .i64 a1.Gen], .blk b13 81 [.int .i64 a2.Slot, .int .i64 a2.Gen], .blk b15 79 [.slice none 0 0, .slice none 0 0]] [RE.rd k_Slot A1 cp2 a0.Arena.Slots, RE.rd (Kd.slice k_Handle) A5 cp6 a0.Kids, RE.rd k_Slot none 0 ([]), RE.rd (Kd.slice k_Handle) none 0 ([])] := Sep.also H (re := RE.rd (Kd.slice k_Handle) none 0 ([])) (Rd.nil (by decide))
  obtain rfl := Option.some.inj hm
  exact ⟨[.agg #[.slice none 0 0, .slice none 0 0], .int .i64 v18], (.cellA (by rfl) ag79 (H.cells (i := 3) (by rfl)) (by rfl) (.tmp (by rfl) rfl)), none, 0, none, 0, rfl, (H.forgetAll).pick [2, 3]⟩
 ·have hm := cond_f hb hm
  refine W_skip ?_
  refine W_seq ?_
  refine W_region ?_
  refine RL_p (x_fieldAddr fo79_1 (by rfl)) ?_
  refine RL_p (x_load (j := 1) (v := .slice A5 a0.Kids.length cp6) sc77 (by rfl) (H.cells (i := 0) (by rfl)) (by rfl)) ?_
  refine RL_p (x_fieldAddr fo81_0 (by rfl)) ?_
  refine RL_p (x_load (j := 0) (v := .int .i64 a1.Slot) sc3 (by rfl) (H.cells (i := 1) (by rfl)) (by rfl)) ?_
  obtain ⟨el23, h24, h25, he26, hm⟩ := idx_some hm
  obtain ⟨g28, o29, hA27⟩ := (H.rd (i := 1) (by rfl)).addr he26
  obtain ⟨cs30, hk31, hat32, hg_cs30⟩ := (H.rd (i := 1) (by rfl)).openAt hA27 he26
  obtain ⟨A35, cp36, rfl, hR38⟩ := hk31
  have H : Sep ok w w19 [.blk b9 79 [.slice A1 a0.Arena.Slots.length cp2, .slice A5 a0.Kids.length cp6], .blk b11 81 [.int .i64 a1.Slot, .int .i64 a1.Gen], .blk b13 81 [.int .i64 a2.Slot, .int .i64 a2.Gen], .blk b15 79 [.slice none 0 0, .slice none 0 0]] [RE.rd k_Slot A1 cp2 a0.Arena.Slots, RE.rd (Kd.slice k_Handle) A5 cp6 a0.Kids, RE.cells g28 (o29 + (a1.Slot).toNat * 1) [.slice A35 el23.length cp36]] := Sep.also H (re := RE.cells g28 (o29 + (a1.Slot).toNat * 1) [.slice A35 el23.length cp36]) ⟨hg_cs30, hat32⟩
  have H : Sep ok w w19 [.blk b9 79 [.slice A1 a0.Arena.Slots.length cp2, .slice A5 a0.Kids.length cp6], .blk b11 81 [.int .i64 a1.Slot, .int .i64 a1.Gen], .blk b13 81 [.int .i64 a2.Slot, .int .i64 a2.Gen], .blk b15 79 [.slice none 0 0, .slice none 0 0]] [RE.rd k_Slot A1 cp2 a0.Arena.Slots, RE.rd (Kd.slice k_Handle) A5 cp6 a0.Kids, RE.cells g28 (o29 + (a1.Slot).toNat * 1) [.slice A35 el23.length cp36], RE.rd k_Handle A35 cp36 el23] := Sep.also H (re := RE.rd k_Handle A35 cp36 el23) hR38
  refine RL_p (x_indexAddr sl77 sz87 (by rfl) (by rfl) hA27 h24 h25) ?_
  refine RL_p (x_load (j := 0) (v := .slice A35 el23.length cp36) sc87 (by rfl) (H.cellsR (i := 2) (by rfl)) (by rfl)) ?_
  refine RL_p (x_assign (v := .slice A35 el23.length cp36) (by rfl)) ?_
  refine RL_nil ?_
  refine W_seq ?_
  refine W_seq ?_
  refine W_region ?_
  refine RL_p (x_move (v := .int .i64 a3) (by rfl)) ?_
  refine RL_p (x_lss (by rfl) (by rfl)) ?_
  refine RL_p (x_move (v := .bool (decide (a3 < 0))) (by rfl)) ?_
  obtain ⟨b40, hmS, hm⟩ := bind_some hm
  refine RL_cut 5 (fun r' w' => Agr [(36, .bool b40), (3, .int .i64 a3), (4, .pointer (some ⟨b9, 0, none⟩)), (5, .pointer (some ⟨b11, 0, none⟩)), (6, .pointer (some ⟨b13, 0, none⟩)), (8, .pointer (some ⟨b15, 0, none⟩)), (11, .slice A35 el23.length cp36)] r' ∧ Sep ok w w' [.blk b9 79 [.slice A1 a0.Arena.Slots.length cp2, .slice A5 a0.Kids.length cp6], .blk b11 81 [.int .i64 a1.Slot, .int .i64 a1.Gen], .blk b13 81 [.int .i64 a2.Slot, .int .i64 a2.Gen], .blk b15 79 [.slice none 0 0, .slice none 0 0]] [RE.rd k_Slot A1 cp2 a0.Arena.Slots, RE.rd (Kd.slice k_Handle) A5 cp6 a0.Kids, RE.cells g28 (o29 + (a1.Slot).toNat * 1) [.slice A35 el23.length cp36], RE.rd k_Handle A35 cp36 el23]) ?_ ?_
  ·cases hbS : (decide (a3 < 0))
   ·have hm := cond_f hbS hmS
    refine RL_pure (by exact wn1 rfl rfl rfl rfl) (by rfl) (by rfl) (x_move (v := .int .i64 a3) (by rfl)) ?_
    refine RL_pure (by exact wn1 rfl rfl rfl rfl) (by rfl) (by rfl) (x_move (v := .slice A35 el23.length cp36) (by rfl)) ?_
    refine RL_pure (by exact wn1 rfl rfl rfl rfl) (by rfl) (by rfl) (x_len sl87 (by rfl)) ?_
    refine RL_pure (by exact wn1 rfl rfl rfl rfl) (by rfl) (by rfl) (x_gtr (by rfl) (by rfl)) ?_
    refine RL_p (x_pick_f (v := .bool (decide ((el23.length : Int) < a3))) (by rfl) (by rfl)) ?_
    refine RL_nil ?_
    exact ⟨⟨congrArg Value.bool (Option.some.inj hm), rfl, rfl, rfl, rfl, rfl, rfl, trivial⟩, H⟩
   ·have hm := cond_t hbS hmS
    refine RL_cons (OpR_off (by exact wn2 rfl rfl rfl rfl) (by rfl) (by rfl) ?_)
    refine RL_cons (OpR_off (by exact wn2 rfl rfl rfl rfl) (by rfl) (by rfl) ?_)
    refine RL_cons (OpR_off (by exact wn2 rfl rfl rfl rfl) (by rfl) (by rfl) ?_)
    refine RL_cons (OpR_off (by exact wn2 rfl rfl rfl rfl) (by rfl) (by rfl) ?_)
    refine RL_p (x_pick_t (v := .bool true) (by rfl) (by rfl)) ?_
    refine RL_nil ?_
    exact ⟨⟨congrArg Value.bool (Option.some.inj hm), rfl, rfl, rfl, rfl, rfl, rfl, trivial⟩, H⟩
  ·rintro r' w' ⟨hA, H⟩
   obtain ⟨r41, rfl⟩ := regen _ hA; clear hA
   obtain ⟨w42, rfl⟩ : ∃ W : World, W = w' := ⟨_, rfl⟩
   show RL _ _ _ _ _ _ _
   refine RL_nil ?_
   refine W_cond (by rfl) (fun hb => ?_) (fun hb => ?_)
   ·have hm := cond_t hb hm
    refine W_seq ?_
    refine W_region ?_
    refine RL_p (x_build (vs := []) (cs := [.slice none 0 0, .slice none 0 0]) (by rfl) (by kernel_rfl)) ?_
    refine RL_cons (O_store (i := 3) (off := 0) (by exact wn0 rfl) (by rfl) (by rfl) H (by rfl) (vs := [.slice none 0 0, .slice none 0 0]) (by rfl) sz79 (by rfl) (by rfl) (by rfl) (fun w43 (H : Sep ok w w43 [.blk b9 79 [.slice A1 a0.Arena.Slots.length cp2, .slice A5 a0.Kids.length cp6], .blk b11 81 [.int .i64 a1.Slot, .int .i64 a1.Gen], .blk b13 81 [.int .i64 a2.Slot, .int .i64 a2.Gen], .blk b15 79 [.slice none 0 0, .slice none 0 0]] [RE.rd k_Slot A1 cp2 a0.Arena.Slots, RE.rd (Kd.slice k_Handle) A5 cp6 a0.Kids, RE.cells g28 (o29 + (a1.Slot).toNat * 1) [.slice A35 el23.length cp36], RE.rd k_Handle A35 cp36 el23]) => ?_))
    refine RL_p (x_assign (v := .int .i64 2) (by rfl)) ?_
    refine RL_nil ?_
    refine W_ret ?_
    have H : Sep ok w w43 [.blk b9 79 [.slice A1 a0.Arena.Slots.length cp2, .slice A5 a0.Kids.length cp6], .blk b11 81 [.int .i64 a1.Slot, .int .i64 a1.Gen], .blk b13 81 [.int .i64 a2.Slot, .int .i64 a2.Gen], .blk b15 79 [.slice none 0 0, .slice none 0 0]] [RE.rd k_Slot A1 cp2 a0.Arena.Slots, RE.rd (Kd.slice k_Handle) A5 cp6 a0.Kids, RE.cells g28 (o29 + (a1.Slot).toNat * 1) [.slice A35 el23.length cp36], RE.rd k_Handle A35 cp36 el23, RE.rd k_Slot none 0 ([])] := Sep.also H (re := RE.rd k_Slot none 0 ([])) (Rd.nil (by decide))
    have H : Sep ok w w43 [.blk b9 79 [.slice A1 a0.Arena.Slots.length cp2, .slice A5 a0.Kids.length cp6], .blk b11 81 [.int .i64 a1.Slot, .int .i64 a1.Gen], .blk b13 81 [.int .i64 a2.Slot, .int .i64 a2.Gen], .blk b15 79 [.slice none 0 0, .slice none 0 0]] [RE.rd k_Slot A1 cp2 a0.Arena.Slots, RE.rd (Kd.slice k_Handle) A5 cp6 a0.Kids, RE.cells g28 (o29 + (a1.Slot).toNat * 1) [.slice A35 el23.length cp36], RE.rd k_Handle A35 cp36 el23, RE.rd k_Slot none 0 ([]), RE.rd (Kd.slice k_Handle) none 0 ([])] := Sep.also H (re := RE.rd (Kd.slice k_Handle) none 0 ([])) (Rd.nil (by decide))
    obtain rfl := Option.some.inj hm
    exact ⟨[.agg #[.slice none 0 0, .slice none 0 0], .int .i64 2], (.cellA (by rfl) ag79 (H.cells (i := 3) (by rfl)) (by rfl) (.tmp (by rfl) rfl)), none, 0, none, 0, rfl, (H.forgetAll).pick [4, 5]⟩
   ·have hm := cond_f hb hm
    refine W_skip ?_
    refine W_seq ?_
    refine W_seq ?_
    refine W_region ?_
    refine RL_p (x_move (v := .slice A35 el23.length cp36) (by rfl)) ?_
    refine RL_p (x_len sl87 (by rfl)) ?_
    refine RL_p (x_geq (by rfl) (by rfl)) ?_
    refine RL_nil ?_
    refine W_cond (by rfl) (fun hb => ?_) (fun hb => ?_)
    ·have hm := cond_t hb hm
     refine W_seq ?_
     refine W_region ?_
     refine RL_p (x_build (vs := []) (cs := [.slice none 0 0, .slice none 0 0]) (by rfl) (by kernel_rfl)) ?_
     refine RL_cons (O_store (i := 3) (off := 0) (by exact wn0 rfl) (by rfl) (by rfl) H (by rfl) (vs := [.slice none 0 0, .slice none 0 0]) (by rfl) sz79 (by rfl) (by rfl) (by rfl) (fun w46 (H : Sep ok w w46 [.blk b9 79 [.slice A1 a0.Arena.Slots.length cp2, .slice A5 a0.Kids.length cp6], .blk b11 81 [.int .i64 a1.Slot, .int .i64 a1.Gen], .blk b13 81 [.int .i64 a2.Slot, .int .i64 a2.Gen], .blk b15 79 [.slice none 0 0, .slice none 0 0]] [RE.rd k_Slot A1 cp2 a0.Arena.Slots, RE.rd (Kd.slice k_Handle) A5 cp6 a0.Kids, RE.cells g28 (o29 + (a1.Slot).toNat * 1) [.slice A35 el23.length cp36], RE.rd k_Handle A35 cp36 el23]) => ?_))
     refine RL_p (x_assign (v := .int .i64 9) (by rfl)) ?_
     refine RL_nil ?_
     refine W_ret ?_
     have H : Sep ok w w46 [.blk b9 79 [.slice A1 a0.Arena.Slots.length cp2, .slice A5 a0.Kids.length cp6], .blk b11 81 [.int .i64 a1.Slot, .int .i64 a1.Gen], .blk b13 81 [.int .i64 a2.Slot, .int .i64 a2.Gen], .blk b15 79 [.slice none 0 0, .slice none 0 0]] [RE.rd k_Slot A1 cp2 a0.Arena.Slots, RE.rd (Kd.slice k_Handle) A5 cp6 a0.Kids, RE.cells g28 (o29 + (a1.Slot).toNat * 1) [.slice A35 el23.length cp36], RE.rd k_Handle A35 cp36 el23, RE.rd k_Slot none 0 ([])] := Sep.also H (re := RE.rd k_Slot none 0 ([])) (Rd.nil (by decide))
     have H : Sep ok w w46 [.blk b9 79 [.slice A1 a0.Arena.Slots.length cp2, .slice A5 a0.Kids.length cp6], .blk b11 81 [.int .i64 a1.Slot, .int .i64 a1.Gen], .blk b13 81 [.int .i64 a2.Slot, .int .i64 a2.Gen], .blk b15 79 [.slice none 0 0, .slice none 0 0]] [RE.rd k_Slot A1 cp2 a0.Arena.Slots, RE.rd (Kd.slice k_Handle) A5 cp6 a0.Kids, RE.cells g28 (o29 + (a1.Slot).toNat * 1) [.slice A35 el23.length cp36], RE.rd k_Handle A35 cp36 el23, RE.rd k_Slot none 0 ([]), RE.rd (Kd.slice k_Handle) none 0 ([])] := Sep.also H (re := RE.rd (Kd.slice k_Handle) none 0 ([])) (Rd.nil (by decide))
     obtain rfl := Option.some.inj hm
     exact ⟨[.agg #[.slice none 0 0, .slice none 0 0], .int .i64 9], (.cellA (by rfl) ag79 (H.cells (i := 3) (by rfl)) (by rfl) (.tmp (by rfl) rfl)), none, 0, none, 0, rfl, (H.forgetAll).pick [4, 5]⟩
    ·have hm := cond_f hb hm
     refine W_skip ?_
     refine W_seq ?_
     refine W_region ?_
     refine RL_p (x_loadA (j := 0) (vs := [.slice A1 a0.Arena.Slots.length cp2, .slice A5 a0.Kids.length cp6]) ag79 (by rfl) (H.cells (i := 0) (by rfl)) (by rfl) (by rfl)) ?_
     refine RL_p (x_fieldAddr fo81_0 (by rfl)) ?_
     refine RL_p (x_load (j := 0) (v := .int .i64 a2.Slot) sc3 (by rfl) (H.cells (i := 2) (by rfl)) (by rfl)) ?_
     obtain ⟨v50, hv49, hm⟩ := bind_some hm
     refine RL_cons (O_call (by exact wn0 rfl) (by rfl) (by rfl) (x_callL (by rfl) (args := [.agg #[.slice A1 a0.Arena.Slots.length cp2, .slice A5 a0.Kids.length cp6], .int .i64 a2.Slot]) (by rfl) (cf101 _ _)) (c101 (okS ok w [.blk b9 79 [.slice A1 a0.Arena.Slots.length cp2, .slice A5 a0.Kids.length cp6], .blk b11 81 [.int .i64 a1.Slot, .int .i64 a1.Gen], .blk b13 81 [.int .i64 a2.Slot, .int .i64 a2.Gen], .blk b15 79 [.slice none 0 0, .slice none 0 0]]) K w42 a0 A1 cp2 A5 cp6 a2.Slot (H.rd (i := 0) (by rfl)) (H.rd (i := 1) (by rfl)) v50 hv49) ?_)
     rintro e w51 ⟨A52, cp53, rfl, H2⟩
     have H : Sep ok w w51 [.blk b9 79 [.slice A1 a0.Arena.Slots.length cp2, .slice A5 a0.Kids.length cp6], .blk b11 81 [.int .i64 a1.Slot, .int .i64 a1.Gen], .blk b13 81 [.int .i64 a2.Slot, .int .i64 a2.Gen], .blk b15 79 [.slice none 0 0, .slice none 0 0]] [RE.rd k_Slot A1 cp2 a0.Arena.Slots, RE.rd (Kd.slice k_Handle) A5 cp6 a0.Kids, RE.cells g28 (o29 + (a1.Slot).toNat * 1) [.slice A35 el23.length cp36], RE.rd k_Handle A35 cp36 el23, RE.rd kBool A52 cp53 v50] := H.call H2
     clear H2
     refine ⟨_, rfl, ?_⟩
     show RL _ _ _ _ _ _ _
     refine RL_p (x_assign (v := .slice A52 v50.length cp53) (by rfl)) ?_
     refine RL_nil ?_
     refine W_seq ?_
     refine W_seq ?_
     refine W_region ?_
     refine RL_p (x_move (v := .slice A52 v50.length cp53) (by rfl)) ?_
     refine RL_p (x_fieldAddr fo81_0 (by rfl)) ?_
     refine RL_p (x_load (j := 0) (v := .int .i64 a1.Slot) sc3 (by rfl) (H.cells (i := 1) (by rfl)) (by rfl)) ?_
     obtain ⟨el55, h56, h57, he58, hm⟩ := idx_some hm
     obtain ⟨g60, o61, hA59⟩ := (H.rd (i := 4) (by rfl)).addr he58
     refine RL_p (x_indexAddr sl155 sz4 (by rfl) (by rfl) hA59 h56 h57) ?_
     refine RL_p (x_load (j := 0) (v := .bool el55) sc4 (by rfl) (Rd.flatAt (n := 1) (H.rd (i := 4) (by rfl)) hA59 he58) (by rfl)) ?_
     refine RL_nil ?_
     refine W_cond (by rfl) (fun hb => ?_) (fun hb => ?_)
     ·have hm := cond_t hb hm
      refine W_seq ?_
      refine W_region ?_
      refine RL_p (x_build (vs := []) (cs := [.slice none 0 0, .slice none 0 0]) (by rfl) (by kernel_rfl)) ?_
      refine RL_cons (O_store (i := 3) (off := 0) (by exact wn0 rfl) (by rfl) (by rfl) H (by rfl) (vs := [.slice none 0 0, .slice none 0 0]) (by rfl) sz79 (by rfl) (by rfl) (by rfl) (fun w62 (H : Sep ok w w62 [.blk b9 79 [.slice A1 a0.Arena.Slots.length cp2, .slice A5 a0.Kids.length cp6], .blk b11 81 [.int .i64 a1.Slot, .int .i64 a1.Gen], .blk b13 81 [.int .i64 a2.Slot, .int .i64 a2.Gen], .blk b15 79 [.slice none 0 0, .slice none 0 0]] [RE.rd k_Slot A1 cp2 a0.Arena.Slots, RE.rd (Kd.slice k_Handle) A5 cp6 a0.Kids, RE.cells g28 (o29 + (a1.Slot).toNat * 1) [.slice A35 el23.length cp36], RE.rd k_Handle A35 cp36 el23, RE.rd kBool A52 cp53 v50]) => ?_))
      refine RL_p (x_assign (v := .int .i64 60) (by rfl)) ?_
      refine RL_nil ?_
      refine W_ret ?_
      have H : Sep ok w w62 [.blk b9 79 [.slice A1 a0.Arena.Slots.length cp2, .slice A5 a0.Kids.length cp6], .blk b11 81 [.int .i64 a1.Slot, .int .i64 a1.Gen], .blk b13 81 [.int .i64 a2.Slot, .int .i64 a2.Gen], .blk b15 79 [.slice none 0 0, .slice none 0 0]] [RE.rd k_Slot A1 cp2 a0.Arena.Slots, RE.rd (Kd.slice k_Handle) A5 cp6 a0.Kids, RE.cells g28 (o29 + (a1.Slot).toNat * 1) [.slice A35 el23.length cp36], RE.rd k_Handle A35 cp36 el23, RE.rd kBool A52 cp53 v50, RE.rd k_Slot none 0 ([])] := Sep.also H (re := RE.rd k_Slot none 0 ([])) (Rd.nil (by decide))
      have H : Sep ok w w62 [.blk b9 79 [.slice A1 a0.Arena.Slots.length cp2, .slice A5 a0.Kids.length cp6], .blk b11 81 [.int .i64 a1.Slot, .int .i64 a1.Gen], .blk b13 81 [.int .i64 a2.Slot, .int .i64 a2.Gen], .blk b15 79 [.slice none 0 0, .slice none 0 0]] [RE.rd k_Slot A1 cp2 a0.Arena.Slots, RE.rd (Kd.slice k_Handle) A5 cp6 a0.Kids, RE.cells g28 (o29 + (a1.Slot).toNat * 1) [.slice A35 el23.length cp36], RE.rd k_Handle A35 cp36 el23, RE.rd kBool A52 cp53 v50, RE.rd k_Slot none 0 ([]), RE.rd (Kd.slice k_Handle) none 0 ([])] := Sep.also H (re := RE.rd (Kd.slice k_Handle) none 0 ([])) (Rd.nil (by decide))
      obtain rfl := Option.some.inj hm
      exact ⟨[.agg #[.slice none 0 0, .slice none 0 0], .int .i64 60], (.cellA (by rfl) ag79 (H.cells (i := 3) (by rfl)) (by rfl) (.tmp (by rfl) rfl)), none, 0, none, 0, rfl, (H.forgetAll).pick [5, 6]⟩
     ·have hm := cond_f hb hm
      refine W_skip ?_
      refine W_seq ?_
      refine W_region ?_
      refine RL_p (x_loadA (j := 0) (vs := [.slice A1 a0.Arena.Slots.length cp2, .slice A5 a0.Kids.length cp6]) ag79 (by rfl) (H.cells (i := 0) (by rfl)) (by rfl) (by rfl)) ?_
      obtain ⟨v66, hv65, hm⟩ := bind_some hm
      refine RL_cons (O_call (by exact wn0 rfl) (by rfl) (by rfl) (x_callL (by rfl) (args := [.agg #[.slice A1 a0.Arena.Slots.length cp2, .slice A5 a0.Kids.length cp6]]) (by rfl) (cf48 _ _)) (c48 (okS ok w [.blk b9 79 [.slice A1 a0.Arena.Slots.length cp2, .slice A5 a0.Kids.length cp6], .blk b11 81 [.int .i64 a1.Slot, .int .i64 a1.Gen], .blk b13 81 [.int .i64 a2.Slot, .int .i64 a2.Gen], .blk b15 79 [.slice none 0 0, .slice none 0 0]]) K w51 a0 A1 cp2 A5 cp6 (H.rd (i := 0) (by rfl)) (H.rd (i := 1) (by rfl)) v66 hv65) ?_)
      rintro e w67 ⟨A68, cp69, cs70, A73, cp74, cs75, rfl, H2⟩
      have H : Sep ok w w67 [.blk b9 79 [.slice A1 a0.Arena.Slots.length cp2, .slice A5 a0.Kids.length cp6], .blk b11 81 [.int .i64 a1.Slot, .int .i64 a1.Gen], .blk b13 81 [.int .i64 a2.Slot, .int .i64 a2.Gen], .blk b15 79 [.slice none 0 0, .slice none 0 0], .row (.slice A68 v66.Arena.Slots.length cp69) 96 k_Slot.sz v66.Arena.Slots.length cs70, .row (.slice A73 v66.Kids.length cp74) 87 (Kd.slice k_Handle).sz v66.Kids.length cs75] [RE.rd k_Slot A1 cp2 a0.Arena.Slots, RE.rd (Kd.slice k_Handle) A5 cp6 a0.Kids, RE.cells g28 (o29 + (a1.Slot).toNat * 1) [.slice A35 el23.length cp36], RE.rd k_Handle A35 cp36 el23, RE.rd kBool A52 cp53 v50, RE.chunks k_Slot cs70 v66.Arena.Slots, RE.chunks (Kd.slice k_Handle) cs75 v66.Kids] := H.call H2
      clear H2
      refine ⟨_, rfl, ?_⟩
      show RL _ _ _ _ _ _ _
      refine RL_cons (O_alloc (by exact wn0 rfl) (by rfl) ze79 (by rfl) H (fun w79 b78 (H : Sep ok w w79 [.blk b9 79 [.slice A1 a0.Arena.Slots.length cp2, .slice A5 a0.Kids.length cp6], .blk b11 81 [.int .i64 a1.Slot, .int .i64 a1.Gen], .blk b13 81 [.int .i64 a2.Slot, .int .i64 a2.Gen], .blk b15 79 [.slice none 0 0, .slice none 0 0], .row (.slice A68 v66.Arena.Slots.length cp69) 96 k_Slot.sz v66.Arena.Slots.length cs70, .row (.slice A73 v66.Kids.length cp74) 87 (Kd.slice k_Handle).sz v66.Kids.length cs75, .blk b78 79 [.slice none 0 0, .slice none 0 0]] [RE.rd k_Slot A1 cp2 a0.Arena.Slots, RE.rd (Kd.slice k_Handle) A5 cp6 a0.Kids, RE.cells g28 (o29 + (a1.Slot).toNat * 1) [.slice A35 el23.length cp36], RE.rd k_Handle A35 cp36 el23, RE.rd kBool A52 cp53 v50, RE.chunks k_Slot cs70 v66.Arena.Slots, RE.chunks (Kd.slice k_Handle) cs75 v66.Kids]) => ?_))
      refine RL_cons (O_store (i := 6) (off := 0) (by exact wn0 rfl) (by rfl) (by rfl) H (by rfl) (vs := [.slice A68 v66.Arena.Slots.length cp69, .slice A73 v66.Kids.length cp74]) (by rfl) sz79 (by rfl) (by rfl) (by rfl) (fun w80 (H : Sep ok w w80 [.blk b9 79 [.slice A1 a0.Arena.Slots.length cp2, .slice A5 a0.Kids.length cp6], .blk b11 81 [.int .i64 a1.Slot, .int .i64 a1.Gen], .blk b13 81 [.int .i64 a2.Slot, .int .i64 a2.Gen], .blk b15 79 [.slice none 0 0, .slice none 0 0], .row (.slice A68 v66.Arena.Slots.length cp69) 96 k_Slot.sz v66.Arena.Slots.length cs70, .row (.slice A73 v66.Kids.length cp74) 87 (Kd.slice k_Handle).sz v66.Kids.length cs75, .blk b78 79 [.slice A68 v66.Arena.Slots.length cp69, .slice A73 v66.Kids.length cp74]] [RE.rd k_Slot A1 cp2 a0.Arena.Slots, RE.rd (Kd.slice k_Handle) A5 cp6 a0.Kids, RE.cells g28 (o29 + (a1.Slot).toNat * 1) [.slice A35 el23.length cp36], RE.rd k_Handle A35 cp36 el23, RE.rd kBool A52 cp53 v50, RE.chunks k_Slot cs70 v66.Arena.Slots, RE.chunks (Kd.slice k_Handle) cs75 v66.Kids]) => ?_))
      refine RL_nil ?_
      refine W_seq ?_
      refine W_region ?_
      refine RL_p (x_assign (v := .slice none 0 0) (by rfl)) ?_
      refine RL_nil ?_
      refine W_seq ?_
      refine W_region ?_
      refine RL_p (x_move (v := .slice none 0 0) (by rfl)) ?_
      refine RL_p (x_move (v := .slice A35 el23.length cp36) (by rfl)) ?_
      refine RL_p (x_move (v := .int .i64 a3) (by rfl)) ?_
      obtain ⟨h81, h82, hm⟩ := slg_some hm
      have h83 := (H.rd (i := 3) (by rfl)).1
      have H : Sep ok w w80 [.blk b9 79 [.slice A1 a0.Arena.Slots.length cp2, .slice A5 a0.Kids.length cp6], .blk b11 81 [.int .i64 a1.Slot, .int .i64 a1.Gen], .blk b13 81 [.int .i64 a2.Slot, .int .i64 a2.Gen], .blk b15 79 [.slice none 0 0, .slice none 0 0], .row (.slice A68 v66.Arena.Slots.length cp69) 96 k_Slot.sz v66.Arena.Slots.length cs70, .row (.slice A73 v66.Kids.length cp74) 87 (Kd.slice k_Handle).sz v66.Kids.length cs75, .blk b78 79 [.slice A68 v66.Arena.Slots.length cp69, .slice A73 v66.Kids.length cp74]] [RE.rd k_Slot A1 cp2 a0.Arena.Slots, RE.rd (Kd.slice k_Handle) A5 cp6 a0.Kids, RE.cells g28 (o29 + (a1.Slot).toNat * 1) [.slice A35 el23.length cp36], RE.rd k_Handle A35 cp36 el23, RE.rd kBool A52 cp53 v50, RE.chunks k_Slot cs70 v66.Arena.Slots, RE.chunks (Kd.slice k_Handle) cs75 v66.Kids, RE.rd k_Handle (slA A35 cp36 0 2) cp36 (el23.take ((a3).toNat))] := Sep.also H (re := RE.rd k_Handle (slA A35 cp36 0 2) cp36 (el23.take ((a3).toNat))) (Rd.takeN (K := k_Handle) (H.rd (i := 3) (by rfl)))
      refine RL_p (x_slice_hiL sl87 sz81 (by rfl) (by rfl) h81 h82 h83) ?_
      have H : Sep ok w w80 [.blk b9 79 [.slice A1 a0.Arena.Slots.length cp2, .slice A5 a0.Kids.length cp6], .blk b11 81 [.int .i64 a1.Slot, .int .i64 a1.Gen], .blk b13 81 [.int .i64 a2.Slot, .int .i64 a2.Gen], .blk b15 79 [.slice none 0 0, .slice none 0 0], .row (.slice A68 v66.Arena.Slots.length cp69) 96 k_Slot.sz v66.Arena.Slots.length cs70, .row (.slice A73 v66.Kids.length cp74) 87 (Kd.slice k_Handle).sz v66.Kids.length cs75, .blk b78 79 [.slice A68 v66.Arena.Slots.length cp69, .slice A73 v66.Kids.length cp74], .row (.slice none 0 0) 81 k_Handle.sz 0 []] [RE.rd k_Slot A1 cp2 a0.Arena.Slots, RE.rd (Kd.slice k_Handle) A5 cp6 a0.Kids, RE.cells g28 (o29 + (a1.Slot).toNat * 1) [.slice A35 el23.length cp36], RE.rd k_Handle A35 cp36 el23, RE.rd kBool A52 cp53 v50, RE.chunks k_Slot cs70 v66.Arena.Slots, RE.chunks (Kd.slice k_Handle) cs75 v66.Kids, RE.rd k_Handle (slA A35 cp36 0 2) cp36 (el23.take ((a3).toNat)), RE.chunks k_Handle [] ([])] := H.nilRowK 81 k_Handle
      obtain ⟨l91, hl92, hb93, hm⟩ := apds_some hm
      refine RL_cons (O_appendAll (D := k_Handle) (xs := ([] : List S_Handle)) (i := 7) (j := 8) (zs := (el23.take ((a3).toNat))) (by exact wn0 rfl) (by rfl) (by rfl) (by rfl) H (by rfl) (by rfl) (H.rd (i := 7) (by rfl)) hl92 sl87 sz81 by81 ze81 (by rfl) (by rfl) hb93 (by rfl) (fun w87 A88 cp89 cs90 (H : Sep ok w w87 [.blk b9 79 [.slice A1 a0.Arena.Slots.length cp2, .slice A5 a0.Kids.length cp6], .blk b11 81 [.int .i64 a1.Slot, .int .i64 a1.Gen], .blk b13 81 [.int .i64 a2.Slot, .int .i64 a2.Gen], .blk b15 79 [.slice none 0 0, .slice none 0 0], .row (.slice A68 v66.Arena.Slots.length cp69) 96 k_Slot.sz v66.Arena.Slots.length cs70, .row (.slice A73 v66.Kids.length cp74) 87 (Kd.slice k_Handle).sz v66.Kids.length cs75, .blk b78 79 [.slice A68 v66.Arena.Slots.length cp69, .slice A73 v66.Kids.length cp74], .row (.slice A88 l91.length cp89) 81 k_Handle.sz l91.length cs90] [RE.rd k_Slot A1 cp2 a0.Arena.Slots, RE.rd (Kd.slice k_Handle) A5 cp6 a0.Kids, RE.cells g28 (o29 + (a1.Slot).toNat * 1) [.slice A35 el23.length cp36], RE.rd k_Handle A35 cp36 el23, RE.rd kBool A52 cp53 v50, RE.chunks k_Slot cs70 v66.Arena.Slots, RE.chunks (Kd.slice k_Handle) cs75 v66.Kids, RE.rd k_Handle (slA A35 cp36 0 2) cp36 (el23.take ((a3).toNat)), RE.chunks k_Handle cs90 l91]) => ?_))
      refine RL_p (x_assign (v := .slice A88 l91.length cp89) (by rfl)) ?_
      refine RL_nil ?_
      refine W_seq ?_
      refine W_region ?_
      refine RL_p (x_move (v := .slice A88 l91.length cp89) (by rfl)) ?_
      refine RL_p (x_loadA (j := 0) (vs := [.int .i64 a2.Slot, .int .i64 a2.Gen]) ag81 (by rfl) (H.cells (i := 2) (by rfl)) (by rfl) (by rfl)) ?_
      refine RL_cons (O_buildSlice (vs := [(0, .agg #[.int .i64 a2.Slot, .int .i64 a2.Gen])]) (cs := [.int .i64 a2.Slot, .int .i64 a2.Gen]) (by exact wn0 rfl) (by rfl) sl87 sz81 ze81 (by rfl) (by rfl) (by rfl) (by kernel_rfl) H (fun w95 b94 (H : Sep ok w w95 [.blk b9 79 [.slice A1 a0.Arena.Slots.length cp2, .slice A5 a0.Kids.length cp6], .blk b11 81 [.int .i64 a1.Slot, .int .i64 a1.Gen], .blk b13 81 [.int .i64 a2.Slot, .int .i64 a2.Gen], .blk b15 79 [.slice none 0 0, .slice none 0 0], .row (.slice A68 v66.Arena.Slots.length cp69) 96 k_Slot.sz v66.Arena.Slots.length cs70, .row (.slice A73 v66.Kids.length cp74) 87 (Kd.slice k_Handle).sz v66.Kids.length cs75, .blk b78 79 [.slice A68 v66.Arena.Slots.length cp69, .slice A73 v66.Kids.length cp74], .row (.slice A88 l91.length cp89) 81 k_Handle.sz l91.length cs90, .blk b94 81 [.int .i64 a2.Slot, .int .i64 a2.Gen]] [RE.rd k_Slot A1 cp2 a0.Arena.Slots, RE.rd (Kd.slice k_Handle) A5 cp6 a0.Kids, RE.cells g28 (o29 + (a1.Slot).toNat * 1) [.slice A35 el23.length cp36], RE.rd k_Handle A35 cp36 el23, RE.rd kBool A52 cp53 v50, RE.chunks k_Slot cs70 v66.Arena.Slots, RE.chunks (Kd.slice k_Handle) cs75 v66.Kids, RE.rd k_Handle (slA A35 cp36 0 2) cp36 (el23.take ((a3).toNat)), RE.chunks k_Handle cs90 l91]) => ?_))
      obtain ⟨l100, hl101, hb102, hm⟩ := apd_some hm
      refine RL_cons (O_append (D := k_Handle) (i := 7) (j := 8) (o := 0) (y := a2) (by exact wn0 rfl) (by rfl) (by rfl) (by rfl) H (by rfl) (by rfl) (H.cells (i := 8) (by rfl)) rfl hl101 sl87 sz81 by81 ze81 (by rfl) (by rfl) hb102 (by rfl) (fun w96 A97 cp98 cs99 (H : Sep ok w w96 [.blk b9 79 [.slice A1 a0.Arena.Slots.length cp2, .slice A5 a0.Kids.length cp6], .blk b11 81 [.int .i64 a1.Slot, .int .i64 a1.Gen], .blk b13 81 [.int .i64 a2.Slot, .int .i64 a2.Gen], .blk b15 79 [.slice none 0 0, .slice none 0 0], .row (.slice A68 v66.Arena.Slots.length cp69) 96 k_Slot.sz v66.Arena.Slots.length cs70, .row (.slice A73 v66.Kids.length cp74) 87 (Kd.slice k_Handle).sz v66.Kids.length cs75, .blk b78 79 [.slice A68 v66.Arena.Slots.length cp69, .slice A73 v66.Kids.length cp74], .row (.slice A97 l100.length cp98) 81 k_Handle.sz l100.length cs99, .blk b94 81 [.int .i64 a2.Slot, .int .i64 a2.Gen]] [RE.rd k_Slot A1 cp2 a0.Arena.Slots, RE.rd (Kd.slice k_Handle) A5 cp6 a0.Kids, RE.cells g28 (o29 + (a1.Slot).toNat * 1) [.slice A35 el23.length cp36], RE.rd k_Handle A35 cp36 el23, RE.rd kBool A52 cp53 v50, RE.chunks k_Slot cs70 v66.Arena.Slots, RE.chunks (Kd.slice k_Handle) cs75 v66.Kids, RE.rd k_Handle (slA A35 cp36 0 2) cp36 (el23.take ((a3).toNat)), RE.chunks k_Handle cs99 l100]) => ?_))
      refine RL_p (x_assign (v := .slice A97 l100.length cp98) (by rfl)) ?_
      refine RL_nil ?_
      refine W_seq ?_
      refine W_region ?_
      refine RL_p (x_move (v := .slice A97 l100.length cp98) (by rfl)) ?_
      refine RL_p (x_move (v := .slice A35 el23.length cp36) (by rfl)) ?_
      refine RL_p (x_move (v := .int .i64 a3) (by rfl)) ?_
      obtain ⟨h103, h104, hm⟩ := slg_some hm
      have H : Sep ok w w96 [.blk b9 79 [.slice A1 a0.Arena.Slots.length cp2, .slice A5 a0.Kids.length cp6], .blk b11 81 [.int .i64 a1.Slot, .int .i64 a1.Gen], .blk b13 81 [.int .i64 a2.Slot, .int .i64 a2.Gen], .blk b15 79 [.slice none 0 0, .slice none 0 0], .row (.slice A68 v66.Arena.Slots.length cp69) 96 k_Slot.sz v66.Arena.Slots.length cs70, .row (.slice A73 v66.Kids.length cp74) 87 (Kd.slice k_Handle).sz v66.Kids.length cs75, .blk b78 79 [.slice A68 v66.Arena.Slots.length cp69, .slice A73 v66.Kids.length cp74], .row (.slice A97 l100.length cp98) 81 k_Handle.sz l100.length cs99, .blk b94 81 [.int .i64 a2.Slot, .int .i64 a2.Gen]] [RE.rd k_Slot A1 cp2 a0.Arena.Slots, RE.rd (Kd.slice k_Handle) A5 cp6 a0.Kids, RE.cells g28 (o29 + (a1.Slot).toNat * 1) [.slice A35 el23.length cp36], RE.rd k_Handle A35 cp36 el23, RE.rd kBool A52 cp53 v50, RE.chunks k_Slot cs70 v66.Arena.Slots, RE.chunks (Kd.slice k_Handle) cs75 v66.Kids, RE.rd k_Handle (slA A35 cp36 0 2) cp36 (el23.take ((a3).toNat)), RE.chunks k_Handle cs99 l100, RE.rd k_Handle (slA A35 cp36 ((a3).toNat) 2) (cp36 - (a3).toNat) (el23.drop ((a3).toNat))] := Sep.also H (re := RE.rd k_Handle (slA A35 cp36 ((a3).toNat) 2) (cp36 - (a3).toNat) (el23.drop ((a3).toNat))) (Rd.dropN (K := k_Handle) (H.rd (i := 3) (by rfl)))
      refine RL_p (x_slice_loL sl87 sz81 (by rfl) (by rfl) h103 h104) ?_
      obtain ⟨l111, hl112, hb113, hm⟩ := apds_some hm
      refine RL_cons (O_appendAll (D := k_Handle) (i := 7) (j := 8) (zs := (el23.drop ((a3).toNat))) (by exact wn0 rfl) (by rfl) (by rfl) (by rfl) H (by rfl) (by rfl) (H.rd (i := 9) (by rfl)) hl112 sl87 sz81 by81 ze81 (by rfl) (by rfl) hb113 (by rfl) (fun w107 A108 cp109 cs110 (H : Sep ok w w107 [.blk b9 79 [.slice A1 a0.Arena.Slots.length cp2, .slice A5 a0.Kids.length cp6], .blk b11 81 [.int .i64 a1.Slot, .int .i64 a1.Gen], .blk b13 81 [.int .i64 a2.Slot, .int .i64 a2.Gen], .blk b15 79 [.slice none 0 0, .slice none 0 0], .row (.slice A68 v66.Arena.Slots.length cp69) 96 k_Slot.sz v66.Arena.Slots.length cs70, .row (.slice A73 v66.Kids.length cp74) 87 (Kd.slice k_Handle).sz v66.Kids.length cs75, .blk b78 79 [.slice A68 v66.Arena.Slots.length cp69, .slice A73 v66.Kids.length cp74], .row (.slice A108 l111.length cp109) 81 k_Handle.sz l111.length cs110, .blk b94 81 [.int .i64 a2.Slot, .int .i64 a2.Gen]] [RE.rd k_Slot A1 cp2 a0.Arena.Slots, RE.rd (Kd.slice k_Handle) A5 cp6 a0.Kids, RE.cells g28 (o29 + (a1.Slot).toNat * 1) [.slice A35 el23.length cp36], RE.rd k_Handle A35 cp36 el23, RE.rd kBool A52 cp53 v50, RE.chunks k_Slot cs70 v66.Arena.Slots, RE.chunks (Kd.slice k_Handle) cs75 v66.Kids, RE.rd k_Handle (slA A35 cp36 0 2) cp36 (el23.take ((a3).toNat)), RE.chunks k_Handle cs110 l111, RE.rd k_Handle (slA A35 cp36 ((a3).toNat) 2) (cp36 - (a3).toNat) (el23.drop ((a3).toNat))]) => ?_))
      refine RL_p (x_assign (v := .slice A108 l111.length cp109) (by rfl)) ?_
      refine RL_nil ?_
      refine W_seq ?_
      refine W_region ?_
      refine RL_p (x_fieldAddr fo79_1 (by rfl)) ?_
      refine RL_p (x_load (j := 1) (v := .slice A73 v66.Kids.length cp74) sc77 (by rfl) (H.cells (i := 6) (by rfl)) (by rfl)) ?_
      refine RL_p (x_fieldAddr fo81_0 (by rfl)) ?_
      refine RL_p (x_load (j := 0) (v := .int .i64 a1.Slot) sc3 (by rfl) (H.cells (i := 1) (by rfl)) (by rfl)) ?_
      refine RL_p (x_move (v := .slice A108 l111.length cp109) (by rfl)) ?_
      obtain ⟨el114, h115, h116, he117, hm⟩ := idx_some hm
      obtain ⟨g119, _, hA118, _, _⟩ := H.rowIdx (i := 5) (j := 6) (by rfl) (by rfl) he117
      obtain ⟨A121, cp122, hcs123, hR124⟩ := H.rowHead (j := 6) (by rfl) he117
      have H : Sep ok w w107 [.blk b9 79 [.slice A1 a0.Arena.Slots.length cp2, .slice A5 a0.Kids.length cp6], .blk b11 81 [.int .i64 a1.Slot, .int .i64 a1.Gen], .blk b13 81 [.int .i64 a2.Slot, .int .i64 a2.Gen], .blk b15 79 [.slice none 0 0, .slice none 0 0], .row (.slice A68 v66.Arena.Slots.length cp69) 96 k_Slot.sz v66.Arena.Slots.length cs70, .row (.slice A73 v66.Kids.length cp74) 87 (Kd.slice k_Handle).sz v66.Kids.length cs75, .blk b78 79 [.slice A68 v66.Arena.Slots.length cp69, .slice A73 v66.Kids.length cp74], .row (.slice A108 l111.length cp109) 81 k_Handle.sz l111.length cs110, .blk b94 81 [.int .i64 a2.Slot, .int .i64 a2.Gen]] [RE.rd k_Slot A1 cp2 a0.Arena.Slots, RE.rd (Kd.slice k_Handle) A5 cp6 a0.Kids, RE.cells g28 (o29 + (a1.Slot).toNat * 1) [.slice A35 el23.length cp36], RE.rd k_Handle A35 cp36 el23, RE.rd kBool A52 cp53 v50, RE.chunks k_Slot cs70 v66.Arena.Slots, RE.chunks (Kd.slice k_Handle) cs75 v66.Kids, RE.rd k_Handle (slA A35 cp36 0 2) cp36 (el23.take ((a3).toNat)), RE.chunks k_Handle cs110 l111, RE.rd k_Handle (slA A35 cp36 ((a3).toNat) 2) (cp36 - (a3).toNat) (el23.drop ((a3).toNat)), RE.rd k_Handle A121 cp122 el114] := Sep.also H (re := RE.rd k_Handle A121 cp122 el114) hR124
      refine RL_p (x_indexAddr sl77 sz87 (by rfl) (by rfl) hA118 h115 h116) ?_
      have H : Sep ok w w107 [.blk b9 79 [.slice A1 a0.Arena.Slots.length cp2, .slice A5 a0.Kids.length cp6], .blk b11 81 [.int .i64 a1.Slot, .int .i64 a1.Gen], .blk b13 81 [.int .i64 a2.Slot, .int .i64 a2.Gen], .blk b15 79 [.slice none 0 0, .slice none 0 0], .row (.slice A68 v66.Arena.Slots.length cp69) 96 k_Slot.sz v66.Arena.Slots.length cs70, .row (.slice A73 v66.Kids.length cp74) 87 (Kd.slice k_Handle).sz v66.Kids.length cs75, .blk b78 79 [.slice A68 v66.Arena.Slots.length cp69, .slice A73 v66.Kids.length cp74], .hole, .blk b94 81 [.int .i64 a2.Slot, .int .i64 a2.Gen]] [RE.rd k_Slot A1 cp2 a0.Arena.Slots, RE.rd (Kd.slice k_Handle) A5 cp6 a0.Kids, RE.cells g28 (o29 + (a1.Slot).toNat * 1) [.slice A35 el23.length cp36], RE.rd k_Handle A35 cp36 el23, RE.rd kBool A52 cp53 v50, RE.chunks k_Slot cs70 v66.Arena.Slots, RE.chunks (Kd.slice k_Handle) cs75 v66.Kids, RE.rd k_Handle (slA A35 cp36 0 2) cp36 (el23.take ((a3).toNat)), RE.rd k_Handle A108 cp109 l111, RE.rd k_Handle (slA A35 cp36 ((a3).toNat) 2) (cp36 - (a3).toNat) (el23.drop ((a3).toNat)), RE.rd k_Handle A121 cp122 el114] := H.frozen (i := 7) (j := 8) (by rfl) (by rfl)
      obtain ⟨l128, hl129, hm⟩ := lete_some hm
      refine RL_cons (O_storeRow (D := (Kd.slice k_Handle)) (i := 5) (j := 6) (off := 0) (m := a1.Slot) (a := el114) (b := l111) (vs := [.slice A108 l111.length cp109]) (by exact wn0 rfl) H (by rfl) (by rfl) hA118 (by rfl) (by rfl) he117 (by rfl) sz87 (by rfl) (by rfl) (by intro ce hce; obtain ⟨_, _, rfl, _⟩ := hce; exact ⟨A108, cp109, rfl, H.rd (i := 8) (by rfl)⟩) hl129 (fun w126 cs127 (H : Sep ok w w126 [.blk b9 79 [.slice A1 a0.Arena.Slots.length cp2, .slice A5 a0.Kids.length cp6], .blk b11 81 [.int .i64 a1.Slot, .int .i64 a1.Gen], .blk b13 81 [.int .i64 a2.Slot, .int .i64 a2.Gen], .blk b15 79 [.slice none 0 0, .slice none 0 0], .row (.slice A68 v66.Arena.Slots.length cp69) 96 k_Slot.sz v66.Arena.Slots.length cs70, .row (.slice A73 l128.length cp74) 87 (Kd.slice k_Handle).sz l128.length cs127, .blk b78 79 [.slice A68 v66.Arena.Slots.length cp69, .slice A73 v66.Kids.length cp74], .hole, .blk b94 81 [.int .i64 a2.Slot, .int .i64 a2.Gen]] [RE.rd k_Slot A1 cp2 a0.Arena.Slots, RE.rd (Kd.slice k_Handle) A5 cp6 a0.Kids, RE.cells g28 (o29 + (a1.Slot).toNat * 1) [.slice A35 el23.length cp36], RE.rd k_Handle A35 cp36 el23, RE.rd kBool A52 cp53 v50, RE.chunks k_Slot cs70 v66.Arena.Slots, RE.chunks (Kd.slice k_Handle) cs127 l128, RE.rd k_Handle (slA A35 cp36 0 2) cp36 (el23.take ((a3).toNat)), RE.rd k_Handle A108 cp109 l111, RE.rd k_Handle (slA A35 cp36 ((a3).toNat) 2) (cp36 - (a3).toNat) (el23.drop ((a3).toNat)), RE.rd k_Handle A121 cp122 el114]) => ?_))
      refine RL_nil ?_
      have hn130 : v66.Kids.length = l128.length := by rw [← hl129]; exact (List.length_set ..).symm
      have H : Sep ok w w126 [.blk b9 79 [.slice A1 a0.Arena.Slots.length cp2, .slice A5 a0.Kids.length cp6], .blk b11 81 [.int .i64 a1.Slot, .int .i64 a1.Gen], .blk b13 81 [.int .i64 a2.Slot, .int .i64 a2.Gen], .blk b15 79 [.slice none 0 0, .slice none 0 0], .row (.slice A68 v66.Arena.Slots.length cp69) 96 k_Slot.sz v66.Arena.Slots.length cs70, .row (.slice A73 l128.length cp74) 87 (Kd.slice k_Handle).sz l128.length cs127, .blk b78 79 [.slice A68 v66.Arena.Slots.length cp69, .slice A73 l128.length cp74], .hole, .blk b94 81 [.int .i64 a2.Slot, .int .i64 a2.Gen]] [RE.rd k_Slot A1 cp2 a0.Arena.Slots, RE.rd (Kd.slice k_Handle) A5 cp6 a0.Kids, RE.cells g28 (o29 + (a1.Slot).toNat * 1) [.slice A35 el23.length cp36], RE.rd k_Handle A35 cp36 el23, RE.rd kBool A52 cp53 v50, RE.chunks k_Slot cs70 v66.Arena.Slots, RE.chunks (Kd.slice k_Handle) cs127 l128, RE.rd k_Handle (slA A35 cp36 0 2) cp36 (el23.take ((a3).toNat)), RE.rd k_Handle A108 cp109 l111, RE.rd k_Handle (slA A35 cp36 ((a3).toNat) 2) (cp36 - (a3).toNat) (el23.drop ((a3).toNat)), RE.rd k_Handle A121 cp122 el114] := by (try rw [hn130] at H); exact H
      refine W_regen (l := [(8, .pointer (some ⟨b15, 0, none⟩)), (13, .pointer (some ⟨b78, 0, none⟩))]) ⟨rfl, rfl, trivial⟩ fun r131 => ?_
      refine W_seq ?_
      refine W_region ?_
      refine RL_p (x_loadA (j := 0) (vs := [.slice A68 v66.Arena.Slots.length cp69, .slice A73 l128.length cp74]) ag79 (by rfl) (H.cells (i := 6) (by rfl)) (by rfl) (by rfl)) ?_
      refine RL_cons (O_store (i := 3) (off := 0) (by exact wn0 rfl) (by rfl) (by rfl) H (by rfl) (vs := [.slice A68 v66.Arena.Slots.length cp69, .slice A73 l128.length cp74]) (by rfl) sz79 (by rfl) (by rfl) (by rfl) (fun w132 (H : Sep ok w w132 [.blk b9 79 [.slice A1 a0.Arena.Slots.length cp2, .slice A5 a0.Kids.length cp6], .blk b11 81 [.int .i64 a1.Slot, .int .i64 a1.Gen], .blk b13 81 [.int .i64 a2.Slot, .int .i64 a2.Gen], .blk b15 79 [.slice A68 v66.Arena.Slots.length cp69, .slice A73 l128.length cp74], .row (.slice A68 v66.Arena.Slots.length cp69) 96 k_Slot.sz v66.Arena.Slots.length cs70, .row (.slice A73 l128.length cp74) 87 (Kd.slice k_Handle).sz l128.length cs127, .blk b78 79 [.slice A68 v66.Arena.Slots.length cp69, .slice A73 l128.length cp74], .hole, .blk b94 81 [.int .i64 a2.Slot, .int .i64 a2.Gen]] [RE.rd k_Slot A1 cp2 a0.Arena.Slots, RE.rd (Kd.slice k_Handle) A5 cp6 a0.Kids, RE.cells g28 (o29 + (a1.Slot).toNat * 1) [.slice A35 el23.length cp36], RE.rd k_Handle A35 cp36 el23, RE.rd kBool A52 cp53 v50, RE.chunks k_Slot cs70 v66.Arena.Slots, RE.chunks (Kd.slice k_Handle) cs127 l128, RE.rd k_Handle (slA A35 cp36 0 2) cp36 (el23.take ((a3).toNat)), RE.rd k_Handle A108 cp109 l111, RE.rd k_Handle (slA A35 cp36 ((a3).toNat) 2) (cp36 - (a3).toNat) (el23.drop ((a3).toNat)), RE.rd k_Handle A121 cp122 el114]) => ?_))
      refine RL_p (x_assign (v := .int .i64 0) (by rfl)) ?_
      refine RL_nil ?_
      refine W_ret ?_
      have H : Sep ok w w132 [.blk b9 79 [.slice A1 a0.Arena.Slots.length cp2, .slice A5 a0.Kids.length cp6], .blk b11 81 [.int .i64 a1.Slot, .int .i64 a1.Gen], .blk b13 81 [.int .i64 a2.Slot, .int .i64 a2.Gen], .blk b15 79 [.slice A68 v66.Arena.Slots.length cp69, .slice A73 l128.length cp74], .hole, .row (.slice A73 l128.length cp74) 87 (Kd.slice k_Handle).sz l128.length cs127, .blk b78 79 [.slice A68 v66.Arena.Slots.length cp69, .slice A73 l128.length cp74], .hole, .blk b94 81 [.int .i64 a2.Slot, .int .i64 a2.Gen]] [RE.rd k_Slot A1 cp2 a0.Arena.Slots, RE.rd (Kd.slice k_Handle) A5 cp6 a0.Kids, RE.cells g28 (o29 + (a1.Slot).toNat * 1) [.slice A35 el23.length cp36], RE.rd k_Handle A35 cp36 el23, RE.rd kBool A52 cp53 v50, RE.rd k_Slot A68 cp69 v66.Arena.Slots, RE.chunks (Kd.slice k_Handle) cs127 l128, RE.rd k_Handle (slA A35 cp36 0 2) cp36 (el23.take ((a3).toNat)), RE.rd k_Handle A108 cp109 l111, RE.rd k_Handle (slA A35 cp36 ((a3).toNat) 2) (cp36 - (a3).toNat) (el23.drop ((a3).toNat)), RE.rd k_Handle A121 cp122 el114] := H.frozen (i := 4) (j := 5) (by rfl) (by rfl)
      have H : Sep ok w w132 [.blk b9 79 [.slice A1 a0.Arena.Slots.length cp2, .slice A5 a0.Kids.length cp6], .blk b11 81 [.int .i64 a1.Slot, .int .i64 a1.Gen], .blk b13 81 [.int .i64 a2.Slot, .int .i64 a2.Gen], .blk b15 79 [.slice A68 v66.Arena.Slots.length cp69, .slice A73 l128.length cp74], .hole, .hole, .blk b78 79 [.slice A68 v66.Arena.Slots.length cp69, .slice A73 l128.length cp74], .hole, .blk b94 81 [.int .i64 a2.Slot, .int .i64 a2.Gen]] [RE.rd k_Slot A1 cp2 a0.Arena.Slots, RE.rd (Kd.slice k_Handle) A5 cp6 a0.Kids, RE.cells g28 (o29 + (a1.Slot).toNat * 1) [.slice A35 el23.length cp36], RE.rd k_Handle A35 cp36 el23, RE.rd kBool A52 cp53 v50, RE.rd k_Slot A68 cp69 v66.Arena.Slots, RE.rd (Kd.slice k_Handle) A73 cp74 l128, RE.rd k_Handle (slA A35 cp36 0 2) cp36 (el23.take ((a3).toNat)), RE.rd k_Handle A108 cp109 l111, RE.rd k_Handle (slA A35 cp36 ((a3).toNat) 2) (cp36 - (a3).toNat) (el23.drop ((a3).toNat)), RE.rd k_Handle A121 cp122 el114] := H.frozen (i := 5) (j := 6) (by rfl) (by rfl)
      obtain rfl := Option.some.inj hm
      exact ⟨[.agg #[.slice A68 v66.Arena.Slots.length cp69, .slice A73 l128.length cp74], .int .i64 0], (.cellA (by rfl) ag79 (H.cells (i := 3) (by rfl)) (by rfl) (.tmp (by rfl) rfl)), A68, cp69, A73, cp74, rfl, (H.forgetAll).pick [5, 6]⟩
end Go.Proofs.YtobkigllalbkiaaV.M

/- A plain Lean function that answers as the Go function does (none: not told), and the proof that a call answers so. Written by program. -/
set_option linter.unusedVariables false
namespace Go.Proofs.YtobkigllalbkiaaV.M
open Go.RowKit Go.Proofs.YtobkigllalbkiaaV
/-- diorama/dioramaref06.Unlink -/
def m52 (K : Nat) (a0 : S_Graph) (a1 : S_Handle) (a2 : Int) : Option (S_Graph × Int) :=
 ((m98 K a0 a1 a1).bind fun v16 => (bif (v16 != 0) then some ((⟨(⟨[]⟩ : S_Arena), []⟩ : S_Graph), v16) else (idx a0.Kids a1.Slot fun el21 => ((bif (decide (a2 < 0)) then some true else some (decide ((el21.length : Int) ≤ a2))).bind fun b38 => (bif b38 then some ((⟨(⟨[]⟩ : S_Arena), []⟩ : S_Graph), 2) else ((m48 K a0).bind fun v45 => (slg a2 (el21.length : Int) (apds 16 ([] : List S_Handle) (el21.take ((a2).toNat)) fun l70 => (ck (a2 + 1) fun x73 => (slg x73 (el21.length : Int) (apds 16 l70 (el21.drop ((x73).toNat)) fun l82 => (idx v45.Kids a1.Slot fun el85 => (lete (v45.Kids.set ((a1.Slot).toNat) l82) fun l99 => some ((⟨v45.Arena, l99⟩ : S_Graph), 0))))))))))))))
set_option maxRecDepth 100000 in
set_option maxHeartbeats 4000000 in
theorem c52 (ok : Okp) (K : Nat) (w : World) (a0 : S_Graph) (A1 : Option Addr) (cp2 : Nat) (A5 : Option Addr) (cp6 : Nat) (a1 : S_Handle) (a2 : Int) (hR3 : Rd k_Slot w ok A1 cp2 a0.Arena.Slots) (hR7 : Rd (Kd.slice k_Handle) w ok A5 cp6 a0.Kids) (res : S_Graph × Int) (hm : m52 K a0 a1 a2 = some res) :
  Calls Try.prog 52 #[.agg #[.slice A1 a0.Arena.Slots.length cp2, .slice A5 a0.Kids.length cp6], .agg #[.int .i64 a1.Slot, .int .i64 a1.Gen], .int .i64 a2] w (fun e w' => ∃ (A0_ : Option Addr) (c0_ : Nat), ∃ (A1_ : Option Addr) (c1_ : Nat), e = .returned (tup [.agg #[.slice A0_ res.1.Arena.Slots.length c0_, .slice A1_ res.1.Kids.length c1_], .int .i64 res.2]) ∧ Sep ok w w' [] [RE.rd k_Slot A0_ c0_ res.1.Arena.Slots, RE.rd (Kd.slice k_Handle) A1_ c1_ res.1.Kids]) := by
 refine calls_W (args := [.agg #[.slice A1 a0.Arena.Slots.length cp2, .slice A5 a0.Kids.length cp6], .agg #[.int .i64 a1.Slot, .int .i64 a1.Gen], .int .i64 a2]) Try.func52 rfl Try.ntmps52 Try.results52 rfl fun r hr => ?_
 obtain ⟨r1, rfl⟩ := regen (r := r) [(0, .agg #[.slice A1 a0.Arena.Slots.length cp2, .slice A5 a0.Kids.length cp6]), (1, .agg #[.int .i64 a1.Slot, .int .i64 a1.Gen]), (2, .int .i64 a2)] ⟨hr 0 _ rfl, hr 1 _ rfl, hr 2 _ rfl, trivial⟩
 have H : Sep ok w w [] [RE.rd k_Slot A1 cp2 a0.Arena.Slots, RE.rd (Kd.slice k_Handle) A5 cp6 a0.Kids] := Sep.arg (Sep.arg (Sep.start ok w) (re := RE.rd k_Slot A1 cp2 a0.Arena.Slots) rfl rfl hR3) (re := RE.rd (Kd.slice k_Handle) A5 cp6 a0.Kids) rfl rfl hR7
 unfold m52 at hm
 refine W_seq ?_
 refine W_region ?_
 refine RL_cons (O_box (by exact wn0 rfl) (by rfl) (by rfl) (by rfl) H (fun w10 b9 (H : Sep ok w w10 [.blk b9 79 [.slice A1 a0.Arena.Slots.length cp2, .slice A5 a0.Kids.length cp6]] [RE.rd k_Slot A1 cp2 a0.Arena.Slots, RE.rd (Kd.slice k_Handle) A5 cp6 a0.Kids]) => ?_))
 refine RL_cons (O_box (by exact wn0 rfl) (by rfl) (by rfl) (by rfl) H (fun w12 b11 (H : Sep ok w w12 [.blk b9 79 [.slice A1 a0.Arena.Slots.length cp2, .slice A5 a0.Kids.length cp6], .blk b11 81 [.int .i64 a1.Slot, .int .i64 a1.Gen]] [RE.rd k_Slot A1 cp2 a0.Arena.Slots, RE.rd (Kd.slice k_Handle) A5 cp6 a0.Kids]) => ?_))
 refine RL_cons (O_alloc (by exact wn0 rfl) (by rfl) ze79 (by rfl) H (fun w14 b13 (H : Sep ok w w14 [.blk b9 79 [.slice A1 a0.Arena.Slots.length cp2, .slice A5 a0.Kids.length cp6], .blk b11 81 [.int .i64 a1.Slot, .int .i64 a1.Gen], .blk b13 79 [.slice none 0 0, .slice none 0 0]] [RE.rd k_Slot A1 cp2 a0.Arena.Slots, RE.rd (Kd.slice k_Handle) A5 cp6 a0.Kids]) => ?_))
 refine RL_p (x_assign (v := .int .i64 0) (by rfl)) ?_
 refine RL_nil ?_
 refine W_seq ?_
 refine W_region ?_
 refine RL_p (x_loadA (j := 0) (vs := [.slice A1 a0.Arena.Slots.length cp2, .slice A5 a0.Kids.length cp6]) ag79 (by rfl) (H.cells (i := 0) (by rfl)) (by rfl) (by rfl)) ?_
 refine RL_p (x_loadA (j := 0) (vs := [.int .i64 a1.Slot, .int .i64 a1.Gen]) ag81 (by rfl) (H.cells (i := 1) (by rfl)) (by rfl) (by rfl)) ?_
 refine RL_p (x_loadA (j := 0) (vs := [.int .i64 a1.Slot, .int .i64 a1.Gen]) ag81 (by rfl) (H.cells (i := 1) (by rfl)) (by rfl) (by rfl)) ?_
 obtain ⟨v16, hv15, hm⟩ := bind_some hm
 refine RL_cons (O_call (by exact wn0 rfl) (by rfl) (by rfl) (x_callL (by rfl) (args := [.agg #[.slice A1 a0.Arena.Slots.length cp2, .slice A5 a0.Kids.length cp6], .agg #[.int .i64 a1.Slot, .int .i64 a1.Gen], .agg #[.int .i64 a1.Slot, .int .i64 a1.Gen]]) (by rfl) (cf98 _ _)) (c98 okT K w14 a0 A1 cp2 A5 cp6 a1 a1 (H.rd (i := 0) (by rfl)).any (H.rd (i := 1) (by rfl)).any v16 hv15) ?_)
 rintro e w17 ⟨rfl, H2⟩
 have H : Sep ok w w17 [.blk b9 79 [.slice A1 a0.Arena.Slots.length cp2, .slice A5 a0.Kids.length cp6], .blk b11 81 [.int .i64 a1.Slot, .int .i64 a1.Gen], .blk b13 79 [.slice none 0 0, .slice none 0 0]] [RE.rd k_Slot A1 cp2 a0.Arena.Slots, RE.rd (Kd.slice k_Handle) A5 cp6 a0.Kids] := H.below H2.base
 clear H2
 refine ⟨_, rfl, ?_⟩
 show RL _ _ _ _ _ _ _
 refine RL_p (x_assign (v := .int .i64 v16) (by rfl)) ?_
 refine RL_nil ?_
 refine W_seq ?_
 refine W_seq ?_
 refine W_region ?_
 refine RL_p (x_move (v := .int .i64 v16) (by rfl)) ?_
 refine RL_p (x_neq (by rfl) (by rfl)) ?_
 refine RL_nil ?_
 refine W_cond (by rfl) (fun hb => ?_) (fun hb => ?_)
 ·have hm := cond_t hb hm
  refine W_seq ?_
  refine W_region ?_
  refine RL_p (x_build (vs := []) (cs := [.slice none 0 0, .slice none 0 0]) (by rfl) (by kernel_rfl)) ?_
  refine RL_p (x_move (v := .int .i64 v16) (by rfl)) ?_
  refine RL_cons (O_store (i := 2) (off := 0) (by exact wn0 rfl) (by rfl) (by rfl) H (by rfl) (vs := [.slice none 0 0, .slice none 0 0]) (by rfl) sz79 (by rfl) (by rfl) (by rfl) (fun w18 (H : Sep ok w w18 [.blk b9 79 [.slice A1 a0.Arena.Slots.length cp2, .slice A5 a0.Kids.length cp6], .blk b11 81 [.int .i64 a1.Slot, .int .i64 a1.Gen], .blk b13 79 [.slice none 0 0, .slice none 0 0]] [RE.rd k_Slot A1 cp2 a0.Arena.Slots, RE.rd (Kd.slice k_Handle) A5 cp6 a0.Kids]) => ?_))
  refine RL_p (x_assign (v := .int .i64 v16) (by rfl)) ?_
  refine RL_nil ?_
  refine W_ret ?_
  have H : Sep ok w w18 [.blk b9 79 [.slice A1 a0.Arena.Slots.length cp2, .slice A5 a0.Kids.length cp6], .blk b11 81 [.int .i64 a1.Slot, .int .i64 a1.Gen], .blk b13 79 [.slice none 0 0, .slice none 0 0]] [RE.rd k_Slot A1 cp2 a0.Arena.Slots, RE.rd (Kd.slice k_Handle) A5 cp6 a0.Kids, RE.rd k_Slot none 0 ([])] := Sep.also H (re := RE.rd k_Slot none 0 ([])) (Rd.nil (by decide))
  have H : Sep ok w w18 [.blk b9 79 [.slice A1 a0.Arena.Slots.length cp2, .slice A5 a0.Kids.length cp6], .blk b11 81 [.int .i64 a1.Slot, .int .i64 a1.Gen], .blk b13 79 [.slice none 0 0, .slice none 0 0]] [RE.rd k_Slot A1 cp2 a0.Arena.Slots, RE.rd (Kd.slice k_Handle) A5 cp6 a0.Kids, RE.rd k_Slot none 0 ([]), RE.rd (Kd.slice k_Handle) none 0 ([])] := Sep.also H (re := RE.rd (Kd.slice k_Handle) none 0 ([])) (Rd.nil (by decide))
  obtain rfl := Option.some.inj hm
  exact ⟨[.agg #[.slice none 0 0, .slice none 0 0], .int .i64 v16], (.cellA (by rfl) ag79 (H.cells (i := 2) (by rfl)) (by rfl) (.tmp (by rfl) rfl)), none, 0, none, 0, rfl, (H.forgetAll).pick [2, 3]⟩
 ·have hm := cond_f hb hm
  refine W_skip ?_
  refine W_seq ?_
  refine W_region ?_
  refine RL_p (x_fieldAddr fo79_1 (by rfl)) ?_
  refine RL_p (x_load (j := 1) (v := .slice A5 a0.Kids.length cp6) sc77 (by rfl) (H.cells (i := 0) (by rfl)) (by rfl)) ?_
  refine RL_p (x_fieldAddr fo81_0 (by rfl)) ?_
  refine RL_p (x_load (j := 0) (v := .int .i64 a1.Slot) sc3 (by rfl) (H.cells (i := 1) (by rfl)) (by rfl)) ?_
  obtain ⟨el21, h22, h23, he24, hm⟩ := idx_some hm
  obtain ⟨g26, o27, hA25⟩ := (H.rd (i := 1) (by rfl)).addr he24
  obtain ⟨cs28, hk29, hat30, hg_cs28⟩ := (H.rd (i := 1) (by rfl)).openAt hA25 he24
  obtain ⟨A33, cp34, rfl, hR36⟩ := hk29
  have H : Sep ok w w17 [.blk b9 79 [.slice A1 a0.Arena.Slots.length cp2, .slice A5 a0.Kids.length cp6], .blk b11 81 [.int .i64 a1.Slot, .int .i64 a1.Gen], .blk b13 79 [.slice none 0 0, .slice none 0 0]] [RE.rd k_Slot A1 cp2 a0.Arena.Slots, RE.rd (Kd.slice k_Handle) A5 cp6 a0.Kids, RE.cells g26 (o27 + (a1.Slot).toNat * 1) [.slice A33 el21.length cp34]] := Sep.also H (re := RE.cells g26 (o27 + (a1.Slot).toNat * 1) [.slice A33 el21.length cp34]) ⟨hg_cs28, hat30⟩
  have H : Sep ok w w17 [.blk b9 79 [.slice A1 a0.Arena.Slots.length cp2, .slice A5 a0.Kids.length cp6], .blk b11 81 [.int .i64 a1.Slot, .int .i64 a1.Gen], .blk b13 79 [.slice none 0 0, .slice none 0 0]] [RE.rd k_Slot A1 cp2 a0.Arena.Slots, RE.rd (Kd.slice k_Handle) A5 cp6 a0.Kids, RE.cells g26 (o27 + (a1.Slot).toNat * 1) [.slice A33 el21.length cp34], RE.rd k_Handle A33 cp34 el21] := Sep.also H (re := RE.rd k_Handle A33 cp34 el21) hR36
  refine RL_p (x_indexAddr sl77 sz87 (by rfl) (by rfl) hA25 h22 h23) ?_
  refine RL_p (x_load (j := 0) (v := .slice A33 el21.length cp34) sc87 (by rfl) (H.cellsR (i := 2) (by rfl)) (by rfl)) ?_
  refine RL_p (x_assign (v := .slice A33 el21.length cp34) (by rfl)) ?_
  refine RL_nil ?_
  refine W_seq ?_
  refine W_seq ?_
  refine W_region ?_
  refine RL_p (x_move (v := .int .i64 a2) (by rfl)) ?_
  refine RL_p (x_lss (by rfl) (by rfl)) ?_
  refine RL_p (x_move (v := .bool (decide (a2 < 0))) (by rfl)) ?_
  obtain ⟨b38, hmS, hm⟩ := bind_some hm
  refine RL_cut 5 (fun r' w' => Agr [(33, .bool b38), (2, .int .i64 a2), (3, .pointer (some ⟨b9, 0, none⟩)), (4, .pointer (some ⟨b11, 0, none⟩)), (6, .pointer (some ⟨b13, 0, none⟩)), (9, .slice A33 el21.length cp34)] r' ∧ Sep ok w w' [.blk b9 79 [.slice A1 a0.Arena.Slots.length cp2, .slice A5 a0.Kids.length cp6], .blk b11 81 [.int .i64 a1.Slot, .int .i64 a1.Gen], .blk b13 79 [.slice none 0 0, .slice none 0 0]] [RE.rd k_Slot A1 cp2 a0.Arena.Slots, RE.rd (Kd.slice k_Handle) A5 cp6 a0.Kids, RE.cells g26 (o27 + (a1.Slot).toNat * 1) [.slice A33 el21.length cp34], RE.rd k_Handle A33 cp34 el21]) ?_ ?_
  ·cases hbS : (decide (a2 < 0))
   ·have hm := cond_f hbS hmS
    refine RL_pure (by exact wn1 rfl rfl rfl rfl) (by rfl) (by rfl) (x_move (v := .int .i64 a2) (by rfl)) ?_
    refine RL_pure (by exact wn1 rfl rfl rfl rfl) (by rfl) (by rfl) (x_move (v := .slice A33 el21.length cp34) (by rfl)) ?_
    refine RL_pure (by exact wn1 rfl rfl rfl rfl) (by rfl) (by rfl) (x_len sl87 (by rfl)) ?_
    refine RL_pure (by exact wn1 rfl rfl rfl rfl) (by rfl) (by rfl) (x_geq (by rfl) (by rfl)) ?_
    refine RL_p (x_pick_f (v := .bool (decide ((el21.length : Int) ≤ a2))) (by rfl) (by rfl)) ?_
    refine RL_nil ?_
    exact ⟨⟨congrArg Value.bool (Option.some.inj hm), rfl, rfl, rfl, rfl, rfl, trivial⟩, H⟩
   ·have hm := cond_t hbS hmS
    refine RL_cons (OpR_off (by exact wn2 rfl rfl rfl rfl) (by rfl) (by rfl) ?_)
    refine RL_cons (OpR_off (by exact wn2 rfl rfl rfl rfl) (by rfl) (by rfl) ?_)
    refine RL_cons (OpR_off (by exact wn2 rfl rfl rfl rfl) (by rfl) (by rfl) ?_)
    refine RL_cons (OpR_off (by exact wn2 rfl rfl rfl rfl) (by rfl) (by rfl) ?_)
    refine RL_p (x_pick_t (v := .bool true) (by rfl) (by rfl)) ?_
    refine RL_nil ?_
    exact ⟨⟨congrArg Value.bool (Option.some.inj hm), rfl, rfl, rfl, rfl, rfl, trivial⟩, H⟩
  ·rintro r' w' ⟨hA, H⟩
   obtain ⟨r39, rfl⟩ := regen _ hA; clear hA
   obtain ⟨w40, rfl⟩ : ∃ W : World, W = w' := ⟨_, rfl⟩
   show RL _ _ _ _ _ _ _
   refine RL_nil ?_
   refine W_cond (by rfl) (fun hb => ?_) (fun hb => ?_)
   ·have hm := cond_t hb hm
    refine W_seq ?_
    refine W_region ?_
    refine RL_p (x_build (vs := []) (cs := [.slice none 0 0, .slice none 0 0]) (by rfl) (by kernel_rfl)) ?_
    refine RL_cons (O_store (i := 2) (off := 0) (by exact wn0 rfl) (by rfl) (by rfl) H (by rfl) (vs := [.slice none 0 0, .slice none 0 0]) (by rfl) sz79 (by rfl) (by rfl) (by rfl) (fun w41 (H : Sep ok w w41 [.blk b9 79 [.slice A1 a0.Arena.Slots.length cp2, .slice A5 a0.Kids.length cp6], .blk b11 81 [.int .i64 a1.Slot, .int .i64 a1.Gen], .blk b13 79 [.slice none 0 0, .slice none 0 0]] [RE.rd k_Slot A1 cp2 a0.Arena.Slots, RE.rd (Kd.slice k_Handle) A5 cp6 a0.Kids, RE.cells g26 (o27 + (a1.Slot).toNat * 1) [.slice A33 el21.length cp34], RE.rd k_Handle A33 cp34 el21]) => ?_))
    refine RL_p (x_assign (v := .int .i64 2) (by rfl)) ?_
    refine RL_nil ?_
    refine W_ret ?_
    have H : Sep ok w w41 [.blk b9 79 [.slice A1 a0.Arena.Slots.length cp2, .slice A5 a0.Kids.length cp6], .blk b11 81 [.int .i64 a1.Slot, .int .i64 a1.Gen], .blk b13 79 [.slice none 0 0, .slice none 0 0]] [RE.rd k_Slot A1 cp2 a0.Arena.Slots, RE.rd (Kd.slice k_Handle) A5 cp6 a0.Kids, RE.cells g26 (o27 + (a1.Slot).toNat * 1) [.slice A33 el21.length cp34], RE.rd k_Handle A33 cp34 el21, RE.rd k_Slot none 0 ([])] := Sep.also H (re := RE.rd k_Slot none 0 ([])) (Rd.nil (by decide))
    have H : Sep ok w w41 [.blk b9 79 [.slice A1 a0.Arena.Slots.length cp2, .slice A5 a0.Kids.length cp6], .blk b11 81 [.int .i64 a1.Slot, .int .i64 a1.Gen], .blk b13 79 [.slice none 0 0, .slice none 0 0]] [RE.rd k_Slot A1 cp2 a0.Arena.Slots, RE.rd (Kd.slice k_Handle) A5 cp6 a0.Kids, RE.cells g26 (o27 + (a1.Slot).toNat * 1) [.slice A33 el21.length cp34], RE.rd k_Handle A33 cp34 el21, RE.rd k_Slot none 0 ([]), RE.rd (Kd.slice k_Handle) none 0 ([])] := Sep.also H (re := RE.rd (Kd.slice k_Handle) none 0 ([])) (Rd.nil (by decide))
    obtain rfl := Option.some.inj hm
    exact ⟨[.agg #[.slice none 0 0, .slice none 0 0], .int .i64 2], (.cellA (by rfl) ag79 (H.cells (i := 2) (by rfl)) (by rfl) (.tmp (by rfl) rfl)), none, 0, none, 0, rfl, (H.forgetAll).pick [4, 5]⟩
   ·have hm := cond_f hb hm
    refine W_skip ?_
    refine W_seq ?_
    refine W_region ?_
    refine RL_p (x_loadA (j := 0) (vs := [.slice A1 a0.Arena.Slots.length cp2, .slice A5 a0.Kids.length cp6]) ag79 (by rfl) (H.cells (i := 0) (by rfl)) (by rfl) (by rfl)) ?_
    obtain ⟨v45, hv44, hm⟩ := bind_some hm
    refine RL_cons (O_call (by exact wn0 rfl) (by rfl) (by rfl) (x_callL (by rfl) (args := [.agg #[.slice A1 a0.Arena.Slots.length cp2, .slice A5 a0.Kids.length cp6]]) (by rfl) (cf48 _ _)) (c48 (okS ok w [.blk b9 79 [.slice A1 a0.Arena.Slots.length cp2, .slice A5 a0.Kids.length cp6], .blk b11 81 [.int .i64 a1.Slot, .int .i64 a1.Gen], .blk b13 79 [.slice none 0 0, .slice none 0 0]]) K w40 a0 A1 cp2 A5 cp6 (H.rd (i := 0) (by rfl)) (H.rd (i := 1) (by rfl)) v45 hv44) ?_)
    rintro e w46 ⟨A47, cp48, cs49, A52, cp53, cs54, rfl, H2⟩
    have H : Sep ok w w46 [.blk b9 79 [.slice A1 a0.Arena.Slots.length cp2, .slice A5 a0.Kids.length cp6], .blk b11 81 [.int .i64 a1.Slot, .int .i64 a1.Gen], .blk b13 79 [.slice none 0 0, .slice none 0 0], .row (.slice A47 v45.Arena.Slots.length cp48) 96 k_Slot.sz v45.Arena.Slots.length cs49, .row (.slice A52 v45.Kids.length cp53) 87 (Kd.slice k_Handle).sz v45.Kids.length cs54] [RE.rd k_Slot A1 cp2 a0.Arena.Slots, RE.rd (Kd.slice k_Handle) A5 cp6 a0.Kids, RE.cells g26 (o27 + (a1.Slot).toNat * 1) [.slice A33 el21.length cp34], RE.rd k_Handle A33 cp34 el21, RE.chunks k_Slot cs49 v45.Arena.Slots, RE.chunks (Kd.slice k_Handle) cs54 v45.Kids] := H.call H2
    clear H2
    refine ⟨_, rfl, ?_⟩
    show RL _ _ _ _ _ _ _
    refine RL_cons (O_alloc (by exact wn0 rfl) (by rfl) ze79 (by rfl) H (fun w58 b57 (H : Sep ok w w58 [.blk b9 79 [.slice A1 a0.Arena.Slots.length cp2, .slice A5 a0.Kids.length cp6], .blk b11 81 [.int .i64 a1.Slot, .int .i64 a1.Gen], .blk b13 79 [.slice none 0 0, .slice none 0 0], .row (.slice A47 v45.Arena.Slots.length cp48) 96 k_Slot.sz v45.Arena.Slots.length cs49, .row (.slice A52 v45.Kids.length cp53) 87 (Kd.slice k_Handle).sz v45.Kids.length cs54, .blk b57 79 [.slice none 0 0, .slice none 0 0]] [RE.rd k_Slot A1 cp2 a0.Arena.Slots, RE.rd (Kd.slice k_Handle) A5 cp6 a0.Kids, RE.cells g26 (o27 + (a1.Slot).toNat * 1) [.slice A33 el21.length cp34], RE.rd k_Handle A33 cp34 el21, RE.chunks k_Slot cs49 v45.Arena.Slots, RE.chunks (Kd.slice k_Handle) cs54 v45.Kids]) => ?_))
    refine RL_cons (O_store (i := 5) (off := 0) (by exact wn0 rfl) (by rfl) (by rfl) H (by rfl) (vs := [.slice A47 v45.Arena.Slots.length cp48, .slice A52 v45.Kids.length cp53]) (by rfl) sz79 (by rfl) (by rfl) (by rfl) (fun w59 (H : Sep ok w w59 [.blk b9 79 [.slice A1 a0.Arena.Slots.length cp2, .slice A5 a0.Kids.length cp6], .blk b11 81 [.int .i64 a1.Slot, .int .i64 a1.Gen], .blk b13 79 [.slice none 0 0, .slice none 0 0], .row (.slice A47 v45.Arena.Slots.length cp48) 96 k_Slot.sz v45.Arena.Slots.length cs49, .row (.slice A52 v45.Kids.length cp53) 87 (Kd.slice k_Handle).sz v45.Kids.length cs54, .blk b57 79 [.slice A47 v45.Arena.Slots.length cp48, .slice A52 v45.Kids.length cp53]] [RE.rd k_Slot A1 cp2 a0.Arena.Slots, RE.rd (Kd.slice k_Handle) A5 cp6 a0.Kids, RE.cells g26 (o27 + (a1.Slot).toNat * 1) [.slice A33 el21.length cp34], RE.rd k_Handle A33 cp34 el21, RE.chunks k_Slot cs49 v45.Arena.Slots, RE.chunks (Kd.slice k_Handle) cs54 v45.Kids]) => ?_))
    refine RL_nil ?_
    refine W_seq ?_
    refine W_region ?_
    refine RL_p (x_assign (v := .slice none 0 0) (by rfl)) ?_
    refine RL_nil ?_
    refine W_seq ?_
    refine W_region ?_
    refine RL_p (x_move (v := .slice none 0 0) (by rfl)) ?_
    refine RL_p (x_move (v := .slice A33 el21.length cp34) (by rfl)) ?_
    refine RL_p (x_move (v := .int .i64 a2) (by rfl)) ?_
    obtain ⟨h60, h61, hm⟩ := slg_some hm
    have h62 := (H.rd (i := 3) (by rfl)).1
    have H : Sep ok w w59 [.blk b9 79 [.slice A1 a0.Arena.Slots.length cp2, .slice A5 a0.Kids.length cp6], .blk b11 81 [.int .i64 a1.Slot, .int .i64 a1.Gen], .blk b13 79 [.slice none 0 0, .slice none 0 0], .row (.slice A47 v45.Arena.Slots.length cp48) 96 k_Slot.sz v45.Arena.Slots.length cs49, .row (.slice A52 v45.Kids.length cp53) 87 (Kd.slice k_Handle).sz v45.Kids.length cs54, .blk b57 79 [.slice A47 v45.Arena.Slots.length cp48, .slice A52 v45.Kids.length cp53]] [RE.rd k_Slot A1 cp2 a0.Arena.Slots, RE.rd (Kd.slice k_Handle) A5 cp6 a0.Kids, RE.cells g26 (o27 + (a1.Slot).toNat * 1) [.slice A33 el21.length cp34], RE.rd k_Handle A33 cp34 el21, RE.chunks k_Slot cs49 v45.Arena.Slots, RE.chunks (Kd.slice k_Handle) cs54 v45.Kids, RE.rd k_Handle (slA A33 cp34 0 2) cp34 (el21.take ((a2).toNat))] := Sep.also H (re := RE.rd k_Handle (slA A33 cp34 0 2) cp34 (el21.take ((a2).toNat))) (Rd.takeN (K := k_Handle) (H.rd (i := 3) (by rfl)))
    refine RL_p (x_slice_hiL sl87 sz81 (by rfl) (by rfl) h60 h61 h62) ?_
    have H : Sep ok w w59 [.blk b9 79 [.slice A1 a0.Arena.Slots.length cp2, .slice A5 a0.Kids.length cp6], .blk b11 81 [.int .i64 a1.Slot, .int .i64 a1.Gen], .blk b13 79 [.slice none 0 0, .slice none 0 0], .row (.slice A47 v45.Arena.Slots.length cp48) 96 k_Slot.sz v45.Arena.Slots.length cs49, .row (.slice A52 v45.Kids.length cp53) 87 (Kd.slice k_Handle).sz v45.Kids.length cs54, .blk b57 79 [.slice A47 v45.Arena.Slots.length cp48, .slice A52 v45.Kids.length cp53], .row (.slice none 0 0) 81 k_Handle.sz 0 []] [RE.rd k_Slot A1 cp2 a0.Arena.Slots, RE.rd (Kd.slice k_Handle) A5 cp6 a0.Kids, RE.cells g26 (o27 + (a1.Slot).toNat * 1) [.slice A33 el21.length cp34], RE.rd k_Handle A33 cp34 el21, RE.chunks k_Slot cs49 v45.Arena.Slots, RE.chunks (Kd.slice k_Handle) cs54 v45.Kids, RE.rd k_Handle (slA A33 cp34 0 2) cp34 (el21.take ((a2).toNat)), RE.chunks k_Handle [] ([])] := H.nilRowK 81 k_Handle
    obtain ⟨l70, hl71, hb72, hm⟩ := apds_some hm
    refine RL_cons (O_appendAll (D := k_Handle) (xs := ([] : List S_Handle)) (i := 6) (j := 7) (zs := (el21.take ((a2).toNat))) (by exact wn0 rfl) (by rfl) (by rfl) (by rfl) H (by rfl) (by rfl) (H.rd (i := 6) (by rfl)) hl71 sl87 sz81 by81 ze81 (by rfl) (by rfl) hb72 (by rfl) (fun w66 A67 cp68 cs69 (H : Sep ok w w66 [.blk b9 79 [.slice A1 a0.Arena.Slots.length cp2, .slice A5 a0.Kids.length cp6], .blk b11 81 [.int .i64 a1.Slot, .int .i64 a1.Gen], .blk b13 79 [.slice none 0 0, .slice none 0 0], .row (.slice A47 v45.Arena.Slots.length cp48) 96 k_Slot.sz v45.Arena.Slots.length cs49, .row (.slice A52 v45.Kids.length cp53) 87 (Kd.slice k_Handle).sz v45.Kids.length cs54, .blk b57 79 [.slice A47 v45.Arena.Slots.length cp48, .slice A52 v45.Kids.length cp53], .row (.slice A67 l70.length cp68) 81 k_Handle.sz l70.length cs69] [RE.rd k_Slot A1 cp2 a0.Arena.Slots, RE.rd (Kd.slice k_Handle) A5 cp6 a0.Kids, RE.cells g26 (o27 + (a1.Slot).toNat * 1) [.slice A33 el21.length cp34], RE.rd k_Handle A33 cp34 el21, RE.chunks k_Slot cs49 v45.Arena.Slots, RE.chunks (Kd.slice k_Handle) cs54 v45.Kids, RE.rd k_Handle (slA A33 cp34 0 2) cp34 (el21.take ((a2).toNat)), RE.chunks k_Handle cs69 l70]) => ?_))
    refine RL_p (x_assign (v := .slice A67 l70.length cp68) (by rfl)) ?_
    refine RL_nil ?_
    refine W_seq ?_
    refine W_region ?_
    refine RL_p (x_move (v := .slice A67 l70.length cp68) (by rfl)) ?_
    refine RL_p (x_move (v := .slice A33 el21.length cp34) (by rfl)) ?_
    refine RL_p (x_move (v := .int .i64 a2) (by rfl)) ?_
    obtain ⟨x73, ex73, qx73, ux73, hm⟩ := ck_some hm
    refine RL_p (x_add (by rfl) (by rfl) ux73) ?_
    obtain ⟨h74, h75, hm⟩ := slg_some hm
    have H : Sep ok w w66 [.blk b9 79 [.slice A1 a0.Arena.Slots.length cp2, .slice A5 a0.Kids.length cp6], .blk b11 81 [.int .i64 a1.Slot, .int .i64 a1.Gen], .blk b13 79 [.slice none 0 0, .slice none 0 0], .row (.slice A47 v45.Arena.Slots.length cp48) 96 k_Slot.sz v45.Arena.Slots.length cs49, .row (.slice A52 v45.Kids.length cp53) 87 (Kd.slice k_Handle).sz v45.Kids.length cs54, .blk b57 79 [.slice A47 v45.Arena.Slots.length cp48, .slice A52 v45.Kids.length cp53], .row (.slice A67 l70.length cp68) 81 k_Handle.sz l70.length cs69] [RE.rd k_Slot A1 cp2 a0.Arena.Slots, RE.rd (Kd.slice k_Handle) A5 cp6 a0.Kids, RE.cells g26 (o27 + (a1.Slot).toNat * 1) [.slice A33 el21.length cp34], RE.rd k_Handle A33 cp34 el21, RE.chunks k_Slot cs49 v45.Arena.Slots, RE.chunks (Kd.slice k_Handle) cs54 v45.Kids, RE.rd k_Handle (slA A33 cp34 0 2) cp34 (el21.take ((a2).toNat)), RE.chunks k_Handle cs69 l70, RE.rd k_Handle (slA A33 cp34 ((x73).toNat) 2) (cp34 - (x73).toNat) (el21.drop ((x73).toNat))] := Sep.also H (re := RE.rd k_Handle (slA A33 cp34 ((x73).toNat) 2) (cp34 - (x73).toNat) (el21.drop ((x73).toNat))) (Rd.dropN (K := k_Handle) (H.rd (i := 3) (by rfl)))
    refine RL_p (x_slice_loL sl87 sz81 (by rfl) (by rfl) h74 h75) ?_
    obtain ⟨l82, hl83, hb84, hm⟩ := apds_some hm
    refine RL_cons (O_appendAll (D := k_Handle) (i := 6) (j := 7) (zs := (el21.drop ((x73).toNat))) (by exact wn0 rfl) (by rfl) (by rfl) (by rfl) H (by rfl) (by rfl) (H.rd (i := 8) (by rfl)) hl83 sl87 sz81 by81 ze81 (by rfl) (by rfl) hb84 (by rfl) (fun w78 A79 cp80 cs81 (H : Sep ok w w78 [.blk b9 79 [.slice A1 a0.Arena.Slots.length cp2, .slice A5 a0.Kids.length cp6], .blk b11 81 [.int .i64 a1.Slot, .int .i64 a1.Gen], .blk b13 79 [.slice none 0 0, .slice none 0 0], .row (.slice A47 v45.Arena.Slots.length cp48) 96 k_Slot.sz v45.Arena.Slots.length cs49, .row (.slice A52 v45.Kids.length cp53) 87 (Kd.slice k_Handle).sz v45.Kids.length cs54, .blk b57 79 [.slice A47 v45.Arena.Slots.length cp48, .slice A52 v45.Kids.length cp53], .row (.slice A79 l82.length cp80) 81 k_Handle.sz l82.length cs81] [RE.rd k_Slot A1 cp2 a0.Arena.Slots, RE.rd (Kd.slice k_Handle) A5 cp6 a0.Kids, RE.cells g26 (o27 + (a1.Slot).toNat * 1) [.slice A33 el21.length cp34], RE.rd k_Handle A33 cp34 el21, RE.chunks k_Slot cs49 v45.Arena.Slots, RE.chunks (Kd.slice k_Handle) cs54 v45.Kids, RE.rd k_Handle (slA A33 cp34 0 2) cp34 (el21.take ((a2).toNat)), RE.chunks k_Handle cs81 l82, RE.rd k_Handle (slA A33 cp34 ((x73).toNat) 2) (cp34 - (x73).toNat) (el21.drop ((x73).toNat))]) => ?_))
    refine RL_p (x_assign (v := .slice A79 l82.length cp80) (by rfl)) ?_
    refine RL_nil ?_
    refine W_seq ?_
    refine W_region ?_
    refine RL_p (x_fieldAddr fo79_1 (by rfl)) ?_
    refine RL_p (x_load (j := 1) (v := .slice A52 v45.Kids.length cp53) sc77 (by rfl) (H.cells (i := 5) (by rfl)) (by rfl)) ?_
    refine RL_p (x_fieldAddr fo81_0 (by rfl)) ?_
    refine RL_p (x_load (j := 0) (v := .int .i64 a1.Slot) sc3 (by rfl) (H.cells (i := 1) (by rfl)) (by rfl)) ?_
    refine RL_p (x_move (v := .slice A79 l82.length cp80) (by rfl)) ?_
    obtain ⟨el85, h86, h87, he88, hm⟩ := idx_some hm
    obtain ⟨g90, _, hA89, _, _⟩ := H.rowIdx (i := 4) (j := 5) (by rfl) (by rfl) he88
    obtain ⟨A92, cp93, hcs94, hR95⟩ := H.rowHead (j := 5) (by rfl) he88
    have H : Sep ok w w78 [.blk b9 79 [.slice A1 a0.Arena.Slots.length cp2, .slice A5 a0.Kids.length cp6], .blk b11 81 [.int .i64 a1.Slot, .int .i64 a1.Gen], .blk b13 79 [.slice none 0 0, .slice none 0 0], .row (.slice A47 v45.Arena.Slots.length cp48) 96 k_Slot.sz v45.Arena.Slots.length cs49, .row (.slice A52 v45.Kids.length cp53) 87 (Kd.slice k_Handle).sz v45.Kids.length cs54, .blk b57 79 [.slice A47 v45.Arena.Slots.length cp48, .slice A52 v45.Kids.length cp53], .row (.slice A79 l82.length cp80) 81 k_Handle.sz l82.length cs81] [RE.rd k_Slot A1 cp2 a0.Arena.Slots, RE.rd (Kd.slice k_Handle) A5 cp6 a0.Kids, RE.cells g26 (o27 + (a1.Slot).toNat * 1) [.slice A33 el21.length cp34], RE.rd k_Handle A33 cp34 el21, RE.chunks k_Slot cs49 v45.Arena.Slots, RE.chunks (Kd.slice k_Handle) cs54 v45.Kids, RE.rd k_Handle (slA A33 cp34 0 2) cp34 (el21.take ((a2).toNat)), RE.chunks k_Handle cs81 l82, RE.rd k_Handle (slA A33 cp34 ((x73).toNat) 2) (cp34 - (x73).toNat) (el21.drop ((x73).toNat)), RE.rd k_Handle A92 cp93 el85] := Sep.also H (re := RE.rd k_Handle A92 cp93 el85) hR95
    refine RL_p (x_indexAddr sl77 sz87 (by rfl) (by rfl) hA89 h86 h87) ?_
    have H : Sep ok w w78 [.blk b9 79 [.slice A1 a0.Arena.Slots.length cp2, .slice A5 a0.Kids.length cp6], .blk b11 81 [.int .i64 a1.Slot, .int .i64 a1.Gen], .blk b13 79 [.slice none 0 0, .slice none 0 0], .row (.slice A47 v45.Arena.Slots.length cp48) 96 k_Slot.sz v45.Arena.Slots.length cs49, .row (.slice A52 v45.Kids.length cp53) 87 (Kd.slice k_Handle).sz v45.Kids.length cs54, .blk b57 79 [.slice A47 v45.Arena.Slots.length cp48, .slice A52 v45.Kids.length cp53], .hole] [RE.rd k_Slot A1 cp2 a0.Arena.Slots, RE.rd (Kd.slice k_Handle) A5 cp6 a0.Kids, RE.cells g26 (o27 + (a1.Slot).toNat * 1) [.slice A33 el21.length cp34], RE.rd k_Handle A33 cp34 el21, RE.chunks k_Slot cs49 v45.Arena.Slots, RE.chunks (Kd.slice k_Handle) cs54 v45.Kids, RE.rd k_Handle (slA A33 cp34 0 2) cp34 (el21.take ((a2).toNat)), RE.rd k_Handle A79 cp80 l82, RE.rd k_Handle (slA A33 cp34 ((x73).toNat) 2) (cp34 - (x73).toNat) (el21.drop ((x73).toNat)), RE.rd k_Handle A92 cp93 el85] := H.frozen (i := 6) (j := 7) (by rfl) (by rfl)
    obtain ⟨l99, hl100, hm⟩ := lete_some hm
    refine RL_cons (O_storeRow (D := (Kd.slice k_Handle)) (i := 4) (j := 5) (off := 0) (m := a1.Slot) (a := el85) (b := l82) (vs := [.slice A79 l82.length cp80]) (by exact wn0 rfl) H (by rfl) (by rfl) hA89 (by rfl) (by rfl) he88 (by rfl) sz87 (by rfl) (by rfl) (by intro ce hce; obtain ⟨_, _, rfl, _⟩ := hce; exact ⟨A79, cp80, rfl, H.rd (i := 7) (by rfl)⟩) hl100 (fun w97 cs98 (H : Sep ok w w97 [.blk b9 79 [.slice A1 a0.Arena.Slots.length cp2, .slice A5 a0.Kids.length cp6], .blk b11 81 [.int .i64 a1.Slot, .int .i64 a1.Gen], .blk b13 79 [.slice none 0 0, .slice none 0 0], .row (.slice A47 v45.Arena.Slots.length cp48) 96 k_Slot.sz v45.Arena.Slots.length cs49, .row (.slice A52 l99.length cp53) 87 (Kd.slice k_Handle).sz l99.length cs98, .blk b57 79 [.slice A47 v45.Arena.Slots.length cp48, .slice A52 v45.Kids.length cp53], .hole] [RE.rd k_Slot A1 cp2 a0.Arena.Slots, RE.rd (Kd.slice k_Handle) A5 cp6 a0.Kids, RE.cells g26 (o27 + (a1.Slot).toNat * 1) [.slice A33 el21.length cp34], RE.rd k_Handle A33 cp34 el21, RE.chunks k_Slot cs49 v45.Arena.Slots, RE.chunks (Kd.slice k_Handle) cs98 l99, RE.rd k_Handle (slA A33 cp34 0 2) cp34 (el21.take ((a2).toNat)), RE.rd k_Handle A79 cp80 l82, RE.rd k_Handle (slA A33 cp34 ((x73).toNat) 2) (cp34 - (x73).toNat) (el21.drop ((x73).toNat)), RE.rd k_Handle A92 cp93 el85]) => ?_))
    refine RL_nil ?_
    have hn101 : v45.Kids.length = l99.length := by rw [← hl100]; exact (List.length_set ..).symm
    have H : Sep ok w w97 [.blk b9 79 [.slice A1 a0.Arena.Slots.length cp2, .slice A5 a0.Kids.length cp6], .blk b11 81 [.int .i64 a1.Slot, .int .i64 a1.Gen], .blk b13 79 [.slice none 0 0, .slice none 0 0], .row (.slice A47 v45.Arena.Slots.length cp48) 96 k_Slot.sz v45.Arena.Slots.length cs49, .row (.slice A52 l99.length cp53) 87 (Kd.slice k_Handle).sz l99.length cs98, .blk b57 79 [.slice A47 v45.Arena.Slots.length cp48, .slice A52 l99.length cp53], .hole] [RE.rd k_Slot A1 cp2 a0.Arena.Slots, RE.rd (Kd.slice k_Handle) A5 cp6 a0.Kids, RE.cells g26 (o27 + (a1.Slot).toNat * 1) [.slice A33 el21.length cp34], RE.rd k_Handle A33 cp34 el21, RE.chunks k_Slot cs49 v45.Arena.Slots, RE.chunks (Kd.slice k_Handle) cs98 l99, RE.rd k_Handle (slA A33 cp34 0 2) cp34 (el21.take ((a2).toNat)), RE.rd k_Handle A79 cp80 l82, RE.rd k_Handle (slA A33 cp34 ((x73).toNat) 2) (cp34 - (x73).toNat) (el21.drop ((x73).toNat)), RE.rd k_Handle A92 cp93 el85] := by (try rw [hn101] at H); exact H
    refine W_regen (l := [(6, .pointer (some ⟨b13, 0, none⟩)), (10, .pointer (some ⟨b57, 0, none⟩))]) ⟨rfl, rfl, trivial⟩ fun r102 => ?_
    refine W_seq ?_
    refine W_region ?_
    refine RL_p (x_loadA (j := 0) (vs := [.slice A47 v45.Arena.Slots.length cp48, .slice A52 l99.length cp53]) ag79 (by rfl) (H.cells (i := 5) (by rfl)) (by rfl) (by rfl)) ?_
    refine RL_cons (O_store (i := 2) (off := 0) (by exact wn0 rfl) (by rfl) (by rfl) H (by rfl) (vs := [.slice A47 v45.Arena.Slots.length cp48, .slice A52 l99.length cp53]) (by rfl) sz79 (by rfl) (by rfl) (by rfl) (fun w103 (H : Sep ok w w103 [.blk b9 79 [.slice A1 a0.Arena.Slots.length cp2, .slice A5 a0.Kids.length cp6], .blk b11 81 [.int .i64 a1.Slot, .int .i64 a1.Gen], .blk b13 79 [.slice A47 v45.Arena.Slots.length cp48, .slice A52 l99.length cp53], .row (.slice A47 v45.Arena.Slots.length cp48) 96 k_Slot.sz v45.Arena.Slots.length cs49, .row (.slice A52 l99.length cp53) 87 (Kd.slice k_Handle).sz l99.length cs98, .blk b57 79 [.slice A47 v45.Arena.Slots.length cp48, .slice A52 l99.length cp53], .hole] [RE.rd k_Slot A1 cp2 a0.Arena.Slots, RE.rd (Kd.slice k_Handle) A5 cp6 a0.Kids, RE.cells g26 (o27 + (a1.Slot).toNat * 1) [.slice A33 el21.length cp34], RE.rd k_Handle A33 cp34 el21, RE.chunks k_Slot cs49 v45.Arena.Slots, RE.chunks (Kd.slice k_Handle) cs98 l99, RE.rd k_Handle (slA A33 cp34 0 2) cp34 (el21.take ((a2).toNat)), RE.rd k_Handle A79 cp80 l82, RE.rd k_Handle (slA A33 cp34 ((x73).toNat) 2) (cp34 - (x73).toNat) (el21.drop ((x73).toNat)), RE.rd k_Handle A92 cp93 el85]) => ?_))
    refine RL_p (x_assign (v := .int .i64 0) (by rfl)) ?_
    refine RL_nil ?_
    refine W_ret ?_
    have H : Sep ok w w103 [.blk b9 79 [.slice A1 a0.Arena.Slots.length cp2, .slice A5 a0.Kids.length cp6], .blk b11 81 [.int .i64 a1.Slot, .int .i64 a1.Gen], .blk b13 79 [.slice A47 v45.Arena.Slots.length cp48, .slice A52 l99.length cp53], .hole, .row (.slice A52 l99.length cp53) 87 (Kd.slice k_Handle).sz l99.length cs98, .blk b57 79 [.slice A47 v45.Arena.Slots.length cp48, .slice A52 l99.length cp53], .hole] [RE.rd k_Slot A1 cp2 a0.Arena.Slots, RE.rd (Kd.slice k_Handle) A5 cp6 a0.Kids, RE.cells g26 (o27 + (a1.Slot).toNat * 1) [.slice A33 el21.length cp34], RE.rd k_Handle A33 cp34 el21, RE.rd k_Slot A47 cp48 v45.Arena.Slots, RE.chunks (Kd.slice k_Handle) cs98 l99, RE.rd k_Handle (slA A33 cp34 0 2) cp34 (el21.take ((a2).toNat)), RE.rd k_Handle A79 cp80 l82, RE.rd k_Handle (slA A33 cp34 ((x73).toNat) 2) (cp34 - (x73).toNat) (el21.drop ((x73).toNat)), RE.rd k_Handle A92 cp93 el85] := H.frozen (i := 3) (j := 4) (by rfl) (by rfl)
    have H : Sep ok w w103 [.blk b9 79 [.slice A1 a0.Arena.Slots.length cp2, .slice A5 a0.Kids.length cp6], .blk b11 81 [.int .i64 a1.Slot, .int .i64 a1.Gen], .blk b13 79 [.slice A47 v45.Arena.Slots.length cp48, .slice A52 l99.length cp53], .hole, .hole, .blk b57 79 [.slice A47 v45.Arena.Slots.length cp48, .slice A52 l99.length cp53], .hole] [RE.rd k_Slot A1 cp2 a0.Arena.Slots, RE.rd (Kd.slice k_Handle) A5 cp6 a0.Kids, RE.cells g26 (o27 + (a1.Slot).toNat * 1) [.slice A33 el21.length cp34], RE.rd k_Handle A33 cp34 el21, RE.rd k_Slot A47 cp48 v45.Arena.Slots, RE.rd (Kd.slice k_Handle) A52 cp53 l99, RE.rd k_Handle (slA A33 cp34 0 2) cp34 (el21.take ((a2).toNat)), RE.rd k_Handle A79 cp80 l82, RE.rd k_Handle (slA A33 cp34 ((x73).toNat) 2) (cp34 - (x73).toNat) (el21.drop ((x73).toNat)), RE.rd k_Handle A92 cp93 el85] := H.frozen (i := 4) (j := 5) (by rfl) (by rfl)
    obtain rfl := Option.some.inj hm
    exact ⟨[.agg #[.slice A47 v45.Arena.Slots.length cp48, .slice A52 l99.length cp53], .int .i64 0], (.cellA (by rfl) ag79 (H.cells (i := 2) (by rfl)) (by rfl) (.tmp (by rfl) rfl)), A47, cp48, A52, cp53, rfl, (H.forgetAll).pick [4, 5]⟩
end Go.Proofs.YtobkigllalbkiaaV.M

/- A plain Lean function that answers as the Go function does (none: not told), and the proof that a call answers so. Written by program. -/
set_option linter.unusedVariables false
namespace Go.Proofs.YtobkigllalbkiaaV.M
open Go.RowKit Go.Proofs.YtobkigllalbkiaaV
def m103_l1b (K : Nat) (a0 : S_Arena) (a1 : S_Arena) (rec1 : Int → Option (Bool)) (y5_1 : Int) : Option (Bool) :=
 (bif (decide (y5_1 < (a0.Slots.length : Int))) then (idx a0.Slots y5_1 fun el16 => (idx a1.Slots y5_1 fun el23 => (bif (!((el16.Gen == el23.Gen) && (el16.Live == el23.Live))) then some false else (ck (y5_1 + 1) fun x30 => (rec1 x30))))) else some true)
def m103_l1 (K : Nat) (a0 : S_Arena) (a1 : S_Arena) : Nat → Int → Option (Bool)
 | 0 => fun _ => none
 | k + 1 => m103_l1b K a0 a1 (m103_l1 K a0 a1 k)
/-- diorama/dioramaref05.Same -/
def m103 (K : Nat) (a0 : S_Arena) (a1 : S_Arena) : Option (Bool) :=
 (bif ((a0.Slots.length : Int) != (a1.Slots.length : Int)) then some false else m103_l1 K a0 a1 K 0)
set_option maxRecDepth 100000 in
set_option maxHeartbeats 4000000 in
theorem c103 (ok : Okp) (K : Nat) (w : World) (a0 : S_Arena) (A1 : Option Addr) (cp2 : Nat) (a1 : S_Arena) (A5 : Option Addr) (cp6 : Nat) (hR3 : Rd k_Slot w ok A1 cp2 a0.Slots) (hR7 : Rd k_Slot w ok A5 cp6 a1.Slots) (res : Bool) (hm : m103 K a0 a1 = some res) :
  Calls Try.prog 103 #[.agg #[.slice A1 a0.Slots.length cp2], .agg #[.slice A5 a1.Slots.length cp6]] w (fun e w' => e = .returned (tup [.bool res]) ∧ Sep ok w w' [] []) := by
 refine calls_W (args := [.agg #[.slice A1 a0.Slots.length cp2], .agg #[.slice A5 a1.Slots.length cp6]]) Try.func103 rfl Try.ntmps103 Try.results103 rfl fun r hr => ?_
 obtain ⟨r1, rfl⟩ := regen (r := r) [(0, .agg #[.slice A1 a0.Slots.length cp2]), (1, .agg #[.slice A5 a1.Slots.length cp6])] ⟨hr 0 _ rfl, hr 1 _ rfl, trivial⟩
 have H : Sep ok w w [] [RE.rd k_Slot A1 cp2 a0.Slots, RE.rd k_Slot A5 cp6 a1.Slots] := Sep.arg (Sep.arg (Sep.start ok w) (re := RE.rd k_Slot A1 cp2 a0.Slots) rfl rfl hR3) (re := RE.rd k_Slot A5 cp6 a1.Slots) rfl rfl hR7
 unfold m103 at hm
 refine W_seq ?_
 refine W_region ?_
 refine RL_cons (O_box (by exact wn0 rfl) (by rfl) (by rfl) (by rfl) H (fun w10 b9 (H : Sep ok w w10 [.blk b9 76 [.slice A1 a0.Slots.length cp2]] [RE.rd k_Slot A1 cp2 a0.Slots, RE.rd k_Slot A5 cp6 a1.Slots]) => ?_))
 refine RL_cons (O_box (by exact wn0 rfl) (by rfl) (by rfl) (by rfl) H (fun w12 b11 (H : Sep ok w w12 [.blk b9 76 [.slice A1 a0.Slots.length cp2], .blk b11 76 [.slice A5 a1.Slots.length cp6]] [RE.rd k_Slot A1 cp2 a0.Slots, RE.rd k_Slot A5 cp6 a1.Slots]) => ?_))
 refine RL_p (x_assign (v := .bool false) (by rfl)) ?_
 refine RL_nil ?_
 refine W_seq ?_
 refine W_seq ?_
 refine W_region ?_
 refine RL_p (x_fieldAddr fo76_0 (by rfl)) ?_
 refine RL_p (x_load (j := 0) (v := .slice A1 a0.Slots.length cp2) sc74 (by rfl) (H.cells (i := 0) (by rfl)) (by rfl)) ?_
 refine RL_p (x_len sl74 (by rfl)) ?_
 refine RL_p (x_fieldAddr fo76_0 (by rfl)) ?_
 refine RL_p (x_load (j := 0) (v := .slice A5 a1.Slots.length cp6) sc74 (by rfl) (H.cells (i := 1) (by rfl)) (by rfl)) ?_
 refine RL_p (x_len sl74 (by rfl)) ?_
 refine RL_p (x_neq (by rfl) (by rfl)) ?_
 refine RL_nil ?_
 refine W_cond (by rfl) (fun hb => ?_) (fun hb => ?_)
 ·have hm := cond_t hb hm
  refine W_seq ?_
  refine W_region ?_
  refine RL_p (x_assign (v := .bool false) (by rfl)) ?_
  refine RL_nil ?_
  refine W_ret ?_
  obtain rfl := Option.some.inj hm
  exact ⟨[.bool false], (.tmp (by rfl) rfl), rfl, H.none_⟩
 ·have hm := cond_f hb hm
  refine W_skip ?_
  refine W_seq ?_
  refine W_seq ?_
  refine W_region ?_
  refine RL_p (x_assign (v := .int .i64 0) (by rfl)) ?_
  refine RL_nil ?_
  refine W_block ?_
  refine W_loop (fun k1 r' w' => ∃ (y5_1 : Int), m103_l1 K a0 a1 k1 y5_1 = some res ∧ Agr [(2, .pointer (some ⟨b9, 0, none⟩)), (3, .pointer (some ⟨b11, 0, none⟩)), (5, .int .i64 y5_1)] r' ∧ Sep ok w w' [.blk b9 76 [.slice A1 a0.Slots.length cp2], .blk b11 76 [.slice A5 a1.Slots.length cp6]] [RE.rd k_Slot A1 cp2 a0.Slots, RE.rd k_Slot A5 cp6 a1.Slots]) K ?_ ?_
  ·exact ⟨0, hm, ⟨rfl, rfl, rfl, trivial⟩, H⟩
  ·rintro k1 r' w' ⟨y5_1, hm, hA, H⟩
   obtain ⟨r13, rfl⟩ := regen _ hA; clear hA
   obtain ⟨w14, rfl⟩ : ∃ W : World, W = w' := ⟨_, rfl⟩
   cases k1 with
   | zero => exact (none_some hm).elim
   | succ k1 =>
    have hm : m103_l1b K a0 a1 (m103_l1 K a0 a1 k1) y5_1 = some res := hm
    unfold m103_l1b at hm
    obtain ⟨rec1, hrec1⟩ : ∃ f, m103_l1 K a0 a1 k1 = f := ⟨_, rfl⟩
    rw [hrec1] at hm
    refine W_seq ?_
    refine W_seq ?_
    refine W_region ?_
    refine RL_p (x_move (v := .int .i64 y5_1) (by rfl)) ?_
    refine RL_p (x_fieldAddr fo76_0 (by rfl)) ?_
    refine RL_p (x_load (j := 0) (v := .slice A1 a0.Slots.length cp2) sc74 (by rfl) (H.cells (i := 0) (by rfl)) (by rfl)) ?_
    refine RL_p (x_len sl74 (by rfl)) ?_
    refine RL_p (x_lss (by rfl) (by rfl)) ?_
    refine RL_nil ?_
    refine W_cond (by rfl) (fun hb => ?_) (fun hb => ?_)
    ·have hm := cond_t hb hm
     refine W_skip ?_
     refine W_seq ?_
     refine W_block ?_
     refine W_seq ?_
     refine W_draw [.free 0, .take 1, .free 2, .free 3, .take 4, .free 5, .take 6, .free 7, .free 8, .take 9, .free 10] (fun wS => Sep ok w wS [.blk b9 76 [.slice A1 a0.Slots.length cp2], .blk b11 76 [.slice A5 a1.Slots.length cp6]] [RE.rd k_Slot A1 cp2 a0.Slots, RE.rd k_Slot A5 cp6 a1.Slots]) [] [0, 2, 3, 5, 7, 8, 10] mixed0 (by kernel_rfl) (by kernel_rfl) (by kernel_rfl) (by rfl) (by exact H.drew) ?_
     obtain ⟨w15, hW⟩ : ∃ W : World, W = { w14 with drawn := w14.drawn + 1 } := ⟨_, rfl⟩
     rw [← hW]
     have H : Sep ok w w15 [.blk b9 76 [.slice A1 a0.Slots.length cp2], .blk b11 76 [.slice A5 a1.Slots.length cp6]] [RE.rd k_Slot A1 cp2 a0.Slots, RE.rd k_Slot A5 cp6 a1.Slots] := by rw [hW]; exact H.drew
     clear hW
     refine PR_free (by rfl) (by rfl) (by rfl) (by exact wn0 rfl) (fun wS => (x_fieldAddr fo76_0 (by rfl))) ?_
     refine PR_take (by rfl) (by rfl) (by rfl) (by exact wn0 rfl) (fun wS (H : Sep ok w wS [.blk b9 76 [.slice A1 a0.Slots.length cp2], .blk b11 76 [.slice A5 a1.Slots.length cp6]] [RE.rd k_Slot A1 cp2 a0.Slots, RE.rd k_Slot A5 cp6 a1.Slots]) => (x_load (j := 0) (v := .slice A1 a0.Slots.length cp2) sc74 (by rfl) (H.cells (i := 0) (by rfl)) (by rfl))) ?_
     refine PR_free (by rfl) (by rfl) (by rfl) (by exact wn0 rfl) (fun wS => (x_move (v := .int .i64 y5_1) (by rfl))) ?_
     obtain ⟨el16, h17, h18, he19, hm⟩ := idx_some hm
     obtain ⟨g21, o22, hA20⟩ := (H.rd (i := 0) (by rfl)).addr he19
     refine PR_free (by rfl) (by rfl) (by rfl) (by exact wn0 rfl) (fun wS => (x_indexAddr sl74 sz96 (by rfl) (by rfl) hA20 h17 h18)) ?_
     refine PR_take (by rfl) (by rfl) (by rfl) (by exact wn0 rfl) (fun wS (H : Sep ok w wS [.blk b9 76 [.slice A1 a0.Slots.length cp2], .blk b11 76 [.slice A5 a1.Slots.length cp6]] [RE.rd k_Slot A1 cp2 a0.Slots, RE.rd k_Slot A5 cp6 a1.Slots]) => (x_loadA (j := 0) (vs := [.int .i64 el16.Gen, .bool el16.Live]) ag96 (by rfl) (Rd.flatAt (n := 2) (H.rd (i := 0) (by rfl)) hA20 he19) (by rfl) (by rfl))) ?_
     refine PR_free (by rfl) (by rfl) (by rfl) (by exact wn0 rfl) (fun wS => (x_fieldAddr fo76_0 (by rfl))) ?_
     refine PR_take (by rfl) (by rfl) (by rfl) (by exact wn0 rfl) (fun wS (H : Sep ok w wS [.blk b9 76 [.slice A1 a0.Slots.length cp2], .blk b11 76 [.slice A5 a1.Slots.length cp6]] [RE.rd k_Slot A1 cp2 a0.Slots, RE.rd k_Slot A5 cp6 a1.Slots]) => (x_load (j := 0) (v := .slice A5 a1.Slots.length cp6) sc74 (by rfl) (H.cells (i := 1) (by rfl)) (by rfl))) ?_
     refine PR_free (by rfl) (by rfl) (by rfl) (by exact wn0 rfl) (fun wS => (x_move (v := .int .i64 y5_1) (by rfl))) ?_
     obtain ⟨el23, h24, h25, he26, hm⟩ := idx_some hm
     obtain ⟨g28, o29, hA27⟩ := (H.rd (i := 1) (by rfl)).addr he26
     refine PR_free (by rfl) (by rfl) (by rfl) (by exact wn0 rfl) (fun wS => (x_indexAddr sl74 sz96 (by rfl) (by rfl) hA27 h24 h25)) ?_
     refine PR_take (by rfl) (by rfl) (by rfl) (by exact wn0 rfl) (fun wS (H : Sep ok w wS [.blk b9 76 [.slice A1 a0.Slots.length cp2], .blk b11 76 [.slice A5 a1.Slots.length cp6]] [RE.rd k_Slot A1 cp2 a0.Slots, RE.rd k_Slot A5 cp6 a1.Slots]) => (x_loadA (j := 0) (vs := [.int .i64 el23.Gen, .bool el23.Live]) ag96 (by rfl) (Rd.flatAt (n := 2) (H.rd (i := 1) (by rfl)) hA27 he26) (by rfl) (by rfl))) ?_
     refine PR_free (by rfl) (by rfl) (by rfl) (by exact wn0 rfl) (fun wS => (x_neqs ep96 eg96 (by rfl) (by rfl) (b := ((el16.Gen == el23.Gen) && (el16.Live == el23.Live))) (by rfl))) ?_
     refine PR_nil ?_
     refine W_cond (by rfl) (fun hb => ?_) (fun hb => ?_)
     ·have hm := cond_t hb hm
      refine W_seq ?_
      refine W_region ?_
      refine RL_p (x_assign (v := .bool false) (by rfl)) ?_
      refine RL_nil ?_
      refine W_ret ?_
      obtain rfl := Option.some.inj hm
      exact ⟨[.bool false], (.tmp (by rfl) rfl), rfl, H.none_⟩
     ·have hm := cond_f hb hm
      refine W_skip ?_
      refine W_region ?_
      refine RL_p (x_move (v := .int .i64 y5_1) (by rfl)) ?_
      obtain ⟨x30, ex30, qx30, ux30, hm⟩ := ck_some hm
      refine RL_p (x_add (by rfl) (by rfl) ux30) ?_
      refine RL_p (x_assign (v := .int .i64 x30) (by rfl)) ?_
      refine RL_nil ?_
      subst hrec1
      exact ⟨k1, Nat.lt_succ_self k1, x30, hm, ⟨rfl, rfl, rfl, trivial⟩, H⟩
    ·have hm := cond_f hb hm
     refine W_exit ?_
     refine W_seq ?_
     refine W_region ?_
     refine RL_p (x_assign (v := .bool true) (by rfl)) ?_
     refine RL_nil ?_
     refine W_ret ?_
     obtain rfl := Option.some.inj hm
     exact ⟨[.bool true], (.tmp (by rfl) rfl), rfl, H.none_⟩
end Go.Proofs.YtobkigllalbkiaaV.M

/- A plain Lean function that answers as the Go function does (none: not told), and the proof that a call answers so. Written by program. -/
set_option linter.unusedVariables false
namespace Go.Proofs.YtobkigllalbkiaaV.M
open Go.RowKit Go.Proofs.YtobkigllalbkiaaV
def m104_l1b (K : Nat) (a0 : (List S_Handle)) (a1 : (List S_Handle)) (rec1 : Int → Option (Bool)) (y5_1 : Int) : Option (Bool) :=
 (bif (decide (y5_1 < (a0.length : Int))) then (idx a0 y5_1 fun el12 => (idx a1 y5_1 fun el19 => (bif (!((el12.Slot == el19.Slot) && (el12.Gen == el19.Gen))) then some false else (ck (y5_1 + 1) fun x26 => (rec1 x26))))) else some true)
def m104_l1 (K : Nat) (a0 : (List S_Handle)) (a1 : (List S_Handle)) : Nat → Int → Option (Bool)
 | 0 => fun _ => none
 | k + 1 => m104_l1b K a0 a1 (m104_l1 K a0 a1 k)
/-- diorama/dioramaref05.SameHandles -/
def m104 (K : Nat) (a0 : (List S_Handle)) (a1 : (List S_Handle)) : Option (Bool) :=
 (bif ((a0.length : Int) != (a1.length : Int)) then some false else m104_l1 K a0 a1 K 0)
set_option maxRecDepth 100000 in
set_option maxHeartbeats 4000000 in
theorem c104 (ok : Okp) (K : Nat) (w : World) (a0 : (List S_Handle)) (A1 : Option Addr) (cp2 : Nat) (a1 : (List S_Handle)) (A5 : Option Addr) (cp6 : Nat) (hR3 : Rd k_Handle w ok A1 cp2 a0) (hR7 : Rd k_Handle w ok A5 cp6 a1) (res : Bool) (hm : m104 K a0 a1 = some res) :
  Calls Try.prog 104 #[.slice A1 a0.length cp2, .slice A5 a1.length cp6] w (fun e w' => e = .returned (tup [.bool res]) ∧ Sep ok w w' [] []) := by
 refine calls_W (args := [.slice A1 a0.length cp2, .slice A5 a1.length cp6]) Try.func104 rfl Try.ntmps104 Try.results104 rfl fun r hr => ?_
 obtain ⟨r1, rfl⟩ := regen (r := r) [(0, .slice A1 a0.length cp2), (1, .slice A5 a1.length cp6)] ⟨hr 0 _ rfl, hr 1 _ rfl, trivial⟩
 have H : Sep ok w w [] [RE.rd k_Handle A1 cp2 a0, RE.rd k_Handle A5 cp6 a1] := Sep.arg (Sep.arg (Sep.start ok w) (re := RE.rd k_Handle A1 cp2 a0) rfl rfl hR3) (re := RE.rd k_Handle A5 cp6 a1) rfl rfl hR7
 unfold m104 at hm
 refine W_seq ?_
 refine W_region ?_
 refine RL_p (x_assign (v := .bool false) (by rfl)) ?_
 refine RL_nil ?_
 refine W_seq ?_
 refine W_seq ?_
 refine W_region ?_
 refine RL_p (x_move (v := .slice A1 a0.length cp2) (by rfl)) ?_
 refine RL_p (x_len sl87 (by rfl)) ?_
 refine RL_p (x_move (v := .slice A5 a1.length cp6) (by rfl)) ?_
 refine RL_p (x_len sl87 (by rfl)) ?_
 refine RL_p (x_neq (by rfl) (by rfl)) ?_
 refine RL_nil ?_
 refine W_cond (by rfl) (fun hb => ?_) (fun hb => ?_)
 ·have hm := cond_t hb hm
  refine W_seq ?_
  refine W_region ?_
  refine RL_p (x_assign (v := .bool false) (by rfl)) ?_
  refine RL_nil ?_
  refine W_ret ?_
  obtain rfl := Option.some.inj hm
  exact ⟨[.bool false], (.tmp (by rfl) rfl), rfl, H.none_⟩
 ·have hm := cond_f hb hm
  refine W_skip ?_
  refine W_seq ?_
  refine W_seq ?_
  refine W_region ?_
  refine RL_p (x_assign (v := .int .i64 0) (by rfl)) ?_
  refine RL_nil ?_
  refine W_block ?_
  refine W_loop (fun k1 r' w' => ∃ (y5_1 : Int), m104_l1 K a0 a1 k1 y5_1 = some res ∧ Agr [(0, .slice A1 a0.length cp2), (1, .slice A5 a1.length cp6), (5, .int .i64 y5_1)] r' ∧ Sep ok w w' [] [RE.rd k_Handle A1 cp2 a0, RE.rd k_Handle A5 cp6 a1]) K ?_ ?_
  ·exact ⟨0, hm, ⟨rfl, rfl, rfl, trivial⟩, H⟩
  ·rintro k1 r' w' ⟨y5_1, hm, hA, H⟩
   obtain ⟨r9, rfl⟩ := regen _ hA; clear hA
   obtain ⟨w10, rfl⟩ : ∃ W : World, W = w' := ⟨_, rfl⟩
   cases k1 with
   | zero => exact (none_some hm).elim
   | succ k1 =>
    have hm : m104_l1b K a0 a1 (m104_l1 K a0 a1 k1) y5_1 = some res := hm
    unfold m104_l1b at hm
    obtain ⟨rec1, hrec1⟩ : ∃ f, m104_l1 K a0 a1 k1 = f := ⟨_, rfl⟩
    rw [hrec1] at hm
    refine W_seq ?_
    refine W_seq ?_
    refine W_region ?_
    refine RL_p (x_move (v := .int .i64 y5_1) (by rfl)) ?_
    refine RL_p (x_move (v := .slice A1 a0.length cp2) (by rfl)) ?_
    refine RL_p (x_len sl87 (by rfl)) ?_
    refine RL_p (x_lss (by rfl) (by rfl)) ?_
    refine RL_nil ?_
    refine W_cond (by rfl) (fun hb => ?_) (fun hb => ?_)
    ·have hm := cond_t hb hm
     refine W_skip ?_
     refine W_seq ?_
     refine W_block ?_
     refine W_seq ?_
     refine W_draw [.free 0, .free 1, .free 2, .take 3, .free 4, .free 5, .free 6, .take 7, .free 8] (fun wS => Sep ok w wS [] [RE.rd k_Handle A1 cp2 a0, RE.rd k_Handle A5 cp6 a1]) [] [0, 1, 2, 4, 5, 6, 8] mixed0 (by kernel_rfl) (by kernel_rfl) (by kernel_rfl) (by rfl) (by exact H.drew) ?_
     obtain ⟨w11, hW⟩ : ∃ W : World, W = { w10 with drawn := w10.drawn + 1 } := ⟨_, rfl⟩
     rw [← hW]
     have H : Sep ok w w11 [] [RE.rd k_Handle A1 cp2 a0, RE.rd k_Handle A5 cp6 a1] := by rw [hW]; exact H.drew
     clear hW
     refine PR_free (by rfl) (by rfl) (by rfl) (by exact wn0 rfl) (fun wS => (x_move (v := .slice A1 a0.length cp2) (by rfl))) ?_
     refine PR_free (by rfl) (by rfl) (by rfl) (by exact wn0 rfl) (fun wS => (x_move (v := .int .i64 y5_1) (by rfl))) ?_
     obtain ⟨el12, h13, h14, he15, hm⟩ := idx_some hm
     obtain ⟨g17, o18, hA16⟩ := (H.rd (i := 0) (by rfl)).addr he15
     refine PR_free (by rfl) (by rfl) (by rfl) (by exact wn0 rfl) (fun wS => (x_indexAddr sl87 sz81 (by rfl) (by rfl) hA16 h13 h14)) ?_
     refine PR_take (by rfl) (by rfl) (by rfl) (by exact wn0 rfl) (fun wS (H : Sep ok w wS [] [RE.rd k_Handle A1 cp2 a0, RE.rd k_Handle A5 cp6 a1]) => (x_loadA (j := 0) (vs := [.int .i64 el12.Slot, .int .i64 el12.Gen]) ag81 (by rfl) (Rd.flatAt (n := 2) (H.rd (i := 0) (by rfl)) hA16 he15) (by rfl) (by rfl))) ?_
     refine PR_free (by rfl) (by rfl) (by rfl) (by exact wn0 rfl) (fun wS => (x_move (v := .slice A5 a1.length cp6) (by rfl))) ?_
     refine PR_free (by rfl) (by rfl) (by rfl) (by exact wn0 rfl) (fun wS => (x_move (v := .int .i64 y5_1) (by rfl))) ?_
     obtain ⟨el19, h20, h21, he22, hm⟩ := idx_some hm
     obtain ⟨g24, o25, hA23⟩ := (H.rd (i := 1) (by rfl)).addr he22
     refine PR_free (by rfl) (by rfl) (by rfl) (by exact wn0 rfl) (fun wS => (x_indexAddr sl87 sz81 (by rfl) (by rfl) hA23 h20 h21)) ?_
     refine PR_take (by rfl) (by rfl) (by rfl) (by exact wn0 rfl) (fun wS (H : Sep ok w wS [] [RE.rd k_Handle A1 cp2 a0, RE.rd k_Handle A5 cp6 a1]) => (x_loadA (j := 0) (vs := [.int .i64 el19.Slot, .int .i64 el19.Gen]) ag81 (by rfl) (Rd.flatAt (n := 2) (H.rd (i := 1) (by rfl)) hA23 he22) (by rfl) (by rfl))) ?_
     refine PR_free (by rfl) (by rfl) (by rfl) (by exact wn0 rfl) (fun wS => (x_neqs ep81 eg81 (by rfl) (by rfl) (b := ((el12.Slot == el19.Slot) && (el12.Gen == el19.Gen))) (by rfl))) ?_
     refine PR_nil ?_
     refine W_cond (by rfl) (fun hb => ?_) (fun hb => ?_)
     ·have hm := cond_t hb hm
      refine W_seq ?_
      refine W_region ?_
      refine RL_p (x_assign (v := .bool false) (by rfl)) ?_
      refine RL_nil ?_
      refine W_ret ?_
      obtain rfl := Option.some.inj hm
      exact ⟨[.bool false], (.tmp (by rfl) rfl), rfl, H.none_⟩
     ·have hm := cond_f hb hm
      refine W_skip ?_
      refine W_region ?_
      refine RL_p (x_move (v := .int .i64 y5_1) (by rfl)) ?_
      obtain ⟨x26, ex26, qx26, ux26, hm⟩ := ck_some hm
      refine RL_p (x_add (by rfl) (by rfl) ux26) ?_
      refine RL_p (x_assign (v := .int .i64 x26) (by rfl)) ?_
      refine RL_nil ?_
      subst hrec1
      exact ⟨k1, Nat.lt_succ_self k1, x26, hm, ⟨rfl, rfl, rfl, trivial⟩, H⟩
    ·have hm := cond_f hb hm
     refine W_exit ?_
     refine W_seq ?_
     refine W_region ?_
     refine RL_p (x_assign (v := .bool true) (by rfl)) ?_
     refine RL_nil ?_
     refine W_ret ?_
     obtain rfl := Option.some.inj hm
     exact ⟨[.bool true], (.tmp (by rfl) rfl), rfl, H.none_⟩
end Go.Proofs.YtobkigllalbkiaaV.M

/- A plain Lean function that answers as the Go function does (none: not told), and the proof that a call answers so. Written by program. -/
set_option linter.unusedVariables false
namespace Go.Proofs.YtobkigllalbkiaaV.M
open Go.RowKit Go.Proofs.YtobkigllalbkiaaV
def m54_l1b (K : Nat) (a0 : S_Graph) (a1 : S_Graph) (rec1 : Int → Option (Bool)) (y5_1 : Int) : Option (Bool) :=
 (bif (decide (y5_1 < (a0.Kids.length : Int))) then (idx a0.Kids y5_1 fun el29 => (idx a1.Kids y5_1 fun el46 => ((m104 K el29 el46).bind fun v65 => (bif (!v65) then some false else (ck (y5_1 + 1) fun x67 => (rec1 x67)))))) else some true)
def m54_l1 (K : Nat) (a0 : S_Graph) (a1 : S_Graph) : Nat → Int → Option (Bool)
 | 0 => fun _ => none
 | k + 1 => m54_l1b K a0 a1 (m54_l1 K a0 a1 k)
/-- diorama/dioramaref06.Same -/
def m54 (K : Nat) (a0 : S_Graph) (a1 : S_Graph) : Option (Bool) :=
 ((m103 K a0.Arena a1.Arena).bind fun v22 => ((bif (!v22) then some true else some ((a0.Kids.length : Int) != (a1.Kids.length : Int))).bind fun b24 => (bif b24 then some false else m54_l1 K a0 a1 K 0)))
set_option maxRecDepth 100000 in
set_option maxHeartbeats 4000000 in
theorem c54 (ok : Okp) (K : Nat) (w : World) (a0 : S_Graph) (A1 : Option Addr) (cp2 : Nat) (A5 : Option Addr) (cp6 : Nat) (a1 : S_Graph) (A9 : Option Addr) (cp10 : Nat) (A13 : Option Addr) (cp14 : Nat) (hR3 : Rd k_Slot w ok A1 cp2 a0.Arena.Slots) (hR7 : Rd (Kd.slice k_Handle) w ok A5 cp6 a0.Kids) (hR11 : Rd k_Slot w ok A9 cp10 a1.Arena.Slots) (hR15 : Rd (Kd.slice k_Handle) w ok A13 cp14 a1.Kids) (res : Bool) (hm : m54 K a0 a1 = some res) :
  Calls Try.prog 54 #[.agg #[.slice A1 a0.Arena.Slots.length cp2, .slice A5 a0.Kids.length cp6], .agg #[.slice A9 a1.Arena.Slots.length cp10, .slice A13 a1.Kids.length cp14]] w (fun e w' => e = .returned (tup [.bool res]) ∧ Sep ok w w' [] []) := by
 refine calls_W (args := [.agg #[.slice A1 a0.Arena.Slots.length cp2, .slice A5 a0.Kids.length cp6], .agg #[.slice A9 a1.Arena.Slots.length cp10, .slice A13 a1.Kids.length cp14]]) Try.func54 rfl Try.ntmps54 Try.results54 rfl fun r hr => ?_
 obtain ⟨r1, rfl⟩ := regen (r := r) [(0, .agg #[.slice A1 a0.Arena.Slots.length cp2, .slice A5 a0.Kids.length cp6]), (1, .agg #[.slice A9 a1.Arena.Slots.length cp10, .slice A13 a1.Kids.length cp14])] ⟨hr 0 _ rfl, hr 1 _ rfl, trivial⟩
 have H : Sep ok w w [] [RDS A1 cp2 a0, RDK A5 cp6 a0, RDS A9 cp10 a1, RDK A13 cp14 a1] := Sep.arg (Sep.arg (Sep.arg (Sep.arg (Sep.start ok w) (re := RE.rd k_Slot A1 cp2 a0.Arena.Slots) rfl rfl hR3) (re := RE.rd (Kd.slice k_Handle) A5 cp6 a0.Kids) rfl rfl hR7) (re := RE.rd k_Slot A9 cp10 a1.Arena.Slots) rfl rfl hR11) (re := RE.rd (Kd.slice k_Handle) A13 cp14 a1.Kids) rfl rfl hR15
 unfold m54 at hm
 refine W_seq ?_
 refine W_region ?_
 refine RL_cons (O_box (by exact wn0 rfl) (by rfl) (by rfl) (by rfl) H (fun w18 b17 (H : Sep ok w w18 [GRB b17 A1 cp2 A5 cp6 a0] [RDS A1 cp2 a0, RDK A5 cp6 a0, RDS A9 cp10 a1, RDK A13 cp14 a1]) => ?_))
 refine RL_cons (O_box (by exact wn0 rfl) (by rfl) (by rfl) (by rfl) H (fun w20 b19 (H : Sep ok w w20 [GRB b17 A1 cp2 A5 cp6 a0, GRB b19 A9 cp10 A13 cp14 a1] [RDS A1 cp2 a0, RDK A5 cp6 a0, RDS A9 cp10 a1, RDK A13 cp14 a1]) => ?_))
 refine RL_p (x_assign (v := .bool false) (by rfl)) ?_
 refine RL_nil ?_
 refine W_seq ?_
 refine W_seq ?_
 refine W_region ?_
 refine RL_p (x_fieldAddr fo79_0 (by rfl)) ?_
 refine RL_p (x_loadA (j := 0) (vs := [.slice A1 a0.Arena.Slots.length cp2]) ag76 (by rfl) (H.cells (i := 0) (by rfl)) (by rfl) (by rfl)) ?_
 refine RL_p (x_fieldAddr fo79_0 (by rfl)) ?_
 refine RL_p (x_loadA (j := 0) (vs := [.slice A9 a1.Arena.Slots.length cp10]) ag76 (by rfl) (H.cells (i := 1) (by rfl)) (by rfl) (by rfl)) ?_
 obtain ⟨v22, hv21, hm⟩ := bind_some hm
 refine RL_cons (O_call (by exact wn0 rfl) (by rfl) (by rfl) (x_callL (by rfl) (args := [.agg #[.slice A1 a0.Arena.Slots.length cp2], .agg #[.slice A9 a1.Arena.Slots.length cp10]]) (by rfl) (cf103 _ _)) (c103 okT K w20 a0.Arena A1 cp2 a1.Arena A9 cp10 (H.rd (i := 0) (by rfl)).any (H.rd (i := 2) (by rfl)).any v22 hv21) ?_)
 rintro e w23 ⟨rfl, H2⟩
 have H : Sep ok w w23 [GRB b17 A1 cp2 A5 cp6 a0, GRB b19 A9 cp10 A13 cp14 a1] [RDS A1 cp2 a0, RDK A5 cp6 a0, RDS A9 cp10 a1, RDK A13 cp14 a1] := H.below H2.base
 clear H2
 refine ⟨_, rfl, ?_⟩
 show RL _ _ _ _ _ _ _
 refine RL_p (x_not (by rfl)) ?_
 refine RL_p (x_move (v := .bool (!v22)) (by rfl)) ?_
 obtain ⟨b24, hmS, hm⟩ := bind_some hm
 refine RL_cut 8 (fun r' w' => Agr [(20, .bool b24), (2, .pointer (some ⟨b17, 0, none⟩)), (3, .pointer (some ⟨b19, 0, none⟩))] r' ∧ Sep ok w w' [GRB b17 A1 cp2 A5 cp6 a0, GRB b19 A9 cp10 A13 cp14 a1] [RDS A1 cp2 a0, RDK A5 cp6 a0, RDS A9 cp10 a1, RDK A13 cp14 a1]) ?_ ?_
 ·cases hbS : (!v22)
  ·have hm := cond_f hbS hmS
   refine RL_pure (by exact wn1 rfl rfl rfl rfl) (by rfl) (by rfl) (x_fieldAddr fo79_1 (by rfl)) ?_
   refine RL_pure (by exact wn1 rfl rfl rfl rfl) (by rfl) (by rfl) (x_load (j := 1) (v := .slice A5 a0.Kids.length cp6) sc77 (by rfl) (H.cells (i := 0) (by rfl)) (by rfl)) ?_
   refine RL_pure (by exact wn1 rfl rfl rfl rfl) (by rfl) (by rfl) (x_len sl77 (by rfl)) ?_
   refine RL_pure (by exact wn1 rfl rfl rfl rfl) (by rfl) (by rfl) (x_fieldAddr fo79_1 (by rfl)) ?_
   refine RL_pure (by exact wn1 rfl rfl rfl rfl) (by rfl) (by rfl) (x_load (j := 1) (v := .slice A13 a1.Kids.length cp14) sc77 (by rfl) (H.cells (i := 1) (by rfl)) (by rfl)) ?_
   refine RL_pure (by exact wn1 rfl rfl rfl rfl) (by rfl) (by rfl) (x_len sl77 (by rfl)) ?_
   refine RL_pure (by exact wn1 rfl rfl rfl rfl) (by rfl) (by rfl) (x_neq (by rfl) (by rfl)) ?_
   refine RL_p (x_pick_f (v := .bool ((a0.Kids.length : Int) != (a1.Kids.length : Int))) (by rfl) (by rfl)) ?_
   refine RL_nil ?_
   exact ⟨⟨congrArg Value.bool (Option.some.inj hm), rfl, rfl, trivial⟩, H⟩
  ·have hm := cond_t hbS hmS
   refine RL_cons (OpR_off (by exact wn2 rfl rfl rfl rfl) (by rfl) (by rfl) ?_)
   refine RL_cons (OpR_off (by exact wn2 rfl rfl rfl rfl) (by rfl) (by rfl) ?_)
   refine RL_cons (OpR_off (by exact wn2 rfl rfl rfl rfl) (by rfl) (by rfl) ?_)
   refine RL_cons (OpR_off (by exact wn2 rfl rfl rfl rfl) (by rfl) (by rfl) ?_)
   refine RL_cons (OpR_off (by exact wn2 rfl rfl rfl rfl) (by rfl) (by rfl) ?_)
   refine RL_cons (OpR_off (by exact wn2 rfl rfl rfl rfl) (by rfl) (by rfl) ?_)
   refine RL_cons (OpR_off (by exact wn2 rfl rfl rfl rfl) (by rfl) (by rfl) ?_)
   refine RL_p (x_pick_t (v := .bool true) (by rfl) (by rfl)) ?_
   refine RL_nil ?_
   exact ⟨⟨congrArg Value.bool (Option.some.inj hm), rfl, rfl, trivial⟩, H⟩
 ·rintro r' w' ⟨hA, H⟩
  obtain ⟨r25, rfl⟩ := regen _ hA; clear hA
  obtain ⟨w26, rfl⟩ : ∃ W : World, W = w' := ⟨_, rfl⟩
  show RL _ _ _ _ _ _ _
  refine RL_nil ?_
  refine W_cond (by rfl) (fun hb => ?_) (fun hb => ?_)
  ·have hm := cond_t hb hm
   refine W_seq ?_
   refine W_region ?_
   refine RL_p (x_assign (v := .bool false) (by rfl)) ?_
   refine RL_nil ?_
   refine W_ret ?_
   obtain rfl := Option.some.inj hm
   exact ⟨[.bool false], (.tmp (by rfl) rfl), rfl, H.none_⟩
  ·have hm := cond_f hb hm
   refine W_skip ?_
   refine W_seq ?_
   refine W_seq ?_
   refine W_region ?_
   refine RL_p (x_assign (v := .int .i64 0) (by rfl)) ?_
   refine RL_nil ?_
   refine W_block ?_
   refine W_loop (fun k1 r' w' => ∃ (y5_1 : Int), m54_l1 K a0 a1 k1 y5_1 = some res ∧ Agr [(2, .pointer (some ⟨b17, 0, none⟩)), (3, .pointer (some ⟨b19, 0, none⟩)), (5, .int .i64 y5_1)] r' ∧ Sep ok w w' [GRB b17 A1 cp2 A5 cp6 a0, GRB b19 A9 cp10 A13 cp14 a1] [RDS A1 cp2 a0, RDK A5 cp6 a0, RDS A9 cp10 a1, RDK A13 cp14 a1]) K ?_ ?_
   ·exact ⟨0, hm, ⟨rfl, rfl, rfl, trivial⟩, H⟩
   ·rintro k1 r' w' ⟨y5_1, hm, hA, H⟩
    obtain ⟨r27, rfl⟩ := regen _ hA; clear hA
    obtain ⟨w28, rfl⟩ : ∃ W : World, W = w' := ⟨_, rfl⟩
    cases k1 with
    | zero => exact (none_some hm).elim
    | succ k1 =>
     have hm : m54_l1b K a0 a1 (m54_l1 K a0 a1 k1) y5_1 = some res := hm
     unfold m54_l1b at hm
     obtain ⟨rec1, hrec1⟩ : ∃ f, m54_l1 K a0 a1 k1 = f := ⟨_, rfl⟩
     rw [hrec1] at hm
     refine W_seq ?_
     refine W_seq ?_
     refine W_region ?_
     refine RL_p (x_move (v := .int .i64 y5_1) (by rfl)) ?_
     refine RL_p (x_fieldAddr fo79_1 (by rfl)) ?_
     refine RL_p (x_load (j := 1) (v := .slice A5 a0.Kids.length cp6) sc77 (by rfl) (H.cells (i := 0) (by rfl)) (by rfl)) ?_
     refine RL_p (x_len sl77 (by rfl)) ?_
     refine RL_p (x_lss (by rfl) (by rfl)) ?_
     refine RL_nil ?_
     refine W_cond (by rfl) (fun hb => ?_) (fun hb => ?_)
     ·have hm := cond_t hb hm
      refine W_skip ?_
      refine W_seq ?_
      refine W_block ?_
      refine W_seq ?_
      obtain ⟨el29, h30, h31, he32, hm⟩ := idx_some hm
      obtain ⟨g34, o35, hA33⟩ := (H.rd (i := 1) (by rfl)).addr he32
      obtain ⟨cs36, hk37, hat38, hg_cs36⟩ := (H.rd (i := 1) (by rfl)).openAt hA33 he32
      obtain ⟨A41, cp42, rfl, hR44⟩ := hk37
      have H : Sep ok w w28 [GRB b17 A1 cp2 A5 cp6 a0, GRB b19 A9 cp10 A13 cp14 a1] [RDS A1 cp2 a0, RDK A5 cp6 a0, RDS A9 cp10 a1, RDK A13 cp14 a1, RE.cells g34 (o35 + (y5_1).toNat * 1) [.slice A41 el29.length cp42]] := Sep.also H (re := RE.cells g34 (o35 + (y5_1).toNat * 1) [.slice A41 el29.length cp42]) ⟨hg_cs36, hat38⟩
      have H : Sep ok w w28 [GRB b17 A1 cp2 A5 cp6 a0, GRB b19 A9 cp10 A13 cp14 a1] [RDS A1 cp2 a0, RDK A5 cp6 a0, RDS A9 cp10 a1, RDK A13 cp14 a1, RE.cells g34 (o35 + (y5_1).toNat * 1) [.slice A41 el29.length cp42], RE.rd k_Handle A41 cp42 el29] := Sep.also H (re := RE.rd k_Handle A41 cp42 el29) hR44
      obtain ⟨el46, h47, h48, he49, hm⟩ := idx_some hm
      obtain ⟨g51, o52, hA50⟩ := (H.rd (i := 3) (by rfl)).addr he49
      obtain ⟨cs53, hk54, hat55, hg_cs53⟩ := (H.rd (i := 3) (by rfl)).openAt hA50 he49
      obtain ⟨A58, cp59, rfl, hR61⟩ := hk54
      have H : Sep ok w w28 [GRB b17 A1 cp2 A5 cp6 a0, GRB b19 A9 cp10 A13 cp14 a1] [RDS A1 cp2 a0, RDK A5 cp6 a0, RDS A9 cp10 a1, RDK A13 cp14 a1, RE.cells g34 (o35 + (y5_1).toNat * 1) [.slice A41 el29.length cp42], RE.rd k_Handle A41 cp42 el29, RE.cells g51 (o52 + (y5_1).toNat * 1) [.slice A58 el46.length cp59]] := Sep.also H (re := RE.cells g51 (o52 + (y5_1).toNat * 1) [.slice A58 el46.length cp59]) ⟨hg_cs53, hat55⟩
      have H : Sep ok w w28 [GRB b17 A1 cp2 A5 cp6 a0, GRB b19 A9 cp10 A13 cp14 a1] [RDS A1 cp2 a0, RDK A5 cp6 a0, RDS A9 cp10 a1, RDK A13 cp14 a1, RE.cells g34 (o35 + (y5_1).toNat * 1) [.slice A41 el29.length cp42], RE.rd k_Handle A41 cp42 el29, RE.cells g51 (o52 + (y5_1).toNat * 1) [.slice A58 el46.length cp59], RE.rd k_Handle A58 cp59 el46] := Sep.also H (re := RE.rd k_Handle A58 cp59 el46) hR61
      refine W_draw [.free 0, .take 1, .free 2, .free 3, .take 4, .free 5, .take 6, .free 7, .free 8, .take 9, .run 10, .free 11] (fun wS => Sep ok w wS [GRB b17 A1 cp2 A5 cp6 a0, GRB b19 A9 cp10 A13 cp14 a1] [RDS A1 cp2 a0, RDK A5 cp6 a0, RDS A9 cp10 a1, RDK A13 cp14 a1, RE.cells g34 (o35 + (y5_1).toNat * 1) [.slice A41 el29.length cp42], RE.rd k_Handle A41 cp42 el29, RE.cells g51 (o52 + (y5_1).toNat * 1) [.slice A58 el46.length cp59], RE.rd k_Handle A58 cp59 el46]) [] [0, 2, 3, 5, 7, 8, 11] mixed0 (by kernel_rfl) (by kernel_rfl) (by kernel_rfl) (by rfl) (by exact H.drew) ?_
      obtain ⟨w63, hW⟩ : ∃ W : World, W = { w28 with drawn := w28.drawn + 1 } := ⟨_, rfl⟩
      rw [← hW]
      have H : Sep ok w w63 [GRB b17 A1 cp2 A5 cp6 a0, GRB b19 A9 cp10 A13 cp14 a1] [RDS A1 cp2 a0, RDK A5 cp6 a0, RDS A9 cp10 a1, RDK A13 cp14 a1, RE.cells g34 (o35 + (y5_1).toNat * 1) [.slice A41 el29.length cp42], RE.rd k_Handle A41 cp42 el29, RE.cells g51 (o52 + (y5_1).toNat * 1) [.slice A58 el46.length cp59], RE.rd k_Handle A58 cp59 el46] := by rw [hW]; exact H.drew
      clear hW
      refine PR_free (by rfl) (by rfl) (by rfl) (by exact wn0 rfl) (fun wS => (x_fieldAddr fo79_1 (by rfl))) ?_
      refine PR_take (by rfl) (by rfl) (by rfl) (by exact wn0 rfl) (fun wS (H : Sep ok w wS [GRB b17 A1 cp2 A5 cp6 a0, GRB b19 A9 cp10 A13 cp14 a1] [RDS A1 cp2 a0, RDK A5 cp6 a0, RDS A9 cp10 a1, RDK A13 cp14 a1, RE.cells g34 (o35 + (y5_1).toNat * 1) [.slice A41 el29.length cp42], RE.rd k_Handle A41 cp42 el29, RE.cells g51 (o52 + (y5_1).toNat * 1) [.slice A58 el46.length cp59], RE.rd k_Handle A58 cp59 el46]) => (x_load (j := 1) (v := .slice A5 a0.Kids.length cp6) sc77 (by rfl) (H.cells (i := 0) (by rfl)) (by rfl))) ?_
      refine PR_free (by rfl) (by rfl) (by rfl) (by exact wn0 rfl) (fun wS => (x_move (v := .int .i64 y5_1) (by rfl))) ?_
      refine PR_free (by rfl) (by rfl) (by rfl) (by exact wn0 rfl) (fun wS => (x_indexAddr sl77 sz87 (by rfl) (by rfl) hA33 h30 h31)) ?_
      refine PR_take (by rfl) (by rfl) (by rfl) (by exact wn0 rfl) (fun wS (H : Sep ok w wS [GRB b17 A1 cp2 A5 cp6 a0, GRB b19 A9 cp10 A13 cp14 a1] [RDS A1 cp2 a0, RDK A5 cp6 a0, RDS A9 cp10 a1, RDK A13 cp14 a1, RE.cells g34 (o35 + (y5_1).toNat * 1) [.slice A41 el29.length cp42], RE.rd k_Handle A41 cp42 el29, RE.cells g51 (o52 + (y5_1).toNat * 1) [.slice A58 el46.length cp59], RE.rd k_Handle A58 cp59 el46]) => (x_load (j := 0) (v := .slice A41 el29.length cp42) sc87 (by rfl) (H.cellsR (i := 4) (by rfl)) (by rfl))) ?_
      refine PR_free (by rfl) (by rfl) (by rfl) (by exact wn0 rfl) (fun wS => (x_fieldAddr fo79_1 (by rfl))) ?_
      refine PR_take (by rfl) (by rfl) (by rfl) (by exact wn0 rfl) (fun wS (H : Sep ok w wS [GRB b17 A1 cp2 A5 cp6 a0, GRB b19 A9 cp10 A13 cp14 a1] [RDS A1 cp2 a0, RDK A5 cp6 a0, RDS A9 cp10 a1, RDK A13 cp14 a1, RE.cells g34 (o35 + (y5_1).toNat * 1) [.slice A41 el29.length cp42], RE.rd k_Handle A41 cp42 el29, RE.cells g51 (o52 + (y5_1).toNat * 1) [.slice A58 el46.length cp59], RE.rd k_Handle A58 cp59 el46]) => (x_load (j := 1) (v := .slice A13 a1.Kids.length cp14) sc77 (by rfl) (H.cells (i := 1) (by rfl)) (by rfl))) ?_
      refine PR_free (by rfl) (by rfl) (by rfl) (by exact wn0 rfl) (fun wS => (x_move (v := .int .i64 y5_1) (by rfl))) ?_
      refine PR_free (by rfl) (by rfl) (by rfl) (by exact wn0 rfl) (fun wS => (x_indexAddr sl77 sz87 (by rfl) (by rfl) hA50 h47 h48)) ?_
      refine PR_take (by rfl) (by rfl) (by rfl) (by exact wn0 rfl) (fun wS (H : Sep ok w wS [GRB b17 A1 cp2 A5 cp6 a0, GRB b19 A9 cp10 A13 cp14 a1] [RDS A1 cp2 a0, RDK A5 cp6 a0, RDS A9 cp10 a1, RDK A13 cp14 a1, RE.cells g34 (o35 + (y5_1).toNat * 1) [.slice A41 el29.length cp42], RE.rd k_Handle A41 cp42 el29, RE.cells g51 (o52 + (y5_1).toNat * 1) [.slice A58 el46.length cp59], RE.rd k_Handle A58 cp59 el46]) => (x_load (j := 0) (v := .slice A58 el46.length cp59) sc87 (by rfl) (H.cellsR (i := 6) (by rfl)) (by rfl))) ?_
      obtain ⟨v65, hv64, hm⟩ := bind_some hm
      refine PR_run (by rfl) (O_call (by exact wn0 rfl) (by rfl) (by rfl) (x_callL (by rfl) (args := [.slice A41 el29.length cp42, .slice A58 el46.length cp59]) (by rfl) (cf104 _ _)) (c104 okT K w63 el29 A41 cp42 el46 A58 cp59 (H.rd (i := 5) (by rfl)).any (H.rd (i := 7) (by rfl)).any v65 hv64) ?_)
      rintro e w66 ⟨rfl, H2⟩
      have H : Sep ok w w66 [GRB b17 A1 cp2 A5 cp6 a0, GRB b19 A9 cp10 A13 cp14 a1] [RDS A1 cp2 a0, RDK A5 cp6 a0, RDS A9 cp10 a1, RDK A13 cp14 a1, RE.cells g34 (o35 + (y5_1).toNat * 1) [.slice A41 el29.length cp42], RE.rd k_Handle A41 cp42 el29, RE.cells g51 (o52 + (y5_1).toNat * 1) [.slice A58 el46.length cp59], RE.rd k_Handle A58 cp59 el46] := H.below H2.base
      clear H2
      refine ⟨_, rfl, H, ?_⟩
      show PR _ _ _ _ _ _ _ _
      refine PR_free (by rfl) (by rfl) (by rfl) (by exact wn0 rfl) (fun wS => (x_not (by rfl))) ?_
      refine PR_nil ?_
      refine W_cond (by rfl) (fun hb => ?_) (fun hb => ?_)
      ·have hm := cond_t hb hm
       refine W_seq ?_
       refine W_region ?_
       refine RL_p (x_assign (v := .bool false) (by rfl)) ?_
       refine RL_nil ?_
       refine W_ret ?_
       obtain rfl := Option.some.inj hm
       exact ⟨[.bool false], (.tmp (by rfl) rfl), rfl, H.none_⟩
      ·have hm := cond_f hb hm
       refine W_skip ?_
       refine W_region ?_
       refine RL_p (x_move (v := .int .i64 y5_1) (by rfl)) ?_
       obtain ⟨x67, ex67, qx67, ux67, hm⟩ := ck_some hm
       refine RL_p (x_add (by rfl) (by rfl) ux67) ?_
       refine RL_p (x_assign (v := .int .i64 x67) (by rfl)) ?_
       refine RL_nil ?_
       subst hrec1
       exact ⟨k1, Nat.lt_succ_self k1, x67, hm, ⟨rfl, rfl, rfl, trivial⟩, (H).pick [0, 1, 2, 3]⟩
     ·have hm := cond_f hb hm
      refine W_exit ?_
      refine W_seq ?_
      refine W_region ?_
      refine RL_p (x_assign (v := .bool true) (by rfl)) ?_
      refine RL_nil ?_
      refine W_ret ?_
      obtain rfl := Option.some.inj hm
      exact ⟨[.bool true], (.tmp (by rfl) rfl), rfl, H.none_⟩
end Go.Proofs.YtobkigllalbkiaaV.M

/- A plain Lean function that answers as the Go function does (none: not told), and the proof that a call answers so. Written by program. -/
set_option linter.unusedVariables false
namespace Go.Proofs.YtobkigllalbkiaaV.M
open Go.RowKit Go.Proofs.YtobkigllalbkiaaV
/-- diorama/dioramaref06.Check -/
def m55 (K : Nat) (a0 : S_Graph) : Option (Int) :=
 ((m96 K a0).bind fun v12 => (bif (!v12) then some 8 else some 0))
set_option maxRecDepth 100000 in
set_option maxHeartbeats 4000000 in
theorem c55 (ok : Okp) (K : Nat) (w : World) (a0 : S_Graph) (A1 : Option Addr) (cp2 : Nat) (A5 : Option Addr) (cp6 : Nat) (hR3 : Rd k_Slot w ok A1 cp2 a0.Arena.Slots) (hR7 : Rd (Kd.slice k_Handle) w ok A5 cp6 a0.Kids) (res : Int) (hm : m55 K a0 = some res) :
  Calls Try.prog 55 #[.agg #[.slice A1 a0.Arena.Slots.length cp2, .slice A5 a0.Kids.length cp6]] w (fun e w' => e = .returned (tup [.int .i64 res]) ∧ Sep ok w w' [] []) := by
 refine calls_W (args := [.agg #[.slice A1 a0.Arena.Slots.length cp2, .slice A5 a0.Kids.length cp6]]) Try.func55 rfl Try.ntmps55 Try.results55 rfl fun r hr => ?_
 obtain ⟨r1, rfl⟩ := regen (r := r) [(0, .agg #[.slice A1 a0.Arena.Slots.length cp2, .slice A5 a0.Kids.length cp6])] ⟨hr 0 _ rfl, trivial⟩
 have H : Sep ok w w [] [RDS A1 cp2 a0, RDK A5 cp6 a0] := Sep.arg (Sep.arg (Sep.start ok w) (re := RE.rd k_Slot A1 cp2 a0.Arena.Slots) rfl rfl hR3) (re := RE.rd (Kd.slice k_Handle) A5 cp6 a0.Kids) rfl rfl hR7
 unfold m55 at hm
 refine W_seq ?_
 refine W_region ?_
 refine RL_cons (O_box (by exact wn0 rfl) (by rfl) (by rfl) (by rfl) H (fun w10 b9 (H : Sep ok w w10 [GRB b9 A1 cp2 A5 cp6 a0] [RDS A1 cp2 a0, RDK A5 cp6 a0]) => ?_))
 refine RL_p (x_assign (v := .int .i64 0) (by rfl)) ?_
 refine RL_nil ?_
 refine W_seq ?_
 refine W_seq ?_
 refine W_region ?_
 refine RL_p (x_loadA (j := 0) (vs := [.slice A1 a0.Arena.Slots.length cp2, .slice A5 a0.Kids.length cp6]) ag79 (by rfl) (H.cells (i := 0) (by rfl)) (by rfl) (by rfl)) ?_
 obtain ⟨v12, hv11, hm⟩ := bind_some hm
 refine RL_cons (O_call (by exact wn0 rfl) (by rfl) (by rfl) (x_callL (by rfl) (args := [.agg #[.slice A1 a0.Arena.Slots.length cp2, .slice A5 a0.Kids.length cp6]]) (by rfl) (cf96 _ _)) (c96 okT K w10 a0 A1 cp2 A5 cp6 (H.rd (i := 0) (by rfl)).any (H.rd (i := 1) (by rfl)).any v12 hv11) ?_)
 rintro e w13 ⟨rfl, H2⟩
 have H : Sep ok w w13 [GRB b9 A1 cp2 A5 cp6 a0] [RDS A1 cp2 a0, RDK A5 cp6 a0] := H.below H2.base
 clear H2
 refine ⟨_, rfl, ?_⟩
 show RL _ _ _ _ _ _ _
 refine RL_p (x_not (by rfl)) ?_
 refine RL_nil ?_
 refine W_cond (by rfl) (fun hb => ?_) (fun hb => ?_)
 ·have hm := cond_t hb hm
  refine W_seq ?_
  refine W_region ?_
  refine RL_p (x_assign (v := .int .i64 8) (by rfl)) ?_
  refine RL_nil ?_
  refine W_ret ?_
  obtain rfl := Option.some.inj hm
  exact ⟨[.int .i64 8], (.tmp (by rfl) rfl), rfl, H.none_⟩
 ·have hm := cond_f hb hm
  refine W_skip ?_
  refine W_seq ?_
  refine W_region ?_
  refine RL_p (x_assign (v := .int .i64 0) (by rfl)) ?_
  refine RL_nil ?_
  refine W_ret ?_
  obtain rfl := Option.some.inj hm
  exact ⟨[.int .i64 0], (.tmp (by rfl) rfl), rfl, H.none_⟩
end Go.Proofs.YtobkigllalbkiaaV.M

/- A plain Lean function that answers as the Go function does (none: not told), and the proof that a call answers so. Written by program. -/
set_option linter.unusedVariables false
namespace Go.Proofs.YtobkigllalbkiaaV.M
open Go.RowKit Go.Proofs.YtobkigllalbkiaaV
def m130_l1b (K : Nat) (a0 : (List S_Slot)) (a1 : (List S_Slot)) (rec1 : Int → Option (Bool)) (y13_1 : Int) : Option (Bool) :=
 (bif (decide (y13_1 < (a0.length : Int))) then (idx a0 y13_1 fun el12 => (idx a1 y13_1 fun el19 => (bif (!((el12.Gen == el19.Gen) && (el12.Live == el19.Live))) then some false else (ck (y13_1 + 1) fun x26 => (rec1 x26))))) else some true)
def m130_l1 (K : Nat) (a0 : (List S_Slot)) (a1 : (List S_Slot)) : Nat → Int → Option (Bool)
 | 0 => fun _ => none
 | k + 1 => m130_l1b K a0 a1 (m130_l1 K a0 a1 k)
/-- slices.Equal(()diorama/api.Slot,diorama/api.Slot) -/
def m130 (K : Nat) (a0 : (List S_Slot)) (a1 : (List S_Slot)) : Option (Bool) :=
 (bif ((a0.length : Int) != (a1.length : Int)) then some false else m130_l1 K a0 a1 K 0)
set_option maxRecDepth 100000 in
set_option maxHeartbeats 4000000 in
theorem c130 (ok : Okp) (K : Nat) (w : World) (a0 : (List S_Slot)) (A1 : Option Addr) (cp2 : Nat) (a1 : (List S_Slot)) (A5 : Option Addr) (cp6 : Nat) (hR3 : Rd k_Slot w ok A1 cp2 a0) (hR7 : Rd k_Slot w ok A5 cp6 a1) (res : Bool) (hm : m130 K a0 a1 = some res) :
  Calls Try.prog 130 #[.slice A1 a0.length cp2, .slice A5 a1.length cp6] w (fun e w' => e = .returned (tup [.bool res]) ∧ Sep ok w w' [] []) := by
 refine calls_W (args := [.slice A1 a0.length cp2, .slice A5 a1.length cp6]) Try.func130 rfl Try.ntmps130 Try.results130 rfl fun r hr => ?_
 obtain ⟨r1, rfl⟩ := regen (r := r) [(0, .slice A1 a0.length cp2), (1, .slice A5 a1.length cp6)] ⟨hr 0 _ rfl, hr 1 _ rfl, trivial⟩
 have H : Sep ok w w [] [RE.rd k_Slot A1 cp2 a0, RE.rd k_Slot A5 cp6 a1] := Sep.arg (Sep.arg (Sep.start ok w) (re := RE.rd k_Slot A1 cp2 a0) rfl rfl hR3) (re := RE.rd k_Slot A5 cp6 a1) rfl rfl hR7
 unfold m130 at hm
 refine W_seq ?_
 refine W_region ?_
 refine RL_p (x_assign (v := .bool false) (by rfl)) ?_
 refine RL_nil ?_
 refine W_seq ?_
 refine W_seq ?_
 refine W_region ?_
 refine RL_p (x_move (v := .slice A1 a0.length cp2) (by rfl)) ?_
 refine RL_p (x_len sl74 (by rfl)) ?_
 refine RL_p (x_move (v := .slice A5 a1.length cp6) (by rfl)) ?_
 refine RL_p (x_len sl74 (by rfl)) ?_
 refine RL_p (x_neq (by rfl) (by rfl)) ?_
 refine RL_nil ?_
 refine W_cond (by rfl) (fun hb => ?_) (fun hb => ?_)
 ·have hm := cond_t hb hm
  refine W_seq ?_
  refine W_region ?_
  refine RL_p (x_assign (v := .bool false) (by rfl)) ?_
  refine RL_nil ?_
  refine W_ret ?_
  obtain rfl := Option.some.inj hm
  exact ⟨[.bool false], (.tmp (by rfl) rfl), rfl, H.none_⟩
 ·have hm := cond_f hb hm
  refine W_skip ?_
  refine W_seq ?_
  refine W_seq ?_
  refine W_region ?_
  refine RL_p (x_move (v := .slice A1 a0.length cp2) (by rfl)) ?_
  refine RL_p (x_len sl74 (by rfl)) ?_
  refine RL_p (x_move (v := .int .i64 0) (by rfl)) ?_
  refine RL_nil ?_
  refine W_block ?_
  refine W_loop (fun k1 r' w' => ∃ (y13_1 : Int), m130_l1 K a0 a1 k1 y13_1 = some res ∧ Agr [(0, .slice A1 a0.length cp2), (1, .slice A5 a1.length cp6), (12, .int .i64 (a0.length : Int)), (13, .int .i64 y13_1)] r' ∧ Sep ok w w' [] [RE.rd k_Slot A1 cp2 a0, RE.rd k_Slot A5 cp6 a1]) K ?_ ?_
  ·exact ⟨0, hm, ⟨rfl, rfl, rfl, rfl, trivial⟩, H⟩
  ·rintro k1 r' w' ⟨y13_1, hm, hA, H⟩
   obtain ⟨r9, rfl⟩ := regen _ hA; clear hA
   obtain ⟨w10, rfl⟩ : ∃ W : World, W = w' := ⟨_, rfl⟩
   cases k1 with
   | zero => exact (none_some hm).elim
   | succ k1 =>
    have hm : m130_l1b K a0 a1 (m130_l1 K a0 a1 k1) y13_1 = some res := hm
    unfold m130_l1b at hm
    obtain ⟨rec1, hrec1⟩ : ∃ f, m130_l1 K a0 a1 k1 = f := ⟨_, rfl⟩
    rw [hrec1] at hm
    refine W_seq ?_
    refine W_region ?_
    refine RL_p (x_lss (by rfl) (by rfl)) ?_
    refine RL_nil ?_
    refine W_seq ?_
    refine W_cond (by rfl) (fun hb => ?_) (fun hb => ?_)
    ·have hm := cond_t hb hm
     refine W_skip ?_
     refine W_seq ?_
     refine W_block ?_
     refine W_seq ?_
     refine W_region ?_
     refine RL_p (x_move (v := .int .i64 y13_1) (by rfl)) ?_
     refine RL_p (x_assign (v := .int .i64 y13_1) (by rfl)) ?_
     refine RL_nil ?_
     refine W_seq ?_
     refine W_draw [.free 0, .free 1, .free 2, .take 3, .free 4, .free 5, .free 6, .take 7, .free 8] (fun wS => Sep ok w wS [] [RE.rd k_Slot A1 cp2 a0, RE.rd k_Slot A5 cp6 a1]) [] [0, 1, 2, 4, 5, 6, 8] mixed0 (by kernel_rfl) (by kernel_rfl) (by kernel_rfl) (by rfl) (by exact H.drew) ?_
     obtain ⟨w11, hW⟩ : ∃ W : World, W = { w10 with drawn := w10.drawn + 1 } := ⟨_, rfl⟩
     rw [← hW]
     have H : Sep ok w w11 [] [RE.rd k_Slot A1 cp2 a0, RE.rd k_Slot A5 cp6 a1] := by rw [hW]; exact H.drew
     clear hW
     refine PR_free (by rfl) (by rfl) (by rfl) (by exact wn0 rfl) (fun wS => (x_move (v := .slice A1 a0.length cp2) (by rfl))) ?_
     refine PR_free (by rfl) (by rfl) (by rfl) (by exact wn0 rfl) (fun wS => (x_move (v := .int .i64 y13_1) (by rfl))) ?_
     obtain ⟨el12, h13, h14, he15, hm⟩ := idx_some hm
     obtain ⟨g17, o18, hA16⟩ := (H.rd (i := 0) (by rfl)).addr he15
     refine PR_free (by rfl) (by rfl) (by rfl) (by exact wn0 rfl) (fun wS => (x_indexAddr sl74 sz96 (by rfl) (by rfl) hA16 h13 h14)) ?_
     refine PR_take (by rfl) (by rfl) (by rfl) (by exact wn0 rfl) (fun wS (H : Sep ok w wS [] [RE.rd k_Slot A1 cp2 a0, RE.rd k_Slot A5 cp6 a1]) => (x_loadA (j := 0) (vs := [.int .i64 el12.Gen, .bool el12.Live]) ag96 (by rfl) (Rd.flatAt (n := 2) (H.rd (i := 0) (by rfl)) hA16 he15) (by rfl) (by rfl))) ?_
     refine PR_free (by rfl) (by rfl) (by rfl) (by exact wn0 rfl) (fun wS => (x_move (v := .slice A5 a1.length cp6) (by rfl))) ?_
     refine PR_free (by rfl) (by rfl) (by rfl) (by exact wn0 rfl) (fun wS => (x_move (v := .int .i64 y13_1) (by rfl))) ?_
     obtain ⟨el19, h20, h21, he22, hm⟩ := idx_some hm
     obtain ⟨g24, o25, hA23⟩ := (H.rd (i := 1) (by rfl)).addr he22
     refine PR_free (by rfl) (by rfl) (by rfl) (by exact wn0 rfl) (fun wS => (x_indexAddr sl74 sz96 (by rfl) (by rfl) hA23 h20 h21)) ?_
     refine PR_take (by rfl) (by rfl) (by rfl) (by exact wn0 rfl) (fun wS (H : Sep ok w wS [] [RE.rd k_Slot A1 cp2 a0, RE.rd k_Slot A5 cp6 a1]) => (x_loadA (j := 0) (vs := [.int .i64 el19.Gen, .bool el19.Live]) ag96 (by rfl) (Rd.flatAt (n := 2) (H.rd (i := 1) (by rfl)) hA23 he22) (by rfl) (by rfl))) ?_
     refine PR_free (by rfl) (by rfl) (by rfl) (by exact wn0 rfl) (fun wS => (x_neqs ep96 eg96 (by rfl) (by rfl) (b := ((el12.Gen == el19.Gen) && (el12.Live == el19.Live))) (by rfl))) ?_
     refine PR_nil ?_
     refine W_cond (by rfl) (fun hb => ?_) (fun hb => ?_)
     ·have hm := cond_t hb hm
      refine W_seq ?_
      refine W_region ?_
      refine RL_p (x_assign (v := .bool false) (by rfl)) ?_
      refine RL_nil ?_
      refine W_ret ?_
      obtain rfl := Option.some.inj hm
      exact ⟨[.bool false], (.tmp (by rfl) rfl), rfl, H.none_⟩
     ·have hm := cond_f hb hm
      refine W_skip ?_
      refine W_region ?_
      obtain ⟨x26, ex26, qx26, ux26, hm⟩ := ck_some hm
      refine RL_p (x_add (by rfl) (by rfl) ux26) ?_
      refine RL_p (x_move (v := .int .i64 x26) (by rfl)) ?_
      refine RL_nil ?_
      subst hrec1
      exact ⟨k1, Nat.lt_succ_self k1, x26, hm, ⟨rfl, rfl, rfl, rfl, trivial⟩, H⟩
    ·have hm := cond_f hb hm
     refine W_exit ?_
     refine W_seq ?_
     refine W_region ?_
     refine RL_p (x_assign (v := .bool true) (by rfl)) ?_
     refine RL_nil ?_
     refine W_ret ?_
     obtain rfl := Option.some.inj hm
     exact ⟨[.bool true], (.tmp (by rfl) rfl), rfl, H.none_⟩
end Go.Proofs.YtobkigllalbkiaaV.M

/- A plain Lean function that answers as the Go function does (none: not told), and the proof that a call answers so. Written by program. -/
set_option linter.unusedVariables false
namespace Go.Proofs.YtobkigllalbkiaaV.M
open Go.RowKit Go.Proofs.YtobkigllalbkiaaV
/-- diorama/arena.Same -/
def m105 (K : Nat) (a0 : S_Arena) (a1 : S_Arena) : Option (Bool) :=
 ((m130 K a0.Slots a1.Slots).bind fun v14 => some v14)
set_option maxRecDepth 100000 in
set_option maxHeartbeats 4000000 in
theorem c105 (ok : Okp) (K : Nat) (w : World) (a0 : S_Arena) (A1 : Option Addr) (cp2 : Nat) (a1 : S_Arena) (A5 : Option Addr) (cp6 : Nat) (hR3 : Rd k_Slot w ok A1 cp2 a0.Slots) (hR7 : Rd k_Slot w ok A5 cp6 a1.Slots) (res : Bool) (hm : m105 K a0 a1 = some res) :
  Calls Try.prog 105 #[.agg #[.slice A1 a0.Slots.length cp2], .agg #[.slice A5 a1.Slots.length cp6]] w (fun e w' => e = .returned (tup [.bool res]) ∧ Sep ok w w' [] []) := by
 refine calls_W (args := [.agg #[.slice A1 a0.Slots.length cp2], .agg #[.slice A5 a1.Slots.length cp6]]) Try.func105 rfl Try.ntmps105 Try.results105 rfl fun r hr => ?_
 obtain ⟨r1, rfl⟩ := regen (r := r) [(0, .agg #[.slice A1 a0.Slots.length cp2]), (1, .agg #[.slice A5 a1.Slots.length cp6])] ⟨hr 0 _ rfl, hr 1 _ rfl, trivial⟩
 have H : Sep ok w w [] [RE.rd k_Slot A1 cp2 a0.Slots, RE.rd k_Slot A5 cp6 a1.Slots] := Sep.arg (Sep.arg (Sep.start ok w) (re := RE.rd k_Slot A1 cp2 a0.Slots) rfl rfl hR3) (re := RE.rd k_Slot A5 cp6 a1.Slots) rfl rfl hR7
 unfold m105 at hm
 refine W_seq ?_
 refine W_region ?_
 refine RL_cons (O_box (by exact wn0 rfl) (by rfl) (by rfl) (by rfl) H (fun w10 b9 (H : Sep ok w w10 [.blk b9 76 [.slice A1 a0.Slots.length cp2]] [RE.rd k_Slot A1 cp2 a0.Slots, RE.rd k_Slot A5 cp6 a1.Slots]) => ?_))
 refine RL_cons (O_box (by exact wn0 rfl) (by rfl) (by rfl) (by rfl) H (fun w12 b11 (H : Sep ok w w12 [.blk b9 76 [.slice A1 a0.Slots.length cp2], .blk b11 76 [.slice A5 a1.Slots.length cp6]] [RE.rd k_Slot A1 cp2 a0.Slots, RE.rd k_Slot A5 cp6 a1.Slots]) => ?_))
 refine RL_p (x_assign (v := .bool false) (by rfl)) ?_
 refine RL_nil ?_
 refine W_seq ?_
 refine W_region ?_
 refine RL_p (x_fieldAddr fo76_0 (by rfl)) ?_
 refine RL_p (x_load (j := 0) (v := .slice A1 a0.Slots.length cp2) sc74 (by rfl) (H.cells (i := 0) (by rfl)) (by rfl)) ?_
 refine RL_p (x_fieldAddr fo76_0 (by rfl)) ?_
 refine RL_p (x_load (j := 0) (v := .slice A5 a1.Slots.length cp6) sc74 (by rfl) (H.cells (i := 1) (by rfl)) (by rfl)) ?_
 obtain ⟨v14, hv13, hm⟩ := bind_some hm
 refine RL_cons (O_call (by exact wn0 rfl) (by rfl) (by rfl) (x_callL (by rfl) (args := [.slice A1 a0.Slots.length cp2, .slice A5 a1.Slots.length cp6]) (by rfl) (cf130 _ _)) (c130 okT K w12 a0.Slots A1 cp2 a1.Slots A5 cp6 (H.rd (i := 0) (by rfl)).any (H.rd (i := 1) (by rfl)).any v14 hv13) ?_)
 rintro e w15 ⟨rfl, H2⟩
 have H : Sep ok w w15 [.blk b9 76 [.slice A1 a0.Slots.length cp2], .blk b11 76 [.slice A5 a1.Slots.length cp6]] [RE.rd k_Slot A1 cp2 a0.Slots, RE.rd k_Slot A5 cp6 a1.Slots] := H.below H2.base
 clear H2
 refine ⟨_, rfl, ?_⟩
 show RL _ _ _ _ _ _ _
 refine RL_p (x_assign (v := .bool v14) (by rfl)) ?_
 refine RL_nil ?_
 refine W_ret ?_
 obtain rfl := Option.some.inj hm
 exact ⟨[.bool v14], (.tmp (by rfl) rfl), rfl, H.none_⟩
end Go.Proofs.YtobkigllalbkiaaV.M

/- A plain Lean function that answers as the Go function does (none: not told), and the proof that a call answers so. Written by program. -/
set_option linter.unusedVariables false
namespace Go.Proofs.YtobkigllalbkiaaV.M
open Go.RowKit Go.Proofs.YtobkigllalbkiaaV
def m108_l1b (K : Nat) (a0 : (List S_Handle)) (a1 : (List S_Handle)) (rec1 : Int → Option (Bool)) (y13_1 : Int) : Option (Bool) :=
 (bif (decide (y13_1 < (a0.length : Int))) then (idx a0 y13_1 fun el12 => (idx a1 y13_1 fun el19 => (bif (!((el12.Slot == el19.Slot) && (el12.Gen == el19.Gen))) then some false else (ck (y13_1 + 1) fun x26 => (rec1 x26))))) else some true)
def m108_l1 (K : Nat) (a0 : (List S_Handle)) (a1 : (List S_Handle)) : Nat → Int → Option (Bool)
 | 0 => fun _ => none
 | k + 1 => m108_l1b K a0 a1 (m108_l1 K a0 a1 k)
/-- slices.Equal(()diorama/api.Handle,diorama/api.Handle) -/
def m108 (K : Nat) (a0 : (List S_Handle)) (a1 : (List S_Handle)) : Option (Bool) :=
 (bif ((a0.length : Int) != (a1.length : Int)) then some false else m108_l1 K a0 a1 K 0)
set_option maxRecDepth 100000 in
set_option maxHeartbeats 4000000 in
theorem c108 (ok : Okp) (K : Nat) (w : World) (a0 : (List S_Handle)) (A1 : Option Addr) (cp2 : Nat) (a1 : (List S_Handle)) (A5 : Option Addr) (cp6 : Nat) (hR3 : Rd k_Handle w ok A1 cp2 a0) (hR7 : Rd k_Handle w ok A5 cp6 a1) (res : Bool) (hm : m108 K a0 a1 = some res) :
  Calls Try.prog 108 #[.slice A1 a0.length cp2, .slice A5 a1.length cp6] w (fun e w' => e = .returned (tup [.bool res]) ∧ Sep ok w w' [] []) := by
 refine calls_W (args := [.slice A1 a0.length cp2, .slice A5 a1.length cp6]) Try.func108 rfl Try.ntmps108 Try.results108 rfl fun r hr => ?_
 obtain ⟨r1, rfl⟩ := regen (r := r) [(0, .slice A1 a0.length cp2), (1, .slice A5 a1.length cp6)] ⟨hr 0 _ rfl, hr 1 _ rfl, trivial⟩
 have H : Sep ok w w [] [RE.rd k_Handle A1 cp2 a0, RE.rd k_Handle A5 cp6 a1] := Sep.arg (Sep.arg (Sep.start ok w) (re := RE.rd k_Handle A1 cp2 a0) rfl rfl hR3) (re := RE.rd k_Handle A5 cp6 a1) rfl rfl hR7
 unfold m108 at hm
 refine W_seq ?_
 refine W_region ?_
 refine RL_p (x_assign (v := .bool false) (by rfl)) ?_
 refine RL_nil ?_
 refine W_seq ?_
 refine W_seq ?_
 refine W_region ?_
 refine RL_p (x_move (v := .slice A1 a0.length cp2) (by rfl)) ?_
 refine RL_p (x_len sl87 (by rfl)) ?_
 refine RL_p (x_move (v := .slice A5 a1.length cp6) (by rfl)) ?_
 refine RL_p (x_len sl87 (by rfl)) ?_
 refine RL_p (x_neq (by rfl) (by rfl)) ?_
 refine RL_nil ?_
 refine W_cond (by rfl) (fun hb => ?_) (fun hb => ?_)
 ·have hm := cond_t hb hm
  refine W_seq ?_
  refine W_region ?_
  refine RL_p (x_assign (v := .bool false) (by rfl)) ?_
  refine RL_nil ?_
  refine W_ret ?_
  obtain rfl := Option.some.inj hm
  exact ⟨[.bool false], (.tmp (by rfl) rfl), rfl, H.none_⟩
 ·have hm := cond_f hb hm
  refine W_skip ?_
  refine W_seq ?_
  refine W_seq ?_
  refine W_region ?_
  refine RL_p (x_move (v := .slice A1 a0.length cp2) (by rfl)) ?_
  refine RL_p (x_len sl87 (by rfl)) ?_
  refine RL_p (x_move (v := .int .i64 0) (by rfl)) ?_
  refine RL_nil ?_
  refine W_block ?_
  refine W_loop (fun k1 r' w' => ∃ (y13_1 : Int), m108_l1 K a0 a1 k1 y13_1 = some res ∧ Agr [(0, .slice A1 a0.length cp2), (1, .slice A5 a1.length cp6), (12, .int .i64 (a0.length : Int)), (13, .int .i64 y13_1)] r' ∧ Sep ok w w' [] [RE.rd k_Handle A1 cp2 a0, RE.rd k_Handle A5 cp6 a1]) K ?_ ?_
  ·exact ⟨0, hm, ⟨rfl, rfl, rfl, rfl, trivial⟩, H⟩
  ·rintro k1 r' w' ⟨y13_1, hm, hA, H⟩
   obtain ⟨r9, rfl⟩ := regen _ hA; clear hA
   obtain ⟨w10, rfl⟩ : ∃ W : World, W = w' := ⟨_, rfl⟩
   cases k1 with
   | zero => exact (none_some hm).elim
   | succ k1 =>
    have hm : m108_l1b K a0 a1 (m108_l1 K a0 a1 k1) y13_1 = some res := hm
    unfold m108_l1b at hm
    obtain ⟨rec1, hrec1⟩ : ∃ f, m108_l1 K a0 a1 k1 = f := ⟨_, rfl⟩
    rw [hrec1] at hm
    refine W_seq ?_
    refine W_region ?_
    refine RL_p (x_lss (by rfl) (by rfl)) ?_
    refine RL_nil ?_
    refine W_seq ?_
    refine W_cond (by rfl) (fun hb => ?_) (fun hb => ?_)
    ·have hm := cond_t hb hm
     refine W_skip ?_
     refine W_seq ?_
     refine W_block ?_
     refine W_seq ?_
     refine W_region ?_
     refine RL_p (x_move (v := .int .i64 y13_1) (by rfl)) ?_
     refine RL_p (x_assign (v := .int .i64 y13_1) (by rfl)) ?_
     refine RL_nil ?_
     refine W_seq ?_
     refine W_draw [.free 0, .free 1, .free 2, .take 3, .free 4, .free 5, .free 6, .take 7, .free 8] (fun wS => Sep ok w wS [] [RE.rd k_Handle A1 cp2 a0, RE.rd k_Handle A5 cp6 a1]) [] [0, 1, 2, 4, 5, 6, 8] mixed0 (by kernel_rfl) (by kernel_rfl) (by kernel_rfl) (by rfl) (by exact H.drew) ?_
     obtain ⟨w11, hW⟩ : ∃ W : World, W = { w10 with drawn := w10.drawn + 1 } := ⟨_, rfl⟩
     rw [← hW]
     have H : Sep ok w w11 [] [RE.rd k_Handle A1 cp2 a0, RE.rd k_Handle A5 cp6 a1] := by rw [hW]; exact H.drew
     clear hW
     refine PR_free (by rfl) (by rfl) (by rfl) (by exact wn0 rfl) (fun wS => (x_move (v := .slice A1 a0.length cp2) (by rfl))) ?_
     refine PR_free (by rfl) (by rfl) (by rfl) (by exact wn0 rfl) (fun wS => (x_move (v := .int .i64 y13_1) (by rfl))) ?_
     obtain ⟨el12, h13, h14, he15, hm⟩ := idx_some hm
     obtain ⟨g17, o18, hA16⟩ := (H.rd (i := 0) (by rfl)).addr he15
     refine PR_free (by rfl) (by rfl) (by rfl) (by exact wn0 rfl) (fun wS => (x_indexAddr sl87 sz81 (by rfl) (by rfl) hA16 h13 h14)) ?_
     refine PR_take (by rfl) (by rfl) (by rfl) (by exact wn0 rfl) (fun wS (H : Sep ok w wS [] [RE.rd k_Handle A1 cp2 a0, RE.rd k_Handle A5 cp6 a1]) => (x_loadA (j := 0) (vs := [.int .i64 el12.Slot, .int .i64 el12.Gen]) ag81 (by rfl) (Rd.flatAt (n := 2) (H.rd (i := 0) (by rfl)) hA16 he15) (by rfl) (by rfl))) ?_
     refine PR_free (by rfl) (by rfl) (by rfl) (by exact wn0 rfl) (fun wS => (x_move (v := .slice A5 a1.length cp6) (by rfl))) ?_
     refine PR_free (by rfl) (by rfl) (by rfl) (by exact wn0 rfl) (fun wS => (x_move (v := .int .i64 y13_1) (by rfl))) ?_
     obtain ⟨el19, h20, h21, he22, hm⟩ := idx_some hm
     obtain ⟨g24, o25, hA23⟩ := (H.rd (i := 1) (by rfl)).addr he22
     refine PR_free (by rfl) (by rfl) (by rfl) (by exact wn0 rfl) (fun wS => (x_indexAddr sl87 sz81 (by rfl) (by rfl) hA23 h20 h21)) ?_
     refine PR_take (by rfl) (by rfl) (by rfl) (by exact wn0 rfl) (fun wS (H : Sep ok w wS [] [RE.rd k_Handle A1 cp2 a0, RE.rd k_Handle A5 cp6 a1]) => (x_loadA (j := 0) (vs := [.int .i64 el19.Slot, .int .i64 el19.Gen]) ag81 (by rfl) (Rd.flatAt (n := 2) (H.rd (i := 1) (by rfl)) hA23 he22) (by rfl) (by rfl))) ?_
     refine PR_free (by rfl) (by rfl) (by rfl) (by exact wn0 rfl) (fun wS => (x_neqs ep81 eg81 (by rfl) (by rfl) (b := ((el12.Slot == el19.Slot) && (el12.Gen == el19.Gen))) (by rfl))) ?_
     refine PR_nil ?_
     refine W_cond (by rfl) (fun hb => ?_) (fun hb => ?_)
     ·have hm := cond_t hb hm
      refine W_seq ?_
      refine W_region ?_
      refine RL_p (x_assign (v := .bool false) (by rfl)) ?_
      refine RL_nil ?_
      refine W_ret ?_
      obtain rfl := Option.some.inj hm
      exact ⟨[.bool false], (.tmp (by rfl) rfl), rfl, H.none_⟩
     ·have hm := cond_f hb hm
      refine W_skip ?_
      refine W_region ?_
      obtain ⟨x26, ex26, qx26, ux26, hm⟩ := ck_some hm
      refine RL_p (x_add (by rfl) (by rfl) ux26) ?_
      refine RL_p (x_move (v := .int .i64 x26) (by rfl)) ?_
      refine RL_nil ?_
      subst hrec1
      exact ⟨k1, Nat.lt_succ_self k1, x26, hm, ⟨rfl, rfl, rfl, rfl, trivial⟩, H⟩
    ·have hm := cond_f hb hm
     refine W_exit ?_
     refine W_seq ?_
     refine W_region ?_
     refine RL_p (x_assign (v := .bool true) (by rfl)) ?_
     refine RL_nil ?_
     refine W_ret ?_
     obtain rfl := Option.some.inj hm
     exact ⟨[.bool true], (.tmp (by rfl) rfl), rfl, H.none_⟩
end Go.Proofs.YtobkigllalbkiaaV.M

/- A plain Lean function that answers as the Go function does (none: not told), and the proof that a call answers so. Written by program. -/
set_option linter.unusedVariables false
namespace Go.Proofs.YtobkigllalbkiaaV.M
open Go.RowKit Go.Proofs.YtobkigllalbkiaaV
/-- diorama/nodes.Same$1 -/
def m107 (K : Nat) (a0 : (List S_Handle)) (a1 : (List S_Handle)) : Option (Bool) :=
 ((m108 K a0 a1).bind fun v10 => some v10)
set_option maxRecDepth 100000 in
set_option maxHeartbeats 4000000 in
theorem c107 (ok : Okp) (K : Nat) (w : World) (a0 : (List S_Handle)) (A1 : Option Addr) (cp2 : Nat) (a1 : (List S_Handle)) (A5 : Option Addr) (cp6 : Nat) (hR3 : Rd k_Handle w ok A1 cp2 a0) (hR7 : Rd k_Handle w ok A5 cp6 a1) (res : Bool) (hm : m107 K a0 a1 = some res) :
  Calls Try.prog 107 #[.slice A1 a0.length cp2, .slice A5 a1.length cp6] w (fun e w' => e = .returned (tup [.bool res]) ∧ Sep ok w w' [] []) := by
 refine calls_W (args := [.slice A1 a0.length cp2, .slice A5 a1.length cp6]) Try.func107 rfl Try.ntmps107 Try.results107 rfl fun r hr => ?_
 obtain ⟨r1, rfl⟩ := regen (r := r) [(0, .slice A1 a0.length cp2), (1, .slice A5 a1.length cp6)] ⟨hr 0 _ rfl, hr 1 _ rfl, trivial⟩
 have H : Sep ok w w [] [RE.rd k_Handle A1 cp2 a0, RE.rd k_Handle A5 cp6 a1] := Sep.arg (Sep.arg (Sep.start ok w) (re := RE.rd k_Handle A1 cp2 a0) rfl rfl hR3) (re := RE.rd k_Handle A5 cp6 a1) rfl rfl hR7
 unfold m107 at hm
 refine W_seq ?_
 refine W_region ?_
 refine RL_p (x_assign (v := .bool false) (by rfl)) ?_
 refine RL_nil ?_
 refine W_seq ?_
 refine W_region ?_
 refine RL_p (x_move (v := .slice A1 a0.length cp2) (by rfl)) ?_
 refine RL_p (x_move (v := .slice A5 a1.length cp6) (by rfl)) ?_
 obtain ⟨v10, hv9, hm⟩ := bind_some hm
 refine RL_cons (O_call (by exact wn0 rfl) (by rfl) (by rfl) (x_callL (by rfl) (args := [.slice A1 a0.length cp2, .slice A5 a1.length cp6]) (by rfl) (cf108 _ _)) (c108 okT K w a0 A1 cp2 a1 A5 cp6 (H.rd (i := 0) (by rfl)).any (H.rd (i := 1) (by rfl)).any v10 hv9) ?_)
 rintro e w11 ⟨rfl, H2⟩
 have H : Sep ok w w11 [] [RE.rd k_Handle A1 cp2 a0, RE.rd k_Handle A5 cp6 a1] := H.below H2.base
 clear H2
 refine ⟨_, rfl, ?_⟩
 show RL _ _ _ _ _ _ _
 refine RL_p (x_assign (v := .bool v10) (by rfl)) ?_
 refine RL_nil ?_
 refine W_ret ?_
 obtain rfl := Option.some.inj hm
 exact ⟨[.bool v10], (.tmp (by rfl) rfl), rfl, H.none_⟩
end Go.Proofs.YtobkigllalbkiaaV.M

/- A plain Lean function that answers as the Go function does (none: not told), and the proof that a call answers so. Written by program. -/
set_option linter.unusedVariables false
namespace Go.Proofs.YtobkigllalbkiaaV.M
open Go.RowKit Go.Proofs.YtobkigllalbkiaaV
def m106_l1b (K : Nat) (a0 : (List (List S_Handle))) (a1 : (List (List S_Handle))) (rec1 : Int → Option (Bool)) (y17_1 : Int) : Option (Bool) :=
 (bif (decide (y17_1 < (a0.length : Int))) then (idx a0 y17_1 fun el11 => (idx a1 y17_1 fun el28 => ((m107 K el11 el28).bind fun v46 => (bif (!v46) then some false else (ck (y17_1 + 1) fun x48 => (rec1 x48)))))) else some true)
def m106_l1 (K : Nat) (a0 : (List (List S_Handle))) (a1 : (List (List S_Handle))) : Nat → Int → Option (Bool)
 | 0 => fun _ => none
 | k + 1 => m106_l1b K a0 a1 (m106_l1 K a0 a1 k)
/-- slices.EqualFunc(()()diorama/api.Handle,()()diorama/api.Handle,()diorama/api.Handle,()diorama/api.Handle) -/
def m106 (K : Nat) (a0 : (List (List S_Handle))) (a1 : (List (List S_Handle))) : Option (Bool) :=
 (bif ((a0.length : Int) != (a1.length : Int)) then some false else m106_l1 K a0 a1 K 0)
set_option maxRecDepth 100000 in
set_option maxHeartbeats 4000000 in
theorem c106 (ok : Okp) (K : Nat) (w : World) (a0 : (List (List S_Handle))) (A1 : Option Addr) (cp2 : Nat) (a1 : (List (List S_Handle))) (A5 : Option Addr) (cp6 : Nat) (hR3 : Rd (Kd.slice k_Handle) w ok A1 cp2 a0) (hR7 : Rd (Kd.slice k_Handle) w ok A5 cp6 a1) (res : Bool) (hm : m106 K a0 a1 = some res) :
  Calls Try.prog 106 #[.slice A1 a0.length cp2, .slice A5 a1.length cp6, .func (.func 107) #[] #[]] w (fun e w' => e = .returned (tup [.bool res]) ∧ Sep ok w w' [] []) := by
 refine calls_W (args := [.slice A1 a0.length cp2, .slice A5 a1.length cp6, .func (.func 107) #[] #[]]) Try.func106 rfl Try.ntmps106 Try.results106 rfl fun r hr => ?_
 obtain ⟨r1, rfl⟩ := regen (r := r) [(0, .slice A1 a0.length cp2), (1, .slice A5 a1.length cp6), (2, .func (.func 107) #[] #[])] ⟨hr 0 _ rfl, hr 1 _ rfl, hr 2 _ rfl, trivial⟩
 have H : Sep ok w w [] [RE.rd (Kd.slice k_Handle) A1 cp2 a0, RE.rd (Kd.slice k_Handle) A5 cp6 a1] := Sep.arg (Sep.arg (Sep.start ok w) (re := RE.rd (Kd.slice k_Handle) A1 cp2 a0) rfl rfl hR3) (re := RE.rd (Kd.slice k_Handle) A5 cp6 a1) rfl rfl hR7
 unfold m106 at hm
 refine W_seq ?_
 refine W_region ?_
 refine RL_p (x_assign (v := .bool false) (by rfl)) ?_
 refine RL_nil ?_
 refine W_seq ?_
 refine W_seq ?_
 refine W_region ?_
 refine RL_p (x_move (v := .slice A1 a0.length cp2) (by rfl)) ?_
 refine RL_p (x_len sl77 (by rfl)) ?_
 refine RL_p (x_move (v := .slice A5 a1.length cp6) (by rfl)) ?_
 refine RL_p (x_len sl77 (by rfl)) ?_
 refine RL_p (x_neq (by rfl) (by rfl)) ?_
 refine RL_nil ?_
 refine W_cond (by rfl) (fun hb => ?_) (fun hb => ?_)
 ·have hm := cond_t hb hm
  refine W_seq ?_
  refine W_region ?_
  refine RL_p (x_assign (v := .bool false) (by rfl)) ?_
  refine RL_nil ?_
  refine W_ret ?_
  obtain rfl := Option.some.inj hm
  exact ⟨[.bool false], (.tmp (by rfl) rfl), rfl, H.none_⟩
 ·have hm := cond_f hb hm
  refine W_skip ?_
  refine W_seq ?_
  refine W_seq ?_
  refine W_region ?_
  refine RL_p (x_move (v := .slice A1 a0.length cp2) (by rfl)) ?_
  refine RL_p (x_len sl77 (by rfl)) ?_
  refine RL_p (x_move (v := .int .i64 0) (by rfl)) ?_
  refine RL_nil ?_
  refine W_block ?_
  refine W_loop (fun k1 r' w' => ∃ (y17_1 : Int), m106_l1 K a0 a1 k1 y17_1 = some res ∧ Agr [(1, .slice A5 a1.length cp6), (2, .func (.func 107) #[] #[]), (15, .slice A1 a0.length cp2), (16, .int .i64 (a0.length : Int)), (17, .int .i64 y17_1)] r' ∧ Sep ok w w' [] [RE.rd (Kd.slice k_Handle) A1 cp2 a0, RE.rd (Kd.slice k_Handle) A5 cp6 a1]) K ?_ ?_
  ·exact ⟨0, hm, ⟨rfl, rfl, rfl, rfl, rfl, trivial⟩, H⟩
  ·rintro k1 r' w' ⟨y17_1, hm, hA, H⟩
   obtain ⟨r9, rfl⟩ := regen _ hA; clear hA
   obtain ⟨w10, rfl⟩ : ∃ W : World, W = w' := ⟨_, rfl⟩
   cases k1 with
   | zero => exact (none_some hm).elim
   | succ k1 =>
    have hm : m106_l1b K a0 a1 (m106_l1 K a0 a1 k1) y17_1 = some res := hm
    unfold m106_l1b at hm
    obtain ⟨rec1, hrec1⟩ : ∃ f, m106_l1 K a0 a1 k1 = f := ⟨_, rfl⟩
    rw [hrec1] at hm
    refine W_seq ?_
    refine W_region ?_
    refine RL_p (x_lss (by rfl) (by rfl)) ?_
    refine RL_nil ?_
    refine W_seq ?_
    refine W_cond (by rfl) (fun hb => ?_) (fun hb => ?_)
    ·have hm := cond_t hb hm
     refine W_skip ?_
     refine W_seq ?_
     refine W_block ?_
     refine W_seq ?_
     refine W_region ?_
     refine RL_p (x_move (v := .int .i64 y17_1) (by rfl)) ?_
     obtain ⟨el11, h12, h13, he14, hm⟩ := idx_some hm
     obtain ⟨g16, o17, hA15⟩ := (H.rd (i := 0) (by rfl)).addr he14
     obtain ⟨cs18, hk19, hat20, hg_cs18⟩ := (H.rd (i := 0) (by rfl)).openAt hA15 he14
     obtain ⟨A23, cp24, rfl, hR26⟩ := hk19
     have H : Sep ok w w10 [] [RE.rd (Kd.slice k_Handle) A1 cp2 a0, RE.rd (Kd.slice k_Handle) A5 cp6 a1, RE.cells g16 (o17 + (y17_1).toNat * 1) [.slice A23 el11.length cp24]] := Sep.also H (re := RE.cells g16 (o17 + (y17_1).toNat * 1) [.slice A23 el11.length cp24]) ⟨hg_cs18, hat20⟩
     have H : Sep ok w w10 [] [RE.rd (Kd.slice k_Handle) A1 cp2 a0, RE.rd (Kd.slice k_Handle) A5 cp6 a1, RE.cells g16 (o17 + (y17_1).toNat * 1) [.slice A23 el11.length cp24], RE.rd k_Handle A23 cp24 el11] := Sep.also H (re := RE.rd k_Handle A23 cp24 el11) hR26
     refine RL_p (x_indexAddr sl77 sz87 (by rfl) (by rfl) hA15 h12 h13) ?_
     refine RL_p (x_load (j := 0) (v := .slice A23 el11.length cp24) sc87 (by rfl) (H.cellsR (i := 2) (by rfl)) (by rfl)) ?_
     refine RL_p (x_assign (v := .int .i64 y17_1) (by rfl)) ?_
     refine RL_p (x_assign (v := .slice A23 el11.length cp24) (by rfl)) ?_
     refine RL_nil ?_
     refine W_seq ?_
     refine W_region ?_
     refine RL_p (x_move (v := .slice A5 a1.length cp6) (by rfl)) ?_
     refine RL_p (x_move (v := .int .i64 y17_1) (by rfl)) ?_
     obtain ⟨el28, h29, h30, he31, hm⟩ := idx_some hm
     obtain ⟨g33, o34, hA32⟩ := (H.rd (i := 1) (by rfl)).addr he31
     obtain ⟨cs35, hk36, hat37, hg_cs35⟩ := (H.rd (i := 1) (by rfl)).openAt hA32 he31
     obtain ⟨A40, cp41, rfl, hR43⟩ := hk36
     have H : Sep ok w w10 [] [RE.rd (Kd.slice k_Handle) A1 cp2 a0, RE.rd (Kd.slice k_Handle) A5 cp6 a1, RE.cells g16 (o17 + (y17_1).toNat * 1) [.slice A23 el11.length cp24], RE.rd k_Handle A23 cp24 el11, RE.cells g33 (o34 + (y17_1).toNat * 1) [.slice A40 el28.length cp41]] := Sep.also H (re := RE.cells g33 (o34 + (y17_1).toNat * 1) [.slice A40 el28.length cp41]) ⟨hg_cs35, hat37⟩
     have H : Sep ok w w10 [] [RE.rd (Kd.slice k_Handle) A1 cp2 a0, RE.rd (Kd.slice k_Handle) A5 cp6 a1, RE.cells g16 (o17 + (y17_1).toNat * 1) [.slice A23 el11.length cp24], RE.rd k_Handle A23 cp24 el11, RE.cells g33 (o34 + (y17_1).toNat * 1) [.slice A40 el28.length cp41], RE.rd k_Handle A40 cp41 el28] := Sep.also H (re := RE.rd k_Handle A40 cp41 el28) hR43
     refine RL_p (x_indexAddr sl77 sz87 (by rfl) (by rfl) hA32 h29 h30) ?_
     refine RL_p (x_load (j := 0) (v := .slice A40 el28.length cp41) sc87 (by rfl) (H.cellsR (i := 4) (by rfl)) (by rfl)) ?_
     refine RL_p (x_assign (v := .slice A40 el28.length cp41) (by rfl)) ?_
     refine RL_nil ?_
     refine W_seq ?_
     refine W_region ?_
     refine RL_p (x_move (v := .func (.func 107) #[] #[]) (by rfl)) ?_
     refine RL_p (x_move (v := .slice A23 el11.length cp24) (by rfl)) ?_
     refine RL_p (x_move (v := .slice A40 el28.length cp41) (by rfl)) ?_
     obtain ⟨v46, hv45, hm⟩ := bind_some hm
     refine RL_cons (O_call (by exact wn0 rfl) (by rfl) (by rfl) (x_callL (by rfl) (args := [.slice A23 el11.length cp24, .slice A40 el28.length cp41]) (by rfl) (cf107 _ _)) (c107 okT K w10 el11 A23 cp24 el28 A40 cp41 (H.rd (i := 3) (by rfl)).any (H.rd (i := 5) (by rfl)).any v46 hv45) ?_)
     rintro e w47 ⟨rfl, H2⟩
     have H : Sep ok w w47 [] [RE.rd (Kd.slice k_Handle) A1 cp2 a0, RE.rd (Kd.slice k_Handle) A5 cp6 a1, RE.cells g16 (o17 + (y17_1).toNat * 1) [.slice A23 el11.length cp24], RE.rd k_Handle A23 cp24 el11, RE.cells g33 (o34 + (y17_1).toNat * 1) [.slice A40 el28.length cp41], RE.rd k_Handle A40 cp41 el28] := H.below H2.base
     clear H2
     refine ⟨_, rfl, ?_⟩
     show RL _ _ _ _ _ _ _
     refine RL_p (x_not (by rfl)) ?_
     refine RL_nil ?_
     refine W_cond (by rfl) (fun hb => ?_) (fun hb => ?_)
     ·have hm := cond_t hb hm
      refine W_seq ?_
      refine W_region ?_
      refine RL_p (x_assign (v := .bool false) (by rfl)) ?_
      refine RL_nil ?_
      refine W_ret ?_
      obtain rfl := Option.some.inj hm
      exact ⟨[.bool false], (.tmp (by rfl) rfl), rfl, H.none_⟩
     ·have hm := cond_f hb hm
      refine W_skip ?_
      refine W_region ?_
      obtain ⟨x48, ex48, qx48, ux48, hm⟩ := ck_some hm
      refine RL_p (x_add (by rfl) (by rfl) ux48) ?_
      refine RL_p (x_move (v := .int .i64 x48) (by rfl)) ?_
      refine RL_nil ?_
      subst hrec1
      exact ⟨k1, Nat.lt_succ_self k1, x48, hm, ⟨rfl, rfl, rfl, rfl, rfl, trivial⟩, (H).pick [0, 1]⟩
    ·have hm := cond_f hb hm
     refine W_exit ?_
     refine W_seq ?_
     refine W_region ?_
     refine RL_p (x_assign (v := .bool true) (by rfl)) ?_
     refine RL_nil ?_
     refine W_ret ?_
     obtain rfl := Option.some.inj hm
     exact ⟨[.bool true], (.tmp (by rfl) rfl), rfl, H.none_⟩
end Go.Proofs.YtobkigllalbkiaaV.M

/- A plain Lean function that answers as the Go function does (none: not told), and the proof that a call answers so. Written by program. -/
set_option linter.unusedVariables false
namespace Go.Proofs.YtobkigllalbkiaaV.M
open Go.RowKit Go.Proofs.YtobkigllalbkiaaV
/-- diorama/nodes.Same -/
def m56 (K : Nat) (a0 : S_Graph) (a1 : S_Graph) : Option (Bool) :=
 ((m105 K a0.Arena a1.Arena).bind fun v22 => ((bif v22 then ((m106 K a0.Kids a1.Kids).bind fun v26 => some v26) else some false).bind fun b24 => some b24))
set_option maxRecDepth 100000 in
set_option maxHeartbeats 4000000 in
theorem c56 (ok : Okp) (K : Nat) (w : World) (a0 : S_Graph) (A1 : Option Addr) (cp2 : Nat) (A5 : Option Addr) (cp6 : Nat) (a1 : S_Graph) (A9 : Option Addr) (cp10 : Nat) (A13 : Option Addr) (cp14 : Nat) (hR3 : Rd k_Slot w ok A1 cp2 a0.Arena.Slots) (hR7 : Rd (Kd.slice k_Handle) w ok A5 cp6 a0.Kids) (hR11 : Rd k_Slot w ok A9 cp10 a1.Arena.Slots) (hR15 : Rd (Kd.slice k_Handle) w ok A13 cp14 a1.Kids) (res : Bool) (hm : m56 K a0 a1 = some res) :
  Calls Try.prog 56 #[.agg #[.slice A1 a0.Arena.Slots.length cp2, .slice A5 a0.Kids.length cp6], .agg #[.slice A9 a1.Arena.Slots.length cp10, .slice A13 a1.Kids.length cp14]] w (fun e w' => e = .returned (tup [.bool res]) ∧ Sep ok w w' [] []) := by
 refine calls_W (args := [.agg #[.slice A1 a0.Arena.Slots.length cp2, .slice A5 a0.Kids.length cp6], .agg #[.slice A9 a1.Arena.Slots.length cp10, .slice A13 a1.Kids.length cp14]]) Try.func56 rfl Try.ntmps56 Try.results56 rfl fun r hr => ?_
 obtain ⟨r1, rfl⟩ := regen (r := r) [(0, .agg #[.slice A1 a0.Arena.Slots.length cp2, .slice A5 a0.Kids.length cp6]), (1, .agg #[.slice A9 a1.Arena.Slots.length cp10, .slice A13 a1.Kids.length cp14])] ⟨hr 0 _ rfl, hr 1 _ rfl, trivial⟩
 have H : Sep ok w w [] [RDS A1 cp2 a0, RDK A5 cp6 a0, RDS A9 cp10 a1, RDK A13 cp14 a1] := Sep.arg (Sep.arg (Sep.arg (Sep.arg (Sep.start ok w) (re := RE.rd k_Slot A1 cp2 a0.Arena.Slots) rfl rfl hR3) (re := RE.rd (Kd.slice k_Handle) A5 cp6 a0.Kids) rfl rfl hR7) (re := RE.rd k_Slot A9 cp10 a1.Arena.Slots) rfl rfl hR11) (re := RE.rd (Kd.slice k_Handle) A13 cp14 a1.Kids) rfl rfl hR15
 unfold m56 at hm
 refine W_seq ?_
 refine W_region ?_
 refine RL_cons (O_box (by exact wn0 rfl) (by rfl) (by rfl) (by rfl) H (fun w18 b17 (H : Sep ok w w18 [GRB b17 A1 cp2 A5 cp6 a0] [RDS A1 cp2 a0, RDK A5 cp6 a0, RDS A9 cp10 a1, RDK A13 cp14 a1]) => ?_))
 refine RL_cons (O_box (by exact wn0 rfl) (by rfl) (by rfl) (by rfl) H (fun w20 b19 (H : Sep ok w w20 [GRB b17 A1 cp2 A5 cp6 a0, GRB b19 A9 cp10 A13 cp14 a1] [RDS A1 cp2 a0, RDK A5 cp6 a0, RDS A9 cp10 a1, RDK A13 cp14 a1]) => ?_))
 refine RL_p (x_assign (v := .bool false) (by rfl)) ?_
 refine RL_nil ?_
 refine W_seq ?_
 refine W_region ?_
 refine RL_p (x_fieldAddr fo79_0 (by rfl)) ?_
 refine RL_p (x_loadA (j := 0) (vs := [.slice A1 a0.Arena.Slots.length cp2]) ag76 (by rfl) (H.cells (i := 0) (by rfl)) (by rfl) (by rfl)) ?_
 refine RL_p (x_fieldAddr fo79_0 (by rfl)) ?_
 refine RL_p (x_loadA (j := 0) (vs := [.slice A9 a1.Arena.Slots.length cp10]) ag76 (by rfl) (H.cells (i := 1) (by rfl)) (by rfl) (by rfl)) ?_
 obtain ⟨v22, hv21, hm⟩ := bind_some hm
 refine RL_cons (O_call (by exact wn0 rfl) (by rfl) (by rfl) (x_callL (by rfl) (args := [.agg #[.slice A1 a0.Arena.Slots.length cp2], .agg #[.slice A9 a1.Arena.Slots.length cp10]]) (by rfl) (cf105 _ _)) (c105 okT K w20 a0.Arena A1 cp2 a1.Arena A9 cp10 (H.rd (i := 0) (by rfl)).any (H.rd (i := 2) (by rfl)).any v22 hv21) ?_)
 rintro e w23 ⟨rfl, H2⟩
 have H : Sep ok w w23 [GRB b17 A1 cp2 A5 cp6 a0, GRB b19 A9 cp10 A13 cp14 a1] [RDS A1 cp2 a0, RDK A5 cp6 a0, RDS A9 cp10 a1, RDK A13 cp14 a1] := H.below H2.base
 clear H2
 refine ⟨_, rfl, ?_⟩
 show RL _ _ _ _ _ _ _
 refine RL_p (x_move (v := .bool v22) (by rfl)) ?_
 obtain ⟨b24, hmS, hm⟩ := bind_some hm
 refine RL_cut 6 (fun r' w' => Agr [(16, .bool b24)] r' ∧ Sep ok w w' [GRB b17 A1 cp2 A5 cp6 a0, GRB b19 A9 cp10 A13 cp14 a1] [RDS A1 cp2 a0, RDK A5 cp6 a0, RDS A9 cp10 a1, RDK A13 cp14 a1]) ?_ ?_
 ·cases hbS : v22
  ·have hm := cond_f hbS hmS
   refine RL_cons (OpR_off (by exact wn2 rfl rfl rfl rfl) (by rfl) (by rfl) ?_)
   refine RL_cons (OpR_off (by exact wn2 rfl rfl rfl rfl) (by rfl) (by rfl) ?_)
   refine RL_cons (OpR_off (by exact wn2 rfl rfl rfl rfl) (by rfl) (by rfl) ?_)
   refine RL_cons (OpR_off (by exact wn2 rfl rfl rfl rfl) (by rfl) (by rfl) ?_)
   refine RL_cons (OpR_off (by exact wn2 rfl rfl rfl rfl) (by rfl) (by rfl) ?_)
   refine RL_p (x_pick_f (v := .bool false) (by rfl) (by rfl)) ?_
   refine RL_nil ?_
   exact ⟨⟨congrArg Value.bool (Option.some.inj hm), trivial⟩, H⟩
  ·have hm := cond_t hbS hmS
   refine RL_pure (by exact wn1 rfl rfl rfl rfl) (by rfl) (by rfl) (x_fieldAddr fo79_1 (by rfl)) ?_
   refine RL_pure (by exact wn1 rfl rfl rfl rfl) (by rfl) (by rfl) (x_load (j := 1) (v := .slice A5 a0.Kids.length cp6) sc77 (by rfl) (H.cells (i := 0) (by rfl)) (by rfl)) ?_
   refine RL_pure (by exact wn1 rfl rfl rfl rfl) (by rfl) (by rfl) (x_fieldAddr fo79_1 (by rfl)) ?_
   refine RL_pure (by exact wn1 rfl rfl rfl rfl) (by rfl) (by rfl) (x_load (j := 1) (v := .slice A13 a1.Kids.length cp14) sc77 (by rfl) (H.cells (i := 1) (by rfl)) (by rfl)) ?_
   obtain ⟨v26, hv25, hm⟩ := bind_some hm
   refine RL_cons (O_call (by exact wn1 rfl rfl rfl rfl) (by rfl) (by rfl) (x_callL (by rfl) (args := [.slice A5 a0.Kids.length cp6, .slice A13 a1.Kids.length cp14, .func (.func 107) #[] #[]]) (by rfl) (cf106 _ _)) (c106 okT K w23 a0.Kids A5 cp6 a1.Kids A13 cp14 (H.rd (i := 1) (by rfl)).any (H.rd (i := 3) (by rfl)).any v26 hv25) ?_)
   rintro e w27 ⟨rfl, H2⟩
   have H : Sep ok w w27 [GRB b17 A1 cp2 A5 cp6 a0, GRB b19 A9 cp10 A13 cp14 a1] [RDS A1 cp2 a0, RDK A5 cp6 a0, RDS A9 cp10 a1, RDK A13 cp14 a1] := H.below H2.base
   clear H2
   refine ⟨_, rfl, ?_⟩
   show RL _ _ _ _ _ _ _
   refine RL_p (x_pick_t (v := .bool v26) (by rfl) (by rfl)) ?_
   refine RL_nil ?_
   exact ⟨⟨congrArg Value.bool (Option.some.inj hm), trivial⟩, H⟩
 ·rintro r' w' ⟨hA, H⟩
  obtain ⟨r28, rfl⟩ := regen _ hA; clear hA
  obtain ⟨w29, rfl⟩ : ∃ W : World, W = w' := ⟨_, rfl⟩
  show RL _ _ _ _ _ _ _
  refine RL_p (x_assign (v := .bool b24) (by rfl)) ?_
  refine RL_nil ?_
  refine W_ret ?_
  obtain rfl := Option.some.inj hm
  exact ⟨[.bool b24], (.tmp (by rfl) rfl), rfl, H.none_⟩
end Go.Proofs.YtobkigllalbkiaaV.M

/- A plain Lean function that answers as the Go function does (none: not told), and the proof that a call answers so. Written by program. -/
set_option linter.unusedVariables false
namespace Go.Proofs.YtobkigllalbkiaaV.M
open Go.RowKit Go.Proofs.YtobkigllalbkiaaV
set_option maxRecDepth 100000 in
set_option maxHeartbeats 4000000 in
/-- spoil, of a graph of new memory: numbers are written over in it; nothing else turns. -/
theorem c57 {ok0 : Okp} {w0 w : World} {m : Nat} {L : List Ent} {Rs : List RE} {i j : Nat} {A1 A5 : Option Addr} {cp1 cp5 : Nat} {us : List Unit} {uss : List (List Unit)} (h0 : w0.heap.size ≤ m) (hR : Robs m Rs) (H : Sep ok0 w0 w L Rs)
  (hi : Rs[i]? = some (RE.fr m kNumB A1 cp1 us)) (hj : Rs[j]? = some (RE.fr m (Kd.slice kTwoS) A5 cp5 uss)) :
  Calls Try.prog 57 #[.agg #[.slice A1 us.length cp1, .slice A5 uss.length cp5]] w (fun e w' => e = .returned (tup []) ∧ Sep ok0 w0 w' L Rs) := by
 refine calls_W (args := [.agg #[.slice A1 us.length cp1, .slice A5 uss.length cp5]]) Try.func57 rfl Try.ntmps57 Try.results57 rfl fun r hr => ?_
 obtain ⟨r1, rfl⟩ := regen (r := r) [(0, .agg #[.slice A1 us.length cp1, .slice A5 uss.length cp5])] ⟨hr 0 _ rfl, trivial⟩
 have l1 : us.length ≤ 9223372036854775807 := Nat.le_trans (H.frRd hi).1 (H.frRd hi).2.1
 have l5 : uss.length ≤ 9223372036854775807 := Nat.le_trans (H.frRd hj).1 (H.frRd hj).2.1
 refine W_seq ?_
 refine W_region ?_
 refine RL_cons (O_box (by exact wn0 rfl) (by rfl) (by rfl) (by rfl) H (fun w2 b3 H => ?_))
 replace H : Sep ok0 w0 w2 (L ++ [.blk b3 79 [.slice A1 us.length cp1, .slice A5 uss.length cp5]]) Rs := H
 have hb : (L ++ [Ent.blk b3 79 [.slice A1 us.length cp1, .slice A5 uss.length cp5]])[L.length]? = some (.blk b3 79 [.slice A1 us.length cp1, .slice A5 uss.length cp5]) := by simp
 obtain ⟨L1, hL1⟩ : ∃ L1, L ++ [Ent.blk b3 79 [.slice A1 us.length cp1, .slice A5 uss.length cp5]] = L1 := ⟨_, rfl⟩
 have hback : ∀ w', Sep ok0 w0 w' L1 Rs → Sep ok0 w0 w' L Rs := fun w' h => by
  have := h.takeL L.length
  rw [← hL1] at this
  simpa using this
 rw [hL1] at H hb
 generalize L.length = nl at hb
 clear hL1
 refine RL_nil ?_
 refine W_seq ?_
 refine W_seq ?_
 refine W_region ?_
 refine RL_pure (by exact wn0 rfl) (by rfl) (by rfl) (x_assign (v := .int .i64 0) (by rfl)) ?_
 refine RL_nil ?_
 refine W_block ?_
 refine W_loop (fun k r' w' => ∃ n : Nat, n ≤ us.length ∧ us.length < n + k ∧ Agr [(1, .pointer (some ⟨b3, 0, none⟩)), (2, .int .i64 (n : Int))] r' ∧ Sep ok0 w0 w' L1 Rs) (us.length + 1) ?_ ?_
 ·exact ⟨0, Nat.zero_le _, by omega, ⟨rfl, rfl, trivial⟩, H⟩
 ·rintro k r' w' ⟨n, hn1, hn2, hA, H⟩
  obtain ⟨r5, rfl⟩ := regen _ hA; clear hA
  obtain ⟨w6, rfl⟩ : ∃ W : World, W = w' := ⟨_, rfl⟩
  refine W_seq ?_
  refine W_seq ?_
  refine W_region ?_
  refine RL_pure (by exact wn0 rfl) (by rfl) (by rfl) (x_move (v := .int .i64 (n : Int)) (by rfl)) ?_
  refine RL_pure (by exact wn0 rfl) (by rfl) (by rfl) (x_fieldAddr fo79_0 (by rfl)) ?_
  refine RL_pure (by exact wn0 rfl) (by rfl) (by rfl) (x_fieldAddr fo76_0 (by rfl)) ?_
  refine RL_pure (by exact wn0 rfl) (by rfl) (by rfl) (x_load (j := 0) (v := .slice A1 us.length cp1) sc74 (by rfl) (H.cells hb) (by rfl)) ?_
  refine RL_pure (by exact wn0 rfl) (by rfl) (by rfl) (x_len sl74 (by rfl)) ?_
  refine RL_pure (by exact wn0 rfl) (by rfl) (by rfl) (x_lss (by rfl) (by rfl)) ?_
  refine RL_nil ?_
  refine W_cond (by rfl) (fun hb1 => ?_) (fun hb1 => ?_)
  ·have hlt : n < us.length := by have := of_decide_eq_true hb1; omega
   have he : us[((n : Nat) : Int).toNat]? = some us[n] := by rw [Int.toNat_natCast]; exact List.getElem?_eq_getElem hlt
   obtain ⟨g7, o8, hA9⟩ := (H.frRd hi).addr he
   obtain ⟨cs, hk, hat, hg⟩ := (H.frRd hi).openAt hA9 he
   obtain ⟨n1, n2, rfl⟩ := hk
   refine W_skip ?_
   refine W_seq ?_
   refine W_block ?_
   refine W_region ?_
   refine RL_pure (by exact wn0 rfl) (by rfl) (by rfl) (x_fieldAddr fo79_0 (by rfl)) ?_
   refine RL_pure (by exact wn0 rfl) (by rfl) (by rfl) (x_fieldAddr fo76_0 (by rfl)) ?_
   refine RL_pure (by exact wn0 rfl) (by rfl) (by rfl) (x_load (j := 0) (v := .slice A1 us.length cp1) sc74 (by rfl) (H.cells hb) (by rfl)) ?_
   refine RL_pure (by exact wn0 rfl) (by rfl) (by rfl) (x_move (v := .int .i64 (n : Int)) (by rfl)) ?_
   refine RL_pure (by exact wn0 rfl) (by rfl) (by rfl) (x_indexAddr sl74 sz96 (by rfl) (by rfl) hA9 (by omega) (by omega)) ?_
   refine RL_pure (by exact wn0 rfl) (by rfl) (by rfl) (x_fieldAddr fo96_0 (by rfl)) ?_
   refine RL_cons (O_storeNum (m := m) (by exact wn0 rfl) (by rfl) (by rfl) sz3 (hat 0 _ (by rfl)) H hg h0 hR (fun w10 (H : Sep ok0 w0 w10 L1 Rs) => ?_))
   refine RL_nil ?_
   refine W_region ?_
   have hw1 : IntKind.i64.wrap ((n : Int) + 1) = ((n + 1 : Nat) : Int) := by rw [wrap_i64_in (by omega)]; push_cast; rfl
   refine RL_pure (by exact wn0 rfl) (by rfl) (by rfl) (x_move (v := .int .i64 (n : Int)) (by rfl)) ?_
   refine RL_pure (by exact wn0 rfl) (by rfl) (by rfl) (x_add (by rfl) (by rfl) hw1) ?_
   refine RL_pure (by exact wn0 rfl) (by rfl) (by rfl) (x_assign (v := .int .i64 ((n + 1 : Nat) : Int)) (by rfl)) ?_
   refine RL_nil ?_
   exact ⟨k - 1, by omega, n + 1, by omega, by omega, ⟨rfl, rfl, trivial⟩, H⟩
  ·refine W_exit ?_
   refine W_seq ?_
   refine W_region ?_
   refine RL_pure (by exact wn0 rfl) (by rfl) (by rfl) (x_assign (v := .int .i64 0) (by rfl)) ?_
   refine RL_nil ?_
   refine W_block ?_
   refine W_loop (fun k r' w' => ∃ n : Nat, n ≤ uss.length ∧ uss.length < n + k ∧ Agr [(1, .pointer (some ⟨b3, 0, none⟩)), (3, .int .i64 (n : Int))] r' ∧ Sep ok0 w0 w' L1 Rs) (uss.length + 1) ?_ ?_
   ·exact ⟨0, Nat.zero_le _, by omega, ⟨rfl, rfl, trivial⟩, H⟩
   ·clear hn1 hn2 hb1 n k
    rintro k r' w' ⟨n, hn1, hn2, hA, H⟩
    obtain ⟨r11, rfl⟩ := regen _ hA; clear hA
    obtain ⟨w12, rfl⟩ : ∃ W : World, W = w' := ⟨_, rfl⟩
    refine W_seq ?_
    refine W_seq ?_
    refine W_region ?_
    refine RL_pure (by exact wn0 rfl) (by rfl) (by rfl) (x_move (v := .int .i64 (n : Int)) (by rfl)) ?_
    refine RL_pure (by exact wn0 rfl) (by rfl) (by rfl) (x_fieldAddr fo79_1 (by rfl)) ?_
    refine RL_pure (by exact wn0 rfl) (by rfl) (by rfl) (x_load (j := 1) (v := .slice A5 uss.length cp5) sc77 (by rfl) (H.cells hb) (by rfl)) ?_
    refine RL_pure (by exact wn0 rfl) (by rfl) (by rfl) (x_len sl77 (by rfl)) ?_
    refine RL_pure (by exact wn0 rfl) (by rfl) (by rfl) (x_lss (by rfl) (by rfl)) ?_
    refine RL_nil ?_
    refine W_cond (by rfl) (fun hb1 => ?_) (fun hb1 => ?_)
    ·have hlt : n < uss.length := by have := of_decide_eq_true hb1; omega
     have he : uss[((n : Nat) : Int).toNat]? = some uss[n] := by rw [Int.toNat_natCast]; exact List.getElem?_eq_getElem hlt
     generalize uss[n] = el at he
     refine W_skip ?_
     refine W_seq ?_
     refine W_block ?_
     refine W_seq ?_
     refine W_region ?_
     refine RL_pure (by exact wn0 rfl) (by rfl) (by rfl) (x_assign (v := .int .i64 0) (by rfl)) ?_
     refine RL_nil ?_
     refine W_block ?_
     have hel : el.length ≤ 9223372036854775807 := by
      obtain ⟨g7, o8, hA9⟩ := (H.frRd hj).addr he
      obtain ⟨cs, ⟨A, c, rfl, hRd⟩, _⟩ := (H.frRd hj).openAt hA9 he
      exact Nat.le_trans hRd.1 hRd.2.1
     refine W_loop (fun k2 r' w' => ∃ n2 : Nat, n2 ≤ el.length ∧ el.length < n2 + k2 ∧ Agr [(1, .pointer (some ⟨b3, 0, none⟩)), (3, .int .i64 (n : Int)), (4, .int .i64 (n2 : Int))] r' ∧ Sep ok0 w0 w' L1 Rs) (el.length + 1) ?_ ?_
     ·exact ⟨0, Nat.zero_le _, by omega, ⟨rfl, rfl, rfl, trivial⟩, H⟩
     ·rintro k2 r' w' ⟨n2, hm1, hm2, hA, H⟩
      obtain ⟨r13, rfl⟩ := regen _ hA; clear hA
      obtain ⟨w14, rfl⟩ : ∃ W : World, W = w' := ⟨_, rfl⟩
      obtain ⟨g7, o8, hA9⟩ := (H.frRd hj).addr he
      obtain ⟨cs, ⟨A, c, rfl, hRd⟩, hat, hg⟩ := (H.frRd hj).openAt hA9 he
      refine W_seq ?_
      refine W_seq ?_
      refine W_region ?_
      refine RL_pure (by exact wn0 rfl) (by rfl) (by rfl) (x_move (v := .int .i64 (n2 : Int)) (by rfl)) ?_
      refine RL_pure (by exact wn0 rfl) (by rfl) (by rfl) (x_fieldAddr fo79_1 (by rfl)) ?_
      refine RL_pure (by exact wn0 rfl) (by rfl) (by rfl) (x_load (j := 1) (v := .slice A5 uss.length cp5) sc77 (by rfl) (H.cells hb) (by rfl)) ?_
      refine RL_pure (by exact wn0 rfl) (by rfl) (by rfl) (x_move (v := .int .i64 (n : Int)) (by rfl)) ?_
      refine RL_pure (by exact wn0 rfl) (by rfl) (by rfl) (x_indexAddr sl77 sz87 (by rfl) (by rfl) hA9 (by omega) (by omega)) ?_
      refine RL_pure (by exact wn0 rfl) (by rfl) (by rfl) (x_load (j := 0) (v := .slice A el.length c) sc87 (by rfl) hat (by rfl)) ?_
      refine RL_pure (by exact wn0 rfl) (by rfl) (by rfl) (x_len sl87 (by rfl)) ?_
      refine RL_pure (by exact wn0 rfl) (by rfl) (by rfl) (x_lss (by rfl) (by rfl)) ?_
      refine RL_nil ?_
      refine W_cond (by rfl) (fun hb2 => ?_) (fun hb2 => ?_)
      ·have hlt2 : n2 < el.length := by have := of_decide_eq_true hb2; omega
       have he2 : el[((n2 : Nat) : Int).toNat]? = some el[n2] := by rw [Int.toNat_natCast]; exact List.getElem?_eq_getElem hlt2
       obtain ⟨g15, o16, hA17⟩ := hRd.addr he2
       obtain ⟨cs2, ⟨z1, z2, rfl⟩, hat2, hg2⟩ := hRd.openAt hA17 he2
       refine W_skip ?_
       refine W_seq ?_
       refine W_block ?_
       refine W_region ?_
       refine RL_pure (by exact wn0 rfl) (by rfl) (by rfl) (x_fieldAddr fo79_1 (by rfl)) ?_
       refine RL_pure (by exact wn0 rfl) (by rfl) (by rfl) (x_load (j := 1) (v := .slice A5 uss.length cp5) sc77 (by rfl) (H.cells hb) (by rfl)) ?_
       refine RL_pure (by exact wn0 rfl) (by rfl) (by rfl) (x_move (v := .int .i64 (n : Int)) (by rfl)) ?_
       refine RL_pure (by exact wn0 rfl) (by rfl) (by rfl) (x_indexAddr sl77 sz87 (by rfl) (by rfl) hA9 (by omega) (by omega)) ?_
       refine RL_pure (by exact wn0 rfl) (by rfl) (by rfl) (x_load (j := 0) (v := .slice A el.length c) sc87 (by rfl) hat (by rfl)) ?_
       refine RL_pure (by exact wn0 rfl) (by rfl) (by rfl) (x_move (v := .int .i64 (n2 : Int)) (by rfl)) ?_
       refine RL_pure (by exact wn0 rfl) (by rfl) (by rfl) (x_indexAddr sl87 sz81 (by rfl) (by rfl) hA17 (by omega) (by omega)) ?_
       refine RL_pure (by exact wn0 rfl) (by rfl) (by rfl) (x_fieldAddr fo81_1 (by rfl)) ?_
       refine RL_cons (O_storeNum (m := m) (by exact wn0 rfl) (by rfl) (by rfl) sz3 (hat2 1 _ (by rfl)) H hg2 h0 hR (fun w18 (H : Sep ok0 w0 w18 L1 Rs) => ?_))
       refine RL_nil ?_
       refine W_region ?_
       have hw1 : IntKind.i64.wrap ((n2 : Int) + 1) = ((n2 + 1 : Nat) : Int) := by rw [wrap_i64_in (by omega)]; push_cast; rfl
       refine RL_pure (by exact wn0 rfl) (by rfl) (by rfl) (x_move (v := .int .i64 (n2 : Int)) (by rfl)) ?_
       refine RL_pure (by exact wn0 rfl) (by rfl) (by rfl) (x_add (by rfl) (by rfl) hw1) ?_
       refine RL_pure (by exact wn0 rfl) (by rfl) (by rfl) (x_assign (v := .int .i64 ((n2 + 1 : Nat) : Int)) (by rfl)) ?_
       refine RL_nil ?_
       exact ⟨k2 - 1, by omega, n2 + 1, by omega, by omega, ⟨rfl, rfl, rfl, trivial⟩, H⟩
      ·refine W_exit ?_
       refine W_region ?_
       have hw1 : IntKind.i64.wrap ((n : Int) + 1) = ((n + 1 : Nat) : Int) := by rw [wrap_i64_in (by omega)]; push_cast; rfl
       refine RL_pure (by exact wn0 rfl) (by rfl) (by rfl) (x_move (v := .int .i64 (n : Int)) (by rfl)) ?_
       refine RL_pure (by exact wn0 rfl) (by rfl) (by rfl) (x_add (by rfl) (by rfl) hw1) ?_
       refine RL_pure (by exact wn0 rfl) (by rfl) (by rfl) (x_assign (v := .int .i64 ((n + 1 : Nat) : Int)) (by rfl)) ?_
       refine RL_nil ?_
       exact ⟨k - 1, by omega, n + 1, by omega, by omega, ⟨rfl, rfl, trivial⟩, H⟩
    ·refine W_exit ?_
     exact ⟨[], rfl, rfl, hback _ H⟩
end Go.Proofs.YtobkigllalbkiaaV.M
